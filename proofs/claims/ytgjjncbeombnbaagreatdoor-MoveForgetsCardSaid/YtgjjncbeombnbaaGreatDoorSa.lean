/-
  The program as a system of the abstract machine.
-/
import Derived.Test.YtgjjncbeombnbaaGreatDoorMf
import Derived.Test.YtgjjncbeombnbaaGreatDoorProg
import Derived.Test.YtgjjncbeombnbaaGreatDoorMd
set_option linter.all false
open List renaming length->I
set_option maxRecDepth 100000
noncomputable section
namespace Go.Abs
open Go.Proofs
def J1{α:Type}:List α->Nat->Option α
  | [],_ => none
  | a::l,n => match n with | 0 => some a | n+1 => J1 l n
def ac6{α:Type}:List (Nat×α)->Nat->Option α
  | [],_ => none
  | (k,a)::l,n => bif Nat.beq k n then some a else ac6 l n
noncomputable def alz(s:Nat)(o:Oper):r_ := match o.op with
  | .build t ps => (match Tryz.prog.underlying t,zp Tryz.prog t with | some (.struct fs),some z => ((Cs (λi => (J1 fs.toList i).map λf => (f.offset,Tryz.prog.cellsOf f.type)) (I z) ps.toList).map (.build z)).getD .bad | _,_ => JY Tryz.prog s o)
  | .binOp op t x y _ => (match Tryz.prog.underlying t,c8 x,c8 y with | some (.struct fs),some a,some b =>.eqc (.str (fs.toList.map λf => (Qz Tryz.prog f.type).getD false)) (match op with | .neq => true | _ => false) a b | _,_,_ => JY Tryz.prog s o)
  | _ => JY Tryz.prog s o
noncomputable def VV(a:aC)(j:Nat):List Edge->Nat->Nat
  | [],s => s
  | e::r,s => match (bif Region.binds .any e then Nat.lor (Nat.lor s (Nat.pow 2 e.on)) ((J1 a (j-1-e.on)).getD 0)else s)with | 0 => VV a j r 0 | m+1 => VV a j r (m+1)
noncomputable def agz(O:List Oper)(b s i:Nat)(o:Oper):kE := ⟨o.dst,alz ((s+i)*64) o,(match o.guard with | none => none | some (j,w) => (match J1 O j with | some x => (match x.dst with | some t => some (t,w) | none => none) | none => none)),b⟩
noncomputable def V6(d:Bool)(O:List Oper)(s:Nat):aC->Nat->List Oper->fm
  | _,_,[] => []
  | a,i,o::r => match (bif d then VV a i o.after.toList 0 else 0)with | 0 => agz O 0 s i o::V6 d O s (0::a) (i+1) r | m+1 => agz O (m+1) s i o::V6 d O s ((m+1)::a) (i+1) r
abbrev Ju(B:List (Nat×aQ))(p:Nat)(y:aQ):aQ := match ac6 B p with | some x => x | none => y
noncomputable def DA(f:Nat)(B:List (Nat×aQ)):Code->Nat->aQ
  | .region id O D,_ =>.region D (V6 D O.toList ((f*1000+id)*1000) [] 0 O.toList)
  | .seq a b,p =>.seq (Ju B (2*p) (DA f B a (2*p))) (Ju B (2*p+1) (DA f B b (2*p+1)))
  | .cond c a b,p => match c8 c with | some c =>.cond c (Ju B (2*p) (DA f B a (2*p))) (Ju B (2*p+1) (DA f B b (2*p+1))) | none =>.bad
  | .block i c,p =>.block i (Ju B (2*p) (DA f B c (2*p)))
  | .loop c,p =>.loop (Ju B (2*p) (DA f B c (2*p)))
  | .exit i,_ =>.exit i
  | .scope c,p => DA f B c p
  | .ret,_ =>.ret
  | .label _,_ =>.skip
  | .skip,_ =>.skip
  | _,_ =>.bad
noncomputable def Sd(f:Nat)(B:List (Nat×aQ)):aV := match J1 Tryz.prog.funcs.toList f with
  | some fn => (match fn.body with | some c => ⟨fn.ntmps,(A8 Tryz.prog fn.results.toList).getD [],DA f B c 1⟩ | none => ⟨0,[],.bad⟩)
  | none => ⟨0,[],.bad⟩
noncomputable def qY:aQ->Nat->aQ
  | .seq a b,q => bif Nat.beq q 1 then .seq a b else bif Nat.beq (q%2) 0 then qY a (q/2)else qY b (q/2)
  | .cond x a b,q => bif Nat.beq q 1 then .cond x a b else bif Nat.beq (q%2) 0 then qY a (q/2)else qY b (q/2)
  | .block i a,q => bif Nat.beq q 1 then .block i a else qY a (q/2)
  | .loop a,q => bif Nat.beq q 1 then .loop a else qY a (q/2)
  | c,_ => c
abbrev Nj(f:Nat)(B:List (Nat×aQ))(q:Nat):aQ := qY (Sd f B).body q
def e_(n:Nat){g:aV}(_:Sd n []=g := by conv => lhs; reduce; try simp only [Int.reduceOfNat,Int.reduceNegSucc]):aV := g
def BQ(n f:Nat)(y:aQ){g:aQ->aV}(_:(λx => Sd n [(f,x)])=g := by conv => lhs; reduce; try simp only [Int.reduceOfNat,Int.reduceNegSucc]):aV := g y
def fK(n h f:Nat)(y Y:aQ){g:aQ->aQ->aV}(_:(λx X => Sd n [(h,x),(f,X)])=g := by conv => lhs; reduce; try simp only [Int.reduceOfNat,Int.reduceNegSucc]):aV := g y Y
def bK(n q:Nat){g:aQ}(_:Nj n [] q=g := by conv => lhs; reduce; try simp only [Int.reduceOfNat,Int.reduceNegSucc]):aQ := g
def aaw(n q f:Nat)(y:aQ){g:aQ->aQ}(_:(λx => Nj n [(f,x)] q)=g := by conv => lhs; reduce; try simp only [Int.reduceOfNat,Int.reduceNegSucc]):aQ := g y
def vD(n q h f:Nat)(y Y:aQ){g:aQ->aQ->aQ}(_:(λx X => Nj n [(h,x),(f,X)] q)=g := by conv => lhs; reduce; try simp only [Int.reduceOfNat,Int.reduceNegSucc]):aQ := g y Y
def Ex(n q h f j:Nat)(y m Y:aQ){g:aQ->aQ->aQ->aQ}(_:(λx X u => Nj n [(h,x),(f,X),(j,u)] q)=g := by conv => lhs; reduce; try simp only [Int.reduceOfNat,Int.reduceNegSucc]):aQ := g y m Y
def abf(n q z j m f h:Nat)(v y D A Y:aQ){g:aQ->aQ->aQ->aQ->aQ->aQ}(_:(λx B u X x4 => Nj n [(z,x),(j,B),(m,u),(f,X),(h,x4)] q)=g := by conv => lhs; reduce; try simp only [Int.reduceOfNat,Int.reduceNegSucc]):aQ := g v y D A Y
attribute [go_sem] e_ BQ fK bK aaw vD Ex abf
def Jj:aV:=e_ 21
def Xu:aQ:=bK 48 75
def ahE:aQ:=bK 48 15
def ad8:aV:=fK 48 116 15 Xu ahE
def Xr:aQ:=bK 42 75
def ab2:aQ:=bK 42 15
def ab1:aV:=fK 42 116 15 Xr ab2
def aiq:aV:=e_ 43
def agh:aV:=e_ 80
def yR:aV:=e_ 120
def W4:aV:=e_ 81
def R2:aQ:=bK 82 607
def Vi:aQ:=bK 82 4863
def Fc:aQ:=bK 82 38911
def afj:aQ:=bK 82 8191
def Ur:aQ:=vD 82 1023 65524 8191 Fc afj
def WS:aQ:=vD 82 127 8180 1023 Vi Ur
def aeN:aV:=fK 82 1012 127 R2 WS
def yP:aQ:=bK 83 303
def adg:aQ:=bK 83 63
def Vx:aV:=fK 83 500 63 yP adg
def Qg:aQ:=bK 84 324399
def YF:aQ:=bK 84 3887
def Q5:aQ:=vD 84 303 512828 4007 Qg YF
def acn:aQ:=bK 84 63
def ajA:aV:=fK 84 500 63 Q5 acn
def BI:aQ:=bK 49 75
def Y4:aQ:=bK 49 15
def Tz:aV:=fK 49 116 15 BI Y4
def La:aV:=e_ 99
def aeT:aV:=e_ 136
def aeX:aV:=e_ 135
def aaV:aV:=e_ 119
def RB:aQ:=bK 145 37
def afQ:aQ:=bK 145 7
def afA:aV:=fK 145 52 7 RB afQ
def Al:aV:=e_ 13
def V3:aQ:=bK 30 75
def adn:aQ:=bK 30 15
def aaa:aV:=fK 30 116 15 V3 adn
def aaO:aV:=e_ 33
def T5:aQ:=bK 29 75
def ajx:aQ:=bK 29 15
def aeJ:aV:=fK 29 116 15 T5 ajx
def Su:aQ:=bK 57 75
def aiJ:aQ:=bK 57 15
def aaN:aV:=fK 57 116 15 Su aiJ
def Xj:aQ:=bK 54 75
def aeI:aQ:=bK 54 15
def aiM:aV:=fK 54 116 15 Xj aeI
def wA:aQ:=bK 31 19237
def Yq:aQ:=bK 31 3877
def agT:aQ:=bK 31 229
def UF:aQ:=Ex 31 37 26932 3367 211 wA Yq agT
def aff:aQ:=bK 31 7
def ahR:aV:=fK 31 52 7 UF aff
def PJ:aQ:=bK 58 75
def abW:aQ:=bK 58 15
def acM:aV:=fK 58 116 15 PJ abW
def JF:aQ:=bK 95 37
def ae1:aQ:=bK 95 7
def afX:aV:=fK 95 52 7 JF ae1
def PF:aV:=e_ 93
def MU:aQ:=bK 59 17995
def Ff:aQ:=bK 59 7755
def TP:aQ:=bK 59 459
def MP:aQ:=Ex 59 75 29848 7463 467 MU Ff TP
def Ua:aQ:=bK 59 15
def abD:aV:=fK 59 116 15 MP Ua
def IN:aQ:=bK 89 37
def aaG:aQ:=bK 89 7
def YZ:aV:=fK 89 52 7 IN aaG
def Ut:aV:=e_ 94
def NX:aV:=e_ 60
def Kl:aQ:=bK 32 153903
def V5:aQ:=bK 32 31023
def Sq:aQ:=bK 32 1839
def SG:aQ:=Ex 32 303 256308 32039 2003 Kl V5 Sq
def afr:aQ:=bK 32 63
def aiI:aV:=fK 32 500 63 SG afr
def Lx:aQ:=bK 41 1215
def Y0:aQ:=bK 41 255
def V2:aV:=fK 41 2036 255 Lx Y0
def Lr:aQ:=bK 19 607
def W9:aQ:=bK 19 314559
def agI:aQ:=bK 19 15551
def Ok:aQ:=vD 19 1215 521420 16295 W9 agI
def Ow:aQ:=bK 19 255
def Qx:aQ:=vD 19 127 2036 255 Ok Ow
def Wy:aV:=fK 19 1012 127 Lr Qx
def RE:aV:=e_ 7
def TD:aV:=e_ 24
def P3:aQ:=bK 18 75
def agP:aQ:=bK 18 15
def aic:aV:=fK 18 116 15 P3 agP
def aqu:aQ:=bK 15 151
def aoD:aQ:=bK 15 31
def aAu:aV:=fK 15 244 31 aqu aoD
def Sj:aQ:=bK 27 75
def aa4:aQ:=bK 27 15
def VC:aV:=fK 27 116 15 Sj aa4
def i4:aV:=e_ 4
def i20:aV:=e_ 20
def EG:aQ:=bK 50 19607
def GL:aQ:=bK 50 919
def H8:aQ:=vD 50 151 31308 979 EG GL
def Tb:aQ:=bK 50 31
def XE:aV:=fK 50 244 31 H8 Tb
def aaS:aV:=e_ 12
def ac8:aV:=e_ 22
def adi:aV:=e_ 88
def Nk:aV:=e_ 44
def age:aV:=e_ 45
def i46:aV:=e_ 46
def Qv:aQ:=bK 47 151
def Zk:aQ:=bK 47 31
def Xb:aV:=fK 47 244 31 Qv Zk
def Ma:aQ:=bK 90 37
def aij:aQ:=bK 90 7
def acy:aV:=fK 90 52 7 Ma aij
def Xm:aV:=e_ 85
def Um:aQ:=bK 86 599
def YH:aQ:=bK 86 4895535
def Ro:aQ:=bK 86 10400559
def ajf:aQ:=aaw 86 963375 16410300 Ro
def Us:aQ:=bK 86 4961071
def Q3:aQ:=bK 86 5153731375
def ajp:aQ:=bK 86 254784303
def Zt:aQ:=vD 86 19903279 8402105548 262565799 Q3 ajp
def DD:aQ:=bK 86 3887
def u_:aQ:=abf 86 303 8205140 1025643 8205172 32820724 4007 YH ajf Us Zt DD
def EF:aQ:=bK 86 63
def DQ:aQ:=vD 86 31 500 63 u_ EF
def D4:aV:=fK 86 980 31 Um DQ
def I3:aQ:=bK 28 19607
def afe:aQ:=bK 28 919
def ahF:aQ:=vD 28 151 31308 979 I3 afe
def abY:aQ:=bK 28 31
def afU:aV:=fK 28 244 31 ahF abY
def J9:aQ:=bK 66 151
def TW:aQ:=bK 66 31
def Vg:aV:=fK 66 244 31 J9 TW
def J0:aQ:=bK 67 303
def abE:aQ:=bK 67 63
def ah1:aV:=fK 67 500 63 J0 abE
def YJ:aV:=e_ 68
def C8:aV:=e_ 69
def Fy:aQ:=bK 70 607
def Xz:aQ:=bK 70 127
def UL:aV:=fK 70 1012 127 Fy Xz
def TF:aQ:=bK 71 2431
def adN:aQ:=bK 71 511
def E3:aV:=fK 71 4084 511 TF adN
def MA:aV:=e_ 72
def ag4:aV:=e_ 73
def afB:aV:=e_ 74
def ZX:aV:=e_ 75
def Mn:aQ:=bK 76 303
def ahe:aQ:=bK 76 63
def ZI:aV:=fK 76 500 63 Mn ahe
def Bx:aV:=e_ 77
def PX:aQ:=bK 78 37
def acs:aQ:=bK 78 7
def aik:aV:=fK 78 52 7 PX acs
def Uo:aV:=e_ 79
def QJ:aQ:=bK 121 37
def ajh:aQ:=bK 121 7
def ahc:aV:=fK 121 52 7 QJ ajh
def aAs:aV:=e_ 122
def Lg:aQ:=bK 124 76363
def aby:aQ:=bK 124 14923
def YQ:aQ:=bK 124 459
def MG:aQ:=Ex 124 75 119380 14923 467 Lg aby YQ
def acW:aQ:=bK 124 15
def S_:aV:=fK 124 116 15 MG acW
def K5:aQ:=bK 125 309655
def aiB:aQ:=bK 125 63895
def C6:aQ:=bK 125 1943
def UU:aQ:=Ex 125 151 501364 62671 1959 K5 aiB C6
def aer:aQ:=bK 125 31
def adJ:aV:=fK 125 244 31 UU aer
def Ja:aQ:=bK 52 151
def Vd:aQ:=bK 52 31
def Xl:aV:=fK 52 244 31 Ja Vd
def XL:aQ:=bK 53 151
def abP:aQ:=bK 53 31
def i53:aV:=fK 53 244 31 XL abP
def acd:aV:=e_ 55
def Rn:aQ:=bK 56 37
def ade:aQ:=bK 56 7
def aeu:aV:=fK 56 52 7 Rn ade
def RG:aV:=e_ 100
def Qy:aQ:=bK 101 9
def Tp:aV:=BQ 101 12 Qy
def Sk:aQ:=bK 102 9
def T3:aV:=BQ 102 12 Sk
def aiK:aV:=e_ 103
def E9:aQ:=bK 104 75
def Zq:aQ:=bK 104 15
def Wd:aV:=fK 104 116 15 E9 Zq
def F6:aQ:=bK 106 9
def TM:aV:=BQ 106 12 F6
def YM:aV:=e_ 105
def Ts:aV:=e_ 107
def aaT:aV:=e_ 108
def aeQ:aV:=e_ 109
def PD:aV:=e_ 110
def ad6:aV:=e_ 111
def QL:aQ:=bK 112 40139
def V7:aQ:=bK 112 971
def Nr:aQ:=vD 112 75 59804 935 QL V7
def Zs:aQ:=bK 112 15
def aib:aV:=fK 112 116 15 Nr Zs
def aeU:aV:=e_ 113
def IG:aV:=e_ 114
def OI:aQ:=bK 115 9
def Yz:aV:=BQ 115 12 OI
def ahh:aV:=e_ 116
def Rk:aQ:=bK 117 76363
def adB:aQ:=bK 117 14923
def afh:aQ:=bK 117 459
def OF:aQ:=Ex 117 75 119380 14923 467 Rk adB afh
def aca:aQ:=bK 117 15
def U9:aV:=fK 117 116 15 OF aca
def Xp:aQ:=bK 118 75
def acV:aQ:=bK 118 15
def afL:aV:=fK 118 116 15 Xp acV
def ai2:aV:=e_ 147
def Yu:aV:=e_ 148
def V4:aV:=e_ 149
def aiG:aV:=e_ 92
def N4:aQ:=bK 91 37
def ait:aQ:=bK 91 7
def adE:aV:=fK 91 52 7 N4 ait
def YA:aQ:=bK 137 17
def agY:aQ:=bK 137 7
def ac3:aV:=fK 137 24 7 YA agY
def Mq:aQ:=bK 138 37
def adk:aQ:=bK 138 7
def aew:aV:=fK 138 52 7 Mq adk
def SS:aV:=e_ 139
def J_:aQ:=bK 140 154007
def Tq:aQ:=bK 140 31127
def aaX:aQ:=bK 140 1943
def TX:aQ:=Ex 140 151 250676 31335 1959 J_ Tq aaX
def adj:aQ:=bK 140 31
def Rh:aV:=fK 140 244 31 TX adj
def Ub:aV:=e_ 141
def ajJ:aQ:=bK 143 19
def ab9:aV:=BQ 143 28 ajJ
def Q4:aQ:=bK 176 37
def aeV:aQ:=bK 176 7
def aju:aV:=fK 176 52 7 Q4 aeV
def Zu:aQ:=bK 177 19
def UD:aV:=BQ 177 28 Zu
def Jg:aQ:=bK 156 37
def VT:aQ:=bK 156 7
def WK:aV:=fK 156 52 7 Jg VT
def WA:aV:=e_ 142
def Qb:aQ:=bK 158 585
def OH:aQ:=bK 158 57
def U0:aQ:=vD 158 9 804 51 Qb OH
def ai6:aV:=BQ 158 12 U0
def aaY:aV:=e_ 164
def S3:aQ:=bK 189 585
def Pv:aQ:=bK 189 57
def Pq:aQ:=vD 189 9 804 51 S3 Pv
def YO:aV:=BQ 189 12 Pq
def Pd:aQ:=bK 157 37
def ae0:aQ:=bK 157 7
def ai9:aV:=fK 157 52 7 Pd ae0
def abX:aV:=e_ 185
def Nc:aQ:=bK 3 77823
def WW:aQ:=bK 3 16383
def i3:aV:=fK 3 131060 16383 Nc WW
end Go.Abs
end
namespace Go.Abs
open Go.Proofs
def Ip:aC->Nat->Bool
 |[],_=>false
 |a::r,n=>bif Nat.beq a n then true else Ip r n
def aa3:List (Nat×aC)->Nat->aC
 |[],_=>[]
 |(a,l)::r,n=>bif Nat.beq a n then l else aa3 r n
def apS:aC:=[49,67,82,83,101,102,106,115,116,117,122,124,137,143,146,148,158,159,160,161,162,163,165,166,168,169,170,171,172,173,174,175,177,180,182,183,184,186,187,188,189,190,191,192,193,194,195,196,197,198,199,200,201,202]
def alw:List (Nat×aC):=[(49,[49,82,83]),(67,[67,101,102]),(82,[82]),(83,[83]),(101,[101]),(102,[102]),(106,[106]),(115,[115]),(116,[116,143,158,159,160,161,162,163,165,166,180,182,183,184,197]),(117,[117]),(122,[122,146,168,169,170,171,172,173,174,175,182,186,187,188,198]),(124,[124]),(137,[137]),(143,[143,158,159,160,161,162,163,165,166,180,182,183,184,197]),(146,[146,168,169,170,171,172,173,174,175,182,186,187,188,198]),(148,[148,177,182,189,190,191,192,193,194,195,196,199,200,201,202]),(158,[158]),(159,[159,180]),(160,[160,182]),(161,[161,183,184,197]),(162,[162]),(163,[163]),(165,[165]),(166,[166]),(168,[168]),(169,[169,186]),(170,[170,182]),(171,[171,187,188,198]),(172,[172]),(173,[173]),(174,[174]),(175,[175]),(177,[177,182,189,190,191,192,193,194,195,196,199,200,201,202]),(180,[180]),(182,[182]),(183,[183,184,197]),(184,[184,197]),(186,[186]),(187,[187,188,198]),(188,[188,198]),(189,[189]),(190,[190,199]),(191,[182,191]),(192,[192,200,201,202]),(193,[193]),(194,[194]),(195,[195]),(196,[196]),(197,[197]),(198,[198]),(199,[199]),(200,[200,201,202]),(201,[201,202]),(202,[202])]
def ay5:aC:=[28,3,10,12,56]
def XQ(f:Nat)(A:dC):Option (Option RV):=
 bif Nat.beq f 38 then some (Xi A)
 else bif Nat.beq f 40 then some (UK A)
 else bif Nat.beq f 144 then some (SN A)
 else bif Ip [22,108] f then S5 A
 else none
noncomputable def S:Sys:={P:=Tryz.prog,shared:=Ip apS,sites:=aa3 alw,lone:=λs=>Ip ay5 (s/64000000),fns:=DF Tryz.prog,prim:=XQ,trig:=QN 122 123,primS:=λ_=>Bj mS}
abbrev c7(n:Nat):Prop:=S.shared n=false
def aph:S.fns 21=some Jj:=ah
def J3:c7 21:=rfl
def apu:S.fns 48=some ad8:=ah
def Gg:c7 48:=rfl
def ay8:S.fns 42=some ab1:=ah
def Th:c7 42:=rfl
def ash:S.fns 43=some aiq:=ah
def aal:c7 43:=rfl
def azV:S.fns 80=some agh:=ah
def auo:c7 80:=rfl
def an0:S.fns 120=some yR:=ah
def M9:c7 120:=rfl
def arK:S.fns 81=some W4:=ah
def arb:c7 81:=rfl
def apU:S.fns 82=some aeN:=ah
def apJ:S.fns 83=some Vx:=ah
def auU:S.fns 84=some ajA:=ah
def anI:c7 84:=rfl
def awZ:S.fns 49=some Tz:=ah
def abK:S.fns 99=some La:=ah
def X7:c7 99:=rfl
def apr:S.fns 136=some aeT:=ah
def UQ:c7 136:=rfl
def asJ:S.fns 135=some aeX:=ah
def Yp:c7 135:=rfl
def an1:S.fns 119=some aaV:=ah
def asD:c7 119:=rfl
def avI:S.fns 145=some afA:=ah
def ano:c7 145:=rfl
def al7:S.fns 13=some Al:=ah
def avX:c7 13:=rfl
def aul:S.fns 30=some aaa:=ah
def Pp:c7 30:=rfl
def alQ:S.fns 33=some aaO:=ah
def ays:c7 33:=rfl
def aoX:S.fns 29=some aeJ:=ah
def zT:c7 29:=rfl
def ayF:S.fns 57=some aaN:=ah
def ako:c7 57:=rfl
def arj:S.fns 54=some aiM:=ah
def Jo:c7 54:=rfl
def apW:S.fns 31=some ahR:=ah
def ad3:c7 31:=rfl
def at5:S.fns 58=some acM:=ah
def amr:c7 58:=rfl
def aks:S.fns 95=some afX:=ah
def aqp:c7 95:=rfl
def aqf:S.fns 93=some PF:=ah
def abF:c7 93:=rfl
def alR:S.fns 59=some abD:=ah
def ama:c7 59:=rfl
def ac9:S.fns 89=some YZ:=ah
def OV:c7 89:=rfl
def arx:S.fns 94=some Ut:=ah
def UP:c7 94:=rfl
def abG:S.fns 60=some NX:=ah
def abO:c7 60:=rfl
def azs:S.fns 32=some aiI:=ah
def ax0:c7 32:=rfl
def aai:S.fns 41=some V2:=ah
def ahA:c7 41:=rfl
def adv:S.fns 19=some Wy:=ah
def KU:c7 19:=rfl
def CN:S.fns 7=some RE:=ah
def Ob:c7 7:=rfl
def ac0:S.fns 24=some TD:=ah
def aat:c7 24:=rfl
def awJ:S.fns 18=some aic:=ah
def Qf:c7 18:=rfl
def aak:S.fns 27=some VC:=ah
def am8:c7 27:=rfl
def c4:S.fns 4=some i4:=ah
def xz:c7 4:=rfl
def Yo:S.fns 20=some i20:=ah
def Ji:c7 20:=rfl
def ab5:S.fns 50=some XE:=ah
def aa8:c7 50:=rfl
def Is:S.fns 12=some aaS:=ah
def YV:c7 12:=rfl
def ap9:S.fns 22=some ac8:=ah
def aiz:c7 22:=rfl
def ao0:S.fns 88=some adi:=ah
def T9:c7 88:=rfl
def RA:S.fns 44=some Nk:=ah
def Zp:c7 44:=rfl
def atf:S.fns 45=some age:=ah
def aan:c7 45:=rfl
def ayU:S.fns 46=some i46:=ah
def JQ:c7 46:=rfl
def arB:S.fns 47=some Xb:=ah
def adm:c7 47:=rfl
def atn:S.fns 90=some acy:=ah
def apn:c7 90:=rfl
def auD:S.fns 85=some Xm:=ah
def YE:c7 85:=rfl
def Gz:S.fns 86=some D4:=ah
def aaQ:c7 86:=rfl
def ats:S.fns 28=some afU:=ah
def alG:c7 28:=rfl
def ajB:S.fns 66=some Vg:=ah
def afl:c7 66:=rfl
def apD:S.fns 67=some ah1:=ah
def apF:S.fns 68=some YJ:=ah
def I6:c7 68:=rfl
def axJ:S.fns 69=some C8:=ah
def acH:S.fns 70=some UL:=ah
def avn:c7 70:=rfl
def aj5:S.fns 71=some E3:=ah
def amv:S.fns 72=some MA:=ah
def azr:S.fns 73=some ag4:=ah
def akw:S.fns 74=some afB:=ah
def aoS:S.fns 75=some ZX:=ah
def av2:S.fns 76=some ZI:=ah
def aiC:S.fns 77=some Bx:=ah
def apf:S.fns 78=some aik:=ah
def abN:c7 78:=rfl
def axp:S.fns 79=some Uo:=ah
def aey:c7 79:=rfl
def arM:S.fns 121=some ahc:=ah
def aaD:c7 121:=rfl
def ayt:S.shared 122:=ah
def afn:S.fns 124=some S_:=ah
def ahq:S.shared 124:=ah
def avg:S.fns 125=some adJ:=ah
def T7:c7 125:=rfl
def ach:S.fns 52=some Xl:=ah
def acE:c7 52:=rfl
def azW:S.fns 53=some i53:=ah
def am4:c7 53:=rfl
def alY:S.fns 55=some acd:=ah
def axm:c7 55:=rfl
def ayN:S.fns 56=some aeu:=ah
def apZ:c7 56:=rfl
def atF:S.fns 100=some RG:=ah
def axQ:c7 100:=rfl
def amX:S.fns 101=some Tp:=ah
def aqY:S.fns 102=some T3:=ah
def axo:S.fns 103=some aiK:=ah
def mU:c7 103:=rfl
def ad9:S.fns 104=some Wd:=ah
def XX:c7 104:=rfl
def auu:S.fns 106=some TM:=ah
def auM:S.fns 105=some YM:=ah
def acg:c7 105:=rfl
def aq1:S.fns 107=some Ts:=ah
def UI:c7 107:=rfl
def aoW:S.fns 108=some aaT:=ah
def EB:c7 108:=rfl
def apv:S.fns 109=some aeQ:=ah
def Fb:c7 109:=rfl
def arC:S.fns 110=some PD:=ah
def Jr:c7 110:=rfl
def al9:S.fns 111=some ad6:=ah
def LB:c7 111:=rfl
def akk:S.fns 112=some aib:=ah
def ajy:c7 112:=rfl
def arT:S.fns 113=some aeU:=ah
def US:c7 113:=rfl
def asr:S.fns 114=some IG:=ah
def I7:c7 114:=rfl
def auN:S.fns 115=some Yz:=ah
def azj:S.fns 116=some ahh:=ah
def alC:S.fns 117=some U9:=ah
def atv:S.fns 118=some afL:=ah
def awt:c7 118:=rfl
def auG:S.fns 147=some ai2:=ah
def aaq:S.fns 148=some Yu:=ah
def afM:S.fns 149=some V4:=ah
def aoT:S.fns 92=some aiG:=ah
def ak4:c7 92:=rfl
def as0:S.fns 91=some adE:=ah
def azE:c7 91:=rfl
def avd:S.fns 137=some ac3:=ah
def aqZ:S.fns 138=some aew:=ah
def acU:c7 138:=rfl
def aid:S.fns 139=some SS:=ah
def agb:c7 139:=rfl
def alZ:S.fns 140=some Rh:=ah
def awa:c7 140:=rfl
def aut:S.fns 141=some Ub:=ah
def awf:c7 141:=rfl
def axu:S.fns 143=some ab9:=ah
def apQ:S.shared 143:=ah
def axM:S.fns 176=some aju:=ah
def au6:c7 176:=rfl
def ado:S.fns 177=some UD:=ah
def ab6:S.shared 177:=ah
def ain:S.fns 156=some WK:=ah
def Tm:c7 156:=rfl
def ap1:S.fns 142=some WA:=ah
def amP:c7 142:=rfl
def ap5:S.fns 158=some ai6:=ah
def ard:S.shared 158:=ah
def apM:S.fns 164=some aaY:=ah
def afu:c7 164:=rfl
def ai1:S.fns 189=some YO:=ah
def agC:S.shared 189:=ah
def asV:S.fns 157=some ai9:=ah
def aio:c7 157:=rfl
def as4:S.fns 185=some abX:=ah
def aoI:c7 185:=rfl
def c3:S.fns 3=some i3:=ah
def uY:c7 3:=rfl
noncomputable section
def F9:aQ:=bK 8 607
def Vn:aQ:=bK 8 127
def Tf:aV:=fK 8 1012 127 F9 Vn
def Sm:aQ:=bK 25 303
def agZ:aQ:=bK 25 63
def aep:aV:=fK 25 500 63 Sm agZ
def WU:aQ:=bK 10 75
def amp:aQ:=bK 10 15
def ajI:aV:=fK 10 116 15 WU amp
def MQ:aV:=e_ 6
def afS:aV:=e_ 11
def UH:aV:=e_ 87
def SQ:aQ:=bK 26 78639
def abu:aQ:=bK 26 3887
def YG:aQ:=vD 26 303 128204 4007 SQ abu
def ahG:aQ:=bK 26 63
def acO:aV:=fK 26 500 63 YG ahG
def i51:aV:=e_ 51
def ajs:aV:=e_ 126
def acI:aV:=e_ 127
def aet:aV:=e_ 150
def i9:aV:=e_ 9
def acJ:aV:=e_ 23
def U5:aQ:=bK 128 151
def aia:aQ:=bK 128 31
def ahr:aV:=fK 128 244 31 U5 aia
end
def IJ:S.fns 8=some Tf:=ah
def ab4:c7 8:=rfl
def ak7:S.fns 25=some aep:=ah
def arX:c7 25:=rfl
def SH:c7 5:=rfl
def axz:S.fns 10=some ajI:=ah
def abC:c7 10:=rfl
def c6:S.fns 6=some MQ:=ah
def Y8:c7 6:=rfl
def avf:S.fns 11=some afS:=ah
def akh:c7 11:=rfl
def aao:S.fns 87=some UH:=ah
def aui:c7 87:=rfl
def akQ:S.fns 26=some acO:=ah
def apc:c7 26:=rfl
def awL:S.fns 51=some i51:=ah
def ane:c7 51:=rfl
def aoG:S.fns 126=some ajs:=ah
def afW:c7 126:=rfl
def axw:S.fns 127=some acI:=ah
def adf:c7 127:=rfl
def anP:S.fns 150=some aet:=ah
def akr:c7 150:=rfl
def ayE:S.fns 9=some i9:=ah
def adl:c7 9:=rfl
def azA:S.fns 23=some acJ:=ah
def afC:c7 23:=rfl
def aqT:S.fns 128=some ahr:=ah
def alo:c7 128:=rfl
end Go.Abs
