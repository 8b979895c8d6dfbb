/-
  The program as a system of the abstract machine.
-/
import Derived.Test.YtenindeoffokoaaGreatDoorMf
import Derived.Test.YtenindeoffokoaaGreatDoorProg
import Derived.Test.YtenindeoffokoaaGreatDoorMd
set_option linter.all false
open List renaming length->I
set_option maxRecDepth 100000
noncomputable section
namespace Go.Abs
open Go.Proofs
def Mb{α:Type}:List α->Nat->Option α
  | [],_ => none
  | a::l,n => match n with | 0 => some a | n+1 => Mb l n
def af5{α:Type}:List (Nat×α)->Nat->Option α
  | [],_ => none
  | (k,a)::l,n => bif Nat.beq k n then some a else af5 l n
noncomputable def aoH(s:Nat)(o:Oper):sJ := match o.op with
  | .build t ps => (match Tryz.prog.underlying t,AS Tryz.prog t with | some (.struct fs),some z => ((DI (λi => (Mb fs.toList i).map λf => (f.offset,Tryz.prog.cellsOf f.type)) (I z) ps.toList).map (.build z)).getD .bad | _,_ => IH Tryz.prog s o)
  | .binOp op t x y _ => (match Tryz.prog.underlying t,dA x,dA y with | some (.struct fs),some a,some b =>.eqc (.str (fs.toList.map λf => (Sj Tryz.prog f.type).getD false)) (match op with | .neq => true | _ => false) a b | _,_,_ => IH Tryz.prog s o)
  | _ => IH Tryz.prog s o
noncomputable def YM(a:aG)(j:Nat):List Edge->Nat->Nat
  | [],s => s
  | e::r,s => match (bif Region.binds .any e then Nat.lor (Nat.lor s (Nat.pow 2 e.on)) ((Mb a (j-1-e.on)).getD 0)else s)with | 0 => YM a j r 0 | m+1 => YM a j r (m+1)
noncomputable def ajx(O:List Oper)(b s i:Nat)(o:Oper):lI := ⟨o.dst,aoH ((s+i)*64) o,(match o.guard with | none => none | some (j,w) => (match Mb O j with | some x => (match x.dst with | some t => some (t,w) | none => none) | none => none)),b⟩
noncomputable def WK(d:Bool)(O:List Oper)(s:Nat):aG->Nat->List Oper->fV
  | _,_,[] => []
  | a,i,o::r => match (bif d then YM a i o.after.toList 0 else 0)with | 0 => ajx O 0 s i o::WK d O s (0::a) (i+1) r | m+1 => ajx O (m+1) s i o::WK d O s ((m+1)::a) (i+1) r
abbrev Lb(B:List (Nat×aR))(p:Nat)(y:aR):aR := match af5 B p with | some x => x | none => y
noncomputable def Ff(f:Nat)(B:List (Nat×aR)):Code->Nat->aR
  | .region id O D,_ =>.region D (WK D O.toList ((f*1000+id)*1000) [] 0 O.toList)
  | .seq a b,p =>.seq (Lb B (2*p) (Ff f B a (2*p))) (Lb B (2*p+1) (Ff f B b (2*p+1)))
  | .cond c a b,p => match dA c with | some c =>.cond c (Lb B (2*p) (Ff f B a (2*p))) (Lb B (2*p+1) (Ff f B b (2*p+1))) | none =>.bad
  | .block i c,p =>.block i (Lb B (2*p) (Ff f B c (2*p)))
  | .loop c,p =>.loop (Lb B (2*p) (Ff f B c (2*p)))
  | .exit i,_ =>.exit i
  | .scope c,p => Ff f B c p
  | .ret,_ =>.ret
  | .label _,_ =>.skip
  | .skip,_ =>.skip
  | _,_ =>.bad
noncomputable def U3(f:Nat)(B:List (Nat×aR)):aZ := match Mb Tryz.prog.funcs.toList f with
  | some fn => (match fn.body with | some c => ⟨fn.ntmps,(Ce Tryz.prog fn.results.toList).getD [],Ff f B c 1⟩ | none => ⟨0,[],.bad⟩)
  | none => ⟨0,[],.bad⟩
noncomputable def qi:aR->Nat->aR
  | .seq a b,q => bif Nat.beq q 1 then .seq a b else bif Nat.beq (q%2) 0 then qi a (q/2)else qi b (q/2)
  | .cond x a b,q => bif Nat.beq q 1 then .cond x a b else bif Nat.beq (q%2) 0 then qi a (q/2)else qi b (q/2)
  | .block i a,q => bif Nat.beq q 1 then .block i a else qi a (q/2)
  | .loop a,q => bif Nat.beq q 1 then .loop a else qi a (q/2)
  | c,_ => c
abbrev PT(f:Nat)(B:List (Nat×aR))(q:Nat):aR := qi (U3 f B).body q
def fI(n:Nat){g:aZ}(_:U3 n []=g := by conv => lhs; reduce; try simp only [Int.reduceOfNat,Int.reduceNegSucc]):aZ := g
def B0(n f:Nat)(y:aR){g:aR->aZ}(_:(λx => U3 n [(f,x)])=g := by conv => lhs; reduce; try simp only [Int.reduceOfNat,Int.reduceNegSucc]):aZ := g y
def fY(n h f:Nat)(y Y:aR){g:aR->aR->aZ}(_:(λx X => U3 n [(h,x),(f,X)])=g := by conv => lhs; reduce; try simp only [Int.reduceOfNat,Int.reduceNegSucc]):aZ := g y Y
def bN(n q:Nat){g:aR}(_:PT n [] q=g := by conv => lhs; reduce; try simp only [Int.reduceOfNat,Int.reduceNegSucc]):aR := g
def adA(n q f:Nat)(y:aR){g:aR->aR}(_:(λx => PT n [(f,x)] q)=g := by conv => lhs; reduce; try simp only [Int.reduceOfNat,Int.reduceNegSucc]):aR := g y
def u_(n q h f:Nat)(y Y:aR){g:aR->aR->aR}(_:(λx X => PT n [(h,x),(f,X)] q)=g := by conv => lhs; reduce; try simp only [Int.reduceOfNat,Int.reduceNegSucc]):aR := g y Y
def FW(n q h f j:Nat)(y m Y:aR){g:aR->aR->aR->aR}(_:(λx X u => PT n [(h,x),(f,X),(j,u)] q)=g := by conv => lhs; reduce; try simp only [Int.reduceOfNat,Int.reduceNegSucc]):aR := g y m Y
def aee(n q z j m f h:Nat)(v y D A Y:aR){g:aR->aR->aR->aR->aR->aR}(_:(λx B u X x4 => PT n [(z,x),(j,B),(m,u),(f,X),(h,x4)] q)=g := by conv => lhs; reduce; try simp only [Int.reduceOfNat,Int.reduceNegSucc]):aR := g v y D A Y
attribute [go_sem] fI B0 fY bN adA u_ FW aee
def VX:aZ:=fI 8
def JR:aZ:=fI 22
def aaK:aR:=bN 46 75
def amG:aR:=bN 46 15
def i46:aZ:=fY 46 116 15 aaK amG
def XY:aR:=bN 40 75
def ajw:aR:=bN 40 15
def akJ:aZ:=fY 40 116 15 XY ajw
def ahe:aZ:=fI 41
def aji:aZ:=fI 80
def yN:aZ:=fI 123
def Z0:aZ:=fI 81
def UW:aR:=bN 82 607
def Yx:aR:=bN 82 4863
def GZ:aR:=bN 82 38911
def aiw:aR:=bN 82 8191
def Xg:aR:=u_ 82 1023 65524 8191 GZ aiw
def ZL:aR:=u_ 82 127 8180 1023 Yx Xg
def ahY:aZ:=fY 82 1012 127 UW ZL
def Aq:aR:=bN 83 303
def age:aR:=bN 83 63
def YH:aZ:=fY 83 500 63 Aq age
def Sm:aR:=bN 84 324399
def abC:aR:=bN 84 3887
def S8:aR:=u_ 84 303 512828 4007 Sm abC
def afj:aR:=bN 84 63
def amI:aZ:=fY 84 500 63 S8 afj
def Dv:aR:=bN 47 75
def aco:aR:=bN 47 15
def Z6:aZ:=fY 47 116 15 Dv aco
def Ml:aZ:=fI 102
def aep:aZ:=fI 141
def ai6:aZ:=fI 140
def YP:aZ:=fI 122
def SO:aR:=bN 149 37
def amo:aR:=bN 149 7
def ahi:aZ:=fY 149 52 7 SO amo
def i9:aZ:=fI 9
def abJ:aR:=bN 24 75
def ae3:aR:=bN 24 15
def adz:aZ:=fY 24 116 15 abJ ae3
def agz:aZ:=fI 27
def WI:aR:=bN 23 75
def aix:aR:=bN 23 15
def afC:aZ:=fY 23 116 15 WI aix
def Ti:aR:=bN 48 75
def akx:aR:=bN 48 15
def ahd:aZ:=fY 48 116 15 Ti akx
def Vh:aR:=bN 57 75
def alV:aR:=bN 57 15
def adS:aZ:=fY 57 116 15 Vh alV
def vp:aR:=bN 25 19237
def abd:aR:=bN 25 3877
def ahW:aR:=bN 25 229
def acw:aR:=FW 25 37 26932 3367 211 vp abd ahW
def ags:aR:=bN 25 7
def ahw:aZ:=fY 25 52 7 acw ags
def Sc:aR:=bN 49 75
def alO:aR:=bN 49 15
def adq:aZ:=fY 49 116 15 Sc alO
def Li:aR:=bN 87 37
def ahh:aR:=bN 87 7
def afd:aZ:=fY 87 52 7 Li ahh
def S9:aZ:=fI 85
def PW:aR:=bN 50 17995
def Gv:aR:=bN 50 7755
def aa1:aR:=bN 50 459
def NT:aR:=FW 50 75 29848 7463 467 PW Gv aa1
def YJ:aR:=bN 50 15
def aiW:aZ:=fY 50 116 15 NT YJ
def I3:aR:=bN 88 37
def ajJ:aR:=bN 88 7
def Yu:aZ:=fY 88 52 7 I3 ajJ
def Z7:aZ:=fI 86
def i51:aZ:=fI 51
def PY:aR:=bN 26 153903
def WZ:aR:=bN 26 31023
def VL:aR:=bN 26 1839
def R2:aR:=FW 26 303 256308 32039 2003 PY WZ VL
def aiv:aR:=bN 26 63
def afP:aZ:=fY 26 500 63 R2 aiv
def PU:aR:=bN 39 1215
def XC:aR:=bN 39 255
def acs:aZ:=fY 39 2036 255 PU XC
def Mr:aR:=bN 20 607
def XP:aR:=bN 20 314559
def afK:aR:=bN 20 15551
def Sp:aR:=u_ 20 1215 521420 16295 XP afK
def St:aR:=bN 20 255
def Vi:aR:=u_ 20 127 2036 255 Sp St
def i20:aZ:=fY 20 1012 127 Mr Vi
def Ul:aZ:=fI 7
def Wa:aZ:=fI 38
def Sd:aR:=bN 19 75
def agK:aR:=bN 19 15
def ahz:aZ:=fY 19 116 15 Sd agK
def amS:aZ:=fI 10
def LZ:aR:=bN 13 151
def acF:aR:=bN 13 31
def Jg:aZ:=fY 13 244 31 LZ acF
def V3:aR:=bN 14 151
def Wn:aR:=bN 14 1215
def ak2:aR:=bN 14 255
def al7:aR:=u_ 14 31 2036 255 Wn ak2
def ai3:aZ:=fY 14 244 31 V3 al7
def Sq:aR:=bN 15 75
def afk:aR:=bN 15 15
def abB:aZ:=fY 15 116 15 Sq afk
def i4:aZ:=fI 4
def UU:aZ:=fI 21
def EA:aR:=bN 65 19607
def IV:aR:=bN 65 919
def Jk:aR:=u_ 65 151 31308 979 EA IV
def XN:aR:=bN 65 31
def aaj:aZ:=fY 65 244 31 Jk XN
def aiU:aZ:=fI 11
def T6:aR:=bN 28 2516479
def awt:aR:=bN 28 124415
def aky:aR:=u_ 28 9727 4191436 130983 T6 awt
def aeU:aR:=bN 28 2047
def aiY:aZ:=fY 28 16372 2047 aky aeU
def adX:aZ:=fI 12
def adg:aZ:=fI 30
def aeS:aZ:=fI 94
def M4:aZ:=fI 42
def alx:aZ:=fI 43
def P6:aZ:=fI 44
def Sv:aR:=bN 45 151
def WV:aR:=bN 45 31
def aaE:aZ:=fY 45 244 31 Sv WV
def Px:aR:=bN 95 37
def ah8:aR:=bN 95 7
def ai1:aZ:=fY 95 52 7 Px ah8
def Wc:aZ:=fI 101
def aaw:aR:=bN 53 599
def acG:aR:=bN 53 4895535
def Vk:aR:=bN 53 10400559
def ahQ:aR:=adA 53 963375 16410300 Vk
def WH:aR:=bN 53 4961071
def Rf:aR:=bN 53 5153731375
def aeW:aR:=bN 53 254784303
def Y5:aR:=u_ 53 19903279 8402105548 262565799 Rf aeW
def Fk:aR:=bN 53 3887
def vY:aR:=aee 53 303 8205140 1025643 8205172 32820724 4007 acG ahQ WH Y5 Fk
def Gr:aR:=bN 53 63
def FH:aR:=u_ 53 31 500 63 vY Gr
def i53:aZ:=fY 53 980 31 aaw FH
def air:aZ:=fI 52
def S6:aR:=bN 54 75
def ahS:aR:=bN 54 15
def ab6:aZ:=fY 54 116 15 S6 ahS
def IU:aR:=bN 29 19607
def acv:aR:=bN 29 919
def Ue:aR:=u_ 29 151 31308 979 IU acv
def afE:aR:=bN 29 31
def ahT:aZ:=fY 29 244 31 Ue afE
def L_:aR:=bN 66 151
def WD:aR:=bN 66 31
def Yv:aZ:=fY 66 244 31 L_ WD
def LQ:aR:=bN 67 303
def aeC:aR:=bN 67 63
def ak0:aZ:=fY 67 500 63 LQ aeC
def UZ:aZ:=fI 68
def EN:aZ:=fI 69
def HO:aR:=bN 70 607
def aap:aR:=bN 70 127
def Xu:aZ:=fY 70 1012 127 HO aap
def Wx:aR:=bN 71 2431
def agP:aR:=bN 71 511
def GL:aZ:=fY 71 4084 511 Wx agP
def O9:aZ:=fI 72
def ajW:aZ:=fI 73
def aiL:aZ:=fI 74
def ac4:aZ:=fI 75
def OT:aR:=bN 76 303
def aj4:aR:=bN 76 63
def acL:aZ:=fY 76 500 63 OT aj4
def C7:aZ:=fI 77
def R7:aR:=bN 78 37
def afn:aR:=bN 78 7
def alp:aZ:=fY 78 52 7 R7 afn
def Xa:aZ:=fI 79
def RR:aR:=bN 139 37
def ah5:aR:=bN 139 7
def amv:aZ:=fY 139 52 7 RR ah5
def aCv:aZ:=fI 90
def Ou:aR:=bN 92 76363
def aln:aR:=bN 92 14923
def YI:aR:=bN 92 459
def Ni:aR:=FW 92 75 119380 14923 467 Ou aln YI
def agO:aR:=bN 92 15
def Vf:aZ:=fY 92 116 15 Ni agO
def MX:aR:=bN 93 309655
def aey:aR:=bN 93 63895
def E_:aR:=bN 93 1943
def Yw:aR:=FW 93 151 501364 62671 1959 MX aey E_
def ae4:aR:=bN 93 31
def afp:aZ:=fY 93 244 31 Yw ae4
def Cb:aR:=bN 89 40139
def L9:aR:=bN 89 971
def Ij:aR:=u_ 89 75 59804 935 Cb L9
def aaS:aR:=bN 89 15
def ab3:aZ:=fY 89 116 15 Ij aaS
def K5:aR:=bN 55 151
def abM:aR:=bN 55 31
def Xp:aZ:=fY 55 244 31 K5 abM
def aaP:aR:=bN 56 151
def agc:aR:=bN 56 31
def ahC:aZ:=fY 56 244 31 aaP agc
def afJ:aZ:=fI 58
def U4:aR:=bN 59 37
def afI:aR:=bN 59 7
def aeD:aZ:=fY 59 52 7 U4 afI
def Vj:aZ:=fI 103
def RK:aR:=bN 104 9
def Zg:aZ:=B0 104 12 RK
def T_:aR:=bN 105 9
def abI:aZ:=B0 105 12 T_
def adM:aZ:=fI 106
def HG:aR:=bN 107 75
def Z2:aR:=bN 107 15
def Wf:aZ:=fY 107 116 15 HG Z2
def Ib:aR:=bN 109 9
def ZZ:aZ:=B0 109 12 Ib
def Q7:aZ:=fI 108
def Xw:aZ:=fI 110
def aha:aZ:=fI 111
def alf:aZ:=fI 112
def Kr:aZ:=fI 113
def ah6:aZ:=fI 114
def QZ:aR:=bN 115 40139
def YE:aR:=bN 115 971
def N5:aR:=u_ 115 75 59804 935 QZ YE
def WY:aR:=bN 115 15
def akp:aZ:=fY 115 116 15 N5 WY
def aj8:aZ:=fI 116
def Jq:aZ:=fI 117
def S_:aR:=bN 118 9
def aaq:aZ:=B0 118 12 S_
def adZ:aZ:=fI 119
def Ua:aR:=bN 120 76363
def aih:aR:=bN 120 14923
def ajF:aR:=bN 120 459
def Te:aR:=FW 120 75 119380 14923 467 Ua aih ajF
def aj0:aR:=bN 120 15
def VN:aZ:=fY 120 116 15 Te aj0
def ZT:aR:=bN 121 75
def aml:aR:=bN 121 15
def aj3:aZ:=fY 121 116 15 ZT aml
def aem:aZ:=fI 130
def ab4:aZ:=fI 131
def aa4:aZ:=fI 132
def Jh:aR:=bN 124 151
def W4:aR:=bN 124 31
def acD:aZ:=fY 124 244 31 Jh W4
def amz:aZ:=fI 126
def M6:aR:=bN 125 151
def alL:aR:=bN 125 31
def agL:aZ:=fY 125 244 31 M6 alL
def UO:aR:=bN 127 37
def acP:aR:=bN 127 7
def afD:aZ:=fY 127 52 7 UO acP
def aiu:aZ:=fI 97
def SI:aR:=bN 96 37
def al3:aR:=bN 96 7
def agr:aZ:=fY 96 52 7 SI al3
def Yy:aR:=bN 142 17
def acN:aR:=bN 142 7
def ahD:aZ:=fY 142 24 7 Yy acN
def P8:aR:=bN 143 37
def adf:aR:=bN 143 7
def ae2:aZ:=fY 143 52 7 P8 adf
def acu:aZ:=fI 144
def O1:aR:=bN 145 154007
def aas:aR:=bN 145 31127
def adu:aR:=bN 145 1943
def XW:aR:=FW 145 151 250676 31335 1959 O1 aas adu
def ak7:aR:=bN 145 31
def Tl:aZ:=fY 145 244 31 XW ak7
def X4:aZ:=fI 146
def ahE:aR:=bN 148 19
def akg:aZ:=B0 148 28 ahE
def S5:aR:=bN 162 37
def agp:aR:=bN 162 7
def ahF:aZ:=fY 162 52 7 S5 agp
def W2:aR:=bN 163 19
def Y3:aZ:=B0 163 28 W2
def NZ:aR:=bN 150 9
def SK:aZ:=B0 150 12 NZ
def Lc:aZ:=fI 151
def Rj:aR:=bN 168 37
def akn:aR:=bN 168 7
def akC:aZ:=fY 168 52 7 Rj akn
def acg:aZ:=fI 147
def QG:aR:=bN 170 585
def Rr:aR:=bN 170 57
def abA:aR:=u_ 170 9 804 51 QG Rr
def akT:aZ:=B0 170 12 abA
def amC:aZ:=fI 176
def RL:aR:=bN 184 585
def Tn:aR:=bN 184 57
def Td:aR:=u_ 184 9 804 51 RL Tn
def Xr:aZ:=B0 184 12 Td
def RT:aR:=bN 169 37
def amU:aR:=bN 169 7
def ahj:aZ:=fY 169 52 7 RT amU
def ams:aZ:=fI 197
def Vq:aR:=bN 3 303
def SQ:aR:=bN 3 63
def i3:aZ:=fY 3 500 63 Vq SQ
end Go.Abs
end
namespace Go.Abs
open Go.Proofs
def HY:aG->Nat->Bool
 |[],_=>false
 |a::r,n=>bif Nat.beq a n then true else HY r n
def ak5:List (Nat×aG)->Nat->aG
 |[],_=>[]
 |(a,l)::r,n=>bif Nat.beq a n then l else ak5 r n
def avv:aG:=[47,67,82,83,90,92,104,105,109,118,119,120,128,131,142,148,150,152,153,154,155,156,157,158,159,163,170,171,172,173,174,175,177,178,179,181,182,183,184,185,186,187,188,189,190,191,194,195,196,198,199,200,201,202,203]
def auO:List (Nat×aG):=[(47,[47,82,83]),(67,[67,104,105]),(82,[82]),(83,[83]),(90,[90,128,152,153,154,155,156,157,158,159,179,181,182,183,198]),(92,[92]),(104,[104]),(105,[105]),(109,[109]),(118,[118]),(119,[119,148,170,171,172,173,174,175,177,178,181,194,195,196,202]),(120,[120]),(128,[128,152,153,154,155,156,157,158,159,179,181,182,183,198]),(131,[131,163,181,184,185,186,187,188,189,190,191,199,200,201,203]),(142,[142]),(148,[148,170,171,172,173,174,175,177,178,181,194,195,196,202]),(150,[150]),(152,[152]),(153,[153,179]),(154,[154,181]),(155,[155,182,183,198]),(156,[156]),(157,[157]),(158,[158]),(159,[159]),(163,[163,181,184,185,186,187,188,189,190,191,199,200,201,203]),(170,[170]),(171,[171,194]),(172,[172,181]),(173,[173,195,196,202]),(174,[174]),(175,[175]),(177,[177]),(178,[178]),(179,[179]),(181,[181]),(182,[182,183,198]),(183,[183,198]),(184,[184]),(185,[185,199]),(186,[181,186]),(187,[187,200,201,203]),(188,[188]),(189,[189]),(190,[190]),(191,[191]),(194,[194]),(195,[195,196,202]),(196,[196,202]),(198,[198]),(199,[199]),(200,[200,201,203]),(201,[201,203]),(202,[202]),(203,[203])]
def aej:aG:=[89,29,3,14,28,10,12,59]
def aaN(f:Nat)(A:dZ):Option (Option RV):=
 bif Nat.beq f 35 then some (aad A)
 else bif Nat.beq f 37 then some (acI A)
 else bif Nat.beq f 129 then some (Ox A)
 else bif HY [30,111] f then Vz A
 else none
noncomputable def S:Sys:={P:=Tryz.prog,shared:=HY avv,sites:=ak5 auO,lone:=λs=>HY aej (s/64000000),fns:=Fq Tryz.prog,prim:=aaN,trig:=UK 90 91,primS:=λ_=>BF oG}
abbrev dy(n:Nat):Prop:=S.shared n=false
def On:S.fns 8=some VX:=ah
def RG:dy 8:=rfl
def atA:S.fns 22=some JR:=ah
def Pv:dy 22:=rfl
def aBb:S.fns 46=some i46:=ah
def Gs:dy 46:=rfl
def ant:S.fns 40=some akJ:=ah
def Y0:dy 40:=rfl
def aom:S.fns 41=some ahe:=ah
def akq:dy 41:=rfl
def aB9:S.fns 80=some aji:=ah
def axk:dy 80:=rfl
def avF:S.fns 123=some yN:=ah
def alm:dy 123:=rfl
def auY:S.fns 81=some Z0:=ah
def auE:dy 81:=rfl
def atp:S.fns 82=some ahY:=ah
def ate:S.fns 83=some YH:=ah
def axO:S.fns 84=some amI:=ah
def aqO:dy 84:=rfl
def auT:S.fns 47=some Z6:=ah
def agF:S.fns 102=some Ml:=ah
def Xy:dy 102:=rfl
def axq:S.fns 141=some aep:=ah
def abb:dy 141:=rfl
def aoW:S.fns 140=some ai6:=ah
def aa8:dy 140:=rfl
def av9:S.fns 122=some YP:=ah
def aAO:dy 122:=rfl
def axn:S.fns 149=some ahi:=ah
def ahO:dy 149:=rfl
def aAX:S.fns 9=some i9:=ah
def agf:dy 9:=rfl
def atg:S.fns 24=some adz:=ah
def L7:dy 24:=rfl
def aoo:S.fns 27=some agz:=ah
def aeB:dy 27:=rfl
def aBM:S.fns 23=some afC:=ah
def zT:dy 23:=rfl
def as0:S.fns 48=some ahd:=ah
def ajq:dy 48:=rfl
def aAY:S.fns 57=some adS:=ah
def CQ:dy 57:=rfl
def aoc:S.fns 25=some ahw:=ah
def Zk:dy 25:=rfl
def azA:S.fns 49=some adq:=ah
def akY:dy 49:=rfl
def aor:S.fns 87=some afd:=ah
def aiM:dy 87:=rfl
def axA:S.fns 85=some S9:=ah
def aku:dy 85:=rfl
def aqU:S.fns 50=some aiW:=ah
def apF:dy 50:=rfl
def afx:S.fns 88=some Yu:=ah
def GM:dy 88:=rfl
def aBd:S.fns 86=some Z7:=ah
def Q5:dy 86:=rfl
def akd:S.fns 51=some i51:=ah
def aeF:dy 51:=rfl
def an0:S.fns 26=some afP:=ah
def afL:dy 26:=rfl
def adB:S.fns 39=some acs:=ah
def ahu:dy 39:=rfl
def aj5:S.fns 20=some i20:=ah
def KY:dy 20:=rfl
def Ej:S.fns 7=some Ul:=ah
def LP:dy 7:=rfl
def afw:S.fns 38=some Wa:=ah
def anx:dy 38:=rfl
def at6:S.fns 19=some ahz:=ah
def Rz:dy 19:=rfl
def az5:S.fns 10=some amS:=ah
def aqg:dy 10:=rfl
def adV:S.fns 13=some Jg:=ah
def aa5:dy 13:=rfl
def azX:S.fns 14=some ai3:=ah
def ahU:dy 14:=rfl
def agy:S.fns 15=some abB:=ah
def aaH:dy 15:=rfl
def c4:S.fns 4=some i4:=ah
def Cz:dy 4:=rfl
def XK:S.fns 21=some UU:=ah
def CT:dy 21:=rfl
def aka:S.fns 65=some aaj:=ah
def akX:dy 65:=rfl
def ax8:S.fns 11=some aiU:=ah
def VU:dy 11:=rfl
def awz:S.fns 28=some aiY:=ah
def adD:dy 28:=rfl
def J_:S.fns 12=some adX:=ah
def abU:dy 12:=rfl
def axi:S.fns 30=some adg:=ah
def M9:dy 30:=rfl
def auQ:S.fns 94=some aeS:=ah
def Xx:dy 94:=rfl
def Vo:S.fns 42=some M4:=ah
def VZ:dy 42:=rfl
def avu:S.fns 43=some alx:=ah
def adn:dy 43:=rfl
def ayl:S.fns 44=some P6:=ah
def LC:dy 44:=rfl
def awo:S.fns 45=some aaE:=ah
def ado:dy 45:=rfl
def anz:S.fns 95=some ai1:=ah
def atP:dy 95:=rfl
def ap7:S.fns 101=some Wc:=ah
def V6:dy 101:=rfl
def Iz:S.fns 53=some i53:=ah
def W5:dy 53:=rfl
def arB:S.fns 52=some air:=ah
def XD:dy 52:=rfl
def agZ:S.fns 54=some ab6:=ah
def akU:dy 54:=rfl
def asl:S.fns 29=some ahT:=ah
def anL:dy 29:=rfl
def amJ:S.fns 66=some Yv:=ah
def aiy:dy 66:=rfl
def as7:S.fns 67=some ak0:=ah
def as9:S.fns 68=some UZ:=ah
def ng:dy 68:=rfl
def aAb:S.fns 69=some EN:=ah
def afB:S.fns 70=some Xu:=ah
def ayg:dy 70:=rfl
def anh:S.fns 71=some GL:=ah
def apr:S.fns 72=some O9:=ah
def aBF:S.fns 73=some ajW:=ah
def anE:S.fns 74=some aiL:=ah
def asc:S.fns 75=some ac4:=ah
def ayT:S.fns 76=some acL:=ah
def alM:S.fns 77=some C7:=ah
def asE:S.fns 78=some alp:=ah
def aeM:dy 78:=rfl
def azT:S.fns 79=some Xa:=ah
def ahG:dy 79:=rfl
def aAt:S.fns 139=some amv:=ah
def ajf:dy 139:=rfl
def asL:S.shared 90:=ah
def afs:S.fns 92=some Vf:=ah
def adh:S.shared 92:=ah
def atH:S.fns 93=some afp:=ah
def W7:dy 93:=rfl
def af8:S.fns 89=some ab3:=ah
def apO:dy 89:=rfl
def adO:S.fns 55=some Xp:=ah
def akM:dy 55:=rfl
def aA4:S.fns 56=some ahC:=ah
def ats:dy 56:=rfl
def aw2:S.fns 58=some afJ:=ah
def apk:dy 58:=rfl
def aoU:S.fns 59=some aeD:=ah
def ao4:dy 59:=rfl
def azR:S.fns 103=some Vj:=ah
def auq:dy 103:=rfl
def auP:S.fns 104=some Zg:=ah
def axH:S.fns 105=some abI:=ah
def axr:S.fns 106=some adM:=ah
def iF:dy 106:=rfl
def agG:S.fns 107=some Wf:=ah
def Xs:dy 107:=rfl
def as1:S.fns 109=some ZZ:=ah
def asg:S.fns 108=some Q7:=ah
def alz:dy 108:=rfl
def auV:S.fns 110=some Xw:=ah
def abN:dy 110:=rfl
def ao3:S.fns 111=some aha:=ah
def Fb:dy 111:=rfl
def anr:S.fns 112=some alf:=ah
def Gt:dy 112:=rfl
def au8:S.fns 113=some Kr:=ah
def Ji:dy 113:=rfl
def avG:S.fns 114=some ah6:=ah
def nD:dy 114:=rfl
def axI:S.fns 115=some akp:=ah
def oR:dy 115:=rfl
def aBx:S.fns 116=some aj8:=ah
def VV:dy 116:=rfl
def aoJ:S.fns 117=some Jq:=ah
def oQ:dy 117:=rfl
def awC:S.fns 118=some aaq:=ah
def aq6:S.fns 119=some adZ:=ah
def aq5:S.fns 120=some VN:=ah
def ab9:S.shared 120:=ah
def auZ:S.fns 121=some aj3:=ah
def aoQ:dy 121:=rfl
def ayf:S.fns 130=some aem:=ah
def aeO:S.fns 131=some ab4:=ah
def adv:S.fns 132=some aa4:=ah
def aiz:S.fns 124=some acD:=ah
def aki:dy 124:=rfl
def ar0:S.fns 126=some amz:=ah
def T4:dy 126:=rfl
def aya:S.fns 125=some agL:=ah
def WR:dy 125:=rfl
def az1:S.fns 127=some afD:=ah
def agd:dy 127:=rfl
def aBC:S.fns 97=some aiu:=ah
def aAo:dy 97:=rfl
def aqq:S.fns 96=some agr:=ah
def aBU:dy 96:=rfl
def att:S.fns 142=some ahD:=ah
def azY:S.fns 143=some ae2:=ah
def af3:dy 143:=rfl
def awc:S.fns 144=some acu:=ah
def apH:dy 144:=rfl
def ayA:S.fns 145=some Tl:=ah
def aqt:dy 145:=rfl
def aBz:S.fns 146=some X4:=ah
def ayZ:dy 146:=rfl
def aox:S.fns 148=some akg:=ah
def aBO:S.shared 148:=ah
def awV:S.fns 162=some ahF:=ah
def atk:dy 162:=rfl
def afO:S.fns 163=some Y3:=ah
def amR:S.shared 163:=ah
def aeZ:S.fns 150=some SK:=ah
def acW:S.shared 150:=ah
def Np:S.fns 151=some Lc:=ah
def auc:dy 151:=rfl
def asq:S.fns 168=some akC:=ah
def ad7:dy 168:=rfl
def axB:S.fns 147=some acg:=ah
def apA:dy 147:=rfl
def ati:S.fns 170=some akT:=ah
def auU:S.shared 170:=ah
def aAe:S.fns 176=some amC:=ah
def ajl:dy 176:=rfl
def ahB:S.fns 184=some Xr:=ah
def agM:S.shared 184:=ah
def aAA:S.fns 169=some ahj:=ah
def amK:dy 169:=rfl
def au0:S.fns 197=some ams:=ah
def awf:dy 197:=rfl
def c3:S.fns 3=some i3:=ah
def y9:dy 3:=rfl
noncomputable section
def Pg:aZ:=fI 6
end
def Vu:dy 5:=rfl
def c6:S.fns 6=some Pg:=ah
def alX:dy 6:=rfl
end Go.Abs
