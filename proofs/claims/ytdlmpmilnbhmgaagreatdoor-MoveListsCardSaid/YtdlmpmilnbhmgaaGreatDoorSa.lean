/-
  The program as a system of the abstract machine.
-/
import Derived.Test.YtdlmpmilnbhmgaaGreatDoorMf
import Derived.Test.YtdlmpmilnbhmgaaGreatDoorProg
import Derived.Test.YtdlmpmilnbhmgaaGreatDoorMd
set_option linter.all false
open List renaming length->I
set_option maxRecDepth 100000
noncomputable section
namespace Go.Abs
open Go.Proofs
def FT{α:Type}:List α->Nat->Option α
  | [],_ => none
  | a::l,n => match n with | 0 => some a | n+1 => FT l n
def YU{α:Type}:List (Nat×α)->Nat->Option α
  | [],_ => none
  | (k,a)::l,n => bif Nat.beq k n then some a else YU l n
noncomputable def afJ(s:Nat)(o:Oper):nK := match o.op with
  | .build t ps => (match Tryz.prog.underlying t,uy Tryz.prog t with | some (.struct fs),some z => ((w_ (λi => (FT fs.toList i).map λf => (f.offset,Tryz.prog.cellsOf f.type)) (I z) ps.toList).map (.build z)).getD .bad | _,_ => Cl Tryz.prog s o)
  | .binOp op t x y _ => (match Tryz.prog.underlying t,cE x,cE y with | some (.struct fs),some a,some b =>.eqc (.str (fs.toList.map λf => (Mt Tryz.prog f.type).getD false)) (match op with | .neq => true | _ => false) a b | _,_,_ => Cl Tryz.prog s o)
  | _ => Cl Tryz.prog s o
noncomputable def RN(a:aA)(j:Nat):List Edge->Nat->Nat
  | [],s => s
  | e::r,s => match (bif Region.binds .any e then Nat.lor (Nat.lor s (Nat.pow 2 e.on)) ((FT a (j-1-e.on)).getD 0)else s)with | 0 => RN a j r 0 | m+1 => RN a j r (m+1)
noncomputable def abG(O:List Oper)(b s i:Nat)(o:Oper):iC := ⟨o.dst,afJ ((s+i)*64) o,(match o.guard with | none => none | some (j,w) => (match FT O j with | some x => (match x.dst with | some t => some (t,w) | none => none) | none => none)),b⟩
noncomputable def NY(d:Bool)(O:List Oper)(s:Nat):aA->Nat->List Oper->en
  | _,_,[] => []
  | a,i,o::r => match (bif d then RN a i o.after.toList 0 else 0)with | 0 => abG O 0 s i o::NY d O s (0::a) (i+1) r | m+1 => abG O (m+1) s i o::NY d O s ((m+1)::a) (i+1) r
abbrev ED(B:List (Nat×aO))(p:Nat)(y:aO):aO := match YU B p with | some x => x | none => y
noncomputable def za(f:Nat)(B:List (Nat×aO)):Code->Nat->aO
  | .region id O D,_ =>.region D (NY D O.toList ((f*1000+id)*1000) [] 0 O.toList)
  | .seq a b,p =>.seq (ED B (2*p) (za f B a (2*p))) (ED B (2*p+1) (za f B b (2*p+1)))
  | .cond c a b,p => match cE c with | some c =>.cond c (ED B (2*p) (za f B a (2*p))) (ED B (2*p+1) (za f B b (2*p+1))) | none =>.bad
  | .block i c,p =>.block i (ED B (2*p) (za f B c (2*p)))
  | .loop c,p =>.loop (ED B (2*p) (za f B c (2*p)))
  | .exit i,_ =>.exit i
  | .scope c,p => za f B c p
  | .ret,_ =>.ret
  | .label _,_ =>.skip
  | .skip,_ =>.skip
  | _,_ =>.bad
noncomputable def Hf(f:Nat)(B:List (Nat×aO)):aU := match FT Tryz.prog.funcs.toList f with
  | some fn => (match fn.body with | some c => ⟨fn.ntmps,(wz Tryz.prog fn.results.toList).getD [],za f B c 1⟩ | none => ⟨0,[],.bad⟩)
  | none => ⟨0,[],.bad⟩
noncomputable def mx:aO->Nat->aO
  | .seq a b,q => bif Nat.beq q 1 then .seq a b else bif Nat.beq (q%2) 0 then mx a (q/2)else mx b (q/2)
  | .cond x a b,q => bif Nat.beq q 1 then .cond x a b else bif Nat.beq (q%2) 0 then mx a (q/2)else mx b (q/2)
  | .block i a,q => bif Nat.beq q 1 then .block i a else mx a (q/2)
  | .loop a,q => bif Nat.beq q 1 then .loop a else mx a (q/2)
  | c,_ => c
abbrev HE(f:Nat)(B:List (Nat×aO))(q:Nat):aO := mx (Hf f B).body q
def dX(n:Nat){g:aU}(_:Hf n []=g := by conv => lhs; reduce; try simp only [Int.reduceOfNat,Int.reduceNegSucc]):aU := g
def vK(n f:Nat)(y:aO){g:aO->aU}(_:(λx => Hf n [(f,x)])=g := by conv => lhs; reduce; try simp only [Int.reduceOfNat,Int.reduceNegSucc]):aU := g y
def eD(n h f:Nat)(y Y:aO){g:aO->aO->aU}(_:(λx X => Hf n [(h,x),(f,X)])=g := by conv => lhs; reduce; try simp only [Int.reduceOfNat,Int.reduceNegSucc]):aU := g y Y
def XT(n D m q f j h r:Nat)(B Y L E z M y:aO){g:aO->aO->aO->aO->aO->aO->aO->aU}(_:(λx H v u X A F => Hf n [(D,x),(m,H),(q,v),(f,u),(j,X),(h,A),(r,F)])=g := by conv => lhs; reduce; try simp only [Int.reduceOfNat,Int.reduceNegSucc]):aU := g B Y L E z M y
def bx(n q:Nat){g:aO}(_:HE n [] q=g := by conv => lhs; reduce; try simp only [Int.reduceOfNat,Int.reduceNegSucc]):aO := g
def Wd(n q f:Nat)(y:aO){g:aO->aO}(_:(λx => HE n [(f,x)] q)=g := by conv => lhs; reduce; try simp only [Int.reduceOfNat,Int.reduceNegSucc]):aO := g y
def pJ(n q h f:Nat)(y Y:aO){g:aO->aO->aO}(_:(λx X => HE n [(h,x),(f,X)] q)=g := by conv => lhs; reduce; try simp only [Int.reduceOfNat,Int.reduceNegSucc]):aO := g y Y
def uP(n q h f j:Nat)(y m Y:aO){g:aO->aO->aO->aO}(_:(λx X r => HE n [(h,x),(f,X),(j,r)] q)=g := by conv => lhs; reduce; try simp only [Int.reduceOfNat,Int.reduceNegSucc]):aO := g y m Y
def WS(n q z j m f h:Nat)(v y D A Y:aO){g:aO->aO->aO->aO->aO->aO}(_:(λx B u r X => HE n [(z,x),(j,B),(m,u),(f,r),(h,X)] q)=g := by conv => lhs; reduce; try simp only [Int.reduceOfNat,Int.reduceNegSucc]):aO := g v y D A Y
attribute [go_sem] dX vK eD XT bx Wd pJ uP WS
abbrev DY(d a:Nat):iC:=⟨some d,.mj (.t a),none,0⟩
abbrev se(d:Nat)(x:nK):iC:=⟨some d,x,none,0⟩
abbrev xm(l:en):aO:=.region false l
def D6:aU:=dX 52
def IX:aO:=bx 62 75
def abh:aO:=bx 62 15
def acF:aU:=eD 62 116 15 IX abh
def Ki:aO:=bx 40 75
def abC:aO:=bx 40 15
def acI:aU:=eD 40 116 15 Ki abC
def ZN:aU:=dX 41
def Vp:aU:=dX 120
def sM:aU:=dX 165
def Ub:aU:=dX 121
def J9:aO:=bx 122 607
def Om:aO:=bx 122 4863
def B9:aO:=bx 122 38911
def acg:aO:=bx 122 8191
def RC:aO:=pJ 122 1023 65524 8191 B9 acg
def NN:aO:=pJ 122 127 8180 1023 Om RC
def ZA:aU:=eD 122 1012 127 J9 NN
def sC:aO:=bx 123 303
def VS:aO:=bx 123 63
def Ov:aU:=eD 123 500 63 sC VS
def J0:aO:=bx 124 324399
def Ou:aO:=bx 124 3887
def KK:aO:=pJ 124 303 512828 4007 J0 Ou
def aay:aO:=bx 124 63
def ad4:aU:=eD 124 500 63 KK aay
def xC:aO:=bx 85 75
def Uc:aO:=bx 85 15
def Tb:aU:=eD 85 116 15 xC Uc
def pF:aU:=dX 95
def adQ:aU:=dX 144
def Xv:aU:=dX 143
def Ob:aU:=dX 164
def H8:aO:=bx 198 37
def abV:aO:=bx 198 7
def adm:aU:=eD 198 52 7 H8 abV
def vh:aU:=dX 10
def Jz:aO:=bx 21 75
def acB:aO:=bx 21 15
def acz:aU:=eD 21 116 15 Jz acB
def Wc:aU:=dX 24
def Jk:aO:=bx 20 75
def XS:aO:=bx 20 15
def i20:aU:=eD 20 116 15 Jk XS
def E3:aO:=bx 44 75
def X_:aO:=bx 44 15
def adJ:aU:=eD 44 116 15 E3 X_
def Kz:aO:=bx 70 75
def aa4:aO:=bx 70 15
def XH:aU:=eD 70 116 15 Kz aa4
def qq:aO:=bx 22 19237
def kO:aO:=bx 22 3877
def WM:aO:=bx 22 229
def P6:aO:=uP 22 37 26932 3367 211 qq kO WM
def W8:aO:=bx 22 7
def YW:aU:=eD 22 52 7 P6 W8
def Gf:aO:=bx 45 75
def WU:aO:=bx 45 15
def abn:aU:=eD 45 116 15 Gf WU
def Cq:aO:=bx 71 37
def Zw:aO:=bx 71 7
def WX:aU:=eD 71 52 7 Cq Zw
def MC:aU:=dX 68
def Ef:aO:=bx 46 17995
def Cj:aO:=bx 46 7755
def Q4:aO:=bx 46 459
def G6:aO:=uP 46 75 29848 7463 467 Ef Cj Q4
def Tg:aO:=bx 46 15
def i46:aU:=eD 46 116 15 G6 Tg
def Oh:aO:=bx 72 37
def afp:aO:=bx 72 7
def ab6:aU:=eD 72 52 7 Oh afp
def Od:aU:=dX 69
def xv:aU:=dX 47
def Fo:aO:=bx 23 153903
def Tj:aO:=bx 23 31023
def M0:aO:=bx 23 1839
def Mq:aO:=uP 23 303 256308 32039 2003 Fo Tj M0
def W1:aO:=bx 23 63
def X2:aU:=eD 23 500 63 Mq W1
def HI:aO:=bx 39 1215
def PF:aO:=bx 39 255
def Vb:aU:=eD 39 2036 255 HI PF
def F6:aO:=bx 18 607
def Rb:aO:=bx 18 314559
def Z3:aO:=bx 18 15551
def J7:aO:=pJ 18 1215 521420 16295 Rb Z3
def Mu:aO:=bx 18 255
def IK:aO:=pJ 18 127 2036 255 J7 Mu
def Uz:aU:=eD 18 1012 127 F6 IK
def i9:aU:=dX 9
def H2:aO:=bx 6 75
def aac:aO:=bx 6 15
def acC:aU:=eD 6 116 15 H2 aac
def MY:aO:=bx 3 1215
def Du:aO:=bx 3 608639
def MW:aO:=bx 3 117119
def L2:aO:=bx 3 14719
def yV:aO:=uP 3 2431 1045652 130707 16339 Du MW L2
def Cw:aO:=bx 3 511
def SE:aO:=pJ 3 255 4084 511 yV Cw
def i3:aU:=eD 3 2036 255 MY SE
def i4:aU:=dX 4
def Ti:aO:=bx 8 151
def Y9:aO:=bx 8 31
def VA:aU:=eD 8 244 31 Ti Y9
def R4:aO:=bx 7 75
def acv:aO:=bx 7 15
def abQ:aU:=eD 7 116 15 R4 acv
def KQ:aU:=dX 25
def Sl:aU:=dX 36
def Jx:aU:=dX 59
def V6:aU:=dX 134
def acR:aU:=dX 170
def i171:aU:=dX 171
def WR:aU:=dX 16
def GS:aO:=bx 17 38348287
def NB:aO:=bx 17 3745279
def G3:aO:=pJ 17 599551 67062052 4191379 GS NB
def NV:aO:=bx 17 58879
def Aw:aO:=pJ 17 9727 1047844 65491 G3 NV
def E6:aO:=bx 17 2047
def Bg:aU:=eD 17 16372 2047 Aw E6
def F7:aO:=bx 19 19607
def KG:aO:=bx 19 919
def J2:aO:=pJ 19 151 31308 979 F7 KG
def ac7:aO:=bx 19 31
def Z2:aU:=eD 19 244 31 J2 ac7
def asD:aU:=dX 27
def xi:aU:=dX 48
def V5:aU:=dX 49
def GP:aU:=dX 50
def Jm:aO:=bx 51 151
def Tm:aO:=bx 51 31
def i51:aU:=eD 51 244 31 Jm Tm
def FZ:aO:=bx 58 307807
def Xl:aO:=bx 58 62047
def NP:aO:=bx 58 3679
def OB:aO:=uP 58 607 518452 64807 4051 FZ Xl NP
def Wr:aO:=bx 58 127
def X4:aU:=eD 58 1012 127 OB Wr
def XY:aO:=xm [DY 9 5,se 10 (.bin .eql (.t 9) (.k (.one (.p (.str ⟨#[]⟩))))),DY 11 10,⟨(some 12),.mj (.t 5),(some (11,false)),0⟩,⟨(some 13),.call 5952128256 (.k (.one (.p (.fn 37 [] [])))) [.t 12,.k (.one (.p (.int .u8 66)))],(some (11,false)),0⟩,⟨(some 14),.un .not (.t 13),(some (11,false)),0⟩,⟨(some 15),.mj (.t 14),(some (11,false)),0⟩,⟨(some 16),.xK 2 (.t 3),(some (15,true)),0⟩,⟨(some 17),.load none (.t 16),(some (15,true)),0⟩,⟨(some 18),.bin .neq (.t 17) (.i 0),(some (15,true)),0⟩,⟨(some 19),.pick (.t 15) (.t 18) (.b false),(some (11,false)),0⟩,se 20 (.pick (.t 11) (.b true) (.t 19)),DY 21 20,⟨(some 22),.mj (.t 5),(some (21,false)),0⟩,⟨(some 23),.call 5952128896 (.k (.one (.p (.fn 37 [] [])))) [.t 22,.k (.one (.p (.int .u8 67)))],(some (21,false)),0⟩, ⟨(some 24),.un .not (.t 23),(some (21,false)),0⟩,⟨(some 25),.mj (.t 24),(some (21,false)),0⟩,⟨(some 26),.xK 3 (.t 3),(some (25,true)),0⟩,⟨(some 27),.load none (.t 26),(some (25,true)),0⟩,⟨(some 28),.bin .neq (.t 27) (.i 0),(some (25,true)),0⟩,⟨(some 29),.pick (.t 25) (.t 28) (.b false),(some (21,false)),0⟩,se 30 (.pick (.t 21) (.b true) (.t 29)),DY 31 30,⟨(some 32),.mj (.t 5),(some (31,false)),0⟩,⟨(some 33),.call 5952129536 (.k (.one (.p (.fn 37 [] [])))) [.t 32,.k (.one (.p (.int .u8 76)))],(some (31,false)),0⟩,⟨(some 34),.un .not (.t 33),(some (31,false)),0⟩,⟨(some 35),.mj (.t 34),(some (31,false)),0⟩,⟨(some 36),.xK 4 (.t 3),(some (35,true)),0⟩,⟨(some 37),.load none (.t 36),(some (35,true)),0⟩,⟨(some 38),.pick (.t 35) (.t 37) (.b false),(some (31,false)),0⟩,se 39 (.pick (.t 31) (.b true) (.t 38)),DY 40 39,⟨(some 41),.mj (.t 5),(some (40,false)),0⟩, ⟨(some 42),.call 5952130112 (.k (.one (.p (.fn 37 [] [])))) [.t 41,.k (.one (.p (.int .u8 79)))],(some (40,false)),0⟩,⟨(some 43),.un .not (.t 42),(some (40,false)),0⟩,⟨(some 44),.mj (.t 43),(some (40,false)),0⟩,⟨(some 45),.xK 5 (.t 3),(some (44,true)),0⟩,⟨(some 46),.load none (.t 45),(some (44,true)),0⟩,⟨(some 47),.pick (.t 44) (.t 46) (.b false),(some (40,false)),0⟩,se 48 (.pick (.t 40) (.b true) (.t 47)),DY 49 48,⟨(some 50),.mj (.t 5),(some (49,false)),0⟩,⟨(some 51),.call 5952130688 (.k (.one (.p (.fn 37 [] [])))) [.t 50,.k (.one (.p (.int .u8 83)))],(some (49,false)),0⟩,⟨(some 52),.un .not (.t 51),(some (49,false)),0⟩,⟨(some 53),.mj (.t 52),(some (49,false)),0⟩,⟨(some 54),.xK 6 (.t 3),(some (53,true)),0⟩,⟨(some 55),.load none (.t 54),(some (53,true)),0⟩,⟨(some 56),.bin .neq (.t 55) (.i 0),(some (53,true)),0⟩,⟨(some 57),.pick (.t 53) (.t 56) (.b false),(some (49,false)),0⟩, se 58 (.pick (.t 49) (.b true) (.t 57))]
attribute [go_sem] XY
def tn:aU:=vK 93 28 XY
def tl:aU:=dX 94
def Nf:aO:=bx 141 37
def adk:aO:=bx 141 7
def WY:aU:=eD 141 52 7 Nf adk
def Mv:aO:=bx 137 151
def abZ:aO:=bx 137 31
def Q6:aU:=eD 137 244 31 Mv abZ
def Fh:aO:=bx 136 37
def XD:aO:=bx 136 7
def aaq:aU:=eD 136 52 7 Fh XD
def adg:aU:=dX 89
def Za:aO:=xm [se 2 (.mj (.k (.one (.p (.str ⟨#[]⟩)))))]
attribute [go_sem] Za
def Zq:aO:=xm [se 2 (.mj (.k (.one (.p (.str ⟨#[65]⟩)))))]
attribute [go_sem] Zq
def XQ:aO:=xm [se 2 (.mj (.k (.one (.p (.str ⟨#[65,66,67]⟩)))))]
attribute [go_sem] XQ
def ZB:aO:=xm [se 2 (.mj (.k (.one (.p (.str ⟨#[65,66]⟩)))))]
attribute [go_sem] ZB
def aau:aO:=xm [se 2 (.mj (.k (.one (.p (.str ⟨#[65,79,83]⟩)))))]
attribute [go_sem] aau
def Z5:aO:=xm [se 2 (.mj (.k (.one (.p (.str ⟨#[65,66,76,79]⟩)))))]
attribute [go_sem] Z5
def X6:aO:=xm [se 2 (.mj (.k (.one (.p (.str ⟨#[]⟩)))))]
attribute [go_sem] X6
def acO:aU:=XT 35 2 212 860 3452 13820 55292 14 Za Zq XQ ZB aau Z5 X6
def ahJ:aO:=bx 37 37
def afi:aO:=bx 37 7
def i37:aU:=eD 37 52 7 ahJ afi
def B_:aO:=bx 38 4793535
def Vc:aO:=bx 38 468159
def HY:aO:=pJ 38 74943 8341796 521363 B_ Vc
def Oy:aO:=bx 38 7359
def Cs:aO:=pJ 38 1215 130340 8147 HY Oy
def Kx:aO:=bx 38 255
def Az:aU:=eD 38 2036 255 Cs Kx
def OH:aU:=dX 42
def RL:aO:=bx 43 599
def Vd:aO:=bx 43 4895535
def KJ:aO:=bx 43 10400559
def VE:aO:=Wd 43 963375 16410300 KJ
def NJ:aO:=bx 43 4961071
def Lw:aO:=bx 43 5153731375
def WL:aO:=bx 43 254784303
def N7:aO:=pJ 43 19903279 8402105548 262565799 Lw WL
def Al:aO:=bx 43 3887
def rf:aO:=WS 43 303 8205140 1025643 8205172 32820724 4007 Vd VE NJ N7 Al
def zc:aO:=bx 43 63
def Aq:aO:=pJ 43 31 500 63 rf zc
def Af:aU:=eD 43 980 31 RL Aq
def FE:aO:=bx 60 151
def UB:aO:=bx 60 31
def Vl:aU:=eD 60 244 31 FE UB
def Gs:aO:=bx 61 303
def abe:aO:=bx 61 63
def YI:aU:=eD 61 500 63 Gs abe
def Mm:aU:=dX 73
def zM:aU:=dX 74
def AR:aO:=bx 75 607
def Sc:aO:=bx 75 127
def NF:aU:=eD 75 1012 127 AR Sc
def TG:aO:=bx 76 2431
def acb:aO:=bx 76 511
def Ar:aU:=eD 76 4084 511 TG acb
def FO:aU:=dX 77
def ac5:aU:=dX 78
def Xe:aU:=dX 79
def GU:aU:=dX 80
def Gn:aO:=bx 81 303
def Y3:aO:=bx 81 63
def aap:aU:=eD 81 500 63 Gn Y3
def xr:aU:=dX 82
def M5:aO:=bx 83 37
def Y1:aO:=bx 83 7
def Zm:aU:=eD 83 52 7 M5 Y1
def Ve:aU:=dX 84
def O0:aU:=dX 90
def EW:aO:=bx 91 75
def UH:aO:=bx 91 15
def Zr:aU:=eD 91 116 15 EW UH
def GJ:aO:=bx 92 75
def UA:aO:=bx 92 15
def adl:aU:=eD 92 116 15 GJ UA
def Mj:aU:=dX 132
def adf:aU:=dX 133
def aat:aU:=dX 135
def Z8:aU:=dX 138
def adK:aU:=dX 139
def abi:aU:=dX 140
def vB:aO:=bx 142 303
def Ck:aO:=bx 142 63
def Z4:aU:=eD 142 500 63 vB Ck
def MM:aO:=bx 63 37
def aby:aO:=bx 63 7
def Vy:aU:=eD 63 52 7 MM aby
def i64:aU:=dX 64
def Fc:aO:=bx 66 76363
def Wv:aO:=bx 66 14923
def Nz:aO:=bx 66 459
def FQ:aO:=uP 66 75 119380 14923 467 Fc Wv Nz
def ac4:aO:=bx 66 15
def Kq:aU:=eD 66 116 15 FQ ac4
def E1:aO:=bx 67 309655
def W9:aO:=bx 67 63895
def Ab:aO:=bx 67 1943
def T4:aO:=uP 67 151 501364 62671 1959 E1 W9 Ab
def abP:aO:=bx 67 31
def acY:aU:=eD 67 244 31 T4 abP
def Kw:aU:=dX 96
def JT:aO:=bx 97 9
def Th:aU:=vK 97 12 JT
def M3:aO:=bx 98 9
def U3:aU:=vK 98 12 M3
def acQ:aU:=dX 105
def BH:aO:=bx 106 75
def TQ:aO:=bx 106 15
def NZ:aU:=eD 106 116 15 BH TQ
def BQ:aO:=bx 108 9
def N4:aU:=vK 108 12 BQ
def Ih:aU:=dX 107
def Sr:aU:=dX 109
def XL:aU:=dX 110
def ZL:aU:=dX 111
def EC:aU:=dX 112
def aas:aU:=dX 113
def Je:aO:=bx 114 40139
def PR:aO:=bx 114 971
def Gq:aO:=pJ 114 75 59804 935 Je PR
def Sv:aO:=bx 114 15
def aax:aU:=eD 114 116 15 Gq Sv
def acs:aU:=dX 115
def En:aU:=dX 116
def L9:aO:=bx 117 9
def P8:aU:=vK 117 12 L9
def VU:aU:=dX 101
def LF:aO:=bx 118 76363
def Yp:aO:=bx 118 14923
def ac6:aO:=bx 118 459
def Mp:aO:=uP 118 75 119380 14923 467 LF Yp ac6
def Zh:aO:=bx 118 15
def Tw:aU:=eD 118 116 15 Mp Zh
def OJ:aO:=bx 119 75
def ade:aO:=bx 119 15
def WA:aU:=eD 119 116 15 OJ ade
def Gb:aO:=bx 131 151
def UQ:aO:=bx 131 31
def adi:aU:=eD 131 244 31 Gb UQ
def C8:aO:=bx 172 19237
def Ns:aO:=bx 172 3877
def NA:aO:=bx 172 229
def IW:aO:=uP 172 37 26932 3367 211 C8 Ns NA
def Vg:aO:=bx 172 7
def adN:aU:=eD 172 52 7 IW Vg
def i173:aU:=dX 173
def WI:aU:=dX 102
def UT:aU:=dX 103
def Si:aU:=dX 104
def TW:aO:=bx 145 17
def aa9:aO:=bx 145 7
def aa1:aU:=eD 145 24 7 TW aa9
def GH:aO:=bx 159 37
def aaH:aO:=bx 159 7
def Vo:aU:=eD 159 52 7 GH aaH
def RM:aU:=dX 160
def F4:aO:=bx 161 154007
def Uk:aO:=bx 161 31127
def Zk:aO:=bx 161 1943
def OX:aO:=uP 161 151 250676 31335 1959 F4 Uk Zk
def VQ:aO:=bx 161 31
def LQ:aU:=eD 161 244 31 OX VQ
def Sk:aU:=dX 162
def acp:aO:=bx 156 19
def Z6:aU:=vK 156 28 acp
def JG:aO:=bx 157 37
def aav:aO:=bx 157 7
def adC:aU:=eD 157 52 7 JG aav
def RA:aO:=bx 158 19
def U1:aU:=vK 158 28 RA
def JE:aO:=bx 196 37
def Yf:aO:=bx 196 7
def adR:aU:=eD 196 52 7 JE Yf
def R3:aU:=dX 163
def Ju:aO:=bx 179 585
def M7:aO:=bx 179 57
def Ol:aO:=pJ 179 9 804 51 Ju M7
def Y4:aU:=vK 179 12 Ol
def Xm:aU:=dX 185
def KL:aO:=bx 188 585
def Mz:aO:=bx 188 57
def JQ:aO:=pJ 188 9 804 51 KL Mz
def Se:aU:=vK 188 12 JQ
def M9:aO:=bx 197 37
def adr:aO:=bx 197 7
def adG:aU:=eD 197 52 7 M9 adr
def ZT:aU:=dX 205
end Go.Abs
end
namespace Go.Abs
open Go.Proofs
def Dx:aA->Nat->Bool
 |[],_=>false
 |a::r,n=>bif Nat.beq a n then true else Dx r n
def adU:List (Nat×aA)->Nat->aA
 |[],_=>[]
 |(a,l)::r,n=>bif Nat.beq a n then l else adU r n
def akn:aA:=[61,64,66,85,97,98,99,101,103,108,117,118,122,123,145,146,147,148,149,150,151,152,153,156,158,174,176,177,178,179,180,181,182,183,184,186,187,188,189,190,191,192,193,194,195,201,202,203,204,206,207,208,209,210]
def agJ:List (Nat×aA):=[(61,[61,97,98]),(64,[64,99,146,147,148,149,150,151,152,153,174,176,177,178,201]),(66,[66]),(85,[85,122,123]),(97,[97]),(98,[98]),(99,[99,146,147,148,149,150,151,152,153,174,176,177,178,201]),(101,[101,156,176,179,180,181,182,183,184,186,187,202,203,204,209]),(103,[103,158,176,188,189,190,191,192,193,194,195,206,207,208,210]),(108,[108]),(117,[117]),(118,[118]),(122,[122]),(123,[123]),(145,[145]),(146,[146]),(147,[147,174]),(148,[148,176]),(149,[149,177,178,201]),(150,[150]),(151,[151]),(152,[152]),(153,[153]),(156,[156,176,179,180,181,182,183,184,186,187,202,203,204,209]),(158,[158,176,188,189,190,191,192,193,194,195,206,207,208,210]),(174,[174]),(176,[176]),(177,[177,178,201]),(178,[178,201]),(179,[179]),(180,[180,202]),(181,[176,181]),(182,[182,203,204,209]),(183,[183]),(184,[184]),(186,[186]),(187,[187]),(188,[188]),(189,[189,206]),(190,[176,190]),(191,[191,207,208,210]),(192,[192]),(193,[193]),(194,[194]),(195,[195]),(201,[201]),(202,[202]),(203,[203,204,209]),(204,[204,209]),(206,[206]),(207,[207,208,210]),(208,[208,210]),(209,[209]),(210,[210])]
def ak8:aA:=[3,8,17]
def T1(f:Nat)(A:c7):Option (Option RV):=
 bif Nat.beq f 32 then some (Ut A)
 else bif Nat.beq f 34 then some (Tl A)
 else bif Nat.beq f 100 then some (HM A)
 else bif Dx [27,110] f then MR A
 else none
noncomputable def S:Sys:={P:=Tryz.prog,shared:=Dx akn,sites:=adU agJ,lone:=λs=>Dx ak8 (s/64000000),fns:=y8 Tryz.prog,prim:=T1,trig:=MX 64 65,primS:=λ_=>vk jS}
abbrev cy(n:Nat):Prop:=S.shared n=false
def ahS:S.fns 52=some D6:=ah
def X1:cy 52:=rfl
def alA:S.fns 62=some acF:=ah
def yU:cy 62:=rfl
def aez:S.fns 40=some acI:=ah
def RU:cy 40:=rfl
def afx:S.fns 41=some ZN:=ah
def acw:cy 41:=rfl
def ahy:S.fns 120=some Vp:=ah
def MU:cy 120:=rfl
def aqd:S.fns 165=some sM:=ah
def ZE:cy 165:=rfl
def akS:S.fns 121=some Ub:=ah
def afS:cy 121:=rfl
def alS:S.fns 122=some ZA:=ah
def alu:S.fns 123=some Ov:=ah
def amq:S.fns 124=some ad4:=ah
def ao8:cy 124:=rfl
def am4:S.fns 85=some Tb:=ah
def VH:S.fns 95=some pF:=ah
def Kt:cy 95:=rfl
def alX:S.fns 144=some adQ:=ah
def tf:cy 144:=rfl
def apP:S.fns 143=some Xv:=ah
def tu:cy 143:=rfl
def ai2:S.fns 164=some Ob:=ah
def amy:cy 164:=rfl
def aor:S.fns 198=some adm:=ah
def Yg:cy 198:=rfl
def Hg:S.fns 10=some vh:=ah
def agW:cy 10:=rfl
def aiE:S.fns 21=some acz:=ah
def AA:cy 21:=rfl
def ai1:S.fns 24=some Wc:=ah
def E8:cy 24:=rfl
def aoS:S.fns 20=some i20:=ah
def je:cy 20:=rfl
def an2:S.fns 44=some adJ:=ah
def kG:cy 44:=rfl
def aiq:S.fns 70=some XH:=ah
def BZ:cy 70:=rfl
def ajp:S.fns 22=some YW:=ah
def UK:cy 22:=rfl
def al9:S.fns 45=some abn:=ah
def lU:cy 45:=rfl
def aeh:S.fns 71=some WX:=ah
def adZ:cy 71:=rfl
def aiS:S.fns 68=some MC:=ah
def abB:cy 68:=rfl
def aq0:S.fns 46=some i46:=ah
def adT:cy 46:=rfl
def agi:S.fns 72=some ab6:=ah
def I5:cy 72:=rfl
def apZ:S.fns 69=some Od:=ah
def Mg:cy 69:=rfl
def ZP:S.fns 47=some xv:=ah
def Y7:cy 47:=rfl
def arF:S.fns 23=some X2:=ah
def Tt:cy 23:=rfl
def We:S.fns 39=some Vb:=ah
def ZS:cy 39:=rfl
def aci:S.fns 18=some Uz:=ah
def ajv:cy 18:=rfl
def EI:S.fns 9=some i9:=ah
def Dw:cy 9:=rfl
def fq:S.fns 6=some acC:=ah
def adn:cy 6:=rfl
def cP:S.fns 3=some i3:=ah
def B3:cy 3:=rfl
def fv:S.fns 4=some i4:=ah
def xU:cy 4:=rfl
def zr:S.fns 8=some VA:=ah
def Xp:cy 8:=rfl
def uX:S.fns 7=some abQ:=ah
def As:cy 7:=rfl
def NK:S.fns 25=some KQ:=ah
def Z1:cy 25:=rfl
def Vz:S.fns 36=some Sl:=ah
def XC:cy 36:=rfl
def NX:S.fns 59=some Jx:=ah
def Cx:cy 59:=rfl
def anb:S.fns 134=some V6:=ah
def BS:cy 134:=rfl
def ai6:S.fns 170=some acR:=ah
def R_:cy 170:=rfl
def agB:S.fns 171=some i171:=ah
def XW:cy 171:=rfl
def ahM:S.fns 16=some WR:=ah
def apS:cy 16:=rfl
def adY:S.fns 17=some Bg:=ah
def apc:cy 17:=rfl
def ajL:S.fns 19=some Z2:=ah
def ag7:cy 19:=rfl
def yR:S.fns 48=some xi:=ah
def TP:cy 48:=rfl
def apk:S.fns 49=some V5:=ah
def acW:cy 49:=rfl
def ahr:S.fns 50=some GP:=ah
def CA:cy 50:=rfl
def ao2:S.fns 51=some i51:=ah
def Xa:cy 51:=rfl
def amB:S.fns 58=some X4:=ah
def age:cy 58:=rfl
def ux:S.fns 93=some tn:=ah
def FK:cy 93:=rfl
def uz:S.fns 94=some tl:=ah
def OZ:cy 94:=rfl
def amP:S.fns 141=some WY:=ah
def pI:cy 141:=rfl
def anM:S.fns 137=some Q6:=ah
def JY:cy 137:=rfl
def aiJ:S.fns 136=some aaq:=ah
def XN:cy 136:=rfl
def ajg:S.fns 89=some adg:=ah
def agv:cy 89:=rfl
def ae7:S.fns 35=some acO:=ah
def lN:cy 35:=rfl
def kI:cy 37:=rfl
def XU:S.fns 38=some Az:=ah
def VF:cy 38:=rfl
def are:S.fns 42=some OH:=ah
def VJ:cy 42:=rfl
def BC:S.fns 43=some Af:=ah
def afB:cy 43:=rfl
def W_:S.fns 60=some Vl:=ah
def Xg:cy 60:=rfl
def aoK:S.fns 61=some YI:=ah
def arw:S.fns 73=some Mm:=ah
def cV:cy 73:=rfl
def aeN:S.fns 74=some zM:=ah
def XO:S.fns 75=some NF:=ah
def aix:cy 75:=rfl
def aos:S.fns 76=some Ar:=ah
def aqQ:S.fns 77=some FO:=ah
def aiB:S.fns 78=some ac5:=ah
def apI:S.fns 79=some Xe:=ah
def ar5:S.fns 80=some GU:=ah
def akP:S.fns 81=some aap:=ah
def YT:S.fns 82=some xr:=ah
def ai0:S.fns 83=some Zm:=ah
def ab2:cy 83:=rfl
def anm:S.fns 84=some Ve:=ah
def Xq:cy 84:=rfl
def amg:S.fns 90=some O0:=ah
def aiH:cy 90:=rfl
def alV:S.fns 91=some Zr:=ah
def arK:cy 91:=rfl
def aid:S.fns 92=some adl:=ah
def afl:cy 92:=rfl
def afI:S.fns 132=some Mj:=ah
def nu:cy 132:=rfl
def apN:S.fns 133=some adf:=ah
def Y_:cy 133:=rfl
def alF:S.fns 135=some aat:=ah
def Mo:cy 135:=rfl
def aj7:S.fns 138=some Z8:=ah
def Yo:cy 138:=rfl
def aqf:S.fns 139=some adK:=ah
def zO:cy 139:=rfl
def af0:S.fns 140=some abi:=ah
def abX:cy 140:=rfl
def ajj:S.fns 142=some Z4:=ah
def WW:cy 142:=rfl
def aop:S.fns 63=some Vy:=ah
def Wy:cy 63:=rfl
def anI:S.shared 64:=ah
def adV:S.fns 66=some Kq:=ah
def aaR:S.shared 66:=ah
def aiQ:S.fns 67=some acY:=ah
def Ok:cy 67:=rfl
def ag2:S.fns 96=some Kw:=ah
def arO:cy 96:=rfl
def arq:S.fns 97=some Th:=ah
def aqk:S.fns 98=some U3:=ah
def anf:S.fns 105=some acQ:=ah
def dB:cy 105:=rfl
def aa8:S.fns 106=some NZ:=ah
def U4:cy 106:=rfl
def aie:S.fns 108=some N4:=ah
def aj9:S.fns 107=some Ih:=ah
def XF:cy 107:=rfl
def aiM:S.fns 109=some Sr:=ah
def OT:cy 109:=rfl
def akJ:S.fns 110=some XL:=ah
def Aa:cy 110:=rfl
def af8:S.fns 111=some ZL:=ah
def gv:cy 111:=rfl
def aew:S.fns 112=some EC:=ah
def ET:cy 112:=rfl
def ak0:S.fns 113=some aas:=ah
def e_:cy 113:=rfl
def alv:S.fns 114=some aax:=ah
def fm:cy 114:=rfl
def ang:S.fns 115=some acs:=ah
def pL:cy 115:=rfl
def arn:S.fns 116=some En:=ah
def fl:cy 116:=rfl
def afM:S.fns 117=some P8:=ah
def agN:S.fns 101=some VU:=ah
def amm:S.fns 118=some Tw:=ah
def ahz:S.fns 119=some WA:=ah
def alD:cy 119:=rfl
def ahc:S.fns 131=some adi:=ah
def adS:cy 131:=rfl
def afD:S.fns 172=some adN:=ah
def F5:cy 172:=rfl
def ajD:S.fns 173=some i173:=ah
def agb:cy 173:=rfl
def aj4:S.fns 102=some WI:=ah
def acL:S.fns 103=some UT:=ah
def ZO:S.fns 104=some Si:=ah
def aoe:S.fns 145=some aa1:=ah
def aps:S.fns 159=some Vo:=ah
def aaB:cy 159:=rfl
def ahh:S.fns 160=some RM:=ah
def apT:cy 160:=rfl
def afw:S.fns 161=some LQ:=ah
def alT:cy 161:=rfl
def amv:S.fns 162=some Sk:=ah
def ajc:cy 162:=rfl
def aqt:S.fns 156=some Z6:=ah
def aeO:S.shared 156:=ah
def alP:S.fns 157=some adC:=ah
def aqv:cy 157:=rfl
def Y0:S.fns 158=some U1:=ah
def ZC:S.shared 158:=ah
def amn:S.fns 196=some adR:=ah
def abj:cy 196:=rfl
def aiy:S.fns 163=some R3:=ah
def asi:cy 163:=rfl
def ah3:S.fns 179=some Y4:=ah
def aen:S.shared 179:=ah
def alZ:S.fns 185=some Xm:=ah
def XK:cy 185:=rfl
def Zz:S.fns 188=some Se:=ah
def WJ:S.shared 188:=ah
def akT:S.fns 197=some adG:=ah
def aaC:cy 197:=rfl
def ajx:S.fns 205=some ZT:=ah
def aiW:cy 205:=rfl
def asF:cy 5:=rfl
end Go.Abs
