/-
  The program as a system of the abstract machine.
-/
import Derived.Test.YtpfkjhlcoghioaaGreatDoorMf
import Derived.Test.YtpfkjhlcoghioaaGreatDoorProg
import Derived.Test.YtpfkjhlcoghioaaGreatDoorMd
set_option linter.all false
open List renaming length->I
set_option maxRecDepth 100000
noncomputable section
namespace Go.Abs
open Go.Proofs
def Q9{α:Type}:List α->Nat->Option α
  | [],_ => none
  | a::l,n => match n with | 0 => some a | n+1 => Q9 l n
def ai0{α:Type}:List (Nat×α)->Nat->Option α
  | [],_ => none
  | (k,a)::l,n => bif Nat.beq k n then some a else ai0 l n
noncomputable def ar9(s:Nat)(o:Oper):s4 := match o.op with
  | .build t ps => (match Tryz.prog.underlying t,Ct Tryz.prog t with | some (.struct fs),some z => ((Ef (λi => (Q9 fs.toList i).map λf => (f.offset,Tryz.prog.cellsOf f.type)) (I z) ps.toList).map (.build z)).getD .bad | _,_ => KM Tryz.prog s o)
  | .binOp op t x y _ => (match Tryz.prog.underlying t,dr x,dr y with | some (.struct fs),some a,some b =>.eqc (.str (fs.toList.map λf => (Wk Tryz.prog f.type).getD false)) (match op with | .neq => true | _ => false) a b | _,_,_ => KM Tryz.prog s o)
  | _ => KM Tryz.prog s o
noncomputable def aa6(a:aD)(j:Nat):List Edge->Nat->Nat
  | [],s => s
  | e::r,s => match (bif Region.binds .any e then Nat.lor (Nat.lor s (Nat.pow 2 e.on)) ((Q9 a (j-1-e.on)).getD 0)else s)with | 0 => aa6 a j r 0 | m+1 => aa6 a j r (m+1)
noncomputable def amN(O:List Oper)(b s i:Nat)(o:Oper):lI := ⟨o.dst,ar9 ((s+i)*64) o,(match o.guard with | none => none | some (j,w) => (match Q9 O j with | some x => (match x.dst with | some t => some (t,w) | none => none) | none => none)),b⟩
noncomputable def aeU(d:Bool)(O:List Oper)(s:Nat):aD->Nat->List Oper->fx
  | _,_,[] => []
  | a,i,o::r => match (bif d then aa6 a i o.after.toList 0 else 0)with | 0 => amN O 0 s i o::aeU d O s (0::a) (i+1) r | m+1 => amN O (m+1) s i o::aeU d O s ((m+1)::a) (i+1) r
abbrev NF(B:List (Nat×aM))(p:Nat)(y:aM):aM := match ai0 B p with | some x => x | none => y
noncomputable def Hf(f:Nat)(B:List (Nat×aM)):Code->Nat->aM
  | .region id O D,_ =>.region D (aeU D O.toList ((f*1000+id)*1000) [] 0 O.toList)
  | .seq a b,p =>.seq (NF B (2*p) (Hf f B a (2*p))) (NF B (2*p+1) (Hf f B b (2*p+1)))
  | .cond c a b,p => match dr c with | some c =>.cond c (NF B (2*p) (Hf f B a (2*p))) (NF B (2*p+1) (Hf f B b (2*p+1))) | none =>.bad
  | .block i c,p =>.block i (NF B (2*p) (Hf f B c (2*p)))
  | .loop c,p =>.loop (NF B (2*p) (Hf f B c (2*p)))
  | .exit i,_ =>.exit i
  | .scope c,p => Hf f B c p
  | .ret,_ =>.ret
  | .label _,_ =>.skip
  | .skip,_ =>.skip
  | _,_ =>.bad
noncomputable def Nv(f:Nat)(B:List (Nat×aM)):aS := match Q9 Tryz.prog.funcs.toList f with
  | some fn => (match fn.body with | some c => ⟨fn.ntmps,(CA Tryz.prog fn.results.toList).getD [],Hf f B c 1⟩ | none => ⟨0,[],.bad⟩)
  | none => ⟨0,[],.bad⟩
noncomputable def ez:aM->Nat->aM
  | .seq a b,q => bif Nat.beq q 1 then .seq a b else bif Nat.beq (q%2) 0 then ez a (q/2)else ez b (q/2)
  | .cond x a b,q => bif Nat.beq q 1 then .cond x a b else bif Nat.beq (q%2) 0 then ez a (q/2)else ez b (q/2)
  | .block i a,q => bif Nat.beq q 1 then .block i a else ez a (q/2)
  | .loop a,q => bif Nat.beq q 1 then .loop a else ez a (q/2)
  | c,_ => c
abbrev Su(f:Nat)(B:List (Nat×aM))(q:Nat):aM := ez (Nv f B).body q
def dU(n:Nat){g:aS}(_:Nv n []=g := by conv => lhs; reduce; try simp only [Int.reduceOfNat,Int.reduceNegSucc]):aS := g
def zZ(n f:Nat)(y:aM){g:aM->aS}(_:(λx => Nv n [(f,x)])=g := by conv => lhs; reduce; try simp only [Int.reduceOfNat,Int.reduceNegSucc]):aS := g y
def fi(n h f:Nat)(y Y:aM){g:aM->aM->aS}(_:(λx X => Nv n [(h,x),(f,X)])=g := by conv => lhs; reduce; try simp only [Int.reduceOfNat,Int.reduceNegSucc]):aS := g y Y
def ajQ(n h f j:Nat)(y m Y:aM){g:aM->aM->aM->aS}(_:(λx X u => Nv n [(h,x),(f,X),(j,u)])=g := by conv => lhs; reduce; try simp only [Int.reduceOfNat,Int.reduceNegSucc]):aS := g y m Y
def ais(n E m u f j h v:Nat)(D Y M F A N y:aM){g:aM->aM->aM->aM->aM->aM->aM->aS}(_:(λx L z X x4 B H => Nv n [(E,x),(m,L),(u,z),(f,X),(j,x4),(h,B),(v,H)])=g := by conv => lhs; reduce; try simp only [Int.reduceOfNat,Int.reduceNegSucc]):aS := g D Y M F A N y
def bl(n q:Nat){g:aM}(_:Su n [] q=g := by conv => lhs; reduce; try simp only [Int.reduceOfNat,Int.reduceNegSucc]):aM := g
def agr(n q f:Nat)(y:aM){g:aM->aM}(_:(λx => Su n [(f,x)] q)=g := by conv => lhs; reduce; try simp only [Int.reduceOfNat,Int.reduceNegSucc]):aM := g y
def ti(n q h f:Nat)(y Y:aM){g:aM->aM->aM}(_:(λx X => Su n [(h,x),(f,X)] q)=g := by conv => lhs; reduce; try simp only [Int.reduceOfNat,Int.reduceNegSucc]):aM := g y Y
def BI(n q h f j:Nat)(y m Y:aM){g:aM->aM->aM->aM}(_:(λx X u => Su n [(h,x),(f,X),(j,u)] q)=g := by conv => lhs; reduce; try simp only [Int.reduceOfNat,Int.reduceNegSucc]):aM := g y m Y
def aha(n q z j m f h:Nat)(v y D A Y:aM){g:aM->aM->aM->aM->aM->aM}(_:(λx B u X x4 => Su n [(z,x),(j,B),(m,u),(f,X),(h,x4)] q)=g := by conv => lhs; reduce; try simp only [Int.reduceOfNat,Int.reduceNegSucc]):aM := g v y D A Y
attribute [go_sem] dU zZ fi ajQ ais bl agr ti BI aha
abbrev L8(d a:Nat):lI:=⟨some d,.rm (.t a),none,0⟩
abbrev zr(d:Nat)(x:s4):lI:=⟨some d,x,none,0⟩
abbrev C8(l:fx):aM:=.region false l
def K_:aS:=dU 79
def abS:aM:=bl 112 75
def akk:aM:=bl 112 15
def aoC:aS:=fi 112 116 15 abS akk
def Xx:aM:=bl 73 75
def aqs:aM:=bl 73 15
def ans:aS:=fi 73 116 15 Xx aqs
def alN:aS:=dU 74
def aj6:aS:=dU 163
def Cp:aS:=dU 198
def YI:aS:=dU 164
def WI:aM:=bl 165 607
def abm:aM:=bl 165 4863
def Jb:aM:=bl 165 38911
def akG:aM:=bl 165 8191
def ab5:aM:=ti 165 1023 65524 8191 Jb akG
def ac6:aM:=ti 165 127 8180 1023 abm ab5
def amE:aS:=fi 165 1012 127 WI ac6
def AS:aM:=bl 166 303
def afC:aM:=bl 166 63
def adT:aS:=fi 166 500 63 AS afC
def SH:aM:=bl 167 324399
def Z8:aM:=bl 167 3887
def Uc:aM:=ti 167 303 512828 4007 SH Z8
def akO:aM:=bl 167 63
def agq:aS:=fi 167 500 63 Uc akO
def Eu:aM:=bl 125 75
def aev:aM:=bl 125 15
def aa4:aS:=fi 125 116 15 Eu aev
def Sz:aS:=dU 144
def ahx:aS:=dU 190
def aoi:aS:=dU 189
def apZ:aS:=dU 197
def Tu:aM:=bl 227 37
def ah0:aM:=bl 227 7
def amx:aS:=fi 227 52 7 Tu ah0
def DE:aS:=dU 11
def aeo:aM:=bl 38 75
def aqe:aM:=bl 38 15
def afX:aS:=fi 38 116 15 aeo aqe
def apf:aS:=dU 32
def Z2:aM:=bl 37 75
def af8:aM:=bl 37 15
def i37:aS:=fi 37 116 15 Z2 af8
def Vh:aM:=bl 35 75
def ajF:aM:=bl 35 15
def aob:aS:=fi 35 116 15 Vh ajF
def ael:aM:=bl 102 75
def ap0:aM:=bl 102 15
def agT:aS:=fi 102 116 15 ael ap0
def Al:aM:=bl 39 19237
def aah:aM:=bl 39 3877
def agP:aM:=bl 39 229
def abZ:aM:=BI 39 37 26932 3367 211 Al aah agP
def anh:aM:=bl 39 7
def aqc:aS:=fi 39 52 7 abZ anh
def Xh:aM:=bl 69 75
def ams:aM:=bl 69 15
def ag7:aS:=fi 69 116 15 Xh ams
def Mz:aM:=bl 108 37
def al5:aM:=bl 108 7
def agR:aS:=fi 108 52 7 Mz al5
def SZ:aS:=dU 106
def P9:aM:=bl 70 17995
def Jk:aM:=bl 70 7755
def acj:aM:=bl 70 459
def OS:aM:=BI 70 75 29848 7463 467 P9 Jk acj
def aay:aM:=bl 70 15
def aik:aS:=fi 70 116 15 OS aay
def MI:aM:=bl 109 37
def ahq:aM:=bl 109 7
def abV:aS:=fi 109 52 7 MI ahq
def XS:aS:=dU 107
def OX:aS:=dU 71
def PT:aM:=bl 40 153903
def ac1:aM:=bl 40 31023
def VR:aM:=bl 40 1839
def VU:aM:=BI 40 303 256308 32039 2003 PT ac1 VR
def afM:aM:=bl 40 63
def an5:aS:=fi 40 500 63 VU afM
def OT:aM:=bl 72 1215
def XZ:aM:=bl 72 255
def adz:aS:=fi 72 2036 255 OT XZ
def PS:aM:=bl 41 607
def YC:aM:=bl 41 314559
def akQ:aM:=bl 41 15551
def Um:aM:=ti 41 1215 521420 16295 YC akQ
def Ve:aM:=bl 41 255
def Wu:aM:=ti 41 127 2036 255 Um Ve
def abi:aS:=fi 41 1012 127 PS Wu
def Tb:aS:=dU 12
def adW:aS:=dU 6
def Vk:aM:=bl 61 75
def al9:aM:=bl 61 15
def aaB:aS:=fi 61 116 15 Vk al9
def i3:aS:=dU 3
def i4:aS:=dU 4
def adn:aS:=dU 7
def OZ:aM:=bl 9 309207
def aou:aM:=bl 9 63447
def wX:aM:=bl 9 31
def i9:aS:=ajQ 9 503732 62967 31 OZ aou wX
def aqo:aS:=dU 10
def acn:aM:=bl 8 75
def ax9:aM:=bl 8 15
def aft:aS:=fi 8 116 15 acn ax9
def TK:aS:=dU 42
def aby:aS:=dU 19
def i20:aS:=dU 20
def aiA:aS:=dU 23
def ago:aS:=dU 24
def aiG:aS:=dU 26
def WO:aM:=bl 25 75
def anj:aM:=bl 25 15
def akr:aS:=fi 25 116 15 WO anj
def WM:aM:=bl 27 19
def aa2:aS:=zZ 27 28 WM
def acH:aS:=dU 28
def akN:aS:=dU 29
def af7:aS:=dU 30
def XL:aM:=bl 31 4755
def anx:aM:=bl 31 915
def anb:aM:=bl 31 115
def T5:aM:=BI 31 19 7316 915 115 XL anx anb
def ad5:aS:=zZ 31 28 T5
def agN:aS:=dU 33
def agx:aS:=dU 34
def akE:aS:=dU 36
def O3:aM:=bl 21 38348287
def adV:aM:=bl 21 3745279
def Ox:aM:=ti 21 599551 67062052 4191379 O3 adV
def Yi:aM:=bl 21 58879
def Jn:aM:=ti 21 9727 1047844 65491 Ox Yi
def PG:aM:=bl 21 2047
def Jy:aS:=fi 21 16372 2047 Jn PG
def aoD:aS:=dU 18
def V3:aM:=bl 17 2516479
def aqX:aM:=bl 17 124415
def ang:aM:=ti 17 9727 4191436 130983 V3 aqX
def ags:aM:=bl 17 2047
def ai8:aS:=fi 17 16372 2047 ang ags
def ai1:aS:=dU 22
def ap3:aS:=dU 44
def aoe:aS:=dU 105
def Ov:aS:=dU 75
def afg:aS:=dU 76
def O_:aS:=dU 77
def Uq:aM:=bl 78 151
def aac:aM:=bl 78 31
def aek:aS:=fi 78 244 31 Uq aac
def RZ:aM:=bl 55 307807
def aoj:aM:=bl 55 62047
def ajj:aM:=bl 55 3679
def ae5:aM:=BI 55 607 518452 64807 4051 RZ aoj ajj
def aku:aM:=bl 55 127
def aib:aS:=fi 55 1012 127 ae5 aku
def amF:aM:=C8 [L8 9 5,zr 10 (.bin .eql (.t 9) (.k (.one (.p (.str ⟨#[]⟩))))),L8 11 10,⟨(some 12),.rm (.t 5),(some (11,false)),0⟩,⟨(some 13),.call 3584128256 (.k (.one (.p (.fn 59 [] [])))) [.t 12,.k (.one (.p (.int .u8 66)))],(some (11,false)),0⟩,⟨(some 14),.un .not (.t 13),(some (11,false)),0⟩,⟨(some 15),.rm (.t 14),(some (11,false)),0⟩,⟨(some 16),.EB 2 (.t 3),(some (15,true)),0⟩,⟨(some 17),.load none (.t 16),(some (15,true)),0⟩,⟨(some 18),.bin .neq (.t 17) (.i 0),(some (15,true)),0⟩,⟨(some 19),.pick (.t 15) (.t 18) (.b false),(some (11,false)),0⟩,zr 20 (.pick (.t 11) (.b true) (.t 19)),L8 21 20,⟨(some 22),.rm (.t 5),(some (21,false)),0⟩,⟨(some 23),.call 3584128896 (.k (.one (.p (.fn 59 [] [])))) [.t 22,.k (.one (.p (.int .u8 67)))],(some (21,false)),0⟩, ⟨(some 24),.un .not (.t 23),(some (21,false)),0⟩,⟨(some 25),.rm (.t 24),(some (21,false)),0⟩,⟨(some 26),.EB 3 (.t 3),(some (25,true)),0⟩,⟨(some 27),.load none (.t 26),(some (25,true)),0⟩,⟨(some 28),.bin .neq (.t 27) (.i 0),(some (25,true)),0⟩,⟨(some 29),.pick (.t 25) (.t 28) (.b false),(some (21,false)),0⟩,zr 30 (.pick (.t 21) (.b true) (.t 29)),L8 31 30,⟨(some 32),.rm (.t 5),(some (31,false)),0⟩,⟨(some 33),.call 3584129536 (.k (.one (.p (.fn 59 [] [])))) [.t 32,.k (.one (.p (.int .u8 76)))],(some (31,false)),0⟩,⟨(some 34),.un .not (.t 33),(some (31,false)),0⟩,⟨(some 35),.rm (.t 34),(some (31,false)),0⟩,⟨(some 36),.EB 4 (.t 3),(some (35,true)),0⟩,⟨(some 37),.load none (.t 36),(some (35,true)),0⟩,⟨(some 38),.pick (.t 35) (.t 37) (.b false),(some (31,false)),0⟩,zr 39 (.pick (.t 31) (.b true) (.t 38)),L8 40 39,⟨(some 41),.rm (.t 5),(some (40,false)),0⟩, ⟨(some 42),.call 3584130112 (.k (.one (.p (.fn 59 [] [])))) [.t 41,.k (.one (.p (.int .u8 79)))],(some (40,false)),0⟩,⟨(some 43),.un .not (.t 42),(some (40,false)),0⟩,⟨(some 44),.rm (.t 43),(some (40,false)),0⟩,⟨(some 45),.EB 5 (.t 3),(some (44,true)),0⟩,⟨(some 46),.load none (.t 45),(some (44,true)),0⟩,⟨(some 47),.pick (.t 44) (.t 46) (.b false),(some (40,false)),0⟩,zr 48 (.pick (.t 40) (.b true) (.t 47)),L8 49 48,⟨(some 50),.rm (.t 5),(some (49,false)),0⟩,⟨(some 51),.call 3584130688 (.k (.one (.p (.fn 59 [] [])))) [.t 50,.k (.one (.p (.int .u8 83)))],(some (49,false)),0⟩,⟨(some 52),.un .not (.t 51),(some (49,false)),0⟩,⟨(some 53),.rm (.t 52),(some (49,false)),0⟩,⟨(some 54),.EB 6 (.t 3),(some (53,true)),0⟩,⟨(some 55),.load none (.t 54),(some (53,true)),0⟩,⟨(some 56),.bin .neq (.t 55) (.i 0),(some (53,true)),0⟩,⟨(some 57),.pick (.t 53) (.t 56) (.b false),(some (49,false)),0⟩, zr 58 (.pick (.t 49) (.b true) (.t 57))]
attribute [go_sem] amF
def abA:aS:=zZ 56 28 amF
def Ax:aS:=dU 57
def aes:aM:=bl 63 75
def amJ:aM:=bl 63 15
def afs:aS:=fi 63 116 15 aes amJ
def S5:aM:=bl 64 37
def alM:aM:=bl 64 7
def i64:aS:=fi 64 52 7 S5 alM
def SY:aM:=bl 66 151
def agQ:aM:=bl 66 31
def aaM:aS:=fi 66 244 31 SY agQ
def Ou:aM:=bl 65 37
def agY:aM:=bl 65 7
def alI:aS:=fi 65 52 7 Ou agY
def aop:aS:=dU 67
def RU:aM:=bl 68 37
def aiS:aM:=bl 68 7
def an8:aS:=fi 68 52 7 RU aiS
def ap7:aM:=C8 [zr 2 (.rm (.k (.one (.p (.str ⟨#[]⟩)))))]
attribute [go_sem] ap7
def an1:aM:=C8 [zr 2 (.rm (.k (.one (.p (.str ⟨#[65]⟩)))))]
attribute [go_sem] an1
def amY:aM:=C8 [zr 2 (.rm (.k (.one (.p (.str ⟨#[65,66,67]⟩)))))]
attribute [go_sem] amY
def alK:aM:=C8 [zr 2 (.rm (.k (.one (.p (.str ⟨#[65,66]⟩)))))]
attribute [go_sem] alK
def alH:aM:=C8 [zr 2 (.rm (.k (.one (.p (.str ⟨#[65,79,83]⟩)))))]
attribute [go_sem] alH
def amT:aM:=C8 [zr 2 (.rm (.k (.one (.p (.str ⟨#[65,66,76,79]⟩)))))]
attribute [go_sem] amT
def akl:aM:=C8 [zr 2 (.rm (.k (.one (.p (.str ⟨#[]⟩)))))]
attribute [go_sem] akl
def aiC:aS:=ais 58 2 212 860 3452 13820 55292 14 ap7 an1 amY alK alH amT akl
def Tk:aM:=bl 60 4793535
def aoL:aM:=bl 60 468159
def aeN:aM:=ti 60 74943 8341796 521363 Tk aoL
def aok:aM:=bl 60 7359
def UH:aM:=ti 60 1215 130340 8147 aeN aok
def aeX:aM:=bl 60 255
def N3:aS:=fi 60 2036 255 UH aeX
def acJ:aM:=bl 53 599
def ae6:aM:=bl 53 4895535
def W4:aM:=bl 53 10400559
def akK:aM:=agr 53 963375 16410300 W4
def Yn:aM:=bl 53 4961071
def Tl:aM:=bl 53 5153731375
def ah2:aM:=bl 53 254784303
def abf:aM:=ti 53 19903279 8402105548 262565799 Tl ah2
def Hm:aM:=bl 53 3887
def wM:aM:=aha 53 303 8205140 1025643 8205172 32820724 4007 ae6 akK Yn abf Hm
def HM:aM:=bl 53 63
def HC:aM:=ti 53 31 500 63 wM HM
def i53:aS:=fi 53 980 31 acJ HC
def alu:aS:=dU 52
def VG:aM:=bl 54 75
def akM:aM:=bl 54 15
def aey:aS:=fi 54 116 15 VG akM
def KO:aM:=bl 62 19607
def amc:aM:=bl 62 919
def akX:aM:=ti 62 151 31308 979 KO amc
def alc:aM:=bl 62 31
def anZ:aS:=fi 62 244 31 akX alc
def Q1:aM:=bl 110 151
def ad3:aM:=bl 110 31
def aaa:aS:=fi 110 244 31 Q1 ad3
def Rd:aM:=bl 111 303
def afj:aM:=bl 111 63
def aj8:aS:=fi 111 500 63 Rd afj
def ab0:aS:=dU 113
def Hp:aS:=dU 114
def Ik:aM:=bl 115 607
def aaV:aM:=bl 115 127
def adS:aS:=fi 115 1012 127 Ik aaV
def adR:aM:=bl 116 2431
def akb:aM:=bl 116 511
def Jv:aS:=fi 116 4084 511 adR akb
def PR:aS:=dU 117
def alT:aS:=dU 118
def agS:aS:=dU 119
def afa:aS:=dU 120
def Q_:aM:=bl 121 303
def apQ:aM:=bl 121 63
def anv:aS:=fi 121 500 63 Q_ apQ
def E5:aS:=dU 122
def Vg:aM:=bl 123 37
def af0:aM:=bl 123 7
def ahE:aS:=fi 123 52 7 Vg af0
def ae3:aS:=dU 124
def aaf:aS:=dU 90
def N_:aM:=bl 91 75
def aet:aM:=bl 91 15
def ajG:aS:=fi 91 116 15 N_ aet
def Rl:aM:=bl 92 75
def aej:aM:=bl 92 15
def apc:aS:=fi 92 116 15 Rl aej
def Uh:aS:=dU 93
def ahY:aS:=dU 94
def al8:aS:=dU 95
def ajl:aS:=dU 96
def aly:aS:=dU 97
def apH:aS:=dU 98
def D6:aM:=bl 99 303
def KT:aM:=bl 99 63
def aif:aS:=fi 99 500 63 D6 KT
def O5:aM:=bl 88 76363
def am9:aM:=bl 88 14923
def YD:aM:=bl 88 459
def Rg:aM:=BI 88 75 119380 14923 467 O5 am9 YD
def apV:aM:=bl 88 15
def UT:aS:=fi 88 116 15 Rg apV
def Rk:aM:=bl 89 309655
def agB:aM:=bl 89 63895
def GP:aM:=bl 89 1943
def abD:aM:=BI 89 151 501364 62671 1959 Rk agB GP
def aiy:aM:=bl 89 31
def ao2:aS:=fi 89 244 31 abD aiy
def Fu:aM:=bl 85 40139
def Wq:aM:=bl 85 971
def I9:aM:=ti 85 75 59804 935 Fu Wq
def YL:aM:=bl 85 15
def ach:aS:=fi 85 116 15 I9 YL
def L9:aM:=bl 100 151
def abk:aM:=bl 100 31
def adr:aS:=fi 100 244 31 L9 abk
def abr:aM:=bl 101 151
def agn:aM:=bl 101 31
def af3:aS:=fi 101 244 31 abr agn
def apj:aS:=dU 103
def TQ:aM:=bl 104 37
def aqd:aM:=bl 104 7
def aks:aS:=fi 104 52 7 TQ aqd
def VN:aS:=dU 145
def Tc:aM:=bl 146 9
def aaI:aS:=zZ 146 12 Tc
def U8:aM:=bl 147 9
def aeG:aS:=zZ 147 12 U8
def anJ:aS:=dU 148
def Jd:aM:=bl 149 75
def aeM:aM:=bl 149 15
def abj:aS:=fi 149 116 15 Jd aeM
def I3:aM:=bl 151 9
def aei:aS:=zZ 151 12 I3
def abz:aS:=dU 150
def aav:aS:=dU 152
def apF:aS:=dU 153
def apy:aS:=dU 154
def VC:aS:=dU 155
def akA:aS:=dU 156
def TC:aM:=bl 157 40139
def ab3:aM:=bl 157 971
def OK:aM:=ti 157 75 59804 935 TC ab3
def acX:aM:=bl 157 15
def apG:aS:=fi 157 116 15 OK acX
def apD:aS:=dU 158
def Kv:aS:=dU 159
def VD:aM:=bl 160 9
def aa3:aS:=zZ 160 12 VD
def ak0:aS:=dU 135
def UB:aM:=bl 161 76363
def anV:aM:=bl 161 14923
def ajt:aM:=bl 161 459
def Ue:aM:=BI 161 75 119380 14923 467 UB anV ajt
def afT:aM:=bl 161 15
def acF:aS:=fi 161 116 15 Ue afT
def acf:aM:=bl 162 75
def ajg:aM:=bl 162 15
def akD:aS:=fi 162 116 15 acf ajg
def Pl:aM:=bl 139 151
def ab2:aM:=bl 139 31
def ap4:aS:=fi 139 244 31 Pl ab2
def KU:aM:=bl 140 19237
def SN:aM:=bl 140 3877
def YF:aM:=bl 140 229
def Te:aM:=BI 140 37 26932 3367 211 KU SN YF
def aaL:aM:=bl 140 7
def amf:aS:=fi 140 52 7 Te aaL
def aho:aS:=dU 141
def akY:aS:=dU 136
def aaD:aS:=dU 137
def abE:aS:=dU 138
def Lz:aM:=bl 129 151
def YB:aM:=bl 129 31
def aaQ:aS:=fi 129 244 31 Lz YB
def ao6:aS:=dU 131
def Rs:aM:=bl 130 151
def aqr:aM:=bl 130 31
def ahh:aS:=fi 130 244 31 Rs aqr
def Vc:aM:=bl 132 37
def afK:aM:=bl 132 7
def am5:aS:=fi 132 52 7 Vc afK
def ah7:aS:=dU 143
def UY:aM:=bl 142 37
def afm:aM:=bl 142 7
def akz:aS:=fi 142 52 7 UY afm
def adO:aM:=bl 191 17
def ag2:aM:=bl 191 7
def agZ:aS:=fi 191 24 7 adO ag2
def Rc:aM:=bl 192 37
def agX:aM:=bl 192 7
def agI:aS:=fi 192 52 7 Rc agX
def acV:aS:=dU 193
def PE:aM:=bl 194 154007
def aea:aM:=bl 194 31127
def afu:aM:=bl 194 1943
def YO:aM:=BI 194 151 250676 31335 1959 PE aea afu
def anR:aM:=bl 194 31
def SJ:aS:=fi 194 244 31 YO anR
def Xy:aS:=dU 195
def ant:aM:=bl 186 19
def alX:aS:=zZ 186 28 ant
def Tj:aM:=bl 187 37
def afx:aM:=bl 187 7
def ahf:aS:=fi 187 52 7 Tj afx
def aba:aM:=bl 188 19
def abq:aS:=zZ 188 28 aba
def Pk:aM:=bl 174 9
def W6:aS:=zZ 174 12 Pk
def LN:aS:=dU 175
def Tn:aM:=bl 225 37
def alw:aM:=bl 225 7
def ala:aS:=fi 225 52 7 Tn alw
def aeW:aS:=dU 196
def Uf:aM:=bl 208 585
def Xl:aM:=bl 208 57
def ac4:aM:=ti 208 9 804 51 Uf Xl
def ahp:aS:=zZ 208 12 ac4
def ake:aS:=dU 214
def TO:aM:=bl 217 585
def TD:aM:=bl 217 57
def T1:aM:=ti 217 9 804 51 TO TD
def ae4:aS:=zZ 217 12 T1
def VZ:aM:=bl 226 37
def ajK:aM:=bl 226 7
def ag3:aS:=fi 226 52 7 VZ ajK
def ai2:aS:=dU 234
end Go.Abs
end
namespace Go.Abs
open Go.Proofs
def IT:aD->Nat->Bool
 |[],_=>false
 |a::r,n=>bif Nat.beq a n then true else IT r n
def anz:List (Nat×aD)->Nat->aD
 |[],_=>[]
 |(a,l)::r,n=>bif Nat.beq a n then l else anz r n
def aAt:aD:=[27,28,30,31,86,88,111,125,133,135,137,146,147,151,160,161,165,166,174,176,177,178,179,180,181,182,183,186,188,191,203,205,206,207,208,209,210,211,212,213,215,216,217,218,219,220,221,222,223,224,230,231,232,233,235,236,237,238,239]
def awa:List (Nat×aD):=[(27,[27]),(28,[27,28]),(30,[30]),(31,[31]),(86,[86,133,176,177,178,179,180,181,182,183,203,205,206,207,230]),(88,[88]),(111,[111,146,147]),(125,[125,165,166]),(133,[133,176,177,178,179,180,181,182,183,203,205,206,207,230]),(135,[135,186,205,208,209,210,211,212,213,215,216,231,232,233,238]),(137,[137,188,205,217,218,219,220,221,222,223,224,235,236,237,239]),(146,[146]),(147,[147]),(151,[151]),(160,[160]),(161,[161]),(165,[165]),(166,[166]),(174,[174]),(176,[176]),(177,[177,203]),(178,[178,205]),(179,[179,206,207,230]),(180,[180]),(181,[181]),(182,[182]),(183,[183]),(186,[186,205,208,209,210,211,212,213,215,216,231,232,233,238]),(188,[188,205,217,218,219,220,221,222,223,224,235,236,237,239]),(191,[191]),(203,[203]),(205,[205]),(206,[206,207,230]),(207,[207,230]),(208,[208]),(209,[209,231]),(210,[205,210]),(211,[211,232,233,238]),(212,[212]),(213,[213]),(215,[215]),(216,[216]),(217,[217]),(218,[218,235]),(219,[205,219]),(220,[220,236,237,239]),(221,[221]),(222,[222]),(223,[223]),(224,[224]),(230,[230]),(231,[231]),(232,[232,233,238]),(233,[233,238]),(235,[235]),(236,[236,237,239]),(237,[237,239]),(238,[238]),(239,[239])]
def akw:aD:=[85,62,3,21,8,17,6,22,104]
def abo(f:Nat)(A:dG):Option (Option RV):=
 bif Nat.beq f 49 then some (acO A)
 else bif Nat.beq f 51 then some (adN A)
 else bif Nat.beq f 134 then some (UP A)
 else bif IT [44,153] f then VO A
 else none
noncomputable def S:Sys:={P:=Tryz.prog,shared:=IT aAt,sites:=anz awa,lone:=λs=>IT akw (s/64000000),fns:=Gb Tryz.prog,prim:=abo,trig:=TP 86 87,primS:=λ_=>CP oD}
abbrev cO(n:Nat):Prop:=S.shared n=false
def aEK:S.fns 79=some K_:=ah
def abH:cO 79:=rfl
def aqS:S.fns 112=some aoC:=ah
def J4:cO 112:=rfl
def aGI:S.fns 73=some ans:=ah
def adp:cO 73:=rfl
def aq3:S.fns 74=some alN:=ah
def ahz:cO 74:=rfl
def awJ:S.fns 163=some aj6:=ah
def aHj:cO 163:=rfl
def aDr:S.fns 198=some Cp:=ah
def aiO:cO 198:=rfl
def axt:S.fns 164=some YI:=ah
def aBA:cO 164:=rfl
def aFj:S.fns 165=some amE:=ah
def auW:S.fns 166=some adT:=ah
def awD:S.fns 167=some agq:=ah
def aGD:cO 167:=rfl
def aCM:S.fns 125=some aa4:=ah
def ak9:S.fns 144=some Sz:=ah
def YP:cO 144:=rfl
def arl:S.fns 190=some ahx:=ah
def aex:cO 190:=rfl
def aGA:S.fns 189=some aoi:=ah
def ac9:cO 189:=rfl
def azr:S.fns 197=some apZ:=ah
def aAS:cO 197:=rfl
def asy:S.fns 227=some amx:=ah
def avC:cO 227:=rfl
def ME:S.fns 11=some DE:=ah
def q_:cO 11:=rfl
def awe:S.fns 38=some afX:=ah
def Og:cO 38:=rfl
def aGK:S.fns 32=some apf:=ah
def Sa:cO 32:=rfl
def auf:S.fns 37=some i37:=ah
def CB:cO 37:=rfl
def ars:S.fns 35=some aob:=ah
def WL:cO 35:=rfl
def ayG:S.fns 102=some agT:=ah
def GS:cO 102:=rfl
def asb:S.fns 39=some aqc:=ah
def ako:cO 39:=rfl
def aE4:S.fns 69=some ag7:=ah
def aC8:cO 69:=rfl
def awj:S.fns 108=some agR:=ah
def aFP:cO 108:=rfl
def aB2:S.fns 106=some SZ:=ah
def apI:cO 106:=rfl
def awx:S.fns 70=some aik:=ah
def amM:cO 70:=rfl
def aiP:S.fns 109=some abV:=ah
def Ua:cO 109:=rfl
def ayI:S.fns 107=some XS:=ah
def Z5:cO 107:=rfl
def afh:S.fns 71=some OX:=ah
def aql:cO 71:=rfl
def aqW:S.fns 40=some an5:=ah
def ajZ:cO 40:=rfl
def ag1:S.fns 72=some adz:=ah
def agm:cO 72:=rfl
def agf:S.fns 41=some abi:=ah
def Wy:cO 41:=rfl
def BN:S.fns 12=some Tb:=ah
def aoF:cO 12:=rfl
def fZ:S.fns 6=some adW:=ah
def aph:cO 6:=rfl
def anr:S.fns 61=some aaB:=ah
def arM:cO 61:=rfl
def c4:S.fns 3=some i3:=ah
def xj:cO 3:=rfl
def fv:S.fns 4=some i4:=ah
def Bl:cO 4:=rfl
def Bo:S.fns 7=some adn:=ah
def afy:cO 7:=rfl
def tc:S.fns 9=some i9:=ah
def aaN:cO 9:=rfl
def R8:S.fns 10=some aqo:=ah
def atS:cO 10:=rfl
def Hv:S.fns 8=some aft:=ah
def auB:cO 8:=rfl
def aeB:S.fns 42=some TK:=ah
def KB:cO 42:=rfl
def ajn:S.fns 19=some aby:=ah
def tQ:cO 19:=rfl
def adF:S.fns 20=some i20:=ah
def MY:cO 20:=rfl
def aGR:S.fns 23=some aiA:=ah
def yS:cO 23:=rfl
def axs:S.fns 24=some ago:=ah
def F1:cO 24:=rfl
def arq:S.fns 26=some aiG:=ah
def yf:cO 26:=rfl
def arJ:S.fns 25=some akr:=ah
def LY:cO 25:=rfl
def agi:S.fns 27=some aa2:=ah
def O0:S.shared 27:=ah
def als:S.fns 28=some acH:=ah
def agw:S.shared 28:=ah
def awl:S.fns 29=some akN:=ah
def afN:cO 29:=rfl
def aBV:S.fns 30=some af7:=ah
def Pq:S.shared 30:=ah
def aiZ:S.fns 31=some ad5:=ah
def Vb:S.shared 31:=ah
def aso:S.fns 33=some agN:=ah
def aeq:cO 33:=rfl
def art:S.fns 34=some agx:=ah
def as7:cO 34:=rfl
def aqV:S.fns 36=some akE:=ah
def ya:cO 36:=rfl
def aiI:S.fns 21=some Jy:=ah
def arC:cO 21:=rfl
def aD8:S.fns 18=some aoD:=ah
def ax1:cO 18:=rfl
def aHf:S.fns 17=some ai8:=ah
def aEe:cO 17:=rfl
def axO:S.fns 22=some ai1:=ah
def ao3:cO 22:=rfl
def aCZ:S.fns 44=some ap3:=ah
def aeV:cO 44:=rfl
def aCf:S.fns 105=some aoe:=ah
def Z3:cO 105:=rfl
def Ui:S.fns 75=some Ov:=ah
def aam:cO 75:=rfl
def aDs:S.fns 76=some afg:=ah
def agU:cO 76:=rfl
def aFZ:S.fns 77=some O_:=ah
def L3:cO 77:=rfl
def awN:S.fns 78=some aek:=ah
def ahO:cO 78:=rfl
def asu:S.fns 55=some aib:=ah
def aEF:cO 55:=rfl
def apd:S.fns 56=some abA:=ah
def P7:cO 56:=rfl
def Co:S.fns 57=some Ax:=ah
def XD:cO 57:=rfl
def aDn:S.fns 63=some afs:=ah
def asJ:cO 63:=rfl
def ML:S.fns 64=some i64:=ah
def uy:cO 64:=rfl
def aHc:S.fns 66=some aaM:=ah
def Ro:cO 66:=rfl
def aD0:S.fns 65=some alI:=ah
def ad7:cO 65:=rfl
def axg:S.fns 67=some aop:=ah
def ahi:cO 67:=rfl
def axi:S.fns 68=some an8:=ah
def amK:cO 68:=rfl
def aBJ:S.fns 58=some aiC:=ah
def Ti:cO 58:=rfl
def KW:cO 59:=rfl
def ahF:S.fns 60=some N3:=ah
def ahS:cO 60:=rfl
def J3:S.fns 53=some i53:=ah
def atN:cO 53:=rfl
def avp:S.fns 52=some alu:=ah
def aai:cO 52:=rfl
def aj0:S.fns 54=some aey:=ah
def aoh:cO 54:=rfl
def aAm:S.fns 62=some anZ:=ah
def axq:cO 62:=rfl
def akg:S.fns 110=some aaa:=ah
def aol:cO 110:=rfl
def asC:S.fns 111=some aj8:=ah
def azz:S.fns 113=some ab0:=ah
def Lq:cO 113:=rfl
def az7:S.fns 114=some Hp:=ah
def amb:S.fns 115=some adS:=ah
def aGk:cO 115:=rfl
def aGB:S.fns 116=some Jv:=ah
def asc:S.fns 117=some PR:=ah
def aBe:S.fns 118=some alT:=ah
def auV:S.fns 119=some agS:=ah
def auU:S.fns 120=some afa:=ah
def aez:cO 120:=rfl
def azq:S.fns 121=some anv:=ah
def ak7:S.fns 122=some E5:=ah
def az6:S.fns 123=some ahE:=ah
def aoK:cO 123:=rfl
def aBu:S.fns 124=some ae3:=ah
def anL:cO 124:=rfl
def aA9:S.fns 90=some aaf:=ah
def awT:cO 90:=rfl
def aAP:S.fns 91=some ajG:=ah
def aGU:cO 91:=rfl
def awb:S.fns 92=some apc:=ah
def arF:cO 92:=rfl
def axX:S.fns 93=some Uh:=ah
def atZ:cO 93:=rfl
def azd:S.fns 94=some ahY:=ah
def avZ:cO 94:=rfl
def aq0:S.fns 95=some al8:=ah
def ajd:cO 95:=rfl
def at7:S.fns 96=some ajl:=ah
def apY:cO 96:=rfl
def aGF:S.fns 97=some aly:=ah
def NA:cO 97:=rfl
def aFs:S.fns 98=some apH:=ah
def anW:cO 98:=rfl
def auc:S.fns 99=some aif:=ah
def amS:cO 99:=rfl
def asE:S.shared 86:=ah
def aiv:S.fns 88=some UT:=ah
def ahk:S.shared 88:=ah
def axE:S.fns 89=some ao2:=ah
def YZ:cO 89:=rfl
def al2:S.fns 85=some ach:=ah
def aEq:cO 85:=rfl
def alz:S.fns 100=some adr:=ah
def aox:cO 100:=rfl
def atI:S.fns 101=some af3:=ah
def ard:cO 101:=rfl
def aEG:S.fns 103=some apj:=ah
def ayC:cO 103:=rfl
def azc:S.fns 104=some aks:=ah
def aCB:cO 104:=rfl
def aDb:S.fns 145=some VN:=ah
def aud:cO 145:=rfl
def aGC:S.fns 146=some aaI:=ah
def aCa:S.fns 147=some aeG:=ah
def arY:S.fns 148=some anJ:=ah
def oK:cO 148:=rfl
def alU:S.fns 149=some abj:=ah
def abL:cO 149:=rfl
def awo:S.fns 151=some aei:=ah
def auI:S.fns 150=some abz:=ah
def afA:cO 150:=rfl
def aGb:S.fns 152=some aav:=ah
def Y5:cO 152:=rfl
def aCU:S.fns 153=some apF:=ah
def Gj:cO 153:=rfl
def azw:S.fns 154=some apy:=ah
def Ie:cO 154:=rfl
def au8:S.fns 155=some VC:=ah
def Lm:cO 155:=rfl
def aFG:S.fns 156=some akA:=ah
def Oo:cO 156:=rfl
def aAJ:S.fns 157=some apG:=ah
def aoO:cO 157:=rfl
def axL:S.fns 158=some apD:=ah
def aa8:cO 158:=rfl
def aEp:S.fns 159=some Kv:=ah
def L_:cO 159:=rfl
def auv:S.fns 160=some aa3:=ah
def aAv:S.fns 135=some ak0:=ah
def arR:S.fns 161=some acF:=ah
def aBy:S.fns 162=some akD:=ah
def axy:cO 162:=rfl
def aFn:S.fns 139=some ap4:=ah
def amq:cO 139:=rfl
def asv:S.fns 140=some amf:=ah
def adx:cO 140:=rfl
def aB0:S.fns 141=some aho:=ah
def aDE:cO 141:=rfl
def aw5:S.fns 136=some akY:=ah
def amD:S.fns 137=some aaD:=ah
def ajH:S.fns 138=some abE:=ah
def ahX:S.fns 129=some aaQ:=ah
def ajN:cO 129:=rfl
def aul:S.fns 131=some ao6:=ah
def Xi:cO 131:=rfl
def aCS:S.fns 130=some ahh:=ah
def Y0:cO 130:=rfl
def ar4:S.fns 132=some am5:=ah
def ajP:cO 132:=rfl
def aER:S.fns 143=some ah7:=ah
def axz:cO 143:=rfl
def axH:S.fns 142=some akz:=ah
def atr:cO 142:=rfl
def aAZ:S.fns 191=some agZ:=ah
def avL:S.fns 192=some agI:=ah
def agH:cO 192:=rfl
def auY:S.fns 193=some acV:=ah
def aFu:cO 193:=rfl
def aum:S.fns 194=some SJ:=ah
def axh:cO 194:=rfl
def azY:S.fns 195=some Xy:=ah
def aCE:cO 195:=rfl
def aDJ:S.fns 186=some alX:=ah
def aDc:S.shared 186:=ah
def aHa:S.fns 187=some ahf:=ah
def aGQ:cO 187:=rfl
def ajM:S.fns 188=some abq:=ah
def ag0:S.shared 188:=ah
def af9:S.fns 174=some W6:=ah
def aon:S.shared 174:=ah
def Oz:S.fns 175=some LN:=ah
def aFH:cO 175:=rfl
def aw3:S.fns 225=some ala:=ah
def ajq:cO 225:=rfl
def aBh:S.fns 196=some aeW:=ah
def aCq:cO 196:=rfl
def axr:S.fns 208=some ahp:=ah
def aEO:S.shared 208:=ah
def aFz:S.fns 214=some ake:=ah
def aoQ:cO 214:=rfl
def afd:S.fns 217=some ae4:=ah
def ail:S.shared 217:=ah
def awg:S.fns 226=some ag3:=ah
def ah1:cO 226:=rfl
def aCY:S.fns 234=some ai2:=ah
def aAi:cO 234:=rfl
def Xa:cO 5:=rfl
end Go.Abs
