/-
  The program as a system of the abstract machine.
-/
import Derived.Test.YtnhlfpanllllgaaGreatDoorMf
import Derived.Test.YtnhlfpanllllgaaGreatDoorProg
set_option linter.all false
open List renaming length->I
set_option maxRecDepth 100000
noncomputable section
namespace Go.Abs
open Go.Proofs
def NR{α:Type}:List α->Nat->Option α
  | [],_ => none
  | a::l,n => match n with | 0 => some a | n+1 => NR l n
def ajJ{α:Type}:List (Nat×α)->Nat->Option α
  | [],_ => none
  | (k,a)::l,n => bif Nat.beq k n then some a else ajJ l n
noncomputable def arV(s:Nat)(o:Oper):rK := match o.op with
  | .build t ps => (match Tryz.prog.underlying t,wv Tryz.prog t with | some (.struct fs),some z => ((CW (λi => (NR fs.toList i).map λf => (f.offset,Tryz.prog.cellsOf f.type)) (I z) ps.toList).map (.build z)).getD .bad | _,_ => Ko Tryz.prog s o)
  | .binOp op t x y _ => (match Tryz.prog.underlying t,dy x,dy y with | some (.struct fs),some a,some b =>.eqc (.str (fs.toList.map λf => (UW Tryz.prog f.type).getD false)) (match op with | .neq => true | _ => false) a b | _,_,_ => Ko Tryz.prog s o)
  | _ => Ko Tryz.prog s o
noncomputable def abd(a:aG)(j:Nat):List Edge->Nat->Nat
  | [],s => s
  | e::r,s => match (bif Region.binds .any e then Nat.lor (Nat.lor s (Nat.pow 2 e.on)) ((NR a (j-1-e.on)).getD 0)else s)with | 0 => abd a j r 0 | m+1 => abd a j r (m+1)
noncomputable def am0(O:List Oper)(b s i:Nat)(o:Oper):iP := ⟨o.dst,arV ((s+i)*64) o,(match o.guard with | none => none | some (j,w) => (match NR O j with | some x => (match x.dst with | some t => some (t,w) | none => none) | none => none)),b⟩
noncomputable def aaH(d:Bool)(O:List Oper)(s:Nat):aG->Nat->List Oper->eZ
  | _,_,[] => []
  | a,i,o::r => match (bif d then abd a i o.after.toList 0 else 0)with | 0 => am0 O 0 s i o::aaH d O s (0::a) (i+1) r | m+1 => am0 O (m+1) s i o::aaH d O s ((m+1)::a) (i+1) r
abbrev LH(B:List (Nat×aP))(p:Nat)(y:aP):aP := match ajJ B p with | some x => x | none => y
noncomputable def EY(f:Nat)(B:List (Nat×aP)):Code->Nat->aP
  | .region id O D,_ =>.region D (aaH D O.toList ((f*1000+id)*1000) [] 0 O.toList)
  | .seq a b,p =>.seq (LH B (2*p) (EY f B a (2*p))) (LH B (2*p+1) (EY f B b (2*p+1)))
  | .cond c a b,p => match dy c with | some c =>.cond c (LH B (2*p) (EY f B a (2*p))) (LH B (2*p+1) (EY f B b (2*p+1))) | none =>.bad
  | .block i c,p =>.block i (LH B (2*p) (EY f B c (2*p)))
  | .loop c,p =>.loop (LH B (2*p) (EY f B c (2*p)))
  | .exit i,_ =>.exit i
  | .scope c,p => EY f B c p
  | .ret,_ =>.ret
  | .label _,_ =>.skip
  | .skip,_ =>.skip
  | _,_ =>.bad
noncomputable def H2(f:Nat)(B:List (Nat×aP)):aV := match NR Tryz.prog.funcs.toList f with
  | some fn => (match fn.body with | some c => ⟨fn.ntmps,(BN Tryz.prog fn.results.toList).getD [],EY f B c 1⟩ | none => ⟨0,[],.bad⟩)
  | none => ⟨0,[],.bad⟩
noncomputable def fh:aP->Nat->aP
  | .seq a b,q => bif Nat.beq q 1 then .seq a b else bif Nat.beq (q%2) 0 then fh a (q/2)else fh b (q/2)
  | .cond x a b,q => bif Nat.beq q 1 then .cond x a b else bif Nat.beq (q%2) 0 then fh a (q/2)else fh b (q/2)
  | .block i a,q => bif Nat.beq q 1 then .block i a else fh a (q/2)
  | .loop a,q => bif Nat.beq q 1 then .loop a else fh a (q/2)
  | c,_ => c
abbrev Qz(f:Nat)(B:List (Nat×aP))(q:Nat):aP := fh (H2 f B).body q
def ep(n:Nat){g:aV}(_:H2 n []=g := by conv => lhs; reduce; try simp only [Int.reduceOfNat,Int.reduceNegSucc]):aV := g
def vY(n f:Nat)(y:aP){g:aP->aV}(_:(λx => H2 n [(f,x)])=g := by conv => lhs; reduce; try simp only [Int.reduceOfNat,Int.reduceNegSucc]):aV := g y
def eN(n h f:Nat)(y Y:aP){g:aP->aP->aV}(_:(λx X => H2 n [(h,x),(f,X)])=g := by conv => lhs; reduce; try simp only [Int.reduceOfNat,Int.reduceNegSucc]):aV := g y Y
def akp(n h f j:Nat)(y m Y:aP){g:aP->aP->aP->aV}(_:(λx X u => H2 n [(h,x),(f,X),(j,u)])=g := by conv => lhs; reduce; try simp only [Int.reduceOfNat,Int.reduceNegSucc]):aV := g y m Y
def aim(n F m u f j h z:Nat)(E Y N H B O y:aP){g:aP->aP->aP->aP->aP->aP->aP->aV}(_:(λx M A X x4 D L => H2 n [(F,x),(m,M),(u,A),(f,X),(j,x4),(h,D),(z,L)])=g := by conv => lhs; reduce; try simp only [Int.reduceOfNat,Int.reduceNegSucc]):aV := g E Y N H B O y
def ans(n M m u f j h z F:Nat)(L A R N E T y Y:aP){g:aP->aP->aP->aP->aP->aP->aP->aP->aV}(_:(λx Q D X x4 H O B => H2 n [(M,x),(m,Q),(u,D),(f,X),(j,x4),(h,H),(z,O),(F,B)])=g := by conv => lhs; reduce; try simp only [Int.reduceOfNat,Int.reduceNegSucc]):aV := g L A R N E T y Y
def bk(n q:Nat){g:aP}(_:Qz n [] q=g := by conv => lhs; reduce; try simp only [Int.reduceOfNat,Int.reduceNegSucc]):aP := g
def Rf(n q f:Nat)(y:aP){g:aP->aP}(_:(λx => Qz n [(f,x)] q)=g := by conv => lhs; reduce; try simp only [Int.reduceOfNat,Int.reduceNegSucc]):aP := g y
def qw(n q h f:Nat)(y Y:aP){g:aP->aP->aP}(_:(λx X => Qz n [(h,x),(f,X)] q)=g := by conv => lhs; reduce; try simp only [Int.reduceOfNat,Int.reduceNegSucc]):aP := g y Y
def BM(n q h f j:Nat)(y m Y:aP){g:aP->aP->aP->aP}(_:(λx X u => Qz n [(h,x),(f,X),(j,u)] q)=g := by conv => lhs; reduce; try simp only [Int.reduceOfNat,Int.reduceNegSucc]):aP := g y m Y
def agM(n q A j m f h:Nat)(z y E B Y:aP){g:aP->aP->aP->aP->aP->aP}(_:(λx D u X x4 => Qz n [(A,x),(j,D),(m,u),(f,X),(h,x4)] q)=g := by conv => lhs; reduce; try simp only [Int.reduceOfNat,Int.reduceNegSucc]):aP := g z y E B Y
attribute [go_sem] ep vY eN akp aim ans bk Rf qw BM agM
abbrev ur(d a:Nat):iP:=⟨some d,.nv (.t a),none,0⟩
abbrev of(d f a:Nat):iP:=⟨some d,.Ca f (.t a),none,0⟩
abbrev RU(d a:Nat):iP:=⟨some d,.load none (.t a),none,0⟩
abbrev tR(d s a:Nat):iP:=⟨some d,.load (some s) (.t a),none,0⟩
abbrev nE(d:Nat)(x:rK):iP:=⟨some d,x,none,0⟩
abbrev Uv(d s f:Nat)(a:sM):iP:=⟨some d,.call s (.k (.one (.p (.fn f [] [])))) a,none,0⟩
abbrev ayI(d a n:Nat):iP:=⟨some d,.nv (.t a),none,n⟩
abbrev acM(d a n:Nat):iP:=⟨some d,.load none (.t a),none,n⟩
abbrev wg(d s f:Nat)(a:sM)(n:Nat):iP:=⟨some d,.call s (.k (.one (.p (.fn f [] [])))) a,none,n⟩
abbrev od(d:Nat)(k:Int):iP:=⟨some d,.nv (.i k),none,0⟩
abbrev Up(d:Nat)(b:BinOp)(x y:Nat):iP:=⟨some d,.bin b (.t x) (.t y),none,0⟩
abbrev ar9(d:Nat)(b:BinOp)(x y n:Nat):iP:=⟨some d,.bin b (.t x) (.t y),none,n⟩
abbrev aCc(d a:Nat):iP:=⟨some d,.Qu (.t a),none,0⟩
abbrev rS(l:eZ):aP:=.region false l
abbrev aAI(l:eZ):aP:=.region true l
abbrev OW(d:Nat)(x:rK)(n:Nat):iP:=⟨some d,x,none,n⟩
def WZ:aV:=ep 33
def Mt:aV:=ep 39
def UJ:aP:=bk 76 75
def ant:aP:=bk 76 15
def aeY:aV:=eN 76 116 15 UJ ant
def R2:aP:=bk 119 75
def aoP:aP:=bk 119 15
def agx:aV:=eN 119 116 15 R2 aoP
def aeT:aV:=ep 120
def akD:aV:=ep 111
def xO:aV:=ep 141
def ad4:aV:=ep 112
def UF:aP:=bk 113 607
def Wu:aP:=bk 113 4863
def HQ:aP:=bk 113 38911
def alC:aP:=bk 113 8191
def Xq:aP:=qw 113 1023 65524 8191 HQ alC
def acI:aP:=qw 113 127 8180 1023 Wu Xq
def alv:aV:=eN 113 1012 127 UF acI
def xx:aP:=bk 114 303
def ait:aP:=bk 114 63
def abV:aV:=eN 114 500 63 xx ait
def Rh:aP:=bk 115 324399
def aa3:aP:=bk 115 3887
def TZ:aP:=qw 115 303 512828 4007 Rh aa3
def ag2:aP:=bk 115 63
def anJ:aV:=eN 115 500 63 TZ ag2
def Df:aP:=bk 77 75
def ac9:aP:=bk 77 15
def Y8:aV:=eN 77 116 15 Df ac9
def uo:aV:=ep 142
def akK:aV:=ep 169
def anW:aV:=ep 168
def acC:aV:=ep 140
def QP:aP:=bk 167 37
def ah8:aP:=bk 167 7
def af1:aV:=eN 167 52 7 QP ah8
def AB:aV:=ep 28
def SC:aP:=bk 49 75
def ao2:aP:=bk 49 15
def afQ:aV:=eN 49 116 15 SC ao2
def alZ:aV:=ep 52
def Ur:aP:=bk 48 75
def anT:aP:=bk 48 15
def akF:aV:=eN 48 116 15 Ur anT
def Qm:aP:=bk 87 75
def akI:aP:=bk 87 15
def ah1:aV:=eN 87 116 15 Qm akI
def Vh:aP:=bk 55 75
def aof:aP:=bk 55 15
def ahR:aV:=eN 55 116 15 Vh aof
def vm:aP:=bk 50 19237
def om:aP:=bk 50 3877
def am6:aP:=bk 50 229
def abn:aP:=BM 50 37 26932 3367 211 vm om am6
def akl:aP:=bk 50 7
def amq:aV:=eN 50 52 7 abn akl
def Nb:aP:=bk 88 75
def ang:aP:=bk 88 15
def ajS:aV:=eN 88 116 15 Nb ang
def KJ:aP:=bk 130 37
def ap8:aP:=bk 130 7
def agT:aV:=eN 130 52 7 KJ ap8
def Vb:aV:=ep 128
def Kz:aP:=bk 89 17995
def Ga:aP:=bk 89 7755
def aaf:aP:=bk 89 459
def Ob:aP:=BM 89 75 29848 7463 467 Kz Ga aaf
def aav:aP:=bk 89 15
def aoV:aV:=eN 89 116 15 Ob aav
def IA:aP:=bk 91 37
def aoQ:aP:=bk 91 7
def aba:aV:=eN 91 52 7 IA aoQ
def aaX:aV:=ep 129
def C4:aV:=ep 90
def M3:aP:=bk 51 153903
def acd:aP:=bk 51 31023
def Sz:aP:=bk 51 1839
def Q3:aP:=BM 51 303 256308 32039 2003 M3 acd Sz
def amy:aP:=bk 51 63
def i51:aV:=eN 51 500 63 Q3 amy
def Oz:aP:=bk 118 1215
def aaE:aP:=bk 118 255
def aco:aV:=eN 118 2036 255 Oz aaE
def PK:aP:=bk 82 607
def aaV:aP:=bk 82 314559
def alL:aP:=bk 82 15551
def VI:aP:=qw 82 1215 521420 16295 aaV alL
def RX:aP:=bk 82 255
def TN:aP:=qw 82 127 2036 255 VI RX
def abO:aV:=eN 82 1012 127 PK TN
def abm:aV:=ep 41
def acG:aV:=ep 45
def SQ:aP:=bk 15 75
def aib:aP:=bk 15 15
def adL:aV:=eN 15 116 15 SQ aib
def MS:aP:=bk 60 309207
def aoF:aP:=bk 60 63447
def DM:aP:=bk 60 31
def Ea:aV:=akp 60 503732 62967 31 MS aoF DM
def Wv:aP:=bk 13 75
def aqf:aP:=bk 13 15
def aic:aV:=eN 13 116 15 Wv aqf
def aa5:aV:=ep 83
def aa1:aV:=ep 96
def Ty:aV:=ep 163
def al4:aV:=ep 97
def apv:aV:=ep 98
def anb:aV:=ep 100
def VZ:aP:=bk 99 75
def agl:aP:=bk 99 15
def ahZ:aV:=eN 99 116 15 VZ agl
def TE:aP:=bk 101 19
def Ws:aV:=vY 101 28 TE
def aeo:aV:=ep 103
def akW:aV:=ep 104
def acB:aP:=bk 105 4755
def an9:aP:=bk 105 915
def agc:aP:=bk 105 115
def Su:aP:=BM 105 19 7316 915 115 acB an9 agc
def adV:aV:=vY 105 28 Su
def agw:aV:=ep 108
def aej:aP:=bk 95 38348287
def alA:aP:=bk 95 3745279
def aas:aP:=qw 95 599551 67062052 4191379 aej alA
def aid:aP:=bk 95 58879
def RB:aP:=qw 95 9727 1047844 65491 aas aid
def WJ:aP:=bk 95 2047
def UG:aV:=eN 95 16372 2047 RB WJ
def JC:aP:=bk 86 19607
def Ll:aP:=bk 86 919
def HM:aP:=qw 86 151 31308 979 JC Ll
def aew:aP:=bk 86 31
def ab1:aV:=eN 86 244 31 HM aew
def agH:aV:=ep 69
def aiD:aV:=ep 58
def Fk:aV:=ep 121
def aku:aV:=ep 122
def M9:aV:=ep 123
def Sj:aP:=bk 124 151
def Xv:aP:=bk 124 31
def aeO:aV:=eN 124 244 31 Sj Xv
def NT:aP:=bk 134 307807
def aip:aP:=bk 134 62047
def aaJ:aP:=bk 134 3679
def ac0:aP:=BM 134 607 518452 64807 4051 NT aip aaJ
def ahr:aP:=bk 134 127
def afV:aV:=eN 134 1012 127 ac0 ahr
def aoU:aP:=rS [ur 9 5,nE 10 (.bin .eql (.t 9) (.k (.one (.p (.str ⟨#[]⟩))))),ur 11 10,⟨(some 12),.nv (.t 5),(some (11,false)),0⟩,⟨(some 13),.call 12672128256 (.k (.one (.p (.fn 132 [] [])))) [.t 12,.k (.one (.p (.int .u8 66)))],(some (11,false)),0⟩,⟨(some 14),.un .not (.t 13),(some (11,false)),0⟩,⟨(some 15),.nv (.t 14),(some (11,false)),0⟩,⟨(some 16),.Ca 2 (.t 3),(some (15,true)),0⟩,⟨(some 17),.load none (.t 16),(some (15,true)),0⟩,⟨(some 18),.bin .neq (.t 17) (.i 0),(some (15,true)),0⟩,⟨(some 19),.pick (.t 15) (.t 18) (.b false),(some (11,false)),0⟩,nE 20 (.pick (.t 11) (.b true) (.t 19)),ur 21 20,⟨(some 22),.nv (.t 5),(some (21,false)),0⟩,⟨(some 23),.call 12672128896 (.k (.one (.p (.fn 132 [] [])))) [.t 22,.k (.one (.p (.int .u8 67)))],(some (21,false)),0⟩, ⟨(some 24),.un .not (.t 23),(some (21,false)),0⟩,⟨(some 25),.nv (.t 24),(some (21,false)),0⟩,⟨(some 26),.Ca 3 (.t 3),(some (25,true)),0⟩,⟨(some 27),.load none (.t 26),(some (25,true)),0⟩,⟨(some 28),.bin .neq (.t 27) (.i 0),(some (25,true)),0⟩,⟨(some 29),.pick (.t 25) (.t 28) (.b false),(some (21,false)),0⟩,nE 30 (.pick (.t 21) (.b true) (.t 29)),ur 31 30,⟨(some 32),.nv (.t 5),(some (31,false)),0⟩,⟨(some 33),.call 12672129536 (.k (.one (.p (.fn 132 [] [])))) [.t 32,.k (.one (.p (.int .u8 76)))],(some (31,false)),0⟩,⟨(some 34),.un .not (.t 33),(some (31,false)),0⟩,⟨(some 35),.nv (.t 34),(some (31,false)),0⟩,⟨(some 36),.Ca 4 (.t 3),(some (35,true)),0⟩,⟨(some 37),.load none (.t 36),(some (35,true)),0⟩,⟨(some 38),.pick (.t 35) (.t 37) (.b false),(some (31,false)),0⟩,nE 39 (.pick (.t 31) (.b true) (.t 38)),ur 40 39,⟨(some 41),.nv (.t 5),(some (40,false)),0⟩, ⟨(some 42),.call 12672130112 (.k (.one (.p (.fn 132 [] [])))) [.t 41,.k (.one (.p (.int .u8 79)))],(some (40,false)),0⟩,⟨(some 43),.un .not (.t 42),(some (40,false)),0⟩,⟨(some 44),.nv (.t 43),(some (40,false)),0⟩,⟨(some 45),.Ca 5 (.t 3),(some (44,true)),0⟩,⟨(some 46),.load none (.t 45),(some (44,true)),0⟩,⟨(some 47),.pick (.t 44) (.t 46) (.b false),(some (40,false)),0⟩,nE 48 (.pick (.t 40) (.b true) (.t 47)),ur 49 48,⟨(some 50),.nv (.t 5),(some (49,false)),0⟩,⟨(some 51),.call 12672130688 (.k (.one (.p (.fn 132 [] [])))) [.t 50,.k (.one (.p (.int .u8 83)))],(some (49,false)),0⟩,⟨(some 52),.un .not (.t 51),(some (49,false)),0⟩,⟨(some 53),.nv (.t 52),(some (49,false)),0⟩,⟨(some 54),.Ca 6 (.t 3),(some (53,true)),0⟩,⟨(some 55),.load none (.t 54),(some (53,true)),0⟩,⟨(some 56),.bin .neq (.t 55) (.i 0),(some (53,true)),0⟩,⟨(some 57),.pick (.t 53) (.t 56) (.b false),(some (49,false)),0⟩, nE 58 (.pick (.t 49) (.b true) (.t 57))]
attribute [go_sem] aoU
def L_:aV:=vY 198 28 aoU
def Iy:aV:=ep 199
def aaO:aP:=bk 135 75
def apY:aP:=bk 135 15
def alx:aV:=eN 135 116 15 aaO apY
def Rr:aP:=bk 136 37
def ah3:aP:=bk 136 7
def als:aV:=eN 136 52 7 Rr ah3
def apI:aV:=ep 139
def Oy:aP:=bk 92 37
def aoG:aP:=bk 92 7
def ao3:aV:=eN 92 52 7 Oy aoG
def al3:aP:=rS [nE 2 (.nv (.k (.one (.p (.str ⟨#[]⟩)))))]
attribute [go_sem] al3
def aqd:aP:=rS [nE 2 (.nv (.k (.one (.p (.str ⟨#[65]⟩)))))]
attribute [go_sem] aqd
def aj9:aP:=rS [nE 2 (.nv (.k (.one (.p (.str ⟨#[65,66,67]⟩)))))]
attribute [go_sem] aj9
def afY:aP:=rS [nE 2 (.nv (.k (.one (.p (.str ⟨#[65,66]⟩)))))]
attribute [go_sem] afY
def agA:aP:=rS [nE 2 (.nv (.k (.one (.p (.str ⟨#[65,79,83]⟩)))))]
attribute [go_sem] agA
def an8:aP:=rS [nE 2 (.nv (.k (.one (.p (.str ⟨#[65,66,76,79]⟩)))))]
attribute [go_sem] an8
def ajY:aP:=rS [nE 2 (.nv (.k (.one (.p (.str ⟨#[]⟩)))))]
attribute [go_sem] ajY
def aHF:aV:=aim 131 2 212 860 3452 13820 55292 14 al3 aqd aj9 afY agA an8 ajY
def ay0:aP:=bk 132 37
def aqT:aP:=bk 132 7
def aHC:aV:=eN 132 52 7 ay0 aqT
def aDO:aP:=bk 133 4793535
def aDq:aP:=bk 133 468159
def aEF:aP:=qw 133 74943 8341796 521363 aDO aDq
def avC:aP:=bk 133 7359
def auK:aP:=qw 133 1215 130340 8147 aEF avC
def auR:aP:=bk 133 255
def aef:aV:=eN 133 2036 255 auK auR
def aeC:aV:=ep 126
def aDA:aP:=bk 127 599
def aqJ:aP:=bk 127 4895535
def aAs:aP:=bk 127 10400559
def azp:aP:=Rf 127 963375 16410300 aAs
def aBL:aP:=bk 127 4961071
def aC8:aP:=bk 127 5153731375
def aup:aP:=bk 127 254784303
def ay5:aP:=qw 127 19903279 8402105548 262565799 aC8 aup
def O0:aP:=bk 127 3887
def FB:aP:=agM 127 303 8205140 1025643 8205172 32820724 4007 aqJ azp aBL ay5 O0
def Q_:aP:=bk 127 63
def Uj:aP:=qw 127 31 500 63 FB Q_
def Sq:aV:=eN 127 980 31 aDA Uj
def aiw:aV:=ep 23
def Gh:aP:=bk 29 19607
def aeH:aP:=bk 29 919
def UN:aP:=qw 29 151 31308 979 Gh aeH
def aix:aP:=bk 29 31
def alk:aV:=eN 29 244 31 UN aix
def QJ:aP:=bk 143 151
def Wt:aP:=bk 143 31
def Z7:aV:=eN 143 244 31 QJ Wt
def NU:aP:=bk 144 303
def ape:aP:=bk 144 63
def apQ:aV:=eN 144 500 63 NU ape
def Ut:aV:=ep 145
def EP:aV:=ep 146
def abw:aP:=bk 148 2431
def anx:aP:=bk 148 511
def HT:aV:=eN 148 4084 511 abw anx
def N1:aV:=ep 149
def aoC:aV:=ep 151
def On:aP:=bk 153 303
def ah7:aP:=bk 153 63
def apu:aV:=eN 153 500 63 On ah7
def Ry:aP:=bk 155 37
def agj:aP:=bk 155 7
def alI:aV:=eN 155 52 7 Ry agj
def abx:aV:=ep 156
def Xa:aV:=ep 164
def P5:aP:=bk 165 75
def aee:aP:=bk 165 15
def amS:aV:=eN 165 116 15 P5 aee
def Oq:aP:=bk 166 75
def Wk:aP:=bk 166 15
def anK:aV:=eN 166 116 15 Oq Wk
def S_:aV:=ep 224
def agD:aV:=ep 226
def amK:aV:=ep 227
def amc:aV:=ep 228
def aoY:aV:=ep 229
def Cb:aP:=bk 230 303
def KG:aP:=bk 230 63
def anL:aV:=eN 230 500 63 Cb KG
def SL:aP:=bk 158 37
def agh:aP:=bk 158 7
def apq:aV:=eN 158 52 7 SL agh
def Ow:aP:=bk 162 309655
def aj4:aP:=bk 162 63895
def EE:aP:=bk 162 1943
def abk:aP:=BM 162 151 501364 62671 1959 Ow aj4 EE
def ak6:aP:=bk 162 31
def ak5:aV:=eN 162 244 31 abk ak6
def BB:aP:=bk 40 40139
def OK:aP:=bk 40 971
def H9:aP:=qw 40 75 59804 935 BB OK
def acY:aP:=bk 40 15
def adO:aV:=eN 40 116 15 H9 acY
def KR:aP:=bk 53 151
def Y9:aP:=bk 53 31
def i53:aV:=eN 53 244 31 KR Y9
def ab8:aP:=bk 54 151
def alj:aP:=bk 54 31
def ao7:aV:=eN 54 244 31 ab8 alj
def ak3:aV:=ep 56
def VN:aP:=bk 57 37
def ao5:aP:=bk 57 7
def agq:aV:=eN 57 52 7 VN ao5
def Vn:aV:=ep 170
def QZ:aP:=bk 171 9
def i171:aV:=vY 171 12 QZ
def Se:aP:=bk 172 9
def aeD:aV:=vY 172 12 Se
def i173:aV:=ep 173
def Gv:aP:=bk 174 75
def aau:aP:=bk 174 15
def aeq:aV:=eN 174 116 15 Gv aau
def G_:aP:=bk 176 9
def aeE:aV:=vY 176 12 G_
def Tv:aV:=ep 175
def apW:aV:=ep 178
def J4:aV:=ep 180
def ald:aV:=ep 181
def RW:aP:=bk 182 40139
def abT:aP:=bk 182 971
def MG:aP:=qw 182 75 59804 935 RW abT
def aaB:aP:=bk 182 15
def ahB:aV:=eN 182 116 15 MG aaB
def JM:aV:=ep 184
def amo:aV:=ep 186
def RC:aP:=bk 187 76363
def aff:aP:=bk 187 14923
def amM:aP:=bk 187 459
def Q9:aP:=BM 187 75 119380 14923 467 RC aff amM
def afW:aP:=bk 187 15
def Xl:aV:=eN 187 116 15 Q9 afW
def abf:aP:=bk 188 75
def anX:aP:=bk 188 15
def akT:aV:=eN 188 116 15 abf anX
def P2:aP:=bk 200 151
def aei:aP:=bk 200 31
def alb:aV:=eN 200 244 31 P2 aei
def JV:aP:=bk 257 19237
def SO:aP:=bk 257 3877
def abW:aP:=bk 257 229
def VW:aP:=BM 257 37 26932 3367 211 JV SO abW
def abY:aP:=bk 257 7
def alH:aV:=eN 257 52 7 VW abY
def ao9:aV:=ep 258
def ae3:aV:=ep 195
def aeG:aV:=ep 196
def aeA:aV:=ep 197
def JZ:aP:=bk 78 151
def aam:aP:=bk 78 31
def ad9:aV:=eN 78 244 31 JZ aam
def amH:aV:=ep 80
def N0:aP:=bk 79 151
def ahM:aP:=bk 79 31
def ahs:aV:=eN 79 244 31 N0 ahM
def TA:aP:=bk 81 37
def ajX:aP:=bk 81 7
def alq:aV:=eN 81 52 7 TA ajX
def Y_:aV:=ep 94
def RS:aP:=bk 93 37
def ag8:aP:=bk 93 7
def aik:aV:=eN 93 52 7 RS ag8
def ab6:aP:=bk 201 17
def ap1:aP:=bk 201 7
def af6:aV:=eN 201 24 7 ab6 ap1
def adG:aV:=ep 203
def Np:aP:=bk 204 154007
def adJ:aP:=bk 204 31127
def apR:aP:=bk 204 1943
def aan:aP:=BM 204 151 250676 31335 1959 Np adJ apR
def afJ:aP:=bk 204 31
def Rq:aV:=eN 204 244 31 aan afJ
def abq:aV:=ep 205
def aqc:aP:=bk 207 19
def ank:aV:=vY 207 28 aqc
def VA:aP:=bk 222 37
def am8:aP:=bk 222 7
def anq:aV:=eN 222 52 7 VA am8
def WG:aP:=bk 223 19
def WM:aV:=vY 223 28 WG
def Pm:aP:=bk 116 9
def U_:aV:=vY 116 12 Pm
def GC:aV:=ep 117
def Vx:aP:=bk 231 37
def ag9:aP:=bk 231 7
def ak8:aV:=eN 231 52 7 Vx ag9
def X4:aV:=ep 206
def TB:aP:=bk 233 585
def SM:aP:=bk 233 57
def aa6:aP:=qw 233 9 804 51 TB SM
def i233:aV:=vY 233 12 aa6
def ajC:aV:=ep 239
def So:aP:=bk 249 585
def QQ:aP:=bk 249 57
def Ve:aP:=qw 249 9 804 51 So QQ
def Z4:aV:=vY 249 12 Ve
def SA:aP:=bk 232 37
def apH:aP:=bk 232 7
def i232:aV:=eN 232 52 7 SA apH
def ahd:aV:=ep 262
def i4:aV:=ep 4
end Go.Abs
end
namespace Go.Abs
open Go.Proofs
def HP:aG->Nat->Bool
 |[],_=>false
 |a::r,n=>bif Nat.beq a n then true else HP r n
def alX:List (Nat×aG)->Nat->aG
 |[],_=>[]
 |(a,l)::r,n=>bif Nat.beq a n then l else alX r n
def arq:aG:=[25,26,44,47,77,101,102,104,105,113,114,116,144,159,161,171,172,176,185,186,187,193,196,201,207,213,214,215,216,217,218,219,220,223,233,234,235,236,237,238,240,241,244,246,247,248,249,250,251,252,253,254,255,256,259,260,261,263,264,265,266,267,268]
def aAt:List (Nat×aG):=[(25,[25,44,47,26]),(26,[26]),(44,[44]),(47,[47]),(77,[77,113,114]),(101,[101]),(102,[101,102]),(104,[104]),(105,[105]),(113,[113]),(114,[114]),(116,[116]),(144,[144,171,172]),(159,[159,193,213,214,215,216,217,218,219,220,244,246,247,248,263]),(161,[161]),(171,[171]),(172,[172]),(176,[176]),(185,[185]),(186,[186,207,233,234,235,236,237,238,240,241,246,259,260,261,267]),(187,[187]),(193,[193,213,214,215,216,217,218,219,220,244,246,247,248,263]),(196,[196,223,246,249,250,251,252,253,254,255,256,264,265,266,268]),(201,[201]),(207,[207,233,234,235,236,237,238,240,241,246,259,260,261,267]),(213,[213]),(214,[214,244]),(215,[215,246]),(216,[216,247,248,263]),(217,[217]),(218,[218]),(219,[219]),(220,[220]),(223,[223,246,249,250,251,252,253,254,255,256,264,265,266,268]),(233,[233]),(234,[234,259]),(235,[235,246]),(236,[236,260,261,267]),(237,[237]),(238,[238]),(240,[240]),(241,[241]),(244,[244]),(246,[246]),(247,[247,248,263]),(248,[248,263]),(249,[249]),(250,[250,264]),(251,[246,251]),(252,[252,265,266,268]),(253,[253]),(254,[254]),(255,[255]),(256,[256]),(259,[259]),(260,[260,261,267]),(261,[261,267]),(263,[263]),(264,[264]),(265,[265,266,268]),(266,[266,268]),(267,[267]),(268,[268])]
def apA:aG:=[40,29,3,4,5,95,57,61,59,30,31,11,12]
def acr(f:Nat)(A:dN):Option (Option RV):=
 bif Nat.beq f 84 then some (Uo A)
 else bif Nat.beq f 194 then some (Nx A)
 else bif HP [69,178] f then UZ A
 else bif Nat.beq f 46 then U0 A
 else none
noncomputable def S:Sys:={P:=Tryz.prog,shared:=HP arq,sites:=alX aAt,lone:=λs=>HP apA (s/64000000),fns:=Fs Tryz.prog,prim:=acr}
abbrev cJ(n:Nat):Prop:=S.shared n=false
def asc:S.fns 33=some WZ:=ah
def LO:cJ 33:=rfl
def arX:S.fns 39=some Mt:=ah
def N6:cJ 39:=rfl
def aC6:S.fns 76=some aeY:=ah
def Er:cJ 76:=rfl
def auC:S.fns 119=some agx:=ah
def abS:cJ 119:=rfl
def auB:S.fns 120=some aeT:=ah
def Qs:cJ 120:=rfl
def asv:S.fns 111=some akD:=ah
def axi:cJ 111:=rfl
def aBE:S.fns 141=some xO:=ah
def anj:cJ 141:=rfl
def aqx:S.fns 112=some ad4:=ah
def aG4:cJ 112:=rfl
def azq:S.fns 113=some alv:=ah
def azW:S.fns 114=some abV:=ah
def aBV:S.fns 115=some anJ:=ah
def aF9:cJ 115:=rfl
def aFH:S.fns 77=some Y8:=ah
def ajO:S.fns 142=some uo:=ah
def RI:cJ 142:=rfl
def aFf:S.fns 169=some akK:=ah
def zT:cJ 169:=rfl
def av9:S.fns 168=some anW:=ah
def yZ:cJ 168:=rfl
def asn:S.fns 140=some acC:=ah
def aDe:cJ 140:=rfl
def awj:S.fns 167=some af1:=ah
def apn:cJ 167:=rfl
def aAO:S.fns 28=some AB:=ah
def af5:cJ 28:=rfl
def aD9:S.fns 49=some afQ:=ah
def H3:cJ 49:=rfl
def avd:S.fns 52=some alZ:=ah
def Ny:cJ 52:=rfl
def awJ:S.fns 48=some akF:=ah
def tE:cJ 48:=rfl
def arH:S.fns 87=some ah1:=ah
def ack:cJ 87:=rfl
def asm:S.fns 55=some ahR:=ah
def zz:cJ 55:=rfl
def auq:S.fns 50=some amq:=ah
def Xd:cJ 50:=rfl
def av7:S.fns 88=some ajS:=ah
def RJ:cJ 88:=rfl
def aCy:S.fns 130=some agT:=ah
def agR:cJ 130:=rfl
def aym:S.fns 128=some Vb:=ah
def afR:cJ 128:=rfl
def axh:S.fns 89=some aoV:=ah
def agN:cJ 89:=rfl
def alE:S.fns 91=some aba:=ah
def Ig:cJ 91:=rfl
def auc:S.fns 129=some aaX:=ah
def Tr:cJ 129:=rfl
def alU:S.fns 90=some C4:=ah
def ajw:cJ 90:=rfl
def aDS:S.fns 51=some i51:=ah
def Y2:cJ 51:=rfl
def al1:S.fns 118=some aco:=ah
def anp:cJ 118:=rfl
def ajI:S.fns 82=some abO:=ah
def U4:cJ 82:=rfl
def arD:S.fns 41=some abm:=ah
def adE:cJ 41:=rfl
def alR:S.fns 45=some acG:=ah
def afP:cJ 45:=rfl
def akc:S.fns 15=some adL:=ah
def acK:cJ 15:=rfl
def Ew:S.fns 60=some Ea:=ah
def ahz:cJ 60:=rfl
def ast:S.fns 13=some aic:=ah
def aC3:cJ 13:=rfl
def ajD:S.fns 83=some aa5:=ah
def U3:cJ 83:=rfl
def aho:S.fns 96=some aa1:=ah
def D7:cJ 96:=rfl
def aaz:S.fns 163=some Ty:=ah
def ap4:cJ 163:=rfl
def aGr:S.fns 97=some al4:=ah
def FD:cJ 97:=rfl
def aFb:S.fns 98=some apv:=ah
def AP:cJ 98:=rfl
def aA1:S.fns 100=some anb:=ah
def xh:cJ 100:=rfl
def atW:S.fns 99=some ahZ:=ah
def K5:cJ 99:=rfl
def ag5:S.fns 101=some Ws:=ah
def afs:S.shared 101:=ah
def aEt:S.fns 103=some aeo:=ah
def aa8:cJ 103:=rfl
def ay3:S.fns 104=some akW:=ah
def OI:S.shared 104:=ah
def amx:S.fns 105=some adV:=ah
def R_:S.shared 105:=ah
def av0:S.fns 108=some agw:=ah
def FU:cJ 108:=rfl
def aqE:S.fns 95=some UG:=ah
def ET:cJ 95:=rfl
def ao8:S.fns 86=some ab1:=ah
def agu:cJ 86:=rfl
def aER:S.fns 69=some agH:=ah
def ac4:cJ 69:=rfl
def aBm:S.fns 58=some aiD:=ah
def Rx:cJ 58:=rfl
def GV:S.fns 121=some Fk:=ah
def aga:cJ 121:=rfl
def aAp:S.fns 122=some aku:=ah
def aFy:cJ 122:=rfl
def azV:S.fns 123=some M9:=ah
def ad8:cJ 123:=rfl
def aA6:S.fns 124=some aeO:=ah
def aDW:cJ 124:=rfl
def aBU:S.fns 134=some afV:=ah
def aCg:cJ 134:=rfl
def O3:S.fns 198=some L_:=ah
def NJ:cJ 198:=rfl
def Oc:S.fns 199=some Iy:=ah
def adn:cJ 199:=rfl
def aAe:S.fns 135=some alx:=ah
def aDB:cJ 135:=rfl
def awH:S.fns 136=some als:=ah
def vJ:cJ 136:=rfl
def aE7:S.fns 139=some apI:=ah
def aCa:cJ 139:=rfl
def avV:S.fns 92=some ao3:=ah
def afG:cJ 92:=rfl
def Bf:cJ 131:=rfl
def yc:cJ 132:=rfl
def aEz:S.fns 133=some aef:=ah
def axT:cJ 133:=rfl
def avA:S.fns 126=some aeC:=ah
def UD:cJ 126:=rfl
def adX:S.fns 127=some Sq:=ah
def ajQ:cJ 127:=rfl
def aGB:S.fns 23=some aiw:=ah
def amf:cJ 23:=rfl
def av2:S.fns 29=some alk:=ah
def ME:cJ 29:=rfl
def aod:S.fns 143=some Z7:=ah
def ajH:cJ 143:=rfl
def aAu:S.fns 144=some apQ:=ah
def aCR:S.fns 145=some Ut:=ah
def dU:cJ 145:=rfl
def aGp:S.fns 146=some EP:=ah
def arK:S.fns 148=some HT:=ah
def aBA:S.fns 149=some N1:=ah
def av6:S.fns 151=some aoC:=ah
def aCz:S.fns 153=some apu:=ah
def auQ:S.fns 155=some alI:=ah
def ah9:cJ 155:=rfl
def aFp:S.fns 156=some abx:=ah
def afm:cJ 156:=rfl
def aw5:S.fns 164=some Xa:=ah
def aBd:cJ 164:=rfl
def aE3:S.fns 165=some amS:=ah
def ayO:cJ 165:=rfl
def auD:S.fns 166=some anK:=ah
def ata:cJ 166:=rfl
def ax9:S.fns 224=some S_:=ah
def BF:cJ 224:=rfl
def avX:S.fns 226=some agD:=ah
def R0:cJ 226:=rfl
def asq:S.fns 227=some amK:=ah
def ah6:cJ 227:=rfl
def aG0:S.fns 228=some amc:=ah
def F5:cJ 228:=rfl
def aGT:S.fns 229=some aoY:=ah
def apM:cJ 229:=rfl
def aDC:S.fns 230=some anL:=ah
def ak0:cJ 230:=rfl
def axm:S.fns 158=some apq:=ah
def akv:cJ 158:=rfl
def aBb:S.fns 162=some ak5:=ah
def aaQ:cJ 162:=rfl
def afc:S.fns 40=some adO:=ah
def ayM:cJ 40:=rfl
def apT:S.fns 53=some i53:=ah
def X_:cJ 53:=rfl
def ayP:S.fns 54=some ao7:=ah
def aEB:cJ 54:=rfl
def aFR:S.fns 56=some ak3:=ah
def ajM:cJ 56:=rfl
def aFI:S.fns 57=some agq:=ah
def afg:cJ 57:=rfl
def aw9:S.fns 170=some Vn:=ah
def azb:cJ 170:=rfl
def atk:S.fns 171=some i171:=ah
def arJ:S.fns 172=some aeD:=ah
def axO:S.fns 173=some i173:=ah
def eJ:cJ 173:=rfl
def afI:S.fns 174=some aeq:=ah
def ad0:cJ 174:=rfl
def aET:S.fns 176=some aeE:=ah
def arM:S.fns 175=some Tv:=ah
def aoI:cJ 175:=rfl
def aDu:S.fns 178=some apW:=ah
def agY:cJ 178:=rfl
def aqS:S.fns 180=some J4:=ah
def Ln:cJ 180:=rfl
def avr:S.fns 181=some ald:=ah
def h_:cJ 181:=rfl
def aGP:S.fns 182=some ahB:=ah
def iz:cJ 182:=rfl
def azu:S.fns 184=some JM:=ah
def ir:cJ 184:=rfl
def aDm:S.fns 186=some amo:=ah
def aGY:S.fns 187=some Xl:=ah
def ayy:S.fns 188=some akT:=ah
def asT:cJ 188:=rfl
def atn:S.fns 200=some alb:=ah
def apE:cJ 200:=rfl
def awh:S.fns 257=some alH:=ah
def M8:cJ 257:=rfl
def avs:S.fns 258=some ao9:=ah
def aHv:cJ 258:=rfl
def azO:S.fns 195=some ae3:=ah
def al2:S.fns 196=some aeG:=ah
def akS:S.fns 197=some aeA:=ah
def ajt:S.fns 78=some ad9:=ah
def ahv:cJ 78:=rfl
def aG2:S.fns 80=some amH:=ah
def Ux:cJ 80:=rfl
def aEv:S.fns 79=some ahs:=ah
def abB:cJ 79:=rfl
def azi:S.fns 81=some alq:=ah
def ako:cJ 81:=rfl
def ay4:S.fns 94=some Y_:=ah
def avH:cJ 94:=rfl
def axx:S.fns 93=some aik:=ah
def atN:cJ 93:=rfl
def asi:S.fns 201=some af6:=ah
def ayB:S.fns 203=some adG:=ah
def aEY:cJ 203:=rfl
def atE:S.fns 204=some Rq:=ah
def aDG:cJ 204:=rfl
def axG:S.fns 205=some abq:=ah
def aw0:cJ 205:=rfl
def ar6:S.fns 207=some ank:=ah
def at3:S.shared 207:=ah
def avg:S.fns 222=some anq:=ah
def aGV:cJ 222:=rfl
def agk:S.fns 223=some WM:=ah
def aqa:S.shared 223:=ah
def apm:S.fns 116=some U_:=ah
def afa:S.shared 116:=ah
def IJ:S.fns 117=some GC:=ah
def aFj:cJ 117:=rfl
def aql:S.fns 231=some ak8:=ah
def akG:cJ 231:=rfl
def aHj:S.fns 206=some X4:=ah
def atg:cJ 206:=rfl
def aEj:S.fns 233=some i233:=ah
def awG:S.shared 233:=ah
def azL:S.fns 239=some ajC:=ah
def apV:cJ 239:=rfl
def al8:S.fns 249=some Z4:=ah
def aiA:S.shared 249:=ah
def awz:S.fns 232=some i232:=ah
def apd:cJ 232:=rfl
def avN:S.fns 262=some ahd:=ah
def aA9:cJ 262:=rfl
def c5:S.fns 4=some i4:=ah
def DZ:cJ 4:=rfl
noncomputable section
def alG:aV:=ep 47
def aeB:aV:=ep 44
def aie:aP:=rS [ur 17 3,tR 18 6 5,Uv 19 2752320128 85 [.t 18],nE 20 (.bin .add (.k (.one (.p (.str ⟨#[32]⟩)))) (.t 19)),Up 21 .add 17 20,ur 3 21]
attribute [go_sem] aie
def abb:aP:=Rf 43 75 3737 aie
def aif:aP:=bk 43 15
def aoL:aV:=⟨24,[(2,none)],(.seq (rS [nE 1 (.box 2752000000 (.t 0)),nE 2 (.nv (.k (.one (.p (.str ⟨#[]⟩)))))]) (.seq (rS [of 6 0 1,RU 7 6,Uv 8 2752064128 84 [.t 7],nE 9 (.bin .add (.t 8) (.k (.one (.p (.str ⟨#[58]⟩))))),ur 3 9]) (.seq (.seq (rS [of 10 1 1,RU 11 10,aCc 12 11,od 13 0]) (.block 0 (.loop abb))) aif)))⟩
def afl:aP:=rS [nE 1 (.box 5440000000 (.t 0)),nE 2 (.nv (.k (.one (.p (.str ⟨#[]⟩)))))]
attribute [go_sem] afl
def ahC:aP:=aAI [of 8 1 1,acM 9 8 1,wg 10 5440192128 84 [.t 9] 3,OW 11 (.bin .add (.t 10) (.k (.one (.p (.str ⟨#[46]⟩))))) 7,of 12 2 1,acM 13 12 16,wg 14 5440192384 84 [.t 13] 55,ar9 15 .add 11 14 127,ayI 2 15 255]
attribute [go_sem] ahC
def aos:aP:=rS [of 18 3 1,RU 19 18,Uv 20 5440320128 84 [.t 19],nE 21 (.bin .add (.t 20) (.k (.one (.p (.str ⟨#[117]⟩))))),ur 3 21]
attribute [go_sem] aos
def apN:aP:=rS [of 24 3 1,RU 25 24,Uv 26 5440448128 84 [.t 25],nE 27 (.bin .add (.t 26) (.k (.one (.p (.str ⟨#[111]⟩))))),ur 3 27]
attribute [go_sem] apN
def ak9:aP:=rS [ur 32 3, nE 33 (.bin .add (.t 32) (.k (.one (.p (.str ⟨#[43]⟩))))),ur 2 33]
attribute [go_sem] ak9
def aob:aP:=rS [ur 36 3,nE 37 (.bin .add (.t 36) (.k (.one (.p (.str ⟨#[45]⟩))))),ur 2 37]
attribute [go_sem] aob
def aoB:aP:=rS [ur 38 3,nE 39 (.bin .add (.t 38) (.k (.one (.p (.str ⟨#[63]⟩))))),ur 2 39]
attribute [go_sem] aoB
def anH:aP:=rS [nE 2 (.nv (.k (.one (.p (.str ⟨#[63]⟩)))))]
attribute [go_sem] anH
def Dx:aV:=ans 85 2 212 860 6890 110292 441180 6894 14 afl ahC aos apN ak9 aob aoB anH
def at5:aV:=ep 12
def Tp:aP:=bk 34 75
def anI:aP:=bk 34 15
def WR:aV:=eN 34 116 15 Tp anI
def ap5:aV:=ep 14
def MX:aP:=bk 20 75
def ail:aP:=bk 20 15
def i20:aV:=eN 20 116 15 MX ail
def KC:aP:=bk 8 311183
def Kc:aP:=bk 8 65423
def R4:aP:=qw 8 79 509940 63743 KC Kc
def zX:aV:=vY 8 124 R4
def ajr:aV:=ep 26
def LM:aP:=bk 25 40479
def W3:aP:=Rf 25 287 64572 LM
def abM:aP:=bk 25 127
def N_:aV:=eN 25 504 127 W3 abM
def Q0:aP:=bk 67 75
def ahi:aP:=bk 67 15
def aoh:aV:=eN 67 116 15 Q0 ahi
def GG:aV:=ep 22
def ahH:aV:=ep 42
def adR:aV:=ep 68
def MN:aP:=bk 66 37
def agv:aP:=bk 66 7
def ajT:aV:=eN 66 52 7 MN agv
def P1:aP:=bk 24 75
def Z8:aP:=bk 24 15
def afZ:aV:=eN 24 116 15 P1 Z8
def akg:aV:=ep 27
def i5:aV:=ep 5
def Vg:aV:=ep 6
def RN:aP:=bk 9 37
def aon:aP:=bk 9 7
def i9:aV:=eN 9 52 7 RN aon
def MU:aP:=bk 32 162095
def akL:aP:=bk 32 1839
def acR:aP:=qw 32 303 256316 2003 MU akL
def afM:aP:=bk 32 63
def Mj:aV:=eN 32 500 63 acR afM
def ajE:aV:=ep 61
def PF:aP:=bk 11 77767
def aae:aP:=bk 11 16327
def SE:aP:=qw 11 39 123892 15487 PF aae
def KP:aV:=vY 11 60 SE
def abo:aP:=bk 30 39
def afF:aV:=vY 30 60 abo
def Fx:aP:=bk 59 75
def aiB:aP:=bk 59 15
def ahj:aV:=eN 59 116 15 Fx aiB
def IC:aP:=bk 31 9803
def anu:aP:=bk 31 459
def abH:aP:=qw 31 75 14924 467 IC anu
def aoN:aP:=bk 31 15
def Vm:aV:=eN 31 116 15 abH aoN
def Re:aP:=bk 62 37
def amz:aP:=bk 62 7
def anY:aV:=eN 62 52 7 Re amz
def ace:aV:=ep 65
def QN:aV:=ep 63
def Rk:aP:=bk 64 75
def ame:aP:=bk 64 15
def i64:aV:=eN 64 116 15 Rk ame
def i46:aV:=ep 46
end
def ay7:S.fns 47=some alG:=ah
def axD : S.shared 47 = true :=ah
def aCG:S.fns 44=some aeB:=ah
def aG1 : S.shared 44 = true :=ah
def azJ:S.fns 43=some aoL:=ah
def Rb:cJ 43:=rfl
def Fc:S.fns 85=some Dx:=ah
def aEf:cJ 85:=rfl
def o6:S.fns 12=some at5:=ah
def aHE:cJ 12:=rfl
def afy:S.fns 34=some WR:=ah
def agF:cJ 34:=rfl
def aHH:S.fns 14=some ap5:=ah
def aHB:cJ 14:=rfl
def aDy:S.fns 20=some i20:=ah
def aEb:cJ 20:=rfl
def Dt:S.fns 8=some zX:=ah
def ahJ:cJ 8:=rfl
def aq9:S.fns 26=some ajr:=ah
def awo : S.shared 26 = true :=ah
def ars:S.fns 25=some N_:=ah
def azt : S.shared 25 = true :=ah
def aHD:cJ 35:=rfl
def awV:S.fns 67=some aoh:=ah
def agU:cJ 67:=rfl
def ajR:S.fns 22=some GG:=ah
def aoW:cJ 22:=rfl
def aGe:S.fns 42=some ahH:=ah
def Wl:cJ 42:=rfl
def ajz:S.fns 68=some adR:=ah
def amW:cJ 68:=rfl
def aG5:S.fns 66=some ajT:=ah
def Un:cJ 66:=rfl
def aw4:S.fns 24=some afZ:=ah
def arT:cJ 24:=rfl
def arE:S.fns 27=some akg:=ah
def RO:cJ 27:=rfl
def c4:S.fns 5=some i5:=ah
def VV:cJ 5:=rfl
def w5:cJ 3:=rfl
def QO:cJ 7:=rfl
def ft:S.fns 6=some Vg:=ah
def aen:cJ 6:=rfl
def L3:S.fns 9=some i9:=ah
def ajU:cJ 9:=rfl
def VX:S.fns 32=some Mj:=ah
def aoy:cJ 32:=rfl
def aDs:S.fns 61=some ajE:=ah
def arw:cJ 61:=rfl
def KV:S.fns 11=some KP:=ah
def qH:cJ 11:=rfl
def aBy:S.fns 30=some afF:=ah
def auU:cJ 30:=rfl
def asf:S.fns 59=some ahj:=ah
def W7:cJ 59:=rfl
def ahg:cJ 10:=rfl
def axf:S.fns 31=some Vm:=ah
def ayX:cJ 31:=rfl
def az7:S.fns 62=some anY:=ah
def aaL:cJ 62:=rfl
def aDJ:S.fns 65=some ace:=ah
def aEH:cJ 65:=rfl
def aC4:S.fns 63=some QN:=ah
def I_:cJ 63:=rfl
def Lc:S.fns 64=some i64:=ah
def acN:cJ 64:=rfl
def aF0:S.fns 46=some i46:=ah
def aG3:cJ 46:=rfl
end Go.Abs
