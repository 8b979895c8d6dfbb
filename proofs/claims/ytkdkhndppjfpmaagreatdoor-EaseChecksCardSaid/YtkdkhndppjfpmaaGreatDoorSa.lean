/-
  The program as a system of the abstract machine.
-/
import Derived.Test.YtkdkhndppjfpmaaGreatDoorMf
import Derived.Test.YtkdkhndppjfpmaaGreatDoorProg
set_option linter.all false
open List renaming length->I
set_option maxRecDepth 100000
noncomputable section
namespace Go.Abs
open Go.Proofs
def Qt{α:Type}:List α->Nat->Option α
  | [],_ => none
  | a::l,n => match n with | 0 => some a | n+1 => Qt l n
def ag8{α:Type}:List (Nat×α)->Nat->Option α
  | [],_ => none
  | (k,a)::l,n => bif Nat.beq k n then some a else ag8 l n
noncomputable def apG(s:Nat)(o:Oper):sR := match o.op with
  | .build t ps => (match Tryz.prog.underlying t,BM Tryz.prog t with | some (.struct fs),some z => ((EU (λi => (Qt fs.toList i).map λf => (f.offset,Tryz.prog.cellsOf f.type)) (I z) ps.toList).map (.build z)).getD .bad | _,_ => Lq Tryz.prog s o)
  | .binOp op t x y _ => (match Tryz.prog.underlying t,dA x,dA y with | some (.struct fs),some a,some b =>.eqc (.str (fs.toList.map λf => (Vk Tryz.prog f.type).getD false)) (match op with | .neq => true | _ => false) a b | _,_,_ => Lq Tryz.prog s o)
  | _ => Lq Tryz.prog s o
noncomputable def aaA(a:aF)(j:Nat):List Edge->Nat->Nat
  | [],s => s
  | e::r,s => match (bif Region.binds .any e then Nat.lor (Nat.lor s (Nat.pow 2 e.on)) ((Qt a (j-1-e.on)).getD 0)else s)with | 0 => aaA a j r 0 | m+1 => aaA a j r (m+1)
noncomputable def akW(O:List Oper)(b s i:Nat)(o:Oper):mh := ⟨o.dst,apG ((s+i)*64) o,(match o.guard with | none => none | some (j,w) => (match Qt O j with | some x => (match x.dst with | some t => some (t,w) | none => none) | none => none)),b⟩
noncomputable def ab3(d:Bool)(O:List Oper)(s:Nat):aF->Nat->List Oper->fI
  | _,_,[] => []
  | a,i,o::r => match (bif d then aaA a i o.after.toList 0 else 0)with | 0 => akW O 0 s i o::ab3 d O s (0::a) (i+1) r | m+1 => akW O (m+1) s i o::ab3 d O s ((m+1)::a) (i+1) r
abbrev Mj(B:List (Nat×aS))(p:Nat)(y:aS):aS := match ag8 B p with | some x => x | none => y
noncomputable def FX(f:Nat)(B:List (Nat×aS)):Code->Nat->aS
  | .region id O D,_ =>.region D (ab3 D O.toList ((f*1000+id)*1000) [] 0 O.toList)
  | .seq a b,p =>.seq (Mj B (2*p) (FX f B a (2*p))) (Mj B (2*p+1) (FX f B b (2*p+1)))
  | .cond c a b,p => match dA c with | some c =>.cond c (Mj B (2*p) (FX f B a (2*p))) (Mj B (2*p+1) (FX f B b (2*p+1))) | none =>.bad
  | .block i c,p =>.block i (Mj B (2*p) (FX f B c (2*p)))
  | .loop c,p =>.loop (Mj B (2*p) (FX f B c (2*p)))
  | .exit i,_ =>.exit i
  | .scope c,p => FX f B c p
  | .ret,_ =>.ret
  | .label _,_ =>.skip
  | .skip,_ =>.skip
  | _,_ =>.bad
noncomputable def Ma(f:Nat)(B:List (Nat×aS)):aX := match Qt Tryz.prog.funcs.toList f with
  | some fn => (match fn.body with | some c => ⟨fn.ntmps,(Cy Tryz.prog fn.results.toList).getD [],FX f B c 1⟩ | none => ⟨0,[],.bad⟩)
  | none => ⟨0,[],.bad⟩
noncomputable def d_:aS->Nat->aS
  | .seq a b,q => bif Nat.beq q 1 then .seq a b else bif Nat.beq (q%2) 0 then d_ a (q/2)else d_ b (q/2)
  | .cond x a b,q => bif Nat.beq q 1 then .cond x a b else bif Nat.beq (q%2) 0 then d_ a (q/2)else d_ b (q/2)
  | .block i a,q => bif Nat.beq q 1 then .block i a else d_ a (q/2)
  | .loop a,q => bif Nat.beq q 1 then .loop a else d_ a (q/2)
  | c,_ => c
abbrev adx(f:Nat)(B:List (Nat×aS))(q:Nat):aS := d_ (Ma f B).body q
def dV(n:Nat){g:aX}(_:Ma n []=g := by conv => lhs; reduce; try simp only [Int.reduceOfNat,Int.reduceNegSucc]):aX := g
def A4(n f:Nat)(y:aS){g:aS->aX}(_:(λx => Ma n [(f,x)])=g := by conv => lhs; reduce; try simp only [Int.reduceOfNat,Int.reduceNegSucc]):aX := g y
def fJ(n h f:Nat)(y Y:aS){g:aS->aS->aX}(_:(λx X => Ma n [(h,x),(f,X)])=g := by conv => lhs; reduce; try simp only [Int.reduceOfNat,Int.reduceNegSucc]):aX := g y Y
def ahK(n h f j:Nat)(y m Y:aS){g:aS->aS->aS->aX}(_:(λx X u => Ma n [(h,x),(f,X),(j,u)])=g := by conv => lhs; reduce; try simp only [Int.reduceOfNat,Int.reduceNegSucc]):aX := g y m Y
def agy(n E m u f j h v:Nat)(D Y M F A N y:aS){g:aS->aS->aS->aS->aS->aS->aS->aX}(_:(λx L z X x4 B H => Ma n [(E,x),(m,L),(u,z),(f,X),(j,x4),(h,B),(v,H)])=g := by conv => lhs; reduce; try simp only [Int.reduceOfNat,Int.reduceNegSucc]):aX := g D Y M F A N y
def cA(n q:Nat){g:aS}(_:adx n [] q=g := by conv => lhs; reduce; try simp only [Int.reduceOfNat,Int.reduceNegSucc]):aS := g
def Dp(n q h f:Nat)(y Y:aS){g:aS->aS->aS}(_:(λx X => adx n [(h,x),(f,X)] q)=g := by conv => lhs; reduce; try simp only [Int.reduceOfNat,Int.reduceNegSucc]):aS := g y Y
def E1(n q h f j:Nat)(y m Y:aS){g:aS->aS->aS->aS}(_:(λx X u => adx n [(h,x),(f,X),(j,u)] q)=g := by conv => lhs; reduce; try simp only [Int.reduceOfNat,Int.reduceNegSucc]):aS := g y m Y
attribute [go_sem] dV A4 fJ ahK agy cA Dp E1
abbrev K4(d a:Nat):mh:=⟨some d,.rl (.t a),none,0⟩
abbrev yt(d:Nat)(x:sR):mh:=⟨some d,x,none,0⟩
abbrev CP(l:fI):aS:=.region false l
def aag:aX:=dV 22
def i51:aX:=dV 51
def TT:aS:=cA 89 75
def aeS:aS:=cA 89 15
def amP:aX:=fJ 89 116 15 TT aeS
def Uu:aS:=cA 117 75
def ahy:aS:=cA 117 15
def agY:aX:=fJ 117 116 15 Uu ahy
def akl:aX:=dV 118
def ah2:aX:=dV 111
def yv:aX:=dV 141
def ac2:aX:=dV 112
def Ul:aS:=cA 113 607
def Wh:aS:=cA 113 4863
def IF:aS:=cA 113 38911
def ajC:aS:=cA 113 8191
def Xa:aS:=Dp 113 1023 65524 8191 IF ajC
def abW:aS:=Dp 113 127 8180 1023 Wh Xa
def ajv:aX:=fJ 113 1012 127 Ul abW
def yn:aS:=cA 114 303
def agC:aS:=cA 114 63
def abl:aX:=fJ 114 500 63 yn agC
def Q7:aS:=cA 115 324399
def aat:aS:=cA 115 3887
def Tp:aS:=Dp 115 303 512828 4007 Q7 aat
def afy:aS:=cA 115 63
def alN:aX:=fJ 115 500 63 Tp afy
def Er:aS:=cA 90 75
def ac6:aS:=cA 90 15
def Z6:aX:=fJ 90 116 15 Er ac6
def uh:aX:=dV 142
def al0:aX:=dV 168
def aeM:aX:=dV 167
def abO:aX:=dV 140
def TG:aS:=cA 166 37
def ad7:aS:=cA 166 7
def alP:aX:=fJ 166 52 7 TG ad7
def Bw:aX:=dV 17
def U7:aS:=cA 38 75
def anV:aS:=cA 38 15
def aep:aX:=fJ 38 116 15 U7 anV
def aiP:aX:=dV 41
def RR:aS:=cA 37 75
def aeA:aS:=cA 37 15
def i37:aX:=fJ 37 116 15 RR aeA
def MT:aS:=cA 67 75
def afH:aS:=cA 67 15
def amj:aX:=fJ 67 116 15 MT afH
def SH:aS:=cA 47 75
def anG:aS:=cA 47 15
def ajH:aX:=fJ 47 116 15 SH anG
def vz:aS:=cA 39 19237
def pE:aS:=cA 39 3877
def ae7:aS:=cA 39 229
def abh:aS:=E1 39 37 26932 3367 211 vz pE ae7
def ali:aS:=cA 39 7
def anS:aX:=fJ 39 52 7 abh ali
def P3:aS:=cA 68 75
def agZ:aS:=cA 68 15
def al8:aX:=fJ 68 116 15 P3 agZ
def Mn:aS:=cA 102 37
def anE:aS:=cA 102 7
def afa:aX:=fJ 102 52 7 Mn anE
def UB:aX:=dV 100
def MI:aS:=cA 69 17995
def IB:aS:=cA 69 7755
def Xk:aS:=cA 69 459
def O3:aS:=E1 69 75 29848 7463 467 MI IB Xk
def Y6:aS:=cA 69 15
def afj:aX:=fJ 69 116 15 O3 Y6
def Lr:aS:=cA 85 37
def alz:aS:=cA 85 7
def abw:aX:=fJ 85 52 7 Lr alz
def Wf:aX:=dV 101
def DW:aX:=dV 70
def NX:aS:=cA 40 153903
def ab4:aS:=cA 40 31023
def Uc:aS:=cA 40 1839
def Ud:aS:=E1 40 303 256308 32039 2003 NX ab4 Uc
def aeg:aS:=cA 40 63
def al6:aX:=fJ 40 500 63 Ud aeg
def P2:aS:=cA 116 1215
def aaK:aS:=cA 116 255
def UO:aX:=fJ 116 2036 255 P2 aaK
def MS:aS:=cA 91 607
def aa9:aS:=cA 91 314559
def ahu:aS:=cA 91 15551
def Vb:aS:=Dp 91 1215 521420 16295 aa9 ahu
def Tt:aS:=cA 91 255
def Up:aS:=Dp 91 127 2036 255 Vb Tt
def SD:aX:=fJ 91 1012 127 MS Up
def OV:aX:=dV 52
def Eb:aS:=cA 35 151
def Ok:aS:=cA 35 31
def AD:aX:=fJ 35 244 31 Eb Ok
def VG:aS:=cA 50 75
def adU:aS:=cA 50 15
def abL:aX:=fJ 50 116 15 VG adU
def Xo:aX:=dV 42
def Ot:aS:=cA 43 309207
def ags:aS:=cA 43 63447
def yC:aS:=cA 43 31
def zf:aX:=ahK 43 503732 62967 31 Ot ags yC
def Si:aS:=cA 19 37
def ahG:aS:=cA 19 7
def Ti:aX:=fJ 19 52 7 Si ahG
def Vl:aX:=dV 92
def W6:aX:=dV 71
def UI:aX:=dV 72
def alw:aX:=dV 73
def akf:aX:=dV 74
def adO:aX:=dV 76
def RU:aS:=cA 75 75
def aiY:aS:=cA 75 15
def aeh:aX:=fJ 75 116 15 RU aiY
def Ss:aS:=cA 77 19
def Xj:aX:=A4 77 28 Ss
def U5:aX:=dV 78
def Xh:aX:=dV 79
def akH:aX:=dV 80
def aaM:aS:=cA 81 4755
def ahg:aS:=cA 81 915
def anp:aS:=cA 81 115
def VU:aS:=E1 81 19 7316 915 115 aaM ahg anp
def abi:aX:=A4 81 28 VU
def ajn:aX:=dV 82
def ahs:aX:=dV 83
def anX:aX:=dV 84
def alT:aX:=dV 21
def i53:aX:=dV 53
def anH:aX:=dV 44
def DM:aX:=dV 119
def adK:aX:=dV 120
def PZ:aX:=dV 121
def Sc:aS:=cA 122 151
def adf:aS:=cA 122 31
def aaC:aX:=fJ 122 244 31 Sc adf
def NV:aS:=cA 103 307807
def agT:aS:=cA 103 62047
def aa7:aS:=cA 103 3679
def Wc:aS:=E1 103 607 518452 64807 4051 NV agT aa7
def aj6:aS:=cA 103 127
def am3:aX:=fJ 103 1012 127 Wc aj6
def agL:aS:=CP [K4 9 5,yt 10 (.bin .eql (.t 9) (.k (.one (.p (.str ⟨#[]⟩))))),K4 11 10,⟨(some 12),.rl (.t 5),(some (11,false)),0⟩,⟨(some 13),.call 6656128256 (.k (.one (.p (.fn 132 [] [])))) [.t 12,.k (.one (.p (.int .u8 66)))],(some (11,false)),0⟩,⟨(some 14),.un .not (.t 13),(some (11,false)),0⟩,⟨(some 15),.rl (.t 14),(some (11,false)),0⟩,⟨(some 16),.Ef 2 (.t 3),(some (15,true)),0⟩,⟨(some 17),.load none (.t 16),(some (15,true)),0⟩,⟨(some 18),.bin .neq (.t 17) (.i 0),(some (15,true)),0⟩,⟨(some 19),.pick (.t 15) (.t 18) (.b false),(some (11,false)),0⟩,yt 20 (.pick (.t 11) (.b true) (.t 19)),K4 21 20,⟨(some 22),.rl (.t 5),(some (21,false)),0⟩,⟨(some 23),.call 6656128896 (.k (.one (.p (.fn 132 [] [])))) [.t 22,.k (.one (.p (.int .u8 67)))],(some (21,false)),0⟩, ⟨(some 24),.un .not (.t 23),(some (21,false)),0⟩,⟨(some 25),.rl (.t 24),(some (21,false)),0⟩,⟨(some 26),.Ef 3 (.t 3),(some (25,true)),0⟩,⟨(some 27),.load none (.t 26),(some (25,true)),0⟩,⟨(some 28),.bin .neq (.t 27) (.i 0),(some (25,true)),0⟩,⟨(some 29),.pick (.t 25) (.t 28) (.b false),(some (21,false)),0⟩,yt 30 (.pick (.t 21) (.b true) (.t 29)),K4 31 30,⟨(some 32),.rl (.t 5),(some (31,false)),0⟩,⟨(some 33),.call 6656129536 (.k (.one (.p (.fn 132 [] [])))) [.t 32,.k (.one (.p (.int .u8 76)))],(some (31,false)),0⟩,⟨(some 34),.un .not (.t 33),(some (31,false)),0⟩,⟨(some 35),.rl (.t 34),(some (31,false)),0⟩,⟨(some 36),.Ef 4 (.t 3),(some (35,true)),0⟩,⟨(some 37),.load none (.t 36),(some (35,true)),0⟩,⟨(some 38),.pick (.t 35) (.t 37) (.b false),(some (31,false)),0⟩,yt 39 (.pick (.t 31) (.b true) (.t 38)),K4 40 39,⟨(some 41),.rl (.t 5),(some (40,false)),0⟩, ⟨(some 42),.call 6656130112 (.k (.one (.p (.fn 132 [] [])))) [.t 41,.k (.one (.p (.int .u8 79)))],(some (40,false)),0⟩,⟨(some 43),.un .not (.t 42),(some (40,false)),0⟩,⟨(some 44),.rl (.t 43),(some (40,false)),0⟩,⟨(some 45),.Ef 5 (.t 3),(some (44,true)),0⟩,⟨(some 46),.load none (.t 45),(some (44,true)),0⟩,⟨(some 47),.pick (.t 44) (.t 46) (.b false),(some (40,false)),0⟩,yt 48 (.pick (.t 40) (.b true) (.t 47)),K4 49 48,⟨(some 50),.rl (.t 5),(some (49,false)),0⟩,⟨(some 51),.call 6656130688 (.k (.one (.p (.fn 132 [] [])))) [.t 50,.k (.one (.p (.int .u8 83)))],(some (49,false)),0⟩,⟨(some 52),.un .not (.t 51),(some (49,false)),0⟩,⟨(some 53),.rl (.t 52),(some (49,false)),0⟩,⟨(some 54),.Ef 6 (.t 3),(some (53,true)),0⟩,⟨(some 55),.load none (.t 54),(some (53,true)),0⟩,⟨(some 56),.bin .neq (.t 55) (.i 0),(some (53,true)),0⟩,⟨(some 57),.pick (.t 53) (.t 56) (.b false),(some (49,false)),0⟩, yt 58 (.pick (.t 49) (.b true) (.t 57))]
attribute [go_sem] agL
def Ec:aX:=A4 104 28 agL
def Dz:aX:=dV 105
def abn:aS:=cA 106 75
def akU:aS:=cA 106 15
def ae0:aX:=fJ 106 116 15 abn akU
def Sp:aS:=cA 107 37
def ajA:aS:=cA 107 7
def aeB:aX:=fJ 107 52 7 Sp ajA
def Uy:aS:=cA 109 151
def afw:aS:=cA 109 31
def abg:aX:=fJ 109 244 31 Uy afw
def Pb:aS:=cA 108 37
def aku:aS:=cA 108 7
def ae9:aX:=fJ 108 52 7 Pb aku
def agt:aX:=dV 110
def Nk:aS:=cA 86 37
def alO:aS:=cA 86 7
def ajI:aX:=fJ 86 52 7 Nk alO
def afl:aS:=CP [yt 2 (.rl (.k (.one (.p (.str ⟨#[]⟩)))))]
attribute [go_sem] afl
def alB:aS:=CP [yt 2 (.rl (.k (.one (.p (.str ⟨#[65]⟩)))))]
attribute [go_sem] alB
def agA:aS:=CP [yt 2 (.rl (.k (.one (.p (.str ⟨#[65,66,67]⟩)))))]
attribute [go_sem] agA
def ak7:aS:=CP [yt 2 (.rl (.k (.one (.p (.str ⟨#[65,66]⟩)))))]
attribute [go_sem] ak7
def alq:aS:=CP [yt 2 (.rl (.k (.one (.p (.str ⟨#[65,79,83]⟩)))))]
attribute [go_sem] alq
def ahX:aS:=CP [yt 2 (.rl (.k (.one (.p (.str ⟨#[65,66,76,79]⟩)))))]
attribute [go_sem] ahX
def ai1:aS:=CP [yt 2 (.rl (.k (.one (.p (.str ⟨#[]⟩)))))]
attribute [go_sem] ai1
def aDG:aX:=agy 131 2 212 860 3452 13820 55292 14 afl alB agA ak7 alq ahX ai1
def avV:aS:=cA 132 37
def aoL:aS:=cA 132 7
def aDF:aX:=fJ 132 52 7 avV aoL
def SA:aX:=dV 27
def Vn:aS:=cA 36 75
def agv:aS:=cA 36 15
def aaZ:aX:=fJ 36 116 15 Vn agv
def Ht:aS:=cA 20 19607
def Z2:aS:=cA 20 919
def Sm:aS:=Dp 20 151 31308 979 Ht Z2
def ag7:aS:=cA 20 31
def i20:aX:=fJ 20 244 31 Sm ag7
def QK:aS:=cA 143 151
def Wg:aS:=cA 143 31
def Xr:aX:=fJ 143 244 31 QK Wg
def Oe:aS:=cA 144 303
def anj:aS:=cA 144 63
def anU:aX:=fJ 144 500 63 Oe anj
def T8:aX:=dV 145
def FO:aX:=dV 146
def H9:aS:=cA 147 607
def aar:aS:=cA 147 127
def ads:aX:=fJ 147 1012 127 H9 aar
def aaS:aS:=cA 148 2431
def alC:aS:=cA 148 511
def IH:aX:=fJ 148 4084 511 aaS alC
def Oy:aX:=dV 149
def ajc:aX:=dV 150
def amB:aX:=dV 151
def NS:aX:=dV 152
def OJ:aS:=cA 153 303
def ago:aS:=cA 153 63
def ans:aX:=fJ 153 500 63 OJ ago
def EZ:aX:=dV 154
def Rk:aS:=cA 155 37
def ae1:aS:=cA 155 7
def ajK:aX:=fJ 155 52 7 Rk ae1
def aaT:aX:=dV 156
def acA:aX:=dV 128
def NY:aS:=cA 129 75
def WM:aS:=cA 129 15
def aho:aX:=fJ 129 116 15 NY WM
def O2:aS:=cA 130 75
def adD:aS:=cA 130 15
def aft:aX:=fJ 130 116 15 O2 adD
def Vf:aX:=dV 133
def aeI:aX:=dV 134
def ajx:aX:=dV 135
def aju:aX:=dV 136
def ag4:aX:=dV 137
def ajd:aX:=dV 138
def Cx:aS:=cA 139 303
def K5:aS:=cA 139 63
def anI:aX:=fJ 139 500 63 Cx K5
def uu:aS:=cA 57 40139
def I5:aS:=cA 57 971
def B_:aS:=Dp 57 75 59804 935 uu I5
def QS:aS:=cA 57 15
def Ra:aX:=fJ 57 116 15 B_ QS
def KH:aS:=cA 45 151
def W5:aS:=cA 45 31
def abU:aX:=fJ 45 244 31 KH W5
def abZ:aS:=cA 46 151
def anT:aS:=cA 46 31
def i46:aX:=fJ 46 244 31 abZ anT
def aiO:aX:=dV 48
def Sh:aS:=cA 49 37
def amW:aS:=cA 49 7
def aeF:aX:=fJ 49 52 7 Sh amW
def SI:aX:=dV 169
def QV:aS:=cA 170 9
def acS:aX:=A4 170 12 QV
def QQ:aS:=cA 171 9
def i171:aX:=A4 171 12 QQ
def anO:aX:=dV 172
def HD:aS:=cA 173 75
def aak:aS:=cA 173 15
def i173:aX:=fJ 173 116 15 HD aak
def IJ:aS:=cA 175 9
def aaB:aX:=A4 175 12 IJ
def Vq:aX:=dV 174
def adz:aX:=dV 176
def af9:aX:=dV 177
def anY:aX:=dV 178
def KB:aX:=dV 179
def agS:aX:=dV 180
def U6:aS:=cA 181 40139
def adA:aS:=cA 181 971
def Qq:aS:=Dp 181 75 59804 935 U6 adA
def WO:aS:=cA 181 15
def ajg:aX:=fJ 181 116 15 Qq WO
def afV:aX:=dV 182
def L3:aX:=dV 183
def RM:aS:=cA 184 9
def Y1:aX:=A4 184 12 RM
def afY:aX:=dV 185
def UJ:aS:=cA 186 76363
def aeC:aS:=cA 186 14923
def ajG:aS:=cA 186 459
def Sr:aS:=E1 186 75 119380 14923 467 UJ aeC ajG
def afP:aS:=cA 186 15
def abI:aX:=fJ 186 116 15 Sr afP
def WW:aS:=cA 187 75
def ad3:aS:=cA 187 15
def afr:aX:=fJ 187 116 15 WW ad3
def Ni:aS:=cA 163 151
def aas:aS:=cA 163 31
def ah1:aX:=fJ 163 244 31 Ni aas
def Kk:aS:=cA 164 19237
def Ts:aS:=cA 164 3877
def ac3:aS:=cA 164 229
def UW:aS:=E1 164 37 26932 3367 211 Kk Ts ac3
def Y7:aS:=cA 164 7
def afc:aX:=fJ 164 52 7 UW Y7
def akP:aX:=dV 165
def Cp:aS:=cA 93 151
def Rv:aS:=cA 93 31
def R1:aX:=fJ 93 244 31 Cp Rv
def akx:aX:=dV 95
def zt:aS:=cA 94 151
def aaD:aS:=cA 94 31
def Xl:aX:=fJ 94 244 31 zt aaD
def Il:aS:=cA 96 37
def adm:aS:=cA 96 7
def aaq:aX:=fJ 96 52 7 Il adm
def aaj:aX:=dV 88
def Vi:aS:=cA 87 37
def aiT:aS:=cA 87 7
def agj:aX:=fJ 87 52 7 Vi aiT
def ady:aS:=cA 197 17
def anf:aS:=cA 197 7
def anD:aX:=fJ 197 24 7 ady anf
def MV:aS:=cA 198 37
def alg:aS:=cA 198 7
def am0:aX:=fJ 198 52 7 MV alg
def V2:aX:=dV 199
def Qc:aS:=cA 200 154007
def adg:aS:=cA 200 31127
def ajM:aS:=cA 200 1943
def adG:aS:=E1 200 151 250676 31335 1959 Qc adg ajM
def alQ:aS:=cA 200 31
def To:aX:=fJ 200 244 31 adG alQ
def Wx:aX:=dV 201
def ajq:aS:=cA 203 19
def alS:aX:=A4 203 28 ajq
def OB:aS:=cA 123 9
def RA:aX:=A4 123 12 OB
def zm:aX:=dV 124
def U2:aS:=cA 220 37
def ahi:aS:=cA 220 7
def aiZ:aX:=fJ 220 52 7 U2 ahi
def ach:aX:=dV 202
def Va:aS:=cA 222 585
def Uz:aS:=cA 222 57
def abQ:aS:=Dp 222 9 804 51 Va Uz
def alv:aX:=A4 222 12 abQ
def akc:aX:=dV 228
def Sb:aS:=cA 221 37
def agV:aS:=cA 221 7
def ahC:aX:=fJ 221 52 7 Sb agV
def af3:aX:=dV 249
def i3:aX:=dV 3
end Go.Abs
end
namespace Go.Abs
open Go.Proofs
def IA:aF->Nat->Bool
 |[],_=>false
 |a::r,n=>bif Nat.beq a n then true else IA r n
def afq:List (Nat×aF)->Nat->aF
 |[],_=>[]
 |(a,l)::r,n=>bif Nat.beq a n then l else afq r n
def asu:aF:=[28,29,60,63,77,78,80,81,90,113,114,123,144,159,161,170,171,175,184,185,186,192,195,197,203,209,210,211,212,213,214,215,216,219,222,223,224,225,226,227,229,230,233,235,236,237,238,239,240,241,242,243,244,245,246,247,248,250,251,252,253,254,255]
def aCr:List (Nat×aF):=[(28,[28,60,63,29]),(29,[29]),(60,[60]),(63,[63]),(77,[77]),(78,[77,78]),(80,[80]),(81,[81]),(90,[90,113,114]),(113,[113]),(114,[114]),(123,[123]),(144,[144,170,171]),(159,[159,192,209,210,211,212,213,214,215,216,233,235,236,237,250]),(161,[161]),(170,[170]),(171,[171]),(175,[175]),(184,[184]),(185,[185,203,222,223,224,225,226,227,229,230,235,246,247,248,254]),(186,[186]),(192,[192,209,210,211,212,213,214,215,216,233,235,236,237,250]),(195,[195,219,235,238,239,240,241,242,243,244,245,251,252,253,255]),(197,[197]),(203,[203,222,223,224,225,226,227,229,230,235,246,247,248,254]),(209,[209]),(210,[210,233]),(211,[211,235]),(212,[212,236,237,250]),(213,[213]),(214,[214]),(215,[215]),(216,[216]),(219,[219,235,238,239,240,241,242,243,244,245,251,252,253,255]),(222,[222]),(223,[223,246]),(224,[224,235]),(225,[225,247,248,254]),(226,[226]),(227,[227]),(229,[229]),(230,[230]),(233,[233]),(235,[235]),(236,[236,237,250]),(237,[237,250]),(238,[238]),(239,[239,251]),(240,[235,240]),(241,[241,252,253,255]),(242,[242]),(243,[243]),(244,[244]),(245,[245]),(246,[246]),(247,[247,248,254]),(248,[248,254]),(250,[250]),(251,[251]),(252,[252,253,255]),(253,[253,255]),(254,[254]),(255,[255])]
def aer:aF:=[57,20,3,49,6,21,19]
def acd(f:Nat)(A:dT):Option (Option RV):=
 bif Nat.beq f 97 then some (W8 A)
 else bif Nat.beq f 193 then some (N4 A)
 else bif IA [53,177] f then U8 A
 else bif Nat.beq f 62 then U9 A
 else none
noncomputable def S:Sys:={P:=Tryz.prog,shared:=IA asu,sites:=afq aCr,lone:=λs=>IA aer (s/64000000),fns:=FH Tryz.prog,prim:=acd}
abbrev cU(n:Nat):Prop:=S.shared n=false
def auG:S.fns 22=some aag:=ah
def Qv:cU 22:=rfl
def aAw:S.fns 51=some i51:=ah
def Ft:cU 51:=rfl
def auw:S.fns 89=some amP:=ah
def Fl:cU 89:=rfl
def apK:S.fns 117=some agY:=ah
def ac7:cU 117:=rfl
def axB:S.fns 118=some akl:=ah
def alu:cU 118:=rfl
def ap4:S.fns 111=some ah2:=ah
def auy:cU 111:=rfl
def ayh:S.fns 141=some yv:=ah
def alk:cU 141:=rfl
def aow:S.fns 112=some ac2:=ah
def aDd:cU 112:=rfl
def awo:S.fns 113=some ajv:=ah
def awN:S.fns 114=some abl:=ah
def ayA:S.fns 115=some alN:=ah
def aCh:cU 115:=rfl
def axx:S.fns 90=some Z6:=ah
def ahc:S.fns 142=some uh:=ah
def Rr:cU 142:=rfl
def ath:S.fns 168=some al0:=ah
def zA:cU 168:=rfl
def atq:S.fns 167=some aeM:=ah
def AJ:cU 167:=rfl
def apZ:S.fns 140=some abO:=ah
def azU:cU 140:=rfl
def ar1:S.fns 166=some alP:=ah
def afn:cU 166:=rfl
def aDh:S.fns 17=some Bw:=ah
def EN:cU 17:=rfl
def as6:S.fns 38=some aep:=ah
def He:cU 38:=rfl
def apk:S.fns 41=some aiP:=ah
def IL:cU 41:=rfl
def arv:S.fns 37=some i37:=ah
def mE:cU 37:=rfl
def at7:S.fns 67=some amj:=ah
def pX:cU 67:=rfl
def av1:S.fns 47=some ajH:=ah
def zP:cU 47:=rfl
def apI:S.fns 39=some anS:=ah
def aaN:cU 39:=rfl
def aub:S.fns 68=some al8:=ah
def rf:cU 68:=rfl
def avr:S.fns 102=some afa:=ah
def agx:cU 102:=rfl
def axL:S.fns 100=some UB:=ah
def amr:cU 100:=rfl
def aBc:S.fns 69=some afj:=ah
def ak4:cU 69:=rfl
def aks:S.fns 85=some abw:=ah
def IN:cU 85:=rfl
def aq8:S.fns 101=some Wf:=ah
def QR:cU 101:=rfl
def agF:S.fns 70=some DW:=ah
def akV:cU 70:=rfl
def aoy:S.fns 40=some al6:=ah
def aaE:cU 40:=rfl
def adr:S.fns 116=some UO:=ah
def V7:cU 116:=rfl
def abq:S.fns 91=some SD:=ah
def VB:cU 91:=rfl
def Y4:S.fns 52=some OV:=ah
def R8:cU 52:=rfl
def MX:S.fns 35=some AD:=ah
def Mk:cU 35:=rfl
def af5:S.fns 50=some abL:=ah
def aqC:cU 50:=rfl
def anl:S.fns 42=some Xo:=ah
def ad8:cU 42:=rfl
def Ai:S.fns 43=some zf:=ah
def apl:cU 43:=rfl
def au3:S.fns 19=some Ti:=ah
def RF:cU 19:=rfl
def Z3:S.fns 92=some Vl:=ah
def Wj:cU 92:=rfl
def adP:S.fns 71=some W6:=ah
def ya:cU 71:=rfl
def WV:S.fns 72=some UI:=ah
def aeK:cU 72:=rfl
def aCC:S.fns 73=some alw:=ah
def Az:cU 73:=rfl
def aoF:S.fns 74=some akf:=ah
def AY:cU 74:=rfl
def azK:S.fns 76=some adO:=ah
def w9:cU 76:=rfl
def as2:S.fns 75=some aeh:=ah
def Kl:cU 75:=rfl
def amU:S.fns 77=some Xj:=ah
def aba:S.shared 77:=ah
def agK:S.fns 78=some U5:=ah
def afR:S.shared 78:=ah
def aAW:S.fns 79=some Xh:=ah
def aaY:cU 79:=rfl
def aDa:S.fns 80=some akH:=ah
def O8:S.shared 80:=ah
def ai2:S.fns 81=some abi:=ah
def SE:S.shared 81:=ah
def auu:S.fns 82=some ajn:=ah
def acn:cU 82:=rfl
def auj:S.fns 83=some ahs:=ah
def azW:cU 83:=rfl
def ayH:S.fns 84=some anX:=ah
def zI:cU 84:=rfl
def atB:S.fns 21=some alT:=ah
def ao2:cU 21:=rfl
def aDb:S.fns 53=some i53:=ah
def DN:cU 53:=rfl
def aze:S.fns 44=some anH:=ah
def VQ:cU 44:=rfl
def Fy:S.fns 119=some DM:=ah
def abj:cU 119:=rfl
def ar0:S.fns 120=some adK:=ah
def anb:cU 120:=rfl
def av9:S.fns 121=some PZ:=ah
def Jr:cU 121:=rfl
def axe:S.fns 122=some aaC:=ah
def amJ:cU 122:=rfl
def aAV:S.fns 103=some am3:=ah
def avk:cU 103:=rfl
def F_:S.fns 104=some Ec:=ah
def Pf:cU 104:=rfl
def Ex:S.fns 105=some Dz:=ah
def Y3:cU 105:=rfl
def ayi:S.fns 106=some ae0:=ah
def aCD:cU 106:=rfl
def avu:S.fns 107=some aeB:=ah
def sd:cU 107:=rfl
def atW:S.fns 109=some abg:=ah
def J8:cU 109:=rfl
def as9:S.fns 108=some ae9:=ah
def ade:cU 108:=rfl
def av3:S.fns 110=some agt:=ah
def amg:cU 110:=rfl
def aCb:S.fns 86=some ajI:=ah
def ae8:cU 86:=rfl
def vA:cU 131:=rfl
def uU:cU 132:=rfl
def Wp:S.fns 27=some SA:=ah
def uK:cU 27:=rfl
def ad1:S.fns 36=some aaZ:=ah
def agl:cU 36:=rfl
def aAg:S.fns 20=some i20:=ah
def P5:cU 20:=rfl
def amd:S.fns 143=some Xr:=ah
def ag6:cU 143:=rfl
def axi:S.fns 144=some anU:=ah
def azr:S.fns 145=some T8:=ah
def dO:cU 145:=rfl
def aCx:S.fns 146=some FO:=ah
def akv:S.fns 147=some ads:=ah
def aqy:cU 147:=rfl
def apu:S.fns 148=some IH:=ah
def ayf:S.fns 149=some Oy:=ah
def arQ:S.fns 150=some ajc:=ah
def atf:S.fns 151=some amB:=ah
def aB6:S.fns 152=some NS:=ah
def ay9:S.fns 153=some ans:=ah
def ai4:S.fns 154=some EZ:=ah
def asb:S.fns 155=some ajK:=ah
def agq:cU 155:=rfl
def aBJ:S.fns 156=some aaT:=ah
def aec:cU 156:=rfl
def avj:S.fns 128=some acA:=ah
def apw:cU 128:=rfl
def arH:S.fns 129=some aho:=ah
def avF:cU 129:=rfl
def ay6:S.fns 130=some aft:=ah
def aqO:cU 130:=rfl
def aAZ:S.fns 133=some Vf:=ah
def uR:cU 133:=rfl
def ayz:S.fns 134=some aeI:=ah
def akI:cU 134:=rfl
def aw1:S.fns 135=some ajx:=ah
def UN:cU 135:=rfl
def atS:S.fns 136=some aju:=ah
def agw:cU 136:=rfl
def ay2:S.fns 137=some ag4:=ah
def FB:cU 137:=rfl
def avs:S.fns 138=some ajd:=ah
def agW:cU 138:=rfl
def aBv:S.fns 139=some anI:=ah
def akG:cU 139:=rfl
def adi:S.fns 57=some Ra:=ah
def ad4:cU 57:=rfl
def ajT:S.fns 45=some abU:=ah
def Wq:cU 45:=rfl
def aB8:S.fns 46=some i46:=ah
def aDc:cU 46:=rfl
def atU:S.fns 48=some aiO:=ah
def akN:cU 48:=rfl
def aAF:S.fns 49=some aeF:=ah
def amh:cU 49:=rfl
def aBC:S.fns 169=some SI:=ah
def aDe:cU 169:=rfl
def auo:S.fns 170=some acS:=ah
def aqS:S.fns 171=some i171:=ah
def aps:S.fns 172=some anO:=ah
def eN:cU 172:=rfl
def ahn:S.fns 173=some i173:=ah
def WN:cU 173:=rfl
def apy:S.fns 175=some aaB:=ah
def ao7:S.fns 174=some Vq:=ah
def ami:cU 174:=rfl
def aBf:S.fns 176=some adz:=ah
def abY:cU 176:=rfl
def auW:S.fns 177=some af9:=ah
def Fw:cU 177:=rfl
def aAc:S.fns 178=some anY:=ah
def jz:cU 178:=rfl
def asR:S.fns 179=some KB:=ah
def Jg:cU 179:=rfl
def aoJ:S.fns 180=some agS:=ah
def hU:cU 180:=rfl
def asG:S.fns 181=some ajg:=ah
def iJ:cU 181:=rfl
def aC2:S.fns 182=some afV:=ah
def uz:cU 182:=rfl
def atV:S.fns 183=some L3:=ah
def iC:cU 183:=rfl
def awr:S.fns 184=some Y1:=ah
def axl:S.fns 185=some afY:=ah
def az3:S.fns 186=some abI:=ah
def aC7:S.fns 187=some afr:=ah
def aCM:cU 187:=rfl
def atw:S.fns 163=some ah1:=ah
def an5:cU 163:=rfl
def aul:S.fns 164=some afc:=ah
def OY:cU 164:=rfl
def aBr:S.fns 165=some akP:=ah
def avP:cU 165:=rfl
def aal:S.fns 93=some R1:=ah
def Xf:cU 93:=rfl
def aoB:S.fns 95=some akx:=ah
def FR:cU 95:=rfl
def aiR:S.fns 94=some Xl:=ah
def Ke:cU 94:=rfl
def afN:S.fns 96=some aaq:=ah
def VE:cU 96:=rfl
def atg:S.fns 88=some aaj:=ah
def aqW:cU 88:=rfl
def apq:S.fns 87=some agj:=ah
def ayd:cU 87:=rfl
def awa:S.fns 197=some anD:=ah
def azL:S.fns 198=some am0:=ah
def agU:cU 198:=rfl
def awH:S.fns 199=some V2:=ah
def az8:cU 199:=rfl
def aqX:S.fns 200=some To:=ah
def aCV:cU 200:=rfl
def apW:S.fns 201=some Wx:=ah
def aor:cU 201:=rfl
def avE:S.fns 203=some alS:=ah
def aBj:S.shared 203:=ah
def ajk:S.fns 123=some RA:=ah
def ac5:S.shared 123:=ah
def Aq:S.fns 124=some zm:=ah
def alJ:cU 124:=rfl
def awp:S.fns 220=some aiZ:=ah
def amk:cU 220:=rfl
def az5:S.fns 202=some ach:=ah
def aqZ:cU 202:=rfl
def asv:S.fns 222=some alv:=ah
def aC5:S.shared 222:=ah
def aC9:S.fns 228=some akc:=ah
def aoh:cU 228:=rfl
def aAH:S.fns 221=some ahC:=ah
def afC:cU 221:=rfl
def axV:S.fns 249=some af3:=ah
def atr:cU 249:=rfl
def c9:S.fns 3=some i3:=ah
def xQ:cU 3:=rfl
noncomputable section
def Hv:aX:=dV 16
def i5:aX:=dV 5
def BR:aX:=dV 15
def WH:aX:=dV 33
def Hk:aX:=dV 34
def H2:aX:=dV 66
def Dv:aX:=dV 6
def NU:aS:=cA 18 37
def alb:aS:=cA 18 7
def amx:aX:=fJ 18 52 7 NU alb
def adl:aX:=dV 32
def Hf:aS:=cA 65 37
def WU:aS:=cA 65 7
def abB:aX:=fJ 65 52 7 Hf WU
end
def J6:S.fns 16=some Hv:=ah
def U3:cU 16:=rfl
def eT:S.fns 5=some i5:=ah
def QA:cU 5:=rfl
def KJ:S.fns 15=some BR:=ah
def Av:cU 15:=rfl
def aeU:S.fns 33=some WH:=ah
def Vd:cU 33:=rfl
def xW:cU 4:=rfl
def MY:S.fns 34=some Hk:=ah
def afh:cU 34:=rfl
def VR:S.fns 66=some H2:=ah
def Lc:cU 66:=rfl
def fB:S.fns 6=some Dv:=ah
def aB5:cU 6:=rfl
def aAu:S.fns 18=some amx:=ah
def KA:cU 18:=rfl
def aDD:cU 62:=rfl
def ant:S.fns 32=some adl:=ah
def GW:cU 32:=rfl
def alD:S.fns 65=some abB:=ah
def amf:cU 65:=rfl
end Go.Abs
