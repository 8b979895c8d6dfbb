/-
  The program as a system of the abstract machine.
-/
import Derived.Test.YtffbakabajjgcaaGreatDoorMf
import Derived.Test.YtffbakabajjgcaaGreatDoorProg
set_option linter.all false
set_option maxRecDepth 100000
noncomputable section
namespace Go.Abs
open Go.Proofs
def Ni{α:Type}:List α->Nat->Option α
  | [],_ => none
  | a::l,n => match n with | 0 => some a | n+1 => Ni l n
def lkN{α:Type}:List (Nat×α)->Nat->Option α
  | [],_ => none
  | (k,a)::l,n => bif Nat.beq k n then some a else lkN l n
noncomputable def fB(s:Nat)(o:Oper):mU := match o.op with
  | .build t ps => (match Tryz.prog.underlying t,Aq Tryz.prog t with | some (.struct fs),some z => ((Dh (fun i => (Ni fs.toList i).map fun f => (f.offset,Tryz.prog.cellsOf f.type)) z.length ps.toList).map (.build z)).getD .bad | _,_ => Iu Tryz.prog s o)
  | .binOp op t x y _ => (match Tryz.prog.underlying t,cG x,cG y with | some (.struct fs),some a,some b =>.eqc (.str (fs.toList.map fun f => (QZ Tryz.prog f.type).getD false)) (match op with | .neq => true | _ => false) a b | _,_,_ => Iu Tryz.prog s o)
  | _ => Iu Tryz.prog s o
noncomputable def oL(a:List Nat)(j:Nat):List Edge->Nat->Nat
  | [],s => s
  | e::r,s => match (bif Region.binds .any e then Nat.lor (Nat.lor s (Nat.pow 2 e.on)) ((Ni a (j-1-e.on)).getD 0) else s) with | 0 => oL a j r 0 | m+1 => oL a j r (m+1)
noncomputable def fOp(ops:List Oper)(b s i:Nat)(o:Oper):bI := ⟨o.dst,fB ((s+i)*64) o,(match o.guard with | none => none | some (j,w) => (match Ni ops j with | some x => (match x.dst with | some t => some (t,w) | none => none) | none => none)),b⟩
noncomputable def Tj(d:Bool)(ops:List Oper)(s:Nat):List Nat->Nat->List Oper->List bI
  | _,_,[] => []
  | a,i,o::r => match (bif d then oL a i o.after.toList 0 else 0) with | 0 => fOp ops 0 s i o::Tj d ops s (0::a) (i+1) r | m+1 => fOp ops (m+1) s i o::Tj d ops s ((m+1)::a) (i+1) r
abbrev fW(B:List (Nat×aH))(p:Nat)(y:aH):aH := match lkN B p with | some x => x | none => y
/-- the code of a function: at some places something else stands -/
noncomputable def fC(f:Nat)(B:List (Nat×aH)):Code->Nat->aH
  | .region id ops draw,_ =>.region draw (Tj draw ops.toList ((f*1000+id)*1000) [] 0 ops.toList)
  | .seq a b,p =>.seq (fW B (2*p) (fC f B a (2*p))) (fW B (2*p+1) (fC f B b (2*p+1)))
  | .cond c a b,p => match cG c with | some c =>.cond c (fW B (2*p) (fC f B a (2*p))) (fW B (2*p+1) (fC f B b (2*p+1))) | none =>.bad
  | .block i c,p =>.block i (fW B (2*p) (fC f B c (2*p)))
  | .loop c,p =>.loop (fW B (2*p) (fC f B c (2*p)))
  | .exit i,_ =>.exit i
  | .scope c,p => fC f B c p
  | .ret,_ =>.ret
  | .label _,_ =>.skip
  | .skip,_ =>.skip
  | _,_ =>.bad
noncomputable def fF(f:Nat)(B:List (Nat×aH)):aS := match Ni Tryz.prog.funcs.toList f with
  | some fn => (match fn.body with | some c => ⟨fn.ntmps,(Bo Tryz.prog fn.results.toList).getD [],fC f B c 1⟩ | none => ⟨0,[],.bad⟩)
  | none => ⟨0,[],.bad⟩
/-- the part at a place -/
noncomputable def gL:aH->Nat->aH
  | .seq a b,q => bif Nat.beq q 1 then .seq a b else bif Nat.beq (q%2) 0 then gL a (q/2) else gL b (q/2)
  | .cond x a b,q => bif Nat.beq q 1 then .cond x a b else bif Nat.beq (q%2) 0 then gL a (q/2) else gL b (q/2)
  | .block i a,q => bif Nat.beq q 1 then .block i a else gL a (q/2)
  | .loop a,q => bif Nat.beq q 1 then .loop a else gL a (q/2)
  | c,_ => c
abbrev fI(f:Nat)(B:List (Nat×aH))(q:Nat):aH := gL (fF f B).body q
def dB(n:Nat){g:aS}(_:fF n []=g := by conv => lhs; reduce; try simp only [Int.reduceOfNat,Int.reduceNegSucc]):aS := g
def Ff(n p0:Nat)(y0:aH){g:aH->aS}(_:(fun x0 => fF n [(p0,x0)])=g := by conv => lhs; reduce; try simp only [Int.reduceOfNat,Int.reduceNegSucc]):aS := g y0
def dM(n p0 p1:Nat)(y0 y1:aH){g:aH->aH->aS}(_:(fun x0 x1 => fF n [(p0,x0),(p1,x1)])=g := by conv => lhs; reduce; try simp only [Int.reduceOfNat,Int.reduceNegSucc]):aS := g y0 y1
def lf3(n p0 p1 p2:Nat)(y0 y1 y2:aH){g:aH->aH->aH->aS}(_:(fun x0 x1 x2 => fF n [(p0,x0),(p1,x1),(p2,x2)])=g := by conv => lhs; reduce; try simp only [Int.reduceOfNat,Int.reduceNegSucc]):aS := g y0 y1 y2
def aP(n q:Nat){g:aH}(_:fI n [] q=g := by conv => lhs; reduce; try simp only [Int.reduceOfNat,Int.reduceNegSucc]):aH := g
def lp1(n q p0:Nat)(y0:aH){g:aH->aH}(_:(fun x0 => fI n [(p0,x0)] q)=g := by conv => lhs; reduce; try simp only [Int.reduceOfNat,Int.reduceNegSucc]):aH := g y0
def ss(n q p0 p1:Nat)(y0 y1:aH){g:aH->aH->aH}(_:(fun x0 x1 => fI n [(p0,x0),(p1,x1)] q)=g := by conv => lhs; reduce; try simp only [Int.reduceOfNat,Int.reduceNegSucc]):aH := g y0 y1
def CZ(n q p0 p1 p2:Nat)(y0 y1 y2:aH){g:aH->aH->aH->aH}(_:(fun x0 x1 x2 => fI n [(p0,x0),(p1,x1),(p2,x2)] q)=g := by conv => lhs; reduce; try simp only [Int.reduceOfNat,Int.reduceNegSucc]):aH := g y0 y1 y2
def lp5(n q p0 p1 p2 p3 p4:Nat)(y0 y1 y2 y3 y4:aH){g:aH->aH->aH->aH->aH->aH}(_:(fun x0 x1 x2 x3 x4 => fI n [(p0,x0),(p1,x1),(p2,x2),(p3,x3),(p4,x4)] q)=g := by conv => lhs; reduce; try simp only [Int.reduceOfNat,Int.reduceNegSucc]):aH := g y0 y1 y2 y3 y4
attribute [go_sem] dB Ff dM lf3 aP lp1 ss CZ lp5
abbrev om(d a:Nat):bI:=⟨some d,.iY (.t a),none,0⟩
abbrev of(d f a:Nat):bI:=⟨some d,.ng f (.t a),none,0⟩
abbrev ol(d a:Nat):bI:=⟨some d,.load none (.t a),none,0⟩
abbrev ox(d s a:Nat):bI:=⟨some d,.load (some s) (.t a),none,0⟩
abbrev oo(d:Nat)(x:mU):bI:=⟨some d,x,none,0⟩
abbrev oi(d z a b:Nat):bI:=⟨some d,.GZ z (.t a) (.t b),none,0⟩
abbrev oc(d s f:Nat)(a:List aQ):bI:=⟨some d,.call s (.k (.one (.p (.fn f [] [])))) a,none,0⟩
abbrev dm(d a n:Nat):bI:=⟨some d,.iY (.t a),none,n⟩
abbrev dl(d a n:Nat):bI:=⟨some d,.load none (.t a),none,n⟩
abbrev dc(d s f:Nat)(a:List aQ)(n:Nat):bI:=⟨some d,.call s (.k (.one (.p (.fn f [] [])))) a,none,n⟩
abbrev os(z a b:Nat):bI:=⟨none,.store z (.t a) (.t b),none,0⟩
abbrev mb(d:Nat)(b:Bool):bI:=⟨some d,.iY (.b b),none,0⟩
abbrev mi(d:Nat)(k:Int):bI:=⟨some d,.iY (.i k),none,0⟩
abbrev ot(d:Nat)(b:BinOp)(x y:Nat):bI:=⟨some d,.bin b (.t x) (.t y),none,0⟩
abbrev oj(d:Nat)(b:BinOp)(x:Nat)(y:Int):bI:=⟨some d,.bin b (.t x) (.i y),none,0⟩
abbrev dt(d:Nat)(b:BinOp)(x y n:Nat):bI:=⟨some d,.bin b (.t x) (.t y),none,n⟩
abbrev oh(d a:Nat):bI:=⟨some d,.JJ (.t a),none,0⟩
abbrev ct(a:Nat)(x y:aH):aH:=.cond (.t a) x y
abbrev rf(l:List bI):aH:=.region false l
abbrev rt(l:List bI):aH:=.region true l
abbrev il(k:Int):PV:=.int .i64 k
abbrev od(d:Nat)(x:mU)(n:Nat):bI:=⟨some d,x,none,n⟩
def i26:aS:=dB 26
def i35:aS:=dB 35
def i68_l1:aH:=aP 68 75
def i68_r2:aH:=aP 68 15
def i68:aS:=dM 68 116 15 i68_l1 i68_r2
def i113_l1:aH:=aP 113 75
def i113_r2:aH:=aP 113 15
def i113:aS:=dM 113 116 15 i113_l1 i113_r2
def i114:aS:=dB 114
def i104:aS:=dB 104
def i134:aS:=dB 134
def i105:aS:=dB 105
def i106_l1:aH:=aP 106 607
def i106_l2:aH:=aP 106 4863
def i106_l3:aH:=aP 106 38911
def i106_r4:aH:=aP 106 8191
def i106_r5:aH:=ss 106 1023 65524 8191 i106_l3 i106_r4
def i106_r6:aH:=ss 106 127 8180 1023 i106_l2 i106_r5
def i106:aS:=dM 106 1012 127 i106_l1 i106_r6
def i107_l1:aH:=aP 107 303
def i107_r2:aH:=aP 107 63
def i107:aS:=dM 107 500 63 i107_l1 i107_r2
def i108_l1:aH:=aP 108 324399
def i108_r2:aH:=aP 108 3887
def i108_l3:aH:=ss 108 303 512828 4007 i108_l1 i108_r2
def i108_r4:aH:=aP 108 63
def i108:aS:=dM 108 500 63 i108_l3 i108_r4
def i69_l1:aH:=aP 69 75
def i69_r2:aH:=aP 69 15
def i69:aS:=dM 69 116 15 i69_l1 i69_r2
def i135:aS:=dB 135
def i162:aS:=dB 162
def i161:aS:=dB 161
def i133:aS:=dB 133
def i160_l1:aH:=aP 160 37
def i160_r2:aH:=aP 160 7
def i160:aS:=dM 160 52 7 i160_l1 i160_r2
def i23:aS:=dB 23
def i45_l1:aH:=aP 45 75
def i45_r2:aH:=aP 45 15
def i45:aS:=dM 45 116 15 i45_l1 i45_r2
def i48:aS:=dB 48
def i44_l1:aH:=aP 44 75
def i44_r2:aH:=aP 44 15
def i44:aS:=dM 44 116 15 i44_l1 i44_r2
def i79_l1:aH:=aP 79 75
def i79_r2:aH:=aP 79 15
def i79:aS:=dM 79 116 15 i79_l1 i79_r2
def i55_l1:aH:=aP 55 75
def i55_r2:aH:=aP 55 15
def i55:aS:=dM 55 116 15 i55_l1 i55_r2
def i46_l1:aH:=aP 46 19237
def i46_r2:aH:=aP 46 3877
def i46_r3:aH:=aP 46 229
def i46_l4:aH:=CZ 46 37 26932 3367 211 i46_l1 i46_r2 i46_r3
def i46_r5:aH:=aP 46 7
def i46:aS:=dM 46 52 7 i46_l4 i46_r5
def i80_l1:aH:=aP 80 75
def i80_r2:aH:=aP 80 15
def i80:aS:=dM 80 116 15 i80_l1 i80_r2
def i123_l1:aH:=aP 123 37
def i123_r2:aH:=aP 123 7
def i123:aS:=dM 123 52 7 i123_l1 i123_r2
def i121:aS:=dB 121
def i81_l1:aH:=aP 81 17995
def i81_r2:aH:=aP 81 7755
def i81_r3:aH:=aP 81 459
def i81_l4:aH:=CZ 81 75 29848 7463 467 i81_l1 i81_r2 i81_r3
def i81_r5:aH:=aP 81 15
def i81:aS:=dM 81 116 15 i81_l4 i81_r5
def i98_l1:aH:=aP 98 37
def i98_r2:aH:=aP 98 7
def i98:aS:=dM 98 52 7 i98_l1 i98_r2
def i122:aS:=dB 122
def i82:aS:=dB 82
def i47_l1:aH:=aP 47 153903
def i47_r2:aH:=aP 47 31023
def i47_r3:aH:=aP 47 1839
def i47_l4:aH:=CZ 47 303 256308 32039 2003 i47_l1 i47_r2 i47_r3
def i47_r5:aH:=aP 47 63
def i47:aS:=dM 47 500 63 i47_l4 i47_r5
def i112_l1:aH:=aP 112 1215
def i112_r2:aH:=aP 112 255
def i112:aS:=dM 112 2036 255 i112_l1 i112_r2
def i76_l1:aH:=aP 76 607
def i76_l2:aH:=aP 76 314559
def i76_r3:aH:=aP 76 15551
def i76_l4:aH:=ss 76 1215 521420 16295 i76_l2 i76_r3
def i76_r5:aH:=aP 76 255
def i76_r6:aH:=ss 76 127 2036 255 i76_l4 i76_r5
def i76:aS:=dM 76 1012 127 i76_l1 i76_r6
def i41:aS:=dB 41
def i40:aS:=dB 40
def i9_l1:aH:=aP 9 75
def i9_r2:aH:=aP 9 15
def i9:aS:=dM 9 116 15 i9_l1 i9_r2
def i50_l1:aH:=aP 50 309207
def i50_r2:aH:=aP 50 63447
def i50_r3:aH:=aP 50 31
def i50:aS:=lf3 50 503732 62967 31 i50_l1 i50_r2 i50_r3
def i78:aS:=dB 78
def i84:aS:=dB 84
def i156:aS:=dB 156
def i85:aS:=dB 85
def i86:aS:=dB 86
def i88:aS:=dB 88
def i91:aS:=dB 91
def i92:aS:=dB 92
def i96:aS:=dB 96
def i83_l1:aH:=aP 83 38348287
def i83_r2:aH:=aP 83 3745279
def i83_l3:aH:=ss 83 599551 67062052 4191379 i83_l1 i83_r2
def i83_r4:aH:=aP 83 58879
def i83_l5:aH:=ss 83 9727 1047844 65491 i83_l3 i83_r4
def i83_r6:aH:=aP 83 2047
def i83:aS:=dM 83 16372 2047 i83_l5 i83_r6
def i77_l1:aH:=aP 77 19607
def i77_r2:aH:=aP 77 919
def i77_l3:aH:=ss 77 151 31308 979 i77_l1 i77_r2
def i77_r4:aH:=aP 77 31
def i77:aS:=dM 77 244 31 i77_l3 i77_r4
def i58:aS:=dB 58
def i97:aS:=dB 97
def i117:aS:=dB 117
def i118:aS:=dB 118
def i119:aS:=dB 119
def i120_l1:aH:=aP 120 151
def i120_r2:aH:=aP 120 31
def i120:aS:=dM 120 244 31 i120_l1 i120_r2
def i127_l1:aH:=aP 127 307807
def i127_r2:aH:=aP 127 62047
def i127_r3:aH:=aP 127 3679
def i127_l4:aH:=CZ 127 607 518452 64807 4051 i127_l1 i127_r2 i127_r3
def i127_r5:aH:=aP 127 127
def i127:aS:=dM 127 1012 127 i127_l4 i127_r5
def i191:aS:=⟨159,[(4,none)],(.seq (rf [oo 2 (.box 12224000000 (.t 0)),oo 3 (.box 12224000064 (.t 1)),mb 4 false]) (.seq (rf [of 6 0 3,ol 7 6,oc 8 12224064128 124 [.t 7],om 5 8]) (.seq (.seq (rf [om 9 5,oo 10 (.bin .eql (.t 9) (.k (.one (.p (.str ⟨#[]⟩))))),om 11 10,⟨(some 12),.iY (.t 5),(some (11,false)),0⟩,⟨(some 13),.call 12224128256 (.k (.one (.p (.fn 125 [] [])))) [.t 12,.k (.one (.p (.int .u8 66)))],(some (11,false)),0⟩,⟨(some 14),.un .not (.t 13),(some (11,false)),0⟩,⟨(some 15),.iY (.t 14),(some (11,false)),0⟩,⟨(some 16),.ng 2 (.t 3),(some (15,true)),0⟩,⟨(some 17),.load none (.t 16),(some (15,true)),0⟩,⟨(some 18),.bin .neq (.t 17) (.i 0),(some (15,true)),0⟩,⟨(some 19),.pick (.t 15) (.t 18) (.b false),(some (11,false)),0⟩,oo 20 (.pick (.t 11) (.b true) (.t 19)),om 21 20,⟨(some 22),.iY (.t 5),(some (21,false)),0⟩,⟨(some 23),.call 12224128896 (.k (.one (.p (.fn 125 [] [])))) [.t 22,.k (.one (.p (.int .u8 67)))],(some (21,false)),0⟩, ⟨(some 24),.un .not (.t 23),(some (21,false)),0⟩,⟨(some 25),.iY (.t 24),(some (21,false)),0⟩,⟨(some 26),.ng 3 (.t 3),(some (25,true)),0⟩,⟨(some 27),.load none (.t 26),(some (25,true)),0⟩,⟨(some 28),.bin .neq (.t 27) (.i 0),(some (25,true)),0⟩,⟨(some 29),.pick (.t 25) (.t 28) (.b false),(some (21,false)),0⟩,oo 30 (.pick (.t 21) (.b true) (.t 29)),om 31 30,⟨(some 32),.iY (.t 5),(some (31,false)),0⟩,⟨(some 33),.call 12224129536 (.k (.one (.p (.fn 125 [] [])))) [.t 32,.k (.one (.p (.int .u8 76)))],(some (31,false)),0⟩,⟨(some 34),.un .not (.t 33),(some (31,false)),0⟩,⟨(some 35),.iY (.t 34),(some (31,false)),0⟩,⟨(some 36),.ng 4 (.t 3),(some (35,true)),0⟩,⟨(some 37),.load none (.t 36),(some (35,true)),0⟩,⟨(some 38),.pick (.t 35) (.t 37) (.b false),(some (31,false)),0⟩,oo 39 (.pick (.t 31) (.b true) (.t 38)),om 40 39,⟨(some 41),.iY (.t 5),(some (40,false)),0⟩, ⟨(some 42),.call 12224130112 (.k (.one (.p (.fn 125 [] [])))) [.t 41,.k (.one (.p (.int .u8 79)))],(some (40,false)),0⟩,⟨(some 43),.un .not (.t 42),(some (40,false)),0⟩,⟨(some 44),.iY (.t 43),(some (40,false)),0⟩,⟨(some 45),.ng 5 (.t 3),(some (44,true)),0⟩,⟨(some 46),.load none (.t 45),(some (44,true)),0⟩,⟨(some 47),.pick (.t 44) (.t 46) (.b false),(some (40,false)),0⟩,oo 48 (.pick (.t 40) (.b true) (.t 47)),om 49 48,⟨(some 50),.iY (.t 5),(some (49,false)),0⟩,⟨(some 51),.call 12224130688 (.k (.one (.p (.fn 125 [] [])))) [.t 50,.k (.one (.p (.int .u8 83)))],(some (49,false)),0⟩,⟨(some 52),.un .not (.t 51),(some (49,false)),0⟩,⟨(some 53),.iY (.t 52),(some (49,false)),0⟩,⟨(some 54),.ng 6 (.t 3),(some (53,true)),0⟩,⟨(some 55),.load none (.t 54),(some (53,true)),0⟩,⟨(some 56),.bin .neq (.t 55) (.i 0),(some (53,true)),0⟩,⟨(some 57),.pick (.t 53) (.t 56) (.b false),(some (49,false)),0⟩, oo 58 (.pick (.t 49) (.b true) (.t 57))]) (ct 58 (.seq (rf [mb 4 true]) .ret) .skip)) (.seq (.seq (rf [om 59 5,oc 60 12224256064 125 [.t 59,.k (.one (.p (.int .u8 83)))],om 61 60,⟨(some 62),.ng 6 (.t 3),(some (61,true)),0⟩,⟨(some 63),.load none (.t 62),(some (61,true)),0⟩,⟨(some 64),.bin .neq (.t 63) (.i 1),(some (61,true)),0⟩,oo 65 (.pick (.t 61) (.t 64) (.b false)),om 66 65,⟨(some 67),.ng 6 (.t 3),(some (66,true)),0⟩,⟨(some 68),.load none (.t 67),(some (66,true)),0⟩,⟨(some 69),.bin .neq (.t 68) (.i (-1)),(some (66,true)),0⟩,oo 70 (.pick (.t 66) (.t 69) (.b false))]) (ct 70 (.seq (rf [mb 4 true]) .ret) .skip)) (.seq (.seq (rf [of 71 0 3,ol 72 71,oj 73 .eql 72 2]) (ct 73 (.seq (rf [ox 74 4 2,of 75 1 3,ol 76 75,oc 77 12224448192 217 [.t 74,.t 76],oo 78 (.un .not (.t 77)),om 79 78,⟨(some 80),.ng 2 (.t 2),(some (79,true)),0⟩, ⟨(some 81),.load none (.t 80),(some (79,true)),0⟩,⟨(some 82),.bin .eql (.t 81) (.i 0),(some (79,true)),0⟩,⟨(some 83),.iY (.t 82),(some (79,true)),0⟩,⟨(some 84),.ng 1 (.t 3),(some (83,true)),0⟩,⟨(some 85),.load none (.t 84),(some (83,true)),0⟩,⟨(some 86),.bin .eql (.t 85) (.i 0),(some (83,true)),0⟩,⟨(some 87),.pick (.t 83) (.t 86) (.b false),(some (79,true)),0⟩,⟨(some 88),.un .not (.t 87),(some (79,true)),0⟩,oo 89 (.pick (.t 79) (.t 88) (.b false)),om 90 89,⟨(some 91),.ng 0 (.t 2),(some (90,false)),0⟩,⟨(some 92),.load (some 2) (.t 91),(some (90,false)),0⟩,⟨(some 93),.ng 2 (.t 3),(some (90,false)),0⟩,⟨(some 94),.load none (.t 93),(some (90,false)),0⟩,⟨(some 95),.ng 3 (.t 3),(some (90,false)),0⟩,⟨(some 96),.load none (.t 95),(some (90,false)),0⟩,⟨(some 97),.build [il 0,il 0] [(0,1,.t 94),(1,1,.t 96)],(some (90,false)),0⟩, ⟨(some 98),.call 12224449536 (.k (.one (.p (.fn 218 [] [])))) [.t 92,.t 97],(some (90,false)),0⟩,⟨(some 99),.un .not (.t 98),(some (90,false)),0⟩,oo 100 (.pick (.t 90) (.b true) (.t 99)),om 4 100]) .ret) .skip)) (.seq (.seq (rf [ox 101 4 2,of 102 1 3,ol 103 102,oc 104 12224512192 217 [.t 101,.t 103],oo 105 (.un .not (.t 104)),om 106 105,⟨(some 107),.iY (.t 5),(some (106,false)),0⟩,⟨(some 108),.call 12224512448 (.k (.one (.p (.fn 125 [] [])))) [.t 107,.k (.one (.p (.int .u8 66)))],(some (106,false)),0⟩,⟨(some 109),.iY (.t 108),(some (106,false)),0⟩,⟨(some 110),.load (some 4) (.t 2),(some (109,true)),0⟩,⟨(some 111),.ng 2 (.t 3),(some (109,true)),0⟩,⟨(some 112),.load none (.t 111),(some (109,true)),0⟩,⟨(some 113),.call 12224512768 (.k (.one (.p (.fn 217 [] [])))) [.t 110,.t 112],(some (109,true)),0⟩,⟨(some 114),.un .not (.t 113),(some (109,true)),0⟩, ⟨(some 115),.pick (.t 109) (.t 114) (.b false),(some (106,false)),0⟩,oo 116 (.pick (.t 106) (.b true) (.t 115)),om 117 116,⟨(some 118),.iY (.t 5),(some (117,false)),0⟩,⟨(some 119),.call 12224513152 (.k (.one (.p (.fn 125 [] [])))) [.t 118,.k (.one (.p (.int .u8 67)))],(some (117,false)),0⟩,⟨(some 120),.iY (.t 119),(some (117,false)),0⟩,⟨(some 121),.load (some 4) (.t 2),(some (120,true)),0⟩,⟨(some 122),.ng 3 (.t 3),(some (120,true)),0⟩,⟨(some 123),.load none (.t 122),(some (120,true)),0⟩,⟨(some 124),.call 12224513472 (.k (.one (.p (.fn 217 [] [])))) [.t 121,.t 123],(some (120,true)),0⟩,⟨(some 125),.un .not (.t 124),(some (120,true)),0⟩,⟨(some 126),.pick (.t 120) (.t 125) (.b false),(some (117,false)),0⟩,oo 127 (.pick (.t 117) (.b true) (.t 126))]) (ct 127 (.seq (rf [mb 4 true]) .ret) .skip)) (.seq (.seq (rf [of 128 0 3,ol 129 128]) (.block 0 (.seq (.seq (rf [oj 131 .eql 129 3, om 130 131]) (ct 130 .skip (rf [oj 132 .eql 129 6,om 130 132]))) (ct 130 (.seq (rf [of 133 1 3,ol 134 133,of 135 2 3,ol 136 135,ot 137 .geq 134 136,om 4 137]) .ret) (.seq (rf [oj 139 .eql 129 7,om 138 139]) (ct 138 (.seq (rf [of 140 1 3,ol 141 140,of 142 2 3,ol 143 142,ot 144 .eql 141 143,om 4 144]) .ret) (.seq (rf [oj 146 .eql 129 8,om 145 146]) (ct 145 (.seq (rf [of 147 1 3,ol 148 147,of 149 2 3,ol 150 149,ot 151 .geq 148 150,om 152 151,⟨(some 153),.ng 2 (.t 3),(some (152,false)),0⟩,⟨(some 154),.load none (.t 153),(some (152,false)),0⟩,⟨(some 155),.ng 3 (.t 3),(some (152,false)),0⟩,⟨(some 156),.load none (.t 155),(some (152,false)),0⟩,⟨(some 157),.bin .geq (.t 154) (.t 156),(some (152,false)),0⟩,oo 158 (.pick (.t 152) (.b true) (.t 157)),om 4 158]) .ret) .skip)))))))) (.seq (rf [mb 4 false]) .ret))))))))⟩
def i192:aS:=dB 192
def i128_l1:aH:=aP 128 75
def i128_r2:aH:=aP 128 15
def i128:aS:=dM 128 116 15 i128_l1 i128_r2
def i129_l1:aH:=aP 129 37
def i129_r2:aH:=aP 129 7
def i129:aS:=dM 129 52 7 i129_l1 i129_r2
def i132:aS:=dB 132
def i99_l1:aH:=aP 99 37
def i99_r2:aH:=aP 99 7
def i99:aS:=dM 99 52 7 i99_l1 i99_r2
def i124:aS:=⟨19,[(2,none)],(.seq (rf [oo 2 (.iY (.k (.one (.p (.str ⟨#[]⟩)))))]) (.seq (.seq (rf [om 3 0]) (.block 0 (.seq (.seq (rf [oj 5 .eql 3 1,om 4 5]) (ct 4 .skip (.seq (rf [oj 6 .eql 3 4,om 4 6]) (ct 4 .skip (.seq (rf [oj 7 .eql 3 9,om 4 7]) (ct 4 .skip (rf [oj 8 .eql 3 10,om 4 8]))))))) (ct 4 (.seq (rf [oo 2 (.iY (.k (.one (.p (.str ⟨#[65]⟩)))))]) .ret) (.seq (.seq (rf [oj 10 .eql 3 2,om 9 10]) (ct 9 .skip (rf [oj 11 .eql 3 8,om 9 11]))) (ct 9 (.seq (rf [oo 2 (.iY (.k (.one (.p (.str ⟨#[65,66,67]⟩)))))]) .ret) (.seq (.seq (rf [oj 13 .eql 3 3,om 12 13]) (ct 12 .skip (rf [oj 14 .eql 3 6,om 12 14]))) (ct 12 (.seq (rf [oo 2 (.iY (.k (.one (.p (.str ⟨#[65,66]⟩)))))]) .ret) (.seq (rf [oj 16 .eql 3 5,om 15 16]) (ct 15 (.seq (rf [oo 2 (.iY (.k (.one (.p (.str ⟨#[65,79,83]⟩)))))]) .ret) (.seq (rf [oj 18 .eql 3 7, om 17 18]) (ct 17 (.seq (rf [oo 2 (.iY (.k (.one (.p (.str ⟨#[65,66,76,79]⟩)))))]) .ret) .skip)))))))))))) (.seq (rf [oo 2 (.iY (.k (.one (.p (.str ⟨#[]⟩)))))]) .ret)))⟩
def i125_l1:aH:=aP 125 37
def i125_r2:aH:=aP 125 7
def i125:aS:=dM 125 52 7 i125_l1 i125_r2
def i126_l1:aH:=aP 126 4793535
def i126_r2:aH:=aP 126 468159
def i126_l3:aH:=ss 126 74943 8341796 521363 i126_l1 i126_r2
def i126_r4:aH:=aP 126 7359
def i126_l5:aH:=ss 126 1215 130340 8147 i126_l3 i126_r4
def i126_r6:aH:=aP 126 255
def i126:aS:=dM 126 2036 255 i126_l5 i126_r6
def i115:aS:=dB 115
def i116_l1:aH:=aP 116 599
def i116_l2:aH:=aP 116 4895535
def i116_l3:aH:=aP 116 10400559
def i116_r4:aH:=lp1 116 963375 16410300 i116_l3
def i116_l5:aH:=aP 116 4961071
def i116_l6:aH:=aP 116 5153731375
def i116_r7:aH:=aP 116 254784303
def i116_l8:aH:=ss 116 19903279 8402105548 262565799 i116_l6 i116_r7
def i116_r9:aH:=aP 116 3887
def i116_l10:aH:=lp5 116 303 8205140 1025643 8205172 32820724 4007 i116_l2 i116_r4 i116_l5 i116_l8 i116_r9
def i116_r11:aH:=aP 116 63
def i116_r12:aH:=ss 116 31 500 63 i116_l10 i116_r11
def i116:aS:=dM 116 980 31 i116_l1 i116_r12
def i20:aS:=dB 20
def i25_l1:aH:=aP 25 19607
def i25_r2:aH:=aP 25 919
def i25_l3:aH:=ss 25 151 31308 979 i25_l1 i25_r2
def i25_r4:aH:=aP 25 31
def i25:aS:=dM 25 244 31 i25_l3 i25_r4
def i137_l1:aH:=aP 137 151
def i137_r2:aH:=aP 137 31
def i137:aS:=dM 137 244 31 i137_l1 i137_r2
def i138_l1:aH:=aP 138 303
def i138_r2:aH:=aP 138 63
def i138:aS:=dM 138 500 63 i138_l1 i138_r2
def i144:aS:=dB 144
def i147_l1:aH:=aP 147 2431
def i147_r2:aH:=aP 147 511
def i147:aS:=dM 147 4084 511 i147_l1 i147_r2
def i152_l1:aH:=aP 152 303
def i152_r2:aH:=aP 152 63
def i152:aS:=dM 152 500 63 i152_l1 i152_r2
def i154_l1:aH:=aP 154 37
def i154_r2:aH:=aP 154 7
def i154:aS:=dM 154 52 7 i154_l1 i154_r2
def i155:aS:=dB 155
def i157:aS:=dB 157
def i158_l1:aH:=aP 158 75
def i158_r2:aH:=aP 158 15
def i158:aS:=dM 158 116 15 i158_l1 i158_r2
def i159_l1:aH:=aP 159 75
def i159_r2:aH:=aP 159 15
def i159:aS:=dM 159 116 15 i159_l1 i159_r2
def i217:aS:=dB 217
def i219:aS:=dB 219
def i220:aS:=dB 220
def i221:aS:=dB 221
def i222:aS:=dB 222
def i223_l1:aH:=aP 223 303
def i223_r2:aH:=aP 223 63
def i223:aS:=dM 223 500 63 i223_l1 i223_r2
def i139_l1:aH:=aP 139 37
def i139_r2:aH:=aP 139 7
def i139:aS:=dM 139 52 7 i139_l1 i139_r2
def i143_l1:aH:=aP 143 309655
def i143_r2:aH:=aP 143 63895
def i143_r3:aH:=aP 143 1943
def i143_l4:aH:=CZ 143 151 501364 62671 1959 i143_l1 i143_r2 i143_r3
def i143_r5:aH:=aP 143 31
def i143:aS:=dM 143 244 31 i143_l4 i143_r5
def i36_l1:aH:=aP 36 40139
def i36_r2:aH:=aP 36 971
def i36_l3:aH:=ss 36 75 59804 935 i36_l1 i36_r2
def i36_r4:aH:=aP 36 15
def i36:aS:=dM 36 116 15 i36_l3 i36_r4
def i53_l1:aH:=aP 53 151
def i53_r2:aH:=aP 53 31
def i53:aS:=dM 53 244 31 i53_l1 i53_r2
def i54_l1:aH:=aP 54 151
def i54_r2:aH:=aP 54 31
def i54:aS:=dM 54 244 31 i54_l1 i54_r2
def i56:aS:=dB 56
def i57_l1:aH:=aP 57 37
def i57_r2:aH:=aP 57 7
def i57:aS:=dM 57 52 7 i57_l1 i57_r2
def i167:aS:=dB 167
def i168_l1:aH:=aP 168 9
def i168:aS:=Ff 168 12 i168_l1
def i169_l1:aH:=aP 169 9
def i169:aS:=Ff 169 12 i169_l1
def i176:aS:=dB 176
def i181:aS:=dB 181
def i183:aS:=dB 183
def i184:aS:=dB 184
def i187:aS:=dB 187
def i172:aS:=dB 172
def i189_l1:aH:=aP 189 76363
def i189_r2:aH:=aP 189 14923
def i189_r3:aH:=aP 189 459
def i189_l4:aH:=CZ 189 75 119380 14923 467 i189_l1 i189_r2 i189_r3
def i189_r5:aH:=aP 189 15
def i189:aS:=dM 189 116 15 i189_l4 i189_r5
def i190_l1:aH:=aP 190 75
def i190_r2:aH:=aP 190 15
def i190:aS:=dM 190 116 15 i190_l1 i190_r2
def i193_l1:aH:=aP 193 151
def i193_r2:aH:=aP 193 31
def i193:aS:=dM 193 244 31 i193_l1 i193_r2
def i250_l1:aH:=aP 250 19237
def i250_r2:aH:=aP 250 3877
def i250_r3:aH:=aP 250 229
def i250_l4:aH:=CZ 250 37 26932 3367 211 i250_l1 i250_r2 i250_r3
def i250_r5:aH:=aP 250 7
def i250:aS:=dM 250 52 7 i250_l4 i250_r5
def i251:aS:=dB 251
def i173:aS:=dB 173
def i174:aS:=dB 174
def i175:aS:=dB 175
def i70_l1:aH:=aP 70 151
def i70_r2:aH:=aP 70 31
def i70:aS:=dM 70 244 31 i70_l1 i70_r2
def i72:aS:=dB 72
def i71_l1:aH:=aP 71 151
def i71_r2:aH:=aP 71 31
def i71:aS:=dM 71 244 31 i71_l1 i71_r2
def i73_l1:aH:=aP 73 37
def i73_r2:aH:=aP 73 7
def i73:aS:=dM 73 52 7 i73_l1 i73_r2
def i101:aS:=dB 101
def i100_l1:aH:=aP 100 37
def i100_r2:aH:=aP 100 7
def i100:aS:=dM 100 52 7 i100_l1 i100_r2
def i199_l1:aH:=aP 199 17
def i199_r2:aH:=aP 199 7
def i199:aS:=dM 199 24 7 i199_l1 i199_r2
def i213:aS:=dB 213
def i214_l1:aH:=aP 214 154007
def i214_r2:aH:=aP 214 31127
def i214_r3:aH:=aP 214 1943
def i214_l4:aH:=CZ 214 151 250676 31335 1959 i214_l1 i214_r2 i214_r3
def i214_r5:aH:=aP 214 31
def i214:aS:=dM 214 244 31 i214_l4 i214_r5
def i209_l1:aH:=aP 209 19
def i209:aS:=Ff 209 28 i209_l1
def i210_l1:aH:=aP 210 37
def i210_r2:aH:=aP 210 7
def i210:aS:=dM 210 52 7 i210_l1 i210_r2
def i211_l1:aH:=aP 211 19
def i211:aS:=Ff 211 28 i211_l1
def i109_l1:aH:=aP 109 9
def i109:aS:=Ff 109 12 i109_l1
def i110:aS:=dB 110
def i248_l1:aH:=aP 248 37
def i248_r2:aH:=aP 248 7
def i248:aS:=dM 248 52 7 i248_l1 i248_r2
def i231_l1:aH:=aP 231 585
def i231_r2:aH:=aP 231 57
def i231_l3:aH:=ss 231 9 804 51 i231_l1 i231_r2
def i231:aS:=Ff 231 12 i231_l3
def i237:aS:=dB 237
def i240_l1:aH:=aP 240 585
def i240_r2:aH:=aP 240 57
def i240_l3:aH:=ss 240 9 804 51 i240_l1 i240_r2
def i240:aS:=Ff 240 12 i240_l3
def i256:aS:=dB 256
def i3_l1:aH:=aP 3 1215
def i3_r2:aH:=aP 3 255
def i3:aS:=dM 3 2036 255 i3_l1 i3_r2
end Go.Abs
end
namespace Go.Abs
open Go.Proofs
def Fh:List Nat->Nat->Bool
 |[],_=>false
 |a::r,n=>bif Nat.beq a n then true else Fh r n
def acz:List (Nat×List Nat)->Nat->List Nat
 |[],_=>[]
 |(a,l)::r,n=>bif Nat.beq a n then l else acz r n
def aq4:List Nat:=[21,30,39,43,69,89,90,92,93,106,107,109,138,140,142,168,169,170,172,174,179,188,189,199,200,201,202,203,204,205,206,207,209,211,226,228,229,230,231,232,233,234,235,236,238,239,240,241,242,243,244,245,246,247,252,253,254,255,257,258,259,260,261]
def arQ:List (Nat×List Nat):=[(21,[21,39,43,30]),(30,[30]),(39,[39]),(43,[43]),(69,[69,106,107]),(89,[89]),(90,[89,90]),(92,[92]),(93,[93]),(106,[106]),(107,[107]),(109,[109]),(138,[138,168,169]),(140,[140,170,200,201,202,203,204,205,206,207,226,228,229,230,252]),(142,[142]),(168,[168]),(169,[169]),(170,[170,200,201,202,203,204,205,206,207,226,228,229,230,252]),(172,[172,209,228,231,232,233,234,235,236,238,239,253,254,255,260]),(174,[174,211,228,240,241,242,243,244,245,246,247,257,258,259,261]),(179,[179]),(188,[188]),(189,[189]),(199,[199]),(200,[200]),(201,[201,226]),(202,[202,228]),(203,[203,229,230,252]),(204,[204]),(205,[205]),(206,[206]),(207,[207]),(209,[209,228,231,232,233,234,235,236,238,239,253,254,255,260]),(211,[211,228,240,241,242,243,244,245,246,247,257,258,259,261]),(226,[226]),(228,[228]),(229,[229,230,252]),(230,[230,252]),(231,[231]),(232,[232,253]),(233,[228,233]),(234,[234,254,255,260]),(235,[235]),(236,[236]),(238,[238]),(239,[239]),(240,[240]),(241,[241,257]),(242,[228,242]),(243,[243,258,259,261]),(244,[244]),(245,[245]),(246,[246]),(247,[247]),(252,[252]),(253,[253]),(254,[254,255,260]),(255,[255,260]),(257,[257]),(258,[258,259,261]),(259,[259,261]),(260,[260]),(261,[261])]
def acy:List Nat:=[36,25,3,83,57,49,52,24,8]
def VJ(f:Nat)(args:List V):Option (Option RV):=
 bif Nat.beq f 74 then some (QM args)
 else bif Nat.beq f 171 then some (Nx args)
 else bif Fh [58,181] f then QK args
 else bif Nat.beq f 42 then QL args
 else none
noncomputable def S:Sys:={P:=Tryz.prog,shared:=Fh aq4,sites:=acz arQ,lone:=fun s=>Fh acy (s/64000000),fns:=BX Tryz.prog,prim:=VJ}
abbrev bx(n:Nat):Prop:=S.shared n=false
theorem c26:S.fns 26=some i26:=ah
theorem s26:bx 26:=rfl
theorem c35:S.fns 35=some i35:=ah
theorem s35:bx 35:=rfl
theorem c68:S.fns 68=some i68:=ah
theorem s68:bx 68:=rfl
theorem c113:S.fns 113=some i113:=ah
theorem s113:bx 113:=rfl
theorem c114:S.fns 114=some i114:=ah
theorem s114:bx 114:=rfl
theorem c104:S.fns 104=some i104:=ah
theorem s104:bx 104:=rfl
theorem c134:S.fns 134=some i134:=ah
theorem s134:bx 134:=rfl
theorem c105:S.fns 105=some i105:=ah
theorem s105:bx 105:=rfl
theorem c106:S.fns 106=some i106:=ah
theorem c107:S.fns 107=some i107:=ah
theorem c108:S.fns 108=some i108:=ah
theorem s108:bx 108:=rfl
theorem c69:S.fns 69=some i69:=ah
theorem c135:S.fns 135=some i135:=ah
theorem s135:bx 135:=rfl
theorem c162:S.fns 162=some i162:=ah
theorem s162:bx 162:=rfl
theorem c161:S.fns 161=some i161:=ah
theorem s161:bx 161:=rfl
theorem c133:S.fns 133=some i133:=ah
theorem s133:bx 133:=rfl
theorem c160:S.fns 160=some i160:=ah
theorem s160:bx 160:=rfl
theorem c23:S.fns 23=some i23:=ah
theorem s23:bx 23:=rfl
theorem c45:S.fns 45=some i45:=ah
theorem s45:bx 45:=rfl
theorem c48:S.fns 48=some i48:=ah
theorem s48:bx 48:=rfl
theorem c44:S.fns 44=some i44:=ah
theorem s44:bx 44:=rfl
theorem c79:S.fns 79=some i79:=ah
theorem s79:bx 79:=rfl
theorem c55:S.fns 55=some i55:=ah
theorem s55:bx 55:=rfl
theorem c46:S.fns 46=some i46:=ah
theorem s46:bx 46:=rfl
theorem c80:S.fns 80=some i80:=ah
theorem s80:bx 80:=rfl
theorem c123:S.fns 123=some i123:=ah
theorem s123:bx 123:=rfl
theorem c121:S.fns 121=some i121:=ah
theorem s121:bx 121:=rfl
theorem c81:S.fns 81=some i81:=ah
theorem s81:bx 81:=rfl
theorem c98:S.fns 98=some i98:=ah
theorem s98:bx 98:=rfl
theorem c122:S.fns 122=some i122:=ah
theorem s122:bx 122:=rfl
theorem c82:S.fns 82=some i82:=ah
theorem s82:bx 82:=rfl
theorem c47:S.fns 47=some i47:=ah
theorem s47:bx 47:=rfl
theorem c112:S.fns 112=some i112:=ah
theorem s112:bx 112:=rfl
theorem c76:S.fns 76=some i76:=ah
theorem s76:bx 76:=rfl
theorem c41:S.fns 41=some i41:=ah
theorem s41:bx 41:=rfl
theorem c40:S.fns 40=some i40:=ah
theorem s40:bx 40:=rfl
theorem c9:S.fns 9=some i9:=ah
theorem s9:bx 9:=rfl
theorem c50:S.fns 50=some i50:=ah
theorem s50:bx 50:=rfl
theorem c78:S.fns 78=some i78:=ah
theorem s78:bx 78:=rfl
theorem c84:S.fns 84=some i84:=ah
theorem s84:bx 84:=rfl
theorem c156:S.fns 156=some i156:=ah
theorem s156:bx 156:=rfl
theorem c85:S.fns 85=some i85:=ah
theorem s85:bx 85:=rfl
theorem c86:S.fns 86=some i86:=ah
theorem s86:bx 86:=rfl
theorem c88:S.fns 88=some i88:=ah
theorem s88:bx 88:=rfl
theorem c91:S.fns 91=some i91:=ah
theorem s91:bx 91:=rfl
theorem c92:S.fns 92=some i92:=ah
theorem s92:S.shared 92=true:=ah
theorem c96:S.fns 96=some i96:=ah
theorem s96:bx 96:=rfl
theorem c83:S.fns 83=some i83:=ah
theorem s83:bx 83:=rfl
theorem c77:S.fns 77=some i77:=ah
theorem s77:bx 77:=rfl
theorem c58:S.fns 58=some i58:=ah
theorem s58:bx 58:=rfl
theorem c97:S.fns 97=some i97:=ah
theorem s97:bx 97:=rfl
theorem c117:S.fns 117=some i117:=ah
theorem s117:bx 117:=rfl
theorem c118:S.fns 118=some i118:=ah
theorem s118:bx 118:=rfl
theorem c119:S.fns 119=some i119:=ah
theorem s119:bx 119:=rfl
theorem c120:S.fns 120=some i120:=ah
theorem s120:bx 120:=rfl
theorem c127:S.fns 127=some i127:=ah
theorem s127:bx 127:=rfl
theorem c191:S.fns 191=some i191:=ah
theorem s191:bx 191:=rfl
theorem c192:S.fns 192=some i192:=ah
theorem s192:bx 192:=rfl
theorem c128:S.fns 128=some i128:=ah
theorem s128:bx 128:=rfl
theorem c129:S.fns 129=some i129:=ah
theorem s129:bx 129:=rfl
theorem c132:S.fns 132=some i132:=ah
theorem s132:bx 132:=rfl
theorem c99:S.fns 99=some i99:=ah
theorem s99:bx 99:=rfl
theorem s124:bx 124:=rfl
theorem s125:bx 125:=rfl
theorem c126:S.fns 126=some i126:=ah
theorem s126:bx 126:=rfl
theorem c115:S.fns 115=some i115:=ah
theorem s115:bx 115:=rfl
theorem c116:S.fns 116=some i116:=ah
theorem s116:bx 116:=rfl
theorem c20:S.fns 20=some i20:=ah
theorem s20:bx 20:=rfl
theorem c25:S.fns 25=some i25:=ah
theorem s25:bx 25:=rfl
theorem c137:S.fns 137=some i137:=ah
theorem s137:bx 137:=rfl
theorem c138:S.fns 138=some i138:=ah
theorem c144:S.fns 144=some i144:=ah
theorem s144:bx 144:=rfl
theorem c147:S.fns 147=some i147:=ah
theorem c152:S.fns 152=some i152:=ah
theorem c154:S.fns 154=some i154:=ah
theorem s154:bx 154:=rfl
theorem c155:S.fns 155=some i155:=ah
theorem s155:bx 155:=rfl
theorem c157:S.fns 157=some i157:=ah
theorem s157:bx 157:=rfl
theorem c158:S.fns 158=some i158:=ah
theorem s158:bx 158:=rfl
theorem c159:S.fns 159=some i159:=ah
theorem s159:bx 159:=rfl
theorem c217:S.fns 217=some i217:=ah
theorem s217:bx 217:=rfl
theorem c219:S.fns 219=some i219:=ah
theorem s219:bx 219:=rfl
theorem c220:S.fns 220=some i220:=ah
theorem s220:bx 220:=rfl
theorem c221:S.fns 221=some i221:=ah
theorem s221:bx 221:=rfl
theorem c222:S.fns 222=some i222:=ah
theorem s222:bx 222:=rfl
theorem c223:S.fns 223=some i223:=ah
theorem s223:bx 223:=rfl
theorem c139:S.fns 139=some i139:=ah
theorem s139:bx 139:=rfl
theorem c143:S.fns 143=some i143:=ah
theorem s143:bx 143:=rfl
theorem c36:S.fns 36=some i36:=ah
theorem s36:bx 36:=rfl
theorem c53:S.fns 53=some i53:=ah
theorem s53:bx 53:=rfl
theorem c54:S.fns 54=some i54:=ah
theorem s54:bx 54:=rfl
theorem c56:S.fns 56=some i56:=ah
theorem s56:bx 56:=rfl
theorem c57:S.fns 57=some i57:=ah
theorem s57:bx 57:=rfl
theorem c167:S.fns 167=some i167:=ah
theorem s167:bx 167:=rfl
theorem c168:S.fns 168=some i168:=ah
theorem c169:S.fns 169=some i169:=ah
theorem c176:S.fns 176=some i176:=ah
theorem s176:bx 176:=rfl
theorem c181:S.fns 181=some i181:=ah
theorem s181:bx 181:=rfl
theorem c183:S.fns 183=some i183:=ah
theorem s183:bx 183:=rfl
theorem c184:S.fns 184=some i184:=ah
theorem s184:bx 184:=rfl
theorem c187:S.fns 187=some i187:=ah
theorem s187:bx 187:=rfl
theorem c172:S.fns 172=some i172:=ah
theorem c189:S.fns 189=some i189:=ah
theorem c190:S.fns 190=some i190:=ah
theorem s190:bx 190:=rfl
theorem c193:S.fns 193=some i193:=ah
theorem s193:bx 193:=rfl
theorem c250:S.fns 250=some i250:=ah
theorem s250:bx 250:=rfl
theorem c251:S.fns 251=some i251:=ah
theorem s251:bx 251:=rfl
theorem c173:S.fns 173=some i173:=ah
theorem c174:S.fns 174=some i174:=ah
theorem c175:S.fns 175=some i175:=ah
theorem c70:S.fns 70=some i70:=ah
theorem s70:bx 70:=rfl
theorem c72:S.fns 72=some i72:=ah
theorem s72:bx 72:=rfl
theorem c71:S.fns 71=some i71:=ah
theorem s71:bx 71:=rfl
theorem c73:S.fns 73=some i73:=ah
theorem s73:bx 73:=rfl
theorem c101:S.fns 101=some i101:=ah
theorem s101:bx 101:=rfl
theorem c100:S.fns 100=some i100:=ah
theorem s100:bx 100:=rfl
theorem c199:S.fns 199=some i199:=ah
theorem c213:S.fns 213=some i213:=ah
theorem s213:bx 213:=rfl
theorem c214:S.fns 214=some i214:=ah
theorem s214:bx 214:=rfl
theorem c209:S.fns 209=some i209:=ah
theorem s209:S.shared 209=true:=ah
theorem c210:S.fns 210=some i210:=ah
theorem s210:bx 210:=rfl
theorem c211:S.fns 211=some i211:=ah
theorem s211:S.shared 211=true:=ah
theorem c109:S.fns 109=some i109:=ah
theorem s109:S.shared 109=true:=ah
theorem c110:S.fns 110=some i110:=ah
theorem s110:bx 110:=rfl
theorem c248:S.fns 248=some i248:=ah
theorem s248:bx 248:=rfl
theorem c231:S.fns 231=some i231:=ah
theorem s231:S.shared 231=true:=ah
theorem c237:S.fns 237=some i237:=ah
theorem s237:bx 237:=rfl
theorem c240:S.fns 240=some i240:=ah
theorem s240:S.shared 240=true:=ah
theorem c256:S.fns 256=some i256:=ah
theorem s256:bx 256:=rfl
theorem c3:S.fns 3=some i3:=ah
theorem s3:bx 3:=rfl
end Go.Abs
namespace Go.Abs
noncomputable section
def i43:aS:=dB 43
def i39:aS:=dB 39
def i38_l1:aH:=(.seq (rf [ot 14 .lss 13 12]) (.seq (ct 14 .skip (.exit 0)) (.seq (.block 1 (.seq (rf [oi 15 6 11 13,ox 16 6 15,oo 5 (.alloc 2432256128 [il 0,il 0,il 0,il 0,il 0,.bool false]),os 6 5 16]) (rf [om 17 3,ox 18 6 5,oc 19 2432320128 75 [.t 18],oo 20 (.bin .add (.k (.one (.p (.str ⟨#[32]⟩)))) (.t 19)),ot 21 .add 17 20,om 3 21]))) (rf [oj 22 .add 13 1,om 13 22]))))
def i38_r2:aH:=(.seq (rf [om 23 3,om 2 23]) .ret)
def i38:aS:=⟨24,[(2,none)],(.seq (rf [oo 1 (.box 2432000000 (.t 0)),oo 2 (.iY (.k (.one (.p (.str ⟨#[]⟩)))))]) (.seq (rf [of 6 0 1,ol 7 6,oc 8 2432064128 74 [.t 7],oo 9 (.bin .add (.t 8) (.k (.one (.p (.str ⟨#[58]⟩))))),om 3 9]) (.seq (.seq (rf [of 10 1 1,ol 11 10,oh 12 11,mi 13 0]) (.block 0 (.loop i38_l1))) i38_r2)))⟩
def i75:aS:=⟨40,[(2,none)],(.seq (rf [oo 1 (.box 4800000000 (.t 0)),oo 2 (.iY (.k (.one (.p (.str ⟨#[]⟩)))))]) (.seq (.seq (rf [of 4 0 1,ol 5 4]) (.block 0 (.seq (rf [oj 7 .eql 5 1,om 6 7]) (ct 6 (.seq (rt [of 8 1 1,dl 9 8 1,dc 10 4800192128 74 [.t 9] 3,od 11 (.bin .add (.t 10) (.k (.one (.p (.str ⟨#[46]⟩))))) 7,of 12 2 1,dl 13 12 16,dc 14 4800192384 74 [.t 13] 55,dt 15 .add 11 14 127,dm 2 15 255]) .ret) (.seq (rf [oj 17 .eql 5 2,om 16 17]) (ct 16 (.seq (rf [of 18 3 1,ol 19 18,oc 20 4800320128 74 [.t 19],oo 21 (.bin .add (.t 20) (.k (.one (.p (.str ⟨#[117]⟩))))),om 3 21]) (.seq (.seq (rf [of 22 5 1,ol 23 22]) (ct 23 (rf [of 24 3 1,ol 25 24,oc 26 4800448128 74 [.t 25],oo 27 (.bin .add (.t 26) (.k (.one (.p (.str ⟨#[111]⟩))))),om 3 27]) .skip)) (.seq (.seq (rf [of 28 4 1,ol 29 28]) (.block 1 (.seq (rf [oj 31 .eql 29 1,om 30 31]) (ct 30 (.seq (rf [om 32 3, oo 33 (.bin .add (.t 32) (.k (.one (.p (.str ⟨#[43]⟩))))),om 2 33]) .ret) (.seq (rf [oo 35 (.bin .eql (.t 29) (.i (-1))),om 34 35]) (ct 34 (.seq (rf [om 36 3,oo 37 (.bin .add (.t 36) (.k (.one (.p (.str ⟨#[45]⟩))))),om 2 37]) .ret) .skip)))))) (.seq (rf [om 38 3,oo 39 (.bin .add (.t 38) (.k (.one (.p (.str ⟨#[63]⟩))))),om 2 39]) .ret)))) .skip)))))) (.seq (rf [oo 2 (.iY (.k (.one (.p (.str ⟨#[63]⟩)))))]) .ret)))⟩
def i6_l1:aH:=aP 6 607
def i6_r2:aH:=aP 6 127
def i6:aS:=dM 6 1012 127 i6_l1 i6_r2
def i22:aS:=dB 22
def i21_l1:aH:=aP 21 40479
def i21_l2:aH:=lp1 21 287 64572 i21_l1
def i21_r3:aH:=aP 21 127
def i21:aS:=dM 21 504 127 i21_l2 i21_r3
def i19:aS:=dB 19
def i37:aS:=dB 37
def i4:aS:=dB 4
def i7_l1:aH:=aP 7 37
def i7_r2:aH:=aP 7 7
def i7:aS:=dM 7 52 7 i7_l1 i7_r2
def i8_l1:aH:=aP 8 151
def i8_r2:aH:=aP 8 31
def i8:aS:=dM 8 244 31 i8_l1 i8_r2
def i49:aS:=dB 49
def i52_l1:aH:=aP 52 75
def i52_r2:aH:=aP 52 15
def i52:aS:=dM 52 116 15 i52_l1 i52_r2
def i24_l1:aH:=aP 24 9803
def i24_r2:aH:=aP 24 459
def i24_l3:aH:=ss 24 75 14924 467 i24_l1 i24_r2
def i24_r4:aH:=aP 24 15
def i24:aS:=dM 24 116 15 i24_l3 i24_r4
def i51_l1:aH:=aP 51 37
def i51_r2:aH:=aP 51 7
def i51:aS:=dM 51 52 7 i51_l1 i51_r2
def i42:aS:=dB 42
end
theorem c43:S.fns 43=some i43:=ah
theorem s43 : S.shared 43 = true :=ah
theorem c39:S.fns 39=some i39:=ah
theorem s39 : S.shared 39 = true :=ah
theorem c38:S.fns 38=some i38:=ah
theorem s38:bx 38:=rfl
theorem c75:S.fns 75=some i75:=ah
theorem s75:bx 75:=rfl
theorem c6:S.fns 6=some i6:=ah
theorem s6:bx 6:=rfl
theorem c22:S.fns 22=some i22:=ah
theorem s22:bx 22:=rfl
theorem c21:S.fns 21=some i21:=ah
theorem s21 : S.shared 21 = true :=ah
theorem s28:bx 28:=rfl
theorem c19:S.fns 19=some i19:=ah
theorem s19:bx 19:=rfl
theorem c37:S.fns 37=some i37:=ah
theorem s37:bx 37:=rfl
theorem s27:bx 27:=rfl
theorem s31:bx 31:=rfl
theorem s5:bx 5:=rfl
theorem c4:S.fns 4=some i4:=ah
theorem s4:bx 4:=rfl
theorem c7:S.fns 7=some i7:=ah
theorem s7:bx 7:=rfl
theorem c8:S.fns 8=some i8:=ah
theorem s8:bx 8:=rfl
theorem c49:S.fns 49=some i49:=ah
theorem s49:bx 49:=rfl
theorem c52:S.fns 52=some i52:=ah
theorem s52:bx 52:=rfl
theorem c24:S.fns 24=some i24:=ah
theorem s24:bx 24:=rfl
theorem c51:S.fns 51=some i51:=ah
theorem s51:bx 51:=rfl
theorem c42:S.fns 42=some i42:=ah
theorem s42:bx 42:=rfl
end Go.Abs
