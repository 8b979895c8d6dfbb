/-
  The program as a system of the abstract machine.
-/
import Derived.Test.YthcnadmehopfcaaGreatDoorMf
import Derived.Test.YthcnadmehopfcaaGreatDoorProg
set_option linter.all false
set_option maxRecDepth 100000
noncomputable section
namespace Go.Abs
open Go.Proofs
def NS{α:Type}:List α->Nat->Option α
  | [],_ => none
  | a::l,n => match n with | 0 => some a | n+1 => NS l n
def lkN{α:Type}:List (Nat×α)->Nat->Option α
  | [],_ => none
  | (k,a)::l,n => bif Nat.beq k n then some a else lkN l n
noncomputable def fB(s:Nat)(o:Oper):mW := match o.op with
  | .build t ps => (match Tryz.prog.underlying t,Am Tryz.prog t with | some (.struct fs),some z => ((De (fun i => (NS fs.toList i).map fun f => (f.offset,Tryz.prog.cellsOf f.type)) z.length ps.toList).map (.build z)).getD .bad | _,_ => Iu Tryz.prog s o)
  | .binOp op t x y _ => (match Tryz.prog.underlying t,cF x,cF y with | some (.struct fs),some a,some b =>.eqc (.str (fs.toList.map fun f => (Rm Tryz.prog f.type).getD false)) (match op with | .neq => true | _ => false) a b | _,_,_ => Iu Tryz.prog s o)
  | _ => Iu Tryz.prog s o
noncomputable def oL(a:List Nat)(j:Nat):List Edge->Nat->Nat
  | [],s => s
  | e::r,s => match (bif Region.binds .any e then Nat.lor (Nat.lor s (Nat.pow 2 e.on)) ((NS a (j-1-e.on)).getD 0) else s) with | 0 => oL a j r 0 | m+1 => oL a j r (m+1)
noncomputable def fOp(ops:List Oper)(b s i:Nat)(o:Oper):bG := ⟨o.dst,fB ((s+i)*64) o,(match o.guard with | none => none | some (j,w) => (match NS ops j with | some x => (match x.dst with | some t => some (t,w) | none => none) | none => none)),b⟩
noncomputable def Vo(d:Bool)(ops:List Oper)(s:Nat):List Nat->Nat->List Oper->List bG
  | _,_,[] => []
  | a,i,o::r => match (bif d then oL a i o.after.toList 0 else 0) with | 0 => fOp ops 0 s i o::Vo d ops s (0::a) (i+1) r | m+1 => fOp ops (m+1) s i o::Vo d ops s ((m+1)::a) (i+1) r
abbrev fW(B:List (Nat×aJ))(p:Nat)(y:aJ):aJ := match lkN B p with | some x => x | none => y
/-- the code of a function: at some places something else stands -/
noncomputable def fC(f:Nat)(B:List (Nat×aJ)):Code->Nat->aJ
  | .region id ops draw,_ =>.region draw (Vo draw ops.toList ((f*1000+id)*1000) [] 0 ops.toList)
  | .seq a b,p =>.seq (fW B (2*p) (fC f B a (2*p))) (fW B (2*p+1) (fC f B b (2*p+1)))
  | .cond c a b,p => match cF c with | some c =>.cond c (fW B (2*p) (fC f B a (2*p))) (fW B (2*p+1) (fC f B b (2*p+1))) | none =>.bad
  | .block i c,p =>.block i (fW B (2*p) (fC f B c (2*p)))
  | .loop c,p =>.loop (fW B (2*p) (fC f B c (2*p)))
  | .exit i,_ =>.exit i
  | .scope c,p => fC f B c p
  | .ret,_ =>.ret
  | .label _,_ =>.skip
  | .skip,_ =>.skip
  | _,_ =>.bad
noncomputable def fF(f:Nat)(B:List (Nat×aJ)):aV := match NS Tryz.prog.funcs.toList f with
  | some fn => (match fn.body with | some c => ⟨fn.ntmps,(BB Tryz.prog fn.results.toList).getD [],fC f B c 1⟩ | none => ⟨0,[],.bad⟩)
  | none => ⟨0,[],.bad⟩
/-- the part at a place -/
noncomputable def gL:aJ->Nat->aJ
  | .seq a b,q => bif Nat.beq q 1 then .seq a b else bif Nat.beq (q%2) 0 then gL a (q/2) else gL b (q/2)
  | .cond x a b,q => bif Nat.beq q 1 then .cond x a b else bif Nat.beq (q%2) 0 then gL a (q/2) else gL b (q/2)
  | .block i a,q => bif Nat.beq q 1 then .block i a else gL a (q/2)
  | .loop a,q => bif Nat.beq q 1 then .loop a else gL a (q/2)
  | c,_ => c
abbrev fI(f:Nat)(B:List (Nat×aJ))(q:Nat):aJ := gL (fF f B).body q
def eh(n:Nat){g:aV}(_:fF n []=g := by conv => lhs; reduce; try simp only [Int.reduceOfNat,Int.reduceNegSucc]):aV := g
def Bl(n p0:Nat)(y0:aJ){g:aJ->aV}(_:(fun x0 => fF n [(p0,x0)])=g := by conv => lhs; reduce; try simp only [Int.reduceOfNat,Int.reduceNegSucc]):aV := g y0
def eN(n p0 p1:Nat)(y0 y1:aJ){g:aJ->aJ->aV}(_:(fun x0 x1 => fF n [(p0,x0),(p1,x1)])=g := by conv => lhs; reduce; try simp only [Int.reduceOfNat,Int.reduceNegSucc]):aV := g y0 y1
def aX(n q:Nat){g:aJ}(_:fI n [] q=g := by conv => lhs; reduce; try simp only [Int.reduceOfNat,Int.reduceNegSucc]):aJ := g
def lp1(n q p0:Nat)(y0:aJ){g:aJ->aJ}(_:(fun x0 => fI n [(p0,x0)] q)=g := by conv => lhs; reduce; try simp only [Int.reduceOfNat,Int.reduceNegSucc]):aJ := g y0
def vJ(n q p0 p1:Nat)(y0 y1:aJ){g:aJ->aJ->aJ}(_:(fun x0 x1 => fI n [(p0,x0),(p1,x1)] q)=g := by conv => lhs; reduce; try simp only [Int.reduceOfNat,Int.reduceNegSucc]):aJ := g y0 y1
def GQ(n q p0 p1 p2:Nat)(y0 y1 y2:aJ){g:aJ->aJ->aJ->aJ}(_:(fun x0 x1 x2 => fI n [(p0,x0),(p1,x1),(p2,x2)] q)=g := by conv => lhs; reduce; try simp only [Int.reduceOfNat,Int.reduceNegSucc]):aJ := g y0 y1 y2
def lp5(n q p0 p1 p2 p3 p4:Nat)(y0 y1 y2 y3 y4:aJ){g:aJ->aJ->aJ->aJ->aJ->aJ}(_:(fun x0 x1 x2 x3 x4 => fI n [(p0,x0),(p1,x1),(p2,x2),(p3,x3),(p4,x4)] q)=g := by conv => lhs; reduce; try simp only [Int.reduceOfNat,Int.reduceNegSucc]):aJ := g y0 y1 y2 y3 y4
attribute [go_sem] eh Bl eN aX lp1 vJ GQ lp5
abbrev om(d a:Nat):bG:=⟨some d,.yy (.t a),none,0⟩
abbrev of(d f a:Nat):bG:=⟨some d,.FY f (.t a),none,0⟩
abbrev ol(d a:Nat):bG:=⟨some d,.load none (.t a),none,0⟩
abbrev ox(d s a:Nat):bG:=⟨some d,.load (some s) (.t a),none,0⟩
abbrev oo(d:Nat)(x:mW):bG:=⟨some d,x,none,0⟩
abbrev oi(d z a b:Nat):bG:=⟨some d,.GD z (.t a) (.t b),none,0⟩
abbrev oc(d s f:Nat)(a:List aR):bG:=⟨some d,.call s (.k (.one (.p (.fn f [] [])))) a,none,0⟩
abbrev dm(d a n:Nat):bG:=⟨some d,.yy (.t a),none,n⟩
abbrev dl(d a n:Nat):bG:=⟨some d,.load none (.t a),none,n⟩
abbrev dc(d s f:Nat)(a:List aR)(n:Nat):bG:=⟨some d,.call s (.k (.one (.p (.fn f [] [])))) a,none,n⟩
abbrev os(z a b:Nat):bG:=⟨none,.store z (.t a) (.t b),none,0⟩
abbrev mi(d:Nat)(k:Int):bG:=⟨some d,.yy (.i k),none,0⟩
abbrev ot(d:Nat)(b:BinOp)(x y:Nat):bG:=⟨some d,.bin b (.t x) (.t y),none,0⟩
abbrev oj(d:Nat)(b:BinOp)(x:Nat)(y:Int):bG:=⟨some d,.bin b (.t x) (.i y),none,0⟩
abbrev dt(d:Nat)(b:BinOp)(x y n:Nat):bG:=⟨some d,.bin b (.t x) (.t y),none,n⟩
abbrev oh(d a:Nat):bG:=⟨some d,.JU (.t a),none,0⟩
abbrev ct(a:Nat)(x y:aJ):aJ:=.cond (.t a) x y
abbrev rf(l:List bG):aJ:=.region false l
abbrev rt(l:List bG):aJ:=.region true l
abbrev il(k:Int):PV:=.int .i64 k
abbrev od(d:Nat)(x:mW)(n:Nat):bG:=⟨some d,x,none,n⟩
def i35:aV:=eh 35
def i26:aV:=eh 26
def i48_l1:aJ:=aX 48 75
def i48_r2:aJ:=aX 48 15
def i48:aV:=eN 48 116 15 i48_l1 i48_r2
def i92_l1:aJ:=aX 92 75
def i92_r2:aJ:=aX 92 15
def i92:aV:=eN 92 116 15 i92_l1 i92_r2
def i93:aV:=eh 93
def i75:aV:=eh 75
def i101:aV:=eh 101
def i76:aV:=eh 76
def i77_l1:aJ:=aX 77 607
def i77_l2:aJ:=aX 77 4863
def i77_l3:aJ:=aX 77 38911
def i77_r4:aJ:=aX 77 8191
def i77_r5:aJ:=vJ 77 1023 65524 8191 i77_l3 i77_r4
def i77_r6:aJ:=vJ 77 127 8180 1023 i77_l2 i77_r5
def i77:aV:=eN 77 1012 127 i77_l1 i77_r6
def i78_l1:aJ:=aX 78 303
def i78_r2:aJ:=aX 78 63
def i78:aV:=eN 78 500 63 i78_l1 i78_r2
def i79_l1:aJ:=aX 79 324399
def i79_r2:aJ:=aX 79 3887
def i79_l3:aJ:=vJ 79 303 512828 4007 i79_l1 i79_r2
def i79_r4:aJ:=aX 79 63
def i79:aV:=eN 79 500 63 i79_l3 i79_r4
def i49_l1:aJ:=aX 49 75
def i49_r2:aJ:=aX 49 15
def i49:aV:=eN 49 116 15 i49_l1 i49_r2
def i102:aV:=eh 102
def i125:aV:=eh 125
def i124:aV:=eh 124
def i100:aV:=eh 100
def i123_l1:aJ:=aX 123 37
def i123_r2:aJ:=aX 123 7
def i123:aV:=eN 123 52 7 i123_l1 i123_r2
def i13:aV:=eh 13
def i32_l1:aJ:=aX 32 75
def i32_r2:aJ:=aX 32 15
def i32:aV:=eN 32 116 15 i32_l1 i32_r2
def i5:aV:=eh 5
def i14_l1:aJ:=aX 14 75
def i14_r2:aJ:=aX 14 15
def i14:aV:=eN 14 116 15 i14_l1 i14_r2
def i56_l1:aJ:=aX 56 75
def i56_r2:aJ:=aX 56 15
def i56:aV:=eN 56 116 15 i56_l1 i56_r2
def i85_l1:aJ:=aX 85 75
def i85_r2:aJ:=aX 85 15
def i85:aV:=eN 85 116 15 i85_l1 i85_r2
def i33_l1:aJ:=aX 33 19237
def i33_r2:aJ:=aX 33 3877
def i33_r3:aJ:=aX 33 229
def i33_l4:aJ:=GQ 33 37 26932 3367 211 i33_l1 i33_r2 i33_r3
def i33_r5:aJ:=aX 33 7
def i33:aV:=eN 33 52 7 i33_l4 i33_r5
def i57_l1:aJ:=aX 57 75
def i57_r2:aJ:=aX 57 15
def i57:aV:=eN 57 116 15 i57_l1 i57_r2
def i86_l1:aJ:=aX 86 37
def i86_r2:aJ:=aX 86 7
def i86:aV:=eN 86 52 7 i86_l1 i86_r2
def i83:aV:=eh 83
def i58_l1:aJ:=aX 58 17995
def i58_r2:aJ:=aX 58 7755
def i58_r3:aJ:=aX 58 459
def i58_l4:aJ:=GQ 58 75 29848 7463 467 i58_l1 i58_r2 i58_r3
def i58_r5:aJ:=aX 58 15
def i58:aV:=eN 58 116 15 i58_l4 i58_r5
def i87_l1:aJ:=aX 87 37
def i87_r2:aJ:=aX 87 7
def i87:aV:=eN 87 52 7 i87_l1 i87_r2
def i84:aV:=eh 84
def i59:aV:=eh 59
def i34_l1:aJ:=aX 34 153903
def i34_r2:aJ:=aX 34 31023
def i34_r3:aJ:=aX 34 1839
def i34_l4:aJ:=GQ 34 303 256308 32039 2003 i34_l1 i34_r2 i34_r3
def i34_r5:aJ:=aX 34 63
def i34:aV:=eN 34 500 63 i34_l4 i34_r5
def i91_l1:aJ:=aX 91 1215
def i91_r2:aJ:=aX 91 255
def i91:aV:=eN 91 2036 255 i91_l1 i91_r2
def i72_l1:aJ:=aX 72 607
def i72_l2:aJ:=aX 72 314559
def i72_r3:aJ:=aX 72 15551
def i72_l4:aJ:=vJ 72 1215 521420 16295 i72_l2 i72_r3
def i72_r5:aJ:=aX 72 255
def i72_r6:aJ:=vJ 72 127 2036 255 i72_l4 i72_r5
def i72:aV:=eN 72 1012 127 i72_l1 i72_r6
def i45:aV:=eh 45
def i44:aV:=eh 44
def i10_l1:aJ:=aX 10 75
def i10_r2:aJ:=aX 10 15
def i10:aV:=eN 10 116 15 i10_l1 i10_r2
def i74:aV:=eh 74
def i73_l1:aJ:=aX 73 19607
def i73_r2:aJ:=aX 73 919
def i73_l3:aJ:=vJ 73 151 31308 979 i73_l1 i73_r2
def i73_r4:aJ:=aX 73 31
def i73:aV:=eN 73 244 31 i73_l3 i73_r4
def i60:aV:=eh 60
def i96:aV:=eh 96
def i97:aV:=eh 97
def i98:aV:=eh 98
def i99_l1:aJ:=aX 99 151
def i99_r2:aJ:=aX 99 31
def i99:aV:=eN 99 244 31 i99_l1 i99_r2
def i94:aV:=eh 94
def i95_l1:aJ:=aX 95 599
def i95_l2:aJ:=aX 95 4895535
def i95_l3:aJ:=aX 95 10400559
def i95_r4:aJ:=lp1 95 963375 16410300 i95_l3
def i95_l5:aJ:=aX 95 4961071
def i95_l6:aJ:=aX 95 5153731375
def i95_r7:aJ:=aX 95 254784303
def i95_l8:aJ:=vJ 95 19903279 8402105548 262565799 i95_l6 i95_r7
def i95_r9:aJ:=aX 95 3887
def i95_l10:aJ:=lp5 95 303 8205140 1025643 8205172 32820724 4007 i95_l2 i95_r4 i95_l5 i95_l8 i95_r9
def i95_r11:aJ:=aX 95 63
def i95_r12:aJ:=vJ 95 31 500 63 i95_l10 i95_r11
def i95:aV:=eN 95 980 31 i95_l1 i95_r12
def i8:aV:=eh 8
def i104_l1:aJ:=aX 104 151
def i104_r2:aJ:=aX 104 31
def i104:aV:=eN 104 244 31 i104_l1 i104_r2
def i105_l1:aJ:=aX 105 303
def i105_r2:aJ:=aX 105 63
def i105:aV:=eN 105 500 63 i105_l1 i105_r2
def i111:aV:=eh 111
def i112:aV:=eh 112
def i114_l1:aJ:=aX 114 2431
def i114_r2:aJ:=aX 114 511
def i114:aV:=eN 114 4084 511 i114_l1 i114_r2
def i115:aV:=eh 115
def i117:aV:=eh 117
def i119_l1:aJ:=aX 119 303
def i119_r2:aJ:=aX 119 63
def i119:aV:=eN 119 500 63 i119_l1 i119_r2
def i121_l1:aJ:=aX 121 37
def i121_r2:aJ:=aX 121 7
def i121:aV:=eN 121 52 7 i121_l1 i121_r2
def i122:aV:=eh 122
def i106_l1:aJ:=aX 106 37
def i106_r2:aJ:=aX 106 7
def i106:aV:=eN 106 52 7 i106_l1 i106_r2
def i110_l1:aJ:=aX 110 309655
def i110_r2:aJ:=aX 110 63895
def i110_r3:aJ:=aX 110 1943
def i110_l4:aJ:=GQ 110 151 501364 62671 1959 i110_l1 i110_r2 i110_r3
def i110_r5:aJ:=aX 110 31
def i110:aV:=eN 110 244 31 i110_l4 i110_r5
def i27_l1:aJ:=aX 27 40139
def i27_r2:aJ:=aX 27 971
def i27_l3:aJ:=vJ 27 75 59804 935 i27_l1 i27_r2
def i27_r4:aJ:=aX 27 15
def i27:aV:=eN 27 116 15 i27_l3 i27_r4
def i130:aV:=eh 130
def i131_l1:aJ:=aX 131 9
def i131:aV:=Bl 131 12 i131_l1
def i132_l1:aJ:=aX 132 9
def i132:aV:=Bl 132 12 i132_l1
def i139:aV:=eh 139
def i140_l1:aJ:=aX 140 75
def i140_r2:aJ:=aX 140 15
def i140:aV:=eN 140 116 15 i140_l1 i140_r2
def i142_l1:aJ:=aX 142 9
def i142:aV:=Bl 142 12 i142_l1
def i141:aV:=eh 141
def i144:aV:=eh 144
def i146:aV:=eh 146
def i147:aV:=eh 147
def i148_l1:aJ:=aX 148 40139
def i148_r2:aJ:=aX 148 971
def i148_l3:aJ:=vJ 148 75 59804 935 i148_l1 i148_r2
def i148_r4:aJ:=aX 148 15
def i148:aV:=eN 148 116 15 i148_l3 i148_r4
def i150:aV:=eh 150
def i135:aV:=eh 135
def i152_l1:aJ:=aX 152 76363
def i152_r2:aJ:=aX 152 14923
def i152_r3:aJ:=aX 152 459
def i152_l4:aJ:=GQ 152 75 119380 14923 467 i152_l1 i152_r2 i152_r3
def i152_r5:aJ:=aX 152 15
def i152:aV:=eN 152 116 15 i152_l4 i152_r5
def i153_l1:aJ:=aX 153 75
def i153_r2:aJ:=aX 153 15
def i153:aV:=eN 153 116 15 i153_l1 i153_r2
def i136:aV:=eh 136
def i137:aV:=eh 137
def i138:aV:=eh 138
def i50_l1:aJ:=aX 50 151
def i50_r2:aJ:=aX 50 31
def i50:aV:=eN 50 244 31 i50_l1 i50_r2
def i52:aV:=eh 52
def i51_l1:aJ:=aX 51 151
def i51_r2:aJ:=aX 51 31
def i51:aV:=eN 51 244 31 i51_l1 i51_r2
def i53_l1:aJ:=aX 53 37
def i53_r2:aJ:=aX 53 7
def i53:aV:=eN 53 52 7 i53_l1 i53_r2
def i159_l1:aJ:=aX 159 17
def i159_r2:aJ:=aX 159 7
def i159:aV:=eN 159 24 7 i159_l1 i159_r2
def i54:aV:=eh 54
def i173_l1:aJ:=aX 173 154007
def i173_r2:aJ:=aX 173 31127
def i173_r3:aJ:=aX 173 1943
def i173_l4:aJ:=GQ 173 151 250676 31335 1959 i173_l1 i173_r2 i173_r3
def i173_r5:aJ:=aX 173 31
def i173:aV:=eN 173 244 31 i173_l4 i173_r5
def i174:aV:=eh 174
def i169_l1:aJ:=aX 169 19
def i169:aV:=Bl 169 28 i169_l1
def i170_l1:aJ:=aX 170 37
def i170_r2:aJ:=aX 170 7
def i170:aV:=eN 170 52 7 i170_l1 i170_r2
def i171_l1:aJ:=aX 171 19
def i171:aV:=Bl 171 28 i171_l1
def i80_l1:aJ:=aX 80 9
def i80:aV:=Bl 80 12 i80_l1
def i81:aV:=eh 81
def i82_l1:aJ:=aX 82 37
def i82_r2:aJ:=aX 82 7
def i82:aV:=eN 82 52 7 i82_l1 i82_r2
def i175:aV:=eh 175
def i183_l1:aJ:=aX 183 585
def i183_r2:aJ:=aX 183 57
def i183_l3:aJ:=vJ 183 9 804 51 i183_l1 i183_r2
def i183:aV:=Bl 183 12 i183_l3
def i189:aV:=eh 189
def i192_l1:aJ:=aX 192 585
def i192_r2:aJ:=aX 192 57
def i192_l3:aJ:=vJ 192 9 804 51 i192_l1 i192_r2
def i192:aV:=Bl 192 12 i192_l3
def i200_l1:aJ:=aX 200 37
def i200_r2:aJ:=aX 200 7
def i200:aV:=eN 200 52 7 i200_l1 i200_r2
def i205:aV:=eh 205
def i3_l1:aJ:=aX 3 1215
def i3_r2:aJ:=aX 3 255
def i3:aV:=eN 3 2036 255 i3_l1 i3_r2
end Go.Abs
end
namespace Go.Abs
open Go.Proofs
def EO:List Nat->Nat->Bool
 |[],_=>false
 |a::r,n=>bif Nat.beq a n then true else EO r n
def aeY:List (Nat×List Nat)->Nat->List Nat
 |[],_=>[]
 |(a,l)::r,n=>bif Nat.beq a n then l else aeY r n
def atb:List Nat:=[24,29,43,47,49,77,78,80,105,107,109,131,132,133,135,137,142,151,152,159,160,161,162,163,164,165,166,167,169,171,178,180,181,182,183,184,185,186,187,188,190,191,192,193,194,195,196,197,198,199,201,202,203,204,206,207,208,209,210]
def atX:List (Nat×List Nat):=[(24,[24,43,47,29]),(29,[29]),(43,[43]),(47,[47]),(49,[49,77,78]),(77,[77]),(78,[78]),(80,[80]),(105,[105,131,132]),(107,[107,133,160,161,162,163,164,165,166,167,178,180,181,182,201]),(109,[109]),(131,[131]),(132,[132]),(133,[133,160,161,162,163,164,165,166,167,178,180,181,182,201]),(135,[135,169,180,183,184,185,186,187,188,190,191,202,203,204,209]),(137,[137,171,180,192,193,194,195,196,197,198,199,206,207,208,210]),(142,[142]),(151,[151]),(152,[152]),(159,[159]),(160,[160]),(161,[161,178]),(162,[162,180]),(163,[163,181,182,201]),(164,[164]),(165,[165]),(166,[166]),(167,[167]),(169,[169,180,183,184,185,186,187,188,190,191,202,203,204,209]),(171,[171,180,192,193,194,195,196,197,198,199,206,207,208,210]),(178,[178]),(180,[180]),(181,[181,182,201]),(182,[182,201]),(183,[183]),(184,[184,202]),(185,[180,185]),(186,[186,203,204,209]),(187,[187]),(188,[188]),(190,[190]),(191,[191]),(192,[192]),(193,[193,206]),(194,[180,194]),(195,[195,207,208,210]),(196,[196]),(197,[197]),(198,[198]),(199,[199]),(201,[201]),(202,[202]),(203,[203,204,209]),(204,[204,209]),(206,[206]),(207,[207,208,210]),(208,[208,210]),(209,[209]),(210,[210])]
def aeX:List Nat:=[27,3]
def XA(f:Nat)(args:List V):Option (Option RV):=
 bif Nat.beq f 70 then some (Q8 args)
 else bif Nat.beq f 134 then some (N6 args)
 else bif EO [60,144] f then Q6 args
 else bif Nat.beq f 46 then Q7 args
 else none
noncomputable def S:Sys:={P:=Tryz.prog,shared:=EO atb,sites:=aeY atX,lone:=fun s=>EO aeX (s/64000000),fns:=Ch Tryz.prog,prim:=XA}
abbrev cJ(n:Nat):Prop:=S.shared n=false
theorem c35:S.fns 35=some i35:=ah
theorem s35:cJ 35:=rfl
theorem c26:S.fns 26=some i26:=ah
theorem s26:cJ 26:=rfl
theorem c48:S.fns 48=some i48:=ah
theorem s48:cJ 48:=rfl
theorem c92:S.fns 92=some i92:=ah
theorem s92:cJ 92:=rfl
theorem c93:S.fns 93=some i93:=ah
theorem s93:cJ 93:=rfl
theorem c75:S.fns 75=some i75:=ah
theorem s75:cJ 75:=rfl
theorem c101:S.fns 101=some i101:=ah
theorem s101:cJ 101:=rfl
theorem c76:S.fns 76=some i76:=ah
theorem s76:cJ 76:=rfl
theorem c77:S.fns 77=some i77:=ah
theorem c78:S.fns 78=some i78:=ah
theorem c79:S.fns 79=some i79:=ah
theorem s79:cJ 79:=rfl
theorem c49:S.fns 49=some i49:=ah
theorem c102:S.fns 102=some i102:=ah
theorem s102:cJ 102:=rfl
theorem c125:S.fns 125=some i125:=ah
theorem s125:cJ 125:=rfl
theorem c124:S.fns 124=some i124:=ah
theorem s124:cJ 124:=rfl
theorem c100:S.fns 100=some i100:=ah
theorem s100:cJ 100:=rfl
theorem c123:S.fns 123=some i123:=ah
theorem s123:cJ 123:=rfl
theorem c13:S.fns 13=some i13:=ah
theorem s13:cJ 13:=rfl
theorem c32:S.fns 32=some i32:=ah
theorem s32:cJ 32:=rfl
theorem c5:S.fns 5=some i5:=ah
theorem s5:cJ 5:=rfl
theorem c14:S.fns 14=some i14:=ah
theorem s14:cJ 14:=rfl
theorem c56:S.fns 56=some i56:=ah
theorem s56:cJ 56:=rfl
theorem c85:S.fns 85=some i85:=ah
theorem s85:cJ 85:=rfl
theorem c33:S.fns 33=some i33:=ah
theorem s33:cJ 33:=rfl
theorem c57:S.fns 57=some i57:=ah
theorem s57:cJ 57:=rfl
theorem c86:S.fns 86=some i86:=ah
theorem s86:cJ 86:=rfl
theorem c83:S.fns 83=some i83:=ah
theorem s83:cJ 83:=rfl
theorem c58:S.fns 58=some i58:=ah
theorem s58:cJ 58:=rfl
theorem c87:S.fns 87=some i87:=ah
theorem s87:cJ 87:=rfl
theorem c84:S.fns 84=some i84:=ah
theorem s84:cJ 84:=rfl
theorem c59:S.fns 59=some i59:=ah
theorem s59:cJ 59:=rfl
theorem c34:S.fns 34=some i34:=ah
theorem s34:cJ 34:=rfl
theorem c91:S.fns 91=some i91:=ah
theorem s91:cJ 91:=rfl
theorem c72:S.fns 72=some i72:=ah
theorem s72:cJ 72:=rfl
theorem c45:S.fns 45=some i45:=ah
theorem s45:cJ 45:=rfl
theorem c44:S.fns 44=some i44:=ah
theorem s44:cJ 44:=rfl
theorem c10:S.fns 10=some i10:=ah
theorem s10:cJ 10:=rfl
theorem c74:S.fns 74=some i74:=ah
theorem s74:cJ 74:=rfl
theorem c73:S.fns 73=some i73:=ah
theorem s73:cJ 73:=rfl
theorem c60:S.fns 60=some i60:=ah
theorem s60:cJ 60:=rfl
theorem c96:S.fns 96=some i96:=ah
theorem s96:cJ 96:=rfl
theorem c97:S.fns 97=some i97:=ah
theorem s97:cJ 97:=rfl
theorem c98:S.fns 98=some i98:=ah
theorem s98:cJ 98:=rfl
theorem c99:S.fns 99=some i99:=ah
theorem s99:cJ 99:=rfl
theorem c94:S.fns 94=some i94:=ah
theorem s94:cJ 94:=rfl
theorem c95:S.fns 95=some i95:=ah
theorem s95:cJ 95:=rfl
theorem c8:S.fns 8=some i8:=ah
theorem s8:cJ 8:=rfl
theorem c104:S.fns 104=some i104:=ah
theorem s104:cJ 104:=rfl
theorem c105:S.fns 105=some i105:=ah
theorem c111:S.fns 111=some i111:=ah
theorem s111:cJ 111:=rfl
theorem c112:S.fns 112=some i112:=ah
theorem c114:S.fns 114=some i114:=ah
theorem c115:S.fns 115=some i115:=ah
theorem c117:S.fns 117=some i117:=ah
theorem c119:S.fns 119=some i119:=ah
theorem c121:S.fns 121=some i121:=ah
theorem s121:cJ 121:=rfl
theorem c122:S.fns 122=some i122:=ah
theorem s122:cJ 122:=rfl
theorem c106:S.fns 106=some i106:=ah
theorem s106:cJ 106:=rfl
theorem c110:S.fns 110=some i110:=ah
theorem s110:cJ 110:=rfl
theorem c27:S.fns 27=some i27:=ah
theorem s27:cJ 27:=rfl
theorem c130:S.fns 130=some i130:=ah
theorem s130:cJ 130:=rfl
theorem c131:S.fns 131=some i131:=ah
theorem c132:S.fns 132=some i132:=ah
theorem c139:S.fns 139=some i139:=ah
theorem s139:cJ 139:=rfl
theorem c140:S.fns 140=some i140:=ah
theorem s140:cJ 140:=rfl
theorem c142:S.fns 142=some i142:=ah
theorem c141:S.fns 141=some i141:=ah
theorem s141:cJ 141:=rfl
theorem c144:S.fns 144=some i144:=ah
theorem s144:cJ 144:=rfl
theorem c146:S.fns 146=some i146:=ah
theorem s146:cJ 146:=rfl
theorem c147:S.fns 147=some i147:=ah
theorem s147:cJ 147:=rfl
theorem c148:S.fns 148=some i148:=ah
theorem s148:cJ 148:=rfl
theorem c150:S.fns 150=some i150:=ah
theorem s150:cJ 150:=rfl
theorem c135:S.fns 135=some i135:=ah
theorem c152:S.fns 152=some i152:=ah
theorem c153:S.fns 153=some i153:=ah
theorem s153:cJ 153:=rfl
theorem c136:S.fns 136=some i136:=ah
theorem c137:S.fns 137=some i137:=ah
theorem c138:S.fns 138=some i138:=ah
theorem c50:S.fns 50=some i50:=ah
theorem s50:cJ 50:=rfl
theorem c52:S.fns 52=some i52:=ah
theorem s52:cJ 52:=rfl
theorem c51:S.fns 51=some i51:=ah
theorem s51:cJ 51:=rfl
theorem c53:S.fns 53=some i53:=ah
theorem s53:cJ 53:=rfl
theorem c159:S.fns 159=some i159:=ah
theorem c54:S.fns 54=some i54:=ah
theorem s54:cJ 54:=rfl
theorem c173:S.fns 173=some i173:=ah
theorem s173:cJ 173:=rfl
theorem c174:S.fns 174=some i174:=ah
theorem s174:cJ 174:=rfl
theorem c169:S.fns 169=some i169:=ah
theorem s169:S.shared 169=true:=ah
theorem c170:S.fns 170=some i170:=ah
theorem s170:cJ 170:=rfl
theorem c171:S.fns 171=some i171:=ah
theorem s171:S.shared 171=true:=ah
theorem c80:S.fns 80=some i80:=ah
theorem s80:S.shared 80=true:=ah
theorem c81:S.fns 81=some i81:=ah
theorem s81:cJ 81:=rfl
theorem c82:S.fns 82=some i82:=ah
theorem s82:cJ 82:=rfl
theorem c175:S.fns 175=some i175:=ah
theorem s175:cJ 175:=rfl
theorem c183:S.fns 183=some i183:=ah
theorem s183:S.shared 183=true:=ah
theorem c189:S.fns 189=some i189:=ah
theorem s189:cJ 189:=rfl
theorem c192:S.fns 192=some i192:=ah
theorem s192:S.shared 192=true:=ah
theorem c200:S.fns 200=some i200:=ah
theorem s200:cJ 200:=rfl
theorem c205:S.fns 205=some i205:=ah
theorem s205:cJ 205:=rfl
theorem c3:S.fns 3=some i3:=ah
theorem s3:cJ 3:=rfl
end Go.Abs
namespace Go.Abs
noncomputable section
def i47:aV:=eh 47
def i43:aV:=eh 43
def i42_l1:aJ:=(.seq (rf [ot 14 .lss 13 12]) (.seq (ct 14 .skip (.exit 0)) (.seq (.block 1 (.seq (rf [oi 15 6 11 13,ox 16 6 15,oo 5 (.alloc 2688256128 [il 0,il 0,il 0,il 0,il 0,.bool false]),os 6 5 16]) (rf [om 17 3,ox 18 6 5,oc 19 2688320128 71 [.t 18],oo 20 (.bin .add (.k (.one (.p (.str ⟨#[32]⟩)))) (.t 19)),ot 21 .add 17 20,om 3 21]))) (rf [oj 22 .add 13 1,om 13 22]))))
def i42_r2:aJ:=(.seq (rf [om 23 3,om 2 23]) .ret)
def i42:aV:=⟨24,[(2,none)],(.seq (rf [oo 1 (.box 2688000000 (.t 0)),oo 2 (.yy (.k (.one (.p (.str ⟨#[]⟩)))))]) (.seq (rf [of 6 0 1,ol 7 6,oc 8 2688064128 70 [.t 7],oo 9 (.bin .add (.t 8) (.k (.one (.p (.str ⟨#[58]⟩))))),om 3 9]) (.seq (.seq (rf [of 10 1 1,ol 11 10,oh 12 11,mi 13 0]) (.block 0 (.loop i42_l1))) i42_r2)))⟩
def i11_l1:aJ:=aX 11 303
def i11_r2:aJ:=aX 11 63
def i11:aV:=eN 11 500 63 i11_l1 i11_r2
def i71:aV:=⟨40,[(2,none)],(.seq (rf [oo 1 (.box 4544000000 (.t 0)),oo 2 (.yy (.k (.one (.p (.str ⟨#[]⟩)))))]) (.seq (.seq (rf [of 4 0 1,ol 5 4]) (.block 0 (.seq (rf [oj 7 .eql 5 1,om 6 7]) (ct 6 (.seq (rt [of 8 1 1,dl 9 8 1,dc 10 4544192128 70 [.t 9] 3,od 11 (.bin .add (.t 10) (.k (.one (.p (.str ⟨#[46]⟩))))) 7,of 12 2 1,dl 13 12 16,dc 14 4544192384 70 [.t 13] 55,dt 15 .add 11 14 127,dm 2 15 255]) .ret) (.seq (rf [oj 17 .eql 5 2,om 16 17]) (ct 16 (.seq (rf [of 18 3 1,ol 19 18,oc 20 4544320128 70 [.t 19],oo 21 (.bin .add (.t 20) (.k (.one (.p (.str ⟨#[117]⟩))))),om 3 21]) (.seq (.seq (rf [of 22 5 1,ol 23 22]) (ct 23 (rf [of 24 3 1,ol 25 24,oc 26 4544448128 70 [.t 25],oo 27 (.bin .add (.t 26) (.k (.one (.p (.str ⟨#[111]⟩))))),om 3 27]) .skip)) (.seq (.seq (rf [of 28 4 1,ol 29 28]) (.block 1 (.seq (rf [oj 31 .eql 29 1,om 30 31]) (ct 30 (.seq (rf [om 32 3, oo 33 (.bin .add (.t 32) (.k (.one (.p (.str ⟨#[43]⟩))))),om 2 33]) .ret) (.seq (rf [oo 35 (.bin .eql (.t 29) (.i (-1))),om 34 35]) (ct 34 (.seq (rf [om 36 3,oo 37 (.bin .add (.t 36) (.k (.one (.p (.str ⟨#[45]⟩))))),om 2 37]) .ret) .skip)))))) (.seq (rf [om 38 3,oo 39 (.bin .add (.t 38) (.k (.one (.p (.str ⟨#[63]⟩))))),om 2 39]) .ret)))) .skip)))))) (.seq (rf [oo 2 (.yy (.k (.one (.p (.str ⟨#[63]⟩)))))]) .ret)))⟩
def i7_l1:aJ:=aX 7 607
def i7_r2:aJ:=aX 7 127
def i7:aV:=eN 7 1012 127 i7_l1 i7_r2
def i25:aV:=eh 25
def i37_l1:aJ:=aX 37 75
def i37_r2:aJ:=aX 37 15
def i37:aV:=eN 37 116 15 i37_l1 i37_r2
def i21_l1:aJ:=aX 21 75
def i21_r2:aJ:=aX 21 15
def i21:aV:=eN 21 116 15 i21_l1 i21_r2
def i9_l1:aJ:=aX 9 311183
def i9_r2:aJ:=aX 9 65423
def i9_l3:aJ:=vJ 9 79 509940 63743 i9_l1 i9_r2
def i9:aV:=Bl 9 124 i9_l3
def i29:aV:=eh 29
def i24_l1:aJ:=aX 24 40479
def i24_l2:aJ:=lp1 24 287 64572 i24_l1
def i24_r3:aJ:=aX 24 127
def i24:aV:=eN 24 504 127 i24_l2 i24_r3
def i62_l1:aJ:=aX 62 75
def i62_r2:aJ:=aX 62 15
def i62:aV:=eN 62 116 15 i62_l1 i62_r2
def i23:aV:=eh 23
def i41:aV:=eh 41
def i63:aV:=eh 63
def i61_l1:aJ:=aX 61 37
def i61_r2:aJ:=aX 61 7
def i61:aV:=eN 61 52 7 i61_l1 i61_r2
def i28_l1:aJ:=aX 28 75
def i28_r2:aJ:=aX 28 15
def i28:aV:=eN 28 116 15 i28_l1 i28_r2
def i30:aV:=eh 30
def i4:aV:=eh 4
def i12_l1:aJ:=aX 12 75
def i12_r2:aJ:=aX 12 15
def i12:aV:=eN 12 116 15 i12_l1 i12_r2
def i31:aV:=eh 31
def i55:aV:=eh 55
def i46:aV:=eh 46
end
theorem c47:S.fns 47=some i47:=ah
theorem s47 : S.shared 47 = true :=ah
theorem c43:S.fns 43=some i43:=ah
theorem s43 : S.shared 43 = true :=ah
theorem c42:S.fns 42=some i42:=ah
theorem s42:cJ 42:=rfl
theorem c11:S.fns 11=some i11:=ah
theorem s11:cJ 11:=rfl
theorem c71:S.fns 71=some i71:=ah
theorem s71:cJ 71:=rfl
theorem c7:S.fns 7=some i7:=ah
theorem s7:cJ 7:=rfl
theorem c25:S.fns 25=some i25:=ah
theorem s25:cJ 25:=rfl
theorem c37:S.fns 37=some i37:=ah
theorem s37:cJ 37:=rfl
theorem c21:S.fns 21=some i21:=ah
theorem s21:cJ 21:=rfl
theorem c9:S.fns 9=some i9:=ah
theorem s9:cJ 9:=rfl
theorem c29:S.fns 29=some i29:=ah
theorem s29 : S.shared 29 = true :=ah
theorem c24:S.fns 24=some i24:=ah
theorem s24 : S.shared 24 = true :=ah
theorem s36:cJ 36:=rfl
theorem c62:S.fns 62=some i62:=ah
theorem s62:cJ 62:=rfl
theorem c23:S.fns 23=some i23:=ah
theorem s23:cJ 23:=rfl
theorem c41:S.fns 41=some i41:=ah
theorem s41:cJ 41:=rfl
theorem c63:S.fns 63=some i63:=ah
theorem s63:cJ 63:=rfl
theorem c61:S.fns 61=some i61:=ah
theorem s61:cJ 61:=rfl
theorem c28:S.fns 28=some i28:=ah
theorem s28:cJ 28:=rfl
theorem c30:S.fns 30=some i30:=ah
theorem s30:cJ 30:=rfl
theorem s6:cJ 6:=rfl
theorem c4:S.fns 4=some i4:=ah
theorem s4:cJ 4:=rfl
theorem c12:S.fns 12=some i12:=ah
theorem s12:cJ 12:=rfl
theorem c31:S.fns 31=some i31:=ah
theorem s31:cJ 31:=rfl
theorem c55:S.fns 55=some i55:=ah
theorem s55:cJ 55:=rfl
theorem c46:S.fns 46=some i46:=ah
theorem s46:cJ 46:=rfl
end Go.Abs
