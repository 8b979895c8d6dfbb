/-
  The program as a system of the abstract machine.
-/
import Derived.Test.YtfdblnecoamlbaaGreatDoorMf
import Derived.Test.YtfdblnecoamlbaaGreatDoorProg
set_option linter.all false
set_option maxRecDepth 100000
noncomputable section
namespace Go.Abs
open Go.Proofs
def Oo{α:Type}:List α->Nat->Option α
  | [],_ => none
  | a::l,n => match n with | 0 => some a | n+1 => Oo l n
def lkN{α:Type}:List (Nat×α)->Nat->Option α
  | [],_ => none
  | (k,a)::l,n => bif Nat.beq k n then some a else lkN l n
noncomputable def fB(s:Nat)(o:Oper):oQ := match o.op with
  | .build t ps => (match Tryz.prog.underlying t,A9 Tryz.prog t with | some (.struct fs),some z => ((DQ (fun i => (Oo fs.toList i).map fun f => (f.offset,Tryz.prog.cellsOf f.type)) z.length ps.toList).map (.build z)).getD .bad | _,_ => Jl Tryz.prog s o)
  | .binOp op t x y _ => (match Tryz.prog.underlying t,cZ x,cZ y with | some (.struct fs),some a,some b =>.eqc (.str (fs.toList.map fun f => (Sh Tryz.prog f.type).getD false)) (match op with | .neq => true | _ => false) a b | _,_,_ => Jl Tryz.prog s o)
  | _ => Jl Tryz.prog s o
noncomputable def fOp(ops:List Oper)(b:a_)(s i:Nat)(o:Oper):bJ := ⟨o.dst,fB ((s+i)*64) o,(match o.guard with | none => none | some (j,w) => (match Oo ops j with | some x => (match x.dst with | some t => some (t,w) | none => none) | none => none)),(Oo b i).getD 0⟩
noncomputable def V0(ops:List Oper)(b:a_)(s:Nat):Nat->List Oper->h_
  | _,[] => []
  | i,o::r => fOp ops b s i o::V0 ops b s (i+1) r
abbrev fW(B:List (Nat×aN))(p:Nat)(y:aN):aN := match lkN B p with | some x => x | none => y
/-- the code of a function: at some places something else stands; at a drawn region the lists of what comes before each operation are given -/
noncomputable def fC(f:Nat)(A:r_)(B:List (Nat×aN)):Code->Nat->aN
  | .region id ops draw,p => bif draw then .region true (V0 ops.toList ((lkN A p).getD []) ((f*1000+id)*1000) 0 ops.toList) else .region false (V0 ops.toList [] ((f*1000+id)*1000) 0 ops.toList)
  | .seq a b,p =>.seq (fW B (2*p) (fC f A B a (2*p))) (fW B (2*p+1) (fC f A B b (2*p+1)))
  | .cond c a b,p => match cZ c with | some c =>.cond c (fW B (2*p) (fC f A B a (2*p))) (fW B (2*p+1) (fC f A B b (2*p+1))) | none =>.bad
  | .block i c,p =>.block i (fW B (2*p) (fC f A B c (2*p)))
  | .loop c,p =>.loop (fW B (2*p) (fC f A B c (2*p)))
  | .exit i,_ =>.exit i
  | .scope c,p => fC f A B c p
  | .ret,_ =>.ret
  | .label _,_ =>.skip
  | .skip,_ =>.skip
  | _,_ =>.bad
noncomputable def fF(f:Nat)(A:r_)(B:List (Nat×aN)):bd := match Oo Tryz.prog.funcs.toList f with
  | some fn => (match fn.body with | some c => ⟨fn.ntmps,(Ck Tryz.prog fn.results.toList).getD [],fC f A B c 1⟩ | none => ⟨0,[],.bad⟩)
  | none => ⟨0,[],.bad⟩
/-- the part at a place -/
noncomputable def gL:aN->Nat->aN
  | .seq a b,q => bif Nat.beq q 1 then .seq a b else bif Nat.beq (q%2) 0 then gL a (q/2) else gL b (q/2)
  | .cond x a b,q => bif Nat.beq q 1 then .cond x a b else bif Nat.beq (q%2) 0 then gL a (q/2) else gL b (q/2)
  | .block i a,q => bif Nat.beq q 1 then .block i a else gL a (q/2)
  | .loop a,q => bif Nat.beq q 1 then .loop a else gL a (q/2)
  | c,_ => c
abbrev fI(f:Nat)(A:r_)(B:List (Nat×aN))(q:Nat):aN := gL (fF f A B).body q
/-- a term in normal form -/
def aH{α:Type}(f:α){g:α}(_:f=g := by conv => lhs; reduce; try simp only [Int.reduceOfNat,Int.reduceNegSucc]):α := g
attribute [go_sem] aH
abbrev om(d a:Nat):bJ:=⟨some d,.zn (.t a),none,0⟩
abbrev of(d f a:Nat):bJ:=⟨some d,.GS f (.t a),none,0⟩
abbrev ol(d a:Nat):bJ:=⟨some d,.load none (.t a),none,0⟩
abbrev ox(d s a:Nat):bJ:=⟨some d,.load (some s) (.t a),none,0⟩
abbrev oo(d:Nat)(x:oQ):bJ:=⟨some d,x,none,0⟩
abbrev oi(d z a b:Nat):bJ:=⟨some d,.HL z (.t a) (.t b),none,0⟩
abbrev oc(d s f:Nat)(a:o_):bJ:=⟨some d,.call s (.k (.one (.p (.fn f [] [])))) a,none,0⟩
abbrev dm(d a n:Nat):bJ:=⟨some d,.zn (.t a),none,n⟩
abbrev dl(d a n:Nat):bJ:=⟨some d,.load none (.t a),none,n⟩
abbrev dc(d s f:Nat)(a:o_)(n:Nat):bJ:=⟨some d,.call s (.k (.one (.p (.fn f [] [])))) a,none,n⟩
abbrev os(z a b:Nat):bJ:=⟨none,.store z (.t a) (.t b),none,0⟩
abbrev mi(d:Nat)(k:Int):bJ:=⟨some d,.zn (.i k),none,0⟩
abbrev ot(d:Nat)(b:BinOp)(x y:Nat):bJ:=⟨some d,.bin b (.t x) (.t y),none,0⟩
abbrev oj(d:Nat)(b:BinOp)(x:Nat)(y:Int):bJ:=⟨some d,.bin b (.t x) (.i y),none,0⟩
abbrev dt(d:Nat)(b:BinOp)(x y n:Nat):bJ:=⟨some d,.bin b (.t x) (.t y),none,n⟩
abbrev oh(d a:Nat):bJ:=⟨some d,.KD (.t a),none,0⟩
abbrev ct(a:Nat)(x y:aN):aN:=.cond (.t a) x y
abbrev rf(l:h_):aN:=.region false l
abbrev rt(l:h_):aN:=.region true l
abbrev il(k:Int):PV:=.int .i64 k
abbrev od(d:Nat)(x:oQ)(n:Nat):bJ:=⟨some d,x,none,n⟩
def i28:bd := aH (fF 28 [] [])
def i26:bd := aH (fF 26 [] [])
def i48_l1:aN := aH (fI 48 [] [] 75)
def i48_r2:aN := aH (fI 48 [] [] 15)
def i48:bd := (aH (fun x0 x1 => fF 48 [] [(116,x0),(15,x1)])) i48_l1 i48_r2
def i56_l1:aN := aH (fI 56 [] [] 75)
def i56_r2:aN := aH (fI 56 [] [] 15)
def i56:bd := (aH (fun x0 x1 => fF 56 [] [(116,x0),(15,x1)])) i56_l1 i56_r2
def i57:bd := aH (fF 57 [] [])
def i73:bd := aH (fF 73 [] [])
def a100:r_ := [(212,[0,1,3,7,15,31,15,79,207,463,975,2047,4095,8191,16383,32767,65535,131071,262143,524287,1048575,2097151,4194303,8388607,16777215,33554431,67108863,134217727])]
def i100:bd := aH (fF 100 a100 [])
def i74:bd := aH (fF 74 [] [])
def a75:r_ := [(259276,[0,1,3,7,0,16,63,127,255,511,1023]),(16774348,[0,1,3,7,15,31,15,79,207,463,15,1039,4047,8143,16383,32767]),(16774350,[0,0,2,7,15,0,32,127,255,511]),(33548703,[0,0,0,4,12,28,0,0,128,384,896,0,0,0,1983,18367,55295,120831,262143,524287])]
def i75_l1:aN := aH (fI 75 a75 [] 607)
def i75_l2:aN := aH (fI 75 a75 [] 4863)
def i75_l3:aN := aH (fI 75 a75 [] 38911)
def i75_r4:aN := aH (fI 75 a75 [] 8191)
def i75_r5:aN := (aH (fun x0 x1 => fI 75 a75 [(65524,x0),(8191,x1)] 1023)) i75_l3 i75_r4
def i75_r6:aN := (aH (fun x0 x1 => fI 75 a75 [(8180,x0),(1023,x1)] 127)) i75_l2 i75_r5
def i75:bd := (aH (fun x0 x1 => fF 75 a75 [(1012,x0),(127,x1)])) i75_l1 i75_r6
def a76:r_ := [(128206,[0,1,3,7,0,16,63,127,255,255,0,1535,4095]),(4102652,[0,1,3,7,15,31,63,127,255,511,1023,2047,127,4223,12415,28799,65535,131071,262143,127,524415,2097151,4194303,8388607]),(4102655,[0,1,3,7,0,16,0,127])]
def i76_l1:aN := aH (fI 76 a76 [] 303)
def i76_r2:aN := aH (fI 76 a76 [] 63)
def i76:bd := (aH (fun x0 x1 => fF 76 a76 [(500,x0),(63,x1)])) i76_l1 i76_r2
def a77:r_ := [(126,[0,0,2,6,14,30,0,64,192,448,960,2046,4094,8191,16383]),(6,[0,1,3,7,15,31,63,0,128,384,896,1920,3968,8191,16383])]
def i77_l1:aN := aH (fI 77 a77 [] 324399)
def i77_r2:aN := aH (fI 77 a77 [] 3887)
def i77_l3:aN := (aH (fun x0 x1 => fI 77 a77 [(512828,x0),(4007,x1)] 303)) i77_l1 i77_r2
def i77_r4:aN := aH (fI 77 a77 [] 63)
def i77:bd := (aH (fun x0 x1 => fF 77 a77 [(500,x0),(63,x1)])) i77_l3 i77_r4
def i49_l1:aN := aH (fI 49 [] [] 75)
def i49_r2:aN := aH (fI 49 [] [] 15)
def i49:bd := (aH (fun x0 x1 => fF 49 [] [(116,x0),(15,x1)])) i49_l1 i49_r2
def a101:r_ := [(6,[0,1,3,7,15,31,0,64,192,448,960,63,4095]),(3770,[0,1,3,7,0,16,0,112,255,511,1023]),(1022,[0,1,3,7,0,16,63,0,255])]
def i101:bd := aH (fF 101 a101 [])
def i126:bd := aH (fF 126 [] [])
def i125:bd := aH (fF 125 [] [])
def i99:bd := aH (fF 99 [] [])
def i124_l1:aN := aH (fI 124 [] [] 37)
def i124_r2:aN := aH (fI 124 [] [] 7)
def i124:bd := (aH (fun x0 x1 => fF 124 [] [(52,x0),(7,x1)])) i124_l1 i124_r2
def a12:r_ := [(252,[0,1,3,7,15,31,63,127,255,511,1023,2047,4095,8191,16383,32767,65535,131071,262143,524287,131071,131071,2621439,7864319,16252927,33554431,67108863])]
def i12:bd := aH (fF 12 a12 [])
def i35_l1:aN := aH (fI 35 [] [] 75)
def i35_r2:aN := aH (fI 35 [] [] 15)
def i35:bd := (aH (fun x0 x1 => fF 35 [] [(116,x0),(15,x1)])) i35_l1 i35_r2
def i38:bd := aH (fF 38 [] [])
def i34_l1:aN := aH (fI 34 [] [] 75)
def i34_r2:aN := aH (fI 34 [] [] 15)
def i34:bd := (aH (fun x0 x1 => fF 34 [] [(116,x0),(15,x1)])) i34_l1 i34_r2
def i60_l1:aN := aH (fI 60 [] [] 75)
def i60_r2:aN := aH (fI 60 [] [] 15)
def i60:bd := (aH (fun x0 x1 => fF 60 [] [(116,x0),(15,x1)])) i60_l1 i60_r2
def i93_l1:aN := aH (fI 93 [] [] 75)
def i93_r2:aN := aH (fI 93 [] [] 15)
def i93:bd := (aH (fun x0 x1 => fF 93 [] [(116,x0),(15,x1)])) i93_l1 i93_r2
def a36:r_ := [(107764,[0,1,3,7,15,31,63,127,255,511,1023,2047,4095,8191,16383,32767,65535,131071,262143,524287,262143,1310719,4194303,8388607,16777215,33554431,67108863,134217727,268435455,536870911,1073741823,2147483647,1073741823,1073741823,9663676415,31138512895,68719476735,137438953471,274877906943,549755813887,1099511627775,2199023255551]),(431068,[0,1,3,7,15,31,63,127,255,511,1023,2047,4095,8191,16383,32767,65535,131071,262143,524287,1048575,2097151,4194303,8388607,16777215,33554431,16777215,83886079,218103807,536870911,1073741823,2147483647,4294967295,8589934591,17179869183,34359738367,68719476735,68719476735,206158430207,549755813887,1099511627775,2199023255551])]
def i36_l1:aN := aH (fI 36 a36 [] 19237)
def i36_r2:aN := aH (fI 36 a36 [] 3877)
def i36_r3:aN := aH (fI 36 a36 [] 229)
def i36_l4:aN := (aH (fun x0 x1 x2 => fI 36 a36 [(26932,x0),(3367,x1),(211,x2)] 37)) i36_l1 i36_r2 i36_r3
def i36_r5:aN := aH (fI 36 a36 [] 7)
def i36:bd := (aH (fun x0 x1 => fF 36 a36 [(52,x0),(7,x1)])) i36_l4 i36_r5
def i61_l1:aN := aH (fI 61 [] [] 75)
def i61_r2:aN := aH (fI 61 [] [] 15)
def i61:bd := (aH (fun x0 x1 => fF 61 [] [(116,x0),(15,x1)])) i61_l1 i61_r2
def a94:r_ := [(840,[0,0,3,7,15,31,15,127,255,511,1023,2047,4095,8191,16383,8191,65535,131071,262143,8191,532479,8191,3678207,7872511,16261119,33554431,67108863])]
def i94_l1:aN := aH (fI 94 a94 [] 37)
def i94_r2:aN := aH (fI 94 a94 [] 7)
def i94:bd := (aH (fun x0 x1 => fF 94 a94 [(52,x0),(7,x1)])) i94_l1 i94_r2
def i91:bd := aH (fF 91 [] [])
def a62:r_ := [(119392,[0,0,2,7,15,31,63,31,31,415,927,2047,4095,31,8223,31,57375,122911,262143,524287]),(7463,[0,0,3,7,0,16,63,0,0,384,1023,2047])]
def i62_l1:aN := aH (fI 62 a62 [] 17995)
def i62_r2:aN := aH (fI 62 a62 [] 7755)
def i62_r3:aN := aH (fI 62 a62 [] 459)
def i62_l4:aN := (aH (fun x0 x1 x2 => fI 62 a62 [(29848,x0),(7463,x1),(467,x2)] 75)) i62_l1 i62_r2 i62_r3
def i62_r5:aN := aH (fI 62 a62 [] 15)
def i62:bd := (aH (fun x0 x1 => fF 62 a62 [(116,x0),(15,x1)])) i62_l4 i62_r5
def i95_l1:aN := aH (fI 95 [] [] 37)
def i95_r2:aN := aH (fI 95 [] [] 7)
def i95:bd := (aH (fun x0 x1 => fF 95 [] [(52,x0),(7,x1)])) i95_l1 i95_r2
def i92:bd := aH (fF 92 [] [])
def a63:r_ := [(3754,[0,0,0,0,12,28,63,127]),(942,[0,0,0,0,12,31,63]),(8170,[0,0,0,6,0,0,48,127,255])]
def i63:bd := aH (fF 63 a63 [])
def i37_l1:aN := aH (fI 37 [] [] 153903)
def i37_r2:aN := aH (fI 37 [] [] 31023)
def i37_r3:aN := aH (fI 37 [] [] 1839)
def i37_l4:aN := (aH (fun x0 x1 x2 => fI 37 [] [(256308,x0),(32039,x1),(2003,x2)] 303)) i37_l1 i37_r2 i37_r3
def i37_r5:aN := aH (fI 37 [] [] 63)
def i37:bd := (aH (fun x0 x1 => fF 37 [] [(500,x0),(63,x1)])) i37_l4 i37_r5
def i55_l1:aN := aH (fI 55 [] [] 1215)
def i55_r2:aN := aH (fI 55 [] [] 255)
def i55:bd := (aH (fun x0 x1 => fF 55 [] [(2036,x0),(255,x1)])) i55_l1 i55_r2
def a32:r_ := [(2074219,[0,1,3,7,0,16,63,127,255,511,1023]),(129639,[0,0,2,6,14,0,32,126,255,511,1023]),(30,[0,1,0,0,8,24,56,120,0,256,0,1792,0,4096,12288,28672,65535,131071,262143])]
def i32_l1:aN := aH (fI 32 a32 [] 607)
def i32_l2:aN := aH (fI 32 a32 [] 314559)
def i32_r3:aN := aH (fI 32 a32 [] 15551)
def i32_l4:aN := (aH (fun x0 x1 => fI 32 a32 [(521420,x0),(16295,x1)] 1215)) i32_l2 i32_r3
def i32_r5:aN := aH (fI 32 a32 [] 255)
def i32_r6:aN := (aH (fun x0 x1 => fI 32 a32 [(2036,x0),(255,x1)] 127)) i32_l4 i32_r5
def i32:bd := (aH (fun x0 x1 => fF 32 a32 [(1012,x0),(127,x1)])) i32_l1 i32_r6
def i30:bd := aH (fF 30 [] [])
def i10:bd := aH (fF 10 [] [])
def i8_l1:aN := aH (fI 8 [] [] 151)
def i8_r2:aN := aH (fI 8 [] [] 31)
def i8:bd := (aH (fun x0 x1 => fF 8 [] [(244,x0),(31,x1)])) i8_l1 i8_r2
def a11:r_ := [(1864,[0,1,0,7,15,0,32,0,224,480,1023])]
def i11_l1:aN := aH (fI 11 a11 [] 75)
def i11_r2:aN := aH (fI 11 a11 [] 15)
def i11:bd := (aH (fun x0 x1 => fF 11 a11 [(116,x0),(15,x1)])) i11_l1 i11_r2
def a54:r_ := [(14,[0,0,2,7,0,0,63,127,255,255,511,2047])]
def i54:bd := aH (fF 54 a54 [])
def a33:r_ := [(8015054,[0,0,2,7,0,0,32,127,255,511])]
def i33_l1:aN := aH (fI 33 a33 [] 19607)
def i33_r2:aN := aH (fI 33 a33 [] 919)
def i33_l3:aN := (aH (fun x0 x1 => fI 33 a33 [(31308,x0),(979,x1)] 151)) i33_l1 i33_r2
def i33_r4:aN := aH (fI 33 a33 [] 31)
def i33:bd := (aH (fun x0 x1 => fF 33 a33 [(244,x0),(31,x1)])) i33_l3 i33_r4
def i29:bd := aH (fF 29 [] [])
def a80:r_ := [(2036,[0,0,2,7,15,31,63,127,255,511,1023,2047,4095,8191,16383,32767,65535,131071,262143,524287,1048575,524287,2621439,6815743,15204351,33554431,67108863,134217727,268435455,536870911,1073741823,2147483647,4294967295,8589934591,17179869183,8589934591,42949672959,111669149695,249108103167,8589934591,558345748479,2173253451775,4372276707327,8796093022207,17592186044415,35184372088831])]
def i80:bd := aH (fF 80 a80 [])
def i81:bd := aH (fF 81 [] [])
def i82:bd := aH (fF 82 [] [])
def a83:r_ := [(7833,[0,1,0,0,0,24,0,64,248,508,1020,2044,4092,8191,16383,32767])]
def i83_l1:aN := aH (fI 83 a83 [] 151)
def i83_r2:aN := aH (fI 83 a83 [] 31)
def i83:bd := (aH (fun x0 x1 => fF 83 a83 [(244,x0),(31,x1)])) i83_l1 i83_r2
def i58:bd := aH (fF 58 [] [])
def a59:r_ := [(262564505,[0,0,2,6,14,0,32,96,224,0,512,0,3584,8160,16352,32766,65534,131070,262143,524287])]
def i59_l1:aN := aH (fI 59 a59 [] 599)
def i59_l2:aN := aH (fI 59 a59 [] 4895535)
def i59_l3:aN := aH (fI 59 a59 [] 10400559)
def i59_r4:aN := (aH (fun x0 => fI 59 a59 [(16410300,x0)] 963375)) i59_l3
def i59_l5:aN := aH (fI 59 a59 [] 4961071)
def i59_l6:aN := aH (fI 59 a59 [] 5153731375)
def i59_r7:aN := aH (fI 59 a59 [] 254784303)
def i59_l8:aN := (aH (fun x0 x1 => fI 59 a59 [(8402105548,x0),(262565799,x1)] 19903279)) i59_l6 i59_r7
def i59_r9:aN := aH (fI 59 a59 [] 3887)
def i59_l10:aN := (aH (fun x0 x1 x2 x3 x4 => fI 59 a59 [(8205140,x0),(1025643,x1),(8205172,x2),(32820724,x3),(4007,x4)] 303)) i59_l2 i59_r4 i59_l5 i59_l8 i59_r9
def i59_r11:aN := aH (fI 59 a59 [] 63)
def i59_r12:aN := (aH (fun x0 x1 => fI 59 a59 [(500,x0),(63,x1)] 31)) i59_l10 i59_r11
def i59:bd := (aH (fun x0 x1 => fF 59 a59 [(980,x0),(31,x1)])) i59_l1 i59_r12
def i7:bd := aH (fF 7 [] [])
def a31:r_ := [(7474,[0,0,3,7,0,0,48,112,255])]
def i31_l1:aN := aH (fI 31 a31 [] 75)
def i31_r2:aN := aH (fI 31 a31 [] 15)
def i31:bd := (aH (fun x0 x1 => fF 31 a31 [(116,x0),(15,x1)])) i31_l1 i31_r2
def i84_l1:aN := aH (fI 84 [] [] 151)
def i84_r2:aN := aH (fI 84 [] [] 31)
def i84:bd := (aH (fun x0 x1 => fF 84 [] [(244,x0),(31,x1)])) i84_l1 i84_r2
def a85:r_ := [(64030,[0,1,0,7,0,16,0,127,63,511,1023,2047]),(6,[0,1,3,7,15,31,0,64,192,448,960,63,4095])]
def i85_l1:aN := aH (fI 85 a85 [] 303)
def i85_r2:aN := aH (fI 85 a85 [] 63)
def i85:bd := (aH (fun x0 x1 => fF 85 a85 [(500,x0),(63,x1)])) i85_l1 i85_r2
def i102:bd := aH (fF 102 [] [])
def a103:r_ := [(14,[0,1,3,7,0,31,63,0,128,384,896,0,3968,8064,0,0,49279,131071])]
def i103:bd := aH (fF 103 a103 [])
def SZ:r_ := [(64818,[0,1,3,7,0,16,48,112,0,256,768,0,3840,8176,16368,32767,65535,0,262143]),(518558,[0,1,0,4,12,3,35,127,255])]
def i104_l1:aN := aH (fI 104 SZ [] 607)
def i104_r2:aN := aH (fI 104 SZ [] 127)
def i104:bd := (aH (fun x0 x1 => fF 104 SZ [(1012,x0),(127,x1)])) i104_l1 i104_r2
def a105:r_ := [(261427,[0,0,0,0,0,0,48,112,0,0,768,1792,4083,8179,16383,32767]),(60,[0,1,3,7,15,31,63,127,127,511,1023,2047,4095,8191,16383,32767,4095,131071,262143,524287,1048575,4095,2101247,6295551,14684159,4095,65015807,132124671,266342399,534777855,1073741823,2147483647,4294967295,8589934591,8589934591,25769803775,8589934591,77309411327,266287972351,549755813887,1099511627775,2199023255551]),(62,[0,1,3,7,0,31,63,127,255,0,512,1536,3584,0,15872,32256,65024,130560,511,524287])]
def i105_l1:aN := aH (fI 105 a105 [] 2431)
def i105_r2:aN := aH (fI 105 a105 [] 511)
def i105:bd := (aH (fun x0 x1 => fF 105 a105 [(4084,x0),(511,x1)])) i105_l1 i105_r2
def a106:r_ := [(28,[0,1,3,7,0,31,63,127,255,511,1023,2047,4095,8191,16383,2047,65535,131071,262143,524287,1048575,2097151,4194303,8388607,16777215,33554431,67108863,8388607,268435455,536870911,1073741823,2147483647,8388607,4303355903,12893290495,30073159679,8388607,133152374783,270591328255,545469235199,1095225049087,2199023255551,4398046511103]),(30,[0,1,3,7,0,16,48,112,0,496,1008,2032,4080,8176,16383,32767,65535])]
def i106:bd := aH (fF 106 a106 [])
def a108:r_ := [(126,[0,1,3,7,0,31,63,127,255,0,512,1536,3584,0,15872,32256,65024,130560,511,524287]),(1020,[0,1,3,0,15,0,32,127,255,511,1023,2047,511,8191,511,16895,65535,131071,262143,524287,524287,1572863,524287,4718591,16252927,33554431,67108863,134217727])]
def i108:bd := aH (fF 108 a108 [])
def S1:r_ := [(256414,[0,0,2,6,14,0,62,126,254,510,0,1024,3072,7168,0,31744,64512,130048,261120,524286,1048575,2097151])]
def i110_l1:aN := aH (fI 110 S1 [] 303)
def i110_r2:aN := aH (fI 110 S1 [] 63)
def i110:bd := (aH (fun x0 x1 => fF 110 S1 [(500,x0),(63,x1)])) i110_l1 i110_r2
def i112_l1:aN := aH (fI 112 [] [] 37)
def i112_r2:aN := aH (fI 112 [] [] 7)
def i112:bd := (aH (fun x0 x1 => fF 112 [] [(52,x0),(7,x1)])) i112_l1 i112_r2
def i113:bd := aH (fF 113 [] [])
def i86_l1:aN := aH (fI 86 [] [] 37)
def i86_r2:aN := aH (fI 86 [] [] 7)
def i86:bd := (aH (fun x0 x1 => fF 86 [] [(52,x0),(7,x1)])) i86_l1 i86_r2
def a90:r_ := [(16043982,[0,1,3,0,8,24,7,71,255,511]),(15666,[0,1,3,7,0,16,48,112,0,256,0,1792,4080,8176,16383,32767,0,131071])]
def i90_l1:aN := aH (fI 90 a90 [] 309655)
def i90_r2:aN := aH (fI 90 a90 [] 63895)
def i90_r3:aN := aH (fI 90 a90 [] 1943)
def i90_l4:aN := (aH (fun x0 x1 x2 => fI 90 a90 [(501364,x0),(62671,x1),(1959,x2)] 151)) i90_l1 i90_r2 i90_r3
def i90_r5:aN := aH (fI 90 a90 [] 31)
def i90:bd := (aH (fun x0 x1 => fF 90 a90 [(244,x0),(31,x1)])) i90_l4 i90_r5
def a27:r_ := [(28,[0,1,3,7,15,0,32,127,255,0])]
def i27_l1:aN := aH (fI 27 a27 [] 40139)
def i27_r2:aN := aH (fI 27 a27 [] 971)
def i27_l3:aN := (aH (fun x0 x1 => fI 27 a27 [(59804,x0),(935,x1)] 75)) i27_l1 i27_r2
def i27_r4:aN := aH (fI 27 a27 [] 15)
def i27:bd := (aH (fun x0 x1 => fF 27 a27 [(116,x0),(15,x1)])) i27_l3 i27_r4
def a114:r_ := [(14,[0,1,3,7,15,0,32,96,224,0,992,2016,4095,8191,0,16384,49152,114688,245760,0,524288,1572864,3670016,0,8388608,0,58720256,133693440,267911168,536854528,1073725440,0,0,6442467327,17179869183]),(1020,[0,1,0,4,12,28,60,127])]
def i114:bd := aH (fF 114 a114 [])
def ZJ:r_ := [(100,[0,0,0,0,0,0,48,112,0,0,768,1792,4083,8179,16383,32767])]
def i115_l1:aN := aH (fI 115 ZJ [] 9)
def i115:bd := (aH (fun x0 => fF 115 ZJ [(12,x0)])) i115_l1
def a116:r_ := [(100,[0,0,0,0,0,0,48,112,0,0,768,1792,4083,8179,16383,32767])]
def i116_l1:aN := aH (fI 116 a116 [] 9)
def i116:bd := (aH (fun x0 => fF 116 a116 [(12,x0)])) i116_l1
def a127:r_ := [(6,[0,0,2,0,8,24,56,120,254,1,1023])]
def i127:bd := aH (fF 127 a127 [])
def i128_l1:aN := aH (fI 128 [] [] 75)
def i128_r2:aN := aH (fI 128 [] [] 15)
def i128:bd := (aH (fun x0 x1 => fF 128 [] [(116,x0),(15,x1)])) i128_l1 i128_r2
def i130_l1:aN := aH (fI 130 [] [] 9)
def i130:bd := (aH (fun x0 => fF 130 [] [(12,x0)])) i130_l1
def i129:bd := aH (fF 129 [] [])
def i132:bd := aH (fF 132 [] [])
def a134:r_ := [(30,[0,0,0,4,12,28,0,124,252,508,1020,2044,4092,8188,16380,32764,65532,8188,262140,524284,1048572,2097148,4194300,8388604,8189,16785407,67108863])]
def i134:bd := aH (fF 134 a134 [])
def a135:r_ := [(6,[0,1,3,7,0,16,48,112,255,511,0,1024,3072,7168,0,16384,49152,114688,245760,523264,1047552,2097151,0,8388607,16777215])]
def i135:bd := aH (fF 135 a135 [])
def i136_l1:aN := aH (fI 136 [] [] 40139)
def i136_r2:aN := aH (fI 136 [] [] 971)
def i136_l3:aN := (aH (fun x0 x1 => fI 136 [] [(59804,x0),(935,x1)] 75)) i136_l1 i136_r2
def i136_r4:aN := aH (fI 136 [] [] 15)
def i136:bd := (aH (fun x0 x1 => fF 136 [] [(116,x0),(15,x1)])) i136_l3 i136_r4
def i138:bd := aH (fF 138 [] [])
def i119:bd := aH (fF 119 [] [])
def IS:r_ := [(1910088,[0,0,3,7,0,0,32,112,240,511]),(1864,[0,0,3,7,0,0,32,112,240,511])]
def i140_l1:aN := aH (fI 140 IS [] 76363)
def i140_r2:aN := aH (fI 140 IS [] 14923)
def i140_r3:aN := aH (fI 140 IS [] 459)
def i140_l4:aN := (aH (fun x0 x1 x2 => fI 140 IS [(119380,x0),(14923,x1),(467,x2)] 75)) i140_l1 i140_r2 i140_r3
def i140_r5:aN := aH (fI 140 IS [] 15)
def i140:bd := (aH (fun x0 x1 => fF 140 IS [(116,x0),(15,x1)])) i140_l4 i140_r5
def a141:r_ := [(7475,[0,0,0,0,0,0,48,112,0,0,768,1792,4083,8179,16383,32767])]
def i141_l1:aN := aH (fI 141 a141 [] 75)
def i141_r2:aN := aH (fI 141 a141 [] 15)
def i141:bd := (aH (fun x0 x1 => fF 141 a141 [(116,x0),(15,x1)])) i141_l1 i141_r2
def i120:bd := aH (fF 120 [] [])
def i121:bd := aH (fF 121 [] [])
def i122:bd := aH (fF 122 [] [])
def i50_l1:aN := aH (fI 50 [] [] 151)
def i50_r2:aN := aH (fI 50 [] [] 31)
def i50:bd := (aH (fun x0 x1 => fF 50 [] [(244,x0),(31,x1)])) i50_l1 i50_r2
def a52:r_ := [(6,[0,0,3,7,0,0,48,127,255])]
def i52:bd := aH (fF 52 a52 [])
def i51_l1:aN := aH (fI 51 [] [] 151)
def i51_r2:aN := aH (fI 51 [] [] 31)
def i51:bd := (aH (fun x0 x1 => fF 51 [] [(244,x0),(31,x1)])) i51_l1 i51_r2
def a53:r_ := [(6756,[0,0,3,7,0,0,48,112,255]),(6758,[0,0,3,7,0,0,48,112,255,511])]
def i53_l1:aN := aH (fI 53 a53 [] 37)
def i53_r2:aN := aH (fI 53 a53 [] 7)
def i53:bd := (aH (fun x0 x1 => fF 53 a53 [(52,x0),(7,x1)])) i53_l1 i53_r2
def i142_l1:aN := aH (fI 142 [] [] 17)
def i142_r2:aN := aH (fI 142 [] [] 7)
def i142:bd := (aH (fun x0 x1 => fF 142 [] [(24,x0),(7,x1)])) i142_l1 i142_r2
def i161:bd := aH (fF 161 [] [])
def i162_l1:aN := aH (fI 162 [] [] 154007)
def i162_r2:aN := aH (fI 162 [] [] 31127)
def i162_r3:aN := aH (fI 162 [] [] 1943)
def i162_l4:aN := (aH (fun x0 x1 x2 => fI 162 [] [(250676,x0),(31335,x1),(1959,x2)] 151)) i162_l1 i162_r2 i162_r3
def i162_r5:aN := aH (fI 162 [] [] 31)
def i162:bd := (aH (fun x0 x1 => fF 162 [] [(244,x0),(31,x1)])) i162_l4 i162_r5
def i163:bd := aH (fF 163 [] [])
def ZK:r_ := [(29180,[0,1,3,7,7,23,63,127,7,7,775,1799,4095,8191,16383])]
def i153_l1:aN := aH (fI 153 ZK [] 19)
def i153:bd := (aH (fun x0 => fF 153 ZK [(28,x0)])) i153_l1
def a154:r_ := [(3378,[0,0,0,6,14,31])]
def i154_l1:aN := aH (fI 154 a154 [] 37)
def i154_r2:aN := aH (fI 154 a154 [] 7)
def i154:bd := (aH (fun x0 x1 => fF 154 a154 [(52,x0),(7,x1)])) i154_l1 i154_r2
def ZL:r_ := [(29180,[0,1,3,7,7,7,39,119,247,7,7,1543,3591,8191,16383,32767,65535])]
def i155_l1:aN := aH (fI 155 ZL [] 19)
def i155:bd := (aH (fun x0 => fF 155 ZL [(28,x0)])) i155_l1
def a78:r_ := [(100,[0,0,0,0,0,0,48,112,0,0,768,1792,4083,8179,16383,32767])]
def i78_l1:aN := aH (fI 78 a78 [] 9)
def i78:bd := (aH (fun x0 => fF 78 a78 [(12,x0)])) i78_l1
def i79:bd := aH (fF 79 [] [])
def i191_l1:aN := aH (fI 191 [] [] 37)
def i191_r2:aN := aH (fI 191 [] [] 7)
def i191:bd := (aH (fun x0 x1 => fF 191 [] [(52,x0),(7,x1)])) i191_l1 i191_r2
def i164:bd := aH (fF 164 [] [])
def Pa:r_ := [(3216,[0,0,3,7,15,15,63,127,15,15,527,1807,3855,8191,16383]),(6436,[0,0,0,0,8,0,0,64,224,480,0,0,3072,7168,16355,32739,65535,131071])]
def i170_l1:aN := aH (fI 170 Pa [] 585)
def i170_r2:aN := aH (fI 170 Pa [] 57)
def i170_l3:aN := (aH (fun x0 x1 => fI 170 Pa [(804,x0),(51,x1)] 9)) i170_l1 i170_r2
def i170:bd := (aH (fun x0 => fF 170 Pa [(12,x0)])) i170_l3
def i176:bd := aH (fF 176 [] [])
def Pb:r_ := [(3216,[0,0,3,7,15,15,15,111,239,15,15,1039,3599,7695,16383,32767,65535]),(6436,[0,0,0,0,8,0,0,64,224,480,0,0,3072,7168,16355,32739,65535,131071])]
def i179_l1:aN := aH (fI 179 Pb [] 585)
def i179_r2:aN := aH (fI 179 Pb [] 57)
def i179_l3:aN := (aH (fun x0 x1 => fI 179 Pb [(804,x0),(51,x1)] 9)) i179_l1 i179_r2
def i179:bd := (aH (fun x0 => fF 179 Pb [(12,x0)])) i179_l3
def i192_l1:aN := aH (fI 192 [] [] 37)
def i192_r2:aN := aH (fI 192 [] [] 7)
def i192:bd := (aH (fun x0 x1 => fF 192 [] [(52,x0),(7,x1)])) i192_l1 i192_r2
def i197:bd := aH (fF 197 [] [])
def i3_l1:aN := aH (fI 3 [] [] 9727)
def i3_r2:aN := aH (fI 3 [] [] 2047)
def i3:bd := (aH (fun x0 x1 => fF 3 [] [(16372,x0),(2047,x1)])) i3_l1 i3_r2
end Go.Abs
end
namespace Go.Abs
open Go.Proofs
def FO:a_->Nat->Bool
 |[],_=>false
 |a::r,n=>bif Nat.beq a n then true else FO r n
def afO:r_->Nat->a_
 |[],_=>[]
 |(a,l)::r,n=>bif Nat.beq a n then l else afO r n
def atC:a_:=[23,24,45,47,49,75,76,78,85,87,89,115,116,117,119,121,130,139,140,142,143,144,145,146,147,148,149,150,153,155,165,167,168,169,170,171,172,173,174,175,177,178,179,180,181,182,183,184,185,186,193,194,195,196,198,199,200,203,204]
def auq:r_:=[(23,[23,45,47,24]),(24,[24]),(45,[45]),(47,[47]),(49,[49,75,76]),(75,[75]),(76,[76]),(78,[78]),(85,[85,115,116]),(87,[87,117,143,144,145,146,147,148,149,150,165,167,168,169,193]),(89,[89]),(115,[115]),(116,[116]),(117,[117,143,144,145,146,147,148,149,150,165,167,168,169,193]),(119,[119,153,167,170,171,172,173,174,175,177,178,194,195,196,203]),(121,[121,155,167,179,180,181,182,183,184,185,186,198,199,200,204]),(130,[130]),(139,[139]),(140,[140]),(142,[142]),(143,[143]),(144,[144,165]),(145,[145,167]),(146,[146,168,169,193]),(147,[147]),(148,[148]),(149,[149]),(150,[150]),(153,[153,167,170,171,172,173,174,175,177,178,194,195,196,203]),(155,[155,167,179,180,181,182,183,184,185,186,198,199,200,204]),(165,[165]),(167,[167]),(168,[168,169,193]),(169,[169,193]),(170,[170]),(171,[171,194]),(172,[167,172]),(173,[173,195,196,203]),(174,[174]),(175,[175]),(177,[177]),(178,[178]),(179,[179]),(180,[180,198]),(181,[167,181]),(182,[182,199,200,204]),(183,[183]),(184,[184]),(185,[185]),(186,[186]),(193,[193]),(194,[194]),(195,[195,196,203]),(196,[196,203]),(198,[198]),(199,[199,200,204]),(200,[200,204]),(203,[203]),(204,[204])]
def afN:a_:=[27]
def Ym(f:Nat)(args:e_):Option (Option RV):=
 bif Nat.beq f 71 then some (RR args)
 else bif Nat.beq f 118 then some (OC args)
 else bif FO [29,132] f then RP args
 else bif Nat.beq f 46 then RQ args
 else none
noncomputable def S:Sys:={P:=Tryz.prog,shared:=FO atC,sites:=afO auq,lone:=fun s=>FO afN (s/64000000),fns:=CX Tryz.prog,prim:=Ym}
abbrev dd(n:Nat):Prop:=S.shared n=false
def c28:S.fns 28=some i28:=ah
def s28:dd 28:=rfl
def c26:S.fns 26=some i26:=ah
def s26:dd 26:=rfl
def c48:S.fns 48=some i48:=ah
def s48:dd 48:=rfl
def c56:S.fns 56=some i56:=ah
def s56:dd 56:=rfl
def c57:S.fns 57=some i57:=ah
def s57:dd 57:=rfl
def c73:S.fns 73=some i73:=ah
def s73:dd 73:=rfl
def c100:S.fns 100=some i100:=ah
def s100:dd 100:=rfl
def c74:S.fns 74=some i74:=ah
def s74:dd 74:=rfl
def c75:S.fns 75=some i75:=ah
def c76:S.fns 76=some i76:=ah
def c77:S.fns 77=some i77:=ah
def s77:dd 77:=rfl
def c49:S.fns 49=some i49:=ah
def c101:S.fns 101=some i101:=ah
def s101:dd 101:=rfl
def c126:S.fns 126=some i126:=ah
def s126:dd 126:=rfl
def c125:S.fns 125=some i125:=ah
def s125:dd 125:=rfl
def c99:S.fns 99=some i99:=ah
def s99:dd 99:=rfl
def c124:S.fns 124=some i124:=ah
def s124:dd 124:=rfl
def c12:S.fns 12=some i12:=ah
def s12:dd 12:=rfl
def c35:S.fns 35=some i35:=ah
def s35:dd 35:=rfl
def c38:S.fns 38=some i38:=ah
def s38:dd 38:=rfl
def c34:S.fns 34=some i34:=ah
def s34:dd 34:=rfl
def c60:S.fns 60=some i60:=ah
def s60:dd 60:=rfl
def c93:S.fns 93=some i93:=ah
def s93:dd 93:=rfl
def c36:S.fns 36=some i36:=ah
def s36:dd 36:=rfl
def c61:S.fns 61=some i61:=ah
def s61:dd 61:=rfl
def c94:S.fns 94=some i94:=ah
def s94:dd 94:=rfl
def c91:S.fns 91=some i91:=ah
def s91:dd 91:=rfl
def c62:S.fns 62=some i62:=ah
def s62:dd 62:=rfl
def c95:S.fns 95=some i95:=ah
def s95:dd 95:=rfl
def c92:S.fns 92=some i92:=ah
def s92:dd 92:=rfl
def c63:S.fns 63=some i63:=ah
def s63:dd 63:=rfl
def c37:S.fns 37=some i37:=ah
def s37:dd 37:=rfl
def c55:S.fns 55=some i55:=ah
def s55:dd 55:=rfl
def c32:S.fns 32=some i32:=ah
def s32:dd 32:=rfl
def c30:S.fns 30=some i30:=ah
def s30:dd 30:=rfl
def c10:S.fns 10=some i10:=ah
def s10:dd 10:=rfl
def c8:S.fns 8=some i8:=ah
def s8:dd 8:=rfl
def c11:S.fns 11=some i11:=ah
def s11:dd 11:=rfl
def c54:S.fns 54=some i54:=ah
def s54:dd 54:=rfl
def c33:S.fns 33=some i33:=ah
def s33:dd 33:=rfl
def c29:S.fns 29=some i29:=ah
def s29:dd 29:=rfl
def c80:S.fns 80=some i80:=ah
def s80:dd 80:=rfl
def c81:S.fns 81=some i81:=ah
def s81:dd 81:=rfl
def c82:S.fns 82=some i82:=ah
def s82:dd 82:=rfl
def c83:S.fns 83=some i83:=ah
def s83:dd 83:=rfl
def c58:S.fns 58=some i58:=ah
def s58:dd 58:=rfl
def c59:S.fns 59=some i59:=ah
def s59:dd 59:=rfl
def c7:S.fns 7=some i7:=ah
def s7:dd 7:=rfl
def c31:S.fns 31=some i31:=ah
def s31:dd 31:=rfl
def c84:S.fns 84=some i84:=ah
def s84:dd 84:=rfl
def c85:S.fns 85=some i85:=ah
def c102:S.fns 102=some i102:=ah
def s102:dd 102:=rfl
def c103:S.fns 103=some i103:=ah
def c104:S.fns 104=some i104:=ah
def s104:dd 104:=rfl
def c105:S.fns 105=some i105:=ah
def c106:S.fns 106=some i106:=ah
def c108:S.fns 108=some i108:=ah
def c110:S.fns 110=some i110:=ah
def c112:S.fns 112=some i112:=ah
def s112:dd 112:=rfl
def c113:S.fns 113=some i113:=ah
def s113:dd 113:=rfl
def c86:S.fns 86=some i86:=ah
def s86:dd 86:=rfl
def c90:S.fns 90=some i90:=ah
def s90:dd 90:=rfl
def c27:S.fns 27=some i27:=ah
def s27:dd 27:=rfl
def c114:S.fns 114=some i114:=ah
def s114:dd 114:=rfl
def c115:S.fns 115=some i115:=ah
def c116:S.fns 116=some i116:=ah
def c127:S.fns 127=some i127:=ah
def s127:dd 127:=rfl
def c128:S.fns 128=some i128:=ah
def s128:dd 128:=rfl
def c130:S.fns 130=some i130:=ah
def c129:S.fns 129=some i129:=ah
def s129:dd 129:=rfl
def c132:S.fns 132=some i132:=ah
def s132:dd 132:=rfl
def c134:S.fns 134=some i134:=ah
def s134:dd 134:=rfl
def c135:S.fns 135=some i135:=ah
def s135:dd 135:=rfl
def c136:S.fns 136=some i136:=ah
def s136:dd 136:=rfl
def c138:S.fns 138=some i138:=ah
def s138:dd 138:=rfl
def c119:S.fns 119=some i119:=ah
def c140:S.fns 140=some i140:=ah
def c141:S.fns 141=some i141:=ah
def s141:dd 141:=rfl
def c120:S.fns 120=some i120:=ah
def s120:dd 120:=rfl
def c121:S.fns 121=some i121:=ah
def c122:S.fns 122=some i122:=ah
def c50:S.fns 50=some i50:=ah
def s50:dd 50:=rfl
def c52:S.fns 52=some i52:=ah
def s52:dd 52:=rfl
def c51:S.fns 51=some i51:=ah
def s51:dd 51:=rfl
def c53:S.fns 53=some i53:=ah
def s53:dd 53:=rfl
def c142:S.fns 142=some i142:=ah
def c161:S.fns 161=some i161:=ah
def s161:dd 161:=rfl
def c162:S.fns 162=some i162:=ah
def s162:dd 162:=rfl
def c163:S.fns 163=some i163:=ah
def s163:dd 163:=rfl
def c153:S.fns 153=some i153:=ah
def s153:S.shared 153=true:=ah
def c154:S.fns 154=some i154:=ah
def s154:dd 154:=rfl
def c155:S.fns 155=some i155:=ah
def s155:S.shared 155=true:=ah
def c78:S.fns 78=some i78:=ah
def s78:S.shared 78=true:=ah
def c79:S.fns 79=some i79:=ah
def s79:dd 79:=rfl
def c191:S.fns 191=some i191:=ah
def s191:dd 191:=rfl
def c164:S.fns 164=some i164:=ah
def s164:dd 164:=rfl
def c170:S.fns 170=some i170:=ah
def s170:S.shared 170=true:=ah
def c176:S.fns 176=some i176:=ah
def s176:dd 176:=rfl
def c179:S.fns 179=some i179:=ah
def s179:S.shared 179=true:=ah
def c192:S.fns 192=some i192:=ah
def s192:dd 192:=rfl
def c197:S.fns 197=some i197:=ah
def s197:dd 197:=rfl
def c3:S.fns 3=some i3:=ah
def s3:dd 3:=rfl
end Go.Abs
namespace Go.Abs
noncomputable section
def a47:r_ := [(3,[0,0,2,6,14,0,32,126,255,511,1023])]
def i47:bd := aH (fF 47 a47 [])
def a45:r_ := [(12,[0,1,3,7,0,16,48,112,240,511]),(30,[0,1,3,7,0,16,48,112,240,511,1023,2047,4095])]
def i45:bd := aH (fF 45 a45 [])
def i44_l1:aN:=(.seq (rf [ot 14 .lss 13 12]) (.seq (ct 14 .skip (.exit 0)) (.seq (.block 1 (.seq (rf [oi 15 6 11 13,ox 16 6 15,oo 5 (.alloc 2816256128 [il 0,il 0,il 0,il 0,il 0,.bool false]),os 6 5 16]) (rf [om 17 3,ox 18 6 5,oc 19 2816320128 72 [.t 18],oo 20 (.bin .add (.k (.one (.p (.str ⟨#[32]⟩)))) (.t 19)),ot 21 .add 17 20,om 3 21]))) (rf [oj 22 .add 13 1,om 13 22]))))
def i44_r2:aN:=(.seq (rf [om 23 3,om 2 23]) .ret)
def i44:bd:=⟨24,[(2,none)],(.seq (rf [oo 1 (.box 2816000000 (.t 0)),oo 2 (.zn (.k (.one (.p (.str ⟨#[]⟩)))))]) (.seq (rf [of 6 0 1,ol 7 6,oc 8 2816064128 71 [.t 7],oo 9 (.bin .add (.t 8) (.k (.one (.p (.str ⟨#[58]⟩))))),om 3 9]) (.seq (.seq (rf [of 10 1 1,ol 11 10,oh 12 11,mi 13 0]) (.block 0 (.loop i44_l1))) i44_r2)))⟩
def i9:bd := aH (fF 9 [] [])
def i72:bd:=⟨40,[(2,none)],(.seq (rf [oo 1 (.box 4608000000 (.t 0)),oo 2 (.zn (.k (.one (.p (.str ⟨#[]⟩)))))]) (.seq (.seq (rf [of 4 0 1,ol 5 4]) (.block 0 (.seq (rf [oj 7 .eql 5 1,om 6 7]) (ct 6 (.seq (rt [of 8 1 1,dl 9 8 1,dc 10 4608192128 71 [.t 9] 3,od 11 (.bin .add (.t 10) (.k (.one (.p (.str ⟨#[46]⟩))))) 7,of 12 2 1,dl 13 12 16,dc 14 4608192384 71 [.t 13] 55,dt 15 .add 11 14 127,dm 2 15 255]) .ret) (.seq (rf [oj 17 .eql 5 2,om 16 17]) (ct 16 (.seq (rf [of 18 3 1,ol 19 18,oc 20 4608320128 71 [.t 19],oo 21 (.bin .add (.t 20) (.k (.one (.p (.str ⟨#[117]⟩))))),om 3 21]) (.seq (.seq (rf [of 22 5 1,ol 23 22]) (ct 23 (rf [of 24 3 1,ol 25 24,oc 26 4608448128 71 [.t 25],oo 27 (.bin .add (.t 26) (.k (.one (.p (.str ⟨#[111]⟩))))),om 3 27]) .skip)) (.seq (.seq (rf [of 28 4 1,ol 29 28]) (.block 1 (.seq (rf [oj 31 .eql 29 1,om 30 31]) (ct 30 (.seq (rf [om 32 3, oo 33 (.bin .add (.t 32) (.k (.one (.p (.str ⟨#[43]⟩))))),om 2 33]) .ret) (.seq (rf [oo 35 (.bin .eql (.t 29) (.i (-1))),om 34 35]) (ct 34 (.seq (rf [om 36 3,oo 37 (.bin .add (.t 36) (.k (.one (.p (.str ⟨#[45]⟩))))),om 2 37]) .ret) .skip)))))) (.seq (rf [om 38 3,oo 39 (.bin .add (.t 38) (.k (.one (.p (.str ⟨#[63]⟩))))),om 2 39]) .ret)))) .skip)))))) (.seq (rf [oo 2 (.zn (.k (.one (.p (.str ⟨#[63]⟩)))))]) .ret)))⟩
def a40:r_ := [(14950,[0,1,0,4,15,0,32,0,128,480,0,1024,0,4096,15360,0,32768,0,131072,491520,0,1048576,3145728,0,8388608,32505856,66060288,0,134217728,0,536870912,2013265920,4294967295,8589934591,17179869183]),(12,[0,1,0,4,15,0,32,0,224,480,0,1024,3072,0,8192,24576,64512,131071,262143,524287])]
def i40_l1:aN := aH (fI 40 a40 [] 75)
def i40_r2:aN := aH (fI 40 a40 [] 15)
def i40:bd := (aH (fun x0 x1 => fF 40 a40 [(116,x0),(15,x1)])) i40_l1 i40_r2
def a19:r_ := [(7474,[0,1,3,7,7,7,55,119,255,511,1023])]
def i19_l1:aN := aH (fI 19 a19 [] 75)
def i19_r2:aN := aH (fI 19 a19 [] 15)
def i19:bd := (aH (fun x0 x1 => fF 19 a19 [(116,x0),(15,x1)])) i19_l1 i19_r2
def a6:r_ := [(254974,[0,1,0,4,0,16,60,0,15,383,895,1919,4095,8191])]
def i6_l1:aN := aH (fI 6 a6 [] 311183)
def i6_r2:aN := aH (fI 6 a6 [] 65423)
def i6_l3:aN := (aH (fun x0 x1 => fI 6 a6 [(509940,x0),(63743,x1)] 79)) i6_l1 i6_r2
def i6:bd := (aH (fun x0 => fF 6 a6 [(124,x0)])) i6_l3
def i24:bd := aH (fF 24 [] [])
def a23:r_ := [(8265318,[0,0,2,6,0,16,62,127,0,511])]
def i23_l1:aN := aH (fI 23 a23 [] 40479)
def i23_l2:aN := (aH (fun x0 => fI 23 a23 [(64572,x0)] 287)) i23_l1
def i23_r3:aN := aH (fI 23 a23 [] 127)
def i23:bd := (aH (fun x0 x1 => fF 23 a23 [(504,x0),(127,x1)])) i23_l2 i23_r3
def i65_l1:aN := aH (fI 65 [] [] 75)
def i65_r2:aN := aH (fI 65 [] [] 15)
def i65:bd := (aH (fun x0 x1 => fF 65 [] [(116,x0),(15,x1)])) i65_l1 i65_r2
def i21:bd := aH (fF 21 [] [])
def i43:bd := aH (fF 43 [] [])
def i66:bd := aH (fF 66 [] [])
def i64_l1:aN := aH (fI 64 [] [] 37)
def i64_r2:aN := aH (fI 64 [] [] 7)
def i64:bd := (aH (fun x0 x1 => fF 64 [] [(52,x0),(7,x1)])) i64_l1 i64_r2
def i22_l1:aN := aH (fI 22 [] [] 75)
def i22_r2:aN := aH (fI 22 [] [] 15)
def i22:bd := (aH (fun x0 x1 => fF 22 [] [(116,x0),(15,x1)])) i22_l1 i22_r2
def i25:bd := aH (fF 25 [] [])
def i4:bd := aH (fF 4 [] [])
def i46:bd := aH (fF 46 [] [])
end
def c47:S.fns 47=some i47:=ah
def s47 : S.shared 47 = true :=ah
def c45:S.fns 45=some i45:=ah
def s45 : S.shared 45 = true :=ah
def c44:S.fns 44=some i44:=ah
def s44:dd 44:=rfl
def c9:S.fns 9=some i9:=ah
def s9:dd 9:=rfl
def c72:S.fns 72=some i72:=ah
def s72:dd 72:=rfl
def c40:S.fns 40=some i40:=ah
def s40:dd 40:=rfl
def s16:dd 16:=rfl
def c19:S.fns 19=some i19:=ah
def s19:dd 19:=rfl
def c6:S.fns 6=some i6:=ah
def s6:dd 6:=rfl
def c24:S.fns 24=some i24:=ah
def s24 : S.shared 24 = true :=ah
def c23:S.fns 23=some i23:=ah
def s23 : S.shared 23 = true :=ah
def s39:dd 39:=rfl
def c65:S.fns 65=some i65:=ah
def s65:dd 65:=rfl
def c21:S.fns 21=some i21:=ah
def s21:dd 21:=rfl
def c43:S.fns 43=some i43:=ah
def s43:dd 43:=rfl
def c66:S.fns 66=some i66:=ah
def s66:dd 66:=rfl
def c64:S.fns 64=some i64:=ah
def s64:dd 64:=rfl
def c22:S.fns 22=some i22:=ah
def s22:dd 22:=rfl
def c25:S.fns 25=some i25:=ah
def s25:dd 25:=rfl
def s5:dd 5:=rfl
def c4:S.fns 4=some i4:=ah
def s4:dd 4:=rfl
def c46:S.fns 46=some i46:=ah
def s46:dd 46:=rfl
end Go.Abs
