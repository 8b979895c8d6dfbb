/-
  The program as a system of the abstract machine.
-/
import Derived.Test.YtaajncoljnafjaaGreatDoorMf
import Derived.Test.YtaajncoljnafjaaGreatDoorProg
set_option linter.all false
set_option maxRecDepth 100000
noncomputable section
namespace Go.Abs
open Go.Proofs
def O6{α:Type}:List α->Nat->Option α
  | [],_ => none
  | a::l,n => match n with | 0 => some a | n+1 => O6 l n
def lkN{α:Type}:List (Nat×α)->Nat->Option α
  | [],_ => none
  | (k,a)::l,n => bif Nat.beq k n then some a else lkN l n
noncomputable def fB(s:Nat)(o:Oper):oF := match o.op with
  | .build t ps => (match Tryz.prog.underlying t,BC Tryz.prog t with | some (.struct fs),some z => ((EA (fun i => (O6 fs.toList i).map fun f => (f.offset,Tryz.prog.cellsOf f.type)) z.length ps.toList).map (.build z)).getD .bad | _,_ => JJ Tryz.prog s o)
  | .binOp op t x y _ => (match Tryz.prog.underlying t,cX x,cX y with | some (.struct fs),some a,some b =>.eqc (.str (fs.toList.map fun f => (Th Tryz.prog f.type).getD false)) (match op with | .neq => true | _ => false) a b | _,_,_ => JJ Tryz.prog s o)
  | _ => JJ Tryz.prog s o
noncomputable def fOp(ops:List Oper)(b:a_)(s i:Nat)(o:Oper):bQ := ⟨o.dst,fB ((s+i)*64) o,(match o.guard with | none => none | some (j,w) => (match O6 ops j with | some x => (match x.dst with | some t => some (t,w) | none => none) | none => none)),(O6 b i).getD 0⟩
noncomputable def W5(ops:List Oper)(b:a_)(s:Nat):Nat->List Oper->h_
  | _,[] => []
  | i,o::r => fOp ops b s i o::W5 ops b s (i+1) r
abbrev fW(B:List (Nat×aN))(p:Nat)(y:aN):aN := match lkN B p with | some x => x | none => y
/-- the code of a function: at some places something else stands; at a drawn region the lists of what comes before each operation are given -/
noncomputable def fC(f:Nat)(A:r_)(B:List (Nat×aN)):Code->Nat->aN
  | .region id ops draw,p => bif draw then .region true (W5 ops.toList ((lkN A p).getD []) ((f*1000+id)*1000) 0 ops.toList)else .region false (W5 ops.toList [] ((f*1000+id)*1000) 0 ops.toList)
  | .seq a b,p =>.seq (fW B (2*p) (fC f A B a (2*p))) (fW B (2*p+1) (fC f A B b (2*p+1)))
  | .cond c a b,p => match cX c with | some c =>.cond c (fW B (2*p) (fC f A B a (2*p))) (fW B (2*p+1) (fC f A B b (2*p+1))) | none =>.bad
  | .block i c,p =>.block i (fW B (2*p) (fC f A B c (2*p)))
  | .loop c,p =>.loop (fW B (2*p) (fC f A B c (2*p)))
  | .exit i,_ =>.exit i
  | .scope c,p => fC f A B c p
  | .ret,_ =>.ret
  | .label _,_ =>.skip
  | .skip,_ =>.skip
  | _,_ =>.bad
noncomputable def fF(f:Nat)(A:r_)(B:List (Nat×aN)):bd := match O6 Tryz.prog.funcs.toList f with
  | some fn => (match fn.body with | some c => ⟨fn.ntmps,(CW Tryz.prog fn.results.toList).getD [],fC f A B c 1⟩ | none => ⟨0,[],.bad⟩)
  | none => ⟨0,[],.bad⟩
/-- the part at a place -/
noncomputable def gL:aN->Nat->aN
  | .seq a b,q => bif Nat.beq q 1 then .seq a b else bif Nat.beq (q%2) 0 then gL a (q/2)else gL b (q/2)
  | .cond x a b,q => bif Nat.beq q 1 then .cond x a b else bif Nat.beq (q%2) 0 then gL a (q/2)else gL b (q/2)
  | .block i a,q => bif Nat.beq q 1 then .block i a else gL a (q/2)
  | .loop a,q => bif Nat.beq q 1 then .loop a else gL a (q/2)
  | c,_ => c
abbrev fI(f:Nat)(A:r_)(B:List (Nat×aN))(q:Nat):aN := gL (fF f A B).body q
/-- a term in normal form -/
def aI{α:Type}(f:α){g:α}(_:f=g := by conv => lhs; reduce; try simp only [Int.reduceOfNat,Int.reduceNegSucc]):α := g
attribute [go_sem] aI
abbrev om(d a:Nat):bQ:=⟨some d,.zZ (.t a),none,0⟩
abbrev of(d f a:Nat):bQ:=⟨some d,.Hm f (.t a),none,0⟩
abbrev ol(d a:Nat):bQ:=⟨some d,.load none (.t a),none,0⟩
abbrev ox(d s a:Nat):bQ:=⟨some d,.load (some s) (.t a),none,0⟩
abbrev oo(d:Nat)(x:oF):bQ:=⟨some d,x,none,0⟩
abbrev oi(d z a b:Nat):bQ:=⟨some d,.Ie z (.t a) (.t b),none,0⟩
abbrev oc(d s f:Nat)(a:o_):bQ:=⟨some d,.call s (.k (.one (.p (.fn f [] [])))) a,none,0⟩
abbrev dm(d a n:Nat):bQ:=⟨some d,.zZ (.t a),none,n⟩
abbrev dl(d a n:Nat):bQ:=⟨some d,.load none (.t a),none,n⟩
abbrev dc(d s f:Nat)(a:o_)(n:Nat):bQ:=⟨some d,.call s (.k (.one (.p (.fn f [] [])))) a,none,n⟩
abbrev os(z a b:Nat):bQ:=⟨none,.store z (.t a) (.t b),none,0⟩
abbrev mi(d:Nat)(k:Int):bQ:=⟨some d,.zZ (.i k),none,0⟩
abbrev ot(d:Nat)(b:BinOp)(x y:Nat):bQ:=⟨some d,.bin b (.t x) (.t y),none,0⟩
abbrev oj(d:Nat)(b:BinOp)(x:Nat)(y:Int):bQ:=⟨some d,.bin b (.t x) (.i y),none,0⟩
abbrev dt(d:Nat)(b:BinOp)(x y n:Nat):bQ:=⟨some d,.bin b (.t x) (.t y),none,n⟩
abbrev oh(d a:Nat):bQ:=⟨some d,.K9 (.t a),none,0⟩
abbrev ct(a:Nat)(x y:aN):aN:=.cond (.t a) x y
abbrev rf(l:h_):aN:=.region false l
abbrev rt(l:h_):aN:=.region true l
abbrev il(k:Int):PV:=.int .i64 k
abbrev od(d:Nat)(x:oF)(n:Nat):bQ:=⟨some d,x,none,n⟩
def i34:bd := aI (fF 34 [] [])
def i39:bd := aI (fF 39 [] [])
def i67_l1:aN := aI (fI 67 [] [] 75)
def i67_r2:aN := aI (fI 67 [] [] 15)
def i67:bd := (aI (fun x0 x1 => fF 67 [] [(116,x0),(15,x1)])) i67_l1 i67_r2
def i48_l1:aN := aI (fI 48 [] [] 75)
def i48_r2:aN := aI (fI 48 [] [] 15)
def i48:bd := (aI (fun x0 x1 => fF 48 [] [(116,x0),(15,x1)])) i48_l1 i48_r2
def i49:bd := aI (fF 49 [] [])
def i93:bd := aI (fF 93 [] [])
def a124:r_ := [(212,[0,1,3,7,15,31,15,79,207,463,975,2047,4095,8191,16383,32767,65535,131071,262143,524287,1048575,2097151,4194303,8388607,16777215,33554431,67108863,134217727])]
def i124:bd := aI (fF 124 a124 [])
def i94:bd := aI (fF 94 [] [])
def a95:r_ := [(259276,[0,1,3,7,0,16,63,127,255,511,1023]),(16774348,[0,1,3,7,15,31,15,79,207,463,15,1039,4047,8143,16383,32767]),(16774350,[0,0,2,7,15,0,32,127,255,511]),(33548703,[0,0,0,4,12,28,0,0,128,384,896,0,0,0,1983,18367,55295,120831,262143,524287])]
def i95_l1:aN := aI (fI 95 a95 [] 607)
def i95_l2:aN := aI (fI 95 a95 [] 4863)
def i95_l3:aN := aI (fI 95 a95 [] 38911)
def i95_r4:aN := aI (fI 95 a95 [] 8191)
def i95_r5:aN := (aI (fun x0 x1 => fI 95 a95 [(65524,x0),(8191,x1)] 1023)) i95_l3 i95_r4
def i95_r6:aN := (aI (fun x0 x1 => fI 95 a95 [(8180,x0),(1023,x1)] 127)) i95_l2 i95_r5
def i95:bd := (aI (fun x0 x1 => fF 95 a95 [(1012,x0),(127,x1)])) i95_l1 i95_r6
def a96:r_ := [(128206,[0,1,3,7,0,16,63,127,255,255,0,1535,4095]),(4102652,[0,1,3,7,15,31,63,127,255,511,1023,2047,127,4223,12415,28799,65535,131071,262143,127,524415,2097151,4194303,8388607]),(4102655,[0,1,3,7,0,16,0,127])]
def i96_l1:aN := aI (fI 96 a96 [] 303)
def i96_r2:aN := aI (fI 96 a96 [] 63)
def i96:bd := (aI (fun x0 x1 => fF 96 a96 [(500,x0),(63,x1)])) i96_l1 i96_r2
def a97:r_ := [(126,[0,0,2,6,14,30,0,64,192,448,960,2046,4094,8191,16383]),(6,[0,1,3,7,15,31,63,0,128,384,896,1920,3968,8191,16383])]
def i97_l1:aN := aI (fI 97 a97 [] 324399)
def i97_r2:aN := aI (fI 97 a97 [] 3887)
def i97_l3:aN := (aI (fun x0 x1 => fI 97 a97 [(512828,x0),(4007,x1)] 303)) i97_l1 i97_r2
def i97_r4:aN := aI (fI 97 a97 [] 63)
def i97:bd := (aI (fun x0 x1 => fF 97 a97 [(500,x0),(63,x1)])) i97_l3 i97_r4
def i68_l1:aN := aI (fI 68 [] [] 75)
def i68_r2:aN := aI (fI 68 [] [] 15)
def i68:bd := (aI (fun x0 x1 => fF 68 [] [(116,x0),(15,x1)])) i68_l1 i68_r2
def a101:r_ := [(6,[0,1,3,7,15,31,0,64,192,448,960,63,4095]),(3770,[0,1,3,7,0,16,0,112,255,511,1023]),(1022,[0,1,3,7,0,16,63,0,255])]
def i101:bd := aI (fF 101 a101 [])
def i127:bd := aI (fF 127 [] [])
def i126:bd := aI (fF 126 [] [])
def i123:bd := aI (fF 123 [] [])
def i157_l1:aN := aI (fI 157 [] [] 37)
def i157_r2:aN := aI (fI 157 [] [] 7)
def i157:bd := (aI (fun x0 x1 => fF 157 [] [(52,x0),(7,x1)])) i157_l1 i157_r2
def a11:r_ := [(252,[0,1,3,7,15,31,63,127,255,511,1023,2047,4095,8191,16383,32767,65535,131071,262143,524287,131071,131071,2621439,7864319,16252927,33554431,67108863])]
def i11:bd := aI (fF 11 a11 [])
def i30_l1:aN := aI (fI 30 [] [] 75)
def i30_r2:aN := aI (fI 30 [] [] 15)
def i30:bd := (aI (fun x0 x1 => fF 30 [] [(116,x0),(15,x1)])) i30_l1 i30_r2
def i33:bd := aI (fF 33 [] [])
def i29_l1:aN := aI (fI 29 [] [] 75)
def i29_r2:aN := aI (fI 29 [] [] 15)
def i29:bd := (aI (fun x0 x1 => fF 29 [] [(116,x0),(15,x1)])) i29_l1 i29_r2
def i56_l1:aN := aI (fI 56 [] [] 75)
def i56_r2:aN := aI (fI 56 [] [] 15)
def i56:bd := (aI (fun x0 x1 => fF 56 [] [(116,x0),(15,x1)])) i56_l1 i56_r2
def i88_l1:aN := aI (fI 88 [] [] 75)
def i88_r2:aN := aI (fI 88 [] [] 15)
def i88:bd := (aI (fun x0 x1 => fF 88 [] [(116,x0),(15,x1)])) i88_l1 i88_r2
def a31:r_ := [(107764,[0,1,3,7,15,31,63,127,255,511,1023,2047,4095,8191,16383,32767,65535,131071,262143,524287,262143,1310719,4194303,8388607,16777215,33554431,67108863,134217727,268435455,536870911,1073741823,2147483647,1073741823,1073741823,9663676415,31138512895,68719476735,137438953471,274877906943,549755813887,1099511627775,2199023255551]),(431068,[0,1,3,7,15,31,63,127,255,511,1023,2047,4095,8191,16383,32767,65535,131071,262143,524287,1048575,2097151,4194303,8388607,16777215,33554431,16777215,83886079,218103807,536870911,1073741823,2147483647,4294967295,8589934591,17179869183,34359738367,68719476735,68719476735,206158430207,549755813887,1099511627775,2199023255551])]
def i31_l1:aN := aI (fI 31 a31 [] 19237)
def i31_r2:aN := aI (fI 31 a31 [] 3877)
def i31_r3:aN := aI (fI 31 a31 [] 229)
def i31_l4:aN := (aI (fun x0 x1 x2 => fI 31 a31 [(26932,x0),(3367,x1),(211,x2)] 37)) i31_l1 i31_r2 i31_r3
def i31_r5:aN := aI (fI 31 a31 [] 7)
def i31:bd := (aI (fun x0 x1 => fF 31 a31 [(52,x0),(7,x1)])) i31_l4 i31_r5
def i57_l1:aN := aI (fI 57 [] [] 75)
def i57_r2:aN := aI (fI 57 [] [] 15)
def i57:bd := (aI (fun x0 x1 => fF 57 [] [(116,x0),(15,x1)])) i57_l1 i57_r2
def a89:r_ := [(840,[0,0,3,7,15,31,15,127,255,511,1023,2047,4095,8191,16383,8191,65535,131071,262143,8191,532479,8191,3678207,7872511,16261119,33554431,67108863])]
def i89_l1:aN := aI (fI 89 a89 [] 37)
def i89_r2:aN := aI (fI 89 a89 [] 7)
def i89:bd := (aI (fun x0 x1 => fF 89 a89 [(52,x0),(7,x1)])) i89_l1 i89_r2
def i86:bd := aI (fF 86 [] [])
def a58:r_ := [(119392,[0,0,2,7,15,31,63,31,31,415,927,2047,4095,31,8223,31,57375,122911,262143,524287]),(7463,[0,0,3,7,0,16,63,0,0,384,1023,2047])]
def i58_l1:aN := aI (fI 58 a58 [] 17995)
def i58_r2:aN := aI (fI 58 a58 [] 7755)
def i58_r3:aN := aI (fI 58 a58 [] 459)
def i58_l4:aN := (aI (fun x0 x1 x2 => fI 58 a58 [(29848,x0),(7463,x1),(467,x2)] 75)) i58_l1 i58_r2 i58_r3
def i58_r5:aN := aI (fI 58 a58 [] 15)
def i58:bd := (aI (fun x0 x1 => fF 58 a58 [(116,x0),(15,x1)])) i58_l4 i58_r5
def i90_l1:aN := aI (fI 90 [] [] 37)
def i90_r2:aN := aI (fI 90 [] [] 7)
def i90:bd := (aI (fun x0 x1 => fF 90 [] [(52,x0),(7,x1)])) i90_l1 i90_r2
def i87:bd := aI (fF 87 [] [])
def a59:r_ := [(3754,[0,0,0,0,12,28,63,127]),(942,[0,0,0,0,12,31,63]),(8170,[0,0,0,6,0,0,48,127,255])]
def i59:bd := aI (fF 59 a59 [])
def i32_l1:aN := aI (fI 32 [] [] 153903)
def i32_r2:aN := aI (fI 32 [] [] 31023)
def i32_r3:aN := aI (fI 32 [] [] 1839)
def i32_l4:aN := (aI (fun x0 x1 x2 => fI 32 [] [(256308,x0),(32039,x1),(2003,x2)] 303)) i32_l1 i32_r2 i32_r3
def i32_r5:aN := aI (fI 32 [] [] 63)
def i32:bd := (aI (fun x0 x1 => fF 32 [] [(500,x0),(63,x1)])) i32_l4 i32_r5
def i47_l1:aN := aI (fI 47 [] [] 1215)
def i47_r2:aN := aI (fI 47 [] [] 255)
def i47:bd := (aI (fun x0 x1 => fF 47 [] [(2036,x0),(255,x1)])) i47_l1 i47_r2
def a23:r_ := [(2074219,[0,1,3,7,0,16,63,127,255,511,1023]),(129639,[0,0,2,6,14,0,32,126,255,511,1023]),(30,[0,1,0,0,8,24,56,120,0,256,0,1792,0,4096,12288,28672,65535,131071,262143])]
def i23_l1:aN := aI (fI 23 a23 [] 607)
def i23_l2:aN := aI (fI 23 a23 [] 314559)
def i23_r3:aN := aI (fI 23 a23 [] 15551)
def i23_l4:aN := (aI (fun x0 x1 => fI 23 a23 [(521420,x0),(16295,x1)] 1215)) i23_l2 i23_r3
def i23_r5:aN := aI (fI 23 a23 [] 255)
def i23_r6:aN := (aI (fun x0 x1 => fI 23 a23 [(2036,x0),(255,x1)] 127)) i23_l4 i23_r5
def i23:bd := (aI (fun x0 x1 => fF 23 a23 [(1012,x0),(127,x1)])) i23_l1 i23_r6
def i44:bd := aI (fF 44 [] [])
def i7:bd := aI (fF 7 [] [])
def a9:r_ := [(1864,[0,1,0,7,15,0,32,0,224,480,1023])]
def i9_l1:aN := aI (fI 9 a9 [] 75)
def i9_r2:aN := aI (fI 9 a9 [] 15)
def i9:bd := (aI (fun x0 x1 => fF 9 a9 [(116,x0),(15,x1)])) i9_l1 i9_r2
def a52:r_ := [(14,[0,0,2,7,0,0,63,127,255,255,511,2047])]
def i52:bd := aI (fF 52 a52 [])
def a24:r_ := [(8015054,[0,0,2,7,0,0,32,127,255,511])]
def i24_l1:aN := aI (fI 24 a24 [] 19607)
def i24_r2:aN := aI (fI 24 a24 [] 919)
def i24_l3:aN := (aI (fun x0 x1 => fI 24 a24 [(31308,x0),(979,x1)] 151)) i24_l1 i24_r2
def i24_r4:aN := aI (fI 24 a24 [] 31)
def i24:bd := (aI (fun x0 x1 => fF 24 a24 [(244,x0),(31,x1)])) i24_l3 i24_r4
def i60:bd := aI (fF 60 [] [])
def a82:r_ := [(2036,[0,0,2,7,15,31,63,127,255,511,1023,2047,4095,8191,16383,32767,65535,131071,262143,524287,1048575,524287,2621439,6815743,15204351,33554431,67108863,134217727,268435455,536870911,1073741823,2147483647,4294967295,8589934591,17179869183,8589934591,42949672959,111669149695,249108103167,8589934591,558345748479,2173253451775,4372276707327,8796093022207,17592186044415,35184372088831])]
def i82:bd := aI (fF 82 a82 [])
def i83:bd := aI (fF 83 [] [])
def i84:bd := aI (fF 84 [] [])
def a85:r_ := [(7833,[0,1,0,0,0,24,0,64,248,508,1020,2044,4092,8191,16383,32767])]
def i85_l1:aN := aI (fI 85 a85 [] 151)
def i85_r2:aN := aI (fI 85 a85 [] 31)
def i85:bd := (aI (fun x0 x1 => fF 85 a85 [(244,x0),(31,x1)])) i85_l1 i85_r2
def i50:bd := aI (fF 50 [] [])
def a51:r_ := [(262564505,[0,0,2,6,14,0,32,96,224,0,512,0,3584,8160,16352,32766,65534,131070,262143,524287])]
def i51_l1:aN := aI (fI 51 a51 [] 599)
def i51_l2:aN := aI (fI 51 a51 [] 4895535)
def i51_l3:aN := aI (fI 51 a51 [] 10400559)
def i51_r4:aN := (aI (fun x0 => fI 51 a51 [(16410300,x0)] 963375)) i51_l3
def i51_l5:aN := aI (fI 51 a51 [] 4961071)
def i51_l6:aN := aI (fI 51 a51 [] 5153731375)
def i51_r7:aN := aI (fI 51 a51 [] 254784303)
def i51_l8:aN := (aI (fun x0 x1 => fI 51 a51 [(8402105548,x0),(262565799,x1)] 19903279)) i51_l6 i51_r7
def i51_r9:aN := aI (fI 51 a51 [] 3887)
def i51_l10:aN := (aI (fun x0 x1 x2 x3 x4 => fI 51 a51 [(8205140,x0),(1025643,x1),(8205172,x2),(32820724,x3),(4007,x4)] 303)) i51_l2 i51_r4 i51_l5 i51_l8 i51_r9
def i51_r11:aN := aI (fI 51 a51 [] 63)
def i51_r12:aN := (aI (fun x0 x1 => fI 51 a51 [(500,x0),(63,x1)] 31)) i51_l10 i51_r11
def i51:bd := (aI (fun x0 x1 => fF 51 a51 [(980,x0),(31,x1)])) i51_l1 i51_r12
def i20:bd := aI (fF 20 [] [])
def i75_l1:aN := aI (fI 75 [] [] 151)
def i75_r2:aN := aI (fI 75 [] [] 31)
def i75:bd := (aI (fun x0 x1 => fF 75 [] [(244,x0),(31,x1)])) i75_l1 i75_r2
def a76:r_ := [(64030,[0,1,0,7,0,16,0,127,63,511,1023,2047]),(6,[0,1,3,7,15,31,0,64,192,448,960,63,4095])]
def i76_l1:aN := aI (fI 76 a76 [] 303)
def i76_r2:aN := aI (fI 76 a76 [] 63)
def i76:bd := (aI (fun x0 x1 => fF 76 a76 [(500,x0),(63,x1)])) i76_l1 i76_r2
def i111:bd := aI (fF 111 [] [])
def a112:r_ := [(14,[0,1,3,7,0,31,63,0,128,384,896,0,3968,8064,0,0,49279,131071])]
def i112:bd := aI (fF 112 a112 [])
def Ue:r_ := [(261427,[0,0,0,0,0,0,48,112,0,0,768,1792,4083,8179,16383,32767]),(60,[0,1,3,7,15,31,63,127,127,511,1023,2047,4095,8191,16383,32767,4095,131071,262143,524287,1048575,4095,2101247,6295551,14684159,4095,65015807,132124671,266342399,534777855,1073741823,2147483647,4294967295,8589934591,8589934591,25769803775,8589934591,77309411327,266287972351,549755813887,1099511627775,2199023255551]),(62,[0,1,3,7,0,31,63,127,255,0,512,1536,3584,0,15872,32256,65024,130560,511,524287])]
def i114_l1:aN := aI (fI 114 Ue [] 2431)
def i114_r2:aN := aI (fI 114 Ue [] 511)
def i114:bd := (aI (fun x0 x1 => fF 114 Ue [(4084,x0),(511,x1)])) i114_l1 i114_r2
def a115:r_ := [(28,[0,1,3,7,0,31,63,127,255,511,1023,2047,4095,8191,16383,2047,65535,131071,262143,524287,1048575,2097151,4194303,8388607,16777215,33554431,67108863,8388607,268435455,536870911,1073741823,2147483647,8388607,4303355903,12893290495,30073159679,8388607,133152374783,270591328255,545469235199,1095225049087,2199023255551,4398046511103]),(30,[0,1,3,7,0,16,48,112,0,496,1008,2032,4080,8176,16383,32767,65535])]
def i115:bd := aI (fF 115 a115 [])
def a117:r_ := [(126,[0,1,3,7,0,31,63,127,255,0,512,1536,3584,0,15872,32256,65024,130560,511,524287]),(1020,[0,1,3,0,15,0,32,127,255,511,1023,2047,511,8191,511,16895,65535,131071,262143,524287,524287,1572863,524287,4718591,16252927,33554431,67108863,134217727])]
def i117:bd := aI (fF 117 a117 [])
def a119:r_ := [(256414,[0,0,2,6,14,0,62,126,254,510,0,1024,3072,7168,0,31744,64512,130048,261120,524286,1048575,2097151])]
def i119_l1:aN := aI (fI 119 a119 [] 303)
def i119_r2:aN := aI (fI 119 a119 [] 63)
def i119:bd := (aI (fun x0 x1 => fF 119 a119 [(500,x0),(63,x1)])) i119_l1 i119_r2
def i121_l1:aN := aI (fI 121 [] [] 37)
def i121_r2:aN := aI (fI 121 [] [] 7)
def i121:bd := (aI (fun x0 x1 => fF 121 [] [(52,x0),(7,x1)])) i121_l1 i121_r2
def i122:bd := aI (fF 122 [] [])
def i77_l1:aN := aI (fI 77 [] [] 37)
def i77_r2:aN := aI (fI 77 [] [] 7)
def i77:bd := (aI (fun x0 x1 => fF 77 [] [(52,x0),(7,x1)])) i77_l1 i77_r2
def a81:r_ := [(16043982,[0,1,3,0,8,24,7,71,255,511]),(15666,[0,1,3,7,0,16,48,112,0,256,0,1792,4080,8176,16383,32767,0,131071])]
def i81_l1:aN := aI (fI 81 a81 [] 309655)
def i81_r2:aN := aI (fI 81 a81 [] 63895)
def i81_r3:aN := aI (fI 81 a81 [] 1943)
def i81_l4:aN := (aI (fun x0 x1 x2 => fI 81 a81 [(501364,x0),(62671,x1),(1959,x2)] 151)) i81_l1 i81_r2 i81_r3
def i81_r5:aN := aI (fI 81 a81 [] 31)
def i81:bd := (aI (fun x0 x1 => fF 81 a81 [(244,x0),(31,x1)])) i81_l4 i81_r5
def a40:r_ := [(28,[0,1,3,7,15,0,32,127,255,0])]
def i40_l1:aN := aI (fI 40 a40 [] 40139)
def i40_r2:aN := aI (fI 40 a40 [] 971)
def i40_l3:aN := (aI (fun x0 x1 => fI 40 a40 [(59804,x0),(935,x1)] 75)) i40_l1 i40_r2
def i40_r4:aN := aI (fI 40 a40 [] 15)
def i40:bd := (aI (fun x0 x1 => fF 40 a40 [(116,x0),(15,x1)])) i40_l3 i40_r4
def a102:r_ := [(14,[0,1,3,7,15,0,32,96,224,0,992,2016,4095,8191,0,16384,49152,114688,245760,0,524288,1572864,3670016,0,8388608,0,58720256,133693440,267911168,536854528,1073725440,0,0,6442467327,17179869183]),(1020,[0,1,0,4,12,28,60,127])]
def i102:bd := aI (fF 102 a102 [])
def aa5:r_ := [(100,[0,0,0,0,0,0,48,112,0,0,768,1792,4083,8179,16383,32767])]
def i103_l1:aN := aI (fI 103 aa5 [] 9)
def i103:bd := (aI (fun x0 => fF 103 aa5 [(12,x0)])) i103_l1
def aa6:r_ := [(100,[0,0,0,0,0,0,48,112,0,0,768,1792,4083,8179,16383,32767])]
def i104_l1:aN := aI (fI 104 aa6 [] 9)
def i104:bd := (aI (fun x0 => fF 104 aa6 [(12,x0)])) i104_l1
def a142:r_ := [(6,[0,0,2,0,8,24,56,120,254,1,1023])]
def i142:bd := aI (fF 142 a142 [])
def i143_l1:aN := aI (fI 143 [] [] 75)
def i143_r2:aN := aI (fI 143 [] [] 15)
def i143:bd := (aI (fun x0 x1 => fF 143 [] [(116,x0),(15,x1)])) i143_l1 i143_r2
def i145_l1:aN := aI (fI 145 [] [] 9)
def i145:bd := (aI (fun x0 => fF 145 [] [(12,x0)])) i145_l1
def i144:bd := aI (fF 144 [] [])
def i147:bd := aI (fF 147 [] [])
def a149:r_ := [(30,[0,0,0,4,12,28,0,124,252,508,1020,2044,4092,8188,16380,32764,65532,8188,262140,524284,1048572,2097148,4194300,8388604,8189,16785407,67108863])]
def i149:bd := aI (fF 149 a149 [])
def a150:r_ := [(6,[0,1,3,7,0,16,48,112,255,511,0,1024,3072,7168,0,16384,49152,114688,245760,523264,1047552,2097151,0,8388607,16777215])]
def i150:bd := aI (fF 150 a150 [])
def i151_l1:aN := aI (fI 151 [] [] 40139)
def i151_r2:aN := aI (fI 151 [] [] 971)
def i151_l3:aN := (aI (fun x0 x1 => fI 151 [] [(59804,x0),(935,x1)] 75)) i151_l1 i151_r2
def i151_r4:aN := aI (fI 151 [] [] 15)
def i151:bd := (aI (fun x0 x1 => fF 151 [] [(116,x0),(15,x1)])) i151_l3 i151_r4
def i153:bd := aI (fF 153 [] [])
def i107:bd := aI (fF 107 [] [])
def Jo:r_ := [(1910088,[0,0,3,7,0,0,32,112,240,511]),(1864,[0,0,3,7,0,0,32,112,240,511])]
def i155_l1:aN := aI (fI 155 Jo [] 76363)
def i155_r2:aN := aI (fI 155 Jo [] 14923)
def i155_r3:aN := aI (fI 155 Jo [] 459)
def i155_l4:aN := (aI (fun x0 x1 x2 => fI 155 Jo [(119380,x0),(14923,x1),(467,x2)] 75)) i155_l1 i155_r2 i155_r3
def i155_r5:aN := aI (fI 155 Jo [] 15)
def i155:bd := (aI (fun x0 x1 => fF 155 Jo [(116,x0),(15,x1)])) i155_l4 i155_r5
def a156:r_ := [(7475,[0,0,0,0,0,0,48,112,0,0,768,1792,4083,8179,16383,32767])]
def i156_l1:aN := aI (fI 156 a156 [] 75)
def i156_r2:aN := aI (fI 156 a156 [] 15)
def i156:bd := (aI (fun x0 x1 => fF 156 a156 [(116,x0),(15,x1)])) i156_l1 i156_r2
def i108:bd := aI (fF 108 [] [])
def i109:bd := aI (fF 109 [] [])
def i110:bd := aI (fF 110 [] [])
def i69_l1:aN := aI (fI 69 [] [] 151)
def i69_r2:aN := aI (fI 69 [] [] 31)
def i69:bd := (aI (fun x0 x1 => fF 69 [] [(244,x0),(31,x1)])) i69_l1 i69_r2
def a71:r_ := [(6,[0,0,3,7,0,0,48,127,255])]
def i71:bd := aI (fF 71 a71 [])
def i70_l1:aN := aI (fI 70 [] [] 151)
def i70_r2:aN := aI (fI 70 [] [] 31)
def i70:bd := (aI (fun x0 x1 => fF 70 [] [(244,x0),(31,x1)])) i70_l1 i70_r2
def a72:r_ := [(6756,[0,0,3,7,0,0,48,112,255]),(6758,[0,0,3,7,0,0,48,112,255,511])]
def i72_l1:aN := aI (fI 72 a72 [] 37)
def i72_r2:aN := aI (fI 72 a72 [] 7)
def i72:bd := (aI (fun x0 x1 => fF 72 a72 [(52,x0),(7,x1)])) i72_l1 i72_r2
def i128_l1:aN := aI (fI 128 [] [] 17)
def i128_r2:aN := aI (fI 128 [] [] 7)
def i128:bd := (aI (fun x0 x1 => fF 128 [] [(24,x0),(7,x1)])) i128_l1 i128_r2
def i185:bd := aI (fF 185 [] [])
def i186_l1:aN := aI (fI 186 [] [] 154007)
def i186_r2:aN := aI (fI 186 [] [] 31127)
def i186_r3:aN := aI (fI 186 [] [] 1943)
def i186_l4:aN := (aI (fun x0 x1 x2 => fI 186 [] [(250676,x0),(31335,x1),(1959,x2)] 151)) i186_l1 i186_r2 i186_r3
def i186_r5:aN := aI (fI 186 [] [] 31)
def i186:bd := (aI (fun x0 x1 => fF 186 [] [(244,x0),(31,x1)])) i186_l4 i186_r5
def i187:bd := aI (fF 187 [] [])
def a139:r_ := [(29180,[0,1,3,7,7,23,63,127,7,7,775,1799,4095,8191,16383])]
def i139_l1:aN := aI (fI 139 a139 [] 19)
def i139:bd := (aI (fun x0 => fF 139 a139 [(28,x0)])) i139_l1
def Uf:r_ := [(3378,[0,0,0,6,14,31])]
def i140_l1:aN := aI (fI 140 Uf [] 37)
def i140_r2:aN := aI (fI 140 Uf [] 7)
def i140:bd := (aI (fun x0 x1 => fF 140 Uf [(52,x0),(7,x1)])) i140_l1 i140_r2
def a141:r_ := [(29180,[0,1,3,7,7,7,39,119,247,7,7,1543,3591,8191,16383,32767,65535])]
def i141_l1:aN := aI (fI 141 a141 [] 19)
def i141:bd := (aI (fun x0 => fF 141 a141 [(28,x0)])) i141_l1
def a98:r_ := [(100,[0,0,0,0,0,0,48,112,0,0,768,1792,4083,8179,16383,32767])]
def i98_l1:aN := aI (fI 98 a98 [] 9)
def i98:bd := (aI (fun x0 => fF 98 a98 [(12,x0)])) i98_l1
def i99:bd := aI (fF 99 [] [])
def i201_l1:aN := aI (fI 201 [] [] 37)
def i201_r2:aN := aI (fI 201 [] [] 7)
def i201:bd := (aI (fun x0 x1 => fF 201 [] [(52,x0),(7,x1)])) i201_l1 i201_r2
def i188:bd := aI (fF 188 [] [])
def a167:r_ := [(3216,[0,0,3,7,15,15,63,127,15,15,527,1807,3855,8191,16383]),(6436,[0,0,0,0,8,0,0,64,224,480,0,0,3072,7168,16355,32739,65535,131071])]
def i167_l1:aN := aI (fI 167 a167 [] 585)
def i167_r2:aN := aI (fI 167 a167 [] 57)
def i167_l3:aN := (aI (fun x0 x1 => fI 167 a167 [(804,x0),(51,x1)] 9)) i167_l1 i167_r2
def i167:bd := (aI (fun x0 => fF 167 a167 [(12,x0)])) i167_l3
def i173:bd := aI (fF 173 [] [])
def Qh:r_ := [(3216,[0,0,3,7,15,15,15,111,239,15,15,1039,3599,7695,16383,32767,65535]),(6436,[0,0,0,0,8,0,0,64,224,480,0,0,3072,7168,16355,32739,65535,131071])]
def i176_l1:aN := aI (fI 176 Qh [] 585)
def i176_r2:aN := aI (fI 176 Qh [] 57)
def i176_l3:aN := (aI (fun x0 x1 => fI 176 Qh [(804,x0),(51,x1)] 9)) i176_l1 i176_r2
def i176:bd := (aI (fun x0 => fF 176 Qh [(12,x0)])) i176_l3
def i202_l1:aN := aI (fI 202 [] [] 37)
def i202_r2:aN := aI (fI 202 [] [] 7)
def i202:bd := (aI (fun x0 x1 => fF 202 [] [(52,x0),(7,x1)])) i202_l1 i202_r2
def i197:bd := aI (fF 197 [] [])
def a3:r_ := [(1022,[0,1,3,7,15,31,63,127,255,511,1023,2047,4095,8191,16383,32767,65535,32767,163839,524287,1048575,2097151,4194303,8388607,4194303,4194303,37748735,121634815,255852543,536870911,1073741823,2147483647,4294967295,8589934591,17179869183])]
def i3_l1:aN := aI (fI 3 a3 [] 607)
def i3_r2:aN := aI (fI 3 a3 [] 127)
def i3:bd := (aI (fun x0 x1 => fF 3 a3 [(1012,x0),(127,x1)])) i3_l1 i3_r2
end Go.Abs
end
namespace Go.Abs
open Go.Proofs
def Gg:a_->Nat->Bool
 |[],_=>false
 |a::r,n=>bif Nat.beq a n then true else Gg r n
def ag4:r_->Nat->a_
 |[],_=>[]
 |(a,l)::r,n=>bif Nat.beq a n then l else ag4 r n
def avs:a_:=[21,26,43,46,68,76,78,80,95,96,98,103,104,105,107,109,128,129,130,131,132,133,134,135,136,139,141,145,154,155,162,164,165,166,167,168,169,170,171,172,174,175,176,177,178,179,180,181,182,183,193,194,195,196,198,199,200,205,206]
def awc:r_:=[(21,[21,43,46,26]),(26,[26]),(43,[43]),(46,[46]),(68,[68,95,96]),(76,[76,103,104]),(78,[78,105,129,130,131,132,133,134,135,136,162,164,165,166,193]),(80,[80]),(95,[95]),(96,[96]),(98,[98]),(103,[103]),(104,[104]),(105,[105,129,130,131,132,133,134,135,136,162,164,165,166,193]),(107,[107,139,164,167,168,169,170,171,172,174,175,194,195,196,205]),(109,[109,141,164,176,177,178,179,180,181,182,183,198,199,200,206]),(128,[128]),(129,[129]),(130,[130,162]),(131,[131,164]),(132,[132,165,166,193]),(133,[133]),(134,[134]),(135,[135]),(136,[136]),(139,[139,164,167,168,169,170,171,172,174,175,194,195,196,205]),(141,[141,164,176,177,178,179,180,181,182,183,198,199,200,206]),(145,[145]),(154,[154]),(155,[155]),(162,[162]),(164,[164]),(165,[165,166,193]),(166,[166,193]),(167,[167]),(168,[168,194]),(169,[164,169]),(170,[170,195,196,205]),(171,[171]),(172,[172]),(174,[174]),(175,[175]),(176,[176]),(177,[177,198]),(178,[164,178]),(179,[179,199,200,206]),(180,[180]),(181,[181]),(182,[182]),(183,[183]),(193,[193]),(194,[194]),(195,[195,196,205]),(196,[196,205]),(198,[198]),(199,[199,200,206]),(200,[200,206]),(205,[205]),(206,[206])]
def ag3:a_:=[40,3]
def Zu(f:Nat)(args:e_):Option (Option RV):=
 bif Nat.beq f 73 then some (S1 args)
 else bif Nat.beq f 106 then some (Ph args)
 else bif Gg [60,147] f then SY args
 else bif Nat.beq f 45 then SZ args
 else none
noncomputable def S:Sys:={P:=Tryz.prog,shared:=Gg avs,sites:=ag4 awc,lone:=fun s=>Gg ag3 (s/64000000),fns:=DG Tryz.prog,prim:=Zu}
abbrev dh(n:Nat):Prop:=S.shared n=false
def c34:S.fns 34=some i34:=ah
def s34:dh 34:=rfl
def c39:S.fns 39=some i39:=ah
def s39:dh 39:=rfl
def c67:S.fns 67=some i67:=ah
def s67:dh 67:=rfl
def c48:S.fns 48=some i48:=ah
def s48:dh 48:=rfl
def c49:S.fns 49=some i49:=ah
def s49:dh 49:=rfl
def c93:S.fns 93=some i93:=ah
def s93:dh 93:=rfl
def c124:S.fns 124=some i124:=ah
def s124:dh 124:=rfl
def c94:S.fns 94=some i94:=ah
def s94:dh 94:=rfl
def c95:S.fns 95=some i95:=ah
def c96:S.fns 96=some i96:=ah
def c97:S.fns 97=some i97:=ah
def s97:dh 97:=rfl
def c68:S.fns 68=some i68:=ah
def c101:S.fns 101=some i101:=ah
def s101:dh 101:=rfl
def c127:S.fns 127=some i127:=ah
def s127:dh 127:=rfl
def c126:S.fns 126=some i126:=ah
def s126:dh 126:=rfl
def c123:S.fns 123=some i123:=ah
def s123:dh 123:=rfl
def c157:S.fns 157=some i157:=ah
def s157:dh 157:=rfl
def c11:S.fns 11=some i11:=ah
def s11:dh 11:=rfl
def c30:S.fns 30=some i30:=ah
def s30:dh 30:=rfl
def c33:S.fns 33=some i33:=ah
def s33:dh 33:=rfl
def c29:S.fns 29=some i29:=ah
def s29:dh 29:=rfl
def c56:S.fns 56=some i56:=ah
def s56:dh 56:=rfl
def c88:S.fns 88=some i88:=ah
def s88:dh 88:=rfl
def c31:S.fns 31=some i31:=ah
def s31:dh 31:=rfl
def c57:S.fns 57=some i57:=ah
def s57:dh 57:=rfl
def c89:S.fns 89=some i89:=ah
def s89:dh 89:=rfl
def c86:S.fns 86=some i86:=ah
def s86:dh 86:=rfl
def c58:S.fns 58=some i58:=ah
def s58:dh 58:=rfl
def c90:S.fns 90=some i90:=ah
def s90:dh 90:=rfl
def c87:S.fns 87=some i87:=ah
def s87:dh 87:=rfl
def c59:S.fns 59=some i59:=ah
def s59:dh 59:=rfl
def c32:S.fns 32=some i32:=ah
def s32:dh 32:=rfl
def c47:S.fns 47=some i47:=ah
def s47:dh 47:=rfl
def c23:S.fns 23=some i23:=ah
def s23:dh 23:=rfl
def c44:S.fns 44=some i44:=ah
def s44:dh 44:=rfl
def c7:S.fns 7=some i7:=ah
def s7:dh 7:=rfl
def c9:S.fns 9=some i9:=ah
def s9:dh 9:=rfl
def c52:S.fns 52=some i52:=ah
def s52:dh 52:=rfl
def c24:S.fns 24=some i24:=ah
def s24:dh 24:=rfl
def c60:S.fns 60=some i60:=ah
def s60:dh 60:=rfl
def c82:S.fns 82=some i82:=ah
def s82:dh 82:=rfl
def c83:S.fns 83=some i83:=ah
def s83:dh 83:=rfl
def c84:S.fns 84=some i84:=ah
def s84:dh 84:=rfl
def c85:S.fns 85=some i85:=ah
def s85:dh 85:=rfl
def c50:S.fns 50=some i50:=ah
def s50:dh 50:=rfl
def c51:S.fns 51=some i51:=ah
def s51:dh 51:=rfl
def c20:S.fns 20=some i20:=ah
def s20:dh 20:=rfl
def c75:S.fns 75=some i75:=ah
def s75:dh 75:=rfl
def c76:S.fns 76=some i76:=ah
def c111:S.fns 111=some i111:=ah
def s111:dh 111:=rfl
def c112:S.fns 112=some i112:=ah
def c114:S.fns 114=some i114:=ah
def c115:S.fns 115=some i115:=ah
def c117:S.fns 117=some i117:=ah
def c119:S.fns 119=some i119:=ah
def c121:S.fns 121=some i121:=ah
def s121:dh 121:=rfl
def c122:S.fns 122=some i122:=ah
def s122:dh 122:=rfl
def c77:S.fns 77=some i77:=ah
def s77:dh 77:=rfl
def c81:S.fns 81=some i81:=ah
def s81:dh 81:=rfl
def c40:S.fns 40=some i40:=ah
def s40:dh 40:=rfl
def c102:S.fns 102=some i102:=ah
def s102:dh 102:=rfl
def c103:S.fns 103=some i103:=ah
def c104:S.fns 104=some i104:=ah
def c142:S.fns 142=some i142:=ah
def s142:dh 142:=rfl
def c143:S.fns 143=some i143:=ah
def s143:dh 143:=rfl
def c145:S.fns 145=some i145:=ah
def c144:S.fns 144=some i144:=ah
def s144:dh 144:=rfl
def c147:S.fns 147=some i147:=ah
def s147:dh 147:=rfl
def c149:S.fns 149=some i149:=ah
def s149:dh 149:=rfl
def c150:S.fns 150=some i150:=ah
def s150:dh 150:=rfl
def c151:S.fns 151=some i151:=ah
def s151:dh 151:=rfl
def c153:S.fns 153=some i153:=ah
def s153:dh 153:=rfl
def c107:S.fns 107=some i107:=ah
def c155:S.fns 155=some i155:=ah
def c156:S.fns 156=some i156:=ah
def s156:dh 156:=rfl
def c108:S.fns 108=some i108:=ah
def c109:S.fns 109=some i109:=ah
def c110:S.fns 110=some i110:=ah
def c69:S.fns 69=some i69:=ah
def s69:dh 69:=rfl
def c71:S.fns 71=some i71:=ah
def s71:dh 71:=rfl
def c70:S.fns 70=some i70:=ah
def s70:dh 70:=rfl
def c72:S.fns 72=some i72:=ah
def s72:dh 72:=rfl
def c128:S.fns 128=some i128:=ah
def c185:S.fns 185=some i185:=ah
def s185:dh 185:=rfl
def c186:S.fns 186=some i186:=ah
def s186:dh 186:=rfl
def c187:S.fns 187=some i187:=ah
def s187:dh 187:=rfl
def c139:S.fns 139=some i139:=ah
def s139:S.shared 139=true:=ah
def c140:S.fns 140=some i140:=ah
def s140:dh 140:=rfl
def c141:S.fns 141=some i141:=ah
def s141:S.shared 141=true:=ah
def c98:S.fns 98=some i98:=ah
def s98:S.shared 98=true:=ah
def c99:S.fns 99=some i99:=ah
def s99:dh 99:=rfl
def c201:S.fns 201=some i201:=ah
def s201:dh 201:=rfl
def c188:S.fns 188=some i188:=ah
def s188:dh 188:=rfl
def c167:S.fns 167=some i167:=ah
def s167:S.shared 167=true:=ah
def c173:S.fns 173=some i173:=ah
def s173:dh 173:=rfl
def c176:S.fns 176=some i176:=ah
def s176:S.shared 176=true:=ah
def c202:S.fns 202=some i202:=ah
def s202:dh 202:=rfl
def c197:S.fns 197=some i197:=ah
def s197:dh 197:=rfl
def c3:S.fns 3=some i3:=ah
def s3:dh 3:=rfl
end Go.Abs
namespace Go.Abs
noncomputable section
def a46:r_ := [(3,[0,0,2,6,14,0,32,126,255,511,1023])]
def i46:bd := aI (fF 46 a46 [])
def a43:r_ := [(12,[0,1,3,7,0,16,48,112,240,511]),(30,[0,1,3,7,0,16,48,112,240,511,1023,2047,4095])]
def i43:bd := aI (fF 43 a43 [])
def i42_l1:aN:=(.seq (rf [ot 14 .lss 13 12]) (.seq (ct 14 .skip (.exit 0)) (.seq (.block 1 (.seq (rf [oi 15 6 11 13,ox 16 6 15,oo 5 (.alloc 2688256128 [il 0,il 0,il 0,il 0,il 0,.bool false]),os 6 5 16]) (rf [om 17 3,ox 18 6 5,oc 19 2688320128 74 [.t 18],oo 20 (.bin .add (.k (.one (.p (.str ⟨#[32]⟩)))) (.t 19)),ot 21 .add 17 20,om 3 21]))) (rf [oj 22 .add 13 1,om 13 22]))))
def i42_r2:aN:=(.seq (rf [om 23 3,om 2 23]) .ret)
def i42:bd:=⟨24,[(2,none)],(.seq (rf [oo 1 (.box 2688000000 (.t 0)),oo 2 (.zZ (.k (.one (.p (.str ⟨#[]⟩)))))]) (.seq (rf [of 6 0 1,ol 7 6,oc 8 2688064128 73 [.t 7],oo 9 (.bin .add (.t 8) (.k (.one (.p (.str ⟨#[58]⟩))))),om 3 9]) (.seq (.seq (rf [of 10 1 1,ol 11 10,oh 12 11,mi 13 0]) (.block 0 (.loop i42_l1))) i42_r2)))⟩
def i74:bd:=⟨40,[(2,none)],(.seq (rf [oo 1 (.box 4736000000 (.t 0)),oo 2 (.zZ (.k (.one (.p (.str ⟨#[]⟩)))))]) (.seq (.seq (rf [of 4 0 1,ol 5 4]) (.block 0 (.seq (rf [oj 7 .eql 5 1,om 6 7]) (ct 6 (.seq (rt [of 8 1 1,dl 9 8 1,dc 10 4736192128 73 [.t 9] 3,od 11 (.bin .add (.t 10) (.k (.one (.p (.str ⟨#[46]⟩))))) 7,of 12 2 1,dl 13 12 16,dc 14 4736192384 73 [.t 13] 55,dt 15 .add 11 14 127,dm 2 15 255]) .ret) (.seq (rf [oj 17 .eql 5 2,om 16 17]) (ct 16 (.seq (rf [of 18 3 1,ol 19 18,oc 20 4736320128 73 [.t 19],oo 21 (.bin .add (.t 20) (.k (.one (.p (.str ⟨#[117]⟩))))),om 3 21]) (.seq (.seq (rf [of 22 5 1,ol 23 22]) (ct 23 (rf [of 24 3 1,ol 25 24,oc 26 4736448128 73 [.t 25],oo 27 (.bin .add (.t 26) (.k (.one (.p (.str ⟨#[111]⟩))))),om 3 27]) .skip)) (.seq (.seq (rf [of 28 4 1,ol 29 28]) (.block 1 (.seq (rf [oj 31 .eql 29 1,om 30 31]) (ct 30 (.seq (rf [om 32 3, oo 33 (.bin .add (.t 32) (.k (.one (.p (.str ⟨#[43]⟩))))),om 2 33]) .ret) (.seq (rf [oo 35 (.bin .eql (.t 29) (.i (-1))),om 34 35]) (ct 34 (.seq (rf [om 36 3,oo 37 (.bin .add (.t 36) (.k (.one (.p (.str ⟨#[45]⟩))))),om 2 37]) .ret) .skip)))))) (.seq (rf [om 38 3,oo 39 (.bin .add (.t 38) (.k (.one (.p (.str ⟨#[63]⟩))))),om 2 39]) .ret)))) .skip)))))) (.seq (rf [oo 2 (.zZ (.k (.one (.p (.str ⟨#[63]⟩)))))]) .ret)))⟩
def i6_l1:aN := aI (fI 6 [] [] 607)
def i6_r2:aN := aI (fI 6 [] [] 127)
def i6:bd := (aI (fun x0 x1 => fF 6 [] [(1012,x0),(127,x1)])) i6_l1 i6_r2
def i22:bd := aI (fF 22 [] [])
def a28:r_ := [(14950,[0,1,0,4,15,0,32,0,128,480,0,1024,0,4096,15360,0,32768,0,131072,491520,0,1048576,3145728,0,8388608,32505856,66060288,0,134217728,0,536870912,2013265920,4294967295,8589934591,17179869183]),(12,[0,1,0,4,15,0,32,0,224,480,0,1024,3072,0,8192,24576,64512,131071,262143,524287])]
def i28_l1:aN := aI (fI 28 a28 [] 75)
def i28_r2:aN := aI (fI 28 a28 [] 15)
def i28:bd := (aI (fun x0 x1 => fF 28 a28 [(116,x0),(15,x1)])) i28_l1 i28_r2
def a10:r_ := [(7474,[0,1,3,7,7,7,55,119,255,511,1023])]
def i10_l1:aN := aI (fI 10 a10 [] 75)
def i10_r2:aN := aI (fI 10 a10 [] 15)
def i10:bd := (aI (fun x0 x1 => fF 10 a10 [(116,x0),(15,x1)])) i10_l1 i10_r2
def a8:r_ := [(254974,[0,1,0,4,0,16,60,0,15,383,895,1919,4095,8191])]
def i8_l1:aN := aI (fI 8 a8 [] 311183)
def i8_r2:aN := aI (fI 8 a8 [] 65423)
def i8_l3:aN := (aI (fun x0 x1 => fI 8 a8 [(509940,x0),(63743,x1)] 79)) i8_l1 i8_r2
def i8:bd := (aI (fun x0 => fF 8 a8 [(124,x0)])) i8_l3
def i26:bd := aI (fF 26 [] [])
def a21:r_ := [(8265318,[0,0,2,6,0,16,62,127,0,511])]
def i21_l1:aN := aI (fI 21 a21 [] 40479)
def i21_l2:aN := (aI (fun x0 => fI 21 a21 [(64572,x0)] 287)) i21_l1
def i21_r3:aN := aI (fI 21 a21 [] 127)
def i21:bd := (aI (fun x0 x1 => fF 21 a21 [(504,x0),(127,x1)])) i21_l2 i21_r3
def i54_l1:aN := aI (fI 54 [] [] 75)
def i54_r2:aN := aI (fI 54 [] [] 15)
def i54:bd := (aI (fun x0 x1 => fF 54 [] [(116,x0),(15,x1)])) i54_l1 i54_r2
def i19:bd := aI (fF 19 [] [])
def i41:bd := aI (fF 41 [] [])
def i55:bd := aI (fF 55 [] [])
def i53_l1:aN := aI (fI 53 [] [] 37)
def i53_r2:aN := aI (fI 53 [] [] 7)
def i53:bd := (aI (fun x0 x1 => fF 53 [] [(52,x0),(7,x1)])) i53_l1 i53_r2
def i25_l1:aN := aI (fI 25 [] [] 75)
def i25_r2:aN := aI (fI 25 [] [] 15)
def i25:bd := (aI (fun x0 x1 => fF 25 [] [(116,x0),(15,x1)])) i25_l1 i25_r2
def i27:bd := aI (fF 27 [] [])
def i4:bd := aI (fF 4 [] [])
def i45:bd := aI (fF 45 [] [])
end
def c46:S.fns 46=some i46:=ah
def s46 : S.shared 46 = true :=ah
def c43:S.fns 43=some i43:=ah
def s43 : S.shared 43 = true :=ah
def c42:S.fns 42=some i42:=ah
def s42:dh 42:=rfl
def c74:S.fns 74=some i74:=ah
def s74:dh 74:=rfl
def c6:S.fns 6=some i6:=ah
def s6:dh 6:=rfl
def c22:S.fns 22=some i22:=ah
def s22:dh 22:=rfl
def c28:S.fns 28=some i28:=ah
def s28:dh 28:=rfl
def s15:dh 15:=rfl
def c10:S.fns 10=some i10:=ah
def s10:dh 10:=rfl
def c8:S.fns 8=some i8:=ah
def s8:dh 8:=rfl
def c26:S.fns 26=some i26:=ah
def s26 : S.shared 26 = true :=ah
def c21:S.fns 21=some i21:=ah
def s21 : S.shared 21 = true :=ah
def s35:dh 35:=rfl
def c54:S.fns 54=some i54:=ah
def s54:dh 54:=rfl
def c19:S.fns 19=some i19:=ah
def s19:dh 19:=rfl
def c41:S.fns 41=some i41:=ah
def s41:dh 41:=rfl
def c55:S.fns 55=some i55:=ah
def s55:dh 55:=rfl
def c53:S.fns 53=some i53:=ah
def s53:dh 53:=rfl
def c25:S.fns 25=some i25:=ah
def s25:dh 25:=rfl
def c27:S.fns 27=some i27:=ah
def s27:dh 27:=rfl
def s5:dh 5:=rfl
def c4:S.fns 4=some i4:=ah
def s4:dh 4:=rfl
def c45:S.fns 45=some i45:=ah
def s45:dh 45:=rfl
end Go.Abs
