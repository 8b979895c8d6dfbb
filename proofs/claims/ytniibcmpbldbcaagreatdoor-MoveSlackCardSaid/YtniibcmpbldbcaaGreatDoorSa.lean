/-
  The program as a system of the abstract machine.
-/
import Derived.Test.YtniibcmpbldbcaaGreatDoorMf
import Derived.Test.YtniibcmpbldbcaaGreatDoorProg
import Derived.Test.YtniibcmpbldbcaaGreatDoorMd
set_option linter.all false
set_option maxRecDepth 100000
noncomputable section
namespace Go.Abs
open Go.Proofs
def MU{α:Type}:List α->Nat->Option α
  | [],_ => none
  | a::l,n => match n with | 0 => some a | n+1 => MU l n
def lkN{α:Type}:List (Nat×α)->Nat->Option α
  | [],_ => none
  | (k,a)::l,n => bif Nat.beq k n then some a else lkN l n
noncomputable def fB(s:Nat)(o:Oper):oR := match o.op with
  | .build t ps => (match Tryz.prog.underlying t,Ac Tryz.prog t with | some (.struct fs),some z => ((CL (fun i => (MU fs.toList i).map fun f => (f.offset,Tryz.prog.cellsOf f.type)) z.length ps.toList).map (.build z)).getD .bad | _,_ => HR Tryz.prog s o)
  | .binOp op t x y _ => (match Tryz.prog.underlying t,cn x,cn y with | some (.struct fs),some a,some b =>.eqc (.str (fs.toList.map fun f => (Qa Tryz.prog f.type).getD false)) (match op with | .neq => true | _ => false) a b | _,_,_ => HR Tryz.prog s o)
  | _ => HR Tryz.prog s o
noncomputable def fOp(ops:List Oper)(b:List Nat)(s i:Nat)(o:Oper):ch := ⟨o.dst,fB ((s+i)*64) o,(match o.guard with | none => none | some (j,w) => (match MU ops j with | some x => (match x.dst with | some t => some (t,w) | none => none) | none => none)),(MU b i).getD 0⟩
noncomputable def TO(ops:List Oper)(b:List Nat)(s:Nat):Nat->List Oper->List ch
  | _,[] => []
  | i,o::r => fOp ops b s i o::TO ops b s (i+1) r
abbrev fW(B:List (Nat×aL))(p:Nat)(y:aL):aL := match lkN B p with | some x => x | none => y
/-- the code of a function: at some places something else stands; at a drawn region the lists of what comes before each operation are given -/
noncomputable def fC(f:Nat)(A:List (Nat×List Nat))(B:List (Nat×aL)):Code->Nat->aL
  | .region id ops draw,p => bif draw then .region true (TO ops.toList ((lkN A p).getD []) ((f*1000+id)*1000) 0 ops.toList) else .region false (TO ops.toList [] ((f*1000+id)*1000) 0 ops.toList)
  | .seq a b,p =>.seq (fW B (2*p) (fC f A B a (2*p))) (fW B (2*p+1) (fC f A B b (2*p+1)))
  | .cond c a b,p => match cn c with | some c =>.cond c (fW B (2*p) (fC f A B a (2*p))) (fW B (2*p+1) (fC f A B b (2*p+1))) | none =>.bad
  | .block i c,p =>.block i (fW B (2*p) (fC f A B c (2*p)))
  | .loop c,p =>.loop (fW B (2*p) (fC f A B c (2*p)))
  | .exit i,_ =>.exit i
  | .scope c,p => fC f A B c p
  | .ret,_ =>.ret
  | .label _,_ =>.skip
  | .skip,_ =>.skip
  | _,_ =>.bad
noncomputable def fF(f:Nat)(A:List (Nat×List Nat))(B:List (Nat×aL)):aX := match MU Tryz.prog.funcs.toList f with
  | some fn => (match fn.body with | some c => ⟨fn.ntmps,(Bd Tryz.prog fn.results.toList).getD [],fC f A B c 1⟩ | none => ⟨0,[],.bad⟩)
  | none => ⟨0,[],.bad⟩
/-- the part at a place -/
noncomputable def gL:aL->Nat->aL
  | .seq a b,q => bif Nat.beq q 1 then .seq a b else bif Nat.beq (q%2) 0 then gL a (q/2) else gL b (q/2)
  | .cond x a b,q => bif Nat.beq q 1 then .cond x a b else bif Nat.beq (q%2) 0 then gL a (q/2) else gL b (q/2)
  | .block i a,q => bif Nat.beq q 1 then .block i a else gL a (q/2)
  | .loop a,q => bif Nat.beq q 1 then .loop a else gL a (q/2)
  | c,_ => c
abbrev fI(f:Nat)(A:List (Nat×List Nat))(B:List (Nat×aL))(q:Nat):aL := gL (fF f A B).body q
/-- a term in normal form -/
def aF{α:Type}(f:α){g:α}(_:f=g := by conv => lhs; reduce; try simp only [Int.reduceOfNat,Int.reduceNegSucc]):α := g
attribute [go_sem] aF
def i22:aX := aF (fF 22 [] [])
def i48_l1:aL := aF (fI 48 [] [] 75)
def i48_r2:aL := aF (fI 48 [] [] 15)
def i48:aX := (aF (fun x0 x1 => fF 48 [] [(116,x0),(15,x1)])) i48_l1 i48_r2
def i41_l1:aL := aF (fI 41 [] [] 75)
def i41_r2:aL := aF (fI 41 [] [] 15)
def i41:aX := (aF (fun x0 x1 => fF 41 [] [(116,x0),(15,x1)])) i41_l1 i41_r2
def i42:aX := aF (fF 42 [] [])
def i80:aX := aF (fF 80 [] [])
def a123:List (Nat×List Nat) := [(212,[0,1,3,7,15,31,15,79,207,463,975,2047,4095,8191,16383,32767,65535,131071,262143,524287,1048575,2097151,4194303,8388607,16777215,33554431,67108863,134217727])]
def i123:aX := aF (fF 123 a123 [])
def i81:aX := aF (fF 81 [] [])
def a82:List (Nat×List Nat) := [(259276,[0,1,3,7,0,16,63,127,255,511,1023]),(16774348,[0,1,3,7,15,31,15,79,207,463,15,1039,4047,8143,16383,32767]),(16774350,[0,0,2,7,15,0,32,127,255,511]),(33548703,[0,0,0,4,12,28,0,0,128,384,896,0,0,0,1983,18367,55295,120831,262143,524287])]
def i82_l1:aL := aF (fI 82 a82 [] 607)
def i82_l2:aL := aF (fI 82 a82 [] 4863)
def i82_l3:aL := aF (fI 82 a82 [] 38911)
def i82_r4:aL := aF (fI 82 a82 [] 8191)
def i82_r5:aL := (aF (fun x0 x1 => fI 82 a82 [(65524,x0),(8191,x1)] 1023)) i82_l3 i82_r4
def i82_r6:aL := (aF (fun x0 x1 => fI 82 a82 [(8180,x0),(1023,x1)] 127)) i82_l2 i82_r5
def i82:aX := (aF (fun x0 x1 => fF 82 a82 [(1012,x0),(127,x1)])) i82_l1 i82_r6
def a83:List (Nat×List Nat) := [(128206,[0,1,3,7,0,16,63,127,255,255,0,1535,4095]),(4102652,[0,1,3,7,15,31,63,127,255,511,1023,2047,127,4223,12415,28799,65535,131071,262143,127,524415,2097151,4194303,8388607]),(4102655,[0,1,3,7,0,16,0,127])]
def i83_l1:aL := aF (fI 83 a83 [] 303)
def i83_r2:aL := aF (fI 83 a83 [] 63)
def i83:aX := (aF (fun x0 x1 => fF 83 a83 [(500,x0),(63,x1)])) i83_l1 i83_r2
def Ku:List (Nat×List Nat) := [(126,[0,0,2,6,14,30,0,64,192,448,960,2046,4094,8191,16383]),(6,[0,1,3,7,15,31,63,0,128,384,896,1920,3968,8191,16383])]
def i84_l1:aL := aF (fI 84 Ku [] 324399)
def i84_r2:aL := aF (fI 84 Ku [] 3887)
def i84_l3:aL := (aF (fun x0 x1 => fI 84 Ku [(512828,x0),(4007,x1)] 303)) i84_l1 i84_r2
def i84_r4:aL := aF (fI 84 Ku [] 63)
def i84:aX := (aF (fun x0 x1 => fF 84 Ku [(500,x0),(63,x1)])) i84_l3 i84_r4
def i49_l1:aL := aF (fI 49 [] [] 75)
def i49_r2:aL := aF (fI 49 [] [] 15)
def i49:aX := (aF (fun x0 x1 => fF 49 [] [(116,x0),(15,x1)])) i49_l1 i49_r2
def a101:List (Nat×List Nat) := [(6,[0,1,3,7,15,31,0,64,192,448,960,63,4095]),(3770,[0,1,3,7,0,16,0,112,255,511,1023]),(1022,[0,1,3,7,0,16,63,0,255])]
def i101:aX := aF (fF 101 a101 [])
def i138:aX := aF (fF 138 [] [])
def i137:aX := aF (fF 137 [] [])
def i122:aX := aF (fF 122 [] [])
def i146_l1:aL := aF (fI 146 [] [] 37)
def i146_r2:aL := aF (fI 146 [] [] 7)
def i146:aX := (aF (fun x0 x1 => fF 146 [] [(52,x0),(7,x1)])) i146_l1 i146_r2
def a12:List (Nat×List Nat) := [(252,[0,1,3,7,15,31,63,127,255,511,1023,2047,4095,8191,16383,32767,65535,131071,262143,524287,131071,131071,2621439,7864319,16252927,33554431,67108863])]
def i12:aX := aF (fF 12 a12 [])
def i27_l1:aL := aF (fI 27 [] [] 75)
def i27_r2:aL := aF (fI 27 [] [] 15)
def i27:aX := (aF (fun x0 x1 => fF 27 [] [(116,x0),(15,x1)])) i27_l1 i27_r2
def i30:aX := aF (fF 30 [] [])
def i26_l1:aL := aF (fI 26 [] [] 75)
def i26_r2:aL := aF (fI 26 [] [] 15)
def i26:aX := (aF (fun x0 x1 => fF 26 [] [(116,x0),(15,x1)])) i26_l1 i26_r2
def i55_l1:aL := aF (fI 55 [] [] 75)
def i55_r2:aL := aF (fI 55 [] [] 15)
def i55:aX := (aF (fun x0 x1 => fF 55 [] [(116,x0),(15,x1)])) i55_l1 i55_r2
def i93_l1:aL := aF (fI 93 [] [] 75)
def i93_r2:aL := aF (fI 93 [] [] 15)
def i93:aX := (aF (fun x0 x1 => fF 93 [] [(116,x0),(15,x1)])) i93_l1 i93_r2
def a28:List (Nat×List Nat) := [(107764,[0,1,3,7,15,31,63,127,255,511,1023,2047,4095,8191,16383,32767,65535,131071,262143,524287,262143,1310719,4194303,8388607,16777215,33554431,67108863,134217727,268435455,536870911,1073741823,2147483647,1073741823,1073741823,9663676415,31138512895,68719476735,137438953471,274877906943,549755813887,1099511627775,2199023255551]),(431068,[0,1,3,7,15,31,63,127,255,511,1023,2047,4095,8191,16383,32767,65535,131071,262143,524287,1048575,2097151,4194303,8388607,16777215,33554431,16777215,83886079,218103807,536870911,1073741823,2147483647,4294967295,8589934591,17179869183,34359738367,68719476735,68719476735,206158430207,549755813887,1099511627775,2199023255551])]
def i28_l1:aL := aF (fI 28 a28 [] 19237)
def i28_r2:aL := aF (fI 28 a28 [] 3877)
def i28_r3:aL := aF (fI 28 a28 [] 229)
def i28_l4:aL := (aF (fun x0 x1 x2 => fI 28 a28 [(26932,x0),(3367,x1),(211,x2)] 37)) i28_l1 i28_r2 i28_r3
def i28_r5:aL := aF (fI 28 a28 [] 7)
def i28:aX := (aF (fun x0 x1 => fF 28 a28 [(52,x0),(7,x1)])) i28_l4 i28_r5
def i56_l1:aL := aF (fI 56 [] [] 75)
def i56_r2:aL := aF (fI 56 [] [] 15)
def i56:aX := (aF (fun x0 x1 => fF 56 [] [(116,x0),(15,x1)])) i56_l1 i56_r2
def a94:List (Nat×List Nat) := [(840,[0,0,3,7,15,31,15,127,255,511,1023,2047,4095,8191,16383,8191,65535,131071,262143,8191,532479,8191,3678207,7872511,16261119,33554431,67108863])]
def i94_l1:aL := aF (fI 94 a94 [] 37)
def i94_r2:aL := aF (fI 94 a94 [] 7)
def i94:aX := (aF (fun x0 x1 => fF 94 a94 [(52,x0),(7,x1)])) i94_l1 i94_r2
def i91:aX := aF (fF 91 [] [])
def Hv:List (Nat×List Nat) := [(119392,[0,0,2,7,15,31,63,31,31,415,927,2047,4095,31,8223,31,57375,122911,262143,524287]),(7463,[0,0,3,7,0,16,63,0,0,384,1023,2047])]
def i57_l1:aL := aF (fI 57 Hv [] 17995)
def i57_r2:aL := aF (fI 57 Hv [] 7755)
def i57_r3:aL := aF (fI 57 Hv [] 459)
def i57_l4:aL := (aF (fun x0 x1 x2 => fI 57 Hv [(29848,x0),(7463,x1),(467,x2)] 75)) i57_l1 i57_r2 i57_r3
def i57_r5:aL := aF (fI 57 Hv [] 15)
def i57:aX := (aF (fun x0 x1 => fF 57 Hv [(116,x0),(15,x1)])) i57_l4 i57_r5
def i95_l1:aL := aF (fI 95 [] [] 37)
def i95_r2:aL := aF (fI 95 [] [] 7)
def i95:aX := (aF (fun x0 x1 => fF 95 [] [(52,x0),(7,x1)])) i95_l1 i95_r2
def i92:aX := aF (fF 92 [] [])
def a58:List (Nat×List Nat) := [(3754,[0,0,0,0,12,28,63,127]),(942,[0,0,0,0,12,31,63]),(8170,[0,0,0,6,0,0,48,127,255])]
def i58:aX := aF (fF 58 a58 [])
def i29_l1:aL := aF (fI 29 [] [] 153903)
def i29_r2:aL := aF (fI 29 [] [] 31023)
def i29_r3:aL := aF (fI 29 [] [] 1839)
def i29_l4:aL := (aF (fun x0 x1 x2 => fI 29 [] [(256308,x0),(32039,x1),(2003,x2)] 303)) i29_l1 i29_r2 i29_r3
def i29_r5:aL := aF (fI 29 [] [] 63)
def i29:aX := (aF (fun x0 x1 => fF 29 [] [(500,x0),(63,x1)])) i29_l4 i29_r5
def i40_l1:aL := aF (fI 40 [] [] 1215)
def i40_r2:aL := aF (fI 40 [] [] 255)
def i40:aX := (aF (fun x0 x1 => fF 40 [] [(2036,x0),(255,x1)])) i40_l1 i40_r2
def Fs:List (Nat×List Nat) := [(2074219,[0,1,3,7,0,16,63,127,255,511,1023]),(129639,[0,0,2,6,14,0,32,126,255,511,1023]),(30,[0,1,0,0,8,24,56,120,0,256,0,1792,0,4096,12288,28672,65535,131071,262143])]
def i18_l1:aL := aF (fI 18 Fs [] 607)
def i18_l2:aL := aF (fI 18 Fs [] 314559)
def i18_r3:aL := aF (fI 18 Fs [] 15551)
def i18_l4:aL := (aF (fun x0 x1 => fI 18 Fs [(521420,x0),(16295,x1)] 1215)) i18_l2 i18_r3
def i18_r5:aL := aF (fI 18 Fs [] 255)
def i18_r6:aL := (aF (fun x0 x1 => fI 18 Fs [(2036,x0),(255,x1)] 127)) i18_l4 i18_r5
def i18:aX := (aF (fun x0 x1 => fF 18 Fs [(1012,x0),(127,x1)])) i18_l1 i18_r6
def i7:aX := aF (fF 7 [] [])
def i39:aX := aF (fF 39 [] [])
def i17_l1:aL := aF (fI 17 [] [] 75)
def i17_r2:aL := aF (fI 17 [] [] 15)
def i17:aX := (aF (fun x0 x1 => fF 17 [] [(116,x0),(15,x1)])) i17_l1 i17_r2
def i4:aX := aF (fF 4 [] [])
def a19:List (Nat×List Nat) := [(14,[0,0,2,7,0,0,63,127,255,255,511,2047])]
def i19:aX := aF (fF 19 a19 [])
def a64:List (Nat×List Nat) := [(8015054,[0,0,2,7,0,0,32,127,255,511])]
def i64_l1:aL := aF (fI 64 a64 [] 19607)
def i64_r2:aL := aF (fI 64 a64 [] 919)
def i64_l3:aL := (aF (fun x0 x1 => fI 64 a64 [(31308,x0),(979,x1)] 151)) i64_l1 i64_r2
def i64_r4:aL := aF (fI 64 a64 [] 31)
def i64:aX := (aF (fun x0 x1 => fF 64 a64 [(244,x0),(31,x1)])) i64_l3 i64_r4
def a43:List (Nat×List Nat) := [(2036,[0,0,2,7,15,31,63,127,255,511,1023,2047,4095,8191,16383,32767,65535,131071,262143,524287,1048575,524287,2621439,6815743,15204351,33554431,67108863,134217727,268435455,536870911,1073741823,2147483647,4294967295,8589934591,17179869183,8589934591,42949672959,111669149695,249108103167,8589934591,558345748479,2173253451775,4372276707327,8796093022207,17592186044415,35184372088831])]
def i43:aX := aF (fF 43 a43 [])
def i44:aX := aF (fF 44 [] [])
def i45:aX := aF (fF 45 [] [])
def a46:List (Nat×List Nat) := [(7833,[0,1,0,0,0,24,0,64,248,508,1020,2044,4092,8191,16383,32767])]
def i46_l1:aL := aF (fI 46 a46 [] 151)
def i46_r2:aL := aF (fI 46 a46 [] 31)
def i46:aX := (aF (fun x0 x1 => fF 46 a46 [(244,x0),(31,x1)])) i46_l1 i46_r2
def i99:aX := aF (fF 99 [] [])
def vR:List (Nat×List Nat) := [(262564505,[0,0,2,6,14,0,32,96,224,0,512,0,3584,8160,16352,32766,65534,131070,262143,524287])]
def i100_l1:aL := aF (fI 100 vR [] 599)
def i100_l2:aL := aF (fI 100 vR [] 4895535)
def i100_l3:aL := aF (fI 100 vR [] 10400559)
def i100_r4:aL := (aF (fun x0 => fI 100 vR [(16410300,x0)] 963375)) i100_l3
def i100_l5:aL := aF (fI 100 vR [] 4961071)
def i100_l6:aL := aF (fI 100 vR [] 5153731375)
def i100_r7:aL := aF (fI 100 vR [] 254784303)
def i100_l8:aL := (aF (fun x0 x1 => fI 100 vR [(8402105548,x0),(262565799,x1)] 19903279)) i100_l6 i100_r7
def i100_r9:aL := aF (fI 100 vR [] 3887)
def i100_l10:aL := (aF (fun x0 x1 x2 x3 x4 => fI 100 vR [(8205140,x0),(1025643,x1),(8205172,x2),(32820724,x3),(4007,x4)] 303)) i100_l2 i100_r4 i100_l5 i100_l8 i100_r9
def i100_r11:aL := aF (fI 100 vR [] 63)
def i100_r12:aL := (aF (fun x0 x1 => fI 100 vR [(500,x0),(63,x1)] 31)) i100_l10 i100_r11
def i100:aX := (aF (fun x0 x1 => fF 100 vR [(980,x0),(31,x1)])) i100_l1 i100_r12
def i65_l1:aL := aF (fI 65 [] [] 151)
def i65_r2:aL := aF (fI 65 [] [] 31)
def i65:aX := (aF (fun x0 x1 => fF 65 [] [(244,x0),(31,x1)])) i65_l1 i65_r2
def a66:List (Nat×List Nat) := [(64030,[0,1,0,7,0,16,0,127,63,511,1023,2047]),(6,[0,1,3,7,15,31,0,64,192,448,960,63,4095])]
def i66_l1:aL := aF (fI 66 a66 [] 303)
def i66_r2:aL := aF (fI 66 a66 [] 63)
def i66:aX := (aF (fun x0 x1 => fF 66 a66 [(500,x0),(63,x1)])) i66_l1 i66_r2
def i67:aX := aF (fF 67 [] [])
def a68:List (Nat×List Nat) := [(14,[0,1,3,7,0,31,63,0,128,384,896,0,3968,8064,0,0,49279,131071])]
def i68:aX := aF (fF 68 a68 [])
def a69:List (Nat×List Nat) := [(64818,[0,1,3,7,0,16,48,112,0,256,768,0,3840,8176,16368,32767,65535,0,262143]),(518558,[0,1,0,4,12,3,35,127,255])]
def i69_l1:aL := aF (fI 69 a69 [] 607)
def i69_r2:aL := aF (fI 69 a69 [] 127)
def i69:aX := (aF (fun x0 x1 => fF 69 a69 [(1012,x0),(127,x1)])) i69_l1 i69_r2
def a70:List (Nat×List Nat) := [(261427,[0,0,0,0,0,0,48,112,0,0,768,1792,4083,8179,16383,32767]),(60,[0,1,3,7,15,31,63,127,127,511,1023,2047,4095,8191,16383,32767,4095,131071,262143,524287,1048575,4095,2101247,6295551,14684159,4095,65015807,132124671,266342399,534777855,1073741823,2147483647,4294967295,8589934591,8589934591,25769803775,8589934591,77309411327,266287972351,549755813887,1099511627775,2199023255551]),(62,[0,1,3,7,0,31,63,127,255,0,512,1536,3584,0,15872,32256,65024,130560,511,524287])]
def i70_l1:aL := aF (fI 70 a70 [] 2431)
def i70_r2:aL := aF (fI 70 a70 [] 511)
def i70:aX := (aF (fun x0 x1 => fF 70 a70 [(4084,x0),(511,x1)])) i70_l1 i70_r2
def a71:List (Nat×List Nat) := [(28,[0,1,3,7,0,31,63,127,255,511,1023,2047,4095,8191,16383,2047,65535,131071,262143,524287,1048575,2097151,4194303,8388607,16777215,33554431,67108863,8388607,268435455,536870911,1073741823,2147483647,8388607,4303355903,12893290495,30073159679,8388607,133152374783,270591328255,545469235199,1095225049087,2199023255551,4398046511103]),(30,[0,1,3,7,0,16,48,112,0,496,1008,2032,4080,8176,16383,32767,65535])]
def i71:aX := aF (fF 71 a71 [])
def a72:List (Nat×List Nat) := [(6,[0,1,3,7,0,16,0,0,128,0,512,1984,0,0,8192,0,32768,98304,262080,524224,1048575,2097151,4194303])]
def i72:aX := aF (fF 72 a72 [])
def a73:List (Nat×List Nat) := [(126,[0,1,3,7,0,31,63,127,255,0,512,1536,3584,0,15872,32256,65024,130560,511,524287]),(1020,[0,1,3,0,15,0,32,127,255,511,1023,2047,511,8191,511,16895,65535,131071,262143,524287,524287,1572863,524287,4718591,16252927,33554431,67108863,134217727])]
def i73:aX := aF (fF 73 a73 [])
def a74:List (Nat×List Nat) := [(30,[0,1,3,7,0,16,48,0,240,511,1023,2047]),(62,[0,1,3,7,0,16,48,0,240,511,1023,0,4095,8191]),(252,[0,1,3,7,15,31,63,7,135,391,903,7,3975,8191,16383,7,65535,131071]),(510,[0,0,0,4,15,0,0,64,0,256,1023,2047,4095]),(1022,[0,0,0,4,12,31,0,0,128,0,512,1536,4095,8191,16383]),(32756,[0,1,3,7,0,16,0,127,0,256,0,2047,4095,8191]),(8190,[0,1,3,7,0,16,0,127,0,256,0,2047,4095,8191])]
def i74:aX := aF (fF 74 a74 [])
def a75:List (Nat×List Nat) := [(256414,[0,0,2,6,14,0,62,126,254,510,0,1024,3072,7168,0,31744,64512,130048,261120,524286,1048575,2097151])]
def i75_l1:aL := aF (fI 75 a75 [] 303)
def i75_r2:aL := aF (fI 75 a75 [] 63)
def i75:aX := (aF (fun x0 x1 => fF 75 a75 [(500,x0),(63,x1)])) i75_l1 i75_r2
def a76:List (Nat×List Nat) := [(6,[0,1,3,7,0,16,63,127,0,511]),(248,[0,1,3,7,15,31,63,15,143,399,911,2047,4095,8191,16383,32767,65535,16383,147455,409599,933887,16383,2113535,6307839,16662527,33439743,67108863,134217727,268435455]),(997,[0,0,2,0,0,16,0,64,192,448,967,1991,4039,8135,16383,32767,65535,131071]),(3997,[0,0,2,0,0,16,0,64,192,448,0,1024,3072,7168,0,16384,49152,114688,261120,523264,1047552,1048519,3145671,7339975,15728583,33554431,67108863,134217727,268435455])]
def i76:aX := aF (fF 76 a76 [])
def i77_l1:aL := aF (fI 77 [] [] 37)
def i77_r2:aL := aF (fI 77 [] [] 7)
def i77:aX := (aF (fun x0 x1 => fF 77 [] [(52,x0),(7,x1)])) i77_l1 i77_r2
def i78:aX := aF (fF 78 [] [])
def i133:aX := aF (fF 133 [] [])
def Ht:List (Nat×List Nat) := [(1910088,[0,0,3,7,0,0,32,112,240,511]),(1864,[0,0,3,7,0,0,32,112,240,511])]
def i135_l1:aL := aF (fI 135 Ht [] 76363)
def i135_r2:aL := aF (fI 135 Ht [] 14923)
def i135_r3:aL := aF (fI 135 Ht [] 459)
def i135_l4:aL := (aF (fun x0 x1 x2 => fI 135 Ht [(119380,x0),(14923,x1),(467,x2)] 75)) i135_l1 i135_r2 i135_r3
def i135_r5:aL := aF (fI 135 Ht [] 15)
def i135:aX := (aF (fun x0 x1 => fF 135 Ht [(116,x0),(15,x1)])) i135_l4 i135_r5
def Hu:List (Nat×List Nat) := [(16043982,[0,1,3,0,8,24,7,71,255,511]),(15666,[0,1,3,7,0,16,48,112,0,256,0,1792,4080,8176,16383,32767,0,131071])]
def i136_l1:aL := aF (fI 136 Hu [] 309655)
def i136_r2:aL := aF (fI 136 Hu [] 63895)
def i136_r3:aL := aF (fI 136 Hu [] 1943)
def i136_l4:aL := (aF (fun x0 x1 x2 => fI 136 Hu [(501364,x0),(62671,x1),(1959,x2)] 151)) i136_l1 i136_r2 i136_r3
def i136_r5:aL := aF (fI 136 Hu [] 31)
def i136:aX := (aF (fun x0 x1 => fF 136 Hu [(244,x0),(31,x1)])) i136_l4 i136_r5
def a102:List (Nat×List Nat) := [(14,[0,1,3,7,15,0,32,96,224,0,992,2016,4095,8191,0,16384,49152,114688,245760,0,524288,1572864,3670016,0,8388608,0,58720256,133693440,267911168,536854528,1073725440,0,0,6442467327,17179869183]),(1020,[0,1,0,4,12,28,60,127])]
def i102:aX := aF (fF 102 a102 [])
def W6:List (Nat×List Nat) := [(100,[0,0,0,0,0,0,48,112,0,0,768,1792,4083,8179,16383,32767])]
def i103_l1:aL := aF (fI 103 W6 [] 9)
def i103:aX := (aF (fun x0 => fF 103 W6 [(12,x0)])) i103_l1
def a89:List (Nat×List Nat) := [(100,[0,0,0,0,0,0,48,112,0,0,768,1792,4083,8179,16383,32767])]
def i89_l1:aL := aF (fI 89 a89 [] 9)
def i89:aX := (aF (fun x0 => fF 89 a89 [(12,x0)])) i89_l1
def a104:List (Nat×List Nat) := [(6,[0,0,2,0,8,24,56,120,254,1,1023])]
def i104:aX := aF (fF 104 a104 [])
def i105_l1:aL := aF (fI 105 [] [] 75)
def i105_r2:aL := aF (fI 105 [] [] 15)
def i105:aX := (aF (fun x0 x1 => fF 105 [] [(116,x0),(15,x1)])) i105_l1 i105_r2
def i107_l1:aL := aF (fI 107 [] [] 9)
def i107:aX := (aF (fun x0 => fF 107 [] [(12,x0)])) i107_l1
def i106:aX := aF (fF 106 [] [])
def i108:aX := aF (fF 108 [] [])
def i109:aX := aF (fF 109 [] [])
def i110:aX := aF (fF 110 [] [])
def a111:List (Nat×List Nat) := [(30,[0,0,0,4,12,28,0,124,252,508,1020,2044,4092,8188,16380,32764,65532,8188,262140,524284,1048572,2097148,4194300,8388604,8189,16785407,67108863])]
def i111:aX := aF (fF 111 a111 [])
def a112:List (Nat×List Nat) := [(6,[0,1,3,7,0,16,48,112,255,511,0,1024,3072,7168,0,16384,49152,114688,245760,523264,1047552,2097151,0,8388607,16777215])]
def i112:aX := aF (fF 112 a112 [])
def i113_l1:aL := aF (fI 113 [] [] 40139)
def i113_r2:aL := aF (fI 113 [] [] 971)
def i113_l3:aL := (aF (fun x0 x1 => fI 113 [] [(59804,x0),(935,x1)] 75)) i113_l1 i113_r2
def i113_r4:aL := aF (fI 113 [] [] 15)
def i113:aX := (aF (fun x0 x1 => fF 113 [] [(116,x0),(15,x1)])) i113_l3 i113_r4
def i114:aX := aF (fF 114 [] [])
def i115:aX := aF (fF 115 [] [])
def a116:List (Nat×List Nat) := [(100,[0,0,0,0,0,0,48,112,0,0,768,1792,4083,8179,16383,32767])]
def i116_l1:aL := aF (fI 116 a116 [] 9)
def i116:aX := (aF (fun x0 => fF 116 a116 [(12,x0)])) i116_l1
def i117:aX := aF (fF 117 [] [])
def Hs:List (Nat×List Nat) := [(1910088,[0,0,3,7,0,0,32,112,240,511]),(1864,[0,0,3,7,0,0,32,112,240,511])]
def i118_l1:aL := aF (fI 118 Hs [] 76363)
def i118_r2:aL := aF (fI 118 Hs [] 14923)
def i118_r3:aL := aF (fI 118 Hs [] 459)
def i118_l4:aL := (aF (fun x0 x1 x2 => fI 118 Hs [(119380,x0),(14923,x1),(467,x2)] 75)) i118_l1 i118_r2 i118_r3
def i118_r5:aL := aF (fI 118 Hs [] 15)
def i118:aX := (aF (fun x0 x1 => fF 118 Hs [(116,x0),(15,x1)])) i118_l4 i118_r5
def a119:List (Nat×List Nat) := [(7475,[0,0,0,0,0,0,48,112,0,0,768,1792,4083,8179,16383,32767])]
def i119_l1:aL := aF (fI 119 a119 [] 75)
def i119_r2:aL := aF (fI 119 a119 [] 15)
def i119:aX := (aF (fun x0 x1 => fF 119 a119 [(116,x0),(15,x1)])) i119_l1 i119_r2
def i153:aX := aF (fF 153 [] [])
def i154:aX := aF (fF 154 [] [])
def i155:aX := aF (fF 155 [] [])
def i139_l1:aL := aF (fI 139 [] [] 17)
def i139_r2:aL := aF (fI 139 [] [] 7)
def i139:aX := (aF (fun x0 x1 => fF 139 [] [(24,x0),(7,x1)])) i139_l1 i139_r2
def QM:List (Nat×List Nat) := [(3378,[0,0,0,6,14,31])]
def i140_l1:aL := aF (fI 140 QM [] 37)
def i140_r2:aL := aF (fI 140 QM [] 7)
def i140:aX := (aF (fun x0 x1 => fF 140 QM [(52,x0),(7,x1)])) i140_l1 i140_r2
def i85:aX := aF (fF 85 [] [])
def i141_l1:aL := aF (fI 141 [] [] 154007)
def i141_r2:aL := aF (fI 141 [] [] 31127)
def i141_r3:aL := aF (fI 141 [] [] 1943)
def i141_l4:aL := (aF (fun x0 x1 x2 => fI 141 [] [(250676,x0),(31335,x1),(1959,x2)] 151)) i141_l1 i141_r2 i141_r3
def i141_r5:aL := aF (fI 141 [] [] 31)
def i141:aX := (aF (fun x0 x1 => fF 141 [] [(244,x0),(31,x1)])) i141_l4 i141_r5
def i142:aX := aF (fF 142 [] [])
def W7:List (Nat×List Nat) := [(29180,[0,1,3,7,7,23,63,127,7,7,775,1799,4095,8191,16383])]
def i144_l1:aL := aF (fI 144 W7 [] 19)
def i144:aX := (aF (fun x0 => fF 144 W7 [(28,x0)])) i144_l1
def QN:List (Nat×List Nat) := [(3378,[0,0,0,6,14,31])]
def i177_l1:aL := aF (fI 177 QN [] 37)
def i177_r2:aL := aF (fI 177 QN [] 7)
def i177:aX := (aF (fun x0 x1 => fF 177 QN [(52,x0),(7,x1)])) i177_l1 i177_r2
def W8:List (Nat×List Nat) := [(29180,[0,1,3,7,7,7,39,119,247,7,7,1543,3591,8191,16383,32767,65535])]
def i178_l1:aL := aF (fI 178 W8 [] 19)
def i178:aX := (aF (fun x0 => fF 178 W8 [(28,x0)])) i178_l1
def i124_l1:aL := aF (fI 124 [] [] 37)
def i124_r2:aL := aF (fI 124 [] [] 7)
def i124:aX := (aF (fun x0 x1 => fF 124 [] [(52,x0),(7,x1)])) i124_l1 i124_r2
def i143:aX := aF (fF 143 [] [])
def a157:List (Nat×List Nat) := [(3216,[0,0,3,7,15,15,63,127,15,15,527,1807,3855,8191,16383]),(6436,[0,0,0,0,8,0,0,64,224,480,0,0,3072,7168,16355,32739,65535,131071])]
def i157_l1:aL := aF (fI 157 a157 [] 585)
def i157_r2:aL := aF (fI 157 a157 [] 57)
def i157_l3:aL := (aF (fun x0 x1 => fI 157 a157 [(804,x0),(51,x1)] 9)) i157_l1 i157_r2
def i157:aX := (aF (fun x0 => fF 157 a157 [(12,x0)])) i157_l3
def i163:aX := aF (fF 163 [] [])
def NR:List (Nat×List Nat) := [(3216,[0,0,3,7,15,15,15,111,239,15,15,1039,3599,7695,16383,32767,65535]),(6436,[0,0,0,0,8,0,0,64,224,480,0,0,3072,7168,16355,32739,65535,131071])]
def i187_l1:aL := aF (fI 187 NR [] 585)
def i187_r2:aL := aF (fI 187 NR [] 57)
def i187_l3:aL := (aF (fun x0 x1 => fI 187 NR [(804,x0),(51,x1)] 9)) i187_l1 i187_r2
def i187:aX := (aF (fun x0 => fF 187 NR [(12,x0)])) i187_l3
def i156_l1:aL := aF (fI 156 [] [] 37)
def i156_r2:aL := aF (fI 156 [] [] 7)
def i156:aX := (aF (fun x0 x1 => fF 156 [] [(52,x0),(7,x1)])) i156_l1 i156_r2
def i125:aX := aF (fF 125 [] [])
def a3:List (Nat×List Nat) := [(130980,[0,0,0,6,14,0,0,96,224,510,0,0,3072,7168,0,0,49152,114688,261120,524286,1048575,2097151]),(254,[0,1,0,7,15,31])]
def i3_l1:aL := aF (fI 3 a3 [] 9727)
def i3_r2:aL := aF (fI 3 a3 [] 2047)
def i3:aX := (aF (fun x0 x1 => fF 3 a3 [(16372,x0),(2047,x1)])) i3_l1 i3_r2
end Go.Abs
end
namespace Go.Abs
open Go.Proofs
def GC:List Nat->Nat->Bool
 |[],_=>false
 |a::r,n=>bif Nat.beq a n then true else GC r n
def ab8:List (Nat×List Nat)->Nat->List Nat
 |[],_=>[]
 |(a,l)::r,n=>bif Nat.beq a n then l else ab8 r n
def ao7:List Nat:=[49,66,82,83,89,103,107,116,117,118,133,135,139,144,152,154,157,158,159,160,161,162,164,165,169,170,171,172,173,174,175,176,178,179,181,182,183,184,185,186,187,188,189,190,191,192,193,194,195,196,197,198,199,200]
def apP:List (Nat×List Nat):=[(49,[49,82,83]),(66,[66,89,103]),(82,[82]),(83,[83]),(89,[89]),(103,[103]),(107,[107]),(116,[116]),(117,[117,144,157,158,159,160,161,162,164,165,179,181,182,183,195]),(118,[118]),(133,[133,152,169,170,171,172,173,174,175,176,181,184,185,186,196]),(135,[135]),(139,[139]),(144,[144,157,158,159,160,161,162,164,165,179,181,182,183,195]),(152,[152,169,170,171,172,173,174,175,176,181,184,185,186,196]),(154,[154,178,181,187,188,189,190,191,192,193,194,197,198,199,200]),(157,[157]),(158,[158,179]),(159,[159,181]),(160,[160,182,183,195]),(161,[161]),(162,[162]),(164,[164]),(165,[165]),(169,[169]),(170,[170,184]),(171,[171,181]),(172,[172,185,186,196]),(173,[173]),(174,[174]),(175,[175]),(176,[176]),(178,[178,181,187,188,189,190,191,192,193,194,197,198,199,200]),(179,[179]),(181,[181]),(182,[182,183,195]),(183,[183,195]),(184,[184]),(185,[185,186,196]),(186,[186,196]),(187,[187]),(188,[188,197]),(189,[181,189]),(190,[190,198,199,200]),(191,[191]),(192,[192]),(193,[193]),(194,[194]),(195,[195]),(196,[196]),(197,[197]),(198,[198,199,200]),(199,[199,200]),(200,[200])]
def amw:List Nat:=[]
def Vu(f:Nat)(args:List V):Option (Option RV):=
 bif Nat.beq f 36 then some (Vv args)
 else bif Nat.beq f 38 then some (Vw args)
 else bif Nat.beq f 145 then some (M9 args)
 else bif GC [32,88,109] f then PL args
 else none
noncomputable def S:Sys:={P:=Tryz.prog,shared:=GC ao7,sites:=ab8 apP,lone:=fun s=>GC amw (s/64000000),fns:=Ai Tryz.prog,prim:=Vu,trig:=Qm 133 134,primS:=fun _=>Bh nJ}
abbrev cD(n:Nat):Prop:=S.shared n=false
theorem c22:S.fns 22=some i22:=ah
theorem s22:cD 22:=rfl
theorem c48:S.fns 48=some i48:=ah
theorem s48:cD 48:=rfl
theorem c41:S.fns 41=some i41:=ah
theorem s41:cD 41:=rfl
theorem c42:S.fns 42=some i42:=ah
theorem s42:cD 42:=rfl
theorem c80:S.fns 80=some i80:=ah
theorem s80:cD 80:=rfl
theorem c123:S.fns 123=some i123:=ah
theorem s123:cD 123:=rfl
theorem c81:S.fns 81=some i81:=ah
theorem s81:cD 81:=rfl
theorem c82:S.fns 82=some i82:=ah
theorem c83:S.fns 83=some i83:=ah
theorem c84:S.fns 84=some i84:=ah
theorem s84:cD 84:=rfl
theorem c49:S.fns 49=some i49:=ah
theorem c101:S.fns 101=some i101:=ah
theorem s101:cD 101:=rfl
theorem c138:S.fns 138=some i138:=ah
theorem s138:cD 138:=rfl
theorem c137:S.fns 137=some i137:=ah
theorem s137:cD 137:=rfl
theorem c122:S.fns 122=some i122:=ah
theorem s122:cD 122:=rfl
theorem c146:S.fns 146=some i146:=ah
theorem s146:cD 146:=rfl
theorem c12:S.fns 12=some i12:=ah
theorem s12:cD 12:=rfl
theorem c27:S.fns 27=some i27:=ah
theorem s27:cD 27:=rfl
theorem c30:S.fns 30=some i30:=ah
theorem s30:cD 30:=rfl
theorem c26:S.fns 26=some i26:=ah
theorem s26:cD 26:=rfl
theorem c55:S.fns 55=some i55:=ah
theorem s55:cD 55:=rfl
theorem c93:S.fns 93=some i93:=ah
theorem s93:cD 93:=rfl
theorem c28:S.fns 28=some i28:=ah
theorem s28:cD 28:=rfl
theorem c56:S.fns 56=some i56:=ah
theorem s56:cD 56:=rfl
theorem c94:S.fns 94=some i94:=ah
theorem s94:cD 94:=rfl
theorem c91:S.fns 91=some i91:=ah
theorem s91:cD 91:=rfl
theorem c57:S.fns 57=some i57:=ah
theorem s57:cD 57:=rfl
theorem c95:S.fns 95=some i95:=ah
theorem s95:cD 95:=rfl
theorem c92:S.fns 92=some i92:=ah
theorem s92:cD 92:=rfl
theorem c58:S.fns 58=some i58:=ah
theorem s58:cD 58:=rfl
theorem c29:S.fns 29=some i29:=ah
theorem s29:cD 29:=rfl
theorem c40:S.fns 40=some i40:=ah
theorem s40:cD 40:=rfl
theorem c18:S.fns 18=some i18:=ah
theorem s18:cD 18:=rfl
theorem c7:S.fns 7=some i7:=ah
theorem s7:cD 7:=rfl
theorem c39:S.fns 39=some i39:=ah
theorem s39:cD 39:=rfl
theorem c17:S.fns 17=some i17:=ah
theorem s17:cD 17:=rfl
theorem c4:S.fns 4=some i4:=ah
theorem s4:cD 4:=rfl
theorem c19:S.fns 19=some i19:=ah
theorem s19:cD 19:=rfl
theorem c64:S.fns 64=some i64:=ah
theorem s64:cD 64:=rfl
theorem c43:S.fns 43=some i43:=ah
theorem s43:cD 43:=rfl
theorem c44:S.fns 44=some i44:=ah
theorem s44:cD 44:=rfl
theorem c45:S.fns 45=some i45:=ah
theorem s45:cD 45:=rfl
theorem c46:S.fns 46=some i46:=ah
theorem s46:cD 46:=rfl
theorem s99:cD 99:=rfl
theorem c100:S.fns 100=some i100:=ah
theorem s100:cD 100:=rfl
theorem c65:S.fns 65=some i65:=ah
theorem s65:cD 65:=rfl
theorem c66:S.fns 66=some i66:=ah
theorem c67:S.fns 67=some i67:=ah
theorem s67:cD 67:=rfl
theorem c68:S.fns 68=some i68:=ah
theorem c69:S.fns 69=some i69:=ah
theorem s69:cD 69:=rfl
theorem c70:S.fns 70=some i70:=ah
theorem c71:S.fns 71=some i71:=ah
theorem c72:S.fns 72=some i72:=ah
theorem c73:S.fns 73=some i73:=ah
theorem c74:S.fns 74=some i74:=ah
theorem c75:S.fns 75=some i75:=ah
theorem c76:S.fns 76=some i76:=ah
theorem c77:S.fns 77=some i77:=ah
theorem s77:cD 77:=rfl
theorem c78:S.fns 78=some i78:=ah
theorem s78:cD 78:=rfl
theorem s133:S.shared 133=true:=ah
theorem c135:S.fns 135=some i135:=ah
theorem s135:S.shared 135=true:=ah
theorem c136:S.fns 136=some i136:=ah
theorem s136:cD 136:=rfl
theorem c102:S.fns 102=some i102:=ah
theorem s102:cD 102:=rfl
theorem c103:S.fns 103=some i103:=ah
theorem c89:S.fns 89=some i89:=ah
theorem s89:S.shared 89=true:=ah
theorem c104:S.fns 104=some i104:=ah
theorem s104:cD 104:=rfl
theorem c105:S.fns 105=some i105:=ah
theorem s105:cD 105:=rfl
theorem c107:S.fns 107=some i107:=ah
theorem c106:S.fns 106=some i106:=ah
theorem s106:cD 106:=rfl
theorem c108:S.fns 108=some i108:=ah
theorem s108:cD 108:=rfl
theorem c109:S.fns 109=some i109:=ah
theorem s109:cD 109:=rfl
theorem c110:S.fns 110=some i110:=ah
theorem s110:cD 110:=rfl
theorem c111:S.fns 111=some i111:=ah
theorem s111:cD 111:=rfl
theorem c112:S.fns 112=some i112:=ah
theorem s112:cD 112:=rfl
theorem c113:S.fns 113=some i113:=ah
theorem s113:cD 113:=rfl
theorem c114:S.fns 114=some i114:=ah
theorem s114:cD 114:=rfl
theorem c115:S.fns 115=some i115:=ah
theorem s115:cD 115:=rfl
theorem c116:S.fns 116=some i116:=ah
theorem c117:S.fns 117=some i117:=ah
theorem c118:S.fns 118=some i118:=ah
theorem c119:S.fns 119=some i119:=ah
theorem s119:cD 119:=rfl
theorem c153:S.fns 153=some i153:=ah
theorem c154:S.fns 154=some i154:=ah
theorem c155:S.fns 155=some i155:=ah
theorem c139:S.fns 139=some i139:=ah
theorem c140:S.fns 140=some i140:=ah
theorem s140:cD 140:=rfl
theorem c85:S.fns 85=some i85:=ah
theorem s85:cD 85:=rfl
theorem c141:S.fns 141=some i141:=ah
theorem s141:cD 141:=rfl
theorem c142:S.fns 142=some i142:=ah
theorem s142:cD 142:=rfl
theorem c144:S.fns 144=some i144:=ah
theorem s144:S.shared 144=true:=ah
theorem c177:S.fns 177=some i177:=ah
theorem s177:cD 177:=rfl
theorem c178:S.fns 178=some i178:=ah
theorem s178:S.shared 178=true:=ah
theorem c124:S.fns 124=some i124:=ah
theorem s124:cD 124:=rfl
theorem c143:S.fns 143=some i143:=ah
theorem s143:cD 143:=rfl
theorem c157:S.fns 157=some i157:=ah
theorem s157:S.shared 157=true:=ah
theorem c163:S.fns 163=some i163:=ah
theorem s163:cD 163:=rfl
theorem c187:S.fns 187=some i187:=ah
theorem s187:S.shared 187=true:=ah
theorem c156:S.fns 156=some i156:=ah
theorem s156:cD 156:=rfl
theorem c125:S.fns 125=some i125:=ah
theorem s125:cD 125:=rfl
theorem c3:S.fns 3=some i3:=ah
theorem s3:cD 3:=rfl
end Go.Abs
namespace Go.Abs
noncomputable section
def i90:aX := aF (fF 90 [] [])
def i10_l1:aL := aF (fI 10 [] [] 303)
def i10_r2:aL := aF (fI 10 [] [] 63)
def i10:aX := (aF (fun x0 x1 => fF 10 [] [(500,x0),(63,x1)])) i10_l1 i10_r2
def i6:aX := aF (fF 6 [] [])
def i8:aX := aF (fF 8 [] [])
def i11:aX := aF (fF 11 [] [])
def i79:aX := aF (fF 79 [] [])
def a20:List (Nat×List Nat) := [(1025636,[0,0,2,7,15,0,32,96,224,511,1023,2047])]
def i20_l1:aL := aF (fI 20 a20 [] 78639)
def i20_r2:aL := aF (fI 20 a20 [] 3887)
def i20_l3:aL := (aF (fun x0 x1 => fI 20 a20 [(128204,x0),(4007,x1)] 303)) i20_l1 i20_r2
def i20_r4:aL := aF (fI 20 a20 [] 63)
def i20:aX := (aF (fun x0 x1 => fF 20 a20 [(500,x0),(63,x1)])) i20_l3 i20_r4
def i23_l1:aL := aF (fI 23 [] [] 37)
def i23_r2:aL := aF (fI 23 [] [] 7)
def i23:aX := (aF (fun x0 x1 => fF 23 [] [(52,x0),(7,x1)])) i23_l1 i23_r2
def i47:aX := aF (fF 47 [] [])
def i120:aX := aF (fF 120 [] [])
def a52:List (Nat×List Nat) := [(126,[0,0,3,7,0,0,48,127,255])]
def i52_l1:aL := aF (fI 52 a52 [] 303)
def i52_r2:aL := aF (fI 52 a52 [] 63)
def i52:aX := (aF (fun x0 x1 => fF 52 a52 [(500,x0),(63,x1)])) i52_l1 i52_r2
def a87:List (Nat×List Nat) := [(3378,[0,0,0,6,0,30,63,127,0,0,0,1536,0,7680,16128,32512,255,131071])]
def i87_l1:aL := aF (fI 87 a87 [] 37)
def i87_r2:aL := aF (fI 87 a87 [] 7)
def i87:aX := (aF (fun x0 x1 => fF 87 a87 [(52,x0),(7,x1)])) i87_l1 i87_r2
def i25:aX := aF (fF 25 [] [])
def a51:List (Nat×List Nat) := [(480,[0,1,3,7,15,31,63,127,15,15,527,1551,3855,7951,16143,32767,65535]),(250,[0,1,0,4,12,28,63,127])]
def i51_l1:aL := aF (fI 51 a51 [] 75)
def i51_l2:aL := aF (fI 51 a51 [] 71)
def i51_l3:aL := aF (fI 51 a51 [] 1215)
def i51_r4:aL := aF (fI 51 a51 [] 255)
def i51_r5:aL := (aF (fun x0 x1 => fI 51 a51 [(2036,x0),(255,x1)] 31)) i51_l3 i51_r4
def i51_r6:aL := (aF (fun x0 x1 => fI 51 a51 [(120,x0),(31,x1)] 15)) i51_l2 i51_r5
def i51:aX := (aF (fun x0 x1 => fF 51 a51 [(116,x0),(15,x1)])) i51_l1 i51_r6
def i53:aX := aF (fF 53 [] [])
def i50:aX := aF (fF 50 [] [])
def i86:aX := aF (fF 86 [] [])
def i9:aX := aF (fF 9 [] [])
def i21:aX := aF (fF 21 [] [])
def i88:aX := aF (fF 88 [] [])
def i54_l1:aL := aF (fI 54 [] [] 37)
def i54_r2:aL := aF (fI 54 [] [] 7)
def i54:aX := (aF (fun x0 x1 => fF 54 [] [(52,x0),(7,x1)])) i54_l1 i54_r2
def a24:List (Nat×List Nat) := [(7474,[0,0,3,7,0,0,48,112,255])]
def i24_l1:aL := aF (fI 24 a24 [] 75)
def i24_r2:aL := aF (fI 24 a24 [] 15)
def i24:aX := (aF (fun x0 x1 => fF 24 a24 [(116,x0),(15,x1)])) i24_l1 i24_r2
def i121_l1:aL := aF (fI 121 [] [] 151)
def i121_r2:aL := aF (fI 121 [] [] 31)
def i121:aX := (aF (fun x0 x1 => fF 121 [] [(244,x0),(31,x1)])) i121_l1 i121_r2
end
theorem c90:S.fns 90=some i90:=ah
theorem s90:cD 90:=rfl
theorem c10:S.fns 10=some i10:=ah
theorem s10:cD 10:=rfl
theorem s5:cD 5:=rfl
theorem c6:S.fns 6=some i6:=ah
theorem s6:cD 6:=rfl
theorem c8:S.fns 8=some i8:=ah
theorem s8:cD 8:=rfl
theorem c11:S.fns 11=some i11:=ah
theorem s11:cD 11:=rfl
theorem c79:S.fns 79=some i79:=ah
theorem s79:cD 79:=rfl
theorem c20:S.fns 20=some i20:=ah
theorem s20:cD 20:=rfl
theorem c23:S.fns 23=some i23:=ah
theorem s23:cD 23:=rfl
theorem c47:S.fns 47=some i47:=ah
theorem s47:cD 47:=rfl
theorem c120:S.fns 120=some i120:=ah
theorem s120:cD 120:=rfl
theorem c52:S.fns 52=some i52:=ah
theorem s52:cD 52:=rfl
theorem c87:S.fns 87=some i87:=ah
theorem s87:cD 87:=rfl
theorem c25:S.fns 25=some i25:=ah
theorem s25:cD 25:=rfl
theorem c51:S.fns 51=some i51:=ah
theorem s51:cD 51:=rfl
theorem c53:S.fns 53=some i53:=ah
theorem s53:cD 53:=rfl
theorem c50:S.fns 50=some i50:=ah
theorem s50:cD 50:=rfl
theorem c86:S.fns 86=some i86:=ah
theorem s86:cD 86:=rfl
theorem c9:S.fns 9=some i9:=ah
theorem s9:cD 9:=rfl
theorem c21:S.fns 21=some i21:=ah
theorem s21:cD 21:=rfl
theorem c88:S.fns 88=some i88:=ah
theorem s88:cD 88:=rfl
theorem c54:S.fns 54=some i54:=ah
theorem s54:cD 54:=rfl
theorem c24:S.fns 24=some i24:=ah
theorem s24:cD 24:=rfl
theorem c121:S.fns 121=some i121:=ah
theorem s121:cD 121:=rfl
end Go.Abs
