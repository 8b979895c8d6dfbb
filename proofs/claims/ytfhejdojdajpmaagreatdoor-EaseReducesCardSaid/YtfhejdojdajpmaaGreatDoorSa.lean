/-
  The program as a system of the abstract machine.
-/
import Derived.Test.YtfhejdojdajpmaaGreatDoorMf
import Derived.Test.YtfhejdojdajpmaaGreatDoorProg
set_option linter.all false
set_option maxRecDepth 100000
noncomputable section
namespace Go.Abs
open Go.Proofs
def Ll{α:Type}:List α->Nat->Option α
  | [],_ => none
  | a::l,n => match n with | 0 => some a | n+1 => Ll l n
def lkN{α:Type}:List (Nat×α)->Nat->Option α
  | [],_ => none
  | (k,a)::l,n => bif Nat.beq k n then some a else lkN l n
noncomputable def fB(s:Nat)(o:Oper):my := match o.op with
  | .build t ps => (match Tryz.prog.underlying t,yC Tryz.prog t with | some (.struct fs),some z => ((Bp (fun i => (Ll fs.toList i).map fun f => (f.offset,Tryz.prog.cellsOf f.type)) z.length ps.toList).map (.build z)).getD .bad | _,_ => Gc Tryz.prog s o)
  | .binOp op t x y _ => (match Tryz.prog.underlying t,cF x,cF y with | some (.struct fs),some a,some b =>.eqc (.str (fs.toList.map fun f => (OO Tryz.prog f.type).getD false)) (match op with | .neq => true | _ => false) a b | _,_,_ => Gc Tryz.prog s o)
  | _ => Gc Tryz.prog s o
noncomputable def fOp(ops:List Oper)(b:List Nat)(s i:Nat)(o:Oper):bR := ⟨o.dst,fB ((s+i)*64) o,(match o.guard with | none => none | some (j,w) => (match Ll ops j with | some x => (match x.dst with | some t => some (t,w) | none => none) | none => none)),(Ll b i).getD 0⟩
noncomputable def S3(ops:List Oper)(b:List Nat)(s:Nat):Nat->List Oper->List bR
  | _,[] => []
  | i,o::r => fOp ops b s i o::S3 ops b s (i+1) r
abbrev fW(B:List (Nat×aK))(p:Nat)(y:aK):aK := match lkN B p with | some x => x | none => y
/-- the code of a function: at some places something else stands; at a drawn region the lists of what comes before each operation are given -/
noncomputable def fC(f:Nat)(A:List (Nat×List Nat))(B:List (Nat×aK)):Code->Nat->aK
  | .region id ops draw,p => bif draw then .region true (S3 ops.toList ((lkN A p).getD []) ((f*1000+id)*1000) 0 ops.toList) else .region false (S3 ops.toList [] ((f*1000+id)*1000) 0 ops.toList)
  | .seq a b,p =>.seq (fW B (2*p) (fC f A B a (2*p))) (fW B (2*p+1) (fC f A B b (2*p+1)))
  | .cond c a b,p => match cF c with | some c =>.cond c (fW B (2*p) (fC f A B a (2*p))) (fW B (2*p+1) (fC f A B b (2*p+1))) | none =>.bad
  | .block i c,p =>.block i (fW B (2*p) (fC f A B c (2*p)))
  | .loop c,p =>.loop (fW B (2*p) (fC f A B c (2*p)))
  | .exit i,_ =>.exit i
  | .scope c,p => fC f A B c p
  | .ret,_ =>.ret
  | .label _,_ =>.skip
  | .skip,_ =>.skip
  | _,_ =>.bad
noncomputable def fF(f:Nat)(A:List (Nat×List Nat))(B:List (Nat×aK)):aX := match Ll Tryz.prog.funcs.toList f with
  | some fn => (match fn.body with | some c => ⟨fn.ntmps,(zJ Tryz.prog fn.results.toList).getD [],fC f A B c 1⟩ | none => ⟨0,[],.bad⟩)
  | none => ⟨0,[],.bad⟩
/-- the part at a place -/
noncomputable def gL:aK->Nat->aK
  | .seq a b,q => bif Nat.beq q 1 then .seq a b else bif Nat.beq (q%2) 0 then gL a (q/2) else gL b (q/2)
  | .cond x a b,q => bif Nat.beq q 1 then .cond x a b else bif Nat.beq (q%2) 0 then gL a (q/2) else gL b (q/2)
  | .block i a,q => bif Nat.beq q 1 then .block i a else gL a (q/2)
  | .loop a,q => bif Nat.beq q 1 then .loop a else gL a (q/2)
  | c,_ => c
abbrev fI(f:Nat)(A:List (Nat×List Nat))(B:List (Nat×aK))(q:Nat):aK := gL (fF f A B).body q
/-- a term in normal form -/
def aF{α:Type}(f:α){g:α}(_:f=g := by conv => lhs; reduce; try simp only [Int.reduceOfNat,Int.reduceNegSucc]):α := g
attribute [go_sem] aF
abbrev om(d a:Nat):bR:=⟨some d,.jE (.t a),none,0⟩
abbrev of(d f a:Nat):bR:=⟨some d,.lZ f (.t a),none,0⟩
abbrev ol(d a:Nat):bR:=⟨some d,.load none (.t a),none,0⟩
abbrev ox(d s a:Nat):bR:=⟨some d,.load (some s) (.t a),none,0⟩
abbrev oo(d:Nat)(x:my):bR:=⟨some d,x,none,0⟩
abbrev oc(d s f:Nat)(a:List aQ):bR:=⟨some d,.call s (.k (.one (.p (.fn f [] [])))) a,none,0⟩
abbrev mb(d:Nat)(b:Bool):bR:=⟨some d,.jE (.b b),none,0⟩
abbrev ot(d:Nat)(b:BinOp)(x y:Nat):bR:=⟨some d,.bin b (.t x) (.t y),none,0⟩
abbrev oj(d:Nat)(b:BinOp)(x:Nat)(y:Int):bR:=⟨some d,.bin b (.t x) (.i y),none,0⟩
abbrev ct(a:Nat)(x y:aK):aK:=.cond (.t a) x y
abbrev rf(l:List bR):aK:=.region false l
abbrev il(k:Int):PV:=.int .i64 k
def i18:aX := aF (fF 18 [] [])
def i38:aX := aF (fF 38 [] [])
def i75_l1:aK := aF (fI 75 [] [] 75)
def i75_r2:aK := aF (fI 75 [] [] 15)
def i75:aX := (aF (fun x0 x1 => fF 75 [] [(116,x0),(15,x1)])) i75_l1 i75_r2
def i109_l1:aK := aF (fI 109 [] [] 75)
def i109_r2:aK := aF (fI 109 [] [] 15)
def i109:aX := (aF (fun x0 x1 => fF 109 [] [(116,x0),(15,x1)])) i109_l1 i109_r2
def i110:aX := aF (fF 110 [] [])
def i103:aX := aF (fF 103 [] [])
def a125:List (Nat×List Nat) := [(212,[0,1,3,7,15,31,15,79,207,463,975,2047,4095,8191,16383,32767,65535,131071,262143,524287,1048575,2097151,4194303,8388607,16777215,33554431,67108863,134217727])]
def i125:aX := aF (fF 125 a125 [])
def i104:aX := aF (fF 104 [] [])
def a105:List (Nat×List Nat) := [(259276,[0,1,3,7,0,16,63,127,255,511,1023]),(16774348,[0,1,3,7,15,31,15,79,207,463,15,1039,4047,8143,16383,32767]),(16774350,[0,0,2,7,15,0,32,127,255,511]),(33548703,[0,0,0,4,12,28,0,0,128,384,896,0,0,0,1983,18367,55295,120831,262143,524287])]
def i105_l1:aK := aF (fI 105 a105 [] 607)
def i105_l2:aK := aF (fI 105 a105 [] 4863)
def i105_l3:aK := aF (fI 105 a105 [] 38911)
def i105_r4:aK := aF (fI 105 a105 [] 8191)
def i105_r5:aK := (aF (fun x0 x1 => fI 105 a105 [(65524,x0),(8191,x1)] 1023)) i105_l3 i105_r4
def i105_r6:aK := (aF (fun x0 x1 => fI 105 a105 [(8180,x0),(1023,x1)] 127)) i105_l2 i105_r5
def i105:aX := (aF (fun x0 x1 => fF 105 a105 [(1012,x0),(127,x1)])) i105_l1 i105_r6
def PN:List (Nat×List Nat) := [(128206,[0,1,3,7,0,16,63,127,255,255,0,1535,4095]),(4102652,[0,1,3,7,15,31,63,127,255,511,1023,2047,127,4223,12415,28799,65535,131071,262143,127,524415,2097151,4194303,8388607]),(4102655,[0,1,3,7,0,16,0,127])]
def i106_l1:aK := aF (fI 106 PN [] 303)
def i106_r2:aK := aF (fI 106 PN [] 63)
def i106:aX := (aF (fun x0 x1 => fF 106 PN [(500,x0),(63,x1)])) i106_l1 i106_r2
def a107:List (Nat×List Nat) := [(126,[0,0,2,6,14,30,0,64,192,448,960,2046,4094,8191,16383]),(6,[0,1,3,7,15,31,63,0,128,384,896,1920,3968,8191,16383])]
def i107_l1:aK := aF (fI 107 a107 [] 324399)
def i107_r2:aK := aF (fI 107 a107 [] 3887)
def i107_l3:aK := (aF (fun x0 x1 => fI 107 a107 [(512828,x0),(4007,x1)] 303)) i107_l1 i107_r2
def i107_r4:aK := aF (fI 107 a107 [] 63)
def i107:aX := (aF (fun x0 x1 => fF 107 a107 [(500,x0),(63,x1)])) i107_l3 i107_r4
def i76_l1:aK := aF (fI 76 [] [] 75)
def i76_r2:aK := aF (fI 76 [] [] 15)
def i76:aX := (aF (fun x0 x1 => fF 76 [] [(116,x0),(15,x1)])) i76_l1 i76_r2
def a126:List (Nat×List Nat) := [(6,[0,1,3,7,15,31,0,64,192,448,960,63,4095]),(3770,[0,1,3,7,0,16,0,112,255,511,1023]),(1022,[0,1,3,7,0,16,63,0,255])]
def i126:aX := aF (fF 126 a126 [])
def i152:aX := aF (fF 152 [] [])
def i151:aX := aF (fF 151 [] [])
def i124:aX := aF (fF 124 [] [])
def i150_l1:aK := aF (fI 150 [] [] 37)
def i150_r2:aK := aF (fI 150 [] [] 7)
def i150:aX := (aF (fun x0 x1 => fF 150 [] [(52,x0),(7,x1)])) i150_l1 i150_r2
def a6:List (Nat×List Nat) := [(252,[0,1,3,7,15,31,63,127,255,511,1023,2047,4095,8191,16383,32767,65535,131071,262143,524287,131071,131071,2621439,7864319,16252927,33554431,67108863])]
def i6:aX := aF (fF 6 a6 [])
def i22_l1:aK := aF (fI 22 [] [] 75)
def i22_r2:aK := aF (fI 22 [] [] 15)
def i22:aX := (aF (fun x0 x1 => fF 22 [] [(116,x0),(15,x1)])) i22_l1 i22_r2
def i25:aX := aF (fF 25 [] [])
def i21_l1:aK := aF (fI 21 [] [] 75)
def i21_r2:aK := aF (fI 21 [] [] 15)
def i21:aX := (aF (fun x0 x1 => fF 21 [] [(116,x0),(15,x1)])) i21_l1 i21_r2
def i41_l1:aK := aF (fI 41 [] [] 75)
def i41_r2:aK := aF (fI 41 [] [] 15)
def i41:aX := (aF (fun x0 x1 => fF 41 [] [(116,x0),(15,x1)])) i41_l1 i41_r2
def i81_l1:aK := aF (fI 81 [] [] 75)
def i81_r2:aK := aF (fI 81 [] [] 15)
def i81:aX := (aF (fun x0 x1 => fF 81 [] [(116,x0),(15,x1)])) i81_l1 i81_r2
def FU:List (Nat×List Nat) := [(107764,[0,1,3,7,15,31,63,127,255,511,1023,2047,4095,8191,16383,32767,65535,131071,262143,524287,262143,1310719,4194303,8388607,16777215,33554431,67108863,134217727,268435455,536870911,1073741823,2147483647,1073741823,1073741823,9663676415,31138512895,68719476735,137438953471,274877906943,549755813887,1099511627775,2199023255551]),(431068,[0,1,3,7,15,31,63,127,255,511,1023,2047,4095,8191,16383,32767,65535,131071,262143,524287,1048575,2097151,4194303,8388607,16777215,33554431,16777215,83886079,218103807,536870911,1073741823,2147483647,4294967295,8589934591,17179869183,34359738367,68719476735,68719476735,206158430207,549755813887,1099511627775,2199023255551])]
def i23_l1:aK := aF (fI 23 FU [] 19237)
def i23_r2:aK := aF (fI 23 FU [] 3877)
def i23_r3:aK := aF (fI 23 FU [] 229)
def i23_l4:aK := (aF (fun x0 x1 x2 => fI 23 FU [(26932,x0),(3367,x1),(211,x2)] 37)) i23_l1 i23_r2 i23_r3
def i23_r5:aK := aF (fI 23 FU [] 7)
def i23:aX := (aF (fun x0 x1 => fF 23 FU [(52,x0),(7,x1)])) i23_l4 i23_r5
def i42_l1:aK := aF (fI 42 [] [] 75)
def i42_r2:aK := aF (fI 42 [] [] 15)
def i42:aX := (aF (fun x0 x1 => fF 42 [] [(116,x0),(15,x1)])) i42_l1 i42_r2
def a82:List (Nat×List Nat) := [(840,[0,0,3,7,15,31,15,127,255,511,1023,2047,4095,8191,16383,8191,65535,131071,262143,8191,532479,8191,3678207,7872511,16261119,33554431,67108863])]
def i82_l1:aK := aF (fI 82 a82 [] 37)
def i82_r2:aK := aF (fI 82 a82 [] 7)
def i82:aX := (aF (fun x0 x1 => fF 82 a82 [(52,x0),(7,x1)])) i82_l1 i82_r2
def i79:aX := aF (fF 79 [] [])
def FV:List (Nat×List Nat) := [(119392,[0,0,2,7,15,31,63,31,31,415,927,2047,4095,31,8223,31,57375,122911,262143,524287]),(7463,[0,0,3,7,0,16,63,0,0,384,1023,2047])]
def i43_l1:aK := aF (fI 43 FV [] 17995)
def i43_r2:aK := aF (fI 43 FV [] 7755)
def i43_r3:aK := aF (fI 43 FV [] 459)
def i43_l4:aK := (aF (fun x0 x1 x2 => fI 43 FV [(29848,x0),(7463,x1),(467,x2)] 75)) i43_l1 i43_r2 i43_r3
def i43_r5:aK := aF (fI 43 FV [] 15)
def i43:aX := (aF (fun x0 x1 => fF 43 FV [(116,x0),(15,x1)])) i43_l4 i43_r5
def i83_l1:aK := aF (fI 83 [] [] 37)
def i83_r2:aK := aF (fI 83 [] [] 7)
def i83:aX := (aF (fun x0 x1 => fF 83 [] [(52,x0),(7,x1)])) i83_l1 i83_r2
def i80:aX := aF (fF 80 [] [])
def a44:List (Nat×List Nat) := [(3754,[0,0,0,0,12,28,63,127]),(942,[0,0,0,0,12,31,63]),(8170,[0,0,0,6,0,0,48,127,255])]
def i44:aX := aF (fF 44 a44 [])
def i24_l1:aK := aF (fI 24 [] [] 153903)
def i24_r2:aK := aF (fI 24 [] [] 31023)
def i24_r3:aK := aF (fI 24 [] [] 1839)
def i24_l4:aK := (aF (fun x0 x1 x2 => fI 24 [] [(256308,x0),(32039,x1),(2003,x2)] 303)) i24_l1 i24_r2 i24_r3
def i24_r5:aK := aF (fI 24 [] [] 63)
def i24:aX := (aF (fun x0 x1 => fF 24 [] [(500,x0),(63,x1)])) i24_l4 i24_r5
def i108_l1:aK := aF (fI 108 [] [] 1215)
def i108_r2:aK := aF (fI 108 [] [] 255)
def i108:aX := (aF (fun x0 x1 => fF 108 [] [(2036,x0),(255,x1)])) i108_l1 i108_r2
def DL:List (Nat×List Nat) := [(2074219,[0,1,3,7,0,16,63,127,255,511,1023]),(129639,[0,0,2,6,14,0,32,126,255,511,1023]),(30,[0,1,0,0,8,24,56,120,0,256,0,1792,0,4096,12288,28672,65535,131071,262143])]
def i77_l1:aK := aF (fI 77 DL [] 607)
def i77_l2:aK := aF (fI 77 DL [] 314559)
def i77_r3:aK := aF (fI 77 DL [] 15551)
def i77_l4:aK := (aF (fun x0 x1 => fI 77 DL [(521420,x0),(16295,x1)] 1215)) i77_l2 i77_r3
def i77_r5:aK := aF (fI 77 DL [] 255)
def i77_r6:aK := (aF (fun x0 x1 => fI 77 DL [(2036,x0),(255,x1)] 127)) i77_l4 i77_r5
def i77:aX := (aF (fun x0 x1 => fF 77 DL [(1012,x0),(127,x1)])) i77_l1 i77_r6
def i39:aX := aF (fF 39 [] [])
def i66:aX := aF (fF 66 [] [])
def a7:List (Nat×List Nat) := [(1864,[0,1,0,7,15,0,32,0,224,480,1023])]
def i7_l1:aK := aF (fI 7 a7 [] 75)
def i7_r2:aK := aF (fI 7 a7 [] 15)
def i7:aX := (aF (fun x0 x1 => fF 7 a7 [(116,x0),(15,x1)])) i7_l1 i7_r2
def a28:List (Nat×List Nat) := [(8059720,[0,1,0,7,15,0,63]),(32238886,[0,1,0,7,15,0,63]),(125934,[0,0,2,0,0,16,56,127]),(125935,[0,0,2,0,0,16,56,127]),(1962,[0,0,2,0,0,16,56,126,255,511]),(125946,[0,0,2,0,0,16,56,126,255,511]),(251900,[0,1,3,0,8,0,32,127,0,511]),(2015226,[0,0,2,0,0,16,56,0,128,0,0,1024,3704,8190,16383,32767]),(16121852,[0,0,2,0,0,16,56,127]),(32243706,[0,0,2,0,0,16,56,127]),(32243707,[0,0,2,0,0,16,56,127]),(128974843,[0,1,0,4,0,16,0,64,0,256,783,1807,3855,8191,16383,32767]),(515899386,[0,1,0,4,0,16,0,64,0,256,0,0,2048,7168,15360,16143,48911,114447,262143,524287,1048575])]
def i28_l1:aK := aF (fI 28 a28 [] 309207)
def i28_r2:aK := aF (fI 28 a28 [] 63447)
def i28_r3:aK := aF (fI 28 a28 [] 31)
def i28:aX := (aF (fun x0 x1 x2 => fF 28 a28 [(503732,x0),(62967,x1),(31,x2)])) i28_l1 i28_r2 i28_r3
def a9:List (Nat×List Nat) := [(1864,[0,0,3,7,0,0,48,112,255])]
def i9_l1:aK := aF (fI 9 a9 [] 75)
def i9_r2:aK := aF (fI 9 a9 [] 15)
def i9:aX := (aF (fun x0 x1 => fF 9 a9 [(116,x0),(15,x1)])) i9_l1 i9_r2
def a78:List (Nat×List Nat) := [(14,[0,0,2,7,0,0,63,127,255,255,511,2047])]
def i78:aX := aF (fF 78 a78 [])
def i46:aX := aF (fF 46 [] [])
def a115:List (Nat×List Nat) := [(30,[0,1,0,4,12,31,63])]
def i115:aX := aF (fF 115 a115 [])
def a47:List (Nat×List Nat) := [(6,[0,1,3,0,15,31,63])]
def i47:aX := aF (fF 47 a47 [])
def a48:List (Nat×List Nat) := [(6,[0,1,3,0,15,31,0,64,192,0,0,1536,4032,8128,3647,32767])]
def i48:aX := aF (fF 48 a48 [])
def i50:aX := aF (fF 50 [] [])
def a49:List (Nat×List Nat) := [(7460,[0,1,0,4,0,28,60,124,255,511,1023]),(7461,[0,1,0,4,0,28,60,124,255,511,1023])]
def i49_l1:aK := aF (fI 49 a49 [] 75)
def i49_r2:aK := aF (fI 49 a49 [] 15)
def i49:aX := (aF (fun x0 x1 => fF 49 a49 [(116,x0),(15,x1)])) i49_l1 i49_r2
def a51:List (Nat×List Nat) := [(914,[0,1,0,0,8,0,56,120,248,0,1016,2047,4095,8191])]
def i51_l1:aK := aF (fI 51 a51 [] 19)
def i51:aX := (aF (fun x0 => fF 51 a51 [(28,x0)])) i51_l1
def I1:List (Nat×List Nat) := [(117064,[0,0,3,7,0,16,0,112,240,496,1023]),(3662,[0,1,0,0,8,0,56,120,248,0,1016,2047,4095,8191])]
def i55_l1:aK := aF (fI 55 I1 [] 4755)
def i55_r2:aK := aF (fI 55 I1 [] 915)
def i55_r3:aK := aF (fI 55 I1 [] 115)
def i55_l4:aK := (aF (fun x0 x1 x2 => fI 55 I1 [(7316,x0),(915,x1),(115,x2)] 19)) i55_l1 i55_r2 i55_r3
def i55:aX := (aF (fun x0 => fF 55 I1 [(28,x0)])) i55_l4
def i58:aX := aF (fF 58 [] [])
def i45_l1:aK := aF (fI 45 [] [] 38348287)
def i45_r2:aK := aF (fI 45 [] [] 3745279)
def i45_l3:aK := (aF (fun x0 x1 => fI 45 [] [(67062052,x0),(4191379,x1)] 599551)) i45_l1 i45_r2
def i45_r4:aK := aF (fI 45 [] [] 58879)
def i45_l5:aK := (aF (fun x0 x1 => fI 45 [] [(1047844,x0),(65491,x1)] 9727)) i45_l3 i45_r4
def i45_r6:aK := aF (fI 45 [] [] 2047)
def i45:aX := (aF (fun x0 x1 => fF 45 [] [(16372,x0),(2047,x1)])) i45_l5 i45_r6
def I0:List (Nat×List Nat) := [(8015054,[0,0,2,7,0,0,32,127,255,511])]
def i100_l1:aK := aF (fI 100 I0 [] 19607)
def i100_r2:aK := aF (fI 100 I0 [] 919)
def i100_l3:aK := (aF (fun x0 x1 => fI 100 I0 [(31308,x0),(979,x1)] 151)) i100_l1 i100_r2
def i100_r4:aK := aF (fI 100 I0 [] 31)
def i100:aX := (aF (fun x0 x1 => fF 100 I0 [(244,x0),(31,x1)])) i100_l3 i100_r4
def i40:aX := aF (fF 40 [] [])
def a26:List (Nat×List Nat) := [(6,[0,1,0,4,12,31,63])]
def i26:aX := aF (fF 26 a26 [])
def a111:List (Nat×List Nat) := [(2036,[0,0,2,7,15,31,63,127,255,511,1023,2047,4095,8191,16383,32767,65535,131071,262143,524287,1048575,524287,2621439,6815743,15204351,33554431,67108863,134217727,268435455,536870911,1073741823,2147483647,4294967295,8589934591,17179869183,8589934591,42949672959,111669149695,249108103167,8589934591,558345748479,2173253451775,4372276707327,8796093022207,17592186044415,35184372088831])]
def i111:aX := aF (fF 111 a111 [])
def i112:aX := aF (fF 112 [] [])
def i113:aX := aF (fF 113 [] [])
def PO:List (Nat×List Nat) := [(7833,[0,1,0,0,0,24,0,64,248,508,1020,2044,4092,8191,16383,32767])]
def i114_l1:aK := aF (fI 114 PO [] 151)
def i114_r2:aK := aF (fI 114 PO [] 31)
def i114:aX := (aF (fun x0 x1 => fF 114 PO [(244,x0),(31,x1)])) i114_l1 i114_r2
def a87:List (Nat×List Nat) := [(66361924,[0,1,0,0,12,28,60,127,255,511]),(32402,[0,0,2,6,14,31,63,127,0,511])]
def i87_l1:aK := aF (fI 87 a87 [] 307807)
def i87_r2:aK := aF (fI 87 a87 [] 62047)
def i87_r3:aK := aF (fI 87 a87 [] 3679)
def i87_l4:aK := (aF (fun x0 x1 x2 => fI 87 a87 [(518452,x0),(64807,x1),(4051,x2)] 607)) i87_l1 i87_r2 i87_r3
def i87_r5:aK := aF (fI 87 a87 [] 127)
def i87:aX := (aF (fun x0 x1 => fF 87 a87 [(1012,x0),(127,x1)])) i87_l4 i87_r5
def i141:aX:=⟨159,[(4,none)],(.seq (rf [oo 2 (.box 9024000000 (.t 0)),oo 3 (.box 9024000064 (.t 1)),mb 4 false]) (.seq (rf [of 6 0 3,ol 7 6,oc 8 9024064128 84 [.t 7],om 5 8]) (.seq (.seq (rf [om 9 5,oo 10 (.bin .eql (.t 9) (.k (.one (.p (.str ⟨#[]⟩))))),om 11 10,⟨(some 12),.jE (.t 5),(some (11,false)),0⟩,⟨(some 13),.call 9024128256 (.k (.one (.p (.fn 85 [] [])))) [.t 12,.k (.one (.p (.int .u8 66)))],(some (11,false)),0⟩,⟨(some 14),.un .not (.t 13),(some (11,false)),0⟩,⟨(some 15),.jE (.t 14),(some (11,false)),0⟩,⟨(some 16),.lZ 2 (.t 3),(some (15,true)),0⟩,⟨(some 17),.load none (.t 16),(some (15,true)),0⟩,⟨(some 18),.bin .neq (.t 17) (.i 0),(some (15,true)),0⟩,⟨(some 19),.pick (.t 15) (.t 18) (.b false),(some (11,false)),0⟩,oo 20 (.pick (.t 11) (.b true) (.t 19)),om 21 20,⟨(some 22),.jE (.t 5),(some (21,false)),0⟩,⟨(some 23),.call 9024128896 (.k (.one (.p (.fn 85 [] [])))) [.t 22,.k (.one (.p (.int .u8 67)))],(some (21,false)),0⟩, ⟨(some 24),.un .not (.t 23),(some (21,false)),0⟩,⟨(some 25),.jE (.t 24),(some (21,false)),0⟩,⟨(some 26),.lZ 3 (.t 3),(some (25,true)),0⟩,⟨(some 27),.load none (.t 26),(some (25,true)),0⟩,⟨(some 28),.bin .neq (.t 27) (.i 0),(some (25,true)),0⟩,⟨(some 29),.pick (.t 25) (.t 28) (.b false),(some (21,false)),0⟩,oo 30 (.pick (.t 21) (.b true) (.t 29)),om 31 30,⟨(some 32),.jE (.t 5),(some (31,false)),0⟩,⟨(some 33),.call 9024129536 (.k (.one (.p (.fn 85 [] [])))) [.t 32,.k (.one (.p (.int .u8 76)))],(some (31,false)),0⟩,⟨(some 34),.un .not (.t 33),(some (31,false)),0⟩,⟨(some 35),.jE (.t 34),(some (31,false)),0⟩,⟨(some 36),.lZ 4 (.t 3),(some (35,true)),0⟩,⟨(some 37),.load none (.t 36),(some (35,true)),0⟩,⟨(some 38),.pick (.t 35) (.t 37) (.b false),(some (31,false)),0⟩,oo 39 (.pick (.t 31) (.b true) (.t 38)),om 40 39,⟨(some 41),.jE (.t 5),(some (40,false)),0⟩, ⟨(some 42),.call 9024130112 (.k (.one (.p (.fn 85 [] [])))) [.t 41,.k (.one (.p (.int .u8 79)))],(some (40,false)),0⟩,⟨(some 43),.un .not (.t 42),(some (40,false)),0⟩,⟨(some 44),.jE (.t 43),(some (40,false)),0⟩,⟨(some 45),.lZ 5 (.t 3),(some (44,true)),0⟩,⟨(some 46),.load none (.t 45),(some (44,true)),0⟩,⟨(some 47),.pick (.t 44) (.t 46) (.b false),(some (40,false)),0⟩,oo 48 (.pick (.t 40) (.b true) (.t 47)),om 49 48,⟨(some 50),.jE (.t 5),(some (49,false)),0⟩,⟨(some 51),.call 9024130688 (.k (.one (.p (.fn 85 [] [])))) [.t 50,.k (.one (.p (.int .u8 83)))],(some (49,false)),0⟩,⟨(some 52),.un .not (.t 51),(some (49,false)),0⟩,⟨(some 53),.jE (.t 52),(some (49,false)),0⟩,⟨(some 54),.lZ 6 (.t 3),(some (53,true)),0⟩,⟨(some 55),.load none (.t 54),(some (53,true)),0⟩,⟨(some 56),.bin .neq (.t 55) (.i 0),(some (53,true)),0⟩,⟨(some 57),.pick (.t 53) (.t 56) (.b false),(some (49,false)),0⟩, oo 58 (.pick (.t 49) (.b true) (.t 57))]) (ct 58 (.seq (rf [mb 4 true]) .ret) .skip)) (.seq (.seq (rf [om 59 5,oc 60 9024256064 85 [.t 59,.k (.one (.p (.int .u8 83)))],om 61 60,⟨(some 62),.lZ 6 (.t 3),(some (61,true)),0⟩,⟨(some 63),.load none (.t 62),(some (61,true)),0⟩,⟨(some 64),.bin .neq (.t 63) (.i 1),(some (61,true)),0⟩,oo 65 (.pick (.t 61) (.t 64) (.b false)),om 66 65,⟨(some 67),.lZ 6 (.t 3),(some (66,true)),0⟩,⟨(some 68),.load none (.t 67),(some (66,true)),0⟩,⟨(some 69),.bin .neq (.t 68) (.i (-1)),(some (66,true)),0⟩,oo 70 (.pick (.t 66) (.t 69) (.b false))]) (ct 70 (.seq (rf [mb 4 true]) .ret) .skip)) (.seq (.seq (rf [of 71 0 3,ol 72 71,oj 73 .eql 72 2]) (ct 73 (.seq (rf [ox 74 4 2,of 75 1 3,ol 76 75,oc 77 9024448192 172 [.t 74,.t 76],oo 78 (.un .not (.t 77)),om 79 78,⟨(some 80),.lZ 2 (.t 2),(some (79,true)),0⟩, ⟨(some 81),.load none (.t 80),(some (79,true)),0⟩,⟨(some 82),.bin .eql (.t 81) (.i 0),(some (79,true)),0⟩,⟨(some 83),.jE (.t 82),(some (79,true)),0⟩,⟨(some 84),.lZ 1 (.t 3),(some (83,true)),0⟩,⟨(some 85),.load none (.t 84),(some (83,true)),0⟩,⟨(some 86),.bin .eql (.t 85) (.i 0),(some (83,true)),0⟩,⟨(some 87),.pick (.t 83) (.t 86) (.b false),(some (79,true)),0⟩,⟨(some 88),.un .not (.t 87),(some (79,true)),0⟩,oo 89 (.pick (.t 79) (.t 88) (.b false)),om 90 89,⟨(some 91),.lZ 0 (.t 2),(some (90,false)),0⟩,⟨(some 92),.load (some 2) (.t 91),(some (90,false)),0⟩,⟨(some 93),.lZ 2 (.t 3),(some (90,false)),0⟩,⟨(some 94),.load none (.t 93),(some (90,false)),0⟩,⟨(some 95),.lZ 3 (.t 3),(some (90,false)),0⟩,⟨(some 96),.load none (.t 95),(some (90,false)),0⟩,⟨(some 97),.build [il 0,il 0] [(0,1,.t 94),(1,1,.t 96)],(some (90,false)),0⟩, ⟨(some 98),.call 9024449536 (.k (.one (.p (.fn 173 [] [])))) [.t 92,.t 97],(some (90,false)),0⟩,⟨(some 99),.un .not (.t 98),(some (90,false)),0⟩,oo 100 (.pick (.t 90) (.b true) (.t 99)),om 4 100]) .ret) .skip)) (.seq (.seq (rf [ox 101 4 2,of 102 1 3,ol 103 102,oc 104 9024512192 172 [.t 101,.t 103],oo 105 (.un .not (.t 104)),om 106 105,⟨(some 107),.jE (.t 5),(some (106,false)),0⟩,⟨(some 108),.call 9024512448 (.k (.one (.p (.fn 85 [] [])))) [.t 107,.k (.one (.p (.int .u8 66)))],(some (106,false)),0⟩,⟨(some 109),.jE (.t 108),(some (106,false)),0⟩,⟨(some 110),.load (some 4) (.t 2),(some (109,true)),0⟩,⟨(some 111),.lZ 2 (.t 3),(some (109,true)),0⟩,⟨(some 112),.load none (.t 111),(some (109,true)),0⟩,⟨(some 113),.call 9024512768 (.k (.one (.p (.fn 172 [] [])))) [.t 110,.t 112],(some (109,true)),0⟩,⟨(some 114),.un .not (.t 113),(some (109,true)),0⟩, ⟨(some 115),.pick (.t 109) (.t 114) (.b false),(some (106,false)),0⟩,oo 116 (.pick (.t 106) (.b true) (.t 115)),om 117 116,⟨(some 118),.jE (.t 5),(some (117,false)),0⟩,⟨(some 119),.call 9024513152 (.k (.one (.p (.fn 85 [] [])))) [.t 118,.k (.one (.p (.int .u8 67)))],(some (117,false)),0⟩,⟨(some 120),.jE (.t 119),(some (117,false)),0⟩,⟨(some 121),.load (some 4) (.t 2),(some (120,true)),0⟩,⟨(some 122),.lZ 3 (.t 3),(some (120,true)),0⟩,⟨(some 123),.load none (.t 122),(some (120,true)),0⟩,⟨(some 124),.call 9024513472 (.k (.one (.p (.fn 172 [] [])))) [.t 121,.t 123],(some (120,true)),0⟩,⟨(some 125),.un .not (.t 124),(some (120,true)),0⟩,⟨(some 126),.pick (.t 120) (.t 125) (.b false),(some (117,false)),0⟩,oo 127 (.pick (.t 117) (.b true) (.t 126))]) (ct 127 (.seq (rf [mb 4 true]) .ret) .skip)) (.seq (.seq (rf [of 128 0 3,ol 129 128]) (.block 0 (.seq (.seq (rf [oj 131 .eql 129 3, om 130 131]) (ct 130 .skip (rf [oj 132 .eql 129 6,om 130 132]))) (ct 130 (.seq (rf [of 133 1 3,ol 134 133,of 135 2 3,ol 136 135,ot 137 .geq 134 136,om 4 137]) .ret) (.seq (rf [oj 139 .eql 129 7,om 138 139]) (ct 138 (.seq (rf [of 140 1 3,ol 141 140,of 142 2 3,ol 143 142,ot 144 .eql 141 143,om 4 144]) .ret) (.seq (rf [oj 146 .eql 129 8,om 145 146]) (ct 145 (.seq (rf [of 147 1 3,ol 148 147,of 149 2 3,ol 150 149,ot 151 .geq 148 150,om 152 151,⟨(some 153),.lZ 2 (.t 3),(some (152,false)),0⟩,⟨(some 154),.load none (.t 153),(some (152,false)),0⟩,⟨(some 155),.lZ 3 (.t 3),(some (152,false)),0⟩,⟨(some 156),.load none (.t 155),(some (152,false)),0⟩,⟨(some 157),.bin .geq (.t 154) (.t 156),(some (152,false)),0⟩,oo 158 (.pick (.t 152) (.b true) (.t 157)),om 4 158]) .ret) .skip)))))))) (.seq (rf [mb 4 false]) .ret))))))))⟩
def a142:List (Nat×List Nat) := [(1722,[0,1,3,7,15,15,47,127,15,511,1023,2047,4095,4095,12287,32767,4095,131071,262143,524287]),(7077882,[0,1,3,7,15,31,15,79,207,511,1023,2047,4095,8191,4095,20479,4095,69631,249855,524287,1048575,2097151])]
def i142:aX := aF (fF 142 a142 [])
def i88_l1:aK := aF (fI 88 [] [] 75)
def i88_r2:aK := aF (fI 88 [] [] 15)
def i88:aX := (aF (fun x0 x1 => fF 88 [] [(116,x0),(15,x1)])) i88_l1 i88_r2
def i89_l1:aK := aF (fI 89 [] [] 37)
def i89_r2:aK := aF (fI 89 [] [] 7)
def i89:aX := (aF (fun x0 x1 => fF 89 [] [(52,x0),(7,x1)])) i89_l1 i89_r2
def i92:aX := aF (fF 92 [] [])
def a93:List (Nat×List Nat) := [(3364,[0,1,0,4,0,28,60,0,128,0,896,2044,4095,8191])]
def i93_l1:aK := aF (fI 93 a93 [] 37)
def i93_r2:aK := aF (fI 93 a93 [] 7)
def i93:aX := (aF (fun x0 x1 => fF 93 a93 [(52,x0),(7,x1)])) i93_l1 i93_r2
def i84:aX:=⟨19,[(2,none)],(.seq (rf [oo 2 (.jE (.k (.one (.p (.str ⟨#[]⟩)))))]) (.seq (.seq (rf [om 3 0]) (.block 0 (.seq (.seq (rf [oj 5 .eql 3 1,om 4 5]) (ct 4 .skip (.seq (rf [oj 6 .eql 3 4,om 4 6]) (ct 4 .skip (.seq (rf [oj 7 .eql 3 9,om 4 7]) (ct 4 .skip (rf [oj 8 .eql 3 10,om 4 8]))))))) (ct 4 (.seq (rf [oo 2 (.jE (.k (.one (.p (.str ⟨#[65]⟩)))))]) .ret) (.seq (.seq (rf [oj 10 .eql 3 2,om 9 10]) (ct 9 .skip (rf [oj 11 .eql 3 8,om 9 11]))) (ct 9 (.seq (rf [oo 2 (.jE (.k (.one (.p (.str ⟨#[65,66,67]⟩)))))]) .ret) (.seq (.seq (rf [oj 13 .eql 3 3,om 12 13]) (ct 12 .skip (rf [oj 14 .eql 3 6,om 12 14]))) (ct 12 (.seq (rf [oo 2 (.jE (.k (.one (.p (.str ⟨#[65,66]⟩)))))]) .ret) (.seq (rf [oj 16 .eql 3 5,om 15 16]) (ct 15 (.seq (rf [oo 2 (.jE (.k (.one (.p (.str ⟨#[65,79,83]⟩)))))]) .ret) (.seq (rf [oj 18 .eql 3 7, om 17 18]) (ct 17 (.seq (rf [oo 2 (.jE (.k (.one (.p (.str ⟨#[65,66,76,79]⟩)))))]) .ret) .skip)))))))))))) (.seq (rf [oo 2 (.jE (.k (.one (.p (.str ⟨#[]⟩)))))]) .ret)))⟩
def i85_l1:aK := aF (fI 85 [] [] 37)
def i85_r2:aK := aF (fI 85 [] [] 7)
def i85:aX := (aF (fun x0 x1 => fF 85 [] [(52,x0),(7,x1)])) i85_l1 i85_r2
def DM:List (Nat×List Nat) := [(133468744,[0,0,3,7,0,0,48,112,0,0,768,1792,15,4111,12543,28927,65535,131071])]
def i86_l1:aK := aF (fI 86 DM [] 4793535)
def i86_r2:aK := aF (fI 86 DM [] 468159)
def i86_l3:aK := (aF (fun x0 x1 => fI 86 DM [(8341796,x0),(521363,x1)] 74943)) i86_l1 i86_r2
def i86_r4:aK := aF (fI 86 DM [] 7359)
def i86_l5:aK := (aF (fun x0 x1 => fI 86 DM [(130340,x0),(8147,x1)] 1215)) i86_l3 i86_r4
def i86_r6:aK := aF (fI 86 DM [] 255)
def i86:aX := (aF (fun x0 x1 => fF 86 DM [(2036,x0),(255,x1)])) i86_l5 i86_r6
def i122:aX := aF (fF 122 [] [])
def uE:List (Nat×List Nat) := [(262564505,[0,0,2,6,14,0,32,96,224,0,512,0,3584,8160,16352,32766,65534,131070,262143,524287])]
def i123_l1:aK := aF (fI 123 uE [] 599)
def i123_l2:aK := aF (fI 123 uE [] 4895535)
def i123_l3:aK := aF (fI 123 uE [] 10400559)
def i123_r4:aK := (aF (fun x0 => fI 123 uE [(16410300,x0)] 963375)) i123_l3
def i123_l5:aK := aF (fI 123 uE [] 4961071)
def i123_l6:aK := aF (fI 123 uE [] 5153731375)
def i123_r7:aK := aF (fI 123 uE [] 254784303)
def i123_l8:aK := (aF (fun x0 x1 => fI 123 uE [(8402105548,x0),(262565799,x1)] 19903279)) i123_l6 i123_r7
def i123_r9:aK := aF (fI 123 uE [] 3887)
def i123_l10:aK := (aF (fun x0 x1 x2 x3 x4 => fI 123 uE [(8205140,x0),(1025643,x1),(8205172,x2),(32820724,x3),(4007,x4)] 303)) i123_l2 i123_r4 i123_l5 i123_l8 i123_r9
def i123_r11:aK := aF (fI 123 uE [] 63)
def i123_r12:aK := (aF (fun x0 x1 => fI 123 uE [(500,x0),(63,x1)] 31)) i123_l10 i123_r11
def i123:aX := (aF (fun x0 x1 => fF 123 uE [(980,x0),(31,x1)])) i123_l1 i123_r12
def i127_l1:aK := aF (fI 127 [] [] 151)
def i127_r2:aK := aF (fI 127 [] [] 31)
def i127:aX := (aF (fun x0 x1 => fF 127 [] [(244,x0),(31,x1)])) i127_l1 i127_r2
def PQ:List (Nat×List Nat) := [(64030,[0,1,0,7,0,16,0,127,63,511,1023,2047]),(6,[0,1,3,7,15,31,0,64,192,448,960,63,4095])]
def i128_l1:aK := aF (fI 128 PQ [] 303)
def i128_r2:aK := aF (fI 128 PQ [] 63)
def i128:aX := (aF (fun x0 x1 => fF 128 PQ [(500,x0),(63,x1)])) i128_l1 i128_r2
def i129:aX := aF (fF 129 [] [])
def a130:List (Nat×List Nat) := [(14,[0,1,3,7,0,31,63,0,128,384,896,0,3968,8064,0,0,49279,131071])]
def i130:aX := aF (fF 130 a130 [])
def PS:List (Nat×List Nat) := [(261427,[0,0,0,0,0,0,48,112,0,0,768,1792,4083,8179,16383,32767]),(60,[0,1,3,7,15,31,63,127,127,511,1023,2047,4095,8191,16383,32767,4095,131071,262143,524287,1048575,4095,2101247,6295551,14684159,4095,65015807,132124671,266342399,534777855,1073741823,2147483647,4294967295,8589934591,8589934591,25769803775,8589934591,77309411327,266287972351,549755813887,1099511627775,2199023255551]),(62,[0,1,3,7,0,31,63,127,255,0,512,1536,3584,0,15872,32256,65024,130560,511,524287])]
def i132_l1:aK := aF (fI 132 PS [] 2431)
def i132_r2:aK := aF (fI 132 PS [] 511)
def i132:aX := (aF (fun x0 x1 => fF 132 PS [(4084,x0),(511,x1)])) i132_l1 i132_r2
def a133:List (Nat×List Nat) := [(28,[0,1,3,7,0,31,63,127,255,511,1023,2047,4095,8191,16383,2047,65535,131071,262143,524287,1048575,2097151,4194303,8388607,16777215,33554431,67108863,8388607,268435455,536870911,1073741823,2147483647,8388607,4303355903,12893290495,30073159679,8388607,133152374783,270591328255,545469235199,1095225049087,2199023255551,4398046511103]),(30,[0,1,3,7,0,16,48,112,0,496,1008,2032,4080,8176,16383,32767,65535])]
def i133:aX := aF (fF 133 a133 [])
def a135:List (Nat×List Nat) := [(126,[0,1,3,7,0,31,63,127,255,0,512,1536,3584,0,15872,32256,65024,130560,511,524287]),(1020,[0,1,3,0,15,0,32,127,255,511,1023,2047,511,8191,511,16895,65535,131071,262143,524287,524287,1572863,524287,4718591,16252927,33554431,67108863,134217727])]
def i135:aX := aF (fF 135 a135 [])
def PT:List (Nat×List Nat) := [(256414,[0,0,2,6,14,0,62,126,254,510,0,1024,3072,7168,0,31744,64512,130048,261120,524286,1048575,2097151])]
def i137_l1:aK := aF (fI 137 PT [] 303)
def i137_r2:aK := aF (fI 137 PT [] 63)
def i137:aX := (aF (fun x0 x1 => fF 137 PT [(500,x0),(63,x1)])) i137_l1 i137_r2
def i139_l1:aK := aF (fI 139 [] [] 37)
def i139_r2:aK := aF (fI 139 [] [] 7)
def i139:aX := (aF (fun x0 x1 => fF 139 [] [(52,x0),(7,x1)])) i139_l1 i139_r2
def i140:aX := aF (fF 140 [] [])
def a116:List (Nat×List Nat) := [(6,[0,1,0,0,12,28,63,127,0,256,0,0,2048,0,8192,30720,64512,130048,261888,524032,0,0,3145983,8388607])]
def i116:aX := aF (fF 116 a116 [])
def i117_l1:aK := aF (fI 117 [] [] 75)
def i117_r2:aK := aF (fI 117 [] [] 15)
def i117:aX := (aF (fun x0 x1 => fF 117 [] [(116,x0),(15,x1)])) i117_l1 i117_r2
def i118_l1:aK := aF (fI 118 [] [] 75)
def i118_r2:aK := aF (fI 118 [] [] 15)
def i118:aX := (aF (fun x0 x1 => fF 118 [] [(116,x0),(15,x1)])) i118_l1 i118_r2
def i172:aX := aF (fF 172 [] [])
def i174:aX := aF (fF 174 [] [])
def a176:List (Nat×List Nat) := [(14,[0,0,0,4,12,28,60,124,252,508,61,1087,4095])]
def i176:aX := aF (fF 176 a176 [])
def i177:aX := aF (fF 177 [] [])
def i145_l1:aK := aF (fI 145 [] [] 37)
def i145_r2:aK := aF (fI 145 [] [] 7)
def i145:aX := (aF (fun x0 x1 => fF 145 [] [(52,x0),(7,x1)])) i145_l1 i145_r2
def FQ:List (Nat×List Nat) := [(16043982,[0,1,3,0,8,24,7,71,255,511]),(15666,[0,1,3,7,0,16,48,112,0,256,0,1792,4080,8176,16383,32767,0,131071])]
def i149_l1:aK := aF (fI 149 FQ [] 309655)
def i149_r2:aK := aF (fI 149 FQ [] 63895)
def i149_r3:aK := aF (fI 149 FQ [] 1943)
def i149_l4:aK := (aF (fun x0 x1 x2 => fI 149 FQ [(501364,x0),(62671,x1),(1959,x2)] 151)) i149_l1 i149_r2 i149_r3
def i149_r5:aK := aF (fI 149 FQ [] 31)
def i149:aX := (aF (fun x0 x1 => fF 149 FQ [(244,x0),(31,x1)])) i149_l4 i149_r5
def a153:List (Nat×List Nat) := [(14,[0,1,3,7,15,0,32,96,224,0,992,2016,4095,8191,0,16384,49152,114688,245760,0,524288,1572864,3670016,0,8388608,0,58720256,133693440,267911168,536854528,1073725440,0,0,6442467327,17179869183]),(1020,[0,1,0,4,12,28,60,127])]
def i153:aX := aF (fF 153 a153 [])
def a154:List (Nat×List Nat) := [(100,[0,0,0,0,0,0,48,112,0,0,768,1792,4083,8179,16383,32767])]
def i154_l1:aK := aF (fI 154 a154 [] 9)
def i154:aX := (aF (fun x0 => fF 154 a154 [(12,x0)])) i154_l1
def W1:List (Nat×List Nat) := [(100,[0,0,0,0,0,0,48,112,0,0,768,1792,4083,8179,16383,32767])]
def i155_l1:aK := aF (fI 155 W1 [] 9)
def i155:aX := (aF (fun x0 => fF 155 W1 [(12,x0)])) i155_l1
def a156:List (Nat×List Nat) := [(6,[0,0,2,0,8,24,56,120,254,1,1023])]
def i156:aX := aF (fF 156 a156 [])
def i157_l1:aK := aF (fI 157 [] [] 75)
def i157_r2:aK := aF (fI 157 [] [] 15)
def i157:aX := (aF (fun x0 x1 => fF 157 [] [(116,x0),(15,x1)])) i157_l1 i157_r2
def i159_l1:aK := aF (fI 159 [] [] 9)
def i159:aX := (aF (fun x0 => fF 159 [] [(12,x0)])) i159_l1
def i158:aX := aF (fF 158 [] [])
def i161:aX := aF (fF 161 [] [])
def a163:List (Nat×List Nat) := [(30,[0,0,0,4,12,28,0,124,252,508,1020,2044,4092,8188,16380,32764,65532,8188,262140,524284,1048572,2097148,4194300,8388604,8189,16785407,67108863])]
def i163:aX := aF (fF 163 a163 [])
def a164:List (Nat×List Nat) := [(6,[0,1,3,7,0,16,48,112,255,511,0,1024,3072,7168,0,16384,49152,114688,245760,523264,1047552,2097151,0,8388607,16777215])]
def i164:aX := aF (fF 164 a164 [])
def i165_l1:aK := aF (fI 165 [] [] 40139)
def i165_r2:aK := aF (fI 165 [] [] 971)
def i165_l3:aK := (aF (fun x0 x1 => fI 165 [] [(59804,x0),(935,x1)] 75)) i165_l1 i165_r2
def i165_r4:aK := aF (fI 165 [] [] 15)
def i165:aX := (aF (fun x0 x1 => fF 165 [] [(116,x0),(15,x1)])) i165_l3 i165_r4
def i167:aX := aF (fF 167 [] [])
def i169:aX := aF (fF 169 [] [])
def FR:List (Nat×List Nat) := [(1910088,[0,0,3,7,0,0,32,112,240,511]),(1864,[0,0,3,7,0,0,32,112,240,511])]
def i170_l1:aK := aF (fI 170 FR [] 76363)
def i170_r2:aK := aF (fI 170 FR [] 14923)
def i170_r3:aK := aF (fI 170 FR [] 459)
def i170_l4:aK := (aF (fun x0 x1 x2 => fI 170 FR [(119380,x0),(14923,x1),(467,x2)] 75)) i170_l1 i170_r2 i170_r3
def i170_r5:aK := aF (fI 170 FR [] 15)
def i170:aX := (aF (fun x0 x1 => fF 170 FR [(116,x0),(15,x1)])) i170_l4 i170_r5
def a171:List (Nat×List Nat) := [(7475,[0,0,0,0,0,0,48,112,0,0,768,1792,4083,8179,16383,32767])]
def i171_l1:aK := aF (fI 171 a171 [] 75)
def i171_r2:aK := aF (fI 171 a171 [] 15)
def i171:aX := (aF (fun x0 x1 => fF 171 a171 [(116,x0),(15,x1)])) i171_l1 i171_r2
def i143_l1:aK := aF (fI 143 [] [] 151)
def i143_r2:aK := aF (fI 143 [] [] 31)
def i143:aX := (aF (fun x0 x1 => fF 143 [] [(244,x0),(31,x1)])) i143_l1 i143_r2
def FT:List (Nat×List Nat) := [(215460,[0,1,3,7,3,3,51,115,243,511,3,1027,3,3,12291,28675,61443,126979,262143,524287,1048575,2097151])]
def i195_l1:aK := aF (fI 195 FT [] 19237)
def i195_r2:aK := aF (fI 195 FT [] 3877)
def i195_r3:aK := aF (fI 195 FT [] 229)
def i195_l4:aK := (aF (fun x0 x1 x2 => fI 195 FT [(26932,x0),(3367,x1),(211,x2)] 37)) i195_l1 i195_r2 i195_r3
def i195_r5:aK := aF (fI 195 FT [] 7)
def i195:aX := (aF (fun x0 x1 => fF 195 FT [(52,x0),(7,x1)])) i195_l4 i195_r5
def i185:aX := aF (fF 185 [] [])
def i186:aX := aF (fF 186 [] [])
def i187:aX := aF (fF 187 [] [])
def i188_l1:aK := aF (fI 188 [] [] 17)
def i188_r2:aK := aF (fI 188 [] [] 7)
def i188:aX := (aF (fun x0 x1 => fF 188 [] [(24,x0),(7,x1)])) i188_l1 i188_r2
def i190:aX := aF (fF 190 [] [])
def i191_l1:aK := aF (fI 191 [] [] 154007)
def i191_r2:aK := aF (fI 191 [] [] 31127)
def i191_r3:aK := aF (fI 191 [] [] 1943)
def i191_l4:aK := (aF (fun x0 x1 x2 => fI 191 [] [(250676,x0),(31335,x1),(1959,x2)] 151)) i191_l1 i191_r2 i191_r3
def i191_r5:aK := aF (fI 191 [] [] 31)
def i191:aX := (aF (fun x0 x1 => fF 191 [] [(244,x0),(31,x1)])) i191_l4 i191_r5
def i192:aX := aF (fF 192 [] [])
def a194:List (Nat×List Nat) := [(29180,[0,1,3,7,7,23,63,127,7,7,775,1799,4095,8191,16383])]
def i194_l1:aK := aF (fI 194 a194 [] 19)
def i194:aX := (aF (fun x0 => fF 194 a194 [(28,x0)])) i194_l1
def PU:List (Nat×List Nat) := [(3378,[0,0,0,6,14,31])]
def i211_l1:aK := aF (fI 211 PU [] 37)
def i211_r2:aK := aF (fI 211 PU [] 7)
def i211:aX := (aF (fun x0 x1 => fF 211 PU [(52,x0),(7,x1)])) i211_l1 i211_r2
def a212:List (Nat×List Nat) := [(29180,[0,1,3,7,7,7,39,119,247,7,7,1543,3591,8191,16383,32767,65535])]
def i212_l1:aK := aF (fI 212 a212 [] 19)
def i212:aX := (aF (fun x0 => fF 212 a212 [(28,x0)])) i212_l1
def i213_l1:aK := aF (fI 213 [] [] 37)
def i213_r2:aK := aF (fI 213 [] [] 7)
def i213:aX := (aF (fun x0 x1 => fF 213 [] [(52,x0),(7,x1)])) i213_l1 i213_r2
def i193:aX := aF (fF 193 [] [])
def Mp:List (Nat×List Nat) := [(3216,[0,0,3,7,15,15,63,127,15,15,527,1807,3855,8191,16383]),(6436,[0,0,0,0,8,0,0,64,224,480,0,0,3072,7168,16355,32739,65535,131071])]
def i215_l1:aK := aF (fI 215 Mp [] 585)
def i215_r2:aK := aF (fI 215 Mp [] 57)
def i215_l3:aK := (aF (fun x0 x1 => fI 215 Mp [(804,x0),(51,x1)] 9)) i215_l1 i215_r2
def i215:aX := (aF (fun x0 => fF 215 Mp [(12,x0)])) i215_l3
def i221:aX := aF (fF 221 [] [])
def Mq:List (Nat×List Nat) := [(3216,[0,0,3,7,15,15,15,111,239,15,15,1039,3599,7695,16383,32767,65535]),(6436,[0,0,0,0,8,0,0,64,224,480,0,0,3072,7168,16355,32739,65535,131071])]
def i231_l1:aK := aF (fI 231 Mq [] 585)
def i231_r2:aK := aF (fI 231 Mq [] 57)
def i231_l3:aK := (aF (fun x0 x1 => fI 231 Mq [(804,x0),(51,x1)] 9)) i231_l1 i231_r2
def i231:aX := (aF (fun x0 => fF 231 Mq [(12,x0)])) i231_l3
def i214_l1:aK := aF (fI 214 [] [] 37)
def i214_r2:aK := aF (fI 214 [] [] 7)
def i214:aX := (aF (fun x0 x1 => fF 214 [] [(52,x0),(7,x1)])) i214_l1 i214_r2
def i242:aX := aF (fF 242 [] [])
def i3:aX := aF (fF 3 [] [])
end Go.Abs
end
namespace Go.Abs
open Go.Proofs
def EU:List Nat->Nat->Bool
 |[],_=>false
 |a::r,n=>bif Nat.beq a n then true else EU r n
def acB:List (Nat×List Nat)->Nat->List Nat
 |[],_=>[]
 |(a,l)::r,n=>bif Nat.beq a n then l else acB r n
def apC:List Nat:=[32,33,51,52,54,55,65,68,76,105,106,119,128,146,148,154,155,159,168,169,170,183,186,188,194,202,203,204,205,206,207,208,209,212,215,216,217,218,219,220,222,223,226,228,229,230,231,232,233,234,235,236,237,238,239,240,241,243,244,245,246,247,248]
def aqm:List (Nat×List Nat):=[(32,[32,65,68,33]),(33,[33]),(51,[51]),(52,[51,52]),(54,[54]),(55,[55]),(65,[65]),(68,[68]),(76,[76,105,106]),(105,[105]),(106,[106]),(119,[119]),(128,[128,154,155]),(146,[146,183,202,203,204,205,206,207,208,209,226,228,229,230,243]),(148,[148]),(154,[154]),(155,[155]),(159,[159]),(168,[168]),(169,[169,194,215,216,217,218,219,220,222,223,228,239,240,241,247]),(170,[170]),(183,[183,202,203,204,205,206,207,208,209,226,228,229,230,243]),(186,[186,212,228,231,232,233,234,235,236,237,238,244,245,246,248]),(188,[188]),(194,[194,215,216,217,218,219,220,222,223,228,239,240,241,247]),(202,[202]),(203,[203,226]),(204,[204,228]),(205,[205,229,230,243]),(206,[206]),(207,[207]),(208,[208]),(209,[209]),(212,[212,228,231,232,233,234,235,236,237,238,244,245,246,248]),(215,[215]),(216,[216,239]),(217,[217,228]),(218,[218,240,241,247]),(219,[219]),(220,[220]),(222,[222]),(223,[223]),(226,[226]),(228,[228]),(229,[229,230,243]),(230,[230,243]),(231,[231]),(232,[232,244]),(233,[228,233]),(234,[234,245,246,248]),(235,[235]),(236,[236]),(237,[237]),(238,[238]),(239,[239]),(240,[240,241,247]),(241,[241,247]),(243,[243]),(244,[244]),(245,[245,246,248]),(246,[246,248]),(247,[247]),(248,[248])]
def amJ:List Nat:=[62,3,45,27,8]
def Ve(f:Nat)(args:List V):Option (Option RV):=
 bif Nat.beq f 98 then some (Vf args)
 else bif Nat.beq f 184 then some (Lu args)
 else bif EU [40,161] f then OC args
 else bif Nat.beq f 67 then OD args
 else none
noncomputable def S:Sys:={P:=Tryz.prog,shared:=EU apC,sites:=acB aqm,lone:=fun s=>EU amJ (s/64000000),fns:=As Tryz.prog,prim:=Ve}
abbrev ch(n:Nat):Prop:=S.shared n=false
theorem c18:S.fns 18=some i18:=ah
theorem s18:ch 18:=rfl
theorem c38:S.fns 38=some i38:=ah
theorem s38:ch 38:=rfl
theorem c75:S.fns 75=some i75:=ah
theorem s75:ch 75:=rfl
theorem c109:S.fns 109=some i109:=ah
theorem s109:ch 109:=rfl
theorem c110:S.fns 110=some i110:=ah
theorem s110:ch 110:=rfl
theorem c103:S.fns 103=some i103:=ah
theorem s103:ch 103:=rfl
theorem c125:S.fns 125=some i125:=ah
theorem s125:ch 125:=rfl
theorem c104:S.fns 104=some i104:=ah
theorem s104:ch 104:=rfl
theorem c105:S.fns 105=some i105:=ah
theorem c106:S.fns 106=some i106:=ah
theorem c107:S.fns 107=some i107:=ah
theorem s107:ch 107:=rfl
theorem c76:S.fns 76=some i76:=ah
theorem c126:S.fns 126=some i126:=ah
theorem s126:ch 126:=rfl
theorem c152:S.fns 152=some i152:=ah
theorem s152:ch 152:=rfl
theorem c151:S.fns 151=some i151:=ah
theorem s151:ch 151:=rfl
theorem c124:S.fns 124=some i124:=ah
theorem s124:ch 124:=rfl
theorem c150:S.fns 150=some i150:=ah
theorem s150:ch 150:=rfl
theorem c6:S.fns 6=some i6:=ah
theorem s6:ch 6:=rfl
theorem c22:S.fns 22=some i22:=ah
theorem s22:ch 22:=rfl
theorem c25:S.fns 25=some i25:=ah
theorem s25:ch 25:=rfl
theorem c21:S.fns 21=some i21:=ah
theorem s21:ch 21:=rfl
theorem c41:S.fns 41=some i41:=ah
theorem s41:ch 41:=rfl
theorem c81:S.fns 81=some i81:=ah
theorem s81:ch 81:=rfl
theorem c23:S.fns 23=some i23:=ah
theorem s23:ch 23:=rfl
theorem c42:S.fns 42=some i42:=ah
theorem s42:ch 42:=rfl
theorem c82:S.fns 82=some i82:=ah
theorem s82:ch 82:=rfl
theorem c79:S.fns 79=some i79:=ah
theorem s79:ch 79:=rfl
theorem c43:S.fns 43=some i43:=ah
theorem s43:ch 43:=rfl
theorem c83:S.fns 83=some i83:=ah
theorem s83:ch 83:=rfl
theorem c80:S.fns 80=some i80:=ah
theorem s80:ch 80:=rfl
theorem c44:S.fns 44=some i44:=ah
theorem s44:ch 44:=rfl
theorem c24:S.fns 24=some i24:=ah
theorem s24:ch 24:=rfl
theorem c108:S.fns 108=some i108:=ah
theorem s108:ch 108:=rfl
theorem c77:S.fns 77=some i77:=ah
theorem s77:ch 77:=rfl
theorem c39:S.fns 39=some i39:=ah
theorem s39:ch 39:=rfl
theorem c66:S.fns 66=some i66:=ah
theorem s66:ch 66:=rfl
theorem c7:S.fns 7=some i7:=ah
theorem s7:ch 7:=rfl
theorem c28:S.fns 28=some i28:=ah
theorem s28:ch 28:=rfl
theorem c9:S.fns 9=some i9:=ah
theorem s9:ch 9:=rfl
theorem c78:S.fns 78=some i78:=ah
theorem s78:ch 78:=rfl
theorem c46:S.fns 46=some i46:=ah
theorem s46:ch 46:=rfl
theorem c115:S.fns 115=some i115:=ah
theorem s115:ch 115:=rfl
theorem c47:S.fns 47=some i47:=ah
theorem s47:ch 47:=rfl
theorem c48:S.fns 48=some i48:=ah
theorem s48:ch 48:=rfl
theorem c50:S.fns 50=some i50:=ah
theorem s50:ch 50:=rfl
theorem c49:S.fns 49=some i49:=ah
theorem s49:ch 49:=rfl
theorem c51:S.fns 51=some i51:=ah
theorem s51:S.shared 51=true:=ah
theorem c55:S.fns 55=some i55:=ah
theorem s55:S.shared 55=true:=ah
theorem c58:S.fns 58=some i58:=ah
theorem s58:ch 58:=rfl
theorem c45:S.fns 45=some i45:=ah
theorem s45:ch 45:=rfl
theorem c100:S.fns 100=some i100:=ah
theorem s100:ch 100:=rfl
theorem c40:S.fns 40=some i40:=ah
theorem s40:ch 40:=rfl
theorem c26:S.fns 26=some i26:=ah
theorem s26:ch 26:=rfl
theorem c111:S.fns 111=some i111:=ah
theorem s111:ch 111:=rfl
theorem c112:S.fns 112=some i112:=ah
theorem s112:ch 112:=rfl
theorem c113:S.fns 113=some i113:=ah
theorem s113:ch 113:=rfl
theorem c114:S.fns 114=some i114:=ah
theorem s114:ch 114:=rfl
theorem c87:S.fns 87=some i87:=ah
theorem s87:ch 87:=rfl
theorem c141:S.fns 141=some i141:=ah
theorem s141:ch 141:=rfl
theorem c142:S.fns 142=some i142:=ah
theorem s142:ch 142:=rfl
theorem c88:S.fns 88=some i88:=ah
theorem s88:ch 88:=rfl
theorem c89:S.fns 89=some i89:=ah
theorem s89:ch 89:=rfl
theorem c92:S.fns 92=some i92:=ah
theorem s92:ch 92:=rfl
theorem c93:S.fns 93=some i93:=ah
theorem s93:ch 93:=rfl
theorem s84:ch 84:=rfl
theorem s85:ch 85:=rfl
theorem c86:S.fns 86=some i86:=ah
theorem s86:ch 86:=rfl
theorem c122:S.fns 122=some i122:=ah
theorem s122:ch 122:=rfl
theorem c123:S.fns 123=some i123:=ah
theorem s123:ch 123:=rfl
theorem c127:S.fns 127=some i127:=ah
theorem s127:ch 127:=rfl
theorem c128:S.fns 128=some i128:=ah
theorem c129:S.fns 129=some i129:=ah
theorem s129:ch 129:=rfl
theorem c130:S.fns 130=some i130:=ah
theorem c132:S.fns 132=some i132:=ah
theorem c133:S.fns 133=some i133:=ah
theorem c135:S.fns 135=some i135:=ah
theorem c137:S.fns 137=some i137:=ah
theorem c139:S.fns 139=some i139:=ah
theorem s139:ch 139:=rfl
theorem c140:S.fns 140=some i140:=ah
theorem s140:ch 140:=rfl
theorem c116:S.fns 116=some i116:=ah
theorem s116:ch 116:=rfl
theorem c117:S.fns 117=some i117:=ah
theorem s117:ch 117:=rfl
theorem c118:S.fns 118=some i118:=ah
theorem s118:ch 118:=rfl
theorem c172:S.fns 172=some i172:=ah
theorem s172:ch 172:=rfl
theorem c174:S.fns 174=some i174:=ah
theorem s174:ch 174:=rfl
theorem c176:S.fns 176=some i176:=ah
theorem s176:ch 176:=rfl
theorem c177:S.fns 177=some i177:=ah
theorem s177:ch 177:=rfl
theorem c145:S.fns 145=some i145:=ah
theorem s145:ch 145:=rfl
theorem c149:S.fns 149=some i149:=ah
theorem s149:ch 149:=rfl
theorem c153:S.fns 153=some i153:=ah
theorem s153:ch 153:=rfl
theorem c154:S.fns 154=some i154:=ah
theorem c155:S.fns 155=some i155:=ah
theorem c156:S.fns 156=some i156:=ah
theorem s156:ch 156:=rfl
theorem c157:S.fns 157=some i157:=ah
theorem s157:ch 157:=rfl
theorem c159:S.fns 159=some i159:=ah
theorem c158:S.fns 158=some i158:=ah
theorem s158:ch 158:=rfl
theorem c161:S.fns 161=some i161:=ah
theorem s161:ch 161:=rfl
theorem c163:S.fns 163=some i163:=ah
theorem s163:ch 163:=rfl
theorem c164:S.fns 164=some i164:=ah
theorem s164:ch 164:=rfl
theorem c165:S.fns 165=some i165:=ah
theorem s165:ch 165:=rfl
theorem c167:S.fns 167=some i167:=ah
theorem s167:ch 167:=rfl
theorem c169:S.fns 169=some i169:=ah
theorem c170:S.fns 170=some i170:=ah
theorem c171:S.fns 171=some i171:=ah
theorem s171:ch 171:=rfl
theorem c143:S.fns 143=some i143:=ah
theorem s143:ch 143:=rfl
theorem c195:S.fns 195=some i195:=ah
theorem s195:ch 195:=rfl
theorem c185:S.fns 185=some i185:=ah
theorem c186:S.fns 186=some i186:=ah
theorem c187:S.fns 187=some i187:=ah
theorem c188:S.fns 188=some i188:=ah
theorem c190:S.fns 190=some i190:=ah
theorem s190:ch 190:=rfl
theorem c191:S.fns 191=some i191:=ah
theorem s191:ch 191:=rfl
theorem c192:S.fns 192=some i192:=ah
theorem s192:ch 192:=rfl
theorem c194:S.fns 194=some i194:=ah
theorem s194:S.shared 194=true:=ah
theorem c211:S.fns 211=some i211:=ah
theorem s211:ch 211:=rfl
theorem c212:S.fns 212=some i212:=ah
theorem s212:S.shared 212=true:=ah
theorem c213:S.fns 213=some i213:=ah
theorem s213:ch 213:=rfl
theorem c193:S.fns 193=some i193:=ah
theorem s193:ch 193:=rfl
theorem c215:S.fns 215=some i215:=ah
theorem s215:S.shared 215=true:=ah
theorem c221:S.fns 221=some i221:=ah
theorem s221:ch 221:=rfl
theorem c231:S.fns 231=some i231:=ah
theorem s231:S.shared 231=true:=ah
theorem c214:S.fns 214=some i214:=ah
theorem s214:ch 214:=rfl
theorem c242:S.fns 242=some i242:=ah
theorem s242:ch 242:=rfl
theorem c3:S.fns 3=some i3:=ah
theorem s3:ch 3:=rfl
end Go.Abs
namespace Go.Abs
noncomputable section
def i5:aX := aF (fF 5 [] [])
def i20:aX := aF (fF 20 [] [])
def i19_l1:aK := aF (fI 19 [] [] 75)
def i19_r2:aK := aF (fI 19 [] [] 15)
def i19:aX := (aF (fun x0 x1 => fF 19 [] [(116,x0),(15,x1)])) i19_l1 i19_r2
def i34:aX := aF (fF 34 [] [])
def i8_l1:aK := aF (fI 8 [] [] 39)
def i8:aX := (aF (fun x0 => fF 8 [] [(60,x0)])) i8_l1
def a27:List (Nat×List Nat) := [(1864,[0,0,0,6,14,31,63])]
def i27_l1:aK := aF (fI 27 a27 [] 75)
def i27_r2:aK := aF (fI 27 a27 [] 15)
def i27:aX := (aF (fun x0 x1 => fF 27 a27 [(116,x0),(15,x1)])) i27_l1 i27_r2
end
theorem c5:S.fns 5=some i5:=ah
theorem s5:ch 5:=rfl
theorem c20:S.fns 20=some i20:=ah
theorem s20:ch 20:=rfl
theorem c19:S.fns 19=some i19:=ah
theorem s19:ch 19:=rfl
theorem c34:S.fns 34=some i34:=ah
theorem s34:ch 34:=rfl
theorem s4:ch 4:=rfl
theorem c8:S.fns 8=some i8:=ah
theorem s8:ch 8:=rfl
theorem c27:S.fns 27=some i27:=ah
theorem s27:ch 27:=rfl
theorem s67:ch 67:=rfl
end Go.Abs
