/-
  The program as a system of the abstract machine.
-/
import Derived.Test.YtonblbhhnelniaaGreatDoorMf
import Derived.Test.YtonblbhhnelniaaGreatDoorProg
set_option linter.all false
set_option maxRecDepth 100000
noncomputable section
namespace Go.Abs
open Go.Proofs
def Ni{α:Type}:List α->Nat->Option α
  | [],_ => none
  | a::l,n => match n with | 0 => some a | n+1 => Ni l n
def lkN{α:Type}:List (Nat×α)->Nat->Option α
  | [],_ => none
  | (k,a)::l,n => bif Nat.beq k n then some a else lkN l n
noncomputable def fB(s:Nat)(o:Oper):mT := match o.op with
  | .build t ps => (match Tryz.prog.underlying t,zX Tryz.prog t with | some (.struct fs),some z => ((CZ (fun i => (Ni fs.toList i).map fun f => (f.offset,Tryz.prog.cellsOf f.type)) z.length ps.toList).map (.build z)).getD .bad | _,_ => HP Tryz.prog s o)
  | .binOp op t x y _ => (match Tryz.prog.underlying t,cA x,cA y with | some (.struct fs),some a,some b =>.eqc (.str (fs.toList.map fun f => (QP Tryz.prog f.type).getD false)) (match op with | .neq => true | _ => false) a b | _,_,_ => HP Tryz.prog s o)
  | _ => HP Tryz.prog s o
noncomputable def fOp(ops:List Oper)(b:List Nat)(s i:Nat)(o:Oper):bl := ⟨o.dst,fB ((s+i)*64) o,(match o.guard with | none => none | some (j,w) => (match Ni ops j with | some x => (match x.dst with | some t => some (t,w) | none => none) | none => none)),(Ni b i).getD 0⟩
noncomputable def UL(ops:List Oper)(b:List Nat)(s:Nat):Nat->List Oper->List bl
  | _,[] => []
  | i,o::r => fOp ops b s i o::UL ops b s (i+1) r
abbrev fW(B:List (Nat×aJ))(p:Nat)(y:aJ):aJ := match lkN B p with | some x => x | none => y
/-- the code of a function: at some places something else stands; at a drawn region the lists of what comes before each operation are given -/
noncomputable def fC(f:Nat)(A:List (Nat×List Nat))(B:List (Nat×aJ)):Code->Nat->aJ
  | .region id ops draw,p => bif draw then .region true (UL ops.toList ((lkN A p).getD []) ((f*1000+id)*1000) 0 ops.toList) else .region false (UL ops.toList [] ((f*1000+id)*1000) 0 ops.toList)
  | .seq a b,p =>.seq (fW B (2*p) (fC f A B a (2*p))) (fW B (2*p+1) (fC f A B b (2*p+1)))
  | .cond c a b,p => match cA c with | some c =>.cond c (fW B (2*p) (fC f A B a (2*p))) (fW B (2*p+1) (fC f A B b (2*p+1))) | none =>.bad
  | .block i c,p =>.block i (fW B (2*p) (fC f A B c (2*p)))
  | .loop c,p =>.loop (fW B (2*p) (fC f A B c (2*p)))
  | .exit i,_ =>.exit i
  | .scope c,p => fC f A B c p
  | .ret,_ =>.ret
  | .label _,_ =>.skip
  | .skip,_ =>.skip
  | _,_ =>.bad
noncomputable def fF(f:Nat)(A:List (Nat×List Nat))(B:List (Nat×aJ)):aW := match Ni Tryz.prog.funcs.toList f with
  | some fn => (match fn.body with | some c => ⟨fn.ntmps,(Bg Tryz.prog fn.results.toList).getD [],fC f A B c 1⟩ | none => ⟨0,[],.bad⟩)
  | none => ⟨0,[],.bad⟩
/-- the part at a place -/
noncomputable def gL:aJ->Nat->aJ
  | .seq a b,q => bif Nat.beq q 1 then .seq a b else bif Nat.beq (q%2) 0 then gL a (q/2) else gL b (q/2)
  | .cond x a b,q => bif Nat.beq q 1 then .cond x a b else bif Nat.beq (q%2) 0 then gL a (q/2) else gL b (q/2)
  | .block i a,q => bif Nat.beq q 1 then .block i a else gL a (q/2)
  | .loop a,q => bif Nat.beq q 1 then .loop a else gL a (q/2)
  | c,_ => c
abbrev fI(f:Nat)(A:List (Nat×List Nat))(B:List (Nat×aJ))(q:Nat):aJ := gL (fF f A B).body q
/-- a term in normal form -/
def aG{α:Type}(f:α){g:α}(_:f=g := by conv => lhs; reduce; try simp only [Int.reduceOfNat,Int.reduceNegSucc]):α := g
attribute [go_sem] aG
abbrev om(d a:Nat):bl:=⟨some d,.ym (.t a),none,0⟩
abbrev of(d f a:Nat):bl:=⟨some d,.FP f (.t a),none,0⟩
abbrev ol(d a:Nat):bl:=⟨some d,.load none (.t a),none,0⟩
abbrev ox(d s a:Nat):bl:=⟨some d,.load (some s) (.t a),none,0⟩
abbrev oo(d:Nat)(x:mT):bl:=⟨some d,x,none,0⟩
abbrev oi(d z a b:Nat):bl:=⟨some d,.Gu z (.t a) (.t b),none,0⟩
abbrev oc(d s f:Nat)(a:List aQ):bl:=⟨some d,.call s (.k (.one (.p (.fn f [] [])))) a,none,0⟩
abbrev dm(d a n:Nat):bl:=⟨some d,.ym (.t a),none,n⟩
abbrev dl(d a n:Nat):bl:=⟨some d,.load none (.t a),none,n⟩
abbrev dc(d s f:Nat)(a:List aQ)(n:Nat):bl:=⟨some d,.call s (.k (.one (.p (.fn f [] [])))) a,none,n⟩
abbrev os(z a b:Nat):bl:=⟨none,.store z (.t a) (.t b),none,0⟩
abbrev mi(d:Nat)(k:Int):bl:=⟨some d,.ym (.i k),none,0⟩
abbrev ot(d:Nat)(b:BinOp)(x y:Nat):bl:=⟨some d,.bin b (.t x) (.t y),none,0⟩
abbrev oj(d:Nat)(b:BinOp)(x:Nat)(y:Int):bl:=⟨some d,.bin b (.t x) (.i y),none,0⟩
abbrev dt(d:Nat)(b:BinOp)(x y n:Nat):bl:=⟨some d,.bin b (.t x) (.t y),none,n⟩
abbrev oh(d a:Nat):bl:=⟨some d,.Jh (.t a),none,0⟩
abbrev ct(a:Nat)(x y:aJ):aJ:=.cond (.t a) x y
abbrev rf(l:List bl):aJ:=.region false l
abbrev rt(l:List bl):aJ:=.region true l
abbrev il(k:Int):PV:=.int .i64 k
abbrev od(d:Nat)(x:mT)(n:Nat):bl:=⟨some d,x,none,n⟩
def i18:aW := aG (fF 18 [] [])
def i21:aW := aG (fF 21 [] [])
def i38_l1:aJ := aG (fI 38 [] [] 75)
def i38_r2:aJ := aG (fI 38 [] [] 15)
def i38:aW := (aG (fun x0 x1 => fF 38 [] [(116,x0),(15,x1)])) i38_l1 i38_r2
def i87_l1:aJ := aG (fI 87 [] [] 75)
def i87_r2:aJ := aG (fI 87 [] [] 15)
def i87:aW := (aG (fun x0 x1 => fF 87 [] [(116,x0),(15,x1)])) i87_l1 i87_r2
def i92:aW := aG (fF 92 [] [])
def i61:aW := aG (fF 61 [] [])
def a86:List (Nat×List Nat) := [(212,[0,1,3,7,15,31,15,79,207,463,975,2047,4095,8191,16383,32767,65535,131071,262143,524287,1048575,2097151,4194303,8388607,16777215,33554431,67108863,134217727])]
def i86:aW := aG (fF 86 a86 [])
def i62:aW := aG (fF 62 [] [])
def a63:List (Nat×List Nat) := [(259276,[0,1,3,7,0,16,63,127,255,511,1023]),(16774348,[0,1,3,7,15,31,15,79,207,463,15,1039,4047,8143,16383,32767]),(16774350,[0,0,2,7,15,0,32,127,255,511]),(33548703,[0,0,0,4,12,28,0,0,128,384,896,0,0,0,1983,18367,55295,120831,262143,524287])]
def i63_l1:aJ := aG (fI 63 a63 [] 607)
def i63_l2:aJ := aG (fI 63 a63 [] 4863)
def i63_l3:aJ := aG (fI 63 a63 [] 38911)
def i63_r4:aJ := aG (fI 63 a63 [] 8191)
def i63_r5:aJ := (aG (fun x0 x1 => fI 63 a63 [(65524,x0),(8191,x1)] 1023)) i63_l3 i63_r4
def i63_r6:aJ := (aG (fun x0 x1 => fI 63 a63 [(8180,x0),(1023,x1)] 127)) i63_l2 i63_r5
def i63:aW := (aG (fun x0 x1 => fF 63 a63 [(1012,x0),(127,x1)])) i63_l1 i63_r6
def a64:List (Nat×List Nat) := [(128206,[0,1,3,7,0,16,63,127,255,255,0,1535,4095]),(4102652,[0,1,3,7,15,31,63,127,255,511,1023,2047,127,4223,12415,28799,65535,131071,262143,127,524415,2097151,4194303,8388607]),(4102655,[0,1,3,7,0,16,0,127])]
def i64_l1:aJ := aG (fI 64 a64 [] 303)
def i64_r2:aJ := aG (fI 64 a64 [] 63)
def i64:aW := (aG (fun x0 x1 => fF 64 a64 [(500,x0),(63,x1)])) i64_l1 i64_r2
def a65:List (Nat×List Nat) := [(126,[0,0,2,6,14,30,0,64,192,448,960,2046,4094,8191,16383]),(6,[0,1,3,7,15,31,63,0,128,384,896,1920,3968,8191,16383])]
def i65_l1:aJ := aG (fI 65 a65 [] 324399)
def i65_r2:aJ := aG (fI 65 a65 [] 3887)
def i65_l3:aJ := (aG (fun x0 x1 => fI 65 a65 [(512828,x0),(4007,x1)] 303)) i65_l1 i65_r2
def i65_r4:aJ := aG (fI 65 a65 [] 63)
def i65:aW := (aG (fun x0 x1 => fF 65 a65 [(500,x0),(63,x1)])) i65_l3 i65_r4
def i39_l1:aJ := aG (fI 39 [] [] 75)
def i39_r2:aJ := aG (fI 39 [] [] 15)
def i39:aW := (aG (fun x0 x1 => fF 39 [] [(116,x0),(15,x1)])) i39_l1 i39_r2
def a88:List (Nat×List Nat) := [(6,[0,1,3,7,15,31,0,64,192,448,960,63,4095]),(3770,[0,1,3,7,0,16,0,112,255,511,1023]),(1022,[0,1,3,7,0,16,63,0,255])]
def i88:aW := aG (fF 88 a88 [])
def i104:aW := aG (fF 104 [] [])
def i103:aW := aG (fF 103 [] [])
def i85:aW := aG (fF 85 [] [])
def i102_l1:aJ := aG (fI 102 [] [] 37)
def i102_r2:aJ := aG (fI 102 [] [] 7)
def i102:aW := (aG (fun x0 x1 => fF 102 [] [(52,x0),(7,x1)])) i102_l1 i102_r2
def i91_l1:aJ := aG (fI 91 [] [] 1215)
def i91_r2:aJ := aG (fI 91 [] [] 255)
def i91:aW := (aG (fun x0 x1 => fF 91 [] [(2036,x0),(255,x1)])) i91_l1 i91_r2
def a74:List (Nat×List Nat) := [(2074219,[0,1,3,7,0,16,63,127,255,511,1023]),(129639,[0,0,2,6,14,0,32,126,255,511,1023]),(30,[0,1,0,0,8,24,56,120,0,256,0,1792,0,4096,12288,28672,65535,131071,262143])]
def i74_l1:aJ := aG (fI 74 a74 [] 607)
def i74_l2:aJ := aG (fI 74 a74 [] 314559)
def i74_r3:aJ := aG (fI 74 a74 [] 15551)
def i74_l4:aJ := (aG (fun x0 x1 => fI 74 a74 [(521420,x0),(16295,x1)] 1215)) i74_l2 i74_r3
def i74_r5:aJ := aG (fI 74 a74 [] 255)
def i74_r6:aJ := (aG (fun x0 x1 => fI 74 a74 [(2036,x0),(255,x1)] 127)) i74_l4 i74_r5
def i74:aW := (aG (fun x0 x1 => fF 74 a74 [(1012,x0),(127,x1)])) i74_l1 i74_r6
def i46:aW := aG (fF 46 [] [])
def i52:aW := aG (fF 52 [] [])
def a9:List (Nat×List Nat) := [(1864,[0,0,3,7,0,0,48,112,255])]
def i9_l1:aJ := aG (fI 9 a9 [] 75)
def i9_r2:aJ := aG (fI 9 a9 [] 15)
def i9:aW := (aG (fun x0 x1 => fF 9 a9 [(116,x0),(15,x1)])) i9_l1 i9_r2
def a75:List (Nat×List Nat) := [(14,[0,0,2,7,0,0,63,127,255,255,511,2047])]
def i75:aW := aG (fF 75 a75 [])
def a82:List (Nat×List Nat) := [(8015054,[0,0,2,7,0,0,32,127,255,511])]
def i82_l1:aJ := aG (fI 82 a82 [] 19607)
def i82_r2:aJ := aG (fI 82 a82 [] 919)
def i82_l3:aJ := (aG (fun x0 x1 => fI 82 a82 [(31308,x0),(979,x1)] 151)) i82_l1 i82_r2
def i82_r4:aJ := aG (fI 82 a82 [] 31)
def i82:aW := (aG (fun x0 x1 => fF 82 a82 [(244,x0),(31,x1)])) i82_l3 i82_r4
def i47:aW := aG (fF 47 [] [])
def a93:List (Nat×List Nat) := [(2036,[0,0,2,7,15,31,63,127,255,511,1023,2047,4095,8191,16383,32767,65535,131071,262143,524287,1048575,524287,2621439,6815743,15204351,33554431,67108863,134217727,268435455,536870911,1073741823,2147483647,4294967295,8589934591,17179869183,8589934591,42949672959,111669149695,249108103167,8589934591,558345748479,2173253451775,4372276707327,8796093022207,17592186044415,35184372088831])]
def i93:aW := aG (fF 93 a93 [])
def i94:aW := aG (fF 94 [] [])
def i95:aW := aG (fF 95 [] [])
def a96:List (Nat×List Nat) := [(7833,[0,1,0,0,0,24,0,64,248,508,1020,2044,4092,8191,16383,32767])]
def i96_l1:aJ := aG (fI 96 a96 [] 151)
def i96_r2:aJ := aG (fI 96 a96 [] 31)
def i96:aW := (aG (fun x0 x1 => fF 96 a96 [(244,x0),(31,x1)])) i96_l1 i96_r2
def i100:aW := aG (fF 100 [] [])
def vO:List (Nat×List Nat) := [(262564505,[0,0,2,6,14,0,32,96,224,0,512,0,3584,8160,16352,32766,65534,131070,262143,524287])]
def i101_l1:aJ := aG (fI 101 vO [] 599)
def i101_l2:aJ := aG (fI 101 vO [] 4895535)
def i101_l3:aJ := aG (fI 101 vO [] 10400559)
def i101_r4:aJ := (aG (fun x0 => fI 101 vO [(16410300,x0)] 963375)) i101_l3
def i101_l5:aJ := aG (fI 101 vO [] 4961071)
def i101_l6:aJ := aG (fI 101 vO [] 5153731375)
def i101_r7:aJ := aG (fI 101 vO [] 254784303)
def i101_l8:aJ := (aG (fun x0 x1 => fI 101 vO [(8402105548,x0),(262565799,x1)] 19903279)) i101_l6 i101_r7
def i101_r9:aJ := aG (fI 101 vO [] 3887)
def i101_l10:aJ := (aG (fun x0 x1 x2 x3 x4 => fI 101 vO [(8205140,x0),(1025643,x1),(8205172,x2),(32820724,x3),(4007,x4)] 303)) i101_l2 i101_r4 i101_l5 i101_l8 i101_r9
def i101_r11:aJ := aG (fI 101 vO [] 63)
def i101_r12:aJ := (aG (fun x0 x1 => fI 101 vO [(500,x0),(63,x1)] 31)) i101_l10 i101_r11
def i101:aW := (aG (fun x0 x1 => fF 101 vO [(980,x0),(31,x1)])) i101_l1 i101_r12
def i28:aW := aG (fF 28 [] [])
def i105_l1:aJ := aG (fI 105 [] [] 151)
def i105_r2:aJ := aG (fI 105 [] [] 31)
def i105:aW := (aG (fun x0 x1 => fF 105 [] [(244,x0),(31,x1)])) i105_l1 i105_r2
def RQ:List (Nat×List Nat) := [(64030,[0,1,0,7,0,16,0,127,63,511,1023,2047]),(6,[0,1,3,7,15,31,0,64,192,448,960,63,4095])]
def i106_l1:aJ := aG (fI 106 RQ [] 303)
def i106_r2:aJ := aG (fI 106 RQ [] 63)
def i106:aW := (aG (fun x0 x1 => fF 106 RQ [(500,x0),(63,x1)])) i106_l1 i106_r2
def i107:aW := aG (fF 107 [] [])
def a108:List (Nat×List Nat) := [(14,[0,1,3,7,0,31,63,0,128,384,896,0,3968,8064,0,0,49279,131071])]
def i108:aW := aG (fF 108 a108 [])
def RR:List (Nat×List Nat) := [(261427,[0,0,0,0,0,0,48,112,0,0,768,1792,4083,8179,16383,32767]),(60,[0,1,3,7,15,31,63,127,127,511,1023,2047,4095,8191,16383,32767,4095,131071,262143,524287,1048575,4095,2101247,6295551,14684159,4095,65015807,132124671,266342399,534777855,1073741823,2147483647,4294967295,8589934591,8589934591,25769803775,8589934591,77309411327,266287972351,549755813887,1099511627775,2199023255551]),(62,[0,1,3,7,0,31,63,127,255,0,512,1536,3584,0,15872,32256,65024,130560,511,524287])]
def i110_l1:aJ := aG (fI 110 RR [] 2431)
def i110_r2:aJ := aG (fI 110 RR [] 511)
def i110:aW := (aG (fun x0 x1 => fF 110 RR [(4084,x0),(511,x1)])) i110_l1 i110_r2
def a111:List (Nat×List Nat) := [(28,[0,1,3,7,0,31,63,127,255,511,1023,2047,4095,8191,16383,2047,65535,131071,262143,524287,1048575,2097151,4194303,8388607,16777215,33554431,67108863,8388607,268435455,536870911,1073741823,2147483647,8388607,4303355903,12893290495,30073159679,8388607,133152374783,270591328255,545469235199,1095225049087,2199023255551,4398046511103]),(30,[0,1,3,7,0,16,48,112,0,496,1008,2032,4080,8176,16383,32767,65535])]
def i111:aW := aG (fF 111 a111 [])
def a113:List (Nat×List Nat) := [(126,[0,1,3,7,0,31,63,127,255,0,512,1536,3584,0,15872,32256,65024,130560,511,524287]),(1020,[0,1,3,0,15,0,32,127,255,511,1023,2047,511,8191,511,16895,65535,131071,262143,524287,524287,1572863,524287,4718591,16252927,33554431,67108863,134217727])]
def i113:aW := aG (fF 113 a113 [])
def RW:List (Nat×List Nat) := [(256414,[0,0,2,6,14,0,62,126,254,510,0,1024,3072,7168,0,31744,64512,130048,261120,524286,1048575,2097151])]
def i115_l1:aJ := aG (fI 115 RW [] 303)
def i115_r2:aJ := aG (fI 115 RW [] 63)
def i115:aW := (aG (fun x0 x1 => fF 115 RW [(500,x0),(63,x1)])) i115_l1 i115_r2
def i117_l1:aJ := aG (fI 117 [] [] 37)
def i117_r2:aJ := aG (fI 117 [] [] 7)
def i117:aW := (aG (fun x0 x1 => fF 117 [] [(52,x0),(7,x1)])) i117_l1 i117_r2
def i118:aW := aG (fF 118 [] [])
def i120_l1:aJ := aG (fI 120 [] [] 37)
def i120_r2:aJ := aG (fI 120 [] [] 7)
def i120:aW := (aG (fun x0 x1 => fF 120 [] [(52,x0),(7,x1)])) i120_l1 i120_r2
def a124:List (Nat×List Nat) := [(16043982,[0,1,3,0,8,24,7,71,255,511]),(15666,[0,1,3,7,0,16,48,112,0,256,0,1792,4080,8176,16383,32767,0,131071])]
def i124_l1:aJ := aG (fI 124 a124 [] 309655)
def i124_r2:aJ := aG (fI 124 a124 [] 63895)
def i124_r3:aJ := aG (fI 124 a124 [] 1943)
def i124_l4:aJ := (aG (fun x0 x1 x2 => fI 124 a124 [(501364,x0),(62671,x1),(1959,x2)] 151)) i124_l1 i124_r2 i124_r3
def i124_r5:aJ := aG (fI 124 a124 [] 31)
def i124:aW := (aG (fun x0 x1 => fF 124 a124 [(244,x0),(31,x1)])) i124_l4 i124_r5
def a48:List (Nat×List Nat) := [(28,[0,1,3,7,15,0,32,127,255,0])]
def i48_l1:aJ := aG (fI 48 a48 [] 40139)
def i48_r2:aJ := aG (fI 48 a48 [] 971)
def i48_l3:aJ := (aG (fun x0 x1 => fI 48 a48 [(59804,x0),(935,x1)] 75)) i48_l1 i48_r2
def i48_r4:aJ := aG (fI 48 a48 [] 15)
def i48:aW := (aG (fun x0 x1 => fF 48 a48 [(116,x0),(15,x1)])) i48_l3 i48_r4
def a125:List (Nat×List Nat) := [(14,[0,1,3,7,15,0,32,96,224,0,992,2016,4095,8191,0,16384,49152,114688,245760,0,524288,1572864,3670016,0,8388608,0,58720256,133693440,267911168,536854528,1073725440,0,0,6442467327,17179869183]),(1020,[0,1,0,4,12,28,60,127])]
def i125:aW := aG (fF 125 a125 [])
def X5:List (Nat×List Nat) := [(100,[0,0,0,0,0,0,48,112,0,0,768,1792,4083,8179,16383,32767])]
def i126_l1:aJ := aG (fI 126 X5 [] 9)
def i126:aW := (aG (fun x0 => fF 126 X5 [(12,x0)])) i126_l1
def a70:List (Nat×List Nat) := [(100,[0,0,0,0,0,0,48,112,0,0,768,1792,4083,8179,16383,32767])]
def i70_l1:aJ := aG (fI 70 a70 [] 9)
def i70:aW := (aG (fun x0 => fF 70 a70 [(12,x0)])) i70_l1
def a127:List (Nat×List Nat) := [(6,[0,0,2,0,8,24,56,120,254,1,1023])]
def i127:aW := aG (fF 127 a127 [])
def i128_l1:aJ := aG (fI 128 [] [] 75)
def i128_r2:aJ := aG (fI 128 [] [] 15)
def i128:aW := (aG (fun x0 x1 => fF 128 [] [(116,x0),(15,x1)])) i128_l1 i128_r2
def i130_l1:aJ := aG (fI 130 [] [] 9)
def i130:aW := (aG (fun x0 => fF 130 [] [(12,x0)])) i130_l1
def i129:aW := aG (fF 129 [] [])
def i132:aW := aG (fF 132 [] [])
def a134:List (Nat×List Nat) := [(30,[0,0,0,4,12,28,0,124,252,508,1020,2044,4092,8188,16380,32764,65532,8188,262140,524284,1048572,2097148,4194300,8388604,8189,16785407,67108863])]
def i134:aW := aG (fF 134 a134 [])
def a135:List (Nat×List Nat) := [(6,[0,1,3,7,0,16,48,112,255,511,0,1024,3072,7168,0,16384,49152,114688,245760,523264,1047552,2097151,0,8388607,16777215])]
def i135:aW := aG (fF 135 a135 [])
def i136_l1:aJ := aG (fI 136 [] [] 40139)
def i136_r2:aJ := aG (fI 136 [] [] 971)
def i136_l3:aJ := (aG (fun x0 x1 => fI 136 [] [(59804,x0),(935,x1)] 75)) i136_l1 i136_r2
def i136_r4:aJ := aG (fI 136 [] [] 15)
def i136:aW := (aG (fun x0 x1 => fF 136 [] [(116,x0),(15,x1)])) i136_l3 i136_r4
def i138:aW := aG (fF 138 [] [])
def i140:aW := aG (fF 140 [] [])
def a141:List (Nat×List Nat) := [(1910088,[0,0,3,7,0,0,32,112,240,511]),(1864,[0,0,3,7,0,0,32,112,240,511])]
def i141_l1:aJ := aG (fI 141 a141 [] 76363)
def i141_r2:aJ := aG (fI 141 a141 [] 14923)
def i141_r3:aJ := aG (fI 141 a141 [] 459)
def i141_l4:aJ := (aG (fun x0 x1 x2 => fI 141 a141 [(119380,x0),(14923,x1),(467,x2)] 75)) i141_l1 i141_r2 i141_r3
def i141_r5:aJ := aG (fI 141 a141 [] 15)
def i141:aW := (aG (fun x0 x1 => fF 141 a141 [(116,x0),(15,x1)])) i141_l4 i141_r5
def RX:List (Nat×List Nat) := [(7475,[0,0,0,0,0,0,48,112,0,0,768,1792,4083,8179,16383,32767])]
def i142_l1:aJ := aG (fI 142 RX [] 75)
def i142_r2:aJ := aG (fI 142 RX [] 15)
def i142:aW := (aG (fun x0 x1 => fF 142 RX [(116,x0),(15,x1)])) i142_l1 i142_r2
def i149:aW := aG (fF 149 [] [])
def i150:aW := aG (fF 150 [] [])
def i151:aW := aG (fF 151 [] [])
def i76_l1:aJ := aG (fI 76 [] [] 151)
def i76_r2:aJ := aG (fI 76 [] [] 31)
def i76:aW := (aG (fun x0 x1 => fF 76 [] [(244,x0),(31,x1)])) i76_l1 i76_r2
def a78:List (Nat×List Nat) := [(6,[0,0,3,7,0,0,48,127,255])]
def i78:aW := aG (fF 78 a78 [])
def i77_l1:aJ := aG (fI 77 [] [] 151)
def i77_r2:aJ := aG (fI 77 [] [] 31)
def i77:aW := (aG (fun x0 x1 => fF 77 [] [(244,x0),(31,x1)])) i77_l1 i77_r2
def a79:List (Nat×List Nat) := [(6756,[0,0,3,7,0,0,48,112,255]),(6758,[0,0,3,7,0,0,48,112,255,511])]
def i79_l1:aJ := aG (fI 79 a79 [] 37)
def i79_r2:aJ := aG (fI 79 a79 [] 7)
def i79:aW := (aG (fun x0 x1 => fF 79 a79 [(52,x0),(7,x1)])) i79_l1 i79_r2
def i152_l1:aJ := aG (fI 152 [] [] 17)
def i152_r2:aJ := aG (fI 152 [] [] 7)
def i152:aW := (aG (fun x0 x1 => fF 152 [] [(24,x0),(7,x1)])) i152_l1 i152_r2
def i66:aW := aG (fF 66 [] [])
def i154_l1:aJ := aG (fI 154 [] [] 154007)
def i154_r2:aJ := aG (fI 154 [] [] 31127)
def i154_r3:aJ := aG (fI 154 [] [] 1943)
def i154_l4:aJ := (aG (fun x0 x1 x2 => fI 154 [] [(250676,x0),(31335,x1),(1959,x2)] 151)) i154_l1 i154_r2 i154_r3
def i154_r5:aJ := aG (fI 154 [] [] 31)
def i154:aW := (aG (fun x0 x1 => fF 154 [] [(244,x0),(31,x1)])) i154_l4 i154_r5
def i155:aW := aG (fF 155 [] [])
def a157:List (Nat×List Nat) := [(29180,[0,1,3,7,7,23,63,127,7,7,775,1799,4095,8191,16383])]
def i157_l1:aJ := aG (fI 157 a157 [] 19)
def i157:aW := (aG (fun x0 => fF 157 a157 [(28,x0)])) i157_l1
def RY:List (Nat×List Nat) := [(3378,[0,0,0,6,14,31])]
def i172_l1:aJ := aG (fI 172 RY [] 37)
def i172_r2:aJ := aG (fI 172 RY [] 7)
def i172:aW := (aG (fun x0 x1 => fF 172 RY [(52,x0),(7,x1)])) i172_l1 i172_r2
def a173:List (Nat×List Nat) := [(29180,[0,1,3,7,7,7,39,119,247,7,7,1543,3591,8191,16383,32767,65535])]
def i173_l1:aJ := aG (fI 173 a173 [] 19)
def i173:aW := (aG (fun x0 => fF 173 a173 [(28,x0)])) i173_l1
def a97:List (Nat×List Nat) := [(100,[0,0,0,0,0,0,48,112,0,0,768,1792,4083,8179,16383,32767])]
def i97_l1:aJ := aG (fI 97 a97 [] 9)
def i97:aW := (aG (fun x0 => fF 97 a97 [(12,x0)])) i97_l1
def i98:aW := aG (fF 98 [] [])
def i89_l1:aJ := aG (fI 89 [] [] 37)
def i89_r2:aJ := aG (fI 89 [] [] 7)
def i89:aW := (aG (fun x0 x1 => fF 89 [] [(52,x0),(7,x1)])) i89_l1 i89_r2
def i156:aW := aG (fF 156 [] [])
def a175:List (Nat×List Nat) := [(3216,[0,0,3,7,15,15,63,127,15,15,527,1807,3855,8191,16383]),(6436,[0,0,0,0,8,0,0,64,224,480,0,0,3072,7168,16355,32739,65535,131071])]
def i175_l1:aJ := aG (fI 175 a175 [] 585)
def i175_r2:aJ := aG (fI 175 a175 [] 57)
def i175_l3:aJ := (aG (fun x0 x1 => fI 175 a175 [(804,x0),(51,x1)] 9)) i175_l1 i175_r2
def i175:aW := (aG (fun x0 => fF 175 a175 [(12,x0)])) i175_l3
def i181:aW := aG (fF 181 [] [])
def N8:List (Nat×List Nat) := [(3216,[0,0,3,7,15,15,15,111,239,15,15,1039,3599,7695,16383,32767,65535]),(6436,[0,0,0,0,8,0,0,64,224,480,0,0,3072,7168,16355,32739,65535,131071])]
def i191_l1:aJ := aG (fI 191 N8 [] 585)
def i191_r2:aJ := aG (fI 191 N8 [] 57)
def i191_l3:aJ := (aG (fun x0 x1 => fI 191 N8 [(804,x0),(51,x1)] 9)) i191_l1 i191_r2
def i191:aW := (aG (fun x0 => fF 191 N8 [(12,x0)])) i191_l3
def i174_l1:aJ := aG (fI 174 [] [] 37)
def i174_r2:aJ := aG (fI 174 [] [] 7)
def i174:aW := (aG (fun x0 x1 => fF 174 [] [(52,x0),(7,x1)])) i174_l1 i174_r2
def i90:aW := aG (fF 90 [] [])
def i3_l1:aJ := aG (fI 3 [] [] 19455)
def i3_r2:aJ := aG (fI 3 [] [] 4095)
def i3:aW := (aG (fun x0 x1 => fF 3 [] [(32756,x0),(4095,x1)])) i3_l1 i3_r2
end Go.Abs
end
namespace Go.Abs
open Go.Proofs
def EN:List Nat->Nat->Bool
 |[],_=>false
 |a::r,n=>bif Nat.beq a n then true else EN r n
def aed:List (Nat×List Nat)->Nat->List Nat
 |[],_=>[]
 |(a,l)::r,n=>bif Nat.beq a n then l else aed r n
def asf:List Nat:=[29,30,39,51,54,63,64,70,97,106,121,123,126,130,139,140,141,147,150,152,157,163,164,165,166,167,168,169,170,173,175,176,177,178,179,180,182,183,186,188,189,190,191,192,193,194,195,196,197,198,199,200,201,202,203,204,205,206,207]
def as2:List (Nat×List Nat):=[(29,[29,51,54,30]),(30,[30]),(39,[39,63,64]),(51,[51]),(54,[54]),(63,[63]),(64,[64]),(70,[70]),(97,[97]),(106,[70,106,126]),(121,[121,147,163,164,165,166,167,168,169,170,186,188,189,190,202]),(123,[123]),(126,[126]),(130,[130]),(139,[139]),(140,[140,157,175,176,177,178,179,180,182,183,188,199,200,201,206]),(141,[141]),(147,[147,163,164,165,166,167,168,169,170,186,188,189,190,202]),(150,[150,173,188,191,192,193,194,195,196,197,198,203,204,205,207]),(152,[152]),(157,[157,175,176,177,178,179,180,182,183,188,199,200,201,206]),(163,[163]),(164,[164,186]),(165,[165,188]),(166,[166,189,190,202]),(167,[167]),(168,[168]),(169,[169]),(170,[170]),(173,[173,188,191,192,193,194,195,196,197,198,203,204,205,207]),(175,[175]),(176,[176,199]),(177,[177,188]),(178,[178,200,201,206]),(179,[179]),(180,[180]),(182,[182]),(183,[183]),(186,[186]),(188,[188]),(189,[189,190,202]),(190,[190,202]),(191,[191]),(192,[192,203]),(193,[188,193]),(194,[194,204,205,207]),(195,[195]),(196,[196]),(197,[197]),(198,[198]),(199,[199]),(200,[200,201,206]),(201,[201,206]),(202,[202]),(203,[203]),(204,[204,205,207]),(205,[205,207]),(206,[206]),(207,[207])]
def aec:List Nat:=[48]
def WG(f:Nat)(args:List V):Option (Option RV):=
 bif Nat.beq f 80 then some (Qy args)
 else bif Nat.beq f 148 then some (Nu args)
 else bif EN [47,69,132] f then Qw args
 else bif Nat.beq f 53 then Qx args
 else none
noncomputable def S:Sys:={P:=Tryz.prog,shared:=EN asf,sites:=aed as2,lone:=fun s=>EN aec (s/64000000),fns:=Af Tryz.prog,prim:=WG}
abbrev cG(n:Nat):Prop:=S.shared n=false
theorem c18:S.fns 18=some i18:=ah
theorem s18:cG 18:=rfl
theorem c21:S.fns 21=some i21:=ah
theorem s21:cG 21:=rfl
theorem c38:S.fns 38=some i38:=ah
theorem s38:cG 38:=rfl
theorem c87:S.fns 87=some i87:=ah
theorem s87:cG 87:=rfl
theorem c92:S.fns 92=some i92:=ah
theorem s92:cG 92:=rfl
theorem c61:S.fns 61=some i61:=ah
theorem s61:cG 61:=rfl
theorem c86:S.fns 86=some i86:=ah
theorem s86:cG 86:=rfl
theorem c62:S.fns 62=some i62:=ah
theorem s62:cG 62:=rfl
theorem c63:S.fns 63=some i63:=ah
theorem c64:S.fns 64=some i64:=ah
theorem c65:S.fns 65=some i65:=ah
theorem s65:cG 65:=rfl
theorem c39:S.fns 39=some i39:=ah
theorem c88:S.fns 88=some i88:=ah
theorem s88:cG 88:=rfl
theorem c104:S.fns 104=some i104:=ah
theorem s104:cG 104:=rfl
theorem c103:S.fns 103=some i103:=ah
theorem s103:cG 103:=rfl
theorem c85:S.fns 85=some i85:=ah
theorem s85:cG 85:=rfl
theorem c102:S.fns 102=some i102:=ah
theorem s102:cG 102:=rfl
theorem c91:S.fns 91=some i91:=ah
theorem s91:cG 91:=rfl
theorem c74:S.fns 74=some i74:=ah
theorem s74:cG 74:=rfl
theorem c46:S.fns 46=some i46:=ah
theorem s46:cG 46:=rfl
theorem c52:S.fns 52=some i52:=ah
theorem s52:cG 52:=rfl
theorem c9:S.fns 9=some i9:=ah
theorem s9:cG 9:=rfl
theorem c75:S.fns 75=some i75:=ah
theorem s75:cG 75:=rfl
theorem c82:S.fns 82=some i82:=ah
theorem s82:cG 82:=rfl
theorem c47:S.fns 47=some i47:=ah
theorem s47:cG 47:=rfl
theorem c93:S.fns 93=some i93:=ah
theorem s93:cG 93:=rfl
theorem c94:S.fns 94=some i94:=ah
theorem s94:cG 94:=rfl
theorem c95:S.fns 95=some i95:=ah
theorem s95:cG 95:=rfl
theorem c96:S.fns 96=some i96:=ah
theorem s96:cG 96:=rfl
theorem c100:S.fns 100=some i100:=ah
theorem s100:cG 100:=rfl
theorem c101:S.fns 101=some i101:=ah
theorem s101:cG 101:=rfl
theorem c28:S.fns 28=some i28:=ah
theorem s28:cG 28:=rfl
theorem c105:S.fns 105=some i105:=ah
theorem s105:cG 105:=rfl
theorem c106:S.fns 106=some i106:=ah
theorem c107:S.fns 107=some i107:=ah
theorem s107:cG 107:=rfl
theorem c108:S.fns 108=some i108:=ah
theorem c110:S.fns 110=some i110:=ah
theorem c111:S.fns 111=some i111:=ah
theorem c113:S.fns 113=some i113:=ah
theorem c115:S.fns 115=some i115:=ah
theorem c117:S.fns 117=some i117:=ah
theorem s117:cG 117:=rfl
theorem c118:S.fns 118=some i118:=ah
theorem s118:cG 118:=rfl
theorem c120:S.fns 120=some i120:=ah
theorem s120:cG 120:=rfl
theorem c124:S.fns 124=some i124:=ah
theorem s124:cG 124:=rfl
theorem c48:S.fns 48=some i48:=ah
theorem s48:cG 48:=rfl
theorem c125:S.fns 125=some i125:=ah
theorem s125:cG 125:=rfl
theorem c126:S.fns 126=some i126:=ah
theorem c70:S.fns 70=some i70:=ah
theorem s70:S.shared 70=true:=ah
theorem c127:S.fns 127=some i127:=ah
theorem s127:cG 127:=rfl
theorem c128:S.fns 128=some i128:=ah
theorem s128:cG 128:=rfl
theorem c130:S.fns 130=some i130:=ah
theorem c129:S.fns 129=some i129:=ah
theorem s129:cG 129:=rfl
theorem c132:S.fns 132=some i132:=ah
theorem s132:cG 132:=rfl
theorem c134:S.fns 134=some i134:=ah
theorem s134:cG 134:=rfl
theorem c135:S.fns 135=some i135:=ah
theorem s135:cG 135:=rfl
theorem c136:S.fns 136=some i136:=ah
theorem s136:cG 136:=rfl
theorem c138:S.fns 138=some i138:=ah
theorem s138:cG 138:=rfl
theorem c140:S.fns 140=some i140:=ah
theorem c141:S.fns 141=some i141:=ah
theorem c142:S.fns 142=some i142:=ah
theorem s142:cG 142:=rfl
theorem c149:S.fns 149=some i149:=ah
theorem c150:S.fns 150=some i150:=ah
theorem c151:S.fns 151=some i151:=ah
theorem c76:S.fns 76=some i76:=ah
theorem s76:cG 76:=rfl
theorem c78:S.fns 78=some i78:=ah
theorem s78:cG 78:=rfl
theorem c77:S.fns 77=some i77:=ah
theorem s77:cG 77:=rfl
theorem c79:S.fns 79=some i79:=ah
theorem s79:cG 79:=rfl
theorem c152:S.fns 152=some i152:=ah
theorem c66:S.fns 66=some i66:=ah
theorem s66:cG 66:=rfl
theorem c154:S.fns 154=some i154:=ah
theorem s154:cG 154:=rfl
theorem c155:S.fns 155=some i155:=ah
theorem s155:cG 155:=rfl
theorem c157:S.fns 157=some i157:=ah
theorem s157:S.shared 157=true:=ah
theorem c172:S.fns 172=some i172:=ah
theorem s172:cG 172:=rfl
theorem c173:S.fns 173=some i173:=ah
theorem s173:S.shared 173=true:=ah
theorem c97:S.fns 97=some i97:=ah
theorem s97:S.shared 97=true:=ah
theorem c98:S.fns 98=some i98:=ah
theorem s98:cG 98:=rfl
theorem c89:S.fns 89=some i89:=ah
theorem s89:cG 89:=rfl
theorem c156:S.fns 156=some i156:=ah
theorem s156:cG 156:=rfl
theorem c175:S.fns 175=some i175:=ah
theorem s175:S.shared 175=true:=ah
theorem c181:S.fns 181=some i181:=ah
theorem s181:cG 181:=rfl
theorem c191:S.fns 191=some i191:=ah
theorem s191:S.shared 191=true:=ah
theorem c174:S.fns 174=some i174:=ah
theorem s174:cG 174:=rfl
theorem c90:S.fns 90=some i90:=ah
theorem s90:cG 90:=rfl
theorem c3:S.fns 3=some i3:=ah
theorem s3:cG 3:=rfl
end Go.Abs
namespace Go.Abs
noncomputable section
def a54:List (Nat×List Nat) := [(3,[0,0,2,6,14,0,32,126,255,511,1023])]
def i54:aW := aG (fF 54 a54 [])
def a51:List (Nat×List Nat) := [(12,[0,1,3,7,0,16,48,112,240,511]),(30,[0,1,3,7,0,16,48,112,240,511,1023,2047,4095])]
def i51:aW := aG (fF 51 a51 [])
def i71:aW := aG (fF 71 [] [])
def i50_l1:aJ:=(.seq (rf [ot 14 .lss 13 12]) (.seq (ct 14 .skip (.exit 0)) (.seq (.block 1 (.seq (rf [oi 15 6 11 13,ox 16 6 15,oo 5 (.alloc 3200256128 [il 0,il 0,il 0,il 0,il 0,.bool false]),os 6 5 16]) (rf [om 17 3,ox 18 6 5,oc 19 3200320128 81 [.t 18],oo 20 (.bin .add (.k (.one (.p (.str ⟨#[32]⟩)))) (.t 19)),ot 21 .add 17 20,om 3 21]))) (rf [oj 22 .add 13 1,om 13 22]))))
def i50_r2:aJ:=(.seq (rf [om 23 3,om 2 23]) .ret)
def i50:aW:=⟨24,[(2,none)],(.seq (rf [oo 1 (.box 3200000000 (.t 0)),oo 2 (.ym (.k (.one (.p (.str ⟨#[]⟩)))))]) (.seq (rf [of 6 0 1,ol 7 6,oc 8 3200064128 80 [.t 7],oo 9 (.bin .add (.t 8) (.k (.one (.p (.str ⟨#[58]⟩))))),om 3 9]) (.seq (.seq (rf [of 10 1 1,ol 11 10,oh 12 11,mi 13 0]) (.block 0 (.loop i50_l1))) i50_r2)))⟩
def i6_l1:aJ := aG (fI 6 [] [] 303)
def i6_r2:aJ := aG (fI 6 [] [] 63)
def i6:aW := (aG (fun x0 x1 => fF 6 [] [(500,x0),(63,x1)])) i6_l1 i6_r2
def i81:aW:=⟨40,[(2,none)],(.seq (rf [oo 1 (.box 5184000000 (.t 0)),oo 2 (.ym (.k (.one (.p (.str ⟨#[]⟩)))))]) (.seq (.seq (rf [of 4 0 1,ol 5 4]) (.block 0 (.seq (rf [oj 7 .eql 5 1,om 6 7]) (ct 6 (.seq (rt [of 8 1 1,dl 9 8 1,dc 10 5184192128 80 [.t 9] 3,od 11 (.bin .add (.t 10) (.k (.one (.p (.str ⟨#[46]⟩))))) 7,of 12 2 1,dl 13 12 16,dc 14 5184192384 80 [.t 13] 55,dt 15 .add 11 14 127,dm 2 15 255]) .ret) (.seq (rf [oj 17 .eql 5 2,om 16 17]) (ct 16 (.seq (rf [of 18 3 1,ol 19 18,oc 20 5184320128 80 [.t 19],oo 21 (.bin .add (.t 20) (.k (.one (.p (.str ⟨#[117]⟩))))),om 3 21]) (.seq (.seq (rf [of 22 5 1,ol 23 22]) (ct 23 (rf [of 24 3 1,ol 25 24,oc 26 5184448128 80 [.t 25],oo 27 (.bin .add (.t 26) (.k (.one (.p (.str ⟨#[111]⟩))))),om 3 27]) .skip)) (.seq (.seq (rf [of 28 4 1,ol 29 28]) (.block 1 (.seq (rf [oj 31 .eql 29 1,om 30 31]) (ct 30 (.seq (rf [om 32 3, oo 33 (.bin .add (.t 32) (.k (.one (.p (.str ⟨#[43]⟩))))),om 2 33]) .ret) (.seq (rf [oo 35 (.bin .eql (.t 29) (.i (-1))),om 34 35]) (ct 34 (.seq (rf [om 36 3,oo 37 (.bin .add (.t 36) (.k (.one (.p (.str ⟨#[45]⟩))))),om 2 37]) .ret) .skip)))))) (.seq (rf [om 38 3,oo 39 (.bin .add (.t 38) (.k (.one (.p (.str ⟨#[63]⟩))))),om 2 39]) .ret)))) .skip)))))) (.seq (rf [oo 2 (.ym (.k (.one (.p (.str ⟨#[63]⟩)))))]) .ret)))⟩
def a20:List (Nat×List Nat) := [(14950,[0,1,0,4,15,0,32,0,128,480,0,1024,0,4096,15360,0,32768,0,131072,491520,0,1048576,3145728,0,8388608,32505856,66060288,0,134217728,0,536870912,2013265920,4294967295,8589934591,17179869183]),(12,[0,1,0,4,15,0,32,0,224,480,0,1024,3072,0,8192,24576,64512,131071,262143,524287])]
def i20_l1:aJ := aG (fI 20 a20 [] 75)
def i20_r2:aJ := aG (fI 20 a20 [] 15)
def i20:aW := (aG (fun x0 x1 => fF 20 a20 [(116,x0),(15,x1)])) i20_l1 i20_r2
def i5:aW := aG (fF 5 [] [])
def a16:List (Nat×List Nat) := [(7474,[0,1,3,7,7,7,55,119,255,511,1023])]
def i16_l1:aJ := aG (fI 16 a16 [] 75)
def i16_r2:aJ := aG (fI 16 a16 [] 15)
def i16:aW := (aG (fun x0 x1 => fF 16 a16 [(116,x0),(15,x1)])) i16_l1 i16_r2
def a14:List (Nat×List Nat) := [(254974,[0,1,0,4,0,16,60,0,15,383,895,1919,4095,8191])]
def i14_l1:aJ := aG (fI 14 a14 [] 311183)
def i14_r2:aJ := aG (fI 14 a14 [] 65423)
def i14_l3:aJ := (aG (fun x0 x1 => fI 14 a14 [(509940,x0),(63743,x1)] 79)) i14_l1 i14_r2
def i14:aW := (aG (fun x0 => fF 14 a14 [(124,x0)])) i14_l3
def i30:aW := aG (fF 30 [] [])
def a29:List (Nat×List Nat) := [(8265318,[0,0,2,6,0,16,62,127,0,511])]
def i29_l1:aJ := aG (fI 29 a29 [] 40479)
def i29_l2:aJ := (aG (fun x0 => fI 29 a29 [(64572,x0)] 287)) i29_l1
def i29_r3:aJ := aG (fI 29 a29 [] 127)
def i29:aW := (aG (fun x0 x1 => fF 29 a29 [(504,x0),(127,x1)])) i29_l2 i29_r3
def i36_l1:aJ := aG (fI 36 [] [] 75)
def i36_r2:aJ := aG (fI 36 [] [] 15)
def i36:aW := (aG (fun x0 x1 => fF 36 [] [(116,x0),(15,x1)])) i36_l1 i36_r2
def i19:aW := aG (fF 19 [] [])
def i49:aW := aG (fF 49 [] [])
def i37:aW := aG (fF 37 [] [])
def i35_l1:aJ := aG (fI 35 [] [] 37)
def i35_r2:aJ := aG (fI 35 [] [] 7)
def i35:aW := (aG (fun x0 x1 => fF 35 [] [(52,x0),(7,x1)])) i35_l1 i35_r2
def i26_l1:aJ := aG (fI 26 [] [] 75)
def i26_r2:aJ := aG (fI 26 [] [] 15)
def i26:aW := (aG (fun x0 x1 => fF 26 [] [(116,x0),(15,x1)])) i26_l1 i26_r2
def i31:aW := aG (fF 31 [] [])
def i7:aW := aG (fF 7 [] [])
def i45:aW := aG (fF 45 [] [])
def a8:List (Nat×List Nat) := [(1025636,[0,0,2,7,15,0,32,96,224,511,1023,2047])]
def i8_l1:aJ := aG (fI 8 a8 [] 78639)
def i8_r2:aJ := aG (fI 8 a8 [] 3887)
def i8_l3:aJ := (aG (fun x0 x1 => fI 8 a8 [(128204,x0),(4007,x1)] 303)) i8_l1 i8_r2
def i8_r4:aJ := aG (fI 8 a8 [] 63)
def i8:aW := (aG (fun x0 x1 => fF 8 a8 [(500,x0),(63,x1)])) i8_l3 i8_r4
def i22_l1:aJ := aG (fI 22 [] [] 37)
def i22_r2:aJ := aG (fI 22 [] [] 7)
def i22:aW := (aG (fun x0 x1 => fF 22 [] [(52,x0),(7,x1)])) i22_l1 i22_r2
def i25:aW := aG (fF 25 [] [])
def i72:aW := aG (fF 72 [] [])
def a42:List (Nat×List Nat) := [(126,[0,0,3,7,0,0,48,127,255])]
def i42_l1:aJ := aG (fI 42 a42 [] 303)
def i42_r2:aJ := aG (fI 42 a42 [] 63)
def i42:aW := (aG (fun x0 x1 => fF 42 a42 [(500,x0),(63,x1)])) i42_l1 i42_r2
def a68:List (Nat×List Nat) := [(3378,[0,0,0,6,0,30,63,127,0,0,0,1536,0,7680,16128,32512,255,131071])]
def i68_l1:aJ := aG (fI 68 a68 [] 37)
def i68_r2:aJ := aG (fI 68 a68 [] 7)
def i68:aW := (aG (fun x0 x1 => fF 68 a68 [(52,x0),(7,x1)])) i68_l1 i68_r2
def i24:aW := aG (fF 24 [] [])
def a41:List (Nat×List Nat) := [(480,[0,1,3,7,15,31,63,127,15,15,527,1551,3855,7951,16143,32767,65535]),(250,[0,1,0,4,12,28,63,127])]
def i41_l1:aJ := aG (fI 41 a41 [] 75)
def i41_l2:aJ := aG (fI 41 a41 [] 71)
def i41_l3:aJ := aG (fI 41 a41 [] 1215)
def i41_r4:aJ := aG (fI 41 a41 [] 255)
def i41_r5:aJ := (aG (fun x0 x1 => fI 41 a41 [(2036,x0),(255,x1)] 31)) i41_l3 i41_r4
def i41_r6:aJ := (aG (fun x0 x1 => fI 41 a41 [(120,x0),(31,x1)] 15)) i41_l2 i41_r5
def i41:aW := (aG (fun x0 x1 => fF 41 a41 [(116,x0),(15,x1)])) i41_l1 i41_r6
def i43:aW := aG (fF 43 [] [])
def i40:aW := aG (fF 40 [] [])
def i67:aW := aG (fF 67 [] [])
def i53:aW := aG (fF 53 [] [])
def i69:aW := aG (fF 69 [] [])
def i44_l1:aJ := aG (fI 44 [] [] 37)
def i44_r2:aJ := aG (fI 44 [] [] 7)
def i44:aW := (aG (fun x0 x1 => fF 44 [] [(52,x0),(7,x1)])) i44_l1 i44_r2
def a23:List (Nat×List Nat) := [(7474,[0,0,3,7,0,0,48,112,255])]
def i23_l1:aJ := aG (fI 23 a23 [] 75)
def i23_r2:aJ := aG (fI 23 a23 [] 15)
def i23:aW := (aG (fun x0 x1 => fF 23 a23 [(116,x0),(15,x1)])) i23_l1 i23_r2
def i73_l1:aJ := aG (fI 73 [] [] 151)
def i73_r2:aJ := aG (fI 73 [] [] 31)
def i73:aW := (aG (fun x0 x1 => fF 73 [] [(244,x0),(31,x1)])) i73_l1 i73_r2
end
theorem c54:S.fns 54=some i54:=ah
theorem s54 : S.shared 54 = true :=ah
theorem c51:S.fns 51=some i51:=ah
theorem s51 : S.shared 51 = true :=ah
theorem c71:S.fns 71=some i71:=ah
theorem s71:cG 71:=rfl
theorem c50:S.fns 50=some i50:=ah
theorem s50:cG 50:=rfl
theorem c6:S.fns 6=some i6:=ah
theorem s6:cG 6:=rfl
theorem c81:S.fns 81=some i81:=ah
theorem s81:cG 81:=rfl
theorem c20:S.fns 20=some i20:=ah
theorem s20:cG 20:=rfl
theorem c5:S.fns 5=some i5:=ah
theorem s5:cG 5:=rfl
theorem c16:S.fns 16=some i16:=ah
theorem s16:cG 16:=rfl
theorem c14:S.fns 14=some i14:=ah
theorem s14:cG 14:=rfl
theorem c30:S.fns 30=some i30:=ah
theorem s30 : S.shared 30 = true :=ah
theorem c29:S.fns 29=some i29:=ah
theorem s29 : S.shared 29 = true :=ah
theorem s27:cG 27:=rfl
theorem c36:S.fns 36=some i36:=ah
theorem s36:cG 36:=rfl
theorem c19:S.fns 19=some i19:=ah
theorem s19:cG 19:=rfl
theorem c49:S.fns 49=some i49:=ah
theorem s49:cG 49:=rfl
theorem c37:S.fns 37=some i37:=ah
theorem s37:cG 37:=rfl
theorem c35:S.fns 35=some i35:=ah
theorem s35:cG 35:=rfl
theorem c26:S.fns 26=some i26:=ah
theorem s26:cG 26:=rfl
theorem c31:S.fns 31=some i31:=ah
theorem s31:cG 31:=rfl
theorem s4:cG 4:=rfl
theorem c7:S.fns 7=some i7:=ah
theorem s7:cG 7:=rfl
theorem c45:S.fns 45=some i45:=ah
theorem s45:cG 45:=rfl
theorem c8:S.fns 8=some i8:=ah
theorem s8:cG 8:=rfl
theorem c22:S.fns 22=some i22:=ah
theorem s22:cG 22:=rfl
theorem c25:S.fns 25=some i25:=ah
theorem s25:cG 25:=rfl
theorem c72:S.fns 72=some i72:=ah
theorem s72:cG 72:=rfl
theorem c42:S.fns 42=some i42:=ah
theorem s42:cG 42:=rfl
theorem c68:S.fns 68=some i68:=ah
theorem s68:cG 68:=rfl
theorem c24:S.fns 24=some i24:=ah
theorem s24:cG 24:=rfl
theorem c41:S.fns 41=some i41:=ah
theorem s41:cG 41:=rfl
theorem c43:S.fns 43=some i43:=ah
theorem s43:cG 43:=rfl
theorem c40:S.fns 40=some i40:=ah
theorem s40:cG 40:=rfl
theorem c67:S.fns 67=some i67:=ah
theorem s67:cG 67:=rfl
theorem c53:S.fns 53=some i53:=ah
theorem s53:cG 53:=rfl
theorem c69:S.fns 69=some i69:=ah
theorem s69:cG 69:=rfl
theorem c44:S.fns 44=some i44:=ah
theorem s44:cG 44:=rfl
theorem c23:S.fns 23=some i23:=ah
theorem s23:cG 23:=rfl
theorem c73:S.fns 73=some i73:=ah
theorem s73:cG 73:=rfl
end Go.Abs
