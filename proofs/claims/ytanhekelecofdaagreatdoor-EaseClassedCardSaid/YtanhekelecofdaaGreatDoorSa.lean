/-
  The program as a system of the abstract machine.
-/
import Derived.Test.YtanhekelecofdaaGreatDoorMf
import Derived.Test.YtanhekelecofdaaGreatDoorProg
set_option linter.all false
set_option maxRecDepth 100000
noncomputable section
namespace Go.Abs
open Go.Proofs
def O4{α:Type}:List α->Nat->Option α
  | [],_ => none
  | a::l,n => match n with | 0 => some a | n+1 => O4 l n
def lkN{α:Type}:List (Nat×α)->Nat->Option α
  | [],_ => none
  | (k,a)::l,n => bif Nat.beq k n then some a else lkN l n
noncomputable def fB(s:Nat)(o:Oper):oz := match o.op with
  | .build t ps => (match Tryz.prog.underlying t,Br Tryz.prog t with | some (.struct fs),some z => ((Ei (fun i => (O4 fs.toList i).map fun f => (f.offset,Tryz.prog.cellsOf f.type)) z.length ps.toList).map (.build z)).getD .bad | _,_ => Jq Tryz.prog s o)
  | .binOp op t x y _ => (match Tryz.prog.underlying t,de x,de y with | some (.struct fs),some a,some b =>.eqc (.str (fs.toList.map fun f => (Vb Tryz.prog f.type).getD false)) (match op with | .neq => true | _ => false) a b | _,_,_ => Jq Tryz.prog s o)
  | _ => Jq Tryz.prog s o
noncomputable def fOp(ops:List Oper)(b:a_)(s i:Nat)(o:Oper):cq := ⟨o.dst,fB ((s+i)*64) o,(match o.guard with | none => none | some (j,w) => (match O4 ops j with | some x => (match x.dst with | some t => some (t,w) | none => none) | none => none)),(O4 b i).getD 0⟩
noncomputable def W6(ops:List Oper)(b:a_)(s:Nat):Nat->List Oper->g_
  | _,[] => []
  | i,o::r => fOp ops b s i o::W6 ops b s (i+1) r
abbrev fW(B:List (Nat×aR))(p:Nat)(y:aR):aR := match lkN B p with | some x => x | none => y
/-- the code of a function: at some places something else stands; at a drawn region the lists of what comes before each operation are given -/
noncomputable def fC(f:Nat)(A:r_)(B:List (Nat×aR)):Code->Nat->aR
  | .region id ops draw,p => bif draw then .region true (W6 ops.toList ((lkN A p).getD []) ((f*1000+id)*1000) 0 ops.toList) else .region false (W6 ops.toList [] ((f*1000+id)*1000) 0 ops.toList)
  | .seq a b,p =>.seq (fW B (2*p) (fC f A B a (2*p))) (fW B (2*p+1) (fC f A B b (2*p+1)))
  | .cond c a b,p => match de c with | some c =>.cond c (fW B (2*p) (fC f A B a (2*p))) (fW B (2*p+1) (fC f A B b (2*p+1))) | none =>.bad
  | .block i c,p =>.block i (fW B (2*p) (fC f A B c (2*p)))
  | .loop c,p =>.loop (fW B (2*p) (fC f A B c (2*p)))
  | .exit i,_ =>.exit i
  | .scope c,p => fC f A B c p
  | .ret,_ =>.ret
  | .label _,_ =>.skip
  | .skip,_ =>.skip
  | _,_ =>.bad
noncomputable def fF(f:Nat)(A:r_)(B:List (Nat×aR)):bG := match O4 Tryz.prog.funcs.toList f with
  | some fn => (match fn.body with | some c => ⟨fn.ntmps,(CC Tryz.prog fn.results.toList).getD [],fC f A B c 1⟩ | none => ⟨0,[],.bad⟩)
  | none => ⟨0,[],.bad⟩
/-- the part at a place -/
noncomputable def gL:aR->Nat->aR
  | .seq a b,q => bif Nat.beq q 1 then .seq a b else bif Nat.beq (q%2) 0 then gL a (q/2) else gL b (q/2)
  | .cond x a b,q => bif Nat.beq q 1 then .cond x a b else bif Nat.beq (q%2) 0 then gL a (q/2) else gL b (q/2)
  | .block i a,q => bif Nat.beq q 1 then .block i a else gL a (q/2)
  | .loop a,q => bif Nat.beq q 1 then .loop a else gL a (q/2)
  | c,_ => c
abbrev fI(f:Nat)(A:r_)(B:List (Nat×aR))(q:Nat):aR := gL (fF f A B).body q
/-- a term in normal form -/
def aM{α:Type}(f:α){g:α}(_:f=g := by conv => lhs; reduce; try simp only [Int.reduceOfNat,Int.reduceNegSucc]):α := g
attribute [go_sem] aM
abbrev om(d a:Nat):cq:=⟨some d,.zQ (.t a),none,0⟩
abbrev of(d f a:Nat):cq:=⟨some d,.G9 f (.t a),none,0⟩
abbrev ol(d a:Nat):cq:=⟨some d,.load none (.t a),none,0⟩
abbrev ox(d s a:Nat):cq:=⟨some d,.load (some s) (.t a),none,0⟩
abbrev oo(d:Nat)(x:oz):cq:=⟨some d,x,none,0⟩
abbrev oi(d z a b:Nat):cq:=⟨some d,.HO z (.t a) (.t b),none,0⟩
abbrev oc(d s f:Nat)(a:o_):cq:=⟨some d,.call s (.k (.one (.p (.fn f [] [])))) a,none,0⟩
abbrev dm(d a n:Nat):cq:=⟨some d,.zQ (.t a),none,n⟩
abbrev dl(d a n:Nat):cq:=⟨some d,.load none (.t a),none,n⟩
abbrev dc(d s f:Nat)(a:o_)(n:Nat):cq:=⟨some d,.call s (.k (.one (.p (.fn f [] [])))) a,none,n⟩
abbrev os(z a b:Nat):cq:=⟨none,.store z (.t a) (.t b),none,0⟩
abbrev mi(d:Nat)(k:Int):cq:=⟨some d,.zQ (.i k),none,0⟩
abbrev ot(d:Nat)(b:BinOp)(x y:Nat):cq:=⟨some d,.bin b (.t x) (.t y),none,0⟩
abbrev oj(d:Nat)(b:BinOp)(x:Nat)(y:Int):cq:=⟨some d,.bin b (.t x) (.i y),none,0⟩
abbrev dt(d:Nat)(b:BinOp)(x y n:Nat):cq:=⟨some d,.bin b (.t x) (.t y),none,n⟩
abbrev oh(d a:Nat):cq:=⟨some d,.KW (.t a),none,0⟩
abbrev ct(a:Nat)(x y:aR):aR:=.cond (.t a) x y
abbrev rf(l:g_):aR:=.region false l
abbrev rt(l:g_):aR:=.region true l
abbrev il(k:Int):PV:=.int .i64 k
abbrev od(d:Nat)(x:oz)(n:Nat):cq:=⟨some d,x,none,n⟩
def i31:bG := aM (fF 31 [] [])
def i40:bG := aM (fF 40 [] [])
def i24_l1:aR := aM (fI 24 [] [] 75)
def i24_r2:aR := aM (fI 24 [] [] 15)
def i24:bG := (aM (fun x0 x1 => fF 24 [] [(116,x0),(15,x1)])) i24_l1 i24_r2
def i7_l1:aR := aM (fI 7 [] [] 75)
def i7_r2:aR := aM (fI 7 [] [] 15)
def i7:bG := (aM (fun x0 x1 => fF 7 [] [(116,x0),(15,x1)])) i7_l1 i7_r2
def i8:bG := aM (fF 8 [] [])
def i80:bG := aM (fF 80 [] [])
def a96:r_ := [(212,[0,1,3,7,15,31,15,79,207,463,975,2047,4095,8191,16383,32767,65535,131071,262143,524287,1048575,2097151,4194303,8388607,16777215,33554431,67108863,134217727])]
def i96:bG := aM (fF 96 a96 [])
def i81:bG := aM (fF 81 [] [])
def Gw:r_ := [(259276,[0,1,3,7,0,16,63,127,255,511,1023]),(16774348,[0,1,3,7,15,31,15,79,207,463,15,1039,4047,8143,16383,32767]),(16774350,[0,0,2,7,15,0,32,127,255,511]),(33548703,[0,0,0,4,12,28,0,0,128,384,896,0,0,0,1983,18367,55295,120831,262143,524287])]
def i82_l1:aR := aM (fI 82 Gw [] 607)
def i82_l2:aR := aM (fI 82 Gw [] 4863)
def i82_l3:aR := aM (fI 82 Gw [] 38911)
def i82_r4:aR := aM (fI 82 Gw [] 8191)
def i82_r5:aR := (aM (fun x0 x1 => fI 82 Gw [(65524,x0),(8191,x1)] 1023)) i82_l3 i82_r4
def i82_r6:aR := (aM (fun x0 x1 => fI 82 Gw [(8180,x0),(1023,x1)] 127)) i82_l2 i82_r5
def i82:bG := (aM (fun x0 x1 => fF 82 Gw [(1012,x0),(127,x1)])) i82_l1 i82_r6
def a83:r_ := [(128206,[0,1,3,7,0,16,63,127,255,255,0,1535,4095]),(4102652,[0,1,3,7,15,31,63,127,255,511,1023,2047,127,4223,12415,28799,65535,131071,262143,127,524415,2097151,4194303,8388607]),(4102655,[0,1,3,7,0,16,0,127])]
def i83_l1:aR := aM (fI 83 a83 [] 303)
def i83_r2:aR := aM (fI 83 a83 [] 63)
def i83:bG := (aM (fun x0 x1 => fF 83 a83 [(500,x0),(63,x1)])) i83_l1 i83_r2
def a84:r_ := [(126,[0,0,2,6,14,30,0,64,192,448,960,2046,4094,8191,16383]),(6,[0,1,3,7,15,31,63,0,128,384,896,1920,3968,8191,16383])]
def i84_l1:aR := aM (fI 84 a84 [] 324399)
def i84_r2:aR := aM (fI 84 a84 [] 3887)
def i84_l3:aR := (aM (fun x0 x1 => fI 84 a84 [(512828,x0),(4007,x1)] 303)) i84_l1 i84_r2
def i84_r4:aR := aM (fI 84 a84 [] 63)
def i84:bG := (aM (fun x0 x1 => fF 84 a84 [(500,x0),(63,x1)])) i84_l3 i84_r4
def i63_l1:aR := aM (fI 63 [] [] 75)
def i63_r2:aR := aM (fI 63 [] [] 15)
def i63:bG := (aM (fun x0 x1 => fF 63 [] [(116,x0),(15,x1)])) i63_l1 i63_r2
def a97:r_ := [(6,[0,1,3,7,15,31,0,64,192,448,960,63,4095]),(3770,[0,1,3,7,0,16,0,112,255,511,1023]),(1022,[0,1,3,7,0,16,63,0,255])]
def i97:bG := aM (fF 97 a97 [])
def i120:bG := aM (fF 120 [] [])
def i119:bG := aM (fF 119 [] [])
def i95:bG := aM (fF 95 [] [])
def i118_l1:aR := aM (fI 118 [] [] 37)
def i118_r2:aR := aM (fI 118 [] [] 7)
def i118:bG := (aM (fun x0 x1 => fF 118 [] [(52,x0),(7,x1)])) i118_l1 i118_r2
def a10:r_ := [(252,[0,1,3,7,15,31,63,127,255,511,1023,2047,4095,8191,16383,32767,65535,131071,262143,524287,131071,131071,2621439,7864319,16252927,33554431,67108863])]
def i10:bG := aM (fF 10 a10 [])
def i27_l1:aR := aM (fI 27 [] [] 75)
def i27_r2:aR := aM (fI 27 [] [] 15)
def i27:bG := (aM (fun x0 x1 => fF 27 [] [(116,x0),(15,x1)])) i27_l1 i27_r2
def i30:bG := aM (fF 30 [] [])
def i26_l1:aR := aM (fI 26 [] [] 75)
def i26_r2:aR := aM (fI 26 [] [] 15)
def i26:bG := (aM (fun x0 x1 => fF 26 [] [(116,x0),(15,x1)])) i26_l1 i26_r2
def i49_l1:aR := aM (fI 49 [] [] 75)
def i49_r2:aR := aM (fI 49 [] [] 15)
def i49:bG := (aM (fun x0 x1 => fF 49 [] [(116,x0),(15,x1)])) i49_l1 i49_r2
def i75_l1:aR := aM (fI 75 [] [] 75)
def i75_r2:aR := aM (fI 75 [] [] 15)
def i75:bG := (aM (fun x0 x1 => fF 75 [] [(116,x0),(15,x1)])) i75_l1 i75_r2
def a28:r_ := [(107764,[0,1,3,7,15,31,63,127,255,511,1023,2047,4095,8191,16383,32767,65535,131071,262143,524287,262143,1310719,4194303,8388607,16777215,33554431,67108863,134217727,268435455,536870911,1073741823,2147483647,1073741823,1073741823,9663676415,31138512895,68719476735,137438953471,274877906943,549755813887,1099511627775,2199023255551]),(431068,[0,1,3,7,15,31,63,127,255,511,1023,2047,4095,8191,16383,32767,65535,131071,262143,524287,1048575,2097151,4194303,8388607,16777215,33554431,16777215,83886079,218103807,536870911,1073741823,2147483647,4294967295,8589934591,17179869183,34359738367,68719476735,68719476735,206158430207,549755813887,1099511627775,2199023255551])]
def i28_l1:aR := aM (fI 28 a28 [] 19237)
def i28_r2:aR := aM (fI 28 a28 [] 3877)
def i28_r3:aR := aM (fI 28 a28 [] 229)
def i28_l4:aR := (aM (fun x0 x1 x2 => fI 28 a28 [(26932,x0),(3367,x1),(211,x2)] 37)) i28_l1 i28_r2 i28_r3
def i28_r5:aR := aM (fI 28 a28 [] 7)
def i28:bG := (aM (fun x0 x1 => fF 28 a28 [(52,x0),(7,x1)])) i28_l4 i28_r5
def i50_l1:aR := aM (fI 50 [] [] 75)
def i50_r2:aR := aM (fI 50 [] [] 15)
def i50:bG := (aM (fun x0 x1 => fF 50 [] [(116,x0),(15,x1)])) i50_l1 i50_r2
def a76:r_ := [(840,[0,0,3,7,15,31,15,127,255,511,1023,2047,4095,8191,16383,8191,65535,131071,262143,8191,532479,8191,3678207,7872511,16261119,33554431,67108863])]
def i76_l1:aR := aM (fI 76 a76 [] 37)
def i76_r2:aR := aM (fI 76 a76 [] 7)
def i76:bG := (aM (fun x0 x1 => fF 76 a76 [(52,x0),(7,x1)])) i76_l1 i76_r2
def i73:bG := aM (fF 73 [] [])
def a51:r_ := [(119392,[0,0,2,7,15,31,63,31,31,415,927,2047,4095,31,8223,31,57375,122911,262143,524287]),(7463,[0,0,3,7,0,16,63,0,0,384,1023,2047])]
def i51_l1:aR := aM (fI 51 a51 [] 17995)
def i51_r2:aR := aM (fI 51 a51 [] 7755)
def i51_r3:aR := aM (fI 51 a51 [] 459)
def i51_l4:aR := (aM (fun x0 x1 x2 => fI 51 a51 [(29848,x0),(7463,x1),(467,x2)] 75)) i51_l1 i51_r2 i51_r3
def i51_r5:aR := aM (fI 51 a51 [] 15)
def i51:bG := (aM (fun x0 x1 => fF 51 a51 [(116,x0),(15,x1)])) i51_l4 i51_r5
def i77_l1:aR := aM (fI 77 [] [] 37)
def i77_r2:aR := aM (fI 77 [] [] 7)
def i77:bG := (aM (fun x0 x1 => fF 77 [] [(52,x0),(7,x1)])) i77_l1 i77_r2
def i74:bG := aM (fF 74 [] [])
def a52:r_ := [(3754,[0,0,0,0,12,28,63,127]),(942,[0,0,0,0,12,31,63]),(8170,[0,0,0,6,0,0,48,127,255])]
def i52:bG := aM (fF 52 a52 [])
def i29_l1:aR := aM (fI 29 [] [] 153903)
def i29_r2:aR := aM (fI 29 [] [] 31023)
def i29_r3:aR := aM (fI 29 [] [] 1839)
def i29_l4:aR := (aM (fun x0 x1 x2 => fI 29 [] [(256308,x0),(32039,x1),(2003,x2)] 303)) i29_l1 i29_r2 i29_r3
def i29_r5:aR := aM (fI 29 [] [] 63)
def i29:bG := (aM (fun x0 x1 => fF 29 [] [(500,x0),(63,x1)])) i29_l4 i29_r5
def i88_l1:aR := aM (fI 88 [] [] 1215)
def i88_r2:aR := aM (fI 88 [] [] 255)
def i88:bG := (aM (fun x0 x1 => fF 88 [] [(2036,x0),(255,x1)])) i88_l1 i88_r2
def a70:r_ := [(2074219,[0,1,3,7,0,16,63,127,255,511,1023]),(129639,[0,0,2,6,14,0,32,126,255,511,1023]),(30,[0,1,0,0,8,24,56,120,0,256,0,1792,0,4096,12288,28672,65535,131071,262143])]
def i70_l1:aR := aM (fI 70 a70 [] 607)
def i70_l2:aR := aM (fI 70 a70 [] 314559)
def i70_r3:aR := aM (fI 70 a70 [] 15551)
def i70_l4:aR := (aM (fun x0 x1 => fI 70 a70 [(521420,x0),(16295,x1)] 1215)) i70_l2 i70_r3
def i70_r5:aR := aM (fI 70 a70 [] 255)
def i70_r6:aR := (aM (fun x0 x1 => fI 70 a70 [(2036,x0),(255,x1)] 127)) i70_l4 i70_r5
def i70:bG := (aM (fun x0 x1 => fF 70 a70 [(1012,x0),(127,x1)])) i70_l1 i70_r6
def i46:bG := aM (fF 46 [] [])
def i45:bG := aM (fF 45 [] [])
def a25:r_ := [(1864,[0,1,0,7,15,0,32,0,224,480,1023])]
def i25_l1:aR := aM (fI 25 a25 [] 75)
def i25_r2:aR := aM (fI 25 a25 [] 15)
def i25:bG := (aM (fun x0 x1 => fF 25 a25 [(116,x0),(15,x1)])) i25_l1 i25_r2
def a72:r_ := [(14,[0,0,2,7,0,0,63,127,255,255,511,2047])]
def i72:bG := aM (fF 72 a72 [])
def a71:r_ := [(8015054,[0,0,2,7,0,0,32,127,255,511])]
def i71_l1:aR := aM (fI 71 a71 [] 19607)
def i71_r2:aR := aM (fI 71 a71 [] 919)
def i71_l3:aR := (aM (fun x0 x1 => fI 71 a71 [(31308,x0),(979,x1)] 151)) i71_l1 i71_r2
def i71_r4:aR := aM (fI 71 a71 [] 31)
def i71:bG := (aM (fun x0 x1 => fF 71 a71 [(244,x0),(31,x1)])) i71_l3 i71_r4
def i53:bG := aM (fF 53 [] [])
def a91:r_ := [(2036,[0,0,2,7,15,31,63,127,255,511,1023,2047,4095,8191,16383,32767,65535,131071,262143,524287,1048575,524287,2621439,6815743,15204351,33554431,67108863,134217727,268435455,536870911,1073741823,2147483647,4294967295,8589934591,17179869183,8589934591,42949672959,111669149695,249108103167,8589934591,558345748479,2173253451775,4372276707327,8796093022207,17592186044415,35184372088831])]
def i91:bG := aM (fF 91 a91 [])
def i92:bG := aM (fF 92 [] [])
def i93:bG := aM (fF 93 [] [])
def a94:r_ := [(7833,[0,1,0,0,0,24,0,64,248,508,1020,2044,4092,8191,16383,32767])]
def i94_l1:aR := aM (fI 94 a94 [] 151)
def i94_r2:aR := aM (fI 94 a94 [] 31)
def i94:bG := (aM (fun x0 x1 => fF 94 a94 [(244,x0),(31,x1)])) i94_l1 i94_r2
def i89:bG := aM (fF 89 [] [])
def xL:r_ := [(262564505,[0,0,2,6,14,0,32,96,224,0,512,0,3584,8160,16352,32766,65534,131070,262143,524287])]
def i90_l1:aR := aM (fI 90 xL [] 599)
def i90_l2:aR := aM (fI 90 xL [] 4895535)
def i90_l3:aR := aM (fI 90 xL [] 10400559)
def i90_r4:aR := (aM (fun x0 => fI 90 xL [(16410300,x0)] 963375)) i90_l3
def i90_l5:aR := aM (fI 90 xL [] 4961071)
def i90_l6:aR := aM (fI 90 xL [] 5153731375)
def i90_r7:aR := aM (fI 90 xL [] 254784303)
def i90_l8:aR := (aM (fun x0 x1 => fI 90 xL [(8402105548,x0),(262565799,x1)] 19903279)) i90_l6 i90_r7
def i90_r9:aR := aM (fI 90 xL [] 3887)
def i90_l10:aR := (aM (fun x0 x1 x2 x3 x4 => fI 90 xL [(8205140,x0),(1025643,x1),(8205172,x2),(32820724,x3),(4007,x4)] 303)) i90_l2 i90_r4 i90_l5 i90_l8 i90_r9
def i90_r11:aR := aM (fI 90 xL [] 63)
def i90_r12:aR := (aM (fun x0 x1 => fI 90 xL [(500,x0),(63,x1)] 31)) i90_l10 i90_r11
def i90:bG := (aM (fun x0 x1 => fF 90 xL [(980,x0),(31,x1)])) i90_l1 i90_r12
def i21:bG := aM (fF 21 [] [])
def i99_l1:aR := aM (fI 99 [] [] 151)
def i99_r2:aR := aM (fI 99 [] [] 31)
def i99:bG := (aM (fun x0 x1 => fF 99 [] [(244,x0),(31,x1)])) i99_l1 i99_r2
def VU:r_ := [(64030,[0,1,0,7,0,16,0,127,63,511,1023,2047]),(6,[0,1,3,7,15,31,0,64,192,448,960,63,4095])]
def i100_l1:aR := aM (fI 100 VU [] 303)
def i100_r2:aR := aM (fI 100 VU [] 63)
def i100:bG := (aM (fun x0 x1 => fF 100 VU [(500,x0),(63,x1)])) i100_l1 i100_r2
def i106:bG := aM (fF 106 [] [])
def a107:r_ := [(14,[0,1,3,7,0,31,63,0,128,384,896,0,3968,8064,0,0,49279,131071])]
def i107:bG := aM (fF 107 a107 [])
def a109:r_ := [(261427,[0,0,0,0,0,0,48,112,0,0,768,1792,4083,8179,16383,32767]),(60,[0,1,3,7,15,31,63,127,127,511,1023,2047,4095,8191,16383,32767,4095,131071,262143,524287,1048575,4095,2101247,6295551,14684159,4095,65015807,132124671,266342399,534777855,1073741823,2147483647,4294967295,8589934591,8589934591,25769803775,8589934591,77309411327,266287972351,549755813887,1099511627775,2199023255551]),(62,[0,1,3,7,0,31,63,127,255,0,512,1536,3584,0,15872,32256,65024,130560,511,524287])]
def i109_l1:aR := aM (fI 109 a109 [] 2431)
def i109_r2:aR := aM (fI 109 a109 [] 511)
def i109:bG := (aM (fun x0 x1 => fF 109 a109 [(4084,x0),(511,x1)])) i109_l1 i109_r2
def a110:r_ := [(28,[0,1,3,7,0,31,63,127,255,511,1023,2047,4095,8191,16383,2047,65535,131071,262143,524287,1048575,2097151,4194303,8388607,16777215,33554431,67108863,8388607,268435455,536870911,1073741823,2147483647,8388607,4303355903,12893290495,30073159679,8388607,133152374783,270591328255,545469235199,1095225049087,2199023255551,4398046511103]),(30,[0,1,3,7,0,16,48,112,0,496,1008,2032,4080,8176,16383,32767,65535])]
def i110:bG := aM (fF 110 a110 [])
def a112:r_ := [(126,[0,1,3,7,0,31,63,127,255,0,512,1536,3584,0,15872,32256,65024,130560,511,524287]),(1020,[0,1,3,0,15,0,32,127,255,511,1023,2047,511,8191,511,16895,65535,131071,262143,524287,524287,1572863,524287,4718591,16252927,33554431,67108863,134217727])]
def i112:bG := aM (fF 112 a112 [])
def VV:r_ := [(256414,[0,0,2,6,14,0,62,126,254,510,0,1024,3072,7168,0,31744,64512,130048,261120,524286,1048575,2097151])]
def i114_l1:aR := aM (fI 114 VV [] 303)
def i114_r2:aR := aM (fI 114 VV [] 63)
def i114:bG := (aM (fun x0 x1 => fF 114 VV [(500,x0),(63,x1)])) i114_l1 i114_r2
def i116_l1:aR := aM (fI 116 [] [] 37)
def i116_r2:aR := aM (fI 116 [] [] 7)
def i116:bG := (aM (fun x0 x1 => fF 116 [] [(52,x0),(7,x1)])) i116_l1 i116_r2
def i117:bG := aM (fF 117 [] [])
def i101_l1:aR := aM (fI 101 [] [] 37)
def i101_r2:aR := aM (fI 101 [] [] 7)
def i101:bG := (aM (fun x0 x1 => fF 101 [] [(52,x0),(7,x1)])) i101_l1 i101_r2
def a105:r_ := [(16043982,[0,1,3,0,8,24,7,71,255,511]),(15666,[0,1,3,7,0,16,48,112,0,256,0,1792,4080,8176,16383,32767,0,131071])]
def i105_l1:aR := aM (fI 105 a105 [] 309655)
def i105_r2:aR := aM (fI 105 a105 [] 63895)
def i105_r3:aR := aM (fI 105 a105 [] 1943)
def i105_l4:aR := (aM (fun x0 x1 x2 => fI 105 a105 [(501364,x0),(62671,x1),(1959,x2)] 151)) i105_l1 i105_r2 i105_r3
def i105_r5:aR := aM (fI 105 a105 [] 31)
def i105:bG := (aM (fun x0 x1 => fF 105 a105 [(244,x0),(31,x1)])) i105_l4 i105_r5
def a41:r_ := [(28,[0,1,3,7,15,0,32,127,255,0])]
def i41_l1:aR := aM (fI 41 a41 [] 40139)
def i41_r2:aR := aM (fI 41 a41 [] 971)
def i41_l3:aR := (aM (fun x0 x1 => fI 41 a41 [(59804,x0),(935,x1)] 75)) i41_l1 i41_r2
def i41_r4:aR := aM (fI 41 a41 [] 15)
def i41:bG := (aM (fun x0 x1 => fF 41 a41 [(116,x0),(15,x1)])) i41_l3 i41_r4
def a125:r_ := [(14,[0,1,3,7,15,0,32,96,224,0,992,2016,4095,8191,0,16384,49152,114688,245760,0,524288,1572864,3670016,0,8388608,0,58720256,133693440,267911168,536854528,1073725440,0,0,6442467327,17179869183]),(1020,[0,1,0,4,12,28,60,127])]
def i125:bG := aM (fF 125 a125 [])
def aaC:r_ := [(100,[0,0,0,0,0,0,48,112,0,0,768,1792,4083,8179,16383,32767])]
def i126_l1:aR := aM (fI 126 aaC [] 9)
def i126:bG := (aM (fun x0 => fF 126 aaC [(12,x0)])) i126_l1
def a127:r_ := [(100,[0,0,0,0,0,0,48,112,0,0,768,1792,4083,8179,16383,32767])]
def i127_l1:aR := aM (fI 127 a127 [] 9)
def i127:bG := (aM (fun x0 => fF 127 a127 [(12,x0)])) i127_l1
def a134:r_ := [(6,[0,0,2,0,8,24,56,120,254,1,1023])]
def i134:bG := aM (fF 134 a134 [])
def i135_l1:aR := aM (fI 135 [] [] 75)
def i135_r2:aR := aM (fI 135 [] [] 15)
def i135:bG := (aM (fun x0 x1 => fF 135 [] [(116,x0),(15,x1)])) i135_l1 i135_r2
def i137_l1:aR := aM (fI 137 [] [] 9)
def i137:bG := (aM (fun x0 => fF 137 [] [(12,x0)])) i137_l1
def i136:bG := aM (fF 136 [] [])
def i139:bG := aM (fF 139 [] [])
def a141:r_ := [(30,[0,0,0,4,12,28,0,124,252,508,1020,2044,4092,8188,16380,32764,65532,8188,262140,524284,1048572,2097148,4194300,8388604,8189,16785407,67108863])]
def i141:bG := aM (fF 141 a141 [])
def a142:r_ := [(6,[0,1,3,7,0,16,48,112,255,511,0,1024,3072,7168,0,16384,49152,114688,245760,523264,1047552,2097151,0,8388607,16777215])]
def i142:bG := aM (fF 142 a142 [])
def i143_l1:aR := aM (fI 143 [] [] 40139)
def i143_r2:aR := aM (fI 143 [] [] 971)
def i143_l3:aR := (aM (fun x0 x1 => fI 143 [] [(59804,x0),(935,x1)] 75)) i143_l1 i143_r2
def i143_r4:aR := aM (fI 143 [] [] 15)
def i143:bG := (aM (fun x0 x1 => fF 143 [] [(116,x0),(15,x1)])) i143_l3 i143_r4
def i145:bG := aM (fF 145 [] [])
def i130:bG := aM (fF 130 [] [])
def IX:r_ := [(1910088,[0,0,3,7,0,0,32,112,240,511]),(1864,[0,0,3,7,0,0,32,112,240,511])]
def i147_l1:aR := aM (fI 147 IX [] 76363)
def i147_r2:aR := aM (fI 147 IX [] 14923)
def i147_r3:aR := aM (fI 147 IX [] 459)
def i147_l4:aR := (aM (fun x0 x1 x2 => fI 147 IX [(119380,x0),(14923,x1),(467,x2)] 75)) i147_l1 i147_r2 i147_r3
def i147_r5:aR := aM (fI 147 IX [] 15)
def i147:bG := (aM (fun x0 x1 => fF 147 IX [(116,x0),(15,x1)])) i147_l4 i147_r5
def a148:r_ := [(7475,[0,0,0,0,0,0,48,112,0,0,768,1792,4083,8179,16383,32767])]
def i148_l1:aR := aM (fI 148 a148 [] 75)
def i148_r2:aR := aM (fI 148 a148 [] 15)
def i148:bG := (aM (fun x0 x1 => fF 148 a148 [(116,x0),(15,x1)])) i148_l1 i148_r2
def i131:bG := aM (fF 131 [] [])
def i132:bG := aM (fF 132 [] [])
def i133:bG := aM (fF 133 [] [])
def i64_l1:aR := aM (fI 64 [] [] 151)
def i64_r2:aR := aM (fI 64 [] [] 31)
def i64:bG := (aM (fun x0 x1 => fF 64 [] [(244,x0),(31,x1)])) i64_l1 i64_r2
def a66:r_ := [(6,[0,0,3,7,0,0,48,127,255])]
def i66:bG := aM (fF 66 a66 [])
def i65_l1:aR := aM (fI 65 [] [] 151)
def i65_r2:aR := aM (fI 65 [] [] 31)
def i65:bG := (aM (fun x0 x1 => fF 65 [] [(244,x0),(31,x1)])) i65_l1 i65_r2
def a67:r_ := [(6756,[0,0,3,7,0,0,48,112,255]),(6758,[0,0,3,7,0,0,48,112,255,511])]
def i67_l1:aR := aM (fI 67 a67 [] 37)
def i67_r2:aR := aM (fI 67 a67 [] 7)
def i67:bG := (aM (fun x0 x1 => fF 67 a67 [(52,x0),(7,x1)])) i67_l1 i67_r2
def i154_l1:aR := aM (fI 154 [] [] 17)
def i154_r2:aR := aM (fI 154 [] [] 7)
def i154:bG := (aM (fun x0 x1 => fF 154 [] [(24,x0),(7,x1)])) i154_l1 i154_r2
def i168:bG := aM (fF 168 [] [])
def i169_l1:aR := aM (fI 169 [] [] 154007)
def i169_r2:aR := aM (fI 169 [] [] 31127)
def i169_r3:aR := aM (fI 169 [] [] 1943)
def i169_l4:aR := (aM (fun x0 x1 x2 => fI 169 [] [(250676,x0),(31335,x1),(1959,x2)] 151)) i169_l1 i169_r2 i169_r3
def i169_r5:aR := aM (fI 169 [] [] 31)
def i169:bG := (aM (fun x0 x1 => fF 169 [] [(244,x0),(31,x1)])) i169_l4 i169_r5
def i170:bG := aM (fF 170 [] [])
def a164:r_ := [(29180,[0,1,3,7,7,23,63,127,7,7,775,1799,4095,8191,16383])]
def i164_l1:aR := aM (fI 164 a164 [] 19)
def i164:bG := (aM (fun x0 => fF 164 a164 [(28,x0)])) i164_l1
def VW:r_ := [(3378,[0,0,0,6,14,31])]
def i165_l1:aR := aM (fI 165 VW [] 37)
def i165_r2:aR := aM (fI 165 VW [] 7)
def i165:bG := (aM (fun x0 x1 => fF 165 VW [(52,x0),(7,x1)])) i165_l1 i165_r2
def aaD:r_ := [(29180,[0,1,3,7,7,7,39,119,247,7,7,1543,3591,8191,16383,32767,65535])]
def i166_l1:aR := aM (fI 166 aaD [] 19)
def i166:bG := (aM (fun x0 => fF 166 aaD [(28,x0)])) i166_l1
def a85:r_ := [(100,[0,0,0,0,0,0,48,112,0,0,768,1792,4083,8179,16383,32767])]
def i85_l1:aR := aM (fI 85 a85 [] 9)
def i85:bG := (aM (fun x0 => fF 85 a85 [(12,x0)])) i85_l1
def i86:bG := aM (fF 86 [] [])
def i196_l1:aR := aM (fI 196 [] [] 37)
def i196_r2:aR := aM (fI 196 [] [] 7)
def i196:bG := (aM (fun x0 x1 => fF 196 [] [(52,x0),(7,x1)])) i196_l1 i196_r2
def i171:bG := aM (fF 171 [] [])
def PT:r_ := [(3216,[0,0,3,7,15,15,63,127,15,15,527,1807,3855,8191,16383]),(6436,[0,0,0,0,8,0,0,64,224,480,0,0,3072,7168,16355,32739,65535,131071])]
def i179_l1:aR := aM (fI 179 PT [] 585)
def i179_r2:aR := aM (fI 179 PT [] 57)
def i179_l3:aR := (aM (fun x0 x1 => fI 179 PT [(804,x0),(51,x1)] 9)) i179_l1 i179_r2
def i179:bG := (aM (fun x0 => fF 179 PT [(12,x0)])) i179_l3
def i185:bG := aM (fF 185 [] [])
def PU:r_ := [(3216,[0,0,3,7,15,15,15,111,239,15,15,1039,3599,7695,16383,32767,65535]),(6436,[0,0,0,0,8,0,0,64,224,480,0,0,3072,7168,16355,32739,65535,131071])]
def i188_l1:aR := aM (fI 188 PU [] 585)
def i188_r2:aR := aM (fI 188 PU [] 57)
def i188_l3:aR := (aM (fun x0 x1 => fI 188 PU [(804,x0),(51,x1)] 9)) i188_l1 i188_r2
def i188:bG := (aM (fun x0 => fF 188 PU [(12,x0)])) i188_l3
def i197_l1:aR := aM (fI 197 [] [] 37)
def i197_r2:aR := aM (fI 197 [] [] 7)
def i197:bG := (aM (fun x0 x1 => fF 197 [] [(52,x0),(7,x1)])) i197_l1 i197_r2
def i202:bG := aM (fF 202 [] [])
def a3:r_ := [(8008,[0,0,3,7,15,0,63,127,255,511,511,2047,4095,8191,511,32767,65535,131071,262143,524287,524287,2097151,524287,524287,13107199,29884415,67108863,134217727])]
def i3_l1:aR := aM (fI 3 a3 [] 303)
def i3_l2:aR := aM (fI 3 a3 [] 4863)
def i3_r3:aR := aM (fI 3 a3 [] 1023)
def i3_r4:aR := (aM (fun x0 x1 => fI 3 a3 [(8180,x0),(1023,x1)] 63)) i3_l2 i3_r3
def i3:bG := (aM (fun x0 x1 => fF 3 a3 [(500,x0),(63,x1)])) i3_l1 i3_r4
end Go.Abs
end
namespace Go.Abs
open Go.Proofs
def F2:a_->Nat->Bool
 |[],_=>false
 |a::r,n=>bif Nat.beq a n then true else F2 r n
def afH:r_->Nat->a_
 |[],_=>[]
 |(a,l)::r,n=>bif Nat.beq a n then l else afH r n
def atf:a_:=[22,35,44,48,63,82,83,85,100,102,104,126,127,128,130,132,137,146,147,154,155,156,157,158,159,160,161,162,164,166,174,176,177,178,179,180,181,182,183,184,186,187,188,189,190,191,192,193,194,195,198,199,200,201,203,204,205,206,207]
def at1:r_:=[(22,[22,44,48,35]),(35,[35]),(44,[44]),(48,[48]),(63,[63,82,83]),(82,[82]),(83,[83]),(85,[85]),(100,[100,126,127]),(102,[102,128,155,156,157,158,159,160,161,162,174,176,177,178,198]),(104,[104]),(126,[126]),(127,[127]),(128,[128,155,156,157,158,159,160,161,162,174,176,177,178,198]),(130,[130,164,176,179,180,181,182,183,184,186,187,199,200,201,206]),(132,[132,166,176,188,189,190,191,192,193,194,195,203,204,205,207]),(137,[137]),(146,[146]),(147,[147]),(154,[154]),(155,[155]),(156,[156,174]),(157,[157,176]),(158,[158,177,178,198]),(159,[159]),(160,[160]),(161,[161]),(162,[162]),(164,[164,176,179,180,181,182,183,184,186,187,199,200,201,206]),(166,[166,176,188,189,190,191,192,193,194,195,203,204,205,207]),(174,[174]),(176,[176]),(177,[177,178,198]),(178,[178,198]),(179,[179]),(180,[180,199]),(181,[176,181]),(182,[182,200,201,206]),(183,[183]),(184,[184]),(186,[186]),(187,[187]),(188,[188]),(189,[189,203]),(190,[176,190]),(191,[191,204,205,207]),(192,[192]),(193,[193]),(194,[194]),(195,[195]),(198,[198]),(199,[199]),(200,[200,201,206]),(201,[201,206]),(203,[203]),(204,[204,205,207]),(205,[205,207]),(206,[206]),(207,[207])]
def afG:a_:=[41,3]
def Zp(f:Nat)(args:e_):Option (Option RV):=
 bif Nat.beq f 68 then some (UO args)
 else bif Nat.beq f 129 then some (Pd args)
 else bif F2 [53,139] f then UM args
 else bif Nat.beq f 47 then UN args
 else none
noncomputable def S:Sys:={P:=Tryz.prog,shared:=F2 atf,sites:=afH at1,lone:=fun s=>F2 afG (s/64000000),fns:=Dk Tryz.prog,prim:=Zp}
abbrev dq(n:Nat):Prop:=S.shared n=false
def c31:S.fns 31=some i31:=ah
def s31:dq 31:=rfl
def c40:S.fns 40=some i40:=ah
def s40:dq 40:=rfl
def c24:S.fns 24=some i24:=ah
def s24:dq 24:=rfl
def c7:S.fns 7=some i7:=ah
def s7:dq 7:=rfl
def c8:S.fns 8=some i8:=ah
def s8:dq 8:=rfl
def c80:S.fns 80=some i80:=ah
def s80:dq 80:=rfl
def c96:S.fns 96=some i96:=ah
def s96:dq 96:=rfl
def c81:S.fns 81=some i81:=ah
def s81:dq 81:=rfl
def c82:S.fns 82=some i82:=ah
def c83:S.fns 83=some i83:=ah
def c84:S.fns 84=some i84:=ah
def s84:dq 84:=rfl
def c63:S.fns 63=some i63:=ah
def c97:S.fns 97=some i97:=ah
def s97:dq 97:=rfl
def c120:S.fns 120=some i120:=ah
def s120:dq 120:=rfl
def c119:S.fns 119=some i119:=ah
def s119:dq 119:=rfl
def c95:S.fns 95=some i95:=ah
def s95:dq 95:=rfl
def c118:S.fns 118=some i118:=ah
def s118:dq 118:=rfl
def c10:S.fns 10=some i10:=ah
def s10:dq 10:=rfl
def c27:S.fns 27=some i27:=ah
def s27:dq 27:=rfl
def c30:S.fns 30=some i30:=ah
def s30:dq 30:=rfl
def c26:S.fns 26=some i26:=ah
def s26:dq 26:=rfl
def c49:S.fns 49=some i49:=ah
def s49:dq 49:=rfl
def c75:S.fns 75=some i75:=ah
def s75:dq 75:=rfl
def c28:S.fns 28=some i28:=ah
def s28:dq 28:=rfl
def c50:S.fns 50=some i50:=ah
def s50:dq 50:=rfl
def c76:S.fns 76=some i76:=ah
def s76:dq 76:=rfl
def c73:S.fns 73=some i73:=ah
def s73:dq 73:=rfl
def c51:S.fns 51=some i51:=ah
def s51:dq 51:=rfl
def c77:S.fns 77=some i77:=ah
def s77:dq 77:=rfl
def c74:S.fns 74=some i74:=ah
def s74:dq 74:=rfl
def c52:S.fns 52=some i52:=ah
def s52:dq 52:=rfl
def c29:S.fns 29=some i29:=ah
def s29:dq 29:=rfl
def c88:S.fns 88=some i88:=ah
def s88:dq 88:=rfl
def c70:S.fns 70=some i70:=ah
def s70:dq 70:=rfl
def c46:S.fns 46=some i46:=ah
def s46:dq 46:=rfl
def c45:S.fns 45=some i45:=ah
def s45:dq 45:=rfl
def c25:S.fns 25=some i25:=ah
def s25:dq 25:=rfl
def c72:S.fns 72=some i72:=ah
def s72:dq 72:=rfl
def c71:S.fns 71=some i71:=ah
def s71:dq 71:=rfl
def c53:S.fns 53=some i53:=ah
def s53:dq 53:=rfl
def c91:S.fns 91=some i91:=ah
def s91:dq 91:=rfl
def c92:S.fns 92=some i92:=ah
def s92:dq 92:=rfl
def c93:S.fns 93=some i93:=ah
def s93:dq 93:=rfl
def c94:S.fns 94=some i94:=ah
def s94:dq 94:=rfl
def c89:S.fns 89=some i89:=ah
def s89:dq 89:=rfl
def c90:S.fns 90=some i90:=ah
def s90:dq 90:=rfl
def c21:S.fns 21=some i21:=ah
def s21:dq 21:=rfl
def c99:S.fns 99=some i99:=ah
def s99:dq 99:=rfl
def c100:S.fns 100=some i100:=ah
def c106:S.fns 106=some i106:=ah
def s106:dq 106:=rfl
def c107:S.fns 107=some i107:=ah
def c109:S.fns 109=some i109:=ah
def c110:S.fns 110=some i110:=ah
def c112:S.fns 112=some i112:=ah
def c114:S.fns 114=some i114:=ah
def c116:S.fns 116=some i116:=ah
def s116:dq 116:=rfl
def c117:S.fns 117=some i117:=ah
def s117:dq 117:=rfl
def c101:S.fns 101=some i101:=ah
def s101:dq 101:=rfl
def c105:S.fns 105=some i105:=ah
def s105:dq 105:=rfl
def c41:S.fns 41=some i41:=ah
def s41:dq 41:=rfl
def c125:S.fns 125=some i125:=ah
def s125:dq 125:=rfl
def c126:S.fns 126=some i126:=ah
def c127:S.fns 127=some i127:=ah
def c134:S.fns 134=some i134:=ah
def s134:dq 134:=rfl
def c135:S.fns 135=some i135:=ah
def s135:dq 135:=rfl
def c137:S.fns 137=some i137:=ah
def c136:S.fns 136=some i136:=ah
def s136:dq 136:=rfl
def c139:S.fns 139=some i139:=ah
def s139:dq 139:=rfl
def c141:S.fns 141=some i141:=ah
def s141:dq 141:=rfl
def c142:S.fns 142=some i142:=ah
def s142:dq 142:=rfl
def c143:S.fns 143=some i143:=ah
def s143:dq 143:=rfl
def c145:S.fns 145=some i145:=ah
def s145:dq 145:=rfl
def c130:S.fns 130=some i130:=ah
def c147:S.fns 147=some i147:=ah
def c148:S.fns 148=some i148:=ah
def s148:dq 148:=rfl
def c131:S.fns 131=some i131:=ah
def c132:S.fns 132=some i132:=ah
def c133:S.fns 133=some i133:=ah
def c64:S.fns 64=some i64:=ah
def s64:dq 64:=rfl
def c66:S.fns 66=some i66:=ah
def s66:dq 66:=rfl
def c65:S.fns 65=some i65:=ah
def s65:dq 65:=rfl
def c67:S.fns 67=some i67:=ah
def s67:dq 67:=rfl
def c154:S.fns 154=some i154:=ah
def c168:S.fns 168=some i168:=ah
def s168:dq 168:=rfl
def c169:S.fns 169=some i169:=ah
def s169:dq 169:=rfl
def c170:S.fns 170=some i170:=ah
def s170:dq 170:=rfl
def c164:S.fns 164=some i164:=ah
def s164:S.shared 164=true:=ah
def c165:S.fns 165=some i165:=ah
def s165:dq 165:=rfl
def c166:S.fns 166=some i166:=ah
def s166:S.shared 166=true:=ah
def c85:S.fns 85=some i85:=ah
def s85:S.shared 85=true:=ah
def c86:S.fns 86=some i86:=ah
def s86:dq 86:=rfl
def c196:S.fns 196=some i196:=ah
def s196:dq 196:=rfl
def c171:S.fns 171=some i171:=ah
def s171:dq 171:=rfl
def c179:S.fns 179=some i179:=ah
def s179:S.shared 179=true:=ah
def c185:S.fns 185=some i185:=ah
def s185:dq 185:=rfl
def c188:S.fns 188=some i188:=ah
def s188:S.shared 188=true:=ah
def c197:S.fns 197=some i197:=ah
def s197:dq 197:=rfl
def c202:S.fns 202=some i202:=ah
def s202:dq 202:=rfl
def c3:S.fns 3=some i3:=ah
def s3:dq 3:=rfl
end Go.Abs
namespace Go.Abs
noncomputable section
def a48:r_ := [(3,[0,0,2,6,14,0,32,126,255,511,1023])]
def i48:bG := aM (fF 48 a48 [])
def a44:r_ := [(12,[0,1,3,7,0,16,48,112,240,511]),(30,[0,1,3,7,0,16,48,112,240,511,1023,2047,4095])]
def i44:bG := aM (fF 44 a44 [])
def i43_l1:aR:=(.seq (rf [ot 14 .lss 13 12]) (.seq (ct 14 .skip (.exit 0)) (.seq (.block 1 (.seq (rf [oi 15 6 11 13,ox 16 6 15,oo 5 (.alloc 2752256128 [il 0,il 0,il 0,il 0,il 0,.bool false]),os 6 5 16]) (rf [om 17 3,ox 18 6 5,oc 19 2752320128 69 [.t 18],oo 20 (.bin .add (.k (.one (.p (.str ⟨#[32]⟩)))) (.t 19)),ot 21 .add 17 20,om 3 21]))) (rf [oj 22 .add 13 1,om 13 22]))))
def i43_r2:aR:=(.seq (rf [om 23 3,om 2 23]) .ret)
def i43:bG:=⟨24,[(2,none)],(.seq (rf [oo 1 (.box 2752000000 (.t 0)),oo 2 (.zQ (.k (.one (.p (.str ⟨#[]⟩)))))]) (.seq (rf [of 6 0 1,ol 7 6,oc 8 2752064128 68 [.t 7],oo 9 (.bin .add (.t 8) (.k (.one (.p (.str ⟨#[58]⟩))))),om 3 9]) (.seq (.seq (rf [of 10 1 1,ol 11 10,oh 12 11,mi 13 0]) (.block 0 (.loop i43_l1))) i43_r2)))⟩
def i69:bG:=⟨40,[(2,none)],(.seq (rf [oo 1 (.box 4416000000 (.t 0)),oo 2 (.zQ (.k (.one (.p (.str ⟨#[]⟩)))))]) (.seq (.seq (rf [of 4 0 1,ol 5 4]) (.block 0 (.seq (rf [oj 7 .eql 5 1,om 6 7]) (ct 6 (.seq (rt [of 8 1 1,dl 9 8 1,dc 10 4416192128 68 [.t 9] 3,od 11 (.bin .add (.t 10) (.k (.one (.p (.str ⟨#[46]⟩))))) 7,of 12 2 1,dl 13 12 16,dc 14 4416192384 68 [.t 13] 55,dt 15 .add 11 14 127,dm 2 15 255]) .ret) (.seq (rf [oj 17 .eql 5 2,om 16 17]) (ct 16 (.seq (rf [of 18 3 1,ol 19 18,oc 20 4416320128 68 [.t 19],oo 21 (.bin .add (.t 20) (.k (.one (.p (.str ⟨#[117]⟩))))),om 3 21]) (.seq (.seq (rf [of 22 5 1,ol 23 22]) (ct 23 (rf [of 24 3 1,ol 25 24,oc 26 4416448128 68 [.t 25],oo 27 (.bin .add (.t 26) (.k (.one (.p (.str ⟨#[111]⟩))))),om 3 27]) .skip)) (.seq (.seq (rf [of 28 4 1,ol 29 28]) (.block 1 (.seq (rf [oj 31 .eql 29 1,om 30 31]) (ct 30 (.seq (rf [om 32 3, oo 33 (.bin .add (.t 32) (.k (.one (.p (.str ⟨#[43]⟩))))),om 2 33]) .ret) (.seq (rf [oo 35 (.bin .eql (.t 29) (.i (-1))),om 34 35]) (ct 34 (.seq (rf [om 36 3,oo 37 (.bin .add (.t 36) (.k (.one (.p (.str ⟨#[45]⟩))))),om 2 37]) .ret) .skip)))))) (.seq (rf [om 38 3,oo 39 (.bin .add (.t 38) (.k (.one (.p (.str ⟨#[63]⟩))))),om 2 39]) .ret)))) .skip)))))) (.seq (rf [oo 2 (.zQ (.k (.one (.p (.str ⟨#[63]⟩)))))]) .ret)))⟩
def i6_l1:aR := aM (fI 6 [] [] 607)
def i6_r2:aR := aM (fI 6 [] [] 127)
def i6:bG := (aM (fun x0 x1 => fF 6 [] [(1012,x0),(127,x1)])) i6_l1 i6_r2
def i23:bG := aM (fF 23 [] [])
def i35:bG := aM (fF 35 [] [])
def a22:r_ := [(8265318,[0,0,2,6,0,16,62,127,0,511])]
def i22_l1:aR := aM (fI 22 a22 [] 40479)
def i22_l2:aR := (aM (fun x0 => fI 22 a22 [(64572,x0)] 287)) i22_l1
def i22_r3:aR := aM (fI 22 a22 [] 127)
def i22:bG := (aM (fun x0 x1 => fF 22 a22 [(504,x0),(127,x1)])) i22_l2 i22_r3
def i20:bG := aM (fF 20 [] [])
def i42:bG := aM (fF 42 [] [])
def i32_l1:aR := aM (fI 32 [] [] 75)
def i32_r2:aR := aM (fI 32 [] [] 15)
def i32:bG := (aM (fun x0 x1 => fF 32 [] [(116,x0),(15,x1)])) i32_l1 i32_r2
def i36:bG := aM (fF 36 [] [])
def a9:r_ := [(840,[0,0,3,7,0,31])]
def i9_l1:aR := aM (fI 9 a9 [] 37)
def i9_r2:aR := aM (fI 9 a9 [] 7)
def i9:bG := (aM (fun x0 x1 => fF 9 a9 [(52,x0),(7,x1)])) i9_l1 i9_r2
def i4:bG := aM (fF 4 [] [])
def i47:bG := aM (fF 47 [] [])
end
def c48:S.fns 48=some i48:=ah
def s48 : S.shared 48 = true :=ah
def c44:S.fns 44=some i44:=ah
def s44 : S.shared 44 = true :=ah
def c43:S.fns 43=some i43:=ah
def s43:dq 43:=rfl
def c69:S.fns 69=some i69:=ah
def s69:dq 69:=rfl
def c6:S.fns 6=some i6:=ah
def s6:dq 6:=rfl
def c23:S.fns 23=some i23:=ah
def s23:dq 23:=rfl
def s34:dq 34:=rfl
def s14:dq 14:=rfl
def s18:dq 18:=rfl
def s16:dq 16:=rfl
def c35:S.fns 35=some i35:=ah
def s35 : S.shared 35 = true :=ah
def c22:S.fns 22=some i22:=ah
def s22 : S.shared 22 = true :=ah
def s33:dq 33:=rfl
def s55:dq 55:=rfl
def c20:S.fns 20=some i20:=ah
def s20:dq 20:=rfl
def c42:S.fns 42=some i42:=ah
def s42:dq 42:=rfl
def s56:dq 56:=rfl
def s54:dq 54:=rfl
def c32:S.fns 32=some i32:=ah
def s32:dq 32:=rfl
def c36:S.fns 36=some i36:=ah
def s36:dq 36:=rfl
def c9:S.fns 9=some i9:=ah
def s9:dq 9:=rfl
def s5:dq 5:=rfl
def c4:S.fns 4=some i4:=ah
def s4:dq 4:=rfl
def c47:S.fns 47=some i47:=ah
def s47:dq 47:=rfl
end Go.Abs
