/-
  EaseJoins: for every two codes and every limit the call returns true and the arguments read as they did. It holds for every input that the row speaks of; the tables that the row lists hold what the text lays.
-/
import Derived.Test.YtnhlfpanllllgaaGreatDoorOb
import Derived.Test.YtnhlfpanllllgaaGreatDoorTie
import Derived.Deep.DeepHandedRow
import Derived.Deep.DeepLaidRun
import Derived.Stop.LaidErr
import Derived.Test.YtnhlfpanllllgaaGreatDoorSb
import Derived.Test.YtnhlfpanllllgaaGreatDoorTa
import Derived.Test.YtnhlfpanllllgaaGreatDoorFa
import Derived.Test.YtnhlfpanllllgaaGreatDoorGa
set_option linter.all false
open List renaming length->I
set_option maxRecDepth 100000
set_option maxHeartbeats 16000000
namespace Go.Abs

variable{f g:Int}{A B:ae}
theorem aHU{L:ae}{n:Int}(hl:I L<=1000000)(h:zm (dA f L) n≠0):aJ S 12 [df f L,aC n] (.tup [.one (.p .nils),.one (.p (.int .i64 (zm (dA f L) n)))]):=by
 have g:=aB7 hl h;have lo:S.lone 768064128:=ah;generalize zm (dA f L) n=e at*;have e1:(e !=0):=by simpa using h
 have rO:∀(aj:aB),eF aj [] 768064128 ((RV.tup [.agg [.p (.int .i64 0),.p .nils,.p .nils,.p (.bool false)],.one (.p (.int .i64 e))]).fi (S.lone 768064128))=some (.tup [.agg [.p (.int .i64 0),.p .nils,.p .nils,.p (.bool false)],.one (.p (.int .i64 e))],[]):=λaj=>by rw[lo];rfl
 refine bt o6 ?_;simp only[go_sem,at5,ahJ,a_ g (rO _),e1];first|done|rfl|trace_state
theorem aHQ(u:pI){F n:Nat}(L:1<=n)(j:n<=20000)(y:dA (F:Int) A=0):aJ S 12 [df F A,aC n] (if(HZ F n A).1=[]then .tup [.one (.p (ki (aS (HZ F n A).2.1))),.one (.p (.int .i64 0))]else .tup [.one (.p .nils),.one (.p (.int .i64 9))]):=by
 have f:=avI u L j y;have lo:S.lone 768064128:=ah;have g:((0:Int)!=0)=false:=U;generalize HZ F n A=x at*;refine bt o6 ?_;by_cases h:x.1=[]
 .have m:I x.1=0:=by rw[h];rfl
  have H:¬((0:Int)<((0:Nat):Int)):=U;rw[aH h];simp only[go_sem,at5,ahJ,a_ f (aA8 lo),g,m,H];first|done|rfl|trace_state
 have H:(0:Int)<(I x.1:Int):=by have:=jr.2 h;omega
 rw[aw h];simp only[go_sem,at5,ahJ,a_ f (aA8 lo),g,H];first|done|rfl|trace_state
theorem aHX(H:aJ S 7 [] (dn true)){n:Int}{A:ae}(h:(30:Int)<(I A:Int)\/20<n/\n<=20000):aJ S 4 [df f A,aC n] (dn true):=by
 refine bt c5 ?_;by_cases hl:(30:Int)<(I A:Int)
 .simp only[go_sem,i4,hl,QO,aD H];first|done|rfl
 have pl:=agB n 20;have e:(decide (n<=20)||decide (20000<n))=false:=by rw[tJ J,tJ J];rfl
 rw[e]at pl;simp only[go_sem,i4,hl,aen,aD pl,QO,aD H];first|done|rfl
theorem aHI{x y:PV}{aj:aB}{s:Nat}{l:Bool}:eF aj [] s ((RV.tup [.one (.p x),.one (.p y)]).fi l)=some (.tup [.one (.p x),.one (.p y)],[]):=by cases l<;>rfl
theorem aHR(u:pI)(m:aJ S 7 [] (dn true))(f:Int)(A:ae)(n:Int):aJ S 4 [df f A,aC n] (dn true):=by
 by_cases D:(30:Int)<(I A:Int)\/20<n/\n<=20000
 .exact aHX m D
 have hl:¬(30:Int)<(I A:Int):=λh=>D (.inl h);have pl:=agB n 20;have e:(decide (n<=20)||decide (20000<n))=true:=by
  by_cases h:n<=20
  .rw[xi h];rfl
  rw[xi (show 20000<n by omega),Bool.or_true]
 rw[e]at pl;have pr:=aAM (f:=f) (B:=A) (n:=n) J;have M:S.lone 256448128:=ah;have O:((0:Int)!=0)=false:=U;have E:((0:Int)==0):=rfl;have Z:(((0:Nat):Int)==0):=rfl;by_cases H:zm (dA f A) n=0
 .obtain⟨z,F,k,rfl,rfl,L,y⟩:=auW H;rw[H]at pr;have j:=aHQ u L y z;have N:=at1 u L y z;obtain⟨X,T⟩:=aGa u L y z;generalize HZ F k A=x at*;have R:=AD (aS x.2.1);have g:=ava x.2.1 T;have g:aJ S 13 [.one (.p (.sl (aS x.2.1))),.one (.p (.sl (aS x.2.1)))] (dn true):=g;refine bt c5 ?_;by_cases h:x.1=[]
  .have Q:I x.1=0:=by rw[h];rfl
   have B:¬((0:Int)<((0:Nat):Int)):=U;rw[aH h]at j;simp only[go_sem,i4,hl,aen,aD pl,aHE,a_ j aHI,ajU,dP pr,O,E,qH,a_ N (avq M),Q,B,R,aC3,aD g,QO,aD m];first|done|rfl|trace_state
  have B:(0:Int)<(I x.1:Int):=by have:=jr.2 h;omega
  have e9:((9:Int)==9):=rfl;rw[aw h]at j;simp only[go_sem,i4,hl,aen,aD pl,aHE,a_ j aHI,ajU,dP pr,O,e9,Z,qH,a_ N (avq M),B,QO,aD m];first|done|rfl|trace_state
 have j:=aHU (f:=f) (L:=A) (n:=n) J H;generalize zm (dA f A) n=e at*;have e1:(e !=0):=by simpa using H
 refine bt c5 ?_;simp only[go_sem,i4,hl,aen,aD pl,aHE,a_ j aHI,ajU,dP pr,e1,Z,QO,aD m];first|done|rfl|trace_state
def WE(a b n f g:Int):Int:=if a≠0 then a else if b≠0 then b else if n<1\/20000<n\/f≠g then 2 else 0
theorem aHY{n:Int}(T:I A<=1000000)(Q:I B<=1000000):aJ S 9 [aC n,.one (.p (.sl [[.int .i64 f,c8 A],[.int .i64 g,c8 B]]))] (fQ (WE (dA f A) (dA g B) n f g)):=by
 have pc:=aFk f A T;have x:=aFk g B Q;generalize dA f A=e at*;generalize dA g B=E at*;have H:(c8 A).norm=.sl (bQ A):=rfl;have u:(c8 B).norm=.sl (bQ B):=rfl;have pc:aJ S 28 [.agg [.p (.int .i64 f),.p (.sl (bQ A))]] (fQ e):=pc;have x:aJ S 28 [.agg [.p (.int .i64 g),.p (.sl (bQ B))]] (fQ E):=x;have L:(0:Int)<((2:Nat):Int):=U;have Z:(1:Int)<((2:Nat):Int):=U;have O:¬(2:Int)<((2:Nat):Int):=U;have F:(((2:Nat):Int)==2):=U;have N:IntKind.i64.wrap 1=1:=U;have R:IntKind.i64.wrap 2=2:=U;have M:((0:Int)!=0)=false:=U;unfold WE;refine bt L3 ?_;simp only[go_sem,i9];refine mx ?_;by_cases h:e=0
 .subst h;rw[aw aQ];simp only[go_sem,RN,L,H,af5,dP pc,M,N];refine mx ?_;by_cases z:E=0
  .subst z;rw[aw aQ];simp only[go_sem,RN,Z,u,af5,dP x,M,R];refine mx ?_;simp only[go_sem,RN,O,aon];by_cases m:n<1
   .rw[aH (.inl m)];simp only[go_sem,m];first|done|exact aI|exact⟨aI,rfl⟩|trace_state
   by_cases y:20000<n
   .rw[aH (.inr (.inl y))];simp only[go_sem,m,y];first|done|exact aI|exact⟨aI,rfl⟩|trace_state
   by_cases D:f=g
   .have j:(f !=g)=false:=by simp[D]
    rw[aw J];simp only[go_sem,m,y,j,F];first|done|exact aI|exact⟨aI,rfl⟩|trace_state
   have j:(f !=g):=by simpa using D
   rw[aH (.inr (.inr D))];simp only[go_sem,m,y,j,F];first|done|exact aI|exact⟨aI,rfl⟩|trace_state
  have e1:(E !=0):=by simpa using z
  rw[aH z];simp only[go_sem,RN,Z,u,af5,dP x,e1];first|done|rfl
 have e1:(e !=0):=by simpa using h
 rw[aH h];simp only[go_sem,RN,L,H,af5,dP pc,e1];first|done|rfl
theorem aHV{n:Int}(D:I A<=1000000)(z:I B<=1000000)(h:WE (dA f A) (dA g B) n f g≠0):aJ S 14 [df f A,df g B,aC n] (aHG (WE (dA f A) (dA g B) n f g)):=by
 have pc:=aju f A D;have pl:=aFa (f:=g) (B:=B) (n:=n) z;generalize dA f A=e at*;generalize dA g B=E at*;have j:((0:Int)!=0)=false:=U;unfold WE zm at*;refine bt aHH ?_;by_cases m:e=0
 .subst m;rw[aw aQ]at h |-;by_cases H:E=0
  .subst H;rw[aw aQ]at h pl |-;by_cases u:n<1\/20000<n
   .rw[aH u]at pl;have e2:((2:Int)!=0):=U;rw[aH (u.elim .inl λh=>.inr (.inl h))];simp only[go_sem,ap5,LO,aoW,dP pc,dP pl,j,e2,af,au];first|done|rfl
   rw[aw u]at pl;by_cases x:f=g
   .exact absurd (aw J) h
   have y:(f !=g):=by simpa using x
   rw[aH (.inr (.inr x))];simp only[go_sem,ap5,LO,aoW,dP pc,dP pl,j,y,af,au];first|done|rfl
  have e2:(E !=0):=by simpa using H
  rw[aH H]at pl |-;simp only[go_sem,ap5,LO,aoW,dP pc,dP pl,j,e2,af,au];first|done|rfl
 have e1:(e !=0):=by simpa using m
 rw[aH m];simp only[go_sem,ap5,LO,dP pc,e1,af,au];first|done|rfl
theorem aHM{e:Int}{aj:aB}{s:Nat}(lo:S.lone s):eF aj [] s ((aHG e).fi (S.lone s))=some (.tup [.agg [.p .nils,.p .nils],.one (.p (.int .i64 e))],[]):=by rw[lo];rfl
theorem aHZ{p q:dB}{aj:aB}{s:Nat}(lo:S.lone s):eF aj [] s ((aHJ p q).fi (S.lone s))=some (.tup [.agg [.p (ki (aS p)),.p (ki (aS q))],.one (.p (.int .i64 0))],[]):=by
 rw[lo];unfold aHJ aX ki;by_cases h:aS p=[]<;>by_cases H:aS q=[]
 .rw[aH h,aH h,aH H,aH H];rfl
 .rw[aH h,aH h,aw H,aw H];rfl
 .rw[aw h,aw h,aH H,aH H];rfl
 rw[aw h,aw h,aw H,aw H];rfl
theorem aH0(H:aJ S 7 [] (dn true)){n:Int}{A B:ae}(h:(24:Int)<(I A:Int)\/(24:Int)<(I B:Int)\/20<n/\n<=20000):aJ S 5 [df f A,df g B,aC n] (dn true):=by
 refine bt c4 ?_;by_cases hl:(24:Int)<(I A:Int)
 .simp only[go_sem,i5,hl,QO,aD H];first|done|rfl
 by_cases j:(24:Int)<(I B:Int)
 .simp only[go_sem,i5,hl,j,QO,aD H];first|done|rfl
 have pl:=agB n 20;have e:(decide (n<=20)||decide (20000<n))=false:=by rw[tJ J,tJ J];rfl
 rw[e]at pl;simp only[go_sem,i5,hl,j,aen,aD pl,QO,aD H];first|done|rfl
theorem aH1(M:pI)(T:aJ S 7 [] (dn true))(f:Int)(A:ae)(g:Int)(B:ae)(n:Int):aJ S 5 [df f A,df g B,aC n] (dn true):=by
 by_cases Y:(24:Int)<(I A:Int)\/(24:Int)<(I B:Int)\/20<n/\n<=20000
 .exact aH0 T Y
 have hl:¬(24:Int)<(I A:Int):=λh=>Y (.inl h);have hm:¬(24:Int)<(I B:Int):=λh=>Y (.inr (.inl h));have pl:=agB n 20;have e:(decide (n<=20)||decide (20000<n))=true:=by
  by_cases h:n<=20
  .rw[xi h];rfl
  rw[xi (show 20000<n by omega),Bool.or_true]
 rw[e]at pl;have pr:=aHY (f:=f) (g:=g) (A:=A) (B:=B) (n:=n) J J;have iI:S.lone 320192192:=ah;have mU:S.lone 320384128:=ah;have Qv:S.lone 320384320:=ah;have vp:((0:Int)!=0)=false:=U;have N:((0:Int)==0):=rfl;have e9:((9:Int)==9):=rfl;have ac:((9:Int)==0)=false:=rfl;have z0:(((0:Nat):Int)==0):=rfl;by_cases H:WE (dA f A) (dA g B) n f g=0
 .have hh:dA f A=0/\dA g B=0/\ ¬(n<1\/20000<n\/f≠g):=by
   unfold WE at H;by_cases X:dA f A=0
   .rw[aw (by simpa using X)]at H;by_cases R:dA g B=0
    .rw[aw (by simpa using R)]at H;by_cases h3:n<1\/20000<n\/f≠g
     .rw[aH h3]at H;cases H
     exact⟨X,R,h3⟩
    rw[aH R]at H;exact absurd H R
   rw[aH X]at H;exact absurd H X
  obtain⟨j,z,h3⟩:=hh;have ab:f=g:=J;subst ab;have Z:zm (dA f A) n=0:=by unfold zm;rw[aw (by simpa using j),aw J]
  obtain⟨_,F,k,rfl,rfl,O,Q⟩:=auW Z;rw[H]at pr;have E:=aHT M O Q j z;have pa:=at1 M O Q j;have pb:=at1 M O Q z;obtain⟨z1,z2⟩:=aGa M O Q j;obtain⟨y1,y2⟩:=aGa M O Q z;generalize HZ F k A=x at*;generalize HZ F k B=y at*;have hn:=AD (aS x.2.1);have mD:=AD (aS y.2.1);have ke:(c8 x.1).norm=.sl (bQ x.1):=rfl;have m:(c8 y.1).norm=.sl (bQ y.1):=rfl;have D:=ava x.2.1 z2;have D:aJ S 13 [.one (.p (.sl (aS x.2.1))),.one (.p (.sl (aS x.2.1)))] (dn true):=D;have u:=ava y.2.1 y2
  have u:aJ S 13 [.one (.p (.sl (aS y.2.1))),.one (.p (.sl (aS y.2.1)))] (dn true):=u;have L:=afX (F:Int) x.1 y.1 J J;have L:aJ S 15 [.agg [.p (.int .i64 F),.p (.sl (bQ x.1))],.agg [.p (.int .i64 F),.p (.sl (bQ y.1))]] (dn (decide (x.1=y.1))):=L;refine bt c4 ?_;by_cases h:x.1=y.1
  .rw[aH h]at E;rw[xi h]at L;simp only[go_sem,i5,hl,hm,aen,aD pl,aHB,a_ E (aHZ iI),ajU,dP pr,vp,N,qH,ow pa (avq mU),ow pb (avq Qv),hn,mD,ke,m,acK,aD L,aC3,aD D,aD u,QO,aD T];first|done|exact aI|exact⟨aI,rfl⟩|rfl|trace_state
  rw[aw h]at E;rw[tJ h]at L;simp only[go_sem,i5,hl,hm,aen,aD pl,aHB,a_ E (aHM iI),ajU,dP pr,vp,N,e9,z0,qH,ow pa (avq mU),ow pb (avq Qv),hn,mD,ke,m,acK,aD L,QO,aD T];first|done|exact aI|exact⟨aI,rfl⟩|rfl|trace_state
 have E:=aHV (f:=f) (g:=g) (A:=A) (B:=B) (n:=n) J J H;generalize WE (dA f A) (dA g B) n f g=e at*;have e1:(e==0)=false:=by simpa using H
 refine bt c4 ?_;simp only[go_sem,i5,hl,hm,aen,aD pl,aHB,a_ E (aHM iI),ajU,dP pr,e1,z0,QO,aD T];first|done|rfl|trace_state
end Go.Abs
namespace Go.Proofs.YtnhlfpanllllgaaGreatDoor.fnEaseJoins
open Go.Abs Go.ChangeShapes Go.WideShapes Go.ChangeAt Go.RowKit
theorem aoi {P : Program}{N n : Nat}{t : TypeId}{fs : Array Field}{p : b_} (H : P.underlying t = some (.struct fs)) (h : mq P N (n + 1) t p) :
    ∃g : s_, p = g.flatten ∧ I g = I fs.toList ∧ ∀(i : Nat) (f : Field) (x : b_), fs.toList[i]?= some f → g[i]?= some x → mq P N n f.type x := by
  simp only [mq, H]at h;exact h
theorem aFi {E : s_} (h :∀x ∈ E, ∃l : aa, x = l.ps) :∃L : ae, E = L.map aa.ps := by
  induction E with
  | nil => exact⟨[], rfl⟩
  | cons e E f =>obtain⟨l, rfl⟩ := h e (by simp);obtain⟨L, rfl⟩ := f λx H => h x (by simp [H]);exact⟨l :: L, rfl⟩
theorem aHg {N n : Nat}{p : b_} (h : mq S.P N (n + 1 + 1) 49 p) :∃l : aa, p = l.ps := by
  obtain⟨f, rfl, hl, hp⟩ := aoi Tryz.underlying49 h;rcases f with _ | ⟨A, _ | ⟨x, _ | ⟨y, _ | ⟨j, _ | ⟨u, _ | ⟨m, _ | ⟨z, r⟩⟩⟩⟩⟩⟩⟩ <;> first
    | (simp at hl; done)
    | skip
  obtain⟨k, rfl, _⟩ := Is Tryz.underlying47 (hp 0 _ _ rfl rfl);obtain⟨g, rfl, _⟩ := Is Tryz.underlying3 (hp 1 _ _ rfl rfl);obtain⟨r, rfl, _⟩ := Is Tryz.underlying3 (hp 2 _ _ rfl rfl);obtain⟨i, rfl, _⟩ := Is Tryz.underlying3 (hp 3 _ _ rfl rfl);obtain⟨s, rfl, _⟩ := Is Tryz.underlying3 (hp 4 _ _ rfl rfl);obtain⟨o, rfl⟩ := avn Tryz.underlying4 (hp 5 _ _ rfl rfl);exact⟨⟨k, g, r, i, s, o⟩, rfl⟩
theorem asE {N n : Nat}{p : b_} (h : mq S.P N (n + 1 + 1 + 1 + 1) 24 p) :∃(k : Int) (L : ae), p = [.int .i64 k,.sl (L.map aa.ps)] := by
  obtain⟨f, rfl, hl, hp⟩ := aoi Tryz.underlying24 h;rcases f with _ | ⟨u, _ | ⟨j, _ | ⟨m, r⟩⟩⟩ <;> first
    | (simp at hl; done)
    | skip
  obtain⟨k, rfl, _⟩ := Is Tryz.underlying3 (hp 0 _ _ rfl rfl);obtain⟨E, rfl, _, g⟩ := aBz Tryz.underlying22 (hp 1 _ _ rfl rfl);obtain⟨L, rfl⟩ := aFi λx H => aHg (g x H);exact⟨k, L, rfl⟩
theorem asz (g : s_) (h : Va S.P maxLen 4 Tryz.f5.params.toList g) : aJ S 5 (CR S.P Tryz.f5.params.toList g) (.one (.p (.bool true))) := by
  have hp : Tryz.f5.params.toList = [24, 24, 3] := by rw [Tryz.params5]
  rw [hp]at h |-;rcases g with _ | ⟨A, _ | ⟨u, _ | ⟨y, _ | ⟨B, z⟩⟩⟩⟩
  · exact h.elim
  · exact h.2.elim
  · exact h.2.2.elim
  · obtain⟨F, L, rfl⟩ := asE (n := 0) h.1
    obtain⟨m, j, rfl⟩ := asE (n := 0) h.2.1;obtain⟨X, rfl, _⟩ := Is (n := 3) Tryz.underlying3 h.2.2.1;have E :∀(f : Int) (a : ae), Dg S.P 24 [.int .i64 f,.sl (a.map aa.ps)] = df f a := λf a => aF8 (P := S.P) Tryz.underlying24;have e1 :∀x : Int, Dg S.P 3 [.int .i64 x] = aC x := λx => ayA (P := S.P) Tryz.underlying3 (λfs h => by cases h);simp only [CR, E, e1];exact aH1 axU auJ F L m j X
  · exact h.2.2.2.elim
theorem aBq : Tryz.prog.globalNamed Vy = some 0 := by kernel_rfl
theorem aEK : (Tryz.prog.globals[0]?).map (·.type) = some 253 := by kernel_rfl
theorem aCH : Tryz.prog.cellsOf 253 = 20 := by kernel_rfl
theorem aBv : Tryz.prog.cellsOf 237 = 1 := by kernel_rfl
theorem table {bP : World} (h : laidMetH Tryz.prog Rows.easeJoinsRow.laid bP) : G bP := by
  have f : laidMet Tryz.prog Rows.easeJoinsRow.laid bP := h;have H := f.tail.tail;have e : (Rows.laid_internal_strconv_uint64pow10 : DataW Unit) = Lib.tabData .u64 Lib.pow10Tab := by kernel_rfl
  rw [e]at H;exact Lib.tabIs_of_head (rest := []) aBq aEK Tryz.underlying253 Tryz.underlying237 aBv aCH H
end Go.Proofs.YtnhlfpanllllgaaGreatDoor.fnEaseJoins
namespace Go.Proofs.YtnhlfpanllllgaaGreatDoor.fnEaseJoins
open Go.Abs Go.ChangeShapes Go.WideShapes Go.ChangeAt Go.RowKit
theorem own : ownKnob Tryz.prog.godebug = none := by kernel_rfl
theorem asW (H : Type) (E : TypeId×Value → H) (bP : World) (base : Nat) (A : Array Value) (D L : List (DataW H)) (B : List MemPlace)
    (f :∀(j : Nat) t v, Tryz.f5.params[j]?= some t → A[j]?= some v → Value.okWide Tryz.prog bP .any base t v)
    (x : DataW.Whole E Tryz.prog Tryz.f5.params.toList Rows.easeJoinsSpec.vars false bP A.toList D L B) (M : laidMetH Tryz.prog Rows.easeJoinsRow.laid bP) :
    Calls Tryz.prog 5 A bP λe O =>∃v, e =.returned v ∧ Rows.easeJoinsSpec.post E Tryz.prog Tryz.f5 false true false false bP A v O := by
  have u :∀t ∈ Tryz.f5.params.toList, lZ S.P 4 t = true := by
    rw [Tryz.params5];intro t z;have e : t = 24 ∨ t = 3 := by simpa using z
    have F : lZ S.P 4 24 = true := by kernel_rfl
    have y : lZ S.P 4 3 = true := by kernel_rfl
    rcases e with e | e
    · exact e ▸ F
    · exact e ▸ y
  have g :∀d ∈ D, uZ maxLen d := by obtain⟨p, q, N, _⟩ := x;exact(aop u N).1
  exact awk S_ok (λw h => asA h) (fn := Tryz.f5) (s := Rows.easeJoinsSpec) rfl
    (λH D m => by
      rw [Tryz.params5]at m
      match D, m with
      | [T, R, Q], _ => rfl) (tb := 4) (by kernel_rfl) Tryz.underlying4 u asz f x (table M) g

noncomputable def axw (d : DataW Unit) : Array Value :=
  match d with
  | .agg l => (l.map fun
    | .lit (.int k z) => Value.int k z
    | _ => undef).toArray
  | _ => #[]
noncomputable def ad3 (d : DataW Unit) : Obj → Obj
  | .cells _ t frozen =>.cells (axw d) t frozen
  | o => o
noncomputable def ad5 (os : Os) : World :={ World.holding Tryz.prog os ⟨#[], #[], []⟩with heap := (((World.holding Tryz.prog os ⟨#[], #[], []⟩).heap.modify 1 (ad3 Rows.laid_math_bits_deBruijn32tab)).modify 2 (ad3 Rows.laid_math_bits_deBruijn64tab)).modify 0 (ad3 Rows.laid_internal_strconv_uint64pow10) }
theorem azd (os : Os) : laidMet Tryz.prog Rows.easeJoinsRow.laid ((ad5 os).forCall (λ_ _ => 0) ⟨#[], #[Value.agg #[.int .i64 0,.slice none 0 0],.agg #[.int .i64 0,.slice none 0 0],.int .i64 0], []⟩).memory :=laidMet_of_run' 8 (by kernel_rfl) (by kernel_rfl)
theorem as1 (os : Os) {H : Type} (E : TypeId×Value → H) :∃places, DataW.whole E Tryz.prog ((ad5 os).forCall (λ_ _ => 0) ⟨#[], #[Value.agg #[.int .i64 0,.slice none 0 0],.agg #[.int .i64 0,.slice none 0 0],.int .i64 0], []⟩).memory Tryz.f5.params.toList Rows.easeJoinsSpec.vars false #[Value.agg #[.int .i64 0,.slice none 0 0],.agg #[.int .i64 0,.slice none 0 0],.int .i64 0].toList 8 = some ([.agg [.lit (.int .i64 0),.nil],.agg [.lit (.int .i64 0),.nil],.lit (.int .i64 0)], [], places) :=
  ⟨[], by kernel_rfl⟩

theorem aBM (os : Os) (f : os.Started) (H : Type) (E : TypeId×Value → H) (F : Stop.Interp) :
    ReturnsInHanded {} Tryz.checked os 5 .any ((OpenSpec.ofChange Rows.easeJoinsSpec).preRow E Tryz.prog Tryz.f5 Rows.easeJoinsRow.domain false Rows.easeJoinsRow.laid) (((OpenSpec.ofChange Rows.easeJoinsSpec).at F).post E Tryz.prog Tryz.f5 false true false false) := by
  obtain⟨places, g⟩ := as1 os E;refine returnsInHanded_of_row (C := Tryz.checked) (s := (OpenSpec.ofChange Rows.easeJoinsSpec)) own f (by kernel_rfl) Tryz.func5
    (witness_row_at (enc := E) (C := Tryz.checked) false (ad5 os) #[Value.agg #[.int .i64 0,.slice none 0 0],.agg #[.int .i64 0,.slice none 0 0],.int .i64 0] rfl (by kernel_rfl) (by kernel_rfl) (by kernel_rfl)
      (OpenSpec.preRow_of_cond 8 g (by kernel_rfl) (λk m => by cases m) (by kernel_rfl) (azd os))) ?_
  intro bP base A D u B h j _ _ _ x _ _;exact asW H E bP base A D u B h j x
end Go.Proofs.YtnhlfpanllllgaaGreatDoor.fnEaseJoins
namespace Go.Proofs.YtnhlfpanllllgaaGreatDoor.fnEaseJoins
open Go.Abs Go.ChangeShapes Go.WideShapes Go.ChangeAt Go.RowKit
theorem avw : Rows.EaseJoinsSaid :=
  OpenClaim.holds_of_cond 5 Tryz.f5 rfl rfl rfl rfl rfl rfl rfl ⟨rfl, rfl, rfl, rfl, rfl⟩ rfl rfl rfl rfl rfl (by kernel_rfl) Tryz.func5 closed
    (of_decide_eq_true (by kernel_rfl)) (by unfold Func.isWrapper; first | (rw [if_pos (by decide +kernel)]; kernel_rfl) | (rw [if_neg (by decide +kernel)]; exact⟨rfl, rfl⟩))
    (λos f H E _ F => by rw [OpenClaim.pre_eq_preRow]; exact aBM os f H E F)

theorem axz (f : FuncId) (fn : Func) (H : Tryz.pinned.checked.prog.funcNamed Rows.easeJoinsRow.func = some f) (hfn : Tryz.pinned.checked.prog.funcs[f]?= some fn) :
    false = Tryz.pinned.checked.prog.looks [] ∧ ∀(j : Nat) t, fn.params[j]?= some t → Tryz.pinned.checked.prog.wantsStandIn t = false := by
  obtain rfl : f = 5 := Option.some.inj ((show Tryz.prog.funcNamed Rows.easeJoinsRow.func = some 5 by kernel_rfl).symm.trans H) |>.symm
  obtain rfl : fn = Tryz.f5 := (Option.some.inj (Tryz.func5.symm.trans hfn)).symm;refine⟨by kernel_rfl, ?_⟩
  · intro j t h
    rw [Tryz.params5]at h;have e : t = 24 ∨ t = 3 := by simpa using Array.mem_of_getElem? h
    have m : Tryz.prog.wantsStandIn 24 = false := by kernel_rfl
    have g : Tryz.prog.wantsStandIn 3 = false := by kernel_rfl
    rcases e with e | e
    · exact e ▸ m
    · exact e ▸ g

theorem awa : Rows.easeJoinsRow.wfByText (OpenSpec.ofChange Rows.easeJoinsSpec) = true := by kernel_rfl
theorem aBZ : Tryz.pinned.checked.prog.mainIs = some ((true, "4caa7f58e2695a961d02a94f41e582f1410aa0d768b15e9f4d2c2c034945834d").1, (true, "4caa7f58e2695a961d02a94f41e582f1410aa0d768b15e9f4d2c2c034945834d").2.toList) := by kernel_rfl
theorem card : Rows.EaseJoinsCardSaid :=Claim7.holds_tied_plain_at .later [] _ _ _ _ avw (λ_ h => by cases h) awa (λ_ h => by cases h) easeJoins_row_tie rfl ⟨rfl, rfl⟩ aBZ rfl axz goes
end Go.Proofs.YtnhlfpanllllgaaGreatDoor.fnEaseJoins
