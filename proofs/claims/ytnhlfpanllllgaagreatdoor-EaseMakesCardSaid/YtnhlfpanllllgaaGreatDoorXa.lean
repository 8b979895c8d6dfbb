/-
  EaseMakes: for every code and every limit the call returns true and the arguments read as they did. It holds for every input that the row speaks of; the tables that the row lists hold what the text lays.
-/
import Derived.Test.YtnhlfpanllllgaaGreatDoorOb
import Derived.Test.YtnhlfpanllllgaaGreatDoorTie
import Derived.Deep.DeepHandedRow
import Derived.Deep.DeepLaidRun
import Derived.Stop.LaidErr
import Derived.Test.YtnhlfpanllllgaaGreatDoorSb
import Derived.Test.YtnhlfpanllllgaaGreatDoorTa
import Derived.Test.YtnhlfpanllllgaaGreatDoorFa
import Derived.Test.YtnhlfpanllllgaaGreatDoorGa
set_option linter.all false
open List renaming length->I
set_option maxRecDepth 100000
set_option maxHeartbeats 16000000
namespace Go.Abs
theorem at5(H:aJ S 7 [] (dn true)){f n:Int}{A:ae}(h:(30:Int)<(I A:Int)\/30<n/\n<=20000):aJ S 3 [df f A,aC n] (dn true):=by
 refine bt cH ?_;by_cases hl:(30:Int)<(I A:Int)
 .simp only[go_sem,i3,hl,QO,aD H];first|done|rfl
 have pl:=agB n 30;have e:(decide (n<=30)||decide (20000<n))=false:=by rw[tJ J,tJ J];rfl
 rw[e]at pl;simp only[go_sem,i3,hl,aen,aD pl,QO,aD H];first|done|rfl
theorem aB2(j:pI)(m:aJ S 7 [] (dn true))(f:Int)(A:ae)(n:Int):aJ S 3 [df f A,aC n] (dn true):=by
 by_cases z:(30:Int)<(I A:Int)\/30<n/\n<=20000
 .exact at5 m z
 have hl:¬(30:Int)<(I A:Int):=λh=>z (.inl h);have pl:=agB n 30;have e:(decide (n<=30)||decide (20000<n))=true:=by
  by_cases h:n<=30
  .rw[xi h];rfl
  rw[xi (show 20000<n by omega),Bool.or_true]
 rw[e]at pl;have pr:=aAM (f:=f) (B:=A) (n:=n) J;have B:S.lone 192192128:=ah;have M:S.lone 192448384:=ah;have Q:((0:Int)!=0)=false:=U;have E:((0:Int)==0):=rfl;by_cases H:zm (dA f A) n=0
 .obtain⟨u,F,k,rfl,rfl,L,y⟩:=auW H;rw[H]at pr;have g:=avI j L y u;have N:=at1 j L y u;obtain⟨R,Z⟩:=aGa j L y u;generalize HZ F k A=x at*;have O:=AD (aS x.2.1);have D:(c8 x.1).norm=.sl (bQ x.1):=rfl;have ps:=ap7 (F:Int) x J Z;unfold WE at ps;refine bt cH ?_;simp only[go_sem,i3,hl,aen,aD pl,ahJ,a_ g (aA8 B),ajU,dP pr,Q,E,qH,ow N (avq M),O,D,ahg,dC ps,QO,dC m];first|done|exact aI|exact⟨aI,rfl⟩|rfl|trace_state
 have g:=aB7 (f:=f) (B:=A) (n:=n) J H;have ps:=ap7 0 ([],[],false) U U;have ps:aJ S 10 [.agg [.p (.int .i64 0),.p (.sl []),.p (.sl []),.p (.bool false)],.agg [.p (.int .i64 0),.p (.sl []),.p (.sl []),.p (.bool false)]] (dn true):=ps;generalize zm (dA f A) n=e at*;have e1:(e !=0):=by simpa using H
 have rO:∀(aj:aB),eF aj [] 192192128 ((RV.tup [.agg [.p (.int .i64 0),.p .nils,.p .nils,.p (.bool false)],.one (.p (.int .i64 e))]).fi (S.lone 192192128))=some (.tup [.agg [.p (.int .i64 0),.p .nils,.p .nils,.p (.bool false)],.one (.p (.int .i64 e))],[]):=λaj=>by rw[B];rfl
 refine bt cH ?_;simp only[go_sem,i3,hl,aen,aD pl,ahJ,a_ g (rO _),ajU,dP pr,e1,ahg,aD ps,QO,aD m];first|done|rfl|trace_state


end Go.Abs
namespace Go.Proofs.YtnhlfpanllllgaaGreatDoor.fnEaseMakes
open Go.Abs Go.ChangeShapes Go.WideShapes Go.ChangeAt Go.RowKit
theorem aoi {P : Program}{N n : Nat}{t : TypeId}{fs : Array Field}{p : b_} (H : P.underlying t = some (.struct fs)) (h : mq P N (n + 1) t p) :
    ∃g : s_, p = g.flatten ∧ I g = I fs.toList ∧ ∀(i : Nat) (f : Field) (x : b_), fs.toList[i]?= some f → g[i]?= some x → mq P N n f.type x := by
  simp only [mq, H]at h;exact h
theorem aFi {E : s_} (h :∀x ∈ E, ∃l : aa, x = l.ps) :∃L : ae, E = L.map aa.ps := by
  induction E with
  | nil => exact⟨[], rfl⟩
  | cons e E f =>obtain⟨l, rfl⟩ := h e (by simp);obtain⟨L, rfl⟩ := f λx H => h x (by simp [H]);exact⟨l :: L, rfl⟩
theorem aHg {N n : Nat}{p : b_} (h : mq S.P N (n + 1 + 1) 49 p) :∃l : aa, p = l.ps := by
  obtain⟨f, rfl, hl, hp⟩ := aoi Tryz.underlying49 h;rcases f with _ | ⟨A, _ | ⟨x, _ | ⟨y, _ | ⟨j, _ | ⟨u, _ | ⟨m, _ | ⟨z, r⟩⟩⟩⟩⟩⟩⟩ <;> first
    | (simp at hl; done)
    | skip
  obtain⟨k, rfl, _⟩ := Is Tryz.underlying47 (hp 0 _ _ rfl rfl);obtain⟨g, rfl, _⟩ := Is Tryz.underlying3 (hp 1 _ _ rfl rfl);obtain⟨r, rfl, _⟩ := Is Tryz.underlying3 (hp 2 _ _ rfl rfl);obtain⟨i, rfl, _⟩ := Is Tryz.underlying3 (hp 3 _ _ rfl rfl);obtain⟨s, rfl, _⟩ := Is Tryz.underlying3 (hp 4 _ _ rfl rfl);obtain⟨o, rfl⟩ := avn Tryz.underlying4 (hp 5 _ _ rfl rfl);exact⟨⟨k, g, r, i, s, o⟩, rfl⟩
theorem asE {N n : Nat}{p : b_} (h : mq S.P N (n + 1 + 1 + 1 + 1) 24 p) :∃(k : Int) (L : ae), p = [.int .i64 k,.sl (L.map aa.ps)] := by
  obtain⟨f, rfl, hl, hp⟩ := aoi Tryz.underlying24 h;rcases f with _ | ⟨u, _ | ⟨j, _ | ⟨m, r⟩⟩⟩ <;> first
    | (simp at hl; done)
    | skip
  obtain⟨k, rfl, _⟩ := Is Tryz.underlying3 (hp 0 _ _ rfl rfl);obtain⟨E, rfl, _, g⟩ := aBz Tryz.underlying22 (hp 1 _ _ rfl rfl);obtain⟨L, rfl⟩ := aFi λx H => aHg (g x H);exact⟨k, L, rfl⟩
theorem asz (g : s_) (h : Va S.P maxLen 4 Tryz.f3.params.toList g) : aJ S 3 (CR S.P Tryz.f3.params.toList g) (.one (.p (.bool true))) := by
  have hp : Tryz.f3.params.toList = [24, 3] := by rw [Tryz.params3]
  rw [hp]at h |-;rcases g with _ | ⟨A, _ | ⟨j, _ | ⟨m, z⟩⟩⟩
  · exact h.elim
  · exact h.2.elim
  · obtain⟨F, L, rfl⟩ := asE (n := 0) h.1
    obtain⟨X, rfl, _⟩ := Is (n := 3) Tryz.underlying3 h.2.1;have E :∀(f : Int) (a : ae), Dg S.P 24 [.int .i64 f,.sl (a.map aa.ps)] = df f a := λf a => aF8 (P := S.P) Tryz.underlying24;have e1 :∀x : Int, Dg S.P 3 [.int .i64 x] = aC x := λx => ayA (P := S.P) Tryz.underlying3 (λfs h => by cases h);simp only [CR, E, e1];exact aB2 axU auJ F L X
  · exact h.2.2.elim
theorem aBq : Tryz.prog.globalNamed Vy = some 0 := by kernel_rfl
theorem aEK : (Tryz.prog.globals[0]?).map (·.type) = some 253 := by kernel_rfl
theorem aCH : Tryz.prog.cellsOf 253 = 20 := by kernel_rfl
theorem aBv : Tryz.prog.cellsOf 237 = 1 := by kernel_rfl
theorem table {bP : World} (h : laidMetH Tryz.prog Rows.easeMakesRow.laid bP) : G bP := by
  have f : laidMet Tryz.prog Rows.easeMakesRow.laid bP := h;have H := f.tail.tail;have e : (Rows.laid_internal_strconv_uint64pow10 : DataW Unit) = Lib.tabData .u64 Lib.pow10Tab := by kernel_rfl
  rw [e]at H;exact Lib.tabIs_of_head (rest := []) aBq aEK Tryz.underlying253 Tryz.underlying237 aBv aCH H
end Go.Proofs.YtnhlfpanllllgaaGreatDoor.fnEaseMakes
namespace Go.Proofs.YtnhlfpanllllgaaGreatDoor.fnEaseMakes
open Go.Abs Go.ChangeShapes Go.WideShapes Go.ChangeAt Go.RowKit
theorem own : ownKnob Tryz.prog.godebug = none := by kernel_rfl
theorem asW (H : Type) (E : TypeId×Value → H) (bP : World) (base : Nat) (A : Array Value) (D M : List (DataW H)) (B : List MemPlace)
    (g :∀(j : Nat) t v, Tryz.f3.params[j]?= some t → A[j]?= some v → Value.okWide Tryz.prog bP .any base t v)
    (x : DataW.Whole E Tryz.prog Tryz.f3.params.toList Rows.easeMakesSpec.vars false bP A.toList D M B) (L : laidMetH Tryz.prog Rows.easeMakesRow.laid bP) :
    Calls Tryz.prog 3 A bP λe N =>∃v, e =.returned v ∧ Rows.easeMakesSpec.post E Tryz.prog Tryz.f3 false true false false bP A v N := by
  have u :∀t ∈ Tryz.f3.params.toList, lZ S.P 4 t = true := by
    rw [Tryz.params3];intro t z;have e : t = 24 ∨ t = 3 := by simpa using z
    have F : lZ S.P 4 24 = true := by kernel_rfl
    have y : lZ S.P 4 3 = true := by kernel_rfl
    rcases e with e | e
    · exact e ▸ F
    · exact e ▸ y
  have f :∀d ∈ D, uZ maxLen d := by obtain⟨p, q, O, _⟩ := x;exact(aop u O).1
  exact awk S_ok (λw h => asA h) (fn := Tryz.f3) (s := Rows.easeMakesSpec) rfl
    (λH D m => by
      rw [Tryz.params3]at m
      match D, m with
      | [Q, R], _ => rfl) (tb := 4) (by kernel_rfl) Tryz.underlying4 u asz g x (table L) f

noncomputable def axw (d : DataW Unit) : Array Value :=
  match d with
  | .agg l => (l.map fun
    | .lit (.int k z) => Value.int k z
    | _ => undef).toArray
  | _ => #[]
noncomputable def ad3 (d : DataW Unit) : Obj → Obj
  | .cells _ t frozen =>.cells (axw d) t frozen
  | o => o
noncomputable def ad5 (os : Os) : World :={ World.holding Tryz.prog os ⟨#[], #[], []⟩with heap := (((World.holding Tryz.prog os ⟨#[], #[], []⟩).heap.modify 1 (ad3 Rows.laid_math_bits_deBruijn32tab)).modify 2 (ad3 Rows.laid_math_bits_deBruijn64tab)).modify 0 (ad3 Rows.laid_internal_strconv_uint64pow10) }
theorem azd (os : Os) : laidMet Tryz.prog Rows.easeMakesRow.laid ((ad5 os).forCall (λ_ _ => 0) ⟨#[], #[Value.agg #[.int .i64 0,.slice none 0 0],.int .i64 0], []⟩).memory :=laidMet_of_run' 8 (by kernel_rfl) (by kernel_rfl)
theorem as1 (os : Os) {H : Type} (E : TypeId×Value → H) :∃places, DataW.whole E Tryz.prog ((ad5 os).forCall (λ_ _ => 0) ⟨#[], #[Value.agg #[.int .i64 0,.slice none 0 0],.int .i64 0], []⟩).memory Tryz.f3.params.toList Rows.easeMakesSpec.vars false #[Value.agg #[.int .i64 0,.slice none 0 0],.int .i64 0].toList 8 = some ([.agg [.lit (.int .i64 0),.nil],.lit (.int .i64 0)], [], places) :=
  ⟨[], by kernel_rfl⟩

theorem aBM (os : Os) (f : os.Started) (H : Type) (E : TypeId×Value → H) (F : Stop.Interp) :
    ReturnsInHanded {} Tryz.checked os 3 .any ((OpenSpec.ofChange Rows.easeMakesSpec).preRow E Tryz.prog Tryz.f3 Rows.easeMakesRow.domain false Rows.easeMakesRow.laid) (((OpenSpec.ofChange Rows.easeMakesSpec).at F).post E Tryz.prog Tryz.f3 false true false false) := by
  obtain⟨places, g⟩ := as1 os E;refine returnsInHanded_of_row (C := Tryz.checked) (s := (OpenSpec.ofChange Rows.easeMakesSpec)) own f (by kernel_rfl) Tryz.func3
    (witness_row_at (enc := E) (C := Tryz.checked) false (ad5 os) #[Value.agg #[.int .i64 0,.slice none 0 0],.int .i64 0] rfl (by kernel_rfl) (by kernel_rfl) (by kernel_rfl)
      (OpenSpec.preRow_of_cond 8 g (by kernel_rfl) (λk m => by cases m) (by kernel_rfl) (azd os))) ?_
  intro bP base A D u B h j _ _ _ x _ _;exact asW H E bP base A D u B h j x
end Go.Proofs.YtnhlfpanllllgaaGreatDoor.fnEaseMakes
namespace Go.Proofs.YtnhlfpanllllgaaGreatDoor.fnEaseMakes
open Go.Abs Go.ChangeShapes Go.WideShapes Go.ChangeAt Go.RowKit
theorem avw : Rows.EaseMakesSaid :=
  OpenClaim.holds_of_cond 3 Tryz.f3 rfl rfl rfl rfl rfl rfl rfl ⟨rfl, rfl, rfl, rfl, rfl⟩ rfl rfl rfl rfl rfl (by kernel_rfl) Tryz.func3 closed
    (of_decide_eq_true (by kernel_rfl)) (by unfold Func.isWrapper; first | (rw [if_pos (by decide +kernel)]; kernel_rfl) | (rw [if_neg (by decide +kernel)]; exact⟨rfl, rfl⟩))
    (λos f H E _ F => by rw [OpenClaim.pre_eq_preRow]; exact aBM os f H E F)

theorem axz (f : FuncId) (fn : Func) (H : Tryz.pinned.checked.prog.funcNamed Rows.easeMakesRow.func = some f) (hfn : Tryz.pinned.checked.prog.funcs[f]?= some fn) :
    false = Tryz.pinned.checked.prog.looks [] ∧ ∀(j : Nat) t, fn.params[j]?= some t → Tryz.pinned.checked.prog.wantsStandIn t = false := by
  obtain rfl : f = 3 := Option.some.inj ((show Tryz.prog.funcNamed Rows.easeMakesRow.func = some 3 by kernel_rfl).symm.trans H) |>.symm
  obtain rfl : fn = Tryz.f3 := (Option.some.inj (Tryz.func3.symm.trans hfn)).symm;refine⟨by kernel_rfl, ?_⟩
  · intro j t h
    rw [Tryz.params3]at h;have e : t = 24 ∨ t = 3 := by simpa using Array.mem_of_getElem? h
    have m : Tryz.prog.wantsStandIn 24 = false := by kernel_rfl
    have g : Tryz.prog.wantsStandIn 3 = false := by kernel_rfl
    rcases e with e | e
    · exact e ▸ m
    · exact e ▸ g

theorem awa : Rows.easeMakesRow.wfByText (OpenSpec.ofChange Rows.easeMakesSpec) = true := by kernel_rfl
theorem aBZ : Tryz.pinned.checked.prog.mainIs = some ((true, "4caa7f58e2695a961d02a94f41e582f1410aa0d768b15e9f4d2c2c034945834d").1, (true, "4caa7f58e2695a961d02a94f41e582f1410aa0d768b15e9f4d2c2c034945834d").2.toList) := by kernel_rfl
theorem card : Rows.EaseMakesCardSaid :=Claim7.holds_tied_plain_at .later [] _ _ _ _ avw (λ_ h => by cases h) awa (λ_ h => by cases h) easeMakes_row_tie rfl ⟨rfl, rfl⟩ aBZ rfl axz goes
end Go.Proofs.YtnhlfpanllllgaaGreatDoor.fnEaseMakes
