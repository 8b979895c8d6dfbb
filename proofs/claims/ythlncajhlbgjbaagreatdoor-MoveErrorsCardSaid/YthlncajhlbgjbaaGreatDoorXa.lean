/-
  MoveErrors: whatever the code and the move, the call returns true and the arguments read as they did. It holds for every input that the row speaks of; the tables that the row lists hold what the text lays.
-/
import Derived.Test.YthlncajhlbgjbaaGreatDoorCards
import Derived.Test.YthlncajhlbgjbaaGreatDoorTie
import Derived.Deep.DeepHandedRow
import Derived.Deep.DeepLaidRun
import Derived.Lib.LaidTab
import Derived.Stop.LaidErr
import Derived.Test.YthlncajhlbgjbaaGreatDoorMd
import Derived.Test.YthlncajhlbgjbaaGreatDoorSb
import Derived.Test.YthlncajhlbgjbaaGreatDoorWh
import Derived.Test.YthlncajhlbgjbaaGreatDoorTa
import Derived.Test.YthlncajhlbgjbaaGreatDoorFa
import Derived.Test.YthlncajhlbgjbaaGreatDoorGa
set_option linter.unusedSimpArgs false
set_option linter.unusedVariables false
set_option linter.unusedSectionVars false
namespace Go.Proofs.YthlncajhlbgjbaaGreatDoor.fnMoveErrors
open Go.Abs Go.ChangeShapes Go.WideShapes Go.ChangeAt Go.RowKit
set_option maxRecDepth 100000
theorem hasT_struct {P : Program} {N n : Nat} {t : TypeId} {fs : Array Field} {p : List PV} (hu : P.underlying t = some (.struct fs)) (h : HasT P N (n + 1) t p) :
    ∃ parts : List (List PV), p = parts.flatten ∧ parts.length = fs.toList.length ∧ ∀ (i : Nat) (f : Field) (x : List PV), fs.toList[i]? = some f → parts[i]? = some x → HasT P N n f.type x := by
  simp only [HasT, hu] at h
  exact h
theorem lets_of {es : List (List PV)} (h : ∀ x ∈ es, ∃ l : Let, x = l.ps) : ∃ ls : List Let, es = ls.map Let.ps := by
  induction es with
  | nil => exact ⟨[], rfl⟩
  | cons e es ih =>
    obtain ⟨l, rfl⟩ := h e (by simp)
    obtain ⟨ls, rfl⟩ := ih fun x hx => h x (by simp [hx])
    exact ⟨l :: ls, rfl⟩
theorem let_of {N n : Nat} {p : List PV} (h : HasT S.P N (n + 1 + 1) 47 p) : ∃ l : Let, p = l.ps := by
  obtain ⟨parts, rfl, hl, hp⟩ := hasT_struct Tryz.underlying47 h
  rcases parts with _ | ⟨p0, _ | ⟨p1, _ | ⟨p2, _ | ⟨p3, _ | ⟨p4, _ | ⟨p5, _ | ⟨p6, r⟩⟩⟩⟩⟩⟩⟩ <;> first
    | (simp at hl; done)
    | skip
  obtain ⟨k, rfl, _⟩ := hasT_int Tryz.underlying45 (hp 0 _ _ rfl rfl)
  obtain ⟨g, rfl, _⟩ := hasT_int Tryz.underlying3 (hp 1 _ _ rfl rfl)
  obtain ⟨r, rfl, _⟩ := hasT_int Tryz.underlying3 (hp 2 _ _ rfl rfl)
  obtain ⟨i, rfl, _⟩ := hasT_int Tryz.underlying3 (hp 3 _ _ rfl rfl)
  obtain ⟨s, rfl, _⟩ := hasT_int Tryz.underlying3 (hp 4 _ _ rfl rfl)
  obtain ⟨o, rfl⟩ := hasT_bool Tryz.underlying4 (hp 5 _ _ rfl rfl)
  exact ⟨⟨k, g, r, i, s, o⟩, rfl⟩
theorem code_of {N n : Nat} {p : List PV} (h : HasT S.P N (n + 1 + 1 + 1 + 1) 24 p) : ∃ (k : Int) (ls : List Let), p = [.int .i64 k, .sl (ls.map Let.ps)] := by
  obtain ⟨parts, rfl, hl, hp⟩ := hasT_struct Tryz.underlying24 h
  rcases parts with _ | ⟨p0, _ | ⟨p1, _ | ⟨p2, r⟩⟩⟩ <;> first
    | (simp at hl; done)
    | skip
  obtain ⟨k, rfl, _⟩ := hasT_int Tryz.underlying3 (hp 0 _ _ rfl rfl)
  obtain ⟨es, rfl, _, he⟩ := hasT_slice Tryz.underlying22 (hp 1 _ _ rfl rfl)
  obtain ⟨ls, rfl⟩ := lets_of fun x hx => let_of (he x hx)
  exact ⟨k, ls, rfl⟩
theorem move_of {N n : Nat} {p : List PV} (h : HasT S.P N (n + 1 + 1) 27 p) : ∃ (k a b c : Int) (l o : Bool) (s : Int), p = [.int .i64 k, .int .i64 a, .int .i64 b, .int .i64 c, .bool l, .bool o, .int .i64 s] := by
  obtain ⟨parts, rfl, hl, hp⟩ := hasT_struct Tryz.underlying27 h
  rcases parts with _ | ⟨p0, _ | ⟨p1, _ | ⟨p2, _ | ⟨p3, _ | ⟨p4, _ | ⟨p5, _ | ⟨p6, _ | ⟨p7, r⟩⟩⟩⟩⟩⟩⟩⟩ <;> first
    | (simp at hl; done)
    | skip
  obtain ⟨k, rfl, _⟩ := hasT_int Tryz.underlying25 (hp 0 _ _ rfl rfl)
  obtain ⟨a, rfl, _⟩ := hasT_int Tryz.underlying3 (hp 1 _ _ rfl rfl)
  obtain ⟨b, rfl, _⟩ := hasT_int Tryz.underlying3 (hp 2 _ _ rfl rfl)
  obtain ⟨c, rfl, _⟩ := hasT_int Tryz.underlying3 (hp 3 _ _ rfl rfl)
  obtain ⟨l, rfl⟩ := hasT_bool Tryz.underlying4 (hp 4 _ _ rfl rfl)
  obtain ⟨o, rfl⟩ := hasT_bool Tryz.underlying4 (hp 5 _ _ rfl rfl)
  obtain ⟨s, rfl, _⟩ := hasT_int Tryz.underlying3 (hp 6 _ _ rfl rfl)
  exact ⟨k, a, b, c, l, o, s, rfl⟩
theorem law_any (pvss : List (List PV)) (h : HasAll S.P maxLen 4 Tryz.f3.params.toList pvss) : PEv S 3 (argVs S.P Tryz.f3.params.toList pvss) (.one (.p (.bool true))) := by
  have hp : Tryz.f3.params.toList = [24, 27] := by rw [Tryz.params3]
  rw [hp] at h ⊢
  rcases pvss with _ | ⟨p, _ | ⟨q, _ | ⟨r, s⟩⟩⟩
  · exact h.elim
  · exact h.2.elim
  · obtain ⟨f, ls, rfl⟩ := code_of (n := 0) h.1
    obtain ⟨k, a, b, c, l, o, s, rfl⟩ := move_of (n := 2) h.2.1
    have e : ∀ (f : Int) (a : List Let), argV S.P 24 [.int .i64 f, .sl (a.map Let.ps)] = codeV f a := fun f a => argV_struct (P := S.P) Tryz.underlying24
    have e2 : argV S.P 27 [.int .i64 k, .int .i64 a, .int .i64 b, .int .i64 c, .bool l, .bool o, .int .i64 s] = mvV k a b c l o s := argV_struct (P := S.P) Tryz.underlying27
    simp only [argVs, e, e2]
    exact law_errors known3' f ls k a b c l o s
  · exact h.2.2.elim
theorem gTab : Tryz.prog.globalNamed tabName = some 0 := by kernel_rfl
theorem gTabType : (Tryz.prog.globals[0]?).map (·.type) = some 202 := by kernel_rfl
theorem cellsTab : Tryz.prog.cellsOf 202 = 20 := by kernel_rfl
theorem cellsU64 : Tryz.prog.cellsOf 170 = 1 := by kernel_rfl
/-- what the row's list gives: the table of the powers of ten -/
theorem table {W : World} (h : laidMetH Tryz.prog Rows.moveErrorsRow.laid W) : G W := by
  have h1 : laidMet Tryz.prog Rows.moveErrorsRow.laid W := h
  have h2 := h1.tail.tail
  have e : (Rows.laid_internal_strconv_uint64pow10 : DataW Unit) = Lib.tabData .u64 Lib.pow10Tab := by kernel_rfl
  rw [e] at h2
  exact Lib.tabIs_of_head (rest := []) gTab gTabType Tryz.underlying202 Tryz.underlying170 cellsU64 cellsTab h2
end Go.Proofs.YthlncajhlbgjbaaGreatDoor.fnMoveErrors
namespace Go.Proofs.YthlncajhlbgjbaaGreatDoor.fnMoveErrors
open Go.Abs Go.ChangeShapes Go.WideShapes Go.ChangeAt Go.RowKit
set_option maxRecDepth 100000
theorem own : ownKnob Tryz.prog.godebug = none := by kernel_rfl
theorem contract (H : Type) (enc : TypeId × Value → H) (W : World) (base : Nat) (args : Array Value) (ds gs : List (DataW H)) (before : List MemPlace)
    (hval : ∀ (j : Nat) t v, Tryz.f3.params[j]? = some t → args[j]? = some v → Value.okWide Tryz.prog W .any base t v)
    (hW : DataW.Whole enc Tryz.prog Tryz.f3.params.toList Rows.moveErrorsSpec.vars false W args.toList ds gs before) (hL : laidMetH Tryz.prog Rows.moveErrorsRow.laid W) :
    Calls Tryz.prog 3 args W fun e W' => ∃ v, e = .returned v ∧ Rows.moveErrorsSpec.post enc Tryz.prog Tryz.f3 false true false false W args v W' := by
  have hk : ∀ t ∈ Tryz.f3.params.toList, okTy S.P 4 t = true := by
    rw [Tryz.params3]
    intro t ht
    have e : t = 24 ∨ t = 27 := by simpa using ht
    have k : okTy S.P 4 24 = true := by kernel_rfl
    have k2 : okTy S.P 4 27 = true := by kernel_rfl
    rcases e with e | e
    · exact e ▸ k
    · exact e ▸ k2
  have hfit : ∀ d ∈ ds, Fits maxLen d := by
    obtain ⟨p, q, hA, _⟩ := hW
    exact (trodAll_fits hk hA).1
  exact law_contract S_ok (fun w h => good_of h) (fn := Tryz.f3) (s := Rows.moveErrorsSpec) rfl
    (fun H ds hd => by
      rw [Tryz.params3] at hd
      match ds, hd with
      | [d1, d2], _ => rfl) (tb := 4) (by kernel_rfl) Tryz.underlying4 hk law_any hval hW (table hL) hfit

noncomputable def cellsD (d : DataW Unit) : Array Value :=
  match d with
  | .agg l => (l.map fun
    | .lit (.int k z) => Value.int k z
    | _ => undef).toArray
  | _ => #[]
noncomputable def layD (d : DataW Unit) : Obj → Obj
  | .cells _ t frozen => .cells (cellsD d) t frozen
  | o => o
noncomputable def laidWorld (os : Os) : World :=
  { World.holding Tryz.prog os ⟨#[], #[], []⟩ with heap := (((World.holding Tryz.prog os ⟨#[], #[], []⟩).heap.modify 2 (layD Rows.laid_math_bits_deBruijn32tab)).modify 3 (layD Rows.laid_math_bits_deBruijn64tab)).modify 0 (layD Rows.laid_internal_strconv_uint64pow10) }
theorem laid_met (os : Os) : laidMet Tryz.prog Rows.moveErrorsRow.laid ((laidWorld os).forCall (fun _ _ => 0) ⟨#[], #[.agg #[.int .i64 0, .slice none 0 0], .agg #[.int .i64 0, .int .i64 0, .int .i64 0, .int .i64 0, .bool false, .bool false, .int .i64 0]], []⟩).memory :=
  laidMet_of_run' 8 (by kernel_rfl) (by kernel_rfl)
theorem reads (os : Os) {H : Type} (enc : TypeId × Value → H) : ∃ places, DataW.whole enc Tryz.prog ((laidWorld os).forCall (fun _ _ => 0) ⟨#[], #[.agg #[.int .i64 0, .slice none 0 0], .agg #[.int .i64 0, .int .i64 0, .int .i64 0, .int .i64 0, .bool false, .bool false, .int .i64 0]], []⟩).memory Tryz.f3.params.toList Rows.moveErrorsSpec.vars false #[Value.agg #[.int .i64 0, .slice none 0 0], .agg #[.int .i64 0, .int .i64 0, .int .i64 0, .int .i64 0, .bool false, .bool false, .int .i64 0]].toList 8 = some ([.agg [.lit (.int .i64 0), .nil], .agg [.lit (.int .i64 0), .lit (.int .i64 0), .lit (.int .i64 0), .lit (.int .i64 0), .lit (.bool false), .lit (.bool false), .lit (.int .i64 0)]], [], places) :=
  ⟨[], by kernel_rfl⟩

theorem lifted (os : Os) (started : os.Started) (H : Type) (enc : TypeId × Value → H) (F : Stop.Interp) :
    ReturnsInHanded {} Tryz.checked os 3 .any ((OpenSpec.ofChange Rows.moveErrorsSpec).preRow enc Tryz.prog Tryz.f3 Rows.moveErrorsRow.domain false Rows.moveErrorsRow.laid) (((OpenSpec.ofChange Rows.moveErrorsSpec).at F).post enc Tryz.prog Tryz.f3 false true false false) := by
  obtain ⟨places, hx⟩ := reads os enc
  refine returnsInHanded_of_row (C := Tryz.checked) (s := (OpenSpec.ofChange Rows.moveErrorsSpec)) own started (by kernel_rfl) Tryz.func3
    (witness_row_at (enc := enc) (C := Tryz.checked) false (laidWorld os) #[.agg #[.int .i64 0, .slice none 0 0], .agg #[.int .i64 0, .int .i64 0, .int .i64 0, .int .i64 0, .bool false, .bool false, .int .i64 0]] rfl (by kernel_rfl) (by kernel_rfl) (by kernel_rfl)
      (OpenSpec.preRow_of_cond 8 hx (by kernel_rfl) (fun k hk => by cases hk) (by kernel_rfl) (laid_met os))) ?_
  intro W base args ds gs before hval hW _ _ _ hL _ _
  exact contract H enc W base args ds gs before hval hW hL
end Go.Proofs.YthlncajhlbgjbaaGreatDoor.fnMoveErrors
namespace Go.Proofs.YthlncajhlbgjbaaGreatDoor.fnMoveErrors
open Go.Abs Go.ChangeShapes Go.WideShapes Go.ChangeAt Go.RowKit
set_option maxRecDepth 100000
theorem said : Rows.MoveErrorsSaid :=
  OpenClaim.holds_of_cond 3 Tryz.f3 rfl rfl rfl rfl rfl rfl rfl ⟨rfl, rfl, rfl, rfl, rfl⟩ rfl rfl rfl rfl rfl (by kernel_rfl) Tryz.func3 closed
    (of_decide_eq_true (by kernel_rfl)) (by unfold Func.isWrapper; first | (rw [if_pos (by decide +kernel)]; kernel_rfl) | (rw [if_neg (by decide +kernel)]; exact ⟨rfl, rfl⟩))
    (fun os started H enc _ F => by rw [OpenClaim.pre_eq_preRow]; exact lifted os started H enc F)

theorem plain (f : FuncId) (fn : Func) (hf : Tryz.pinned.checked.prog.funcNamed Rows.moveErrorsRow.func = some f) (hfn : Tryz.pinned.checked.prog.funcs[f]? = some fn) :
    false = Tryz.pinned.checked.prog.looks [] ∧ ∀ (j : Nat) t, fn.params[j]? = some t → Tryz.pinned.checked.prog.wantsStandIn t = false := by
  obtain rfl : f = 3 := Option.some.inj ((show Tryz.prog.funcNamed Rows.moveErrorsRow.func = some 3 by kernel_rfl).symm.trans hf) |>.symm
  obtain rfl : fn = Tryz.f3 := (Option.some.inj (Tryz.func3.symm.trans hfn)).symm
  refine ⟨by kernel_rfl, fun j t ht => ?_⟩
  rw [Tryz.params3] at ht
  have e : t = 24 ∨ t = 27 := by simpa using Array.mem_of_getElem? ht
  have k : Tryz.prog.wantsStandIn 24 = false := by kernel_rfl
  have k2 : Tryz.prog.wantsStandIn 27 = false := by kernel_rfl
  rcases e with e | e
  · exact e ▸ k
  · exact e ▸ k2

theorem wfText : Rows.moveErrorsRow.wfByText (OpenSpec.ofChange Rows.moveErrorsSpec) = true := by kernel_rfl
theorem mainIs : Tryz.pinned.checked.prog.mainIs = some ((true, "57c52b6e0eadfa2f48a8e69537b69e9e4c042e59ae1151640bfd9aae9e3b45a2").1, (true, "57c52b6e0eadfa2f48a8e69537b69e9e4c042e59ae1151640bfd9aae9e3b45a2").2.toList) := by kernel_rfl
theorem card : Rows.MoveErrorsCardSaid :=
  Claim7.holds_tied_plain_at .later [] _ _ _ _ said (fun _ h => by cases h) wfText (fun _ h => by cases h) moveErrors_row_tie rfl ⟨rfl, rfl⟩ mainIs rfl plain goes
end Go.Proofs.YthlncajhlbgjbaaGreatDoor.fnMoveErrors
