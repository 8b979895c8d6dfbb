/-
  MoveBares: whatever the number, the call returns true and the arguments read as they did. It holds for every input that the row speaks of; the tables that the row lists hold what the text lays.
-/
import Derived.Test.YtdfaoeikkkfkoaaGreatDoorCards
import Derived.Test.YtdfaoeikkkfkoaaGreatDoorTie
import Derived.Deep.DeepHandedRow
import Derived.Deep.DeepLaidRun
import Derived.Lib.LaidTab
import Derived.Stop.LaidErr
import Derived.Test.YtdfaoeikkkfkoaaGreatDoorMd
import Derived.Test.YtdfaoeikkkfkoaaGreatDoorSb
import Derived.Test.YtdfaoeikkkfkoaaGreatDoorWu
import Derived.Test.YtdfaoeikkkfkoaaGreatDoorTa
import Derived.Test.YtdfaoeikkkfkoaaGreatDoorFa
import Derived.Test.YtdfaoeikkkfkoaaGreatDoorGa
set_option linter.unusedSimpArgs false
set_option linter.unusedVariables false
set_option linter.unusedSectionVars false
namespace Go.Proofs.YtdfaoeikkkfkoaaGreatDoor.fnMoveBares
open Go.Abs Go.ChangeShapes Go.WideShapes Go.ChangeAt Go.RowKit
set_option maxRecDepth 100000
theorem law_any (pvss : List (List PV)) (h : HasAll S.P maxLen 2 Tryz.f3.params.toList pvss) : PEv S 3 (argVs S.P Tryz.f3.params.toList pvss) (.one (.p (.bool true))) := by
  have hp : Tryz.f3.params.toList = [3] := by rw [Tryz.params3]
  rw [hp] at h ⊢
  rcases pvss with _ | ⟨a0, _ | ⟨a1, z1⟩⟩
  · exact h.elim
  · obtain ⟨x0, rfl, _⟩ := hasT_int (n := 1) Tryz.underlying3 h.1
    have e1 : ∀ x : Int, argV S.P 3 [.int .i64 x] = vi x := fun x => argV_one (P := S.P) Tryz.underlying3 (fun fs h => by cases h)
    simp only [argVs, e1]
    exact law_bares known3' x0
  · exact h.2.elim
theorem gTab : Tryz.prog.globalNamed tabName = some 0 := by kernel_rfl
theorem gTabType : (Tryz.prog.globals[0]?).map (·.type) = some 167 := by kernel_rfl
theorem cellsTab : Tryz.prog.cellsOf 167 = 20 := by kernel_rfl
theorem cellsU64 : Tryz.prog.cellsOf 143 = 1 := by kernel_rfl
/-- what the row's list gives: the table of the powers of ten -/
theorem table {W : World} (h : laidMetH Tryz.prog Rows.moveBaresRow.laid W) : G W := by
  have h1 : laidMet Tryz.prog Rows.moveBaresRow.laid W := h
  have h2 := h1.tail.tail
  have e : (Rows.laid_internal_strconv_uint64pow10 : DataW Unit) = Lib.tabData .u64 Lib.pow10Tab := by kernel_rfl
  rw [e] at h2
  exact Lib.tabIs_of_head (rest := []) gTab gTabType Tryz.underlying167 Tryz.underlying143 cellsU64 cellsTab h2
end Go.Proofs.YtdfaoeikkkfkoaaGreatDoor.fnMoveBares
namespace Go.Proofs.YtdfaoeikkkfkoaaGreatDoor.fnMoveBares
open Go.Abs Go.ChangeShapes Go.WideShapes Go.ChangeAt Go.RowKit
set_option maxRecDepth 100000
theorem own : ownKnob Tryz.prog.godebug = none := by kernel_rfl
theorem contract (H : Type) (enc : TypeId × Value → H) (W : World) (base : Nat) (args : Array Value) (ds gs : List (DataW H)) (before : List MemPlace)
    (hval : ∀ (j : Nat) t v, Tryz.f3.params[j]? = some t → args[j]? = some v → Value.okWide Tryz.prog W .any base t v)
    (hW : DataW.Whole enc Tryz.prog Tryz.f3.params.toList Rows.moveBaresSpec.vars false W args.toList ds gs before) (hL : laidMetH Tryz.prog Rows.moveBaresRow.laid W) :
    Calls Tryz.prog 3 args W fun e W' => ∃ v, e = .returned v ∧ Rows.moveBaresSpec.post enc Tryz.prog Tryz.f3 false true false false W args v W' := by
  have hk : ∀ t ∈ Tryz.f3.params.toList, okTy S.P 2 t = true := by
    rw [Tryz.params3]
    intro t ht
    have e : t = 3 := by simpa using ht
    have k : okTy S.P 2 3 = true := by kernel_rfl
    exact e ▸ k
  have hfit : ∀ d ∈ ds, Fits maxLen d := by
    obtain ⟨p, q, hA, _⟩ := hW
    exact (trodAll_fits hk hA).1
  exact law_contract S_ok (fun w h => good_of h) (fn := Tryz.f3) (s := Rows.moveBaresSpec) rfl
    (fun H ds hd => by
      rw [Tryz.params3] at hd
      match ds, hd with
      | [d0], _ => rfl) (tb := 4) (by kernel_rfl) Tryz.underlying4 hk law_any hval hW (table hL) hfit

noncomputable def cellsD (d : DataW Unit) : Array Value :=
  match d with
  | .agg l => (l.map fun
    | .lit (.int k z) => Value.int k z
    | _ => undef).toArray
  | _ => #[]
noncomputable def layD (d : DataW Unit) : Obj → Obj
  | .cells _ t frozen => .cells (cellsD d) t frozen
  | o => o
noncomputable def laidWorld (os : Os) : World :=
  { World.holding Tryz.prog os ⟨#[], #[], []⟩ with heap := (((World.holding Tryz.prog os ⟨#[], #[], []⟩).heap.modify 2 (layD Rows.laid_math_bits_deBruijn32tab)).modify 3 (layD Rows.laid_math_bits_deBruijn64tab)).modify 0 (layD Rows.laid_internal_strconv_uint64pow10) }
theorem laid_met (os : Os) : laidMet Tryz.prog Rows.moveBaresRow.laid ((laidWorld os).forCall (fun _ _ => 0) ⟨#[], #[Value.int .i64 0], []⟩).memory :=
  laidMet_of_run' 8 (by kernel_rfl) (by kernel_rfl)
theorem reads (os : Os) {H : Type} (enc : TypeId × Value → H) : ∃ places, DataW.whole enc Tryz.prog ((laidWorld os).forCall (fun _ _ => 0) ⟨#[], #[Value.int .i64 0], []⟩).memory Tryz.f3.params.toList Rows.moveBaresSpec.vars false #[Value.int .i64 0].toList 8 = some ([.lit (.int .i64 0)], [], places) :=
  ⟨[], by kernel_rfl⟩

theorem lifted (os : Os) (started : os.Started) (H : Type) (enc : TypeId × Value → H) (F : Stop.Interp) :
    ReturnsInHanded {} Tryz.checked os 3 .any ((OpenSpec.ofChange Rows.moveBaresSpec).preRow enc Tryz.prog Tryz.f3 Rows.moveBaresRow.domain false Rows.moveBaresRow.laid) (((OpenSpec.ofChange Rows.moveBaresSpec).at F).post enc Tryz.prog Tryz.f3 false true false false) := by
  obtain ⟨places, hx⟩ := reads os enc
  refine returnsInHanded_of_row (C := Tryz.checked) (s := (OpenSpec.ofChange Rows.moveBaresSpec)) own started (by kernel_rfl) Tryz.func3
    (witness_row_at (enc := enc) (C := Tryz.checked) false (laidWorld os) #[Value.int .i64 0] rfl (by kernel_rfl) (by kernel_rfl) (by kernel_rfl)
      (OpenSpec.preRow_of_cond 8 hx (by kernel_rfl) (fun k hk => by cases hk) (by kernel_rfl) (laid_met os))) ?_
  intro W base args ds gs before hval hW _ _ _ hL _ _
  exact contract H enc W base args ds gs before hval hW hL
end Go.Proofs.YtdfaoeikkkfkoaaGreatDoor.fnMoveBares
namespace Go.Proofs.YtdfaoeikkkfkoaaGreatDoor.fnMoveBares
open Go.Abs Go.ChangeShapes Go.WideShapes Go.ChangeAt Go.RowKit
set_option maxRecDepth 100000
theorem said : Rows.MoveBaresSaid :=
  OpenClaim.holds_of_cond 3 Tryz.f3 rfl rfl rfl rfl rfl rfl rfl ⟨rfl, rfl, rfl, rfl, rfl⟩ rfl rfl rfl rfl rfl (by kernel_rfl) Tryz.func3 closed
    (of_decide_eq_true (by kernel_rfl)) (by unfold Func.isWrapper; first | (rw [if_pos (by decide +kernel)]; kernel_rfl) | (rw [if_neg (by decide +kernel)]; exact ⟨rfl, rfl⟩))
    (fun os started H enc _ F => by rw [OpenClaim.pre_eq_preRow]; exact lifted os started H enc F)

theorem plain (f : FuncId) (fn : Func) (hf : Tryz.pinned.checked.prog.funcNamed Rows.moveBaresRow.func = some f) (hfn : Tryz.pinned.checked.prog.funcs[f]? = some fn) :
    false = Tryz.pinned.checked.prog.looks [] ∧ ∀ (j : Nat) t, fn.params[j]? = some t → Tryz.pinned.checked.prog.wantsStandIn t = false := by
  obtain rfl : f = 3 := Option.some.inj ((show Tryz.prog.funcNamed Rows.moveBaresRow.func = some 3 by kernel_rfl).symm.trans hf) |>.symm
  obtain rfl : fn = Tryz.f3 := (Option.some.inj (Tryz.func3.symm.trans hfn)).symm
  refine ⟨by kernel_rfl, ?_⟩
  · intro j t ht
    rw [Tryz.params3] at ht
    have e : t = 3 := by simpa using Array.mem_of_getElem? ht
    have k : Tryz.prog.wantsStandIn 3 = false := by kernel_rfl
    exact e ▸ k

theorem wfText : Rows.moveBaresRow.wfByText (OpenSpec.ofChange Rows.moveBaresSpec) = true := by kernel_rfl
theorem mainIs : Tryz.pinned.checked.prog.mainIs = some ((true, "b1036e6b5b1d4b97773e3a04bc892497a941d1ed824ab24eaade18eb4558193c").1, (true, "b1036e6b5b1d4b97773e3a04bc892497a941d1ed824ab24eaade18eb4558193c").2.toList) := by kernel_rfl
theorem card : Rows.MoveBaresCardSaid :=
  Claim7.holds_tied_plain_at .later [] _ _ _ _ said (fun _ h => by cases h) wfText (fun _ h => by cases h) moveBares_row_tie rfl ⟨rfl, rfl⟩ mainIs rfl plain goes
end Go.Proofs.YtdfaoeikkkfkoaaGreatDoor.fnMoveBares
