/-
  EaseLeast: whatever the list of codes, the call returns true and the argument reads as it did. It holds for every input that the row speaks of; the tables that the row lists hold what the text lays.
-/
import Derived.Test.YtehnpoeelhggeaaGreatDoorCards
import Derived.Test.YtehnpoeelhggeaaGreatDoorTie
import Derived.Deep.DeepHandedRow
import Derived.Lib.LaidTab
import Derived.Stop.LaidErr
import Derived.Test.YtehnpoeelhggeaaGreatDoorMd
import Derived.Test.YtehnpoeelhggeaaGreatDoorSa
import Derived.Test.YtehnpoeelhggeaaGreatDoorLc
import Derived.Test.YtehnpoeelhggeaaGreatDoorKb
import Derived.Test.YtehnpoeelhggeaaGreatDoorFc
import Derived.Test.YtehnpoeelhggeaaGreatDoorGc
set_option linter.unusedSimpArgs false
set_option linter.unusedVariables false
set_option linter.unusedSectionVars false
namespace Go.Abs
theorem hasT_struct {P : Program} {N n : Nat} {t : TypeId} {fs : Array Field} {p : List PV} (hu : P.underlying t = some (.struct fs)) (h : HasT P N (n + 1) t p) :
    ∃ parts : List (List PV), p = parts.flatten ∧ parts.length = fs.toList.length ∧ ∀ (i : Nat) (f : Field) (x : List PV), fs.toList[i]? = some f → parts[i]? = some x → HasT P N n f.type x := by
  simp only [HasT, hu] at h
  exact h
theorem lets_of {es : List (List PV)} (h : ∀ x ∈ es, ∃ l : Let, x = l.ps) : ∃ ls : List Let, es = ls.map Let.ps := by
  induction es with
  | nil => exact ⟨[], rfl⟩
  | cons e es ih =>
    obtain ⟨l, rfl⟩ := h e (by simp)
    obtain ⟨ls, rfl⟩ := ih fun x hx => h x (by simp [hx])
    exact ⟨l :: ls, rfl⟩
end Go.Abs
namespace Go.Proofs.YtehnpoeelhggeaaGreatDoor.fnEaseLeast
open Go.Abs Go.ChangeShapes Go.WideShapes Go.ChangeAt Go.RowKit
set_option maxRecDepth 100000

theorem let_of {N n : Nat} {p : List PV} (h : HasT S.P N (n + 1 + 1) 83 p) : ∃ l : Let, p = l.ps := by
  obtain ⟨parts, rfl, hl, hp⟩ := hasT_struct Tryz.underlying83 h
  rcases parts with _ | ⟨p0, _ | ⟨p1, _ | ⟨p2, _ | ⟨p3, _ | ⟨p4, _ | ⟨p5, _ | ⟨p6, r⟩⟩⟩⟩⟩⟩⟩ <;> first
    | (simp at hl; done)
    | skip
  obtain ⟨k, rfl, _⟩ := hasT_int Tryz.underlying81 (hp 0 _ _ rfl rfl)
  obtain ⟨g, rfl, _⟩ := hasT_int Tryz.underlying3 (hp 1 _ _ rfl rfl)
  obtain ⟨r, rfl, _⟩ := hasT_int Tryz.underlying3 (hp 2 _ _ rfl rfl)
  obtain ⟨i, rfl, _⟩ := hasT_int Tryz.underlying3 (hp 3 _ _ rfl rfl)
  obtain ⟨s, rfl, _⟩ := hasT_int Tryz.underlying3 (hp 4 _ _ rfl rfl)
  obtain ⟨o, rfl⟩ := hasT_bool Tryz.underlying4 (hp 5 _ _ rfl rfl)
  exact ⟨⟨k, g, r, i, s, o⟩, rfl⟩

theorem code_of {N n : Nat} {p : List PV} (h : HasT S.P N (n + 1 + 1 + 1 + 1) 37 p) : ∃ (k : Int) (ls : List Let), p = [.int .i64 k, .sl (ls.map Let.ps)] := by
  obtain ⟨parts, rfl, hl, hp⟩ := hasT_struct Tryz.underlying37 h
  rcases parts with _ | ⟨p0, _ | ⟨p1, _ | ⟨p2, r⟩⟩⟩ <;> first
    | (simp at hl; done)
    | skip
  obtain ⟨k, rfl, _⟩ := hasT_int Tryz.underlying3 (hp 0 _ _ rfl rfl)
  obtain ⟨es, rfl, _, he⟩ := hasT_slice Tryz.underlying35 (hp 1 _ _ rfl rfl)
  obtain ⟨ls, rfl⟩ := lets_of fun x hx => let_of (he x hx)
  exact ⟨k, ls, rfl⟩

theorem codes_of {N n : Nat} {es : List (List PV)} (h : ∀ x ∈ es, HasT S.P N (n + 1 + 1 + 1 + 1) 37 x) : ∃ cs : List (Int × List Let), es = cs.map codeP := by
  induction es with
  | nil => exact ⟨[], rfl⟩
  | cons e es ih =>
    obtain ⟨k, ls, rfl⟩ := code_of (h e (by simp))
    obtain ⟨cs, rfl⟩ := ih fun x hx => h x (by simp [hx])
    exact ⟨(k, ls) :: cs, rfl⟩

theorem law_any (pvss : List (List PV)) (h : HasAll S.P maxLen 5 Tryz.f7.params.toList pvss) : PEv S 7 (argVs S.P Tryz.f7.params.toList pvss) (.one (.p (.bool true))) := by
  have hp : Tryz.f7.params.toList = [39] := by rw [Tryz.params7]
  rw [hp] at h ⊢
  rcases pvss with _ | ⟨p, _ | ⟨q, r⟩⟩
  · exact h.elim
  · obtain ⟨es, rfl, hl, he⟩ := hasT_slice (n := 4) Tryz.underlying39 h.1
    obtain ⟨cs, rfl⟩ := codes_of (n := 0) he
    have e : argV S.P 39 [.sl (cs.map codeP)] = .one (.p (.sl (cs.map codeP))) := argV_one (P := S.P) Tryz.underlying39 (fun fs h => by cases h)
    simp only [argVs, e]
    exact law7 k4known cs (by unfold maxLen at hl; simpa using hl)
  · exact h.2.elim
end Go.Proofs.YtehnpoeelhggeaaGreatDoor.fnEaseLeast
namespace Go.Proofs.YtehnpoeelhggeaaGreatDoor.fnEaseLeast
open Go.Abs Go.ChangeShapes Go.WideShapes Go.ChangeAt Go.RowKit
set_option maxRecDepth 100000
theorem own : ownKnob Tryz.prog.godebug = none := by kernel_rfl
theorem gTab : Tryz.prog.globalNamed tabName = some 2 := by kernel_rfl
theorem gTabType : (Tryz.prog.globals[2]?).map (·.type) = some 327 := by kernel_rfl
theorem cells327 : Tryz.prog.cellsOf 327 = 20 := by kernel_rfl
theorem cells263 : Tryz.prog.cellsOf 263 = 1 := by kernel_rfl

/-- what the row's list gives: the table of the powers of ten -/
theorem table {W : World} (h : laidMetH Tryz.prog Rows.easeLeastRow.laid W) : G W := by
  have h1 : laidMet Tryz.prog Rows.easeLeastRow.laid W := h
  have h2 := h1.tail.tail
  have e : (Rows.laid_internal_strconv_uint64pow10 : DataW Unit) = Lib.tabData .u64 Lib.pow10Tab := by kernel_rfl
  rw [e] at h2
  exact Lib.tabIs_of_head (rest := []) gTab gTabType Tryz.underlying327 Tryz.underlying263 cells263 cells327 h2

theorem contract (H : Type) (enc : TypeId × Value → H) (W : World) (base : Nat) (args : Array Value) (ds gs : List (DataW H)) (before : List MemPlace)
    (hval : ∀ (j : Nat) t v, Tryz.f7.params[j]? = some t → args[j]? = some v → Value.okWide Tryz.prog W .any base t v)
    (hW : DataW.Whole enc Tryz.prog Tryz.f7.params.toList Rows.easeLeastSpec.vars false W args.toList ds gs before) (hL : laidMetH Tryz.prog Rows.easeLeastRow.laid W) :
    Calls Tryz.prog 7 args W fun e W' => ∃ v, e = .returned v ∧ Rows.easeLeastSpec.post enc Tryz.prog Tryz.f7 false true false false W args v W' := by
  have hk : ∀ t ∈ Tryz.f7.params.toList, okTy S.P 5 t = true := by
    rw [Tryz.params7]
    intro t ht
    have e : t = 39 := by simpa using ht
    have k : okTy S.P 5 39 = true := by kernel_rfl
    exact e ▸ k
  have hfit : ∀ d ∈ ds, Fits maxLen d := by
    obtain ⟨p, q, hA, _⟩ := hW
    exact (trodAll_fits hk hA).1
  exact law_contract S_ok (fun w h => good_of h) (fn := Tryz.f7) (s := Rows.easeLeastSpec) rfl
    (fun H ds hd => by
      rw [Tryz.params7] at hd
      match ds, hd with
      | [d1], _ => rfl) (tb := 4) (by kernel_rfl) Tryz.underlying4 hk law_any hval hW (table hL) hfit

noncomputable def cellsD (d : DataW Unit) : Array Value :=
  match d with
  | .agg l => (l.map fun
    | .lit (.int k z) => Value.int k z
    | _ => undef).toArray
  | _ => #[]
noncomputable def layD (d : DataW Unit) : Obj → Obj
  | .cells _ t frozen => .cells (cellsD d) t frozen
  | o => o
noncomputable def laidWorld (os : Os) : World :=
  { World.holding Tryz.prog os ⟨#[], #[], []⟩ with heap := (((World.holding Tryz.prog os ⟨#[], #[], []⟩).heap.modify 6 (layD Rows.laid_math_bits_deBruijn32tab)).modify 7 (layD Rows.laid_math_bits_deBruijn64tab)).modify 2 (layD Rows.laid_internal_strconv_uint64pow10) }
theorem laid_met (os : Os) : laidMet Tryz.prog Rows.easeLeastRow.laid ((laidWorld os).forCall (fun _ _ => 0) ⟨#[], #[.slice none 0 0], []⟩).memory :=
  laidMet_of_run' 8 (by kernel_rfl) (by kernel_rfl)
theorem reads (os : Os) {H : Type} (enc : TypeId × Value → H) : ∃ places, DataW.whole enc Tryz.prog ((laidWorld os).forCall (fun _ _ => 0) ⟨#[], #[.slice none 0 0], []⟩).memory Tryz.f7.params.toList Rows.easeLeastSpec.vars false #[Value.slice none 0 0].toList 8 = some ([.nil], [], places) :=
  ⟨[], by kernel_rfl⟩

theorem lifted (os : Os) (started : os.Started) (H : Type) (enc : TypeId × Value → H) (F : Stop.Interp) :
    ReturnsInHanded {} Tryz.checked os 7 .any ((OpenSpec.ofChange Rows.easeLeastSpec).preRow enc Tryz.prog Tryz.f7 Rows.easeLeastRow.domain false Rows.easeLeastRow.laid) (((OpenSpec.ofChange Rows.easeLeastSpec).at F).post enc Tryz.prog Tryz.f7 false true false false) := by
  obtain ⟨places, hx⟩ := reads os enc
  refine returnsInHanded_of_row (C := Tryz.checked) (s := OpenSpec.ofChange Rows.easeLeastSpec) own started (by kernel_rfl) Tryz.func7
    (witness_row_at (enc := enc) (C := Tryz.checked) false (laidWorld os) #[.slice none 0 0] rfl (by kernel_rfl) (by kernel_rfl) (by kernel_rfl)
      (OpenSpec.preRow_of_cond 8 hx (by kernel_rfl) (fun k hk => by cases hk) (by kernel_rfl) (laid_met os))) ?_
  intro W base args ds gs before hval hW _ _ _ hL _ _
  exact contract H enc W base args ds gs before hval hW hL

end Go.Proofs.YtehnpoeelhggeaaGreatDoor.fnEaseLeast
namespace Go.Proofs.YtehnpoeelhggeaaGreatDoor.fnEaseLeast
open Go.Abs Go.ChangeShapes Go.WideShapes Go.ChangeAt Go.RowKit
set_option maxRecDepth 100000
theorem said : Rows.EaseLeastSaid :=
  OpenClaim.holds_of_cond 7 Tryz.f7 rfl rfl rfl rfl rfl rfl rfl ⟨rfl, rfl, rfl, rfl, rfl⟩ rfl rfl rfl rfl rfl (by kernel_rfl) Tryz.func7 closed
    (of_decide_eq_true (by kernel_rfl)) (by unfold Func.isWrapper; first | (rw [if_pos (by decide +kernel)]; kernel_rfl) | (rw [if_neg (by decide +kernel)]; exact ⟨rfl, rfl⟩))
    (fun os started H enc _ F => by rw [OpenClaim.pre_eq_preRow]; exact lifted os started H enc F)

theorem plain (f : FuncId) (fn : Func) (hf : Tryz.pinned.checked.prog.funcNamed Rows.easeLeastRow.func = some f) (hfn : Tryz.pinned.checked.prog.funcs[f]? = some fn) :
    true = Tryz.pinned.checked.prog.looks [] ∧ ∀ (j : Nat) t, fn.params[j]? = some t → Tryz.pinned.checked.prog.wantsStandIn t = false := by
  obtain rfl : f = 7 := Option.some.inj ((show Tryz.prog.funcNamed Rows.easeLeastRow.func = some 7 by kernel_rfl).symm.trans hf) |>.symm
  obtain rfl : fn = Tryz.f7 := (Option.some.inj (Tryz.func7.symm.trans hfn)).symm
  refine ⟨by kernel_rfl, fun j t ht => ?_⟩
  rw [Tryz.params7] at ht
  obtain rfl : t = 39 := by simpa using Array.mem_of_getElem? ht
  exact (show Tryz.prog.wantsStandIn 39 = false by kernel_rfl)

theorem wfText : Rows.easeLeastRow.wfByText (OpenSpec.ofChange Rows.easeLeastSpec) = true := by kernel_rfl
theorem mainIs : Tryz.pinned.checked.prog.mainIs = some ((true, "a57addd531b0bb68bc131a816284d2293e4d9aa4d6666fda2b042ec11774166e").1, (true, "a57addd531b0bb68bc131a816284d2293e4d9aa4d6666fda2b042ec11774166e").2.toList) := by kernel_rfl
theorem card : Rows.EaseLeastCardSaid :=
  Claim7.holds_tied_plain_at .later [] _ _ _ _ said (fun _ h => by cases h) wfText (fun _ h => by cases h) easeLeast_row_tie rfl ⟨rfl, rfl⟩ mainIs rfl plain goes
end Go.Proofs.YtehnpoeelhggeaaGreatDoor.fnEaseLeast
