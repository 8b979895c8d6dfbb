/-
  MoveParses, second form: whatever the string of bulk at most 1048576, the call returns true and the argument reads as it did. It holds for every input that the row speaks of; the tables and errors that the row lists hold what the text lays.
-/
import Derived.Test.YtehnpoeelhggeaaGreatDoorCards
import Derived.Test.YtehnpoeelhggeaaGreatDoorTie
import Derived.Deep.DeepHandedRow
import Derived.Deep.DeepLaidRun
import Derived.Lib.LaidTab
import Derived.Stop.LaidErr
import Derived.Test.YtehnpoeelhggeaaGreatDoorMd
import Derived.Test.YtehnpoeelhggeaaGreatDoorSb
import Derived.Test.YtehnpoeelhggeaaGreatDoorLj
import Derived.Test.YtehnpoeelhggeaaGreatDoorTa
import Derived.Test.YtehnpoeelhggeaaGreatDoorFe
import Derived.Test.YtehnpoeelhggeaaGreatDoorGe
set_option linter.unusedSimpArgs false
set_option linter.unusedVariables false
set_option linter.unusedSectionVars false
namespace Go.Proofs.YtehnpoeelhggeaaGreatDoor.fnMoveParses
open Go.Abs Go.ChangeShapes Go.WideShapes Go.ChangeAt Go.RowKit
set_option maxRecDepth 100000

theorem law_any (pvss : List (List PV)) (h : HasAll S.P 1048576 2 Tryz.f5.params.toList pvss) : PEv S 5 (argVs S.P Tryz.f5.params.toList pvss) (.one (.p (.bool true))) := by
  have hp : Tryz.f5.params.toList = [9] := by rw [Tryz.params5]
  rw [hp] at h ⊢
  rcases pvss with _ | ⟨p, _ | ⟨q, r⟩⟩
  · exact h.elim
  · obtain ⟨s, rfl, hs⟩ := hasT_str (n := 1) Tryz.underlying9 h.1
    have e : argV S.P 9 [.str s] = .one (.p (.str s)) := argV_one (P := S.P) Tryz.underlying9 (fun fs h => by cases h)
    simp only [argVs, e]
    exact law5 known3' s (by omega)
  · exact h.2.elim
theorem one_le {H : Type} (d : DataW H) : 1 ≤ Rows.uptoBulk d := by
  cases d with
  | lit l => cases l <;> simp [Rows.uptoBulk]
  | nil => simp [Rows.uptoBulk]
  | ptr d => simp [Rows.uptoBulk]
  | slice elems spare => simp [Rows.uptoBulk]
  | agg parts => simp [Rows.uptoBulk]
  | iface t d => simp [Rows.uptoBulk]
  | map entries => simp [Rows.uptoBulk]
  | held h => simp [Rows.uptoBulk]
theorem part_le {H : Type} {d : DataW H} {l : List (DataW H)} (h : d ∈ l) : Rows.uptoBulk d ≤ Rows.uptoBulkAll l := by
  induction l with
  | nil => cases h
  | cons x r ih =>
    simp only [Rows.uptoBulkAll]
    cases List.mem_cons.1 h with
    | inl e => subst e; omega
    | inr e => have := ih e; omega
theorem length_le {H : Type} (l : List (DataW H)) : l.length ≤ Rows.uptoBulkAll l := by
  induction l with
  | nil => simp [Rows.uptoBulkAll]
  | cons x r ih => have := one_le x; simp only [Rows.uptoBulkAll, List.length_cons]; omega
/-- what is of small bulk fits -/
theorem fits_small {H : Type} {N B : Nat} {d : DataW H} (h : Fits N d) : Rows.uptoBulk d ≤ B → Fits B d := by
  induction h with
  | str s _ => intro h; simp only [Rows.uptoBulk] at h; exact .str s (by omega)
  | lit l hl => intro _; exact .lit l hl
  | nil => intro _; exact .nil
  | slice es sp _ _ ih =>
    intro h
    simp only [Rows.uptoBulk] at h
    have := length_le es
    exact .slice es sp (by omega) fun d hd => ih d hd (by have := part_le hd; omega)
  | agg es _ ih =>
    intro h
    simp only [Rows.uptoBulk] at h
    exact .agg es fun d hd => ih d hd (by have := part_le hd; omega)
theorem append {H : Type} (l r : List (DataW H)) : Rows.uptoBulkAll (l ++ r) = Rows.uptoBulkAll l + Rows.uptoBulkAll r := by
  induction l with
  | nil => simp [Rows.uptoBulkAll]
  | cons x l ih => simp only [List.cons_append, Rows.uptoBulkAll, ih]; omega
theorem bound {H : Type} {l : List (DataW H)} (hk : Rows.uptoSmall H l = true) : Rows.uptoBulkAll l ≤ 1048576 := of_decide_eq_true hk

theorem gTab : Tryz.prog.globalNamed tabName = some 2 := by kernel_rfl
theorem gTabType : (Tryz.prog.globals[2]?).map (·.type) = some 327 := by kernel_rfl
theorem cells327 : Tryz.prog.cellsOf 327 = 20 := by kernel_rfl
theorem cells263 : Tryz.prog.cellsOf 263 = 1 := by kernel_rfl
theorem gSyntax : Tryz.prog.globalNamed "strconv.ErrSyntax" = some 0 := by kernel_rfl
theorem gSyntaxType : (Tryz.prog.globals[0]?).map (·.type) = some 77 := by kernel_rfl
theorem gRange : Tryz.prog.globalNamed "strconv.ErrRange" = some 1 := by kernel_rfl
theorem gRangeType : (Tryz.prog.globals[1]?).map (·.type) = some 77 := by kernel_rfl
theorem cells333 : Tryz.prog.cellsOf 333 = 1 := by kernel_rfl
theorem cells9 : Tryz.prog.cellsOf 9 = 1 := by kernel_rfl
theorem star : "*" ++ "errors.errorString" = "*errors.errorString" := by decide
theorem rowStr (u : TypeId) (h : Tryz.prog.typeName? 3 u = some "*errors.errorString") : u = 331 :=
  typeName_ptr_named (nm := "errors.errorString") (by rw [star]; kernel_rfl) (by kernel_rfl) (by decide) u (by rw [star]; exact h)
/-- what the row's list gives: the table of the powers of ten, the two errors; and that MaxLen is a number -/
theorem table {W : World} (h : laidMetH Tryz.prog Rows.moveParsesUptoRow.laid W) (hs : W.ShapedOpen Tryz.prog) : G W := by
  have h1 : laidMet Tryz.prog Rows.moveParsesUptoRow.laid W := h
  have h2 := h1.tail.tail
  have e : (Rows.laid_internal_strconv_uint64pow10 : DataW Unit) = Lib.tabData .u64 Lib.pow10Tab := by kernel_rfl
  rw [e] at h2
  have h4 := h1.tail.tail.tail.tail
  obtain ⟨a1, s1, v1, _, _, _⟩ := laid_sentinel h4 gRange gRangeType Tryz.underlying77 rowStr Tryz.underlying331 Tryz.underlying333 rfl rfl Tryz.underlying9 cells333 cells9
  obtain ⟨a0, s0, v0, _, _, _⟩ := laid_sentinel h4.tail gSyntax gSyntaxType Tryz.underlying77 rowStr Tryz.underlying331 Tryz.underlying333 rfl rfl Tryz.underlying9 cells333 cells9
  have c0 : W.cell? ⟨0, 0, none⟩ = some (.iface 331 (.pointer (some a0))) := by simpa using World.var?_cell gSyntax v0 0
  have c1 : W.cell? ⟨1, 0, none⟩ = some (.iface 331 (.pointer (some a1))) := by simpa using World.var?_cell gRange v1 0
  exact ⟨Lib.tabIs_of_head gTab gTabType Tryz.underlying327 Tryz.underlying263 cells263 cells327 h2, Tryz.laysM146.s1_3 W hs, ⟨_, c0, .inr ⟨_, _, rfl⟩⟩, ⟨_, c1, .inr ⟨_, _, rfl⟩⟩⟩
end Go.Proofs.YtehnpoeelhggeaaGreatDoor.fnMoveParses
namespace Go.Proofs.YtehnpoeelhggeaaGreatDoor.fnMoveParses
open Go.Abs Go.ChangeShapes Go.WideShapes Go.ChangeAt Go.RowKit
set_option maxRecDepth 100000
theorem own : ownKnob Tryz.prog.godebug = none := by kernel_rfl
theorem contract (H : Type) (enc : TypeId × Value → H) (W : World) (base : Nat) (args : Array Value) (ds gs : List (DataW H)) (before : List MemPlace)
    (hval : ∀ (j : Nat) t v, Tryz.f5.params[j]? = some t → args[j]? = some v → Value.okWide Tryz.prog W .any base t v)
    (hW : DataW.Whole enc Tryz.prog Tryz.f5.params.toList Rows.moveParsesSpec.vars false W args.toList ds gs before) (hL : laidMetH Tryz.prog Rows.moveParsesUptoRow.laid W) (hs : W.ShapedOpen Tryz.prog) (hc : Rows.uptoSmall H (ds ++ gs) = true) :
    Calls Tryz.prog 5 args W fun e W' => ∃ v, e = .returned v ∧ Rows.moveParsesSpec.post enc Tryz.prog Tryz.f5 false true false false W args v W' := by
  have hk : ∀ t ∈ Tryz.f5.params.toList, okTy S.P 2 t = true := by
    rw [Tryz.params5]
    intro t ht
    have e : t = 9 := by simpa using ht
    have k : okTy S.P 2 9 = true := by kernel_rfl
    exact e ▸ k
  have hfit0 : ∀ d ∈ ds, Fits maxLen d := by
    obtain ⟨p, q, hA, _⟩ := hW
    exact (trodAll_fits hk hA).1
  have hfit : ∀ d ∈ ds, Fits 1048576 d := fun d hd => fits_small (hfit0 d hd) (by
    have h1 := bound hc
    rw [append] at h1
    have := part_le hd
    omega)
  exact law_contract S_ok (fun w h => good_of h) (fn := Tryz.f5) (s := Rows.moveParsesSpec) rfl
    (fun H ds hd => by
      rw [Tryz.params5] at hd
      match ds, hd with
      | [d1], _ => rfl) (tb := 4) (by kernel_rfl) Tryz.underlying4 hk law_any hval hW (table hL hs) hfit

noncomputable def cellD : DataW Unit → List Value
  | .lit (.int k z) => [Value.int k z]
  | .agg l => l.flatMap fun
    | .lit (.int k z) => [Value.int k z]
    | _ => []
  | _ => []
noncomputable def cellsD (d : DataW Unit) : Array Value :=
  match d with
  | .agg l => (l.flatMap cellD).toArray
  | _ => #[]
noncomputable def layD (d : DataW Unit) : Obj → Obj
  | .cells _ t frozen => .cells (cellsD d) t frozen
  | o => o
noncomputable def layE (n : Nat) : Obj → Obj
  | .cells _ t frozen => .cells #[.iface 331 (.pointer (some ⟨n, 0, none⟩))] t frozen
  | o => o
noncomputable def low : Nat := (World.holding Tryz.prog default ⟨#[], #[], []⟩).heap.size
noncomputable def textS (d : DataW Unit) : ByteArray := match d with
  | .iface _ (.ptr (.agg [.lit (.string s)])) => ⟨s.toArray⟩
  | _ => ⟨#[]⟩
noncomputable def heap0 (os : Os) : Array Obj := (World.holding Tryz.prog os ⟨#[.cells #[.string (textS Rows.laid_strconv_ErrRange)] 333, .cells #[.string (textS Rows.laid_strconv_ErrSyntax)] 333], #[], []⟩).heap
noncomputable def laidWorld (os : Os) : World :=
  { World.holding Tryz.prog os ⟨#[.cells #[.string (textS Rows.laid_strconv_ErrRange)] 333, .cells #[.string (textS Rows.laid_strconv_ErrSyntax)] 333], #[], []⟩ with
    heap := (((((((heap0 os).modify 6 (layD Rows.laid_math_bits_deBruijn32tab)).modify 7 (layD Rows.laid_math_bits_deBruijn64tab)).modify 2 (layD Rows.laid_internal_strconv_uint64pow10)).modify 5 (layD Rows.laid_unicode_utf8_acceptRanges)).modify 1 (layE low)).modify 0 (layE (low + 1))).modify 4 (layD Rows.laid_unicode_utf8_first) }
theorem laid_met (os : Os) : laidMet Tryz.prog Rows.moveParsesUptoRow.laid ((laidWorld os).forCall (fun _ _ => 0) ⟨#[], #[.string ⟨#[]⟩], []⟩).memory :=
  laidMet_of_run3 8 (by kernel_rfl) (by kernel_rfl) (by kernel_rfl)
theorem reads (os : Os) {H : Type} (enc : TypeId × Value → H) : ∃ places, DataW.whole enc Tryz.prog ((laidWorld os).forCall (fun _ _ => 0) ⟨#[], #[.string ⟨#[]⟩], []⟩).memory Tryz.f5.params.toList Rows.moveParsesSpec.vars false #[.string ⟨#[]⟩].toList 8 = some ([.lit (.string [])], [], places) :=
  ⟨[], by kernel_rfl⟩

theorem lifted (os : Os) (started : os.Started) (H : Type) (enc : TypeId × Value → H) (F : Stop.Interp) :
    ReturnsInHanded {} Tryz.checked os 5 .any ((Rows.OpenSpec.upto Rows.moveParsesSpec).preRow enc Tryz.prog Tryz.f5 Rows.moveParsesUptoRow.domain false Rows.moveParsesUptoRow.laid) (((Rows.OpenSpec.upto Rows.moveParsesSpec).at F).post enc Tryz.prog Tryz.f5 false true false false) := by
  obtain ⟨places, hx⟩ := reads os enc
  refine returnsInHanded_of_row (C := Tryz.checked) (s := (Rows.OpenSpec.upto Rows.moveParsesSpec)) own started (by kernel_rfl) Tryz.func5
    (witness_row_at (enc := enc) (C := Tryz.checked) false (laidWorld os) #[.string ⟨#[]⟩] rfl (by kernel_rfl) (by kernel_rfl) (by kernel_rfl)
      (OpenSpec.preRow_of_cond 8 hx (by kernel_rfl) (fun k hk => by cases hk; kernel_rfl) (by kernel_rfl) (laid_met os))) ?_
  intro W base args ds gs before hval hW _ hc _ hL hs _
  exact contract H enc W base args ds gs before hval hW hL hs (hc _ rfl)
end Go.Proofs.YtehnpoeelhggeaaGreatDoor.fnMoveParses
namespace Go.Proofs.YtehnpoeelhggeaaGreatDoor.fnMoveParses
open Go.Abs Go.ChangeShapes Go.WideShapes Go.ChangeAt Go.RowKit
set_option maxRecDepth 100000
theorem said : Rows.MoveParsesUptoSaid :=
  OpenClaim.holds_of_cond 5 Tryz.f5 rfl rfl rfl rfl rfl rfl rfl ⟨rfl, rfl, rfl, rfl, rfl⟩ rfl rfl rfl rfl rfl (by kernel_rfl) Tryz.func5 closed
    (of_decide_eq_true (by kernel_rfl)) (by unfold Func.isWrapper; first | (rw [if_pos (by decide +kernel)]; kernel_rfl) | (rw [if_neg (by decide +kernel)]; exact ⟨rfl, rfl⟩))
    (fun os started H enc _ F => by rw [OpenClaim.pre_eq_preRow]; exact lifted os started H enc F)

theorem plain (f : FuncId) (fn : Func) (hf : Tryz.pinned.checked.prog.funcNamed Rows.moveParsesUptoRow.func = some f) (hfn : Tryz.pinned.checked.prog.funcs[f]? = some fn) :
    true = Tryz.pinned.checked.prog.looks [] ∧ ∀ (j : Nat) t, fn.params[j]? = some t → Tryz.pinned.checked.prog.wantsStandIn t = false := by
  obtain rfl : f = 5 := Option.some.inj ((show Tryz.prog.funcNamed Rows.moveParsesUptoRow.func = some 5 by kernel_rfl).symm.trans hf) |>.symm
  obtain rfl : fn = Tryz.f5 := (Option.some.inj (Tryz.func5.symm.trans hfn)).symm
  refine ⟨by kernel_rfl, fun j t ht => ?_⟩
  rw [Tryz.params5] at ht
  obtain rfl : t = 9 := by simpa using Array.mem_of_getElem? ht
  exact (show Tryz.prog.wantsStandIn 9 = false by kernel_rfl)

theorem wfText : Rows.moveParsesUptoRow.wfByText (Rows.OpenSpec.upto Rows.moveParsesSpec) = true := by kernel_rfl
theorem mainIs : Tryz.pinned.checked.prog.mainIs = some ((true, "a57addd531b0bb68bc131a816284d2293e4d9aa4d6666fda2b042ec11774166e").1, (true, "a57addd531b0bb68bc131a816284d2293e4d9aa4d6666fda2b042ec11774166e").2.toList) := by kernel_rfl
theorem card : Rows.MoveParsesUptoCardSaid :=
  Claim7.holds_tied_plain_at .later [] _ _ _ _ said (fun _ h => by cases h) wfText (fun _ h => by cases h) moveParsesUpto_row_tie rfl ⟨rfl, rfl⟩ mainIs rfl plain goes
end Go.Proofs.YtehnpoeelhggeaaGreatDoor.fnMoveParses
