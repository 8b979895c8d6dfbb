/-
  The closed facts of the row EaseLeast.
-/
import Derived.Test.YtehnpoeelhggeaaGreatDoorCards
import Derived.JoinedCond
import Derived.KernelRfl
set_option linter.unusedSimpArgs false
set_option linter.unusedVariables false
set_option linter.unusedSectionVars false
namespace Go.Proofs.YtehnpoeelhggeaaGreatDoor.fnEaseLeast
set_option maxRecDepth 100000
set_option maxHeartbeats 40000000 in
theorem closed : joinedFacts Tryz.pinned.checked.prog 7 Tryz.f7 Rows.easeLeastSpec Rows.easeLeastRow = true := by
  unfold joinedFacts
  simp only [Bool.and_eq_true]
  repeat' apply And.intro
  all_goals (as_aux_lemma => kernel_rfl)
end Go.Proofs.YtehnpoeelhggeaaGreatDoor.fnEaseLeast
