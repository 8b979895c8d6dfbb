/-
  The closed facts of the row MoveParses, second form.
-/
import Derived.Test.YtehnpoeelhggeaaGreatDoorCards
import Derived.JoinedCond
import Derived.KernelRfl
set_option linter.unusedSimpArgs false
set_option linter.unusedVariables false
set_option linter.unusedSectionVars false
namespace Go.Proofs.YtehnpoeelhggeaaGreatDoor.fnMoveParses
set_option maxRecDepth 100000
set_option maxHeartbeats 40000000 in
theorem closed : joinedFacts Tryz.pinned.checked.prog 5 Tryz.f5 Rows.moveParsesSpec Rows.moveParsesUptoRow = true := by
  unfold joinedFacts
  simp only [Bool.and_eq_true]
  repeat' apply And.intro
  all_goals (as_aux_lemma => kernel_rfl)
end Go.Proofs.YtehnpoeelhggeaaGreatDoor.fnMoveParses
