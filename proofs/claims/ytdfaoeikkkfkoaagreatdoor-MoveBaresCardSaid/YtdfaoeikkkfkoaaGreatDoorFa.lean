/-
  The closed facts of the row MoveBares.
-/
import Derived.Test.YtdfaoeikkkfkoaaGreatDoorCards
import Derived.JoinedCond
import Derived.KernelRfl
set_option linter.unusedSimpArgs false
set_option linter.unusedVariables false
set_option linter.unusedSectionVars false
namespace Go.Proofs.YtdfaoeikkkfkoaaGreatDoor.fnMoveBares
set_option maxRecDepth 100000
set_option maxHeartbeats 40000000 in
theorem closed : joinedFacts Tryz.pinned.checked.prog 3 Tryz.f3 Rows.moveBaresSpec Rows.moveBaresRow = true := by
  unfold joinedFacts
  simp only [Bool.and_eq_true]
  repeat' apply And.intro
  all_goals (as_aux_lemma => kernel_rfl)
end Go.Proofs.YtdfaoeikkkfkoaaGreatDoor.fnMoveBares
