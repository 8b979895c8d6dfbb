/-
  The closed facts of the row.
-/
import Derived.Test.YtnhlfpanllllgaaGreatDoorCards
import Derived.JoinedCond
import Derived.KernelRfl
set_option linter.all false
set_option maxRecDepth 100000
namespace Go.Proofs.YtnhlfpanllllgaaGreatDoor.fnEaseJoins
set_option maxHeartbeats 40000000 in
theorem closed : joinedFacts Tryz.pinned.checked.prog 5 Tryz.f5 Rows.easeJoinsSpec Rows.easeJoinsRow = true := by
  unfold joinedFacts;simp only [Bool.and_eq_true];repeat' apply And.intro
  all_goals (as_aux_lemma => kernel_rfl)
end Go.Proofs.YtnhlfpanllllgaaGreatDoor.fnEaseJoins
