/-
  The closed facts of the row.
-/
import Derived.Test.YtgjjncbeombnbaaGreatDoorCards
import Derived.JoinedCond
import Derived.KernelRfl
set_option linter.all false
set_option maxRecDepth 100000
namespace Go.Proofs.YtgjjncbeombnbaaGreatDoor.fnMoveForgets
set_option maxHeartbeats 40000000 in
theorem closed : joinedFacts Tryz.pinned.checked.prog 3 Tryz.f3 Rows.moveForgetsSpec Rows.moveForgetsRow = true := by
  unfold joinedFacts;simp only [Bool.and_eq_true];repeat' apply And.intro
  all_goals (as_aux_lemma => kernel_rfl)
end Go.Proofs.YtgjjncbeombnbaaGreatDoor.fnMoveForgets
