/-
  The closed facts of the row.
-/
import Derived.Test.YtpfkjhlcoghioaaGreatDoorCards
import Derived.JoinedCond
import Derived.KernelRfl
set_option linter.all false
set_option maxRecDepth 100000
namespace Go.Proofs.YtpfkjhlcoghioaaGreatDoor.fnMoveInverses
set_option maxHeartbeats 40000000 in
theorem closed : joinedFacts Tryz.pinned.checked.prog 3 Tryz.f3 Rows.moveInversesSpec Rows.moveInversesRow = true := by
  unfold joinedFacts;simp only [Bool.and_eq_true];repeat' apply And.intro
  all_goals (as_aux_lemma => kernel_rfl)
end Go.Proofs.YtpfkjhlcoghioaaGreatDoor.fnMoveInverses
