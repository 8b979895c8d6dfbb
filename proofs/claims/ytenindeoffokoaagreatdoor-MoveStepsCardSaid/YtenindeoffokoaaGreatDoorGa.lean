/-
  A closed fact of the card.
-/
import Derived.Test.YtenindeoffokoaaGreatDoorCards
import Derived.KernelRfl
set_option linter.all false
set_option maxRecDepth 100000
namespace Go.Proofs.YtenindeoffokoaaGreatDoor.fnMoveSteps
theorem goes : false = Rows.moveStepsRow.goesBy Tryz.pinned.checked.prog := by kernel_rfl
end Go.Proofs.YtenindeoffokoaaGreatDoor.fnMoveSteps
