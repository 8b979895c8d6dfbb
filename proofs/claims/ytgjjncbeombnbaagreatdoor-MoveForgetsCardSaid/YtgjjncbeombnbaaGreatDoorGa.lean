/-
  A closed fact of the card.
-/
import Derived.Test.YtgjjncbeombnbaaGreatDoorCards
import Derived.KernelRfl
set_option linter.all false
set_option maxRecDepth 100000
namespace Go.Proofs.YtgjjncbeombnbaaGreatDoor.fnMoveForgets
theorem goes : false = Rows.moveForgetsRow.goesBy Tryz.pinned.checked.prog := by kernel_rfl
end Go.Proofs.YtgjjncbeombnbaaGreatDoor.fnMoveForgets
