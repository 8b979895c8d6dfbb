/-
  A closed fact of the card.
-/
import Derived.Test.YtpfkjhlcoghioaaGreatDoorCards
import Derived.KernelRfl
set_option linter.all false
set_option maxRecDepth 100000
namespace Go.Proofs.YtpfkjhlcoghioaaGreatDoor.fnMoveInverses
theorem goes : false = Rows.moveInversesRow.goesBy Tryz.pinned.checked.prog := by kernel_rfl
end Go.Proofs.YtpfkjhlcoghioaaGreatDoor.fnMoveInverses
