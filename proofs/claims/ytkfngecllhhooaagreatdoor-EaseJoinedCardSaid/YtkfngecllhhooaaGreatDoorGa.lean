/-
  A closed fact of the card.
-/
import Derived.Test.YtkfngecllhhooaaGreatDoorCards
import Derived.KernelRfl
set_option linter.all false
set_option maxRecDepth 100000
namespace Go.Proofs.YtkfngecllhhooaaGreatDoor.fnEaseJoined
theorem goes : false = Rows.easeJoinedRow.goesBy Tryz.pinned.checked.prog := by kernel_rfl
end Go.Proofs.YtkfngecllhhooaaGreatDoor.fnEaseJoined
