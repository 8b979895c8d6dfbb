/-
  A closed fact of the card.
-/
import Derived.Test.YthcnadmehopfcaaGreatDoorCards
import Derived.KernelRfl
set_option linter.all false
set_option maxRecDepth 100000
namespace Go.Proofs.YthcnadmehopfcaaGreatDoor.fnEasePlain
theorem goes : false = Rows.easePlainRow.goesBy Tryz.pinned.checked.prog := by kernel_rfl
end Go.Proofs.YthcnadmehopfcaaGreatDoor.fnEasePlain
