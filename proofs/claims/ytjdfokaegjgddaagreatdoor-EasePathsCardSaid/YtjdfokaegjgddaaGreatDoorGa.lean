/-
  A closed fact of the card.
-/
import Derived.Test.YtjdfokaegjgddaaGreatDoorCards
import Derived.KernelRfl
set_option linter.all false
set_option maxRecDepth 100000
namespace Go.Proofs.YtjdfokaegjgddaaGreatDoor.fnEasePaths
theorem goes : false = Rows.easePathsRow.goesBy Tryz.pinned.checked.prog := by kernel_rfl
end Go.Proofs.YtjdfokaegjgddaaGreatDoor.fnEasePaths
