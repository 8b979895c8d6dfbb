/-
  A closed fact of the card.
-/
import Derived.Test.YtfohniicngjeoaaGreatDoorCards
import Derived.KernelRfl
set_option linter.all false
set_option maxRecDepth 100000
namespace Go.Proofs.YtfohniicngjeoaaGreatDoor.fnEaseStarts
theorem goes : false = Rows.easeStartsRow.goesBy Tryz.pinned.checked.prog := by kernel_rfl
end Go.Proofs.YtfohniicngjeoaaGreatDoor.fnEaseStarts
