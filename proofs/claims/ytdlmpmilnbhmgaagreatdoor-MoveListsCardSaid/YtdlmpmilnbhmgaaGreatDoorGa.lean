/-
  A closed fact of the card.
-/
import Derived.Test.YtdlmpmilnbhmgaaGreatDoorCards
import Derived.KernelRfl
set_option linter.all false
set_option maxRecDepth 100000
namespace Go.Proofs.YtdlmpmilnbhmgaaGreatDoor.fnMoveLists
theorem goes : false = Rows.moveListsRow.goesBy Tryz.pinned.checked.prog := by kernel_rfl
end Go.Proofs.YtdlmpmilnbhmgaaGreatDoor.fnMoveLists
