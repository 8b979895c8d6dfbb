/-
  A closed fact of the card.
-/
import Derived.Test.YtfgognempokgkaaGreatDoorCards
import Derived.KernelRfl
set_option linter.all false
set_option maxRecDepth 100000
namespace Go.Proofs.YtfgognempokgkaaGreatDoor.fnMoveCounts
theorem goes : false = Rows.moveCountsRow.goesBy Tryz.pinned.checked.prog := by kernel_rfl
end Go.Proofs.YtfgognempokgkaaGreatDoor.fnMoveCounts
