/-
  A closed fact of the card.
-/
import Derived.Test.YtnhlfpanllllgaaGreatDoorCards
import Derived.KernelRfl
set_option linter.all false
set_option maxRecDepth 100000
namespace Go.Proofs.YtnhlfpanllllgaaGreatDoor.fnEaseJoins
theorem goes : false = Rows.easeJoinsRow.goesBy Tryz.pinned.checked.prog := by kernel_rfl
end Go.Proofs.YtnhlfpanllllgaaGreatDoor.fnEaseJoins
