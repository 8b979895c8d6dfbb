/-
  A closed fact of the card.
-/
import Derived.Test.YtanhekelecofdaaGreatDoorCards
import Derived.KernelRfl
set_option linter.all false
set_option maxRecDepth 100000
namespace Go.Proofs.YtanhekelecofdaaGreatDoor.fnEaseClassed
theorem goes : false = Rows.easeClassedRow.goesBy Tryz.pinned.checked.prog := by kernel_rfl
end Go.Proofs.YtanhekelecofdaaGreatDoor.fnEaseClassed
