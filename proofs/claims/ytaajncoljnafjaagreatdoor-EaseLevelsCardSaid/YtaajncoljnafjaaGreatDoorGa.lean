/-
  A closed fact of the card.
-/
import Derived.Test.YtaajncoljnafjaaGreatDoorCards
import Derived.KernelRfl
set_option linter.all false
set_option maxRecDepth 100000
namespace Go.Proofs.YtaajncoljnafjaaGreatDoor.fnEaseLevels
theorem goes : false = Rows.easeLevelsRow.goesBy Tryz.pinned.checked.prog := by kernel_rfl
end Go.Proofs.YtaajncoljnafjaaGreatDoor.fnEaseLevels
