/-
  A closed fact of the card.
-/
import Derived.Test.YtkdkhndppjfpmaaGreatDoorCards
import Derived.KernelRfl
set_option linter.all false
set_option maxRecDepth 100000
namespace Go.Proofs.YtkdkhndppjfpmaaGreatDoor.fnEaseChecks
theorem goes : false = Rows.easeChecksRow.goesBy Tryz.pinned.checked.prog := by kernel_rfl
end Go.Proofs.YtkdkhndppjfpmaaGreatDoor.fnEaseChecks
