/-
  A closed fact of the card.
-/
import Derived.Test.YtfhejdojdajpmaaGreatDoorCards
import Derived.KernelRfl
set_option linter.all false
set_option maxRecDepth 100000
namespace Go.Proofs.YtfhejdojdajpmaaGreatDoor.fnEaseReduces
theorem goes : false = Rows.easeReducesRow.goesBy Tryz.pinned.checked.prog := by kernel_rfl
end Go.Proofs.YtfhejdojdajpmaaGreatDoor.fnEaseReduces
