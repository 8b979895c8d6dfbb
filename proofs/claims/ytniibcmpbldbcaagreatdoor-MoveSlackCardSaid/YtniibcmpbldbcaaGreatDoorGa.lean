/-
  A closed fact of the card.
-/
import Derived.Test.YtniibcmpbldbcaaGreatDoorCards
import Derived.KernelRfl
set_option linter.all false
set_option maxRecDepth 100000
namespace Go.Proofs.YtniibcmpbldbcaaGreatDoor.fnMoveSlack
theorem goes : false = Rows.moveSlackRow.goesBy Tryz.pinned.checked.prog := by kernel_rfl
end Go.Proofs.YtniibcmpbldbcaaGreatDoor.fnMoveSlack
