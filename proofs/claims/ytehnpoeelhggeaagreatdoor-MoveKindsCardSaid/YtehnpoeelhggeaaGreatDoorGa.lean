/-
  A closed fact of the card MoveKinds.
-/
import Derived.Test.YtehnpoeelhggeaaGreatDoorCards
import Derived.KernelRfl
namespace Go.Proofs.YtehnpoeelhggeaaGreatDoor.fnMoveKinds
set_option maxRecDepth 100000
theorem goes : false = Rows.moveKindsRow.goesBy Tryz.pinned.checked.prog := by kernel_rfl
end Go.Proofs.YtehnpoeelhggeaaGreatDoor.fnMoveKinds
