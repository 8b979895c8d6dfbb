/-
  A closed fact of the card MoveKinds.
-/
import Derived.Test.YtehnpoeelhggeaaGreatDoorCards
import Derived.KernelRfl
set_option linter.unusedSimpArgs false
set_option linter.unusedVariables false
set_option linter.unusedSectionVars false
namespace Go.Proofs.YtehnpoeelhggeaaGreatDoor.fnMoveKinds
set_option maxRecDepth 100000
theorem goes : false = Rows.moveKindsRow.goesBy Tryz.pinned.checked.prog := by kernel_rfl
end Go.Proofs.YtehnpoeelhggeaaGreatDoor.fnMoveKinds
