/-
  A closed fact of the second card MoveParses.
-/
import Derived.Test.YtehnpoeelhggeaaGreatDoorCards
import Derived.KernelRfl
set_option linter.unusedSimpArgs false
set_option linter.unusedVariables false
set_option linter.unusedSectionVars false
namespace Go.Proofs.YtehnpoeelhggeaaGreatDoor.fnMoveParses
set_option maxRecDepth 100000
theorem goes : false = Rows.moveParsesUptoRow.goesBy Tryz.pinned.checked.prog := by kernel_rfl
end Go.Proofs.YtehnpoeelhggeaaGreatDoor.fnMoveParses
