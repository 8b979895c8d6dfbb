/-
  A closed fact of the card MoveErrors.
-/
import Derived.Test.YthlncajhlbgjbaaGreatDoorCards
import Derived.KernelRfl
set_option linter.unusedSimpArgs false
set_option linter.unusedVariables false
set_option linter.unusedSectionVars false
namespace Go.Proofs.YthlncajhlbgjbaaGreatDoor.fnMoveErrors
set_option maxRecDepth 100000
theorem goes : false = Rows.moveErrorsRow.goesBy Tryz.pinned.checked.prog := by kernel_rfl
end Go.Proofs.YthlncajhlbgjbaaGreatDoor.fnMoveErrors
