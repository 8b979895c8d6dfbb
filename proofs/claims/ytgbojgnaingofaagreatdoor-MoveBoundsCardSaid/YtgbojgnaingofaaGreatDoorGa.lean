/-
  A closed fact of the card MoveBounds.
-/
import Derived.Test.YtgbojgnaingofaaGreatDoorCards
import Derived.KernelRfl
set_option linter.unusedSimpArgs false
set_option linter.unusedVariables false
set_option linter.unusedSectionVars false
namespace Go.Proofs.YtgbojgnaingofaaGreatDoor.fnMoveBounds
set_option maxRecDepth 100000
theorem goes : false = Rows.moveBoundsRow.goesBy Tryz.pinned.checked.prog := by kernel_rfl
end Go.Proofs.YtgbojgnaingofaaGreatDoor.fnMoveBounds
