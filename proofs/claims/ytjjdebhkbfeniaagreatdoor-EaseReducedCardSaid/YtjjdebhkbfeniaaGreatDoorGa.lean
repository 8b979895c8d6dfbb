/-
  A closed fact of the card.
-/
import Derived.Test.YtjjdebhkbfeniaaGreatDoorCards
import Derived.KernelRfl
set_option linter.unusedSimpArgs false
set_option linter.unusedVariables false
set_option linter.unusedSectionVars false
set_option maxRecDepth 100000
namespace Go.Proofs.YtjjdebhkbfeniaaGreatDoor.fnEaseReduced
theorem goes : false = Rows.easeReducedRow.goesBy Tryz.pinned.checked.prog := by kernel_rfl
end Go.Proofs.YtjjdebhkbfeniaaGreatDoor.fnEaseReduced
