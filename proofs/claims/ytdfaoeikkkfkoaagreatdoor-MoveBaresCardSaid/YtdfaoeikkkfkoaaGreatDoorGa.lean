/-
  A closed fact of the card MoveBares.
-/
import Derived.Test.YtdfaoeikkkfkoaaGreatDoorCards
import Derived.KernelRfl
set_option linter.unusedSimpArgs false
set_option linter.unusedVariables false
set_option linter.unusedSectionVars false
namespace Go.Proofs.YtdfaoeikkkfkoaaGreatDoor.fnMoveBares
set_option maxRecDepth 100000
theorem goes : false = Rows.moveBaresRow.goesBy Tryz.pinned.checked.prog := by kernel_rfl
end Go.Proofs.YtdfaoeikkkfkoaaGreatDoor.fnMoveBares
