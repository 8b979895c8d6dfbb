/-
  A closed fact of the card.
-/
import Derived.Test.YtchbcakfkniimaaGreatDoorCards
import Derived.KernelRfl
set_option linter.unusedSimpArgs false
set_option linter.unusedVariables false
set_option linter.unusedSectionVars false
set_option maxRecDepth 100000
namespace Go.Proofs.YtchbcakfkniimaaGreatDoor.fnEaseChains
theorem goes : false = Rows.easeChainsRow.goesBy Tryz.pinned.checked.prog := by kernel_rfl
end Go.Proofs.YtchbcakfkniimaaGreatDoor.fnEaseChains
