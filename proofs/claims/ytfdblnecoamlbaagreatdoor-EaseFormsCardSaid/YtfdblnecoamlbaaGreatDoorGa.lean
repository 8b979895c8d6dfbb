/-
  A closed fact of the card.
-/
import Derived.Test.YtfdblnecoamlbaaGreatDoorCards
import Derived.KernelRfl
set_option linter.all false
set_option maxRecDepth 100000
namespace Go.Proofs.YtfdblnecoamlbaaGreatDoor.fnEaseForms
theorem goes : false = Rows.easeFormsRow.goesBy Tryz.pinned.checked.prog := by kernel_rfl
end Go.Proofs.YtfdblnecoamlbaaGreatDoor.fnEaseForms
