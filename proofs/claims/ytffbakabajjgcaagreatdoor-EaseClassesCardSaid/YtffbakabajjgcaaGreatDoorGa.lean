/-
  A closed fact of the card.
-/
import Derived.Test.YtffbakabajjgcaaGreatDoorCards
import Derived.KernelRfl
set_option linter.all false
set_option maxRecDepth 100000
namespace Go.Proofs.YtffbakabajjgcaaGreatDoor.fnEaseClasses
theorem goes : false = Rows.easeClassesRow.goesBy Tryz.pinned.checked.prog := by kernel_rfl
end Go.Proofs.YtffbakabajjgcaaGreatDoor.fnEaseClasses
