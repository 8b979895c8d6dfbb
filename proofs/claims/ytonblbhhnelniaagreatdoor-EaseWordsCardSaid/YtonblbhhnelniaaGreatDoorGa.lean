/-
  A closed fact of the card.
-/
import Derived.Test.YtonblbhhnelniaaGreatDoorCards
import Derived.KernelRfl
set_option linter.all false
set_option maxRecDepth 100000
namespace Go.Proofs.YtonblbhhnelniaaGreatDoor.fnEaseWords
theorem goes : false = Rows.easeWordsRow.goesBy Tryz.pinned.checked.prog := by kernel_rfl
end Go.Proofs.YtonblbhhnelniaaGreatDoor.fnEaseWords
