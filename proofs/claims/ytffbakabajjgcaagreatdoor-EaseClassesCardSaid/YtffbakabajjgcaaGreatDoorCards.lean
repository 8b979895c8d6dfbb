/-
  DERIVED. GIVEN WITH THE SEED: THE CARDS: each row of YtffbakabajjgcaaGreatDoorRows.lean that lists a variable, with what it lists TIED to the program's text (the seventh form; the later family's looks); each row that meets fmt, with fmt's text TOLD by the authors' own Lean function (tested against real Go, not proved from fmt's source: count such statements apart). THE CARD IS WHAT COUNTS. Prove the row's statement (the work); the ties are given (YtffbakabajjgcaaGreatDoorTie.lean); close each card by the builder's one call (the guide's Derived/Test/ToyasCard.lean, 'card_holds'). Laid BY PROGRAM, IN A SANDBOX (cutbox-door.mjs). By AI agents, Wed Nov 11 2026. No macro, syntax, notation, axiom, sorry.
-/
import Derived.Test.YtffbakabajjgcaaGreatDoorRows
import GoSem.ClaimSeven
namespace Go.Proofs.YtffbakabajjgcaaGreatDoor
namespace Rows

/-- THE TIED CARD OF 'catscradlelaw04.EaseClasses'. -/
def easeClassesCard : Claim7 := { stood := { row := easeClassesRow, standIns := [], harness := (true, "79dfb077fb678fb48dcec61b3beebcfcba1452cf5f8d7e946d90b432d3c00249"), looks := false }, kinds := [], alts := [], laidByText := true, laidKinds := [.data, .data, .data], laidTests := true, laidLooks := .later }
def EaseClassesCardSaid : Prop := Claim7.holds Tryz.pinned (.plain (OpenSpec.ofChange easeClassesSpec)) easeClassesCard

/-- THE SECOND FORM's CARD OF 'catscradlelaw04.EaseClasses'. -/
def easeClassesUptoCard : Claim7 := { stood := { row := easeClassesUptoRow, standIns := [], harness := (true, "79dfb077fb678fb48dcec61b3beebcfcba1452cf5f8d7e946d90b432d3c00249"), looks := false }, kinds := [], alts := [], laidByText := true, laidKinds := [.data, .data, .data], laidTests := true, laidLooks := .later }
def EaseClassesUptoCardSaid : Prop := Claim7.holds Tryz.pinned (.plain (OpenSpec.upto easeClassesSpec)) easeClassesUptoCard
end Rows
end Go.Proofs.YtffbakabajjgcaaGreatDoor
