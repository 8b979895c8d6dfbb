/-
  DERIVED. GIVEN WITH THE SEED: THE CARDS: each row of YthcnadmehopfcaaGreatDoorRows.lean that lists a variable, with what it lists TIED to the program's text (the seventh form; the later family's looks); each row that meets fmt, with fmt's text TOLD by the authors' own Lean function (tested against real Go, not proved from fmt's source: count such statements apart). THE CARD IS WHAT COUNTS. Prove the row's statement (the work); the ties are given (YthcnadmehopfcaaGreatDoorTie.lean); close each card by the builder's one call (the guide's Derived/Test/ToyasCard.lean, 'card_holds'). Laid BY PROGRAM, IN A SANDBOX (cutbox-door.mjs). By AI agents, Wed Nov 11 2026. No macro, syntax, notation, axiom, sorry.
-/
import Derived.Test.YthcnadmehopfcaaGreatDoorRows
import GoSem.ClaimSeven
namespace Go.Proofs.YthcnadmehopfcaaGreatDoor
namespace Rows

/-- THE TIED CARD OF 'catscradlelaw04.EasePlain'. -/
def easePlainCard : Claim7 := { stood := { row := easePlainRow, standIns := [], harness := (true, "da6fdfbae7ee9849d3dbec0db624e0e4ea3537890a4708472734601bade463ae"), looks := false }, kinds := [], alts := [], laidByText := true, laidKinds := [.data, .data, .data], laidTests := true, laidLooks := .later }
def EasePlainCardSaid : Prop := Claim7.holds Tryz.pinned (.plain (OpenSpec.ofChange easePlainSpec)) easePlainCard

/-- THE SECOND FORM's CARD OF 'catscradlelaw04.EasePlain'. -/
def easePlainUptoCard : Claim7 := { stood := { row := easePlainUptoRow, standIns := [], harness := (true, "da6fdfbae7ee9849d3dbec0db624e0e4ea3537890a4708472734601bade463ae"), looks := false }, kinds := [], alts := [], laidByText := true, laidKinds := [.data, .data, .data], laidTests := true, laidLooks := .later }
def EasePlainUptoCardSaid : Prop := Claim7.holds Tryz.pinned (.plain (OpenSpec.upto easePlainSpec)) easePlainUptoCard
end Rows
end Go.Proofs.YthcnadmehopfcaaGreatDoor
