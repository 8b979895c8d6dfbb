/-
  DERIVED. GIVEN WITH THE SEED: THE CARDS: each row of YtgjjncbeombnbaaGreatDoorRows.lean that lists a variable, with what it lists TIED to the program's text (the seventh form; the later family's looks); each row that meets fmt, with fmt's text TOLD by the authors' own Lean function (tested against real Go, not proved from fmt's source: count such statements apart). THE CARD IS WHAT COUNTS. Prove the row's statement (the work); the ties are given (YtgjjncbeombnbaaGreatDoorTie.lean); close each card by the builder's one call (the guide's Derived/Test/ToyasCard.lean, 'card_holds'). Laid BY PROGRAM, IN A SANDBOX (cutbox-door.mjs). By AI agents, Wed Nov 11 2026. No macro, syntax, notation, axiom, sorry.
-/
import Derived.Test.YtgjjncbeombnbaaGreatDoorRows
import GoSem.ClaimSeven
namespace Go.Proofs.YtgjjncbeombnbaaGreatDoor
namespace Rows

/-- THE TIED CARD OF 'catscradlelaw03.MoveForgets'. -/
def moveForgetsCard : Claim7 := { stood := { row := moveForgetsRow, standIns := [], harness := (true, "a5ca0bdc786954c91b5c507795030f3f6ab589347acda54b55c3b95a1d0b1bae"), looks := false }, kinds := [], alts := [], laidByText := true, laidKinds := [.data, .data, .data], laidTests := true, laidLooks := .later }
def MoveForgetsCardSaid : Prop := Claim7.holds Tryz.pinned (.plain (OpenSpec.ofChange moveForgetsSpec)) moveForgetsCard

/-- THE SECOND FORM's CARD OF 'catscradlelaw03.MoveForgets'. -/
def moveForgetsUptoCard : Claim7 := { stood := { row := moveForgetsUptoRow, standIns := [], harness := (true, "a5ca0bdc786954c91b5c507795030f3f6ab589347acda54b55c3b95a1d0b1bae"), looks := false }, kinds := [], alts := [], laidByText := true, laidKinds := [.data, .data, .data], laidTests := true, laidLooks := .later }
def MoveForgetsUptoCardSaid : Prop := Claim7.holds Tryz.pinned (.plain (OpenSpec.upto moveForgetsSpec)) moveForgetsUptoCard
end Rows
end Go.Proofs.YtgjjncbeombnbaaGreatDoor
