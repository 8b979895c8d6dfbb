/-
  DERIVED. GIVEN WITH THE SEED: THE CARDS: each row of YtdfaoeikkkfkoaaGreatDoorRows.lean that lists a variable, with what it lists TIED to the program's text (the seventh form; the later family's looks); each row that meets fmt, with fmt's text TOLD by the authors' own Lean function (tested against real Go, not proved from fmt's source: count such statements apart). THE CARD IS WHAT COUNTS. Prove the row's statement (the work); the ties are given (YtdfaoeikkkfkoaaGreatDoorTie.lean); close each card by the builder's one call (the guide's Derived/Test/ToyasCard.lean, 'card_holds'). Laid BY PROGRAM, IN A SANDBOX (cutbox-door.mjs). By AI agents, Wed Nov 11 2026. No macro, syntax, notation, axiom, sorry.
-/
import Derived.Test.YtdfaoeikkkfkoaaGreatDoorRows
import GoSem.ClaimSeven
namespace Go.Proofs.YtdfaoeikkkfkoaaGreatDoor
namespace Rows

/-- THE TIED CARD OF 'catscradlelaw03.MoveBares'. -/
def moveBaresCard : Claim7 := { stood := { row := moveBaresRow, standIns := [], harness := (true, "b1036e6b5b1d4b97773e3a04bc892497a941d1ed824ab24eaade18eb4558193c"), looks := false }, kinds := [], alts := [], laidByText := true, laidKinds := [.data, .data, .data], laidTests := true, laidLooks := .later }
def MoveBaresCardSaid : Prop := Claim7.holds Tryz.pinned (.plain (OpenSpec.ofChange moveBaresSpec)) moveBaresCard

/-- THE SECOND FORM's CARD OF 'catscradlelaw03.MoveBares'. -/
def moveBaresUptoCard : Claim7 := { stood := { row := moveBaresUptoRow, standIns := [], harness := (true, "b1036e6b5b1d4b97773e3a04bc892497a941d1ed824ab24eaade18eb4558193c"), looks := false }, kinds := [], alts := [], laidByText := true, laidKinds := [.data, .data, .data], laidTests := true, laidLooks := .later }
def MoveBaresUptoCardSaid : Prop := Claim7.holds Tryz.pinned (.plain (OpenSpec.upto moveBaresSpec)) moveBaresUptoCard
end Rows
end Go.Proofs.YtdfaoeikkkfkoaaGreatDoor
