/-
  DERIVED. GIVEN WITH THE SEED: THE CARDS: each row of YtgbojgnaingofaaGreatDoorRows.lean that lists a variable, with what it lists TIED to the program's text (the seventh form; the later family's looks); each row that meets fmt, with fmt's text TOLD by the authors' own Lean function (tested against real Go, not proved from fmt's source: count such statements apart). THE CARD IS WHAT COUNTS. Prove the row's statement (the work); the ties are given (YtgbojgnaingofaaGreatDoorTie.lean); close each card by the builder's one call (the guide's Derived/Test/ToyasCard.lean, 'card_holds'). Laid BY PROGRAM, IN A SANDBOX (cutbox-door.mjs). By AI agents, Wed Nov 11 2026. No macro, syntax, notation, axiom, sorry.
-/
import Derived.Test.YtgbojgnaingofaaGreatDoorRows
import GoSem.ClaimSeven
namespace Go.Proofs.YtgbojgnaingofaaGreatDoor
namespace Rows

/-- THE TIED CARD OF 'catscradlelaw03.MoveBounds'. -/
def moveBoundsCard : Claim7 := { stood := { row := moveBoundsRow, standIns := [], harness := (true, "a436d79c88b2f2f17e4440c78a7a989c132e0d6eb8d245d96cb6c17a3a285f53"), looks := false }, kinds := [], alts := [], laidByText := true, laidKinds := [.data, .data, .data], laidTests := true, laidLooks := .later }
def MoveBoundsCardSaid : Prop := Claim7.holds Tryz.pinned (.plain (OpenSpec.ofChange moveBoundsSpec)) moveBoundsCard

/-- THE TIED CARD OF 'catscradlelaw03.MoveBares'. -/
def moveBaresCard : Claim7 := { stood := { row := moveBaresRow, standIns := [], harness := (true, "a436d79c88b2f2f17e4440c78a7a989c132e0d6eb8d245d96cb6c17a3a285f53"), looks := false }, kinds := [], alts := [], laidByText := true, laidKinds := [.data, .data, .data], laidTests := true, laidLooks := .later }
def MoveBaresCardSaid : Prop := Claim7.holds Tryz.pinned (.plain (OpenSpec.ofChange moveBaresSpec)) moveBaresCard

/-- THE SECOND FORM's CARD OF 'catscradlelaw03.MoveBounds'. -/
def moveBoundsUptoCard : Claim7 := { stood := { row := moveBoundsUptoRow, standIns := [], harness := (true, "a436d79c88b2f2f17e4440c78a7a989c132e0d6eb8d245d96cb6c17a3a285f53"), looks := false }, kinds := [], alts := [], laidByText := true, laidKinds := [.data, .data, .data], laidTests := true, laidLooks := .later }
def MoveBoundsUptoCardSaid : Prop := Claim7.holds Tryz.pinned (.plain (OpenSpec.upto moveBoundsSpec)) moveBoundsUptoCard

/-- THE SECOND FORM's CARD OF 'catscradlelaw03.MoveBares'. -/
def moveBaresUptoCard : Claim7 := { stood := { row := moveBaresUptoRow, standIns := [], harness := (true, "a436d79c88b2f2f17e4440c78a7a989c132e0d6eb8d245d96cb6c17a3a285f53"), looks := false }, kinds := [], alts := [], laidByText := true, laidKinds := [.data, .data, .data], laidTests := true, laidLooks := .later }
def MoveBaresUptoCardSaid : Prop := Claim7.holds Tryz.pinned (.plain (OpenSpec.upto moveBaresSpec)) moveBaresUptoCard
end Rows
end Go.Proofs.YtgbojgnaingofaaGreatDoor
