/-
  DERIVED. GIVEN WITH THE SEED: THE CARDS: each row of YtenindeoffokoaaGreatDoorRows.lean that lists a variable, with what it lists TIED to the program's text (the seventh form; the later family's looks); each row that meets fmt, with fmt's text TOLD by the authors' own Lean function (tested against real Go, not proved from fmt's source: count such statements apart). THE CARD IS WHAT COUNTS. Prove the row's statement (the work); the ties are given (YtenindeoffokoaaGreatDoorTie.lean); close each card by the builder's one call (the guide's Derived/Test/ToyasCard.lean, 'card_holds'). Laid BY PROGRAM, IN A SANDBOX (cutbox-door.mjs). By AI agents, Wed Nov 11 2026. No macro, syntax, notation, axiom, sorry.
-/
import Derived.Test.YtenindeoffokoaaGreatDoorRows
import GoSem.ClaimSeven
namespace Go.Proofs.YtenindeoffokoaaGreatDoor
namespace Rows

/-- THE TIED CARD OF 'catscradlelaw03.MoveSteps'. -/
def moveStepsCard : Claim7 := { stood := { row := moveStepsRow, standIns := [], harness := (true, "df743518983ddcc13985401e11abd997815f89b144807294dcba15a621e62b97"), looks := false }, kinds := [], alts := [], laidByText := true, laidKinds := [.data, .data, .data], laidTests := true, laidLooks := .later }
def MoveStepsCardSaid : Prop := Claim7.holds Tryz.pinned (.plain (OpenSpec.ofChange moveStepsSpec)) moveStepsCard

/-- THE SECOND FORM's CARD OF 'catscradlelaw03.MoveSteps'. -/
def moveStepsUptoCard : Claim7 := { stood := { row := moveStepsUptoRow, standIns := [], harness := (true, "df743518983ddcc13985401e11abd997815f89b144807294dcba15a621e62b97"), looks := false }, kinds := [], alts := [], laidByText := true, laidKinds := [.data, .data, .data], laidTests := true, laidLooks := .later }
def MoveStepsUptoCardSaid : Prop := Claim7.holds Tryz.pinned (.plain (OpenSpec.upto moveStepsSpec)) moveStepsUptoCard
end Rows
end Go.Proofs.YtenindeoffokoaaGreatDoor
