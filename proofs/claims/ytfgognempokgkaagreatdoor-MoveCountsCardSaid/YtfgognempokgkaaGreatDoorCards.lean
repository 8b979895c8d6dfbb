/-
  DERIVED. GIVEN WITH THE SEED: THE CARDS: each row of YtfgognempokgkaaGreatDoorRows.lean that lists a variable, with what it lists TIED to the program's text (the seventh form; the later family's looks); each row that meets fmt, with fmt's text TOLD by the authors' own Lean function (tested against real Go, not proved from fmt's source: count such statements apart). THE CARD IS WHAT COUNTS. Prove the row's statement (the work); the ties are given (YtfgognempokgkaaGreatDoorTie.lean); close each card by the builder's one call (the guide's Derived/Test/ToyasCard.lean, 'card_holds'). Laid BY PROGRAM, IN A SANDBOX (cutbox-door.mjs). By AI agents, Wed Nov 11 2026. No macro, syntax, notation, axiom, sorry.
-/
import Derived.Test.YtfgognempokgkaaGreatDoorRows
import GoSem.ClaimSeven
namespace Go.Proofs.YtfgognempokgkaaGreatDoor
namespace Rows

/-- THE TIED CARD OF 'catscradlelaw03.MoveCounts'. -/
def moveCountsCard : Claim7 := { stood := { row := moveCountsRow, standIns := [], harness := (true, "7fbc0cd3d29b6dd0c1efce6f3aa78c76a715d78e9df757199231b590063ad84f"), looks := false }, kinds := [], alts := [], laidByText := true, laidKinds := [.data, .data, .data], laidTests := true, laidLooks := .later }
def MoveCountsCardSaid : Prop := Claim7.holds Tryz.pinned (.plain (OpenSpec.ofChange moveCountsSpec)) moveCountsCard

/-- THE SECOND FORM's CARD OF 'catscradlelaw03.MoveCounts'. -/
def moveCountsUptoCard : Claim7 := { stood := { row := moveCountsUptoRow, standIns := [], harness := (true, "7fbc0cd3d29b6dd0c1efce6f3aa78c76a715d78e9df757199231b590063ad84f"), looks := false }, kinds := [], alts := [], laidByText := true, laidKinds := [.data, .data, .data], laidTests := true, laidLooks := .later }
def MoveCountsUptoCardSaid : Prop := Claim7.holds Tryz.pinned (.plain (OpenSpec.upto moveCountsSpec)) moveCountsUptoCard
end Rows
end Go.Proofs.YtfgognempokgkaaGreatDoor
