/-
  DERIVED. GIVEN WITH THE SEED: THE CARDS: each row of YtdlmpmilnbhmgaaGreatDoorRows.lean that lists a variable, with what it lists TIED to the program's text (the seventh form; the later family's looks); each row that meets fmt, with fmt's text TOLD by the authors' own Lean function (tested against real Go, not proved from fmt's source: count such statements apart). THE CARD IS WHAT COUNTS. Prove the row's statement (the work); the ties are given (YtdlmpmilnbhmgaaGreatDoorTie.lean); close each card by the builder's one call (the guide's Derived/Test/ToyasCard.lean, 'card_holds'). Laid BY PROGRAM, IN A SANDBOX (cutbox-door.mjs). By AI agents, Wed Nov 11 2026. No macro, syntax, notation, axiom, sorry.
-/
import Derived.Test.YtdlmpmilnbhmgaaGreatDoorRows
import GoSem.ClaimSeven
namespace Go.Proofs.YtdlmpmilnbhmgaaGreatDoor
namespace Rows

/-- THE TIED CARD OF 'catscradlelaw03.MoveLists'. -/
def moveListsCard : Claim7 := { stood := { row := moveListsRow, standIns := [], harness := (true, "845c111087a0528a9847e7e88ff24ba241a218aaa94c6d28bb378e5b3696549a"), looks := false }, kinds := [], alts := [], laidByText := true, laidKinds := [.data, .data, .data], laidTests := true, laidLooks := .later }
def MoveListsCardSaid : Prop := Claim7.holds Tryz.pinned (.plain (OpenSpec.ofChange moveListsSpec)) moveListsCard

/-- THE SECOND FORM's CARD OF 'catscradlelaw03.MoveLists'. -/
def moveListsUptoCard : Claim7 := { stood := { row := moveListsUptoRow, standIns := [], harness := (true, "845c111087a0528a9847e7e88ff24ba241a218aaa94c6d28bb378e5b3696549a"), looks := false }, kinds := [], alts := [], laidByText := true, laidKinds := [.data, .data, .data], laidTests := true, laidLooks := .later }
def MoveListsUptoCardSaid : Prop := Claim7.holds Tryz.pinned (.plain (OpenSpec.upto moveListsSpec)) moveListsUptoCard
end Rows
end Go.Proofs.YtdlmpmilnbhmgaaGreatDoor
