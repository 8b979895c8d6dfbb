/-
  DERIVED. GIVEN WITH THE SEED: THE CARDS: each row of YtniibcmpbldbcaaGreatDoorRows.lean that lists a variable, with what it lists TIED to the program's text (the seventh form; the later family's looks); each row that meets fmt, with fmt's text TOLD by the authors' own Lean function (tested against real Go, not proved from fmt's source: count such statements apart). THE CARD IS WHAT COUNTS. Prove the row's statement (the work); the ties are given (YtniibcmpbldbcaaGreatDoorTie.lean); close each card by the builder's one call (the guide's Derived/Test/ToyasCard.lean, 'card_holds'). Laid BY PROGRAM, IN A SANDBOX (cutbox-door.mjs). By AI agents, Wed Nov 11 2026. No macro, syntax, notation, axiom, sorry.
-/
import Derived.Test.YtniibcmpbldbcaaGreatDoorRows
import GoSem.ClaimSeven
namespace Go.Proofs.YtniibcmpbldbcaaGreatDoor
namespace Rows

/-- THE TIED CARD OF 'catscradlelaw03.MoveSlack'. -/
def moveSlackCard : Claim7 := { stood := { row := moveSlackRow, standIns := [], harness := (true, "19703a7ebabdb869e4ac2c0be19380dfdf553b2f40072ac634fddb6e65106d09"), looks := false }, kinds := [], alts := [], laidByText := true, laidKinds := [.data, .data, .data], laidTests := true, laidLooks := .later }
def MoveSlackCardSaid : Prop := Claim7.holds Tryz.pinned (.plain (OpenSpec.ofChange moveSlackSpec)) moveSlackCard

/-- THE SECOND FORM's CARD OF 'catscradlelaw03.MoveSlack'. -/
def moveSlackUptoCard : Claim7 := { stood := { row := moveSlackUptoRow, standIns := [], harness := (true, "19703a7ebabdb869e4ac2c0be19380dfdf553b2f40072ac634fddb6e65106d09"), looks := false }, kinds := [], alts := [], laidByText := true, laidKinds := [.data, .data, .data], laidTests := true, laidLooks := .later }
def MoveSlackUptoCardSaid : Prop := Claim7.holds Tryz.pinned (.plain (OpenSpec.upto moveSlackSpec)) moveSlackUptoCard
end Rows
end Go.Proofs.YtniibcmpbldbcaaGreatDoor
