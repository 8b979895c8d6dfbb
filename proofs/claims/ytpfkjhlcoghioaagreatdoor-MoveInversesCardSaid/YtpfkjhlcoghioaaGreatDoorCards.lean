/-
  DERIVED. GIVEN WITH THE SEED: THE CARDS: each row of YtpfkjhlcoghioaaGreatDoorRows.lean that lists a variable, with what it lists TIED to the program's text (the seventh form; the later family's looks); each row that meets fmt, with fmt's text TOLD by the authors' own Lean function (tested against real Go, not proved from fmt's source: count such statements apart). THE CARD IS WHAT COUNTS. Prove the row's statement (the work); the ties are given (YtpfkjhlcoghioaaGreatDoorTie.lean); close each card by the builder's one call (the guide's Derived/Test/ToyasCard.lean, 'card_holds'). Laid BY PROGRAM, IN A SANDBOX (cutbox-door.mjs). By AI agents, Wed Nov 11 2026. No macro, syntax, notation, axiom, sorry.
-/
import Derived.Test.YtpfkjhlcoghioaaGreatDoorRows
import GoSem.ClaimSeven
namespace Go.Proofs.YtpfkjhlcoghioaaGreatDoor
namespace Rows

/-- THE TIED CARD OF 'catscradlelaw03.MoveInverses'. -/
def moveInversesCard : Claim7 := { stood := { row := moveInversesRow, standIns := [], harness := (true, "11d9dcfc17feab031af38fbf95a01accfa7f8c532d272cdb162e5c12146a36c6"), looks := false }, kinds := [], alts := [], laidByText := true, laidKinds := [.data, .data, .data], laidTests := true, laidLooks := .later }
def MoveInversesCardSaid : Prop := Claim7.holds Tryz.pinned (.plain (OpenSpec.ofChange moveInversesSpec)) moveInversesCard

/-- THE SECOND FORM's CARD OF 'catscradlelaw03.MoveInverses'. -/
def moveInversesUptoCard : Claim7 := { stood := { row := moveInversesUptoRow, standIns := [], harness := (true, "11d9dcfc17feab031af38fbf95a01accfa7f8c532d272cdb162e5c12146a36c6"), looks := false }, kinds := [], alts := [], laidByText := true, laidKinds := [.data, .data, .data], laidTests := true, laidLooks := .later }
def MoveInversesUptoCardSaid : Prop := Claim7.holds Tryz.pinned (.plain (OpenSpec.upto moveInversesSpec)) moveInversesUptoCard
end Rows
end Go.Proofs.YtpfkjhlcoghioaaGreatDoor
