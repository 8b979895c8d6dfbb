/-
  DERIVED. GIVEN WITH THE SEED: THE CARDS: each row of YtkfngecllhhooaaGreatDoorRows.lean that lists a variable, with what it lists TIED to the program's text (the seventh form; the later family's looks); each row that meets fmt, with fmt's text TOLD by the authors' own Lean function (tested against real Go, not proved from fmt's source: count such statements apart). THE CARD IS WHAT COUNTS. Prove the row's statement (the work); the ties are given (YtkfngecllhhooaaGreatDoorTie.lean); close each card by the builder's one call (the guide's Derived/Test/ToyasCard.lean, 'card_holds'). Laid BY PROGRAM, IN A SANDBOX (cutbox-door.mjs). By AI agents, Wed Nov 11 2026. No macro, syntax, notation, axiom, sorry.
-/
import Derived.Test.YtkfngecllhhooaaGreatDoorRows
import GoSem.ClaimSeven
namespace Go.Proofs.YtkfngecllhhooaaGreatDoor
namespace Rows

/-- THE TIED CARD OF 'catscradlelaw04.EaseJoined'. -/
def easeJoinedCard : Claim7 := { stood := { row := easeJoinedRow, standIns := [], harness := (true, "674307f3272d45b9033bc1b65d434530ba5253da3580eb8a838e204796caa492"), looks := false }, kinds := [], alts := [], laidByText := true, laidKinds := [.data, .data, .data], laidTests := true, laidLooks := .later }
def EaseJoinedCardSaid : Prop := Claim7.holds Tryz.pinned (.plain (OpenSpec.ofChange easeJoinedSpec)) easeJoinedCard

/-- THE SECOND FORM's CARD OF 'catscradlelaw04.EaseJoined'. -/
def easeJoinedUptoCard : Claim7 := { stood := { row := easeJoinedUptoRow, standIns := [], harness := (true, "674307f3272d45b9033bc1b65d434530ba5253da3580eb8a838e204796caa492"), looks := false }, kinds := [], alts := [], laidByText := true, laidKinds := [.data, .data, .data], laidTests := true, laidLooks := .later }
def EaseJoinedUptoCardSaid : Prop := Claim7.holds Tryz.pinned (.plain (OpenSpec.upto easeJoinedSpec)) easeJoinedUptoCard
end Rows
end Go.Proofs.YtkfngecllhhooaaGreatDoor
