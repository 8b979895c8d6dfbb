/-
  DERIVED. GIVEN WITH THE SEED: THE CARDS: each row of YthlncajhlbgjbaaGreatDoorRows.lean that lists a variable, with what it lists TIED to the program's text (the seventh form; the later family's looks); each row that meets fmt, with fmt's text TOLD by the authors' own Lean function (tested against real Go, not proved from fmt's source: count such statements apart). THE CARD IS WHAT COUNTS. Prove the row's statement (the work); the ties are given (YthlncajhlbgjbaaGreatDoorTie.lean); close each card by the builder's one call (the guide's Derived/Test/ToyasCard.lean, 'card_holds'). Laid BY PROGRAM, IN A SANDBOX (cutbox-door.mjs). By AI agents, Wed Nov 11 2026. No macro, syntax, notation, axiom, sorry.
-/
import Derived.Test.YthlncajhlbgjbaaGreatDoorRows
import GoSem.ClaimSeven
namespace Go.Proofs.YthlncajhlbgjbaaGreatDoor
namespace Rows

/-- THE TIED CARD OF 'catscradlelaw03.MoveErrors'. -/
def moveErrorsCard : Claim7 := { stood := { row := moveErrorsRow, standIns := [], harness := (true, "57c52b6e0eadfa2f48a8e69537b69e9e4c042e59ae1151640bfd9aae9e3b45a2"), looks := false }, kinds := [], alts := [], laidByText := true, laidKinds := [.data, .data, .data], laidTests := true, laidLooks := .later }
def MoveErrorsCardSaid : Prop := Claim7.holds Tryz.pinned (.plain (OpenSpec.ofChange moveErrorsSpec)) moveErrorsCard

/-- THE SECOND FORM's CARD OF 'catscradlelaw03.MoveErrors'. -/
def moveErrorsUptoCard : Claim7 := { stood := { row := moveErrorsUptoRow, standIns := [], harness := (true, "57c52b6e0eadfa2f48a8e69537b69e9e4c042e59ae1151640bfd9aae9e3b45a2"), looks := false }, kinds := [], alts := [], laidByText := true, laidKinds := [.data, .data, .data], laidTests := true, laidLooks := .later }
def MoveErrorsUptoCardSaid : Prop := Claim7.holds Tryz.pinned (.plain (OpenSpec.upto moveErrorsSpec)) moveErrorsUptoCard
end Rows
end Go.Proofs.YthlncajhlbgjbaaGreatDoor
