/-
  DERIVED. GIVEN WITH THE SEED: THE CARDS: each row of YtkdkhndppjfpmaaGreatDoorRows.lean that lists a variable, with what it lists TIED to the program's text (the seventh form; the later family's looks); each row that meets fmt, with fmt's text TOLD by the authors' own Lean function (tested against real Go, not proved from fmt's source: count such statements apart). THE CARD IS WHAT COUNTS. Prove the row's statement (the work); the ties are given (YtkdkhndppjfpmaaGreatDoorTie.lean); close each card by the builder's one call (the guide's Derived/Test/ToyasCard.lean, 'card_holds'). Laid BY PROGRAM, IN A SANDBOX (cutbox-door.mjs). By AI agents, Wed Nov 11 2026. No macro, syntax, notation, axiom, sorry.
-/
import Derived.Test.YtkdkhndppjfpmaaGreatDoorRows
import GoSem.ClaimSeven
namespace Go.Proofs.YtkdkhndppjfpmaaGreatDoor
namespace Rows

/-- THE TIED CARD OF 'catscradlelaw04.EaseChecks'. -/
def easeChecksCard : Claim7 := { stood := { row := easeChecksRow, standIns := [], harness := (true, "1638891dc747ebd373b2c9264a470f23388753112e7da43dc20cffe88679e4c7"), looks := false }, kinds := [], alts := [], laidByText := true, laidKinds := [.data, .data, .data], laidTests := true, laidLooks := .later }
def EaseChecksCardSaid : Prop := Claim7.holds Tryz.pinned (.plain (OpenSpec.ofChange easeChecksSpec)) easeChecksCard

/-- THE SECOND FORM's CARD OF 'catscradlelaw04.EaseChecks'. -/
def easeChecksUptoCard : Claim7 := { stood := { row := easeChecksUptoRow, standIns := [], harness := (true, "1638891dc747ebd373b2c9264a470f23388753112e7da43dc20cffe88679e4c7"), looks := false }, kinds := [], alts := [], laidByText := true, laidKinds := [.data, .data, .data], laidTests := true, laidLooks := .later }
def EaseChecksUptoCardSaid : Prop := Claim7.holds Tryz.pinned (.plain (OpenSpec.upto easeChecksSpec)) easeChecksUptoCard
end Rows
end Go.Proofs.YtkdkhndppjfpmaaGreatDoor
