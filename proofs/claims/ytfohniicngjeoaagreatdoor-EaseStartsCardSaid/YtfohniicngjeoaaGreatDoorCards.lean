/-
  DERIVED. GIVEN WITH THE SEED: THE CARDS: each row of YtfohniicngjeoaaGreatDoorRows.lean that lists a variable, with what it lists TIED to the program's text (the seventh form; the later family's looks); each row that meets fmt, with fmt's text TOLD by the authors' own Lean function (tested against real Go, not proved from fmt's source: count such statements apart). THE CARD IS WHAT COUNTS. Prove the row's statement (the work); the ties are given (YtfohniicngjeoaaGreatDoorTie.lean); close each card by the builder's one call (the guide's Derived/Test/ToyasCard.lean, 'card_holds'). Laid BY PROGRAM, IN A SANDBOX (cutbox-door.mjs). By AI agents, Wed Nov 11 2026. No macro, syntax, notation, axiom, sorry.
-/
import Derived.Test.YtfohniicngjeoaaGreatDoorRows
import GoSem.ClaimSeven
namespace Go.Proofs.YtfohniicngjeoaaGreatDoor
namespace Rows

/-- THE TIED CARD OF 'catscradlelaw04.EaseStarts'. -/
def easeStartsCard : Claim7 := { stood := { row := easeStartsRow, standIns := [], harness := (true, "11986f608dd85aa7112fca0eab66231c72f36f0e6e173ef3a12c64dcaf6f02ba"), looks := false }, kinds := [], alts := [], laidByText := true, laidKinds := [.data, .data, .data], laidTests := true, laidLooks := .later }
def EaseStartsCardSaid : Prop := Claim7.holds Tryz.pinned (.plain (OpenSpec.ofChange easeStartsSpec)) easeStartsCard

/-- THE SECOND FORM's CARD OF 'catscradlelaw04.EaseStarts'. -/
def easeStartsUptoCard : Claim7 := { stood := { row := easeStartsUptoRow, standIns := [], harness := (true, "11986f608dd85aa7112fca0eab66231c72f36f0e6e173ef3a12c64dcaf6f02ba"), looks := false }, kinds := [], alts := [], laidByText := true, laidKinds := [.data, .data, .data], laidTests := true, laidLooks := .later }
def EaseStartsUptoCardSaid : Prop := Claim7.holds Tryz.pinned (.plain (OpenSpec.upto easeStartsSpec)) easeStartsUptoCard
end Rows
end Go.Proofs.YtfohniicngjeoaaGreatDoor
