/-
  DERIVED. GIVEN WITH THE SEED: THE CARDS: each row of YtanhekelecofdaaGreatDoorRows.lean that lists a variable, with what it lists TIED to the program's text (the seventh form; the later family's looks); each row that meets fmt, with fmt's text TOLD by the authors' own Lean function (tested against real Go, not proved from fmt's source: count such statements apart). THE CARD IS WHAT COUNTS. Prove the row's statement (the work); the ties are given (YtanhekelecofdaaGreatDoorTie.lean); close each card by the builder's one call (the guide's Derived/Test/ToyasCard.lean, 'card_holds'). Laid BY PROGRAM, IN A SANDBOX (cutbox-door.mjs). By AI agents, Wed Nov 11 2026. No macro, syntax, notation, axiom, sorry.
-/
import Derived.Test.YtanhekelecofdaaGreatDoorRows
import GoSem.ClaimSeven
namespace Go.Proofs.YtanhekelecofdaaGreatDoor
namespace Rows

/-- THE TIED CARD OF 'catscradlelaw04.EaseClassed'. -/
def easeClassedCard : Claim7 := { stood := { row := easeClassedRow, standIns := [], harness := (true, "1a0ec1e1136dee18291701235f302be86d0be2a6a310b0209c511e9b2464333c"), looks := false }, kinds := [], alts := [], laidByText := true, laidKinds := [.data, .data, .data], laidTests := true, laidLooks := .later }
def EaseClassedCardSaid : Prop := Claim7.holds Tryz.pinned (.plain (OpenSpec.ofChange easeClassedSpec)) easeClassedCard

/-- THE SECOND FORM's CARD OF 'catscradlelaw04.EaseClassed'. -/
def easeClassedUptoCard : Claim7 := { stood := { row := easeClassedUptoRow, standIns := [], harness := (true, "1a0ec1e1136dee18291701235f302be86d0be2a6a310b0209c511e9b2464333c"), looks := false }, kinds := [], alts := [], laidByText := true, laidKinds := [.data, .data, .data], laidTests := true, laidLooks := .later }
def EaseClassedUptoCardSaid : Prop := Claim7.holds Tryz.pinned (.plain (OpenSpec.upto easeClassedSpec)) easeClassedUptoCard
end Rows
end Go.Proofs.YtanhekelecofdaaGreatDoor
