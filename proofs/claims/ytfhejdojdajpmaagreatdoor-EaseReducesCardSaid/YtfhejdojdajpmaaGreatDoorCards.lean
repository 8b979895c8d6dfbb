/-
  DERIVED. GIVEN WITH THE SEED: THE CARDS: each row of YtfhejdojdajpmaaGreatDoorRows.lean that lists a variable, with what it lists TIED to the program's text (the seventh form; the later family's looks); each row that meets fmt, with fmt's text TOLD by the authors' own Lean function (tested against real Go, not proved from fmt's source: count such statements apart). THE CARD IS WHAT COUNTS. Prove the row's statement (the work); the ties are given (YtfhejdojdajpmaaGreatDoorTie.lean); close each card by the builder's one call (the guide's Derived/Test/ToyasCard.lean, 'card_holds'). Laid BY PROGRAM, IN A SANDBOX (cutbox-door.mjs). By AI agents, Wed Nov 11 2026. No macro, syntax, notation, axiom, sorry.
-/
import Derived.Test.YtfhejdojdajpmaaGreatDoorRows
import GoSem.ClaimSeven
namespace Go.Proofs.YtfhejdojdajpmaaGreatDoor
namespace Rows

/-- THE TIED CARD OF 'catscradlelaw04.EaseReduces'. -/
def easeReducesCard : Claim7 := { stood := { row := easeReducesRow, standIns := [], harness := (true, "0915fbccd56dc44049932997934d15e29e4aa0f79886eb7b993d2094ac28c73e"), looks := false }, kinds := [], alts := [], laidByText := true, laidKinds := [.data, .data, .data], laidTests := true, laidLooks := .later }
def EaseReducesCardSaid : Prop := Claim7.holds Tryz.pinned (.plain (OpenSpec.ofChange easeReducesSpec)) easeReducesCard

/-- THE SECOND FORM's CARD OF 'catscradlelaw04.EaseReduces'. -/
def easeReducesUptoCard : Claim7 := { stood := { row := easeReducesUptoRow, standIns := [], harness := (true, "0915fbccd56dc44049932997934d15e29e4aa0f79886eb7b993d2094ac28c73e"), looks := false }, kinds := [], alts := [], laidByText := true, laidKinds := [.data, .data, .data], laidTests := true, laidLooks := .later }
def EaseReducesUptoCardSaid : Prop := Claim7.holds Tryz.pinned (.plain (OpenSpec.upto easeReducesSpec)) easeReducesUptoCard
end Rows
end Go.Proofs.YtfhejdojdajpmaaGreatDoor
