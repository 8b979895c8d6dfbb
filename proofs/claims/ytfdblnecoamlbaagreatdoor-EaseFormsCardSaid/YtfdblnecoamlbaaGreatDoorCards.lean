/-
  DERIVED. GIVEN WITH THE SEED: THE CARDS: each row of YtfdblnecoamlbaaGreatDoorRows.lean that lists a variable, with what it lists TIED to the program's text (the seventh form; the later family's looks); each row that meets fmt, with fmt's text TOLD by the authors' own Lean function (tested against real Go, not proved from fmt's source: count such statements apart). THE CARD IS WHAT COUNTS. Prove the row's statement (the work); the ties are given (YtfdblnecoamlbaaGreatDoorTie.lean); close each card by the builder's one call (the guide's Derived/Test/ToyasCard.lean, 'card_holds'). Laid BY PROGRAM, IN A SANDBOX (cutbox-door.mjs). By AI agents, Wed Nov 11 2026. No macro, syntax, notation, axiom, sorry.
-/
import Derived.Test.YtfdblnecoamlbaaGreatDoorRows
import GoSem.ClaimSeven
namespace Go.Proofs.YtfdblnecoamlbaaGreatDoor
namespace Rows

/-- THE TIED CARD OF 'catscradlelaw04.EaseForms'. -/
def easeFormsCard : Claim7 := { stood := { row := easeFormsRow, standIns := [], harness := (true, "1b788b2fd06338f18e44e4b57c3445d3e1a39bd57a50fadca23c2bfb3c40697c"), looks := false }, kinds := [], alts := [], laidByText := true, laidKinds := [.data, .data, .data], laidTests := true, laidLooks := .later }
def EaseFormsCardSaid : Prop := Claim7.holds Tryz.pinned (.plain (OpenSpec.ofChange easeFormsSpec)) easeFormsCard

/-- THE SECOND FORM's CARD OF 'catscradlelaw04.EaseForms'. -/
def easeFormsUptoCard : Claim7 := { stood := { row := easeFormsUptoRow, standIns := [], harness := (true, "1b788b2fd06338f18e44e4b57c3445d3e1a39bd57a50fadca23c2bfb3c40697c"), looks := false }, kinds := [], alts := [], laidByText := true, laidKinds := [.data, .data, .data], laidTests := true, laidLooks := .later }
def EaseFormsUptoCardSaid : Prop := Claim7.holds Tryz.pinned (.plain (OpenSpec.upto easeFormsSpec)) easeFormsUptoCard
end Rows
end Go.Proofs.YtfdblnecoamlbaaGreatDoor
