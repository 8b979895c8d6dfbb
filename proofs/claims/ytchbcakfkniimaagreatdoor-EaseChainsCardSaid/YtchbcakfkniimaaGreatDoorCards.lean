/-
  DERIVED. GIVEN WITH THE SEED: THE CARDS: each row of YtchbcakfkniimaaGreatDoorRows.lean that lists a variable, with what it lists TIED to the program's text (the seventh form; the later family's looks); each row that meets fmt, with fmt's text TOLD by the authors' own Lean function (tested against real Go, not proved from fmt's source: count such statements apart). THE CARD IS WHAT COUNTS. Prove the row's statement (the work); the ties are given (YtchbcakfkniimaaGreatDoorTie.lean); close each card by the builder's one call (the guide's Derived/Test/ToyasCard.lean, 'card_holds'). Laid BY PROGRAM, IN A SANDBOX (cutbox-door.mjs). By AI agents, Wed Nov 11 2026. No macro, syntax, notation, axiom, sorry.
-/
import Derived.Test.YtchbcakfkniimaaGreatDoorRows
import GoSem.ClaimSeven
namespace Go.Proofs.YtchbcakfkniimaaGreatDoor
namespace Rows

/-- THE TIED CARD OF 'catscradlelaw04.EaseChains'. -/
def easeChainsCard : Claim7 := { stood := { row := easeChainsRow, standIns := [], harness := (true, "4434ed637d37c7633090eb5c678be7350afce944563e70a8e1295d99495b569a"), looks := false }, kinds := [], alts := [], laidByText := true, laidKinds := [.data, .data, .data], laidTests := true, laidLooks := .later }
def EaseChainsCardSaid : Prop := Claim7.holds Tryz.pinned (.plain (OpenSpec.ofChange easeChainsSpec)) easeChainsCard

/-- THE SECOND FORM's CARD OF 'catscradlelaw04.EaseChains'. -/
def easeChainsUptoCard : Claim7 := { stood := { row := easeChainsUptoRow, standIns := [], harness := (true, "4434ed637d37c7633090eb5c678be7350afce944563e70a8e1295d99495b569a"), looks := false }, kinds := [], alts := [], laidByText := true, laidKinds := [.data, .data, .data], laidTests := true, laidLooks := .later }
def EaseChainsUptoCardSaid : Prop := Claim7.holds Tryz.pinned (.plain (OpenSpec.upto easeChainsSpec)) easeChainsUptoCard
end Rows
end Go.Proofs.YtchbcakfkniimaaGreatDoor
