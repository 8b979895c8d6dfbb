/-
  DERIVED. GIVEN WITH THE SEED: THE CARDS: each row of YtjdfokaegjgddaaGreatDoorRows.lean that lists a variable, with what it lists TIED to the program's text (the seventh form; the later family's looks); each row that meets fmt, with fmt's text TOLD by the authors' own Lean function (tested against real Go, not proved from fmt's source: count such statements apart). THE CARD IS WHAT COUNTS. Prove the row's statement (the work); the ties are given (YtjdfokaegjgddaaGreatDoorTie.lean); close each card by the builder's one call (the guide's Derived/Test/ToyasCard.lean, 'card_holds'). Laid BY PROGRAM, IN A SANDBOX (cutbox-door.mjs). By AI agents, Wed Nov 11 2026. No macro, syntax, notation, axiom, sorry.
-/
import Derived.Test.YtjdfokaegjgddaaGreatDoorRows
import GoSem.ClaimSeven
namespace Go.Proofs.YtjdfokaegjgddaaGreatDoor
namespace Rows

/-- THE TIED CARD OF 'catscradlelaw04.EasePaths'. -/
def easePathsCard : Claim7 := { stood := { row := easePathsRow, standIns := [], harness := (true, "2dc42f4445aa7caf6aa031dfc0962d07de58ba93c05e69f310bad8d2899897c0"), looks := false }, kinds := [], alts := [], laidByText := true, laidKinds := [.data, .data, .data], laidTests := true, laidLooks := .later }
def EasePathsCardSaid : Prop := Claim7.holds Tryz.pinned (.plain (OpenSpec.ofChange easePathsSpec)) easePathsCard

/-- THE SECOND FORM's CARD OF 'catscradlelaw04.EasePaths'. -/
def easePathsUptoCard : Claim7 := { stood := { row := easePathsUptoRow, standIns := [], harness := (true, "2dc42f4445aa7caf6aa031dfc0962d07de58ba93c05e69f310bad8d2899897c0"), looks := false }, kinds := [], alts := [], laidByText := true, laidKinds := [.data, .data, .data], laidTests := true, laidLooks := .later }
def EasePathsUptoCardSaid : Prop := Claim7.holds Tryz.pinned (.plain (OpenSpec.upto easePathsSpec)) easePathsUptoCard
end Rows
end Go.Proofs.YtjdfokaegjgddaaGreatDoor
