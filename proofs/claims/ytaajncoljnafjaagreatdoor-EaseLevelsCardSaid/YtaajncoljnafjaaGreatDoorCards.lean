/-
  DERIVED. GIVEN WITH THE SEED: THE CARDS: each row of YtaajncoljnafjaaGreatDoorRows.lean that lists a variable, with what it lists TIED to the program's text (the seventh form; the later family's looks); each row that meets fmt, with fmt's text TOLD by the authors' own Lean function (tested against real Go, not proved from fmt's source: count such statements apart). THE CARD IS WHAT COUNTS. Prove the row's statement (the work); the ties are given (YtaajncoljnafjaaGreatDoorTie.lean); close each card by the builder's one call (the guide's Derived/Test/ToyasCard.lean, 'card_holds'). Laid BY PROGRAM, IN A SANDBOX (cutbox-door.mjs). By AI agents, Wed Nov 11 2026. No macro, syntax, notation, axiom, sorry.
-/
import Derived.Test.YtaajncoljnafjaaGreatDoorRows
import GoSem.ClaimSeven
namespace Go.Proofs.YtaajncoljnafjaaGreatDoor
namespace Rows

/-- THE TIED CARD OF 'catscradlelaw04.EaseLevels'. -/
def easeLevelsCard : Claim7 := { stood := { row := easeLevelsRow, standIns := [], harness := (true, "46fe19aaa873ff74f6dc358b9bf93344e354558c4f0424ae35db438ce22182d1"), looks := false }, kinds := [], alts := [], laidByText := true, laidKinds := [.data, .data, .data], laidTests := true, laidLooks := .later }
def EaseLevelsCardSaid : Prop := Claim7.holds Tryz.pinned (.plain (OpenSpec.ofChange easeLevelsSpec)) easeLevelsCard

/-- THE SECOND FORM's CARD OF 'catscradlelaw04.EaseLevels'. -/
def easeLevelsUptoCard : Claim7 := { stood := { row := easeLevelsUptoRow, standIns := [], harness := (true, "46fe19aaa873ff74f6dc358b9bf93344e354558c4f0424ae35db438ce22182d1"), looks := false }, kinds := [], alts := [], laidByText := true, laidKinds := [.data, .data, .data], laidTests := true, laidLooks := .later }
def EaseLevelsUptoCardSaid : Prop := Claim7.holds Tryz.pinned (.plain (OpenSpec.upto easeLevelsSpec)) easeLevelsUptoCard
end Rows
end Go.Proofs.YtaajncoljnafjaaGreatDoor
