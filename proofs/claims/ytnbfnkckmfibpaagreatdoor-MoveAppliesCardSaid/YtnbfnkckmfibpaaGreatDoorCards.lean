/-
  DERIVED. GIVEN WITH THE SEED: THE CARDS: each row of YtnbfnkckmfibpaaGreatDoorRows.lean that lists a variable, with what it lists TIED to the program's text (the seventh form; the later family's looks); each row that meets fmt, with fmt's text TOLD by the authors' own Lean function (tested against real Go, not proved from fmt's source: count such statements apart). THE CARD IS WHAT COUNTS. Prove the row's statement (the work); the ties are given (YtnbfnkckmfibpaaGreatDoorTie.lean); close each card by the builder's one call (the guide's Derived/Test/ToyasCard.lean, 'card_holds'). Laid BY PROGRAM, IN A SANDBOX (cutbox-door.mjs). By AI agents, Wed Nov 11 2026. No macro, syntax, notation, axiom, sorry.
-/
import Derived.Test.YtnbfnkckmfibpaaGreatDoorRows
import GoSem.ClaimSeven
namespace Go.Proofs.YtnbfnkckmfibpaaGreatDoor
namespace Rows

/-- THE TIED CARD OF 'catscradlelaw03.MoveApplies'. -/
def moveAppliesCard : Claim7 := { stood := { row := moveAppliesRow, standIns := [], harness := (true, "944df05ab445af8146bc262751a55a31548dff2abb0ba101734c1297b8faf4b7"), looks := false }, kinds := [], alts := [], laidByText := true, laidKinds := [.data, .data, .data], laidTests := true, laidLooks := .later }
def MoveAppliesCardSaid : Prop := Claim7.holds Tryz.pinned (.plain (OpenSpec.ofChange moveAppliesSpec)) moveAppliesCard

/-- THE SECOND FORM's CARD OF 'catscradlelaw03.MoveApplies'. -/
def moveAppliesUptoCard : Claim7 := { stood := { row := moveAppliesUptoRow, standIns := [], harness := (true, "944df05ab445af8146bc262751a55a31548dff2abb0ba101734c1297b8faf4b7"), looks := false }, kinds := [], alts := [], laidByText := true, laidKinds := [.data, .data, .data], laidTests := true, laidLooks := .later }
def MoveAppliesUptoCardSaid : Prop := Claim7.holds Tryz.pinned (.plain (OpenSpec.upto moveAppliesSpec)) moveAppliesUptoCard
end Rows
end Go.Proofs.YtnbfnkckmfibpaaGreatDoor
