/-
  DERIVED. GIVEN WITH THE SEED: THE CARDS: each row of YtnhlfpanllllgaaGreatDoorRows.lean that lists a variable, with what it lists TIED to the program's text (the seventh form; the later family's looks); each row that meets fmt, with fmt's text TOLD by the authors' own Lean function (tested against real Go, not proved from fmt's source: count such statements apart). THE CARD IS WHAT COUNTS. Prove the row's statement (the work); the ties are given (YtnhlfpanllllgaaGreatDoorTie.lean); close each card by the builder's one call (the guide's Derived/Test/ToyasCard.lean, 'card_holds'). Laid BY PROGRAM, IN A SANDBOX (cutbox-door.mjs). By AI agents, Wed Nov 11 2026. No macro, syntax, notation, axiom, sorry.
-/
import Derived.Test.YtnhlfpanllllgaaGreatDoorRows
import GoSem.ClaimSeven
namespace Go.Proofs.YtnhlfpanllllgaaGreatDoor
namespace Rows

/-- THE TIED CARD OF 'catscradlelaw04.EaseMakes'. -/
def easeMakesCard : Claim7 := { stood := { row := easeMakesRow, standIns := [], harness := (true, "4caa7f58e2695a961d02a94f41e582f1410aa0d768b15e9f4d2c2c034945834d"), looks := false }, kinds := [], alts := [], laidByText := true, laidKinds := [.data, .data, .data], laidTests := true, laidLooks := .later }
def EaseMakesCardSaid : Prop := Claim7.holds Tryz.pinned (.plain (OpenSpec.ofChange easeMakesSpec)) easeMakesCard

/-- THE TIED CARD OF 'catscradlelaw04.EaseBares'. -/
def easeBaresCard : Claim7 := { stood := { row := easeBaresRow, standIns := [], harness := (true, "4caa7f58e2695a961d02a94f41e582f1410aa0d768b15e9f4d2c2c034945834d"), looks := false }, kinds := [], alts := [], laidByText := true, laidKinds := [.data, .data, .data], laidTests := true, laidLooks := .later }
def EaseBaresCardSaid : Prop := Claim7.holds Tryz.pinned (.plain (OpenSpec.ofChange easeBaresSpec)) easeBaresCard

/-- THE TIED CARD OF 'catscradlelaw04.EaseJoins'. -/
def easeJoinsCard : Claim7 := { stood := { row := easeJoinsRow, standIns := [], harness := (true, "4caa7f58e2695a961d02a94f41e582f1410aa0d768b15e9f4d2c2c034945834d"), looks := false }, kinds := [], alts := [], laidByText := true, laidKinds := [.data, .data, .data], laidTests := true, laidLooks := .later }
def EaseJoinsCardSaid : Prop := Claim7.holds Tryz.pinned (.plain (OpenSpec.ofChange easeJoinsSpec)) easeJoinsCard

/-- THE SECOND FORM's CARD OF 'catscradlelaw04.EaseMakes'. -/
def easeMakesUptoCard : Claim7 := { stood := { row := easeMakesUptoRow, standIns := [], harness := (true, "4caa7f58e2695a961d02a94f41e582f1410aa0d768b15e9f4d2c2c034945834d"), looks := false }, kinds := [], alts := [], laidByText := true, laidKinds := [.data, .data, .data], laidTests := true, laidLooks := .later }
def EaseMakesUptoCardSaid : Prop := Claim7.holds Tryz.pinned (.plain (OpenSpec.upto easeMakesSpec)) easeMakesUptoCard

/-- THE SECOND FORM's CARD OF 'catscradlelaw04.EaseBares'. -/
def easeBaresUptoCard : Claim7 := { stood := { row := easeBaresUptoRow, standIns := [], harness := (true, "4caa7f58e2695a961d02a94f41e582f1410aa0d768b15e9f4d2c2c034945834d"), looks := false }, kinds := [], alts := [], laidByText := true, laidKinds := [.data, .data, .data], laidTests := true, laidLooks := .later }
def EaseBaresUptoCardSaid : Prop := Claim7.holds Tryz.pinned (.plain (OpenSpec.upto easeBaresSpec)) easeBaresUptoCard

/-- THE SECOND FORM's CARD OF 'catscradlelaw04.EaseJoins'. -/
def easeJoinsUptoCard : Claim7 := { stood := { row := easeJoinsUptoRow, standIns := [], harness := (true, "4caa7f58e2695a961d02a94f41e582f1410aa0d768b15e9f4d2c2c034945834d"), looks := false }, kinds := [], alts := [], laidByText := true, laidKinds := [.data, .data, .data], laidTests := true, laidLooks := .later }
def EaseJoinsUptoCardSaid : Prop := Claim7.holds Tryz.pinned (.plain (OpenSpec.upto easeJoinsSpec)) easeJoinsUptoCard
end Rows
end Go.Proofs.YtnhlfpanllllgaaGreatDoor
