/-
  DERIVED. GIVEN WITH THE SEED: THE CARDS: each row of YtehnpoeelhggeaaGreatDoorRows.lean that lists a variable, with what it lists TIED to the program's text (the seventh form; the later family's looks); each row that meets fmt, with fmt's text TOLD by the authors' own Lean function (tested against real Go, not proved from fmt's source: count such statements apart). THE CARD IS WHAT COUNTS. Prove the row's statement (the work); the ties are given (YtehnpoeelhggeaaGreatDoorTie.lean); close each card by the builder's one call (the guide's Derived/Test/ToyasCard.lean, 'card_holds'). Laid BY PROGRAM, IN A SANDBOX (cutbox-door.mjs). By AI agents, Wed Nov 11 2026. No macro, syntax, notation, axiom, sorry.
-/
import Derived.Test.YtehnpoeelhggeaaGreatDoorRows
import GoSem.ClaimSeven
namespace Go.Proofs.YtehnpoeelhggeaaGreatDoor
namespace Rows

/-- THE TIED CARD OF 'catscradlelaw03.MoveKinds'. -/
def moveKindsCard : Claim7 := { stood := { row := moveKindsRow, standIns := [], harness := (true, "a57addd531b0bb68bc131a816284d2293e4d9aa4d6666fda2b042ec11774166e"), looks := true }, kinds := [], alts := [], laidByText := true, laidKinds := [.data, .data, .data], laidTests := true, laidLooks := .later }
def MoveKindsCardSaid : Prop := Claim7.holds Tryz.pinned (.plain (OpenSpec.ofChange moveKindsSpec)) moveKindsCard

/-- THE TIED CARD OF 'catscradlelaw03.MovePrints'. -/
def movePrintsCard : Claim7 := { stood := { row := movePrintsRow, standIns := [], harness := (true, "a57addd531b0bb68bc131a816284d2293e4d9aa4d6666fda2b042ec11774166e"), looks := true }, kinds := [], alts := [], laidByText := true, laidKinds := [.data, .data, .data, .data, .sentinel, .sentinel, .pinned], laidTests := true, laidLooks := .later }
def MovePrintsCardSaid : Prop := Claim7.holds Tryz.pinned (.plain (OpenSpec.ofChange movePrintsSpec)) movePrintsCard

/-- THE TIED CARD OF 'catscradlelaw03.MoveParses'. -/
def moveParsesCard : Claim7 := { stood := { row := moveParsesRow, standIns := [], harness := (true, "a57addd531b0bb68bc131a816284d2293e4d9aa4d6666fda2b042ec11774166e"), looks := true }, kinds := [], alts := [], laidByText := true, laidKinds := [.data, .data, .data, .data, .sentinel, .sentinel, .pinned], laidTests := true, laidLooks := .later }
def MoveParsesCardSaid : Prop := Claim7.holds Tryz.pinned (.plain (OpenSpec.ofChange moveParsesSpec)) moveParsesCard

/-- THE TIED CARD OF 'catscradlelaw04.EaseCompares'. -/
def easeComparesCard : Claim7 := { stood := { row := easeComparesRow, standIns := [], harness := (true, "a57addd531b0bb68bc131a816284d2293e4d9aa4d6666fda2b042ec11774166e"), looks := true }, kinds := [], alts := [], laidByText := true, laidKinds := [.data, .data, .data], laidTests := true, laidLooks := .later }
def EaseComparesCardSaid : Prop := Claim7.holds Tryz.pinned (.plain (OpenSpec.ofChange easeComparesSpec)) easeComparesCard

/-- THE TIED CARD OF 'catscradlelaw04.EaseLeast'. -/
def easeLeastCard : Claim7 := { stood := { row := easeLeastRow, standIns := [], harness := (true, "a57addd531b0bb68bc131a816284d2293e4d9aa4d6666fda2b042ec11774166e"), looks := true }, kinds := [], alts := [], laidByText := true, laidKinds := [.data, .data, .data], laidTests := true, laidLooks := .later }
def EaseLeastCardSaid : Prop := Claim7.holds Tryz.pinned (.plain (OpenSpec.ofChange easeLeastSpec)) easeLeastCard

/-- THE TIED CARD OF 'catscradlelaw05.SignTerms'. -/
def signTermsCard : Claim7 := { stood := { row := signTermsRow, standIns := [], harness := (true, "a57addd531b0bb68bc131a816284d2293e4d9aa4d6666fda2b042ec11774166e"), looks := true }, kinds := [], alts := [], laidByText := true, laidKinds := [.data, .data, .data], laidTests := true, laidLooks := .later }
def SignTermsCardSaid : Prop := Claim7.holds Tryz.pinned (.plain (OpenSpec.ofChange signTermsSpec)) signTermsCard

/-- THE TIED CARD OF 'catscradlelaw05.SignMaps'. -/
def signMapsCard : Claim7 := { stood := { row := signMapsRow, standIns := [], harness := (true, "a57addd531b0bb68bc131a816284d2293e4d9aa4d6666fda2b042ec11774166e"), looks := true }, kinds := [], alts := [], laidByText := true, laidKinds := [.data, .data, .data], laidTests := true, laidLooks := .later }
def SignMapsCardSaid : Prop := Claim7.holds Tryz.pinned (.plain (OpenSpec.ofChange signMapsSpec)) signMapsCard

/-- THE SECOND FORM's CARD OF 'catscradlelaw03.MoveKinds'. -/
def moveKindsUptoCard : Claim7 := { stood := { row := moveKindsUptoRow, standIns := [], harness := (true, "a57addd531b0bb68bc131a816284d2293e4d9aa4d6666fda2b042ec11774166e"), looks := true }, kinds := [], alts := [], laidByText := true, laidKinds := [.data, .data, .data], laidTests := true, laidLooks := .later }
def MoveKindsUptoCardSaid : Prop := Claim7.holds Tryz.pinned (.plain (OpenSpec.upto moveKindsSpec)) moveKindsUptoCard

/-- THE SECOND FORM's CARD OF 'catscradlelaw03.MovePrints'. -/
def movePrintsUptoCard : Claim7 := { stood := { row := movePrintsUptoRow, standIns := [], harness := (true, "a57addd531b0bb68bc131a816284d2293e4d9aa4d6666fda2b042ec11774166e"), looks := true }, kinds := [], alts := [], laidByText := true, laidKinds := [.data, .data, .data, .data, .sentinel, .sentinel, .pinned], laidTests := true, laidLooks := .later }
def MovePrintsUptoCardSaid : Prop := Claim7.holds Tryz.pinned (.plain (OpenSpec.upto movePrintsSpec)) movePrintsUptoCard

/-- THE SECOND FORM's CARD OF 'catscradlelaw03.MoveParses'. -/
def moveParsesUptoCard : Claim7 := { stood := { row := moveParsesUptoRow, standIns := [], harness := (true, "a57addd531b0bb68bc131a816284d2293e4d9aa4d6666fda2b042ec11774166e"), looks := true }, kinds := [], alts := [], laidByText := true, laidKinds := [.data, .data, .data, .data, .sentinel, .sentinel, .pinned], laidTests := true, laidLooks := .later }
def MoveParsesUptoCardSaid : Prop := Claim7.holds Tryz.pinned (.plain (OpenSpec.upto moveParsesSpec)) moveParsesUptoCard

/-- THE SECOND FORM's CARD OF 'catscradlelaw04.EaseCompares'. -/
def easeComparesUptoCard : Claim7 := { stood := { row := easeComparesUptoRow, standIns := [], harness := (true, "a57addd531b0bb68bc131a816284d2293e4d9aa4d6666fda2b042ec11774166e"), looks := true }, kinds := [], alts := [], laidByText := true, laidKinds := [.data, .data, .data], laidTests := true, laidLooks := .later }
def EaseComparesUptoCardSaid : Prop := Claim7.holds Tryz.pinned (.plain (OpenSpec.upto easeComparesSpec)) easeComparesUptoCard

/-- THE SECOND FORM's CARD OF 'catscradlelaw04.EaseLeast'. -/
def easeLeastUptoCard : Claim7 := { stood := { row := easeLeastUptoRow, standIns := [], harness := (true, "a57addd531b0bb68bc131a816284d2293e4d9aa4d6666fda2b042ec11774166e"), looks := true }, kinds := [], alts := [], laidByText := true, laidKinds := [.data, .data, .data], laidTests := true, laidLooks := .later }
def EaseLeastUptoCardSaid : Prop := Claim7.holds Tryz.pinned (.plain (OpenSpec.upto easeLeastSpec)) easeLeastUptoCard

/-- THE SECOND FORM's CARD OF 'catscradlelaw05.SignTerms'. -/
def signTermsUptoCard : Claim7 := { stood := { row := signTermsUptoRow, standIns := [], harness := (true, "a57addd531b0bb68bc131a816284d2293e4d9aa4d6666fda2b042ec11774166e"), looks := true }, kinds := [], alts := [], laidByText := true, laidKinds := [.data, .data, .data], laidTests := true, laidLooks := .later }
def SignTermsUptoCardSaid : Prop := Claim7.holds Tryz.pinned (.plain (OpenSpec.upto signTermsSpec)) signTermsUptoCard

/-- THE SECOND FORM's CARD OF 'catscradlelaw05.SignMaps'. -/
def signMapsUptoCard : Claim7 := { stood := { row := signMapsUptoRow, standIns := [], harness := (true, "a57addd531b0bb68bc131a816284d2293e4d9aa4d6666fda2b042ec11774166e"), looks := true }, kinds := [], alts := [], laidByText := true, laidKinds := [.data, .data, .data], laidTests := true, laidLooks := .later }
def SignMapsUptoCardSaid : Prop := Claim7.holds Tryz.pinned (.plain (OpenSpec.upto signMapsSpec)) signMapsUptoCard
end Rows
end Go.Proofs.YtehnpoeelhggeaaGreatDoor
