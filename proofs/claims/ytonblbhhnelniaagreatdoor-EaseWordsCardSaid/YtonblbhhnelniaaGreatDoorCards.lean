/-
  DERIVED. GIVEN WITH THE SEED: THE CARDS: each row of YtonblbhhnelniaaGreatDoorRows.lean that lists a variable, with what it lists TIED to the program's text (the seventh form; the later family's looks); each row that meets fmt, with fmt's text TOLD by the authors' own Lean function (tested against real Go, not proved from fmt's source: count such statements apart). THE CARD IS WHAT COUNTS. Prove the row's statement (the work); the ties are given (YtonblbhhnelniaaGreatDoorTie.lean); close each card by the builder's one call (the guide's Derived/Test/ToyasCard.lean, 'card_holds'). Laid BY PROGRAM, IN A SANDBOX (cutbox-door.mjs). By AI agents, Wed Nov 11 2026. No macro, syntax, notation, axiom, sorry.
-/
import Derived.Test.YtonblbhhnelniaaGreatDoorRows
import GoSem.ClaimSeven
namespace Go.Proofs.YtonblbhhnelniaaGreatDoor
namespace Rows

/-- THE TIED CARD OF 'catscradlelaw04.EaseWords'. -/
def easeWordsCard : Claim7 := { stood := { row := easeWordsRow, standIns := [], harness := (true, "940ade437c3b4547266e58a925d6256eaf20365e56c0e9471e549ae5a42e58f1"), looks := false }, kinds := [], alts := [], laidByText := true, laidKinds := [.data, .data, .data], laidTests := true, laidLooks := .later }
def EaseWordsCardSaid : Prop := Claim7.holds Tryz.pinned (.plain (OpenSpec.ofChange easeWordsSpec)) easeWordsCard

/-- THE SECOND FORM's CARD OF 'catscradlelaw04.EaseWords'. -/
def easeWordsUptoCard : Claim7 := { stood := { row := easeWordsUptoRow, standIns := [], harness := (true, "940ade437c3b4547266e58a925d6256eaf20365e56c0e9471e549ae5a42e58f1"), looks := false }, kinds := [], alts := [], laidByText := true, laidKinds := [.data, .data, .data], laidTests := true, laidLooks := .later }
def EaseWordsUptoCardSaid : Prop := Claim7.holds Tryz.pinned (.plain (OpenSpec.upto easeWordsSpec)) easeWordsUptoCard
end Rows
end Go.Proofs.YtonblbhhnelniaaGreatDoor
