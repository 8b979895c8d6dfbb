/-
  DERIVED. GIVEN WITH THE SEED: THE CARDS: each row of YtjjdebhkbfeniaaGreatDoorRows.lean that lists a variable, with what it lists TIED to the program's text (the seventh form; the later family's looks); each row that meets fmt, with fmt's text TOLD by the authors' own Lean function (tested against real Go, not proved from fmt's source: count such statements apart). THE CARD IS WHAT COUNTS. Prove the row's statement (the work); the ties are given (YtjjdebhkbfeniaaGreatDoorTie.lean); close each card by the builder's one call (the guide's Derived/Test/ToyasCard.lean, 'card_holds'). Laid BY PROGRAM, IN A SANDBOX (cutbox-door.mjs). By AI agents, Wed Nov 11 2026. No macro, syntax, notation, axiom, sorry.
-/
import Derived.Test.YtjjdebhkbfeniaaGreatDoorRows
import GoSem.ClaimSeven
namespace Go.Proofs.YtjjdebhkbfeniaaGreatDoor
namespace Rows

/-- THE TIED CARD OF 'catscradlelaw04.EaseReduced'. -/
def easeReducedCard : Claim7 := { stood := { row := easeReducedRow, standIns := [], harness := (true, "6f76d3317fb156d17ad4db0226e692e01f4ae4b25a70a5fcdac59f2755301056"), looks := false }, kinds := [], alts := [], laidByText := true, laidKinds := [.data, .data, .data], laidTests := true, laidLooks := .later }
def EaseReducedCardSaid : Prop := Claim7.holds Tryz.pinned (.plain (OpenSpec.ofChange easeReducedSpec)) easeReducedCard

/-- THE TIED CARD OF 'catscradlelaw04.EaseJoined'. -/
def easeJoinedCard : Claim7 := { stood := { row := easeJoinedRow, standIns := [], harness := (true, "6f76d3317fb156d17ad4db0226e692e01f4ae4b25a70a5fcdac59f2755301056"), looks := false }, kinds := [], alts := [], laidByText := true, laidKinds := [.data, .data, .data], laidTests := true, laidLooks := .later }
def EaseJoinedCardSaid : Prop := Claim7.holds Tryz.pinned (.plain (OpenSpec.ofChange easeJoinedSpec)) easeJoinedCard

/-- THE TIED CARD OF 'catscradlelaw04.EasePaths'. -/
def easePathsCard : Claim7 := { stood := { row := easePathsRow, standIns := [], harness := (true, "6f76d3317fb156d17ad4db0226e692e01f4ae4b25a70a5fcdac59f2755301056"), looks := false }, kinds := [], alts := [], laidByText := true, laidKinds := [.data, .data, .data], laidTests := true, laidLooks := .later }
def EasePathsCardSaid : Prop := Claim7.holds Tryz.pinned (.plain (OpenSpec.ofChange easePathsSpec)) easePathsCard

/-- THE SECOND FORM's CARD OF 'catscradlelaw04.EaseReduced'. -/
def easeReducedUptoCard : Claim7 := { stood := { row := easeReducedUptoRow, standIns := [], harness := (true, "6f76d3317fb156d17ad4db0226e692e01f4ae4b25a70a5fcdac59f2755301056"), looks := false }, kinds := [], alts := [], laidByText := true, laidKinds := [.data, .data, .data], laidTests := true, laidLooks := .later }
def EaseReducedUptoCardSaid : Prop := Claim7.holds Tryz.pinned (.plain (OpenSpec.upto easeReducedSpec)) easeReducedUptoCard

/-- THE SECOND FORM's CARD OF 'catscradlelaw04.EaseJoined'. -/
def easeJoinedUptoCard : Claim7 := { stood := { row := easeJoinedUptoRow, standIns := [], harness := (true, "6f76d3317fb156d17ad4db0226e692e01f4ae4b25a70a5fcdac59f2755301056"), looks := false }, kinds := [], alts := [], laidByText := true, laidKinds := [.data, .data, .data], laidTests := true, laidLooks := .later }
def EaseJoinedUptoCardSaid : Prop := Claim7.holds Tryz.pinned (.plain (OpenSpec.upto easeJoinedSpec)) easeJoinedUptoCard

/-- THE SECOND FORM's CARD OF 'catscradlelaw04.EasePaths'. -/
def easePathsUptoCard : Claim7 := { stood := { row := easePathsUptoRow, standIns := [], harness := (true, "6f76d3317fb156d17ad4db0226e692e01f4ae4b25a70a5fcdac59f2755301056"), looks := false }, kinds := [], alts := [], laidByText := true, laidKinds := [.data, .data, .data], laidTests := true, laidLooks := .later }
def EasePathsUptoCardSaid : Prop := Claim7.holds Tryz.pinned (.plain (OpenSpec.upto easePathsSpec)) easePathsUptoCard
end Rows
end Go.Proofs.YtjjdebhkbfeniaaGreatDoor
