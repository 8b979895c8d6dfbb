/-
  An edge that is pushed across the axis, and a kink.
-/
import Derived.Test.YtdfaoeikkkfkoaaGreatDoorWk
set_option linter.unusedSimpArgs false
set_option linter.unusedVariables false
set_option linter.unusedSectionVars false
namespace Go.Abs
set_option maxRecDepth 100000
section
variable {Q : Post} {env : Env} {blk : Blk} {os : List IOper} {d : Option Nat}
theorem gP_shift {id : Nat} {l : List Pc} {c : C} {g ab b : Int} (hl : l.length ≤ 1000000) (hb : -100 ≤ b ∧ b ≤ 100) (hr : ∀ p ∈ l, -1000000 ≤ p.l.rank ∧ p.l.rank ≤ 1000000) (hg : grown id pcTy 7 (pcP l) (.one c) blk)
    (hK : ∀ blk', grown id pcTy 7 (pcP (shiftL l g ab b)) (.one c) blk' → (∀ i, i ≠ id → blk' i = blk i) → RN S .all os Q (put env d (.tup [])) blk') : gP S .all (.sc 73 [.one c, vi g, vi ab, vi b]) d os Q env blk := by
  have ho : l = [] ∨ (allow (S.ctx .all) 73 [.one c, vi g, vi ab, vi b] blk).ok id = true := by
    rcases reach_grown hg with ⟨h, _⟩ | h
    · exact .inl (by simpa using h)
    · exact .inr (allow_okI (by simp [h]))
  refine gP_sc2 (P := shPost id (pcP (shiftL l g ab b)) c blk) holds_all (shift_s ho hl hb hr hg) ?_
  rintro v blk' ⟨rfl, h1, h2⟩
  exact hK blk' h1 h2
end
/-- letters, or none -/
def kR (o : Option (List Pc)) : RV := .tup [.one (grownR pcTy 7 (pcP (o.getD []))), .one (.p (.bool o.isSome))]
theorem rank_bound {F : Nat} {ls : List Let} (g : Fine F ls) : ∀ p ∈ pieces ls, -1000000 ≤ p.l.rank ∧ p.l.rank ≤ 1000000 := by
  intro p hp
  obtain ⟨i, hi⟩ := List.getElem?_of_mem hp
  have hil : i < ls.length := by rw [← pieces_len]; exact (List.getElem?_eq_some_iff.1 hi).1
  obtain ⟨l, hl⟩ := at_lt hil
  rw [pieces_at hl] at hi
  cases hi
  rcases g.ok.kinds l (List.mem_of_getElem? hl) with h | h
  · have hg := g.ok.ax.good l (List.mem_of_getElem? hl) h
    have := hg.r0; have := hg.r1
    have hc : cg ls l.gate.toNat ≤ ls.length := cnt_le _ _
    have := g.len
    simp only
    omega
  · have := (not_badC (f := F) h).1 (g.bad l (List.mem_of_getElem? hl))
    simp only [this.1.2]
    omega
end Go.Abs
