/-
  A stack of passes of one gate is a valid code.
-/
import Derived.Test.YtdfaoeikkkfkoaaGreatDoorWj
set_option linter.unusedSimpArgs false
set_option linter.unusedVariables false
set_option linter.unusedSectionVars false
namespace Go.Abs
set_option maxRecDepth 100000
/-- passes of one gate, in order -/
def stk (h : Nat) : List Let := (List.range (2 * h)).map fun i => ⟨1, 0, ((i + 1 : Nat) : Int), 0, 0, false⟩
section
variable {h : Nat}
theorem stk_len : (stk h).length = 2 * h := by simp [stk]
theorem stk_at {i : Nat} (hi : i < 2 * h) : (stk h)[i]? = some ⟨1, 0, ((i + 1 : Nat) : Int), 0, 0, false⟩ := by
  unfold stk
  rw [List.getElem?_map, List.getElem?_range hi]; rfl
theorem stk_mem {l : Let} (hl : l ∈ stk h) : ∃ i, i < 2 * h ∧ l = ⟨1, 0, ((i + 1 : Nat) : Int), 0, 0, false⟩ := by
  obtain ⟨i, hi, rfl⟩ := List.mem_map.1 hl
  exact ⟨i, List.mem_range.1 hi, rfl⟩
theorem stk_cnt (p : Let → Bool) (hp : ∀ l ∈ stk h, p l = true) (k : Nat) (hk : k ≤ 2 * h) : cnt p ((stk h).take k) = k := by
  unfold cnt
  rw [List.countP_eq_length.2 fun l hl => hp l (List.mem_of_mem_take hl), List.length_take, stk_len]
  omega
theorem stk_P : ∀ l ∈ stk h, l.isP = true := fun l hl => by obtain ⟨i, _, rfl⟩ := stk_mem hl; rfl
theorem stk_all : cnt Let.isP (stk h) = 2 * h := by
  have := stk_cnt (h := h) Let.isP stk_P (2 * h) (Nat.le_refl _)
  rwa [List.take_of_length_le (by rw [stk_len]; exact Nat.le_refl _)] at this
theorem stk_noC : cnt Let.isC (stk h) = 0 := by
  unfold cnt
  rw [List.countP_eq_zero]
  intro l hl
  obtain ⟨i, _, rfl⟩ := stk_mem hl
  simp [Let.isC]
theorem stk_cg : cg (stk h) 0 = 2 * h := by
  have := stk_cnt (h := h) (atG 0) (fun l hl => by obtain ⟨i, _, rfl⟩ := stk_mem hl; rfl) (2 * h) (Nat.le_refl _)
  rwa [List.take_of_length_le (by rw [stk_len]; exact Nat.le_refl _)] at this
theorem stk_dn {i : Nat} (hi : i ≤ 2 * h) : dn (stk h) i = (i % 2 == 0) := by
  unfold dn
  rw [stk_cnt (h := h) Let.isP stk_P i hi]
theorem stk_pl (i : Nat) : plOf (stk h) ⟨1, 0, ((i + 1 : Nat) : Int), 0, 0, false⟩ = i := by
  unfold plOf
  have : firstG (stk h) 0 = 0 := rfl
  simp only [Int.toNat_zero, this, Int.toNat_natCast]
  omega
theorem stk_letters : lettersR 1 (stk h) = true := by
  refine (letters_law (F := 1)).2 ⟨?_, ?_, ?_⟩
  · rw [List.any_eq_false]
    intro l hl
    obtain ⟨i, _, rfl⟩ := stk_mem hl
    simp [badL]
  · refine (ranks_iff (F := 1) fun l hl hp => ?_).2 ⟨fun l hl hp => ?_, fun i j l m h1 h2 _ _ he => ?_⟩
    · obtain ⟨i, _, rfl⟩ := stk_mem hl
      exact ⟨by simp, by simp⟩
    · obtain ⟨i, hi, rfl⟩ := stk_mem hl
      refine ⟨by simp, by simp, by simp; omega, ?_⟩
      show ((i + 1 : Nat) : Int) ≤ (cg (stk h) (0 : Int).toNat : Int)
      rw [Int.toNat_zero, stk_cg]
      omega
    · have i1 := (List.getElem?_eq_some_iff.1 h1).1
      have i2 := (List.getElem?_eq_some_iff.1 h2).1
      rw [stk_len] at i1 i2
      rw [stk_at i1] at h1
      rw [stk_at i2] at h2
      cases h1; cases h2
      rw [stk_pl, stk_pl] at he
      exact he
  · unfold crossR
    have h0 : idsK (stk h) (stk h).length = [] := by
      have : ∀ k, k ≤ 2 * h → idsK (stk h) k = [] := by
        intro k
        induction k with
        | zero => intro _; rfl
        | succ k ih =>
          intro hk
          unfold idsK
          rw [stk_at (show k < 2 * h by omega), ih (by omega)]
          rfl
      exact this _ (by rw [stk_len]; exact Nat.le_refl _)
    rw [h0, stk_noC]
    simp only [Bool.and_eq_true]
    refine ⟨⟨rfl, List.all_eq_true.2 fun k hk => ?_⟩, rfl⟩
    have hk := List.mem_range.1 hk
    rw [stk_len] at hk
    unfold xOk
    rw [stk_at hk]
    rfl
theorem stk_ok (hh : h ≤ 500000) : dgOK 1 (stk h) := by
  obtain ⟨hb1, hrk, hcr⟩ := (letters_law (F := 1)).1 (stk_letters (h := h))
  have hbl : ∀ l ∈ stk h, badL 1 l = false := fun l hl => by simpa using List.any_eq_false.1 hb1 l hl
  have hg : gates 1 (stk h) := fun l hl hp => ((not_badP hp).1 (hbl l hl)).1.1.1
  obtain ⟨g1, g2⟩ := (ranks_iff hg).1 hrk
  exact ⟨by rw [stk_len]; omega, ⟨g1, g2⟩, hcr, fun l hl => bad_kind (hbl l hl)⟩
theorem stk_axl : (axisR (stk h)).length = 2 * h := by rw [axisR_len, stk_all]
theorem stk_axi (hh : h ≤ 500000) {i : Nat} (hi : i < 2 * h) : (axisR (stk h)).idxOf i = i := by
  rw [axis_idx (stk_ok hh).ax (stk_at hi) rfl, stk_pl]
theorem stk_nf (hh : h ≤ 500000) {e : Nat} (he : e < 2 * h) : nxt (stk h) (2 * e) = if ((e + 1) % (2 * h)) % 2 = 0 then 4 * h + 2 * ((e + 1) % (2 * h)) else 4 * h + 2 * (((e + 1) % (2 * h) + 2 * h - 1) % (2 * h)) + 1 := by
  have hm := Nat.mod_lt (e + 1) (show 0 < 2 * h by omega)
  show turnD _ _ _ = _
  unfold turnD
  rw [stk_len, stk_axl, if_neg (by omega)]
  have e1 : (2 * e % 2 == 0) = true := by simp
  simp only [e1, if_true, show 2 * e / 2 = e by omega, stk_at hm, stk_axi hh hm, stk_dn (Nat.le_of_lt hm)]
  generalize (e + 1) % (2 * h) = m
  by_cases c : m % 2 = 0
  · simp [c]; omega
  · simp [c]; omega
theorem stk_nb (hh : h ≤ 500000) {e : Nat} (he : e < 2 * h) : nxt (stk h) (2 * e + 1) = if e % 2 = 0 then 4 * h + 2 * ((e + 2 * h - 1) % (2 * h)) + 1 else 4 * h + 2 * e := by
  show turnD _ _ _ = _
  unfold turnD
  rw [stk_len, stk_axl, if_neg (by omega)]
  have e1 : ((2 * e + 1) % 2 == 0) = false := by simp
  simp only [e1, Bool.false_eq_true, if_false, show (2 * e + 1) / 2 = e by omega, stk_at he, stk_axi hh he, stk_dn (Nat.le_of_lt he)]
  by_cases c : e % 2 = 0
  · simp [c]; omega
  · have : (e % 2 == 0) = false := by simpa using c
    simp [c]; omega
end
end Go.Abs
namespace Go.Abs
set_option maxRecDepth 100000
section
variable {h : Nat}
theorem mod1 {n e : Nat} (he : e < n) : (e + 1) % n = if e + 1 = n then 0 else e + 1 := by
  by_cases c : e + 1 = n
  · rw [if_pos c, c, Nat.mod_self]
  · rw [if_neg c, Nat.mod_eq_of_lt (by omega)]
theorem mod2 {n m : Nat} (hm : m < n) : (m + n - 1) % n = if m = 0 then n - 1 else m - 1 := by
  by_cases c : m = 0
  · rw [if_pos c]; subst c; rw [Nat.zero_add, Nat.mod_eq_of_lt (by omega)]
  · rw [if_neg c, show m + n - 1 = (m - 1) + n by omega, Nat.add_mod_right, Nat.mod_eq_of_lt (by omega)]
theorem v1 (hh : h ≤ 500000) {e : Nat} (he : e < 2 * h) (c : e % 2 = 0) : nxt (stk h) (2 * e) = 4 * h + 2 * e + 1 := by
  rw [stk_nf hh he, mod1 he, if_neg (by omega : ¬ e + 1 = 2 * h), if_neg (by omega), mod2 (by omega), if_neg (by omega)]
  omega
theorem v2 (hh : h ≤ 500000) {e : Nat} (he : e < 2 * h) (c : e % 2 = 1) : ∃ q, q < 2 * h ∧ q % 2 = 0 ∧ (e + 1 < 2 * h → q = e + 1) ∧ nxt (stk h) (2 * e) = 4 * h + 2 * q := by
  rw [stk_nf hh he, mod1 he]
  by_cases d : e + 1 = 2 * h
  · rw [if_pos d]; exact ⟨0, by omega, rfl, by omega, rfl⟩
  · rw [if_neg d, if_pos (by omega)]; exact ⟨e + 1, by omega, by omega, fun _ => rfl, rfl⟩
theorem v3 (hh : h ≤ 500000) {e : Nat} (he : e < 2 * h) (c : e % 2 = 0) : ∃ q, q < 2 * h ∧ q % 2 = 1 ∧ (1 ≤ e → q = e - 1) ∧ nxt (stk h) (2 * e + 1) = 4 * h + 2 * q + 1 := by
  rw [stk_nb hh he, if_pos c, mod2 he]
  by_cases d : e = 0
  · rw [if_pos d]; exact ⟨2 * h - 1, by omega, by omega, by omega, rfl⟩
  · rw [if_neg d]; exact ⟨e - 1, by omega, by omega, fun _ => rfl, rfl⟩
theorem v4 (hh : h ≤ 500000) {e : Nat} (he : e < 2 * h) (c : e % 2 = 1) : nxt (stk h) (2 * e + 1) = 4 * h + 2 * e := by
  rw [stk_nb hh he, if_neg (by omega)]
end
end Go.Abs
