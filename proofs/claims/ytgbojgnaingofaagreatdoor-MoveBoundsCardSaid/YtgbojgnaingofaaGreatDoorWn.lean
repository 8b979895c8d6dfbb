/-
  A stack of passes of one gate is a valid code.
-/
import Derived.Test.YtgbojgnaingofaaGreatDoorWj
set_option linter.unusedSimpArgs false
set_option linter.unusedVariables false
set_option linter.unusedSectionVars false
namespace Go.Abs
set_option maxRecDepth 100000
/-- passes of one gate, in order -/
def stk (h : Nat) : List Let := (List.range (2 * h)).map fun i => ⟨1, 0, ((i + 1 : Nat) : Int), 0, 0, false⟩
section
variable {h : Nat}
theorem stk_len : (stk h).length = 2 * h := by simp [stk]
theorem stk_at {i : Nat} (hi : i < 2 * h) : (stk h)[i]? = some ⟨1, 0, ((i + 1 : Nat) : Int), 0, 0, false⟩ := by
  unfold stk
  rw [List.getElem?_map, List.getElem?_range hi]; rfl
theorem stk_mem {l : Let} (hl : l ∈ stk h) : ∃ i, i < 2 * h ∧ l = ⟨1, 0, ((i + 1 : Nat) : Int), 0, 0, false⟩ := by
  obtain ⟨i, hi, rfl⟩ := List.mem_map.1 hl
  exact ⟨i, List.mem_range.1 hi, rfl⟩
theorem stk_cnt (p : Let → Bool) (hp : ∀ l ∈ stk h, p l = true) (k : Nat) (hk : k ≤ 2 * h) : cnt p ((stk h).take k) = k := by
  unfold cnt
  rw [List.countP_eq_length.2 fun l hl => hp l (List.mem_of_mem_take hl), List.length_take, stk_len]
  omega
theorem stk_P : ∀ l ∈ stk h, l.isP = true := fun l hl => by obtain ⟨i, _, rfl⟩ := stk_mem hl; rfl
theorem stk_all : cnt Let.isP (stk h) = 2 * h := by
  have := stk_cnt (h := h) Let.isP stk_P (2 * h) (Nat.le_refl _)
  rwa [List.take_of_length_le (by rw [stk_len]; exact Nat.le_refl _)] at this
theorem stk_noC : cnt Let.isC (stk h) = 0 := by
  unfold cnt
  rw [List.countP_eq_zero]
  intro l hl
  obtain ⟨i, _, rfl⟩ := stk_mem hl
  simp [Let.isC]
theorem stk_cg : cg (stk h) 0 = 2 * h := by
  have := stk_cnt (h := h) (atG 0) (fun l hl => by obtain ⟨i, _, rfl⟩ := stk_mem hl; rfl) (2 * h) (Nat.le_refl _)
  rwa [List.take_of_length_le (by rw [stk_len]; exact Nat.le_refl _)] at this
theorem stk_dn {i : Nat} (hi : i ≤ 2 * h) : dn (stk h) i = (i % 2 == 0) := by
  unfold dn
  rw [stk_cnt (h := h) Let.isP stk_P i hi]
theorem stk_pl (i : Nat) : plOf (stk h) ⟨1, 0, ((i + 1 : Nat) : Int), 0, 0, false⟩ = i := by
  unfold plOf
  have : firstG (stk h) 0 = 0 := rfl
  simp only [Int.toNat_zero, this, Int.toNat_natCast]
  omega
theorem stk_letters : lettersR 1 (stk h) = true := by
  refine (letters_law (F := 1)).2 ⟨?_, ?_, ?_⟩
  · rw [List.any_eq_false]
    intro l hl
    obtain ⟨i, _, rfl⟩ := stk_mem hl
    simp [badL]
  · refine (ranks_iff (F := 1) fun l hl hp => ?_).2 ⟨fun l hl hp => ?_, fun i j l m h1 h2 _ _ he => ?_⟩
    · obtain ⟨i, _, rfl⟩ := stk_mem hl
      exact ⟨by simp, by simp⟩
    · obtain ⟨i, hi, rfl⟩ := stk_mem hl
      refine ⟨by simp, by simp, by simp; omega, ?_⟩
      show ((i + 1 : Nat) : Int) ≤ (cg (stk h) (0 : Int).toNat : Int)
      rw [Int.toNat_zero, stk_cg]
      omega
    · have i1 := (List.getElem?_eq_some_iff.1 h1).1
      have i2 := (List.getElem?_eq_some_iff.1 h2).1
      rw [stk_len] at i1 i2
      rw [stk_at i1] at h1
      rw [stk_at i2] at h2
      cases h1; cases h2
      rw [stk_pl, stk_pl] at he
      exact he
  · unfold crossR
    have h0 : idsK (stk h) (stk h).length = [] := by
      have : ∀ k, k ≤ 2 * h → idsK (stk h) k = [] := by
        intro k
        induction k with
        | zero => intro _; rfl
        | succ k ih =>
          intro hk
          unfold idsK
          rw [stk_at (show k < 2 * h by omega), ih (by omega)]
          rfl
      exact this _ (by rw [stk_len]; exact Nat.le_refl _)
    rw [h0, stk_noC]
    simp only [Bool.and_eq_true]
    refine ⟨⟨rfl, List.all_eq_true.2 fun k hk => ?_⟩, rfl⟩
    have hk := List.mem_range.1 hk
    rw [stk_len] at hk
    unfold xOk
    rw [stk_at hk]
    rfl
theorem stk_ok (hh : h ≤ 500000) : dgOK 1 (stk h) := by
  obtain ⟨hb1, hrk, hcr⟩ := (letters_law (F := 1)).1 (stk_letters (h := h))
  have hbl : ∀ l ∈ stk h, badL 1 l = false := fun l hl => by simpa using List.any_eq_false.1 hb1 l hl
  have hg : gates 1 (stk h) := fun l hl hp => ((not_badP hp).1 (hbl l hl)).1.1.1
  obtain ⟨g1, g2⟩ := (ranks_iff hg).1 hrk
  exact ⟨by rw [stk_len]; omega, ⟨g1, g2⟩, hcr, fun l hl => bad_kind (hbl l hl)⟩
theorem stk_axl : (axisR (stk h)).length = 2 * h := by rw [axisR_len, stk_all]
theorem stk_ax (hh : h ≤ 500000) {i : Nat} (hi : i < 2 * h) : (axisR (stk h))[i]? = some i := by
  have := axis_place (stk_ok hh).ax (stk_at hi) rfl
  rwa [stk_pl] at this
theorem stk_axd (hh : h ≤ 500000) {i : Nat} (hi : i < 2 * h) : (axisR (stk h)).getD i 0 = i := by
  rw [List.getD_eq_getElem?_getD, stk_ax hh hi]; rfl
theorem stk_axi (hh : h ≤ 500000) {i : Nat} (hi : i < 2 * h) : (axisR (stk h)).idxOf i = i := by
  rw [axis_idx (stk_ok hh).ax (stk_at hi) rfl, stk_pl]
/-- the dart of the axis: of piece p, to the left or to the right -/
theorem stk_nr (hh : h ≤ 500000) {p : Nat} (hp : p < 2 * h) : nxt (stk h) (4 * h + 2 * p) = alongD (2 * h) ((p + 1) % (2 * h)) (!(((p + 1) % (2 * h)) % 2 == 0)) := by
  have hm := Nat.mod_lt (p + 1) (show 0 < 2 * h by omega)
  show turnD _ _ _ = _
  unfold turnD
  rw [stk_len, stk_axl, if_pos (by omega), if_pos (by omega), show (4 * h + 2 * p - 2 * (2 * h)) / 2 = p by omega, stk_axd hh hm, stk_dn (Nat.le_of_lt hm)]
theorem stk_nl (hh : h ≤ 500000) {p : Nat} (hp : p < 2 * h) : nxt (stk h) (4 * h + 2 * p + 1) = alongD (2 * h) p (p % 2 == 0) := by
  show turnD _ _ _ = _
  unfold turnD
  rw [stk_len, if_pos (by omega), if_neg (by omega), show (4 * h + 2 * p + 1 - 2 * (2 * h)) / 2 = p by omega, stk_axd hh hp, stk_dn (Nat.le_of_lt hp)]
theorem stk_nf (hh : h ≤ 500000) {e : Nat} (he : e < 2 * h) : nxt (stk h) (2 * e) = if ((e + 1) % (2 * h)) % 2 = 0 then 4 * h + 2 * ((e + 1) % (2 * h)) else 4 * h + 2 * (((e + 1) % (2 * h) + 2 * h - 1) % (2 * h)) + 1 := by
  have hm := Nat.mod_lt (e + 1) (show 0 < 2 * h by omega)
  show turnD _ _ _ = _
  unfold turnD
  rw [stk_len, stk_axl, if_neg (by omega)]
  have e1 : (2 * e % 2 == 0) = true := by simp
  simp only [e1, if_true, show 2 * e / 2 = e by omega, stk_at hm, stk_axi hh hm, stk_dn (Nat.le_of_lt hm)]
  generalize (e + 1) % (2 * h) = m
  by_cases c : m % 2 = 0
  · simp [c]; omega
  · simp [c]; omega
theorem stk_nb (hh : h ≤ 500000) {e : Nat} (he : e < 2 * h) : nxt (stk h) (2 * e + 1) = if e % 2 = 0 then 4 * h + 2 * ((e + 2 * h - 1) % (2 * h)) + 1 else 4 * h + 2 * e := by
  show turnD _ _ _ = _
  unfold turnD
  rw [stk_len, stk_axl, if_neg (by omega)]
  have e1 : ((2 * e + 1) % 2 == 0) = false := by simp
  simp only [e1, Bool.false_eq_true, if_false, show (2 * e + 1) / 2 = e by omega, stk_at he, stk_axi hh he, stk_dn (Nat.le_of_lt he)]
  by_cases c : e % 2 = 0
  · simp [c]; omega
  · have : (e % 2 == 0) = false := by simpa using c
    simp [c]; omega
end
end Go.Abs
namespace Go.Abs
set_option maxRecDepth 100000
section
variable {h : Nat}
theorem mod1 {n e : Nat} (he : e < n) : (e + 1) % n = if e + 1 = n then 0 else e + 1 := by
  by_cases c : e + 1 = n
  · rw [if_pos c, c, Nat.mod_self]
  · rw [if_neg c, Nat.mod_eq_of_lt (by omega)]
theorem mod2 {n m : Nat} (hm : m < n) : (m + n - 1) % n = if m = 0 then n - 1 else m - 1 := by
  by_cases c : m = 0
  · rw [if_pos c]; subst c; rw [Nat.zero_add, Nat.mod_eq_of_lt (by omega)]
  · rw [if_neg c, show m + n - 1 = (m - 1) + n by omega, Nat.add_mod_right, Nat.mod_eq_of_lt (by omega)]
theorem v1 (hh : h ≤ 500000) {e : Nat} (he : e < 2 * h) (c : e % 2 = 0) : nxt (stk h) (2 * e) = 4 * h + 2 * e + 1 := by
  rw [stk_nf hh he, mod1 he, if_neg (by omega : ¬ e + 1 = 2 * h), if_neg (by omega), mod2 (by omega), if_neg (by omega)]
  omega
theorem v2 (hh : h ≤ 500000) {e : Nat} (he : e < 2 * h) (c : e % 2 = 1) : ∃ q, q < 2 * h ∧ q % 2 = 0 ∧ (e + 1 < 2 * h → q = e + 1) ∧ nxt (stk h) (2 * e) = 4 * h + 2 * q := by
  rw [stk_nf hh he, mod1 he]
  by_cases d : e + 1 = 2 * h
  · rw [if_pos d]; exact ⟨0, by omega, rfl, by omega, rfl⟩
  · rw [if_neg d, if_pos (by omega)]; exact ⟨e + 1, by omega, by omega, fun _ => rfl, rfl⟩
theorem v3 (hh : h ≤ 500000) {e : Nat} (he : e < 2 * h) (c : e % 2 = 0) : ∃ q, q < 2 * h ∧ q % 2 = 1 ∧ (1 ≤ e → q = e - 1) ∧ nxt (stk h) (2 * e + 1) = 4 * h + 2 * q + 1 := by
  rw [stk_nb hh he, if_pos c, mod2 he]
  by_cases d : e = 0
  · rw [if_pos d]; exact ⟨2 * h - 1, by omega, by omega, by omega, rfl⟩
  · rw [if_neg d]; exact ⟨e - 1, by omega, by omega, fun _ => rfl, rfl⟩
theorem v4 (hh : h ≤ 500000) {e : Nat} (he : e < 2 * h) (c : e % 2 = 1) : nxt (stk h) (2 * e + 1) = 4 * h + 2 * e := by
  rw [stk_nb hh he, if_neg (by omega)]
theorem v5 (hh : h ≤ 500000) {p : Nat} (hp : p < 2 * h) (c : p % 2 = 1) : nxt (stk h) (4 * h + 2 * p) = 2 * p + 1 := by
  rw [stk_nr hh hp, mod1 hp]
  by_cases d : p + 1 = 2 * h
  · rw [if_pos d]
    show alongD (2 * h) 0 false = _
    unfold alongD
    rw [if_neg (by decide), mod2 (by omega), if_pos rfl]; omega
  · rw [if_neg d]
    have : (!((p + 1) % 2 == 0)) = false := by simp; omega
    rw [this]
    unfold alongD
    rw [if_neg (by decide), mod2 (by omega), if_neg (by omega)]; omega
theorem v6 (hh : h ≤ 500000) {p : Nat} (hp : p < 2 * h) (c : p % 2 = 0) : nxt (stk h) (4 * h + 2 * p) = 2 * (p + 1) := by
  rw [stk_nr hh hp, mod1 hp, if_neg (by omega)]
  have : (!((p + 1) % 2 == 0)) = true := by simp; omega
  rw [this]; rfl
theorem v7 (hh : h ≤ 500000) {p : Nat} (hp : p < 2 * h) (c : p % 2 = 0) : nxt (stk h) (4 * h + 2 * p + 1) = 2 * p := by
  rw [stk_nl hh hp]
  have : (p % 2 == 0) = true := by simp [c]
  rw [this]; rfl
theorem v8 (hh : h ≤ 500000) {p : Nat} (hp : p < 2 * h) (c : p % 2 = 1) : nxt (stk h) (4 * h + 2 * p + 1) = 2 * (p - 1) + 1 := by
  rw [stk_nl hh hp]
  have : (p % 2 == 0) = false := by simp [c]
  rw [this]
  unfold alongD
  rw [if_neg (by decide), mod2 hp, if_neg (by omega)]
/-- the least dart of a walk -/
def clsS (x : Nat) : Nat := if x % 4 = 0 ∨ x % 4 = 3 then x else if x % 4 = 2 then 2 else 1
def clsH (h x : Nat) : Nat := if x < 4 * h then clsS x else if (x - 4 * h) % 2 = 0 then (if ((x - 4 * h) / 2) % 2 = 1 then 2 * ((x - 4 * h) / 2) + 1 else 2) else (if ((x - 4 * h) / 2) % 2 = 0 then 2 * ((x - 4 * h) / 2) else 1)
theorem cS0 {x : Nat} (c : x % 4 = 0 ∨ x % 4 = 3) : clsS x = x := by unfold clsS; rw [if_pos c]
theorem cS2 {x : Nat} (c : x % 4 = 2) : clsS x = 2 := by unfold clsS; rw [if_neg (by omega), if_pos c]
theorem cS1 {x : Nat} (c : x % 4 = 1) : clsS x = 1 := by unfold clsS; rw [if_neg (by omega), if_neg (by omega)]
theorem cHs {x : Nat} (hx : x < 4 * h) : clsH h x = clsS x := by unfold clsH; rw [if_pos hx]
theorem cHr1 {p : Nat} (c : p % 2 = 1) : clsH h (4 * h + 2 * p) = 2 * p + 1 := by
  unfold clsH; rw [if_neg (by omega), if_pos (by omega), show (4 * h + 2 * p - 4 * h) / 2 = p by omega, if_pos c]
theorem cHr0 {p : Nat} (c : p % 2 = 0) : clsH h (4 * h + 2 * p) = 2 := by
  unfold clsH; rw [if_neg (by omega), if_pos (by omega), show (4 * h + 2 * p - 4 * h) / 2 = p by omega, if_neg (by omega)]
theorem cHl0 {p : Nat} (c : p % 2 = 0) : clsH h (4 * h + 2 * p + 1) = 2 * p := by
  unfold clsH; rw [if_neg (by omega), if_neg (by omega), show (4 * h + 2 * p + 1 - 4 * h) / 2 = p by omega, if_pos c]
theorem cHl1 {p : Nat} (c : p % 2 = 1) : clsH h (4 * h + 2 * p + 1) = 1 := by
  unfold clsH; rw [if_neg (by omega), if_neg (by omega), show (4 * h + 2 * p + 1 - 4 * h) / 2 = p by omega, if_neg (by omega)]
/-- the kinds of darts -/
theorem dart8 {P : Nat → Prop} (f0 : ∀ e, e < 2 * h → e % 2 = 0 → P (2 * e)) (f1 : ∀ e, e < 2 * h → e % 2 = 1 → P (2 * e)) (b0 : ∀ e, e < 2 * h → e % 2 = 0 → P (2 * e + 1)) (b1 : ∀ e, e < 2 * h → e % 2 = 1 → P (2 * e + 1))
    (r0 : ∀ p, p < 2 * h → p % 2 = 0 → P (4 * h + 2 * p)) (r1 : ∀ p, p < 2 * h → p % 2 = 1 → P (4 * h + 2 * p)) (l0 : ∀ p, p < 2 * h → p % 2 = 0 → P (4 * h + 2 * p + 1)) (l1 : ∀ p, p < 2 * h → p % 2 = 1 → P (4 * h + 2 * p + 1)) (x : Nat) (hx : x < 8 * h) : P x := by
  rcases Nat.lt_or_ge x (4 * h) with c | c
  · rcases Nat.mod_two_eq_zero_or_one x with d | d
    · rw [show x = 2 * (x / 2) by omega]
      rcases Nat.mod_two_eq_zero_or_one (x / 2) with e | e
      · exact f0 _ (by omega) e
      · exact f1 _ (by omega) e
    · rw [show x = 2 * (x / 2) + 1 by omega]
      rcases Nat.mod_two_eq_zero_or_one (x / 2) with e | e
      · exact b0 _ (by omega) e
      · exact b1 _ (by omega) e
  · rcases Nat.mod_two_eq_zero_or_one x with d | d
    · rw [show x = 4 * h + 2 * ((x - 4 * h) / 2) by omega]
      rcases Nat.mod_two_eq_zero_or_one ((x - 4 * h) / 2) with e | e
      · exact r0 _ (by omega) e
      · exact r1 _ (by omega) e
    · rw [show x = 4 * h + 2 * ((x - 4 * h) / 2) + 1 by omega]
      rcases Nat.mod_two_eq_zero_or_one ((x - 4 * h) / 2) with e | e
      · exact l0 _ (by omega) e
      · exact l1 _ (by omega) e
theorem cls_next (hh : h ≤ 500000) {x : Nat} (hx : x < 8 * h) : clsH h (nxt (stk h) x) = clsH h x := by
  refine dart8 (P := fun x => clsH h (nxt (stk h) x) = clsH h x) ?_ ?_ ?_ ?_ ?_ ?_ ?_ ?_ x hx
  · intro e he c; rw [v1 hh he c, cHl0 c, cHs (by omega), cS0 (by omega)]
  · intro e he c
    obtain ⟨q, hq, cq, _, hn⟩ := v2 hh he c
    rw [hn, cHr0 cq, cHs (by omega), cS2 (by omega)]
  · intro e he c
    obtain ⟨q, hq, cq, _, hn⟩ := v3 hh he c
    rw [hn, cHl1 cq, cHs (by omega), cS1 (by omega)]
  · intro e he c; rw [v4 hh he c, cHr1 c, cHs (by omega), cS0 (by omega)]
  · intro p hp c; rw [v6 hh hp c, cHr0 c, cHs (by omega), cS2 (by omega)]
  · intro p hp c; rw [v5 hh hp c, cHr1 c, cHs (by omega), cS0 (by omega)]
  · intro p hp c; rw [v7 hh hp c, cHl0 c, cHs (by omega), cS0 (by omega)]
  · intro p hp c; rw [v8 hh hp c, cHl1 c, cHs (by omega), cS1 (by omega)]
theorem cls_idem {x : Nat} (hx : x < 8 * h) : clsH h x < 4 * h ∧ clsH h (clsH h x) = clsH h x := by
  have hpos : 0 < h := by omega
  refine dart8 (P := fun x => clsH h x < 4 * h ∧ clsH h (clsH h x) = clsH h x) ?_ ?_ ?_ ?_ ?_ ?_ ?_ ?_ x hx
  · intro e he c; rw [cHs (x := 2 * e) (by omega), cS0 (by omega), cHs (by omega), cS0 (by omega)]; exact ⟨by omega, rfl⟩
  · intro e he c; rw [cHs (x := 2 * e) (by omega), cS2 (by omega), cHs (by omega), cS2 rfl]; exact ⟨by omega, rfl⟩
  · intro e he c; rw [cHs (x := 2 * e + 1) (by omega), cS1 (by omega), cHs (by omega), cS1 rfl]; exact ⟨by omega, rfl⟩
  · intro e he c; rw [cHs (x := 2 * e + 1) (by omega), cS0 (by omega), cHs (by omega), cS0 (by omega)]; exact ⟨by omega, rfl⟩
  · intro p hp c; rw [cHr0 c, cHs (by omega), cS2 rfl]; exact ⟨by omega, rfl⟩
  · intro p hp c; rw [cHr1 c, cHs (by omega), cS0 (by omega)]; exact ⟨by omega, rfl⟩
  · intro p hp c; rw [cHl0 c, cHs (by omega), cS0 (by omega)]; exact ⟨by omega, rfl⟩
  · intro p hp c; rw [cHl1 c, cHs (by omega), cS1 rfl]; exact ⟨by omega, rfl⟩
/-- what is closed has all of a walk, or nothing -/
theorem cls_closed (hh : h ≤ 500000) {S : List Bool} (hc : Closed (nxt (stk h)) (8 * h) S) {x : Nat} (hx : x < 8 * h) : sn S x = sn S (clsH h x) := by
  have odd : ∀ q, 2 * q + 1 < 2 * h → sn S (2 * (2 * q + 1)) = sn S 2 := by
    intro q
    induction q with
    | zero => intro _; rfl
    | succ q ih =>
      intro hq
      obtain ⟨r, hr, cr, er, hn⟩ := v2 (h := h) hh (e := 2 * q + 1) (by omega) (by omega)
      have h1 := hc (2 * (2 * q + 1)) (by omega)
      have er := er (by omega)
      subst er
      have h2 := hc (4 * h + 2 * (2 * q + 1 + 1)) (by omega)
      rw [v6 hh (by omega) (by omega)] at h2
      rw [hn] at h1
      rw [← ih (by omega), h1, h2]
      congr 1
  have even : ∀ q, 2 * q < 2 * h → sn S (2 * (2 * q) + 1) = sn S 1 := by
    intro q
    induction q with
    | zero => intro _; rfl
    | succ q ih =>
      intro hq
      obtain ⟨r, hr, cr, er, hn⟩ := v3 (h := h) hh (e := 2 * (q + 1)) (by omega) (by omega)
      have h1 := hc (2 * (2 * (q + 1)) + 1) (by omega)
      have er := er (by omega)
      have h2 := hc (4 * h + 2 * r + 1) (by omega)
      rw [v8 hh hr cr] at h2
      rw [hn] at h1
      rw [h1, h2, ← ih (by omega)]
      congr 1
      omega
  have odd' : ∀ e, e < 2 * h → e % 2 = 1 → sn S (2 * e) = sn S 2 := fun e he c => by
    have := odd (e / 2) (by omega)
    rwa [show 2 * (e / 2) + 1 = e by omega] at this
  have even' : ∀ e, e < 2 * h → e % 2 = 0 → sn S (2 * e + 1) = sn S 1 := fun e he c => by
    have := even (e / 2) (by omega)
    rwa [show 2 * (e / 2) = e by omega] at this
  refine dart8 (P := fun x => sn S x = sn S (clsH h x)) ?_ ?_ ?_ ?_ ?_ ?_ ?_ ?_ x hx
  · intro e he c; rw [cHs (by omega), cS0 (by omega)]
  · intro e he c; rw [cHs (by omega), cS2 (by omega)]; exact odd' e he c
  · intro e he c; rw [cHs (by omega), cS1 (by omega)]; exact even' e he c
  · intro e he c; rw [cHs (by omega), cS0 (by omega)]
  · intro p hp c
    have := hc (4 * h + 2 * p) (by omega)
    rw [v6 hh hp c] at this
    rw [cHr0 c, this]; exact odd' (p + 1) (by omega) (by omega)
  · intro p hp c
    have := hc (4 * h + 2 * p) (by omega)
    rw [v5 hh hp c] at this
    rw [cHr1 c, this]
  · intro p hp c
    have := hc (4 * h + 2 * p + 1) (by omega)
    rw [v7 hh hp c] at this
    rw [cHl0 c, this]
  · intro p hp c
    have := hc (4 * h + 2 * p + 1) (by omega)
    rw [v8 hh hp c] at this
    rw [cHl1 c, this]; exact even' (p - 1) (by omega) (by omega)
/-- a walk marks its own darts alone -/
theorem walkF_cls (hh : h ≤ 500000) : ∀ (fuel x : Nat) (S : List Bool), x < 8 * h → (∀ y, y < 8 * h → nxt (stk h) y < 8 * h) → S.length = 8 * h → ∀ y, sn (walkF (nxt (stk h)) fuel x S).2 y = true → sn S y = true ∨ clsH h y = clsH h x := by
  intro fuel
  induction fuel with
  | zero => intro x S _ _ _ y hy; exact .inl hy
  | succ fuel ih =>
    intro x S hx hn hl y hy
    unfold walkF at hy
    cases hs : S.getD x true with
    | true => rw [hs] at hy; exact .inl hy
    | false =>
      rw [hs] at hy
      simp only [Bool.false_eq_true, if_false] at hy
      rcases ih (nxt (stk h) x) (S.set x true) (hn x hx) hn (by rw [List.length_set]; exact hl) y hy with h1 | h1
      · rw [sn_set (by omega)] at h1
        by_cases e : y = x
        · exact .inr (by rw [e])
        · rw [if_neg e] at h1; exact .inl h1
      · rw [cls_next hh hx] at h1; exact .inr h1
def newN (k : Nat) : Nat := ((List.range k).filter fun j => decide (clsS j = j)).length
theorem newN_succ (k : Nat) : newN (k + 1) = newN k + if clsS k = k then 1 else 0 := by
  unfold newN
  rw [List.range_succ, List.filter_append, List.length_append]
  by_cases c : clsS k = k
  · rw [if_pos c, List.filter_cons_of_pos (by simpa using c)]; rfl
  · rw [if_neg c, List.filter_cons_of_neg (by simpa using c)]; rfl
theorem newN4 : ∀ q, newN (4 * (q + 1)) = 2 * (q + 1) + 2 := by
  intro q
  induction q with
  | zero => decide
  | succ q ih =>
    rw [show 4 * (q + 1 + 1) = 4 * (q + 1) + 1 + 1 + 1 + 1 by omega, newN_succ, newN_succ, newN_succ, newN_succ, ih, if_pos (cS0 (by omega)), if_neg (by rw [cS1 (by omega)]; omega), if_neg (by rw [cS2 (by omega)]; omega), if_pos (cS0 (by omega))]
    omega
theorem stk_state (hh : h ≤ 500000) : ∀ k, k ≤ 4 * h → (∀ y, y < 8 * h → sn (walksK (nxt (stk h)) (8 * h) k).2 y = decide (clsH h y < k)) ∧ (walksK (nxt (stk h)) (8 * h) k).1.length = newN k := by
  have hnd : nD (stk h) = 8 * h := by unfold nD; rw [stk_len, stk_axl]; omega
  have hm := maps (stk_ok hh)
  rw [hnd, stk_len, show 2 * (2 * h) = 4 * h by omega] at hm
  intro k
  induction k with
  | zero =>
    intro _
    refine ⟨fun y hy => ?_, rfl⟩
    rw [decide_eq_false (by omega)]
    exact sn_rep hy
  | succ k ih =>
    intro hk
    obtain ⟨i1, i2⟩ := ih (by omega)
    obtain ⟨hcl, hsn⟩ := walksK_closed hm (k + 1) hk
    have hlen := walksK_len (nxt (stk h)) (8 * h) k
    have hks := i1 k (by omega)
    rw [cHs (by omega)] at hks
    have hst := walksK_succ (nxt (stk h)) (8 * h) k
    unfold walkStep at hst
    by_cases c : clsS k = k
    · rw [c, decide_eq_false (Nat.lt_irrefl k)] at hks
      have hks' : (walksK (nxt (stk h)) (8 * h) k).2.getD k true = false := hks
      simp only [hks', Bool.false_eq_true, if_false] at hst
      refine ⟨fun y hy => ?_, ?_⟩
      · by_cases e : clsH h y = k
        · rw [cls_closed hh hcl hy, e, hsn k (by omega), decide_eq_true (by omega)]
        · have hw := walkF_cls hh ((walksK (nxt (stk h)) (8 * h) k).2.length + 1) k (walksK (nxt (stk h)) (8 * h) k).2 (by omega) hm.lt hlen y
          have hsub := walkF_sub (nxt (stk h)) ((walksK (nxt (stk h)) (8 * h) k).2.length + 1) k (walksK (nxt (stk h)) (8 * h) k).2 y
          rw [cHs (x := k) (by omega), c] at hw
          have h2 : (walksK (nxt (stk h)) (8 * h) (k + 1)).2 = (walkF (nxt (stk h)) ((walksK (nxt (stk h)) (8 * h) k).2.length + 1) k (walksK (nxt (stk h)) (8 * h) k).2).2 := by rw [hst]
          rw [h2]
          have hd : decide (clsH h y < k + 1) = decide (clsH h y < k) := decide_eq_decide.2 (by omega)
          rw [hd, ← i1 y hy]
          cases hb : sn (walksK (nxt (stk h)) (8 * h) k).2 y with
          | true => exact hsub hb
          | false =>
            cases hb2 : sn (walkF (nxt (stk h)) ((walksK (nxt (stk h)) (8 * h) k).2.length + 1) k (walksK (nxt (stk h)) (8 * h) k).2).2 y with
            | false => rfl
            | true =>
              rcases hw hb2 with h1 | h1
              · rw [hb] at h1; cases h1
              · exact absurd h1 e
      · rw [hst, newN_succ, if_pos c]
        simp only [List.length_append, List.length_cons, List.length_nil, i2]
    · have hlt : clsS k < k := by
        rcases (show (k % 4 = 0 ∨ k % 4 = 3) ∨ k % 4 = 2 ∨ k % 4 = 1 by omega) with d | d | d
        · exact absurd (cS0 d) c
        · rw [cS2 d] at c ⊢; omega
        · rw [cS1 d] at c ⊢; omega
      rw [decide_eq_true hlt] at hks
      have hks' : (walksK (nxt (stk h)) (8 * h) k).2.getD k true = true := hks
      simp only [hks', if_true] at hst
      refine ⟨fun y hy => ?_, ?_⟩
      · rw [hst, i1 y hy]
        refine decide_eq_decide.2 ⟨fun h1 => by omega, fun h1 => ?_⟩
        rcases Nat.lt_succ_iff_lt_or_eq.1 h1 with h2 | h2
        · exact h2
        · obtain ⟨h3, h4⟩ := cls_idem hy
          rw [h2, cHs (by omega)] at h4
          exact absurd h4 c
      · rw [hst, newN_succ, if_neg c, i2]; rfl
theorem stk_walks (hh : h ≤ 500000) (h1 : 1 ≤ h) : nWalks (stk h) = 2 * h + 2 := by
  have hnd : nD (stk h) = 8 * h := by unfold nD; rw [stk_len, stk_axl]; omega
  have hm := maps (stk_ok hh)
  rw [hnd, stk_len, show 2 * (2 * h) = 4 * h by omega] at hm
  have h2 : nWalks (stk h) = (walksK (nxt (stk h)) (8 * h) (8 * h)).1.length := by
    rw [← hnd]; rfl
  rw [h2, walksK_end hm (8 * h) (by omega) (Nat.le_refl _), (stk_state hh (4 * h) (Nat.le_refl _)).2]
  obtain ⟨q, rfl⟩ : ∃ q, h = q + 1 := ⟨h - 1, by omega⟩
  exact newN4 q
theorem stk_check (h1 : 1 ≤ h) (h2 : h ≤ 200) : checkR 1 (stk h) = 0 := by
  unfold checkR
  have hne : stk h ≠ [] := List.length_pos_iff.1 (by rw [stk_len]; omega)
  have hv : validR 1 (stk h) = true := by
    unfold validR
    rw [stk_at (show 0 < 2 * h by omega), stk_letters, stk_walks (by omega) h1, stk_all, stk_noC]
    simp
  rw [stk_len, stk_noC, if_neg (by omega), if_neg (by omega), if_neg hne, hv]
  rfl
theorem stk_fine (h1 : 1 ≤ h) (h2 : h ≤ 200) : Fine 1 (stk h) := by
  obtain ⟨F, hF, g⟩ := fine_of (stk_check h1 h2) (List.length_pos_iff.1 (by rw [stk_len]; omega))
  have : F = 1 := by omega
  subst this
  exact g
end
end Go.Abs
