/-
  Plain laws: the program and the document tell the same codes from others, and see the same axis.
-/
import Derived.Test.YtdfaoeikkkfkoaaGreatDoorWc
set_option linter.unusedSimpArgs false
set_option linter.unusedVariables false
set_option linter.unusedSectionVars false
namespace Go.Abs
/-- exactly one: no other one -/
theorem cnt_one {p : Let → Bool} {ls : List Let} {i : Nat} {l : Let} (h : ls[i]? = some l) (hp : p l = true) : cnt p ls = 1 ↔ ∀ j m, ls[j]? = some m → p m = true → j = i := by
  obtain ⟨hi, e⟩ := List.getElem?_eq_some_iff.1 h
  have hs : ls = ls.take i ++ l :: ls.drop (i + 1) := by rw [← e, List.getElem_cons_drop]; simp
  have hc : cnt p ls = cnt p (ls.take i) + (cnt p (ls.drop (i + 1)) + 1) := by
    conv => lhs; rw [hs]
    simp [cnt, List.countP_append, List.countP_cons, hp]
  constructor
  · intro h1 j m hj hm
    have z1 : cnt p (ls.take i) = 0 := by omega
    have z2 : cnt p (ls.drop (i + 1)) = 0 := by omega
    have z1 := List.countP_eq_zero.1 z1
    have z2 := List.countP_eq_zero.1 z2
    rcases Nat.lt_trichotomy j i with hji | hji | hji
    · have : m ∈ ls.take i := List.mem_of_getElem? (i := j) (by rw [List.getElem?_take, if_pos hji, hj])
      exact absurd hm (z1 m this)
    · exact hji
    · have : m ∈ ls.drop (i + 1) := List.mem_of_getElem? (i := j - (i + 1)) (by rw [List.getElem?_drop, show i + 1 + (j - (i + 1)) = j by omega, hj])
      exact absurd hm (z2 m this)
  · intro hu
    have z1 : cnt p (ls.take i) = 0 := by
      refine List.countP_eq_zero.2 fun m hm hpm => ?_
      obtain ⟨j, hj⟩ := List.getElem?_of_mem hm
      have hji : j < i := by
        have := (List.getElem?_eq_some_iff.1 hj).1
        rw [List.length_take] at this; omega
      rw [List.getElem?_take, if_pos hji] at hj
      have := hu j m hj hpm; omega
    have z2 : cnt p (ls.drop (i + 1)) = 0 := by
      refine List.countP_eq_zero.2 fun m hm hpm => ?_
      obtain ⟨j, hj⟩ := List.getElem?_of_mem hm
      rw [List.getElem?_drop] at hj
      have := hu _ m hj hpm; omega
    omega
theorem cnt_le_one {p : Let → Bool} {ls : List Let} (h : ∀ (i j : Nat) (l m : Let), ls[i]? = some l → ls[j]? = some m → p l = true → p m = true → i = j) : cnt p ls ≤ 1 := by
  by_cases hz : cnt p ls = 0
  · omega
  · have : 0 < ls.countP p := Nat.pos_of_ne_zero hz
    obtain ⟨l, hl, hp⟩ := List.countP_pos_iff.1 this
    obtain ⟨i, hi⟩ := List.getElem?_of_mem hl
    have := (cnt_one hi hp).2 fun j m hj hm => h j i m l hj hi hm hp
    omega
/-- a pass whose gate is one and whose rank is one of its gate's -/
structure goodP (F : Nat) (ls : List Let) (l : Let) : Prop where
  g0 : 0 ≤ l.gate
  g1 : l.gate ≤ (F : Int)
  r0 : 1 ≤ l.rank
  r1 : l.rank ≤ (cg ls l.gate.toNat : Int)
theorem pl_eq {F : Nat} {ls : List Let} {l m : Let} (hl : goodP F ls l) (hm : goodP F ls m) : plOf ls l = plOf ls m ↔ l.gate = m.gate ∧ l.rank = m.rank := by
  obtain ⟨l1, l2, l3, l4⟩ := hl
  obtain ⟨m1, m2, m3, m4⟩ := hm
  unfold plOf
  constructor
  · intro h
    have sl := firstG_succ ls l.gate.toNat
    have sm := firstG_succ ls m.gate.toNat
    rcases Nat.lt_trichotomy l.gate.toNat m.gate.toNat with c | c | c
    · have := firstG_mono (ls := ls) (show l.gate.toNat + 1 ≤ m.gate.toNat by omega)
      omega
    · rw [c] at h; omega
    · have := firstG_mono (ls := ls) (show m.gate.toNat + 1 ≤ l.gate.toNat by omega)
      omega
  · rintro ⟨h1, h2⟩; rw [h1, h2]
theorem pl_lt {F : Nat} {ls : List Let} {l m : Let} (hl : goodP F ls l) (hm : goodP F ls m) : leftB l m = true ↔ plOf ls l < plOf ls m := by
  obtain ⟨l1, l2, l3, l4⟩ := hl
  obtain ⟨m1, m2, m3, m4⟩ := hm
  unfold plOf leftB
  simp only [Bool.or_eq_true, Bool.and_eq_true, decide_eq_true_eq, beq_iff_eq]
  have sl := firstG_succ ls l.gate.toNat
  have sm := firstG_succ ls m.gate.toNat
  rcases Nat.lt_trichotomy l.gate.toNat m.gate.toNat with c | c | c
  · have := firstG_mono (ls := ls) (show l.gate.toNat + 1 ≤ m.gate.toNat by omega)
    omega
  · rw [c]; omega
  · have := firstG_mono (ls := ls) (show m.gate.toNat + 1 ≤ l.gate.toNat by omega)
    omega
theorem pl_T {F : Nat} {ls : List Let} {l : Let} (hl : goodP F ls l) : plOf ls l < firstG ls (F + 1) := by
  obtain ⟨l1, l2, l3, l4⟩ := hl
  unfold plOf
  have sl := firstG_succ ls l.gate.toNat
  have := firstG_mono (ls := ls) (show l.gate.toNat + 1 ≤ F + 1 by omega)
  omega
theorem rk_iff {ls : List Let} {i : Nat} {l : Let} (h : ls[i]? = some l) (hp : l.isP = true) : rkOk ls i = true ↔ 1 ≤ l.rank ∧ l.rank ≤ (cg ls l.gate.toNat : Int) ∧ ∀ j m, j < i → ls[j]? = some m → m.isP = true → plOf ls m ≠ plOf ls l := by
  simp only [rkOk, h, hp, Bool.not_true, Bool.false_or, Bool.and_eq_true, decide_eq_true_eq, Bool.not_eq_true', List.any_eq_false, List.mem_range]
  constructor
  · rintro ⟨⟨h1, h2⟩, h3⟩
    refine ⟨h1, h2, fun j m hj hm hpm e => ?_⟩
    have := h3 j hj
    rw [hereP_eq hm hpm] at this
    simp [e] at this
  · rintro ⟨h1, h2, h3⟩
    refine ⟨⟨h1, h2⟩, fun j hj => ?_⟩
    unfold hereP
    split
    · rename_i m hm
      cases hpm : m.isP with
      | false => simp
      | true => simpa using h3 j m hj hm hpm
    · simp
/-- what it is that the ranks are in order -/
theorem ranks_iff {F : Nat} {ls : List Let} (hg : gates F ls) : ranksR ls = true ↔ (∀ l ∈ ls, l.isP = true → goodP F ls l) ∧ ∀ (i j : Nat) (l m : Let), ls[i]? = some l → ls[j]? = some m → l.isP = true → m.isP = true → plOf ls l = plOf ls m → i = j := by
  unfold ranksR
  rw [List.all_eq_true]
  constructor
  · intro h
    refine ⟨fun l hl hp => ?_, fun i j l m hi hj hpl hpm e => ?_⟩
    · obtain ⟨i, hi⟩ := List.getElem?_of_mem hl
      have := (rk_iff hi hp).1 (h i (List.mem_range.2 (List.getElem?_eq_some_iff.1 hi).1))
      exact ⟨(hg l hl hp).1, (hg l hl hp).2, this.1, this.2.1⟩
    · have ci := (rk_iff hi hpl).1 (h i (List.mem_range.2 (List.getElem?_eq_some_iff.1 hi).1))
      have cj := (rk_iff hj hpm).1 (h j (List.mem_range.2 (List.getElem?_eq_some_iff.1 hj).1))
      rcases Nat.lt_trichotomy i j with c | c | c
      · exact absurd e (cj.2.2 i l c hi hpl)
      · exact c
      · exact absurd e.symm (ci.2.2 j m c hj hpm)
  · rintro ⟨h1, h2⟩ i hi
    obtain ⟨l, hl⟩ := at_lt (List.mem_range.1 hi)
    cases hp : l.isP with
    | false => simp [rkOk, hl, hp]
    | true =>
      have hg := h1 l (List.mem_of_getElem? hl) hp
      refine (rk_iff hl hp).2 ⟨hg.r0, hg.r1, fun j m hj hm hpm e => ?_⟩
      have := h2 j i m l hm hl hpm hp e
      omega
theorem inG_atG (g : Int) (h : 0 ≤ g) (l : Let) : inG g l = atG g.toNat l := by
  unfold inG atG
  rw [Int.toNat_of_nonneg h]
theorem not_badP {f : Int} {l : Let} (hp : l.isP = true) : badL f l = false ↔ (((0 ≤ l.gate ∧ l.gate ≤ f) ∧ l.id = 0) ∧ l.sign = 0) ∧ l.over = false := by
  unfold Let.isP at hp
  simp only [badL, hp, if_true, Bool.or_eq_false_iff, decide_eq_false_iff_not, bne_eq_false_iff_eq, Int.not_lt]
theorem okP_iff {f : Int} {ls : List Let} {l : Let} (hp : l.isP = true) : okP f ls l = true ↔ badL f l = false ∧ 1 ≤ l.rank ∧ l.rank ≤ (cnt (inG l.gate) ls : Int) ∧ cnt (sameB l) ls = 1 := by
  rw [not_badP hp]
  unfold okP
  simp only [Bool.not_eq_true', Bool.or_eq_false_iff, decide_eq_false_iff_not, bne_eq_false_iff_eq]
  constructor
  · rintro ⟨⟨⟨⟨⟨⟨⟨a, b⟩, c⟩, d⟩, e⟩, g⟩, h⟩, i⟩
    exact ⟨⟨⟨⟨⟨by omega, by omega⟩, a⟩, b⟩, c⟩, by omega, by omega, by omega⟩
  · rintro ⟨⟨⟨⟨⟨d, e⟩, a⟩, b⟩, c⟩, g, h, i⟩
    exact ⟨⟨⟨⟨⟨⟨⟨a, b⟩, c⟩, by omega⟩, by omega⟩, by omega⟩, by omega⟩, by omega⟩
theorem same_iff {l m : Let} (hp : l.isP = true) : sameB l m = true ↔ m.isP = true ∧ m.gate = l.gate ∧ m.rank = l.rank := by
  unfold Let.isP at hp ⊢
  simp only [beq_iff_eq] at hp
  unfold sameB
  simp only [Bool.and_eq_true, beq_iff_eq, hp, and_assoc]
/-- the letters that are passes: both ways of telling that they are right -/
theorem passes_law {F : Nat} {ls : List Let} : (∀ l ∈ ls, l.isP = true → okP F ls l = true) ↔ (∀ l ∈ ls, l.isP = true → badL F l = false) ∧ ranksR ls = true := by
  constructor
  · intro h
    have hb : ∀ l ∈ ls, l.isP = true → badL F l = false := fun l hl hp => ((okP_iff hp).1 (h l hl hp)).1
    have hg : gates F ls := fun l hl hp => ((not_badP hp).1 (hb l hl hp)).1.1.1
    refine ⟨hb, (ranks_iff hg).2 ⟨fun l hl hp => ?_, fun i j l m hi hj hpl hpm e => ?_⟩⟩
    · obtain ⟨_, h2, h3, _⟩ := (okP_iff hp).1 (h l hl hp)
      have := hg l hl hp
      refine ⟨this.1, this.2, h2, ?_⟩
      have e : cnt (inG l.gate) ls = cg ls l.gate.toNat := by unfold cg cnt; congr 1; funext m; exact inG_atG _ this.1 m
      omega
    · have gl : goodP F ls l := by
        obtain ⟨_, h2, h3, _⟩ := (okP_iff hpl).1 (h l (List.mem_of_getElem? hi) hpl)
        have := hg l (List.mem_of_getElem? hi) hpl
        have e : cnt (inG l.gate) ls = cg ls l.gate.toNat := by unfold cg cnt; congr 1; funext m; exact inG_atG _ this.1 m
        exact ⟨this.1, this.2, h2, by omega⟩
      have gm : goodP F ls m := by
        obtain ⟨_, h2, h3, _⟩ := (okP_iff hpm).1 (h m (List.mem_of_getElem? hj) hpm)
        have := hg m (List.mem_of_getElem? hj) hpm
        have e : cnt (inG m.gate) ls = cg ls m.gate.toNat := by unfold cg cnt; congr 1; funext m; exact inG_atG _ this.1 m
        exact ⟨this.1, this.2, h2, by omega⟩
      have e2 := (pl_eq gl gm).1 e
      have hs := ((okP_iff hpm).1 (h m (List.mem_of_getElem? hj) hpm)).2.2.2
      exact (cnt_one hj ((same_iff hpm).2 ⟨hpm, rfl, rfl⟩)).1 hs i l hi ((same_iff hpm).2 ⟨hpl, e2.1, e2.2⟩)
  · rintro ⟨hb, hr⟩ l hl hp
    have hg : gates F ls := fun l hl hp => ((not_badP hp).1 (hb l hl hp)).1.1.1
    obtain ⟨h1, h2⟩ := (ranks_iff hg).1 hr
    have gl := h1 l hl hp
    have e : cnt (inG l.gate) ls = cg ls l.gate.toNat := by unfold cg cnt; congr 1; funext m; exact inG_atG _ gl.g0 m
    obtain ⟨i, hi⟩ := List.getElem?_of_mem hl
    refine (okP_iff hp).2 ⟨hb l hl hp, gl.r0, by rw [e]; exact gl.r1, (cnt_one hi ((same_iff hp).2 ⟨hp, rfl, rfl⟩)).2 fun j m hj hs => ?_⟩
    obtain ⟨hpm, eg, er⟩ := (same_iff hp).1 hs
    exact h2 j i m l hj hi hpm hp ((pl_eq (h1 m (List.mem_of_getElem? hj) hpm) gl).2 ⟨eg, er⟩)
end Go.Abs
namespace Go.Abs
def hitO (id : Int) (o : Bool) (l : Let) : Bool := l.isC && (l.id == id && l.over == o)
theorem hit_hitO {ls : List Let} {j : Nat} {m : Let} (h : ls[j]? = some m) (id : Int) (o : Bool) : hit ls id o j = hitO id o m := by simp [hit, hitO, h]
theorem hitO_iff {id : Int} {o : Bool} {l : Let} : hitO id o l = true ↔ l.isC = true ∧ l.id = id ∧ l.over = o := by
  unfold hitO; simp only [Bool.and_eq_true, beq_iff_eq]
/-- visits of one crossing: one over, one not, with one sign -/
def pairsOK (ls : List Let) : Prop := ∀ (i j : Nat) (l m : Let), ls[i]? = some l → ls[j]? = some m → l.isC = true → m.isC = true → l.id = m.id → i ≠ j → l.over ≠ m.over ∧ l.sign = m.sign
def idsOK (ls : List Let) : Prop := ∀ l ∈ ls, l.isC = true → 1 ≤ l.id ∧ l.id ≤ ((cnt Let.isC ls / 2 : Nat) : Int)
theorem xOk_iff {ls : List Let} {n2 k : Nat} {l : Let} (h : ls[k]? = some l) (hc : l.isC = true) : xOk ls n2 k = true ↔ (1 ≤ l.id ∧ l.id ≤ (n2 : Int)) ∧ visJ ls k l.id l.over = none ∧ ∀ j, visJ ls k l.id (!l.over) = some j → signAt ls j = l.sign := by
  simp only [xOk, h, hc, Bool.not_true, Bool.false_or, Bool.and_eq_true, decide_eq_true_eq, Option.isNone_iff_eq_none]
  constructor
  · rintro ⟨h1, h2, h3⟩
    refine ⟨h1, h2, fun j hj => ?_⟩
    rw [hj] at h3
    simpa using h3
  · rintro ⟨h1, h2, h3⟩
    refine ⟨h1, h2, ?_⟩
    split
    · rename_i j hj
      simpa using h3 j hj
    · rfl
theorem x_all {ls : List Let} : (∀ k, k < ls.length → xOk ls (cnt Let.isC ls / 2) k = true) ↔ idsOK ls ∧ pairsOK ls := by
  constructor
  · intro h
    have hx : ∀ {k : Nat} {l : Let}, ls[k]? = some l → l.isC = true → _ := fun {k l} hk hc => (xOk_iff (n2 := cnt Let.isC ls / 2) hk hc).1 (h k (List.getElem?_eq_some_iff.1 hk).1)
    refine ⟨fun l hl hc => ?_, ?_⟩
    · obtain ⟨i, hi⟩ := List.getElem?_of_mem hl
      exact (hx hi hc).1
    · have key : ∀ (i j : Nat) (l m : Let), ls[i]? = some l → ls[j]? = some m → l.isC = true → m.isC = true → l.id = m.id → i < j → l.over ≠ m.over ∧ l.sign = m.sign := by
        intro i j l m hi hj hcl hcm he hij
        obtain ⟨_, hn, hs⟩ := hx hj hcm
        have ho : l.over ≠ m.over := by
          intro e
          have := visJ_none hn hij
          rw [hit_hitO hi, hitO_iff.2 ⟨hcl, he, e⟩] at this
          cases this
        refine ⟨ho, ?_⟩
        have ho' : l.over = !m.over := by revert ho; cases l.over <;> cases m.over <;> simp
        cases hv : visJ ls j m.id (!m.over) with
        | none =>
          have := visJ_none hv hij
          rw [hit_hitO hi, hitO_iff.2 ⟨hcl, he, ho'⟩] at this
          cases this
        | some p =>
          have h3 := hs p hv
          obtain ⟨hp1, hp2⟩ := visJ_some hv
          obtain ⟨x, hpx, hxc, hxi, hxo⟩ := hit_some hp2
          have : p = i := by
            rcases Nat.lt_trichotomy p i with c | c | c
            · have hn2 := (hx hi hcl).2.1
              have := visJ_none hn2 c
              rw [hit_hitO hpx, hitO_iff.2 ⟨hxc, by rw [hxi, he], by rw [hxo, ho']⟩] at this
              cases this
            · exact c
            · have h4 : (List.range j).find? (hit ls m.id (!m.over)) = some p := hv
              rw [List.find?_range_eq_some] at h4
              have := h4.2.2 i c
              rw [hit_hitO hi, hitO_iff.2 ⟨hcl, he, ho'⟩] at this
              cases this
          subst this
          rw [hi] at hpx
          cases hpx
          simpa [signAt, hi] using h3
      intro i j l m hi hj hcl hcm he hij
      rcases Nat.lt_or_gt_of_ne hij with c | c
      · exact key i j l m hi hj hcl hcm he c
      · have := key j i m l hj hi hcm hcl he.symm c
        exact ⟨fun e => this.1 e.symm, this.2.symm⟩
  · rintro ⟨h1, h2⟩ k hk
    obtain ⟨l, hl⟩ := at_lt hk
    cases hc : l.isC with
    | false => simp [xOk, hl, hc]
    | true =>
      refine (xOk_iff hl hc).2 ⟨h1 l (List.mem_of_getElem? hl) hc, ?_, fun j hj => ?_⟩
      · cases hv : visJ ls k l.id l.over with
        | none => rfl
        | some p =>
          obtain ⟨hp1, hp2⟩ := visJ_some hv
          obtain ⟨x, hpx, hxc, hxi, hxo⟩ := hit_some hp2
          exact absurd hxo (h2 p k x l hpx hl hxc hc hxi (by omega)).1
      · obtain ⟨hp1, hp2⟩ := visJ_some hj
        obtain ⟨x, hpx, hxc, hxi, hxo⟩ := hit_some hp2
        have := (h2 j k x l hpx hl hxc hc hxi (by omega)).2
        simp [signAt, hpx, this]
theorem sum_ids (ls : List Let) : ∀ ids : List Int, ids.Nodup → (ids.map fun id => cnt (isId id) ls).sum = cnt (fun l => l.isC && ids.contains l.id) ls := by
  intro ids
  induction ids with
  | nil => intro _; simp [cnt]
  | cons a ids ih =>
    intro hn
    rw [List.nodup_cons] at hn
    rw [List.map_cons, List.sum_cons, ih hn.2]
    refine (countP_or (p := isId a) (q := fun l => l.isC && ids.contains l.id) (r := fun l => l.isC && (a :: ids).contains l.id) ?_ ?_ ls).symm
    · intro l
      simp only [isId, Bool.and_eq_true, beq_iff_eq, List.contains_eq_mem, decide_eq_true_eq, List.mem_cons]
      constructor
      · rintro ⟨h1, h2 | h2⟩
        · exact .inl ⟨h1, h2⟩
        · exact .inr ⟨h1, h2⟩
      · rintro (⟨h1, h2⟩ | ⟨h1, h2⟩)
        · exact ⟨h1, .inl h2⟩
        · exact ⟨h1, .inr h2⟩
    · intro l
      simp only [isId, Bool.and_eq_true, beq_iff_eq, List.contains_eq_mem, decide_eq_true_eq]
      rintro ⟨_, h1⟩ ⟨_, h2⟩
      exact hn.1 (h1 ▸ h2)
theorem ids_cover {ls : List Let} {l : Let} (hl : l ∈ ls) (hc : l.isC = true) : l.id ∈ idsK ls ls.length := by
  obtain ⟨i, hi⟩ := List.getElem?_of_mem hl
  refine (ids_mem (Nat.le_refl _)).2 ⟨i, l.over, (List.getElem?_eq_some_iff.1 hi).1, ?_⟩
  rw [hit_hitO hi]
  exact hitO_iff.2 ⟨hc, rfl, rfl⟩
theorem sum_all (ls : List Let) : ((idsK ls ls.length).map fun id => cnt (isId id) ls).sum = cnt Let.isC ls := by
  rw [sum_ids _ _ (ids_nodup ls _)]
  apply List.countP_congr
  intro l hl
  cases hc : l.isC with
  | false => simp
  | true => simp [ids_cover hl hc]
theorem isId_split (id : Int) (ls : List Let) : cnt (isId id) ls = cnt (hitO id true) ls + cnt (hitO id false) ls := by
  refine countP_or ?_ ?_ ls
  · intro l
    rw [hitO_iff, hitO_iff]
    simp only [isId, Bool.and_eq_true, beq_iff_eq]
    cases l.over <;> simp
  · intro l
    rw [hitO_iff, hitO_iff]
    rintro ⟨_, _, h1⟩ ⟨_, _, h2⟩
    rw [h1] at h2; cases h2
theorem isId_split' (id : Int) (o : Bool) (ls : List Let) : cnt (isId id) ls = cnt (hitO id o) ls + cnt (hitO id (!o)) ls := by
  rw [isId_split]
  cases o with
  | true => rfl
  | false => simp only [Bool.not_false]; omega
theorem hitO_le {ls : List Let} (h : pairsOK ls) (id : Int) (o : Bool) : cnt (hitO id o) ls ≤ 1 := by
  refine cnt_le_one fun i j l m hi hj hl hm => ?_
  obtain ⟨l1, l2, l3⟩ := hitO_iff.1 hl
  obtain ⟨m1, m2, m3⟩ := hitO_iff.1 hm
  refine Decidable.byContradiction fun hne => ?_
  exact (h i j l m hi hj l1 m1 (by rw [l2, m2]) hne).1 (by rw [l3, m3])
theorem sum_le {f : Int → Nat} : ∀ ids : List Int, (∀ x ∈ ids, f x ≤ 2) → (ids.map f).sum ≤ 2 * ids.length := by
  intro ids
  induction ids with
  | nil => intro _; simp
  | cons a ids ih =>
    intro h
    have := ih fun x hx => h x (List.mem_cons_of_mem _ hx)
    have := h a List.mem_cons_self
    simp only [List.map_cons, List.sum_cons, List.length_cons]; omega
theorem all_two {f : Int → Nat} : ∀ ids : List Int, (∀ x ∈ ids, f x ≤ 2) → (ids.map f).sum = 2 * ids.length → ∀ x ∈ ids, f x = 2 := by
  intro ids
  induction ids with
  | nil => intro _ _ x hx; cases hx
  | cons a ids ih =>
    intro h hs
    have h1 := sum_le ids fun x hx => h x (List.mem_cons_of_mem _ hx)
    have h2 := h a List.mem_cons_self
    simp only [List.map_cons, List.sum_cons, List.length_cons] at hs
    intro x hx
    rcases List.mem_cons.1 hx with rfl | hx
    · omega
    · exact ih (fun x hx => h x (List.mem_cons_of_mem _ hx)) (by omega) x hx
theorem sum_two {f : Int → Nat} : ∀ ids : List Int, (∀ x ∈ ids, f x = 2) → (ids.map f).sum = 2 * ids.length := by
  intro ids
  induction ids with
  | nil => intro _; simp
  | cons a ids ih =>
    intro h
    have := ih fun x hx => h x (List.mem_cons_of_mem _ hx)
    have := h a List.mem_cons_self
    simp only [List.map_cons, List.sum_cons, List.length_cons]; omega
theorem pair_iff {l m : Let} (hc : l.isC = true) : pairB l m = true ↔ m.isC = true ∧ m.id = l.id ∧ m.sign = l.sign ∧ m.over = !l.over := by
  unfold Let.isC at hc ⊢
  simp only [beq_iff_eq] at hc
  unfold pairB
  simp only [Bool.and_eq_true, beq_iff_eq, hc, and_assoc, Bool.not_eq_true', beq_eq_false_iff_ne, ne_eq]
  cases l.over <;> cases m.over <;> simp
theorem not_badC {f : Int} {l : Let} (hc : l.isC = true) : badL f l = false ↔ (l.gate = 0 ∧ l.rank = 0) ∧ (l.sign != 1 && l.sign != -1) = false := by
  unfold Let.isC at hc
  have h1 : (l.kind == 1) = false := by
    simp only [beq_iff_eq] at hc
    rw [hc]; rfl
  simp only [badL, hc, h1, if_true, Bool.or_eq_false_iff, bne_eq_false_iff_eq]
  simp
theorem okC_iff {f : Int} {ls : List Let} {l : Let} (hc : l.isC = true) : okC ls l = true ↔ badL f l = false ∧ (1 ≤ l.id ∧ l.id ≤ ((cnt Let.isC ls / 2 : Nat) : Int)) ∧ cnt (pairB l) ls = 1 ∧ cnt (isId l.id) ls = 2 := by
  rw [not_badC hc]
  unfold okC
  simp only [Bool.not_eq_true', Bool.or_eq_false_iff, decide_eq_false_iff_not, bne_eq_false_iff_eq]
  constructor
  · rintro ⟨⟨⟨⟨⟨⟨a, b⟩, c⟩, d⟩, e⟩, g⟩, h⟩
    exact ⟨⟨⟨a, b⟩, c⟩, ⟨by omega, by omega⟩, by omega, by omega⟩
  · rintro ⟨⟨⟨a, b⟩, c⟩, ⟨d, e⟩, g, h⟩
    exact ⟨⟨⟨⟨⟨⟨a, b⟩, c⟩, by omega⟩, by omega⟩, by omega⟩, by omega⟩
theorem cross_law {f : Int} {ls : List Let} : (∀ l ∈ ls, l.isC = true → okC ls l = true) ↔ (∀ l ∈ ls, l.isC = true → badL f l = false) ∧ crossR ls = true := by
  have hsum := sum_all ls
  constructor
  · intro h
    have hall := fun l hl hc => (okC_iff (f := f) hc).1 (h l hl hc)
    have hp : pairsOK ls := by
      intro i j l m hi hj hcl hcm he hij
      obtain ⟨_, _, h3, h4⟩ := hall l (List.mem_of_getElem? hi) hcl
      have e1 := isId_split' l.id l.over ls
      have g1 : 0 < cnt (hitO l.id l.over) ls := List.countP_pos_iff.2 ⟨l, List.mem_of_getElem? hi, hitO_iff.2 ⟨hcl, rfl, rfl⟩⟩
      obtain ⟨x, hx, hxp⟩ := List.countP_pos_iff.1 (show 0 < ls.countP (pairB l) by show 0 < cnt (pairB l) ls; omega)
      obtain ⟨x1, x2, x3, x4⟩ := (pair_iff hcl).1 hxp
      have g2 : 0 < cnt (hitO l.id (!l.over)) ls := List.countP_pos_iff.2 ⟨x, hx, hitO_iff.2 ⟨x1, x2, x4⟩⟩
      have u1 : cnt (hitO l.id l.over) ls = 1 := by omega
      have u2 : cnt (hitO l.id (!l.over)) ls = 1 := by omega
      have ho : l.over ≠ m.over := by
        intro e
        have := (cnt_one hi (hitO_iff.2 ⟨hcl, rfl, rfl⟩)).1 u1 j m hj (hitO_iff.2 ⟨hcm, he.symm, e.symm⟩)
        exact hij this.symm
      refine ⟨ho, ?_⟩
      have ho' : m.over = !l.over := by revert ho; cases l.over <;> cases m.over <;> simp
      obtain ⟨p, hpx⟩ := List.getElem?_of_mem hx
      have := (cnt_one hj (hitO_iff.2 ⟨hcm, he.symm, ho'⟩)).1 u2 p x hpx (hitO_iff.2 ⟨x1, x2, x4⟩)
      subst this
      rw [hpx] at hj
      cases hj
      exact x3.symm
    have htwo : ∀ id ∈ idsK ls ls.length, cnt (isId id) ls = 2 := by
      intro id hid
      obtain ⟨j, o, h1, h2⟩ := (ids_mem (Nat.le_refl _)).1 hid
      obtain ⟨m, hm, hc, hi, _⟩ := hit_some h2
      rw [← hi]
      exact (hall m (List.mem_of_getElem? hm) hc).2.2.2
    rw [sum_two _ htwo] at hsum
    refine ⟨fun l hl hc => (hall l hl hc).1, ?_⟩
    have hx := (x_all (ls := ls)).2 ⟨fun l hl hc => (hall l hl hc).2.1, hp⟩
    rw [cross_yes (by omega) hx]
    simp only [beq_iff_eq]; omega
  · rintro ⟨hb, hr⟩ l hl hc
    unfold crossR at hr
    simp only [Bool.and_eq_true, beq_iff_eq, List.all_eq_true, List.mem_range] at hr
    obtain ⟨⟨he, hx⟩, hlen⟩ := hr
    obtain ⟨hid, hp⟩ := x_all.1 hx
    have hle : ∀ id ∈ idsK ls ls.length, cnt (isId id) ls ≤ 2 := fun id _ => by
      rw [isId_split id]
      have := hitO_le hp id true
      have := hitO_le hp id false
      omega
    have h2 := all_two _ hle (by rw [hsum, hlen]; omega) l.id (ids_cover hl hc)
    have e1 := isId_split' l.id l.over ls
    have b1 := hitO_le hp l.id l.over
    have b2 := hitO_le hp l.id (!l.over)
    refine (okC_iff hc).2 ⟨hb l hl hc, hid l hl hc, ?_, h2⟩
    have u2 : cnt (hitO l.id (!l.over)) ls = 1 := by omega
    obtain ⟨i, hi⟩ := List.getElem?_of_mem hl
    obtain ⟨x, hx, hxp⟩ := List.countP_pos_iff.1 (show 0 < ls.countP (hitO l.id (!l.over)) by show 0 < cnt (hitO l.id (!l.over)) ls; omega)
    obtain ⟨p, hpx⟩ := List.getElem?_of_mem hx
    obtain ⟨x1, x2, x3⟩ := hitO_iff.1 hxp
    have hpi : p ≠ i := by
      rintro rfl
      rw [hi] at hpx
      cases hpx
      revert x3; cases l.over <;> simp
    have hsg := (hp p i x l hpx hi x1 hc x2 hpi).2
    refine (cnt_one hpx ((pair_iff hc).2 ⟨x1, x2, hsg, x3⟩)).2 fun j m hj hm => ?_
    obtain ⟨m1, m2, m3, m4⟩ := (pair_iff hc).1 hm
    exact (cnt_one hpx hxp).1 u2 j m hj (hitO_iff.2 ⟨m1, m2, m4⟩)
end Go.Abs
namespace Go.Abs
theorem bad_kind {f : Int} {l : Let} (h : badL f l = false) : l.isP = true ∨ l.isC = true := by
  unfold Let.isP Let.isC
  cases h1 : (l.kind == 1) with
  | true => exact .inl rfl
  | false =>
    cases h2 : (l.kind == 2) with
    | true => exact .inr rfl
    | false => simp only [badL, h1, h2] at h; cases h
theorem notBoth {l : Let} (hp : l.isP = true) : l.isC = false := by
  unfold Let.isP at hp; unfold Let.isC
  simp only [beq_iff_eq] at hp
  rw [hp]; rfl
theorem okL_P {f : Int} {ls : List Let} {l : Let} (hp : l.isP = true) : okL f ls l = okP f ls l := by
  unfold Let.isP at hp
  simp only [okL, hp, if_true]
theorem okL_C {f : Int} {ls : List Let} {l : Let} (hp : l.isC = true) : okL f ls l = okC ls l := by
  unfold Let.isC at hp
  have h1 : (l.kind == 1) = false := by
    simp only [beq_iff_eq] at hp
    rw [hp]; rfl
  simp only [okL, hp, h1, if_true]
  simp
theorem letters_law {F : Nat} {ls : List Let} : lettersR F ls = true ↔ ls.any (badL F) = false ∧ ranksR ls = true ∧ crossR ls = true := by
  unfold lettersR
  rw [List.all_eq_true, List.any_eq_false]
  have e1 := passes_law (F := F) (ls := ls)
  have e2 := cross_law (f := (F : Int)) (ls := ls)
  constructor
  · intro h
    have hk := fun {l : Let} (hl : l ∈ ls) => letters_kind (f := F) (ls := ls) (List.all_eq_true.2 h) (List.getElem?_of_mem hl).choose_spec
    obtain ⟨p1, p2⟩ := e1.1 fun l hl hp => by rw [← okL_P hp]; exact h l hl
    obtain ⟨c1, c2⟩ := e2.1 fun l hl hc => by rw [← okL_C (f := F) hc]; exact h l hl
    refine ⟨fun l hl => ?_, p2, c2⟩
    rcases hk hl with hp | hc
    · rw [p1 l hl hp]; simp
    · rw [c1 l hl hc]; simp
  · rintro ⟨hb, hr, hc⟩ l hl
    have hb : ∀ l ∈ ls, badL F l = false := fun l hl => by simpa using hb l hl
    rcases bad_kind (hb l hl) with hp | hc'
    · rw [okL_P hp]; exact e1.2 ⟨fun l hl _ => hb l hl, hr⟩ l hl hp
    · rw [okL_C hc']; exact e2.2 ⟨fun l hl _ => hb l hl, hc⟩ l hl hc'
theorem sorted_range {o : List Nat} (hs : o.Pairwise (· < ·)) (hlt : ∀ x ∈ o, x < o.length) : ∀ (k : Nat) (h : k < o.length), o[k] = k := by
  rw [List.pairwise_iff_getElem] at hs
  have lo : ∀ (k : Nat) (h : k < o.length), k ≤ o[k] := by
    intro k
    induction k with
    | zero => intro _; omega
    | succ k ih =>
      intro h
      have := ih (by omega)
      have := hs k (k + 1) (by omega) h (by omega)
      omega
  have hi : ∀ (d k : Nat) (h : k < o.length), k + d + 1 = o.length → o[k] ≤ k := by
    intro d
    induction d with
    | zero =>
      intro k h e
      have := hlt _ (List.getElem_mem h)
      omega
    | succ d ih =>
      intro k h e
      have := ih (k + 1) (by omega) (by omega)
      have := hs k (k + 1) h (by omega) (by omega)
      omega
  intro k h
  have := lo k h
  have := hi (o.length - k - 1) k h (by omega)
  omega
theorem ins_sorted {key : Nat → Nat} {p : Nat → Bool} {i : Nat} : ∀ {o : List Nat}, o.Pairwise (fun a b => key a < key b) → (∀ x ∈ o, p x = decide (key x < key i)) → (∀ x ∈ o, key x ≠ key i) →
    (o.take (o.takeWhile p).length ++ i :: o.drop (o.takeWhile p).length).Pairwise (fun a b => key a < key b) := by
  intro o
  induction o with
  | nil => intro _ _ _; simp
  | cons a o ih =>
    intro hs hp hn
    rw [List.pairwise_cons] at hs
    have pa := hp a List.mem_cons_self
    have na := hn a List.mem_cons_self
    by_cases hlt : key a < key i
    · have pa' : p a = true := by rw [pa]; simpa using hlt
      rw [List.takeWhile_cons, if_pos pa']
      simp only [List.length_cons, List.take_succ_cons, List.drop_succ_cons, List.cons_append]
      rw [List.pairwise_cons]
      refine ⟨fun b hb => ?_, ih hs.2 (fun x hx => hp x (List.mem_cons_of_mem _ hx)) (fun x hx => hn x (List.mem_cons_of_mem _ hx))⟩
      rcases List.mem_append.1 hb with hb | hb
      · exact hs.1 b (List.mem_of_mem_take hb)
      · rcases List.mem_cons.1 hb with rfl | hb
        · exact hlt
        · exact hs.1 b (List.mem_of_mem_drop hb)
    · have pa' : ¬ p a = true := by rw [pa]; simpa using hlt
      rw [List.takeWhile_cons, if_neg pa']
      simp only [List.length_nil, List.take_zero, List.drop_zero, List.nil_append]
      rw [List.pairwise_cons, List.pairwise_cons]
      refine ⟨fun b hb => ?_, hs⟩
      rcases List.mem_cons.1 hb with rfl | hb
      · omega
      · have := hs.1 b hb; omega
theorem plI_of {ls : List Let} {i : Nat} {l : Let} (h : ls[i]? = some l) (hp : l.isP = true) : plI ls i = plOf ls l := by simp [plI, h, hp]
/-- ranks in order, and what follows -/
structure axOK (F : Nat) (ls : List Let) : Prop where
  good : ∀ l ∈ ls, l.isP = true → goodP F ls l
  inj : ∀ (i j : Nat) (l m : Let), ls[i]? = some l → ls[j]? = some m → l.isP = true → m.isP = true → plOf ls l = plOf ls m → i = j
theorem axisK_sorted {F : Nat} {ls : List Let} (h : axOK F ls) : ∀ k, k ≤ ls.length → (axisK ls k).Pairwise (fun a b => plI ls a < plI ls b) := by
  intro k
  induction k with
  | zero => intro _; simp [axisK]
  | succ k ih =>
    intro hk
    have ih := ih (by omega)
    rw [axisK_succ]
    obtain ⟨l, hl⟩ := at_lt (show k < ls.length by omega)
    unfold axStep
    rw [hl]
    simp only
    cases hp : l.isP with
    | false => simpa using ih
    | true =>
      simp only [if_true]
      unfold insA
      have hm := fun {x : Nat} (hx : x ∈ axisK ls k) => (axisK_mem (ls := ls) (k := k) (by omega)).1 hx
      refine ins_sorted ih (fun x hx => ?_) (fun x hx e => ?_)
      · obtain ⟨h1, m, hm, hmp⟩ := hm hx
        rw [plI_of hm hmp, plI_of hl hp]
        unfold leftAt
        rw [hm, hl]
        simp only
        have := pl_lt (h.good m (List.mem_of_getElem? hm) hmp) (h.good l (List.mem_of_getElem? hl) hp)
        cases hb : leftB m l with
        | true => simpa using this.1 hb
        | false =>
          symm
          rw [decide_eq_false_iff_not]
          intro hc
          rw [this.2 hc] at hb; cases hb
      · obtain ⟨h1, m, hm, hmp⟩ := hm hx
        rw [plI_of hm hmp, plI_of hl hp] at e
        have := h.inj x k m l hm hl hmp hp e
        omega
theorem axisK_cnt {ls : List Let} : ∀ k, k ≤ ls.length → (axisK ls k).length = cnt Let.isP (ls.take k) := by
  intro k
  induction k with
  | zero => intro _; simp [axisK, cnt]
  | succ k ih =>
    intro hk
    have ih := ih (by omega)
    rw [axisK_succ]
    obtain ⟨l, hl⟩ := at_lt (show k < ls.length by omega)
    unfold axStep
    rw [hl]
    simp only
    cases hp : l.isP with
    | false => rw [cnt_miss hl hp]; simpa using ih
    | true =>
      simp only [if_true]
      rw [insA_len, cnt_hit hl hp, ih]
theorem axisR_len {ls : List Let} : (axisR ls).length = cnt Let.isP ls := by
  have := axisK_cnt (ls := ls) ls.length (Nat.le_refl _)
  rwa [List.take_length] at this
theorem T_len {F : Nat} {ls : List Let} (h : gates F ls) : firstG ls (F + 1) = (axisR ls).length := by
  rw [axisR_len, firstG_cnt]
  apply List.countP_congr
  intro l hl
  cases hp : l.isP with
  | false => simp
  | true =>
    have := h l hl hp
    simp only [Bool.true_and, Bool.and_eq_true, decide_eq_true_eq, iff_true]
    omega
theorem axOK.gates {F : Nat} {ls : List Let} (h : axOK F ls) : gates F ls := fun l hl hp => ⟨(h.good l hl hp).g0, (h.good l hl hp).g1⟩
/-- at each place of the axis is the pass that has it -/
theorem axis_at {F : Nat} {ls : List Let} (h : axOK F ls) {k i : Nat} (hk : (axisR ls)[k]? = some i) : ∃ l, ls[i]? = some l ∧ l.isP = true ∧ plOf ls l = k := by
  have hs : ((axisR ls).map (plI ls)).Pairwise (· < ·) := by
    rw [List.pairwise_map]
    exact axisK_sorted h ls.length (Nat.le_refl _)
  have hT := T_len h.gates
  have hlt : ∀ x ∈ (axisR ls).map (plI ls), x < ((axisR ls).map (plI ls)).length := by
    intro x hx
    obtain ⟨j, hj, rfl⟩ := List.mem_map.1 hx
    obtain ⟨l, hl, hp⟩ := axisR_mem.1 hj
    rw [plI_of hl hp, List.length_map, ← hT]
    exact pl_T (h.good l (List.mem_of_getElem? hl) hp)
  obtain ⟨hk1, hk2⟩ := List.getElem?_eq_some_iff.1 hk
  have := sorted_range hs hlt k (by rw [List.length_map]; exact hk1)
  rw [List.getElem_map, hk2] at this
  obtain ⟨l, hl, hp⟩ := axisR_mem.1 (List.mem_of_getElem? hk)
  exact ⟨l, hl, hp, by rw [← plI_of hl hp]; exact this⟩
theorem axis_place {F : Nat} {ls : List Let} (h : axOK F ls) {i : Nat} {l : Let} (hl : ls[i]? = some l) (hp : l.isP = true) : (axisR ls)[plOf ls l]? = some i := by
  have hlt := pl_T (h.good l (List.mem_of_getElem? hl) hp)
  rw [T_len h.gates] at hlt
  obtain ⟨j, hj⟩ := at_lt hlt
  obtain ⟨m, hm, hmp, he⟩ := axis_at h hj
  rw [hj, h.inj j i m l hm hl hmp hp he]
theorem axis_idx {F : Nat} {ls : List Let} (h : axOK F ls) {i : Nat} {l : Let} (hl : ls[i]? = some l) (hp : l.isP = true) : (axisR ls).idxOf i = plOf ls l := by
  have h1 := axis_place h hl hp
  have h2 := idxOf_get (List.mem_of_getElem? h1)
  obtain ⟨m, hm, hmp, he⟩ := axis_at h h2
  rw [hl] at hm
  cases hm
  exact he.symm
theorem axis_law {F : Nat} {ls : List Let} (h : axOK F ls) : axPK ls (firstG ls (F + 1)) ls.length = axisR ls := by
  apply List.ext_getElem
  · rw [axPK_len, T_len h.gates]
  · intro k h1 h2
    simp only [axPK, List.getElem_map, List.getElem_range]
    obtain ⟨l, hl, hp, he⟩ := axis_at h (List.getElem?_eq_getElem h2)
    generalize (axisR ls)[k] = i at hl
    unfold axP
    have hin := (List.getElem?_eq_some_iff.1 hl).1
    have hf : (List.range ls.length).find? (hereP ls k) = some i := by
      refine find_range hin (fun j hj => ?_) ?_
      · cases hh : hereP ls k j with
        | false => rfl
        | true =>
          unfold hereP at hh
          split at hh
          · rename_i m hm
            simp only [Bool.and_eq_true, beq_iff_eq] at hh
            have := h.inj j i m l hm hl hh.1 hp (by rw [hh.2, he])
            omega
          · cases hh
      · rw [hereP_eq hl hp]; simp [he]
    rw [hf]; rfl
/-- the other visit of a crossing -/
theorem other_law {ls : List Let} (hr : crossR ls = true) {i : Nat} {l : Let} (hl : ls[i]? = some l) (hc : l.isC = true) : visJ ls ls.length l.id (!l.over) = some (otherR ls i) ∧ otherR ls i < ls.length := by
  have hsum := sum_all ls
  unfold crossR at hr
  simp only [Bool.and_eq_true, beq_iff_eq, List.all_eq_true, List.mem_range] at hr
  obtain ⟨⟨he, hx⟩, hlen⟩ := hr
  obtain ⟨hid, hp⟩ := x_all.1 hx
  have hle : ∀ id ∈ idsK ls ls.length, cnt (isId id) ls ≤ 2 := fun id _ => by
    rw [isId_split id]
    have := hitO_le hp id true
    have := hitO_le hp id false
    omega
  have h2 := all_two _ hle (by rw [hsum, hlen]; omega) l.id (ids_cover (List.mem_of_getElem? hl) hc)
  have e1 := isId_split' l.id l.over ls
  have b1 := hitO_le hp l.id l.over
  have b2 := hitO_le hp l.id (!l.over)
  obtain ⟨x, hx, hxp⟩ := List.countP_pos_iff.1 (show 0 < ls.countP (hitO l.id (!l.over)) by show 0 < cnt (hitO l.id (!l.over)) ls; omega)
  obtain ⟨p, hpx⟩ := List.getElem?_of_mem hx
  obtain ⟨x1, x2, x3⟩ := hitO_iff.1 hxp
  have hpn := (List.getElem?_eq_some_iff.1 hpx).1
  have hpi : p ≠ i := by
    rintro rfl
    rw [hl] at hpx
    cases hpx
    revert x3; cases l.over <;> simp
  have uniq : ∀ (j : Nat) (m : Let), ls[j]? = some m → m.isC = true → m.id = l.id → j ≠ i → j = p := by
    intro j m hj mc mi hji
    refine Decidable.byContradiction fun hne => ?_
    have o1 := (hp j i m l hj hl mc hc mi hji).1
    have o2 := (hp j p m x hj hpx mc x1 (by rw [mi, x2]) hne).1
    rw [x3] at o2
    revert o1 o2; cases m.over <;> cases l.over <;> simp
  have hfo : (List.range ls.length).find? (otherP ls i) = some p := by
    refine find_range hpn (fun j hj => ?_) ?_
    · cases hh : otherP ls i j with
      | false => rfl
      | true =>
        unfold otherP at hh
        simp only [Bool.and_eq_true, bne_iff_ne, ne_eq] at hh
        obtain ⟨h1, h2⟩ := hh
        split at h2
        · rename_i m hm
          simp only [Bool.and_eq_true, beq_iff_eq, hl, Option.map_some, Option.getD_some] at h2
          have := uniq j m hm h2.1 h2.2 h1
          omega
        · cases h2
    · unfold otherP
      rw [hpx]
      simp [hpi, x1, hl, x2]
  have ho : otherR ls i = p := by
    unfold otherR
    rw [hfo]; rfl
  rw [ho]
  refine ⟨?_, hpn⟩
  unfold visJ
  refine find_range hpn (fun j hj => ?_) ?_
  · cases hh : hit ls l.id (!l.over) j with
    | false => rfl
    | true =>
      obtain ⟨m, hm, mc, mi, mo⟩ := hit_some hh
      have hji : j ≠ i := by
        rintro rfl
        rw [hl] at hm
        cases hm
        revert mo; cases l.over <;> simp
      have := uniq j m hm mc mi hji
      omega
  · rw [hit_hitO hpx]; exact hxp
end Go.Abs
