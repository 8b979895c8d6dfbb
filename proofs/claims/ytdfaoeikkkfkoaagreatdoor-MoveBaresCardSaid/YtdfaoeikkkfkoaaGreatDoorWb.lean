/-
  How the program reads the ranks of a code; visits of crossings.
-/
import Derived.Test.YtdfaoeikkkfkoaaGreatDoorWa
import Derived.Test.YtdfaoeikkkfkoaaGreatDoorMf
set_option linter.unusedSimpArgs false
set_option linter.unusedVariables false
set_option linter.unusedSectionVars false
namespace Go.Abs
set_option maxRecDepth 100000
/-- a pass of this gate -/
def atG (g : Nat) (l : Let) : Bool := l.isP && l.gate == (g : Int)
abbrev cg (ls : List Let) (g : Nat) : Nat := cnt (atG g) ls
def countsK (ls : List Let) (F k : Nat) : List Nat := (List.range (F + 1)).map fun g => cg (ls.take k) g
def counts (ls : List Let) (F : Nat) : List Nat := (List.range (F + 1)).map (cg ls)
theorem countsK_at {ls : List Let} {F k G : Nat} (h : G ≤ F) : (countsK ls F k)[G]? = some (cg (ls.take k) G) := by
  simp [countsK, List.getElem?_range (show G < F + 1 by omega)]
theorem countsK_all (ls : List Let) (F : Nat) : countsK ls F ls.length = counts ls F := by simp [countsK, counts]
theorem countsK_zero (ls : List Let) (F : Nat) : countsK ls F 0 = List.replicate (F + 1) 0 := by
  apply List.ext_getElem <;> simp [countsK, cnt]
theorem countsK_miss {ls : List Let} {F k : Nat} {l : Let} (h : ls[k]? = some l) (hp : l.isP = false) : countsK ls F (k + 1) = countsK ls F k := by
  unfold countsK
  congr 1
  funext g
  exact cnt_miss h (by simp [atG, hp])
theorem countsK_hit {ls : List Let} {F k G : Nat} {l : Let} (h : ls[k]? = some l) (hp : l.isP = true) (hg : l.gate = (G : Int)) :
    countsK ls F (k + 1) = (countsK ls F k).set G (cg (ls.take k) G + 1) := by
  apply List.ext_getElem
  · simp [countsK]
  · intro i h1 h2
    rw [List.getElem_set]
    simp only [countsK, List.getElem_map, List.getElem_range]
    split
    · rename_i e
      subst e
      exact cnt_hit h (by simp [atG, hp, hg])
    · exact cnt_miss h (by simp [atG, hg]; intro _ e; omega)
theorem nP_set (o : List Nat) (k n : Nat) : (nP o).set k [.int .i64 (n : Int)] = nP (o.set k n) := by simp [List.map_set]
theorem nP_rep (n m : Nat) : nP (List.replicate n m) = List.replicate n [.int .i64 (m : Int)] := by simp
theorem bP_rep (n : Nat) (b : Bool) : bP (List.replicate n b) = List.replicate n [.bool b] := by simp
theorem dn_hit {ls : List Let} {k : Nat} {l : Let} (h : ls[k]? = some l) (hp : l.isP = true) : dn ls (k + 1) = !dn ls k := by
  unfold dn
  rw [cnt_hit h hp]
  cases hc : (cnt Let.isP (ls.take k) % 2 == 0) with
  | true => simp at hc ⊢; omega
  | false => simp at hc ⊢; omega
theorem dn_miss {ls : List Let} {k : Nat} {l : Let} (h : ls[k]? = some l) (hp : l.isP = false) : dn ls (k + 1) = dn ls k := by
  unfold dn
  rw [cnt_miss h hp]
/-- the passes that go down -/
def dnP (ls : List Let) (i : Nat) : Bool := match ls[i]? with | some l => l.isP && dn ls i | none => false
def downsK (ls : List Let) (k : Nat) : List Bool := (List.range ls.length).map fun i => decide (i < k) && dnP ls i
def downs (ls : List Let) : List Bool := (List.range ls.length).map (dnP ls)
theorem downsK_zero (ls : List Let) : downsK ls 0 = List.replicate ls.length false := by
  apply List.ext_getElem <;> simp [downsK]
theorem downsK_all (ls : List Let) : downsK ls ls.length = downs ls := by
  unfold downsK downs
  apply List.map_congr_left
  intro i hi
  simp [List.mem_range.1 hi]
theorem downsK_len (ls : List Let) (k : Nat) : (downsK ls k).length = ls.length := by simp [downsK]
theorem downsK_miss {ls : List Let} {k : Nat} {l : Let} (h : ls[k]? = some l) (hp : l.isP = false) : downsK ls (k + 1) = downsK ls k := by
  unfold downsK
  apply List.map_congr_left
  intro i hi
  by_cases e : i = k
  · subst e; simp [dnP, h, hp]
  · have : (i < k + 1) ↔ (i < k) := by omega
    simp [this]
theorem downsK_hit {ls : List Let} {k : Nat} {l : Let} (h : ls[k]? = some l) (hp : l.isP = true) : downsK ls (k + 1) = (downsK ls k).set k (dn ls k) := by
  apply List.ext_getElem
  · simp [downsK]
  · intro i h1 h2
    rw [List.getElem_set]
    simp only [downsK, List.getElem_map, List.getElem_range]
    split
    · rename_i e
      subst e
      simp [dnP, h, hp]
    · have : (i < k + 1) ↔ (i < k) := by omega
      simp [this]
/-- the passes of the gates before this one -/
def firstG (ls : List Let) (g : Nat) : Nat := ((List.range g).map (cg ls)).sum
theorem firstG_succ (ls : List Let) (g : Nat) : firstG ls (g + 1) = firstG ls g + cg ls g := by simp [firstG, List.range_succ]
def firstsK (ls : List Let) (F k : Nat) : List Nat := (List.range (F + 1)).map fun g => if g < k then firstG ls g else 0
def firsts (ls : List Let) (F : Nat) : List Nat := (List.range (F + 1)).map (firstG ls)
theorem firstsK_zero (ls : List Let) (F : Nat) : firstsK ls F 0 = List.replicate (F + 1) 0 := by
  apply List.ext_getElem <;> simp [firstsK]
theorem firstsK_all (ls : List Let) (F : Nat) : firstsK ls F (F + 1) = firsts ls F := by
  unfold firstsK firsts
  apply List.map_congr_left
  intro i hi
  simp [List.mem_range.1 hi]
theorem firstsK_len (ls : List Let) (F k : Nat) : (firstsK ls F k).length = F + 1 := by simp [firstsK]
theorem firstsK_set (ls : List Let) (F k : Nat) : firstsK ls F (k + 1) = (firstsK ls F k).set k (firstG ls k) := by
  apply List.ext_getElem
  · simp [firstsK]
  · intro i h1 h2
    rw [List.getElem_set]
    simp only [firstsK, List.getElem_map, List.getElem_range]
    by_cases e : k = i
    · subst e; simp
    · have : (i < k + 1) ↔ (i < k) := by omega
      simp only [this, if_neg e]
theorem counts_at {ls : List Let} {F G : Nat} (h : G ≤ F) : (counts ls F)[G]? = some (cg ls G) := by
  simp [counts, List.getElem?_range (show G < F + 1 by omega)]
theorem firsts_at {ls : List Let} {F G : Nat} (h : G ≤ F) : (firsts ls F)[G]? = some (firstG ls G) := by
  simp [firsts, List.getElem?_range (show G < F + 1 by omega)]
theorem firstG_mono {ls : List Let} {a b : Nat} (h : a ≤ b) : firstG ls a ≤ firstG ls b := by
  induction h with
  | refl => exact Nat.le_refl _
  | step _ ih => rw [firstG_succ]; omega
theorem atG_split (g : Nat) (a : Let) : ((a.isP && (decide (0 ≤ a.gate) && decide (a.gate < ((g + 1 : Nat) : Int)))) = true) ↔ ((a.isP && (decide (0 ≤ a.gate) && decide (a.gate < (g : Int)))) = true ∨ atG g a = true) := by
  simp only [atG, Bool.and_eq_true, decide_eq_true_eq, beq_iff_eq]
  constructor
  · rintro ⟨h1, h2, h3⟩
    by_cases h : a.gate = (g : Int)
    · exact Or.inr ⟨h1, h⟩
    · exact Or.inl ⟨h1, h2, by omega⟩
  · rintro (⟨h1, h2, h3⟩ | ⟨h1, h2⟩)
    · exact ⟨h1, h2, by omega⟩
    · exact ⟨h1, by omega, by omega⟩
theorem atG_not (g : Nat) (a : Let) : (a.isP && (decide (0 ≤ a.gate) && decide (a.gate < (g : Int)))) = true → atG g a = true → False := by
  simp only [atG, Bool.and_eq_true, decide_eq_true_eq, beq_iff_eq]
  omega
theorem countP_or {p q r : Let → Bool} (h : ∀ a, r a = true ↔ (p a = true ∨ q a = true)) (hn : ∀ a, p a = true → q a = true → False) : ∀ ls : List Let, ls.countP r = ls.countP p + ls.countP q := by
  intro ls
  induction ls with
  | nil => rfl
  | cons a ls ih =>
    rw [List.countP_cons, List.countP_cons, List.countP_cons, ih]
    have h1 := h a
    have h2 := hn a
    cases ep : p a <;> cases eq : q a <;> cases er : r a <;> simp_all <;> omega
theorem firstG_cnt (ls : List Let) : ∀ g, firstG ls g = cnt (fun l => l.isP && (decide (0 ≤ l.gate) && decide (l.gate < ((g : Nat) : Int)))) ls := by
  intro g
  induction g with
  | zero =>
    symm
    show ls.countP _ = 0
    rw [List.countP_eq_zero]
    intro a _
    simp only [Bool.and_eq_true, decide_eq_true_eq]
    omega
  | succ g ih =>
    rw [firstG_succ, ih]
    exact (countP_or (atG_split g) (atG_not g) ls).symm
theorem firstG_le (ls : List Let) (g : Nat) : firstG ls g ≤ ls.length := by rw [firstG_cnt]; exact cnt_le _ _
/-- a pass's place on the axis -/
def plOf (ls : List Let) (l : Let) : Nat := firstG ls l.gate.toNat + l.rank.toNat - 1
def hereP (ls : List Let) (p i : Nat) : Bool := match ls[i]? with | some l => l.isP && plOf ls l == p | none => false
def takenK (ls : List Let) (T k : Nat) : List Bool := (List.range T).map fun p => (List.range k).any (hereP ls p)
def axP (ls : List Let) (k p : Nat) : Nat := ((List.range k).find? (hereP ls p)).getD 0
def axPK (ls : List Let) (T k : Nat) : List Nat := (List.range T).map (axP ls k)
def plI (ls : List Let) (i : Nat) : Nat := match ls[i]? with | some l => if l.isP then plOf ls l else 0 | none => 0
def plK (ls : List Let) (k : Nat) : List Nat := (List.range ls.length).map fun i => if i < k then plI ls i else 0
/-- a pass's rank is one of its gate's, and no pass before it has it -/
def rkOk (ls : List Let) (i : Nat) : Bool := match ls[i]? with
  | some l => !l.isP || (decide (1 ≤ l.rank) && decide (l.rank ≤ (cg ls l.gate.toNat : Int))) && !(List.range i).any (hereP ls (plOf ls l))
  | none => true
def ranksR (ls : List Let) : Bool := (List.range ls.length).all (rkOk ls)
theorem takenK_zero (ls : List Let) (T : Nat) : takenK ls T 0 = List.replicate T false := by
  apply List.ext_getElem <;> simp [takenK]
theorem axPK_zero (ls : List Let) (T : Nat) : axPK ls T 0 = List.replicate T 0 := by
  apply List.ext_getElem <;> simp [axPK, axP]
theorem plK_zero (ls : List Let) : plK ls 0 = List.replicate ls.length 0 := by
  apply List.ext_getElem <;> simp [plK]
theorem axPK_len (ls : List Let) (T k : Nat) : (axPK ls T k).length = T := by simp [axPK]
theorem plK_len (ls : List Let) (k : Nat) : (plK ls k).length = ls.length := by simp [plK]
theorem takenK_at {ls : List Let} {T k p : Nat} (h : p < T) : (takenK ls T k)[p]? = some ((List.range k).any (hereP ls p)) := by simp [takenK, h]
theorem hereP_miss {ls : List Let} {k p : Nat} {l : Let} (h : ls[k]? = some l) (hp : l.isP = false) : hereP ls p k = false := by simp [hereP, h, hp]
theorem takenK_miss {ls : List Let} {T k : Nat} {l : Let} (h : ls[k]? = some l) (hp : l.isP = false) : takenK ls T (k + 1) = takenK ls T k := by
  unfold takenK; congr 1; funext p; simp [List.range_succ, List.any_append, hereP_miss h hp]
theorem axPK_miss {ls : List Let} {T k : Nat} {l : Let} (h : ls[k]? = some l) (hp : l.isP = false) : axPK ls T (k + 1) = axPK ls T k := by
  unfold axPK; congr 1; funext p; simp [axP, List.range_succ, List.find?_append, hereP_miss h hp]
theorem plK_miss {ls : List Let} {k : Nat} {l : Let} (h : ls[k]? = some l) (hp : l.isP = false) : plK ls (k + 1) = plK ls k := by
  unfold plK
  apply List.map_congr_left
  intro i hi
  by_cases e : i = k
  · subst e; simp [plI, h, hp]
  · have : (i < k + 1) ↔ (i < k) := by omega
    simp [this]
theorem hereP_eq {ls : List Let} {k p : Nat} {l : Let} (h : ls[k]? = some l) (hp : l.isP = true) : hereP ls p k = (plOf ls l == p) := by simp [hereP, h, hp]
theorem takenK_hit {ls : List Let} {T k : Nat} {l : Let} (h : ls[k]? = some l) (hp : l.isP = true) : takenK ls T (k + 1) = (takenK ls T k).set (plOf ls l) true := by
  apply List.ext_getElem
  · simp [takenK]
  · intro i h1 h2
    rw [List.getElem_set]
    simp only [takenK, List.getElem_map, List.getElem_range, List.range_succ, List.any_append, List.any_cons, List.any_nil, Bool.or_false, hereP_eq h hp]
    split
    · rename_i e; simp [e]
    · rename_i e; simp [e]
theorem axPK_hit {ls : List Let} {T k : Nat} {l : Let} (h : ls[k]? = some l) (hp : l.isP = true) (hn : (List.range k).any (hereP ls (plOf ls l)) = false) : axPK ls T (k + 1) = (axPK ls T k).set (plOf ls l) k := by
  apply List.ext_getElem
  · simp [axPK]
  · intro i h1 h2
    rw [List.getElem_set]
    simp only [axPK, List.getElem_map, List.getElem_range, axP, List.range_succ, List.find?_append]
    by_cases e : plOf ls l = i
    · have h3 : (List.range k).find? (hereP ls i) = none := by
        rw [← e, List.find?_eq_none]
        intro x hx hq
        rw [List.any_eq_false] at hn
        exact hn x hx hq
      have h4 : hereP ls i k = true := by rw [hereP_eq h hp]; simp [e]
      rw [h3, if_pos e, List.find?_cons, h4]
      rfl
    · have h4 : hereP ls i k = false := by rw [hereP_eq h hp]; simp [e]
      rw [if_neg e, List.find?_cons, h4]
      simp
theorem plK_hit {ls : List Let} {k : Nat} {l : Let} (h : ls[k]? = some l) (hp : l.isP = true) : plK ls (k + 1) = (plK ls k).set k (plOf ls l) := by
  apply List.ext_getElem
  · simp [plK]
  · intro i h1 h2
    rw [List.getElem_set]
    simp only [plK, List.getElem_map, List.getElem_range]
    by_cases e : k = i
    · subst e; simp [plI, h, hp]
    · have : (i < k + 1) ↔ (i < k) := by omega
      simp only [this, if_neg e]
theorem ranks_no {ls : List Let} {k : Nat} (hk : k < ls.length) (h : rkOk ls k = false) : ranksR ls = false := by
  unfold ranksR
  rw [List.all_eq_false]
  exact ⟨k, List.mem_range.2 hk, by simp [h]⟩
theorem ranks_yes {ls : List Let} (h : ∀ i, i < ls.length → rkOk ls i = true) : ranksR ls = true := by
  unfold ranksR
  rw [List.all_eq_true]
  exact fun i hi => h i (List.mem_range.1 hi)
end Go.Abs
namespace Go.Abs
set_option maxRecDepth 100000
abbrev K437 (id : Nat) : Prop := id = 2176320128 ∨ siteFn id = 88
abbrev dgC (F : Nat) (ls : List Let) (c2 c3 c4 c5 c6 : C) : List C := [.p (.int .i64 (F : Int)), .p (lsP ls), c2, c3, c4, c5, c6]
abbrev hs (id g n : Nat) : C := .hsl id g 1 0 n
abbrev gates (F : Nat) (ls : List Let) : Prop := ∀ l ∈ ls, l.isP = true → 0 ≤ l.gate ∧ l.gate ≤ (F : Int)
def rkPost (F : Nat) (ls : List Let) (g : Nat) (c5 : C) (blk0 : Blk) (v : V) (blk' : Blk) : Prop :=
  v = vb (ranksR ls) ∧ Kept K437 blk0 blk' ∧ (ranksR ls = true → ∃ g1 g2 g3 g5, blk' 2176320128 = (g, some (.var (dgC F ls (hs 5632128448 g2 ls.length) (hs 5633344128 g5 (firstG ls (F + 1))) (hs 5632192448 g3 ls.length) c5 (hs 5632064448 g1 (F + 1))))) ∧
    blk' 5632064448 = (g1, some (.arr 3 1 (nP (counts ls F)))) ∧ blk' 5632128448 = (g2, some (.arr 4 1 (bP (downs ls)))) ∧ blk' 5632192448 = (g3, some (.arr 3 1 (nP (plK ls ls.length)))) ∧
    blk' 5633344128 = (g5, some (.arr 3 1 (nP (axPK ls (firstG ls (F + 1)) ls.length)))))
set_option maxHeartbeats 4000000 in
theorem rk3 {al : Al} (okD : al.ok 2176320128 = true) (ok : ∀ id, siteFn id = 88 → al.ok id = true) {blk0 blk : Blk} {env : Env} {g g1 g2 g3 g4 F : Nat} {ls : List Let} {c3 c5 : C} (hl : ls.length ≤ 1000000) (hF : F ≤ 1000000) (hg : gates F ls)
    (h0 : env 0 = .one (.href 2176320128 g 0)) (h6 : env 6 = .one (hs 5632832384 g4 (F + 1))) (h7 : env 7 = vi (firstG ls (F + 1)))
    (bD : blk 2176320128 = (g, some (.var (dgC F ls (hs 5632128448 g2 ls.length) c3 (hs 5632192448 g3 ls.length) c5 (hs 5632064448 g1 (F + 1))))))
    (bC : blk 5632064448 = (g1, some (.arr 3 1 (nP (counts ls F))))) (bW : blk 5632128448 = (g2, some (.arr 4 1 (bP (downs ls))))) (bP' : blk 5632192448 = (g3, some (.arr 3 1 (nP (plK ls 0)))))
    (bF : blk 5632832384 = (g4, some (.arr 3 1 (nP (firsts ls F))))) (hk : Kept K437 blk0 blk) : W S al i88_r5 (endQ al [(2, none)] (rkPost F ls g c5 blk0)) env blk := by
  have o1 := ok 5632064448 rfl
  have o2 := ok 5632128448 rfl
  have o3 := ok 5632192448 rfl
  have o4 := ok 5632448192 rfl
  have o5 := ok 5632832384 rfl
  have o6 := ok 5633344128 rfl
  have o7 := ok 5633408064 rfl
  have o8 := ok 5633600192 rfl
  have hT := firstG_le ls (F + 1)
  have hr8 : firstG ls (F + 1) * 8 ≤ 140737488355328 := by omega
  have hr1 : firstG ls (F + 1) ≤ 140737488355328 := by omega
  simp only [↓Rd, Rt, Rl, Rb, gP_done_al, dP_done_al, oks_nil, oks_cons, Bool.and_self, plan, binV, binInt, eqV, isNilV, app, if_true, if_false, reduceIte, Nat.reduceEqDiff, beq_self_eq_true, reduceCtorEq, ge_iff_le, resultsV, noTup, tupV, fnOf, Nat.reduceAdd, rdAt, takeV, wrAt, splice, cellsV, lenL, ne_eq, Nat.reduceLeDiff, partsV, elemsV, toPss, toPs, toP, fill, Nat.reduceMul, Nat.reduceLT, snapHsl, snapHref, i88_r5, h0, h7, bD, hr8, hr1, okD, o1, o2, o3, o4, o5, o6, o7, o8, planAppend, elemsOf, szOf, szOK, frz, frzL, room, planSlice, boundOf, Nat.reduceSub, Int.reduceLT, Int.reduceAdd, Int.reduceBEq, Int.reduceBNe, Int.reduceLE, List.contains_eq_mem, frzL_nil, onesC, snap_hfn, snapHfn_some, snap_href_s, snap_hsl_s]
  refine R_for (fun k env blk' => env 0 = .one (.href 2176320128 g 0) ∧ env 6 = .one (hs 5632832384 g4 (F + 1)) ∧ env 10 = .one (hs 5633408064 ((blk 5633408064).1 + 1) (firstG ls (F + 1))) ∧ env 114 = .one (.p (lsP ls)) ∧ env 115 = vi ls.length ∧ env 116 = vi k ∧
    blk' 2176320128 = (g, some (.var (dgC F ls (hs 5632128448 g2 ls.length) (hs 5633344128 ((blk 5633344128).1 + 1) (firstG ls (F + 1))) (hs 5632192448 g3 ls.length) c5 (hs 5632064448 g1 (F + 1))))) ∧
    blk' 5632064448 = (g1, some (.arr 3 1 (nP (counts ls F)))) ∧ blk' 5632128448 = (g2, some (.arr 4 1 (bP (downs ls)))) ∧ blk' 5632192448 = (g3, some (.arr 3 1 (nP (plK ls k)))) ∧
    blk' 5632832384 = (g4, some (.arr 3 1 (nP (firsts ls F)))) ∧ blk' 5633344128 = ((blk 5633344128).1 + 1, some (.arr 3 1 (nP (axPK ls (firstG ls (F + 1)) k)))) ∧ blk' 5633408064 = ((blk 5633408064).1 + 1, some (.arr 4 1 (bP (takenK ls (firstG ls (F + 1)) k)))) ∧
    (∀ i, i < k → rkOk ls i = true) ∧ Kept K437 blk0 blk') 0 ls.length (Nat.zero_le _) ?_ ?_
  · simp only [↓Rd, Rt, Rl, Rb, gP_done_al, dP_done_al, oks_nil, oks_cons, Bool.and_self, plan, binV, binInt, eqV, isNilV, app, if_true, if_false, reduceIte, Nat.reduceEqDiff, beq_self_eq_true, reduceCtorEq, ge_iff_le, resultsV, noTup, tupV, fnOf, Nat.reduceAdd, rdAt, takeV, wrAt, splice, cellsV, lenL, ne_eq, Nat.reduceLeDiff, partsV, elemsV, toPss, toPs, toP, fill, Nat.reduceMul, Nat.reduceLT, snapHsl, snapHref, h0, h6, bC, bW, bP', bF, planAppend, elemsOf, szOf, szOK, frz, frzL, room, planSlice, boundOf, Nat.reduceSub, Int.reduceLT, Int.reduceAdd, Int.reduceBEq, Int.reduceBNe, Int.reduceLE, List.contains_eq_mem, frzL_nil, onesC, snap_hfn, snapHfn_some, snap_href_s, snap_hsl_s, axPK_zero, takenK_zero, nP_rep, bP_rep]
    refine ⟨rfl, rfl, fun i h => absurd h (Nat.not_lt_zero i), ?_⟩
    repeat (first | exact hk | refine Kept.upd ?_ (by first | exact Or.inl rfl | exact Or.inr rfl) _)
  · rintro k env blk' hk ⟨h0, h6, h10, h114, h115, h116, bD, bC, bW, bP', bF, bA, bT, hok, hkp⟩
    by_cases hlt : k < ls.length
    · obtain ⟨l, hkl⟩ := at_lt hlt
      have hi := ps_of hkl
      have hlt' : ((k : Int) < (ls.length : Int)) := by omega
      have w1 := wrap_succ (n := k) (by omega)
      cases hp : (l.kind == 1) with
      | false =>
        have hp' : l.isP = false := hp
        have hp2 : (l.kind != 1) = true := by simp [bne, hp]
        have hrk : rkOk ls k = true := by simp [rkOk, hkl, hp']
        simp only [↓Rd, Rt, Rl, Rb, gP_done_al, dP_done_al, oks_nil, oks_cons, Bool.and_self, plan, binV, binInt, eqV, isNilV, app, if_true, if_false, reduceIte, Nat.reduceEqDiff, beq_self_eq_true, reduceCtorEq, ge_iff_le, resultsV, noTup, tupV, fnOf, Nat.reduceAdd, rdAt, takeV, wrAt, splice, cellsV, lenL, ne_eq, Nat.reduceLeDiff, partsV, elemsV, toPss, toPs, toP, fill, Nat.reduceMul, Nat.reduceLT, snapHsl, snapHref, i88_l3, h0, h6, h10, h114, h115, h116, bD, bC, bW, bF, bP', bA, bT, hi, ps_len, Let.ps, hlt', hp, hp2, w1, okD, o1, o2, o3, o4, o5, o6, o7, o8, planAppend, elemsOf, szOf, szOK, frz, frzL, room, planSlice, boundOf, Nat.reduceSub, Int.reduceLT, Int.reduceAdd, Int.reduceBEq, Int.reduceBNe, Int.reduceLE, List.contains_eq_mem, frzL_nil, onesC, snap_hfn, snapHfn_some, snap_href_s, snap_hsl_s]
        refine ⟨hlt, ?_, ?_, ?_, ?_, ?_⟩
        · rw [plK_miss hkl hp']
        · rw [axPK_miss hkl hp']
        · rw [takenK_miss hkl hp']
        · intro i hi
          rcases Nat.lt_succ_iff_lt_or_eq.1 hi with h | rfl
          · exact hok i h
          · exact hrk
        · repeat (first | exact hkp | refine Kept.upd ?_ (by first | exact Or.inl rfl | exact Or.inr rfl) _)
      | true =>
        have hp' : l.isP = true := hp
        have hp2 : (l.kind != 1) = false := by simp [bne, hp]
        obtain ⟨hg1, hg2⟩ := hg l (List.mem_of_getElem? hkl) hp'
        obtain ⟨G, hG⟩ := Int.eq_ofNat_of_zero_le hg1
        have hGF : G ≤ F := by omega
        have hGF' : G < F + 1 := by omega
        have hca := nP_at (counts_at (ls := ls) hGF)
        have hfa := nP_at (firsts_at (ls := ls) hGF)
        have hgt : l.gate.toNat = G := by omega
        cases r1 : decide (l.rank < 1) with
        | true =>
          have r1' : l.rank < 1 := of_decide_eq_true r1
          have r1n : ¬ 1 ≤ l.rank := by omega
          have hno := ranks_no hlt (show rkOk ls k = false by simp [rkOk, hkl, hp', r1n])
          simp only [↓Rd, Rt, Rl, Rb, gP_done_al, dP_done_al, oks_nil, oks_cons, Bool.and_self, plan, binV, binInt, eqV, isNilV, app, if_true, if_false, reduceIte, Nat.reduceEqDiff, beq_self_eq_true, reduceCtorEq, ge_iff_le, resultsV, noTup, tupV, fnOf, Nat.reduceAdd, rdAt, takeV, wrAt, splice, cellsV, lenL, ne_eq, Nat.reduceLeDiff, partsV, elemsV, toPss, toPs, toP, fill, Nat.reduceMul, Nat.reduceLT, snapHsl, snapHref, i88_l3, h0, h6, h10, h114, h115, h116, bD, bC, bW, bF, bP', bA, bT, hi, ps_len, Let.ps, hlt', hp, hp2, w1, r1', okD, o1, o2, o3, o4, o5, o6, o7, o8, planAppend, elemsOf, szOf, szOK, frz, frzL, room, planSlice, boundOf, Nat.reduceSub, Int.reduceLT, Int.reduceAdd, Int.reduceBEq, Int.reduceBNe, Int.reduceLE, List.contains_eq_mem, frzL_nil, onesC, snap_hfn, snapHfn_some, snap_href_s, snap_hsl_s]
          refine ⟨okd (by kernel_rfl), ?_⟩
          unfold rkPost
          refine ⟨by rw [hno], ?_, fun h => by rw [hno] at h; cases h⟩
          repeat (first | exact hkp | refine Kept.upd ?_ (by first | exact Or.inl rfl | exact Or.inr rfl) _)
        | false =>
          have r1' : ¬ l.rank < 1 := of_decide_eq_false r1
          obtain ⟨R, hR⟩ := Int.eq_ofNat_of_zero_le (show 0 ≤ l.rank by omega)
          have r1R : ¬ ((R : Int) < 1) := by omega
          cases r2 : decide ((cg ls G : Int) < (R : Int)) with
          | true =>
            have r2' : (cg ls G : Int) < (R : Int) := of_decide_eq_true r2
            have r2n : ¬ l.rank ≤ (cg ls l.gate.toNat : Int) := by rw [hgt]; omega
            have hno := ranks_no hlt (show rkOk ls k = false by simp [rkOk, hkl, hp', r2n])
            simp only [↓Rd, Rt, Rl, Rb, gP_done_al, dP_done_al, oks_nil, oks_cons, Bool.and_self, plan, binV, binInt, eqV, isNilV, app, if_true, if_false, reduceIte, Nat.reduceEqDiff, beq_self_eq_true, reduceCtorEq, ge_iff_le, resultsV, noTup, tupV, fnOf, Nat.reduceAdd, rdAt, takeV, wrAt, splice, cellsV, lenL, ne_eq, Nat.reduceLeDiff, partsV, elemsV, toPss, toPs, toP, fill, Nat.reduceMul, Nat.reduceLT, snapHsl, snapHref, i88_l3, h0, h6, h10, h114, h115, h116, bD, bC, bW, bF, bP', bA, bT, hi, ps_len, Let.ps, hlt', hp, hp2, w1, hR, hG, r1R, r2', hca, hGF', okD, o1, o2, o3, o4, o5, o6, o7, o8, planAppend, elemsOf, szOf, szOK, frz, frzL, room, planSlice, boundOf, Nat.reduceSub, Int.reduceLT, Int.reduceAdd, Int.reduceBEq, Int.reduceBNe, Int.reduceLE, List.contains_eq_mem, frzL_nil, onesC, snap_hfn, snapHfn_some, snap_href_s, snap_hsl_s]
            refine ⟨okd (by kernel_rfl), ?_⟩
            unfold rkPost
            refine ⟨by rw [hno], ?_, fun h => by rw [hno] at h; cases h⟩
            repeat (first | exact hkp | refine Kept.upd ?_ (by first | exact Or.inl rfl | exact Or.inr rfl) _)
          | false =>
            have r2' : ¬ (cg ls G : Int) < (R : Int) := of_decide_eq_false r2
            have hfle := firstG_le ls G
            have hmono := firstG_mono (ls := ls) (show G + 1 ≤ F + 1 by omega)
            have hgs := firstG_succ ls G
            have hPT : plOf ls l < firstG ls (F + 1) := by unfold plOf; rw [hgt]; omega
            have hpl : firstG ls G + R - 1 = plOf ls l := by unfold plOf; rw [hgt]; omega
            have hcl : cg ls G ≤ ls.length := cnt_le _ _
            have w2 := wrap_add (a := firstG ls G) (b := R) (by omega)
            have w3 := wrap_pred (a := firstG ls G + R) (by omega) (by omega)
            rw [hpl] at w3
            have hta := bP_at (takenK_at (ls := ls) (k := k) hPT)
            cases hu : (List.range k).any (hereP ls (plOf ls l)) with
            | true =>
              rw [hu] at hta
              have hno := ranks_no hlt (show rkOk ls k = false by simp [rkOk, hkl, hp', hu])
              simp only [↓Rd, Rt, Rl, Rb, gP_done_al, dP_done_al, oks_nil, oks_cons, Bool.and_self, plan, binV, binInt, eqV, isNilV, app, if_true, if_false, reduceIte, Nat.reduceEqDiff, beq_self_eq_true, reduceCtorEq, ge_iff_le, resultsV, noTup, tupV, fnOf, Nat.reduceAdd, rdAt, takeV, wrAt, splice, cellsV, lenL, ne_eq, Nat.reduceLeDiff, partsV, elemsV, toPss, toPs, toP, fill, Nat.reduceMul, Nat.reduceLT, snapHsl, snapHref, i88_l3, h0, h6, h10, h114, h115, h116, bD, bC, bW, bF, bP', bA, bT, hi, ps_len, Let.ps, hlt', hp, hp2, w1, hR, hG, r1R, r2', hca, hfa, hGF', w2, w3, hta, hPT, okD, o1, o2, o3, o4, o5, o6, o7, o8, planAppend, elemsOf, szOf, szOK, frz, frzL, room, planSlice, boundOf, Nat.reduceSub, Int.reduceLT, Int.reduceAdd, Int.reduceBEq, Int.reduceBNe, Int.reduceLE, List.contains_eq_mem, frzL_nil, onesC, snap_hfn, snapHfn_some, snap_href_s, snap_hsl_s]
              refine ⟨okd (by kernel_rfl), okd (by kernel_rfl), ?_⟩
              unfold rkPost
              refine ⟨by rw [hno], ?_, fun h => by rw [hno] at h; cases h⟩
              repeat (first | exact hkp | refine Kept.upd ?_ (by first | exact Or.inl rfl | exact Or.inr rfl) _)
            | false =>
              rw [hu] at hta
              have hrk : rkOk ls k = true := by
                have e1 : 1 ≤ l.rank := by omega
                have e2 : l.rank ≤ (cg ls l.gate.toNat : Int) := by rw [hgt]; omega
                simp [rkOk, hkl, e1, e2, hu]
              obtain ⟨a0, haa⟩ := at_lt (show plOf ls l < (axPK ls (firstG ls (F + 1)) k).length by rw [axPK_len]; exact hPT)
              obtain ⟨p0, hpa⟩ := at_lt (show k < (plK ls k).length by rw [plK_len]; exact hlt)
              have haa := nP_at haa
              have hpa := nP_at hpa
              have s1 := bP_set (takenK ls (firstG ls (F + 1)) k) (plOf ls l) true
              rw [← takenK_hit hkl hp'] at s1
              have s2 := nP_set (axPK ls (firstG ls (F + 1)) k) (plOf ls l) k
              rw [← axPK_hit hkl hp' hu] at s2
              have s3 := nP_set (plK ls k) k (plOf ls l)
              rw [← plK_hit hkl hp'] at s3
              simp only [↓Rd, Rt, Rl, Rb, gP_done_al, dP_done_al, oks_nil, oks_cons, Bool.and_self, plan, binV, binInt, eqV, isNilV, app, if_true, if_false, reduceIte, Nat.reduceEqDiff, beq_self_eq_true, reduceCtorEq, ge_iff_le, resultsV, noTup, tupV, fnOf, Nat.reduceAdd, rdAt, takeV, wrAt, splice, cellsV, lenL, ne_eq, Nat.reduceLeDiff, partsV, elemsV, toPss, toPs, toP, fill, Nat.reduceMul, Nat.reduceLT, snapHsl, snapHref, i88_l3, h0, h6, h10, h114, h115, h116, bD, bC, bW, bF, bP', bA, bT, hi, ps_len, Let.ps, hlt', hlt, hp, hp2, w1, hR, hG, r1R, r2', hca, hfa, hGF', w2, w3, hta, hPT, haa, hpa, s1, s2, s3, okD, o1, o2, o3, o4, o5, o6, o7, o8, planAppend, elemsOf, szOf, szOK, frz, frzL, room, planSlice, boundOf, Nat.reduceSub, Int.reduceLT, Int.reduceAdd, Int.reduceBEq, Int.reduceBNe, Int.reduceLE, List.contains_eq_mem, frzL_nil, onesC, snap_hfn, snapHfn_some, snap_href_s, snap_hsl_s]
              refine ⟨okd (by kernel_rfl), okd (by kernel_rfl), okd (by kernel_rfl), ?_, ?_⟩
              · intro i hi
                rcases Nat.lt_succ_iff_lt_or_eq.1 hi with h | rfl
                · exact hok i h
                · exact hrk
              · repeat (first | exact hkp | refine Kept.upd ?_ (by first | exact Or.inl rfl | exact Or.inr rfl) _)
    · have : k = ls.length := by omega
      subst this
      have hr := ranks_yes hok
      simp only [↓Rd, Rt, Rl, Rb, gP_done_al, dP_done_al, oks_nil, oks_cons, Bool.and_self, plan, binV, binInt, eqV, isNilV, app, if_true, if_false, reduceIte, Nat.reduceEqDiff, beq_self_eq_true, reduceCtorEq, ge_iff_le, resultsV, noTup, tupV, fnOf, Nat.reduceAdd, rdAt, takeV, wrAt, splice, cellsV, lenL, ne_eq, Nat.reduceLeDiff, partsV, elemsV, toPss, toPs, toP, fill, Nat.reduceMul, Nat.reduceLT, snapHsl, snapHref, i88_l3, i88_r4, h115, h116, no_more, planAppend, elemsOf, szOf, szOK, frz, frzL, room, planSlice, boundOf, Nat.reduceSub, Int.reduceLT, Int.reduceAdd, Int.reduceBEq, Int.reduceBNe, Int.reduceLE, List.contains_eq_mem, frzL_nil, onesC, snap_hfn, snapHfn_some, snap_href_s, snap_hsl_s]
      exact ⟨by rw [hr], hkp, fun _ => ⟨g1, g2, g3, (blk 5633344128).1 + 1, bD, bC, bW, bP', bA⟩⟩
set_option maxHeartbeats 4000000 in
theorem rk2 {al : Al} (okD : al.ok 2176320128 = true) (ok : ∀ id, siteFn id = 88 → al.ok id = true) {blk0 blk : Blk} {env : Env} {g g1 g2 g3 F : Nat} {ls : List Let} {c3 c5 : C} (hl : ls.length ≤ 1000000) (hF : F ≤ 1000000) (hg : gates F ls)
    (h0 : env 0 = .one (.href 2176320128 g 0))
    (bD : blk 2176320128 = (g, some (.var (dgC F ls (hs 5632128448 g2 ls.length) c3 (hs 5632192448 g3 ls.length) c5 (hs 5632064448 g1 (F + 1))))))
    (bC : blk 5632064448 = (g1, some (.arr 3 1 (nP (counts ls F))))) (bW : blk 5632128448 = (g2, some (.arr 4 1 (bP (downs ls))))) (bP' : blk 5632192448 = (g3, some (.arr 3 1 (nP (plK ls 0)))))
    (hk : Kept K437 blk0 blk) : W S al i88_r6 (endQ al [(2, none)] (rkPost F ls g c5 blk0)) env blk := by
  have o1 := ok 5632064448 rfl
  have o2 := ok 5632128448 rfl
  have o3 := ok 5632192448 rfl
  have o4 := ok 5632448192 rfl
  have o5 := ok 5632832384 rfl
  have o6 := ok 5633344128 rfl
  have o7 := ok 5633408064 rfl
  have o8 := ok 5633600192 rfl
  have hr8 : (F + 1) * 8 ≤ 140737488355328 := by omega
  have wF := wrap_succ (n := F) (by omega)
  simp only [↓Rd, Rt, Rl, Rb, gP_done_al, dP_done_al, oks_nil, oks_cons, Bool.and_self, plan, binV, binInt, eqV, isNilV, app, if_true, if_false, reduceIte, Nat.reduceEqDiff, beq_self_eq_true, reduceCtorEq, ge_iff_le, resultsV, noTup, tupV, fnOf, Nat.reduceAdd, rdAt, takeV, wrAt, splice, cellsV, lenL, ne_eq, Nat.reduceLeDiff, partsV, elemsV, toPss, toPs, toP, fill, Nat.reduceMul, Nat.reduceLT, snapHsl, snapHref, i88_r6, h0, bD, wF, hr8, okD, o1, o2, o3, o4, o5, o6, o7, o8, planAppend, elemsOf, szOf, szOK, frz, frzL, room, planSlice, boundOf, Nat.reduceSub, Int.reduceLT, Int.reduceAdd, Int.reduceBEq, Int.reduceBNe, Int.reduceLE, List.contains_eq_mem, frzL_nil, onesC, snap_hfn, snapHfn_some, snap_href_s, snap_hsl_s]
  refine R_for (fun k env blk' => env 0 = .one (.href 2176320128 g 0) ∧ env 6 = .one (hs 5632832384 ((blk 5632832384).1 + 1) (F + 1)) ∧ env 7 = vi (firstG ls k) ∧ env 88 = .one (hs 5632064448 g1 (F + 1)) ∧ env 89 = vi ((F + 1 : Nat) : Int) ∧ env 90 = vi k ∧
    blk' 2176320128 = (g, some (.var (dgC F ls (hs 5632128448 g2 ls.length) c3 (hs 5632192448 g3 ls.length) c5 (hs 5632064448 g1 (F + 1))))) ∧
    blk' 5632064448 = (g1, some (.arr 3 1 (nP (counts ls F)))) ∧ blk' 5632128448 = (g2, some (.arr 4 1 (bP (downs ls)))) ∧ blk' 5632192448 = (g3, some (.arr 3 1 (nP (plK ls 0)))) ∧
    blk' 5632832384 = ((blk 5632832384).1 + 1, some (.arr 3 1 (nP (firstsK ls F k)))) ∧ Kept K437 blk0 blk') 0 (F + 1) (Nat.zero_le _) ?_ ?_
  · simp only [↓Rd, Rt, Rl, Rb, gP_done_al, dP_done_al, oks_nil, oks_cons, Bool.and_self, plan, binV, binInt, eqV, isNilV, app, if_true, if_false, reduceIte, Nat.reduceEqDiff, beq_self_eq_true, reduceCtorEq, ge_iff_le, resultsV, noTup, tupV, fnOf, Nat.reduceAdd, rdAt, takeV, wrAt, splice, cellsV, lenL, ne_eq, Nat.reduceLeDiff, partsV, elemsV, toPss, toPs, toP, fill, Nat.reduceMul, Nat.reduceLT, snapHsl, snapHref, h0, bD, bC, bW, bP', planAppend, elemsOf, szOf, szOK, frz, frzL, room, planSlice, boundOf, Nat.reduceSub, Int.reduceLT, Int.reduceAdd, Int.reduceBEq, Int.reduceBNe, Int.reduceLE, List.contains_eq_mem, frzL_nil, onesC, snap_hfn, snapHfn_some, snap_href_s, snap_hsl_s, firstsK_zero, nP_rep]
    refine ⟨rfl, rfl, rfl, ?_⟩
    repeat (first | exact hk | refine Kept.upd ?_ (by first | exact Or.inl rfl | exact Or.inr rfl) _)
  · rintro k env blk' hk ⟨h0, h6, h7, h88, h89, h90, bD, bC, bW, bP', bF, hkp⟩
    by_cases hlt : k < F + 1
    · have hlt' : ((k : Int) < ((F + 1 : Nat) : Int)) := by omega
      have w1 := wrap_succ (n := k) (by omega)
      have hc := nP_at (counts_at (ls := ls) (show k ≤ F by omega))
      obtain ⟨a0, ha⟩ := at_lt (show k < (firstsK ls F k).length by rw [firstsK_len]; exact hlt)
      have ha := nP_at ha
      have s1 := nP_set (firstsK ls F k) k (firstG ls k)
      rw [← firstsK_set] at s1
      have hs := firstG_succ ls k
      have hle := firstG_le ls (k + 1)
      have w2 := wrap_add (a := firstG ls k) (b := cg ls k) (by omega)
      rw [← hs] at w2
      simp only [↓Rd, Rt, Rl, Rb, gP_done_al, dP_done_al, oks_nil, oks_cons, Bool.and_self, plan, binV, binInt, eqV, isNilV, app, if_true, if_false, reduceIte, Nat.reduceEqDiff, beq_self_eq_true, reduceCtorEq, ge_iff_le, resultsV, noTup, tupV, fnOf, Nat.reduceAdd, rdAt, takeV, wrAt, splice, cellsV, lenL, ne_eq, Nat.reduceLeDiff, partsV, elemsV, toPss, toPs, toP, fill, Nat.reduceMul, Nat.reduceLT, snapHsl, snapHref, i88_l2, h0, h6, h7, h88, h89, h90, bD, bC, bW, bP', bF, hlt, hlt', hc, ha, s1, w1, w2, okD, o1, o2, o3, o4, o5, o6, o7, o8, planAppend, elemsOf, szOf, szOK, frz, frzL, room, planSlice, boundOf, Nat.reduceSub, Int.reduceLT, Int.reduceAdd, Int.reduceBEq, Int.reduceBNe, Int.reduceLE, List.contains_eq_mem, frzL_nil, onesC, snap_hfn, snapHfn_some, snap_href_s, snap_hsl_s]
      repeat (first | exact hkp | refine Kept.upd ?_ (by first | exact Or.inl rfl | exact Or.inr rfl) _)
    · have : k = F + 1 := by omega
      subst this
      simp only [↓Rd, Rt, Rl, Rb, gP_done_al, dP_done_al, oks_nil, oks_cons, Bool.and_self, plan, binV, binInt, eqV, isNilV, app, if_true, if_false, reduceIte, Nat.reduceEqDiff, beq_self_eq_true, reduceCtorEq, ge_iff_le, resultsV, noTup, tupV, fnOf, Nat.reduceAdd, rdAt, takeV, wrAt, splice, cellsV, lenL, ne_eq, Nat.reduceLeDiff, partsV, elemsV, toPss, toPs, toP, fill, Nat.reduceMul, Nat.reduceLT, snapHsl, snapHref, i88_l2, h89, h90, no_more, planAppend, elemsOf, szOf, szOK, frz, frzL, room, planSlice, boundOf, Nat.reduceSub, Int.reduceLT, Int.reduceAdd, Int.reduceBEq, Int.reduceBNe, Int.reduceLE, List.contains_eq_mem, frzL_nil, onesC, snap_hfn, snapHfn_some, snap_href_s, snap_hsl_s]
      exact rk3 okD ok hl hF hg h0 h6 h7 bD bC bW bP' (by rw [bF, firstsK_all]) hkp
set_option maxHeartbeats 4000000 in
theorem ranks_p {al : Al} (okD : al.ok 2176320128 = true) (ok : ∀ id, siteFn id = 88 → al.ok id = true) {blk : Blk} {g F : Nat} {ls : List Let} {c2 c3 c4 c5 c6 : C} (hl : ls.length ≤ 1000000) (hF : F ≤ 1000000) (hg : gates F ls)
    (bD : blk 2176320128 = (g, some (.var (dgC F ls c2 c3 c4 c5 c6)))) : ∃ v blk', SEv S 88 [.one (.href 2176320128 g 0)] al blk v blk' ∧ rkPost F ls g c5 blk v blk' := by
  have o1 := ok 5632064448 rfl
  have o2 := ok 5632128448 rfl
  have o3 := ok 5632192448 rfl
  have o4 := ok 5632448192 rfl
  have o5 := ok 5632832384 rfl
  have o6 := ok 5633344128 rfl
  have o7 := ok 5633408064 rfl
  have o8 := ok 5633600192 rfl
  refine SEv_fn c88 (Nat.le_of_ble_eq_true rfl) ?_
  have hr8 : (F + 1) * 8 ≤ 140737488355328 := by omega
  have hn8 : ls.length * 8 ≤ 140737488355328 := by omega
  have hn1 : ls.length ≤ 140737488355328 := by omega
  have wF := wrap_succ (n := F) (by omega)
  simp only [↓Rd, Rt, Rl, Rb, gP_done_al, dP_done_al, oks_nil, oks_cons, Bool.and_self, plan, binV, binInt, eqV, isNilV, app, if_true, if_false, reduceIte, Nat.reduceEqDiff, beq_self_eq_true, reduceCtorEq, ge_iff_le, resultsV, noTup, tupV, fnOf, Nat.reduceAdd, rdAt, takeV, wrAt, splice, cellsV, lenL, ne_eq, Nat.reduceLeDiff, partsV, elemsV, toPss, toPs, toP, fill, Nat.reduceMul, Nat.reduceLT, snapHsl, snapHref, i88, bD, wF, hr8, hn8, hn1, okD, o1, o2, o3, o4, o5, o6, o7, o8, planAppend, elemsOf, szOf, szOK, frz, frzL, room, planSlice, boundOf, Nat.reduceSub, Int.reduceLT, Int.reduceAdd, Int.reduceBEq, Int.reduceBNe, Int.reduceLE, List.contains_eq_mem, frzL_nil, onesC, snap_hfn, snapHfn_some, snap_href_s, snap_hsl_s]
  refine R_for (fun k env blk' => env 0 = .one (.href 2176320128 g 0) ∧ env 3 = vb (dn ls k) ∧ env 48 = .one (.p (lsP ls)) ∧ env 49 = vi ls.length ∧ env 50 = vi k ∧
    blk' 2176320128 = (g, some (.var (dgC F ls (hs 5632128448 ((blk 5632128448).1 + 1) ls.length) c3 (hs 5632192448 ((blk 5632192448).1 + 1) ls.length) c5 (hs 5632064448 ((blk 5632064448).1 + 1) (F + 1))))) ∧
    blk' 5632064448 = ((blk 5632064448).1 + 1, some (.arr 3 1 (nP (countsK ls F k)))) ∧ blk' 5632128448 = ((blk 5632128448).1 + 1, some (.arr 4 1 (bP (downsK ls k)))) ∧ blk' 5632192448 = ((blk 5632192448).1 + 1, some (.arr 3 1 (nP (plK ls 0)))) ∧
    Kept K437 blk blk') 0 ls.length (Nat.zero_le _) ?_ ?_
  · simp only [↓Rd, Rt, Rl, Rb, gP_done_al, dP_done_al, oks_nil, oks_cons, Bool.and_self, plan, binV, binInt, eqV, isNilV, app, if_true, if_false, reduceIte, Nat.reduceEqDiff, beq_self_eq_true, reduceCtorEq, ge_iff_le, resultsV, noTup, tupV, fnOf, Nat.reduceAdd, rdAt, takeV, wrAt, splice, cellsV, lenL, ne_eq, Nat.reduceLeDiff, partsV, elemsV, toPss, toPs, toP, fill, Nat.reduceMul, Nat.reduceLT, snapHsl, snapHref, bD, planAppend, elemsOf, szOf, szOK, frz, frzL, room, planSlice, boundOf, Nat.reduceSub, Int.reduceLT, Int.reduceAdd, Int.reduceBEq, Int.reduceBNe, Int.reduceLE, List.contains_eq_mem, frzL_nil, onesC, snap_hfn, snapHfn_some, snap_href_s, snap_hsl_s, countsK_zero, downsK_zero, plK_zero, nP_rep, bP_rep]
    refine ⟨rfl, rfl, rfl, rfl, ?_⟩
    repeat (first | exact (Kept.refl _ _) | refine Kept.upd ?_ (by first | exact Or.inl rfl | exact Or.inr rfl) _)
  · rintro k env blk' hk ⟨h0, h3, h48, h49, h50, bD, bC, bW, bP', hkp⟩
    by_cases hlt : k < ls.length
    · obtain ⟨l, hkl⟩ := at_lt hlt
      have hi := ps_of hkl
      have hlt' : ((k : Int) < (ls.length : Int)) := by omega
      have w1 := wrap_succ (n := k) (by omega)
      cases hp : (l.kind == 1) with
      | false =>
        have hp' : l.isP = false := hp
        simp only [↓Rd, Rt, Rl, Rb, gP_done_al, dP_done_al, oks_nil, oks_cons, Bool.and_self, plan, binV, binInt, eqV, isNilV, app, if_true, if_false, reduceIte, Nat.reduceEqDiff, beq_self_eq_true, reduceCtorEq, ge_iff_le, resultsV, noTup, tupV, fnOf, Nat.reduceAdd, rdAt, takeV, wrAt, splice, cellsV, lenL, ne_eq, Nat.reduceLeDiff, partsV, elemsV, toPss, toPs, toP, fill, Nat.reduceMul, Nat.reduceLT, snapHsl, snapHref, i88_l1, h0, h3, h48, h49, h50, bD, bC, bW, bP', hi, ps_len, Let.ps, hlt', hp, w1, okD, o1, o2, o3, o4, o5, o6, o7, o8, planAppend, elemsOf, szOf, szOK, frz, frzL, room, planSlice, boundOf, Nat.reduceSub, Int.reduceLT, Int.reduceAdd, Int.reduceBEq, Int.reduceBNe, Int.reduceLE, List.contains_eq_mem, frzL_nil, onesC, snap_hfn, snapHfn_some, snap_href_s, snap_hsl_s]
        refine ⟨hlt, ?_, ?_, ?_, ?_⟩
        · rw [dn_miss hkl hp']
        · rw [countsK_miss hkl hp']
        · rw [downsK_miss hkl hp']
        · repeat (first | exact hkp | refine Kept.upd ?_ (by first | exact Or.inl rfl | exact Or.inr rfl) _)
      | true =>
        have hp' : l.isP = true := hp
        obtain ⟨hg1, hg2⟩ := hg l (List.mem_of_getElem? hkl) hp'
        obtain ⟨G, hG⟩ := Int.eq_ofNat_of_zero_le hg1
        have hGF : G ≤ F := by omega
        have hGF' : G < F + 1 := by omega
        have hca := nP_at (countsK_at (ls := ls) (k := k) hGF)
        have hcl : cg (ls.take k) G ≤ k := cnt_take_le _ _ _
        have w2 := wrap_succ (n := cg (ls.take k) G) (by omega)
        have s1 := nP_set (countsK ls F k) G (cg (ls.take k) G + 1)
        rw [← countsK_hit hkl hp' hG] at s1
        obtain ⟨b0, hb⟩ := at_lt (show k < (downsK ls k).length by rw [downsK_len]; exact hlt)
        have hb := bP_at hb
        have s2 := bP_set (downsK ls k) k (dn ls k)
        rw [← downsK_hit hkl hp'] at s2
        have hd := dn_hit hkl hp'
        simp only [↓Rd, Rt, Rl, Rb, gP_done_al, dP_done_al, oks_nil, oks_cons, Bool.and_self, plan, binV, binInt, eqV, isNilV, app, if_true, if_false, reduceIte, Nat.reduceEqDiff, beq_self_eq_true, reduceCtorEq, ge_iff_le, resultsV, noTup, tupV, fnOf, Nat.reduceAdd, rdAt, takeV, wrAt, splice, cellsV, lenL, ne_eq, Nat.reduceLeDiff, partsV, elemsV, toPss, toPs, toP, fill, Nat.reduceMul, Nat.reduceLT, snapHsl, snapHref, i88_l1, h0, h3, h48, h49, h50, bD, bC, bW, bP', hi, ps_len, Let.ps, hlt', hlt, hp, w1, hG, hca, hGF', w2, s1, hb, s2, hd, okD, o1, o2, o3, o4, o5, o6, o7, o8, planAppend, elemsOf, szOf, szOK, frz, frzL, room, planSlice, boundOf, Nat.reduceSub, Int.reduceLT, Int.reduceAdd, Int.reduceBEq, Int.reduceBNe, Int.reduceLE, List.contains_eq_mem, frzL_nil, onesC, snap_hfn, snapHfn_some, snap_href_s, snap_hsl_s]
        refine ⟨okd (by kernel_rfl), ?_⟩
        repeat (first | exact hkp | refine Kept.upd ?_ (by first | exact Or.inl rfl | exact Or.inr rfl) _)
    · have : k = ls.length := by omega
      subst this
      simp only [↓Rd, Rt, Rl, Rb, gP_done_al, dP_done_al, oks_nil, oks_cons, Bool.and_self, plan, binV, binInt, eqV, isNilV, app, if_true, if_false, reduceIte, Nat.reduceEqDiff, beq_self_eq_true, reduceCtorEq, ge_iff_le, resultsV, noTup, tupV, fnOf, Nat.reduceAdd, rdAt, takeV, wrAt, splice, cellsV, lenL, ne_eq, Nat.reduceLeDiff, partsV, elemsV, toPss, toPs, toP, fill, Nat.reduceMul, Nat.reduceLT, snapHsl, snapHref, i88_l1, h49, h50, no_more, planAppend, elemsOf, szOf, szOK, frz, frzL, room, planSlice, boundOf, Nat.reduceSub, Int.reduceLT, Int.reduceAdd, Int.reduceBEq, Int.reduceBNe, Int.reduceLE, List.contains_eq_mem, frzL_nil, onesC, snap_hfn, snapHfn_some, snap_href_s, snap_hsl_s]
      exact rk2 okD ok hl hF hg h0 bD (by rw [bC, countsK_all]) (by rw [bW, downsK_all]) bP' hkp
end Go.Abs
namespace Go.Abs
set_option maxRecDepth 100000
/-- a visit of this crossing, over or not -/
def hit (ls : List Let) (id : Int) (o : Bool) (j : Nat) : Bool := match ls[j]? with | some m => m.isC && (m.id == id && m.over == o) | none => false
def visJ (ls : List Let) (k : Nat) (id : Int) (o : Bool) : Option Nat := (List.range k).find? (hit ls id o)
def visV : Option Nat → Int
  | some j => j
  | none => -1
def idsK (ls : List Let) : Nat → List Int
  | 0 => []
  | k + 1 => match ls[k]? with
    | some l => if l.isC && !(idsK ls k).contains l.id then idsK ls k ++ [l.id] else idsK ls k
    | none => idsK ls k
def entV (ls : List Let) (k : Nat) (id : Int) : List PV := [.int .i64 (visV (visJ ls k id false)), .int .i64 (visV (visJ ls k id true))]
def mapK (ls : List Let) (k : Nat) : List (PV × List PV) := (idsK ls k).map fun id => (PV.int .i64 id, entV ls k id)
def signAt (ls : List Let) (j : Nat) : Int := ((ls[j]?).map Let.sign).getD 0
def xOk (ls : List Let) (n2 : Nat) (k : Nat) : Bool := match ls[k]? with
  | some l => !l.isC || ((decide (1 ≤ l.id) && decide (l.id ≤ (n2 : Int))) && ((visJ ls k l.id l.over).isNone && (match visJ ls k l.id (!l.over) with | some j => signAt ls j == l.sign | none => true)))
  | none => true
def crossR (ls : List Let) : Bool := (cnt Let.isC ls % 2 == 0) && (List.range ls.length).all (xOk ls (cnt Let.isC ls / 2)) && ((idsK ls ls.length).length == cnt Let.isC ls / 2)
theorem hit_of {ls : List Let} {k : Nat} {l : Let} (h : ls[k]? = some l) (hc : l.isC = true) (id : Int) (o : Bool) : hit ls id o k = (l.id == id && l.over == o) := by simp [hit, h, hc]
theorem hit_miss {ls : List Let} {k : Nat} {l : Let} (h : ls[k]? = some l) (hc : l.isC = false) (id : Int) (o : Bool) : hit ls id o k = false := by simp [hit, h, hc]
theorem visJ_succ (ls : List Let) (k : Nat) (id : Int) (o : Bool) : visJ ls (k + 1) id o = (visJ ls k id o).or (if hit ls id o k then some k else none) := by
  simp only [visJ, List.range_succ, List.find?_append, List.find?_cons, List.find?_nil]
  cases hit ls id o k <;> rfl
theorem visJ_some {ls : List Let} {k : Nat} {id : Int} {o : Bool} {j : Nat} (h : visJ ls k id o = some j) : j < k ∧ hit ls id o j = true :=
  ⟨List.mem_range.1 (List.mem_of_find?_eq_some h), List.find?_some h⟩
theorem hit_some {ls : List Let} {id : Int} {o : Bool} {j : Nat} (h : hit ls id o j = true) : ∃ m, ls[j]? = some m ∧ m.isC = true ∧ m.id = id ∧ m.over = o := by
  unfold hit at h
  split at h
  · rename_i m hm
    simp only [Bool.and_eq_true, beq_iff_eq] at h
    exact ⟨m, hm, h.1, h.2.1, h.2.2⟩
  · cases h
theorem visJ_none {ls : List Let} {k : Nat} {id : Int} {o : Bool} (h : visJ ls k id o = none) {j : Nat} (hj : j < k) : hit ls id o j = false := by
  have := List.find?_eq_none.1 h j (List.mem_range.2 hj)
  simpa using this
theorem ids_miss {ls : List Let} {k : Nat} {l : Let} (h : ls[k]? = some l) (hc : l.isC = false) : idsK ls (k + 1) = idsK ls k := by simp [idsK, h, hc]
theorem ids_new {ls : List Let} {k : Nat} {l : Let} (h : ls[k]? = some l) (hc : l.isC = true) (hn : l.id ∉ idsK ls k) : idsK ls (k + 1) = idsK ls k ++ [l.id] := by simp [idsK, h, hc, hn]
theorem ids_old {ls : List Let} {k : Nat} {l : Let} (h : ls[k]? = some l) (hn : l.id ∈ idsK ls k) : idsK ls (k + 1) = idsK ls k := by simp [idsK, h, hn]
theorem map_miss {ls : List Let} {k : Nat} {l : Let} (h : ls[k]? = some l) (hc : l.isC = false) : mapK ls (k + 1) = mapK ls k := by
  unfold mapK entV
  rw [ids_miss h hc]
  simp [visJ_succ, hit_miss h hc]
theorem ids_mem0 {ls : List Let} {id : Int} : ∀ (k : Nat), k ≤ ls.length → (id ∈ idsK ls k ↔ ∃ j o, j < k ∧ hit ls id o j = true) := by
  intro k
  induction k with
  | zero => intro _; simp [idsK]
  | succ k ih =>
    intro hk
    obtain ⟨l, hl⟩ := at_lt (show k < ls.length by omega)
    have ih := ih (by omega)
    have old : (∃ j o, j < k ∧ hit ls id o j = true) → ∃ j o, j < k + 1 ∧ hit ls id o j = true := fun ⟨j, o, h1, h2⟩ => ⟨j, o, by omega, h2⟩
    cases hc : l.isC with
    | false =>
      rw [ids_miss hl hc, ih]
      refine ⟨old, ?_⟩
      rintro ⟨j, o, h1, h2⟩
      rcases Nat.lt_succ_iff_lt_or_eq.1 h1 with h | rfl
      · exact ⟨j, o, h, h2⟩
      · rw [hit_miss hl hc] at h2; cases h2
    | true =>
      have key : id ∈ idsK ls (k + 1) ↔ (id ∈ idsK ls k ∨ id = l.id) := by
        by_cases hm : l.id ∈ idsK ls k
        · rw [ids_old hl hm]
          exact ⟨Or.inl, fun h => h.elim id' (fun e => e ▸ hm)⟩
        · rw [ids_new hl hc hm]; simp
      rw [key, ih]
      constructor
      · rintro (h | rfl)
        · exact old h
        · exact ⟨k, l.over, by omega, by rw [hit_of hl hc]; simp⟩
      · rintro ⟨j, o, h1, h2⟩
        rcases Nat.lt_succ_iff_lt_or_eq.1 h1 with h | rfl
        · exact Or.inl ⟨j, o, h, h2⟩
        · rw [hit_of hl hc] at h2
          simp only [Bool.and_eq_true, beq_iff_eq] at h2
          exact Or.inr h2.1.symm
where id' {p : Prop} (h : p) : p := h
theorem ids_mem {ls : List Let} {id : Int} {k : Nat} (h : k ≤ ls.length) : id ∈ idsK ls k ↔ ∃ j o, j < k ∧ hit ls id o j = true := ids_mem0 k h
theorem ids_nodup (ls : List Let) : ∀ k, (idsK ls k).Nodup := by
  intro k
  induction k with
  | zero => simp [idsK]
  | succ k ih =>
    unfold idsK
    split
    · split
      · rename_i h
        simp only [Bool.and_eq_true, Bool.not_eq_true', List.contains_eq_mem, decide_eq_false_iff_not] at h
        rw [List.nodup_append]
        refine ⟨ih, by simp, ?_⟩
        intro a ha b hb
        simp only [List.mem_singleton] at hb
        subst hb
        rintro rfl
        exact h.2 ha
      · exact ih
    · exact ih
/-- a crossing that is not met has no visit -/
theorem vis_not {ls : List Let} {k : Nat} (hk : k ≤ ls.length) {id : Int} (h : id ∉ idsK ls k) (o : Bool) : visJ ls k id o = none := by
  cases hv : visJ ls k id o with
  | none => rfl
  | some j =>
    obtain ⟨h1, h2⟩ := visJ_some hv
    exact absurd ((ids_mem hk).2 ⟨j, o, h1, h2⟩) h
theorem vis_met {ls : List Let} {k : Nat} (hk : k ≤ ls.length) {id : Int} (h : id ∈ idsK ls k) (o : Bool) (hn : visJ ls k id o = none) : ∃ j m, visJ ls k id (!o) = some j ∧ ls[j]? = some m ∧ j < k := by
  obtain ⟨j, o', h1, h2⟩ := (ids_mem hk).1 h
  by_cases e : o' = o
  · subst e
    rw [visJ_none hn h1] at h2; cases h2
  · have e : o' = !o := by cases o <;> cases o' <;> simp_all
    subst e
    cases hv : visJ ls k id (!o) with
    | none => rw [visJ_none hv h1] at h2; cases h2
    | some i =>
      obtain ⟨h3, h4⟩ := visJ_some hv
      obtain ⟨m, hm, _⟩ := hit_some h4
      exact ⟨i, m, rfl, hm, h3⟩
theorem vis_other {ls : List Let} {k : Nat} {l : Let} (h : ls[k]? = some l) (hc : l.isC = true) {id : Int} (hn : ¬ l.id = id) (o : Bool) : visJ ls (k + 1) id o = visJ ls k id o := by
  rw [visJ_succ, hit_of h hc]
  simp [hn]
theorem vis_same {ls : List Let} {k : Nat} {l : Let} (h : ls[k]? = some l) (hc : l.isC = true) (hn : visJ ls k l.id l.over = none) : visJ ls (k + 1) l.id l.over = some k := by
  rw [visJ_succ, hit_of h hc, hn]
  simp
theorem vis_else {ls : List Let} {k : Nat} {l : Let} (h : ls[k]? = some l) (hc : l.isC = true) : visJ ls (k + 1) l.id (!l.over) = visJ ls k l.id (!l.over) := by
  rw [visJ_succ, hit_of h hc]
  cases l.over <;> simp
theorem ent_other {ls : List Let} {k : Nat} {l : Let} (h : ls[k]? = some l) (hc : l.isC = true) {id : Int} (hn : ¬ l.id = id) : entV ls (k + 1) id = entV ls k id := by
  unfold entV
  rw [vis_other h hc hn, vis_other h hc hn]
theorem map_new {ls : List Let} {k : Nat} {l : Let} (h : ls[k]? = some l) (hc : l.isC = true) (hn : l.id ∉ idsK ls k) : mapK ls (k + 1) = mapK ls k ++ [(.int .i64 l.id, entV ls (k + 1) l.id)] := by
  unfold mapK
  rw [ids_new h hc hn, List.map_append]
  congr 1
  apply List.map_congr_left
  intro id hid
  rw [ent_other h hc (by rintro rfl; exact hn hid)]
theorem map_old {ls : List Let} {k : Nat} {l : Let} (h : ls[k]? = some l) (hc : l.isC = true) (hn : l.id ∈ idsK ls k) : mapK ls (k + 1) = (mapK ls k).set ((idsK ls k).idxOf l.id) (.int .i64 l.id, entV ls (k + 1) l.id) := by
  unfold mapK
  rw [ids_old h hn]
  apply List.ext_getElem
  · simp
  · intro i h1 h2
    rw [List.getElem_set]
    simp only [List.length_map] at h1
    by_cases e : (idsK ls k).idxOf l.id = i
    · subst e
      simp only [List.getElem_map, if_pos, List.getElem_idxOf]
    · rw [if_neg e]
      simp only [List.getElem_map]
      rw [ent_other h hc]
      intro e2
      apply e
      rw [e2]
      exact (ids_nodup ls k).idxOf_getElem i h1
theorem find_map (ls : List Let) (k : Nat) (q : Int) : findK (.int .i64 q) (mapK ls k) 0 = some (if q ∈ idsK ls k then some ((idsK ls k).idxOf q, entV ls k q) else none) := by
  unfold mapK
  rw [findK_ints]
  simp
theorem cross_no {ls : List Let} {k : Nat} (hk : k < ls.length) (h : xOk ls (cnt Let.isC ls / 2) k = false) : crossR ls = false := by
  have : (List.range ls.length).all (xOk ls (cnt Let.isC ls / 2)) = false := List.all_eq_false.2 ⟨k, List.mem_range.2 hk, by simp [h]⟩
  simp [crossR, this]
theorem cross_yes {ls : List Let} (he : cnt Let.isC ls % 2 = 0) (h : ∀ i, i < ls.length → xOk ls (cnt Let.isC ls / 2) i = true) : crossR ls = ((idsK ls ls.length).length == cnt Let.isC ls / 2) := by
  have : (List.range ls.length).all (xOk ls (cnt Let.isC ls / 2)) = true := List.all_eq_true.2 fun i hi => h i (List.mem_range.1 hi)
  simp [crossR, this, he]
end Go.Abs
