/-
  The walks of the document, and how it looks at all letters.
-/
import Derived.Test.YthlncajhlbgjbaaGreatDoorWa
set_option linter.unusedSimpArgs false
set_option linter.unusedVariables false
set_option linter.unusedSectionVars false
namespace Go.Abs
set_option maxRecDepth 100000
abbrev bP (o : List Bool) : List (List PV) := o.map fun b : Bool => [PV.bool b]
theorem bP_at {o : List Bool} {k : Nat} {b : Bool} (h : o[k]? = some b) : (bP o)[k]? = some [.bool b] := by simp [h]
theorem bP_set (o : List Bool) (k : Nat) (b : Bool) : (bP o).set k [.bool b] = bP (o.set k b) := by simp [List.map_set]
/-- a walk from x on, as long as what comes is new -/
def walkF (next : Nat → Nat) : Nat → Nat → List Bool → List Nat × List Bool
  | 0, _, seen => ([], seen)
  | k + 1, x, seen => if seen.getD x true then ([], seen) else (x :: (walkF next k (next x) (seen.set x true)).1, (walkF next k (next x) (seen.set x true)).2)
def unseen (s : List Bool) : Nat := s.countP (fun b => !b)
theorem unseen_set {s : List Bool} {x : Nat} (h : s[x]? = some false) : unseen (s.set x true) + 1 = unseen s := by
  induction s generalizing x with
  | nil => simp at h
  | cons b s ih =>
    cases x with
    | zero =>
      simp at h
      subst h
      simp [unseen]
    | succ x =>
      have := ih (x := x) (by simpa using h)
      unfold unseen at this ⊢
      simp only [List.set_cons_succ, List.countP_cons]
      omega
theorem walkF_len (next : Nat → Nat) : ∀ (k x : Nat) (s : List Bool), (walkF next k x s).2.length = s.length := by
  intro k
  induction k with
  | zero => intro x s; rfl
  | succ k ih =>
    intro x s
    unfold walkF
    split
    · rfl
    · simp [ih]
theorem walkF_more (next : Nat → Nat) : ∀ (k x : Nat) (s : List Bool), unseen s < k → ∀ j, k ≤ j → walkF next j x s = walkF next k x s := by
  intro k
  induction k with
  | zero => intro x s h; omega
  | succ k ih =>
    intro x s h j hj
    obtain ⟨j, rfl⟩ : ∃ i, j = i + 1 := ⟨j - 1, by omega⟩
    unfold walkF
    by_cases hx : s.getD x true = true
    · rw [if_pos hx, if_pos hx]
    · rw [if_neg hx, if_neg hx]
      have hs : s[x]? = some false := by
        rw [List.getD_eq_getElem?_getD] at hx
        cases h1 : s[x]? with
        | none => simp [h1] at hx
        | some b => simp [h1] at hx; rw [hx]
      have := unseen_set hs
      rw [ih _ _ (by omega) j (by omega)]
def walkStep (next : Nat → Nat) (st : List (List Nat) × List Bool) (d : Nat) : List (List Nat) × List Bool :=
  if st.2.getD d true then st else (st.1 ++ [(walkF next (st.2.length + 1) d st.2).1], (walkF next (st.2.length + 1) d st.2).2)
def walksK (next : Nat → Nat) (N k : Nat) : List (List Nat) × List Bool := (List.range k).foldl (walkStep next) ([], List.replicate N false)
def walksL (next : Nat → Nat) (N : Nat) : List (List Nat) := (walksK next N N).1
theorem walksK_succ (next : Nat → Nat) (N k : Nat) : walksK next N (k + 1) = walkStep next (walksK next N k) k := by
  unfold walksK
  rw [List.range_succ, List.foldl_append]
  rfl
theorem walksK_len (next : Nat → Nat) (N : Nat) : ∀ k, (walksK next N k).2.length = N := by
  intro k
  induction k with
  | zero => simp [walksK]
  | succ k ih =>
    rw [walksK_succ]
    unfold walkStep
    split
    · exact ih
    · simp [walkF_len, ih]
theorem walksK_ne (next : Nat → Nat) (N k : Nat) (hk : 1 ≤ k) (hN : 1 ≤ N) : (walksK next N k).1 ≠ [] := by
  induction k with
  | zero => omega
  | succ k ih =>
    rw [walksK_succ]
    by_cases h0 : k = 0
    · subst h0
      have hz : (walksK next N 0) = ([], List.replicate N false) := rfl
      have hg : (List.replicate N false).getD 0 true = false := by
        obtain ⟨n, rfl⟩ : ∃ n, N = n + 1 := ⟨N - 1, by omega⟩
        rfl
      rw [hz]
      unfold walkStep
      simp only [hg]
      simp
    · have := ih (by omega)
      unfold walkStep
      split
      · exact this
      · simp
theorem walksK_olen (next : Nat → Nat) (N : Nat) : ∀ k, (walksK next N k).1.length ≤ k := by
  intro k
  induction k with
  | zero => simp [walksK]
  | succ k ih =>
    rw [walksK_succ]
    unfold walkStep
    split
    · omega
    · simp; exact ih
theorem unseen_le (s : List Bool) : unseen s ≤ s.length := List.countP_le_length

theorem walkIn {f : Int} {ls : List Let} {ax : List Nat} (hl : ls.length ≤ 1000000) (hal : ax.length ≤ 1000000) (hax : ∀ x ∈ ax, x < ls.length) (hp : ∀ v l, ls[v]? = some l → (l.kind == 2) = false → v ∈ ax) {Q : Post} :
    ∀ (fuel x : Nat) (sn : List Bool) (w : List Nat) (env : Env) (blk : Blk), env 1 = .one (.href 1024000000 1 0) → blk 1024000000 = (1, some (.var (codeC f ls))) →
      env 4 = .one (.hsl 1024128064 1 1 0 ax.length) → blk 1024128064 = (1, some (.arr 3 1 (nP ax))) → env 5 = .one (.hsl 1024192512 1 1 0 sn.length) → blk 1024192512 = (1, some (.arr 4 1 (bP sn))) →
      outI 1024832192 w (env 7) blk → env 8 = vi x → x < sn.length → sn.length = 2 * ls.length + 2 * ax.length → unseen sn < fuel → w.length + unseen sn ≤ 5000000 →
      (∀ env' blk', env' 1 = env 1 → env' 3 = env 3 → env' 4 = env 4 → env' 5 = env 5 → env' 6 = env 6 → blk' 1024000000 = blk 1024000000 → blk' 1024128064 = blk 1024128064 → blk' 1024896192 = blk 1024896192 → blk' 1024896128 = blk 1024896128 →
        blk' 1024192512 = (1, some (.arr 4 1 (bP (walkF (turnD ls ax) fuel x sn).2))) → outI 1024832192 (w ++ (walkF (turnD ls ax) fuel x sn).1) (env' 7) blk' → Q .normal env' blk') →
      W S .all (.loop i16_l1) (blockQ 2 Q) env blk := by
  intro fuel
  induction fuel with
  | zero => intro x sn w env blk _ _ _ _ _ _ _ _ _ _ h; omega
  | succ fuel ih =>
    intro x sn w env blk h1 hB h4 hA h5 hS ho h8 hx hsl hu hw hq
    obtain ⟨b, hb⟩ := at_lt hx
    have hbp := bP_at hb
    have hgd : sn.getD x true = b := by rw [List.getD_eq_getElem?_getD, hb]; rfl
    unfold walkF at hq
    rw [hgd] at hq
    refine R_unroll ?_
    cases b with
    | true =>
      simp only [↓Rd, Rt, Rl, Rb, gP_done, dP_done, Al.all_oks, plan, binV, binInt, eqV, isNilV, app, if_true, if_false, reduceIte, Nat.reduceEqDiff, beq_self_eq_true, reduceCtorEq, ge_iff_le, resultsV, noTup, tupV, fnOf, Nat.reduceAdd, rdAt, takeV, wrAt, splice, cellsV, lenL, ne_eq, Nat.reduceLeDiff, partsV, elemsV, toPss, toPs, toP, fill, Nat.reduceMul, Nat.reduceLT, snapHsl, snapHref, i16_l1, h5, hS, h8, hx, hbp, planAppend, elemsOf, szOf, szOK, frz, frzL, room, planSlice, boundOf, Nat.reduceSub, Int.reduceLT, Int.reduceAdd, Int.reduceBEq, Int.reduceBNe, Int.reduceLE, List.contains_eq_mem, frzL_nil, onesC, snap_hfn, snapHfn_some, snap_href_s, snap_hsl_s]
      refine hq _ _ ?_ ?_ ?_ ?_ ?_ rfl rfl rfl rfl hS ?_
      all_goals simp only [↓Rd, Rt, Rl, Rb, gP_done, dP_done, Al.all_oks, plan, binV, binInt, eqV, isNilV, app, if_true, if_false, reduceIte, Nat.reduceEqDiff, beq_self_eq_true, reduceCtorEq, ge_iff_le, resultsV, noTup, tupV, fnOf, Nat.reduceAdd, rdAt, takeV, wrAt, splice, cellsV, lenL, ne_eq, Nat.reduceLeDiff, partsV, elemsV, toPss, toPs, toP, fill, Nat.reduceMul, Nat.reduceLT, snapHsl, snapHref]
      exact ho
    | false =>
      have hun := unseen_set hb
      have pt := turn_r f ls ax x hl hal hax hp (by omega)
      have hnl := turnD_lt (d := x) hax hp (by omega)
      have hset := bP_set sn x true
      have hroom : ∀ n : Nat, n ≤ 5000001 → n * 8 ≤ 140737488355328 := fun n hn => by omega
      have hta : List.take ax.length (nP ax) = nP ax := List.take_of_length_le (by simp)
      rcases ho with ⟨rfl, h7⟩ | ⟨hwne, g, h7, hC⟩
      · simp only [↓Rd, Rt, Rl, Rb, gP_done, dP_done, Al.all_oks, plan, binV, binInt, eqV, isNilV, app, if_true, if_false, reduceIte, Nat.reduceEqDiff, beq_self_eq_true, reduceCtorEq, ge_iff_le, resultsV, noTup, tupV, fnOf, Nat.reduceAdd, rdAt, takeV, wrAt, splice, cellsV, lenL, ne_eq, Nat.reduceLeDiff, partsV, elemsV, toPss, toPs, toP, fill, Nat.reduceMul, Nat.reduceLT, snapHsl, snapHref, i16_l1, h1, hB, h4, hA, h5, hS, h7, h8, hx, hbp, hset, hta, s31, gP_int pt, planAppend, elemsOf, szOf, szOK, frz, frzL, room, planSlice, boundOf, Nat.reduceSub, Int.reduceLT, Int.reduceAdd, Int.reduceBEq, Int.reduceBNe, Int.reduceLE, List.contains_eq_mem, frzL_nil, onesC, snap_hfn, snapHfn_some, snap_href_s, snap_hsl_s]
        refine ih (turnD ls ax x) (sn.set x true) [x] _ _ ?_ ?_ ?_ ?_ ?_ ?_ ?_ ?_ (by simpa [hsl] using hnl) (by simpa using hsl) (by omega) (by simp; omega) ?_
        · simp only [↓Rd, Rt, Rl, Rb, gP_done, dP_done, Al.all_oks, plan, binV, binInt, eqV, isNilV, app, if_true, if_false, reduceIte, Nat.reduceEqDiff, beq_self_eq_true, reduceCtorEq, ge_iff_le, resultsV, noTup, tupV, fnOf, Nat.reduceAdd, rdAt, takeV, wrAt, splice, cellsV, lenL, ne_eq, Nat.reduceLeDiff, partsV, elemsV, toPss, toPs, toP, fill, Nat.reduceMul, Nat.reduceLT, snapHsl, snapHref, h1]
        · simp only [↓Rd, Rt, Rl, Rb, gP_done, dP_done, Al.all_oks, plan, binV, binInt, eqV, isNilV, app, if_true, if_false, reduceIte, Nat.reduceEqDiff, beq_self_eq_true, reduceCtorEq, ge_iff_le, resultsV, noTup, tupV, fnOf, Nat.reduceAdd, rdAt, takeV, wrAt, splice, cellsV, lenL, ne_eq, Nat.reduceLeDiff, partsV, elemsV, toPss, toPs, toP, fill, Nat.reduceMul, Nat.reduceLT, snapHsl, snapHref, hB]
        · simp only [↓Rd, Rt, Rl, Rb, gP_done, dP_done, Al.all_oks, plan, binV, binInt, eqV, isNilV, app, if_true, if_false, reduceIte, Nat.reduceEqDiff, beq_self_eq_true, reduceCtorEq, ge_iff_le, resultsV, noTup, tupV, fnOf, Nat.reduceAdd, rdAt, takeV, wrAt, splice, cellsV, lenL, ne_eq, Nat.reduceLeDiff, partsV, elemsV, toPss, toPs, toP, fill, Nat.reduceMul, Nat.reduceLT, snapHsl, snapHref, h4]
        · simp only [↓Rd, Rt, Rl, Rb, gP_done, dP_done, Al.all_oks, plan, binV, binInt, eqV, isNilV, app, if_true, if_false, reduceIte, Nat.reduceEqDiff, beq_self_eq_true, reduceCtorEq, ge_iff_le, resultsV, noTup, tupV, fnOf, Nat.reduceAdd, rdAt, takeV, wrAt, splice, cellsV, lenL, ne_eq, Nat.reduceLeDiff, partsV, elemsV, toPss, toPs, toP, fill, Nat.reduceMul, Nat.reduceLT, snapHsl, snapHref, hA]
        · simp only [↓Rd, Rt, Rl, Rb, gP_done, dP_done, Al.all_oks, plan, binV, binInt, eqV, isNilV, app, if_true, if_false, reduceIte, Nat.reduceEqDiff, beq_self_eq_true, reduceCtorEq, ge_iff_le, resultsV, noTup, tupV, fnOf, Nat.reduceAdd, rdAt, takeV, wrAt, splice, cellsV, lenL, ne_eq, Nat.reduceLeDiff, partsV, elemsV, toPss, toPs, toP, fill, Nat.reduceMul, Nat.reduceLT, snapHsl, snapHref, h5, List.length_set]
        · simp only [↓Rd, Rt, Rl, Rb, gP_done, dP_done, Al.all_oks, plan, binV, binInt, eqV, isNilV, app, if_true, if_false, reduceIte, Nat.reduceEqDiff, beq_self_eq_true, reduceCtorEq, ge_iff_le, resultsV, noTup, tupV, fnOf, Nat.reduceAdd, rdAt, takeV, wrAt, splice, cellsV, lenL, ne_eq, Nat.reduceLeDiff, partsV, elemsV, toPss, toPs, toP, fill, Nat.reduceMul, Nat.reduceLT, snapHsl, snapHref]
        · simp only [↓Rd, Rt, Rl, Rb, gP_done, dP_done, Al.all_oks, plan, binV, binInt, eqV, isNilV, app, if_true, if_false, reduceIte, Nat.reduceEqDiff, beq_self_eq_true, reduceCtorEq, ge_iff_le, resultsV, noTup, tupV, fnOf, Nat.reduceAdd, rdAt, takeV, wrAt, splice, cellsV, lenL, ne_eq, Nat.reduceLeDiff, partsV, elemsV, toPss, toPs, toP, fill, Nat.reduceMul, Nat.reduceLT, snapHsl, snapHref]
          exact .inr ⟨by simp, _, rfl, rfl⟩
        · simp only [↓Rd, Rt, Rl, Rb, gP_done, dP_done, Al.all_oks, plan, binV, binInt, eqV, isNilV, app, if_true, if_false, reduceIte, Nat.reduceEqDiff, beq_self_eq_true, reduceCtorEq, ge_iff_le, resultsV, noTup, tupV, fnOf, Nat.reduceAdd, rdAt, takeV, wrAt, splice, cellsV, lenL, ne_eq, Nat.reduceLeDiff, partsV, elemsV, toPss, toPs, toP, fill, Nat.reduceMul, Nat.reduceLT, snapHsl, snapHref]
        · intro env' blk' q1 q3 q4 q5 q6 b1 b2 b3 b4 b5 b6
          refine hq env' blk' ?_ ?_ ?_ ?_ ?_ ?_ ?_ ?_ ?_ b5 ?_
          · rw [q1]; simp only [↓Rd, Rt, Rl, Rb, gP_done, dP_done, Al.all_oks, plan, binV, binInt, eqV, isNilV, app, if_true, if_false, reduceIte, Nat.reduceEqDiff, beq_self_eq_true, reduceCtorEq, ge_iff_le, resultsV, noTup, tupV, fnOf, Nat.reduceAdd, rdAt, takeV, wrAt, splice, cellsV, lenL, ne_eq, Nat.reduceLeDiff, partsV, elemsV, toPss, toPs, toP, fill, Nat.reduceMul, Nat.reduceLT, snapHsl, snapHref]
          · rw [q3]; simp only [↓Rd, Rt, Rl, Rb, gP_done, dP_done, Al.all_oks, plan, binV, binInt, eqV, isNilV, app, if_true, if_false, reduceIte, Nat.reduceEqDiff, beq_self_eq_true, reduceCtorEq, ge_iff_le, resultsV, noTup, tupV, fnOf, Nat.reduceAdd, rdAt, takeV, wrAt, splice, cellsV, lenL, ne_eq, Nat.reduceLeDiff, partsV, elemsV, toPss, toPs, toP, fill, Nat.reduceMul, Nat.reduceLT, snapHsl, snapHref]
          · rw [q4]; simp only [↓Rd, Rt, Rl, Rb, gP_done, dP_done, Al.all_oks, plan, binV, binInt, eqV, isNilV, app, if_true, if_false, reduceIte, Nat.reduceEqDiff, beq_self_eq_true, reduceCtorEq, ge_iff_le, resultsV, noTup, tupV, fnOf, Nat.reduceAdd, rdAt, takeV, wrAt, splice, cellsV, lenL, ne_eq, Nat.reduceLeDiff, partsV, elemsV, toPss, toPs, toP, fill, Nat.reduceMul, Nat.reduceLT, snapHsl, snapHref]
          · rw [q5]; simp only [↓Rd, Rt, Rl, Rb, gP_done, dP_done, Al.all_oks, plan, binV, binInt, eqV, isNilV, app, if_true, if_false, reduceIte, Nat.reduceEqDiff, beq_self_eq_true, reduceCtorEq, ge_iff_le, resultsV, noTup, tupV, fnOf, Nat.reduceAdd, rdAt, takeV, wrAt, splice, cellsV, lenL, ne_eq, Nat.reduceLeDiff, partsV, elemsV, toPss, toPs, toP, fill, Nat.reduceMul, Nat.reduceLT, snapHsl, snapHref]
          · rw [q6]; simp only [↓Rd, Rt, Rl, Rb, gP_done, dP_done, Al.all_oks, plan, binV, binInt, eqV, isNilV, app, if_true, if_false, reduceIte, Nat.reduceEqDiff, beq_self_eq_true, reduceCtorEq, ge_iff_le, resultsV, noTup, tupV, fnOf, Nat.reduceAdd, rdAt, takeV, wrAt, splice, cellsV, lenL, ne_eq, Nat.reduceLeDiff, partsV, elemsV, toPss, toPs, toP, fill, Nat.reduceMul, Nat.reduceLT, snapHsl, snapHref]
          · rw [b1]; simp only [↓Rd, Rt, Rl, Rb, gP_done, dP_done, Al.all_oks, plan, binV, binInt, eqV, isNilV, app, if_true, if_false, reduceIte, Nat.reduceEqDiff, beq_self_eq_true, reduceCtorEq, ge_iff_le, resultsV, noTup, tupV, fnOf, Nat.reduceAdd, rdAt, takeV, wrAt, splice, cellsV, lenL, ne_eq, Nat.reduceLeDiff, partsV, elemsV, toPss, toPs, toP, fill, Nat.reduceMul, Nat.reduceLT, snapHsl, snapHref]
          · rw [b2]; simp only [↓Rd, Rt, Rl, Rb, gP_done, dP_done, Al.all_oks, plan, binV, binInt, eqV, isNilV, app, if_true, if_false, reduceIte, Nat.reduceEqDiff, beq_self_eq_true, reduceCtorEq, ge_iff_le, resultsV, noTup, tupV, fnOf, Nat.reduceAdd, rdAt, takeV, wrAt, splice, cellsV, lenL, ne_eq, Nat.reduceLeDiff, partsV, elemsV, toPss, toPs, toP, fill, Nat.reduceMul, Nat.reduceLT, snapHsl, snapHref]
          · rw [b3]; simp only [↓Rd, Rt, Rl, Rb, gP_done, dP_done, Al.all_oks, plan, binV, binInt, eqV, isNilV, app, if_true, if_false, reduceIte, Nat.reduceEqDiff, beq_self_eq_true, reduceCtorEq, ge_iff_le, resultsV, noTup, tupV, fnOf, Nat.reduceAdd, rdAt, takeV, wrAt, splice, cellsV, lenL, ne_eq, Nat.reduceLeDiff, partsV, elemsV, toPss, toPs, toP, fill, Nat.reduceMul, Nat.reduceLT, snapHsl, snapHref]
          · rw [b4]; simp only [↓Rd, Rt, Rl, Rb, gP_done, dP_done, Al.all_oks, plan, binV, binInt, eqV, isNilV, app, if_true, if_false, reduceIte, Nat.reduceEqDiff, beq_self_eq_true, reduceCtorEq, ge_iff_le, resultsV, noTup, tupV, fnOf, Nat.reduceAdd, rdAt, takeV, wrAt, splice, cellsV, lenL, ne_eq, Nat.reduceLeDiff, partsV, elemsV, toPss, toPs, toP, fill, Nat.reduceMul, Nat.reduceLT, snapHsl, snapHref]
          · simpa using b6
      · have htw : List.take w.length (nP w) = nP w := List.take_of_length_le (by simp)
        have hr1 := hroom (w.length + 1) (by omega)
        simp only [↓Rd, Rt, Rl, Rb, gP_done, dP_done, Al.all_oks, plan, binV, binInt, eqV, isNilV, app, if_true, if_false, reduceIte, Nat.reduceEqDiff, beq_self_eq_true, reduceCtorEq, ge_iff_le, resultsV, noTup, tupV, fnOf, Nat.reduceAdd, rdAt, takeV, wrAt, splice, cellsV, lenL, ne_eq, Nat.reduceLeDiff, partsV, elemsV, toPss, toPs, toP, fill, Nat.reduceMul, Nat.reduceLT, snapHsl, snapHref, i16_l1, h1, hB, h4, hA, h5, hS, h7, h8, hx, hbp, hset, hta, s31, gP_int pt, hC, htw, hr1, planAppend, elemsOf, szOf, szOK, frz, frzL, room, planSlice, boundOf, Nat.reduceSub, Int.reduceLT, Int.reduceAdd, Int.reduceBEq, Int.reduceBNe, Int.reduceLE, List.contains_eq_mem, frzL_nil, onesC, snap_hfn, snapHfn_some, snap_href_s, snap_hsl_s]
        refine ih (turnD ls ax x) (sn.set x true) (w ++ [x]) _ _ ?_ ?_ ?_ ?_ ?_ ?_ ?_ ?_ (by simpa [hsl] using hnl) (by simpa using hsl) (by omega) (by simp; omega) ?_
        · simp only [↓Rd, Rt, Rl, Rb, gP_done, dP_done, Al.all_oks, plan, binV, binInt, eqV, isNilV, app, if_true, if_false, reduceIte, Nat.reduceEqDiff, beq_self_eq_true, reduceCtorEq, ge_iff_le, resultsV, noTup, tupV, fnOf, Nat.reduceAdd, rdAt, takeV, wrAt, splice, cellsV, lenL, ne_eq, Nat.reduceLeDiff, partsV, elemsV, toPss, toPs, toP, fill, Nat.reduceMul, Nat.reduceLT, snapHsl, snapHref, h1]
        · simp only [↓Rd, Rt, Rl, Rb, gP_done, dP_done, Al.all_oks, plan, binV, binInt, eqV, isNilV, app, if_true, if_false, reduceIte, Nat.reduceEqDiff, beq_self_eq_true, reduceCtorEq, ge_iff_le, resultsV, noTup, tupV, fnOf, Nat.reduceAdd, rdAt, takeV, wrAt, splice, cellsV, lenL, ne_eq, Nat.reduceLeDiff, partsV, elemsV, toPss, toPs, toP, fill, Nat.reduceMul, Nat.reduceLT, snapHsl, snapHref, hB]
        · simp only [↓Rd, Rt, Rl, Rb, gP_done, dP_done, Al.all_oks, plan, binV, binInt, eqV, isNilV, app, if_true, if_false, reduceIte, Nat.reduceEqDiff, beq_self_eq_true, reduceCtorEq, ge_iff_le, resultsV, noTup, tupV, fnOf, Nat.reduceAdd, rdAt, takeV, wrAt, splice, cellsV, lenL, ne_eq, Nat.reduceLeDiff, partsV, elemsV, toPss, toPs, toP, fill, Nat.reduceMul, Nat.reduceLT, snapHsl, snapHref, h4]
        · simp only [↓Rd, Rt, Rl, Rb, gP_done, dP_done, Al.all_oks, plan, binV, binInt, eqV, isNilV, app, if_true, if_false, reduceIte, Nat.reduceEqDiff, beq_self_eq_true, reduceCtorEq, ge_iff_le, resultsV, noTup, tupV, fnOf, Nat.reduceAdd, rdAt, takeV, wrAt, splice, cellsV, lenL, ne_eq, Nat.reduceLeDiff, partsV, elemsV, toPss, toPs, toP, fill, Nat.reduceMul, Nat.reduceLT, snapHsl, snapHref, hA]
        · simp only [↓Rd, Rt, Rl, Rb, gP_done, dP_done, Al.all_oks, plan, binV, binInt, eqV, isNilV, app, if_true, if_false, reduceIte, Nat.reduceEqDiff, beq_self_eq_true, reduceCtorEq, ge_iff_le, resultsV, noTup, tupV, fnOf, Nat.reduceAdd, rdAt, takeV, wrAt, splice, cellsV, lenL, ne_eq, Nat.reduceLeDiff, partsV, elemsV, toPss, toPs, toP, fill, Nat.reduceMul, Nat.reduceLT, snapHsl, snapHref, h5, List.length_set]
        · simp only [↓Rd, Rt, Rl, Rb, gP_done, dP_done, Al.all_oks, plan, binV, binInt, eqV, isNilV, app, if_true, if_false, reduceIte, Nat.reduceEqDiff, beq_self_eq_true, reduceCtorEq, ge_iff_le, resultsV, noTup, tupV, fnOf, Nat.reduceAdd, rdAt, takeV, wrAt, splice, cellsV, lenL, ne_eq, Nat.reduceLeDiff, partsV, elemsV, toPss, toPs, toP, fill, Nat.reduceMul, Nat.reduceLT, snapHsl, snapHref]
        · simp only [↓Rd, Rt, Rl, Rb, gP_done, dP_done, Al.all_oks, plan, binV, binInt, eqV, isNilV, app, if_true, if_false, reduceIte, Nat.reduceEqDiff, beq_self_eq_true, reduceCtorEq, ge_iff_le, resultsV, noTup, tupV, fnOf, Nat.reduceAdd, rdAt, takeV, wrAt, splice, cellsV, lenL, ne_eq, Nat.reduceLeDiff, partsV, elemsV, toPss, toPs, toP, fill, Nat.reduceMul, Nat.reduceLT, snapHsl, snapHref]
          exact .inr ⟨by simp, g + 1, by simp, by simp [upd_apply]⟩
        · simp only [↓Rd, Rt, Rl, Rb, gP_done, dP_done, Al.all_oks, plan, binV, binInt, eqV, isNilV, app, if_true, if_false, reduceIte, Nat.reduceEqDiff, beq_self_eq_true, reduceCtorEq, ge_iff_le, resultsV, noTup, tupV, fnOf, Nat.reduceAdd, rdAt, takeV, wrAt, splice, cellsV, lenL, ne_eq, Nat.reduceLeDiff, partsV, elemsV, toPss, toPs, toP, fill, Nat.reduceMul, Nat.reduceLT, snapHsl, snapHref]
        · intro env' blk' q1 q3 q4 q5 q6 b1 b2 b3 b4 b5 b6
          refine hq env' blk' ?_ ?_ ?_ ?_ ?_ ?_ ?_ ?_ ?_ b5 ?_
          · rw [q1]; simp only [↓Rd, Rt, Rl, Rb, gP_done, dP_done, Al.all_oks, plan, binV, binInt, eqV, isNilV, app, if_true, if_false, reduceIte, Nat.reduceEqDiff, beq_self_eq_true, reduceCtorEq, ge_iff_le, resultsV, noTup, tupV, fnOf, Nat.reduceAdd, rdAt, takeV, wrAt, splice, cellsV, lenL, ne_eq, Nat.reduceLeDiff, partsV, elemsV, toPss, toPs, toP, fill, Nat.reduceMul, Nat.reduceLT, snapHsl, snapHref]
          · rw [q3]; simp only [↓Rd, Rt, Rl, Rb, gP_done, dP_done, Al.all_oks, plan, binV, binInt, eqV, isNilV, app, if_true, if_false, reduceIte, Nat.reduceEqDiff, beq_self_eq_true, reduceCtorEq, ge_iff_le, resultsV, noTup, tupV, fnOf, Nat.reduceAdd, rdAt, takeV, wrAt, splice, cellsV, lenL, ne_eq, Nat.reduceLeDiff, partsV, elemsV, toPss, toPs, toP, fill, Nat.reduceMul, Nat.reduceLT, snapHsl, snapHref]
          · rw [q4]; simp only [↓Rd, Rt, Rl, Rb, gP_done, dP_done, Al.all_oks, plan, binV, binInt, eqV, isNilV, app, if_true, if_false, reduceIte, Nat.reduceEqDiff, beq_self_eq_true, reduceCtorEq, ge_iff_le, resultsV, noTup, tupV, fnOf, Nat.reduceAdd, rdAt, takeV, wrAt, splice, cellsV, lenL, ne_eq, Nat.reduceLeDiff, partsV, elemsV, toPss, toPs, toP, fill, Nat.reduceMul, Nat.reduceLT, snapHsl, snapHref]
          · rw [q5]; simp only [↓Rd, Rt, Rl, Rb, gP_done, dP_done, Al.all_oks, plan, binV, binInt, eqV, isNilV, app, if_true, if_false, reduceIte, Nat.reduceEqDiff, beq_self_eq_true, reduceCtorEq, ge_iff_le, resultsV, noTup, tupV, fnOf, Nat.reduceAdd, rdAt, takeV, wrAt, splice, cellsV, lenL, ne_eq, Nat.reduceLeDiff, partsV, elemsV, toPss, toPs, toP, fill, Nat.reduceMul, Nat.reduceLT, snapHsl, snapHref]
          · rw [q6]; simp only [↓Rd, Rt, Rl, Rb, gP_done, dP_done, Al.all_oks, plan, binV, binInt, eqV, isNilV, app, if_true, if_false, reduceIte, Nat.reduceEqDiff, beq_self_eq_true, reduceCtorEq, ge_iff_le, resultsV, noTup, tupV, fnOf, Nat.reduceAdd, rdAt, takeV, wrAt, splice, cellsV, lenL, ne_eq, Nat.reduceLeDiff, partsV, elemsV, toPss, toPs, toP, fill, Nat.reduceMul, Nat.reduceLT, snapHsl, snapHref]
          · rw [b1]; simp only [↓Rd, Rt, Rl, Rb, gP_done, dP_done, Al.all_oks, plan, binV, binInt, eqV, isNilV, app, if_true, if_false, reduceIte, Nat.reduceEqDiff, beq_self_eq_true, reduceCtorEq, ge_iff_le, resultsV, noTup, tupV, fnOf, Nat.reduceAdd, rdAt, takeV, wrAt, splice, cellsV, lenL, ne_eq, Nat.reduceLeDiff, partsV, elemsV, toPss, toPs, toP, fill, Nat.reduceMul, Nat.reduceLT, snapHsl, snapHref]
          · rw [b2]; simp only [↓Rd, Rt, Rl, Rb, gP_done, dP_done, Al.all_oks, plan, binV, binInt, eqV, isNilV, app, if_true, if_false, reduceIte, Nat.reduceEqDiff, beq_self_eq_true, reduceCtorEq, ge_iff_le, resultsV, noTup, tupV, fnOf, Nat.reduceAdd, rdAt, takeV, wrAt, splice, cellsV, lenL, ne_eq, Nat.reduceLeDiff, partsV, elemsV, toPss, toPs, toP, fill, Nat.reduceMul, Nat.reduceLT, snapHsl, snapHref]
          · rw [b3]; simp only [↓Rd, Rt, Rl, Rb, gP_done, dP_done, Al.all_oks, plan, binV, binInt, eqV, isNilV, app, if_true, if_false, reduceIte, Nat.reduceEqDiff, beq_self_eq_true, reduceCtorEq, ge_iff_le, resultsV, noTup, tupV, fnOf, Nat.reduceAdd, rdAt, takeV, wrAt, splice, cellsV, lenL, ne_eq, Nat.reduceLeDiff, partsV, elemsV, toPss, toPs, toP, fill, Nat.reduceMul, Nat.reduceLT, snapHsl, snapHref]
          · rw [b4]; simp only [↓Rd, Rt, Rl, Rb, gP_done, dP_done, Al.all_oks, plan, binV, binInt, eqV, isNilV, app, if_true, if_false, reduceIte, Nat.reduceEqDiff, beq_self_eq_true, reduceCtorEq, ge_iff_le, resultsV, noTup, tupV, fnOf, Nat.reduceAdd, rdAt, takeV, wrAt, splice, cellsV, lenL, ne_eq, Nat.reduceLeDiff, partsV, elemsV, toPss, toPs, toP, fill, Nat.reduceMul, Nat.reduceLT, snapHsl, snapHref]
          · simpa using b6

def outW (site : Nat) (o : List (List Nat)) (v : V) (blk : Blk) : Prop := (o = [] ∧ v = .one (.p .nils)) ∨ (o ≠ [] ∧ ∃ g, v = .one (.hsl site g 1 0 o.length) ∧ blk site = (g, some (.arr 67 1 (o.map fun w => [natsP w]))))
theorem walks_r (f : Int) (ls : List Let) (hl : ls.length ≤ 1000000) (hne : axisR ls ≠ []) (hp : ∀ v l, ls[v]? = some l → (l.kind == 2) = false → v ∈ axisR ls) :
    PEv S 16 [codeV f ls] (.one (.own 67 1 ((walksL (turnD ls (axisR ls)) (2 * ls.length + 2 * (axisR ls).length)).map fun w => [natsP w]))) := by
  have pa := axis_r f ls hl
  have hax : ∀ x ∈ axisR ls, x < ls.length := fun x h => axisK_lt h
  have hal : (axisR ls).length ≤ ls.length := axisK_len ls ls.length
  unfold axisRC at pa
  rw [if_neg hne] at pa
  generalize axisR ls = ax at hne hp pa hax hal
  have m1 := wrap_mul2 (a := ls.length) (by omega)
  have m2 := wrap_mul2 (a := ax.length) (by omega)
  have m3 := wrap_add (a := 2 * ls.length) (b := 2 * ax.length) (by omega)
  have hl2 : (nP ax).length = ax.length := by simp
  have hroom : 2 * ls.length + 2 * ax.length ≤ 140737488355328 := by omega
  have hrep : List.replicate (2 * ls.length + 2 * ax.length) [PV.bool false] = bP (List.replicate (2 * ls.length + 2 * ax.length) false) := by simp
  refine PEv_fn rfl c16 (Nat.le_of_ble_eq_true rfl) ?_
  have hland : ∀ (blk : Blk), land blk [] 1024128064 ((RV.one (.own 3 1 (nP ax))).pureIf (S.lone 1024128064)) = some (.one (.hsl 1024128064 ((blk 1024128064).1 + 1) 1 0 ax.length), [(1024128064, ((blk 1024128064).1 + 1, some (.arr 3 1 (nP ax))))]) := by
    intro blk
    have hlo : S.lone 1024128064 = false := by kernel_rfl
    rw [hlo]
    simp only [RV.pureIf, land, true_or, if_true, inV, flatR, flatR1, inCs, inC, reshV, reshV1, List.length_map, List.append_nil]
  simp only [↓Rd, Rt, Rl, Rb, gP_done, dP_done, Al.all_oks, plan, binV, binInt, eqV, isNilV, app, if_true, if_false, reduceIte, Nat.reduceEqDiff, beq_self_eq_true, reduceCtorEq, ge_iff_le, resultsV, noTup, tupV, fnOf, Nat.reduceAdd, rdAt, takeV, wrAt, splice, cellsV, lenL, ne_eq, Nat.reduceLeDiff, partsV, elemsV, toPss, toPs, toP, fill, Nat.reduceMul, Nat.reduceLT, snapHsl, snapHref, i16, noBlk, s30, gP_land pa (hland _), m1, m2, m3, hroom, hrep, planAppend, elemsOf, szOf, szOK, frz, frzL, room, planSlice, boundOf, Nat.reduceSub, Int.reduceLT, Int.reduceAdd, Int.reduceBEq, Int.reduceBNe, Int.reduceLE, List.contains_eq_mem, frzL_nil, onesC, snap_hfn, snapHfn_some, snap_href_s, snap_hsl_s]
  generalize hN : 2 * ls.length + 2 * ax.length = N at hroom
  refine R_for (fun k env blk => env 1 = .one (.href 1024000000 1 0) ∧ blk 1024000000 = (1, some (.var (codeC f ls))) ∧ env 4 = .one (.hsl 1024128064 1 1 0 ax.length) ∧ blk 1024128064 = (1, some (.arr 3 1 (nP ax))) ∧
      env 5 = .one (.hsl 1024192512 1 1 0 N) ∧ blk 1024192512 = (1, some (.arr 4 1 (bP (walksK (turnD ls ax) N k).2))) ∧ env 6 = vi k ∧ outW 1024896192 (walksK (turnD ls ax) N k).1 (env 3) blk) 0 N (Nat.zero_le _) ?_ ?_
  · simp only [↓Rd, Rt, Rl, Rb, gP_done, dP_done, Al.all_oks, plan, binV, binInt, eqV, isNilV, app, if_true, if_false, reduceIte, Nat.reduceEqDiff, beq_self_eq_true, reduceCtorEq, ge_iff_le, resultsV, noTup, tupV, fnOf, Nat.reduceAdd, rdAt, takeV, wrAt, splice, cellsV, lenL, ne_eq, Nat.reduceLeDiff, partsV, elemsV, toPss, toPs, toP, fill, Nat.reduceMul, Nat.reduceLT, snapHsl, snapHref]
    exact ⟨rfl, rfl, .inl ⟨rfl, rfl⟩⟩
  · rintro k env blk hk ⟨h1, hB, h4, hA, h5, hS, h6, ho⟩
    have hlen := walksK_len (turnD ls ax) N k
    have holen := walksK_olen (turnD ls ax) N k
    by_cases hlt : k < N
    · have hlt' : ((k : Int) < (N : Int)) := by omega
      have w1 := wrap_succ (n := k) (by omega)
      have hs := walksK_succ (turnD ls ax) N k
      generalize hst : walksK (turnD ls ax) N k = st at hlen hs ho hS holen
      obtain ⟨out, sn⟩ := st
      simp only at hlen ho hS holen
      obtain ⟨b, hb⟩ := at_lt (ls := sn) (k := k) (by omega)
      have hbp := bP_at hb
      unfold walkStep at hs
      have hgd : sn.getD k true = b := by rw [List.getD_eq_getElem?_getD, hb]; rfl
      simp only [hgd] at hs
      cases b with
      | true =>
        have hs : walksK (turnD ls ax) N (k + 1) = (out, sn) := hs
        simp only [↓Rd, Rt, Rl, Rb, gP_done, dP_done, Al.all_oks, plan, binV, binInt, eqV, isNilV, app, if_true, if_false, reduceIte, Nat.reduceEqDiff, beq_self_eq_true, reduceCtorEq, ge_iff_le, resultsV, noTup, tupV, fnOf, Nat.reduceAdd, rdAt, takeV, wrAt, splice, cellsV, lenL, ne_eq, Nat.reduceLeDiff, partsV, elemsV, toPss, toPs, toP, fill, Nat.reduceMul, Nat.reduceLT, snapHsl, snapHref, i16_l4, i16_r3, h1, hB, h4, hA, h5, hS, h6, hlt, hlt', hbp, w1, hs, planAppend, elemsOf, szOf, szOK, frz, frzL, room, planSlice, boundOf, Nat.reduceSub, Int.reduceLT, Int.reduceAdd, Int.reduceBEq, Int.reduceBNe, Int.reduceLE, List.contains_eq_mem, frzL_nil, onesC, snap_hfn, snapHfn_some, snap_href_s, snap_hsl_s]
        exact ho
      | false =>
        have hs : walksK (turnD ls ax) N (k + 1) = (out ++ [(walkF (turnD ls ax) (N + 1) k sn).1], (walkF (turnD ls ax) (N + 1) k sn).2) := by rw [hs, hlen]; rfl
        have hul := unseen_le sn
        simp only [↓Rd, Rt, Rl, Rb, gP_done, dP_done, Al.all_oks, plan, binV, binInt, eqV, isNilV, app, if_true, if_false, reduceIte, Nat.reduceEqDiff, beq_self_eq_true, reduceCtorEq, ge_iff_le, resultsV, noTup, tupV, fnOf, Nat.reduceAdd, rdAt, takeV, wrAt, splice, cellsV, lenL, ne_eq, Nat.reduceLeDiff, partsV, elemsV, toPss, toPs, toP, fill, Nat.reduceMul, Nat.reduceLT, snapHsl, snapHref, i16_l4, h1, hB, h4, hA, h5, hS, h6, hlt, hlt', hbp, planAppend, elemsOf, szOf, szOK, frz, frzL, room, planSlice, boundOf, Nat.reduceSub, Int.reduceLT, Int.reduceAdd, Int.reduceBEq, Int.reduceBNe, Int.reduceLE, List.contains_eq_mem, frzL_nil, onesC, snap_hfn, snapHfn_some, snap_href_s, snap_hsl_s]
        refine walkIn (f := f) hl (by omega) hax hp (N + 1) k sn [] _ _ ?_ ?_ ?_ ?_ ?_ ?_ ?_ ?_ (by omega) (by omega) (by omega) (by simp; omega) ?_
        · simp only [↓Rd, Rt, Rl, Rb, gP_done, dP_done, Al.all_oks, plan, binV, binInt, eqV, isNilV, app, if_true, if_false, reduceIte, Nat.reduceEqDiff, beq_self_eq_true, reduceCtorEq, ge_iff_le, resultsV, noTup, tupV, fnOf, Nat.reduceAdd, rdAt, takeV, wrAt, splice, cellsV, lenL, ne_eq, Nat.reduceLeDiff, partsV, elemsV, toPss, toPs, toP, fill, Nat.reduceMul, Nat.reduceLT, snapHsl, snapHref, h1]
        · simp only [↓Rd, Rt, Rl, Rb, gP_done, dP_done, Al.all_oks, plan, binV, binInt, eqV, isNilV, app, if_true, if_false, reduceIte, Nat.reduceEqDiff, beq_self_eq_true, reduceCtorEq, ge_iff_le, resultsV, noTup, tupV, fnOf, Nat.reduceAdd, rdAt, takeV, wrAt, splice, cellsV, lenL, ne_eq, Nat.reduceLeDiff, partsV, elemsV, toPss, toPs, toP, fill, Nat.reduceMul, Nat.reduceLT, snapHsl, snapHref, hB]
        · simp only [↓Rd, Rt, Rl, Rb, gP_done, dP_done, Al.all_oks, plan, binV, binInt, eqV, isNilV, app, if_true, if_false, reduceIte, Nat.reduceEqDiff, beq_self_eq_true, reduceCtorEq, ge_iff_le, resultsV, noTup, tupV, fnOf, Nat.reduceAdd, rdAt, takeV, wrAt, splice, cellsV, lenL, ne_eq, Nat.reduceLeDiff, partsV, elemsV, toPss, toPs, toP, fill, Nat.reduceMul, Nat.reduceLT, snapHsl, snapHref, h4]
        · simp only [↓Rd, Rt, Rl, Rb, gP_done, dP_done, Al.all_oks, plan, binV, binInt, eqV, isNilV, app, if_true, if_false, reduceIte, Nat.reduceEqDiff, beq_self_eq_true, reduceCtorEq, ge_iff_le, resultsV, noTup, tupV, fnOf, Nat.reduceAdd, rdAt, takeV, wrAt, splice, cellsV, lenL, ne_eq, Nat.reduceLeDiff, partsV, elemsV, toPss, toPs, toP, fill, Nat.reduceMul, Nat.reduceLT, snapHsl, snapHref, hA]
        · simp only [↓Rd, Rt, Rl, Rb, gP_done, dP_done, Al.all_oks, plan, binV, binInt, eqV, isNilV, app, if_true, if_false, reduceIte, Nat.reduceEqDiff, beq_self_eq_true, reduceCtorEq, ge_iff_le, resultsV, noTup, tupV, fnOf, Nat.reduceAdd, rdAt, takeV, wrAt, splice, cellsV, lenL, ne_eq, Nat.reduceLeDiff, partsV, elemsV, toPss, toPs, toP, fill, Nat.reduceMul, Nat.reduceLT, snapHsl, snapHref, h5, hlen]
        · simp only [↓Rd, Rt, Rl, Rb, gP_done, dP_done, Al.all_oks, plan, binV, binInt, eqV, isNilV, app, if_true, if_false, reduceIte, Nat.reduceEqDiff, beq_self_eq_true, reduceCtorEq, ge_iff_le, resultsV, noTup, tupV, fnOf, Nat.reduceAdd, rdAt, takeV, wrAt, splice, cellsV, lenL, ne_eq, Nat.reduceLeDiff, partsV, elemsV, toPss, toPs, toP, fill, Nat.reduceMul, Nat.reduceLT, snapHsl, snapHref, hS]
        · exact .inl ⟨rfl, by simp only [↓Rd, Rt, Rl, Rb, gP_done, dP_done, Al.all_oks, plan, binV, binInt, eqV, isNilV, app, if_true, if_false, reduceIte, Nat.reduceEqDiff, beq_self_eq_true, reduceCtorEq, ge_iff_le, resultsV, noTup, tupV, fnOf, Nat.reduceAdd, rdAt, takeV, wrAt, splice, cellsV, lenL, ne_eq, Nat.reduceLeDiff, partsV, elemsV, toPss, toPs, toP, fill, Nat.reduceMul, Nat.reduceLT, snapHsl, snapHref]⟩
        · simp only [↓Rd, Rt, Rl, Rb, gP_done, dP_done, Al.all_oks, plan, binV, binInt, eqV, isNilV, app, if_true, if_false, reduceIte, Nat.reduceEqDiff, beq_self_eq_true, reduceCtorEq, ge_iff_le, resultsV, noTup, tupV, fnOf, Nat.reduceAdd, rdAt, takeV, wrAt, splice, cellsV, lenL, ne_eq, Nat.reduceLeDiff, partsV, elemsV, toPss, toPs, toP, fill, Nat.reduceMul, Nat.reduceLT, snapHsl, snapHref]
        · intro env' blk' q1 q3 q4 q5 q6 b1 b2 b3 b4 b5 b6
          simp only [↓Rd, Rt, Rl, Rb, gP_done, dP_done, Al.all_oks, plan, binV, binInt, eqV, isNilV, app, if_true, if_false, reduceIte, Nat.reduceEqDiff, beq_self_eq_true, reduceCtorEq, ge_iff_le, resultsV, noTup, tupV, fnOf, Nat.reduceAdd, rdAt, takeV, wrAt, splice, cellsV, lenL, ne_eq, Nat.reduceLeDiff, partsV, elemsV, toPss, toPs, toP, fill, Nat.reduceMul, Nat.reduceLT, snapHsl, snapHref, h1, h4, h5, h6] at q1 q3 q4 q5 q6
          simp only [↓Rd, Rt, Rl, Rb, gP_done, dP_done, Al.all_oks, plan, binV, binInt, eqV, isNilV, app, if_true, if_false, reduceIte, Nat.reduceEqDiff, beq_self_eq_true, reduceCtorEq, ge_iff_le, resultsV, noTup, tupV, fnOf, Nat.reduceAdd, rdAt, takeV, wrAt, splice, cellsV, lenL, ne_eq, Nat.reduceLeDiff, partsV, elemsV, toPss, toPs, toP, fill, Nat.reduceMul, Nat.reduceLT, snapHsl, snapHref, hB, hA] at b1 b2 b3 b4
          have hwne : (walkF (turnD ls ax) (N + 1) k sn).1 ≠ [] := by
            unfold walkF
            rw [hgd]
            simp
          rw [List.nil_append] at b6
          rcases b6 with ⟨e, _⟩ | ⟨_, g, h7, hC⟩
          · exact (hwne e).elim
          · generalize walkF (turnD ls ax) (N + 1) k sn = wf at hs hwne b5 h7 hC
            obtain ⟨w, sn'⟩ := wf
            simp only at hs hwne b5 h7 hC
            have htw : List.take w.length (nP w) = nP w := List.take_of_length_le (by simp)
            rcases ho with ⟨rfl, h3⟩ | ⟨ho, go, h3, hO⟩
            · rw [h3] at q3
              simp only [↓Rd, Rt, Rl, Rb, gP_done, dP_done, Al.all_oks, plan, binV, binInt, eqV, isNilV, app, if_true, if_false, reduceIte, Nat.reduceEqDiff, beq_self_eq_true, reduceCtorEq, ge_iff_le, resultsV, noTup, tupV, fnOf, Nat.reduceAdd, rdAt, takeV, wrAt, splice, cellsV, lenL, ne_eq, Nat.reduceLeDiff, partsV, elemsV, toPss, toPs, toP, fill, Nat.reduceMul, Nat.reduceLT, snapHsl, snapHref, i16_r2, i16_r3, q1, q3, q4, q5, q6, b1, b2, b5, h7, hC, htw, w1, hs, hlt, frz1, List.mem_cons, planAppend, elemsOf, szOf, szOK, frz, frzL, room, planSlice, boundOf, Nat.reduceSub, Int.reduceLT, Int.reduceAdd, Int.reduceBEq, Int.reduceBNe, Int.reduceLE, List.contains_eq_mem, frzL_nil, onesC, snap_hfn, snapHfn_some, snap_href_s, snap_hsl_s]
              exact .inr ⟨by simp, _, rfl, by simp [upd_apply]⟩
            · rw [h3] at q3
              have hto : List.take out.length (out.map fun w => [natsP w]) = out.map fun w => [natsP w] := List.take_of_length_le (by simp)
              have hr1 : (out.length + 1) * 24 ≤ 140737488355328 := by omega
              simp only [↓Rd, Rt, Rl, Rb, gP_done, dP_done, Al.all_oks, plan, binV, binInt, eqV, isNilV, app, if_true, if_false, reduceIte, Nat.reduceEqDiff, beq_self_eq_true, reduceCtorEq, ge_iff_le, resultsV, noTup, tupV, fnOf, Nat.reduceAdd, rdAt, takeV, wrAt, splice, cellsV, lenL, ne_eq, Nat.reduceLeDiff, partsV, elemsV, toPss, toPs, toP, fill, Nat.reduceMul, Nat.reduceLT, snapHsl, snapHref, i16_r2, i16_r3, q1, q3, q4, q5, q6, b1, b2, b3, b5, h7, hC, hO, htw, hto, hr1, w1, hs, hlt, frz1, List.mem_cons, planAppend, elemsOf, szOf, szOK, frz, frzL, room, planSlice, boundOf, Nat.reduceSub, Int.reduceLT, Int.reduceAdd, Int.reduceBEq, Int.reduceBNe, Int.reduceLE, List.contains_eq_mem, frzL_nil, onesC, snap_hfn, snapHfn_some, snap_href_s, snap_hsl_s]
              exact .inr ⟨by simp, go + 1, by simp, by simp [upd_apply]⟩
    · have : k = N := by omega
      subst this
      have he : walksL (turnD ls ax) k = (walksK (turnD ls ax) k k).1 := rfl
      rw [← he] at ho
      rcases ho with ⟨e, h3⟩ | ⟨ho, g, h3, hC⟩
      · exact (walksK_ne (turnD ls ax) k k (by have := List.length_pos_iff.2 hne; omega) (by have := List.length_pos_iff.2 hne; omega) e).elim
      · simp only [↓Rd, Rt, Rl, Rb, gP_done, dP_done, Al.all_oks, plan, binV, binInt, eqV, isNilV, app, if_true, if_false, reduceIte, Nat.reduceEqDiff, beq_self_eq_true, reduceCtorEq, ge_iff_le, resultsV, noTup, tupV, fnOf, Nat.reduceAdd, rdAt, takeV, wrAt, splice, cellsV, lenL, ne_eq, Nat.reduceLeDiff, partsV, elemsV, toPss, toPs, toP, fill, Nat.reduceMul, Nat.reduceLT, snapHsl, snapHref, i16_l4, i16_r5, h3, h5, h6, no_more, planAppend, elemsOf, szOf, szOK, frz, frzL, room, planSlice, boundOf, Nat.reduceSub, Int.reduceLT, Int.reduceAdd, Int.reduceBEq, Int.reduceBNe, Int.reduceLE, List.contains_eq_mem, frzL_nil, onesC, snap_hfn, snapHfn_some, snap_href_s, snap_hsl_s]
        exact outV_own hC (by simp)
end Go.Abs
namespace Go.Abs
set_option maxRecDepth 100000
abbrev letC (l : Let) : List C := [.p (.int .i64 l.kind), .p (.int .i64 l.gate), .p (.int .i64 l.rank), .p (.int .i64 l.id), .p (.int .i64 l.sign), .p (.bool l.over)]
def sameB (l o : Let) : Bool := (o.kind == l.kind && o.gate == l.gate) && o.rank == l.rank
def pairB (l o : Let) : Bool := ((o.kind == l.kind && o.id == l.id) && o.sign == l.sign) && !(o.over == l.over)
/-- a letter of a valid code -/
def okP (f : Int) (ls : List Let) (l : Let) : Bool := !(((((((l.id != 0 || l.sign != 0) || l.over) || decide (l.gate < 0)) || decide (f < l.gate)) || decide (l.rank < 1)) || decide ((cnt (inG l.gate) ls : Int) < l.rank)) || (((cnt (sameB l) ls : Nat) : Int) != 1))
def okC (ls : List Let) (l : Let) : Bool := !((((((l.gate != 0 || l.rank != 0) || (l.sign != 1 && l.sign != -1)) || decide (l.id < 1)) || decide (((cnt Let.isC ls / 2 : Nat) : Int) < l.id)) || (((cnt (pairB l) ls : Nat) : Int) != 1)) || (((cnt (isId l.id) ls : Nat) : Int) != 2))
def okL (f : Int) (ls : List Let) (l : Let) : Bool := if l.kind == 1 then okP f ls l else if l.kind == 2 then okC ls l else false

set_option maxHeartbeats 8000000 in
theorem lettersIn {f : Int} {ls : List Let} {l : Let} {g i : Nat} {env : Env} {blk : Blk} {Q : Post} (hl : ls.length ≤ 1000000) (h1 : env 1 = .one (.href 960000000 1 0)) (hB : blk 960000000 = (1, some (.var (codeC f ls)))) (h3 : env 3 = vi i) (h4 : env 4 = .one (.href 960256320 g 0)) (hL : blk 960256320 = (g, some (.var (letC l))))
    (h5 : env 5 = vi 0) (h6 : env 6 = vi 0) (h7 : env 7 = vi 0)
    (hq : ∀ env' blk', env' 1 = env 1 → env' 3 = env 3 → env' 4 = env 4 → blk' 960000000 = blk 960000000 → blk' 960256320 = blk 960256320 → env' 5 = vi (cnt (sameB l) ls) → env' 6 = vi (cnt (pairB l) ls) → Q .normal env' blk') :
    W S .all (.loop i15_l1) (blockQ 2 Q) env blk := by
  refine R_for (fun k env' blk' => env' 1 = .one (.href 960000000 1 0) ∧ blk' 960000000 = (1, some (.var (codeC f ls))) ∧ env' 3 = vi i ∧ env' 4 = .one (.href 960256320 g 0) ∧ blk' 960256320 = (g, some (.var (letC l))) ∧
      env' 5 = vi (cnt (sameB l) (ls.take k)) ∧ env' 6 = vi (cnt (pairB l) (ls.take k)) ∧ env' 7 = vi k) 0 ls.length (Nat.zero_le _) ?_ ?_
  · exact ⟨h1, hB, h3, h4, hL, h5, h6, h7⟩
  · rintro k env' blk' hk ⟨g1, gB, g3, g4, gL, g5, g6, g7⟩
    by_cases hlt : k < ls.length
    · obtain ⟨o, ho⟩ := at_lt hlt
      have hi := ps_of ho
      have hlt' : ((k : Int) < (ls.length : Int)) := by omega
      have b5 := cnt_take_le (sameB l) ls k
      have b6 := cnt_take_le (pairB l) ls k
      have w1 := wrap_succ (n := k) (by omega)
      have w5 := wrap_succ (n := cnt (sameB l) (ls.take k)) (by omega)
      have w6 := wrap_succ (n := cnt (pairB l) (ls.take k)) (by omega)
      cases e0 : (o.kind == l.kind) with
      | true =>
        cases e1 : (o.gate == l.gate) with
        | true =>
          cases e2 : (o.rank == l.rank) with
          | true =>
            cases e3 : (o.id == l.id) with
            | true =>
              cases e4 : (o.sign == l.sign) with
              | true =>
                cases e5 : (o.over == l.over) with
                | true =>
                  have c5 := cnt_hit (p := sameB l) ho (by simp only [sameB, e0, e1, e2, e3, e4, e5]; rfl)
                  have c6 := cnt_miss (p := pairB l) ho (by simp only [pairB, e0, e1, e2, e3, e4, e5]; rfl)
                  simp only [↓Rd, Rt, Rl, Rb, gP_done, dP_done, Al.all_oks, plan, binV, binInt, eqV, isNilV, app, if_true, if_false, reduceIte, Nat.reduceEqDiff, beq_self_eq_true, reduceCtorEq, ge_iff_le, resultsV, noTup, tupV, fnOf, Nat.reduceAdd, rdAt, takeV, wrAt, splice, cellsV, lenL, ne_eq, Nat.reduceLeDiff, partsV, elemsV, toPss, toPs, toP, fill, Nat.reduceMul, Nat.reduceLT, snapHsl, snapHref, i15_l1, g1, gB, g3, g4, gL, g5, g6, g7, hi, ps_len, Let.ps, hlt', w1, w5, w6, e0, e1, e2, e3, e4, e5, c5, c6, planAppend, elemsOf, szOf, szOK, frz, frzL, room, planSlice, boundOf, Nat.reduceSub, Int.reduceLT, Int.reduceAdd, Int.reduceBEq, Int.reduceBNe, Int.reduceLE, List.contains_eq_mem, frzL_nil, onesC, snap_hfn, snapHfn_some, snap_href_s, snap_hsl_s]
                  first | exact hlt | exact ⟨hlt, rfl⟩ | exact ⟨hlt, rfl, rfl⟩
                | false =>
                  have c5 := cnt_hit (p := sameB l) ho (by simp only [sameB, e0, e1, e2, e3, e4, e5]; rfl)
                  have c6 := cnt_hit (p := pairB l) ho (by simp only [pairB, e0, e1, e2, e3, e4, e5]; rfl)
                  simp only [↓Rd, Rt, Rl, Rb, gP_done, dP_done, Al.all_oks, plan, binV, binInt, eqV, isNilV, app, if_true, if_false, reduceIte, Nat.reduceEqDiff, beq_self_eq_true, reduceCtorEq, ge_iff_le, resultsV, noTup, tupV, fnOf, Nat.reduceAdd, rdAt, takeV, wrAt, splice, cellsV, lenL, ne_eq, Nat.reduceLeDiff, partsV, elemsV, toPss, toPs, toP, fill, Nat.reduceMul, Nat.reduceLT, snapHsl, snapHref, i15_l1, g1, gB, g3, g4, gL, g5, g6, g7, hi, ps_len, Let.ps, hlt', w1, w5, w6, e0, e1, e2, e3, e4, e5, c5, c6, planAppend, elemsOf, szOf, szOK, frz, frzL, room, planSlice, boundOf, Nat.reduceSub, Int.reduceLT, Int.reduceAdd, Int.reduceBEq, Int.reduceBNe, Int.reduceLE, List.contains_eq_mem, frzL_nil, onesC, snap_hfn, snapHfn_some, snap_href_s, snap_hsl_s]
                  first | exact hlt | exact ⟨hlt, rfl⟩ | exact ⟨hlt, rfl, rfl⟩
              | false =>
                have c5 := cnt_hit (p := sameB l) ho (by simp only [sameB, e0, e1, e2, e3, e4]; rfl)
                have c6 := cnt_miss (p := pairB l) ho (by simp only [pairB, e0, e1, e2, e3, e4]; rfl)
                simp only [↓Rd, Rt, Rl, Rb, gP_done, dP_done, Al.all_oks, plan, binV, binInt, eqV, isNilV, app, if_true, if_false, reduceIte, Nat.reduceEqDiff, beq_self_eq_true, reduceCtorEq, ge_iff_le, resultsV, noTup, tupV, fnOf, Nat.reduceAdd, rdAt, takeV, wrAt, splice, cellsV, lenL, ne_eq, Nat.reduceLeDiff, partsV, elemsV, toPss, toPs, toP, fill, Nat.reduceMul, Nat.reduceLT, snapHsl, snapHref, i15_l1, g1, gB, g3, g4, gL, g5, g6, g7, hi, ps_len, Let.ps, hlt', w1, w5, w6, e0, e1, e2, e3, e4, c5, c6, planAppend, elemsOf, szOf, szOK, frz, frzL, room, planSlice, boundOf, Nat.reduceSub, Int.reduceLT, Int.reduceAdd, Int.reduceBEq, Int.reduceBNe, Int.reduceLE, List.contains_eq_mem, frzL_nil, onesC, snap_hfn, snapHfn_some, snap_href_s, snap_hsl_s]
                first | exact hlt | exact ⟨hlt, rfl⟩ | exact ⟨hlt, rfl, rfl⟩
            | false =>
              have c5 := cnt_hit (p := sameB l) ho (by simp only [sameB, e0, e1, e2, e3]; rfl)
              have c6 := cnt_miss (p := pairB l) ho (by simp only [pairB, e0, e1, e2, e3]; rfl)
              simp only [↓Rd, Rt, Rl, Rb, gP_done, dP_done, Al.all_oks, plan, binV, binInt, eqV, isNilV, app, if_true, if_false, reduceIte, Nat.reduceEqDiff, beq_self_eq_true, reduceCtorEq, ge_iff_le, resultsV, noTup, tupV, fnOf, Nat.reduceAdd, rdAt, takeV, wrAt, splice, cellsV, lenL, ne_eq, Nat.reduceLeDiff, partsV, elemsV, toPss, toPs, toP, fill, Nat.reduceMul, Nat.reduceLT, snapHsl, snapHref, i15_l1, g1, gB, g3, g4, gL, g5, g6, g7, hi, ps_len, Let.ps, hlt', w1, w5, w6, e0, e1, e2, e3, c5, c6, planAppend, elemsOf, szOf, szOK, frz, frzL, room, planSlice, boundOf, Nat.reduceSub, Int.reduceLT, Int.reduceAdd, Int.reduceBEq, Int.reduceBNe, Int.reduceLE, List.contains_eq_mem, frzL_nil, onesC, snap_hfn, snapHfn_some, snap_href_s, snap_hsl_s]
              first | exact hlt | exact ⟨hlt, rfl⟩ | exact ⟨hlt, rfl, rfl⟩
          | false =>
            cases e3 : (o.id == l.id) with
            | true =>
              cases e4 : (o.sign == l.sign) with
              | true =>
                cases e5 : (o.over == l.over) with
                | true =>
                  have c5 := cnt_miss (p := sameB l) ho (by simp only [sameB, e0, e1, e2, e3, e4, e5]; rfl)
                  have c6 := cnt_miss (p := pairB l) ho (by simp only [pairB, e0, e1, e2, e3, e4, e5]; rfl)
                  simp only [↓Rd, Rt, Rl, Rb, gP_done, dP_done, Al.all_oks, plan, binV, binInt, eqV, isNilV, app, if_true, if_false, reduceIte, Nat.reduceEqDiff, beq_self_eq_true, reduceCtorEq, ge_iff_le, resultsV, noTup, tupV, fnOf, Nat.reduceAdd, rdAt, takeV, wrAt, splice, cellsV, lenL, ne_eq, Nat.reduceLeDiff, partsV, elemsV, toPss, toPs, toP, fill, Nat.reduceMul, Nat.reduceLT, snapHsl, snapHref, i15_l1, g1, gB, g3, g4, gL, g5, g6, g7, hi, ps_len, Let.ps, hlt', w1, w5, w6, e0, e1, e2, e3, e4, e5, c5, c6, planAppend, elemsOf, szOf, szOK, frz, frzL, room, planSlice, boundOf, Nat.reduceSub, Int.reduceLT, Int.reduceAdd, Int.reduceBEq, Int.reduceBNe, Int.reduceLE, List.contains_eq_mem, frzL_nil, onesC, snap_hfn, snapHfn_some, snap_href_s, snap_hsl_s]
                  first | exact hlt | exact ⟨hlt, rfl⟩ | exact ⟨hlt, rfl, rfl⟩
                | false =>
                  have c5 := cnt_miss (p := sameB l) ho (by simp only [sameB, e0, e1, e2, e3, e4, e5]; rfl)
                  have c6 := cnt_hit (p := pairB l) ho (by simp only [pairB, e0, e1, e2, e3, e4, e5]; rfl)
                  simp only [↓Rd, Rt, Rl, Rb, gP_done, dP_done, Al.all_oks, plan, binV, binInt, eqV, isNilV, app, if_true, if_false, reduceIte, Nat.reduceEqDiff, beq_self_eq_true, reduceCtorEq, ge_iff_le, resultsV, noTup, tupV, fnOf, Nat.reduceAdd, rdAt, takeV, wrAt, splice, cellsV, lenL, ne_eq, Nat.reduceLeDiff, partsV, elemsV, toPss, toPs, toP, fill, Nat.reduceMul, Nat.reduceLT, snapHsl, snapHref, i15_l1, g1, gB, g3, g4, gL, g5, g6, g7, hi, ps_len, Let.ps, hlt', w1, w5, w6, e0, e1, e2, e3, e4, e5, c5, c6, planAppend, elemsOf, szOf, szOK, frz, frzL, room, planSlice, boundOf, Nat.reduceSub, Int.reduceLT, Int.reduceAdd, Int.reduceBEq, Int.reduceBNe, Int.reduceLE, List.contains_eq_mem, frzL_nil, onesC, snap_hfn, snapHfn_some, snap_href_s, snap_hsl_s]
                  first | exact hlt | exact ⟨hlt, rfl⟩ | exact ⟨hlt, rfl, rfl⟩
              | false =>
                have c5 := cnt_miss (p := sameB l) ho (by simp only [sameB, e0, e1, e2, e3, e4]; rfl)
                have c6 := cnt_miss (p := pairB l) ho (by simp only [pairB, e0, e1, e2, e3, e4]; rfl)
                simp only [↓Rd, Rt, Rl, Rb, gP_done, dP_done, Al.all_oks, plan, binV, binInt, eqV, isNilV, app, if_true, if_false, reduceIte, Nat.reduceEqDiff, beq_self_eq_true, reduceCtorEq, ge_iff_le, resultsV, noTup, tupV, fnOf, Nat.reduceAdd, rdAt, takeV, wrAt, splice, cellsV, lenL, ne_eq, Nat.reduceLeDiff, partsV, elemsV, toPss, toPs, toP, fill, Nat.reduceMul, Nat.reduceLT, snapHsl, snapHref, i15_l1, g1, gB, g3, g4, gL, g5, g6, g7, hi, ps_len, Let.ps, hlt', w1, w5, w6, e0, e1, e2, e3, e4, c5, c6, planAppend, elemsOf, szOf, szOK, frz, frzL, room, planSlice, boundOf, Nat.reduceSub, Int.reduceLT, Int.reduceAdd, Int.reduceBEq, Int.reduceBNe, Int.reduceLE, List.contains_eq_mem, frzL_nil, onesC, snap_hfn, snapHfn_some, snap_href_s, snap_hsl_s]
                first | exact hlt | exact ⟨hlt, rfl⟩ | exact ⟨hlt, rfl, rfl⟩
            | false =>
              have c5 := cnt_miss (p := sameB l) ho (by simp only [sameB, e0, e1, e2, e3]; rfl)
              have c6 := cnt_miss (p := pairB l) ho (by simp only [pairB, e0, e1, e2, e3]; rfl)
              simp only [↓Rd, Rt, Rl, Rb, gP_done, dP_done, Al.all_oks, plan, binV, binInt, eqV, isNilV, app, if_true, if_false, reduceIte, Nat.reduceEqDiff, beq_self_eq_true, reduceCtorEq, ge_iff_le, resultsV, noTup, tupV, fnOf, Nat.reduceAdd, rdAt, takeV, wrAt, splice, cellsV, lenL, ne_eq, Nat.reduceLeDiff, partsV, elemsV, toPss, toPs, toP, fill, Nat.reduceMul, Nat.reduceLT, snapHsl, snapHref, i15_l1, g1, gB, g3, g4, gL, g5, g6, g7, hi, ps_len, Let.ps, hlt', w1, w5, w6, e0, e1, e2, e3, c5, c6, planAppend, elemsOf, szOf, szOK, frz, frzL, room, planSlice, boundOf, Nat.reduceSub, Int.reduceLT, Int.reduceAdd, Int.reduceBEq, Int.reduceBNe, Int.reduceLE, List.contains_eq_mem, frzL_nil, onesC, snap_hfn, snapHfn_some, snap_href_s, snap_hsl_s]
              first | exact hlt | exact ⟨hlt, rfl⟩ | exact ⟨hlt, rfl, rfl⟩
        | false =>
          cases e3 : (o.id == l.id) with
          | true =>
            cases e4 : (o.sign == l.sign) with
            | true =>
              cases e5 : (o.over == l.over) with
              | true =>
                have c5 := cnt_miss (p := sameB l) ho (by simp only [sameB, e0, e1, e3, e4, e5]; rfl)
                have c6 := cnt_miss (p := pairB l) ho (by simp only [pairB, e0, e1, e3, e4, e5]; rfl)
                simp only [↓Rd, Rt, Rl, Rb, gP_done, dP_done, Al.all_oks, plan, binV, binInt, eqV, isNilV, app, if_true, if_false, reduceIte, Nat.reduceEqDiff, beq_self_eq_true, reduceCtorEq, ge_iff_le, resultsV, noTup, tupV, fnOf, Nat.reduceAdd, rdAt, takeV, wrAt, splice, cellsV, lenL, ne_eq, Nat.reduceLeDiff, partsV, elemsV, toPss, toPs, toP, fill, Nat.reduceMul, Nat.reduceLT, snapHsl, snapHref, i15_l1, g1, gB, g3, g4, gL, g5, g6, g7, hi, ps_len, Let.ps, hlt', w1, w5, w6, e0, e1, e3, e4, e5, c5, c6, planAppend, elemsOf, szOf, szOK, frz, frzL, room, planSlice, boundOf, Nat.reduceSub, Int.reduceLT, Int.reduceAdd, Int.reduceBEq, Int.reduceBNe, Int.reduceLE, List.contains_eq_mem, frzL_nil, onesC, snap_hfn, snapHfn_some, snap_href_s, snap_hsl_s]
                first | exact hlt | exact ⟨hlt, rfl⟩ | exact ⟨hlt, rfl, rfl⟩
              | false =>
                have c5 := cnt_miss (p := sameB l) ho (by simp only [sameB, e0, e1, e3, e4, e5]; rfl)
                have c6 := cnt_hit (p := pairB l) ho (by simp only [pairB, e0, e1, e3, e4, e5]; rfl)
                simp only [↓Rd, Rt, Rl, Rb, gP_done, dP_done, Al.all_oks, plan, binV, binInt, eqV, isNilV, app, if_true, if_false, reduceIte, Nat.reduceEqDiff, beq_self_eq_true, reduceCtorEq, ge_iff_le, resultsV, noTup, tupV, fnOf, Nat.reduceAdd, rdAt, takeV, wrAt, splice, cellsV, lenL, ne_eq, Nat.reduceLeDiff, partsV, elemsV, toPss, toPs, toP, fill, Nat.reduceMul, Nat.reduceLT, snapHsl, snapHref, i15_l1, g1, gB, g3, g4, gL, g5, g6, g7, hi, ps_len, Let.ps, hlt', w1, w5, w6, e0, e1, e3, e4, e5, c5, c6, planAppend, elemsOf, szOf, szOK, frz, frzL, room, planSlice, boundOf, Nat.reduceSub, Int.reduceLT, Int.reduceAdd, Int.reduceBEq, Int.reduceBNe, Int.reduceLE, List.contains_eq_mem, frzL_nil, onesC, snap_hfn, snapHfn_some, snap_href_s, snap_hsl_s]
                first | exact hlt | exact ⟨hlt, rfl⟩ | exact ⟨hlt, rfl, rfl⟩
            | false =>
              have c5 := cnt_miss (p := sameB l) ho (by simp only [sameB, e0, e1, e3, e4]; rfl)
              have c6 := cnt_miss (p := pairB l) ho (by simp only [pairB, e0, e1, e3, e4]; rfl)
              simp only [↓Rd, Rt, Rl, Rb, gP_done, dP_done, Al.all_oks, plan, binV, binInt, eqV, isNilV, app, if_true, if_false, reduceIte, Nat.reduceEqDiff, beq_self_eq_true, reduceCtorEq, ge_iff_le, resultsV, noTup, tupV, fnOf, Nat.reduceAdd, rdAt, takeV, wrAt, splice, cellsV, lenL, ne_eq, Nat.reduceLeDiff, partsV, elemsV, toPss, toPs, toP, fill, Nat.reduceMul, Nat.reduceLT, snapHsl, snapHref, i15_l1, g1, gB, g3, g4, gL, g5, g6, g7, hi, ps_len, Let.ps, hlt', w1, w5, w6, e0, e1, e3, e4, c5, c6, planAppend, elemsOf, szOf, szOK, frz, frzL, room, planSlice, boundOf, Nat.reduceSub, Int.reduceLT, Int.reduceAdd, Int.reduceBEq, Int.reduceBNe, Int.reduceLE, List.contains_eq_mem, frzL_nil, onesC, snap_hfn, snapHfn_some, snap_href_s, snap_hsl_s]
              first | exact hlt | exact ⟨hlt, rfl⟩ | exact ⟨hlt, rfl, rfl⟩
          | false =>
            have c5 := cnt_miss (p := sameB l) ho (by simp only [sameB, e0, e1, e3]; rfl)
            have c6 := cnt_miss (p := pairB l) ho (by simp only [pairB, e0, e1, e3]; rfl)
            simp only [↓Rd, Rt, Rl, Rb, gP_done, dP_done, Al.all_oks, plan, binV, binInt, eqV, isNilV, app, if_true, if_false, reduceIte, Nat.reduceEqDiff, beq_self_eq_true, reduceCtorEq, ge_iff_le, resultsV, noTup, tupV, fnOf, Nat.reduceAdd, rdAt, takeV, wrAt, splice, cellsV, lenL, ne_eq, Nat.reduceLeDiff, partsV, elemsV, toPss, toPs, toP, fill, Nat.reduceMul, Nat.reduceLT, snapHsl, snapHref, i15_l1, g1, gB, g3, g4, gL, g5, g6, g7, hi, ps_len, Let.ps, hlt', w1, w5, w6, e0, e1, e3, c5, c6, planAppend, elemsOf, szOf, szOK, frz, frzL, room, planSlice, boundOf, Nat.reduceSub, Int.reduceLT, Int.reduceAdd, Int.reduceBEq, Int.reduceBNe, Int.reduceLE, List.contains_eq_mem, frzL_nil, onesC, snap_hfn, snapHfn_some, snap_href_s, snap_hsl_s]
            first | exact hlt | exact ⟨hlt, rfl⟩ | exact ⟨hlt, rfl, rfl⟩
      | false =>
        have c5 := cnt_miss (p := sameB l) ho (by simp only [sameB, e0]; rfl)
        have c6 := cnt_miss (p := pairB l) ho (by simp only [pairB, e0]; rfl)
        simp only [↓Rd, Rt, Rl, Rb, gP_done, dP_done, Al.all_oks, plan, binV, binInt, eqV, isNilV, app, if_true, if_false, reduceIte, Nat.reduceEqDiff, beq_self_eq_true, reduceCtorEq, ge_iff_le, resultsV, noTup, tupV, fnOf, Nat.reduceAdd, rdAt, takeV, wrAt, splice, cellsV, lenL, ne_eq, Nat.reduceLeDiff, partsV, elemsV, toPss, toPs, toP, fill, Nat.reduceMul, Nat.reduceLT, snapHsl, snapHref, i15_l1, g1, gB, g3, g4, gL, g5, g6, g7, hi, ps_len, Let.ps, hlt', w1, w5, w6, e0, c5, c6, planAppend, elemsOf, szOf, szOK, frz, frzL, room, planSlice, boundOf, Nat.reduceSub, Int.reduceLT, Int.reduceAdd, Int.reduceBEq, Int.reduceBNe, Int.reduceLE, List.contains_eq_mem, frzL_nil, onesC, snap_hfn, snapHfn_some, snap_href_s, snap_hsl_s]
        first | exact hlt | exact ⟨hlt, rfl⟩ | exact ⟨hlt, rfl, rfl⟩
    · have : k = ls.length := by omega
      subst this
      rw [List.take_length] at g5 g6
      simp only [↓Rd, Rt, Rl, Rb, gP_done, dP_done, Al.all_oks, plan, binV, binInt, eqV, isNilV, app, if_true, if_false, reduceIte, Nat.reduceEqDiff, beq_self_eq_true, reduceCtorEq, ge_iff_le, resultsV, noTup, tupV, fnOf, Nat.reduceAdd, rdAt, takeV, wrAt, splice, cellsV, lenL, ne_eq, Nat.reduceLeDiff, partsV, elemsV, toPss, toPs, toP, fill, Nat.reduceMul, Nat.reduceLT, snapHsl, snapHref, i15_l1, g1, gB, g7, no_more, planAppend, elemsOf, szOf, szOK, frz, frzL, room, planSlice, boundOf, Nat.reduceSub, Int.reduceLT, Int.reduceAdd, Int.reduceBEq, Int.reduceBNe, Int.reduceLE, List.contains_eq_mem, frzL_nil, onesC, snap_hfn, snapHfn_some, snap_href_s, snap_hsl_s]
      refine hq _ _ ?_ ?_ ?_ ?_ ?_ ?_ ?_
      all_goals simp only [↓Rd, Rt, Rl, Rb, gP_done, dP_done, Al.all_oks, plan, binV, binInt, eqV, isNilV, app, if_true, if_false, reduceIte, Nat.reduceEqDiff, beq_self_eq_true, reduceCtorEq, ge_iff_le, resultsV, noTup, tupV, fnOf, Nat.reduceAdd, rdAt, takeV, wrAt, splice, cellsV, lenL, ne_eq, Nat.reduceLeDiff, partsV, elemsV, toPss, toPs, toP, fill, Nat.reduceMul, Nat.reduceLT, snapHsl, snapHref, g1, gB, g3, g4, gL, g5, g6, h1, hB, h3, h4, hL]
end Go.Abs
