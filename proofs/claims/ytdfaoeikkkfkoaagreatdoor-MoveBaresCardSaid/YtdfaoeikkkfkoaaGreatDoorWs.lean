/-
  All moves of the code without letters.
-/
import Derived.Test.YtdfaoeikkkfkoaaGreatDoorWr
import Derived.Test.YtdfaoeikkkfkoaaGreatDoorMf
set_option linter.unusedSimpArgs false
set_option linter.unusedVariables false
set_option linter.unusedSectionVars false
namespace Go.Abs
set_option maxRecDepth 100000
abbrev mvTy : Nat := 32
abbrev cdTy : Nat := 25
/-- the moves of the code without letters -/
def mv0e (i : Nat) : List PV := [.int .i64 2, .int .i64 0, .int .i64 i, .int .i64 0, .bool false, .bool false, .int .i64 0]
def mv0 (n : Nat) : List (List PV) := (List.range n).map mv0e
def cd0e (F i : Nat) : List PV := [.int .i64 F, .sl (letP (circ i))]
def cd0 (F n : Nat) : List (List PV) := (List.range n).map (cd0e F)
theorem mv0_succ (n : Nat) : mv0 (n + 1) = mv0 n ++ [mv0e n] := by simp [mv0, List.range_succ]
theorem cd0_succ (F n : Nat) : cd0 F (n + 1) = cd0 F n ++ [cd0e F n] := by simp [cd0, List.range_succ]
theorem mv0_len (n : Nat) : (mv0 n).length = n := by simp [mv0]
theorem cd0_len (F n : Nat) : (cd0 F n).length = n := by simp [cd0]
theorem mv0_at {n k : Nat} (h : k < n) : (mv0 n)[k]? = some (mv0e k) := by simp [mv0, h]
theorem sc_mv0 (n : Nat) : ((mv0 n).all fun e => e.all PV.scalar) = true := by
  rw [List.all_eq_true]
  intro e he
  obtain ⟨i, _, rfl⟩ := List.mem_map.1 he
  rfl
section
variable {F : Nat}
set_option maxHeartbeats 4000000 in
theorem cand2_z (hF : F ≤ 40) : PEv S 41 [brd0 F, vi 2] (.one (grownR mvTy 7 (mv0 (F + 1)))) := by
  have h7 : (((0 : Nat) : Int) == 0) = true := by decide
  refine PEv_fn rfl c41 (Nat.le_of_ble_eq_true rfl) ?_
  simp only [↓Rd, Rt, Rl, Rb, gP_done, dP_done, Al.all_oks, plan, binV, binInt, eqV, isNilV, app, if_true, if_false, reduceIte, Nat.reduceEqDiff, beq_self_eq_true, reduceCtorEq, ge_iff_le, resultsV, noTup, tupV, fnOf, Nat.reduceAdd, rdAt, takeV, wrAt, splice, cellsV, lenL, ne_eq, Nat.reduceLeDiff, partsV, elemsV, toPss, toPs, toP, fill, Nat.reduceMul, Nat.reduceLT, snapHsl, snapHref, i41, noBlk, h7, frz, frzL, room, planSlice, boundOf, Nat.reduceSub, Int.reduceLT, Int.reduceAdd, Int.reduceBEq, Int.reduceBNe, Int.reduceLE, List.contains_eq_mem, frzL_nil, onesC, snap_hfn, snapHfn_some, snap_href_s, snap_hsl_s]
  refine R_for (fun k env blk => env 0 = brd0 F ∧ env 1 = vi 2 ∧ env 6 = vi ((0 : Nat) : Int) ∧ env 7 = vi k ∧ ∃ c, env 5 = .one c ∧ grown 2624448320 mvTy 7 (mv0 k) (.one c) blk) 0 (F + 1) (Nat.zero_le _) ?_ ?_
  · simp only [↓Rd, Rt, Rl, Rb, gP_done, dP_done, Al.all_oks, plan, binV, binInt, eqV, isNilV, app, if_true, if_false, reduceIte, Nat.reduceEqDiff, beq_self_eq_true, reduceCtorEq, ge_iff_le, resultsV, noTup, tupV, fnOf, Nat.reduceAdd, rdAt, takeV, wrAt, splice, cellsV, lenL, ne_eq, Nat.reduceLeDiff, partsV, elemsV, toPss, toPs, toP, fill, Nat.reduceMul, Nat.reduceLT, snapHsl, snapHref]
    first | exact ⟨rfl, .p .nils, rfl, .inl ⟨rfl, rfl⟩⟩ | exact ⟨rfl, rfl, .p .nils, rfl, .inl ⟨rfl, rfl⟩⟩ | exact ⟨.p .nils, rfl, .inl ⟨rfl, rfl⟩⟩
  · rintro k env blk hk ⟨e0, e1, e6, e7, c, e5, gc⟩
    by_cases hlt : k < F + 1
    · have hlt' : ((k : Int) ≤ (F : Int)) := by omega
      have w1 := wrap_succ (n := k) (by omega)
      have hs := mv0_succ k
      simp only [↓Rd, Rt, Rl, Rb, gP_done, dP_done, Al.all_oks, plan, binV, binInt, eqV, isNilV, app, if_true, if_false, reduceIte, Nat.reduceEqDiff, beq_self_eq_true, reduceCtorEq, ge_iff_le, resultsV, noTup, tupV, fnOf, Nat.reduceAdd, rdAt, takeV, wrAt, splice, cellsV, lenL, ne_eq, Nat.reduceLeDiff, partsV, elemsV, toPss, toPs, toP, fill, Nat.reduceMul, Nat.reduceLT, snapHsl, snapHref, i41_l1, e0, e1, e5, e6, e7, hlt', frz, frzL, room, planSlice, boundOf, Nat.reduceSub, Int.reduceLT, Int.reduceAdd, Int.reduceBEq, Int.reduceBNe, Int.reduceLE, List.contains_eq_mem, frzL_nil, onesC, snap_hfn, snapHfn_some, snap_href_s, snap_hsl_s]
      refine gP_app (site := 2624448320) (id := 2624448320) (bytes := 48) (xs := [mv0e k]) (rd := [2624448256]) (gc.of_eq (upd_ne (by decide))) (by simp [elemsOf, upd_apply, mv0e]) (.inl rfl) (by simp only [mv0_len, List.length_cons, List.length_nil]; omega) fun c' blk1 hc hb => ?_
      simp only [↓Rd, Rt, Rl, Rb, gP_done, dP_done, Al.all_oks, plan, binV, binInt, eqV, isNilV, app, if_true, if_false, reduceIte, Nat.reduceEqDiff, beq_self_eq_true, reduceCtorEq, ge_iff_le, resultsV, noTup, tupV, fnOf, Nat.reduceAdd, rdAt, takeV, wrAt, splice, cellsV, lenL, ne_eq, Nat.reduceLeDiff, partsV, elemsV, toPss, toPs, toP, fill, Nat.reduceMul, Nat.reduceLT, snapHsl, snapHref, e0, e1, e6, e7, w1, hlt, frz, frzL, room, planSlice, boundOf, Nat.reduceSub, Int.reduceLT, Int.reduceAdd, Int.reduceBEq, Int.reduceBNe, Int.reduceLE, List.contains_eq_mem, frzL_nil, onesC, snap_hfn, snapHfn_some, snap_href_s, snap_hsl_s]
      refine ⟨c', rfl, ?_⟩
      rw [hs]; exact hc
    · have : k = F + 1 := by omega
      subst this
      have hnl : ¬ (((F + 1 : Nat) : Int) ≤ (F : Int)) := by omega
      simp only [↓Rd, Rt, Rl, Rb, gP_done, dP_done, Al.all_oks, plan, binV, binInt, eqV, isNilV, app, if_true, if_false, reduceIte, Nat.reduceEqDiff, beq_self_eq_true, reduceCtorEq, ge_iff_le, resultsV, noTup, tupV, fnOf, Nat.reduceAdd, rdAt, takeV, wrAt, splice, cellsV, lenL, ne_eq, Nat.reduceLeDiff, partsV, elemsV, toPss, toPs, toP, fill, Nat.reduceMul, Nat.reduceLT, snapHsl, snapHref, i41_l1, i41_r12, e0, e1, e5, e6, e7, hnl, frz, frzL, room, planSlice, boundOf, Nat.reduceSub, Int.reduceLT, Int.reduceAdd, Int.reduceBEq, Int.reduceBNe, Int.reduceLE, List.contains_eq_mem, frzL_nil, onesC, snap_hfn, snapHfn_some, snap_href_s, snap_hsl_s]
      refine R_unroll ?_
      simp only [↓Rd, Rt, Rl, Rb, gP_done, dP_done, Al.all_oks, plan, binV, binInt, eqV, isNilV, app, if_true, if_false, reduceIte, Nat.reduceEqDiff, beq_self_eq_true, reduceCtorEq, ge_iff_le, resultsV, noTup, tupV, fnOf, Nat.reduceAdd, rdAt, takeV, wrAt, splice, cellsV, lenL, ne_eq, Nat.reduceLeDiff, partsV, elemsV, toPss, toPs, toP, fill, Nat.reduceMul, Nat.reduceLT, snapHsl, snapHref, i41_l10, i41_r11, e0, e1, e5, e6, e7, zz, frz, frzL, room, planSlice, boundOf, Nat.reduceSub, Int.reduceLT, Int.reduceAdd, Int.reduceBEq, Int.reduceBNe, Int.reduceLE, List.contains_eq_mem, frzL_nil, onesC, snap_hfn, snapHfn_some, snap_href_s, snap_hsl_s]
      exact grown_out gc
theorem cand_z {k : Int} (hk : (k == 2) = false) : PEv S 41 [brd0 F, vi k] (.one (grownR mvTy 7 [])) := by
  have h7 : (((0 : Nat) : Int) == 0) = true := by decide
  refine PEv_fn rfl c41 (Nat.le_of_ble_eq_true rfl) ?_
  simp only [↓Rd, Rt, Rl, Rb, gP_done, dP_done, Al.all_oks, plan, binV, binInt, eqV, isNilV, app, if_true, if_false, reduceIte, Nat.reduceEqDiff, beq_self_eq_true, reduceCtorEq, ge_iff_le, resultsV, noTup, tupV, fnOf, Nat.reduceAdd, rdAt, takeV, wrAt, splice, cellsV, lenL, ne_eq, Nat.reduceLeDiff, partsV, elemsV, toPss, toPs, toP, fill, Nat.reduceMul, Nat.reduceLT, snapHsl, snapHref, i41, i41_r12, noBlk, h7, hk, frz, frzL, room, planSlice, boundOf, Nat.reduceSub, Int.reduceLT, Int.reduceAdd, Int.reduceBEq, Int.reduceBNe, Int.reduceLE, List.contains_eq_mem, frzL_nil, onesC, snap_hfn, snapHfn_some, snap_href_s, snap_hsl_s]
  refine R_unroll ?_
  simp only [↓Rd, Rt, Rl, Rb, gP_done, dP_done, Al.all_oks, plan, binV, binInt, eqV, isNilV, app, if_true, if_false, reduceIte, Nat.reduceEqDiff, beq_self_eq_true, reduceCtorEq, ge_iff_le, resultsV, noTup, tupV, fnOf, Nat.reduceAdd, rdAt, takeV, wrAt, splice, cellsV, lenL, ne_eq, Nat.reduceLeDiff, partsV, elemsV, toPss, toPs, toP, fill, Nat.reduceMul, Nat.reduceLT, snapHsl, snapHref, i41_l10, i41_r11, zz, frz, frzL, room, planSlice, boundOf, Nat.reduceSub, Int.reduceLT, Int.reduceAdd, Int.reduceBEq, Int.reduceBNe, Int.reduceLE, List.contains_eq_mem, frzL_nil, onesC, snap_hfn, snapHfn_some, snap_href_s, snap_hsl_s]
  rfl
end
theorem has_z {k : Nat} (hk : k < 10) : PEv S 40 [.one (.p (.sl (nP (kinds 10)))), vi ((k + 1 : Nat) : Int)] (rb true) := by
  have : ∀ k, k < 10 → callPF S 20 40 [.one (.p (.sl (nP (kinds 10)))), vi ((k + 1 : Nat) : Int)] = some (rb true) := by
    intro k hk
    rcases (show k = 0 ∨ k = 1 ∨ k = 2 ∨ k = 3 ∨ k = 4 ∨ k = 5 ∨ k = 6 ∨ k = 7 ∨ k = 8 ∨ k = 9 by omega) with rfl | rfl | rfl | rfl | rfl | rfl | rfl | rfl | rfl | rfl <;> kernel_rfl
  exact PEv_eval S 20 (this k hk)
theorem toPss_code {a : PV} {id g z o l : Nat} : toPss [[.p a, .hsl id g z o l]] = none := rfl
/-- a code that is read, with the block that it reaches -/
theorem elems_code {blk : Blk} {s g ty sd td zd : Nat} {x : Int} {cd : C} {D : List (List PV)} (hb : blk s = (g, some (.carr ty 2 [[.p (.int .i64 x), cd]]))) (gd : grown sd td zd D (.one cd) blk) :
    ∃ fr, elemsOf blk (.one (.hsl s g 2 0 1)) = some ([[.int .i64 x, .sl D]], [s], fr) ∧ allArr blk fr ∧ (fr = [] ∨ fr = [sd]) := by
  obtain ⟨r1, n1, a1, q1⟩ := gd.snapA
  refine ⟨r1, ?_, a1, q1⟩
  simp only [elemsOf, hb]
  simp [collect, n1, snap_p, PV.norm]
end Go.Abs
namespace Go.Abs
set_option maxRecDepth 100000
section
variable {F : Nat}
/-- how many moves are found when so many kinds have been tried -/
def nM (F k : Nat) : Nat := if 2 ≤ k then F + 1 else 0
theorem nM_succ {k : Nat} (h : k ≠ 1) : nM F (k + 1) = nM F k := by
  unfold nM
  by_cases c : 2 ≤ k
  · rw [if_pos c, if_pos (by omega)]
  · rw [if_neg c, if_neg (by omega)]
set_option maxHeartbeats 16000000 in
theorem some0_p (hF : F ≤ 40) : PEv S 26 [brd0 F, .one (.p (.sl (nP (kinds 10))))] (.tup [.one (grownR mvTy 7 (mv0 (F + 1))), .one (grownR cdTy 2 (cd0 F (F + 1)))]) := by
  have lo1 : S.lone 1664448128 = false := by kernel_rfl
  have lo2 : S.lone 1664640128 = false := by kernel_rfl
  refine PEv_fn rfl c26 (Nat.le_of_ble_eq_true rfl) ?_
  simp only [↓Rd, Rt, Rl, Rb, gP_done, dP_done, Al.all_oks, plan, binV, binInt, eqV, isNilV, app, if_true, if_false, reduceIte, Nat.reduceEqDiff, beq_self_eq_true, reduceCtorEq, ge_iff_le, resultsV, noTup, tupV, fnOf, Nat.reduceAdd, rdAt, takeV, wrAt, splice, cellsV, lenL, ne_eq, Nat.reduceLeDiff, partsV, elemsV, toPss, toPs, toP, fill, Nat.reduceMul, Nat.reduceLT, snapHsl, snapHref, i26, noBlk, frz, frzL, room, planSlice, boundOf, Nat.reduceSub, Int.reduceLT, Int.reduceAdd, Int.reduceBEq, Int.reduceBNe, Int.reduceLE, List.contains_eq_mem, frzL_nil, onesC, snap_hfn, snapHfn_some, snap_href_s, snap_hsl_s]
  refine R_for (fun k env blk => env 0 = brd0 F ∧ env 1 = .one (.p (.sl (nP (kinds 10)))) ∧ env 8 = vi ((k + 1 : Nat) : Int) ∧ ∃ c d, env 6 = .one c ∧ env 7 = .one d ∧ grown 1664768192 mvTy 7 (mv0 (nM F k)) (.one c) blk ∧ grown 1664768448 cdTy 2 (cd0 F (nM F k)) (.one d) blk) 0 10 (Nat.zero_le _) ?_ ?_
  · simp only [↓Rd, Rt, Rl, Rb, gP_done, dP_done, Al.all_oks, plan, binV, binInt, eqV, isNilV, app, if_true, if_false, reduceIte, Nat.reduceEqDiff, beq_self_eq_true, reduceCtorEq, ge_iff_le, resultsV, noTup, tupV, fnOf, Nat.reduceAdd, rdAt, takeV, wrAt, splice, cellsV, lenL, ne_eq, Nat.reduceLeDiff, partsV, elemsV, toPss, toPs, toP, fill, Nat.reduceMul, Nat.reduceLT, snapHsl, snapHref]
    first | exact ⟨rfl, .p .nils, .p .nils, rfl, rfl, .inl ⟨rfl, rfl⟩, .inl ⟨rfl, rfl⟩⟩ | exact ⟨rfl, rfl, .p .nils, .p .nils, rfl, rfl, .inl ⟨rfl, rfl⟩, .inl ⟨rfl, rfl⟩⟩
  · rintro k env blk hk ⟨e0, e1, e8, c, d, e6, e7, gm, gc⟩
    by_cases hlt : k < 10
    · have hlt' : ((k + 1 : Nat) : Int) ≤ 10 := by omega
      have ph := has_z hlt
      have w1 := wrap_succ (n := k + 1) (by omega)
      simp only [↓Rd, Rt, Rl, Rb, gP_done, dP_done, Al.all_oks, plan, binV, binInt, eqV, isNilV, app, if_true, if_false, reduceIte, Nat.reduceEqDiff, beq_self_eq_true, reduceCtorEq, ge_iff_le, resultsV, noTup, tupV, fnOf, Nat.reduceAdd, rdAt, takeV, wrAt, splice, cellsV, lenL, ne_eq, Nat.reduceLeDiff, partsV, elemsV, toPss, toPs, toP, fill, Nat.reduceMul, Nat.reduceLT, snapHsl, snapHref, i26_l3, e0, e1, e6, e7, e8, hlt', s40, gP_bool ph, s41, frz, frzL, room, planSlice, boundOf, Nat.reduceSub, Int.reduceLT, Int.reduceAdd, Int.reduceBEq, Int.reduceBNe, Int.reduceLE, List.contains_eq_mem, frzL_nil, onesC, snap_hfn, snapHfn_some, snap_href_s, snap_hsl_s]
      by_cases h1 : k = 1
      · subst h1
        refine gP_g1 (cand2_z hF) lo1 (.inl rfl) fun cc blk1 gl hb1 => ?_
        have gm1 := gm.of_eq (hb1 1664768192 (by decide))
        have gc1 := gc.of_eq (hb1 1664768448 (by decide))
        rcases gl with ⟨e, _⟩ | ⟨_, gg, e, hbl⟩
        · exact absurd (congrArg List.length e) (by rw [mv0_len]; simp)
        cases e
        rw [mv0_len]
        simp only [↓Rd, Rt, Rl, Rb, gP_done, dP_done, Al.all_oks, plan, binV, binInt, eqV, isNilV, app, if_true, if_false, reduceIte, Nat.reduceEqDiff, beq_self_eq_true, reduceCtorEq, ge_iff_le, resultsV, noTup, tupV, fnOf, Nat.reduceAdd, rdAt, takeV, wrAt, splice, cellsV, lenL, ne_eq, Nat.reduceLeDiff, partsV, elemsV, toPss, toPs, toP, fill, Nat.reduceMul, Nat.reduceLT, snapHsl, snapHref, frz, frzL, room, planSlice, boundOf, Nat.reduceSub, Int.reduceLT, Int.reduceAdd, Int.reduceBEq, Int.reduceBNe, Int.reduceLE, List.contains_eq_mem, frzL_nil, onesC, snap_hfn, snapHfn_some, snap_href_s, snap_hsl_s]
        refine R_for (fun j env blk => env 0 = brd0 F ∧ env 1 = .one (.p (.sl (nP (kinds 10)))) ∧ env 8 = vi 2 ∧ env 23 = .one (.hsl 1664448128 gg 7 0 (F + 1)) ∧ env 24 = vi ((F + 1 : Nat) : Int) ∧ env 25 = vi j ∧ blk 1664448128 = (gg, some (.arr mvTy 7 (mv0 (F + 1)))) ∧ ∃ c d, env 6 = .one c ∧ env 7 = .one d ∧ grown 1664768192 mvTy 7 (mv0 j) (.one c) blk ∧ grown 1664768448 cdTy 2 (cd0 F j) (.one d) blk) 0 (F + 1) (Nat.zero_le _) ?_ ?_
        · simp only [↓Rd, Rt, Rl, Rb, gP_done, dP_done, Al.all_oks, plan, binV, binInt, eqV, isNilV, app, if_true, if_false, reduceIte, Nat.reduceEqDiff, beq_self_eq_true, reduceCtorEq, ge_iff_le, resultsV, noTup, tupV, fnOf, Nat.reduceAdd, rdAt, takeV, wrAt, splice, cellsV, lenL, ne_eq, Nat.reduceLeDiff, partsV, elemsV, toPss, toPs, toP, fill, Nat.reduceMul, Nat.reduceLT, snapHsl, snapHref, e0, e1, e6, e7, e8]
          exact ⟨rfl, rfl, hbl, c, d, rfl, rfl, gm1, gc1⟩
        · rintro j env blk hj ⟨q0, q1, q8, q23, q24, q25, bL, c, d, q6, q7, gm, gc⟩
          by_cases hlj : j < F + 1
          · have hlj' : ((j : Int) < ((F + 1 : Nat) : Int)) := by omega
            have w2 := wrap_succ (n := j) (by omega)
            have hat := mv0_at hlj
            have pd := do0_p (F := F) (b := j) (by omega)
            have hm := mv0_succ j
            have hc := cd0_succ F j
            simp only [↓Rd, Rt, Rl, Rb, gP_done, dP_done, Al.all_oks, plan, binV, binInt, eqV, isNilV, app, if_true, if_false, reduceIte, Nat.reduceEqDiff, beq_self_eq_true, reduceCtorEq, ge_iff_le, resultsV, noTup, tupV, fnOf, Nat.reduceAdd, rdAt, takeV, wrAt, splice, cellsV, lenL, ne_eq, Nat.reduceLeDiff, partsV, elemsV, toPss, toPs, toP, fill, Nat.reduceMul, Nat.reduceLT, snapHsl, snapHref, i26_l1, q0, q1, q6, q7, q8, q23, q24, q25, bL, hlj, hlj', hat, mv0e, s16, frz, frzL, room, planSlice, boundOf, Nat.reduceSub, Int.reduceLT, Int.reduceAdd, Int.reduceBEq, Int.reduceBNe, Int.reduceLE, List.contains_eq_mem, frzL_nil, onesC, snap_hfn, snapHfn_some, snap_href_s, snap_hsl_s]
            refine gP_gT pd lo2 fun cx blk2 gx hb2 => ?_
            have b10 := hb2 1664576128 (by decide)
            simp only [↓Rd, Rt, Rl, Rb, gP_done, dP_done, Al.all_oks, plan, binV, binInt, eqV, isNilV, app, if_true, if_false, reduceIte, Nat.reduceEqDiff, beq_self_eq_true, reduceCtorEq, ge_iff_le, resultsV, noTup, tupV, fnOf, Nat.reduceAdd, rdAt, takeV, wrAt, splice, cellsV, lenL, ne_eq, Nat.reduceLeDiff, partsV, elemsV, toPss, toPs, toP, fill, Nat.reduceMul, Nat.reduceLT, snapHsl, snapHref] at b10
            have bL2 := (hb2 1664448128 (by decide)).trans ((upd_ne (by decide)).trans bL)
            have gm2 := gm.of_eq ((hb2 1664768192 (by decide)).trans (upd_ne (by decide)))
            have gc2 := gc.of_eq ((hb2 1664768448 (by decide)).trans (upd_ne (by decide)))
            rcases gx with ⟨e, _⟩ | ⟨hne, g2, e, hbx⟩
            · cases e
            cases e
            simp only [↓Rd, Rt, Rl, Rb, gP_done, dP_done, Al.all_oks, plan, binV, binInt, eqV, isNilV, app, if_true, if_false, reduceIte, Nat.reduceEqDiff, beq_self_eq_true, reduceCtorEq, ge_iff_le, resultsV, noTup, tupV, fnOf, Nat.reduceAdd, rdAt, takeV, wrAt, splice, cellsV, lenL, ne_eq, Nat.reduceLeDiff, partsV, elemsV, toPss, toPs, toP, fill, Nat.reduceMul, Nat.reduceLT, snapHsl, snapHref, b10, toPss_code, q0, q1, q6, q7, q8, q23, q24, q25, frz, frzL, room, planSlice, boundOf, Nat.reduceSub, Int.reduceLT, Int.reduceAdd, Int.reduceBEq, Int.reduceBNe, Int.reduceLE, List.contains_eq_mem, frzL_nil, onesC, snap_hfn, snapHfn_some, snap_href_s, snap_hsl_s]
            refine dP_app (site := 1664768192) (id := 1664768192) (bytes := 48) (xs := [mv0e j]) (rd := [1664768128]) (gm2.of_eq (by simp only [upd_ne, upd_apply, Nat.reduceEqDiff, if_false])) (by simp [elemsOf, upd_apply, mv0e]) (.inl rfl) (by simp only [mv0_len, List.length_cons, List.length_nil]; omega) fun c' blk3 r1 u1 hc1 hb3 hr1 => ?_
            have b11 := hb3 1664640384 (by decide) (by decide)
            simp only [↓Rd, Rt, Rl, Rb, gP_done, dP_done, Al.all_oks, plan, binV, binInt, eqV, isNilV, app, if_true, if_false, reduceIte, Nat.reduceEqDiff, beq_self_eq_true, reduceCtorEq, ge_iff_le, resultsV, noTup, tupV, fnOf, Nat.reduceAdd, rdAt, takeV, wrAt, splice, cellsV, lenL, ne_eq, Nat.reduceLeDiff, partsV, elemsV, toPss, toPs, toP, fill, Nat.reduceMul, Nat.reduceLT, snapHsl, snapHref] at b11
            simp only [↓Rd, Rt, Rl, Rb, gP_done, dP_done, Al.all_oks, plan, binV, binInt, eqV, isNilV, app, if_true, if_false, reduceIte, Nat.reduceEqDiff, beq_self_eq_true, reduceCtorEq, ge_iff_le, resultsV, noTup, tupV, fnOf, Nat.reduceAdd, rdAt, takeV, wrAt, splice, cellsV, lenL, ne_eq, Nat.reduceLeDiff, partsV, elemsV, toPss, toPs, toP, fill, Nat.reduceMul, Nat.reduceLT, snapHsl, snapHref, b11, toPss_code, q0, q1, q6, q7, q8, q23, q24, q25, frz, frzL, room, planSlice, boundOf, Nat.reduceSub, Int.reduceLT, Int.reduceAdd, Int.reduceBEq, Int.reduceBNe, Int.reduceLE, List.contains_eq_mem, frzL_nil, onesC, snap_hfn, snapHfn_some, snap_href_s, snap_hsl_s]
            have bx3 := (hb3 (1664640128 + 1) (by decide) (by decide))
            simp only [Nat.reduceAdd, upd_apply, Nat.reduceEqDiff, if_false] at bx3 hbx
            have hx3 := bx3.trans hbx
            have gx3 : grown (1664640128 + 1) lsTy 6 (letP (circ j)) (.one (.hsl (1664640128 + 1) g2 6 0 2)) blk3 := .inr ⟨hne, g2, rfl, hx3⟩
            obtain ⟨fr, hx, hfa, hfi⟩ := elems_code (blk := upd blk3 1664768384 ((blk3 1664768384).1 + 1, some (.carr cdTy 2 [[.p (.int .i64 F), .hsl (1664640128 + 1) g2 6 0 2]]))) (s := 1664768384) upd_eq (gx3.of_eq (upd_ne (by decide)))
            have gc3 := gc2.of_eq ((hb3 1664768448 (by decide) (by decide)).trans (by simp only [upd_apply, Nat.reduceEqDiff, if_false] : _ = blk2 1664768448))
            have nf : ∀ i, i ≠ 1664640128 + 1 → i ∉ fr := fun i a h => by
              rcases hfi with rfl | rfl
              · cases h
              · exact a (List.mem_singleton.1 h)
            refine dP_appF (site := 1664768448) (id := 1664768448) (bytes := 32) (gc3.of_eq (upd_ne (by decide))) hx hfa (nf _ (by decide)) (nf _ (by decide)) (.inl rfl) (by simp only [cd0_len, List.length_cons, List.length_nil]; omega) fun d' blk4 r2 u2 hd1 hb4 hr2 => ?_
            have bL4 := (hb4 1664448128 (by decide) (by decide) (nf _ (by decide))).trans ((upd_ne (by decide)).trans (hb3 1664448128 (by decide) (by decide)))
            simp only [upd_apply, Nat.reduceEqDiff, if_false] at bL4
            have bL5 := bL4.trans bL2
            simp only [↓Rd, Rt, Rl, Rb, gP_done, dP_done, Al.all_oks, plan, binV, binInt, eqV, isNilV, app, if_true, if_false, reduceIte, Nat.reduceEqDiff, beq_self_eq_true, reduceCtorEq, ge_iff_le, resultsV, noTup, tupV, fnOf, Nat.reduceAdd, rdAt, takeV, wrAt, splice, cellsV, lenL, ne_eq, Nat.reduceLeDiff, partsV, elemsV, toPss, toPs, toP, fill, Nat.reduceMul, Nat.reduceLT, snapHsl, snapHref, q0, q1, q6, q7, q8, q23, q24, q25, bL5, w2, hlj, frz, frzL, room, planSlice, boundOf, Nat.reduceSub, Int.reduceLT, Int.reduceAdd, Int.reduceBEq, Int.reduceBNe, Int.reduceLE, List.contains_eq_mem, frzL_nil, onesC, snap_hfn, snapHfn_some, snap_href_s, snap_hsl_s]
            refine ⟨?_, c', d', rfl, rfl, ?_, ?_⟩
            · rcases hfi with rfl | rfl <;> rcases hr1 with ⟨rfl, rfl⟩ | ⟨rfl, rfl⟩ | ⟨rfl, rfl⟩ <;> rcases hr2 with ⟨rfl, rfl⟩ | ⟨rfl, rfl⟩ | ⟨rfl, rfl⟩ <;> kernel_rfl
            · rw [hm]
              exact hc1.of_eq ((hb4 1664768192 (by decide) (by decide) (nf _ (by decide))).trans (upd_ne (by decide)))
            · rw [hc]
              exact hd1
          · have : j = F + 1 := by omega
            subst this
            simp only [↓Rd, Rt, Rl, Rb, gP_done, dP_done, Al.all_oks, plan, binV, binInt, eqV, isNilV, app, if_true, if_false, reduceIte, Nat.reduceEqDiff, beq_self_eq_true, reduceCtorEq, ge_iff_le, resultsV, noTup, tupV, fnOf, Nat.reduceAdd, rdAt, takeV, wrAt, splice, cellsV, lenL, ne_eq, Nat.reduceLeDiff, partsV, elemsV, toPss, toPs, toP, fill, Nat.reduceMul, Nat.reduceLT, snapHsl, snapHref, i26_l1, i26_r2, q0, q1, q6, q7, q8, q23, q24, q25, no_more, w1, frz, frzL, room, planSlice, boundOf, Nat.reduceSub, Int.reduceLT, Int.reduceAdd, Int.reduceBEq, Int.reduceBNe, Int.reduceLE, List.contains_eq_mem, frzL_nil, onesC, snap_hfn, snapHfn_some, snap_href_s, snap_hsl_s]
            exact ⟨rfl, c, d, rfl, rfl, gm, gc⟩
      · have hk2 : (((k + 1 : Nat) : Int) == 2) = false := by
          rw [beq_eq_false_iff_ne]; omega
        refine gP_g1 (cand_z hk2) lo1 (.inl rfl) fun cc blk1 gl hb1 => ?_
        have gm1 := gm.of_eq (hb1 1664768192 (by decide))
        have gc1 := gc.of_eq (hb1 1664768448 (by decide))
        rcases gl with ⟨_, e⟩ | ⟨h, _⟩
        · cases e
          simp only [↓Rd, Rt, Rl, Rb, gP_done, dP_done, Al.all_oks, plan, binV, binInt, eqV, isNilV, app, if_true, if_false, reduceIte, Nat.reduceEqDiff, beq_self_eq_true, reduceCtorEq, ge_iff_le, resultsV, noTup, tupV, fnOf, Nat.reduceAdd, rdAt, takeV, wrAt, splice, cellsV, lenL, ne_eq, Nat.reduceLeDiff, partsV, elemsV, toPss, toPs, toP, fill, Nat.reduceMul, Nat.reduceLT, snapHsl, snapHref, frz, frzL, room, planSlice, boundOf, Nat.reduceSub, Int.reduceLT, Int.reduceAdd, Int.reduceBEq, Int.reduceBNe, Int.reduceLE, List.contains_eq_mem, frzL_nil, onesC, snap_hfn, snapHfn_some, snap_href_s, snap_hsl_s]
          refine R_unroll ?_
          simp only [↓Rd, Rt, Rl, Rb, gP_done, dP_done, Al.all_oks, plan, binV, binInt, eqV, isNilV, app, if_true, if_false, reduceIte, Nat.reduceEqDiff, beq_self_eq_true, reduceCtorEq, ge_iff_le, resultsV, noTup, tupV, fnOf, Nat.reduceAdd, rdAt, takeV, wrAt, splice, cellsV, lenL, ne_eq, Nat.reduceLeDiff, partsV, elemsV, toPss, toPs, toP, fill, Nat.reduceMul, Nat.reduceLT, snapHsl, snapHref, i26_l1, i26_r2, e0, e1, e6, e7, e8, zz, w1, frz, frzL, room, planSlice, boundOf, Nat.reduceSub, Int.reduceLT, Int.reduceAdd, Int.reduceBEq, Int.reduceBNe, Int.reduceLE, List.contains_eq_mem, frzL_nil, onesC, snap_hfn, snapHfn_some, snap_href_s, snap_hsl_s]
          rw [nM_succ h1]
          exact ⟨hlt, c, d, rfl, rfl, gm1, gc1⟩
        · exact absurd rfl h
    · have : k = 10 := by omega
      subst this
      have hnl : ¬ (((10 + 1 : Nat) : Int) ≤ 10) := by decide
      simp only [↓Rd, Rt, Rl, Rb, gP_done, dP_done, Al.all_oks, plan, binV, binInt, eqV, isNilV, app, if_true, if_false, reduceIte, Nat.reduceEqDiff, beq_self_eq_true, reduceCtorEq, ge_iff_le, resultsV, noTup, tupV, fnOf, Nat.reduceAdd, rdAt, takeV, wrAt, splice, cellsV, lenL, ne_eq, Nat.reduceLeDiff, partsV, elemsV, toPss, toPs, toP, fill, Nat.reduceMul, Nat.reduceLT, snapHsl, snapHref, i26_l3, i26_r4, e0, e1, e6, e7, e8, hnl, frz, frzL, room, planSlice, boundOf, Nat.reduceSub, Int.reduceLT, Int.reduceAdd, Int.reduceBEq, Int.reduceBNe, Int.reduceLE, List.contains_eq_mem, frzL_nil, onesC, snap_hfn, snapHfn_some, snap_href_s, snap_hsl_s]
      exact grown_out2 (by decide) gm gc
set_option maxHeartbeats 4000000 in
theorem Some0_p (hF : F ≤ 40) : PEv S 14 [code0 F, .one (.p (.sl (nP (kinds 10))))] (.tup [.one (grownR mvTy 7 (mv0 (F + 1))), .one (.p (.int .i64 0))]) := by
  have po : PEv S 15 [code0 F] (rtup (.box [.int .i64 F, .sl [], .sl [], .sl [], .int .i64 ((0 : Nat) : Int), .int .i64 ((0 : Nat) : Int), .sl (nP (counts [] F))]) (.int .i64 0)) := open0 hF
  have ps := some0_p hF
  have lo : S.lone 896256128 = false := by kernel_rfl
  refine PEv_fn rfl c14 (Nat.le_of_ble_eq_true rfl) ?_
  simp only [↓Rd, Rt, Rl, Rb, gP_done, dP_done, Al.all_oks, plan, binV, binInt, eqV, isNilV, app, if_true, if_false, reduceIte, Nat.reduceEqDiff, beq_self_eq_true, reduceCtorEq, ge_iff_le, resultsV, noTup, tupV, fnOf, Nat.reduceAdd, rdAt, takeV, wrAt, splice, cellsV, lenL, ne_eq, Nat.reduceLeDiff, partsV, elemsV, toPss, toPs, toP, fill, Nat.reduceMul, Nat.reduceLT, snapHsl, snapHref, i14, noBlk, s15, gP_land po land_tup, s26, frz, frzL, room, planSlice, boundOf, Nat.reduceSub, Int.reduceLT, Int.reduceAdd, Int.reduceBEq, Int.reduceBNe, Int.reduceLE, List.contains_eq_mem, frzL_nil, onesC, snap_hfn, snapHfn_some, snap_href_s, snap_hsl_s]
  refine gP_g2 ps lo fun c d blk1 gc gd hb => ?_
  simp only [↓Rd, Rt, Rl, Rb, gP_done, dP_done, Al.all_oks, plan, binV, binInt, eqV, isNilV, app, if_true, if_false, reduceIte, Nat.reduceEqDiff, beq_self_eq_true, reduceCtorEq, ge_iff_le, resultsV, noTup, tupV, fnOf, Nat.reduceAdd, rdAt, takeV, wrAt, splice, cellsV, lenL, ne_eq, Nat.reduceLeDiff, partsV, elemsV, toPss, toPs, toP, fill, Nat.reduceMul, Nat.reduceLT, snapHsl, snapHref, frz, frzL, room, planSlice, boundOf, Nat.reduceSub, Int.reduceLT, Int.reduceAdd, Int.reduceBEq, Int.reduceBNe, Int.reduceLE, List.contains_eq_mem, frzL_nil, onesC, snap_hfn, snapHfn_some, snap_href_s, snap_hsl_s]
  exact grown_out1 gc
set_option maxHeartbeats 4000000 in
theorem All0_p (hF : F ≤ 40) : PEv S 5 [code0 F] (.tup [.one (grownR mvTy 7 (mv0 (F + 1))), .one (.p (.int .i64 0))]) := by
  have pr := Some0_p hF
  have lo : S.lone 320384128 = false := by kernel_rfl
  refine PEv_fn rfl c5 (Nat.le_of_ble_eq_true rfl) ?_
  simp only [↓Rd, Rt, Rl, Rb, gP_done, dP_done, Al.all_oks, plan, binV, binInt, eqV, isNilV, app, if_true, if_false, reduceIte, Nat.reduceEqDiff, beq_self_eq_true, reduceCtorEq, ge_iff_le, resultsV, noTup, tupV, fnOf, Nat.reduceAdd, rdAt, takeV, wrAt, splice, cellsV, lenL, ne_eq, Nat.reduceLeDiff, partsV, elemsV, toPss, toPs, toP, fill, Nat.reduceMul, Nat.reduceLT, snapHsl, snapHref, i5, noBlk, planAppend, elemsOf, szOf, szOK, frz, frzL, room, planSlice, boundOf, Nat.reduceSub, Int.reduceLT, Int.reduceAdd, Int.reduceBEq, Int.reduceBNe, Int.reduceLE, List.contains_eq_mem, frzL_nil, onesC, snap_hfn, snapHfn_some, snap_href_s, snap_hsl_s]
  refine R_for (fun k env blk => env 1 = .one (.href 320000000 1 0) ∧ blk 320000000 = (1, some (.var [.p (.int .i64 F), .p (.sl [])])) ∧ env 5 = vi ((k + 1 : Nat) : Int) ∧ outK k (env 4) blk) 0 10 (Nat.zero_le _) ?_ ?_
  · simp only [↓Rd, Rt, Rl, Rb, gP_done, dP_done, Al.all_oks, plan, binV, binInt, eqV, isNilV, app, if_true, if_false, reduceIte, Nat.reduceEqDiff, beq_self_eq_true, reduceCtorEq, ge_iff_le, resultsV, noTup, tupV, fnOf, Nat.reduceAdd, rdAt, takeV, wrAt, splice, cellsV, lenL, ne_eq, Nat.reduceLeDiff, partsV, elemsV, toPss, toPs, toP, fill, Nat.reduceMul, Nat.reduceLT, snapHsl, snapHref]
    exact ⟨rfl, .inl ⟨rfl, rfl⟩⟩
  · rintro k env blk hk ⟨h1, hB, h5, ho⟩
    by_cases hlt : k < 10
    · have hlt' : ((k + 1 : Nat) : Int) ≤ 10 := by omega
      have w1 := wrap_succ (n := k + 1) (by omega)
      have hk1 := kinds_succ k
      rcases ho with ⟨rfl, h4⟩ | ⟨hne, g, h4, hC⟩
      · simp only [↓Rd, Rt, Rl, Rb, gP_done, dP_done, Al.all_oks, plan, binV, binInt, eqV, isNilV, app, if_true, if_false, reduceIte, Nat.reduceEqDiff, beq_self_eq_true, reduceCtorEq, ge_iff_le, resultsV, noTup, tupV, fnOf, Nat.reduceAdd, rdAt, takeV, wrAt, splice, cellsV, lenL, ne_eq, Nat.reduceLeDiff, partsV, elemsV, toPss, toPs, toP, fill, Nat.reduceMul, Nat.reduceLT, snapHsl, snapHref, i5_l1, h1, hB, h4, h5, hlt, hlt', w1, planAppend, elemsOf, szOf, szOK, frz, frzL, room, planSlice, boundOf, Nat.reduceSub, Int.reduceLT, Int.reduceAdd, Int.reduceBEq, Int.reduceBNe, Int.reduceLE, List.contains_eq_mem, frzL_nil, onesC, snap_hfn, snapHfn_some, snap_href_s, snap_hsl_s]
        exact .inr ⟨by simp, _, rfl, rfl⟩
      · have hln : (nP (kinds k)).length = k := by simp [kinds]
        have ht : List.take k (nP (kinds k)) = nP (kinds k) := List.take_of_length_le (by omega)
        have hr : (k + 1) * 8 ≤ 140737488355328 := by omega
        have hkl : (kinds k).length = k := by simp [kinds]
        simp only [↓Rd, Rt, Rl, Rb, gP_done, dP_done, Al.all_oks, plan, binV, binInt, eqV, isNilV, app, if_true, if_false, reduceIte, Nat.reduceEqDiff, beq_self_eq_true, reduceCtorEq, ge_iff_le, resultsV, noTup, tupV, fnOf, Nat.reduceAdd, rdAt, takeV, wrAt, splice, cellsV, lenL, ne_eq, Nat.reduceLeDiff, partsV, elemsV, toPss, toPs, toP, fill, Nat.reduceMul, Nat.reduceLT, snapHsl, snapHref, i5_l1, h1, hB, h4, h5, hlt, hlt', w1, hC, ht, hr, hkl, planAppend, elemsOf, szOf, szOK, frz, frzL, room, planSlice, boundOf, Nat.reduceSub, Int.reduceLT, Int.reduceAdd, Int.reduceBEq, Int.reduceBNe, Int.reduceLE, List.contains_eq_mem, frzL_nil, onesC, snap_hfn, snapHfn_some, snap_href_s, snap_hsl_s]
        exact .inr ⟨by simp, g + 1, by simp, by simp only [upd_apply, if_true]; rw [hk1]⟩
    · have : k = 10 := by omega
      subst this
      have hlt' : ¬ ((10 + 1 : Nat) : Int) ≤ 10 := by decide
      rcases ho with ⟨h0, _⟩ | ⟨_, g, h4, hC⟩
      · cases h0
      · have ht : List.take 10 (nP (kinds 10)) = nP (kinds 10) := List.take_of_length_le (by simp [kinds])
        have hln : 10 ≤ (List.range 10).length := by simp
        simp only [↓Rd, Rt, Rl, Rb, gP_done, dP_done, Al.all_oks, plan, binV, binInt, eqV, isNilV, app, if_true, if_false, reduceIte, Nat.reduceEqDiff, beq_self_eq_true, reduceCtorEq, ge_iff_le, resultsV, noTup, tupV, fnOf, Nat.reduceAdd, rdAt, takeV, wrAt, splice, cellsV, lenL, ne_eq, Nat.reduceLeDiff, partsV, elemsV, toPss, toPs, toP, fill, Nat.reduceMul, Nat.reduceLT, snapHsl, snapHref, i5_l1, i5_r2, h1, hB, h4, h5, hlt', hC, ht, hln, s14, frz, frzL, room, planSlice, boundOf, Nat.reduceSub, Int.reduceLT, Int.reduceAdd, Int.reduceBEq, Int.reduceBNe, Int.reduceLE, List.contains_eq_mem, frzL_nil, onesC, snap_hfn, snapHfn_some, snap_href_s, snap_hsl_s]
        refine gP_g1pr pr lo (sc_mv0 _) rfl fun c blk1 gc hb => ?_
        simp only [↓Rd, Rt, Rl, Rb, gP_done, dP_done, Al.all_oks, plan, binV, binInt, eqV, isNilV, app, if_true, if_false, reduceIte, Nat.reduceEqDiff, beq_self_eq_true, reduceCtorEq, ge_iff_le, resultsV, noTup, tupV, fnOf, Nat.reduceAdd, rdAt, takeV, wrAt, splice, cellsV, lenL, ne_eq, Nat.reduceLeDiff, partsV, elemsV, toPss, toPs, toP, fill, Nat.reduceMul, Nat.reduceLT, snapHsl, snapHref, frz, frzL, room, planSlice, boundOf, Nat.reduceSub, Int.reduceLT, Int.reduceAdd, Int.reduceBEq, Int.reduceBNe, Int.reduceLE, List.contains_eq_mem, frzL_nil, onesC, snap_hfn, snapHfn_some, snap_href_s, snap_hsl_s]
        exact grown_out1 gc
end
end Go.Abs
