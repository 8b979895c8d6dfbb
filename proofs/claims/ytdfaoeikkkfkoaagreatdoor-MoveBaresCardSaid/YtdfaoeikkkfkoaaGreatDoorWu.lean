/-
  The law MoveBares.
-/
import Derived.Test.YtdfaoeikkkfkoaaGreatDoorWt
set_option linter.unusedSimpArgs false
set_option linter.unusedVariables false
set_option linter.unusedSectionVars false
namespace Go.Abs
set_option maxRecDepth 100000
set_option maxHeartbeats 16000000 in
/-- the law -/
theorem law_bares (hk : PEv S 4 [] (rb true)) (k : Int) : PEv S 3 [vi k] (rb true) := by
  have hsk : S.shared 4 = false := by kernel_rfl
  refine PEv_fn rfl c3 (Nat.le_of_ble_eq_true rfl) ?_
  by_cases h1 : k < 0
  · simp only [↓Rd, Rt, Rl, Rb, gP_done, dP_done, Al.all_oks, plan, binV, binInt, eqV, isNilV, app, if_true, if_false, reduceIte, Nat.reduceEqDiff, beq_self_eq_true, reduceCtorEq, ge_iff_le, resultsV, noTup, tupV, fnOf, Nat.reduceAdd, rdAt, takeV, wrAt, splice, cellsV, lenL, ne_eq, Nat.reduceLeDiff, partsV, elemsV, toPss, toPs, toP, fill, Nat.reduceMul, Nat.reduceLT, snapHsl, snapHref, i3, noBlk, h1, hsk, gP_bool hk, planAppend, elemsOf, szOf, szOK, frz, frzL, room, planSlice, boundOf, Nat.reduceSub, Int.reduceLT, Int.reduceAdd, Int.reduceBEq, Int.reduceBNe, Int.reduceLE, List.contains_eq_mem, frzL_nil, onesC, snap_hfn, snapHfn_some, snap_href_s, snap_hsl_s]
  by_cases h2 : 40 < k
  · simp only [↓Rd, Rt, Rl, Rb, gP_done, dP_done, Al.all_oks, plan, binV, binInt, eqV, isNilV, app, if_true, if_false, reduceIte, Nat.reduceEqDiff, beq_self_eq_true, reduceCtorEq, ge_iff_le, resultsV, noTup, tupV, fnOf, Nat.reduceAdd, rdAt, takeV, wrAt, splice, cellsV, lenL, ne_eq, Nat.reduceLeDiff, partsV, elemsV, toPss, toPs, toP, fill, Nat.reduceMul, Nat.reduceLT, snapHsl, snapHref, i3, noBlk, h1, h2, hsk, gP_bool hk, planAppend, elemsOf, szOf, szOK, frz, frzL, room, planSlice, boundOf, Nat.reduceSub, Int.reduceLT, Int.reduceAdd, Int.reduceBEq, Int.reduceBNe, Int.reduceLE, List.contains_eq_mem, frzL_nil, onesC, snap_hfn, snapHfn_some, snap_href_s, snap_hsl_s]
  obtain ⟨F, rfl⟩ := Int.eq_ofNat_of_zero_le (show 0 ≤ k by omega)
  have hF : F ≤ 40 := by omega
  have pa := All0_p hF
  have loA : S.lone 192256064 = false := by kernel_rfl
  have lo1 : S.lone 192768320 = false := by kernel_rfl
  have lo2 : S.lone 192832128 = false := by kernel_rfl
  have lo3 : S.lone 192896512 = false := by kernel_rfl
  have wF := wrap_succ (n := F) (by omega)
  have nF : (((F + 1 : Nat) : Int) != ((F + 1 : Nat) : Int)) = false := by simp
  simp only [↓Rd, Rt, Rl, Rb, gP_done, dP_done, Al.all_oks, plan, binV, binInt, eqV, isNilV, app, if_true, if_false, reduceIte, Nat.reduceEqDiff, beq_self_eq_true, reduceCtorEq, ge_iff_le, resultsV, noTup, tupV, fnOf, Nat.reduceAdd, rdAt, takeV, wrAt, splice, cellsV, lenL, ne_eq, Nat.reduceLeDiff, partsV, elemsV, toPss, toPs, toP, fill, Nat.reduceMul, Nat.reduceLT, snapHsl, snapHref, i3, noBlk, h1, h2, s5, frz, frzL, room, planSlice, boundOf, Nat.reduceSub, Int.reduceLT, Int.reduceAdd, Int.reduceBEq, Int.reduceBNe, Int.reduceLE, List.contains_eq_mem, frzL_nil, onesC, snap_hfn, snapHfn_some, snap_href_s, snap_hsl_s]
  refine gP_g1p pa loA fun cc blk1 gl hb1 => ?_
  have b1 := hb1 192192128 (by decide)
  simp only [↓Rd, Rt, Rl, Rb, gP_done, dP_done, Al.all_oks, plan, binV, binInt, eqV, isNilV, app, if_true, if_false, reduceIte, Nat.reduceEqDiff, beq_self_eq_true, reduceCtorEq, ge_iff_le, resultsV, noTup, tupV, fnOf, Nat.reduceAdd, rdAt, takeV, wrAt, splice, cellsV, lenL, ne_eq, Nat.reduceLeDiff, partsV, elemsV, toPss, toPs, toP, fill, Nat.reduceMul, Nat.reduceLT, snapHsl, snapHref] at b1
  rcases gl with ⟨e, _⟩ | ⟨_, gg, e, hbl⟩
  · exact absurd (congrArg List.length e) (by rw [mv0_len]; simp)
  cases e
  rw [mv0_len]
  simp only [↓Rd, Rt, Rl, Rb, gP_done, dP_done, Al.all_oks, plan, binV, binInt, eqV, isNilV, app, if_true, if_false, reduceIte, Nat.reduceEqDiff, beq_self_eq_true, reduceCtorEq, ge_iff_le, resultsV, noTup, tupV, fnOf, Nat.reduceAdd, rdAt, takeV, wrAt, splice, cellsV, lenL, ne_eq, Nat.reduceLeDiff, partsV, elemsV, toPss, toPs, toP, fill, Nat.reduceMul, Nat.reduceLT, snapHsl, snapHref, b1, wF, nF, frz, frzL, room, planSlice, boundOf, Nat.reduceSub, Int.reduceLT, Int.reduceAdd, Int.reduceBEq, Int.reduceBNe, Int.reduceLE, List.contains_eq_mem, frzL_nil, onesC, snap_hfn, snapHfn_some, snap_href_s, snap_hsl_s]
  refine R_for (fun j env blk => env 0 = vi F ∧ env 3 = .one (.href 192192128 1 0) ∧ env 4 = .one (.hsl 192256064 gg 7 0 (F + 1)) ∧ env 6 = vi j ∧ blk 192192128 = (1, some (.var [.p (.int .i64 F), .p .nils])) ∧ blk 192256064 = (gg, some (.arr mvTy 7 (mv0 (F + 1))))) 0 (F + 1) (Nat.zero_le _) ?_ ?_
  · simp only [↓Rd, Rt, Rl, Rb, gP_done, dP_done, Al.all_oks, plan, binV, binInt, eqV, isNilV, app, if_true, if_false, reduceIte, Nat.reduceEqDiff, beq_self_eq_true, reduceCtorEq, ge_iff_le, resultsV, noTup, tupV, fnOf, Nat.reduceAdd, rdAt, takeV, wrAt, splice, cellsV, lenL, ne_eq, Nat.reduceLeDiff, partsV, elemsV, toPss, toPs, toP, fill, Nat.reduceMul, Nat.reduceLT, snapHsl, snapHref]
    exact ⟨rfl, b1, hbl⟩
  · rintro j env blk hj ⟨e0, e3, e4, e6, bC, bL⟩
    by_cases hlt : j < F + 1
    · have hlt' : ((j : Int) ≤ (F : Int)) := by omega
      have w1 := wrap_succ (n := j) (by omega)
      have hat := mv0_at hlt
      have hjj : ((j : Int) == (j : Int)) = true := beq_self_eq_true _
      have p1 := apply0_p hF (b := j) (by omega)
      have p2 : PEv S 6 [.agg [.p (.int .i64 F), .p (.sl [Let.ps ⟨1, j, 1, 0, 0, false⟩, Let.ps ⟨1, j, 2, 0, 0, false⟩])], mvV 1 1 0 0 false false 0] (.tup [.agg [.p (.int .i64 F), .p .nils], .one (.p (.int .i64 0))]) := cut_circ hF (q := j) (by omega)
      have p3 : PEv S 8 [.agg [.p (.int .i64 F), .p (.sl [Let.ps ⟨1, j, 1, 0, 0, false⟩, Let.ps ⟨1, j, 2, 0, 0, false⟩])]] (.one (.own 3 1 [[.int .i64 j], [.int .i64 j]])) := word_circ (F := F) (q := j)
      have p4 : PEv S 7 [.one (.p (.sl [[.int .i64 j], [.int .i64 j]])), .one (.p (.sl [[.int .i64 j], [.int .i64 j]]))] (rb true) := equal_ints [j, j] (by simp)
      have p5 := equal0 F
      simp only [↓Rd, Rt, Rl, Rb, gP_done, dP_done, Al.all_oks, plan, binV, binInt, eqV, isNilV, app, if_true, if_false, reduceIte, Nat.reduceEqDiff, beq_self_eq_true, reduceCtorEq, ge_iff_le, resultsV, noTup, tupV, fnOf, Nat.reduceAdd, rdAt, takeV, wrAt, splice, cellsV, lenL, ne_eq, Nat.reduceLeDiff, partsV, elemsV, toPss, toPs, toP, fill, Nat.reduceMul, Nat.reduceLT, snapHsl, snapHref, i3_l1, e0, e3, e4, e6, bC, bL, hlt, hlt', hat, mv0e, eqCs, eqC, hjj, s6, frz, frzL, room, planSlice, boundOf, Nat.reduceSub, Int.reduceLT, Int.reduceAdd, Int.reduceBEq, Int.reduceBNe, Int.reduceLE, List.contains_eq_mem, frzL_nil, onesC, snap_hfn, snapHfn_some, snap_href_s, snap_hsl_s]
      refine dP_gT p1 lo1 fun cx blk2 w gx hb2 hw => ?_
      have bC2 := (hb2 192192128 (by decide)).trans bC
      have bL2 := (hb2 192256064 (by decide)).trans bL
      rcases gx with ⟨e, _⟩ | ⟨hne, g2, e, hbx⟩
      · cases e
      cases e
      have t1 : List.take 2 (letP (circ j)) = letP (circ j) := rfl
      have t2 : (letP (circ j)).length = 2 := rfl
      simp only [↓Rd, Rt, Rl, Rb, gP_done, dP_done, Al.all_oks, plan, binV, binInt, eqV, isNilV, app, if_true, if_false, reduceIte, Nat.reduceEqDiff, beq_self_eq_true, reduceCtorEq, ge_iff_le, resultsV, noTup, tupV, fnOf, Nat.reduceAdd, rdAt, takeV, wrAt, splice, cellsV, lenL, ne_eq, Nat.reduceLeDiff, partsV, elemsV, toPss, toPs, toP, fill, Nat.reduceMul, Nat.reduceLT, snapHsl, snapHref, e0, e3, e4, e6, frz, frzL, room, planSlice, boundOf, Nat.reduceSub, Int.reduceLT, Int.reduceAdd, Int.reduceBEq, Int.reduceBNe, Int.reduceLE, List.contains_eq_mem, frzL_nil, onesC, snap_hfn, snapHfn_some, snap_href_s, snap_hsl_s]
      refine ⟨?_, ?_⟩
      · rcases hw with rfl | rfl <;> kernel_rfl
      simp only [Nat.reduceAdd] at hbx
      have lc2 : ∀ blk : Blk, ∀ x, land blk [x] 192832128 ((RV.tup [.agg [.p (.int .i64 F), .p .nils], .one (.p (.int .i64 0))]).pureIf (S.lone 192832128)) = some (.tup [.agg [.p (.int .i64 F), .p .nils], .one (.p (.int .i64 0))], []) := fun blk x => by rw [lo2]; rfl
      have lc3 : ∀ blk : Blk, ∀ x, land blk [x] 192896512 ((RV.one (.own 3 1 [[.int .i64 j], [.int .i64 j]])).pureIf (S.lone 192896512)) = some (.one (.hsl 192896512 ((blk 192896512).1 + 1) 1 0 2), [(192896512, ((blk 192896512).1 + 1, some (.arr 3 1 [[.int .i64 j], [.int .i64 j]])))]) := fun blk x => by rw [lo3]; rfl
      simp only [↓Rd, Rt, Rl, Rb, gP_done, dP_done, Al.all_oks, plan, binV, binInt, eqV, isNilV, app, if_true, if_false, reduceIte, Nat.reduceEqDiff, beq_self_eq_true, reduceCtorEq, ge_iff_le, resultsV, noTup, tupV, fnOf, Nat.reduceAdd, rdAt, takeV, wrAt, splice, cellsV, lenL, ne_eq, Nat.reduceLeDiff, partsV, elemsV, toPss, toPs, toP, fill, Nat.reduceMul, Nat.reduceLT, snapHsl, snapHref, e0, e3, e4, e6, hbx, t1, t2, bC2, s6, gP_land p2 (lc2 _ _), s8, gP_land p3 (lc3 _ _), s7, gP_bool p4, s9, gP_bool p5, w1, frz, frzL, room, planSlice, boundOf, Nat.reduceSub, Int.reduceLT, Int.reduceAdd, Int.reduceBEq, Int.reduceBNe, Int.reduceLE, List.contains_eq_mem, frzL_nil, onesC, snap_hfn, snapHfn_some, snap_href_s, snap_hsl_s]
      exact ⟨hlt, bL2⟩
    · have : j = F + 1 := by omega
      subst this
      have hnl : ¬ (((F + 1 : Nat) : Int) ≤ (F : Int)) := by omega
      simp only [↓Rd, Rt, Rl, Rb, gP_done, dP_done, Al.all_oks, plan, binV, binInt, eqV, isNilV, app, if_true, if_false, reduceIte, Nat.reduceEqDiff, beq_self_eq_true, reduceCtorEq, ge_iff_le, resultsV, noTup, tupV, fnOf, Nat.reduceAdd, rdAt, takeV, wrAt, splice, cellsV, lenL, ne_eq, Nat.reduceLeDiff, partsV, elemsV, toPss, toPs, toP, fill, Nat.reduceMul, Nat.reduceLT, snapHsl, snapHref, i3_l1, i3_r2, e0, e3, e4, e6, hnl, hsk, gP_bool hk, frz, frzL, room, planSlice, boundOf, Nat.reduceSub, Int.reduceLT, Int.reduceAdd, Int.reduceBEq, Int.reduceBNe, Int.reduceLE, List.contains_eq_mem, frzL_nil, onesC, snap_hfn, snapHfn_some, snap_href_s, snap_hsl_s]
end Go.Abs
