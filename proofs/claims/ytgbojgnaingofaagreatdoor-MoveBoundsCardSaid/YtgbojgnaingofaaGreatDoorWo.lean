/-
  Apply, and the law MoveBounds.
-/
import Derived.Test.YtgbojgnaingofaaGreatDoorWm
import Derived.Test.YtgbojgnaingofaaGreatDoorWn
set_option linter.unusedSimpArgs false
set_option linter.unusedVariables false
set_option linter.unusedSectionVars false
namespace Go.Abs
set_option maxRecDepth 100000
set_option maxHeartbeats 8000000 in
theorem apply_of {F : Nat} {ls : List Let} (g : Fine F ls) {k a b c : Int} {l o : Bool} {sg : Int} {res : Option (List Pc)} (hd : PEv S 16 [.one (.p (brdV F ls)), mvV k a b c l o sg] (doR F ls k res)) :
    PEv S 6 [codeV F ls, mvV k a b c l o sg] (doR F ls k res) := by
  have po := open_p g
  have lo : S.lone 384256128 = false := by kernel_rfl
  have fin : (∃ e, doR F ls k res = rcode e) ∨ ∃ L, doR F ls k res = rokc F L := by
    cases res with
    | none => exact .inl ⟨4, rfl⟩
    | some L =>
      by_cases h : (400 : Int) < (ls.length : Int) + (growsR k).1 ∨ (100 : Int) < ((cnt Let.isC ls / 2 : Nat) : Int) + (growsR k).2
      · exact .inl ⟨7, if_pos h⟩
      · exact .inr ⟨finL L, if_neg h⟩
  refine PEv_fn rfl c6 (Nat.le_of_ble_eq_true rfl) ?_
  rcases fin with ⟨e, he⟩ | ⟨L, he⟩
  · rw [he] at hd ⊢
    simp only [↓Rd, Rt, Rl, Rb, gP_done, dP_done, Al.all_oks, plan, binV, binInt, eqV, isNilV, app, if_true, if_false, reduceIte, Nat.reduceEqDiff, beq_self_eq_true, reduceCtorEq, ge_iff_le, resultsV, noTup, tupV, fnOf, Nat.reduceAdd, rdAt, takeV, wrAt, splice, cellsV, lenL, ne_eq, Nat.reduceLeDiff, partsV, elemsV, toPss, toPs, toP, fill, Nat.reduceMul, Nat.reduceLT, snapHsl, snapHref, i6, noBlk, s15, gP_land po land_tup, s16, gP_land hd land_code, planAppend, elemsOf, szOf, szOK, frz, frzL, room, planSlice, boundOf, Nat.reduceSub, Int.reduceLT, Int.reduceAdd, Int.reduceBEq, Int.reduceBNe, Int.reduceLE, List.contains_eq_mem, frzL_nil, onesC, snap_hfn, snapHfn_some, snap_href_s, snap_hsl_s]
    rfl
  · rw [he] at hd ⊢
    simp only [↓Rd, Rt, Rl, Rb, gP_done, dP_done, Al.all_oks, plan, binV, binInt, eqV, isNilV, app, if_true, if_false, reduceIte, Nat.reduceEqDiff, beq_self_eq_true, reduceCtorEq, ge_iff_le, resultsV, noTup, tupV, fnOf, Nat.reduceAdd, rdAt, takeV, wrAt, splice, cellsV, lenL, ne_eq, Nat.reduceLeDiff, partsV, elemsV, toPss, toPs, toP, fill, Nat.reduceMul, Nat.reduceLT, snapHsl, snapHref, i6, noBlk, s15, gP_land po land_tup, s16, frz, frzL, room, planSlice, boundOf, Nat.reduceSub, Int.reduceLT, Int.reduceAdd, Int.reduceBEq, Int.reduceBNe, Int.reduceLE, List.contains_eq_mem, frzL_nil, onesC, snap_hfn, snapHfn_some, snap_href_s, snap_hsl_s]
    refine gP_gT hd lo fun cc blk1 gc hb => ?_
    have b4 := hb 384000128 (by decide)
    simp only [↓Rd, Rt, Rl, Rb, gP_done, dP_done, Al.all_oks, plan, binV, binInt, eqV, isNilV, app, if_true, if_false, reduceIte, Nat.reduceEqDiff, beq_self_eq_true, reduceCtorEq, ge_iff_le, resultsV, noTup, tupV, fnOf, Nat.reduceAdd, rdAt, takeV, wrAt, splice, cellsV, lenL, ne_eq, Nat.reduceLeDiff, partsV, elemsV, toPss, toPs, toP, fill, Nat.reduceMul, Nat.reduceLT, snapHsl, snapHref] at b4
    simp only [↓Rd, Rt, Rl, Rb, gP_done, dP_done, Al.all_oks, plan, binV, binInt, eqV, isNilV, app, if_true, if_false, reduceIte, Nat.reduceEqDiff, beq_self_eq_true, reduceCtorEq, ge_iff_le, resultsV, noTup, tupV, fnOf, Nat.reduceAdd, rdAt, takeV, wrAt, splice, cellsV, lenL, ne_eq, Nat.reduceLeDiff, partsV, elemsV, toPss, toPs, toP, fill, Nat.reduceMul, Nat.reduceLT, snapHsl, snapHref, b4, frz, frzL, room, planSlice, boundOf, Nat.reduceSub, Int.reduceLT, Int.reduceAdd, Int.reduceBEq, Int.reduceBNe, Int.reduceLE, List.contains_eq_mem, frzL_nil, onesC, snap_hfn, snapHfn_some, snap_href_s, snap_hsl_s]
    exact grown_outT (gc.of_eq (upd_ne (by decide)))
theorem stk_next {h k : Nat} (hk : k < 2 * h) : letP ((stk h).take (k + 1)) = letP ((stk h).take k) ++ [[.int .i64 1, .int .i64 0, .int .i64 ((k + 1 : Nat) : Int), .int .i64 0, .int .i64 0, .bool false]] := by
  rw [List.take_add_one, stk_at hk, letP, List.map_append]; rfl
theorem finL_len (L : List Pc) : (finL L).length = L.length := by simp [finL, rotK]
theorem insAt_len (l x : List Pc) (k : Nat) : (insAt l x k).length = l.length + x.length := by
  simp only [insAt, List.length_append, List.length_take, List.length_drop]; omega
set_option maxHeartbeats 16000000 in
/-- the law -/
theorem law_bounds (hk : PEv S 5 [] (rb true)) (half a : Int) (kink : Bool) : PEv S 3 [vi half, vi a, vb kink] (rb true) := by
  have hsk : S.shared 5 = false := by kernel_rfl
  refine PEv_fn rfl c3 (Nat.le_of_ble_eq_true rfl) ?_
  by_cases h1 : half < 198
  · simp only [↓Rd, Rt, Rl, Rb, gP_done, dP_done, Al.all_oks, plan, binV, binInt, eqV, isNilV, app, if_true, if_false, reduceIte, Nat.reduceEqDiff, beq_self_eq_true, reduceCtorEq, ge_iff_le, resultsV, noTup, tupV, fnOf, Nat.reduceAdd, rdAt, takeV, wrAt, splice, cellsV, lenL, ne_eq, Nat.reduceLeDiff, partsV, elemsV, toPss, toPs, toP, fill, Nat.reduceMul, Nat.reduceLT, snapHsl, snapHref, i3, noBlk, h1, hsk, gP_bool hk, planAppend, elemsOf, szOf, szOK, frz, frzL, room, planSlice, boundOf, Nat.reduceSub, Int.reduceLT, Int.reduceAdd, Int.reduceBEq, Int.reduceBNe, Int.reduceLE, List.contains_eq_mem, frzL_nil, onesC, snap_hfn, snapHfn_some, snap_href_s, snap_hsl_s]
  by_cases h2 : 200 < half
  · simp only [↓Rd, Rt, Rl, Rb, gP_done, dP_done, Al.all_oks, plan, binV, binInt, eqV, isNilV, app, if_true, if_false, reduceIte, Nat.reduceEqDiff, beq_self_eq_true, reduceCtorEq, ge_iff_le, resultsV, noTup, tupV, fnOf, Nat.reduceAdd, rdAt, takeV, wrAt, splice, cellsV, lenL, ne_eq, Nat.reduceLeDiff, partsV, elemsV, toPss, toPs, toP, fill, Nat.reduceMul, Nat.reduceLT, snapHsl, snapHref, i3, noBlk, h1, h2, hsk, gP_bool hk, planAppend, elemsOf, szOf, szOK, frz, frzL, room, planSlice, boundOf, Nat.reduceSub, Int.reduceLT, Int.reduceAdd, Int.reduceBEq, Int.reduceBNe, Int.reduceLE, List.contains_eq_mem, frzL_nil, onesC, snap_hfn, snapHfn_some, snap_href_s, snap_hsl_s]
  by_cases h3 : a < 0
  · simp only [↓Rd, Rt, Rl, Rb, gP_done, dP_done, Al.all_oks, plan, binV, binInt, eqV, isNilV, app, if_true, if_false, reduceIte, Nat.reduceEqDiff, beq_self_eq_true, reduceCtorEq, ge_iff_le, resultsV, noTup, tupV, fnOf, Nat.reduceAdd, rdAt, takeV, wrAt, splice, cellsV, lenL, ne_eq, Nat.reduceLeDiff, partsV, elemsV, toPss, toPs, toP, fill, Nat.reduceMul, Nat.reduceLT, snapHsl, snapHref, i3, noBlk, h1, h2, h3, hsk, gP_bool hk, planAppend, elemsOf, szOf, szOK, frz, frzL, room, planSlice, boundOf, Nat.reduceSub, Int.reduceLT, Int.reduceAdd, Int.reduceBEq, Int.reduceBNe, Int.reduceLE, List.contains_eq_mem, frzL_nil, onesC, snap_hfn, snapHfn_some, snap_href_s, snap_hsl_s]
  have wh : IntKind.i64.wrap (2 * half) = 2 * half := wrapI (by omega) (by omega)
  by_cases h4 : 2 * half ≤ a
  · simp only [↓Rd, Rt, Rl, Rb, gP_done, dP_done, Al.all_oks, plan, binV, binInt, eqV, isNilV, app, if_true, if_false, reduceIte, Nat.reduceEqDiff, beq_self_eq_true, reduceCtorEq, ge_iff_le, resultsV, noTup, tupV, fnOf, Nat.reduceAdd, rdAt, takeV, wrAt, splice, cellsV, lenL, ne_eq, Nat.reduceLeDiff, partsV, elemsV, toPss, toPs, toP, fill, Nat.reduceMul, Nat.reduceLT, snapHsl, snapHref, i3, noBlk, h1, h2, h3, h4, wh, hsk, gP_bool hk, planAppend, elemsOf, szOf, szOK, frz, frzL, room, planSlice, boundOf, Nat.reduceSub, Int.reduceLT, Int.reduceAdd, Int.reduceBEq, Int.reduceBNe, Int.reduceLE, List.contains_eq_mem, frzL_nil, onesC, snap_hfn, snapHfn_some, snap_href_s, snap_hsl_s]
  obtain ⟨h, rfl⟩ := Int.eq_ofNat_of_zero_le (show 0 ≤ half by omega)
  obtain ⟨av, rfl⟩ := Int.eq_ofNat_of_zero_le (show 0 ≤ a by omega)
  have hav : av < 2 * h := by omega
  have g : Fine 1 (stk h) := stk_fine (by omega) (by omega)
  have hlen := stk_len (h := h)
  simp only [↓Rd, Rt, Rl, Rb, gP_done, dP_done, Al.all_oks, plan, binV, binInt, eqV, isNilV, app, if_true, if_false, reduceIte, Nat.reduceEqDiff, beq_self_eq_true, reduceCtorEq, ge_iff_le, resultsV, noTup, tupV, fnOf, Nat.reduceAdd, rdAt, takeV, wrAt, splice, cellsV, lenL, ne_eq, Nat.reduceLeDiff, partsV, elemsV, toPss, toPs, toP, fill, Nat.reduceMul, Nat.reduceLT, snapHsl, snapHref, i3, noBlk, h1, h2, h3, h4, wh, frz, frzL, room, planSlice, boundOf, Nat.reduceSub, Int.reduceLT, Int.reduceAdd, Int.reduceBEq, Int.reduceBNe, Int.reduceLE, List.contains_eq_mem, frzL_nil, onesC, snap_hfn, snapHfn_some, snap_href_s, snap_hsl_s]
  refine R_for (fun k env blk => env 0 = vi h ∧ env 1 = vi av ∧ env 2 = vb kink ∧ env 7 = .one (.href 192192064 1 0) ∧ env 8 = vi k ∧ ∃ c, blk 192192064 = (1, some (.var [.p (.int .i64 1), c])) ∧ grown 192448384 lsTy 6 (letP ((stk h).take k)) (.one c) blk ∧ (∀ i, i ≠ 192192064 → i ≠ 192448384 → i ≠ 192448320 → blk i = (0, none))) 0 (2 * h) (Nat.zero_le _) ?_ ?_
  · simp only [↓Rd, Rt, Rl, Rb, gP_done, dP_done, Al.all_oks, plan, binV, binInt, eqV, isNilV, app, if_true, if_false, reduceIte, Nat.reduceEqDiff, beq_self_eq_true, reduceCtorEq, ge_iff_le, resultsV, noTup, tupV, fnOf, Nat.reduceAdd, rdAt, takeV, wrAt, splice, cellsV, lenL, ne_eq, Nat.reduceLeDiff, partsV, elemsV, toPss, toPs, toP, fill, Nat.reduceMul, Nat.reduceLT, snapHsl, snapHref]
    refine ⟨rfl, .p .nils, rfl, .inl ⟨rfl, rfl⟩, fun i h1 _ _ => ?_⟩
    rw [if_neg h1, if_neg h1]; rfl
  · rintro k env blk hkk ⟨e0, e1, e2, e7, e8, c, bO, gc, hz⟩
    by_cases hlt : k < 2 * h
    · have hlt' : ((k : Int) < 2 * (h : Int)) := by omega
      have w1 := wrap_succ (n := k) (by omega)
      have hn := stk_next hlt
      have hl : ((stk h).take k).length ≤ k := by rw [List.length_take]; omega
      simp only [↓Rd, Rt, Rl, Rb, gP_done, dP_done, Al.all_oks, plan, binV, binInt, eqV, isNilV, app, if_true, if_false, reduceIte, Nat.reduceEqDiff, beq_self_eq_true, reduceCtorEq, ge_iff_le, resultsV, noTup, tupV, fnOf, Nat.reduceAdd, rdAt, takeV, wrAt, splice, cellsV, lenL, ne_eq, Nat.reduceLeDiff, partsV, elemsV, toPss, toPs, toP, fill, Nat.reduceMul, Nat.reduceLT, snapHsl, snapHref, i3_l1, e0, e1, e2, e7, e8, bO, wh, hlt', w1, frz, frzL, room, planSlice, boundOf, Nat.reduceSub, Int.reduceLT, Int.reduceAdd, Int.reduceBEq, Int.reduceBNe, Int.reduceLE, List.contains_eq_mem, frzL_nil, onesC, snap_hfn, snapHfn_some, snap_href_s, snap_hsl_s]
      refine gP_app (site := 192448384) (id := 192448384) (bytes := 48) (xs := [[.int .i64 1, .int .i64 0, .int .i64 ((k + 1 : Nat) : Int), .int .i64 0, .int .i64 0, .bool false]]) (rd := [192448320]) (gc.of_eq (upd_ne (by decide))) (by simp [elemsOf, upd_apply]) (.inl rfl) (by simp only [List.length_map, List.length_cons, List.length_nil]; omega) fun c' blk1 hc hb => ?_
      have bO1 := (hb 192192064 (by decide) (by decide)).trans ((upd_ne (by decide)).trans bO)
      simp only [↓Rd, Rt, Rl, Rb, gP_done, dP_done, Al.all_oks, plan, binV, binInt, eqV, isNilV, app, if_true, if_false, reduceIte, Nat.reduceEqDiff, beq_self_eq_true, reduceCtorEq, ge_iff_le, resultsV, noTup, tupV, fnOf, Nat.reduceAdd, rdAt, takeV, wrAt, splice, cellsV, lenL, ne_eq, Nat.reduceLeDiff, partsV, elemsV, toPss, toPs, toP, fill, Nat.reduceMul, Nat.reduceLT, snapHsl, snapHref, e0, e1, e2, e7, e8, bO1, w1, hlt, frz, frzL, room, planSlice, boundOf, Nat.reduceSub, Int.reduceLT, Int.reduceAdd, Int.reduceBEq, Int.reduceBNe, Int.reduceLE, List.contains_eq_mem, frzL_nil, onesC, snap_hfn, snapHfn_some, snap_href_s, snap_hsl_s]
      refine ⟨c', rfl, ?_, fun i a1 a2 a3 => ?_⟩
      · rw [hn]; exact hc.of_eq (upd_ne (by decide))
      · exact (upd_ne a1).trans ((hb i a2 a2).trans ((upd_ne a3).trans (hz i a1 a2 a3)))
    · have : k = 2 * h := by omega
      subst this
      rw [List.take_of_length_le (by rw [hlen]; exact Nat.le_refl _)] at gc
      have hnl : ¬ (((2 * h : Nat) : Int) < 2 * (h : Int)) := by omega
      obtain ⟨gg, hcc, hbd⟩ : ∃ gg, c = .hsl 192448384 gg 6 0 (2 * h) ∧ blk 192448384 = (gg, some (.arr lsTy 6 (letP (stk h)))) := by
        rcases gc with ⟨e, _⟩ | ⟨_, gg, e, hb⟩
        · have : (stk h).length = 0 := by simpa using congrArg List.length e
          omega
        · cases e; exact ⟨gg, by rw [List.length_map, hlen], hb⟩
      subst hcc
      have t1 : List.take (2 * h) (letP (stk h)) = letP (stk h) := List.take_of_length_le (by rw [List.length_map, hlen]; exact Nat.le_refl _)
      have lo : S.lone 192704128 = false := by kernel_rfl
      have hz9 := hz 192512128 (by decide) (by decide) (by decide)
      have hz10 := hz 192704384 (by decide) (by decide) (by decide)
      have lc4 : ∀ blk : Blk, land blk [192448384] 192704128 ((rcode 4).pureIf (S.lone 192704128)) = some (.tup [.agg [.p (.int .i64 0), .p .nils], .one (.p (.int .i64 4))], []) := fun blk => by rw [lo]; rfl
      have lc7 : ∀ blk : Blk, land blk [192448384] 192704128 ((rcode 7).pureIf (S.lone 192704128)) = some (.tup [.agg [.p (.int .i64 0), .p .nils], .one (.p (.int .i64 7))], []) := fun blk => by rw [lo]; rfl
      have w22 : IntKind.i64.wrap (2 * (h : Int) + 2) = ((2 * h + 2 : Nat) : Int) := (wrapI (x := 2 * (h : Int) + 2) (by omega) (by omega)).trans (by omega)
      have cc1 : ((1 : Nat) : Int) = 1 := rfl
      have cc0 : ((0 : Nat) : Int) = 0 := rfl
      have hno : ¬ h = 200 → ∀ k, (growsR k).1 = 2 → (growsR k).2 ≤ 1 → ¬ ((400 : Int) < ((stk h).length : Int) + (growsR k).1 ∨ (100 : Int) < ((cnt Let.isC (stk h) / 2 : Nat) : Int) + (growsR k).2) := fun hq k a b => by
        rw [hlen, stk_noC, a]
        have : ((0 / 2 : Nat) : Int) = 0 := rfl
        rintro (x | x)
        · omega
        · omega
      cases kink with
      | true =>
        have pa := apply_of g (do5_p g (arg5_p (F := 1) (ls := stk h) (av := av) (o := false) (sg := 1) (by rw [hlen]; exact hav) (.inl rfl)) (loopMake_p g (by rw [hlen]; exact hav)) (fun L hL => by cases hL; rw [lmR, insAt_len, pieces_len, hlen]; simp; omega))
        rw [cc1] at pa
        by_cases hq : h = 200
        · have hq1 : ((h : Int) == 200) = true := by simp; omega
          rw [show doR 1 (stk h) 5 (some (lmR (stk h) av 1 false)) = rcode 7 from if_pos (.inl (by rw [hlen, hq]; decide))] at pa
          simp only [↓Rd, Rt, Rl, Rb, gP_done, dP_done, Al.all_oks, plan, binV, binInt, eqV, isNilV, app, if_true, if_false, reduceIte, Nat.reduceEqDiff, beq_self_eq_true, reduceCtorEq, ge_iff_le, resultsV, noTup, tupV, fnOf, Nat.reduceAdd, rdAt, takeV, wrAt, splice, cellsV, lenL, ne_eq, Nat.reduceLeDiff, partsV, elemsV, toPss, toPs, toP, fill, Nat.reduceMul, Nat.reduceLT, snapHsl, snapHref, i3_l1, i3_r2, e0, e1, e2, e7, e8, bO, wh, hnl, hz9, hz10, hbd, hlen, t1, s6, gP_land pa (lc7 _), hq1, s7, gP_bool equal_zero, hsk, gP_bool hk, frz, frzL, room, planSlice, boundOf, Nat.reduceSub, Int.reduceLT, Int.reduceAdd, Int.reduceBEq, Int.reduceBNe, Int.reduceLE, List.contains_eq_mem, frzL_nil, onesC, snap_hfn, snapHfn_some, snap_href_s, snap_hsl_s]
        · have hq1 : ((h : Int) == 200) = false := by simp; omega
          rw [show doR 1 (stk h) 5 (some (lmR (stk h) av 1 false)) = rokc 1 (finL (lmR (stk h) av 1 false)) from if_neg (hno hq 5 rfl (by decide))] at pa
          simp only [↓Rd, Rt, Rl, Rb, gP_done, dP_done, Al.all_oks, plan, binV, binInt, eqV, isNilV, app, if_true, if_false, reduceIte, Nat.reduceEqDiff, beq_self_eq_true, reduceCtorEq, ge_iff_le, resultsV, noTup, tupV, fnOf, Nat.reduceAdd, rdAt, takeV, wrAt, splice, cellsV, lenL, ne_eq, Nat.reduceLeDiff, partsV, elemsV, toPss, toPs, toP, fill, Nat.reduceMul, Nat.reduceLT, snapHsl, snapHref, i3_l1, i3_r2, e0, e1, e2, e7, e8, bO, wh, hnl, hz9, hz10, hbd, hlen, t1, s6, frz, frzL, room, planSlice, boundOf, Nat.reduceSub, Int.reduceLT, Int.reduceAdd, Int.reduceBEq, Int.reduceBNe, Int.reduceLE, List.contains_eq_mem, frzL_nil, onesC, snap_hfn, snapHfn_some, snap_href_s, snap_hsl_s]
          refine gP_gTr pa lo rfl rfl (sc_let _) fun cc blk1 gc1 hb1 => ?_
          have z10 := hb1 192704384 (by decide)
          simp only [↓Rd, Rt, Rl, Rb, gP_done, dP_done, Al.all_oks, plan, binV, binInt, eqV, isNilV, app, if_true, if_false, reduceIte, Nat.reduceEqDiff, beq_self_eq_true, reduceCtorEq, ge_iff_le, resultsV, noTup, tupV, fnOf, Nat.reduceAdd, rdAt, takeV, wrAt, splice, cellsV, lenL, ne_eq, Nat.reduceLeDiff, partsV, elemsV, toPss, toPs, toP, fill, Nat.reduceMul, Nat.reduceLT, snapHsl, snapHref, hz10] at z10
          have hfl : (finL (lmR (stk h) av 1 false)).length = 2 * h + 2 := by rw [finL_len, lmR, insAt_len, pieces_len, hlen]; rfl
          have hcc : ∃ gg2, cc = .hsl (192704128 + 1) gg2 6 0 (2 * h + 2) := by
            rcases gc1 with ⟨e, _⟩ | ⟨_, gx, e, _⟩
            · have : (finL (lmR (stk h) av 1 false)).length = 0 := by simpa using congrArg List.length e
              omega
            · cases e; exact ⟨gx, by rw [List.length_map, hfl]⟩
          obtain ⟨gg2, rfl⟩ := hcc
          simp only [↓Rd, Rt, Rl, Rb, gP_done, dP_done, Al.all_oks, plan, binV, binInt, eqV, isNilV, app, if_true, if_false, reduceIte, Nat.reduceEqDiff, beq_self_eq_true, reduceCtorEq, ge_iff_le, resultsV, noTup, tupV, fnOf, Nat.reduceAdd, rdAt, takeV, wrAt, splice, cellsV, lenL, ne_eq, Nat.reduceLeDiff, partsV, elemsV, toPss, toPs, toP, fill, Nat.reduceMul, Nat.reduceLT, snapHsl, snapHref, e0, e1, e2, z10, wh, w22, hq1, hsk, gP_bool hk, frz, frzL, room, planSlice, boundOf, Nat.reduceSub, Int.reduceLT, Int.reduceAdd, Int.reduceBEq, Int.reduceBNe, Int.reduceLE, List.contains_eq_mem, frzL_nil, onesC, snap_hfn, snapHfn_some, snap_href_s, snap_hsl_s]
      | false =>
        have pa := apply_of g (do2_p g (res := amR 1 (stk h) av 1 0) (arg2_p (F := 1) (ls := stk h) (av := av) (b := 1) (c := 0) (by rw [hlen]; exact hav) (Nat.le_refl _) (Nat.zero_le _)) (axisMake_p g (by rw [hlen]; exact hav) (Nat.le_refl _) (Nat.zero_le _)) (fun L hL => by
          have : L.length = (stk h).length + 2 := by
            unfold amR at hL
            split at hL
            · cases hL; rw [amIns, insAt_len]; simp [shiftL, pieces_len]
            · split at hL
              · cases hL; rw [amIns, insAt_len]; simp [shiftL, pieces_len]
              · cases hL
          omega))
        rw [cc1, cc0] at pa
        have hLen : ∀ L, amR 1 (stk h) av 1 0 = some L → L.length = 2 * h + 2 := fun L hL => by
          unfold amR at hL
          split at hL
          · cases hL; rw [amIns, insAt_len]; simp [shiftL, pieces_len, hlen]
          · split at hL
            · cases hL; rw [amIns, insAt_len]; simp [shiftL, pieces_len, hlen]
            · cases hL
        cases hres : amR 1 (stk h) av 1 0 with
        | none =>
          rw [hres] at pa
          rw [show doR 1 (stk h) 2 none = rcode 4 from rfl] at pa
          simp only [↓Rd, Rt, Rl, Rb, gP_done, dP_done, Al.all_oks, plan, binV, binInt, eqV, isNilV, app, if_true, if_false, reduceIte, Nat.reduceEqDiff, beq_self_eq_true, reduceCtorEq, ge_iff_le, resultsV, noTup, tupV, fnOf, Nat.reduceAdd, rdAt, takeV, wrAt, splice, cellsV, lenL, ne_eq, Nat.reduceLeDiff, partsV, elemsV, toPss, toPs, toP, fill, Nat.reduceMul, Nat.reduceLT, snapHsl, snapHref, i3_l1, i3_r2, e0, e1, e2, e7, e8, bO, wh, hnl, hz9, hz10, hbd, hlen, t1, s6, gP_land pa (lc4 _), s7, gP_bool equal_zero, hsk, gP_bool hk, frz, frzL, room, planSlice, boundOf, Nat.reduceSub, Int.reduceLT, Int.reduceAdd, Int.reduceBEq, Int.reduceBNe, Int.reduceLE, List.contains_eq_mem, frzL_nil, onesC, snap_hfn, snapHfn_some, snap_href_s, snap_hsl_s]
        | some L =>
          rw [hres] at pa
          have hLl := hLen L hres
          by_cases hq : h = 200
          · have hq1 : ((h : Int) == 200) = true := by simp; omega
            rw [show doR 1 (stk h) 2 (some L) = rcode 7 from if_pos (.inl (by rw [hlen, hq]; decide))] at pa
            simp only [↓Rd, Rt, Rl, Rb, gP_done, dP_done, Al.all_oks, plan, binV, binInt, eqV, isNilV, app, if_true, if_false, reduceIte, Nat.reduceEqDiff, beq_self_eq_true, reduceCtorEq, ge_iff_le, resultsV, noTup, tupV, fnOf, Nat.reduceAdd, rdAt, takeV, wrAt, splice, cellsV, lenL, ne_eq, Nat.reduceLeDiff, partsV, elemsV, toPss, toPs, toP, fill, Nat.reduceMul, Nat.reduceLT, snapHsl, snapHref, i3_l1, i3_r2, e0, e1, e2, e7, e8, bO, wh, hnl, hz9, hz10, hbd, hlen, t1, s6, gP_land pa (lc7 _), hq1, s7, gP_bool equal_zero, hsk, gP_bool hk, frz, frzL, room, planSlice, boundOf, Nat.reduceSub, Int.reduceLT, Int.reduceAdd, Int.reduceBEq, Int.reduceBNe, Int.reduceLE, List.contains_eq_mem, frzL_nil, onesC, snap_hfn, snapHfn_some, snap_href_s, snap_hsl_s]
          · have hq1 : ((h : Int) == 200) = false := by simp; omega
            rw [show doR 1 (stk h) 2 (some L) = rokc 1 (finL L) from if_neg (hno hq 2 rfl (by decide))] at pa
            simp only [↓Rd, Rt, Rl, Rb, gP_done, dP_done, Al.all_oks, plan, binV, binInt, eqV, isNilV, app, if_true, if_false, reduceIte, Nat.reduceEqDiff, beq_self_eq_true, reduceCtorEq, ge_iff_le, resultsV, noTup, tupV, fnOf, Nat.reduceAdd, rdAt, takeV, wrAt, splice, cellsV, lenL, ne_eq, Nat.reduceLeDiff, partsV, elemsV, toPss, toPs, toP, fill, Nat.reduceMul, Nat.reduceLT, snapHsl, snapHref, i3_l1, i3_r2, e0, e1, e2, e7, e8, bO, wh, hnl, hz9, hz10, hbd, hlen, t1, s6, frz, frzL, room, planSlice, boundOf, Nat.reduceSub, Int.reduceLT, Int.reduceAdd, Int.reduceBEq, Int.reduceBNe, Int.reduceLE, List.contains_eq_mem, frzL_nil, onesC, snap_hfn, snapHfn_some, snap_href_s, snap_hsl_s]
            refine gP_gTr pa lo rfl rfl (sc_let _) fun cc blk1 gc1 hb1 => ?_
            have z10 := hb1 192704384 (by decide)
            simp only [↓Rd, Rt, Rl, Rb, gP_done, dP_done, Al.all_oks, plan, binV, binInt, eqV, isNilV, app, if_true, if_false, reduceIte, Nat.reduceEqDiff, beq_self_eq_true, reduceCtorEq, ge_iff_le, resultsV, noTup, tupV, fnOf, Nat.reduceAdd, rdAt, takeV, wrAt, splice, cellsV, lenL, ne_eq, Nat.reduceLeDiff, partsV, elemsV, toPss, toPs, toP, fill, Nat.reduceMul, Nat.reduceLT, snapHsl, snapHref, hz10] at z10
            have hfl : (finL L).length = 2 * h + 2 := by rw [finL_len]; exact hLl
            have hcc : ∃ gg2, cc = .hsl (192704128 + 1) gg2 6 0 (2 * h + 2) := by
              rcases gc1 with ⟨e, _⟩ | ⟨_, gx, e, _⟩
              · have : (finL L).length = 0 := by simpa using congrArg List.length e
                omega
              · cases e; exact ⟨gx, by rw [List.length_map, hfl]⟩
            obtain ⟨gg2, rfl⟩ := hcc
            simp only [↓Rd, Rt, Rl, Rb, gP_done, dP_done, Al.all_oks, plan, binV, binInt, eqV, isNilV, app, if_true, if_false, reduceIte, Nat.reduceEqDiff, beq_self_eq_true, reduceCtorEq, ge_iff_le, resultsV, noTup, tupV, fnOf, Nat.reduceAdd, rdAt, takeV, wrAt, splice, cellsV, lenL, ne_eq, Nat.reduceLeDiff, partsV, elemsV, toPss, toPs, toP, fill, Nat.reduceMul, Nat.reduceLT, snapHsl, snapHref, e0, e1, e2, z10, wh, w22, hq1, hsk, gP_bool hk, frz, frzL, room, planSlice, boundOf, Nat.reduceSub, Int.reduceLT, Int.reduceAdd, Int.reduceBEq, Int.reduceBNe, Int.reduceLE, List.contains_eq_mem, frzL_nil, onesC, snap_hfn, snapHfn_some, snap_href_s, snap_hsl_s]
end Go.Abs
