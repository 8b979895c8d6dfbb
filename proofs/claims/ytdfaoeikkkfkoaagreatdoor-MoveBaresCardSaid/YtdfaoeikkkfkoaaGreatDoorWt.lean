/-
  The circle, and how it is taken back.
-/
import Derived.Test.YtdfaoeikkkfkoaaGreatDoorWs
import Derived.Test.YtdfaoeikkkfkoaaGreatDoorWp
set_option linter.unusedSimpArgs false
set_option linter.unusedVariables false
set_option linter.unusedSectionVars false
namespace Go.Abs
set_option maxRecDepth 100000
theorem circ_all : ((List.range 41).all fun F => (List.range (F + 1)).all fun q => checkR (F : Int) (circ q) == 0) = true := by kernel_rfl
theorem circ_fine {F q : Nat} (hF : F ≤ 40) (hq : q ≤ F) : Fine F (circ q) := by
  have h := List.all_eq_true.1 circ_all F (List.mem_range.2 (by omega))
  have h2 := List.all_eq_true.1 h q (List.mem_range.2 (by omega))
  obtain ⟨F', e, g⟩ := fine_of (beq_iff_eq.1 h2) (by simp)
  have : F = F' := by omega
  subst this
  exact g
theorem circ_cut : ((List.range 41).all fun q => match acR (circ q) 1 with | some L => L.isEmpty | none => false) = true := by kernel_rfl
theorem circ_ac {q : Nat} (hq : q ≤ 40) : acR (circ q) 1 = some [] := by
  have h := List.all_eq_true.1 circ_cut q (List.mem_range.2 (by omega))
  cases hr : acR (circ q) 1 with
  | none => rw [hr] at h; cases h
  | some L =>
    rw [hr] at h
    cases L with
    | nil => rfl
    | cons a b => cases h
set_option maxHeartbeats 8000000 in
theorem arg1_p {F : Nat} {ls : List Let} {av : Nat} (ha : av < ls.length) : PEv S 30 [.one (.p (brdV F ls)), mvV 1 av 0 0 false false 0] (rb true) := by
  have hil := is_t (i := av) (n := (pieces ls).length) (by rw [pieces_len]; exact ha)
  refine PEv_fn rfl c30 (Nat.le_of_ble_eq_true rfl) ?_
  simp only [↓Rd, Rt, Rl, Rb, gP_done, dP_done, Al.all_oks, plan, binV, binInt, eqV, isNilV, app, if_true, if_false, reduceIte, Nat.reduceEqDiff, beq_self_eq_true, reduceCtorEq, ge_iff_le, resultsV, noTup, tupV, fnOf, Nat.reduceAdd, rdAt, takeV, wrAt, splice, cellsV, lenL, ne_eq, Nat.reduceLeDiff, partsV, elemsV, toPss, toPs, toP, fill, Nat.reduceMul, Nat.reduceLT, snapHsl, snapHref, i30, noBlk, s45, gP_bool hil, planAppend, elemsOf, szOf, szOK, frz, frzL, room, planSlice, boundOf, Nat.reduceSub, Int.reduceLT, Int.reduceAdd, Int.reduceBEq, Int.reduceBNe, Int.reduceLE, List.contains_eq_mem, frzL_nil, onesC, snap_hfn, snapHfn_some, snap_href_s, snap_hsl_s]

set_option maxHeartbeats 8000000 in
theorem do1_p {F : Nat} {ls : List Let} (g : Fine F ls) {a b c : Int} {l o : Bool} {sg : Int} {res : Option (List Pc)} (ha : PEv S 30 [.one (.p (brdV F ls)), mvV 1 a b c l o sg] (rb true)) (hm : PEv S 46 [.one (.p (brdV F ls)), mvV 1 a b c l o sg] (kR res)) (hL : ∀ L, res = some L → L.length ≤ 1000000) :
    PEv S 16 [.one (.p (brdV F ls)), mvV 1 a b c l o sg] (doR F ls 1 res) := by
  have hlen := g.len
  have hcr := g.cr
  have hfin := finished_p F
  have pg := grows_p 1
  have lo1 : S.lone 1024192384 = false := by kernel_rfl
  have lo2 : S.lone 1024576128 = false := by kernel_rfl
  have hlk : ∀ (blk : Blk), land blk [] 1024192000 ((RV.agg [.p .nilf, .p (.fn 46 [] []), .p (.fn 47 [] []), .p (.fn 48 [] []), .p (.fn 49 [] []), .p (.fn 50 [] []), .p (.fn 51 [] []), .p (.fn 52 [] []), .p (.fn 53 [] []), .p (.fn 54 [] []), .p (.fn 54 [] [])]).pureIf (S.lone 1024192000)) = some (.agg [.p .nilf, .p (.fn 46 [] []), .p (.fn 47 [] []), .p (.fn 48 [] []), .p (.fn 49 [] []), .p (.fn 50 [] []), .p (.fn 51 [] []), .p (.fn 52 [] []), .p (.fn 53 [] []), .p (.fn 54 [] []), .p (.fn 54 [] [])], []) := fun blk => by cases S.lone 1024192000 <;> rfl
  have hpl := pieces_len ls
  have w1 : IntKind.i64.wrap (((pieces ls).length : Int) + (growsR 1).1) = (ls.length : Int) + (growsR 1).1 := by rw [hpl]; exact wrapI (by simp only [growsR]; (try simp); try omega) (by simp only [growsR]; (try simp); try omega)
  have w2 : IntKind.i64.wrap (((cnt Let.isC ls / 2 : Nat) : Int) + (growsR 1).2) = ((cnt Let.isC ls / 2 : Nat) : Int) + (growsR 1).2 := wrapI (by simp only [growsR]; (try simp); try omega) (by simp only [growsR]; (try simp); try omega)
  have lg : ∀ blk : Blk, land blk [] 1024384128 ((RV.tup [.one (.p (.int .i64 (growsR 1).1)), .one (.p (.int .i64 (growsR 1).2))]).pureIf (S.lone 1024384128)) = some (.tup [.one (.p (.int .i64 (growsR 1).1)), .one (.p (.int .i64 (growsR 1).2))], []) := fun blk => land_tup
  unfold kR at hm
  refine PEv_fn rfl c16 (Nat.le_of_ble_eq_true rfl) ?_
  simp only [↓Rd, Rt, Rl, Rb, gP_done, dP_done, Al.all_oks, plan, binV, binInt, eqV, isNilV, app, if_true, if_false, reduceIte, Nat.reduceEqDiff, beq_self_eq_true, reduceCtorEq, ge_iff_le, resultsV, noTup, tupV, fnOf, Nat.reduceAdd, rdAt, takeV, wrAt, splice, cellsV, lenL, ne_eq, Nat.reduceLeDiff, partsV, elemsV, toPss, toPs, toP, fill, Nat.reduceMul, Nat.reduceLT, snapHsl, snapHref, i16, noBlk, s30, gP_bool ha, s31, dP_land kinds_p (hlk _), s46, frz, frzL, room, planSlice, boundOf, Nat.reduceSub, Int.reduceLT, Int.reduceAdd, Int.reduceBEq, Int.reduceBNe, Int.reduceLE, List.contains_eq_mem, frzL_nil, onesC, snap_hfn, snapHfn_some, snap_href_s, snap_hsl_s]
  refine dP_g1p hm lo1 fun cc blk1 w gc hb hw => ?_
  have b0 := hb 1024000000 (by decide)
  have b1 := hb 1024000064 (by decide)
  simp only [↓Rd, Rt, Rl, Rb, gP_done, dP_done, Al.all_oks, plan, binV, binInt, eqV, isNilV, app, if_true, if_false, reduceIte, Nat.reduceEqDiff, beq_self_eq_true, reduceCtorEq, ge_iff_le, resultsV, noTup, tupV, fnOf, Nat.reduceAdd, rdAt, takeV, wrAt, splice, cellsV, lenL, ne_eq, Nat.reduceLeDiff, partsV, elemsV, toPss, toPs, toP, fill, Nat.reduceMul, Nat.reduceLT, snapHsl, snapHref] at b0 b1
  cases res with
  | none =>
    simp only [↓Rd, Rt, Rl, Rb, gP_done, dP_done, Al.all_oks, plan, binV, binInt, eqV, isNilV, app, if_true, if_false, reduceIte, Nat.reduceEqDiff, beq_self_eq_true, reduceCtorEq, ge_iff_le, resultsV, noTup, tupV, fnOf, Nat.reduceAdd, rdAt, takeV, wrAt, splice, cellsV, lenL, ne_eq, Nat.reduceLeDiff, partsV, elemsV, toPss, toPs, toP, fill, Nat.reduceMul, Nat.reduceLT, snapHsl, snapHref, Option.isSome_none, b0, b1, frz, frzL, room, planSlice, boundOf, Nat.reduceSub, Int.reduceLT, Int.reduceAdd, Int.reduceBEq, Int.reduceBNe, Int.reduceLE, List.contains_eq_mem, frzL_nil, onesC, snap_hfn, snapHfn_some, snap_href_s, snap_hsl_s]
    refine ⟨?_, rfl⟩
    rcases hw with rfl | rfl <;> kernel_rfl
  | some L =>
    simp only [Option.getD_some] at gc
    have pfin := hfin L (hL L rfl) (.sl (pcP (pieces ls))) (.sl (fcP (facesL F ls))) (.sl (nP (leftL F ls))) (.int .i64 (cnt Let.isP ls : Nat)) (.int .i64 ((cnt Let.isC ls / 2 : Nat) : Int)) (.sl (nP (counts ls F)))
    obtain ⟨rs, hsn, _⟩ := gc.snapN
    by_cases h1 : (400 : Int) < (ls.length : Int) + (growsR 1).1
    · rw [show doR F ls 1 (some L) = rcode 7 from if_pos (.inl h1)]
      simp only [↓Rd, Rt, Rl, Rb, gP_done, dP_done, Al.all_oks, plan, binV, binInt, eqV, isNilV, app, if_true, if_false, reduceIte, Nat.reduceEqDiff, beq_self_eq_true, reduceCtorEq, ge_iff_le, resultsV, noTup, tupV, fnOf, Nat.reduceAdd, rdAt, takeV, wrAt, splice, cellsV, lenL, ne_eq, Nat.reduceLeDiff, partsV, elemsV, toPss, toPs, toP, fill, Nat.reduceMul, Nat.reduceLT, snapHsl, snapHref, Option.isSome_some, b0, b1, s32, gP_land pg (lg _), w1, w2, h1, frz, frzL, room, planSlice, boundOf, Nat.reduceSub, Int.reduceLT, Int.reduceAdd, Int.reduceBEq, Int.reduceBNe, Int.reduceLE, List.contains_eq_mem, frzL_nil, onesC, snap_hfn, snapHfn_some, snap_href_s, snap_hsl_s]
      refine ⟨?_, rfl⟩
      rcases hw with rfl | rfl <;> kernel_rfl
    · by_cases h2 : (100 : Int) < ((cnt Let.isC ls / 2 : Nat) : Int) + (growsR 1).2
      · rw [show doR F ls 1 (some L) = rcode 7 from if_pos (.inr h2)]
        simp only [↓Rd, Rt, Rl, Rb, gP_done, dP_done, Al.all_oks, plan, binV, binInt, eqV, isNilV, app, if_true, if_false, reduceIte, Nat.reduceEqDiff, beq_self_eq_true, reduceCtorEq, ge_iff_le, resultsV, noTup, tupV, fnOf, Nat.reduceAdd, rdAt, takeV, wrAt, splice, cellsV, lenL, ne_eq, Nat.reduceLeDiff, partsV, elemsV, toPss, toPs, toP, fill, Nat.reduceMul, Nat.reduceLT, snapHsl, snapHref, Option.isSome_some, b0, b1, s32, gP_land pg (lg _), w1, w2, h1, h2, frz, frzL, room, planSlice, boundOf, Nat.reduceSub, Int.reduceLT, Int.reduceAdd, Int.reduceBEq, Int.reduceBNe, Int.reduceLE, List.contains_eq_mem, frzL_nil, onesC, snap_hfn, snapHfn_some, snap_href_s, snap_hsl_s]
        refine ⟨?_, rfl⟩
        rcases hw with rfl | rfl <;> kernel_rfl
      · rw [show doR F ls 1 (some L) = rokc F (finL L) from if_neg (by rintro (h | h); exact h1 h; exact h2 h)]
        simp only [↓Rd, Rt, Rl, Rb, gP_done, dP_done, Al.all_oks, plan, binV, binInt, eqV, isNilV, app, if_true, if_false, reduceIte, Nat.reduceEqDiff, beq_self_eq_true, reduceCtorEq, ge_iff_le, resultsV, noTup, tupV, fnOf, Nat.reduceAdd, rdAt, takeV, wrAt, splice, cellsV, lenL, ne_eq, Nat.reduceLeDiff, partsV, elemsV, toPss, toPs, toP, fill, Nat.reduceMul, Nat.reduceLT, snapHsl, snapHref, Option.isSome_some, b0, b1, s32, gP_land pg (lg _), w1, w2, h1, h2, hsn, s33, frz, frzL, room, planSlice, boundOf, Nat.reduceSub, Int.reduceLT, Int.reduceAdd, Int.reduceBEq, Int.reduceBNe, Int.reduceLE, List.contains_eq_mem, frzL_nil, onesC, snap_hfn, snapHfn_some, snap_href_s, snap_hsl_s]
        refine ⟨?_, ?_⟩
        · rcases hw with rfl | rfl <;> kernel_rfl
        refine gP_gA pfin lo2 rfl (sc_let _) fun c2 blk2 gc2 hb2 => ?_
        have b02 := (hb2 1024000064 (by decide)).trans b1
        simp only [↓Rd, Rt, Rl, Rb, gP_done, dP_done, Al.all_oks, plan, binV, binInt, eqV, isNilV, app, if_true, if_false, reduceIte, Nat.reduceEqDiff, beq_self_eq_true, reduceCtorEq, ge_iff_le, resultsV, noTup, tupV, fnOf, Nat.reduceAdd, rdAt, takeV, wrAt, splice, cellsV, lenL, ne_eq, Nat.reduceLeDiff, partsV, elemsV, toPss, toPs, toP, fill, Nat.reduceMul, Nat.reduceLT, snapHsl, snapHref, b02, frz, frzL, room, planSlice, boundOf, Nat.reduceSub, Int.reduceLT, Int.reduceAdd, Int.reduceBEq, Int.reduceBNe, Int.reduceLE, List.contains_eq_mem, frzL_nil, onesC, snap_hfn, snapHfn_some, snap_href_s, snap_hsl_s]
        exact grown_outT (gc2.of_eq (upd_ne (by decide)))

theorem cut_circ {F q : Nat} (hF : F ≤ 40) (hq : q ≤ F) : PEv S 6 [codeV F (circ q), mvV 1 1 0 0 false false 0] (.tup [.agg [.p (.int .i64 F), .p .nils], .one (.p (.int .i64 0))]) := by
  have g := circ_fine hF hq
  have c1 : ((1 : Nat) : Int) = 1 := rfl
  have h1 := axisCut_p g (av := 1) (k := 1) (b := 0) (c := 0) (l := false) (o := false) (sg := 0) (by show 1 < 2; decide)
  rw [circ_ac (by omega)] at h1
  have ha := arg1_p (F := F) (ls := circ q) (av := 1) (by show 1 < 2; decide)
  rw [c1] at h1 ha
  have := apply_of g (do1_p g ha h1 (fun L h => by cases h; exact Nat.zero_le _))
  have hn : ¬ ((400 : Int) < ((circ q).length : Int) + (growsR 1).1 ∨ (100 : Int) < ((cnt Let.isC (circ q) / 2 : Nat) : Int) + (growsR 1).2) := by
    have e1 : cnt Let.isC (circ q) = 0 := rfl
    rw [e1, show (circ q).length = 2 from rfl]
    decide
  rw [show doR F (circ q) 1 (some []) = rokc F (finL []) from if_neg hn] at this
  exact this
theorem word_circ {F q : Nat} : PEv S 8 [codeV F (circ q)] (.one (.own 3 1 (nP [q, q]))) := by
  have w1 : IntKind.i64.wrap (0 + 1) = ((1 : Nat) : Int) := by decide
  refine PEv_fn rfl c8 (Nat.le_of_ble_eq_true rfl) ?_
  simp only [↓Rd, Rt, Rl, Rb, gP_done, dP_done, Al.all_oks, plan, binV, binInt, eqV, isNilV, app, if_true, if_false, reduceIte, Nat.reduceEqDiff, beq_self_eq_true, reduceCtorEq, ge_iff_le, resultsV, noTup, tupV, fnOf, Nat.reduceAdd, rdAt, takeV, wrAt, splice, cellsV, lenL, ne_eq, Nat.reduceLeDiff, partsV, elemsV, toPss, toPs, toP, fill, Nat.reduceMul, Nat.reduceLT, snapHsl, snapHref, i8, noBlk, planAppend, elemsOf, szOf, szOK, frz, frzL, room, planSlice, boundOf, Nat.reduceSub, Int.reduceLT, Int.reduceAdd, Int.reduceBEq, Int.reduceBNe, Int.reduceLE, List.contains_eq_mem, frzL_nil, onesC, snap_hfn, snapHfn_some, snap_href_s, snap_hsl_s]
  have c2 : ((2 : Nat) : Int) = 2 := rfl
  have w1 : IntKind.i64.wrap 1 = 1 := by decide
  have w2 : IntKind.i64.wrap 2 = 2 := by decide
  refine R_unroll ?_
  simp only [↓Rd, Rt, Rl, Rb, gP_done, dP_done, Al.all_oks, plan, binV, binInt, eqV, isNilV, app, if_true, if_false, reduceIte, Nat.reduceEqDiff, beq_self_eq_true, reduceCtorEq, ge_iff_le, resultsV, noTup, tupV, fnOf, Nat.reduceAdd, rdAt, takeV, wrAt, splice, cellsV, lenL, ne_eq, Nat.reduceLeDiff, partsV, elemsV, toPss, toPs, toP, fill, Nat.reduceMul, Nat.reduceLT, snapHsl, snapHref, i8_l1, c2, w1, Let.ps, planAppend, elemsOf, szOf, szOK, frz, frzL, room, planSlice, boundOf, Nat.reduceSub, Int.reduceLT, Int.reduceAdd, Int.reduceBEq, Int.reduceBNe, Int.reduceLE, List.contains_eq_mem, frzL_nil, onesC, snap_hfn, snapHfn_some, snap_href_s, snap_hsl_s]
  refine R_unroll ?_
  simp only [↓Rd, Rt, Rl, Rb, gP_done, dP_done, Al.all_oks, plan, binV, binInt, eqV, isNilV, app, if_true, if_false, reduceIte, Nat.reduceEqDiff, beq_self_eq_true, reduceCtorEq, ge_iff_le, resultsV, noTup, tupV, fnOf, Nat.reduceAdd, rdAt, takeV, wrAt, splice, cellsV, lenL, ne_eq, Nat.reduceLeDiff, partsV, elemsV, toPss, toPs, toP, fill, Nat.reduceMul, Nat.reduceLT, snapHsl, snapHref, i8_l1, c2, w2, Let.ps, planAppend, elemsOf, szOf, szOK, frz, frzL, room, planSlice, boundOf, Nat.reduceSub, Int.reduceLT, Int.reduceAdd, Int.reduceBEq, Int.reduceBNe, Int.reduceLE, List.contains_eq_mem, frzL_nil, onesC, snap_hfn, snapHfn_some, snap_href_s, snap_hsl_s]
  refine R_unroll ?_
  simp only [↓Rd, Rt, Rl, Rb, gP_done, dP_done, Al.all_oks, plan, binV, binInt, eqV, isNilV, app, if_true, if_false, reduceIte, Nat.reduceEqDiff, beq_self_eq_true, reduceCtorEq, ge_iff_le, resultsV, noTup, tupV, fnOf, Nat.reduceAdd, rdAt, takeV, wrAt, splice, cellsV, lenL, ne_eq, Nat.reduceLeDiff, partsV, elemsV, toPss, toPs, toP, fill, Nat.reduceMul, Nat.reduceLT, snapHsl, snapHref, i8_l1, i8_r2, c2, planAppend, elemsOf, szOf, szOK, frz, frzL, room, planSlice, boundOf, Nat.reduceSub, Int.reduceLT, Int.reduceAdd, Int.reduceBEq, Int.reduceBNe, Int.reduceLE, List.contains_eq_mem, frzL_nil, onesC, snap_hfn, snapHfn_some, snap_href_s, snap_hsl_s]
  rfl
theorem equal_ints (a : List Nat) (hl : a.length ≤ 1000000) : PEv S 7 [.one (.p (.sl (nP a))), .one (.p (.sl (nP a)))] (rb true) := by
  have z3 : ((a.length : Int) != (a.length : Int)) = false := by simp
  refine PEv_fn rfl c7 (Nat.le_of_ble_eq_true rfl) ?_
  simp only [↓Rd, Rt, Rl, Rb, gP_done, dP_done, Al.all_oks, plan, binV, binInt, eqV, isNilV, app, if_true, if_false, reduceIte, Nat.reduceEqDiff, beq_self_eq_true, reduceCtorEq, ge_iff_le, resultsV, noTup, tupV, fnOf, Nat.reduceAdd, rdAt, takeV, wrAt, splice, cellsV, lenL, ne_eq, Nat.reduceLeDiff, partsV, elemsV, toPss, toPs, toP, fill, Nat.reduceMul, Nat.reduceLT, snapHsl, snapHref, i7, noBlk, z3, planAppend, elemsOf, szOf, szOK, frz, frzL, room, planSlice, boundOf, Nat.reduceSub, Int.reduceLT, Int.reduceAdd, Int.reduceBEq, Int.reduceBNe, Int.reduceLE, List.contains_eq_mem, frzL_nil, onesC, snap_hfn, snapHfn_some, snap_href_s, snap_hsl_s]
  refine R_for (fun k env blk => env 0 = .one (.p (.sl (nP a))) ∧ env 1 = .one (.p (.sl (nP a))) ∧ env 5 = vi k) 0 a.length (Nat.zero_le _) ?_ ?_
  · simp only [↓Rd, Rt, Rl, Rb, gP_done, dP_done, Al.all_oks, plan, binV, binInt, eqV, isNilV, app, if_true, if_false, reduceIte, Nat.reduceEqDiff, beq_self_eq_true, reduceCtorEq, ge_iff_le, resultsV, noTup, tupV, fnOf, Nat.reduceAdd, rdAt, takeV, wrAt, splice, cellsV, lenL, ne_eq, Nat.reduceLeDiff, partsV, elemsV, toPss, toPs, toP, fill, Nat.reduceMul, Nat.reduceLT, snapHsl, snapHref]
    rfl
  · rintro k env blk hk ⟨h0, h1, h5⟩
    by_cases hlt : k < a.length
    · have hlt' : ((k : Int) < (a.length : Int)) := by omega
      have w1 := wrap_succ (n := k) (by omega)
      obtain ⟨x, hx⟩ := at_lt hlt
      have hp := nP_at hx
      have hxx : ((x : Int) != (x : Int)) = false := by simp
      simp only [↓Rd, Rt, Rl, Rb, gP_done, dP_done, Al.all_oks, plan, binV, binInt, eqV, isNilV, app, if_true, if_false, reduceIte, Nat.reduceEqDiff, beq_self_eq_true, reduceCtorEq, ge_iff_le, resultsV, noTup, tupV, fnOf, Nat.reduceAdd, rdAt, takeV, wrAt, splice, cellsV, lenL, ne_eq, Nat.reduceLeDiff, partsV, elemsV, toPss, toPs, toP, fill, Nat.reduceMul, Nat.reduceLT, snapHsl, snapHref, i7_l1, h0, h1, h5, hlt, hlt', hp, hxx, w1, planAppend, elemsOf, szOf, szOK, frz, frzL, room, planSlice, boundOf, Nat.reduceSub, Int.reduceLT, Int.reduceAdd, Int.reduceBEq, Int.reduceBNe, Int.reduceLE, List.contains_eq_mem, frzL_nil, onesC, snap_hfn, snapHfn_some, snap_href_s, snap_hsl_s]
      exact okd (by kernel_rfl)
    · have : k = a.length := by omega
      subst this
      simp only [↓Rd, Rt, Rl, Rb, gP_done, dP_done, Al.all_oks, plan, binV, binInt, eqV, isNilV, app, if_true, if_false, reduceIte, Nat.reduceEqDiff, beq_self_eq_true, reduceCtorEq, ge_iff_le, resultsV, noTup, tupV, fnOf, Nat.reduceAdd, rdAt, takeV, wrAt, splice, cellsV, lenL, ne_eq, Nat.reduceLeDiff, partsV, elemsV, toPss, toPs, toP, fill, Nat.reduceMul, Nat.reduceLT, snapHsl, snapHref, i7_l1, i7_r2, h0, h1, h5, no_more, planAppend, elemsOf, szOf, szOK, frz, frzL, room, planSlice, boundOf, Nat.reduceSub, Int.reduceLT, Int.reduceAdd, Int.reduceBEq, Int.reduceBNe, Int.reduceLE, List.contains_eq_mem, frzL_nil, onesC, snap_hfn, snapHfn_some, snap_href_s, snap_hsl_s]
theorem equal0 (F : Nat) : PEv S 9 [code0 F, code0 F] (rb true) := by
  refine PEv_fn rfl c9 (Nat.le_of_ble_eq_true rfl) ?_
  have z : (((0 : Nat) : Int) != ((0 : Nat) : Int)) = false := by decide
  have z3 : ((F : Int) != (F : Int)) = false := by simp
  simp only [↓Rd, Rt, Rl, Rb, gP_done, dP_done, Al.all_oks, plan, binV, binInt, eqV, isNilV, app, if_true, if_false, reduceIte, Nat.reduceEqDiff, beq_self_eq_true, reduceCtorEq, ge_iff_le, resultsV, noTup, tupV, fnOf, Nat.reduceAdd, rdAt, takeV, wrAt, splice, cellsV, lenL, ne_eq, Nat.reduceLeDiff, partsV, elemsV, toPss, toPs, toP, fill, Nat.reduceMul, Nat.reduceLT, snapHsl, snapHref, i9, noBlk, z, z3, planAppend, elemsOf, szOf, szOK, frz, frzL, room, planSlice, boundOf, Nat.reduceSub, Int.reduceLT, Int.reduceAdd, Int.reduceBEq, Int.reduceBNe, Int.reduceLE, List.contains_eq_mem, frzL_nil, onesC, snap_hfn, snapHfn_some, snap_href_s, snap_hsl_s]
  refine R_unroll ?_
  simp only [↓Rd, Rt, Rl, Rb, gP_done, dP_done, Al.all_oks, plan, binV, binInt, eqV, isNilV, app, if_true, if_false, reduceIte, Nat.reduceEqDiff, beq_self_eq_true, reduceCtorEq, ge_iff_le, resultsV, noTup, tupV, fnOf, Nat.reduceAdd, rdAt, takeV, wrAt, splice, cellsV, lenL, ne_eq, Nat.reduceLeDiff, partsV, elemsV, toPss, toPs, toP, fill, Nat.reduceMul, Nat.reduceLT, snapHsl, snapHref, i9_l1, i9_r2, zz, planAppend, elemsOf, szOf, szOK, frz, frzL, room, planSlice, boundOf, Nat.reduceSub, Int.reduceLT, Int.reduceAdd, Int.reduceBEq, Int.reduceBNe, Int.reduceLE, List.contains_eq_mem, frzL_nil, onesC, snap_hfn, snapHfn_some, snap_href_s, snap_hsl_s]
end Go.Abs
