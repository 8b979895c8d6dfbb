/-
  The arguments of a move, and how it is done.
-/
import Derived.Test.YtgbojgnaingofaaGreatDoorWl
set_option linter.unusedSimpArgs false
set_option linter.unusedVariables false
set_option linter.unusedSectionVars false
namespace Go.Abs
set_option maxRecDepth 100000
def isI (n : Nat) (i : Int) : Bool := decide (0 ≤ i) && decide (i < (n : Int))
theorem is_p (i : Int) (n : Nat) : PEv S 44 [vi i, .one (.p (.box [.int .i64 n]))] (rb (isI n i)) := by
  refine PEv_fn rfl c44 (Nat.le_of_ble_eq_true rfl) ?_
  unfold isI
  by_cases h1 : 0 ≤ i
  · by_cases h2 : i < (n : Int)
    · simp only [↓Rd, Rt, Rl, Rb, gP_done, dP_done, Al.all_oks, plan, binV, binInt, eqV, isNilV, app, if_true, if_false, reduceIte, Nat.reduceEqDiff, beq_self_eq_true, reduceCtorEq, ge_iff_le, resultsV, noTup, tupV, fnOf, Nat.reduceAdd, rdAt, takeV, wrAt, splice, cellsV, lenL, ne_eq, Nat.reduceLeDiff, partsV, elemsV, toPss, toPs, toP, fill, Nat.reduceMul, Nat.reduceLT, snapHsl, snapHref, i44, noBlk, h1, h2, planAppend, elemsOf, szOf, szOK, frz, frzL, room, planSlice, boundOf, Nat.reduceSub, Int.reduceLT, Int.reduceAdd, Int.reduceBEq, Int.reduceBNe, Int.reduceLE, List.contains_eq_mem, frzL_nil, onesC, snap_hfn, snapHfn_some, snap_href_s, snap_hsl_s]
    · simp only [↓Rd, Rt, Rl, Rb, gP_done, dP_done, Al.all_oks, plan, binV, binInt, eqV, isNilV, app, if_true, if_false, reduceIte, Nat.reduceEqDiff, beq_self_eq_true, reduceCtorEq, ge_iff_le, resultsV, noTup, tupV, fnOf, Nat.reduceAdd, rdAt, takeV, wrAt, splice, cellsV, lenL, ne_eq, Nat.reduceLeDiff, partsV, elemsV, toPss, toPs, toP, fill, Nat.reduceMul, Nat.reduceLT, snapHsl, snapHref, i44, noBlk, h1, h2, planAppend, elemsOf, szOf, szOK, frz, frzL, room, planSlice, boundOf, Nat.reduceSub, Int.reduceLT, Int.reduceAdd, Int.reduceBEq, Int.reduceBNe, Int.reduceLE, List.contains_eq_mem, frzL_nil, onesC, snap_hfn, snapHfn_some, snap_href_s, snap_hsl_s]
  · simp only [↓Rd, Rt, Rl, Rb, gP_done, dP_done, Al.all_oks, plan, binV, binInt, eqV, isNilV, app, if_true, if_false, reduceIte, Nat.reduceEqDiff, beq_self_eq_true, reduceCtorEq, ge_iff_le, resultsV, noTup, tupV, fnOf, Nat.reduceAdd, rdAt, takeV, wrAt, splice, cellsV, lenL, ne_eq, Nat.reduceLeDiff, partsV, elemsV, toPss, toPs, toP, fill, Nat.reduceMul, Nat.reduceLT, snapHsl, snapHref, i44, noBlk, h1, planAppend, elemsOf, szOf, szOK, frz, frzL, room, planSlice, boundOf, Nat.reduceSub, Int.reduceLT, Int.reduceAdd, Int.reduceBEq, Int.reduceBNe, Int.reduceLE, List.contains_eq_mem, frzL_nil, onesC, snap_hfn, snapHfn_some, snap_href_s, snap_hsl_s]
theorem is_t {i n : Nat} (h : i < n) : PEv S 44 [vi i, .one (.p (.box [.int .i64 n]))] (rb true) := by
  have := is_p i n
  rwa [show isI n i = true by simp [isI]; omega] at this
set_option maxHeartbeats 8000000 in
theorem arg2_p {F : Nat} {ls : List Let} {av b c : Nat} (ha : av < ls.length) (hb : b ≤ F) (hc : c ≤ cg ls b) : PEv S 30 [.one (.p (brdV F ls)), mvV 2 av b c false false 0] (rb true) := by
  have hil := is_t (i := av) (n := (pieces ls).length) (by rw [pieces_len]; exact ha)
  have hca := nP_at (counts_at (ls := ls) hb)
  have h1 : (0 : Int) ≤ (b : Int) := by omega
  have h2 : (b : Int) ≤ (F : Int) := by omega
  have h3 : (0 : Int) ≤ (c : Int) := by omega
  have h4 : (c : Int) ≤ (cg ls b : Int) := by omega
  have h5 : b < F + 1 := by omega
  have h6 : (counts ls F).length = F + 1 := by simp [counts]
  refine PEv_fn rfl c30 (Nat.le_of_ble_eq_true rfl) ?_
  simp only [↓Rd, Rt, Rl, Rb, gP_done, dP_done, Al.all_oks, plan, binV, binInt, eqV, isNilV, app, if_true, if_false, reduceIte, Nat.reduceEqDiff, beq_self_eq_true, reduceCtorEq, ge_iff_le, resultsV, noTup, tupV, fnOf, Nat.reduceAdd, rdAt, takeV, wrAt, splice, cellsV, lenL, ne_eq, Nat.reduceLeDiff, partsV, elemsV, toPss, toPs, toP, fill, Nat.reduceMul, Nat.reduceLT, snapHsl, snapHref, i30, noBlk, s44, dP_bool hil, hca, h1, h2, h3, h4, h5, h6, planAppend, elemsOf, szOf, szOK, frz, frzL, room, planSlice, boundOf, Nat.reduceSub, Int.reduceLT, Int.reduceAdd, Int.reduceBEq, Int.reduceBNe, Int.reduceLE, List.contains_eq_mem, frzL_nil, onesC, snap_hfn, snapHfn_some, snap_href_s, snap_hsl_s]
  exact okd (by kernel_rfl)
set_option maxHeartbeats 8000000 in
theorem arg5_p {F : Nat} {ls : List Let} {av : Nat} {o : Bool} {sg : Int} (ha : av < ls.length) (hs : sg = 1 ∨ sg = -1) : PEv S 30 [.one (.p (brdV F ls)), mvV 5 av 0 0 false o sg] (rb true) := by
  have hil := is_t (i := av) (n := (pieces ls).length) (by rw [pieces_len]; exact ha)
  refine PEv_fn rfl c30 (Nat.le_of_ble_eq_true rfl) ?_
  rcases hs with rfl | rfl
  · simp only [↓Rd, Rt, Rl, Rb, gP_done, dP_done, Al.all_oks, plan, binV, binInt, eqV, isNilV, app, if_true, if_false, reduceIte, Nat.reduceEqDiff, beq_self_eq_true, reduceCtorEq, ge_iff_le, resultsV, noTup, tupV, fnOf, Nat.reduceAdd, rdAt, takeV, wrAt, splice, cellsV, lenL, ne_eq, Nat.reduceLeDiff, partsV, elemsV, toPss, toPs, toP, fill, Nat.reduceMul, Nat.reduceLT, snapHsl, snapHref, i30, noBlk, s44, gP_bool hil, planAppend, elemsOf, szOf, szOK, frz, frzL, room, planSlice, boundOf, Nat.reduceSub, Int.reduceLT, Int.reduceAdd, Int.reduceBEq, Int.reduceBNe, Int.reduceLE, List.contains_eq_mem, frzL_nil, onesC, snap_hfn, snapHfn_some, snap_href_s, snap_hsl_s]
  · simp only [↓Rd, Rt, Rl, Rb, gP_done, dP_done, Al.all_oks, plan, binV, binInt, eqV, isNilV, app, if_true, if_false, reduceIte, Nat.reduceEqDiff, beq_self_eq_true, reduceCtorEq, ge_iff_le, resultsV, noTup, tupV, fnOf, Nat.reduceAdd, rdAt, takeV, wrAt, splice, cellsV, lenL, ne_eq, Nat.reduceLeDiff, partsV, elemsV, toPss, toPs, toP, fill, Nat.reduceMul, Nat.reduceLT, snapHsl, snapHref, i30, noBlk, s44, gP_bool hil, planAppend, elemsOf, szOf, szOK, frz, frzL, room, planSlice, boundOf, Nat.reduceSub, Int.reduceLT, Int.reduceAdd, Int.reduceBEq, Int.reduceBNe, Int.reduceLE, List.contains_eq_mem, frzL_nil, onesC, snap_hfn, snapHfn_some, snap_href_s, snap_hsl_s]
theorem sc_let (l : List Let) : ((letP l).all fun e => e.all PV.scalar) = true := by simp [Let.ps, PV.scalar]
abbrev rokc (F : Nat) (L : List Let) : RV := .tup [.agg [.p (.int .i64 F), grownR lsTy 6 (letP L)], .one (.p (.int .i64 0))]
def doR (F : Nat) (ls : List Let) (k : Int) : Option (List Pc) → RV
  | none => rcode 4
  | some L => if (400 : Int) < (ls.length : Int) + (growsR k).1 ∨ (100 : Int) < ((cnt Let.isC ls / 2 : Nat) : Int) + (growsR k).2 then rcode 7 else rokc F (finL L)

set_option maxHeartbeats 8000000 in
theorem do2_p {F : Nat} {ls : List Let} (g : Fine F ls) {a b c : Int} {l o : Bool} {sg : Int} {res : Option (List Pc)} (ha : PEv S 30 [.one (.p (brdV F ls)), mvV 2 a b c l o sg] (rb true)) (hm : PEv S 46 [.one (.p (brdV F ls)), mvV 2 a b c l o sg] (kR res)) (hL : ∀ L, res = some L → L.length ≤ 1000000) :
    PEv S 16 [.one (.p (brdV F ls)), mvV 2 a b c l o sg] (doR F ls 2 res) := by
  have hlen := g.len
  have hcr := g.cr
  have hfin := finished_p F
  have pg := grows_p 2
  have lo1 : S.lone 1024192384 = false := by kernel_rfl
  have lo2 : S.lone 1024576128 = false := by kernel_rfl
  have hlk : ∀ (blk : Blk), land blk [] 1024192000 ((RV.agg [.p .nilf, .p (.fn 45 [] []), .p (.fn 46 [] []), .p (.fn 47 [] []), .p (.fn 48 [] []), .p (.fn 49 [] []), .p (.fn 50 [] []), .p (.fn 51 [] []), .p (.fn 52 [] []), .p (.fn 53 [] []), .p (.fn 53 [] [])]).pureIf (S.lone 1024192000)) = some (.agg [.p .nilf, .p (.fn 45 [] []), .p (.fn 46 [] []), .p (.fn 47 [] []), .p (.fn 48 [] []), .p (.fn 49 [] []), .p (.fn 50 [] []), .p (.fn 51 [] []), .p (.fn 52 [] []), .p (.fn 53 [] []), .p (.fn 53 [] [])], []) := fun blk => by cases S.lone 1024192000 <;> rfl
  have hpl := pieces_len ls
  have w1 : IntKind.i64.wrap (((pieces ls).length : Int) + (growsR 2).1) = (ls.length : Int) + (growsR 2).1 := by rw [hpl]; exact wrapI (by simp only [growsR]; simp; omega) (by simp only [growsR]; simp; omega)
  have w2 : IntKind.i64.wrap (((cnt Let.isC ls / 2 : Nat) : Int) + (growsR 2).2) = ((cnt Let.isC ls / 2 : Nat) : Int) + (growsR 2).2 := wrapI (by simp only [growsR]; simp; omega) (by simp only [growsR]; simp; omega)
  have lg : ∀ blk : Blk, land blk [] 1024384128 ((RV.tup [.one (.p (.int .i64 (growsR 2).1)), .one (.p (.int .i64 (growsR 2).2))]).pureIf (S.lone 1024384128)) = some (.tup [.one (.p (.int .i64 (growsR 2).1)), .one (.p (.int .i64 (growsR 2).2))], []) := fun blk => land_tup
  unfold kR at hm
  refine PEv_fn rfl c16 (Nat.le_of_ble_eq_true rfl) ?_
  simp only [↓Rd, Rt, Rl, Rb, gP_done, dP_done, Al.all_oks, plan, binV, binInt, eqV, isNilV, app, if_true, if_false, reduceIte, Nat.reduceEqDiff, beq_self_eq_true, reduceCtorEq, ge_iff_le, resultsV, noTup, tupV, fnOf, Nat.reduceAdd, rdAt, takeV, wrAt, splice, cellsV, lenL, ne_eq, Nat.reduceLeDiff, partsV, elemsV, toPss, toPs, toP, fill, Nat.reduceMul, Nat.reduceLT, snapHsl, snapHref, i16, noBlk, s30, gP_bool ha, s31, dP_land kinds_p (hlk _), s46, frz, frzL, room, planSlice, boundOf, Nat.reduceSub, Int.reduceLT, Int.reduceAdd, Int.reduceBEq, Int.reduceBNe, Int.reduceLE, List.contains_eq_mem, frzL_nil, onesC, snap_hfn, snapHfn_some, snap_href_s, snap_hsl_s]
  refine dP_g1p hm lo1 fun cc blk1 w gc hb hw => ?_
  have b0 := hb 1024000000 (by decide)
  have b1 := hb 1024000064 (by decide)
  simp only [↓Rd, Rt, Rl, Rb, gP_done, dP_done, Al.all_oks, plan, binV, binInt, eqV, isNilV, app, if_true, if_false, reduceIte, Nat.reduceEqDiff, beq_self_eq_true, reduceCtorEq, ge_iff_le, resultsV, noTup, tupV, fnOf, Nat.reduceAdd, rdAt, takeV, wrAt, splice, cellsV, lenL, ne_eq, Nat.reduceLeDiff, partsV, elemsV, toPss, toPs, toP, fill, Nat.reduceMul, Nat.reduceLT, snapHsl, snapHref] at b0 b1
  cases res with
  | none =>
    simp only [↓Rd, Rt, Rl, Rb, gP_done, dP_done, Al.all_oks, plan, binV, binInt, eqV, isNilV, app, if_true, if_false, reduceIte, Nat.reduceEqDiff, beq_self_eq_true, reduceCtorEq, ge_iff_le, resultsV, noTup, tupV, fnOf, Nat.reduceAdd, rdAt, takeV, wrAt, splice, cellsV, lenL, ne_eq, Nat.reduceLeDiff, partsV, elemsV, toPss, toPs, toP, fill, Nat.reduceMul, Nat.reduceLT, snapHsl, snapHref, Option.isSome_none, b0, b1, frz, frzL, room, planSlice, boundOf, Nat.reduceSub, Int.reduceLT, Int.reduceAdd, Int.reduceBEq, Int.reduceBNe, Int.reduceLE, List.contains_eq_mem, frzL_nil, onesC, snap_hfn, snapHfn_some, snap_href_s, snap_hsl_s]
    refine ⟨?_, rfl⟩
    rcases hw with rfl | rfl <;> kernel_rfl
  | some L =>
    simp only [Option.getD_some] at gc
    have pfin := hfin L (hL L rfl) (.sl (pcP (pieces ls))) (.sl (fcP (facesL F ls))) (.sl (nP (leftL F ls))) (.int .i64 (cnt Let.isP ls : Nat)) (.int .i64 ((cnt Let.isC ls / 2 : Nat) : Int)) (.sl (nP (counts ls F)))
    obtain ⟨rs, hsn, _⟩ := gc.snapN
    by_cases h1 : (400 : Int) < (ls.length : Int) + (growsR 2).1
    · rw [show doR F ls 2 (some L) = rcode 7 from if_pos (.inl h1)]
      simp only [↓Rd, Rt, Rl, Rb, gP_done, dP_done, Al.all_oks, plan, binV, binInt, eqV, isNilV, app, if_true, if_false, reduceIte, Nat.reduceEqDiff, beq_self_eq_true, reduceCtorEq, ge_iff_le, resultsV, noTup, tupV, fnOf, Nat.reduceAdd, rdAt, takeV, wrAt, splice, cellsV, lenL, ne_eq, Nat.reduceLeDiff, partsV, elemsV, toPss, toPs, toP, fill, Nat.reduceMul, Nat.reduceLT, snapHsl, snapHref, Option.isSome_some, b0, b1, s32, gP_land pg (lg _), w1, w2, h1, frz, frzL, room, planSlice, boundOf, Nat.reduceSub, Int.reduceLT, Int.reduceAdd, Int.reduceBEq, Int.reduceBNe, Int.reduceLE, List.contains_eq_mem, frzL_nil, onesC, snap_hfn, snapHfn_some, snap_href_s, snap_hsl_s]
      refine ⟨?_, rfl⟩
      rcases hw with rfl | rfl <;> kernel_rfl
    · by_cases h2 : (100 : Int) < ((cnt Let.isC ls / 2 : Nat) : Int) + (growsR 2).2
      · rw [show doR F ls 2 (some L) = rcode 7 from if_pos (.inr h2)]
        simp only [↓Rd, Rt, Rl, Rb, gP_done, dP_done, Al.all_oks, plan, binV, binInt, eqV, isNilV, app, if_true, if_false, reduceIte, Nat.reduceEqDiff, beq_self_eq_true, reduceCtorEq, ge_iff_le, resultsV, noTup, tupV, fnOf, Nat.reduceAdd, rdAt, takeV, wrAt, splice, cellsV, lenL, ne_eq, Nat.reduceLeDiff, partsV, elemsV, toPss, toPs, toP, fill, Nat.reduceMul, Nat.reduceLT, snapHsl, snapHref, Option.isSome_some, b0, b1, s32, gP_land pg (lg _), w1, w2, h1, h2, frz, frzL, room, planSlice, boundOf, Nat.reduceSub, Int.reduceLT, Int.reduceAdd, Int.reduceBEq, Int.reduceBNe, Int.reduceLE, List.contains_eq_mem, frzL_nil, onesC, snap_hfn, snapHfn_some, snap_href_s, snap_hsl_s]
        refine ⟨?_, rfl⟩
        rcases hw with rfl | rfl <;> kernel_rfl
      · rw [show doR F ls 2 (some L) = rokc F (finL L) from if_neg (by rintro (h | h); exact h1 h; exact h2 h)]
        simp only [↓Rd, Rt, Rl, Rb, gP_done, dP_done, Al.all_oks, plan, binV, binInt, eqV, isNilV, app, if_true, if_false, reduceIte, Nat.reduceEqDiff, beq_self_eq_true, reduceCtorEq, ge_iff_le, resultsV, noTup, tupV, fnOf, Nat.reduceAdd, rdAt, takeV, wrAt, splice, cellsV, lenL, ne_eq, Nat.reduceLeDiff, partsV, elemsV, toPss, toPs, toP, fill, Nat.reduceMul, Nat.reduceLT, snapHsl, snapHref, Option.isSome_some, b0, b1, s32, gP_land pg (lg _), w1, w2, h1, h2, hsn, s33, frz, frzL, room, planSlice, boundOf, Nat.reduceSub, Int.reduceLT, Int.reduceAdd, Int.reduceBEq, Int.reduceBNe, Int.reduceLE, List.contains_eq_mem, frzL_nil, onesC, snap_hfn, snapHfn_some, snap_href_s, snap_hsl_s]
        refine ⟨?_, ?_⟩
        · rcases hw with rfl | rfl <;> kernel_rfl
        refine gP_gA pfin lo2 rfl (sc_let _) fun c2 blk2 gc2 hb2 => ?_
        have b02 := (hb2 1024000064 (by decide)).trans b1
        simp only [↓Rd, Rt, Rl, Rb, gP_done, dP_done, Al.all_oks, plan, binV, binInt, eqV, isNilV, app, if_true, if_false, reduceIte, Nat.reduceEqDiff, beq_self_eq_true, reduceCtorEq, ge_iff_le, resultsV, noTup, tupV, fnOf, Nat.reduceAdd, rdAt, takeV, wrAt, splice, cellsV, lenL, ne_eq, Nat.reduceLeDiff, partsV, elemsV, toPss, toPs, toP, fill, Nat.reduceMul, Nat.reduceLT, snapHsl, snapHref, b02, frz, frzL, room, planSlice, boundOf, Nat.reduceSub, Int.reduceLT, Int.reduceAdd, Int.reduceBEq, Int.reduceBNe, Int.reduceLE, List.contains_eq_mem, frzL_nil, onesC, snap_hfn, snapHfn_some, snap_href_s, snap_hsl_s]
        exact grown_outT (gc2.of_eq (upd_ne (by decide)))

set_option maxHeartbeats 8000000 in
theorem do5_p {F : Nat} {ls : List Let} (g : Fine F ls) {a b c : Int} {l o : Bool} {sg : Int} {res : Option (List Pc)} (ha : PEv S 30 [.one (.p (brdV F ls)), mvV 5 a b c l o sg] (rb true)) (hm : PEv S 49 [.one (.p (brdV F ls)), mvV 5 a b c l o sg] (kR res)) (hL : ∀ L, res = some L → L.length ≤ 1000000) :
    PEv S 16 [.one (.p (brdV F ls)), mvV 5 a b c l o sg] (doR F ls 5 res) := by
  have hlen := g.len
  have hcr := g.cr
  have hfin := finished_p F
  have pg := grows_p 5
  have lo1 : S.lone 1024192384 = false := by kernel_rfl
  have lo2 : S.lone 1024576128 = false := by kernel_rfl
  have hlk : ∀ (blk : Blk), land blk [] 1024192000 ((RV.agg [.p .nilf, .p (.fn 45 [] []), .p (.fn 46 [] []), .p (.fn 47 [] []), .p (.fn 48 [] []), .p (.fn 49 [] []), .p (.fn 50 [] []), .p (.fn 51 [] []), .p (.fn 52 [] []), .p (.fn 53 [] []), .p (.fn 53 [] [])]).pureIf (S.lone 1024192000)) = some (.agg [.p .nilf, .p (.fn 45 [] []), .p (.fn 46 [] []), .p (.fn 47 [] []), .p (.fn 48 [] []), .p (.fn 49 [] []), .p (.fn 50 [] []), .p (.fn 51 [] []), .p (.fn 52 [] []), .p (.fn 53 [] []), .p (.fn 53 [] [])], []) := fun blk => by cases S.lone 1024192000 <;> rfl
  have hpl := pieces_len ls
  have w1 : IntKind.i64.wrap (((pieces ls).length : Int) + (growsR 5).1) = (ls.length : Int) + (growsR 5).1 := by rw [hpl]; exact wrapI (by simp only [growsR]; simp; omega) (by simp only [growsR]; simp; omega)
  have w2 : IntKind.i64.wrap (((cnt Let.isC ls / 2 : Nat) : Int) + (growsR 5).2) = ((cnt Let.isC ls / 2 : Nat) : Int) + (growsR 5).2 := wrapI (by simp only [growsR]; simp; omega) (by simp only [growsR]; simp; omega)
  have lg : ∀ blk : Blk, land blk [] 1024384128 ((RV.tup [.one (.p (.int .i64 (growsR 5).1)), .one (.p (.int .i64 (growsR 5).2))]).pureIf (S.lone 1024384128)) = some (.tup [.one (.p (.int .i64 (growsR 5).1)), .one (.p (.int .i64 (growsR 5).2))], []) := fun blk => land_tup
  unfold kR at hm
  refine PEv_fn rfl c16 (Nat.le_of_ble_eq_true rfl) ?_
  simp only [↓Rd, Rt, Rl, Rb, gP_done, dP_done, Al.all_oks, plan, binV, binInt, eqV, isNilV, app, if_true, if_false, reduceIte, Nat.reduceEqDiff, beq_self_eq_true, reduceCtorEq, ge_iff_le, resultsV, noTup, tupV, fnOf, Nat.reduceAdd, rdAt, takeV, wrAt, splice, cellsV, lenL, ne_eq, Nat.reduceLeDiff, partsV, elemsV, toPss, toPs, toP, fill, Nat.reduceMul, Nat.reduceLT, snapHsl, snapHref, i16, noBlk, s30, gP_bool ha, s31, dP_land kinds_p (hlk _), s49, frz, frzL, room, planSlice, boundOf, Nat.reduceSub, Int.reduceLT, Int.reduceAdd, Int.reduceBEq, Int.reduceBNe, Int.reduceLE, List.contains_eq_mem, frzL_nil, onesC, snap_hfn, snapHfn_some, snap_href_s, snap_hsl_s]
  refine dP_g1p hm lo1 fun cc blk1 w gc hb hw => ?_
  have b0 := hb 1024000000 (by decide)
  have b1 := hb 1024000064 (by decide)
  simp only [↓Rd, Rt, Rl, Rb, gP_done, dP_done, Al.all_oks, plan, binV, binInt, eqV, isNilV, app, if_true, if_false, reduceIte, Nat.reduceEqDiff, beq_self_eq_true, reduceCtorEq, ge_iff_le, resultsV, noTup, tupV, fnOf, Nat.reduceAdd, rdAt, takeV, wrAt, splice, cellsV, lenL, ne_eq, Nat.reduceLeDiff, partsV, elemsV, toPss, toPs, toP, fill, Nat.reduceMul, Nat.reduceLT, snapHsl, snapHref] at b0 b1
  cases res with
  | none =>
    simp only [↓Rd, Rt, Rl, Rb, gP_done, dP_done, Al.all_oks, plan, binV, binInt, eqV, isNilV, app, if_true, if_false, reduceIte, Nat.reduceEqDiff, beq_self_eq_true, reduceCtorEq, ge_iff_le, resultsV, noTup, tupV, fnOf, Nat.reduceAdd, rdAt, takeV, wrAt, splice, cellsV, lenL, ne_eq, Nat.reduceLeDiff, partsV, elemsV, toPss, toPs, toP, fill, Nat.reduceMul, Nat.reduceLT, snapHsl, snapHref, Option.isSome_none, b0, b1, frz, frzL, room, planSlice, boundOf, Nat.reduceSub, Int.reduceLT, Int.reduceAdd, Int.reduceBEq, Int.reduceBNe, Int.reduceLE, List.contains_eq_mem, frzL_nil, onesC, snap_hfn, snapHfn_some, snap_href_s, snap_hsl_s]
    refine ⟨?_, rfl⟩
    rcases hw with rfl | rfl <;> kernel_rfl
  | some L =>
    simp only [Option.getD_some] at gc
    have pfin := hfin L (hL L rfl) (.sl (pcP (pieces ls))) (.sl (fcP (facesL F ls))) (.sl (nP (leftL F ls))) (.int .i64 (cnt Let.isP ls : Nat)) (.int .i64 ((cnt Let.isC ls / 2 : Nat) : Int)) (.sl (nP (counts ls F)))
    obtain ⟨rs, hsn, _⟩ := gc.snapN
    by_cases h1 : (400 : Int) < (ls.length : Int) + (growsR 5).1
    · rw [show doR F ls 5 (some L) = rcode 7 from if_pos (.inl h1)]
      simp only [↓Rd, Rt, Rl, Rb, gP_done, dP_done, Al.all_oks, plan, binV, binInt, eqV, isNilV, app, if_true, if_false, reduceIte, Nat.reduceEqDiff, beq_self_eq_true, reduceCtorEq, ge_iff_le, resultsV, noTup, tupV, fnOf, Nat.reduceAdd, rdAt, takeV, wrAt, splice, cellsV, lenL, ne_eq, Nat.reduceLeDiff, partsV, elemsV, toPss, toPs, toP, fill, Nat.reduceMul, Nat.reduceLT, snapHsl, snapHref, Option.isSome_some, b0, b1, s32, gP_land pg (lg _), w1, w2, h1, frz, frzL, room, planSlice, boundOf, Nat.reduceSub, Int.reduceLT, Int.reduceAdd, Int.reduceBEq, Int.reduceBNe, Int.reduceLE, List.contains_eq_mem, frzL_nil, onesC, snap_hfn, snapHfn_some, snap_href_s, snap_hsl_s]
      refine ⟨?_, rfl⟩
      rcases hw with rfl | rfl <;> kernel_rfl
    · by_cases h2 : (100 : Int) < ((cnt Let.isC ls / 2 : Nat) : Int) + (growsR 5).2
      · rw [show doR F ls 5 (some L) = rcode 7 from if_pos (.inr h2)]
        simp only [↓Rd, Rt, Rl, Rb, gP_done, dP_done, Al.all_oks, plan, binV, binInt, eqV, isNilV, app, if_true, if_false, reduceIte, Nat.reduceEqDiff, beq_self_eq_true, reduceCtorEq, ge_iff_le, resultsV, noTup, tupV, fnOf, Nat.reduceAdd, rdAt, takeV, wrAt, splice, cellsV, lenL, ne_eq, Nat.reduceLeDiff, partsV, elemsV, toPss, toPs, toP, fill, Nat.reduceMul, Nat.reduceLT, snapHsl, snapHref, Option.isSome_some, b0, b1, s32, gP_land pg (lg _), w1, w2, h1, h2, frz, frzL, room, planSlice, boundOf, Nat.reduceSub, Int.reduceLT, Int.reduceAdd, Int.reduceBEq, Int.reduceBNe, Int.reduceLE, List.contains_eq_mem, frzL_nil, onesC, snap_hfn, snapHfn_some, snap_href_s, snap_hsl_s]
        refine ⟨?_, rfl⟩
        rcases hw with rfl | rfl <;> kernel_rfl
      · rw [show doR F ls 5 (some L) = rokc F (finL L) from if_neg (by rintro (h | h); exact h1 h; exact h2 h)]
        simp only [↓Rd, Rt, Rl, Rb, gP_done, dP_done, Al.all_oks, plan, binV, binInt, eqV, isNilV, app, if_true, if_false, reduceIte, Nat.reduceEqDiff, beq_self_eq_true, reduceCtorEq, ge_iff_le, resultsV, noTup, tupV, fnOf, Nat.reduceAdd, rdAt, takeV, wrAt, splice, cellsV, lenL, ne_eq, Nat.reduceLeDiff, partsV, elemsV, toPss, toPs, toP, fill, Nat.reduceMul, Nat.reduceLT, snapHsl, snapHref, Option.isSome_some, b0, b1, s32, gP_land pg (lg _), w1, w2, h1, h2, hsn, s33, frz, frzL, room, planSlice, boundOf, Nat.reduceSub, Int.reduceLT, Int.reduceAdd, Int.reduceBEq, Int.reduceBNe, Int.reduceLE, List.contains_eq_mem, frzL_nil, onesC, snap_hfn, snapHfn_some, snap_href_s, snap_hsl_s]
        refine ⟨?_, ?_⟩
        · rcases hw with rfl | rfl <;> kernel_rfl
        refine gP_gA pfin lo2 rfl (sc_let _) fun c2 blk2 gc2 hb2 => ?_
        have b02 := (hb2 1024000064 (by decide)).trans b1
        simp only [↓Rd, Rt, Rl, Rb, gP_done, dP_done, Al.all_oks, plan, binV, binInt, eqV, isNilV, app, if_true, if_false, reduceIte, Nat.reduceEqDiff, beq_self_eq_true, reduceCtorEq, ge_iff_le, resultsV, noTup, tupV, fnOf, Nat.reduceAdd, rdAt, takeV, wrAt, splice, cellsV, lenL, ne_eq, Nat.reduceLeDiff, partsV, elemsV, toPss, toPs, toP, fill, Nat.reduceMul, Nat.reduceLT, snapHsl, snapHref, b02, frz, frzL, room, planSlice, boundOf, Nat.reduceSub, Int.reduceLT, Int.reduceAdd, Int.reduceBEq, Int.reduceBNe, Int.reduceLE, List.contains_eq_mem, frzL_nil, onesC, snap_hfn, snapHfn_some, snap_href_s, snap_hsl_s]
        exact grown_outT (gc2.of_eq (upd_ne (by decide)))
end Go.Abs
