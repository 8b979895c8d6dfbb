/-
  How a move of the code without letters is done.
-/
import Derived.Test.YtdfaoeikkkfkoaaGreatDoorWq
set_option linter.unusedSimpArgs false
set_option linter.unusedVariables false
set_option linter.unusedSectionVars false
namespace Go.Abs
set_option maxRecDepth 100000
section
variable {F : Nat}
theorem wz1 : IntKind.i64.wrap (1 : Int) = 1 := by decide
theorem wz2 : IntKind.i64.wrap (2 : Int) = 2 := by decide
abbrev brd0 (F : Nat) : V := .one (.p (.box [.int .i64 F, .sl [], .sl [], .sl [], .int .i64 ((0 : Nat) : Int), .int .i64 ((0 : Nat) : Int), .sl (nP (counts [] F))]))
set_option maxHeartbeats 8000000 in
theorem arg0_p {b : Nat} (hb : b ≤ F) : PEv S 30 [brd0 F, mvV 2 0 b 0 false false 0] (rb true) := by
  have hil : PEv S 45 [vi 0, .one (.p (.box [.int .i64 ((0 : Nat) : Int)]))] (rb false) := is_p 0 0
  have hca := nP_at (counts_at (ls := []) hb)
  have h1 : (0 : Int) ≤ (b : Int) := by omega
  have h2 : (b : Int) ≤ (F : Int) := by omega
  have h4 : (0 : Int) ≤ (cg [] b : Int) := by omega
  have h5 : b < F + 1 := by omega
  have h6 : (counts [] F).length = F + 1 := by simp [counts]
  have h7 : (((0 : Nat) : Int) == 0) = true := by decide
  refine PEv_fn rfl c30 (Nat.le_of_ble_eq_true rfl) ?_
  simp only [↓Rd, Rt, Rl, Rb, gP_done, dP_done, Al.all_oks, plan, binV, binInt, eqV, isNilV, app, if_true, if_false, reduceIte, Nat.reduceEqDiff, beq_self_eq_true, reduceCtorEq, ge_iff_le, resultsV, noTup, tupV, fnOf, Nat.reduceAdd, rdAt, takeV, wrAt, splice, cellsV, lenL, ne_eq, Nat.reduceLeDiff, partsV, elemsV, toPss, toPs, toP, fill, Nat.reduceMul, Nat.reduceLT, snapHsl, snapHref, i30, noBlk, s45, dP_bool hil, gP_bool hil, hca, h1, h2, h4, h5, h6, h7, planAppend, elemsOf, szOf, szOK, frz, frzL, room, planSlice, boundOf, Nat.reduceSub, Int.reduceLT, Int.reduceAdd, Int.reduceBEq, Int.reduceBNe, Int.reduceLE, List.contains_eq_mem, frzL_nil, onesC, snap_hfn, snapHfn_some, snap_href_s, snap_hsl_s]
  exact okd (by kernel_rfl)
abbrev circP (b : Nat) : List Pc := [⟨⟨1, b, 1, 0, 0, false⟩, true⟩, ⟨⟨1, b, 2, 0, 0, false⟩, false⟩]
set_option maxHeartbeats 8000000 in
theorem axisMake0 {b : Nat} {l o : Bool} {sg : Int} : PEv S 47 [brd0 F, mvV 2 0 b 0 l o sg] (kR (some (circP b))) := by
  have h7 : (((0 : Nat) : Int) == 0) = true := by decide
  refine PEv_fn rfl c47 (Nat.le_of_ble_eq_true rfl) ?_
  simp only [↓Rd, Rt, Rl, Rb, gP_done, dP_done, Al.all_oks, plan, binV, binInt, eqV, isNilV, app, if_true, if_false, reduceIte, Nat.reduceEqDiff, beq_self_eq_true, reduceCtorEq, ge_iff_le, resultsV, noTup, tupV, fnOf, Nat.reduceAdd, rdAt, takeV, wrAt, splice, cellsV, lenL, ne_eq, Nat.reduceLeDiff, partsV, elemsV, toPss, toPs, toP, fill, Nat.reduceMul, Nat.reduceLT, snapHsl, snapHref, i47, noBlk, h7, wz1, wz2, planAppend, elemsOf, szOf, szOK, frz, frzL, room, planSlice, boundOf, Nat.reduceSub, Int.reduceLT, Int.reduceAdd, Int.reduceBEq, Int.reduceBNe, Int.reduceLE, List.contains_eq_mem, frzL_nil, onesC, snap_hfn, snapHfn_some, snap_href_s, snap_hsl_s]
  rfl
end

set_option maxHeartbeats 8000000 in
theorem do2_z {F : Nat} {ls : List Let} (hlen : ls.length ≤ 400) (hcr : cnt Let.isC ls ≤ 200) {a b c : Int} {l o : Bool} {sg : Int} {res : Option (List Pc)} (ha : PEv S 30 [.one (.p (brdV F ls)), mvV 2 a b c l o sg] (rb true)) (hm : PEv S 47 [.one (.p (brdV F ls)), mvV 2 a b c l o sg] (kR res)) (hL : ∀ L, res = some L → L.length ≤ 1000000) :
    PEv S 16 [.one (.p (brdV F ls)), mvV 2 a b c l o sg] (doR F ls 2 res) := by
  have hfin := finished_p F
  have pg := grows_p 2
  have lo1 : S.lone 1024192384 = false := by kernel_rfl
  have lo2 : S.lone 1024576128 = false := by kernel_rfl
  have hlk : ∀ (blk : Blk), land blk [] 1024192000 ((RV.agg [.p .nilf, .p (.fn 46 [] []), .p (.fn 47 [] []), .p (.fn 48 [] []), .p (.fn 49 [] []), .p (.fn 50 [] []), .p (.fn 51 [] []), .p (.fn 52 [] []), .p (.fn 53 [] []), .p (.fn 54 [] []), .p (.fn 54 [] [])]).pureIf (S.lone 1024192000)) = some (.agg [.p .nilf, .p (.fn 46 [] []), .p (.fn 47 [] []), .p (.fn 48 [] []), .p (.fn 49 [] []), .p (.fn 50 [] []), .p (.fn 51 [] []), .p (.fn 52 [] []), .p (.fn 53 [] []), .p (.fn 54 [] []), .p (.fn 54 [] [])], []) := fun blk => by cases S.lone 1024192000 <;> rfl
  have hpl := pieces_len ls
  have w1 : IntKind.i64.wrap (((pieces ls).length : Int) + (growsR 2).1) = (ls.length : Int) + (growsR 2).1 := by rw [hpl]; exact wrapI (by simp only [growsR]; simp; omega) (by simp only [growsR]; simp; omega)
  have w2 : IntKind.i64.wrap (((cnt Let.isC ls / 2 : Nat) : Int) + (growsR 2).2) = ((cnt Let.isC ls / 2 : Nat) : Int) + (growsR 2).2 := wrapI (by simp only [growsR]; simp; omega) (by simp only [growsR]; simp; omega)
  have lg : ∀ blk : Blk, land blk [] 1024384128 ((RV.tup [.one (.p (.int .i64 (growsR 2).1)), .one (.p (.int .i64 (growsR 2).2))]).pureIf (S.lone 1024384128)) = some (.tup [.one (.p (.int .i64 (growsR 2).1)), .one (.p (.int .i64 (growsR 2).2))], []) := fun blk => land_tup
  unfold kR at hm
  refine PEv_fn rfl c16 (Nat.le_of_ble_eq_true rfl) ?_
  simp only [↓Rd, Rt, Rl, Rb, gP_done, dP_done, Al.all_oks, plan, binV, binInt, eqV, isNilV, app, if_true, if_false, reduceIte, Nat.reduceEqDiff, beq_self_eq_true, reduceCtorEq, ge_iff_le, resultsV, noTup, tupV, fnOf, Nat.reduceAdd, rdAt, takeV, wrAt, splice, cellsV, lenL, ne_eq, Nat.reduceLeDiff, partsV, elemsV, toPss, toPs, toP, fill, Nat.reduceMul, Nat.reduceLT, snapHsl, snapHref, i16, noBlk, s30, gP_bool ha, s31, dP_land kinds_p (hlk _), s47, frz, frzL, room, planSlice, boundOf, Nat.reduceSub, Int.reduceLT, Int.reduceAdd, Int.reduceBEq, Int.reduceBNe, Int.reduceLE, List.contains_eq_mem, frzL_nil, onesC, snap_hfn, snapHfn_some, snap_href_s, snap_hsl_s]
  refine dP_g1p hm lo1 fun cc blk1 w gc hb hw => ?_
  have b0 := hb 1024000000 (by decide)
  have b1 := hb 1024000064 (by decide)
  simp only [↓Rd, Rt, Rl, Rb, gP_done, dP_done, Al.all_oks, plan, binV, binInt, eqV, isNilV, app, if_true, if_false, reduceIte, Nat.reduceEqDiff, beq_self_eq_true, reduceCtorEq, ge_iff_le, resultsV, noTup, tupV, fnOf, Nat.reduceAdd, rdAt, takeV, wrAt, splice, cellsV, lenL, ne_eq, Nat.reduceLeDiff, partsV, elemsV, toPss, toPs, toP, fill, Nat.reduceMul, Nat.reduceLT, snapHsl, snapHref] at b0 b1
  cases res with
  | none =>
    simp only [↓Rd, Rt, Rl, Rb, gP_done, dP_done, Al.all_oks, plan, binV, binInt, eqV, isNilV, app, if_true, if_false, reduceIte, Nat.reduceEqDiff, beq_self_eq_true, reduceCtorEq, ge_iff_le, resultsV, noTup, tupV, fnOf, Nat.reduceAdd, rdAt, takeV, wrAt, splice, cellsV, lenL, ne_eq, Nat.reduceLeDiff, partsV, elemsV, toPss, toPs, toP, fill, Nat.reduceMul, Nat.reduceLT, snapHsl, snapHref, Option.isSome_none, b0, b1, frz, frzL, room, planSlice, boundOf, Nat.reduceSub, Int.reduceLT, Int.reduceAdd, Int.reduceBEq, Int.reduceBNe, Int.reduceLE, List.contains_eq_mem, frzL_nil, onesC, snap_hfn, snapHfn_some, snap_href_s, snap_hsl_s]
    refine ⟨?_, rfl⟩
    rcases hw with rfl | rfl <;> kernel_rfl
  | some L =>
    simp only [Option.getD_some] at gc
    have pfin := hfin L (hL L rfl) (.sl (pcP (pieces ls))) (.sl (fcP (facesL F ls))) (.sl (nP (leftL F ls))) (.int .i64 (cnt Let.isP ls : Nat)) (.int .i64 ((cnt Let.isC ls / 2 : Nat) : Int)) (.sl (nP (counts ls F)))
    obtain ⟨rs, hsn, _⟩ := gc.snapN
    by_cases h1 : (400 : Int) < (ls.length : Int) + (growsR 2).1
    · rw [show doR F ls 2 (some L) = rcode 7 from if_pos (.inl h1)]
      simp only [↓Rd, Rt, Rl, Rb, gP_done, dP_done, Al.all_oks, plan, binV, binInt, eqV, isNilV, app, if_true, if_false, reduceIte, Nat.reduceEqDiff, beq_self_eq_true, reduceCtorEq, ge_iff_le, resultsV, noTup, tupV, fnOf, Nat.reduceAdd, rdAt, takeV, wrAt, splice, cellsV, lenL, ne_eq, Nat.reduceLeDiff, partsV, elemsV, toPss, toPs, toP, fill, Nat.reduceMul, Nat.reduceLT, snapHsl, snapHref, Option.isSome_some, b0, b1, s32, gP_land pg (lg _), w1, w2, h1, frz, frzL, room, planSlice, boundOf, Nat.reduceSub, Int.reduceLT, Int.reduceAdd, Int.reduceBEq, Int.reduceBNe, Int.reduceLE, List.contains_eq_mem, frzL_nil, onesC, snap_hfn, snapHfn_some, snap_href_s, snap_hsl_s]
      refine ⟨?_, rfl⟩
      rcases hw with rfl | rfl <;> kernel_rfl
    · by_cases h2 : (100 : Int) < ((cnt Let.isC ls / 2 : Nat) : Int) + (growsR 2).2
      · rw [show doR F ls 2 (some L) = rcode 7 from if_pos (.inr h2)]
        simp only [↓Rd, Rt, Rl, Rb, gP_done, dP_done, Al.all_oks, plan, binV, binInt, eqV, isNilV, app, if_true, if_false, reduceIte, Nat.reduceEqDiff, beq_self_eq_true, reduceCtorEq, ge_iff_le, resultsV, noTup, tupV, fnOf, Nat.reduceAdd, rdAt, takeV, wrAt, splice, cellsV, lenL, ne_eq, Nat.reduceLeDiff, partsV, elemsV, toPss, toPs, toP, fill, Nat.reduceMul, Nat.reduceLT, snapHsl, snapHref, Option.isSome_some, b0, b1, s32, gP_land pg (lg _), w1, w2, h1, h2, frz, frzL, room, planSlice, boundOf, Nat.reduceSub, Int.reduceLT, Int.reduceAdd, Int.reduceBEq, Int.reduceBNe, Int.reduceLE, List.contains_eq_mem, frzL_nil, onesC, snap_hfn, snapHfn_some, snap_href_s, snap_hsl_s]
        refine ⟨?_, rfl⟩
        rcases hw with rfl | rfl <;> kernel_rfl
      · rw [show doR F ls 2 (some L) = rokc F (finL L) from if_neg (by rintro (h | h); exact h1 h; exact h2 h)]
        simp only [↓Rd, Rt, Rl, Rb, gP_done, dP_done, Al.all_oks, plan, binV, binInt, eqV, isNilV, app, if_true, if_false, reduceIte, Nat.reduceEqDiff, beq_self_eq_true, reduceCtorEq, ge_iff_le, resultsV, noTup, tupV, fnOf, Nat.reduceAdd, rdAt, takeV, wrAt, splice, cellsV, lenL, ne_eq, Nat.reduceLeDiff, partsV, elemsV, toPss, toPs, toP, fill, Nat.reduceMul, Nat.reduceLT, snapHsl, snapHref, Option.isSome_some, b0, b1, s32, gP_land pg (lg _), w1, w2, h1, h2, hsn, s33, frz, frzL, room, planSlice, boundOf, Nat.reduceSub, Int.reduceLT, Int.reduceAdd, Int.reduceBEq, Int.reduceBNe, Int.reduceLE, List.contains_eq_mem, frzL_nil, onesC, snap_hfn, snapHfn_some, snap_href_s, snap_hsl_s]
        refine ⟨?_, ?_⟩
        · rcases hw with rfl | rfl <;> kernel_rfl
        refine gP_gA pfin lo2 rfl (sc_let _) fun c2 blk2 gc2 hb2 => ?_
        have b02 := (hb2 1024000064 (by decide)).trans b1
        simp only [↓Rd, Rt, Rl, Rb, gP_done, dP_done, Al.all_oks, plan, binV, binInt, eqV, isNilV, app, if_true, if_false, reduceIte, Nat.reduceEqDiff, beq_self_eq_true, reduceCtorEq, ge_iff_le, resultsV, noTup, tupV, fnOf, Nat.reduceAdd, rdAt, takeV, wrAt, splice, cellsV, lenL, ne_eq, Nat.reduceLeDiff, partsV, elemsV, toPss, toPs, toP, fill, Nat.reduceMul, Nat.reduceLT, snapHsl, snapHref, b02, frz, frzL, room, planSlice, boundOf, Nat.reduceSub, Int.reduceLT, Int.reduceAdd, Int.reduceBEq, Int.reduceBNe, Int.reduceLE, List.contains_eq_mem, frzL_nil, onesC, snap_hfn, snapHfn_some, snap_href_s, snap_hsl_s]
        exact grown_outT (gc2.of_eq (upd_ne (by decide)))

/-- a circle -/
abbrev circ (b : Nat) : List Let := [⟨1, b, 1, 0, 0, false⟩, ⟨1, b, 2, 0, 0, false⟩]
theorem circ_fin (b : Nat) : finL (circP b) = circ b := by
  unfold finL
  rw [show firstD (circP b) = some 0 from rfl]
  rfl
theorem doR0 (F b : Nat) : doR F [] 2 (some (circP b)) = rokc F (circ b) := by
  rw [← circ_fin]
  rfl
theorem do0_p {F b : Nat} (hb : b ≤ F) : PEv S 16 [brd0 F, mvV 2 0 b 0 false false 0] (rokc F (circ b)) := by
  have := do2_z (F := F) (ls := []) (by decide) (by decide) (a := 0) (b := b) (c := 0) (l := false) (o := false) (sg := 0) (res := some (circP b)) (arg0_p hb) axisMake0 (fun L h => by cases h; exact (by simp : (circP b).length ≤ 1000000))
  rw [doR0] at this
  exact this
theorem apply0_p {F b : Nat} (hF : F ≤ 40) (hb : b ≤ F) : PEv S 6 [code0 F, mvV 2 0 b 0 false false 0] (rokc F (circ b)) := by
  have po : PEv S 15 [code0 F] (rtup (.box [.int .i64 F, .sl [], .sl [], .sl [], .int .i64 ((0 : Nat) : Int), .int .i64 ((0 : Nat) : Int), .sl (nP (counts [] F))]) (.int .i64 0)) := open0 hF
  have hd := do0_p hb
  have lo : S.lone 384256128 = false := by kernel_rfl
  refine PEv_fn rfl c6 (Nat.le_of_ble_eq_true rfl) ?_
  simp only [↓Rd, Rt, Rl, Rb, gP_done, dP_done, Al.all_oks, plan, binV, binInt, eqV, isNilV, app, if_true, if_false, reduceIte, Nat.reduceEqDiff, beq_self_eq_true, reduceCtorEq, ge_iff_le, resultsV, noTup, tupV, fnOf, Nat.reduceAdd, rdAt, takeV, wrAt, splice, cellsV, lenL, ne_eq, Nat.reduceLeDiff, partsV, elemsV, toPss, toPs, toP, fill, Nat.reduceMul, Nat.reduceLT, snapHsl, snapHref, i6, noBlk, s15, gP_land po land_tup, s16, frz, frzL, room, planSlice, boundOf, Nat.reduceSub, Int.reduceLT, Int.reduceAdd, Int.reduceBEq, Int.reduceBNe, Int.reduceLE, List.contains_eq_mem, frzL_nil, onesC, snap_hfn, snapHfn_some, snap_href_s, snap_hsl_s]
  refine gP_gT hd lo fun cc blk1 gc hb => ?_
  have b4 := hb 384000128 (by decide)
  simp only [↓Rd, Rt, Rl, Rb, gP_done, dP_done, Al.all_oks, plan, binV, binInt, eqV, isNilV, app, if_true, if_false, reduceIte, Nat.reduceEqDiff, beq_self_eq_true, reduceCtorEq, ge_iff_le, resultsV, noTup, tupV, fnOf, Nat.reduceAdd, rdAt, takeV, wrAt, splice, cellsV, lenL, ne_eq, Nat.reduceLeDiff, partsV, elemsV, toPss, toPs, toP, fill, Nat.reduceMul, Nat.reduceLT, snapHsl, snapHref] at b4
  simp only [↓Rd, Rt, Rl, Rb, gP_done, dP_done, Al.all_oks, plan, binV, binInt, eqV, isNilV, app, if_true, if_false, reduceIte, Nat.reduceEqDiff, beq_self_eq_true, reduceCtorEq, ge_iff_le, resultsV, noTup, tupV, fnOf, Nat.reduceAdd, rdAt, takeV, wrAt, splice, cellsV, lenL, ne_eq, Nat.reduceLeDiff, partsV, elemsV, toPss, toPs, toP, fill, Nat.reduceMul, Nat.reduceLT, snapHsl, snapHref, b4, frz, frzL, room, planSlice, boundOf, Nat.reduceSub, Int.reduceLT, Int.reduceAdd, Int.reduceBEq, Int.reduceBNe, Int.reduceLE, List.contains_eq_mem, frzL_nil, onesC, snap_hfn, snapHfn_some, snap_href_s, snap_hsl_s]
  exact grown_outT (gc.of_eq (upd_ne (by decide)))
end Go.Abs
