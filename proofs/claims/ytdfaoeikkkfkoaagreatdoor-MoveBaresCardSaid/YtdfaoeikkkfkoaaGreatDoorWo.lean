/-
  Apply.
-/
import Derived.Test.YtdfaoeikkkfkoaaGreatDoorWm
import Derived.Test.YtdfaoeikkkfkoaaGreatDoorWn
set_option linter.unusedSimpArgs false
set_option linter.unusedVariables false
set_option linter.unusedSectionVars false
namespace Go.Abs
set_option maxRecDepth 100000
set_option maxHeartbeats 8000000 in
theorem apply_of {F : Nat} {ls : List Let} (g : Fine F ls) {k a b c : Int} {l o : Bool} {sg : Int} {res : Option (List Pc)} (hd : PEv S 16 [.one (.p (brdV F ls)), mvV k a b c l o sg] (doR F ls k res)) :
    PEv S 6 [codeV F ls, mvV k a b c l o sg] (doR F ls k res) := by
  have po := open_p g
  have lo : S.lone 384256128 = false := by kernel_rfl
  have fin : (∃ e, doR F ls k res = rcode e) ∨ ∃ L, doR F ls k res = rokc F L := by
    cases res with
    | none => exact .inl ⟨4, rfl⟩
    | some L =>
      by_cases h : (400 : Int) < (ls.length : Int) + (growsR k).1 ∨ (100 : Int) < ((cnt Let.isC ls / 2 : Nat) : Int) + (growsR k).2
      · exact .inl ⟨7, if_pos h⟩
      · exact .inr ⟨finL L, if_neg h⟩
  refine PEv_fn rfl c6 (Nat.le_of_ble_eq_true rfl) ?_
  rcases fin with ⟨e, he⟩ | ⟨L, he⟩
  · rw [he] at hd ⊢
    simp only [↓Rd, Rt, Rl, Rb, gP_done, dP_done, Al.all_oks, plan, binV, binInt, eqV, isNilV, app, if_true, if_false, reduceIte, Nat.reduceEqDiff, beq_self_eq_true, reduceCtorEq, ge_iff_le, resultsV, noTup, tupV, fnOf, Nat.reduceAdd, rdAt, takeV, wrAt, splice, cellsV, lenL, ne_eq, Nat.reduceLeDiff, partsV, elemsV, toPss, toPs, toP, fill, Nat.reduceMul, Nat.reduceLT, snapHsl, snapHref, i6, noBlk, s15, gP_land po land_tup, s16, gP_land hd land_code, planAppend, elemsOf, szOf, szOK, frz, frzL, room, planSlice, boundOf, Nat.reduceSub, Int.reduceLT, Int.reduceAdd, Int.reduceBEq, Int.reduceBNe, Int.reduceLE, List.contains_eq_mem, frzL_nil, onesC, snap_hfn, snapHfn_some, snap_href_s, snap_hsl_s]
    rfl
  · rw [he] at hd ⊢
    simp only [↓Rd, Rt, Rl, Rb, gP_done, dP_done, Al.all_oks, plan, binV, binInt, eqV, isNilV, app, if_true, if_false, reduceIte, Nat.reduceEqDiff, beq_self_eq_true, reduceCtorEq, ge_iff_le, resultsV, noTup, tupV, fnOf, Nat.reduceAdd, rdAt, takeV, wrAt, splice, cellsV, lenL, ne_eq, Nat.reduceLeDiff, partsV, elemsV, toPss, toPs, toP, fill, Nat.reduceMul, Nat.reduceLT, snapHsl, snapHref, i6, noBlk, s15, gP_land po land_tup, s16, frz, frzL, room, planSlice, boundOf, Nat.reduceSub, Int.reduceLT, Int.reduceAdd, Int.reduceBEq, Int.reduceBNe, Int.reduceLE, List.contains_eq_mem, frzL_nil, onesC, snap_hfn, snapHfn_some, snap_href_s, snap_hsl_s]
    refine gP_gT hd lo fun cc blk1 gc hb => ?_
    have b4 := hb 384000128 (by decide)
    simp only [↓Rd, Rt, Rl, Rb, gP_done, dP_done, Al.all_oks, plan, binV, binInt, eqV, isNilV, app, if_true, if_false, reduceIte, Nat.reduceEqDiff, beq_self_eq_true, reduceCtorEq, ge_iff_le, resultsV, noTup, tupV, fnOf, Nat.reduceAdd, rdAt, takeV, wrAt, splice, cellsV, lenL, ne_eq, Nat.reduceLeDiff, partsV, elemsV, toPss, toPs, toP, fill, Nat.reduceMul, Nat.reduceLT, snapHsl, snapHref] at b4
    simp only [↓Rd, Rt, Rl, Rb, gP_done, dP_done, Al.all_oks, plan, binV, binInt, eqV, isNilV, app, if_true, if_false, reduceIte, Nat.reduceEqDiff, beq_self_eq_true, reduceCtorEq, ge_iff_le, resultsV, noTup, tupV, fnOf, Nat.reduceAdd, rdAt, takeV, wrAt, splice, cellsV, lenL, ne_eq, Nat.reduceLeDiff, partsV, elemsV, toPss, toPs, toP, fill, Nat.reduceMul, Nat.reduceLT, snapHsl, snapHref, b4, frz, frzL, room, planSlice, boundOf, Nat.reduceSub, Int.reduceLT, Int.reduceAdd, Int.reduceBEq, Int.reduceBNe, Int.reduceLE, List.contains_eq_mem, frzL_nil, onesC, snap_hfn, snapHfn_some, snap_href_s, snap_hsl_s]
    exact grown_outT (gc.of_eq (upd_ne (by decide)))
end Go.Abs
