/-
  The arguments of a move, and how it is done.
-/
import Derived.Test.YtdfaoeikkkfkoaaGreatDoorWl
set_option linter.unusedSimpArgs false
set_option linter.unusedVariables false
set_option linter.unusedSectionVars false
namespace Go.Abs
set_option maxRecDepth 100000
def isI (n : Nat) (i : Int) : Bool := decide (0 ≤ i) && decide (i < (n : Int))
theorem is_p (i : Int) (n : Nat) : PEv S 45 [vi i, .one (.p (.box [.int .i64 n]))] (rb (isI n i)) := by
  refine PEv_fn rfl c45 (Nat.le_of_ble_eq_true rfl) ?_
  unfold isI
  by_cases h1 : 0 ≤ i
  · by_cases h2 : i < (n : Int)
    · simp only [↓Rd, Rt, Rl, Rb, gP_done, dP_done, Al.all_oks, plan, binV, binInt, eqV, isNilV, app, if_true, if_false, reduceIte, Nat.reduceEqDiff, beq_self_eq_true, reduceCtorEq, ge_iff_le, resultsV, noTup, tupV, fnOf, Nat.reduceAdd, rdAt, takeV, wrAt, splice, cellsV, lenL, ne_eq, Nat.reduceLeDiff, partsV, elemsV, toPss, toPs, toP, fill, Nat.reduceMul, Nat.reduceLT, snapHsl, snapHref, i45, noBlk, h1, h2, planAppend, elemsOf, szOf, szOK, frz, frzL, room, planSlice, boundOf, Nat.reduceSub, Int.reduceLT, Int.reduceAdd, Int.reduceBEq, Int.reduceBNe, Int.reduceLE, List.contains_eq_mem, frzL_nil, onesC, snap_hfn, snapHfn_some, snap_href_s, snap_hsl_s]
    · simp only [↓Rd, Rt, Rl, Rb, gP_done, dP_done, Al.all_oks, plan, binV, binInt, eqV, isNilV, app, if_true, if_false, reduceIte, Nat.reduceEqDiff, beq_self_eq_true, reduceCtorEq, ge_iff_le, resultsV, noTup, tupV, fnOf, Nat.reduceAdd, rdAt, takeV, wrAt, splice, cellsV, lenL, ne_eq, Nat.reduceLeDiff, partsV, elemsV, toPss, toPs, toP, fill, Nat.reduceMul, Nat.reduceLT, snapHsl, snapHref, i45, noBlk, h1, h2, planAppend, elemsOf, szOf, szOK, frz, frzL, room, planSlice, boundOf, Nat.reduceSub, Int.reduceLT, Int.reduceAdd, Int.reduceBEq, Int.reduceBNe, Int.reduceLE, List.contains_eq_mem, frzL_nil, onesC, snap_hfn, snapHfn_some, snap_href_s, snap_hsl_s]
  · simp only [↓Rd, Rt, Rl, Rb, gP_done, dP_done, Al.all_oks, plan, binV, binInt, eqV, isNilV, app, if_true, if_false, reduceIte, Nat.reduceEqDiff, beq_self_eq_true, reduceCtorEq, ge_iff_le, resultsV, noTup, tupV, fnOf, Nat.reduceAdd, rdAt, takeV, wrAt, splice, cellsV, lenL, ne_eq, Nat.reduceLeDiff, partsV, elemsV, toPss, toPs, toP, fill, Nat.reduceMul, Nat.reduceLT, snapHsl, snapHref, i45, noBlk, h1, planAppend, elemsOf, szOf, szOK, frz, frzL, room, planSlice, boundOf, Nat.reduceSub, Int.reduceLT, Int.reduceAdd, Int.reduceBEq, Int.reduceBNe, Int.reduceLE, List.contains_eq_mem, frzL_nil, onesC, snap_hfn, snapHfn_some, snap_href_s, snap_hsl_s]
theorem is_t {i n : Nat} (h : i < n) : PEv S 45 [vi i, .one (.p (.box [.int .i64 n]))] (rb true) := by
  have := is_p i n
  rwa [show isI n i = true by simp [isI]; omega] at this
theorem sc_let (l : List Let) : ((letP l).all fun e => e.all PV.scalar) = true := by simp [Let.ps, PV.scalar]
abbrev rokc (F : Nat) (L : List Let) : RV := .tup [.agg [.p (.int .i64 F), grownR lsTy 6 (letP L)], .one (.p (.int .i64 0))]
def doR (F : Nat) (ls : List Let) (k : Int) : Option (List Pc) → RV
  | none => rcode 4
  | some L => if (400 : Int) < (ls.length : Int) + (growsR k).1 ∨ (100 : Int) < ((cnt Let.isC ls / 2 : Nat) : Int) + (growsR k).2 then rcode 7 else rokc F (finL L)

end Go.Abs
