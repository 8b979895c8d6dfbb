/-
  How the program reads the crossings of a code.
-/
import Derived.Test.YtdfaoeikkkfkoaaGreatDoorWb
set_option linter.unusedSimpArgs false
set_option linter.unusedVariables false
set_option linter.unusedSectionVars false
namespace Go.Abs
set_option maxRecDepth 100000
abbrev K438 (id : Nat) : Prop := id = 2176320128 ∨ siteFn id = 89
def xrPost (F : Nat) (ls : List Let) (g : Nat) (c2 c3 c4 c6 : C) (blk0 : Blk) (v : V) (blk' : Blk) : Prop :=
  v = vb (crossR ls) ∧ Kept K438 blk0 blk' ∧ (crossR ls = true → ∃ g1, blk' 2176320128 = (g, some (.var (dgC F ls c2 c3 c4 (.hmap 5696256064 g1) c6))) ∧ blk' 5696256064 = (g1, some (.map true (mapK ls ls.length))))
theorem ge0 (j : Nat) : decide ((0 : Int) ≤ (j : Int)) = true := decide_eq_true (by omega)
theorem wr0 : IntKind.i64.wrap 0 = 0 := by decide
theorem wr1 : IntKind.i64.wrap 1 = 1 := by decide
theorem neg1 : ((-1 : Int) ≥ 0) = False := by simp
theorem neg1' : ((0 : Int) ≤ -1) = False := by simp
set_option maxHeartbeats 8000000 in
theorem dcross_p {al : Al} (okD : al.ok 2176320128 = true) (ok : ∀ id, siteFn id = 89 → al.ok id = true) {blk : Blk} {g F : Nat} {ls : List Let} {c2 c3 c4 c5 c6 : C} (hl : ls.length ≤ 1000000)
    (bD : blk 2176320128 = (g, some (.var (dgC F ls c2 c3 c4 c5 c6)))) : ∃ v blk', SEv S 89 [.one (.href 2176320128 g 0)] al blk v blk' ∧ xrPost F ls g c2 c3 c4 c6 blk v blk' := by
  have o1 := ok 5696256064 rfl
  have o2 := ok 5696448192 rfl
  have o3 := ok 5696704640 rfl
  refine SEv_fn c89 (Nat.le_of_ble_eq_true rfl) ?_
  have pc := crosses_p F ls hl
  have hcl : cnt Let.isC ls ≤ ls.length := cnt_le _ _
  cases he : (((cnt Let.isC ls % 2 : Nat) : Int) != 0) with
  | true =>
    have hno : crossR ls = false := by
      have : (cnt Let.isC ls % 2 == 0) = false := by simp at he ⊢; omega
      simp [crossR, this]
    simp only [↓Rd, Rt, Rl, Rb, gP_done_al, dP_done_al, oks_nil, oks_cons, Bool.and_self, plan, binV, binInt, eqV, isNilV, app, if_true, if_false, reduceIte, Nat.reduceEqDiff, beq_self_eq_true, reduceCtorEq, ge_iff_le, resultsV, noTup, tupV, fnOf, Nat.reduceAdd, rdAt, takeV, wrAt, splice, cellsV, lenL, ne_eq, Nat.reduceLeDiff, partsV, elemsV, toPss, toPs, toP, fill, Nat.reduceMul, Nat.reduceLT, snapHsl, snapHref, i89, bD, s44, gP_int_al pc, tmod2, two_ne, he, okD, o1, o2, o3, planAppend, elemsOf, szOf, szOK, frz, frzL, room, planSlice, boundOf, Nat.reduceSub, Int.reduceLT, Int.reduceAdd, Int.reduceBEq, Int.reduceBNe, Int.reduceLE, List.contains_eq_mem, frzL_nil, onesC, snap_hfn, snapHfn_some, snap_href_s, snap_hsl_s]
    exact ⟨by rw [hno], Kept.refl _ _, fun h => by rw [hno] at h; cases h⟩
  | false =>
    have he0 : cnt Let.isC ls % 2 = 0 := by simp at he; omega
    simp only [↓Rd, Rt, Rl, Rb, gP_done_al, dP_done_al, oks_nil, oks_cons, Bool.and_self, plan, binV, binInt, eqV, isNilV, app, if_true, if_false, reduceIte, Nat.reduceEqDiff, beq_self_eq_true, reduceCtorEq, ge_iff_le, resultsV, noTup, tupV, fnOf, Nat.reduceAdd, rdAt, takeV, wrAt, splice, cellsV, lenL, ne_eq, Nat.reduceLeDiff, partsV, elemsV, toPss, toPs, toP, fill, Nat.reduceMul, Nat.reduceLT, snapHsl, snapHref, i89, bD, s44, gP_int_al pc, tmod2, two_ne, he, okD, o1, o2, o3, planAppend, elemsOf, szOf, szOK, frz, frzL, room, planSlice, boundOf, Nat.reduceSub, Int.reduceLT, Int.reduceAdd, Int.reduceBEq, Int.reduceBNe, Int.reduceLE, List.contains_eq_mem, frzL_nil, onesC, snap_hfn, snapHfn_some, snap_href_s, snap_hsl_s]
    refine R_for (fun k env blk' => env 0 = .one (.href 2176320128 g 0) ∧ env 3 = vi (cnt Let.isC ls) ∧ env 25 = .one (.p (lsP ls)) ∧ env 26 = vi ls.length ∧ env 27 = vi k ∧
      blk' 2176320128 = (g, some (.var (dgC F ls c2 c3 c4 (.hmap 5696256064 ((blk 5696256064).1 + 1)) c6))) ∧ blk' 5696256064 = ((blk 5696256064).1 + 1, some (.map true (mapK ls k))) ∧
      (∀ i, i < k → xOk ls (cnt Let.isC ls / 2) i = true) ∧ Kept K438 blk blk') 0 ls.length (Nat.zero_le _) ?_ ?_
    · simp only [↓Rd, Rt, Rl, Rb, gP_done_al, dP_done_al, oks_nil, oks_cons, Bool.and_self, plan, binV, binInt, eqV, isNilV, app, if_true, if_false, reduceIte, Nat.reduceEqDiff, beq_self_eq_true, reduceCtorEq, ge_iff_le, resultsV, noTup, tupV, fnOf, Nat.reduceAdd, rdAt, takeV, wrAt, splice, cellsV, lenL, ne_eq, Nat.reduceLeDiff, partsV, elemsV, toPss, toPs, toP, fill, Nat.reduceMul, Nat.reduceLT, snapHsl, snapHref, bD, planAppend, elemsOf, szOf, szOK, frz, frzL, room, planSlice, boundOf, Nat.reduceSub, Int.reduceLT, Int.reduceAdd, Int.reduceBEq, Int.reduceBNe, Int.reduceLE, List.contains_eq_mem, frzL_nil, onesC, snap_hfn, snapHfn_some, snap_href_s, snap_hsl_s]
      refine ⟨rfl, rfl, fun i h => absurd h (Nat.not_lt_zero i), ?_⟩
      repeat (first | exact (Kept.refl _ _) | refine Kept.upd ?_ (by first | exact Or.inl rfl | exact Or.inr rfl) _)
    · rintro k env blk' hk ⟨h0, h3, h25, h26, h27, bD, bM, hok, hkp⟩
      have wq : IntKind.i64.wrap ((cnt Let.isC ls / 2 : Nat) : Int) = ((cnt Let.isC ls / 2 : Nat) : Int) := wrap_small (by omega)
      by_cases hlt : k < ls.length
      · obtain ⟨l, hkl⟩ := at_lt hlt
        have hi := ps_of hkl
        have hlt' : ((k : Int) < (ls.length : Int)) := by omega
        have w1 := wrap_succ (n := k) (by omega)
        cases hc : (l.kind == 2) with
        | false =>
          have hc' : l.isC = false := hc
          have hp : (l.kind != 2) = true := by simp [bne, hc]
          have hrk : xOk ls (cnt Let.isC ls / 2) k = true := by simp [xOk, hkl, hc']
          simp only [↓Rd, Rt, Rl, Rb, gP_done_al, dP_done_al, oks_nil, oks_cons, Bool.and_self, plan, binV, binInt, eqV, isNilV, app, if_true, if_false, reduceIte, Nat.reduceEqDiff, beq_self_eq_true, reduceCtorEq, ge_iff_le, resultsV, noTup, tupV, fnOf, Nat.reduceAdd, rdAt, takeV, wrAt, splice, cellsV, lenL, ne_eq, Nat.reduceLeDiff, partsV, elemsV, toPss, toPs, toP, fill, Nat.reduceMul, Nat.reduceLT, snapHsl, snapHref, i89_l1, h0, h3, h25, h26, h27, bD, bM, hi, ps_len, Let.ps, hlt', hp, w1, okD, o1, o2, o3, planAppend, elemsOf, szOf, szOK, frz, frzL, room, planSlice, boundOf, Nat.reduceSub, Int.reduceLT, Int.reduceAdd, Int.reduceBEq, Int.reduceBNe, Int.reduceLE, List.contains_eq_mem, frzL_nil, onesC, snap_hfn, snapHfn_some, snap_href_s, snap_hsl_s]
          refine ⟨hlt, ?_, ?_, ?_⟩
          · rw [map_miss hkl hc']
          · intro i hi
            rcases Nat.lt_succ_iff_lt_or_eq.1 hi with h | rfl
            · exact hok i h
            · exact hrk
          · repeat (first | exact hkp | refine Kept.upd ?_ (by first | exact Or.inl rfl | exact Or.inr rfl) _)
        | true =>
          have hc' : l.isC = true := hc
          have hp : (l.kind != 2) = false := by simp [bne, hc]
          cases r1 : decide (l.id < 1) with
          | true =>
            have r1' : l.id < 1 := of_decide_eq_true r1
            have r1n : ¬ 1 ≤ l.id := by omega
            have hno := cross_no hlt (show xOk ls (cnt Let.isC ls / 2) k = false by simp [xOk, hkl, hc', r1n])
            simp only [↓Rd, Rt, Rl, Rb, gP_done_al, dP_done_al, oks_nil, oks_cons, Bool.and_self, plan, binV, binInt, eqV, isNilV, app, if_true, if_false, reduceIte, Nat.reduceEqDiff, beq_self_eq_true, reduceCtorEq, ge_iff_le, resultsV, noTup, tupV, fnOf, Nat.reduceAdd, rdAt, takeV, wrAt, splice, cellsV, lenL, ne_eq, Nat.reduceLeDiff, partsV, elemsV, toPss, toPs, toP, fill, Nat.reduceMul, Nat.reduceLT, snapHsl, snapHref, i89_l1, h0, h3, h25, h26, h27, bD, bM, hi, ps_len, Let.ps, hlt', hp, w1, r1', okD, o1, o2, o3, planAppend, elemsOf, szOf, szOK, frz, frzL, room, planSlice, boundOf, Nat.reduceSub, Int.reduceLT, Int.reduceAdd, Int.reduceBEq, Int.reduceBNe, Int.reduceLE, List.contains_eq_mem, frzL_nil, onesC, snap_hfn, snapHfn_some, snap_href_s, snap_hsl_s]
            unfold xrPost
            refine ⟨by rw [hno], ?_, fun h => by rw [hno] at h; cases h⟩
            repeat (first | exact hkp | refine Kept.upd ?_ (by first | exact Or.inl rfl | exact Or.inr rfl) _)

          | false =>
            have r1' : ¬ l.id < 1 := of_decide_eq_false r1
            have r1y : 1 ≤ l.id := by omega
            cases r2 : decide (((cnt Let.isC ls / 2 : Nat) : Int) < l.id) with
            | true =>
              have r2' : ((cnt Let.isC ls / 2 : Nat) : Int) < l.id := of_decide_eq_true r2
              have r2n : ¬ l.id ≤ ((cnt Let.isC ls / 2 : Nat) : Int) := by omega
              have hno := cross_no hlt (show xOk ls (cnt Let.isC ls / 2) k = false by simp only [xOk, hkl, hc', r2n]; simp)
              simp only [↓Rd, Rt, Rl, Rb, gP_done_al, dP_done_al, oks_nil, oks_cons, Bool.and_self, plan, binV, binInt, eqV, isNilV, app, if_true, if_false, reduceIte, Nat.reduceEqDiff, beq_self_eq_true, reduceCtorEq, ge_iff_le, resultsV, noTup, tupV, fnOf, Nat.reduceAdd, rdAt, takeV, wrAt, splice, cellsV, lenL, ne_eq, Nat.reduceLeDiff, partsV, elemsV, toPss, toPs, toP, fill, Nat.reduceMul, Nat.reduceLT, snapHsl, snapHref, i89_l1, h0, h3, h25, h26, h27, bD, bM, hi, ps_len, Let.ps, hlt', hp, w1, r1', r2', tdiv2, two_ne, wq, okD, o1, o2, o3, planAppend, elemsOf, szOf, szOK, frz, frzL, room, planSlice, boundOf, Nat.reduceSub, Int.reduceLT, Int.reduceAdd, Int.reduceBEq, Int.reduceBNe, Int.reduceLE, List.contains_eq_mem, frzL_nil, onesC, snap_hfn, snapHfn_some, snap_href_s, snap_hsl_s]
              unfold xrPost
              refine ⟨by rw [hno], ?_, fun h => by rw [hno] at h; cases h⟩
              repeat (first | exact hkp | refine Kept.upd ?_ (by first | exact Or.inl rfl | exact Or.inr rfl) _)

            | false =>
              have r2' : ¬ ((cnt Let.isC ls / 2 : Nat) : Int) < l.id := of_decide_eq_false r2
              have r2y : l.id ≤ ((cnt Let.isC ls / 2 : Nat) : Int) := by omega
              have hf := find_map ls k l.id
              have hx0 : xOk ls (cnt Let.isC ls / 2) k = ((visJ ls k l.id l.over).isNone && (match visJ ls k l.id (!l.over) with | some j => signAt ls j == l.sign | none => true)) := by
                simp only [xOk, hkl, hc', r1y, r2y, decide_true]; rfl
              by_cases hm : l.id ∈ idsK ls k
              · rw [if_pos hm] at hf
                obtain ⟨e0, hse⟩ := at_lt (show (idsK ls k).idxOf l.id < (mapK ls k).length by simp [mapK]; exact List.idxOf_lt_length_of_mem hm)
                have hmo := map_old hkl hc' hm
                have hent : entV ls k l.id = [.int .i64 (visV (visJ ls k l.id false)), .int .i64 (visV (visJ ls k l.id true))] := rfl
                rw [hent] at hf
                cases ho : l.over with
                | true =>
                  cases hv : visJ ls k l.id true with
                  | some j =>
                    have hno := cross_no hlt (show xOk ls (cnt Let.isC ls / 2) k = false by rw [hx0, ho, hv]; rfl)
                    rw [hv] at hf
                    simp only [visV] at hf
                    simp only [↓Rd, Rt, Rl, Rb, gP_done_al, dP_done_al, oks_nil, oks_cons, Bool.and_self, plan, binV, binInt, eqV, isNilV, app, if_true, if_false, reduceIte, Nat.reduceEqDiff, beq_self_eq_true, reduceCtorEq, ge_iff_le, resultsV, noTup, tupV, fnOf, Nat.reduceAdd, rdAt, takeV, wrAt, splice, cellsV, lenL, ne_eq, Nat.reduceLeDiff, partsV, elemsV, toPss, toPs, toP, fill, Nat.reduceMul, Nat.reduceLT, snapHsl, snapHref, i89_l1, h0, h3, h25, h26, h27, bD, bM, hi, ps_len, Let.ps, hlt', hp, w1, r1', r2', tdiv2, two_ne, wq, hf, ho, ge0, wr0, wr1, mapOf, mapVal, keyKd, lenM, cellsAg, Option.getD_some, Option.getD_none, Option.isSome_some, Option.isSome_none, Option.map_none, Int.reduceNeg, Int.reduceSub, okD, o1, o2, o3, planAppend, elemsOf, szOf, szOK, frz, frzL, room, planSlice, boundOf, Nat.reduceSub, Int.reduceLT, Int.reduceAdd, Int.reduceBEq, Int.reduceBNe, Int.reduceLE, List.contains_eq_mem, frzL_nil, onesC, snap_hfn, snapHfn_some, snap_href_s, snap_hsl_s]
                    refine ⟨okd (by kernel_rfl), okd (by kernel_rfl), ?_⟩
                    unfold xrPost
                    refine ⟨by rw [hno], ?_, fun h => by rw [hno] at h; cases h⟩
                    repeat (first | exact hkp | refine Kept.upd ?_ (by first | exact Or.inl rfl | exact Or.inr rfl) _)
                  | none =>
                    obtain ⟨j, m, hj, hjm, hjk⟩ := vis_met hk hm true hv
                    have hj : visJ ls k l.id false = some j := hj
                    have hjp := ps_of hjm
                    have hsj : signAt ls j = m.sign := by simp [signAt, hjm]
                    rw [hv, hj] at hf
                    simp only [visV] at hf
                    cases hs : (m.sign == l.sign) with
                    | false =>
                      have hs2 : (m.sign != l.sign) = true := by simp [bne, hs]
                      have hno := cross_no hlt (show xOk ls (cnt Let.isC ls / 2) k = false by rw [hx0, ho, hv]; simp only [Bool.not_true, hj, hsj, hs]; rfl)
                      simp only [↓Rd, Rt, Rl, Rb, gP_done_al, dP_done_al, oks_nil, oks_cons, Bool.and_self, plan, binV, binInt, eqV, isNilV, app, if_true, if_false, reduceIte, Nat.reduceEqDiff, beq_self_eq_true, reduceCtorEq, ge_iff_le, resultsV, noTup, tupV, fnOf, Nat.reduceAdd, rdAt, takeV, wrAt, splice, cellsV, lenL, ne_eq, Nat.reduceLeDiff, partsV, elemsV, toPss, toPs, toP, fill, Nat.reduceMul, Nat.reduceLT, snapHsl, snapHref, i89_l1, h0, h3, h25, h26, h27, bD, bM, hi, ps_len, Let.ps, hlt', hp, w1, r1', r2', tdiv2, two_ne, wq, hf, ho, ge0, neg1, neg1', hjp, hs2, wr0, wr1, mapOf, mapVal, keyKd, lenM, cellsAg, Option.getD_some, Option.getD_none, Option.isSome_some, Option.isSome_none, Option.map_none, Int.reduceNeg, Int.reduceSub, okD, o1, o2, o3, planAppend, elemsOf, szOf, szOK, frz, frzL, room, planSlice, boundOf, Nat.reduceSub, Int.reduceLT, Int.reduceAdd, Int.reduceBEq, Int.reduceBNe, Int.reduceLE, List.contains_eq_mem, frzL_nil, onesC, snap_hfn, snapHfn_some, snap_href_s, snap_hsl_s]
                      refine ⟨okd (by kernel_rfl), okd (by kernel_rfl), ?_⟩
                      unfold xrPost
                      refine ⟨by rw [hno], ?_, fun h => by rw [hno] at h; cases h⟩
                      repeat (first | exact hkp | refine Kept.upd ?_ (by first | exact Or.inl rfl | exact Or.inr rfl) _)
                    | true =>
                      have hs2 : (m.sign != l.sign) = false := by simp [bne, hs]
                      have hrk : xOk ls (cnt Let.isC ls / 2) k = true := by rw [hx0, ho, hv]; simp only [Bool.not_true, hj, hsj, hs]; rfl
                      have hvs := vis_same hkl hc' (show visJ ls k l.id l.over = none by rw [ho]; exact hv)
                      have hve := vis_else hkl hc'
                      rw [ho] at hvs hve
                      rw [show visJ ls k l.id (!true) = some j from hj] at hve
                      have hent2 : entV ls (k + 1) l.id = [.int .i64 (j : Int), .int .i64 (k : Int)] := by
                        simp only [entV]
                        rw [hvs, show visJ ls (k + 1) l.id false = some j from hve]
                        rfl
                      rw [hent2] at hmo
                      simp only [↓Rd, Rt, Rl, Rb, gP_done_al, dP_done_al, oks_nil, oks_cons, Bool.and_self, plan, binV, binInt, eqV, isNilV, app, if_true, if_false, reduceIte, Nat.reduceEqDiff, beq_self_eq_true, reduceCtorEq, ge_iff_le, resultsV, noTup, tupV, fnOf, Nat.reduceAdd, rdAt, takeV, wrAt, splice, cellsV, lenL, ne_eq, Nat.reduceLeDiff, partsV, elemsV, toPss, toPs, toP, fill, Nat.reduceMul, Nat.reduceLT, snapHsl, snapHref, i89_l1, h0, h3, h25, h26, h27, bD, bM, hi, ps_len, Let.ps, hlt', hp, w1, r1', r2', tdiv2, two_ne, wq, hf, ho, ge0, neg1, neg1', hjp, hs2, wr0, wr1, mapOf, mapVal, keyKd, lenM, cellsAg, Option.getD_some, Option.getD_none, Option.isSome_some, Option.isSome_none, Option.map_none, Int.reduceNeg, Int.reduceSub, okD, o1, o2, o3, planAppend, elemsOf, szOf, szOK, frz, frzL, room, planSlice, boundOf, Nat.reduceSub, Int.reduceLT, Int.reduceAdd, Int.reduceBEq, Int.reduceBNe, Int.reduceLE, List.contains_eq_mem, frzL_nil, onesC, snap_hfn, snapHfn_some, snap_href_s, snap_hsl_s]
                      refine ⟨okd (by kernel_rfl), okd (by kernel_rfl), okd (by kernel_rfl), ?_⟩
                      refine ⟨hlt, ?_, ?_, ?_⟩
                      · rw [hmo]
                      · intro i hi
                        rcases Nat.lt_succ_iff_lt_or_eq.1 hi with h | rfl
                        · exact hok i h
                        · exact hrk
                      · repeat (first | exact hkp | refine Kept.upd ?_ (by first | exact Or.inl rfl | exact Or.inr rfl) _)
                | false =>
                  cases hv : visJ ls k l.id false with
                  | some j =>
                    have hno := cross_no hlt (show xOk ls (cnt Let.isC ls / 2) k = false by rw [hx0, ho, hv]; rfl)
                    rw [hv] at hf
                    simp only [visV] at hf
                    simp only [↓Rd, Rt, Rl, Rb, gP_done_al, dP_done_al, oks_nil, oks_cons, Bool.and_self, plan, binV, binInt, eqV, isNilV, app, if_true, if_false, reduceIte, Nat.reduceEqDiff, beq_self_eq_true, reduceCtorEq, ge_iff_le, resultsV, noTup, tupV, fnOf, Nat.reduceAdd, rdAt, takeV, wrAt, splice, cellsV, lenL, ne_eq, Nat.reduceLeDiff, partsV, elemsV, toPss, toPs, toP, fill, Nat.reduceMul, Nat.reduceLT, snapHsl, snapHref, i89_l1, h0, h3, h25, h26, h27, bD, bM, hi, ps_len, Let.ps, hlt', hp, w1, r1', r2', tdiv2, two_ne, wq, hf, ho, ge0, wr0, wr1, mapOf, mapVal, keyKd, lenM, cellsAg, Option.getD_some, Option.getD_none, Option.isSome_some, Option.isSome_none, Option.map_none, Int.reduceNeg, Int.reduceSub, okD, o1, o2, o3, planAppend, elemsOf, szOf, szOK, frz, frzL, room, planSlice, boundOf, Nat.reduceSub, Int.reduceLT, Int.reduceAdd, Int.reduceBEq, Int.reduceBNe, Int.reduceLE, List.contains_eq_mem, frzL_nil, onesC, snap_hfn, snapHfn_some, snap_href_s, snap_hsl_s]
                    refine ⟨okd (by kernel_rfl), okd (by kernel_rfl), ?_⟩
                    unfold xrPost
                    refine ⟨by rw [hno], ?_, fun h => by rw [hno] at h; cases h⟩
                    repeat (first | exact hkp | refine Kept.upd ?_ (by first | exact Or.inl rfl | exact Or.inr rfl) _)
                  | none =>
                    obtain ⟨j, m, hj, hjm, hjk⟩ := vis_met hk hm false hv
                    have hj : visJ ls k l.id true = some j := hj
                    have hjp := ps_of hjm
                    have hsj : signAt ls j = m.sign := by simp [signAt, hjm]
                    rw [hv, hj] at hf
                    simp only [visV] at hf
                    cases hs : (m.sign == l.sign) with
                    | false =>
                      have hs2 : (m.sign != l.sign) = true := by simp [bne, hs]
                      have hno := cross_no hlt (show xOk ls (cnt Let.isC ls / 2) k = false by rw [hx0, ho, hv]; simp only [Bool.not_false, hj, hsj, hs]; rfl)
                      simp only [↓Rd, Rt, Rl, Rb, gP_done_al, dP_done_al, oks_nil, oks_cons, Bool.and_self, plan, binV, binInt, eqV, isNilV, app, if_true, if_false, reduceIte, Nat.reduceEqDiff, beq_self_eq_true, reduceCtorEq, ge_iff_le, resultsV, noTup, tupV, fnOf, Nat.reduceAdd, rdAt, takeV, wrAt, splice, cellsV, lenL, ne_eq, Nat.reduceLeDiff, partsV, elemsV, toPss, toPs, toP, fill, Nat.reduceMul, Nat.reduceLT, snapHsl, snapHref, i89_l1, h0, h3, h25, h26, h27, bD, bM, hi, ps_len, Let.ps, hlt', hp, w1, r1', r2', tdiv2, two_ne, wq, hf, ho, ge0, neg1, neg1', hjp, hs2, wr0, wr1, mapOf, mapVal, keyKd, lenM, cellsAg, Option.getD_some, Option.getD_none, Option.isSome_some, Option.isSome_none, Option.map_none, Int.reduceNeg, Int.reduceSub, okD, o1, o2, o3, planAppend, elemsOf, szOf, szOK, frz, frzL, room, planSlice, boundOf, Nat.reduceSub, Int.reduceLT, Int.reduceAdd, Int.reduceBEq, Int.reduceBNe, Int.reduceLE, List.contains_eq_mem, frzL_nil, onesC, snap_hfn, snapHfn_some, snap_href_s, snap_hsl_s]
                      refine ⟨okd (by kernel_rfl), okd (by kernel_rfl), ?_⟩
                      unfold xrPost
                      refine ⟨by rw [hno], ?_, fun h => by rw [hno] at h; cases h⟩
                      repeat (first | exact hkp | refine Kept.upd ?_ (by first | exact Or.inl rfl | exact Or.inr rfl) _)
                    | true =>
                      have hs2 : (m.sign != l.sign) = false := by simp [bne, hs]
                      have hrk : xOk ls (cnt Let.isC ls / 2) k = true := by rw [hx0, ho, hv]; simp only [Bool.not_false, hj, hsj, hs]; rfl
                      have hvs := vis_same hkl hc' (show visJ ls k l.id l.over = none by rw [ho]; exact hv)
                      have hve := vis_else hkl hc'
                      rw [ho] at hvs hve
                      rw [show visJ ls k l.id (!false) = some j from hj] at hve
                      have hent2 : entV ls (k + 1) l.id = [.int .i64 (k : Int), .int .i64 (j : Int)] := by
                        simp only [entV]
                        rw [hvs, show visJ ls (k + 1) l.id true = some j from hve]
                        rfl
                      rw [hent2] at hmo
                      simp only [↓Rd, Rt, Rl, Rb, gP_done_al, dP_done_al, oks_nil, oks_cons, Bool.and_self, plan, binV, binInt, eqV, isNilV, app, if_true, if_false, reduceIte, Nat.reduceEqDiff, beq_self_eq_true, reduceCtorEq, ge_iff_le, resultsV, noTup, tupV, fnOf, Nat.reduceAdd, rdAt, takeV, wrAt, splice, cellsV, lenL, ne_eq, Nat.reduceLeDiff, partsV, elemsV, toPss, toPs, toP, fill, Nat.reduceMul, Nat.reduceLT, snapHsl, snapHref, i89_l1, h0, h3, h25, h26, h27, bD, bM, hi, ps_len, Let.ps, hlt', hp, w1, r1', r2', tdiv2, two_ne, wq, hf, ho, ge0, neg1, neg1', hjp, hs2, wr0, wr1, mapOf, mapVal, keyKd, lenM, cellsAg, Option.getD_some, Option.getD_none, Option.isSome_some, Option.isSome_none, Option.map_none, Int.reduceNeg, Int.reduceSub, okD, o1, o2, o3, planAppend, elemsOf, szOf, szOK, frz, frzL, room, planSlice, boundOf, Nat.reduceSub, Int.reduceLT, Int.reduceAdd, Int.reduceBEq, Int.reduceBNe, Int.reduceLE, List.contains_eq_mem, frzL_nil, onesC, snap_hfn, snapHfn_some, snap_href_s, snap_hsl_s]
                      refine ⟨okd (by kernel_rfl), okd (by kernel_rfl), okd (by kernel_rfl), ?_⟩
                      refine ⟨hlt, ?_, ?_, ?_⟩
                      · rw [hmo]
                      · intro i hi
                        rcases Nat.lt_succ_iff_lt_or_eq.1 hi with h | rfl
                        · exact hok i h
                        · exact hrk
                      · repeat (first | exact hkp | refine Kept.upd ?_ (by first | exact Or.inl rfl | exact Or.inr rfl) _)
              · rw [if_neg hm] at hf
                have hv := vis_not hk hm
                have hmn := map_new hkl hc' hm
                have hrk : xOk ls (cnt Let.isC ls / 2) k = true := by rw [hx0, hv, hv]; rfl
                have hvs := vis_same hkl hc' (hv _)
                have hve := vis_else hkl hc'
                rw [hv] at hve
                cases ho : l.over with
                | true =>
                  rw [ho] at hvs hve
                  have hent : entV ls (k + 1) l.id = [.int .i64 (-1), .int .i64 (k : Int)] := by
                    simp only [entV]
                    rw [hvs, show visJ ls (k + 1) l.id false = none from hve]
                    rfl
                  rw [hent] at hmn
                  simp only [↓Rd, Rt, Rl, Rb, gP_done_al, dP_done_al, oks_nil, oks_cons, Bool.and_self, plan, binV, binInt, eqV, isNilV, app, if_true, if_false, reduceIte, Nat.reduceEqDiff, beq_self_eq_true, reduceCtorEq, ge_iff_le, resultsV, noTup, tupV, fnOf, Nat.reduceAdd, rdAt, takeV, wrAt, splice, cellsV, lenL, ne_eq, Nat.reduceLeDiff, partsV, elemsV, toPss, toPs, toP, fill, Nat.reduceMul, Nat.reduceLT, snapHsl, snapHref, i89_l1, h0, h3, h25, h26, h27, bD, bM, hi, ps_len, Let.ps, hlt', hp, w1, r1', r2', tdiv2, two_ne, wq, hf, ho, neg1, neg1', wr0, wr1, mapOf, mapVal, keyKd, lenM, cellsAg, Option.getD_some, Option.getD_none, Option.isSome_some, Option.isSome_none, Option.map_none, Int.reduceNeg, Int.reduceSub, okD, o1, o2, o3, planAppend, elemsOf, szOf, szOK, frz, frzL, room, planSlice, boundOf, Nat.reduceSub, Int.reduceLT, Int.reduceAdd, Int.reduceBEq, Int.reduceBNe, Int.reduceLE, List.contains_eq_mem, frzL_nil, onesC, snap_hfn, snapHfn_some, snap_href_s, snap_hsl_s]
                  refine ⟨okd (by kernel_rfl), okd (by kernel_rfl), okd (by kernel_rfl), ?_⟩
                  refine ⟨hlt, ?_, ?_, ?_⟩
                  · rw [hmn]
                  · intro i hi
                    rcases Nat.lt_succ_iff_lt_or_eq.1 hi with h | rfl
                    · exact hok i h
                    · exact hrk
                  · repeat (first | exact hkp | refine Kept.upd ?_ (by first | exact Or.inl rfl | exact Or.inr rfl) _)
                | false =>
                  rw [ho] at hvs hve
                  have hent : entV ls (k + 1) l.id = [.int .i64 (k : Int), .int .i64 (-1)] := by
                    simp only [entV]
                    rw [hvs, show visJ ls (k + 1) l.id true = none from hve]
                    rfl
                  rw [hent] at hmn
                  simp only [↓Rd, Rt, Rl, Rb, gP_done_al, dP_done_al, oks_nil, oks_cons, Bool.and_self, plan, binV, binInt, eqV, isNilV, app, if_true, if_false, reduceIte, Nat.reduceEqDiff, beq_self_eq_true, reduceCtorEq, ge_iff_le, resultsV, noTup, tupV, fnOf, Nat.reduceAdd, rdAt, takeV, wrAt, splice, cellsV, lenL, ne_eq, Nat.reduceLeDiff, partsV, elemsV, toPss, toPs, toP, fill, Nat.reduceMul, Nat.reduceLT, snapHsl, snapHref, i89_l1, h0, h3, h25, h26, h27, bD, bM, hi, ps_len, Let.ps, hlt', hp, w1, r1', r2', tdiv2, two_ne, wq, hf, ho, neg1, neg1', wr0, wr1, mapOf, mapVal, keyKd, lenM, cellsAg, Option.getD_some, Option.getD_none, Option.isSome_some, Option.isSome_none, Option.map_none, Int.reduceNeg, Int.reduceSub, okD, o1, o2, o3, planAppend, elemsOf, szOf, szOK, frz, frzL, room, planSlice, boundOf, Nat.reduceSub, Int.reduceLT, Int.reduceAdd, Int.reduceBEq, Int.reduceBNe, Int.reduceLE, List.contains_eq_mem, frzL_nil, onesC, snap_hfn, snapHfn_some, snap_href_s, snap_hsl_s]
                  refine ⟨okd (by kernel_rfl), okd (by kernel_rfl), okd (by kernel_rfl), ?_⟩
                  refine ⟨hlt, ?_, ?_, ?_⟩
                  · rw [hmn]
                  · intro i hi
                    rcases Nat.lt_succ_iff_lt_or_eq.1 hi with h | rfl
                    · exact hok i h
                    · exact hrk
                  · repeat (first | exact hkp | refine Kept.upd ?_ (by first | exact Or.inl rfl | exact Or.inr rfl) _)
      · have : k = ls.length := by omega
        subst this
        have hr := cross_yes he0 hok
        have hml : (mapK ls ls.length).length = (idsK ls ls.length).length := by simp [mapK]
        have hb : ((((idsK ls ls.length).length : Nat) : Int) == ((cnt Let.isC ls / 2 : Nat) : Int)) = ((idsK ls ls.length).length == cnt Let.isC ls / 2) := by
          cases h : ((idsK ls ls.length).length == cnt Let.isC ls / 2) with
          | true => simp at h ⊢; omega
          | false => simp at h ⊢; omega
        simp only [↓Rd, Rt, Rl, Rb, gP_done_al, dP_done_al, oks_nil, oks_cons, Bool.and_self, plan, binV, binInt, eqV, isNilV, app, if_true, if_false, reduceIte, Nat.reduceEqDiff, beq_self_eq_true, reduceCtorEq, ge_iff_le, resultsV, noTup, tupV, fnOf, Nat.reduceAdd, rdAt, takeV, wrAt, splice, cellsV, lenL, ne_eq, Nat.reduceLeDiff, partsV, elemsV, toPss, toPs, toP, fill, Nat.reduceMul, Nat.reduceLT, snapHsl, snapHref, i89_l1, i89_r2, h0, h3, h26, h27, bD, bM, no_more, wr0, wr1, mapOf, mapVal, keyKd, lenM, cellsAg, Option.getD_some, Option.getD_none, Option.isSome_some, Option.isSome_none, Option.map_none, Int.reduceNeg, Int.reduceSub, hml, tdiv2, two_ne, wq, hb, okD, o1, o2, o3, planAppend, elemsOf, szOf, szOK, frz, frzL, room, planSlice, boundOf, Nat.reduceSub, Int.reduceLT, Int.reduceAdd, Int.reduceBEq, Int.reduceBNe, Int.reduceLE, List.contains_eq_mem, frzL_nil, onesC, snap_hfn, snapHfn_some, snap_href_s, snap_hsl_s]
        exact ⟨by rw [hr], hkp, fun _ => ⟨_, bD, bM⟩⟩
end Go.Abs
