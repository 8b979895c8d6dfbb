/-
  Two passes that are taken away.
-/
import Derived.Test.YtdfaoeikkkfkoaaGreatDoorWm
set_option linter.unusedSimpArgs false
set_option linter.unusedVariables false
set_option linter.unusedSectionVars false
namespace Go.Abs
set_option maxRecDepth 100000
/-- the letters that are not dropped -/
def keepAt (l : List Pc) (drop : Nat → Pc → Bool) (i : Nat) : Option Pc := match l[i]? with | some p => if drop i p then none else some p | none => none
def keepK (l : List Pc) (drop : Nat → Pc → Bool) (k : Nat) : List Pc := (List.range k).filterMap (keepAt l drop)
def keepL (l : List Pc) (drop : Nat → Pc → Bool) : List Pc := keepK l drop l.length
theorem keepK_drop {l : List Pc} {drop : Nat → Pc → Bool} {k : Nat} {p : Pc} (h : l[k]? = some p) (hd : drop k p = true) : keepK l drop (k + 1) = keepK l drop k := by
  simp [keepK, List.range_succ, List.filterMap_append, keepAt, h, hd]
theorem keepK_keep {l : List Pc} {drop : Nat → Pc → Bool} {k : Nat} {p : Pc} (h : l[k]? = some p) (hd : drop k p = false) : keepK l drop (k + 1) = keepK l drop k ++ [p] := by
  simp [keepK, List.range_succ, List.filterMap_append, keepAt, h, hd]
theorem keepK_len (l : List Pc) (drop : Nat → Pc → Bool) (k : Nat) : (keepK l drop k).length ≤ k := by
  have := List.length_filterMap_le (keepAt l drop) (List.range k)
  rwa [List.length_range] at this
theorem ends_p {F : Nat} {ls : List Let} (g : Fine F ls) {e : Nat} (he : e < ls.length) : PEv S 70 [.one (.p (brdV F ls)), vi e] (rtup (.int .i64 e) (.int .i64 ((e + 1) % ls.length : Nat))) := by
  have hlen := g.len
  have hpl := pieces_len ls
  have w1 := wrap_succ (n := e) (by omega)
  have e1 := tmod_nat (e + 1) ls.length
  have hz : ¬ ((ls.length : Int) = 0) := by omega
  refine PEv_fn rfl c70 (Nat.le_of_ble_eq_true rfl) ?_
  simp only [↓Rd, Rt, Rl, Rb, gP_done, dP_done, Al.all_oks, plan, binV, binInt, eqV, isNilV, app, if_true, if_false, reduceIte, Nat.reduceEqDiff, beq_self_eq_true, reduceCtorEq, ge_iff_le, resultsV, noTup, tupV, fnOf, Nat.reduceAdd, rdAt, takeV, wrAt, splice, cellsV, lenL, ne_eq, Nat.reduceLeDiff, partsV, elemsV, toPss, toPs, toP, fill, Nat.reduceMul, Nat.reduceLT, snapHsl, snapHref, i70, noBlk, w1, e1, hpl, hz, planAppend, elemsOf, szOf, szOK, frz, frzL, room, planSlice, boundOf, Nat.reduceSub, Int.reduceLT, Int.reduceAdd, Int.reduceBEq, Int.reduceBNe, Int.reduceLE, List.contains_eq_mem, frzL_nil, onesC, snap_hfn, snapHfn_some, snap_href_s, snap_hsl_s]
  exact ⟨okd (by kernel_rfl), rfl⟩

set_option maxHeartbeats 4000000 in
theorem without2_p (l : List Pc) (hl : l.length ≤ 1000000) {f : Nat} {x y : PV} (hn : x.norm = x ∧ y.norm = y) (hsh : S.shared f = false) (drop : Nat → Pc → Bool) (hd : ∀ (k : Nat) (p : Pc), l[k]? = some p → PEv S f [vi k, .agg (p.ps.map .p), .one (.p x), .one (.p y)] (rb (drop k p))) :
    PEv S 71 [.one (.p (.sl (pcP l))), .one (.p (.fn f [] [x, y]))] (.one (grownR pcTy 7 (pcP (keepL l drop)))) := by
  obtain ⟨hn0, hn1⟩ := hn
  refine PEv_fn rfl c71 (Nat.le_of_ble_eq_true rfl) ?_
  simp only [↓Rd, Rt, Rl, Rb, gP_done, dP_done, Al.all_oks, plan, binV, binInt, eqV, isNilV, app, if_true, if_false, reduceIte, Nat.reduceEqDiff, beq_self_eq_true, reduceCtorEq, ge_iff_le, resultsV, noTup, tupV, fnOf, Nat.reduceAdd, rdAt, takeV, wrAt, splice, cellsV, lenL, ne_eq, Nat.reduceLeDiff, partsV, elemsV, toPss, toPs, toP, fill, Nat.reduceMul, Nat.reduceLT, snapHsl, snapHref, i71, noBlk, hn0, hn1, frz, frzL, room, planSlice, boundOf, Nat.reduceSub, Int.reduceLT, Int.reduceAdd, Int.reduceBEq, Int.reduceBNe, Int.reduceLE, List.contains_eq_mem, frzL_nil, onesC, snap_hfn, snapHfn_some, snap_href_s, snap_hsl_s]
  refine R_for (fun k env blk => env 1 = .one (.p (.fn f [] [x, y])) ∧ env 8 = .one (.p (.sl (pcP l))) ∧ env 9 = vi l.length ∧ env 10 = vi k ∧ ∃ c, env 5 = .one c ∧ grown 4544384192 pcTy 7 (pcP (keepK l drop k)) (.one c) blk) 0 l.length (Nat.zero_le _) ?_ ?_
  · simp only [↓Rd, Rt, Rl, Rb, gP_done, dP_done, Al.all_oks, plan, binV, binInt, eqV, isNilV, app, if_true, if_false, reduceIte, Nat.reduceEqDiff, beq_self_eq_true, reduceCtorEq, ge_iff_le, resultsV, noTup, tupV, fnOf, Nat.reduceAdd, rdAt, takeV, wrAt, splice, cellsV, lenL, ne_eq, Nat.reduceLeDiff, partsV, elemsV, toPss, toPs, toP, fill, Nat.reduceMul, Nat.reduceLT, snapHsl, snapHref]
    first | exact ⟨rfl, _, rfl, .inl ⟨rfl, rfl⟩⟩ | exact ⟨_, rfl, .inl ⟨rfl, rfl⟩⟩ | exact ⟨rfl, rfl, _, rfl, .inl ⟨rfl, rfl⟩⟩
  · rintro k env blk hk ⟨h1, h8, h9, h10, c, h5, gc⟩
    by_cases hlt : k < l.length
    · have hlt' : ((k : Int) < (l.length : Int)) := by omega
      obtain ⟨p, hp⟩ := at_lt hlt
      have hpp := pcP_at hp
      have w1 := wrap_succ (n := k) (by omega)
      have pd := hd k p hp
      have hkl := keepK_len l drop k
      simp only [Pc.ps, List.map_cons, List.map_nil] at pd
      cases hb : drop k p with
      | true =>
        rw [hb] at pd
        have hs := keepK_drop hp hb
        simp only [↓Rd, Rt, Rl, Rb, gP_done, dP_done, Al.all_oks, plan, binV, binInt, eqV, isNilV, app, if_true, if_false, reduceIte, Nat.reduceEqDiff, beq_self_eq_true, reduceCtorEq, ge_iff_le, resultsV, noTup, tupV, fnOf, Nat.reduceAdd, rdAt, takeV, wrAt, splice, cellsV, lenL, ne_eq, Nat.reduceLeDiff, partsV, elemsV, toPss, toPs, toP, fill, Nat.reduceMul, Nat.reduceLT, snapHsl, snapHref, i71_l1, h1, h5, h8, h9, h10, hlt, hlt', hpp, Pc.ps, hn0, hn1, hsh, gP_bool pd, w1, frz, frzL, room, planSlice, boundOf, Nat.reduceSub, Int.reduceLT, Int.reduceAdd, Int.reduceBEq, Int.reduceBNe, Int.reduceLE, List.contains_eq_mem, frzL_nil, onesC, snap_hfn, snapHfn_some, snap_href_s, snap_hsl_s]
        refine ⟨c, rfl, ?_⟩
        rw [hs]
        exact gc.of_eq (by simp only [upd_apply, Nat.reduceEqDiff, if_false])
      | false =>
        rw [hb] at pd
        have hs := keepK_keep hp hb
        simp only [↓Rd, Rt, Rl, Rb, gP_done, dP_done, Al.all_oks, plan, binV, binInt, eqV, isNilV, app, if_true, if_false, reduceIte, Nat.reduceEqDiff, beq_self_eq_true, reduceCtorEq, ge_iff_le, resultsV, noTup, tupV, fnOf, Nat.reduceAdd, rdAt, takeV, wrAt, splice, cellsV, lenL, ne_eq, Nat.reduceLeDiff, partsV, elemsV, toPss, toPs, toP, fill, Nat.reduceMul, Nat.reduceLT, snapHsl, snapHref, i71_l1, h1, h5, h8, h9, h10, hlt, hlt', hpp, Pc.ps, hn0, hn1, hsh, gP_bool pd, frz, frzL, room, planSlice, boundOf, Nat.reduceSub, Int.reduceLT, Int.reduceAdd, Int.reduceBEq, Int.reduceBNe, Int.reduceLE, List.contains_eq_mem, frzL_nil, onesC, snap_hfn, snapHfn_some, snap_href_s, snap_hsl_s]
        refine gP_app (site := 4544384192) (id := 4544384192) (bytes := 56) (xs := [p.ps]) (rd := [4544384128]) (gc.of_eq (by simp only [upd_apply, Nat.reduceEqDiff, if_false])) (by simp [elemsOf, upd_apply, Pc.ps]) (.inl rfl) (by simp only [List.length_map, List.length_cons, List.length_nil]; omega) fun c' blk1 hc hbk => ?_
        simp only [↓Rd, Rt, Rl, Rb, gP_done, dP_done, Al.all_oks, plan, binV, binInt, eqV, isNilV, app, if_true, if_false, reduceIte, Nat.reduceEqDiff, beq_self_eq_true, reduceCtorEq, ge_iff_le, resultsV, noTup, tupV, fnOf, Nat.reduceAdd, rdAt, takeV, wrAt, splice, cellsV, lenL, ne_eq, Nat.reduceLeDiff, partsV, elemsV, toPss, toPs, toP, fill, Nat.reduceMul, Nat.reduceLT, snapHsl, snapHref, h1, h8, h9, h10, hlt, w1, frz, frzL, room, planSlice, boundOf, Nat.reduceSub, Int.reduceLT, Int.reduceAdd, Int.reduceBEq, Int.reduceBNe, Int.reduceLE, List.contains_eq_mem, frzL_nil, onesC, snap_hfn, snapHfn_some, snap_href_s, snap_hsl_s]
        refine ⟨c', rfl, ?_⟩
        rw [hs, pcP_app]
        exact hc
    · have : k = l.length := by omega
      subst this
      simp only [↓Rd, Rt, Rl, Rb, gP_done, dP_done, Al.all_oks, plan, binV, binInt, eqV, isNilV, app, if_true, if_false, reduceIte, Nat.reduceEqDiff, beq_self_eq_true, reduceCtorEq, ge_iff_le, resultsV, noTup, tupV, fnOf, Nat.reduceAdd, rdAt, takeV, wrAt, splice, cellsV, lenL, ne_eq, Nat.reduceLeDiff, partsV, elemsV, toPss, toPs, toP, fill, Nat.reduceMul, Nat.reduceLT, snapHsl, snapHref, i71_l1, i71_r2, h1, h5, h8, h9, h10, no_more, frz, frzL, room, planSlice, boundOf, Nat.reduceSub, Int.reduceLT, Int.reduceAdd, Int.reduceBEq, Int.reduceBNe, Int.reduceLE, List.contains_eq_mem, frzL_nil, onesC, snap_hfn, snapHfn_some, snap_href_s, snap_hsl_s]
      exact grown_out gc

theorem drop2_p (k i j : Nat) (p : Pc) : PEv S 72 [vi k, .agg (p.ps.map .p), .one (.p (.box [.int .i64 i])), .one (.p (.box [.int .i64 j]))] (rb (decide (k = i) || decide (k = j))) := by
  refine PEv_fn rfl c72 (Nat.le_of_ble_eq_true rfl) ?_
  by_cases h1 : k = i
  · have e1 : ((k : Int) == (i : Int)) = true := by simp [h1]
    rw [show (decide (k = i) || decide (k = j)) = true by simp [h1]]
    simp only [↓Rd, Rt, Rl, Rb, gP_done, dP_done, Al.all_oks, plan, binV, binInt, eqV, isNilV, app, if_true, if_false, reduceIte, Nat.reduceEqDiff, beq_self_eq_true, reduceCtorEq, ge_iff_le, resultsV, noTup, tupV, fnOf, Nat.reduceAdd, rdAt, takeV, wrAt, splice, cellsV, lenL, ne_eq, Nat.reduceLeDiff, partsV, elemsV, toPss, toPs, toP, fill, Nat.reduceMul, Nat.reduceLT, snapHsl, snapHref, i72, noBlk, Pc.ps, e1, planAppend, elemsOf, szOf, szOK, frz, frzL, room, planSlice, boundOf, Nat.reduceSub, Int.reduceLT, Int.reduceAdd, Int.reduceBEq, Int.reduceBNe, Int.reduceLE, List.contains_eq_mem, frzL_nil, onesC, snap_hfn, snapHfn_some, snap_href_s, snap_hsl_s]
  · have e1 : ((k : Int) == (i : Int)) = false := by simp; omega
    by_cases h2 : k = j
    · have e2 : ((k : Int) == (j : Int)) = true := by simp [h2]
      rw [show (decide (k = i) || decide (k = j)) = true by simp [h2]]
      simp only [↓Rd, Rt, Rl, Rb, gP_done, dP_done, Al.all_oks, plan, binV, binInt, eqV, isNilV, app, if_true, if_false, reduceIte, Nat.reduceEqDiff, beq_self_eq_true, reduceCtorEq, ge_iff_le, resultsV, noTup, tupV, fnOf, Nat.reduceAdd, rdAt, takeV, wrAt, splice, cellsV, lenL, ne_eq, Nat.reduceLeDiff, partsV, elemsV, toPss, toPs, toP, fill, Nat.reduceMul, Nat.reduceLT, snapHsl, snapHref, i72, noBlk, Pc.ps, e1, e2, planAppend, elemsOf, szOf, szOK, frz, frzL, room, planSlice, boundOf, Nat.reduceSub, Int.reduceLT, Int.reduceAdd, Int.reduceBEq, Int.reduceBNe, Int.reduceLE, List.contains_eq_mem, frzL_nil, onesC, snap_hfn, snapHfn_some, snap_href_s, snap_hsl_s]
    · have e2 : ((k : Int) == (j : Int)) = false := by simp; omega
      rw [show (decide (k = i) || decide (k = j)) = false by simp [h1, h2]]
      simp only [↓Rd, Rt, Rl, Rb, gP_done, dP_done, Al.all_oks, plan, binV, binInt, eqV, isNilV, app, if_true, if_false, reduceIte, Nat.reduceEqDiff, beq_self_eq_true, reduceCtorEq, ge_iff_le, resultsV, noTup, tupV, fnOf, Nat.reduceAdd, rdAt, takeV, wrAt, splice, cellsV, lenL, ne_eq, Nat.reduceLeDiff, partsV, elemsV, toPss, toPs, toP, fill, Nat.reduceMul, Nat.reduceLT, snapHsl, snapHref, i72, noBlk, Pc.ps, e1, e2, planAppend, elemsOf, szOf, szOK, frz, frzL, room, planSlice, boundOf, Nat.reduceSub, Int.reduceLT, Int.reduceAdd, Int.reduceBEq, Int.reduceBNe, Int.reduceLE, List.contains_eq_mem, frzL_nil, onesC, snap_hfn, snapHfn_some, snap_href_s, snap_hsl_s]
end Go.Abs
namespace Go.Abs
set_option maxRecDepth 100000
def mxI (a b : Int) : Int := if a < b then b else a
def mnI (a b : Int) : Int := if b < a then b else a
/-- two passes are taken away -/
def acR (ls : List Let) (av : Nat) : Option (List Pc) :=
  let p := (pieces ls).getD av ⟨noLet, false⟩
  let q := (pieces ls).getD ((av + 1) % ls.length) ⟨noLet, false⟩
  if (p.l.kind == 1) && ((q.l.kind == 1) && ((p.l.gate == q.l.gate) && ((mxI p.l.rank q.l.rank - mnI p.l.rank q.l.rank == 1) && !(decide (cnt Let.isP ls ≤ 2) && decide (0 < cnt Let.isC ls / 2)))))
  then some (shiftL (keepL (pieces ls) fun k _ => decide (k = av) || decide (k = (av + 1) % ls.length)) p.l.gate (mxI p.l.rank q.l.rank) (-2)) else none
theorem keepL_mem {l : List Pc} {drop : Nat → Pc → Bool} {p : Pc} (h : p ∈ keepL l drop) : p ∈ l := by
  obtain ⟨i, _, hi⟩ := List.mem_filterMap.1 h
  unfold keepAt at hi
  cases hl : l[i]? with
  | none => rw [hl] at hi; cases hi
  | some q =>
    rw [hl] at hi
    simp only at hi
    split at hi
    · cases hi
    · cases hi; exact List.mem_of_getElem? hl
set_option maxHeartbeats 16000000 in
theorem axisCut_p {F : Nat} {ls : List Let} (g : Fine F ls) {av : Nat} (ha : av < ls.length) {k b c : Int} {l o : Bool} {sg : Int} :
    PEv S 46 [.one (.p (brdV F ls)), mvV k av b c l o sg] (kR (acR ls av)) := by
  have hlen := g.len
  have hpl := pieces_len ls
  have pe := ends_p g ha
  have hm := Nat.mod_lt (av + 1) (show 0 < ls.length by omega)
  have hrb := rank_bound g
  obtain ⟨p, hp⟩ := at_lt (ls := pieces ls) (k := av) (by omega)
  obtain ⟨q, hq⟩ := at_lt (ls := pieces ls) (k := (av + 1) % ls.length) (by omega)
  obtain ⟨p1, p2⟩ := hrb p (List.mem_of_getElem? hp)
  obtain ⟨q1, q2⟩ := hrb q (List.mem_of_getElem? hq)
  have hpi := pcP_at hp
  have hpj := pcP_at hq
  have hsh : S.shared 73 = true := by kernel_rfl
  have lo : S.lone 2944320320 = false := by kernel_rfl
  have hcr := g.cr
  unfold acR
  simp only [List.getD_eq_getElem?_getD, hp, hq, Option.getD_some]
  refine PEv_fn rfl c46 (Nat.le_of_ble_eq_true rfl) ?_
  cases c1 : (p.l.kind == 1) with
  | false =>
    have n1 : (p.l.kind != 1) = true := by simp [bne, c1]
    simp only [↓Rd, Rt, Rl, Rb, gP_done, dP_done, Al.all_oks, plan, binV, binInt, eqV, isNilV, app, if_true, if_false, reduceIte, Nat.reduceEqDiff, beq_self_eq_true, reduceCtorEq, ge_iff_le, resultsV, noTup, tupV, fnOf, Nat.reduceAdd, rdAt, takeV, wrAt, splice, cellsV, lenL, ne_eq, Nat.reduceLeDiff, partsV, elemsV, toPss, toPs, toP, fill, Nat.reduceMul, Nat.reduceLT, snapHsl, snapHref, i46, noBlk, s70, gP_land pe land_tup, hpi, hpj, Pc.ps, hpl, ha, hm, n1, frz, frzL, room, planSlice, boundOf, Nat.reduceSub, Int.reduceLT, Int.reduceAdd, Int.reduceBEq, Int.reduceBNe, Int.reduceLE, List.contains_eq_mem, frzL_nil, onesC, snap_hfn, snapHfn_some, snap_href_s, snap_hsl_s]
    exact ⟨okd (by kernel_rfl), rfl⟩
  | true =>
  have n1 : (p.l.kind != 1) = false := by simp [bne, c1]
  cases c2 : (q.l.kind == 1) with
  | false =>
    have n2 : (q.l.kind != 1) = true := by simp [bne, c2]
    simp only [↓Rd, Rt, Rl, Rb, gP_done, dP_done, Al.all_oks, plan, binV, binInt, eqV, isNilV, app, if_true, if_false, reduceIte, Nat.reduceEqDiff, beq_self_eq_true, reduceCtorEq, ge_iff_le, resultsV, noTup, tupV, fnOf, Nat.reduceAdd, rdAt, takeV, wrAt, splice, cellsV, lenL, ne_eq, Nat.reduceLeDiff, partsV, elemsV, toPss, toPs, toP, fill, Nat.reduceMul, Nat.reduceLT, snapHsl, snapHref, i46, noBlk, s70, gP_land pe land_tup, hpi, hpj, Pc.ps, hpl, ha, hm, n1, n2, frz, frzL, room, planSlice, boundOf, Nat.reduceSub, Int.reduceLT, Int.reduceAdd, Int.reduceBEq, Int.reduceBNe, Int.reduceLE, List.contains_eq_mem, frzL_nil, onesC, snap_hfn, snapHfn_some, snap_href_s, snap_hsl_s]
    exact ⟨okd (by kernel_rfl), rfl⟩
  | true =>
  have n2 : (q.l.kind != 1) = false := by simp [bne, c2]
  cases c3 : (p.l.gate == q.l.gate) with
  | false =>
    have n3 : (p.l.gate != q.l.gate) = true := by simp [bne, c3]
    simp only [↓Rd, Rt, Rl, Rb, gP_done, dP_done, Al.all_oks, plan, binV, binInt, eqV, isNilV, app, if_true, if_false, reduceIte, Nat.reduceEqDiff, beq_self_eq_true, reduceCtorEq, ge_iff_le, resultsV, noTup, tupV, fnOf, Nat.reduceAdd, rdAt, takeV, wrAt, splice, cellsV, lenL, ne_eq, Nat.reduceLeDiff, partsV, elemsV, toPss, toPs, toP, fill, Nat.reduceMul, Nat.reduceLT, snapHsl, snapHref, i46, noBlk, s70, gP_land pe land_tup, hpi, hpj, Pc.ps, hpl, ha, hm, n1, n2, n3, frz, frzL, room, planSlice, boundOf, Nat.reduceSub, Int.reduceLT, Int.reduceAdd, Int.reduceBEq, Int.reduceBNe, Int.reduceLE, List.contains_eq_mem, frzL_nil, onesC, snap_hfn, snapHfn_some, snap_href_s, snap_hsl_s]
    exact ⟨okd (by kernel_rfl), rfl⟩
  | true =>
  have n3 : (p.l.gate != q.l.gate) = false := by simp [bne, c3]
  have hmx : (if q.l.rank > p.l.rank then q.l.rank else p.l.rank) = mxI p.l.rank q.l.rank := rfl
  have hmn : (if q.l.rank < p.l.rank then q.l.rank else p.l.rank) = mnI p.l.rank q.l.rank := rfl
  have hmxb : -1000000 ≤ mxI p.l.rank q.l.rank ∧ mxI p.l.rank q.l.rank ≤ 1000000 := by unfold mxI; split <;> omega
  have hmnb : -1000000 ≤ mnI p.l.rank q.l.rank ∧ mnI p.l.rank q.l.rank ≤ 1000000 := by unfold mnI; split <;> omega
  have wd := wrapI (x := mxI p.l.rank q.l.rank - mnI p.l.rank q.l.rank) (by omega) (by omega)
  generalize mxI p.l.rank q.l.rank = mx at *
  generalize mnI p.l.rank q.l.rank = mn at *
  cases c4 : (mx - mn == 1) with
  | false =>
    have n4 : (mx - mn != 1) = true := by simp [bne, c4]
    simp only [↓Rd, Rt, Rl, Rb, gP_done, dP_done, Al.all_oks, plan, binV, binInt, eqV, isNilV, app, if_true, if_false, reduceIte, Nat.reduceEqDiff, beq_self_eq_true, reduceCtorEq, ge_iff_le, resultsV, noTup, tupV, fnOf, Nat.reduceAdd, rdAt, takeV, wrAt, splice, cellsV, lenL, ne_eq, Nat.reduceLeDiff, partsV, elemsV, toPss, toPs, toP, fill, Nat.reduceMul, Nat.reduceLT, snapHsl, snapHref, i46, noBlk, s70, gP_land pe land_tup, hpi, hpj, Pc.ps, hpl, ha, hm, n1, n2, n3, hmx, hmn, wd, n4, frz, frzL, room, planSlice, boundOf, Nat.reduceSub, Int.reduceLT, Int.reduceAdd, Int.reduceBEq, Int.reduceBNe, Int.reduceLE, List.contains_eq_mem, frzL_nil, onesC, snap_hfn, snapHfn_some, snap_href_s, snap_hsl_s]
    exact ⟨okd (by kernel_rfl), rfl⟩
  | true =>
  have n4 : (mx - mn != 1) = false := by simp [bne, c4]
  have good : ∀ (X : Prop), X → X := fun _ h => h
  by_cases c5 : cnt Let.isP ls ≤ 2
  · have n5 : ((cnt Let.isP ls : Int) ≤ 2) := by omega
    by_cases c6 : 0 < cnt Let.isC ls / 2
    · have n6 : ((0 : Int) < ((cnt Let.isC ls / 2 : Nat) : Int)) := by omega
      rw [decide_eq_true c5, decide_eq_true c6]
      simp only [↓Rd, Rt, Rl, Rb, gP_done, dP_done, Al.all_oks, plan, binV, binInt, eqV, isNilV, app, if_true, if_false, reduceIte, Nat.reduceEqDiff, beq_self_eq_true, reduceCtorEq, ge_iff_le, resultsV, noTup, tupV, fnOf, Nat.reduceAdd, rdAt, takeV, wrAt, splice, cellsV, lenL, ne_eq, Nat.reduceLeDiff, partsV, elemsV, toPss, toPs, toP, fill, Nat.reduceMul, Nat.reduceLT, snapHsl, snapHref, i46, noBlk, s70, gP_land pe land_tup, hpi, hpj, Pc.ps, hpl, ha, hm, n1, n2, n3, hmx, hmn, wd, n4, n5, n6, frz, frzL, room, planSlice, boundOf, Nat.reduceSub, Int.reduceLT, Int.reduceAdd, Int.reduceBEq, Int.reduceBNe, Int.reduceLE, List.contains_eq_mem, frzL_nil, onesC, snap_hfn, snapHfn_some, snap_href_s, snap_hsl_s]
      exact ⟨okd (by kernel_rfl), rfl⟩
    · have n6 : ¬ ((0 : Int) < ((cnt Let.isC ls / 2 : Nat) : Int)) := by omega
      rw [decide_eq_true c5, decide_eq_false c6]
      simp only [↓Rd, Rt, Rl, Rb, gP_done, dP_done, Al.all_oks, plan, binV, binInt, eqV, isNilV, app, if_true, if_false, reduceIte, Nat.reduceEqDiff, beq_self_eq_true, reduceCtorEq, ge_iff_le, resultsV, noTup, tupV, fnOf, Nat.reduceAdd, rdAt, takeV, wrAt, splice, cellsV, lenL, ne_eq, Nat.reduceLeDiff, partsV, elemsV, toPss, toPs, toP, fill, Nat.reduceMul, Nat.reduceLT, snapHsl, snapHref, i46, noBlk, s70, gP_land pe land_tup, hpi, hpj, Pc.ps, hpl, ha, hm, n1, n2, n3, hmx, hmn, wd, n4, n5, n6, s71, frz, frzL, room, planSlice, boundOf, Nat.reduceSub, Int.reduceLT, Int.reduceAdd, Int.reduceBEq, Int.reduceBNe, Int.reduceLE, List.contains_eq_mem, frzL_nil, onesC, snap_hfn, snapHfn_some, snap_href_s, snap_hsl_s]
      refine ⟨okd (by kernel_rfl), ?_⟩
      refine gP_g1 (without2_p (pieces ls) (by omega) ⟨rfl, rfl⟩ s72 (fun k _ => decide (k = av) || decide (k = (av + 1) % ls.length)) (fun k p _ => drop2_p k av ((av + 1) % ls.length) p)) lo (.inr (alone_grown (sc_pc _))) fun cc blk1 gc hb => ?_
      have b8 := hb 2944128896 (by decide)
      have b9 := hb 2944128960 (by decide)
      simp only [↓Rd, Rt, Rl, Rb, gP_done, dP_done, Al.all_oks, plan, binV, binInt, eqV, isNilV, app, if_true, if_false, reduceIte, Nat.reduceEqDiff, beq_self_eq_true, reduceCtorEq, ge_iff_le, resultsV, noTup, tupV, fnOf, Nat.reduceAdd, rdAt, takeV, wrAt, splice, cellsV, lenL, ne_eq, Nat.reduceLeDiff, partsV, elemsV, toPss, toPs, toP, fill, Nat.reduceMul, Nat.reduceLT, snapHsl, snapHref] at b8 b9
      simp only [↓Rd, Rt, Rl, Rb, gP_done, dP_done, Al.all_oks, plan, binV, binInt, eqV, isNilV, app, if_true, if_false, reduceIte, Nat.reduceEqDiff, beq_self_eq_true, reduceCtorEq, ge_iff_le, resultsV, noTup, tupV, fnOf, Nat.reduceAdd, rdAt, takeV, wrAt, splice, cellsV, lenL, ne_eq, Nat.reduceLeDiff, partsV, elemsV, toPss, toPs, toP, fill, Nat.reduceMul, Nat.reduceLT, snapHsl, snapHref, b8, b9, hmx, hsh, frz, frzL, room, planSlice, boundOf, Nat.reduceSub, Int.reduceLT, Int.reduceAdd, Int.reduceBEq, Int.reduceBNe, Int.reduceLE, List.contains_eq_mem, frzL_nil, onesC, snap_hfn, snapHfn_some, snap_href_s, snap_hsl_s]
      refine gP_shift (l := keepL (pieces ls) fun k _ => decide (k = av) || decide (k = (av + 1) % ls.length)) (Nat.le_trans (keepK_len _ _ _) (by omega)) (by decide) (fun x hx => hrb x (keepL_mem hx)) gc fun blk2 gc2 hb2 => ?_
      simp only [↓Rd, Rt, Rl, Rb, gP_done, dP_done, Al.all_oks, plan, binV, binInt, eqV, isNilV, app, if_true, if_false, reduceIte, Nat.reduceEqDiff, beq_self_eq_true, reduceCtorEq, ge_iff_le, resultsV, noTup, tupV, fnOf, Nat.reduceAdd, rdAt, takeV, wrAt, splice, cellsV, lenL, ne_eq, Nat.reduceLeDiff, partsV, elemsV, toPss, toPs, toP, fill, Nat.reduceMul, Nat.reduceLT, snapHsl, snapHref, frz, frzL, room, planSlice, boundOf, Nat.reduceSub, Int.reduceLT, Int.reduceAdd, Int.reduceBEq, Int.reduceBNe, Int.reduceLE, List.contains_eq_mem, frzL_nil, onesC, snap_hfn, snapHfn_some, snap_href_s, snap_hsl_s]
      exact grown_out1 gc2
  · have n5 : ¬ ((cnt Let.isP ls : Int) ≤ 2) := by omega
    rw [decide_eq_false c5]
    simp only [↓Rd, Rt, Rl, Rb, gP_done, dP_done, Al.all_oks, plan, binV, binInt, eqV, isNilV, app, if_true, if_false, reduceIte, Nat.reduceEqDiff, beq_self_eq_true, reduceCtorEq, ge_iff_le, resultsV, noTup, tupV, fnOf, Nat.reduceAdd, rdAt, takeV, wrAt, splice, cellsV, lenL, ne_eq, Nat.reduceLeDiff, partsV, elemsV, toPss, toPs, toP, fill, Nat.reduceMul, Nat.reduceLT, snapHsl, snapHref, i46, noBlk, s70, gP_land pe land_tup, hpi, hpj, Pc.ps, hpl, ha, hm, n1, n2, n3, hmx, hmn, wd, n4, n5, s71, frz, frzL, room, planSlice, boundOf, Nat.reduceSub, Int.reduceLT, Int.reduceAdd, Int.reduceBEq, Int.reduceBNe, Int.reduceLE, List.contains_eq_mem, frzL_nil, onesC, snap_hfn, snapHfn_some, snap_href_s, snap_hsl_s]
    refine ⟨okd (by kernel_rfl), ?_⟩
    refine gP_g1 (without2_p (pieces ls) (by omega) ⟨rfl, rfl⟩ s72 (fun k _ => decide (k = av) || decide (k = (av + 1) % ls.length)) (fun k p _ => drop2_p k av ((av + 1) % ls.length) p)) lo (.inr (alone_grown (sc_pc _))) fun cc blk1 gc hb => ?_
    have b8 := hb 2944128896 (by decide)
    have b9 := hb 2944128960 (by decide)
    simp only [↓Rd, Rt, Rl, Rb, gP_done, dP_done, Al.all_oks, plan, binV, binInt, eqV, isNilV, app, if_true, if_false, reduceIte, Nat.reduceEqDiff, beq_self_eq_true, reduceCtorEq, ge_iff_le, resultsV, noTup, tupV, fnOf, Nat.reduceAdd, rdAt, takeV, wrAt, splice, cellsV, lenL, ne_eq, Nat.reduceLeDiff, partsV, elemsV, toPss, toPs, toP, fill, Nat.reduceMul, Nat.reduceLT, snapHsl, snapHref] at b8 b9
    simp only [↓Rd, Rt, Rl, Rb, gP_done, dP_done, Al.all_oks, plan, binV, binInt, eqV, isNilV, app, if_true, if_false, reduceIte, Nat.reduceEqDiff, beq_self_eq_true, reduceCtorEq, ge_iff_le, resultsV, noTup, tupV, fnOf, Nat.reduceAdd, rdAt, takeV, wrAt, splice, cellsV, lenL, ne_eq, Nat.reduceLeDiff, partsV, elemsV, toPss, toPs, toP, fill, Nat.reduceMul, Nat.reduceLT, snapHsl, snapHref, b8, b9, hmx, hsh, frz, frzL, room, planSlice, boundOf, Nat.reduceSub, Int.reduceLT, Int.reduceAdd, Int.reduceBEq, Int.reduceBNe, Int.reduceLE, List.contains_eq_mem, frzL_nil, onesC, snap_hfn, snapHfn_some, snap_href_s, snap_hsl_s]
    refine gP_shift (l := keepL (pieces ls) fun k _ => decide (k = av) || decide (k = (av + 1) % ls.length)) (Nat.le_trans (keepK_len _ _ _) (by omega)) (by decide) (fun x hx => hrb x (keepL_mem hx)) gc fun blk2 gc2 hb2 => ?_
    simp only [↓Rd, Rt, Rl, Rb, gP_done, dP_done, Al.all_oks, plan, binV, binInt, eqV, isNilV, app, if_true, if_false, reduceIte, Nat.reduceEqDiff, beq_self_eq_true, reduceCtorEq, ge_iff_le, resultsV, noTup, tupV, fnOf, Nat.reduceAdd, rdAt, takeV, wrAt, splice, cellsV, lenL, ne_eq, Nat.reduceLeDiff, partsV, elemsV, toPss, toPs, toP, fill, Nat.reduceMul, Nat.reduceLT, snapHsl, snapHref, frz, frzL, room, planSlice, boundOf, Nat.reduceSub, Int.reduceLT, Int.reduceAdd, Int.reduceBEq, Int.reduceBNe, Int.reduceLE, List.contains_eq_mem, frzL_nil, onesC, snap_hfn, snapHfn_some, snap_href_s, snap_hsl_s]
    exact grown_out1 gc2
end Go.Abs
