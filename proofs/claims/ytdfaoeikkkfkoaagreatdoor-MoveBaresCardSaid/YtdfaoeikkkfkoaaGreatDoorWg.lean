/-
  What lies below the axis, and what lies between two places.
-/
import Derived.Test.YtdfaoeikkkfkoaaGreatDoorWf
set_option linter.unusedSimpArgs false
set_option linter.unusedVariables false
set_option linter.unusedSectionVars false
namespace Go.Abs
set_option maxRecDepth 100000
/-- below the axis, for the first k edges -/
def belK (ls : List Let) (k : Nat) : List Bool := (List.range ls.length).map fun i => decide (i < k) && !dn ls (i + 1)
theorem belK_len (ls : List Let) (k : Nat) : (belK ls k).length = ls.length := by simp [belK]
theorem belK_zero (ls : List Let) : belK ls 0 = List.replicate ls.length false := by
  refine List.ext_getElem? fun i => ?_
  simp only [belK, List.getElem?_map, List.getElem?_replicate]
  by_cases h : i < ls.length
  · simp [List.getElem?_range h, h]
  · rw [List.getElem?_eq_none (by simpa using h), if_neg h]; rfl
theorem belK_set (ls : List Let) (k : Nat) : belK ls (k + 1) = (belK ls k).set k (!dn ls (k + 1)) := by
  refine List.ext_getElem? fun i => ?_
  rw [List.getElem?_set, belK_len]
  simp only [belK, List.getElem?_map]
  by_cases h : i < ls.length
  · rw [List.getElem?_range h]
    by_cases e : k = i
    · subst e; simp [h]
    · simp only [Option.map_some, e, if_false]
      congr 2
      exact decide_eq_decide.2 (by omega)
  · rw [List.getElem?_eq_none (by simpa using h)]
    by_cases e : k = i
    · subst e; rw [if_pos rfl, if_neg h]; rfl
    · rw [if_neg e]; rfl
abbrev belL (ls : List Let) : List Bool := belK ls ls.length
theorem belL_at {ls : List Let} {i : Nat} (h : i < ls.length) : (belL ls)[i]? = some (!dn ls (i + 1)) := by simp [belK, h]
theorem below_p {F : Nat} {ls : List Let} (ok : dgOK F ls) : PEv S 42 [.one (.p (dgV F ls))] (.one (.own 4 1 (bP (belL ls)))) := by
  have hl := ok.hl
  have hroom : ls.length ≤ 140737488355328 := by omega
  have hrep : List.replicate ls.length [PV.bool false] = bP (belK ls 0) := by rw [belK_zero]; simp
  refine PEv_fn rfl c42 (Nat.le_of_ble_eq_true rfl) ?_
  simp only [↓Rd, Rt, Rl, Rb, gP_done, dP_done, Al.all_oks, plan, binV, binInt, eqV, isNilV, app, if_true, if_false, reduceIte, Nat.reduceEqDiff, beq_self_eq_true, reduceCtorEq, ge_iff_le, resultsV, noTup, tupV, fnOf, Nat.reduceAdd, rdAt, takeV, wrAt, splice, cellsV, lenL, ne_eq, Nat.reduceLeDiff, partsV, elemsV, toPss, toPs, toP, fill, Nat.reduceMul, Nat.reduceLT, snapHsl, snapHref, i42, noBlk, hroom, hrep, planAppend, elemsOf, szOf, szOK, frz, frzL, room, planSlice, boundOf, Nat.reduceSub, Int.reduceLT, Int.reduceAdd, Int.reduceBEq, Int.reduceBNe, Int.reduceLE, List.contains_eq_mem, frzL_nil, onesC, snap_hfn, snapHfn_some, snap_href_s, snap_hsl_s]
  refine R_for (fun k env blk => env 0 = .one (.p (dgV F ls)) ∧ env 3 = .one (.hsl 2688064384 1 1 0 ls.length) ∧ blk 2688064384 = (1, some (.arr 4 1 (bP (belK ls k)))) ∧
      env 4 = vb (!dn ls k) ∧ env 18 = .one (.p (lsP ls)) ∧ env 19 = vi ls.length ∧ env 20 = vi k) 0 ls.length (Nat.zero_le _) ?_ ?_
  · simp only [↓Rd, Rt, Rl, Rb, gP_done, dP_done, Al.all_oks, plan, binV, binInt, eqV, isNilV, app, if_true, if_false, reduceIte, Nat.reduceEqDiff, beq_self_eq_true, reduceCtorEq, ge_iff_le, resultsV, noTup, tupV, fnOf, Nat.reduceAdd, rdAt, takeV, wrAt, splice, cellsV, lenL, ne_eq, Nat.reduceLeDiff, partsV, elemsV, toPss, toPs, toP, fill, Nat.reduceMul, Nat.reduceLT, snapHsl, snapHref]
    first | exact ⟨rfl, rfl⟩ | exact ⟨rfl, rfl, rfl⟩ | exact ⟨rfl, rfl, rfl, rfl⟩ | exact rfl
  · rintro k env blk hk ⟨h0, h3, hA, h4, h18, h19, h20⟩
    by_cases hlt : k < ls.length
    · obtain ⟨l, hk1⟩ := at_lt hlt
      have hi := ps_of hk1
      have hlt' : ((k : Int) < (ls.length : Int)) := by omega
      have w1 := wrap_succ (n := k) (by omega)
      have hlen : k < (belK ls k).length := by rw [belK_len]; exact hlt
      obtain ⟨b0, hb0⟩ := at_lt hlen
      have hbp := bP_at hb0
      have hset := bP_set (belK ls k) k (!dn ls (k + 1))
      rw [← belK_set] at hset
      cases hp : (l.kind == 1) with
      | true =>
        have hd := dn_hit hk1 hp
        have hdat := bP_at (downs_at hk1 hp)
        rw [hd] at hset
        rw [Bool.not_not] at hset
        simp only [↓Rd, Rt, Rl, Rb, gP_done, dP_done, Al.all_oks, plan, binV, binInt, eqV, isNilV, app, if_true, if_false, reduceIte, Nat.reduceEqDiff, beq_self_eq_true, reduceCtorEq, ge_iff_le, resultsV, noTup, tupV, fnOf, Nat.reduceAdd, rdAt, takeV, wrAt, splice, cellsV, lenL, ne_eq, Nat.reduceLeDiff, partsV, elemsV, toPss, toPs, toP, fill, Nat.reduceMul, Nat.reduceLT, snapHsl, snapHref, i42_l1, h0, h3, hA, h4, h18, h19, h20, hi, ps_len, Let.ps, hlt, hlt', w1, hp, hdat, hbp, hset, hd, Bool.not_not, planAppend, elemsOf, szOf, szOK, frz, frzL, room, planSlice, boundOf, Nat.reduceSub, Int.reduceLT, Int.reduceAdd, Int.reduceBEq, Int.reduceBNe, Int.reduceLE, List.contains_eq_mem, frzL_nil, onesC, snap_hfn, snapHfn_some, snap_href_s, snap_hsl_s]
      | false =>
        have hd := dn_miss hk1 hp
        rw [hd] at hset
        simp only [↓Rd, Rt, Rl, Rb, gP_done, dP_done, Al.all_oks, plan, binV, binInt, eqV, isNilV, app, if_true, if_false, reduceIte, Nat.reduceEqDiff, beq_self_eq_true, reduceCtorEq, ge_iff_le, resultsV, noTup, tupV, fnOf, Nat.reduceAdd, rdAt, takeV, wrAt, splice, cellsV, lenL, ne_eq, Nat.reduceLeDiff, partsV, elemsV, toPss, toPs, toP, fill, Nat.reduceMul, Nat.reduceLT, snapHsl, snapHref, i42_l1, h0, h3, hA, h4, h18, h19, h20, hi, ps_len, Let.ps, hlt, hlt', w1, hp, hbp, hset, hd, planAppend, elemsOf, szOf, szOK, frz, frzL, room, planSlice, boundOf, Nat.reduceSub, Int.reduceLT, Int.reduceAdd, Int.reduceBEq, Int.reduceBNe, Int.reduceLE, List.contains_eq_mem, frzL_nil, onesC, snap_hfn, snapHfn_some, snap_href_s, snap_hsl_s]
    · have : k = ls.length := by omega
      subst this
      simp only [↓Rd, Rt, Rl, Rb, gP_done, dP_done, Al.all_oks, plan, binV, binInt, eqV, isNilV, app, if_true, if_false, reduceIte, Nat.reduceEqDiff, beq_self_eq_true, reduceCtorEq, ge_iff_le, resultsV, noTup, tupV, fnOf, Nat.reduceAdd, rdAt, takeV, wrAt, splice, cellsV, lenL, ne_eq, Nat.reduceLeDiff, partsV, elemsV, toPss, toPs, toP, fill, Nat.reduceMul, Nat.reduceLT, snapHsl, snapHref, i42_l1, i42_r2, h0, h3, hA, h4, h18, h19, h20, no_more, planAppend, elemsOf, szOf, szOK, frz, frzL, room, planSlice, boundOf, Nat.reduceSub, Int.reduceLT, Int.reduceAdd, Int.reduceBEq, Int.reduceBNe, Int.reduceLE, List.contains_eq_mem, frzL_nil, onesC, snap_hfn, snapHfn_some, snap_href_s, snap_hsl_s]
      exact outV_own hA (by simp [belK])
/-- what between leaves -/
abbrev isBt (id : Nat) : Prop := siteFn id = 104
theorem spanP_at {g r T k : Nat} (h : k ≤ T - g) : (spanP g r T)[k]? = some (g + k, if k = 0 then r else 0) := by
  cases k with
  | zero => rfl
  | succ k =>
    unfold spanP
    rw [List.getElem?_cons_succ, List.getElem?_map, List.getElem?_range (by omega)]
    simp; omega
theorem spanF_at {g T k : Nat} (h : k < T - g) : (spanF g T)[k]? = some (g + 1 + k) := by
  unfold spanF
  rw [List.getElem?_map, List.getElem?_range h]; rfl
def btPost (g r T : Nat) (ps fs : List (List PV)) (i1 i2 : Nat) (blk : Blk) (v : V) (blk' : Blk) : Prop :=
  ∃ c1 c2 j2, v = .tup [.one c1, .one c2] ∧ grown 6656320192 plTy 2 (ps ++ plP (spanP g r T)) (.one c1) blk' ∧ grown j2 3 1 (fs ++ nP (spanF g T)) (.one c2) blk' ∧ (j2 = i2 ∨ j2 = 6656256256) ∧
    Kept (fun id => isBt id ∨ id = i1 ∨ id = i2) blk blk'
def bt1 : List Nat := [6656000000, 6656000064, 6656128128, 6656256192, 6656256256, 6656320128]
def bt2 : List Nat := [6656000000, 6656000064, 6656128128, 6656128192, 6656256192, 6656320128, 6656320192]
set_option maxHeartbeats 4000000 in
theorem between_s {al : Al} {blk : Blk} {g r T t i1 i2 : Nat} {ps fs : List (List PV)} {c1 c2 : C} (okf : ∀ id, isBt id → al.ok id = true) (o1 : al.ok i1 = true) (o2 : al.ok i2 = true) (hT : g ≤ T) (ht : t = if T = g then r else 0) (hb : T ≤ 1000) (hps : ps.length ≤ 1000000) (hfs : fs.length ≤ 1000000)
    (n12 : i1 ≠ i2) (nb1 : i1 ∉ bt1) (nb2 : i2 ∉ bt2) (h1 : grown i1 plTy 2 ps (.one c1) blk) (h2 : grown i2 3 1 fs (.one c2) blk) :
    ∃ v blk', SEv S 104 [.agg [.p (.int .i64 g), .p (.int .i64 r)], .agg [.p (.int .i64 T), .p (.int .i64 t)], .one c1, .one c2] al blk v blk' ∧ btPost g r T ps fs i1 i2 blk v blk' := by
  have k0 : al.ok 6656000000 = true := okf _ rfl
  have k64 : al.ok 6656000064 = true := okf _ rfl
  have kb1 : al.ok 6656128128 = true := okf _ rfl
  have ka1 : al.ok 6656128192 = true := okf _ rfl
  have kb2 : al.ok 6656256192 = true := okf _ rfl
  have ka2 : al.ok 6656256256 = true := okf _ rfl
  have kb3 : al.ok 6656320128 = true := okf _ rfl
  have ka3 : al.ok 6656320192 = true := okf _ rfl
  refine SEv_fn c104 (Nat.le_of_ble_eq_true rfl) ?_
  simp only [↓Rd, Rt, Rl, Rb, gP_done_al, dP_done_al, oks_nil, oks_cons, Bool.and_self, plan, binV, binInt, eqV, isNilV, app, if_true, if_false, reduceIte, Nat.reduceEqDiff, beq_self_eq_true, reduceCtorEq, ge_iff_le, resultsV, noTup, tupV, fnOf, Nat.reduceAdd, rdAt, takeV, wrAt, splice, cellsV, lenL, ne_eq, Nat.reduceLeDiff, partsV, elemsV, toPss, toPs, toP, fill, Nat.reduceMul, Nat.reduceLT, snapHsl, snapHref, i104, k0, k64, frz, frzL, room, planSlice, boundOf, Nat.reduceSub, Int.reduceLT, Int.reduceAdd, Int.reduceBEq, Int.reduceBNe, Int.reduceLE, List.contains_eq_mem, frzL_nil, onesC, snap_hfn, snapHfn_some, snap_href_s, snap_hsl_s]
  have lenP := spanP_len g r T
  have lenF := spanF_len g T
  refine R_for (fun k env blk' => env 4 = .one (.href 6656000000 ((blk 6656000000).1 + 1) 0) ∧ env 5 = .one (.href 6656000064 ((blk 6656000064).1 + 1) 0) ∧
      blk' 6656000000 = ((blk 6656000000).1 + 1, some (.var [.p (.int .i64 ((g + k : Nat) : Int)), .p (.int .i64 ((if k = 0 then r else 0 : Nat) : Int))])) ∧ blk' 6656000064 = ((blk 6656000064).1 + 1, some (.var [.p (.int .i64 T), .p (.int .i64 t)])) ∧
      ∃ d1 d2 j1 j2, env 2 = .one d1 ∧ env 3 = .one d2 ∧ (j1 = i1 ∨ j1 = 6656128192) ∧ (j2 = i2 ∨ j2 = 6656256256) ∧ grown j1 plTy 2 (ps ++ plP ((spanP g r T).take k)) (.one d1) blk' ∧ grown j2 3 1 (fs ++ nP ((spanF g T).take k)) (.one d2) blk' ∧ Kept (fun id => isBt id ∨ id = i1 ∨ id = i2) blk blk') 0 (T - g) (Nat.zero_le _) ?_ ?_
  · simp only [↓Rd, Rt, Rl, Rb, gP_done_al, dP_done_al, oks_nil, oks_cons, Bool.and_self, plan, binV, binInt, eqV, isNilV, app, if_true, if_false, reduceIte, Nat.reduceEqDiff, beq_self_eq_true, reduceCtorEq, ge_iff_le, resultsV, noTup, tupV, fnOf, Nat.reduceAdd, rdAt, takeV, wrAt, splice, cellsV, lenL, ne_eq, Nat.reduceLeDiff, partsV, elemsV, toPss, toPs, toP, fill, Nat.reduceMul, Nat.reduceLT, snapHsl, snapHref, frz, frzL, room, planSlice, boundOf, Nat.reduceSub, Int.reduceLT, Int.reduceAdd, Int.reduceBEq, Int.reduceBNe, Int.reduceLE, List.contains_eq_mem, frzL_nil, onesC, snap_hfn, snapHfn_some, snap_href_s, snap_hsl_s]
    refine ⟨rfl, c1, c2, i1, i2, rfl, rfl, .inl rfl, .inl rfl, ?_, ?_, ?_⟩
    · exact (h1.of_eq (upd_ne (ne_of' nb1 (by simp [bt1])))).of_eq (upd_ne (ne_of' nb1 (by simp [bt1])))
    · exact (h2.of_eq (upd_ne (ne_of' nb2 (by simp [bt2])))).of_eq (upd_ne (ne_of' nb2 (by simp [bt2])))
    · exact ((Kept.refl _ _).upd (.inl rfl) _).upd (.inl rfl) _
  · rintro k env blk' hk ⟨h4, h5, hA, hB, d1, d2, j1, j2, e2, e3, q1, q2, g1, g2, hkp⟩
    have oj1 : al.ok j1 = true := by rcases q1 with rfl | rfl <;> assumption
    have oj2 : al.ok j2 = true := by rcases q2 with rfl | rfl <;> assumption
    have n1 : ∀ a, a ∈ bt1 → j1 ≠ a := fun a ha e => by
      rcases q1 with rfl | rfl
      · exact nb1 (e ▸ ha)
      · exact absurd (e ▸ ha) (by decide)
    have n2 : ∀ a, a ∈ bt2 → j2 ≠ a := fun a ha e => by
      rcases q2 with rfl | rfl
      · exact nb2 (e ▸ ha)
      · exact absurd (e ▸ ha) (by decide)
    have n3 : j1 ≠ j2 := fun e => by
      rcases q1 with rfl | rfl
      · rcases q2 with rfl | rfl
        · exact n12 e
        · exact n1 _ (by decide) e
      · exact n2 _ (by decide) e.symm
    have kj1 : isBt j1 ∨ j1 = i1 ∨ j1 = i2 := by
      rcases q1 with rfl | rfl
      · exact .inr (.inl rfl)
      · exact .inl rfl
    have kj2 : isBt j2 ∨ j2 = i1 ∨ j2 = i2 := by
      rcases q2 with rfl | rfl
      · exact .inr (.inr rfl)
      · exact .inl rfl
    have ltk : ((spanP g r T).take k).length = k := by rw [List.length_take]; omega
    have ltf : ((spanF g T).take k).length = k := by rw [List.length_take]; omega
    by_cases hlt : k < T - g
    · have hlt' : (((g + k : Nat) : Int) < (T : Int)) := by omega
      have w1 : IntKind.i64.wrap (((g + k : Nat) : Int) + 1) = ((g + (k + 1) : Nat) : Int) := wrap_succ (n := g + k) (by omega)
      have hp : plP ((spanP g r T).take (k + 1)) = plP ((spanP g r T).take k) ++ [[.int .i64 ((g + k : Nat) : Int), .int .i64 ((if k = 0 then r else 0 : Nat) : Int)]] := by
        rw [List.take_add_one, spanP_at (by omega), plP_app]; rfl
      have hf : nP ((spanF g T).take (k + 1)) = nP ((spanF g T).take k) ++ [[.int .i64 ((g + (k + 1) : Nat) : Int)]] := by
        rw [List.take_add_one, spanF_at hlt, nP_app, show g + 1 + k = g + (k + 1) by omega]; rfl
      simp only [↓Rd, Rt, Rl, Rb, gP_done_al, dP_done_al, oks_nil, oks_cons, Bool.and_self, plan, binV, binInt, eqV, isNilV, app, if_true, if_false, reduceIte, Nat.reduceEqDiff, beq_self_eq_true, reduceCtorEq, ge_iff_le, resultsV, noTup, tupV, fnOf, Nat.reduceAdd, rdAt, takeV, wrAt, splice, cellsV, lenL, ne_eq, Nat.reduceLeDiff, partsV, elemsV, toPss, toPs, toP, fill, Nat.reduceMul, Nat.reduceLT, snapHsl, snapHref, i104_l1, h4, h5, hA, hB, e2, e3, hlt, hlt', k0, k64, kb1, frz, frzL, room, planSlice, boundOf, Nat.reduceSub, Int.reduceLT, Int.reduceAdd, Int.reduceBEq, Int.reduceBNe, Int.reduceLE, List.contains_eq_mem, frzL_nil, onesC, snap_hfn, snapHfn_some, snap_href_s, snap_hsl_s]
      refine gP_appA (id := j1) (site := 6656128192) (bytes := 16) (xs := [[.int .i64 ((g + k : Nat) : Int), .int .i64 ((if k = 0 then r else 0 : Nat) : Int)]]) (rd := [6656128128]) (by simp [ka1, oj1, kb1]) (g1.of_eq (upd_ne (n1 _ (by decide)))) (by simp [elemsOf, upd_apply]) (.inl rfl) (by simp only [List.length_append, List.length_map, ltk, List.length_cons, List.length_nil]; omega) fun c blk2 hc hb2 => ?_
      have hA2 := (hb2 6656000000 (by decide) (n1 _ (by decide)).symm).trans ((upd_ne (by decide)).trans hA)
      have hB2 := (hb2 6656000064 (by decide) (n1 _ (by decide)).symm).trans ((upd_ne (by decide)).trans hB)
      simp only [↓Rd, Rt, Rl, Rb, gP_done_al, dP_done_al, oks_nil, oks_cons, Bool.and_self, plan, binV, binInt, eqV, isNilV, app, if_true, if_false, reduceIte, Nat.reduceEqDiff, beq_self_eq_true, reduceCtorEq, ge_iff_le, resultsV, noTup, tupV, fnOf, Nat.reduceAdd, rdAt, takeV, wrAt, splice, cellsV, lenL, ne_eq, Nat.reduceLeDiff, partsV, elemsV, toPss, toPs, toP, fill, Nat.reduceMul, Nat.reduceLT, snapHsl, snapHref, h4, h5, hA2, hB2, e2, e3, w1, k0, k64, kb2, frz, frzL, room, planSlice, boundOf, Nat.reduceSub, Int.reduceLT, Int.reduceAdd, Int.reduceBEq, Int.reduceBNe, Int.reduceLE, List.contains_eq_mem, frzL_nil, onesC, snap_hfn, snapHfn_some, snap_href_s, snap_hsl_s]
      refine gP_appA (id := j2) (site := 6656256256) (bytes := 8) (xs := [[.int .i64 ((g + (k + 1) : Nat) : Int)]]) (rd := [6656256192]) (by simp [ka2, oj2, kb2]) (g2.of_eq ((upd_ne (n2 _ (by decide))).trans ((upd_ne (n2 _ (by decide))).trans ((hb2 _ (n2 _ (by decide)) n3.symm).trans (upd_ne (n2 _ (by decide))))))) (by simp [elemsOf, upd_apply]) (.inl rfl) (by simp only [List.length_append, List.length_map, ltf, List.length_cons, List.length_nil]; omega) fun c' blk3 hc' hb3 => ?_
      have hA3 := (hb3 6656000000 (by decide) (n2 _ (by decide)).symm).trans ((upd_ne (by decide)).trans upd_eq)
      have hB3 := (hb3 6656000064 (by decide) (n2 _ (by decide)).symm).trans ((upd_ne (by decide)).trans ((upd_ne (by decide)).trans hB2))
      simp only [↓Rd, Rt, Rl, Rb, gP_done_al, dP_done_al, oks_nil, oks_cons, Bool.and_self, plan, binV, binInt, eqV, isNilV, app, if_true, if_false, reduceIte, Nat.reduceEqDiff, beq_self_eq_true, reduceCtorEq, ge_iff_le, resultsV, noTup, tupV, fnOf, Nat.reduceAdd, rdAt, takeV, wrAt, splice, cellsV, lenL, ne_eq, Nat.reduceLeDiff, partsV, elemsV, toPss, toPs, toP, fill, Nat.reduceMul, Nat.reduceLT, snapHsl, snapHref, h4, h5, hA3, hB3, e2, e3, hlt, frz, frzL, room, planSlice, boundOf, Nat.reduceSub, Int.reduceLT, Int.reduceAdd, Int.reduceBEq, Int.reduceBNe, Int.reduceLE, List.contains_eq_mem, frzL_nil, onesC, snap_hfn, snapHfn_some, snap_href_s, snap_hsl_s]
      refine ⟨rfl, c, c', 6656128192, 6656256256, rfl, rfl, .inr rfl, .inr rfl, ?_, ?_, fun id hn => ?_⟩
      · rw [hp, ← List.append_assoc]
        exact hc.of_eq ((hb3 _ (by decide) (n2 _ (by decide)).symm).trans ((upd_ne (by decide)).trans (upd_ne (by decide))))
      · rw [hf, ← List.append_assoc]
        exact hc'
      · have a : ∀ x, isBt x → id ≠ x := fun x hx e => hn (.inl (e ▸ hx))
        have b1 : id ≠ j1 := fun e => hn (e ▸ kj1)
        have b2 : id ≠ j2 := fun e => hn (e ▸ kj2)
        exact (hb3 id (a _ rfl) b2).trans ((upd_ne (a _ rfl)).trans ((upd_ne (a _ rfl)).trans ((hb2 id (a _ rfl) b1).trans ((upd_ne (a _ rfl)).trans (hkp id hn)))))
    · have : k = T - g := by omega
      subst this
      have hlt' : ¬ (((g + (T - g) : Nat) : Int) < (T : Int)) := by omega
      simp only [↓Rd, Rt, Rl, Rb, gP_done_al, dP_done_al, oks_nil, oks_cons, Bool.and_self, plan, binV, binInt, eqV, isNilV, app, if_true, if_false, reduceIte, Nat.reduceEqDiff, beq_self_eq_true, reduceCtorEq, ge_iff_le, resultsV, noTup, tupV, fnOf, Nat.reduceAdd, rdAt, takeV, wrAt, splice, cellsV, lenL, ne_eq, Nat.reduceLeDiff, partsV, elemsV, toPss, toPs, toP, fill, Nat.reduceMul, Nat.reduceLT, snapHsl, snapHref, i104_l1, i104_r2, h4, h5, hA, hB, e2, e3, hlt', k0, k64, kb3, frz, frzL, room, planSlice, boundOf, Nat.reduceSub, Int.reduceLT, Int.reduceAdd, Int.reduceBEq, Int.reduceBNe, Int.reduceLE, List.contains_eq_mem, frzL_nil, onesC, snap_hfn, snapHfn_some, snap_href_s, snap_hsl_s]
      have hlast : plP (spanP g r T) = plP ((spanP g r T).take (T - g)) ++ [[.int .i64 (T : Int), .int .i64 (t : Int)]] := by
        have h1 := List.take_add_one (l := spanP g r T) (i := T - g)
        rw [spanP_at (Nat.le_refl _), List.take_of_length_le (show (spanP g r T).length ≤ T - g + 1 by omega)] at h1
        have e1 : g + (T - g) = T := by omega
        have e2 : (if T - g = 0 then r else 0) = t := by
          rw [ht]
          by_cases h : T = g
          · rw [if_pos h, if_pos (by omega)]
          · rw [if_neg h, if_neg (by omega)]
        rw [e1, e2] at h1
        exact (congrArg (fun l : List (Nat × Nat) => plP l) h1).trans (plP_app _ _)
      have hall : (spanF g T).take (T - g) = spanF g T := List.take_of_length_le (by omega)
      refine gP_appA (id := j1) (site := 6656320192) (bytes := 16) (xs := [[.int .i64 (T : Int), .int .i64 (t : Int)]]) (rd := [6656320128]) (by simp [ka3, oj1, kb3]) (g1.of_eq (upd_ne (n1 _ (by decide)))) (by simp [elemsOf, upd_apply]) (.inl rfl) (by simp only [List.length_append, List.length_map, ltk, List.length_cons, List.length_nil]; omega) fun c blk2 hc hb2 => ?_
      simp only [↓Rd, Rt, Rl, Rb, gP_done_al, dP_done_al, oks_nil, oks_cons, Bool.and_self, plan, binV, binInt, eqV, isNilV, app, if_true, if_false, reduceIte, Nat.reduceEqDiff, beq_self_eq_true, reduceCtorEq, ge_iff_le, resultsV, noTup, tupV, fnOf, Nat.reduceAdd, rdAt, takeV, wrAt, splice, cellsV, lenL, ne_eq, Nat.reduceLeDiff, partsV, elemsV, toPss, toPs, toP, fill, Nat.reduceMul, Nat.reduceLT, snapHsl, snapHref, e3, frz, frzL, room, planSlice, boundOf, Nat.reduceSub, Int.reduceLT, Int.reduceAdd, Int.reduceBEq, Int.reduceBNe, Int.reduceLE, List.contains_eq_mem, frzL_nil, onesC, snap_hfn, snapHfn_some, snap_href_s, snap_hsl_s]
      refine ⟨c, d2, j2, rfl, ?_, ?_, q2, fun id hn => ?_⟩
      · rw [hlast, ← List.append_assoc]; exact hc
      · rw [hall] at g2
        exact g2.of_eq ((hb2 _ (n2 _ (by decide)) n3.symm).trans (upd_ne (n2 _ (by decide))))
      · have a : ∀ x, isBt x → id ≠ x := fun x hx e => hn (.inl (e ▸ hx))
        have b1 : id ≠ j1 := fun e => hn (e ▸ kj1)
        exact (hb2 id (a _ rfl) b1).trans ((upd_ne (a _ rfl)).trans (hkp id hn))
end Go.Abs
