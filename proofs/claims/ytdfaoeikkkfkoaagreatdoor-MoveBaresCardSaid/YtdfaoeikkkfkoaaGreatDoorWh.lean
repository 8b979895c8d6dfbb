/-
  The rim of a piece of the axis.
-/
import Derived.Test.YtdfaoeikkkfkoaaGreatDoorWg
set_option linter.unusedSimpArgs false
set_option linter.unusedVariables false
set_option linter.unusedSectionVars false
namespace Go.Abs
set_option maxRecDepth 100000
theorem axis_pl {F : Nat} {ls : List Let} (ok : dgOK F ls) {j : Nat} (hj : j < (axisR ls).length) : ∃ u l, (axisR ls)[j]? = some u ∧ (axisR ls).getD j 0 = u ∧ ls[u]? = some l ∧ l.isP = true ∧ goodP F ls l ∧ plOf ls l = j := by
  obtain ⟨u, l, h1, h2, h3, h4, h5⟩ := axis_get ok hj
  obtain ⟨l', k1, k2, k3⟩ := axis_at ok.ax h1
  rw [h3] at k1
  cases k1
  exact ⟨u, l, h1, h2, h3, h4, h5, k3⟩
/-- neighbours of the axis -/
theorem axis_next {F : Nat} {ls : List Let} {j pg pr qg qr : Nat} {p q : Let} (gp : goodP F ls p) (gq : goodP F ls q) (hp : plOf ls p = j) (hq : plOf ls q = j + 1) (h1 : p.gate = (pg : Int)) (h2 : p.rank = (pr : Int)) (h3 : q.gate = (qg : Int)) (h4 : q.rank = (qr : Int)) :
    pg ≤ qg ∧ qr - 1 = if qg = pg then pr else 0 := by
  obtain ⟨_, _, p1, p2⟩ := gp
  obtain ⟨_, _, q1, q2⟩ := gq
  unfold plOf at hp hq
  rw [h1, h2] at hp
  rw [h3, h4] at hq
  rw [h2] at p1
  rw [h1, h2] at p2
  rw [h4] at q1
  rw [h3, h4] at q2
  simp only [Int.toNat_natCast] at hp hq p2 q2
  have sp := firstG_succ ls pg
  have sq := firstG_succ ls qg
  have hle : pg ≤ qg := by
    rcases Nat.lt_or_ge qg pg with h | h
    · have := firstG_mono (ls := ls) (show qg + 1 ≤ pg by omega)
      omega
    · exact h
  refine ⟨hle, ?_⟩
  by_cases e : qg = pg
  · subst e; rw [if_pos rfl]; omega
  · rw [if_neg e]
    have := firstG_mono (ls := ls) (show pg + 1 ≤ qg by omega)
    omega
theorem axis_first {F : Nat} {ls : List Let} {qg qr : Nat} {q : Let} (gq : goodP F ls q) (hq : plOf ls q = 0) (h3 : q.gate = (qg : Int)) (h4 : q.rank = (qr : Int)) : qr - 1 = 0 := by
  obtain ⟨_, _, q1, q2⟩ := gq
  unfold plOf at hq
  rw [h3, h4] at hq
  rw [h4] at q1
  simp only [Int.toNat_natCast] at hq
  omega
theorem sitesB : S.sites 104 = [104] := by kernel_rfl
theorem alB {vs : List V} {blk : Blk} : ∀ id, isBt id → (allow (S.ctx .all) 104 vs blk).ok id = true := fun id h => allow_ok (by rw [sitesB, h]; simp)
set_option maxHeartbeats 4000000 in
theorem rim_p {F : Nat} {ls : List Let} (ok : dgOK F ls) (hF : F ≤ 1000) {j : Nat} (hj : j < (axisR ls).length) :
    PEv S 67 [.one (.p (dgV F ls)), vi j] (.tup [.one (grownR plTy 2 (plP (pieceP F ls j))), .one (grownR 3 1 (nP (pieceF F ls j)))]) := by
  have hl := ok.hl
  have hal : (axisR ls).length ≤ 1000000 := Nat.le_trans (axisK_len ls ls.length) hl
  have hm := Nat.mod_lt (j + 1) (show 0 < (axisR ls).length by omega)
  obtain ⟨u, p, hu, du, hp, pp, gp, xp⟩ := axis_pl ok hj
  obtain ⟨v, q, hv, dv, hq, pq, gq, xq⟩ := axis_pl ok hm
  unfold pieceP pieceF
  simp only [du, dv, gN_of hp, gN_of hq, rN_of hp]
  have hpp := ps_of hp
  have hqp := ps_of hq
  have hnu := nP_at hu
  have hnv := nP_at hv
  have e1 := tmod_nat (j + 1) (axisR ls).length
  have w1 := wrap_succ (n := j) (by omega)
  have w2 := wrap_pred (a := (axisR ls).length) (by omega) (by omega)
  have hm0 : ¬ (((axisR ls).length : Int) = 0) := by omega
  have hg0 := gp.g0; have hg1 := gp.g1; have hk0 := gq.g0; have hk1 := gq.g1
  have hr0 := gp.r0; have hr1 := gp.r1; have hs0 := gq.r0; have hs1 := gq.r1
  have hcg : cg ls p.gate.toNat ≤ ls.length := cnt_le _ _
  have hcq : cg ls q.gate.toNat ≤ ls.length := cnt_le _ _
  obtain ⟨pg, h1⟩ := Int.eq_ofNat_of_zero_le (show 0 ≤ p.gate by omega)
  obtain ⟨pr, h2⟩ := Int.eq_ofNat_of_zero_le (show 0 ≤ p.rank by omega)
  obtain ⟨qg, h3⟩ := Int.eq_ofNat_of_zero_le (show 0 ≤ q.gate by omega)
  obtain ⟨qr, h4⟩ := Int.eq_ofNat_of_zero_le (show 0 ≤ q.rank by omega)
  have wr := wrap_pred (a := qr) (by rw [h4] at hs0; omega) (by omega)
  have hsh : S.shared 104 = true := by kernel_rfl
  have hnext := fun h => axis_next gp gq xp (h : plOf ls q = j + 1) h1 h2 h3 h4
  have hfirst := fun h => axis_first gq (h : plOf ls q = 0) h3 h4
  rw [h1] at hg1 hr1 hcg hg0
  rw [h2] at hr1 hr0
  rw [h3] at hk0 hk1 hs1 hcq
  rw [h4] at hs0 hs1
  rw [h1, h2, h3]
  simp only [Int.toNat_natCast] at hr1 hcg hs1 hcq ⊢
  refine PEv_fn rfl c67 (Nat.le_of_ble_eq_true rfl) ?_
  by_cases hlt : j + 1 < (axisR ls).length
  · have hlt' : (j : Int) < (((axisR ls).length - 1 : Nat) : Int) := by omega
    rw [Nat.mod_eq_of_lt hlt] at xq
    obtain ⟨n1, n2⟩ := hnext xq
    simp only [if_pos hlt]
    simp only [↓Rd, Rt, Rl, Rb, gP_done, dP_done, Al.all_oks, plan, binV, binInt, eqV, isNilV, app, if_true, if_false, reduceIte, Nat.reduceEqDiff, beq_self_eq_true, reduceCtorEq, ge_iff_le, resultsV, noTup, tupV, fnOf, Nat.reduceAdd, rdAt, takeV, wrAt, splice, cellsV, lenL, ne_eq, Nat.reduceLeDiff, partsV, elemsV, toPss, toPs, toP, fill, Nat.reduceMul, Nat.reduceLT, snapHsl, snapHref, i67, noBlk, hnu, hnv, hpp, hqp, ps_len, Let.ps, w1, e1, w2, wr, hlt', hm0, h1, h2, h3, h4, hsh, frz, frzL, room, planSlice, boundOf, Nat.reduceSub, Int.reduceLT, Int.reduceAdd, Int.reduceBEq, Int.reduceBNe, Int.reduceLE, List.contains_eq_mem, frzL_nil, onesC, snap_hfn, snapHfn_some, snap_href_s, snap_hsl_s]
    refine ⟨okd (by kernel_rfl), ?_⟩
    refine gP_sc2 (P := btPost pg pr qg [] [] 6656128192 6656256256 _) holds_all (between_s (g := pg) (r := pr) (T := qg) (t := qr - 1) (c1 := .p .nils) (c2 := .p .nils) alB (alB _ rfl) (alB _ rfl) n1 n2 (by omega) (Nat.zero_le _) (Nat.zero_le _) (by decide) (by decide) (by decide) grown.nil grown.nil) ?_
    rintro v blk' ⟨c1, c2, j2, rfl, g1, g2, hj2, hkp⟩
    have hj2 : j2 = 6656256256 := by rcases hj2 with h | h <;> exact h
    subst hj2
    simp only [↓Rd, Rt, Rl, Rb, gP_done, dP_done, Al.all_oks, plan, binV, binInt, eqV, isNilV, app, if_true, if_false, reduceIte, Nat.reduceEqDiff, beq_self_eq_true, reduceCtorEq, ge_iff_le, resultsV, noTup, tupV, fnOf, Nat.reduceAdd, rdAt, takeV, wrAt, splice, cellsV, lenL, ne_eq, Nat.reduceLeDiff, partsV, elemsV, toPss, toPs, toP, fill, Nat.reduceMul, Nat.reduceLT, snapHsl, snapHref, frz, frzL, room, planSlice, boundOf, Nat.reduceSub, Int.reduceLT, Int.reduceAdd, Int.reduceBEq, Int.reduceBNe, Int.reduceLE, List.contains_eq_mem, frzL_nil, onesC, snap_hfn, snapHfn_some, snap_href_s, snap_hsl_s]
    exact grown_out2 (by decide) g1 g2
  · have hlt' : ¬ (j : Int) < (((axisR ls).length - 1 : Nat) : Int) := by omega
    have hjm : (j + 1) % (axisR ls).length = 0 := by rw [show j + 1 = (axisR ls).length by omega, Nat.mod_self]
    rw [hjm] at xq
    have n2 := hfirst xq
    simp only [if_neg hlt]
    have hlast : ∃ t : Nat, t = (if F = pg then pr else 0) := ⟨_, rfl⟩
    obtain ⟨t, ht⟩ := hlast
    have fin : ∀ (env : Env) (blk : Blk) (c1 c2 : C), True := fun _ _ _ _ => trivial
    have ini : (((pg : Int) == (F : Int)) = true ∧ t = pr ∧ F = pg) ∨ (((pg : Int) == (F : Int)) = false ∧ t = 0) := by
      by_cases h : F = pg
      · subst h; rw [if_pos rfl] at ht; exact .inl ⟨by simp, ht, rfl⟩
      · rw [if_neg h] at ht; exact .inr ⟨by simp; omega, ht⟩
    rcases ini with ⟨hb, ht2, hFp⟩ | ⟨hb, ht2⟩
    · subst hFp
      simp only [↓Rd, Rt, Rl, Rb, gP_done, dP_done, Al.all_oks, plan, binV, binInt, eqV, isNilV, app, if_true, if_false, reduceIte, Nat.reduceEqDiff, beq_self_eq_true, reduceCtorEq, ge_iff_le, resultsV, noTup, tupV, fnOf, Nat.reduceAdd, rdAt, takeV, wrAt, splice, cellsV, lenL, ne_eq, Nat.reduceLeDiff, partsV, elemsV, toPss, toPs, toP, fill, Nat.reduceMul, Nat.reduceLT, snapHsl, snapHref, i67, noBlk, hnu, hnv, hpp, hqp, ps_len, Let.ps, w1, e1, w2, wr, hlt', hm0, h1, h2, h3, h4, hsh, hb, frz, frzL, room, planSlice, boundOf, Nat.reduceSub, Int.reduceLT, Int.reduceAdd, Int.reduceBEq, Int.reduceBNe, Int.reduceLE, List.contains_eq_mem, frzL_nil, onesC, snap_hfn, snapHfn_some, snap_href_s, snap_hsl_s]
      refine ⟨okd (by kernel_rfl), ?_⟩
      refine ⟨okd (by kernel_rfl), ?_⟩
      refine gP_sc2 (P := btPost F pr F [] [] 6656128192 6656256256 _) holds_all (between_s (g := F) (r := pr) (T := F) (t := pr) (c1 := .p .nils) (c2 := .p .nils) alB (alB _ rfl) (alB _ rfl) (by omega) (by rw [if_pos rfl]) (by omega) (Nat.zero_le _) (Nat.zero_le _) (by decide) (by decide) (by decide) grown.nil grown.nil) ?_
      rintro v blk1 ⟨c1, c2, j2, rfl, g1, g2, hj2, hkp⟩
      have hj2 : j2 = 6656256256 := by rcases hj2 with h | h <;> exact h
      subst hj2
      rw [List.nil_append] at g1 g2
      have hA := hkp 4288256384 (by decide)
      simp only [↓Rd, Rt, Rl, Rb, gP_done, dP_done, Al.all_oks, plan, binV, binInt, eqV, isNilV, app, if_true, if_false, reduceIte, Nat.reduceEqDiff, beq_self_eq_true, reduceCtorEq, ge_iff_le, resultsV, noTup, tupV, fnOf, Nat.reduceAdd, rdAt, takeV, wrAt, splice, cellsV, lenL, ne_eq, Nat.reduceLeDiff, partsV, elemsV, toPss, toPs, toP, fill, Nat.reduceMul, Nat.reduceLT, snapHsl, snapHref] at hA
      simp only [↓Rd, Rt, Rl, Rb, gP_done, dP_done, Al.all_oks, plan, binV, binInt, eqV, isNilV, app, if_true, if_false, reduceIte, Nat.reduceEqDiff, beq_self_eq_true, reduceCtorEq, ge_iff_le, resultsV, noTup, tupV, fnOf, Nat.reduceAdd, rdAt, takeV, wrAt, splice, cellsV, lenL, ne_eq, Nat.reduceLeDiff, partsV, elemsV, toPss, toPs, toP, fill, Nat.reduceMul, Nat.reduceLT, snapHsl, snapHref, hA, hsh, frz, frzL, room, planSlice, boundOf, Nat.reduceSub, Int.reduceLT, Int.reduceAdd, Int.reduceBEq, Int.reduceBNe, Int.reduceLE, List.contains_eq_mem, frzL_nil, onesC, snap_hfn, snapHfn_some, snap_href_s, snap_hsl_s]
      refine gP_sc2 (P := btPost 0 0 qg (plP (spanP F pr F)) (nP (spanF F F)) 6656320192 6656256256 _) holds_all (between_s (g := 0) (r := 0) (T := qg) (t := qr - 1) (c1 := c1) (c2 := c2) alB (alB _ rfl) (alB _ rfl) (Nat.zero_le _) (by rw [n2]; split <;> rfl) (by omega) (by simp only [List.length_map, spanP_len]; omega) (by simp only [List.length_map, spanF_len]; omega) (by decide) (by decide) (by decide) g1 g2) ?_
      rintro v blk2 ⟨d1, d2, j3, rfl, k1, k2, hj3, _⟩
      have hj3 : j3 = 6656256256 := by rcases hj3 with h | h <;> exact h
      subst hj3
      simp only [↓Rd, Rt, Rl, Rb, gP_done, dP_done, Al.all_oks, plan, binV, binInt, eqV, isNilV, app, if_true, if_false, reduceIte, Nat.reduceEqDiff, beq_self_eq_true, reduceCtorEq, ge_iff_le, resultsV, noTup, tupV, fnOf, Nat.reduceAdd, rdAt, takeV, wrAt, splice, cellsV, lenL, ne_eq, Nat.reduceLeDiff, partsV, elemsV, toPss, toPs, toP, fill, Nat.reduceMul, Nat.reduceLT, snapHsl, snapHref, frz, frzL, room, planSlice, boundOf, Nat.reduceSub, Int.reduceLT, Int.reduceAdd, Int.reduceBEq, Int.reduceBNe, Int.reduceLE, List.contains_eq_mem, frzL_nil, onesC, snap_hfn, snapHfn_some, snap_href_s, snap_hsl_s]
      rw [plP_app, nP_app]
      exact grown_out2 (by decide) k1 k2
    · simp only [↓Rd, Rt, Rl, Rb, gP_done, dP_done, Al.all_oks, plan, binV, binInt, eqV, isNilV, app, if_true, if_false, reduceIte, Nat.reduceEqDiff, beq_self_eq_true, reduceCtorEq, ge_iff_le, resultsV, noTup, tupV, fnOf, Nat.reduceAdd, rdAt, takeV, wrAt, splice, cellsV, lenL, ne_eq, Nat.reduceLeDiff, partsV, elemsV, toPss, toPs, toP, fill, Nat.reduceMul, Nat.reduceLT, snapHsl, snapHref, i67, noBlk, hnu, hnv, hpp, hqp, ps_len, Let.ps, w1, e1, w2, wr, hlt', hm0, h1, h2, h3, h4, hsh, hb, frz, frzL, room, planSlice, boundOf, Nat.reduceSub, Int.reduceLT, Int.reduceAdd, Int.reduceBEq, Int.reduceBNe, Int.reduceLE, List.contains_eq_mem, frzL_nil, onesC, snap_hfn, snapHfn_some, snap_href_s, snap_hsl_s]
      refine ⟨okd (by kernel_rfl), ?_⟩
      refine ⟨okd (by kernel_rfl), ?_⟩
      refine gP_sc2 (P := btPost pg pr F [] [] 6656128192 6656256256 _) holds_all (between_s (g := pg) (r := pr) (T := F) (t := 0) (c1 := .p .nils) (c2 := .p .nils) alB (alB _ rfl) (alB _ rfl) (by omega) (by rw [ht2] at ht; exact ht) (by omega) (Nat.zero_le _) (Nat.zero_le _) (by decide) (by decide) (by decide) grown.nil grown.nil) ?_
      rintro v blk1 ⟨c1, c2, j2, rfl, g1, g2, hj2, hkp⟩
      have hj2 : j2 = 6656256256 := by rcases hj2 with h | h <;> exact h
      subst hj2
      rw [List.nil_append] at g1 g2
      have hA := hkp 4288256384 (by decide)
      simp only [↓Rd, Rt, Rl, Rb, gP_done, dP_done, Al.all_oks, plan, binV, binInt, eqV, isNilV, app, if_true, if_false, reduceIte, Nat.reduceEqDiff, beq_self_eq_true, reduceCtorEq, ge_iff_le, resultsV, noTup, tupV, fnOf, Nat.reduceAdd, rdAt, takeV, wrAt, splice, cellsV, lenL, ne_eq, Nat.reduceLeDiff, partsV, elemsV, toPss, toPs, toP, fill, Nat.reduceMul, Nat.reduceLT, snapHsl, snapHref] at hA
      simp only [↓Rd, Rt, Rl, Rb, gP_done, dP_done, Al.all_oks, plan, binV, binInt, eqV, isNilV, app, if_true, if_false, reduceIte, Nat.reduceEqDiff, beq_self_eq_true, reduceCtorEq, ge_iff_le, resultsV, noTup, tupV, fnOf, Nat.reduceAdd, rdAt, takeV, wrAt, splice, cellsV, lenL, ne_eq, Nat.reduceLeDiff, partsV, elemsV, toPss, toPs, toP, fill, Nat.reduceMul, Nat.reduceLT, snapHsl, snapHref, hA, hsh, frz, frzL, room, planSlice, boundOf, Nat.reduceSub, Int.reduceLT, Int.reduceAdd, Int.reduceBEq, Int.reduceBNe, Int.reduceLE, List.contains_eq_mem, frzL_nil, onesC, snap_hfn, snapHfn_some, snap_href_s, snap_hsl_s]
      refine gP_sc2 (P := btPost 0 0 qg (plP (spanP pg pr F)) (nP (spanF pg F)) 6656320192 6656256256 _) holds_all (between_s (g := 0) (r := 0) (T := qg) (t := qr - 1) (c1 := c1) (c2 := c2) alB (alB _ rfl) (alB _ rfl) (Nat.zero_le _) (by rw [n2]; split <;> rfl) (by omega) (by simp only [List.length_map, spanP_len]; omega) (by simp only [List.length_map, spanF_len]; omega) (by decide) (by decide) (by decide) g1 g2) ?_
      rintro v blk2 ⟨d1, d2, j3, rfl, k1, k2, hj3, _⟩
      have hj3 : j3 = 6656256256 := by rcases hj3 with h | h <;> exact h
      subst hj3
      simp only [↓Rd, Rt, Rl, Rb, gP_done, dP_done, Al.all_oks, plan, binV, binInt, eqV, isNilV, app, if_true, if_false, reduceIte, Nat.reduceEqDiff, beq_self_eq_true, reduceCtorEq, ge_iff_le, resultsV, noTup, tupV, fnOf, Nat.reduceAdd, rdAt, takeV, wrAt, splice, cellsV, lenL, ne_eq, Nat.reduceLeDiff, partsV, elemsV, toPss, toPs, toP, fill, Nat.reduceMul, Nat.reduceLT, snapHsl, snapHref, frz, frzL, room, planSlice, boundOf, Nat.reduceSub, Int.reduceLT, Int.reduceAdd, Int.reduceBEq, Int.reduceBNe, Int.reduceLE, List.contains_eq_mem, frzL_nil, onesC, snap_hfn, snapHfn_some, snap_href_s, snap_hsl_s]
      rw [plP_app, nP_app]
      exact grown_out2 (by decide) k1 k2
end Go.Abs
