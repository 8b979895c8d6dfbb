/-
  The Check of the program is that of the document; each function returns its error; the law MoveErrors.
-/
import Derived.Test.YthlncajhlbgjbaaGreatDoorWg
set_option linter.unusedSimpArgs false
set_option linter.unusedVariables false
set_option linter.unusedSectionVars false
namespace Go.Abs
set_option maxRecDepth 100000
abbrev K338 (id : Nat) : Prop := id = 3200320128 ∨ (siteFn id = 82 ∨ siteFn id = 117 ∨ siteFn id = 118)
def dgReady (F : Nat) (ls : List Let) (g : Nat) (blk : Blk) : Prop := ∃ g1 g2 g3 g4 g5,
  blk 3200320128 = (g, some (.var (dgC F ls (hs 7488128448 g2 ls.length) (hs 7489344128 g5 (axisR ls).length) (hs 7488192448 g3 ls.length) (.hmap 7552256064 g4) (hs 7488064448 g1 (F + 1))))) ∧
  blk 7488064448 = (g1, some (.arr 3 1 (nP (counts ls F)))) ∧ blk 7488128448 = (g2, some (.arr 4 1 (bP (downs ls)))) ∧ blk 7488192448 = (g3, some (.arr 3 1 (nP (plK ls ls.length)))) ∧
  blk 7489344128 = (g5, some (.arr 3 1 (nP (axisR ls)))) ∧ blk 7552256064 = (g4, some (.map true (mapK ls ls.length)))
def validP (F : Nat) (ls : List Let) : Bool := decide (ls = []) || validR F ls
def vdPost (F : Nat) (ls : List Let) (g : Nat) (blk0 : Blk) (v : V) (blk' : Blk) : Prop :=
  v = vb (validP F ls) ∧ Kept K338 blk0 blk' ∧ (ls ≠ [] → validR F ls = true → dgReady F ls g blk') ∧ (ls = [] → blk' 3200320128 = blk0 3200320128)
theorem sitesV : S.sites 82 = [82, 117, 118] := by kernel_rfl
theorem sitesR : S.sites 117 = [117] := by kernel_rfl
theorem sitesX : S.sites 118 = [118] := by kernel_rfl
theorem Kept.weak {K K' : Nat → Prop} {a b : Blk} (h : Kept K a b) (hk : ∀ id, K id → K' id) : Kept K' a b := fun id hn => h id fun hh => hn (hk id hh)
abbrev vfns (g : Nat) : List (List C) := [[.hfn 115 [.href 3200320128 g 0] []], [.hfn 116 [.href 3200320128 g 0] []], [.hfn 117 [.href 3200320128 g 0] []], [.hfn 118 [.href 3200320128 g 0] []], [.hfn 119 [.href 3200320128 g 0] []]]
section
variable {al : Al} {Q : Post} {env : Env} {blk : Blk} {g g0 : Nat}
/-- a round of valid whose function is pure -/
theorem vpure (k : Nat) {f : Nat} {dv : PV} {r : List Nat} {b : Bool} (hk : k < 5) (hf : (vfns g)[k]? = some [.hfn f [.href 3200320128 g 0] []]) (hsf : S.shared f = false) (oV : al.ok 5248192640 = true)
    (h22 : env 22 = .one (hs 5248192640 g0 5)) (h23 : env 23 = vi 5) (h24 : env 24 = vi k) (bV : blk 5248192640 = (g0, some (.carr 30 1 (vfns g))))
    (hsn : snapV blk (.one (.href 3200320128 g 0)) = some (.one (.p dv), r)) (hr : al.oks r = true) (hp : PEv S f [.one (.p dv)] (rb b))
    (hfalse : b = false → ∀ env', env' 2 = vb false → Q .ret env' blk)
    (htrue : b = true → ∀ env', env' 22 = .one (hs 5248192640 g0 5) → env' 23 = vi 5 → env' 24 = vi ((k + 1 : Nat) : Int) → W S al (.loop i82_l1) Q env' blk) : W S al (.loop i82_l1) Q env blk := by
  refine R_unroll ?_
  have hlt : ((k : Int) < 5) := by omega
  have w1 := wrap_succ (n := k) (by omega)
  cases b with
  | false =>
    simp only [↓Rd, Rt, Rl, Rb, gP_done_al, dP_done_al, oks_nil, oks_cons, Bool.and_self, plan, binV, binInt, eqV, isNilV, app, if_true, if_false, reduceIte, Nat.reduceEqDiff, beq_self_eq_true, reduceCtorEq, ge_iff_le, resultsV, noTup, tupV, fnOf, Nat.reduceAdd, rdAt, takeV, wrAt, splice, cellsV, lenL, ne_eq, Nat.reduceLeDiff, partsV, elemsV, toPss, toPs, toP, fill, Nat.reduceMul, Nat.reduceLT, snapHsl, snapHref, i82_l1, h22, h23, h24, bV, hlt, hk, hf, hsf, oV, ↓hsn, gP_bool_al hp, hr, planAppend, elemsOf, szOf, szOK, frz, frzL, room, planSlice, boundOf, Nat.reduceSub, Int.reduceLT, Int.reduceAdd, Int.reduceBEq, Int.reduceBNe, Int.reduceLE, List.contains_eq_mem, frzL_nil, onesC, snap_hfn, snapHfn_some, snap_href_s, snap_hsl_s]
    exact hfalse rfl _ (by simp only [↓Rd, Rt, Rl, Rb, gP_done, dP_done, Al.all_oks, plan, binV, binInt, eqV, isNilV, app, if_true, if_false, reduceIte, Nat.reduceEqDiff, beq_self_eq_true, reduceCtorEq, ge_iff_le, resultsV, noTup, tupV, fnOf, Nat.reduceAdd, rdAt, takeV, wrAt, splice, cellsV, lenL, ne_eq, Nat.reduceLeDiff, partsV, elemsV, toPss, toPs, toP, fill, Nat.reduceMul, Nat.reduceLT, snapHsl, snapHref])
  | true =>
    simp only [↓Rd, Rt, Rl, Rb, gP_done_al, dP_done_al, oks_nil, oks_cons, Bool.and_self, plan, binV, binInt, eqV, isNilV, app, if_true, if_false, reduceIte, Nat.reduceEqDiff, beq_self_eq_true, reduceCtorEq, ge_iff_le, resultsV, noTup, tupV, fnOf, Nat.reduceAdd, rdAt, takeV, wrAt, splice, cellsV, lenL, ne_eq, Nat.reduceLeDiff, partsV, elemsV, toPss, toPs, toP, fill, Nat.reduceMul, Nat.reduceLT, snapHsl, snapHref, i82_l1, h22, h23, h24, bV, hlt, hk, hf, hsf, oV, ↓hsn, gP_bool_al hp, hr, w1, planAppend, elemsOf, szOf, szOK, frz, frzL, room, planSlice, boundOf, Nat.reduceSub, Int.reduceLT, Int.reduceAdd, Int.reduceBEq, Int.reduceBNe, Int.reduceLE, List.contains_eq_mem, frzL_nil, onesC, snap_hfn, snapHfn_some, snap_href_s, snap_hsl_s]
    refine htrue rfl _ ?_ ?_ ?_
    · simp only [↓Rd, Rt, Rl, Rb, gP_done, dP_done, Al.all_oks, plan, binV, binInt, eqV, isNilV, app, if_true, if_false, reduceIte, Nat.reduceEqDiff, beq_self_eq_true, reduceCtorEq, ge_iff_le, resultsV, noTup, tupV, fnOf, Nat.reduceAdd, rdAt, takeV, wrAt, splice, cellsV, lenL, ne_eq, Nat.reduceLeDiff, partsV, elemsV, toPss, toPs, toP, fill, Nat.reduceMul, Nat.reduceLT, snapHsl, snapHref, h22]
    · simp only [↓Rd, Rt, Rl, Rb, gP_done, dP_done, Al.all_oks, plan, binV, binInt, eqV, isNilV, app, if_true, if_false, reduceIte, Nat.reduceEqDiff, beq_self_eq_true, reduceCtorEq, ge_iff_le, resultsV, noTup, tupV, fnOf, Nat.reduceAdd, rdAt, takeV, wrAt, splice, cellsV, lenL, ne_eq, Nat.reduceLeDiff, partsV, elemsV, toPss, toPs, toP, fill, Nat.reduceMul, Nat.reduceLT, snapHsl, snapHref, h23]
    · simp only [↓Rd, Rt, Rl, Rb, gP_done, dP_done, Al.all_oks, plan, binV, binInt, eqV, isNilV, app, if_true, if_false, reduceIte, Nat.reduceEqDiff, beq_self_eq_true, reduceCtorEq, ge_iff_le, resultsV, noTup, tupV, fnOf, Nat.reduceAdd, rdAt, takeV, wrAt, splice, cellsV, lenL, ne_eq, Nat.reduceLeDiff, partsV, elemsV, toPss, toPs, toP, fill, Nat.reduceMul, Nat.reduceLT, snapHsl, snapHref]
/-- a round of valid whose function changes the diagram -/
theorem vshare (k : Nat) {f : Nat} {P : V → Blk → Prop} {b : Bool} (hk : k < 5) (hf : (vfns g)[k]? = some [.hfn f [.href 3200320128 g 0] []]) (hsf : S.shared f = true) (oV : al.ok 5248192640 = true)
    (h22 : env 22 = .one (hs 5248192640 g0 5)) (h23 : env 23 = vi 5) (h24 : env 24 = vi k) (bV : blk 5248192640 = (g0, some (.carr 30 1 (vfns g))))
    (hh : al.holds (allow (S.ctx al) f [.one (.href 3200320128 g 0)] blk) = true) (h : ∃ v blk', SEv S f [.one (.href 3200320128 g 0)] (allow (S.ctx al) f [.one (.href 3200320128 g 0)] blk) blk v blk' ∧ P v blk')
    (hP : ∀ v blk', P v blk' → v = vb b)
    (hfalse : b = false → ∀ v env' blk', P v blk' → env' 2 = vb false → Q .ret env' blk')
    (htrue : b = true → ∀ v env' blk', P v blk' → env' 22 = .one (hs 5248192640 g0 5) → env' 23 = vi 5 → env' 24 = vi ((k + 1 : Nat) : Int) → W S al (.loop i82_l1) Q env' blk') : W S al (.loop i82_l1) Q env blk := by
  refine R_unroll ?_
  have hlt : ((k : Int) < 5) := by omega
  have w1 := wrap_succ (n := k) (by omega)
  simp only [↓Rd, Rt, Rl, Rb, gP_done_al, dP_done_al, oks_nil, oks_cons, Bool.and_self, plan, binV, binInt, eqV, isNilV, app, if_true, if_false, reduceIte, Nat.reduceEqDiff, beq_self_eq_true, reduceCtorEq, ge_iff_le, resultsV, noTup, tupV, fnOf, Nat.reduceAdd, rdAt, takeV, wrAt, splice, cellsV, lenL, ne_eq, Nat.reduceLeDiff, partsV, elemsV, toPss, toPs, toP, fill, Nat.reduceMul, Nat.reduceLT, snapHsl, snapHref, i82_l1, h22, h23, h24, bV, hlt, hk, hf, hsf, oV, planAppend, elemsOf, szOf, szOK, frz, frzL, room, planSlice, boundOf, Nat.reduceSub, Int.reduceLT, Int.reduceAdd, Int.reduceBEq, Int.reduceBNe, Int.reduceLE, List.contains_eq_mem, frzL_nil, onesC, snap_hfn, snapHfn_some, snap_href_s, snap_hsl_s]
  refine gP_sc2 hh h fun v blk' hp => ?_
  have hv := hP v blk' hp
  subst hv
  cases b with
  | false =>
    simp only [↓Rd, Rt, Rl, Rb, gP_done_al, dP_done_al, oks_nil, oks_cons, Bool.and_self, plan, binV, binInt, eqV, isNilV, app, if_true, if_false, reduceIte, Nat.reduceEqDiff, beq_self_eq_true, reduceCtorEq, ge_iff_le, resultsV, noTup, tupV, fnOf, Nat.reduceAdd, rdAt, takeV, wrAt, splice, cellsV, lenL, ne_eq, Nat.reduceLeDiff, partsV, elemsV, toPss, toPs, toP, fill, Nat.reduceMul, Nat.reduceLT, snapHsl, snapHref, h22, h23, h24, planAppend, elemsOf, szOf, szOK, frz, frzL, room, planSlice, boundOf, Nat.reduceSub, Int.reduceLT, Int.reduceAdd, Int.reduceBEq, Int.reduceBNe, Int.reduceLE, List.contains_eq_mem, frzL_nil, onesC, snap_hfn, snapHfn_some, snap_href_s, snap_hsl_s]
    exact hfalse rfl _ _ _ hp (by simp only [↓Rd, Rt, Rl, Rb, gP_done, dP_done, Al.all_oks, plan, binV, binInt, eqV, isNilV, app, if_true, if_false, reduceIte, Nat.reduceEqDiff, beq_self_eq_true, reduceCtorEq, ge_iff_le, resultsV, noTup, tupV, fnOf, Nat.reduceAdd, rdAt, takeV, wrAt, splice, cellsV, lenL, ne_eq, Nat.reduceLeDiff, partsV, elemsV, toPss, toPs, toP, fill, Nat.reduceMul, Nat.reduceLT, snapHsl, snapHref])
  | true =>
    simp only [↓Rd, Rt, Rl, Rb, gP_done_al, dP_done_al, oks_nil, oks_cons, Bool.and_self, plan, binV, binInt, eqV, isNilV, app, if_true, if_false, reduceIte, Nat.reduceEqDiff, beq_self_eq_true, reduceCtorEq, ge_iff_le, resultsV, noTup, tupV, fnOf, Nat.reduceAdd, rdAt, takeV, wrAt, splice, cellsV, lenL, ne_eq, Nat.reduceLeDiff, partsV, elemsV, toPss, toPs, toP, fill, Nat.reduceMul, Nat.reduceLT, snapHsl, snapHref, h22, h23, h24, w1, planAppend, elemsOf, szOf, szOK, frz, frzL, room, planSlice, boundOf, Nat.reduceSub, Int.reduceLT, Int.reduceAdd, Int.reduceBEq, Int.reduceBNe, Int.reduceLE, List.contains_eq_mem, frzL_nil, onesC, snap_hfn, snapHfn_some, snap_href_s, snap_hsl_s]
    refine htrue rfl _ _ _ hp ?_ ?_ ?_
    · simp only [↓Rd, Rt, Rl, Rb, gP_done, dP_done, Al.all_oks, plan, binV, binInt, eqV, isNilV, app, if_true, if_false, reduceIte, Nat.reduceEqDiff, beq_self_eq_true, reduceCtorEq, ge_iff_le, resultsV, noTup, tupV, fnOf, Nat.reduceAdd, rdAt, takeV, wrAt, splice, cellsV, lenL, ne_eq, Nat.reduceLeDiff, partsV, elemsV, toPss, toPs, toP, fill, Nat.reduceMul, Nat.reduceLT, snapHsl, snapHref, h22]
    · simp only [↓Rd, Rt, Rl, Rb, gP_done, dP_done, Al.all_oks, plan, binV, binInt, eqV, isNilV, app, if_true, if_false, reduceIte, Nat.reduceEqDiff, beq_self_eq_true, reduceCtorEq, ge_iff_le, resultsV, noTup, tupV, fnOf, Nat.reduceAdd, rdAt, takeV, wrAt, splice, cellsV, lenL, ne_eq, Nat.reduceLeDiff, partsV, elemsV, toPss, toPs, toP, fill, Nat.reduceMul, Nat.reduceLT, snapHsl, snapHref, h23]
    · simp only [↓Rd, Rt, Rl, Rb, gP_done, dP_done, Al.all_oks, plan, binV, binInt, eqV, isNilV, app, if_true, if_false, reduceIte, Nat.reduceEqDiff, beq_self_eq_true, reduceCtorEq, ge_iff_le, resultsV, noTup, tupV, fnOf, Nat.reduceAdd, rdAt, takeV, wrAt, splice, cellsV, lenL, ne_eq, Nat.reduceLeDiff, partsV, elemsV, toPss, toPs, toP, fill, Nat.reduceMul, Nat.reduceLT, snapHsl, snapHref]
end
set_option maxHeartbeats 8000000 in
theorem valid_p {al : Al} (okD : al.ok 3200320128 = true) (okf : ∀ id, (siteFn id = 82 ∨ siteFn id = 117 ∨ siteFn id = 118) → al.ok id = true) (f1 : al.fs.contains 117 = true) (f2 : al.fs.contains 118 = true)
    {blk : Blk} {g F : Nat} {ls : List Let} (hl : ls.length ≤ 1000000) (hF : F ≤ 1000000)
    (bD : blk 3200320128 = (g, some (.var (dgC F ls (.p .nils) (.p .nils) (.p .nils) (.p .nilm) (.p .nils))))) : ∃ v blk', SEv S 82 [.one (.href 3200320128 g 0)] al blk v blk' ∧ vdPost F ls g blk v blk' := by
  have oV := okf 5248192640 (.inl rfl)
  refine SEv_fn c82 (Nat.le_of_ble_eq_true rfl) ?_
  by_cases he : ls = []
  · subst he
    have hz : (((0 : Nat) : Int) == 0) = true := by decide
    simp only [↓Rd, Rt, Rl, Rb, gP_done_al, dP_done_al, oks_nil, oks_cons, Bool.and_self, plan, binV, binInt, eqV, isNilV, app, if_true, if_false, reduceIte, Nat.reduceEqDiff, beq_self_eq_true, reduceCtorEq, ge_iff_le, resultsV, noTup, tupV, fnOf, Nat.reduceAdd, rdAt, takeV, wrAt, splice, cellsV, lenL, ne_eq, Nat.reduceLeDiff, partsV, elemsV, toPss, toPs, toP, fill, Nat.reduceMul, Nat.reduceLT, snapHsl, snapHref, i82, bD, hz, okD, oV, planAppend, elemsOf, szOf, szOK, frz, frzL, room, planSlice, boundOf, Nat.reduceSub, Int.reduceLT, Int.reduceAdd, Int.reduceBEq, Int.reduceBNe, Int.reduceLE, List.contains_eq_mem, frzL_nil, onesC, snap_hfn, snapHfn_some, snap_href_s, snap_hsl_s]
    exact ⟨rfl, Kept.refl _ _, fun h => absurd rfl h, fun _ => rfl⟩
  · have hpos := List.length_pos_iff.2 he
    have hnz : (((ls.length : Nat) : Int) == 0) = false := by simp; omega
    obtain ⟨l0, h0⟩ := at_lt hpos
    have hde : decide (ls = []) = false := by simp [he]
    have pl := dletters_p F ls (.sl []) (.sl []) (.sl []) .nilm (.sl []) hl ⟨rfl, rfl, rfl, rfl, rfl⟩
    have pb := dbegins_p F ls l0 (.sl []) (.sl []) (.sl []) .nilm (.sl []) hl h0
    have hlaw := letters_law (F := F) (ls := ls)
    have fail : ∀ env' blk', Kept K338 blk blk' → validR F ls = false → env' 2 = vb false → blockQ 0 (thenW S al i82_r2 (endQ al [(2, none)] (vdPost F ls g blk))) .ret env' blk' := fun env' blk' hk hv h2 => by
      simp only [↓Rd, Rt, Rl, Rb, gP_done_al, dP_done_al, oks_nil, oks_cons, Bool.and_self, plan, binV, binInt, eqV, isNilV, app, if_true, if_false, reduceIte, Nat.reduceEqDiff, beq_self_eq_true, reduceCtorEq, ge_iff_le, resultsV, noTup, tupV, fnOf, Nat.reduceAdd, rdAt, takeV, wrAt, splice, cellsV, lenL, ne_eq, Nat.reduceLeDiff, partsV, elemsV, toPss, toPs, toP, fill, Nat.reduceMul, Nat.reduceLT, snapHsl, snapHref, h2, planAppend, elemsOf, szOf, szOK, frz, frzL, room, planSlice, boundOf, Nat.reduceSub, Int.reduceLT, Int.reduceAdd, Int.reduceBEq, Int.reduceBNe, Int.reduceLE, List.contains_eq_mem, frzL_nil, onesC, snap_hfn, snapHfn_some, snap_href_s, snap_hsl_s]
      exact ⟨by rw [validP, hde, hv]; rfl, hk, fun _ h => (by rw [hv] at h; cases h), fun h => absurd h he⟩
    have noL : lettersR F ls = false → validR F ls = false := fun h => by simp [validR, h]
    have noL' : ¬ (ls.any (badL F) = false ∧ ranksR ls = true ∧ crossR ls = true) → validR F ls = false := fun h => noL (by
      cases hq : lettersR F ls with
      | false => rfl
      | true => exact absurd (hlaw.1 hq) h)
    simp only [↓Rd, Rt, Rl, Rb, gP_done_al, dP_done_al, oks_nil, oks_cons, Bool.and_self, plan, binV, binInt, eqV, isNilV, app, if_true, if_false, reduceIte, Nat.reduceEqDiff, beq_self_eq_true, reduceCtorEq, ge_iff_le, resultsV, noTup, tupV, fnOf, Nat.reduceAdd, rdAt, takeV, wrAt, splice, cellsV, lenL, ne_eq, Nat.reduceLeDiff, partsV, elemsV, toPss, toPs, toP, fill, Nat.reduceMul, Nat.reduceLT, snapHsl, snapHref, i82, bD, hnz, okD, oV, planAppend, elemsOf, szOf, szOK, frz, frzL, room, planSlice, boundOf, Nat.reduceSub, Int.reduceLT, Int.reduceAdd, Int.reduceBEq, Int.reduceBNe, Int.reduceLE, List.contains_eq_mem, frzL_nil, onesC, snap_hfn, snapHfn_some, snap_href_s, snap_hsl_s]
    have hk1 : Kept K338 blk (upd blk 5248192640 ((blk 5248192640).1 + 1, some (.carr 30 1 (vfns g)))) := Kept.upd (Kept.refl _ _) (.inr (.inl rfl)) _
    generalize hb1 : upd blk 5248192640 ((blk 5248192640).1 + 1, some (.carr 30 1 (vfns g))) = blk1
    rw [hb1] at hk1
    have bV : blk1 5248192640 = ((blk 5248192640).1 + 1, some (.carr 30 1 (vfns g))) := by rw [← hb1]; simp only [↓Rd, Rt, Rl, Rb, gP_done, dP_done, Al.all_oks, plan, binV, binInt, eqV, isNilV, app, if_true, if_false, reduceIte, Nat.reduceEqDiff, beq_self_eq_true, reduceCtorEq, ge_iff_le, resultsV, noTup, tupV, fnOf, Nat.reduceAdd, rdAt, takeV, wrAt, splice, cellsV, lenL, ne_eq, Nat.reduceLeDiff, partsV, elemsV, toPss, toPs, toP, fill, Nat.reduceMul, Nat.reduceLT, snapHsl, snapHref]
    have bD : blk1 3200320128 = (g, some (.var (dgC F ls (.p .nils) (.p .nils) (.p .nils) (.p .nilm) (.p .nils)))) := by rw [← hb1]; simp only [↓Rd, Rt, Rl, Rb, gP_done, dP_done, Al.all_oks, plan, binV, binInt, eqV, isNilV, app, if_true, if_false, reduceIte, Nat.reduceEqDiff, beq_self_eq_true, reduceCtorEq, ge_iff_le, resultsV, noTup, tupV, fnOf, Nat.reduceAdd, rdAt, takeV, wrAt, splice, cellsV, lenL, ne_eq, Nat.reduceLeDiff, partsV, elemsV, toPss, toPs, toP, fill, Nat.reduceMul, Nat.reduceLT, snapHsl, snapHref, bD]
    clear hb1
    have hsn : snapV blk1 (.one (.href 3200320128 g 0)) = some (.one (.p (dgP F ls (.sl []) (.sl []) (.sl []) .nilm (.sl []))), [3200320128]) := by
      simp only [↓Rd, Rt, Rl, Rb, gP_done, dP_done, Al.all_oks, plan, binV, binInt, eqV, isNilV, app, if_true, if_false, reduceIte, Nat.reduceEqDiff, beq_self_eq_true, reduceCtorEq, ge_iff_le, resultsV, noTup, tupV, fnOf, Nat.reduceAdd, rdAt, takeV, wrAt, splice, cellsV, lenL, ne_eq, Nat.reduceLeDiff, partsV, elemsV, toPss, toPs, toP, fill, Nat.reduceMul, Nat.reduceLT, snapHsl, snapHref, bD, planAppend, elemsOf, szOf, szOK, frz, frzL, room, planSlice, boundOf, Nat.reduceSub, Int.reduceLT, Int.reduceAdd, Int.reduceBEq, Int.reduceBNe, Int.reduceLE, List.contains_eq_mem, frzL_nil, onesC, snap_hfn, snapHfn_some, snap_href_s, snap_hsl_s]
    have hrd : al.oks [3200320128] = true := by simp only [↓Rd, Rt, Rl, Rb, gP_done_al, dP_done_al, oks_nil, oks_cons, Bool.and_self, plan, binV, binInt, eqV, isNilV, app, if_true, if_false, reduceIte, Nat.reduceEqDiff, beq_self_eq_true, reduceCtorEq, ge_iff_le, resultsV, noTup, tupV, fnOf, Nat.reduceAdd, rdAt, takeV, wrAt, splice, cellsV, lenL, ne_eq, Nat.reduceLeDiff, partsV, elemsV, toPss, toPs, toP, fill, Nat.reduceMul, Nat.reduceLT, snapHsl, snapHref, okD]
    refine vpure 0 (by omega) rfl s115 oV (by simp only [↓Rd, Rt, Rl, Rb, gP_done, dP_done, Al.all_oks, plan, binV, binInt, eqV, isNilV, app, if_true, if_false, reduceIte, Nat.reduceEqDiff, beq_self_eq_true, reduceCtorEq, ge_iff_le, resultsV, noTup, tupV, fnOf, Nat.reduceAdd, rdAt, takeV, wrAt, splice, cellsV, lenL, ne_eq, Nat.reduceLeDiff, partsV, elemsV, toPss, toPs, toP, fill, Nat.reduceMul, Nat.reduceLT, snapHsl, snapHref]) (by simp only [↓Rd, Rt, Rl, Rb, gP_done, dP_done, Al.all_oks, plan, binV, binInt, eqV, isNilV, app, if_true, if_false, reduceIte, Nat.reduceEqDiff, beq_self_eq_true, reduceCtorEq, ge_iff_le, resultsV, noTup, tupV, fnOf, Nat.reduceAdd, rdAt, takeV, wrAt, splice, cellsV, lenL, ne_eq, Nat.reduceLeDiff, partsV, elemsV, toPss, toPs, toP, fill, Nat.reduceMul, Nat.reduceLT, snapHsl, snapHref]; rfl) (by simp only [↓Rd, Rt, Rl, Rb, gP_done, dP_done, Al.all_oks, plan, binV, binInt, eqV, isNilV, app, if_true, if_false, reduceIte, Nat.reduceEqDiff, beq_self_eq_true, reduceCtorEq, ge_iff_le, resultsV, noTup, tupV, fnOf, Nat.reduceAdd, rdAt, takeV, wrAt, splice, cellsV, lenL, ne_eq, Nat.reduceLeDiff, partsV, elemsV, toPss, toPs, toP, fill, Nat.reduceMul, Nat.reduceLT, snapHsl, snapHref]; rfl) bV hsn hrd pl (fun hb env' h2 => fail env' blk1 hk1 (noL' fun h => by simp [h.1] at hb) h2) (fun hb env' q22 q23 q24 => ?_)
    have hb1 : ls.any (badL F) = false := by simpa using hb
    have hbl : ∀ l ∈ ls, badL F l = false := fun l hl => by simpa using List.any_eq_false.1 hb1 l hl
    have hg : gates F ls := fun l hl hp => ((not_badP hp).1 (hbl l hl)).1.1.1
    refine vpure 1 (by omega) rfl s116 oV q22 q23 q24 bV hsn hrd pb (fun hb env' h2 => fail env' blk1 hk1 (by simp only [validR, h0, hb]; rfl) h2) (fun hbg env' q22 q23 q24 => ?_)
    clear hb
    have hre : reachV blk1 (.one (.href 3200320128 g 0)) = [3200320128] := by rw [reach_var bD]; simp [reach_p]
    refine vshare (b := ranksR ls) 2 (by omega) rfl (by kernel_rfl) oV q22 q23 q24 bV ?_ (ranks_p (allow_okI (by simp [hre])) (fun id h => allow_ok (by rw [sitesR, h]; rfl)) hl hF hg bD) (fun v blk' h => h.1) ?_ ?_
    · refine holds_of ?_ ?_
      · show al.oks ([V.one (.href 3200320128 g 0)].map (reachV blk1)).flatten = true
        simp only [List.map_cons, List.map_nil, hre, List.flatten_cons, List.flatten_nil, List.append_nil]
        exact hrd
      · show (S.sites 117).all al.fs.contains = true
        rw [sitesR]; simp only [List.all_cons, List.all_nil, f1]; rfl
    · intro hb v env' blk' hp h2
      exact fail env' blk' (hk1.trans (hp.2.1.weak fun id h => h.elim .inl fun h => .inr (.inr (.inl h)))) (noL' fun h => by rw [h.2.1] at hb; cases hb) h2
    intro hrk v env' blk2 hp q22 q23 q24
    obtain ⟨_, hk2, hr2⟩ := hp
    obtain ⟨g1, g2, g3, g5, bD, bC, bW, bP', bA⟩ := hr2 hrk
    have hax : axOK F ls := by
      obtain ⟨a, b⟩ := (ranks_iff hg).1 hrk
      exact ⟨a, b⟩
    rw [axis_law hax] at bA
    rw [T_len hg] at bD
    have bV : blk2 5248192640 = ((blk 5248192640).1 + 1, some (.carr 30 1 (vfns g))) := by rw [← bV]; exact hk2 _ (by decide)
    have hk2' : Kept K338 blk blk2 := hk1.trans (hk2.weak fun id h => h.elim .inl fun h => .inr (.inr (.inl h)))
    have oC := okf 7488064448 (.inr (.inl rfl))
    have oW := okf 7488128448 (.inr (.inl rfl))
    have oP := okf 7488192448 (.inr (.inl rfl))
    have oA := okf 7489344128 (.inr (.inl rfl))
    have oM := okf 7552256064 (.inr (.inr rfl))
    have hre2 : reachV blk2 (.one (.href 3200320128 g 0)) = [3200320128, 7488128448, 7489344128, 7488192448, 7488064448] := by
      rw [reach_var bD]
      simp only [List.map_cons, List.map_nil, reach_p, reach_arr bW, reach_arr bA, reach_arr bP', reach_arr bC, List.flatten_cons, List.flatten_nil, List.nil_append, List.append_nil, List.cons_append]
    refine vshare (b := crossR ls) 3 (by omega) rfl (by kernel_rfl) oV q22 q23 q24 bV ?_ (dcross_p (allow_okI (by simp [hre2])) (fun id h => allow_ok (by rw [sitesX, h]; rfl)) hl bD) (fun v blk' h => h.1) ?_ ?_
    · refine holds_of ?_ ?_
      · show al.oks ([V.one (.href 3200320128 g 0)].map (reachV blk2)).flatten = true
        simp only [List.map_cons, List.map_nil, hre2, List.flatten_cons, List.flatten_nil, List.append_nil, oks_cons, oks_nil, okD, oC, oW, oP, oA, Bool.and_self]
      · show (S.sites 118).all al.fs.contains = true
        rw [sitesX]; simp only [List.all_cons, List.all_nil, f2]; rfl
    · intro hb v env' blk' hp h2
      exact fail env' blk' (hk2'.trans (hp.2.1.weak fun id h => h.elim .inl fun h => .inr (.inr (.inr h)))) (noL' fun h => by rw [h.2.2] at hb; cases hb) h2
    intro hcr v env' blk3 hp q22 q23 q24
    obtain ⟨_, hk3, hr3⟩ := hp
    obtain ⟨g4, bD, bM⟩ := hr3 hcr
    have kp : ∀ id, siteFn id = 117 → blk3 id = blk2 id := fun id h => hk3 id (by
      rintro (e | e)
      · rw [e] at h; revert h; decide
      · rw [e] at h; revert h; decide)
    rw [← kp _ rfl] at bC bW bP' bA
    have bV : blk3 5248192640 = ((blk 5248192640).1 + 1, some (.carr 30 1 (vfns g))) := by rw [← bV]; exact hk3 _ (by decide)
    have hk3' : Kept K338 blk blk3 := hk2'.trans (hk3.weak fun id h => h.elim .inl fun h => .inr (.inr (.inr h)))
    have ok : dgOK F ls := ⟨hl, hax, hcr, fun l hl => bad_kind (hbl l hl)⟩
    have pf := flat_p ok
    have hlR : lettersR F ls = true := hlaw.2 ⟨hb1, hrk, hcr⟩
    have hvr : validR F ls = (nWalks ls == cnt Let.isP ls + cnt Let.isC ls / 2 + 2) := by
      have hbg' : (l0.kind == 1) = true ∧ (cnt Let.isP ls % 2 == 0) = true := by simpa using hbg
      simp only [validR, h0, hbg'.1, hbg'.2, hlR, Bool.true_and]
    have t1 : List.take ls.length (bP (downs ls)) = bP (downs ls) := List.take_of_length_le (by simp [downs])
    have t2 : List.take (axisR ls).length (nP (axisR ls)) = nP (axisR ls) := List.take_of_length_le (by simp)
    have t3 : List.take ls.length (nP (plK ls ls.length)) = nP (plK ls ls.length) := List.take_of_length_le (by simp [plK])
    have t4 : List.take (F + 1) (nP (counts ls F)) = nP (counts ls F) := List.take_of_length_le (by simp [counts])
    have n1 : ls.length ≤ (downs ls).length := by simp [downs]
    have n3 : ls.length ≤ (plK ls ls.length).length := by simp [plK]
    have n4 : F + 1 ≤ (counts ls F).length := by simp [counts]
    have hsn : snapV blk3 (.one (.href 3200320128 g 0)) = some (.one (.p (dgV F ls)), [3200320128, 7488128448, 7489344128, 7488192448, 7552256064, 7488064448]) := by
      simp only [↓Rd, Rt, Rl, Rb, gP_done, dP_done, Al.all_oks, plan, binV, binInt, eqV, isNilV, app, if_true, if_false, reduceIte, Nat.reduceEqDiff, beq_self_eq_true, reduceCtorEq, ge_iff_le, resultsV, noTup, tupV, fnOf, Nat.reduceAdd, rdAt, takeV, wrAt, splice, cellsV, lenL, ne_eq, Nat.reduceLeDiff, partsV, elemsV, toPss, toPs, toP, fill, Nat.reduceMul, Nat.reduceLT, snapHsl, snapHref, snap_hmap, bD, bW, bA, bP', bC, bM, snapHmap, t1, t2, t3, t4, n1, n3, n4, planAppend, elemsOf, szOf, szOK, frz, frzL, room, planSlice, boundOf, Nat.reduceSub, Int.reduceLT, Int.reduceAdd, Int.reduceBEq, Int.reduceBNe, Int.reduceLE, List.contains_eq_mem, frzL_nil, onesC, snap_hfn, snapHfn_some, snap_href_s, snap_hsl_s]
    have hrd : al.oks [3200320128, 7488128448, 7489344128, 7488192448, 7552256064, 7488064448] = true := by simp only [oks_cons, oks_nil, okD, oC, oW, oP, oA, oM, Bool.and_self]
    refine vpure 4 (by omega) rfl s119 oV q22 q23 q24 bV hsn hrd pf (fun hb env' h2 => fail env' blk3 hk3' (by rw [hvr]; exact hb) h2) (fun hfl env' q22 q23 q24 => ?_)
    have hv : validR F ls = true := by rw [hvr]; exact hfl
    refine R_unroll ?_
    have n5 : ¬ ((((4 + 1 : Nat)) : Int) < 5) := by decide
    simp only [↓Rd, Rt, Rl, Rb, gP_done_al, dP_done_al, oks_nil, oks_cons, Bool.and_self, plan, binV, binInt, eqV, isNilV, app, if_true, if_false, reduceIte, Nat.reduceEqDiff, beq_self_eq_true, reduceCtorEq, ge_iff_le, resultsV, noTup, tupV, fnOf, Nat.reduceAdd, rdAt, takeV, wrAt, splice, cellsV, lenL, ne_eq, Nat.reduceLeDiff, partsV, elemsV, toPss, toPs, toP, fill, Nat.reduceMul, Nat.reduceLT, snapHsl, snapHref, i82_l1, i82_r2, q23, q24, n5, planAppend, elemsOf, szOf, szOK, frz, frzL, room, planSlice, boundOf, Nat.reduceSub, Int.reduceLT, Int.reduceAdd, Int.reduceBEq, Int.reduceBNe, Int.reduceLE, List.contains_eq_mem, frzL_nil, onesC, snap_hfn, snapHfn_some, snap_href_s, snap_hsl_s]
    exact ⟨by rw [validP, hde, hv]; rfl, hk3', fun _ _ => ⟨g1, g2, g3, g4, g5, bD, bC, bW, bP', bA, bM⟩, fun h => absurd h he⟩
end Go.Abs
namespace Go.Abs
set_option maxRecDepth 100000
/-- a diagram of no letters -/
abbrev dgE (f : Int) : PV := dgP f [] (.sl []) (.sl []) (.sl []) .nilm (.sl [])
abbrev rtup (a b : PV) : RV := .tup [.one (.p a), .one (.p b)]
def readR (f : Int) (ls : List Let) : RV := if checkR f ls = 0 then rtup (if ls = [] then dgE f else dgV f.toNat ls) (.int .i64 0) else rtup .nilp (.int .i64 (checkR f ls))
theorem land_tup {blk : Blk} {s : Nat} {a b : PV} {l : Bool} : land blk [] s ((rtup a b).pureIf l) = some (.tup [.one (.p a), .one (.p b)], []) := by
  cases l <;> rfl
theorem readR_bad {f : Int} {ls : List Let} {e : Int} (h : checkR f ls = e) (he : e ≠ 0) : readR f ls = rtup .nilp (.int .i64 e) := by
  unfold readR
  rw [h, if_neg he]
theorem readR_good {f : Int} {ls : List Let} (h : checkR f ls = 0) : readR f ls = rtup (if ls = [] then dgE f else dgV f.toNat ls) (.int .i64 0) := by
  unfold readR
  rw [if_pos h]
set_option maxHeartbeats 8000000 in
theorem read_p (f : Int) (ls : List Let) (hl : ls.length ≤ 1000000) : PEv S 50 [codeV f ls] (readR f ls) := by
  have pc := crosses_p f ls hl
  refine PEv_fn rfl c50 (Nat.le_of_ble_eq_true rfl) ?_
  by_cases h1 : 400 < ls.length
  · have h1' : (400 : Int) < (ls.length : Int) := by omega
    rw [readR_bad (e := 7) (by unfold checkR; rw [if_pos (Or.inl h1)]) (by decide)]
    simp only [↓Rd, Rt, Rl, Rb, gP_done, dP_done, Al.all_oks, plan, binV, binInt, eqV, isNilV, app, if_true, if_false, reduceIte, Nat.reduceEqDiff, beq_self_eq_true, reduceCtorEq, ge_iff_le, resultsV, noTup, tupV, fnOf, Nat.reduceAdd, rdAt, takeV, wrAt, splice, cellsV, lenL, ne_eq, Nat.reduceLeDiff, partsV, elemsV, toPss, toPs, toP, fill, Nat.reduceMul, Nat.reduceLT, snapHsl, snapHref, i50, noBlk, h1', s63, gP_int pc, planAppend, elemsOf, szOf, szOK, frz, frzL, room, planSlice, boundOf, Nat.reduceSub, Int.reduceLT, Int.reduceAdd, Int.reduceBEq, Int.reduceBNe, Int.reduceLE, List.contains_eq_mem, frzL_nil, onesC, snap_hfn, snapHfn_some, snap_href_s, snap_hsl_s]
    rfl
  have h1' : ¬ (400 : Int) < (ls.length : Int) := by omega
  by_cases h2 : 200 < cnt Let.isC ls
  · have h2' : (200 : Int) < (cnt Let.isC ls : Int) := by omega
    rw [readR_bad (e := 7) (by unfold checkR; rw [if_pos (Or.inr h2)]) (by decide)]
    simp only [↓Rd, Rt, Rl, Rb, gP_done, dP_done, Al.all_oks, plan, binV, binInt, eqV, isNilV, app, if_true, if_false, reduceIte, Nat.reduceEqDiff, beq_self_eq_true, reduceCtorEq, ge_iff_le, resultsV, noTup, tupV, fnOf, Nat.reduceAdd, rdAt, takeV, wrAt, splice, cellsV, lenL, ne_eq, Nat.reduceLeDiff, partsV, elemsV, toPss, toPs, toP, fill, Nat.reduceMul, Nat.reduceLT, snapHsl, snapHref, i50, noBlk, h1', h2', s63, gP_int pc, planAppend, elemsOf, szOf, szOK, frz, frzL, room, planSlice, boundOf, Nat.reduceSub, Int.reduceLT, Int.reduceAdd, Int.reduceBEq, Int.reduceBNe, Int.reduceLE, List.contains_eq_mem, frzL_nil, onesC, snap_hfn, snapHfn_some, snap_href_s, snap_hsl_s]
    rfl
  have h2' : ¬ (200 : Int) < (cnt Let.isC ls : Int) := by omega
  have n1 : ¬ (400 < ls.length ∨ 200 < cnt Let.isC ls) := by omega
  by_cases h3 : f < 0
  · rw [readR_bad (e := 2) (by unfold checkR; rw [if_neg n1, if_pos (Or.inl h3)]) (by decide)]
    simp only [↓Rd, Rt, Rl, Rb, gP_done, dP_done, Al.all_oks, plan, binV, binInt, eqV, isNilV, app, if_true, if_false, reduceIte, Nat.reduceEqDiff, beq_self_eq_true, reduceCtorEq, ge_iff_le, resultsV, noTup, tupV, fnOf, Nat.reduceAdd, rdAt, takeV, wrAt, splice, cellsV, lenL, ne_eq, Nat.reduceLeDiff, partsV, elemsV, toPss, toPs, toP, fill, Nat.reduceMul, Nat.reduceLT, snapHsl, snapHref, i50, noBlk, h1', h2', h3, s63, gP_int pc, planAppend, elemsOf, szOf, szOK, frz, frzL, room, planSlice, boundOf, Nat.reduceSub, Int.reduceLT, Int.reduceAdd, Int.reduceBEq, Int.reduceBNe, Int.reduceLE, List.contains_eq_mem, frzL_nil, onesC, snap_hfn, snapHfn_some, snap_href_s, snap_hsl_s]
    rfl
  by_cases h4 : 40 < f
  · rw [readR_bad (e := 2) (by unfold checkR; rw [if_neg n1, if_pos (Or.inr h4)]) (by decide)]
    simp only [↓Rd, Rt, Rl, Rb, gP_done, dP_done, Al.all_oks, plan, binV, binInt, eqV, isNilV, app, if_true, if_false, reduceIte, Nat.reduceEqDiff, beq_self_eq_true, reduceCtorEq, ge_iff_le, resultsV, noTup, tupV, fnOf, Nat.reduceAdd, rdAt, takeV, wrAt, splice, cellsV, lenL, ne_eq, Nat.reduceLeDiff, partsV, elemsV, toPss, toPs, toP, fill, Nat.reduceMul, Nat.reduceLT, snapHsl, snapHref, i50, noBlk, h1', h2', h3, h4, s63, gP_int pc, planAppend, elemsOf, szOf, szOK, frz, frzL, room, planSlice, boundOf, Nat.reduceSub, Int.reduceLT, Int.reduceAdd, Int.reduceBEq, Int.reduceBNe, Int.reduceLE, List.contains_eq_mem, frzL_nil, onesC, snap_hfn, snapHfn_some, snap_href_s, snap_hsl_s]
    rfl
  have n2 : ¬ (f < 0 ∨ 40 < f) := by omega
  obtain ⟨F, rfl⟩ := Int.eq_ofNat_of_zero_le (show 0 ≤ f by omega)
  have hsh : S.shared 82 = true := by kernel_rfl
  simp only [↓Rd, Rt, Rl, Rb, gP_done, dP_done, Al.all_oks, plan, binV, binInt, eqV, isNilV, app, if_true, if_false, reduceIte, Nat.reduceEqDiff, beq_self_eq_true, reduceCtorEq, ge_iff_le, resultsV, noTup, tupV, fnOf, Nat.reduceAdd, rdAt, takeV, wrAt, splice, cellsV, lenL, ne_eq, Nat.reduceLeDiff, partsV, elemsV, toPss, toPs, toP, fill, Nat.reduceMul, Nat.reduceLT, snapHsl, snapHref, i50, noBlk, h1', h2', h3, h4, s63, gP_int pc, hsh, planAppend, elemsOf, szOf, szOK, frz, frzL, room, planSlice, boundOf, Nat.reduceSub, Int.reduceLT, Int.reduceAdd, Int.reduceBEq, Int.reduceBNe, Int.reduceLE, List.contains_eq_mem, frzL_nil, onesC, snap_hfn, snapHfn_some, snap_href_s, snap_hsl_s]
  refine gP_sc2 (P := vdPost F ls 1 _) holds_all (valid_p (F := F) (ls := ls) ?_ ?_ ?_ ?_ hl (by omega) ?_) ?_
  · refine allow_okI ?_
    rw [List.map_cons, List.map_nil, reach_var (g0 := 1) (cs := dgC F ls (.p .nils) (.p .nils) (.p .nils) (.p .nilm) (.p .nils)) (by simp only [↓Rd, Rt, Rl, Rb, gP_done, dP_done, Al.all_oks, plan, binV, binInt, eqV, isNilV, app, if_true, if_false, reduceIte, Nat.reduceEqDiff, beq_self_eq_true, reduceCtorEq, ge_iff_le, resultsV, noTup, tupV, fnOf, Nat.reduceAdd, rdAt, takeV, wrAt, splice, cellsV, lenL, ne_eq, Nat.reduceLeDiff, partsV, elemsV, toPss, toPs, toP, fill, Nat.reduceMul, Nat.reduceLT, snapHsl, snapHref])]
    simp
  · intro id h
    refine allow_ok ?_
    rw [sitesV]
    rcases h with h | h | h <;> rw [h] <;> rfl
  · show (S.sites 82).contains _ = true
    rw [sitesV]; rfl
  · show (S.sites 82).contains _ = true
    rw [sitesV]; rfl
  · simp only [↓Rd, Rt, Rl, Rb, gP_done, dP_done, Al.all_oks, plan, binV, binInt, eqV, isNilV, app, if_true, if_false, reduceIte, Nat.reduceEqDiff, beq_self_eq_true, reduceCtorEq, ge_iff_le, resultsV, noTup, tupV, fnOf, Nat.reduceAdd, rdAt, takeV, wrAt, splice, cellsV, lenL, ne_eq, Nat.reduceLeDiff, partsV, elemsV, toPss, toPs, toP, fill, Nat.reduceMul, Nat.reduceLT, snapHsl, snapHref]
  · rintro v blk' ⟨rfl, hk, hr, hz⟩
    unfold validP
    by_cases he : ls = []
    · have hc : checkR F ls = 0 := by unfold checkR; rw [if_neg n1, if_neg n2, if_pos he]
      have bD := hz he
      rw [readR_good hc, if_pos he]
      have hde : (decide (ls = []) || validR F ls) = true := by simp [he]
      rw [hde]
      subst he
      simp only [↓Rd, Rt, Rl, Rb, gP_done, dP_done, Al.all_oks, plan, binV, binInt, eqV, isNilV, app, if_true, if_false, reduceIte, Nat.reduceEqDiff, beq_self_eq_true, reduceCtorEq, ge_iff_le, resultsV, noTup, tupV, fnOf, Nat.reduceAdd, rdAt, takeV, wrAt, splice, cellsV, lenL, ne_eq, Nat.reduceLeDiff, partsV, elemsV, toPss, toPs, toP, fill, Nat.reduceMul, Nat.reduceLT, snapHsl, snapHref] at bD
      simp only [↓Rd, Rt, Rl, Rb, gP_done, dP_done, Al.all_oks, plan, binV, binInt, eqV, isNilV, app, if_true, if_false, reduceIte, Nat.reduceEqDiff, beq_self_eq_true, reduceCtorEq, ge_iff_le, resultsV, noTup, tupV, fnOf, Nat.reduceAdd, rdAt, takeV, wrAt, splice, cellsV, lenL, ne_eq, Nat.reduceLeDiff, partsV, elemsV, toPss, toPs, toP, fill, Nat.reduceMul, Nat.reduceLT, snapHsl, snapHref, planAppend, elemsOf, szOf, szOK, frz, frzL, room, planSlice, boundOf, Nat.reduceSub, Int.reduceLT, Int.reduceAdd, Int.reduceBEq, Int.reduceBNe, Int.reduceLE, List.contains_eq_mem, frzL_nil, onesC, snap_hfn, snapHfn_some, snap_href_s, snap_hsl_s]
      simp only [outV, flatV, flatVs, flatV1, outCs, outC, ↓Rd, Rt, Rl, Rb, gP_done, dP_done, Al.all_oks, plan, binV, binInt, eqV, isNilV, app, if_true, if_false, reduceIte, Nat.reduceEqDiff, beq_self_eq_true, reduceCtorEq, ge_iff_le, resultsV, noTup, tupV, fnOf, Nat.reduceAdd, rdAt, takeV, wrAt, splice, cellsV, lenL, ne_eq, Nat.reduceLeDiff, partsV, elemsV, toPss, toPs, toP, fill, Nat.reduceMul, Nat.reduceLT, snapHsl, snapHref, snap_href_s, bD, snapHref, planAppend, elemsOf, szOf, szOK, frz, frzL, room, planSlice, boundOf, Nat.reduceSub, Int.reduceLT, Int.reduceAdd, Int.reduceBEq, Int.reduceBNe, Int.reduceLE, List.contains_eq_mem, frzL_nil, onesC, snap_hfn, snapHfn_some, snap_href_s, snap_hsl_s]
      rfl
    · have hde : decide (ls = []) = false := by simp [he]
      cases hv : validR F ls with
      | false =>
        rw [readR_bad (e := 3) (by unfold checkR; rw [if_neg n1, if_neg n2, if_neg he, hv]; rfl) (by decide)]
        rw [hde, Bool.false_or]
        simp only [↓Rd, Rt, Rl, Rb, gP_done, dP_done, Al.all_oks, plan, binV, binInt, eqV, isNilV, app, if_true, if_false, reduceIte, Nat.reduceEqDiff, beq_self_eq_true, reduceCtorEq, ge_iff_le, resultsV, noTup, tupV, fnOf, Nat.reduceAdd, rdAt, takeV, wrAt, splice, cellsV, lenL, ne_eq, Nat.reduceLeDiff, partsV, elemsV, toPss, toPs, toP, fill, Nat.reduceMul, Nat.reduceLT, snapHsl, snapHref, planAppend, elemsOf, szOf, szOK, frz, frzL, room, planSlice, boundOf, Nat.reduceSub, Int.reduceLT, Int.reduceAdd, Int.reduceBEq, Int.reduceBNe, Int.reduceLE, List.contains_eq_mem, frzL_nil, onesC, snap_hfn, snapHfn_some, snap_href_s, snap_hsl_s]
        rfl
      | true =>
        have hc : checkR F ls = 0 := by unfold checkR; rw [if_neg n1, if_neg n2, if_neg he, hv]; rfl
        rw [readR_good hc, if_neg he]
        obtain ⟨g1, g2, g3, g4, g5, bD, bC, bW, bP', bA, bM⟩ := hr he hv
        have hFn : (F : Int).toNat = F := rfl
        rw [hFn]
        have t1 : List.take ls.length (bP (downs ls)) = bP (downs ls) := List.take_of_length_le (by simp [downs])
        have t2 : List.take (axisR ls).length (nP (axisR ls)) = nP (axisR ls) := List.take_of_length_le (by simp)
        have t3 : List.take ls.length (nP (plK ls ls.length)) = nP (plK ls ls.length) := List.take_of_length_le (by simp [plK])
        have t4 : List.take (F + 1) (nP (counts ls F)) = nP (counts ls F) := List.take_of_length_le (by simp [counts])
        have n1 : ls.length ≤ (downs ls).length := by simp [downs]
        have n3 : ls.length ≤ (plK ls ls.length).length := by simp [plK]
        have n4 : F + 1 ≤ (counts ls F).length := by simp [counts]
        rw [hde, Bool.false_or]
        simp only [↓Rd, Rt, Rl, Rb, gP_done, dP_done, Al.all_oks, plan, binV, binInt, eqV, isNilV, app, if_true, if_false, reduceIte, Nat.reduceEqDiff, beq_self_eq_true, reduceCtorEq, ge_iff_le, resultsV, noTup, tupV, fnOf, Nat.reduceAdd, rdAt, takeV, wrAt, splice, cellsV, lenL, ne_eq, Nat.reduceLeDiff, partsV, elemsV, toPss, toPs, toP, fill, Nat.reduceMul, Nat.reduceLT, snapHsl, snapHref, planAppend, elemsOf, szOf, szOK, frz, frzL, room, planSlice, boundOf, Nat.reduceSub, Int.reduceLT, Int.reduceAdd, Int.reduceBEq, Int.reduceBNe, Int.reduceLE, List.contains_eq_mem, frzL_nil, onesC, snap_hfn, snapHfn_some, snap_href_s, snap_hsl_s]
        simp only [outV, flatV, flatVs, flatV1, outCs, outC, ↓Rd, Rt, Rl, Rb, gP_done, dP_done, Al.all_oks, plan, binV, binInt, eqV, isNilV, app, if_true, if_false, reduceIte, Nat.reduceEqDiff, beq_self_eq_true, reduceCtorEq, ge_iff_le, resultsV, noTup, tupV, fnOf, Nat.reduceAdd, rdAt, takeV, wrAt, splice, cellsV, lenL, ne_eq, Nat.reduceLeDiff, partsV, elemsV, toPss, toPs, toP, fill, Nat.reduceMul, Nat.reduceLT, snapHsl, snapHref, snap_hmap, bD, bW, bA, bP', bC, bM, snapHmap, t1, t2, t3, t4, n1, n3, n4, planAppend, elemsOf, szOf, szOK, frz, frzL, room, planSlice, boundOf, Nat.reduceSub, Int.reduceLT, Int.reduceAdd, Int.reduceBEq, Int.reduceBNe, Int.reduceLE, List.contains_eq_mem, frzL_nil, onesC, snap_hfn, snapHfn_some, snap_href_s, snap_hsl_s]
        rfl
set_option maxHeartbeats 8000000 in
theorem check_p (f : Int) (ls : List Let) (hl : ls.length ≤ 1000000) : PEv S 26 [codeV f ls] (ri (checkR f ls)) := by
  have pr := read_p f ls hl
  refine PEv_fn rfl c26 (Nat.le_of_ble_eq_true rfl) ?_
  unfold readR at pr
  by_cases h : checkR f ls = 0
  · rw [if_pos h] at pr
    simp only [↓Rd, Rt, Rl, Rb, gP_done, dP_done, Al.all_oks, plan, binV, binInt, eqV, isNilV, app, if_true, if_false, reduceIte, Nat.reduceEqDiff, beq_self_eq_true, reduceCtorEq, ge_iff_le, resultsV, noTup, tupV, fnOf, Nat.reduceAdd, rdAt, takeV, wrAt, splice, cellsV, lenL, ne_eq, Nat.reduceLeDiff, partsV, elemsV, toPss, toPs, toP, fill, Nat.reduceMul, Nat.reduceLT, snapHsl, snapHref, i26, noBlk, s50, gP_land pr land_tup, h, planAppend, elemsOf, szOf, szOK, frz, frzL, room, planSlice, boundOf, Nat.reduceSub, Int.reduceLT, Int.reduceAdd, Int.reduceBEq, Int.reduceBNe, Int.reduceLE, List.contains_eq_mem, frzL_nil, onesC, snap_hfn, snapHfn_some, snap_href_s, snap_hsl_s]
  · rw [if_neg h] at pr
    simp only [↓Rd, Rt, Rl, Rb, gP_done, dP_done, Al.all_oks, plan, binV, binInt, eqV, isNilV, app, if_true, if_false, reduceIte, Nat.reduceEqDiff, beq_self_eq_true, reduceCtorEq, ge_iff_le, resultsV, noTup, tupV, fnOf, Nat.reduceAdd, rdAt, takeV, wrAt, splice, cellsV, lenL, ne_eq, Nat.reduceLeDiff, partsV, elemsV, toPss, toPs, toP, fill, Nat.reduceMul, Nat.reduceLT, snapHsl, snapHref, i26, noBlk, s50, gP_land pr land_tup, planAppend, elemsOf, szOf, szOK, frz, frzL, room, planSlice, boundOf, Nat.reduceSub, Int.reduceLT, Int.reduceAdd, Int.reduceBEq, Int.reduceBNe, Int.reduceLE, List.contains_eq_mem, frzL_nil, onesC, snap_hfn, snapHfn_some, snap_href_s, snap_hsl_s]
end Go.Abs
namespace Go.Abs
set_option maxRecDepth 100000
abbrev mvV (k a b c : Int) (l o : Bool) (s : Int) : V := .agg [.p (.int .i64 k), .p (.int .i64 a), .p (.int .i64 b), .p (.int .i64 c), .p (.bool l), .p (.bool o), .p (.int .i64 s)]
abbrev rnil (e : Int) : RV := .tup [.one (.p (.sl [])), .one (.p (.int .i64 e))]
abbrev rcode (e : Int) : RV := .tup [.agg [.p (.int .i64 0), .p (.sl [])], .one (.p (.int .i64 e))]
theorem land_code {blk : Blk} {s : Nat} {e : Int} {l : Bool} : land blk [] s ((rcode e).pureIf l) = some (.tup [.agg [.p (.int .i64 0), .p (.sl [])], .one (.p (.int .i64 e))], []) := by
  cases l <;> rfl
theorem land_arr {blk : Blk} {id g ty z s : Nat} {es : List (List PV)} {e : Int} {l : Bool} (hb : blk id = (g, some (.arr ty z es))) : land blk [id] s ((rnil e).pureIf l) = some (.tup [.one (.p (.sl [])), .one (.p (.int .i64 e))], [(id, (g, some (.farr ty z es)))]) := by
  have : frz blk [id] = some [(id, (g, some (.farr ty z es)))] := by simp only [frz, frzL, frz1, hb, List.append_nil]
  cases l <;> (unfold land; rw [this]; rfl)
theorem land_nil {blk : Blk} {s : Nat} {e : Int} {l : Bool} : land blk [] s ((rnil e).pureIf l) = some (.tup [.one (.p (.sl [])), .one (.p (.int .i64 e))], []) := by
  cases l <;> rfl
theorem land_inv {blk : Blk} {s : Nat} {e : Int} {l : Bool} : land blk [] s ((RV.tup [.agg [.p (.int .i64 0), .p (.int .i64 0), .p (.int .i64 0), .p (.int .i64 0), .p (.bool false), .p (.bool false), .p (.int .i64 0)], .one (.p (.int .i64 e))]).pureIf l) = some (.tup [.agg [.p (.int .i64 0), .p (.int .i64 0), .p (.int .i64 0), .p (.int .i64 0), .p (.bool false), .p (.bool false), .p (.int .i64 0)], .one (.p (.int .i64 e))], []) := by
  cases l <;> rfl
theorem land_rep {blk : Blk} {s : Nat} {e : Int} {l : Bool} : land blk [] s ((RV.tup [.agg [.p (.int .i64 0), .p (.sl [])], .one (.p (.int .i64 0)), .one (.p (.int .i64 e))]).pureIf l) = some (.tup [.agg [.p (.int .i64 0), .p (.sl [])], .one (.p (.int .i64 0)), .one (.p (.int .i64 e))], []) := by
  cases l <;> rfl
section
variable {f : Int} {ls : List Let} {e : Int}
theorem read_bad (hl : ls.length ≤ 1000000) (h : checkR f ls = e) (he : e ≠ 0) : PEv S 50 [codeV f ls] (rtup .nilp (.int .i64 e)) := by
  have := read_p f ls hl
  rwa [readR_bad h he] at this
theorem faces_bad (hl : ls.length ≤ 1000000) (h : checkR f ls = e) (he : e ≠ 0) : PEv S 39 [codeV f ls] (rnil e) := by
  have pr := read_bad hl h he
  have he' : (e != 0) = true := by simpa using he
  refine PEv_fn rfl c39 (Nat.le_of_ble_eq_true rfl) ?_
  simp only [↓Rd, Rt, Rl, Rb, gP_done, dP_done, Al.all_oks, plan, binV, binInt, eqV, isNilV, app, if_true, if_false, reduceIte, Nat.reduceEqDiff, beq_self_eq_true, reduceCtorEq, ge_iff_le, resultsV, noTup, tupV, fnOf, Nat.reduceAdd, rdAt, takeV, wrAt, splice, cellsV, lenL, ne_eq, Nat.reduceLeDiff, partsV, elemsV, toPss, toPs, toP, fill, Nat.reduceMul, Nat.reduceLT, snapHsl, snapHref, i39, noBlk, s50, gP_land pr land_tup, he', planAppend, elemsOf, szOf, szOK, frz, frzL, room, planSlice, boundOf, Nat.reduceSub, Int.reduceLT, Int.reduceAdd, Int.reduceBEq, Int.reduceBNe, Int.reduceLE, List.contains_eq_mem, frzL_nil, onesC, snap_hfn, snapHfn_some, snap_href_s, snap_hsl_s]
  rfl
theorem open_bad (hl : ls.length ≤ 1000000) (h : checkR f ls = e) (he : e ≠ 0) : PEv S 21 [codeV f ls] (rtup .nilp (.int .i64 e)) := by
  have pr := faces_bad hl h he
  have he' : (e != 0) = true := by simpa using he
  refine PEv_fn rfl c21 (Nat.le_of_ble_eq_true rfl) ?_
  simp only [↓Rd, Rt, Rl, Rb, gP_done, dP_done, Al.all_oks, plan, binV, binInt, eqV, isNilV, app, if_true, if_false, reduceIte, Nat.reduceEqDiff, beq_self_eq_true, reduceCtorEq, ge_iff_le, resultsV, noTup, tupV, fnOf, Nat.reduceAdd, rdAt, takeV, wrAt, splice, cellsV, lenL, ne_eq, Nat.reduceLeDiff, partsV, elemsV, toPss, toPs, toP, fill, Nat.reduceMul, Nat.reduceLT, snapHsl, snapHref, i21, noBlk, s39, gP_land pr land_tup, he', planAppend, elemsOf, szOf, szOK, frz, frzL, room, planSlice, boundOf, Nat.reduceSub, Int.reduceLT, Int.reduceAdd, Int.reduceBEq, Int.reduceBNe, Int.reduceLE, List.contains_eq_mem, frzL_nil, onesC, snap_hfn, snapHfn_some, snap_href_s, snap_hsl_s]
  rfl
theorem apply_bad (hl : ls.length ≤ 1000000) (h : checkR f ls = e) (he : e ≠ 0) (k a b c : Int) (l o : Bool) (s : Int) : PEv S 6 [codeV f ls, mvV k a b c l o s] (rcode e) := by
  have pr := open_bad hl h he
  have he' : (e != 0) = true := by simpa using he
  refine PEv_fn rfl c6 (Nat.le_of_ble_eq_true rfl) ?_
  simp only [↓Rd, Rt, Rl, Rb, gP_done, dP_done, Al.all_oks, plan, binV, binInt, eqV, isNilV, app, if_true, if_false, reduceIte, Nat.reduceEqDiff, beq_self_eq_true, reduceCtorEq, ge_iff_le, resultsV, noTup, tupV, fnOf, Nat.reduceAdd, rdAt, takeV, wrAt, splice, cellsV, lenL, ne_eq, Nat.reduceLeDiff, partsV, elemsV, toPss, toPs, toP, fill, Nat.reduceMul, Nat.reduceLT, snapHsl, snapHref, i6, noBlk, s21, gP_land pr land_tup, he', planAppend, elemsOf, szOf, szOK, frz, frzL, room, planSlice, boundOf, Nat.reduceSub, Int.reduceLT, Int.reduceAdd, Int.reduceBEq, Int.reduceBNe, Int.reduceLE, List.contains_eq_mem, frzL_nil, onesC, snap_hfn, snapHfn_some, snap_href_s, snap_hsl_s]
  rfl
theorem some_bad (hl : ls.length ≤ 1000000) (h : checkR f ls = e) (he : e ≠ 0) (ks : PV) : PEv S 8 [codeV f ls, .one (.p ks)] (rnil e) := by
  have pr := open_bad hl h he
  have he' : (e != 0) = true := by simpa using he
  refine PEv_fn rfl c8 (Nat.le_of_ble_eq_true rfl) ?_
  simp only [↓Rd, Rt, Rl, Rb, gP_done, dP_done, Al.all_oks, plan, binV, binInt, eqV, isNilV, app, if_true, if_false, reduceIte, Nat.reduceEqDiff, beq_self_eq_true, reduceCtorEq, ge_iff_le, resultsV, noTup, tupV, fnOf, Nat.reduceAdd, rdAt, takeV, wrAt, splice, cellsV, lenL, ne_eq, Nat.reduceLeDiff, partsV, elemsV, toPss, toPs, toP, fill, Nat.reduceMul, Nat.reduceLT, snapHsl, snapHref, i8, noBlk, s21, gP_land pr land_tup, he', planAppend, elemsOf, szOf, szOK, frz, frzL, room, planSlice, boundOf, Nat.reduceSub, Int.reduceLT, Int.reduceAdd, Int.reduceBEq, Int.reduceBNe, Int.reduceLE, List.contains_eq_mem, frzL_nil, onesC, snap_hfn, snapHfn_some, snap_href_s, snap_hsl_s]
  rfl
theorem inverse_bad (hl : ls.length ≤ 1000000) (h : checkR f ls = e) (he : e ≠ 0) (k a b c : Int) (l o : Bool) (s : Int) : PEv S 9 [codeV f ls, mvV k a b c l o s] (.tup [.agg [.p (.int .i64 0), .p (.int .i64 0), .p (.int .i64 0), .p (.int .i64 0), .p (.bool false), .p (.bool false), .p (.int .i64 0)], .one (.p (.int .i64 e))]) := by
  have pr := apply_bad hl h he k a b c l o s
  have he' : (e != 0) = true := by simpa using he
  refine PEv_fn rfl c9 (Nat.le_of_ble_eq_true rfl) ?_
  simp only [↓Rd, Rt, Rl, Rb, gP_done, dP_done, Al.all_oks, plan, binV, binInt, eqV, isNilV, app, if_true, if_false, reduceIte, Nat.reduceEqDiff, beq_self_eq_true, reduceCtorEq, ge_iff_le, resultsV, noTup, tupV, fnOf, Nat.reduceAdd, rdAt, takeV, wrAt, splice, cellsV, lenL, ne_eq, Nat.reduceLeDiff, partsV, elemsV, toPss, toPs, toP, fill, Nat.reduceMul, Nat.reduceLT, snapHsl, snapHref, i9, noBlk, s6, gP_land pr land_code, he', planAppend, elemsOf, szOf, szOK, frz, frzL, room, planSlice, boundOf, Nat.reduceSub, Int.reduceLT, Int.reduceAdd, Int.reduceBEq, Int.reduceBNe, Int.reduceLE, List.contains_eq_mem, frzL_nil, onesC, snap_hfn, snapHfn_some, snap_href_s, snap_hsl_s]
  rfl
theorem replay_bad (hl : ls.length ≤ 1000000) (h : checkR f ls = e) (he : e ≠ 0) (ms : PV) : PEv S 10 [codeV f ls, .one (.p ms)] (.tup [.agg [.p (.int .i64 0), .p (.sl [])], .one (.p (.int .i64 0)), .one (.p (.int .i64 e))]) := by
  have pr := check_p f ls hl
  rw [h] at pr
  have he' : (e != 0) = true := by simpa using he
  refine PEv_fn rfl c10 (Nat.le_of_ble_eq_true rfl) ?_
  simp only [↓Rd, Rt, Rl, Rb, gP_done, dP_done, Al.all_oks, plan, binV, binInt, eqV, isNilV, app, if_true, if_false, reduceIte, Nat.reduceEqDiff, beq_self_eq_true, reduceCtorEq, ge_iff_le, resultsV, noTup, tupV, fnOf, Nat.reduceAdd, rdAt, takeV, wrAt, splice, cellsV, lenL, ne_eq, Nat.reduceLeDiff, partsV, elemsV, toPss, toPs, toP, fill, Nat.reduceMul, Nat.reduceLT, snapHsl, snapHref, i10, noBlk, s26, gP_int pr, he', planAppend, elemsOf, szOf, szOK, frz, frzL, room, planSlice, boundOf, Nat.reduceSub, Int.reduceLT, Int.reduceAdd, Int.reduceBEq, Int.reduceBNe, Int.reduceLE, List.contains_eq_mem, frzL_nil, onesC, snap_hfn, snapHfn_some, snap_href_s, snap_hsl_s]
  rfl
theorem undo_bad (hl : ls.length ≤ 1000000) (h : checkR f ls = e) (he : e ≠ 0) (ms : PV) : PEv S 11 [codeV f ls, .one (.p ms)] (rnil e) := by
  have pr := check_p f ls hl
  rw [h] at pr
  have he' : (e != 0) = true := by simpa using he
  refine PEv_fn rfl c11 (Nat.le_of_ble_eq_true rfl) ?_
  simp only [↓Rd, Rt, Rl, Rb, gP_done, dP_done, Al.all_oks, plan, binV, binInt, eqV, isNilV, app, if_true, if_false, reduceIte, Nat.reduceEqDiff, beq_self_eq_true, reduceCtorEq, ge_iff_le, resultsV, noTup, tupV, fnOf, Nat.reduceAdd, rdAt, takeV, wrAt, splice, cellsV, lenL, ne_eq, Nat.reduceLeDiff, partsV, elemsV, toPss, toPs, toP, fill, Nat.reduceMul, Nat.reduceLT, snapHsl, snapHref, i11, noBlk, s26, gP_int pr, he', planAppend, elemsOf, szOf, szOK, frz, frzL, room, planSlice, boundOf, Nat.reduceSub, Int.reduceLT, Int.reduceAdd, Int.reduceBEq, Int.reduceBNe, Int.reduceLE, List.contains_eq_mem, frzL_nil, onesC, snap_hfn, snapHfn_some, snap_href_s, snap_hsl_s]
  rfl
abbrev kinds (k : Nat) : List Nat := (List.range k).map (· + 1)
theorem kinds_succ (k : Nat) : nP (kinds (k + 1)) = nP (kinds k) ++ [[.int .i64 ((k + 1 : Nat) : Int)]] := by simp [kinds, List.range_succ]
def outK (k : Nat) (v : V) (blk : Blk) : Prop := (k = 0 ∧ v = .one (.p .nils)) ∨ (k ≠ 0 ∧ ∃ g, v = .one (.hsl 448320192 g 1 0 k) ∧ blk 448320192 = (g, some (.arr 25 1 (nP (kinds k)))))
set_option maxHeartbeats 4000000 in
theorem all_bad (hl : ls.length ≤ 1000000) (h : checkR f ls = e) (he : e ≠ 0) : PEv S 7 [codeV f ls] (rnil e) := by
  have pr := fun ks => some_bad hl h he ks
  refine PEv_fn rfl c7 (Nat.le_of_ble_eq_true rfl) ?_
  simp only [↓Rd, Rt, Rl, Rb, gP_done, dP_done, Al.all_oks, plan, binV, binInt, eqV, isNilV, app, if_true, if_false, reduceIte, Nat.reduceEqDiff, beq_self_eq_true, reduceCtorEq, ge_iff_le, resultsV, noTup, tupV, fnOf, Nat.reduceAdd, rdAt, takeV, wrAt, splice, cellsV, lenL, ne_eq, Nat.reduceLeDiff, partsV, elemsV, toPss, toPs, toP, fill, Nat.reduceMul, Nat.reduceLT, snapHsl, snapHref, i7, noBlk, planAppend, elemsOf, szOf, szOK, frz, frzL, room, planSlice, boundOf, Nat.reduceSub, Int.reduceLT, Int.reduceAdd, Int.reduceBEq, Int.reduceBNe, Int.reduceLE, List.contains_eq_mem, frzL_nil, onesC, snap_hfn, snapHfn_some, snap_href_s, snap_hsl_s]
  refine R_for (fun k env blk => env 1 = .one (.href 448000000 1 0) ∧ blk 448000000 = (1, some (.var (codeC f ls))) ∧ env 5 = vi ((k + 1 : Nat) : Int) ∧ outK k (env 4) blk) 0 10 (Nat.zero_le _) ?_ ?_
  · simp only [↓Rd, Rt, Rl, Rb, gP_done, dP_done, Al.all_oks, plan, binV, binInt, eqV, isNilV, app, if_true, if_false, reduceIte, Nat.reduceEqDiff, beq_self_eq_true, reduceCtorEq, ge_iff_le, resultsV, noTup, tupV, fnOf, Nat.reduceAdd, rdAt, takeV, wrAt, splice, cellsV, lenL, ne_eq, Nat.reduceLeDiff, partsV, elemsV, toPss, toPs, toP, fill, Nat.reduceMul, Nat.reduceLT, snapHsl, snapHref]
    exact ⟨rfl, .inl ⟨rfl, rfl⟩⟩
  · rintro k env blk hk ⟨h1, hB, h5, ho⟩
    by_cases hlt : k < 10
    · have hlt' : ((k + 1 : Nat) : Int) ≤ 10 := by omega
      have w1 := wrap_succ (n := k + 1) (by omega)
      have hk1 := kinds_succ k
      rcases ho with ⟨rfl, h4⟩ | ⟨hne, g, h4, hC⟩
      · simp only [↓Rd, Rt, Rl, Rb, gP_done, dP_done, Al.all_oks, plan, binV, binInt, eqV, isNilV, app, if_true, if_false, reduceIte, Nat.reduceEqDiff, beq_self_eq_true, reduceCtorEq, ge_iff_le, resultsV, noTup, tupV, fnOf, Nat.reduceAdd, rdAt, takeV, wrAt, splice, cellsV, lenL, ne_eq, Nat.reduceLeDiff, partsV, elemsV, toPss, toPs, toP, fill, Nat.reduceMul, Nat.reduceLT, snapHsl, snapHref, i7_l1, h1, hB, h4, h5, hlt, hlt', w1, planAppend, elemsOf, szOf, szOK, frz, frzL, room, planSlice, boundOf, Nat.reduceSub, Int.reduceLT, Int.reduceAdd, Int.reduceBEq, Int.reduceBNe, Int.reduceLE, List.contains_eq_mem, frzL_nil, onesC, snap_hfn, snapHfn_some, snap_href_s, snap_hsl_s]
        exact .inr ⟨by simp, _, rfl, rfl⟩
      · have hln : (nP (kinds k)).length = k := by simp [kinds]
        have ht : List.take k (nP (kinds k)) = nP (kinds k) := List.take_of_length_le (by omega)
        have hr : (k + 1) * 8 ≤ 140737488355328 := by omega
        have hkl : (kinds k).length = k := by simp [kinds]
        simp only [↓Rd, Rt, Rl, Rb, gP_done, dP_done, Al.all_oks, plan, binV, binInt, eqV, isNilV, app, if_true, if_false, reduceIte, Nat.reduceEqDiff, beq_self_eq_true, reduceCtorEq, ge_iff_le, resultsV, noTup, tupV, fnOf, Nat.reduceAdd, rdAt, takeV, wrAt, splice, cellsV, lenL, ne_eq, Nat.reduceLeDiff, partsV, elemsV, toPss, toPs, toP, fill, Nat.reduceMul, Nat.reduceLT, snapHsl, snapHref, i7_l1, h1, hB, h4, h5, hlt, hlt', w1, hC, ht, hr, hkl, planAppend, elemsOf, szOf, szOK, frz, frzL, room, planSlice, boundOf, Nat.reduceSub, Int.reduceLT, Int.reduceAdd, Int.reduceBEq, Int.reduceBNe, Int.reduceLE, List.contains_eq_mem, frzL_nil, onesC, snap_hfn, snapHfn_some, snap_href_s, snap_hsl_s]
        exact .inr ⟨by simp, g + 1, by simp, by simp only [upd_apply, if_true]; rw [hk1]⟩
    · have : k = 10 := by omega
      subst this
      have hlt' : ¬ ((10 + 1 : Nat) : Int) ≤ 10 := by decide
      rcases ho with ⟨h0, _⟩ | ⟨_, g, h4, hC⟩
      · cases h0
      · have ht : List.take 10 (nP (kinds 10)) = nP (kinds 10) := List.take_of_length_le (by simp [kinds])
        have hln : 10 ≤ (List.range 10).length := by simp
        simp only [↓Rd, Rt, Rl, Rb, gP_done, dP_done, Al.all_oks, plan, binV, binInt, eqV, isNilV, app, if_true, if_false, reduceIte, Nat.reduceEqDiff, beq_self_eq_true, reduceCtorEq, ge_iff_le, resultsV, noTup, tupV, fnOf, Nat.reduceAdd, rdAt, takeV, wrAt, splice, cellsV, lenL, ne_eq, Nat.reduceLeDiff, partsV, elemsV, toPss, toPs, toP, fill, Nat.reduceMul, Nat.reduceLT, snapHsl, snapHref, i7_l1, i7_r2, h1, hB, h4, h5, hlt', hC, ht, hln, s8, gP_land (pr _) (land_arr hC), planAppend, elemsOf, szOf, szOK, frz, frzL, room, planSlice, boundOf, Nat.reduceSub, Int.reduceLT, Int.reduceAdd, Int.reduceBEq, Int.reduceBNe, Int.reduceLE, List.contains_eq_mem, frzL_nil, onesC, snap_hfn, snapHfn_some, snap_href_s, snap_hsl_s]
        rfl
end
theorem equal_zero : PEv S 12 [.agg [.p (.int .i64 0), .p (.sl [])], .agg [.p (.int .i64 0), .p (.sl [])]] (rb true) := by
  refine PEv_fn rfl c12 (Nat.le_of_ble_eq_true rfl) ?_
  have z : (((0 : Nat) : Int) != ((0 : Nat) : Int)) = false := by decide
  have z2 : ¬ (((0 : Int)) < ((0 : Nat) : Int)) := by decide
  have z3 : ((0 : Int) != (0 : Int)) = false := by decide
  simp only [↓Rd, Rt, Rl, Rb, gP_done, dP_done, Al.all_oks, plan, binV, binInt, eqV, isNilV, app, if_true, if_false, reduceIte, Nat.reduceEqDiff, beq_self_eq_true, reduceCtorEq, ge_iff_le, resultsV, noTup, tupV, fnOf, Nat.reduceAdd, rdAt, takeV, wrAt, splice, cellsV, lenL, ne_eq, Nat.reduceLeDiff, partsV, elemsV, toPss, toPs, toP, fill, Nat.reduceMul, Nat.reduceLT, snapHsl, snapHref, i12, noBlk, z, z3, planAppend, elemsOf, szOf, szOK, frz, frzL, room, planSlice, boundOf, Nat.reduceSub, Int.reduceLT, Int.reduceAdd, Int.reduceBEq, Int.reduceBNe, Int.reduceLE, List.contains_eq_mem, frzL_nil, onesC, snap_hfn, snapHfn_some, snap_href_s, snap_hsl_s]
  refine R_unroll ?_
  simp only [↓Rd, Rt, Rl, Rb, gP_done, dP_done, Al.all_oks, plan, binV, binInt, eqV, isNilV, app, if_true, if_false, reduceIte, Nat.reduceEqDiff, beq_self_eq_true, reduceCtorEq, ge_iff_le, resultsV, noTup, tupV, fnOf, Nat.reduceAdd, rdAt, takeV, wrAt, splice, cellsV, lenL, ne_eq, Nat.reduceLeDiff, partsV, elemsV, toPss, toPs, toP, fill, Nat.reduceMul, Nat.reduceLT, snapHsl, snapHref, i12_l1, i12_r2, z2, planAppend, elemsOf, szOf, szOK, frz, frzL, room, planSlice, boundOf, Nat.reduceSub, Int.reduceLT, Int.reduceAdd, Int.reduceBEq, Int.reduceBNe, Int.reduceLE, List.contains_eq_mem, frzL_nil, onesC, snap_hfn, snapHfn_some, snap_href_s, snap_hsl_s]
end Go.Abs
namespace Go.Abs
set_option maxRecDepth 100000
set_option maxHeartbeats 8000000 in
theorem law_errors (hk : PEv S 5 [] (rb true)) (f : Int) (ls : List Let) (k a b c : Int) (l o : Bool) (s : Int) : PEv S 3 [codeV f ls, mvV k a b c l o s] (rb true) := by
  refine PEv_fn rfl c3 (Nat.le_of_ble_eq_true rfl) ?_
  have sk : S.shared 5 = false := by kernel_rfl
  by_cases h1 : 40 < ls.length
  · have h1' : (40 : Int) < (ls.length : Int) := by omega
    simp only [↓Rd, Rt, Rl, Rb, gP_done, dP_done, Al.all_oks, plan, binV, binInt, eqV, isNilV, app, if_true, if_false, reduceIte, Nat.reduceEqDiff, beq_self_eq_true, reduceCtorEq, ge_iff_le, resultsV, noTup, tupV, fnOf, Nat.reduceAdd, rdAt, takeV, wrAt, splice, cellsV, lenL, ne_eq, Nat.reduceLeDiff, partsV, elemsV, toPss, toPs, toP, fill, Nat.reduceMul, Nat.reduceLT, snapHsl, snapHref, i3, noBlk, h1', sk, gP_bool hk, planAppend, elemsOf, szOf, szOK, frz, frzL, room, planSlice, boundOf, Nat.reduceSub, Int.reduceLT, Int.reduceAdd, Int.reduceBEq, Int.reduceBNe, Int.reduceLE, List.contains_eq_mem, frzL_nil, onesC, snap_hfn, snapHfn_some, snap_href_s, snap_hsl_s]
  · have h1' : ¬ (40 : Int) < (ls.length : Int) := by omega
    have hl : ls.length ≤ 1000000 := by omega
    have pc := check_r f ls hl
    generalize he : checkR f ls = e at pc
    by_cases h0 : e = 0
    · subst h0
      simp only [↓Rd, Rt, Rl, Rb, gP_done, dP_done, Al.all_oks, plan, binV, binInt, eqV, isNilV, app, if_true, if_false, reduceIte, Nat.reduceEqDiff, beq_self_eq_true, reduceCtorEq, ge_iff_le, resultsV, noTup, tupV, fnOf, Nat.reduceAdd, rdAt, takeV, wrAt, splice, cellsV, lenL, ne_eq, Nat.reduceLeDiff, partsV, elemsV, toPss, toPs, toP, fill, Nat.reduceMul, Nat.reduceLT, snapHsl, snapHref, i3, noBlk, h1', s4, gP_int pc, sk, gP_bool hk, planAppend, elemsOf, szOf, szOK, frz, frzL, room, planSlice, boundOf, Nat.reduceSub, Int.reduceLT, Int.reduceAdd, Int.reduceBEq, Int.reduceBNe, Int.reduceLE, List.contains_eq_mem, frzL_nil, onesC, snap_hfn, snapHfn_some, snap_href_s, snap_hsl_s]
    · have h0' : (e == 0) = false := by simpa using h0
      have p1 := apply_bad hl he h0 k a b c l o s
      have p2 := all_bad hl he h0
      have p3 := fun ks => some_bad hl he h0 ks
      have p4 := inverse_bad hl he h0 k a b c l o s
      have p5 := fun ms => replay_bad hl he h0 ms
      have p6 := fun ms => undo_bad hl he h0 ms
      have hee : (e != e) = false := by simp
      have wz : IntKind.i64.wrap (((0 : Nat) : Int) + ((0 : Nat) : Int)) = ((0 : Nat) : Int) := by decide
      have ez : (((0 : Nat) : Int) == 0) = true := by decide
      simp only [↓Rd, Rt, Rl, Rb, gP_done, dP_done, Al.all_oks, plan, binV, binInt, eqV, isNilV, app, if_true, if_false, reduceIte, Nat.reduceEqDiff, beq_self_eq_true, reduceCtorEq, ge_iff_le, resultsV, noTup, tupV, fnOf, Nat.reduceAdd, rdAt, takeV, wrAt, splice, cellsV, lenL, ne_eq, Nat.reduceLeDiff, partsV, elemsV, toPss, toPs, toP, fill, Nat.reduceMul, Nat.reduceLT, snapHsl, snapHref, i3, noBlk, h1', s4, gP_int pc, h0', s6, s7, s8, s9, s10, s11, gP_land p1 land_code, gP_land p2 land_nil, gP_land p4 land_inv, gP_land (p5 _) land_rep, planAppend, elemsOf, szOf, szOK, frz, frzL, room, planSlice, boundOf, Nat.reduceSub, Int.reduceLT, Int.reduceAdd, Int.reduceBEq, Int.reduceBNe, Int.reduceLE, List.contains_eq_mem, frzL_nil, onesC, snap_hfn, snapHfn_some, snap_href_s, snap_hsl_s]
      refine (gP_land (p3 _) (land_arr rfl)).2 ?_
      simp only [↓Rd, Rt, Rl, Rb, gP_done, dP_done, Al.all_oks, plan, binV, binInt, eqV, isNilV, app, if_true, if_false, reduceIte, Nat.reduceEqDiff, beq_self_eq_true, reduceCtorEq, ge_iff_le, resultsV, noTup, tupV, fnOf, Nat.reduceAdd, rdAt, takeV, wrAt, splice, cellsV, lenL, ne_eq, Nat.reduceLeDiff, partsV, elemsV, toPss, toPs, toP, fill, Nat.reduceMul, Nat.reduceLT, snapHsl, snapHref, s9, s10, s11, gP_land p4 land_inv, gP_land (p5 _) land_rep, planAppend, elemsOf, szOf, szOK, frz, frzL, room, planSlice, boundOf, Nat.reduceSub, Int.reduceLT, Int.reduceAdd, Int.reduceBEq, Int.reduceBNe, Int.reduceLE, List.contains_eq_mem, frzL_nil, onesC, snap_hfn, snapHfn_some, snap_href_s, snap_hsl_s]
      refine (gP_land (p6 _) (land_arr rfl)).2 ?_
      have pe := equal_zero
      have ke : ((0 : Int) == 0) = true := by decide
      have kq : eqCs [true, true, true, true, false, false, true] [C.p (PV.int IntKind.i64 0), C.p (PV.int IntKind.i64 0), C.p (PV.int IntKind.i64 0), C.p (PV.int IntKind.i64 0), C.p (PV.bool false), C.p (PV.bool false), C.p (PV.int IntKind.i64 0)] [C.p (PV.int IntKind.i64 0), C.p (PV.int IntKind.i64 0), C.p (PV.int IntKind.i64 0), C.p (PV.int IntKind.i64 0), C.p (PV.bool false), C.p (PV.bool false), C.p (PV.int IntKind.i64 0)] = some true := by kernel_rfl
      simp only [↓Rd, Rt, Rl, Rb, gP_done, dP_done, Al.all_oks, plan, binV, binInt, eqV, isNilV, app, if_true, if_false, reduceIte, Nat.reduceEqDiff, beq_self_eq_true, reduceCtorEq, ge_iff_le, resultsV, noTup, tupV, fnOf, Nat.reduceAdd, rdAt, takeV, wrAt, splice, cellsV, lenL, ne_eq, Nat.reduceLeDiff, partsV, elemsV, toPss, toPs, toP, fill, Nat.reduceMul, Nat.reduceLT, snapHsl, snapHref, hee, kq, s12, gP_bool pe, wz, ez, ke, sk, gP_bool hk, planAppend, elemsOf, szOf, szOK, frz, frzL, room, planSlice, boundOf, Nat.reduceSub, Int.reduceLT, Int.reduceAdd, Int.reduceBEq, Int.reduceBNe, Int.reduceLE, List.contains_eq_mem, frzL_nil, onesC, snap_hfn, snapHfn_some, snap_href_s, snap_hsl_s]
end Go.Abs
