/-
  An edge that is pushed across the axis, and a kink.
-/
import Derived.Test.YtgbojgnaingofaaGreatDoorWk
set_option linter.unusedSimpArgs false
set_option linter.unusedVariables false
set_option linter.unusedSectionVars false
namespace Go.Abs
set_option maxRecDepth 100000
theorem clone_g {l : List Pc} (hne : l ≠ []) (hl : l.length ≤ 1000000) : PEv S 71 [.one (.p (.sl (pcP l)))] (.one (grownR pcTy 7 (pcP l))) := by
  cases l with
  | nil => exact absurd rfl hne
  | cons p t => exact clone_p p t hl
section
variable {Q : Post} {env : Env} {blk : Blk} {os : List IOper} {d : Option Nat}
theorem gP_shift {id : Nat} {l : List Pc} {c : C} {g ab b : Int} (hl : l.length ≤ 1000000) (hb : -100 ≤ b ∧ b ≤ 100) (hr : ∀ p ∈ l, -1000000 ≤ p.l.rank ∧ p.l.rank ≤ 1000000) (hg : grown id pcTy 7 (pcP l) (.one c) blk)
    (hK : ∀ blk', grown id pcTy 7 (pcP (shiftL l g ab b)) (.one c) blk' → (∀ i, i ≠ id → blk' i = blk i) → RN S .all os Q (put env d (.tup [])) blk') : gP S .all (.sc 69 [.one c, vi g, vi ab, vi b]) d os Q env blk := by
  have ho : l = [] ∨ (allow (S.ctx .all) 69 [.one c, vi g, vi ab, vi b] blk).ok id = true := by
    rcases reach_grown hg with ⟨h, _⟩ | h
    · exact .inl (by simpa using h)
    · exact .inr (allow_okI (by simp [h]))
  refine gP_sc2 (P := shPost id (pcP (shiftL l g ab b)) c blk) holds_all (shift_s ho hl hb hr hg) ?_
  rintro v blk' ⟨rfl, h1, h2⟩
  exact hK blk' h1 h2
end
/-- values of the list of faces -/
theorem leftR_vals (fs : List Fc) : ∀ (j : Nat) (L : List Nat), ∀ v ∈ leftR fs j L, v ∈ L ∨ v < j + fs.length := by
  have hset : ∀ (ds : List Nat) (L : List Nat) (x : Nat), ∀ v ∈ setAll L ds x, v ∈ L ∨ v = x := by
    intro ds
    induction ds with
    | nil => intro L x v h; exact .inl h
    | cons d ds ih =>
      intro L x v h
      rcases ih (L.set d x) x v h with h | h
      · rcases List.mem_or_eq_of_mem_set h with h | h
        · exact .inl h
        · exact .inr h
      · exact .inr h
  induction fs with
  | nil => intro j L v h; exact .inl h
  | cons f r ih =>
    intro j L v h
    rcases ih (j + 1) (setAll L f.darts j) v h with h | h
    · rcases hset _ _ _ v h with h | h
      · exact .inl h
      · subst h; exact .inr (by simp)
    · exact .inr (by simp only [List.length_cons]; omega)
def noFc : Fc := ⟨false, [], [], [], false⟩
/-- the face to the left of a dart -/
def faceAt (F : Nat) (ls : List Let) (d : Nat) : Fc := (facesL F ls).getD ((leftL F ls).getD d 0) noFc
theorem leftL_len (F : Nat) (ls : List Let) : (leftL F ls).length = 2 * ls.length := by simp [leftL, leftR_len]
theorem faceAt_at {F : Nat} {ls : List Let} (g : Fine F ls) {d : Nat} (hd : d < 2 * ls.length) : ∃ j, (leftL F ls)[d]? = some j ∧ (facesL F ls)[j]? = some (faceAt F ls d) ∧ j < (facesL F ls).length := by
  obtain ⟨j, hj⟩ := at_lt (ls := leftL F ls) (k := d) (by rw [leftL_len]; exact hd)
  have hn : 0 < (facesL F ls).length := by rw [facesL_len, g.nw]; omega
  have hjl : j < (facesL F ls).length := by
    rcases leftR_vals (facesL F ls) 0 _ j (List.mem_of_getElem? hj) with h | h
    · have := List.eq_of_mem_replicate h; omega
    · omega
  refine ⟨j, hj, ?_, hjl⟩
  obtain ⟨f, hf⟩ := at_lt hjl
  unfold faceAt
  rw [List.getD_eq_getElem?_getD (l := leftL F ls), hj, Option.getD_some, List.getD_eq_getElem?_getD, hf]; rfl
def newP (b : Nat) (r : Int) (d : Bool) : Pc := ⟨⟨1, b, r, 0, 0, false⟩, d⟩
/-- two passes behind a letter -/
def amIns (ls : List Let) (av b c : Nat) (f : Fc) (side : Bool) : List Pc :=
  insAt (shiftL (pieces ls) b c 2) [newP b (if f.above != side then ((c + 2 : Nat) : Int) else ((c + 1 : Nat) : Int)) f.above, newP b (if f.above != side then ((c + 1 : Nat) : Int) else ((c + 2 : Nat) : Int)) (!f.above)] av
def amR (F : Nat) (ls : List Let) (av b c : Nat) : Option (List Pc) :=
  if (b, c) ∈ (faceAt F ls (2 * av)).places then some (amIns ls av b c (faceAt F ls (2 * av)) false)
  else if (b, c) ∈ (faceAt F ls (2 * av + 1)).places then some (amIns ls av b c (faceAt F ls (2 * av + 1)) true) else none
/-- letters, or none -/
def kR (o : Option (List Pc)) : RV := .tup [.one (grownR pcTy 7 (pcP (o.getD []))), .one (.p (.bool o.isSome))]
theorem rank_bound {F : Nat} {ls : List Let} (g : Fine F ls) : ∀ p ∈ pieces ls, -1000000 ≤ p.l.rank ∧ p.l.rank ≤ 1000000 := by
  intro p hp
  obtain ⟨i, hi⟩ := List.getElem?_of_mem hp
  have hil : i < ls.length := by rw [← pieces_len]; exact (List.getElem?_eq_some_iff.1 hi).1
  obtain ⟨l, hl⟩ := at_lt hil
  rw [pieces_at hl] at hi
  cases hi
  rcases g.ok.kinds l (List.mem_of_getElem? hl) with h | h
  · have hg := g.ok.ax.good l (List.mem_of_getElem? hl) h
    have := hg.r0; have := hg.r1
    have hc : cg ls l.gate.toNat ≤ ls.length := cnt_le _ _
    have := g.len
    simp only
    omega
  · have := (not_badC (f := F) h).1 (g.bad l (List.mem_of_getElem? hl))
    simp only [this.1.2]
    omega
set_option maxHeartbeats 16000000 in
/-- one side -/
theorem amSide {F : Nat} {ls : List Let} (g : Fine F ls) {av b c k : Nat} (ha : av < ls.length) (hbF : b ≤ F) (hc : c ≤ 1000) {l o : Bool} {sg : Int} (hk : k < 2) {env : Env} {blk : Blk} {Q : Post}
    (h0 : env 0 = .one (.p (brdV F ls))) (h3 : env 3 = .one (.href 2944000000 1 0)) (h6 : env 6 = .one (.href 2944064320 1 0)) (h7 : env 7 = .one (.href 2944128448 1 0)) (h8 : env 8 = .one (.href 2944192448 1 0)) (h40 : env 40 = vi k)
    (b3 : blk 2944000000 = (1, some (.var [.p (.int .i64 2), .p (.int .i64 av), .p (.int .i64 b), .p (.int .i64 c), .p (.bool l), .p (.bool o), .p (.int .i64 sg)]))) (b6 : blk 2944064320 = (1, some (.var [.p (.int .i64 b), .p (.int .i64 c)])))
    (b7 : blk 2944128448 = (1, some (.var ((newP b ((c + 1 : Nat) : Int) true).ps.map .p)))) (b8 : blk 2944192448 = (1, some (.var ((newP b ((c + 2 : Nat) : Int) false).ps.map .p))))
    (hno : (b, c) ∉ (faceAt F ls (2 * av + k)).places → ∀ env' blk', env' 0 = env 0 → env' 3 = env 3 → env' 6 = env 6 → env' 7 = env 7 → env' 8 = env 8 → env' 40 = vi ((k + 1 : Nat) : Int) → (∀ i, i ≠ 2944577088 → blk' i = blk i) → W S .all (.loop i46_l1) (blockQ 0 Q) env' blk')
    (hyes : (b, c) ∈ (faceAt F ls (2 * av + k)).places → ∀ env' blk' s cc, env' 4 = .one cc → env' 5 = vb true → grown s pcTy 7 (pcP (amIns ls av b c (faceAt F ls (2 * av + k)) (k == 1))) (.one cc) blk' → Q .ret env' blk') :
    W S .all (.loop i46_l1) (blockQ 0 Q) env blk := by
  have hlen := g.len
  have hfing := g.fing
  obtain ⟨j, hj1, hj2, hj3⟩ := faceAt_at g (d := 2 * av + k) (by omega)
  have hmemF := List.mem_of_getElem? hj2
  have hjp := nP_at hj1
  have hfp := fcP_at hj2
  have hlt : ((k : Int) < 2) := by omega
  have hpl : (faceAt F ls (2 * av + k)).places.length ≤ 1000000 := by
    obtain ⟨w, hw, he⟩ := List.mem_map.1 hmemF
    obtain ⟨_, hwl, hwm⟩ := walksL_facts g.ok w hw
    have h1 := (faceK_len g.ok hwm w.length (Nat.le_refl _)).2.1
    rw [faceK_all, he] at h1
    have hal : (axisR ls).length ≤ ls.length := axisK_len ls ls.length
    have h2 : w.length * (2 * F + 2) ≤ 1600 * 82 := Nat.mul_le_mul (by unfold nD at hwl; omega) (by omega)
    omega
  generalize hfe : faceAt F ls (2 * av + k) = f at *
  have pc := contains_pl f.places (b, c) hpl
  have m2 := wrap_mul2 (a := av) (by omega)
  have m3 := wrap_add (a := 2 * av) (b := k) (by omega)
  have w1 := wrap_succ (n := k) (by omega)
  have hdl : 2 * av + k < (leftL F ls).length := by rw [leftL_len]; omega
  have hne : pieces ls ≠ [] := List.length_pos_iff.1 (by rw [pieces_len]; omega)
  have hplen := pieces_len ls
  have pcl := clone_g hne (by omega)
  have lo1 : S.lone 2944896256 = false := by kernel_rfl
  have lo2 : S.lone 2945024384 = false := by kernel_rfl
  have hsh : S.shared 69 = true := by kernel_rfl
  refine R_unroll ?_
  by_cases hm : (b, c) ∈ f.places
  · have hcd : decide ((b, c) ∈ f.places) = true := decide_eq_true hm
    rw [hcd] at pc
    have hsw : (!f.above == (((k : Nat) : Int) == 1)) = (f.above != (k == 1)) := by
      rcases (show k = 0 ∨ k = 1 by omega) with rfl | rfl <;> cases f.above <;> rfl
    have hln : (pcP (shiftL (pieces ls) b c 2)).length = (pieces ls).length := by simp [shiftL]
    have t1 : List.take (pieces ls).length (pcP (shiftL (pieces ls) b c 2)) = pcP (shiftL (pieces ls) b c 2) := List.take_of_length_le (by rw [hln]; exact Nat.le_refl _)
    cases hs : (f.above != (k == 1)) with
    | true =>
        rw [hs] at hsw
        simp only [↓Rd, Rt, Rl, Rb, gP_done, dP_done, Al.all_oks, plan, binV, binInt, eqV, isNilV, app, if_true, if_false, reduceIte, Nat.reduceEqDiff, beq_self_eq_true, reduceCtorEq, ge_iff_le, resultsV, noTup, tupV, fnOf, Nat.reduceAdd, rdAt, takeV, wrAt, splice, cellsV, lenL, ne_eq, Nat.reduceLeDiff, partsV, elemsV, toPss, toPs, toP, fill, Nat.reduceMul, Nat.reduceLT, snapHsl, snapHref, i46_l1, h0, h3, h6, h7, h8, h40, b3, b6, b7, b8, hlt, m2, m3, hdl, hjp, hj3, hfp, Fc.ps, hsw, newP, Pc.ps, s70, gP_bool pc, frz, frzL, room, planSlice, boundOf, Nat.reduceSub, Int.reduceLT, Int.reduceAdd, Int.reduceBEq, Int.reduceBNe, Int.reduceLE, List.contains_eq_mem, frzL_nil, onesC, snap_hfn, snapHfn_some, snap_href_s, snap_hsl_s]
        refine ⟨okd (by kernel_rfl), okd (by kernel_rfl), ?_⟩
        refine gP_g1 pcl lo1 (.inl rfl) fun cc blk1 gc hb1 => ?_
        have e3 := hb1 2944000000 (by decide)
        have e7 := hb1 2944128448 (by decide)
        have e8 := hb1 2944192448 (by decide)
        simp only [↓Rd, Rt, Rl, Rb, gP_done, dP_done, Al.all_oks, plan, binV, binInt, eqV, isNilV, app, if_true, if_false, reduceIte, Nat.reduceEqDiff, beq_self_eq_true, reduceCtorEq, ge_iff_le, resultsV, noTup, tupV, fnOf, Nat.reduceAdd, rdAt, takeV, wrAt, splice, cellsV, lenL, ne_eq, Nat.reduceLeDiff, partsV, elemsV, toPss, toPs, toP, fill, Nat.reduceMul, Nat.reduceLT, snapHsl, snapHref, b3] at e3 e7 e8
        simp only [↓Rd, Rt, Rl, Rb, gP_done, dP_done, Al.all_oks, plan, binV, binInt, eqV, isNilV, app, if_true, if_false, reduceIte, Nat.reduceEqDiff, beq_self_eq_true, reduceCtorEq, ge_iff_le, resultsV, noTup, tupV, fnOf, Nat.reduceAdd, rdAt, takeV, wrAt, splice, cellsV, lenL, ne_eq, Nat.reduceLeDiff, partsV, elemsV, toPss, toPs, toP, fill, Nat.reduceMul, Nat.reduceLT, snapHsl, snapHref, h0, h3, h7, h8, e3, e7, e8, hsh, frz, frzL, room, planSlice, boundOf, Nat.reduceSub, Int.reduceLT, Int.reduceAdd, Int.reduceBEq, Int.reduceBNe, Int.reduceLE, List.contains_eq_mem, frzL_nil, onesC, snap_hfn, snapHfn_some, snap_href_s, snap_hsl_s]
        refine gP_shift (l := pieces ls) (by omega) (by decide) (rank_bound g) gc fun blk2 gc2 hb2 => ?_
        have e3' := (hb2 2944000000 (by decide)).trans e3
        have e7' := (hb2 2944128448 (by decide)).trans e7
        have e8' := (hb2 2944192448 (by decide)).trans e8
        rcases gc2 with ⟨e, _⟩ | ⟨_, gg, e, hbd⟩
        · exact absurd (by simpa [shiftL] using e) hne
        · cases e
          simp only [↓Rd, Rt, Rl, Rb, gP_done, dP_done, Al.all_oks, plan, binV, binInt, eqV, isNilV, app, if_true, if_false, reduceIte, Nat.reduceEqDiff, beq_self_eq_true, reduceCtorEq, ge_iff_le, resultsV, noTup, tupV, fnOf, Nat.reduceAdd, rdAt, takeV, wrAt, splice, cellsV, lenL, ne_eq, Nat.reduceLeDiff, partsV, elemsV, toPss, toPs, toP, fill, Nat.reduceMul, Nat.reduceLT, snapHsl, snapHref, h0, h3, h7, h8, e3', e7', e8', hbd, hln, t1, s72, frz, frzL, room, planSlice, boundOf, Nat.reduceSub, Int.reduceLT, Int.reduceAdd, Int.reduceBEq, Int.reduceBNe, Int.reduceLE, List.contains_eq_mem, frzL_nil, onesC, snap_hfn, snapHfn_some, snap_href_s, snap_hsl_s]
          refine gP_g1 (inserted_p (shiftL (pieces ls) b c 2) [newP b ((c + 2 : Nat) : Int) f.above, newP b ((c + 1 : Nat) : Int) (!f.above)] av (by rw [List.length_map]; omega) (by rw [List.length_map]; omega) (by simp)) lo2 (.inr (alone_grown (sc_pc _))) fun c2 blk3 gc3 hb3 => ?_
          simp only [↓Rd, Rt, Rl, Rb, gP_done, dP_done, Al.all_oks, plan, binV, binInt, eqV, isNilV, app, if_true, if_false, reduceIte, Nat.reduceEqDiff, beq_self_eq_true, reduceCtorEq, ge_iff_le, resultsV, noTup, tupV, fnOf, Nat.reduceAdd, rdAt, takeV, wrAt, splice, cellsV, lenL, ne_eq, Nat.reduceLeDiff, partsV, elemsV, toPss, toPs, toP, fill, Nat.reduceMul, Nat.reduceLT, snapHsl, snapHref, frz, frzL, room, planSlice, boundOf, Nat.reduceSub, Int.reduceLT, Int.reduceAdd, Int.reduceBEq, Int.reduceBNe, Int.reduceLE, List.contains_eq_mem, frzL_nil, onesC, snap_hfn, snapHfn_some, snap_href_s, snap_hsl_s]
          exact hyes hm _ _ _ c2 (by simp only [↓Rd, Rt, Rl, Rb, gP_done, dP_done, Al.all_oks, plan, binV, binInt, eqV, isNilV, app, if_true, if_false, reduceIte, Nat.reduceEqDiff, beq_self_eq_true, reduceCtorEq, ge_iff_le, resultsV, noTup, tupV, fnOf, Nat.reduceAdd, rdAt, takeV, wrAt, splice, cellsV, lenL, ne_eq, Nat.reduceLeDiff, partsV, elemsV, toPss, toPs, toP, fill, Nat.reduceMul, Nat.reduceLT, snapHsl, snapHref]) (by simp only [↓Rd, Rt, Rl, Rb, gP_done, dP_done, Al.all_oks, plan, binV, binInt, eqV, isNilV, app, if_true, if_false, reduceIte, Nat.reduceEqDiff, beq_self_eq_true, reduceCtorEq, ge_iff_le, resultsV, noTup, tupV, fnOf, Nat.reduceAdd, rdAt, takeV, wrAt, splice, cellsV, lenL, ne_eq, Nat.reduceLeDiff, partsV, elemsV, toPss, toPs, toP, fill, Nat.reduceMul, Nat.reduceLT, snapHsl, snapHref]) (by unfold amIns; rw [hs]; exact gc3)
    | false =>
        rw [hs] at hsw
        simp only [↓Rd, Rt, Rl, Rb, gP_done, dP_done, Al.all_oks, plan, binV, binInt, eqV, isNilV, app, if_true, if_false, reduceIte, Nat.reduceEqDiff, beq_self_eq_true, reduceCtorEq, ge_iff_le, resultsV, noTup, tupV, fnOf, Nat.reduceAdd, rdAt, takeV, wrAt, splice, cellsV, lenL, ne_eq, Nat.reduceLeDiff, partsV, elemsV, toPss, toPs, toP, fill, Nat.reduceMul, Nat.reduceLT, snapHsl, snapHref, i46_l1, h0, h3, h6, h7, h8, h40, b3, b6, b7, b8, hlt, m2, m3, hdl, hjp, hj3, hfp, Fc.ps, hsw, newP, Pc.ps, s70, gP_bool pc, frz, frzL, room, planSlice, boundOf, Nat.reduceSub, Int.reduceLT, Int.reduceAdd, Int.reduceBEq, Int.reduceBNe, Int.reduceLE, List.contains_eq_mem, frzL_nil, onesC, snap_hfn, snapHfn_some, snap_href_s, snap_hsl_s]
        refine ⟨okd (by kernel_rfl), okd (by kernel_rfl), ?_⟩
        refine gP_g1 pcl lo1 (.inl rfl) fun cc blk1 gc hb1 => ?_
        have e3 := hb1 2944000000 (by decide)
        have e7 := hb1 2944128448 (by decide)
        have e8 := hb1 2944192448 (by decide)
        simp only [↓Rd, Rt, Rl, Rb, gP_done, dP_done, Al.all_oks, plan, binV, binInt, eqV, isNilV, app, if_true, if_false, reduceIte, Nat.reduceEqDiff, beq_self_eq_true, reduceCtorEq, ge_iff_le, resultsV, noTup, tupV, fnOf, Nat.reduceAdd, rdAt, takeV, wrAt, splice, cellsV, lenL, ne_eq, Nat.reduceLeDiff, partsV, elemsV, toPss, toPs, toP, fill, Nat.reduceMul, Nat.reduceLT, snapHsl, snapHref, b3] at e3 e7 e8
        simp only [↓Rd, Rt, Rl, Rb, gP_done, dP_done, Al.all_oks, plan, binV, binInt, eqV, isNilV, app, if_true, if_false, reduceIte, Nat.reduceEqDiff, beq_self_eq_true, reduceCtorEq, ge_iff_le, resultsV, noTup, tupV, fnOf, Nat.reduceAdd, rdAt, takeV, wrAt, splice, cellsV, lenL, ne_eq, Nat.reduceLeDiff, partsV, elemsV, toPss, toPs, toP, fill, Nat.reduceMul, Nat.reduceLT, snapHsl, snapHref, h0, h3, h7, h8, e3, e7, e8, hsh, frz, frzL, room, planSlice, boundOf, Nat.reduceSub, Int.reduceLT, Int.reduceAdd, Int.reduceBEq, Int.reduceBNe, Int.reduceLE, List.contains_eq_mem, frzL_nil, onesC, snap_hfn, snapHfn_some, snap_href_s, snap_hsl_s]
        refine gP_shift (l := pieces ls) (by omega) (by decide) (rank_bound g) gc fun blk2 gc2 hb2 => ?_
        have e3' := (hb2 2944000000 (by decide)).trans e3
        have e7' := (hb2 2944128448 (by decide)).trans e7
        have e8' := (hb2 2944192448 (by decide)).trans e8
        rcases gc2 with ⟨e, _⟩ | ⟨_, gg, e, hbd⟩
        · exact absurd (by simpa [shiftL] using e) hne
        · cases e
          simp only [↓Rd, Rt, Rl, Rb, gP_done, dP_done, Al.all_oks, plan, binV, binInt, eqV, isNilV, app, if_true, if_false, reduceIte, Nat.reduceEqDiff, beq_self_eq_true, reduceCtorEq, ge_iff_le, resultsV, noTup, tupV, fnOf, Nat.reduceAdd, rdAt, takeV, wrAt, splice, cellsV, lenL, ne_eq, Nat.reduceLeDiff, partsV, elemsV, toPss, toPs, toP, fill, Nat.reduceMul, Nat.reduceLT, snapHsl, snapHref, h0, h3, h7, h8, e3', e7', e8', hbd, hln, t1, s72, frz, frzL, room, planSlice, boundOf, Nat.reduceSub, Int.reduceLT, Int.reduceAdd, Int.reduceBEq, Int.reduceBNe, Int.reduceLE, List.contains_eq_mem, frzL_nil, onesC, snap_hfn, snapHfn_some, snap_href_s, snap_hsl_s]
          refine gP_g1 (inserted_p (shiftL (pieces ls) b c 2) [newP b ((c + 1 : Nat) : Int) f.above, newP b ((c + 2 : Nat) : Int) (!f.above)] av (by rw [List.length_map]; omega) (by rw [List.length_map]; omega) (by simp)) lo2 (.inr (alone_grown (sc_pc _))) fun c2 blk3 gc3 hb3 => ?_
          simp only [↓Rd, Rt, Rl, Rb, gP_done, dP_done, Al.all_oks, plan, binV, binInt, eqV, isNilV, app, if_true, if_false, reduceIte, Nat.reduceEqDiff, beq_self_eq_true, reduceCtorEq, ge_iff_le, resultsV, noTup, tupV, fnOf, Nat.reduceAdd, rdAt, takeV, wrAt, splice, cellsV, lenL, ne_eq, Nat.reduceLeDiff, partsV, elemsV, toPss, toPs, toP, fill, Nat.reduceMul, Nat.reduceLT, snapHsl, snapHref, frz, frzL, room, planSlice, boundOf, Nat.reduceSub, Int.reduceLT, Int.reduceAdd, Int.reduceBEq, Int.reduceBNe, Int.reduceLE, List.contains_eq_mem, frzL_nil, onesC, snap_hfn, snapHfn_some, snap_href_s, snap_hsl_s]
          exact hyes hm _ _ _ c2 (by simp only [↓Rd, Rt, Rl, Rb, gP_done, dP_done, Al.all_oks, plan, binV, binInt, eqV, isNilV, app, if_true, if_false, reduceIte, Nat.reduceEqDiff, beq_self_eq_true, reduceCtorEq, ge_iff_le, resultsV, noTup, tupV, fnOf, Nat.reduceAdd, rdAt, takeV, wrAt, splice, cellsV, lenL, ne_eq, Nat.reduceLeDiff, partsV, elemsV, toPss, toPs, toP, fill, Nat.reduceMul, Nat.reduceLT, snapHsl, snapHref]) (by simp only [↓Rd, Rt, Rl, Rb, gP_done, dP_done, Al.all_oks, plan, binV, binInt, eqV, isNilV, app, if_true, if_false, reduceIte, Nat.reduceEqDiff, beq_self_eq_true, reduceCtorEq, ge_iff_le, resultsV, noTup, tupV, fnOf, Nat.reduceAdd, rdAt, takeV, wrAt, splice, cellsV, lenL, ne_eq, Nat.reduceLeDiff, partsV, elemsV, toPss, toPs, toP, fill, Nat.reduceMul, Nat.reduceLT, snapHsl, snapHref]) (by unfold amIns; rw [hs]; exact gc3)
  · have hcd : decide ((b, c) ∈ f.places) = false := decide_eq_false hm
    rw [hcd] at pc
    simp only [↓Rd, Rt, Rl, Rb, gP_done, dP_done, Al.all_oks, plan, binV, binInt, eqV, isNilV, app, if_true, if_false, reduceIte, Nat.reduceEqDiff, beq_self_eq_true, reduceCtorEq, ge_iff_le, resultsV, noTup, tupV, fnOf, Nat.reduceAdd, rdAt, takeV, wrAt, splice, cellsV, lenL, ne_eq, Nat.reduceLeDiff, partsV, elemsV, toPss, toPs, toP, fill, Nat.reduceMul, Nat.reduceLT, snapHsl, snapHref, i46_l1, h0, h3, h6, h7, h8, h40, b3, b6, b7, b8, hlt, m2, m3, hdl, hjp, hj3, hfp, Fc.ps, s70, gP_bool pc, w1, frz, frzL, room, planSlice, boundOf, Nat.reduceSub, Int.reduceLT, Int.reduceAdd, Int.reduceBEq, Int.reduceBNe, Int.reduceLE, List.contains_eq_mem, frzL_nil, onesC, snap_hfn, snapHfn_some, snap_href_s, snap_hsl_s]
    refine ⟨okd (by kernel_rfl), hno hm _ _ ?_ ?_ ?_ ?_ ?_ ?_ fun i hi => ?_⟩
    · simp only [↓Rd, Rt, Rl, Rb, gP_done, dP_done, Al.all_oks, plan, binV, binInt, eqV, isNilV, app, if_true, if_false, reduceIte, Nat.reduceEqDiff, beq_self_eq_true, reduceCtorEq, ge_iff_le, resultsV, noTup, tupV, fnOf, Nat.reduceAdd, rdAt, takeV, wrAt, splice, cellsV, lenL, ne_eq, Nat.reduceLeDiff, partsV, elemsV, toPss, toPs, toP, fill, Nat.reduceMul, Nat.reduceLT, snapHsl, snapHref, h0]
    · simp only [↓Rd, Rt, Rl, Rb, gP_done, dP_done, Al.all_oks, plan, binV, binInt, eqV, isNilV, app, if_true, if_false, reduceIte, Nat.reduceEqDiff, beq_self_eq_true, reduceCtorEq, ge_iff_le, resultsV, noTup, tupV, fnOf, Nat.reduceAdd, rdAt, takeV, wrAt, splice, cellsV, lenL, ne_eq, Nat.reduceLeDiff, partsV, elemsV, toPss, toPs, toP, fill, Nat.reduceMul, Nat.reduceLT, snapHsl, snapHref, h3]
    · simp only [↓Rd, Rt, Rl, Rb, gP_done, dP_done, Al.all_oks, plan, binV, binInt, eqV, isNilV, app, if_true, if_false, reduceIte, Nat.reduceEqDiff, beq_self_eq_true, reduceCtorEq, ge_iff_le, resultsV, noTup, tupV, fnOf, Nat.reduceAdd, rdAt, takeV, wrAt, splice, cellsV, lenL, ne_eq, Nat.reduceLeDiff, partsV, elemsV, toPss, toPs, toP, fill, Nat.reduceMul, Nat.reduceLT, snapHsl, snapHref, h6]
    · simp only [↓Rd, Rt, Rl, Rb, gP_done, dP_done, Al.all_oks, plan, binV, binInt, eqV, isNilV, app, if_true, if_false, reduceIte, Nat.reduceEqDiff, beq_self_eq_true, reduceCtorEq, ge_iff_le, resultsV, noTup, tupV, fnOf, Nat.reduceAdd, rdAt, takeV, wrAt, splice, cellsV, lenL, ne_eq, Nat.reduceLeDiff, partsV, elemsV, toPss, toPs, toP, fill, Nat.reduceMul, Nat.reduceLT, snapHsl, snapHref, h7]
    · simp only [↓Rd, Rt, Rl, Rb, gP_done, dP_done, Al.all_oks, plan, binV, binInt, eqV, isNilV, app, if_true, if_false, reduceIte, Nat.reduceEqDiff, beq_self_eq_true, reduceCtorEq, ge_iff_le, resultsV, noTup, tupV, fnOf, Nat.reduceAdd, rdAt, takeV, wrAt, splice, cellsV, lenL, ne_eq, Nat.reduceLeDiff, partsV, elemsV, toPss, toPs, toP, fill, Nat.reduceMul, Nat.reduceLT, snapHsl, snapHref, h8]
    · simp only [↓Rd, Rt, Rl, Rb, gP_done, dP_done, Al.all_oks, plan, binV, binInt, eqV, isNilV, app, if_true, if_false, reduceIte, Nat.reduceEqDiff, beq_self_eq_true, reduceCtorEq, ge_iff_le, resultsV, noTup, tupV, fnOf, Nat.reduceAdd, rdAt, takeV, wrAt, splice, cellsV, lenL, ne_eq, Nat.reduceLeDiff, partsV, elemsV, toPss, toPs, toP, fill, Nat.reduceMul, Nat.reduceLT, snapHsl, snapHref]
    · simp only [upd_apply, if_neg hi]

set_option maxHeartbeats 8000000 in
theorem axisMake_p {F : Nat} {ls : List Let} (g : Fine F ls) {av b c : Nat} (ha : av < ls.length) (hbF : b ≤ F) (hc : c ≤ 1000) {l o : Bool} {sg : Int} :
    PEv S 46 [.one (.p (brdV F ls)), mvV 2 av b c l o sg] (kR (amR F ls av b c)) := by
  have w1 := wrap_succ (n := c) (by omega)
  have w2 : IntKind.i64.wrap ((c : Int) + 2) = ((c + 2 : Nat) : Int) := (wrapI (x := (c : Int) + 2) (by omega) (by omega)).trans (by omega)
  have hlen := g.len
  have hnz : (((pieces ls).length : Int) == 0) = false := beq_eq_false_iff_ne.2 (by rw [pieces_len]; omega)
  have hfin : ∀ env' blk' s cc (L : List Pc), amR F ls av b c = some L → env' 4 = .one cc → env' 5 = vb true → grown s pcTy 7 (pcP L) (.one cc) blk' →
      blockQ 0 (thenW S .all i46_r2 (endQ .all [(4, none), (5, none)] fun v blk => outV blk v = some (kR (amR F ls av b c)))) .ret env' blk' := fun env' blk' s cc L hL h4 h5 hg => by
    simp only [↓Rd, Rt, Rl, Rb, gP_done, dP_done, Al.all_oks, plan, binV, binInt, eqV, isNilV, app, if_true, if_false, reduceIte, Nat.reduceEqDiff, beq_self_eq_true, reduceCtorEq, ge_iff_le, resultsV, noTup, tupV, fnOf, Nat.reduceAdd, rdAt, takeV, wrAt, splice, cellsV, lenL, ne_eq, Nat.reduceLeDiff, partsV, elemsV, toPss, toPs, toP, fill, Nat.reduceMul, Nat.reduceLT, snapHsl, snapHref, h4, h5, frz, frzL, room, planSlice, boundOf, Nat.reduceSub, Int.reduceLT, Int.reduceAdd, Int.reduceBEq, Int.reduceBNe, Int.reduceLE, List.contains_eq_mem, frzL_nil, onesC, snap_hfn, snapHfn_some, snap_href_s, snap_hsl_s]
    rw [hL]
    exact grown_out1 hg
  refine PEv_fn rfl c46 (Nat.le_of_ble_eq_true rfl) ?_
  simp only [↓Rd, Rt, Rl, Rb, gP_done, dP_done, Al.all_oks, plan, binV, binInt, eqV, isNilV, app, if_true, if_false, reduceIte, Nat.reduceEqDiff, beq_self_eq_true, reduceCtorEq, ge_iff_le, resultsV, noTup, tupV, fnOf, Nat.reduceAdd, rdAt, takeV, wrAt, splice, cellsV, lenL, ne_eq, Nat.reduceLeDiff, partsV, elemsV, toPss, toPs, toP, fill, Nat.reduceMul, Nat.reduceLT, snapHsl, snapHref, i46, noBlk, w1, w2, hnz, frz, frzL, room, planSlice, boundOf, Nat.reduceSub, Int.reduceLT, Int.reduceAdd, Int.reduceBEq, Int.reduceBNe, Int.reduceLE, List.contains_eq_mem, frzL_nil, onesC, snap_hfn, snapHfn_some, snap_href_s, snap_hsl_s]
  have k0 : 2 * av + 0 = 2 * av := rfl
  refine amSide g ha hbF hc (k := 0) (by omega) (l := l) (o := o) (sg := sg) ?_ ?_ ?_ ?_ ?_ ?_ ?_ ?_ ?_ ?_ ?_ ?_
  · simp only [↓Rd, Rt, Rl, Rb, gP_done, dP_done, Al.all_oks, plan, binV, binInt, eqV, isNilV, app, if_true, if_false, reduceIte, Nat.reduceEqDiff, beq_self_eq_true, reduceCtorEq, ge_iff_le, resultsV, noTup, tupV, fnOf, Nat.reduceAdd, rdAt, takeV, wrAt, splice, cellsV, lenL, ne_eq, Nat.reduceLeDiff, partsV, elemsV, toPss, toPs, toP, fill, Nat.reduceMul, Nat.reduceLT, snapHsl, snapHref]
  · simp only [↓Rd, Rt, Rl, Rb, gP_done, dP_done, Al.all_oks, plan, binV, binInt, eqV, isNilV, app, if_true, if_false, reduceIte, Nat.reduceEqDiff, beq_self_eq_true, reduceCtorEq, ge_iff_le, resultsV, noTup, tupV, fnOf, Nat.reduceAdd, rdAt, takeV, wrAt, splice, cellsV, lenL, ne_eq, Nat.reduceLeDiff, partsV, elemsV, toPss, toPs, toP, fill, Nat.reduceMul, Nat.reduceLT, snapHsl, snapHref]
  · simp only [↓Rd, Rt, Rl, Rb, gP_done, dP_done, Al.all_oks, plan, binV, binInt, eqV, isNilV, app, if_true, if_false, reduceIte, Nat.reduceEqDiff, beq_self_eq_true, reduceCtorEq, ge_iff_le, resultsV, noTup, tupV, fnOf, Nat.reduceAdd, rdAt, takeV, wrAt, splice, cellsV, lenL, ne_eq, Nat.reduceLeDiff, partsV, elemsV, toPss, toPs, toP, fill, Nat.reduceMul, Nat.reduceLT, snapHsl, snapHref]
  · simp only [↓Rd, Rt, Rl, Rb, gP_done, dP_done, Al.all_oks, plan, binV, binInt, eqV, isNilV, app, if_true, if_false, reduceIte, Nat.reduceEqDiff, beq_self_eq_true, reduceCtorEq, ge_iff_le, resultsV, noTup, tupV, fnOf, Nat.reduceAdd, rdAt, takeV, wrAt, splice, cellsV, lenL, ne_eq, Nat.reduceLeDiff, partsV, elemsV, toPss, toPs, toP, fill, Nat.reduceMul, Nat.reduceLT, snapHsl, snapHref]
  · simp only [↓Rd, Rt, Rl, Rb, gP_done, dP_done, Al.all_oks, plan, binV, binInt, eqV, isNilV, app, if_true, if_false, reduceIte, Nat.reduceEqDiff, beq_self_eq_true, reduceCtorEq, ge_iff_le, resultsV, noTup, tupV, fnOf, Nat.reduceAdd, rdAt, takeV, wrAt, splice, cellsV, lenL, ne_eq, Nat.reduceLeDiff, partsV, elemsV, toPss, toPs, toP, fill, Nat.reduceMul, Nat.reduceLT, snapHsl, snapHref]
  · simp only [↓Rd, Rt, Rl, Rb, gP_done, dP_done, Al.all_oks, plan, binV, binInt, eqV, isNilV, app, if_true, if_false, reduceIte, Nat.reduceEqDiff, beq_self_eq_true, reduceCtorEq, ge_iff_le, resultsV, noTup, tupV, fnOf, Nat.reduceAdd, rdAt, takeV, wrAt, splice, cellsV, lenL, ne_eq, Nat.reduceLeDiff, partsV, elemsV, toPss, toPs, toP, fill, Nat.reduceMul, Nat.reduceLT, snapHsl, snapHref]; rfl
  · simp only [↓Rd, Rt, Rl, Rb, gP_done, dP_done, Al.all_oks, plan, binV, binInt, eqV, isNilV, app, if_true, if_false, reduceIte, Nat.reduceEqDiff, beq_self_eq_true, reduceCtorEq, ge_iff_le, resultsV, noTup, tupV, fnOf, Nat.reduceAdd, rdAt, takeV, wrAt, splice, cellsV, lenL, ne_eq, Nat.reduceLeDiff, partsV, elemsV, toPss, toPs, toP, fill, Nat.reduceMul, Nat.reduceLT, snapHsl, snapHref]
  · simp only [↓Rd, Rt, Rl, Rb, gP_done, dP_done, Al.all_oks, plan, binV, binInt, eqV, isNilV, app, if_true, if_false, reduceIte, Nat.reduceEqDiff, beq_self_eq_true, reduceCtorEq, ge_iff_le, resultsV, noTup, tupV, fnOf, Nat.reduceAdd, rdAt, takeV, wrAt, splice, cellsV, lenL, ne_eq, Nat.reduceLeDiff, partsV, elemsV, toPss, toPs, toP, fill, Nat.reduceMul, Nat.reduceLT, snapHsl, snapHref]
  · simp only [↓Rd, Rt, Rl, Rb, gP_done, dP_done, Al.all_oks, plan, binV, binInt, eqV, isNilV, app, if_true, if_false, reduceIte, Nat.reduceEqDiff, beq_self_eq_true, reduceCtorEq, ge_iff_le, resultsV, noTup, tupV, fnOf, Nat.reduceAdd, rdAt, takeV, wrAt, splice, cellsV, lenL, ne_eq, Nat.reduceLeDiff, partsV, elemsV, toPss, toPs, toP, fill, Nat.reduceMul, Nat.reduceLT, snapHsl, snapHref]; rfl
  · simp only [↓Rd, Rt, Rl, Rb, gP_done, dP_done, Al.all_oks, plan, binV, binInt, eqV, isNilV, app, if_true, if_false, reduceIte, Nat.reduceEqDiff, beq_self_eq_true, reduceCtorEq, ge_iff_le, resultsV, noTup, tupV, fnOf, Nat.reduceAdd, rdAt, takeV, wrAt, splice, cellsV, lenL, ne_eq, Nat.reduceLeDiff, partsV, elemsV, toPss, toPs, toP, fill, Nat.reduceMul, Nat.reduceLT, snapHsl, snapHref]; rfl
  · intro hm env' blk' q0 q3 q6 q7 q8 q40 hb
    have hm0 : (b, c) ∉ (faceAt F ls (2 * av)).places := hm
    simp only [↓Rd, Rt, Rl, Rb, gP_done, dP_done, Al.all_oks, plan, binV, binInt, eqV, isNilV, app, if_true, if_false, reduceIte, Nat.reduceEqDiff, beq_self_eq_true, reduceCtorEq, ge_iff_le, resultsV, noTup, tupV, fnOf, Nat.reduceAdd, rdAt, takeV, wrAt, splice, cellsV, lenL, ne_eq, Nat.reduceLeDiff, partsV, elemsV, toPss, toPs, toP, fill, Nat.reduceMul, Nat.reduceLT, snapHsl, snapHref] at q0 q3 q6 q7 q8
    refine amSide g ha hbF hc (k := 1) (by omega) (l := l) (o := o) (sg := sg) q0 q3 q6 q7 q8 q40 ?_ ?_ ?_ ?_ ?_ ?_
    · rw [hb _ (by decide)]; simp only [↓Rd, Rt, Rl, Rb, gP_done, dP_done, Al.all_oks, plan, binV, binInt, eqV, isNilV, app, if_true, if_false, reduceIte, Nat.reduceEqDiff, beq_self_eq_true, reduceCtorEq, ge_iff_le, resultsV, noTup, tupV, fnOf, Nat.reduceAdd, rdAt, takeV, wrAt, splice, cellsV, lenL, ne_eq, Nat.reduceLeDiff, partsV, elemsV, toPss, toPs, toP, fill, Nat.reduceMul, Nat.reduceLT, snapHsl, snapHref]
    · rw [hb _ (by decide)]; simp only [↓Rd, Rt, Rl, Rb, gP_done, dP_done, Al.all_oks, plan, binV, binInt, eqV, isNilV, app, if_true, if_false, reduceIte, Nat.reduceEqDiff, beq_self_eq_true, reduceCtorEq, ge_iff_le, resultsV, noTup, tupV, fnOf, Nat.reduceAdd, rdAt, takeV, wrAt, splice, cellsV, lenL, ne_eq, Nat.reduceLeDiff, partsV, elemsV, toPss, toPs, toP, fill, Nat.reduceMul, Nat.reduceLT, snapHsl, snapHref]
    · rw [hb _ (by decide)]; simp only [↓Rd, Rt, Rl, Rb, gP_done, dP_done, Al.all_oks, plan, binV, binInt, eqV, isNilV, app, if_true, if_false, reduceIte, Nat.reduceEqDiff, beq_self_eq_true, reduceCtorEq, ge_iff_le, resultsV, noTup, tupV, fnOf, Nat.reduceAdd, rdAt, takeV, wrAt, splice, cellsV, lenL, ne_eq, Nat.reduceLeDiff, partsV, elemsV, toPss, toPs, toP, fill, Nat.reduceMul, Nat.reduceLT, snapHsl, snapHref]; rfl
    · rw [hb _ (by decide)]; simp only [↓Rd, Rt, Rl, Rb, gP_done, dP_done, Al.all_oks, plan, binV, binInt, eqV, isNilV, app, if_true, if_false, reduceIte, Nat.reduceEqDiff, beq_self_eq_true, reduceCtorEq, ge_iff_le, resultsV, noTup, tupV, fnOf, Nat.reduceAdd, rdAt, takeV, wrAt, splice, cellsV, lenL, ne_eq, Nat.reduceLeDiff, partsV, elemsV, toPss, toPs, toP, fill, Nat.reduceMul, Nat.reduceLT, snapHsl, snapHref]; rfl
    · intro hm2 env2 blk2 p0 p3 p6 p7 p8 p40 hb2
      have hr : amR F ls av b c = none := by unfold amR; rw [if_neg hm0, if_neg hm2]
      have hge : ¬ (((1 + 1 : Nat) : Int) < 2) := by decide
      refine R_unroll ?_
      simp only [↓Rd, Rt, Rl, Rb, gP_done, dP_done, Al.all_oks, plan, binV, binInt, eqV, isNilV, app, if_true, if_false, reduceIte, Nat.reduceEqDiff, beq_self_eq_true, reduceCtorEq, ge_iff_le, resultsV, noTup, tupV, fnOf, Nat.reduceAdd, rdAt, takeV, wrAt, splice, cellsV, lenL, ne_eq, Nat.reduceLeDiff, partsV, elemsV, toPss, toPs, toP, fill, Nat.reduceMul, Nat.reduceLT, snapHsl, snapHref, i46_l1, i46_r2, p40, hge, hr, frz, frzL, room, planSlice, boundOf, Nat.reduceSub, Int.reduceLT, Int.reduceAdd, Int.reduceBEq, Int.reduceBNe, Int.reduceLE, List.contains_eq_mem, frzL_nil, onesC, snap_hfn, snapHfn_some, snap_href_s, snap_hsl_s]
      rfl
    · intro hm2 env2 blk2 s cc h4 h5 hg
      exact hfin env2 blk2 s cc _ (by unfold amR; rw [if_neg hm0, if_pos hm2]; rfl) h4 h5 hg
  · intro hm env2 blk2 s cc h4 h5 hg
    have hm0 : (b, c) ∈ (faceAt F ls (2 * av)).places := hm
    exact hfin env2 blk2 s cc _ (by unfold amR; rw [if_pos hm0]; rfl) h4 h5 hg
/-- a kink -/
def lmR (ls : List Let) (av : Nat) (sg : Int) (o : Bool) : List Pc :=
  insAt (pieces ls) [⟨⟨2, 0, 0, ((cnt Let.isC ls / 2 + 1 : Nat) : Int), sg, o⟩, false⟩, ⟨⟨2, 0, 0, ((cnt Let.isC ls / 2 + 1 : Nat) : Int), sg, !o⟩, false⟩] av
set_option maxHeartbeats 8000000 in
theorem loopMake_p {F : Nat} {ls : List Let} (g : Fine F ls) {av : Nat} (ha : av < ls.length) {b c : Int} {l o : Bool} {sg : Int} :
    PEv S 49 [.one (.p (brdV F ls)), mvV 5 av b c l o sg] (kR (some (lmR ls av sg o))) := by
  have hcr := g.cr
  have pv1 := visit_p F (cnt Let.isC ls / 2) sg o (.sl (pcP (pieces ls))) (.sl (fcP (facesL F ls))) (.sl (nP (leftL F ls))) (.int .i64 (cnt Let.isP ls : Nat)) (.sl (nP (counts ls F))) 1 (by omega) (by omega)
  have pv2 := visit_p F (cnt Let.isC ls / 2) sg (!o) (.sl (pcP (pieces ls))) (.sl (fcP (facesL F ls))) (.sl (nP (leftL F ls))) (.int .i64 (cnt Let.isP ls : Nat)) (.sl (nP (counts ls F))) 1 (by omega) (by omega)
  have hlen := g.len
  have hplen := pieces_len ls
  have pin := inserted_p (pieces ls) [⟨⟨2, 0, 0, ((cnt Let.isC ls / 2 + 1 : Nat) : Int), sg, o⟩, false⟩, ⟨⟨2, 0, 0, ((cnt Let.isC ls / 2 + 1 : Nat) : Int), sg, !o⟩, false⟩] av (by omega) (by omega) (by simp)
  have lo : S.lone 3136065280 = false := by kernel_rfl
  refine PEv_fn rfl c49 (Nat.le_of_ble_eq_true rfl) ?_
  have c1 : ((1 : Nat) : Int) = 1 := rfl
  rw [c1] at pv1 pv2
  have hl1 : ∀ blk : Blk, ∀ s, ∀ x1 x2 x3 x4 x5 x6 x7 : PV, land blk [] s ((RV.agg [.p x1, .p x2, .p x3, .p x4, .p x5, .p x6, .p x7]).pureIf (S.lone s)) = some (.agg [.p x1, .p x2, .p x3, .p x4, .p x5, .p x6, .p x7], []) := fun blk s x1 x2 x3 x4 x5 x6 x7 => by cases S.lone s <;> rfl
  simp only [↓Rd, Rt, Rl, Rb, gP_done, dP_done, Al.all_oks, plan, binV, binInt, eqV, isNilV, app, if_true, if_false, reduceIte, Nat.reduceEqDiff, beq_self_eq_true, reduceCtorEq, ge_iff_le, resultsV, noTup, tupV, fnOf, Nat.reduceAdd, rdAt, takeV, wrAt, splice, cellsV, lenL, ne_eq, Nat.reduceLeDiff, partsV, elemsV, toPss, toPs, toP, fill, Nat.reduceMul, Nat.reduceLT, snapHsl, snapHref, i49, noBlk, s76, dP_land pv1 (hl1 _ _ _ _ _ _ _ _ _), dP_land pv2 (hl1 _ _ _ _ _ _ _ _ _), s72, frz, frzL, room, planSlice, boundOf, Nat.reduceSub, Int.reduceLT, Int.reduceAdd, Int.reduceBEq, Int.reduceBNe, Int.reduceLE, List.contains_eq_mem, frzL_nil, onesC, snap_hfn, snapHfn_some, snap_href_s, snap_hsl_s]
  refine dP_g1 pin lo (.inr (alone_grown (sc_pc _))) fun cc blk1 w gc hb hw => ?_
  simp only [↓Rd, Rt, Rl, Rb, gP_done, dP_done, Al.all_oks, plan, binV, binInt, eqV, isNilV, app, if_true, if_false, reduceIte, Nat.reduceEqDiff, beq_self_eq_true, reduceCtorEq, ge_iff_le, resultsV, noTup, tupV, fnOf, Nat.reduceAdd, rdAt, takeV, wrAt, splice, cellsV, lenL, ne_eq, Nat.reduceLeDiff, partsV, elemsV, toPss, toPs, toP, fill, Nat.reduceMul, Nat.reduceLT, snapHsl, snapHref, frz, frzL, room, planSlice, boundOf, Nat.reduceSub, Int.reduceLT, Int.reduceAdd, Int.reduceBEq, Int.reduceBNe, Int.reduceLE, List.contains_eq_mem, frzL_nil, onesC, snap_hfn, snapHfn_some, snap_href_s, snap_hsl_s]
  refine ⟨?_, grown_out1 gc⟩
  rcases hw with rfl | rfl <;> kernel_rfl
end Go.Abs
