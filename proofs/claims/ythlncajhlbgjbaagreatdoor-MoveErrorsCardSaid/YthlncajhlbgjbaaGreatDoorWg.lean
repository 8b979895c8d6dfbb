/-
  The walk that turns left in the program, and the number of faces.
-/
import Derived.Test.YthlncajhlbgjbaaGreatDoorWf
set_option linter.unusedSimpArgs false
set_option linter.unusedVariables false
set_option linter.unusedSectionVars false
namespace Go.Abs
set_option maxRecDepth 100000
/-- the cells of a diagram that is read -/
abbrev dgV (F : Nat) (ls : List Let) : PV := dgP F ls (.sl (bP (downs ls))) (.sl (nP (axisR ls))) (.sl (nP (plK ls ls.length))) (.mp true (mapK ls ls.length)) (.sl (nP (counts ls F)))
structure dgOK (F : Nat) (ls : List Let) : Prop where
  hl : ls.length ≤ 1000000
  ax : axOK F ls
  cr : crossR ls = true
  kinds : ∀ l ∈ ls, l.isP = true ∨ l.isC = true
theorem wrap_m1 {a : Nat} (h : a ≤ 9223372036854775807) : IntKind.i64.wrap ((a : Int) - 1) = (a : Int) - 1 := by
  cases a with
  | zero => decide
  | succ a => rw [wrap_pred (by omega) h]; omega
theorem wrap_m1add {a n : Nat} (hn : 1 ≤ n) (h : a + n ≤ 9223372036854775807) : IntKind.i64.wrap (((a : Int) - 1) + (n : Int)) = ((a + n - 1 : Nat) : Int) := by
  have e : ((a : Int) - 1) + (n : Int) = ((a + n - 1 : Nat) : Int) := by omega
  rw [e]; exact wrap_small (by omega)
theorem forwards_p (F : Nat) (ls : List Let) (i : Nat) (hl : ls.length ≤ 1000000) (hi : i < ls.length) : PEv S 127 [.one (.p (dgV F ls)), vi i] (ri (alongD ls.length i true)) := by
  refine PEv_fn rfl c127 (Nat.le_of_ble_eq_true rfl) ?_
  have e := wrap_mul2 (a := i) (by omega)
  simp only [↓Rd, Rt, Rl, Rb, gP_done, dP_done, Al.all_oks, plan, binV, binInt, eqV, isNilV, app, if_true, if_false, reduceIte, Nat.reduceEqDiff, beq_self_eq_true, reduceCtorEq, ge_iff_le, resultsV, noTup, tupV, fnOf, Nat.reduceAdd, rdAt, takeV, wrAt, splice, cellsV, lenL, ne_eq, Nat.reduceLeDiff, partsV, elemsV, toPss, toPs, toP, fill, Nat.reduceMul, Nat.reduceLT, snapHsl, snapHref, i127, noBlk, e, alongD, planAppend, elemsOf, szOf, szOK, frz, frzL, room, planSlice, boundOf, Nat.reduceSub, Int.reduceLT, Int.reduceAdd, Int.reduceBEq, Int.reduceBNe, Int.reduceLE, List.contains_eq_mem, frzL_nil, onesC, snap_hfn, snapHfn_some, snap_href_s, snap_hsl_s]
theorem backwards_p (F : Nat) (ls : List Let) (i : Nat) (hl : ls.length ≤ 1000000) (hi : i < ls.length) : PEv S 126 [.one (.p (dgV F ls)), vi i] (ri (alongD ls.length i false)) := by
  refine PEv_fn rfl c126 (Nat.le_of_ble_eq_true rfl) ?_
  have e1 := wrap_m1 (a := i) (by omega)
  have e2 := wrap_m1add (a := i) (n := ls.length) (by omega) (by omega)
  have e3 := tmod_nat (i + ls.length - 1) ls.length
  have hm := Nat.mod_lt (i + ls.length - 1) (show 0 < ls.length by omega)
  have e4 := wrap_mul2 (a := (i + ls.length - 1) % ls.length) (by omega)
  have e5 := wrap_succ (n := 2 * ((i + ls.length - 1) % ls.length)) (by omega)
  have hz : ¬ ((ls.length : Int) = 0) := by omega
  simp only [↓Rd, Rt, Rl, Rb, gP_done, dP_done, Al.all_oks, plan, binV, binInt, eqV, isNilV, app, if_true, if_false, reduceIte, Nat.reduceEqDiff, beq_self_eq_true, reduceCtorEq, ge_iff_le, resultsV, noTup, tupV, fnOf, Nat.reduceAdd, rdAt, takeV, wrAt, splice, cellsV, lenL, ne_eq, Nat.reduceLeDiff, partsV, elemsV, toPss, toPs, toP, fill, Nat.reduceMul, Nat.reduceLT, snapHsl, snapHref, i126, noBlk, e1, e2, e3, e4, e5, hz, alongD, planAppend, elemsOf, szOf, szOK, frz, frzL, room, planSlice, boundOf, Nat.reduceSub, Int.reduceLT, Int.reduceAdd, Int.reduceBEq, Int.reduceBNe, Int.reduceLE, List.contains_eq_mem, frzL_nil, onesC, snap_hfn, snapHfn_some, snap_href_s, snap_hsl_s]
theorem downs_at {ls : List Let} {v : Nat} {l : Let} (h : ls[v]? = some l) (hp : l.isP = true) : (downs ls)[v]? = some (dn ls v) := by
  have := (List.getElem?_eq_some_iff.1 h).1
  simp [downs, List.getElem?_range this, dnP, h, hp]
theorem plK_at {ls : List Let} {v : Nat} {l : Let} (h : ls[v]? = some l) (hp : l.isP = true) : (plK ls ls.length)[v]? = some (plOf ls l) := by
  have := (List.getElem?_eq_some_iff.1 h).1
  simp [plK, List.getElem?_range this, this, plI_of h hp]
theorem dgOK.kind1 {F : Nat} {ls : List Let} (ok : dgOK F ls) {v : Nat} {l : Let} (h : ls[v]? = some l) (h2 : (l.kind == 2) = false) : l.isP = true := by
  rcases ok.kinds l (List.mem_of_getElem? h) with hp | hc
  · exact hp
  · unfold Let.isC at hc; rw [h2] at hc; cases hc
set_option maxHeartbeats 8000000 in
theorem dleft_p {F : Nat} {ls : List Let} (ok : dgOK F ls) (d : Nat) (hd : d < 2 * ls.length + 2 * (axisR ls).length) : PEv S 86 [.one (.p (dgV F ls)), vi d] (ri (turnD ls (axisR ls) d)) := by
  have hl := ok.hl
  have hal : (axisR ls).length ≤ 1000000 := Nat.le_trans (axisK_len ls ls.length) hl
  have hax : ∀ x ∈ axisR ls, x < ls.length ∧ ∃ l, ls[x]? = some l ∧ l.isP = true := fun x hx => by
    obtain ⟨l, h1, h2⟩ := axisR_mem.1 hx
    exact ⟨(List.getElem?_eq_some_iff.1 h1).1, l, h1, h2⟩
  have m1 : IntKind.i64.wrap (2 * (ls.length : Int)) = ((2 * ls.length : Nat) : Int) := wrap_mul2 (by omega)
  unfold turnD
  by_cases h : 2 * ls.length ≤ d
  · rw [if_pos h]
    refine PEv_fn rfl c86 (Nat.le_of_ble_eq_true rfl) ?_
    have h' : ((2 * ls.length : Nat) : Int) ≤ (d : Int) := by omega
    have m2 := wrap_sub (a := d) (b := 2 * ls.length) h (by omega)
    have m3 := wrap_small (n := (d - 2 * ls.length) / 2) (by omega)
    have hm := Nat.mod_lt ((d - 2 * ls.length) / 2 + 1) (show 0 < (axisR ls).length by omega)
    have hm0 : ¬ (((axisR ls).length : Int) = 0) := by omega
    obtain ⟨u, hu⟩ := at_lt (ls := axisR ls) (k := (d - 2 * ls.length) / 2) (by omega)
    have hnu := nP_at hu
    by_cases h2 : d % 2 = 0
    · rw [if_pos h2]
      have m4 := wrap_succ (n := (d - 2 * ls.length) / 2) (by omega)
      have h2' : (((d % 2 : Nat) : Int) == 0) = true := by simp [h2]
      have m5 := tmod_nat ((d - 2 * ls.length) / 2 + 1) (axisR ls).length
      obtain ⟨v, hv⟩ := at_lt hm
      have hv2 : (axisR ls).getD (((d - 2 * ls.length) / 2 + 1) % (axisR ls).length) 0 = v := by rw [List.getD_eq_getElem?_getD, hv]; rfl
      rw [hv2]
      obtain ⟨hvl, l, hlv, hlp⟩ := hax v (List.mem_of_getElem? hv)
      have hnv := nP_at hv
      have hdn := bP_at (downs_at hlv hlp)
      have pf := forwards_p F ls v hl hvl
      have pb := backwards_p F ls v hl hvl
      cases hq : dn ls v with
      | true =>
        rw [hq] at hdn
        simp only [↓Rd, Rt, Rl, Rb, gP_done, dP_done, Al.all_oks, plan, binV, binInt, eqV, isNilV, app, if_true, if_false, reduceIte, Nat.reduceEqDiff, beq_self_eq_true, reduceCtorEq, ge_iff_le, resultsV, noTup, tupV, fnOf, Nat.reduceAdd, rdAt, takeV, wrAt, splice, cellsV, lenL, ne_eq, Nat.reduceLeDiff, partsV, elemsV, toPss, toPs, toP, fill, Nat.reduceMul, Nat.reduceLT, snapHsl, snapHref, i86, noBlk, m1, m2, m3, m4, m5, h', h2', hnu, hnv, hdn, hm0, tmod2, tdiv2, two_ne, s127, s126, gP_int pf, gP_int pb, planAppend, elemsOf, szOf, szOK, frz, frzL, room, planSlice, boundOf, Nat.reduceSub, Int.reduceLT, Int.reduceAdd, Int.reduceBEq, Int.reduceBNe, Int.reduceLE, List.contains_eq_mem, frzL_nil, onesC, snap_hfn, snapHfn_some, snap_href_s, snap_hsl_s]
        exact ⟨okd (by kernel_rfl), okd (by kernel_rfl)⟩
      | false =>
        rw [hq] at hdn
        simp only [↓Rd, Rt, Rl, Rb, gP_done, dP_done, Al.all_oks, plan, binV, binInt, eqV, isNilV, app, if_true, if_false, reduceIte, Nat.reduceEqDiff, beq_self_eq_true, reduceCtorEq, ge_iff_le, resultsV, noTup, tupV, fnOf, Nat.reduceAdd, rdAt, takeV, wrAt, splice, cellsV, lenL, ne_eq, Nat.reduceLeDiff, partsV, elemsV, toPss, toPs, toP, fill, Nat.reduceMul, Nat.reduceLT, snapHsl, snapHref, i86, noBlk, m1, m2, m3, m4, m5, h', h2', hnu, hnv, hdn, hm0, tmod2, tdiv2, two_ne, s127, s126, gP_int pf, gP_int pb, planAppend, elemsOf, szOf, szOK, frz, frzL, room, planSlice, boundOf, Nat.reduceSub, Int.reduceLT, Int.reduceAdd, Int.reduceBEq, Int.reduceBNe, Int.reduceLE, List.contains_eq_mem, frzL_nil, onesC, snap_hfn, snapHfn_some, snap_href_s, snap_hsl_s]
        exact ⟨okd (by kernel_rfl), okd (by kernel_rfl)⟩
    · rw [if_neg h2]
      have h2' : (((d % 2 : Nat) : Int) == 0) = false := by simp; omega
      have hv2 : (axisR ls).getD ((d - 2 * ls.length) / 2) 0 = u := by rw [List.getD_eq_getElem?_getD, hu]; rfl
      rw [hv2]
      obtain ⟨hvl, l, hlv, hlp⟩ := hax u (List.mem_of_getElem? hu)
      have hdn := bP_at (downs_at hlv hlp)
      have pf := forwards_p F ls u hl hvl
      have pb := backwards_p F ls u hl hvl
      cases hq : dn ls u with
      | true =>
        rw [hq] at hdn
        simp only [↓Rd, Rt, Rl, Rb, gP_done, dP_done, Al.all_oks, plan, binV, binInt, eqV, isNilV, app, if_true, if_false, reduceIte, Nat.reduceEqDiff, beq_self_eq_true, reduceCtorEq, ge_iff_le, resultsV, noTup, tupV, fnOf, Nat.reduceAdd, rdAt, takeV, wrAt, splice, cellsV, lenL, ne_eq, Nat.reduceLeDiff, partsV, elemsV, toPss, toPs, toP, fill, Nat.reduceMul, Nat.reduceLT, snapHsl, snapHref, i86, noBlk, m1, m2, m3, h', h2', hnu, hdn, hm0, tmod2, tdiv2, two_ne, s127, s126, gP_int pf, gP_int pb, planAppend, elemsOf, szOf, szOK, frz, frzL, room, planSlice, boundOf, Nat.reduceSub, Int.reduceLT, Int.reduceAdd, Int.reduceBEq, Int.reduceBNe, Int.reduceLE, List.contains_eq_mem, frzL_nil, onesC, snap_hfn, snapHfn_some, snap_href_s, snap_hsl_s]
        exact okd (by kernel_rfl)
      | false =>
        rw [hq] at hdn
        simp only [↓Rd, Rt, Rl, Rb, gP_done, dP_done, Al.all_oks, plan, binV, binInt, eqV, isNilV, app, if_true, if_false, reduceIte, Nat.reduceEqDiff, beq_self_eq_true, reduceCtorEq, ge_iff_le, resultsV, noTup, tupV, fnOf, Nat.reduceAdd, rdAt, takeV, wrAt, splice, cellsV, lenL, ne_eq, Nat.reduceLeDiff, partsV, elemsV, toPss, toPs, toP, fill, Nat.reduceMul, Nat.reduceLT, snapHsl, snapHref, i86, noBlk, m1, m2, m3, h', h2', hnu, hdn, hm0, tmod2, tdiv2, two_ne, s127, s126, gP_int pf, gP_int pb, planAppend, elemsOf, szOf, szOK, frz, frzL, room, planSlice, boundOf, Nat.reduceSub, Int.reduceLT, Int.reduceAdd, Int.reduceBEq, Int.reduceBNe, Int.reduceLE, List.contains_eq_mem, frzL_nil, onesC, snap_hfn, snapHfn_some, snap_href_s, snap_hsl_s]
        exact okd (by kernel_rfl)
  · rw [if_neg h]
    have h' : ¬ (((2 * ls.length : Nat) : Int) ≤ (d : Int)) := by omega
    have m3 := wrap_small (n := d / 2) (by omega)
    have hn0 : ¬ ((ls.length : Int) = 0) := by omega
    have hm0 := Nat.mod_lt (d / 2 + 1) (show 0 < ls.length by omega)
    have m4 := wrap_succ (n := d / 2) (by omega)
    have m5 := tmod_nat (d / 2 + 1) ls.length
    have body : ∀ v : Nat, v < ls.length → ∀ fw : Bool, v = (if fw then (d / 2 + 1) % ls.length else d / 2) → (((d % 2 : Nat) : Int) == 0) = fw → PEv S 86 [.one (.p (dgV F ls)), vi d] (ri ((match ls[v]? with
        | none => 0
        | some l => if l.kind == 2 then alongD ls.length (otherR ls v) (fw == (l.over == (l.sign == 1)))
          else if dn ls v == fw then 2 * ls.length + 2 * (axisR ls).idxOf v else 2 * ls.length + 2 * (((axisR ls).idxOf v + (axisR ls).length - 1) % (axisR ls).length) + 1 : Nat) : Int)) := by
      intro v hv fw hvf hfw'
      obtain ⟨l, hlv⟩ := at_lt hv
      have hpv := ps_of hlv
      rw [hlv]
      simp only
      refine PEv_fn rfl c86 (Nat.le_of_ble_eq_true rfl) ?_
      cases hk : (l.kind == 2) with
      | true =>
        have hc : l.isC = true := hk
        have hk1 : (l.kind == 1) = false := by
          simp only [beq_iff_eq] at hk
          rw [hk]; rfl
        obtain ⟨hvis, hol⟩ := other_law ok.cr hlv hc
        have hf := find_map ls ls.length l.id
        rw [if_pos (ids_cover (List.mem_of_getElem? hlv) hc)] at hf
        have pf := forwards_p F ls (otherR ls v) hl hol
        have pb := backwards_p F ls (otherR ls v) hl hol
        cases ho : l.over with
        | true =>
          rw [ho] at hvis
          have hvis : visJ ls ls.length l.id false = some (otherR ls v) := hvis
          simp only [entV, hvis] at hf
          simp only [visV] at hf
          cases hs : (l.sign == 1) with
          | true =>
            cases fw with
            | true =>
              have hvf : v = (d / 2 + 1) % ls.length := hvf
              rw [hvf] at hpv hf pf pb ⊢
              simp only [↓Rd, Rt, Rl, Rb, gP_done, dP_done, Al.all_oks, plan, binV, binInt, eqV, isNilV, app, if_true, if_false, reduceIte, Nat.reduceEqDiff, beq_self_eq_true, reduceCtorEq, ge_iff_le, resultsV, noTup, tupV, fnOf, Nat.reduceAdd, rdAt, takeV, wrAt, splice, cellsV, lenL, ne_eq, Nat.reduceLeDiff, partsV, elemsV, toPss, toPs, toP, fill, Nat.reduceMul, Nat.reduceLT, snapHsl, snapHref, i86, noBlk, m1, m3, m4, m5, h', hfw', hpv, ps_len, Let.ps, hn0, hk1, ho, hs, tmod2, tdiv2, two_ne, mapOf, mapVal, keyKd, Option.getD_some, Option.getD_none, Option.isSome_some, Option.isSome_none, hf, s127, s126, gP_int pf, gP_int pb, planAppend, elemsOf, szOf, szOK, frz, frzL, room, planSlice, boundOf, Nat.reduceSub, Int.reduceLT, Int.reduceAdd, Int.reduceBEq, Int.reduceBNe, Int.reduceLE, List.contains_eq_mem, frzL_nil, onesC, snap_hfn, snapHfn_some, snap_href_s, snap_hsl_s]
              exact ⟨okd (by kernel_rfl), okd (by kernel_rfl)⟩
            | false =>
              have hvf : v = d / 2 := hvf
              rw [hvf] at hpv hf pf pb ⊢
              simp only [↓Rd, Rt, Rl, Rb, gP_done, dP_done, Al.all_oks, plan, binV, binInt, eqV, isNilV, app, if_true, if_false, reduceIte, Nat.reduceEqDiff, beq_self_eq_true, reduceCtorEq, ge_iff_le, resultsV, noTup, tupV, fnOf, Nat.reduceAdd, rdAt, takeV, wrAt, splice, cellsV, lenL, ne_eq, Nat.reduceLeDiff, partsV, elemsV, toPss, toPs, toP, fill, Nat.reduceMul, Nat.reduceLT, snapHsl, snapHref, i86, noBlk, m1, m3, m4, m5, h', hfw', hpv, ps_len, Let.ps, hn0, hk1, ho, hs, tmod2, tdiv2, two_ne, mapOf, mapVal, keyKd, Option.getD_some, Option.getD_none, Option.isSome_some, Option.isSome_none, hf, s127, s126, gP_int pf, gP_int pb, planAppend, elemsOf, szOf, szOK, frz, frzL, room, planSlice, boundOf, Nat.reduceSub, Int.reduceLT, Int.reduceAdd, Int.reduceBEq, Int.reduceBNe, Int.reduceLE, List.contains_eq_mem, frzL_nil, onesC, snap_hfn, snapHfn_some, snap_href_s, snap_hsl_s]
              exact ⟨okd (by kernel_rfl), okd (by kernel_rfl)⟩
          | false =>
            cases fw with
            | true =>
              have hvf : v = (d / 2 + 1) % ls.length := hvf
              rw [hvf] at hpv hf pf pb ⊢
              simp only [↓Rd, Rt, Rl, Rb, gP_done, dP_done, Al.all_oks, plan, binV, binInt, eqV, isNilV, app, if_true, if_false, reduceIte, Nat.reduceEqDiff, beq_self_eq_true, reduceCtorEq, ge_iff_le, resultsV, noTup, tupV, fnOf, Nat.reduceAdd, rdAt, takeV, wrAt, splice, cellsV, lenL, ne_eq, Nat.reduceLeDiff, partsV, elemsV, toPss, toPs, toP, fill, Nat.reduceMul, Nat.reduceLT, snapHsl, snapHref, i86, noBlk, m1, m3, m4, m5, h', hfw', hpv, ps_len, Let.ps, hn0, hk1, ho, hs, tmod2, tdiv2, two_ne, mapOf, mapVal, keyKd, Option.getD_some, Option.getD_none, Option.isSome_some, Option.isSome_none, hf, s127, s126, gP_int pf, gP_int pb, planAppend, elemsOf, szOf, szOK, frz, frzL, room, planSlice, boundOf, Nat.reduceSub, Int.reduceLT, Int.reduceAdd, Int.reduceBEq, Int.reduceBNe, Int.reduceLE, List.contains_eq_mem, frzL_nil, onesC, snap_hfn, snapHfn_some, snap_href_s, snap_hsl_s]
              exact ⟨okd (by kernel_rfl), okd (by kernel_rfl)⟩
            | false =>
              have hvf : v = d / 2 := hvf
              rw [hvf] at hpv hf pf pb ⊢
              simp only [↓Rd, Rt, Rl, Rb, gP_done, dP_done, Al.all_oks, plan, binV, binInt, eqV, isNilV, app, if_true, if_false, reduceIte, Nat.reduceEqDiff, beq_self_eq_true, reduceCtorEq, ge_iff_le, resultsV, noTup, tupV, fnOf, Nat.reduceAdd, rdAt, takeV, wrAt, splice, cellsV, lenL, ne_eq, Nat.reduceLeDiff, partsV, elemsV, toPss, toPs, toP, fill, Nat.reduceMul, Nat.reduceLT, snapHsl, snapHref, i86, noBlk, m1, m3, m4, m5, h', hfw', hpv, ps_len, Let.ps, hn0, hk1, ho, hs, tmod2, tdiv2, two_ne, mapOf, mapVal, keyKd, Option.getD_some, Option.getD_none, Option.isSome_some, Option.isSome_none, hf, s127, s126, gP_int pf, gP_int pb, planAppend, elemsOf, szOf, szOK, frz, frzL, room, planSlice, boundOf, Nat.reduceSub, Int.reduceLT, Int.reduceAdd, Int.reduceBEq, Int.reduceBNe, Int.reduceLE, List.contains_eq_mem, frzL_nil, onesC, snap_hfn, snapHfn_some, snap_href_s, snap_hsl_s]
              exact ⟨okd (by kernel_rfl), okd (by kernel_rfl)⟩
        | false =>
          rw [ho] at hvis
          have hvis : visJ ls ls.length l.id true = some (otherR ls v) := hvis
          simp only [entV, hvis] at hf
          simp only [visV] at hf
          cases hs : (l.sign == 1) with
          | true =>
            cases fw with
            | true =>
              have hvf : v = (d / 2 + 1) % ls.length := hvf
              rw [hvf] at hpv hf pf pb ⊢
              simp only [↓Rd, Rt, Rl, Rb, gP_done, dP_done, Al.all_oks, plan, binV, binInt, eqV, isNilV, app, if_true, if_false, reduceIte, Nat.reduceEqDiff, beq_self_eq_true, reduceCtorEq, ge_iff_le, resultsV, noTup, tupV, fnOf, Nat.reduceAdd, rdAt, takeV, wrAt, splice, cellsV, lenL, ne_eq, Nat.reduceLeDiff, partsV, elemsV, toPss, toPs, toP, fill, Nat.reduceMul, Nat.reduceLT, snapHsl, snapHref, i86, noBlk, m1, m3, m4, m5, h', hfw', hpv, ps_len, Let.ps, hn0, hk1, ho, hs, tmod2, tdiv2, two_ne, mapOf, mapVal, keyKd, Option.getD_some, Option.getD_none, Option.isSome_some, Option.isSome_none, hf, s127, s126, gP_int pf, gP_int pb, planAppend, elemsOf, szOf, szOK, frz, frzL, room, planSlice, boundOf, Nat.reduceSub, Int.reduceLT, Int.reduceAdd, Int.reduceBEq, Int.reduceBNe, Int.reduceLE, List.contains_eq_mem, frzL_nil, onesC, snap_hfn, snapHfn_some, snap_href_s, snap_hsl_s]
              exact ⟨okd (by kernel_rfl), okd (by kernel_rfl)⟩
            | false =>
              have hvf : v = d / 2 := hvf
              rw [hvf] at hpv hf pf pb ⊢
              simp only [↓Rd, Rt, Rl, Rb, gP_done, dP_done, Al.all_oks, plan, binV, binInt, eqV, isNilV, app, if_true, if_false, reduceIte, Nat.reduceEqDiff, beq_self_eq_true, reduceCtorEq, ge_iff_le, resultsV, noTup, tupV, fnOf, Nat.reduceAdd, rdAt, takeV, wrAt, splice, cellsV, lenL, ne_eq, Nat.reduceLeDiff, partsV, elemsV, toPss, toPs, toP, fill, Nat.reduceMul, Nat.reduceLT, snapHsl, snapHref, i86, noBlk, m1, m3, m4, m5, h', hfw', hpv, ps_len, Let.ps, hn0, hk1, ho, hs, tmod2, tdiv2, two_ne, mapOf, mapVal, keyKd, Option.getD_some, Option.getD_none, Option.isSome_some, Option.isSome_none, hf, s127, s126, gP_int pf, gP_int pb, planAppend, elemsOf, szOf, szOK, frz, frzL, room, planSlice, boundOf, Nat.reduceSub, Int.reduceLT, Int.reduceAdd, Int.reduceBEq, Int.reduceBNe, Int.reduceLE, List.contains_eq_mem, frzL_nil, onesC, snap_hfn, snapHfn_some, snap_href_s, snap_hsl_s]
              exact ⟨okd (by kernel_rfl), okd (by kernel_rfl)⟩
          | false =>
            cases fw with
            | true =>
              have hvf : v = (d / 2 + 1) % ls.length := hvf
              rw [hvf] at hpv hf pf pb ⊢
              simp only [↓Rd, Rt, Rl, Rb, gP_done, dP_done, Al.all_oks, plan, binV, binInt, eqV, isNilV, app, if_true, if_false, reduceIte, Nat.reduceEqDiff, beq_self_eq_true, reduceCtorEq, ge_iff_le, resultsV, noTup, tupV, fnOf, Nat.reduceAdd, rdAt, takeV, wrAt, splice, cellsV, lenL, ne_eq, Nat.reduceLeDiff, partsV, elemsV, toPss, toPs, toP, fill, Nat.reduceMul, Nat.reduceLT, snapHsl, snapHref, i86, noBlk, m1, m3, m4, m5, h', hfw', hpv, ps_len, Let.ps, hn0, hk1, ho, hs, tmod2, tdiv2, two_ne, mapOf, mapVal, keyKd, Option.getD_some, Option.getD_none, Option.isSome_some, Option.isSome_none, hf, s127, s126, gP_int pf, gP_int pb, planAppend, elemsOf, szOf, szOK, frz, frzL, room, planSlice, boundOf, Nat.reduceSub, Int.reduceLT, Int.reduceAdd, Int.reduceBEq, Int.reduceBNe, Int.reduceLE, List.contains_eq_mem, frzL_nil, onesC, snap_hfn, snapHfn_some, snap_href_s, snap_hsl_s]
              exact ⟨okd (by kernel_rfl), okd (by kernel_rfl)⟩
            | false =>
              have hvf : v = d / 2 := hvf
              rw [hvf] at hpv hf pf pb ⊢
              simp only [↓Rd, Rt, Rl, Rb, gP_done, dP_done, Al.all_oks, plan, binV, binInt, eqV, isNilV, app, if_true, if_false, reduceIte, Nat.reduceEqDiff, beq_self_eq_true, reduceCtorEq, ge_iff_le, resultsV, noTup, tupV, fnOf, Nat.reduceAdd, rdAt, takeV, wrAt, splice, cellsV, lenL, ne_eq, Nat.reduceLeDiff, partsV, elemsV, toPss, toPs, toP, fill, Nat.reduceMul, Nat.reduceLT, snapHsl, snapHref, i86, noBlk, m1, m3, m4, m5, h', hfw', hpv, ps_len, Let.ps, hn0, hk1, ho, hs, tmod2, tdiv2, two_ne, mapOf, mapVal, keyKd, Option.getD_some, Option.getD_none, Option.isSome_some, Option.isSome_none, hf, s127, s126, gP_int pf, gP_int pb, planAppend, elemsOf, szOf, szOK, frz, frzL, room, planSlice, boundOf, Nat.reduceSub, Int.reduceLT, Int.reduceAdd, Int.reduceBEq, Int.reduceBNe, Int.reduceLE, List.contains_eq_mem, frzL_nil, onesC, snap_hfn, snapHfn_some, snap_href_s, snap_hsl_s]
              exact ⟨okd (by kernel_rfl), okd (by kernel_rfl)⟩
      | false =>
        have hp := ok.kind1 hlv hk
        have hk1 : (l.kind == 1) = true := hp
        have hdn := bP_at (downs_at hlv hp)
        have hpl := nP_at (plK_at hlv hp)
        have hix := axis_idx ok.ax hlv hp
        have hpT := pl_T (ok.ax.good l (List.mem_of_getElem? hlv) hp)
        rw [T_len ok.ax.gates] at hpT
        rw [hix]
        have hm0' : ¬ (((axisR ls).length : Int) = 0) := by omega
        have hml := Nat.mod_lt (plOf ls l + (axisR ls).length - 1) (show 0 < (axisR ls).length by omega)
        have n1 := wrap_mul2 (a := plOf ls l) (by omega)
        have n2 := wrap_add (a := 2 * ls.length) (b := 2 * plOf ls l) (by omega)
        have n3 := wrap_m1 (a := plOf ls l) (by omega)
        have n4 := wrap_m1add (a := plOf ls l) (n := (axisR ls).length) (by omega) (by omega)
        have n5 := tmod_nat (plOf ls l + (axisR ls).length - 1) (axisR ls).length
        have n6 := wrap_mul2 (a := (plOf ls l + (axisR ls).length - 1) % (axisR ls).length) (by omega)
        have n7 := wrap_add (a := 2 * ls.length) (b := 2 * ((plOf ls l + (axisR ls).length - 1) % (axisR ls).length)) (by omega)
        have n8 := wrap_succ (n := 2 * ls.length + 2 * ((plOf ls l + (axisR ls).length - 1) % (axisR ls).length)) (by omega)
        cases fw with
        | true =>
          have hvf : v = (d / 2 + 1) % ls.length := hvf
          cases hdn2 : dn ls v with
          | true =>
            rw [hdn2] at hdn
            rw [hvf] at hpv hdn hpl
            simp only [↓Rd, Rt, Rl, Rb, gP_done, dP_done, Al.all_oks, plan, binV, binInt, eqV, isNilV, app, if_true, if_false, reduceIte, Nat.reduceEqDiff, beq_self_eq_true, reduceCtorEq, ge_iff_le, resultsV, noTup, tupV, fnOf, Nat.reduceAdd, rdAt, takeV, wrAt, splice, cellsV, lenL, ne_eq, Nat.reduceLeDiff, partsV, elemsV, toPss, toPs, toP, fill, Nat.reduceMul, Nat.reduceLT, snapHsl, snapHref, i86, noBlk, m1, m3, m4, m5, h', hfw', hpv, ps_len, Let.ps, hn0, hk1, tmod2, tdiv2, two_ne, hdn, hpl, n1, n2, n3, n4, n5, n6, n7, n8, hm0', planAppend, elemsOf, szOf, szOK, frz, frzL, room, planSlice, boundOf, Nat.reduceSub, Int.reduceLT, Int.reduceAdd, Int.reduceBEq, Int.reduceBNe, Int.reduceLE, List.contains_eq_mem, frzL_nil, onesC, snap_hfn, snapHfn_some, snap_href_s, snap_hsl_s]
            exact okd (by kernel_rfl)
          | false =>
            rw [hdn2] at hdn
            rw [hvf] at hpv hdn hpl
            simp only [↓Rd, Rt, Rl, Rb, gP_done, dP_done, Al.all_oks, plan, binV, binInt, eqV, isNilV, app, if_true, if_false, reduceIte, Nat.reduceEqDiff, beq_self_eq_true, reduceCtorEq, ge_iff_le, resultsV, noTup, tupV, fnOf, Nat.reduceAdd, rdAt, takeV, wrAt, splice, cellsV, lenL, ne_eq, Nat.reduceLeDiff, partsV, elemsV, toPss, toPs, toP, fill, Nat.reduceMul, Nat.reduceLT, snapHsl, snapHref, i86, noBlk, m1, m3, m4, m5, h', hfw', hpv, ps_len, Let.ps, hn0, hk1, tmod2, tdiv2, two_ne, hdn, hpl, n1, n2, n3, n4, n5, n6, n7, n8, hm0', planAppend, elemsOf, szOf, szOK, frz, frzL, room, planSlice, boundOf, Nat.reduceSub, Int.reduceLT, Int.reduceAdd, Int.reduceBEq, Int.reduceBNe, Int.reduceLE, List.contains_eq_mem, frzL_nil, onesC, snap_hfn, snapHfn_some, snap_href_s, snap_hsl_s]
            exact okd (by kernel_rfl)
        | false =>
          have hvf : v = d / 2 := hvf
          cases hdn2 : dn ls v with
          | true =>
            rw [hdn2] at hdn
            rw [hvf] at hpv hdn hpl
            simp only [↓Rd, Rt, Rl, Rb, gP_done, dP_done, Al.all_oks, plan, binV, binInt, eqV, isNilV, app, if_true, if_false, reduceIte, Nat.reduceEqDiff, beq_self_eq_true, reduceCtorEq, ge_iff_le, resultsV, noTup, tupV, fnOf, Nat.reduceAdd, rdAt, takeV, wrAt, splice, cellsV, lenL, ne_eq, Nat.reduceLeDiff, partsV, elemsV, toPss, toPs, toP, fill, Nat.reduceMul, Nat.reduceLT, snapHsl, snapHref, i86, noBlk, m1, m3, m4, m5, h', hfw', hpv, ps_len, Let.ps, hn0, hk1, tmod2, tdiv2, two_ne, hdn, hpl, n1, n2, n3, n4, n5, n6, n7, n8, hm0', planAppend, elemsOf, szOf, szOK, frz, frzL, room, planSlice, boundOf, Nat.reduceSub, Int.reduceLT, Int.reduceAdd, Int.reduceBEq, Int.reduceBNe, Int.reduceLE, List.contains_eq_mem, frzL_nil, onesC, snap_hfn, snapHfn_some, snap_href_s, snap_hsl_s]
            exact okd (by kernel_rfl)
          | false =>
            rw [hdn2] at hdn
            rw [hvf] at hpv hdn hpl
            simp only [↓Rd, Rt, Rl, Rb, gP_done, dP_done, Al.all_oks, plan, binV, binInt, eqV, isNilV, app, if_true, if_false, reduceIte, Nat.reduceEqDiff, beq_self_eq_true, reduceCtorEq, ge_iff_le, resultsV, noTup, tupV, fnOf, Nat.reduceAdd, rdAt, takeV, wrAt, splice, cellsV, lenL, ne_eq, Nat.reduceLeDiff, partsV, elemsV, toPss, toPs, toP, fill, Nat.reduceMul, Nat.reduceLT, snapHsl, snapHref, i86, noBlk, m1, m3, m4, m5, h', hfw', hpv, ps_len, Let.ps, hn0, hk1, tmod2, tdiv2, two_ne, hdn, hpl, n1, n2, n3, n4, n5, n6, n7, n8, hm0', planAppend, elemsOf, szOf, szOK, frz, frzL, room, planSlice, boundOf, Nat.reduceSub, Int.reduceLT, Int.reduceAdd, Int.reduceBEq, Int.reduceBNe, Int.reduceLE, List.contains_eq_mem, frzL_nil, onesC, snap_hfn, snapHfn_some, snap_href_s, snap_hsl_s]
            exact okd (by kernel_rfl)
    have hvl : (if (d % 2 == 0) = true then (d / 2 + 1) % ls.length else d / 2) < ls.length := by
      split
      · exact hm0
      · omega
    have := body _ hvl (d % 2 == 0) rfl (by cases hq : (d % 2 == 0) <;> simp at hq ⊢ <;> omega)
    exact this
end Go.Abs
namespace Go.Abs
set_option maxRecDepth 100000
abbrev nxt (ls : List Let) : Nat → Nat := turnD ls (axisR ls)
theorem flatIn {F : Nat} {ls : List Let} (ok : dgOK F ls) {Q : Post} :
    ∀ (fuel x : Nat) (sn : List Bool) (env : Env) (blk : Blk), env 0 = .one (.p (dgV F ls)) → env 4 = .one (.hsl 7616128064 1 1 0 sn.length) → blk 7616128064 = (1, some (.arr 4 1 (bP sn))) →
      env 7 = vi x → x < sn.length → sn.length = 2 * ls.length + 2 * (axisR ls).length → unseen sn < fuel →
      (∀ env' blk', env' 0 = env 0 → env' 4 = env 4 → env' 5 = env 5 → env' 24 = env 24 → env' 25 = env 25 → blk' 7616128064 = (1, some (.arr 4 1 (bP (walkF (nxt ls) fuel x sn).2))) → Q .normal env' blk') →
      W S .all (.loop i119_l1) (blockQ 2 Q) env blk := by
  have hal : (axisR ls).length ≤ 1000000 := Nat.le_trans (axisK_len ls ls.length) ok.hl
  have hax : ∀ x ∈ axisR ls, x < ls.length := fun x h => axisK_lt h
  have hp : ∀ v l, ls[v]? = some l → (l.kind == 2) = false → v ∈ axisR ls := fun v l hv h2 => axisR_mem.2 ⟨l, hv, ok.kind1 hv h2⟩
  intro fuel
  induction fuel with
  | zero => intro x sn env blk _ _ _ _ _ _ h; omega
  | succ fuel ih =>
    intro x sn env blk h0 h4 hS h7 hx hsl hu hq
    obtain ⟨b, hb⟩ := at_lt hx
    have hbp := bP_at hb
    have hgd : sn.getD x true = b := by rw [List.getD_eq_getElem?_getD, hb]; rfl
    unfold walkF at hq
    rw [hgd] at hq
    refine R_unroll ?_
    cases b with
    | true =>
      simp only [↓Rd, Rt, Rl, Rb, gP_done, dP_done, Al.all_oks, plan, binV, binInt, eqV, isNilV, app, if_true, if_false, reduceIte, Nat.reduceEqDiff, beq_self_eq_true, reduceCtorEq, ge_iff_le, resultsV, noTup, tupV, fnOf, Nat.reduceAdd, rdAt, takeV, wrAt, splice, cellsV, lenL, ne_eq, Nat.reduceLeDiff, partsV, elemsV, toPss, toPs, toP, fill, Nat.reduceMul, Nat.reduceLT, snapHsl, snapHref, i119_l1, h4, hS, h7, hx, hbp, planAppend, elemsOf, szOf, szOK, frz, frzL, room, planSlice, boundOf, Nat.reduceSub, Int.reduceLT, Int.reduceAdd, Int.reduceBEq, Int.reduceBNe, Int.reduceLE, List.contains_eq_mem, frzL_nil, onesC, snap_hfn, snapHfn_some, snap_href_s, snap_hsl_s]
      refine hq _ _ ?_ ?_ ?_ ?_ ?_ hS
      all_goals simp only [↓Rd, Rt, Rl, Rb, gP_done, dP_done, Al.all_oks, plan, binV, binInt, eqV, isNilV, app, if_true, if_false, reduceIte, Nat.reduceEqDiff, beq_self_eq_true, reduceCtorEq, ge_iff_le, resultsV, noTup, tupV, fnOf, Nat.reduceAdd, rdAt, takeV, wrAt, splice, cellsV, lenL, ne_eq, Nat.reduceLeDiff, partsV, elemsV, toPss, toPs, toP, fill, Nat.reduceMul, Nat.reduceLT, snapHsl, snapHref, h4]
    | false =>
      have hun := unseen_set hb
      have pt := dleft_p ok x (by omega)
      have hnl := turnD_lt (d := x) hax hp (by omega)
      have hset := bP_set sn x true
      simp only [↓Rd, Rt, Rl, Rb, gP_done, dP_done, Al.all_oks, plan, binV, binInt, eqV, isNilV, app, if_true, if_false, reduceIte, Nat.reduceEqDiff, beq_self_eq_true, reduceCtorEq, ge_iff_le, resultsV, noTup, tupV, fnOf, Nat.reduceAdd, rdAt, takeV, wrAt, splice, cellsV, lenL, ne_eq, Nat.reduceLeDiff, partsV, elemsV, toPss, toPs, toP, fill, Nat.reduceMul, Nat.reduceLT, snapHsl, snapHref, i119_l1, h0, h4, hS, h7, hx, hbp, hset, s86, gP_int pt, planAppend, elemsOf, szOf, szOK, frz, frzL, room, planSlice, boundOf, Nat.reduceSub, Int.reduceLT, Int.reduceAdd, Int.reduceBEq, Int.reduceBNe, Int.reduceLE, List.contains_eq_mem, frzL_nil, onesC, snap_hfn, snapHfn_some, snap_href_s, snap_hsl_s]
      refine ih (turnD ls (axisR ls) x) (sn.set x true) _ _ ?_ ?_ ?_ ?_ (by simpa [hsl] using hnl) (by simpa using hsl) (by omega) ?_
      · simp only [↓Rd, Rt, Rl, Rb, gP_done, dP_done, Al.all_oks, plan, binV, binInt, eqV, isNilV, app, if_true, if_false, reduceIte, Nat.reduceEqDiff, beq_self_eq_true, reduceCtorEq, ge_iff_le, resultsV, noTup, tupV, fnOf, Nat.reduceAdd, rdAt, takeV, wrAt, splice, cellsV, lenL, ne_eq, Nat.reduceLeDiff, partsV, elemsV, toPss, toPs, toP, fill, Nat.reduceMul, Nat.reduceLT, snapHsl, snapHref, h0]
      · simp only [↓Rd, Rt, Rl, Rb, gP_done, dP_done, Al.all_oks, plan, binV, binInt, eqV, isNilV, app, if_true, if_false, reduceIte, Nat.reduceEqDiff, beq_self_eq_true, reduceCtorEq, ge_iff_le, resultsV, noTup, tupV, fnOf, Nat.reduceAdd, rdAt, takeV, wrAt, splice, cellsV, lenL, ne_eq, Nat.reduceLeDiff, partsV, elemsV, toPss, toPs, toP, fill, Nat.reduceMul, Nat.reduceLT, snapHsl, snapHref, h4, List.length_set]
      · simp only [↓Rd, Rt, Rl, Rb, gP_done, dP_done, Al.all_oks, plan, binV, binInt, eqV, isNilV, app, if_true, if_false, reduceIte, Nat.reduceEqDiff, beq_self_eq_true, reduceCtorEq, ge_iff_le, resultsV, noTup, tupV, fnOf, Nat.reduceAdd, rdAt, takeV, wrAt, splice, cellsV, lenL, ne_eq, Nat.reduceLeDiff, partsV, elemsV, toPss, toPs, toP, fill, Nat.reduceMul, Nat.reduceLT, snapHsl, snapHref]
      · simp only [↓Rd, Rt, Rl, Rb, gP_done, dP_done, Al.all_oks, plan, binV, binInt, eqV, isNilV, app, if_true, if_false, reduceIte, Nat.reduceEqDiff, beq_self_eq_true, reduceCtorEq, ge_iff_le, resultsV, noTup, tupV, fnOf, Nat.reduceAdd, rdAt, takeV, wrAt, splice, cellsV, lenL, ne_eq, Nat.reduceLeDiff, partsV, elemsV, toPss, toPs, toP, fill, Nat.reduceMul, Nat.reduceLT, snapHsl, snapHref]
      · intro env' blk' q0 q4 q5 q24 q25 b1
        refine hq env' blk' ?_ ?_ ?_ ?_ ?_ b1
        · rw [q0]; simp only [↓Rd, Rt, Rl, Rb, gP_done, dP_done, Al.all_oks, plan, binV, binInt, eqV, isNilV, app, if_true, if_false, reduceIte, Nat.reduceEqDiff, beq_self_eq_true, reduceCtorEq, ge_iff_le, resultsV, noTup, tupV, fnOf, Nat.reduceAdd, rdAt, takeV, wrAt, splice, cellsV, lenL, ne_eq, Nat.reduceLeDiff, partsV, elemsV, toPss, toPs, toP, fill, Nat.reduceMul, Nat.reduceLT, snapHsl, snapHref]
        · rw [q4]; simp only [↓Rd, Rt, Rl, Rb, gP_done, dP_done, Al.all_oks, plan, binV, binInt, eqV, isNilV, app, if_true, if_false, reduceIte, Nat.reduceEqDiff, beq_self_eq_true, reduceCtorEq, ge_iff_le, resultsV, noTup, tupV, fnOf, Nat.reduceAdd, rdAt, takeV, wrAt, splice, cellsV, lenL, ne_eq, Nat.reduceLeDiff, partsV, elemsV, toPss, toPs, toP, fill, Nat.reduceMul, Nat.reduceLT, snapHsl, snapHref]
        · rw [q5]; simp only [↓Rd, Rt, Rl, Rb, gP_done, dP_done, Al.all_oks, plan, binV, binInt, eqV, isNilV, app, if_true, if_false, reduceIte, Nat.reduceEqDiff, beq_self_eq_true, reduceCtorEq, ge_iff_le, resultsV, noTup, tupV, fnOf, Nat.reduceAdd, rdAt, takeV, wrAt, splice, cellsV, lenL, ne_eq, Nat.reduceLeDiff, partsV, elemsV, toPss, toPs, toP, fill, Nat.reduceMul, Nat.reduceLT, snapHsl, snapHref]
        · rw [q24]; simp only [↓Rd, Rt, Rl, Rb, gP_done, dP_done, Al.all_oks, plan, binV, binInt, eqV, isNilV, app, if_true, if_false, reduceIte, Nat.reduceEqDiff, beq_self_eq_true, reduceCtorEq, ge_iff_le, resultsV, noTup, tupV, fnOf, Nat.reduceAdd, rdAt, takeV, wrAt, splice, cellsV, lenL, ne_eq, Nat.reduceLeDiff, partsV, elemsV, toPss, toPs, toP, fill, Nat.reduceMul, Nat.reduceLT, snapHsl, snapHref]
        · rw [q25]; simp only [↓Rd, Rt, Rl, Rb, gP_done, dP_done, Al.all_oks, plan, binV, binInt, eqV, isNilV, app, if_true, if_false, reduceIte, Nat.reduceEqDiff, beq_self_eq_true, reduceCtorEq, ge_iff_le, resultsV, noTup, tupV, fnOf, Nat.reduceAdd, rdAt, takeV, wrAt, splice, cellsV, lenL, ne_eq, Nat.reduceLeDiff, partsV, elemsV, toPss, toPs, toP, fill, Nat.reduceMul, Nat.reduceLT, snapHsl, snapHref]
theorem flat_p {F : Nat} {ls : List Let} (ok : dgOK F ls) : PEv S 119 [.one (.p (dgV F ls))] (rb (nWalks ls == cnt Let.isP ls + cnt Let.isC ls / 2 + 2)) := by
  have hl := ok.hl
  have hal : (axisR ls).length ≤ ls.length := axisK_len ls ls.length
  have m1 := wrap_mul2 (a := ls.length) (by omega)
  have m2 := wrap_mul2 (a := (axisR ls).length) (by omega)
  have m3 := wrap_add (a := 2 * ls.length) (b := 2 * (axisR ls).length) (by omega)
  have hroom : 2 * ls.length + 2 * (axisR ls).length ≤ 140737488355328 := by omega
  have hrep : List.replicate (2 * ls.length + 2 * (axisR ls).length) [PV.bool false] = bP (List.replicate (2 * ls.length + 2 * (axisR ls).length) false) := by simp
  have hml : (mapK ls ls.length).length = cnt Let.isC ls / 2 := by
    have := ok.cr
    unfold crossR at this
    simp only [Bool.and_eq_true, beq_iff_eq] at this
    simp [mapK, this.2]
  have hcc : cnt Let.isC ls ≤ ls.length := cnt_le _ _
  refine PEv_fn rfl c119 (Nat.le_of_ble_eq_true rfl) ?_
  simp only [↓Rd, Rt, Rl, Rb, gP_done, dP_done, Al.all_oks, plan, binV, binInt, eqV, isNilV, app, if_true, if_false, reduceIte, Nat.reduceEqDiff, beq_self_eq_true, reduceCtorEq, ge_iff_le, resultsV, noTup, tupV, fnOf, Nat.reduceAdd, rdAt, takeV, wrAt, splice, cellsV, lenL, ne_eq, Nat.reduceLeDiff, partsV, elemsV, toPss, toPs, toP, fill, Nat.reduceMul, Nat.reduceLT, snapHsl, snapHref, i119, noBlk, m1, m2, m3, hroom, hrep, planAppend, elemsOf, szOf, szOK, frz, frzL, room, planSlice, boundOf, Nat.reduceSub, Int.reduceLT, Int.reduceAdd, Int.reduceBEq, Int.reduceBNe, Int.reduceLE, List.contains_eq_mem, frzL_nil, onesC, snap_hfn, snapHfn_some, snap_href_s, snap_hsl_s]
  refine ⟨okd (by kernel_rfl), ?_⟩
  generalize hN : 2 * ls.length + 2 * (axisR ls).length = N at hroom
  refine R_for (fun k env blk => env 0 = .one (.p (dgV F ls)) ∧ env 4 = .one (.hsl 7616128064 1 1 0 N) ∧ blk 7616128064 = (1, some (.arr 4 1 (bP (walksK (nxt ls) N k).2))) ∧
      env 5 = vi (walksK (nxt ls) N k).1.length ∧ env 24 = vi N ∧ env 25 = vi k) 0 N (Nat.zero_le _) ?_ ?_
  · simp only [↓Rd, Rt, Rl, Rb, gP_done, dP_done, Al.all_oks, plan, binV, binInt, eqV, isNilV, app, if_true, if_false, reduceIte, Nat.reduceEqDiff, beq_self_eq_true, reduceCtorEq, ge_iff_le, resultsV, noTup, tupV, fnOf, Nat.reduceAdd, rdAt, takeV, wrAt, splice, cellsV, lenL, ne_eq, Nat.reduceLeDiff, partsV, elemsV, toPss, toPs, toP, fill, Nat.reduceMul, Nat.reduceLT, snapHsl, snapHref]
    exact ⟨rfl, rfl, rfl⟩
  · rintro k env blk hk ⟨h0, h4, hS, h5, h24, h25⟩
    have hlen := walksK_len (nxt ls) N k
    have holen := walksK_olen (nxt ls) N k
    by_cases hlt : k < N
    · have hlt' : ((k : Int) < (N : Int)) := by omega
      have w1 := wrap_succ (n := k) (by omega)
      have hs := walksK_succ (nxt ls) N k
      generalize hst : walksK (nxt ls) N k = st at hlen hs hS h5 holen
      obtain ⟨out, sn⟩ := st
      simp only at hlen hS h5 holen
      obtain ⟨b, hb⟩ := at_lt (ls := sn) (k := k) (by omega)
      have hbp := bP_at hb
      unfold walkStep at hs
      have hgd : sn.getD k true = b := by rw [List.getD_eq_getElem?_getD, hb]; rfl
      simp only [hgd] at hs
      cases b with
      | true =>
        have hs : walksK (nxt ls) N (k + 1) = (out, sn) := hs
        simp only [↓Rd, Rt, Rl, Rb, gP_done, dP_done, Al.all_oks, plan, binV, binInt, eqV, isNilV, app, if_true, if_false, reduceIte, Nat.reduceEqDiff, beq_self_eq_true, reduceCtorEq, ge_iff_le, resultsV, noTup, tupV, fnOf, Nat.reduceAdd, rdAt, takeV, wrAt, splice, cellsV, lenL, ne_eq, Nat.reduceLeDiff, partsV, elemsV, toPss, toPs, toP, fill, Nat.reduceMul, Nat.reduceLT, snapHsl, snapHref, i119_l3, i119_r2, h0, h4, hS, h5, h24, h25, hlt, hlt', hbp, w1, hs, planAppend, elemsOf, szOf, szOK, frz, frzL, room, planSlice, boundOf, Nat.reduceSub, Int.reduceLT, Int.reduceAdd, Int.reduceBEq, Int.reduceBNe, Int.reduceLE, List.contains_eq_mem, frzL_nil, onesC, snap_hfn, snapHfn_some, snap_href_s, snap_hsl_s]
      | false =>
        have hs : walksK (nxt ls) N (k + 1) = (out ++ [(walkF (nxt ls) (N + 1) k sn).1], (walkF (nxt ls) (N + 1) k sn).2) := by rw [hs, hlen]; rfl
        have hul := unseen_le sn
        have w2 := wrap_succ (n := out.length) (by omega)
        simp only [↓Rd, Rt, Rl, Rb, gP_done, dP_done, Al.all_oks, plan, binV, binInt, eqV, isNilV, app, if_true, if_false, reduceIte, Nat.reduceEqDiff, beq_self_eq_true, reduceCtorEq, ge_iff_le, resultsV, noTup, tupV, fnOf, Nat.reduceAdd, rdAt, takeV, wrAt, splice, cellsV, lenL, ne_eq, Nat.reduceLeDiff, partsV, elemsV, toPss, toPs, toP, fill, Nat.reduceMul, Nat.reduceLT, snapHsl, snapHref, i119_l3, h0, h4, hS, h5, h24, h25, hlt, hlt', hbp, w2, planAppend, elemsOf, szOf, szOK, frz, frzL, room, planSlice, boundOf, Nat.reduceSub, Int.reduceLT, Int.reduceAdd, Int.reduceBEq, Int.reduceBNe, Int.reduceLE, List.contains_eq_mem, frzL_nil, onesC, snap_hfn, snapHfn_some, snap_href_s, snap_hsl_s]
        refine flatIn ok (N + 1) k sn _ _ ?_ ?_ ?_ ?_ (by omega) (by omega) (by omega) ?_
        · simp only [↓Rd, Rt, Rl, Rb, gP_done, dP_done, Al.all_oks, plan, binV, binInt, eqV, isNilV, app, if_true, if_false, reduceIte, Nat.reduceEqDiff, beq_self_eq_true, reduceCtorEq, ge_iff_le, resultsV, noTup, tupV, fnOf, Nat.reduceAdd, rdAt, takeV, wrAt, splice, cellsV, lenL, ne_eq, Nat.reduceLeDiff, partsV, elemsV, toPss, toPs, toP, fill, Nat.reduceMul, Nat.reduceLT, snapHsl, snapHref, h0]
        · simp only [↓Rd, Rt, Rl, Rb, gP_done, dP_done, Al.all_oks, plan, binV, binInt, eqV, isNilV, app, if_true, if_false, reduceIte, Nat.reduceEqDiff, beq_self_eq_true, reduceCtorEq, ge_iff_le, resultsV, noTup, tupV, fnOf, Nat.reduceAdd, rdAt, takeV, wrAt, splice, cellsV, lenL, ne_eq, Nat.reduceLeDiff, partsV, elemsV, toPss, toPs, toP, fill, Nat.reduceMul, Nat.reduceLT, snapHsl, snapHref, h4, hlen]
        · simp only [↓Rd, Rt, Rl, Rb, gP_done, dP_done, Al.all_oks, plan, binV, binInt, eqV, isNilV, app, if_true, if_false, reduceIte, Nat.reduceEqDiff, beq_self_eq_true, reduceCtorEq, ge_iff_le, resultsV, noTup, tupV, fnOf, Nat.reduceAdd, rdAt, takeV, wrAt, splice, cellsV, lenL, ne_eq, Nat.reduceLeDiff, partsV, elemsV, toPss, toPs, toP, fill, Nat.reduceMul, Nat.reduceLT, snapHsl, snapHref, hS]
        · simp only [↓Rd, Rt, Rl, Rb, gP_done, dP_done, Al.all_oks, plan, binV, binInt, eqV, isNilV, app, if_true, if_false, reduceIte, Nat.reduceEqDiff, beq_self_eq_true, reduceCtorEq, ge_iff_le, resultsV, noTup, tupV, fnOf, Nat.reduceAdd, rdAt, takeV, wrAt, splice, cellsV, lenL, ne_eq, Nat.reduceLeDiff, partsV, elemsV, toPss, toPs, toP, fill, Nat.reduceMul, Nat.reduceLT, snapHsl, snapHref]
        · intro env' blk' q0 q4 q5 q24 q25 b1
          simp only [↓Rd, Rt, Rl, Rb, gP_done, dP_done, Al.all_oks, plan, binV, binInt, eqV, isNilV, app, if_true, if_false, reduceIte, Nat.reduceEqDiff, beq_self_eq_true, reduceCtorEq, ge_iff_le, resultsV, noTup, tupV, fnOf, Nat.reduceAdd, rdAt, takeV, wrAt, splice, cellsV, lenL, ne_eq, Nat.reduceLeDiff, partsV, elemsV, toPss, toPs, toP, fill, Nat.reduceMul, Nat.reduceLT, snapHsl, snapHref, h0, h4, h5, h24, h25] at q0 q4 q5 q24 q25
          simp only [↓Rd, Rt, Rl, Rb, gP_done, dP_done, Al.all_oks, plan, binV, binInt, eqV, isNilV, app, if_true, if_false, reduceIte, Nat.reduceEqDiff, beq_self_eq_true, reduceCtorEq, ge_iff_le, resultsV, noTup, tupV, fnOf, Nat.reduceAdd, rdAt, takeV, wrAt, splice, cellsV, lenL, ne_eq, Nat.reduceLeDiff, partsV, elemsV, toPss, toPs, toP, fill, Nat.reduceMul, Nat.reduceLT, snapHsl, snapHref, i119_r2, q0, q4, q5, q24, q25, b1, w1, hs, hlt, planAppend, elemsOf, szOf, szOK, frz, frzL, room, planSlice, boundOf, Nat.reduceSub, Int.reduceLT, Int.reduceAdd, Int.reduceBEq, Int.reduceBNe, Int.reduceLE, List.contains_eq_mem, frzL_nil, onesC, snap_hfn, snapHfn_some, snap_href_s, snap_hsl_s]
          simp
    · have : k = N := by omega
      subst this
      have he : nWalks ls = (walksK (nxt ls) k k).1.length := by
        unfold nWalks walksL nxt
        rw [hN]
      rw [← he] at h5
      have w3 := wrap_add (a := (axisR ls).length) (b := cnt Let.isC ls / 2) (by omega)
      have w4 : IntKind.i64.wrap ((((axisR ls).length + cnt Let.isC ls / 2 : Nat) : Int) + 2) = (((axisR ls).length + cnt Let.isC ls / 2 + 2 : Nat) : Int) := wrap_add (a := (axisR ls).length + cnt Let.isC ls / 2) (b := 2) (by omega)
      have hb : (((nWalks ls : Nat) : Int) == (((axisR ls).length + cnt Let.isC ls / 2 + 2 : Nat) : Int)) = (nWalks ls == cnt Let.isP ls + cnt Let.isC ls / 2 + 2) := by
        rw [axisR_len]
        cases h : (nWalks ls == cnt Let.isP ls + cnt Let.isC ls / 2 + 2) with
        | true => simp at h ⊢; omega
        | false => simp at h ⊢; omega
      simp only [↓Rd, Rt, Rl, Rb, gP_done, dP_done, Al.all_oks, plan, binV, binInt, eqV, isNilV, app, if_true, if_false, reduceIte, Nat.reduceEqDiff, beq_self_eq_true, reduceCtorEq, ge_iff_le, resultsV, noTup, tupV, fnOf, Nat.reduceAdd, rdAt, takeV, wrAt, splice, cellsV, lenL, ne_eq, Nat.reduceLeDiff, partsV, elemsV, toPss, toPs, toP, fill, Nat.reduceMul, Nat.reduceLT, snapHsl, snapHref, i119_l3, i119_r4, h0, h5, h24, h25, no_more, lenM, hml, w3, w4, hb, planAppend, elemsOf, szOf, szOK, frz, frzL, room, planSlice, boundOf, Nat.reduceSub, Int.reduceLT, Int.reduceAdd, Int.reduceBEq, Int.reduceBNe, Int.reduceLE, List.contains_eq_mem, frzL_nil, onesC, snap_hfn, snapHfn_some, snap_href_s, snap_hsl_s]
      exact okd (by kernel_rfl)
end Go.Abs
