/-
  Letters and codes as values; what is said of passes, visits, the axis and the walk that turns left.
-/
import Derived.Test.YtdfaoeikkkfkoaaGreatDoorSa
import Derived.Test.YtdfaoeikkkfkoaaGreatDoorMf
set_option linter.unusedSimpArgs false
set_option linter.unusedVariables false
set_option linter.unusedSectionVars false
namespace Go.Abs
set_option maxRecDepth 100000
structure Let where
  kind : Int
  gate : Int
  rank : Int
  id : Int
  sign : Int
  over : Bool
  deriving DecidableEq
def Let.ps (l : Let) : List PV := [.int .i64 l.kind, .int .i64 l.gate, .int .i64 l.rank, .int .i64 l.id, .int .i64 l.sign, .bool l.over]
def Let.isP (l : Let) : Bool := l.kind == 1
def Let.isC (l : Let) : Bool := l.kind == 2
abbrev lsP (ls : List Let) : PV := .sl (ls.map Let.ps)
abbrev codeV (f : Int) (ls : List Let) : V := .agg [.p (.int .i64 f), .p (lsP ls)]
abbrev vi (k : Int) : V := .one (.p (.int .i64 k))
abbrev vb (b : Bool) : V := .one (.p (.bool b))
abbrev ri (k : Int) : RV := .one (.p (.int .i64 k))
abbrev rb (k : Bool) : RV := .one (.p (.bool k))
/-- how many letters -/
abbrev cnt (p : Let → Bool) (ls : List Let) : Nat := ls.countP p
theorem at_lt {α : Type} {ls : List α} {k : Nat} (h : k < ls.length) : ∃ l, ls[k]? = some l := ⟨ls[k], by simp [h]⟩
theorem cnt_hit {p : Let → Bool} {ls : List Let} {k : Nat} {l : Let} (h : ls[k]? = some l) (hp : p l = true) : cnt p (ls.take (k + 1)) = cnt p (ls.take k) + 1 := by
  unfold cnt
  obtain ⟨hk, rfl⟩ := List.getElem?_eq_some_iff.1 h
  rw [List.take_succ_eq_append_getElem hk, List.countP_append, List.countP_singleton, if_pos hp]
theorem cnt_miss {p : Let → Bool} {ls : List Let} {k : Nat} {l : Let} (h : ls[k]? = some l) (hp : p l = false) : cnt p (ls.take (k + 1)) = cnt p (ls.take k) := by
  unfold cnt
  obtain ⟨hk, rfl⟩ := List.getElem?_eq_some_iff.1 h
  rw [List.take_succ_eq_append_getElem hk, List.countP_append, List.countP_singleton, hp]
  rfl
theorem cnt_take_le (p : Let → Bool) (ls : List Let) (k : Nat) : cnt p (ls.take k) ≤ k := Nat.le_trans List.countP_le_length (by rw [List.length_take]; exact Nat.min_le_left _ _)
theorem cnt_le (p : Let → Bool) (ls : List Let) : cnt p ls ≤ ls.length := List.countP_le_length
theorem ps_of {ls : List Let} {k : Nat} {l : Let} (h : ls[k]? = some l) : (ls.map Let.ps)[k]? = some l.ps := by simp [h]
theorem wrap_add {a b : Nat} (h : a + b ≤ 9223372036854775807) : IntKind.i64.wrap ((a : Int) + (b : Int)) = ((a + b : Nat) : Int) := wrap_small (n := a + b) h
theorem wrap_mul2 {a : Nat} (h : 2 * a ≤ 9223372036854775807) : IntKind.i64.wrap (2 * (a : Int)) = ((2 * a : Nat) : Int) := wrap_small (n := 2 * a) h
theorem wrap_sub {a b : Nat} (h : b ≤ a) (h2 : a ≤ 9223372036854775807) : IntKind.i64.wrap ((a : Int) - (b : Int)) = ((a - b : Nat) : Int) := by
  have : ((a : Int) - (b : Int)) = ((a - b : Nat) : Int) := by omega
  rw [this]; exact wrap_small (by omega)
theorem wrap_pred {a : Nat} (h : 1 ≤ a) (h2 : a ≤ 9223372036854775807) : IntKind.i64.wrap ((a : Int) - 1) = ((a - 1 : Nat) : Int) := wrap_sub (b := 1) h h2
def snapHfn (x y : Option (List PV × List Nat)) (f : Nat) : Option (PV × List Nat) := match x, y with
  | some (x, r), some (y, s) => some (.fn f x y, r ++ s)
  | _, _ => none
theorem snapHfn_some {x y : List PV} {r s : List Nat} {f : Nat} : snapHfn (some (x, r)) (some (y, s)) f = some (.fn f x y, r ++ s) := rfl
theorem snap_hfn {blk : Blk} {f : Nat} {a b : List C} : snap blk snapN (.hfn f a b) = snapHfn (collect (snap blk 5) a) (collect (snap blk 5) b) f := by
  unfold snapN
  rw [snap]
  unfold snapHfn
  rfl
theorem snap_href_s {blk : Blk} {n id g off : Nat} : snap blk (n + 1) (.href id g off) = snapHref (blk id) (collect (snap blk n)) id g off := by
  rw [snap]
  rfl
theorem snap_hsl_s {blk : Blk} {n id g z off len : Nat} : snap blk (n + 1) (.hsl id g z off len) = snapHsl (blk id) (collect (collect (snap blk n))) id g off len := by
  rw [snap]
  rfl
theorem okd {b : Bool} (h : b = true) : b = true := h
theorem two_ne : ¬ ((2 : Int) = 0) := by decide
theorem tmod_nat (a b : Nat) : (a : Int).tmod b = ((a % b : Nat) : Int) := by rw [Int.tmod_eq_emod_of_nonneg (by omega)]; rfl
theorem tmod2 (a : Nat) : (a : Int).tmod 2 = ((a % 2 : Nat) : Int) := tmod_nat a 2
theorem tdiv2 (a : Nat) : (a : Int).tdiv 2 = ((a / 2 : Nat) : Int) := by rw [Int.tdiv_eq_ediv_of_nonneg (by omega)]; rfl
theorem no_more {n : Nat} : ¬ ((n : Int) < (n : Int)) := by omega
theorem ps_len (l : Let) : l.ps.length = 6 := rfl
theorem frzL_nil {blk : Blk} {all : List Nat} : frzL blk all [] = some [] := rfl

end Go.Abs
namespace Go.Abs
set_option maxRecDepth 100000
def inG (g : Int) (l : Let) : Bool := l.isP && l.gate == g
def isId (g : Int) (l : Let) : Bool := l.isC && l.id == g

theorem passes_p (f : Int) (ls : List Let) (hl : ls.length ≤ 1000000) : PEv S 28 [codeV f ls] (ri (cnt Let.isP ls)) := by
  refine PEv_fn rfl c28 (Nat.le_of_ble_eq_true rfl) ?_
  simp only [↓Rd, Rt, Rl, Rb, gP_done, dP_done, Al.all_oks, plan, binV, binInt, eqV, isNilV, app, if_true, if_false, reduceIte, Nat.reduceEqDiff, beq_self_eq_true, reduceCtorEq, ge_iff_le, resultsV, noTup, tupV, fnOf, Nat.reduceAdd, rdAt, takeV, wrAt, splice, cellsV, lenL, ne_eq, Nat.reduceLeDiff, partsV, elemsV, toPss, toPs, toP, fill, Nat.reduceMul, Nat.reduceLT, snapHsl, snapHref, i28, noBlk, planAppend, elemsOf, szOf, szOK, frz, frzL, room, planSlice, boundOf, Nat.reduceSub, Int.reduceLT, Int.reduceAdd, Int.reduceBEq, Int.reduceBNe, Int.reduceLE, List.contains_eq_mem, frzL_nil, onesC, snap_hfn, snapHfn_some, snap_href_s, snap_hsl_s]
  refine R_for (fun k env _ => env 7 = .one (.p (lsP ls)) ∧ env 8 = vi ls.length ∧ env 9 = vi k ∧ env 3 = vi (cnt Let.isP (ls.take k))) 0 ls.length (Nat.zero_le _) ?_ ?_
  · simp only [↓Rd, Rt, Rl, Rb, gP_done, dP_done, Al.all_oks, plan, binV, binInt, eqV, isNilV, app, if_true, if_false, reduceIte, Nat.reduceEqDiff, beq_self_eq_true, reduceCtorEq, ge_iff_le, resultsV, noTup, tupV, fnOf, Nat.reduceAdd, rdAt, takeV, wrAt, splice, cellsV, lenL, ne_eq, Nat.reduceLeDiff, partsV, elemsV, toPss, toPs, toP, fill, Nat.reduceMul, Nat.reduceLT, snapHsl, snapHref]
    exact ⟨rfl, rfl⟩
  · rintro k env blk hk ⟨h7, h8, h9, h3⟩
    by_cases hlt : k < ls.length
    · obtain ⟨l, hk1⟩ := at_lt hlt
      have hi := ps_of hk1
      have hlt' : ((k : Int) < (ls.length : Int)) := by omega
      have hb := cnt_take_le (Let.isP) ls k
      have w1 := wrap_succ (n := k) (by omega)
      have w2 := wrap_succ (n := cnt (Let.isP) (ls.take k)) (by omega)
      cases hp : (l.kind == 1) with
      | true =>
        have hc := cnt_hit (p := Let.isP) hk1 hp
        simp only [↓Rd, Rt, Rl, Rb, gP_done, dP_done, Al.all_oks, plan, binV, binInt, eqV, isNilV, app, if_true, if_false, reduceIte, Nat.reduceEqDiff, beq_self_eq_true, reduceCtorEq, ge_iff_le, resultsV, noTup, tupV, fnOf, Nat.reduceAdd, rdAt, takeV, wrAt, splice, cellsV, lenL, ne_eq, Nat.reduceLeDiff, partsV, elemsV, toPss, toPs, toP, fill, Nat.reduceMul, Nat.reduceLT, snapHsl, snapHref, i28_l1, h3, h7, h8, h9, hi, ps_len, Let.ps, hlt', w1, w2, hp, hc, planAppend, elemsOf, szOf, szOK, frz, frzL, room, planSlice, boundOf, Nat.reduceSub, Int.reduceLT, Int.reduceAdd, Int.reduceBEq, Int.reduceBNe, Int.reduceLE, List.contains_eq_mem, frzL_nil, onesC, snap_hfn, snapHfn_some, snap_href_s, snap_hsl_s]
        first | exact hlt | exact ⟨hlt, rfl⟩
      | false =>
        have hc := cnt_miss (p := Let.isP) hk1 hp
        simp only [↓Rd, Rt, Rl, Rb, gP_done, dP_done, Al.all_oks, plan, binV, binInt, eqV, isNilV, app, if_true, if_false, reduceIte, Nat.reduceEqDiff, beq_self_eq_true, reduceCtorEq, ge_iff_le, resultsV, noTup, tupV, fnOf, Nat.reduceAdd, rdAt, takeV, wrAt, splice, cellsV, lenL, ne_eq, Nat.reduceLeDiff, partsV, elemsV, toPss, toPs, toP, fill, Nat.reduceMul, Nat.reduceLT, snapHsl, snapHref, i28_l1, h3, h7, h8, h9, hi, ps_len, Let.ps, hlt', w1, w2, hp, hc, planAppend, elemsOf, szOf, szOK, frz, frzL, room, planSlice, boundOf, Nat.reduceSub, Int.reduceLT, Int.reduceAdd, Int.reduceBEq, Int.reduceBNe, Int.reduceLE, List.contains_eq_mem, frzL_nil, onesC, snap_hfn, snapHfn_some, snap_href_s, snap_hsl_s]
        first | exact hlt | exact ⟨hlt, rfl⟩
    · have : k = ls.length := by omega
      subst this
      rw [List.take_length] at h3
      simp only [↓Rd, Rt, Rl, Rb, gP_done, dP_done, Al.all_oks, plan, binV, binInt, eqV, isNilV, app, if_true, if_false, reduceIte, Nat.reduceEqDiff, beq_self_eq_true, reduceCtorEq, ge_iff_le, resultsV, noTup, tupV, fnOf, Nat.reduceAdd, rdAt, takeV, wrAt, splice, cellsV, lenL, ne_eq, Nat.reduceLeDiff, partsV, elemsV, toPss, toPs, toP, fill, Nat.reduceMul, Nat.reduceLT, snapHsl, snapHref, i28_l1, i28_r2, h3, h8, h9, no_more, planAppend, elemsOf, szOf, szOK, frz, frzL, room, planSlice, boundOf, Nat.reduceSub, Int.reduceLT, Int.reduceAdd, Int.reduceBEq, Int.reduceBNe, Int.reduceLE, List.contains_eq_mem, frzL_nil, onesC, snap_hfn, snapHfn_some, snap_href_s, snap_hsl_s]

theorem crosses_p (f : Int) (ls : List Let) (hl : ls.length ≤ 1000000) : PEv S 44 [codeV f ls] (ri (cnt Let.isC ls)) := by
  refine PEv_fn rfl c44 (Nat.le_of_ble_eq_true rfl) ?_
  simp only [↓Rd, Rt, Rl, Rb, gP_done, dP_done, Al.all_oks, plan, binV, binInt, eqV, isNilV, app, if_true, if_false, reduceIte, Nat.reduceEqDiff, beq_self_eq_true, reduceCtorEq, ge_iff_le, resultsV, noTup, tupV, fnOf, Nat.reduceAdd, rdAt, takeV, wrAt, splice, cellsV, lenL, ne_eq, Nat.reduceLeDiff, partsV, elemsV, toPss, toPs, toP, fill, Nat.reduceMul, Nat.reduceLT, snapHsl, snapHref, i44, noBlk, planAppend, elemsOf, szOf, szOK, frz, frzL, room, planSlice, boundOf, Nat.reduceSub, Int.reduceLT, Int.reduceAdd, Int.reduceBEq, Int.reduceBNe, Int.reduceLE, List.contains_eq_mem, frzL_nil, onesC, snap_hfn, snapHfn_some, snap_href_s, snap_hsl_s]
  refine R_for (fun k env _ => env 7 = .one (.p (lsP ls)) ∧ env 8 = vi ls.length ∧ env 9 = vi k ∧ env 3 = vi (cnt Let.isC (ls.take k))) 0 ls.length (Nat.zero_le _) ?_ ?_
  · simp only [↓Rd, Rt, Rl, Rb, gP_done, dP_done, Al.all_oks, plan, binV, binInt, eqV, isNilV, app, if_true, if_false, reduceIte, Nat.reduceEqDiff, beq_self_eq_true, reduceCtorEq, ge_iff_le, resultsV, noTup, tupV, fnOf, Nat.reduceAdd, rdAt, takeV, wrAt, splice, cellsV, lenL, ne_eq, Nat.reduceLeDiff, partsV, elemsV, toPss, toPs, toP, fill, Nat.reduceMul, Nat.reduceLT, snapHsl, snapHref]
    exact ⟨rfl, rfl⟩
  · rintro k env blk hk ⟨h7, h8, h9, h3⟩
    by_cases hlt : k < ls.length
    · obtain ⟨l, hk1⟩ := at_lt hlt
      have hi := ps_of hk1
      have hlt' : ((k : Int) < (ls.length : Int)) := by omega
      have hb := cnt_take_le (Let.isC) ls k
      have w1 := wrap_succ (n := k) (by omega)
      have w2 := wrap_succ (n := cnt (Let.isC) (ls.take k)) (by omega)
      cases hp : (l.kind == 2) with
      | true =>
        have hc := cnt_hit (p := Let.isC) hk1 hp
        simp only [↓Rd, Rt, Rl, Rb, gP_done, dP_done, Al.all_oks, plan, binV, binInt, eqV, isNilV, app, if_true, if_false, reduceIte, Nat.reduceEqDiff, beq_self_eq_true, reduceCtorEq, ge_iff_le, resultsV, noTup, tupV, fnOf, Nat.reduceAdd, rdAt, takeV, wrAt, splice, cellsV, lenL, ne_eq, Nat.reduceLeDiff, partsV, elemsV, toPss, toPs, toP, fill, Nat.reduceMul, Nat.reduceLT, snapHsl, snapHref, i44_l1, h3, h7, h8, h9, hi, ps_len, Let.ps, hlt', w1, w2, hp, hc, planAppend, elemsOf, szOf, szOK, frz, frzL, room, planSlice, boundOf, Nat.reduceSub, Int.reduceLT, Int.reduceAdd, Int.reduceBEq, Int.reduceBNe, Int.reduceLE, List.contains_eq_mem, frzL_nil, onesC, snap_hfn, snapHfn_some, snap_href_s, snap_hsl_s]
        first | exact hlt | exact ⟨hlt, rfl⟩
      | false =>
        have hc := cnt_miss (p := Let.isC) hk1 hp
        simp only [↓Rd, Rt, Rl, Rb, gP_done, dP_done, Al.all_oks, plan, binV, binInt, eqV, isNilV, app, if_true, if_false, reduceIte, Nat.reduceEqDiff, beq_self_eq_true, reduceCtorEq, ge_iff_le, resultsV, noTup, tupV, fnOf, Nat.reduceAdd, rdAt, takeV, wrAt, splice, cellsV, lenL, ne_eq, Nat.reduceLeDiff, partsV, elemsV, toPss, toPs, toP, fill, Nat.reduceMul, Nat.reduceLT, snapHsl, snapHref, i44_l1, h3, h7, h8, h9, hi, ps_len, Let.ps, hlt', w1, w2, hp, hc, planAppend, elemsOf, szOf, szOK, frz, frzL, room, planSlice, boundOf, Nat.reduceSub, Int.reduceLT, Int.reduceAdd, Int.reduceBEq, Int.reduceBNe, Int.reduceLE, List.contains_eq_mem, frzL_nil, onesC, snap_hfn, snapHfn_some, snap_href_s, snap_hsl_s]
        first | exact hlt | exact ⟨hlt, rfl⟩
    · have : k = ls.length := by omega
      subst this
      rw [List.take_length] at h3
      simp only [↓Rd, Rt, Rl, Rb, gP_done, dP_done, Al.all_oks, plan, binV, binInt, eqV, isNilV, app, if_true, if_false, reduceIte, Nat.reduceEqDiff, beq_self_eq_true, reduceCtorEq, ge_iff_le, resultsV, noTup, tupV, fnOf, Nat.reduceAdd, rdAt, takeV, wrAt, splice, cellsV, lenL, ne_eq, Nat.reduceLeDiff, partsV, elemsV, toPss, toPs, toP, fill, Nat.reduceMul, Nat.reduceLT, snapHsl, snapHref, i44_l1, i44_r2, h3, h8, h9, no_more, planAppend, elemsOf, szOf, szOK, frz, frzL, room, planSlice, boundOf, Nat.reduceSub, Int.reduceLT, Int.reduceAdd, Int.reduceBEq, Int.reduceBNe, Int.reduceLE, List.contains_eq_mem, frzL_nil, onesC, snap_hfn, snapHfn_some, snap_href_s, snap_hsl_s]

theorem crossings_p (f : Int) (ls : List Let) (hl : ls.length ≤ 1000000) : PEv S 29 [codeV f ls] (ri ((cnt Let.isC ls / 2 : Nat))) := by
  have hb := cnt_le Let.isC ls
  have e1 : IntKind.i64.wrap ((cnt Let.isC ls : Int).tdiv 2) = ((cnt Let.isC ls / 2 : Nat) : Int) := by
    have : (cnt Let.isC ls : Int).tdiv 2 = ((cnt Let.isC ls / 2 : Nat) : Int) := by rw [Int.tdiv_eq_ediv_of_nonneg (by omega)]; omega
    rw [this]; exact wrap_small (by omega)
  refine PEv_fn rfl c29 (Nat.le_of_ble_eq_true rfl) ?_
  simp only [↓Rd, Rt, Rl, Rb, gP_done, dP_done, Al.all_oks, plan, binV, binInt, eqV, isNilV, app, if_true, if_false, reduceIte, Nat.reduceEqDiff, beq_self_eq_true, reduceCtorEq, ge_iff_le, resultsV, noTup, tupV, fnOf, Nat.reduceAdd, rdAt, takeV, wrAt, splice, cellsV, lenL, ne_eq, Nat.reduceLeDiff, partsV, elemsV, toPss, toPs, toP, fill, Nat.reduceMul, Nat.reduceLT, snapHsl, snapHref, i29, noBlk, s44, gP_int (crosses_p f ls hl), e1, (by decide : ¬ (2 : Int) = 0), planAppend, elemsOf, szOf, szOK, frz, frzL, room, planSlice, boundOf, Nat.reduceSub, Int.reduceLT, Int.reduceAdd, Int.reduceBEq, Int.reduceBNe, Int.reduceLE, List.contains_eq_mem, frzL_nil, onesC, snap_hfn, snapHfn_some, snap_href_s, snap_hsl_s]

end Go.Abs
namespace Go.Abs
set_option maxRecDepth 100000
/-- does a pass at i go down -/
def dn (ls : List Let) (i : Nat) : Bool := cnt Let.isP (ls.take i) % 2 == 0
/-- the dart that leaves a letter along the string -/
def alongD (n i : Nat) (fw : Bool) : Nat := if fw then 2 * i else 2 * ((i + n - 1) % n) + 1
/-- the other visit's place -/
def otherP (ls : List Let) (i j : Nat) : Bool := j != i && (match ls[j]? with | some l => l.isC && l.id == ((ls[i]?).map Let.id).getD 0 | none => false)
def otherR (ls : List Let) (i : Nat) : Nat := ((List.range ls.length).find? (otherP ls i)).getD i
theorem find_range {p : Nat → Bool} : ∀ {n k : Nat}, k < n → (∀ j, j < k → p j = false) → p k = true → (List.range n).find? p = some k := by
  intro n k hk hn hp
  exact List.find?_range_eq_some.2 ⟨hp, by simpa using hk, fun j hj => by simp [hn j hj]⟩
theorem find_range_none {p : Nat → Bool} {n : Nat} (hn : ∀ j, j < n → p j = false) : (List.range n).find? p = none := by
  rw [List.find?_eq_none]
  intro x hx
  simp [hn x (by simpa using hx)]
end Go.Abs
namespace Go.Abs
set_option maxRecDepth 100000
abbrev letV (l : Let) : V := .agg [.p (.int .i64 l.kind), .p (.int .i64 l.gate), .p (.int .i64 l.rank), .p (.int .i64 l.id), .p (.int .i64 l.sign), .p (.bool l.over)]
def leftB (a b : Let) : Bool := decide (a.gate < b.gate) || (a.gate == b.gate && decide (a.rank < b.rank))
abbrev nP (o : List Nat) : List (List PV) := o.map fun n : Nat => [PV.int .i64 (n : Int)]
theorem nP_at {o : List Nat} {k n : Nat} (h : o[k]? = some n) : (nP o)[k]? = some [.int .i64 (n : Int)] := by simp [h]
def leftAt (ls : List Let) (i j : Nat) : Bool := match ls[j]?, ls[i]? with
  | some a, some b => leftB a b
  | _, _ => false
def insA (ls : List Let) (o : List Nat) (i : Nat) : List Nat := o.take (o.takeWhile (leftAt ls i)).length ++ i :: o.drop (o.takeWhile (leftAt ls i)).length
def axStep (ls : List Let) (o : List Nat) (i : Nat) : List Nat := match ls[i]? with
  | some l => if l.isP then insA ls o i else o
  | none => o
/-- the passes from left to right -/
def axisR (ls : List Let) : List Nat := (List.range ls.length).foldl (axStep ls) []
def axisK (ls : List Let) (k : Nat) : List Nat := (List.range k).foldl (axStep ls) []
theorem axisK_succ (ls : List Let) (k : Nat) : axisK ls (k + 1) = axStep ls (axisK ls k) k := by
  unfold axisK
  rw [List.range_succ, List.foldl_append]
  rfl
theorem axStep_mem {ls : List Let} {o : List Nat} {i : Nat} {x : Nat} (h : x ∈ axStep ls o i) : x ∈ o ∨ x = i := by
  unfold axStep at h
  split at h
  · split at h
    · unfold insA at h
      rcases List.mem_append.1 h with h | h
      · exact .inl (List.mem_of_mem_take h)
      · rcases List.mem_cons.1 h with h | h
        · exact .inr h
        · exact .inl (List.mem_of_mem_drop h)
    · exact .inl h
  · exact .inl h
theorem axisK_lt {ls : List Let} : ∀ {k x : Nat}, x ∈ axisK ls k → x < k := by
  intro k
  induction k with
  | zero => intro x h; simp [axisK] at h
  | succ k ih =>
    intro x h
    rw [axisK_succ] at h
    rcases axStep_mem h with h | h
    · have := ih h; omega
    · omega
theorem axisK_len (ls : List Let) : ∀ k, (axisK ls k).length ≤ k := by
  intro k
  induction k with
  | zero => simp [axisK]
  | succ k ih =>
    rw [axisK_succ]
    unfold axStep
    split
    · split
      · unfold insA
        simp only [List.length_append, List.length_cons, List.length_take, List.length_drop]
        omega
      · omega
    · omega

theorem insA_len (ls : List Let) (o : List Nat) (i : Nat) : (insA ls o i).length = o.length + 1 := by
  unfold insA
  simp only [List.length_append, List.length_cons, List.length_take, List.length_drop]
  have := (List.takeWhile_sublist (leftAt ls i) (l := o)).length_le
  omega
theorem outV_own {blk : Blk} {id g z len ty : Nat} {es : List (List PV)} (h : blk id = (g, some (.arr ty z es))) (hl : len = es.length) : outV blk (.one (.hsl id g z 0 len)) = some (.one (.own ty z es)) := by
  subst hl
  simp only [outV, flatV, flatV1, outCs, outC, h, Nat.le_refl, and_self, if_true, List.take_length]
  rfl
end Go.Abs
namespace Go.Abs
set_option maxRecDepth 100000
/-- what comes next if one turns left -/
def turnD (ls : List Let) (ax : List Nat) (d : Nat) : Nat :=
  if 2 * ls.length ≤ d then
    if d % 2 = 0 then alongD ls.length (ax.getD (((d - 2 * ls.length) / 2 + 1) % ax.length) 0) (!dn ls (ax.getD (((d - 2 * ls.length) / 2 + 1) % ax.length) 0))
    else alongD ls.length (ax.getD ((d - 2 * ls.length) / 2) 0) (dn ls (ax.getD ((d - 2 * ls.length) / 2) 0))
  else
    let fw := d % 2 == 0
    let v := if fw then (d / 2 + 1) % ls.length else d / 2
    match ls[v]? with
    | none => 0
    | some l => if l.kind == 2 then alongD ls.length (otherR ls v) (fw == (l.over == (l.sign == 1)))
      else if dn ls v == fw then 2 * ls.length + 2 * ax.idxOf v else 2 * ls.length + 2 * ((ax.idxOf v + ax.length - 1) % ax.length) + 1
theorem otherR_lt {ls : List Let} {i : Nat} (hi : i < ls.length) : otherR ls i < ls.length := by
  unfold otherR
  cases h : (List.range ls.length).find? (otherP ls i) with
  | none => exact hi
  | some k =>
    have := List.mem_of_find?_eq_some h
    simpa using this
theorem alongD_lt {n i : Nat} {fw : Bool} (hi : i < n) : alongD n i fw < 2 * n := by
  unfold alongD
  have := Nat.mod_lt (i + n - 1) (show 0 < n by omega)
  split <;> omega
theorem turnD_lt {ls : List Let} {ax : List Nat} {d : Nat} (hax : ∀ x ∈ ax, x < ls.length) (hp : ∀ v l, ls[v]? = some l → (l.kind == 2) = false → v ∈ ax) (hd : d < 2 * ls.length + 2 * ax.length) : turnD ls ax d < 2 * ls.length + 2 * ax.length := by
  have hget : ∀ k, k < ax.length → ax.getD k 0 < ls.length := fun k hk => by
    obtain ⟨x, hx⟩ := at_lt hk
    rw [List.getD_eq_getElem?_getD, hx]
    exact hax x (List.mem_of_getElem? hx)
  unfold turnD
  by_cases h : 2 * ls.length ≤ d
  · rw [if_pos h]
    have hm := Nat.mod_lt ((d - 2 * ls.length) / 2 + 1) (show 0 < ax.length by omega)
    by_cases h2 : d % 2 = 0
    · rw [if_pos h2]
      exact Nat.lt_of_lt_of_le (alongD_lt (hget _ hm)) (by omega)
    · rw [if_neg h2]
      exact Nat.lt_of_lt_of_le (alongD_lt (hget _ (by omega))) (by omega)
  · rw [if_neg h]
    have hn : 0 < ls.length := by omega
    have hv : (if (d % 2 == 0) = true then (d / 2 + 1) % ls.length else d / 2) < ls.length := by
      split
      · exact Nat.mod_lt _ hn
      · omega
    simp only
    generalize (if (d % 2 == 0) = true then (d / 2 + 1) % ls.length else d / 2) = v at hv
    obtain ⟨l, hl⟩ := at_lt hv
    rw [hl]
    simp only
    by_cases hk : (l.kind == 2) = true
    · rw [if_pos hk]
      exact Nat.lt_of_lt_of_le (alongD_lt (otherR_lt hv)) (by omega)
    · rw [if_neg hk]
      have hin := hp v l hl (by simpa using hk)
      have hix : ax.idxOf v < ax.length := List.idxOf_lt_length_iff.2 hin
      have hm := Nat.mod_lt (ax.idxOf v + ax.length - 1) (show 0 < ax.length by omega)
      split <;> omega
theorem idxOf_get {ax : List Nat} {v : Nat} (h : v ∈ ax) : ax[ax.idxOf v]? = some v := by
  have hl : ax.idxOf v < ax.length := List.idxOf_lt_length_iff.2 h
  rw [List.getElem?_eq_getElem hl, List.getElem_idxOf hl]

end Go.Abs
namespace Go.Abs
set_option maxRecDepth 100000
abbrev bP (o : List Bool) : List (List PV) := o.map fun b : Bool => [PV.bool b]
theorem bP_at {o : List Bool} {k : Nat} {b : Bool} (h : o[k]? = some b) : (bP o)[k]? = some [.bool b] := by simp [h]
theorem bP_set (o : List Bool) (k : Nat) (b : Bool) : (bP o).set k [.bool b] = bP (o.set k b) := by simp [List.map_set]
/-- a walk from x on, as long as what comes is new -/
def walkF (next : Nat → Nat) : Nat → Nat → List Bool → List Nat × List Bool
  | 0, _, seen => ([], seen)
  | k + 1, x, seen => if seen.getD x true then ([], seen) else (x :: (walkF next k (next x) (seen.set x true)).1, (walkF next k (next x) (seen.set x true)).2)
def unseen (s : List Bool) : Nat := s.countP (fun b => !b)
theorem unseen_set {s : List Bool} {x : Nat} (h : s[x]? = some false) : unseen (s.set x true) + 1 = unseen s := by
  induction s generalizing x with
  | nil => simp at h
  | cons b s ih =>
    cases x with
    | zero =>
      simp at h
      subst h
      simp [unseen]
    | succ x =>
      have := ih (x := x) (by simpa using h)
      unfold unseen at this ⊢
      simp only [List.set_cons_succ, List.countP_cons]
      omega
theorem walkF_len (next : Nat → Nat) : ∀ (k x : Nat) (s : List Bool), (walkF next k x s).2.length = s.length := by
  intro k
  induction k with
  | zero => intro x s; rfl
  | succ k ih =>
    intro x s
    unfold walkF
    split
    · rfl
    · simp [ih]
def walkStep (next : Nat → Nat) (st : List (List Nat) × List Bool) (d : Nat) : List (List Nat) × List Bool :=
  if st.2.getD d true then st else (st.1 ++ [(walkF next (st.2.length + 1) d st.2).1], (walkF next (st.2.length + 1) d st.2).2)
def walksK (next : Nat → Nat) (N k : Nat) : List (List Nat) × List Bool := (List.range k).foldl (walkStep next) ([], List.replicate N false)
def walksL (next : Nat → Nat) (N : Nat) : List (List Nat) := (walksK next N N).1
theorem walksK_succ (next : Nat → Nat) (N k : Nat) : walksK next N (k + 1) = walkStep next (walksK next N k) k := by
  unfold walksK
  rw [List.range_succ, List.foldl_append]
  rfl
theorem walksK_len (next : Nat → Nat) (N : Nat) : ∀ k, (walksK next N k).2.length = N := by
  intro k
  induction k with
  | zero => simp [walksK]
  | succ k ih =>
    rw [walksK_succ]
    unfold walkStep
    split
    · exact ih
    · simp [walkF_len, ih]
theorem walksK_olen (next : Nat → Nat) (N : Nat) : ∀ k, (walksK next N k).1.length ≤ k := by
  intro k
  induction k with
  | zero => simp [walksK]
  | succ k ih =>
    rw [walksK_succ]
    unfold walkStep
    split
    · omega
    · simp; exact ih
theorem unseen_le (s : List Bool) : unseen s ≤ s.length := List.countP_le_length

end Go.Abs
namespace Go.Abs
set_option maxRecDepth 100000
def sameB (l o : Let) : Bool := (o.kind == l.kind && o.gate == l.gate) && o.rank == l.rank
def pairB (l o : Let) : Bool := ((o.kind == l.kind && o.id == l.id) && o.sign == l.sign) && !(o.over == l.over)
/-- a letter of a valid code -/
def okP (f : Int) (ls : List Let) (l : Let) : Bool := !(((((((l.id != 0 || l.sign != 0) || l.over) || decide (l.gate < 0)) || decide (f < l.gate)) || decide (l.rank < 1)) || decide ((cnt (inG l.gate) ls : Int) < l.rank)) || (((cnt (sameB l) ls : Nat) : Int) != 1))
def okC (ls : List Let) (l : Let) : Bool := !((((((l.gate != 0 || l.rank != 0) || (l.sign != 1 && l.sign != -1)) || decide (l.id < 1)) || decide (((cnt Let.isC ls / 2 : Nat) : Int) < l.id)) || (((cnt (pairB l) ls : Nat) : Int) != 1)) || (((cnt (isId l.id) ls : Nat) : Int) != 2))
def okL (f : Int) (ls : List Let) (l : Let) : Bool := if l.kind == 1 then okP f ls l else if l.kind == 2 then okC ls l else false

end Go.Abs
namespace Go.Abs
set_option maxRecDepth 100000
def lettersR (f : Int) (ls : List Let) : Bool := ls.all (okL f ls)
end Go.Abs
namespace Go.Abs
set_option maxRecDepth 100000
theorem insA_mem {ls : List Let} {o : List Nat} {i x : Nat} : x ∈ insA ls o i ↔ x ∈ o ∨ x = i := by
  unfold insA
  generalize (o.takeWhile (leftAt ls i)).length = K
  constructor
  · intro h
    rcases List.mem_append.1 h with h | h
    · exact .inl (List.mem_of_mem_take h)
    · rcases List.mem_cons.1 h with h | h
      · exact .inr h
      · exact .inl (List.mem_of_mem_drop h)
  · rintro (h | rfl)
    · rw [← List.take_append_drop K o] at h
      rcases List.mem_append.1 h with h | h
      · exact List.mem_append.2 (.inl h)
      · exact List.mem_append.2 (.inr (List.mem_cons.2 (.inr h)))
    · simp
theorem axisK_mem {ls : List Let} : ∀ {k x : Nat}, k ≤ ls.length → (x ∈ axisK ls k ↔ x < k ∧ ∃ l, ls[x]? = some l ∧ l.isP = true) := by
  intro k
  induction k with
  | zero => intro x _; simp [axisK]
  | succ k ih =>
    intro x hk
    rw [axisK_succ]
    obtain ⟨l, hl⟩ := at_lt (ls := ls) (k := k) (by omega)
    have ih := ih (x := x) (by omega)
    unfold axStep
    rw [hl]
    simp only
    by_cases hp : l.isP = true
    · rw [if_pos hp, insA_mem, ih]
      constructor
      · rintro (⟨h1, h2⟩ | rfl)
        · exact ⟨by omega, h2⟩
        · exact ⟨by omega, l, hl, hp⟩
      · rintro ⟨h1, h2⟩
        rcases Nat.lt_succ_iff_lt_or_eq.1 h1 with h | rfl
        · exact .inl ⟨h, h2⟩
        · exact .inr rfl
    · rw [if_neg hp, ih]
      constructor
      · rintro ⟨h1, h2⟩; exact ⟨by omega, h2⟩
      · rintro ⟨h1, m, hm, hm2⟩
        rcases Nat.lt_succ_iff_lt_or_eq.1 h1 with h | rfl
        · exact ⟨h, m, hm, hm2⟩
        · rw [hl] at hm; cases hm; exact (hp hm2).elim
theorem axisR_mem {ls : List Let} {x : Nat} : x ∈ axisR ls ↔ ∃ l, ls[x]? = some l ∧ l.isP = true := by
  have := axisK_mem (ls := ls) (k := ls.length) (x := x) (Nat.le_refl _)
  have e : axisR ls = axisK ls ls.length := rfl
  rw [e, this]
  constructor
  · rintro ⟨_, h⟩; exact h
  · rintro ⟨l, h, h2⟩; exact ⟨(List.getElem?_eq_some_iff.1 h).1, l, h, h2⟩
theorem letters_kind {f : Int} {ls : List Let} (h : lettersR f ls = true) {v : Nat} {l : Let} (hv : ls[v]? = some l) : l.isP = true ∨ l.isC = true := by
  have := (List.all_eq_true.1 h) l (List.mem_of_getElem? hv)
  unfold okL at this
  unfold Let.isP Let.isC
  cases h1 : (l.kind == 1) with
  | true => exact .inl rfl
  | false =>
    cases h2 : (l.kind == 2) with
    | true => exact .inr rfl
    | false => rw [h1, h2] at this; simp at this
def nWalks (ls : List Let) : Nat := (walksL (turnD ls (axisR ls)) (2 * ls.length + 2 * (axisR ls).length)).length
def validR (f : Int) (ls : List Let) : Bool := (match ls[0]? with | some l => l.kind == 1 | none => true) && (cnt Let.isP ls % 2 == 0) && lettersR f ls && (nWalks ls == cnt Let.isP ls + cnt Let.isC ls / 2 + 2)
/-- the error of a code -/
def checkR (f : Int) (ls : List Let) : Int := if 400 < ls.length ∨ 200 < cnt Let.isC ls then 7 else if f < 0 ∨ 40 < f then 2 else if ls = [] then 0 else if validR f ls then 0 else 3
end Go.Abs
namespace Go.Abs
set_option maxRecDepth 100000
/-- a letter that has not the fields of its kind -/
def badL (f : Int) (l : Let) : Bool := if l.kind == 1 then (((decide (l.gate < 0) || decide (f < l.gate)) || l.id != 0) || l.sign != 0) || l.over else if l.kind == 2 then (l.gate != 0 || l.rank != 0) || (l.sign != 1 && l.sign != -1) else true
set_option maxHeartbeats 4000000 in
theorem badL_p (f : Int) (l : Let) (x1 x2 x3 x4 x5 x6 : PV) : PEv S 112 [letV l, .one (.p (.box [.box [.int .i64 f, x1, x2, x3, x4, x5, x6]]))] (rb (badL f l)) := by
  refine PEv_fn rfl c112 (Nat.le_of_ble_eq_true rfl) ?_
  cases k1 : (l.kind == 1) with
  | true =>
    cases a1 : (decide (l.gate < 0)) with
    | true =>
      have a1' : (l.gate < 0) := of_decide_eq_true a1
      have hb : badL f l = true := by simp only [badL, k1, a1]; rfl
      simp only [↓Rd, Rt, Rl, Rb, gP_done, dP_done, Al.all_oks, plan, binV, binInt, eqV, isNilV, app, if_true, if_false, reduceIte, Nat.reduceEqDiff, beq_self_eq_true, reduceCtorEq, ge_iff_le, resultsV, noTup, tupV, fnOf, Nat.reduceAdd, rdAt, takeV, wrAt, splice, cellsV, lenL, ne_eq, Nat.reduceLeDiff, partsV, elemsV, toPss, toPs, toP, fill, Nat.reduceMul, Nat.reduceLT, snapHsl, snapHref, i112, noBlk, k1, a1', hb, planAppend, elemsOf, szOf, szOK, frz, frzL, room, planSlice, boundOf, Nat.reduceSub, Int.reduceLT, Int.reduceAdd, Int.reduceBEq, Int.reduceBNe, Int.reduceLE, List.contains_eq_mem, frzL_nil, onesC, snap_hfn, snapHfn_some, snap_href_s, snap_hsl_s]
      exact okd (by kernel_rfl)
    | false =>
      cases a2 : (decide (f < l.gate)) with
      | true =>
        have a1' : ¬ (l.gate < 0) := of_decide_eq_false a1
        have a2' : (f < l.gate) := of_decide_eq_true a2
        have hb : badL f l = true := by simp only [badL, k1, a1, a2]; rfl
        simp only [↓Rd, Rt, Rl, Rb, gP_done, dP_done, Al.all_oks, plan, binV, binInt, eqV, isNilV, app, if_true, if_false, reduceIte, Nat.reduceEqDiff, beq_self_eq_true, reduceCtorEq, ge_iff_le, resultsV, noTup, tupV, fnOf, Nat.reduceAdd, rdAt, takeV, wrAt, splice, cellsV, lenL, ne_eq, Nat.reduceLeDiff, partsV, elemsV, toPss, toPs, toP, fill, Nat.reduceMul, Nat.reduceLT, snapHsl, snapHref, i112, noBlk, k1, a1', a2', hb, planAppend, elemsOf, szOf, szOK, frz, frzL, room, planSlice, boundOf, Nat.reduceSub, Int.reduceLT, Int.reduceAdd, Int.reduceBEq, Int.reduceBNe, Int.reduceLE, List.contains_eq_mem, frzL_nil, onesC, snap_hfn, snapHfn_some, snap_href_s, snap_hsl_s]
        exact okd (by kernel_rfl)
      | false =>
        cases a3 : (l.id != 0) with
        | true =>
          have a1' : ¬ (l.gate < 0) := of_decide_eq_false a1
          have a2' : ¬ (f < l.gate) := of_decide_eq_false a2
          have hb : badL f l = true := by simp only [badL, k1, a1, a2, a3]; rfl
          simp only [↓Rd, Rt, Rl, Rb, gP_done, dP_done, Al.all_oks, plan, binV, binInt, eqV, isNilV, app, if_true, if_false, reduceIte, Nat.reduceEqDiff, beq_self_eq_true, reduceCtorEq, ge_iff_le, resultsV, noTup, tupV, fnOf, Nat.reduceAdd, rdAt, takeV, wrAt, splice, cellsV, lenL, ne_eq, Nat.reduceLeDiff, partsV, elemsV, toPss, toPs, toP, fill, Nat.reduceMul, Nat.reduceLT, snapHsl, snapHref, i112, noBlk, k1, a1', a2', a3, hb, planAppend, elemsOf, szOf, szOK, frz, frzL, room, planSlice, boundOf, Nat.reduceSub, Int.reduceLT, Int.reduceAdd, Int.reduceBEq, Int.reduceBNe, Int.reduceLE, List.contains_eq_mem, frzL_nil, onesC, snap_hfn, snapHfn_some, snap_href_s, snap_hsl_s]
          exact okd (by kernel_rfl)
        | false =>
          cases a4 : (l.sign != 0) with
          | true =>
            have a1' : ¬ (l.gate < 0) := of_decide_eq_false a1
            have a2' : ¬ (f < l.gate) := of_decide_eq_false a2
            have hb : badL f l = true := by simp only [badL, k1, a1, a2, a3, a4]; rfl
            simp only [↓Rd, Rt, Rl, Rb, gP_done, dP_done, Al.all_oks, plan, binV, binInt, eqV, isNilV, app, if_true, if_false, reduceIte, Nat.reduceEqDiff, beq_self_eq_true, reduceCtorEq, ge_iff_le, resultsV, noTup, tupV, fnOf, Nat.reduceAdd, rdAt, takeV, wrAt, splice, cellsV, lenL, ne_eq, Nat.reduceLeDiff, partsV, elemsV, toPss, toPs, toP, fill, Nat.reduceMul, Nat.reduceLT, snapHsl, snapHref, i112, noBlk, k1, a1', a2', a3, a4, hb, planAppend, elemsOf, szOf, szOK, frz, frzL, room, planSlice, boundOf, Nat.reduceSub, Int.reduceLT, Int.reduceAdd, Int.reduceBEq, Int.reduceBNe, Int.reduceLE, List.contains_eq_mem, frzL_nil, onesC, snap_hfn, snapHfn_some, snap_href_s, snap_hsl_s]
            exact okd (by kernel_rfl)
          | false =>
            cases a5 : (l.over) with
            | true =>
              have a1' : ¬ (l.gate < 0) := of_decide_eq_false a1
              have a2' : ¬ (f < l.gate) := of_decide_eq_false a2
              have hb : badL f l = true := by simp only [badL, k1, a1, a2, a3, a4, a5]; rfl
              simp only [↓Rd, Rt, Rl, Rb, gP_done, dP_done, Al.all_oks, plan, binV, binInt, eqV, isNilV, app, if_true, if_false, reduceIte, Nat.reduceEqDiff, beq_self_eq_true, reduceCtorEq, ge_iff_le, resultsV, noTup, tupV, fnOf, Nat.reduceAdd, rdAt, takeV, wrAt, splice, cellsV, lenL, ne_eq, Nat.reduceLeDiff, partsV, elemsV, toPss, toPs, toP, fill, Nat.reduceMul, Nat.reduceLT, snapHsl, snapHref, i112, noBlk, k1, a1', a2', a3, a4, a5, hb, planAppend, elemsOf, szOf, szOK, frz, frzL, room, planSlice, boundOf, Nat.reduceSub, Int.reduceLT, Int.reduceAdd, Int.reduceBEq, Int.reduceBNe, Int.reduceLE, List.contains_eq_mem, frzL_nil, onesC, snap_hfn, snapHfn_some, snap_href_s, snap_hsl_s]
              exact okd (by kernel_rfl)
            | false =>
              have a1' : ¬ (l.gate < 0) := of_decide_eq_false a1
              have a2' : ¬ (f < l.gate) := of_decide_eq_false a2
              have hb : badL f l = false := by simp only [badL, k1, a1, a2, a3, a4, a5]; rfl
              simp only [↓Rd, Rt, Rl, Rb, gP_done, dP_done, Al.all_oks, plan, binV, binInt, eqV, isNilV, app, if_true, if_false, reduceIte, Nat.reduceEqDiff, beq_self_eq_true, reduceCtorEq, ge_iff_le, resultsV, noTup, tupV, fnOf, Nat.reduceAdd, rdAt, takeV, wrAt, splice, cellsV, lenL, ne_eq, Nat.reduceLeDiff, partsV, elemsV, toPss, toPs, toP, fill, Nat.reduceMul, Nat.reduceLT, snapHsl, snapHref, i112, noBlk, k1, a1', a2', a3, a4, a5, hb, planAppend, elemsOf, szOf, szOK, frz, frzL, room, planSlice, boundOf, Nat.reduceSub, Int.reduceLT, Int.reduceAdd, Int.reduceBEq, Int.reduceBNe, Int.reduceLE, List.contains_eq_mem, frzL_nil, onesC, snap_hfn, snapHfn_some, snap_href_s, snap_hsl_s]
              exact okd (by kernel_rfl)
  | false =>
    cases k2 : (l.kind == 2) with
    | true =>
      cases a1 : (l.gate != 0) with
      | true =>
        have hb : badL f l = true := by simp only [badL, k1, k2, a1]; rfl
        simp only [↓Rd, Rt, Rl, Rb, gP_done, dP_done, Al.all_oks, plan, binV, binInt, eqV, isNilV, app, if_true, if_false, reduceIte, Nat.reduceEqDiff, beq_self_eq_true, reduceCtorEq, ge_iff_le, resultsV, noTup, tupV, fnOf, Nat.reduceAdd, rdAt, takeV, wrAt, splice, cellsV, lenL, ne_eq, Nat.reduceLeDiff, partsV, elemsV, toPss, toPs, toP, fill, Nat.reduceMul, Nat.reduceLT, snapHsl, snapHref, i112, noBlk, k1, k2, a1, hb, planAppend, elemsOf, szOf, szOK, frz, frzL, room, planSlice, boundOf, Nat.reduceSub, Int.reduceLT, Int.reduceAdd, Int.reduceBEq, Int.reduceBNe, Int.reduceLE, List.contains_eq_mem, frzL_nil, onesC, snap_hfn, snapHfn_some, snap_href_s, snap_hsl_s]
      | false =>
        cases a2 : (l.rank != 0) with
        | true =>
          have hb : badL f l = true := by simp only [badL, k1, k2, a1, a2]; rfl
          simp only [↓Rd, Rt, Rl, Rb, gP_done, dP_done, Al.all_oks, plan, binV, binInt, eqV, isNilV, app, if_true, if_false, reduceIte, Nat.reduceEqDiff, beq_self_eq_true, reduceCtorEq, ge_iff_le, resultsV, noTup, tupV, fnOf, Nat.reduceAdd, rdAt, takeV, wrAt, splice, cellsV, lenL, ne_eq, Nat.reduceLeDiff, partsV, elemsV, toPss, toPs, toP, fill, Nat.reduceMul, Nat.reduceLT, snapHsl, snapHref, i112, noBlk, k1, k2, a1, a2, hb, planAppend, elemsOf, szOf, szOK, frz, frzL, room, planSlice, boundOf, Nat.reduceSub, Int.reduceLT, Int.reduceAdd, Int.reduceBEq, Int.reduceBNe, Int.reduceLE, List.contains_eq_mem, frzL_nil, onesC, snap_hfn, snapHfn_some, snap_href_s, snap_hsl_s]
        | false =>
          cases a3 : (l.sign != 1) with
          | true =>
            cases a4 : (l.sign != -1) with
            | true =>
              have hb : badL f l = true := by simp only [badL, k1, k2, a1, a2, a3, a4]; rfl
              simp only [↓Rd, Rt, Rl, Rb, gP_done, dP_done, Al.all_oks, plan, binV, binInt, eqV, isNilV, app, if_true, if_false, reduceIte, Nat.reduceEqDiff, beq_self_eq_true, reduceCtorEq, ge_iff_le, resultsV, noTup, tupV, fnOf, Nat.reduceAdd, rdAt, takeV, wrAt, splice, cellsV, lenL, ne_eq, Nat.reduceLeDiff, partsV, elemsV, toPss, toPs, toP, fill, Nat.reduceMul, Nat.reduceLT, snapHsl, snapHref, i112, noBlk, k1, k2, a1, a2, a3, a4, hb, planAppend, elemsOf, szOf, szOK, frz, frzL, room, planSlice, boundOf, Nat.reduceSub, Int.reduceLT, Int.reduceAdd, Int.reduceBEq, Int.reduceBNe, Int.reduceLE, List.contains_eq_mem, frzL_nil, onesC, snap_hfn, snapHfn_some, snap_href_s, snap_hsl_s]
            | false =>
              have hb : badL f l = false := by simp only [badL, k1, k2, a1, a2, a3, a4]; rfl
              simp only [↓Rd, Rt, Rl, Rb, gP_done, dP_done, Al.all_oks, plan, binV, binInt, eqV, isNilV, app, if_true, if_false, reduceIte, Nat.reduceEqDiff, beq_self_eq_true, reduceCtorEq, ge_iff_le, resultsV, noTup, tupV, fnOf, Nat.reduceAdd, rdAt, takeV, wrAt, splice, cellsV, lenL, ne_eq, Nat.reduceLeDiff, partsV, elemsV, toPss, toPs, toP, fill, Nat.reduceMul, Nat.reduceLT, snapHsl, snapHref, i112, noBlk, k1, k2, a1, a2, a3, a4, hb, planAppend, elemsOf, szOf, szOK, frz, frzL, room, planSlice, boundOf, Nat.reduceSub, Int.reduceLT, Int.reduceAdd, Int.reduceBEq, Int.reduceBNe, Int.reduceLE, List.contains_eq_mem, frzL_nil, onesC, snap_hfn, snapHfn_some, snap_href_s, snap_hsl_s]
          | false =>
            have hb : badL f l = false := by simp only [badL, k1, k2, a1, a2, a3]; rfl
            simp only [↓Rd, Rt, Rl, Rb, gP_done, dP_done, Al.all_oks, plan, binV, binInt, eqV, isNilV, app, if_true, if_false, reduceIte, Nat.reduceEqDiff, beq_self_eq_true, reduceCtorEq, ge_iff_le, resultsV, noTup, tupV, fnOf, Nat.reduceAdd, rdAt, takeV, wrAt, splice, cellsV, lenL, ne_eq, Nat.reduceLeDiff, partsV, elemsV, toPss, toPs, toP, fill, Nat.reduceMul, Nat.reduceLT, snapHsl, snapHref, i112, noBlk, k1, k2, a1, a2, a3, hb, planAppend, elemsOf, szOf, szOK, frz, frzL, room, planSlice, boundOf, Nat.reduceSub, Int.reduceLT, Int.reduceAdd, Int.reduceBEq, Int.reduceBNe, Int.reduceLE, List.contains_eq_mem, frzL_nil, onesC, snap_hfn, snapHfn_some, snap_href_s, snap_hsl_s]
    | false =>
      have hb : badL f l = true := by simp only [badL, k1, k2]; rfl
      simp only [↓Rd, Rt, Rl, Rb, gP_done, dP_done, Al.all_oks, plan, binV, binInt, eqV, isNilV, app, if_true, if_false, reduceIte, Nat.reduceEqDiff, beq_self_eq_true, reduceCtorEq, ge_iff_le, resultsV, noTup, tupV, fnOf, Nat.reduceAdd, rdAt, takeV, wrAt, splice, cellsV, lenL, ne_eq, Nat.reduceLeDiff, partsV, elemsV, toPss, toPs, toP, fill, Nat.reduceMul, Nat.reduceLT, snapHsl, snapHref, i112, noBlk, k1, k2, hb, planAppend, elemsOf, szOf, szOK, frz, frzL, room, planSlice, boundOf, Nat.reduceSub, Int.reduceLT, Int.reduceAdd, Int.reduceBEq, Int.reduceBNe, Int.reduceLE, List.contains_eq_mem, frzL_nil, onesC, snap_hfn, snapHfn_some, snap_href_s, snap_hsl_s]
abbrev dfn (f : Int) (x1 x2 x3 x4 x5 x6 : PV) : PV := .fn 112 [] [.box [.box [.int .i64 f, x1, x2, x3, x4, x5, x6]]]
theorem bad_index (f : Int) (ls : List Let) (x1 x2 x3 x4 x5 x6 : PV) (hl : ls.length ≤ 1000000) (hn : x1.norm = x1 ∧ x2.norm = x2 ∧ x3.norm = x3 ∧ x4.norm = x4 ∧ x5.norm = x5 ∧ x6.norm = x6) :
    ∃ k : Int, (0 ≤ k ↔ ls.any (badL f) = true) ∧ PEv S 140 [.one (.p (lsP ls)), .one (.p (dfn f x1 x2 x3 x4 x5 x6))] (ri k) := by
  have main : ∀ r : Int, (∀ (k : Nat) l, ls[k]? = some l → badL f l = true → (∀ (j : Nat) m, j < k → ls[j]? = some m → badL f m = false) → r = k) → ((∀ (j : Nat) m, ls[j]? = some m → badL f m = false) → r = -1) →
      PEv S 140 [.one (.p (lsP ls)), .one (.p (dfn f x1 x2 x3 x4 x5 x6))] (ri r) := by
    intro r hr1 hr2
    refine PEv_fn rfl c140 (Nat.le_of_ble_eq_true rfl) ?_
    simp only [↓Rd, Rt, Rl, Rb, gP_done, dP_done, Al.all_oks, plan, binV, binInt, eqV, isNilV, app, if_true, if_false, reduceIte, Nat.reduceEqDiff, beq_self_eq_true, reduceCtorEq, ge_iff_le, resultsV, noTup, tupV, fnOf, Nat.reduceAdd, rdAt, takeV, wrAt, splice, cellsV, lenL, ne_eq, Nat.reduceLeDiff, partsV, elemsV, toPss, toPs, toP, fill, Nat.reduceMul, Nat.reduceLT, snapHsl, snapHref, i140, noBlk, planAppend, elemsOf, szOf, szOK, frz, frzL, room, planSlice, boundOf, Nat.reduceSub, Int.reduceLT, Int.reduceAdd, Int.reduceBEq, Int.reduceBNe, Int.reduceLE, List.contains_eq_mem, frzL_nil, onesC, snap_hfn, snapHfn_some, snap_href_s, snap_hsl_s]
    refine R_for (fun k env blk => env 0 = .one (.p (lsP ls)) ∧ env 1 = .one (.p (dfn f x1 x2 x3 x4 x5 x6)) ∧ env 7 = vi ls.length ∧ env 8 = vi k ∧ ∀ j m, j < k → ls[j]? = some m → badL f m = false) 0 ls.length (Nat.zero_le _) ?_ ?_
    · simp only [↓Rd, Rt, Rl, Rb, gP_done, dP_done, Al.all_oks, plan, binV, binInt, eqV, isNilV, app, if_true, if_false, reduceIte, Nat.reduceEqDiff, beq_self_eq_true, reduceCtorEq, ge_iff_le, resultsV, noTup, tupV, fnOf, Nat.reduceAdd, rdAt, takeV, wrAt, splice, cellsV, lenL, ne_eq, Nat.reduceLeDiff, partsV, elemsV, toPss, toPs, toP, fill, Nat.reduceMul, Nat.reduceLT, snapHsl, snapHref]
      exact ⟨rfl, fun j m h => absurd h (Nat.not_lt_zero j)⟩
    · rintro k env blk hk ⟨h0, h1, h7, h8, hn⟩
      by_cases hlt : k < ls.length
      · obtain ⟨l, hkl⟩ := at_lt hlt
        have hi := ps_of hkl
        have hlt' : ((k : Int) < (ls.length : Int)) := by omega
        have w1 := wrap_succ (n := k) (by omega)
        have pb := badL_p f l x1 x2 x3 x4 x5 x6
        cases hb : badL f l with
        | true =>
          rw [hb] at pb
          have hr := hr1 k l hkl hb hn
          subst hr
          simp only [↓Rd, Rt, Rl, Rb, gP_done, dP_done, Al.all_oks, plan, binV, binInt, eqV, isNilV, app, if_true, if_false, reduceIte, Nat.reduceEqDiff, beq_self_eq_true, reduceCtorEq, ge_iff_le, resultsV, noTup, tupV, fnOf, Nat.reduceAdd, rdAt, takeV, wrAt, splice, cellsV, lenL, ne_eq, Nat.reduceLeDiff, partsV, elemsV, toPss, toPs, toP, fill, Nat.reduceMul, Nat.reduceLT, snapHsl, snapHref, i140_l1, h0, h1, h7, h8, hi, ps_len, Let.ps, hlt', s112, gP_bool pb, planAppend, elemsOf, szOf, szOK, frz, frzL, room, planSlice, boundOf, Nat.reduceSub, Int.reduceLT, Int.reduceAdd, Int.reduceBEq, Int.reduceBNe, Int.reduceLE, List.contains_eq_mem, frzL_nil, onesC, snap_hfn, snapHfn_some, snap_href_s, snap_hsl_s]
        | false =>
          rw [hb] at pb
          simp only [↓Rd, Rt, Rl, Rb, gP_done, dP_done, Al.all_oks, plan, binV, binInt, eqV, isNilV, app, if_true, if_false, reduceIte, Nat.reduceEqDiff, beq_self_eq_true, reduceCtorEq, ge_iff_le, resultsV, noTup, tupV, fnOf, Nat.reduceAdd, rdAt, takeV, wrAt, splice, cellsV, lenL, ne_eq, Nat.reduceLeDiff, partsV, elemsV, toPss, toPs, toP, fill, Nat.reduceMul, Nat.reduceLT, snapHsl, snapHref, i140_l1, h0, h1, h7, h8, hi, ps_len, Let.ps, hlt', w1, s112, gP_bool pb, planAppend, elemsOf, szOf, szOK, frz, frzL, room, planSlice, boundOf, Nat.reduceSub, Int.reduceLT, Int.reduceAdd, Int.reduceBEq, Int.reduceBNe, Int.reduceLE, List.contains_eq_mem, frzL_nil, onesC, snap_hfn, snapHfn_some, snap_href_s, snap_hsl_s]
          refine ⟨hlt, fun j m hj hm => ?_⟩
          rcases Nat.lt_succ_iff_lt_or_eq.1 hj with hj | rfl
          · exact hn j m hj hm
          · rw [hkl] at hm; cases hm; exact hb
      · have : k = ls.length := by omega
        subst this
        have hr := hr2 fun j m hm => hn j m (List.getElem?_eq_some_iff.1 hm).1 hm
        subst hr
        simp only [↓Rd, Rt, Rl, Rb, gP_done, dP_done, Al.all_oks, plan, binV, binInt, eqV, isNilV, app, if_true, if_false, reduceIte, Nat.reduceEqDiff, beq_self_eq_true, reduceCtorEq, ge_iff_le, resultsV, noTup, tupV, fnOf, Nat.reduceAdd, rdAt, takeV, wrAt, splice, cellsV, lenL, ne_eq, Nat.reduceLeDiff, partsV, elemsV, toPss, toPs, toP, fill, Nat.reduceMul, Nat.reduceLT, snapHsl, snapHref, i140_l1, i140_r2, h7, h8, no_more, planAppend, elemsOf, szOf, szOK, frz, frzL, room, planSlice, boundOf, Nat.reduceSub, Int.reduceLT, Int.reduceAdd, Int.reduceBEq, Int.reduceBNe, Int.reduceLE, List.contains_eq_mem, frzL_nil, onesC, snap_hfn, snapHfn_some, snap_href_s, snap_hsl_s]
  cases ha : ls.any (badL f) with
  | true =>
    have hx : ls.findIdx (badL f) < ls.length := List.findIdx_lt_length_of_exists (by simpa using ha)
    refine ⟨(ls.findIdx (badL f) : Nat), ⟨fun _ => rfl, fun _ => by omega⟩, main _ ?_ ?_⟩
    · intro k l hkl hb hn
      have hk := (List.getElem?_eq_some_iff.1 hkl).1
      have h1 : badL f ls[ls.findIdx (badL f)] = true := List.findIdx_getElem
      rcases Nat.lt_trichotomy (ls.findIdx (badL f)) k with h | h | h
      · have := hn _ _ h (List.getElem?_eq_getElem hx)
        rw [h1] at this; cases this
      · rw [h]
      · have := List.not_of_lt_findIdx h
        have e : ls[k] = l := by rw [List.getElem?_eq_getElem hk] at hkl; exact Option.some.inj hkl
        rw [e, hb] at this
        simp at this
    · intro hn
      have h1 : badL f ls[ls.findIdx (badL f)] = true := List.findIdx_getElem
      have := hn _ _ (List.getElem?_eq_getElem hx)
      rw [h1] at this; cases this
  | false =>
    refine ⟨-1, ⟨fun h => by omega, fun h => by cases h⟩, main _ ?_ (fun _ => rfl)⟩
    intro k l hkl hb _
    have := List.any_eq_false.1 ha l (List.mem_of_getElem? hkl)
    exact (this hb).elim
theorem contains_p (f : Int) (ls : List Let) (x1 x2 x3 x4 x5 x6 : PV) (hl : ls.length ≤ 1000000) (hn : x1.norm = x1 ∧ x2.norm = x2 ∧ x3.norm = x3 ∧ x4.norm = x4 ∧ x5.norm = x5 ∧ x6.norm = x6) :
    PEv S 111 [.one (.p (lsP ls)), .one (.p (dfn f x1 x2 x3 x4 x5 x6))] (rb (ls.any (badL f))) := by
  obtain ⟨k, hk, pk⟩ := bad_index f ls x1 x2 x3 x4 x5 x6 hl hn
  refine PEv_fn rfl c111 (Nat.le_of_ble_eq_true rfl) ?_
  cases ha : ls.any (badL f) with
  | true =>
    have h0 := hk.2 ha
    simp only [↓Rd, Rt, Rl, Rb, gP_done, dP_done, Al.all_oks, plan, binV, binInt, eqV, isNilV, app, if_true, if_false, reduceIte, Nat.reduceEqDiff, beq_self_eq_true, reduceCtorEq, ge_iff_le, resultsV, noTup, tupV, fnOf, Nat.reduceAdd, rdAt, takeV, wrAt, splice, cellsV, lenL, ne_eq, Nat.reduceLeDiff, partsV, elemsV, toPss, toPs, toP, fill, Nat.reduceMul, Nat.reduceLT, snapHsl, snapHref, i111, noBlk, s140, gP_int pk, h0, planAppend, elemsOf, szOf, szOK, frz, frzL, room, planSlice, boundOf, Nat.reduceSub, Int.reduceLT, Int.reduceAdd, Int.reduceBEq, Int.reduceBNe, Int.reduceLE, List.contains_eq_mem, frzL_nil, onesC, snap_hfn, snapHfn_some, snap_href_s, snap_hsl_s]
  | false =>
    have h0 : ¬ 0 ≤ k := fun h => by rw [hk.1 h] at ha; cases ha
    simp only [↓Rd, Rt, Rl, Rb, gP_done, dP_done, Al.all_oks, plan, binV, binInt, eqV, isNilV, app, if_true, if_false, reduceIte, Nat.reduceEqDiff, beq_self_eq_true, reduceCtorEq, ge_iff_le, resultsV, noTup, tupV, fnOf, Nat.reduceAdd, rdAt, takeV, wrAt, splice, cellsV, lenL, ne_eq, Nat.reduceLeDiff, partsV, elemsV, toPss, toPs, toP, fill, Nat.reduceMul, Nat.reduceLT, snapHsl, snapHref, i111, noBlk, s140, gP_int pk, h0, planAppend, elemsOf, szOf, szOK, frz, frzL, room, planSlice, boundOf, Nat.reduceSub, Int.reduceLT, Int.reduceAdd, Int.reduceBEq, Int.reduceBNe, Int.reduceLE, List.contains_eq_mem, frzL_nil, onesC, snap_hfn, snapHfn_some, snap_href_s, snap_hsl_s]
/-- a diagram's cells -/
abbrev dgP (f : Int) (ls : List Let) (x2 x3 x4 x5 x6 : PV) : PV := .box [.int .i64 f, lsP ls, x2, x3, x4, x5, x6]
theorem dletters_p (f : Int) (ls : List Let) (x2 x3 x4 x5 x6 : PV) (hl : ls.length ≤ 1000000) (hn : x2.norm = x2 ∧ x3.norm = x3 ∧ x4.norm = x4 ∧ x5.norm = x5 ∧ x6.norm = x6) :
    PEv S 86 [.one (.p (dgP f ls x2 x3 x4 x5 x6))] (rb (!ls.any (badL f))) := by
  have pc := contains_p f ls (lsP ls) x2 x3 x4 x5 x6 hl ⟨rfl, hn.1, hn.2.1, hn.2.2.1, hn.2.2.2.1, hn.2.2.2.2⟩
  refine PEv_fn rfl c86 (Nat.le_of_ble_eq_true rfl) ?_
  simp only [↓Rd, Rt, Rl, Rb, gP_done, dP_done, Al.all_oks, plan, binV, binInt, eqV, isNilV, app, if_true, if_false, reduceIte, Nat.reduceEqDiff, beq_self_eq_true, reduceCtorEq, ge_iff_le, resultsV, noTup, tupV, fnOf, Nat.reduceAdd, rdAt, takeV, wrAt, splice, cellsV, lenL, ne_eq, Nat.reduceLeDiff, partsV, elemsV, toPss, toPs, toP, fill, Nat.reduceMul, Nat.reduceLT, snapHsl, snapHref, i86, noBlk, s111, gP_bool pc, hn.1, hn.2.1, hn.2.2.1, hn.2.2.2.1, hn.2.2.2.2, planAppend, elemsOf, szOf, szOK, frz, frzL, room, planSlice, boundOf, Nat.reduceSub, Int.reduceLT, Int.reduceAdd, Int.reduceBEq, Int.reduceBNe, Int.reduceLE, List.contains_eq_mem, frzL_nil, onesC, snap_hfn, snapHfn_some, snap_href_s, snap_hsl_s]
theorem dbegins_p (f : Int) (ls : List Let) (l0 : Let) (x2 x3 x4 x5 x6 : PV) (hl : ls.length ≤ 1000000) (h0 : ls[0]? = some l0) :
    PEv S 87 [.one (.p (dgP f ls x2 x3 x4 x5 x6))] (rb (l0.kind == 1 && cnt Let.isP ls % 2 == 0)) := by
  have pp := passes_p f ls hl
  have hi0 := ps_of h0
  refine PEv_fn rfl c87 (Nat.le_of_ble_eq_true rfl) ?_
  have e2 : ((((cnt Let.isP ls) % 2 : Nat) : Int) == 0) = (cnt Let.isP ls % 2 == 0) := by
    cases h : (cnt Let.isP ls % 2 == 0) with
    | true => simp at h ⊢; omega
    | false => simp at h ⊢; omega
  cases hk : (l0.kind == 1) with
  | true => simp only [↓Rd, Rt, Rl, Rb, gP_done, dP_done, Al.all_oks, plan, binV, binInt, eqV, isNilV, app, if_true, if_false, reduceIte, Nat.reduceEqDiff, beq_self_eq_true, reduceCtorEq, ge_iff_le, resultsV, noTup, tupV, fnOf, Nat.reduceAdd, rdAt, takeV, wrAt, splice, cellsV, lenL, ne_eq, Nat.reduceLeDiff, partsV, elemsV, toPss, toPs, toP, fill, Nat.reduceMul, Nat.reduceLT, snapHsl, snapHref, i87, noBlk, hi0, ps_len, Let.ps, hk, s28, gP_int pp, tmod2, two_ne, e2, planAppend, elemsOf, szOf, szOK, frz, frzL, room, planSlice, boundOf, Nat.reduceSub, Int.reduceLT, Int.reduceAdd, Int.reduceBEq, Int.reduceBNe, Int.reduceLE, List.contains_eq_mem, frzL_nil, onesC, snap_hfn, snapHfn_some, snap_href_s, snap_hsl_s]
  | false => simp only [↓Rd, Rt, Rl, Rb, gP_done, dP_done, Al.all_oks, plan, binV, binInt, eqV, isNilV, app, if_true, if_false, reduceIte, Nat.reduceEqDiff, beq_self_eq_true, reduceCtorEq, ge_iff_le, resultsV, noTup, tupV, fnOf, Nat.reduceAdd, rdAt, takeV, wrAt, splice, cellsV, lenL, ne_eq, Nat.reduceLeDiff, partsV, elemsV, toPss, toPs, toP, fill, Nat.reduceMul, Nat.reduceLT, snapHsl, snapHref, i87, noBlk, hi0, ps_len, Let.ps, hk, planAppend, elemsOf, szOf, szOK, frz, frzL, room, planSlice, boundOf, Nat.reduceSub, Int.reduceLT, Int.reduceAdd, Int.reduceBEq, Int.reduceBNe, Int.reduceLE, List.contains_eq_mem, frzL_nil, onesC, snap_hfn, snapHfn_some, snap_href_s, snap_hsl_s]
end Go.Abs
