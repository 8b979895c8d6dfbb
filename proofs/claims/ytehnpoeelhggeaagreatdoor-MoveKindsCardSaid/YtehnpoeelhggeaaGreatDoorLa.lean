/-
  The law MoveKinds on the abstract machine.
-/
import Derived.Test.YtehnpoeelhggeaaGreatDoorSa
import Derived.KernelRfl
import Derived.Test.YtehnpoeelhggeaaGreatDoorMd
set_option linter.unusedSimpArgs false
set_option linter.unusedVariables false
set_option linter.unusedSectionVars false
namespace Go.Abs
set_option maxRecDepth 100000
def i3 : IFn :=
⟨30, [(2, none)],
(.seq
(.region false [
⟨(some (2)), .mov (.b false), none, 0⟩])
(.seq
(.region false [
⟨(some (5)), .mov (.t 0), none, 0⟩,
⟨(some (3)), .mov (.t 5), none, 0⟩])
(.seq
(.region false [
⟨(some (6)), .mov (.t 3), none, 0⟩,
⟨(some (7)), .bin .geq (.t 6) (.i 1), none, 0⟩,
⟨(some (8)), .mov (.t 7), none, 0⟩,
⟨(some (9)), .mov (.t 3), (some (8, true)), 0⟩,
⟨(some (10)), .bin .leq (.t 9) (.i 10), (some (8, true)), 0⟩,
⟨(some (11)), .pick (.t 8) (.t 10) (.b false), none, 0⟩,
⟨(some (4)), .mov (.t 11), none, 0⟩])
(.seq
(.region false [
⟨(some (12)), .mov (.t 3), none, 0⟩,
⟨(some (13)), .call 192192064 (.k (.one (.p (.fn 10 [] [])))) [.t 12], none, 0⟩,
⟨(some (14)), .mov (.t 3), none, 0⟩,
⟨(some (15)), .call 192192192 (.k (.one (.p (.fn 11 [] [])))) [.t 14], none, 0⟩,
⟨(some (16)), .bin .eql (.t 13) (.t 15), none, 0⟩,
⟨(some (17)), .mov (.t 16), none, 0⟩,
⟨(some (18)), .mov (.t 3), (some (17, true)), 0⟩,
⟨(some (19)), .call 192192448 (.k (.one (.p (.fn 12 [] [])))) [.t 18], (some (17, true)), 0⟩,
⟨(some (20)), .mov (.t 4), (some (17, true)), 0⟩,
⟨(some (21)), .mov (.t 20), (some (17, true)), 0⟩,
⟨(some (22)), .mov (.t 3), (some (21, true)), 0⟩,
⟨(some (23)), .bin .lss (.t 22) (.i 9), (some (21, true)), 0⟩,
⟨(some (24)), .pick (.t 21) (.t 23) (.b false), (some (17, true)), 0⟩,
⟨(some (25)), .eqc .bool false (.t 19) (.t 24), (some (17, true)), 0⟩,
⟨(some (26)), .pick (.t 17) (.t 25) (.b false), none, 0⟩,
⟨(some (27)), .mov (.t 26), none, 0⟩,
⟨(some (28)), .call 192193024 (.k (.one (.p (.fn 13 [] [])))) [], (some (27, true)), 0⟩,
⟨(some (29)), .pick (.t 27) (.t 28) (.b false), none, 0⟩,
⟨(some (2)), .mov (.t 29), none, 0⟩])
(.ret)))))⟩
theorem c3 : compF Go.Proofs.Tryz.prog 3 = some i3 := by kernel_rfl
def i10 : IFn :=
⟨22, [(2, none)],
(.seq
(.region false [
⟨(some (2)), .mov (.i 0), none, 0⟩])
(.seq
(.seq
(.region false [
⟨(some (3)), .mov (.t 0), none, 0⟩])
(.block 0
(.seq
(.seq
(.region false [
⟨(some (5)), .bin .eql (.t 3) (.i 1), none, 0⟩,
⟨(some (4)), .mov (.t 5), none, 0⟩])
(.cond (.t 4)
(.skip)
(.seq
(.region false [
⟨(some (6)), .bin .eql (.t 3) (.i 4), none, 0⟩,
⟨(some (4)), .mov (.t 6), none, 0⟩])
(.cond (.t 4)
(.skip)
(.seq
(.region false [
⟨(some (7)), .bin .eql (.t 3) (.i 6), none, 0⟩,
⟨(some (4)), .mov (.t 7), none, 0⟩])
(.cond (.t 4)
(.skip)
(.region false [
⟨(some (8)), .bin .eql (.t 3) (.i 9), none, 0⟩,
⟨(some (4)), .mov (.t 8), none, 0⟩])))))))
(.cond (.t 4)
(.seq
(.region false [
⟨(some (9)), .mov (.t 0), none, 0⟩,
⟨(some (10)), .bin .add (.t 9) (.i 1), none, 0⟩,
⟨(some (2)), .mov (.t 10), none, 0⟩])
(.ret))
(.seq
(.seq
(.region false [
⟨(some (12)), .bin .eql (.t 3) (.i 2), none, 0⟩,
⟨(some (11)), .mov (.t 12), none, 0⟩])
(.cond (.t 11)
(.skip)
(.seq
(.region false [
⟨(some (13)), .bin .eql (.t 3) (.i 5), none, 0⟩,
⟨(some (11)), .mov (.t 13), none, 0⟩])
(.cond (.t 11)
(.skip)
(.seq
(.region false [
⟨(some (14)), .bin .eql (.t 3) (.i 7), none, 0⟩,
⟨(some (11)), .mov (.t 14), none, 0⟩])
(.cond (.t 11)
(.skip)
(.region false [
⟨(some (15)), .bin .eql (.t 3) (.i 10), none, 0⟩,
⟨(some (11)), .mov (.t 15), none, 0⟩])))))))
(.cond (.t 11)
(.seq
(.region false [
⟨(some (16)), .mov (.t 0), none, 0⟩,
⟨(some (17)), .bin .sub (.t 16) (.i 1), none, 0⟩,
⟨(some (2)), .mov (.t 17), none, 0⟩])
(.ret))
(.seq
(.seq
(.region false [
⟨(some (19)), .bin .eql (.t 3) (.i 3), none, 0⟩,
⟨(some (18)), .mov (.t 19), none, 0⟩])
(.cond (.t 18)
(.skip)
(.region false [
⟨(some (20)), .bin .eql (.t 3) (.i 8), none, 0⟩,
⟨(some (18)), .mov (.t 20), none, 0⟩])))
(.cond (.t 18)
(.seq
(.region false [
⟨(some (21)), .mov (.t 0), none, 0⟩,
⟨(some (2)), .mov (.t 21), none, 0⟩])
(.ret))
(.skip)))))))))
(.seq
(.region false [
⟨(some (2)), .mov (.i 0), none, 0⟩])
(.ret))))⟩
theorem c10 : compF Go.Proofs.Tryz.prog 10 = some i10 := by kernel_rfl
def i11 : IFn :=
⟨24, [(2, none)],
(.seq
(.region false [
⟨(some (2)), .mov (.i 0), none, 0⟩])
(.seq
(.seq
(.region false [
⟨(some (3)), .mov (.t 0), none, 0⟩])
(.block 0
(.seq
(.region false [
⟨(some (5)), .bin .eql (.t 3) (.i 1), none, 0⟩,
⟨(some (4)), .mov (.t 5), none, 0⟩])
(.cond (.t 4)
(.seq
(.region false [
⟨(some (2)), .mov (.i 2), none, 0⟩])
(.ret))
(.seq
(.region false [
⟨(some (7)), .bin .eql (.t 3) (.i 2), none, 0⟩,
⟨(some (6)), .mov (.t 7), none, 0⟩])
(.cond (.t 6)
(.seq
(.region false [
⟨(some (2)), .mov (.i 1), none, 0⟩])
(.ret))
(.seq
(.region false [
⟨(some (9)), .bin .eql (.t 3) (.i 4), none, 0⟩,
⟨(some (8)), .mov (.t 9), none, 0⟩])
(.cond (.t 8)
(.seq
(.region false [
⟨(some (2)), .mov (.i 5), none, 0⟩])
(.ret))
(.seq
(.region false [
⟨(some (11)), .bin .eql (.t 3) (.i 5), none, 0⟩,
⟨(some (10)), .mov (.t 11), none, 0⟩])
(.cond (.t 10)
(.seq
(.region false [
⟨(some (2)), .mov (.i 4), none, 0⟩])
(.ret))
(.seq
(.region false [
⟨(some (13)), .bin .eql (.t 3) (.i 6), none, 0⟩,
⟨(some (12)), .mov (.t 13), none, 0⟩])
(.cond (.t 12)
(.seq
(.region false [
⟨(some (2)), .mov (.i 7), none, 0⟩])
(.ret))
(.seq
(.region false [
⟨(some (15)), .bin .eql (.t 3) (.i 7), none, 0⟩,
⟨(some (14)), .mov (.t 15), none, 0⟩])
(.cond (.t 14)
(.seq
(.region false [
⟨(some (2)), .mov (.i 6), none, 0⟩])
(.ret))
(.seq
(.region false [
⟨(some (17)), .bin .eql (.t 3) (.i 9), none, 0⟩,
⟨(some (16)), .mov (.t 17), none, 0⟩])
(.cond (.t 16)
(.seq
(.region false [
⟨(some (2)), .mov (.i 10), none, 0⟩])
(.ret))
(.seq
(.region false [
⟨(some (19)), .bin .eql (.t 3) (.i 10), none, 0⟩,
⟨(some (18)), .mov (.t 19), none, 0⟩])
(.cond (.t 18)
(.seq
(.region false [
⟨(some (2)), .mov (.i 9), none, 0⟩])
(.ret))
(.seq
(.seq
(.region false [
⟨(some (21)), .bin .eql (.t 3) (.i 3), none, 0⟩,
⟨(some (20)), .mov (.t 21), none, 0⟩])
(.cond (.t 20)
(.skip)
(.region false [
⟨(some (22)), .bin .eql (.t 3) (.i 8), none, 0⟩,
⟨(some (20)), .mov (.t 22), none, 0⟩])))
(.cond (.t 20)
(.seq
(.region false [
⟨(some (23)), .mov (.t 0), none, 0⟩,
⟨(some (2)), .mov (.t 23), none, 0⟩])
(.ret))
(.skip)))))))))))))))))))))
(.seq
(.region false [
⟨(some (2)), .mov (.i 0), none, 0⟩])
(.ret))))⟩
theorem c11 : compF Go.Proofs.Tryz.prog 11 = some i11 := by kernel_rfl
def i12 : IFn :=
⟨9, [(2, none)],
(.seq
(.region false [
⟨(some (2)), .mov (.b false), none, 0⟩])
(.seq
(.region false [
⟨(some (3)), .mov (.t 0), none, 0⟩,
⟨(some (4)), .call 768064064 (.k (.one (.p (.fn 40 [] [])))) [.t 3], none, 0⟩,
⟨(some (5)), .mov (.t 4), none, 0⟩,
⟨(some (6)), .mov (.t 0), (some (5, true)), 0⟩,
⟨(some (7)), .bin .lss (.t 6) (.i 9), (some (5, true)), 0⟩,
⟨(some (8)), .pick (.t 5) (.t 7) (.b false), none, 0⟩,
⟨(some (2)), .mov (.t 8), none, 0⟩])
(.ret)))⟩
theorem c12 : compF Go.Proofs.Tryz.prog 12 = some i12 := by kernel_rfl
def i40 : IFn :=
⟨9, [(2, none)],
(.seq
(.region false [
⟨(some (2)), .mov (.b false), none, 0⟩])
(.seq
(.region false [
⟨(some (3)), .mov (.t 0), none, 0⟩,
⟨(some (4)), .bin .geq (.t 3) (.i 1), none, 0⟩,
⟨(some (5)), .mov (.t 4), none, 0⟩,
⟨(some (6)), .mov (.t 0), (some (5, true)), 0⟩,
⟨(some (7)), .bin .leq (.t 6) (.i 10), (some (5, true)), 0⟩,
⟨(some (8)), .pick (.t 5) (.t 7) (.b false), none, 0⟩,
⟨(some (2)), .mov (.t 8), none, 0⟩])
(.ret)))⟩
theorem c40 : compF Go.Proofs.Tryz.prog 40 = some i40 := by kernel_rfl
end Go.Abs
namespace Go.Abs
set_option maxRecDepth 100000
theorem S_fns {f : Nat} {fn : IFn} (h : compF Go.Proofs.Tryz.prog f = some fn) : S.fns f = some fn := h
abbrev vi (k : Int) : V := .one (.p (.int .i64 k))
abbrev ri (k : Int) : RV := .one (.p (.int .i64 k))
abbrev rb (k : Bool) : RV := .one (.p (.bool k))

theorem known40 (k : Int) : PEv S 40 [vi k] (rb (decide (1 ≤ k) && decide (k ≤ 10))) := by
  refine PEv_fn rfl (S_fns c40) (Nat.le_of_ble_eq_true rfl) ?_
  by_cases h1 : 1 ≤ k <;> by_cases h2 : k ≤ 10 <;>
  simp only [W_seq_iff, W_seq_text, WN_cons_iff, WN_nil_iff, W_ret_iff, W_skip_iff, W_cond_iff, W_block_iff, W_exit_iff, thenQ_normal, thenQ_ret, thenQ_exit, blockQ_normal, blockQ_ret, blockQ_exit, condW_bool, goWN_true, goWN_false, goPN_done, wanted_none, wanted_some, wantV_bool, wantV_undef, plan, ev_t, ev_i, ev_b, ev_k, put_some, put_none, upd_apply, ienv_zero, ienv_succ, binV, binInt, eqV, app, List.map_nil, List.append_nil, List.map_cons, Al.all_oks, true_and, and_true, true_or, if_true, if_false, Option.map_some, reduceIte, Nat.reduceEqDiff, decide_true, decide_false, beq_self_eq_true, reduceCtorEq, ge_iff_le, Bool.false_eq_true, Bool.not_true, Bool.not_false, endQ_ret1, endQ_normal1, ret1_one, ret1_agg, outV_p, norm_int, norm_bool, norm_str, norm_nils, norm_sl, norm_box, norm_fn, norm_nilp, norm_nilf, norm_nilm, norm_mp, snapVs_nil, snapVs_cons, snapCons_some, snapV_p, fnOf, bft, btf, bff, btt, Nat.reduceAdd, List.cons_append, List.nil_append, Bool.and_true, Bool.and_false, Bool.true_and, Bool.false_and, i40, h1, h2]

theorem slack_out (k : Int) (h : k < 1 ∨ 10 < k) : PEv S 12 [vi k] (rb false) := by
  have hk : PEv S 40 [vi k] (rb false) := by
    have := known40 k
    have e : (decide (1 ≤ k) && decide (k ≤ 10)) = false := by simp; omega
    rw [e] at this
    exact this
  refine PEv_fn rfl (S_fns c12) (Nat.le_of_ble_eq_true rfl) ?_
  have s40 : S.shared 40 = false := by kernel_rfl
  simp only [W_seq_iff, W_seq_text, WN_cons_iff, WN_nil_iff, W_ret_iff, W_skip_iff, W_cond_iff, W_block_iff, W_exit_iff, thenQ_normal, thenQ_ret, thenQ_exit, blockQ_normal, blockQ_ret, blockQ_exit, condW_bool, goWN_true, goWN_false, goPN_done, wanted_none, wanted_some, wantV_bool, wantV_undef, plan, ev_t, ev_i, ev_b, ev_k, put_some, put_none, upd_apply, ienv_zero, ienv_succ, binV, binInt, eqV, app, List.map_nil, List.append_nil, List.map_cons, Al.all_oks, true_and, and_true, true_or, if_true, if_false, Option.map_some, reduceIte, Nat.reduceEqDiff, decide_true, decide_false, beq_self_eq_true, reduceCtorEq, ge_iff_le, Bool.false_eq_true, Bool.not_true, Bool.not_false, endQ_ret1, endQ_normal1, ret1_one, ret1_agg, outV_p, norm_int, norm_bool, norm_str, norm_nils, norm_sl, norm_box, norm_fn, norm_nilp, norm_nilf, norm_nilm, norm_mp, snapVs_nil, snapVs_cons, snapCons_some, snapV_p, fnOf, bft, btf, bff, btt, Nat.reduceAdd, List.cons_append, List.nil_append, Bool.and_true, Bool.and_false, Bool.true_and, Bool.false_and, i12, s40]
  rw [goPN_pc_iff hk]
  simp only [W_seq_iff, W_seq_text, WN_cons_iff, WN_nil_iff, W_ret_iff, W_skip_iff, W_cond_iff, W_block_iff, W_exit_iff, thenQ_normal, thenQ_ret, thenQ_exit, blockQ_normal, blockQ_ret, blockQ_exit, condW_bool, goWN_true, goWN_false, goPN_done, wanted_none, wanted_some, wantV_bool, wantV_undef, plan, ev_t, ev_i, ev_b, ev_k, put_some, put_none, upd_apply, ienv_zero, ienv_succ, binV, binInt, eqV, app, List.map_nil, List.append_nil, List.map_cons, Al.all_oks, true_and, and_true, true_or, if_true, if_false, Option.map_some, reduceIte, Nat.reduceEqDiff, decide_true, decide_false, beq_self_eq_true, reduceCtorEq, ge_iff_le, Bool.false_eq_true, Bool.not_true, Bool.not_false, endQ_ret1, endQ_normal1, ret1_one, ret1_agg, outV_p, norm_int, norm_bool, norm_str, norm_nils, norm_sl, norm_box, norm_fn, norm_nilp, norm_nilf, norm_nilm, norm_mp, snapVs_nil, snapVs_cons, snapCons_some, snapV_p, fnOf, bft, btf, bff, btt, Nat.reduceAdd, List.cons_append, List.nil_append, Bool.and_true, Bool.and_false, Bool.true_and, Bool.false_and]

theorem opp_out (k : Int) (h : k < 1 ∨ 10 < k) : PEv S 10 [vi k] (ri 0) := by
  have ne : ∀ n : Int, 1 ≤ n → n ≤ 10 → (k == n) = false := fun n h1 h2 => by simp; omega
  refine PEv_fn rfl (S_fns c10) (Nat.le_of_ble_eq_true rfl) ?_
  simp only [W_seq_iff, W_seq_text, WN_cons_iff, WN_nil_iff, W_ret_iff, W_skip_iff, W_cond_iff, W_block_iff, W_exit_iff, thenQ_normal, thenQ_ret, thenQ_exit, blockQ_normal, blockQ_ret, blockQ_exit, condW_bool, goWN_true, goWN_false, goPN_done, wanted_none, wanted_some, wantV_bool, wantV_undef, plan, ev_t, ev_i, ev_b, ev_k, put_some, put_none, upd_apply, ienv_zero, ienv_succ, binV, binInt, eqV, app, List.map_nil, List.append_nil, List.map_cons, Al.all_oks, true_and, and_true, true_or, if_true, if_false, Option.map_some, reduceIte, Nat.reduceEqDiff, decide_true, decide_false, beq_self_eq_true, reduceCtorEq, ge_iff_le, Bool.false_eq_true, Bool.not_true, Bool.not_false, endQ_ret1, endQ_normal1, ret1_one, ret1_agg, outV_p, norm_int, norm_bool, norm_str, norm_nils, norm_sl, norm_box, norm_fn, norm_nilp, norm_nilf, norm_nilm, norm_mp, snapVs_nil, snapVs_cons, snapCons_some, snapV_p, fnOf, bft, btf, bff, btt, Nat.reduceAdd, List.cons_append, List.nil_append, Bool.and_true, Bool.and_false, Bool.true_and, Bool.false_and, i10, ne 1 (by decide) (by decide), ne 2 (by decide) (by decide), ne 3 (by decide) (by decide), ne 4 (by decide) (by decide), ne 5 (by decide) (by decide), ne 6 (by decide) (by decide), ne 7 (by decide) (by decide), ne 8 (by decide) (by decide), ne 9 (by decide) (by decide), ne 10 (by decide) (by decide)]

theorem opp2_out (k : Int) (h : k < 1 ∨ 10 < k) : PEv S 11 [vi k] (ri 0) := by
  have ne : ∀ n : Int, 1 ≤ n → n ≤ 10 → (k == n) = false := fun n h1 h2 => by simp; omega
  refine PEv_fn rfl (S_fns c11) (Nat.le_of_ble_eq_true rfl) ?_
  simp only [W_seq_iff, W_seq_text, WN_cons_iff, WN_nil_iff, W_ret_iff, W_skip_iff, W_cond_iff, W_block_iff, W_exit_iff, thenQ_normal, thenQ_ret, thenQ_exit, blockQ_normal, blockQ_ret, blockQ_exit, condW_bool, goWN_true, goWN_false, goPN_done, wanted_none, wanted_some, wantV_bool, wantV_undef, plan, ev_t, ev_i, ev_b, ev_k, put_some, put_none, upd_apply, ienv_zero, ienv_succ, binV, binInt, eqV, app, List.map_nil, List.append_nil, List.map_cons, Al.all_oks, true_and, and_true, true_or, if_true, if_false, Option.map_some, reduceIte, Nat.reduceEqDiff, decide_true, decide_false, beq_self_eq_true, reduceCtorEq, ge_iff_le, Bool.false_eq_true, Bool.not_true, Bool.not_false, endQ_ret1, endQ_normal1, ret1_one, ret1_agg, outV_p, norm_int, norm_bool, norm_str, norm_nils, norm_sl, norm_box, norm_fn, norm_nilp, norm_nilf, norm_nilm, norm_mp, snapVs_nil, snapVs_cons, snapCons_some, snapV_p, fnOf, bft, btf, bff, btt, Nat.reduceAdd, List.cons_append, List.nil_append, Bool.and_true, Bool.and_false, Bool.true_and, Bool.false_and, i11, ne 1 (by decide) (by decide), ne 2 (by decide) (by decide), ne 3 (by decide) (by decide), ne 4 (by decide) (by decide), ne 5 (by decide) (by decide), ne 6 (by decide) (by decide), ne 7 (by decide) (by decide), ne 8 (by decide) (by decide), ne 9 (by decide) (by decide), ne 10 (by decide) (by decide)]

def oppN (k : Nat) : Int := match k with
  | 1 => 2 | 2 => 1 | 4 => 5 | 5 => 4 | 6 => 7 | 7 => 6 | 9 => 10 | 10 => 9 | 3 => 3 | 8 => 8 | _ => 0
theorem opp_in (k : Int) (h : 1 ≤ k ∧ k ≤ 10) : ∃ m, PEv S 10 [vi k] (ri m) ∧ PEv S 11 [vi k] (ri m) ∧ PEv S 12 [vi k] (rb (decide (k < 9))) := by
  have : k = 1 ∨ k = 2 ∨ k = 3 ∨ k = 4 ∨ k = 5 ∨ k = 6 ∨ k = 7 ∨ k = 8 ∨ k = 9 ∨ k = 10 := by omega
  rcases this with rfl | rfl | rfl | rfl | rfl | rfl | rfl | rfl | rfl | rfl
  · exact ⟨2, PEv_eval S 9 (by kernel_rfl), PEv_eval S 9 (by kernel_rfl), PEv_eval S 9 (by kernel_rfl)⟩
  · exact ⟨1, PEv_eval S 9 (by kernel_rfl), PEv_eval S 9 (by kernel_rfl), PEv_eval S 9 (by kernel_rfl)⟩
  · exact ⟨3, PEv_eval S 9 (by kernel_rfl), PEv_eval S 9 (by kernel_rfl), PEv_eval S 9 (by kernel_rfl)⟩
  · exact ⟨5, PEv_eval S 9 (by kernel_rfl), PEv_eval S 9 (by kernel_rfl), PEv_eval S 9 (by kernel_rfl)⟩
  · exact ⟨4, PEv_eval S 9 (by kernel_rfl), PEv_eval S 9 (by kernel_rfl), PEv_eval S 9 (by kernel_rfl)⟩
  · exact ⟨7, PEv_eval S 9 (by kernel_rfl), PEv_eval S 9 (by kernel_rfl), PEv_eval S 9 (by kernel_rfl)⟩
  · exact ⟨6, PEv_eval S 9 (by kernel_rfl), PEv_eval S 9 (by kernel_rfl), PEv_eval S 9 (by kernel_rfl)⟩
  · exact ⟨8, PEv_eval S 9 (by kernel_rfl), PEv_eval S 9 (by kernel_rfl), PEv_eval S 9 (by kernel_rfl)⟩
  · exact ⟨10, PEv_eval S 9 (by kernel_rfl), PEv_eval S 9 (by kernel_rfl), PEv_eval S 9 (by kernel_rfl)⟩
  · exact ⟨9, PEv_eval S 9 (by kernel_rfl), PEv_eval S 9 (by kernel_rfl), PEv_eval S 9 (by kernel_rfl)⟩

theorem law (hk : PEv S 13 [] (rb true)) (k : Int) : PEv S 3 [vi k] (rb true) := by
  have s10 : S.shared 10 = false := by kernel_rfl
  have s11 : S.shared 11 = false := by kernel_rfl
  have s12 : S.shared 12 = false := by kernel_rfl
  have s13 : S.shared 13 = false := by kernel_rfl
  have core : ∀ (m : Int) (b : Bool), PEv S 10 [vi k] (ri m) → PEv S 11 [vi k] (ri m) → PEv S 12 [vi k] (rb b) → b = ((decide (1 ≤ k) && decide (k ≤ 10)) && decide (k < 9)) → PEv S 3 [vi k] (rb true) := by
    intro m b p10 p11 p12 hb
    refine PEv_fn rfl (S_fns c3) (Nat.le_of_ble_eq_true rfl) ?_
    by_cases h1 : 1 ≤ k <;> by_cases h2 : k ≤ 10 <;> by_cases h3 : k < 9 <;> simp only [h1, h2, h3, decide_true, decide_false, Bool.and_true, Bool.and_false, Bool.true_and, Bool.false_and] at hb <;> subst hb <;>
    simp only [W_seq_iff, W_seq_text, WN_cons_iff, WN_nil_iff, W_ret_iff, W_skip_iff, W_cond_iff, W_block_iff, W_exit_iff, thenQ_normal, thenQ_ret, thenQ_exit, blockQ_normal, blockQ_ret, blockQ_exit, condW_bool, goWN_true, goWN_false, goPN_done, wanted_none, wanted_some, wantV_bool, wantV_undef, plan, ev_t, ev_i, ev_b, ev_k, put_some, put_none, upd_apply, ienv_zero, ienv_succ, binV, binInt, eqV, app, List.map_nil, List.append_nil, List.map_cons, Al.all_oks, true_and, and_true, true_or, if_true, if_false, Option.map_some, reduceIte, Nat.reduceEqDiff, decide_true, decide_false, beq_self_eq_true, reduceCtorEq, ge_iff_le, Bool.false_eq_true, Bool.not_true, Bool.not_false, endQ_ret1, endQ_normal1, ret1_one, ret1_agg, outV_p, norm_int, norm_bool, norm_str, norm_nils, norm_sl, norm_box, norm_fn, norm_nilp, norm_nilf, norm_nilm, norm_mp, snapVs_nil, snapVs_cons, snapCons_some, snapV_p, fnOf, bft, btf, bff, btt, Nat.reduceAdd, List.cons_append, List.nil_append, Bool.and_true, Bool.and_false, Bool.true_and, Bool.false_and, i3, s10, s11, s12, s13, h1, h2, h3, goPN_pc_iff p10, goPN_pc_iff p11, goPN_pc_iff p12, goPN_pc_iff hk]
  by_cases h : 1 ≤ k ∧ k ≤ 10
  · obtain ⟨m, p1, p2, p3⟩ := opp_in k h
    refine core m _ p1 p2 p3 ?_
    simp [h.1, h.2]
  · refine core 0 false (opp_out k (by omega)) (opp2_out k (by omega)) (slack_out k (by omega)) ?_
    symm; simp; omega
end Go.Abs
