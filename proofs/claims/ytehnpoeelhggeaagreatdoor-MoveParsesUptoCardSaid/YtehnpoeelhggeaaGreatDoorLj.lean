/-
  The laws MovePrints and MoveParses on the abstract machine.
-/
import Derived.Test.YtehnpoeelhggeaaGreatDoorLi
set_option linter.unusedSimpArgs false
set_option linter.unusedVariables false
set_option linter.unusedSectionVars false
namespace Go.Abs
set_option maxRecDepth 100000

theorem clean17_1 (a : Int) (ha : 0 ≤ a) : PEv S 17 [mvV 1 a 0 0 false false 0] (rb true) := by
  have s51 : S.shared 51 = false := by kernel_rfl
  have s56 : S.shared 56 = false := by kernel_rfl
  have p51 : PEv S 51 [vi 1] (rs ⟨#[65]⟩) := PEv_eval S 9 (by kernel_rfl)
  have be : binStr .eql ⟨#[65]⟩ ⟨#[]⟩ = some (.bool false) := by kernel_rfl
  have q66 : PEv S 56 [vs_ ⟨#[65]⟩, .one (.p (.int .u8 66))] (rb false) := PEv_eval S 30 (by kernel_rfl)
  have q67 : PEv S 56 [vs_ ⟨#[65]⟩, .one (.p (.int .u8 67))] (rb false) := PEv_eval S 30 (by kernel_rfl)
  have q76 : PEv S 56 [vs_ ⟨#[65]⟩, .one (.p (.int .u8 76))] (rb false) := PEv_eval S 30 (by kernel_rfl)
  have q79 : PEv S 56 [vs_ ⟨#[65]⟩, .one (.p (.int .u8 79))] (rb false) := PEv_eval S 30 (by kernel_rfl)
  have q83 : PEv S 56 [vs_ ⟨#[65]⟩, .one (.p (.int .u8 83))] (rb false) := PEv_eval S 30 (by kernel_rfl)
  have na : ¬ (a < 0) := by omega
  refine PEv_fn rfl (S_fns c17) (Nat.le_of_ble_eq_true rfl) ?_
  simp only [↓R_seq, ↓R_text, ↓R_draw, ↓W_block_iff, ↓R_cond, ↓RN_op, ↓RN_guard, ↓RN_nil, ↓RD_op, ↓RD_guard, ↓RD_nil, ↓W_ret_iff, ↓W_skip_iff, ↓W_exit_iff, ↓thenW_normal, ↓thenW_exit, ↓thenW_ret, ↓blockQ_normal, ↓blockQ_ret, ↓blockQ_exit, ↓nextQ_normal, ↓nextQ_exit, ↓nextQ_ret, cW_true, cW_false, gW_true, gW_false, gP_done, dW_true, dW_false, dP_done, wantV_bool, wantV_undef, plan, ev_t, ev_i, ev_b, ev_k, put_some, put_none, upd_apply, ienv_zero, ienv_succ, binV, binInt, eqV, isNilV, app, List.map_nil, List.append_nil, List.map_cons, true_and, and_true, true_or, if_true, if_false, Option.map_some, reduceIte, Nat.reduceEqDiff, decide_true, decide_false, beq_self_eq_true, reduceCtorEq, ge_iff_le, Bool.false_eq_true, Bool.not_true, Bool.not_false, E_ret, E_normal, endV_some, resultsV, noTup, tupV, Al.all_oks, outV_p, norm_int, norm_bool, norm_str, norm_nils, norm_sl, norm_box, norm_fn, norm_nilp, norm_nilf, norm_nilm, norm_mp, snapVs_nil, snapVs_cons, snapCons_some, snapV_p, fnOf, bft, btf, bff, btt, Nat.reduceAdd, List.cons_append, List.nil_append, Bool.and_true, Bool.and_false, Bool.true_and, Bool.false_and, asN_nat, rdAt, takeV, wrAt, splice, cellsV, lenL, List.drop_zero, List.take_zero, List.length_cons, List.length_nil, List.take_succ_cons, Nat.le_refl, ne_eq, not_true_eq_false, and_self, List.drop_nil, Nat.zero_add, Nat.reduceLeDiff, List.drop_succ_cons, not_false_eq_true, List.length_map, snap_p, consR_some, collect_nil, collect_cons, snapV_agg, partsV, elemsV, toPss, toPs, toP, fill, List.take_nil, asN_lit, Nat.reduceMul, Nat.reduceLT, Nat.mul_one, Nat.zero_mul, snapV_one, snap_hsl, snapHsl, snap_href, snapHref, snap_ps, Nat.zero_le, not_false_eq_true, i17, noBlk, s51, s56, gP_str p51, gP_bool q66, dP_bool q66, gP_bool q67, dP_bool q67, gP_bool q76, dP_bool q76, gP_bool q79, dP_bool q79, gP_bool q83, dP_bool q83, na, be, Int.lt_irrefl, planAppend, elemsOf, szOf, szOK, frz, frzL, room, planSlice, boundOf, List.flatten_cons, Nat.reduceSub, Nat.sub_zero, Int.reduceLT, Int.reduceAdd, Int.reduceBEq, Int.reduceBNe, Int.reduceLE, iw1, iw2, iw3, Int.zero_add, List.getElem?_cons_zero, List.getElem?_cons_succ, List.contains_eq_mem, List.not_mem_nil, frzL_nil]

theorem clean17_2 (a : Int) (b : Int) (c : Int) (ha : 0 ≤ a) (hb : 0 ≤ b) (hc : 0 ≤ c) : PEv S 17 [mvV 2 a b c false false 0] (rb true) := by
  have s51 : S.shared 51 = false := by kernel_rfl
  have s56 : S.shared 56 = false := by kernel_rfl
  have p51 : PEv S 51 [vi 2] (rs ⟨#[65, 66, 67]⟩) := PEv_eval S 9 (by kernel_rfl)
  have be : binStr .eql ⟨#[65, 66, 67]⟩ ⟨#[]⟩ = some (.bool false) := by kernel_rfl
  have q66 : PEv S 56 [vs_ ⟨#[65, 66, 67]⟩, .one (.p (.int .u8 66))] (rb true) := PEv_eval S 30 (by kernel_rfl)
  have q67 : PEv S 56 [vs_ ⟨#[65, 66, 67]⟩, .one (.p (.int .u8 67))] (rb true) := PEv_eval S 30 (by kernel_rfl)
  have q76 : PEv S 56 [vs_ ⟨#[65, 66, 67]⟩, .one (.p (.int .u8 76))] (rb false) := PEv_eval S 30 (by kernel_rfl)
  have q79 : PEv S 56 [vs_ ⟨#[65, 66, 67]⟩, .one (.p (.int .u8 79))] (rb false) := PEv_eval S 30 (by kernel_rfl)
  have q83 : PEv S 56 [vs_ ⟨#[65, 66, 67]⟩, .one (.p (.int .u8 83))] (rb false) := PEv_eval S 30 (by kernel_rfl)
  have na : ¬ (a < 0) := by omega
  have nb : ¬ (b < 0) := by omega
  have nc : ¬ (c < 0) := by omega
  refine PEv_fn rfl (S_fns c17) (Nat.le_of_ble_eq_true rfl) ?_
  simp only [↓R_seq, ↓R_text, ↓R_draw, ↓W_block_iff, ↓R_cond, ↓RN_op, ↓RN_guard, ↓RN_nil, ↓RD_op, ↓RD_guard, ↓RD_nil, ↓W_ret_iff, ↓W_skip_iff, ↓W_exit_iff, ↓thenW_normal, ↓thenW_exit, ↓thenW_ret, ↓blockQ_normal, ↓blockQ_ret, ↓blockQ_exit, ↓nextQ_normal, ↓nextQ_exit, ↓nextQ_ret, cW_true, cW_false, gW_true, gW_false, gP_done, dW_true, dW_false, dP_done, wantV_bool, wantV_undef, plan, ev_t, ev_i, ev_b, ev_k, put_some, put_none, upd_apply, ienv_zero, ienv_succ, binV, binInt, eqV, isNilV, app, List.map_nil, List.append_nil, List.map_cons, true_and, and_true, true_or, if_true, if_false, Option.map_some, reduceIte, Nat.reduceEqDiff, decide_true, decide_false, beq_self_eq_true, reduceCtorEq, ge_iff_le, Bool.false_eq_true, Bool.not_true, Bool.not_false, E_ret, E_normal, endV_some, resultsV, noTup, tupV, Al.all_oks, outV_p, norm_int, norm_bool, norm_str, norm_nils, norm_sl, norm_box, norm_fn, norm_nilp, norm_nilf, norm_nilm, norm_mp, snapVs_nil, snapVs_cons, snapCons_some, snapV_p, fnOf, bft, btf, bff, btt, Nat.reduceAdd, List.cons_append, List.nil_append, Bool.and_true, Bool.and_false, Bool.true_and, Bool.false_and, asN_nat, rdAt, takeV, wrAt, splice, cellsV, lenL, List.drop_zero, List.take_zero, List.length_cons, List.length_nil, List.take_succ_cons, Nat.le_refl, ne_eq, not_true_eq_false, and_self, List.drop_nil, Nat.zero_add, Nat.reduceLeDiff, List.drop_succ_cons, not_false_eq_true, List.length_map, snap_p, consR_some, collect_nil, collect_cons, snapV_agg, partsV, elemsV, toPss, toPs, toP, fill, List.take_nil, asN_lit, Nat.reduceMul, Nat.reduceLT, Nat.mul_one, Nat.zero_mul, snapV_one, snap_hsl, snapHsl, snap_href, snapHref, snap_ps, Nat.zero_le, not_false_eq_true, i17, noBlk, s51, s56, gP_str p51, gP_bool q66, dP_bool q66, gP_bool q67, dP_bool q67, gP_bool q76, dP_bool q76, gP_bool q79, dP_bool q79, gP_bool q83, dP_bool q83, na, nb, nc, be, Int.lt_irrefl, planAppend, elemsOf, szOf, szOK, frz, frzL, room, planSlice, boundOf, List.flatten_cons, Nat.reduceSub, Nat.sub_zero, Int.reduceLT, Int.reduceAdd, Int.reduceBEq, Int.reduceBNe, Int.reduceLE, iw1, iw2, iw3, Int.zero_add, List.getElem?_cons_zero, List.getElem?_cons_succ, List.contains_eq_mem, List.not_mem_nil, frzL_nil]

theorem clean17_3 (a : Int) (b : Int) (ha : 0 ≤ a) (hb : 0 ≤ b) : PEv S 17 [mvV 3 a b 0 false false 0] (rb true) := by
  have s51 : S.shared 51 = false := by kernel_rfl
  have s56 : S.shared 56 = false := by kernel_rfl
  have p51 : PEv S 51 [vi 3] (rs ⟨#[65, 66]⟩) := PEv_eval S 9 (by kernel_rfl)
  have be : binStr .eql ⟨#[65, 66]⟩ ⟨#[]⟩ = some (.bool false) := by kernel_rfl
  have q66 : PEv S 56 [vs_ ⟨#[65, 66]⟩, .one (.p (.int .u8 66))] (rb true) := PEv_eval S 30 (by kernel_rfl)
  have q67 : PEv S 56 [vs_ ⟨#[65, 66]⟩, .one (.p (.int .u8 67))] (rb false) := PEv_eval S 30 (by kernel_rfl)
  have q76 : PEv S 56 [vs_ ⟨#[65, 66]⟩, .one (.p (.int .u8 76))] (rb false) := PEv_eval S 30 (by kernel_rfl)
  have q79 : PEv S 56 [vs_ ⟨#[65, 66]⟩, .one (.p (.int .u8 79))] (rb false) := PEv_eval S 30 (by kernel_rfl)
  have q83 : PEv S 56 [vs_ ⟨#[65, 66]⟩, .one (.p (.int .u8 83))] (rb false) := PEv_eval S 30 (by kernel_rfl)
  have na : ¬ (a < 0) := by omega
  have nb : ¬ (b < 0) := by omega
  refine PEv_fn rfl (S_fns c17) (Nat.le_of_ble_eq_true rfl) ?_
  simp only [↓R_seq, ↓R_text, ↓R_draw, ↓W_block_iff, ↓R_cond, ↓RN_op, ↓RN_guard, ↓RN_nil, ↓RD_op, ↓RD_guard, ↓RD_nil, ↓W_ret_iff, ↓W_skip_iff, ↓W_exit_iff, ↓thenW_normal, ↓thenW_exit, ↓thenW_ret, ↓blockQ_normal, ↓blockQ_ret, ↓blockQ_exit, ↓nextQ_normal, ↓nextQ_exit, ↓nextQ_ret, cW_true, cW_false, gW_true, gW_false, gP_done, dW_true, dW_false, dP_done, wantV_bool, wantV_undef, plan, ev_t, ev_i, ev_b, ev_k, put_some, put_none, upd_apply, ienv_zero, ienv_succ, binV, binInt, eqV, isNilV, app, List.map_nil, List.append_nil, List.map_cons, true_and, and_true, true_or, if_true, if_false, Option.map_some, reduceIte, Nat.reduceEqDiff, decide_true, decide_false, beq_self_eq_true, reduceCtorEq, ge_iff_le, Bool.false_eq_true, Bool.not_true, Bool.not_false, E_ret, E_normal, endV_some, resultsV, noTup, tupV, Al.all_oks, outV_p, norm_int, norm_bool, norm_str, norm_nils, norm_sl, norm_box, norm_fn, norm_nilp, norm_nilf, norm_nilm, norm_mp, snapVs_nil, snapVs_cons, snapCons_some, snapV_p, fnOf, bft, btf, bff, btt, Nat.reduceAdd, List.cons_append, List.nil_append, Bool.and_true, Bool.and_false, Bool.true_and, Bool.false_and, asN_nat, rdAt, takeV, wrAt, splice, cellsV, lenL, List.drop_zero, List.take_zero, List.length_cons, List.length_nil, List.take_succ_cons, Nat.le_refl, ne_eq, not_true_eq_false, and_self, List.drop_nil, Nat.zero_add, Nat.reduceLeDiff, List.drop_succ_cons, not_false_eq_true, List.length_map, snap_p, consR_some, collect_nil, collect_cons, snapV_agg, partsV, elemsV, toPss, toPs, toP, fill, List.take_nil, asN_lit, Nat.reduceMul, Nat.reduceLT, Nat.mul_one, Nat.zero_mul, snapV_one, snap_hsl, snapHsl, snap_href, snapHref, snap_ps, Nat.zero_le, not_false_eq_true, i17, noBlk, s51, s56, gP_str p51, gP_bool q66, dP_bool q66, gP_bool q67, dP_bool q67, gP_bool q76, dP_bool q76, gP_bool q79, dP_bool q79, gP_bool q83, dP_bool q83, na, nb, be, Int.lt_irrefl, planAppend, elemsOf, szOf, szOK, frz, frzL, room, planSlice, boundOf, List.flatten_cons, Nat.reduceSub, Nat.sub_zero, Int.reduceLT, Int.reduceAdd, Int.reduceBEq, Int.reduceBNe, Int.reduceLE, iw1, iw2, iw3, Int.zero_add, List.getElem?_cons_zero, List.getElem?_cons_succ, List.contains_eq_mem, List.not_mem_nil, frzL_nil]

theorem clean17_4 (a : Int) (ha : 0 ≤ a) : PEv S 17 [mvV 4 a 0 0 false false 0] (rb true) := by
  have s51 : S.shared 51 = false := by kernel_rfl
  have s56 : S.shared 56 = false := by kernel_rfl
  have p51 : PEv S 51 [vi 4] (rs ⟨#[65]⟩) := PEv_eval S 9 (by kernel_rfl)
  have be : binStr .eql ⟨#[65]⟩ ⟨#[]⟩ = some (.bool false) := by kernel_rfl
  have q66 : PEv S 56 [vs_ ⟨#[65]⟩, .one (.p (.int .u8 66))] (rb false) := PEv_eval S 30 (by kernel_rfl)
  have q67 : PEv S 56 [vs_ ⟨#[65]⟩, .one (.p (.int .u8 67))] (rb false) := PEv_eval S 30 (by kernel_rfl)
  have q76 : PEv S 56 [vs_ ⟨#[65]⟩, .one (.p (.int .u8 76))] (rb false) := PEv_eval S 30 (by kernel_rfl)
  have q79 : PEv S 56 [vs_ ⟨#[65]⟩, .one (.p (.int .u8 79))] (rb false) := PEv_eval S 30 (by kernel_rfl)
  have q83 : PEv S 56 [vs_ ⟨#[65]⟩, .one (.p (.int .u8 83))] (rb false) := PEv_eval S 30 (by kernel_rfl)
  have na : ¬ (a < 0) := by omega
  refine PEv_fn rfl (S_fns c17) (Nat.le_of_ble_eq_true rfl) ?_
  simp only [↓R_seq, ↓R_text, ↓R_draw, ↓W_block_iff, ↓R_cond, ↓RN_op, ↓RN_guard, ↓RN_nil, ↓RD_op, ↓RD_guard, ↓RD_nil, ↓W_ret_iff, ↓W_skip_iff, ↓W_exit_iff, ↓thenW_normal, ↓thenW_exit, ↓thenW_ret, ↓blockQ_normal, ↓blockQ_ret, ↓blockQ_exit, ↓nextQ_normal, ↓nextQ_exit, ↓nextQ_ret, cW_true, cW_false, gW_true, gW_false, gP_done, dW_true, dW_false, dP_done, wantV_bool, wantV_undef, plan, ev_t, ev_i, ev_b, ev_k, put_some, put_none, upd_apply, ienv_zero, ienv_succ, binV, binInt, eqV, isNilV, app, List.map_nil, List.append_nil, List.map_cons, true_and, and_true, true_or, if_true, if_false, Option.map_some, reduceIte, Nat.reduceEqDiff, decide_true, decide_false, beq_self_eq_true, reduceCtorEq, ge_iff_le, Bool.false_eq_true, Bool.not_true, Bool.not_false, E_ret, E_normal, endV_some, resultsV, noTup, tupV, Al.all_oks, outV_p, norm_int, norm_bool, norm_str, norm_nils, norm_sl, norm_box, norm_fn, norm_nilp, norm_nilf, norm_nilm, norm_mp, snapVs_nil, snapVs_cons, snapCons_some, snapV_p, fnOf, bft, btf, bff, btt, Nat.reduceAdd, List.cons_append, List.nil_append, Bool.and_true, Bool.and_false, Bool.true_and, Bool.false_and, asN_nat, rdAt, takeV, wrAt, splice, cellsV, lenL, List.drop_zero, List.take_zero, List.length_cons, List.length_nil, List.take_succ_cons, Nat.le_refl, ne_eq, not_true_eq_false, and_self, List.drop_nil, Nat.zero_add, Nat.reduceLeDiff, List.drop_succ_cons, not_false_eq_true, List.length_map, snap_p, consR_some, collect_nil, collect_cons, snapV_agg, partsV, elemsV, toPss, toPs, toP, fill, List.take_nil, asN_lit, Nat.reduceMul, Nat.reduceLT, Nat.mul_one, Nat.zero_mul, snapV_one, snap_hsl, snapHsl, snap_href, snapHref, snap_ps, Nat.zero_le, not_false_eq_true, i17, noBlk, s51, s56, gP_str p51, gP_bool q66, dP_bool q66, gP_bool q67, dP_bool q67, gP_bool q76, dP_bool q76, gP_bool q79, dP_bool q79, gP_bool q83, dP_bool q83, na, be, Int.lt_irrefl, planAppend, elemsOf, szOf, szOK, frz, frzL, room, planSlice, boundOf, List.flatten_cons, Nat.reduceSub, Nat.sub_zero, Int.reduceLT, Int.reduceAdd, Int.reduceBEq, Int.reduceBNe, Int.reduceLE, iw1, iw2, iw3, Int.zero_add, List.getElem?_cons_zero, List.getElem?_cons_succ, List.contains_eq_mem, List.not_mem_nil, frzL_nil]

theorem clean17_5 (a : Int) (o : Bool) (s : Int) (ha : 0 ≤ a) (hs : s = 1 ∨ s = -1) : PEv S 17 [mvV 5 a 0 0 false o s] (rb true) := by
  have s51 : S.shared 51 = false := by kernel_rfl
  have s56 : S.shared 56 = false := by kernel_rfl
  have p51 : PEv S 51 [vi 5] (rs ⟨#[65, 79, 83]⟩) := PEv_eval S 9 (by kernel_rfl)
  have be : binStr .eql ⟨#[65, 79, 83]⟩ ⟨#[]⟩ = some (.bool false) := by kernel_rfl
  have q66 : PEv S 56 [vs_ ⟨#[65, 79, 83]⟩, .one (.p (.int .u8 66))] (rb false) := PEv_eval S 30 (by kernel_rfl)
  have q67 : PEv S 56 [vs_ ⟨#[65, 79, 83]⟩, .one (.p (.int .u8 67))] (rb false) := PEv_eval S 30 (by kernel_rfl)
  have q76 : PEv S 56 [vs_ ⟨#[65, 79, 83]⟩, .one (.p (.int .u8 76))] (rb false) := PEv_eval S 30 (by kernel_rfl)
  have q79 : PEv S 56 [vs_ ⟨#[65, 79, 83]⟩, .one (.p (.int .u8 79))] (rb true) := PEv_eval S 30 (by kernel_rfl)
  have q83 : PEv S 56 [vs_ ⟨#[65, 79, 83]⟩, .one (.p (.int .u8 83))] (rb true) := PEv_eval S 30 (by kernel_rfl)
  have na : ¬ (a < 0) := by omega
  refine PEv_fn rfl (S_fns c17) (Nat.le_of_ble_eq_true rfl) ?_
  rcases hs with rfl | rfl <;> cases o <;> simp only [↓R_seq, ↓R_text, ↓R_draw, ↓W_block_iff, ↓R_cond, ↓RN_op, ↓RN_guard, ↓RN_nil, ↓RD_op, ↓RD_guard, ↓RD_nil, ↓W_ret_iff, ↓W_skip_iff, ↓W_exit_iff, ↓thenW_normal, ↓thenW_exit, ↓thenW_ret, ↓blockQ_normal, ↓blockQ_ret, ↓blockQ_exit, ↓nextQ_normal, ↓nextQ_exit, ↓nextQ_ret, cW_true, cW_false, gW_true, gW_false, gP_done, dW_true, dW_false, dP_done, wantV_bool, wantV_undef, plan, ev_t, ev_i, ev_b, ev_k, put_some, put_none, upd_apply, ienv_zero, ienv_succ, binV, binInt, eqV, isNilV, app, List.map_nil, List.append_nil, List.map_cons, true_and, and_true, true_or, if_true, if_false, Option.map_some, reduceIte, Nat.reduceEqDiff, decide_true, decide_false, beq_self_eq_true, reduceCtorEq, ge_iff_le, Bool.false_eq_true, Bool.not_true, Bool.not_false, E_ret, E_normal, endV_some, resultsV, noTup, tupV, Al.all_oks, outV_p, norm_int, norm_bool, norm_str, norm_nils, norm_sl, norm_box, norm_fn, norm_nilp, norm_nilf, norm_nilm, norm_mp, snapVs_nil, snapVs_cons, snapCons_some, snapV_p, fnOf, bft, btf, bff, btt, Nat.reduceAdd, List.cons_append, List.nil_append, Bool.and_true, Bool.and_false, Bool.true_and, Bool.false_and, asN_nat, rdAt, takeV, wrAt, splice, cellsV, lenL, List.drop_zero, List.take_zero, List.length_cons, List.length_nil, List.take_succ_cons, Nat.le_refl, ne_eq, not_true_eq_false, and_self, List.drop_nil, Nat.zero_add, Nat.reduceLeDiff, List.drop_succ_cons, not_false_eq_true, List.length_map, snap_p, consR_some, collect_nil, collect_cons, snapV_agg, partsV, elemsV, toPss, toPs, toP, fill, List.take_nil, asN_lit, Nat.reduceMul, Nat.reduceLT, Nat.mul_one, Nat.zero_mul, snapV_one, snap_hsl, snapHsl, snap_href, snapHref, snap_ps, Nat.zero_le, not_false_eq_true, i17, noBlk, s51, s56, gP_str p51, gP_bool q66, dP_bool q66, gP_bool q67, dP_bool q67, gP_bool q76, dP_bool q76, gP_bool q79, dP_bool q79, gP_bool q83, dP_bool q83, na, be, Int.lt_irrefl, planAppend, elemsOf, szOf, szOK, frz, frzL, room, planSlice, boundOf, List.flatten_cons, Nat.reduceSub, Nat.sub_zero, Int.reduceLT, Int.reduceAdd, Int.reduceBEq, Int.reduceBNe, Int.reduceLE, iw1, iw2, iw3, Int.zero_add, List.getElem?_cons_zero, List.getElem?_cons_succ, List.contains_eq_mem, List.not_mem_nil, frzL_nil]

theorem clean17_6 (a : Int) (b : Int) (ha : 0 ≤ a) (hb : 0 ≤ b) : PEv S 17 [mvV 6 a b 0 false false 0] (rb true) := by
  have s51 : S.shared 51 = false := by kernel_rfl
  have s56 : S.shared 56 = false := by kernel_rfl
  have p51 : PEv S 51 [vi 6] (rs ⟨#[65, 66]⟩) := PEv_eval S 9 (by kernel_rfl)
  have be : binStr .eql ⟨#[65, 66]⟩ ⟨#[]⟩ = some (.bool false) := by kernel_rfl
  have q66 : PEv S 56 [vs_ ⟨#[65, 66]⟩, .one (.p (.int .u8 66))] (rb true) := PEv_eval S 30 (by kernel_rfl)
  have q67 : PEv S 56 [vs_ ⟨#[65, 66]⟩, .one (.p (.int .u8 67))] (rb false) := PEv_eval S 30 (by kernel_rfl)
  have q76 : PEv S 56 [vs_ ⟨#[65, 66]⟩, .one (.p (.int .u8 76))] (rb false) := PEv_eval S 30 (by kernel_rfl)
  have q79 : PEv S 56 [vs_ ⟨#[65, 66]⟩, .one (.p (.int .u8 79))] (rb false) := PEv_eval S 30 (by kernel_rfl)
  have q83 : PEv S 56 [vs_ ⟨#[65, 66]⟩, .one (.p (.int .u8 83))] (rb false) := PEv_eval S 30 (by kernel_rfl)
  have na : ¬ (a < 0) := by omega
  have nb : ¬ (b < 0) := by omega
  refine PEv_fn rfl (S_fns c17) (Nat.le_of_ble_eq_true rfl) ?_
  simp only [↓R_seq, ↓R_text, ↓R_draw, ↓W_block_iff, ↓R_cond, ↓RN_op, ↓RN_guard, ↓RN_nil, ↓RD_op, ↓RD_guard, ↓RD_nil, ↓W_ret_iff, ↓W_skip_iff, ↓W_exit_iff, ↓thenW_normal, ↓thenW_exit, ↓thenW_ret, ↓blockQ_normal, ↓blockQ_ret, ↓blockQ_exit, ↓nextQ_normal, ↓nextQ_exit, ↓nextQ_ret, cW_true, cW_false, gW_true, gW_false, gP_done, dW_true, dW_false, dP_done, wantV_bool, wantV_undef, plan, ev_t, ev_i, ev_b, ev_k, put_some, put_none, upd_apply, ienv_zero, ienv_succ, binV, binInt, eqV, isNilV, app, List.map_nil, List.append_nil, List.map_cons, true_and, and_true, true_or, if_true, if_false, Option.map_some, reduceIte, Nat.reduceEqDiff, decide_true, decide_false, beq_self_eq_true, reduceCtorEq, ge_iff_le, Bool.false_eq_true, Bool.not_true, Bool.not_false, E_ret, E_normal, endV_some, resultsV, noTup, tupV, Al.all_oks, outV_p, norm_int, norm_bool, norm_str, norm_nils, norm_sl, norm_box, norm_fn, norm_nilp, norm_nilf, norm_nilm, norm_mp, snapVs_nil, snapVs_cons, snapCons_some, snapV_p, fnOf, bft, btf, bff, btt, Nat.reduceAdd, List.cons_append, List.nil_append, Bool.and_true, Bool.and_false, Bool.true_and, Bool.false_and, asN_nat, rdAt, takeV, wrAt, splice, cellsV, lenL, List.drop_zero, List.take_zero, List.length_cons, List.length_nil, List.take_succ_cons, Nat.le_refl, ne_eq, not_true_eq_false, and_self, List.drop_nil, Nat.zero_add, Nat.reduceLeDiff, List.drop_succ_cons, not_false_eq_true, List.length_map, snap_p, consR_some, collect_nil, collect_cons, snapV_agg, partsV, elemsV, toPss, toPs, toP, fill, List.take_nil, asN_lit, Nat.reduceMul, Nat.reduceLT, Nat.mul_one, Nat.zero_mul, snapV_one, snap_hsl, snapHsl, snap_href, snapHref, snap_ps, Nat.zero_le, not_false_eq_true, i17, noBlk, s51, s56, gP_str p51, gP_bool q66, dP_bool q66, gP_bool q67, dP_bool q67, gP_bool q76, dP_bool q76, gP_bool q79, dP_bool q79, gP_bool q83, dP_bool q83, na, nb, be, Int.lt_irrefl, planAppend, elemsOf, szOf, szOK, frz, frzL, room, planSlice, boundOf, List.flatten_cons, Nat.reduceSub, Nat.sub_zero, Int.reduceLT, Int.reduceAdd, Int.reduceBEq, Int.reduceBNe, Int.reduceLE, iw1, iw2, iw3, Int.zero_add, List.getElem?_cons_zero, List.getElem?_cons_succ, List.contains_eq_mem, List.not_mem_nil, frzL_nil]

theorem clean17_7 (a : Int) (b : Int) (l : Bool) (o : Bool) (ha : 0 ≤ a) (hb : 0 ≤ b) : PEv S 17 [mvV 7 a b 0 l o 0] (rb true) := by
  have s51 : S.shared 51 = false := by kernel_rfl
  have s56 : S.shared 56 = false := by kernel_rfl
  have p51 : PEv S 51 [vi 7] (rs ⟨#[65, 66, 76, 79]⟩) := PEv_eval S 9 (by kernel_rfl)
  have be : binStr .eql ⟨#[65, 66, 76, 79]⟩ ⟨#[]⟩ = some (.bool false) := by kernel_rfl
  have q66 : PEv S 56 [vs_ ⟨#[65, 66, 76, 79]⟩, .one (.p (.int .u8 66))] (rb true) := PEv_eval S 30 (by kernel_rfl)
  have q67 : PEv S 56 [vs_ ⟨#[65, 66, 76, 79]⟩, .one (.p (.int .u8 67))] (rb false) := PEv_eval S 30 (by kernel_rfl)
  have q76 : PEv S 56 [vs_ ⟨#[65, 66, 76, 79]⟩, .one (.p (.int .u8 76))] (rb true) := PEv_eval S 30 (by kernel_rfl)
  have q79 : PEv S 56 [vs_ ⟨#[65, 66, 76, 79]⟩, .one (.p (.int .u8 79))] (rb true) := PEv_eval S 30 (by kernel_rfl)
  have q83 : PEv S 56 [vs_ ⟨#[65, 66, 76, 79]⟩, .one (.p (.int .u8 83))] (rb false) := PEv_eval S 30 (by kernel_rfl)
  have na : ¬ (a < 0) := by omega
  have nb : ¬ (b < 0) := by omega
  refine PEv_fn rfl (S_fns c17) (Nat.le_of_ble_eq_true rfl) ?_
  cases o <;> cases l <;> simp only [↓R_seq, ↓R_text, ↓R_draw, ↓W_block_iff, ↓R_cond, ↓RN_op, ↓RN_guard, ↓RN_nil, ↓RD_op, ↓RD_guard, ↓RD_nil, ↓W_ret_iff, ↓W_skip_iff, ↓W_exit_iff, ↓thenW_normal, ↓thenW_exit, ↓thenW_ret, ↓blockQ_normal, ↓blockQ_ret, ↓blockQ_exit, ↓nextQ_normal, ↓nextQ_exit, ↓nextQ_ret, cW_true, cW_false, gW_true, gW_false, gP_done, dW_true, dW_false, dP_done, wantV_bool, wantV_undef, plan, ev_t, ev_i, ev_b, ev_k, put_some, put_none, upd_apply, ienv_zero, ienv_succ, binV, binInt, eqV, isNilV, app, List.map_nil, List.append_nil, List.map_cons, true_and, and_true, true_or, if_true, if_false, Option.map_some, reduceIte, Nat.reduceEqDiff, decide_true, decide_false, beq_self_eq_true, reduceCtorEq, ge_iff_le, Bool.false_eq_true, Bool.not_true, Bool.not_false, E_ret, E_normal, endV_some, resultsV, noTup, tupV, Al.all_oks, outV_p, norm_int, norm_bool, norm_str, norm_nils, norm_sl, norm_box, norm_fn, norm_nilp, norm_nilf, norm_nilm, norm_mp, snapVs_nil, snapVs_cons, snapCons_some, snapV_p, fnOf, bft, btf, bff, btt, Nat.reduceAdd, List.cons_append, List.nil_append, Bool.and_true, Bool.and_false, Bool.true_and, Bool.false_and, asN_nat, rdAt, takeV, wrAt, splice, cellsV, lenL, List.drop_zero, List.take_zero, List.length_cons, List.length_nil, List.take_succ_cons, Nat.le_refl, ne_eq, not_true_eq_false, and_self, List.drop_nil, Nat.zero_add, Nat.reduceLeDiff, List.drop_succ_cons, not_false_eq_true, List.length_map, snap_p, consR_some, collect_nil, collect_cons, snapV_agg, partsV, elemsV, toPss, toPs, toP, fill, List.take_nil, asN_lit, Nat.reduceMul, Nat.reduceLT, Nat.mul_one, Nat.zero_mul, snapV_one, snap_hsl, snapHsl, snap_href, snapHref, snap_ps, Nat.zero_le, not_false_eq_true, i17, noBlk, s51, s56, gP_str p51, gP_bool q66, dP_bool q66, gP_bool q67, dP_bool q67, gP_bool q76, dP_bool q76, gP_bool q79, dP_bool q79, gP_bool q83, dP_bool q83, na, nb, be, Int.lt_irrefl, planAppend, elemsOf, szOf, szOK, frz, frzL, room, planSlice, boundOf, List.flatten_cons, Nat.reduceSub, Nat.sub_zero, Int.reduceLT, Int.reduceAdd, Int.reduceBEq, Int.reduceBNe, Int.reduceLE, iw1, iw2, iw3, Int.zero_add, List.getElem?_cons_zero, List.getElem?_cons_succ, List.contains_eq_mem, List.not_mem_nil, frzL_nil]

theorem clean17_8 (a : Int) (b : Int) (c : Int) (ha : 0 ≤ a) (hb : 0 ≤ b) (hc : 0 ≤ c) : PEv S 17 [mvV 8 a b c false false 0] (rb true) := by
  have s51 : S.shared 51 = false := by kernel_rfl
  have s56 : S.shared 56 = false := by kernel_rfl
  have p51 : PEv S 51 [vi 8] (rs ⟨#[65, 66, 67]⟩) := PEv_eval S 9 (by kernel_rfl)
  have be : binStr .eql ⟨#[65, 66, 67]⟩ ⟨#[]⟩ = some (.bool false) := by kernel_rfl
  have q66 : PEv S 56 [vs_ ⟨#[65, 66, 67]⟩, .one (.p (.int .u8 66))] (rb true) := PEv_eval S 30 (by kernel_rfl)
  have q67 : PEv S 56 [vs_ ⟨#[65, 66, 67]⟩, .one (.p (.int .u8 67))] (rb true) := PEv_eval S 30 (by kernel_rfl)
  have q76 : PEv S 56 [vs_ ⟨#[65, 66, 67]⟩, .one (.p (.int .u8 76))] (rb false) := PEv_eval S 30 (by kernel_rfl)
  have q79 : PEv S 56 [vs_ ⟨#[65, 66, 67]⟩, .one (.p (.int .u8 79))] (rb false) := PEv_eval S 30 (by kernel_rfl)
  have q83 : PEv S 56 [vs_ ⟨#[65, 66, 67]⟩, .one (.p (.int .u8 83))] (rb false) := PEv_eval S 30 (by kernel_rfl)
  have na : ¬ (a < 0) := by omega
  have nb : ¬ (b < 0) := by omega
  have nc : ¬ (c < 0) := by omega
  refine PEv_fn rfl (S_fns c17) (Nat.le_of_ble_eq_true rfl) ?_
  simp only [↓R_seq, ↓R_text, ↓R_draw, ↓W_block_iff, ↓R_cond, ↓RN_op, ↓RN_guard, ↓RN_nil, ↓RD_op, ↓RD_guard, ↓RD_nil, ↓W_ret_iff, ↓W_skip_iff, ↓W_exit_iff, ↓thenW_normal, ↓thenW_exit, ↓thenW_ret, ↓blockQ_normal, ↓blockQ_ret, ↓blockQ_exit, ↓nextQ_normal, ↓nextQ_exit, ↓nextQ_ret, cW_true, cW_false, gW_true, gW_false, gP_done, dW_true, dW_false, dP_done, wantV_bool, wantV_undef, plan, ev_t, ev_i, ev_b, ev_k, put_some, put_none, upd_apply, ienv_zero, ienv_succ, binV, binInt, eqV, isNilV, app, List.map_nil, List.append_nil, List.map_cons, true_and, and_true, true_or, if_true, if_false, Option.map_some, reduceIte, Nat.reduceEqDiff, decide_true, decide_false, beq_self_eq_true, reduceCtorEq, ge_iff_le, Bool.false_eq_true, Bool.not_true, Bool.not_false, E_ret, E_normal, endV_some, resultsV, noTup, tupV, Al.all_oks, outV_p, norm_int, norm_bool, norm_str, norm_nils, norm_sl, norm_box, norm_fn, norm_nilp, norm_nilf, norm_nilm, norm_mp, snapVs_nil, snapVs_cons, snapCons_some, snapV_p, fnOf, bft, btf, bff, btt, Nat.reduceAdd, List.cons_append, List.nil_append, Bool.and_true, Bool.and_false, Bool.true_and, Bool.false_and, asN_nat, rdAt, takeV, wrAt, splice, cellsV, lenL, List.drop_zero, List.take_zero, List.length_cons, List.length_nil, List.take_succ_cons, Nat.le_refl, ne_eq, not_true_eq_false, and_self, List.drop_nil, Nat.zero_add, Nat.reduceLeDiff, List.drop_succ_cons, not_false_eq_true, List.length_map, snap_p, consR_some, collect_nil, collect_cons, snapV_agg, partsV, elemsV, toPss, toPs, toP, fill, List.take_nil, asN_lit, Nat.reduceMul, Nat.reduceLT, Nat.mul_one, Nat.zero_mul, snapV_one, snap_hsl, snapHsl, snap_href, snapHref, snap_ps, Nat.zero_le, not_false_eq_true, i17, noBlk, s51, s56, gP_str p51, gP_bool q66, dP_bool q66, gP_bool q67, dP_bool q67, gP_bool q76, dP_bool q76, gP_bool q79, dP_bool q79, gP_bool q83, dP_bool q83, na, nb, nc, be, Int.lt_irrefl, planAppend, elemsOf, szOf, szOK, frz, frzL, room, planSlice, boundOf, List.flatten_cons, Nat.reduceSub, Nat.sub_zero, Int.reduceLT, Int.reduceAdd, Int.reduceBEq, Int.reduceBNe, Int.reduceLE, iw1, iw2, iw3, Int.zero_add, List.getElem?_cons_zero, List.getElem?_cons_succ, List.contains_eq_mem, List.not_mem_nil, frzL_nil]

theorem clean17_9 (a : Int) (ha : 0 ≤ a) : PEv S 17 [mvV 9 a 0 0 false false 0] (rb true) := by
  have s51 : S.shared 51 = false := by kernel_rfl
  have s56 : S.shared 56 = false := by kernel_rfl
  have p51 : PEv S 51 [vi 9] (rs ⟨#[65]⟩) := PEv_eval S 9 (by kernel_rfl)
  have be : binStr .eql ⟨#[65]⟩ ⟨#[]⟩ = some (.bool false) := by kernel_rfl
  have q66 : PEv S 56 [vs_ ⟨#[65]⟩, .one (.p (.int .u8 66))] (rb false) := PEv_eval S 30 (by kernel_rfl)
  have q67 : PEv S 56 [vs_ ⟨#[65]⟩, .one (.p (.int .u8 67))] (rb false) := PEv_eval S 30 (by kernel_rfl)
  have q76 : PEv S 56 [vs_ ⟨#[65]⟩, .one (.p (.int .u8 76))] (rb false) := PEv_eval S 30 (by kernel_rfl)
  have q79 : PEv S 56 [vs_ ⟨#[65]⟩, .one (.p (.int .u8 79))] (rb false) := PEv_eval S 30 (by kernel_rfl)
  have q83 : PEv S 56 [vs_ ⟨#[65]⟩, .one (.p (.int .u8 83))] (rb false) := PEv_eval S 30 (by kernel_rfl)
  have na : ¬ (a < 0) := by omega
  refine PEv_fn rfl (S_fns c17) (Nat.le_of_ble_eq_true rfl) ?_
  simp only [↓R_seq, ↓R_text, ↓R_draw, ↓W_block_iff, ↓R_cond, ↓RN_op, ↓RN_guard, ↓RN_nil, ↓RD_op, ↓RD_guard, ↓RD_nil, ↓W_ret_iff, ↓W_skip_iff, ↓W_exit_iff, ↓thenW_normal, ↓thenW_exit, ↓thenW_ret, ↓blockQ_normal, ↓blockQ_ret, ↓blockQ_exit, ↓nextQ_normal, ↓nextQ_exit, ↓nextQ_ret, cW_true, cW_false, gW_true, gW_false, gP_done, dW_true, dW_false, dP_done, wantV_bool, wantV_undef, plan, ev_t, ev_i, ev_b, ev_k, put_some, put_none, upd_apply, ienv_zero, ienv_succ, binV, binInt, eqV, isNilV, app, List.map_nil, List.append_nil, List.map_cons, true_and, and_true, true_or, if_true, if_false, Option.map_some, reduceIte, Nat.reduceEqDiff, decide_true, decide_false, beq_self_eq_true, reduceCtorEq, ge_iff_le, Bool.false_eq_true, Bool.not_true, Bool.not_false, E_ret, E_normal, endV_some, resultsV, noTup, tupV, Al.all_oks, outV_p, norm_int, norm_bool, norm_str, norm_nils, norm_sl, norm_box, norm_fn, norm_nilp, norm_nilf, norm_nilm, norm_mp, snapVs_nil, snapVs_cons, snapCons_some, snapV_p, fnOf, bft, btf, bff, btt, Nat.reduceAdd, List.cons_append, List.nil_append, Bool.and_true, Bool.and_false, Bool.true_and, Bool.false_and, asN_nat, rdAt, takeV, wrAt, splice, cellsV, lenL, List.drop_zero, List.take_zero, List.length_cons, List.length_nil, List.take_succ_cons, Nat.le_refl, ne_eq, not_true_eq_false, and_self, List.drop_nil, Nat.zero_add, Nat.reduceLeDiff, List.drop_succ_cons, not_false_eq_true, List.length_map, snap_p, consR_some, collect_nil, collect_cons, snapV_agg, partsV, elemsV, toPss, toPs, toP, fill, List.take_nil, asN_lit, Nat.reduceMul, Nat.reduceLT, Nat.mul_one, Nat.zero_mul, snapV_one, snap_hsl, snapHsl, snap_href, snapHref, snap_ps, Nat.zero_le, not_false_eq_true, i17, noBlk, s51, s56, gP_str p51, gP_bool q66, dP_bool q66, gP_bool q67, dP_bool q67, gP_bool q76, dP_bool q76, gP_bool q79, dP_bool q79, gP_bool q83, dP_bool q83, na, be, Int.lt_irrefl, planAppend, elemsOf, szOf, szOK, frz, frzL, room, planSlice, boundOf, List.flatten_cons, Nat.reduceSub, Nat.sub_zero, Int.reduceLT, Int.reduceAdd, Int.reduceBEq, Int.reduceBNe, Int.reduceLE, iw1, iw2, iw3, Int.zero_add, List.getElem?_cons_zero, List.getElem?_cons_succ, List.contains_eq_mem, List.not_mem_nil, frzL_nil]

theorem clean17_10 (a : Int) (ha : 0 ≤ a) : PEv S 17 [mvV 10 a 0 0 false false 0] (rb true) := by
  have s51 : S.shared 51 = false := by kernel_rfl
  have s56 : S.shared 56 = false := by kernel_rfl
  have p51 : PEv S 51 [vi 10] (rs ⟨#[65]⟩) := PEv_eval S 9 (by kernel_rfl)
  have be : binStr .eql ⟨#[65]⟩ ⟨#[]⟩ = some (.bool false) := by kernel_rfl
  have q66 : PEv S 56 [vs_ ⟨#[65]⟩, .one (.p (.int .u8 66))] (rb false) := PEv_eval S 30 (by kernel_rfl)
  have q67 : PEv S 56 [vs_ ⟨#[65]⟩, .one (.p (.int .u8 67))] (rb false) := PEv_eval S 30 (by kernel_rfl)
  have q76 : PEv S 56 [vs_ ⟨#[65]⟩, .one (.p (.int .u8 76))] (rb false) := PEv_eval S 30 (by kernel_rfl)
  have q79 : PEv S 56 [vs_ ⟨#[65]⟩, .one (.p (.int .u8 79))] (rb false) := PEv_eval S 30 (by kernel_rfl)
  have q83 : PEv S 56 [vs_ ⟨#[65]⟩, .one (.p (.int .u8 83))] (rb false) := PEv_eval S 30 (by kernel_rfl)
  have na : ¬ (a < 0) := by omega
  refine PEv_fn rfl (S_fns c17) (Nat.le_of_ble_eq_true rfl) ?_
  simp only [↓R_seq, ↓R_text, ↓R_draw, ↓W_block_iff, ↓R_cond, ↓RN_op, ↓RN_guard, ↓RN_nil, ↓RD_op, ↓RD_guard, ↓RD_nil, ↓W_ret_iff, ↓W_skip_iff, ↓W_exit_iff, ↓thenW_normal, ↓thenW_exit, ↓thenW_ret, ↓blockQ_normal, ↓blockQ_ret, ↓blockQ_exit, ↓nextQ_normal, ↓nextQ_exit, ↓nextQ_ret, cW_true, cW_false, gW_true, gW_false, gP_done, dW_true, dW_false, dP_done, wantV_bool, wantV_undef, plan, ev_t, ev_i, ev_b, ev_k, put_some, put_none, upd_apply, ienv_zero, ienv_succ, binV, binInt, eqV, isNilV, app, List.map_nil, List.append_nil, List.map_cons, true_and, and_true, true_or, if_true, if_false, Option.map_some, reduceIte, Nat.reduceEqDiff, decide_true, decide_false, beq_self_eq_true, reduceCtorEq, ge_iff_le, Bool.false_eq_true, Bool.not_true, Bool.not_false, E_ret, E_normal, endV_some, resultsV, noTup, tupV, Al.all_oks, outV_p, norm_int, norm_bool, norm_str, norm_nils, norm_sl, norm_box, norm_fn, norm_nilp, norm_nilf, norm_nilm, norm_mp, snapVs_nil, snapVs_cons, snapCons_some, snapV_p, fnOf, bft, btf, bff, btt, Nat.reduceAdd, List.cons_append, List.nil_append, Bool.and_true, Bool.and_false, Bool.true_and, Bool.false_and, asN_nat, rdAt, takeV, wrAt, splice, cellsV, lenL, List.drop_zero, List.take_zero, List.length_cons, List.length_nil, List.take_succ_cons, Nat.le_refl, ne_eq, not_true_eq_false, and_self, List.drop_nil, Nat.zero_add, Nat.reduceLeDiff, List.drop_succ_cons, not_false_eq_true, List.length_map, snap_p, consR_some, collect_nil, collect_cons, snapV_agg, partsV, elemsV, toPss, toPs, toP, fill, List.take_nil, asN_lit, Nat.reduceMul, Nat.reduceLT, Nat.mul_one, Nat.zero_mul, snapV_one, snap_hsl, snapHsl, snap_href, snapHref, snap_ps, Nat.zero_le, not_false_eq_true, i17, noBlk, s51, s56, gP_str p51, gP_bool q66, dP_bool q66, gP_bool q67, dP_bool q67, gP_bool q76, dP_bool q76, gP_bool q79, dP_bool q79, gP_bool q83, dP_bool q83, na, be, Int.lt_irrefl, planAppend, elemsOf, szOf, szOK, frz, frzL, room, planSlice, boundOf, List.flatten_cons, Nat.reduceSub, Nat.sub_zero, Int.reduceLT, Int.reduceAdd, Int.reduceBEq, Int.reduceBNe, Int.reduceLE, iw1, iw2, iw3, Int.zero_add, List.getElem?_cons_zero, List.getElem?_cons_succ, List.contains_eq_mem, List.not_mem_nil, frzL_nil]
end Go.Abs
namespace Go.Abs
set_option maxRecDepth 100000
theorem atoi_itoa_neg {n : Int} (h0 : -9223372036854775808 ≤ n) (h1 : n < 0) : Lib.atoiAll (Lib.itoa n) = .ok n := by
  have e : Lib.itoa n = 45 :: Lib.decDigits n.natAbs := by simp only [Lib.itoa]; rw [if_pos h1]
  have hp := parse_digits n.natAbs [] (by omega)
  rw [List.append_nil] at hp
  rw [e, Lib.atoiAll_minus]
  unfold Lib.parseMag
  rw [if_neg (decDigits_ne _), hp]
  simp only [Lib.parseUint10, Lib.signed]
  rw [if_neg (by omega)]
  congr 1
  omega
theorem numW_numB {n : Int} (h : I64 n) : numW (numB n) = if n < 0 then none else some n := by
  have hd : (numB n).data.toList = Lib.itoa n := by simp [numB]
  unfold numW
  rw [hd]
  by_cases h0 : n < 0
  · rw [atoi_itoa_neg h.1 h0]
  · rw [atoi_itoa (by omega) h.2]
theorem numB_free32 (n : Int) : (32 : UInt8) ∉ (numB n).data.toList := by
  have hd : (numB n).data.toList = Lib.itoa n := by simp [numB]
  rw [hd]; exact itoa_free n
theorem numB_inj {a b : Int} (ha : 0 ≤ a) (ha1 : a ≤ 9223372036854775807) (h : numB a = numB b) : a = b := by
  have e : ∀ n, (numB n).data.toList = Lib.itoa n := fun n => by simp [numB]
  have := congrArg (fun x : ByteArray => x.data.toList) h
  simp only [e] at this
  exact itoa_inj ha ha1 this
theorem prtW_ne (k a b c : Int) (l o : Bool) (s : Int) : prtW k a b c l o s ≠ [] := by
  unfold prtW
  repeat' split
  all_goals simp
theorem flag_free (b : Bool) {x y : ByteArray} (hx : (32 : UInt8) ∉ x.data.toList) (hy : (32 : UInt8) ∉ y.data.toList) : (32 : UInt8) ∉ (if b then x else y).data.toList := by
  cases b with
  | false => exact hy
  | true => exact hx
theorem fr_nil : ∀ x ∈ ([] : List ByteArray), (32 : UInt8) ∉ x.data.toList := fun x hx => by simp at hx
theorem fr_cons {a : ByteArray} {r : List ByteArray} (h : (32 : UInt8) ∉ a.data.toList) (hr : ∀ x ∈ r, (32 : UInt8) ∉ x.data.toList) : ∀ x ∈ a :: r, (32 : UInt8) ∉ x.data.toList := fun x hx => by
  rcases List.mem_cons.1 hx with rfl | hx
  · exact h
  · exact hr x hx
theorem prtW_free (k a b c : Int) (l o : Bool) (s : Int) : ∀ x ∈ prtW k a b c l o s, (32 : UInt8) ∉ x.data.toList := by
  unfold prtW
  have na := numB_free32 a
  have nb := numB_free32 b
  have nc := numB_free32 c
  have fl := flag_free l (x := ⟨#[108, 101, 102, 116]⟩) (y := ⟨#[114, 105, 103, 104, 116]⟩) (by decide) (by decide)
  have fo := flag_free o (x := ⟨#[111, 118, 101, 114]⟩) (y := ⟨#[117, 110, 100, 101, 114]⟩) (by decide) (by decide)
  have fs := flag_free (s == 1) (x := ⟨#[43]⟩) (y := if s == -1 then ⟨#[45]⟩ else ⟨#[63]⟩) (by decide) (flag_free (s == -1) (x := ⟨#[45]⟩) (y := ⟨#[63]⟩) (by decide) (by decide))
  by_cases h1 : k = 1
  · rw [if_pos h1]; exact (fr_cons (by decide) (fr_cons na fr_nil))
  rw [if_neg h1]
  by_cases h2 : k = 2
  · rw [if_pos h2]; exact (fr_cons (by decide) (fr_cons na (fr_cons nb (fr_cons nc fr_nil))))
  rw [if_neg h2]
  by_cases h3 : k = 3
  · rw [if_pos h3]; exact (fr_cons (by decide) (fr_cons na (fr_cons nb fr_nil)))
  rw [if_neg h3]
  by_cases h4 : k = 4
  · rw [if_pos h4]; exact (fr_cons (by decide) (fr_cons na fr_nil))
  rw [if_neg h4]
  by_cases h5 : k = 5
  · rw [if_pos h5]; exact (fr_cons (by decide) (fr_cons na (fr_cons fo (fr_cons fs fr_nil))))
  rw [if_neg h5]
  by_cases h6 : k = 6
  · rw [if_pos h6]; exact (fr_cons (by decide) (fr_cons na (fr_cons nb fr_nil)))
  rw [if_neg h6]
  by_cases h7 : k = 7
  · rw [if_pos h7]; exact (fr_cons (by decide) (fr_cons na (fr_cons nb (fr_cons fl (fr_cons fo fr_nil)))))
  rw [if_neg h7]
  by_cases h8 : k = 8
  · rw [if_pos h8]; exact (fr_cons (by decide) (fr_cons na (fr_cons nb (fr_cons nc fr_nil))))
  rw [if_neg h8]
  by_cases h9 : k = 9
  · rw [if_pos h9]; exact (fr_cons (by decide) (fr_cons na fr_nil))
  rw [if_neg h9]
  by_cases h10 : k = 10
  · rw [if_pos h10]; exact (fr_cons (by decide) (fr_cons na fr_nil))
  rw [if_neg h10]
  exact (fr_cons (by decide) fr_nil)
theorem split_prt (k a b c : Int) (l o : Bool) (s : Int) : splL 32 (joinS (prtW k a b c l o s)).data.toList = (prtW k a b c l o s).map (·.data.toList) := by
  have := splL_join (prtW_ne k a b c l o s) (prtW_free k a b c l o s)
  simpa [joinS] using this
theorem map_inj {x y : List ByteArray} (h : x.map (·.data.toList) = y.map (·.data.toList)) : x = y := by
  induction x generalizing y with
  | nil => cases y with
    | nil => rfl
    | cons b y => simp at h
  | cons a x ih =>
    cases y with
    | nil => simp at h
    | cons b y =>
      simp only [List.map_cons, List.cons.injEq] at h
      rw [ih h.2, show a = b from ByteArray.ext (Array.toList_inj.1 h.1)]
theorem flags_nil : flags [] = (false, false, 0) := rfl
theorem flags_over (o : Bool) : flagStep (false, false, 0) (if o then ⟨#[111, 118, 101, 114]⟩ else ⟨#[117, 110, 100, 101, 114]⟩) = (false, o, 0) := by cases o <;> decide
theorem flags_left (l : Bool) : flagStep (false, false, 0) (if l then ⟨#[108, 101, 102, 116]⟩ else ⟨#[114, 105, 103, 104, 116]⟩) = (l, false, 0) := by cases l <;> decide
theorem flags_lo (l o : Bool) : flags [(if l then ⟨#[108, 101, 102, 116]⟩ else ⟨#[114, 105, 103, 104, 116]⟩), (if o then ⟨#[111, 118, 101, 114]⟩ else ⟨#[117, 110, 100, 101, 114]⟩)] = (l, o, 0) := by cases l <;> cases o <;> decide
theorem flags_os (o : Bool) (s : Int) : flags [(if o then ⟨#[111, 118, 101, 114]⟩ else ⟨#[117, 110, 100, 101, 114]⟩), (if s == 1 then ⟨#[43]⟩ else (if s == -1 then ⟨#[45]⟩ else ⟨#[63]⟩))] = (false, o, if s == 1 then 1 else if s == -1 then -1 else 0) := by
  cases o <;> cases h1 : s == 1 <;> cases h2 : s == -1 <;> decide
theorem vN_nonneg {ws : List ByteArray} {n i : Nat} (h : okN ws n) (hi : i < n) : 0 ≤ vN ws i := by
  have h1 := h i hi
  unfold vN
  unfold numW at h1 ⊢
  cases hh : Lib.atoiAll (ws.getD i ⟨#[]⟩).data.toList with
  | ok v =>
    rw [hh] at h1
    simp only at h1 ⊢
    split
    · simp
    · simp; omega
  | range => simp
  | _ => simp

/-- a string that is read: the move that is returned has this string, and is clean -/
theorem parse_ok {s w0 : ByteArray} {ws : List ByteArray} (hs : splL 32 s.data.toList = w0.data.toList :: ws.map (·.data.toList)) (hne : parseW s w0 ws ≠ errR) :
    ∃ (k a b c : Int) (l o : Bool) (sg : Int), parseW s w0 ws = okR k a b c l o sg ∧ I64 a ∧ I64 b ∧ I64 c ∧ 0 ≤ a ∧ joinS (prtW k a b c l o sg) = s ∧ w0 :: ws = prtW k a b c l o sg ∧ k = kindN w0 ∧ k ≠ 0 ∧ PEv S 17 [mvV k a b c l o sg] (rb true) := by
  unfold parseW at hne ⊢
  by_cases hk : kindN w0 = 0
  · rw [if_pos hk] at hne; exact (hne rfl).elim
  rw [if_neg hk] at hne ⊢
  unfold res16 at hne ⊢
  have hc : numOf (kindN w0) ≤ ws.length ∧ okN ws (numOf (kindN w0)) := by
    apply Classical.byContradiction
    intro hc
    rw [if_neg hc] at hne; exact hne rfl
  rw [if_pos hc] at hne ⊢
  unfold fin16 at hne ⊢
  have ha0 : ∀ i, I64 (if i < numOf (kindN w0) then vN ws i else 0) := fun i => by split; exact vN_I64 _ _; exact I64_zero
  have hp0 : ∀ i, 0 ≤ (if i < numOf (kindN w0) then vN ws i else 0) := fun i => by split; exact vN_nonneg hc.2 (by assumption); exact Int.le_refl _
  have va := ha0 0; have vb := ha0 1; have vc := ha0 2
  have pa := hp0 0; have pb := hp0 1; have pc := hp0 2
  have zb : ¬ 1 < numOf (kindN w0) → (if 1 < numOf (kindN w0) then vN ws 1 else 0) = 0 := fun h => if_neg h
  have zc : ¬ 2 < numOf (kindN w0) → (if 2 < numOf (kindN w0) then vN ws 2 else 0) = 0 := fun h => if_neg h
  generalize (if 0 < numOf (kindN w0) then vN ws 0 else 0) = a at hne va pa ⊢
  generalize (if 1 < numOf (kindN w0) then vN ws 1 else 0) = b at hne vb pb zb ⊢
  generalize (if 2 < numOf (kindN w0) then vN ws 2 else 0) = c at hne vc pc zc ⊢
  have hj : joinS (prtW (kindN w0) a b c (flags (ws.drop (numOf (kindN w0)))).1 (flags (ws.drop (numOf (kindN w0)))).2.1 (flags (ws.drop (numOf (kindN w0)))).2.2) = s ∧ ¬ ((kindN w0 : Int) = 5 ∧ (flags (ws.drop (numOf (kindN w0)))).2.2 = 0) := by
    apply Classical.byContradiction
    intro hj
    rw [if_neg hj] at hne; exact hne rfl
  rw [if_pos hj]
  obtain ⟨hj1, hj2⟩ := hj
  generalize hf : flags (ws.drop (numOf (kindN w0))) = f at hj1 hj2 ⊢
  obtain ⟨l, o, sg⟩ := f
  simp only at hj1 hj2 ⊢
  have hsp := split_prt (kindN w0) a b c l o sg
  rw [hj1, hs] at hsp
  have hw : w0 :: ws = prtW (kindN w0) a b c l o sg := map_inj (by simpa using hsp)
  refine ⟨_, a, b, c, l, o, sg, rfl, va, vb, vc, pa, hj1, hw, rfl, by omega, ?_⟩
  have hle := kindN_le w0
  generalize kindN w0 = k at *
  have hk2 : k = 1 ∨ k = 2 ∨ k = 3 ∨ k = 4 ∨ k = 5 ∨ k = 6 ∨ k = 7 ∨ k = 8 ∨ k = 9 ∨ k = 10 := by omega
  rcases hk2 with rfl | rfl | rfl | rfl | rfl | rfl | rfl | rfl | rfl | rfl
  · have e : ws.drop (numOf 1) = (prtW ((1 : Nat) : Int) a b c l o sg).drop (numOf 1 + 1) := by rw [← hw]; rfl
    rw [e, show ((1 : Nat) : Int) = 1 from rfl, prtW_1] at hf
    have hf : (false, false, (0 : Int)) = (l, o, sg) := hf
    injection hf with hl hf2
    injection hf2 with ho hs2
    subst hl; subst ho; subst hs2
    have q1 := zb (by decide); subst q1
    have q2 := zc (by decide); subst q2
    exact clean17_1 a pa
  · have e : ws.drop (numOf 2) = (prtW ((2 : Nat) : Int) a b c l o sg).drop (numOf 2 + 1) := by rw [← hw]; rfl
    rw [e, show ((2 : Nat) : Int) = 2 from rfl, prtW_2] at hf
    have hf : (false, false, (0 : Int)) = (l, o, sg) := hf
    injection hf with hl hf2
    injection hf2 with ho hs2
    subst hl; subst ho; subst hs2
    exact clean17_2 a b c pa pb pc
  · have e : ws.drop (numOf 3) = (prtW ((3 : Nat) : Int) a b c l o sg).drop (numOf 3 + 1) := by rw [← hw]; rfl
    rw [e, show ((3 : Nat) : Int) = 3 from rfl, prtW_3] at hf
    have hf : (false, false, (0 : Int)) = (l, o, sg) := hf
    injection hf with hl hf2
    injection hf2 with ho hs2
    subst hl; subst ho; subst hs2
    have q2 := zc (by decide); subst q2
    exact clean17_3 a b pa pb
  · have e : ws.drop (numOf 4) = (prtW ((4 : Nat) : Int) a b c l o sg).drop (numOf 4 + 1) := by rw [← hw]; rfl
    rw [e, show ((4 : Nat) : Int) = 4 from rfl, prtW_4] at hf
    have hf : (false, false, (0 : Int)) = (l, o, sg) := hf
    injection hf with hl hf2
    injection hf2 with ho hs2
    subst hl; subst ho; subst hs2
    have q1 := zb (by decide); subst q1
    have q2 := zc (by decide); subst q2
    exact clean17_4 a pa
  · have e : ws.drop (numOf 5) = (prtW ((5 : Nat) : Int) a b c l o sg).drop (numOf 5 + 1) := by rw [← hw]; rfl
    rw [e, show ((5 : Nat) : Int) = 5 from rfl, prtW_5] at hf
    have hf : flags [_, _] = (l, o, sg) := hf
    rw [flags_os] at hf
    injection hf with hl hf2
    injection hf2 with ho hs2
    subst hl
    have q1 := zb (by decide); subst q1
    have q2 := zc (by decide); subst q2
    have hsg : sg = 1 ∨ sg = -1 := by
      by_cases h1 : sg = 1
      · exact .inl h1
      · by_cases h2 : sg = -1
        · exact .inr h2
        · have b1 : (sg == 1) = false := by simpa using h1
          have b2 : (sg == -1) = false := by simpa using h2
          rw [b1, b2] at hs2
          exact (hj2 ⟨rfl, hs2.symm⟩).elim
    exact clean17_5 a o sg pa hsg
  · have e : ws.drop (numOf 6) = (prtW ((6 : Nat) : Int) a b c l o sg).drop (numOf 6 + 1) := by rw [← hw]; rfl
    rw [e, show ((6 : Nat) : Int) = 6 from rfl, prtW_6] at hf
    have hf : (false, false, (0 : Int)) = (l, o, sg) := hf
    injection hf with hl hf2
    injection hf2 with ho hs2
    subst hl; subst ho; subst hs2
    have q2 := zc (by decide); subst q2
    exact clean17_6 a b pa pb
  · have e : ws.drop (numOf 7) = (prtW ((7 : Nat) : Int) a b c l o sg).drop (numOf 7 + 1) := by rw [← hw]; rfl
    rw [e, show ((7 : Nat) : Int) = 7 from rfl, prtW_7] at hf
    have hf : flags [_, _] = (l, o, sg) := hf
    rw [flags_lo] at hf
    injection hf with hl hf2
    injection hf2 with ho hs2
    subst hs2
    have q2 := zc (by decide); subst q2
    exact clean17_7 a b l o pa pb
  · have e : ws.drop (numOf 8) = (prtW ((8 : Nat) : Int) a b c l o sg).drop (numOf 8 + 1) := by rw [← hw]; rfl
    rw [e, show ((8 : Nat) : Int) = 8 from rfl, prtW_8] at hf
    have hf : (false, false, (0 : Int)) = (l, o, sg) := hf
    injection hf with hl hf2
    injection hf2 with ho hs2
    subst hl; subst ho; subst hs2
    exact clean17_8 a b c pa pb pc
  · have e : ws.drop (numOf 9) = (prtW ((9 : Nat) : Int) a b c l o sg).drop (numOf 9 + 1) := by rw [← hw]; rfl
    rw [e, show ((9 : Nat) : Int) = 9 from rfl, prtW_9] at hf
    have hf : (false, false, (0 : Int)) = (l, o, sg) := hf
    injection hf with hl hf2
    injection hf2 with ho hs2
    subst hl; subst ho; subst hs2
    have q1 := zb (by decide); subst q1
    have q2 := zc (by decide); subst q2
    exact clean17_9 a pa
  · have e : ws.drop (numOf 10) = (prtW ((10 : Nat) : Int) a b c l o sg).drop (numOf 10 + 1) := by rw [← hw]; rfl
    rw [e, show ((10 : Nat) : Int) = 10 from rfl, prtW_10] at hf
    have hf : (false, false, (0 : Int)) = (l, o, sg) := hf
    injection hf with hl hf2
    injection hf2 with ho hs2
    subst hl; subst ho; subst hs2
    have q1 := zb (by decide); subst q1
    have q2 := zc (by decide); subst q2
    exact clean17_10 a pa

/-- the string of a move whose numbers are not negative is read -/
theorem parse_good {k a b c : Int} {l o : Bool} {sg : Int} (ha : I64 a) (hb : I64 b) (hc : I64 c) (hk : 1 ≤ k ∧ k ≤ 10) (a0 : 0 ≤ a) (b0 : 0 ≤ b) (c0 : 0 ≤ c) (hsg : k = 5 → sg = 1 ∨ sg = -1) {w0 : ByteArray} {ws : List ByteArray}
    (hw : w0 :: ws = prtW k a b c l o sg) : parseW (joinS (prtW k a b c l o sg)) w0 ws ≠ errR := by
  have na := numW_numB ha
  have nb := numW_numB hb
  have nc := numW_numB hc
  rw [if_neg (by omega)] at na nb nc
  have hk2 : k = 1 ∨ k = 2 ∨ k = 3 ∨ k = 4 ∨ k = 5 ∨ k = 6 ∨ k = 7 ∨ k = 8 ∨ k = 9 ∨ k = 10 := by omega
  rcases hk2 with rfl | rfl | rfl | rfl | rfl | rfl | rfl | rfl | rfl | rfl
  · rw [prtW_1] at hw
    injection hw with h1 h2
    subst h1
    subst h2
    have hkn : kindN ⟨#[97, 120, 105, 115, 45, 99, 117, 116]⟩ = 1 := kindN_1
    unfold parseW
    rw [hkn, if_neg (by decide)]
    unfold res16
    have hno : numOf 1 = 1 := by decide
    have hok : okN [numB a] 1 := fun i hi => by
      obtain rfl : i = 0 := by omega
      exact (congrArg Option.isSome na).trans rfl
    have v0 : vN [numB a] 0 = a := congrArg (fun x => Option.getD x (0 : Int)) na
    have hfl : flags (List.drop 1 [numB a]) = (false, false, 0) := flags_nil
    rw [hno, if_pos ⟨Nat.le_of_ble_eq_true rfl, hok⟩, hfl]
    unfold fin16
    have i0 : (if 0 < 1 then vN [numB a] 0 else 0) = a := (if_pos (by decide)).trans v0
    have i1 : (if 1 < 1 then vN [numB a] 1 else 0) = 0 := if_neg (by decide)
    have i2 : (if 2 < 1 then vN [numB a] 2 else 0) = 0 := if_neg (by decide)
    rw [i0, i1, i2]
    rw [if_pos ⟨rfl, fun h => absurd h.1 (by decide)⟩]
    intro h
    injection h with h
    injection h with h h2
    injection h2 with h2
    injection h2 with h2
    injection h2 with h2
    injection h2 with h2 h3
    exact absurd h3 (by decide)
  · rw [prtW_2] at hw
    injection hw with h1 h2
    subst h1
    subst h2
    have hkn : kindN ⟨#[97, 120, 105, 115, 45, 109, 97, 107, 101]⟩ = 2 := kindN_2
    unfold parseW
    rw [hkn, if_neg (by decide)]
    unfold res16
    have hno : numOf 2 = 3 := by decide
    have hok : okN [numB a, numB b, numB c] 3 := fun i hi => by
      have : i = 0 ∨ i = 1 ∨ i = 2 := by omega
      rcases this with rfl | rfl | rfl
      · exact (congrArg Option.isSome na).trans rfl
      · exact (congrArg Option.isSome nb).trans rfl
      · exact (congrArg Option.isSome nc).trans rfl
    have v0 : vN [numB a, numB b, numB c] 0 = a := congrArg (fun x => Option.getD x (0 : Int)) na
    have v1 : vN [numB a, numB b, numB c] 1 = b := congrArg (fun x => Option.getD x (0 : Int)) nb
    have v2 : vN [numB a, numB b, numB c] 2 = c := congrArg (fun x => Option.getD x (0 : Int)) nc
    have hfl : flags (List.drop 3 [numB a, numB b, numB c]) = (false, false, 0) := flags_nil
    rw [hno, if_pos ⟨Nat.le_of_ble_eq_true rfl, hok⟩, hfl]
    unfold fin16
    have i0 : (if 0 < 3 then vN [numB a, numB b, numB c] 0 else 0) = a := (if_pos (by decide)).trans v0
    have i1 : (if 1 < 3 then vN [numB a, numB b, numB c] 1 else 0) = b := (if_pos (by decide)).trans v1
    have i2 : (if 2 < 3 then vN [numB a, numB b, numB c] 2 else 0) = c := (if_pos (by decide)).trans v2
    rw [i0, i1, i2]
    rw [if_pos ⟨rfl, fun h => absurd h.1 (by decide)⟩]
    intro h
    injection h with h
    injection h with h h2
    injection h2 with h2
    injection h2 with h2
    injection h2 with h2
    injection h2 with h2 h3
    exact absurd h3 (by decide)
  · rw [prtW_3] at hw
    injection hw with h1 h2
    subst h1
    subst h2
    have hkn : kindN ⟨#[97, 120, 105, 115, 45, 115, 108, 105, 100, 101]⟩ = 3 := kindN_3
    unfold parseW
    rw [hkn, if_neg (by decide)]
    unfold res16
    have hno : numOf 3 = 2 := by decide
    have hok : okN [numB a, numB b] 2 := fun i hi => by
      have : i = 0 ∨ i = 1 := by omega
      rcases this with rfl | rfl
      · exact (congrArg Option.isSome na).trans rfl
      · exact (congrArg Option.isSome nb).trans rfl
    have v0 : vN [numB a, numB b] 0 = a := congrArg (fun x => Option.getD x (0 : Int)) na
    have v1 : vN [numB a, numB b] 1 = b := congrArg (fun x => Option.getD x (0 : Int)) nb
    have hfl : flags (List.drop 2 [numB a, numB b]) = (false, false, 0) := flags_nil
    rw [hno, if_pos ⟨Nat.le_of_ble_eq_true rfl, hok⟩, hfl]
    unfold fin16
    have i0 : (if 0 < 2 then vN [numB a, numB b] 0 else 0) = a := (if_pos (by decide)).trans v0
    have i1 : (if 1 < 2 then vN [numB a, numB b] 1 else 0) = b := (if_pos (by decide)).trans v1
    have i2 : (if 2 < 2 then vN [numB a, numB b] 2 else 0) = 0 := if_neg (by decide)
    rw [i0, i1, i2]
    rw [if_pos ⟨rfl, fun h => absurd h.1 (by decide)⟩]
    intro h
    injection h with h
    injection h with h h2
    injection h2 with h2
    injection h2 with h2
    injection h2 with h2
    injection h2 with h2 h3
    exact absurd h3 (by decide)
  · rw [prtW_4] at hw
    injection hw with h1 h2
    subst h1
    subst h2
    have hkn : kindN ⟨#[108, 111, 111, 112, 45, 99, 117, 116]⟩ = 4 := kindN_4
    unfold parseW
    rw [hkn, if_neg (by decide)]
    unfold res16
    have hno : numOf 4 = 1 := by decide
    have hok : okN [numB a] 1 := fun i hi => by
      obtain rfl : i = 0 := by omega
      exact (congrArg Option.isSome na).trans rfl
    have v0 : vN [numB a] 0 = a := congrArg (fun x => Option.getD x (0 : Int)) na
    have hfl : flags (List.drop 1 [numB a]) = (false, false, 0) := flags_nil
    rw [hno, if_pos ⟨Nat.le_of_ble_eq_true rfl, hok⟩, hfl]
    unfold fin16
    have i0 : (if 0 < 1 then vN [numB a] 0 else 0) = a := (if_pos (by decide)).trans v0
    have i1 : (if 1 < 1 then vN [numB a] 1 else 0) = 0 := if_neg (by decide)
    have i2 : (if 2 < 1 then vN [numB a] 2 else 0) = 0 := if_neg (by decide)
    rw [i0, i1, i2]
    rw [if_pos ⟨rfl, fun h => absurd h.1 (by decide)⟩]
    intro h
    injection h with h
    injection h with h h2
    injection h2 with h2
    injection h2 with h2
    injection h2 with h2
    injection h2 with h2 h3
    exact absurd h3 (by decide)
  · rw [prtW_5] at hw
    injection hw with h1 h2
    subst h1
    subst h2
    have hkn : kindN ⟨#[108, 111, 111, 112, 45, 109, 97, 107, 101]⟩ = 5 := kindN_5
    unfold parseW
    rw [hkn, if_neg (by decide)]
    unfold res16
    have hno : numOf 5 = 1 := by decide
    have hok : okN [numB a, (if o then ⟨#[111, 118, 101, 114]⟩ else ⟨#[117, 110, 100, 101, 114]⟩), (if sg == 1 then ⟨#[43]⟩ else (if sg == -1 then ⟨#[45]⟩ else ⟨#[63]⟩))] 1 := fun i hi => by
      obtain rfl : i = 0 := by omega
      exact (congrArg Option.isSome na).trans rfl
    have v0 : vN [numB a, (if o then ⟨#[111, 118, 101, 114]⟩ else ⟨#[117, 110, 100, 101, 114]⟩), (if sg == 1 then ⟨#[43]⟩ else (if sg == -1 then ⟨#[45]⟩ else ⟨#[63]⟩))] 0 = a := congrArg (fun x => Option.getD x (0 : Int)) na
    have hfl : flags (List.drop 1 [numB a, (if o then ⟨#[111, 118, 101, 114]⟩ else ⟨#[117, 110, 100, 101, 114]⟩), (if sg == 1 then ⟨#[43]⟩ else (if sg == -1 then ⟨#[45]⟩ else ⟨#[63]⟩))]) = (false, o, if sg == 1 then 1 else if sg == -1 then -1 else 0) := flags_os o sg
    rw [hno, if_pos ⟨Nat.le_of_ble_eq_true rfl, hok⟩, hfl]
    unfold fin16
    have hs2 := hsg rfl
    have e2 : (if sg == 1 then (1 : Int) else if sg == -1 then -1 else 0) = sg := by rcases hs2 with rfl | rfl <;> decide
    rw [e2]
    have i0 : (if 0 < 1 then vN [numB a, (if o then ⟨#[111, 118, 101, 114]⟩ else ⟨#[117, 110, 100, 101, 114]⟩), (if sg == 1 then ⟨#[43]⟩ else (if sg == -1 then ⟨#[45]⟩ else ⟨#[63]⟩))] 0 else 0) = a := (if_pos (by decide)).trans v0
    have i1 : (if 1 < 1 then vN [numB a, (if o then ⟨#[111, 118, 101, 114]⟩ else ⟨#[117, 110, 100, 101, 114]⟩), (if sg == 1 then ⟨#[43]⟩ else (if sg == -1 then ⟨#[45]⟩ else ⟨#[63]⟩))] 1 else 0) = 0 := if_neg (by decide)
    have i2 : (if 2 < 1 then vN [numB a, (if o then ⟨#[111, 118, 101, 114]⟩ else ⟨#[117, 110, 100, 101, 114]⟩), (if sg == 1 then ⟨#[43]⟩ else (if sg == -1 then ⟨#[45]⟩ else ⟨#[63]⟩))] 2 else 0) = 0 := if_neg (by decide)
    rw [i0, i1, i2]
    rw [if_pos ⟨rfl, fun h => by have := h.2; simp only at this; omega⟩]
    intro h
    injection h with h
    injection h with h h2
    injection h2 with h2
    injection h2 with h2
    injection h2 with h2
    injection h2 with h2 h3
    exact absurd h3 (by decide)
  · rw [prtW_6] at hw
    injection hw with h1 h2
    subst h1
    subst h2
    have hkn : kindN ⟨#[112, 97, 105, 114, 45, 99, 117, 116]⟩ = 6 := kindN_6
    unfold parseW
    rw [hkn, if_neg (by decide)]
    unfold res16
    have hno : numOf 6 = 2 := by decide
    have hok : okN [numB a, numB b] 2 := fun i hi => by
      have : i = 0 ∨ i = 1 := by omega
      rcases this with rfl | rfl
      · exact (congrArg Option.isSome na).trans rfl
      · exact (congrArg Option.isSome nb).trans rfl
    have v0 : vN [numB a, numB b] 0 = a := congrArg (fun x => Option.getD x (0 : Int)) na
    have v1 : vN [numB a, numB b] 1 = b := congrArg (fun x => Option.getD x (0 : Int)) nb
    have hfl : flags (List.drop 2 [numB a, numB b]) = (false, false, 0) := flags_nil
    rw [hno, if_pos ⟨Nat.le_of_ble_eq_true rfl, hok⟩, hfl]
    unfold fin16
    have i0 : (if 0 < 2 then vN [numB a, numB b] 0 else 0) = a := (if_pos (by decide)).trans v0
    have i1 : (if 1 < 2 then vN [numB a, numB b] 1 else 0) = b := (if_pos (by decide)).trans v1
    have i2 : (if 2 < 2 then vN [numB a, numB b] 2 else 0) = 0 := if_neg (by decide)
    rw [i0, i1, i2]
    rw [if_pos ⟨rfl, fun h => absurd h.1 (by decide)⟩]
    intro h
    injection h with h
    injection h with h h2
    injection h2 with h2
    injection h2 with h2
    injection h2 with h2
    injection h2 with h2 h3
    exact absurd h3 (by decide)
  · rw [prtW_7] at hw
    injection hw with h1 h2
    subst h1
    subst h2
    have hkn : kindN ⟨#[112, 97, 105, 114, 45, 109, 97, 107, 101]⟩ = 7 := kindN_7
    unfold parseW
    rw [hkn, if_neg (by decide)]
    unfold res16
    have hno : numOf 7 = 2 := by decide
    have hok : okN [numB a, numB b, (if l then ⟨#[108, 101, 102, 116]⟩ else ⟨#[114, 105, 103, 104, 116]⟩), (if o then ⟨#[111, 118, 101, 114]⟩ else ⟨#[117, 110, 100, 101, 114]⟩)] 2 := fun i hi => by
      have : i = 0 ∨ i = 1 := by omega
      rcases this with rfl | rfl
      · exact (congrArg Option.isSome na).trans rfl
      · exact (congrArg Option.isSome nb).trans rfl
    have v0 : vN [numB a, numB b, (if l then ⟨#[108, 101, 102, 116]⟩ else ⟨#[114, 105, 103, 104, 116]⟩), (if o then ⟨#[111, 118, 101, 114]⟩ else ⟨#[117, 110, 100, 101, 114]⟩)] 0 = a := congrArg (fun x => Option.getD x (0 : Int)) na
    have v1 : vN [numB a, numB b, (if l then ⟨#[108, 101, 102, 116]⟩ else ⟨#[114, 105, 103, 104, 116]⟩), (if o then ⟨#[111, 118, 101, 114]⟩ else ⟨#[117, 110, 100, 101, 114]⟩)] 1 = b := congrArg (fun x => Option.getD x (0 : Int)) nb
    have hfl : flags (List.drop 2 [numB a, numB b, (if l then ⟨#[108, 101, 102, 116]⟩ else ⟨#[114, 105, 103, 104, 116]⟩), (if o then ⟨#[111, 118, 101, 114]⟩ else ⟨#[117, 110, 100, 101, 114]⟩)]) = (l, o, 0) := flags_lo l o
    rw [hno, if_pos ⟨Nat.le_of_ble_eq_true rfl, hok⟩, hfl]
    unfold fin16
    have i0 : (if 0 < 2 then vN [numB a, numB b, (if l then ⟨#[108, 101, 102, 116]⟩ else ⟨#[114, 105, 103, 104, 116]⟩), (if o then ⟨#[111, 118, 101, 114]⟩ else ⟨#[117, 110, 100, 101, 114]⟩)] 0 else 0) = a := (if_pos (by decide)).trans v0
    have i1 : (if 1 < 2 then vN [numB a, numB b, (if l then ⟨#[108, 101, 102, 116]⟩ else ⟨#[114, 105, 103, 104, 116]⟩), (if o then ⟨#[111, 118, 101, 114]⟩ else ⟨#[117, 110, 100, 101, 114]⟩)] 1 else 0) = b := (if_pos (by decide)).trans v1
    have i2 : (if 2 < 2 then vN [numB a, numB b, (if l then ⟨#[108, 101, 102, 116]⟩ else ⟨#[114, 105, 103, 104, 116]⟩), (if o then ⟨#[111, 118, 101, 114]⟩ else ⟨#[117, 110, 100, 101, 114]⟩)] 2 else 0) = 0 := if_neg (by decide)
    rw [i0, i1, i2]
    rw [if_pos ⟨rfl, fun h => absurd h.1 (by decide)⟩]
    intro h
    injection h with h
    injection h with h h2
    injection h2 with h2
    injection h2 with h2
    injection h2 with h2
    injection h2 with h2 h3
    exact absurd h3 (by decide)
  · rw [prtW_8] at hw
    injection hw with h1 h2
    subst h1
    subst h2
    have hkn : kindN ⟨#[116, 114, 105, 97, 110, 103, 108, 101]⟩ = 8 := kindN_8
    unfold parseW
    rw [hkn, if_neg (by decide)]
    unfold res16
    have hno : numOf 8 = 3 := by decide
    have hok : okN [numB a, numB b, numB c] 3 := fun i hi => by
      have : i = 0 ∨ i = 1 ∨ i = 2 := by omega
      rcases this with rfl | rfl | rfl
      · exact (congrArg Option.isSome na).trans rfl
      · exact (congrArg Option.isSome nb).trans rfl
      · exact (congrArg Option.isSome nc).trans rfl
    have v0 : vN [numB a, numB b, numB c] 0 = a := congrArg (fun x => Option.getD x (0 : Int)) na
    have v1 : vN [numB a, numB b, numB c] 1 = b := congrArg (fun x => Option.getD x (0 : Int)) nb
    have v2 : vN [numB a, numB b, numB c] 2 = c := congrArg (fun x => Option.getD x (0 : Int)) nc
    have hfl : flags (List.drop 3 [numB a, numB b, numB c]) = (false, false, 0) := flags_nil
    rw [hno, if_pos ⟨Nat.le_of_ble_eq_true rfl, hok⟩, hfl]
    unfold fin16
    have i0 : (if 0 < 3 then vN [numB a, numB b, numB c] 0 else 0) = a := (if_pos (by decide)).trans v0
    have i1 : (if 1 < 3 then vN [numB a, numB b, numB c] 1 else 0) = b := (if_pos (by decide)).trans v1
    have i2 : (if 2 < 3 then vN [numB a, numB b, numB c] 2 else 0) = c := (if_pos (by decide)).trans v2
    rw [i0, i1, i2]
    rw [if_pos ⟨rfl, fun h => absurd h.1 (by decide)⟩]
    intro h
    injection h with h
    injection h with h h2
    injection h2 with h2
    injection h2 with h2
    injection h2 with h2
    injection h2 with h2 h3
    exact absurd h3 (by decide)
  · rw [prtW_9] at hw
    injection hw with h1 h2
    subst h1
    subst h2
    have hkn : kindN ⟨#[116, 105, 112, 45, 114, 105, 103, 104, 116]⟩ = 9 := kindN_9
    unfold parseW
    rw [hkn, if_neg (by decide)]
    unfold res16
    have hno : numOf 9 = 1 := by decide
    have hok : okN [numB a] 1 := fun i hi => by
      obtain rfl : i = 0 := by omega
      exact (congrArg Option.isSome na).trans rfl
    have v0 : vN [numB a] 0 = a := congrArg (fun x => Option.getD x (0 : Int)) na
    have hfl : flags (List.drop 1 [numB a]) = (false, false, 0) := flags_nil
    rw [hno, if_pos ⟨Nat.le_of_ble_eq_true rfl, hok⟩, hfl]
    unfold fin16
    have i0 : (if 0 < 1 then vN [numB a] 0 else 0) = a := (if_pos (by decide)).trans v0
    have i1 : (if 1 < 1 then vN [numB a] 1 else 0) = 0 := if_neg (by decide)
    have i2 : (if 2 < 1 then vN [numB a] 2 else 0) = 0 := if_neg (by decide)
    rw [i0, i1, i2]
    rw [if_pos ⟨rfl, fun h => absurd h.1 (by decide)⟩]
    intro h
    injection h with h
    injection h with h h2
    injection h2 with h2
    injection h2 with h2
    injection h2 with h2
    injection h2 with h2 h3
    exact absurd h3 (by decide)
  · rw [prtW_10] at hw
    injection hw with h1 h2
    subst h1
    subst h2
    have hkn : kindN ⟨#[116, 105, 112, 45, 108, 101, 102, 116]⟩ = 10 := kindN_10
    unfold parseW
    rw [hkn, if_neg (by decide)]
    unfold res16
    have hno : numOf 10 = 1 := by decide
    have hok : okN [numB a] 1 := fun i hi => by
      obtain rfl : i = 0 := by omega
      exact (congrArg Option.isSome na).trans rfl
    have v0 : vN [numB a] 0 = a := congrArg (fun x => Option.getD x (0 : Int)) na
    have hfl : flags (List.drop 1 [numB a]) = (false, false, 0) := flags_nil
    rw [hno, if_pos ⟨Nat.le_of_ble_eq_true rfl, hok⟩, hfl]
    unfold fin16
    have i0 : (if 0 < 1 then vN [numB a] 0 else 0) = a := (if_pos (by decide)).trans v0
    have i1 : (if 1 < 1 then vN [numB a] 1 else 0) = 0 := if_neg (by decide)
    have i2 : (if 2 < 1 then vN [numB a] 2 else 0) = 0 := if_neg (by decide)
    rw [i0, i1, i2]
    rw [if_pos ⟨rfl, fun h => absurd h.1 (by decide)⟩]
    intro h
    injection h with h
    injection h with h h2
    injection h2 with h2
    injection h2 with h2
    injection h2 with h2
    injection h2 with h2 h3
    exact absurd h3 (by decide)
end Go.Abs
namespace Go.Abs
set_option maxRecDepth 100000
theorem landErr (blk : Blk) (rd : List Nat) (s : Nat) (b : Bool) : land blk rd s (errR.pureIf b) = some (.tup [.agg (mvC 0 0 0 0 false false 0), .one (.p (.int .i64 6))], []) := by
  cases b
  · exact (if_pos (Or.inr rfl)).trans rfl
  · exact (if_pos (Or.inr rfl)).trans rfl
theorem landOk (blk : Blk) (rd : List Nat) (st : Nat) (bb : Bool) (k a b c : Int) (l o : Bool) (s : Int) : land blk rd st ((okR k a b c l o s).pureIf bb) = some (.tup [.agg (mvC k a b c l o s), .one (.p (.int .i64 0))], []) := by
  cases bb
  · exact (if_pos (Or.inr rfl)).trans rfl
  · exact (if_pos (Or.inr rfl)).trans rfl
theorem print15_of {k a b c : Int} {l o : Bool} {sg : Int} {s : ByteArray} (ha : I64 a) (hb : I64 b) (hc : I64 c) (h : joinS (prtW k a b c l o sg) = s) : PEv S 15 [mvV k a b c l o sg] (rs s) := by
  obtain ⟨t, h1, h2⟩ := print_same k a b c l o sg ha hb hc
  have := h1.det (print14_all k a b c l o sg ha hb hc)
  injection this with this
  injection this with this
  injection this with this
  rw [this, h] at h2
  exact h2

theorem law5 (hk : PEv S 13 [] (rb true)) (s : ByteArray) (hs : s.size < 4294967281) : PEv S 5 [vs_ s] (rb true) := by
  have s13 : S.shared 13 = false := by kernel_rfl
  have s15 : S.shared 15 = false := by kernel_rfl
  have s16 : S.shared 16 = false := by kernel_rfl
  have s17 : S.shared 17 = false := by kernel_rfl
  obtain ⟨w0, ws, hsp, hp⟩ := parse16 s hs
  refine PEv_fn rfl (S_fns c5) (Nat.le_of_ble_eq_true rfl) ?_
  by_cases he : parseW s w0 ws = errR
  · rw [he] at hp
    simp only [↓R_seq, ↓R_text, ↓R_draw, ↓W_block_iff, ↓R_cond, ↓RN_op, ↓RN_guard, ↓RN_nil, ↓RD_op, ↓RD_guard, ↓RD_nil, ↓W_ret_iff, ↓W_skip_iff, ↓W_exit_iff, ↓thenW_normal, ↓thenW_exit, ↓thenW_ret, ↓blockQ_normal, ↓blockQ_ret, ↓blockQ_exit, ↓nextQ_normal, ↓nextQ_exit, ↓nextQ_ret, cW_true, cW_false, gW_true, gW_false, gP_done, dW_true, dW_false, dP_done, wantV_bool, wantV_undef, plan, ev_t, ev_i, ev_b, ev_k, put_some, put_none, upd_apply, ienv_zero, ienv_succ, binV, binInt, eqV, isNilV, app, List.map_nil, List.append_nil, List.map_cons, true_and, and_true, true_or, if_true, if_false, Option.map_some, reduceIte, Nat.reduceEqDiff, decide_true, decide_false, beq_self_eq_true, reduceCtorEq, ge_iff_le, Bool.false_eq_true, Bool.not_true, Bool.not_false, E_ret, E_normal, endV_some, resultsV, noTup, tupV, Al.all_oks, outV_p, norm_int, norm_bool, norm_str, norm_nils, norm_sl, norm_box, norm_fn, norm_nilp, norm_nilf, norm_nilm, norm_mp, snapVs_nil, snapVs_cons, snapCons_some, snapV_p, fnOf, bft, btf, bff, btt, Nat.reduceAdd, List.cons_append, List.nil_append, Bool.and_true, Bool.and_false, Bool.true_and, Bool.false_and, asN_nat, rdAt, takeV, wrAt, splice, cellsV, lenL, List.drop_zero, List.take_zero, List.length_cons, List.length_nil, List.take_succ_cons, Nat.le_refl, ne_eq, not_true_eq_false, and_self, List.drop_nil, Nat.zero_add, Nat.reduceLeDiff, List.drop_succ_cons, not_false_eq_true, List.length_map, snap_p, consR_some, collect_nil, collect_cons, snapV_agg, partsV, elemsV, toPss, toPs, toP, fill, List.take_nil, asN_lit, Nat.reduceMul, Nat.reduceLT, Nat.mul_one, Nat.zero_mul, snapV_one, snap_hsl, snapHsl, snap_href, snapHref, snap_ps, Nat.zero_le, not_false_eq_true, i5, noBlk, s16, s13, gP_land hp (landErr _ _ _ _), gP_bool hk, eqCs, eqC, planAppend, elemsOf, szOf, szOK, frz, frzL, room, planSlice, boundOf, List.flatten_cons, Nat.reduceSub, Nat.sub_zero, Int.reduceLT, Int.reduceAdd, Int.reduceBEq, Int.reduceBNe, Int.reduceLE, iw1, iw2, iw3, Int.zero_add, List.getElem?_cons_zero, List.getElem?_cons_succ, List.contains_eq_mem, List.not_mem_nil, frzL_nil]
  · obtain ⟨k, a, b, c, l, o, sg, h1, ha, hb, hc, _, hj, _, _, _, h17⟩ := parse_ok hsp he
    rw [h1] at hp
    have h15 := print15_of ha hb hc hj
    simp only [↓R_seq, ↓R_text, ↓R_draw, ↓W_block_iff, ↓R_cond, ↓RN_op, ↓RN_guard, ↓RN_nil, ↓RD_op, ↓RD_guard, ↓RD_nil, ↓W_ret_iff, ↓W_skip_iff, ↓W_exit_iff, ↓thenW_normal, ↓thenW_exit, ↓thenW_ret, ↓blockQ_normal, ↓blockQ_ret, ↓blockQ_exit, ↓nextQ_normal, ↓nextQ_exit, ↓nextQ_ret, cW_true, cW_false, gW_true, gW_false, gP_done, dW_true, dW_false, dP_done, wantV_bool, wantV_undef, plan, ev_t, ev_i, ev_b, ev_k, put_some, put_none, upd_apply, ienv_zero, ienv_succ, binV, binInt, eqV, isNilV, app, List.map_nil, List.append_nil, List.map_cons, true_and, and_true, true_or, if_true, if_false, Option.map_some, reduceIte, Nat.reduceEqDiff, decide_true, decide_false, beq_self_eq_true, reduceCtorEq, ge_iff_le, Bool.false_eq_true, Bool.not_true, Bool.not_false, E_ret, E_normal, endV_some, resultsV, noTup, tupV, Al.all_oks, outV_p, norm_int, norm_bool, norm_str, norm_nils, norm_sl, norm_box, norm_fn, norm_nilp, norm_nilf, norm_nilm, norm_mp, snapVs_nil, snapVs_cons, snapCons_some, snapV_p, fnOf, bft, btf, bff, btt, Nat.reduceAdd, List.cons_append, List.nil_append, Bool.and_true, Bool.and_false, Bool.true_and, Bool.false_and, asN_nat, rdAt, takeV, wrAt, splice, cellsV, lenL, List.drop_zero, List.take_zero, List.length_cons, List.length_nil, List.take_succ_cons, Nat.le_refl, ne_eq, not_true_eq_false, and_self, List.drop_nil, Nat.zero_add, Nat.reduceLeDiff, List.drop_succ_cons, not_false_eq_true, List.length_map, snap_p, consR_some, collect_nil, collect_cons, snapV_agg, partsV, elemsV, toPss, toPs, toP, fill, List.take_nil, asN_lit, Nat.reduceMul, Nat.reduceLT, Nat.mul_one, Nat.zero_mul, snapV_one, snap_hsl, snapHsl, snap_href, snapHref, snap_ps, Nat.zero_le, not_false_eq_true, i5, noBlk, s16, s13, s15, s17, gP_land hp (landOk _ _ _ _ _ _ _ _ _ _ _), gP_bool hk, gP_str h15, gP_bool h17, eql_iff, planAppend, elemsOf, szOf, szOK, frz, frzL, room, planSlice, boundOf, List.flatten_cons, Nat.reduceSub, Nat.sub_zero, Int.reduceLT, Int.reduceAdd, Int.reduceBEq, Int.reduceBNe, Int.reduceLE, iw1, iw2, iw3, Int.zero_add, List.getElem?_cons_zero, List.getElem?_cons_succ, List.contains_eq_mem, List.not_mem_nil, frzL_nil]

theorem kindN_q : kindN ⟨#[63]⟩ = 0 := by decide
theorem prtW_out {k : Int} (a b c : Int) (l o : Bool) (s : Int) (h : k < 1 ∨ 10 < k) : prtW k a b c l o s = [⟨#[63]⟩] := by
  unfold prtW
  rw [if_neg (by omega), if_neg (by omega), if_neg (by omega), if_neg (by omega), if_neg (by omega), if_neg (by omega), if_neg (by omega), if_neg (by omega), if_neg (by omega), if_neg (by omega)]
theorem same_ka {k a b c : Int} {l o : Bool} {sg : Int} {k2 a2 b2 c2 : Int} {l2 o2 : Bool} {sg2 : Int} {w0 : ByteArray} {ws : List ByteArray} (h1 : w0 :: ws = prtW k a b c l o sg) (h2 : w0 :: ws = prtW k2 a2 b2 c2 l2 o2 sg2) (hk : k2 = kindN w0) (hk0 : k2 ≠ 0)
    (a0 : 0 ≤ a2) (a1 : a2 ≤ 9223372036854775807) : k2 = k ∧ a2 = a := by
  by_cases h : k < 1 ∨ 10 < k
  · rw [prtW_out a b c l o sg h] at h1
    injection h1 with h1 _
    rw [h1, kindN_q] at hk
    exact (hk0 hk).elim
  · have : k = 1 ∨ k = 2 ∨ k = 3 ∨ k = 4 ∨ k = 5 ∨ k = 6 ∨ k = 7 ∨ k = 8 ∨ k = 9 ∨ k = 10 := by omega
    rcases this with rfl | rfl | rfl | rfl | rfl | rfl | rfl | rfl | rfl | rfl
    · rw [prtW_1] at h1
      have e0 := (List.cons.inj h1).1
      rw [e0, kindN_1] at hk
      subst hk
      rw [h1, show ((1 : Nat) : Int) = 1 from rfl, prtW_1] at h2
      exact ⟨rfl, (numB_inj a0 a1 (List.cons.inj (List.cons.inj h2).2).1.symm)⟩
    · rw [prtW_2] at h1
      have e0 := (List.cons.inj h1).1
      rw [e0, kindN_2] at hk
      subst hk
      rw [h1, show ((2 : Nat) : Int) = 2 from rfl, prtW_2] at h2
      exact ⟨rfl, (numB_inj a0 a1 (List.cons.inj (List.cons.inj h2).2).1.symm)⟩
    · rw [prtW_3] at h1
      have e0 := (List.cons.inj h1).1
      rw [e0, kindN_3] at hk
      subst hk
      rw [h1, show ((3 : Nat) : Int) = 3 from rfl, prtW_3] at h2
      exact ⟨rfl, (numB_inj a0 a1 (List.cons.inj (List.cons.inj h2).2).1.symm)⟩
    · rw [prtW_4] at h1
      have e0 := (List.cons.inj h1).1
      rw [e0, kindN_4] at hk
      subst hk
      rw [h1, show ((4 : Nat) : Int) = 4 from rfl, prtW_4] at h2
      exact ⟨rfl, (numB_inj a0 a1 (List.cons.inj (List.cons.inj h2).2).1.symm)⟩
    · rw [prtW_5] at h1
      have e0 := (List.cons.inj h1).1
      rw [e0, kindN_5] at hk
      subst hk
      rw [h1, show ((5 : Nat) : Int) = 5 from rfl, prtW_5] at h2
      exact ⟨rfl, (numB_inj a0 a1 (List.cons.inj (List.cons.inj h2).2).1.symm)⟩
    · rw [prtW_6] at h1
      have e0 := (List.cons.inj h1).1
      rw [e0, kindN_6] at hk
      subst hk
      rw [h1, show ((6 : Nat) : Int) = 6 from rfl, prtW_6] at h2
      exact ⟨rfl, (numB_inj a0 a1 (List.cons.inj (List.cons.inj h2).2).1.symm)⟩
    · rw [prtW_7] at h1
      have e0 := (List.cons.inj h1).1
      rw [e0, kindN_7] at hk
      subst hk
      rw [h1, show ((7 : Nat) : Int) = 7 from rfl, prtW_7] at h2
      exact ⟨rfl, (numB_inj a0 a1 (List.cons.inj (List.cons.inj h2).2).1.symm)⟩
    · rw [prtW_8] at h1
      have e0 := (List.cons.inj h1).1
      rw [e0, kindN_8] at hk
      subst hk
      rw [h1, show ((8 : Nat) : Int) = 8 from rfl, prtW_8] at h2
      exact ⟨rfl, (numB_inj a0 a1 (List.cons.inj (List.cons.inj h2).2).1.symm)⟩
    · rw [prtW_9] at h1
      have e0 := (List.cons.inj h1).1
      rw [e0, kindN_9] at hk
      subst hk
      rw [h1, show ((9 : Nat) : Int) = 9 from rfl, prtW_9] at h2
      exact ⟨rfl, (numB_inj a0 a1 (List.cons.inj (List.cons.inj h2).2).1.symm)⟩
    · rw [prtW_10] at h1
      have e0 := (List.cons.inj h1).1
      rw [e0, kindN_10] at hk
      subst hk
      rw [h1, show ((10 : Nat) : Int) = 10 from rfl, prtW_10] at h2
      exact ⟨rfl, (numB_inj a0 a1 (List.cons.inj (List.cons.inj h2).2).1.symm)⟩

theorem joinB_len {xs : List ByteArray} (h : ∀ x ∈ xs, x.data.toList.length ≤ 21) : (joinB [32] xs).length ≤ xs.length * 22 := by
  induction xs with
  | nil => simp [joinB]
  | cons x xs ih =>
    have hx := h x (by simp)
    have ih := ih fun y hy => h y (by simp [hy])
    cases xs with
    | nil => simp only [joinB, List.length_cons, List.length_nil]; omega
    | cons y ys =>
      simp only [joinB, List.length_append, List.length_cons, List.length_nil] at ih ⊢
      omega
theorem fl_nil : ∀ x ∈ ([] : List ByteArray), x.data.toList.length ≤ 21 := fun x hx => by simp at hx
theorem fl_cons {a : ByteArray} {r : List ByteArray} (h : a.data.toList.length ≤ 21) (hr : ∀ x ∈ r, x.data.toList.length ≤ 21) : ∀ x ∈ a :: r, x.data.toList.length ≤ 21 := fun x hx => by
  rcases List.mem_cons.1 hx with rfl | hx
  · exact h
  · exact hr x hx
theorem prtW_len {k a b c : Int} {l o : Bool} {sg : Int} (ha : I64 a) (hb : I64 b) (hc : I64 c) : (∀ x ∈ prtW k a b c l o sg, x.data.toList.length ≤ 21) ∧ (prtW k a b c l o sg).length ≤ 5 := by
  unfold prtW
  have na := numB_len ha
  have nb := numB_len hb
  have nc := numB_len hc
  have fl := flag_len l (x := ⟨#[108, 101, 102, 116]⟩) (y := ⟨#[114, 105, 103, 104, 116]⟩) (k := 21) (by decide) (by decide)
  have fo := flag_len o (x := ⟨#[111, 118, 101, 114]⟩) (y := ⟨#[117, 110, 100, 101, 114]⟩) (k := 21) (by decide) (by decide)
  have fs := flag_len (sg == 1) (x := ⟨#[43]⟩) (y := if sg == -1 then ⟨#[45]⟩ else ⟨#[63]⟩) (k := 21) (by decide) (flag_len (sg == -1) (x := ⟨#[45]⟩) (y := ⟨#[63]⟩) (k := 21) (by decide) (by decide))
  by_cases h1 : k = 1
  · rw [if_pos h1]; exact ⟨(fl_cons (by decide) (fl_cons na fl_nil)), Nat.le_of_ble_eq_true rfl⟩
  rw [if_neg h1]
  by_cases h2 : k = 2
  · rw [if_pos h2]; exact ⟨(fl_cons (by decide) (fl_cons na (fl_cons nb (fl_cons nc fl_nil)))), Nat.le_of_ble_eq_true rfl⟩
  rw [if_neg h2]
  by_cases h3 : k = 3
  · rw [if_pos h3]; exact ⟨(fl_cons (by decide) (fl_cons na (fl_cons nb fl_nil))), Nat.le_of_ble_eq_true rfl⟩
  rw [if_neg h3]
  by_cases h4 : k = 4
  · rw [if_pos h4]; exact ⟨(fl_cons (by decide) (fl_cons na fl_nil)), Nat.le_of_ble_eq_true rfl⟩
  rw [if_neg h4]
  by_cases h5 : k = 5
  · rw [if_pos h5]; exact ⟨(fl_cons (by decide) (fl_cons na (fl_cons fo (fl_cons fs fl_nil)))), Nat.le_of_ble_eq_true rfl⟩
  rw [if_neg h5]
  by_cases h6 : k = 6
  · rw [if_pos h6]; exact ⟨(fl_cons (by decide) (fl_cons na (fl_cons nb fl_nil))), Nat.le_of_ble_eq_true rfl⟩
  rw [if_neg h6]
  by_cases h7 : k = 7
  · rw [if_pos h7]; exact ⟨(fl_cons (by decide) (fl_cons na (fl_cons nb (fl_cons fl (fl_cons fo fl_nil))))), Nat.le_of_ble_eq_true rfl⟩
  rw [if_neg h7]
  by_cases h8 : k = 8
  · rw [if_pos h8]; exact ⟨(fl_cons (by decide) (fl_cons na (fl_cons nb (fl_cons nc fl_nil)))), Nat.le_of_ble_eq_true rfl⟩
  rw [if_neg h8]
  by_cases h9 : k = 9
  · rw [if_pos h9]; exact ⟨(fl_cons (by decide) (fl_cons na fl_nil)), Nat.le_of_ble_eq_true rfl⟩
  rw [if_neg h9]
  by_cases h10 : k = 10
  · rw [if_pos h10]; exact ⟨(fl_cons (by decide) (fl_cons na fl_nil)), Nat.le_of_ble_eq_true rfl⟩
  rw [if_neg h10]
  exact ⟨(fl_cons (by decide) fl_nil), Nat.le_of_ble_eq_true rfl⟩

theorem law4 (hk : PEv S 13 [] (rb true)) (k a b c : Int) (l o : Bool) (sg : Int) (ha : I64 a) (hb : I64 b) (hc : I64 c) : PEv S 4 [mvV k a b c l o sg] (rb true) := by
  have s13 : S.shared 13 = false := by kernel_rfl
  have s14 : S.shared 14 = false := by kernel_rfl
  have s15 : S.shared 15 = false := by kernel_rfl
  have s16 : S.shared 16 = false := by kernel_rfl
  have s17 : S.shared 17 = false := by kernel_rfl
  have h14 := print14_all k a b c l o sg ha hb hc
  have h15 := print15_of (s := joinS (prtW k a b c l o sg)) ha hb hc rfl
  have hlen : (joinS (prtW k a b c l o sg)).size < 4294967281 := by
    have h1 := prtW_len (k := k) (l := l) (o := o) (sg := sg) ha hb hc
    have h2 := joinB_len h1.1
    have h3 : (joinS (prtW k a b c l o sg)).size = (joinB [32] (prtW k a b c l o sg)).length := by
      show (joinB [32] (prtW k a b c l o sg)).toArray.size = _
      simp
    have := h1.2
    omega
  have hsp0 := split_prt k a b c l o sg
  have hgood : ∀ w0 ws, w0 :: ws = prtW k a b c l o sg → parseW (joinS (prtW k a b c l o sg)) w0 ws = errR → k < 1 ∨ 10 < k ∨ a < 0 ∨ b < 0 ∨ c < 0 ∨ (k = 5 ∧ sg ≠ 1 ∧ sg ≠ -1) := by
    intro w0 ws hw he
    apply Classical.byContradiction
    intro hn
    exact parse_good ha hb hc (by omega) (by omega) (by omega) (by omega) (by omega) hw he
  have hsame := fun (w0 : ByteArray) (ws : List ByteArray) (hw : w0 :: ws = prtW k a b c l o sg) k2 a2 b2 c2 l2 o2 sg2 => same_ka (k2 := k2) (a2 := a2) (b2 := b2) (c2 := c2) (l2 := l2) (o2 := o2) (sg2 := sg2) hw
  generalize prtW k a b c l o sg = pw at h14 h15 hlen hsp0 hgood hsame
  generalize joinS pw = t at h14 h15 hlen hsp0 hgood hsame
  obtain ⟨w0, ws, hsp, hp⟩ := parse16 t hlen
  have hw : w0 :: ws = pw := map_inj (by rw [← hsp0, hsp]; rfl)
  refine PEv_fn rfl (S_fns c4) (Nat.le_of_ble_eq_true rfl) ?_
  by_cases he : parseW t w0 ws = errR
  · have hbad := hgood w0 ws hw he
    rw [he] at hp
    by_cases b1 : k < 1
    · simp only [↓R_seq, ↓R_text, ↓R_draw, ↓W_block_iff, ↓R_cond, ↓RN_op, ↓RN_guard, ↓RN_nil, ↓RD_op, ↓RD_guard, ↓RD_nil, ↓W_ret_iff, ↓W_skip_iff, ↓W_exit_iff, ↓thenW_normal, ↓thenW_exit, ↓thenW_ret, ↓blockQ_normal, ↓blockQ_ret, ↓blockQ_exit, ↓nextQ_normal, ↓nextQ_exit, ↓nextQ_ret, cW_true, cW_false, gW_true, gW_false, gP_done, dW_true, dW_false, dP_done, wantV_bool, wantV_undef, plan, ev_t, ev_i, ev_b, ev_k, put_some, put_none, upd_apply, ienv_zero, ienv_succ, binV, binInt, eqV, isNilV, app, List.map_nil, List.append_nil, List.map_cons, true_and, and_true, true_or, if_true, if_false, Option.map_some, reduceIte, Nat.reduceEqDiff, decide_true, decide_false, beq_self_eq_true, reduceCtorEq, ge_iff_le, Bool.false_eq_true, Bool.not_true, Bool.not_false, E_ret, E_normal, endV_some, resultsV, noTup, tupV, Al.all_oks, outV_p, norm_int, norm_bool, norm_str, norm_nils, norm_sl, norm_box, norm_fn, norm_nilp, norm_nilf, norm_nilm, norm_mp, snapVs_nil, snapVs_cons, snapCons_some, snapV_p, fnOf, bft, btf, bff, btt, Nat.reduceAdd, List.cons_append, List.nil_append, Bool.and_true, Bool.and_false, Bool.true_and, Bool.false_and, asN_nat, rdAt, takeV, wrAt, splice, cellsV, lenL, List.drop_zero, List.take_zero, List.length_cons, List.length_nil, List.take_succ_cons, Nat.le_refl, ne_eq, not_true_eq_false, and_self, List.drop_nil, Nat.zero_add, Nat.reduceLeDiff, List.drop_succ_cons, not_false_eq_true, List.length_map, snap_p, consR_some, collect_nil, collect_cons, snapV_agg, partsV, elemsV, toPss, toPs, toP, fill, List.take_nil, asN_lit, Nat.reduceMul, Nat.reduceLT, Nat.mul_one, Nat.zero_mul, snapV_one, snap_hsl, snapHsl, snap_href, snapHref, snap_ps, Nat.zero_le, not_false_eq_true, i4, noBlk, s14, s15, s16, s17, s13, gP_str h14, gP_str h15, gP_land hp (landErr _ _ _ _), gP_bool hk, neq_iff, eqCs, eqC, planAppend, elemsOf, szOf, szOK, frz, frzL, room, planSlice, boundOf, List.flatten_cons, Nat.reduceSub, Nat.sub_zero, Int.reduceLT, Int.reduceAdd, Int.reduceBEq, Int.reduceBNe, Int.reduceLE, iw1, iw2, iw3, Int.zero_add, List.getElem?_cons_zero, List.getElem?_cons_succ, List.contains_eq_mem, List.not_mem_nil, frzL_nil, b1]
    by_cases b2 : 10 < k
    · simp only [↓R_seq, ↓R_text, ↓R_draw, ↓W_block_iff, ↓R_cond, ↓RN_op, ↓RN_guard, ↓RN_nil, ↓RD_op, ↓RD_guard, ↓RD_nil, ↓W_ret_iff, ↓W_skip_iff, ↓W_exit_iff, ↓thenW_normal, ↓thenW_exit, ↓thenW_ret, ↓blockQ_normal, ↓blockQ_ret, ↓blockQ_exit, ↓nextQ_normal, ↓nextQ_exit, ↓nextQ_ret, cW_true, cW_false, gW_true, gW_false, gP_done, dW_true, dW_false, dP_done, wantV_bool, wantV_undef, plan, ev_t, ev_i, ev_b, ev_k, put_some, put_none, upd_apply, ienv_zero, ienv_succ, binV, binInt, eqV, isNilV, app, List.map_nil, List.append_nil, List.map_cons, true_and, and_true, true_or, if_true, if_false, Option.map_some, reduceIte, Nat.reduceEqDiff, decide_true, decide_false, beq_self_eq_true, reduceCtorEq, ge_iff_le, Bool.false_eq_true, Bool.not_true, Bool.not_false, E_ret, E_normal, endV_some, resultsV, noTup, tupV, Al.all_oks, outV_p, norm_int, norm_bool, norm_str, norm_nils, norm_sl, norm_box, norm_fn, norm_nilp, norm_nilf, norm_nilm, norm_mp, snapVs_nil, snapVs_cons, snapCons_some, snapV_p, fnOf, bft, btf, bff, btt, Nat.reduceAdd, List.cons_append, List.nil_append, Bool.and_true, Bool.and_false, Bool.true_and, Bool.false_and, asN_nat, rdAt, takeV, wrAt, splice, cellsV, lenL, List.drop_zero, List.take_zero, List.length_cons, List.length_nil, List.take_succ_cons, Nat.le_refl, ne_eq, not_true_eq_false, and_self, List.drop_nil, Nat.zero_add, Nat.reduceLeDiff, List.drop_succ_cons, not_false_eq_true, List.length_map, snap_p, consR_some, collect_nil, collect_cons, snapV_agg, partsV, elemsV, toPss, toPs, toP, fill, List.take_nil, asN_lit, Nat.reduceMul, Nat.reduceLT, Nat.mul_one, Nat.zero_mul, snapV_one, snap_hsl, snapHsl, snap_href, snapHref, snap_ps, Nat.zero_le, not_false_eq_true, i4, noBlk, s14, s15, s16, s17, s13, gP_str h14, gP_str h15, gP_land hp (landErr _ _ _ _), gP_bool hk, neq_iff, eqCs, eqC, planAppend, elemsOf, szOf, szOK, frz, frzL, room, planSlice, boundOf, List.flatten_cons, Nat.reduceSub, Nat.sub_zero, Int.reduceLT, Int.reduceAdd, Int.reduceBEq, Int.reduceBNe, Int.reduceLE, iw1, iw2, iw3, Int.zero_add, List.getElem?_cons_zero, List.getElem?_cons_succ, List.contains_eq_mem, List.not_mem_nil, frzL_nil, b1, b2]
    by_cases b3 : a < 0
    · simp only [↓R_seq, ↓R_text, ↓R_draw, ↓W_block_iff, ↓R_cond, ↓RN_op, ↓RN_guard, ↓RN_nil, ↓RD_op, ↓RD_guard, ↓RD_nil, ↓W_ret_iff, ↓W_skip_iff, ↓W_exit_iff, ↓thenW_normal, ↓thenW_exit, ↓thenW_ret, ↓blockQ_normal, ↓blockQ_ret, ↓blockQ_exit, ↓nextQ_normal, ↓nextQ_exit, ↓nextQ_ret, cW_true, cW_false, gW_true, gW_false, gP_done, dW_true, dW_false, dP_done, wantV_bool, wantV_undef, plan, ev_t, ev_i, ev_b, ev_k, put_some, put_none, upd_apply, ienv_zero, ienv_succ, binV, binInt, eqV, isNilV, app, List.map_nil, List.append_nil, List.map_cons, true_and, and_true, true_or, if_true, if_false, Option.map_some, reduceIte, Nat.reduceEqDiff, decide_true, decide_false, beq_self_eq_true, reduceCtorEq, ge_iff_le, Bool.false_eq_true, Bool.not_true, Bool.not_false, E_ret, E_normal, endV_some, resultsV, noTup, tupV, Al.all_oks, outV_p, norm_int, norm_bool, norm_str, norm_nils, norm_sl, norm_box, norm_fn, norm_nilp, norm_nilf, norm_nilm, norm_mp, snapVs_nil, snapVs_cons, snapCons_some, snapV_p, fnOf, bft, btf, bff, btt, Nat.reduceAdd, List.cons_append, List.nil_append, Bool.and_true, Bool.and_false, Bool.true_and, Bool.false_and, asN_nat, rdAt, takeV, wrAt, splice, cellsV, lenL, List.drop_zero, List.take_zero, List.length_cons, List.length_nil, List.take_succ_cons, Nat.le_refl, ne_eq, not_true_eq_false, and_self, List.drop_nil, Nat.zero_add, Nat.reduceLeDiff, List.drop_succ_cons, not_false_eq_true, List.length_map, snap_p, consR_some, collect_nil, collect_cons, snapV_agg, partsV, elemsV, toPss, toPs, toP, fill, List.take_nil, asN_lit, Nat.reduceMul, Nat.reduceLT, Nat.mul_one, Nat.zero_mul, snapV_one, snap_hsl, snapHsl, snap_href, snapHref, snap_ps, Nat.zero_le, not_false_eq_true, i4, noBlk, s14, s15, s16, s17, s13, gP_str h14, gP_str h15, gP_land hp (landErr _ _ _ _), gP_bool hk, neq_iff, eqCs, eqC, planAppend, elemsOf, szOf, szOK, frz, frzL, room, planSlice, boundOf, List.flatten_cons, Nat.reduceSub, Nat.sub_zero, Int.reduceLT, Int.reduceAdd, Int.reduceBEq, Int.reduceBNe, Int.reduceLE, iw1, iw2, iw3, Int.zero_add, List.getElem?_cons_zero, List.getElem?_cons_succ, List.contains_eq_mem, List.not_mem_nil, frzL_nil, b1, b2, b3]
    by_cases b4 : b < 0
    · simp only [↓R_seq, ↓R_text, ↓R_draw, ↓W_block_iff, ↓R_cond, ↓RN_op, ↓RN_guard, ↓RN_nil, ↓RD_op, ↓RD_guard, ↓RD_nil, ↓W_ret_iff, ↓W_skip_iff, ↓W_exit_iff, ↓thenW_normal, ↓thenW_exit, ↓thenW_ret, ↓blockQ_normal, ↓blockQ_ret, ↓blockQ_exit, ↓nextQ_normal, ↓nextQ_exit, ↓nextQ_ret, cW_true, cW_false, gW_true, gW_false, gP_done, dW_true, dW_false, dP_done, wantV_bool, wantV_undef, plan, ev_t, ev_i, ev_b, ev_k, put_some, put_none, upd_apply, ienv_zero, ienv_succ, binV, binInt, eqV, isNilV, app, List.map_nil, List.append_nil, List.map_cons, true_and, and_true, true_or, if_true, if_false, Option.map_some, reduceIte, Nat.reduceEqDiff, decide_true, decide_false, beq_self_eq_true, reduceCtorEq, ge_iff_le, Bool.false_eq_true, Bool.not_true, Bool.not_false, E_ret, E_normal, endV_some, resultsV, noTup, tupV, Al.all_oks, outV_p, norm_int, norm_bool, norm_str, norm_nils, norm_sl, norm_box, norm_fn, norm_nilp, norm_nilf, norm_nilm, norm_mp, snapVs_nil, snapVs_cons, snapCons_some, snapV_p, fnOf, bft, btf, bff, btt, Nat.reduceAdd, List.cons_append, List.nil_append, Bool.and_true, Bool.and_false, Bool.true_and, Bool.false_and, asN_nat, rdAt, takeV, wrAt, splice, cellsV, lenL, List.drop_zero, List.take_zero, List.length_cons, List.length_nil, List.take_succ_cons, Nat.le_refl, ne_eq, not_true_eq_false, and_self, List.drop_nil, Nat.zero_add, Nat.reduceLeDiff, List.drop_succ_cons, not_false_eq_true, List.length_map, snap_p, consR_some, collect_nil, collect_cons, snapV_agg, partsV, elemsV, toPss, toPs, toP, fill, List.take_nil, asN_lit, Nat.reduceMul, Nat.reduceLT, Nat.mul_one, Nat.zero_mul, snapV_one, snap_hsl, snapHsl, snap_href, snapHref, snap_ps, Nat.zero_le, not_false_eq_true, i4, noBlk, s14, s15, s16, s17, s13, gP_str h14, gP_str h15, gP_land hp (landErr _ _ _ _), gP_bool hk, neq_iff, eqCs, eqC, planAppend, elemsOf, szOf, szOK, frz, frzL, room, planSlice, boundOf, List.flatten_cons, Nat.reduceSub, Nat.sub_zero, Int.reduceLT, Int.reduceAdd, Int.reduceBEq, Int.reduceBNe, Int.reduceLE, iw1, iw2, iw3, Int.zero_add, List.getElem?_cons_zero, List.getElem?_cons_succ, List.contains_eq_mem, List.not_mem_nil, frzL_nil, b1, b2, b3, b4]
    by_cases b5 : c < 0
    · simp only [↓R_seq, ↓R_text, ↓R_draw, ↓W_block_iff, ↓R_cond, ↓RN_op, ↓RN_guard, ↓RN_nil, ↓RD_op, ↓RD_guard, ↓RD_nil, ↓W_ret_iff, ↓W_skip_iff, ↓W_exit_iff, ↓thenW_normal, ↓thenW_exit, ↓thenW_ret, ↓blockQ_normal, ↓blockQ_ret, ↓blockQ_exit, ↓nextQ_normal, ↓nextQ_exit, ↓nextQ_ret, cW_true, cW_false, gW_true, gW_false, gP_done, dW_true, dW_false, dP_done, wantV_bool, wantV_undef, plan, ev_t, ev_i, ev_b, ev_k, put_some, put_none, upd_apply, ienv_zero, ienv_succ, binV, binInt, eqV, isNilV, app, List.map_nil, List.append_nil, List.map_cons, true_and, and_true, true_or, if_true, if_false, Option.map_some, reduceIte, Nat.reduceEqDiff, decide_true, decide_false, beq_self_eq_true, reduceCtorEq, ge_iff_le, Bool.false_eq_true, Bool.not_true, Bool.not_false, E_ret, E_normal, endV_some, resultsV, noTup, tupV, Al.all_oks, outV_p, norm_int, norm_bool, norm_str, norm_nils, norm_sl, norm_box, norm_fn, norm_nilp, norm_nilf, norm_nilm, norm_mp, snapVs_nil, snapVs_cons, snapCons_some, snapV_p, fnOf, bft, btf, bff, btt, Nat.reduceAdd, List.cons_append, List.nil_append, Bool.and_true, Bool.and_false, Bool.true_and, Bool.false_and, asN_nat, rdAt, takeV, wrAt, splice, cellsV, lenL, List.drop_zero, List.take_zero, List.length_cons, List.length_nil, List.take_succ_cons, Nat.le_refl, ne_eq, not_true_eq_false, and_self, List.drop_nil, Nat.zero_add, Nat.reduceLeDiff, List.drop_succ_cons, not_false_eq_true, List.length_map, snap_p, consR_some, collect_nil, collect_cons, snapV_agg, partsV, elemsV, toPss, toPs, toP, fill, List.take_nil, asN_lit, Nat.reduceMul, Nat.reduceLT, Nat.mul_one, Nat.zero_mul, snapV_one, snap_hsl, snapHsl, snap_href, snapHref, snap_ps, Nat.zero_le, not_false_eq_true, i4, noBlk, s14, s15, s16, s17, s13, gP_str h14, gP_str h15, gP_land hp (landErr _ _ _ _), gP_bool hk, neq_iff, eqCs, eqC, planAppend, elemsOf, szOf, szOK, frz, frzL, room, planSlice, boundOf, List.flatten_cons, Nat.reduceSub, Nat.sub_zero, Int.reduceLT, Int.reduceAdd, Int.reduceBEq, Int.reduceBNe, Int.reduceLE, iw1, iw2, iw3, Int.zero_add, List.getElem?_cons_zero, List.getElem?_cons_succ, List.contains_eq_mem, List.not_mem_nil, frzL_nil, b1, b2, b3, b4, b5]
    have b6 : k = 5 ∧ sg ≠ 1 ∧ sg ≠ -1 := by omega
    obtain ⟨b6, b7, b8⟩ := b6
    subst b6
    have b7 : (sg == 1) = false := by simpa using b7
    have b8 : (sg == -1) = false := by simpa using b8
    simp only [↓R_seq, ↓R_text, ↓R_draw, ↓W_block_iff, ↓R_cond, ↓RN_op, ↓RN_guard, ↓RN_nil, ↓RD_op, ↓RD_guard, ↓RD_nil, ↓W_ret_iff, ↓W_skip_iff, ↓W_exit_iff, ↓thenW_normal, ↓thenW_exit, ↓thenW_ret, ↓blockQ_normal, ↓blockQ_ret, ↓blockQ_exit, ↓nextQ_normal, ↓nextQ_exit, ↓nextQ_ret, cW_true, cW_false, gW_true, gW_false, gP_done, dW_true, dW_false, dP_done, wantV_bool, wantV_undef, plan, ev_t, ev_i, ev_b, ev_k, put_some, put_none, upd_apply, ienv_zero, ienv_succ, binV, binInt, eqV, isNilV, app, List.map_nil, List.append_nil, List.map_cons, true_and, and_true, true_or, if_true, if_false, Option.map_some, reduceIte, Nat.reduceEqDiff, decide_true, decide_false, beq_self_eq_true, reduceCtorEq, ge_iff_le, Bool.false_eq_true, Bool.not_true, Bool.not_false, E_ret, E_normal, endV_some, resultsV, noTup, tupV, Al.all_oks, outV_p, norm_int, norm_bool, norm_str, norm_nils, norm_sl, norm_box, norm_fn, norm_nilp, norm_nilf, norm_nilm, norm_mp, snapVs_nil, snapVs_cons, snapCons_some, snapV_p, fnOf, bft, btf, bff, btt, Nat.reduceAdd, List.cons_append, List.nil_append, Bool.and_true, Bool.and_false, Bool.true_and, Bool.false_and, asN_nat, rdAt, takeV, wrAt, splice, cellsV, lenL, List.drop_zero, List.take_zero, List.length_cons, List.length_nil, List.take_succ_cons, Nat.le_refl, ne_eq, not_true_eq_false, and_self, List.drop_nil, Nat.zero_add, Nat.reduceLeDiff, List.drop_succ_cons, not_false_eq_true, List.length_map, snap_p, consR_some, collect_nil, collect_cons, snapV_agg, partsV, elemsV, toPss, toPs, toP, fill, List.take_nil, asN_lit, Nat.reduceMul, Nat.reduceLT, Nat.mul_one, Nat.zero_mul, snapV_one, snap_hsl, snapHsl, snap_href, snapHref, snap_ps, Nat.zero_le, not_false_eq_true, i4, noBlk, s14, s15, s16, s17, s13, gP_str h14, gP_str h15, gP_land hp (landErr _ _ _ _), gP_bool hk, neq_iff, eqCs, eqC, planAppend, elemsOf, szOf, szOK, frz, frzL, room, planSlice, boundOf, List.flatten_cons, Nat.reduceSub, Nat.sub_zero, Int.reduceLT, Int.reduceAdd, Int.reduceBEq, Int.reduceBNe, Int.reduceLE, iw1, iw2, iw3, Int.zero_add, List.getElem?_cons_zero, List.getElem?_cons_succ, List.contains_eq_mem, List.not_mem_nil, frzL_nil, b1, b2, b3, b4, b5, bne, b7, b8]
  · obtain ⟨k2, a2, b2, c2, l2, o2, sg2, h1, ha2, hb2, hc2, a0, hj, hw2, hkk, hk0, h17⟩ := parse_ok hsp he
    obtain ⟨rfl, rfl⟩ := hsame w0 ws hw k2 a2 b2 c2 l2 o2 sg2 hw2 hkk hk0 a0 ha2.2
    rw [h1] at hp
    have h15' := print15_of ha2 hb2 hc2 hj
    simp only [↓R_seq, ↓R_text, ↓R_draw, ↓W_block_iff, ↓R_cond, ↓RN_op, ↓RN_guard, ↓RN_nil, ↓RD_op, ↓RD_guard, ↓RD_nil, ↓W_ret_iff, ↓W_skip_iff, ↓W_exit_iff, ↓thenW_normal, ↓thenW_exit, ↓thenW_ret, ↓blockQ_normal, ↓blockQ_ret, ↓blockQ_exit, ↓nextQ_normal, ↓nextQ_exit, ↓nextQ_ret, cW_true, cW_false, gW_true, gW_false, gP_done, dW_true, dW_false, dP_done, wantV_bool, wantV_undef, plan, ev_t, ev_i, ev_b, ev_k, put_some, put_none, upd_apply, ienv_zero, ienv_succ, binV, binInt, eqV, isNilV, app, List.map_nil, List.append_nil, List.map_cons, true_and, and_true, true_or, if_true, if_false, Option.map_some, reduceIte, Nat.reduceEqDiff, decide_true, decide_false, beq_self_eq_true, reduceCtorEq, ge_iff_le, Bool.false_eq_true, Bool.not_true, Bool.not_false, E_ret, E_normal, endV_some, resultsV, noTup, tupV, Al.all_oks, outV_p, norm_int, norm_bool, norm_str, norm_nils, norm_sl, norm_box, norm_fn, norm_nilp, norm_nilf, norm_nilm, norm_mp, snapVs_nil, snapVs_cons, snapCons_some, snapV_p, fnOf, bft, btf, bff, btt, Nat.reduceAdd, List.cons_append, List.nil_append, Bool.and_true, Bool.and_false, Bool.true_and, Bool.false_and, asN_nat, rdAt, takeV, wrAt, splice, cellsV, lenL, List.drop_zero, List.take_zero, List.length_cons, List.length_nil, List.take_succ_cons, Nat.le_refl, ne_eq, not_true_eq_false, and_self, List.drop_nil, Nat.zero_add, Nat.reduceLeDiff, List.drop_succ_cons, not_false_eq_true, List.length_map, snap_p, consR_some, collect_nil, collect_cons, snapV_agg, partsV, elemsV, toPss, toPs, toP, fill, List.take_nil, asN_lit, Nat.reduceMul, Nat.reduceLT, Nat.mul_one, Nat.zero_mul, snapV_one, snap_hsl, snapHsl, snap_href, snapHref, snap_ps, Nat.zero_le, not_false_eq_true, i4, noBlk, s14, s15, s16, s17, s13, gP_str h14, gP_str h15, gP_str h15', gP_land hp (landOk _ _ _ _ _ _ _ _ _ _ _), gP_bool hk, neq_iff, eql_iff, planAppend, elemsOf, szOf, szOK, frz, frzL, room, planSlice, boundOf, List.flatten_cons, Nat.reduceSub, Nat.sub_zero, Int.reduceLT, Int.reduceAdd, Int.reduceBEq, Int.reduceBNe, Int.reduceLE, iw1, iw2, iw3, Int.zero_add, List.getElem?_cons_zero, List.getElem?_cons_succ, List.contains_eq_mem, List.not_mem_nil, frzL_nil]
end Go.Abs
