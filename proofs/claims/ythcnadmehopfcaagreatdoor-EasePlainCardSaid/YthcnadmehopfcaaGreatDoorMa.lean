/-
  An abstract machine for the code of the model.
-/
import Derived.KernelRfl
import Derived.Calls
import Derived.WalkKit
set_option linter.all false
namespace Go.Abs
theorem aa{p:Prop}(h:p:=by omega):p:=h
theorem ae{p:Prop}(h:p:=by decide):p:=h
theorem af{p:Prop}(h:p:=by simp):p:=h
theorem ah{p:Prop}(h:p:=by kernel_rfl):p:=h
theorem ay:type_of% @if_neg.{1}:=@if_neg.{1}
theorem aF:type_of% @if_pos.{1}:=@if_pos.{1}
theorem aU:type_of% @List.mem_of_getElem?.{0}:=@List.mem_of_getElem?.{0}
theorem aW:type_of% @List.getElem?_eq_some_iff.{0}:=@List.getElem?_eq_some_iff.{0}
theorem bl:type_of% @Nat.zero_le:=@Nat.zero_le
theorem bJ:type_of% @Nat.le_refl:=@Nat.le_refl
theorem cD:type_of% @List.length_map.{0,0}:=@List.length_map.{0,0}
theorem cM:type_of% @List.mem_cons.{0}:=@List.mem_cons.{0}
theorem cN:type_of% @Bool.and_eq_true:=@Bool.and_eq_true
theorem dh:type_of% @List.length_cons.{0}:=@List.length_cons.{0}
theorem di:type_of% @List.getD_eq_getElem?_getD.{0}:=@List.getD_eq_getElem?_getD.{0}
theorem dp:type_of% @List.mem_map.{0,0}:=@List.mem_map.{0,0}
theorem dx:type_of% @Bool.false_eq_true:=@Bool.false_eq_true
theorem dE:type_of% @Option.map_eq_some_iff.{0,0}:=@Option.map_eq_some_iff.{0,0}
theorem dI:type_of% @beq_iff_eq.{0}:=@beq_iff_eq.{0}
theorem dK:type_of% @List.map_cons.{0,0}:=@List.map_cons.{0,0}
theorem dO:type_of% @Nat.mod_lt:=@Nat.mod_lt
theorem dV:type_of% @Nat.mod_eq_of_lt:=@Nat.mod_eq_of_lt
theorem ez:type_of% @List.length_nil.{0}:=@List.length_nil.{0}
theorem eD:type_of% @List.mem_append.{0}:=@List.mem_append.{0}
theorem ff:type_of% @List.length_append.{0}:=@List.length_append.{0}
theorem fD:type_of% @Option.some.injEq.{0}:=@Option.some.injEq.{0}
theorem fQ:type_of% @List.getElem?_map.{0,0}:=@List.getElem?_map.{0,0}
theorem fR:type_of% @List.take_of_length_le.{0}:=@List.take_of_length_le.{0}
theorem fS:type_of% @of_decide_eq_false:=@of_decide_eq_false
theorem fX:type_of% @List.length_take.{0}:=@List.length_take.{0}
theorem fY:type_of% @List.nil_append.{0}:=@List.nil_append.{0}
theorem fZ:type_of% @Nat.add_mul:=@Nat.add_mul
theorem gA:type_of% @List.mem_range:=@List.mem_range
theorem gC:type_of% @List.not_mem_nil.{0}:=@List.not_mem_nil.{0}
theorem ig:type_of% @Nat.le_of_ble_eq_true:=@Nat.le_of_ble_eq_true
theorem iQ:type_of% @Nat.zero_add:=@Nat.zero_add
theorem jd:type_of% @List.all_eq_true.{0}:=@List.all_eq_true.{0}
theorem je:type_of% @List.getElem?_of_mem.{0}:=@List.getElem?_of_mem.{0}
theorem jf:type_of% @List.length_pos_iff.{0}:=@List.length_pos_iff.{0}
theorem jy:type_of% @List.length_drop.{0}:=@List.length_drop.{0}
theorem jP:type_of% @List.append_nil.{0}:=@List.append_nil.{0}
theorem jQ:type_of% @List.take_length.{0}:=@List.take_length.{0}
theorem j6:type_of% @List.map_append.{0,0}:=@List.map_append.{0,0}
theorem j7:type_of% @List.map_nil.{0,0}:=@List.map_nil.{0,0}
theorem kB:type_of% @Prod.mk.injEq.{0,0}:=@Prod.mk.injEq.{0,0}
theorem kJ:type_of% @List.getElem?_take.{0}:=@List.getElem?_take.{0}
theorem kX:type_of% @List.take_add_one.{0}:=@List.take_add_one.{0}
theorem lD:type_of% @List.mem_singleton.{0}:=@List.mem_singleton.{0}
theorem lE:type_of% @beq_eq_false_iff_ne.{0}:=@beq_eq_false_iff_ne.{0}
theorem lQ:type_of% @List.flatten_cons.{0}:=@List.flatten_cons.{0}
theorem lR:type_of% @Nat.mul_le_mul_right:=@Nat.mul_le_mul_right
theorem mv:type_of% @Bool.not_eq_true':=@Bool.not_eq_true'
theorem mw:type_of% @List.all_cons.{0}:=@List.all_cons.{0}
theorem my:type_of% @List.getElem?_eq_getElem.{0}:=@List.getElem?_eq_getElem.{0}
theorem mz:type_of% @Option.map_some.{0,0}:=@Option.map_some.{0,0}
theorem mT:type_of% @Nat.le_trans:=@Nat.le_trans
theorem mU:type_of% @Nat.lt_succ_iff_lt_or_eq:=@Nat.lt_succ_iff_lt_or_eq
theorem mV:type_of% @Option.getD_some.{0}:=@Option.getD_some.{0}
theorem nC:type_of% @List.take_append_drop.{0}:=@List.take_append_drop.{0}
theorem nE:type_of% @Nat.not_lt_zero:=@Nat.not_lt_zero
theorem nG:type_of% @of_decide_eq_true:=@of_decide_eq_true
theorem pP:type_of% @List.all_nil.{0}:=@List.all_nil.{0}
theorem pQ:type_of% @List.getElem?_set.{0}:=@List.getElem?_set.{0}
theorem pR:type_of% @decide_eq_true_eq:=@decide_eq_true_eq
theorem qy:type_of% @List.nodup_cons.{0}:=@List.nodup_cons.{0}
theorem qA:type_of% @Nat.add_mod_right:=@Nat.add_mod_right
theorem rh:type_of% @Nat.mod_self:=@Nat.mod_self
theorem rj:type_of% @Option.some.inj.{0}:=@Option.some.inj.{0}
theorem rZ:type_of% @List.length_reverse.{0}:=@List.length_reverse.{0}
theorem th:type_of% @Int.eq_ofNat_of_zero_le:=@Int.eq_ofNat_of_zero_le
theorem ti:type_of% @List.getElem?_eq_none.{0}:=@List.getElem?_eq_none.{0}
theorem tj:type_of% @List.getElem_cons_drop.{0}:=@List.getElem_cons_drop.{0}
theorem tk:type_of% @List.length_set.{0}:=@List.length_set.{0}
theorem tm:type_of% @List.map_map.{0,0,0}:=@List.map_map.{0,0,0}
theorem uf:type_of% @List.getElem?_range:=@List.getElem?_range
theorem ug:type_of% @List.mem_cons_of_mem.{0}:=@List.mem_cons_of_mem.{0}
theorem uh:type_of% @List.nodup_nil.{0}:=@List.nodup_nil.{0}
theorem ui:type_of% @List.pairwise_cons.{0}:=@List.pairwise_cons.{0}
theorem uY:type_of% @List.getElem?_append_left.{0}:=@List.getElem?_append_left.{0}
theorem uZ:type_of% @List.mem_filter.{0}:=@List.mem_filter.{0}
theorem u4:type_of% @decide_eq_false:=@decide_eq_false
theorem vY:type_of% @Bool.and_self:=@Bool.and_self
theorem vZ:type_of% @Int.toNat_natCast:=@Int.toNat_natCast
theorem v7:type_of% @List.countP_append.{0}:=@List.countP_append.{0}
theorem v8:type_of% @List.getElem?_append_right.{0}:=@List.getElem?_append_right.{0}
theorem wa:type_of% @List.mem_of_mem_drop.{0}:=@List.mem_of_mem_drop.{0}
theorem we:type_of% @List.range_succ:=@List.range_succ
theorem wg:type_of% @Nat.eq_of_beq_eq_true:=@Nat.eq_of_beq_eq_true
theorem wm:type_of% @Nat.mod_two_eq_zero_or_one:=@Nat.mod_two_eq_zero_or_one
theorem xn:type_of% @Bool.and_true:=@Bool.and_true
theorem xr:type_of% @List.countP_cons.{0}:=@List.countP_cons.{0}
theorem xt:type_of% @List.ext_getElem.{0}:=@List.ext_getElem.{0}
theorem xu:type_of% @List.getElem?_drop.{0}:=@List.getElem?_drop.{0}
theorem xv:type_of% @List.mem_of_mem_take.{0}:=@List.mem_of_mem_take.{0}
theorem xw:type_of% @Nat.add_zero:=@Nat.add_zero
theorem xx:type_of% @decide_eq_true:=@decide_eq_true
theorem yJ:type_of% @Bool.or_eq_true:=@Bool.or_eq_true
theorem yK:type_of% @List.append_assoc.{0}:=@List.append_assoc.{0}
theorem yL:type_of% @List.cons.injEq.{0}:=@List.cons.injEq.{0}
theorem yM:type_of% @List.cons_append.{0}:=@List.cons_append.{0}
theorem yN:type_of% @List.countP_pos_iff.{0}:=@List.countP_pos_iff.{0}
theorem yO:type_of% @List.pairwise_map.{0,0}:=@List.pairwise_map.{0,0}
theorem An:type_of% @Bool.true_and:=@Bool.true_and
theorem Ao:type_of% @List.countP_map.{0,0}:=@List.countP_map.{0,0}
theorem Ap:type_of% @List.foldl_cons.{0,0}:=@List.foldl_cons.{0,0}
theorem Aq:type_of% @List.map_congr_left.{0,0}:=@List.map_congr_left.{0,0}
theorem Ar:type_of% @Nat.min_eq_left:=@Nat.min_eq_left
theorem As:type_of% @Nat.zero_mul:=@Nat.zero_mul
theorem Au:type_of% @not_or:=@not_or
theorem BP:type_of% @Bool.false_or:=@Bool.false_or
theorem BQ:type_of% @Bool.not_true:=@Bool.not_true
theorem BR:type_of% @List.mem_append_right.{0}:=@List.mem_append_right.{0}
theorem BS:type_of% @beq_self_eq_true.{0}:=@beq_self_eq_true.{0}
theorem Dv:type_of% @Array.getD_eq_getD_getElem?.{0}:=@Array.getD_eq_getD_getElem?.{0}
theorem Dw:type_of% @List.flatten_append.{0}:=@List.flatten_append.{0}
theorem Dx:type_of% @List.getElem_map.{0,0}:=@List.getElem_map.{0,0}
theorem Dy:type_of% @List.length_range:=@List.length_range
theorem Dz:type_of% @List.nodup_append.{0}:=@List.nodup_append.{0}
theorem DA:type_of% @List.nodup_range:=@List.nodup_range
theorem DB:type_of% @Nat.lt_of_lt_of_le:=@Nat.lt_of_lt_of_le
theorem Fj:type_of% @Bool.not_not:=@Bool.not_not
theorem Fk:type_of% @List.countP_eq_zero.{0}:=@List.countP_eq_zero.{0}
theorem Fl:type_of% @List.mem_append_left.{0}:=@List.mem_append_left.{0}
theorem Fm:type_of% @List.mem_flatten.{0}:=@List.mem_flatten.{0}
theorem Fo:type_of% @Nat.le_max_left:=@Nat.le_max_left
theorem Fp:type_of% @Nat.le_of_eq:=@Nat.le_of_eq
theorem HA:type_of% @Array.getElem?_toList.{0}:=@Array.getElem?_toList.{0}
theorem HB:type_of% @Bool.false_and:=@Bool.false_and
theorem HC:type_of% @Bool.not_false:=@Bool.not_false
theorem HD:type_of% @List.any_eq_false.{0}:=@List.any_eq_false.{0}
theorem HE:type_of% @List.flatten_nil.{0}:=@List.flatten_nil.{0}
theorem HF:type_of% @List.foldl_append.{0,0}:=@List.foldl_append.{0,0}
theorem HG:type_of% @List.length_eq_zero_iff.{0}:=@List.length_eq_zero_iff.{0}
theorem HH:type_of% @List.map_take.{0,0}:=@List.map_take.{0,0}
theorem HJ:type_of% @List.pairwise_append.{0}:=@List.pairwise_append.{0}
theorem HK:type_of% @List.pairwise_iff_getElem.{0}:=@List.pairwise_iff_getElem.{0}
theorem HL:type_of% @List.take_take.{0}:=@List.take_take.{0}
theorem HM:type_of% @Nat.add_assoc:=@Nat.add_assoc
theorem HN:type_of% @Nat.le_max_right:=@Nat.le_max_right
theorem HO:type_of% @Nat.sub_self:=@Nat.sub_self
theorem KX:type_of% @List.contains_iff_mem.{0}:=@List.contains_iff_mem.{0}
theorem KY:type_of% @List.countP_congr.{0}:=@List.countP_congr.{0}
theorem KZ:type_of% @List.countP_le_length.{0}:=@List.countP_le_length.{0}
theorem K0:type_of% @List.drop_length.{0}:=@List.drop_length.{0}
theorem K4:type_of% @List.ext_getElem?.{0}:=@List.ext_getElem?.{0}
theorem K5:type_of% @List.find?_eq_none.{0}:=@List.find?_eq_none.{0}
theorem K6:type_of% @List.getElem?_reverse.{0}:=@List.getElem?_reverse.{0}
theorem K7:type_of% @List.getElem_range:=@List.getElem_range
theorem K8:type_of% @List.getElem_set.{0}:=@List.getElem_set.{0}
theorem K9:type_of% @List.map_set.{0,0}:=@List.map_set.{0,0}
theorem La:type_of% @List.mem_cons_self.{0}:=@List.mem_cons_self.{0}
theorem Lb:type_of% @List.mem_of_find?_eq_some.{0}:=@List.mem_of_find?_eq_some.{0}
theorem Lc:type_of% @List.take_left.{0}:=@List.take_left.{0}
theorem Ld:type_of% @Nat.add_comm:=@Nat.add_comm
theorem Le:type_of% @Nat.le_succ:=@Nat.le_succ
theorem Lf:type_of% @Nat.lt_or_ge:=@Nat.lt_or_ge
theorem Lg:type_of% @Nat.lt_trichotomy:=@Nat.lt_trichotomy
theorem Lh:type_of% @Nat.one_mul:=@Nat.one_mul
theorem Oy:type_of% @Array.length_toList.{0}:=@Array.length_toList.{0}
theorem Oz:type_of% @Bool.or_eq_false_iff:=@Bool.or_eq_false_iff
theorem OA:type_of% @List.drop_zero.{0}:=@List.drop_zero.{0}
theorem OB:type_of% @List.filter_append.{0}:=@List.filter_append.{0}
theorem OC:type_of% @List.find?_some.{0}:=@List.find?_some.{0}
theorem OD:type_of% @List.idxOf_lt_length_iff.{0}:=@List.idxOf_lt_length_iff.{0}
theorem OE:type_of% @List.length_pos_of_mem.{0}:=@List.length_pos_of_mem.{0}
theorem OF:type_of% @List.map_drop.{0,0}:=@List.map_drop.{0,0}
theorem OG:type_of% @List.mem_flatMap.{0,0}:=@List.mem_flatMap.{0,0}
theorem OH:type_of% @List.take_append.{0}:=@List.take_append.{0}
theorem OI:type_of% @List.take_append_of_le_length.{0}:=@List.take_append_of_le_length.{0}
theorem OJ:type_of% @Nat.le_mul_of_pos_right:=@Nat.le_mul_of_pos_right
theorem OK:type_of% @Option.map_none.{0,0}:=@Option.map_none.{0,0}
theorem R8:type_of% @Array.getElem?_eq_some_iff.{0}:=@Array.getElem?_eq_some_iff.{0}
theorem R9:type_of% @Array.getElem?_push.{0}:=@Array.getElem?_push.{0}
theorem Sa:type_of% @Array.getElem?_setIfInBounds.{0}:=@Array.getElem?_setIfInBounds.{0}
theorem Sb:type_of% @Array.toList_append.{0}:=@Array.toList_append.{0}
theorem Sc:type_of% @Bool.eq_iff_iff:=@Bool.eq_iff_iff
theorem Sd:type_of% @List.countP_eq_length_filter.{0}:=@List.countP_eq_length_filter.{0}
theorem Se:type_of% @List.drop_of_length_le.{0}:=@List.drop_of_length_le.{0}
theorem Sf:type_of% @List.eq_of_mem_replicate.{0}:=@List.eq_of_mem_replicate.{0}
theorem Sg:type_of% @List.foldl_nil.{0,0}:=@List.foldl_nil.{0,0}
theorem Sh:type_of% @List.idxOf_cons.{0}:=@List.idxOf_cons.{0}
theorem Si:type_of% @List.map_reverse.{0,0}:=@List.map_reverse.{0,0}
theorem Sj:type_of% @List.mem_reverse.{0}:=@List.mem_reverse.{0}
theorem Sk:type_of% @List.size_toArray.{0}:=@List.size_toArray.{0}
theorem Sl:type_of% @List.sum_cons.{0}:=@List.sum_cons.{0}
theorem Sm:type_of% @Nat.mul_comm:=@Nat.mul_comm
theorem Sn:type_of% @Nat.one_ne_zero:=@Nat.one_ne_zero
theorem So:type_of% @Nat.succ_mul:=@Nat.succ_mul
theorem Sp:type_of% @Option.bind_eq_some_iff.{0,0}:=@Option.bind_eq_some_iff.{0,0}
theorem Yl:type_of% @List.Pairwise.imp_of_mem.{0}:=@List.Pairwise.imp_of_mem.{0}
theorem Ym:type_of% @List.all_eq_false.{0}:=@List.all_eq_false.{0}
theorem Yn:type_of% @List.any_eq_true.{0}:=@List.any_eq_true.{0}
theorem Yo:type_of% @List.contains_eq_mem.{0}:=@List.contains_eq_mem.{0}
theorem Yp:type_of% @List.countP_singleton.{0}:=@List.countP_singleton.{0}
theorem Yq:type_of% @List.drop_drop.{0}:=@List.drop_drop.{0}
theorem Yr:type_of% @List.drop_eq_getElem_cons.{0}:=@List.drop_eq_getElem_cons.{0}
theorem Ys:type_of% @List.drop_left.{0}:=@List.drop_left.{0}
theorem Yt:type_of% @List.filter_cons_of_neg.{0}:=@List.filter_cons_of_neg.{0}
theorem Yu:type_of% @List.getElem_idxOf.{0}:=@List.getElem_idxOf.{0}
theorem Yv:type_of% @List.getElem_mem.{0}:=@List.getElem_mem.{0}
theorem Yw:type_of% @List.length_erase_of_mem.{0}:=@List.length_erase_of_mem.{0}
theorem Yx:type_of% @List.length_replicate.{0}:=@List.length_replicate.{0}
theorem Yy:type_of% @List.map_eq_nil_iff.{0,0}:=@List.map_eq_nil_iff.{0,0}
theorem Yz:type_of% @List.mem_erase_of_ne.{0}:=@List.mem_erase_of_ne.{0}
theorem YA:type_of% @List.mem_filterMap.{0,0}:=@List.mem_filterMap.{0,0}
theorem YB:type_of% @List.perm_middle.{0}:=@List.perm_middle.{0}
theorem YC:type_of% @List.set_append_right.{0}:=@List.set_append_right.{0}
theorem YD:type_of% @List.set_cons_zero.{0}:=@List.set_cons_zero.{0}
theorem YE:type_of% @List.take_succ_cons.{0}:=@List.take_succ_cons.{0}
theorem YF:type_of% @Nat.add_sub_cancel:=@Nat.add_sub_cancel
theorem YG:type_of% @Nat.beq_refl:=@Nat.beq_refl
theorem YH:type_of% @Nat.lt_or_gt_of_ne:=@Nat.lt_or_gt_of_ne
theorem aia:type_of% @Array.foldl_toList.{0,0}:=@Array.foldl_toList.{0,0}
theorem aib:type_of% @Array.getElem?_append.{0}:=@Array.getElem?_append.{0}
theorem aic:type_of% @Array.size_append.{0}:=@Array.size_append.{0}
theorem aid:type_of% @Int.tdiv_eq_ediv_of_nonneg:=@Int.tdiv_eq_ediv_of_nonneg
theorem aie:type_of% @Int.toNat_of_nonneg:=@Int.toNat_of_nonneg
theorem aif:type_of% @List.Pairwise.imp.{0}:=@List.Pairwise.imp.{0}
theorem aih:type_of% @List.drop_append.{0}:=@List.drop_append.{0}
theorem aii:type_of% @List.drop_append_of_le_length.{0}:=@List.drop_append_of_le_length.{0}
theorem aij:type_of% @List.filterMap_append.{0,0}:=@List.filterMap_append.{0,0}
theorem aik:type_of% @List.find?_append.{0}:=@List.find?_append.{0}
theorem ail:type_of% @List.findIdx_getElem.{0}:=@List.findIdx_getElem.{0}
theorem aim:type_of% @List.flatMap_cons.{0,0}:=@List.flatMap_cons.{0,0}
theorem ain:type_of% @List.idxOf_append.{0}:=@List.idxOf_append.{0}
theorem aio:type_of% @List.range_eq_range':=@List.range_eq_range'
theorem aip:type_of% @List.set_eq_of_length_le.{0}:=@List.set_eq_of_length_le.{0}
theorem aiq:type_of% @List.set_getElem_self.{0}:=@List.set_getElem_self.{0}
theorem air:type_of% @List.take_reverse.{0}:=@List.take_reverse.{0}
theorem ais:type_of% @List.take_succ_eq_append_getElem.{0}:=@List.take_succ_eq_append_getElem.{0}
theorem ait:type_of% @List.toList_toArray.{0}:=@List.toList_toArray.{0}
theorem aiu:type_of% @Nat.ble_eq_true_of_le:=@Nat.ble_eq_true_of_le
theorem aiv:type_of% @Nat.div_add_mod:=@Nat.div_add_mod
theorem aiw:type_of% @Nat.le_of_not_lt:=@Nat.le_of_not_lt
theorem aix:type_of% @Nat.mod_add_mod:=@Nat.mod_add_mod
theorem avH:type_of% @Int.tmod_eq_emod_of_nonneg:=@Int.tmod_eq_emod_of_nonneg
theorem avI:type_of% @List.eq_nil_iff_forall_not_mem.{0}:=@List.eq_nil_iff_forall_not_mem.{0}
theorem avJ:type_of% @List.eq_nil_of_length_eq_zero.{0}:=@List.eq_nil_of_length_eq_zero.{0}
theorem avK:type_of% @List.findIdx_lt_length_of_exists.{0}:=@List.findIdx_lt_length_of_exists.{0}
inductive PV where
 |bool (b:Bool)
 |int (k:IntKind) (n:Int)
 |str (s:ByteArray)
 |uP|nils|qU|yz|nili|ifc|zs
 |box (cs:List PV)
 |sl (es:List (List PV))
 |mp (ag:Bool) (es:List (PV×List PV))
 |fn (f:Nat) (first cap:List PV)
 deriving Inhabited
inductive C where
 |p (v:PV)
 |aY (id g off:Nat)
 |dB (id g i off:Nat)
 |hsl (id g sz off len:Nat)
 |jW (id g:Nat)
 |hfn (f:Nat) (first cap:List C)
 deriving Inhabited
inductive V where
 |undef
 |one (c:C)
 |agg (cs:List C)
 |tup (vs:List V)
 deriving Inhabited
inductive Ob where
 |var (cs:List C)
 |arr (ty sz:Nat) (es:List (List PV))
 |iI (ty sz:Nat) (es:List (List C))
 |map (ag:Bool) (es:List (PV×List PV))
 |fvar (cs:List PV)
 |oR (ty sz:Nat) (es:List (List PV))
 |fmap (ag:Bool) (es:List (PV×List PV))
 deriving Inhabited
abbrev Env:=Nat->V
abbrev aA:=Nat->Nat×Option Ob
def dJ{α:Type}(f:Nat->α)(a:Nat)(x:α):Nat->α:=fun i=>if i=a then x else f i
theorem aN{α:Type}(f:Nat->α)(a b:Nat)(x:α):dJ f a x b=if b=a then x else f b:=rfl
inductive aR where
 |t (n:Nat)
 |i (n:Int)
 |b (x:Bool)
 |k (v:V)
inductive u5 where
 |bool|ptr|slc|map|fnc|ifc
 |str (ks:List Bool)
inductive mW where
 |yy (x:aR)
 |pick (c a b:aR)
 |alloc (site:Nat) (z:List PV)
 |box (site:Nat) (x:aR)
 |build (z:List PV) (parts:List (Nat×Nat×aR))
 |DI (site ty sz:Nat) (parts:List aR)
 |load (k:Option Nat) (x:aR)
 |store (n:Nat) (a x:aR)
 |Kf (x:aR)
 |bin (op:BinOp) (x y:aR)
 |eqc (k:u5) (neg:Bool) (x y:aR)
 |un (op:UnOp) (x:aR)
 |conv (k:IntKind) (x:aR)
 |bstr (x:aR)
 |mkfn (f:Nat) (first cap:List aR)
 |mkmap (site:Nat) (ag:Bool)
 |JX (site ty sz bytes:Nat) (z:List PV) (len cap:aR)
 |slice (sz:Nat) (x:aR) (lo hi:Option aR)
 |sslice (x:aR) (lo hi:Option aR)
 |FY (off:Nat) (x:aR)
 |GD (sz:Nat) (x i:aR)
 |HX (len sz:Nat) (x i:aR)
 |fld (off:Nat) (k:Option Nat) (x:aR)
 |aidx (len sz:Nat) (k:Option Nat) (x i:aR)
 |sidx (x i:aR)
 |lookup (kd:Nat) (z:List PV) (agg ok:Bool) (x k:aR)
 |mupd (kd:Nat) (ag:Bool) (m k v:aR)
 |bad
 |extract (x:aR) (i:Nat)
 |call (site:Nat) (f:aR) (args:List aR)
 |slen (x:aR)
 |JU (x:aR)
 |mlen (x:aR)
 |append (site ty sz bytes:Nat) (s x:aR)
 |max (x y:aR)
 |min (x y:aR)
 |clear (z:List PV) (x:aR)
structure bG where
 dst:Option Nat
 op:mW
 guard:Option (Nat×Bool)
 anc:Nat
inductive aJ where
 |skip
 |region (draw:Bool) (ops:List bG)
 |seq (a b:aJ)
 |cond (x:aR) (a b:aJ)
 |block (id:Nat) (c:aJ)
 |loop (c:aJ)
 |exit (id:Nat)
 |ret
 |bad
structure aV where
 ntmps:Nat
 results:List (Nat×Option (Option Nat))
 body:aJ
def ev (ak:Env):aR->V
 | .t n=>ak n
 | .i n=>.one (.p (.int .i64 n))
 | .b x=>.one (.p (.bool x))
 | .k v=>v
abbrev eK:=Nat×(Nat×Option Ob)
def app:List eK->aA->aA
 |[],b=>b
 |(i,o)::r,b=>app r (dJ b i o)
def PV.norm:PV->PV
 | .nils=>.sl []
 | .zs=>.sl []
 |v=>v
def toP:C->Option PV
 | .p v=>some v.norm
 |_=>none
def BI:List C->Option (List PV)
 |[]=>some []
 |c::r=>match toP c,BI r with
  |some v,some vs=>some (v::vs)
  |_,_=>none
def rz:V->Option (List C)
 | .one c=>some [c]
 | .agg cs=>some cs
 |_=>none
def collect{α β:Type}(f:α->Option (β×List Nat)):List α->Option (List β×List Nat)
 |[]=>some ([],[])
 |a::r=>match f a,collect f r with
  |some (b,x),some (bs,y)=>some (b::bs,x++y)
  |_,_=>none
def snap(aj:aA):Nat->C->Option (PV×List Nat)
 |0,_=>none
 |n+1,c=>match c with
  | .p v=>some (v.norm,[])
  | .aY id g off=>match aj id with
   |(g',some (.var cs))=>if g'=g then
     match collect (snap aj n) cs with
     |some (ps,r)=>some (.box (ps.drop off),id::r)
     |none=>none
    else none
   |(g',some (.fvar ps))=>if g'=g then some (.box (ps.drop off),[id]) else none
   |_=>none
  | .dB id g i off=>match aj id with
   |(g',some (.arr _ _ es))=>if g'=g then (es[i]?).map fun e=>(.box (e.drop off),[id]) else none
   |(g',some (.oR _ _ es))=>if g'=g then (es[i]?).map fun e=>(.box (e.drop off),[id]) else none
   |_=>none
  | .hsl id g z off len=>match aj id with
   |(g',some (.arr _ _ es))=>if g'=g/\off+len<=es.length then some (.sl ((es.drop off).take len),[id]) else none
   |(g',some (.oR _ _ es))=>if g'=g/\off+len<=es.length then some (.sl ((es.drop off).take len),[id]) else none
   |(g',some (.iI _ _ es))=>if g'=g/\off+len<=es.length then
     match collect (collect (snap aj n)) ((es.drop off).take len) with
     |some (ps,r)=>some (.sl ps,id::r)
     |none=>none
    else none
   |_=>none
  | .jW id g=>match aj id with
   |(g',some (.map ag es))=>if g'=g then some (.mp ag es,[id]) else none
   |(g',some (.fmap ag es))=>if g'=g then some (.mp ag es,[id]) else none
   |_=>none
  | .hfn f a b=>match collect (snap aj n) a,collect (snap aj n) b with
   |some (x,r),some (y,s)=>some (.fn f x y,r++s)
   |_,_=>none
def fM:Nat:=6
def nA(aj:aA):V->Option (V×List Nat)
 | .one c=>(snap aj fM c).map fun(v,r)=>(.one (.p v),r)
 | .agg cs=>(collect (snap aj fM) cs).map fun(vs,r)=>(.agg (vs.map .p),r)
 |_=>none
def xK(aj:aA)(all:List Nat)(id:Nat):Option (List eK):=
 match aj id with
 |(g,some (.var cs))=>match collect (snap aj fM) cs with
  |some (ps,r)=>if r.all all.contains then some [(id,(g,some (.fvar ps)))] else none
  |none=>none
 |(g,some (.arr ty sz es))=>some [(id,(g,some (.oR ty sz es)))]
 |(g,some (.iI ty sz es))=>match collect (collect (snap aj fM)) es with
  |some (ps,r)=>if r.all all.contains then some [(id,(g,some (.oR ty sz ps)))] else none
  |none=>none
 |(g,some (.map ag es))=>some [(id,(g,some (.fmap ag es)))]
 |(_,none)=>none
 |_=>some []
def uy(aj:aA)(all:List Nat):List Nat->Option (List eK)
 |[]=>some []
 |i::r=>match xK aj all i,uy aj all r with
  |some a,some b=>some (a++b)
  |_,_=>none
def sA(aj:aA)(ids:List Nat):Option (List eK):=uy aj ids ids
inductive RC where
 |p (v:PV)
 |own (ty sz:Nat) (es:List (List PV))
 deriving Inhabited
inductive RV where
 |one (c:RC)
 |agg (cs:List RC)
 |tup (vs:List RV)
 deriving Inhabited
def RC.pure:RC->RC
 | .p v=>.p v
 | .own _ _ es=>.p (.sl es)
def RV.He:RV->RV
 | .one c=>.one c.pure
 | .agg cs=>.agg (cs.map RC.pure)
 | .tup vs=>.tup vs
def RV.pure:RV->RV
 | .tup vs=>.tup (vs.map RV.He)
 |v=>v.He
def RV.fP(b:Bool)(r:RV):RV:=match b with
 |true=>r.pure
 |false=>r
def PV.scalar:PV->Bool
 | .bool _| .int _ _| .str _| .uP| .nils| .qU| .yz| .nili| .ifc| .zs=>true
 |_=>false
def RC.alone:RC->Bool
 | .p v=>v.scalar
 | .own _ _ es=>es.all fun e=>e.all PV.scalar
def jv(aj:aA)(c:C):Option (RC×List Nat×List Nat):=
 match c with
 | .p v=>some (.p v,[],[])
 | .hsl id g z 0 len=>match aj id with
  |(g',some (.arr ty sz es))=>if g'=g/\len<=es.length then some (.own ty sz (es.take len),[id],[]) else none
  |_=>(snap aj fM c).map fun(v,r)=>(.p v,[],r)
 |_=>(snap aj fM c).map fun(v,r)=>(.p v,[],r)
def mj(aj:aA):List C->Option (List RC×List Nat×List Nat)
 |[]=>some ([],[],[])
 |c::r=>match jv aj c,mj aj r with
  |some (x,o,q),some (xs,os,qs)=>some (x::xs,o++os,q++qs)
  |_,_=>none
def ng:V->Option (List C)
 | .one c=>some [c]
 | .agg cs=>some cs
 |_=>none
def ux:List V->Option (List C)
 |[]=>some []
 |v::r=>match ng v,ux r with
  |some a,some b=>some (a++b)
  |_,_=>none
def sv:V->Option (List C)
 | .tup vs=>ux vs
 |v=>ng v
def rU:V->List RC->RV×List RC
 | .one _,r::rs=>(.one r,rs)
 | .agg cs,rs=>(.agg (rs.take cs.length),rs.drop cs.length)
 |_,rs=>(.agg [],rs)
def Ag:List V->List RC->List RV
 |[],_=>[]
 |v::r,rs=>(rU v rs).1::Ag r (rU v rs).2
def uS:V->List RC->RV
 | .tup vs,rs=>.tup (Ag vs rs)
 |v,rs=>(rU v rs).1
def apart:List Nat->List Nat->Bool
 |[],_=>true
 |i::r,q=> !r.contains i&& !q.contains i&&apart r q
def iE(aj:aA)(v:V):Option RV:=
 match sv v with
 |some cs=>match mj aj cs with
  |some (x,o,q)=>if apart o q then some (uS v x) else none
  |none=>none
 |none=>none
def df(aj:aA)(site:Nat):RC->C×List eK
 | .p v=>(.p v,[])
 | .own ty sz es=>(.hsl site ((aj site).1+1) sz 0 es.length,[(site,((aj site).1+1,some (.arr ty sz es)))])
def iY(aj:aA)(site:Nat):List RC->List C×List eK
 |[]=>([],[])
 |c::r=>((df aj site c).1::(iY aj (site+1) r).1,(df aj site c).2++(iY aj (site+1) r).2)
def im:RV->List RC
 | .one c=>[c]
 | .agg cs=>cs
 | .tup _=>[]
def mI:List RV->List RC
 |[]=>[]
 |v::r=>im v++mI r
def gK:RV->List RC
 | .tup vs=>mI vs
 |v=>im v
def mq:RV->List C->V×List C
 | .one _,c::cs=>(.one c,cs)
 | .agg rs,cs=>(.agg (cs.take rs.length),cs.drop rs.length)
 |_,cs=>(.undef,cs)
def rV:List RV->List C->List V
 |[],_=>[]
 |v::r,cs=>(mq v cs).1::rV r (mq v cs).2
def qY:RV->List C->V
 | .tup vs,cs=>.tup (rV vs cs)
 |v,cs=>(mq v cs).1
def RV.alone(r:RV):Bool:=(gK r).all RC.alone
def ju(aj:aA)(site:Nat)(r:RV):V×List eK:=(qY r (iY aj site (gK r)).1,(iY aj site (gK r)).2)
inductive fg where
 |fail
 |done (v:V) (u:List eK) (rd:List Nat)
 |pc (f:Nat) (args:List V) (rd:List Nat) (site:Nat)
 |sc (f:Nat) (args:List V)
def Bz(aj:aA):V->Option (List C×List Nat)
 | .one (.p (.box cs))=>some (cs.map .p,[])
 | .one (.aY id g off)=>match aj id with
  |(g',some (.var cs))=>if g'=g then some (cs.drop off,[id]) else none
  |(g',some (.fvar cs))=>if g'=g then some ((cs.drop off).map .p,[id]) else none
  |_=>none
 | .one (.dB id g i off)=>match aj id with
  |(g',some (.arr _ _ es))=>if g'=g then (es[i]?).map fun e=>((e.drop off).map .p,[id]) else none
  |(g',some (.oR _ _ es))=>if g'=g then (es[i]?).map fun e=>((e.drop off).map .p,[id]) else none
  |(g',some (.iI _ _ es))=>if g'=g then (es[i]?).map fun e=>(e.drop off,[id]) else none
  |_=>none
 |_=>none
def pO(k:Option Nat)(cs:List C):Option V:=
 match k with
 |none=>match cs with
  |c::_=>some (.one c)
  |[]=>none
 |some n=>if n<=cs.length then some (.agg (cs.take n)) else none
def eO{α:Type}(cs:List α)(off:Nat)(xs:List α):List α:=cs.take off++xs++cs.drop (off+xs.length)
def Ak(aj:aA)(a:V)(n:Nat)(xs:List C):fg:=
 if xs.length≠n then .fail else
 match a with
 | .one (.aY id g off)=>match aj id with
  |(g',some (.var cs))=>if g'=g/\off+n<=cs.length then .done .undef [(id,(g,some (.var (eO cs off xs))))] [id] else .fail
  |_=>.fail
 | .one (.dB id g i off)=>match aj id with
  |(g',some (.arr ty sz es))=>match es[i]?,BI xs with
   |some e,some ps=>if g'=g/\off+n<=e.length then .done .undef [(id,(g,some (.arr ty sz (es.set i (eO e off ps)))))] [id] else .fail
   |_,_=>.fail
  |_=>.fail
 |_=>.fail
def fh(aj:aA):V->Option (List (List PV)×List Nat×List Nat)
 | .one (.p .nils)=>some ([],[],[])
 | .one (.p (.sl es))=>some (es,[],[])
 | .one (.hsl id g z off len)=>match aj id with
  |(g',some (.arr _ _ es))=>if g'=g/\off+len<=es.length then some ((es.drop off).take len,[id],[]) else none
  |(g',some (.oR _ _ es))=>if g'=g/\off+len<=es.length then some ((es.drop off).take len,[id],[]) else none
  |(g',some (.iI _ _ es))=>if g'=g/\off+len<=es.length then
    match collect (collect (snap aj fM)) ((es.drop off).take len) with
    |some (ps,r)=>some (ps,[id],r)
    |none=>none
   else none
  |_=>if len=0 then some ([],[id],[]) else none
 |_=>none
def gV(sz:Nat)(es:List (List PV)):Bool:=es.all fun e=>e.length==sz
def mr:V->Option Nat
 | .one (.hsl _ _ z _ _)=>some z
 |_=>none
def room:Nat:=140737488355328
def fL(aj:aA)(site ty sz bytes:Nat)(s x:V):fg:=
 match fh aj x with
 |none=>.fail
 |some (new,rd,fr)=>
  if ¬(mr x=some sz\/gV sz new=true) then .fail else
  match sA aj fr with
  |none=>.fail
  |some fu=>
   match s with
   | .one (.p .nils)=>
    if new.length=0 then .done (.one (.p .nils)) fu (rd++fr) else
    if new.length*bytes<=room then
     .done (.one (.hsl site ((aj site).1+1) sz 0 new.length)) (fu++[(site,((aj site).1+1,some (.arr ty sz new)))]) (site::rd++fr)
    else .fail
   | .one (.p .zs)=>
    if new.length=0 then .fail else
    if new.length*bytes<=room then
     .done (.one (.hsl site ((aj site).1+1) sz 0 new.length)) (fu++[(site,((aj site).1+1,some (.arr ty sz new)))]) (site::rd++fr)
    else .fail
   | .one (.hsl id g z 0 len)=>match aj id with
    |(g',some (.arr jN bN es))=>
     if g'=g/\jN=ty/\bN=sz/\len<=es.length/\(len+new.length)*bytes<=room/\fr.contains id=false then
      .done (.one (.hsl site ((aj site).1+1) sz 0 (len+new.length)))
       (fu++[(id,(g,none)),(site,((aj site).1+1,some (.arr ty sz (es.take len++new))))]) (site::id::rd++fr)
     else .fail
    |_=>.fail
   | .one (.hsl id g z off len)=>match aj id with
    |(g',some (.arr jN bN es))=>
     if g'=g/\jN=ty/\bN=sz/\off+len<=es.length/\(len+new.length)*bytes<=room/\fr.contains id=false/\0<len/\0<new.length then
      .done (.one (.p (.sl ((es.drop off).take len++new)))) (fu++[(id,(g,none))]) (id::rd++fr)
     else .fail
    |_=>.fail
   |_=>.fail
def oN:V->Option Nat
 | .one (.p (.int _ n))=>if 0<=n then some n.toNat else none
 |_=>none
def ru(ak:Env)(d:Nat):Option aR->Option Nat
 |none=>some d
 |some a=>oN (ev ak a)
def Dh(x:V)(sz lo hi:Nat):fg:=
 if ¬lo<=hi then .fail else
 match x with
 | .one (.p .nils)=>if hi=0 then .done (.one (.p .nils)) [] [] else .fail
 | .one (.p (.sl es))=>if hi<=es.length/\gV sz es=true then .done (.one (.p (.sl ((es.drop lo).take (hi-lo))))) [] [] else .fail
 | .one (.hsl id g z off len)=>if hi<=len/\z=sz then .done (.one (.hsl id g z (off+lo) (hi-lo))) [] [] else .fail
 |_=>.fail
def yw:V->Option Nat
 | .one (.p .nils)=>some 0
 | .one (.p (.sl es))=>some es.length
 | .one (.hsl _ _ _ _ len)=>some len
 |_=>none
def zX(aj:aA):V->Option (Nat×List Nat)
 | .one (.p .qU)=>some (0,[])
 | .one (.p (.mp _ es))=>some (es.length,[])
 | .one (.jW id g)=>match aj id with
  |(g',some (.map _ es))=>if g'=g then some (es.length,[id]) else none
  |(g',some (.fmap _ es))=>if g'=g then some (es.length,[id]) else none
  |_=>none
 |_=>none
def mapOf(aj:aA)(ag:Bool):V->Option (List (PV×List PV)×List Nat)
 | .one (.p .qU)=>some ([],[])
 | .one (.p (.mp rq es))=>if rq=ag then some (es,[]) else none
 | .one (.jW id g)=>match aj id with
  |(g',some (.map rq es))=>if g'=g/\rq=ag then some (es,[id]) else none
  |(g',some (.fmap rq es))=>if g'=g/\rq=ag then some (es,[id]) else none
  |_=>none
 |_=>none
def sameKey:PV->PV->Option Bool
 | .int k a,.int k' b=>if k=k' then some (a==b) else none
 | .str a,.str b=>some (a==b)
 | .bool a,.bool b=>some (a==b)
 |_,_=>none
def iw:PV->Nat
 | .int _ _=>0
 | .str _=>1
 | .bool _=>2
 |_=>3
def mapVal:Bool->List PV->Option V
 |true,cs=>some (.agg (cs.map .p))
 |false,[c]=>some (.one (.p c))
 |false,_=>none
def oU(k:PV):List (PV×List PV)->Nat->Option (Option (Nat×List PV))
 |[],_=>some none
 |(a,v)::r,i=>match sameKey k a with
  |some true=>some (some (i,v))
  |some false=>oU k r (i+1)
  |none=>none
def xD:Bool->V->Option (List C)
 |false,.one c=>some [c]
 |true,.agg cs=>some cs
 |_,_=>none
def tv(op:BinOp)(k:IntKind)(a b:Int):Option PV:=
 match op with
 | .add=>some (.int k (k.wrap (a+b)))
 | .sub=>some (.int k (k.wrap (a-b)))
 | .mul=>some (.int k (k.wrap (a*b)))
 | .quo=>if b=0 then none else some (.int k (k.wrap (a.tdiv b)))
 | .rem=>if b=0 then none else some (.int k (a.tmod b))
 | .eql=>some (.bool (a==b))
 | .neq=>some (.bool (a !=b))
 | .lss=>some (.bool (decide (a<b)))
 | .leq=>some (.bool (decide (a<=b)))
 | .gtr=>some (.bool (decide (b<a)))
 | .geq=>some (.bool (decide (b<=a)))
 | .and=>some (.int k (k.wrap (BitVec.ofInt k.bits a&&& BitVec.ofInt k.bits b).toNat))
 | .shl=>if b<0 then none else some (.int k (k.wrap (a*2 ^ min b.toNat k.bits)))
 | .shr=>if b<0 then none else some (.int k (a.fdiv (2 ^ min b.toNat k.bits)))
 |_=>none
def Il(op:BinOp)(a b:ByteArray):Option PV:=
 match op with
 | .add=>if a.size+b.size<=9223372036854775807 then some (.str (a++b)) else none
 | .eql=>some (.bool (a.toList==b.toList))
 | .neq=>some (.bool (!(a.toList==b.toList)))
 |_=>none
def qF(op:BinOp):V->V->Option V
 | .one (.p (.int k a)),.one (.p (.int k' b))=>if k=k'\/op=.shl\/op=.shr then (tv op k a b).map fun v=>.one (.p v) else none
 | .one (.p (.str a)),.one (.p (.str b))=>(Il op a b).map fun v=>.one (.p v)
 |_,_=>none
def uv:Bool->PV->PV->Option Bool
 |true,.int k a,.int k' b=>if k=k' then some (a==b) else none
 |false,.bool a,.bool b=>some (a==b)
 |_,_,_=>none
def vh:List Bool->List C->List C->Option Bool
 |[],[],[]=>some true
 |k::ks,.p a::r,.p b::s=>match uv k a b with
  |some true=>vh ks r s
  |some false=>some false
  |none=>none
 |_,_,_=>none
def GH:u5->V->Option Bool
 | .ptr,.one (.p .uP)=>some true
 | .ptr,.one (.p (.box _))=>some false
 | .ptr,.one (.aY _ _ _)=>some false
 | .ptr,.one (.dB _ _ _ _)=>some false
 | .slc,.one (.p .nils)=>some true
 | .slc,.one (.p (.sl (_::_)))=>some false
 | .slc,.one (.hsl _ _ _ _ _)=>some false
 | .map,.one (.p .qU)=>some true
 | .map,.one (.p (.mp _ _))=>some false
 | .map,.one (.jW _ _)=>some false
 | .fnc,.one (.p .yz)=>some true
 | .fnc,.one (.p (.fn _ _ _))=>some false
 | .fnc,.one (.hfn _ _ _)=>some false
 | .ifc,.one (.p .nili)=>some true
 | .ifc,.one (.p .ifc)=>some false
 |_,_=>none
def Cn:u5->V->V->Option Bool
 | .bool,.one (.p (.bool a)),.one (.p (.bool b))=>some (a==b)
 | .str ks,.agg a,.agg b=>vh ks a b
 | .bool,_,_=>none
 | .str _,_,_=>none
 |k,a,b=>if GH k b=some true then GH k a else if GH k a=some true then GH k b else none
def fill(cs:List C):List (Nat×List C)->List C
 |[]=>cs
 |(off,xs)::r=>fill (eO cs off xs) r
def yA(ak:Env):List (Nat×Nat×aR)->Option (List (Nat×List C))
 |[]=>some []
 |(off,n,a)::r=>match rz (ev ak a),yA ak r with
  |some cs,some q=>if cs.length=n then some ((off,cs)::q) else none
  |_,_=>none
def zj(ak:Env)(sz:Nat):List aR->Option (List (List C))
 |[]=>some []
 |a::r=>match rz (ev ak a),zj ak sz r with
  |some cs,some q=>if cs.length=sz then some (cs::q) else none
  |_,_=>none
def BJ:List (List C)->Option (List (List PV))
 |[]=>some []
 |c::r=>match BI c,BJ r with
  |some v,some vs=>some (v::vs)
  |_,_=>none
def DU(ak:Env)(a:aR):Option (Nat×List C×List C):=
 match ev ak a with
 | .one (.p (.fn f x y))=>some (f,x.map .p,y.map .p)
 | .one (.hfn f x y)=>some (f,x,y)
 |_=>none
def BE(aj:aA):List V->Option (List V×List Nat):=collect (nA aj)
def bytesOf:List (List PV)->Option (List UInt8)
 |[]=>some []
 |[.int .u8 n]::r=>(bytesOf r).map (UInt8.ofNat n.toNat:: ·)
 |_::_=>none
def vM(ak:Env):List aR->Option (List C)
 |[]=>some []
 |a::r=>match ev ak a,vM ak r with
  | .one c,some q=>some (c::q)
  |_,_=>none
def bt(shared:Nat->Bool)(ak:Env)(aj:aA):mW->fg
 | .yy x=>.done (ev ak x) [] []
 | .pick c a b=>match ev ak c with
  | .one (.p (.bool t))=>.done (if t then ev ak a else ev ak b) [] []
  |_=>.fail
 | .alloc s z=>.done (.one (.aY s ((aj s).1+1) 0)) [(s,((aj s).1+1,some (.var (z.map .p))))] [s]
 | .box s x=>match rz (ev ak x) with
  |some cs=>.done (.one (.aY s ((aj s).1+1) 0)) [(s,((aj s).1+1,some (.var cs)))] [s]
  |none=>.fail
 | .build z ps=>match yA ak ps with
  |some q=>.done (.agg (fill (z.map .p) q)) [] []
  |none=>.fail
 | .DI s ty sz ps=>match zj ak sz ps with
  |some es=>match BJ es with
   |some qs=>.done (.one (.hsl s ((aj s).1+1) sz 0 es.length)) [(s,((aj s).1+1,some (.arr ty sz qs)))] [s]
   |none=>.done (.one (.hsl s ((aj s).1+1) sz 0 es.length)) [(s,((aj s).1+1,some (.iI ty sz es)))] [s]
  |none=>.fail
 | .load k x=>match Bz aj (ev ak x) with
  |some (cs,r)=>match pO k cs with
   |some v=>.done v [] r
   |none=>.fail
  |none=>.fail
 | .store n a x=>match rz (ev ak x) with
  |some xs=>Ak aj (ev ak a) n xs
  |none=>.fail
 | .Kf x=>match ev ak x with
  | .one (.aY id g o)=>.done (.one (.aY id g o)) [] []
  | .one (.dB id g i o)=>.done (.one (.dB id g i o)) [] []
  | .one (.p (.box cs))=>.done (.one (.p (.box cs))) [] []
  | .one (.hfn f a b)=>.done (.one (.hfn f a b)) [] []
  | .one (.p (.fn f a b))=>.done (.one (.p (.fn f a b))) [] []
  |_=>.fail
 | .bin op x y=>match qF op (ev ak x) (ev ak y) with
  |some v=>.done v [] []
  |none=>.fail
 | .eqc k neg x y=>match Cn k (ev ak x) (ev ak y) with
  |some b=>.done (.one (.p (.bool (if neg then !b else b)))) [] []
  |none=>.fail
 | .un op x=>match op,ev ak x with
  | .not,.one (.p (.bool b))=>.done (.one (.p (.bool (!b)))) [] []
  | .neg,.one (.p (.int k n))=>.done (.one (.p (.int k (k.wrap (0-n))))) [] []
  |_,_=>.fail
 | .conv k x=>match ev ak x with
  | .one (.p (.int _ n))=>.done (.one (.p (.int k (k.wrap n)))) [] []
  |_=>.fail
 | .bstr x=>match fh aj (ev ak x) with
  |some (es,r,[])=>match bytesOf es with
   |some bs=>.done (.one (.p (.str ⟨bs.toArray⟩))) [] r
   |none=>.fail
  |_=>.fail
 | .mkfn f a b=>match vM ak a,vM ak b with
  |some x,some y=>.done (.one (.hfn f x y)) [] []
  |_,_=>.fail
 | .mkmap s ag=>.done (.one (.jW s ((aj s).1+1))) [(s,((aj s).1+1,some (.map ag [])))] [s]
 | .JX s ty sz bytes z l c=>match oN (ev ak l),oN (ev ak c) with
  |some n,some m=>if n=m/\n*bytes<=room then
    .done (.one (.hsl s ((aj s).1+1) sz 0 n)) [(s,((aj s).1+1,some (.arr ty sz (List.replicate n z))))] [s]
   else .fail
  |_,_=>.fail
 | .slice sz x lo hi=>match yw (ev ak x) with
  |some n=>match ru ak 0 lo,ru ak n hi with
   |some l,some h=>Dh (ev ak x) sz l h
   |_,_=>.fail
  |none=>.fail
 | .sslice x lo hi=>match ev ak x with
  | .one (.p (.str s))=>match ru ak 0 lo,ru ak s.size hi with
   |some l,some h=>if l<=h/\h<=s.size then .done (.one (.p (.str (s.extract l h)))) [] [] else .fail
   |_,_=>.fail
  |_=>.fail
 | .FY off x=>match ev ak x with
  | .one (.aY id g o)=>.done (.one (.aY id g (o+off))) [] []
  | .one (.dB id g i o)=>.done (.one (.dB id g i (o+off))) [] []
  | .one (.p (.box cs))=>.done (.one (.p (.box (cs.drop off)))) [] []
  |_=>.fail
 | .GD sz x i=>match oN (ev ak i),ev ak x with
  |some n,.one (.p (.sl es))=>match es[n]? with
   |some e=>if e.length=sz then .done (.one (.p (.box e))) [] [] else .fail
   |none=>.fail
  |some n,.one (.hsl id g z off len)=>if n<len/\z=sz then .done (.one (.dB id g (off+n) 0)) [] [] else .fail
  |_,_=>.fail
 | .HX len sz x i=>match oN (ev ak i),ev ak x with
  |some n,.one (.aY id g o)=>if n<len then .done (.one (.aY id g (o+n*sz))) [] [] else .fail
  |some n,.one (.dB id g j o)=>if n<len then .done (.one (.dB id g j (o+n*sz))) [] [] else .fail
  |some n,.one (.p (.box cs))=>if n<len then .done (.one (.p (.box (cs.drop (n*sz))))) [] [] else .fail
  |_,_=>.fail
 | .fld off k x=>match ev ak x with
  | .agg cs=>match pO k (cs.drop off) with
   |some v=>.done v [] []
   |none=>.fail
  |_=>.fail
 | .aidx len sz k x i=>match oN (ev ak i),ev ak x with
  |some n,.agg cs=>if n<len then
    match pO k (cs.drop (n*sz)) with
    |some v=>.done v [] []
    |none=>.fail
   else .fail
  |_,_=>.fail
 | .sidx x i=>match oN (ev ak i),ev ak x with
  |some n,.one (.p (.str s))=>match s[n]? with
   |some b=>.done (.one (.p (.int .u8 b.toNat))) [] []
   |none=>.fail
  |_,_=>.fail
 | .lookup kd z agg ok x k=>match mapOf aj agg (ev ak x),ev ak k with
  |some (es,r),.one (.p q)=>if iw q≠kd then .fail else match oU q es 0 with
   |some f=>match mapVal agg ((f.map (·.2)).getD z) with
    |some w=>.done (if ok then .tup [w,.one (.p (.bool f.isSome))] else w) [] r
    |none=>.fail
   |none=>.fail
  |_,_=>.fail
 | .bad=>.fail
 | .mupd kd ag m k v=>match ev ak m,ev ak k,xD ag (ev ak v) with
  | .one (.jW id g),.one (.p q),some cs=>match aj id,BI cs with
   |(g',some (.map rq es)),some ps=>if g'=g/\rq=ag/\iw q=kd then
     match oU q es 0 with
     |some (some (i,_))=>.done .undef [(id,(g,some (.map ag (es.set i (q,ps)))))] [id]
     |some none=>.done .undef [(id,(g,some (.map ag (es++[(q,ps)]))))] [id]
     |none=>.fail
    else .fail
   |_,_=>.fail
  |_,_,_=>.fail
 | .extract x i=>match ev ak x with
  | .tup vs=>match vs[i]? with
   |some v=>.done v [] []
   |none=>.fail
  |_=>.fail
 | .call s f as=>match DU ak f with
  |some (g,a,b)=>
   if shared g then .sc g (a.map .one++as.map (ev ak)++b.map .one)
   else match BE aj (a.map .one++as.map (ev ak)++b.map .one) with
    |some (vs,r)=>.pc g vs r s
    |none=>.fail
  |none=>.fail
 | .slen x=>match ev ak x with
  | .one (.p (.str s))=>.done (.one (.p (.int .i64 s.size))) [] []
  |_=>.fail
 | .JU x=>match yw (ev ak x) with
  |some n=>.done (.one (.p (.int .i64 n))) [] []
  |none=>.fail
 | .mlen x=>match zX aj (ev ak x) with
  |some (n,r)=>.done (.one (.p (.int .i64 n))) [] r
  |none=>.fail
 | .append s ty sz bytes d x=>fL aj s ty sz bytes (ev ak d) (ev ak x)
 | .max x y=>match ev ak x,ev ak y with
  | .one (.p (.int k a)),.one (.p (.int _ b))=>.done (.one (.p (.int k (if b>a then b else a)))) [] []
  |_,_=>.fail
 | .min x y=>match ev ak x,ev ak y with
  | .one (.p (.int k a)),.one (.p (.int _ b))=>.done (.one (.p (.int k (if b<a then b else a)))) [] []
  |_,_=>.fail
 | .clear z x=>match ev ak x with
  | .one (.p .nils)=>.done (.tup []) [] []
  | .one (.p (.sl []))=>.done (.tup []) [] []
  | .one (.hsl id g _ off len)=>if len=0 then .done (.tup []) [] [] else match aj id with
   |(g',some (.arr ty sz es))=>if g'=g/\sz=z.length/\off+len<=es.length then .done (.tup []) [(id,(g,some (.arr ty sz (eO es off (List.replicate len z)))))] [id] else .fail
   |_=>.fail
  |_=>.fail
structure bY where
 rd:List Nat
 wr:List Nat
 fs:List Nat
structure Al where
 any:Bool
 ids:List Nat
 fs:List Nat
def Al.all:Al:=⟨true,[],[]⟩
def iN(id:Nat):Nat:=id/64000000
def Al.ok(a:Al)(id:Nat):Bool:=a.any||a.ids.contains id||a.fs.contains (iN id)
def Al.ft(a:Al)(l:List Nat):Bool:=l.all a.ok
def Al.holds(a b:Al):Bool:=a.any||(a.ft b.ids&&b.fs.all a.fs.contains)
structure Ctx where
 shared:Nat->Bool
 sites:Nat->List Nat
 lone:Nat->Bool
 al:Al
def jK(aj:aA):Nat->C->List Nat
 |0,_=>[]
 |n+1,c=>match c with
  | .p _=>[]
  | .aY id _ _=>id::match aj id with
   |(_,some (.var cs))=>(cs.map (jK aj n)).flatten
   |_=>[]
  | .dB id _ _ _=>id::match aj id with
   |(_,some (.iI _ _ es))=>(es.flatten.map (jK aj n)).flatten
   |_=>[]
  | .hsl id _ _ _ _=>id::match aj id with
   |(_,some (.iI _ _ es))=>(es.flatten.map (jK aj n)).flatten
   |_=>[]
  | .jW id _=>[id]
  | .hfn _ a b=>(a.map (jK aj n)).flatten++(b.map (jK aj n)).flatten
def jc(aj:aA):V->List Nat
 | .one c=>jK aj fM c
 | .agg cs=>(cs.map (jK aj fM)).flatten
 |_=>[]
def allow(sh:Ctx)(f:Nat)(vs:List V)(aj:aA):Al:=⟨false,(vs.map (jc aj)).flatten,sh.sites f⟩
def put(ak:Env)(d:Option Nat)(v:V):Env:=
 match d with
 |some t=>dJ ak t v
 |none=>ak
abbrev fH:=Nat->List V->Option RV
abbrev jz:=Nat->List V->Al->aA->Option (V×aA)
def land(aj:aA)(rd:List Nat)(site:Nat)(r:RV):Option (V×List eK):=
 if rd=[]\/r.alone then some (ju aj site r)
 else match sA aj rd with
  |some u=>some ((ju aj site r).1,u++(ju aj site r).2)
  |none=>none
def wanted(ak:Env):Option (Nat×Bool)->Option Bool
 |none=>some true
 |some (t,want)=>match ak t with
  | .one (.p (.bool b))=>some (b==want)
  | .undef=>some false
  |_=>none
def step1(sh:Ctx)(cp:fH)(cs:jz)(o:bG)(ak:Env)(aj:aA):Option (Env×aA×bY):=
 match wanted ak o.guard with
 |none=>none
 |some false=>some (put ak o.dst .undef,aj,⟨[],[],[]⟩)
 |some true=>match bt sh.shared ak aj o.op with
  | .fail=>none
  | .done v u r=>if sh.al.ft (r++u.map (·.1)) then some (put ak o.dst v,app u aj,⟨r,u.map (·.1),[]⟩) else none
  | .pc f vs r s=>match cp f vs with
   |some x=>match land aj r s (x.fP (sh.lone s)) with
    |some (v,u)=>if sh.al.ft (r++u.map (·.1)) then some (put ak o.dst v,app u aj,⟨r++u.map (·.1),u.map (·.1),[]⟩) else none
    |none=>none
   |none=>none
  | .sc f vs=>if sh.al.holds (allow sh f vs aj) then
    match cs f vs (allow sh f vs aj) aj with
    |some (v,ao)=>some (put ak o.dst v,ao,⟨(allow sh f vs aj).ids,(allow sh f vs aj).ids,(allow sh f vs aj).fs⟩)
    |none=>none
   else none
def steps(sh:Ctx)(cp:fH)(cs:jz):List bG->Env->aA->Option (Env×aA×List bY)
 |[],ak,aj=>some (ak,aj,[])
 |o::r,ak,aj=>match step1 sh cp cs o ak aj with
  |some (aD,ao,e)=>match steps sh cp cs r aD ao with
   |some (L5,Im,es)=>some (L5,Im,e::es)
   |none=>none
  |none=>none
def meets(a b:List Nat):Bool:=a.any fun i=>b.contains i
def GG(fs ids:List Nat):Bool:=ids.any fun i=>fs.contains (iN i)
def FK(a b:bY):Bool:=meets a.wr b.rd||meets a.wr b.wr||meets a.rd b.wr||meets a.fs b.fs||GG a.fs (b.rd++b.wr)||GG b.fs (a.rd++a.wr)
def QP(anc:Nat)(e:bY):Nat->List bY->Bool
 |_,[]=>true
 |j,x::r=>(anc.testBit j|| !FK x e)&&QP anc e (j+1) r
def sZ:List bG->List bY->List bY->Bool
 |o::os,past,e::es=>QP o.anc e 0 past&&sZ os (past++[e]) es
 |_,_,_=>true
inductive lG where
 |normal
 |exit (id:Nat)
 |ret
def iter(f:Env->aA->Option (lG×Env×aA)):Nat->Env->aA->Option (lG×Env×aA)
 |0,_,_=>none
 |n+1,ak,aj=>match f ak aj with
  |some (.normal,aD,ao)=>iter f n aD ao
  |r=>r
def exec(sh:Ctx)(cp:fH)(cs:jz)(n:Nat):aJ->Env->aA->Option (lG×Env×aA)
 | .skip,ak,aj=>some (.normal,ak,aj)
 | .region d ops,ak,aj=>match steps sh cp cs ops ak aj with
  |some (aD,ao,es)=>if d then (if sZ ops [] es then some (.normal,aD,ao) else none) else some (.normal,aD,ao)
  |none=>none
 | .seq a b,ak,aj=>match exec sh cp cs n a ak aj with
  |some (.normal,aD,ao)=>exec sh cp cs n b aD ao
  |r=>r
 | .cond x a b,ak,aj=>match ev ak x with
  | .one (.p (.bool t))=>if t then exec sh cp cs n a ak aj else exec sh cp cs n b ak aj
  |_=>none
 | .block id c,ak,aj=>match exec sh cp cs n c ak aj with
  |some (.exit i,aD,ao)=>if i=id then some (.normal,aD,ao) else some (.exit i,aD,ao)
  |r=>r
 | .loop c,ak,aj=>iter (exec sh cp cs n c) n ak aj
 | .exit id,ak,aj=>some (.exit id,ak,aj)
 | .ret,ak,aj=>some (.ret,ak,aj)
 | .bad,_,_=>none
def rM(args:List V):Env:=fun i=>args.getD i .undef
def QL:V->Option V
 | .tup _=>none
 |v=>some v
def oF(al:Al)(ak:Env)(aj:aA):List (Nat×Option (Option Nat))->Option (List V)
 |[]=>some []
 |(t,none)::r=>match QL (ak t),oF al ak aj r with
  |some v,some q=>some (v::q)
  |_,_=>none
 |(t,some k)::r=>match Bz aj (ak t),oF al ak aj r with
  |some (cs,rd),some q=>if al.ft rd then (pO k cs).map (· ::q) else none
  |_,_=>none
def Ah:List V->V
 |[v]=>v
 |vs=>.tup vs
def Aa:aA:=fun _=>(0,none)
def qZ(sh:Ctx)(cp:fH)(cs:jz)(n:Nat)(fn:aV)(args:List V)(aj:aA):Option (V×aA):=
 match exec sh cp cs n fn.body (rM args) aj with
 |some (.normal,ak,ao)=>(oF sh.al ak ao fn.results).map fun vs=>(Ah vs,ao)
 |some (.ret,ak,ao)=>(oF sh.al ak ao fn.results).map fun vs=>(Ah vs,ao)
 |_=>none
def E6(sh:Ctx)(cp:fH)(cs:jz)(n:Nat)(fn:aV)(args:List V):Option RV:=
 match qZ sh cp cs n fn args Aa with
 |some (v,aj)=>iE aj v
 |none=>none
structure Sys where
 P:Program
 shared:Nat->Bool
 sites:Nat->List Nat
 lone:Nat->Bool
 fns:Nat->Option aV
 prim:Nat->List V->Option (Option RV)
 trig:Nat->List V->Bool:=fun _ _=>false
 primS:Nat->List V->Al->aA->Option (V×List eK):=fun _ _ _ _=>none
def Sys.ctx(S:Sys)(a:Al):Ctx:=⟨S.shared,S.sites,S.lone,a⟩
mutual
def gh(S:Sys):Nat->fH
 |0,_,_=>none
 |n+1,f,args=>match S.prim f args with
  |some r=>r
  |none=>match S.fns f with
   |some fn=>if args.length<=fn.ntmps then E6 (S.ctx .all) (gh S n) (gj S n) n fn args else none
   |none=>none
def gj(S:Sys):Nat->jz
 |0,_,_,_,_=>none
 |n+1,f,args,al,aj=>if S.trig f args=true then (S.primS f args al aj).map (fun r=>(r.1,app r.2 aj)) else match S.fns f with
  |some fn=>if args.length<=fn.ntmps then qZ (S.ctx al) (gh S n) (gj S n) n fn args aj else none
  |none=>none
end
def aK(S:Sys)(f:Nat)(args:List V)(r:RV):Prop:= ∃n,gh S n f args=some r
def iF(S:Sys)(f:Nat)(args:List V)(al:Al)(aj:aA)(v:V)(ao:aA):Prop:= ∃n,gj S n f args al aj=some (v,ao)
abbrev dD:=lG->Env->aA->Prop
def W (S:Sys)(al:Al)(c:aJ)(Q:dD)(ak:Env)(aj:aA):Prop:=∃n e aD ao,exec (S.ctx al) (gh S n) (gj S n) n c ak aj=some (e,aD,ao)/\Q e aD ao
def WO (S:Sys)(al:Al)(ops:List bG)(Q:Env->aA->List bY->Prop)(ak:Env)(aj:aA)(tr:List bY):Prop:=∃n aD ao es,steps (S.ctx al) (gh S n) (gj S n) ops ak aj=some (aD,ao,es)/\Q aD ao (tr++es)
end Go.Abs
namespace Go.Abs
section
variable{m:Nat}
def HT(a b:fH):Prop:=∀f x r,a f x=some r->b f x=some r
def SLe(a b:jz):Prop:=∀f x l k r,a f x l k=some r->b f x l k=some r
section
variable {sh:Ctx} {cp qG:fH} {cs DP:jz} (hp:HT cp qG) (hs:SLe cs DP)
include hp hs
theorem ahs{o:bG}{ak:Env}{aj:aA}{r:Env×aA×bY}(h:step1 sh cp cs o ak aj=some r):step1 sh qG DP o ak aj=some r:=by
 unfold step1 at h ⊢;cases hw:wanted ak o.guard with
 |none=>simp[hw] at h
 |some b=>
  cases b with
  |false=>simpa [hw] using h
  |true=>
   simp only[hw] at h ⊢;cases bU:bt sh.shared ak aj o.op with
   |fail=>simp[bU] at h
   |done v u rd=>simpa [bU] using h
   |pc f vs rd s=>
    simp only[bU] at h ⊢;cases hc:cp f vs with
    |none=>simp[hc] at h
    |some x=>rw[hp _ _ _ hc];simpa [hc] using h
   |sc f vs=>
    simp only[bU] at h ⊢;split at h
    .rename_i ha;rw[aF ha];cases hc:cs f vs (allow sh f vs aj) aj with
     |none=>simp[hc] at h
     |some x=>rw[hs _ _ _ _ _ hc];simpa [hc] using h
    cases h
theorem ahw:∀ {ops:List bG} {ak:Env} {aj:aA} {r:Env×aA×List bY},steps sh cp cs ops ak aj=some r->steps sh qG DP ops ak aj=some r:=by
 intro ops
 induction ops with
 |nil=>intro ak aj r h;simpa [steps] using h
 |cons o os ih=>
  intro ak aj r h;simp only[steps] at h ⊢;cases h1:step1 sh cp cs o ak aj with
  |none=>simp[h1] at h
  |some x=>
   obtain⟨e1,b1,f1⟩:=x;rw[ahs hp hs h1];simp only[h1] at h ⊢;cases h2:steps sh cp cs os e1 b1 with
   |none=>simp[h2] at h
   |some y=>rw[ih h2];simpa [h2] using h
omit hp hs in
theorem adQ{f g:Env->aA->Option (lG×Env×aA)}(hfg:∀e b r,f e b=some r->g e b=some r):
  ∀ {n m:Nat} {ak:Env} {aj:aA} {r:lG×Env×aA},n<=m->iter f n ak aj=some r->iter g m ak aj=some r:=by
 intro n
 induction n with
 |zero=>intro m ak aj r _ h;simp[iter] at h
 |succ n ih=>
  intro m ak aj r hm h;obtain⟨m,rfl⟩:∃k,m=k+1:=⟨m-1,aa⟩;simp only[iter] at h ⊢;cases hf:f ak aj with
  |none=>simp[hf] at h
  |some x=>
   obtain⟨e,e1,b1⟩:=x;rw[hfg _ _ _ hf];cases e with
   |normal=>simp only[hf] at h ⊢;exact ih aa h
   |exit i=>simpa [hf] using h
   |ret=>simpa [hf] using h
theorem aaZ{n:Nat}(M9:n<=m):∀ {c:aJ} {ak:Env} {aj:aA} {r:lG×Env×aA},exec sh cp cs n c ak aj=some r->exec sh qG DP m c ak aj=some r:=by
 intro c
 induction c with
 |skip=>intro ak aj r h;simpa [exec] using h
 |region d ops=>
  intro ak aj r h;simp only[exec] at h ⊢;cases h1:steps sh cp cs ops ak aj with
  |none=>simp[h1] at h
  |some x=>rw[ahw hp hs h1];simpa [h1] using h
 |seq a b iha ihb=>
  intro ak aj r h;simp only[exec] at h ⊢;cases h1:exec sh cp cs n a ak aj with
  |none=>simp[h1] at h
  |some x=>
   obtain⟨e,e1,b1⟩:=x;rw[iha h1];cases e with
   |normal=>simp only[h1] at h ⊢;exact ihb h
   |exit i=>simpa [h1] using h
   |ret=>simpa [h1] using h
 |cond x a b iha ihb=>
  intro ak aj r h;simp only[exec] at h ⊢;split at h
  .split at h
   .rename_i ht;simp only[ht,if_true];exact iha h
   rename_i ht;simp only[ht];exact ihb h
  cases h
 |block id c ih=>
  intro ak aj r h;simp only[exec] at h ⊢;cases h1:exec sh cp cs n c ak aj with
  |none=>simp[h1] at h
  |some x=>rw[ih h1];simpa [h1] using h
 |loop c ih=>intro ak aj r h;simp only[exec] at h ⊢;exact adQ (fun _ _ _ h=>ih h) M9 h
 |exit id=>intro ak aj r h;simpa [exec] using h
 |ret=>intro ak aj r h;simpa [exec] using h
 |bad=>intro ak aj r h;simp[exec] at h
theorem Rj{n:Nat}(M9:n<=m){fn:aV}{args:List V}{aj:aA}{r:V×aA}(h:qZ sh cp cs n fn args aj=some r):qZ sh qG DP m fn args aj=some r:=by
 unfold qZ at h ⊢;cases h1:exec sh cp cs n fn.body (rM args) aj with
 |none=>simp[h1] at h
 |some x=>rw[aaZ hp hs M9 h1];simpa [h1] using h
theorem agM{n:Nat}(M9:n<=m){fn:aV}{args:List V}{r:RV}(h:E6 sh cp cs n fn args=some r):E6 sh qG DP m fn args=some r:=by
 unfold E6 at h ⊢;cases h1:qZ sh cp cs n fn args Aa with
 |none=>simp[h1] at h
 |some x=>rw[Rj hp hs M9 h1];simpa [h1] using h
end
theorem ZS(S:Sys):∀n,HT (gh S n) (gh S (n+1))/\SLe (gj S n) (gj S (n+1)):=by
 intro n
 induction n with
 |zero=>exact⟨fun f x r h=>by simp[gh] at h,fun f x l k r h=>by simp[gj] at h⟩
 |succ n ih=>
  refine⟨fun f x r h=>?_,fun f x l k r h=>?_⟩
  .rw[gh] at h ⊢;cases hp:S.prim f x with
   |some r'=>simpa [hp] using h
   |none=>
    simp only[hp] at h ⊢;cases hf:S.fns f with
    |none=>simp[hf] at h
    |some fn=>
     simp only[hf] at h ⊢;split at h
     .rename_i hl;rw[aF hl];exact agM ih.1 ih.2 aa h
     cases h
  rw[gj] at h ⊢;by_cases ht:S.trig f x=true
  .rw[aF ht] at h ⊢;exact h
  rw[ay ht] at h ⊢;cases hf:S.fns f with
  |none=>simp[hf] at h
  |some fn=>
   simp only[hf] at h ⊢;split at h
   .rename_i hl;rw[aF hl];exact Rj ih.1 ih.2 aa h
   cases h
theorem DJ(S:Sys){n:Nat}(h:n<=m):HT (gh S n) (gh S m):=by
 induction h with
 |refl=>exact fun _ _ _ h=>h
 |step _ ih=>exact fun f x r hr=>(ZS S _).1 f x r (ih f x r hr)
theorem LF(S:Sys){n:Nat}(h:n<=m):SLe (gj S n) (gj S m):=by
 induction h with
 |refl=>exact fun _ _ _ _ _ h=>h
 |step _ ih=>exact fun f x l k r hr=>(ZS S _).2 f x l k r (ih f x l k r hr)
theorem aK.zg{S:Sys}{f:Nat}{args:List V}{r r':RV}(h:aK S f args r)(h':aK S f args r'):r=r':=by obtain⟨n,hn⟩:=h;obtain⟨m,hm⟩:=h';have a:=DJ S (Fo n m) _ _ _ hn;have b:=DJ S (HN n m) _ _ _ hm;rw[a] at b;exact rj b
theorem zk(S:Sys){al:Al}{n:Nat}(h:n<=m){c:aJ}{ak:Env}{aj:aA}{r:lG×Env×aA}(hr:exec (S.ctx al) (gh S n) (gj S n) n c ak aj=some r):
  exec (S.ctx al) (gh S m) (gj S m) m c ak aj=some r:=aaZ (DJ S h) (LF S h) h hr
theorem aut(S:Sys){al:Al}{n:Nat}(h:n<=m){ops:List bG}{ak:Env}{aj:aA}{r:Env×aA×List bY}(hr:steps (S.ctx al) (gh S n) (gj S n) ops ak aj=some r):
  steps (S.ctx al) (gh S m) (gj S m) ops ak aj=some r:=ahw (DJ S h) (LF S h) hr
variable {S:Sys} {al:Al} {Q:dD} {ak:Env} {aj:aA}
theorem W.mono{c:aJ}{Q':dD}(h:W S al c Q ak aj)(hq:∀e ak aj,Q e ak aj->Q' e ak aj):W S al c Q' ak aj:=by obtain⟨n,e,aD,ao,h1,h2⟩:=h;exact⟨n,e,aD,ao,h1,hq _ _ _ h2⟩
theorem aiZ(h:Q .normal ak aj):W S al .skip Q ak aj:=⟨0,_,_,_,rfl,h⟩
theorem aiS{id:Nat}(h:Q (.exit id) ak aj):W S al (.exit id) Q ak aj:=⟨0,_,_,_,rfl,h⟩
theorem aiV(h:Q .ret ak aj):W S al .ret Q ak aj:=⟨0,_,_,_,rfl,h⟩
def KJ(next:Env->aA->Prop)(Q:dD):dD
 | .normal,ak,aj=>next ak aj
 |e,ak,aj=>Q e ak aj
theorem aiW{a b:aJ}(h:W S al a (KJ (W S al b Q) Q) ak aj):W S al (.seq a b) Q ak aj:=by
 obtain⟨n,e,aD,ao,h1,h2⟩:=h;cases e with
 |normal=>obtain⟨m,e,cZ,bj,h3,h4⟩:=h2;refine⟨max n m,e,cZ,bj,?_,h4⟩;simp only[exec];rw[zk S (Fo n m) h1];exact zk S (HN n m) h3
 |exit i=>exact⟨n,_,_,_,by simp[exec,h1],h2⟩
 |ret=>exact⟨n,_,_,_,by simp[exec,h1],h2⟩
theorem aiP{x:aR}{a b:aJ}{t:Bool}(hx:ev ak x=.one (.p (.bool t)))(h:if t=true then W S al a Q ak aj else W S al b Q ak aj):W S al (.cond x a b) Q ak aj:=by
 cases t with
 |true=>obtain⟨n,e,aD,ao,h1,h2⟩:=h;exact⟨n,e,aD,ao,by simp[exec,hx,h1],h2⟩
 |false=>obtain⟨n,e,aD,ao,h1,h2⟩:=(by simpa using h:W S al b Q ak aj);exact⟨n,e,aD,ao,by simp[exec,hx,h1],h2⟩
def lU(id:Nat)(Q:dD):dD
 | .exit i,ak,aj=>if i=id then Q .normal ak aj else Q (.exit i) ak aj
 |e,ak,aj=>Q e ak aj
theorem aiO{id:Nat}{c:aJ}(h:W S al c (lU id Q) ak aj):W S al (.block id c) Q ak aj:=by
 obtain⟨n,e,aD,ao,h1,h2⟩:=h;cases e with
 |normal=>exact⟨n,_,_,_,by simp[exec,h1],h2⟩
 |ret=>exact⟨n,_,_,_,by simp[exec,h1],h2⟩
 |exit i=>
  simp only[lU] at h2;by_cases hi:i=id
  .simp only[hi,if_true] at h2;exact⟨n,_,_,_,by simp[exec,h1,hi],h2⟩
  simp only[hi,if_false] at h2;exact⟨n,_,_,_,by simp[exec,h1,hi],h2⟩
theorem Qw(S:Sys){c:aJ}{n k l:Nat}(h:n<=m)(hk:k<=l){r:lG×Env×aA}(hr:iter (exec (S.ctx al) (gh S n) (gj S n) n c) k ak aj=some r):
  iter (exec (S.ctx al) (gh S m) (gj S m) m c) l ak aj=some r:=adQ (fun _ _ _ h'=>zk S h h') hk hr
theorem aiT{c:aJ}(I:Nat->Env->aA->Prop)(k0 N:Nat)(hk:k0<=N)(h0:I k0 ak aj)
  (round:∀k ak aj,k<=N->I k ak aj->W S al c (KJ (fun aD ao=>k<N/\I (k+1) aD ao) Q) ak aj):W S al (.loop c) Q ak aj:=by
 have key:∀j k ak aj,k+j=N->I k ak aj->∃n l e aD ao,iter (exec (S.ctx al) (gh S n) (gj S n) n c) l ak aj=some (e,aD,ao)/\Q e aD ao:=by
  intro j
  induction j with
  |zero=>
   intro k ak aj Gp hI;obtain⟨n,e,ik,bQ,h1,h2⟩:=round k ak aj aa hI;cases e with
   |normal=>obtain⟨au,_⟩:=h2;omega
   |exit i=>exact⟨n,1,_,_,_,by simp[iter,h1],h2⟩
   |ret=>exact⟨n,1,_,_,_,by simp[iter,h1],h2⟩
  |succ j ih=>
   intro k ak aj Gp hI;obtain⟨n,e,ik,bQ,h1,h2⟩:=round k ak aj aa hI;cases e with
   |normal=>obtain⟨_,hI1⟩:=h2;obtain⟨m,l,e,cZ,bj,h3,h4⟩:=ih (k+1) ik bQ aa hI1;refine⟨max n m,l+1,e,cZ,bj,?_,h4⟩;simp only[iter];rw[zk S (Fo n m) h1];exact Qw S (HN n m) (bJ _) h3
   |exit i=>exact⟨n,1,_,_,_,by simp[iter,h1],h2⟩
   |ret=>exact⟨n,1,_,_,_,by simp[iter,h1],h2⟩
 obtain⟨n,l,e,aD,ao,h1,h2⟩:=key (N-k0) k0 ak aj aa h0;refine⟨max n l,e,aD,ao,?_,h2⟩;simp only[exec];exact Qw S (Fo n l) (HN n l) h1
theorem aiU{d:Bool}{ops:List bG}(h:WO S al ops (fun ak aj es=>(d=true->sZ ops [] es=true)/\Q .normal ak aj) ak aj []):W S al (.region d ops) Q ak aj:=by
 obtain⟨n,aD,ao,es,h1,h2,h3⟩:=h;refine⟨n,.normal,aD,ao,?_,h3⟩;simp only[exec,h1];cases d with
 |false=>simp
 |true=>simpa using h2
theorem aiM{R:Env->aA->List bY->Prop}{tr:List bY}(h:R ak aj tr):WO S al [] R ak aj tr:=⟨0,ak,aj,[],rfl,by simpa using h⟩
theorem OP{o:bG}{os:List bG}{R:Env->aA->List bY->Prop}{tr:List bY}{n:Nat}{ik:Env}{bQ:aA}{e:bY}
  (h1:step1 (S.ctx al) (gh S n) (gj S n) o ak aj=some (ik,bQ,e)) (h:WO S al os R ik bQ (tr++[e])):WO S al (o::os) R ak aj tr:=by
 obtain⟨m,aD,ao,es,h2,h3⟩:=h;refine⟨max n m,aD,ao,e::es,?_,by simpa using h3⟩;simp only[steps];rw[ahs (DJ S (Fo n m)) (LF S (Fo n m)) h1];simp[aut S (HN n m) h2]
def F4(S:Sys)(al:Al)(p:fg)(d:Option Nat)(ak:Env)(aj:aA)(tr:List bY)(K:Env->aA->List bY->Prop):Prop:=
 match p with
 | .fail=>False
 | .done v u r=>al.ft (r++u.map (·.1))=true/\K (put ak d v) (app u aj) (tr++[⟨r,u.map (·.1),[]⟩])
 | .pc f vs r s=>∃x,aK S f vs x/\match land aj r s (x.fP (S.lone s)) with
  |some (v,u)=>al.ft (r++u.map (·.1))=true/\K (put ak d v) (app u aj) (tr++[⟨r++u.map (·.1),u.map (·.1),[]⟩])
  |none=>False
 | .sc f vs=>al.holds (allow (S.ctx al) f vs aj)=true/\ ∃v ao,iF S f vs (allow (S.ctx al) f vs aj) aj v ao/\
   K (put ak d v) ao (tr++[⟨(allow (S.ctx al) f vs aj).ids,(allow (S.ctx al) f vs aj).ids,(allow (S.ctx al) f vs aj).fs⟩])
def Ea(S:Sys)(al:Al)(w:Option Bool)(o:bG)(ak:Env)(aj:aA)(tr:List bY)(K:Env->aA->List bY->Prop):Prop:=
 match w with
 |none=>False
 |some false=>K (put ak o.dst .undef) aj (tr++[⟨[],[],[]⟩])
 |some true=>F4 S al (bt S.shared ak aj o.op) o.dst ak aj tr K
@[simp] theorem Al.Fy (l:List Nat):Al.all.ft l=true:=by simp[Al.ft,Al.ok,Al.all]
@[simp] theorem Al.avL (b:Al):Al.all.holds b=true:=rfl
theorem aiN{o:bG}{os:List bG}{R:Env->aA->List bY->Prop}{tr:List bY}
  (h:Ea S al (wanted ak o.guard) o ak aj tr (WO S al os R)):WO S al (o::os) R ak aj tr:=by
 cases hw:wanted ak o.guard with
 |none=>simp[hw,Ea] at h
 |some b=>
  cases b with
  |false=>rw[hw] at h;exact OP (n:=0) (by simp[step1,hw]) h
  |true=>
   rw[hw] at h;simp only[Ea] at h;have iv:(S.ctx al).shared=S.shared:=rfl;have fi:(S.ctx al).al=al:=rfl;have eG:(S.ctx al).lone=S.lone:=rfl;cases bU:bt S.shared ak aj o.op with
   |fail=>simp[bU,F4] at h
   |done v u r=>rw[bU] at h;obtain⟨h1,h⟩:=h;exact OP (n:=0) (by simp only[step1,hw,iv,fi,bU,h1,if_true]) h
   |pc f vs r s=>
    rw[bU] at h;obtain⟨x,⟨n,hx⟩,h⟩:=h;cases hl:land aj r s (x.fP (S.lone s)) with
    |none=>simp[hl] at h
    |some y=>obtain⟨v,u⟩:=y;simp only[hl] at h;obtain⟨h1,h⟩:=h;exact OP (n:=n) (by simp only[step1,hw,iv,fi,eG,bU,hx,hl,h1,if_true]) h
   |sc f vs=>rw[bU] at h;obtain⟨h1,v,ao,⟨n,hx⟩,h⟩:=h;exact OP (n:=n) (by simp only[step1,hw,iv,fi,bU,h1,if_true,hx]) h
end
end Go.Abs
namespace Go.Abs
variable {S:Sys} {al:Al}
def mH(al:Al)(res:List (Nat×Option (Option Nat)))(R:V->aA->Prop):dD
 | .exit _,_,_=>False
 |_,ak,aj=>match oF al ak aj res with
  |some vs=>R (Ah vs) aj
  |none=>False
theorem Su{fn:aV}{args:List V}{aj:aA}{R:V->aA->Prop}(h:W S al fn.body (mH al fn.results R) (rM args) aj):
  ∃n v ao,qZ (S.ctx al) (gh S n) (gj S n) n fn args aj=some (v,ao)/\R v ao:=by
 obtain⟨n,e,aD,ao,h1,h2⟩:=h;refine⟨n,?_⟩;unfold qZ;rw[h1];cases e with
 |exit i=>exact h2.elim
 |normal=>
  simp only[mH] at h2;split at h2
  .rename_i vs hv;exact⟨_,_,by simp only[show(S.ctx al).al=al from rfl,hv,mz],h2⟩
  exact h2.elim
 |ret=>
  simp only[mH] at h2;split at h2
  .rename_i vs hv;exact⟨_,_,by simp only[show(S.ctx al).al=al from rfl,hv,mz],h2⟩
  exact h2.elim
theorem aiD{f:Nat}{fn:aV}{args:List V}{r:RV}(hp:S.prim f args=none)(hf:S.fns f=some fn)(hl:args.length<=fn.ntmps)
  (h:W S .all fn.body (mH .all fn.results fun v aj=>iE aj v=some r) (rM args) Aa):aK S f args r:=by
 obtain⟨n,v,ao,h1,h2⟩:=Su h;refine⟨n+1,?_⟩;rw[gh];simp only[hp,hf,hl,if_true];unfold E6;rw[h1];exact h2
theorem mA{f:Nat}{fn:aV}{args:List V}{aj:aA}{R:V->aA->Prop}(hf:S.fns f=some fn)(hl:args.length<=fn.ntmps)
  (h:W S al fn.body (mH al fn.results R) (rM args) aj) (ht:S.trig f args=false:=by rfl):∃v ao,iF S f args al aj v ao/\R v ao:=by
 obtain⟨n,v,ao,h1,h2⟩:=Su h;refine⟨v,ao,⟨n+1,?_⟩,h2⟩;rw[gj];simp only[ht,dx,if_false,hf,hl,if_true];exact h1
end Go.Abs
namespace Go.Abs
variable {S:Sys} {al:Al} {Q:dD} {ak:Env} {aj:aA}
theorem Zf:W S al .skip Q ak aj↔Q .normal ak aj:=⟨fun⟨_,_,_,_,h,q⟩=>by simp[exec] at h;obtain⟨rfl,rfl,rfl⟩:=h;exact q,aiZ⟩
theorem Zb{id:Nat}:W S al (.exit id) Q ak aj↔Q (.exit id) ak aj:=⟨fun⟨_,_,_,_,h,q⟩=>by simp[exec] at h;obtain⟨rfl,rfl,rfl⟩:=h;exact q,aiS⟩
theorem Ze:W S al .ret Q ak aj↔Q .ret ak aj:=⟨fun⟨_,_,_,_,h,q⟩=>by simp[exec] at h;obtain⟨rfl,rfl,rfl⟩:=h;exact q,aiV⟩
theorem aiX{a b:aJ}:W S al (.seq a b) Q ak aj↔W S al a (KJ (W S al b Q) Q) ak aj:=by
 refine⟨?_,aiW⟩;rintro ⟨n,e,aD,ao,h,q⟩
 simp only[exec] at h;cases h1:exec (S.ctx al) (gh S n) (gj S n) n a ak aj with
 |none=>simp[h1] at h
 |some x=>
  obtain⟨e1,ik,bQ⟩:=x;refine⟨n,e1,ik,bQ,h1,?_⟩;cases e1 with
  |normal=>simp only[h1] at h;exact⟨n,e,aD,ao,h,q⟩
  |exit i=>simp[h1] at h;obtain⟨rfl,rfl,rfl⟩:=h;exact q
  |ret=>simp[h1] at h;obtain⟨rfl,rfl,rfl⟩:=h;exact q
def Iv(v:V)(A B:Prop):Prop:=
 match v with
 | .one (.p (.bool t))=>if t=true then A else B
 |_=>False
theorem aiQ{x:aR}{a b:aJ}:W S al (.cond x a b) Q ak aj↔Iv (ev ak x) (W S al a Q ak aj) (W S al b Q ak aj):=by
 constructor
 .rintro ⟨n,e,aD,ao,h,q⟩
  simp only[exec] at h;split at h
  .rename_i t ht;rw[ht];simp only[Iv];cases t with
   |true=>exact⟨n,e,aD,ao,by simpa using h,q⟩
   |false=>exact⟨n,e,aD,ao,by simpa using h,q⟩
  cases h
 intro h;unfold Iv at h;split at h
 .rename_i t ht;exact aiP ht h
 exact h.elim
theorem Za{id:Nat}{c:aJ}:W S al (.block id c) Q ak aj↔W S al c (lU id Q) ak aj:=by
 refine⟨?_,aiO⟩;rintro ⟨n,e,aD,ao,h,q⟩
 simp only[exec] at h;cases h1:exec (S.ctx al) (gh S n) (gj S n) n c ak aj with
 |none=>simp[h1] at h
 |some x=>
  obtain⟨e1,ik,bQ⟩:=x;refine⟨n,e1,ik,bQ,h1,?_⟩;cases e1 with
  |normal=>simp[h1] at h;obtain⟨rfl,rfl,rfl⟩:=h;exact q
  |ret=>simp[h1] at h;obtain⟨rfl,rfl,rfl⟩:=h;exact q
  |exit i=>
   simp only[h1] at h;simp only[lU];split at h
   .rename_i hi;simp at h;obtain⟨rfl,rfl,rfl⟩:=h;rw[aF hi];exact q
   rename_i hi;simp at h;obtain⟨rfl,rfl,rfl⟩:=h;rw[ay hi];exact q
theorem St{R:Env->aA->List bY->Prop}{tr:List bY}:WO S al [] R ak aj tr↔R ak aj tr:=by
 refine⟨?_,aiM⟩;rintro ⟨n,aD,ao,es,h,q⟩
 simp[steps] at h;obtain⟨rfl,rfl,rfl⟩:=h
 simpa using q
theorem OQ{o:bG}{os:List bG}{R:Env->aA->List bY->Prop}{tr:List bY}:
  WO S al (o::os) R ak aj tr↔Ea S al (wanted ak o.guard) o ak aj tr (WO S al os R):=by
 refine⟨?_,aiN⟩;rintro ⟨n,aD,ao,es,h,q⟩
 simp only[steps] at h;cases h1:step1 (S.ctx al) (gh S n) (gj S n) o ak aj with
 |none=>simp[h1] at h
 |some x=>
  obtain⟨ik,bQ,e⟩:=x;simp only[h1] at h;cases h2:steps (S.ctx al) (gh S n) (gj S n) os ik bQ with
  |none=>simp[h2] at h
  |some y=>
   obtain⟨cZ,bj,es2⟩:=y;simp[h2] at h;obtain⟨rfl,rfl,rfl⟩:=h;have hk:WO S al os R ik bQ (tr++[e]):=⟨n,_,_,es2,h2,by simpa using q⟩;unfold step1 at h1;cases hw:wanted ak o.guard with
   |none=>simp[hw] at h1
   |some b=>
    cases b with
    |false=>simp[hw] at h1;obtain⟨rfl,rfl,rfl⟩:=h1;exact hk
    |true=>
     simp only[hw] at h1;simp only[Ea];have iv:(S.ctx al).shared=S.shared:=rfl;have fi:(S.ctx al).al=al:=rfl;have eG:(S.ctx al).lone=S.lone:=rfl;simp only[iv,fi,eG] at h1;cases bU:bt S.shared ak aj o.op with
     |fail=>simp[bU] at h1
     |done v u r=>
      simp only[bU] at h1;split at h1
      .rename_i aq;cases h1;exact⟨aq,hk⟩
      cases h1
     |pc f vs r s=>
      simp only[bU] at h1;cases hc:gh S n f vs with
      |none=>simp[hc] at h1
      |some x=>
       simp only[hc] at h1;refine⟨x,⟨n,hc⟩,?_⟩;cases hl:land aj r s (x.fP (S.lone s)) with
       |none=>simp[hl] at h1
       |some y=>
        obtain⟨v,u⟩:=y;simp only[hl] at h1;split at h1
        .rename_i aq;cases h1;exact⟨aq,hk⟩
        cases h1
     |sc f vs=>
      simp only[bU] at h1;split at h1
      .rename_i aq;cases hc:gj S n f vs (allow (S.ctx al) f vs aj) aj with
       |none=>simp[hc] at h1
       |some x=>obtain⟨v,b⟩:=x;simp only[hc] at h1;cases h1;exact⟨aq,v,_,⟨n,hc⟩,hk⟩
      cases h1
theorem Zd{d:Bool}{ops:List bG}:W S al (.region d ops) Q ak aj↔WO S al ops (fun ak aj es=>(d=true->sZ ops [] es=true)/\Q .normal ak aj) ak aj []:=by
 refine⟨?_,aiU⟩;rintro ⟨n,e,aD,ao,h,q⟩
 simp only[exec] at h;cases h1:steps (S.ctx al) (gh S n) (gj S n) ops ak aj with
 |none=>simp[h1] at h
 |some x=>
  obtain⟨ik,bQ,es⟩:=x;simp only[h1] at h;cases d with
  |false=>simp at h;obtain⟨rfl,rfl,rfl⟩:=h;exact⟨n,_,_,es,h1,af,q⟩
  |true=>simp at h;obtain⟨hd,rfl,rfl,rfl⟩:=h;exact⟨n,_,_,es,h1,fun _=>by simpa using hd,q⟩
end Go.Abs
namespace Go.Abs
inductive ch (w:World) (own:Nat->Prop):PV->Value->Prop where
 |bool (b:Bool):ch w own (.bool b) (.bool b)
 |int (k:IntKind) (n:Int):ch w own (.int k n) (.int k n)
 |str (s:ByteArray):ch w own (.str s) (.string s)
 |uP:ch w own .uP (.pointer none)
 |nils:ch w own .nils (.slice none 0 0)
 |qU:ch w own .qU (.map none)
 |yz:ch w own .yz .nilFunc
 |nili:ch w own .nili .nilIface
 |ifc (d:TypeId) (x:Value):ch w own .ifc (.iface d x)
 |zs (a:Option Addr):ch w own .zs (.slice a 0 0)
 |box {cs:List PV} (b o:Nat) (f:Nat->Value) (ho:cs≠[]-> ¬own b)
   (hc:∀(j:Nat) (x:PV),cs[j]?=some x->w.cell? ⟨b,o+j,none⟩=some (f j))
   (hr:∀(j:Nat) (x:PV),cs[j]?=some x->ch w own x (f j)):ch w own (.box cs) (.pointer (some ⟨b,o,none⟩))
 |yE (a:Option Addr) (cap:Nat) (hn:a=none->cap=0) (hm:cap<=maxLen):ch w own (.sl []) (.slice a 0 cap)
 |sl {es:List (List PV)} (b o cap sz:Nat) (f:Nat->Value) (ho:es.flatten≠[]-> ¬own b) (hl:es.length<=cap) (hm:cap<=maxLen) (cq:∀e∈es,e.length=sz)
   (hc:∀(j:Nat) (x:PV),es.flatten[j]?=some x->w.cell? ⟨b,o+j,none⟩=some (f j))
   (hr:∀(j:Nat) (x:PV),es.flatten[j]?=some x->ch w own x (f j)):ch w own (.sl es) (.slice (some ⟨b,o,none⟩) es.length cap)
 |mp {ag:Bool} {es:List (PV×List PV)} (r:Nat) (ents:Array MapEntry) (clock:Nat) (g:Nat->Array Value) (ho:¬own r) (hb:w.heap[r]?=some (.map ents clock)) (hl:ents.size=es.length)
   (hk:∀(i:Nat) (q:PV) (v:List PV) (e:MapEntry),es[i]?=some (q,v)->ents[i]?=some e->ch w own q e.key)
   (hv:∀(i:Nat) (q:PV) (v:List PV) (e:MapEntry),es[i]?=some (q,v)->ents[i]?=some e->(g i).size=v.length/\(ag=true->e.val=.agg (g i))/\(ag=false-> #[e.val]=g i))
   (hr:∀(i:Nat) (q:PV) (v:List PV) (j:Nat) (x:PV) (u:Value),es[i]?=some (q,v)->v[j]?=some x->(g i)[j]?=some u->ch w own x u):ch w own (.mp ag es) (.map (some r))
 |fn {f:Nat} {a b:List PV} (A B:Array Value) (ha:A.size=a.length) (hb:B.size=b.length)
   (vB:∀(j:Nat) (x:PV) (u:Value),a[j]?=some x->A[j]?=some u->ch w own x u)
   (qQ:∀(j:Nat) (x:PV) (u:Value),b[j]?=some x->B[j]?=some u->ch w own x u):ch w own (.fn f a b) (.func (.func f) A B)
theorem ch.NU{w:World}{own:Nat->Prop}{x:PV}{v:Value}(h:ch w own x v):v.oneCell'=true:=by cases h<;>rfl
theorem ch.cells{w:World}{own:Nat->Prop}{x:PV}{v:Value}(h:ch w own x v):v.cells= #[v]:=by cases h<;>rfl
theorem ZV{w:World}{b o:Nat}{v:Value}(h:w.cell? ⟨b,o,none⟩=some v):b<w.heap.size:=World.block_lt_of_cell? w ⟨b,o,none⟩ h
theorem vn{w:World}{b:Nat}{o:Obj}(h:w.heap[b]?=some o):b<w.heap.size:=(R8.1 h).1
theorem ch.mono{w w':World}{own Ad:Nat->Prop}(hk:∀c,c<w.heap.size-> ¬own c->w'.heap[c]?=w.heap[c]? /\ ¬Ad c){x:PV}{v:Value}
  (h:ch w own x v):ch w' Ad x v:=by
 induction h with
 |bool b=>exact .bool b
 |int k n=>exact .int k n
 |str s=>exact .str s
 |uP=>exact .uP
 |nils=>exact .nils
 |qU=>exact .qU
 |yz=>exact .yz
 |nili=>exact .nili
 |ifc d x=>exact .ifc d x
 |zs a=>exact .zs a
 | @box cs b o f ho hc _ ih=>
  cases cs with
  |nil=>exact .box b o f (fun h=>(h rfl).elim) (fun j x h=>by simp at h) (fun j x h=>by simp at h)
  |cons c r=>have hb:=ZV (hc 0 c rfl);have hn:=ho af;refine .box b o f (fun _=>(hk b hb hn).2) (fun j x h=>?_) ih;rw[World.cell?_of_block (hk b hb hn).1];exact hc j x h
 |yE a cap hn hm=>exact .yE a cap hn hm
 | @sl es b o cap sz f ho hl hm cq hc _ ih=>
  cases hf:es.flatten with
  |nil=>exact .sl b o cap sz f (fun h=>(h hf).elim) hl hm cq (fun j x h=>by simp[hf] at h) (fun j x h=>by simp[hf] at h)
  |cons c r=>have hb:=ZV (hc 0 c (by simp[hf]));have hn:=ho (by simp[hf]);refine .sl b o cap sz f (fun _=>(hk b hb hn).2) hl hm cq (fun j x h=>?_) ih;rw[World.cell?_of_block (hk b hb hn).1];exact hc j x h
 | @mp ag es r ents clock g ho hb hl _ hv _ ihk ihr=>exact .mp r ents clock g (hk r (vn hb) ho).2 ((hk r (vn hb) ho).1.trans hb) hl ihk hv ihr
 |fn A B ha hb _ _ iha ihb=>exact .fn A B ha hb iha ihb
structure Mem where
 w:World
 aj:aA
 σ:Nat->Nat
 κ:Nat->Nat
 fr:Nat->Prop
def Ob.fA:Ob->Bool
 | .var _| .arr _ _ _| .iI _ _ _| .map _ _=>true
 |_=>false
def kI:Nat×Option Ob->Option Nat
 |(_,some (.arr _ sz _))=>some sz
 |(_,some (.iI _ sz _))=>some sz
 |(_,some (.oR _ sz _))=>some sz
 |_=>none
def Mem.fA(m:Mem)(c:Nat):Prop:= ∃id o,(m.aj id).2=some o/\o.fA=true/\m.σ id=c
def Mem.own(m:Mem)(c:Nat):Prop:=m.fr c\/m.fA c
inductive cY (m:Mem):C->Value->Prop where
 |p {x:PV} {v:Value} (h:ch m.w m.own x v):cY m (.p x) v
 |aY {id g off:Nat} (a:Addr) (hg:g<=(m.aj id).1) (h:(m.aj id).1=g->(m.aj id).2.isSome=true->a=⟨m.σ id,off,none⟩):cY m (.aY id g off) (.pointer (some a))
 |dB {id g i off:Nat} (a:Addr) (hg:g<=(m.aj id).1) (h:∀sz,(m.aj id).1=g->kI (m.aj id)=some sz->a=⟨m.σ id,i*sz+off,none⟩):cY m (.dB id g i off) (.pointer (some a))
 |hsl {id g z off len:Nat} (a:Addr) (cap:Nat) (hg:g<=(m.aj id).1) (hl:len<=cap) (hm:cap<=maxLen)
   (h:∀sz,(m.aj id).1=g->kI (m.aj id)=some sz->sz=z/\(off=0\/0<len->a=⟨m.σ id,off*sz,none⟩)/\off+cap=m.κ id):
   cY m (.hsl id g z off len) (.slice (some a) len cap)
 |jW {id g:Nat} (r:Nat) (hg:g<=(m.aj id).1) (h:(m.aj id).1=g->(m.aj id).2.isSome=true->r=m.σ id):cY m (.jW id g) (.map (some r))
 |hfn {f:Nat} {a b:List C} (A B:Array Value) (ha:A.size=a.length) (hb:B.size=b.length)
   (vB:∀(j:Nat) (x:C) (u:Value),a[j]?=some x->A[j]?=some u->cY m x u)
   (qQ:∀(j:Nat) (x:C) (u:Value),b[j]?=some x->B[j]?=some u->cY m x u):cY m (.hfn f a b) (.func (.func f) A B)
theorem cY.NU{m:Mem}{x:C}{v:Value}(h:cY m x v):v.oneCell'=true:=by
 cases h with
 |p h=>exact h.NU
 |_=>rfl
theorem cY.cells{m:Mem}{x:C}{v:Value}(h:cY m x v):v.cells= #[v]:=by
 cases h with
 |p h=>exact h.cells
 |_=>rfl
def dq(m:Mem)(cs:List C)(vs:List Value):Prop:=vs.length=cs.length/\ ∀(j:Nat) (x:C) (u:Value),cs[j]?=some x->vs[j]?=some u->cY m x u
def dj(w:World)(own:Nat->Prop)(cs:List PV)(vs:List Value):Prop:=vs.length=cs.length/\ ∀(j:Nat) (x:PV) (u:Value),cs[j]?=some x->vs[j]?=some u->ch w own x u
def nH(m:Mem):V->Value->Prop
 | .undef,v=>v=undef
 | .one c,v=>cY m c v
 | .agg cs,v=>∃arr,v=.agg arr/\dq m cs arr.toList
 | .tup _,_=>False
def bK(m:Mem):V->Value->Prop
 | .tup vs,v=>∃arr,v=.tuple arr/\arr.size=vs.length/\ ∀(j:Nat) (x:V) (u:Value),vs[j]?=some x->arr[j]?=some u->nH m x u
 |x,v=>nH m x v
def tn(m:Mem)(id:Nat):Ob->Prop
 | .var cs=>∃cur ty,m.w.heap[m.σ id]?=some (.cells cur ty (0,0))/\dq m cs cur.toList
 | .fvar cs=>∃cur ty fz,m.w.heap[m.σ id]?=some (.cells cur ty fz)/\dj m.w m.own cs cur.toList/\ ¬m.own (m.σ id)
 | .arr ty sz es=>∃cur,m.w.heap[m.σ id]?=some (.cells cur ty (0,0))/\0<sz/\(∀e∈es,e.length=sz)/\es.length<=m.κ id/\m.κ id<=maxLen/\cur.size=m.κ id*sz/\
   dj m.w m.own es.flatten (cur.toList.take (es.length*sz))
 | .oR ty sz es=>∃cur fz,m.w.heap[m.σ id]?=some (.cells cur ty fz)/\0<sz/\(∀e∈es,e.length=sz)/\es.length<=m.κ id/\m.κ id<=maxLen/\cur.size=m.κ id*sz/\
   dj m.w m.own es.flatten (cur.toList.take (es.length*sz))/\ ¬m.own (m.σ id)
 | .iI ty sz es=>∃cur,m.w.heap[m.σ id]?=some (.cells cur ty (0,0))/\0<sz/\(∀e∈es,e.length=sz)/\es.length<=m.κ id/\m.κ id<=maxLen/\cur.size=m.κ id*sz/\
   dq m es.flatten (cur.toList.take (es.length*sz))
 | .map ag es=>∃ents clock,m.w.heap[m.σ id]?=some (.map ents clock)/\ents.size=es.length/\
   ∀(i:Nat) (q:PV) (v:List PV) (e:MapEntry),es[i]?=some (q,v)->ents[i]?=some e->ch m.w m.own q e.key/\ ∃g:Array Value,(ag=true->e.val=.agg g)/\(ag=false-> #[e.val]=g)/\dj m.w m.own v g.toList
 | .fmap ag es=>∃ents clock,m.w.heap[m.σ id]?=some (.map ents clock)/\ents.size=es.length/\
   (∀(i:Nat) (q:PV) (v:List PV) (e:MapEntry),es[i]?=some (q,v)->ents[i]?=some e->ch m.w m.own q e.key/\ ∃g:Array Value,(ag=true->e.val=.agg g)/\(ag=false-> #[e.val]=g)/\dj m.w m.own v g.toList)/\ ¬m.own (m.σ id)
structure Ok (w0:World) (m:Mem):Prop where
 os:m.w.os=w0.os
 tape:m.w.tape=w0.tape
 output:m.w.output=w0.output
 size:w0.heap.size<=m.w.heap.size
 base:∀c,c<w0.heap.size->m.w.heap[c]?=w0.heap[c]?
 obj:∀id o,(m.aj id).2=some o->tn m id o
 gb:∀id o,(m.aj id).2=some o->o.fA=true->w0.heap.size<=m.σ id/\ ¬m.fr (m.σ id)
 frlt:∀c,m.fr c->c<m.w.heap.size
 inj:∀id eT o o',(m.aj id).2=some o->o.fA=true->(m.aj eT).2=some o'->o'.fA=true->m.σ id=m.σ eT->id=eT
structure Ev (m m':Mem):Prop where
 os:m'.w.os=m.w.os
 tape:m'.w.tape=m.w.tape
 output:m'.w.output=m.w.output
 size:m.w.heap.size<=m'.w.heap.size
 keep:∀c,c<m.w.heap.size-> ¬m.fA c->m'.w.heap[c]?=m.w.heap[c]?
 fA:∀c,c<m.w.heap.size->m'.fA c->m.fA c
 less:∀c,c<m.w.heap.size-> ¬m.own c-> ¬m'.own c
 gen:∀id,(m.aj id).1<=(m'.aj id).1
 ref:∀id,(m'.aj id).1=(m.aj id).1->(m'.aj id).2.isSome=true->(m.aj id).2.isSome=true/\m'.σ id=m.σ id/\m'.κ id=m.κ id/\kI (m'.aj id)=kI (m.aj id)
theorem Ev.refl(m:Mem):Ev m m:=⟨rfl,rfl,rfl,bJ _,fun _ _ _=>rfl,fun _ _ h=>h,fun _ _ h=>h,fun _=>bJ _,fun _ _ h=>⟨h,rfl,rfl,rfl⟩⟩
theorem Ev.trans{a b c:Mem}(h:Ev a b)(k:Ev b c):Ev a c where
 os:=k.os.trans h.os
 tape:=k.tape.trans h.tape
 output:=k.output.trans h.output
 size:=mT h.size k.size
 keep x hx hm:=(k.keep x (DB hx h.size) fun hb=>hm (h.fA x hx hb)).trans (h.keep x hx hm)
 fA x hx hm:=h.fA x hx (k.fA x (DB hx h.size) hm)
 less x hx hn:=k.less x (DB hx h.size) (h.less x hx hn)
 gen id:=mT (h.gen id) (k.gen id)
 ref id he hs:=by have h1:=h.gen id;have h2:=k.gen id;obtain⟨s1,e1,e2,e3⟩:=k.ref id aa hs;obtain⟨s2,f1,f2,f3⟩:=h.ref id aa s1;exact⟨s2,e1.trans f1,e2.trans f2,e3.trans f3⟩
theorem Ev.own{m m':Mem}(h:Ev m m'):∀c,c<m.w.heap.size-> ¬m.own c->m'.w.heap[c]?=m.w.heap[c]? /\ ¬m'.own c:=fun c hc hn=>⟨h.keep c hc fun hm=>hn (.inr hm),h.less c hc hn⟩
theorem ahA{x:Nat×Option Ob}{sz:Nat}(h:kI x=some sz):x.2.isSome=true:=by
 obtain⟨g,o⟩:=x;cases o with
 |none=>simp[kI] at h
 |some o=>rfl
structure uj (m m':Mem):Prop where
 own:∀c,c<m.w.heap.size-> ¬m.own c->m'.w.heap[c]?=m.w.heap[c]? /\ ¬m'.own c
 gen:∀id,(m.aj id).1<=(m'.aj id).1
 ref:∀id,(m'.aj id).1=(m.aj id).1->(m'.aj id).2.isSome=true->(m.aj id).2.isSome=true/\m'.σ id=m.σ id/\m'.κ id=m.κ id/\kI (m'.aj id)=kI (m.aj id)
theorem Ev.zero{m m':Mem}(h:Ev m m'):uj m m':=⟨h.own,h.gen,h.ref⟩
theorem ch.ev{m m':Mem}(h:uj m m'){x:PV}{v:Value}(hr:ch m.w m.own x v):ch m'.w m'.own x v:=hr.mono h.own
theorem cY.ev{m m':Mem}(h:uj m m'){x:C}{v:Value}(hr:cY m x v):cY m' x v:=by
 induction hr with
 |p hp=>exact .p (hp.ev h)
 | @aY id g off a hg ha=>have V2:=h.gen id;refine .aY a aa fun CB hs=>?_;obtain⟨s,e1,_,_⟩:=h.ref id aa hs;rw[e1];exact ha aa s
 | @dB id g i off a hg ha=>have V2:=h.gen id;refine .dB a aa fun sz CB hs=>?_;obtain⟨s,e1,_,e3⟩:=h.ref id aa (ahA hs);rw[e1];exact ha sz aa (e3▸hs)
 | @hsl id g z off len a cap hg hl hm ha=>have V2:=h.gen id;refine .hsl a cap aa hl hm fun sz CB hs=>?_;obtain⟨s,e1,e2,e3⟩:=h.ref id aa (ahA hs);rw[e1,e2];exact ha sz aa (e3▸hs)
 | @jW id g r hg hr=>have V2:=h.gen id;refine .jW r aa fun CB hs=>?_;obtain⟨s,e1,_,_⟩:=h.ref id aa hs;rw[e1];exact hr aa s
 |hfn A B ha hb _ _ iha ihb=>exact .hfn A B ha hb iha ihb
theorem dq.ev{m m':Mem}(h:uj m m'){cs:List C}{vs:List Value}(hr:dq m cs vs):dq m' cs vs:=⟨hr.1,fun j x u a b=>(hr.2 j x u a b).ev h⟩
theorem dj.mono{w w':World}{own Ad:Nat->Prop}(hk:∀c,c<w.heap.size-> ¬own c->w'.heap[c]?=w.heap[c]? /\ ¬Ad c){cs:List PV}{vs:List Value}
  (hr:dj w own cs vs):dj w' Ad cs vs:=⟨hr.1,fun j x u a b=>(hr.2 j x u a b).mono hk⟩
theorem dj.ev{m m':Mem}(h:uj m m'){cs:List PV}{vs:List Value}(hr:dj m.w m.own cs vs):dj m'.w m'.own cs vs:=hr.mono h.own
theorem nH.ev{m m':Mem}(h:uj m m'){x:V}{v:Value}(hr:nH m x v):nH m' x v:=by
 cases x with
 |undef=>exact hr
 |one c=>exact cY.ev h hr
 |agg cs=>obtain⟨arr,e,hc⟩:=hr;exact⟨arr,e,hc.ev h⟩
 |tup vs=>exact hr.elim
theorem bK.ev{m m':Mem}(h:uj m m'){x:V}{v:Value}(hr:bK m x v):bK m' x v:=by
 cases x with
 |tup vs=>obtain⟨arr,e,hs,hc⟩:=hr;exact⟨arr,e,hs,fun j x u a b=>(hc j x u a b).ev h⟩
 |undef=>exact nH.ev (x:=.undef) h hr
 |one c=>exact nH.ev (x:=.one c) h hr
 |agg cs=>exact nH.ev (x:=.agg cs) h hr
theorem tn.ev{m m':Mem}(h:uj m m'){id:Nat}{o:Ob}(hs:m'.σ id=m.σ id)(hk:m'.κ id=m.κ id)(hh:m'.w.heap[m.σ id]?=m.w.heap[m.σ id]?)
  (hr:tn m id o):tn m' id o:=by
 cases o with
 |var cs=>obtain⟨cur,ty,a,b⟩:=hr;exact⟨cur,ty,by rw[hs,hh];exact a,b.ev h⟩
 |fvar cs=>obtain⟨cur,ty,fz,a,b,c⟩:=hr;exact⟨cur,ty,fz,by rw[hs,hh];exact a,b.ev h,by rw[hs];exact(h.own _ (vn a) c).2⟩
 |arr ty sz es=>obtain⟨cur,a,b,c,d,e,f,g⟩:=hr;exact⟨cur,by rw[hs,hh];exact a,b,c,by rw[hk];exact d,by rw[hk];exact e,by rw[hk];exact f,g.ev h⟩
 |oR ty sz es=>obtain⟨cur,fz,a,b,c,d,e,f,g,i⟩:=hr;exact⟨cur,fz,by rw[hs,hh];exact a,b,c,by rw[hk];exact d,by rw[hk];exact e,by rw[hk];exact f,g.ev h,by rw[hs];exact(h.own _ (vn a) i).2⟩
 |iI ty sz es=>obtain⟨cur,a,b,c,d,e,f,g⟩:=hr;exact⟨cur,by rw[hs,hh];exact a,b,c,by rw[hk];exact d,by rw[hk];exact e,by rw[hk];exact f,g.ev h⟩
 |map ag es=>obtain⟨ents,clock,a,b,c⟩:=hr;exact⟨ents,clock,by rw[hs,hh];exact a,b,fun i q v e x y=>let ⟨p,g,g1,g2,g3⟩:=c i q v e x y;⟨p.ev h,g,g1,g2,g3.ev h⟩⟩
 |fmap ag es=>obtain⟨ents,clock,a,b,c,d⟩:=hr;exact⟨ents,clock,by rw[hs,hh];exact a,b,fun i q v e x y=>let ⟨p,g,g1,g2,g3⟩:=c i q v e x y;⟨p.ev h,g,g1,g2,g3.ev h⟩,by rw[hs];exact(h.own _ (vn a) d).2⟩
theorem tn.lt{m:Mem}{id:Nat}{o:Ob}(hr:tn m id o):m.σ id<m.w.heap.size:=by
 cases o with
 |var cs=>obtain⟨cur,ty,a,_⟩:=hr;exact vn a
 |fvar cs=>obtain⟨cur,ty,fz,a,_⟩:=hr;exact vn a
 |arr ty sz es=>obtain⟨cur,a,_⟩:=hr;exact vn a
 |oR ty sz es=>obtain⟨cur,fz,a,_⟩:=hr;exact vn a
 |iI ty sz es=>obtain⟨cur,a,_⟩:=hr;exact vn a
 |map ag es=>obtain⟨ents,clock,a,_⟩:=hr;exact vn a
 |fmap ag es=>obtain⟨ents,clock,a,_⟩:=hr;exact vn a
theorem tn.calm{m:Mem}{id:Nat}{o:Ob}(hr:tn m id o)(ho:o.fA=false):¬m.own (m.σ id):=by
 cases o with
 |fvar cs=>obtain⟨cur,ty,fz,_,_,c⟩:=hr;exact c
 |oR ty sz es=>obtain⟨cur,fz,_,_,_,_,_,_,_,c⟩:=hr;exact c
 |fmap ag es=>obtain⟨_,_,_,_,_,c⟩:=hr;exact c
 |_=>simp[Ob.fA] at ho
end Go.Abs
namespace Go.Abs
variable {w0:World}
section
variable{m:Mem}
structure fy (w w':World):Prop where
 os:w'.os=w.os
 tape:w'.tape=w.tape
 output:w'.output=w.output
 size:w.heap.size<=w'.heap.size
 keep:∀c,c<w.heap.size->w'.heap[c]?=w.heap[c]?
theorem fy.refl(w:World):fy w w:=⟨rfl,rfl,rfl,bJ _,fun _ _=>rfl⟩
theorem fy.trans{a b c:World}(h:fy a b)(k:fy b c):fy a c:=
 ⟨k.os.trans h.os,k.tape.trans h.tape,k.output.trans h.output,mT h.size k.size,fun x hx=>(k.keep x (DB hx h.size)).trans (h.keep x hx)⟩
theorem fy.alloc(w:World)(o:Obj):fy w (w.alloc o):=⟨rfl,rfl,rfl,af,fun _ hc=>heap_alloc_old w o hc⟩
theorem fy.drew(w:World):fy w w.drew:=⟨rfl,rfl,rfl,bJ _,fun _ _=>rfl⟩
def Mem.later(m:Mem)(w':World)(X:Nat->Prop):Mem:={m with w:=w',fr:=fun c=>m.fr c\/X c}
theorem aeL{w':World}{X:Nat->Prop}{c:Nat}:(m.later w' X).own c↔m.own c\/X c:=by
 unfold Mem.own Mem.fA Mem.later;constructor
 .rintro ((h|h)|h)
  .exact .inl (.inl h)
  .exact .inr h
  exact .inl (.inr h)
 rintro ((h|h)|h)
 .exact .inl (.inl h)
 .exact .inr h
 exact .inl (.inr h)
theorem JQ{w':World}{X:Nat->Prop}(hg:fy m.w w')(hX:∀c,X c->m.w.heap.size<=c):Ev m (m.later w' X) where
 os:=hg.os
 tape:=hg.tape
 output:=hg.output
 size:=hg.size
 keep c hc _:=hg.keep c hc
 fA c _ h:=h
 less c hc hn h:=by
  rcases aeL.1 h with h|h
  .exact hn h
  have:=hX c h;omega
 gen _:=bJ _
 ref _ _ hs:=⟨hs,rfl,rfl,rfl⟩
theorem NH{w':World}{X:Nat->Prop}(h:Ok w0 m)(hg:fy m.w w')(hX:∀c,X c->m.w.heap.size<=c/\c<w'.heap.size):Ok w0 (m.later w' X) where
 os:=hg.os.trans h.os
 tape:=hg.tape.trans h.tape
 output:=hg.output.trans h.output
 size:=mT h.size hg.size
 base c hc:=(hg.keep c (DB hc h.size)).trans (h.base c hc)
 obj id o ho:=(h.obj id o ho).ev (JQ hg fun c hc=>(hX c hc).1).zero rfl rfl (hg.keep _ (h.obj id o ho).lt)
 gb id o ho hm:=by
  refine⟨(h.gb id o ho hm).1,?_⟩;rintro (hf|hx)
  .exact(h.gb id o ho hm).2 hf
  have h1:=(hX _ hx).1;have h2:=(h.obj id o ho).lt;simp only[Mem.later] at h1;omega
 frlt c hc:=by
  rcases hc with hf|hx
  .exact DB (h.frlt c hf) hg.size
  exact(hX c hx).2
 inj:=h.inj
def Mem.install(m:Mem)(s c k:Nat)(o:Ob):Mem:=⟨m.w,dJ m.aj s ((m.aj s).1+1,some o),dJ m.σ s c,dJ m.κ s k,fun x=>m.fr x/\x≠c⟩
theorem adK{s c k:Nat}{o:Ob}{x:Nat}(h:(m.install s c k o).fA x):x=c\/m.fA x:=by
 obtain⟨id,o',ho,hm,hx⟩:=h;simp only[Mem.install,aN] at ho hx;by_cases hid:id=s
 .simp only[hid,if_true] at hx;exact .inl hx.symm
 simp only[hid,if_false] at ho hx;exact .inr ⟨id,o',ho,hm,hx⟩
theorem Qr{s c k:Nat}{o:Ob}(hc:m.fr c){x:Nat}(h:(m.install s c k o).own x):m.own x:=by
 rcases h with h|h
 .exact .inl h.1
 rcases adK h with rfl|h
 .exact .inl hc
 exact .inr h
theorem Qp{m1:Mem}{s c k:Nat}{o:Ob}(h:Ev m m1)(hc:m1.fr c)(hn:m.w.heap.size<=c\/m.fA c):Ev m (m1.install s c k o) where
 os:=h.os
 tape:=h.tape
 output:=h.output
 size:=h.size
 keep:=h.keep
 fA x hx hm:=by
  rcases adK hm with rfl|hm
  .rcases hn with hn|hn
   .omega
   exact hn
  exact h.fA x hx hm
 less x hx dk hm:=h.less x hx dk (Qr hc hm)
 gen id:=by
  simp only[Mem.install,aN];have:=h.gen id;split
  .rename_i e;subst e;simp only;omega
  exact this
 ref id he hs:=by
  have hg:=h.gen id;simp only[Mem.install,aN] at he hs ⊢;by_cases hid:id=s
  .subst hid;simp only[if_true] at he;omega
  simp only[hid,if_false] at he hs ⊢;exact h.ref id he hs
theorem Qq{s c k:Nat}{o:Ob}(h:Ok w0 m)(hc:m.fr c)(eG:w0.heap.size<=c)(ho:tn (m.install s c k o) s o):Ok w0 (m.install s c k o):=by
 have hk:∀x,x<m.w.heap.size-> ¬m.own x->(m.install s c k o).w.heap[x]?=m.w.heap[x]? /\ ¬(m.install s c k o).own x:=fun x _ hn=>⟨rfl,fun h=>hn (Qr hc h)⟩
 have dQ:uj m (m.install s c k o):=by
  refine⟨hk,fun id=>?_,fun id he hs=>?_⟩
  .simp only[Mem.install,aN];split
   .rename_i e;subst e;simp only;omega
   exact bJ _
  simp only[Mem.install,aN] at he hs ⊢;by_cases hid:id=s
  .subst hid;simp only[if_true] at he;omega
  simp only[hid,if_false] at he hs ⊢;exact⟨hs,trivial,trivial,trivial⟩
 exact {
  os:=h.os
  tape:=h.tape
  output:=h.output
  size:=h.size
  base:=h.base
  obj:=by
   intro id o' kQ;by_cases hid:id=s
   .subst hid;simp only[Mem.install,aN,if_true,fD] at kQ;exact kQ▸ho
   have hs:(m.install s c k o).σ id=m.σ id:=by simp[Mem.install,aN,hid]
   have vr:(m.install s c k o).κ id=m.κ id:=by simp[Mem.install,aN,hid]
   simp only[Mem.install,aN,hid,if_false] at kQ;exact(h.obj id o' kQ).ev dQ hs vr rfl
  gb:=by
   intro id o' kQ hm;by_cases hid:id=s
   .subst hid;simp only[Mem.install,aN,if_true];exact⟨eG,fun h=>h.2 rfl⟩
   simp only[Mem.install,aN,hid,if_false] at kQ ⊢;exact⟨(h.gb id o' kQ hm).1,fun hf=>(h.gb id o' kQ hm).2 hf.1⟩
  frlt:=fun x hx=>h.frlt x hx.1
  inj:=by
   intro id eT o1 o2 h1 m1 h2 m2 he;by_cases hid:id=s<;>by_cases tJ:eT=s
   .rw[hid,tJ]
   .subst hid;simp only[Mem.install,aN,tJ,if_true,if_false] at h2 he;exact((h.gb eT o2 h2 m2).2 (he▸hc)).elim
   .subst tJ;simp only[Mem.install,aN,hid,if_true,if_false] at h1 he;exact((h.gb id o1 h1 m1).2 (he.symm▸hc)).elim
   simp only[Mem.install,aN,hid,tJ,if_false] at h1 h2 he;exact h.inj id eT o1 o2 h1 m1 h2 m2 he}
def Mem.gY(m:Mem)(id:Nat):Mem:=⟨m.w,dJ m.aj id ((m.aj id).1,none),m.σ,m.κ,fun c=>m.fr c\/c=m.σ id⟩
theorem alv{id:Nat}{o:Ob}(ho:(m.aj id).2=some o)(hm:o.fA=true){x:Nat}(h:(m.gY id).own x):m.own x:=by
 rcases h with (h|h)|⟨eT,o',h1,h2,h3⟩
 .exact .inl h
 .exact .inr ⟨id,o,ho,hm,h.symm⟩
 simp only[Mem.gY,aN] at h1 h3;by_cases hid:eT=id
 .simp[hid] at h1
 simp only[hid,if_false] at h1;exact .inr ⟨eT,o',h1,h2,h3⟩
theorem FR{id:Nat}{o:Ob}(ho:(m.aj id).2=some o)(hm:o.fA=true):Ev m (m.gY id) where
 os:=rfl
 tape:=rfl
 output:=rfl
 size:=bJ _
 keep _ _ _:=rfl
 fA x _ h:=by
  obtain⟨eT,o',h1,h2,h3⟩:=h;simp only[Mem.gY,aN] at h1 h3;by_cases hid:eT=id
  .simp[hid] at h1
  simp only[hid,if_false] at h1;exact⟨eT,o',h1,h2,h3⟩
 less x _ hn h:=hn (alv ho hm h)
 gen eT:=by
  simp only[Mem.gY,aN];split
  .rename_i e;subst e;exact bJ _
  exact bJ _
 ref eT he hs:=by
  simp only[Mem.gY,aN] at he hs ⊢;by_cases hid:eT=id
  .simp[hid] at hs
  simp only[hid,if_false] at he hs ⊢;exact⟨hs,trivial,trivial,trivial⟩
theorem Tv{id:Nat}{o:Ob}(h:Ok w0 m)(ho:(m.aj id).2=some o)(hm:o.fA=true):Ok w0 (m.gY id) where
 os:=h.os
 tape:=h.tape
 output:=h.output
 size:=h.size
 base:=h.base
 obj eT o' h1:=by
  simp only[Mem.gY,aN] at h1;by_cases hid:eT=id
  .simp[hid] at h1
  simp only[hid,if_false] at h1;exact(h.obj eT o' h1).ev (FR ho hm).zero rfl rfl rfl
 gb eT o' h1 h2:=by
  simp only[Mem.gY,aN] at h1 ⊢;by_cases hid:eT=id
  .simp[hid] at h1
  simp only[hid,if_false] at h1;refine⟨(h.gb eT o' h1 h2).1,?_⟩;rintro (hf|hf)
  .exact(h.gb eT o' h1 h2).2 hf
  exact hid (h.inj eT id o' o h1 h2 ho hm hf)
 frlt c hc:=by
  rcases hc with hf|rfl
  .exact h.frlt c hf
  exact(h.obj id o ho).lt
 inj JK JL o1 o2 h1 m1 h2 m2 he:=by
  simp only[Mem.gY,aN] at h1 h2 he;by_cases hid:JK=id
  .simp[hid] at h1
  by_cases tJ:JL=id
  .simp[tJ] at h2
  simp only[hid,tJ,if_false] at h1 h2;exact h.inj JK JL o1 o2 h1 m1 h2 m2 he
def Mem.j4(m:Mem)(w':World)(id:Nat)(o:Ob):Mem:=⟨w',dJ m.aj id ((m.aj id).1,some o),m.σ,m.κ,m.fr⟩
section
variable {m:Mem} {w':World} {id:Nat} {o old:Ob} (ho:(m.aj id).2=some old) (hm:old.fA=true)
include ho hm
theorem as3{x:Nat}(h:(m.j4 w' id o).own x):m.own x:=by
 rcases h with h|⟨eT,o',h1,h2,h3⟩
 .exact .inl h
 simp only[Mem.j4,aN] at h1 h3;by_cases hid:eT=id
 .exact .inr ⟨id,old,ho,hm,hid▸h3⟩
 simp only[hid,if_false] at h1;exact .inr ⟨eT,o',h1,h2,h3⟩
theorem Og(cq:kI ((m.aj id).1,some o)=kI ((m.aj id).1,some old))(zS:w'.os=m.w.os)(ht:w'.tape=m.w.tape)(nU:w'.output=m.w.output)(hs:w'.heap.size=m.w.heap.size)
  (hk:∀c,c≠m.σ id->w'.heap[c]?=m.w.heap[c]?):Ev m (m.j4 w' id o) where
 os:=zS
 tape:=ht
 output:=nU
 size:=Fp hs.symm
 keep c _ hn:=hk c fun e=>hn ⟨id,old,ho,hm,e.symm⟩
 fA x _ h:=by
  obtain⟨eT,o',h1,h2,h3⟩:=h;simp only[Mem.j4,aN] at h1 h3;by_cases hid:eT=id
  .exact⟨id,old,ho,hm,hid▸h3⟩
  simp only[hid,if_false] at h1;exact⟨eT,o',h1,h2,h3⟩
 less x _ hn h:=hn (as3 ho hm h)
 gen eT:=by
  simp only[Mem.j4,aN];split
  .rename_i e;subst e;exact bJ _
  exact bJ _
 ref eT he hss:=by
  simp only[Mem.j4,aN] at he hss ⊢;by_cases hid:eT=id
  .subst hid;refine⟨by simp[ho],trivial,trivial,?_⟩;simp only[if_true];rw[cq,<- ho]
  simp only[hid,if_false] at he hss ⊢;exact⟨hss,trivial,trivial,trivial⟩
theorem Rn(h:Ok w0 m)(cq:kI ((m.aj id).1,some o)=kI ((m.aj id).1,some old))(zS:w'.os=m.w.os)(ht:w'.tape=m.w.tape)(nU:w'.output=m.w.output)(hs:w'.heap.size=m.w.heap.size)
  (hk:∀c,c≠m.σ id->w'.heap[c]?=m.w.heap[c]?) (CO:tn (m.j4 w' id o) id o):Ok w0 (m.j4 w' id o) where
 os:=zS.trans h.os
 tape:=ht.trans h.tape
 output:=nU.trans h.output
 size:=mT h.size (Fp hs.symm)
 base c hc:=by have:=(h.gb id old ho hm).1;exact(hk c aa).trans (h.base c hc)
 obj eT o' h1:=by
  simp only[Mem.j4,aN] at h1;by_cases hid:eT=id
  .subst hid;simp only[if_true,fD] at h1;exact h1▸CO
  simp only[hid,if_false] at h1;refine(h.obj eT o' h1).ev (Og ho hm cq zS ht nU hs hk).zero rfl rfl (hk _ fun e=>?_);cases A9:o'.fA with
  |true=>exact hid (h.inj eT id o' old h1 A9 ho hm e)
  |false=>exact(h.obj eT o' h1).calm A9 (.inr ⟨id,old,ho,hm,e.symm⟩)
 gb eT o' h1 h2:=by
  simp only[Mem.j4,aN] at h1 ⊢;by_cases hid:eT=id
  .subst hid;exact h.gb eT old ho hm
  simp only[hid,if_false] at h1;exact h.gb eT o' h1 h2
 frlt c hc:=by rw[show(m.j4 w' id o).w.heap.size=m.w.heap.size from hs];exact h.frlt c hc
 inj JK JL o1 o2 h1 m1 h2 m2 he:=by
  simp only[Mem.j4,aN] at h1 h2 he;by_cases hid:JK=id<;>by_cases tJ:JL=id
  .rw[hid,tJ]
  .simp only[tJ,if_false] at h2;exact hid▸h.inj id JL old o2 ho hm h2 m2 (hid▸he)
  .simp only[hid,if_false] at h1;exact tJ▸h.inj JK id o1 old h1 m1 ho hm (tJ▸he)
  simp only[hid,tJ,if_false] at h1 h2;exact h.inj JK JL o1 o2 h1 m1 h2 m2 he
end
end
end Go.Abs
namespace Go.Abs
def LP:Value->Option PV
 | .bool b=>some (.bool b)
 | .int k n=>some (.int k n)
 | .string s=>some (.str s)
 | .pointer none=>some .uP
 | .slice none 0 0=>some .nils
 | .map none=>some .qU
 | .nilFunc=>some .yz
 | .nilIface=>some .nili
 |_=>none
def Iw:List Value->Option (List PV)
 |[]=>some []
 |v::r=>match LP v,Iw r with
  |some x,some xs=>some (x::xs)
  |_,_=>none
def Td:Value->Option V
 | .agg cs=>(Iw cs.toList).map fun l=>.agg (l.map .p)
 |v=>(LP v).map fun x=>.one (.p x)
def cF:Operand->Option aR
 | .tmp t=>some (.t t)
 | .const (.int .i64 n)=>some (.i n)
 | .const (.bool b)=>some (.b b)
 | .const v=>(Td v).map .k
 | .func f=>some (.k (.one (.p (.fn f [] []))))
 | .global _=>none
def pW:List Operand->Option (List aR)
 |[]=>some []
 |a::r=>match cF a,pW r with
  |some x,some xs=>some (x::xs)
  |_,_=>none
def xA:Option Operand->Option (Option aR)
 |none=>some none
 |some a=>(cF a).map some
def Am(P:Program)(t:TypeId):Option (List PV):=
 match P.info? t with
 |some i=>match i.zero with
  |some (.agg cs)=>if cs.size=i.size then Iw cs.toList else none
  |some v=>if i.size=1 then (LP v).map fun x=>[x] else none
  |none=>none
 |none=>none
def qS(P:Program)(t:TypeId):Option (Option Nat):=
 match P.underlying t,P.info? t with
 |some (.struct _),some i=>some (some i.size)
 |some (.array _ _),some i=>some (some i.size)
 |some _,some i=>if i.size=1 then some none else none
 |_,_=>none
def xj(P:Program)(t:TypeId):Option Nat:=(P.info? t).map (·.size)
def De(place:Nat->Option (Nat×Nat))(zl:Nat):List (Nat×Operand)->Option (List (Nat×Nat×aR))
 |[]=>some []
 |(i,x)::r=>match place i,cF x,De place zl r with
  |some (off,n),some a,some q=>if off+n<=zl then some ((off,n,a)::q) else none
  |_,_,_=>none
def IM:Nat->List (Nat×Operand)->Option (List aR)
 |_,[]=>some []
 |k,(i,x)::r=>match cF x,IM (k+1) r with
  |some a,some q=>if i=k then some (a::q) else none
  |_,_=>none
def Rm(P:Program)(t:TypeId):Option Bool:=
 match P.underlying t with
 |some (.int _)=>some true
 |some .bool=>some false
 |_=>none
def KA(P:Program):Nat->List Field->Option (List Bool)
 |_,[]=>some []
 |k,f::r=>match Rm P f.type,KA P (k+1) r with
  |some b,some bs=>if f.offset=k/\f.name≠ "_" then some (b::bs) else none
  |_,_=>none
def Ke:Operand->Bool
 | .const .nilIface=>true
 |_=>false
def L6(P:Program)(t:TypeId)(x y:Operand):Option u5:=
 match P.underlying t with
 |some (.interface _)=>if Ke x||Ke y then some .ifc else none
 |some .bool=>some .bool
 |some (.pointer _)=>some .ptr
 |some (.slice _)=>some .slc
 |some (.map _ _)=>some .map
 |some (.func _ _ _)=>some .fnc
 |some (.struct fs)=>if !P.stoodInHeld t&& !P.eqGuardType P.depth t then (KA P 0 fs.toList).map .str else none
 |_=>none
def AP(P:Program)(t:TypeId):Option (TypeId×Nat×Nat×List PV):=
 match P.underlying t with
 |some (.slice e)=>match P.info? e,Am P e with
  |some i,some z=>if 0<i.size/\0<i.bytes then some (e,i.size,i.bytes,z) else none
  |_,_=>none
 |_=>none
def keyOf(P:Program)(k:TypeId):Option Nat:=
 match P.underlying k with
 |some (.int _)=>some 0
 |some .string=>some 1
 |some .bool=>some 2
 |_=>none
def R7(P:Program)(t:TypeId):Bool:=
 match P.info? t with
 |some i=>match i.zero with
  |some (.agg _)=>true
  |_=>false
 |none=>false
def FN(P:Program)(site:Nat)(o:Oper):Option mW:=
 match o.op with
 | .move x=>(cF x).map .yy
 | .assign x=>(cF x).map .yy
 | .pick c a b=>match cF c,cF a,cF b with
  |some c,some a,some b=>some (.pick c a b)
  |_,_,_=>none
 | .alloc t=>(Am P t).map (.alloc site)
 | .box _ x=>(cF x).map (.box site)
 | .build t ps=>match P.underlying t,Am P t with
  |some (.struct fs),some z=>if fs.all fun f=>(P.info? f.type).isSome then
    (De (fun i=>(fs[i]?).map fun f=>(f.offset,P.cellsOf f.type)) z.length ps.toList).map (.build z)
   else none
  |some (.array _ e),some z=>match P.info? e with
   |some i=>(De (fun k=>some (k*i.size,i.size)) z.length ps.toList).map (.build z)
   |none=>none
  |_,_=>none
 | .buildSlice t n ps=>match AP P t,IM 0 ps.toList with
  |some (e,sz,_,_),some as=>if as.length=n/\n*sz<=16777216 then some (.DI site e sz as) else none
  |_,_=>none
 | .load t a=>match qS P t,cF a with
  |some k,some a=>some (.load k a)
  |_,_=>none
 | .store t a x=>match xj P t,cF a,cF x with
  |some n,some a,some x=>some (.store n a x)
  |_,_,_=>none
 | .nilCheck x=>(cF x).map .Kf
 | .binOp op t x y _=>match cF x,cF y with
  |some a,some b=>match P.underlying t with
   |some (.int _)=>some (.bin op a b)
   |some .string=>some (.bin op a b)
   |_=>match op,L6 P t x y with
    | .eql,some k=>some (.eqc k false a b)
    | .neq,some k=>some (.eqc k true a b)
    |_,_=>none
  |_,_=>none
 | .unOp op _ x=>match op with
  | .not=>(cF x).map (.un .not)
  | .neg=>(cF x).map (.un .neg)
  |_=>none
 | .convert s d x=>match P.underlying s,P.underlying d,cF x with
  |some (.int _),some (.int k),some a=>some (.conv k a)
  |some (.slice e),some .string,some a=>match P.underlying e with
   |some (.int .u8)=>some (.bstr a)
   |_=>none
  |_,_,_=>none
 | .makeFunc (.func f) a b=>match pW a.toList,pW b.toList with
  |some x,some y=>some (.mkfn f x y)
  |_,_=>none
 | .makeMap t none=>match P.underlying t with
  |some (.map _ e)=>(qS P e).map fun k=>.mkmap site k.isSome
  |_=>none
 | .makeSlice t l c=>match AP P t,cF l,cF c with
  |some (e,sz,bytes,z),some l,some c=>some (.JX site e sz bytes z l c)
  |_,_,_=>none
 | .slice t x lo hi none=>match cF x,xA lo,xA hi with
  |some a,some l,some h=>match P.underlying t with
   |some (.slice e)=>(xj P e).map fun sz=>.slice sz a l h
   |some .string=>some (.sslice a l h)
   |_=>none
  |_,_,_=>none
 | .fieldAddr s x f=>match P.underlying s,cF x with
  |some (.struct fs),some a=>match fs[f]? with
   |some d=>if P.cellsOf d.type≠0 then some (.FY d.offset a) else none
   |none=>none
  |_,_=>none
 | .field t x f=>match P.underlying t,cF x with
  |some (.struct fs),some a=>match fs[f]? with
   |some d=>(qS P d.type).map fun k=>.fld d.offset k a
   |none=>none
  |_,_=>none
 | .indexAddr t x i=>match cF x,cF i with
  |some a,some b=>match P.underlying t with
   |some (.slice e)=>(xj P e).map fun sz=>.GD sz a b
   |some (.array n e)=>(xj P e).map fun sz=>.HX n sz a b
   |_=>none
  |_,_=>none
 | .index t x i=>match cF x,cF i with
  |some a,some b=>match P.underlying t with
   |some (.array n e)=>match xj P e,qS P e with
    |some sz,some k=>some (.aidx n sz k a b)
    |_,_=>none
   |some .string=>some (.sidx a b)
   |_=>none
  |_,_=>none
 | .lookup t x k ok=>match P.underlying t,cF x,cF k with
  |some (.map kt e),some a,some b=>match Am P e,qS P e with
   |some z,some q=>match keyOf P kt with
    |some kd=>if R7 P e=q.isSome then some (.lookup kd z q.isSome ok a b) else none
    |none=>none
   |_,_=>none
  |_,_,_=>none
 | .mapUpdate t m k v=>match P.underlying t,cF m,cF k,cF v with
  |some (.map kt e),some a,some b,some c=>match qS P e with
   |some q=>(keyOf P kt).map fun kd=>.mupd kd q.isSome a b c
   |none=>none
  |_,_,_,_=>none
 | .insert t m k v=>match P.underlying t,cF m,cF k,cF v with
  |some (.map kt e),some a,some b,some c=>match qS P e with
   |some q=>(keyOf P kt).map fun kd=>.mupd kd q.isSome a b c
   |none=>none
  |_,_,_,_=>none
 | .extract x i=>(cF x).map fun a=>.extract a i
 | .call c=>match c.callee,pW c.args.toList with
  | .value f,some as=>(cF f).map fun g=>.call site g as
  | .builtin .len,some [a]=>match c.argTypes[0]? with
   |some t=>match P.underlying t with
    |some .string=>some (.slen a)
    |some (.slice _)=>some (.JU a)
    |some (.map _ _)=>some (.mlen a)
    |_=>none
   |none=>none
  | .builtin .append,some [a,b]=>match c.argTypes[0]?,c.argTypes[1]? with
   |some t,some u=>match AP P t with
    |some (e,sz,bytes,_)=>if t=u/\c.argTypes.size=2 then some (.append site e sz bytes a b) else none
    |none=>none
   |_,_=>none
  | .builtin .max,some [a,b]=>some (.max a b)
  | .builtin .min,some [a,b]=>some (.min a b)
  | .builtin .clear,some [a]=>match c.argTypes[0]? with
   |some t=>(AP P t).map fun q=>.clear q.2.2.2 a
   |none=>none
  |_,_=>none
 |_=>none
def aR.tmps:aR->List Nat
 | .t n=>[n]
 |_=>[]
def Fg:List aR->List Nat
 |[]=>[]
 |a::r=>a.tmps++Fg r
def X2:Option aR->List Nat
 |some a=>a.tmps
 |none=>[]
def X3:List (Nat×Nat×aR)->List Nat
 |[]=>[]
 |(_,_,a)::r=>a.tmps++X3 r
def mW.tmps:mW->List Nat
 | .yy x| .box _ x| .load _ x| .Kf x| .un _ x| .conv _ x| .bstr x| .FY _ x| .fld _ _ x| .extract x _| .slen x| .JU x| .mlen x| .clear _ x=>x.tmps
 | .pick c a b=>c.tmps++a.tmps++b.tmps
 | .alloc _ _| .mkmap _ _| .bad=>[]
 | .build _ ps=>X3 ps
 | .DI _ _ _ ps=>Fg ps
 | .store _ a x| .bin _ a x| .eqc _ _ a x| .GD _ a x| .HX _ _ a x| .aidx _ _ _ a x| .sidx a x| .lookup _ _ _ _ a x| .append _ _ _ _ a x| .max a x| .min a x=>a.tmps++x.tmps
 | .mkfn _ a b=>Fg a++Fg b
 | .JX _ _ _ _ _ a b=>a.tmps++b.tmps
 | .slice _ x a b| .sslice x a b=>x.tmps++X2 a++X2 b
 | .mupd _ _ a b c=>a.tmps++b.tmps++c.tmps
 | .call _ f as=>f.tmps++Fg as
def bG.Hp(o:bG):List Nat:=
 o.op.tmps++match o.guard with
  |some (t,_)=>[t]
  |none=>[]
def F1(a b:bG):Bool:=
 (match a.dst with
  |some d=> !b.Hp.contains d&&b.dst !=some d
  |none=>true)&&
 (match b.dst with
  |some d=> !a.Hp.contains d
  |none=>true)
def PA(o:bG):Nat->List bG->Bool
 |_,[]=>true
 |j,x::r=>(o.anc.testBit j||F1 x o)&&PA o (j+1) r
def Mf:List bG->List bG->Bool
 |[],_=>true
 |o::os,past=>PA o 0 past&&Mf os (past++[o])
def Iu(P:Program)(site:Nat)(o:Oper):mW:=(FN P site o).getD .bad
def aaH(nt:Nat):Option Nat->Bool
 |some d=>decide (d<nt)
 |none=>true
def VL(dst:Nat->Option Nat):Option (Nat×Bool)->Option (Option (Nat×Bool))
 |none=>some none
 |some (j,w)=>(dst j).map fun t=>some (t,w)
def DO(P:Program)(dst:Nat->Option Nat)(base nt:Nat)(anc:Nat)(o:Oper):Option bG:=if aaH nt o.dst then (VL dst o.guard).map fun g=>⟨o.dst,Iu P base o,g,anc⟩ else none
def wD(P:Program)(dst anc:Nat->Option Nat)(base nt:Nat):Nat->List Oper->Option (List bG)
 |_,[]=>some []
 |i,o::r=>match DO P dst ((base+i)*64) nt ((anc i).getD 0) o,wD P dst anc base nt (i+1) r with
  |some x,some xs=>some (x::xs)
  |_,_=>none
def HY(ops:Array Oper):Bool:=(List.range ops.size).all fun i=>match ops[i]? with
 |some o=>o.after.toList.all fun e=> !Region.binds .any e||decide (e.on<i)
 |none=>true
def oQ(P:Program)(f nt:Nat):Code->Option aJ
 | .skip=>some .skip
 | .region id ops draw=>
  let b:=if draw then Region.before ops else #[]
  match wD P (fun j=>(ops[j]?).bind (·.dst)) (fun i=>b[i]?) ((f*1000+id)*1000) nt 0 ops.toList with
  |some xs=>if draw then (if HY ops&&Mf xs [] then some (.region true xs) else none) else some (.region false xs)
  |none=>none
 | .seq a b=>match oQ P f nt a,oQ P f nt b with
  |some x,some y=>some (.seq x y)
  |_,_=>none
 | .cond c a b=>match cF c,oQ P f nt a,oQ P f nt b with
  |some c,some x,some y=>some (.cond c x y)
  |_,_,_=>none
 | .block id c=>(oQ P f nt c).map (.block id)
 | .loop c=>(oQ P f nt c).map .loop
 | .exit id=>some (.exit id)
 | .scope c=>oQ P f nt c
 | .label _=>some .skip
 | .ret=>some .ret
 |_=>some .bad
def BB(P:Program):List ResultVar->Option (List (Nat×Option (Option Nat)))
 |[]=>some []
 | .tmp t::r=>(BB P r).map ((t,none):: ·)
 | .cell t ty::r=>match qS P ty,BB P r with
  |some k,some q=>some ((t,some k)::q)
  |_,_=>none
def Ch(P:Program)(f:Nat):Option aV:=
 match P.funcs[f]? with
 |none=>none
 |some fn=>match fn.body with
  |none=>none
  |some c=>if fn.name== "runtime.NumGoroutine" then none else
   match oQ P f fn.ntmps c,BB P fn.results.toList with
   |some b,some r=>some ⟨fn.ntmps,r,b⟩
   |_,_=>none
end Go.Abs
namespace Go.Abs
variable {P:Program} {w0:World}
section
variable{m:Mem}
def iS(m:Mem)(ak:Env)(tmps:Array Value):Prop:=∀t,bK m (ak t) (tmps.getD t undef)
theorem iS.ev{m':Mem}(h:Ev m m'){ak:Env}{tmps:Array Value}(hr:iS m ak tmps):iS m' ak tmps:=fun t=>(hr t).ev h.zero
theorem bK.one{c:C}{v:Value}:bK m (.one c) v↔cY m c v:=Iff.rfl
theorem bK.agg{cs:List C}{v:Value}:bK m (.agg cs) v↔ ∃arr,v=.agg arr/\dq m cs arr.toList:=Iff.rfl
theorem bK.of1{x:V}{v:Value}(h:nH m x v):bK m x v:=by
 cases x with
 |tup vs=>exact h.elim
 |_=>exact h
theorem Tc{w:World}{own:Nat->Prop}{v:Value}{x:PV}(h:LP v=some x):ch w own x v:=by
 unfold LP at h;split at h<;>first
  |(cases h;constructor;done)
  |cases h
theorem aah{w:World}{own:Nat->Prop}:∀ {vs:List Value} {xs:List PV},Iw vs=some xs->dj w own xs vs:=by
 intro vs
 induction vs with
 |nil=>intro xs h;simp[Iw] at h;subst h;exact⟨rfl,fun j x u a _=>by simp at a⟩
 |cons v r ih=>
  intro xs h;simp only[Iw] at h;split at h
  .rename_i x ys h1 h2;cases h;obtain⟨hl,hr⟩:=ih h2;refine⟨by simp[hl],fun j z u a b=>?_⟩;cases j with
   |zero=>simp at a b;subst a b;exact Tc h1
   |succ j=>simp at a b;exact hr j z u a b
  cases h
theorem dj.Dn{xs:List PV}{vs:List Value}(h:dj m.w m.own xs vs):dq m (xs.map .p) vs:=by refine⟨by simp[h.1],fun j x u a b=>?_⟩;simp only[fQ,dE] at a;obtain⟨y,hy,rfl⟩:=a;exact .p (h.2 j y u hy b)
theorem akL{v:Value}{x:V}(h:Td v=some x):bK m x v:=by
 unfold Td at h;split at h
 .simp only[dE] at h;obtain⟨xs,h1,rfl⟩:=h;exact bK.agg.2 ⟨_,rfl,(aah h1).Dn⟩
 simp only[dE] at h;obtain⟨y,h1,rfl⟩:=h;exact bK.one.2 (.p (Tc h1))
theorem eB{ak:Env}{a:Act}{x:Operand}{y:aR}(h:cF x=some y)(hr:iS m ak a.tmps):bK m (ev ak y) (a.eval x):=by
 unfold cF at h;split at h
 .cases h;exact hr _
 .cases h;exact bK.one.2 (.p (.int _ _))
 .cases h;exact bK.one.2 (.p (.bool _))
 .simp only[dE] at h;obtain⟨v,h1,rfl⟩:=h;exact akL h1
 .cases h;exact bK.one.2 (.p (.fn #[] #[] rfl rfl (fun j x u a=>by simp at a) (fun j x u a=>by simp at a)))
 cases h
def Does(P:Program)(ρ:Operand->Value)(o:Oper)(w:World)(x:Value)(w':World):Prop:=
 (execOp ρ o).run P w=.ok (.value x) w'\/((execOp ρ o).run P w=.ok .skip w'/\x=undef)
def fE(P:Program)(w0:World)(ρ:Operand->Value)(o:Oper)(m:Mem)(v:V)(u:List eK):Prop:=∃x m',Does P ρ o m.w x m'.w/\Ok w0 m'/\Ev m m'/\m'.fr=m.fr/\m'.aj=app u m.aj/\bK m' v x
theorem fE.calm{ρ:Operand->Value}{o:Oper}{v:V}{x:Value}(h:Ok w0 m)(jF:(execOp ρ o).run P m.w=.ok (.value x) m.w)(hv:bK m v x):fE P w0 ρ o m v []:=
 ⟨x,m,.inl jF,h,Ev.refl m,rfl,rfl,hv⟩
section
variable {m:Mem} {ak:Env} {a:Act} {o:Oper} (aq:Ok w0 m) (hr:iS m ak a.tmps)
include aq hr
theorem ag8{x:Operand}{y:aR}(ho:o.op=.move x\/o.op=.assign x)(hx:cF x=some y):fE P w0 a.eval o m (ev ak y) []:=
 .calm aq (by rcases ho with ho|ho<;>simp[execOp,ho]) (eB hx hr)
theorem atF{c x y:Operand}{c' x' y':aR}{t:Bool}(ho:o.op=.pick c x y)(hc:cF c=some c')(hx:cF x=some x')(hy:cF y=some y')
  (ht:ev ak c'=.one (.p (.bool t))):fE P w0 a.eval o m (if t then ev ak x' else ev ak y') []:=by
 have h1:=eB hc hr;rw[ht] at h1;obtain⟨⟩:cY m (.p (.bool t)) _:=h1;rename_i hp;generalize hb:a.eval c=b at hp;cases hp;refine .calm (x:=if t then a.eval x else a.eval y) aq ?_ ?_
 .simp[execOp,ho,hb,asBool]
 cases t
 .exact eB hy hr
 exact eB hx hr
end
theorem EI{b:Bool}{v:Value}(h:bK m (.one (.p (.bool b))) v):v=.bool b:=by obtain⟨hp⟩:cY m _ v:=h;cases hp;rfl
theorem CX{k:IntKind}{n:Int}{v:Value}(h:bK m (.one (.p (.int k n))) v):v=.int k n:=by obtain⟨hp⟩:cY m _ v:=h;cases hp;rfl
theorem NC{s:ByteArray}{v:Value}(h:bK m (.one (.p (.str s))) v):v=.string s:=by obtain⟨hp⟩:cY m _ v:=h;cases hp;rfl
theorem Qt{v:Value}(h:bK m (.one (.p .nils)) v):v=.slice none 0 0:=by obtain⟨hp⟩:cY m _ v:=h;cases hp;rfl
theorem aoT{v:Value}(h:bK m (.one (.p .zs)) v):∃a,v=.slice a 0 0:=by obtain⟨hp⟩:cY m _ v:=h;cases hp;exact⟨_,rfl⟩
theorem adL{v:Value}(h:bK m (.one (.p .qU)) v):v=.map none:=by obtain⟨hp⟩:cY m _ v:=h;cases hp;rfl
theorem mh{x:PV}{v:Value}(h:ch m.w m.own x v):bK m (.one (.p x)) v:=bK.one.2 (.p h)
def Mem.fresh(m:Mem)(ob:Obj)(s k:Nat)(o:Ob):Mem:=(m.later (m.w.alloc ob) (· =m.w.heap.size)).install s m.w.heap.size k o
theorem VB(aq:Ok w0 m)(ob:Obj)(s k:Nat)(o:Ob):(m.fresh ob s k o).fr=m.fr:=by
 funext c;simp only[Mem.fresh,Mem.install,Mem.later];apply propext;constructor
 .rintro ⟨h|h,h2⟩
  .exact h
  exact(h2 h).elim
 intro h;exact⟨.inl h,fun e=>by have:=aq.frlt c h;omega⟩
theorem PB(ob:Obj)(s k:Nat)(o:Ob):Ev m (m.fresh ob s k o):=Qp (JQ (fy.alloc m.w ob) fun c hc=>Fp hc.symm) (.inr rfl) (.inl (bJ _))
theorem acn(ob:Obj)(s k:Nat)(o:Ob):(m.fresh ob s k o).w.heap[(m.fresh ob s k o).σ s]?=some ob:=by
 have:(m.fresh ob s k o).σ s=m.w.heap.size:=by simp[Mem.fresh,Mem.install,aN]
 rw[this];exact heap_alloc_new m.w ob
theorem aco(aq:Ok w0 m)(ob:Obj)(s k:Nat)(o:Ob)(ho:tn (m.fresh ob s k o) s o):Ok w0 (m.fresh ob s k o):=Qq (NH aq (fy.alloc m.w ob) fun c hc=>by subst hc;exact⟨bJ _,af⟩) (.inr rfl) aq.size ho
theorem VA(m:Mem)(ob:Obj)(s k:Nat)(o:Ob):(m.fresh ob s k o).aj=app [(s,((m.aj s).1+1,some o))] m.aj:=rfl
theorem acp(aq:Ok w0 m)(s:Nat)(t:TypeId)(cs:List C)(arr:Array Value)(hc:dq m cs arr.toList):
  Ok w0 (m.fresh (.cells arr t) s 0 (.var cs))/\bK (m.fresh (.cells arr t) s 0 (.var cs)) (.one (.aY s ((m.aj s).1+1) 0)) (.pointer (some ⟨m.w.heap.size,0,none⟩)):=by
 refine⟨aco aq _ s 0 _ ⟨arr,t,acn _ s 0 _,hc.ev (PB _ s 0 _).zero⟩,bK.one.2 (.aY _ ?_ fun _ _=>?_)⟩
 .simp[Mem.fresh,Mem.install,Mem.later,aN]
 simp[Mem.fresh,Mem.install,aN]
theorem Ox{t:TypeId}{z:List PV}(h:Am P t=some z):∃v i,P.info? t=some i/\i.zero=some v/\v.cells.size=i.size/\z.length=i.size/\ ∀w own,dj w own z v.cells.toList:=by
 unfold Am at h;split at h
 .rename_i i hi;split at h
  .rename_i cs hz;split at h
   .rename_i hs;have hr:=fun w own=>aah (w:=w) (own:=own) h;refine⟨_,i,hi,hz,by simpa [Value.cells] using hs,?_,fun w own=>by simpa [Value.cells] using hr w own⟩;have:=(hr default (fun _=>False)).1;simp at this;omega
   cases h
  .rename_i v hz hv;split at h
   .rename_i hs;simp only[dE] at h;obtain⟨x,hx,rfl⟩:=h;have hr:=fun w own=>Tc (w:=w) (own:=own) hx;have hc:=(hr default (fun _=>False)).cells;refine⟨v,i,hi,hv,by simp[hc,hs],by simp[hs],fun w own=>?_⟩;rw[hc];refine⟨rfl,fun j y u a b=>?_⟩;cases j with
    |zero=>simp at a b;subst a b;exact hr w own
    |succ j=>simp at a
   cases h
  cases h
 cases h
section
variable {m:Mem} {ak:Env} {a:Act} {o:Oper} (aq:Ok w0 m) (hr:iS m ak a.tmps)
include aq
theorem atf{t:TypeId}{z:List PV}{s:Nat}(ho:o.op=.alloc t)(hz:Am P t=some z):
  fE P w0 a.eval o m (.one (.aY s ((m.aj s).1+1) 0)) [(s,((m.aj s).1+1,some (.var (z.map .p))))]:=by
 obtain⟨v,i,hi,hv,hs,hl,dz⟩:=Ox hz;obtain⟨h1,h2⟩:=acp aq s t (z.map .p) v.cells (dz m.w m.own).Dn;refine⟨_,_,.inl ?_,h1,PB _ s 0 _,VB aq _ s 0 _,VA _ _ s 0 _,h2⟩;simp[execOp,ho,Instr.alloc,zeroValue,typeInfo,hi,hv,newVar,newRow];rfl
include hr
theorem ati{t:TypeId}{x:Operand}{y:aR}{cs:List C}{s:Nat}(ho:o.op=.box t x)(hx:cF x=some y)(hc:rz (ev ak y)=some cs):
  fE P w0 a.eval o m (.one (.aY s ((m.aj s).1+1) 0)) [(s,((m.aj s).1+1,some (.var cs)))]:=by
 have hv:=eB hx hr;have de:dq m cs (a.eval x).cells.toList:=by
  generalize ev ak y=w at hc hv;cases w with
  |undef=>simp[rz] at hc
  |tup vs=>simp[rz] at hc
  |one c=>
   simp[rz] at hc;subst hc;rw[(bK.one.1 hv).cells];refine⟨rfl,fun j y u p q=>?_⟩;cases j with
   |zero=>simp at p q;subst p q;exact hv
   |succ j=>simp at p
  |agg ds=>simp[rz] at hc;subst hc;obtain⟨arr,e,h⟩:=bK.agg.1 hv;rw[e];exact h
 obtain⟨h1,h2⟩:=acp aq s t cs _ de;refine⟨_,_,.inl ?_,h1,PB _ s 0 _,VB aq _ s 0 _,VA _ _ s 0 _,h2⟩;simp[execOp,ho,Instr.box,newVar,newRow];rfl
end
end
end Go.Abs
namespace Go.Abs
variable {P:Program} {w0:World}
theorem F0{α:Type}{sz:Nat}:∀ {es:List (List α)},(∀e∈es,e.length=sz)->es.flatten.length=es.length*sz:=by
 intro es
 induction es with
 |nil=>intro _;simp
 |cons e r ih=>intro h;have h1:=h e af;have h2:=ih fun x hx=>h x (by simp[hx]);simp only[lQ,ff,dh,h1,h2,fZ,Lh];omega
theorem FZ{α:Type}{sz:Nat}:∀ {es:List (List α)},(∀e∈es,e.length=sz)->∀ {i:Nat} {e:List α},es[i]?=some e->∀ {j:Nat},j<sz->es.flatten[i*sz+j]?=e[j]? :=by
 intro es
 induction es with
 |nil=>intro _ i e h;simp at h
 |cons x r ih=>
  intro h i e he j hj;have h1:=h x af;cases i with
  |zero=>simp at he;subst he;simp only[lQ,As,iQ];rw[uY aa]
  |succ i=>simp at he;have h2:=ih (fun y hy=>h y (by simp[hy])) he hj;simp only[lQ];rw[v8 (by rw[h1,fZ];omega),<- h2];congr 1;rw[h1,fZ];omega
theorem Mm{α:Type}{sz:Nat}{es:List (List α)}(h:∀e∈es,e.length=sz){i:Nat}{e:List α}(he:es[i]?=some e):e.length=sz:=h e (aU he)
theorem DK{w:World}{b k:Nat}{cur:Array Value}{ty:TypeId}{fz:Nat×Nat}(h:w.heap[b]?=some (.cells cur ty fz)):w.cell? ⟨b,k,none⟩=cur[k]? :=cell_of_row w b k cur ty fz h
def At (m:Mem)(v:Value)(cs:List C):Prop:=∃b o vs,v=.pointer (some ⟨b,o,none⟩)/\dq m cs vs/\ ∀(j:Nat) (u:Value),vs[j]?=some u->m.w.cell? ⟨b,o+j,none⟩=some u
theorem At.row{m:Mem}{b o:Nat}{cur:Array Value}{ty:TypeId}{fz:Nat×Nat}(h:m.w.heap[b]?=some (.cells cur ty fz)){cs:List C}(hl:o+cs.length<=cur.size)
  (hc:∀(j:Nat) (x:C) (u:Value),cs[j]?=some x->cur[o+j]?=some u->cY m x u):At m (.pointer (some ⟨b,o,none⟩)) cs:=by
 refine⟨b,o,(cur.toList.drop o).take cs.length,rfl,⟨by simp;omega,fun j x u p q=>?_⟩,fun j u q=>?_⟩
 .rw[kJ] at q;split at q
  .exact hc j x u p (by simpa using q)
  cases q
 rw[kJ] at q;split at q
 .rw[DK h];simpa using q
 cases q
theorem agt{m:Mem}(aq:Ok w0 m){x:V}{v:Value}{cs:List C}{rd:List Nat}(h:Bz m.aj x=some (cs,rd))(hv:bK m x v):At m v cs:=by
 unfold Bz at h;split at h
 .rename_i ps;simp only[fD,kB] at h;obtain⟨rfl,rfl⟩:=h;obtain⟨hp⟩:cY m _ v:=hv;cases hp with
  |box b o f ho hc hr=>
   refine⟨b,o,(List.range ps.length).map f,rfl,⟨af,fun j x u p q=>?_⟩,fun j u q=>?_⟩
   .simp only[fQ,dE] at p q;obtain⟨y,hy,rfl⟩:=p;obtain⟨k,hk,rfl⟩:=q;have l5:k=j:=by
     rw[uf (by have:=aW.1 hy;obtain⟨h,_⟩:=this;exact h)] at hk
     simpa using hk.symm
    subst l5;exact .p (hr k y hy)
   simp only[fQ,dE] at q;obtain⟨k,hk,rfl⟩:=q;have au:j<ps.length:=by have:=aW.1 hk;obtain⟨h,_⟩:=this;simpa using h
   rw[uf au] at hk;simp at hk;subst hk;exact hc j _ (my au)
 .rename_i id g off;have hv:cY m _ v:=hv;cases hv with
  |aY a hg ha=>
   split at h
   .rename_i g' za hb;split at h
    .rename_i iG;simp only[fD,kB] at h;obtain⟨rfl,rfl⟩:=h;have bn:(m.aj id).2=some (.var za):=by rw[hb]
     have ha:=ha (by rw[hb];exact iG) (by rw[bn];rfl);subst ha;obtain⟨cur,ty,hh,hl,hc⟩:=aq.obj id _ bn;simp at hl;by_cases ho:off<=za.length
     .exact At.row hh (by simp;omega) fun j x u p q=>hc (off+j) x u (by simpa using p) (by simpa using q)
     exact⟨_,_,[],rfl,⟨by simp;omega,fun j x u p q=>by simp at q⟩,fun j u q=>by simp at q⟩
    cases h
   .rename_i g' za hb;split at h
    .rename_i iG;simp only[fD,kB] at h;obtain⟨rfl,rfl⟩:=h;have bn:(m.aj id).2=some (.fvar za):=by rw[hb]
     have ha:=ha (by rw[hb];exact iG) (by rw[bn];rfl);subst ha;obtain⟨cur,ty,fz,hh,hp,_⟩:=aq.obj id _ bn;have hl:=hp.1;simp at hl;by_cases ho:off<=za.length
     .refine At.row hh (by simp;omega) fun j x u p q=>?_;simp only[fQ,dE] at p;obtain⟨y,hy,rfl⟩:=p;exact .p (hp.2 (off+j) y u (by simpa using hy) (by simpa using q))
     exact⟨_,_,[],rfl,⟨by simp;omega,fun j x u p q=>by simp at q⟩,fun j u q=>by simp at q⟩
    cases h
   cases h
 .rename_i id g i off;have hv:cY m _ v:=hv;cases hv with
  |dB a hg ha=>
   have key:∀(sz:Nat) (e:List C) (cur:Array Value) (ty:TypeId) (fz:Nat×Nat),m.w.heap[m.σ id]?=some (.cells cur ty fz)->e.length=sz->(i+1)*sz<=cur.size->
     a=⟨m.σ id,i*sz+off,none⟩->(∀(j:Nat) (x:C) (u:Value),e[j]?=some x->cur[i*sz+j]?=some u->cY m x u)->At m (.pointer (some a)) (e.drop off):=by
    intro sz e cur ty fz hh he au wN hc;subst wN;rw[fZ,Lh] at au;by_cases ho:off<=e.length
    .exact At.row hh (by simp;omega) fun j x u p q=>hc (off+j) x u (by simpa using p) (by rw[<- HM];exact q)
    exact⟨_,_,[],rfl,⟨by simp;omega,fun j x u p q=>by simp at q⟩,fun j u q=>by simp at q⟩
   have pure:∀(ty sz:Nat) (es:List (List PV)) (e:List PV) (cur:Array Value) (fz:Nat×Nat),m.w.heap[m.σ id]?=some (.cells cur ty fz)->(∀e∈es,e.length=sz)->es.length*sz<=cur.size->
     dj m.w m.own es.flatten (cur.toList.take (es.length*sz))->es[i]?=some e->a=⟨m.σ id,i*sz+off,none⟩->At m (.pointer (some a)) ((e.drop off).map .p):=by
    intro ty sz es e cur fz hh cq hlen dz he wN;have dB:=Mm cq he;have hi:i<es.length:=(aW.1 he).1;have ye:(i+1)*sz<=es.length*sz:=lR _ hi;rw[OF];refine key sz (e.map .p) cur ty fz hh (by simpa using dB) aa wN fun j x u p q=>?_;simp only[fQ,dE] at p;obtain⟨y,hy,rfl⟩:=p;have hj:j<sz:=by have:=(aW.1 hy).1;omega
    refine .p (dz.2 (i*sz+j) y u (by rw[FZ cq he hj];exact hy) ?_);rw[fZ] at ye;rw[kJ,aF aa]
    simpa using q
   split at h
   .rename_i g' ty sz es hb;split at h
    .rename_i iG;simp only[dE,kB] at h;obtain⟨e,he,rfl,rfl⟩:=h;have bn:(m.aj id).2=some (.arr ty sz es):=by rw[hb]
     obtain⟨cur,hh,pG,cq,hl,hm,de,dz⟩:=aq.obj id _ bn;exact pure ty sz es e cur _ hh cq (by rw[de];exact lR _ hl) dz he (ha sz (by rw[hb];exact iG) (by rw[hb];rfl))
    cases h
   .rename_i g' ty sz es hb;split at h
    .rename_i iG;simp only[dE,kB] at h;obtain⟨e,he,rfl,rfl⟩:=h;have bn:(m.aj id).2=some (.oR ty sz es):=by rw[hb]
     obtain⟨cur,fz,hh,pG,cq,hl,hm,de,dz,_⟩:=aq.obj id _ bn;exact pure ty sz es e cur _ hh cq (by rw[de];exact lR _ hl) dz he (ha sz (by rw[hb];exact iG) (by rw[hb];rfl))
    cases h
   .rename_i g' ty sz es hb;split at h
    .rename_i iG;simp only[dE,kB] at h;obtain⟨e,he,rfl,rfl⟩:=h;have bn:(m.aj id).2=some (.iI ty sz es):=by rw[hb]
     obtain⟨cur,hh,pG,cq,hl,hm,de,dz⟩:=aq.obj id _ bn;have dB:=Mm cq he;have hi:i<es.length:=(aW.1 he).1;have ye:(i+1)*sz<=es.length*sz:=lR _ hi;have ac8:es.length*sz<=m.κ id*sz:=lR _ hl;refine key sz e cur ty _ hh dB aa (ha sz (by rw[hb];exact iG) (by rw[hb];rfl)) fun j x u p q=>?_;have hj:j<sz:=by have:=(aW.1 p).1;omega
     refine dz.2 (i*sz+j) x u (by rw[FZ cq he hj];exact p) ?_;rw[fZ] at ye;rw[kJ,aF aa]
     simpa using q
    cases h
   cases h
 cases h
end Go.Abs
namespace Go.Abs
variable {P:Program} {w0:World}
theorem ao4{t:TypeId}{n:Nat}(h:qS P t=some (some n)):∃d i,P.underlying t=some d/\P.info? t=some i/\i.size=n/\((∃fs,d=.struct fs)\/ ∃k e,d=.array k e):=by
 unfold qS at h;split at h
 .rename_i fs i h1 h2;simp at h;exact⟨_,i,h1,h2,h,.inl ⟨fs,rfl⟩⟩
 .rename_i k e i h1 h2;simp at h;exact⟨_,i,h1,h2,h,.inr ⟨k,e,rfl⟩⟩
 .split at h<;>simp at h
 cases h
theorem ao3{t:TypeId}(h:qS P t=some none):∃d i,P.underlying t=some d/\P.info? t=some i/\i.size=1/\(∀fs,d≠ .struct fs)/\ ∀k e,d≠ .array k e:=by
 unfold qS at h;split at h
 .simp at h
 .simp at h
 .rename_i d i n1 n2 h1 h2;split at h
  .rename_i hs;exact⟨_,_,h1,h2,hs,fun fs e=>n1 fs e,fun k e' e=>n2 k e' e⟩
  cases h
 cases h
theorem agP{t:TypeId}{n:Nat}(h:qS P t=some (some n))(w:World):(isAgg t).run P w=.ok true w/\(sizeOf t).run P w=.ok n w:=by
 obtain⟨d,i,h1,h2,h3,h4⟩:=ao4 h;constructor
 .rcases h4 with ⟨fs,rfl⟩|⟨k,e,rfl⟩<;>simp[isAgg,run_underlying h1]
 simp[sizeOf,typeInfo,h2,h3]
theorem agO{t:TypeId}(h:qS P t=some none)(w:World):(isAgg t).run P w=.ok false w/\(sizeOf t).run P w=.ok 1 w:=by
 obtain⟨d,i,h1,h2,h3,h4,h5⟩:=ao3 h;constructor
 .cases d<;>first
   |exact(h4 _ rfl).elim
   |exact(h5 _ _ rfl).elim
   |simp[isAgg,run_underlying h1]
 simp[sizeOf,typeInfo,h2,h3]
theorem aeW{m:Mem}{t:TypeId}{k:Option Nat}(hk:qS P t=some k){v:Value}{cs:List C}(h:At m v cs){x:V}(hx:pO k cs=some x):
  ∃a y,v=.pointer (some a)/\(loadVar t a).run P m.w=.ok y m.w/\bK m x y:=by
 obtain⟨b,o,vs,rfl,de,jC⟩:=h;cases k with
 |none=>
  obtain⟨h1,h2⟩:=agO hk m.w;cases cs with
  |nil=>simp[pO] at hx
  |cons c r=>
   simp[pO] at hx;subst hx;obtain⟨hl,hr⟩:=de;cases vs with
   |nil=>simp at hl
   |cons u us=>have h0:=jC 0 u rfl;refine⟨_,u,rfl,?_,bK.one.2 (hr 0 c u rfl rfl)⟩;rw[xw] at h0;simp[loadVar,h1,h0]
 |some n=>
  obtain⟨h1,h2⟩:=agP hk m.w;simp only[pO] at hx;split at hx
  .rename_i hn;cases hx;obtain⟨hl,hr⟩:=de;refine⟨_,.agg (vs.take n).toArray,rfl,?_,bK.agg.2 ⟨_,rfl,by simp;omega,fun j x u p q=>?_⟩⟩
   .have hlen:(vs.take n).length=n:=by simp;omega
    have:=run_loadCells_list (P:=P) m.w ⟨b,o,none⟩ (vs.take n) (fun j u q=>by
     rw[Addr.add_lit];rw[kJ] at q;split at q
     .exact jC j u q
     cases q)
    rw[hlen] at this;simp[loadVar,h1,h2,this]
   rw[kJ] at p;simp only[kJ] at q;split at p
   .rename_i hj;simp only[hj,if_true] at q;exact hr j x u p q
   cases p
  cases hx
section
variable {m:Mem} {ak:Env} {a:Act} {o:Oper} (aq:Ok w0 m) (hr:iS m ak a.tmps)
include aq hr
theorem atu{t:TypeId}{x:Operand}{y:aR}{k:Option Nat}{cs:List C}{rd:List Nat}{v:V}(ho:o.op=.load t x)(hk:qS P t=some k)(hx:cF x=some y)
  (hc:Bz m.aj (ev ak y)=some (cs,rd)) (hv:pO k cs=some v):fE P w0 a.eval o m v []:=by
 obtain⟨ad,y',h1,h2,h3⟩:=aeW hk (agt aq hc (eB hx hr)) hv;exact .calm aq (by simp[execOp,ho,h1,Instr.loadAt,Instr.sureAddr,h2]) h3
theorem atD{x:Operand}{y:aR}{v:V}(ho:o.op=.nilCheck x)(hx:cF x=some y)(hv:bt (fun _=>false) ak m.aj (.Kf y)=.done v [] []):fE P w0 a.eval o m v []:=by
 have ek:=eB hx hr;simp only[bt] at hv;split at hv
 .rename_i he;rw[he] at ek;cases hv;have hc:cY m _ (a.eval x):=ek;generalize hb:a.eval x=b at hc ek;cases hc with
  |aY ad hg h=>exact .calm aq (by simp[execOp,ho,hb]) ek
 .rename_i he;rw[he] at ek;cases hv;have hc:cY m _ (a.eval x):=ek;generalize hb:a.eval x=b at hc ek;cases hc with
  |dB ad hg h=>exact .calm aq (by simp[execOp,ho,hb]) ek
 .rename_i he;rw[he] at ek;cases hv;have hc:cY m _ (a.eval x):=ek;generalize hb:a.eval x=b at hc ek;cases hc with
  |p hp=>cases hp with
   |box b' o' f kQ kE qj=>exact .calm aq (by simp[execOp,ho,hb]) ek
 .rename_i he;rw[he] at ek;cases hv;have hc:cY m _ (a.eval x):=ek;generalize hb:a.eval x=b at hc ek;cases hc with
  |hfn A B ha xR vB qQ=>exact .calm aq (by simp[execOp,ho,hb]) ek
 .rename_i he;rw[he] at ek;cases hv;have hc:cY m _ (a.eval x):=ek;generalize hb:a.eval x=b at hc ek;cases hc with
  |p hp=>cases hp with
   |fn A B ha xR vB qQ=>exact .calm aq (by simp[execOp,ho,hb]) ek
 cases hv
end
end Go.Abs
namespace Go.Abs
variable {P:Program} {w0:World}
section
variable{vs:List Value}{off:Nat}
theorem ch.norm{w:World}{own:Nat->Prop}{x:PV}{v:Value}(h:ch w own x v):ch w own x.norm v:=by
 cases h<;>first
  |exact .yE none 0 (fun _=>rfl) (bl _)
  |exact .yE _ 0 (fun _=>rfl) (bl _)
  |(simp only[PV.norm];constructor<;>assumption)
theorem auQ{m:Mem}{c:C}{x:PV}{v:Value}(h:toP c=some x)(hr:cY m c v):ch m.w m.own x v:=by
 cases hr<;>simp[toP] at h
 rename_i hp;subst h;exact hp.norm
theorem Om{m:Mem}:∀ {cs:List C} {xs:List PV} {vs:List Value},BI cs=some xs->dq m cs vs->dj m.w m.own xs vs:=by
 intro cs
 induction cs with
 |nil=>intro xs vs h hr;simp[BI] at h;subst h;exact⟨hr.1,fun j x u a=>by simp at a⟩
 |cons c r ih=>
  intro xs vs h hr;simp only[BI] at h;split at h
  .rename_i x ys h1 h2;cases h;cases vs with
   |nil=>simp[dq] at hr
   |cons v us=>
    obtain⟨hl,CQ⟩:=ih (vs:=us) h2 ⟨by simpa using hr.1,fun j x u a b=>hr.2 (j+1) x u (by simpa using a) (by simpa using b)⟩;refine⟨by simp[hl],fun j z u a b=>?_⟩;cases j with
    |zero=>simp at a b;subst a b;exact auQ h1 (hr.2 0 c v rfl rfl)
    |succ j=>simp at a b;exact CQ j z u a b
  cases h
def Pw {α:Type}(R:α->Value->Prop)(xs:List α)(vs:List Value):Prop:=vs.length=xs.length/\ ∀(j:Nat) (x:α) (u:Value),xs[j]?=some x->vs[j]?=some u->R x u
theorem Pw.take{α:Type}{R:α->Value->Prop}{xs:List α}(h:Pw R xs vs)(n:Nat):Pw R (xs.take n) (vs.take n):=by
 refine⟨by simp[h.1],fun j x u a b=>?_⟩;rw[kJ] at a b;split at a
 .rename_i hj;rw[aF hj] at b;exact h.2 j x u a b
 cases a
theorem Pw.drop{α:Type}{R:α->Value->Prop}{xs:List α}(h:Pw R xs vs)(n:Nat):Pw R (xs.drop n) (vs.drop n):=
 ⟨by simp[h.1],fun j x u a b=>h.2 (n+j) x u (by simpa using a) (by simpa using b)⟩
theorem Pw.append{α:Type}{R:α->Value->Prop}{xs ys:List α}{us:List Value}(h:Pw R xs vs)(k:Pw R ys us):Pw R (xs++ys) (vs++us):=by
 refine⟨by simp[h.1,k.1],fun j x u a b=>?_⟩;by_cases hj:j<xs.length
 .rw[uY hj] at a;rw[uY (by rw[h.1];exact hj)] at b;exact h.2 j x u a b
 rw[v8 aa] at a;rw[v8 (by rw[h.1];omega),h.1] at b;exact k.2 _ x u a b
theorem Pw.eO{α:Type}{R:α->Value->Prop}{xs ys:List α}{us:List Value}(h:Pw R xs vs)(k:Pw R ys us)(off:Nat):Pw R (eO xs off ys) (eO vs off us):=by unfold Abs.eO;rw[k.1];exact((h.take off).append k).append (h.drop _)
theorem Rz{α:Type}{cs xs:List α}(h:off+xs.length<=cs.length):(eO cs off xs).length=cs.length:=by simp[eO];omega
theorem ahr{α:Type}{cs xs:List α}{n:Nat}(h:off+xs.length<=n)(hn:n<=cs.length):(eO cs off xs).take n=eO (cs.take n) off xs:=by unfold eO;rw[OH,OH,HL,List.drop_take];simp only[ff,fX];rw[Ar (by omega:off<=cs.length),HL,Ar (by omega:off<=n),Nat.min_eq_right (by omega:off<=n)];have e:n-(off+xs.length)=n-(off+xs.length):=rfl;rw[fR (by omega:xs.length<=n-off)]
theorem aui{α:Type}{a cs xs:List α}:eO (a++cs) (a.length+off) xs=a++eO cs off xs:=by unfold eO;rw[OH,aih];simp only[yK];rw[fR (by omega:a.length<=a.length+off),Se (by omega:a.length<=a.length+off+xs.length)];simp only[fY];have e1:a.length+off-a.length=off:=aa;have e2:a.length+off+xs.length-a.length=off+xs.length:=aa;rw[e1,e2]
theorem auh{α:Type}{a cs xs:List α}(h:off+xs.length<=a.length):eO (a++cs) off xs=eO a off xs++cs:=by unfold eO;rw[OI aa,aii aa];simp
theorem amz{α:Type}{sz:Nat}{ps:List α}:∀ {es:List (List α)},(∀e∈es,e.length=sz)->∀ {i:Nat} {e:List α},es[i]?=some e->off+ps.length<=sz->
  (es.set i (eO e off ps)).flatten=eO es.flatten (i*sz+off) ps:=by
 intro es
 induction es with
 |nil=>intro _ i e h;simp at h
 |cons x r ih=>
  intro h i e he hl;have h1:=h x af;cases i with
  |zero=>simp at he;subst he;simp only[YD,lQ,As,iQ];rw[auh aa]
  |succ i=>
   simp at he;simp only[List.set_cons_succ,lQ];rw[ih (fun y hy=>h y (by simp[hy])) he hl];have hh:(i+1)*sz+off=x.length+(i*sz+off):=by rw[h1,fZ];omega
   rw[hh,aui]
theorem Oh{w:World}{g:Nat}{cur new:Array Value}{ty:TypeId}{fz:Nat×Nat}(h:w.heap[g]?=some (.cells cur ty fz)):(w.setRow g new).heap[g]?=some (.cells new ty fz):=setRow_heap w g cur new ty fz h
theorem dq.pw{m:Mem}{cs:List C}:dq m cs vs↔Pw (cY m) cs vs:=Iff.rfl
theorem dj.pw{w:World}{own:Nat->Prop}{cs:List PV}:dj w own cs vs↔Pw (ch w own) cs vs:=Iff.rfl
theorem dq.one{m:Mem}{cs:List C}(h:dq m cs vs):∀v∈vs,v.oneCell'=true:=by
 intro v hv;obtain⟨j,hj⟩:=je hv;have au:j<cs.length:=by rw[<- h.1];exact(aW.1 hj).1
 exact(h.2 j _ v (my au) hj).NU
theorem SV{m:Mem}{x:V}{v:Value}{cs:List C}(h:rz x=some cs)(hr:bK m x v):dq m cs v.cells.toList:=by
 cases x with
 |undef=>simp[rz] at h
 |tup vs=>simp[rz] at h
 |one c=>
  simp[rz] at h;subst h;rw[(bK.one.1 hr).cells];refine⟨rfl,fun j y u p q=>?_⟩;cases j with
  |zero=>simp at p q;subst p q;exact hr
  |succ j=>simp at p
 |agg ds=>simp[rz] at h;subst h;obtain⟨arr,e,h⟩:=bK.agg.1 hr;rw[e];exact h
section
variable {m:Mem} {ak:Env} {a:Act} {o:Oper} (aq:Ok w0 m) (hr:iS m ak a.tmps)
include aq hr
theorem atL{t:TypeId}{x v:Operand}{x' v':aR}{n:Nat}{cs:List C}{r:V}{u:List eK}{rd:List Nat}(ho:o.op=.store t x v)(hn:xj P t=some n)(hx:cF x=some x')(hv:cF v=some v')
  (hc:rz (ev ak v')=some cs) (hw:Ak m.aj (ev ak x') n cs=.done r u rd):fE P w0 a.eval o m r u:=by
 have de:=SV hc (eB hv hr);have kS:=eB hx hr;unfold xj at hn;simp only[dE] at hn;obtain⟨i,hi,kr⟩:=hn;have cq:(a.eval v).cells.toList.length=cs.length:=de.1;simp only[Oy] at cq;unfold Ak at hw;split at hw
 .cases hw
 rename_i hlen;have hlen:cs.length=n:=by simpa using hlen
 have Qe:=de.one;split at hw
 .rename_i id g off he;rw[he] at kS;have kS:cY m _ (a.eval x):=kS;generalize hb:a.eval x=b at kS;cases kS with
  |aY ad hg nh=>
   split at hw
   .rename_i g' za ir;split at hw
    .rename_i MF;obtain⟨iG,hfit⟩:=MF;cases hw;have bn:(m.aj id).2=some (.var za):=by rw[ir]
     have nh:=nh (by rw[ir];exact iG) (by rw[bn];rfl);subst nh;obtain⟨cur,ty,hh,dz⟩:=aq.obj id _ bn;have bR:=dz.1;simp at bR;have A0:off+0+(a.eval v).cells.toList.length<=cur.size:=by simp;omega
     have cX:=run_storeCells_at P (m.σ id) off ty (a.eval v).cells.toList 0 cur m.w hh A0 Qe;simp only[xw] at cX;generalize hW:m.w.setRow (m.σ id) (cur.toList.take off++(a.eval v).cells.toList++cur.toList.drop (off+(a.eval v).cells.toList.length)).toArray=W at cX;have Eh:W.heap.size=m.w.heap.size:=by rw[<- hW];simp
     have Eg:∀c,c≠m.σ id->W.heap[c]?=m.w.heap[c]? :=fun c hc=>by rw[<- hW];exact setRow_other m.w (m.σ id) c _ hc
     have dQ:=Og (w':=W) (o:=.var (eO za off cs)) bn rfl (by simp[kI]) (by rw[<- hW];rfl) (by rw[<- hW];rfl) (by rw[<- hW];rfl) Eh Eg;have CO:tn (m.j4 W id (.var (eO za off cs))) id (.var (eO za off cs)):=by
      refine⟨_,ty,by rw[<- hW];exact Oh hh,?_⟩;have:=dq.pw.2 ((dq.pw.1 (dz.ev dQ.zero)).eO (dq.pw.1 (de.ev dQ.zero)) off)
      simpa [eO] using this
     refine⟨undef,m.j4 W id (.var (eO za off cs)),.inr ⟨?_,rfl⟩,Rn bn rfl aq (by simp[kI]) (by rw[<- hW];rfl) (by rw[<- hW];rfl) (by rw[<- hW];rfl) Eh Eg CO,dQ,rfl,?_,rfl⟩
     .simp only[execOp,ho,hb,Instr.storeAt,Instr.sureAddr,storeVar,sizeOf,typeInfo];simp[hi,cq,hlen,kr,cX,Mem.j4]
     simp[Mem.j4,app,ir,iG]
    cases hw
   cases hw
 .rename_i id g i' off he;rw[he] at kS;have kS:cY m _ (a.eval x):=kS;generalize hb:a.eval x=b at kS;cases kS with
  |dB ad hg nh=>
   split at hw
   .rename_i g' ty sz es ir;split at hw
    .rename_i e ps Gh Qg;split at hw
     .rename_i MF;obtain⟨iG,hfit⟩:=MF;cases hw;have bn:(m.aj id).2=some (.arr ty sz es):=by rw[ir]
      have nh:=nh sz (by rw[ir];exact iG) (by rw[ir];rfl);subst nh;obtain⟨cur,hh,pG,tM,hl,hm,ac0,dz⟩:=aq.obj id _ bn;have dB:=Mm tM Gh;have anQ:i'<es.length:=(aW.1 Gh).1;have ye:(i'+1)*sz<=es.length*sz:=lR _ anQ;have ac8:es.length*sz<=m.κ id*sz:=lR _ hl;rw[fZ,Lh] at ye;have hpsl:ps.length=cs.length:=by rw[<- de.1];exact(Om Qg de).1.symm
      have A0:i'*sz+off+0+(a.eval v).cells.toList.length<=cur.size:=by simp;omega
      have cX:=run_storeCells_at P (m.σ id) (i'*sz+off) ty (a.eval v).cells.toList 0 cur m.w hh A0 Qe;simp only[xw] at cX;generalize hW:m.w.setRow (m.σ id) (cur.toList.take (i'*sz+off)++(a.eval v).cells.toList++cur.toList.drop (i'*sz+off+(a.eval v).cells.toList.length)).toArray=W at cX;have Eh:W.heap.size=m.w.heap.size:=by rw[<- hW];simp
      have Eg:∀c,c≠m.σ id->W.heap[c]?=m.w.heap[c]? :=fun c hc=>by rw[<- hW];exact setRow_other m.w (m.σ id) c _ hc
      have dQ:=Og (w':=W) (o:=.arr ty sz (es.set i' (eO e off ps))) bn rfl (by simp[kI]) (by rw[<- hW];rfl) (by rw[<- hW];rfl) (by rw[<- hW];rfl) Eh Eg;have CO:tn (m.j4 W id (.arr ty sz (es.set i' (eO e off ps)))) id (.arr ty sz (es.set i' (eO e off ps))):=by
       refine⟨_,by rw[<- hW];exact Oh hh,pG,?_,by rw[tk];exact hl,hm,?_,?_⟩
       .intro e' Gg;rcases List.mem_or_eq_of_mem_set Gg with h|h
        .exact tM e' h
        rw[h,Rz aa];exact dB
       .simp[Mem.j4];omega
       rw[tk,amz tM Gh aa];have h1:=(dj.pw.1 (dz.ev dQ.zero)).eO (dj.pw.1 ((Om Qg de).ev dQ.zero)) (i'*sz+off);rw[<- ahr (by simp;omega) (by simp;omega)] at h1;have h1:=dj.pw.2 h1
       simpa [eO] using h1
      refine⟨undef,m.j4 W id (.arr ty sz (es.set i' (eO e off ps))),.inr ⟨?_,rfl⟩,Rn bn rfl aq (by simp[kI]) (by rw[<- hW];rfl) (by rw[<- hW];rfl) (by rw[<- hW];rfl) Eh Eg CO,dQ,rfl,?_,rfl⟩
      .simp only[execOp,ho,hb,Instr.storeAt,Instr.sureAddr,storeVar,sizeOf,typeInfo];simp[hi,cq,hlen,kr,cX,Mem.j4]
      simp[Mem.j4,app,ir,iG]
     cases hw
    cases hw
   cases hw
 cases hw
end
end
end Go.Abs
namespace Go.Abs
variable {P:Program} {w0:World}
theorem yW{m:Mem}{x:V}{v:Value}{n:Nat}(h:oN x=some n)(hr:bK m x v):∃k,v=.int k (n:Int):=by
 unfold oN at h;split at h
 .rename_i k z;split at h
  .rename_i hz;cases h;exact⟨k,by rw[CX hr,aie hz]⟩
  cases h
 cases h
theorem Rq{t:TypeId}{n:Nat}(h:xj P t=some n)(w:World):(sizeOf t).run P w=.ok n w:=by unfold xj at h;simp only[dE] at h;obtain⟨i,hi,rfl⟩:=h;simp[sizeOf,typeInfo,hi]
section
variable {m:Mem} {ak:Env} {a:Act} {o:Oper} (aq:Ok w0 m) (hr:iS m ak a.tmps)
include aq hr
theorem atq{s:TypeId}{x:Operand}{f:Nat}{fs:Array Field}{d:Field}{y:aR}{v:V}(ho:o.op=.fieldAddr s x f)(hs:P.underlying s=some (.struct fs))(hf:fs[f]?=some d)
  (hz:P.cellsOf d.type≠0) (hx:cF x=some y) (hv:bt (fun _=>false) ak m.aj (.FY d.offset y)=.done v [] []):fE P w0 a.eval o m v []:=by
 have ek:=eB hx hr;have cq:∃n,(sizeOf d.type).run P m.w=.ok n m.w/\n≠0:=by
  unfold Program.cellsOf at hz;cases hi:P.info? d.type with
  |none=>simp[hi] at hz
  |some i=>exact⟨i.size,by simp[sizeOf,typeInfo,hi],by simpa [hi] using hz⟩
 obtain⟨n,hn,iu⟩:=cq;have run:∀ad,a.eval x=.pointer (some ad)->(execOp a.eval o).run P m.w=.ok (.value (.pointer (some (ad.add d.offset)))) m.w:=by intro ad nh;simp[execOp,ho,nh,Instr.fieldAt,run_underlying hs,hf,Instr.sureAddr,fieldPlace,hn,iu]
 simp only[bt] at hv;split at hv
 .rename_i id g off he;rw[he] at ek;cases hv;have hc:cY m _ (a.eval x):=ek;generalize hb:a.eval x=b at hc;cases hc with
  |aY ad hg h=>exact .calm aq (run _ hb) (bK.one.2 (.aY _ hg fun h1 h2=>by rw[h h1 h2,Addr.add_lit]))
 .rename_i id g i off he;rw[he] at ek;cases hv;have hc:cY m _ (a.eval x):=ek;generalize hb:a.eval x=b at hc;cases hc with
  |dB ad hg h=>exact .calm aq (run _ hb) (bK.one.2 (.dB _ hg fun sz h1 h2=>by rw[h sz h1 h2,Addr.add_lit,HM]))
 .rename_i cs he;rw[he] at ek;cases hv;have hc:cY m _ (a.eval x):=ek;generalize hb:a.eval x=b at hc;cases hc with
  |p hp=>cases hp with
   |box b' o' f' kQ kE qj=>refine .calm aq (run _ hb) (mh ?_);rw[Addr.add_lit];refine .box b' (o'+d.offset) (fun j=>f' (d.offset+j)) (fun h=>kQ fun e=>h (by simp[e])) (fun j z h=>?_) fun j z h=>qj _ z (by simpa using h);rw[HM];exact kE _ z (by simpa using h)
 cases hv
theorem ats{t e:TypeId}{x i:Operand}{sz:Nat}{x' i':aR}{v:V}(ho:o.op=.indexAddr t x i)(ht:P.underlying t=some (.slice e))(hs:xj P e=some sz)
  (hx:cF x=some x') (hi:cF i=some i') (hv:bt (fun _=>false) ak m.aj (.GD sz x' i')=.done v [] []):fE P w0 a.eval o m v []:=by
 have ek:=eB hx hr;have Jx:=eB hi hr;have run:∀ad len cap k (n:Nat),a.eval x=.slice (some ad) len cap->a.eval i=.int k (n:Int)->n<len->(execOp a.eval o).run P m.w=.ok (.value (.pointer (some (ad.add (n*sz))))) m.w:=by intro ad len cap k n h1 h2 h3;simp[execOp,ho,h1,h2,Instr.indexAt,asIntOf,run_underlying ht,Rq hs,h3]
 simp only[bt] at hv;split at hv
 .rename_i n es hn he;obtain⟨k,hk⟩:=yW hn Jx;rw[he] at ek;split at hv
  .rename_i el dB;split at hv
   .rename_i hlen;cases hv;have hc:cY m _ (a.eval x):=ek;generalize hb:a.eval x=b at hc;cases hc with
    |p hp=>
     generalize fO:(PV.sl es)=pv at hp;cases hp<;>first
      |cases fO
      |skip
     .simp at dB
     rename_i b' o' cap bN f oZ kQ vt cq tH CQ;have au:n<es.length:=(aW.1 dB).1;have WA:bN=sz:=by rw[<- Mm cq dB];exact hlen
     subst WA;refine .calm aq (run _ _ _ k n hb hk au) (mh ?_);rw[Addr.add_lit];refine .box b' (o'+n*bN) (fun j=>f (n*bN+j)) (fun h=>kQ ?_) (fun j z h=>?_) fun j z h=>?_
     .intro e0;cases el with
      |nil=>exact h rfl
      |cons c r=>have:=FZ cq dB (j:=0) (by rw[<- hlen];simp);rw[e0] at this;simp at this
     .have hj:j<bN:=by rw[<- hlen];exact(aW.1 h).1
      rw[HM];exact tH _ z (by rw[FZ cq dB hj];exact h)
     have hj:j<bN:=by rw[<- hlen];exact(aW.1 h).1
     exact CQ _ z (by rw[FZ cq dB hj];exact h)
   cases hv
  cases hv
 .rename_i n id g z off len hn he;obtain⟨k,hk⟩:=yW hn Jx;rw[he] at ek;split at hv
  .rename_i au;cases hv;have hc:cY m _ (a.eval x):=ek;generalize hb:a.eval x=b at hc;cases hc with
   |hsl ad cap hg hl hm h=>refine .calm aq (run _ _ _ k n hb hk au.1) (bK.one.2 (.dB _ hg fun s h1 h2=>?_));obtain⟨e1,e2,_⟩:=h s h1 h2;rw[e2 (.inr aa),Addr.add_lit,e1,au.2];simp[fZ]
  cases hv
 cases hv
theorem atd{t e:TypeId}{x i:Operand}{sz ln:Nat}{x' i':aR}{v:V}(ho:o.op=.indexAddr t x i)(ht:P.underlying t=some (.array ln e))(hs:xj P e=some sz)
  (hx:cF x=some x') (hi:cF i=some i') (hv:bt (fun _=>false) ak m.aj (.HX ln sz x' i')=.done v [] []):fE P w0 a.eval o m v []:=by
 have ek:=eB hx hr;have Jx:=eB hi hr;have run:∀ad k (n:Nat),a.eval x=.pointer (some ad)->a.eval i=.int k (n:Int)->n<ln->(execOp a.eval o).run P m.w=.ok (.value (.pointer (some (ad.add (n*sz))))) m.w:=by intro ad k n h1 h2 h3;simp[execOp,ho,h1,h2,Instr.indexAt,asIntOf,run_underlying ht,Rq hs,h3,Instr.sureAddr]
 simp only[bt] at hv;split at hv
 .rename_i n id g off hn he;obtain⟨k,hk⟩:=yW hn Jx;rw[he] at ek;split at hv
  .rename_i au;cases hv;have hc:cY m _ (a.eval x):=ek;generalize hb:a.eval x=b at hc;cases hc with
   |aY ad hg h=>exact .calm aq (run _ k n hb hk au) (bK.one.2 (.aY _ hg fun h1 h2=>by rw[h h1 h2,Addr.add_lit]))
  cases hv
 .rename_i n id g j off hn he;obtain⟨k,hk⟩:=yW hn Jx;rw[he] at ek;split at hv
  .rename_i au;cases hv;have hc:cY m _ (a.eval x):=ek;generalize hb:a.eval x=b at hc;cases hc with
   |dB ad hg h=>exact .calm aq (run _ k n hb hk au) (bK.one.2 (.dB _ hg fun s h1 h2=>by rw[h s h1 h2,Addr.add_lit,HM]))
  cases hv
 .rename_i n cs hn he;obtain⟨k,hk⟩:=yW hn Jx;rw[he] at ek;split at hv
  .rename_i au;cases hv;have hc:cY m _ (a.eval x):=ek;generalize hb:a.eval x=b at hc;cases hc with
   |p hp=>cases hp with
    |box b' o' f' kQ kE qj=>refine .calm aq (run _ k n hb hk au) (mh ?_);rw[Addr.add_lit];refine .box b' (o'+n*sz) (fun j=>f' (n*sz+j)) (fun h=>kQ fun e=>h (by simp[e])) (fun j z h=>?_) fun j z h=>qj _ z (by simpa using h);rw[HM];exact kE _ z (by simpa using h)
  cases hv
 cases hv
theorem afX{t:TypeId}{k:Option Nat}(hk:qS P t=some k){cs:List C}{arr:Array Value}(hc:dq m cs arr.toList){off:Nat}{x:V}(hx:pO k (cs.drop off)=some x):
  ∃y,(part t arr off).run P m.w=.ok y m.w/\bK m x y:=by
 have _u0:=aq;have _u1:=hr;have hl:=hc.1;simp at hl;cases k with
 |none=>
  obtain⟨h1,h2⟩:=agO hk m.w;cases hd:cs.drop off with
  |nil=>simp[hd,pO] at hx
  |cons c r=>
   simp[hd,pO] at hx;subst hx;have de:cs[off]?=some c:=by
    have:=congrArg (·[0]?) hd
    simpa using this
   have au:off<arr.size:=by rw[hl];exact(aW.1 de).1
   refine⟨arr[off],by simp[part,h1,au],bK.one.2 (hc.2 off c _ de (by simp[au]))⟩
 |some n=>
  obtain⟨h1,h2⟩:=agP hk m.w;simp only[pO] at hx;split at hx
  .rename_i hn;cases hx;simp at hn;refine⟨.agg (arr.extract off (off+n)),by simp[part,h1,h2],bK.agg.2 ⟨_,rfl,by simp;omega,fun j x u p q=>?_⟩⟩;rw[kJ] at p;split at p
   .rename_i hj;simp at p;refine hc.2 (off+j) x u p ?_;have au:off+j<cs.length:=(aW.1 p).1;have he:(arr.extract off (off+n)).toList=(arr.toList.drop off).take n:=af;rw[he,kJ,aF hj,xu] at q;exact q
   cases p
  cases hx
theorem atr{t:TypeId}{x:Operand}{f:Nat}{fs:Array Field}{d:Field}{y:aR}{k:Option Nat}{cs:List C}{v:V}(ho:o.op=.field t x f)(hs:P.underlying t=some (.struct fs))(hf:fs[f]?=some d)
  (hk:qS P d.type=some k) (hx:cF x=some y) (hy:ev ak y=.agg cs) (hv:pO k (cs.drop d.offset)=some v):fE P w0 a.eval o m v []:=by
 have ek:=eB hx hr;rw[hy] at ek;obtain⟨arr,e,hc⟩:=bK.agg.1 ek;obtain⟨z,h1,h2⟩:=afX (aq:=aq) (hr:=hr) hk hc hv;exact .calm aq (by simp[execOp,ho,e,Instr.field,run_underlying hs,hf,asAgg,h1]) h2
theorem ate{t e:TypeId}{x i:Operand}{ln sz:Nat}{x' i':aR}{k:Option Nat}{n:Nat}{cs:List C}{v:V}(ho:o.op=.index t x i)(ht:P.underlying t=some (.array ln e))(hs:xj P e=some sz)
  (hk:qS P e=some k) (hx:cF x=some x') (hi:cF i=some i') (hn:oN (ev ak i')=some n) (au:n<ln) (hy:ev ak x'=.agg cs) (hv:pO k (cs.drop (n*sz))=some v):fE P w0 a.eval o m v []:=by
 have ek:=eB hx hr;obtain⟨kk,vr⟩:=yW hn (eB hi hr);rw[hy] at ek;obtain⟨arr,e',hc⟩:=bK.agg.1 ek;obtain⟨z,h1,h2⟩:=afX (aq:=aq) (hr:=hr) hk hc hv;exact .calm aq (by simp[execOp,ho,e',vr,Instr.index,asIntOf,run_underlying ht,Rq hs,au,h1]) h2
theorem atH{t:TypeId}{x i:Operand}{x' i':aR}{n:Nat}{s:ByteArray}{b:UInt8}(ho:o.op=.index t x i)(ht:P.underlying t=some .string)
  (hx:cF x=some x') (hi:cF i=some i') (hn:oN (ev ak i')=some n) (hy:ev ak x'=.one (.p (.str s))) (hb:s[n]?=some b):fE P w0 a.eval o m (.one (.p (.int .u8 b.toNat))) []:=by
 have ek:=eB hx hr;obtain⟨kk,vr⟩:=yW hn (eB hi hr);rw[hy] at ek;exact .calm aq (by simp[execOp,ho,NC ek,vr,Instr.index,asIntOf,run_underlying ht,hb]) (mh (.int _ _))
end
end Go.Abs
namespace Go.Abs
variable {P:Program} {w0:World}
theorem aj1{op:BinOp}{t:TypeId}{k k':IntKind}{x y:Int}{v:PV}(w:World)(hk:k=k'\/op=.shl\/op=.shr)(h:tv op k x y=some v):
  ∃u,(binOp op t (.int k x) (.int k' y)).run P w=.ok u w/\ ∀own,ch w own v u:=by
 by_cases hs:op=.shl\/op=.shr
 .rcases hs with rfl|rfl
  .simp only[tv] at h;split at h
   .cases h
   rename_i hy;cases h;exact⟨_,by simp[binOp,Op.shift,hy],fun own=>.int _ _⟩
  simp only[tv] at h;split at h
  .cases h
  rename_i hy;cases h;exact⟨_,by simp[binOp,Op.shift,hy],fun own=>.int _ _⟩
 have vr:k=k':=by
  rcases hk with h|h
  .exact h
  exact(hs h).elim
 subst vr;cases op<;>simp only[tv] at h<;>first
  |cases h
  |skip
 all_goals first
  |exact(hs (.inl rfl)).elim
  |exact(hs (.inr rfl)).elim
  |(exact⟨_,by simp[binOp,Op.intArith,Op.intCmp,Op.intBits],fun own=>.int _ _⟩)
  |(exact⟨_,by simp[binOp,Op.intArith,Op.intCmp],fun own=>.bool _⟩)
  |(split at h
    .cases h
    rename_i hy;cases h;exact⟨_,by simp[binOp,Op.intDiv,hy],fun own=>.int _ _⟩)
theorem aj3{op:BinOp}{t:TypeId}{x y:ByteArray}{v:PV}(w:World)(h:Il op x y=some v):
  ∃u,(binOp op t (.string x) (.string y)).run P w=.ok u w/\ ∀own,ch w own v u:=by
 cases op<;>simp only[Il] at h<;>first
  |cases h
  |skip
 all_goals first
  |exact⟨_,by simp[binOp,Op.stringOp],fun own=>.bool _⟩
  |(split at h
    .rename_i hl;cases h;refine⟨.string (x++y),?_,fun own=>.str _⟩;have:¬((x.size:Int)+(y.size:Int)>9223372036854775807):=aa;simp[binOp,Op.stringOp,this]
    cases h)
section
variable {m:Mem} {ak:Env} {a:Act} {o:Oper} (aq:Ok w0 m) (hr:iS m ak a.tmps)
include aq hr
theorem ath{op:BinOp}{t ty:TypeId}{x y:Operand}{x' y':aR}{v:V}(ho:o.op=.binOp op t x y ty)(hx:cF x=some x')(hy:cF y=some y')
  (hv:qF op (ev ak x') (ev ak y')=some v):fE P w0 a.eval o m v []:=by
 have h1:=eB hx hr;have h2:=eB hy hr;unfold qF at hv;split at hv
 .rename_i k p k' q e1 e2;rw[e1] at h1;rw[e2] at h2;split at hv
  .rename_i hk;simp only[dE] at hv;obtain⟨u,hu,rfl⟩:=hv;obtain⟨z,hz,JH⟩:=aj1 (P:=P) (t:=t) m.w hk hu;refine .calm aq ?_ (mh (JH _));have hg:(eqGuard op t x y (.int k p) (.int k' q)).run P m.w=.ok () m.w:=by cases op<;>simp[eqGuard]
   simp[execOp,ho,CX h1,CX h2,hg,hz]
  cases hv
 .rename_i p q e1 e2;rw[e1] at h1;rw[e2] at h2;simp only[dE] at hv;obtain⟨u,hu,rfl⟩:=hv;obtain⟨z,hz,JH⟩:=aj3 (P:=P) (t:=t) m.w hu;refine .calm aq ?_ (mh (JH _));have hg:(eqGuard op t x y (.string p) (.string q)).run P m.w=.ok () m.w:=by cases op<;>simp[eqGuard]
  simp[execOp,ho,NC h1,NC h2,hg,hz]
 cases hv
theorem atE{t:TypeId}{x:Operand}{x':aR}{b:Bool}(ho:o.op=.unOp .not t x)(hx:cF x=some x')(hb:ev ak x'=.one (.p (.bool b))):fE P w0 a.eval o m (.one (.p (.bool (!b)))) []:=by have h1:=eB hx hr;rw[hb] at h1;exact .calm aq (by simp[execOp,ho,EI h1,Op.unary]) (mh (.bool _))
theorem atC{t:TypeId}{x:Operand}{x':aR}{k:IntKind}{n:Int}(ho:o.op=.unOp .neg t x)(hx:cF x=some x')(hb:ev ak x'=.one (.p (.int k n))):fE P w0 a.eval o m (.one (.p (.int k (k.wrap (0-n))))) []:=by have h1:=eB hx hr;rw[hb] at h1;exact .calm aq (by simp[execOp,ho,CX h1,Op.unary,Op.intArith]) (mh (.int _ _))
theorem ato{s d:TypeId}{x:Operand}{x':aR}{ks k k0:IntKind}{n:Int}(ho:o.op=.convert s d x)(hs:P.underlying s=some (.int ks))(hd:P.underlying d=some (.int k))(hx:cF x=some x')
  (hb:ev ak x'=.one (.p (.int k0 n))):fE P w0 a.eval o m (.one (.p (.int k (k.wrap n)))) []:=by
 have h1:=eB hx hr;rw[hb] at h1;exact .calm aq (by simp[execOp,ho,CX h1,convert,run_underlying hs,run_underlying hd,Conv.intToInt]) (mh (.int _ _))
theorem afP:∀ {xs:List Operand} {ys:List aR} {cs:List C},pW xs=some ys->vM ak ys=some cs->dq m cs (xs.map a.eval):=by
 have _u0:=aq;intro xs
 induction xs with
 |nil=>intro ys cs h1 h2;simp[pW] at h1;subst h1;simp[vM] at h2;subst h2;exact⟨rfl,fun j x u p=>by simp at p⟩
 |cons x r ih=>
  intro ys cs h1 h2;simp only[pW] at h1;split at h1
  .rename_i y ys' e1 e2;cases h1;simp only[vM] at h2;split at h2
   .rename_i c q e3 e4;cases h2;obtain⟨hl,CQ⟩:=ih e2 e4;refine⟨by simpa using hl,fun j z u p q=>?_⟩;cases j with
    |zero=>simp at p q;subst p q;have:=eB e1 hr;rw[e3] at this;exact this
    |succ j=>simp at p q;exact CQ j z u p (by simpa using q)
   cases h2
  cases h1
theorem aty{f:FuncId}{x y:Array Operand}{x' y':List aR}{cs ds:List C}(ho:o.op=.makeFunc (.func f) x y)(hx:pW x.toList=some x')(hy:pW y.toList=some y')
  (hc:vM ak x'=some cs) (hd:vM ak y'=some ds):fE P w0 a.eval o m (.one (.hfn f cs ds)) []:=by
 have h1:=afP (aq:=aq) (hr:=hr) hx hc;have h2:=afP (aq:=aq) (hr:=hr) hy hd;refine .calm (x:=.func (.func f) (x.map a.eval) (y.map a.eval)) aq (by simp[execOp,ho,Instr.makeFunc]) (bK.one.2 (.hfn _ _ ?_ ?_ ?_ ?_))
 .have:=h1.1;simpa using this
 .have:=h2.1;simpa using this
 .intro j z u p q;exact h1.2 j z u p (by rw[<- Array.toList_map,HA];exact q)
 intro j z u p q;exact h2.2 j z u p (by rw[<- Array.toList_map,HA];exact q)
theorem atp{x:Operand}{i:Nat}{x':aR}{vs:List V}{v:V}(ho:o.op=.extract x i)(hx:cF x=some x')(he:ev ak x'=.tup vs)(hv:vs[i]?=some v):fE P w0 a.eval o m v []:=by
 have h1:=eB hx hr;rw[he] at h1;obtain⟨arr,e,hl,hc⟩:=h1;have au:i<arr.size:=by rw[hl];exact(aW.1 hv).1
 exact .calm (x:=arr[i]) aq (by simp[execOp,ho,e,Instr.extract,au]) (.of1 (hc i v _ hv (by simp[au])))
theorem aeR{x:V}{v:Value}{n:Nat}(h:yw x=some n)(hv:bK m x v):∃ad cap,v=.slice ad n cap/\n<=cap/\cap<=maxLen:=by
 have _u0:=aq;have _u1:=hr;unfold yw at h;split at h
 .cases h;exact⟨none,0,Qt hv,bJ _,bl _⟩
 .cases h;obtain⟨hp⟩:cY m _ v:=hv;rename_i es;generalize fO:(PV.sl es)=pv at hp;cases hp<;>cases fO
  .exact⟨_,_,rfl,bl _,by assumption⟩
  exact⟨_,_,rfl,by assumption,by assumption⟩
 .cases h;have hc:cY m _ v:=hv;cases hc with
  |hsl ad cap hg hl hm h=>exact⟨_,_,rfl,hl,hm⟩
 cases h
theorem att{c:Call}{x:Operand}{x':aR}{t e:TypeId}{n:Nat}(ho:o.op=.call c)(hc:c.callee=.builtin .len)(has:c.args= #[x])(jC:c.argTypes[0]?=some t)(ht:P.underlying t=some (.slice e))
  (hx:cF x=some x') (hn:yw (ev ak x')=some n):fE P w0 a.eval o m (.one (.p (.int .i64 n))) []:=by
 obtain⟨ad,cap,h1,_,_⟩:=aeR (aq:=aq) (hr:=hr) hn (eB hx hr);refine .calm aq ?_ (mh (.int _ _));simp[execOp,ho,resolve,hc,has,invoke,builtin,Builtin.len_,jC,h1,run_underlying ht,goInt]
theorem atI{c:Call}{x:Operand}{x':aR}{t:TypeId}{s:ByteArray}(ho:o.op=.call c)(hc:c.callee=.builtin .len)(has:c.args= #[x])(jC:c.argTypes[0]?=some t)(ht:P.underlying t=some .string)
  (hx:cF x=some x') (hn:ev ak x'=.one (.p (.str s))):fE P w0 a.eval o m (.one (.p (.int .i64 s.size))) []:=by
 have h1:=eB hx hr;rw[hn] at h1;refine .calm aq ?_ (mh (.int _ _));simp[execOp,ho,resolve,hc,has,invoke,builtin,Builtin.len_,jC,NC h1,run_underlying ht,goInt]
theorem atw{c:Call}{x y:Operand}{x' y':aR}{k k':IntKind}{p q:Int}(ho:o.op=.call c)(hc:c.callee=.builtin .max)(has:c.args= #[x,y])
  (hx:cF x=some x') (hy:cF y=some y') (h1:ev ak x'=.one (.p (.int k p))) (h2:ev ak y'=.one (.p (.int k' q))):fE P w0 a.eval o m (.one (.p (.int k (if q>p then q else p)))) []:=by
 have g1:=eB hx hr;have g2:=eB hy hr;rw[h1] at g1;rw[h2] at g2;refine .calm aq ?_ (mh (.int _ _));simp[execOp,ho,resolve,hc,has,invoke,builtin,Builtin.max_,Builtin.max2,CX g1,CX g2]
theorem atx{c:Call}{x y:Operand}{x' y':aR}{k k':IntKind}{p q:Int}(ho:o.op=.call c)(hc:c.callee=.builtin .min)(has:c.args= #[x,y])
  (hx:cF x=some x') (hy:cF y=some y') (h1:ev ak x'=.one (.p (.int k p))) (h2:ev ak y'=.one (.p (.int k' q))):fE P w0 a.eval o m (.one (.p (.int k (if q<p then q else p)))) []:=by
 have g1:=eB hx hr;have g2:=eB hy hr;rw[h1] at g1;rw[h2] at g2;refine .calm aq ?_ (mh (.int _ _));simp[execOp,ho,resolve,hc,has,invoke,builtin,Builtin.min_,Builtin.min2,CX g1,CX g2]
end
end Go.Abs
namespace Go.Abs
variable {P:Program} {w0:World}
section
variable{sz:Nat}
theorem ajg:∀(u:List eK) (aj:aA) (id:Nat),(app u aj id=aj id/\ ∀e∈u,e.1≠id)\/ ∃e∈u,e.1=id/\app u aj id=e.2:=by
 intro u
 induction u with
 |nil=>intro aj id;exact .inl ⟨rfl,fun e h=>by simp at h⟩
 |cons x r ih=>
  intro aj id;obtain⟨i,o⟩:=x;simp only[app];rcases ih (dJ aj i o) id with ⟨h1,h2⟩|⟨e,he,h1,h2⟩
  .by_cases hi:id=i
   .exact .inr ⟨(i,o),af,hi.symm,by rw[h1];simp[aN,hi]⟩
   refine .inl ⟨by rw[h1];simp[aN,hi],fun e he=>?_⟩;rcases cM.1 he with rfl|he
   .exact fun h=>hi h.symm
   exact h2 e he
  exact .inr ⟨e,by simp[he],h1,h2⟩
theorem Is{α β γ:Type}{f:α->Option (β×List Nat)}{R:α->γ->Prop}{T:β->γ->Prop}{eF:List Nat->Prop}(MS:∀a b,eF (a++b)->eF a/\eF b)
  (hf:∀a b r v,f a=some (b,r)->R a v->eF r->T b v):∀ {xs:List α} {ys:List β} {r:List Nat} {vs:List γ},collect f xs=some (ys,r)->eF r->
  (vs.length=xs.length/\ ∀(j:Nat) (x:α) (u:γ),xs[j]?=some x->vs[j]?=some u->R x u)->(vs.length=ys.length/\ ∀(j:Nat) (x:β) (u:γ),ys[j]?=some x->vs[j]?=some u->T x u):=by
 intro xs
 induction xs with
 |nil=>intro ys r vs h _ hr;simp[collect] at h;obtain⟨rfl,rfl⟩:=h;exact⟨hr.1,fun j x u a=>by simp at a⟩
 |cons x t ih=>
  intro ys r vs h hg hr;simp only[collect] at h;split at h
  .rename_i b p bs q e1 e2;cases h;obtain⟨g1,g2⟩:=MS _ _ hg;cases vs with
   |nil=>simp at hr
   |cons v us=>
    obtain⟨hl,hh⟩:=ih (vs:=us) e2 g2 ⟨by simpa using hr.1,fun j x u a b=>hr.2 (j+1) x u (by simpa using a) (by simpa using b)⟩;refine⟨by simp[hl],fun j z u a b=>?_⟩;cases j with
    |zero=>simp at a b;subst a b;exact hf _ _ _ _ e1 (hr.2 0 x v rfl rfl) g1
    |succ j=>simp at a b;exact hh j z u a b
  cases h
def pS(m:Mem)(own:Nat->Prop)(r:List Nat):Prop:=(∀b,own b->m.own b)/\ ∀id∈r,¬own (m.σ id)
theorem pS.app{m:Mem}{own:Nat->Prop}{a b:List Nat}(h:pS m own (a++b)):pS m own a/\pS m own b:=
 ⟨⟨h.1,fun id hi=>h.2 id (by simp[hi])⟩,⟨h.1,fun id hi=>h.2 id (by simp[hi])⟩⟩
theorem ch.less{w:World}{own Ad:Nat->Prop}(h:∀b,Ad b->own b){x:PV}{v:Value}(hr:ch w own x v):ch w Ad x v:=hr.mono fun c _ hn=>⟨rfl,fun ho=>hn (h c ho)⟩
theorem dj.less{w:World}{own Ad:Nat->Prop}(h:∀b,Ad b->own b){x:List PV}{v:List Value}(hr:dj w own x v):dj w Ad x v:=⟨hr.1,fun j x u a b=>(hr.2 j x u a b).less h⟩
theorem afj{α:Type}{xs:List α}{R:α->Value->Prop}{vs:List Value}(h:Pw R xs vs):∃f:Nat->Value,∀(j:Nat) (x:α),xs[j]?=some x->vs[j]?=some (f j)/\R x (f j):=by
 refine⟨fun j=>vs.getD j undef,fun j x hx=>?_⟩;have au:j<vs.length:=by rw[h.1];exact(aW.1 hx).1
 have:vs[j]?=some (vs.getD j undef):=by simp[List.getD,my au]
 exact⟨this,h.2 j x _ hx this⟩
theorem Xa{w:World}{own:Nat->Prop}{b o:Nat}{cur:Array Value}{ty:TypeId}{fz:Nat×Nat}{ps:List PV}(hh:w.heap[b]?=some (.cells cur ty fz))(hp:Pw (ch w own) ps (cur.toList.drop o |>.take ps.length))
  (ho:ps≠[]-> ¬own b):ch w own (.box ps) (.pointer (some ⟨b,o,none⟩)):=by
 obtain⟨f,hf⟩:=afj hp;refine .box b o f ho (fun j x hx=>?_) fun j x hx=>(hf j x hx).2;have h1:=(hf j x hx).1;rw[kJ] at h1;split at h1
 .rw[DK hh];simpa using h1
 cases h1
theorem afl{w:World}{own:Nat->Prop}{b o cap sz:Nat}{cur:Array Value}{ty:TypeId}{fz:Nat×Nat}{es:List (List PV)}(hh:w.heap[b]?=some (.cells cur ty fz))(cq:∀e∈es,e.length=sz)
  (hl:es.length<=cap) (hm:cap<=maxLen) (hp:Pw (ch w own) es.flatten ((cur.toList.drop o).take (es.length*sz))) (ho:¬own b):ch w own (.sl es) (.slice (some ⟨b,o,none⟩) es.length cap):=by
 obtain⟨f,hf⟩:=afj hp;refine .sl b o cap sz f (fun _=>ho) hl hm cq (fun j x hx=>?_) fun j x hx=>(hf j x hx).2;have h1:=(hf j x hx).1;rw[kJ] at h1;split at h1
 .rw[DK hh];simpa using h1
 cases h1
theorem Px{α:Type}:∀ {es:List (List α)},(∀e∈es,e.length=sz)->∀(n:Nat),(es.drop n).flatten=es.flatten.drop (n*sz):=by
 intro es
 induction es with
 |nil=>intro _ n;simp
 |cons e r ih=>
  intro h n;cases n with
  |zero=>simp
  |succ n=>simp only[List.drop_succ_cons,lQ];have h1:=h e af;rw[ih (fun x hx=>h x (by simp[hx])),aih,Se (by rw[h1,fZ];omega:e.length<=(n+1)*sz),fY];congr 1;rw[h1,fZ];omega
theorem IW{α:Type}:∀ {es:List (List α)},(∀e∈es,e.length=sz)->∀(n:Nat),(es.take n).flatten=es.flatten.take (n*sz):=by
 intro es
 induction es with
 |nil=>intro _ n;simp
 |cons e r ih=>
  intro h n;cases n with
  |zero=>simp
  |succ n=>simp only[YE,lQ];have h1:=h e af;rw[ih (fun x hx=>h x (by simp[hx])),OH,fR (by rw[h1,fZ];omega:e.length<=(n+1)*sz)];congr 1;congr 1;rw[h1,fZ];omega
theorem Fb{α:Type}{R:α->Value->Prop}{off len:Nat}{es:List (List α)}{cur:List Value}(cq:∀e∈es,e.length=sz)(h:Pw R es.flatten (cur.take (es.length*sz)))(hfit:off+len<=es.length):
  Pw R ((es.drop off).take len).flatten ((cur.drop (off*sz)).take (((es.drop off).take len).length*sz)):=by
 have Nt:∀e∈es.drop off,e.length=sz:=fun e he=>cq e (wa he);have hlen:((es.drop off).take len).length=len:=by simp;omega
 rw[hlen,IW Nt,Px cq];have h1:=(h.drop (off*sz)).take (len*sz);have h2:((cur.take (es.length*sz)).drop (off*sz)).take (len*sz)=(cur.drop (off*sz)).take (len*sz):=by
  rw[List.drop_take,HL];congr 1;have:off*sz+len*sz<=es.length*sz:=by rw[<- fZ];exact lR _ hfit
  omega
 rw[h2] at h1;exact h1
theorem XC{α:Type}{R:α->Value->Prop}:∀ {ps:List (List α)} {cur:List Value},(∀e∈ps,e.length=sz)->ps.length*sz<=cur.length->
  (∀(j:Nat) (e:List α),ps[j]?=some e->Pw R e ((cur.drop (j*sz)).take sz))->Pw R ps.flatten (cur.take (ps.length*sz)):=by
 intro ps
 induction ps with
 |nil=>intro cur _ _ _;exact⟨af,fun j x u a=>by simp at a⟩
 |cons e r ih=>
  intro cur h hl hp;simp only[dh,fZ,Lh] at hl;have h0:=hp 0 e rfl;rw[As,OA] at h0;have h1:=ih (cur:=cur.drop sz) (fun x hx=>h x (by simp[hx])) (by simp;omega) fun j x hx=>by have:=hp (j+1) x (by simpa using hx);rw[fZ,Lh] at this;rw[Yq,Ld sz];exact this
  have h2:=h0.append h1;have h3:cur.take sz++(cur.drop sz).take (r.length*sz)=cur.take ((e::r).length*sz):=by rw[dh,fZ,Lh,Ld,List.take_add]
  rw[h3] at h2;exact h2
theorem Vv{α:Type}{R:α->Value->Prop}{i:Nat}{es:List (List α)}{e:List α}{cur:List Value}(cq:∀e∈es,e.length=sz)(h:Pw R es.flatten (cur.take (es.length*sz)))(he:es[i]?=some e):
  Pw R e ((cur.drop (i*sz)).take sz):=by
 have hi:i<es.length:=(aW.1 he).1;have h1:=Fb (off:=i) (len:=1) cq h aa;have h0:((es.drop i).take 1)=[e]:=by rw[Yr hi];have:=(aW.1 he).2;simp[this]
 rw[h0] at h1
 simpa using h1
theorem S9{α β:Type}{f:α->Option (β×List Nat)}:∀ {xs:List α} {ys:List β} {r:List Nat},collect f xs=some (ys,r)->ys.length=xs.length:=by
 intro xs
 induction xs with
 |nil=>intro ys r h;simp[collect] at h;rw[h.1];rfl
 |cons x t ih=>
  intro ys r h;simp only[collect] at h;split at h
  .rename_i b p bs q e1 e2;cases h;simp[ih e2]
  cases h
theorem S8{α β:Type}{f:α->Option (β×List Nat)}:∀ {xs:List α} {ys:List β} {r:List Nat},collect f xs=some (ys,r)->∀ {j:Nat} {y:β},ys[j]?=some y->∃x q,xs[j]?=some x/\f x=some (y,q)/\ ∀i∈q,i∈r:=by
 intro xs
 induction xs with
 |nil=>intro ys r h j y hy;simp[collect] at h;rw[h.1] at hy;simp at hy
 |cons x t ih=>
  intro ys r h j y hy;simp only[collect] at h;split at h
  .rename_i b p bs q e1 e2;cases h;cases j with
   |zero=>simp at hy;subst hy;exact⟨x,p,rfl,e1,fun i hi=>by simp[hi]⟩
   |succ j=>simp at hy;obtain⟨x',q',h1,h2,h3⟩:=ih e2 hy;exact⟨x',q',by simpa using h1,h2,fun i hi=>by simp[h3 i hi]⟩
  cases h
theorem KE{m:Mem}(aq:Ok w0 m){own:Nat->Prop}:∀(n:Nat) {c:C} {x:PV} {r:List Nat} {v:Value},snap m.aj n c=some (x,r)->cY m c v->pS m own r->ch m.w own x v:=by
 intro n
 induction n with
 |zero=>intro c x r v h;simp[snap] at h
 |succ n ih=>
  intro c x r v h hr hs;have PM:∀ {cs:List C} {ps:List PV} {q:List Nat} {vs:List Value},collect (snap m.aj n) cs=some (ps,q)->pS m own q->Pw (cY m) cs vs->Pw (ch m.w own) ps vs:=fun h1 h2 h3=>Is (R:=cY m) (T:=ch m.w own) (eF:=pS m own) (fun a b h=>h.app) (fun a b r v e1 e2 e3=>ih e1 e2 e3) h1 h2 h3
  have PY:∀ {ps:List PV} {vs:List Value},dj m.w m.own ps vs->Pw (ch m.w own) ps vs:=fun h=>dj.pw.1 (h.less hs.1);unfold snap at h;cases c with
  |p y=>simp at h;obtain⟨rfl,rfl⟩:=h;obtain⟨hp⟩:=hr;exact hp.norm.less hs.1
  |aY id g off=>
   cases hr with
   |aY a hg ha=>
    simp only at h;split at h
    .rename_i g' cs hb;split at h
     .rename_i iG;split at h
      .rename_i ps q hq;cases h;have bn:(m.aj id).2=some (.var cs):=by rw[hb]
       have ha:=ha (by rw[hb];exact iG) (by rw[bn];rfl);subst ha;obtain⟨cur,ty,hh,hc⟩:=aq.obj id _ bn;have hp:=PM hq ⟨hs.1,fun i hi=>hs.2 i (by simp[hi])⟩ (dq.pw.1 hc);refine Xa hh ?_ fun _=>hs.2 id af;have h1:=hp.drop off;have h2:(cur.toList.drop off).take (ps.drop off).length=cur.toList.drop off:=fR (by have:=h1.1;omega);rw[h2];exact h1
      cases h
     cases h
    .rename_i g' ps hb;split at h
     .rename_i iG;cases h;have bn:(m.aj id).2=some (.fvar ps):=by rw[hb]
      have ha:=ha (by rw[hb];exact iG) (by rw[bn];rfl);subst ha;obtain⟨cur,ty,fz,hh,hc,_⟩:=aq.obj id _ bn;refine Xa hh ?_ fun _=>hs.2 id af;have h1:=(PY hc).drop off;have h2:(cur.toList.drop off).take (ps.drop off).length=cur.toList.drop off:=fR (by have:=h1.1;omega);rw[h2];exact h1
     cases h
    cases h
  |dB id g i off=>
   cases hr with
   |dB a hg ha=>
    have key:∀(ty sz:Nat) (es:List (List PV)) (e:List PV) (cur:Array Value) (fz:Nat×Nat),m.w.heap[m.σ id]?=some (.cells cur ty fz)->(∀e∈es,e.length=sz)->es.length*sz<=cur.size->
      dj m.w m.own es.flatten (cur.toList.take (es.length*sz))->es[i]?=some e->a=⟨m.σ id,i*sz+off,none⟩-> ¬own (m.σ id)->ch m.w own (.box (e.drop off)) (.pointer (some a)):=by
     intro ty sz es e cur fz hh cq hlen dz he wN dk;subst wN;have dB:=Mm cq he;have hi:i<es.length:=(aW.1 he).1;have ye:(i+1)*sz<=es.length*sz:=lR _ hi;have h1:=(Fb (off:=i) (len:=1) cq (PY dz) aa).drop off;have h0:((es.drop i).take 1)=[e]:=by rw[Yr hi];have:=(aW.1 he).2;simp[this]
     rw[h0] at h1;simp only[lQ,HE,jP,dh,ez,iQ,Lh] at h1;refine Xa hh ?_ fun _=>dk;have h2:(cur.toList.drop (i*sz+off)).take (e.drop off).length=(((cur.toList.drop (i*sz)).take sz).drop off):=by rw[List.drop_take,Yq,jy,dB]
     rw[h2];exact h1
    simp only at h;split at h
    .rename_i g' ty sz es hb;split at h
     .rename_i iG;simp only[dE,kB] at h;obtain⟨e,he,rfl,rfl⟩:=h;have bn:(m.aj id).2=some (.arr ty sz es):=by rw[hb]
      obtain⟨cur,hh,pG,cq,hl,hm,de,dz⟩:=aq.obj id _ bn;exact key ty sz es e cur _ hh cq (by rw[de];exact lR _ hl) dz he (ha sz (by rw[hb];exact iG) (by rw[hb];rfl)) (hs.2 id af)
     cases h
    .rename_i g' ty sz es hb;split at h
     .rename_i iG;simp only[dE,kB] at h;obtain⟨e,he,rfl,rfl⟩:=h;have bn:(m.aj id).2=some (.oR ty sz es):=by rw[hb]
      obtain⟨cur,fz,hh,pG,cq,hl,hm,de,dz,_⟩:=aq.obj id _ bn;exact key ty sz es e cur _ hh cq (by rw[de];exact lR _ hl) dz he (ha sz (by rw[hb];exact iG) (by rw[hb];rfl)) (hs.2 id af)
     cases h
    cases h
  |hsl id g z off len=>
   cases hr with
   |hsl a cap hg hl hm ha=>
    have key:∀(ty sz:Nat) (es:List (List PV)) (cur:Array Value) (fz:Nat×Nat),m.w.heap[m.σ id]?=some (.cells cur ty fz)->(∀e∈es,e.length=sz)->Pw (ch m.w own) es.flatten (cur.toList.take (es.length*sz))->
      off+len<=es.length->(off=0\/0<len->a=⟨m.σ id,off*sz,none⟩)-> ¬own (m.σ id)->ch m.w own (.sl ((es.drop off).take len)) (.slice (some a) len cap):=by
     intro ty sz es cur fz hh cq dz hfit wN dk;by_cases hlen:len=0
     .subst hlen;simp only[List.take_zero];exact .yE _ _ (fun h=>by cases h) hm
     have:=wN (.inr aa);subst this;have hle:((es.drop off).take len).length=len:=by simp;omega
     have h1:=afl (cap:=cap) (own:=own) (o:=off*sz) (es:=(es.drop off).take len) hh (sz:=sz) (fun e he=>cq e (wa (xv he))) aa hm (Fb cq dz hfit) dk;rw[hle] at h1;exact h1
    simp only at h;split at h
    .rename_i g' ty sz es hb;split at h
     .rename_i hc;cases h;have bn:(m.aj id).2=some (.arr ty sz es):=by rw[hb]
      obtain⟨cur,hh,pG,cq,vt,oZ,de,dz⟩:=aq.obj id _ bn;exact key ty sz es cur _ hh cq (PY dz) hc.2 (by obtain⟨_,h2,_⟩:=ha sz (by rw[hb];exact hc.1) (by rw[hb];rfl);rename_i e1 _;exact e1▸h2) (hs.2 id af)
     cases h
    .rename_i g' ty sz es hb;split at h
     .rename_i hc;cases h;have bn:(m.aj id).2=some (.oR ty sz es):=by rw[hb]
      obtain⟨cur,fz,hh,pG,cq,vt,oZ,de,dz,_⟩:=aq.obj id _ bn;exact key ty sz es cur _ hh cq (PY dz) hc.2 (by obtain⟨_,h2,_⟩:=ha sz (by rw[hb];exact hc.1) (by rw[hb];rfl);exact h2) (hs.2 id af)
     cases h
    .rename_i g' ty sz es hb;split at h
     .rename_i hc;split at h
      .rename_i ps q hq;cases h;have bn:(m.aj id).2=some (.iI ty sz es):=by rw[hb]
       obtain⟨cur,hh,pG,cq,vt,oZ,de,dz⟩:=aq.obj id _ bn;have Wx:=Fb cq (dq.pw.1 dz) hc.2;have Nt:∀e∈(es.drop off).take len,e.length=sz:=fun e he=>cq e (wa (xv he));have hle:((es.drop off).take len).length=len:=by simp;omega
       have bU:ps.length=len:=by rw[S9 hq,hle]
       have k8:len*sz<=(cur.toList.drop (off*sz)).length:=by
        simp;have h1:off*sz+len*sz<=es.length*sz:=by rw[<- fZ];exact lR _ hc.2
        have h2:es.length*sz<=m.κ id*sz:=lR _ vt;omega
       have nV:∀(j:Nat) (e:List PV),ps[j]?=some e->Pw (ch m.w own) e (((cur.toList.drop (off*sz)).drop (j*sz)).take sz):=by intro j e he;obtain⟨x,q',h1,h2,h3⟩:=S8 hq he;exact PM h2 ⟨hs.1,fun i hi=>hs.2 i (by simp[h3 i hi])⟩ (Vv Nt Wx h1)
       have Ez:∀e∈ps,e.length=sz:=by
        intro e he;obtain⟨j,hj⟩:=je he;have:=(nV j e hj).1;have nO:j<len:=by rw[<- bU];exact(aW.1 hj).1
        have h1:(j+1)*sz<=len*sz:=lR _ nO;rw[fZ] at h1;simp at this k8;omega
       by_cases hlen:len=0
       .have:ps=[]:=avJ aa;subst this;subst hlen;exact .yE _ _ (fun h=>by cases h) hm
       obtain⟨_,h2,_⟩:=ha sz (by rw[hb];exact hc.1) (by rw[hb];rfl);rename_i e1 _;have wN:=h2 (.inr aa);subst wN;have zE:=afl (cap:=cap) (own:=own) (o:=off*sz) hh Ez aa hm (XC Ez (by rw[bU];exact k8) nV) (hs.2 id af);rw[bU] at zE;exact zE
      cases h
     cases h
    cases h
  |jW id g=>
   cases hr with
   |jW r' hg ha=>
    have key:∀(ag:Bool) (es:List (PV×List PV)) (ents:Array MapEntry) (clock:Nat),m.w.heap[m.σ id]?=some (.map ents clock)->ents.size=es.length->
      (∀(i:Nat) (q:PV) (v:List PV) (e:MapEntry),es[i]?=some (q,v)->ents[i]?=some e->ch m.w m.own q e.key/\ ∃g:Array Value,(ag=true->e.val=.agg g)/\(ag=false-> #[e.val]=g)/\dj m.w m.own v g.toList)->
      ¬own (m.σ id)->ch m.w own (.mp ag es) (.map (some (m.σ id))):=by
     intro ag es ents clock hh hl hc dk;have hch:∃G:Nat->Array Value,∀(i:Nat) (q:PV) (v:List PV) (e:MapEntry),es[i]?=some (q,v)->ents[i]?=some e->(ag=true->e.val=.agg (G i))/\(ag=false-> #[e.val]=G i)/\dj m.w m.own v (G i).toList:=by
      refine⟨fun i=>match ents[i]? with|some e=>(match e.val with| .agg g=>if ag then g else #[e.val]|v=> #[v])|none=> #[],fun i q v e h1 h2=>?_⟩;obtain⟨_,g,g1,g2,g3⟩:=hc i q v e h1 h2;simp only[h2];cases ag with
      |true=>have:=g1 rfl;simp[this];exact g3
      |false=>
       have:=g2 rfl;subst this;refine⟨(fun h=>by cases h),(fun _=>?_),?_⟩
       .cases e.val<;>rfl
       cases hv:e.val<;>simp only[hv] at g3<;>exact g3
     obtain⟨G,hG⟩:=hch;refine .mp (m.σ id) ents clock G dk hh hl (fun i q v e h1 h2=>((hc i q v e h1 h2).1).less hs.1) (fun i q v e h1 h2=>?_) fun i q v j x u h1 h2 h3=>?_
     .obtain⟨a1,a2,a3⟩:=hG i q v e h1 h2;exact⟨by have:=a3.1;simpa using this,a1,a2⟩
     have au:i<ents.size:=by rw[hl];exact(aW.1 h1).1
     obtain⟨a1,a2,a3⟩:=hG i q v _ h1 (Array.getElem?_eq_getElem au);exact(a3.2 j x u h2 (by rw[HA];exact h3)).less hs.1
    simp only at h;split at h
    .rename_i g' ag es hb;split at h
     .rename_i iG;cases h;have bn:(m.aj id).2=some (.map ag es):=by rw[hb]
      have ha:=ha (by rw[hb];exact iG) (by rw[bn];rfl);subst ha;obtain⟨ents,clock,hh,hl,hc⟩:=aq.obj id _ bn;exact key ag es ents clock hh hl hc (hs.2 id af)
     cases h
    .rename_i g' ag es hb;split at h
     .rename_i iG;cases h;have bn:(m.aj id).2=some (.fmap ag es):=by rw[hb]
      have ha:=ha (by rw[hb];exact iG) (by rw[bn];rfl);subst ha;obtain⟨ents,clock,hh,hl,hc,_⟩:=aq.obj id _ bn;exact key ag es ents clock hh hl hc (hs.2 id af)
     cases h
    cases h
  |hfn f a b=>
   cases hr with
   |hfn A B hA hB vB qQ=>
    simp only at h;split at h
    .rename_i xa ra xb rb h1 h2;cases h;obtain⟨s1,s2⟩:=hs.app;have p1:=PM (vs:=A.toList) h1 s1 ⟨by simpa using hA,fun j x u p q=>vB j x u p (by rw[<- HA];exact q)⟩;have p2:=PM (vs:=B.toList) h2 s2 ⟨by simpa using hB,fun j x u p q=>qQ j x u p (by rw[<- HA];exact q)⟩;exact .fn A B (by have:=p1.1;simpa using this) (by have:=p2.1;simpa using this) (fun j x u p q=>p1.2 j x u p (by rw[HA];exact q)) fun j x u p q=>p2.2 j x u p (by rw[HA];exact q)
    cases h
end
end Go.Abs
namespace Go.Abs
variable {P:Program} {w0:World}
theorem amN{aj:aA}{all:List Nat}:∀ {l:List Nat} {u:List eK},uy aj all l=some u->
  (∀e∈u,e.1∈l/\ ∃x,xK aj all e.1=some x/\e∈x)/\ ∀id∈l,∃x,xK aj all id=some x/\ ∀e∈x,e∈u:=by
 intro l
 induction l with
 |nil=>intro u h;simp[uy] at h;subst h;exact⟨fun e h=>by simp at h,fun id h=>by simp at h⟩
 |cons i r ih=>
  intro u h;simp only[uy] at h;split at h
  .rename_i a b h1 h2;cases h;obtain⟨g1,g2⟩:=ih h2;have ac6:∀e∈a,e.1=i:=by
    intro e he;unfold xK at h1;split at h1<;>first
     |(cases h1;simp at he;subst he;rfl)
     |(split at h1
       .split at h1
        .cases h1;simp at he;subst he;rfl
        cases h1
       cases h1)
     |(cases h1;simp at he)
     |cases h1
   refine⟨fun e he=>?_,fun id hid=>?_⟩
   .rcases eD.1 he with he|he
    .exact⟨by simp[ac6 e he],a,by rw[ac6 e he];exact h1,he⟩
    obtain⟨k1,k2⟩:=g1 e he;exact⟨by simp[k1],k2⟩
   rcases cM.1 hid with rfl|hid
   .exact⟨a,h1,fun e he=>by simp[he]⟩
   obtain⟨x,k1,k2⟩:=g2 id hid;exact⟨x,k1,fun e he=>by simp[k2 e he]⟩
  cases h
def HP(aj:aA)(all:List Nat):Ob->Ob->Prop
 | .var cs,.fvar ps=>∃r,collect (snap aj fM) cs=some (ps,r)/\ ∀i∈r,i∈all
 | .arr ty sz es,.oR jN bN kY=>jN=ty/\bN=sz/\kY=es
 | .iI ty sz es,.oR jN bN ps=>jN=ty/\bN=sz/\ ∃r,collect (collect (snap aj fM)) es=some (ps,r)/\ ∀i∈r,i∈all
 | .map ag es,.fmap rq kY=>rq=ag/\kY=es
 |_,_=>False
theorem HP.facts{aj:aA}{all:List Nat}{o o':Ob}(h:HP aj all o o')(g:Nat):o.fA=true/\o'.fA=false/\kI (g,some o')=kI (g,some o):=by
 cases o<;>cases o'<;>simp only[HP] at h<;>first
  |exact h.elim
  |exact⟨rfl,rfl,rfl⟩
  |exact⟨rfl,rfl,by simp[kI,h.2.1]⟩
theorem acq{aj:aA}{all:List Nat}{id:Nat}{x:List eK}(h:xK aj all id=some x):
  (∃o,(aj id).2=some o/\o.fA=false/\x=[])\/ ∃o o',(aj id).2=some o/\HP aj all o o'/\x=[(id,((aj id).1,some o'))]:=by
 unfold xK at h;split at h
 .rename_i g cs hb;split at h
  .rename_i ps r hc;split at h
   .rename_i dM;cases h;refine .inr ⟨.var cs,.fvar ps,by rw[hb],⟨r,hc,fun i hi=>?_⟩,by rw[hb]⟩;have:=jd.1 dM i hi
    simpa using this
   cases h
  cases h
 .rename_i g ty sz es hb;cases h;exact .inr ⟨.arr ty sz es,.oR ty sz es,by rw[hb],⟨rfl,rfl,rfl⟩,by rw[hb]⟩
 .rename_i g ty sz es hb;split at h
  .rename_i ps r hc;split at h
   .rename_i dM;cases h;refine .inr ⟨.iI ty sz es,.oR ty sz ps,by rw[hb],⟨rfl,rfl,r,hc,fun i hi=>?_⟩,by rw[hb]⟩;have:=jd.1 dM i hi
    simpa using this
   cases h
  cases h
 .rename_i g ag es hb;cases h;exact .inr ⟨.map ag es,.fmap ag es,by rw[hb],⟨rfl,rfl⟩,by rw[hb]⟩
 .cases h
 rename_i y n1 n2 n3 n4 n5;cases h;cases hb:aj id with
 |mk g o=>
  cases o with
  |none=>exact(n5 g hb).elim
  |some o=>
   refine .inl ⟨o,rfl,?_,rfl⟩;cases o with
   |var cs=>exact(n1 g cs hb).elim
   |arr ty sz es=>exact(n2 g ty sz es hb).elim
   |iI ty sz es=>exact(n3 g ty sz es hb).elim
   |map ag es=>exact(n4 g ag es hb).elim
   |_=>rfl
def Mem.with(m:Mem)(u:List eK):Mem:={m with aj:=app u m.aj}
theorem wJ{m:Mem}{ids:List Nat}{u:List eK}(h:sA m.aj ids=some u)(id:Nat):
  ((m.with u).aj id=m.aj id/\(id∈ids->∃o,(m.aj id).2=some o/\o.fA=false))\/
  (id∈ids/\ ∃o o',(m.aj id).2=some o/\HP m.aj ids o o'/\(m.with u).aj id=((m.aj id).1,some o')):=by
 obtain⟨h1,h2⟩:=amN h;rcases ajg u m.aj id with ⟨e1,e2⟩|⟨e,he,e1,e2⟩
 .refine .inl ⟨e1,fun hid=>?_⟩;obtain⟨x,hx,hxu⟩:=h2 id hid;rcases acq hx with ⟨o,a,b,_⟩|⟨o,o',a,b,c⟩
  .exact⟨o,a,b⟩
  exact(e2 (id,(m.aj id).fst,some o') (hxu _ (by rw[c];simp)) rfl).elim
 obtain⟨k1,x,k2,k3⟩:=h1 e he;rw[e1] at k1 k2;rcases acq k2 with ⟨o,a,b,c⟩|⟨o,o',a,b,c⟩
 .rw[c] at k3;simp at k3
 rw[c] at k3;simp at k3;refine .inr ⟨k1,o,o',a,b,?_⟩;simp only[Mem.with];rw[e2,k3]
theorem VE{m:Mem}{ids:List Nat}{u:List eK}(h:sA m.aj ids=some u){c:Nat}(hc:(m.with u).own c):m.own c:=by
 rcases hc with hc|⟨id,o,h1,h2,h3⟩
 .exact .inl hc
 rcases wJ h id with ⟨e,_⟩|⟨_,p,q,a,b,e⟩
 .rw[e] at h1;exact .inr ⟨id,o,h1,h2,h3⟩
 rw[e] at h1;cases h1;rw[(b.facts 0).2.1] at h2;cases h2
theorem VF{m:Mem}(aq:Ok w0 m){ids:List Nat}{u:List eK}(h:sA m.aj ids=some u):pS m (m.with u).own ids:=by
 refine⟨fun b hb=>VE h hb,fun id hid hc=>?_⟩;rcases wJ h id with ⟨e,hn⟩|⟨_,o,o',a,b,e⟩
 .obtain⟨o,ho,hm⟩:=hn hid;exact(aq.obj id o ho).calm hm (VE h hc)
 rcases hc with hc|⟨eT,q,h1,h2,h3⟩
 .exact(aq.gb id o a (b.facts 0).1).2 hc
 by_cases hi:eT=id
 .subst hi;rw[e] at h1;cases h1;rw[(b.facts 0).2.1] at h2;cases h2
 rcases wJ h eT with ⟨e',_⟩|⟨_,p',q',a',b',e'⟩
 .rw[e'] at h1;exact hi (aq.inj eT id q o h1 h2 a (b.facts 0).1 h3)
 rw[e'] at h1;cases h1;rw[(b'.facts 0).2.1] at h2;cases h2
theorem VC{m:Mem}{ids:List Nat}{u:List eK}(h:sA m.aj ids=some u):Ev m (m.with u) where
 os:=rfl
 tape:=rfl
 output:=rfl
 size:=bJ _
 keep _ _ _:=rfl
 fA c _ hc:=by
  obtain⟨id,o,h1,h2,h3⟩:=hc;rcases wJ h id with ⟨e,_⟩|⟨_,p,q,a,b,e⟩
  .rw[e] at h1;exact⟨id,o,h1,h2,h3⟩
  rw[e] at h1;cases h1;rw[(b.facts 0).2.1] at h2;cases h2
 less c _ hn hc:=hn (VE h hc)
 gen id:=by rcases wJ h id with ⟨e,_⟩|⟨_,p,q,a,b,e⟩<;>rw[e]<;>exact bJ _
 ref id he hs:=by
  rcases wJ h id with ⟨e,_⟩|⟨_,p,q,a,b,e⟩
  .rw[e] at hs ⊢;exact⟨hs,rfl,rfl,rfl⟩
  rw[e] at hs ⊢;refine⟨by rw[a];rfl,rfl,rfl,?_⟩;have h1:m.aj id=((m.aj id).1,some p):=by rw[<- a]
  rw[(b.facts (m.aj id).1).2.2,<- h1]
theorem acr{m:Mem}(aq:Ok w0 m){ids:List Nat}{u:List eK}(h:sA m.aj ids=some u):Ok w0 (m.with u) where
 os:=aq.os
 tape:=aq.tape
 output:=aq.output
 size:=aq.size
 base:=aq.base
 obj id o ho:=by
  have dQ:=VC h;have nW:=VF aq h;rcases wJ h id with ⟨e,_⟩|⟨hid,p,q,a,b,e⟩
  .rw[e] at ho;exact(aq.obj id o ho).ev dQ.zero rfl rfl rfl
  rw[e] at ho;cases ho;have dk:=nW.2 id hid;have Qi:∀r:List Nat,(∀i∈r,i∈ids)->pS m (m.with u).own r:=fun r hr=>⟨nW.1,fun i hi=>nW.2 i (hr i hi)⟩;have Qf:=aq.obj id p a;cases p<;>cases o<;>simp only[HP] at b<;>first
   |exact b.elim
   |skip
  .obtain⟨r,hc,hr⟩:=b;obtain⟨cur,ty,hh,de⟩:=Qf;exact⟨cur,ty,(0,0),hh,dj.pw.2 (Is (R:=cY m) (T:=ch m.w (m.with u).own) (eF:=pS m (m.with u).own) (fun a b h=>h.app) (fun a b r v e1 e2 e3=>KE aq _ e1 e2 e3) hc (Qi r hr) (dq.pw.1 de)),dk⟩
  .obtain⟨rfl,rfl,rfl⟩:=b;obtain⟨cur,hh,pG,cq,hl,hm,de,dz⟩:=Qf;exact⟨cur,(0,0),hh,pG,cq,hl,hm,de,dz.less nW.1,dk⟩
  .obtain⟨rfl,rfl,r,hc,hr⟩:=b;obtain⟨cur,hh,pG,cq,hl,hm,de,dz⟩:=Qf;rename_i es _ sz ps;have bU:ps.length=es.length:=S9 hc;have k8:ps.length*sz<=cur.toList.length:=by
    have h2:es.length*sz<=m.κ id*sz:=lR _ hl;simp;rw[bU];omega
   have nV:∀(j:Nat) (e:List PV),ps[j]?=some e->Pw (ch m.w (m.with u).own) e ((cur.toList.drop (j*sz)).take sz):=by intro j e he;obtain⟨x,q',h1,h2,h3⟩:=S8 hc he;exact Is (R:=cY m) (T:=ch m.w (m.with u).own) (eF:=pS m (m.with u).own) (fun a b h=>h.app) (fun a b r v e1 e2 e3=>KE aq _ e1 e2 e3) h2 (Qi q' fun i hi=>hr i (h3 i hi)) (Vv cq (dq.pw.1 dz) h1)
   have Ez:∀e∈ps,e.length=sz:=by intro e he;obtain⟨j,hj⟩:=je he;have:=(nV j e hj).1;have nO:j<ps.length:=(aW.1 hj).1;have h1:(j+1)*sz<=ps.length*sz:=lR _ nO;rw[fZ] at h1;simp at this k8;omega
   exact⟨cur,(0,0),hh,pG,Ez,by rw[bU];exact hl,hm,de,dj.pw.2 (XC Ez k8 nV),dk⟩
  obtain⟨rfl,rfl⟩:=b;obtain⟨ents,clock,hh,hl,hc⟩:=Qf;exact⟨ents,clock,hh,hl,fun i q v e h1 h2=>let ⟨p,g,g1,g2,g3⟩:=hc i q v e h1 h2;⟨p.less nW.1,g,g1,g2,g3.less nW.1⟩,dk⟩
 gb id o ho hm:=by
  rcases wJ h id with ⟨e,_⟩|⟨_,p,q,a,b,e⟩
  .rw[e] at ho;exact aq.gb id o ho hm
  rw[e] at ho;cases ho;rw[(b.facts 0).2.1] at hm;cases hm
 frlt:=aq.frlt
 inj id eT o o' h1 m1 h2 m2 he:=by
  rcases wJ h id with ⟨e,_⟩|⟨_,p,q,a,b,e⟩
  .rcases wJ h eT with ⟨e',_⟩|⟨_,p',q',a',b',e'⟩
   .rw[e] at h1;rw[e'] at h2;exact aq.inj id eT o o' h1 m1 h2 m2 he
   rw[e'] at h2;cases h2;rw[(b'.facts 0).2.1] at m2;cases m2
  rw[e] at h1;cases h1;rw[(b.facts 0).2.1] at m1;cases m1
end Go.Abs
namespace Go.Abs
variable {P:Program} {w0:World}
section
variable{w':World}
def Mem.kh(m:Mem)(w':World)(s c k:Nat)(o:Ob):Mem:=(m.later w' (· =c)).install s c k o
section
variable {m:Mem} {w':World} {s c k:Nat} {o:Ob} (hg:fy m.w w') (iC:m.w.heap.size<=c) (oY:c<w'.heap.size)
theorem IZ(aq:Ok w0 m)(iC:m.w.heap.size<=c):(m.kh w' s c k o).fr=m.fr:=by
 funext x;simp only[Mem.kh,Mem.install,Mem.later];apply propext;constructor
 .rintro ⟨h|h,h2⟩
  .exact h
  exact(h2 h).elim
 intro h;exact⟨.inl h,fun e=>by have:=aq.frlt x h;omega⟩
include hg iC
theorem IY:Ev m (m.kh w' s c k o):=Qp (JQ hg fun x hx=>by subst hx;exact iC) (.inr rfl) (.inl iC)
include oY
theorem I0(aq:Ok w0 m)(ho:tn (m.kh w' s c k o) s o):Ok w0 (m.kh w' s c k o):=Qq (NH aq hg fun x hx=>by subst hx;exact⟨iC,oY⟩) (.inr rfl) (mT aq.size iC) ho
end
theorem DV{m:Mem}{s c k:Nat}{o:Ob}:(m.kh w' s c k o).σ s=c:=by simp[Mem.kh,Mem.install,aN]
theorem qc{m:Mem}{s c k:Nat}{o:Ob}:(m.kh w' s c k o).κ s=k:=by simp[Mem.kh,Mem.install,aN]
theorem Vy{m:Mem}{s c k:Nat}{o:Ob}:(m.kh w' s c k o).aj=app [(s,((m.aj s).1+1,some o))] m.aj:=rfl
theorem Vz{m:Mem}{s c k:Nat}{o:Ob}:(m.kh w' s c k o).w=w':=rfl
theorem Mg{m:Mem}{s c cap ty sz:Nat}{es:List (List PV)}{n:Nat}(hn:n<=cap)(hm:cap<=maxLen):
  bK (m.kh w' s c cap (.arr ty sz es)) (.one (.hsl s ((m.aj s).1+1) sz 0 n)) (.slice (some ⟨c,0,none⟩) n cap):=by
 refine bK.one.2 (.hsl _ _ ?_ hn hm fun z h1 h2=>?_)
 .simp[Mem.kh,Mem.install,Mem.later,aN]
 have:kI ((m.kh w' s c cap (.arr ty sz es)).aj s)=some sz:=by simp[Mem.kh,Mem.install,aN,kI]
 rw[this] at h2;cases h2;refine⟨rfl,fun _=>?_,by rw[iQ];exact qc.symm⟩;rw[DV,As]
theorem amH{m:Mem}{s c cap ty sz:Nat}{es:List (List C)}{n:Nat}(hn:n<=cap)(hm:cap<=maxLen):
  bK (m.kh w' s c cap (.iI ty sz es)) (.one (.hsl s ((m.aj s).1+1) sz 0 n)) (.slice (some ⟨c,0,none⟩) n cap):=by
 refine bK.one.2 (.hsl _ _ ?_ hn hm fun z h1 h2=>?_)
 .simp[Mem.kh,Mem.install,Mem.later,aN]
 have:kI ((m.kh w' s c cap (.iI ty sz es)).aj s)=some sz:=by simp[Mem.kh,Mem.install,aN,kI]
 rw[this] at h2;cases h2;refine⟨rfl,fun _=>?_,by rw[iQ];exact qc.symm⟩;rw[DV,As]
theorem Pa{t e:TypeId}{sz bytes:Nat}{z:List PV}(h:AP P t=some (e,sz,bytes,z)):
  ∃i v,P.underlying t=some (.slice e)/\P.info? e=some i/\i.size=sz/\i.bytes=bytes/\(0<sz/\0<bytes)/\i.zero=some v/\v.cells.size=sz/\z.length=sz/\ ∀w own,dj w own z v.cells.toList:=by
 unfold AP at h;split at h
 .rename_i e' ht;split at h
  .rename_i i z' hi hz;split at h
   .rename_i gE;cases h;obtain⟨v,i',h1,h2,h3,h4,h5⟩:=Ox hz;rw[hi] at h1;cases h1;exact⟨i,v,ht,hi,rfl,rfl,gE,h2,h3,h4,h5⟩
   cases h
  cases h
 cases h
theorem apZ{R:PV->Value->Prop}{z:List PV}{v:Array Value}{sz n:Nat}(hz:Pw R z v.toList)(cq:v.size=sz)(gE:0<sz):
  Pw R (List.replicate n z).flatten ((madeCells v (n*sz)).toList.take (n*sz)):=by
 have mf:z.length=sz:=by have:=hz.1;simp at this;omega
 have dM:∀e∈List.replicate n z,e.length=sz:=fun e he=>by rw[Sf he];exact mf
 have hlen:(madeCells v (n*sz)).toList.length=n*sz:=by simp[size_madeCells]
 rw[fR aa];refine⟨by rw[hlen,F0 dM];simp,fun j x u p q=>?_⟩;have hj:j<n*sz:=by have:=(aW.1 q).1;omega
 have hdiv:j/sz<n:=by rw[Nat.div_lt_iff_lt_mul gE];exact hj
 have Jt:j%sz<sz:=dO _ gE;have he:(List.replicate n z)[j/sz]?=some z:=by simp[hdiv]
 have h1:=FZ dM he Jt;rw[show j/sz*sz+j%sz=j by rw[Sm];exact aiv j sz] at h1;rw[h1] at p;have h2:(madeCells v (n*sz)).toList[j]?=some v[j%sz]! :=by unfold madeCells;simp[hj,cq]
 rw[h2] at q;cases q;refine hz.2 (j%sz) x _ p ?_;have:j%sz<v.size:=aa;simp[this]
section
variable {m:Mem} {ak:Env} {a:Act} {o:Oper} (aq:Ok w0 m) (hr:iS m ak a.tmps)
include aq hr
theorem atA{t e:TypeId}{l c:Operand}{l' c':aR}{s sz bytes n:Nat}{z:List PV}(ho:o.op=.makeSlice t l c)(he:AP P t=some (e,sz,bytes,z))(hl:cF l=some l')(hc:cF c=some c')
  (hn:oN (ev ak l')=some n) (hm:oN (ev ak c')=some n) (kx:n*bytes<=room):
  fE P w0 a.eval o m (.one (.hsl s ((m.aj s).1+1) sz 0 n)) [(s,((m.aj s).1+1,some (.arr e sz (List.replicate n z))))]:=by
 obtain⟨i,v,ht,hi,hs,hb,⟨gE,Gc⟩,hz,qR,mf,dz⟩:=Pa he;obtain⟨k1,h1⟩:=yW hn (eB hl hr);obtain⟨k2,h2⟩:=yW hm (eB hc hr);unfold room at kx;have We:n<=maxLen:=by have:n<=n*bytes:=OJ _ Gc;simp only[maxLen];omega
 have an0:(n:Int)<=9223372036854775807:=by simp[maxLen] at We;omega
 have uD:(i.bytes:Int)*(n:Int)<=281474976710656:=by
  have:((i.bytes*n:Nat):Int)<=281474976710656:=by rw[hb,Sm];omega
  rwa[Int.natCast_mul] at this
 have jF:=run_make (P:=P) m.w t e i v ht hi hz k1 k2 n n aa (Int.le_refl _) uD an0;simp only[vZ,hs] at jF
 let m':=m.kh (m.w.alloc (.cells (madeCells v.cells (n*sz)) e)) s m.w.heap.size n (.arr e sz (List.replicate n z))
 have dQ:Ev m m':=IY (fy.alloc _ _) (bJ _);have CO:tn m' s (.arr e sz (List.replicate n z)):=by
  refine⟨_,by rw[DV];exact heap_alloc_new m.w _,gE,fun x hx=>?_,?_,?_,?_,?_⟩
  .rw[Sf hx];exact mf
  .rw[qc];simp
  .rw[qc];exact We
  .rw[qc,size_madeCells]
  rw[Yx];exact dj.pw.2 (apZ (dj.pw.1 (dz _ _)) qR gE)
 refine⟨_,m',.inl ?_,I0 (fy.alloc _ _) (bJ _) af aq CO,dQ,IZ aq (bJ _),rfl,Mg (bJ _) We⟩;simp[execOp,ho,h1,h2,jF];rfl
theorem ZN{lo hi:Option Operand}{CZ uE:Option aR}{n cap l h:Nat}{b:Bool}(eG:xA lo=some CZ)(Eo:xA hi=some uE)(hl:ru ak 0 CZ=some l)(hh:ru ak n uE=some h)
  (Er:l<=h) (k8:h<=cap):(Instr.sliceBounds b n cap (lo.map a.eval) (hi.map a.eval) none).run P m.w=.ok (l,h,cap) m.w:=by
 have _u0:=aq;have nN:(match hi.map a.eval with|some v=>∃k,v=Value.int k (h:Int)|none=>h=n):=by
  cases hi with
  |none=>simp[xA] at Eo;subst Eo;simp[ru] at hh;simpa using hh.symm
  |some x=>simp only[xA,dE] at Eo;obtain⟨y,hy,rfl⟩:=Eo;exact yW hh (eB hy hr)
 have nQ:(match lo.map a.eval with|some v=>∃k,v=Value.int k (l:Int)|none=>l=0):=by
  cases lo with
  |none=>simp[xA] at eG;subst eG;simp[ru] at hl;simpa using hl.symm
  |some x=>simp only[xA,dE] at eG;obtain⟨y,hy,rfl⟩:=eG;exact yW hl (eB hy hr)
 generalize lo.map a.eval=LO at nQ;generalize hi.map a.eval=HI at nN;have iC:(h:Int)<=(cap:Int):=aa;have oY:(l:Int)<=(h:Int):=aa;cases LO with
 |none=>
  simp only at nQ;subst nQ;cases HI with
  |none=>simp only at nN;subst nN;simp[Instr.sliceBounds]
  |some v=>obtain⟨k,rfl⟩:=nN;simp[Instr.sliceBounds,Instr.sliceBound,asIntOf,k8]
 |some u=>
  obtain⟨k,rfl⟩:=nQ;cases HI with
  |none=>simp only at nN;subst nN;simp[Instr.sliceBounds,Instr.sliceBound,asIntOf,Er]
  |some v=>obtain⟨k',rfl⟩:=nN;simp[Instr.sliceBounds,Instr.sliceBound,asIntOf,k8,Er]
theorem atK{t:TypeId}{x:Operand}{lo hi:Option Operand}{x':aR}{CZ uE:Option aR}{s:ByteArray}{l h:Nat}(ho:o.op=.slice t x lo hi none)(ht:P.underlying t=some .string)
  (hx:cF x=some x') (eG:xA lo=some CZ) (Eo:xA hi=some uE) (hs:ev ak x'=.one (.p (.str s))) (hl:ru ak 0 CZ=some l) (hh:ru ak s.size uE=some h) (Er:l<=h) (k8:h<=s.size):
  fE P w0 a.eval o m (.one (.p (.str (s.extract l h)))) []:=by
 have h1:=eB hx hr;rw[hs] at h1;have hb:=ZN (P:=P) (w0:=w0) (aq:=aq) (hr:=hr) (b:=false) eG Eo hl hh Er k8;refine .calm aq ?_ (mh (.str _));simp[execOp,ho,NC h1,Instr.sliceAt,Instr.slice,run_underlying ht,hb]
theorem atJ{t e:TypeId}{x:Operand}{lo hi:Option Operand}{x':aR}{CZ uE:Option aR}{sz n l h:Nat}{v:V}(ho:o.op=.slice t x lo hi none)(ht:P.underlying t=some (.slice e))(cq:xj P e=some sz)
  (hx:cF x=some x') (eG:xA lo=some CZ) (Eo:xA hi=some uE) (hn:yw (ev ak x')=some n) (hl:ru ak 0 CZ=some l) (hh:ru ak n uE=some h)
  (hv:Dh (ev ak x') sz l h=.done v [] []):fE P w0 a.eval o m v []:=by
 have h1:=eB hx hr;unfold Dh at hv;split at hv
 .cases hv
 rename_i Er;have Er:l<=h:=by simpa using Er
 have run:∀(ad:Option Addr) (cap:Nat),a.eval x=.slice ad n cap->h<=cap->(execOp a.eval o).run P m.w=.ok (.value (.slice (if cap=l then ad else ad.map (·.add (l*sz))) (h-l) (cap-l))) m.w:=by intro ad cap jD k8;have hb:=ZN (P:=P) (w0:=w0) (aq:=aq) (hr:=hr) (b:=true) eG Eo hl hh Er k8;simp[execOp,ho,jD,Instr.sliceAt,Instr.slice,run_underlying ht,hb,Rq cq]
 obtain⟨ad0,cap0,hsl,hncap,nT⟩:=aeR (aq:=aq) (hr:=hr) hn h1;split at hv
 .rename_i he;split at hv
  .rename_i h0;cases hv;rw[he] at h1;have:=Qt h1;subst h0;have tK:l=0:=aa;subst tK;rw[this] at hsl;cases hsl;refine .calm aq (run none 0 this (bJ _)) ?_;simp;exact mh .nils
  cases hv
 .rename_i es he;split at hv
  .rename_i hc;cases hv;rw[he] at h1 hn;simp[yw] at hn;subst hn;obtain⟨hp⟩:cY m _ (a.eval x):=h1;generalize hb:a.eval x=b at hp;generalize fO:(PV.sl es)=pv at hp;cases hp<;>cases fO
   .rename_i ad cap vx hm;simp at hc;have hh0:h=0:=aa;subst hh0;have tK:l=0:=aa;subst tK;refine .calm aq (run ad cap hb (bl _)) (mh ?_);simp only[List.drop_nil,List.take_nil,Nat.sub_zero];refine .yE _ _ (fun h=>?_) hm;split at h
    .exact vx h
    cases ad with
    |none=>exact vx rfl
    |some ad=>simp at h
   rename_i b' o' cap bN f hm kQ vt tM tH CQ;refine .calm aq (run _ cap hb aa) (mh ?_);by_cases au:l=h
   .subst au;simp only[HO,List.take_zero];refine .yE _ _ (fun h=>?_) aa;split at h<;>simp at h
   have hlen:((es.drop l).take (h-l)).length=h-l:=by simp;omega
   have mK:es≠[]:=fun e=>by subst e;simp at hc;omega
   have WA:bN=sz:=by obtain⟨e0,r0,rfl⟩:=List.exists_cons_of_ne_nil mK;have g1:=tM e0 af;have g2:=hc.2;simp[gV] at g2;omega
   subst WA;rw[ay aa];simp only[mz,Addr.add_lit];have Bc:=ch.sl (w:=m.w) (own:=m.own) (es:=(es.drop l).take (h-l)) b' (o'+l*bN) (cap-l) bN (fun j=>f (l*bN+j)) (fun aI=>kQ fun e0=>aI ?_) aa aa (fun e he=>tM e (wa (xv he))) ?_ ?_
   .rw[hlen] at Bc;exact Bc
   .apply avJ;rw[IW (fun e he=>tM e (wa he)),Px tM,e0];simp
   .intro j z hz;rw[IW (fun e he=>tM e (wa he)),Px tM,kJ] at hz;split at hz
    .rw[xu] at hz;rw[HM];exact tH _ z hz
    cases hz
   intro j z hz;rw[IW (fun e he=>tM e (wa he)),Px tM,kJ] at hz;split at hz
   .rw[xu] at hz;exact CQ _ z hz
   cases hz
  cases hv
 .rename_i id g z off len he;split at hv
  .rename_i hc;cases hv;rw[he] at h1 hn;simp[yw] at hn;subst hn;have eI:cY m _ (a.eval x):=h1;generalize hb:a.eval x=b at eI;cases eI with
   |hsl ad cap hg uG hm MT=>
    refine .calm aq (run _ cap hb aa) ?_;have Wz:∃ad',(if cap=l then some ad else (some ad).map (·.add (l*sz)))=some ad'/\(cap≠l->ad'=ad.add (l*sz))/\(l=0->ad'=ad):=by
     by_cases bR:cap=l
     .exact⟨ad,by simp[bR],fun h=>(h bR).elim,fun _=>rfl⟩
     exact⟨ad.add (l*sz),by simp[bR],fun _=>rfl,fun h=>by subst h;simp[Addr.add]⟩
    obtain⟨ad',e1,e2,e3⟩:=Wz;rw[e1];refine bK.one.2 (.hsl _ _ hg aa aa fun s g1 g2=>?_);obtain⟨f1,f2,f3⟩:=MT s g1 g2;refine⟨f1,fun Bb=>?_,?_⟩
    .by_cases tK:l=0
     .subst tK;rw[e3 rfl,xw];refine f2 ?_;rcases Bb with h|h
      .exact .inl aa
      exact .inr aa
     have:0<h-l:=by rcases Bb with h|h<;>omega
     rw[e2 aa,f2 (.inr aa),Addr.add_lit,f1,hc.2,fZ]
    omega
  cases hv
 cases hv
end
end
end Go.Abs
namespace Go.Abs
variable {P:Program} {w0:World}
theorem amC(off:Nat):∀(vs:List Value) (i:Nat) (cells:Array Value),off+i+vs.length<=cells.size->
  ((vs.zipIdx i).foldl (fun cs (x:Value×Nat)=>cs.setIfInBounds (off+x.2) x.1) cells).toList=eO cells.toList (off+i) vs:=by
 intro vs
 induction vs with
 |nil=>intro i cells _;simp[eO]
 |cons v r ih=>
  intro i cells h;simp only[dh] at h;simp only[List.zipIdx_cons,Ap];rw[ih (i+1) _ (by simp;omega)];unfold eO;rw[Array.toList_setIfInBounds];have au:off+i<cells.toList.length:=by simp;omega
  have e1:(cells.toList.set (off+i) v).take (off+(i+1))=cells.toList.take (off+i)++[v]:=by rw[show off+(i+1)=(off+i)+1 by omega,ais (by simpa using au),List.take_set,aip (by simp;omega)];simp
  have e2:(cells.toList.set (off+i) v).drop (off+(i+1)+r.length)=cells.toList.drop (off+(i+1)+r.length):=by rw[List.drop_set_of_lt aa]
  rw[e1,e2];simp only[dh,yK,List.singleton_append];congr 3;omega
theorem ab2{place:Nat->Option (Nat×Nat)}{i off n:Nat}{v:Value}{rest:List (Nat×Value)}{cells:Array Value}(hp:place i=some (off,n))(hv:v.cells.size=n)(hfit:off+n<=cells.size):
  ∃j9,Instr.fill place cells ((i,v)::rest)=Instr.fill place j9 rest/\j9.toList=eO cells.toList off v.cells.toList:=by
 refine⟨v.cells.zipIdx.foldl (fun cs (x:Value×Nat)=>cs.setIfInBounds (off+x.2) x.1) cells,?_,?_⟩
 .simp only[Instr.fill,hp];rw[ay (by simp[hv];omega)]
 rw[<- aia,Array.toList_zipIdx,amC off v.cells.toList 0 cells (by simp;omega)];simp
theorem ab1{m:Mem}{ak:Env}{a:Act}(hr:iS m ak a.tmps){place:Nat->Option (Nat×Nat)}{zl:Nat}:∀ {ps:List (Nat×Operand)} {qs:List (Nat×Nat×aR)} {rs:List (Nat×List C)} {cs:List C} {cells:Array Value},
  De place zl ps=some qs->yA ak qs=some rs->dq m cs cells.toList->cs.length=zl->
  ∃j9,Instr.fill place cells (ps.map fun x=>(x.1,a.eval x.2))=some j9/\dq m (fill cs rs) j9.toList:=by
 intro ps
 induction ps with
 |nil=>intro qs rs cs cells h1 h2 hc hl;simp[De] at h1;subst h1;simp[yA] at h2;subst h2;exact⟨cells,by simp[Instr.fill],by simpa [fill] using hc⟩
 |cons p t ih=>
  intro qs rs cs cells h1 h2 hc hl;obtain⟨i,x⟩:=p;simp only[De] at h1;split at h1
  .rename_i off n a' q bU hx hq;split at h1
   .rename_i hfit;cases h1;simp only[yA] at h2;split at h2
    .rename_i DP q' hcv Gw;split at h2
     .rename_i hlen;cases h2;have hv:=SV hcv (eB hx hr);have cq:(a.eval x).cells.size=n:=by have:=hv.1;simp at this;omega
      have bR:=hc.1;simp at bR;obtain⟨j9,e1,e2⟩:=ab2 (rest:=t.map fun x=>(x.1,a.eval x.2)) bU cq (by omega:off+n<=cells.size);simp only[dK,fill];rw[e1];refine ih hq Gw ?_ (by rw[Rz aa];exact hl);rw[e2];exact dq.pw.2 ((dq.pw.1 hc).eO (dq.pw.1 hv) off)
     cases h2
    cases h2
   cases h1
  cases h1
theorem mapM_ok{α β:Type}{f:α->Sem β}{g:α->β}{w:World}:∀ {l:List α},(∀x∈l,(f x).run P w=.ok (g x) w)->(l.mapM f).run P w=.ok (l.map g) w:=by
 intro l
 induction l with
 |nil=>intro _;simp
 |cons x r ih=>intro h;simp[List.mapM_cons,h x af,ih fun y hy=>h y (by simp[hy])]
theorem alA{m:Mem}{ak:Env}{a:Act}(hr:iS m ak a.tmps){place:Nat->Option (Nat×Nat)}{sz:Nat}(aok:∀k,place k=some (k*sz,sz)):∀ {ps:List (Nat×Operand)} {as:List aR} {es:List (List C)} {k:Nat} {done:List Value} {cells:Array Value},
  IM k ps=some as->zj ak sz as=some es->done.length=k*sz->cells.toList.take (k*sz)=done->cells.size=(k+as.length)*sz->
  ∃j9,Instr.fill place cells (ps.map fun x=>(x.1,a.eval x.2))=some j9/\ ∃vs,j9.toList=done++vs/\dq m es.flatten vs/\(∀e∈es,e.length=sz)/\es.length=as.length:=by
 intro ps
 induction ps with
 |nil=>intro as es k done cells h1 h2 hd ht hs;simp[IM] at h1;subst h1;simp[zj] at h2;subst h2;refine⟨cells,by simp[Instr.fill],[],?_,⟨af,fun j x u p=>by simp at p⟩,fun e he=>by simp at he,rfl⟩;rw[<- ht,jP,fR (by simp at hs ⊢;omega)]
 |cons p t ih=>
  intro as es k done cells h1 h2 hd ht hs;obtain⟨i,x⟩:=p;simp only[IM] at h1;split at h1
  .rename_i a' q hx hq;split at h1
   .rename_i hik;cases h1;subst hik;simp only[zj] at h2;split at h2
    .rename_i DP q' hcv Gw;split at h2
     .rename_i hlen;cases h2;have hv:=SV hcv (eB hx hr);have cq:(a.eval x).cells.size=sz:=by have:=hv.1;simp at this;omega
      simp only[dh] at hs;have fp:cells.size=i*sz+sz+q.length*sz:=by rw[hs,fZ,fZ];omega
      obtain⟨j9,e1,e2⟩:=ab2 (rest:=t.map fun x=>(x.1,a.eval x.2)) (aok i) cq (by omega:i*sz+sz<=cells.size);have kE:j9.toList.length=cells.size:=by rw[e2,Rz (by simp;omega)];simp
      obtain⟨aki,f1,vs,f2,f3,f4,f5⟩:=ih (k:=i+1) (done:=done++(a.eval x).cells.toList) (cells:=j9) hq Gw (by simp[hd,cq,fZ]) (by rw[e2];unfold eO;rw[ht,OI (by simp[hd,cq,fZ])];rw[fR (by simp[hd,cq,fZ])]) (by simp at kE;rw[kE,fp,fZ,fZ];omega)
      simp only[dK];rw[e1];refine⟨aki,f1,(a.eval x).cells.toList++vs,by rw[f2,yK],?_,?_,by simp[f5]⟩
      .simp only[lQ];exact dq.pw.2 ((dq.pw.1 hv).append (dq.pw.1 f3))
      intro e he;rcases cM.1 he with rfl|he
      .exact hlen
      exact f4 e he
     cases h2
    cases h2
   cases h1
  cases h1
theorem auR{m:Mem}:∀ {es:List (List C)} {qs:List (List PV)} {vs:List Value} {sz:Nat},BJ es=some qs->(∀e∈es,e.length=sz)->dq m es.flatten vs->dj m.w m.own qs.flatten vs/\(∀e∈qs,e.length=sz)/\qs.length=es.length:=by
 intro es
 induction es with
 |nil=>intro qs vs sz h _ hc;simp[BJ] at h;subst h;exact⟨⟨hc.1,fun j x u p=>by simp at p⟩,fun e he=>by simp at he,rfl⟩
 |cons e r ih=>
  intro qs vs sz h cq hc;simp only[BJ] at h;split at h
  .rename_i v mS h1 h2;cases h;simp only[lQ] at hc;have dB:=cq e af;have iC:=(dq.pw.1 hc).take e.length;have oY:=(dq.pw.1 hc).drop e.length;simp only[Lc,Ys] at iC oY;have g1:=Om h1 (dq.pw.2 iC);obtain⟨g2,g3,g4⟩:=ih h2 (fun x hx=>cq x (by simp[hx])) (dq.pw.2 oY);have rL:v.length=sz:=by
    have a1:=g1.1;have a2:=iC.1;omega
   refine⟨?_,?_,by simp[g4]⟩
   .have:=(dj.pw.1 g1).append (dj.pw.1 g2);rw[nC] at this;exact dj.pw.2 this
   intro y hy;rcases cM.1 hy with rfl|hy
   .exact rL
   exact g3 y hy
  cases h
section
variable {m:Mem} {ak:Env} {a:Act} {o:Oper} (aq:Ok w0 m) (hr:iS m ak a.tmps)
include aq hr
theorem atm{t:TypeId}{ps:Array (Nat×Operand)}{fs:Array Field}{z:List PV}{qs:List (Nat×Nat×aR)}{rs:List (Nat×List C)}(ho:o.op=.build t ps)(ht:P.underlying t=some (.struct fs))(hz:Am P t=some z)
  (dM:fs.all (fun f=>(P.info? f.type).isSome)=true) (hp:De (fun i=>(fs[i]?).map fun f=>(f.offset,P.cellsOf f.type)) z.length ps.toList=some qs) (hv:yA ak qs=some rs):
  fE P w0 a.eval o m (.agg (fill (z.map .p) rs)) []:=by
 obtain⟨v,i,hi,hiv,hs,hl,dz⟩:=Ox hz;obtain⟨j9,h1,h2⟩:=ab1 hr hp hv (dz m.w m.own).Dn af;refine .calm (x:=.agg j9) aq ?_ (bK.agg.2 ⟨_,rfl,h2⟩);have Gv:(fs.mapM (fun f=>do pure (f.offset,<- sizeOf f.type):Field->Sem (Nat×Nat))).run P m.w=.ok (fs.map fun f=>(f.offset,P.cellsOf f.type)) m.w:=by
  rw[Array.mapM_eq_mapM_toList];have:=mapM_ok (P:=P) (f:=(fun f=>do pure (f.offset,<- sizeOf f.type):Field->Sem (Nat×Nat))) (g:=fun f=>(f.offset,P.cellsOf f.type)) (w:=m.w) (l:=fs.toList) (fun f hf=>by
   have:=Array.all_eq_true_iff_forall_mem.1 dM f (by simpa using hf);cases Gj:P.info? f.type with
   |none=>rw[Gj] at this;cases this
   |some i=>simp[sizeOf,typeInfo,Gj,Program.cellsOf])
  rw[Sem.run_map,this];simp only[Result.andThen_ok];congr 1;apply Array.ext';simp
 have El:Instr.fill (fun x=>(fs.map fun f=>(f.offset,P.cellsOf f.type))[x]?) v.cells (ps.map fun x=>(x.1,a.eval x.2)).toList=some j9:=by simpa using h1
 simp only[execOp,ho,Instr.build,zeroValue,typeInfo,Sem.run_bind,run_program,Result.andThen_ok,hi,hiv,Sem.run_pure,run_underlying ht,Gv,El]
theorem atl{t e:TypeId}{n:Nat}{ps:Array (Nat×Operand)}{i:TypeInfo}{z:List PV}{qs:List (Nat×Nat×aR)}{rs:List (Nat×List C)}(ho:o.op=.build t ps)(ht:P.underlying t=some (.array n e))(hz:Am P t=some z)
  (hie:P.info? e=some i) (hp:De (fun k=>some (k*i.size,i.size)) z.length ps.toList=some qs) (hv:yA ak qs=some rs):
  fE P w0 a.eval o m (.agg (fill (z.map .p) rs)) []:=by
 obtain⟨v,i',hi,hiv,hs,hl,dz⟩:=Ox hz;obtain⟨j9,h1,h2⟩:=ab1 hr hp hv (dz m.w m.own).Dn af;refine .calm (x:=.agg j9) aq ?_ (bK.agg.2 ⟨_,rfl,h2⟩);have El:Instr.fill (fun k=>some (k*i.size,i.size)) v.cells (ps.map fun x=>(x.1,a.eval x.2)).toList=some j9:=by simpa using h1
 simp only[execOp,ho,Instr.build,zeroValue,sizeOf,typeInfo,Sem.run_bind,run_program,Result.andThen_ok,hi,hie,hiv,Sem.run_pure,run_underlying ht,El]
theorem atj{t e:TypeId}{n sz bytes s:Nat}{z:List PV}{ps:Array (Nat×Operand)}{as:List aR}{es:List (List C)}(ho:o.op=.buildSlice t n ps)(he:AP P t=some (e,sz,bytes,z))(hp:IM 0 ps.toList=some as)
  (hn:as.length=n) (anu:n*sz<=16777216) (hv:zj ak sz as=some es):
  (∀qs,BJ es=some qs->fE P w0 a.eval o m (.one (.hsl s ((m.aj s).1+1) sz 0 es.length)) [(s,((m.aj s).1+1,some (.arr e sz qs)))])/\
  fE P w0 a.eval o m (.one (.hsl s ((m.aj s).1+1) sz 0 es.length)) [(s,((m.aj s).1+1,some (.iI e sz es)))]:=by
 obtain⟨i,v,ht,hi,hs,hb,⟨gE,_⟩,wR,qR,mf,dz⟩:=Pa he;subst hn;obtain⟨j9,f1,vs,f2,f3,f4,f5⟩:=alA (place:=fun k=>some (k*sz,sz)) (done:=[]) (cells:=(Array.range (as.length*sz)).map ((if as.length*sz=0 then #[] else v.cells)[· %(if as.length*sz=0 then #[] else v.cells).size]!)) hr (fun _=>rfl) hp hv af af af;have jF:(execOp a.eval o).run P m.w=.ok (.value (.slice (some ⟨m.w.heap.size,0,none⟩) es.length es.length)) (m.w.alloc (.cells j9 e)):=by
  have El:Instr.fill (fun k=>some (k*sz,sz)) ((Array.range (as.length*sz)).map ((if as.length*sz=0 then #[] else v.cells)[· %(if as.length*sz=0 then #[] else v.cells).size]!)) (ps.map fun x=>(x.1,a.eval x.2)).toList=some j9:=by simpa using f1
  have hnb:¬(16777216<as.length*sz):=aa;have ado:¬(as.length*sz>2 ^ 24):=aa;by_cases h0:as.length*sz=0
  .simp only[aF h0] at El;simp only[execOp,ho,Instr.buildSlice,Sem.run_bind,run_underlying ht,Result.andThen_ok,sizeOf,typeInfo,run_program,hi,Sem.run_pure,hs,ay ado,aF h0,El,newRow,run_newObj,f5];rfl
  simp only[ay h0] at El;simp only[execOp,ho,Instr.buildSlice,Sem.run_bind,run_underlying ht,Result.andThen_ok,sizeOf,typeInfo,run_program,hi,Sem.run_pure,hs,ay ado,ay h0,zeroValue,wR,El,newRow,run_newObj,f5];rfl
 simp at f2;have bR:j9.size=es.length*sz:=by
  have h1:=f3.1;rw[F0 f4] at h1;have:j9.toList.length=vs.length:=by rw[f2]
  simp at this;omega
 have M3:es.length<=maxLen:=by have:es.length<=es.length*sz:=OJ _ gE;simp only[maxLen];rw[f5] at this ⊢;omega
 have JE:j9.toList.take (es.length*sz)=vs:=by rw[fR (by simp;omega),f2]
 constructor
 .intro qs hq;have dQ:Ev m (m.kh (m.w.alloc (.cells j9 e)) s m.w.heap.size es.length (.arr e sz qs)):=IY (fy.alloc _ _) (bJ _);obtain⟨g1,g2,g3⟩:=auR hq f4 (f3.ev dQ.zero);refine⟨_,m.kh (m.w.alloc (.cells j9 e)) s m.w.heap.size es.length (.arr e sz qs),.inl jF,I0 (fy.alloc _ _) (bJ _) af aq ?_,dQ,IZ aq (bJ _),rfl,Mg (bJ _) M3⟩;exact⟨j9,by rw[DV];exact heap_alloc_new m.w _,gE,g2,by rw[qc,g3];exact bJ _,by rw[qc];exact M3,by rw[qc,bR],by rw[g3,JE];exact g1⟩
 have dQ:Ev m (m.kh (m.w.alloc (.cells j9 e)) s m.w.heap.size es.length (.iI e sz es)):=IY (fy.alloc _ _) (bJ _);refine⟨_,m.kh (m.w.alloc (.cells j9 e)) s m.w.heap.size es.length (.iI e sz es),.inl jF,I0 (fy.alloc _ _) (bJ _) af aq ?_,dQ,IZ aq (bJ _),rfl,amH (bJ _) M3⟩;exact⟨j9,by rw[DV];exact heap_alloc_new m.w _,gE,f4,by rw[qc];exact bJ _,by rw[qc];exact M3,by rw[qc,bR],by rw[JE];exact f3.ev dQ.zero⟩
end
end Go.Abs
namespace Go.Abs
variable {P:Program} {w0:World}
theorem Lo(a b:List eK)(aj:aA):app (a++b) aj=app b (app a aj):=by
 induction a generalizing aj with
 |nil=>rfl
 |cons x r ih=>obtain⟨i,o⟩:=x;simp only[yM,app];exact ih _
theorem apA{m:Mem}{zn:Nat->Prop}(hf:∀c,zn c->m.fr c){c:Nat}(h:({m with fr:=zn}:Mem).own c):m.own c:=by
 rcases h with h|h
 .exact .inl (hf c h)
 exact .inr h
theorem QD{m:Mem}{zn:Nat->Prop}(hf:∀c,zn c->m.fr c):Ev m {m with fr:=zn}:=
 ⟨rfl,rfl,rfl,bJ _,fun _ _ _=>rfl,fun _ _ h=>h,fun _ _ hn h=>hn (apA hf h),fun _=>bJ _,fun _ _ h=>⟨h,rfl,rfl,rfl⟩⟩
theorem W1{m:Mem}{zn:Nat->Prop}(h:Ok w0 m)(hf:∀c,zn c->m.fr c):Ok w0 {m with fr:=zn} where
 os:=h.os
 tape:=h.tape
 output:=h.output
 size:=h.size
 base:=h.base
 obj id o ho:=(h.obj id o ho).ev (QD hf).zero rfl rfl rfl
 gb id o ho hm:=⟨(h.gb id o ho hm).1,fun hc=>(h.gb id o ho hm).2 (hf _ hc)⟩
 frlt c hc:=h.frlt c (hf c hc)
 inj:=h.inj
theorem agY{m:Mem}{w':World}{c:Nat}(h:Ok w0 m)(hc:m.fr c)(eG:w0.heap.size<=c)(zS:w'.os=m.w.os)(ht:w'.tape=m.w.tape)(nU:w'.output=m.w.output)(hs:w'.heap.size=m.w.heap.size)
  (hk:∀x,x≠c->w'.heap[x]?=m.w.heap[x]?):Ok w0 {m with w:=w'} where
 os:=zS.trans h.os
 tape:=ht.trans h.tape
 output:=nU.trans h.output
 size:=mT h.size (Fp hs.symm)
 base x hx:=(hk x aa).trans (h.base x hx)
 obj id o ho:=by
  have aI:m.σ id≠c:=by
   intro e;cases hm:o.fA with
   |true=>exact(h.gb id o ho hm).2 (e▸hc)
   |false=>exact(h.obj id o ho).calm hm (.inl (e▸hc))
  exact(h.obj id o ho).ev (m':={m with w:=w'}) ⟨fun x _ hn=>⟨hk x fun e=>hn (.inl (e▸hc)),hn⟩,fun _=>bJ _,fun _ _ h=>⟨h,rfl,rfl,rfl⟩⟩ rfl rfl (hk _ aI)
 gb:=h.gb
 frlt x hx:=by rw[show({m with w:=w'}:Mem).w.heap.size=m.w.heap.size from hs];exact h.frlt x hx
 inj:=h.inj
theorem aaJ{m:Mem}(aq:Ok w0 m){own:Nat->Prop}{x:V}{v:Value}{new:List (List PV)}{rd fr:List Nat}(h:fh m.aj x=some (new,rd,fr))(hv:bK m x v)(hs:pS m own fr):
  ∃ax cx,v=.slice ax new.length cx/\(∀z,mr x=some z->∀e∈new,e.length=z)/\
   (new≠[]->∃b o news,ax=some ⟨b,o,none⟩/\Pw (ch m.w own) new.flatten news/\ ∀(j:Nat) (u:Value),news[j]?=some u->m.w.cell? ⟨b,o+j,none⟩=some u):=by
 have row:∀(c off sz len:Nat) (cur:Array Value) (ty:TypeId) (fz:Nat×Nat) (ps:List (List PV)),m.w.heap[c]?=some (.cells cur ty fz)->Pw (ch m.w own) ps.flatten ((cur.toList.drop (off*sz)).take (ps.length*sz))->
   ∃b o news,some (⟨c,off*sz,none⟩:Addr)=some ⟨b,o,none⟩/\Pw (ch m.w own) ps.flatten news/\ ∀(j:Nat) (u:Value),news[j]?=some u->m.w.cell? ⟨b,o+j,none⟩=some u:=by
  intro c off sz len cur ty fz ps hh hp;refine⟨c,off*sz,_,rfl,hp,fun j u hj=>?_⟩;rw[kJ] at hj;split at hj
  .rw[DK hh];simpa using hj
  cases hj
 unfold fh at h;split at h
 .cases h;exact⟨none,0,Qt hv,fun z hz=>by simp[mr] at hz,fun h=>(h rfl).elim⟩
 .rename_i es;cases h;obtain⟨hp⟩:cY m _ v:=hv;generalize fO:(PV.sl new)=pv at hp;cases hp<;>cases fO
  .exact⟨_,_,rfl,fun z hz=>by simp[mr] at hz,fun h=>(h rfl).elim⟩
  rename_i b o cap sz f hm ho hl cq tH CQ;refine⟨_,_,rfl,fun z hz=>by simp[mr] at hz,fun _=>⟨b,o,(List.range new.flatten.length).map f,rfl,⟨af,fun j y u p q=>?_⟩,fun j u q=>?_⟩⟩
  .have hj:j<new.flatten.length:=(aW.1 p).1;rw[fQ,uf hj] at q;simp at q;subst q;exact(CQ j y p).less hs.1
  have hj:j<new.flatten.length:=by have:=(aW.1 q).1;simpa using this
  rw[fQ,uf hj] at q;simp at q;subst q;exact tH j _ (my hj)
 .rename_i id g z off len;have eI:cY m _ v:=hv;cases eI with
  |hsl ad cap hg hl hm MT=>
   split at h
   .rename_i g' ty sz es hb;split at h
    .rename_i hc;cases h;have bn:(m.aj id).2=some (.arr ty sz es):=by rw[hb]
     obtain⟨cur,hh,pG,cq,sK,sM,de,dz⟩:=aq.obj id _ bn;obtain⟨e1,e2,e3⟩:=MT sz (by rw[hb];exact hc.1) (by rw[hb];rfl);have hlen:((es.drop off).take len).length=len:=by simp;omega
     refine⟨some ad,cap,by rw[hlen],fun z' qq e he=>?_,fun aI=>?_⟩
     .simp[mr] at qq;subst qq;rw[<- e1];exact cq e (wa (xv he))
     have:0<len:=by
      cases len with
      |zero=>simp at aI
      |succ n=>omega
     rw[e2 (.inr this)];exact row (m.σ id) off sz len cur ty _ _ hh (Fb cq (dj.pw.1 (dz.less hs.1)) hc.2)
    cases h
   .rename_i g' ty sz es hb;split at h
    .rename_i hc;cases h;have bn:(m.aj id).2=some (.oR ty sz es):=by rw[hb]
     obtain⟨cur,fz,hh,pG,cq,sK,sM,de,dz,_⟩:=aq.obj id _ bn;obtain⟨e1,e2,e3⟩:=MT sz (by rw[hb];exact hc.1) (by rw[hb];rfl);have hlen:((es.drop off).take len).length=len:=by simp;omega
     refine⟨some ad,cap,by rw[hlen],fun z' qq e he=>?_,fun aI=>?_⟩
     .simp[mr] at qq;subst qq;rw[<- e1];exact cq e (wa (xv he))
     have:0<len:=by
      cases len with
      |zero=>simp at aI
      |succ n=>omega
     rw[e2 (.inr this)];exact row (m.σ id) off sz len cur ty _ _ hh (Fb cq (dj.pw.1 (dz.less hs.1)) hc.2)
    cases h
   .rename_i g' ty sz es hb;split at h
    .rename_i hc;split at h
     .rename_i ps q hq;cases h;have bn:(m.aj id).2=some (.iI ty sz es):=by rw[hb]
      obtain⟨cur,hh,pG,cq,sK,sM,de,dz⟩:=aq.obj id _ bn;obtain⟨e1,e2,e3⟩:=MT sz (by rw[hb];exact hc.1) (by rw[hb];rfl);have hle:((es.drop off).take len).length=len:=by simp;omega
      have bU:new.length=len:=by rw[S9 hq,hle]
      have Wx:=Fb cq (dq.pw.1 dz) hc.2;have Nt:∀e∈(es.drop off).take len,e.length=sz:=fun e he=>cq e (wa (xv he));have k8:len*sz<=(cur.toList.drop (off*sz)).length:=by
       simp;have h1:off*sz+len*sz<=es.length*sz:=by rw[<- fZ];exact lR _ hc.2
       have h2:es.length*sz<=m.κ id*sz:=lR _ sK;omega
      have nV:∀(j:Nat) (e:List PV),new[j]?=some e->Pw (ch m.w own) e (((cur.toList.drop (off*sz)).drop (j*sz)).take sz):=by intro j e he;obtain⟨x,q',h1,h2,h3⟩:=S8 hq he;exact Is (R:=cY m) (T:=ch m.w own) (eF:=pS m own) (fun a b h=>h.app) (fun a b r v e1 e2 e3=>KE aq _ e1 e2 e3) h2 ⟨hs.1,fun i hi=>hs.2 i (h3 i hi)⟩ (Vv Nt Wx h1)
      have Ez:∀e∈new,e.length=sz:=by
       intro e he;obtain⟨j,hj⟩:=je he;have:=(nV j e hj).1;have nO:j<len:=by rw[<- bU];exact(aW.1 hj).1
       have h1:(j+1)*sz<=len*sz:=lR _ nO;rw[fZ] at h1;simp at this k8;omega
      refine⟨some ad,cap,by rw[bU],fun z' qq e he=>?_,fun aI=>?_⟩
      .simp[mr] at qq;subst qq;rw[<- e1];exact Ez e he
      have:0<len:=by rw[<- bU];exact jf.2 aI
      rw[e2 (.inr this)];refine row (m.σ id) off sz len cur ty _ _ hh ?_;rw[bU];have:=XC Ez (by rw[bU];exact k8) nV;rw[bU] at this;exact this
     cases h
    cases h
   split at h
   .rename_i tK;cases h;exact⟨some ad,cap,by rw[tK];rfl,fun z' _ e he=>by simp at he,fun h=>(h rfl).elim⟩
   cases h
 cases h
end Go.Abs
namespace Go.Abs
variable {P:Program} {w0:World}
theorem agr{w:World}{own:Nat->Prop}{xs:List PV}{vs:List Value}(h:Pw (ch w own) xs vs):∀u∈vs,u.oneCell'=true:=by
 intro v hv;obtain⟨j,hj⟩:=je hv;have au:j<xs.length:=by rw[<- h.1];exact(aW.1 hj).1
 exact(h.2 j _ v (my au) hj).NU
theorem Mh{m:Mem}{ids:List Nat}{u:List eK}(h:sA m.aj ids=some u)(id:Nat):(app u m.aj id).1=(m.aj id).1:=by
 rcases wJ h id with ⟨e,_⟩|⟨_,p,q,a,b,e⟩
 .exact congrArg Prod.fst e
 have:=congrArg Prod.fst e;exact this
theorem aaD{m:Mem}{id:Nat}{o:Ob}{w':World}(ho:(m.aj id).2=some o)(hm:o.fA=true)(zS:w'.os=m.w.os)(ht:w'.tape=m.w.tape)(nU:w'.output=m.w.output)(hs:w'.heap.size=m.w.heap.size)
  (hk:∀x,x≠m.σ id->w'.heap[x]?=m.w.heap[x]?):Ev m {m.gY id with w:=w'} where
 os:=zS
 tape:=ht
 output:=nU
 size:=Fp hs.symm
 keep c _ hn:=hk c fun e=>hn ⟨id,o,ho,hm,e.symm⟩
 fA:=(FR ho hm).fA
 less:=(FR ho hm).less
 gen:=(FR ho hm).gen
 ref:=(FR ho hm).ref
theorem asu{m:Mem}(aq:Ok w0 m){id s:Nat}{ob:Ob}{w':World}{Cj:Array Value}{ty sz:Nat}{kY:List (List PV)}(ho:(m.aj id).2=some ob)(hm:ob.fA=true)(gE:0<sz)(zS:w'.os=m.w.os)(ht:w'.tape=m.w.tape)(nU:w'.output=m.w.output)(hs:w'.heap.size=m.w.heap.size)
  (hk:∀x,x≠m.σ id->w'.heap[x]?=m.w.heap[x]?) (hh:w'.heap[m.σ id]?=some (.cells Cj ty (0,0))) (cq:∀e∈kY,e.length=sz) (hl:kY.length<=m.κ id) (rJ:m.κ id<=maxLen) (de:Cj.size=m.κ id*sz)
  (hp:Pw (ch m.w m.own) kY.flatten (Cj.toList.take (kY.length*sz))):
  ∃m',m'.w=w'/\Ok w0 m'/\Ev m m'/\m'.fr=m.fr/\m'.aj=dJ (dJ m.aj id ((m.aj id).1,none)) s ((m.aj s).1+1,some (.arr ty sz kY))/\
   bK m' (.one (.hsl s ((m.aj s).1+1) sz 0 kY.length)) (.slice (some ⟨m.σ id,0,none⟩) kY.length (m.κ id)):=by
 have CA:=aaD ho hm zS ht nU hs hk;have eG:=(aq.gb id ob ho hm).1;have Wl:Ok w0 {m.gY id with w:=w'}:=agY (m:=m.gY id) (Tv aq ho hm) (.inr rfl) eG zS ht nU hs hk;have dQ:Ev m ((({m.gY id with w:=w'}:Mem)).install s (m.σ id) (m.κ id) (.arr ty sz kY)):=Qp CA (.inr rfl) (.inr ⟨id,ob,ho,hm,rfl⟩);have wP:((({m.gY id with w:=w'}:Mem)).aj s).1=(m.aj s).1:=by
  simp only[Mem.gY,aN];split
  .rename_i e;subst e;rfl
  rfl
 have hσ:((({m.gY id with w:=w'}:Mem)).install s (m.σ id) (m.κ id) (.arr ty sz kY)).σ s=m.σ id:=by simp[Mem.install,aN]
 have hκ:((({m.gY id with w:=w'}:Mem)).install s (m.σ id) (m.κ id) (.arr ty sz kY)).κ s=m.κ id:=by simp[Mem.install,aN]
 refine⟨_,rfl,Qq Wl (.inr rfl) eG ?_,dQ,?_,?_,?_⟩
 .exact⟨Cj,by rw[hσ];exact hh,gE,cq,by rw[hκ];exact hl,by rw[hκ];exact rJ,by rw[hκ];exact de,dj.ev dQ.zero (dj.pw.2 hp)⟩
 .funext x;simp only[Mem.install,Mem.gY];apply propext;constructor
  .rintro ⟨h|h,h2⟩
   .exact h
   exact(h2 h).elim
  intro h;exact⟨.inl h,fun e=>(aq.gb id ob ho hm).2 (e▸h)⟩
 .simp only[Mem.install];rw[wP];rfl
 refine bK.one.2 (.hsl _ _ ?_ hl rJ fun z h1 h2=>?_)
 .simp only[Mem.install,aN,if_true];rw[wP];exact bJ _
 have:kI (((({m.gY id with w:=w'}:Mem)).install s (m.σ id) (m.κ id) (.arr ty sz kY)).aj s)=some sz:=by simp[Mem.install,aN,kI]
 rw[this] at h2;cases h2;exact⟨rfl,fun _=>by rw[hσ,As],by rw[iQ];exact hκ.symm⟩
theorem asY{P:Program}(w:World)(t ty e:TypeId)(i:TypeInfo)(z:Value)(ht:P.underlying t=some (.slice e))(hi:P.info? e=some i)(hz:i.zero=some z)
  (az:Option Addr) (a:Addr) (n c:Nat) (news:List Value) (hl:news.length=n*i.size) (yh:∀j v,news[j]?=some v->w.cell? (a.add j)=some v)
  (h0:0<n) (h63:(n:Int)<=9223372036854775807) (xO:n*i.bytes<=281474976710656):
  (Builtin.append_ #[t,t] ty #[.slice az 0 0,.slice (some a) n c]).run P w=
   .ok (.slice (some ⟨w.heap.size,0,none⟩) n (grownCap w n 0 e)) (w.drew.alloc (.cells (news.toArray++Builtin.zeroCells z.cells (grownCap w n 0 e-n)) e)):=by
 cases az with
 |none=>exact run_append_nil w t ty e i z ht hi hz a n c news hl yh h0 h63 xO
 |some b=>have h:=run_append_grow (P:=P) w t ty e i z ht hi hz b 0 0 [] af (fun j v h=>by simp at h) a n c news hl yh aa (by simpa using h63) (by rw[iQ,nextslicecap_zero h0];exact xO);rw[iQ] at h;rw[h];simp
theorem asX{P:Program}(w:World)(t ty e:TypeId)(i:TypeInfo)(ht:P.underlying t=some (.slice e))(hi:P.info? e=some i)
  (g off sLen sCap:Nat) (cur:Array Value) (hg:w.heap[g]?=some (.cells cur e (0,0)))
  (a:Addr) (m c:Nat) (news:List Value) (hl:news.length=m*i.size) (yh:∀j u,news[j]?=some u->w.cell? (a.add j)=some u) (h1:∀u∈news,u.oneCell'=true)
  (kx:sLen+m<=sCap) (hfit:off+sLen*i.size+news.length<=cur.size):
  (Builtin.append_ #[t,t] ty #[.slice (some ⟨g,off,none⟩) sLen sCap,.slice (some a) m c]).run P w=
   .ok (.slice (some ⟨g,off,none⟩) (sLen+m) sCap) (w.setRow g (cur.toList.take (off+sLen*i.size)++news++cur.toList.drop (off+sLen*i.size+news.length)).toArray):=by
 have hf:=run_firstCells_some (P:=P) w i.size m a m c news hl yh;have cX:=run_storeCells_at P g (off+sLen*i.size) e news 0 cur w hg (by simpa using hfit) h1;simp only[xw] at cX;simp[Builtin.append_,run_underlying ht,sizeOf,typeInfo,hi,Builtin.lenOf,kx,hf,Addr.add_lit,cX]
section
variable {m:Mem} {ak:Env} {a:Act} {o:Oper} (aq:Ok w0 m) (hr:iS m ak a.tmps)
include aq hr
theorem atg{c:Call}{d x:Operand}{d' x':aR}{t e:TypeId}{s sz bytes:Nat}{z:List PV}{v:V}{u:List eK}{rd:List Nat}(ho:o.op=.call c)(hc:c.callee=.builtin .append)(has:c.args= #[d,x])(jC:c.argTypes= #[t,t])
  (he:AP P t=some (e,sz,bytes,z)) (hd:cF d=some d') (hx:cF x=some x') (hv:fL m.aj s e sz bytes (ev ak d') (ev ak x')=.done v u rd):fE P w0 a.eval o m v u:=by
 obtain⟨i,zv,ht,hi,hs,hb,⟨gE,Gc⟩,wR,JI,mf,dz⟩:=Pa he;have qk:=eB hd hr;have kS:=eB hx hr;have run:∀(y:Value) (w':World),(Builtin.append_ #[t,t] o.type #[a.eval d,a.eval x]).run P m.w=.ok y w'->(execOp a.eval o).run P m.w=.ok (.value y) w':=by intro y w' h;simp[execOp,ho,resolve,hc,has,jC,invoke,builtin,h]
 unfold fL at hv;split at hv
 .cases hv
 rename_i new rd' fr dB;split at hv
 .cases hv
 rename_i aou;split at hv
 .cases hv
 rename_i fu qf;have nk:=acr aq qf;have vp:=VC qf;have nW:=VF aq qf;obtain⟨ax,cx,wV,aot,yh⟩:=aaJ aq dB kS nW;have dM:∀e∈new,e.length=sz:=by
  have:mr (ev ak x')=some sz\/gV sz new=true:=Classical.not_not.1 aou;rcases this with h|h
  .exact aot sz h
  intro e he;have:=jd.1 h e he
  simpa using this
 have MR:new.flatten.length=new.length*sz:=F0 dM;split at hv
 · -- nil
  rename_i Gf;rw[Gf] at qk;have zD:=Qt qk;split at hv
  .rename_i iu;cases hv;refine⟨.slice none 0 0,m.with u,.inl (run _ _ ?_),nk,vp,rfl,rfl,mh .nils⟩;rw[zD,wV,iu];cases ax<;>simp[Builtin.append_,run_underlying ht,sizeOf,typeInfo,hi,Builtin.lenOf,Builtin.firstCells,loadCells,loadCellsFrom,Mem.with]
  rename_i iu;split at hv
  .rename_i kx;cases hv;have aI:new≠[]:=fun h=>iu (by simp[h]);obtain⟨b,off,news,rfl,l7,xT⟩:=yh aI;unfold room at kx;have js:news.length=new.length*i.size:=by rw[l7.1,MR,hs]
   have CM:new.length<=maxLen/\(new.length:Int)<=9223372036854775807:=by have:new.length<=new.length*bytes:=OJ _ Gc;simp only[maxLen];omega
   have jF:=run_append_nil (P:=P) m.w t o.type e i zv ht hi wR ⟨b,off,none⟩ new.length cx news js (fun j v hj=>by rw[Addr.add_lit];exact xT j v hj) aa CM.2 (by rw[hb];omega);generalize hW:m.w.drew.alloc (.cells (news.toArray++Builtin.zeroCells zv.cells (grownCap m.w new.length 0 e-new.length)) e)=W at jF;have hg:fy (m.with fu).w W:=by rw[<- hW];exact(fy.drew _).trans (fy.alloc _ _)
   have k8:=grownCap_ge m.w new.length 0 e;have MC:=grownCap_le_maxLen m.w new.length 0 e CM.1;have CA:Ev (m.with fu) ((m.with fu).kh W s m.w.heap.size (grownCap m.w new.length 0 e) (.arr e sz new)):=IY hg (bJ _);have wP:=Mh qf s;refine⟨_,(m.with fu).kh W s m.w.heap.size (grownCap m.w new.length 0 e) (.arr e sz new),.inl (run _ _ (by rw[zD,wV];exact jF)),I0 hg (bJ _) (by rw[<- hW];simp) nk ?_,vp.trans CA,IZ nk (bJ _),?_,?_⟩
   .refine⟨_,by rw[DV,Vz,<- hW];exact heap_alloc_new m.w.drew _,gE,dM,by rw[qc];exact k8,by rw[qc];exact MC,?_,?_⟩
    .rw[qc];simp only[aic,Sk,size_zeroCells,JI,js,hs,<- fZ];congr 1;omega
    have:(news.toArray++Builtin.zeroCells zv.cells (grownCap m.w new.length 0 e-new.length)).toList.take (new.length*sz)=news:=by simp only[Sb];rw[<- hs,<- js];exact Lc
    rw[this];exact dj.ev CA.zero (dj.pw.2 l7)
   .rw[Lo,Vy];simp only[Mem.with];rw[wP]
   have:=Mg (m:=m.with fu) (w':=W) (s:=s) (c:=m.w.heap.size) (ty:=e) (sz:=sz) (es:=new) k8 MC;simp only[Mem.with] at this;rw[wP] at this;exact this
  cases hv
 · -- an empty slice without room
  rename_i Gf;rw[Gf] at qk;obtain⟨az,zD⟩:=aoT qk;split at hv
  .cases hv
  rename_i iu;split at hv
  .rename_i kx;cases hv;have aI:new≠[]:=fun h=>iu (by simp[h]);obtain⟨b,off,news,rfl,l7,xT⟩:=yh aI;unfold room at kx;have js:news.length=new.length*i.size:=by rw[l7.1,MR,hs]
   have CM:new.length<=maxLen/\(new.length:Int)<=9223372036854775807:=by have:new.length<=new.length*bytes:=OJ _ Gc;simp only[maxLen];omega
   have jF:=asY (P:=P) m.w t o.type e i zv ht hi wR az ⟨b,off,none⟩ new.length cx news js (fun j v hj=>by rw[Addr.add_lit];exact xT j v hj) aa CM.2 (by rw[hb];omega);generalize hW:m.w.drew.alloc (.cells (news.toArray++Builtin.zeroCells zv.cells (grownCap m.w new.length 0 e-new.length)) e)=W at jF;have hg:fy (m.with fu).w W:=by rw[<- hW];exact(fy.drew _).trans (fy.alloc _ _)
   have k8:=grownCap_ge m.w new.length 0 e;have MC:=grownCap_le_maxLen m.w new.length 0 e CM.1;have CA:Ev (m.with fu) ((m.with fu).kh W s m.w.heap.size (grownCap m.w new.length 0 e) (.arr e sz new)):=IY hg (bJ _);have wP:=Mh qf s;refine⟨_,(m.with fu).kh W s m.w.heap.size (grownCap m.w new.length 0 e) (.arr e sz new),.inl (run _ _ (by rw[zD,wV];exact jF)),I0 hg (bJ _) (by rw[<- hW];simp) nk ?_,vp.trans CA,IZ nk (bJ _),?_,?_⟩
   .refine⟨_,by rw[DV,Vz,<- hW];exact heap_alloc_new m.w.drew _,gE,dM,by rw[qc];exact k8,by rw[qc];exact MC,?_,?_⟩
    .rw[qc];simp only[aic,Sk,size_zeroCells,JI,js,hs,<- fZ];congr 1;omega
    have:(news.toArray++Builtin.zeroCells zv.cells (grownCap m.w new.length 0 e-new.length)).toList.take (new.length*sz)=news:=by simp only[Sb];rw[<- hs,<- js];exact Lc
    rw[this];exact dj.ev CA.zero (dj.pw.2 l7)
   .rw[Lo,Vy];simp only[Mem.with];rw[wP]
   have:=Mg (m:=m.with fu) (w':=W) (s:=s) (c:=m.w.heap.size) (ty:=e) (sz:=sz) (es:=new) k8 MC;simp only[Mem.with] at this;rw[wP] at this;exact this
  cases hv
 .rename_i id g zz len Gf;rw[Gf] at qk;split at hv
  .rename_i g' jN bN es ir;split at hv
   .rename_i qM;obtain⟨iG,rfl,rfl,hlen,kx,Wh⟩:=qM;cases hv;have Wi:id∉fr:=by simpa using Wh
    have dd:(m.with fu).aj id=m.aj id:=by
     rcases wJ qf id with ⟨e,_⟩|⟨kr,_⟩
     .exact e
     exact(Wi kr).elim
    have bn:((m.with fu).aj id).2=some (.arr jN bN es):=by rw[dd,ir]
    obtain⟨cur,hh,_,cq,hl,rJ,de,Wp⟩:=nk.obj id _ bn;have Je:cY m _ (a.eval d):=qk;generalize zD:a.eval d=dv at Je;cases Je with
    |hsl ad cap hg uG CN MU=>
     obtain⟨f1,f2,f3⟩:=MU bN (by rw[ir];exact iG) (by rw[ir];rfl);have k8:cap=m.κ id:=by rw[<- f3,iQ]
     have nh:=f2 (.inl rfl);rw[As] at nh;subst nh;unfold room at kx;have wP:=Mh qf s;have hgid:=Mh qf id;have Jr:len*bN<=es.length*bN:=lR _ hlen;have sK:es.length*bN<=m.κ id*bN:=lR _ hl;have Wm:Pw (ch (m.with fu).w (m.with fu).own) (es.take len).flatten (cur.toList.take (len*bN)):=by rw[IW cq];have h1:=(dj.pw.1 Wp).take (len*bN);rw[HL,Ar Jr] at h1;exact h1
     have htl:(es.take len).length=len:=by simp;omega
     have My:∀x∈es.take len++new,x.length=bN:=by
      intro x hx;rcases eD.1 hx with hx|hx
      .exact cq x (xv hx)
      exact dM x hx
     have hnl0:len+new.length<=(len+new.length)*bytes:=OJ _ Gc;have vF:∀q:eK,app (fu++[(id,(g,none)),q]) m.aj=dJ (dJ (m.with fu).aj id (((m.with fu).aj id).1,none)) q.1 q.2:=by intro q;rw[Lo];simp only[app];rw[dd,ir,iG];rfl
     have CK:(es.take len++new).length=len+new.length:=by rw[ff,htl]
     by_cases hfit:len+new.length<=cap
     · -- in its own block
      have key:∀(w':World) (Cj:Array Value),(execOp a.eval o).run P m.w=.ok (.value (.slice (some ⟨m.σ id,0,none⟩) (len+new.length) cap)) w'->w'.os=m.w.os->w'.tape=m.w.tape->w'.output=m.w.output->w'.heap.size=m.w.heap.size->
        (∀x,x≠m.σ id->w'.heap[x]?=m.w.heap[x]?)->w'.heap[m.σ id]?=some (.cells Cj jN (0,0))->Cj.size=cur.size->Pw (ch (m.with fu).w (m.with fu).own) (es.take len++new).flatten (Cj.toList.take ((len+new.length)*bN))->
        fE P w0 a.eval o m (.one (.hsl s ((m.aj s).1+1) bN 0 (len+new.length))) (fu++[(id,(g,none)),(s,((m.aj s).1+1,some (.arr jN bN (es.take len++new))))]):=by
       intro w' Cj jF q1 q2 q3 q4 q5 q6 q7 q8;obtain⟨m',e1,e2,e3,e4,e5,e6⟩:=asu (s:=s) nk bn rfl gE q1 q2 q3 q4 q5 q6 My (by rw[CK];rw[k8] at hfit;exact hfit) rJ (by rw[q7];exact de) (by rw[CK];exact q8);rw[CK] at e6;have PX:((m.with fu).aj s).1=(m.aj s).1:=wP;rw[PX] at e6 e5;refine⟨_,m',.inl (by rw[e1];exact jF),e2,vp.trans e3,e4,by rw[e5,vF],?_⟩;rw[k8];exact e6
      by_cases iu:new=[]
      .subst iu;have aor:(execOp a.eval o).run P m.w=.ok (.value (.slice (some ⟨m.σ id,0,none⟩) (len+([]:List (List PV)).length) cap)) m.w:=by
        apply run;rw[zD,wV];have anT:len<=cap:=uG;cases ax<;>simp[Builtin.append_,run_underlying ht,sizeOf,typeInfo,hi,Builtin.lenOf,Builtin.firstCells,loadCells,loadCellsFrom,anT,storeCells]
       exact key m.w cur aor rfl rfl rfl rfl (fun _ _=>rfl) hh rfl (by simpa using Wm)
      obtain⟨b,off,news,rfl,l7,xT⟩:=yh iu;have js:news.length=new.length*i.size:=by rw[l7.1,MR,hs]
      have A0:len*i.size+news.length<=cur.size:=by rw[js,hs,de,<- fZ];rw[k8] at hfit;exact lR _ hfit
      have jF:=run_append_room (P:=P) m.w t o.type jN i ht hi (m.σ id) len cap cur hh ⟨b,off,none⟩ new.length cx news js (fun j v hj=>by rw[Addr.add_lit];exact xT j v hj) (agr l7) hfit A0;have aos:(execOp a.eval o).run P m.w=.ok (.value (.slice (some ⟨m.σ id,0,none⟩) (len+new.length) cap)) _:=run _ _ (by rw[zD,wV];exact jF);have anA:len*i.size<=cur.size:=mT (Nat.le_add_right _ _) A0;refine key _ _ aos ?_ ?_ ?_ ?_ (fun x hx=>setRow_other m.w (m.σ id) x _ hx) (Oh hh) ?_ ?_
      .rfl
      .rfl
      .rfl
      .exact setRow_size m.w _ _
      .rw[Sk,ff,ff,fX,jy,Oy];omega
      have h1:=Wm.append l7;rw[<- Dw] at h1;have:(cur.toList.take (len*i.size)++news++cur.toList.drop (len*i.size+news.length)).take ((len+new.length)*bN)=cur.toList.take (len*bN)++news:=by
       rw[hs];have bR:(cur.toList.take (len*bN)).length=len*bN:=by rw[fX,Oy];rw[hs] at anA;omega
       have MD:(cur.toList.take (len*bN)++news).length=(len+new.length)*bN:=by rw[ff,bR,js,hs,fZ]
       rw[OI (Fp MD.symm)];exact fR (Fp MD)
      simp only[ait] at this ⊢;rw[this];exact h1
     · -- a new block
      have iu:new≠[]:=fun e=>by subst e;simp at hfit;omega
      obtain⟨b,off,news,rfl,l7,xT⟩:=yh iu;have js:news.length=new.length*i.size:=by rw[l7.1,MR,hs]
      have zQ:(cur.toList.take (len*bN)).length=len*i.size:=by rw[hs,fX,Oy];have zA:cur.size=m.κ id*bN:=de;omega
      have jF:=run_append_grow (P:=P) m.w t o.type jN i zv ht hi wR ⟨m.σ id,0,none⟩ len cap (cur.toList.take (len*bN)) zQ (fun j v hj=>by
        rw[Addr.add_lit,iQ];have:(m.w.cell? ⟨m.σ id,j,none⟩)=cur[j]? :=DK hh;rw[this];rw[kJ] at hj;split at hj
        .simpa using hj
        cases hj) ⟨b,off,none⟩ new.length cx news js (fun j v hj=>by rw[Addr.add_lit];exact xT j v hj) aa aa (growslice_fits aa (by rw[hb];omega))
      have CM:len+new.length<=maxLen:=by simp only[maxLen];omega
      have Jl:=grownCap_ge m.w (len+new.length) cap jN;have Jm:=grownCap_le_maxLen m.w (len+new.length) cap jN CM;generalize tH:grownCap m.w (len+new.length) cap jN=cc at jF Jl Jm;generalize hW:m.w.drew.alloc (.cells ((cur.toList.take (len*bN)).toArray++news.toArray++Builtin.zeroCells zv.cells (cc-(len+new.length))) jN)=W at jF;have Nd:=W1 (zn:=m.fr) (Tv nk bn rfl) (fun c hc=>.inl hc);have VZ:Ev (m.with fu) {(m.with fu).gY id with fr:=m.fr}:=(FR bn rfl).trans (QD (fun c hc=>.inl hc));have CC:fy ({(m.with fu).gY id with fr:=m.fr}:Mem).w W:=by rw[<- hW];exact(fy.drew _).trans (fy.alloc _ _)
      have CA:Ev ({(m.with fu).gY id with fr:=m.fr}:Mem) (({(m.with fu).gY id with fr:=m.fr}:Mem).kh W s m.w.heap.size cc (.arr jN bN (es.take len++new))):=IY CC (bJ _);have ac4:=VZ.trans CA;have PX:((({(m.with fu).gY id with fr:=m.fr}:Mem)).aj s).1=(m.aj s).1:=by
       simp only[Mem.gY,aN];split
       .rename_i e';subst e';exact wP
       exact wP
      refine⟨_,({(m.with fu).gY id with fr:=m.fr}:Mem).kh W s m.w.heap.size cc (.arr jN bN (es.take len++new)),.inl (run _ _ (by rw[zD,wV];exact jF)),I0 CC (bJ _) (by rw[<- hW];simp) Nd ?_,vp.trans ac4,IZ Nd (bJ _),?_,?_⟩
      .refine⟨_,by rw[DV,Vz,<- hW];exact heap_alloc_new m.w.drew _,gE,My,by rw[qc,CK];exact Jl,by rw[qc];exact Jm,?_,?_⟩
       .rw[qc];simp only[aic,Sk,size_zeroCells,JI,js,zQ,hs,<- fZ];congr 1;omega
       have h1:=Wm.append l7;rw[<- Dw] at h1;have:((cur.toList.take (len*bN)).toArray++news.toArray++Builtin.zeroCells zv.cells (cc-(len+new.length))).toList.take ((es.take len++new).length*bN)=cur.toList.take (len*bN)++news:=by simp only[Sb,CK];exact List.take_left' (by rw[ff,ait,ait,zQ,js,hs,fZ])
       rw[this];exact dj.ev ac4.zero (dj.pw.2 h1)
      .rw[Vy,vF];simp only[app];rw[PX];rfl
      have:=Mg (m:=({(m.with fu).gY id with fr:=m.fr}:Mem)) (w':=W) (s:=s) (c:=m.w.heap.size) (ty:=jN) (sz:=bN) (es:=es.take len++new) Jl Jm;rw[PX] at this;exact this
   cases hv
  cases hv
 · -- a slice that begins within its array: its values, nobody's any more
  rename_i id g zz off len aI Gf;rw[Gf] at qk;split at hv
  .rename_i g' jN bN es ir;split at hv
   .rename_i qM;obtain⟨iG,rfl,rfl,hlen,kx,Wh,tK,an4⟩:=qM;cases hv;have Wi:id∉fr:=by simpa using Wh
    have dd:(m.with fu).aj id=m.aj id:=by
     rcases wJ qf id with ⟨e,_⟩|⟨kr,_⟩
     .exact e
     exact(Wi kr).elim
    have bn:((m.with fu).aj id).2=some (.arr jN bN es):=by rw[dd,ir]
    obtain⟨cur,hh,_,cq,hl,rJ,de,Wp⟩:=nk.obj id _ bn;have Je:cY m _ (a.eval d):=qk;generalize zD:a.eval d=dv at Je;cases Je with
    |hsl ad cap hg uG CN MU=>
     obtain⟨f1,f2,f3⟩:=MU bN (by rw[ir];exact iG) (by rw[ir];rfl);have nh:=f2 (.inr tK);subst nh;unfold room at kx;have eG:=(nk.gb id _ bn rfl).1;have hnf:=(nk.gb id _ bn rfl).2;have holds:=Fb (off:=off) (len:=len) cq (dj.pw.1 Wp) hlen;have htl:((es.drop off).take len).length=len:=by simp;omega
     rw[htl] at holds;have ann:∀x∈(es.drop off).take len,x.length=bN:=fun x hx=>cq x (wa (xv hx));have My:∀x∈(es.drop off).take len++new,x.length=bN:=by
      intro x hx;rcases eD.1 hx with hx|hx
      .exact ann x hx
      exact dM x hx
     have iu:new≠[]:=fun e=>by subst e;simp at an4
     obtain⟨b,bo,news,rfl,l7,xT⟩:=yh iu;have js:news.length=new.length*i.size:=by rw[l7.1,MR,hs]
     have CK:((es.drop off).take len++new).length=len+new.length:=by rw[ff,htl]
     have ac5:(((es.drop off).take len++new).flatten).length=(len+new.length)*bN:=by rw[F0 My,CK]
     have Ws:=holds.append l7;rw[<- Dw] at Ws;have zQ:((cur.toList.drop (off*bN)).take (len*bN)).length=len*i.size:=by rw[hs,fX,jy,Oy];have zA:cur.size=m.κ id*bN:=de;have h1:(off+len)*bN<=m.κ id*bN:=lR _ aa;rw[fZ] at h1;omega
     have vF:app (fu++[(id,(g,none))]) m.aj=dJ (m.with fu).aj id (((m.with fu).aj id).1,none):=by rw[Lo];simp only[app];rw[dd,ir,iG];rfl
     have VX:Ok w0 ((m.with fu).gY id):=Tv nk bn rfl;have anD:Ev (m.with fu) ((m.with fu).gY id):=FR bn rfl;have Wd:¬((m.with fu).gY id).fA (m.σ id):=by
      rintro ⟨j,o',h1,h2,h3⟩
      exact(VX.gb j o' h1 h2).2 (.inr h3)
     have val:∀(m2:Mem) (c0 o0 cp:Nat) (cells:List Value),Ev (m.with fu) m2-> ¬m2.own c0->cells.length=(len+new.length)*bN->(∀j v,cells[j]?=some v->m2.w.cell? ⟨c0,o0+j,none⟩=some v)->
       Pw (ch (m.with fu).w (m.with fu).own) ((es.drop off).take len++new).flatten cells->len+new.length<=cp->cp<=maxLen->bK m2 (.one (.p (.sl ((es.drop off).take len++new)))) (.slice (some ⟨c0,o0,none⟩) (len+new.length) cp):=by
      intro m2 c0 o0 cp cells dQ dk bR hce hJ h1 h2;refine mh ?_;rw[<- CK];refine .sl c0 o0 cp bN (fun j=>cells.getD j undef) (fun _=>dk) (by rw[CK];exact h1) h2 My (fun j x hj=>?_) (fun j x hj=>?_)
      .have nO:j<cells.length:=by rw[bR,<- ac5];exact(aW.1 hj).1
       rw[di,my nO];exact hce j _ (my nO)
      have nO:j<cells.length:=by rw[bR,<- ac5];exact(aW.1 hj).1
      rw[di,my nO];exact(hJ.2 j x _ hj (my nO)).ev dQ.zero
     by_cases hfit:len+new.length<=cap
     · -- in its own block
      have A0:off*bN+len*i.size+news.length<=cur.size:=by rw[js,hs,de,<- fZ,<- fZ];exact lR _ (by have f3':off+cap=m.κ id:=f3;show _<=m.κ id;omega)
      have jF:=asX (P:=P) m.w t o.type jN i ht hi (m.σ id) (off*bN) len cap cur hh ⟨b,bo,none⟩ new.length cx news js (fun j v hj=>by rw[Addr.add_lit];exact xT j v hj) (agr l7) hfit A0;generalize hW:m.w.setRow (m.σ id) (cur.toList.take (off*bN+len*i.size)++news++cur.toList.drop (off*bN+len*i.size+news.length)).toArray=W at jF;have hWh:W.heap[m.σ id]?=some (.cells (cur.toList.take (off*bN+len*i.size)++news++cur.toList.drop (off*bN+len*i.size+news.length)).toArray jN (0,0)):=by rw[<- hW];exact Oh hh
      have k1:W.os=m.w.os:=by rw[<- hW];rfl
      have k2:W.tape=m.w.tape:=by rw[<- hW];rfl
      have k3:W.output=m.w.output:=by rw[<- hW];rfl
      have k4:W.heap.size=m.w.heap.size:=by rw[<- hW];exact setRow_size m.w _ _
      have k5:∀x,x≠m.σ id->W.heap[x]?=m.w.heap[x]? :=fun x hx=>by rw[<- hW];exact setRow_other m.w (m.σ id) x _ hx
      have Wl:Ok w0 {(m.with fu).gY id with w:=W}:=agY (m:=(m.with fu).gY id) VX (.inr rfl) eG k1 k2 k3 k4 k5;have anI:Ev (m.with fu) {(m.with fu).gY id with w:=W}:=aaD bn rfl k1 k2 k3 k4 k5;have Qc:=W1 (zn:=m.fr) Wl (fun c hc=>.inl hc);have MP:Ev (m.with fu) ({({(m.with fu).gY id with w:=W}:Mem) with fr:=m.fr}:Mem):=anI.trans (QD fun c hc=>.inl hc);refine⟨_,({({(m.with fu).gY id with w:=W}:Mem) with fr:=m.fr}:Mem),.inl (run _ _ (by rw[zD,wV];exact jF)),Qc,vp.trans MP,rfl,by rw[vF];rfl,?_⟩;refine val _ (m.σ id) (off*bN) cap ((cur.toList.drop (off*bN)).take (len*bN)++news) MP ?_ (by rw[ff,zQ,js,hs,fZ]) ?_ Ws hfit CN
      .rintro (h|h)
       .exact hnf h
       exact Wd h
      intro j v hj;have bR:({({(m.with fu).gY id with w:=W}:Mem) with fr:=m.fr}:Mem).w.cell? ⟨m.σ id,off*bN+j,none⟩=(cur.toList.take (off*bN+len*i.size)++news++cur.toList.drop (off*bN+len*i.size+news.length)).toArray[off*bN+j]? :=DK hWh;rw[bR];have nO:=(aW.1 hj).1;rw[ff,zQ] at nO;have JE:(cur.toList.take (off*bN+len*i.size)).length=off*bN+len*i.size:=by rw[fX,Oy];omega
      rw[List.getElem?_toArray,yK];by_cases Gm:j<len*i.size
      .rw[uY (by rw[JE];omega),kJ,aF aa];rw[uY (by rw[zQ];exact Gm),kJ,aF (by rw[<- hs];exact Gm),xu] at hj;exact hj
      rw[v8 (by rw[JE];omega),JE,uY aa];rw[v8 (by rw[zQ];omega),zQ] at hj;rw[show off*bN+j-(off*bN+len*i.size)=j-len*i.size by omega];exact hj
     · -- a new block
      have hnlb:len+new.length<=(len+new.length)*bytes:=OJ _ Gc;have jF:=run_append_grow (P:=P) m.w t o.type jN i zv ht hi wR ⟨m.σ id,off*bN,none⟩ len cap ((cur.toList.drop (off*bN)).take (len*bN)) zQ (fun j v hj=>by
        rw[Addr.add_lit];have:(m.w.cell? ⟨m.σ id,off*bN+j,none⟩)=cur[off*bN+j]? :=DK hh;rw[this];rw[kJ] at hj;split at hj
        .rw[xu] at hj
         simpa using hj
        cases hj) ⟨b,bo,none⟩ new.length cx news js (fun j v hj=>by rw[Addr.add_lit];exact xT j v hj) aa aa (growslice_fits aa (by rw[hb];omega))
      have CM:len+new.length<=maxLen:=by simp only[maxLen];omega
      have Jl:=grownCap_ge m.w (len+new.length) cap jN;have Jm:=grownCap_le_maxLen m.w (len+new.length) cap jN CM;generalize tH:grownCap m.w (len+new.length) cap jN=cc at jF Jl Jm;generalize hW:m.w.drew.alloc (.cells (((cur.toList.drop (off*bN)).take (len*bN)).toArray++news.toArray++Builtin.zeroCells zv.cells (cc-(len+new.length))) jN)=W at jF;have Nd:=W1 (zn:=m.fr) VX (fun c hc=>.inl hc);have VZ:Ev (m.with fu) {(m.with fu).gY id with fr:=m.fr}:=anD.trans (QD (fun c hc=>.inl hc));have CC:fy ({(m.with fu).gY id with fr:=m.fr}:Mem).w W:=by rw[<- hW];exact(fy.drew _).trans (fy.alloc _ _)
      have Qc:=NH (X:=fun _=>False) Nd CC (fun c hc=>hc.elim);have MP:=VZ.trans (JQ (X:=fun _=>False) CC (fun c hc=>hc.elim));have M8:W.heap[m.w.heap.size]?=some (.cells (((cur.toList.drop (off*bN)).take (len*bN)).toArray++news.toArray++Builtin.zeroCells zv.cells (cc-(len+new.length))) jN (0,0)):=by rw[<- hW];exact heap_alloc_new m.w.drew _
      refine⟨_,({(m.with fu).gY id with fr:=m.fr}:Mem).later W (fun _=>False),.inl (run _ _ (by rw[zD,wV];exact jF)),Qc,vp.trans MP,?_,by rw[vF];rfl,?_⟩
      .funext x;simp only[Mem.later];exact propext ⟨fun h=>h.elim (fun h=>h) (fun h=>h.elim),.inl⟩
      refine val _ m.w.heap.size 0 cc ((cur.toList.drop (off*bN)).take (len*bN)++news) MP ?_ (by rw[ff,zQ,js,hs,fZ]) ?_ Ws Jl Jm
      .have an6:¬(m.with fu).own m.w.heap.size:=by
        rintro (h|⟨j,o',h1,h2,h3⟩)
        .exact Nat.lt_irrefl _ (nk.frlt _ h)
        have:=(nk.obj j o' h1).lt;rw[h3] at this;exact Nat.lt_irrefl _ this
       rintro ((h|h)|⟨j,o',h1,h2,h3⟩)
       .exact an6 (.inl h)
       .exact h
       have:=(Qc.obj j o' h1).lt;have h4:=(Nd.obj j o' h1).lt;have qd:m.σ j=m.w.heap.size:=h3;have uA:m.σ j<m.w.heap.size:=h4;omega
      intro j v hj;have bR:W.cell? ⟨m.w.heap.size,0+j,none⟩=_:=DK M8;show W.cell? ⟨m.w.heap.size,0+j,none⟩=some v;rw[bR,iQ];have nO:=(aW.1 hj).1;rw[<- HA,Sb,Sb,uY (by simpa using nO)];exact hj
   cases hv
  cases hv
 cases hv
end
end Go.Abs
