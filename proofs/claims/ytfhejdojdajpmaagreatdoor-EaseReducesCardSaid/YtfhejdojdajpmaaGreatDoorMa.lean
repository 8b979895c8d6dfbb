/-
  An abstract machine for the code of the model.
-/
import Derived.KernelRfl
import Derived.Calls
import Derived.WalkKit
set_option linter.all false
namespace Go.Abs
theorem aa{p:Prop}(h:p:=by omega):p:=h
theorem ae{p:Prop}(h:p:=by decide):p:=h
theorem af{p:Prop}(h:p:=by simp):p:=h
theorem ah{p:Prop}(h:p:=by kernel_rfl):p:=h
theorem aD:type_of% @if_neg.{1}:=@if_neg.{1}
theorem aE:type_of% @if_pos.{1}:=@if_pos.{1}
theorem aW:type_of% @List.mem_of_getElem?.{0}:=@List.mem_of_getElem?.{0}
theorem aY:type_of% @List.getElem?_eq_some_iff.{0}:=@List.getElem?_eq_some_iff.{0}
theorem bn:type_of% @Nat.zero_le:=@Nat.zero_le
theorem cA:type_of% @Nat.le_refl:=@Nat.le_refl
theorem cE:type_of% @Bool.and_eq_true:=@Bool.and_eq_true
theorem cG:type_of% @List.length_map.{0,0}:=@List.length_map.{0,0}
theorem cU:type_of% @List.getD_eq_getElem?_getD.{0}:=@List.getD_eq_getElem?_getD.{0}
theorem dh:type_of% @List.mem_cons.{0}:=@List.mem_cons.{0}
theorem dk:type_of% @beq_iff_eq.{0}:=@beq_iff_eq.{0}
theorem dp:type_of% @List.length_cons.{0}:=@List.length_cons.{0}
theorem dq:type_of% @Option.map_eq_some_iff.{0,0}:=@Option.map_eq_some_iff.{0,0}
theorem dy:type_of% @List.mem_map.{0,0}:=@List.mem_map.{0,0}
theorem dK:type_of% @Nat.mod_lt:=@Nat.mod_lt
theorem eE:type_of% @List.map_cons.{0,0}:=@List.map_cons.{0,0}
theorem eH:type_of% @Bool.false_eq_true:=@Bool.false_eq_true
theorem eP:type_of% @List.length_nil.{0}:=@List.length_nil.{0}
theorem eY:type_of% @List.take_of_length_le.{0}:=@List.take_of_length_le.{0}
theorem fe:type_of% @Option.some.injEq.{0}:=@Option.some.injEq.{0}
theorem fi:type_of% @List.mem_append.{0}:=@List.mem_append.{0}
theorem fA:type_of% @Nat.add_mul:=@Nat.add_mul
theorem fH:type_of% @List.length_append.{0}:=@List.length_append.{0}
theorem fJ:type_of% @List.mem_range:=@List.mem_range
theorem fK:type_of% @of_decide_eq_false:=@of_decide_eq_false
theorem gh:type_of% @List.getElem?_map.{0,0}:=@List.getElem?_map.{0,0}
theorem gi:type_of% @List.nil_append.{0}:=@List.nil_append.{0}
theorem gj:type_of% @Nat.le_of_ble_eq_true:=@Nat.le_of_ble_eq_true
theorem gH:type_of% @List.getElem?_of_mem.{0}:=@List.getElem?_of_mem.{0}
theorem gV:type_of% @Nat.mod_eq_of_lt:=@Nat.mod_eq_of_lt
theorem ij:type_of% @List.all_eq_true.{0}:=@List.all_eq_true.{0}
theorem iw:type_of% @List.take_add_one.{0}:=@List.take_add_one.{0}
theorem iF:type_of% @List.length_take.{0}:=@List.length_take.{0}
theorem jf:type_of% @List.take_length.{0}:=@List.take_length.{0}
theorem jt:type_of% @Nat.zero_add:=@Nat.zero_add
theorem jG:type_of% @Prod.mk.injEq.{0,0}:=@Prod.mk.injEq.{0,0}
theorem jY:type_of% @List.getElem?_take.{0}:=@List.getElem?_take.{0}
theorem km:type_of% @List.map_append.{0,0}:=@List.map_append.{0,0}
theorem kB:type_of% @Nat.lt_succ_iff_lt_or_eq:=@Nat.lt_succ_iff_lt_or_eq
theorem kD:type_of% @Nat.mul_le_mul_right:=@Nat.mul_le_mul_right
theorem kE:type_of% @Option.getD_some.{0}:=@Option.getD_some.{0}
theorem kW:type_of% @Bool.not_eq_true':=@Bool.not_eq_true'
theorem kX:type_of% @List.flatten_cons.{0}:=@List.flatten_cons.{0}
theorem kY:type_of% @List.length_pos_iff.{0}:=@List.length_pos_iff.{0}
theorem kZ:type_of% @List.map_nil.{0,0}:=@List.map_nil.{0,0}
theorem lf:type_of% @Nat.le_trans:=@Nat.le_trans
theorem lh:type_of% @decide_eq_true_eq:=@decide_eq_true_eq
theorem lT:type_of% @List.not_mem_nil.{0}:=@List.not_mem_nil.{0}
theorem mv:type_of% @Nat.not_lt_zero:=@Nat.not_lt_zero
theorem mw:type_of% @Option.map_some.{0,0}:=@Option.map_some.{0,0}
theorem nU:type_of% @List.getElem?_eq_getElem.{0}:=@List.getElem?_eq_getElem.{0}
theorem nV:type_of% @List.getElem?_eq_none.{0}:=@List.getElem?_eq_none.{0}
theorem nW:type_of% @List.getElem?_set.{0}:=@List.getElem?_set.{0}
theorem nX:type_of% @List.map_map.{0,0,0}:=@List.map_map.{0,0,0}
theorem oY:type_of% @Bool.or_eq_true:=@Bool.or_eq_true
theorem oZ:type_of% @Option.some.inj.{0}:=@Option.some.inj.{0}
theorem qh:type_of% @List.append_nil.{0}:=@List.append_nil.{0}
theorem qj:type_of% @List.nodup_cons.{0}:=@List.nodup_cons.{0}
theorem qk:type_of% @of_decide_eq_true:=@of_decide_eq_true
theorem qM:type_of% @List.all_cons.{0}:=@List.all_cons.{0}
theorem rD:type_of% @List.length_set.{0}:=@List.length_set.{0}
theorem rF:type_of% @List.mem_singleton.{0}:=@List.mem_singleton.{0}
theorem rG:type_of% @List.pairwise_cons.{0}:=@List.pairwise_cons.{0}
theorem rH:type_of% @List.range_succ:=@List.range_succ
theorem rI:type_of% @beq_eq_false_iff_ne.{0}:=@beq_eq_false_iff_ne.{0}
theorem sI:type_of% @List.getElem?_range:=@List.getElem?_range
theorem tu:type_of% @Int.eq_ofNat_of_zero_le:=@Int.eq_ofNat_of_zero_le
theorem tv:type_of% @List.all_nil.{0}:=@List.all_nil.{0}
theorem tx:type_of% @List.length_drop.{0}:=@List.length_drop.{0}
theorem tz:type_of% @List.take_append_drop.{0}:=@List.take_append_drop.{0}
theorem uy:type_of% @List.countP_cons.{0}:=@List.countP_cons.{0}
theorem uz:type_of% @List.getElem?_append_left.{0}:=@List.getElem?_append_left.{0}
theorem uA:type_of% @List.mem_filter.{0}:=@List.mem_filter.{0}
theorem uB:type_of% @List.mem_of_mem_drop.{0}:=@List.mem_of_mem_drop.{0}
theorem uC:type_of% @Nat.eq_of_beq_eq_true:=@Nat.eq_of_beq_eq_true
theorem vv:type_of% @List.countP_append.{0}:=@List.countP_append.{0}
theorem vw:type_of% @List.countP_pos_iff.{0}:=@List.countP_pos_iff.{0}
theorem vx:type_of% @List.ext_getElem.{0}:=@List.ext_getElem.{0}
theorem vz:type_of% @List.getElem?_append_right.{0}:=@List.getElem?_append_right.{0}
theorem vA:type_of% @List.length_reverse.{0}:=@List.length_reverse.{0}
theorem vB:type_of% @List.mem_cons_of_mem.{0}:=@List.mem_cons_of_mem.{0}
theorem vC:type_of% @List.mem_of_mem_take.{0}:=@List.mem_of_mem_take.{0}
theorem vD:type_of% @Nat.add_zero:=@Nat.add_zero
theorem wX:type_of% @Int.toNat_natCast:=@Int.toNat_natCast
theorem wY:type_of% @List.append_assoc.{0}:=@List.append_assoc.{0}
theorem wZ:type_of% @List.getElem?_drop.{0}:=@List.getElem?_drop.{0}
theorem w7:type_of% @List.getElem_cons_drop.{0}:=@List.getElem_cons_drop.{0}
theorem w8:type_of% @List.nodup_nil.{0}:=@List.nodup_nil.{0}
theorem w9:type_of% @Nat.add_mod_right:=@Nat.add_mod_right
theorem xe:type_of% @Nat.mod_two_eq_zero_or_one:=@Nat.mod_two_eq_zero_or_one
theorem yD:type_of% @Bool.eq_iff_iff:=@Bool.eq_iff_iff
theorem yE:type_of% @List.cons.injEq.{0}:=@List.cons.injEq.{0}
theorem yF:type_of% @Nat.zero_mul:=@Nat.zero_mul
theorem zU:type_of% @Bool.and_true:=@Bool.and_true
theorem zV:type_of% @Bool.not_true:=@Bool.not_true
theorem zW:type_of% @List.map_congr_left.{0,0}:=@List.map_congr_left.{0,0}
theorem zX:type_of% @List.map_set.{0,0}:=@List.map_set.{0,0}
theorem zY:type_of% @List.mem_append_right.{0}:=@List.mem_append_right.{0}
theorem zZ:type_of% @Nat.min_eq_left:=@Nat.min_eq_left
theorem Aa:type_of% @Nat.mod_self:=@Nat.mod_self
theorem Ab:type_of% @not_or:=@not_or
theorem BD:type_of% @Array.getD_eq_getD_getElem?.{0}:=@Array.getD_eq_getD_getElem?.{0}
theorem BE:type_of% @List.ext_getElem?.{0}:=@List.ext_getElem?.{0}
theorem BG:type_of% @List.flatten_append.{0}:=@List.flatten_append.{0}
theorem BH:type_of% @List.foldl_cons.{0,0}:=@List.foldl_cons.{0,0}
theorem BI:type_of% @List.getElem_map.{0,0}:=@List.getElem_map.{0,0}
theorem BJ:type_of% @List.length_eq_zero_iff.{0}:=@List.length_eq_zero_iff.{0}
theorem BK:type_of% @List.length_range:=@List.length_range
theorem BM:type_of% @List.pairwise_append.{0}:=@List.pairwise_append.{0}
theorem BN:type_of% @List.pairwise_map.{0,0}:=@List.pairwise_map.{0,0}
theorem BO:type_of% @Nat.lt_of_lt_of_le:=@Nat.lt_of_lt_of_le
theorem BP:type_of% @decide_eq_true:=@decide_eq_true
theorem DC:type_of% @Bool.false_or:=@Bool.false_or
theorem DD:type_of% @List.cons_append.{0}:=@List.cons_append.{0}
theorem DE:type_of% @List.countP_map.{0,0}:=@List.countP_map.{0,0}
theorem DF:type_of% @List.nodup_range:=@List.nodup_range
theorem DG:type_of% @decide_eq_false:=@decide_eq_false
theorem Fx:type_of% @Array.getElem?_toList.{0}:=@Array.getElem?_toList.{0}
theorem Fy:type_of% @Bool.and_self:=@Bool.and_self
theorem Fz:type_of% @List.any_eq_false.{0}:=@List.any_eq_false.{0}
theorem FA:type_of% @List.mem_append_left.{0}:=@List.mem_append_left.{0}
theorem FC:type_of% @List.mem_flatten.{0}:=@List.mem_flatten.{0}
theorem FD:type_of% @List.nodup_append.{0}:=@List.nodup_append.{0}
theorem FG:type_of% @Nat.add_assoc:=@Nat.add_assoc
theorem FH:type_of% @Nat.le_max_left:=@Nat.le_max_left
theorem FI:type_of% @Nat.sub_self:=@Nat.sub_self
theorem IJ:type_of% @Bool.true_and:=@Bool.true_and
theorem IK:type_of% @List.any_eq_true.{0}:=@List.any_eq_true.{0}
theorem IL:type_of% @List.countP_eq_zero.{0}:=@List.countP_eq_zero.{0}
theorem IM:type_of% @List.find?_eq_none.{0}:=@List.find?_eq_none.{0}
theorem IP:type_of% @List.getElem_range:=@List.getElem_range
theorem IQ:type_of% @List.getElem_set.{0}:=@List.getElem_set.{0}
theorem IS:type_of% @List.mem_cons_self.{0}:=@List.mem_cons_self.{0}
theorem IT:type_of% @List.mem_of_find?_eq_some.{0}:=@List.mem_of_find?_eq_some.{0}
theorem IU:type_of% @List.pairwise_iff_getElem.{0}:=@List.pairwise_iff_getElem.{0}
theorem IV:type_of% @Nat.le_max_right:=@Nat.le_max_right
theorem IW:type_of% @Nat.le_of_eq:=@Nat.le_of_eq
theorem IX:type_of% @Nat.one_mul:=@Nat.one_mul
theorem L3:type_of% @Array.length_toList.{0}:=@Array.length_toList.{0}
theorem L4:type_of% @Bool.and_assoc:=@Bool.and_assoc
theorem L5:type_of% @Bool.not_false:=@Bool.not_false
theorem L6:type_of% @Bool.not_not:=@Bool.not_not
theorem L7:type_of% @Bool.or_eq_false_iff:=@Bool.or_eq_false_iff
theorem L8:type_of% @List.contains_eq_mem.{0}:=@List.contains_eq_mem.{0}
theorem L9:type_of% @List.drop_zero.{0}:=@List.drop_zero.{0}
theorem Ma:type_of% @List.filter_append.{0}:=@List.filter_append.{0}
theorem Mb:type_of% @List.foldl_append.{0,0}:=@List.foldl_append.{0,0}
theorem Mc:type_of% @List.length_pos_of_mem.{0}:=@List.length_pos_of_mem.{0}
theorem Md:type_of% @List.mem_flatMap.{0,0}:=@List.mem_flatMap.{0,0}
theorem Me:type_of% @List.take_left.{0}:=@List.take_left.{0}
theorem Mf:type_of% @List.take_take.{0}:=@List.take_take.{0}
theorem Mg:type_of% @Nat.le_mul_of_pos_right:=@Nat.le_mul_of_pos_right
theorem Mh:type_of% @Nat.lt_or_ge:=@Nat.lt_or_ge
theorem Mi:type_of% @Nat.lt_trichotomy:=@Nat.lt_trichotomy
theorem Mj:type_of% @beq_self_eq_true.{0}:=@beq_self_eq_true.{0}
theorem Pm:type_of% @Array.getElem?_eq_some_iff.{0}:=@Array.getElem?_eq_some_iff.{0}
theorem Pn:type_of% @Array.getElem?_push.{0}:=@Array.getElem?_push.{0}
theorem Po:type_of% @Array.getElem?_setIfInBounds.{0}:=@Array.getElem?_setIfInBounds.{0}
theorem Pp:type_of% @Array.toList_append.{0}:=@Array.toList_append.{0}
theorem Pq:type_of% @List.countP_congr.{0}:=@List.countP_congr.{0}
theorem Pr:type_of% @List.countP_eq_length_filter.{0}:=@List.countP_eq_length_filter.{0}
theorem Ps:type_of% @List.countP_le_length.{0}:=@List.countP_le_length.{0}
theorem Pt:type_of% @List.drop_eq_getElem_cons.{0}:=@List.drop_eq_getElem_cons.{0}
theorem Pu:type_of% @List.eq_of_mem_replicate.{0}:=@List.eq_of_mem_replicate.{0}
theorem Pv:type_of% @List.find?_cons.{0}:=@List.find?_cons.{0}
theorem Px:type_of% @List.find?_some.{0}:=@List.find?_some.{0}
theorem Py:type_of% @List.map_drop.{0,0}:=@List.map_drop.{0,0}
theorem Pz:type_of% @List.map_take.{0,0}:=@List.map_take.{0,0}
theorem PA:type_of% @List.mem_or_eq_of_mem_set.{0}:=@List.mem_or_eq_of_mem_set.{0}
theorem PB:type_of% @List.sum_cons.{0}:=@List.sum_cons.{0}
theorem PC:type_of% @Nat.add_comm:=@Nat.add_comm
theorem PD:type_of% @Nat.mul_comm:=@Nat.mul_comm
theorem PE:type_of% @Nat.one_ne_zero:=@Nat.one_ne_zero
theorem PG:type_of% @Option.bind_eq_some_iff.{0,0}:=@Option.bind_eq_some_iff.{0,0}
theorem Wf:type_of% @List.all_eq_false.{0}:=@List.all_eq_false.{0}
theorem Wg:type_of% @List.filterMap_append.{0,0}:=@List.filterMap_append.{0,0}
theorem Wh:type_of% @List.filter_cons_of_neg.{0}:=@List.filter_cons_of_neg.{0}
theorem Wi:type_of% @List.flatten_nil.{0}:=@List.flatten_nil.{0}
theorem Wj:type_of% @List.foldl_nil.{0,0}:=@List.foldl_nil.{0,0}
theorem Wk:type_of% @List.getElem_mem.{0}:=@List.getElem_mem.{0}
theorem Wl:type_of% @List.length_erase_of_mem.{0}:=@List.length_erase_of_mem.{0}
theorem Wm:type_of% @List.length_replicate.{0}:=@List.length_replicate.{0}
theorem Wn:type_of% @List.mem_erase_of_ne.{0}:=@List.mem_erase_of_ne.{0}
theorem Wo:type_of% @List.perm_middle.{0}:=@List.perm_middle.{0}
theorem Wp:type_of% @List.set_append_right.{0}:=@List.set_append_right.{0}
theorem Wq:type_of% @List.set_getElem_self.{0}:=@List.set_getElem_self.{0}
theorem Wr:type_of% @List.size_toArray.{0}:=@List.size_toArray.{0}
theorem Ws:type_of% @List.take_append.{0}:=@List.take_append.{0}
theorem Wt:type_of% @List.take_append_of_le_length.{0}:=@List.take_append_of_le_length.{0}
theorem Wu:type_of% @List.take_succ_cons.{0}:=@List.take_succ_cons.{0}
theorem Wv:type_of% @List.take_zero.{0}:=@List.take_zero.{0}
theorem Ww:type_of% @Nat.add_sub_cancel:=@Nat.add_sub_cancel
theorem Wx:type_of% @Nat.beq_refl:=@Nat.beq_refl
theorem afx:type_of% @Array.foldl_toList.{0,0}:=@Array.foldl_toList.{0,0}
theorem afy:type_of% @Array.getElem?_append.{0}:=@Array.getElem?_append.{0}
theorem afz:type_of% @Array.size_append.{0}:=@Array.size_append.{0}
theorem afA:type_of% @Bool.and_eq_false_iff:=@Bool.and_eq_false_iff
theorem afB:type_of% @Int.tdiv_eq_ediv_of_nonneg:=@Int.tdiv_eq_ediv_of_nonneg
theorem afC:type_of% @Int.toNat_of_nonneg:=@Int.toNat_of_nonneg
theorem afD:type_of% @List.Pairwise.imp.{0}:=@List.Pairwise.imp.{0}
theorem afE:type_of% @List.drop_of_length_le.{0}:=@List.drop_of_length_le.{0}
theorem afF:type_of% @List.find?_append.{0}:=@List.find?_append.{0}
theorem afG:type_of% @List.findIdx_getElem.{0}:=@List.findIdx_getElem.{0}
theorem afH:type_of% @List.getElem?_reverse.{0}:=@List.getElem?_reverse.{0}
theorem afI:type_of% @List.idxOf_lt_length_iff.{0}:=@List.idxOf_lt_length_iff.{0}
theorem afJ:type_of% @List.map_eq_nil_iff.{0,0}:=@List.map_eq_nil_iff.{0,0}
theorem afK:type_of% @List.mem_filterMap.{0,0}:=@List.mem_filterMap.{0,0}
theorem afL:type_of% @List.mem_reverse.{0}:=@List.mem_reverse.{0}
theorem afM:type_of% @List.pairwise_flatMap.{0,0}:=@List.pairwise_flatMap.{0,0}
theorem afN:type_of% @List.pairwise_singleton.{0}:=@List.pairwise_singleton.{0}
theorem afO:type_of% @List.range_eq_range':=@List.range_eq_range'
theorem afP:type_of% @List.set_cons_zero.{0}:=@List.set_cons_zero.{0}
theorem afQ:type_of% @List.set_eq_of_length_le.{0}:=@List.set_eq_of_length_le.{0}
theorem afR:type_of% @List.take_succ_eq_append_getElem.{0}:=@List.take_succ_eq_append_getElem.{0}
theorem afS:type_of% @List.toList_toArray.{0}:=@List.toList_toArray.{0}
theorem afT:type_of% @Nat.ble_eq_true_of_le:=@Nat.ble_eq_true_of_le
theorem afU:type_of% @Nat.div_add_mod:=@Nat.div_add_mod
theorem afV:type_of% @Nat.le_of_not_lt:=@Nat.le_of_not_lt
theorem afW:type_of% @Nat.lt_or_gt_of_ne:=@Nat.lt_or_gt_of_ne
theorem afX:type_of% @Nat.mod_eq_sub_mod:=@Nat.mod_eq_sub_mod
theorem ar4:type_of% @List.eq_nil_iff_forall_not_mem.{0}:=@List.eq_nil_iff_forall_not_mem.{0}
theorem ar5:type_of% @List.eq_nil_of_length_eq_zero.{0}:=@List.eq_nil_of_length_eq_zero.{0}
theorem ar6:type_of% @List.findIdx_lt_length_of_exists.{0}:=@List.findIdx_lt_length_of_exists.{0}
inductive PV where
 |bool (b:Bool)
 |int (k:IntKind) (n:Int)
 |str (s:ByteArray)
 |th|nils|pW|wN|nili|ifc|zs
 |box (cs:List PV)
 |sl (es:List (List PV))
 |mp (ag:Bool) (es:List (PV×List PV))
 |fn (f:Nat) (first cap:List PV)
 deriving Inhabited
inductive C where
 |p (v:PV)
 |ba (id g off:Nat)
 |di (id g i off:Nat)
 |hsl (id g sz off len:Nat)
 |jP (id g:Nat)
 |hfn (f:Nat) (first cap:List C)
 deriving Inhabited
inductive V where
 |undef
 |one (c:C)
 |agg (cs:List C)
 |tup (vs:List V)
 deriving Inhabited
inductive Ob where
 |var (cs:List C)
 |arr (ty sz:Nat) (es:List (List PV))
 |gQ (ty sz:Nat) (es:List (List C))
 |map (ag:Bool) (es:List (PV×List PV))
 |fvar (cs:List PV)
 |l7 (ty sz:Nat) (es:List (List PV))
 |fmap (ag:Bool) (es:List (PV×List PV))
 deriving Inhabited
abbrev Env:=Nat->V
abbrev aA:=Nat->Nat×Option Ob
def df{α:Type}(f:Nat->α)(a:Nat)(x:α):Nat->α:=fun i=>if i=a then x else f i
theorem aS{α:Type}(f:Nat->α)(a b:Nat)(x:α):df f a x b=if b=a then x else f b:=rfl
inductive aQ where
 |t (n:Nat)
 |i (n:Int)
 |b (x:Bool)
 |k (v:V)
inductive tA where
 |bool|ptr|slc|map|fnc|ifc
 |str (ks:List Bool)
inductive my where
 |jE (x:aQ)
 |pick (c a b:aQ)
 |alloc (site:Nat) (z:List PV)
 |box (site:Nat) (x:aQ)
 |build (z:List PV) (parts:List (Nat×Nat×aQ))
 |F8 (site ty sz:Nat) (parts:List aQ)
 |load (k:Option Nat) (x:aQ)
 |store (n:Nat) (a x:aQ)
 |HL (x:aQ)
 |bin (op:BinOp) (x y:aQ)
 |eqc (k:tA) (neg:Bool) (x y:aQ)
 |un (op:UnOp) (x:aQ)
 |conv (k:IntKind) (x:aQ)
 |bstr (x:aQ)
 |mkfn (f:Nat) (first cap:List aQ)
 |mkmap (site:Nat) (ag:Bool)
 |HF (site ty sz bytes:Nat) (z:List PV) (len cap:aQ)
 |slice (sz:Nat) (x:aQ) (lo hi:Option aQ)
 |sslice (x:aQ) (lo hi:Option aQ)
 |lZ (off:Nat) (x:aQ)
 |Hu (sz:Nat) (x i:aQ)
 |FW (len sz:Nat) (x i:aQ)
 |fld (off:Nat) (k:Option Nat) (x:aQ)
 |aidx (len sz:Nat) (k:Option Nat) (x i:aQ)
 |sidx (x i:aQ)
 |lookup (kd:Nat) (z:List PV) (agg ok:Bool) (x k:aQ)
 |mupd (kd:Nat) (ag:Bool) (m k v:aQ)
 |bad
 |extract (x:aQ) (i:Nat)
 |call (site:Nat) (f:aQ) (args:List aQ)
 |slen (x:aQ)
 |La (x:aQ)
 |mlen (x:aQ)
 |append (site ty sz bytes:Nat) (s x:aQ)
 |max (x y:aQ)
 |min (x y:aQ)
 |clear (z:List PV) (x:aQ)
structure bR where
 dst:Option Nat
 op:my
 guard:Option (Nat×Bool)
 anc:Nat
inductive aK where
 |skip
 |region (draw:Bool) (ops:List bR)
 |seq (a b:aK)
 |cond (x:aQ) (a b:aK)
 |block (id:Nat) (c:aK)
 |loop (c:aK)
 |exit (id:Nat)
 |ret
 |bad
structure aX where
 ntmps:Nat
 results:List (Nat×Option (Option Nat))
 body:aK
def ev (ak:Env):aQ->V
 | .t n=>ak n
 | .i n=>.one (.p (.int .i64 n))
 | .b x=>.one (.p (.bool x))
 | .k v=>v
abbrev dY:=Nat×(Nat×Option Ob)
def app:List dY->aA->aA
 |[],b=>b
 |(i,o)::r,b=>app r (df b i o)
def PV.norm:PV->PV
 | .nils=>.sl []
 | .zs=>.sl []
 |v=>v
def toP:C->Option PV
 | .p v=>some v.norm
 |_=>none
def zP:List C->Option (List PV)
 |[]=>some []
 |c::r=>match toP c,zP r with
  |some v,some vs=>some (v::vs)
  |_,_=>none
def qq:V->Option (List C)
 | .one c=>some [c]
 | .agg cs=>some cs
 |_=>none
def collect{α β:Type}(f:α->Option (β×List Nat)):List α->Option (List β×List Nat)
 |[]=>some ([],[])
 |a::r=>match f a,collect f r with
  |some (b,x),some (bs,y)=>some (b::bs,x++y)
  |_,_=>none
def snap(aj:aA):Nat->C->Option (PV×List Nat)
 |0,_=>none
 |n+1,c=>match c with
  | .p v=>some (v.norm,[])
  | .ba id g off=>match aj id with
   |(g',some (.var cs))=>if g'=g then
     match collect (snap aj n) cs with
     |some (ps,r)=>some (.box (ps.drop off),id::r)
     |none=>none
    else none
   |(g',some (.fvar ps))=>if g'=g then some (.box (ps.drop off),[id]) else none
   |_=>none
  | .di id g i off=>match aj id with
   |(g',some (.arr _ _ es))=>if g'=g then (es[i]?).map fun e=>(.box (e.drop off),[id]) else none
   |(g',some (.l7 _ _ es))=>if g'=g then (es[i]?).map fun e=>(.box (e.drop off),[id]) else none
   |_=>none
  | .hsl id g z off len=>match aj id with
   |(g',some (.arr _ _ es))=>if g'=g/\off+len<=es.length then some (.sl ((es.drop off).take len),[id]) else none
   |(g',some (.l7 _ _ es))=>if g'=g/\off+len<=es.length then some (.sl ((es.drop off).take len),[id]) else none
   |(g',some (.gQ _ _ es))=>if g'=g/\off+len<=es.length then
     match collect (collect (snap aj n)) ((es.drop off).take len) with
     |some (ps,r)=>some (.sl ps,id::r)
     |none=>none
    else none
   |_=>none
  | .jP id g=>match aj id with
   |(g',some (.map ag es))=>if g'=g then some (.mp ag es,[id]) else none
   |(g',some (.fmap ag es))=>if g'=g then some (.mp ag es,[id]) else none
   |_=>none
  | .hfn f a b=>match collect (snap aj n) a,collect (snap aj n) b with
   |some (x,r),some (y,s)=>some (.fn f x y,r++s)
   |_,_=>none
def fM:Nat:=6
def mu(aj:aA):V->Option (V×List Nat)
 | .one c=>(snap aj fM c).map fun(v,r)=>(.one (.p v),r)
 | .agg cs=>(collect (snap aj fM) cs).map fun(vs,r)=>(.agg (vs.map .p),r)
 |_=>none
def uR(aj:aA)(all:List Nat)(id:Nat):Option (List dY):=
 match aj id with
 |(g,some (.var cs))=>match collect (snap aj fM) cs with
  |some (ps,r)=>if r.all all.contains then some [(id,(g,some (.fvar ps)))] else none
  |none=>none
 |(g,some (.arr ty sz es))=>some [(id,(g,some (.l7 ty sz es)))]
 |(g,some (.gQ ty sz es))=>match collect (collect (snap aj fM)) es with
  |some (ps,r)=>if r.all all.contains then some [(id,(g,some (.l7 ty sz ps)))] else none
  |none=>none
 |(g,some (.map ag es))=>some [(id,(g,some (.fmap ag es)))]
 |(_,none)=>none
 |_=>some []
def rU(aj:aA)(all:List Nat):List Nat->Option (List dY)
 |[]=>some []
 |i::r=>match uR aj all i,rU aj all r with
  |some a,some b=>some (a++b)
  |_,_=>none
def qx(aj:aA)(ids:List Nat):Option (List dY):=rU aj ids ids
inductive RC where
 |p (v:PV)
 |own (ty sz:Nat) (es:List (List PV))
 deriving Inhabited
inductive RV where
 |one (c:RC)
 |agg (cs:List RC)
 |tup (vs:List RV)
 deriving Inhabited
def RC.pure:RC->RC
 | .p v=>.p v
 | .own _ _ es=>.p (.sl es)
def RV.Fh:RV->RV
 | .one c=>.one c.pure
 | .agg cs=>.agg (cs.map RC.pure)
 | .tup vs=>.tup vs
def RV.pure:RV->RV
 | .tup vs=>.tup (vs.map RV.Fh)
 |v=>v.Fh
def RV.eG(b:Bool)(r:RV):RV:=match b with
 |true=>r.pure
 |false=>r
def PV.scalar:PV->Bool
 | .bool _| .int _ _| .str _| .th| .nils| .pW| .wN| .nili| .ifc| .zs=>true
 |_=>false
def RC.alone:RC->Bool
 | .p v=>v.scalar
 | .own _ _ es=>es.all fun e=>e.all PV.scalar
def fm(aj:aA)(c:C):Option (RC×List Nat×List Nat):=
 match c with
 | .p v=>some (.p v,[],[])
 | .hsl id g z 0 len=>match aj id with
  |(g',some (.arr ty sz es))=>if g'=g/\len<=es.length then some (.own ty sz (es.take len),[id],[]) else none
  |_=>(snap aj fM c).map fun(v,r)=>(.p v,[],r)
 |_=>(snap aj fM c).map fun(v,r)=>(.p v,[],r)
def iY(aj:aA):List C->Option (List RC×List Nat×List Nat)
 |[]=>some ([],[],[])
 |c::r=>match fm aj c,iY aj r with
  |some (x,o,q),some (xs,os,qs)=>some (x::xs,o++os,q++qs)
  |_,_=>none
def jx:V->Option (List C)
 | .one c=>some [c]
 | .agg cs=>some cs
 |_=>none
def qU:List V->Option (List C)
 |[]=>some []
 |v::r=>match jx v,qU r with
  |some a,some b=>some (a++b)
  |_,_=>none
def ll:V->Option (List C)
 | .tup vs=>qU vs
 |v=>jx v
def mq:V->List RC->RV×List RC
 | .one _,r::rs=>(.one r,rs)
 | .agg cs,rs=>(.agg (rs.take cs.length),rs.drop cs.length)
 |_,rs=>(.agg [],rs)
def yw:List V->List RC->List RV
 |[],_=>[]
 |v::r,rs=>(mq v rs).1::yw r (mq v rs).2
def oQ:V->List RC->RV
 | .tup vs,rs=>.tup (yw vs rs)
 |v,rs=>(mq v rs).1
def apart:List Nat->List Nat->Bool
 |[],_=>true
 |i::r,q=> !r.contains i&& !q.contains i&&apart r q
def fv(aj:aA)(v:V):Option RV:=
 match ll v with
 |some cs=>match iY aj cs with
  |some (x,o,q)=>if apart o q then some (oQ v x) else none
  |none=>none
 |none=>none
def dd(aj:aA)(site:Nat):RC->C×List dY
 | .p v=>(.p v,[])
 | .own ty sz es=>(.hsl site ((aj site).1+1) sz 0 es.length,[(site,((aj site).1+1,some (.arr ty sz es)))])
def iX(aj:aA)(site:Nat):List RC->List C×List dY
 |[]=>([],[])
 |c::r=>((dd aj site c).1::(iX aj (site+1) r).1,(dd aj site c).2++(iX aj (site+1) r).2)
def gZ:RV->List RC
 | .one c=>[c]
 | .agg cs=>cs
 | .tup _=>[]
def nu:List RV->List RC
 |[]=>[]
 |v::r=>gZ v++nu r
def gJ:RV->List RC
 | .tup vs=>nu vs
 |v=>gZ v
def mU:RV->List C->V×List C
 | .one _,c::cs=>(.one c,cs)
 | .agg rs,cs=>(.agg (cs.take rs.length),cs.drop rs.length)
 |_,cs=>(.undef,cs)
def sE:List RV->List C->List V
 |[],_=>[]
 |v::r,cs=>(mU v cs).1::sE r (mU v cs).2
def sD:RV->List C->V
 | .tup vs,cs=>.tup (sE vs cs)
 |v,cs=>(mU v cs).1
def RV.alone(r:RV):Bool:=(gJ r).all RC.alone
def gk(aj:aA)(site:Nat)(r:RV):V×List dY:=(sD r (iX aj site (gJ r)).1,(iX aj site (gJ r)).2)
inductive eQ where
 |fail
 |done (v:V) (u:List dY) (rd:List Nat)
 |pc (f:Nat) (args:List V) (rd:List Nat) (site:Nat)
 |sc (f:Nat) (args:List V)
def zI(aj:aA):V->Option (List C×List Nat)
 | .one (.p (.box cs))=>some (cs.map .p,[])
 | .one (.ba id g off)=>match aj id with
  |(g',some (.var cs))=>if g'=g then some (cs.drop off,[id]) else none
  |(g',some (.fvar cs))=>if g'=g then some ((cs.drop off).map .p,[id]) else none
  |_=>none
 | .one (.di id g i off)=>match aj id with
  |(g',some (.arr _ _ es))=>if g'=g then (es[i]?).map fun e=>((e.drop off).map .p,[id]) else none
  |(g',some (.l7 _ _ es))=>if g'=g then (es[i]?).map fun e=>((e.drop off).map .p,[id]) else none
  |(g',some (.gQ _ _ es))=>if g'=g then (es[i]?).map fun e=>(e.drop off,[id]) else none
  |_=>none
 |_=>none
def nQ(k:Option Nat)(cs:List C):Option V:=
 match k with
 |none=>match cs with
  |c::_=>some (.one c)
  |[]=>none
 |some n=>if n<=cs.length then some (.agg (cs.take n)) else none
def eh{α:Type}(cs:List α)(off:Nat)(xs:List α):List α:=cs.take off++xs++cs.drop (off+xs.length)
def yB(aj:aA)(a:V)(n:Nat)(xs:List C):eQ:=
 if xs.length≠n then .fail else
 match a with
 | .one (.ba id g off)=>match aj id with
  |(g',some (.var cs))=>if g'=g/\off+n<=cs.length then .done .undef [(id,(g,some (.var (eh cs off xs))))] [id] else .fail
  |_=>.fail
 | .one (.di id g i off)=>match aj id with
  |(g',some (.arr ty sz es))=>match es[i]?,zP xs with
   |some e,some ps=>if g'=g/\off+n<=e.length then .done .undef [(id,(g,some (.arr ty sz (es.set i (eh e off ps)))))] [id] else .fail
   |_,_=>.fail
  |_=>.fail
 |_=>.fail
def eN(aj:aA):V->Option (List (List PV)×List Nat×List Nat)
 | .one (.p .nils)=>some ([],[],[])
 | .one (.p (.sl es))=>some (es,[],[])
 | .one (.hsl id g z off len)=>match aj id with
  |(g',some (.arr _ _ es))=>if g'=g/\off+len<=es.length then some ((es.drop off).take len,[id],[]) else none
  |(g',some (.l7 _ _ es))=>if g'=g/\off+len<=es.length then some ((es.drop off).take len,[id],[]) else none
  |(g',some (.gQ _ _ es))=>if g'=g/\off+len<=es.length then
    match collect (collect (snap aj fM)) ((es.drop off).take len) with
    |some (ps,r)=>some (ps,[id],r)
    |none=>none
   else none
  |_=>if len=0 then some ([],[id],[]) else none
 |_=>none
def eC(sz:Nat)(es:List (List PV)):Bool:=es.all fun e=>e.length==sz
def lQ:V->Option Nat
 | .one (.hsl _ _ z _ _)=>some z
 |_=>none
def room:Nat:=140737488355328
def eO(aj:aA)(site ty sz bytes:Nat)(s x:V):eQ:=
 match eN aj x with
 |none=>.fail
 |some (new,rd,fr)=>
  if ¬(lQ x=some sz\/eC sz new=true) then .fail else
  match qx aj fr with
  |none=>.fail
  |some fu=>
   match s with
   | .one (.p .nils)=>
    if new.length=0 then .done (.one (.p .nils)) fu (rd++fr) else
    if new.length*bytes<=room then
     .done (.one (.hsl site ((aj site).1+1) sz 0 new.length)) (fu++[(site,((aj site).1+1,some (.arr ty sz new)))]) (site::rd++fr)
    else .fail
   | .one (.p .zs)=>
    if new.length=0 then .fail else
    if new.length*bytes<=room then
     .done (.one (.hsl site ((aj site).1+1) sz 0 new.length)) (fu++[(site,((aj site).1+1,some (.arr ty sz new)))]) (site::rd++fr)
    else .fail
   | .one (.hsl id g z 0 len)=>match aj id with
    |(g',some (.arr je bN es))=>
     if g'=g/\je=ty/\bN=sz/\len<=es.length/\(len+new.length)*bytes<=room/\fr.contains id=false then
      .done (.one (.hsl site ((aj site).1+1) sz 0 (len+new.length)))
       (fu++[(id,(g,none)),(site,((aj site).1+1,some (.arr ty sz (es.take len++new))))]) (site::id::rd++fr)
     else .fail
    |_=>.fail
   | .one (.hsl id g z off len)=>match aj id with
    |(g',some (.arr je bN es))=>
     if g'=g/\je=ty/\bN=sz/\off+len<=es.length/\(len+new.length)*bytes<=room/\fr.contains id=false/\0<len/\0<new.length then
      .done (.one (.p (.sl ((es.drop off).take len++new)))) (fu++[(id,(g,none))]) (id::rd++fr)
     else .fail
    |_=>.fail
   |_=>.fail
def mZ:V->Option Nat
 | .one (.p (.int _ n))=>if 0<=n then some n.toNat else none
 |_=>none
def qp(ak:Env)(d:Nat):Option aQ->Option Nat
 |none=>some d
 |some a=>mZ (ev ak a)
def Bq(x:V)(sz lo hi:Nat):eQ:=
 if ¬lo<=hi then .fail else
 match x with
 | .one (.p .nils)=>if hi=0 then .done (.one (.p .nils)) [] [] else .fail
 | .one (.p (.sl es))=>if hi<=es.length/\eC sz es=true then .done (.one (.p (.sl ((es.drop lo).take (hi-lo))))) [] [] else .fail
 | .one (.hsl id g z off len)=>if hi<=len/\z=sz then .done (.one (.hsl id g z (off+lo) (hi-lo))) [] [] else .fail
 |_=>.fail
def wJ:V->Option Nat
 | .one (.p .nils)=>some 0
 | .one (.p (.sl es))=>some es.length
 | .one (.hsl _ _ _ _ len)=>some len
 |_=>none
def zt(aj:aA):V->Option (Nat×List Nat)
 | .one (.p .pW)=>some (0,[])
 | .one (.p (.mp _ es))=>some (es.length,[])
 | .one (.jP id g)=>match aj id with
  |(g',some (.map _ es))=>if g'=g then some (es.length,[id]) else none
  |(g',some (.fmap _ es))=>if g'=g then some (es.length,[id]) else none
  |_=>none
 |_=>none
def mapOf(aj:aA)(ag:Bool):V->Option (List (PV×List PV)×List Nat)
 | .one (.p .pW)=>some ([],[])
 | .one (.p (.mp qm es))=>if qm=ag then some (es,[]) else none
 | .one (.jP id g)=>match aj id with
  |(g',some (.map qm es))=>if g'=g/\qm=ag then some (es,[id]) else none
  |(g',some (.fmap qm es))=>if g'=g/\qm=ag then some (es,[id]) else none
  |_=>none
 |_=>none
def sameKey:PV->PV->Option Bool
 | .int k a,.int k' b=>if k=k' then some (a==b) else none
 | .str a,.str b=>some (a==b)
 | .bool a,.bool b=>some (a==b)
 |_,_=>none
def iK:PV->Nat
 | .int _ _=>0
 | .str _=>1
 | .bool _=>2
 |_=>3
def mapVal:Bool->List PV->Option V
 |true,cs=>some (.agg (cs.map .p))
 |false,[c]=>some (.one (.p c))
 |false,_=>none
def uP(k:PV):List (PV×List PV)->Nat->Option (Option (Nat×List PV))
 |[],_=>some none
 |(a,v)::r,i=>match sameKey k a with
  |some true=>some (some (i,v))
  |some false=>uP k r (i+1)
  |none=>none
def Ap:Bool->V->Option (List C)
 |false,.one c=>some [c]
 |true,.agg cs=>some cs
 |_,_=>none
def rL(op:BinOp)(k:IntKind)(a b:Int):Option PV:=
 match op with
 | .add=>some (.int k (k.wrap (a+b)))
 | .sub=>some (.int k (k.wrap (a-b)))
 | .mul=>some (.int k (k.wrap (a*b)))
 | .quo=>if b=0 then none else some (.int k (k.wrap (a.tdiv b)))
 | .rem=>if b=0 then none else some (.int k (a.tmod b))
 | .eql=>some (.bool (a==b))
 | .neq=>some (.bool (a !=b))
 | .lss=>some (.bool (decide (a<b)))
 | .leq=>some (.bool (decide (a<=b)))
 | .gtr=>some (.bool (decide (b<a)))
 | .geq=>some (.bool (decide (b<=a)))
 | .and=>some (.int k (k.wrap (BitVec.ofInt k.bits a&&& BitVec.ofInt k.bits b).toNat))
 | .shl=>if b<0 then none else some (.int k (k.wrap (a*2 ^ min b.toNat k.bits)))
 | .shr=>if b<0 then none else some (.int k (a.fdiv (2 ^ min b.toNat k.bits)))
 |_=>none
def Jg(op:BinOp)(a b:ByteArray):Option PV:=
 match op with
 | .add=>if a.size+b.size<=9223372036854775807 then some (.str (a++b)) else none
 | .eql=>some (.bool (a.toList==b.toList))
 | .neq=>some (.bool (!(a.toList==b.toList)))
 |_=>none
def pE(op:BinOp):V->V->Option V
 | .one (.p (.int k a)),.one (.p (.int k' b))=>if k=k'\/op=.shl\/op=.shr then (rL op k a b).map fun v=>.one (.p v) else none
 | .one (.p (.str a)),.one (.p (.str b))=>(Jg op a b).map fun v=>.one (.p v)
 |_,_=>none
def rQ:Bool->PV->PV->Option Bool
 |true,.int k a,.int k' b=>if k=k' then some (a==b) else none
 |false,.bool a,.bool b=>some (a==b)
 |_,_,_=>none
def sQ:List Bool->List C->List C->Option Bool
 |[],[],[]=>some true
 |k::ks,.p a::r,.p b::s=>match rQ k a b with
  |some true=>sQ ks r s
  |some false=>some false
  |none=>none
 |_,_,_=>none
def EN:tA->V->Option Bool
 | .ptr,.one (.p .th)=>some true
 | .ptr,.one (.p (.box _))=>some false
 | .ptr,.one (.ba _ _ _)=>some false
 | .ptr,.one (.di _ _ _ _)=>some false
 | .slc,.one (.p .nils)=>some true
 | .slc,.one (.p (.sl (_::_)))=>some false
 | .slc,.one (.hsl _ _ _ _ _)=>some false
 | .map,.one (.p .pW)=>some true
 | .map,.one (.p (.mp _ _))=>some false
 | .map,.one (.jP _ _)=>some false
 | .fnc,.one (.p .wN)=>some true
 | .fnc,.one (.p (.fn _ _ _))=>some false
 | .fnc,.one (.hfn _ _ _)=>some false
 | .ifc,.one (.p .nili)=>some true
 | .ifc,.one (.p .ifc)=>some false
 |_,_=>none
def AL:tA->V->V->Option Bool
 | .bool,.one (.p (.bool a)),.one (.p (.bool b))=>some (a==b)
 | .str ks,.agg a,.agg b=>sQ ks a b
 | .bool,_,_=>none
 | .str _,_,_=>none
 |k,a,b=>if EN k b=some true then EN k a else if EN k a=some true then EN k b else none
def fill(cs:List C):List (Nat×List C)->List C
 |[]=>cs
 |(off,xs)::r=>fill (eh cs off xs) r
def wO(ak:Env):List (Nat×Nat×aQ)->Option (List (Nat×List C))
 |[]=>some []
 |(off,n,a)::r=>match qq (ev ak a),wO ak r with
  |some cs,some q=>if cs.length=n then some ((off,cs)::q) else none
  |_,_=>none
def xD(ak:Env)(sz:Nat):List aQ->Option (List (List C))
 |[]=>some []
 |a::r=>match qq (ev ak a),xD ak sz r with
  |some cs,some q=>if cs.length=sz then some (cs::q) else none
  |_,_=>none
def zQ:List (List C)->Option (List (List PV))
 |[]=>some []
 |c::r=>match zP c,zQ r with
  |some v,some vs=>some (v::vs)
  |_,_=>none
def Cf(ak:Env)(a:aQ):Option (Nat×List C×List C):=
 match ev ak a with
 | .one (.p (.fn f x y))=>some (f,x.map .p,y.map .p)
 | .one (.hfn f x y)=>some (f,x,y)
 |_=>none
def zO(aj:aA):List V->Option (List V×List Nat):=collect (mu aj)
def bytesOf:List (List PV)->Option (List UInt8)
 |[]=>some []
 |[.int .u8 n]::r=>(bytesOf r).map (UInt8.ofNat n.toNat:: ·)
 |_::_=>none
def uj(ak:Env):List aQ->Option (List C)
 |[]=>some []
 |a::r=>match ev ak a,uj ak r with
  | .one c,some q=>some (c::q)
  |_,_=>none
def bl(shared:Nat->Bool)(ak:Env)(aj:aA):my->eQ
 | .jE x=>.done (ev ak x) [] []
 | .pick c a b=>match ev ak c with
  | .one (.p (.bool t))=>.done (if t then ev ak a else ev ak b) [] []
  |_=>.fail
 | .alloc s z=>.done (.one (.ba s ((aj s).1+1) 0)) [(s,((aj s).1+1,some (.var (z.map .p))))] [s]
 | .box s x=>match qq (ev ak x) with
  |some cs=>.done (.one (.ba s ((aj s).1+1) 0)) [(s,((aj s).1+1,some (.var cs)))] [s]
  |none=>.fail
 | .build z ps=>match wO ak ps with
  |some q=>.done (.agg (fill (z.map .p) q)) [] []
  |none=>.fail
 | .F8 s ty sz ps=>match xD ak sz ps with
  |some es=>match zQ es with
   |some qs=>.done (.one (.hsl s ((aj s).1+1) sz 0 es.length)) [(s,((aj s).1+1,some (.arr ty sz qs)))] [s]
   |none=>.done (.one (.hsl s ((aj s).1+1) sz 0 es.length)) [(s,((aj s).1+1,some (.gQ ty sz es)))] [s]
  |none=>.fail
 | .load k x=>match zI aj (ev ak x) with
  |some (cs,r)=>match nQ k cs with
   |some v=>.done v [] r
   |none=>.fail
  |none=>.fail
 | .store n a x=>match qq (ev ak x) with
  |some xs=>yB aj (ev ak a) n xs
  |none=>.fail
 | .HL x=>match ev ak x with
  | .one (.ba id g o)=>.done (.one (.ba id g o)) [] []
  | .one (.di id g i o)=>.done (.one (.di id g i o)) [] []
  | .one (.p (.box cs))=>.done (.one (.p (.box cs))) [] []
  | .one (.hfn f a b)=>.done (.one (.hfn f a b)) [] []
  | .one (.p (.fn f a b))=>.done (.one (.p (.fn f a b))) [] []
  |_=>.fail
 | .bin op x y=>match pE op (ev ak x) (ev ak y) with
  |some v=>.done v [] []
  |none=>.fail
 | .eqc k neg x y=>match AL k (ev ak x) (ev ak y) with
  |some b=>.done (.one (.p (.bool (if neg then !b else b)))) [] []
  |none=>.fail
 | .un op x=>match op,ev ak x with
  | .not,.one (.p (.bool b))=>.done (.one (.p (.bool (!b)))) [] []
  | .neg,.one (.p (.int k n))=>.done (.one (.p (.int k (k.wrap (0-n))))) [] []
  |_,_=>.fail
 | .conv k x=>match ev ak x with
  | .one (.p (.int _ n))=>.done (.one (.p (.int k (k.wrap n)))) [] []
  |_=>.fail
 | .bstr x=>match eN aj (ev ak x) with
  |some (es,r,[])=>match bytesOf es with
   |some bs=>.done (.one (.p (.str ⟨bs.toArray⟩))) [] r
   |none=>.fail
  |_=>.fail
 | .mkfn f a b=>match uj ak a,uj ak b with
  |some x,some y=>.done (.one (.hfn f x y)) [] []
  |_,_=>.fail
 | .mkmap s ag=>.done (.one (.jP s ((aj s).1+1))) [(s,((aj s).1+1,some (.map ag [])))] [s]
 | .HF s ty sz bytes z l c=>match mZ (ev ak l),mZ (ev ak c) with
  |some n,some m=>if n=m/\n*bytes<=room then
    .done (.one (.hsl s ((aj s).1+1) sz 0 n)) [(s,((aj s).1+1,some (.arr ty sz (List.replicate n z))))] [s]
   else .fail
  |_,_=>.fail
 | .slice sz x lo hi=>match wJ (ev ak x) with
  |some n=>match qp ak 0 lo,qp ak n hi with
   |some l,some h=>Bq (ev ak x) sz l h
   |_,_=>.fail
  |none=>.fail
 | .sslice x lo hi=>match ev ak x with
  | .one (.p (.str s))=>match qp ak 0 lo,qp ak s.size hi with
   |some l,some h=>if l<=h/\h<=s.size then .done (.one (.p (.str (s.extract l h)))) [] [] else .fail
   |_,_=>.fail
  |_=>.fail
 | .lZ off x=>match ev ak x with
  | .one (.ba id g o)=>.done (.one (.ba id g (o+off))) [] []
  | .one (.di id g i o)=>.done (.one (.di id g i (o+off))) [] []
  | .one (.p (.box cs))=>.done (.one (.p (.box (cs.drop off)))) [] []
  |_=>.fail
 | .Hu sz x i=>match mZ (ev ak i),ev ak x with
  |some n,.one (.p (.sl es))=>match es[n]? with
   |some e=>if e.length=sz then .done (.one (.p (.box e))) [] [] else .fail
   |none=>.fail
  |some n,.one (.hsl id g z off len)=>if n<len/\z=sz then .done (.one (.di id g (off+n) 0)) [] [] else .fail
  |_,_=>.fail
 | .FW len sz x i=>match mZ (ev ak i),ev ak x with
  |some n,.one (.ba id g o)=>if n<len then .done (.one (.ba id g (o+n*sz))) [] [] else .fail
  |some n,.one (.di id g j o)=>if n<len then .done (.one (.di id g j (o+n*sz))) [] [] else .fail
  |some n,.one (.p (.box cs))=>if n<len then .done (.one (.p (.box (cs.drop (n*sz))))) [] [] else .fail
  |_,_=>.fail
 | .fld off k x=>match ev ak x with
  | .agg cs=>match nQ k (cs.drop off) with
   |some v=>.done v [] []
   |none=>.fail
  |_=>.fail
 | .aidx len sz k x i=>match mZ (ev ak i),ev ak x with
  |some n,.agg cs=>if n<len then
    match nQ k (cs.drop (n*sz)) with
    |some v=>.done v [] []
    |none=>.fail
   else .fail
  |_,_=>.fail
 | .sidx x i=>match mZ (ev ak i),ev ak x with
  |some n,.one (.p (.str s))=>match s[n]? with
   |some b=>.done (.one (.p (.int .u8 b.toNat))) [] []
   |none=>.fail
  |_,_=>.fail
 | .lookup kd z agg ok x k=>match mapOf aj agg (ev ak x),ev ak k with
  |some (es,r),.one (.p q)=>if iK q≠kd then .fail else match uP q es 0 with
   |some f=>match mapVal agg ((f.map (·.2)).getD z) with
    |some w=>.done (if ok then .tup [w,.one (.p (.bool f.isSome))] else w) [] r
    |none=>.fail
   |none=>.fail
  |_,_=>.fail
 | .bad=>.fail
 | .mupd kd ag m k v=>match ev ak m,ev ak k,Ap ag (ev ak v) with
  | .one (.jP id g),.one (.p q),some cs=>match aj id,zP cs with
   |(g',some (.map qm es)),some ps=>if g'=g/\qm=ag/\iK q=kd then
     match uP q es 0 with
     |some (some (i,_))=>.done .undef [(id,(g,some (.map ag (es.set i (q,ps)))))] [id]
     |some none=>.done .undef [(id,(g,some (.map ag (es++[(q,ps)]))))] [id]
     |none=>.fail
    else .fail
   |_,_=>.fail
  |_,_,_=>.fail
 | .extract x i=>match ev ak x with
  | .tup vs=>match vs[i]? with
   |some v=>.done v [] []
   |none=>.fail
  |_=>.fail
 | .call s f as=>match Cf ak f with
  |some (g,a,b)=>
   if shared g then .sc g (a.map .one++as.map (ev ak)++b.map .one)
   else match zO aj (a.map .one++as.map (ev ak)++b.map .one) with
    |some (vs,r)=>.pc g vs r s
    |none=>.fail
  |none=>.fail
 | .slen x=>match ev ak x with
  | .one (.p (.str s))=>.done (.one (.p (.int .i64 s.size))) [] []
  |_=>.fail
 | .La x=>match wJ (ev ak x) with
  |some n=>.done (.one (.p (.int .i64 n))) [] []
  |none=>.fail
 | .mlen x=>match zt aj (ev ak x) with
  |some (n,r)=>.done (.one (.p (.int .i64 n))) [] r
  |none=>.fail
 | .append s ty sz bytes d x=>eO aj s ty sz bytes (ev ak d) (ev ak x)
 | .max x y=>match ev ak x,ev ak y with
  | .one (.p (.int k a)),.one (.p (.int _ b))=>.done (.one (.p (.int k (if b>a then b else a)))) [] []
  |_,_=>.fail
 | .min x y=>match ev ak x,ev ak y with
  | .one (.p (.int k a)),.one (.p (.int _ b))=>.done (.one (.p (.int k (if b<a then b else a)))) [] []
  |_,_=>.fail
 | .clear z x=>match ev ak x with
  | .one (.p .nils)=>.done (.tup []) [] []
  | .one (.p (.sl []))=>.done (.tup []) [] []
  | .one (.hsl id g _ off len)=>if len=0 then .done (.tup []) [] [] else match aj id with
   |(g',some (.arr ty sz es))=>if g'=g/\sz=z.length/\off+len<=es.length then .done (.tup []) [(id,(g,some (.arr ty sz (eh es off (List.replicate len z)))))] [id] else .fail
   |_=>.fail
  |_=>.fail
structure cn where
 rd:List Nat
 wr:List Nat
 fs:List Nat
structure Al where
 any:Bool
 ids:List Nat
 fs:List Nat
def Al.all:Al:=⟨true,[],[]⟩
def mr(id:Nat):Nat:=id/64000000
def Al.ok(a:Al)(id:Nat):Bool:=a.any||a.ids.contains id||a.fs.contains (mr id)
def Al.fE(a:Al)(l:List Nat):Bool:=l.all a.ok
def Al.holds(a b:Al):Bool:=a.any||(a.fE b.ids&&b.fs.all a.fs.contains)
structure Ctx where
 shared:Nat->Bool
 sites:Nat->List Nat
 lone:Nat->Bool
 al:Al
def kU(aj:aA):Nat->C->List Nat
 |0,_=>[]
 |n+1,c=>match c with
  | .p _=>[]
  | .ba id _ _=>id::match aj id with
   |(_,some (.var cs))=>(cs.map (kU aj n)).flatten
   |_=>[]
  | .di id _ _ _=>id::match aj id with
   |(_,some (.gQ _ _ es))=>(es.flatten.map (kU aj n)).flatten
   |_=>[]
  | .hsl id _ _ _ _=>id::match aj id with
   |(_,some (.gQ _ _ es))=>(es.flatten.map (kU aj n)).flatten
   |_=>[]
  | .jP id _=>[id]
  | .hfn _ a b=>(a.map (kU aj n)).flatten++(b.map (kU aj n)).flatten
def jr(aj:aA):V->List Nat
 | .one c=>kU aj fM c
 | .agg cs=>(cs.map (kU aj fM)).flatten
 |_=>[]
def allow(sh:Ctx)(f:Nat)(vs:List V)(aj:aA):Al:=⟨false,(vs.map (jr aj)).flatten,sh.sites f⟩
def put(ak:Env)(d:Option Nat)(v:V):Env:=
 match d with
 |some t=>df ak t v
 |none=>ak
abbrev fp:=Nat->List V->Option RV
abbrev jh:=Nat->List V->Al->aA->Option (V×aA)
def land(aj:aA)(rd:List Nat)(site:Nat)(r:RV):Option (V×List dY):=
 if rd=[]\/r.alone then some (gk aj site r)
 else match qx aj rd with
  |some u=>some ((gk aj site r).1,u++(gk aj site r).2)
  |none=>none
def wanted(ak:Env):Option (Nat×Bool)->Option Bool
 |none=>some true
 |some (t,want)=>match ak t with
  | .one (.p (.bool b))=>some (b==want)
  | .undef=>some false
  |_=>none
def step1(sh:Ctx)(cp:fp)(cs:jh)(o:bR)(ak:Env)(aj:aA):Option (Env×aA×cn):=
 match wanted ak o.guard with
 |none=>none
 |some false=>some (put ak o.dst .undef,aj,⟨[],[],[]⟩)
 |some true=>match bl sh.shared ak aj o.op with
  | .fail=>none
  | .done v u r=>if sh.al.fE (r++u.map (·.1)) then some (put ak o.dst v,app u aj,⟨r,u.map (·.1),[]⟩) else none
  | .pc f vs r s=>match cp f vs with
   |some x=>match land aj r s (x.eG (sh.lone s)) with
    |some (v,u)=>if sh.al.fE (r++u.map (·.1)) then some (put ak o.dst v,app u aj,⟨r++u.map (·.1),u.map (·.1),[]⟩) else none
    |none=>none
   |none=>none
  | .sc f vs=>if sh.al.holds (allow sh f vs aj) then
    match cs f vs (allow sh f vs aj) aj with
    |some (v,ao)=>some (put ak o.dst v,ao,⟨(allow sh f vs aj).ids,(allow sh f vs aj).ids,(allow sh f vs aj).fs⟩)
    |none=>none
   else none
def steps(sh:Ctx)(cp:fp)(cs:jh):List bR->Env->aA->Option (Env×aA×List cn)
 |[],ak,aj=>some (ak,aj,[])
 |o::r,ak,aj=>match step1 sh cp cs o ak aj with
  |some (aI,ao,e)=>match steps sh cp cs r aI ao with
   |some (JA,F5,es)=>some (JA,F5,e::es)
   |none=>none
  |none=>none
def meets(a b:List Nat):Bool:=a.any fun i=>b.contains i
def yk(fs ids:List Nat):Bool:=ids.any fun i=>fs.contains (mr i)
def xu(a b:cn):Bool:=meets a.wr b.rd||meets a.wr b.wr||meets a.rd b.wr||meets a.fs b.fs||yk a.fs (b.rd++b.wr)||yk b.fs (a.rd++a.wr)
def Dg(anc:Nat)(e:cn):Nat->List cn->Bool
 |_,[]=>true
 |j,x::r=>(anc.testBit j|| !xu x e)&&Dg anc e (j+1) r
def nM:List bR->List cn->List cn->Bool
 |o::os,past,e::es=>Dg o.anc e 0 past&&nM os (past++[e]) es
 |_,_,_=>true
inductive lk where
 |normal
 |exit (id:Nat)
 |ret
def iter(f:Env->aA->Option (lk×Env×aA)):Nat->Env->aA->Option (lk×Env×aA)
 |0,_,_=>none
 |n+1,ak,aj=>match f ak aj with
  |some (.normal,aI,ao)=>iter f n aI ao
  |r=>r
def exec(sh:Ctx)(cp:fp)(cs:jh)(n:Nat):aK->Env->aA->Option (lk×Env×aA)
 | .skip,ak,aj=>some (.normal,ak,aj)
 | .region d ops,ak,aj=>match steps sh cp cs ops ak aj with
  |some (aI,ao,es)=>if d then (if nM ops [] es then some (.normal,aI,ao) else none) else some (.normal,aI,ao)
  |none=>none
 | .seq a b,ak,aj=>match exec sh cp cs n a ak aj with
  |some (.normal,aI,ao)=>exec sh cp cs n b aI ao
  |r=>r
 | .cond x a b,ak,aj=>match ev ak x with
  | .one (.p (.bool t))=>if t then exec sh cp cs n a ak aj else exec sh cp cs n b ak aj
  |_=>none
 | .block id c,ak,aj=>match exec sh cp cs n c ak aj with
  |some (.exit i,aI,ao)=>if i=id then some (.normal,aI,ao) else some (.exit i,aI,ao)
  |r=>r
 | .loop c,ak,aj=>iter (exec sh cp cs n c) n ak aj
 | .exit id,ak,aj=>some (.exit id,ak,aj)
 | .ret,ak,aj=>some (.ret,ak,aj)
 | .bad,_,_=>none
def qH(args:List V):Env:=fun i=>args.getD i .undef
def Oc:V->Option V
 | .tup _=>none
 |v=>some v
def mV(al:Al)(ak:Env)(aj:aA):List (Nat×Option (Option Nat))->Option (List V)
 |[]=>some []
 |(t,none)::r=>match Oc (ak t),mV al ak aj r with
  |some v,some q=>some (v::q)
  |_,_=>none
 |(t,some k)::r=>match zI aj (ak t),mV al ak aj r with
  |some (cs,rd),some q=>if al.fE rd then (nQ k cs).map (· ::q) else none
  |_,_=>none
def yA:List V->V
 |[v]=>v
 |vs=>.tup vs
def zA:aA:=fun _=>(0,none)
def qd(sh:Ctx)(cp:fp)(cs:jh)(n:Nat)(fn:aX)(args:List V)(aj:aA):Option (V×aA):=
 match exec sh cp cs n fn.body (qH args) aj with
 |some (.normal,ak,ao)=>(mV sh.al ak ao fn.results).map fun vs=>(yA vs,ao)
 |some (.ret,ak,ao)=>(mV sh.al ak ao fn.results).map fun vs=>(yA vs,ao)
 |_=>none
def Dq(sh:Ctx)(cp:fp)(cs:jh)(n:Nat)(fn:aX)(args:List V):Option RV:=
 match qd sh cp cs n fn args zA with
 |some (v,aj)=>fv aj v
 |none=>none
structure Sys where
 P:Program
 shared:Nat->Bool
 sites:Nat->List Nat
 lone:Nat->Bool
 fns:Nat->Option aX
 prim:Nat->List V->Option (Option RV)
 trig:Nat->List V->Bool:=fun _ _=>false
 primS:Nat->List V->Al->aA->Option (V×List dY):=fun _ _ _ _=>none
def Sys.ctx(S:Sys)(a:Al):Ctx:=⟨S.shared,S.sites,S.lone,a⟩
mutual
def fL(S:Sys):Nat->fp
 |0,_,_=>none
 |n+1,f,args=>match S.prim f args with
  |some r=>r
  |none=>match S.fns f with
   |some fn=>if args.length<=fn.ntmps then Dq (S.ctx .all) (fL S n) (fD S n) n fn args else none
   |none=>none
def fD(S:Sys):Nat->jh
 |0,_,_,_,_=>none
 |n+1,f,args,al,aj=>if S.trig f args=true then (S.primS f args al aj).map (fun r=>(r.1,app r.2 aj)) else match S.fns f with
  |some fn=>if args.length<=fn.ntmps then qd (S.ctx al) (fL S n) (fD S n) n fn args aj else none
  |none=>none
end
def aJ(S:Sys)(f:Nat)(args:List V)(r:RV):Prop:= ∃n,fL S n f args=some r
def iA(S:Sys)(f:Nat)(args:List V)(al:Al)(aj:aA)(v:V)(ao:aA):Prop:= ∃n,fD S n f args al aj=some (v,ao)
abbrev dS:=lk->Env->aA->Prop
def W (S:Sys)(al:Al)(c:aK)(Q:dS)(ak:Env)(aj:aA):Prop:=∃n e aI ao,exec (S.ctx al) (fL S n) (fD S n) n c ak aj=some (e,aI,ao)/\Q e aI ao
def WO (S:Sys)(al:Al)(ops:List bR)(Q:Env->aA->List cn->Prop)(ak:Env)(aj:aA)(tr:List cn):Prop:=∃n aI ao es,steps (S.ctx al) (fL S n) (fD S n) ops ak aj=some (aI,ao,es)/\Q aI ao (tr++es)
end Go.Abs
namespace Go.Abs
section
variable{m n:Nat}
def FM(a b:fp):Prop:=∀f x r,a f x=some r->b f x=some r
def SLe(a b:jh):Prop:=∀f x l k r,a f x l k=some r->b f x l k=some r
section
variable {sh:Ctx} {cp lX:fp} {cs B9:jh} (hp:FM cp lX) (hs:SLe cs B9)
include hp hs
theorem aeS{o:bR}{ak:Env}{aj:aA}{r:Env×aA×cn}(h:step1 sh cp cs o ak aj=some r):step1 sh lX B9 o ak aj=some r:=by
 unfold step1 at h ⊢;cases hw:wanted ak o.guard with
 |none=>simp[hw] at h
 |some b=>
  cases b with
  |false=>simpa [hw] using h
  |true=>
   simp only[hw] at h ⊢;cases bG:bl sh.shared ak aj o.op with
   |fail=>simp[bG] at h
   |done v u rd=>simpa [bG] using h
   |pc f vs rd s=>
    simp only[bG] at h ⊢;cases hc:cp f vs with
    |none=>simp[hc] at h
    |some x=>rw[hp _ _ _ hc];simpa [hc] using h
   |sc f vs=>
    simp only[bG] at h ⊢;split at h
    .rename_i ha;rw[aE ha];cases hc:cs f vs (allow sh f vs aj) aj with
     |none=>simp[hc] at h
     |some x=>rw[hs _ _ _ _ _ hc];simpa [hc] using h
    cases h
theorem aeW:∀ {ops:List bR} {ak:Env} {aj:aA} {r:Env×aA×List cn},steps sh cp cs ops ak aj=some r->steps sh lX B9 ops ak aj=some r:=by
 intro ops
 induction ops with
 |nil=>intro ak aj r h;simpa [steps] using h
 |cons o os ih=>
  intro ak aj r h;simp only[steps] at h ⊢;cases h1:step1 sh cp cs o ak aj with
  |none=>simp[h1] at h
  |some x=>
   obtain⟨e1,b1,f1⟩:=x;rw[aeS hp hs h1];simp only[h1] at h ⊢;cases h2:steps sh cp cs os e1 b1 with
   |none=>simp[h2] at h
   |some y=>rw[ih h2];simpa [h2] using h
omit hp hs in
theorem abo{f g:Env->aA->Option (lk×Env×aA)}(hfg:∀e b r,f e b=some r->g e b=some r):
  ∀ {n m:Nat} {ak:Env} {aj:aA} {r:lk×Env×aA},n<=m->iter f n ak aj=some r->iter g m ak aj=some r:=by
 intro n
 induction n with
 |zero=>intro m ak aj r _ h;simp[iter] at h
 |succ n ih=>
  intro m ak aj r hm h;obtain⟨m,rfl⟩:∃k,m=k+1:=⟨m-1,aa⟩;simp only[iter] at h ⊢;cases hf:f ak aj with
  |none=>simp[hf] at h
  |some x=>
   obtain⟨e,e1,b1⟩:=x;rw[hfg _ _ _ hf];cases e with
   |normal=>simp only[hf] at h ⊢;exact ih aa h
   |exit i=>simpa [hf] using h
   |ret=>simpa [hf] using h
theorem YC(CI:n<=m):∀ {c:aK} {ak:Env} {aj:aA} {r:lk×Env×aA},exec sh cp cs n c ak aj=some r->exec sh lX B9 m c ak aj=some r:=by
 intro c
 induction c with
 |skip=>intro ak aj r h;simpa [exec] using h
 |region d ops=>
  intro ak aj r h;simp only[exec] at h ⊢;cases h1:steps sh cp cs ops ak aj with
  |none=>simp[h1] at h
  |some x=>rw[aeW hp hs h1];simpa [h1] using h
 |seq a b iha ihb=>
  intro ak aj r h;simp only[exec] at h ⊢;cases h1:exec sh cp cs n a ak aj with
  |none=>simp[h1] at h
  |some x=>
   obtain⟨e,e1,b1⟩:=x;rw[iha h1];cases e with
   |normal=>simp only[h1] at h ⊢;exact ihb h
   |exit i=>simpa [h1] using h
   |ret=>simpa [h1] using h
 |cond x a b iha ihb=>
  intro ak aj r h;simp only[exec] at h ⊢;split at h
  .split at h
   .rename_i ht;simp only[ht,if_true];exact iha h
   rename_i ht;simp only[ht];exact ihb h
  cases h
 |block id c ih=>
  intro ak aj r h;simp only[exec] at h ⊢;cases h1:exec sh cp cs n c ak aj with
  |none=>simp[h1] at h
  |some x=>rw[ih h1];simpa [h1] using h
 |loop c ih=>intro ak aj r h;simp only[exec] at h ⊢;exact abo (fun _ _ _ h=>ih h) CI h
 |exit id=>intro ak aj r h;simpa [exec] using h
 |ret=>intro ak aj r h;simpa [exec] using h
 |bad=>intro ak aj r h;simp[exec] at h
theorem OL(CI:n<=m){fn:aX}{args:List V}{aj:aA}{r:V×aA}(h:qd sh cp cs n fn args aj=some r):qd sh lX B9 m fn args aj=some r:=by
 unfold qd at h ⊢;cases h1:exec sh cp cs n fn.body (qH args) aj with
 |none=>simp[h1] at h
 |some x=>rw[YC hp hs CI h1];simpa [h1] using h
theorem aeh(CI:n<=m){fn:aX}{args:List V}{r:RV}(h:Dq sh cp cs n fn args=some r):Dq sh lX B9 m fn args=some r:=by
 unfold Dq at h ⊢;cases h1:qd sh cp cs n fn args zA with
 |none=>simp[h1] at h
 |some x=>rw[OL hp hs CI h1];simpa [h1] using h
end
theorem Xx(S:Sys):∀n,FM (fL S n) (fL S (n+1))/\SLe (fD S n) (fD S (n+1)):=by
 intro n
 induction n with
 |zero=>exact⟨fun f x r h=>by simp[fL] at h,fun f x l k r h=>by simp[fD] at h⟩
 |succ n ih=>
  refine⟨fun f x r h=>?_,fun f x l k r h=>?_⟩
  .rw[fL] at h ⊢;cases hp:S.prim f x with
   |some r'=>simpa [hp] using h
   |none=>
    simp only[hp] at h ⊢;cases hf:S.fns f with
    |none=>simp[hf] at h
    |some fn=>
     simp only[hf] at h ⊢;split at h
     .rename_i hl;rw[aE hl];exact aeh ih.1 ih.2 aa h
     cases h
  rw[fD] at h ⊢;by_cases ht:S.trig f x=true
  .rw[aE ht] at h ⊢;exact h
  rw[aD ht] at h ⊢;cases hf:S.fns f with
  |none=>simp[hf] at h
  |some fn=>
   simp only[hf] at h ⊢;split at h
   .rename_i hl;rw[aE hl];exact OL ih.1 ih.2 aa h
   cases h
theorem B2(S:Sys)(h:n<=m):FM (fL S n) (fL S m):=by
 induction h with
 |refl=>exact fun _ _ _ h=>h
 |step _ ih=>exact fun f x r hr=>(Xx S _).1 f x r (ih f x r hr)
theorem Jj(S:Sys)(h:n<=m):SLe (fD S n) (fD S m):=by
 induction h with
 |refl=>exact fun _ _ _ _ _ h=>h
 |step _ ih=>exact fun f x l k r hr=>(Xx S _).2 f x l k r (ih f x l k r hr)
theorem aJ.uO{S:Sys}{f:Nat}{args:List V}{r r':RV}(h:aJ S f args r)(h':aJ S f args r'):r=r':=by obtain⟨n,hn⟩:=h;obtain⟨m,hm⟩:=h';have a:=B2 S (FH n m) _ _ _ hn;have b:=B2 S (IV n m) _ _ _ hm;rw[a] at b;exact oZ b
theorem DZ(S:Sys){al:Al}(h:n<=m){c:aK}{ak:Env}{aj:aA}{r:lk×Env×aA}(hr:exec (S.ctx al) (fL S n) (fD S n) n c ak aj=some r):
  exec (S.ctx al) (fL S m) (fD S m) m c ak aj=some r:=YC (B2 S h) (Jj S h) h hr
theorem aqU(S:Sys){al:Al}(h:n<=m){ops:List bR}{ak:Env}{aj:aA}{r:Env×aA×List cn}(hr:steps (S.ctx al) (fL S n) (fD S n) ops ak aj=some r):
  steps (S.ctx al) (fL S m) (fD S m) ops ak aj=some r:=aeW (B2 S h) (Jj S h) hr
variable {S:Sys} {al:Al} {Q:dS} {ak:Env} {aj:aA}
theorem W.mono{c:aK}{Q':dS}(h:W S al c Q ak aj)(hq:∀e ak aj,Q e ak aj->Q' e ak aj):W S al c Q' ak aj:=by obtain⟨n,e,aI,ao,h1,h2⟩:=h;exact⟨n,e,aI,ao,h1,hq _ _ _ h2⟩
theorem agr(h:Q .normal ak aj):W S al .skip Q ak aj:=⟨0,_,_,_,rfl,h⟩
theorem agk{id:Nat}(h:Q (.exit id) ak aj):W S al (.exit id) Q ak aj:=⟨0,_,_,_,rfl,h⟩
theorem agn(h:Q .ret ak aj):W S al .ret Q ak aj:=⟨0,_,_,_,rfl,h⟩
def LS(next:Env->aA->Prop)(Q:dS):dS
 | .normal,ak,aj=>next ak aj
 |e,ak,aj=>Q e ak aj
theorem ago{a b:aK}(h:W S al a (LS (W S al b Q) Q) ak aj):W S al (.seq a b) Q ak aj:=by
 obtain⟨n,e,aI,ao,h1,h2⟩:=h;cases e with
 |normal=>obtain⟨m,e,cP,bd,h3,h4⟩:=h2;refine⟨max n m,e,cP,bd,?_,h4⟩;simp only[exec];rw[DZ S (FH n m) h1];exact DZ S (IV n m) h3
 |exit i=>exact⟨n,_,_,_,by simp[exec,h1],h2⟩
 |ret=>exact⟨n,_,_,_,by simp[exec,h1],h2⟩
theorem agh{x:aQ}{a b:aK}{t:Bool}(hx:ev ak x=.one (.p (.bool t)))(h:if t=true then W S al a Q ak aj else W S al b Q ak aj):W S al (.cond x a b) Q ak aj:=by
 cases t with
 |true=>obtain⟨n,e,aI,ao,h1,h2⟩:=h;exact⟨n,e,aI,ao,by simp[exec,hx,h1],h2⟩
 |false=>obtain⟨n,e,aI,ao,h1,h2⟩:=(by simpa using h:W S al b Q ak aj);exact⟨n,e,aI,ao,by simp[exec,hx,h1],h2⟩
def pF(id:Nat)(Q:dS):dS
 | .exit i,ak,aj=>if i=id then Q .normal ak aj else Q (.exit i) ak aj
 |e,ak,aj=>Q e ak aj
theorem agf{id:Nat}{c:aK}(h:W S al c (pF id Q) ak aj):W S al (.block id c) Q ak aj:=by
 obtain⟨n,e,aI,ao,h1,h2⟩:=h;cases e with
 |normal=>exact⟨n,_,_,_,by simp[exec,h1],h2⟩
 |ret=>exact⟨n,_,_,_,by simp[exec,h1],h2⟩
 |exit i=>
  simp only[pF] at h2;by_cases hi:i=id
  .simp only[hi,if_true] at h2;exact⟨n,_,_,_,by simp[exec,h1,hi],h2⟩
  simp only[hi,if_false] at h2;exact⟨n,_,_,_,by simp[exec,h1,hi],h2⟩
theorem Ud(S:Sys){c:aK}{k l:Nat}(h:n<=m)(hk:k<=l){r:lk×Env×aA}(hr:iter (exec (S.ctx al) (fL S n) (fD S n) n c) k ak aj=some r):
  iter (exec (S.ctx al) (fL S m) (fD S m) m c) l ak aj=some r:=abo (fun _ _ _ h'=>DZ S h h') hk hr
theorem agl{c:aK}(I:Nat->Env->aA->Prop)(k0 N:Nat)(hk:k0<=N)(h0:I k0 ak aj)
  (round:∀k ak aj,k<=N->I k ak aj->W S al c (LS (fun aI ao=>k<N/\I (k+1) aI ao) Q) ak aj):W S al (.loop c) Q ak aj:=by
 have key:∀j k ak aj,k+j=N->I k ak aj->∃n l e aI ao,iter (exec (S.ctx al) (fL S n) (fD S n) n c) l ak aj=some (e,aI,ao)/\Q e aI ao:=by
  intro j
  induction j with
  |zero=>
   intro k ak aj KB hI;obtain⟨n,e,eS,bt,h1,h2⟩:=round k ak aj aa hI;cases e with
   |normal=>obtain⟨au,_⟩:=h2;omega
   |exit i=>exact⟨n,1,_,_,_,by simp[iter,h1],h2⟩
   |ret=>exact⟨n,1,_,_,_,by simp[iter,h1],h2⟩
  |succ j ih=>
   intro k ak aj KB hI;obtain⟨n,e,eS,bt,h1,h2⟩:=round k ak aj aa hI;cases e with
   |normal=>obtain⟨_,hI1⟩:=h2;obtain⟨m,l,e,cP,bd,h3,h4⟩:=ih (k+1) eS bt aa hI1;refine⟨max n m,l+1,e,cP,bd,?_,h4⟩;simp only[iter];rw[DZ S (FH n m) h1];exact Ud S (IV n m) (cA _) h3
   |exit i=>exact⟨n,1,_,_,_,by simp[iter,h1],h2⟩
   |ret=>exact⟨n,1,_,_,_,by simp[iter,h1],h2⟩
 obtain⟨n,l,e,aI,ao,h1,h2⟩:=key (N-k0) k0 ak aj aa h0;refine⟨max n l,e,aI,ao,?_,h2⟩;simp only[exec];exact Ud S (FH n l) (IV n l) h1
theorem agm{d:Bool}{ops:List bR}(h:WO S al ops (fun ak aj es=>(d=true->nM ops [] es=true)/\Q .normal ak aj) ak aj []):W S al (.region d ops) Q ak aj:=by
 obtain⟨n,aI,ao,es,h1,h2,h3⟩:=h;refine⟨n,.normal,aI,ao,?_,h3⟩;simp only[exec,h1];cases d with
 |false=>simp
 |true=>simpa using h2
theorem agd{R:Env->aA->List cn->Prop}{tr:List cn}(h:R ak aj tr):WO S al [] R ak aj tr:=⟨0,ak,aj,[],rfl,by simpa using h⟩
theorem Mn{o:bR}{os:List bR}{R:Env->aA->List cn->Prop}{tr:List cn}{n:Nat}{eS:Env}{bt:aA}{e:cn}
  (h1:step1 (S.ctx al) (fL S n) (fD S n) o ak aj=some (eS,bt,e)) (h:WO S al os R eS bt (tr++[e])):WO S al (o::os) R ak aj tr:=by
 obtain⟨m,aI,ao,es,h2,h3⟩:=h;refine⟨max n m,aI,ao,e::es,?_,by simpa using h3⟩;simp only[steps];rw[aeS (B2 S (FH n m)) (Jj S (FH n m)) h1];simp[aqU S (IV n m) h2]
def Ee(S:Sys)(al:Al)(p:eQ)(d:Option Nat)(ak:Env)(aj:aA)(tr:List cn)(K:Env->aA->List cn->Prop):Prop:=
 match p with
 | .fail=>False
 | .done v u r=>al.fE (r++u.map (·.1))=true/\K (put ak d v) (app u aj) (tr++[⟨r,u.map (·.1),[]⟩])
 | .pc f vs r s=>∃x,aJ S f vs x/\match land aj r s (x.eG (S.lone s)) with
  |some (v,u)=>al.fE (r++u.map (·.1))=true/\K (put ak d v) (app u aj) (tr++[⟨r++u.map (·.1),u.map (·.1),[]⟩])
  |none=>False
 | .sc f vs=>al.holds (allow (S.ctx al) f vs aj)=true/\ ∃v ao,iA S f vs (allow (S.ctx al) f vs aj) aj v ao/\
   K (put ak d v) ao (tr++[⟨(allow (S.ctx al) f vs aj).ids,(allow (S.ctx al) f vs aj).ids,(allow (S.ctx al) f vs aj).fs⟩])
def Cj(S:Sys)(al:Al)(w:Option Bool)(o:bR)(ak:Env)(aj:aA)(tr:List cn)(K:Env->aA->List cn->Prop):Prop:=
 match w with
 |none=>False
 |some false=>K (put ak o.dst .undef) aj (tr++[⟨[],[],[]⟩])
 |some true=>Ee S al (bl S.shared ak aj o.op) o.dst ak aj tr K
@[simp] theorem Al.BX (l:List Nat):Al.all.fE l=true:=by simp[Al.fE,Al.ok,Al.all]
@[simp] theorem Al.ar7 (b:Al):Al.all.holds b=true:=rfl
theorem age{o:bR}{os:List bR}{R:Env->aA->List cn->Prop}{tr:List cn}
  (h:Cj S al (wanted ak o.guard) o ak aj tr (WO S al os R)):WO S al (o::os) R ak aj tr:=by
 cases hw:wanted ak o.guard with
 |none=>simp[hw,Cj] at h
 |some b=>
  cases b with
  |false=>rw[hw] at h;exact Mn (n:=0) (by simp[step1,hw]) h
  |true=>
   rw[hw] at h;simp only[Cj] at h;have iu:(S.ctx al).shared=S.shared:=rfl;have fO:(S.ctx al).al=al:=rfl;have eU:(S.ctx al).lone=S.lone:=rfl;cases bG:bl S.shared ak aj o.op with
   |fail=>simp[bG,Ee] at h
   |done v u r=>rw[bG] at h;obtain⟨h1,h⟩:=h;exact Mn (n:=0) (by simp only[step1,hw,iu,fO,bG,h1,if_true]) h
   |pc f vs r s=>
    rw[bG] at h;obtain⟨x,⟨n,hx⟩,h⟩:=h;cases hl:land aj r s (x.eG (S.lone s)) with
    |none=>simp[hl] at h
    |some y=>obtain⟨v,u⟩:=y;simp only[hl] at h;obtain⟨h1,h⟩:=h;exact Mn (n:=n) (by simp only[step1,hw,iu,fO,eU,bG,hx,hl,h1,if_true]) h
   |sc f vs=>rw[bG] at h;obtain⟨h1,v,ao,⟨n,hx⟩,h⟩:=h;exact Mn (n:=n) (by simp only[step1,hw,iu,fO,bG,h1,if_true,hx]) h
end
end Go.Abs
namespace Go.Abs
variable {S:Sys} {al:Al}
def qT(al:Al)(res:List (Nat×Option (Option Nat)))(R:V->aA->Prop):dS
 | .exit _,_,_=>False
 |_,ak,aj=>match mV al ak aj res with
  |some vs=>R (yA vs) aj
  |none=>False
theorem PL{fn:aX}{args:List V}{aj:aA}{R:V->aA->Prop}(h:W S al fn.body (qT al fn.results R) (qH args) aj):
  ∃n v ao,qd (S.ctx al) (fL S n) (fD S n) n fn args aj=some (v,ao)/\R v ao:=by
 obtain⟨n,e,aI,ao,h1,h2⟩:=h;refine⟨n,?_⟩;unfold qd;rw[h1];cases e with
 |exit i=>exact h2.elim
 |normal=>
  simp only[qT] at h2;split at h2
  .rename_i vs hv;exact⟨_,_,by simp only[show(S.ctx al).al=al from rfl,hv,mw],h2⟩
  exact h2.elim
 |ret=>
  simp only[qT] at h2;split at h2
  .rename_i vs hv;exact⟨_,_,by simp only[show(S.ctx al).al=al from rfl,hv,mw],h2⟩
  exact h2.elim
theorem af4{f:Nat}{fn:aX}{args:List V}{r:RV}(hp:S.prim f args=none)(hf:S.fns f=some fn)(hl:args.length<=fn.ntmps)
  (h:W S .all fn.body (qT .all fn.results fun v aj=>fv aj v=some r) (qH args) zA):aJ S f args r:=by
 obtain⟨n,v,ao,h1,h2⟩:=PL h;refine⟨n+1,?_⟩;rw[fL];simp only[hp,hf,hl,if_true];unfold Dq;rw[h1];exact h2
theorem mz{f:Nat}{fn:aX}{args:List V}{aj:aA}{R:V->aA->Prop}(hf:S.fns f=some fn)(hl:args.length<=fn.ntmps)
  (h:W S al fn.body (qT al fn.results R) (qH args) aj) (ht:S.trig f args=false:=by rfl):∃v ao,iA S f args al aj v ao/\R v ao:=by
 obtain⟨n,v,ao,h1,h2⟩:=PL h;refine⟨v,ao,⟨n+1,?_⟩,h2⟩;rw[fD];simp only[ht,eH,if_false,hf,hl,if_true];exact h1
end Go.Abs
namespace Go.Abs
variable {S:Sys} {al:Al} {Q:dS} {ak:Env} {aj:aA}
theorem W0:W S al .skip Q ak aj↔Q .normal ak aj:=⟨fun⟨_,_,_,_,h,q⟩=>by simp[exec] at h;obtain⟨rfl,rfl,rfl⟩:=h;exact q,agr⟩
theorem WX{id:Nat}:W S al (.exit id) Q ak aj↔Q (.exit id) ak aj:=⟨fun⟨_,_,_,_,h,q⟩=>by simp[exec] at h;obtain⟨rfl,rfl,rfl⟩:=h;exact q,agk⟩
theorem WZ:W S al .ret Q ak aj↔Q .ret ak aj:=⟨fun⟨_,_,_,_,h,q⟩=>by simp[exec] at h;obtain⟨rfl,rfl,rfl⟩:=h;exact q,agn⟩
theorem agp{a b:aK}:W S al (.seq a b) Q ak aj↔W S al a (LS (W S al b Q) Q) ak aj:=by
 refine⟨?_,ago⟩;rintro ⟨n,e,aI,ao,h,q⟩
 simp only[exec] at h;cases h1:exec (S.ctx al) (fL S n) (fD S n) n a ak aj with
 |none=>simp[h1] at h
 |some x=>
  obtain⟨e1,eS,bt⟩:=x;refine⟨n,e1,eS,bt,h1,?_⟩;cases e1 with
  |normal=>simp only[h1] at h;exact⟨n,e,aI,ao,h,q⟩
  |exit i=>simp[h1] at h;obtain⟨rfl,rfl,rfl⟩:=h;exact q
  |ret=>simp[h1] at h;obtain⟨rfl,rfl,rfl⟩:=h;exact q
def Gd(v:V)(A B:Prop):Prop:=
 match v with
 | .one (.p (.bool t))=>if t=true then A else B
 |_=>False
theorem agi{x:aQ}{a b:aK}:W S al (.cond x a b) Q ak aj↔Gd (ev ak x) (W S al a Q ak aj) (W S al b Q ak aj):=by
 constructor
 .rintro ⟨n,e,aI,ao,h,q⟩
  simp only[exec] at h;split at h
  .rename_i t ht;rw[ht];simp only[Gd];cases t with
   |true=>exact⟨n,e,aI,ao,by simpa using h,q⟩
   |false=>exact⟨n,e,aI,ao,by simpa using h,q⟩
  cases h
 intro h;unfold Gd at h;split at h
 .rename_i t ht;exact agh ht h
 exact h.elim
theorem WW{id:Nat}{c:aK}:W S al (.block id c) Q ak aj↔W S al c (pF id Q) ak aj:=by
 refine⟨?_,agf⟩;rintro ⟨n,e,aI,ao,h,q⟩
 simp only[exec] at h;cases h1:exec (S.ctx al) (fL S n) (fD S n) n c ak aj with
 |none=>simp[h1] at h
 |some x=>
  obtain⟨e1,eS,bt⟩:=x;refine⟨n,e1,eS,bt,h1,?_⟩;cases e1 with
  |normal=>simp[h1] at h;obtain⟨rfl,rfl,rfl⟩:=h;exact q
  |ret=>simp[h1] at h;obtain⟨rfl,rfl,rfl⟩:=h;exact q
  |exit i=>
   simp only[h1] at h;simp only[pF];split at h
   .rename_i hi;simp at h;obtain⟨rfl,rfl,rfl⟩:=h;rw[aE hi];exact q
   rename_i hi;simp at h;obtain⟨rfl,rfl,rfl⟩:=h;rw[aD hi];exact q
theorem PK{R:Env->aA->List cn->Prop}{tr:List cn}:WO S al [] R ak aj tr↔R ak aj tr:=by
 refine⟨?_,agd⟩;rintro ⟨n,aI,ao,es,h,q⟩
 simp[steps] at h;obtain⟨rfl,rfl,rfl⟩:=h
 simpa using q
theorem Mo{o:bR}{os:List bR}{R:Env->aA->List cn->Prop}{tr:List cn}:
  WO S al (o::os) R ak aj tr↔Cj S al (wanted ak o.guard) o ak aj tr (WO S al os R):=by
 refine⟨?_,age⟩;rintro ⟨n,aI,ao,es,h,q⟩
 simp only[steps] at h;cases h1:step1 (S.ctx al) (fL S n) (fD S n) o ak aj with
 |none=>simp[h1] at h
 |some x=>
  obtain⟨eS,bt,e⟩:=x;simp only[h1] at h;cases h2:steps (S.ctx al) (fL S n) (fD S n) os eS bt with
  |none=>simp[h2] at h
  |some y=>
   obtain⟨cP,bd,es2⟩:=y;simp[h2] at h;obtain⟨rfl,rfl,rfl⟩:=h;have hk:WO S al os R eS bt (tr++[e]):=⟨n,_,_,es2,h2,by simpa using q⟩;unfold step1 at h1;cases hw:wanted ak o.guard with
   |none=>simp[hw] at h1
   |some b=>
    cases b with
    |false=>simp[hw] at h1;obtain⟨rfl,rfl,rfl⟩:=h1;exact hk
    |true=>
     simp only[hw] at h1;simp only[Cj];have iu:(S.ctx al).shared=S.shared:=rfl;have fO:(S.ctx al).al=al:=rfl;have eU:(S.ctx al).lone=S.lone:=rfl;simp only[iu,fO,eU] at h1;cases bG:bl S.shared ak aj o.op with
     |fail=>simp[bG] at h1
     |done v u r=>
      simp only[bG] at h1;split at h1
      .rename_i aq;cases h1;exact⟨aq,hk⟩
      cases h1
     |pc f vs r s=>
      simp only[bG] at h1;cases hc:fL S n f vs with
      |none=>simp[hc] at h1
      |some x=>
       simp only[hc] at h1;refine⟨x,⟨n,hc⟩,?_⟩;cases hl:land aj r s (x.eG (S.lone s)) with
       |none=>simp[hl] at h1
       |some y=>
        obtain⟨v,u⟩:=y;simp only[hl] at h1;split at h1
        .rename_i aq;cases h1;exact⟨aq,hk⟩
        cases h1
     |sc f vs=>
      simp only[bG] at h1;split at h1
      .rename_i aq;cases hc:fD S n f vs (allow (S.ctx al) f vs aj) aj with
       |none=>simp[hc] at h1
       |some x=>obtain⟨v,b⟩:=x;simp only[hc] at h1;cases h1;exact⟨aq,v,_,⟨n,hc⟩,hk⟩
      cases h1
theorem WY{d:Bool}{ops:List bR}:W S al (.region d ops) Q ak aj↔WO S al ops (fun ak aj es=>(d=true->nM ops [] es=true)/\Q .normal ak aj) ak aj []:=by
 refine⟨?_,agm⟩;rintro ⟨n,e,aI,ao,h,q⟩
 simp only[exec] at h;cases h1:steps (S.ctx al) (fL S n) (fD S n) ops ak aj with
 |none=>simp[h1] at h
 |some x=>
  obtain⟨eS,bt,es⟩:=x;simp only[h1] at h;cases d with
  |false=>simp at h;obtain⟨rfl,rfl,rfl⟩:=h;exact⟨n,_,_,es,h1,af,q⟩
  |true=>simp at h;obtain⟨hd,rfl,rfl,rfl⟩:=h;exact⟨n,_,_,es,h1,fun _=>by simpa using hd,q⟩
end Go.Abs
namespace Go.Abs
section
variable{v:Value}
inductive bX (w:World) (own:Nat->Prop):PV->Value->Prop where
 |bool (b:Bool):bX w own (.bool b) (.bool b)
 |int (k:IntKind) (n:Int):bX w own (.int k n) (.int k n)
 |str (s:ByteArray):bX w own (.str s) (.string s)
 |th:bX w own .th (.pointer none)
 |nils:bX w own .nils (.slice none 0 0)
 |pW:bX w own .pW (.map none)
 |wN:bX w own .wN .nilFunc
 |nili:bX w own .nili .nilIface
 |ifc (d:TypeId) (x:Value):bX w own .ifc (.iface d x)
 |zs (a:Option Addr):bX w own .zs (.slice a 0 0)
 |box {cs:List PV} (b o:Nat) (f:Nat->Value) (ho:cs≠[]-> ¬own b)
   (hc:∀(j:Nat) (x:PV),cs[j]?=some x->w.cell? ⟨b,o+j,none⟩=some (f j))
   (hr:∀(j:Nat) (x:PV),cs[j]?=some x->bX w own x (f j)):bX w own (.box cs) (.pointer (some ⟨b,o,none⟩))
 |wR (a:Option Addr) (cap:Nat) (hn:a=none->cap=0) (hm:cap<=maxLen):bX w own (.sl []) (.slice a 0 cap)
 |sl {es:List (List PV)} (b o cap sz:Nat) (f:Nat->Value) (ho:es.flatten≠[]-> ¬own b) (hl:es.length<=cap) (hm:cap<=maxLen) (bU:∀e∈es,e.length=sz)
   (hc:∀(j:Nat) (x:PV),es.flatten[j]?=some x->w.cell? ⟨b,o+j,none⟩=some (f j))
   (hr:∀(j:Nat) (x:PV),es.flatten[j]?=some x->bX w own x (f j)):bX w own (.sl es) (.slice (some ⟨b,o,none⟩) es.length cap)
 |mp {ag:Bool} {es:List (PV×List PV)} (r:Nat) (ents:Array MapEntry) (clock:Nat) (g:Nat->Array Value) (ho:¬own r) (hb:w.heap[r]?=some (.map ents clock)) (hl:ents.size=es.length)
   (hk:∀(i:Nat) (q:PV) (v:List PV) (e:MapEntry),es[i]?=some (q,v)->ents[i]?=some e->bX w own q e.key)
   (hv:∀(i:Nat) (q:PV) (v:List PV) (e:MapEntry),es[i]?=some (q,v)->ents[i]?=some e->(g i).size=v.length/\(ag=true->e.val=.agg (g i))/\(ag=false-> #[e.val]=g i))
   (hr:∀(i:Nat) (q:PV) (v:List PV) (j:Nat) (x:PV) (u:Value),es[i]?=some (q,v)->v[j]?=some x->(g i)[j]?=some u->bX w own x u):bX w own (.mp ag es) (.map (some r))
 |fn {f:Nat} {a b:List PV} (A B:Array Value) (ha:A.size=a.length) (hb:B.size=b.length)
   (uc:∀(j:Nat) (x:PV) (u:Value),a[j]?=some x->A[j]?=some u->bX w own x u)
   (pQ:∀(j:Nat) (x:PV) (u:Value),b[j]?=some x->B[j]?=some u->bX w own x u):bX w own (.fn f a b) (.func (.func f) A B)
theorem bX.Ln{w:World}{own:Nat->Prop}{x:PV}(h:bX w own x v):v.oneCell'=true:=by cases h<;>rfl
theorem bX.cells{w:World}{own:Nat->Prop}{x:PV}(h:bX w own x v):v.cells= #[v]:=by cases h<;>rfl
theorem Xz{w:World}{b o:Nat}(h:w.cell? ⟨b,o,none⟩=some v):b<w.heap.size:=World.block_lt_of_cell? w ⟨b,o,none⟩ h
theorem tR{w:World}{b:Nat}{o:Obj}(h:w.heap[b]?=some o):b<w.heap.size:=(Pm.1 h).1
theorem bX.mono{w w':World}{own yr:Nat->Prop}(hk:∀c,c<w.heap.size-> ¬own c->w'.heap[c]?=w.heap[c]? /\ ¬yr c){x:PV}{v:Value}
  (h:bX w own x v):bX w' yr x v:=by
 induction h with
 |bool b=>exact .bool b
 |int k n=>exact .int k n
 |str s=>exact .str s
 |th=>exact .th
 |nils=>exact .nils
 |pW=>exact .pW
 |wN=>exact .wN
 |nili=>exact .nili
 |ifc d x=>exact .ifc d x
 |zs a=>exact .zs a
 | @box cs b o f ho hc _ ih=>
  cases cs with
  |nil=>exact .box b o f (fun h=>(h rfl).elim) (fun j x h=>by simp at h) (fun j x h=>by simp at h)
  |cons c r=>have hb:=Xz (hc 0 c rfl);have hn:=ho af;refine .box b o f (fun _=>(hk b hb hn).2) (fun j x h=>?_) ih;rw[World.cell?_of_block (hk b hb hn).1];exact hc j x h
 |wR a cap hn hm=>exact .wR a cap hn hm
 | @sl es b o cap sz f ho hl hm bU hc _ ih=>
  cases hf:es.flatten with
  |nil=>exact .sl b o cap sz f (fun h=>(h hf).elim) hl hm bU (fun j x h=>by simp[hf] at h) (fun j x h=>by simp[hf] at h)
  |cons c r=>have hb:=Xz (hc 0 c (by simp[hf]));have hn:=ho (by simp[hf]);refine .sl b o cap sz f (fun _=>(hk b hb hn).2) hl hm bU (fun j x h=>?_) ih;rw[World.cell?_of_block (hk b hb hn).1];exact hc j x h
 | @mp ag es r ents clock g ho hb hl _ hv _ ihk ihr=>exact .mp r ents clock g (hk r (tR hb) ho).2 ((hk r (tR hb) ho).1.trans hb) hl ihk hv ihr
 |fn A B ha hb _ _ iha ihb=>exact .fn A B ha hb iha ihb
structure Mem where
 w:World
 aj:aA
 σ:Nat->Nat
 κ:Nat->Nat
 fr:Nat->Prop
def Ob.fc:Ob->Bool
 | .var _| .arr _ _ _| .gQ _ _ _| .map _ _=>true
 |_=>false
def jR:Nat×Option Ob->Option Nat
 |(_,some (.arr _ sz _))=>some sz
 |(_,some (.gQ _ sz _))=>some sz
 |(_,some (.l7 _ sz _))=>some sz
 |_=>none
def Mem.fc(m:Mem)(c:Nat):Prop:= ∃id o,(m.aj id).2=some o/\o.fc=true/\m.σ id=c
def Mem.own(m:Mem)(c:Nat):Prop:=m.fr c\/m.fc c
inductive cN (m:Mem):C->Value->Prop where
 |p {x:PV} {v:Value} (h:bX m.w m.own x v):cN m (.p x) v
 |ba {id g off:Nat} (a:Addr) (hg:g<=(m.aj id).1) (h:(m.aj id).1=g->(m.aj id).2.isSome=true->a=⟨m.σ id,off,none⟩):cN m (.ba id g off) (.pointer (some a))
 |di {id g i off:Nat} (a:Addr) (hg:g<=(m.aj id).1) (h:∀sz,(m.aj id).1=g->jR (m.aj id)=some sz->a=⟨m.σ id,i*sz+off,none⟩):cN m (.di id g i off) (.pointer (some a))
 |hsl {id g z off len:Nat} (a:Addr) (cap:Nat) (hg:g<=(m.aj id).1) (hl:len<=cap) (hm:cap<=maxLen)
   (h:∀sz,(m.aj id).1=g->jR (m.aj id)=some sz->sz=z/\(off=0\/0<len->a=⟨m.σ id,off*sz,none⟩)/\off+cap=m.κ id):
   cN m (.hsl id g z off len) (.slice (some a) len cap)
 |jP {id g:Nat} (r:Nat) (hg:g<=(m.aj id).1) (h:(m.aj id).1=g->(m.aj id).2.isSome=true->r=m.σ id):cN m (.jP id g) (.map (some r))
 |hfn {f:Nat} {a b:List C} (A B:Array Value) (ha:A.size=a.length) (hb:B.size=b.length)
   (uc:∀(j:Nat) (x:C) (u:Value),a[j]?=some x->A[j]?=some u->cN m x u)
   (pQ:∀(j:Nat) (x:C) (u:Value),b[j]?=some x->B[j]?=some u->cN m x u):cN m (.hfn f a b) (.func (.func f) A B)
theorem cN.Ln{m:Mem}{x:C}(h:cN m x v):v.oneCell'=true:=by
 cases h with
 |p h=>exact h.Ln
 |_=>rfl
theorem cN.cells{m:Mem}{x:C}(h:cN m x v):v.cells= #[v]:=by
 cases h with
 |p h=>exact h.cells
 |_=>rfl
def cZ(m:Mem)(cs:List C)(vs:List Value):Prop:=vs.length=cs.length/\ ∀(j:Nat) (x:C) (u:Value),cs[j]?=some x->vs[j]?=some u->cN m x u
def cV(w:World)(own:Nat->Prop)(cs:List PV)(vs:List Value):Prop:=vs.length=cs.length/\ ∀(j:Nat) (x:PV) (u:Value),cs[j]?=some x->vs[j]?=some u->bX w own x u
def mA(m:Mem):V->Value->Prop
 | .undef,v=>v=undef
 | .one c,v=>cN m c v
 | .agg cs,v=>∃arr,v=.agg arr/\cZ m cs arr.toList
 | .tup _,_=>False
def bJ(m:Mem):V->Value->Prop
 | .tup vs,v=>∃arr,v=.tuple arr/\arr.size=vs.length/\ ∀(j:Nat) (x:V) (u:Value),vs[j]?=some x->arr[j]?=some u->mA m x u
 |x,v=>mA m x v
def rJ(m:Mem)(id:Nat):Ob->Prop
 | .var cs=>∃cur ty,m.w.heap[m.σ id]?=some (.cells cur ty (0,0))/\cZ m cs cur.toList
 | .fvar cs=>∃cur ty fz,m.w.heap[m.σ id]?=some (.cells cur ty fz)/\cV m.w m.own cs cur.toList/\ ¬m.own (m.σ id)
 | .arr ty sz es=>∃cur,m.w.heap[m.σ id]?=some (.cells cur ty (0,0))/\0<sz/\(∀e∈es,e.length=sz)/\es.length<=m.κ id/\m.κ id<=maxLen/\cur.size=m.κ id*sz/\
   cV m.w m.own es.flatten (cur.toList.take (es.length*sz))
 | .l7 ty sz es=>∃cur fz,m.w.heap[m.σ id]?=some (.cells cur ty fz)/\0<sz/\(∀e∈es,e.length=sz)/\es.length<=m.κ id/\m.κ id<=maxLen/\cur.size=m.κ id*sz/\
   cV m.w m.own es.flatten (cur.toList.take (es.length*sz))/\ ¬m.own (m.σ id)
 | .gQ ty sz es=>∃cur,m.w.heap[m.σ id]?=some (.cells cur ty (0,0))/\0<sz/\(∀e∈es,e.length=sz)/\es.length<=m.κ id/\m.κ id<=maxLen/\cur.size=m.κ id*sz/\
   cZ m es.flatten (cur.toList.take (es.length*sz))
 | .map ag es=>∃ents clock,m.w.heap[m.σ id]?=some (.map ents clock)/\ents.size=es.length/\
   ∀(i:Nat) (q:PV) (v:List PV) (e:MapEntry),es[i]?=some (q,v)->ents[i]?=some e->bX m.w m.own q e.key/\ ∃g:Array Value,(ag=true->e.val=.agg g)/\(ag=false-> #[e.val]=g)/\cV m.w m.own v g.toList
 | .fmap ag es=>∃ents clock,m.w.heap[m.σ id]?=some (.map ents clock)/\ents.size=es.length/\
   (∀(i:Nat) (q:PV) (v:List PV) (e:MapEntry),es[i]?=some (q,v)->ents[i]?=some e->bX m.w m.own q e.key/\ ∃g:Array Value,(ag=true->e.val=.agg g)/\(ag=false-> #[e.val]=g)/\cV m.w m.own v g.toList)/\ ¬m.own (m.σ id)
structure Ok (w0:World) (m:Mem):Prop where
 os:m.w.os=w0.os
 tape:m.w.tape=w0.tape
 output:m.w.output=w0.output
 size:w0.heap.size<=m.w.heap.size
 base:∀c,c<w0.heap.size->m.w.heap[c]?=w0.heap[c]?
 obj:∀id o,(m.aj id).2=some o->rJ m id o
 eI:∀id o,(m.aj id).2=some o->o.fc=true->w0.heap.size<=m.σ id/\ ¬m.fr (m.σ id)
 frlt:∀c,m.fr c->c<m.w.heap.size
 inj:∀id ez o o',(m.aj id).2=some o->o.fc=true->(m.aj ez).2=some o'->o'.fc=true->m.σ id=m.σ ez->id=ez
structure Ev (m m':Mem):Prop where
 os:m'.w.os=m.w.os
 tape:m'.w.tape=m.w.tape
 output:m'.w.output=m.w.output
 size:m.w.heap.size<=m'.w.heap.size
 keep:∀c,c<m.w.heap.size-> ¬m.fc c->m'.w.heap[c]?=m.w.heap[c]?
 fc:∀c,c<m.w.heap.size->m'.fc c->m.fc c
 less:∀c,c<m.w.heap.size-> ¬m.own c-> ¬m'.own c
 gen:∀id,(m.aj id).1<=(m'.aj id).1
 ref:∀id,(m'.aj id).1=(m.aj id).1->(m'.aj id).2.isSome=true->(m.aj id).2.isSome=true/\m'.σ id=m.σ id/\m'.κ id=m.κ id/\jR (m'.aj id)=jR (m.aj id)
theorem Ev.refl(m:Mem):Ev m m:=⟨rfl,rfl,rfl,cA _,fun _ _ _=>rfl,fun _ _ h=>h,fun _ _ h=>h,fun _=>cA _,fun _ _ h=>⟨h,rfl,rfl,rfl⟩⟩
theorem Ev.trans{a b c:Mem}(h:Ev a b)(k:Ev b c):Ev a c where
 os:=k.os.trans h.os
 tape:=k.tape.trans h.tape
 output:=k.output.trans h.output
 size:=lf h.size k.size
 keep x hx hm:=(k.keep x (BO hx h.size) fun hb=>hm (h.fc x hx hb)).trans (h.keep x hx hm)
 fc x hx hm:=h.fc x hx (k.fc x (BO hx h.size) hm)
 less x hx hn:=k.less x (BO hx h.size) (h.less x hx hn)
 gen id:=lf (h.gen id) (k.gen id)
 ref id he hs:=by have h1:=h.gen id;have h2:=k.gen id;obtain⟨s1,e1,e2,e3⟩:=k.ref id aa hs;obtain⟨s2,f1,f2,f3⟩:=h.ref id aa s1;exact⟨s2,e1.trans f1,e2.trans f2,e3.trans f3⟩
theorem Ev.own{m m':Mem}(h:Ev m m'):∀c,c<m.w.heap.size-> ¬m.own c->m'.w.heap[c]?=m.w.heap[c]? /\ ¬m'.own c:=fun c hc hn=>⟨h.keep c hc fun hm=>hn (.inr hm),h.less c hc hn⟩
theorem ae0{x:Nat×Option Ob}{sz:Nat}(h:jR x=some sz):x.2.isSome=true:=by
 obtain⟨g,o⟩:=x;cases o with
 |none=>simp[jR] at h
 |some o=>rfl
structure sJ (m m':Mem):Prop where
 own:∀c,c<m.w.heap.size-> ¬m.own c->m'.w.heap[c]?=m.w.heap[c]? /\ ¬m'.own c
 gen:∀id,(m.aj id).1<=(m'.aj id).1
 ref:∀id,(m'.aj id).1=(m.aj id).1->(m'.aj id).2.isSome=true->(m.aj id).2.isSome=true/\m'.σ id=m.σ id/\m'.κ id=m.κ id/\jR (m'.aj id)=jR (m.aj id)
theorem Ev.zero{m m':Mem}(h:Ev m m'):sJ m m':=⟨h.own,h.gen,h.ref⟩
theorem bX.ev{m m':Mem}(h:sJ m m'){x:PV}(hr:bX m.w m.own x v):bX m'.w m'.own x v:=hr.mono h.own
theorem cN.ev{m m':Mem}(h:sJ m m'){x:C}(hr:cN m x v):cN m' x v:=by
 induction hr with
 |p hp=>exact .p (hp.ev h)
 | @ba id g off a hg ha=>have TE:=h.gen id;refine .ba a aa fun A5 hs=>?_;obtain⟨s,e1,_,_⟩:=h.ref id aa hs;rw[e1];exact ha aa s
 | @di id g i off a hg ha=>have TE:=h.gen id;refine .di a aa fun sz A5 hs=>?_;obtain⟨s,e1,_,e3⟩:=h.ref id aa (ae0 hs);rw[e1];exact ha sz aa (e3▸hs)
 | @hsl id g z off len a cap hg hl hm ha=>have TE:=h.gen id;refine .hsl a cap aa hl hm fun sz A5 hs=>?_;obtain⟨s,e1,e2,e3⟩:=h.ref id aa (ae0 hs);rw[e1,e2];exact ha sz aa (e3▸hs)
 | @jP id g r hg hr=>have TE:=h.gen id;refine .jP r aa fun A5 hs=>?_;obtain⟨s,e1,_,_⟩:=h.ref id aa hs;rw[e1];exact hr aa s
 |hfn A B ha hb _ _ iha ihb=>exact .hfn A B ha hb iha ihb
theorem cZ.ev{m m':Mem}(h:sJ m m'){cs:List C}{vs:List Value}(hr:cZ m cs vs):cZ m' cs vs:=⟨hr.1,fun j x u a b=>(hr.2 j x u a b).ev h⟩
theorem cV.mono{w w':World}{own yr:Nat->Prop}(hk:∀c,c<w.heap.size-> ¬own c->w'.heap[c]?=w.heap[c]? /\ ¬yr c){cs:List PV}{vs:List Value}
  (hr:cV w own cs vs):cV w' yr cs vs:=⟨hr.1,fun j x u a b=>(hr.2 j x u a b).mono hk⟩
theorem cV.ev{m m':Mem}(h:sJ m m'){cs:List PV}{vs:List Value}(hr:cV m.w m.own cs vs):cV m'.w m'.own cs vs:=hr.mono h.own
theorem mA.ev{m m':Mem}(h:sJ m m'){x:V}(hr:mA m x v):mA m' x v:=by
 cases x with
 |undef=>exact hr
 |one c=>exact cN.ev h hr
 |agg cs=>obtain⟨arr,e,hc⟩:=hr;exact⟨arr,e,hc.ev h⟩
 |tup vs=>exact hr.elim
theorem bJ.ev{m m':Mem}(h:sJ m m'){x:V}(hr:bJ m x v):bJ m' x v:=by
 cases x with
 |tup vs=>obtain⟨arr,e,hs,hc⟩:=hr;exact⟨arr,e,hs,fun j x u a b=>(hc j x u a b).ev h⟩
 |undef=>exact mA.ev (x:=.undef) h hr
 |one c=>exact mA.ev (x:=.one c) h hr
 |agg cs=>exact mA.ev (x:=.agg cs) h hr
theorem rJ.ev{m m':Mem}(h:sJ m m'){id:Nat}{o:Ob}(hs:m'.σ id=m.σ id)(hk:m'.κ id=m.κ id)(hh:m'.w.heap[m.σ id]?=m.w.heap[m.σ id]?)
  (hr:rJ m id o):rJ m' id o:=by
 cases o with
 |var cs=>obtain⟨cur,ty,a,b⟩:=hr;exact⟨cur,ty,by rw[hs,hh];exact a,b.ev h⟩
 |fvar cs=>obtain⟨cur,ty,fz,a,b,c⟩:=hr;exact⟨cur,ty,fz,by rw[hs,hh];exact a,b.ev h,by rw[hs];exact(h.own _ (tR a) c).2⟩
 |arr ty sz es=>obtain⟨cur,a,b,c,d,e,f,g⟩:=hr;exact⟨cur,by rw[hs,hh];exact a,b,c,by rw[hk];exact d,by rw[hk];exact e,by rw[hk];exact f,g.ev h⟩
 |l7 ty sz es=>obtain⟨cur,fz,a,b,c,d,e,f,g,i⟩:=hr;exact⟨cur,fz,by rw[hs,hh];exact a,b,c,by rw[hk];exact d,by rw[hk];exact e,by rw[hk];exact f,g.ev h,by rw[hs];exact(h.own _ (tR a) i).2⟩
 |gQ ty sz es=>obtain⟨cur,a,b,c,d,e,f,g⟩:=hr;exact⟨cur,by rw[hs,hh];exact a,b,c,by rw[hk];exact d,by rw[hk];exact e,by rw[hk];exact f,g.ev h⟩
 |map ag es=>obtain⟨ents,clock,a,b,c⟩:=hr;exact⟨ents,clock,by rw[hs,hh];exact a,b,fun i q v e x y=>let ⟨p,g,g1,g2,g3⟩:=c i q v e x y;⟨p.ev h,g,g1,g2,g3.ev h⟩⟩
 |fmap ag es=>obtain⟨ents,clock,a,b,c,d⟩:=hr;exact⟨ents,clock,by rw[hs,hh];exact a,b,fun i q v e x y=>let ⟨p,g,g1,g2,g3⟩:=c i q v e x y;⟨p.ev h,g,g1,g2,g3.ev h⟩,by rw[hs];exact(h.own _ (tR a) d).2⟩
theorem rJ.lt{m:Mem}{id:Nat}{o:Ob}(hr:rJ m id o):m.σ id<m.w.heap.size:=by
 cases o with
 |var cs=>obtain⟨cur,ty,a,_⟩:=hr;exact tR a
 |fvar cs=>obtain⟨cur,ty,fz,a,_⟩:=hr;exact tR a
 |arr ty sz es=>obtain⟨cur,a,_⟩:=hr;exact tR a
 |l7 ty sz es=>obtain⟨cur,fz,a,_⟩:=hr;exact tR a
 |gQ ty sz es=>obtain⟨cur,a,_⟩:=hr;exact tR a
 |map ag es=>obtain⟨ents,clock,a,_⟩:=hr;exact tR a
 |fmap ag es=>obtain⟨ents,clock,a,_⟩:=hr;exact tR a
theorem rJ.calm{m:Mem}{id:Nat}{o:Ob}(hr:rJ m id o)(ho:o.fc=false):¬m.own (m.σ id):=by
 cases o with
 |fvar cs=>obtain⟨cur,ty,fz,_,_,c⟩:=hr;exact c
 |l7 ty sz es=>obtain⟨cur,fz,_,_,_,_,_,_,_,c⟩:=hr;exact c
 |fmap ag es=>obtain⟨_,_,_,_,_,c⟩:=hr;exact c
 |_=>simp[Ob.fc] at ho
end
end Go.Abs
namespace Go.Abs
variable {w0:World}
section
variable{m:Mem}
structure eZ (w w':World):Prop where
 os:w'.os=w.os
 tape:w'.tape=w.tape
 output:w'.output=w.output
 size:w.heap.size<=w'.heap.size
 keep:∀c,c<w.heap.size->w'.heap[c]?=w.heap[c]?
theorem eZ.refl(w:World):eZ w w:=⟨rfl,rfl,rfl,cA _,fun _ _=>rfl⟩
theorem eZ.trans{a b c:World}(h:eZ a b)(k:eZ b c):eZ a c:=
 ⟨k.os.trans h.os,k.tape.trans h.tape,k.output.trans h.output,lf h.size k.size,fun x hx=>(k.keep x (BO hx h.size)).trans (h.keep x hx)⟩
theorem eZ.alloc(w:World)(o:Obj):eZ w (w.alloc o):=⟨rfl,rfl,rfl,af,fun _ hc=>heap_alloc_old w o hc⟩
theorem eZ.drew(w:World):eZ w w.drew:=⟨rfl,rfl,rfl,cA _,fun _ _=>rfl⟩
def Mem.later(m:Mem)(w':World)(X:Nat->Prop):Mem:={m with w:=w',fr:=fun c=>m.fr c\/X c}
theorem acn{w':World}{X:Nat->Prop}{c:Nat}:(m.later w' X).own c↔m.own c\/X c:=by
 unfold Mem.own Mem.fc Mem.later;constructor
 .rintro ((h|h)|h)
  .exact .inl (.inl h)
  .exact .inr h
  exact .inl (.inr h)
 rintro ((h|h)|h)
 .exact .inl (.inl h)
 .exact .inr h
 exact .inl (.inr h)
theorem HD{w':World}{X:Nat->Prop}(hg:eZ m.w w')(hX:∀c,X c->m.w.heap.size<=c):Ev m (m.later w' X) where
 os:=hg.os
 tape:=hg.tape
 output:=hg.output
 size:=hg.size
 keep c hc _:=hg.keep c hc
 fc c _ h:=h
 less c hc hn h:=by
  rcases acn.1 h with h|h
  .exact hn h
  have:=hX c h;omega
 gen _:=cA _
 ref _ _ hs:=⟨hs,rfl,rfl,rfl⟩
theorem K9{w':World}{X:Nat->Prop}(h:Ok w0 m)(hg:eZ m.w w')(hX:∀c,X c->m.w.heap.size<=c/\c<w'.heap.size):Ok w0 (m.later w' X) where
 os:=hg.os.trans h.os
 tape:=hg.tape.trans h.tape
 output:=hg.output.trans h.output
 size:=lf h.size hg.size
 base c hc:=(hg.keep c (BO hc h.size)).trans (h.base c hc)
 obj id o ho:=(h.obj id o ho).ev (HD hg fun c hc=>(hX c hc).1).zero rfl rfl (hg.keep _ (h.obj id o ho).lt)
 eI id o ho hm:=by
  refine⟨(h.eI id o ho hm).1,?_⟩;rintro (hf|hx)
  .exact(h.eI id o ho hm).2 hf
  have h1:=(hX _ hx).1;have h2:=(h.obj id o ho).lt;simp only[Mem.later] at h1;omega
 frlt c hc:=by
  rcases hc with hf|hx
  .exact BO (h.frlt c hf) hg.size
  exact(hX c hx).2
 inj:=h.inj
def Mem.install(m:Mem)(s c k:Nat)(o:Ob):Mem:=⟨m.w,df m.aj s ((m.aj s).1+1,some o),df m.σ s c,df m.κ s k,fun x=>m.fr x/\x≠c⟩
theorem abk{s c k:Nat}{o:Ob}{x:Nat}(h:(m.install s c k o).fc x):x=c\/m.fc x:=by
 obtain⟨id,o',ho,hm,hx⟩:=h;simp only[Mem.install,aS] at ho hx;by_cases hid:id=s
 .simp only[hid,if_true] at hx;exact .inl hx.symm
 simp only[hid,if_false] at ho hx;exact .inr ⟨id,o',ho,hm,hx⟩
theorem NP{s c k:Nat}{o:Ob}(hc:m.fr c){x:Nat}(h:(m.install s c k o).own x):m.own x:=by
 rcases h with h|h
 .exact .inl h.1
 rcases abk h with rfl|h
 .exact .inl hc
 exact .inr h
theorem NN{m1:Mem}{s c k:Nat}{o:Ob}(h:Ev m m1)(hc:m1.fr c)(hn:m.w.heap.size<=c\/m.fc c):Ev m (m1.install s c k o) where
 os:=h.os
 tape:=h.tape
 output:=h.output
 size:=h.size
 keep:=h.keep
 fc x hx hm:=by
  rcases abk hm with rfl|hm
  .rcases hn with hn|hn
   .omega
   exact hn
  exact h.fc x hx hm
 less x hx dm hm:=h.less x hx dm (NP hc hm)
 gen id:=by
  simp only[Mem.install,aS];have:=h.gen id;split
  .rename_i e;subst e;simp only;omega
  exact this
 ref id he hs:=by
  have hg:=h.gen id;simp only[Mem.install,aS] at he hs ⊢;by_cases hid:id=s
  .subst hid;simp only[if_true] at he;omega
  simp only[hid,if_false] at he hs ⊢;exact h.ref id he hs
theorem NO{s c k:Nat}{o:Ob}(h:Ok w0 m)(hc:m.fr c)(eU:w0.heap.size<=c)(ho:rJ (m.install s c k o) s o):Ok w0 (m.install s c k o):=by
 have hk:∀x,x<m.w.heap.size-> ¬m.own x->(m.install s c k o).w.heap[x]?=m.w.heap[x]? /\ ¬(m.install s c k o).own x:=fun x _ hn=>⟨rfl,fun h=>hn (NP hc h)⟩
 have dA:sJ m (m.install s c k o):=by
  refine⟨hk,fun id=>?_,fun id he hs=>?_⟩
  .simp only[Mem.install,aS];split
   .rename_i e;subst e;simp only;omega
   exact cA _
  simp only[Mem.install,aS] at he hs ⊢;by_cases hid:id=s
  .subst hid;simp only[if_true] at he;omega
  simp only[hid,if_false] at he hs ⊢;exact⟨hs,trivial,trivial,trivial⟩
 exact {
  os:=h.os
  tape:=h.tape
  output:=h.output
  size:=h.size
  base:=h.base
  obj:=by
   intro id o' jS;by_cases hid:id=s
   .subst hid;simp only[Mem.install,aS,if_true,fe] at jS;exact jS▸ho
   have hs:(m.install s c k o).σ id=m.σ id:=by simp[Mem.install,aS,hid]
   have tV:(m.install s c k o).κ id=m.κ id:=by simp[Mem.install,aS,hid]
   simp only[Mem.install,aS,hid,if_false] at jS;exact(h.obj id o' jS).ev dA hs tV rfl
  eI:=by
   intro id o' jS hm;by_cases hid:id=s
   .subst hid;simp only[Mem.install,aS,if_true];exact⟨eU,fun h=>h.2 rfl⟩
   simp only[Mem.install,aS,hid,if_false] at jS ⊢;exact⟨(h.eI id o' jS hm).1,fun hf=>(h.eI id o' jS hm).2 hf.1⟩
  frlt:=fun x hx=>h.frlt x hx.1
  inj:=by
   intro id ez o1 o2 h1 m1 h2 m2 he;by_cases hid:id=s<;>by_cases r6:ez=s
   .rw[hid,r6]
   .subst hid;simp only[Mem.install,aS,r6,if_true,if_false] at h2 he;exact((h.eI ez o2 h2 m2).2 (he▸hc)).elim
   .subst r6;simp only[Mem.install,aS,hid,if_true,if_false] at h1 he;exact((h.eI id o1 h1 m1).2 (he.symm▸hc)).elim
   simp only[Mem.install,aS,hid,r6,if_false] at h1 h2 he;exact h.inj id ez o1 o2 h1 m1 h2 m2 he}
def Mem.fX(m:Mem)(id:Nat):Mem:=⟨m.w,df m.aj id ((m.aj id).1,none),m.σ,m.κ,fun c=>m.fr c\/c=m.σ id⟩
theorem aiI{id:Nat}{o:Ob}(ho:(m.aj id).2=some o)(hm:o.fc=true){x:Nat}(h:(m.fX id).own x):m.own x:=by
 rcases h with (h|h)|⟨ez,o',h1,h2,h3⟩
 .exact .inl h
 .exact .inr ⟨id,o,ho,hm,h.symm⟩
 simp only[Mem.fX,aS] at h1 h3;by_cases hid:ez=id
 .simp[hid] at h1
 simp only[hid,if_false] at h1;exact .inr ⟨ez,o',h1,h2,h3⟩
theorem DV{id:Nat}{o:Ob}(ho:(m.aj id).2=some o)(hm:o.fc=true):Ev m (m.fX id) where
 os:=rfl
 tape:=rfl
 output:=rfl
 size:=cA _
 keep _ _ _:=rfl
 fc x _ h:=by
  obtain⟨ez,o',h1,h2,h3⟩:=h;simp only[Mem.fX,aS] at h1 h3;by_cases hid:ez=id
  .simp[hid] at h1
  simp only[hid,if_false] at h1;exact⟨ez,o',h1,h2,h3⟩
 less x _ hn h:=hn (aiI ho hm h)
 gen ez:=by
  simp only[Mem.fX,aS];split
  .rename_i e;subst e;exact cA _
  exact cA _
 ref ez he hs:=by
  simp only[Mem.fX,aS] at he hs ⊢;by_cases hid:ez=id
  .simp[hid] at hs
  simp only[hid,if_false] at he hs ⊢;exact⟨hs,trivial,trivial,trivial⟩
theorem QO{id:Nat}{o:Ob}(h:Ok w0 m)(ho:(m.aj id).2=some o)(hm:o.fc=true):Ok w0 (m.fX id) where
 os:=h.os
 tape:=h.tape
 output:=h.output
 size:=h.size
 base:=h.base
 obj ez o' h1:=by
  simp only[Mem.fX,aS] at h1;by_cases hid:ez=id
  .simp[hid] at h1
  simp only[hid,if_false] at h1;exact(h.obj ez o' h1).ev (DV ho hm).zero rfl rfl rfl
 eI ez o' h1 h2:=by
  simp only[Mem.fX,aS] at h1 ⊢;by_cases hid:ez=id
  .simp[hid] at h1
  simp only[hid,if_false] at h1;refine⟨(h.eI ez o' h1 h2).1,?_⟩;rintro (hf|hf)
  .exact(h.eI ez o' h1 h2).2 hf
  exact hid (h.inj ez id o' o h1 h2 ho hm hf)
 frlt c hc:=by
  rcases hc with hf|rfl
  .exact h.frlt c hf
  exact(h.obj id o ho).lt
 inj Hv Hw o1 o2 h1 m1 h2 m2 he:=by
  simp only[Mem.fX,aS] at h1 h2 he;by_cases hid:Hv=id
  .simp[hid] at h1
  by_cases r6:Hw=id
  .simp[r6] at h2
  simp only[hid,r6,if_false] at h1 h2;exact h.inj Hv Hw o1 o2 h1 m1 h2 m2 he
def Mem.js(m:Mem)(w':World)(id:Nat)(o:Ob):Mem:=⟨w',df m.aj id ((m.aj id).1,some o),m.σ,m.κ,m.fr⟩
section
variable {m:Mem} {w':World} {id:Nat} {o old:Ob} (ho:(m.aj id).2=some old) (hm:old.fc=true)
include ho hm
theorem apu{x:Nat}(h:(m.js w' id o).own x):m.own x:=by
 rcases h with h|⟨ez,o',h1,h2,h3⟩
 .exact .inl h
 simp only[Mem.js,aS] at h1 h3;by_cases hid:ez=id
 .exact .inr ⟨id,old,ho,hm,hid▸h3⟩
 simp only[hid,if_false] at h1;exact .inr ⟨ez,o',h1,h2,h3⟩
theorem LG(bU:jR ((m.aj id).1,some o)=jR ((m.aj id).1,some old))(yg:w'.os=m.w.os)(ht:w'.tape=m.w.tape)(nE:w'.output=m.w.output)(hs:w'.heap.size=m.w.heap.size)
  (hk:∀c,c≠m.σ id->w'.heap[c]?=m.w.heap[c]?):Ev m (m.js w' id o) where
 os:=yg
 tape:=ht
 output:=nE
 size:=IW hs.symm
 keep c _ hn:=hk c fun e=>hn ⟨id,old,ho,hm,e.symm⟩
 fc x _ h:=by
  obtain⟨ez,o',h1,h2,h3⟩:=h;simp only[Mem.js,aS] at h1 h3;by_cases hid:ez=id
  .exact⟨id,old,ho,hm,hid▸h3⟩
  simp only[hid,if_false] at h1;exact⟨ez,o',h1,h2,h3⟩
 less x _ hn h:=hn (apu ho hm h)
 gen ez:=by
  simp only[Mem.js,aS];split
  .rename_i e;subst e;exact cA _
  exact cA _
 ref ez he hss:=by
  simp only[Mem.js,aS] at he hss ⊢;by_cases hid:ez=id
  .subst hid;refine⟨by simp[ho],trivial,trivial,?_⟩;simp only[if_true];rw[bU,<- ho]
  simp only[hid,if_false] at he hss ⊢;exact⟨hss,trivial,trivial,trivial⟩
theorem OP(h:Ok w0 m)(bU:jR ((m.aj id).1,some o)=jR ((m.aj id).1,some old))(yg:w'.os=m.w.os)(ht:w'.tape=m.w.tape)(nE:w'.output=m.w.output)(hs:w'.heap.size=m.w.heap.size)
  (hk:∀c,c≠m.σ id->w'.heap[c]?=m.w.heap[c]?) (Bf:rJ (m.js w' id o) id o):Ok w0 (m.js w' id o) where
 os:=yg.trans h.os
 tape:=ht.trans h.tape
 output:=nE.trans h.output
 size:=lf h.size (IW hs.symm)
 base c hc:=by have:=(h.eI id old ho hm).1;exact(hk c aa).trans (h.base c hc)
 obj ez o' h1:=by
  simp only[Mem.js,aS] at h1;by_cases hid:ez=id
  .subst hid;simp only[if_true,fe] at h1;exact h1▸Bf
  simp only[hid,if_false] at h1;refine(h.obj ez o' h1).ev (LG ho hm bU yg ht nE hs hk).zero rfl rfl (hk _ fun e=>?_);cases za:o'.fc with
  |true=>exact hid (h.inj ez id o' old h1 za ho hm e)
  |false=>exact(h.obj ez o' h1).calm za (.inr ⟨id,old,ho,hm,e.symm⟩)
 eI ez o' h1 h2:=by
  simp only[Mem.js,aS] at h1 ⊢;by_cases hid:ez=id
  .subst hid;exact h.eI ez old ho hm
  simp only[hid,if_false] at h1;exact h.eI ez o' h1 h2
 frlt c hc:=by rw[show(m.js w' id o).w.heap.size=m.w.heap.size from hs];exact h.frlt c hc
 inj Hv Hw o1 o2 h1 m1 h2 m2 he:=by
  simp only[Mem.js,aS] at h1 h2 he;by_cases hid:Hv=id<;>by_cases r6:Hw=id
  .rw[hid,r6]
  .simp only[r6,if_false] at h2;exact hid▸h.inj id Hw old o2 ho hm h2 m2 (hid▸he)
  .simp only[hid,if_false] at h1;exact r6▸h.inj Hv id o1 old h1 m1 ho hm (r6▸he)
  simp only[hid,r6,if_false] at h1 h2;exact h.inj Hv Hw o1 o2 h1 m1 h2 m2 he
end
end
end Go.Abs
namespace Go.Abs
def Jp:Value->Option PV
 | .bool b=>some (.bool b)
 | .int k n=>some (.int k n)
 | .string s=>some (.str s)
 | .pointer none=>some .th
 | .slice none 0 0=>some .nils
 | .map none=>some .pW
 | .nilFunc=>some .wN
 | .nilIface=>some .nili
 |_=>none
def Ge:List Value->Option (List PV)
 |[]=>some []
 |v::r=>match Jp v,Ge r with
  |some x,some xs=>some (x::xs)
  |_,_=>none
def Qw:Value->Option V
 | .agg cs=>(Ge cs.toList).map fun l=>.agg (l.map .p)
 |v=>(Jp v).map fun x=>.one (.p x)
def cF:Operand->Option aQ
 | .tmp t=>some (.t t)
 | .const (.int .i64 n)=>some (.i n)
 | .const (.bool b)=>some (.b b)
 | .const v=>(Qw v).map .k
 | .func f=>some (.k (.one (.p (.fn f [] []))))
 | .global _=>none
def nZ:List Operand->Option (List aQ)
 |[]=>some []
 |a::r=>match cF a,nZ r with
  |some x,some xs=>some (x::xs)
  |_,_=>none
def vG:Option Operand->Option (Option aQ)
 |none=>some none
 |some a=>(cF a).map some
def yC(P:Program)(t:TypeId):Option (List PV):=
 match P.info? t with
 |some i=>match i.zero with
  |some (.agg cs)=>if cs.size=i.size then Ge cs.toList else none
  |some v=>if i.size=1 then (Jp v).map fun x=>[x] else none
  |none=>none
 |none=>none
def pV(P:Program)(t:TypeId):Option (Option Nat):=
 match P.underlying t,P.info? t with
 |some (.struct _),some i=>some (some i.size)
 |some (.array _ _),some i=>some (some i.size)
 |some _,some i=>if i.size=1 then some none else none
 |_,_=>none
def vr(P:Program)(t:TypeId):Option Nat:=(P.info? t).map (·.size)
def Bp(place:Nat->Option (Nat×Nat))(zl:Nat):List (Nat×Operand)->Option (List (Nat×Nat×aQ))
 |[]=>some []
 |(i,x)::r=>match place i,cF x,Bp place zl r with
  |some (off,n),some a,some q=>if off+n<=zl then some ((off,n,a)::q) else none
  |_,_,_=>none
def Gr:Nat->List (Nat×Operand)->Option (List aQ)
 |_,[]=>some []
 |k,(i,x)::r=>match cF x,Gr (k+1) r with
  |some a,some q=>if i=k then some (a::q) else none
  |_,_=>none
def OO(P:Program)(t:TypeId):Option Bool:=
 match P.underlying t with
 |some (.int _)=>some true
 |some .bool=>some false
 |_=>none
def Ic(P:Program):Nat->List Field->Option (List Bool)
 |_,[]=>some []
 |k,f::r=>match OO P f.type,Ic P (k+1) r with
  |some b,some bs=>if f.offset=k/\f.name≠ "_" then some (b::bs) else none
  |_,_=>none
def HK:Operand->Bool
 | .const .nilIface=>true
 |_=>false
def JB(P:Program)(t:TypeId)(x y:Operand):Option tA:=
 match P.underlying t with
 |some (.interface _)=>if HK x||HK y then some .ifc else none
 |some .bool=>some .bool
 |some (.pointer _)=>some .ptr
 |some (.slice _)=>some .slc
 |some (.map _ _)=>some .map
 |some (.func _ _ _)=>some .fnc
 |some (.struct fs)=>if !P.stoodInHeld t&& !P.eqGuardType P.depth t then (Ic P 0 fs.toList).map .str else none
 |_=>none
def yN(P:Program)(t:TypeId):Option (TypeId×Nat×Nat×List PV):=
 match P.underlying t with
 |some (.slice e)=>match P.info? e,yC P e with
  |some i,some z=>if 0<i.size/\0<i.bytes then some (e,i.size,i.bytes,z) else none
  |_,_=>none
 |_=>none
def keyOf(P:Program)(k:TypeId):Option Nat:=
 match P.underlying k with
 |some (.int _)=>some 0
 |some .string=>some 1
 |some .bool=>some 2
 |_=>none
def Pk(P:Program)(t:TypeId):Bool:=
 match P.info? t with
 |some i=>match i.zero with
  |some (.agg _)=>true
  |_=>false
 |none=>false
def DT(P:Program)(site:Nat)(o:Oper):Option my:=
 match o.op with
 | .move x=>(cF x).map .jE
 | .assign x=>(cF x).map .jE
 | .pick c a b=>match cF c,cF a,cF b with
  |some c,some a,some b=>some (.pick c a b)
  |_,_,_=>none
 | .alloc t=>(yC P t).map (.alloc site)
 | .box _ x=>(cF x).map (.box site)
 | .build t ps=>match P.underlying t,yC P t with
  |some (.struct fs),some z=>if fs.all fun f=>(P.info? f.type).isSome then
    (Bp (fun i=>(fs[i]?).map fun f=>(f.offset,P.cellsOf f.type)) z.length ps.toList).map (.build z)
   else none
  |some (.array _ e),some z=>match P.info? e with
   |some i=>(Bp (fun k=>some (k*i.size,i.size)) z.length ps.toList).map (.build z)
   |none=>none
  |_,_=>none
 | .buildSlice t n ps=>match yN P t,Gr 0 ps.toList with
  |some (e,sz,_,_),some as=>if as.length=n/\n*sz<=16777216 then some (.F8 site e sz as) else none
  |_,_=>none
 | .load t a=>match pV P t,cF a with
  |some k,some a=>some (.load k a)
  |_,_=>none
 | .store t a x=>match vr P t,cF a,cF x with
  |some n,some a,some x=>some (.store n a x)
  |_,_,_=>none
 | .nilCheck x=>(cF x).map .HL
 | .binOp op t x y _=>match cF x,cF y with
  |some a,some b=>match P.underlying t with
   |some (.int _)=>some (.bin op a b)
   |some .string=>some (.bin op a b)
   |_=>match op,JB P t x y with
    | .eql,some k=>some (.eqc k false a b)
    | .neq,some k=>some (.eqc k true a b)
    |_,_=>none
  |_,_=>none
 | .unOp op _ x=>match op with
  | .not=>(cF x).map (.un .not)
  | .neg=>(cF x).map (.un .neg)
  |_=>none
 | .convert s d x=>match P.underlying s,P.underlying d,cF x with
  |some (.int _),some (.int k),some a=>some (.conv k a)
  |some (.slice e),some .string,some a=>match P.underlying e with
   |some (.int .u8)=>some (.bstr a)
   |_=>none
  |_,_,_=>none
 | .makeFunc (.func f) a b=>match nZ a.toList,nZ b.toList with
  |some x,some y=>some (.mkfn f x y)
  |_,_=>none
 | .makeMap t none=>match P.underlying t with
  |some (.map _ e)=>(pV P e).map fun k=>.mkmap site k.isSome
  |_=>none
 | .makeSlice t l c=>match yN P t,cF l,cF c with
  |some (e,sz,bytes,z),some l,some c=>some (.HF site e sz bytes z l c)
  |_,_,_=>none
 | .slice t x lo hi none=>match cF x,vG lo,vG hi with
  |some a,some l,some h=>match P.underlying t with
   |some (.slice e)=>(vr P e).map fun sz=>.slice sz a l h
   |some .string=>some (.sslice a l h)
   |_=>none
  |_,_,_=>none
 | .fieldAddr s x f=>match P.underlying s,cF x with
  |some (.struct fs),some a=>match fs[f]? with
   |some d=>if P.cellsOf d.type≠0 then some (.lZ d.offset a) else none
   |none=>none
  |_,_=>none
 | .field t x f=>match P.underlying t,cF x with
  |some (.struct fs),some a=>match fs[f]? with
   |some d=>(pV P d.type).map fun k=>.fld d.offset k a
   |none=>none
  |_,_=>none
 | .indexAddr t x i=>match cF x,cF i with
  |some a,some b=>match P.underlying t with
   |some (.slice e)=>(vr P e).map fun sz=>.Hu sz a b
   |some (.array n e)=>(vr P e).map fun sz=>.FW n sz a b
   |_=>none
  |_,_=>none
 | .index t x i=>match cF x,cF i with
  |some a,some b=>match P.underlying t with
   |some (.array n e)=>match vr P e,pV P e with
    |some sz,some k=>some (.aidx n sz k a b)
    |_,_=>none
   |some .string=>some (.sidx a b)
   |_=>none
  |_,_=>none
 | .lookup t x k ok=>match P.underlying t,cF x,cF k with
  |some (.map kt e),some a,some b=>match yC P e,pV P e with
   |some z,some q=>match keyOf P kt with
    |some kd=>if Pk P e=q.isSome then some (.lookup kd z q.isSome ok a b) else none
    |none=>none
   |_,_=>none
  |_,_,_=>none
 | .mapUpdate t m k v=>match P.underlying t,cF m,cF k,cF v with
  |some (.map kt e),some a,some b,some c=>match pV P e with
   |some q=>(keyOf P kt).map fun kd=>.mupd kd q.isSome a b c
   |none=>none
  |_,_,_,_=>none
 | .insert t m k v=>match P.underlying t,cF m,cF k,cF v with
  |some (.map kt e),some a,some b,some c=>match pV P e with
   |some q=>(keyOf P kt).map fun kd=>.mupd kd q.isSome a b c
   |none=>none
  |_,_,_,_=>none
 | .extract x i=>(cF x).map fun a=>.extract a i
 | .call c=>match c.callee,nZ c.args.toList with
  | .value f,some as=>(cF f).map fun g=>.call site g as
  | .builtin .len,some [a]=>match c.argTypes[0]? with
   |some t=>match P.underlying t with
    |some .string=>some (.slen a)
    |some (.slice _)=>some (.La a)
    |some (.map _ _)=>some (.mlen a)
    |_=>none
   |none=>none
  | .builtin .append,some [a,b]=>match c.argTypes[0]?,c.argTypes[1]? with
   |some t,some u=>match yN P t with
    |some (e,sz,bytes,_)=>if t=u/\c.argTypes.size=2 then some (.append site e sz bytes a b) else none
    |none=>none
   |_,_=>none
  | .builtin .max,some [a,b]=>some (.max a b)
  | .builtin .min,some [a,b]=>some (.min a b)
  | .builtin .clear,some [a]=>match c.argTypes[0]? with
   |some t=>(yN P t).map fun q=>.clear q.2.2.2 a
   |none=>none
  |_,_=>none
 |_=>none
def aQ.tmps:aQ->List Nat
 | .t n=>[n]
 |_=>[]
def Dx:List aQ->List Nat
 |[]=>[]
 |a::r=>a.tmps++Dx r
def VL:Option aQ->List Nat
 |some a=>a.tmps
 |none=>[]
def VM:List (Nat×Nat×aQ)->List Nat
 |[]=>[]
 |(_,_,a)::r=>a.tmps++VM r
def my.tmps:my->List Nat
 | .jE x| .box _ x| .load _ x| .HL x| .un _ x| .conv _ x| .bstr x| .lZ _ x| .fld _ _ x| .extract x _| .slen x| .La x| .mlen x| .clear _ x=>x.tmps
 | .pick c a b=>c.tmps++a.tmps++b.tmps
 | .alloc _ _| .mkmap _ _| .bad=>[]
 | .build _ ps=>VM ps
 | .F8 _ _ _ ps=>Dx ps
 | .store _ a x| .bin _ a x| .eqc _ _ a x| .Hu _ a x| .FW _ _ a x| .aidx _ _ _ a x| .sidx a x| .lookup _ _ _ _ a x| .append _ _ _ _ a x| .max a x| .min a x=>a.tmps++x.tmps
 | .mkfn _ a b=>Dx a++Dx b
 | .HF _ _ _ _ _ a b=>a.tmps++b.tmps
 | .slice _ x a b| .sslice x a b=>x.tmps++VL a++VL b
 | .mupd _ _ a b c=>a.tmps++b.tmps++c.tmps
 | .call _ f as=>f.tmps++Dx as
def bR.Fo(o:bR):List Nat:=
 o.op.tmps++match o.guard with
  |some (t,_)=>[t]
  |none=>[]
def Ec(a b:bR):Bool:=
 (match a.dst with
  |some d=> !b.Fo.contains d&&b.dst !=some d
  |none=>true)&&
 (match b.dst with
  |some d=> !a.Fo.contains d
  |none=>true)
def Nf(o:bR):Nat->List bR->Bool
 |_,[]=>true
 |j,x::r=>(o.anc.testBit j||Ec x o)&&Nf o (j+1) r
def JL:List bR->List bR->Bool
 |[],_=>true
 |o::os,past=>Nf o 0 past&&JL os (past++[o])
def Gc(P:Program)(site:Nat)(o:Oper):my:=(DT P site o).getD .bad
def Yl(nt:Nat):Option Nat->Bool
 |some d=>decide (d<nt)
 |none=>true
def Tm(dst:Nat->Option Nat):Option (Nat×Bool)->Option (Option (Nat×Bool))
 |none=>some none
 |some (j,w)=>(dst j).map fun t=>some (t,w)
def B8(P:Program)(dst:Nat->Option Nat)(base nt:Nat)(anc:Nat)(o:Oper):Option bR:=if Yl nt o.dst then (Tm dst o.guard).map fun g=>⟨o.dst,Gc P base o,g,anc⟩ else none
def uK(P:Program)(dst anc:Nat->Option Nat)(base nt:Nat):Nat->List Oper->Option (List bR)
 |_,[]=>some []
 |i,o::r=>match B8 P dst ((base+i)*64) nt ((anc i).getD 0) o,uK P dst anc base nt (i+1) r with
  |some x,some xs=>some (x::xs)
  |_,_=>none
def FX(ops:Array Oper):Bool:=(List.range ops.size).all fun i=>match ops[i]? with
 |some o=>o.after.toList.all fun e=> !Region.binds .any e||decide (e.on<i)
 |none=>true
def ni(P:Program)(f nt:Nat):Code->Option aK
 | .skip=>some .skip
 | .region id ops draw=>
  let b:=if draw then Region.before ops else #[]
  match uK P (fun j=>(ops[j]?).bind (·.dst)) (fun i=>b[i]?) ((f*1000+id)*1000) nt 0 ops.toList with
  |some xs=>if draw then (if FX ops&&JL xs [] then some (.region true xs) else none) else some (.region false xs)
  |none=>none
 | .seq a b=>match ni P f nt a,ni P f nt b with
  |some x,some y=>some (.seq x y)
  |_,_=>none
 | .cond c a b=>match cF c,ni P f nt a,ni P f nt b with
  |some c,some x,some y=>some (.cond c x y)
  |_,_,_=>none
 | .block id c=>(ni P f nt c).map (.block id)
 | .loop c=>(ni P f nt c).map .loop
 | .exit id=>some (.exit id)
 | .scope c=>ni P f nt c
 | .label _=>some .skip
 | .ret=>some .ret
 |_=>some .bad
def zJ(P:Program):List ResultVar->Option (List (Nat×Option (Option Nat)))
 |[]=>some []
 | .tmp t::r=>(zJ P r).map ((t,none):: ·)
 | .cell t ty::r=>match pV P ty,zJ P r with
  |some k,some q=>some ((t,some k)::q)
  |_,_=>none
def As(P:Program)(f:Nat):Option aX:=
 match P.funcs[f]? with
 |none=>none
 |some fn=>match fn.body with
  |none=>none
  |some c=>if fn.name== "runtime.NumGoroutine" then none else
   match ni P f fn.ntmps c,zJ P fn.results.toList with
   |some b,some r=>some ⟨fn.ntmps,r,b⟩
   |_,_=>none
end Go.Abs
namespace Go.Abs
variable {P:Program} {w0:World}
section
variable{m:Mem}{v:Value}
def im(m:Mem)(ak:Env)(tmps:Array Value):Prop:=∀t,bJ m (ak t) (tmps.getD t undef)
theorem im.ev{m':Mem}(h:Ev m m'){ak:Env}{tmps:Array Value}(hr:im m ak tmps):im m' ak tmps:=fun t=>(hr t).ev h.zero
theorem bJ.one{c:C}:bJ m (.one c) v↔cN m c v:=Iff.rfl
theorem bJ.agg{cs:List C}:bJ m (.agg cs) v↔ ∃arr,v=.agg arr/\cZ m cs arr.toList:=Iff.rfl
theorem bJ.of1{x:V}(h:mA m x v):bJ m x v:=by
 cases x with
 |tup vs=>exact h.elim
 |_=>exact h
theorem Qv{w:World}{own:Nat->Prop}{x:PV}(h:Jp v=some x):bX w own x v:=by
 unfold Jp at h;split at h<;>first
  |(cases h;constructor;done)
  |cases h
theorem XP{w:World}{own:Nat->Prop}:∀ {vs:List Value} {xs:List PV},Ge vs=some xs->cV w own xs vs:=by
 intro vs
 induction vs with
 |nil=>intro xs h;simp[Ge] at h;subst h;exact⟨rfl,fun j x u a _=>by simp at a⟩
 |cons v r ih=>
  intro xs h;simp only[Ge] at h;split at h
  .rename_i x ys h1 h2;cases h;obtain⟨hl,hr⟩:=ih h2;refine⟨by simp[hl],fun j z u a b=>?_⟩;cases j with
   |zero=>simp at a b;subst a b;exact Qv h1
   |succ j=>simp at a b;exact hr j z u a b
  cases h
theorem cV.By{xs:List PV}{vs:List Value}(h:cV m.w m.own xs vs):cZ m (xs.map .p) vs:=by refine⟨by simp[h.1],fun j x u a b=>?_⟩;simp only[gh,dq] at a;obtain⟨y,hy,rfl⟩:=a;exact .p (h.2 j y u hy b)
theorem ah2{x:V}(h:Qw v=some x):bJ m x v:=by
 unfold Qw at h;split at h
 .simp only[dq] at h;obtain⟨xs,h1,rfl⟩:=h;exact bJ.agg.2 ⟨_,rfl,(XP h1).By⟩
 simp only[dq] at h;obtain⟨y,h1,rfl⟩:=h;exact bJ.one.2 (.p (Qv h1))
theorem dQ{ak:Env}{a:Act}{x:Operand}{y:aQ}(h:cF x=some y)(hr:im m ak a.tmps):bJ m (ev ak y) (a.eval x):=by
 unfold cF at h;split at h
 .cases h;exact hr _
 .cases h;exact bJ.one.2 (.p (.int _ _))
 .cases h;exact bJ.one.2 (.p (.bool _))
 .simp only[dq] at h;obtain⟨v,h1,rfl⟩:=h;exact ah2 h1
 .cases h;exact bJ.one.2 (.p (.fn #[] #[] rfl rfl (fun j x u a=>by simp at a) (fun j x u a=>by simp at a)))
 cases h
def Does(P:Program)(ρ:Operand->Value)(o:Oper)(w:World)(x:Value)(w':World):Prop:=
 (execOp ρ o).run P w=.ok (.value x) w'\/((execOp ρ o).run P w=.ok .skip w'/\x=undef)
def ff(P:Program)(w0:World)(ρ:Operand->Value)(o:Oper)(m:Mem)(v:V)(u:List dY):Prop:=∃x m',Does P ρ o m.w x m'.w/\Ok w0 m'/\Ev m m'/\m'.fr=m.fr/\m'.aj=app u m.aj/\bJ m' v x
theorem ff.calm{ρ:Operand->Value}{o:Oper}{v:V}{x:Value}(h:Ok w0 m)(iW:(execOp ρ o).run P m.w=.ok (.value x) m.w)(hv:bJ m v x):ff P w0 ρ o m v []:=
 ⟨x,m,.inl iW,h,Ev.refl m,rfl,rfl,hv⟩
section
variable {m:Mem} {ak:Env} {a:Act} {o:Oper} (aq:Ok w0 m) (hr:im m ak a.tmps)
include aq hr
theorem aey{x:Operand}{y:aQ}(ho:o.op=.move x\/o.op=.assign x)(hx:cF x=some y):ff P w0 a.eval o m (ev ak y) []:=
 .calm aq (by rcases ho with ho|ho<;>simp[execOp,ho]) (dQ hx hr)
theorem ap7{c x y:Operand}{c' x' y':aQ}{t:Bool}(ho:o.op=.pick c x y)(hc:cF c=some c')(hx:cF x=some x')(hy:cF y=some y')
  (ht:ev ak c'=.one (.p (.bool t))):ff P w0 a.eval o m (if t then ev ak x' else ev ak y') []:=by
 have h1:=dQ hc hr;rw[ht] at h1;obtain⟨⟩:cN m (.p (.bool t)) _:=h1;rename_i hp;generalize hb:a.eval c=b at hp;cases hp;refine .calm (x:=if t then a.eval x else a.eval y) aq ?_ ?_
 .simp[execOp,ho,hb,asBool]
 cases t
 .exact dQ hy hr
 exact dQ hx hr
end
theorem CW{b:Bool}(h:bJ m (.one (.p (.bool b))) v):v=.bool b:=by obtain⟨hp⟩:cN m _ v:=h;cases hp;rfl
theorem Bj{k:IntKind}{n:Int}(h:bJ m (.one (.p (.int k n))) v):v=.int k n:=by obtain⟨hp⟩:cN m _ v:=h;cases hp;rfl
theorem K5{s:ByteArray}(h:bJ m (.one (.p (.str s))) v):v=.string s:=by obtain⟨hp⟩:cN m _ v:=h;cases hp;rfl
theorem NQ(h:bJ m (.one (.p .nils)) v):v=.slice none 0 0:=by obtain⟨hp⟩:cN m _ v:=h;cases hp;rfl
theorem alT(h:bJ m (.one (.p .zs)) v):∃a,v=.slice a 0 0:=by obtain⟨hp⟩:cN m _ v:=h;cases hp;exact⟨_,rfl⟩
theorem abl(h:bJ m (.one (.p .pW)) v):v=.map none:=by obtain⟨hp⟩:cN m _ v:=h;cases hp;rfl
theorem kO{x:PV}(h:bX m.w m.own x v):bJ m (.one (.p x)) v:=bJ.one.2 (.p h)
def Mem.fresh(m:Mem)(ob:Obj)(s k:Nat)(o:Ob):Mem:=(m.later (m.w.alloc ob) (· =m.w.heap.size)).install s m.w.heap.size k o
theorem Te(aq:Ok w0 m)(ob:Obj)(s k:Nat)(o:Ob):(m.fresh ob s k o).fr=m.fr:=by
 funext c;simp only[Mem.fresh,Mem.install,Mem.later];apply propext;constructor
 .rintro ⟨h|h,h2⟩
  .exact h
  exact(h2 h).elim
 intro h;exact⟨.inl h,fun e=>by have:=aq.frlt c h;omega⟩
theorem Ng(ob:Obj)(s k:Nat)(o:Ob):Ev m (m.fresh ob s k o):=NN (HD (eZ.alloc m.w ob) fun c hc=>IW hc.symm) (.inr rfl) (.inl (cA _))
theorem Z0(ob:Obj)(s k:Nat)(o:Ob):(m.fresh ob s k o).w.heap[(m.fresh ob s k o).σ s]?=some ob:=by
 have:(m.fresh ob s k o).σ s=m.w.heap.size:=by simp[Mem.fresh,Mem.install,aS]
 rw[this];exact heap_alloc_new m.w ob
theorem Z1(aq:Ok w0 m)(ob:Obj)(s k:Nat)(o:Ob)(ho:rJ (m.fresh ob s k o) s o):Ok w0 (m.fresh ob s k o):=NO (K9 aq (eZ.alloc m.w ob) fun c hc=>by subst hc;exact⟨cA _,af⟩) (.inr rfl) aq.size ho
theorem Td(m:Mem)(ob:Obj)(s k:Nat)(o:Ob):(m.fresh ob s k o).aj=app [(s,((m.aj s).1+1,some o))] m.aj:=rfl
theorem Z2(aq:Ok w0 m)(s:Nat)(t:TypeId)(cs:List C)(arr:Array Value)(hc:cZ m cs arr.toList):
  Ok w0 (m.fresh (.cells arr t) s 0 (.var cs))/\bJ (m.fresh (.cells arr t) s 0 (.var cs)) (.one (.ba s ((m.aj s).1+1) 0)) (.pointer (some ⟨m.w.heap.size,0,none⟩)):=by
 refine⟨Z1 aq _ s 0 _ ⟨arr,t,Z0 _ s 0 _,hc.ev (Ng _ s 0 _).zero⟩,bJ.one.2 (.ba _ ?_ fun _ _=>?_)⟩
 .simp[Mem.fresh,Mem.install,Mem.later,aS]
 simp[Mem.fresh,Mem.install,aS]
theorem L2{t:TypeId}{z:List PV}(h:yC P t=some z):∃v i,P.info? t=some i/\i.zero=some v/\v.cells.size=i.size/\z.length=i.size/\ ∀w own,cV w own z v.cells.toList:=by
 unfold yC at h;split at h
 .rename_i i hi;split at h
  .rename_i cs hz;split at h
   .rename_i hs;have hr:=fun w own=>XP (w:=w) (own:=own) h;refine⟨_,i,hi,hz,by simpa [Value.cells] using hs,?_,fun w own=>by simpa [Value.cells] using hr w own⟩;have:=(hr default (fun _=>False)).1;simp at this;omega
   cases h
  .rename_i v hz hv;split at h
   .rename_i hs;simp only[dq] at h;obtain⟨x,hx,rfl⟩:=h;have hr:=fun w own=>Qv (w:=w) (own:=own) hx;have hc:=(hr default (fun _=>False)).cells;refine⟨v,i,hi,hv,by simp[hc,hs],by simp[hs],fun w own=>?_⟩;rw[hc];refine⟨rfl,fun j y u a b=>?_⟩;cases j with
    |zero=>simp at a b;subst a b;exact hr w own
    |succ j=>simp at a
   cases h
  cases h
 cases h
section
variable {m:Mem} {ak:Env} {a:Act} {o:Oper} (aq:Ok w0 m) (hr:im m ak a.tmps)
include aq
theorem apG{t:TypeId}{z:List PV}{s:Nat}(ho:o.op=.alloc t)(hz:yC P t=some z):
  ff P w0 a.eval o m (.one (.ba s ((m.aj s).1+1) 0)) [(s,((m.aj s).1+1,some (.var (z.map .p))))]:=by
 obtain⟨v,i,hi,hv,hs,hl,dj⟩:=L2 hz;obtain⟨h1,h2⟩:=Z2 aq s t (z.map .p) v.cells (dj m.w m.own).By;refine⟨_,_,.inl ?_,h1,Ng _ s 0 _,Te aq _ s 0 _,Td _ _ s 0 _,h2⟩;simp[execOp,ho,Instr.alloc,zeroValue,typeInfo,hi,hv,newVar,newRow];rfl
include hr
theorem apJ{t:TypeId}{x:Operand}{y:aQ}{cs:List C}{s:Nat}(ho:o.op=.box t x)(hx:cF x=some y)(hc:qq (ev ak y)=some cs):
  ff P w0 a.eval o m (.one (.ba s ((m.aj s).1+1) 0)) [(s,((m.aj s).1+1,some (.var cs)))]:=by
 have hv:=dQ hx hr;have cX:cZ m cs (a.eval x).cells.toList:=by
  generalize ev ak y=w at hc hv;cases w with
  |undef=>simp[qq] at hc
  |tup vs=>simp[qq] at hc
  |one c=>
   simp[qq] at hc;subst hc;rw[(bJ.one.1 hv).cells];refine⟨rfl,fun j y u p q=>?_⟩;cases j with
   |zero=>simp at p q;subst p q;exact hv
   |succ j=>simp at p
  |agg ds=>simp[qq] at hc;subst hc;obtain⟨arr,e,h⟩:=bJ.agg.1 hv;rw[e];exact h
 obtain⟨h1,h2⟩:=Z2 aq s t cs _ cX;refine⟨_,_,.inl ?_,h1,Ng _ s 0 _,Te aq _ s 0 _,Td _ _ s 0 _,h2⟩;simp[execOp,ho,Instr.box,newVar,newRow];rfl
end
end
end Go.Abs
namespace Go.Abs
variable {P:Program} {w0:World}
theorem Eb{α:Type}{sz:Nat}:∀ {es:List (List α)},(∀e∈es,e.length=sz)->es.flatten.length=es.length*sz:=by
 intro es
 induction es with
 |nil=>intro _;simp
 |cons e r ih=>intro h;have h1:=h e af;have h2:=ih fun x hx=>h x (by simp[hx]);simp only[kX,fH,dp,h1,h2,fA,IX];omega
theorem Ea{α:Type}{sz:Nat}:∀ {es:List (List α)},(∀e∈es,e.length=sz)->∀ {i:Nat} {e:List α},es[i]?=some e->∀ {j:Nat},j<sz->es.flatten[i*sz+j]?=e[j]? :=by
 intro es
 induction es with
 |nil=>intro _ i e h;simp at h
 |cons x r ih=>
  intro h i e he j hj;have h1:=h x af;cases i with
  |zero=>simp at he;subst he;simp only[kX,yF,jt];rw[uz aa]
  |succ i=>simp at he;have h2:=ih (fun y hy=>h y (by simp[hy])) he hj;simp only[kX];rw[vz (by rw[h1,fA];omega),<- h2];congr 1;rw[h1,fA];omega
theorem JR{α:Type}{sz:Nat}{es:List (List α)}(h:∀e∈es,e.length=sz){i:Nat}{e:List α}(he:es[i]?=some e):e.length=sz:=h e (aW he)
theorem B4{w:World}{b k:Nat}{cur:Array Value}{ty:TypeId}{fz:Nat×Nat}(h:w.heap[b]?=some (.cells cur ty fz)):w.cell? ⟨b,k,none⟩=cur[k]? :=cell_of_row w b k cur ty fz h
def At (m:Mem)(v:Value)(cs:List C):Prop:=∃b o vs,v=.pointer (some ⟨b,o,none⟩)/\cZ m cs vs/\ ∀(j:Nat) (u:Value),vs[j]?=some u->m.w.cell? ⟨b,o+j,none⟩=some u
theorem At.row{m:Mem}{b o:Nat}{cur:Array Value}{ty:TypeId}{fz:Nat×Nat}(h:m.w.heap[b]?=some (.cells cur ty fz)){cs:List C}(hl:o+cs.length<=cur.size)
  (hc:∀(j:Nat) (x:C) (u:Value),cs[j]?=some x->cur[o+j]?=some u->cN m x u):At m (.pointer (some ⟨b,o,none⟩)) cs:=by
 refine⟨b,o,(cur.toList.drop o).take cs.length,rfl,⟨by simp;omega,fun j x u p q=>?_⟩,fun j u q=>?_⟩
 .rw[jY] at q;split at q
  .exact hc j x u p (by simpa using q)
  cases q
 rw[jY] at q;split at q
 .rw[B4 h];simpa using q
 cases q
theorem ad5{m:Mem}(aq:Ok w0 m){x:V}{v:Value}{cs:List C}{rd:List Nat}(h:zI m.aj x=some (cs,rd))(hv:bJ m x v):At m v cs:=by
 unfold zI at h;split at h
 .rename_i ps;simp only[fe,jG] at h;obtain⟨rfl,rfl⟩:=h;obtain⟨hp⟩:cN m _ v:=hv;cases hp with
  |box b o f ho hc hr=>
   refine⟨b,o,(List.range ps.length).map f,rfl,⟨af,fun j x u p q=>?_⟩,fun j u q=>?_⟩
   .simp only[gh,dq] at p q;obtain⟨y,hy,rfl⟩:=p;obtain⟨k,hk,rfl⟩:=q;have GZ:k=j:=by
     rw[sI (by have:=aY.1 hy;obtain⟨h,_⟩:=this;exact h)] at hk
     simpa using hk.symm
    subst GZ;exact .p (hr k y hy)
   simp only[gh,dq] at q;obtain⟨k,hk,rfl⟩:=q;have au:j<ps.length:=by have:=aY.1 hk;obtain⟨h,_⟩:=this;simpa using h
   rw[sI au] at hk;simp at hk;subst hk;exact hc j _ (nU au)
 .rename_i id g off;have hv:cN m _ v:=hv;cases hv with
  |ba a hg ha=>
   split at h
   .rename_i g' xy hb;split at h
    .rename_i gT;simp only[fe,jG] at h;obtain⟨rfl,rfl⟩:=h;have aZ:(m.aj id).2=some (.var xy):=by rw[hb]
     have ha:=ha (by rw[hb];exact gT) (by rw[aZ];rfl);subst ha;obtain⟨cur,ty,hh,hl,hc⟩:=aq.obj id _ aZ;simp at hl;by_cases ho:off<=xy.length
     .exact At.row hh (by simp;omega) fun j x u p q=>hc (off+j) x u (by simpa using p) (by simpa using q)
     exact⟨_,_,[],rfl,⟨by simp;omega,fun j x u p q=>by simp at q⟩,fun j u q=>by simp at q⟩
    cases h
   .rename_i g' xy hb;split at h
    .rename_i gT;simp only[fe,jG] at h;obtain⟨rfl,rfl⟩:=h;have aZ:(m.aj id).2=some (.fvar xy):=by rw[hb]
     have ha:=ha (by rw[hb];exact gT) (by rw[aZ];rfl);subst ha;obtain⟨cur,ty,fz,hh,hp,_⟩:=aq.obj id _ aZ;have hl:=hp.1;simp at hl;by_cases ho:off<=xy.length
     .refine At.row hh (by simp;omega) fun j x u p q=>?_;simp only[gh,dq] at p;obtain⟨y,hy,rfl⟩:=p;exact .p (hp.2 (off+j) y u (by simpa using hy) (by simpa using q))
     exact⟨_,_,[],rfl,⟨by simp;omega,fun j x u p q=>by simp at q⟩,fun j u q=>by simp at q⟩
    cases h
   cases h
 .rename_i id g i off;have hv:cN m _ v:=hv;cases hv with
  |di a hg ha=>
   have key:∀(sz:Nat) (e:List C) (cur:Array Value) (ty:TypeId) (fz:Nat×Nat),m.w.heap[m.σ id]?=some (.cells cur ty fz)->e.length=sz->(i+1)*sz<=cur.size->
     a=⟨m.σ id,i*sz+off,none⟩->(∀(j:Nat) (x:C) (u:Value),e[j]?=some x->cur[i*sz+j]?=some u->cN m x u)->At m (.pointer (some a)) (e.drop off):=by
    intro sz e cur ty fz hh he au uX hc;subst uX;rw[fA,IX] at au;by_cases ho:off<=e.length
    .exact At.row hh (by simp;omega) fun j x u p q=>hc (off+j) x u (by simpa using p) (by rw[<- FG];exact q)
    exact⟨_,_,[],rfl,⟨by simp;omega,fun j x u p q=>by simp at q⟩,fun j u q=>by simp at q⟩
   have pure:∀(ty sz:Nat) (es:List (List PV)) (e:List PV) (cur:Array Value) (fz:Nat×Nat),m.w.heap[m.σ id]?=some (.cells cur ty fz)->(∀e∈es,e.length=sz)->es.length*sz<=cur.size->
     cV m.w m.own es.flatten (cur.toList.take (es.length*sz))->es[i]?=some e->a=⟨m.σ id,i*sz+off,none⟩->At m (.pointer (some a)) ((e.drop off).map .p):=by
    intro ty sz es e cur fz hh bU hlen dj he uX;have di:=JR bU he;have hi:i<es.length:=(aY.1 he).1;have ny:(i+1)*sz<=es.length*sz:=kD _ hi;rw[Py];refine key sz (e.map .p) cur ty fz hh (by simpa using di) aa uX fun j x u p q=>?_;simp only[gh,dq] at p;obtain⟨y,hy,rfl⟩:=p;have hj:j<sz:=by have:=(aY.1 hy).1;omega
    refine .p (dj.2 (i*sz+j) y u (by rw[Ea bU he hj];exact hy) ?_);rw[fA] at ny;rw[jY,aE aa]
    simpa using q
   split at h
   .rename_i g' ty sz es hb;split at h
    .rename_i gT;simp only[dq,jG] at h;obtain⟨e,he,rfl,rfl⟩:=h;have aZ:(m.aj id).2=some (.arr ty sz es):=by rw[hb]
     obtain⟨cur,hh,nH,bU,hl,hm,cX,dj⟩:=aq.obj id _ aZ;exact pure ty sz es e cur _ hh bU (by rw[cX];exact kD _ hl) dj he (ha sz (by rw[hb];exact gT) (by rw[hb];rfl))
    cases h
   .rename_i g' ty sz es hb;split at h
    .rename_i gT;simp only[dq,jG] at h;obtain⟨e,he,rfl,rfl⟩:=h;have aZ:(m.aj id).2=some (.l7 ty sz es):=by rw[hb]
     obtain⟨cur,fz,hh,nH,bU,hl,hm,cX,dj,_⟩:=aq.obj id _ aZ;exact pure ty sz es e cur _ hh bU (by rw[cX];exact kD _ hl) dj he (ha sz (by rw[hb];exact gT) (by rw[hb];rfl))
    cases h
   .rename_i g' ty sz es hb;split at h
    .rename_i gT;simp only[dq,jG] at h;obtain⟨e,he,rfl,rfl⟩:=h;have aZ:(m.aj id).2=some (.gQ ty sz es):=by rw[hb]
     obtain⟨cur,hh,nH,bU,hl,hm,cX,dj⟩:=aq.obj id _ aZ;have di:=JR bU he;have hi:i<es.length:=(aY.1 he).1;have ny:(i+1)*sz<=es.length*sz:=kD _ hi;have aaR:es.length*sz<=m.κ id*sz:=kD _ hl;refine key sz e cur ty _ hh di aa (ha sz (by rw[hb];exact gT) (by rw[hb];rfl)) fun j x u p q=>?_;have hj:j<sz:=by have:=(aY.1 p).1;omega
     refine dj.2 (i*sz+j) x u (by rw[Ea bU he hj];exact p) ?_;rw[fA] at ny;rw[jY,aE aa]
     simpa using q
    cases h
   cases h
 cases h
end Go.Abs
namespace Go.Abs
variable {P:Program} {w0:World}
theorem al4{t:TypeId}{n:Nat}(h:pV P t=some (some n)):∃d i,P.underlying t=some d/\P.info? t=some i/\i.size=n/\((∃fs,d=.struct fs)\/ ∃k e,d=.array k e):=by
 unfold pV at h;split at h
 .rename_i fs i h1 h2;simp at h;exact⟨_,i,h1,h2,h,.inl ⟨fs,rfl⟩⟩
 .rename_i k e i h1 h2;simp at h;exact⟨_,i,h1,h2,h,.inr ⟨k,e,rfl⟩⟩
 .split at h<;>simp at h
 cases h
theorem al3{t:TypeId}(h:pV P t=some none):∃d i,P.underlying t=some d/\P.info? t=some i/\i.size=1/\(∀fs,d≠ .struct fs)/\ ∀k e,d≠ .array k e:=by
 unfold pV at h;split at h
 .simp at h
 .simp at h
 .rename_i d i n1 n2 h1 h2;split at h
  .rename_i hs;exact⟨_,_,h1,h2,hs,fun fs e=>n1 fs e,fun k e' e=>n2 k e' e⟩
  cases h
 cases h
theorem aek{t:TypeId}{n:Nat}(h:pV P t=some (some n))(w:World):(isAgg t).run P w=.ok true w/\(sizeOf t).run P w=.ok n w:=by
 obtain⟨d,i,h1,h2,h3,h4⟩:=al4 h;constructor
 .rcases h4 with ⟨fs,rfl⟩|⟨k,e,rfl⟩<;>simp[isAgg,run_underlying h1]
 simp[sizeOf,typeInfo,h2,h3]
theorem aej{t:TypeId}(h:pV P t=some none)(w:World):(isAgg t).run P w=.ok false w/\(sizeOf t).run P w=.ok 1 w:=by
 obtain⟨d,i,h1,h2,h3,h4,h5⟩:=al3 h;constructor
 .cases d<;>first
   |exact(h4 _ rfl).elim
   |exact(h5 _ _ rfl).elim
   |simp[isAgg,run_underlying h1]
 simp[sizeOf,typeInfo,h2,h3]
theorem acA{m:Mem}{t:TypeId}{k:Option Nat}(hk:pV P t=some k){v:Value}{cs:List C}(h:At m v cs){x:V}(hx:nQ k cs=some x):
  ∃a y,v=.pointer (some a)/\(loadVar t a).run P m.w=.ok y m.w/\bJ m x y:=by
 obtain⟨b,o,vs,rfl,cX,jz⟩:=h;cases k with
 |none=>
  obtain⟨h1,h2⟩:=aej hk m.w;cases cs with
  |nil=>simp[nQ] at hx
  |cons c r=>
   simp[nQ] at hx;subst hx;obtain⟨hl,hr⟩:=cX;cases vs with
   |nil=>simp at hl
   |cons u us=>have h0:=jz 0 u rfl;refine⟨_,u,rfl,?_,bJ.one.2 (hr 0 c u rfl rfl)⟩;rw[vD] at h0;simp[loadVar,h1,h0]
 |some n=>
  obtain⟨h1,h2⟩:=aek hk m.w;simp only[nQ] at hx;split at hx
  .rename_i hn;cases hx;obtain⟨hl,hr⟩:=cX;refine⟨_,.agg (vs.take n).toArray,rfl,?_,bJ.agg.2 ⟨_,rfl,by simp;omega,fun j x u p q=>?_⟩⟩
   .have hlen:(vs.take n).length=n:=by simp;omega
    have:=run_loadCells_list (P:=P) m.w ⟨b,o,none⟩ (vs.take n) (fun j u q=>by
     rw[Addr.add_lit];rw[jY] at q;split at q
     .exact jz j u q
     cases q)
    rw[hlen] at this;simp[loadVar,h1,h2,this]
   rw[jY] at p;simp only[jY] at q;split at p
   .rename_i hj;simp only[hj,if_true] at q;exact hr j x u p q
   cases p
  cases hx
section
variable {m:Mem} {ak:Env} {a:Act} {o:Oper} (aq:Ok w0 m) (hr:im m ak a.tmps)
include aq hr
theorem apW{t:TypeId}{x:Operand}{y:aQ}{k:Option Nat}{cs:List C}{rd:List Nat}{v:V}(ho:o.op=.load t x)(hk:pV P t=some k)(hx:cF x=some y)
  (hc:zI m.aj (ev ak y)=some (cs,rd)) (hv:nQ k cs=some v):ff P w0 a.eval o m v []:=by
 obtain⟨ad,y',h1,h2,h3⟩:=acA hk (ad5 aq hc (dQ hx hr)) hv;exact .calm aq (by simp[execOp,ho,h1,Instr.loadAt,Instr.sureAddr,h2]) h3
theorem ap5{x:Operand}{y:aQ}{v:V}(ho:o.op=.nilCheck x)(hx:cF x=some y)(hv:bl (fun _=>false) ak m.aj (.HL y)=.done v [] []):ff P w0 a.eval o m v []:=by
 have dO:=dQ hx hr;simp only[bl] at hv;split at hv
 .rename_i he;rw[he] at dO;cases hv;have hc:cN m _ (a.eval x):=dO;generalize hb:a.eval x=b at hc dO;cases hc with
  |ba ad hg h=>exact .calm aq (by simp[execOp,ho,hb]) dO
 .rename_i he;rw[he] at dO;cases hv;have hc:cN m _ (a.eval x):=dO;generalize hb:a.eval x=b at hc dO;cases hc with
  |di ad hg h=>exact .calm aq (by simp[execOp,ho,hb]) dO
 .rename_i he;rw[he] at dO;cases hv;have hc:cN m _ (a.eval x):=dO;generalize hb:a.eval x=b at hc dO;cases hc with
  |p hp=>cases hp with
   |box b' o' f jS jN oE=>exact .calm aq (by simp[execOp,ho,hb]) dO
 .rename_i he;rw[he] at dO;cases hv;have hc:cN m _ (a.eval x):=dO;generalize hb:a.eval x=b at hc dO;cases hc with
  |hfn A B ha mF uc pQ=>exact .calm aq (by simp[execOp,ho,hb]) dO
 .rename_i he;rw[he] at dO;cases hv;have hc:cN m _ (a.eval x):=dO;generalize hb:a.eval x=b at hc dO;cases hc with
  |p hp=>cases hp with
   |fn A B ha mF uc pQ=>exact .calm aq (by simp[execOp,ho,hb]) dO
 cases hv
end
end Go.Abs
namespace Go.Abs
variable {P:Program} {w0:World}
section
variable{vs:List Value}{off:Nat}
theorem bX.norm{w:World}{own:Nat->Prop}{x:PV}{v:Value}(h:bX w own x v):bX w own x.norm v:=by
 cases h<;>first
  |exact .wR none 0 (fun _=>rfl) (bn _)
  |exact .wR _ 0 (fun _=>rfl) (bn _)
  |(simp only[PV.norm];constructor<;>assumption)
theorem arf{m:Mem}{c:C}{x:PV}{v:Value}(h:toP c=some x)(hr:cN m c v):bX m.w m.own x v:=by
 cases hr<;>simp[toP] at h
 rename_i hp;subst h;exact hp.norm
theorem LU{m:Mem}:∀ {cs:List C} {xs:List PV} {vs:List Value},zP cs=some xs->cZ m cs vs->cV m.w m.own xs vs:=by
 intro cs
 induction cs with
 |nil=>intro xs vs h hr;simp[zP] at h;subst h;exact⟨hr.1,fun j x u a=>by simp at a⟩
 |cons c r ih=>
  intro xs vs h hr;simp only[zP] at h;split at h
  .rename_i x ys h1 h2;cases h;cases vs with
   |nil=>simp[cZ] at hr
   |cons v us=>
    obtain⟨hl,Bg⟩:=ih (vs:=us) h2 ⟨by simpa using hr.1,fun j x u a b=>hr.2 (j+1) x u (by simpa using a) (by simpa using b)⟩;refine⟨by simp[hl],fun j z u a b=>?_⟩;cases j with
    |zero=>simp at a b;subst a b;exact arf h1 (hr.2 0 c v rfl rfl)
    |succ j=>simp at a b;exact Bg j z u a b
  cases h
def Pw {α:Type}(R:α->Value->Prop)(xs:List α)(vs:List Value):Prop:=vs.length=xs.length/\ ∀(j:Nat) (x:α) (u:Value),xs[j]?=some x->vs[j]?=some u->R x u
theorem Pw.take{α:Type}{R:α->Value->Prop}{xs:List α}(h:Pw R xs vs)(n:Nat):Pw R (xs.take n) (vs.take n):=by
 refine⟨by simp[h.1],fun j x u a b=>?_⟩;rw[jY] at a b;split at a
 .rename_i hj;rw[aE hj] at b;exact h.2 j x u a b
 cases a
theorem Pw.drop{α:Type}{R:α->Value->Prop}{xs:List α}(h:Pw R xs vs)(n:Nat):Pw R (xs.drop n) (vs.drop n):=
 ⟨by simp[h.1],fun j x u a b=>h.2 (n+j) x u (by simpa using a) (by simpa using b)⟩
theorem Pw.append{α:Type}{R:α->Value->Prop}{xs ys:List α}{us:List Value}(h:Pw R xs vs)(k:Pw R ys us):Pw R (xs++ys) (vs++us):=by
 refine⟨by simp[h.1,k.1],fun j x u a b=>?_⟩;by_cases hj:j<xs.length
 .rw[uz hj] at a;rw[uz (by rw[h.1];exact hj)] at b;exact h.2 j x u a b
 rw[vz aa] at a;rw[vz (by rw[h.1];omega),h.1] at b;exact k.2 _ x u a b
theorem Pw.eh{α:Type}{R:α->Value->Prop}{xs ys:List α}{us:List Value}(h:Pw R xs vs)(k:Pw R ys us)(off:Nat):Pw R (eh xs off ys) (eh vs off us):=by unfold Abs.eh;rw[k.1];exact((h.take off).append k).append (h.drop _)
theorem O0{α:Type}{cs xs:List α}(h:off+xs.length<=cs.length):(eh cs off xs).length=cs.length:=by simp[eh];omega
theorem aeR{α:Type}{cs xs:List α}{n:Nat}(h:off+xs.length<=n)(hn:n<=cs.length):(eh cs off xs).take n=eh (cs.take n) off xs:=by unfold eh;rw[Ws,Ws,Mf,List.drop_take];simp only[fH,iF];rw[zZ (by omega:off<=cs.length),Mf,zZ (by omega:off<=n),Nat.min_eq_right (by omega:off<=n)];have e:n-(off+xs.length)=n-(off+xs.length):=rfl;rw[eY (by omega:xs.length<=n-off)]
theorem aqJ{α:Type}{a cs xs:List α}:eh (a++cs) (a.length+off) xs=a++eh cs off xs:=by unfold eh;rw[Ws,List.drop_append];simp only[wY];rw[eY (by omega:a.length<=a.length+off),afE (by omega:a.length<=a.length+off+xs.length)];simp only[gi];have e1:a.length+off-a.length=off:=aa;have e2:a.length+off+xs.length-a.length=off+xs.length:=aa;rw[e1,e2]
theorem aqI{α:Type}{a cs xs:List α}(h:off+xs.length<=a.length):eh (a++cs) off xs=eh a off xs++cs:=by unfold eh;rw[Wt aa,List.drop_append_of_le_length aa];simp
theorem ajI{α:Type}{sz:Nat}{ps:List α}:∀ {es:List (List α)},(∀e∈es,e.length=sz)->∀ {i:Nat} {e:List α},es[i]?=some e->off+ps.length<=sz->
  (es.set i (eh e off ps)).flatten=eh es.flatten (i*sz+off) ps:=by
 intro es
 induction es with
 |nil=>intro _ i e h;simp at h
 |cons x r ih=>
  intro h i e he hl;have h1:=h x af;cases i with
  |zero=>simp at he;subst he;simp only[afP,kX,yF,jt];rw[aqI aa]
  |succ i=>
   simp at he;simp only[List.set_cons_succ,kX];rw[ih (fun y hy=>h y (by simp[hy])) he hl];have hh:(i+1)*sz+off=x.length+(i*sz+off):=by rw[h1,fA];omega
   rw[hh,aqJ]
theorem LH{w:World}{g:Nat}{cur new:Array Value}{ty:TypeId}{fz:Nat×Nat}(h:w.heap[g]?=some (.cells cur ty fz)):(w.setRow g new).heap[g]?=some (.cells new ty fz):=setRow_heap w g cur new ty fz h
theorem cZ.pw{m:Mem}{cs:List C}:cZ m cs vs↔Pw (cN m) cs vs:=Iff.rfl
theorem cV.pw{w:World}{own:Nat->Prop}{cs:List PV}:cV w own cs vs↔Pw (bX w own) cs vs:=Iff.rfl
theorem cZ.one{m:Mem}{cs:List C}(h:cZ m cs vs):∀v∈vs,v.oneCell'=true:=by
 intro v hv;obtain⟨j,hj⟩:=gH hv;have au:j<cs.length:=by rw[<- h.1];exact(aY.1 hj).1
 exact(h.2 j _ v (nU au) hj).Ln
theorem Ql{m:Mem}{x:V}{v:Value}{cs:List C}(h:qq x=some cs)(hr:bJ m x v):cZ m cs v.cells.toList:=by
 cases x with
 |undef=>simp[qq] at h
 |tup vs=>simp[qq] at h
 |one c=>
  simp[qq] at h;subst h;rw[(bJ.one.1 hr).cells];refine⟨rfl,fun j y u p q=>?_⟩;cases j with
  |zero=>simp at p q;subst p q;exact hr
  |succ j=>simp at p
 |agg ds=>simp[qq] at h;subst h;obtain⟨arr,e,h⟩:=bJ.agg.1 hr;rw[e];exact h
section
variable {m:Mem} {ak:Env} {a:Act} {o:Oper} (aq:Ok w0 m) (hr:im m ak a.tmps)
include aq hr
theorem aqc{t:TypeId}{x v:Operand}{x' v':aQ}{n:Nat}{cs:List C}{r:V}{u:List dY}{rd:List Nat}(ho:o.op=.store t x v)(hn:vr P t=some n)(hx:cF x=some x')(hv:cF v=some v')
  (hc:qq (ev ak v')=some cs) (hw:yB m.aj (ev ak x') n cs=.done r u rd):ff P w0 a.eval o m r u:=by
 have cX:=Ql hc (dQ hv hr);have jU:=dQ hx hr;unfold vr at hn;simp only[dq] at hn;obtain⟨i,hi,j7⟩:=hn;have bU:(a.eval v).cells.toList.length=cs.length:=cX.1;simp only[L3] at bU;unfold yB at hw;split at hw
 .cases hw
 rename_i hlen;have hlen:cs.length=n:=by simpa using hlen
 have NC:=cX.one;split at hw
 .rename_i id g off he;rw[he] at jU;have jU:cN m _ (a.eval x):=jU;generalize hb:a.eval x=b at jU;cases jU with
  |ba ad hg l9=>
   split at hw
   .rename_i g' xy jM;split at hw
    .rename_i A1;obtain⟨gT,hfit⟩:=A1;cases hw;have aZ:(m.aj id).2=some (.var xy):=by rw[jM]
     have l9:=l9 (by rw[jM];exact gT) (by rw[aZ];rfl);subst l9;obtain⟨cur,ty,hh,dj⟩:=aq.obj id _ aZ;have dM:=dj.1;simp at dM;have yV:off+0+(a.eval v).cells.toList.length<=cur.size:=by simp;omega
     have cJ:=run_storeCells_at P (m.σ id) off ty (a.eval v).cells.toList 0 cur m.w hh yV NC;simp only[vD] at cJ;generalize hW:m.w.setRow (m.σ id) (cur.toList.take off++(a.eval v).cells.toList++cur.toList.drop (off+(a.eval v).cells.toList.length)).toArray=W at cJ;have Co:W.heap.size=m.w.heap.size:=by rw[<- hW];simp
     have Cn:∀c,c≠m.σ id->W.heap[c]?=m.w.heap[c]? :=fun c hc=>by rw[<- hW];exact setRow_other m.w (m.σ id) c _ hc
     have dA:=LG (w':=W) (o:=.var (eh xy off cs)) aZ rfl (by simp[jR]) (by rw[<- hW];rfl) (by rw[<- hW];rfl) (by rw[<- hW];rfl) Co Cn;have Bf:rJ (m.js W id (.var (eh xy off cs))) id (.var (eh xy off cs)):=by
      refine⟨_,ty,by rw[<- hW];exact LH hh,?_⟩;have:=cZ.pw.2 ((cZ.pw.1 (dj.ev dA.zero)).eh (cZ.pw.1 (cX.ev dA.zero)) off)
      simpa [eh] using this
     refine⟨undef,m.js W id (.var (eh xy off cs)),.inr ⟨?_,rfl⟩,OP aZ rfl aq (by simp[jR]) (by rw[<- hW];rfl) (by rw[<- hW];rfl) (by rw[<- hW];rfl) Co Cn Bf,dA,rfl,?_,rfl⟩
     .simp only[execOp,ho,hb,Instr.storeAt,Instr.sureAddr,storeVar,sizeOf,typeInfo];simp[hi,bU,hlen,j7,cJ,Mem.js]
     simp[Mem.js,app,jM,gT]
    cases hw
   cases hw
 .rename_i id g i' off he;rw[he] at jU;have jU:cN m _ (a.eval x):=jU;generalize hb:a.eval x=b at jU;cases jU with
  |di ad hg l9=>
   split at hw
   .rename_i g' ty sz es jM;split at hw
    .rename_i e ps v7 NF;split at hw
     .rename_i A1;obtain⟨gT,hfit⟩:=A1;cases hw;have aZ:(m.aj id).2=some (.arr ty sz es):=by rw[jM]
      have l9:=l9 sz (by rw[jM];exact gT) (by rw[jM];rfl);subst l9;obtain⟨cur,hh,nH,r7,hl,hm,aaJ,dj⟩:=aq.obj id _ aZ;have di:=JR r7 v7;have akI:i'<es.length:=(aY.1 v7).1;have ny:(i'+1)*sz<=es.length*sz:=kD _ akI;have aaR:es.length*sz<=m.κ id*sz:=kD _ hl;rw[fA,IX] at ny;have hpsl:ps.length=cs.length:=by rw[<- cX.1];exact(LU NF cX).1.symm
      have yV:i'*sz+off+0+(a.eval v).cells.toList.length<=cur.size:=by simp;omega
      have cJ:=run_storeCells_at P (m.σ id) (i'*sz+off) ty (a.eval v).cells.toList 0 cur m.w hh yV NC;simp only[vD] at cJ;generalize hW:m.w.setRow (m.σ id) (cur.toList.take (i'*sz+off)++(a.eval v).cells.toList++cur.toList.drop (i'*sz+off+(a.eval v).cells.toList.length)).toArray=W at cJ;have Co:W.heap.size=m.w.heap.size:=by rw[<- hW];simp
      have Cn:∀c,c≠m.σ id->W.heap[c]?=m.w.heap[c]? :=fun c hc=>by rw[<- hW];exact setRow_other m.w (m.σ id) c _ hc
      have dA:=LG (w':=W) (o:=.arr ty sz (es.set i' (eh e off ps))) aZ rfl (by simp[jR]) (by rw[<- hW];rfl) (by rw[<- hW];rfl) (by rw[<- hW];rfl) Co Cn;have Bf:rJ (m.js W id (.arr ty sz (es.set i' (eh e off ps)))) id (.arr ty sz (es.set i' (eh e off ps))):=by
       refine⟨_,by rw[<- hW];exact LH hh,nH,?_,by rw[rD];exact hl,hm,?_,?_⟩
       .intro e' En;rcases PA En with h|h
        .exact r7 e' h
        rw[h,O0 aa];exact di
       .simp[Mem.js];omega
       rw[rD,ajI r7 v7 aa];have h1:=(cV.pw.1 (dj.ev dA.zero)).eh (cV.pw.1 ((LU NF cX).ev dA.zero)) (i'*sz+off);rw[<- aeR (by simp;omega) (by simp;omega)] at h1;have h1:=cV.pw.2 h1
       simpa [eh] using h1
      refine⟨undef,m.js W id (.arr ty sz (es.set i' (eh e off ps))),.inr ⟨?_,rfl⟩,OP aZ rfl aq (by simp[jR]) (by rw[<- hW];rfl) (by rw[<- hW];rfl) (by rw[<- hW];rfl) Co Cn Bf,dA,rfl,?_,rfl⟩
      .simp only[execOp,ho,hb,Instr.storeAt,Instr.sureAddr,storeVar,sizeOf,typeInfo];simp[hi,bU,hlen,j7,cJ,Mem.js]
      simp[Mem.js,app,jM,gT]
     cases hw
    cases hw
   cases hw
 cases hw
end
end
end Go.Abs
namespace Go.Abs
variable {P:Program} {w0:World}
theorem xn{m:Mem}{x:V}{v:Value}{n:Nat}(h:mZ x=some n)(hr:bJ m x v):∃k,v=.int k (n:Int):=by
 unfold mZ at h;split at h
 .rename_i k z;split at h
  .rename_i hz;cases h;exact⟨k,by rw[Bj hr,afC hz]⟩
  cases h
 cases h
theorem OS{t:TypeId}{n:Nat}(h:vr P t=some n)(w:World):(sizeOf t).run P w=.ok n w:=by unfold vr at h;simp only[dq] at h;obtain⟨i,hi,rfl⟩:=h;simp[sizeOf,typeInfo,hi]
section
variable {m:Mem} {ak:Env} {a:Act} {o:Oper} (aq:Ok w0 m) (hr:im m ak a.tmps)
include aq hr
theorem apS{s:TypeId}{x:Operand}{f:Nat}{fs:Array Field}{d:Field}{y:aQ}{v:V}(ho:o.op=.fieldAddr s x f)(hs:P.underlying s=some (.struct fs))(hf:fs[f]?=some d)
  (hz:P.cellsOf d.type≠0) (hx:cF x=some y) (hv:bl (fun _=>false) ak m.aj (.lZ d.offset y)=.done v [] []):ff P w0 a.eval o m v []:=by
 have dO:=dQ hx hr;have bU:∃n,(sizeOf d.type).run P m.w=.ok n m.w/\n≠0:=by
  unfold Program.cellsOf at hz;cases hi:P.info? d.type with
  |none=>simp[hi] at hz
  |some i=>exact⟨i.size,by simp[sizeOf,typeInfo,hi],by simpa [hi] using hz⟩
 obtain⟨n,hn,fP⟩:=bU;have run:∀ad,a.eval x=.pointer (some ad)->(execOp a.eval o).run P m.w=.ok (.value (.pointer (some (ad.add d.offset)))) m.w:=by intro ad l9;simp[execOp,ho,l9,Instr.fieldAt,run_underlying hs,hf,Instr.sureAddr,fieldPlace,hn,fP]
 simp only[bl] at hv;split at hv
 .rename_i id g off he;rw[he] at dO;cases hv;have hc:cN m _ (a.eval x):=dO;generalize hb:a.eval x=b at hc;cases hc with
  |ba ad hg h=>exact .calm aq (run _ hb) (bJ.one.2 (.ba _ hg fun h1 h2=>by rw[h h1 h2,Addr.add_lit]))
 .rename_i id g i off he;rw[he] at dO;cases hv;have hc:cN m _ (a.eval x):=dO;generalize hb:a.eval x=b at hc;cases hc with
  |di ad hg h=>exact .calm aq (run _ hb) (bJ.one.2 (.di _ hg fun sz h1 h2=>by rw[h sz h1 h2,Addr.add_lit,FG]))
 .rename_i cs he;rw[he] at dO;cases hv;have hc:cN m _ (a.eval x):=dO;generalize hb:a.eval x=b at hc;cases hc with
  |p hp=>cases hp with
   |box b' o' f' jS jN oE=>refine .calm aq (run _ hb) (kO ?_);rw[Addr.add_lit];refine .box b' (o'+d.offset) (fun j=>f' (d.offset+j)) (fun h=>jS fun e=>h (by simp[e])) (fun j z h=>?_) fun j z h=>oE _ z (by simpa using h);rw[FG];exact jN _ z (by simpa using h)
 cases hv
theorem apU{t e:TypeId}{x i:Operand}{sz:Nat}{x' i':aQ}{v:V}(ho:o.op=.indexAddr t x i)(ht:P.underlying t=some (.slice e))(hs:vr P e=some sz)
  (hx:cF x=some x') (hi:cF i=some i') (hv:bl (fun _=>false) ak m.aj (.Hu sz x' i')=.done v [] []):ff P w0 a.eval o m v []:=by
 have dO:=dQ hx hr;have Hf:=dQ hi hr;have run:∀ad len cap k (n:Nat),a.eval x=.slice (some ad) len cap->a.eval i=.int k (n:Int)->n<len->(execOp a.eval o).run P m.w=.ok (.value (.pointer (some (ad.add (n*sz))))) m.w:=by intro ad len cap k n h1 h2 h3;simp[execOp,ho,h1,h2,Instr.indexAt,asIntOf,run_underlying ht,OS hs,h3]
 simp only[bl] at hv;split at hv
 .rename_i n es hn he;obtain⟨k,hk⟩:=xn hn Hf;rw[he] at dO;split at hv
  .rename_i el di;split at hv
   .rename_i hlen;cases hv;have hc:cN m _ (a.eval x):=dO;generalize hb:a.eval x=b at hc;cases hc with
    |p hp=>
     generalize fR:(PV.sl es)=pv at hp;cases hp<;>first
      |cases fR
      |skip
     .simp at di
     rename_i b' o' cap bN f j8 jS tW bU qA Bg;have au:n<es.length:=(aY.1 di).1;have T6:bN=sz:=by rw[<- JR bU di];exact hlen
     subst T6;refine .calm aq (run _ _ _ k n hb hk au) (kO ?_);rw[Addr.add_lit];refine .box b' (o'+n*bN) (fun j=>f (n*bN+j)) (fun h=>jS ?_) (fun j z h=>?_) fun j z h=>?_
     .intro e0;cases el with
      |nil=>exact h rfl
      |cons c r=>have:=Ea bU di (j:=0) (by rw[<- hlen];simp);rw[e0] at this;simp at this
     .have hj:j<bN:=by rw[<- hlen];exact(aY.1 h).1
      rw[FG];exact qA _ z (by rw[Ea bU di hj];exact h)
     have hj:j<bN:=by rw[<- hlen];exact(aY.1 h).1
     exact Bg _ z (by rw[Ea bU di hj];exact h)
   cases hv
  cases hv
 .rename_i n id g z off len hn he;obtain⟨k,hk⟩:=xn hn Hf;rw[he] at dO;split at hv
  .rename_i au;cases hv;have hc:cN m _ (a.eval x):=dO;generalize hb:a.eval x=b at hc;cases hc with
   |hsl ad cap hg hl hm h=>refine .calm aq (run _ _ _ k n hb hk au.1) (bJ.one.2 (.di _ hg fun s h1 h2=>?_));obtain⟨e1,e2,_⟩:=h s h1 h2;rw[e2 (.inr aa),Addr.add_lit,e1,au.2];simp[fA]
  cases hv
 cases hv
theorem apE{t e:TypeId}{x i:Operand}{sz ln:Nat}{x' i':aQ}{v:V}(ho:o.op=.indexAddr t x i)(ht:P.underlying t=some (.array ln e))(hs:vr P e=some sz)
  (hx:cF x=some x') (hi:cF i=some i') (hv:bl (fun _=>false) ak m.aj (.FW ln sz x' i')=.done v [] []):ff P w0 a.eval o m v []:=by
 have dO:=dQ hx hr;have Hf:=dQ hi hr;have run:∀ad k (n:Nat),a.eval x=.pointer (some ad)->a.eval i=.int k (n:Int)->n<ln->(execOp a.eval o).run P m.w=.ok (.value (.pointer (some (ad.add (n*sz))))) m.w:=by intro ad k n h1 h2 h3;simp[execOp,ho,h1,h2,Instr.indexAt,asIntOf,run_underlying ht,OS hs,h3,Instr.sureAddr]
 simp only[bl] at hv;split at hv
 .rename_i n id g off hn he;obtain⟨k,hk⟩:=xn hn Hf;rw[he] at dO;split at hv
  .rename_i au;cases hv;have hc:cN m _ (a.eval x):=dO;generalize hb:a.eval x=b at hc;cases hc with
   |ba ad hg h=>exact .calm aq (run _ k n hb hk au) (bJ.one.2 (.ba _ hg fun h1 h2=>by rw[h h1 h2,Addr.add_lit]))
  cases hv
 .rename_i n id g j off hn he;obtain⟨k,hk⟩:=xn hn Hf;rw[he] at dO;split at hv
  .rename_i au;cases hv;have hc:cN m _ (a.eval x):=dO;generalize hb:a.eval x=b at hc;cases hc with
   |di ad hg h=>exact .calm aq (run _ k n hb hk au) (bJ.one.2 (.di _ hg fun s h1 h2=>by rw[h s h1 h2,Addr.add_lit,FG]))
  cases hv
 .rename_i n cs hn he;obtain⟨k,hk⟩:=xn hn Hf;rw[he] at dO;split at hv
  .rename_i au;cases hv;have hc:cN m _ (a.eval x):=dO;generalize hb:a.eval x=b at hc;cases hc with
   |p hp=>cases hp with
    |box b' o' f' jS jN oE=>refine .calm aq (run _ k n hb hk au) (kO ?_);rw[Addr.add_lit];refine .box b' (o'+n*sz) (fun j=>f' (n*sz+j)) (fun h=>jS fun e=>h (by simp[e])) (fun j z h=>?_) fun j z h=>oE _ z (by simpa using h);rw[FG];exact jN _ z (by simpa using h)
  cases hv
 cases hv
theorem adB{t:TypeId}{k:Option Nat}(hk:pV P t=some k){cs:List C}{arr:Array Value}(hc:cZ m cs arr.toList){off:Nat}{x:V}(hx:nQ k (cs.drop off)=some x):
  ∃y,(part t arr off).run P m.w=.ok y m.w/\bJ m x y:=by
 have _u0:=aq;have _u1:=hr;have hl:=hc.1;simp at hl;cases k with
 |none=>
  obtain⟨h1,h2⟩:=aej hk m.w;cases hd:cs.drop off with
  |nil=>simp[hd,nQ] at hx
  |cons c r=>
   simp[hd,nQ] at hx;subst hx;have cX:cs[off]?=some c:=by
    have:=congrArg (·[0]?) hd
    simpa using this
   have au:off<arr.size:=by rw[hl];exact(aY.1 cX).1
   refine⟨arr[off],by simp[part,h1,au],bJ.one.2 (hc.2 off c _ cX (by simp[au]))⟩
 |some n=>
  obtain⟨h1,h2⟩:=aek hk m.w;simp only[nQ] at hx;split at hx
  .rename_i hn;cases hx;simp at hn;refine⟨.agg (arr.extract off (off+n)),by simp[part,h1,h2],bJ.agg.2 ⟨_,rfl,by simp;omega,fun j x u p q=>?_⟩⟩;rw[jY] at p;split at p
   .rename_i hj;simp at p;refine hc.2 (off+j) x u p ?_;have au:off+j<cs.length:=(aY.1 p).1;have he:(arr.extract off (off+n)).toList=(arr.toList.drop off).take n:=af;rw[he,jY,aE hj,wZ] at q;exact q
   cases p
  cases hx
theorem apT{t:TypeId}{x:Operand}{f:Nat}{fs:Array Field}{d:Field}{y:aQ}{k:Option Nat}{cs:List C}{v:V}(ho:o.op=.field t x f)(hs:P.underlying t=some (.struct fs))(hf:fs[f]?=some d)
  (hk:pV P d.type=some k) (hx:cF x=some y) (hy:ev ak y=.agg cs) (hv:nQ k (cs.drop d.offset)=some v):ff P w0 a.eval o m v []:=by
 have dO:=dQ hx hr;rw[hy] at dO;obtain⟨arr,e,hc⟩:=bJ.agg.1 dO;obtain⟨z,h1,h2⟩:=adB (aq:=aq) (hr:=hr) hk hc hv;exact .calm aq (by simp[execOp,ho,e,Instr.field,run_underlying hs,hf,asAgg,h1]) h2
theorem apF{t e:TypeId}{x i:Operand}{ln sz:Nat}{x' i':aQ}{k:Option Nat}{n:Nat}{cs:List C}{v:V}(ho:o.op=.index t x i)(ht:P.underlying t=some (.array ln e))(hs:vr P e=some sz)
  (hk:pV P e=some k) (hx:cF x=some x') (hi:cF i=some i') (hn:mZ (ev ak i')=some n) (au:n<ln) (hy:ev ak x'=.agg cs) (hv:nQ k (cs.drop (n*sz))=some v):ff P w0 a.eval o m v []:=by
 have dO:=dQ hx hr;obtain⟨kk,tV⟩:=xn hn (dQ hi hr);rw[hy] at dO;obtain⟨arr,e',hc⟩:=bJ.agg.1 dO;obtain⟨z,h1,h2⟩:=adB (aq:=aq) (hr:=hr) hk hc hv;exact .calm aq (by simp[execOp,ho,e',tV,Instr.index,asIntOf,run_underlying ht,OS hs,au,h1]) h2
theorem ap8{t:TypeId}{x i:Operand}{x' i':aQ}{n:Nat}{s:ByteArray}{b:UInt8}(ho:o.op=.index t x i)(ht:P.underlying t=some .string)
  (hx:cF x=some x') (hi:cF i=some i') (hn:mZ (ev ak i')=some n) (hy:ev ak x'=.one (.p (.str s))) (hb:s[n]?=some b):ff P w0 a.eval o m (.one (.p (.int .u8 b.toNat))) []:=by
 have dO:=dQ hx hr;obtain⟨kk,tV⟩:=xn hn (dQ hi hr);rw[hy] at dO;exact .calm aq (by simp[execOp,ho,K5 dO,tV,Instr.index,asIntOf,run_underlying ht,hb]) (kO (.int _ _))
end
end Go.Abs
namespace Go.Abs
variable {P:Program} {w0:World}
theorem ahp{op:BinOp}{t:TypeId}{k k':IntKind}{x y:Int}{v:PV}(w:World)(hk:k=k'\/op=.shl\/op=.shr)(h:rL op k x y=some v):
  ∃u,(binOp op t (.int k x) (.int k' y)).run P w=.ok u w/\ ∀own,bX w own v u:=by
 by_cases hs:op=.shl\/op=.shr
 .rcases hs with rfl|rfl
  .simp only[rL] at h;split at h
   .cases h
   rename_i hy;cases h;exact⟨_,by simp[binOp,Op.shift,hy],fun own=>.int _ _⟩
  simp only[rL] at h;split at h
  .cases h
  rename_i hy;cases h;exact⟨_,by simp[binOp,Op.shift,hy],fun own=>.int _ _⟩
 have tV:k=k':=by
  rcases hk with h|h
  .exact h
  exact(hs h).elim
 subst tV;cases op<;>simp only[rL] at h<;>first
  |cases h
  |skip
 all_goals first
  |exact(hs (.inl rfl)).elim
  |exact(hs (.inr rfl)).elim
  |(exact⟨_,by simp[binOp,Op.intArith,Op.intCmp,Op.intBits],fun own=>.int _ _⟩)
  |(exact⟨_,by simp[binOp,Op.intArith,Op.intCmp],fun own=>.bool _⟩)
  |(split at h
    .cases h
    rename_i hy;cases h;exact⟨_,by simp[binOp,Op.intDiv,hy],fun own=>.int _ _⟩)
theorem ahr{op:BinOp}{t:TypeId}{x y:ByteArray}{v:PV}(w:World)(h:Jg op x y=some v):
  ∃u,(binOp op t (.string x) (.string y)).run P w=.ok u w/\ ∀own,bX w own v u:=by
 cases op<;>simp only[Jg] at h<;>first
  |cases h
  |skip
 all_goals first
  |exact⟨_,by simp[binOp,Op.stringOp],fun own=>.bool _⟩
  |(split at h
    .rename_i hl;cases h;refine⟨.string (x++y),?_,fun own=>.str _⟩;have:¬((x.size:Int)+(y.size:Int)>9223372036854775807):=aa;simp[binOp,Op.stringOp,this]
    cases h)
section
variable {m:Mem} {ak:Env} {a:Act} {o:Oper} (aq:Ok w0 m) (hr:im m ak a.tmps)
include aq hr
theorem apI{op:BinOp}{t ty:TypeId}{x y:Operand}{x' y':aQ}{v:V}(ho:o.op=.binOp op t x y ty)(hx:cF x=some x')(hy:cF y=some y')
  (hv:pE op (ev ak x') (ev ak y')=some v):ff P w0 a.eval o m v []:=by
 have h1:=dQ hx hr;have h2:=dQ hy hr;unfold pE at hv;split at hv
 .rename_i k p k' q e1 e2;rw[e1] at h1;rw[e2] at h2;split at hv
  .rename_i hk;simp only[dq] at hv;obtain⟨u,hu,rfl⟩:=hv;obtain⟨z,hz,Hr⟩:=ahp (P:=P) (t:=t) m.w hk hu;refine .calm aq ?_ (kO (Hr _));have hg:(eqGuard op t x y (.int k p) (.int k' q)).run P m.w=.ok () m.w:=by cases op<;>simp[eqGuard]
   simp[execOp,ho,Bj h1,Bj h2,hg,hz]
  cases hv
 .rename_i p q e1 e2;rw[e1] at h1;rw[e2] at h2;simp only[dq] at hv;obtain⟨u,hu,rfl⟩:=hv;obtain⟨z,hz,Hr⟩:=ahr (P:=P) (t:=t) m.w hu;refine .calm aq ?_ (kO (Hr _));have hg:(eqGuard op t x y (.string p) (.string q)).run P m.w=.ok () m.w:=by cases op<;>simp[eqGuard]
  simp[execOp,ho,K5 h1,K5 h2,hg,hz]
 cases hv
theorem ap6{t:TypeId}{x:Operand}{x':aQ}{b:Bool}(ho:o.op=.unOp .not t x)(hx:cF x=some x')(hb:ev ak x'=.one (.p (.bool b))):ff P w0 a.eval o m (.one (.p (.bool (!b)))) []:=by have h1:=dQ hx hr;rw[hb] at h1;exact .calm aq (by simp[execOp,ho,CW h1,Op.unary]) (kO (.bool _))
theorem ap4{t:TypeId}{x:Operand}{x':aQ}{k:IntKind}{n:Int}(ho:o.op=.unOp .neg t x)(hx:cF x=some x')(hb:ev ak x'=.one (.p (.int k n))):ff P w0 a.eval o m (.one (.p (.int k (k.wrap (0-n))))) []:=by have h1:=dQ hx hr;rw[hb] at h1;exact .calm aq (by simp[execOp,ho,Bj h1,Op.unary,Op.intArith]) (kO (.int _ _))
theorem apQ{s d:TypeId}{x:Operand}{x':aQ}{ks k k0:IntKind}{n:Int}(ho:o.op=.convert s d x)(hs:P.underlying s=some (.int ks))(hd:P.underlying d=some (.int k))(hx:cF x=some x')
  (hb:ev ak x'=.one (.p (.int k0 n))):ff P w0 a.eval o m (.one (.p (.int k (k.wrap n)))) []:=by
 have h1:=dQ hx hr;rw[hb] at h1;exact .calm aq (by simp[execOp,ho,Bj h1,convert,run_underlying hs,run_underlying hd,Conv.intToInt]) (kO (.int _ _))
theorem adr:∀ {xs:List Operand} {ys:List aQ} {cs:List C},nZ xs=some ys->uj ak ys=some cs->cZ m cs (xs.map a.eval):=by
 have _u0:=aq;intro xs
 induction xs with
 |nil=>intro ys cs h1 h2;simp[nZ] at h1;subst h1;simp[uj] at h2;subst h2;exact⟨rfl,fun j x u p=>by simp at p⟩
 |cons x r ih=>
  intro ys cs h1 h2;simp only[nZ] at h1;split at h1
  .rename_i y ys' e1 e2;cases h1;simp only[uj] at h2;split at h2
   .rename_i c q e3 e4;cases h2;obtain⟨hl,Bg⟩:=ih e2 e4;refine⟨by simpa using hl,fun j z u p q=>?_⟩;cases j with
    |zero=>simp at p q;subst p q;have:=dQ e1 hr;rw[e3] at this;exact this
    |succ j=>simp at p q;exact Bg j z u p (by simpa using q)
   cases h2
  cases h1
theorem ap0{f:FuncId}{x y:Array Operand}{x' y':List aQ}{cs ds:List C}(ho:o.op=.makeFunc (.func f) x y)(hx:nZ x.toList=some x')(hy:nZ y.toList=some y')
  (hc:uj ak x'=some cs) (hd:uj ak y'=some ds):ff P w0 a.eval o m (.one (.hfn f cs ds)) []:=by
 have h1:=adr (aq:=aq) (hr:=hr) hx hc;have h2:=adr (aq:=aq) (hr:=hr) hy hd;refine .calm (x:=.func (.func f) (x.map a.eval) (y.map a.eval)) aq (by simp[execOp,ho,Instr.makeFunc]) (bJ.one.2 (.hfn _ _ ?_ ?_ ?_ ?_))
 .have:=h1.1;simpa using this
 .have:=h2.1;simpa using this
 .intro j z u p q;exact h1.2 j z u p (by rw[<- Array.toList_map,Fx];exact q)
 intro j z u p q;exact h2.2 j z u p (by rw[<- Array.toList_map,Fx];exact q)
theorem apR{x:Operand}{i:Nat}{x':aQ}{vs:List V}{v:V}(ho:o.op=.extract x i)(hx:cF x=some x')(he:ev ak x'=.tup vs)(hv:vs[i]?=some v):ff P w0 a.eval o m v []:=by
 have h1:=dQ hx hr;rw[he] at h1;obtain⟨arr,e,hl,hc⟩:=h1;have au:i<arr.size:=by rw[hl];exact(aY.1 hv).1
 exact .calm (x:=arr[i]) aq (by simp[execOp,ho,e,Instr.extract,au]) (.of1 (hc i v _ hv (by simp[au])))
theorem acs{x:V}{v:Value}{n:Nat}(h:wJ x=some n)(hv:bJ m x v):∃ad cap,v=.slice ad n cap/\n<=cap/\cap<=maxLen:=by
 have _u0:=aq;have _u1:=hr;unfold wJ at h;split at h
 .cases h;exact⟨none,0,NQ hv,cA _,bn _⟩
 .cases h;obtain⟨hp⟩:cN m _ v:=hv;rename_i es;generalize fR:(PV.sl es)=pv at hp;cases hp<;>cases fR
  .exact⟨_,_,rfl,bn _,by assumption⟩
  exact⟨_,_,rfl,by assumption,by assumption⟩
 .cases h;have hc:cN m _ v:=hv;cases hc with
  |hsl ad cap hg hl hm h=>exact⟨_,_,rfl,hl,hm⟩
 cases h
theorem apV{c:Call}{x:Operand}{x':aQ}{t e:TypeId}{n:Nat}(ho:o.op=.call c)(hc:c.callee=.builtin .len)(has:c.args= #[x])(jz:c.argTypes[0]?=some t)(ht:P.underlying t=some (.slice e))
  (hx:cF x=some x') (hn:wJ (ev ak x')=some n):ff P w0 a.eval o m (.one (.p (.int .i64 n))) []:=by
 obtain⟨ad,cap,h1,_,_⟩:=acs (aq:=aq) (hr:=hr) hn (dQ hx hr);refine .calm aq ?_ (kO (.int _ _));simp[execOp,ho,resolve,hc,has,invoke,builtin,Builtin.len_,jz,h1,run_underlying ht,goInt]
theorem ap9{c:Call}{x:Operand}{x':aQ}{t:TypeId}{s:ByteArray}(ho:o.op=.call c)(hc:c.callee=.builtin .len)(has:c.args= #[x])(jz:c.argTypes[0]?=some t)(ht:P.underlying t=some .string)
  (hx:cF x=some x') (hn:ev ak x'=.one (.p (.str s))):ff P w0 a.eval o m (.one (.p (.int .i64 s.size))) []:=by
 have h1:=dQ hx hr;rw[hn] at h1;refine .calm aq ?_ (kO (.int _ _));simp[execOp,ho,resolve,hc,has,invoke,builtin,Builtin.len_,jz,K5 h1,run_underlying ht,goInt]
theorem apY{c:Call}{x y:Operand}{x' y':aQ}{k k':IntKind}{p q:Int}(ho:o.op=.call c)(hc:c.callee=.builtin .max)(has:c.args= #[x,y])
  (hx:cF x=some x') (hy:cF y=some y') (h1:ev ak x'=.one (.p (.int k p))) (h2:ev ak y'=.one (.p (.int k' q))):ff P w0 a.eval o m (.one (.p (.int k (if q>p then q else p)))) []:=by
 have g1:=dQ hx hr;have g2:=dQ hy hr;rw[h1] at g1;rw[h2] at g2;refine .calm aq ?_ (kO (.int _ _));simp[execOp,ho,resolve,hc,has,invoke,builtin,Builtin.max_,Builtin.max2,Bj g1,Bj g2]
theorem apZ{c:Call}{x y:Operand}{x' y':aQ}{k k':IntKind}{p q:Int}(ho:o.op=.call c)(hc:c.callee=.builtin .min)(has:c.args= #[x,y])
  (hx:cF x=some x') (hy:cF y=some y') (h1:ev ak x'=.one (.p (.int k p))) (h2:ev ak y'=.one (.p (.int k' q))):ff P w0 a.eval o m (.one (.p (.int k (if q<p then q else p)))) []:=by
 have g1:=dQ hx hr;have g2:=dQ hy hr;rw[h1] at g1;rw[h2] at g2;refine .calm aq ?_ (kO (.int _ _));simp[execOp,ho,resolve,hc,has,invoke,builtin,Builtin.min_,Builtin.min2,Bj g1,Bj g2]
end
end Go.Abs
namespace Go.Abs
variable {P:Program} {w0:World}
section
variable{sz:Nat}
theorem agK:∀(u:List dY) (aj:aA) (id:Nat),(app u aj id=aj id/\ ∀e∈u,e.1≠id)\/ ∃e∈u,e.1=id/\app u aj id=e.2:=by
 intro u
 induction u with
 |nil=>intro aj id;exact .inl ⟨rfl,fun e h=>by simp at h⟩
 |cons x r ih=>
  intro aj id;obtain⟨i,o⟩:=x;simp only[app];rcases ih (df aj i o) id with ⟨h1,h2⟩|⟨e,he,h1,h2⟩
  .by_cases hi:id=i
   .exact .inr ⟨(i,o),af,hi.symm,by rw[h1];simp[aS,hi]⟩
   refine .inl ⟨by rw[h1];simp[aS,hi],fun e he=>?_⟩;rcases dh.1 he with rfl|he
   .exact fun h=>hi h.symm
   exact h2 e he
  exact .inr ⟨e,by simp[he],h1,h2⟩
theorem Gb{α β γ:Type}{f:α->Option (β×List Nat)}{R:α->γ->Prop}{T:β->γ->Prop}{eJ:List Nat->Prop}(Kx:∀a b,eJ (a++b)->eJ a/\eJ b)
  (hf:∀a b r v,f a=some (b,r)->R a v->eJ r->T b v):∀ {xs:List α} {ys:List β} {r:List Nat} {vs:List γ},collect f xs=some (ys,r)->eJ r->
  (vs.length=xs.length/\ ∀(j:Nat) (x:α) (u:γ),xs[j]?=some x->vs[j]?=some u->R x u)->(vs.length=ys.length/\ ∀(j:Nat) (x:β) (u:γ),ys[j]?=some x->vs[j]?=some u->T x u):=by
 intro xs
 induction xs with
 |nil=>intro ys r vs h _ hr;simp[collect] at h;obtain⟨rfl,rfl⟩:=h;exact⟨hr.1,fun j x u a=>by simp at a⟩
 |cons x t ih=>
  intro ys r vs h hg hr;simp only[collect] at h;split at h
  .rename_i b p bs q e1 e2;cases h;obtain⟨g1,g2⟩:=Kx _ _ hg;cases vs with
   |nil=>simp at hr
   |cons v us=>
    obtain⟨hl,hh⟩:=ih (vs:=us) e2 g2 ⟨by simpa using hr.1,fun j x u a b=>hr.2 (j+1) x u (by simpa using a) (by simpa using b)⟩;refine⟨by simp[hl],fun j z u a b=>?_⟩;cases j with
    |zero=>simp at a b;subst a b;exact hf _ _ _ _ e1 (hr.2 0 x v rfl rfl) g1
    |succ j=>simp at a b;exact hh j z u a b
  cases h
def nY(m:Mem)(own:Nat->Prop)(r:List Nat):Prop:=(∀b,own b->m.own b)/\ ∀id∈r,¬own (m.σ id)
theorem nY.app{m:Mem}{own:Nat->Prop}{a b:List Nat}(h:nY m own (a++b)):nY m own a/\nY m own b:=
 ⟨⟨h.1,fun id hi=>h.2 id (by simp[hi])⟩,⟨h.1,fun id hi=>h.2 id (by simp[hi])⟩⟩
theorem bX.less{w:World}{own yr:Nat->Prop}(h:∀b,yr b->own b){x:PV}{v:Value}(hr:bX w own x v):bX w yr x v:=hr.mono fun c _ hn=>⟨rfl,fun ho=>hn (h c ho)⟩
theorem cV.less{w:World}{own yr:Nat->Prop}(h:∀b,yr b->own b){x:List PV}{v:List Value}(hr:cV w own x v):cV w yr x v:=⟨hr.1,fun j x u a b=>(hr.2 j x u a b).less h⟩
theorem acV{α:Type}{xs:List α}{R:α->Value->Prop}{vs:List Value}(h:Pw R xs vs):∃f:Nat->Value,∀(j:Nat) (x:α),xs[j]?=some x->vs[j]?=some (f j)/\R x (f j):=by
 refine⟨fun j=>vs.getD j undef,fun j x hx=>?_⟩;have au:j<vs.length:=by rw[h.1];exact(aY.1 hx).1
 have:vs[j]?=some (vs.getD j undef):=by simp[List.getD,nU au]
 exact⟨this,h.2 j x _ hx this⟩
theorem UE{w:World}{own:Nat->Prop}{b o:Nat}{cur:Array Value}{ty:TypeId}{fz:Nat×Nat}{ps:List PV}(hh:w.heap[b]?=some (.cells cur ty fz))(hp:Pw (bX w own) ps (cur.toList.drop o |>.take ps.length))
  (ho:ps≠[]-> ¬own b):bX w own (.box ps) (.pointer (some ⟨b,o,none⟩)):=by
 obtain⟨f,hf⟩:=acV hp;refine .box b o f ho (fun j x hx=>?_) fun j x hx=>(hf j x hx).2;have h1:=(hf j x hx).1;rw[jY] at h1;split at h1
 .rw[B4 hh];simpa using h1
 cases h1
theorem acW{w:World}{own:Nat->Prop}{b o cap sz:Nat}{cur:Array Value}{ty:TypeId}{fz:Nat×Nat}{es:List (List PV)}(hh:w.heap[b]?=some (.cells cur ty fz))(bU:∀e∈es,e.length=sz)
  (hl:es.length<=cap) (hm:cap<=maxLen) (hp:Pw (bX w own) es.flatten ((cur.toList.drop o).take (es.length*sz))) (ho:¬own b):bX w own (.sl es) (.slice (some ⟨b,o,none⟩) es.length cap):=by
 obtain⟨f,hf⟩:=acV hp;refine .sl b o cap sz f (fun _=>ho) hl hm bU (fun j x hx=>?_) fun j x hx=>(hf j x hx).2;have h1:=(hf j x hx).1;rw[jY] at h1;split at h1
 .rw[B4 hh];simpa using h1
 cases h1
theorem Nb{α:Type}:∀ {es:List (List α)},(∀e∈es,e.length=sz)->∀(n:Nat),(es.drop n).flatten=es.flatten.drop (n*sz):=by
 intro es
 induction es with
 |nil=>intro _ n;simp
 |cons e r ih=>
  intro h n;cases n with
  |zero=>simp
  |succ n=>simp only[List.drop_succ_cons,kX];have h1:=h e af;rw[ih (fun x hx=>h x (by simp[hx])),List.drop_append,afE (by rw[h1,fA];omega:e.length<=(n+1)*sz),gi];congr 1;rw[h1,fA];omega
theorem Gw{α:Type}:∀ {es:List (List α)},(∀e∈es,e.length=sz)->∀(n:Nat),(es.take n).flatten=es.flatten.take (n*sz):=by
 intro es
 induction es with
 |nil=>intro _ n;simp
 |cons e r ih=>
  intro h n;cases n with
  |zero=>simp
  |succ n=>simp only[Wu,kX];have h1:=h e af;rw[ih (fun x hx=>h x (by simp[hx])),Ws,eY (by rw[h1,fA];omega:e.length<=(n+1)*sz)];congr 1;congr 1;rw[h1,fA];omega
theorem Ds{α:Type}{R:α->Value->Prop}{off len:Nat}{es:List (List α)}{cur:List Value}(bU:∀e∈es,e.length=sz)(h:Pw R es.flatten (cur.take (es.length*sz)))(hfit:off+len<=es.length):
  Pw R ((es.drop off).take len).flatten ((cur.drop (off*sz)).take (((es.drop off).take len).length*sz)):=by
 have KV:∀e∈es.drop off,e.length=sz:=fun e he=>bU e (uB he);have hlen:((es.drop off).take len).length=len:=by simp;omega
 rw[hlen,Gw KV,Nb bU];have h1:=(h.drop (off*sz)).take (len*sz);have h2:((cur.take (es.length*sz)).drop (off*sz)).take (len*sz)=(cur.drop (off*sz)).take (len*sz):=by
  rw[List.drop_take,Mf];congr 1;have:off*sz+len*sz<=es.length*sz:=by rw[<- fA];exact kD _ hfit
  omega
 rw[h2] at h1;exact h1
theorem Vg{α:Type}{R:α->Value->Prop}:∀ {ps:List (List α)} {cur:List Value},(∀e∈ps,e.length=sz)->ps.length*sz<=cur.length->
  (∀(j:Nat) (e:List α),ps[j]?=some e->Pw R e ((cur.drop (j*sz)).take sz))->Pw R ps.flatten (cur.take (ps.length*sz)):=by
 intro ps
 induction ps with
 |nil=>intro cur _ _ _;exact⟨af,fun j x u a=>by simp at a⟩
 |cons e r ih=>
  intro cur h hl hp;simp only[dp,fA,IX] at hl;have h0:=hp 0 e rfl;rw[yF,L9] at h0;have h1:=ih (cur:=cur.drop sz) (fun x hx=>h x (by simp[hx])) (by simp;omega) fun j x hx=>by have:=hp (j+1) x (by simpa using hx);rw[fA,IX] at this;rw[List.drop_drop,PC sz];exact this
  have h2:=h0.append h1;have h3:cur.take sz++(cur.drop sz).take (r.length*sz)=cur.take ((e::r).length*sz):=by rw[dp,fA,IX,PC,List.take_add]
  rw[h3] at h2;exact h2
theorem S8{α:Type}{R:α->Value->Prop}{i:Nat}{es:List (List α)}{e:List α}{cur:List Value}(bU:∀e∈es,e.length=sz)(h:Pw R es.flatten (cur.take (es.length*sz)))(he:es[i]?=some e):
  Pw R e ((cur.drop (i*sz)).take sz):=by
 have hi:i<es.length:=(aY.1 he).1;have h1:=Ds (off:=i) (len:=1) bU h aa;have h0:((es.drop i).take 1)=[e]:=by rw[Pt hi];have:=(aY.1 he).2;simp[this]
 rw[h0] at h1
 simpa using h1
theorem Qs{α β:Type}{f:α->Option (β×List Nat)}:∀ {xs:List α} {ys:List β} {r:List Nat},collect f xs=some (ys,r)->ys.length=xs.length:=by
 intro xs
 induction xs with
 |nil=>intro ys r h;simp[collect] at h;rw[h.1];rfl
 |cons x t ih=>
  intro ys r h;simp only[collect] at h;split at h
  .rename_i b p bs q e1 e2;cases h;simp[ih e2]
  cases h
theorem Qr{α β:Type}{f:α->Option (β×List Nat)}:∀ {xs:List α} {ys:List β} {r:List Nat},collect f xs=some (ys,r)->∀ {j:Nat} {y:β},ys[j]?=some y->∃x q,xs[j]?=some x/\f x=some (y,q)/\ ∀i∈q,i∈r:=by
 intro xs
 induction xs with
 |nil=>intro ys r h j y hy;simp[collect] at h;rw[h.1] at hy;simp at hy
 |cons x t ih=>
  intro ys r h j y hy;simp only[collect] at h;split at h
  .rename_i b p bs q e1 e2;cases h;cases j with
   |zero=>simp at hy;subst hy;exact⟨x,p,rfl,e1,fun i hi=>by simp[hi]⟩
   |succ j=>simp at hy;obtain⟨x',q',h1,h2,h3⟩:=ih e2 hy;exact⟨x',q',by simpa using h1,h2,fun i hi=>by simp[h3 i hi]⟩
  cases h
theorem Ii{m:Mem}(aq:Ok w0 m){own:Nat->Prop}:∀(n:Nat) {c:C} {x:PV} {r:List Nat} {v:Value},snap m.aj n c=some (x,r)->cN m c v->nY m own r->bX m.w own x v:=by
 intro n
 induction n with
 |zero=>intro c x r v h;simp[snap] at h
 |succ n ih=>
  intro c x r v h hr hs;have Nq:∀ {cs:List C} {ps:List PV} {q:List Nat} {vs:List Value},collect (snap m.aj n) cs=some (ps,q)->nY m own q->Pw (cN m) cs vs->Pw (bX m.w own) ps vs:=fun h1 h2 h3=>Gb (R:=cN m) (T:=bX m.w own) (eJ:=nY m own) (fun a b h=>h.app) (fun a b r v e1 e2 e3=>ih e1 e2 e3) h1 h2 h3
  have Nw:∀ {ps:List PV} {vs:List Value},cV m.w m.own ps vs->Pw (bX m.w own) ps vs:=fun h=>cV.pw.1 (h.less hs.1);unfold snap at h;cases c with
  |p y=>simp at h;obtain⟨rfl,rfl⟩:=h;obtain⟨hp⟩:=hr;exact hp.norm.less hs.1
  |ba id g off=>
   cases hr with
   |ba a hg ha=>
    simp only at h;split at h
    .rename_i g' cs hb;split at h
     .rename_i gT;split at h
      .rename_i ps q hq;cases h;have aZ:(m.aj id).2=some (.var cs):=by rw[hb]
       have ha:=ha (by rw[hb];exact gT) (by rw[aZ];rfl);subst ha;obtain⟨cur,ty,hh,hc⟩:=aq.obj id _ aZ;have hp:=Nq hq ⟨hs.1,fun i hi=>hs.2 i (by simp[hi])⟩ (cZ.pw.1 hc);refine UE hh ?_ fun _=>hs.2 id af;have h1:=hp.drop off;have h2:(cur.toList.drop off).take (ps.drop off).length=cur.toList.drop off:=eY (by have:=h1.1;omega);rw[h2];exact h1
      cases h
     cases h
    .rename_i g' ps hb;split at h
     .rename_i gT;cases h;have aZ:(m.aj id).2=some (.fvar ps):=by rw[hb]
      have ha:=ha (by rw[hb];exact gT) (by rw[aZ];rfl);subst ha;obtain⟨cur,ty,fz,hh,hc,_⟩:=aq.obj id _ aZ;refine UE hh ?_ fun _=>hs.2 id af;have h1:=(Nw hc).drop off;have h2:(cur.toList.drop off).take (ps.drop off).length=cur.toList.drop off:=eY (by have:=h1.1;omega);rw[h2];exact h1
     cases h
    cases h
  |di id g i off=>
   cases hr with
   |di a hg ha=>
    have key:∀(ty sz:Nat) (es:List (List PV)) (e:List PV) (cur:Array Value) (fz:Nat×Nat),m.w.heap[m.σ id]?=some (.cells cur ty fz)->(∀e∈es,e.length=sz)->es.length*sz<=cur.size->
      cV m.w m.own es.flatten (cur.toList.take (es.length*sz))->es[i]?=some e->a=⟨m.σ id,i*sz+off,none⟩-> ¬own (m.σ id)->bX m.w own (.box (e.drop off)) (.pointer (some a)):=by
     intro ty sz es e cur fz hh bU hlen dj he uX dm;subst uX;have di:=JR bU he;have hi:i<es.length:=(aY.1 he).1;have ny:(i+1)*sz<=es.length*sz:=kD _ hi;have h1:=(Ds (off:=i) (len:=1) bU (Nw dj) aa).drop off;have h0:((es.drop i).take 1)=[e]:=by rw[Pt hi];have:=(aY.1 he).2;simp[this]
     rw[h0] at h1;simp only[kX,Wi,qh,dp,eP,jt,IX] at h1;refine UE hh ?_ fun _=>dm;have h2:(cur.toList.drop (i*sz+off)).take (e.drop off).length=(((cur.toList.drop (i*sz)).take sz).drop off):=by rw[List.drop_take,List.drop_drop,tx,di]
     rw[h2];exact h1
    simp only at h;split at h
    .rename_i g' ty sz es hb;split at h
     .rename_i gT;simp only[dq,jG] at h;obtain⟨e,he,rfl,rfl⟩:=h;have aZ:(m.aj id).2=some (.arr ty sz es):=by rw[hb]
      obtain⟨cur,hh,nH,bU,hl,hm,cX,dj⟩:=aq.obj id _ aZ;exact key ty sz es e cur _ hh bU (by rw[cX];exact kD _ hl) dj he (ha sz (by rw[hb];exact gT) (by rw[hb];rfl)) (hs.2 id af)
     cases h
    .rename_i g' ty sz es hb;split at h
     .rename_i gT;simp only[dq,jG] at h;obtain⟨e,he,rfl,rfl⟩:=h;have aZ:(m.aj id).2=some (.l7 ty sz es):=by rw[hb]
      obtain⟨cur,fz,hh,nH,bU,hl,hm,cX,dj,_⟩:=aq.obj id _ aZ;exact key ty sz es e cur _ hh bU (by rw[cX];exact kD _ hl) dj he (ha sz (by rw[hb];exact gT) (by rw[hb];rfl)) (hs.2 id af)
     cases h
    cases h
  |hsl id g z off len=>
   cases hr with
   |hsl a cap hg hl hm ha=>
    have key:∀(ty sz:Nat) (es:List (List PV)) (cur:Array Value) (fz:Nat×Nat),m.w.heap[m.σ id]?=some (.cells cur ty fz)->(∀e∈es,e.length=sz)->Pw (bX m.w own) es.flatten (cur.toList.take (es.length*sz))->
      off+len<=es.length->(off=0\/0<len->a=⟨m.σ id,off*sz,none⟩)-> ¬own (m.σ id)->bX m.w own (.sl ((es.drop off).take len)) (.slice (some a) len cap):=by
     intro ty sz es cur fz hh bU dj hfit uX dm;by_cases hlen:len=0
     .subst hlen;simp only[Wv];exact .wR _ _ (fun h=>by cases h) hm
     have:=uX (.inr aa);subst this;have hle:((es.drop off).take len).length=len:=by simp;omega
     have h1:=acW (cap:=cap) (own:=own) (o:=off*sz) (es:=(es.drop off).take len) hh (sz:=sz) (fun e he=>bU e (uB (vC he))) aa hm (Ds bU dj hfit) dm;rw[hle] at h1;exact h1
    simp only at h;split at h
    .rename_i g' ty sz es hb;split at h
     .rename_i hc;cases h;have aZ:(m.aj id).2=some (.arr ty sz es):=by rw[hb]
      obtain⟨cur,hh,nH,bU,tW,j8,cX,dj⟩:=aq.obj id _ aZ;exact key ty sz es cur _ hh bU (Nw dj) hc.2 (by obtain⟨_,h2,_⟩:=ha sz (by rw[hb];exact hc.1) (by rw[hb];rfl);rename_i e1 _;exact e1▸h2) (hs.2 id af)
     cases h
    .rename_i g' ty sz es hb;split at h
     .rename_i hc;cases h;have aZ:(m.aj id).2=some (.l7 ty sz es):=by rw[hb]
      obtain⟨cur,fz,hh,nH,bU,tW,j8,cX,dj,_⟩:=aq.obj id _ aZ;exact key ty sz es cur _ hh bU (Nw dj) hc.2 (by obtain⟨_,h2,_⟩:=ha sz (by rw[hb];exact hc.1) (by rw[hb];rfl);exact h2) (hs.2 id af)
     cases h
    .rename_i g' ty sz es hb;split at h
     .rename_i hc;split at h
      .rename_i ps q hq;cases h;have aZ:(m.aj id).2=some (.gQ ty sz es):=by rw[hb]
       obtain⟨cur,hh,nH,bU,tW,j8,cX,dj⟩:=aq.obj id _ aZ;have T4:=Ds bU (cZ.pw.1 dj) hc.2;have KV:∀e∈(es.drop off).take len,e.length=sz:=fun e he=>bU e (uB (vC he));have hle:((es.drop off).take len).length=len:=by simp;omega
       have bG:ps.length=len:=by rw[Qs hq,hle]
       have j4:len*sz<=(cur.toList.drop (off*sz)).length:=by
        simp;have h1:off*sz+len*sz<=es.length*sz:=by rw[<- fA];exact kD _ hc.2
        have h2:es.length*sz<=m.κ id*sz:=kD _ tW;omega
       have mL:∀(j:Nat) (e:List PV),ps[j]?=some e->Pw (bX m.w own) e (((cur.toList.drop (off*sz)).drop (j*sz)).take sz):=by intro j e he;obtain⟨x,q',h1,h2,h3⟩:=Qr hq he;exact Nq h2 ⟨hs.1,fun i hi=>hs.2 i (by simp[h3 i hi])⟩ (S8 KV T4 h1)
       have CL:∀e∈ps,e.length=sz:=by
        intro e he;obtain⟨j,hj⟩:=gH he;have:=(mL j e hj).1;have mI:j<len:=by rw[<- bG];exact(aY.1 hj).1
        have h1:(j+1)*sz<=len*sz:=kD _ mI;rw[fA] at h1;simp at this j4;omega
       by_cases hlen:len=0
       .have:ps=[]:=ar5 aa;subst this;subst hlen;exact .wR _ _ (fun h=>by cases h) hm
       obtain⟨_,h2,_⟩:=ha sz (by rw[hb];exact hc.1) (by rw[hb];rfl);rename_i e1 _;have uX:=h2 (.inr aa);subst uX;have xS:=acW (cap:=cap) (own:=own) (o:=off*sz) hh CL aa hm (Vg CL (by rw[bG];exact j4) mL) (hs.2 id af);rw[bG] at xS;exact xS
      cases h
     cases h
    cases h
  |jP id g=>
   cases hr with
   |jP r' hg ha=>
    have key:∀(ag:Bool) (es:List (PV×List PV)) (ents:Array MapEntry) (clock:Nat),m.w.heap[m.σ id]?=some (.map ents clock)->ents.size=es.length->
      (∀(i:Nat) (q:PV) (v:List PV) (e:MapEntry),es[i]?=some (q,v)->ents[i]?=some e->bX m.w m.own q e.key/\ ∃g:Array Value,(ag=true->e.val=.agg g)/\(ag=false-> #[e.val]=g)/\cV m.w m.own v g.toList)->
      ¬own (m.σ id)->bX m.w own (.mp ag es) (.map (some (m.σ id))):=by
     intro ag es ents clock hh hl hc dm;have hch:∃G:Nat->Array Value,∀(i:Nat) (q:PV) (v:List PV) (e:MapEntry),es[i]?=some (q,v)->ents[i]?=some e->(ag=true->e.val=.agg (G i))/\(ag=false-> #[e.val]=G i)/\cV m.w m.own v (G i).toList:=by
      refine⟨fun i=>match ents[i]? with|some e=>(match e.val with| .agg g=>if ag then g else #[e.val]|v=> #[v])|none=> #[],fun i q v e h1 h2=>?_⟩;obtain⟨_,g,g1,g2,g3⟩:=hc i q v e h1 h2;simp only[h2];cases ag with
      |true=>have:=g1 rfl;simp[this];exact g3
      |false=>
       have:=g2 rfl;subst this;refine⟨(fun h=>by cases h),(fun _=>?_),?_⟩
       .cases e.val<;>rfl
       cases hv:e.val<;>simp only[hv] at g3<;>exact g3
     obtain⟨G,hG⟩:=hch;refine .mp (m.σ id) ents clock G dm hh hl (fun i q v e h1 h2=>((hc i q v e h1 h2).1).less hs.1) (fun i q v e h1 h2=>?_) fun i q v j x u h1 h2 h3=>?_
     .obtain⟨a1,a2,a3⟩:=hG i q v e h1 h2;exact⟨by have:=a3.1;simpa using this,a1,a2⟩
     have au:i<ents.size:=by rw[hl];exact(aY.1 h1).1
     obtain⟨a1,a2,a3⟩:=hG i q v _ h1 (Array.getElem?_eq_getElem au);exact(a3.2 j x u h2 (by rw[Fx];exact h3)).less hs.1
    simp only at h;split at h
    .rename_i g' ag es hb;split at h
     .rename_i gT;cases h;have aZ:(m.aj id).2=some (.map ag es):=by rw[hb]
      have ha:=ha (by rw[hb];exact gT) (by rw[aZ];rfl);subst ha;obtain⟨ents,clock,hh,hl,hc⟩:=aq.obj id _ aZ;exact key ag es ents clock hh hl hc (hs.2 id af)
     cases h
    .rename_i g' ag es hb;split at h
     .rename_i gT;cases h;have aZ:(m.aj id).2=some (.fmap ag es):=by rw[hb]
      have ha:=ha (by rw[hb];exact gT) (by rw[aZ];rfl);subst ha;obtain⟨ents,clock,hh,hl,hc,_⟩:=aq.obj id _ aZ;exact key ag es ents clock hh hl hc (hs.2 id af)
     cases h
    cases h
  |hfn f a b=>
   cases hr with
   |hfn A B hA hB uc pQ=>
    simp only at h;split at h
    .rename_i xa ra xb rb h1 h2;cases h;obtain⟨s1,s2⟩:=hs.app;have p1:=Nq (vs:=A.toList) h1 s1 ⟨by simpa using hA,fun j x u p q=>uc j x u p (by rw[<- Fx];exact q)⟩;have p2:=Nq (vs:=B.toList) h2 s2 ⟨by simpa using hB,fun j x u p q=>pQ j x u p (by rw[<- Fx];exact q)⟩;exact .fn A B (by have:=p1.1;simpa using this) (by have:=p2.1;simpa using this) (fun j x u p q=>p1.2 j x u p (by rw[Fx];exact q)) fun j x u p q=>p2.2 j x u p (by rw[Fx];exact q)
    cases h
end
end Go.Abs
namespace Go.Abs
variable {P:Program} {w0:World}
theorem ajT{aj:aA}{all:List Nat}:∀ {l:List Nat} {u:List dY},rU aj all l=some u->
  (∀e∈u,e.1∈l/\ ∃x,uR aj all e.1=some x/\e∈x)/\ ∀id∈l,∃x,uR aj all id=some x/\ ∀e∈x,e∈u:=by
 intro l
 induction l with
 |nil=>intro u h;simp[rU] at h;subst h;exact⟨fun e h=>by simp at h,fun id h=>by simp at h⟩
 |cons i r ih=>
  intro u h;simp only[rU] at h;split at h
  .rename_i a b h1 h2;cases h;obtain⟨g1,g2⟩:=ih h2;have aaP:∀e∈a,e.1=i:=by
    intro e he;unfold uR at h1;split at h1<;>first
     |(cases h1;simp at he;subst he;rfl)
     |(split at h1
       .split at h1
        .cases h1;simp at he;subst he;rfl
        cases h1
       cases h1)
     |(cases h1;simp at he)
     |cases h1
   refine⟨fun e he=>?_,fun id hid=>?_⟩
   .rcases fi.1 he with he|he
    .exact⟨by simp[aaP e he],a,by rw[aaP e he];exact h1,he⟩
    obtain⟨k1,k2⟩:=g1 e he;exact⟨by simp[k1],k2⟩
   rcases dh.1 hid with rfl|hid
   .exact⟨a,h1,fun e he=>by simp[he]⟩
   obtain⟨x,k1,k2⟩:=g2 id hid;exact⟨x,k1,fun e he=>by simp[k2 e he]⟩
  cases h
def FJ(aj:aA)(all:List Nat):Ob->Ob->Prop
 | .var cs,.fvar ps=>∃r,collect (snap aj fM) cs=some (ps,r)/\ ∀i∈r,i∈all
 | .arr ty sz es,.l7 je bN jZ=>je=ty/\bN=sz/\jZ=es
 | .gQ ty sz es,.l7 je bN ps=>je=ty/\bN=sz/\ ∃r,collect (collect (snap aj fM)) es=some (ps,r)/\ ∀i∈r,i∈all
 | .map ag es,.fmap qm jZ=>qm=ag/\jZ=es
 |_,_=>False
theorem FJ.facts{aj:aA}{all:List Nat}{o o':Ob}(h:FJ aj all o o')(g:Nat):o.fc=true/\o'.fc=false/\jR (g,some o')=jR (g,some o):=by
 cases o<;>cases o'<;>simp only[FJ] at h<;>first
  |exact h.elim
  |exact⟨rfl,rfl,rfl⟩
  |exact⟨rfl,rfl,by simp[jR,h.2.1]⟩
theorem Z3{aj:aA}{all:List Nat}{id:Nat}{x:List dY}(h:uR aj all id=some x):
  (∃o,(aj id).2=some o/\o.fc=false/\x=[])\/ ∃o o',(aj id).2=some o/\FJ aj all o o'/\x=[(id,((aj id).1,some o'))]:=by
 unfold uR at h;split at h
 .rename_i g cs hb;split at h
  .rename_i ps r hc;split at h
   .rename_i dx;cases h;refine .inr ⟨.var cs,.fvar ps,by rw[hb],⟨r,hc,fun i hi=>?_⟩,by rw[hb]⟩;have:=ij.1 dx i hi
    simpa using this
   cases h
  cases h
 .rename_i g ty sz es hb;cases h;exact .inr ⟨.arr ty sz es,.l7 ty sz es,by rw[hb],⟨rfl,rfl,rfl⟩,by rw[hb]⟩
 .rename_i g ty sz es hb;split at h
  .rename_i ps r hc;split at h
   .rename_i dx;cases h;refine .inr ⟨.gQ ty sz es,.l7 ty sz ps,by rw[hb],⟨rfl,rfl,r,hc,fun i hi=>?_⟩,by rw[hb]⟩;have:=ij.1 dx i hi
    simpa using this
   cases h
  cases h
 .rename_i g ag es hb;cases h;exact .inr ⟨.map ag es,.fmap ag es,by rw[hb],⟨rfl,rfl⟩,by rw[hb]⟩
 .cases h
 rename_i y n1 n2 n3 n4 n5;cases h;cases hb:aj id with
 |mk g o=>
  cases o with
  |none=>exact(n5 g hb).elim
  |some o=>
   refine .inl ⟨o,rfl,?_,rfl⟩;cases o with
   |var cs=>exact(n1 g cs hb).elim
   |arr ty sz es=>exact(n2 g ty sz es hb).elim
   |gQ ty sz es=>exact(n3 g ty sz es hb).elim
   |map ag es=>exact(n4 g ag es hb).elim
   |_=>rfl
def Mem.with(m:Mem)(u:List dY):Mem:={m with aj:=app u m.aj}
theorem uS{m:Mem}{ids:List Nat}{u:List dY}(h:qx m.aj ids=some u)(id:Nat):
  ((m.with u).aj id=m.aj id/\(id∈ids->∃o,(m.aj id).2=some o/\o.fc=false))\/
  (id∈ids/\ ∃o o',(m.aj id).2=some o/\FJ m.aj ids o o'/\(m.with u).aj id=((m.aj id).1,some o')):=by
 obtain⟨h1,h2⟩:=ajT h;rcases agK u m.aj id with ⟨e1,e2⟩|⟨e,he,e1,e2⟩
 .refine .inl ⟨e1,fun hid=>?_⟩;obtain⟨x,hx,hxu⟩:=h2 id hid;rcases Z3 hx with ⟨o,a,b,_⟩|⟨o,o',a,b,c⟩
  .exact⟨o,a,b⟩
  exact(e2 (id,(m.aj id).fst,some o') (hxu _ (by rw[c];simp)) rfl).elim
 obtain⟨k1,x,k2,k3⟩:=h1 e he;rw[e1] at k1 k2;rcases Z3 k2 with ⟨o,a,b,c⟩|⟨o,o',a,b,c⟩
 .rw[c] at k3;simp at k3
 rw[c] at k3;simp at k3;refine .inr ⟨k1,o,o',a,b,?_⟩;simp only[Mem.with];rw[e2,k3]
theorem Tg{m:Mem}{ids:List Nat}{u:List dY}(h:qx m.aj ids=some u){c:Nat}(hc:(m.with u).own c):m.own c:=by
 rcases hc with hc|⟨id,o,h1,h2,h3⟩
 .exact .inl hc
 rcases uS h id with ⟨e,_⟩|⟨_,p,q,a,b,e⟩
 .rw[e] at h1;exact .inr ⟨id,o,h1,h2,h3⟩
 rw[e] at h1;cases h1;rw[(b.facts 0).2.1] at h2;cases h2
theorem Th{m:Mem}(aq:Ok w0 m){ids:List Nat}{u:List dY}(h:qx m.aj ids=some u):nY m (m.with u).own ids:=by
 refine⟨fun b hb=>Tg h hb,fun id hid hc=>?_⟩;rcases uS h id with ⟨e,hn⟩|⟨_,o,o',a,b,e⟩
 .obtain⟨o,ho,hm⟩:=hn hid;exact(aq.obj id o ho).calm hm (Tg h hc)
 rcases hc with hc|⟨ez,q,h1,h2,h3⟩
 .exact(aq.eI id o a (b.facts 0).1).2 hc
 by_cases hi:ez=id
 .subst hi;rw[e] at h1;cases h1;rw[(b.facts 0).2.1] at h2;cases h2
 rcases uS h ez with ⟨e',_⟩|⟨_,p',q',a',b',e'⟩
 .rw[e'] at h1;exact hi (aq.inj ez id q o h1 h2 a (b.facts 0).1 h3)
 rw[e'] at h1;cases h1;rw[(b'.facts 0).2.1] at h2;cases h2
theorem Tf{m:Mem}{ids:List Nat}{u:List dY}(h:qx m.aj ids=some u):Ev m (m.with u) where
 os:=rfl
 tape:=rfl
 output:=rfl
 size:=cA _
 keep _ _ _:=rfl
 fc c _ hc:=by
  obtain⟨id,o,h1,h2,h3⟩:=hc;rcases uS h id with ⟨e,_⟩|⟨_,p,q,a,b,e⟩
  .rw[e] at h1;exact⟨id,o,h1,h2,h3⟩
  rw[e] at h1;cases h1;rw[(b.facts 0).2.1] at h2;cases h2
 less c _ hn hc:=hn (Tg h hc)
 gen id:=by rcases uS h id with ⟨e,_⟩|⟨_,p,q,a,b,e⟩<;>rw[e]<;>exact cA _
 ref id he hs:=by
  rcases uS h id with ⟨e,_⟩|⟨_,p,q,a,b,e⟩
  .rw[e] at hs ⊢;exact⟨hs,rfl,rfl,rfl⟩
  rw[e] at hs ⊢;refine⟨by rw[a];rfl,rfl,rfl,?_⟩;have h1:m.aj id=((m.aj id).1,some p):=by rw[<- a]
  rw[(b.facts (m.aj id).1).2.2,<- h1]
theorem Z6{m:Mem}(aq:Ok w0 m){ids:List Nat}{u:List dY}(h:qx m.aj ids=some u):Ok w0 (m.with u) where
 os:=aq.os
 tape:=aq.tape
 output:=aq.output
 size:=aq.size
 base:=aq.base
 obj id o ho:=by
  have dA:=Tf h;have mM:=Th aq h;rcases uS h id with ⟨e,_⟩|⟨hid,p,q,a,b,e⟩
  .rw[e] at ho;exact(aq.obj id o ho).ev dA.zero rfl rfl rfl
  rw[e] at ho;cases ho;have dm:=mM.2 id hid;have NG:∀r:List Nat,(∀i∈r,i∈ids)->nY m (m.with u).own r:=fun r hr=>⟨mM.1,fun i hi=>mM.2 i (hr i hi)⟩;have ND:=aq.obj id p a;cases p<;>cases o<;>simp only[FJ] at b<;>first
   |exact b.elim
   |skip
  .obtain⟨r,hc,hr⟩:=b;obtain⟨cur,ty,hh,cX⟩:=ND;exact⟨cur,ty,(0,0),hh,cV.pw.2 (Gb (R:=cN m) (T:=bX m.w (m.with u).own) (eJ:=nY m (m.with u).own) (fun a b h=>h.app) (fun a b r v e1 e2 e3=>Ii aq _ e1 e2 e3) hc (NG r hr) (cZ.pw.1 cX)),dm⟩
  .obtain⟨rfl,rfl,rfl⟩:=b;obtain⟨cur,hh,nH,bU,hl,hm,cX,dj⟩:=ND;exact⟨cur,(0,0),hh,nH,bU,hl,hm,cX,dj.less mM.1,dm⟩
  .obtain⟨rfl,rfl,r,hc,hr⟩:=b;obtain⟨cur,hh,nH,bU,hl,hm,cX,dj⟩:=ND;rename_i es _ sz ps;have bG:ps.length=es.length:=Qs hc;have j4:ps.length*sz<=cur.toList.length:=by
    have h2:es.length*sz<=m.κ id*sz:=kD _ hl;simp;rw[bG];omega
   have mL:∀(j:Nat) (e:List PV),ps[j]?=some e->Pw (bX m.w (m.with u).own) e ((cur.toList.drop (j*sz)).take sz):=by intro j e he;obtain⟨x,q',h1,h2,h3⟩:=Qr hc he;exact Gb (R:=cN m) (T:=bX m.w (m.with u).own) (eJ:=nY m (m.with u).own) (fun a b h=>h.app) (fun a b r v e1 e2 e3=>Ii aq _ e1 e2 e3) h2 (NG q' fun i hi=>hr i (h3 i hi)) (S8 bU (cZ.pw.1 dj) h1)
   have CL:∀e∈ps,e.length=sz:=by intro e he;obtain⟨j,hj⟩:=gH he;have:=(mL j e hj).1;have mI:j<ps.length:=(aY.1 hj).1;have h1:(j+1)*sz<=ps.length*sz:=kD _ mI;rw[fA] at h1;simp at this j4;omega
   exact⟨cur,(0,0),hh,nH,CL,by rw[bG];exact hl,hm,cX,cV.pw.2 (Vg CL j4 mL),dm⟩
  obtain⟨rfl,rfl⟩:=b;obtain⟨ents,clock,hh,hl,hc⟩:=ND;exact⟨ents,clock,hh,hl,fun i q v e h1 h2=>let ⟨p,g,g1,g2,g3⟩:=hc i q v e h1 h2;⟨p.less mM.1,g,g1,g2,g3.less mM.1⟩,dm⟩
 eI id o ho hm:=by
  rcases uS h id with ⟨e,_⟩|⟨_,p,q,a,b,e⟩
  .rw[e] at ho;exact aq.eI id o ho hm
  rw[e] at ho;cases ho;rw[(b.facts 0).2.1] at hm;cases hm
 frlt:=aq.frlt
 inj id ez o o' h1 m1 h2 m2 he:=by
  rcases uS h id with ⟨e,_⟩|⟨_,p,q,a,b,e⟩
  .rcases uS h ez with ⟨e',_⟩|⟨_,p',q',a',b',e'⟩
   .rw[e] at h1;rw[e'] at h2;exact aq.inj id ez o o' h1 m1 h2 m2 he
   rw[e'] at h2;cases h2;rw[(b'.facts 0).2.1] at m2;cases m2
  rw[e] at h1;cases h1;rw[(b.facts 0).2.1] at m1;cases m1
end Go.Abs
namespace Go.Abs
variable {P:Program} {w0:World}
section
variable{w':World}
def Mem.jy(m:Mem)(w':World)(s c k:Nat)(o:Ob):Mem:=(m.later w' (· =c)).install s c k o
section
variable {m:Mem} {w':World} {s c k:Nat} {o:Ob} (hg:eZ m.w w') (gK:m.w.heap.size<=c) (jO:c<w'.heap.size)
theorem Gy(aq:Ok w0 m)(gK:m.w.heap.size<=c):(m.jy w' s c k o).fr=m.fr:=by
 funext x;simp only[Mem.jy,Mem.install,Mem.later];apply propext;constructor
 .rintro ⟨h|h,h2⟩
  .exact h
  exact(h2 h).elim
 intro h;exact⟨.inl h,fun e=>by have:=aq.frlt x h;omega⟩
include hg gK
theorem Gx:Ev m (m.jy w' s c k o):=NN (HD hg fun x hx=>by subst hx;exact gK) (.inr rfl) (.inl gK)
include jO
theorem Gz(aq:Ok w0 m)(ho:rJ (m.jy w' s c k o) s o):Ok w0 (m.jy w' s c k o):=NO (K9 aq hg fun x hx=>by subst hx;exact⟨gK,jO⟩) (.inr rfl) (lf aq.size gK) ho
end
theorem Cg{m:Mem}{s c k:Nat}{o:Ob}:(m.jy w' s c k o).σ s=c:=by simp[Mem.jy,Mem.install,aS]
theorem og{m:Mem}{s c k:Nat}{o:Ob}:(m.jy w' s c k o).κ s=k:=by simp[Mem.jy,Mem.install,aS]
theorem Tb{m:Mem}{s c k:Nat}{o:Ob}:(m.jy w' s c k o).aj=app [(s,((m.aj s).1+1,some o))] m.aj:=rfl
theorem Tc{m:Mem}{s c k:Nat}{o:Ob}:(m.jy w' s c k o).w=w':=rfl
theorem JM{m:Mem}{s c cap ty sz:Nat}{es:List (List PV)}{n:Nat}(hn:n<=cap)(hm:cap<=maxLen):
  bJ (m.jy w' s c cap (.arr ty sz es)) (.one (.hsl s ((m.aj s).1+1) sz 0 n)) (.slice (some ⟨c,0,none⟩) n cap):=by
 refine bJ.one.2 (.hsl _ _ ?_ hn hm fun z h1 h2=>?_)
 .simp[Mem.jy,Mem.install,Mem.later,aS]
 have:jR ((m.jy w' s c cap (.arr ty sz es)).aj s)=some sz:=by simp[Mem.jy,Mem.install,aS,jR]
 rw[this] at h2;cases h2;refine⟨rfl,fun _=>?_,by rw[jt];exact og.symm⟩;rw[Cg,yF]
theorem ajN{m:Mem}{s c cap ty sz:Nat}{es:List (List C)}{n:Nat}(hn:n<=cap)(hm:cap<=maxLen):
  bJ (m.jy w' s c cap (.gQ ty sz es)) (.one (.hsl s ((m.aj s).1+1) sz 0 n)) (.slice (some ⟨c,0,none⟩) n cap):=by
 refine bJ.one.2 (.hsl _ _ ?_ hn hm fun z h1 h2=>?_)
 .simp[Mem.jy,Mem.install,Mem.later,aS]
 have:jR ((m.jy w' s c cap (.gQ ty sz es)).aj s)=some sz:=by simp[Mem.jy,Mem.install,aS,jR]
 rw[this] at h2;cases h2;refine⟨rfl,fun _=>?_,by rw[jt];exact og.symm⟩;rw[Cg,yF]
theorem MJ{t e:TypeId}{sz bytes:Nat}{z:List PV}(h:yN P t=some (e,sz,bytes,z)):
  ∃i v,P.underlying t=some (.slice e)/\P.info? e=some i/\i.size=sz/\i.bytes=bytes/\(0<sz/\0<bytes)/\i.zero=some v/\v.cells.size=sz/\z.length=sz/\ ∀w own,cV w own z v.cells.toList:=by
 unfold yN at h;split at h
 .rename_i e' ht;split at h
  .rename_i i z' hi hz;split at h
   .rename_i iI;cases h;obtain⟨v,i',h1,h2,h3,h4,h5⟩:=L2 hz;rw[hi] at h1;cases h1;exact⟨i,v,ht,hi,rfl,rfl,iI,h2,h3,h4,h5⟩
   cases h
  cases h
 cases h
theorem amQ{R:PV->Value->Prop}{z:List PV}{v:Array Value}{sz n:Nat}(hz:Pw R z v.toList)(bU:v.size=sz)(iI:0<sz):
  Pw R (List.replicate n z).flatten ((madeCells v (n*sz)).toList.take (n*sz)):=by
 have kN:z.length=sz:=by have:=hz.1;simp at this;omega
 have dx:∀e∈List.replicate n z,e.length=sz:=fun e he=>by rw[Pu he];exact kN
 have hlen:(madeCells v (n*sz)).toList.length=n*sz:=by simp[size_madeCells]
 rw[eY aa];refine⟨by rw[hlen,Eb dx];simp,fun j x u p q=>?_⟩;have hj:j<n*sz:=by have:=(aY.1 q).1;omega
 have hdiv:j/sz<n:=by rw[Nat.div_lt_iff_lt_mul iI];exact hj
 have Nz:j%sz<sz:=dK _ iI;have he:(List.replicate n z)[j/sz]?=some z:=by simp[hdiv]
 have h1:=Ea dx he Nz;rw[show j/sz*sz+j%sz=j by rw[PD];exact afU j sz] at h1;rw[h1] at p;have h2:(madeCells v (n*sz)).toList[j]?=some v[j%sz]! :=by unfold madeCells;simp[hj,bU]
 rw[h2] at q;cases q;refine hz.2 (j%sz) x _ p ?_;have:j%sz<v.size:=aa;simp[this]
section
variable {m:Mem} {ak:Env} {a:Act} {o:Oper} (aq:Ok w0 m) (hr:im m ak a.tmps)
include aq hr
theorem ap2{t e:TypeId}{l c:Operand}{l' c':aQ}{s sz bytes n:Nat}{z:List PV}(ho:o.op=.makeSlice t l c)(he:yN P t=some (e,sz,bytes,z))(hl:cF l=some l')(hc:cF c=some c')
  (hn:mZ (ev ak l')=some n) (hm:mZ (ev ak c')=some n) (jC:n*bytes<=room):
  ff P w0 a.eval o m (.one (.hsl s ((m.aj s).1+1) sz 0 n)) [(s,((m.aj s).1+1,some (.arr e sz (List.replicate n z))))]:=by
 obtain⟨i,v,ht,hi,hs,hb,⟨iI,Ej⟩,hz,pR,kN,dj⟩:=MJ he;obtain⟨k1,h1⟩:=xn hn (dQ hl hr);obtain⟨k2,h2⟩:=xn hm (dQ hc hr);unfold room at jC;have TO:n<=maxLen:=by have:n<=n*bytes:=Mg _ Ej;simp only[maxLen];omega
 have akT:(n:Int)<=9223372036854775807:=by simp[maxLen] at TO;omega
 have sU:(i.bytes:Int)*(n:Int)<=281474976710656:=by
  have:((i.bytes*n:Nat):Int)<=281474976710656:=by rw[hb,PD];omega
  rwa[Int.natCast_mul] at this
 have iW:=run_make (P:=P) m.w t e i v ht hi hz k1 k2 n n aa (Int.le_refl _) sU akT;simp only[wX,hs] at iW
 let m':=m.jy (m.w.alloc (.cells (madeCells v.cells (n*sz)) e)) s m.w.heap.size n (.arr e sz (List.replicate n z))
 have dA:Ev m m':=Gx (eZ.alloc _ _) (cA _);have Bf:rJ m' s (.arr e sz (List.replicate n z)):=by
  refine⟨_,by rw[Cg];exact heap_alloc_new m.w _,iI,fun x hx=>?_,?_,?_,?_,?_⟩
  .rw[Pu hx];exact kN
  .rw[og];simp
  .rw[og];exact TO
  .rw[og,size_madeCells]
  rw[Wm];exact cV.pw.2 (amQ (cV.pw.1 (dj _ _)) pR iI)
 refine⟨_,m',.inl ?_,Gz (eZ.alloc _ _) (cA _) af aq Bf,dA,Gy aq (cA _),rfl,JM (cA _) TO⟩;simp[execOp,ho,h1,h2,iW];rfl
theorem Xs{lo hi:Option Operand}{Bl xW:Option aQ}{n cap l h:Nat}{b:Bool}(eU:vG lo=some Bl)(Cw:vG hi=some xW)(hl:qp ak 0 Bl=some l)(hh:qp ak n xW=some h)
  (CA:l<=h) (j4:h<=cap):(Instr.sliceBounds b n cap (lo.map a.eval) (hi.map a.eval) none).run P m.w=.ok (l,h,cap) m.w:=by
 have _u0:=aq;have mH:(match hi.map a.eval with|some v=>∃k,v=Value.int k (h:Int)|none=>h=n):=by
  cases hi with
  |none=>simp[vG] at Cw;subst Cw;simp[qp] at hh;simpa using hh.symm
  |some x=>simp only[vG,dq] at Cw;obtain⟨y,hy,rfl⟩:=Cw;exact xn hh (dQ hy hr)
 have mK:(match lo.map a.eval with|some v=>∃k,v=Value.int k (l:Int)|none=>l=0):=by
  cases lo with
  |none=>simp[vG] at eU;subst eU;simp[qp] at hl;simpa using hl.symm
  |some x=>simp only[vG,dq] at eU;obtain⟨y,hy,rfl⟩:=eU;exact xn hl (dQ hy hr)
 generalize lo.map a.eval=LO at mK;generalize hi.map a.eval=HI at mH;have gK:(h:Int)<=(cap:Int):=aa;have jO:(l:Int)<=(h:Int):=aa;cases LO with
 |none=>
  simp only at mK;subst mK;cases HI with
  |none=>simp only at mH;subst mH;simp[Instr.sliceBounds]
  |some v=>obtain⟨k,rfl⟩:=mH;simp[Instr.sliceBounds,Instr.sliceBound,asIntOf,j4]
 |some u=>
  obtain⟨k,rfl⟩:=mK;cases HI with
  |none=>simp only at mH;subst mH;simp[Instr.sliceBounds,Instr.sliceBound,asIntOf,CA]
  |some v=>obtain⟨k',rfl⟩:=mH;simp[Instr.sliceBounds,Instr.sliceBound,asIntOf,j4,CA]
theorem aqb{t:TypeId}{x:Operand}{lo hi:Option Operand}{x':aQ}{Bl xW:Option aQ}{s:ByteArray}{l h:Nat}(ho:o.op=.slice t x lo hi none)(ht:P.underlying t=some .string)
  (hx:cF x=some x') (eU:vG lo=some Bl) (Cw:vG hi=some xW) (hs:ev ak x'=.one (.p (.str s))) (hl:qp ak 0 Bl=some l) (hh:qp ak s.size xW=some h) (CA:l<=h) (j4:h<=s.size):
  ff P w0 a.eval o m (.one (.p (.str (s.extract l h)))) []:=by
 have h1:=dQ hx hr;rw[hs] at h1;have hb:=Xs (P:=P) (w0:=w0) (aq:=aq) (hr:=hr) (b:=false) eU Cw hl hh CA j4;refine .calm aq ?_ (kO (.str _));simp[execOp,ho,K5 h1,Instr.sliceAt,Instr.slice,run_underlying ht,hb]
theorem aqa{t e:TypeId}{x:Operand}{lo hi:Option Operand}{x':aQ}{Bl xW:Option aQ}{sz n l h:Nat}{v:V}(ho:o.op=.slice t x lo hi none)(ht:P.underlying t=some (.slice e))(bU:vr P e=some sz)
  (hx:cF x=some x') (eU:vG lo=some Bl) (Cw:vG hi=some xW) (hn:wJ (ev ak x')=some n) (hl:qp ak 0 Bl=some l) (hh:qp ak n xW=some h)
  (hv:Bq (ev ak x') sz l h=.done v [] []):ff P w0 a.eval o m v []:=by
 have h1:=dQ hx hr;unfold Bq at hv;split at hv
 .cases hv
 rename_i CA;have CA:l<=h:=by simpa using CA
 have run:∀(ad:Option Addr) (cap:Nat),a.eval x=.slice ad n cap->h<=cap->(execOp a.eval o).run P m.w=.ok (.value (.slice (if cap=l then ad else ad.map (·.add (l*sz))) (h-l) (cap-l))) m.w:=by intro ad cap iT j4;have hb:=Xs (P:=P) (w0:=w0) (aq:=aq) (hr:=hr) (b:=true) eU Cw hl hh CA j4;simp[execOp,ho,iT,Instr.sliceAt,Instr.slice,run_underlying ht,hb,OS bU]
 obtain⟨ad0,cap0,hsl,hncap,pN⟩:=acs (aq:=aq) (hr:=hr) hn h1;split at hv
 .rename_i he;split at hv
  .rename_i h0;cases hv;rw[he] at h1;have:=NQ h1;subst h0;have tX:l=0:=aa;subst tX;rw[this] at hsl;cases hsl;refine .calm aq (run none 0 this (cA _)) ?_;simp;exact kO .nils
  cases hv
 .rename_i es he;split at hv
  .rename_i hc;cases hv;rw[he] at h1 hn;simp[wJ] at hn;subst hn;obtain⟨hp⟩:cN m _ (a.eval x):=h1;generalize hb:a.eval x=b at hp;generalize fR:(PV.sl es)=pv at hp;cases hp<;>cases fR
   .rename_i ad cap tZ hm;simp at hc;have hh0:h=0:=aa;subst hh0;have tX:l=0:=aa;subst tX;refine .calm aq (run ad cap hb (bn _)) (kO ?_);simp only[List.drop_nil,List.take_nil,Nat.sub_zero];refine .wR _ _ (fun h=>?_) hm;split at h
    .exact tZ h
    cases ad with
    |none=>exact tZ rfl
    |some ad=>simp at h
   rename_i b' o' cap bN f hm jS tW r7 qA Bg;refine .calm aq (run _ cap hb aa) (kO ?_);by_cases au:l=h
   .subst au;simp only[FI,Wv];refine .wR _ _ (fun h=>?_) aa;split at h<;>simp at h
   have hlen:((es.drop l).take (h-l)).length=h-l:=by simp;omega
   have mf:es≠[]:=fun e=>by subst e;simp at hc;omega
   have T6:bN=sz:=by obtain⟨e0,r0,rfl⟩:=List.exists_cons_of_ne_nil mf;have g1:=r7 e0 af;have g2:=hc.2;simp[eC] at g2;omega
   subst T6;rw[aD aa];simp only[mw,Addr.add_lit];have zg:=bX.sl (w:=m.w) (own:=m.own) (es:=(es.drop l).take (h-l)) b' (o'+l*bN) (cap-l) bN (fun j=>f (l*bN+j)) (fun aM=>jS fun e0=>aM ?_) aa aa (fun e he=>r7 e (uB (vC he))) ?_ ?_
   .rw[hlen] at zg;exact zg
   .apply ar5;rw[Gw (fun e he=>r7 e (uB he)),Nb r7,e0];simp
   .intro j z hz;rw[Gw (fun e he=>r7 e (uB he)),Nb r7,jY] at hz;split at hz
    .rw[wZ] at hz;rw[FG];exact qA _ z hz
    cases hz
   intro j z hz;rw[Gw (fun e he=>r7 e (uB he)),Nb r7,jY] at hz;split at hz
   .rw[wZ] at hz;exact Bg _ z hz
   cases hz
  cases hv
 .rename_i id g z off len he;split at hv
  .rename_i hc;cases hv;rw[he] at h1 hn;simp[wJ] at hn;subst hn;have fk:cN m _ (a.eval x):=h1;generalize hb:a.eval x=b at fk;cases fk with
   |hsl ad cap hg CB hm Ky=>
    refine .calm aq (run _ cap hb aa) ?_;have T5:∃ad',(if cap=l then some ad else (some ad).map (·.add (l*sz)))=some ad'/\(cap≠l->ad'=ad.add (l*sz))/\(l=0->ad'=ad):=by
     by_cases dM:cap=l
     .exact⟨ad,by simp[dM],fun h=>(h dM).elim,fun _=>rfl⟩
     exact⟨ad.add (l*sz),by simp[dM],fun _=>rfl,fun h=>by subst h;simp[Addr.add]⟩
    obtain⟨ad',e1,e2,e3⟩:=T5;rw[e1];refine bJ.one.2 (.hsl _ _ hg aa aa fun s g1 g2=>?_);obtain⟨f1,f2,f3⟩:=Ky s g1 g2;refine⟨f1,fun zc=>?_,?_⟩
    .by_cases tX:l=0
     .subst tX;rw[e3 rfl,vD];refine f2 ?_;rcases zc with h|h
      .exact .inl aa
      exact .inr aa
     have:0<h-l:=by rcases zc with h|h<;>omega
     rw[e2 aa,f2 (.inr aa),Addr.add_lit,f1,hc.2,fA]
    omega
  cases hv
 cases hv
end
end
end Go.Abs
namespace Go.Abs
variable {P:Program} {w0:World}
theorem ajL(off:Nat):∀(vs:List Value) (i:Nat) (cells:Array Value),off+i+vs.length<=cells.size->
  ((vs.zipIdx i).foldl (fun cs (x:Value×Nat)=>cs.setIfInBounds (off+x.2) x.1) cells).toList=eh cells.toList (off+i) vs:=by
 intro vs
 induction vs with
 |nil=>intro i cells _;simp[eh]
 |cons v r ih=>
  intro i cells h;simp only[dp] at h;simp only[List.zipIdx_cons,BH];rw[ih (i+1) _ (by simp;omega)];unfold eh;rw[Array.toList_setIfInBounds];have au:off+i<cells.toList.length:=by simp;omega
  have e1:(cells.toList.set (off+i) v).take (off+(i+1))=cells.toList.take (off+i)++[v]:=by rw[show off+(i+1)=(off+i)+1 by omega,afR (by simpa using au),List.take_set,afQ (by simp;omega)];simp
  have e2:(cells.toList.set (off+i) v).drop (off+(i+1)+r.length)=cells.toList.drop (off+(i+1)+r.length):=by rw[List.drop_set_of_lt aa]
  rw[e1,e2];simp only[dp,wY,List.singleton_append];congr 3;omega
theorem ZK{place:Nat->Option (Nat×Nat)}{i off n:Nat}{v:Value}{rest:List (Nat×Value)}{cells:Array Value}(hp:place i=some (off,n))(hv:v.cells.size=n)(hfit:off+n<=cells.size):
  ∃jv,Instr.fill place cells ((i,v)::rest)=Instr.fill place jv rest/\jv.toList=eh cells.toList off v.cells.toList:=by
 refine⟨v.cells.zipIdx.foldl (fun cs (x:Value×Nat)=>cs.setIfInBounds (off+x.2) x.1) cells,?_,?_⟩
 .simp only[Instr.fill,hp];rw[aD (by simp[hv];omega)]
 rw[<- afx,Array.toList_zipIdx,ajL off v.cells.toList 0 cells (by simp;omega)];simp
theorem ZJ{m:Mem}{ak:Env}{a:Act}(hr:im m ak a.tmps){place:Nat->Option (Nat×Nat)}{zl:Nat}:∀ {ps:List (Nat×Operand)} {qs:List (Nat×Nat×aQ)} {rs:List (Nat×List C)} {cs:List C} {cells:Array Value},
  Bp place zl ps=some qs->wO ak qs=some rs->cZ m cs cells.toList->cs.length=zl->
  ∃jv,Instr.fill place cells (ps.map fun x=>(x.1,a.eval x.2))=some jv/\cZ m (fill cs rs) jv.toList:=by
 intro ps
 induction ps with
 |nil=>intro qs rs cs cells h1 h2 hc hl;simp[Bp] at h1;subst h1;simp[wO] at h2;subst h2;exact⟨cells,by simp[Instr.fill],by simpa [fill] using hc⟩
 |cons p t ih=>
  intro qs rs cs cells h1 h2 hc hl;obtain⟨i,x⟩:=p;simp only[Bp] at h1;split at h1
  .rename_i off n a' q bG hx hq;split at h1
   .rename_i hfit;cases h1;simp only[wO] at h2;split at h2
    .rename_i B9 q' hcv EC;split at h2
     .rename_i hlen;cases h2;have hv:=Ql hcv (dQ hx hr);have bU:(a.eval x).cells.size=n:=by have:=hv.1;simp at this;omega
      have dM:=hc.1;simp at dM;obtain⟨jv,e1,e2⟩:=ZK (rest:=t.map fun x=>(x.1,a.eval x.2)) bG bU (by omega:off+n<=cells.size);simp only[eE,fill];rw[e1];refine ih hq EC ?_ (by rw[O0 aa];exact hl);rw[e2];exact cZ.pw.2 ((cZ.pw.1 hc).eh (cZ.pw.1 hv) off)
     cases h2
    cases h2
   cases h1
  cases h1
theorem mapM_ok{α β:Type}{f:α->Sem β}{g:α->β}{w:World}:∀ {l:List α},(∀x∈l,(f x).run P w=.ok (g x) w)->(l.mapM f).run P w=.ok (l.map g) w:=by
 intro l
 induction l with
 |nil=>intro _;simp
 |cons x r ih=>intro h;simp[List.mapM_cons,h x af,ih fun y hy=>h y (by simp[hy])]
theorem aiO{m:Mem}{ak:Env}{a:Act}(hr:im m ak a.tmps){place:Nat->Option (Nat×Nat)}{sz:Nat}(ak9:∀k,place k=some (k*sz,sz)):∀ {ps:List (Nat×Operand)} {as:List aQ} {es:List (List C)} {k:Nat} {done:List Value} {cells:Array Value},
  Gr k ps=some as->xD ak sz as=some es->done.length=k*sz->cells.toList.take (k*sz)=done->cells.size=(k+as.length)*sz->
  ∃jv,Instr.fill place cells (ps.map fun x=>(x.1,a.eval x.2))=some jv/\ ∃vs,jv.toList=done++vs/\cZ m es.flatten vs/\(∀e∈es,e.length=sz)/\es.length=as.length:=by
 intro ps
 induction ps with
 |nil=>intro as es k done cells h1 h2 hd ht hs;simp[Gr] at h1;subst h1;simp[xD] at h2;subst h2;refine⟨cells,by simp[Instr.fill],[],?_,⟨af,fun j x u p=>by simp at p⟩,fun e he=>by simp at he,rfl⟩;rw[<- ht,qh,eY (by simp at hs ⊢;omega)]
 |cons p t ih=>
  intro as es k done cells h1 h2 hd ht hs;obtain⟨i,x⟩:=p;simp only[Gr] at h1;split at h1
  .rename_i a' q hx hq;split at h1
   .rename_i hik;cases h1;subst hik;simp only[xD] at h2;split at h2
    .rename_i B9 q' hcv EC;split at h2
     .rename_i hlen;cases h2;have hv:=Ql hcv (dQ hx hr);have bU:(a.eval x).cells.size=sz:=by have:=hv.1;simp at this;omega
      simp only[dp] at hs;have eW:cells.size=i*sz+sz+q.length*sz:=by rw[hs,fA,fA];omega
      obtain⟨jv,e1,e2⟩:=ZK (rest:=t.map fun x=>(x.1,a.eval x.2)) (ak9 i) bU (by omega:i*sz+sz<=cells.size);have jN:jv.toList.length=cells.size:=by rw[e2,O0 (by simp;omega)];simp
      obtain⟨ahG,f1,vs,f2,f3,f4,f5⟩:=ih (k:=i+1) (done:=done++(a.eval x).cells.toList) (cells:=jv) hq EC (by simp[hd,bU,fA]) (by rw[e2];unfold eh;rw[ht,Wt (by simp[hd,bU,fA])];rw[eY (by simp[hd,bU,fA])]) (by simp at jN;rw[jN,eW,fA,fA];omega)
      simp only[eE];rw[e1];refine⟨ahG,f1,(a.eval x).cells.toList++vs,by rw[f2,wY],?_,?_,by simp[f5]⟩
      .simp only[kX];exact cZ.pw.2 ((cZ.pw.1 hv).append (cZ.pw.1 f3))
      intro e he;rcases dh.1 he with rfl|he
      .exact hlen
      exact f4 e he
     cases h2
    cases h2
   cases h1
  cases h1
theorem arh{m:Mem}:∀ {es:List (List C)} {qs:List (List PV)} {vs:List Value} {sz:Nat},zQ es=some qs->(∀e∈es,e.length=sz)->cZ m es.flatten vs->cV m.w m.own qs.flatten vs/\(∀e∈qs,e.length=sz)/\qs.length=es.length:=by
 intro es
 induction es with
 |nil=>intro qs vs sz h _ hc;simp[zQ] at h;subst h;exact⟨⟨hc.1,fun j x u p=>by simp at p⟩,fun e he=>by simp at he,rfl⟩
 |cons e r ih=>
  intro qs vs sz h bU hc;simp only[zQ] at h;split at h
  .rename_i v lR h1 h2;cases h;simp only[kX] at hc;have di:=bU e af;have gK:=(cZ.pw.1 hc).take e.length;have jO:=(cZ.pw.1 hc).drop e.length;simp only[Me,List.drop_left] at gK jO;have g1:=LU h1 (cZ.pw.2 gK);obtain⟨g2,g3,g4⟩:=ih h2 (fun x hx=>bU x (by simp[hx])) (cZ.pw.2 jO);have qF:v.length=sz:=by
    have a1:=g1.1;have a2:=gK.1;omega
   refine⟨?_,?_,by simp[g4]⟩
   .have:=(cV.pw.1 g1).append (cV.pw.1 g2);rw[tz] at this;exact cV.pw.2 this
   intro y hy;rcases dh.1 hy with rfl|hy
   .exact qF
   exact g3 y hy
  cases h
section
variable {m:Mem} {ak:Env} {a:Act} {o:Oper} (aq:Ok w0 m) (hr:im m ak a.tmps)
include aq hr
theorem apN{t:TypeId}{ps:Array (Nat×Operand)}{fs:Array Field}{z:List PV}{qs:List (Nat×Nat×aQ)}{rs:List (Nat×List C)}(ho:o.op=.build t ps)(ht:P.underlying t=some (.struct fs))(hz:yC P t=some z)
  (dx:fs.all (fun f=>(P.info? f.type).isSome)=true) (hp:Bp (fun i=>(fs[i]?).map fun f=>(f.offset,P.cellsOf f.type)) z.length ps.toList=some qs) (hv:wO ak qs=some rs):
  ff P w0 a.eval o m (.agg (fill (z.map .p) rs)) []:=by
 obtain⟨v,i,hi,hiv,hs,hl,dj⟩:=L2 hz;obtain⟨jv,h1,h2⟩:=ZJ hr hp hv (dj m.w m.own).By af;refine .calm (x:=.agg jv) aq ?_ (bJ.agg.2 ⟨_,rfl,h2⟩);have EB:(fs.mapM (fun f=>do pure (f.offset,<- sizeOf f.type):Field->Sem (Nat×Nat))).run P m.w=.ok (fs.map fun f=>(f.offset,P.cellsOf f.type)) m.w:=by
  rw[Array.mapM_eq_mapM_toList];have:=mapM_ok (P:=P) (f:=(fun f=>do pure (f.offset,<- sizeOf f.type):Field->Sem (Nat×Nat))) (g:=fun f=>(f.offset,P.cellsOf f.type)) (w:=m.w) (l:=fs.toList) (fun f hf=>by
   have:=Array.all_eq_true_iff_forall_mem.1 dx f (by simpa using hf);cases A4:P.info? f.type with
   |none=>rw[A4] at this;cases this
   |some i=>simp[sizeOf,typeInfo,A4,Program.cellsOf])
  rw[Sem.run_map,this];simp only[Result.andThen_ok];congr 1;apply Array.ext';simp
 have Ct:Instr.fill (fun x=>(fs.map fun f=>(f.offset,P.cellsOf f.type))[x]?) v.cells (ps.map fun x=>(x.1,a.eval x.2)).toList=some jv:=by simpa using h1
 simp only[execOp,ho,Instr.build,zeroValue,typeInfo,Sem.run_bind,run_program,Result.andThen_ok,hi,hiv,Sem.run_pure,run_underlying ht,EB,Ct]
theorem apM{t e:TypeId}{n:Nat}{ps:Array (Nat×Operand)}{i:TypeInfo}{z:List PV}{qs:List (Nat×Nat×aQ)}{rs:List (Nat×List C)}(ho:o.op=.build t ps)(ht:P.underlying t=some (.array n e))(hz:yC P t=some z)
  (hie:P.info? e=some i) (hp:Bp (fun k=>some (k*i.size,i.size)) z.length ps.toList=some qs) (hv:wO ak qs=some rs):
  ff P w0 a.eval o m (.agg (fill (z.map .p) rs)) []:=by
 obtain⟨v,i',hi,hiv,hs,hl,dj⟩:=L2 hz;obtain⟨jv,h1,h2⟩:=ZJ hr hp hv (dj m.w m.own).By af;refine .calm (x:=.agg jv) aq ?_ (bJ.agg.2 ⟨_,rfl,h2⟩);have Ct:Instr.fill (fun k=>some (k*i.size,i.size)) v.cells (ps.map fun x=>(x.1,a.eval x.2)).toList=some jv:=by simpa using h1
 simp only[execOp,ho,Instr.build,zeroValue,sizeOf,typeInfo,Sem.run_bind,run_program,Result.andThen_ok,hi,hie,hiv,Sem.run_pure,run_underlying ht,Ct]
theorem apK{t e:TypeId}{n sz bytes s:Nat}{z:List PV}{ps:Array (Nat×Operand)}{as:List aQ}{es:List (List C)}(ho:o.op=.buildSlice t n ps)(he:yN P t=some (e,sz,bytes,z))(hp:Gr 0 ps.toList=some as)
  (hn:as.length=n) (aaE:n*sz<=16777216) (hv:xD ak sz as=some es):
  (∀qs,zQ es=some qs->ff P w0 a.eval o m (.one (.hsl s ((m.aj s).1+1) sz 0 es.length)) [(s,((m.aj s).1+1,some (.arr e sz qs)))])/\
  ff P w0 a.eval o m (.one (.hsl s ((m.aj s).1+1) sz 0 es.length)) [(s,((m.aj s).1+1,some (.gQ e sz es)))]:=by
 obtain⟨i,v,ht,hi,hs,hb,⟨iI,_⟩,u6,pR,kN,dj⟩:=MJ he;subst hn;obtain⟨jv,f1,vs,f2,f3,f4,f5⟩:=aiO (place:=fun k=>some (k*sz,sz)) (done:=[]) (cells:=(Array.range (as.length*sz)).map ((if as.length*sz=0 then #[] else v.cells)[· %(if as.length*sz=0 then #[] else v.cells).size]!)) hr (fun _=>rfl) hp hv af af af;have iW:(execOp a.eval o).run P m.w=.ok (.value (.slice (some ⟨m.w.heap.size,0,none⟩) es.length es.length)) (m.w.alloc (.cells jv e)):=by
  have Ct:Instr.fill (fun k=>some (k*sz,sz)) ((Array.range (as.length*sz)).map ((if as.length*sz=0 then #[] else v.cells)[· %(if as.length*sz=0 then #[] else v.cells).size]!)) (ps.map fun x=>(x.1,a.eval x.2)).toList=some jv:=by simpa using f1
  have hnb:¬(16777216<as.length*sz):=aa;have aa3:¬(as.length*sz>2 ^ 24):=aa;by_cases h0:as.length*sz=0
  .simp only[aE h0] at Ct;simp only[execOp,ho,Instr.buildSlice,Sem.run_bind,run_underlying ht,Result.andThen_ok,sizeOf,typeInfo,run_program,hi,Sem.run_pure,hs,aD aa3,aE h0,Ct,newRow,run_newObj,f5];rfl
  simp only[aD h0] at Ct;simp only[execOp,ho,Instr.buildSlice,Sem.run_bind,run_underlying ht,Result.andThen_ok,sizeOf,typeInfo,run_program,hi,Sem.run_pure,hs,aD aa3,aD h0,zeroValue,u6,Ct,newRow,run_newObj,f5];rfl
 simp at f2;have dM:jv.size=es.length*sz:=by
  have h1:=f3.1;rw[Eb f4] at h1;have:jv.toList.length=vs.length:=by rw[f2]
  simp at this;omega
 have KG:es.length<=maxLen:=by have:es.length<=es.length*sz:=Mg _ iI;simp only[maxLen];rw[f5] at this ⊢;omega
 have Ho:jv.toList.take (es.length*sz)=vs:=by rw[eY (by simp;omega),f2]
 constructor
 .intro qs hq;have dA:Ev m (m.jy (m.w.alloc (.cells jv e)) s m.w.heap.size es.length (.arr e sz qs)):=Gx (eZ.alloc _ _) (cA _);obtain⟨g1,g2,g3⟩:=arh hq f4 (f3.ev dA.zero);refine⟨_,m.jy (m.w.alloc (.cells jv e)) s m.w.heap.size es.length (.arr e sz qs),.inl iW,Gz (eZ.alloc _ _) (cA _) af aq ?_,dA,Gy aq (cA _),rfl,JM (cA _) KG⟩;exact⟨jv,by rw[Cg];exact heap_alloc_new m.w _,iI,g2,by rw[og,g3];exact cA _,by rw[og];exact KG,by rw[og,dM],by rw[g3,Ho];exact g1⟩
 have dA:Ev m (m.jy (m.w.alloc (.cells jv e)) s m.w.heap.size es.length (.gQ e sz es)):=Gx (eZ.alloc _ _) (cA _);refine⟨_,m.jy (m.w.alloc (.cells jv e)) s m.w.heap.size es.length (.gQ e sz es),.inl iW,Gz (eZ.alloc _ _) (cA _) af aq ?_,dA,Gy aq (cA _),rfl,ajN (cA _) KG⟩;exact⟨jv,by rw[Cg];exact heap_alloc_new m.w _,iI,f4,by rw[og];exact cA _,by rw[og];exact KG,by rw[og,dM],by rw[Ho];exact f3.ev dA.zero⟩
end
end Go.Abs
namespace Go.Abs
variable {P:Program} {w0:World}
theorem I5(a b:List dY)(aj:aA):app (a++b) aj=app b (app a aj):=by
 induction a generalizing aj with
 |nil=>rfl
 |cons x r ih=>obtain⟨i,o⟩:=x;simp only[DD,app];exact ih _
theorem amz{m:Mem}{xE:Nat->Prop}(hf:∀c,xE c->m.fr c){c:Nat}(h:({m with fr:=xE}:Mem).own c):m.own c:=by
 rcases h with h|h
 .exact .inl (hf c h)
 exact .inr h
theorem NX{m:Mem}{xE:Nat->Prop}(hf:∀c,xE c->m.fr c):Ev m {m with fr:=xE}:=
 ⟨rfl,rfl,rfl,cA _,fun _ _ _=>rfl,fun _ _ h=>h,fun _ _ hn h=>hn (amz hf h),fun _=>cA _,fun _ _ h=>⟨h,rfl,rfl,rfl⟩⟩
theorem Uv{m:Mem}{xE:Nat->Prop}(h:Ok w0 m)(hf:∀c,xE c->m.fr c):Ok w0 {m with fr:=xE} where
 os:=h.os
 tape:=h.tape
 output:=h.output
 size:=h.size
 base:=h.base
 obj id o ho:=(h.obj id o ho).ev (NX hf).zero rfl rfl rfl
 eI id o ho hm:=⟨(h.eI id o ho hm).1,fun hc=>(h.eI id o ho hm).2 (hf _ hc)⟩
 frlt c hc:=h.frlt c (hf c hc)
 inj:=h.inj
theorem aer{m:Mem}{w':World}{c:Nat}(h:Ok w0 m)(hc:m.fr c)(eU:w0.heap.size<=c)(yg:w'.os=m.w.os)(ht:w'.tape=m.w.tape)(nE:w'.output=m.w.output)(hs:w'.heap.size=m.w.heap.size)
  (hk:∀x,x≠c->w'.heap[x]?=m.w.heap[x]?):Ok w0 {m with w:=w'} where
 os:=yg.trans h.os
 tape:=ht.trans h.tape
 output:=nE.trans h.output
 size:=lf h.size (IW hs.symm)
 base x hx:=(hk x aa).trans (h.base x hx)
 obj id o ho:=by
  have aM:m.σ id≠c:=by
   intro e;cases hm:o.fc with
   |true=>exact(h.eI id o ho hm).2 (e▸hc)
   |false=>exact(h.obj id o ho).calm hm (.inl (e▸hc))
  exact(h.obj id o ho).ev (m':={m with w:=w'}) ⟨fun x _ hn=>⟨hk x fun e=>hn (.inl (e▸hc)),hn⟩,fun _=>cA _,fun _ _ h=>⟨h,rfl,rfl,rfl⟩⟩ rfl rfl (hk _ aM)
 eI:=h.eI
 frlt x hx:=by rw[show({m with w:=w'}:Mem).w.heap.size=m.w.heap.size from hs];exact h.frlt x hx
 inj:=h.inj
theorem Ym{m:Mem}(aq:Ok w0 m){own:Nat->Prop}{x:V}{v:Value}{new:List (List PV)}{rd fr:List Nat}(h:eN m.aj x=some (new,rd,fr))(hv:bJ m x v)(hs:nY m own fr):
  ∃ax cx,v=.slice ax new.length cx/\(∀z,lQ x=some z->∀e∈new,e.length=z)/\
   (new≠[]->∃b o news,ax=some ⟨b,o,none⟩/\Pw (bX m.w own) new.flatten news/\ ∀(j:Nat) (u:Value),news[j]?=some u->m.w.cell? ⟨b,o+j,none⟩=some u):=by
 have row:∀(c off sz len:Nat) (cur:Array Value) (ty:TypeId) (fz:Nat×Nat) (ps:List (List PV)),m.w.heap[c]?=some (.cells cur ty fz)->Pw (bX m.w own) ps.flatten ((cur.toList.drop (off*sz)).take (ps.length*sz))->
   ∃b o news,some (⟨c,off*sz,none⟩:Addr)=some ⟨b,o,none⟩/\Pw (bX m.w own) ps.flatten news/\ ∀(j:Nat) (u:Value),news[j]?=some u->m.w.cell? ⟨b,o+j,none⟩=some u:=by
  intro c off sz len cur ty fz ps hh hp;refine⟨c,off*sz,_,rfl,hp,fun j u hj=>?_⟩;rw[jY] at hj;split at hj
  .rw[B4 hh];simpa using hj
  cases hj
 unfold eN at h;split at h
 .cases h;exact⟨none,0,NQ hv,fun z hz=>by simp[lQ] at hz,fun h=>(h rfl).elim⟩
 .rename_i es;cases h;obtain⟨hp⟩:cN m _ v:=hv;generalize fR:(PV.sl new)=pv at hp;cases hp<;>cases fR
  .exact⟨_,_,rfl,fun z hz=>by simp[lQ] at hz,fun h=>(h rfl).elim⟩
  rename_i b o cap sz f hm ho hl bU qA Bg;refine⟨_,_,rfl,fun z hz=>by simp[lQ] at hz,fun _=>⟨b,o,(List.range new.flatten.length).map f,rfl,⟨af,fun j y u p q=>?_⟩,fun j u q=>?_⟩⟩
  .have hj:j<new.flatten.length:=(aY.1 p).1;rw[gh,sI hj] at q;simp at q;subst q;exact(Bg j y p).less hs.1
  have hj:j<new.flatten.length:=by have:=(aY.1 q).1;simpa using this
  rw[gh,sI hj] at q;simp at q;subst q;exact qA j _ (nU hj)
 .rename_i id g z off len;have fk:cN m _ v:=hv;cases fk with
  |hsl ad cap hg hl hm Ky=>
   split at h
   .rename_i g' ty sz es hb;split at h
    .rename_i hc;cases h;have aZ:(m.aj id).2=some (.arr ty sz es):=by rw[hb]
     obtain⟨cur,hh,nH,bU,mJ,sZ,cX,dj⟩:=aq.obj id _ aZ;obtain⟨e1,e2,e3⟩:=Ky sz (by rw[hb];exact hc.1) (by rw[hb];rfl);have hlen:((es.drop off).take len).length=len:=by simp;omega
     refine⟨some ad,cap,by rw[hlen],fun z' oJ e he=>?_,fun aM=>?_⟩
     .simp[lQ] at oJ;subst oJ;rw[<- e1];exact bU e (uB (vC he))
     have:0<len:=by
      cases len with
      |zero=>simp at aM
      |succ n=>omega
     rw[e2 (.inr this)];exact row (m.σ id) off sz len cur ty _ _ hh (Ds bU (cV.pw.1 (dj.less hs.1)) hc.2)
    cases h
   .rename_i g' ty sz es hb;split at h
    .rename_i hc;cases h;have aZ:(m.aj id).2=some (.l7 ty sz es):=by rw[hb]
     obtain⟨cur,fz,hh,nH,bU,mJ,sZ,cX,dj,_⟩:=aq.obj id _ aZ;obtain⟨e1,e2,e3⟩:=Ky sz (by rw[hb];exact hc.1) (by rw[hb];rfl);have hlen:((es.drop off).take len).length=len:=by simp;omega
     refine⟨some ad,cap,by rw[hlen],fun z' oJ e he=>?_,fun aM=>?_⟩
     .simp[lQ] at oJ;subst oJ;rw[<- e1];exact bU e (uB (vC he))
     have:0<len:=by
      cases len with
      |zero=>simp at aM
      |succ n=>omega
     rw[e2 (.inr this)];exact row (m.σ id) off sz len cur ty _ _ hh (Ds bU (cV.pw.1 (dj.less hs.1)) hc.2)
    cases h
   .rename_i g' ty sz es hb;split at h
    .rename_i hc;split at h
     .rename_i ps q hq;cases h;have aZ:(m.aj id).2=some (.gQ ty sz es):=by rw[hb]
      obtain⟨cur,hh,nH,bU,mJ,sZ,cX,dj⟩:=aq.obj id _ aZ;obtain⟨e1,e2,e3⟩:=Ky sz (by rw[hb];exact hc.1) (by rw[hb];rfl);have hle:((es.drop off).take len).length=len:=by simp;omega
      have bG:new.length=len:=by rw[Qs hq,hle]
      have T4:=Ds bU (cZ.pw.1 dj) hc.2;have KV:∀e∈(es.drop off).take len,e.length=sz:=fun e he=>bU e (uB (vC he));have j4:len*sz<=(cur.toList.drop (off*sz)).length:=by
       simp;have h1:off*sz+len*sz<=es.length*sz:=by rw[<- fA];exact kD _ hc.2
       have h2:es.length*sz<=m.κ id*sz:=kD _ mJ;omega
      have mL:∀(j:Nat) (e:List PV),new[j]?=some e->Pw (bX m.w own) e (((cur.toList.drop (off*sz)).drop (j*sz)).take sz):=by intro j e he;obtain⟨x,q',h1,h2,h3⟩:=Qr hq he;exact Gb (R:=cN m) (T:=bX m.w own) (eJ:=nY m own) (fun a b h=>h.app) (fun a b r v e1 e2 e3=>Ii aq _ e1 e2 e3) h2 ⟨hs.1,fun i hi=>hs.2 i (h3 i hi)⟩ (S8 KV T4 h1)
      have CL:∀e∈new,e.length=sz:=by
       intro e he;obtain⟨j,hj⟩:=gH he;have:=(mL j e hj).1;have mI:j<len:=by rw[<- bG];exact(aY.1 hj).1
       have h1:(j+1)*sz<=len*sz:=kD _ mI;rw[fA] at h1;simp at this j4;omega
      refine⟨some ad,cap,by rw[bG],fun z' oJ e he=>?_,fun aM=>?_⟩
      .simp[lQ] at oJ;subst oJ;rw[<- e1];exact CL e he
      have:0<len:=by rw[<- bG];exact kY.2 aM
      rw[e2 (.inr this)];refine row (m.σ id) off sz len cur ty _ _ hh ?_;rw[bG];have:=Vg CL (by rw[bG];exact j4) mL;rw[bG] at this;exact this
     cases h
    cases h
   split at h
   .rename_i tX;cases h;exact⟨some ad,cap,by rw[tX];rfl,fun z' _ e he=>by simp at he,fun h=>(h rfl).elim⟩
   cases h
 cases h
end Go.Abs
namespace Go.Abs
variable {P:Program} {w0:World}
theorem ad2{w:World}{own:Nat->Prop}{xs:List PV}{vs:List Value}(h:Pw (bX w own) xs vs):∀u∈vs,u.oneCell'=true:=by
 intro v hv;obtain⟨j,hj⟩:=gH hv;have au:j<xs.length:=by rw[<- h.1];exact(aY.1 hj).1
 exact(h.2 j _ v (nU au) hj).Ln
theorem JN{m:Mem}{ids:List Nat}{u:List dY}(h:qx m.aj ids=some u)(id:Nat):(app u m.aj id).1=(m.aj id).1:=by
 rcases uS h id with ⟨e,_⟩|⟨_,p,q,a,b,e⟩
 .exact congrArg Prod.fst e
 have:=congrArg Prod.fst e;exact this
theorem Yi{m:Mem}{id:Nat}{o:Ob}{w':World}(ho:(m.aj id).2=some o)(hm:o.fc=true)(yg:w'.os=m.w.os)(ht:w'.tape=m.w.tape)(nE:w'.output=m.w.output)(hs:w'.heap.size=m.w.heap.size)
  (hk:∀x,x≠m.σ id->w'.heap[x]?=m.w.heap[x]?):Ev m {m.fX id with w:=w'} where
 os:=yg
 tape:=ht
 output:=nE
 size:=IW hs.symm
 keep c _ hn:=hk c fun e=>hn ⟨id,o,ho,hm,e.symm⟩
 fc:=(DV ho hm).fc
 less:=(DV ho hm).less
 gen:=(DV ho hm).gen
 ref:=(DV ho hm).ref
theorem aoW{m:Mem}(aq:Ok w0 m){id s:Nat}{ob:Ob}{w':World}{Av:Array Value}{ty sz:Nat}{jZ:List (List PV)}(ho:(m.aj id).2=some ob)(hm:ob.fc=true)(iI:0<sz)(yg:w'.os=m.w.os)(ht:w'.tape=m.w.tape)(nE:w'.output=m.w.output)(hs:w'.heap.size=m.w.heap.size)
  (hk:∀x,x≠m.σ id->w'.heap[x]?=m.w.heap[x]?) (hh:w'.heap[m.σ id]?=some (.cells Av ty (0,0))) (bU:∀e∈jZ,e.length=sz) (hl:jZ.length<=m.κ id) (qE:m.κ id<=maxLen) (cX:Av.size=m.κ id*sz)
  (hp:Pw (bX m.w m.own) jZ.flatten (Av.toList.take (jZ.length*sz))):
  ∃m',m'.w=w'/\Ok w0 m'/\Ev m m'/\m'.fr=m.fr/\m'.aj=df (df m.aj id ((m.aj id).1,none)) s ((m.aj s).1+1,some (.arr ty sz jZ))/\
   bJ m' (.one (.hsl s ((m.aj s).1+1) sz 0 jZ.length)) (.slice (some ⟨m.σ id,0,none⟩) jZ.length (m.κ id)):=by
 have A3:=Yi ho hm yg ht nE hs hk;have eU:=(aq.eI id ob ho hm).1;have TV:Ok w0 {m.fX id with w:=w'}:=aer (m:=m.fX id) (QO aq ho hm) (.inr rfl) eU yg ht nE hs hk;have dA:Ev m ((({m.fX id with w:=w'}:Mem)).install s (m.σ id) (m.κ id) (.arr ty sz jZ)):=NN A3 (.inr rfl) (.inr ⟨id,ob,ho,hm,rfl⟩);have u4:((({m.fX id with w:=w'}:Mem)).aj s).1=(m.aj s).1:=by
  simp only[Mem.fX,aS];split
  .rename_i e;subst e;rfl
  rfl
 have hσ:((({m.fX id with w:=w'}:Mem)).install s (m.σ id) (m.κ id) (.arr ty sz jZ)).σ s=m.σ id:=by simp[Mem.install,aS]
 have hκ:((({m.fX id with w:=w'}:Mem)).install s (m.σ id) (m.κ id) (.arr ty sz jZ)).κ s=m.κ id:=by simp[Mem.install,aS]
 refine⟨_,rfl,NO TV (.inr rfl) eU ?_,dA,?_,?_,?_⟩
 .exact⟨Av,by rw[hσ];exact hh,iI,bU,by rw[hκ];exact hl,by rw[hκ];exact qE,by rw[hκ];exact cX,cV.ev dA.zero (cV.pw.2 hp)⟩
 .funext x;simp only[Mem.install,Mem.fX];apply propext;constructor
  .rintro ⟨h|h,h2⟩
   .exact h
   exact(h2 h).elim
  intro h;exact⟨.inl h,fun e=>(aq.eI id ob ho hm).2 (e▸h)⟩
 .simp only[Mem.install];rw[u4];rfl
 refine bJ.one.2 (.hsl _ _ ?_ hl qE fun z h1 h2=>?_)
 .simp only[Mem.install,aS,if_true];rw[u4];exact cA _
 have:jR (((({m.fX id with w:=w'}:Mem)).install s (m.σ id) (m.κ id) (.arr ty sz jZ)).aj s)=some sz:=by simp[Mem.install,aS,jR]
 rw[this] at h2;cases h2;exact⟨rfl,fun _=>by rw[hσ,yF],by rw[jt];exact hκ.symm⟩
theorem apo{P:Program}(w:World)(t ty e:TypeId)(i:TypeInfo)(z:Value)(ht:P.underlying t=some (.slice e))(hi:P.info? e=some i)(hz:i.zero=some z)
  (az:Option Addr) (a:Addr) (n c:Nat) (news:List Value) (hl:news.length=n*i.size) (wy:∀j v,news[j]?=some v->w.cell? (a.add j)=some v)
  (h0:0<n) (h63:(n:Int)<=9223372036854775807) (Ka:n*i.bytes<=281474976710656):
  (Builtin.append_ #[t,t] ty #[.slice az 0 0,.slice (some a) n c]).run P w=
   .ok (.slice (some ⟨w.heap.size,0,none⟩) n (grownCap w n 0 e)) (w.drew.alloc (.cells (news.toArray++Builtin.zeroCells z.cells (grownCap w n 0 e-n)) e)):=by
 cases az with
 |none=>exact run_append_nil w t ty e i z ht hi hz a n c news hl wy h0 h63 Ka
 |some b=>have h:=run_append_grow (P:=P) w t ty e i z ht hi hz b 0 0 [] af (fun j v h=>by simp at h) a n c news hl wy aa (by simpa using h63) (by rw[jt,nextslicecap_zero h0];exact Ka);rw[jt] at h;rw[h];simp
theorem apn{P:Program}(w:World)(t ty e:TypeId)(i:TypeInfo)(ht:P.underlying t=some (.slice e))(hi:P.info? e=some i)
  (g off sLen sCap:Nat) (cur:Array Value) (hg:w.heap[g]?=some (.cells cur e (0,0)))
  (a:Addr) (m c:Nat) (news:List Value) (hl:news.length=m*i.size) (wy:∀j u,news[j]?=some u->w.cell? (a.add j)=some u) (h1:∀u∈news,u.oneCell'=true)
  (jC:sLen+m<=sCap) (hfit:off+sLen*i.size+news.length<=cur.size):
  (Builtin.append_ #[t,t] ty #[.slice (some ⟨g,off,none⟩) sLen sCap,.slice (some a) m c]).run P w=
   .ok (.slice (some ⟨g,off,none⟩) (sLen+m) sCap) (w.setRow g (cur.toList.take (off+sLen*i.size)++news++cur.toList.drop (off+sLen*i.size+news.length)).toArray):=by
 have hf:=run_firstCells_some (P:=P) w i.size m a m c news hl wy;have cJ:=run_storeCells_at P g (off+sLen*i.size) e news 0 cur w hg (by simpa using hfit) h1;simp only[vD] at cJ;simp[Builtin.append_,run_underlying ht,sizeOf,typeInfo,hi,Builtin.lenOf,jC,hf,Addr.add_lit,cJ]
section
variable {m:Mem} {ak:Env} {a:Act} {o:Oper} (aq:Ok w0 m) (hr:im m ak a.tmps)
include aq hr
theorem apH{c:Call}{d x:Operand}{d' x':aQ}{t e:TypeId}{s sz bytes:Nat}{z:List PV}{v:V}{u:List dY}{rd:List Nat}(ho:o.op=.call c)(hc:c.callee=.builtin .append)(has:c.args= #[d,x])(jz:c.argTypes= #[t,t])
  (he:yN P t=some (e,sz,bytes,z)) (hd:cF d=some d') (hx:cF x=some x') (hv:eO m.aj s e sz bytes (ev ak d') (ev ak x')=.done v u rd):ff P w0 a.eval o m v u:=by
 obtain⟨i,zv,ht,hi,hs,hb,⟨iI,Ej⟩,u6,Hs,kN,dj⟩:=MJ he;have oF:=dQ hd hr;have jU:=dQ hx hr;have run:∀(y:Value) (w':World),(Builtin.append_ #[t,t] o.type #[a.eval d,a.eval x]).run P m.w=.ok y w'->(execOp a.eval o).run P m.w=.ok (.value y) w':=by intro y w' h;simp[execOp,ho,resolve,hc,has,jz,invoke,builtin,h]
 unfold eO at hv;split at hv
 .cases hv
 rename_i new rd' fr di;split at hv
 .cases hv
 rename_i alk;split at hv
 .cases hv
 rename_i fu ow;have mg:=Z6 aq ow;have tS:=Tf ow;have mM:=Th aq ow;obtain⟨ax,cx,vf,alj,wy⟩:=Ym aq di jU mM;have dx:∀e∈new,e.length=sz:=by
  have:lQ (ev ak x')=some sz\/eC sz new=true:=Classical.not_not.1 alk;rcases this with h|h
  .exact alj sz h
  intro e he;have:=ij.1 h e he
  simpa using this
 have Kw:new.flatten.length=new.length*sz:=Eb dx;split at hv
 · -- nil
  rename_i Em;rw[Em] at oF;have xR:=NQ oF;split at hv
  .rename_i fP;cases hv;refine⟨.slice none 0 0,m.with u,.inl (run _ _ ?_),mg,tS,rfl,rfl,kO .nils⟩;rw[xR,vf,fP];cases ax<;>simp[Builtin.append_,run_underlying ht,sizeOf,typeInfo,hi,Builtin.lenOf,Builtin.firstCells,loadCells,loadCellsFrom,Mem.with]
  rename_i fP;split at hv
  .rename_i jC;cases hv;have aM:new≠[]:=fun h=>fP (by simp[h]);obtain⟨b,off,news,rfl,ji,vW⟩:=wy aM;unfold room at jC;have iV:news.length=new.length*i.size:=by rw[ji.1,Kw,hs]
   have Bd:new.length<=maxLen/\(new.length:Int)<=9223372036854775807:=by have:new.length<=new.length*bytes:=Mg _ Ej;simp only[maxLen];omega
   have iW:=run_append_nil (P:=P) m.w t o.type e i zv ht hi u6 ⟨b,off,none⟩ new.length cx news iV (fun j v hj=>by rw[Addr.add_lit];exact vW j v hj) aa Bd.2 (by rw[hb];omega);generalize hW:m.w.drew.alloc (.cells (news.toArray++Builtin.zeroCells zv.cells (grownCap m.w new.length 0 e-new.length)) e)=W at iW;have hg:eZ (m.with fu).w W:=by rw[<- hW];exact(eZ.drew _).trans (eZ.alloc _ _)
   have j4:=grownCap_ge m.w new.length 0 e;have Kf:=grownCap_le_maxLen m.w new.length 0 e Bd.1;have A3:Ev (m.with fu) ((m.with fu).jy W s m.w.heap.size (grownCap m.w new.length 0 e) (.arr e sz new)):=Gx hg (cA _);have u4:=JN ow s;refine⟨_,(m.with fu).jy W s m.w.heap.size (grownCap m.w new.length 0 e) (.arr e sz new),.inl (run _ _ (by rw[xR,vf];exact iW)),Gz hg (cA _) (by rw[<- hW];simp) mg ?_,tS.trans A3,Gy mg (cA _),?_,?_⟩
   .refine⟨_,by rw[Cg,Tc,<- hW];exact heap_alloc_new m.w.drew _,iI,dx,by rw[og];exact j4,by rw[og];exact Kf,?_,?_⟩
    .rw[og];simp only[afz,Wr,size_zeroCells,Hs,iV,hs,<- fA];congr 1;omega
    have:(news.toArray++Builtin.zeroCells zv.cells (grownCap m.w new.length 0 e-new.length)).toList.take (new.length*sz)=news:=by simp only[Pp];rw[<- hs,<- iV];exact Me
    rw[this];exact cV.ev A3.zero (cV.pw.2 ji)
   .rw[I5,Tb];simp only[Mem.with];rw[u4]
   have:=JM (m:=m.with fu) (w':=W) (s:=s) (c:=m.w.heap.size) (ty:=e) (sz:=sz) (es:=new) j4 Kf;simp only[Mem.with] at this;rw[u4] at this;exact this
  cases hv
 · -- an empty slice without room
  rename_i Em;rw[Em] at oF;obtain⟨az,xR⟩:=alT oF;split at hv
  .cases hv
  rename_i fP;split at hv
  .rename_i jC;cases hv;have aM:new≠[]:=fun h=>fP (by simp[h]);obtain⟨b,off,news,rfl,ji,vW⟩:=wy aM;unfold room at jC;have iV:news.length=new.length*i.size:=by rw[ji.1,Kw,hs]
   have Bd:new.length<=maxLen/\(new.length:Int)<=9223372036854775807:=by have:new.length<=new.length*bytes:=Mg _ Ej;simp only[maxLen];omega
   have iW:=apo (P:=P) m.w t o.type e i zv ht hi u6 az ⟨b,off,none⟩ new.length cx news iV (fun j v hj=>by rw[Addr.add_lit];exact vW j v hj) aa Bd.2 (by rw[hb];omega);generalize hW:m.w.drew.alloc (.cells (news.toArray++Builtin.zeroCells zv.cells (grownCap m.w new.length 0 e-new.length)) e)=W at iW;have hg:eZ (m.with fu).w W:=by rw[<- hW];exact(eZ.drew _).trans (eZ.alloc _ _)
   have j4:=grownCap_ge m.w new.length 0 e;have Kf:=grownCap_le_maxLen m.w new.length 0 e Bd.1;have A3:Ev (m.with fu) ((m.with fu).jy W s m.w.heap.size (grownCap m.w new.length 0 e) (.arr e sz new)):=Gx hg (cA _);have u4:=JN ow s;refine⟨_,(m.with fu).jy W s m.w.heap.size (grownCap m.w new.length 0 e) (.arr e sz new),.inl (run _ _ (by rw[xR,vf];exact iW)),Gz hg (cA _) (by rw[<- hW];simp) mg ?_,tS.trans A3,Gy mg (cA _),?_,?_⟩
   .refine⟨_,by rw[Cg,Tc,<- hW];exact heap_alloc_new m.w.drew _,iI,dx,by rw[og];exact j4,by rw[og];exact Kf,?_,?_⟩
    .rw[og];simp only[afz,Wr,size_zeroCells,Hs,iV,hs,<- fA];congr 1;omega
    have:(news.toArray++Builtin.zeroCells zv.cells (grownCap m.w new.length 0 e-new.length)).toList.take (new.length*sz)=news:=by simp only[Pp];rw[<- hs,<- iV];exact Me
    rw[this];exact cV.ev A3.zero (cV.pw.2 ji)
   .rw[I5,Tb];simp only[Mem.with];rw[u4]
   have:=JM (m:=m.with fu) (w':=W) (s:=s) (c:=m.w.heap.size) (ty:=e) (sz:=sz) (es:=new) j4 Kf;simp only[Mem.with] at this;rw[u4] at this;exact this
  cases hv
 .rename_i id g zz len Em;rw[Em] at oF;split at hv
  .rename_i g' je bN es jM;split at hv
   .rename_i pK;obtain⟨gT,rfl,rfl,hlen,jC,TQ⟩:=pK;cases hv;have TR:id∉fr:=by simpa using TQ
    have cQ:(m.with fu).aj id=m.aj id:=by
     rcases uS ow id with ⟨e,_⟩|⟨j7,_⟩
     .exact e
     exact(TR j7).elim
    have aZ:((m.with fu).aj id).2=some (.arr je bN es):=by rw[cQ,jM]
    obtain⟨cur,hh,_,bU,hl,qE,cX,TY⟩:=mg.obj id _ aZ;have Kg:cN m _ (a.eval d):=oF;generalize xR:a.eval d=dv at Kg;cases Kg with
    |hsl ad cap hg CB CF Es=>
     obtain⟨f1,f2,f3⟩:=Es bN (by rw[jM];exact gT) (by rw[jM];rfl);have j4:cap=m.κ id:=by rw[<- f3,jt]
     have l9:=f2 (.inl rfl);rw[yF] at l9;subst l9;unfold room at jC;have u4:=JN ow s;have hgid:=JN ow id;have Ha:len*bN<=es.length*bN:=kD _ hlen;have mJ:es.length*bN<=m.κ id*bN:=kD _ hl;have TW:Pw (bX (m.with fu).w (m.with fu).own) (es.take len).flatten (cur.toList.take (len*bN)):=by rw[Gw bU];have h1:=(cV.pw.1 TY).take (len*bN);rw[Mf,zZ Ha] at h1;exact h1
     have htl:(es.take len).length=len:=by simp;omega
     have Kd:∀x∈es.take len++new,x.length=bN:=by
      intro x hx;rcases fi.1 hx with hx|hx
      .exact bU x (vC hx)
      exact dx x hx
     have hnl0:len+new.length<=(len+new.length)*bytes:=Mg _ Ej;have ue:∀q:dY,app (fu++[(id,(g,none)),q]) m.aj=df (df (m.with fu).aj id (((m.with fu).aj id).1,none)) q.1 q.2:=by intro q;rw[I5];simp only[app];rw[cQ,jM,gT];rfl
     have Bb:(es.take len++new).length=len+new.length:=by rw[fH,htl]
     by_cases hfit:len+new.length<=cap
     · -- in its own block
      have key:∀(w':World) (Av:Array Value),(execOp a.eval o).run P m.w=.ok (.value (.slice (some ⟨m.σ id,0,none⟩) (len+new.length) cap)) w'->w'.os=m.w.os->w'.tape=m.w.tape->w'.output=m.w.output->w'.heap.size=m.w.heap.size->
        (∀x,x≠m.σ id->w'.heap[x]?=m.w.heap[x]?)->w'.heap[m.σ id]?=some (.cells Av je (0,0))->Av.size=cur.size->Pw (bX (m.with fu).w (m.with fu).own) (es.take len++new).flatten (Av.toList.take ((len+new.length)*bN))->
        ff P w0 a.eval o m (.one (.hsl s ((m.aj s).1+1) bN 0 (len+new.length))) (fu++[(id,(g,none)),(s,((m.aj s).1+1,some (.arr je bN (es.take len++new))))]):=by
       intro w' Av iW q1 q2 q3 q4 q5 q6 q7 q8;obtain⟨m',e1,e2,e3,e4,e5,e6⟩:=aoW (s:=s) mg aZ rfl iI q1 q2 q3 q4 q5 q6 Kd (by rw[Bb];rw[j4] at hfit;exact hfit) qE (by rw[q7];exact cX) (by rw[Bb];exact q8);rw[Bb] at e6;have Nv:((m.with fu).aj s).1=(m.aj s).1:=u4;rw[Nv] at e6 e5;refine⟨_,m',.inl (by rw[e1];exact iW),e2,tS.trans e3,e4,by rw[e5,ue],?_⟩;rw[j4];exact e6
      by_cases fP:new=[]
      .subst fP;have alh:(execOp a.eval o).run P m.w=.ok (.value (.slice (some ⟨m.σ id,0,none⟩) (len+([]:List (List PV)).length) cap)) m.w:=by
        apply run;rw[xR,vf];have akO:len<=cap:=CB;cases ax<;>simp[Builtin.append_,run_underlying ht,sizeOf,typeInfo,hi,Builtin.lenOf,Builtin.firstCells,loadCells,loadCellsFrom,akO,storeCells]
       exact key m.w cur alh rfl rfl rfl rfl (fun _ _=>rfl) hh rfl (by simpa using TW)
      obtain⟨b,off,news,rfl,ji,vW⟩:=wy fP;have iV:news.length=new.length*i.size:=by rw[ji.1,Kw,hs]
      have yV:len*i.size+news.length<=cur.size:=by rw[iV,hs,cX,<- fA];rw[j4] at hfit;exact kD _ hfit
      have iW:=run_append_room (P:=P) m.w t o.type je i ht hi (m.σ id) len cap cur hh ⟨b,off,none⟩ new.length cx news iV (fun j v hj=>by rw[Addr.add_lit];exact vW j v hj) (ad2 ji) hfit yV;have ali:(execOp a.eval o).run P m.w=.ok (.value (.slice (some ⟨m.σ id,0,none⟩) (len+new.length) cap)) _:=run _ _ (by rw[xR,vf];exact iW);have aku:len*i.size<=cur.size:=lf (Nat.le_add_right _ _) yV;refine key _ _ ali ?_ ?_ ?_ ?_ (fun x hx=>setRow_other m.w (m.σ id) x _ hx) (LH hh) ?_ ?_
      .rfl
      .rfl
      .rfl
      .exact setRow_size m.w _ _
      .rw[Wr,fH,fH,iF,tx,L3];omega
      have h1:=TW.append ji;rw[<- BG] at h1;have:(cur.toList.take (len*i.size)++news++cur.toList.drop (len*i.size+news.length)).take ((len+new.length)*bN)=cur.toList.take (len*bN)++news:=by
       rw[hs];have dM:(cur.toList.take (len*bN)).length=len*bN:=by rw[iF,L3];rw[hs] at aku;omega
       have Ki:(cur.toList.take (len*bN)++news).length=(len+new.length)*bN:=by rw[fH,dM,iV,hs,fA]
       rw[Wt (IW Ki.symm)];exact eY (IW Ki)
      simp only[afS] at this ⊢;rw[this];exact h1
     · -- a new block
      have fP:new≠[]:=fun e=>by subst e;simp at hfit;omega
      obtain⟨b,off,news,rfl,ji,vW⟩:=wy fP;have iV:news.length=new.length*i.size:=by rw[ji.1,Kw,hs]
      have yf:(cur.toList.take (len*bN)).length=len*i.size:=by rw[hs,iF,L3];have xP:cur.size=m.κ id*bN:=cX;omega
      have iW:=run_append_grow (P:=P) m.w t o.type je i zv ht hi u6 ⟨m.σ id,0,none⟩ len cap (cur.toList.take (len*bN)) yf (fun j v hj=>by
        rw[Addr.add_lit,jt];have:(m.w.cell? ⟨m.σ id,j,none⟩)=cur[j]? :=B4 hh;rw[this];rw[jY] at hj;split at hj
        .simpa using hj
        cases hj) ⟨b,off,none⟩ new.length cx news iV (fun j v hj=>by rw[Addr.add_lit];exact vW j v hj) aa aa (growslice_fits aa (by rw[hb];omega))
      have Bd:len+new.length<=maxLen:=by simp only[maxLen];omega
      have GU:=grownCap_ge m.w (len+new.length) cap je;have GV:=grownCap_le_maxLen m.w (len+new.length) cap je Bd;generalize qA:grownCap m.w (len+new.length) cap je=cc at iW GU GV;generalize hW:m.w.drew.alloc (.cells ((cur.toList.take (len*bN)).toArray++news.toArray++Builtin.zeroCells zv.cells (cc-(len+new.length))) je)=W at iW;have KK:=Uv (xE:=m.fr) (QO mg aZ rfl) (fun c hc=>.inl hc);have TB:Ev (m.with fu) {(m.with fu).fX id with fr:=m.fr}:=(DV aZ rfl).trans (NX (fun c hc=>.inl hc));have A7:eZ ({(m.with fu).fX id with fr:=m.fr}:Mem).w W:=by rw[<- hW];exact(eZ.drew _).trans (eZ.alloc _ _)
      have A3:Ev ({(m.with fu).fX id with fr:=m.fr}:Mem) (({(m.with fu).fX id with fr:=m.fr}:Mem).jy W s m.w.heap.size cc (.arr je bN (es.take len++new))):=Gx A7 (cA _);have aaN:=TB.trans A3;have Nv:((({(m.with fu).fX id with fr:=m.fr}:Mem)).aj s).1=(m.aj s).1:=by
       simp only[Mem.fX,aS];split
       .rename_i e';subst e';exact u4
       exact u4
      refine⟨_,({(m.with fu).fX id with fr:=m.fr}:Mem).jy W s m.w.heap.size cc (.arr je bN (es.take len++new)),.inl (run _ _ (by rw[xR,vf];exact iW)),Gz A7 (cA _) (by rw[<- hW];simp) KK ?_,tS.trans aaN,Gy KK (cA _),?_,?_⟩
      .refine⟨_,by rw[Cg,Tc,<- hW];exact heap_alloc_new m.w.drew _,iI,Kd,by rw[og,Bb];exact GU,by rw[og];exact GV,?_,?_⟩
       .rw[og];simp only[afz,Wr,size_zeroCells,Hs,iV,yf,hs,<- fA];congr 1;omega
       have h1:=TW.append ji;rw[<- BG] at h1;have:((cur.toList.take (len*bN)).toArray++news.toArray++Builtin.zeroCells zv.cells (cc-(len+new.length))).toList.take ((es.take len++new).length*bN)=cur.toList.take (len*bN)++news:=by simp only[Pp,Bb];exact List.take_left' (by rw[fH,afS,afS,yf,iV,hs,fA])
       rw[this];exact cV.ev aaN.zero (cV.pw.2 h1)
      .rw[Tb,ue];simp only[app];rw[Nv];rfl
      have:=JM (m:=({(m.with fu).fX id with fr:=m.fr}:Mem)) (w':=W) (s:=s) (c:=m.w.heap.size) (ty:=je) (sz:=bN) (es:=es.take len++new) GU GV;rw[Nv] at this;exact this
   cases hv
  cases hv
 · -- a slice that begins within its array: its values, nobody's any more
  rename_i id g zz off len aM Em;rw[Em] at oF;split at hv
  .rename_i g' je bN es jM;split at hv
   .rename_i pK;obtain⟨gT,rfl,rfl,hlen,jC,TQ,tX,akW⟩:=pK;cases hv;have TR:id∉fr:=by simpa using TQ
    have cQ:(m.with fu).aj id=m.aj id:=by
     rcases uS ow id with ⟨e,_⟩|⟨j7,_⟩
     .exact e
     exact(TR j7).elim
    have aZ:((m.with fu).aj id).2=some (.arr je bN es):=by rw[cQ,jM]
    obtain⟨cur,hh,_,bU,hl,qE,cX,TY⟩:=mg.obj id _ aZ;have Kg:cN m _ (a.eval d):=oF;generalize xR:a.eval d=dv at Kg;cases Kg with
    |hsl ad cap hg CB CF Es=>
     obtain⟨f1,f2,f3⟩:=Es bN (by rw[jM];exact gT) (by rw[jM];rfl);have l9:=f2 (.inr tX);subst l9;unfold room at jC;have eU:=(mg.eI id _ aZ rfl).1;have hnf:=(mg.eI id _ aZ rfl).2;have holds:=Ds (off:=off) (len:=len) bU (cV.pw.1 TY) hlen;have htl:((es.drop off).take len).length=len:=by simp;omega
     rw[htl] at holds;have akj:∀x∈(es.drop off).take len,x.length=bN:=fun x hx=>bU x (uB (vC hx));have Kd:∀x∈(es.drop off).take len++new,x.length=bN:=by
      intro x hx;rcases fi.1 hx with hx|hx
      .exact akj x hx
      exact dx x hx
     have fP:new≠[]:=fun e=>by subst e;simp at akW
     obtain⟨b,bo,news,rfl,ji,vW⟩:=wy fP;have iV:news.length=new.length*i.size:=by rw[ji.1,Kw,hs]
     have Bb:((es.drop off).take len++new).length=len+new.length:=by rw[fH,htl]
     have aaO:(((es.drop off).take len++new).flatten).length=(len+new.length)*bN:=by rw[Eb Kd,Bb]
     have T0:=holds.append ji;rw[<- BG] at T0;have yf:((cur.toList.drop (off*bN)).take (len*bN)).length=len*i.size:=by rw[hs,iF,tx,L3];have xP:cur.size=m.κ id*bN:=cX;have h1:(off+len)*bN<=m.κ id*bN:=kD _ aa;rw[fA] at h1;omega
     have ue:app (fu++[(id,(g,none))]) m.aj=df (m.with fu).aj id (((m.with fu).aj id).1,none):=by rw[I5];simp only[app];rw[cQ,jM,gT];rfl
     have Tz:Ok w0 ((m.with fu).fX id):=QO mg aZ rfl;have akx:Ev (m.with fu) ((m.with fu).fX id):=DV aZ rfl;have TN:¬((m.with fu).fX id).fc (m.σ id):=by
      rintro ⟨j,o',h1,h2,h3⟩
      exact(Tz.eI j o' h1 h2).2 (.inr h3)
     have val:∀(m2:Mem) (c0 o0 cp:Nat) (cells:List Value),Ev (m.with fu) m2-> ¬m2.own c0->cells.length=(len+new.length)*bN->(∀j v,cells[j]?=some v->m2.w.cell? ⟨c0,o0+j,none⟩=some v)->
       Pw (bX (m.with fu).w (m.with fu).own) ((es.drop off).take len++new).flatten cells->len+new.length<=cp->cp<=maxLen->bJ m2 (.one (.p (.sl ((es.drop off).take len++new)))) (.slice (some ⟨c0,o0,none⟩) (len+new.length) cp):=by
      intro m2 c0 o0 cp cells dA dm dM hce fg h1 h2;refine kO ?_;rw[<- Bb];refine .sl c0 o0 cp bN (fun j=>cells.getD j undef) (fun _=>dm) (by rw[Bb];exact h1) h2 Kd (fun j x hj=>?_) (fun j x hj=>?_)
      .have mI:j<cells.length:=by rw[dM,<- aaO];exact(aY.1 hj).1
       rw[cU,nU mI];exact hce j _ (nU mI)
      have mI:j<cells.length:=by rw[dM,<- aaO];exact(aY.1 hj).1
      rw[cU,nU mI];exact(fg.2 j x _ hj (nU mI)).ev dA.zero
     by_cases hfit:len+new.length<=cap
     · -- in its own block
      have yV:off*bN+len*i.size+news.length<=cur.size:=by rw[iV,hs,cX,<- fA,<- fA];exact kD _ (by have f3':off+cap=m.κ id:=f3;show _<=m.κ id;omega)
      have iW:=apn (P:=P) m.w t o.type je i ht hi (m.σ id) (off*bN) len cap cur hh ⟨b,bo,none⟩ new.length cx news iV (fun j v hj=>by rw[Addr.add_lit];exact vW j v hj) (ad2 ji) hfit yV;generalize hW:m.w.setRow (m.σ id) (cur.toList.take (off*bN+len*i.size)++news++cur.toList.drop (off*bN+len*i.size+news.length)).toArray=W at iW;have hWh:W.heap[m.σ id]?=some (.cells (cur.toList.take (off*bN+len*i.size)++news++cur.toList.drop (off*bN+len*i.size+news.length)).toArray je (0,0)):=by rw[<- hW];exact LH hh
      have k1:W.os=m.w.os:=by rw[<- hW];rfl
      have k2:W.tape=m.w.tape:=by rw[<- hW];rfl
      have k3:W.output=m.w.output:=by rw[<- hW];rfl
      have k4:W.heap.size=m.w.heap.size:=by rw[<- hW];exact setRow_size m.w _ _
      have k5:∀x,x≠m.σ id->W.heap[x]?=m.w.heap[x]? :=fun x hx=>by rw[<- hW];exact setRow_other m.w (m.σ id) x _ hx
      have TV:Ok w0 {(m.with fu).fX id with w:=W}:=aer (m:=(m.with fu).fX id) Tz (.inr rfl) eU k1 k2 k3 k4 k5;have akC:Ev (m.with fu) {(m.with fu).fX id with w:=W}:=Yi aZ rfl k1 k2 k3 k4 k5;have NB:=Uv (xE:=m.fr) TV (fun c hc=>.inl hc);have Ku:Ev (m.with fu) ({({(m.with fu).fX id with w:=W}:Mem) with fr:=m.fr}:Mem):=akC.trans (NX fun c hc=>.inl hc);refine⟨_,({({(m.with fu).fX id with w:=W}:Mem) with fr:=m.fr}:Mem),.inl (run _ _ (by rw[xR,vf];exact iW)),NB,tS.trans Ku,rfl,by rw[ue];rfl,?_⟩;refine val _ (m.σ id) (off*bN) cap ((cur.toList.drop (off*bN)).take (len*bN)++news) Ku ?_ (by rw[fH,yf,iV,hs,fA]) ?_ T0 hfit CF
      .rintro (h|h)
       .exact hnf h
       exact TN h
      intro j v hj;have dM:({({(m.with fu).fX id with w:=W}:Mem) with fr:=m.fr}:Mem).w.cell? ⟨m.σ id,off*bN+j,none⟩=(cur.toList.take (off*bN+len*i.size)++news++cur.toList.drop (off*bN+len*i.size+news.length)).toArray[off*bN+j]? :=B4 hWh;rw[dM];have mI:=(aY.1 hj).1;rw[fH,yf] at mI;have Ho:(cur.toList.take (off*bN+len*i.size)).length=off*bN+len*i.size:=by rw[iF,L3];omega
      rw[List.getElem?_toArray,wY];by_cases Et:j<len*i.size
      .rw[uz (by rw[Ho];omega),jY,aE aa];rw[uz (by rw[yf];exact Et),jY,aE (by rw[<- hs];exact Et),wZ] at hj;exact hj
      rw[vz (by rw[Ho];omega),Ho,uz aa];rw[vz (by rw[yf];omega),yf] at hj;rw[show off*bN+j-(off*bN+len*i.size)=j-len*i.size by omega];exact hj
     · -- a new block
      have hnlb:len+new.length<=(len+new.length)*bytes:=Mg _ Ej;have iW:=run_append_grow (P:=P) m.w t o.type je i zv ht hi u6 ⟨m.σ id,off*bN,none⟩ len cap ((cur.toList.drop (off*bN)).take (len*bN)) yf (fun j v hj=>by
        rw[Addr.add_lit];have:(m.w.cell? ⟨m.σ id,off*bN+j,none⟩)=cur[off*bN+j]? :=B4 hh;rw[this];rw[jY] at hj;split at hj
        .rw[wZ] at hj
         simpa using hj
        cases hj) ⟨b,bo,none⟩ new.length cx news iV (fun j v hj=>by rw[Addr.add_lit];exact vW j v hj) aa aa (growslice_fits aa (by rw[hb];omega))
      have Bd:len+new.length<=maxLen:=by simp only[maxLen];omega
      have GU:=grownCap_ge m.w (len+new.length) cap je;have GV:=grownCap_le_maxLen m.w (len+new.length) cap je Bd;generalize qA:grownCap m.w (len+new.length) cap je=cc at iW GU GV;generalize hW:m.w.drew.alloc (.cells (((cur.toList.drop (off*bN)).take (len*bN)).toArray++news.toArray++Builtin.zeroCells zv.cells (cc-(len+new.length))) je)=W at iW;have KK:=Uv (xE:=m.fr) Tz (fun c hc=>.inl hc);have TB:Ev (m.with fu) {(m.with fu).fX id with fr:=m.fr}:=akx.trans (NX (fun c hc=>.inl hc));have A7:eZ ({(m.with fu).fX id with fr:=m.fr}:Mem).w W:=by rw[<- hW];exact(eZ.drew _).trans (eZ.alloc _ _)
      have NB:=K9 (X:=fun _=>False) KK A7 (fun c hc=>hc.elim);have Ku:=TB.trans (HD (X:=fun _=>False) A7 (fun c hc=>hc.elim));have KI:W.heap[m.w.heap.size]?=some (.cells (((cur.toList.drop (off*bN)).take (len*bN)).toArray++news.toArray++Builtin.zeroCells zv.cells (cc-(len+new.length))) je (0,0)):=by rw[<- hW];exact heap_alloc_new m.w.drew _
      refine⟨_,({(m.with fu).fX id with fr:=m.fr}:Mem).later W (fun _=>False),.inl (run _ _ (by rw[xR,vf];exact iW)),NB,tS.trans Ku,?_,by rw[ue];rfl,?_⟩
      .funext x;simp only[Mem.later];exact propext ⟨fun h=>h.elim (fun h=>h) (fun h=>h.elim),.inl⟩
      refine val _ m.w.heap.size 0 cc ((cur.toList.drop (off*bN)).take (len*bN)++news) Ku ?_ (by rw[fH,yf,iV,hs,fA]) ?_ T0 GU GV
      .have akZ:¬(m.with fu).own m.w.heap.size:=by
        rintro (h|⟨j,o',h1,h2,h3⟩)
        .exact Nat.lt_irrefl _ (mg.frlt _ h)
        have:=(mg.obj j o' h1).lt;rw[h3] at this;exact Nat.lt_irrefl _ this
       rintro ((h|h)|⟨j,o',h1,h2,h3⟩)
       .exact akZ (.inl h)
       .exact h
       have:=(NB.obj j o' h1).lt;have h4:=(KK.obj j o' h1).lt;have qV:m.σ j=m.w.heap.size:=h3;have vR:m.σ j<m.w.heap.size:=h4;omega
      intro j v hj;have dM:W.cell? ⟨m.w.heap.size,0+j,none⟩=_:=B4 KI;show W.cell? ⟨m.w.heap.size,0+j,none⟩=some v;rw[dM,jt];have mI:=(aY.1 hj).1;rw[<- Fx,Pp,Pp,uz (by simpa using mI)];exact hj
   cases hv
  cases hv
 cases hv
end
end Go.Abs
