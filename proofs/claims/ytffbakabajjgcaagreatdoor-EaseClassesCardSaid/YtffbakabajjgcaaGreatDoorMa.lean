/-
  An abstract machine for the code of the model.
-/
import Derived.KernelRfl
import Derived.Calls
import Derived.WalkKit
set_option linter.all false
namespace Go.Abs
theorem aa{p:Prop}(h:p:=by omega):p:=h
theorem ae{p:Prop}(h:p:=by decide):p:=h
theorem af{p:Prop}(h:p:=by simp):p:=h
theorem ah{p:Prop}(h:p:=by kernel_rfl):p:=h
theorem ay:type_of% @if_neg.{1}:=@if_neg.{1}
theorem aD:type_of% @if_pos.{1}:=@if_pos.{1}
theorem aW:type_of% @List.mem_of_getElem?.{0}:=@List.mem_of_getElem?.{0}
theorem bg:type_of% @List.getElem?_eq_some_iff.{0}:=@List.getElem?_eq_some_iff.{0}
theorem bj:type_of% @Nat.zero_le:=@Nat.zero_le
theorem bJ:type_of% @Nat.le_refl:=@Nat.le_refl
theorem cH:type_of% @List.length_map.{0,0}:=@List.length_map.{0,0}
theorem cI:type_of% @List.mem_cons.{0}:=@List.mem_cons.{0}
theorem cN:type_of% @Bool.and_eq_true:=@Bool.and_eq_true
theorem cS:type_of% @List.length_cons.{0}:=@List.length_cons.{0}
theorem cY:type_of% @List.getD_eq_getElem?_getD.{0}:=@List.getD_eq_getElem?_getD.{0}
theorem dx:type_of% @Option.map_eq_some_iff.{0,0}:=@Option.map_eq_some_iff.{0,0}
theorem dD:type_of% @List.take_of_length_le.{0}:=@List.take_of_length_le.{0}
theorem dI:type_of% @List.mem_map.{0,0}:=@List.mem_map.{0,0}
theorem dL:type_of% @beq_iff_eq.{0}:=@beq_iff_eq.{0}
theorem dQ:type_of% @Bool.false_eq_true:=@Bool.false_eq_true
theorem dZ:type_of% @List.mem_append.{0}:=@List.mem_append.{0}
theorem ez:type_of% @Nat.mod_lt:=@Nat.mod_lt
theorem eE:type_of% @List.length_nil.{0}:=@List.length_nil.{0}
theorem eG:type_of% @List.length_append.{0}:=@List.length_append.{0}
theorem fg:type_of% @List.mem_range:=@List.mem_range
theorem fy:type_of% @List.map_cons.{0,0}:=@List.map_cons.{0,0}
theorem fA:type_of% @of_decide_eq_false:=@of_decide_eq_false
theorem fL:type_of% @Option.some.injEq.{0}:=@Option.some.injEq.{0}
theorem fT:type_of% @List.getElem?_map.{0,0}:=@List.getElem?_map.{0,0}
theorem fY:type_of% @Nat.add_mul:=@Nat.add_mul
theorem gT:type_of% @List.length_take.{0}:=@List.length_take.{0}
theorem ir:type_of% @List.all_eq_true.{0}:=@List.all_eq_true.{0}
theorem iu:type_of% @List.take_add_one.{0}:=@List.take_add_one.{0}
theorem iv:type_of% @Nat.le_of_ble_eq_true:=@Nat.le_of_ble_eq_true
theorem iM:type_of% @List.not_mem_nil.{0}:=@List.not_mem_nil.{0}
theorem jd:type_of% @List.getElem?_of_mem.{0}:=@List.getElem?_of_mem.{0}
theorem jl:type_of% @List.length_pos_iff.{0}:=@List.length_pos_iff.{0}
theorem jm:type_of% @Nat.zero_add:=@Nat.zero_add
theorem jN:type_of% @Nat.mod_eq_of_lt:=@Nat.mod_eq_of_lt
theorem kn:type_of% @Prod.mk.injEq.{0,0}:=@Prod.mk.injEq.{0,0}
theorem kE:type_of% @List.take_length.{0}:=@List.take_length.{0}
theorem kU:type_of% @Option.map_some.{0,0}:=@Option.map_some.{0,0}
theorem kV:type_of% @decide_eq_true_eq:=@decide_eq_true_eq
theorem lH:type_of% @List.flatten_cons.{0}:=@List.flatten_cons.{0}
theorem lI:type_of% @List.getElem?_take.{0}:=@List.getElem?_take.{0}
theorem lJ:type_of% @List.length_reverse.{0}:=@List.length_reverse.{0}
theorem lK:type_of% @List.mem_singleton.{0}:=@List.mem_singleton.{0}
theorem lL:type_of% @Nat.lt_succ_iff_lt_or_eq:=@Nat.lt_succ_iff_lt_or_eq
theorem lX:type_of% @List.length_drop.{0}:=@List.length_drop.{0}
theorem lY:type_of% @Nat.mul_le_mul_right:=@Nat.mul_le_mul_right
theorem lZ:type_of% @Option.getD_some.{0}:=@Option.getD_some.{0}
theorem l7:type_of% @of_decide_eq_true:=@of_decide_eq_true
theorem mC:type_of% @List.getElem?_set.{0}:=@List.getElem?_set.{0}
theorem mD:type_of% @Nat.le_trans:=@Nat.le_trans
theorem mR:type_of% @List.append_nil.{0}:=@List.append_nil.{0}
theorem mS:type_of% @List.getElem?_eq_none.{0}:=@List.getElem?_eq_none.{0}
theorem mT:type_of% @Nat.not_lt_zero:=@Nat.not_lt_zero
theorem nH:type_of% @List.nil_append.{0}:=@List.nil_append.{0}
theorem nI:type_of% @List.nodup_cons.{0}:=@List.nodup_cons.{0}
theorem oG:type_of% @List.all_cons.{0}:=@List.all_cons.{0}
theorem oI:type_of% @List.cons_append.{0}:=@List.cons_append.{0}
theorem oJ:type_of% @List.getElem?_eq_getElem.{0}:=@List.getElem?_eq_getElem.{0}
theorem pV:type_of% @List.map_nil.{0,0}:=@List.map_nil.{0,0}
theorem rO:type_of% @List.getElem?_range:=@List.getElem?_range
theorem rQ:type_of% @List.map_append.{0,0}:=@List.map_append.{0,0}
theorem sM:type_of% @Bool.not_eq_true':=@Bool.not_eq_true'
theorem sN:type_of% @Bool.or_eq_true:=@Bool.or_eq_true
theorem sP:type_of% @List.all_nil.{0}:=@List.all_nil.{0}
theorem sQ:type_of% @List.take_append_drop.{0}:=@List.take_append_drop.{0}
theorem sR:type_of% @Option.some.inj.{0}:=@Option.some.inj.{0}
theorem tE:type_of% @List.length_set.{0}:=@List.length_set.{0}
theorem tF:type_of% @beq_eq_false_iff_ne.{0}:=@beq_eq_false_iff_ne.{0}
theorem uu:type_of% @Int.eq_ofNat_of_zero_le:=@Int.eq_ofNat_of_zero_le
theorem uv:type_of% @List.append_assoc.{0}:=@List.append_assoc.{0}
theorem uY:type_of% @List.foldl_cons.{0,0}:=@List.foldl_cons.{0,0}
theorem uZ:type_of% @List.range_succ:=@List.range_succ
theorem vR:type_of% @List.getElem?_append_left.{0}:=@List.getElem?_append_left.{0}
theorem vS:type_of% @List.mem_filter.{0}:=@List.mem_filter.{0}
theorem vT:type_of% @List.mem_of_mem_drop.{0}:=@List.mem_of_mem_drop.{0}
theorem vU:type_of% @List.nodup_nil.{0}:=@List.nodup_nil.{0}
theorem vV:type_of% @Nat.eq_of_beq_eq_true:=@Nat.eq_of_beq_eq_true
theorem vW:type_of% @decide_eq_false:=@decide_eq_false
theorem xv:type_of% @Bool.and_true:=@Bool.and_true
theorem xx:type_of% @Bool.true_and:=@Bool.true_and
theorem xy:type_of% @List.ext_getElem.{0}:=@List.ext_getElem.{0}
theorem xz:type_of% @List.mem_of_mem_take.{0}:=@List.mem_of_mem_take.{0}
theorem xA:type_of% @Nat.add_zero:=@Nat.add_zero
theorem yI:type_of% @List.countP_cons.{0}:=@List.countP_cons.{0}
theorem yJ:type_of% @List.countP_pos_iff.{0}:=@List.countP_pos_iff.{0}
theorem yK:type_of% @List.getElem?_append_right.{0}:=@List.getElem?_append_right.{0}
theorem yL:type_of% @List.map_map.{0,0,0}:=@List.map_map.{0,0,0}
theorem yM:type_of% @List.map_set.{0,0}:=@List.map_set.{0,0}
theorem yN:type_of% @List.mem_cons_of_mem.{0}:=@List.mem_cons_of_mem.{0}
theorem yO:type_of% @Nat.min_eq_left:=@Nat.min_eq_left
theorem Ar:type_of% @Bool.and_self:=@Bool.and_self
theorem As:type_of% @List.cons.injEq.{0}:=@List.cons.injEq.{0}
theorem Au:type_of% @List.ext_getElem?.{0}:=@List.ext_getElem?.{0}
theorem Av:type_of% @List.foldl_append.{0,0}:=@List.foldl_append.{0,0}
theorem Aw:type_of% @List.getElem?_drop.{0}:=@List.getElem?_drop.{0}
theorem Ax:type_of% @Nat.mod_two_eq_zero_or_one:=@Nat.mod_two_eq_zero_or_one
theorem Ay:type_of% @Nat.zero_mul:=@Nat.zero_mul
theorem Az:type_of% @not_or:=@not_or
theorem BB:type_of% @Bool.eq_iff_iff:=@Bool.eq_iff_iff
theorem BC:type_of% @List.pairwise_map.{0,0}:=@List.pairwise_map.{0,0}
theorem BD:type_of% @beq_self_eq_true.{0}:=@beq_self_eq_true.{0}
theorem Dz:type_of% @Array.getD_eq_getD_getElem?.{0}:=@Array.getD_eq_getD_getElem?.{0}
theorem DA:type_of% @Bool.false_or:=@Bool.false_or
theorem DB:type_of% @Bool.not_true:=@Bool.not_true
theorem DC:type_of% @List.flatMap_cons.{0,0}:=@List.flatMap_cons.{0,0}
theorem DD:type_of% @List.flatten_append.{0}:=@List.flatten_append.{0}
theorem DE:type_of% @List.getElem_cons_drop.{0}:=@List.getElem_cons_drop.{0}
theorem DF:type_of% @List.getElem_map.{0,0}:=@List.getElem_map.{0,0}
theorem DG:type_of% @List.length_eq_zero_iff.{0}:=@List.length_eq_zero_iff.{0}
theorem DH:type_of% @List.nodup_append.{0}:=@List.nodup_append.{0}
theorem DI:type_of% @Nat.add_mod_right:=@Nat.add_mod_right
theorem DJ:type_of% @Nat.lt_of_lt_of_le:=@Nat.lt_of_lt_of_le
theorem DK:type_of% @decide_eq_true:=@decide_eq_true
theorem FN:type_of% @Int.toNat_natCast:=@Int.toNat_natCast
theorem FO:type_of% @List.any_eq_true.{0}:=@List.any_eq_true.{0}
theorem FP:type_of% @List.contains_iff_mem.{0}:=@List.contains_iff_mem.{0}
theorem FQ:type_of% @List.countP_append.{0}:=@List.countP_append.{0}
theorem FR:type_of% @List.mem_append_left.{0}:=@List.mem_append_left.{0}
theorem FT:type_of% @List.pairwise_cons.{0}:=@List.pairwise_cons.{0}
theorem FU:type_of% @Nat.le_of_eq:=@Nat.le_of_eq
theorem HN:type_of% @Array.getElem?_toList.{0}:=@Array.getElem?_toList.{0}
theorem HO:type_of% @List.any_eq_false.{0}:=@List.any_eq_false.{0}
theorem HP:type_of% @List.cons.inj.{0}:=@List.cons.inj.{0}
theorem HQ:type_of% @List.mem_filterMap.{0,0}:=@List.mem_filterMap.{0,0}
theorem HR:type_of% @List.mem_flatten.{0}:=@List.mem_flatten.{0}
theorem HS:type_of% @List.nodup_range:=@List.nodup_range
theorem HT:type_of% @List.take_take.{0}:=@List.take_take.{0}
theorem HU:type_of% @Nat.add_assoc:=@Nat.add_assoc
theorem HV:type_of% @Nat.le_max_left:=@Nat.le_max_left
theorem HW:type_of% @Nat.sub_self:=@Nat.sub_self
theorem KJ:type_of% @List.countP_map.{0,0}:=@List.countP_map.{0,0}
theorem KK:type_of% @List.getElem_range:=@List.getElem_range
theorem KL:type_of% @List.getElem_set.{0}:=@List.getElem_set.{0}
theorem KM:type_of% @List.length_pos_of_mem.{0}:=@List.length_pos_of_mem.{0}
theorem KN:type_of% @List.length_range:=@List.length_range
theorem KO:type_of% @List.map_congr_left.{0,0}:=@List.map_congr_left.{0,0}
theorem KP:type_of% @List.map_drop.{0,0}:=@List.map_drop.{0,0}
theorem KQ:type_of% @List.map_take.{0,0}:=@List.map_take.{0,0}
theorem KR:type_of% @List.mem_cons_self.{0}:=@List.mem_cons_self.{0}
theorem KS:type_of% @List.mem_of_find?_eq_some.{0}:=@List.mem_of_find?_eq_some.{0}
theorem KT:type_of% @List.pairwise_iff_getElem.{0}:=@List.pairwise_iff_getElem.{0}
theorem KU:type_of% @List.take_left.{0}:=@List.take_left.{0}
theorem KV:type_of% @List.take_succ_cons.{0}:=@List.take_succ_cons.{0}
theorem KW:type_of% @Nat.le_max_right:=@Nat.le_max_right
theorem KX:type_of% @Nat.mod_self:=@Nat.mod_self
theorem KY:type_of% @Nat.one_mul:=@Nat.one_mul
theorem N8:type_of% @Array.length_toList.{0}:=@Array.length_toList.{0}
theorem N9:type_of% @Array.toList_append.{0}:=@Array.toList_append.{0}
theorem Oa:type_of% @Bool.false_and:=@Bool.false_and
theorem Oc:type_of% @Bool.not_not:=@Bool.not_not
theorem Od:type_of% @Bool.or_eq_false_iff:=@Bool.or_eq_false_iff
theorem Oe:type_of% @List.countP_eq_zero.{0}:=@List.countP_eq_zero.{0}
theorem Of:type_of% @List.find?_eq_none.{0}:=@List.find?_eq_none.{0}
theorem Og:type_of% @List.flatten_nil.{0}:=@List.flatten_nil.{0}
theorem Oh:type_of% @List.foldl_nil.{0,0}:=@List.foldl_nil.{0,0}
theorem Oi:type_of% @List.getElem?_reverse.{0}:=@List.getElem?_reverse.{0}
theorem Oj:type_of% @List.idxOf_lt_length_iff.{0}:=@List.idxOf_lt_length_iff.{0}
theorem Ol:type_of% @List.mem_append_right.{0}:=@List.mem_append_right.{0}
theorem Om:type_of% @List.mem_flatMap.{0,0}:=@List.mem_flatMap.{0,0}
theorem On:type_of% @List.take_append.{0}:=@List.take_append.{0}
theorem Oo:type_of% @Nat.le_mul_of_pos_right:=@Nat.le_mul_of_pos_right
theorem Oq:type_of% @Nat.lt_or_ge:=@Nat.lt_or_ge
theorem Ot:type_of% @Nat.lt_trichotomy:=@Nat.lt_trichotomy
theorem Ou:type_of% @Option.map_none.{0,0}:=@Option.map_none.{0,0}
theorem Ru:type_of% @Array.getElem?_eq_some_iff.{0}:=@Array.getElem?_eq_some_iff.{0}
theorem Rv:type_of% @Array.getElem?_push.{0}:=@Array.getElem?_push.{0}
theorem Rw:type_of% @Array.getElem?_setIfInBounds.{0}:=@Array.getElem?_setIfInBounds.{0}
theorem Rx:type_of% @Bool.not_false:=@Bool.not_false
theorem Ry:type_of% @Bool.or_false:=@Bool.or_false
theorem Rz:type_of% @List.any_cons.{0}:=@List.any_cons.{0}
theorem RO:type_of% @List.countP_congr.{0}:=@List.countP_congr.{0}
theorem RP:type_of% @List.drop_length.{0}:=@List.drop_length.{0}
theorem RQ:type_of% @List.drop_of_length_le.{0}:=@List.drop_of_length_le.{0}
theorem RR:type_of% @List.eq_of_mem_replicate.{0}:=@List.eq_of_mem_replicate.{0}
theorem RW:type_of% @List.find?_cons.{0}:=@List.find?_cons.{0}
theorem RX:type_of% @List.find?_some.{0}:=@List.find?_some.{0}
theorem RY:type_of% @List.length_erase_of_mem.{0}:=@List.length_erase_of_mem.{0}
theorem RZ:type_of% @List.mem_erase_of_ne.{0}:=@List.mem_erase_of_ne.{0}
theorem R0:type_of% @List.mem_or_eq_of_mem_set.{0}:=@List.mem_or_eq_of_mem_set.{0}
theorem R5:type_of% @List.pairwise_append.{0}:=@List.pairwise_append.{0}
theorem R6:type_of% @List.size_toArray.{0}:=@List.size_toArray.{0}
theorem R7:type_of% @List.sum_cons.{0}:=@List.sum_cons.{0}
theorem R8:type_of% @List.take_append_of_le_length.{0}:=@List.take_append_of_le_length.{0}
theorem R9:type_of% @Nat.ble_eq_true_of_le:=@Nat.ble_eq_true_of_le
theorem Sa:type_of% @Nat.mul_comm:=@Nat.mul_comm
theorem Sb:type_of% @Nat.one_ne_zero:=@Nat.one_ne_zero
theorem Sc:type_of% @Option.bind_eq_some_iff.{0,0}:=@Option.bind_eq_some_iff.{0,0}
theorem WC:type_of% @Bool.and_assoc:=@Bool.and_assoc
theorem WD:type_of% @List.Pairwise.imp_of_mem.{0}:=@List.Pairwise.imp_of_mem.{0}
theorem WE:type_of% @List.all_eq_false.{0}:=@List.all_eq_false.{0}
theorem WG:type_of% @List.any_nil.{0}:=@List.any_nil.{0}
theorem WH:type_of% @List.contains_eq_mem.{0}:=@List.contains_eq_mem.{0}
theorem WI:type_of% @List.countP_eq_length_filter.{0}:=@List.countP_eq_length_filter.{0}
theorem WJ:type_of% @List.countP_le_length.{0}:=@List.countP_le_length.{0}
theorem WK:type_of% @List.drop_drop.{0}:=@List.drop_drop.{0}
theorem WL:type_of% @List.drop_eq_getElem_cons.{0}:=@List.drop_eq_getElem_cons.{0}
theorem WM:type_of% @List.drop_left.{0}:=@List.drop_left.{0}
theorem WQ:type_of% @List.getElem_idxOf.{0}:=@List.getElem_idxOf.{0}
theorem WR:type_of% @List.getElem_mem.{0}:=@List.getElem_mem.{0}
theorem WS:type_of% @List.idxOf_cons.{0}:=@List.idxOf_cons.{0}
theorem WT:type_of% @List.length_replicate.{0}:=@List.length_replicate.{0}
theorem WU:type_of% @List.map_eq_nil_iff.{0,0}:=@List.map_eq_nil_iff.{0,0}
theorem WV:type_of% @List.set_append_right.{0}:=@List.set_append_right.{0}
theorem WW:type_of% @List.take_zero.{0}:=@List.take_zero.{0}
theorem WX:type_of% @Nat.add_comm:=@Nat.add_comm
theorem WY:type_of% @Nat.beq_refl:=@Nat.beq_refl
theorem afW:type_of% @Array.foldl_toList.{0,0}:=@Array.foldl_toList.{0,0}
theorem afX:type_of% @Array.getElem?_append.{0}:=@Array.getElem?_append.{0}
theorem afY:type_of% @Array.size_append.{0}:=@Array.size_append.{0}
theorem afZ:type_of% @Int.tdiv_eq_ediv_of_nonneg:=@Int.tdiv_eq_ediv_of_nonneg
theorem af0:type_of% @List.Pairwise.imp.{0}:=@List.Pairwise.imp.{0}
theorem af1:type_of% @List.countP_singleton.{0}:=@List.countP_singleton.{0}
theorem af2:type_of% @List.drop_append.{0}:=@List.drop_append.{0}
theorem af3:type_of% @List.drop_append_of_le_length.{0}:=@List.drop_append_of_le_length.{0}
theorem af4:type_of% @List.find?_append.{0}:=@List.find?_append.{0}
theorem af5:type_of% @List.findIdx_getElem.{0}:=@List.findIdx_getElem.{0}
theorem af6:type_of% @List.idxOf_append.{0}:=@List.idxOf_append.{0}
theorem af7:type_of% @List.mem_reverse.{0}:=@List.mem_reverse.{0}
theorem af8:type_of% @List.ne_nil_of_mem.{0}:=@List.ne_nil_of_mem.{0}
theorem af9:type_of% @List.pairwise_flatMap.{0,0}:=@List.pairwise_flatMap.{0,0}
theorem aga:type_of% @List.range_eq_range':=@List.range_eq_range'
theorem agb:type_of% @List.set_eq_of_length_le.{0}:=@List.set_eq_of_length_le.{0}
theorem agc:type_of% @List.take_succ_eq_append_getElem.{0}:=@List.take_succ_eq_append_getElem.{0}
theorem agd:type_of% @List.toList_toArray.{0}:=@List.toList_toArray.{0}
theorem age:type_of% @Nat.div_add_mod:=@Nat.div_add_mod
theorem agf:type_of% @Nat.le_antisymm:=@Nat.le_antisymm
theorem agh:type_of% @Nat.le_of_not_lt:=@Nat.le_of_not_lt
theorem agi:type_of% @Nat.lt_or_gt_of_ne:=@Nat.lt_or_gt_of_ne
theorem atO:type_of% @List.eq_nil_iff_forall_not_mem.{0}:=@List.eq_nil_iff_forall_not_mem.{0}
theorem atP:type_of% @List.eq_nil_of_length_eq_zero.{0}:=@List.eq_nil_of_length_eq_zero.{0}
theorem atQ:type_of% @List.findIdx_lt_length_of_exists.{0}:=@List.findIdx_lt_length_of_exists.{0}
inductive PV where
 |bool (b:Bool)
 |int (k:IntKind) (n:Int)
 |str (s:ByteArray)
 |uR|nils|rD|yz|nili|ifc|zs
 |box (cs:List PV)
 |sl (es:List (List PV))
 |mp (ag:Bool) (es:List (PV×List PV))
 |fn (f:Nat) (first cap:List PV)
 deriving Inhabited
inductive C where
 |p (v:PV)
 |aX (id g off:Nat)
 |de (id g i off:Nat)
 |hsl (id g sz off len:Nat)
 |jW (id g:Nat)
 |hfn (f:Nat) (first cap:List C)
 deriving Inhabited
inductive V where
 |undef
 |one (c:C)
 |agg (cs:List C)
 |tup (vs:List V)
 deriving Inhabited
inductive Ob where
 |var (cs:List C)
 |arr (ty sz:Nat) (es:List (List PV))
 |gU (ty sz:Nat) (es:List (List C))
 |map (ag:Bool) (es:List (PV×List PV))
 |fvar (cs:List PV)
 |oY (ty sz:Nat) (es:List (List PV))
 |fmap (ag:Bool) (es:List (PV×List PV))
 deriving Inhabited
abbrev Env:=Nat->V
abbrev aw:=Nat->Nat×Option Ob
def dj{α:Type}(f:Nat->α)(a:Nat)(x:α):Nat->α:=fun i=>if i=a then x else f i
theorem aN{α:Type}(f:Nat->α)(a b:Nat)(x:α):dj f a x b=if b=a then x else f b:=rfl
inductive aQ where
 |t (n:Nat)
 |i (n:Int)
 |b (x:Bool)
 |k (v:V)
inductive u4 where
 |bool|ptr|slc|map|fnc|ifc
 |str (ks:List Bool)
inductive mU where
 |iY (x:aQ)
 |pick (c a b:aQ)
 |alloc (site:Nat) (z:List PV)
 |box (site:Nat) (x:aQ)
 |build (z:List PV) (parts:List (Nat×Nat×aQ))
 |DS (site ty sz:Nat) (parts:List aQ)
 |load (k:Option Nat) (x:aQ)
 |store (n:Nat) (a x:aQ)
 |JS (x:aQ)
 |bin (op:BinOp) (x y:aQ)
 |eqc (k:u4) (neg:Bool) (x y:aQ)
 |un (op:UnOp) (x:aQ)
 |conv (k:IntKind) (x:aQ)
 |bstr (x:aQ)
 |mkfn (f:Nat) (first cap:List aQ)
 |mkmap (site:Nat) (ag:Bool)
 |JM (site ty sz bytes:Nat) (z:List PV) (len cap:aQ)
 |slice (sz:Nat) (x:aQ) (lo hi:Option aQ)
 |sslice (x:aQ) (lo hi:Option aQ)
 |ng (off:Nat) (x:aQ)
 |GZ (sz:Nat) (x i:aQ)
 |Ic (len sz:Nat) (x i:aQ)
 |fld (off:Nat) (k:Option Nat) (x:aQ)
 |aidx (len sz:Nat) (k:Option Nat) (x i:aQ)
 |sidx (x i:aQ)
 |lookup (kd:Nat) (z:List PV) (agg ok:Bool) (x k:aQ)
 |mupd (kd:Nat) (ag:Bool) (m k v:aQ)
 |bad
 |extract (x:aQ) (i:Nat)
 |call (site:Nat) (f:aQ) (args:List aQ)
 |slen (x:aQ)
 |JJ (x:aQ)
 |mlen (x:aQ)
 |append (site ty sz bytes:Nat) (s x:aQ)
 |max (x y:aQ)
 |min (x y:aQ)
 |clear (z:List PV) (x:aQ)
structure bI where
 dst:Option Nat
 op:mU
 guard:Option (Nat×Bool)
 anc:Nat
inductive aH where
 |skip
 |region (draw:Bool) (ops:List bI)
 |seq (a b:aH)
 |cond (x:aQ) (a b:aH)
 |block (id:Nat) (c:aH)
 |loop (c:aH)
 |exit (id:Nat)
 |ret
 |bad
structure aS where
 ntmps:Nat
 results:List (Nat×Option (Option Nat))
 body:aH
def ev (ak:Env):aQ->V
 | .t n=>ak n
 | .i n=>.one (.p (.int .i64 n))
 | .b x=>.one (.p (.bool x))
 | .k v=>v
abbrev eX:=Nat×(Nat×Option Ob)
def app:List eX->aw->aw
 |[],b=>b
 |(i,o)::r,b=>app r (dj b i o)
def PV.norm:PV->PV
 | .nils=>.sl []
 | .zs=>.sl []
 |v=>v
def toP:C->Option PV
 | .p v=>some v.norm
 |_=>none
def Bx:List C->Option (List PV)
 |[]=>some []
 |c::r=>match toP c,Bx r with
  |some v,some vs=>some (v::vs)
  |_,_=>none
def rU:V->Option (List C)
 | .one c=>some [c]
 | .agg cs=>some cs
 |_=>none
def collect{α β:Type}(f:α->Option (β×List Nat)):List α->Option (List β×List Nat)
 |[]=>some ([],[])
 |a::r=>match f a,collect f r with
  |some (b,x),some (bs,y)=>some (b::bs,x++y)
  |_,_=>none
def snap(aj:aw):Nat->C->Option (PV×List Nat)
 |0,_=>none
 |n+1,c=>match c with
  | .p v=>some (v.norm,[])
  | .aX id g off=>match aj id with
   |(g',some (.var cs))=>if g'=g then
     match collect (snap aj n) cs with
     |some (ps,r)=>some (.box (ps.drop off),id::r)
     |none=>none
    else none
   |(g',some (.fvar ps))=>if g'=g then some (.box (ps.drop off),[id]) else none
   |_=>none
  | .de id g i off=>match aj id with
   |(g',some (.arr _ _ es))=>if g'=g then (es[i]?).map fun e=>(.box (e.drop off),[id]) else none
   |(g',some (.oY _ _ es))=>if g'=g then (es[i]?).map fun e=>(.box (e.drop off),[id]) else none
   |_=>none
  | .hsl id g z off len=>match aj id with
   |(g',some (.arr _ _ es))=>if g'=g/\off+len<=es.length then some (.sl ((es.drop off).take len),[id]) else none
   |(g',some (.oY _ _ es))=>if g'=g/\off+len<=es.length then some (.sl ((es.drop off).take len),[id]) else none
   |(g',some (.gU _ _ es))=>if g'=g/\off+len<=es.length then
     match collect (collect (snap aj n)) ((es.drop off).take len) with
     |some (ps,r)=>some (.sl ps,id::r)
     |none=>none
    else none
   |_=>none
  | .jW id g=>match aj id with
   |(g',some (.map ag es))=>if g'=g then some (.mp ag es,[id]) else none
   |(g',some (.fmap ag es))=>if g'=g then some (.mp ag es,[id]) else none
   |_=>none
  | .hfn f a b=>match collect (snap aj n) a,collect (snap aj n) b with
   |some (x,r),some (y,s)=>some (.fn f x y,r++s)
   |_,_=>none
def ik:Nat:=6
def nG(aj:aw):V->Option (V×List Nat)
 | .one c=>(snap aj ik c).map fun(v,r)=>(.one (.p v),r)
 | .agg cs=>(collect (snap aj ik) cs).map fun(vs,r)=>(.agg (vs.map .p),r)
 |_=>none
def xN(aj:aw)(all:List Nat)(id:Nat):Option (List eX):=
 match aj id with
 |(g,some (.var cs))=>match collect (snap aj ik) cs with
  |some (ps,r)=>if r.all all.contains then some [(id,(g,some (.fvar ps)))] else none
  |none=>none
 |(g,some (.arr ty sz es))=>some [(id,(g,some (.oY ty sz es)))]
 |(g,some (.gU ty sz es))=>match collect (collect (snap aj ik)) es with
  |some (ps,r)=>if r.all all.contains then some [(id,(g,some (.oY ty sz ps)))] else none
  |none=>none
 |(g,some (.map ag es))=>some [(id,(g,some (.fmap ag es)))]
 |(_,none)=>none
 |_=>some []
def uD(aj:aw)(all:List Nat):List Nat->Option (List eX)
 |[]=>some []
 |i::r=>match xN aj all i,uD aj all r with
  |some a,some b=>some (a++b)
  |_,_=>none
def s0(aj:aw)(ids:List Nat):Option (List eX):=uD aj ids ids
inductive RC where
 |p (v:PV)
 |own (ty sz:Nat) (es:List (List PV))
 deriving Inhabited
inductive RV where
 |one (c:RC)
 |agg (cs:List RC)
 |tup (vs:List RV)
 deriving Inhabited
def RC.pure:RC->RC
 | .p v=>.p v
 | .own _ _ es=>.p (.sl es)
def RV.Hs:RV->RV
 | .one c=>.one c.pure
 | .agg cs=>.agg (cs.map RC.pure)
 | .tup vs=>.tup vs
def RV.pure:RV->RV
 | .tup vs=>.tup (vs.map RV.Hs)
 |v=>v.Hs
def RV.eD(b:Bool)(r:RV):RV:=match b with
 |true=>r.pure
 |false=>r
def PV.scalar:PV->Bool
 | .bool _| .int _ _| .str _| .uR| .nils| .rD| .yz| .nili| .ifc| .zs=>true
 |_=>false
def RC.alone:RC->Bool
 | .p v=>v.scalar
 | .own _ _ es=>es.all fun e=>e.all PV.scalar
def gQ(aj:aw)(c:C):Option (RC×List Nat×List Nat):=
 match c with
 | .p v=>some (.p v,[],[])
 | .hsl id g z 0 len=>match aj id with
  |(g',some (.arr ty sz es))=>if g'=g/\len<=es.length then some (.own ty sz (es.take len),[id],[]) else none
  |_=>(snap aj ik c).map fun(v,r)=>(.p v,[],r)
 |_=>(snap aj ik c).map fun(v,r)=>(.p v,[],r)
def kh(aj:aw):List C->Option (List RC×List Nat×List Nat)
 |[]=>some ([],[],[])
 |c::r=>match gQ aj c,kh aj r with
  |some (x,o,q),some (xs,os,qs)=>some (x::xs,o++os,q++qs)
  |_,_=>none
def kI:V->Option (List C)
 | .one c=>some [c]
 | .agg cs=>some cs
 |_=>none
def tU:List V->Option (List C)
 |[]=>some []
 |v::r=>match kI v,tU r with
  |some a,some b=>some (a++b)
  |_,_=>none
def nL:V->Option (List C)
 | .tup vs=>tU vs
 |v=>kI v
def pQ:V->List RC->RV×List RC
 | .one _,r::rs=>(.one r,rs)
 | .agg cs,rs=>(.agg (rs.take cs.length),rs.drop cs.length)
 |_,rs=>(.agg [],rs)
def Bp:List V->List RC->List RV
 |[],_=>[]
 |v::r,rs=>(pQ v rs).1::Bp r (pQ v rs).2
def sI:V->List RC->RV
 | .tup vs,rs=>.tup (Bp vs rs)
 |v,rs=>(pQ v rs).1
def apart:List Nat->List Nat->Bool
 |[],_=>true
 |i::r,q=> !r.contains i&& !q.contains i&&apart r q
def gh(aj:aw)(v:V):Option RV:=
 match nL v with
 |some cs=>match kh aj cs with
  |some (x,o,q)=>if apart o q then some (sI v x) else none
  |none=>none
 |none=>none
def dF(aj:aw)(site:Nat):RC->C×List eX
 | .p v=>(.p v,[])
 | .own ty sz es=>(.hsl site ((aj site).1+1) sz 0 es.length,[(site,((aj site).1+1,some (.arr ty sz es)))])
def jH(aj:aw)(site:Nat):List RC->List C×List eX
 |[]=>([],[])
 |c::r=>((dF aj site c).1::(jH aj (site+1) r).1,(dF aj site c).2++(jH aj (site+1) r).2)
def jq:RV->List RC
 | .one c=>[c]
 | .agg cs=>cs
 | .tup _=>[]
def qV:List RV->List RC
 |[]=>[]
 |v::r=>jq v++qV r
def iR:RV->List RC
 | .tup vs=>qV vs
 |v=>jq v
def oD:RV->List C->V×List C
 | .one _,c::cs=>(.one c,cs)
 | .agg rs,cs=>(.agg (cs.take rs.length),cs.drop rs.length)
 |_,cs=>(.undef,cs)
def uV:List RV->List C->List V
 |[],_=>[]
 |v::r,cs=>(oD v cs).1::uV r (oD v cs).2
def ui:RV->List C->V
 | .tup vs,cs=>.tup (uV vs cs)
 |v,cs=>(oD v cs).1
def RV.alone(r:RV):Bool:=(iR r).all RC.alone
def ji(aj:aw)(site:Nat)(r:RV):V×List eX:=(ui r (jH aj site (iR r)).1,(jH aj site (iR r)).2)
inductive fq where
 |fail
 |done (v:V) (u:List eX) (rd:List Nat)
 |pc (f:Nat) (args:List V) (rd:List Nat) (site:Nat)
 |sc (f:Nat) (args:List V)
def Bn(aj:aw):V->Option (List C×List Nat)
 | .one (.p (.box cs))=>some (cs.map .p,[])
 | .one (.aX id g off)=>match aj id with
  |(g',some (.var cs))=>if g'=g then some (cs.drop off,[id]) else none
  |(g',some (.fvar cs))=>if g'=g then some ((cs.drop off).map .p,[id]) else none
  |_=>none
 | .one (.de id g i off)=>match aj id with
  |(g',some (.arr _ _ es))=>if g'=g then (es[i]?).map fun e=>((e.drop off).map .p,[id]) else none
  |(g',some (.oY _ _ es))=>if g'=g then (es[i]?).map fun e=>((e.drop off).map .p,[id]) else none
  |(g',some (.gU _ _ es))=>if g'=g then (es[i]?).map fun e=>(e.drop off,[id]) else none
  |_=>none
 |_=>none
def pS(k:Option Nat)(cs:List C):Option V:=
 match k with
 |none=>match cs with
  |c::_=>some (.one c)
  |[]=>none
 |some n=>if n<=cs.length then some (.agg (cs.take n)) else none
def eV{α:Type}(cs:List α)(off:Nat)(xs:List α):List α:=cs.take off++xs++cs.drop (off+xs.length)
def Ap(aj:aw)(a:V)(n:Nat)(xs:List C):fq:=
 if xs.length≠n then .fail else
 match a with
 | .one (.aX id g off)=>match aj id with
  |(g',some (.var cs))=>if g'=g/\off+n<=cs.length then .done .undef [(id,(g,some (.var (eV cs off xs))))] [id] else .fail
  |_=>.fail
 | .one (.de id g i off)=>match aj id with
  |(g',some (.arr ty sz es))=>match es[i]?,Bx xs with
   |some e,some ps=>if g'=g/\off+n<=e.length then .done .undef [(id,(g,some (.arr ty sz (es.set i (eV e off ps)))))] [id] else .fail
   |_,_=>.fail
  |_=>.fail
 |_=>.fail
def ed(aj:aw):V->Option (List (List PV)×List Nat×List Nat)
 | .one (.p .nils)=>some ([],[],[])
 | .one (.p (.sl es))=>some (es,[],[])
 | .one (.hsl id g z off len)=>match aj id with
  |(g',some (.arr _ _ es))=>if g'=g/\off+len<=es.length then some ((es.drop off).take len,[id],[]) else none
  |(g',some (.oY _ _ es))=>if g'=g/\off+len<=es.length then some ((es.drop off).take len,[id],[]) else none
  |(g',some (.gU _ _ es))=>if g'=g/\off+len<=es.length then
    match collect (collect (snap aj ik)) ((es.drop off).take len) with
    |some (ps,r)=>some (ps,[id],r)
    |none=>none
   else none
  |_=>if len=0 then some ([],[id],[]) else none
 |_=>none
def eo(sz:Nat)(es:List (List PV)):Bool:=es.all fun e=>e.length==sz
def mA:V->Option Nat
 | .one (.hsl _ _ z _ _)=>some z
 |_=>none
def room:Nat:=140737488355328
def eF(aj:aw)(site ty sz bytes:Nat)(s x:V):fq:=
 match ed aj x with
 |none=>.fail
 |some (new,rd,fr)=>
  if ¬(mA x=some sz\/eo sz new=true) then .fail else
  match s0 aj fr with
  |none=>.fail
  |some fu=>
   match s with
   | .one (.p .nils)=>
    if new.length=0 then .done (.one (.p .nils)) fu (rd++fr) else
    if new.length*bytes<=room then
     .done (.one (.hsl site ((aj site).1+1) sz 0 new.length)) (fu++[(site,((aj site).1+1,some (.arr ty sz new)))]) (site::rd++fr)
    else .fail
   | .one (.p .zs)=>
    if new.length=0 then .fail else
    if new.length*bytes<=room then
     .done (.one (.hsl site ((aj site).1+1) sz 0 new.length)) (fu++[(site,((aj site).1+1,some (.arr ty sz new)))]) (site::rd++fr)
    else .fail
   | .one (.hsl id g z 0 len)=>match aj id with
    |(g',some (.arr jM ch es))=>
     if g'=g/\jM=ty/\ch=sz/\len<=es.length/\(len+new.length)*bytes<=room/\fr.contains id=false then
      .done (.one (.hsl site ((aj site).1+1) sz 0 (len+new.length)))
       (fu++[(id,(g,none)),(site,((aj site).1+1,some (.arr ty sz (es.take len++new))))]) (site::id::rd++fr)
     else .fail
    |_=>.fail
   | .one (.hsl id g z off len)=>match aj id with
    |(g',some (.arr jM ch es))=>
     if g'=g/\jM=ty/\ch=sz/\off+len<=es.length/\(len+new.length)*bytes<=room/\fr.contains id=false/\0<len/\0<new.length then
      .done (.one (.p (.sl ((es.drop off).take len++new)))) (fu++[(id,(g,none))]) (id::rd++fr)
     else .fail
    |_=>.fail
   |_=>.fail
def oQ:V->Option Nat
 | .one (.p (.int _ n))=>if 0<=n then some n.toNat else none
 |_=>none
def rT(ak:Env)(d:Nat):Option aQ->Option Nat
 |none=>some d
 |some a=>oQ (ev ak a)
def Dj(x:V)(sz lo hi:Nat):fq:=
 if ¬lo<=hi then .fail else
 match x with
 | .one (.p .nils)=>if hi=0 then .done (.one (.p .nils)) [] [] else .fail
 | .one (.p (.sl es))=>if hi<=es.length/\eo sz es=true then .done (.one (.p (.sl ((es.drop lo).take (hi-lo))))) [] [] else .fail
 | .one (.hsl id g z off len)=>if hi<=len/\z=sz then .done (.one (.hsl id g z (off+lo) (hi-lo))) [] [] else .fail
 |_=>.fail
def yt:V->Option Nat
 | .one (.p .nils)=>some 0
 | .one (.p (.sl es))=>some es.length
 | .one (.hsl _ _ _ _ len)=>some len
 |_=>none
def zU(aj:aw):V->Option (Nat×List Nat)
 | .one (.p .rD)=>some (0,[])
 | .one (.p (.mp _ es))=>some (es.length,[])
 | .one (.jW id g)=>match aj id with
  |(g',some (.map _ es))=>if g'=g then some (es.length,[id]) else none
  |(g',some (.fmap _ es))=>if g'=g then some (es.length,[id]) else none
  |_=>none
 |_=>none
def mapOf(aj:aw)(ag:Bool):V->Option (List (PV×List PV)×List Nat)
 | .one (.p .rD)=>some ([],[])
 | .one (.p (.mp rS es))=>if rS=ag then some (es,[]) else none
 | .one (.jW id g)=>match aj id with
  |(g',some (.map rS es))=>if g'=g/\rS=ag then some (es,[id]) else none
  |(g',some (.fmap rS es))=>if g'=g/\rS=ag then some (es,[id]) else none
  |_=>none
 |_=>none
def sameKey:PV->PV->Option Bool
 | .int k a,.int k' b=>if k=k' then some (a==b) else none
 | .str a,.str b=>some (a==b)
 | .bool a,.bool b=>some (a==b)
 |_,_=>none
def gZ:PV->Nat
 | .int _ _=>0
 | .str _=>1
 | .bool _=>2
 |_=>3
def mapVal:Bool->List PV->Option V
 |true,cs=>some (.agg (cs.map .p))
 |false,[c]=>some (.one (.p c))
 |false,_=>none
def oZ(k:PV):List (PV×List PV)->Nat->Option (Option (Nat×List PV))
 |[],_=>some none
 |(a,v)::r,i=>match sameKey k a with
  |some true=>some (some (i,v))
  |some false=>oZ k r (i+1)
  |none=>none
def xH:Bool->V->Option (List C)
 |false,.one c=>some [c]
 |true,.agg cs=>some cs
 |_,_=>none
def tK(op:BinOp)(k:IntKind)(a b:Int):Option PV:=
 match op with
 | .add=>some (.int k (k.wrap (a+b)))
 | .sub=>some (.int k (k.wrap (a-b)))
 | .mul=>some (.int k (k.wrap (a*b)))
 | .quo=>if b=0 then none else some (.int k (k.wrap (a.tdiv b)))
 | .rem=>if b=0 then none else some (.int k (a.tmod b))
 | .eql=>some (.bool (a==b))
 | .neq=>some (.bool (a !=b))
 | .lss=>some (.bool (decide (a<b)))
 | .leq=>some (.bool (decide (a<=b)))
 | .gtr=>some (.bool (decide (b<a)))
 | .geq=>some (.bool (decide (b<=a)))
 | .and=>some (.int k (k.wrap (BitVec.ofInt k.bits a&&& BitVec.ofInt k.bits b).toNat))
 | .shl=>if b<0 then none else some (.int k (k.wrap (a*2 ^ min b.toNat k.bits)))
 | .shr=>if b<0 then none else some (.int k (a.fdiv (2 ^ min b.toNat k.bits)))
 |_=>none
def BS(op:BinOp)(a b:ByteArray):Option PV:=
 match op with
 | .add=>if a.size+b.size<=9223372036854775807 then some (.str (a++b)) else none
 | .eql=>some (.bool (a.toList==b.toList))
 | .neq=>some (.bool (!(a.toList==b.toList)))
 |_=>none
def qL(op:BinOp):V->V->Option V
 | .one (.p (.int k a)),.one (.p (.int k' b))=>if k=k'\/op=.shl\/op=.shr then (tK op k a b).map fun v=>.one (.p v) else none
 | .one (.p (.str a)),.one (.p (.str b))=>(BS op a b).map fun v=>.one (.p v)
 |_,_=>none
def uC:Bool->PV->PV->Option Bool
 |true,.int k a,.int k' b=>if k=k' then some (a==b) else none
 |false,.bool a,.bool b=>some (a==b)
 |_,_,_=>none
def vg:List Bool->List C->List C->Option Bool
 |[],[],[]=>some true
 |k::ks,.p a::r,.p b::s=>match uC k a b with
  |some true=>vg ks r s
  |some false=>some false
  |none=>none
 |_,_,_=>none
def G9:u4->V->Option Bool
 | .ptr,.one (.p .uR)=>some true
 | .ptr,.one (.p (.box _))=>some false
 | .ptr,.one (.aX _ _ _)=>some false
 | .ptr,.one (.de _ _ _ _)=>some false
 | .slc,.one (.p .nils)=>some true
 | .slc,.one (.p (.sl (_::_)))=>some false
 | .slc,.one (.hsl _ _ _ _ _)=>some false
 | .map,.one (.p .rD)=>some true
 | .map,.one (.p (.mp _ _))=>some false
 | .map,.one (.jW _ _)=>some false
 | .fnc,.one (.p .yz)=>some true
 | .fnc,.one (.p (.fn _ _ _))=>some false
 | .fnc,.one (.hfn _ _ _)=>some false
 | .ifc,.one (.p .nili)=>some true
 | .ifc,.one (.p .ifc)=>some false
 |_,_=>none
def Cb:u4->V->V->Option Bool
 | .bool,.one (.p (.bool a)),.one (.p (.bool b))=>some (a==b)
 | .str ks,.agg a,.agg b=>vg ks a b
 | .bool,_,_=>none
 | .str _,_,_=>none
 |k,a,b=>if G9 k b=some true then G9 k a else if G9 k a=some true then G9 k b else none
def fill(cs:List C):List (Nat×List C)->List C
 |[]=>cs
 |(off,xs)::r=>fill (eV cs off xs) r
def yA(ak:Env):List (Nat×Nat×aQ)->Option (List (Nat×List C))
 |[]=>some []
 |(off,n,a)::r=>match rU (ev ak a),yA ak r with
  |some cs,some q=>if cs.length=n then some ((off,cs)::q) else none
  |_,_=>none
def zh(ak:Env)(sz:Nat):List aQ->Option (List (List C))
 |[]=>some []
 |a::r=>match rU (ev ak a),zh ak sz r with
  |some cs,some q=>if cs.length=sz then some (cs::q) else none
  |_,_=>none
def Am:List (List C)->Option (List (List PV))
 |[]=>some []
 |c::r=>match Bx c,Am r with
  |some v,some vs=>some (v::vs)
  |_,_=>none
def Eg(ak:Env)(a:aQ):Option (Nat×List C×List C):=
 match ev ak a with
 | .one (.p (.fn f x y))=>some (f,x.map .p,y.map .p)
 | .one (.hfn f x y)=>some (f,x,y)
 |_=>none
def Bv(aj:aw):List V->Option (List V×List Nat):=collect (nG aj)
def bytesOf:List (List PV)->Option (List UInt8)
 |[]=>some []
 |[.int .u8 n]::r=>(bytesOf r).map (UInt8.ofNat n.toNat:: ·)
 |_::_=>none
def vI(ak:Env):List aQ->Option (List C)
 |[]=>some []
 |a::r=>match ev ak a,vI ak r with
  | .one c,some q=>some (c::q)
  |_,_=>none
def bG(shared:Nat->Bool)(ak:Env)(aj:aw):mU->fq
 | .iY x=>.done (ev ak x) [] []
 | .pick c a b=>match ev ak c with
  | .one (.p (.bool t))=>.done (if t then ev ak a else ev ak b) [] []
  |_=>.fail
 | .alloc s z=>.done (.one (.aX s ((aj s).1+1) 0)) [(s,((aj s).1+1,some (.var (z.map .p))))] [s]
 | .box s x=>match rU (ev ak x) with
  |some cs=>.done (.one (.aX s ((aj s).1+1) 0)) [(s,((aj s).1+1,some (.var cs)))] [s]
  |none=>.fail
 | .build z ps=>match yA ak ps with
  |some q=>.done (.agg (fill (z.map .p) q)) [] []
  |none=>.fail
 | .DS s ty sz ps=>match zh ak sz ps with
  |some es=>match Am es with
   |some qs=>.done (.one (.hsl s ((aj s).1+1) sz 0 es.length)) [(s,((aj s).1+1,some (.arr ty sz qs)))] [s]
   |none=>.done (.one (.hsl s ((aj s).1+1) sz 0 es.length)) [(s,((aj s).1+1,some (.gU ty sz es)))] [s]
  |none=>.fail
 | .load k x=>match Bn aj (ev ak x) with
  |some (cs,r)=>match pS k cs with
   |some v=>.done v [] r
   |none=>.fail
  |none=>.fail
 | .store n a x=>match rU (ev ak x) with
  |some xs=>Ap aj (ev ak a) n xs
  |none=>.fail
 | .JS x=>match ev ak x with
  | .one (.aX id g o)=>.done (.one (.aX id g o)) [] []
  | .one (.de id g i o)=>.done (.one (.de id g i o)) [] []
  | .one (.p (.box cs))=>.done (.one (.p (.box cs))) [] []
  | .one (.hfn f a b)=>.done (.one (.hfn f a b)) [] []
  | .one (.p (.fn f a b))=>.done (.one (.p (.fn f a b))) [] []
  |_=>.fail
 | .bin op x y=>match qL op (ev ak x) (ev ak y) with
  |some v=>.done v [] []
  |none=>.fail
 | .eqc k neg x y=>match Cb k (ev ak x) (ev ak y) with
  |some b=>.done (.one (.p (.bool (if neg then !b else b)))) [] []
  |none=>.fail
 | .un op x=>match op,ev ak x with
  | .not,.one (.p (.bool b))=>.done (.one (.p (.bool (!b)))) [] []
  | .neg,.one (.p (.int k n))=>.done (.one (.p (.int k (k.wrap (0-n))))) [] []
  |_,_=>.fail
 | .conv k x=>match ev ak x with
  | .one (.p (.int _ n))=>.done (.one (.p (.int k (k.wrap n)))) [] []
  |_=>.fail
 | .bstr x=>match ed aj (ev ak x) with
  |some (es,r,[])=>match bytesOf es with
   |some bs=>.done (.one (.p (.str ⟨bs.toArray⟩))) [] r
   |none=>.fail
  |_=>.fail
 | .mkfn f a b=>match vI ak a,vI ak b with
  |some x,some y=>.done (.one (.hfn f x y)) [] []
  |_,_=>.fail
 | .mkmap s ag=>.done (.one (.jW s ((aj s).1+1))) [(s,((aj s).1+1,some (.map ag [])))] [s]
 | .JM s ty sz bytes z l c=>match oQ (ev ak l),oQ (ev ak c) with
  |some n,some m=>if n=m/\n*bytes<=room then
    .done (.one (.hsl s ((aj s).1+1) sz 0 n)) [(s,((aj s).1+1,some (.arr ty sz (List.replicate n z))))] [s]
   else .fail
  |_,_=>.fail
 | .slice sz x lo hi=>match yt (ev ak x) with
  |some n=>match rT ak 0 lo,rT ak n hi with
   |some l,some h=>Dj (ev ak x) sz l h
   |_,_=>.fail
  |none=>.fail
 | .sslice x lo hi=>match ev ak x with
  | .one (.p (.str s))=>match rT ak 0 lo,rT ak s.size hi with
   |some l,some h=>if l<=h/\h<=s.size then .done (.one (.p (.str (s.extract l h)))) [] [] else .fail
   |_,_=>.fail
  |_=>.fail
 | .ng off x=>match ev ak x with
  | .one (.aX id g o)=>.done (.one (.aX id g (o+off))) [] []
  | .one (.de id g i o)=>.done (.one (.de id g i (o+off))) [] []
  | .one (.p (.box cs))=>.done (.one (.p (.box (cs.drop off)))) [] []
  |_=>.fail
 | .GZ sz x i=>match oQ (ev ak i),ev ak x with
  |some n,.one (.p (.sl es))=>match es[n]? with
   |some e=>if e.length=sz then .done (.one (.p (.box e))) [] [] else .fail
   |none=>.fail
  |some n,.one (.hsl id g z off len)=>if n<len/\z=sz then .done (.one (.de id g (off+n) 0)) [] [] else .fail
  |_,_=>.fail
 | .Ic len sz x i=>match oQ (ev ak i),ev ak x with
  |some n,.one (.aX id g o)=>if n<len then .done (.one (.aX id g (o+n*sz))) [] [] else .fail
  |some n,.one (.de id g j o)=>if n<len then .done (.one (.de id g j (o+n*sz))) [] [] else .fail
  |some n,.one (.p (.box cs))=>if n<len then .done (.one (.p (.box (cs.drop (n*sz))))) [] [] else .fail
  |_,_=>.fail
 | .fld off k x=>match ev ak x with
  | .agg cs=>match pS k (cs.drop off) with
   |some v=>.done v [] []
   |none=>.fail
  |_=>.fail
 | .aidx len sz k x i=>match oQ (ev ak i),ev ak x with
  |some n,.agg cs=>if n<len then
    match pS k (cs.drop (n*sz)) with
    |some v=>.done v [] []
    |none=>.fail
   else .fail
  |_,_=>.fail
 | .sidx x i=>match oQ (ev ak i),ev ak x with
  |some n,.one (.p (.str s))=>match s[n]? with
   |some b=>.done (.one (.p (.int .u8 b.toNat))) [] []
   |none=>.fail
  |_,_=>.fail
 | .lookup kd z agg ok x k=>match mapOf aj agg (ev ak x),ev ak k with
  |some (es,r),.one (.p q)=>if gZ q≠kd then .fail else match oZ q es 0 with
   |some f=>match mapVal agg ((f.map (·.2)).getD z) with
    |some w=>.done (if ok then .tup [w,.one (.p (.bool f.isSome))] else w) [] r
    |none=>.fail
   |none=>.fail
  |_,_=>.fail
 | .bad=>.fail
 | .mupd kd ag m k v=>match ev ak m,ev ak k,xH ag (ev ak v) with
  | .one (.jW id g),.one (.p q),some cs=>match aj id,Bx cs with
   |(g',some (.map rS es)),some ps=>if g'=g/\rS=ag/\gZ q=kd then
     match oZ q es 0 with
     |some (some (i,_))=>.done .undef [(id,(g,some (.map ag (es.set i (q,ps)))))] [id]
     |some none=>.done .undef [(id,(g,some (.map ag (es++[(q,ps)]))))] [id]
     |none=>.fail
    else .fail
   |_,_=>.fail
  |_,_,_=>.fail
 | .extract x i=>match ev ak x with
  | .tup vs=>match vs[i]? with
   |some v=>.done v [] []
   |none=>.fail
  |_=>.fail
 | .call s f as=>match Eg ak f with
  |some (g,a,b)=>
   if shared g then .sc g (a.map .one++as.map (ev ak)++b.map .one)
   else match Bv aj (a.map .one++as.map (ev ak)++b.map .one) with
    |some (vs,r)=>.pc g vs r s
    |none=>.fail
  |none=>.fail
 | .slen x=>match ev ak x with
  | .one (.p (.str s))=>.done (.one (.p (.int .i64 s.size))) [] []
  |_=>.fail
 | .JJ x=>match yt (ev ak x) with
  |some n=>.done (.one (.p (.int .i64 n))) [] []
  |none=>.fail
 | .mlen x=>match zU aj (ev ak x) with
  |some (n,r)=>.done (.one (.p (.int .i64 n))) [] r
  |none=>.fail
 | .append s ty sz bytes d x=>eF aj s ty sz bytes (ev ak d) (ev ak x)
 | .max x y=>match ev ak x,ev ak y with
  | .one (.p (.int k a)),.one (.p (.int _ b))=>.done (.one (.p (.int k (if b>a then b else a)))) [] []
  |_,_=>.fail
 | .min x y=>match ev ak x,ev ak y with
  | .one (.p (.int k a)),.one (.p (.int _ b))=>.done (.one (.p (.int k (if b<a then b else a)))) [] []
  |_,_=>.fail
 | .clear z x=>match ev ak x with
  | .one (.p .nils)=>.done (.tup []) [] []
  | .one (.p (.sl []))=>.done (.tup []) [] []
  | .one (.hsl id g _ off len)=>if len=0 then .done (.tup []) [] [] else match aj id with
   |(g',some (.arr ty sz es))=>if g'=g/\sz=z.length/\off+len<=es.length then .done (.tup []) [(id,(g,some (.arr ty sz (eV es off (List.replicate len z)))))] [id] else .fail
   |_=>.fail
  |_=>.fail
structure cy where
 rd:List Nat
 wr:List Nat
 fs:List Nat
structure Al where
 any:Bool
 ids:List Nat
 fs:List Nat
def Al.all:Al:=⟨true,[],[]⟩
def jy(id:Nat):Nat:=id/64000000
def Al.ok(a:Al)(id:Nat):Bool:=a.any||a.ids.contains id||a.fs.contains (jy id)
def Al.fG(a:Al)(l:List Nat):Bool:=l.all a.ok
def Al.holds(a b:Al):Bool:=a.any||(a.fG b.ids&&b.fs.all a.fs.contains)
structure Ctx where
 shared:Nat->Bool
 sites:Nat->List Nat
 lone:Nat->Bool
 al:Al
def my(aj:aw):Nat->C->List Nat
 |0,_=>[]
 |n+1,c=>match c with
  | .p _=>[]
  | .aX id _ _=>id::match aj id with
   |(_,some (.var cs))=>(cs.map (my aj n)).flatten
   |_=>[]
  | .de id _ _ _=>id::match aj id with
   |(_,some (.gU _ _ es))=>(es.flatten.map (my aj n)).flatten
   |_=>[]
  | .hsl id _ _ _ _=>id::match aj id with
   |(_,some (.gU _ _ es))=>(es.flatten.map (my aj n)).flatten
   |_=>[]
  | .jW id _=>[id]
  | .hfn _ a b=>(a.map (my aj n)).flatten++(b.map (my aj n)).flatten
def iZ(aj:aw):V->List Nat
 | .one c=>my aj ik c
 | .agg cs=>(cs.map (my aj ik)).flatten
 |_=>[]
def allow(sh:Ctx)(f:Nat)(vs:List V)(aj:aw):Al:=⟨false,(vs.map (iZ aj)).flatten,sh.sites f⟩
def put(ak:Env)(d:Option Nat)(v:V):Env:=
 match d with
 |some t=>dj ak t v
 |none=>ak
abbrev fR:=Nat->List V->Option RV
abbrev jP:=Nat->List V->Al->aw->Option (V×aw)
def land(aj:aw)(rd:List Nat)(site:Nat)(r:RV):Option (V×List eX):=
 if rd=[]\/r.alone then some (ji aj site r)
 else match s0 aj rd with
  |some u=>some ((ji aj site r).1,u++(ji aj site r).2)
  |none=>none
def wanted(ak:Env):Option (Nat×Bool)->Option Bool
 |none=>some true
 |some (t,want)=>match ak t with
  | .one (.p (.bool b))=>some (b==want)
  | .undef=>some false
  |_=>none
def step1(sh:Ctx)(cp:fR)(cs:jP)(o:bI)(ak:Env)(aj:aw):Option (Env×aw×cy):=
 match wanted ak o.guard with
 |none=>none
 |some false=>some (put ak o.dst .undef,aj,⟨[],[],[]⟩)
 |some true=>match bG sh.shared ak aj o.op with
  | .fail=>none
  | .done v u r=>if sh.al.fG (r++u.map (·.1)) then some (put ak o.dst v,app u aj,⟨r,u.map (·.1),[]⟩) else none
  | .pc f vs r s=>match cp f vs with
   |some x=>match land aj r s (x.eD (sh.lone s)) with
    |some (v,u)=>if sh.al.fG (r++u.map (·.1)) then some (put ak o.dst v,app u aj,⟨r++u.map (·.1),u.map (·.1),[]⟩) else none
    |none=>none
   |none=>none
  | .sc f vs=>if sh.al.holds (allow sh f vs aj) then
    match cs f vs (allow sh f vs aj) aj with
    |some (v,ao)=>some (put ak o.dst v,ao,⟨(allow sh f vs aj).ids,(allow sh f vs aj).ids,(allow sh f vs aj).fs⟩)
    |none=>none
   else none
def steps(sh:Ctx)(cp:fR)(cs:jP):List bI->Env->aw->Option (Env×aw×List cy)
 |[],ak,aj=>some (ak,aj,[])
 |o::r,ak,aj=>match step1 sh cp cs o ak aj with
  |some (aA,ao,e)=>match steps sh cp cs r aA ao with
   |some (LG,Ip,es)=>some (LG,Ip,e::es)
   |none=>none
  |none=>none
def meets(a b:List Nat):Bool:=a.any fun i=>b.contains i
def CT(fs ids:List Nat):Bool:=ids.any fun i=>fs.contains (jy i)
def BU(a b:cy):Bool:=meets a.wr b.rd||meets a.wr b.wr||meets a.rd b.wr||meets a.fs b.fs||CT a.fs (b.rd++b.wr)||CT b.fs (a.rd++a.wr)
def JV(anc:Nat)(e:cy):Nat->List cy->Bool
 |_,[]=>true
 |j,x::r=>(anc.testBit j|| !BU x e)&&JV anc e (j+1) r
def rF:List bI->List cy->List cy->Bool
 |o::os,past,e::es=>JV o.anc e 0 past&&rF os (past++[e]) es
 |_,_,_=>true
inductive mE where
 |normal
 |exit (id:Nat)
 |ret
def iter(f:Env->aw->Option (mE×Env×aw)):Nat->Env->aw->Option (mE×Env×aw)
 |0,_,_=>none
 |n+1,ak,aj=>match f ak aj with
  |some (.normal,aA,ao)=>iter f n aA ao
  |r=>r
def exec(sh:Ctx)(cp:fR)(cs:jP)(n:Nat):aH->Env->aw->Option (mE×Env×aw)
 | .skip,ak,aj=>some (.normal,ak,aj)
 | .region d ops,ak,aj=>match steps sh cp cs ops ak aj with
  |some (aA,ao,es)=>if d then (if rF ops [] es then some (.normal,aA,ao) else none) else some (.normal,aA,ao)
  |none=>none
 | .seq a b,ak,aj=>match exec sh cp cs n a ak aj with
  |some (.normal,aA,ao)=>exec sh cp cs n b aA ao
  |r=>r
 | .cond x a b,ak,aj=>match ev ak x with
  | .one (.p (.bool t))=>if t then exec sh cp cs n a ak aj else exec sh cp cs n b ak aj
  |_=>none
 | .block id c,ak,aj=>match exec sh cp cs n c ak aj with
  |some (.exit i,aA,ao)=>if i=id then some (.normal,aA,ao) else some (.exit i,aA,ao)
  |r=>r
 | .loop c,ak,aj=>iter (exec sh cp cs n c) n ak aj
 | .exit id,ak,aj=>some (.exit id,ak,aj)
 | .ret,ak,aj=>some (.ret,ak,aj)
 | .bad,_,_=>none
def sk(args:List V):Env:=fun i=>args.getD i .undef
def Qs:V->Option V
 | .tup _=>none
 |v=>some v
def oE(al:Al)(ak:Env)(aj:aw):List (Nat×Option (Option Nat))->Option (List V)
 |[]=>some []
 |(t,none)::r=>match Qs (ak t),oE al ak aj r with
  |some v,some q=>some (v::q)
  |_,_=>none
 |(t,some k)::r=>match Bn aj (ak t),oE al ak aj r with
  |some (cs,rd),some q=>if al.fG rd then (pS k cs).map (· ::q) else none
  |_,_=>none
def An:List V->V
 |[v]=>v
 |vs=>.tup vs
def vG:aw:=fun _=>(0,none)
def rI(sh:Ctx)(cp:fR)(cs:jP)(n:Nat)(fn:aS)(args:List V)(aj:aw):Option (V×aw):=
 match exec sh cp cs n fn.body (sk args) aj with
 |some (.normal,ak,ao)=>(oE sh.al ak ao fn.results).map fun vs=>(An vs,ao)
 |some (.ret,ak,ao)=>(oE sh.al ak ao fn.results).map fun vs=>(An vs,ao)
 |_=>none
def Fy(sh:Ctx)(cp:fR)(cs:jP)(n:Nat)(fn:aS)(args:List V):Option RV:=
 match rI sh cp cs n fn args vG with
 |some (v,aj)=>gh aj v
 |none=>none
structure Sys where
 P:Program
 shared:Nat->Bool
 sites:Nat->List Nat
 lone:Nat->Bool
 fns:Nat->Option aS
 prim:Nat->List V->Option (Option RV)
 trig:Nat->List V->Bool:=fun _ _=>false
 primS:Nat->List V->Al->aw->Option (V×List eX):=fun _ _ _ _=>none
def Sys.ctx(S:Sys)(a:Al):Ctx:=⟨S.shared,S.sites,S.lone,a⟩
mutual
def fZ(S:Sys):Nat->fR
 |0,_,_=>none
 |n+1,f,args=>match S.prim f args with
  |some r=>r
  |none=>match S.fns f with
   |some fn=>if args.length<=fn.ntmps then Fy (S.ctx .all) (fZ S n) (gb S n) n fn args else none
   |none=>none
def gb(S:Sys):Nat->jP
 |0,_,_,_,_=>none
 |n+1,f,args,al,aj=>if S.trig f args=true then (S.primS f args al aj).map (fun r=>(r.1,app r.2 aj)) else match S.fns f with
  |some fn=>if args.length<=fn.ntmps then rI (S.ctx al) (fZ S n) (gb S n) n fn args aj else none
  |none=>none
end
def aF(S:Sys)(f:Nat)(args:List V)(r:RV):Prop:= ∃n,fZ S n f args=some r
def iw(S:Sys)(f:Nat)(args:List V)(al:Al)(aj:aw)(v:V)(ao:aw):Prop:= ∃n,gb S n f args al aj=some (v,ao)
abbrev dy:=mE->Env->aw->Prop
def W (S:Sys)(al:Al)(c:aH)(Q:dy)(ak:Env)(aj:aw):Prop:=∃n e aA ao,exec (S.ctx al) (fZ S n) (gb S n) n c ak aj=some (e,aA,ao)/\Q e aA ao
def WO (S:Sys)(al:Al)(ops:List bI)(Q:Env->aw->List cy->Prop)(ak:Env)(aj:aw)(tr:List cy):Prop:=∃n aA ao es,steps (S.ctx al) (fZ S n) (gb S n) ops ak aj=some (aA,ao,es)/\Q aA ao (tr++es)
end Go.Abs
namespace Go.Abs
section
variable{m:Nat}
def PLe(a b:fR):Prop:=∀f x r,a f x=some r->b f x=some r
def SLe(a b:jP):Prop:=∀f x l k r,a f x l k=some r->b f x l k=some r
section
variable {sh:Ctx} {cp mY:fR} {cs Ec:jP} (hp:PLe cp mY) (hs:SLe cs Ec)
include hp hs
theorem afa{o:bI}{ak:Env}{aj:aw}{r:Env×aw×cy}(h:step1 sh cp cs o ak aj=some r):step1 sh mY Ec o ak aj=some r:=by
 unfold step1 at h ⊢;cases hw:wanted ak o.guard with
 |none=>simp[hw] at h
 |some b=>
  cases b with
  |false=>simpa [hw] using h
  |true=>
   simp only[hw] at h ⊢;cases cK:bG sh.shared ak aj o.op with
   |fail=>simp[cK] at h
   |done v u rd=>simpa [cK] using h
   |pc f vs rd s=>
    simp only[cK] at h ⊢;cases hc:cp f vs with
    |none=>simp[hc] at h
    |some x=>rw[hp _ _ _ hc];simpa [hc] using h
   |sc f vs=>
    simp only[cK] at h ⊢;split at h
    .rename_i ha;rw[aD ha];cases hc:cs f vs (allow sh f vs aj) aj with
     |none=>simp[hc] at h
     |some x=>rw[hs _ _ _ _ _ hc];simpa [hc] using h
    cases h
theorem afe:∀ {ops:List bI} {ak:Env} {aj:aw} {r:Env×aw×List cy},steps sh cp cs ops ak aj=some r->steps sh mY Ec ops ak aj=some r:=by
 intro ops
 induction ops with
 |nil=>intro ak aj r h;simpa [steps] using h
 |cons o os ih=>
  intro ak aj r h;simp only[steps] at h ⊢;cases h1:step1 sh cp cs o ak aj with
  |none=>simp[h1] at h
  |some x=>
   obtain⟨e1,b1,f1⟩:=x;rw[afa hp hs h1];simp only[h1] at h ⊢;cases h2:steps sh cp cs os e1 b1 with
   |none=>simp[h2] at h
   |some y=>rw[ih h2];simpa [h2] using h
omit hp hs in
theorem abn{f g:Env->aw->Option (mE×Env×aw)}(hfg:∀e b r,f e b=some r->g e b=some r):
  ∀ {n m:Nat} {ak:Env} {aj:aw} {r:mE×Env×aw},n<=m->iter f n ak aj=some r->iter g m ak aj=some r:=by
 intro n
 induction n with
 |zero=>intro m ak aj r _ h;simp[iter] at h
 |succ n ih=>
  intro m ak aj r hm h;obtain⟨m,rfl⟩:∃k,m=k+1:=⟨m-1,aa⟩;simp only[iter] at h ⊢;cases hf:f ak aj with
  |none=>simp[hf] at h
  |some x=>
   obtain⟨e,e1,b1⟩:=x;rw[hfg _ _ _ hf];cases e with
   |normal=>simp only[hf] at h ⊢;exact ih aa h
   |exit i=>simpa [hf] using h
   |ret=>simpa [hf] using h
theorem Zz{n:Nat}(tq:n<=m):∀ {c:aH} {ak:Env} {aj:aw} {r:mE×Env×aw},exec sh cp cs n c ak aj=some r->exec sh mY Ec m c ak aj=some r:=by
 intro c
 induction c with
 |skip=>intro ak aj r h;simpa [exec] using h
 |region d ops=>
  intro ak aj r h;simp only[exec] at h ⊢;cases h1:steps sh cp cs ops ak aj with
  |none=>simp[h1] at h
  |some x=>rw[afe hp hs h1];simpa [h1] using h
 |seq a b iha ihb=>
  intro ak aj r h;simp only[exec] at h ⊢;cases h1:exec sh cp cs n a ak aj with
  |none=>simp[h1] at h
  |some x=>
   obtain⟨e,e1,b1⟩:=x;rw[iha h1];cases e with
   |normal=>simp only[h1] at h ⊢;exact ihb h
   |exit i=>simpa [h1] using h
   |ret=>simpa [h1] using h
 |cond x a b iha ihb=>
  intro ak aj r h;simp only[exec] at h ⊢;split at h
  .split at h
   .rename_i ht;simp only[ht,if_true];exact iha h
   rename_i ht;simp only[ht];exact ihb h
  cases h
 |block id c ih=>
  intro ak aj r h;simp only[exec] at h ⊢;cases h1:exec sh cp cs n c ak aj with
  |none=>simp[h1] at h
  |some x=>rw[ih h1];simpa [h1] using h
 |loop c ih=>intro ak aj r h;simp only[exec] at h ⊢;exact abn (fun _ _ _ h=>ih h) tq h
 |exit id=>intro ak aj r h;simpa [exec] using h
 |ret=>intro ak aj r h;simpa [exec] using h
 |bad=>intro ak aj r h;simp[exec] at h
theorem QX{n:Nat}(tq:n<=m){fn:aS}{args:List V}{aj:aw}{r:V×aw}(h:rI sh cp cs n fn args aj=some r):rI sh mY Ec m fn args aj=some r:=by
 unfold rI at h ⊢;cases h1:exec sh cp cs n fn.body (sk args) aj with
 |none=>simp[h1] at h
 |some x=>rw[Zz hp hs tq h1];simpa [h1] using h
theorem aeu{n:Nat}(tq:n<=m){fn:aS}{args:List V}{r:RV}(h:Fy sh cp cs n fn args=some r):Fy sh mY Ec m fn args=some r:=by
 unfold Fy at h ⊢;cases h1:rI sh cp cs n fn args vG with
 |none=>simp[h1] at h
 |some x=>rw[QX hp hs tq h1];simpa [h1] using h
end
theorem X0(S:Sys):∀n,PLe (fZ S n) (fZ S (n+1))/\SLe (gb S n) (gb S (n+1)):=by
 intro n
 induction n with
 |zero=>exact⟨fun f x r h=>by simp[fZ] at h,fun f x l k r h=>by simp[gb] at h⟩
 |succ n ih=>
  refine⟨fun f x r h=>?_,fun f x l k r h=>?_⟩
  .rw[fZ] at h ⊢;cases hp:S.prim f x with
   |some r'=>simpa [hp] using h
   |none=>
    simp only[hp] at h ⊢;cases hf:S.fns f with
    |none=>simp[hf] at h
    |some fn=>
     simp only[hf] at h ⊢;split at h
     .rename_i hl;rw[aD hl];exact aeu ih.1 ih.2 aa h
     cases h
  rw[gb] at h ⊢;by_cases ht:S.trig f x=true
  .rw[aD ht] at h ⊢;exact h
  rw[ay ht] at h ⊢;cases hf:S.fns f with
  |none=>simp[hf] at h
  |some fn=>
   simp only[hf] at h ⊢;split at h
   .rename_i hl;rw[aD hl];exact QX ih.1 ih.2 aa h
   cases h
theorem DU(S:Sys){n:Nat}(h:n<=m):PLe (fZ S n) (fZ S m):=by
 induction h with
 |refl=>exact fun _ _ _ h=>h
 |step _ ih=>exact fun f x r hr=>(X0 S _).1 f x r (ih f x r hr)
theorem Lk(S:Sys){n:Nat}(h:n<=m):SLe (gb S n) (gb S m):=by
 induction h with
 |refl=>exact fun _ _ _ _ _ h=>h
 |step _ ih=>exact fun f x l k r hr=>(X0 S _).2 f x l k r (ih f x l k r hr)
theorem aF.xK{S:Sys}{f:Nat}{args:List V}{r r':RV}(h:aF S f args r)(h':aF S f args r'):r=r':=by obtain⟨n,hn⟩:=h;obtain⟨m,hm⟩:=h';have a:=DU S (HV n m) _ _ _ hn;have b:=DU S (KW n m) _ _ _ hm;rw[a] at b;exact sR b
theorem Gf(S:Sys){al:Al}{n:Nat}(h:n<=m){c:aH}{ak:Env}{aj:aw}{r:mE×Env×aw}(hr:exec (S.ctx al) (fZ S n) (gb S n) n c ak aj=some r):
  exec (S.ctx al) (fZ S m) (gb S m) m c ak aj=some r:=Zz (DU S h) (Lk S h) h hr
theorem asu(S:Sys){al:Al}{n:Nat}(h:n<=m){ops:List bI}{ak:Env}{aj:aw}{r:Env×aw×List cy}(hr:steps (S.ctx al) (fZ S n) (gb S n) ops ak aj=some r):
  steps (S.ctx al) (fZ S m) (gb S m) ops ak aj=some r:=afe (DU S h) (Lk S h) hr
variable {S:Sys} {al:Al} {Q:dy} {ak:Env} {aj:aw}
theorem W.mono{c:aH}{Q':dy}(h:W S al c Q ak aj)(hq:∀e ak aj,Q e ak aj->Q' e ak aj):W S al c Q' ak aj:=by obtain⟨n,e,aA,ao,h1,h2⟩:=h;exact⟨n,e,aA,ao,h1,hq _ _ _ h2⟩
theorem agK(h:Q .normal ak aj):W S al .skip Q ak aj:=⟨0,_,_,_,rfl,h⟩
theorem agD{id:Nat}(h:Q (.exit id) ak aj):W S al (.exit id) Q ak aj:=⟨0,_,_,_,rfl,h⟩
theorem agG(h:Q .ret ak aj):W S al .ret Q ak aj:=⟨0,_,_,_,rfl,h⟩
def NT(next:Env->aw->Prop)(Q:dy):dy
 | .normal,ak,aj=>next ak aj
 |e,ak,aj=>Q e ak aj
theorem agH{a b:aH}(h:W S al a (NT (W S al b Q) Q) ak aj):W S al (.seq a b) Q ak aj:=by
 obtain⟨n,e,aA,ao,h1,h2⟩:=h;cases e with
 |normal=>obtain⟨m,e,dp,ba,h3,h4⟩:=h2;refine⟨max n m,e,dp,ba,?_,h4⟩;simp only[exec];rw[Gf S (HV n m) h1];exact Gf S (KW n m) h3
 |exit i=>exact⟨n,_,_,_,by simp[exec,h1],h2⟩
 |ret=>exact⟨n,_,_,_,by simp[exec,h1],h2⟩
theorem agA{x:aQ}{a b:aH}{t:Bool}(hx:ev ak x=.one (.p (.bool t)))(h:if t=true then W S al a Q ak aj else W S al b Q ak aj):W S al (.cond x a b) Q ak aj:=by
 cases t with
 |true=>obtain⟨n,e,aA,ao,h1,h2⟩:=h;exact⟨n,e,aA,ao,by simp[exec,hx,h1],h2⟩
 |false=>obtain⟨n,e,aA,ao,h1,h2⟩:=(by simpa using h:W S al b Q ak aj);exact⟨n,e,aA,ao,by simp[exec,hx,h1],h2⟩
def lN(id:Nat)(Q:dy):dy
 | .exit i,ak,aj=>if i=id then Q .normal ak aj else Q (.exit i) ak aj
 |e,ak,aj=>Q e ak aj
theorem agz{id:Nat}{c:aH}(h:W S al c (lN id Q) ak aj):W S al (.block id c) Q ak aj:=by
 obtain⟨n,e,aA,ao,h1,h2⟩:=h;cases e with
 |normal=>exact⟨n,_,_,_,by simp[exec,h1],h2⟩
 |ret=>exact⟨n,_,_,_,by simp[exec,h1],h2⟩
 |exit i=>
  simp only[lN] at h2;by_cases hi:i=id
  .simp only[hi,if_true] at h2;exact⟨n,_,_,_,by simp[exec,h1,hi],h2⟩
  simp only[hi,if_false] at h2;exact⟨n,_,_,_,by simp[exec,h1,hi],h2⟩
theorem UJ(S:Sys){c:aH}{n k l:Nat}(h:n<=m)(hk:k<=l){r:mE×Env×aw}(hr:iter (exec (S.ctx al) (fZ S n) (gb S n) n c) k ak aj=some r):
  iter (exec (S.ctx al) (fZ S m) (gb S m) m c) l ak aj=some r:=abn (fun _ _ _ h'=>Gf S h h') hk hr
theorem agE{c:aH}(I:Nat->Env->aw->Prop)(k0 N:Nat)(hk:k0<=N)(h0:I k0 ak aj)
  (round:∀k ak aj,k<=N->I k ak aj->W S al c (NT (fun aA ao=>k<N/\I (k+1) aA ao) Q) ak aj):W S al (.loop c) Q ak aj:=by
 have key:∀j k ak aj,k+j=N->I k ak aj->∃n l e aA ao,iter (exec (S.ctx al) (fZ S n) (gb S n) n c) l ak aj=some (e,aA,ao)/\Q e aA ao:=by
  intro j
  induction j with
  |zero=>
   intro k ak aj GH hI;obtain⟨n,e,ft,cn,h1,h2⟩:=round k ak aj aa hI;cases e with
   |normal=>obtain⟨aq,_⟩:=h2;omega
   |exit i=>exact⟨n,1,_,_,_,by simp[iter,h1],h2⟩
   |ret=>exact⟨n,1,_,_,_,by simp[iter,h1],h2⟩
  |succ j ih=>
   intro k ak aj GH hI;obtain⟨n,e,ft,cn,h1,h2⟩:=round k ak aj aa hI;cases e with
   |normal=>obtain⟨_,hI1⟩:=h2;obtain⟨m,l,e,dp,ba,h3,h4⟩:=ih (k+1) ft cn aa hI1;refine⟨max n m,l+1,e,dp,ba,?_,h4⟩;simp only[iter];rw[Gf S (HV n m) h1];exact UJ S (KW n m) (bJ _) h3
   |exit i=>exact⟨n,1,_,_,_,by simp[iter,h1],h2⟩
   |ret=>exact⟨n,1,_,_,_,by simp[iter,h1],h2⟩
 obtain⟨n,l,e,aA,ao,h1,h2⟩:=key (N-k0) k0 ak aj aa h0;refine⟨max n l,e,aA,ao,?_,h2⟩;simp only[exec];exact UJ S (HV n l) (KW n l) h1
theorem agF{d:Bool}{ops:List bI}(h:WO S al ops (fun ak aj es=>(d=true->rF ops [] es=true)/\Q .normal ak aj) ak aj []):W S al (.region d ops) Q ak aj:=by
 obtain⟨n,aA,ao,es,h1,h2,h3⟩:=h;refine⟨n,.normal,aA,ao,?_,h3⟩;simp only[exec,h1];cases d with
 |false=>simp
 |true=>simpa using h2
theorem agx{R:Env->aw->List cy->Prop}{tr:List cy}(h:R ak aj tr):WO S al [] R ak aj tr:=⟨0,ak,aj,[],rfl,by simpa using h⟩
theorem Oz{o:bI}{os:List bI}{R:Env->aw->List cy->Prop}{tr:List cy}{n:Nat}{ft:Env}{cn:aw}{e:cy}
  (h1:step1 (S.ctx al) (fZ S n) (gb S n) o ak aj=some (ft,cn,e)) (h:WO S al os R ft cn (tr++[e])):WO S al (o::os) R ak aj tr:=by
 obtain⟨m,aA,ao,es,h2,h3⟩:=h;refine⟨max n m,aA,ao,e::es,?_,by simpa using h3⟩;simp only[steps];rw[afa (DU S (HV n m)) (Lk S (HV n m)) h1];simp[asu S (KW n m) h2]
def Gl(S:Sys)(al:Al)(p:fq)(d:Option Nat)(ak:Env)(aj:aw)(tr:List cy)(K:Env->aw->List cy->Prop):Prop:=
 match p with
 | .fail=>False
 | .done v u r=>al.fG (r++u.map (·.1))=true/\K (put ak d v) (app u aj) (tr++[⟨r,u.map (·.1),[]⟩])
 | .pc f vs r s=>∃x,aF S f vs x/\match land aj r s (x.eD (S.lone s)) with
  |some (v,u)=>al.fG (r++u.map (·.1))=true/\K (put ak d v) (app u aj) (tr++[⟨r++u.map (·.1),u.map (·.1),[]⟩])
  |none=>False
 | .sc f vs=>al.holds (allow (S.ctx al) f vs aj)=true/\ ∃v ao,iw S f vs (allow (S.ctx al) f vs aj) aj v ao/\
   K (put ak d v) ao (tr++[⟨(allow (S.ctx al) f vs aj).ids,(allow (S.ctx al) f vs aj).ids,(allow (S.ctx al) f vs aj).fs⟩])
def El(S:Sys)(al:Al)(w:Option Bool)(o:bI)(ak:Env)(aj:aw)(tr:List cy)(K:Env->aw->List cy->Prop):Prop:=
 match w with
 |none=>False
 |some false=>K (put ak o.dst .undef) aj (tr++[⟨[],[],[]⟩])
 |some true=>Gl S al (bG S.shared ak aj o.op) o.dst ak aj tr K
@[simp] theorem Al.DQ (l:List Nat):Al.all.fG l=true:=by simp[Al.fG,Al.ok,Al.all]
@[simp] theorem Al.atS (b:Al):Al.all.holds b=true:=rfl
theorem agy{o:bI}{os:List bI}{R:Env->aw->List cy->Prop}{tr:List cy}
  (h:El S al (wanted ak o.guard) o ak aj tr (WO S al os R)):WO S al (o::os) R ak aj tr:=by
 cases hw:wanted ak o.guard with
 |none=>simp[hw,El] at h
 |some b=>
  cases b with
  |false=>rw[hw] at h;exact Oz (n:=0) (by simp[step1,hw]) h
  |true=>
   rw[hw] at h;simp only[El] at h;have lU:(S.ctx al).shared=S.shared:=rfl;have gY:(S.ctx al).al=al:=rfl;have eJ:(S.ctx al).lone=S.lone:=rfl;cases cK:bG S.shared ak aj o.op with
   |fail=>simp[cK,Gl] at h
   |done v u r=>rw[cK] at h;obtain⟨h1,h⟩:=h;exact Oz (n:=0) (by simp only[step1,hw,lU,gY,cK,h1,if_true]) h
   |pc f vs r s=>
    rw[cK] at h;obtain⟨x,⟨n,hx⟩,h⟩:=h;cases hl:land aj r s (x.eD (S.lone s)) with
    |none=>simp[hl] at h
    |some y=>obtain⟨v,u⟩:=y;simp only[hl] at h;obtain⟨h1,h⟩:=h;exact Oz (n:=n) (by simp only[step1,hw,lU,gY,eJ,cK,hx,hl,h1,if_true]) h
   |sc f vs=>rw[cK] at h;obtain⟨h1,v,ao,⟨n,hx⟩,h⟩:=h;exact Oz (n:=n) (by simp only[step1,hw,lU,gY,cK,h1,if_true,hx]) h
end
end Go.Abs
namespace Go.Abs
variable {S:Sys} {al:Al}
def qS(al:Al)(res:List (Nat×Option (Option Nat)))(R:V->aw->Prop):dy
 | .exit _,_,_=>False
 |_,ak,aj=>match oE al ak aj res with
  |some vs=>R (An vs) aj
  |none=>False
theorem Sh{fn:aS}{args:List V}{aj:aw}{R:V->aw->Prop}(h:W S al fn.body (qS al fn.results R) (sk args) aj):
  ∃n v ao,rI (S.ctx al) (fZ S n) (gb S n) n fn args aj=some (v,ao)/\R v ao:=by
 obtain⟨n,e,aA,ao,h1,h2⟩:=h;refine⟨n,?_⟩;unfold rI;rw[h1];cases e with
 |exit i=>exact h2.elim
 |normal=>
  simp only[qS] at h2;split at h2
  .rename_i vs hv;exact⟨_,_,by simp only[show(S.ctx al).al=al from rfl,hv,kU],h2⟩
  exact h2.elim
 |ret=>
  simp only[qS] at h2;split at h2
  .rename_i vs hv;exact⟨_,_,by simp only[show(S.ctx al).al=al from rfl,hv,kU],h2⟩
  exact h2.elim
theorem agp{f:Nat}{fn:aS}{args:List V}{r:RV}(hp:S.prim f args=none)(hf:S.fns f=some fn)(hl:args.length<=fn.ntmps)
  (h:W S .all fn.body (qS .all fn.results fun v aj=>gh aj v=some r) (sk args) vG):aF S f args r:=by
 obtain⟨n,v,ao,h1,h2⟩:=Sh h;refine⟨n+1,?_⟩;rw[fZ];simp only[hp,hf,hl,if_true];unfold Fy;rw[h1];exact h2
theorem mV{f:Nat}{fn:aS}{args:List V}{aj:aw}{R:V->aw->Prop}(hf:S.fns f=some fn)(hl:args.length<=fn.ntmps)
  (h:W S al fn.body (qS al fn.results R) (sk args) aj) (ht:S.trig f args=false:=by rfl):∃v ao,iw S f args al aj v ao/\R v ao:=by
 obtain⟨n,v,ao,h1,h2⟩:=Sh h;refine⟨v,ao,⟨n+1,?_⟩,h2⟩;rw[gb];simp only[ht,dQ,if_false,hf,hl,if_true];exact h1
end Go.Abs
namespace Go.Abs
variable {S:Sys} {al:Al} {Q:dy} {ak:Env} {aj:aw}
theorem Xo:W S al .skip Q ak aj↔Q .normal ak aj:=⟨fun⟨_,_,_,_,h,q⟩=>by simp[exec] at h;obtain⟨rfl,rfl,rfl⟩:=h;exact q,agK⟩
theorem Xl{id:Nat}:W S al (.exit id) Q ak aj↔Q (.exit id) ak aj:=⟨fun⟨_,_,_,_,h,q⟩=>by simp[exec] at h;obtain⟨rfl,rfl,rfl⟩:=h;exact q,agD⟩
theorem Xn:W S al .ret Q ak aj↔Q .ret ak aj:=⟨fun⟨_,_,_,_,h,q⟩=>by simp[exec] at h;obtain⟨rfl,rfl,rfl⟩:=h;exact q,agG⟩
theorem agI{a b:aH}:W S al (.seq a b) Q ak aj↔W S al a (NT (W S al b Q) Q) ak aj:=by
 refine⟨?_,agH⟩;rintro ⟨n,e,aA,ao,h,q⟩
 simp only[exec] at h;cases h1:exec (S.ctx al) (fZ S n) (gb S n) n a ak aj with
 |none=>simp[h1] at h
 |some x=>
  obtain⟨e1,ft,cn⟩:=x;refine⟨n,e1,ft,cn,h1,?_⟩;cases e1 with
  |normal=>simp only[h1] at h;exact⟨n,e,aA,ao,h,q⟩
  |exit i=>simp[h1] at h;obtain⟨rfl,rfl,rfl⟩:=h;exact q
  |ret=>simp[h1] at h;obtain⟨rfl,rfl,rfl⟩:=h;exact q
def Iv(v:V)(A B:Prop):Prop:=
 match v with
 | .one (.p (.bool t))=>if t=true then A else B
 |_=>False
theorem agB{x:aQ}{a b:aH}:W S al (.cond x a b) Q ak aj↔Iv (ev ak x) (W S al a Q ak aj) (W S al b Q ak aj):=by
 constructor
 .rintro ⟨n,e,aA,ao,h,q⟩
  simp only[exec] at h;split at h
  .rename_i t ht;rw[ht];simp only[Iv];cases t with
   |true=>exact⟨n,e,aA,ao,by simpa using h,q⟩
   |false=>exact⟨n,e,aA,ao,by simpa using h,q⟩
  cases h
 intro h;unfold Iv at h;split at h
 .rename_i t ht;exact agA ht h
 exact h.elim
theorem Xk{id:Nat}{c:aH}:W S al (.block id c) Q ak aj↔W S al c (lN id Q) ak aj:=by
 refine⟨?_,agz⟩;rintro ⟨n,e,aA,ao,h,q⟩
 simp only[exec] at h;cases h1:exec (S.ctx al) (fZ S n) (gb S n) n c ak aj with
 |none=>simp[h1] at h
 |some x=>
  obtain⟨e1,ft,cn⟩:=x;refine⟨n,e1,ft,cn,h1,?_⟩;cases e1 with
  |normal=>simp[h1] at h;obtain⟨rfl,rfl,rfl⟩:=h;exact q
  |ret=>simp[h1] at h;obtain⟨rfl,rfl,rfl⟩:=h;exact q
  |exit i=>
   simp only[h1] at h;simp only[lN];split at h
   .rename_i hi;simp at h;obtain⟨rfl,rfl,rfl⟩:=h;rw[aD hi];exact q
   rename_i hi;simp at h;obtain⟨rfl,rfl,rfl⟩:=h;rw[ay hi];exact q
theorem Sg{R:Env->aw->List cy->Prop}{tr:List cy}:WO S al [] R ak aj tr↔R ak aj tr:=by
 refine⟨?_,agx⟩;rintro ⟨n,aA,ao,es,h,q⟩
 simp[steps] at h;obtain⟨rfl,rfl,rfl⟩:=h
 simpa using q
theorem OA{o:bI}{os:List bI}{R:Env->aw->List cy->Prop}{tr:List cy}:
  WO S al (o::os) R ak aj tr↔El S al (wanted ak o.guard) o ak aj tr (WO S al os R):=by
 refine⟨?_,agy⟩;rintro ⟨n,aA,ao,es,h,q⟩
 simp only[steps] at h;cases h1:step1 (S.ctx al) (fZ S n) (gb S n) o ak aj with
 |none=>simp[h1] at h
 |some x=>
  obtain⟨ft,cn,e⟩:=x;simp only[h1] at h;cases h2:steps (S.ctx al) (fZ S n) (gb S n) os ft cn with
  |none=>simp[h2] at h
  |some y=>
   obtain⟨dp,ba,es2⟩:=y;simp[h2] at h;obtain⟨rfl,rfl,rfl⟩:=h;have hk:WO S al os R ft cn (tr++[e]):=⟨n,_,_,es2,h2,by simpa using q⟩;unfold step1 at h1;cases hw:wanted ak o.guard with
   |none=>simp[hw] at h1
   |some b=>
    cases b with
    |false=>simp[hw] at h1;obtain⟨rfl,rfl,rfl⟩:=h1;exact hk
    |true=>
     simp only[hw] at h1;simp only[El];have lU:(S.ctx al).shared=S.shared:=rfl;have gY:(S.ctx al).al=al:=rfl;have eJ:(S.ctx al).lone=S.lone:=rfl;simp only[lU,gY,eJ] at h1;cases cK:bG S.shared ak aj o.op with
     |fail=>simp[cK] at h1
     |done v u r=>
      simp only[cK] at h1;split at h1
      .rename_i au;cases h1;exact⟨au,hk⟩
      cases h1
     |pc f vs r s=>
      simp only[cK] at h1;cases hc:fZ S n f vs with
      |none=>simp[hc] at h1
      |some x=>
       simp only[hc] at h1;refine⟨x,⟨n,hc⟩,?_⟩;cases hl:land aj r s (x.eD (S.lone s)) with
       |none=>simp[hl] at h1
       |some y=>
        obtain⟨v,u⟩:=y;simp only[hl] at h1;split at h1
        .rename_i au;cases h1;exact⟨au,hk⟩
        cases h1
     |sc f vs=>
      simp only[cK] at h1;split at h1
      .rename_i au;cases hc:gb S n f vs (allow (S.ctx al) f vs aj) aj with
       |none=>simp[hc] at h1
       |some x=>obtain⟨v,b⟩:=x;simp only[hc] at h1;cases h1;exact⟨au,v,_,⟨n,hc⟩,hk⟩
      cases h1
theorem Xm{d:Bool}{ops:List bI}:W S al (.region d ops) Q ak aj↔WO S al ops (fun ak aj es=>(d=true->rF ops [] es=true)/\Q .normal ak aj) ak aj []:=by
 refine⟨?_,agF⟩;rintro ⟨n,e,aA,ao,h,q⟩
 simp only[exec] at h;cases h1:steps (S.ctx al) (fZ S n) (gb S n) ops ak aj with
 |none=>simp[h1] at h
 |some x=>
  obtain⟨ft,cn,es⟩:=x;simp only[h1] at h;cases d with
  |false=>simp at h;obtain⟨rfl,rfl,rfl⟩:=h;exact⟨n,_,_,es,h1,af,q⟩
  |true=>simp at h;obtain⟨hd,rfl,rfl,rfl⟩:=h;exact⟨n,_,_,es,h1,fun _=>by simpa using hd,q⟩
end Go.Abs
namespace Go.Abs
inductive cD (w:World) (own:Nat->Prop):PV->Value->Prop where
 |bool (b:Bool):cD w own (.bool b) (.bool b)
 |int (k:IntKind) (n:Int):cD w own (.int k n) (.int k n)
 |str (s:ByteArray):cD w own (.str s) (.string s)
 |uR:cD w own .uR (.pointer none)
 |nils:cD w own .nils (.slice none 0 0)
 |rD:cD w own .rD (.map none)
 |yz:cD w own .yz .nilFunc
 |nili:cD w own .nili .nilIface
 |ifc (d:TypeId) (x:Value):cD w own .ifc (.iface d x)
 |zs (a:Option Addr):cD w own .zs (.slice a 0 0)
 |box {cs:List PV} (b o:Nat) (f:Nat->Value) (ho:cs≠[]-> ¬own b)
   (hc:∀(j:Nat) (x:PV),cs[j]?=some x->w.cell? ⟨b,o+j,none⟩=some (f j))
   (hr:∀(j:Nat) (x:PV),cs[j]?=some x->cD w own x (f j)):cD w own (.box cs) (.pointer (some ⟨b,o,none⟩))
 |yE (a:Option Addr) (cap:Nat) (hn:a=none->cap=0) (hm:cap<=maxLen):cD w own (.sl []) (.slice a 0 cap)
 |sl {es:List (List PV)} (b o cap sz:Nat) (f:Nat->Value) (ho:es.flatten≠[]-> ¬own b) (hl:es.length<=cap) (hm:cap<=maxLen) (cA:∀e∈es,e.length=sz)
   (hc:∀(j:Nat) (x:PV),es.flatten[j]?=some x->w.cell? ⟨b,o+j,none⟩=some (f j))
   (hr:∀(j:Nat) (x:PV),es.flatten[j]?=some x->cD w own x (f j)):cD w own (.sl es) (.slice (some ⟨b,o,none⟩) es.length cap)
 |mp {ag:Bool} {es:List (PV×List PV)} (r:Nat) (ents:Array MapEntry) (clock:Nat) (g:Nat->Array Value) (ho:¬own r) (hb:w.heap[r]?=some (.map ents clock)) (hl:ents.size=es.length)
   (hk:∀(i:Nat) (q:PV) (v:List PV) (e:MapEntry),es[i]?=some (q,v)->ents[i]?=some e->cD w own q e.key)
   (hv:∀(i:Nat) (q:PV) (v:List PV) (e:MapEntry),es[i]?=some (q,v)->ents[i]?=some e->(g i).size=v.length/\(ag=true->e.val=.agg (g i))/\(ag=false-> #[e.val]=g i))
   (hr:∀(i:Nat) (q:PV) (v:List PV) (j:Nat) (x:PV) (u:Value),es[i]?=some (q,v)->v[j]?=some x->(g i)[j]?=some u->cD w own x u):cD w own (.mp ag es) (.map (some r))
 |fn {f:Nat} {a b:List PV} (A B:Array Value) (ha:A.size=a.length) (hb:B.size=b.length)
   (vw:∀(j:Nat) (x:PV) (u:Value),a[j]?=some x->A[j]?=some u->cD w own x u)
   (vx:∀(j:Nat) (x:PV) (u:Value),b[j]?=some x->B[j]?=some u->cD w own x u):cD w own (.fn f a b) (.func (.func f) A B)
theorem cD.Np{w:World}{own:Nat->Prop}{x:PV}{v:Value}(h:cD w own x v):v.oneCell'=true:=by cases h<;>rfl
theorem cD.cells{w:World}{own:Nat->Prop}{x:PV}{v:Value}(h:cD w own x v):v.cells= #[v]:=by cases h<;>rfl
theorem X3{w:World}{b o:Nat}{v:Value}(h:w.cell? ⟨b,o,none⟩=some v):b<w.heap.size:=World.block_lt_of_cell? w ⟨b,o,none⟩ h
theorem vp{w:World}{b:Nat}{o:Obj}(h:w.heap[b]?=some o):b<w.heap.size:=(Ru.1 h).1
theorem cD.mono{w w':World}{own Aa:Nat->Prop}(hk:∀c,c<w.heap.size-> ¬own c->w'.heap[c]?=w.heap[c]? /\ ¬Aa c){x:PV}{v:Value}
  (h:cD w own x v):cD w' Aa x v:=by
 induction h with
 |bool b=>exact .bool b
 |int k n=>exact .int k n
 |str s=>exact .str s
 |uR=>exact .uR
 |nils=>exact .nils
 |rD=>exact .rD
 |yz=>exact .yz
 |nili=>exact .nili
 |ifc d x=>exact .ifc d x
 |zs a=>exact .zs a
 | @box cs b o f ho hc _ ih=>
  cases cs with
  |nil=>exact .box b o f (fun h=>(h rfl).elim) (fun j x h=>by simp at h) (fun j x h=>by simp at h)
  |cons c r=>have hb:=X3 (hc 0 c rfl);have hn:=ho af;refine .box b o f (fun _=>(hk b hb hn).2) (fun j x h=>?_) ih;rw[World.cell?_of_block (hk b hb hn).1];exact hc j x h
 |yE a cap hn hm=>exact .yE a cap hn hm
 | @sl es b o cap sz f ho hl hm cA hc _ ih=>
  cases hf:es.flatten with
  |nil=>exact .sl b o cap sz f (fun h=>(h hf).elim) hl hm cA (fun j x h=>by simp[hf] at h) (fun j x h=>by simp[hf] at h)
  |cons c r=>have hb:=X3 (hc 0 c (by simp[hf]));have hn:=ho (by simp[hf]);refine .sl b o cap sz f (fun _=>(hk b hb hn).2) hl hm cA (fun j x h=>?_) ih;rw[World.cell?_of_block (hk b hb hn).1];exact hc j x h
 | @mp ag es r ents clock g ho hb hl _ hv _ ihk ihr=>exact .mp r ents clock g (hk r (vp hb) ho).2 ((hk r (vp hb) ho).1.trans hb) hl ihk hv ihr
 |fn A B ha hb _ _ iha ihb=>exact .fn A B ha hb iha ihb
structure Mem where
 w:World
 aj:aw
 σ:Nat->Nat
 κ:Nat->Nat
 fr:Nat->Prop
def Ob.fK:Ob->Bool
 | .var _| .arr _ _ _| .gU _ _ _| .map _ _=>true
 |_=>false
def kD:Nat×Option Ob->Option Nat
 |(_,some (.arr _ sz _))=>some sz
 |(_,some (.gU _ sz _))=>some sz
 |(_,some (.oY _ sz _))=>some sz
 |_=>none
def Mem.fK(m:Mem)(c:Nat):Prop:= ∃id o,(m.aj id).2=some o/\o.fK=true/\m.σ id=c
def Mem.own(m:Mem)(c:Nat):Prop:=m.fr c\/m.fK c
inductive cT (m:Mem):C->Value->Prop where
 |p {x:PV} {v:Value} (h:cD m.w m.own x v):cT m (.p x) v
 |aX {id g off:Nat} (a:Addr) (hg:g<=(m.aj id).1) (h:(m.aj id).1=g->(m.aj id).2.isSome=true->a=⟨m.σ id,off,none⟩):cT m (.aX id g off) (.pointer (some a))
 |de {id g i off:Nat} (a:Addr) (hg:g<=(m.aj id).1) (h:∀sz,(m.aj id).1=g->kD (m.aj id)=some sz->a=⟨m.σ id,i*sz+off,none⟩):cT m (.de id g i off) (.pointer (some a))
 |hsl {id g z off len:Nat} (a:Addr) (cap:Nat) (hg:g<=(m.aj id).1) (hl:len<=cap) (hm:cap<=maxLen)
   (h:∀sz,(m.aj id).1=g->kD (m.aj id)=some sz->sz=z/\(off=0\/0<len->a=⟨m.σ id,off*sz,none⟩)/\off+cap=m.κ id):
   cT m (.hsl id g z off len) (.slice (some a) len cap)
 |jW {id g:Nat} (r:Nat) (hg:g<=(m.aj id).1) (h:(m.aj id).1=g->(m.aj id).2.isSome=true->r=m.σ id):cT m (.jW id g) (.map (some r))
 |hfn {f:Nat} {a b:List C} (A B:Array Value) (ha:A.size=a.length) (hb:B.size=b.length)
   (vw:∀(j:Nat) (x:C) (u:Value),a[j]?=some x->A[j]?=some u->cT m x u)
   (vx:∀(j:Nat) (x:C) (u:Value),b[j]?=some x->B[j]?=some u->cT m x u):cT m (.hfn f a b) (.func (.func f) A B)
theorem cT.Np{m:Mem}{x:C}{v:Value}(h:cT m x v):v.oneCell'=true:=by
 cases h with
 |p h=>exact h.Np
 |_=>rfl
theorem cT.cells{m:Mem}{x:C}{v:Value}(h:cT m x v):v.cells= #[v]:=by
 cases h with
 |p h=>exact h.cells
 |_=>rfl
def df(m:Mem)(cs:List C)(vs:List Value):Prop:=vs.length=cs.length/\ ∀(j:Nat) (x:C) (u:Value),cs[j]?=some x->vs[j]?=some u->cT m x u
def dd(w:World)(own:Nat->Prop)(cs:List PV)(vs:List Value):Prop:=vs.length=cs.length/\ ∀(j:Nat) (x:PV) (u:Value),cs[j]?=some x->vs[j]?=some u->cD w own x u
def nJ(m:Mem):V->Value->Prop
 | .undef,v=>v=undef
 | .one c,v=>cT m c v
 | .agg cs,v=>∃arr,v=.agg arr/\df m cs arr.toList
 | .tup _,_=>False
def bU(m:Mem):V->Value->Prop
 | .tup vs,v=>∃arr,v=.tuple arr/\arr.size=vs.length/\ ∀(j:Nat) (x:V) (u:Value),vs[j]?=some x->arr[j]?=some u->nJ m x u
 |x,v=>nJ m x v
def tH(m:Mem)(id:Nat):Ob->Prop
 | .var cs=>∃cur ty,m.w.heap[m.σ id]?=some (.cells cur ty (0,0))/\df m cs cur.toList
 | .fvar cs=>∃cur ty fz,m.w.heap[m.σ id]?=some (.cells cur ty fz)/\dd m.w m.own cs cur.toList/\ ¬m.own (m.σ id)
 | .arr ty sz es=>∃cur,m.w.heap[m.σ id]?=some (.cells cur ty (0,0))/\0<sz/\(∀e∈es,e.length=sz)/\es.length<=m.κ id/\m.κ id<=maxLen/\cur.size=m.κ id*sz/\
   dd m.w m.own es.flatten (cur.toList.take (es.length*sz))
 | .oY ty sz es=>∃cur fz,m.w.heap[m.σ id]?=some (.cells cur ty fz)/\0<sz/\(∀e∈es,e.length=sz)/\es.length<=m.κ id/\m.κ id<=maxLen/\cur.size=m.κ id*sz/\
   dd m.w m.own es.flatten (cur.toList.take (es.length*sz))/\ ¬m.own (m.σ id)
 | .gU ty sz es=>∃cur,m.w.heap[m.σ id]?=some (.cells cur ty (0,0))/\0<sz/\(∀e∈es,e.length=sz)/\es.length<=m.κ id/\m.κ id<=maxLen/\cur.size=m.κ id*sz/\
   df m es.flatten (cur.toList.take (es.length*sz))
 | .map ag es=>∃ents clock,m.w.heap[m.σ id]?=some (.map ents clock)/\ents.size=es.length/\
   ∀(i:Nat) (q:PV) (v:List PV) (e:MapEntry),es[i]?=some (q,v)->ents[i]?=some e->cD m.w m.own q e.key/\ ∃g:Array Value,(ag=true->e.val=.agg g)/\(ag=false-> #[e.val]=g)/\dd m.w m.own v g.toList
 | .fmap ag es=>∃ents clock,m.w.heap[m.σ id]?=some (.map ents clock)/\ents.size=es.length/\
   (∀(i:Nat) (q:PV) (v:List PV) (e:MapEntry),es[i]?=some (q,v)->ents[i]?=some e->cD m.w m.own q e.key/\ ∃g:Array Value,(ag=true->e.val=.agg g)/\(ag=false-> #[e.val]=g)/\dd m.w m.own v g.toList)/\ ¬m.own (m.σ id)
structure Ok (w0:World) (m:Mem):Prop where
 os:m.w.os=w0.os
 tape:m.w.tape=w0.tape
 output:m.w.output=w0.output
 size:w0.heap.size<=m.w.heap.size
 base:∀c,c<w0.heap.size->m.w.heap[c]?=w0.heap[c]?
 obj:∀id o,(m.aj id).2=some o->tH m id o
 fi:∀id o,(m.aj id).2=some o->o.fK=true->w0.heap.size<=m.σ id/\ ¬m.fr (m.σ id)
 frlt:∀c,m.fr c->c<m.w.heap.size
 inj:∀id eZ o o',(m.aj id).2=some o->o.fK=true->(m.aj eZ).2=some o'->o'.fK=true->m.σ id=m.σ eZ->id=eZ
structure Ev (m m':Mem):Prop where
 os:m'.w.os=m.w.os
 tape:m'.w.tape=m.w.tape
 output:m'.w.output=m.w.output
 size:m.w.heap.size<=m'.w.heap.size
 keep:∀c,c<m.w.heap.size-> ¬m.fK c->m'.w.heap[c]?=m.w.heap[c]?
 fK:∀c,c<m.w.heap.size->m'.fK c->m.fK c
 less:∀c,c<m.w.heap.size-> ¬m.own c-> ¬m'.own c
 gen:∀id,(m.aj id).1<=(m'.aj id).1
 ref:∀id,(m'.aj id).1=(m.aj id).1->(m'.aj id).2.isSome=true->(m.aj id).2.isSome=true/\m'.σ id=m.σ id/\m'.κ id=m.κ id/\kD (m'.aj id)=kD (m.aj id)
theorem Ev.refl(m:Mem):Ev m m:=⟨rfl,rfl,rfl,bJ _,fun _ _ _=>rfl,fun _ _ h=>h,fun _ _ h=>h,fun _=>bJ _,fun _ _ h=>⟨h,rfl,rfl,rfl⟩⟩
theorem Ev.trans{a b c:Mem}(h:Ev a b)(k:Ev b c):Ev a c where
 os:=k.os.trans h.os
 tape:=k.tape.trans h.tape
 output:=k.output.trans h.output
 size:=mD h.size k.size
 keep x hx hm:=(k.keep x (DJ hx h.size) fun hb=>hm (h.fK x hx hb)).trans (h.keep x hx hm)
 fK x hx hm:=h.fK x hx (k.fK x (DJ hx h.size) hm)
 less x hx hn:=k.less x (DJ hx h.size) (h.less x hx hn)
 gen id:=mD (h.gen id) (k.gen id)
 ref id he hs:=by have h1:=h.gen id;have h2:=k.gen id;obtain⟨s1,e1,e2,e3⟩:=k.ref id aa hs;obtain⟨s2,f1,f2,f3⟩:=h.ref id aa s1;exact⟨s2,e1.trans f1,e2.trans f2,e3.trans f3⟩
theorem Ev.own{m m':Mem}(h:Ev m m'):∀c,c<m.w.heap.size-> ¬m.own c->m'.w.heap[c]?=m.w.heap[c]? /\ ¬m'.own c:=fun c hc hn=>⟨h.keep c hc fun hm=>hn (.inr hm),h.less c hc hn⟩
theorem afj{x:Nat×Option Ob}{sz:Nat}(h:kD x=some sz):x.2.isSome=true:=by
 obtain⟨g,o⟩:=x;cases o with
 |none=>simp[kD] at h
 |some o=>rfl
structure uw (m m':Mem):Prop where
 own:∀c,c<m.w.heap.size-> ¬m.own c->m'.w.heap[c]?=m.w.heap[c]? /\ ¬m'.own c
 gen:∀id,(m.aj id).1<=(m'.aj id).1
 ref:∀id,(m'.aj id).1=(m.aj id).1->(m'.aj id).2.isSome=true->(m.aj id).2.isSome=true/\m'.σ id=m.σ id/\m'.κ id=m.κ id/\kD (m'.aj id)=kD (m.aj id)
theorem Ev.zero{m m':Mem}(h:Ev m m'):uw m m':=⟨h.own,h.gen,h.ref⟩
theorem cD.ev{m m':Mem}(h:uw m m'){x:PV}{v:Value}(hr:cD m.w m.own x v):cD m'.w m'.own x v:=hr.mono h.own
theorem cT.ev{m m':Mem}(h:uw m m'){x:C}{v:Value}(hr:cT m x v):cT m' x v:=by
 induction hr with
 |p hp=>exact .p (hp.ev h)
 | @aX id g off a hg ha=>have T3:=h.gen id;refine .aX a aa fun GA hs=>?_;obtain⟨s,e1,_,_⟩:=h.ref id aa hs;rw[e1];exact ha aa s
 | @de id g i off a hg ha=>have T3:=h.gen id;refine .de a aa fun sz GA hs=>?_;obtain⟨s,e1,_,e3⟩:=h.ref id aa (afj hs);rw[e1];exact ha sz aa (e3▸hs)
 | @hsl id g z off len a cap hg hl hm ha=>have T3:=h.gen id;refine .hsl a cap aa hl hm fun sz GA hs=>?_;obtain⟨s,e1,e2,e3⟩:=h.ref id aa (afj hs);rw[e1,e2];exact ha sz aa (e3▸hs)
 | @jW id g r hg hr=>have T3:=h.gen id;refine .jW r aa fun GA hs=>?_;obtain⟨s,e1,_,_⟩:=h.ref id aa hs;rw[e1];exact hr aa s
 |hfn A B ha hb _ _ iha ihb=>exact .hfn A B ha hb iha ihb
theorem df.ev{m m':Mem}(h:uw m m'){cs:List C}{vs:List Value}(hr:df m cs vs):df m' cs vs:=⟨hr.1,fun j x u a b=>(hr.2 j x u a b).ev h⟩
theorem dd.mono{w w':World}{own Aa:Nat->Prop}(hk:∀c,c<w.heap.size-> ¬own c->w'.heap[c]?=w.heap[c]? /\ ¬Aa c){cs:List PV}{vs:List Value}
  (hr:dd w own cs vs):dd w' Aa cs vs:=⟨hr.1,fun j x u a b=>(hr.2 j x u a b).mono hk⟩
theorem dd.ev{m m':Mem}(h:uw m m'){cs:List PV}{vs:List Value}(hr:dd m.w m.own cs vs):dd m'.w m'.own cs vs:=hr.mono h.own
theorem nJ.ev{m m':Mem}(h:uw m m'){x:V}{v:Value}(hr:nJ m x v):nJ m' x v:=by
 cases x with
 |undef=>exact hr
 |one c=>exact cT.ev h hr
 |agg cs=>obtain⟨arr,e,hc⟩:=hr;exact⟨arr,e,hc.ev h⟩
 |tup vs=>exact hr.elim
theorem bU.ev{m m':Mem}(h:uw m m'){x:V}{v:Value}(hr:bU m x v):bU m' x v:=by
 cases x with
 |tup vs=>obtain⟨arr,e,hs,hc⟩:=hr;exact⟨arr,e,hs,fun j x u a b=>(hc j x u a b).ev h⟩
 |undef=>exact nJ.ev (x:=.undef) h hr
 |one c=>exact nJ.ev (x:=.one c) h hr
 |agg cs=>exact nJ.ev (x:=.agg cs) h hr
theorem tH.ev{m m':Mem}(h:uw m m'){id:Nat}{o:Ob}(hs:m'.σ id=m.σ id)(hk:m'.κ id=m.κ id)(hh:m'.w.heap[m.σ id]?=m.w.heap[m.σ id]?)
  (hr:tH m id o):tH m' id o:=by
 cases o with
 |var cs=>obtain⟨cur,ty,a,b⟩:=hr;exact⟨cur,ty,by rw[hs,hh];exact a,b.ev h⟩
 |fvar cs=>obtain⟨cur,ty,fz,a,b,c⟩:=hr;exact⟨cur,ty,fz,by rw[hs,hh];exact a,b.ev h,by rw[hs];exact(h.own _ (vp a) c).2⟩
 |arr ty sz es=>obtain⟨cur,a,b,c,d,e,f,g⟩:=hr;exact⟨cur,by rw[hs,hh];exact a,b,c,by rw[hk];exact d,by rw[hk];exact e,by rw[hk];exact f,g.ev h⟩
 |oY ty sz es=>obtain⟨cur,fz,a,b,c,d,e,f,g,i⟩:=hr;exact⟨cur,fz,by rw[hs,hh];exact a,b,c,by rw[hk];exact d,by rw[hk];exact e,by rw[hk];exact f,g.ev h,by rw[hs];exact(h.own _ (vp a) i).2⟩
 |gU ty sz es=>obtain⟨cur,a,b,c,d,e,f,g⟩:=hr;exact⟨cur,by rw[hs,hh];exact a,b,c,by rw[hk];exact d,by rw[hk];exact e,by rw[hk];exact f,g.ev h⟩
 |map ag es=>obtain⟨ents,clock,a,b,c⟩:=hr;exact⟨ents,clock,by rw[hs,hh];exact a,b,fun i q v e x y=>let ⟨p,g,g1,g2,g3⟩:=c i q v e x y;⟨p.ev h,g,g1,g2,g3.ev h⟩⟩
 |fmap ag es=>obtain⟨ents,clock,a,b,c,d⟩:=hr;exact⟨ents,clock,by rw[hs,hh];exact a,b,fun i q v e x y=>let ⟨p,g,g1,g2,g3⟩:=c i q v e x y;⟨p.ev h,g,g1,g2,g3.ev h⟩,by rw[hs];exact(h.own _ (vp a) d).2⟩
theorem tH.lt{m:Mem}{id:Nat}{o:Ob}(hr:tH m id o):m.σ id<m.w.heap.size:=by
 cases o with
 |var cs=>obtain⟨cur,ty,a,_⟩:=hr;exact vp a
 |fvar cs=>obtain⟨cur,ty,fz,a,_⟩:=hr;exact vp a
 |arr ty sz es=>obtain⟨cur,a,_⟩:=hr;exact vp a
 |oY ty sz es=>obtain⟨cur,fz,a,_⟩:=hr;exact vp a
 |gU ty sz es=>obtain⟨cur,a,_⟩:=hr;exact vp a
 |map ag es=>obtain⟨ents,clock,a,_⟩:=hr;exact vp a
 |fmap ag es=>obtain⟨ents,clock,a,_⟩:=hr;exact vp a
theorem tH.calm{m:Mem}{id:Nat}{o:Ob}(hr:tH m id o)(ho:o.fK=false):¬m.own (m.σ id):=by
 cases o with
 |fvar cs=>obtain⟨cur,ty,fz,_,_,c⟩:=hr;exact c
 |oY ty sz es=>obtain⟨cur,fz,_,_,_,_,_,_,_,c⟩:=hr;exact c
 |fmap ag es=>obtain⟨_,_,_,_,_,c⟩:=hr;exact c
 |_=>simp[Ob.fK] at ho
end Go.Abs
namespace Go.Abs
variable {w0:World}
section
variable{m:Mem}
structure fH (w w':World):Prop where
 os:w'.os=w.os
 tape:w'.tape=w.tape
 output:w'.output=w.output
 size:w.heap.size<=w'.heap.size
 keep:∀c,c<w.heap.size->w'.heap[c]?=w.heap[c]?
theorem fH.refl(w:World):fH w w:=⟨rfl,rfl,rfl,bJ _,fun _ _=>rfl⟩
theorem fH.trans{a b c:World}(h:fH a b)(k:fH b c):fH a c:=
 ⟨k.os.trans h.os,k.tape.trans h.tape,k.output.trans h.output,mD h.size k.size,fun x hx=>(k.keep x (DJ hx h.size)).trans (h.keep x hx)⟩
theorem fH.alloc(w:World)(o:Obj):fH w (w.alloc o):=⟨rfl,rfl,rfl,af,fun _ hc=>heap_alloc_old w o hc⟩
theorem fH.drew(w:World):fH w w.drew:=⟨rfl,rfl,rfl,bJ _,fun _ _=>rfl⟩
def Mem.later(m:Mem)(w':World)(X:Nat->Prop):Mem:={m with w:=w',fr:=fun c=>m.fr c\/X c}
theorem ack{w':World}{X:Nat->Prop}{c:Nat}:(m.later w' X).own c↔m.own c\/X c:=by
 unfold Mem.own Mem.fK Mem.later;constructor
 .rintro ((h|h)|h)
  .exact .inl (.inl h)
  .exact .inr h
  exact .inl (.inr h)
 rintro ((h|h)|h)
 .exact .inl (.inl h)
 .exact .inr h
 exact .inl (.inr h)
theorem JH{w':World}{X:Nat->Prop}(hg:fH m.w w')(hX:∀c,X c->m.w.heap.size<=c):Ev m (m.later w' X) where
 os:=hg.os
 tape:=hg.tape
 output:=hg.output
 size:=hg.size
 keep c hc _:=hg.keep c hc
 fK c _ h:=h
 less c hc hn h:=by
  rcases ack.1 h with h|h
  .exact hn h
  have:=hX c h;omega
 gen _:=bJ _
 ref _ _ hs:=⟨hs,rfl,rfl,rfl⟩
theorem M5{w':World}{X:Nat->Prop}(h:Ok w0 m)(hg:fH m.w w')(hX:∀c,X c->m.w.heap.size<=c/\c<w'.heap.size):Ok w0 (m.later w' X) where
 os:=hg.os.trans h.os
 tape:=hg.tape.trans h.tape
 output:=hg.output.trans h.output
 size:=mD h.size hg.size
 base c hc:=(hg.keep c (DJ hc h.size)).trans (h.base c hc)
 obj id o ho:=(h.obj id o ho).ev (JH hg fun c hc=>(hX c hc).1).zero rfl rfl (hg.keep _ (h.obj id o ho).lt)
 fi id o ho hm:=by
  refine⟨(h.fi id o ho hm).1,?_⟩;rintro (hf|hx)
  .exact(h.fi id o ho hm).2 hf
  have h1:=(hX _ hx).1;have h2:=(h.obj id o ho).lt;simp only[Mem.later] at h1;omega
 frlt c hc:=by
  rcases hc with hf|hx
  .exact DJ (h.frlt c hf) hg.size
  exact(hX c hx).2
 inj:=h.inj
def Mem.install(m:Mem)(s c k:Nat)(o:Ob):Mem:=⟨m.w,dj m.aj s ((m.aj s).1+1,some o),dj m.σ s c,dj m.κ s k,fun x=>m.fr x/\x≠c⟩
theorem abi{s c k:Nat}{o:Ob}{x:Nat}(h:(m.install s c k o).fK x):x=c\/m.fK x:=by
 obtain⟨id,o',ho,hm,hx⟩:=h;simp only[Mem.install,aN] at ho hx;by_cases hid:id=s
 .simp only[hid,if_true] at hx;exact .inl hx.symm
 simp only[hid,if_false] at ho hx;exact .inr ⟨id,o',ho,hm,hx⟩
theorem P9{s c k:Nat}{o:Ob}(hc:m.fr c){x:Nat}(h:(m.install s c k o).own x):m.own x:=by
 rcases h with h|h
 .exact .inl h.1
 rcases abi h with rfl|h
 .exact .inl hc
 exact .inr h
theorem PZ{m1:Mem}{s c k:Nat}{o:Ob}(h:Ev m m1)(hc:m1.fr c)(hn:m.w.heap.size<=c\/m.fK c):Ev m (m1.install s c k o) where
 os:=h.os
 tape:=h.tape
 output:=h.output
 size:=h.size
 keep:=h.keep
 fK x hx hm:=by
  rcases abi hm with rfl|hm
  .rcases hn with hn|hn
   .omega
   exact hn
  exact h.fK x hx hm
 less x hx dr hm:=h.less x hx dr (P9 hc hm)
 gen id:=by
  simp only[Mem.install,aN];have:=h.gen id;split
  .rename_i e;subst e;simp only;omega
  exact this
 ref id he hs:=by
  have hg:=h.gen id;simp only[Mem.install,aN] at he hs ⊢;by_cases hid:id=s
  .subst hid;simp only[if_true] at he;omega
  simp only[hid,if_false] at he hs ⊢;exact h.ref id he hs
theorem P0{s c k:Nat}{o:Ob}(h:Ok w0 m)(hc:m.fr c)(eJ:w0.heap.size<=c)(ho:tH (m.install s c k o) s o):Ok w0 (m.install s c k o):=by
 have hk:∀x,x<m.w.heap.size-> ¬m.own x->(m.install s c k o).w.heap[x]?=m.w.heap[x]? /\ ¬(m.install s c k o).own x:=fun x _ hn=>⟨rfl,fun h=>hn (P9 hc h)⟩
 have dR:uw m (m.install s c k o):=by
  refine⟨hk,fun id=>?_,fun id he hs=>?_⟩
  .simp only[Mem.install,aN];split
   .rename_i e;subst e;simp only;omega
   exact bJ _
  simp only[Mem.install,aN] at he hs ⊢;by_cases hid:id=s
  .subst hid;simp only[if_true] at he;omega
  simp only[hid,if_false] at he hs ⊢;exact⟨hs,trivial,trivial,trivial⟩
 exact {
  os:=h.os
  tape:=h.tape
  output:=h.output
  size:=h.size
  base:=h.base
  obj:=by
   intro id o' kK;by_cases hid:id=s
   .subst hid;simp only[Mem.install,aN,if_true,fL] at kK;exact kK▸ho
   have hs:(m.install s c k o).σ id=m.σ id:=by simp[Mem.install,aN,hid]
   have tX:(m.install s c k o).κ id=m.κ id:=by simp[Mem.install,aN,hid]
   simp only[Mem.install,aN,hid,if_false] at kK;exact(h.obj id o' kK).ev dR hs tX rfl
  fi:=by
   intro id o' kK hm;by_cases hid:id=s
   .subst hid;simp only[Mem.install,aN,if_true];exact⟨eJ,fun h=>h.2 rfl⟩
   simp only[Mem.install,aN,hid,if_false] at kK ⊢;exact⟨(h.fi id o' kK hm).1,fun hf=>(h.fi id o' kK hm).2 hf.1⟩
  frlt:=fun x hx=>h.frlt x hx.1
  inj:=by
   intro id eZ o1 o2 h1 m1 h2 m2 he;by_cases hid:id=s<;>by_cases wM:eZ=s
   .rw[hid,wM]
   .subst hid;simp only[Mem.install,aN,wM,if_true,if_false] at h2 he;exact((h.fi eZ o2 h2 m2).2 (he▸hc)).elim
   .subst wM;simp only[Mem.install,aN,hid,if_true,if_false] at h1 he;exact((h.fi id o1 h1 m1).2 (he.symm▸hc)).elim
   simp only[Mem.install,aN,hid,wM,if_false] at h1 h2 he;exact h.inj id eZ o1 o2 h1 m1 h2 m2 he}
def Mem.gJ(m:Mem)(id:Nat):Mem:=⟨m.w,dj m.aj id ((m.aj id).1,none),m.σ,m.κ,fun c=>m.fr c\/c=m.σ id⟩
theorem aji{id:Nat}{o:Ob}(ho:(m.aj id).2=some o)(hm:o.fK=true){x:Nat}(h:(m.gJ id).own x):m.own x:=by
 rcases h with (h|h)|⟨eZ,o',h1,h2,h3⟩
 .exact .inl h
 .exact .inr ⟨id,o,ho,hm,h.symm⟩
 simp only[Mem.gJ,aN] at h1 h3;by_cases hid:eZ=id
 .simp[hid] at h1
 simp only[hid,if_false] at h1;exact .inr ⟨eZ,o',h1,h2,h3⟩
theorem Gb{id:Nat}{o:Ob}(ho:(m.aj id).2=some o)(hm:o.fK=true):Ev m (m.gJ id) where
 os:=rfl
 tape:=rfl
 output:=rfl
 size:=bJ _
 keep _ _ _:=rfl
 fK x _ h:=by
  obtain⟨eZ,o',h1,h2,h3⟩:=h;simp only[Mem.gJ,aN] at h1 h3;by_cases hid:eZ=id
  .simp[hid] at h1
  simp only[hid,if_false] at h1;exact⟨eZ,o',h1,h2,h3⟩
 less x _ hn h:=hn (aji ho hm h)
 gen eZ:=by
  simp only[Mem.gJ,aN];split
  .rename_i e;subst e;exact bJ _
  exact bJ _
 ref eZ he hs:=by
  simp only[Mem.gJ,aN] at he hs ⊢;by_cases hid:eZ=id
  .simp[hid] at hs
  simp only[hid,if_false] at he hs ⊢;exact⟨hs,trivial,trivial,trivial⟩
theorem Td{id:Nat}{o:Ob}(h:Ok w0 m)(ho:(m.aj id).2=some o)(hm:o.fK=true):Ok w0 (m.gJ id) where
 os:=h.os
 tape:=h.tape
 output:=h.output
 size:=h.size
 base:=h.base
 obj eZ o' h1:=by
  simp only[Mem.gJ,aN] at h1;by_cases hid:eZ=id
  .simp[hid] at h1
  simp only[hid,if_false] at h1;exact(h.obj eZ o' h1).ev (Gb ho hm).zero rfl rfl rfl
 fi eZ o' h1 h2:=by
  simp only[Mem.gJ,aN] at h1 ⊢;by_cases hid:eZ=id
  .simp[hid] at h1
  simp only[hid,if_false] at h1;refine⟨(h.fi eZ o' h1 h2).1,?_⟩;rintro (hf|hf)
  .exact(h.fi eZ o' h1 h2).2 hf
  exact hid (h.inj eZ id o' o h1 h2 ho hm hf)
 frlt c hc:=by
  rcases hc with hf|rfl
  .exact h.frlt c hf
  exact(h.obj id o ho).lt
 inj JB JC o1 o2 h1 m1 h2 m2 he:=by
  simp only[Mem.gJ,aN] at h1 h2 he;by_cases hid:JB=id
  .simp[hid] at h1
  by_cases wM:JC=id
  .simp[wM] at h2
  simp only[hid,wM,if_false] at h1 h2;exact h.inj JB JC o1 o2 h1 m1 h2 m2 he
def Mem.jZ(m:Mem)(w':World)(id:Nat)(o:Ob):Mem:=⟨w',dj m.aj id ((m.aj id).1,some o),m.σ,m.κ,m.fr⟩
section
variable {m:Mem} {w':World} {id:Nat} {o old:Ob} (ho:(m.aj id).2=some old) (hm:old.fK=true)
include ho hm
theorem aq3{x:Nat}(h:(m.jZ w' id o).own x):m.own x:=by
 rcases h with h|⟨eZ,o',h1,h2,h3⟩
 .exact .inl h
 simp only[Mem.jZ,aN] at h1 h3;by_cases hid:eZ=id
 .exact .inr ⟨id,old,ho,hm,hid▸h3⟩
 simp only[hid,if_false] at h1;exact .inr ⟨eZ,o',h1,h2,h3⟩
theorem NJ(cA:kD ((m.aj id).1,some o)=kD ((m.aj id).1,some old))(zM:w'.os=m.w.os)(ht:w'.tape=m.w.tape)(pz:w'.output=m.w.output)(hs:w'.heap.size=m.w.heap.size)
  (hk:∀c,c≠m.σ id->w'.heap[c]?=m.w.heap[c]?):Ev m (m.jZ w' id o) where
 os:=zM
 tape:=ht
 output:=pz
 size:=FU hs.symm
 keep c _ hn:=hk c fun e=>hn ⟨id,old,ho,hm,e.symm⟩
 fK x _ h:=by
  obtain⟨eZ,o',h1,h2,h3⟩:=h;simp only[Mem.jZ,aN] at h1 h3;by_cases hid:eZ=id
  .exact⟨id,old,ho,hm,hid▸h3⟩
  simp only[hid,if_false] at h1;exact⟨eZ,o',h1,h2,h3⟩
 less x _ hn h:=hn (aq3 ho hm h)
 gen eZ:=by
  simp only[Mem.jZ,aN];split
  .rename_i e;subst e;exact bJ _
  exact bJ _
 ref eZ he hss:=by
  simp only[Mem.jZ,aN] at he hss ⊢;by_cases hid:eZ=id
  .subst hid;refine⟨by simp[ho],trivial,trivial,?_⟩;simp only[if_true];rw[cA,<- ho]
  simp only[hid,if_false] at he hss ⊢;exact⟨hss,trivial,trivial,trivial⟩
theorem Q0(h:Ok w0 m)(cA:kD ((m.aj id).1,some o)=kD ((m.aj id).1,some old))(zM:w'.os=m.w.os)(ht:w'.tape=m.w.tape)(pz:w'.output=m.w.output)(hs:w'.heap.size=m.w.heap.size)
  (hk:∀c,c≠m.σ id->w'.heap[c]?=m.w.heap[c]?) (CH:tH (m.jZ w' id o) id o):Ok w0 (m.jZ w' id o) where
 os:=zM.trans h.os
 tape:=ht.trans h.tape
 output:=pz.trans h.output
 size:=mD h.size (FU hs.symm)
 base c hc:=by have:=(h.fi id old ho hm).1;exact(hk c aa).trans (h.base c hc)
 obj eZ o' h1:=by
  simp only[Mem.jZ,aN] at h1;by_cases hid:eZ=id
  .subst hid;simp only[if_true,fL] at h1;exact h1▸CH
  simp only[hid,if_false] at h1;refine(h.obj eZ o' h1).ev (NJ ho hm cA zM ht pz hs hk).zero rfl rfl (hk _ fun e=>?_);cases A8:o'.fK with
  |true=>exact hid (h.inj eZ id o' old h1 A8 ho hm e)
  |false=>exact(h.obj eZ o' h1).calm A8 (.inr ⟨id,old,ho,hm,e.symm⟩)
 fi eZ o' h1 h2:=by
  simp only[Mem.jZ,aN] at h1 ⊢;by_cases hid:eZ=id
  .subst hid;exact h.fi eZ old ho hm
  simp only[hid,if_false] at h1;exact h.fi eZ o' h1 h2
 frlt c hc:=by rw[show(m.jZ w' id o).w.heap.size=m.w.heap.size from hs];exact h.frlt c hc
 inj JB JC o1 o2 h1 m1 h2 m2 he:=by
  simp only[Mem.jZ,aN] at h1 h2 he;by_cases hid:JB=id<;>by_cases wM:JC=id
  .rw[hid,wM]
  .simp only[wM,if_false] at h2;exact hid▸h.inj id JC old o2 ho hm h2 m2 (hid▸he)
  .simp only[hid,if_false] at h1;exact wM▸h.inj JB id o1 old h1 m1 ho hm (wM▸he)
  simp only[hid,wM,if_false] at h1 h2;exact h.inj JB JC o1 o2 h1 m1 h2 m2 he
end
end
end Go.Abs
namespace Go.Abs
def Ln:Value->Option PV
 | .bool b=>some (.bool b)
 | .int k n=>some (.int k n)
 | .string s=>some (.str s)
 | .pointer none=>some .uR
 | .slice none 0 0=>some .nils
 | .map none=>some .rD
 | .nilFunc=>some .yz
 | .nilIface=>some .nili
 |_=>none
def Iw:List Value->Option (List PV)
 |[]=>some []
 |v::r=>match Ln v,Iw r with
  |some x,some xs=>some (x::xs)
  |_,_=>none
def SW:Value->Option V
 | .agg cs=>(Iw cs.toList).map fun l=>.agg (l.map .p)
 |v=>(Ln v).map fun x=>.one (.p x)
def cG:Operand->Option aQ
 | .tmp t=>some (.t t)
 | .const (.int .i64 n)=>some (.i n)
 | .const (.bool b)=>some (.b b)
 | .const v=>(SW v).map .k
 | .func f=>some (.k (.one (.p (.fn f [] []))))
 | .global _=>none
def pY:List Operand->Option (List aQ)
 |[]=>some []
 |a::r=>match cG a,pY r with
  |some x,some xs=>some (x::xs)
  |_,_=>none
def xE:Option Operand->Option (Option aQ)
 |none=>some none
 |some a=>(cG a).map some
def Aq(P:Program)(t:TypeId):Option (List PV):=
 match P.info? t with
 |some i=>match i.zero with
  |some (.agg cs)=>if cs.size=i.size then Iw cs.toList else none
  |some v=>if i.size=1 then (Ln v).map fun x=>[x] else none
  |none=>none
 |none=>none
def rA(P:Program)(t:TypeId):Option (Option Nat):=
 match P.underlying t,P.info? t with
 |some (.struct _),some i=>some (some i.size)
 |some (.array _ _),some i=>some (some i.size)
 |some _,some i=>if i.size=1 then some none else none
 |_,_=>none
def xr(P:Program)(t:TypeId):Option Nat:=(P.info? t).map (·.size)
def Dh(place:Nat->Option (Nat×Nat))(zl:Nat):List (Nat×Operand)->Option (List (Nat×Nat×aQ))
 |[]=>some []
 |(i,x)::r=>match place i,cG x,Dh place zl r with
  |some (off,n),some a,some q=>if off+n<=zl then some ((off,n,a)::q) else none
  |_,_,_=>none
def IH:Nat->List (Nat×Operand)->Option (List aQ)
 |_,[]=>some []
 |k,(i,x)::r=>match cG x,IH (k+1) r with
  |some a,some q=>if i=k then some (a::q) else none
  |_,_=>none
def QZ(P:Program)(t:TypeId):Option Bool:=
 match P.underlying t with
 |some (.int _)=>some true
 |some .bool=>some false
 |_=>none
def Kk(P:Program):Nat->List Field->Option (List Bool)
 |_,[]=>some []
 |k,f::r=>match QZ P f.type,Kk P (k+1) r with
  |some b,some bs=>if f.offset=k/\f.name≠ "_" then some (b::bs) else none
  |_,_=>none
def JR:Operand->Bool
 | .const .nilIface=>true
 |_=>false
def LH(P:Program)(t:TypeId)(x y:Operand):Option u4:=
 match P.underlying t with
 |some (.interface _)=>if JR x||JR y then some .ifc else none
 |some .bool=>some .bool
 |some (.pointer _)=>some .ptr
 |some (.slice _)=>some .slc
 |some (.map _ _)=>some .map
 |some (.func _ _ _)=>some .fnc
 |some (.struct fs)=>if !P.stoodInHeld t&& !P.eqGuardType P.depth t then (Kk P 0 fs.toList).map .str else none
 |_=>none
def AS(P:Program)(t:TypeId):Option (TypeId×Nat×Nat×List PV):=
 match P.underlying t with
 |some (.slice e)=>match P.info? e,Aq P e with
  |some i,some z=>if 0<i.size/\0<i.bytes then some (e,i.size,i.bytes,z) else none
  |_,_=>none
 |_=>none
def keyOf(P:Program)(k:TypeId):Option Nat:=
 match P.underlying k with
 |some (.int _)=>some 0
 |some .string=>some 1
 |some .bool=>some 2
 |_=>none
def Rs(P:Program)(t:TypeId):Bool:=
 match P.info? t with
 |some i=>match i.zero with
  |some (.agg _)=>true
  |_=>false
 |none=>false
def F7(P:Program)(site:Nat)(o:Oper):Option mU:=
 match o.op with
 | .move x=>(cG x).map .iY
 | .assign x=>(cG x).map .iY
 | .pick c a b=>match cG c,cG a,cG b with
  |some c,some a,some b=>some (.pick c a b)
  |_,_,_=>none
 | .alloc t=>(Aq P t).map (.alloc site)
 | .box _ x=>(cG x).map (.box site)
 | .build t ps=>match P.underlying t,Aq P t with
  |some (.struct fs),some z=>if fs.all fun f=>(P.info? f.type).isSome then
    (Dh (fun i=>(fs[i]?).map fun f=>(f.offset,P.cellsOf f.type)) z.length ps.toList).map (.build z)
   else none
  |some (.array _ e),some z=>match P.info? e with
   |some i=>(Dh (fun k=>some (k*i.size,i.size)) z.length ps.toList).map (.build z)
   |none=>none
  |_,_=>none
 | .buildSlice t n ps=>match AS P t,IH 0 ps.toList with
  |some (e,sz,_,_),some as=>if as.length=n/\n*sz<=16777216 then some (.DS site e sz as) else none
  |_,_=>none
 | .load t a=>match rA P t,cG a with
  |some k,some a=>some (.load k a)
  |_,_=>none
 | .store t a x=>match xr P t,cG a,cG x with
  |some n,some a,some x=>some (.store n a x)
  |_,_,_=>none
 | .nilCheck x=>(cG x).map .JS
 | .binOp op t x y _=>match cG x,cG y with
  |some a,some b=>match P.underlying t with
   |some (.int _)=>some (.bin op a b)
   |some .string=>some (.bin op a b)
   |_=>match op,LH P t x y with
    | .eql,some k=>some (.eqc k false a b)
    | .neq,some k=>some (.eqc k true a b)
    |_,_=>none
  |_,_=>none
 | .unOp op _ x=>match op with
  | .not=>(cG x).map (.un .not)
  | .neg=>(cG x).map (.un .neg)
  |_=>none
 | .convert s d x=>match P.underlying s,P.underlying d,cG x with
  |some (.int _),some (.int k),some a=>some (.conv k a)
  |some (.slice e),some .string,some a=>match P.underlying e with
   |some (.int .u8)=>some (.bstr a)
   |_=>none
  |_,_,_=>none
 | .makeFunc (.func f) a b=>match pY a.toList,pY b.toList with
  |some x,some y=>some (.mkfn f x y)
  |_,_=>none
 | .makeMap t none=>match P.underlying t with
  |some (.map _ e)=>(rA P e).map fun k=>.mkmap site k.isSome
  |_=>none
 | .makeSlice t l c=>match AS P t,cG l,cG c with
  |some (e,sz,bytes,z),some l,some c=>some (.JM site e sz bytes z l c)
  |_,_,_=>none
 | .slice t x lo hi none=>match cG x,xE lo,xE hi with
  |some a,some l,some h=>match P.underlying t with
   |some (.slice e)=>(xr P e).map fun sz=>.slice sz a l h
   |some .string=>some (.sslice a l h)
   |_=>none
  |_,_,_=>none
 | .fieldAddr s x f=>match P.underlying s,cG x with
  |some (.struct fs),some a=>match fs[f]? with
   |some d=>if P.cellsOf d.type≠0 then some (.ng d.offset a) else none
   |none=>none
  |_,_=>none
 | .field t x f=>match P.underlying t,cG x with
  |some (.struct fs),some a=>match fs[f]? with
   |some d=>(rA P d.type).map fun k=>.fld d.offset k a
   |none=>none
  |_,_=>none
 | .indexAddr t x i=>match cG x,cG i with
  |some a,some b=>match P.underlying t with
   |some (.slice e)=>(xr P e).map fun sz=>.GZ sz a b
   |some (.array n e)=>(xr P e).map fun sz=>.Ic n sz a b
   |_=>none
  |_,_=>none
 | .index t x i=>match cG x,cG i with
  |some a,some b=>match P.underlying t with
   |some (.array n e)=>match xr P e,rA P e with
    |some sz,some k=>some (.aidx n sz k a b)
    |_,_=>none
   |some .string=>some (.sidx a b)
   |_=>none
  |_,_=>none
 | .lookup t x k ok=>match P.underlying t,cG x,cG k with
  |some (.map kt e),some a,some b=>match Aq P e,rA P e with
   |some z,some q=>match keyOf P kt with
    |some kd=>if Rs P e=q.isSome then some (.lookup kd z q.isSome ok a b) else none
    |none=>none
   |_,_=>none
  |_,_,_=>none
 | .mapUpdate t m k v=>match P.underlying t,cG m,cG k,cG v with
  |some (.map kt e),some a,some b,some c=>match rA P e with
   |some q=>(keyOf P kt).map fun kd=>.mupd kd q.isSome a b c
   |none=>none
  |_,_,_,_=>none
 | .insert t m k v=>match P.underlying t,cG m,cG k,cG v with
  |some (.map kt e),some a,some b,some c=>match rA P e with
   |some q=>(keyOf P kt).map fun kd=>.mupd kd q.isSome a b c
   |none=>none
  |_,_,_,_=>none
 | .extract x i=>(cG x).map fun a=>.extract a i
 | .call c=>match c.callee,pY c.args.toList with
  | .value f,some as=>(cG f).map fun g=>.call site g as
  | .builtin .len,some [a]=>match c.argTypes[0]? with
   |some t=>match P.underlying t with
    |some .string=>some (.slen a)
    |some (.slice _)=>some (.JJ a)
    |some (.map _ _)=>some (.mlen a)
    |_=>none
   |none=>none
  | .builtin .append,some [a,b]=>match c.argTypes[0]?,c.argTypes[1]? with
   |some t,some u=>match AS P t with
    |some (e,sz,bytes,_)=>if t=u/\c.argTypes.size=2 then some (.append site e sz bytes a b) else none
    |none=>none
   |_,_=>none
  | .builtin .max,some [a,b]=>some (.max a b)
  | .builtin .min,some [a,b]=>some (.min a b)
  | .builtin .clear,some [a]=>match c.argTypes[0]? with
   |some t=>(AS P t).map fun q=>.clear q.2.2.2 a
   |none=>none
  |_,_=>none
 |_=>none
def aQ.tmps:aQ->List Nat
 | .t n=>[n]
 |_=>[]
def FJ:List aQ->List Nat
 |[]=>[]
 |a::r=>a.tmps++FJ r
def Wl:Option aQ->List Nat
 |some a=>a.tmps
 |none=>[]
def Wm:List (Nat×Nat×aQ)->List Nat
 |[]=>[]
 |(_,_,a)::r=>a.tmps++Wm r
def mU.tmps:mU->List Nat
 | .iY x| .box _ x| .load _ x| .JS x| .un _ x| .conv _ x| .bstr x| .ng _ x| .fld _ _ x| .extract x _| .slen x| .JJ x| .mlen x| .clear _ x=>x.tmps
 | .pick c a b=>c.tmps++a.tmps++b.tmps
 | .alloc _ _| .mkmap _ _| .bad=>[]
 | .build _ ps=>Wm ps
 | .DS _ _ _ ps=>FJ ps
 | .store _ a x| .bin _ a x| .eqc _ _ a x| .GZ _ a x| .Ic _ _ a x| .aidx _ _ _ a x| .sidx a x| .lookup _ _ _ _ a x| .append _ _ _ _ a x| .max a x| .min a x=>a.tmps++x.tmps
 | .mkfn _ a b=>FJ a++FJ b
 | .JM _ _ _ _ _ a b=>a.tmps++b.tmps
 | .slice _ x a b| .sslice x a b=>x.tmps++Wl a++Wl b
 | .mupd _ _ a b c=>a.tmps++b.tmps++c.tmps
 | .call _ f as=>f.tmps++FJ as
def bI.HF(o:bI):List Nat:=
 o.op.tmps++match o.guard with
  |some (t,_)=>[t]
  |none=>[]
def Gj(a b:bI):Bool:=
 (match a.dst with
  |some d=> !b.HF.contains d&&b.dst !=some d
  |none=>true)&&
 (match b.dst with
  |some d=> !a.HF.contains d
  |none=>true)
def Pg(o:bI):Nat->List bI->Bool
 |_,[]=>true
 |j,x::r=>(o.anc.testBit j||Gj x o)&&Pg o (j+1) r
def LI:List bI->List bI->Bool
 |[],_=>true
 |o::os,past=>Pg o 0 past&&LI os (past++[o])
def Iu(P:Program)(site:Nat)(o:Oper):mU:=(F7 P site o).getD .bad
def Zh(nt:Nat):Option Nat->Bool
 |some d=>decide (d<nt)
 |none=>true
def TG(dst:Nat->Option Nat):Option (Nat×Bool)->Option (Option (Nat×Bool))
 |none=>some none
 |some (j,w)=>(dst j).map fun t=>some (t,w)
def Eb(P:Program)(dst:Nat->Option Nat)(base nt:Nat)(anc:Nat)(o:Oper):Option bI:=if Zh nt o.dst then (TG dst o.guard).map fun g=>⟨o.dst,Iu P base o,g,anc⟩ else none
def wg(P:Program)(dst anc:Nat->Option Nat)(base nt:Nat):Nat->List Oper->Option (List bI)
 |_,[]=>some []
 |i,o::r=>match Eb P dst ((base+i)*64) nt ((anc i).getD 0) o,wg P dst anc base nt (i+1) r with
  |some x,some xs=>some (x::xs)
  |_,_=>none
def Ie(ops:Array Oper):Bool:=(List.range ops.size).all fun i=>match ops[i]? with
 |some o=>o.after.toList.all fun e=> !Region.binds .any e||decide (e.on<i)
 |none=>true
def oX(P:Program)(f nt:Nat):Code->Option aH
 | .skip=>some .skip
 | .region id ops draw=>
  let b:=if draw then Region.before ops else #[]
  match wg P (fun j=>(ops[j]?).bind (·.dst)) (fun i=>b[i]?) ((f*1000+id)*1000) nt 0 ops.toList with
  |some xs=>if draw then (if Ie ops&&LI xs [] then some (.region true xs) else none) else some (.region false xs)
  |none=>none
 | .seq a b=>match oX P f nt a,oX P f nt b with
  |some x,some y=>some (.seq x y)
  |_,_=>none
 | .cond c a b=>match cG c,oX P f nt a,oX P f nt b with
  |some c,some x,some y=>some (.cond c x y)
  |_,_,_=>none
 | .block id c=>(oX P f nt c).map (.block id)
 | .loop c=>(oX P f nt c).map .loop
 | .exit id=>some (.exit id)
 | .scope c=>oX P f nt c
 | .label _=>some .skip
 | .ret=>some .ret
 |_=>some .bad
def Bo(P:Program):List ResultVar->Option (List (Nat×Option (Option Nat)))
 |[]=>some []
 | .tmp t::r=>(Bo P r).map ((t,none):: ·)
 | .cell t ty::r=>match rA P ty,Bo P r with
  |some k,some q=>some ((t,some k)::q)
  |_,_=>none
def BX(P:Program)(f:Nat):Option aS:=
 match P.funcs[f]? with
 |none=>none
 |some fn=>match fn.body with
  |none=>none
  |some c=>if fn.name== "runtime.NumGoroutine" then none else
   match oX P f fn.ntmps c,Bo P fn.results.toList with
   |some b,some r=>some ⟨fn.ntmps,r,b⟩
   |_,_=>none
end Go.Abs
namespace Go.Abs
variable {P:Program} {w0:World}
section
variable{m:Mem}
def iO(m:Mem)(ak:Env)(tmps:Array Value):Prop:=∀t,bU m (ak t) (tmps.getD t undef)
theorem iO.ev{m':Mem}(h:Ev m m'){ak:Env}{tmps:Array Value}(hr:iO m ak tmps):iO m' ak tmps:=fun t=>(hr t).ev h.zero
theorem bU.one{c:C}{v:Value}:bU m (.one c) v↔cT m c v:=Iff.rfl
theorem bU.agg{cs:List C}{v:Value}:bU m (.agg cs) v↔ ∃arr,v=.agg arr/\df m cs arr.toList:=Iff.rfl
theorem bU.of1{x:V}{v:Value}(h:nJ m x v):bU m x v:=by
 cases x with
 |tup vs=>exact h.elim
 |_=>exact h
theorem SV{w:World}{own:Nat->Prop}{v:Value}{x:PV}(h:Ln v=some x):cD w own x v:=by
 unfold Ln at h;split at h<;>first
  |(cases h;constructor;done)
  |cases h
theorem Yu{w:World}{own:Nat->Prop}:∀ {vs:List Value} {xs:List PV},Iw vs=some xs->dd w own xs vs:=by
 intro vs
 induction vs with
 |nil=>intro xs h;simp[Iw] at h;subst h;exact⟨rfl,fun j x u a _=>by simp at a⟩
 |cons v r ih=>
  intro xs h;simp only[Iw] at h;split at h
  .rename_i x ys h1 h2;cases h;obtain⟨hl,hr⟩:=ih h2;refine⟨by simp[hl],fun j z u a b=>?_⟩;cases j with
   |zero=>simp at a b;subst a b;exact SV h1
   |succ j=>simp at a b;exact hr j z u a b
  cases h
theorem dd.Du{xs:List PV}{vs:List Value}(h:dd m.w m.own xs vs):df m (xs.map .p) vs:=by refine⟨by simp[h.1],fun j x u a b=>?_⟩;simp only[fT,dx] at a;obtain⟨y,hy,rfl⟩:=a;exact .p (h.2 j y u hy b)
theorem aiB{v:Value}{x:V}(h:SW v=some x):bU m x v:=by
 unfold SW at h;split at h
 .simp only[dx] at h;obtain⟨xs,h1,rfl⟩:=h;exact bU.agg.2 ⟨_,rfl,(Yu h1).Du⟩
 simp only[dx] at h;obtain⟨y,h1,rfl⟩:=h;exact bU.one.2 (.p (SV h1))
theorem eB{ak:Env}{a:Act}{x:Operand}{y:aQ}(h:cG x=some y)(hr:iO m ak a.tmps):bU m (ev ak y) (a.eval x):=by
 unfold cG at h;split at h
 .cases h;exact hr _
 .cases h;exact bU.one.2 (.p (.int _ _))
 .cases h;exact bU.one.2 (.p (.bool _))
 .simp only[dx] at h;obtain⟨v,h1,rfl⟩:=h;exact aiB h1
 .cases h;exact bU.one.2 (.p (.fn #[] #[] rfl rfl (fun j x u a=>by simp at a) (fun j x u a=>by simp at a)))
 cases h
def Does(P:Program)(ρ:Operand->Value)(o:Oper)(w:World)(x:Value)(w':World):Prop:=
 (execOp ρ o).run P w=.ok (.value x) w'\/((execOp ρ o).run P w=.ok .skip w'/\x=undef)
def fM(P:Program)(w0:World)(ρ:Operand->Value)(o:Oper)(m:Mem)(v:V)(u:List eX):Prop:=∃x m',Does P ρ o m.w x m'.w/\Ok w0 m'/\Ev m m'/\m'.fr=m.fr/\m'.aj=app u m.aj/\bU m' v x
theorem fM.calm{ρ:Operand->Value}{o:Oper}{v:V}{x:Value}(h:Ok w0 m)(jG:(execOp ρ o).run P m.w=.ok (.value x) m.w)(hv:bU m v x):fM P w0 ρ o m v []:=
 ⟨x,m,.inl jG,h,Ev.refl m,rfl,rfl,hv⟩
section
variable {m:Mem} {ak:Env} {a:Act} {o:Oper} (au:Ok w0 m) (hr:iO m ak a.tmps)
include au hr
theorem aeO{x:Operand}{y:aQ}(ho:o.op=.move x\/o.op=.assign x)(hx:cG x=some y):fM P w0 a.eval o m (ev ak y) []:=
 .calm au (by rcases ho with ho|ho<;>simp[execOp,ho]) (eB hx hr)
theorem arB{c x y:Operand}{c' x' y':aQ}{t:Bool}(ho:o.op=.pick c x y)(hc:cG c=some c')(hx:cG x=some x')(hy:cG y=some y')
  (ht:ev ak c'=.one (.p (.bool t))):fM P w0 a.eval o m (if t then ev ak x' else ev ak y') []:=by
 have h1:=eB hc hr;rw[ht] at h1;obtain⟨⟩:cT m (.p (.bool t)) _:=h1;rename_i hp;generalize hb:a.eval c=b at hp;cases hp;refine .calm (x:=if t then a.eval x else a.eval y) au ?_ ?_
 .simp[execOp,ho,hb,asBool]
 cases t
 .exact eB hy hr
 exact eB hx hr
end
theorem EY{b:Bool}{v:Value}(h:bU m (.one (.p (.bool b))) v):v=.bool b:=by obtain⟨hp⟩:cT m _ v:=h;cases hp;rfl
theorem CU{k:IntKind}{n:Int}{v:Value}(h:bU m (.one (.p (.int k n))) v):v=.int k n:=by obtain⟨hp⟩:cT m _ v:=h;cases hp;rfl
theorem MZ{s:ByteArray}{v:Value}(h:bU m (.one (.p (.str s))) v):v=.string s:=by obtain⟨hp⟩:cT m _ v:=h;cases hp;rfl
theorem Qa{v:Value}(h:bU m (.one (.p .nils)) v):v=.slice none 0 0:=by obtain⟨hp⟩:cT m _ v:=h;cases hp;rfl
theorem amI{v:Value}(h:bU m (.one (.p .zs)) v):∃a,v=.slice a 0 0:=by obtain⟨hp⟩:cT m _ v:=h;cases hp;exact⟨_,rfl⟩
theorem abj{v:Value}(h:bU m (.one (.p .rD)) v):v=.map none:=by obtain⟨hp⟩:cT m _ v:=h;cases hp;rfl
theorem mx{x:PV}{v:Value}(h:cD m.w m.own x v):bU m (.one (.p x)) v:=bU.one.2 (.p h)
def Mem.fresh(m:Mem)(ob:Obj)(s k:Nat)(o:Ob):Mem:=(m.later (m.w.alloc ob) (· =m.w.heap.size)).install s m.w.heap.size k o
theorem Tw(au:Ok w0 m)(ob:Obj)(s k:Nat)(o:Ob):(m.fresh ob s k o).fr=m.fr:=by
 funext c;simp only[Mem.fresh,Mem.install,Mem.later];apply propext;constructor
 .rintro ⟨h|h,h2⟩
  .exact h
  exact(h2 h).elim
 intro h;exact⟨.inl h,fun e=>by have:=au.frlt c h;omega⟩
theorem Ph(ob:Obj)(s k:Nat)(o:Ob):Ev m (m.fresh ob s k o):=PZ (JH (fH.alloc m.w ob) fun c hc=>FU hc.symm) (.inr rfl) (.inl (bJ _))
theorem ZZ(ob:Obj)(s k:Nat)(o:Ob):(m.fresh ob s k o).w.heap[(m.fresh ob s k o).σ s]?=some ob:=by
 have:(m.fresh ob s k o).σ s=m.w.heap.size:=by simp[Mem.fresh,Mem.install,aN]
 rw[this];exact heap_alloc_new m.w ob
theorem Z0(au:Ok w0 m)(ob:Obj)(s k:Nat)(o:Ob)(ho:tH (m.fresh ob s k o) s o):Ok w0 (m.fresh ob s k o):=P0 (M5 au (fH.alloc m.w ob) fun c hc=>by subst hc;exact⟨bJ _,af⟩) (.inr rfl) au.size ho
theorem Tv(m:Mem)(ob:Obj)(s k:Nat)(o:Ob):(m.fresh ob s k o).aj=app [(s,((m.aj s).1+1,some o))] m.aj:=rfl
theorem Z2(au:Ok w0 m)(s:Nat)(t:TypeId)(cs:List C)(arr:Array Value)(hc:df m cs arr.toList):
  Ok w0 (m.fresh (.cells arr t) s 0 (.var cs))/\bU (m.fresh (.cells arr t) s 0 (.var cs)) (.one (.aX s ((m.aj s).1+1) 0)) (.pointer (some ⟨m.w.heap.size,0,none⟩)):=by
 refine⟨Z0 au _ s 0 _ ⟨arr,t,ZZ _ s 0 _,hc.ev (Ph _ s 0 _).zero⟩,bU.one.2 (.aX _ ?_ fun _ _=>?_)⟩
 .simp[Mem.fresh,Mem.install,Mem.later,aN]
 simp[Mem.fresh,Mem.install,aN]
theorem N7{t:TypeId}{z:List PV}(h:Aq P t=some z):∃v i,P.info? t=some i/\i.zero=some v/\v.cells.size=i.size/\z.length=i.size/\ ∀w own,dd w own z v.cells.toList:=by
 unfold Aq at h;split at h
 .rename_i i hi;split at h
  .rename_i cs hz;split at h
   .rename_i hs;have hr:=fun w own=>Yu (w:=w) (own:=own) h;refine⟨_,i,hi,hz,by simpa [Value.cells] using hs,?_,fun w own=>by simpa [Value.cells] using hr w own⟩;have:=(hr default (fun _=>False)).1;simp at this;omega
   cases h
  .rename_i v hz hv;split at h
   .rename_i hs;simp only[dx] at h;obtain⟨x,hx,rfl⟩:=h;have hr:=fun w own=>SV (w:=w) (own:=own) hx;have hc:=(hr default (fun _=>False)).cells;refine⟨v,i,hi,hv,by simp[hc,hs],by simp[hs],fun w own=>?_⟩;rw[hc];refine⟨rfl,fun j y u a b=>?_⟩;cases j with
    |zero=>simp at a b;subst a b;exact hr w own
    |succ j=>simp at a
   cases h
  cases h
 cases h
section
variable {m:Mem} {ak:Env} {a:Act} {o:Oper} (au:Ok w0 m) (hr:iO m ak a.tmps)
include au
theorem aq7{t:TypeId}{z:List PV}{s:Nat}(ho:o.op=.alloc t)(hz:Aq P t=some z):
  fM P w0 a.eval o m (.one (.aX s ((m.aj s).1+1) 0)) [(s,((m.aj s).1+1,some (.var (z.map .p))))]:=by
 obtain⟨v,i,hi,hv,hs,hl,dw⟩:=N7 hz;obtain⟨h1,h2⟩:=Z2 au s t (z.map .p) v.cells (dw m.w m.own).Du;refine⟨_,_,.inl ?_,h1,Ph _ s 0 _,Tw au _ s 0 _,Tv _ _ s 0 _,h2⟩;simp[execOp,ho,Instr.alloc,zeroValue,typeInfo,hi,hv,newVar,newRow];rfl
include hr
theorem ara{t:TypeId}{x:Operand}{y:aQ}{cs:List C}{s:Nat}(ho:o.op=.box t x)(hx:cG x=some y)(hc:rU (ev ak y)=some cs):
  fM P w0 a.eval o m (.one (.aX s ((m.aj s).1+1) 0)) [(s,((m.aj s).1+1,some (.var cs)))]:=by
 have hv:=eB hx hr;have cX:df m cs (a.eval x).cells.toList:=by
  generalize ev ak y=w at hc hv;cases w with
  |undef=>simp[rU] at hc
  |tup vs=>simp[rU] at hc
  |one c=>
   simp[rU] at hc;subst hc;rw[(bU.one.1 hv).cells];refine⟨rfl,fun j y u p q=>?_⟩;cases j with
   |zero=>simp at p q;subst p q;exact hv
   |succ j=>simp at p
  |agg ds=>simp[rU] at hc;subst hc;obtain⟨arr,e,h⟩:=bU.agg.1 hv;rw[e];exact h
 obtain⟨h1,h2⟩:=Z2 au s t cs _ cX;refine⟨_,_,.inl ?_,h1,Ph _ s 0 _,Tw au _ s 0 _,Tv _ _ s 0 _,h2⟩;simp[execOp,ho,Instr.box,newVar,newRow];rfl
end
end
end Go.Abs
namespace Go.Abs
variable {P:Program} {w0:World}
theorem Gh{α:Type}{sz:Nat}:∀ {es:List (List α)},(∀e∈es,e.length=sz)->es.flatten.length=es.length*sz:=by
 intro es
 induction es with
 |nil=>intro _;simp
 |cons e r ih=>intro h;have h1:=h e af;have h2:=ih fun x hx=>h x (by simp[hx]);simp only[lH,eG,cS,h1,h2,fY,KY];omega
theorem Gg{α:Type}{sz:Nat}:∀ {es:List (List α)},(∀e∈es,e.length=sz)->∀ {i:Nat} {e:List α},es[i]?=some e->∀ {j:Nat},j<sz->es.flatten[i*sz+j]?=e[j]? :=by
 intro es
 induction es with
 |nil=>intro _ i e h;simp at h
 |cons x r ih=>
  intro h i e he j hj;have h1:=h x af;cases i with
  |zero=>simp at he;subst he;simp only[lH,Ay,jm];rw[vR aa]
  |succ i=>simp at he;have h2:=ih (fun y hy=>h y (by simp[hy])) he hj;simp only[lH];rw[yK (by rw[h1,fY];omega),<- h2];congr 1;rw[h1,fY];omega
theorem LV{α:Type}{sz:Nat}{es:List (List α)}(h:∀e∈es,e.length=sz){i:Nat}{e:List α}(he:es[i]?=some e):e.length=sz:=h e (aW he)
theorem DV{w:World}{b k:Nat}{cur:Array Value}{ty:TypeId}{fz:Nat×Nat}(h:w.heap[b]?=some (.cells cur ty fz)):w.cell? ⟨b,k,none⟩=cur[k]? :=cell_of_row w b k cur ty fz h
def At (m:Mem)(v:Value)(cs:List C):Prop:=∃b o vs,v=.pointer (some ⟨b,o,none⟩)/\df m cs vs/\ ∀(j:Nat) (u:Value),vs[j]?=some u->m.w.cell? ⟨b,o+j,none⟩=some u
theorem At.row{m:Mem}{b o:Nat}{cur:Array Value}{ty:TypeId}{fz:Nat×Nat}(h:m.w.heap[b]?=some (.cells cur ty fz)){cs:List C}(hl:o+cs.length<=cur.size)
  (hc:∀(j:Nat) (x:C) (u:Value),cs[j]?=some x->cur[o+j]?=some u->cT m x u):At m (.pointer (some ⟨b,o,none⟩)) cs:=by
 refine⟨b,o,(cur.toList.drop o).take cs.length,rfl,⟨by simp;omega,fun j x u p q=>?_⟩,fun j u q=>?_⟩
 .rw[lI] at q;split at q
  .exact hc j x u p (by simpa using q)
  cases q
 rw[lI] at q;split at q
 .rw[DV h];simpa using q
 cases q
theorem aef{m:Mem}(au:Ok w0 m){x:V}{v:Value}{cs:List C}{rd:List Nat}(h:Bn m.aj x=some (cs,rd))(hv:bU m x v):At m v cs:=by
 unfold Bn at h;split at h
 .rename_i ps;simp only[fL,kn] at h;obtain⟨rfl,rfl⟩:=h;obtain⟨hp⟩:cT m _ v:=hv;cases hp with
  |box b o f ho hc hr=>
   refine⟨b,o,(List.range ps.length).map f,rfl,⟨af,fun j x u p q=>?_⟩,fun j u q=>?_⟩
   .simp only[fT,dx] at p q;obtain⟨y,hy,rfl⟩:=p;obtain⟨k,hk,rfl⟩:=q;have ti:k=j:=by
     rw[rO (by have:=bg.1 hy;obtain⟨h,_⟩:=this;exact h)] at hk
     simpa using hk.symm
    subst ti;exact .p (hr k y hy)
   simp only[fT,dx] at q;obtain⟨k,hk,rfl⟩:=q;have aq:j<ps.length:=by have:=bg.1 hk;obtain⟨h,_⟩:=this;simpa using h
   rw[rO aq] at hk;simp at hk;subst hk;exact hc j _ (oJ aq)
 .rename_i id g off;have hv:cT m _ v:=hv;cases hv with
  |aX a hg ha=>
   split at h
   .rename_i g' zb hb;split at h
    .rename_i iB;simp only[fL,kn] at h;obtain⟨rfl,rfl⟩:=h;have aT:(m.aj id).2=some (.var zb):=by rw[hb]
     have ha:=ha (by rw[hb];exact iB) (by rw[aT];rfl);subst ha;obtain⟨cur,ty,hh,hl,hc⟩:=au.obj id _ aT;simp at hl;by_cases ho:off<=zb.length
     .exact At.row hh (by simp;omega) fun j x u p q=>hc (off+j) x u (by simpa using p) (by simpa using q)
     exact⟨_,_,[],rfl,⟨by simp;omega,fun j x u p q=>by simp at q⟩,fun j u q=>by simp at q⟩
    cases h
   .rename_i g' zb hb;split at h
    .rename_i iB;simp only[fL,kn] at h;obtain⟨rfl,rfl⟩:=h;have aT:(m.aj id).2=some (.fvar zb):=by rw[hb]
     have ha:=ha (by rw[hb];exact iB) (by rw[aT];rfl);subst ha;obtain⟨cur,ty,fz,hh,hp,_⟩:=au.obj id _ aT;have hl:=hp.1;simp at hl;by_cases ho:off<=zb.length
     .refine At.row hh (by simp;omega) fun j x u p q=>?_;simp only[fT,dx] at p;obtain⟨y,hy,rfl⟩:=p;exact .p (hp.2 (off+j) y u (by simpa using hy) (by simpa using q))
     exact⟨_,_,[],rfl,⟨by simp;omega,fun j x u p q=>by simp at q⟩,fun j u q=>by simp at q⟩
    cases h
   cases h
 .rename_i id g i off;have hv:cT m _ v:=hv;cases hv with
  |de a hg ha=>
   have key:∀(sz:Nat) (e:List C) (cur:Array Value) (ty:TypeId) (fz:Nat×Nat),m.w.heap[m.σ id]?=some (.cells cur ty fz)->e.length=sz->(i+1)*sz<=cur.size->
     a=⟨m.σ id,i*sz+off,none⟩->(∀(j:Nat) (x:C) (u:Value),e[j]?=some x->cur[i*sz+j]?=some u->cT m x u)->At m (.pointer (some a)) (e.drop off):=by
    intro sz e cur ty fz hh he aq wE hc;subst wE;rw[fY,KY] at aq;by_cases ho:off<=e.length
    .exact At.row hh (by simp;omega) fun j x u p q=>hc (off+j) x u (by simpa using p) (by rw[<- HU];exact q)
    exact⟨_,_,[],rfl,⟨by simp;omega,fun j x u p q=>by simp at q⟩,fun j u q=>by simp at q⟩
   have pure:∀(ty sz:Nat) (es:List (List PV)) (e:List PV) (cur:Array Value) (fz:Nat×Nat),m.w.heap[m.σ id]?=some (.cells cur ty fz)->(∀e∈es,e.length=sz)->es.length*sz<=cur.size->
     dd m.w m.own es.flatten (cur.toList.take (es.length*sz))->es[i]?=some e->a=⟨m.σ id,i*sz+off,none⟩->At m (.pointer (some a)) ((e.drop off).map .p):=by
    intro ty sz es e cur fz hh cA hlen dw he wE;have de:=LV cA he;have hi:i<es.length:=(bg.1 he).1;have r6:(i+1)*sz<=es.length*sz:=lY _ hi;rw[KP];refine key sz (e.map .p) cur ty fz hh (by simpa using de) aa wE fun j x u p q=>?_;simp only[fT,dx] at p;obtain⟨y,hy,rfl⟩:=p;have hj:j<sz:=by have:=(bg.1 hy).1;omega
    refine .p (dw.2 (i*sz+j) y u (by rw[Gg cA he hj];exact hy) ?_);rw[fY] at r6;rw[lI,aD aa]
    simpa using q
   split at h
   .rename_i g' ty sz es hb;split at h
    .rename_i iB;simp only[dx,kn] at h;obtain⟨e,he,rfl,rfl⟩:=h;have aT:(m.aj id).2=some (.arr ty sz es):=by rw[hb]
     obtain⟨cur,hh,pG,cA,hl,hm,cX,dw⟩:=au.obj id _ aT;exact pure ty sz es e cur _ hh cA (by rw[cX];exact lY _ hl) dw he (ha sz (by rw[hb];exact iB) (by rw[hb];rfl))
    cases h
   .rename_i g' ty sz es hb;split at h
    .rename_i iB;simp only[dx,kn] at h;obtain⟨e,he,rfl,rfl⟩:=h;have aT:(m.aj id).2=some (.oY ty sz es):=by rw[hb]
     obtain⟨cur,fz,hh,pG,cA,hl,hm,cX,dw,_⟩:=au.obj id _ aT;exact pure ty sz es e cur _ hh cA (by rw[cX];exact lY _ hl) dw he (ha sz (by rw[hb];exact iB) (by rw[hb];rfl))
    cases h
   .rename_i g' ty sz es hb;split at h
    .rename_i iB;simp only[dx,kn] at h;obtain⟨e,he,rfl,rfl⟩:=h;have aT:(m.aj id).2=some (.gU ty sz es):=by rw[hb]
     obtain⟨cur,hh,pG,cA,hl,hm,cX,dw⟩:=au.obj id _ aT;have de:=LV cA he;have hi:i<es.length:=(bg.1 he).1;have r6:(i+1)*sz<=es.length*sz:=lY _ hi;have aaM:es.length*sz<=m.κ id*sz:=lY _ hl;refine key sz e cur ty _ hh de aa (ha sz (by rw[hb];exact iB) (by rw[hb];rfl)) fun j x u p q=>?_;have hj:j<sz:=by have:=(bg.1 p).1;omega
     refine dw.2 (i*sz+j) x u (by rw[Gg cA he hj];exact p) ?_;rw[fY] at r6;rw[lI,aD aa]
     simpa using q
    cases h
   cases h
 cases h
end Go.Abs
namespace Go.Abs
variable {P:Program} {w0:World}
theorem amT{t:TypeId}{n:Nat}(h:rA P t=some (some n)):∃d i,P.underlying t=some d/\P.info? t=some i/\i.size=n/\((∃fs,d=.struct fs)\/ ∃k e,d=.array k e):=by
 unfold rA at h;split at h
 .rename_i fs i h1 h2;simp at h;exact⟨_,i,h1,h2,h,.inl ⟨fs,rfl⟩⟩
 .rename_i k e i h1 h2;simp at h;exact⟨_,i,h1,h2,h,.inr ⟨k,e,rfl⟩⟩
 .split at h<;>simp at h
 cases h
theorem amS{t:TypeId}(h:rA P t=some none):∃d i,P.underlying t=some d/\P.info? t=some i/\i.size=1/\(∀fs,d≠ .struct fs)/\ ∀k e,d≠ .array k e:=by
 unfold rA at h;split at h
 .simp at h
 .simp at h
 .rename_i d i n1 n2 h1 h2;split at h
  .rename_i hs;exact⟨_,_,h1,h2,hs,fun fs e=>n1 fs e,fun k e' e=>n2 k e' e⟩
  cases h
 cases h
theorem aex{t:TypeId}{n:Nat}(h:rA P t=some (some n))(w:World):(isAgg t).run P w=.ok true w/\(sizeOf t).run P w=.ok n w:=by
 obtain⟨d,i,h1,h2,h3,h4⟩:=amT h;constructor
 .rcases h4 with ⟨fs,rfl⟩|⟨k,e,rfl⟩<;>simp[isAgg,run_underlying h1]
 simp[sizeOf,typeInfo,h2,h3]
theorem aew{t:TypeId}(h:rA P t=some none)(w:World):(isAgg t).run P w=.ok false w/\(sizeOf t).run P w=.ok 1 w:=by
 obtain⟨d,i,h1,h2,h3,h4,h5⟩:=amS h;constructor
 .cases d<;>first
   |exact(h4 _ rfl).elim
   |exact(h5 _ _ rfl).elim
   |simp[isAgg,run_underlying h1]
 simp[sizeOf,typeInfo,h2,h3]
theorem acx{m:Mem}{t:TypeId}{k:Option Nat}(hk:rA P t=some k){v:Value}{cs:List C}(h:At m v cs){x:V}(hx:pS k cs=some x):
  ∃a y,v=.pointer (some a)/\(loadVar t a).run P m.w=.ok y m.w/\bU m x y:=by
 obtain⟨b,o,vs,rfl,cX,j6⟩:=h;cases k with
 |none=>
  obtain⟨h1,h2⟩:=aew hk m.w;cases cs with
  |nil=>simp[pS] at hx
  |cons c r=>
   simp[pS] at hx;subst hx;obtain⟨hl,hr⟩:=cX;cases vs with
   |nil=>simp at hl
   |cons u us=>have h0:=j6 0 u rfl;refine⟨_,u,rfl,?_,bU.one.2 (hr 0 c u rfl rfl)⟩;rw[xA] at h0;simp[loadVar,h1,h0]
 |some n=>
  obtain⟨h1,h2⟩:=aex hk m.w;simp only[pS] at hx;split at hx
  .rename_i hn;cases hx;obtain⟨hl,hr⟩:=cX;refine⟨_,.agg (vs.take n).toArray,rfl,?_,bU.agg.2 ⟨_,rfl,by simp;omega,fun j x u p q=>?_⟩⟩
   .have hlen:(vs.take n).length=n:=by simp;omega
    have:=run_loadCells_list (P:=P) m.w ⟨b,o,none⟩ (vs.take n) (fun j u q=>by
     rw[Addr.add_lit];rw[lI] at q;split at q
     .exact j6 j u q
     cases q)
    rw[hlen] at this;simp[loadVar,h1,h2,this]
   rw[lI] at p;simp only[lI] at q;split at p
   .rename_i hj;simp only[hj,if_true] at q;exact hr j x u p q
   cases p
  cases hx
section
variable {m:Mem} {ak:Env} {a:Act} {o:Oper} (au:Ok w0 m) (hr:iO m ak a.tmps)
include au hr
theorem arp{t:TypeId}{x:Operand}{y:aQ}{k:Option Nat}{cs:List C}{rd:List Nat}{v:V}(ho:o.op=.load t x)(hk:rA P t=some k)(hx:cG x=some y)
  (hc:Bn m.aj (ev ak y)=some (cs,rd)) (hv:pS k cs=some v):fM P w0 a.eval o m v []:=by
 obtain⟨ad,y',h1,h2,h3⟩:=acx hk (aef au hc (eB hx hr)) hv;exact .calm au (by simp[execOp,ho,h1,Instr.loadAt,Instr.sureAddr,h2]) h3
theorem arz{x:Operand}{y:aQ}{v:V}(ho:o.op=.nilCheck x)(hx:cG x=some y)(hv:bG (fun _=>false) ak m.aj (.JS y)=.done v [] []):fM P w0 a.eval o m v []:=by
 have ek:=eB hx hr;simp only[bG] at hv;split at hv
 .rename_i he;rw[he] at ek;cases hv;have hc:cT m _ (a.eval x):=ek;generalize hb:a.eval x=b at hc ek;cases hc with
  |aX ad hg h=>exact .calm au (by simp[execOp,ho,hb]) ek
 .rename_i he;rw[he] at ek;cases hv;have hc:cT m _ (a.eval x):=ek;generalize hb:a.eval x=b at hc ek;cases hc with
  |de ad hg h=>exact .calm au (by simp[execOp,ho,hb]) ek
 .rename_i he;rw[he] at ek;cases hv;have hc:cT m _ (a.eval x):=ek;generalize hb:a.eval x=b at hc ek;cases hc with
  |p hp=>cases hp with
   |box b' o' f kK jT qp=>exact .calm au (by simp[execOp,ho,hb]) ek
 .rename_i he;rw[he] at ek;cases hv;have hc:cT m _ (a.eval x):=ek;generalize hb:a.eval x=b at hc ek;cases hc with
  |hfn A B ha qj vw vx=>exact .calm au (by simp[execOp,ho,hb]) ek
 .rename_i he;rw[he] at ek;cases hv;have hc:cT m _ (a.eval x):=ek;generalize hb:a.eval x=b at hc ek;cases hc with
  |p hp=>cases hp with
   |fn A B ha qj vw vx=>exact .calm au (by simp[execOp,ho,hb]) ek
 cases hv
end
end Go.Abs
namespace Go.Abs
variable {P:Program} {w0:World}
section
variable{vs:List Value}{off:Nat}
theorem cD.norm{w:World}{own:Nat->Prop}{x:PV}{v:Value}(h:cD w own x v):cD w own x.norm v:=by
 cases h<;>first
  |exact .yE none 0 (fun _=>rfl) (bj _)
  |exact .yE _ 0 (fun _=>rfl) (bj _)
  |(simp only[PV.norm];constructor<;>assumption)
theorem asW{m:Mem}{c:C}{x:PV}{v:Value}(h:toP c=some x)(hr:cT m c v):cD m.w m.own x v:=by
 cases hr<;>simp[toP] at h
 rename_i hp;subst h;exact hp.norm
theorem NU{m:Mem}:∀ {cs:List C} {xs:List PV} {vs:List Value},Bx cs=some xs->df m cs vs->dd m.w m.own xs vs:=by
 intro cs
 induction cs with
 |nil=>intro xs vs h hr;simp[Bx] at h;subst h;exact⟨hr.1,fun j x u a=>by simp at a⟩
 |cons c r ih=>
  intro xs vs h hr;simp only[Bx] at h;split at h
  .rename_i x ys h1 h2;cases h;cases vs with
   |nil=>simp[df] at hr
   |cons v us=>
    obtain⟨hl,CM⟩:=ih (vs:=us) h2 ⟨by simpa using hr.1,fun j x u a b=>hr.2 (j+1) x u (by simpa using a) (by simpa using b)⟩;refine⟨by simp[hl],fun j z u a b=>?_⟩;cases j with
    |zero=>simp at a b;subst a b;exact asW h1 (hr.2 0 c v rfl rfl)
    |succ j=>simp at a b;exact CM j z u a b
  cases h
def Pw {α:Type}(R:α->Value->Prop)(xs:List α)(vs:List Value):Prop:=vs.length=xs.length/\ ∀(j:Nat) (x:α) (u:Value),xs[j]?=some x->vs[j]?=some u->R x u
theorem Pw.take{α:Type}{R:α->Value->Prop}{xs:List α}(h:Pw R xs vs)(n:Nat):Pw R (xs.take n) (vs.take n):=by
 refine⟨by simp[h.1],fun j x u a b=>?_⟩;rw[lI] at a b;split at a
 .rename_i hj;rw[aD hj] at b;exact h.2 j x u a b
 cases a
theorem Pw.drop{α:Type}{R:α->Value->Prop}{xs:List α}(h:Pw R xs vs)(n:Nat):Pw R (xs.drop n) (vs.drop n):=
 ⟨by simp[h.1],fun j x u a b=>h.2 (n+j) x u (by simpa using a) (by simpa using b)⟩
theorem Pw.append{α:Type}{R:α->Value->Prop}{xs ys:List α}{us:List Value}(h:Pw R xs vs)(k:Pw R ys us):Pw R (xs++ys) (vs++us):=by
 refine⟨by simp[h.1,k.1],fun j x u a b=>?_⟩;by_cases hj:j<xs.length
 .rw[vR hj] at a;rw[vR (by rw[h.1];exact hj)] at b;exact h.2 j x u a b
 rw[yK aa] at a;rw[yK (by rw[h.1];omega),h.1] at b;exact k.2 _ x u a b
theorem Pw.eV{α:Type}{R:α->Value->Prop}{xs ys:List α}{us:List Value}(h:Pw R xs vs)(k:Pw R ys us)(off:Nat):Pw R (eV xs off ys) (eV vs off us):=by unfold Abs.eV;rw[k.1];exact((h.take off).append k).append (h.drop _)
theorem Re{α:Type}{cs xs:List α}(h:off+xs.length<=cs.length):(eV cs off xs).length=cs.length:=by simp[eV];omega
theorem ae8{α:Type}{cs xs:List α}{n:Nat}(h:off+xs.length<=n)(hn:n<=cs.length):(eV cs off xs).take n=eV (cs.take n) off xs:=by unfold eV;rw[On,On,HT,List.drop_take];simp only[eG,gT];rw[yO (by omega:off<=cs.length),HT,yO (by omega:off<=n),Nat.min_eq_right (by omega:off<=n)];have e:n-(off+xs.length)=n-(off+xs.length):=rfl;rw[dD (by omega:xs.length<=n-off)]
theorem asf{α:Type}{a cs xs:List α}:eV (a++cs) (a.length+off) xs=a++eV cs off xs:=by unfold eV;rw[On,af2];simp only[uv];rw[dD (by omega:a.length<=a.length+off),RQ (by omega:a.length<=a.length+off+xs.length)];simp only[nH];have e1:a.length+off-a.length=off:=aa;have e2:a.length+off+xs.length-a.length=off+xs.length:=aa;rw[e1,e2]
theorem ase{α:Type}{a cs xs:List α}(h:off+xs.length<=a.length):eV (a++cs) off xs=eV a off xs++cs:=by unfold eV;rw[R8 aa,af3 aa];simp
theorem akj{α:Type}{sz:Nat}{ps:List α}:∀ {es:List (List α)},(∀e∈es,e.length=sz)->∀ {i:Nat} {e:List α},es[i]?=some e->off+ps.length<=sz->
  (es.set i (eV e off ps)).flatten=eV es.flatten (i*sz+off) ps:=by
 intro es
 induction es with
 |nil=>intro _ i e h;simp at h
 |cons x r ih=>
  intro h i e he hl;have h1:=h x af;cases i with
  |zero=>simp at he;subst he;simp only[List.set_cons_zero,lH,Ay,jm];rw[ase aa]
  |succ i=>
   simp at he;simp only[List.set_cons_succ,lH];rw[ih (fun y hy=>h y (by simp[hy])) he hl];have hh:(i+1)*sz+off=x.length+(i*sz+off):=by rw[h1,fY];omega
   rw[hh,asf]
theorem NK{w:World}{g:Nat}{cur new:Array Value}{ty:TypeId}{fz:Nat×Nat}(h:w.heap[g]?=some (.cells cur ty fz)):(w.setRow g new).heap[g]?=some (.cells new ty fz):=setRow_heap w g cur new ty fz h
theorem df.pw{m:Mem}{cs:List C}:df m cs vs↔Pw (cT m) cs vs:=Iff.rfl
theorem dd.pw{w:World}{own:Nat->Prop}{cs:List PV}:dd w own cs vs↔Pw (cD w own) cs vs:=Iff.rfl
theorem df.one{m:Mem}{cs:List C}(h:df m cs vs):∀v∈vs,v.oneCell'=true:=by
 intro v hv;obtain⟨j,hj⟩:=jd hv;have aq:j<cs.length:=by rw[<- h.1];exact(bg.1 hj).1
 exact(h.2 j _ v (oJ aq) hj).Np
theorem SK{m:Mem}{x:V}{v:Value}{cs:List C}(h:rU x=some cs)(hr:bU m x v):df m cs v.cells.toList:=by
 cases x with
 |undef=>simp[rU] at h
 |tup vs=>simp[rU] at h
 |one c=>
  simp[rU] at h;subst h;rw[(bU.one.1 hr).cells];refine⟨rfl,fun j y u p q=>?_⟩;cases j with
  |zero=>simp at p q;subst p q;exact hr
  |succ j=>simp at p
 |agg ds=>simp[rU] at h;subst h;obtain⟨arr,e,h⟩:=bU.agg.1 hr;rw[e];exact h
section
variable {m:Mem} {ak:Env} {a:Act} {o:Oper} (au:Ok w0 m) (hr:iO m ak a.tmps)
include au hr
theorem arG{t:TypeId}{x v:Operand}{x' v':aQ}{n:Nat}{cs:List C}{r:V}{u:List eX}{rd:List Nat}(ho:o.op=.store t x v)(hn:xr P t=some n)(hx:cG x=some x')(hv:cG v=some v')
  (hc:rU (ev ak v')=some cs) (hw:Ap m.aj (ev ak x') n cs=.done r u rd):fM P w0 a.eval o m r u:=by
 have cX:=SK hc (eB hv hr);have kM:=eB hx hr;unfold xr at hn;simp only[dx] at hn;obtain⟨i,hi,iT⟩:=hn;have cA:(a.eval v).cells.toList.length=cs.length:=cX.1;simp only[N8] at cA;unfold Ap at hw;split at hw
 .cases hw
 rename_i hlen;have hlen:cs.length=n:=by simpa using hlen
 have PN:=cX.one;split at hw
 .rename_i id g off he;rw[he] at kM;have kM:cT m _ (a.eval x):=kM;generalize hb:a.eval x=b at kM;cases kM with
  |aX ad hg nj=>
   split at hw
   .rename_i g' zb lf;split at hw
    .rename_i Gt;obtain⟨iB,hfit⟩:=Gt;cases hw;have aT:(m.aj id).2=some (.var zb):=by rw[lf]
     have nj:=nj (by rw[lf];exact iB) (by rw[aT];rfl);subst nj;obtain⟨cur,ty,hh,dw⟩:=au.obj id _ aT;have cP:=dw.1;simp at cP;have A2:off+0+(a.eval v).cells.toList.length<=cur.size:=by simp;omega
     have cM:=run_storeCells_at P (m.σ id) off ty (a.eval v).cells.toList 0 cur m.w hh A2 PN;simp only[xA] at cM;generalize hW:m.w.setRow (m.σ id) (cur.toList.take off++(a.eval v).cells.toList++cur.toList.drop (off+(a.eval v).cells.toList.length)).toArray=W at cM;have Es:W.heap.size=m.w.heap.size:=by rw[<- hW];simp
     have Er:∀c,c≠m.σ id->W.heap[c]?=m.w.heap[c]? :=fun c hc=>by rw[<- hW];exact setRow_other m.w (m.σ id) c _ hc
     have dR:=NJ (w':=W) (o:=.var (eV zb off cs)) aT rfl (by simp[kD]) (by rw[<- hW];rfl) (by rw[<- hW];rfl) (by rw[<- hW];rfl) Es Er;have CH:tH (m.jZ W id (.var (eV zb off cs))) id (.var (eV zb off cs)):=by
      refine⟨_,ty,by rw[<- hW];exact NK hh,?_⟩;have:=df.pw.2 ((df.pw.1 (dw.ev dR.zero)).eV (df.pw.1 (cX.ev dR.zero)) off)
      simpa [eV] using this
     refine⟨undef,m.jZ W id (.var (eV zb off cs)),.inr ⟨?_,rfl⟩,Q0 aT rfl au (by simp[kD]) (by rw[<- hW];rfl) (by rw[<- hW];rfl) (by rw[<- hW];rfl) Es Er CH,dR,rfl,?_,rfl⟩
     .simp only[execOp,ho,hb,Instr.storeAt,Instr.sureAddr,storeVar,sizeOf,typeInfo];simp[hi,cA,hlen,iT,cM,Mem.jZ]
     simp[Mem.jZ,app,lf,iB]
    cases hw
   cases hw
 .rename_i id g i' off he;rw[he] at kM;have kM:cT m _ (a.eval x):=kM;generalize hb:a.eval x=b at kM;cases kM with
  |de ad hg nj=>
   split at hw
   .rename_i g' ty sz es lf;split at hw
    .rename_i e ps yf PQ;split at hw
     .rename_i Gt;obtain⟨iB,hfit⟩:=Gt;cases hw;have aT:(m.aj id).2=some (.arr ty sz es):=by rw[lf]
      have nj:=nj sz (by rw[lf];exact iB) (by rw[lf];rfl);subst nj;obtain⟨cur,hh,pG,uc,hl,hm,aaF,dw⟩:=au.obj id _ aT;have de:=LV uc yf;have als:i'<es.length:=(bg.1 yf).1;have r6:(i'+1)*sz<=es.length*sz:=lY _ als;have aaM:es.length*sz<=m.κ id*sz:=lY _ hl;rw[fY,KY] at r6;have hpsl:ps.length=cs.length:=by rw[<- cX.1];exact(NU PQ cX).1.symm
      have A2:i'*sz+off+0+(a.eval v).cells.toList.length<=cur.size:=by simp;omega
      have cM:=run_storeCells_at P (m.σ id) (i'*sz+off) ty (a.eval v).cells.toList 0 cur m.w hh A2 PN;simp only[xA] at cM;generalize hW:m.w.setRow (m.σ id) (cur.toList.take (i'*sz+off)++(a.eval v).cells.toList++cur.toList.drop (i'*sz+off+(a.eval v).cells.toList.length)).toArray=W at cM;have Es:W.heap.size=m.w.heap.size:=by rw[<- hW];simp
      have Er:∀c,c≠m.σ id->W.heap[c]?=m.w.heap[c]? :=fun c hc=>by rw[<- hW];exact setRow_other m.w (m.σ id) c _ hc
      have dR:=NJ (w':=W) (o:=.arr ty sz (es.set i' (eV e off ps))) aT rfl (by simp[kD]) (by rw[<- hW];rfl) (by rw[<- hW];rfl) (by rw[<- hW];rfl) Es Er;have CH:tH (m.jZ W id (.arr ty sz (es.set i' (eV e off ps)))) id (.arr ty sz (es.set i' (eV e off ps))):=by
       refine⟨_,by rw[<- hW];exact NK hh,pG,?_,by rw[tE];exact hl,hm,?_,?_⟩
       .intro e' Gw;rcases R0 Gw with h|h
        .exact uc e' h
        rw[h,Re aa];exact de
       .simp[Mem.jZ];omega
       rw[tE,akj uc yf aa];have h1:=(dd.pw.1 (dw.ev dR.zero)).eV (dd.pw.1 ((NU PQ cX).ev dR.zero)) (i'*sz+off);rw[<- ae8 (by simp;omega) (by simp;omega)] at h1;have h1:=dd.pw.2 h1
       simpa [eV] using h1
      refine⟨undef,m.jZ W id (.arr ty sz (es.set i' (eV e off ps))),.inr ⟨?_,rfl⟩,Q0 aT rfl au (by simp[kD]) (by rw[<- hW];rfl) (by rw[<- hW];rfl) (by rw[<- hW];rfl) Es Er CH,dR,rfl,?_,rfl⟩
      .simp only[execOp,ho,hb,Instr.storeAt,Instr.sureAddr,storeVar,sizeOf,typeInfo];simp[hi,cA,hlen,iT,cM,Mem.jZ]
      simp[Mem.jZ,app,lf,iB]
     cases hw
    cases hw
   cases hw
 cases hw
end
end
end Go.Abs
namespace Go.Abs
variable {P:Program} {w0:World}
theorem yW{m:Mem}{x:V}{v:Value}{n:Nat}(h:oQ x=some n)(hr:bU m x v):∃k,v=.int k (n:Int):=by
 unfold oQ at h;split at h
 .rename_i k z;split at h
  .rename_i hz;cases h;exact⟨k,by rw[CU hr,Int.toNat_of_nonneg hz]⟩
  cases h
 cases h
theorem Q7{t:TypeId}{n:Nat}(h:xr P t=some n)(w:World):(sizeOf t).run P w=.ok n w:=by unfold xr at h;simp only[dx] at h;obtain⟨i,hi,rfl⟩:=h;simp[sizeOf,typeInfo,hi]
section
variable {m:Mem} {ak:Env} {a:Act} {o:Oper} (au:Ok w0 m) (hr:iO m ak a.tmps)
include au hr
theorem ark{s:TypeId}{x:Operand}{f:Nat}{fs:Array Field}{d:Field}{y:aQ}{v:V}(ho:o.op=.fieldAddr s x f)(hs:P.underlying s=some (.struct fs))(hf:fs[f]?=some d)
  (hz:P.cellsOf d.type≠0) (hx:cG x=some y) (hv:bG (fun _=>false) ak m.aj (.ng d.offset y)=.done v [] []):fM P w0 a.eval o m v []:=by
 have ek:=eB hx hr;have cA:∃n,(sizeOf d.type).run P m.w=.ok n m.w/\n≠0:=by
  unfold Program.cellsOf at hz;cases hi:P.info? d.type with
  |none=>simp[hi] at hz
  |some i=>exact⟨i.size,by simp[sizeOf,typeInfo,hi],by simpa [hi] using hz⟩
 obtain⟨n,hn,js⟩:=cA;have run:∀ad,a.eval x=.pointer (some ad)->(execOp a.eval o).run P m.w=.ok (.value (.pointer (some (ad.add d.offset)))) m.w:=by intro ad nj;simp[execOp,ho,nj,Instr.fieldAt,run_underlying hs,hf,Instr.sureAddr,fieldPlace,hn,js]
 simp only[bG] at hv;split at hv
 .rename_i id g off he;rw[he] at ek;cases hv;have hc:cT m _ (a.eval x):=ek;generalize hb:a.eval x=b at hc;cases hc with
  |aX ad hg h=>exact .calm au (run _ hb) (bU.one.2 (.aX _ hg fun h1 h2=>by rw[h h1 h2,Addr.add_lit]))
 .rename_i id g i off he;rw[he] at ek;cases hv;have hc:cT m _ (a.eval x):=ek;generalize hb:a.eval x=b at hc;cases hc with
  |de ad hg h=>exact .calm au (run _ hb) (bU.one.2 (.de _ hg fun sz h1 h2=>by rw[h sz h1 h2,Addr.add_lit,HU]))
 .rename_i cs he;rw[he] at ek;cases hv;have hc:cT m _ (a.eval x):=ek;generalize hb:a.eval x=b at hc;cases hc with
  |p hp=>cases hp with
   |box b' o' f' kK jT qp=>refine .calm au (run _ hb) (mx ?_);rw[Addr.add_lit];refine .box b' (o'+d.offset) (fun j=>f' (d.offset+j)) (fun h=>kK fun e=>h (by simp[e])) (fun j z h=>?_) fun j z h=>qp _ z (by simpa using h);rw[HU];exact jT _ z (by simpa using h)
 cases hv
theorem arn{t e:TypeId}{x i:Operand}{sz:Nat}{x' i':aQ}{v:V}(ho:o.op=.indexAddr t x i)(ht:P.underlying t=some (.slice e))(hs:xr P e=some sz)
  (hx:cG x=some x') (hi:cG i=some i') (hv:bG (fun _=>false) ak m.aj (.GZ sz x' i')=.done v [] []):fM P w0 a.eval o m v []:=by
 have ek:=eB hx hr;have Jr:=eB hi hr;have run:∀ad len cap k (n:Nat),a.eval x=.slice (some ad) len cap->a.eval i=.int k (n:Int)->n<len->(execOp a.eval o).run P m.w=.ok (.value (.pointer (some (ad.add (n*sz))))) m.w:=by intro ad len cap k n h1 h2 h3;simp[execOp,ho,h1,h2,Instr.indexAt,asIntOf,run_underlying ht,Q7 hs,h3]
 simp only[bG] at hv;split at hv
 .rename_i n es hn he;obtain⟨k,hk⟩:=yW hn Jr;rw[he] at ek;split at hv
  .rename_i el de;split at hv
   .rename_i hlen;cases hv;have hc:cT m _ (a.eval x):=ek;generalize hb:a.eval x=b at hc;cases hc with
    |p hp=>
     generalize gG:(PV.sl es)=pv at hp;cases hp<;>first
      |cases gG
      |skip
     .simp at de
     rename_i b' o' cap ch f tn kK vt cA wI CM;have aq:n<es.length:=(bg.1 de).1;have UA:ch=sz:=by rw[<- LV cA de];exact hlen
     subst UA;refine .calm au (run _ _ _ k n hb hk aq) (mx ?_);rw[Addr.add_lit];refine .box b' (o'+n*ch) (fun j=>f (n*ch+j)) (fun h=>kK ?_) (fun j z h=>?_) fun j z h=>?_
     .intro e0;cases el with
      |nil=>exact h rfl
      |cons c r=>have:=Gg cA de (j:=0) (by rw[<- hlen];simp);rw[e0] at this;simp at this
     .have hj:j<ch:=by rw[<- hlen];exact(bg.1 h).1
      rw[HU];exact wI _ z (by rw[Gg cA de hj];exact h)
     have hj:j<ch:=by rw[<- hlen];exact(bg.1 h).1
     exact CM _ z (by rw[Gg cA de hj];exact h)
   cases hv
  cases hv
 .rename_i n id g z off len hn he;obtain⟨k,hk⟩:=yW hn Jr;rw[he] at ek;split at hv
  .rename_i aq;cases hv;have hc:cT m _ (a.eval x):=ek;generalize hb:a.eval x=b at hc;cases hc with
   |hsl ad cap hg hl hm h=>refine .calm au (run _ _ _ k n hb hk aq.1) (bU.one.2 (.de _ hg fun s h1 h2=>?_));obtain⟨e1,e2,_⟩:=h s h1 h2;rw[e2 (.inr aa),Addr.add_lit,e1,aq.2];simp[fY]
  cases hv
 cases hv
theorem aq5{t e:TypeId}{x i:Operand}{sz ln:Nat}{x' i':aQ}{v:V}(ho:o.op=.indexAddr t x i)(ht:P.underlying t=some (.array ln e))(hs:xr P e=some sz)
  (hx:cG x=some x') (hi:cG i=some i') (hv:bG (fun _=>false) ak m.aj (.Ic ln sz x' i')=.done v [] []):fM P w0 a.eval o m v []:=by
 have ek:=eB hx hr;have Jr:=eB hi hr;have run:∀ad k (n:Nat),a.eval x=.pointer (some ad)->a.eval i=.int k (n:Int)->n<ln->(execOp a.eval o).run P m.w=.ok (.value (.pointer (some (ad.add (n*sz))))) m.w:=by intro ad k n h1 h2 h3;simp[execOp,ho,h1,h2,Instr.indexAt,asIntOf,run_underlying ht,Q7 hs,h3,Instr.sureAddr]
 simp only[bG] at hv;split at hv
 .rename_i n id g off hn he;obtain⟨k,hk⟩:=yW hn Jr;rw[he] at ek;split at hv
  .rename_i aq;cases hv;have hc:cT m _ (a.eval x):=ek;generalize hb:a.eval x=b at hc;cases hc with
   |aX ad hg h=>exact .calm au (run _ k n hb hk aq) (bU.one.2 (.aX _ hg fun h1 h2=>by rw[h h1 h2,Addr.add_lit]))
  cases hv
 .rename_i n id g j off hn he;obtain⟨k,hk⟩:=yW hn Jr;rw[he] at ek;split at hv
  .rename_i aq;cases hv;have hc:cT m _ (a.eval x):=ek;generalize hb:a.eval x=b at hc;cases hc with
   |de ad hg h=>exact .calm au (run _ k n hb hk aq) (bU.one.2 (.de _ hg fun s h1 h2=>by rw[h s h1 h2,Addr.add_lit,HU]))
  cases hv
 .rename_i n cs hn he;obtain⟨k,hk⟩:=yW hn Jr;rw[he] at ek;split at hv
  .rename_i aq;cases hv;have hc:cT m _ (a.eval x):=ek;generalize hb:a.eval x=b at hc;cases hc with
   |p hp=>cases hp with
    |box b' o' f' kK jT qp=>refine .calm au (run _ k n hb hk aq) (mx ?_);rw[Addr.add_lit];refine .box b' (o'+n*sz) (fun j=>f' (n*sz+j)) (fun h=>kK fun e=>h (by simp[e])) (fun j z h=>?_) fun j z h=>qp _ z (by simpa using h);rw[HU];exact jT _ z (by simpa using h)
  cases hv
 cases hv
theorem adL{t:TypeId}{k:Option Nat}(hk:rA P t=some k){cs:List C}{arr:Array Value}(hc:df m cs arr.toList){off:Nat}{x:V}(hx:pS k (cs.drop off)=some x):
  ∃y,(part t arr off).run P m.w=.ok y m.w/\bU m x y:=by
 have _u0:=au;have _u1:=hr;have hl:=hc.1;simp at hl;cases k with
 |none=>
  obtain⟨h1,h2⟩:=aew hk m.w;cases hd:cs.drop off with
  |nil=>simp[hd,pS] at hx
  |cons c r=>
   simp[hd,pS] at hx;subst hx;have cX:cs[off]?=some c:=by
    have:=congrArg (·[0]?) hd
    simpa using this
   have aq:off<arr.size:=by rw[hl];exact(bg.1 cX).1
   refine⟨arr[off],by simp[part,h1,aq],bU.one.2 (hc.2 off c _ cX (by simp[aq]))⟩
 |some n=>
  obtain⟨h1,h2⟩:=aex hk m.w;simp only[pS] at hx;split at hx
  .rename_i hn;cases hx;simp at hn;refine⟨.agg (arr.extract off (off+n)),by simp[part,h1,h2],bU.agg.2 ⟨_,rfl,by simp;omega,fun j x u p q=>?_⟩⟩;rw[lI] at p;split at p
   .rename_i hj;simp at p;refine hc.2 (off+j) x u p ?_;have aq:off+j<cs.length:=(bg.1 p).1;have he:(arr.extract off (off+n)).toList=(arr.toList.drop off).take n:=af;rw[he,lI,aD hj,Aw] at q;exact q
   cases p
  cases hx
theorem arl{t:TypeId}{x:Operand}{f:Nat}{fs:Array Field}{d:Field}{y:aQ}{k:Option Nat}{cs:List C}{v:V}(ho:o.op=.field t x f)(hs:P.underlying t=some (.struct fs))(hf:fs[f]?=some d)
  (hk:rA P d.type=some k) (hx:cG x=some y) (hy:ev ak y=.agg cs) (hv:pS k (cs.drop d.offset)=some v):fM P w0 a.eval o m v []:=by
 have ek:=eB hx hr;rw[hy] at ek;obtain⟨arr,e,hc⟩:=bU.agg.1 ek;obtain⟨z,h1,h2⟩:=adL (au:=au) (hr:=hr) hk hc hv;exact .calm au (by simp[execOp,ho,e,Instr.field,run_underlying hs,hf,asAgg,h1]) h2
theorem aq6{t e:TypeId}{x i:Operand}{ln sz:Nat}{x' i':aQ}{k:Option Nat}{n:Nat}{cs:List C}{v:V}(ho:o.op=.index t x i)(ht:P.underlying t=some (.array ln e))(hs:xr P e=some sz)
  (hk:rA P e=some k) (hx:cG x=some x') (hi:cG i=some i') (hn:oQ (ev ak i')=some n) (aq:n<ln) (hy:ev ak x'=.agg cs) (hv:pS k (cs.drop (n*sz))=some v):fM P w0 a.eval o m v []:=by
 have ek:=eB hx hr;obtain⟨kk,tX⟩:=yW hn (eB hi hr);rw[hy] at ek;obtain⟨arr,e',hc⟩:=bU.agg.1 ek;obtain⟨z,h1,h2⟩:=adL (au:=au) (hr:=hr) hk hc hv;exact .calm au (by simp[execOp,ho,e',tX,Instr.index,asIntOf,run_underlying ht,Q7 hs,aq,h1]) h2
theorem arC{t:TypeId}{x i:Operand}{x' i':aQ}{n:Nat}{s:ByteArray}{b:UInt8}(ho:o.op=.index t x i)(ht:P.underlying t=some .string)
  (hx:cG x=some x') (hi:cG i=some i') (hn:oQ (ev ak i')=some n) (hy:ev ak x'=.one (.p (.str s))) (hb:s[n]?=some b):fM P w0 a.eval o m (.one (.p (.int .u8 b.toNat))) []:=by
 have ek:=eB hx hr;obtain⟨kk,tX⟩:=yW hn (eB hi hr);rw[hy] at ek;exact .calm au (by simp[execOp,ho,MZ ek,tX,Instr.index,asIntOf,run_underlying ht,hb]) (mx (.int _ _))
end
end Go.Abs
namespace Go.Abs
variable {P:Program} {w0:World}
theorem ahS{op:BinOp}{t:TypeId}{k k':IntKind}{x y:Int}{v:PV}(w:World)(hk:k=k'\/op=.shl\/op=.shr)(h:tK op k x y=some v):
  ∃u,(binOp op t (.int k x) (.int k' y)).run P w=.ok u w/\ ∀own,cD w own v u:=by
 by_cases hs:op=.shl\/op=.shr
 .rcases hs with rfl|rfl
  .simp only[tK] at h;split at h
   .cases h
   rename_i hy;cases h;exact⟨_,by simp[binOp,Op.shift,hy],fun own=>.int _ _⟩
  simp only[tK] at h;split at h
  .cases h
  rename_i hy;cases h;exact⟨_,by simp[binOp,Op.shift,hy],fun own=>.int _ _⟩
 have tX:k=k':=by
  rcases hk with h|h
  .exact h
  exact(hs h).elim
 subst tX;cases op<;>simp only[tK] at h<;>first
  |cases h
  |skip
 all_goals first
  |exact(hs (.inl rfl)).elim
  |exact(hs (.inr rfl)).elim
  |(exact⟨_,by simp[binOp,Op.intArith,Op.intCmp,Op.intBits],fun own=>.int _ _⟩)
  |(exact⟨_,by simp[binOp,Op.intArith,Op.intCmp],fun own=>.bool _⟩)
  |(split at h
    .cases h
    rename_i hy;cases h;exact⟨_,by simp[binOp,Op.intDiv,hy],fun own=>.int _ _⟩)
theorem ahU{op:BinOp}{t:TypeId}{x y:ByteArray}{v:PV}(w:World)(h:BS op x y=some v):
  ∃u,(binOp op t (.string x) (.string y)).run P w=.ok u w/\ ∀own,cD w own v u:=by
 cases op<;>simp only[BS] at h<;>first
  |cases h
  |skip
 all_goals first
  |exact⟨_,by simp[binOp,Op.stringOp],fun own=>.bool _⟩
  |(split at h
    .rename_i hl;cases h;refine⟨.string (x++y),?_,fun own=>.str _⟩;have:¬((x.size:Int)+(y.size:Int)>9223372036854775807):=aa;simp[binOp,Op.stringOp,this]
    cases h)
section
variable {m:Mem} {ak:Env} {a:Act} {o:Oper} (au:Ok w0 m) (hr:iO m ak a.tmps)
include au hr
theorem aq9{op:BinOp}{t ty:TypeId}{x y:Operand}{x' y':aQ}{v:V}(ho:o.op=.binOp op t x y ty)(hx:cG x=some x')(hy:cG y=some y')
  (hv:qL op (ev ak x') (ev ak y')=some v):fM P w0 a.eval o m v []:=by
 have h1:=eB hx hr;have h2:=eB hy hr;unfold qL at hv;split at hv
 .rename_i k p k' q e1 e2;rw[e1] at h1;rw[e2] at h2;split at hv
  .rename_i hk;simp only[dx] at hv;obtain⟨u,hu,rfl⟩:=hv;obtain⟨z,hz,Jz⟩:=ahS (P:=P) (t:=t) m.w hk hu;refine .calm au ?_ (mx (Jz _));have hg:(eqGuard op t x y (.int k p) (.int k' q)).run P m.w=.ok () m.w:=by cases op<;>simp[eqGuard]
   simp[execOp,ho,CU h1,CU h2,hg,hz]
  cases hv
 .rename_i p q e1 e2;rw[e1] at h1;rw[e2] at h2;simp only[dx] at hv;obtain⟨u,hu,rfl⟩:=hv;obtain⟨z,hz,Jz⟩:=ahU (P:=P) (t:=t) m.w hu;refine .calm au ?_ (mx (Jz _));have hg:(eqGuard op t x y (.string p) (.string q)).run P m.w=.ok () m.w:=by cases op<;>simp[eqGuard]
  simp[execOp,ho,MZ h1,MZ h2,hg,hz]
 cases hv
theorem arA{t:TypeId}{x:Operand}{x':aQ}{b:Bool}(ho:o.op=.unOp .not t x)(hx:cG x=some x')(hb:ev ak x'=.one (.p (.bool b))):fM P w0 a.eval o m (.one (.p (.bool (!b)))) []:=by have h1:=eB hx hr;rw[hb] at h1;exact .calm au (by simp[execOp,ho,EY h1,Op.unary]) (mx (.bool _))
theorem ary{t:TypeId}{x:Operand}{x':aQ}{k:IntKind}{n:Int}(ho:o.op=.unOp .neg t x)(hx:cG x=some x')(hb:ev ak x'=.one (.p (.int k n))):fM P w0 a.eval o m (.one (.p (.int k (k.wrap (0-n))))) []:=by have h1:=eB hx hr;rw[hb] at h1;exact .calm au (by simp[execOp,ho,CU h1,Op.unary,Op.intArith]) (mx (.int _ _))
theorem ari{s d:TypeId}{x:Operand}{x':aQ}{ks k k0:IntKind}{n:Int}(ho:o.op=.convert s d x)(hs:P.underlying s=some (.int ks))(hd:P.underlying d=some (.int k))(hx:cG x=some x')
  (hb:ev ak x'=.one (.p (.int k0 n))):fM P w0 a.eval o m (.one (.p (.int k (k.wrap n)))) []:=by
 have h1:=eB hx hr;rw[hb] at h1;exact .calm au (by simp[execOp,ho,CU h1,convert,run_underlying hs,run_underlying hd,Conv.intToInt]) (mx (.int _ _))
theorem adx:∀ {xs:List Operand} {ys:List aQ} {cs:List C},pY xs=some ys->vI ak ys=some cs->df m cs (xs.map a.eval):=by
 have _u0:=au;intro xs
 induction xs with
 |nil=>intro ys cs h1 h2;simp[pY] at h1;subst h1;simp[vI] at h2;subst h2;exact⟨rfl,fun j x u p=>by simp at p⟩
 |cons x r ih=>
  intro ys cs h1 h2;simp only[pY] at h1;split at h1
  .rename_i y ys' e1 e2;cases h1;simp only[vI] at h2;split at h2
   .rename_i c q e3 e4;cases h2;obtain⟨hl,CM⟩:=ih e2 e4;refine⟨by simpa using hl,fun j z u p q=>?_⟩;cases j with
    |zero=>simp at p q;subst p q;have:=eB e1 hr;rw[e3] at this;exact this
    |succ j=>simp at p q;exact CM j z u p (by simpa using q)
   cases h2
  cases h1
theorem aru{f:FuncId}{x y:Array Operand}{x' y':List aQ}{cs ds:List C}(ho:o.op=.makeFunc (.func f) x y)(hx:pY x.toList=some x')(hy:pY y.toList=some y')
  (hc:vI ak x'=some cs) (hd:vI ak y'=some ds):fM P w0 a.eval o m (.one (.hfn f cs ds)) []:=by
 have h1:=adx (au:=au) (hr:=hr) hx hc;have h2:=adx (au:=au) (hr:=hr) hy hd;refine .calm (x:=.func (.func f) (x.map a.eval) (y.map a.eval)) au (by simp[execOp,ho,Instr.makeFunc]) (bU.one.2 (.hfn _ _ ?_ ?_ ?_ ?_))
 .have:=h1.1;simpa using this
 .have:=h2.1;simpa using this
 .intro j z u p q;exact h1.2 j z u p (by rw[<- Array.toList_map,HN];exact q)
 intro j z u p q;exact h2.2 j z u p (by rw[<- Array.toList_map,HN];exact q)
theorem arj{x:Operand}{i:Nat}{x':aQ}{vs:List V}{v:V}(ho:o.op=.extract x i)(hx:cG x=some x')(he:ev ak x'=.tup vs)(hv:vs[i]?=some v):fM P w0 a.eval o m v []:=by
 have h1:=eB hx hr;rw[he] at h1;obtain⟨arr,e,hl,hc⟩:=h1;have aq:i<arr.size:=by rw[hl];exact(bg.1 hv).1
 exact .calm (x:=arr[i]) au (by simp[execOp,ho,e,Instr.extract,aq]) (.of1 (hc i v _ hv (by simp[aq])))
theorem acq{x:V}{v:Value}{n:Nat}(h:yt x=some n)(hv:bU m x v):∃ad cap,v=.slice ad n cap/\n<=cap/\cap<=maxLen:=by
 have _u0:=au;have _u1:=hr;unfold yt at h;split at h
 .cases h;exact⟨none,0,Qa hv,bJ _,bj _⟩
 .cases h;obtain⟨hp⟩:cT m _ v:=hv;rename_i es;generalize gG:(PV.sl es)=pv at hp;cases hp<;>cases gG
  .exact⟨_,_,rfl,bj _,by assumption⟩
  exact⟨_,_,rfl,by assumption,by assumption⟩
 .cases h;have hc:cT m _ v:=hv;cases hc with
  |hsl ad cap hg hl hm h=>exact⟨_,_,rfl,hl,hm⟩
 cases h
theorem aro{c:Call}{x:Operand}{x':aQ}{t e:TypeId}{n:Nat}(ho:o.op=.call c)(hc:c.callee=.builtin .len)(has:c.args= #[x])(j6:c.argTypes[0]?=some t)(ht:P.underlying t=some (.slice e))
  (hx:cG x=some x') (hn:yt (ev ak x')=some n):fM P w0 a.eval o m (.one (.p (.int .i64 n))) []:=by
 obtain⟨ad,cap,h1,_,_⟩:=acq (au:=au) (hr:=hr) hn (eB hx hr);refine .calm au ?_ (mx (.int _ _));simp[execOp,ho,resolve,hc,has,invoke,builtin,Builtin.len_,j6,h1,run_underlying ht,goInt]
theorem arD{c:Call}{x:Operand}{x':aQ}{t:TypeId}{s:ByteArray}(ho:o.op=.call c)(hc:c.callee=.builtin .len)(has:c.args= #[x])(j6:c.argTypes[0]?=some t)(ht:P.underlying t=some .string)
  (hx:cG x=some x') (hn:ev ak x'=.one (.p (.str s))):fM P w0 a.eval o m (.one (.p (.int .i64 s.size))) []:=by
 have h1:=eB hx hr;rw[hn] at h1;refine .calm au ?_ (mx (.int _ _));simp[execOp,ho,resolve,hc,has,invoke,builtin,Builtin.len_,j6,MZ h1,run_underlying ht,goInt]
theorem ars{c:Call}{x y:Operand}{x' y':aQ}{k k':IntKind}{p q:Int}(ho:o.op=.call c)(hc:c.callee=.builtin .max)(has:c.args= #[x,y])
  (hx:cG x=some x') (hy:cG y=some y') (h1:ev ak x'=.one (.p (.int k p))) (h2:ev ak y'=.one (.p (.int k' q))):fM P w0 a.eval o m (.one (.p (.int k (if q>p then q else p)))) []:=by
 have g1:=eB hx hr;have g2:=eB hy hr;rw[h1] at g1;rw[h2] at g2;refine .calm au ?_ (mx (.int _ _));simp[execOp,ho,resolve,hc,has,invoke,builtin,Builtin.max_,Builtin.max2,CU g1,CU g2]
theorem art{c:Call}{x y:Operand}{x' y':aQ}{k k':IntKind}{p q:Int}(ho:o.op=.call c)(hc:c.callee=.builtin .min)(has:c.args= #[x,y])
  (hx:cG x=some x') (hy:cG y=some y') (h1:ev ak x'=.one (.p (.int k p))) (h2:ev ak y'=.one (.p (.int k' q))):fM P w0 a.eval o m (.one (.p (.int k (if q<p then q else p)))) []:=by
 have g1:=eB hx hr;have g2:=eB hy hr;rw[h1] at g1;rw[h2] at g2;refine .calm au ?_ (mx (.int _ _));simp[execOp,ho,resolve,hc,has,invoke,builtin,Builtin.min_,Builtin.min2,CU g1,CU g2]
end
end Go.Abs
namespace Go.Abs
variable {P:Program} {w0:World}
section
variable{sz:Nat}
theorem ag8:∀(u:List eX) (aj:aw) (id:Nat),(app u aj id=aj id/\ ∀e∈u,e.1≠id)\/ ∃e∈u,e.1=id/\app u aj id=e.2:=by
 intro u
 induction u with
 |nil=>intro aj id;exact .inl ⟨rfl,fun e h=>by simp at h⟩
 |cons x r ih=>
  intro aj id;obtain⟨i,o⟩:=x;simp only[app];rcases ih (dj aj i o) id with ⟨h1,h2⟩|⟨e,he,h1,h2⟩
  .by_cases hi:id=i
   .exact .inr ⟨(i,o),af,hi.symm,by rw[h1];simp[aN,hi]⟩
   refine .inl ⟨by rw[h1];simp[aN,hi],fun e he=>?_⟩;rcases cI.1 he with rfl|he
   .exact fun h=>hi h.symm
   exact h2 e he
  exact .inr ⟨e,by simp[he],h1,h2⟩
theorem Is{α β γ:Type}{f:α->Option (β×List Nat)}{R:α->γ->Prop}{T:β->γ->Prop}{eQ:List Nat->Prop}(Mq:∀a b,eQ (a++b)->eQ a/\eQ b)
  (hf:∀a b r v,f a=some (b,r)->R a v->eQ r->T b v):∀ {xs:List α} {ys:List β} {r:List Nat} {vs:List γ},collect f xs=some (ys,r)->eQ r->
  (vs.length=xs.length/\ ∀(j:Nat) (x:α) (u:γ),xs[j]?=some x->vs[j]?=some u->R x u)->(vs.length=ys.length/\ ∀(j:Nat) (x:β) (u:γ),ys[j]?=some x->vs[j]?=some u->T x u):=by
 intro xs
 induction xs with
 |nil=>intro ys r vs h _ hr;simp[collect] at h;obtain⟨rfl,rfl⟩:=h;exact⟨hr.1,fun j x u a=>by simp at a⟩
 |cons x t ih=>
  intro ys r vs h hg hr;simp only[collect] at h;split at h
  .rename_i b p bs q e1 e2;cases h;obtain⟨g1,g2⟩:=Mq _ _ hg;cases vs with
   |nil=>simp at hr
   |cons v us=>
    obtain⟨hl,hh⟩:=ih (vs:=us) e2 g2 ⟨by simpa using hr.1,fun j x u a b=>hr.2 (j+1) x u (by simpa using a) (by simpa using b)⟩;refine⟨by simp[hl],fun j z u a b=>?_⟩;cases j with
    |zero=>simp at a b;subst a b;exact hf _ _ _ _ e1 (hr.2 0 x v rfl rfl) g1
    |succ j=>simp at a b;exact hh j z u a b
  cases h
def pX(m:Mem)(own:Nat->Prop)(r:List Nat):Prop:=(∀b,own b->m.own b)/\ ∀id∈r,¬own (m.σ id)
theorem pX.app{m:Mem}{own:Nat->Prop}{a b:List Nat}(h:pX m own (a++b)):pX m own a/\pX m own b:=
 ⟨⟨h.1,fun id hi=>h.2 id (by simp[hi])⟩,⟨h.1,fun id hi=>h.2 id (by simp[hi])⟩⟩
theorem cD.less{w:World}{own Aa:Nat->Prop}(h:∀b,Aa b->own b){x:PV}{v:Value}(hr:cD w own x v):cD w Aa x v:=hr.mono fun c _ hn=>⟨rfl,fun ho=>hn (h c ho)⟩
theorem dd.less{w:World}{own Aa:Nat->Prop}(h:∀b,Aa b->own b){x:List PV}{v:List Value}(hr:dd w own x v):dd w Aa x v:=⟨hr.1,fun j x u a b=>(hr.2 j x u a b).less h⟩
theorem acP{α:Type}{xs:List α}{R:α->Value->Prop}{vs:List Value}(h:Pw R xs vs):∃f:Nat->Value,∀(j:Nat) (x:α),xs[j]?=some x->vs[j]?=some (f j)/\R x (f j):=by
 refine⟨fun j=>vs.getD j undef,fun j x hx=>?_⟩;have aq:j<vs.length:=by rw[h.1];exact(bg.1 hx).1
 have:vs[j]?=some (vs.getD j undef):=by simp[List.getD,oJ aq]
 exact⟨this,h.2 j x _ hx this⟩
theorem Vc{w:World}{own:Nat->Prop}{b o:Nat}{cur:Array Value}{ty:TypeId}{fz:Nat×Nat}{ps:List PV}(hh:w.heap[b]?=some (.cells cur ty fz))(hp:Pw (cD w own) ps (cur.toList.drop o |>.take ps.length))
  (ho:ps≠[]-> ¬own b):cD w own (.box ps) (.pointer (some ⟨b,o,none⟩)):=by
 obtain⟨f,hf⟩:=acP hp;refine .box b o f ho (fun j x hx=>?_) fun j x hx=>(hf j x hx).2;have h1:=(hf j x hx).1;rw[lI] at h1;split at h1
 .rw[DV hh];simpa using h1
 cases h1
theorem acQ{w:World}{own:Nat->Prop}{b o cap sz:Nat}{cur:Array Value}{ty:TypeId}{fz:Nat×Nat}{es:List (List PV)}(hh:w.heap[b]?=some (.cells cur ty fz))(cA:∀e∈es,e.length=sz)
  (hl:es.length<=cap) (hm:cap<=maxLen) (hp:Pw (cD w own) es.flatten ((cur.toList.drop o).take (es.length*sz))) (ho:¬own b):cD w own (.sl es) (.slice (some ⟨b,o,none⟩) es.length cap):=by
 obtain⟨f,hf⟩:=acP hp;refine .sl b o cap sz f (fun _=>ho) hl hm cA (fun j x hx=>?_) fun j x hx=>(hf j x hx).2;have h1:=(hf j x hx).1;rw[lI] at h1;split at h1
 .rw[DV hh];simpa using h1
 cases h1
theorem Pd{α:Type}:∀ {es:List (List α)},(∀e∈es,e.length=sz)->∀(n:Nat),(es.drop n).flatten=es.flatten.drop (n*sz):=by
 intro es
 induction es with
 |nil=>intro _ n;simp
 |cons e r ih=>
  intro h n;cases n with
  |zero=>simp
  |succ n=>simp only[List.drop_succ_cons,lH];have h1:=h e af;rw[ih (fun x hx=>h x (by simp[hx])),af2,RQ (by rw[h1,fY];omega:e.length<=(n+1)*sz),nH];congr 1;rw[h1,fY];omega
theorem IP{α:Type}:∀ {es:List (List α)},(∀e∈es,e.length=sz)->∀(n:Nat),(es.take n).flatten=es.flatten.take (n*sz):=by
 intro es
 induction es with
 |nil=>intro _ n;simp
 |cons e r ih=>
  intro h n;cases n with
  |zero=>simp
  |succ n=>simp only[KV,lH];have h1:=h e af;rw[ih (fun x hx=>h x (by simp[hx])),On,dD (by rw[h1,fY];omega:e.length<=(n+1)*sz)];congr 1;congr 1;rw[h1,fY];omega
theorem FA{α:Type}{R:α->Value->Prop}{off len:Nat}{es:List (List α)}{cur:List Value}(cA:∀e∈es,e.length=sz)(h:Pw R es.flatten (cur.take (es.length*sz)))(hfit:off+len<=es.length):
  Pw R ((es.drop off).take len).flatten ((cur.drop (off*sz)).take (((es.drop off).take len).length*sz)):=by
 have MU:∀e∈es.drop off,e.length=sz:=fun e he=>cA e (vT he);have hlen:((es.drop off).take len).length=len:=by simp;omega
 rw[hlen,IP MU,Pd cA];have h1:=(h.drop (off*sz)).take (len*sz);have h2:((cur.take (es.length*sz)).drop (off*sz)).take (len*sz)=(cur.drop (off*sz)).take (len*sz):=by
  rw[List.drop_take,HT];congr 1;have:off*sz+len*sz<=es.length*sz:=by rw[<- fY];exact lY _ hfit
  omega
 rw[h2] at h1;exact h1
theorem VK{α:Type}{R:α->Value->Prop}:∀ {ps:List (List α)} {cur:List Value},(∀e∈ps,e.length=sz)->ps.length*sz<=cur.length->
  (∀(j:Nat) (e:List α),ps[j]?=some e->Pw R e ((cur.drop (j*sz)).take sz))->Pw R ps.flatten (cur.take (ps.length*sz)):=by
 intro ps
 induction ps with
 |nil=>intro cur _ _ _;exact⟨af,fun j x u a=>by simp at a⟩
 |cons e r ih=>
  intro cur h hl hp;simp only[cS,fY,KY] at hl;have h0:=hp 0 e rfl;rw[Ay,List.drop_zero] at h0;have h1:=ih (cur:=cur.drop sz) (fun x hx=>h x (by simp[hx])) (by simp;omega) fun j x hx=>by have:=hp (j+1) x (by simpa using hx);rw[fY,KY] at this;rw[WK,WX sz];exact this
  have h2:=h0.append h1;have h3:cur.take sz++(cur.drop sz).take (r.length*sz)=cur.take ((e::r).length*sz):=by rw[cS,fY,KY,WX,List.take_add]
  rw[h3] at h2;exact h2
theorem Tp{α:Type}{R:α->Value->Prop}{i:Nat}{es:List (List α)}{e:List α}{cur:List Value}(cA:∀e∈es,e.length=sz)(h:Pw R es.flatten (cur.take (es.length*sz)))(he:es[i]?=some e):
  Pw R e ((cur.drop (i*sz)).take sz):=by
 have hi:i<es.length:=(bg.1 he).1;have h1:=FA (off:=i) (len:=1) cA h aa;have h0:((es.drop i).take 1)=[e]:=by rw[WL hi];have:=(bg.1 he).2;simp[this]
 rw[h0] at h1
 simpa using h1
theorem SR{α β:Type}{f:α->Option (β×List Nat)}:∀ {xs:List α} {ys:List β} {r:List Nat},collect f xs=some (ys,r)->ys.length=xs.length:=by
 intro xs
 induction xs with
 |nil=>intro ys r h;simp[collect] at h;rw[h.1];rfl
 |cons x t ih=>
  intro ys r h;simp only[collect] at h;split at h
  .rename_i b p bs q e1 e2;cases h;simp[ih e2]
  cases h
theorem SQ{α β:Type}{f:α->Option (β×List Nat)}:∀ {xs:List α} {ys:List β} {r:List Nat},collect f xs=some (ys,r)->∀ {j:Nat} {y:β},ys[j]?=some y->∃x q,xs[j]?=some x/\f x=some (y,q)/\ ∀i∈q,i∈r:=by
 intro xs
 induction xs with
 |nil=>intro ys r h j y hy;simp[collect] at h;rw[h.1] at hy;simp at hy
 |cons x t ih=>
  intro ys r h j y hy;simp only[collect] at h;split at h
  .rename_i b p bs q e1 e2;cases h;cases j with
   |zero=>simp at hy;subst hy;exact⟨x,p,rfl,e1,fun i hi=>by simp[hi]⟩
   |succ j=>simp at hy;obtain⟨x',q',h1,h2,h3⟩:=ih e2 hy;exact⟨x',q',by simpa using h1,h2,fun i hi=>by simp[h3 i hi]⟩
  cases h
theorem Km{m:Mem}(au:Ok w0 m){own:Nat->Prop}:∀(n:Nat) {c:C} {x:PV} {r:List Nat} {v:Value},snap m.aj n c=some (x,r)->cT m c v->pX m own r->cD m.w own x v:=by
 intro n
 induction n with
 |zero=>intro c x r v h;simp[snap] at h
 |succ n ih=>
  intro c x r v h hr hs;have Pu:∀ {cs:List C} {ps:List PV} {q:List Nat} {vs:List Value},collect (snap m.aj n) cs=some (ps,q)->pX m own q->Pw (cT m) cs vs->Pw (cD m.w own) ps vs:=fun h1 h2 h3=>Is (R:=cT m) (T:=cD m.w own) (eQ:=pX m own) (fun a b h=>h.app) (fun a b r v e1 e2 e3=>ih e1 e2 e3) h1 h2 h3
  have PC:∀ {ps:List PV} {vs:List Value},dd m.w m.own ps vs->Pw (cD m.w own) ps vs:=fun h=>dd.pw.1 (h.less hs.1);unfold snap at h;cases c with
  |p y=>simp at h;obtain⟨rfl,rfl⟩:=h;obtain⟨hp⟩:=hr;exact hp.norm.less hs.1
  |aX id g off=>
   cases hr with
   |aX a hg ha=>
    simp only at h;split at h
    .rename_i g' cs hb;split at h
     .rename_i iB;split at h
      .rename_i ps q hq;cases h;have aT:(m.aj id).2=some (.var cs):=by rw[hb]
       have ha:=ha (by rw[hb];exact iB) (by rw[aT];rfl);subst ha;obtain⟨cur,ty,hh,hc⟩:=au.obj id _ aT;have hp:=Pu hq ⟨hs.1,fun i hi=>hs.2 i (by simp[hi])⟩ (df.pw.1 hc);refine Vc hh ?_ fun _=>hs.2 id af;have h1:=hp.drop off;have h2:(cur.toList.drop off).take (ps.drop off).length=cur.toList.drop off:=dD (by have:=h1.1;omega);rw[h2];exact h1
      cases h
     cases h
    .rename_i g' ps hb;split at h
     .rename_i iB;cases h;have aT:(m.aj id).2=some (.fvar ps):=by rw[hb]
      have ha:=ha (by rw[hb];exact iB) (by rw[aT];rfl);subst ha;obtain⟨cur,ty,fz,hh,hc,_⟩:=au.obj id _ aT;refine Vc hh ?_ fun _=>hs.2 id af;have h1:=(PC hc).drop off;have h2:(cur.toList.drop off).take (ps.drop off).length=cur.toList.drop off:=dD (by have:=h1.1;omega);rw[h2];exact h1
     cases h
    cases h
  |de id g i off=>
   cases hr with
   |de a hg ha=>
    have key:∀(ty sz:Nat) (es:List (List PV)) (e:List PV) (cur:Array Value) (fz:Nat×Nat),m.w.heap[m.σ id]?=some (.cells cur ty fz)->(∀e∈es,e.length=sz)->es.length*sz<=cur.size->
      dd m.w m.own es.flatten (cur.toList.take (es.length*sz))->es[i]?=some e->a=⟨m.σ id,i*sz+off,none⟩-> ¬own (m.σ id)->cD m.w own (.box (e.drop off)) (.pointer (some a)):=by
     intro ty sz es e cur fz hh cA hlen dw he wE dr;subst wE;have de:=LV cA he;have hi:i<es.length:=(bg.1 he).1;have r6:(i+1)*sz<=es.length*sz:=lY _ hi;have h1:=(FA (off:=i) (len:=1) cA (PC dw) aa).drop off;have h0:((es.drop i).take 1)=[e]:=by rw[WL hi];have:=(bg.1 he).2;simp[this]
     rw[h0] at h1;simp only[lH,Og,mR,cS,eE,jm,KY] at h1;refine Vc hh ?_ fun _=>dr;have h2:(cur.toList.drop (i*sz+off)).take (e.drop off).length=(((cur.toList.drop (i*sz)).take sz).drop off):=by rw[List.drop_take,WK,lX,de]
     rw[h2];exact h1
    simp only at h;split at h
    .rename_i g' ty sz es hb;split at h
     .rename_i iB;simp only[dx,kn] at h;obtain⟨e,he,rfl,rfl⟩:=h;have aT:(m.aj id).2=some (.arr ty sz es):=by rw[hb]
      obtain⟨cur,hh,pG,cA,hl,hm,cX,dw⟩:=au.obj id _ aT;exact key ty sz es e cur _ hh cA (by rw[cX];exact lY _ hl) dw he (ha sz (by rw[hb];exact iB) (by rw[hb];rfl)) (hs.2 id af)
     cases h
    .rename_i g' ty sz es hb;split at h
     .rename_i iB;simp only[dx,kn] at h;obtain⟨e,he,rfl,rfl⟩:=h;have aT:(m.aj id).2=some (.oY ty sz es):=by rw[hb]
      obtain⟨cur,fz,hh,pG,cA,hl,hm,cX,dw,_⟩:=au.obj id _ aT;exact key ty sz es e cur _ hh cA (by rw[cX];exact lY _ hl) dw he (ha sz (by rw[hb];exact iB) (by rw[hb];rfl)) (hs.2 id af)
     cases h
    cases h
  |hsl id g z off len=>
   cases hr with
   |hsl a cap hg hl hm ha=>
    have key:∀(ty sz:Nat) (es:List (List PV)) (cur:Array Value) (fz:Nat×Nat),m.w.heap[m.σ id]?=some (.cells cur ty fz)->(∀e∈es,e.length=sz)->Pw (cD m.w own) es.flatten (cur.toList.take (es.length*sz))->
      off+len<=es.length->(off=0\/0<len->a=⟨m.σ id,off*sz,none⟩)-> ¬own (m.σ id)->cD m.w own (.sl ((es.drop off).take len)) (.slice (some a) len cap):=by
     intro ty sz es cur fz hh cA dw hfit wE dr;by_cases hlen:len=0
     .subst hlen;simp only[WW];exact .yE _ _ (fun h=>by cases h) hm
     have:=wE (.inr aa);subst this;have hle:((es.drop off).take len).length=len:=by simp;omega
     have h1:=acQ (cap:=cap) (own:=own) (o:=off*sz) (es:=(es.drop off).take len) hh (sz:=sz) (fun e he=>cA e (vT (xz he))) aa hm (FA cA dw hfit) dr;rw[hle] at h1;exact h1
    simp only at h;split at h
    .rename_i g' ty sz es hb;split at h
     .rename_i hc;cases h;have aT:(m.aj id).2=some (.arr ty sz es):=by rw[hb]
      obtain⟨cur,hh,pG,cA,vt,tn,cX,dw⟩:=au.obj id _ aT;exact key ty sz es cur _ hh cA (PC dw) hc.2 (by obtain⟨_,h2,_⟩:=ha sz (by rw[hb];exact hc.1) (by rw[hb];rfl);rename_i e1 _;exact e1▸h2) (hs.2 id af)
     cases h
    .rename_i g' ty sz es hb;split at h
     .rename_i hc;cases h;have aT:(m.aj id).2=some (.oY ty sz es):=by rw[hb]
      obtain⟨cur,fz,hh,pG,cA,vt,tn,cX,dw,_⟩:=au.obj id _ aT;exact key ty sz es cur _ hh cA (PC dw) hc.2 (by obtain⟨_,h2,_⟩:=ha sz (by rw[hb];exact hc.1) (by rw[hb];rfl);exact h2) (hs.2 id af)
     cases h
    .rename_i g' ty sz es hb;split at h
     .rename_i hc;split at h
      .rename_i ps q hq;cases h;have aT:(m.aj id).2=some (.gU ty sz es):=by rw[hb]
       obtain⟨cur,hh,pG,cA,vt,tn,cX,dw⟩:=au.obj id _ aT;have Ux:=FA cA (df.pw.1 dw) hc.2;have MU:∀e∈(es.drop off).take len,e.length=sz:=fun e he=>cA e (vT (xz he));have hle:((es.drop off).take len).length=len:=by simp;omega
       have cK:ps.length=len:=by rw[SR hq,hle]
       have lh:len*sz<=(cur.toList.drop (off*sz)).length:=by
        simp;have h1:off*sz+len*sz<=es.length*sz:=by rw[<- fY];exact lY _ hc.2
        have h2:es.length*sz<=m.κ id*sz:=lY _ vt;omega
       have nX:∀(j:Nat) (e:List PV),ps[j]?=some e->Pw (cD m.w own) e (((cur.toList.drop (off*sz)).drop (j*sz)).take sz):=by intro j e he;obtain⟨x,q',h1,h2,h3⟩:=SQ hq he;exact Pu h2 ⟨hs.1,fun i hi=>hs.2 i (by simp[h3 i hi])⟩ (Tp MU Ux h1)
       have EM:∀e∈ps,e.length=sz:=by
        intro e he;obtain⟨j,hj⟩:=jd he;have:=(nX j e hj).1;have nu:j<len:=by rw[<- cK];exact(bg.1 hj).1
        have h1:(j+1)*sz<=len*sz:=lY _ nu;rw[fY] at h1;simp at this lh;omega
       by_cases hlen:len=0
       .have:ps=[]:=atP aa;subst this;subst hlen;exact .yE _ _ (fun h=>by cases h) hm
       obtain⟨_,h2,_⟩:=ha sz (by rw[hb];exact hc.1) (by rw[hb];rfl);rename_i e1 _;have wE:=h2 (.inr aa);subst wE;have Cv:=acQ (cap:=cap) (own:=own) (o:=off*sz) hh EM aa hm (VK EM (by rw[cK];exact lh) nX) (hs.2 id af);rw[cK] at Cv;exact Cv
      cases h
     cases h
    cases h
  |jW id g=>
   cases hr with
   |jW r' hg ha=>
    have key:∀(ag:Bool) (es:List (PV×List PV)) (ents:Array MapEntry) (clock:Nat),m.w.heap[m.σ id]?=some (.map ents clock)->ents.size=es.length->
      (∀(i:Nat) (q:PV) (v:List PV) (e:MapEntry),es[i]?=some (q,v)->ents[i]?=some e->cD m.w m.own q e.key/\ ∃g:Array Value,(ag=true->e.val=.agg g)/\(ag=false-> #[e.val]=g)/\dd m.w m.own v g.toList)->
      ¬own (m.σ id)->cD m.w own (.mp ag es) (.map (some (m.σ id))):=by
     intro ag es ents clock hh hl hc dr;have hch:∃G:Nat->Array Value,∀(i:Nat) (q:PV) (v:List PV) (e:MapEntry),es[i]?=some (q,v)->ents[i]?=some e->(ag=true->e.val=.agg (G i))/\(ag=false-> #[e.val]=G i)/\dd m.w m.own v (G i).toList:=by
      refine⟨fun i=>match ents[i]? with|some e=>(match e.val with| .agg g=>if ag then g else #[e.val]|v=> #[v])|none=> #[],fun i q v e h1 h2=>?_⟩;obtain⟨_,g,g1,g2,g3⟩:=hc i q v e h1 h2;simp only[h2];cases ag with
      |true=>have:=g1 rfl;simp[this];exact g3
      |false=>
       have:=g2 rfl;subst this;refine⟨(fun h=>by cases h),(fun _=>?_),?_⟩
       .cases e.val<;>rfl
       cases hv:e.val<;>simp only[hv] at g3<;>exact g3
     obtain⟨G,hG⟩:=hch;refine .mp (m.σ id) ents clock G dr hh hl (fun i q v e h1 h2=>((hc i q v e h1 h2).1).less hs.1) (fun i q v e h1 h2=>?_) fun i q v j x u h1 h2 h3=>?_
     .obtain⟨a1,a2,a3⟩:=hG i q v e h1 h2;exact⟨by have:=a3.1;simpa using this,a1,a2⟩
     have aq:i<ents.size:=by rw[hl];exact(bg.1 h1).1
     obtain⟨a1,a2,a3⟩:=hG i q v _ h1 (Array.getElem?_eq_getElem aq);exact(a3.2 j x u h2 (by rw[HN];exact h3)).less hs.1
    simp only at h;split at h
    .rename_i g' ag es hb;split at h
     .rename_i iB;cases h;have aT:(m.aj id).2=some (.map ag es):=by rw[hb]
      have ha:=ha (by rw[hb];exact iB) (by rw[aT];rfl);subst ha;obtain⟨ents,clock,hh,hl,hc⟩:=au.obj id _ aT;exact key ag es ents clock hh hl hc (hs.2 id af)
     cases h
    .rename_i g' ag es hb;split at h
     .rename_i iB;cases h;have aT:(m.aj id).2=some (.fmap ag es):=by rw[hb]
      have ha:=ha (by rw[hb];exact iB) (by rw[aT];rfl);subst ha;obtain⟨ents,clock,hh,hl,hc,_⟩:=au.obj id _ aT;exact key ag es ents clock hh hl hc (hs.2 id af)
     cases h
    cases h
  |hfn f a b=>
   cases hr with
   |hfn A B hA hB vw vx=>
    simp only at h;split at h
    .rename_i xa ra xb rb h1 h2;cases h;obtain⟨s1,s2⟩:=hs.app;have p1:=Pu (vs:=A.toList) h1 s1 ⟨by simpa using hA,fun j x u p q=>vw j x u p (by rw[<- HN];exact q)⟩;have p2:=Pu (vs:=B.toList) h2 s2 ⟨by simpa using hB,fun j x u p q=>vx j x u p (by rw[<- HN];exact q)⟩;exact .fn A B (by have:=p1.1;simpa using this) (by have:=p2.1;simpa using this) (fun j x u p q=>p1.2 j x u p (by rw[HN];exact q)) fun j x u p q=>p2.2 j x u p (by rw[HN];exact q)
    cases h
end
end Go.Abs
namespace Go.Abs
variable {P:Program} {w0:World}
theorem aku{aj:aw}{all:List Nat}:∀ {l:List Nat} {u:List eX},uD aj all l=some u->
  (∀e∈u,e.1∈l/\ ∃x,xN aj all e.1=some x/\e∈x)/\ ∀id∈l,∃x,xN aj all id=some x/\ ∀e∈x,e∈u:=by
 intro l
 induction l with
 |nil=>intro u h;simp[uD] at h;subst h;exact⟨fun e h=>by simp at h,fun id h=>by simp at h⟩
 |cons i r ih=>
  intro u h;simp only[uD] at h;split at h
  .rename_i a b h1 h2;cases h;obtain⟨g1,g2⟩:=ih h2;have aaL:∀e∈a,e.1=i:=by
    intro e he;unfold xN at h1;split at h1<;>first
     |(cases h1;simp at he;subst he;rfl)
     |(split at h1
       .split at h1
        .cases h1;simp at he;subst he;rfl
        cases h1
       cases h1)
     |(cases h1;simp at he)
     |cases h1
   refine⟨fun e he=>?_,fun id hid=>?_⟩
   .rcases dZ.1 he with he|he
    .exact⟨by simp[aaL e he],a,by rw[aaL e he];exact h1,he⟩
    obtain⟨k1,k2⟩:=g1 e he;exact⟨by simp[k1],k2⟩
   rcases cI.1 hid with rfl|hid
   .exact⟨a,h1,fun e he=>by simp[he]⟩
   obtain⟨x,k1,k2⟩:=g2 id hid;exact⟨x,k1,fun e he=>by simp[k2 e he]⟩
  cases h
def HX(aj:aw)(all:List Nat):Ob->Ob->Prop
 | .var cs,.fvar ps=>∃r,collect (snap aj ik) cs=some (ps,r)/\ ∀i∈r,i∈all
 | .arr ty sz es,.oY jM ch kX=>jM=ty/\ch=sz/\kX=es
 | .gU ty sz es,.oY jM ch ps=>jM=ty/\ch=sz/\ ∃r,collect (collect (snap aj ik)) es=some (ps,r)/\ ∀i∈r,i∈all
 | .map ag es,.fmap rS kX=>rS=ag/\kX=es
 |_,_=>False
theorem HX.facts{aj:aw}{all:List Nat}{o o':Ob}(h:HX aj all o o')(g:Nat):o.fK=true/\o'.fK=false/\kD (g,some o')=kD (g,some o):=by
 cases o<;>cases o'<;>simp only[HX] at h<;>first
  |exact h.elim
  |exact⟨rfl,rfl,rfl⟩
  |exact⟨rfl,rfl,by simp[kD,h.2.1]⟩
theorem Z5{aj:aw}{all:List Nat}{id:Nat}{x:List eX}(h:xN aj all id=some x):
  (∃o,(aj id).2=some o/\o.fK=false/\x=[])\/ ∃o o',(aj id).2=some o/\HX aj all o o'/\x=[(id,((aj id).1,some o'))]:=by
 unfold xN at h;split at h
 .rename_i g cs hb;split at h
  .rename_i ps r hc;split at h
   .rename_i cV;cases h;refine .inr ⟨.var cs,.fvar ps,by rw[hb],⟨r,hc,fun i hi=>?_⟩,by rw[hb]⟩;have:=ir.1 cV i hi
    simpa using this
   cases h
  cases h
 .rename_i g ty sz es hb;cases h;exact .inr ⟨.arr ty sz es,.oY ty sz es,by rw[hb],⟨rfl,rfl,rfl⟩,by rw[hb]⟩
 .rename_i g ty sz es hb;split at h
  .rename_i ps r hc;split at h
   .rename_i cV;cases h;refine .inr ⟨.gU ty sz es,.oY ty sz ps,by rw[hb],⟨rfl,rfl,r,hc,fun i hi=>?_⟩,by rw[hb]⟩;have:=ir.1 cV i hi
    simpa using this
   cases h
  cases h
 .rename_i g ag es hb;cases h;exact .inr ⟨.map ag es,.fmap ag es,by rw[hb],⟨rfl,rfl⟩,by rw[hb]⟩
 .cases h
 rename_i y n1 n2 n3 n4 n5;cases h;cases hb:aj id with
 |mk g o=>
  cases o with
  |none=>exact(n5 g hb).elim
  |some o=>
   refine .inl ⟨o,rfl,?_,rfl⟩;cases o with
   |var cs=>exact(n1 g cs hb).elim
   |arr ty sz es=>exact(n2 g ty sz es hb).elim
   |gU ty sz es=>exact(n3 g ty sz es hb).elim
   |map ag es=>exact(n4 g ag es hb).elim
   |_=>rfl
def Mem.with(m:Mem)(u:List eX):Mem:={m with aj:=app u m.aj}
theorem wB{m:Mem}{ids:List Nat}{u:List eX}(h:s0 m.aj ids=some u)(id:Nat):
  ((m.with u).aj id=m.aj id/\(id∈ids->∃o,(m.aj id).2=some o/\o.fK=false))\/
  (id∈ids/\ ∃o o',(m.aj id).2=some o/\HX m.aj ids o o'/\(m.with u).aj id=((m.aj id).1,some o')):=by
 obtain⟨h1,h2⟩:=aku h;rcases ag8 u m.aj id with ⟨e1,e2⟩|⟨e,he,e1,e2⟩
 .refine .inl ⟨e1,fun hid=>?_⟩;obtain⟨x,hx,hxu⟩:=h2 id hid;rcases Z5 hx with ⟨o,a,b,_⟩|⟨o,o',a,b,c⟩
  .exact⟨o,a,b⟩
  exact(e2 (id,(m.aj id).fst,some o') (hxu _ (by rw[c];simp)) rfl).elim
 obtain⟨k1,x,k2,k3⟩:=h1 e he;rw[e1] at k1 k2;rcases Z5 k2 with ⟨o,a,b,c⟩|⟨o,o',a,b,c⟩
 .rw[c] at k3;simp at k3
 rw[c] at k3;simp at k3;refine .inr ⟨k1,o,o',a,b,?_⟩;simp only[Mem.with];rw[e2,k3]
theorem Tz{m:Mem}{ids:List Nat}{u:List eX}(h:s0 m.aj ids=some u){c:Nat}(hc:(m.with u).own c):m.own c:=by
 rcases hc with hc|⟨id,o,h1,h2,h3⟩
 .exact .inl hc
 rcases wB h id with ⟨e,_⟩|⟨_,p,q,a,b,e⟩
 .rw[e] at h1;exact .inr ⟨id,o,h1,h2,h3⟩
 rw[e] at h1;cases h1;rw[(b.facts 0).2.1] at h2;cases h2
theorem TA{m:Mem}(au:Ok w0 m){ids:List Nat}{u:List eX}(h:s0 m.aj ids=some u):pX m (m.with u).own ids:=by
 refine⟨fun b hb=>Tz h hb,fun id hid hc=>?_⟩;rcases wB h id with ⟨e,hn⟩|⟨_,o,o',a,b,e⟩
 .obtain⟨o,ho,hm⟩:=hn hid;exact(au.obj id o ho).calm hm (Tz h hc)
 rcases hc with hc|⟨eZ,q,h1,h2,h3⟩
 .exact(au.fi id o a (b.facts 0).1).2 hc
 by_cases hi:eZ=id
 .subst hi;rw[e] at h1;cases h1;rw[(b.facts 0).2.1] at h2;cases h2
 rcases wB h eZ with ⟨e',_⟩|⟨_,p',q',a',b',e'⟩
 .rw[e'] at h1;exact hi (au.inj eZ id q o h1 h2 a (b.facts 0).1 h3)
 rw[e'] at h1;cases h1;rw[(b'.facts 0).2.1] at h2;cases h2
theorem Tx{m:Mem}{ids:List Nat}{u:List eX}(h:s0 m.aj ids=some u):Ev m (m.with u) where
 os:=rfl
 tape:=rfl
 output:=rfl
 size:=bJ _
 keep _ _ _:=rfl
 fK c _ hc:=by
  obtain⟨id,o,h1,h2,h3⟩:=hc;rcases wB h id with ⟨e,_⟩|⟨_,p,q,a,b,e⟩
  .rw[e] at h1;exact⟨id,o,h1,h2,h3⟩
  rw[e] at h1;cases h1;rw[(b.facts 0).2.1] at h2;cases h2
 less c _ hn hc:=hn (Tz h hc)
 gen id:=by rcases wB h id with ⟨e,_⟩|⟨_,p,q,a,b,e⟩<;>rw[e]<;>exact bJ _
 ref id he hs:=by
  rcases wB h id with ⟨e,_⟩|⟨_,p,q,a,b,e⟩
  .rw[e] at hs ⊢;exact⟨hs,rfl,rfl,rfl⟩
  rw[e] at hs ⊢;refine⟨by rw[a];rfl,rfl,rfl,?_⟩;have h1:m.aj id=((m.aj id).1,some p):=by rw[<- a]
  rw[(b.facts (m.aj id).1).2.2,<- h1]
theorem Z6{m:Mem}(au:Ok w0 m){ids:List Nat}{u:List eX}(h:s0 m.aj ids=some u):Ok w0 (m.with u) where
 os:=au.os
 tape:=au.tape
 output:=au.output
 size:=au.size
 base:=au.base
 obj id o ho:=by
  have dR:=Tx h;have qt:=TA au h;rcases wB h id with ⟨e,_⟩|⟨hid,p,q,a,b,e⟩
  .rw[e] at ho;exact(au.obj id o ho).ev dR.zero rfl rfl rfl
  rw[e] at ho;cases ho;have dr:=qt.2 id hid;have PS:∀r:List Nat,(∀i∈r,i∈ids)->pX m (m.with u).own r:=fun r hr=>⟨qt.1,fun i hi=>qt.2 i (hr i hi)⟩;have PO:=au.obj id p a;cases p<;>cases o<;>simp only[HX] at b<;>first
   |exact b.elim
   |skip
  .obtain⟨r,hc,hr⟩:=b;obtain⟨cur,ty,hh,cX⟩:=PO;exact⟨cur,ty,(0,0),hh,dd.pw.2 (Is (R:=cT m) (T:=cD m.w (m.with u).own) (eQ:=pX m (m.with u).own) (fun a b h=>h.app) (fun a b r v e1 e2 e3=>Km au _ e1 e2 e3) hc (PS r hr) (df.pw.1 cX)),dr⟩
  .obtain⟨rfl,rfl,rfl⟩:=b;obtain⟨cur,hh,pG,cA,hl,hm,cX,dw⟩:=PO;exact⟨cur,(0,0),hh,pG,cA,hl,hm,cX,dw.less qt.1,dr⟩
  .obtain⟨rfl,rfl,r,hc,hr⟩:=b;obtain⟨cur,hh,pG,cA,hl,hm,cX,dw⟩:=PO;rename_i es _ sz ps;have cK:ps.length=es.length:=SR hc;have lh:ps.length*sz<=cur.toList.length:=by
    have h2:es.length*sz<=m.κ id*sz:=lY _ hl;simp;rw[cK];omega
   have nX:∀(j:Nat) (e:List PV),ps[j]?=some e->Pw (cD m.w (m.with u).own) e ((cur.toList.drop (j*sz)).take sz):=by intro j e he;obtain⟨x,q',h1,h2,h3⟩:=SQ hc he;exact Is (R:=cT m) (T:=cD m.w (m.with u).own) (eQ:=pX m (m.with u).own) (fun a b h=>h.app) (fun a b r v e1 e2 e3=>Km au _ e1 e2 e3) h2 (PS q' fun i hi=>hr i (h3 i hi)) (Tp cA (df.pw.1 dw) h1)
   have EM:∀e∈ps,e.length=sz:=by intro e he;obtain⟨j,hj⟩:=jd he;have:=(nX j e hj).1;have nu:j<ps.length:=(bg.1 hj).1;have h1:(j+1)*sz<=ps.length*sz:=lY _ nu;rw[fY] at h1;simp at this lh;omega
   exact⟨cur,(0,0),hh,pG,EM,by rw[cK];exact hl,hm,cX,dd.pw.2 (VK EM lh nX),dr⟩
  obtain⟨rfl,rfl⟩:=b;obtain⟨ents,clock,hh,hl,hc⟩:=PO;exact⟨ents,clock,hh,hl,fun i q v e h1 h2=>let ⟨p,g,g1,g2,g3⟩:=hc i q v e h1 h2;⟨p.less qt.1,g,g1,g2,g3.less qt.1⟩,dr⟩
 fi id o ho hm:=by
  rcases wB h id with ⟨e,_⟩|⟨_,p,q,a,b,e⟩
  .rw[e] at ho;exact au.fi id o ho hm
  rw[e] at ho;cases ho;rw[(b.facts 0).2.1] at hm;cases hm
 frlt:=au.frlt
 inj id eZ o o' h1 m1 h2 m2 he:=by
  rcases wB h id with ⟨e,_⟩|⟨_,p,q,a,b,e⟩
  .rcases wB h eZ with ⟨e',_⟩|⟨_,p',q',a',b',e'⟩
   .rw[e] at h1;rw[e'] at h2;exact au.inj id eZ o o' h1 m1 h2 m2 he
   rw[e'] at h2;cases h2;rw[(b'.facts 0).2.1] at m2;cases m2
  rw[e] at h1;cases h1;rw[(b.facts 0).2.1] at m1;cases m1
end Go.Abs
namespace Go.Abs
variable {P:Program} {w0:World}
section
variable{w':World}
def Mem.j5(m:Mem)(w':World)(s c k:Nat)(o:Ob):Mem:=(m.later w' (· =c)).install s c k o
section
variable {m:Mem} {w':World} {s c k:Nat} {o:Ob} (hg:fH m.w w') (jr:m.w.heap.size<=c) (lS:c<w'.heap.size)
theorem IT(au:Ok w0 m)(jr:m.w.heap.size<=c):(m.j5 w' s c k o).fr=m.fr:=by
 funext x;simp only[Mem.j5,Mem.install,Mem.later];apply propext;constructor
 .rintro ⟨h|h,h2⟩
  .exact h
  exact(h2 h).elim
 intro h;exact⟨.inl h,fun e=>by have:=au.frlt x h;omega⟩
include hg jr
theorem IS:Ev m (m.j5 w' s c k o):=PZ (JH hg fun x hx=>by subst hx;exact jr) (.inr rfl) (.inl jr)
include lS
theorem IU(au:Ok w0 m)(ho:tH (m.j5 w' s c k o) s o):Ok w0 (m.j5 w' s c k o):=P0 (M5 au hg fun x hx=>by subst hx;exact⟨jr,lS⟩) (.inr rfl) (mD au.size jr) ho
end
theorem Eh{m:Mem}{s c k:Nat}{o:Ob}:(m.j5 w' s c k o).σ s=c:=by simp[Mem.j5,Mem.install,aN]
theorem qd{m:Mem}{s c k:Nat}{o:Ob}:(m.j5 w' s c k o).κ s=k:=by simp[Mem.j5,Mem.install,aN]
theorem Tt{m:Mem}{s c k:Nat}{o:Ob}:(m.j5 w' s c k o).aj=app [(s,((m.aj s).1+1,some o))] m.aj:=rfl
theorem Tu{m:Mem}{s c k:Nat}{o:Ob}:(m.j5 w' s c k o).w=w':=rfl
theorem LJ{m:Mem}{s c cap ty sz:Nat}{es:List (List PV)}{n:Nat}(hn:n<=cap)(hm:cap<=maxLen):
  bU (m.j5 w' s c cap (.arr ty sz es)) (.one (.hsl s ((m.aj s).1+1) sz 0 n)) (.slice (some ⟨c,0,none⟩) n cap):=by
 refine bU.one.2 (.hsl _ _ ?_ hn hm fun z h1 h2=>?_)
 .simp[Mem.j5,Mem.install,Mem.later,aN]
 have:kD ((m.j5 w' s c cap (.arr ty sz es)).aj s)=some sz:=by simp[Mem.j5,Mem.install,aN,kD]
 rw[this] at h2;cases h2;refine⟨rfl,fun _=>?_,by rw[jm];exact qd.symm⟩;rw[Eh,Ay]
theorem akp{m:Mem}{s c cap ty sz:Nat}{es:List (List C)}{n:Nat}(hn:n<=cap)(hm:cap<=maxLen):
  bU (m.j5 w' s c cap (.gU ty sz es)) (.one (.hsl s ((m.aj s).1+1) sz 0 n)) (.slice (some ⟨c,0,none⟩) n cap):=by
 refine bU.one.2 (.hsl _ _ ?_ hn hm fun z h1 h2=>?_)
 .simp[Mem.j5,Mem.install,Mem.later,aN]
 have:kD ((m.j5 w' s c cap (.gU ty sz es)).aj s)=some sz:=by simp[Mem.j5,Mem.install,aN,kD]
 rw[this] at h2;cases h2;refine⟨rfl,fun _=>?_,by rw[jm];exact qd.symm⟩;rw[Eh,Ay]
theorem O2{t e:TypeId}{sz bytes:Nat}{z:List PV}(h:AS P t=some (e,sz,bytes,z)):
  ∃i v,P.underlying t=some (.slice e)/\P.info? e=some i/\i.size=sz/\i.bytes=bytes/\(0<sz/\0<bytes)/\i.zero=some v/\v.cells.size=sz/\z.length=sz/\ ∀w own,dd w own z v.cells.toList:=by
 unfold AS at h;split at h
 .rename_i e' ht;split at h
  .rename_i i z' hi hz;split at h
   .rename_i ju;cases h;obtain⟨v,i',h1,h2,h3,h4,h5⟩:=N7 hz;rw[hi] at h1;cases h1;exact⟨i,v,ht,hi,rfl,rfl,ju,h2,h3,h4,h5⟩
   cases h
  cases h
 cases h
theorem an1{R:PV->Value->Prop}{z:List PV}{v:Array Value}{sz n:Nat}(hz:Pw R z v.toList)(cA:v.size=sz)(ju:0<sz):
  Pw R (List.replicate n z).flatten ((madeCells v (n*sz)).toList.take (n*sz)):=by
 have pJ:z.length=sz:=by have:=hz.1;simp at this;omega
 have cV:∀e∈List.replicate n z,e.length=sz:=fun e he=>by rw[RR he];exact pJ
 have hlen:(madeCells v (n*sz)).toList.length=n*sz:=by simp[size_madeCells]
 rw[dD aa];refine⟨by rw[hlen,Gh cV];simp,fun j x u p q=>?_⟩;have hj:j<n*sz:=by have:=(bg.1 q).1;omega
 have hdiv:j/sz<n:=by rw[Nat.div_lt_iff_lt_mul ju];exact hj
 have PJ:j%sz<sz:=ez _ ju;have he:(List.replicate n z)[j/sz]?=some z:=by simp[hdiv]
 have h1:=Gg cV he PJ;rw[show j/sz*sz+j%sz=j by rw[Sa];exact age j sz] at h1;rw[h1] at p;have h2:(madeCells v (n*sz)).toList[j]?=some v[j%sz]! :=by unfold madeCells;simp[hj,cA]
 rw[h2] at q;cases q;refine hz.2 (j%sz) x _ p ?_;have:j%sz<v.size:=aa;simp[this]
section
variable {m:Mem} {ak:Env} {a:Act} {o:Oper} (au:Ok w0 m) (hr:iO m ak a.tmps)
include au hr
theorem arw{t e:TypeId}{l c:Operand}{l' c':aQ}{s sz bytes n:Nat}{z:List PV}(ho:o.op=.makeSlice t l c)(he:AS P t=some (e,sz,bytes,z))(hl:cG l=some l')(hc:cG c=some c')
  (hn:oQ (ev ak l')=some n) (hm:oQ (ev ak c')=some n) (j9:n*bytes<=room):
  fM P w0 a.eval o m (.one (.hsl s ((m.aj s).1+1) sz 0 n)) [(s,((m.aj s).1+1,some (.arr e sz (List.replicate n z))))]:=by
 obtain⟨i,v,ht,hi,hs,hb,⟨ju,Gr⟩,hz,ry,pJ,dw⟩:=O2 he;obtain⟨k1,h1⟩:=yW hn (eB hl hr);obtain⟨k2,h2⟩:=yW hm (eB hc hr);unfold room at j9;have Uf:n<=maxLen:=by have:n<=n*bytes:=Oo _ Gr;simp only[maxLen];omega
 have alH:(n:Int)<=9223372036854775807:=by simp[maxLen] at Uf;omega
 have uG:(i.bytes:Int)*(n:Int)<=281474976710656:=by
  have:((i.bytes*n:Nat):Int)<=281474976710656:=by rw[hb,Sa];omega
  rwa[Int.natCast_mul] at this
 have jG:=run_make (P:=P) m.w t e i v ht hi hz k1 k2 n n aa (Int.le_refl _) uG alH;simp only[FN,hs] at jG
 let m':=m.j5 (m.w.alloc (.cells (madeCells v.cells (n*sz)) e)) s m.w.heap.size n (.arr e sz (List.replicate n z))
 have dR:Ev m m':=IS (fH.alloc _ _) (bJ _);have CH:tH m' s (.arr e sz (List.replicate n z)):=by
  refine⟨_,by rw[Eh];exact heap_alloc_new m.w _,ju,fun x hx=>?_,?_,?_,?_,?_⟩
  .rw[RR hx];exact pJ
  .rw[qd];simp
  .rw[qd];exact Uf
  .rw[qd,size_madeCells]
  rw[WT];exact dd.pw.2 (an1 (dd.pw.1 (dw _ _)) ry ju)
 refine⟨_,m',.inl ?_,IU (fH.alloc _ _) (bJ _) af au CH,dR,IT au (bJ _),rfl,LJ (bJ _) Uf⟩;simp[execOp,ho,h1,h2,jG];rfl
theorem XW{lo hi:Option Operand}{CY zA:Option aQ}{n cap l h:Nat}{b:Bool}(eJ:xE lo=some CY)(EF:xE hi=some zA)(hl:rT ak 0 CY=some l)(hh:rT ak n zA=some h)
  (EI:l<=h) (lh:h<=cap):(Instr.sliceBounds b n cap (lo.map a.eval) (hi.map a.eval) none).run P m.w=.ok (l,h,cap) m.w:=by
 have _u0:=au;have nU:(match hi.map a.eval with|some v=>∃k,v=Value.int k (h:Int)|none=>h=n):=by
  cases hi with
  |none=>simp[xE] at EF;subst EF;simp[rT] at hh;simpa using hh.symm
  |some x=>simp only[xE,dx] at EF;obtain⟨y,hy,rfl⟩:=EF;exact yW hh (eB hy hr)
 have nW:(match lo.map a.eval with|some v=>∃k,v=Value.int k (l:Int)|none=>l=0):=by
  cases lo with
  |none=>simp[xE] at eJ;subst eJ;simp[rT] at hl;simpa using hl.symm
  |some x=>simp only[xE,dx] at eJ;obtain⟨y,hy,rfl⟩:=eJ;exact yW hl (eB hy hr)
 generalize lo.map a.eval=LO at nW;generalize hi.map a.eval=HI at nU;have jr:(h:Int)<=(cap:Int):=aa;have lS:(l:Int)<=(h:Int):=aa;cases LO with
 |none=>
  simp only at nW;subst nW;cases HI with
  |none=>simp only at nU;subst nU;simp[Instr.sliceBounds]
  |some v=>obtain⟨k,rfl⟩:=nU;simp[Instr.sliceBounds,Instr.sliceBound,asIntOf,lh]
 |some u=>
  obtain⟨k,rfl⟩:=nW;cases HI with
  |none=>simp only at nU;subst nU;simp[Instr.sliceBounds,Instr.sliceBound,asIntOf,EI]
  |some v=>obtain⟨k',rfl⟩:=nU;simp[Instr.sliceBounds,Instr.sliceBound,asIntOf,lh,EI]
theorem arF{t:TypeId}{x:Operand}{lo hi:Option Operand}{x':aQ}{CY zA:Option aQ}{s:ByteArray}{l h:Nat}(ho:o.op=.slice t x lo hi none)(ht:P.underlying t=some .string)
  (hx:cG x=some x') (eJ:xE lo=some CY) (EF:xE hi=some zA) (hs:ev ak x'=.one (.p (.str s))) (hl:rT ak 0 CY=some l) (hh:rT ak s.size zA=some h) (EI:l<=h) (lh:h<=s.size):
  fM P w0 a.eval o m (.one (.p (.str (s.extract l h)))) []:=by
 have h1:=eB hx hr;rw[hs] at h1;have hb:=XW (P:=P) (w0:=w0) (au:=au) (hr:=hr) (b:=false) eJ EF hl hh EI lh;refine .calm au ?_ (mx (.str _));simp[execOp,ho,MZ h1,Instr.sliceAt,Instr.slice,run_underlying ht,hb]
theorem arE{t e:TypeId}{x:Operand}{lo hi:Option Operand}{x':aQ}{CY zA:Option aQ}{sz n l h:Nat}{v:V}(ho:o.op=.slice t x lo hi none)(ht:P.underlying t=some (.slice e))(cA:xr P e=some sz)
  (hx:cG x=some x') (eJ:xE lo=some CY) (EF:xE hi=some zA) (hn:yt (ev ak x')=some n) (hl:rT ak 0 CY=some l) (hh:rT ak n zA=some h)
  (hv:Dj (ev ak x') sz l h=.done v [] []):fM P w0 a.eval o m v []:=by
 have h1:=eB hx hr;unfold Dj at hv;split at hv
 .cases hv
 rename_i EI;have EI:l<=h:=by simpa using EI
 have run:∀(ad:Option Addr) (cap:Nat),a.eval x=.slice ad n cap->h<=cap->(execOp a.eval o).run P m.w=.ok (.value (.slice (if cap=l then ad else ad.map (·.add (l*sz))) (h-l) (cap-l))) m.w:=by intro ad cap jF lh;have hb:=XW (P:=P) (w0:=w0) (au:=au) (hr:=hr) (b:=true) eJ EF hl hh EI lh;simp[execOp,ho,jF,Instr.sliceAt,Instr.slice,run_underlying ht,hb,Q7 cA]
 obtain⟨ad0,cap0,hsl,hncap,nv⟩:=acq (au:=au) (hr:=hr) hn h1;split at hv
 .rename_i he;split at hv
  .rename_i h0;cases hv;rw[he] at h1;have:=Qa h1;subst h0;have tY:l=0:=aa;subst tY;rw[this] at hsl;cases hsl;refine .calm au (run none 0 this (bJ _)) ?_;simp;exact mx .nils
  cases hv
 .rename_i es he;split at hv
  .rename_i hc;cases hv;rw[he] at h1 hn;simp[yt] at hn;subst hn;obtain⟨hp⟩:cT m _ (a.eval x):=h1;generalize hb:a.eval x=b at hp;generalize gG:(PV.sl es)=pv at hp;cases hp<;>cases gG
   .rename_i ad cap ua hm;simp at hc;have hh0:h=0:=aa;subst hh0;have tY:l=0:=aa;subst tY;refine .calm au (run ad cap hb (bj _)) (mx ?_);simp only[List.drop_nil,List.take_nil,Nat.sub_zero];refine .yE _ _ (fun h=>?_) hm;split at h
    .exact ua h
    cases ad with
    |none=>exact ua rfl
    |some ad=>simp at h
   rename_i b' o' cap ch f hm kK vt uc wI CM;refine .calm au (run _ cap hb aa) (mx ?_);by_cases aq:l=h
   .subst aq;simp only[HW,WW];refine .yE _ _ (fun h=>?_) aa;split at h<;>simp at h
   have hlen:((es.drop l).take (h-l)).length=h-l:=by simp;omega
   have kA:es≠[]:=fun e=>by subst e;simp at hc;omega
   have UA:ch=sz:=by obtain⟨e0,r0,rfl⟩:=List.exists_cons_of_ne_nil kA;have g1:=uc e0 af;have g2:=hc.2;simp[eo] at g2;omega
   subst UA;rw[ay aa];simp only[kU,Addr.add_lit];have Bb:=cD.sl (w:=m.w) (own:=m.own) (es:=(es.drop l).take (h-l)) b' (o'+l*ch) (cap-l) ch (fun j=>f (l*ch+j)) (fun aI=>kK fun e0=>aI ?_) aa aa (fun e he=>uc e (vT (xz he))) ?_ ?_
   .rw[hlen] at Bb;exact Bb
   .apply atP;rw[IP (fun e he=>uc e (vT he)),Pd uc,e0];simp
   .intro j z hz;rw[IP (fun e he=>uc e (vT he)),Pd uc,lI] at hz;split at hz
    .rw[Aw] at hz;rw[HU];exact wI _ z hz
    cases hz
   intro j z hz;rw[IP (fun e he=>uc e (vT he)),Pd uc,lI] at hz;split at hz
   .rw[Aw] at hz;exact CM _ z hz
   cases hz
  cases hv
 .rename_i id g z off len he;split at hv
  .rename_i hc;cases hv;rw[he] at h1 hn;simp[yt] at hn;subst hn;have fU:cT m _ (a.eval x):=h1;generalize hb:a.eval x=b at fU;cases fU with
   |hsl ad cap hg tj hm Mr=>
    refine .calm au (run _ cap hb aa) ?_;have Uz:∃ad',(if cap=l then some ad else (some ad).map (·.add (l*sz)))=some ad'/\(cap≠l->ad'=ad.add (l*sz))/\(l=0->ad'=ad):=by
     by_cases cP:cap=l
     .exact⟨ad,by simp[cP],fun h=>(h cP).elim,fun _=>rfl⟩
     exact⟨ad.add (l*sz),by simp[cP],fun _=>rfl,fun h=>by subst h;simp[Addr.add]⟩
    obtain⟨ad',e1,e2,e3⟩:=Uz;rw[e1];refine bU.one.2 (.hsl _ _ hg aa aa fun s g1 g2=>?_);obtain⟨f1,f2,f3⟩:=Mr s g1 g2;refine⟨f1,fun A9=>?_,?_⟩
    .by_cases tY:l=0
     .subst tY;rw[e3 rfl,xA];refine f2 ?_;rcases A9 with h|h
      .exact .inl aa
      exact .inr aa
     have:0<h-l:=by rcases A9 with h|h<;>omega
     rw[e2 aa,f2 (.inr aa),Addr.add_lit,f1,hc.2,fY]
    omega
  cases hv
 cases hv
end
end
end Go.Abs
namespace Go.Abs
variable {P:Program} {w0:World}
theorem akm(off:Nat):∀(vs:List Value) (i:Nat) (cells:Array Value),off+i+vs.length<=cells.size->
  ((vs.zipIdx i).foldl (fun cs (x:Value×Nat)=>cs.setIfInBounds (off+x.2) x.1) cells).toList=eV cells.toList (off+i) vs:=by
 intro vs
 induction vs with
 |nil=>intro i cells _;simp[eV]
 |cons v r ih=>
  intro i cells h;simp only[cS] at h;simp only[List.zipIdx_cons,uY];rw[ih (i+1) _ (by simp;omega)];unfold eV;rw[Array.toList_setIfInBounds];have aq:off+i<cells.toList.length:=by simp;omega
  have e1:(cells.toList.set (off+i) v).take (off+(i+1))=cells.toList.take (off+i)++[v]:=by rw[show off+(i+1)=(off+i)+1 by omega,agc (by simpa using aq),List.take_set,agb (by simp;omega)];simp
  have e2:(cells.toList.set (off+i) v).drop (off+(i+1)+r.length)=cells.toList.drop (off+(i+1)+r.length):=by rw[List.drop_set_of_lt aa]
  rw[e1,e2];simp only[cS,uv,List.singleton_append];congr 3;omega
theorem ZJ{place:Nat->Option (Nat×Nat)}{i off n:Nat}{v:Value}{rest:List (Nat×Value)}{cells:Array Value}(hp:place i=some (off,n))(hv:v.cells.size=n)(hfit:off+n<=cells.size):
  ∃j4,Instr.fill place cells ((i,v)::rest)=Instr.fill place j4 rest/\j4.toList=eV cells.toList off v.cells.toList:=by
 refine⟨v.cells.zipIdx.foldl (fun cs (x:Value×Nat)=>cs.setIfInBounds (off+x.2) x.1) cells,?_,?_⟩
 .simp only[Instr.fill,hp];rw[ay (by simp[hv];omega)]
 rw[<- afW,Array.toList_zipIdx,akm off v.cells.toList 0 cells (by simp;omega)];simp
theorem ZI{m:Mem}{ak:Env}{a:Act}(hr:iO m ak a.tmps){place:Nat->Option (Nat×Nat)}{zl:Nat}:∀ {ps:List (Nat×Operand)} {qs:List (Nat×Nat×aQ)} {rs:List (Nat×List C)} {cs:List C} {cells:Array Value},
  Dh place zl ps=some qs->yA ak qs=some rs->df m cs cells.toList->cs.length=zl->
  ∃j4,Instr.fill place cells (ps.map fun x=>(x.1,a.eval x.2))=some j4/\df m (fill cs rs) j4.toList:=by
 intro ps
 induction ps with
 |nil=>intro qs rs cs cells h1 h2 hc hl;simp[Dh] at h1;subst h1;simp[yA] at h2;subst h2;exact⟨cells,by simp[Instr.fill],by simpa [fill] using hc⟩
 |cons p t ih=>
  intro qs rs cs cells h1 h2 hc hl;obtain⟨i,x⟩:=p;simp only[Dh] at h1;split at h1
  .rename_i off n a' q cK hx hq;split at h1
   .rename_i hfit;cases h1;simp only[yA] at h2;split at h2
    .rename_i Ec q' hcv GP;split at h2
     .rename_i hlen;cases h2;have hv:=SK hcv (eB hx hr);have cA:(a.eval x).cells.size=n:=by have:=hv.1;simp at this;omega
      have cP:=hc.1;simp at cP;obtain⟨j4,e1,e2⟩:=ZJ (rest:=t.map fun x=>(x.1,a.eval x.2)) cK cA (by omega:off+n<=cells.size);simp only[fy,fill];rw[e1];refine ih hq GP ?_ (by rw[Re aa];exact hl);rw[e2];exact df.pw.2 ((df.pw.1 hc).eV (df.pw.1 hv) off)
     cases h2
    cases h2
   cases h1
  cases h1
theorem mapM_ok{α β:Type}{f:α->Sem β}{g:α->β}{w:World}:∀ {l:List α},(∀x∈l,(f x).run P w=.ok (g x) w)->(l.mapM f).run P w=.ok (l.map g) w:=by
 intro l
 induction l with
 |nil=>intro _;simp
 |cons x r ih=>intro h;simp[List.mapM_cons,h x af,ih fun y hy=>h y (by simp[hy])]
theorem ajp{m:Mem}{ak:Env}{a:Act}(hr:iO m ak a.tmps){place:Nat->Option (Nat×Nat)}{sz:Nat}(al5:∀k,place k=some (k*sz,sz)):∀ {ps:List (Nat×Operand)} {as:List aQ} {es:List (List C)} {k:Nat} {done:List Value} {cells:Array Value},
  IH k ps=some as->zh ak sz as=some es->done.length=k*sz->cells.toList.take (k*sz)=done->cells.size=(k+as.length)*sz->
  ∃j4,Instr.fill place cells (ps.map fun x=>(x.1,a.eval x.2))=some j4/\ ∃vs,j4.toList=done++vs/\df m es.flatten vs/\(∀e∈es,e.length=sz)/\es.length=as.length:=by
 intro ps
 induction ps with
 |nil=>intro as es k done cells h1 h2 hd ht hs;simp[IH] at h1;subst h1;simp[zh] at h2;subst h2;refine⟨cells,by simp[Instr.fill],[],?_,⟨af,fun j x u p=>by simp at p⟩,fun e he=>by simp at he,rfl⟩;rw[<- ht,mR,dD (by simp at hs ⊢;omega)]
 |cons p t ih=>
  intro as es k done cells h1 h2 hd ht hs;obtain⟨i,x⟩:=p;simp only[IH] at h1;split at h1
  .rename_i a' q hx hq;split at h1
   .rename_i hik;cases h1;subst hik;simp only[zh] at h2;split at h2
    .rename_i Ec q' hcv GP;split at h2
     .rename_i hlen;cases h2;have hv:=SK hcv (eB hx hr);have cA:(a.eval x).cells.size=sz:=by have:=hv.1;simp at this;omega
      simp only[cS] at hs;have iV:cells.size=i*sz+sz+q.length*sz:=by rw[hs,fY,fY];omega
      obtain⟨j4,e1,e2⟩:=ZJ (rest:=t.map fun x=>(x.1,a.eval x.2)) (al5 i) cA (by omega:i*sz+sz<=cells.size);have jT:j4.toList.length=cells.size:=by rw[e2,Re (by simp;omega)];simp
      obtain⟨aia,f1,vs,f2,f3,f4,f5⟩:=ih (k:=i+1) (done:=done++(a.eval x).cells.toList) (cells:=j4) hq GP (by simp[hd,cA,fY]) (by rw[e2];unfold eV;rw[ht,R8 (by simp[hd,cA,fY])];rw[dD (by simp[hd,cA,fY])]) (by simp at jT;rw[jT,iV,fY,fY];omega)
      simp only[fy];rw[e1];refine⟨aia,f1,(a.eval x).cells.toList++vs,by rw[f2,uv],?_,?_,by simp[f5]⟩
      .simp only[lH];exact df.pw.2 ((df.pw.1 hv).append (df.pw.1 f3))
      intro e he;rcases cI.1 he with rfl|he
      .exact hlen
      exact f4 e he
     cases h2
    cases h2
   cases h1
  cases h1
theorem asX{m:Mem}:∀ {es:List (List C)} {qs:List (List PV)} {vs:List Value} {sz:Nat},Am es=some qs->(∀e∈es,e.length=sz)->df m es.flatten vs->dd m.w m.own qs.flatten vs/\(∀e∈qs,e.length=sz)/\qs.length=es.length:=by
 intro es
 induction es with
 |nil=>intro qs vs sz h _ hc;simp[Am] at h;subst h;exact⟨⟨hc.1,fun j x u p=>by simp at p⟩,fun e he=>by simp at he,rfl⟩
 |cons e r ih=>
  intro qs vs sz h cA hc;simp only[Am] at h;split at h
  .rename_i v mQ h1 h2;cases h;simp only[lH] at hc;have de:=cA e af;have jr:=(df.pw.1 hc).take e.length;have lS:=(df.pw.1 hc).drop e.length;simp only[KU,WM] at jr lS;have g1:=NU h1 (df.pw.2 jr);obtain⟨g2,g3,g4⟩:=ih h2 (fun x hx=>cA x (by simp[hx])) (df.pw.2 lS);have se:v.length=sz:=by
    have a1:=g1.1;have a2:=jr.1;omega
   refine⟨?_,?_,by simp[g4]⟩
   .have:=(dd.pw.1 g1).append (dd.pw.1 g2);rw[sQ] at this;exact dd.pw.2 this
   intro y hy;rcases cI.1 hy with rfl|hy
   .exact se
   exact g3 y hy
  cases h
section
variable {m:Mem} {ak:Env} {a:Act} {o:Oper} (au:Ok w0 m) (hr:iO m ak a.tmps)
include au hr
theorem arf{t:TypeId}{ps:Array (Nat×Operand)}{fs:Array Field}{z:List PV}{qs:List (Nat×Nat×aQ)}{rs:List (Nat×List C)}(ho:o.op=.build t ps)(ht:P.underlying t=some (.struct fs))(hz:Aq P t=some z)
  (cV:fs.all (fun f=>(P.info? f.type).isSome)=true) (hp:Dh (fun i=>(fs[i]?).map fun f=>(f.offset,P.cellsOf f.type)) z.length ps.toList=some qs) (hv:yA ak qs=some rs):
  fM P w0 a.eval o m (.agg (fill (z.map .p) rs)) []:=by
 obtain⟨v,i,hi,hiv,hs,hl,dw⟩:=N7 hz;obtain⟨j4,h1,h2⟩:=ZI hr hp hv (dw m.w m.own).Du af;refine .calm (x:=.agg j4) au ?_ (bU.agg.2 ⟨_,rfl,h2⟩);have GN:(fs.mapM (fun f=>do pure (f.offset,<- sizeOf f.type):Field->Sem (Nat×Nat))).run P m.w=.ok (fs.map fun f=>(f.offset,P.cellsOf f.type)) m.w:=by
  rw[Array.mapM_eq_mapM_toList];have:=mapM_ok (P:=P) (f:=(fun f=>do pure (f.offset,<- sizeOf f.type):Field->Sem (Nat×Nat))) (g:=fun f=>(f.offset,P.cellsOf f.type)) (w:=m.w) (l:=fs.toList) (fun f hf=>by
   have:=Array.all_eq_true_iff_forall_mem.1 cV f (by simpa using hf);cases yh:P.info? f.type with
   |none=>rw[yh] at this;cases this
   |some i=>simp[sizeOf,typeInfo,yh,Program.cellsOf])
  rw[Sem.run_map,this];simp only[Result.andThen_ok];congr 1;apply Array.ext';simp
 have EC:Instr.fill (fun x=>(fs.map fun f=>(f.offset,P.cellsOf f.type))[x]?) v.cells (ps.map fun x=>(x.1,a.eval x.2)).toList=some j4:=by simpa using h1
 simp only[execOp,ho,Instr.build,zeroValue,typeInfo,Sem.run_bind,run_program,Result.andThen_ok,hi,hiv,Sem.run_pure,run_underlying ht,GN,EC]
theorem ard{t e:TypeId}{n:Nat}{ps:Array (Nat×Operand)}{i:TypeInfo}{z:List PV}{qs:List (Nat×Nat×aQ)}{rs:List (Nat×List C)}(ho:o.op=.build t ps)(ht:P.underlying t=some (.array n e))(hz:Aq P t=some z)
  (hie:P.info? e=some i) (hp:Dh (fun k=>some (k*i.size,i.size)) z.length ps.toList=some qs) (hv:yA ak qs=some rs):
  fM P w0 a.eval o m (.agg (fill (z.map .p) rs)) []:=by
 obtain⟨v,i',hi,hiv,hs,hl,dw⟩:=N7 hz;obtain⟨j4,h1,h2⟩:=ZI hr hp hv (dw m.w m.own).Du af;refine .calm (x:=.agg j4) au ?_ (bU.agg.2 ⟨_,rfl,h2⟩);have EC:Instr.fill (fun k=>some (k*i.size,i.size)) v.cells (ps.map fun x=>(x.1,a.eval x.2)).toList=some j4:=by simpa using h1
 simp only[execOp,ho,Instr.build,zeroValue,sizeOf,typeInfo,Sem.run_bind,run_program,Result.andThen_ok,hi,hie,hiv,Sem.run_pure,run_underlying ht,EC]
theorem arb{t e:TypeId}{n sz bytes s:Nat}{z:List PV}{ps:Array (Nat×Operand)}{as:List aQ}{es:List (List C)}(ho:o.op=.buildSlice t n ps)(he:AS P t=some (e,sz,bytes,z))(hp:IH 0 ps.toList=some as)
  (hn:as.length=n) (aaB:n*sz<=16777216) (hv:zh ak sz as=some es):
  (∀qs,Am es=some qs->fM P w0 a.eval o m (.one (.hsl s ((m.aj s).1+1) sz 0 es.length)) [(s,((m.aj s).1+1,some (.arr e sz qs)))])/\
  fM P w0 a.eval o m (.one (.hsl s ((m.aj s).1+1) sz 0 es.length)) [(s,((m.aj s).1+1,some (.gU e sz es)))]:=by
 obtain⟨i,v,ht,hi,hs,hb,⟨ju,_⟩,wN,ry,pJ,dw⟩:=O2 he;subst hn;obtain⟨j4,f1,vs,f2,f3,f4,f5⟩:=ajp (place:=fun k=>some (k*sz,sz)) (done:=[]) (cells:=(Array.range (as.length*sz)).map ((if as.length*sz=0 then #[] else v.cells)[· %(if as.length*sz=0 then #[] else v.cells).size]!)) hr (fun _=>rfl) hp hv af af af;have jG:(execOp a.eval o).run P m.w=.ok (.value (.slice (some ⟨m.w.heap.size,0,none⟩) es.length es.length)) (m.w.alloc (.cells j4 e)):=by
  have EC:Instr.fill (fun k=>some (k*sz,sz)) ((Array.range (as.length*sz)).map ((if as.length*sz=0 then #[] else v.cells)[· %(if as.length*sz=0 then #[] else v.cells).size]!)) (ps.map fun x=>(x.1,a.eval x.2)).toList=some j4:=by simpa using f1
  have hnb:¬(16777216<as.length*sz):=aa;have aaX:¬(as.length*sz>2 ^ 24):=aa;by_cases h0:as.length*sz=0
  .simp only[aD h0] at EC;simp only[execOp,ho,Instr.buildSlice,Sem.run_bind,run_underlying ht,Result.andThen_ok,sizeOf,typeInfo,run_program,hi,Sem.run_pure,hs,ay aaX,aD h0,EC,newRow,run_newObj,f5];rfl
  simp only[ay h0] at EC;simp only[execOp,ho,Instr.buildSlice,Sem.run_bind,run_underlying ht,Result.andThen_ok,sizeOf,typeInfo,run_program,hi,Sem.run_pure,hs,ay aaX,ay h0,zeroValue,wN,EC,newRow,run_newObj,f5];rfl
 simp at f2;have cP:j4.size=es.length*sz:=by
  have h1:=f3.1;rw[Gh f4] at h1;have:j4.toList.length=vs.length:=by rw[f2]
  simp at this;omega
 have My:es.length<=maxLen:=by have:es.length<=es.length*sz:=Oo _ ju;simp only[maxLen];rw[f5] at this ⊢;omega
 have Jw:j4.toList.take (es.length*sz)=vs:=by rw[dD (by simp;omega),f2]
 constructor
 .intro qs hq;have dR:Ev m (m.j5 (m.w.alloc (.cells j4 e)) s m.w.heap.size es.length (.arr e sz qs)):=IS (fH.alloc _ _) (bJ _);obtain⟨g1,g2,g3⟩:=asX hq f4 (f3.ev dR.zero);refine⟨_,m.j5 (m.w.alloc (.cells j4 e)) s m.w.heap.size es.length (.arr e sz qs),.inl jG,IU (fH.alloc _ _) (bJ _) af au ?_,dR,IT au (bJ _),rfl,LJ (bJ _) My⟩;exact⟨j4,by rw[Eh];exact heap_alloc_new m.w _,ju,g2,by rw[qd,g3];exact bJ _,by rw[qd];exact My,by rw[qd,cP],by rw[g3,Jw];exact g1⟩
 have dR:Ev m (m.j5 (m.w.alloc (.cells j4 e)) s m.w.heap.size es.length (.gU e sz es)):=IS (fH.alloc _ _) (bJ _);refine⟨_,m.j5 (m.w.alloc (.cells j4 e)) s m.w.heap.size es.length (.gU e sz es),.inl jG,IU (fH.alloc _ _) (bJ _) af au ?_,dR,IT au (bJ _),rfl,akp (bJ _) My⟩;exact⟨j4,by rw[Eh];exact heap_alloc_new m.w _,ju,f4,by rw[qd];exact bJ _,by rw[qd];exact My,by rw[qd,cP],by rw[Jw];exact f3.ev dR.zero⟩
end
end Go.Abs
namespace Go.Abs
variable {P:Program} {w0:World}
theorem K8(a b:List eX)(aj:aw):app (a++b) aj=app b (app a aj):=by
 induction a generalizing aj with
 |nil=>rfl
 |cons x r ih=>obtain⟨i,o⟩:=x;simp only[oI,app];exact ih _
theorem anA{m:Mem}{zi:Nat->Prop}(hf:∀c,zi c->m.fr c){c:Nat}(h:({m with fr:=zi}:Mem).own c):m.own c:=by
 rcases h with h|h
 .exact .inl (hf c h)
 exact .inr h
theorem Qj{m:Mem}{zi:Nat->Prop}(hf:∀c,zi c->m.fr c):Ev m {m with fr:=zi}:=
 ⟨rfl,rfl,rfl,bJ _,fun _ _ _=>rfl,fun _ _ h=>h,fun _ _ hn h=>hn (anA hf h),fun _=>bJ _,fun _ _ h=>⟨h,rfl,rfl,rfl⟩⟩
theorem UZ{m:Mem}{zi:Nat->Prop}(h:Ok w0 m)(hf:∀c,zi c->m.fr c):Ok w0 {m with fr:=zi} where
 os:=h.os
 tape:=h.tape
 output:=h.output
 size:=h.size
 base:=h.base
 obj id o ho:=(h.obj id o ho).ev (Qj hf).zero rfl rfl rfl
 fi id o ho hm:=⟨(h.fi id o ho hm).1,fun hc=>(h.fi id o ho hm).2 (hf _ hc)⟩
 frlt c hc:=h.frlt c (hf c hc)
 inj:=h.inj
theorem aeD{m:Mem}{w':World}{c:Nat}(h:Ok w0 m)(hc:m.fr c)(eJ:w0.heap.size<=c)(zM:w'.os=m.w.os)(ht:w'.tape=m.w.tape)(pz:w'.output=m.w.output)(hs:w'.heap.size=m.w.heap.size)
  (hk:∀x,x≠c->w'.heap[x]?=m.w.heap[x]?):Ok w0 {m with w:=w'} where
 os:=zM.trans h.os
 tape:=ht.trans h.tape
 output:=pz.trans h.output
 size:=mD h.size (FU hs.symm)
 base x hx:=(hk x aa).trans (h.base x hx)
 obj id o ho:=by
  have aI:m.σ id≠c:=by
   intro e;cases hm:o.fK with
   |true=>exact(h.fi id o ho hm).2 (e▸hc)
   |false=>exact(h.obj id o ho).calm hm (.inl (e▸hc))
  exact(h.obj id o ho).ev (m':={m with w:=w'}) ⟨fun x _ hn=>⟨hk x fun e=>hn (.inl (e▸hc)),hn⟩,fun _=>bJ _,fun _ _ h=>⟨h,rfl,rfl,rfl⟩⟩ rfl rfl (hk _ aI)
 fi:=h.fi
 frlt x hx:=by rw[show({m with w:=w'}:Mem).w.heap.size=m.w.heap.size from hs];exact h.frlt x hx
 inj:=h.inj
theorem Zj{m:Mem}(au:Ok w0 m){own:Nat->Prop}{x:V}{v:Value}{new:List (List PV)}{rd fr:List Nat}(h:ed m.aj x=some (new,rd,fr))(hv:bU m x v)(hs:pX m own fr):
  ∃ax cx,v=.slice ax new.length cx/\(∀z,mA x=some z->∀e∈new,e.length=z)/\
   (new≠[]->∃b o news,ax=some ⟨b,o,none⟩/\Pw (cD m.w own) new.flatten news/\ ∀(j:Nat) (u:Value),news[j]?=some u->m.w.cell? ⟨b,o+j,none⟩=some u):=by
 have row:∀(c off sz len:Nat) (cur:Array Value) (ty:TypeId) (fz:Nat×Nat) (ps:List (List PV)),m.w.heap[c]?=some (.cells cur ty fz)->Pw (cD m.w own) ps.flatten ((cur.toList.drop (off*sz)).take (ps.length*sz))->
   ∃b o news,some (⟨c,off*sz,none⟩:Addr)=some ⟨b,o,none⟩/\Pw (cD m.w own) ps.flatten news/\ ∀(j:Nat) (u:Value),news[j]?=some u->m.w.cell? ⟨b,o+j,none⟩=some u:=by
  intro c off sz len cur ty fz ps hh hp;refine⟨c,off*sz,_,rfl,hp,fun j u hj=>?_⟩;rw[lI] at hj;split at hj
  .rw[DV hh];simpa using hj
  cases hj
 unfold ed at h;split at h
 .cases h;exact⟨none,0,Qa hv,fun z hz=>by simp[mA] at hz,fun h=>(h rfl).elim⟩
 .rename_i es;cases h;obtain⟨hp⟩:cT m _ v:=hv;generalize gG:(PV.sl new)=pv at hp;cases hp<;>cases gG
  .exact⟨_,_,rfl,fun z hz=>by simp[mA] at hz,fun h=>(h rfl).elim⟩
  rename_i b o cap sz f hm ho hl cA wI CM;refine⟨_,_,rfl,fun z hz=>by simp[mA] at hz,fun _=>⟨b,o,(List.range new.flatten.length).map f,rfl,⟨af,fun j y u p q=>?_⟩,fun j u q=>?_⟩⟩
  .have hj:j<new.flatten.length:=(bg.1 p).1;rw[fT,rO hj] at q;simp at q;subst q;exact(CM j y p).less hs.1
  have hj:j<new.flatten.length:=by have:=(bg.1 q).1;simpa using this
  rw[fT,rO hj] at q;simp at q;subst q;exact wI j _ (oJ hj)
 .rename_i id g z off len;have fU:cT m _ v:=hv;cases fU with
  |hsl ad cap hg hl hm Mr=>
   split at h
   .rename_i g' ty sz es hb;split at h
    .rename_i hc;cases h;have aT:(m.aj id).2=some (.arr ty sz es):=by rw[hb]
     obtain⟨cur,hh,pG,cA,lk,wR,cX,dw⟩:=au.obj id _ aT;obtain⟨e1,e2,e3⟩:=Mr sz (by rw[hb];exact hc.1) (by rw[hb];rfl);have hlen:((es.drop off).take len).length=len:=by simp;omega
     refine⟨some ad,cap,by rw[hlen],fun z' qy e he=>?_,fun aI=>?_⟩
     .simp[mA] at qy;subst qy;rw[<- e1];exact cA e (vT (xz he))
     have:0<len:=by
      cases len with
      |zero=>simp at aI
      |succ n=>omega
     rw[e2 (.inr this)];exact row (m.σ id) off sz len cur ty _ _ hh (FA cA (dd.pw.1 (dw.less hs.1)) hc.2)
    cases h
   .rename_i g' ty sz es hb;split at h
    .rename_i hc;cases h;have aT:(m.aj id).2=some (.oY ty sz es):=by rw[hb]
     obtain⟨cur,fz,hh,pG,cA,lk,wR,cX,dw,_⟩:=au.obj id _ aT;obtain⟨e1,e2,e3⟩:=Mr sz (by rw[hb];exact hc.1) (by rw[hb];rfl);have hlen:((es.drop off).take len).length=len:=by simp;omega
     refine⟨some ad,cap,by rw[hlen],fun z' qy e he=>?_,fun aI=>?_⟩
     .simp[mA] at qy;subst qy;rw[<- e1];exact cA e (vT (xz he))
     have:0<len:=by
      cases len with
      |zero=>simp at aI
      |succ n=>omega
     rw[e2 (.inr this)];exact row (m.σ id) off sz len cur ty _ _ hh (FA cA (dd.pw.1 (dw.less hs.1)) hc.2)
    cases h
   .rename_i g' ty sz es hb;split at h
    .rename_i hc;split at h
     .rename_i ps q hq;cases h;have aT:(m.aj id).2=some (.gU ty sz es):=by rw[hb]
      obtain⟨cur,hh,pG,cA,lk,wR,cX,dw⟩:=au.obj id _ aT;obtain⟨e1,e2,e3⟩:=Mr sz (by rw[hb];exact hc.1) (by rw[hb];rfl);have hle:((es.drop off).take len).length=len:=by simp;omega
      have cK:new.length=len:=by rw[SR hq,hle]
      have Ux:=FA cA (df.pw.1 dw) hc.2;have MU:∀e∈(es.drop off).take len,e.length=sz:=fun e he=>cA e (vT (xz he));have lh:len*sz<=(cur.toList.drop (off*sz)).length:=by
       simp;have h1:off*sz+len*sz<=es.length*sz:=by rw[<- fY];exact lY _ hc.2
       have h2:es.length*sz<=m.κ id*sz:=lY _ lk;omega
      have nX:∀(j:Nat) (e:List PV),new[j]?=some e->Pw (cD m.w own) e (((cur.toList.drop (off*sz)).drop (j*sz)).take sz):=by intro j e he;obtain⟨x,q',h1,h2,h3⟩:=SQ hq he;exact Is (R:=cT m) (T:=cD m.w own) (eQ:=pX m own) (fun a b h=>h.app) (fun a b r v e1 e2 e3=>Km au _ e1 e2 e3) h2 ⟨hs.1,fun i hi=>hs.2 i (h3 i hi)⟩ (Tp MU Ux h1)
      have EM:∀e∈new,e.length=sz:=by
       intro e he;obtain⟨j,hj⟩:=jd he;have:=(nX j e hj).1;have nu:j<len:=by rw[<- cK];exact(bg.1 hj).1
       have h1:(j+1)*sz<=len*sz:=lY _ nu;rw[fY] at h1;simp at this lh;omega
      refine⟨some ad,cap,by rw[cK],fun z' qy e he=>?_,fun aI=>?_⟩
      .simp[mA] at qy;subst qy;rw[<- e1];exact EM e he
      have:0<len:=by rw[<- cK];exact jl.2 aI
      rw[e2 (.inr this)];refine row (m.σ id) off sz len cur ty _ _ hh ?_;rw[cK];have:=VK EM (by rw[cK];exact lh) nX;rw[cK] at this;exact this
     cases h
    cases h
   split at h
   .rename_i tY;cases h;exact⟨some ad,cap,by rw[tY];rfl,fun z' _ e he=>by simp at he,fun h=>(h rfl).elim⟩
   cases h
 cases h
end Go.Abs
namespace Go.Abs
variable {P:Program} {w0:World}
theorem aec{w:World}{own:Nat->Prop}{xs:List PV}{vs:List Value}(h:Pw (cD w own) xs vs):∀u∈vs,u.oneCell'=true:=by
 intro v hv;obtain⟨j,hj⟩:=jd hv;have aq:j<xs.length:=by rw[<- h.1];exact(bg.1 hj).1
 exact(h.2 j _ v (oJ aq) hj).Np
theorem LK{m:Mem}{ids:List Nat}{u:List eX}(h:s0 m.aj ids=some u)(id:Nat):(app u m.aj id).1=(m.aj id).1:=by
 rcases wB h id with ⟨e,_⟩|⟨_,p,q,a,b,e⟩
 .exact congrArg Prod.fst e
 have:=congrArg Prod.fst e;exact this
theorem Zf{m:Mem}{id:Nat}{o:Ob}{w':World}(ho:(m.aj id).2=some o)(hm:o.fK=true)(zM:w'.os=m.w.os)(ht:w'.tape=m.w.tape)(pz:w'.output=m.w.output)(hs:w'.heap.size=m.w.heap.size)
  (hk:∀x,x≠m.σ id->w'.heap[x]?=m.w.heap[x]?):Ev m {m.gJ id with w:=w'} where
 os:=zM
 tape:=ht
 output:=pz
 size:=FU hs.symm
 keep c _ hn:=hk c fun e=>hn ⟨id,o,ho,hm,e.symm⟩
 fK:=(Gb ho hm).fK
 less:=(Gb ho hm).less
 gen:=(Gb ho hm).gen
 ref:=(Gb ho hm).ref
theorem aqp{m:Mem}(au:Ok w0 m){id s:Nat}{ob:Ob}{w':World}{BY:Array Value}{ty sz:Nat}{kX:List (List PV)}(ho:(m.aj id).2=some ob)(hm:ob.fK=true)(ju:0<sz)(zM:w'.os=m.w.os)(ht:w'.tape=m.w.tape)(pz:w'.output=m.w.output)(hs:w'.heap.size=m.w.heap.size)
  (hk:∀x,x≠m.σ id->w'.heap[x]?=m.w.heap[x]?) (hh:w'.heap[m.σ id]?=some (.cells BY ty (0,0))) (cA:∀e∈kX,e.length=sz) (hl:kX.length<=m.κ id) (CG:m.κ id<=maxLen) (cX:BY.size=m.κ id*sz)
  (hp:Pw (cD m.w m.own) kX.flatten (BY.toList.take (kX.length*sz))):
  ∃m',m'.w=w'/\Ok w0 m'/\Ev m m'/\m'.fr=m.fr/\m'.aj=dj (dj m.aj id ((m.aj id).1,none)) s ((m.aj s).1+1,some (.arr ty sz kX))/\
   bU m' (.one (.hsl s ((m.aj s).1+1) sz 0 kX.length)) (.slice (some ⟨m.σ id,0,none⟩) kX.length (m.κ id)):=by
 have Cu:=Zf ho hm zM ht pz hs hk;have eJ:=(au.fi id ob ho hm).1;have Uk:Ok w0 {m.gJ id with w:=w'}:=aeD (m:=m.gJ id) (Td au ho hm) (.inr rfl) eJ zM ht pz hs hk;have dR:Ev m ((({m.gJ id with w:=w'}:Mem)).install s (m.σ id) (m.κ id) (.arr ty sz kX)):=PZ Cu (.inr rfl) (.inr ⟨id,ob,ho,hm,rfl⟩);have wK:((({m.gJ id with w:=w'}:Mem)).aj s).1=(m.aj s).1:=by
  simp only[Mem.gJ,aN];split
  .rename_i e;subst e;rfl
  rfl
 have hσ:((({m.gJ id with w:=w'}:Mem)).install s (m.σ id) (m.κ id) (.arr ty sz kX)).σ s=m.σ id:=by simp[Mem.install,aN]
 have hκ:((({m.gJ id with w:=w'}:Mem)).install s (m.σ id) (m.κ id) (.arr ty sz kX)).κ s=m.κ id:=by simp[Mem.install,aN]
 refine⟨_,rfl,P0 Uk (.inr rfl) eJ ?_,dR,?_,?_,?_⟩
 .exact⟨BY,by rw[hσ];exact hh,ju,cA,by rw[hκ];exact hl,by rw[hκ];exact CG,by rw[hκ];exact cX,dd.ev dR.zero (dd.pw.2 hp)⟩
 .funext x;simp only[Mem.install,Mem.gJ];apply propext;constructor
  .rintro ⟨h|h,h2⟩
   .exact h
   exact(h2 h).elim
  intro h;exact⟨.inl h,fun e=>(au.fi id ob ho hm).2 (e▸h)⟩
 .simp only[Mem.install];rw[wK];rfl
 refine bU.one.2 (.hsl _ _ ?_ hl CG fun z h1 h2=>?_)
 .simp only[Mem.install,aN,if_true];rw[wK];exact bJ _
 have:kD (((({m.gJ id with w:=w'}:Mem)).install s (m.σ id) (m.κ id) (.arr ty sz kX)).aj s)=some sz:=by simp[Mem.install,aN,kD]
 rw[this] at h2;cases h2;exact⟨rfl,fun _=>by rw[hσ,Ay],by rw[jm];exact hκ.symm⟩
theorem aqV{P:Program}(w:World)(t ty e:TypeId)(i:TypeInfo)(z:Value)(ht:P.underlying t=some (.slice e))(hi:P.info? e=some i)(hz:i.zero=some z)
  (az:Option Addr) (a:Addr) (n c:Nat) (news:List Value) (hl:news.length=n*i.size) (ym:∀j v,news[j]?=some v->w.cell? (a.add j)=some v)
  (h0:0<n) (h63:(n:Int)<=9223372036854775807) (xW:n*i.bytes<=281474976710656):
  (Builtin.append_ #[t,t] ty #[.slice az 0 0,.slice (some a) n c]).run P w=
   .ok (.slice (some ⟨w.heap.size,0,none⟩) n (grownCap w n 0 e)) (w.drew.alloc (.cells (news.toArray++Builtin.zeroCells z.cells (grownCap w n 0 e-n)) e)):=by
 cases az with
 |none=>exact run_append_nil w t ty e i z ht hi hz a n c news hl ym h0 h63 xW
 |some b=>have h:=run_append_grow (P:=P) w t ty e i z ht hi hz b 0 0 [] af (fun j v h=>by simp at h) a n c news hl ym aa (by simpa using h63) (by rw[jm,nextslicecap_zero h0];exact xW);rw[jm] at h;rw[h];simp
theorem aqU{P:Program}(w:World)(t ty e:TypeId)(i:TypeInfo)(ht:P.underlying t=some (.slice e))(hi:P.info? e=some i)
  (g off sLen sCap:Nat) (cur:Array Value) (hg:w.heap[g]?=some (.cells cur e (0,0)))
  (a:Addr) (m c:Nat) (news:List Value) (hl:news.length=m*i.size) (ym:∀j u,news[j]?=some u->w.cell? (a.add j)=some u) (h1:∀u∈news,u.oneCell'=true)
  (j9:sLen+m<=sCap) (hfit:off+sLen*i.size+news.length<=cur.size):
  (Builtin.append_ #[t,t] ty #[.slice (some ⟨g,off,none⟩) sLen sCap,.slice (some a) m c]).run P w=
   .ok (.slice (some ⟨g,off,none⟩) (sLen+m) sCap) (w.setRow g (cur.toList.take (off+sLen*i.size)++news++cur.toList.drop (off+sLen*i.size+news.length)).toArray):=by
 have hf:=run_firstCells_some (P:=P) w i.size m a m c news hl ym;have cM:=run_storeCells_at P g (off+sLen*i.size) e news 0 cur w hg (by simpa using hfit) h1;simp only[xA] at cM;simp[Builtin.append_,run_underlying ht,sizeOf,typeInfo,hi,Builtin.lenOf,j9,hf,Addr.add_lit,cM]
section
variable {m:Mem} {ak:Env} {a:Act} {o:Oper} (au:Ok w0 m) (hr:iO m ak a.tmps)
include au hr
theorem aq8{c:Call}{d x:Operand}{d' x':aQ}{t e:TypeId}{s sz bytes:Nat}{z:List PV}{v:V}{u:List eX}{rd:List Nat}(ho:o.op=.call c)(hc:c.callee=.builtin .append)(has:c.args= #[d,x])(j6:c.argTypes= #[t,t])
  (he:AS P t=some (e,sz,bytes,z)) (hd:cG d=some d') (hx:cG x=some x') (hv:eF m.aj s e sz bytes (ev ak d') (ev ak x')=.done v u rd):fM P w0 a.eval o m v u:=by
 obtain⟨i,zv,ht,hi,hs,hb,⟨ju,Gr⟩,wN,JA,pJ,dw⟩:=O2 he;have nY:=eB hd hr;have kM:=eB hx hr;have run:∀(y:Value) (w':World),(Builtin.append_ #[t,t] o.type #[a.eval d,a.eval x]).run P m.w=.ok y w'->(execOp a.eval o).run P m.w=.ok (.value y) w':=by intro y w' h;simp[execOp,ho,resolve,hc,has,j6,invoke,builtin,h]
 unfold eF at hv;split at hv
 .cases hv
 rename_i new rd' fr de;split at hv
 .cases hv
 rename_i amf;split at hv
 .cases hv
 rename_i fu ql;have nz:=Z6 au ql;have vq:=Tx ql;have qt:=TA au ql;obtain⟨ax,cx,wV,ame,ym⟩:=Zj au de kM qt;have cV:∀e∈new,e.length=sz:=by
  have:mA (ev ak x')=some sz\/eo sz new=true:=Classical.not_not.1 amf;rcases this with h|h
  .exact ame sz h
  intro e he;have:=ir.1 h e he
  simpa using this
 have Mp:new.flatten.length=new.length*sz:=Gh cV;split at hv
 · -- nil
  rename_i Gv;rw[Gv] at nY;have zu:=Qa nY;split at hv
  .rename_i js;cases hv;refine⟨.slice none 0 0,m.with u,.inl (run _ _ ?_),nz,vq,rfl,rfl,mx .nils⟩;rw[zu,wV,js];cases ax<;>simp[Builtin.append_,run_underlying ht,sizeOf,typeInfo,hi,Builtin.lenOf,Builtin.firstCells,loadCells,loadCellsFrom,Mem.with]
  rename_i js;split at hv
  .rename_i j9;cases hv;have aI:new≠[]:=fun h=>js (by simp[h]);obtain⟨b,off,news,rfl,kL,xZ⟩:=ym aI;unfold room at j9;have gj:news.length=new.length*i.size:=by rw[kL.1,Mp,hs]
   have CF:new.length<=maxLen/\(new.length:Int)<=9223372036854775807:=by have:new.length<=new.length*bytes:=Oo _ Gr;simp only[maxLen];omega
   have jG:=run_append_nil (P:=P) m.w t o.type e i zv ht hi wN ⟨b,off,none⟩ new.length cx news gj (fun j v hj=>by rw[Addr.add_lit];exact xZ j v hj) aa CF.2 (by rw[hb];omega);generalize hW:m.w.drew.alloc (.cells (news.toArray++Builtin.zeroCells zv.cells (grownCap m.w new.length 0 e-new.length)) e)=W at jG;have hg:fH (m.with fu).w W:=by rw[<- hW];exact(fH.drew _).trans (fH.alloc _ _)
   have lh:=grownCap_ge m.w new.length 0 e;have Me:=grownCap_le_maxLen m.w new.length 0 e CF.1;have Cu:Ev (m.with fu) ((m.with fu).j5 W s m.w.heap.size (grownCap m.w new.length 0 e) (.arr e sz new)):=IS hg (bJ _);have wK:=LK ql s;refine⟨_,(m.with fu).j5 W s m.w.heap.size (grownCap m.w new.length 0 e) (.arr e sz new),.inl (run _ _ (by rw[zu,wV];exact jG)),IU hg (bJ _) (by rw[<- hW];simp) nz ?_,vq.trans Cu,IT nz (bJ _),?_,?_⟩
   .refine⟨_,by rw[Eh,Tu,<- hW];exact heap_alloc_new m.w.drew _,ju,cV,by rw[qd];exact lh,by rw[qd];exact Me,?_,?_⟩
    .rw[qd];simp only[afY,R6,size_zeroCells,JA,gj,hs,<- fY];congr 1;omega
    have:(news.toArray++Builtin.zeroCells zv.cells (grownCap m.w new.length 0 e-new.length)).toList.take (new.length*sz)=news:=by simp only[N9];rw[<- hs,<- gj];exact KU
    rw[this];exact dd.ev Cu.zero (dd.pw.2 kL)
   .rw[K8,Tt];simp only[Mem.with];rw[wK]
   have:=LJ (m:=m.with fu) (w':=W) (s:=s) (c:=m.w.heap.size) (ty:=e) (sz:=sz) (es:=new) lh Me;simp only[Mem.with] at this;rw[wK] at this;exact this
  cases hv
 · -- an empty slice without room
  rename_i Gv;rw[Gv] at nY;obtain⟨az,zu⟩:=amI nY;split at hv
  .cases hv
  rename_i js;split at hv
  .rename_i j9;cases hv;have aI:new≠[]:=fun h=>js (by simp[h]);obtain⟨b,off,news,rfl,kL,xZ⟩:=ym aI;unfold room at j9;have gj:news.length=new.length*i.size:=by rw[kL.1,Mp,hs]
   have CF:new.length<=maxLen/\(new.length:Int)<=9223372036854775807:=by have:new.length<=new.length*bytes:=Oo _ Gr;simp only[maxLen];omega
   have jG:=aqV (P:=P) m.w t o.type e i zv ht hi wN az ⟨b,off,none⟩ new.length cx news gj (fun j v hj=>by rw[Addr.add_lit];exact xZ j v hj) aa CF.2 (by rw[hb];omega);generalize hW:m.w.drew.alloc (.cells (news.toArray++Builtin.zeroCells zv.cells (grownCap m.w new.length 0 e-new.length)) e)=W at jG;have hg:fH (m.with fu).w W:=by rw[<- hW];exact(fH.drew _).trans (fH.alloc _ _)
   have lh:=grownCap_ge m.w new.length 0 e;have Me:=grownCap_le_maxLen m.w new.length 0 e CF.1;have Cu:Ev (m.with fu) ((m.with fu).j5 W s m.w.heap.size (grownCap m.w new.length 0 e) (.arr e sz new)):=IS hg (bJ _);have wK:=LK ql s;refine⟨_,(m.with fu).j5 W s m.w.heap.size (grownCap m.w new.length 0 e) (.arr e sz new),.inl (run _ _ (by rw[zu,wV];exact jG)),IU hg (bJ _) (by rw[<- hW];simp) nz ?_,vq.trans Cu,IT nz (bJ _),?_,?_⟩
   .refine⟨_,by rw[Eh,Tu,<- hW];exact heap_alloc_new m.w.drew _,ju,cV,by rw[qd];exact lh,by rw[qd];exact Me,?_,?_⟩
    .rw[qd];simp only[afY,R6,size_zeroCells,JA,gj,hs,<- fY];congr 1;omega
    have:(news.toArray++Builtin.zeroCells zv.cells (grownCap m.w new.length 0 e-new.length)).toList.take (new.length*sz)=news:=by simp only[N9];rw[<- hs,<- gj];exact KU
    rw[this];exact dd.ev Cu.zero (dd.pw.2 kL)
   .rw[K8,Tt];simp only[Mem.with];rw[wK]
   have:=LJ (m:=m.with fu) (w':=W) (s:=s) (c:=m.w.heap.size) (ty:=e) (sz:=sz) (es:=new) lh Me;simp only[Mem.with] at this;rw[wK] at this;exact this
  cases hv
 .rename_i id g zz len Gv;rw[Gv] at nY;split at hv
  .rename_i g' jM ch es lf;split at hv
   .rename_i qZ;obtain⟨iB,rfl,rfl,hlen,j9,Ug⟩:=qZ;cases hv;have Uh:id∉fr:=by simpa using Ug
    have cq:(m.with fu).aj id=m.aj id:=by
     rcases wB ql id with ⟨e,_⟩|⟨iT,_⟩
     .exact e
     exact(Uh iT).elim
    have aT:((m.with fu).aj id).2=some (.arr jM ch es):=by rw[cq,lf]
    obtain⟨cur,hh,_,cA,hl,CG,cX,Uo⟩:=nz.obj id _ aT;have Mf:cT m _ (a.eval d):=nY;generalize zu:a.eval d=dv at Mf;cases Mf with
    |hsl ad cap hg tj Jm GC=>
     obtain⟨f1,f2,f3⟩:=GC ch (by rw[lf];exact iB) (by rw[lf];rfl);have lh:cap=m.κ id:=by rw[<- f3,jm]
     have nj:=f2 (.inl rfl);rw[Ay] at nj;subst nj;unfold room at j9;have wK:=LK ql s;have hgid:=LK ql id;have Jk:len*ch<=es.length*ch:=lY _ hlen;have lk:es.length*ch<=m.κ id*ch:=lY _ hl;have Ul:Pw (cD (m.with fu).w (m.with fu).own) (es.take len).flatten (cur.toList.take (len*ch)):=by rw[IP cA];have h1:=(dd.pw.1 Uo).take (len*ch);rw[HT,yO Jk] at h1;exact h1
     have htl:(es.take len).length=len:=by simp;omega
     have Mb:∀x∈es.take len++new,x.length=ch:=by
      intro x hx;rcases dZ.1 hx with hx|hx
      .exact cA x (xz hx)
      exact cV x hx
     have hnl0:len+new.length<=(len+new.length)*bytes:=Oo _ Gr;have vB:∀q:eX,app (fu++[(id,(g,none)),q]) m.aj=dj (dj (m.with fu).aj id (((m.with fu).aj id).1,none)) q.1 q.2:=by intro q;rw[K8];simp only[app];rw[cq,lf,iB];rfl
     have CC:(es.take len++new).length=len+new.length:=by rw[eG,htl]
     by_cases hfit:len+new.length<=cap
     · -- in its own block
      have key:∀(w':World) (BY:Array Value),(execOp a.eval o).run P m.w=.ok (.value (.slice (some ⟨m.σ id,0,none⟩) (len+new.length) cap)) w'->w'.os=m.w.os->w'.tape=m.w.tape->w'.output=m.w.output->w'.heap.size=m.w.heap.size->
        (∀x,x≠m.σ id->w'.heap[x]?=m.w.heap[x]?)->w'.heap[m.σ id]?=some (.cells BY jM (0,0))->BY.size=cur.size->Pw (cD (m.with fu).w (m.with fu).own) (es.take len++new).flatten (BY.toList.take ((len+new.length)*ch))->
        fM P w0 a.eval o m (.one (.hsl s ((m.aj s).1+1) ch 0 (len+new.length))) (fu++[(id,(g,none)),(s,((m.aj s).1+1,some (.arr jM ch (es.take len++new))))]):=by
       intro w' BY jG q1 q2 q3 q4 q5 q6 q7 q8;obtain⟨m',e1,e2,e3,e4,e5,e6⟩:=aqp (s:=s) nz aT rfl ju q1 q2 q3 q4 q5 q6 Mb (by rw[CC];rw[lh] at hfit;exact hfit) CG (by rw[q7];exact cX) (by rw[CC];exact q8);rw[CC] at e6;have PB:((m.with fu).aj s).1=(m.aj s).1:=wK;rw[PB] at e6 e5;refine⟨_,m',.inl (by rw[e1];exact jG),e2,vq.trans e3,e4,by rw[e5,vB],?_⟩;rw[lh];exact e6
      by_cases js:new=[]
      .subst js;have amc:(execOp a.eval o).run P m.w=.ok (.value (.slice (some ⟨m.σ id,0,none⟩) (len+([]:List (List PV)).length) cap)) m.w:=by
        apply run;rw[zu,wV];have aly:len<=cap:=tj;cases ax<;>simp[Builtin.append_,run_underlying ht,sizeOf,typeInfo,hi,Builtin.lenOf,Builtin.firstCells,loadCells,loadCellsFrom,aly,storeCells]
       exact key m.w cur amc rfl rfl rfl rfl (fun _ _=>rfl) hh rfl (by simpa using Ul)
      obtain⟨b,off,news,rfl,kL,xZ⟩:=ym js;have gj:news.length=new.length*i.size:=by rw[kL.1,Mp,hs]
      have A2:len*i.size+news.length<=cur.size:=by rw[gj,hs,cX,<- fY];rw[lh] at hfit;exact lY _ hfit
      have jG:=run_append_room (P:=P) m.w t o.type jM i ht hi (m.σ id) len cap cur hh ⟨b,off,none⟩ new.length cx news gj (fun j v hj=>by rw[Addr.add_lit];exact xZ j v hj) (aec kL) hfit A2;have amd:(execOp a.eval o).run P m.w=.ok (.value (.slice (some ⟨m.σ id,0,none⟩) (len+new.length) cap)) _:=run _ _ (by rw[zu,wV];exact jG);have ala:len*i.size<=cur.size:=mD (Nat.le_add_right _ _) A2;refine key _ _ amd ?_ ?_ ?_ ?_ (fun x hx=>setRow_other m.w (m.σ id) x _ hx) (NK hh) ?_ ?_
      .rfl
      .rfl
      .rfl
      .exact setRow_size m.w _ _
      .rw[R6,eG,eG,gT,lX,N8];omega
      have h1:=Ul.append kL;rw[<- DD] at h1;have:(cur.toList.take (len*i.size)++news++cur.toList.drop (len*i.size+news.length)).take ((len+new.length)*ch)=cur.toList.take (len*ch)++news:=by
       rw[hs];have cP:(cur.toList.take (len*ch)).length=len*ch:=by rw[gT,N8];rw[hs] at ala;omega
       have TU:(cur.toList.take (len*ch)++news).length=(len+new.length)*ch:=by rw[eG,cP,gj,hs,fY]
       rw[R8 (FU TU.symm)];exact dD (FU TU)
      simp only[agd] at this ⊢;rw[this];exact h1
     · -- a new block
      have js:new≠[]:=fun e=>by subst e;simp at hfit;omega
      obtain⟨b,off,news,rfl,kL,xZ⟩:=ym js;have gj:news.length=new.length*i.size:=by rw[kL.1,Mp,hs]
      have zL:(cur.toList.take (len*ch)).length=len*i.size:=by rw[hs,gT,N8];have zq:cur.size=m.κ id*ch:=cX;omega
      have jG:=run_append_grow (P:=P) m.w t o.type jM i zv ht hi wN ⟨m.σ id,0,none⟩ len cap (cur.toList.take (len*ch)) zL (fun j v hj=>by
        rw[Addr.add_lit,jm];have:(m.w.cell? ⟨m.σ id,j,none⟩)=cur[j]? :=DV hh;rw[this];rw[lI] at hj;split at hj
        .simpa using hj
        cases hj) ⟨b,off,none⟩ new.length cx news gj (fun j v hj=>by rw[Addr.add_lit];exact xZ j v hj) aa aa (growslice_fits aa (by rw[hb];omega))
      have CF:len+new.length<=maxLen:=by simp only[maxLen];omega
      have Je:=grownCap_ge m.w (len+new.length) cap jM;have Cy:=grownCap_le_maxLen m.w (len+new.length) cap jM CF;generalize wI:grownCap m.w (len+new.length) cap jM=cc at jG Je Cy;generalize hW:m.w.drew.alloc (.cells ((cur.toList.take (len*ch)).toArray++news.toArray++Builtin.zeroCells zv.cells (cc-(len+new.length))) jM)=W at jG;have MF:=UZ (zi:=m.fr) (Td nz aT rfl) (fun c hc=>.inl hc);have T0:Ev (m.with fu) {(m.with fu).gJ id with fr:=m.fr}:=(Gb aT rfl).trans (Qj (fun c hc=>.inl hc));have Cw:fH ({(m.with fu).gJ id with fr:=m.fr}:Mem).w W:=by rw[<- hW];exact(fH.drew _).trans (fH.alloc _ _)
      have Cu:Ev ({(m.with fu).gJ id with fr:=m.fr}:Mem) (({(m.with fu).gJ id with fr:=m.fr}:Mem).j5 W s m.w.heap.size cc (.arr jM ch (es.take len++new))):=IS Cw (bJ _);have aaJ:=T0.trans Cu;have PB:((({(m.with fu).gJ id with fr:=m.fr}:Mem)).aj s).1=(m.aj s).1:=by
       simp only[Mem.gJ,aN];split
       .rename_i e';subst e';exact wK
       exact wK
      refine⟨_,({(m.with fu).gJ id with fr:=m.fr}:Mem).j5 W s m.w.heap.size cc (.arr jM ch (es.take len++new)),.inl (run _ _ (by rw[zu,wV];exact jG)),IU Cw (bJ _) (by rw[<- hW];simp) MF ?_,vq.trans aaJ,IT MF (bJ _),?_,?_⟩
      .refine⟨_,by rw[Eh,Tu,<- hW];exact heap_alloc_new m.w.drew _,ju,Mb,by rw[qd,CC];exact Je,by rw[qd];exact Cy,?_,?_⟩
       .rw[qd];simp only[afY,R6,size_zeroCells,JA,gj,zL,hs,<- fY];congr 1;omega
       have h1:=Ul.append kL;rw[<- DD] at h1;have:((cur.toList.take (len*ch)).toArray++news.toArray++Builtin.zeroCells zv.cells (cc-(len+new.length))).toList.take ((es.take len++new).length*ch)=cur.toList.take (len*ch)++news:=by simp only[N9,CC];exact List.take_left' (by rw[eG,agd,agd,zL,gj,hs,fY])
       rw[this];exact dd.ev aaJ.zero (dd.pw.2 h1)
      .rw[Tt,vB];simp only[app];rw[PB];rfl
      have:=LJ (m:=({(m.with fu).gJ id with fr:=m.fr}:Mem)) (w':=W) (s:=s) (c:=m.w.heap.size) (ty:=jM) (sz:=ch) (es:=es.take len++new) Je Cy;rw[PB] at this;exact this
   cases hv
  cases hv
 · -- a slice that begins within its array: its values, nobody's any more
  rename_i id g zz off len aI Gv;rw[Gv] at nY;split at hv
  .rename_i g' jM ch es lf;split at hv
   .rename_i qZ;obtain⟨iB,rfl,rfl,hlen,j9,Ug,tY,alL⟩:=qZ;cases hv;have Uh:id∉fr:=by simpa using Ug
    have cq:(m.with fu).aj id=m.aj id:=by
     rcases wB ql id with ⟨e,_⟩|⟨iT,_⟩
     .exact e
     exact(Uh iT).elim
    have aT:((m.with fu).aj id).2=some (.arr jM ch es):=by rw[cq,lf]
    obtain⟨cur,hh,_,cA,hl,CG,cX,Uo⟩:=nz.obj id _ aT;have Mf:cT m _ (a.eval d):=nY;generalize zu:a.eval d=dv at Mf;cases Mf with
    |hsl ad cap hg tj Jm GC=>
     obtain⟨f1,f2,f3⟩:=GC ch (by rw[lf];exact iB) (by rw[lf];rfl);have nj:=f2 (.inr tY);subst nj;unfold room at j9;have eJ:=(nz.fi id _ aT rfl).1;have hnf:=(nz.fi id _ aT rfl).2;have holds:=FA (off:=off) (len:=len) cA (dd.pw.1 Uo) hlen;have htl:((es.drop off).take len).length=len:=by simp;omega
     rw[htl] at holds;have ak1:∀x∈(es.drop off).take len,x.length=ch:=fun x hx=>cA x (vT (xz hx));have Mb:∀x∈(es.drop off).take len++new,x.length=ch:=by
      intro x hx;rcases dZ.1 hx with hx|hx
      .exact ak1 x hx
      exact cV x hx
     have js:new≠[]:=fun e=>by subst e;simp at alL
     obtain⟨b,bo,news,rfl,kL,xZ⟩:=ym js;have gj:news.length=new.length*i.size:=by rw[kL.1,Mp,hs]
     have CC:((es.drop off).take len++new).length=len+new.length:=by rw[eG,htl]
     have aaK:(((es.drop off).take len++new).flatten).length=(len+new.length)*ch:=by rw[Gh Mb,CC]
     have Uq:=holds.append kL;rw[<- DD] at Uq;have zL:((cur.toList.drop (off*ch)).take (len*ch)).length=len*i.size:=by rw[hs,gT,lX,N8];have zq:cur.size=m.κ id*ch:=cX;have h1:(off+len)*ch<=m.κ id*ch:=lY _ aa;rw[fY] at h1;omega
     have vB:app (fu++[(id,(g,none))]) m.aj=dj (m.with fu).aj id (((m.with fu).aj id).1,none):=by rw[K8];simp only[app];rw[cq,lf,iB];rfl
     have TY:Ok w0 ((m.with fu).gJ id):=Td nz aT rfl;have ale:Ev (m.with fu) ((m.with fu).gJ id):=Gb aT rfl;have Ud:¬((m.with fu).gJ id).fK (m.σ id):=by
      rintro ⟨j,o',h1,h2,h3⟩
      exact(TY.fi j o' h1 h2).2 (.inr h3)
     have val:∀(m2:Mem) (c0 o0 cp:Nat) (cells:List Value),Ev (m.with fu) m2-> ¬m2.own c0->cells.length=(len+new.length)*ch->(∀j v,cells[j]?=some v->m2.w.cell? ⟨c0,o0+j,none⟩=some v)->
       Pw (cD (m.with fu).w (m.with fu).own) ((es.drop off).take len++new).flatten cells->len+new.length<=cp->cp<=maxLen->bU m2 (.one (.p (.sl ((es.drop off).take len++new)))) (.slice (some ⟨c0,o0,none⟩) (len+new.length) cp):=by
      intro m2 c0 o0 cp cells dR dr cP hce jX h1 h2;refine mx ?_;rw[<- CC];refine .sl c0 o0 cp ch (fun j=>cells.getD j undef) (fun _=>dr) (by rw[CC];exact h1) h2 Mb (fun j x hj=>?_) (fun j x hj=>?_)
      .have nu:j<cells.length:=by rw[cP,<- aaK];exact(bg.1 hj).1
       rw[cY,oJ nu];exact hce j _ (oJ nu)
      have nu:j<cells.length:=by rw[cP,<- aaK];exact(bg.1 hj).1
      rw[cY,oJ nu];exact(jX.2 j x _ hj (oJ nu)).ev dR.zero
     by_cases hfit:len+new.length<=cap
     · -- in its own block
      have A2:off*ch+len*i.size+news.length<=cur.size:=by rw[gj,hs,cX,<- fY,<- fY];exact lY _ (by have f3':off+cap=m.κ id:=f3;show _<=m.κ id;omega)
      have jG:=aqU (P:=P) m.w t o.type jM i ht hi (m.σ id) (off*ch) len cap cur hh ⟨b,bo,none⟩ new.length cx news gj (fun j v hj=>by rw[Addr.add_lit];exact xZ j v hj) (aec kL) hfit A2;generalize hW:m.w.setRow (m.σ id) (cur.toList.take (off*ch+len*i.size)++news++cur.toList.drop (off*ch+len*i.size+news.length)).toArray=W at jG;have hWh:W.heap[m.σ id]?=some (.cells (cur.toList.take (off*ch+len*i.size)++news++cur.toList.drop (off*ch+len*i.size+news.length)).toArray jM (0,0)):=by rw[<- hW];exact NK hh
      have k1:W.os=m.w.os:=by rw[<- hW];rfl
      have k2:W.tape=m.w.tape:=by rw[<- hW];rfl
      have k3:W.output=m.w.output:=by rw[<- hW];rfl
      have k4:W.heap.size=m.w.heap.size:=by rw[<- hW];exact setRow_size m.w _ _
      have k5:∀x,x≠m.σ id->W.heap[x]?=m.w.heap[x]? :=fun x hx=>by rw[<- hW];exact setRow_other m.w (m.σ id) x _ hx
      have Uk:Ok w0 {(m.with fu).gJ id with w:=W}:=aeD (m:=(m.with fu).gJ id) TY (.inr rfl) eJ k1 k2 k3 k4 k5;have alj:Ev (m.with fu) {(m.with fu).gJ id with w:=W}:=Zf aT rfl k1 k2 k3 k4 k5;have PM:=UZ (zi:=m.fr) Uk (fun c hc=>.inl hc);have Mn:Ev (m.with fu) ({({(m.with fu).gJ id with w:=W}:Mem) with fr:=m.fr}:Mem):=alj.trans (Qj fun c hc=>.inl hc);refine⟨_,({({(m.with fu).gJ id with w:=W}:Mem) with fr:=m.fr}:Mem),.inl (run _ _ (by rw[zu,wV];exact jG)),PM,vq.trans Mn,rfl,by rw[vB];rfl,?_⟩;refine val _ (m.σ id) (off*ch) cap ((cur.toList.drop (off*ch)).take (len*ch)++news) Mn ?_ (by rw[eG,zL,gj,hs,fY]) ?_ Uq hfit Jm
      .rintro (h|h)
       .exact hnf h
       exact Ud h
      intro j v hj;have cP:({({(m.with fu).gJ id with w:=W}:Mem) with fr:=m.fr}:Mem).w.cell? ⟨m.σ id,off*ch+j,none⟩=(cur.toList.take (off*ch+len*i.size)++news++cur.toList.drop (off*ch+len*i.size+news.length)).toArray[off*ch+j]? :=DV hWh;rw[cP];have nu:=(bg.1 hj).1;rw[eG,zL] at nu;have Jw:(cur.toList.take (off*ch+len*i.size)).length=off*ch+len*i.size:=by rw[gT,N8];omega
      rw[List.getElem?_toArray,uv];by_cases Ji:j<len*i.size
      .rw[vR (by rw[Jw];omega),lI,aD aa];rw[vR (by rw[zL];exact Ji),lI,aD (by rw[<- hs];exact Ji),Aw] at hj;exact hj
      rw[yK (by rw[Jw];omega),Jw,vR aa];rw[yK (by rw[zL];omega),zL] at hj;rw[show off*ch+j-(off*ch+len*i.size)=j-len*i.size by omega];exact hj
     · -- a new block
      have hnlb:len+new.length<=(len+new.length)*bytes:=Oo _ Gr;have jG:=run_append_grow (P:=P) m.w t o.type jM i zv ht hi wN ⟨m.σ id,off*ch,none⟩ len cap ((cur.toList.drop (off*ch)).take (len*ch)) zL (fun j v hj=>by
        rw[Addr.add_lit];have:(m.w.cell? ⟨m.σ id,off*ch+j,none⟩)=cur[off*ch+j]? :=DV hh;rw[this];rw[lI] at hj;split at hj
        .rw[Aw] at hj
         simpa using hj
        cases hj) ⟨b,bo,none⟩ new.length cx news gj (fun j v hj=>by rw[Addr.add_lit];exact xZ j v hj) aa aa (growslice_fits aa (by rw[hb];omega))
      have CF:len+new.length<=maxLen:=by simp only[maxLen];omega
      have Je:=grownCap_ge m.w (len+new.length) cap jM;have Cy:=grownCap_le_maxLen m.w (len+new.length) cap jM CF;generalize wI:grownCap m.w (len+new.length) cap jM=cc at jG Je Cy;generalize hW:m.w.drew.alloc (.cells (((cur.toList.drop (off*ch)).take (len*ch)).toArray++news.toArray++Builtin.zeroCells zv.cells (cc-(len+new.length))) jM)=W at jG;have MF:=UZ (zi:=m.fr) TY (fun c hc=>.inl hc);have T0:Ev (m.with fu) {(m.with fu).gJ id with fr:=m.fr}:=ale.trans (Qj (fun c hc=>.inl hc));have Cw:fH ({(m.with fu).gJ id with fr:=m.fr}:Mem).w W:=by rw[<- hW];exact(fH.drew _).trans (fH.alloc _ _)
      have PM:=M5 (X:=fun _=>False) MF Cw (fun c hc=>hc.elim);have Mn:=T0.trans (JH (X:=fun _=>False) Cw (fun c hc=>hc.elim));have MA:W.heap[m.w.heap.size]?=some (.cells (((cur.toList.drop (off*ch)).take (len*ch)).toArray++news.toArray++Builtin.zeroCells zv.cells (cc-(len+new.length))) jM (0,0)):=by rw[<- hW];exact heap_alloc_new m.w.drew _
      refine⟨_,({(m.with fu).gJ id with fr:=m.fr}:Mem).later W (fun _=>False),.inl (run _ _ (by rw[zu,wV];exact jG)),PM,vq.trans Mn,?_,by rw[vB];rfl,?_⟩
      .funext x;simp only[Mem.later];exact propext ⟨fun h=>h.elim (fun h=>h) (fun h=>h.elim),.inl⟩
      refine val _ m.w.heap.size 0 cc ((cur.toList.drop (off*ch)).take (len*ch)++news) Mn ?_ (by rw[eG,zL,gj,hs,fY]) ?_ Uq Je Cy
      .have alP:¬(m.with fu).own m.w.heap.size:=by
        rintro (h|⟨j,o',h1,h2,h3⟩)
        .exact Nat.lt_irrefl _ (nz.frlt _ h)
        have:=(nz.obj j o' h1).lt;rw[h3] at this;exact Nat.lt_irrefl _ this
       rintro ((h|h)|⟨j,o',h1,h2,h3⟩)
       .exact alP (.inl h)
       .exact h
       have:=(PM.obj j o' h1).lt;have h4:=(MF.obj j o' h1).lt;have qf:m.σ j=m.w.heap.size:=h3;have uE:m.σ j<m.w.heap.size:=h4;omega
      intro j v hj;have cP:W.cell? ⟨m.w.heap.size,0+j,none⟩=_:=DV MA;show W.cell? ⟨m.w.heap.size,0+j,none⟩=some v;rw[cP,jm];have nu:=(bg.1 hj).1;rw[<- HN,N9,N9,vR (by simpa using nu)];exact hj
   cases hv
  cases hv
 cases hv
end
end Go.Abs
