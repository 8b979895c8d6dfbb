/-
  An abstract machine for the code of the model.
-/
import Derived.KernelRfl
import Derived.Calls
import Derived.WalkKit
set_option linter.all false
namespace Go.Abs
abbrev p_:=List UInt8
abbrev l_:=List Bool
abbrev d_:=List Int
abbrev a_:=List Nat
abbrev w_:=Option Nat
abbrev v_:=List (Nat×Nat)
abbrev u_:=List (Int×Int)
abbrev r_:=List (Nat×a_)
theorem aa{p:Prop}(h:p:=by omega):p:=h
theorem ae{p:Prop}(h:p:=by decide):p:=h
theorem af{p:Prop}(h:p:=by simp):p:=h
theorem ah{p:Prop}(h:p:=by kernel_rfl):p:=h
theorem aC:type_of% @if_neg.{1}:=@if_neg.{1}
theorem aG:type_of% @if_pos.{1}:=@if_pos.{1}
theorem aW:type_of% @List.getElem?_eq_some_iff.{0}:=@List.getElem?_eq_some_iff.{0}
theorem aZ:type_of% @List.mem_of_getElem?.{0}:=@List.mem_of_getElem?.{0}
theorem ch:type_of% @List.mem_cons.{0}:=@List.mem_cons.{0}
theorem cA:type_of% @Nat.zero_le:=@Nat.zero_le
theorem cD:type_of% @Nat.le_refl:=@Nat.le_refl
theorem cJ:type_of% @Bool.and_eq_true:=@Bool.and_eq_true
theorem cU:type_of% @List.length_map.{0,0}:=@List.length_map.{0,0}
theorem cV:type_of% @List.mem_map.{0,0}:=@List.mem_map.{0,0}
theorem dh:type_of% @beq_iff_eq.{0}:=@beq_iff_eq.{0}
theorem dk:type_of% @Nat.mod_lt:=@Nat.mod_lt
theorem dK:type_of% @List.getD_eq_getElem?_getD.{0}:=@List.getD_eq_getElem?_getD.{0}
theorem dL:type_of% @List.length_cons.{0}:=@List.length_cons.{0}
theorem dR:type_of% @Bool.false_eq_true:=@Bool.false_eq_true
theorem ef:type_of% @Option.map_eq_some_iff.{0,0}:=@Option.map_eq_some_iff.{0,0}
theorem eD:type_of% @List.map_cons.{0,0}:=@List.map_cons.{0,0}
theorem eL:type_of% @List.not_mem_nil.{0}:=@List.not_mem_nil.{0}
theorem eX:type_of% @List.mem_append.{0}:=@List.mem_append.{0}
theorem fv:type_of% @List.length_nil.{0}:=@List.length_nil.{0}
theorem fX:type_of% @Nat.mod_eq_of_lt:=@Nat.mod_eq_of_lt
theorem gj:type_of% @List.all_eq_true.{0}:=@List.all_eq_true.{0}
theorem gk:type_of% @List.getElem?_map.{0,0}:=@List.getElem?_map.{0,0}
theorem gn:type_of% @Option.some.injEq.{0}:=@Option.some.injEq.{0}
theorem gJ:type_of% @List.length_append.{0}:=@List.length_append.{0}
theorem gR:type_of% @List.nil_append.{0}:=@List.nil_append.{0}
theorem gT:type_of% @List.take_of_length_le.{0}:=@List.take_of_length_le.{0}
theorem ia:type_of% @List.getElem?_of_mem.{0}:=@List.getElem?_of_mem.{0}
theorem ib:type_of% @Nat.add_mul:=@Nat.add_mul
theorem ie:type_of% @of_decide_eq_false:=@of_decide_eq_false
theorem iv:type_of% @List.mem_range:=@List.mem_range
theorem iH:type_of% @List.length_take.{0}:=@List.length_take.{0}
theorem iI:type_of% @Nat.le_of_ble_eq_true:=@Nat.le_of_ble_eq_true
theorem jr:type_of% @Nat.zero_add:=@Nat.zero_add
theorem jJ:type_of% @List.append_nil.{0}:=@List.append_nil.{0}
theorem jQ:type_of% @List.length_pos_iff.{0}:=@List.length_pos_iff.{0}
theorem ki:type_of% @List.map_append.{0,0}:=@List.map_append.{0,0}
theorem kL:type_of% @List.map_nil.{0,0}:=@List.map_nil.{0,0}
theorem lD:type_of% @List.length_drop.{0}:=@List.length_drop.{0}
theorem lE:type_of% @Prod.mk.injEq.{0,0}:=@Prod.mk.injEq.{0,0}
theorem lQ:type_of% @List.mem_singleton.{0}:=@List.mem_singleton.{0}
theorem lR:type_of% @List.take_length.{0}:=@List.take_length.{0}
theorem lS:type_of% @beq_eq_false_iff_ne.{0}:=@beq_eq_false_iff_ne.{0}
theorem l7:type_of% @Bool.not_eq_true':=@Bool.not_eq_true'
theorem l8:type_of% @List.getElem?_take.{0}:=@List.getElem?_take.{0}
theorem l9:type_of% @decide_eq_true_eq:=@decide_eq_true_eq
theorem mB:type_of% @List.pairwise_cons.{0}:=@List.pairwise_cons.{0}
theorem mS:type_of% @List.flatten_cons.{0}:=@List.flatten_cons.{0}
theorem mT:type_of% @List.length_reverse.{0}:=@List.length_reverse.{0}
theorem mU:type_of% @List.take_append_drop.{0}:=@List.take_append_drop.{0}
theorem mV:type_of% @Nat.mul_le_mul_right:=@Nat.mul_le_mul_right
theorem nA:type_of% @List.length_set.{0}:=@List.length_set.{0}
theorem nC:type_of% @List.take_add_one.{0}:=@List.take_add_one.{0}
theorem nE:type_of% @Option.map_some.{0,0}:=@Option.map_some.{0,0}
theorem nY:type_of% @List.cons_append.{0}:=@List.cons_append.{0}
theorem nZ:type_of% @List.getElem?_eq_none.{0}:=@List.getElem?_eq_none.{0}
theorem n9:type_of% @Nat.add_mod_right:=@Nat.add_mod_right
theorem og:type_of% @Nat.lt_succ_iff_lt_or_eq:=@Nat.lt_succ_iff_lt_or_eq
theorem ow:type_of% @Option.getD_some.{0}:=@Option.getD_some.{0}
theorem oY:type_of% @List.all_cons.{0}:=@List.all_cons.{0}
theorem oZ:type_of% @Nat.le_trans:=@Nat.le_trans
theorem o9:type_of% @Nat.not_lt_zero:=@Nat.not_lt_zero
theorem pz:type_of% @Option.some.inj.{0}:=@Option.some.inj.{0}
theorem qA:type_of% @of_decide_eq_true:=@of_decide_eq_true
theorem rh:type_of% @List.getElem?_set.{0}:=@List.getElem?_set.{0}
theorem rj:type_of% @List.nodup_cons.{0}:=@List.nodup_cons.{0}
theorem rR:type_of% @List.getElem?_eq_getElem.{0}:=@List.getElem?_eq_getElem.{0}
theorem sH:type_of% @List.all_nil.{0}:=@List.all_nil.{0}
theorem tL:type_of% @Int.toNat_natCast:=@Int.toNat_natCast
theorem tM:type_of% @List.getElem?_range:=@List.getElem?_range
theorem ur:type_of% @List.getElem_cons_drop.{0}:=@List.getElem_cons_drop.{0}
theorem uu:type_of% @List.map_map.{0,0,0}:=@List.map_map.{0,0,0}
theorem uv:type_of% @List.mem_filter.{0}:=@List.mem_filter.{0}
theorem u5:type_of% @List.any_eq_true.{0}:=@List.any_eq_true.{0}
theorem u6:type_of% @List.mem_cons_of_mem.{0}:=@List.mem_cons_of_mem.{0}
theorem u7:type_of% @Nat.add_zero:=@Nat.add_zero
theorem u9:type_of% @Nat.mod_two_eq_zero_or_one:=@Nat.mod_two_eq_zero_or_one
theorem vU:type_of% @Bool.or_eq_true:=@Bool.or_eq_true
theorem vV:type_of% @Int.eq_ofNat_of_zero_le:=@Int.eq_ofNat_of_zero_le
theorem vW:type_of% @List.append_assoc.{0}:=@List.append_assoc.{0}
theorem vY:type_of% @List.countP_cons.{0}:=@List.countP_cons.{0}
theorem vZ:type_of% @List.countP_map.{0,0}:=@List.countP_map.{0,0}
theorem xy:type_of% @Bool.and_self:=@Bool.and_self
theorem xz:type_of% @List.countP_append.{0}:=@List.countP_append.{0}
theorem xA:type_of% @List.ext_getElem?.{0}:=@List.ext_getElem?.{0}
theorem xB:type_of% @List.getElem?_append_left.{0}:=@List.getElem?_append_left.{0}
theorem xC:type_of% @List.mem_of_mem_drop.{0}:=@List.mem_of_mem_drop.{0}
theorem xD:type_of% @List.mem_of_mem_take.{0}:=@List.mem_of_mem_take.{0}
theorem xE:type_of% @List.nodup_nil.{0}:=@List.nodup_nil.{0}
theorem xF:type_of% @Nat.eq_of_beq_eq_true:=@Nat.eq_of_beq_eq_true
theorem xG:type_of% @decide_eq_false:=@decide_eq_false
theorem xH:type_of% @decide_eq_true:=@decide_eq_true
theorem yM:type_of% @List.ext_getElem.{0}:=@List.ext_getElem.{0}
theorem yN:type_of% @List.pairwise_map.{0,0}:=@List.pairwise_map.{0,0}
theorem yO:type_of% @List.range_succ:=@List.range_succ
theorem yP:type_of% @Nat.mod_add_mod:=@Nat.mod_add_mod
theorem yQ:type_of% @Option.map_none.{0,0}:=@Option.map_none.{0,0}
theorem Ad:type_of% @Bool.not_true:=@Bool.not_true
theorem Ae:type_of% @List.cons.injEq.{0}:=@List.cons.injEq.{0}
theorem Af:type_of% @List.countP_pos_iff.{0}:=@List.countP_pos_iff.{0}
theorem Ag:type_of% @List.getElem?_append_right.{0}:=@List.getElem?_append_right.{0}
theorem Ah:type_of% @List.getElem?_drop.{0}:=@List.getElem?_drop.{0}
theorem Ai:type_of% @List.map_congr_left.{0,0}:=@List.map_congr_left.{0,0}
theorem Aj:type_of% @Nat.min_eq_left:=@Nat.min_eq_left
theorem Ak:type_of% @beq_self_eq_true.{0}:=@beq_self_eq_true.{0}
theorem Bs:type_of% @Bool.and_true:=@Bool.and_true
theorem Bt:type_of% @List.foldl_cons.{0,0}:=@List.foldl_cons.{0,0}
theorem Bu:type_of% @Nat.zero_mul:=@Nat.zero_mul
theorem CO:type_of% @Bool.false_or:=@Bool.false_or
theorem CQ:type_of% @Bool.true_and:=@Bool.true_and
theorem CR:type_of% @List.mem_flatMap.{0,0}:=@List.mem_flatMap.{0,0}
theorem EG:type_of% @Bool.eq_iff_iff:=@Bool.eq_iff_iff
theorem EH:type_of% @List.flatten_append.{0}:=@List.flatten_append.{0}
theorem EI:type_of% @List.getElem_map.{0,0}:=@List.getElem_map.{0,0}
theorem EJ:type_of% @List.length_range:=@List.length_range
theorem EK:type_of% @List.mem_append_right.{0}:=@List.mem_append_right.{0}
theorem EL:type_of% @List.nodup_append.{0}:=@List.nodup_append.{0}
theorem EM:type_of% @Nat.add_assoc:=@Nat.add_assoc
theorem EN:type_of% @Nat.lt_of_lt_of_le:=@Nat.lt_of_lt_of_le
theorem EO:type_of% @Nat.mod_self:=@Nat.mod_self
theorem Gi:type_of% @Bool.not_false:=@Bool.not_false
theorem Gj:type_of% @List.length_eq_zero_iff.{0}:=@List.length_eq_zero_iff.{0}
theorem Gk:type_of% @List.map_take.{0,0}:=@List.map_take.{0,0}
theorem Gl:type_of% @List.mem_append_left.{0}:=@List.mem_append_left.{0}
theorem Gm:type_of% @List.mem_flatten.{0}:=@List.mem_flatten.{0}
theorem Gn:type_of% @List.nodup_range:=@List.nodup_range
theorem Gp:type_of% @List.take_take.{0}:=@List.take_take.{0}
theorem Gq:type_of% @Nat.le_of_eq:=@Nat.le_of_eq
theorem IF:type_of% @List.any_eq_false.{0}:=@List.any_eq_false.{0}
theorem IG:type_of% @List.cons.inj.{0}:=@List.cons.inj.{0}
theorem IH:type_of% @List.countP_congr.{0}:=@List.countP_congr.{0}
theorem II:type_of% @List.find?_eq_none.{0}:=@List.find?_eq_none.{0}
theorem IJ:type_of% @List.flatten_nil.{0}:=@List.flatten_nil.{0}
theorem IK:type_of% @List.foldl_append.{0,0}:=@List.foldl_append.{0,0}
theorem IL:type_of% @List.mem_of_find?_eq_some.{0}:=@List.mem_of_find?_eq_some.{0}
theorem IM:type_of% @Nat.le_max_left:=@Nat.le_max_left
theorem L1:type_of% @List.contains_iff_mem.{0}:=@List.contains_iff_mem.{0}
theorem L2:type_of% @List.countP_eq_zero.{0}:=@List.countP_eq_zero.{0}
theorem L3:type_of% @List.find?_some.{0}:=@List.find?_some.{0}
theorem L4:type_of% @List.flatMap_cons.{0,0}:=@List.flatMap_cons.{0,0}
theorem L5:type_of% @List.getElem_range:=@List.getElem_range
theorem L6:type_of% @List.getElem_set.{0}:=@List.getElem_set.{0}
theorem L7:type_of% @List.length_pos_of_mem.{0}:=@List.length_pos_of_mem.{0}
theorem L8:type_of% @List.take_append.{0}:=@List.take_append.{0}
theorem L9:type_of% @Nat.le_max_right:=@Nat.le_max_right
theorem Ma:type_of% @Nat.one_ne_zero:=@Nat.one_ne_zero
theorem PG:type_of% @Bool.or_eq_false_iff:=@Bool.or_eq_false_iff
theorem PH:type_of% @List.idxOf_lt_length_iff.{0}:=@List.idxOf_lt_length_iff.{0}
theorem PI:type_of% @List.mem_cons_self.{0}:=@List.mem_cons_self.{0}
theorem PJ:type_of% @List.pairwise_append.{0}:=@List.pairwise_append.{0}
theorem PK:type_of% @List.take_append_of_le_length.{0}:=@List.take_append_of_le_length.{0}
theorem PL:type_of% @Nat.le_mul_of_pos_right:=@Nat.le_mul_of_pos_right
theorem VH:type_of% @List.eq_of_mem_replicate.{0}:=@List.eq_of_mem_replicate.{0}
theorem VI:type_of% @List.filter_cons_of_neg.{0}:=@List.filter_cons_of_neg.{0}
theorem VJ:type_of% @List.length_erase_of_mem.{0}:=@List.length_erase_of_mem.{0}
theorem VK:type_of% @List.pairwise_iff_getElem.{0}:=@List.pairwise_iff_getElem.{0}
theorem VL:type_of% @List.perm_ext_iff_of_nodup.{0}:=@List.perm_ext_iff_of_nodup.{0}
theorem VM:type_of% @Option.bind_eq_some_iff.{0,0}:=@Option.bind_eq_some_iff.{0,0}
inductive PV where
 |bool (b:Bool)
 |int (k:IntKind) (n:Int)
 |str (s:ByteArray)
 |vK|nils|sA|zR|nili|ifc|zs
 |box (cs:List PV)
 |sl (es:List (List PV))
 |mp (ag:Bool) (es:List (PV×List PV))
 |fn (f:Nat) (first cap:List PV)
 deriving Inhabited
abbrev b_:=List PV
abbrev t_:=List (PV×b_)
abbrev s_:=List b_
inductive C where
 |p (v:PV)
 |bt (id g off:Nat)
 |dy (id g i off:Nat)
 |hsl (id g sz off len:Nat)
 |kE (id g:Nat)
 |hfn (f:Nat) (first cap:List C)
 deriving Inhabited
abbrev f_:=List C
inductive V where
 |undef
 |one (c:C)
 |agg (cs:f_)
 |tup (vs:List V)
 deriving Inhabited
abbrev e_:=List V
inductive Ob where
 |var (cs:f_)
 |arr (ty sz:Nat) (es:s_)
 |jg (ty sz:Nat) (es:List f_)
 |map (ag:Bool) (es:t_)
 |fvar (cs:b_)
 |qF (ty sz:Nat) (es:s_)
 |fmap (ag:Bool) (es:t_)
 deriving Inhabited
abbrev Env:=Nat->V
abbrev aE:=Nat->Nat×Option Ob
def eH{α:Type}(f:Nat->α)(a:Nat)(x:α):Nat->α:=fun i=>if i=a then x else f i
theorem aU{α:Type}(f:Nat->α)(a b:Nat)(x:α):eH f a x b=if b=a then x else f b:=rfl
inductive aX where
 |t (n:Nat)
 |i (n:Int)
 |b (x:Bool)
 |k (v:V)
abbrev o_:=List aX
inductive v7 where
 |bool|ptr|slc|map|fnc|ifc
 |str (ks:l_)
inductive oz where
 |zQ (x:aX)
 |pick (c a b:aX)
 |alloc (site:Nat) (z:b_)
 |box (site:Nat) (x:aX)
 |build (z:b_) (parts:List (Nat×Nat×aX))
 |EY (site ty sz:Nat) (parts:o_)
 |load (k:w_) (x:aX)
 |store (n:Nat) (a x:aX)
 |K9 (x:aX)
 |bin (op:BinOp) (x y:aX)
 |eqc (k:v7) (neg:Bool) (x y:aX)
 |un (op:UnOp) (x:aX)
 |conv (k:IntKind) (x:aX)
 |bstr (x:aX)
 |mkfn (f:Nat) (first cap:o_)
 |mkmap (site:Nat) (ag:Bool)
 |KY (site ty sz bytes:Nat) (z:b_) (len cap:aX)
 |slice (sz:Nat) (x:aX) (lo hi:Option aX)
 |sslice (x:aX) (lo hi:Option aX)
 |G9 (off:Nat) (x:aX)
 |HO (sz:Nat) (x i:aX)
 |IY (len sz:Nat) (x i:aX)
 |fld (off:Nat) (k:w_) (x:aX)
 |aidx (len sz:Nat) (k:w_) (x i:aX)
 |sidx (x i:aX)
 |lookup (kd:Nat) (z:b_) (agg ok:Bool) (x k:aX)
 |mupd (kd:Nat) (ag:Bool) (m k v:aX)
 |bad
 |extract (x:aX) (i:Nat)
 |call (site:Nat) (f:aX) (args:o_)
 |slen (x:aX)
 |KW (x:aX)
 |mlen (x:aX)
 |append (site ty sz bytes:Nat) (s x:aX)
 |max (x y:aX)
 |min (x y:aX)
 |clear (z:b_) (x:aX)
structure cq where
 dst:w_
 op:oz
 guard:Option (Nat×Bool)
 anc:Nat
abbrev g_:=List cq
inductive aR where
 |skip
 |region (draw:Bool) (ops:g_)
 |seq (a b:aR)
 |cond (x:aX) (a b:aR)
 |block (id:Nat) (c:aR)
 |loop (c:aR)
 |exit (id:Nat)
 |ret
 |bad
structure bG where
 ntmps:Nat
 results:List (Nat×Option w_)
 body:aR
def ev (ak:Env):aX->V
 | .t n=>ak n
 | .i n=>.one (.p (.int .i64 n))
 | .b x=>.one (.p (.bool x))
 | .k v=>v
abbrev fy:=Nat×(Nat×Option Ob)
abbrev k_:=List fy
def app:k_->aE->aE
 |[],b=>b
 |(i,o)::r,b=>app r (eH b i o)
def PV.norm:PV->PV
 | .nils=>.sl []
 | .zs=>.sl []
 |v=>v
def toP:C->Option PV
 | .p v=>some v.norm
 |_=>none
def CJ:f_->Option b_
 |[]=>some []
 |c::r=>match toP c,CJ r with
  |some v,some vs=>some (v::vs)
  |_,_=>none
def sN:V->Option f_
 | .one c=>some [c]
 | .agg cs=>some cs
 |_=>none
def collect{α β:Type}(f:α->Option (β×a_)):List α->Option (List β×a_)
 |[]=>some ([],[])
 |a::r=>match f a,collect f r with
  |some (b,x),some (bs,y)=>some (b::bs,x++y)
  |_,_=>none
def snap(aj:aE):Nat->C->Option (PV×a_)
 |0,_=>none
 |n+1,c=>match c with
  | .p v=>some (v.norm,[])
  | .bt id g off=>match aj id with
   |(g',some (.var cs))=>if g'=g then
     match collect (snap aj n) cs with
     |some (ps,r)=>some (.box (ps.drop off),id::r)
     |none=>none
    else none
   |(g',some (.fvar ps))=>if g'=g then some (.box (ps.drop off),[id]) else none
   |_=>none
  | .dy id g i off=>match aj id with
   |(g',some (.arr _ _ es))=>if g'=g then (es[i]?).map fun e=>(.box (e.drop off),[id]) else none
   |(g',some (.qF _ _ es))=>if g'=g then (es[i]?).map fun e=>(.box (e.drop off),[id]) else none
   |_=>none
  | .hsl id g z off len=>match aj id with
   |(g',some (.arr _ _ es))=>if g'=g/\off+len<=es.length then some (.sl ((es.drop off).take len),[id]) else none
   |(g',some (.qF _ _ es))=>if g'=g/\off+len<=es.length then some (.sl ((es.drop off).take len),[id]) else none
   |(g',some (.jg _ _ es))=>if g'=g/\off+len<=es.length then
     match collect (collect (snap aj n)) ((es.drop off).take len) with
     |some (ps,r)=>some (.sl ps,id::r)
     |none=>none
    else none
   |_=>none
  | .kE id g=>match aj id with
   |(g',some (.map ag es))=>if g'=g then some (.mp ag es,[id]) else none
   |(g',some (.fmap ag es))=>if g'=g then some (.mp ag es,[id]) else none
   |_=>none
  | .hfn f a b=>match collect (snap aj n) a,collect (snap aj n) b with
   |some (x,r),some (y,s)=>some (.fn f x y,r++s)
   |_,_=>none
def gZ:Nat:=6
def oX(aj:aE):V->Option (V×a_)
 | .one c=>(snap aj gZ c).map fun(v,r)=>(.one (.p v),r)
 | .agg cs=>(collect (snap aj gZ) cs).map fun(vs,r)=>(.agg (vs.map .p),r)
 |_=>none
def y8(aj:aE)(all:a_)(id:Nat):Option k_:=
 match aj id with
 |(g,some (.var cs))=>match collect (snap aj gZ) cs with
  |some (ps,r)=>if r.all all.contains then some [(id,(g,some (.fvar ps)))] else none
  |none=>none
 |(g,some (.arr ty sz es))=>some [(id,(g,some (.qF ty sz es)))]
 |(g,some (.jg ty sz es))=>match collect (collect (snap aj gZ)) es with
  |some (ps,r)=>if r.all all.contains then some [(id,(g,some (.qF ty sz ps)))] else none
  |none=>none
 |(g,some (.map ag es))=>some [(id,(g,some (.fmap ag es)))]
 |(_,none)=>none
 |_=>some []
def vp(aj:aE)(all:a_):a_->Option k_
 |[]=>some []
 |i::r=>match y8 aj all i,vp aj all r with
  |some a,some b=>some (a++b)
  |_,_=>none
def tY(aj:aE)(ids:a_):Option k_:=vp aj ids ids
inductive RC where
 |p (v:PV)
 |own (ty sz:Nat) (es:s_)
 deriving Inhabited
abbrev n_:=List RC
inductive RV where
 |one (c:RC)
 |agg (cs:n_)
 |tup (vs:List RV)
 deriving Inhabited
def RC.pure:RC->RC
 | .p v=>.p v
 | .own _ _ es=>.p (.sl es)
def RV.Ir:RV->RV
 | .one c=>.one c.pure
 | .agg cs=>.agg (cs.map RC.pure)
 | .tup vs=>.tup vs
def RV.pure:RV->RV
 | .tup vs=>.tup (vs.map RV.Ir)
 |v=>v.Ir
def RV.iu(b:Bool)(r:RV):RV:=match b with
 |true=>r.pure
 |false=>r
def PV.scalar:PV->Bool
 | .bool _| .int _ _| .str _| .vK| .nils| .sA| .zR| .nili| .ifc| .zs=>true
 |_=>false
def RC.alone:RC->Bool
 | .p v=>v.scalar
 | .own _ _ es=>es.all fun e=>e.all PV.scalar
def kJ(aj:aE)(c:C):Option (RC×a_×a_):=
 match c with
 | .p v=>some (.p v,[],[])
 | .hsl id g z 0 len=>match aj id with
  |(g',some (.arr ty sz es))=>if g'=g/\len<=es.length then some (.own ty sz (es.take len),[id],[]) else none
  |_=>(snap aj gZ c).map fun(v,r)=>(.p v,[],r)
 |_=>(snap aj gZ c).map fun(v,r)=>(.p v,[],r)
def nU(aj:aE):f_->Option (n_×a_×a_)
 |[]=>some ([],[],[])
 |c::r=>match kJ aj c,nU aj r with
  |some (x,o,q),some (xs,os,qs)=>some (x::xs,o++os,q++qs)
  |_,_=>none
def pO:V->Option f_
 | .one c=>some [c]
 | .agg cs=>some cs
 |_=>none
def wD:e_->Option f_
 |[]=>some []
 |v::r=>match pO v,wD r with
  |some a,some b=>some (a++b)
  |_,_=>none
def uH:V->Option f_
 | .tup vs=>wD vs
 |v=>pO v
def uk:V->n_->RV×n_
 | .one _,r::rs=>(.one r,rs)
 | .agg cs,rs=>(.agg (rs.take cs.length),rs.drop cs.length)
 |_,rs=>(.agg [],rs)
def CF:e_->n_->List RV
 |[],_=>[]
 |v::r,rs=>(uk v rs).1::CF r (uk v rs).2
def xn:V->n_->RV
 | .tup vs,rs=>.tup (CF vs rs)
 |v,rs=>(uk v rs).1
def apart:a_->a_->Bool
 |[],_=>true
 |i::r,q=> !r.contains i&& !q.contains i&&apart r q
def j6(aj:aE)(v:V):Option RV:=
 match uH v with
 |some cs=>match nU aj cs with
  |some (x,o,q)=>if apart o q then some (xn v x) else none
  |none=>none
 |none=>none
def dY(aj:aE)(site:Nat):RC->C×k_
 | .p v=>(.p v,[])
 | .own ty sz es=>(.hsl site ((aj site).1+1) sz 0 es.length,[(site,((aj site).1+1,some (.arr ty sz es)))])
def jF(aj:aE)(site:Nat):n_->f_×k_
 |[]=>([],[])
 |c::r=>((dY aj site c).1::(jF aj (site+1) r).1,(dY aj site c).2++(jF aj (site+1) r).2)
def jh:RV->n_
 | .one c=>[c]
 | .agg cs=>cs
 | .tup _=>[]
def pN:List RV->n_
 |[]=>[]
 |v::r=>jh v++pN r
def iY:RV->n_
 | .tup vs=>pN vs
 |v=>jh v
def nW:RV->f_->V×f_
 | .one _,c::cs=>(.one c,cs)
 | .agg rs,cs=>(.agg (cs.take rs.length),cs.drop rs.length)
 |_,cs=>(.undef,cs)
def um:List RV->f_->e_
 |[],_=>[]
 |v::r,cs=>(nW v cs).1::um r (nW v cs).2
def tF:RV->f_->V
 | .tup vs,cs=>.tup (um vs cs)
 |v,cs=>(nW v cs).1
def RV.alone(r:RV):Bool:=(iY r).all RC.alone
def jY(aj:aE)(site:Nat)(r:RV):V×k_:=(tF r (jF aj site (iY r)).1,(jF aj site (iY r)).2)
inductive fP where
 |fail
 |done (v:V) (u:k_) (rd:a_)
 |pc (f:Nat) (args:e_) (rd:a_) (site:Nat)
 |sc (f:Nat) (args:e_)
def CB(aj:aE):V->Option (f_×a_)
 | .one (.p (.box cs))=>some (cs.map .p,[])
 | .one (.bt id g off)=>match aj id with
  |(g',some (.var cs))=>if g'=g then some (cs.drop off,[id]) else none
  |(g',some (.fvar cs))=>if g'=g then some ((cs.drop off).map .p,[id]) else none
  |_=>none
 | .one (.dy id g i off)=>match aj id with
  |(g',some (.arr _ _ es))=>if g'=g then (es[i]?).map fun e=>((e.drop off).map .p,[id]) else none
  |(g',some (.qF _ _ es))=>if g'=g then (es[i]?).map fun e=>((e.drop off).map .p,[id]) else none
  |(g',some (.jg _ _ es))=>if g'=g then (es[i]?).map fun e=>(e.drop off,[id]) else none
  |_=>none
 |_=>none
def qZ(k:w_)(cs:f_):Option V:=
 match k with
 |none=>match cs with
  |c::_=>some (.one c)
  |[]=>none
 |some n=>if n<=cs.length then some (.agg (cs.take n)) else none
def ft{α:Type}(cs:List α)(off:Nat)(xs:List α):List α:=cs.take off++xs++cs.drop (off+xs.length)
def Bq(aj:aE)(a:V)(n:Nat)(xs:f_):fP:=
 if xs.length≠n then .fail else
 match a with
 | .one (.bt id g off)=>match aj id with
  |(g',some (.var cs))=>if g'=g/\off+n<=cs.length then .done .undef [(id,(g,some (.var (ft cs off xs))))] [id] else .fail
  |_=>.fail
 | .one (.dy id g i off)=>match aj id with
  |(g',some (.arr ty sz es))=>match es[i]?,CJ xs with
   |some e,some ps=>if g'=g/\off+n<=e.length then .done .undef [(id,(g,some (.arr ty sz (es.set i (ft e off ps)))))] [id] else .fail
   |_,_=>.fail
  |_=>.fail
 |_=>.fail
def gb(aj:aE):V->Option (s_×a_×a_)
 | .one (.p .nils)=>some ([],[],[])
 | .one (.p (.sl es))=>some (es,[],[])
 | .one (.hsl id g z off len)=>match aj id with
  |(g',some (.arr _ _ es))=>if g'=g/\off+len<=es.length then some ((es.drop off).take len,[id],[]) else none
  |(g',some (.qF _ _ es))=>if g'=g/\off+len<=es.length then some ((es.drop off).take len,[id],[]) else none
  |(g',some (.jg _ _ es))=>if g'=g/\off+len<=es.length then
    match collect (collect (snap aj gZ)) ((es.drop off).take len) with
    |some (ps,r)=>some (ps,[id],r)
    |none=>none
   else none
  |_=>if len=0 then some ([],[id],[]) else none
 |_=>none
def aw(sz:Nat)(es:s_):Bool:=es.all fun e=>e.length==sz
def ny:V->w_
 | .one (.hsl _ _ z _ _)=>some z
 |_=>none
def room:Nat:=140737488355328
def au(aj:aE)(site ty sz bytes:Nat)(s x:V):fP:=
 match gb aj x with
 |none=>.fail
 |some (new,rd,fr)=>
  if ¬(ny x=some sz\/aw sz new=true) then .fail else
  match tY aj fr with
  |none=>.fail
  |some fu=>
   match s with
   | .one (.p .nils)=>
    if new.length=0 then .done (.one (.p .nils)) fu (rd++fr) else
    if new.length*bytes<=room then
     .done (.one (.hsl site ((aj site).1+1) sz 0 new.length)) (fu++[(site,((aj site).1+1,some (.arr ty sz new)))]) (site::rd++fr)
    else .fail
   | .one (.p .zs)=>
    if new.length=0 then .fail else
    if new.length*bytes<=room then
     .done (.one (.hsl site ((aj site).1+1) sz 0 new.length)) (fu++[(site,((aj site).1+1,some (.arr ty sz new)))]) (site::rd++fr)
    else .fail
   | .one (.hsl id g z 0 len)=>match aj id with
    |(g',some (.arr kh cH es))=>
     if g'=g/\kh=ty/\cH=sz/\len<=es.length/\(len+new.length)*bytes<=room/\fr.contains id=false then
      .done (.one (.hsl site ((aj site).1+1) sz 0 (len+new.length)))
       (fu++[(id,(g,none)),(site,((aj site).1+1,some (.arr ty sz (es.take len++new))))]) (site::id::rd++fr)
     else .fail
    |_=>.fail
   | .one (.hsl id g z off len)=>match aj id with
    |(g',some (.arr kh cH es))=>
     if g'=g/\kh=ty/\cH=sz/\off+len<=es.length/\(len+new.length)*bytes<=room/\fr.contains id=false/\0<len/\0<new.length then
      .done (.one (.p (.sl ((es.drop off).take len++new)))) (fu++[(id,(g,none))]) (id::rd++fr)
     else .fail
    |_=>.fail
   |_=>.fail
def qC:V->w_
 | .one (.p (.int _ n))=>if 0<=n then some n.toNat else none
 |_=>none
def sL(ak:Env)(d:Nat):Option aX->w_
 |none=>some d
 |some a=>qC (ev ak a)
def Em(x:V)(sz lo hi:Nat):fP:=
 if ¬lo<=hi then .fail else
 match x with
 | .one (.p .nils)=>if hi=0 then .done (.one (.p .nils)) [] [] else .fail
 | .one (.p (.sl es))=>if hi<=es.length/\aw sz es=true then .done (.one (.p (.sl ((es.drop lo).take (hi-lo))))) [] [] else .fail
 | .one (.hsl id g z off len)=>if hi<=len/\z=sz then .done (.one (.hsl id g z (off+lo) (hi-lo))) [] [] else .fail
 |_=>.fail
def zN:V->w_
 | .one (.p .nils)=>some 0
 | .one (.p (.sl es))=>some es.length
 | .one (.hsl _ _ _ _ len)=>some len
 |_=>none
def rM(aj:aE):V->Option (Nat×a_)
 | .one (.p .sA)=>some (0,[])
 | .one (.p (.mp _ es))=>some (es.length,[])
 | .one (.kE id g)=>match aj id with
  |(g',some (.map _ es))=>if g'=g then some (es.length,[id]) else none
  |(g',some (.fmap _ es))=>if g'=g then some (es.length,[id]) else none
  |_=>none
 |_=>none
def mapOf(aj:aE)(ag:Bool):V->Option (t_×a_)
 | .one (.p .sA)=>some ([],[])
 | .one (.p (.mp sK es))=>if sK=ag then some (es,[]) else none
 | .one (.kE id g)=>match aj id with
  |(g',some (.map sK es))=>if g'=g/\sK=ag then some (es,[id]) else none
  |(g',some (.fmap sK es))=>if g'=g/\sK=ag then some (es,[id]) else none
  |_=>none
 |_=>none
def sameKey:PV->PV->Option Bool
 | .int k a,.int k' b=>if k=k' then some (a==b) else none
 | .str a,.str b=>some (a==b)
 | .bool a,.bool b=>some (a==b)
 |_,_=>none
def iK:PV->Nat
 | .int _ _=>0
 | .str _=>1
 | .bool _=>2
 |_=>3
def mapVal:Bool->b_->Option V
 |true,cs=>some (.agg (cs.map .p))
 |false,[c]=>some (.one (.p c))
 |false,_=>none
def qG(k:PV):t_->Nat->Option (Option (Nat×b_))
 |[],_=>some none
 |(a,v)::r,i=>match sameKey k a with
  |some true=>some (some (i,v))
  |some false=>qG k r (i+1)
  |none=>none
def sM:Bool->V->Option f_
 |false,.one c=>some [c]
 |true,.agg cs=>some cs
 |_,_=>none
def uA(op:BinOp)(k:IntKind)(a b:Int):Option PV:=
 match op with
 | .add=>some (.int k (k.wrap (a+b)))
 | .sub=>some (.int k (k.wrap (a-b)))
 | .mul=>some (.int k (k.wrap (a*b)))
 | .quo=>if b=0 then none else some (.int k (k.wrap (a.tdiv b)))
 | .rem=>if b=0 then none else some (.int k (a.tmod b))
 | .eql=>some (.bool (a==b))
 | .neq=>some (.bool (a !=b))
 | .lss=>some (.bool (decide (a<b)))
 | .leq=>some (.bool (decide (a<=b)))
 | .gtr=>some (.bool (decide (b<a)))
 | .geq=>some (.bool (decide (b<=a)))
 | .and=>some (.int k (k.wrap (BitVec.ofInt k.bits a&&& BitVec.ofInt k.bits b).toNat))
 | .shl=>if b<0 then none else some (.int k (k.wrap (a*2 ^ min b.toNat k.bits)))
 | .shr=>if b<0 then none else some (.int k (a.fdiv (2 ^ min b.toNat k.bits)))
 |_=>none
def Jh(op:BinOp)(a b:ByteArray):Option PV:=
 match op with
 | .add=>if a.size+b.size<=9223372036854775807 then some (.str (a++b)) else none
 | .eql=>some (.bool (a.toList==b.toList))
 | .neq=>some (.bool (!(a.toList==b.toList)))
 |_=>none
def rU(op:BinOp):V->V->Option V
 | .one (.p (.int k a)),.one (.p (.int k' b))=>if k=k'\/op=.shl\/op=.shr then (uA op k a b).map fun v=>.one (.p v) else none
 | .one (.p (.str a)),.one (.p (.str b))=>(Jh op a b).map fun v=>.one (.p v)
 |_,_=>none
def vm:Bool->PV->PV->Option Bool
 |true,.int k a,.int k' b=>if k=k' then some (a==b) else none
 |false,.bool a,.bool b=>some (a==b)
 |_,_,_=>none
def wC:l_->f_->f_->Option Bool
 |[],[],[]=>some true
 |k::ks,.p a::r,.p b::s=>match vm k a b with
  |some true=>wC ks r s
  |some false=>some false
  |none=>none
 |_,_,_=>none
def HR:v7->V->Option Bool
 | .ptr,.one (.p .vK)=>some true
 | .ptr,.one (.p (.box _))=>some false
 | .ptr,.one (.bt _ _ _)=>some false
 | .ptr,.one (.dy _ _ _ _)=>some false
 | .slc,.one (.p .nils)=>some true
 | .slc,.one (.p (.sl (_::_)))=>some false
 | .slc,.one (.hsl _ _ _ _ _)=>some false
 | .map,.one (.p .sA)=>some true
 | .map,.one (.p (.mp _ _))=>some false
 | .map,.one (.kE _ _)=>some false
 | .fnc,.one (.p .zR)=>some true
 | .fnc,.one (.p (.fn _ _ _))=>some false
 | .fnc,.one (.hfn _ _ _)=>some false
 | .ifc,.one (.p .nili)=>some true
 | .ifc,.one (.p .ifc)=>some false
 |_,_=>none
def Du:v7->V->V->Option Bool
 | .bool,.one (.p (.bool a)),.one (.p (.bool b))=>some (a==b)
 | .str ks,.agg a,.agg b=>wC ks a b
 | .bool,_,_=>none
 | .str _,_,_=>none
 |k,a,b=>if HR k b=some true then HR k a else if HR k a=some true then HR k b else none
def fill(cs:f_):List (Nat×f_)->f_
 |[]=>cs
 |(off,xs)::r=>fill (ft cs off xs) r
def zS(ak:Env):List (Nat×Nat×aX)->Option (List (Nat×f_))
 |[]=>some []
 |(off,n,a)::r=>match sN (ev ak a),zS ak r with
  |some cs,some q=>if cs.length=n then some ((off,cs)::q) else none
  |_,_=>none
def AO(ak:Env)(sz:Nat):o_->Option (List f_)
 |[]=>some []
 |a::r=>match sN (ev ak a),AO ak sz r with
  |some cs,some q=>if cs.length=sz then some (cs::q) else none
  |_,_=>none
def CK:List f_->Option s_
 |[]=>some []
 |c::r=>match CJ c,CK r with
  |some v,some vs=>some (v::vs)
  |_,_=>none
def Fl(ak:Env)(a:aX):Option (Nat×f_×f_):=
 match ev ak a with
 | .one (.p (.fn f x y))=>some (f,x.map .p,y.map .p)
 | .one (.hfn f x y)=>some (f,x,y)
 |_=>none
def CI(aj:aE):e_->Option (e_×a_):=collect (oX aj)
def bytesOf:s_->Option p_
 |[]=>some []
 |[.int .u8 n]::r=>(bytesOf r).map (UInt8.ofNat n.toNat:: ·)
 |_::_=>none
def xg(ak:Env):o_->Option f_
 |[]=>some []
 |a::r=>match ev ak a,xg ak r with
  | .one c,some q=>some (c::q)
  |_,_=>none
def bU(shared:Nat->Bool)(ak:Env)(aj:aE):oz->fP
 | .zQ x=>.done (ev ak x) [] []
 | .pick c a b=>match ev ak c with
  | .one (.p (.bool t))=>.done (if t then ev ak a else ev ak b) [] []
  |_=>.fail
 | .alloc s z=>.done (.one (.bt s ((aj s).1+1) 0)) [(s,((aj s).1+1,some (.var (z.map .p))))] [s]
 | .box s x=>match sN (ev ak x) with
  |some cs=>.done (.one (.bt s ((aj s).1+1) 0)) [(s,((aj s).1+1,some (.var cs)))] [s]
  |none=>.fail
 | .build z ps=>match zS ak ps with
  |some q=>.done (.agg (fill (z.map .p) q)) [] []
  |none=>.fail
 | .EY s ty sz ps=>match AO ak sz ps with
  |some es=>match CK es with
   |some qs=>.done (.one (.hsl s ((aj s).1+1) sz 0 es.length)) [(s,((aj s).1+1,some (.arr ty sz qs)))] [s]
   |none=>.done (.one (.hsl s ((aj s).1+1) sz 0 es.length)) [(s,((aj s).1+1,some (.jg ty sz es)))] [s]
  |none=>.fail
 | .load k x=>match CB aj (ev ak x) with
  |some (cs,r)=>match qZ k cs with
   |some v=>.done v [] r
   |none=>.fail
  |none=>.fail
 | .store n a x=>match sN (ev ak x) with
  |some xs=>Bq aj (ev ak a) n xs
  |none=>.fail
 | .K9 x=>match ev ak x with
  | .one (.bt id g o)=>.done (.one (.bt id g o)) [] []
  | .one (.dy id g i o)=>.done (.one (.dy id g i o)) [] []
  | .one (.p (.box cs))=>.done (.one (.p (.box cs))) [] []
  | .one (.hfn f a b)=>.done (.one (.hfn f a b)) [] []
  | .one (.p (.fn f a b))=>.done (.one (.p (.fn f a b))) [] []
  |_=>.fail
 | .bin op x y=>match rU op (ev ak x) (ev ak y) with
  |some v=>.done v [] []
  |none=>.fail
 | .eqc k neg x y=>match Du k (ev ak x) (ev ak y) with
  |some b=>.done (.one (.p (.bool (if neg then !b else b)))) [] []
  |none=>.fail
 | .un op x=>match op,ev ak x with
  | .not,.one (.p (.bool b))=>.done (.one (.p (.bool (!b)))) [] []
  | .neg,.one (.p (.int k n))=>.done (.one (.p (.int k (k.wrap (0-n))))) [] []
  |_,_=>.fail
 | .conv k x=>match ev ak x with
  | .one (.p (.int _ n))=>.done (.one (.p (.int k (k.wrap n)))) [] []
  |_=>.fail
 | .bstr x=>match gb aj (ev ak x) with
  |some (es,r,[])=>match bytesOf es with
   |some bs=>.done (.one (.p (.str ⟨bs.toArray⟩))) [] r
   |none=>.fail
  |_=>.fail
 | .mkfn f a b=>match xg ak a,xg ak b with
  |some x,some y=>.done (.one (.hfn f x y)) [] []
  |_,_=>.fail
 | .mkmap s ag=>.done (.one (.kE s ((aj s).1+1))) [(s,((aj s).1+1,some (.map ag [])))] [s]
 | .KY s ty sz bytes z l c=>match qC (ev ak l),qC (ev ak c) with
  |some n,some m=>if n=m/\n*bytes<=room then
    .done (.one (.hsl s ((aj s).1+1) sz 0 n)) [(s,((aj s).1+1,some (.arr ty sz (List.replicate n z))))] [s]
   else .fail
  |_,_=>.fail
 | .slice sz x lo hi=>match zN (ev ak x) with
  |some n=>match sL ak 0 lo,sL ak n hi with
   |some l,some h=>Em (ev ak x) sz l h
   |_,_=>.fail
  |none=>.fail
 | .sslice x lo hi=>match ev ak x with
  | .one (.p (.str s))=>match sL ak 0 lo,sL ak s.size hi with
   |some l,some h=>if l<=h/\h<=s.size then .done (.one (.p (.str (s.extract l h)))) [] [] else .fail
   |_,_=>.fail
  |_=>.fail
 | .G9 off x=>match ev ak x with
  | .one (.bt id g o)=>.done (.one (.bt id g (o+off))) [] []
  | .one (.dy id g i o)=>.done (.one (.dy id g i (o+off))) [] []
  | .one (.p (.box cs))=>.done (.one (.p (.box (cs.drop off)))) [] []
  |_=>.fail
 | .HO sz x i=>match qC (ev ak i),ev ak x with
  |some n,.one (.p (.sl es))=>match es[n]? with
   |some e=>if e.length=sz then .done (.one (.p (.box e))) [] [] else .fail
   |none=>.fail
  |some n,.one (.hsl id g z off len)=>if n<len/\z=sz then .done (.one (.dy id g (off+n) 0)) [] [] else .fail
  |_,_=>.fail
 | .IY len sz x i=>match qC (ev ak i),ev ak x with
  |some n,.one (.bt id g o)=>if n<len then .done (.one (.bt id g (o+n*sz))) [] [] else .fail
  |some n,.one (.dy id g j o)=>if n<len then .done (.one (.dy id g j (o+n*sz))) [] [] else .fail
  |some n,.one (.p (.box cs))=>if n<len then .done (.one (.p (.box (cs.drop (n*sz))))) [] [] else .fail
  |_,_=>.fail
 | .fld off k x=>match ev ak x with
  | .agg cs=>match qZ k (cs.drop off) with
   |some v=>.done v [] []
   |none=>.fail
  |_=>.fail
 | .aidx len sz k x i=>match qC (ev ak i),ev ak x with
  |some n,.agg cs=>if n<len then
    match qZ k (cs.drop (n*sz)) with
    |some v=>.done v [] []
    |none=>.fail
   else .fail
  |_,_=>.fail
 | .sidx x i=>match qC (ev ak i),ev ak x with
  |some n,.one (.p (.str s))=>match s[n]? with
   |some b=>.done (.one (.p (.int .u8 b.toNat))) [] []
   |none=>.fail
  |_,_=>.fail
 | .lookup kd z agg ok x k=>match mapOf aj agg (ev ak x),ev ak k with
  |some (es,r),.one (.p q)=>if iK q≠kd then .fail else match qG q es 0 with
   |some f=>match mapVal agg ((f.map (·.2)).getD z) with
    |some w=>.done (if ok then .tup [w,.one (.p (.bool f.isSome))] else w) [] r
    |none=>.fail
   |none=>.fail
  |_,_=>.fail
 | .bad=>.fail
 | .mupd kd ag m k v=>match ev ak m,ev ak k,sM ag (ev ak v) with
  | .one (.kE id g),.one (.p q),some cs=>match aj id,CJ cs with
   |(g',some (.map sK es)),some ps=>if g'=g/\sK=ag/\iK q=kd then
     match qG q es 0 with
     |some (some (i,_))=>.done .undef [(id,(g,some (.map ag (es.set i (q,ps)))))] [id]
     |some none=>.done .undef [(id,(g,some (.map ag (es++[(q,ps)]))))] [id]
     |none=>.fail
    else .fail
   |_,_=>.fail
  |_,_,_=>.fail
 | .extract x i=>match ev ak x with
  | .tup vs=>match vs[i]? with
   |some v=>.done v [] []
   |none=>.fail
  |_=>.fail
 | .call s f as=>match Fl ak f with
  |some (g,a,b)=>
   if shared g then .sc g (a.map .one++as.map (ev ak)++b.map .one)
   else match CI aj (a.map .one++as.map (ev ak)++b.map .one) with
    |some (vs,r)=>.pc g vs r s
    |none=>.fail
  |none=>.fail
 | .slen x=>match ev ak x with
  | .one (.p (.str s))=>.done (.one (.p (.int .i64 s.size))) [] []
  |_=>.fail
 | .KW x=>match zN (ev ak x) with
  |some n=>.done (.one (.p (.int .i64 n))) [] []
  |none=>.fail
 | .mlen x=>match rM aj (ev ak x) with
  |some (n,r)=>.done (.one (.p (.int .i64 n))) [] r
  |none=>.fail
 | .append s ty sz bytes d x=>au aj s ty sz bytes (ev ak d) (ev ak x)
 | .max x y=>match ev ak x,ev ak y with
  | .one (.p (.int k a)),.one (.p (.int _ b))=>.done (.one (.p (.int k (if b>a then b else a)))) [] []
  |_,_=>.fail
 | .min x y=>match ev ak x,ev ak y with
  | .one (.p (.int k a)),.one (.p (.int _ b))=>.done (.one (.p (.int k (if b<a then b else a)))) [] []
  |_,_=>.fail
 | .clear z x=>match ev ak x with
  | .one (.p .nils)=>.done (.tup []) [] []
  | .one (.p (.sl []))=>.done (.tup []) [] []
  | .one (.hsl id g _ off len)=>if len=0 then .done (.tup []) [] [] else match aj id with
   |(g',some (.arr ty sz es))=>if g'=g/\sz=z.length/\off+len<=es.length then .done (.tup []) [(id,(g,some (.arr ty sz (ft es off (List.replicate len z)))))] [id] else .fail
   |_=>.fail
  |_=>.fail
structure cM where
 rd:a_
 wr:a_
 fs:a_
abbrev i_:=List cM
structure Al where
 any:Bool
 ids:a_
 fs:a_
def Al.all:Al:=⟨true,[],[]⟩
def jH(id:Nat):Nat:=id/64000000
def Al.ok(a:Al)(id:Nat):Bool:=a.any||a.ids.contains id||a.fs.contains (jH id)
def Al.fT(a:Al)(l:a_):Bool:=l.all a.ok
def Al.holds(a b:Al):Bool:=a.any||(a.fT b.ids&&b.fs.all a.fs.contains)
structure Ctx where
 shared:Nat->Bool
 sites:Nat->a_
 lone:Nat->Bool
 al:Al
def j8(aj:aE):Nat->C->a_
 |0,_=>[]
 |n+1,c=>match c with
  | .p _=>[]
  | .bt id _ _=>id::match aj id with
   |(_,some (.var cs))=>(cs.map (j8 aj n)).flatten
   |_=>[]
  | .dy id _ _ _=>id::match aj id with
   |(_,some (.jg _ _ es))=>(es.flatten.map (j8 aj n)).flatten
   |_=>[]
  | .hsl id _ _ _ _=>id::match aj id with
   |(_,some (.jg _ _ es))=>(es.flatten.map (j8 aj n)).flatten
   |_=>[]
  | .kE id _=>[id]
  | .hfn _ a b=>(a.map (j8 aj n)).flatten++(b.map (j8 aj n)).flatten
def jy(aj:aE):V->a_
 | .one c=>j8 aj gZ c
 | .agg cs=>(cs.map (j8 aj gZ)).flatten
 |_=>[]
def allow(sh:Ctx)(f:Nat)(vs:e_)(aj:aE):Al:=⟨false,(vs.map (jy aj)).flatten,sh.sites f⟩
def put(ak:Env)(d:w_)(v:V):Env:=
 match d with
 |some t=>eH ak t v
 |none=>ak
abbrev gU:=Nat->e_->Option RV
abbrev kr:=Nat->e_->Al->aE->Option (V×aE)
def land(aj:aE)(rd:a_)(site:Nat)(r:RV):Option (V×k_):=
 if rd=[]\/r.alone then some (jY aj site r)
 else match tY aj rd with
  |some u=>some ((jY aj site r).1,u++(jY aj site r).2)
  |none=>none
def wanted(ak:Env):Option (Nat×Bool)->Option Bool
 |none=>some true
 |some (t,want)=>match ak t with
  | .one (.p (.bool b))=>some (b==want)
  | .undef=>some false
  |_=>none
def step1(sh:Ctx)(cp:gU)(cs:kr)(o:cq)(ak:Env)(aj:aE):Option (Env×aE×cM):=
 match wanted ak o.guard with
 |none=>none
 |some false=>some (put ak o.dst .undef,aj,⟨[],[],[]⟩)
 |some true=>match bU sh.shared ak aj o.op with
  | .fail=>none
  | .done v u r=>if sh.al.fT (r++u.map (·.1)) then some (put ak o.dst v,app u aj,⟨r,u.map (·.1),[]⟩) else none
  | .pc f vs r s=>match cp f vs with
   |some x=>match land aj r s (x.iu (sh.lone s)) with
    |some (v,u)=>if sh.al.fT (r++u.map (·.1)) then some (put ak o.dst v,app u aj,⟨r++u.map (·.1),u.map (·.1),[]⟩) else none
    |none=>none
   |none=>none
  | .sc f vs=>if sh.al.holds (allow sh f vs aj) then
    match cs f vs (allow sh f vs aj) aj with
    |some (v,ao)=>some (put ak o.dst v,ao,⟨(allow sh f vs aj).ids,(allow sh f vs aj).ids,(allow sh f vs aj).fs⟩)
    |none=>none
   else none
def steps(sh:Ctx)(cp:gU)(cs:kr):g_->Env->aE->Option (Env×aE×i_)
 |[],ak,aj=>some (ak,aj,[])
 |o::r,ak,aj=>match step1 sh cp cs o ak aj with
  |some (aH,ao,e)=>match steps sh cp cs r aH ao with
   |some (MP,Ji,es)=>some (MP,Ji,e::es)
   |none=>none
  |none=>none
def meets(a b:a_):Bool:=a.any fun i=>b.contains i
def HQ(fs ids:a_):Bool:=ids.any fun i=>fs.contains (jH i)
def GN(a b:cM):Bool:=meets a.wr b.rd||meets a.wr b.wr||meets a.rd b.wr||meets a.fs b.fs||HQ a.fs (b.rd++b.wr)||HQ b.fs (a.rd++a.wr)
def Uz(anc:Nat)(e:cM):Nat->i_->Bool
 |_,[]=>true
 |j,x::r=>(anc.testBit j|| !GN x e)&&Uz anc e (j+1) r
def ui:g_->i_->i_->Bool
 |o::os,past,e::es=>Uz o.anc e 0 past&&ui os (past++[e]) es
 |_,_,_=>true
inductive nG where
 |normal
 |exit (id:Nat)
 |ret
def iter(f:Env->aE->Option (nG×Env×aE)):Nat->Env->aE->Option (nG×Env×aE)
 |0,_,_=>none
 |n+1,ak,aj=>match f ak aj with
  |some (.normal,aH,ao)=>iter f n aH ao
  |r=>r
def exec(sh:Ctx)(cp:gU)(cs:kr)(n:Nat):aR->Env->aE->Option (nG×Env×aE)
 | .skip,ak,aj=>some (.normal,ak,aj)
 | .region d ops,ak,aj=>match steps sh cp cs ops ak aj with
  |some (aH,ao,es)=>if d then (if ui ops [] es then some (.normal,aH,ao) else none) else some (.normal,aH,ao)
  |none=>none
 | .seq a b,ak,aj=>match exec sh cp cs n a ak aj with
  |some (.normal,aH,ao)=>exec sh cp cs n b aH ao
  |r=>r
 | .cond x a b,ak,aj=>match ev ak x with
  | .one (.p (.bool t))=>if t then exec sh cp cs n a ak aj else exec sh cp cs n b ak aj
  |_=>none
 | .block id c,ak,aj=>match exec sh cp cs n c ak aj with
  |some (.exit i,aH,ao)=>if i=id then some (.normal,aH,ao) else some (.exit i,aH,ao)
  |r=>r
 | .loop c,ak,aj=>iter (exec sh cp cs n c) n ak aj
 | .exit id,ak,aj=>some (.exit id,ak,aj)
 | .ret,ak,aj=>some (.ret,ak,aj)
 | .bad,_,_=>none
def tA(args:e_):Env:=fun i=>args.getD i .undef
def Uy:V->Option V
 | .tup _=>none
 |v=>some v
def qt(al:Al)(ak:Env)(aj:aE):List (Nat×Option w_)->Option e_
 |[]=>some []
 |(t,none)::r=>match Uy (ak t),qt al ak aj r with
  |some v,some q=>some (v::q)
  |_,_=>none
 |(t,some k)::r=>match CB aj (ak t),qt al ak aj r with
  |some (cs,rd),some q=>if al.fT rd then (qZ k cs).map (· ::q) else none
  |_,_=>none
def Bo:e_->V
 |[v]=>v
 |vs=>.tup vs
def xe:aE:=fun _=>(0,none)
def sG(sh:Ctx)(cp:gU)(cs:kr)(n:Nat)(fn:bG)(args:e_)(aj:aE):Option (V×aE):=
 match exec sh cp cs n fn.body (tA args) aj with
 |some (.normal,ak,ao)=>(qt sh.al ak ao fn.results).map fun vs=>(Bo vs,ao)
 |some (.ret,ak,ao)=>(qt sh.al ak ao fn.results).map fun vs=>(Bo vs,ao)
 |_=>none
def F8(sh:Ctx)(cp:gU)(cs:kr)(n:Nat)(fn:bG)(args:e_):Option RV:=
 match sG sh cp cs n fn args xe with
 |some (v,aj)=>j6 aj v
 |none=>none
structure Sys where
 P:Program
 shared:Nat->Bool
 sites:Nat->a_
 lone:Nat->Bool
 fns:Nat->Option bG
 prim:Nat->e_->Option (Option RV)
 trig:Nat->e_->Bool:=fun _ _=>false
 primS:Nat->e_->Al->aE->Option (V×k_):=fun _ _ _ _=>none
def Sys.ctx(S:Sys)(a:Al):Ctx:=⟨S.shared,S.sites,S.lone,a⟩
mutual
def ij(S:Sys):Nat->gU
 |0,_,_=>none
 |n+1,f,args=>match S.prim f args with
  |some r=>r
  |none=>match S.fns f with
   |some fn=>if args.length<=fn.ntmps then F8 (S.ctx .all) (ij S n) (ik S n) n fn args else none
   |none=>none
def ik(S:Sys):Nat->kr
 |0,_,_,_,_=>none
 |n+1,f,args,al,aj=>if S.trig f args=true then (S.primS f args al aj).map (fun r=>(r.1,app r.2 aj)) else match S.fns f with
  |some fn=>if args.length<=fn.ntmps then sG (S.ctx al) (ij S n) (ik S n) n fn args aj else none
  |none=>none
end
def aO(S:Sys)(f:Nat)(args:e_)(r:RV):Prop:= ∃n,ij S n f args=some r
def jd(S:Sys)(f:Nat)(args:e_)(al:Al)(aj:aE)(v:V)(ao:aE):Prop:= ∃n,ik S n f args al aj=some (v,ao)
abbrev eK:=nG->Env->aE->Prop
def W (S:Sys)(al:Al)(c:aR)(Q:eK)(ak:Env)(aj:aE):Prop:=∃n e aH ao,exec (S.ctx al) (ij S n) (ik S n) n c ak aj=some (e,aH,ao)/\Q e aH ao
def WO (S:Sys)(al:Al)(ops:g_)(Q:Env->aE->i_->Prop)(ak:Env)(aj:aE)(tr:i_):Prop:=∃n aH ao es,steps (S.ctx al) (ij S n) (ik S n) ops ak aj=some (aH,ao,es)/\Q aH ao (tr++es)
end Go.Abs
namespace Go.Abs
section
variable{m:Nat}
def PLe(a b:gU):Prop:=∀f x r,a f x=some r->b f x=some r
def SLe(a b:kr):Prop:=∀f x l k r,a f x l k=some r->b f x l k=some r
section
variable {sh:Ctx} {cp mF:gU} {cs Ff:kr} (hp:PLe cp mF) (hs:SLe cs Ff)
include hp hs
theorem ah6{o:cq}{ak:Env}{aj:aE}{r:Env×aE×cM}(h:step1 sh cp cs o ak aj=some r):step1 sh mF Ff o ak aj=some r:=by
 unfold step1 at h |-;cases hw:wanted ak o.guard with
 |none=>simp[hw] at h
 |some b=>
  cases b with
  |false=>simpa [hw] using h
  |true=>
   simp only[hw] at h |-;cases bd:bU sh.shared ak aj o.op with
   |fail=>simp[bd] at h
   |done v u rd=>simpa [bd] using h
   |pc f vs rd s=>
    simp only[bd] at h |-;cases hc:cp f vs with
    |none=>simp[hc] at h
    |some x=>rw[hp _ _ _ hc];simpa [hc] using h
   |sc f vs=>
    simp only[bd] at h |-;split at h
    .rename_i ha;rw[aG ha];cases hc:cs f vs (allow sh f vs aj) aj with
     |none=>simp[hc] at h
     |some x=>rw[hs _ _ _ _ _ hc];simpa [hc] using h
    cases h
theorem aia:∀ {ops:g_} {ak:Env} {aj:aE} {r:Env×aE×i_},steps sh cp cs ops ak aj=some r->steps sh mF Ff ops ak aj=some r:=by
 intro ops
 induction ops with
 |nil=>intro ak aj r h;simpa [steps] using h
 |cons o os ih=>
  intro ak aj r h;simp only[steps] at h |-;cases h1:step1 sh cp cs o ak aj with
  |none=>simp[h1] at h
  |some x=>
   obtain⟨e1,b1,f1⟩:=x;rw[ah6 hp hs h1];simp only[h1] at h |-;cases h2:steps sh cp cs os e1 b1 with
   |none=>simp[h2] at h
   |some y=>rw[ih h2];simpa [h2] using h
omit hp hs in
theorem aeA{f g:Env->aE->Option (nG×Env×aE)}(Ht:∀e b r,f e b=some r->g e b=some r):
  ∀ {n m:Nat} {ak:Env} {aj:aE} {r:nG×Env×aE},n<=m->iter f n ak aj=some r->iter g m ak aj=some r:=by
 intro n
 induction n with
 |zero=>intro m ak aj r _ h;simp[iter] at h
 |succ n ih=>
  intro m ak aj r hm h;obtain⟨m,rfl⟩:∃k,m=k+1:=⟨m-1,aa⟩;simp only[iter] at h |-;cases hf:f ak aj with
  |none=>simp[hf] at h
  |some x=>
   obtain⟨e,e1,b1⟩:=x;rw[Ht _ _ _ hf];cases e with
   |normal=>simp only[hf] at h |-;exact ih aa h
   |exit i=>simpa [hf] using h
   |ret=>simpa [hf] using h
theorem acz{n:Nat}(Ou:n<=m):∀ {c:aR} {ak:Env} {aj:aE} {r:nG×Env×aE},exec sh cp cs n c ak aj=some r->exec sh mF Ff m c ak aj=some r:=by
 intro c
 induction c with
 |skip=>intro ak aj r h;simpa [exec] using h
 |region d ops=>
  intro ak aj r h;simp only[exec] at h |-;cases h1:steps sh cp cs ops ak aj with
  |none=>simp[h1] at h
  |some x=>rw[aia hp hs h1];simpa [h1] using h
 |seq a b iha ihb=>
  intro ak aj r h;simp only[exec] at h |-;cases h1:exec sh cp cs n a ak aj with
  |none=>simp[h1] at h
  |some x=>
   obtain⟨e,e1,b1⟩:=x;rw[iha h1];cases e with
   |normal=>simp only[h1] at h |-;exact ihb h
   |exit i=>simpa [h1] using h
   |ret=>simpa [h1] using h
 |cond x a b iha ihb=>
  intro ak aj r h;simp only[exec] at h |-;split at h
  .split at h
   .rename_i ht;simp only[ht,if_true];exact iha h
   rename_i ht;simp only[ht];exact ihb h
  cases h
 |block id c ih=>
  intro ak aj r h;simp only[exec] at h |-;cases h1:exec sh cp cs n c ak aj with
  |none=>simp[h1] at h
  |some x=>rw[ih h1];simpa [h1] using h
 |loop c ih=>intro ak aj r h;simp only[exec] at h |-;exact aeA (fun _ _ _ h=>ih h) Ou h
 |exit id=>intro ak aj r h;simpa [exec] using h
 |ret=>intro ak aj r h;simpa [exec] using h
 |bad=>intro ak aj r h;simp[exec] at h
theorem U4{n:Nat}(Ou:n<=m){fn:bG}{args:e_}{aj:aE}{r:V×aE}(h:sG sh cp cs n fn args aj=some r):sG sh mF Ff m fn args aj=some r:=by
 unfold sG at h |-;cases h1:exec sh cp cs n fn.body (tA args) aj with
 |none=>simp[h1] at h
 |some x=>rw[acz hp hs Ou h1];simpa [h1] using h
theorem aho{n:Nat}(Ou:n<=m){fn:bG}{args:e_}{r:RV}(h:F8 sh cp cs n fn args=some r):F8 sh mF Ff m fn args=some r:=by
 unfold F8 at h |-;cases h1:sG sh cp cs n fn args xe with
 |none=>simp[h1] at h
 |some x=>rw[U4 hp hs Ou h1];simpa [h1] using h
end
theorem abf(S:Sys):∀n,PLe (ij S n) (ij S (n+1))/\SLe (ik S n) (ik S (n+1)):=by
 intro n
 induction n with
 |zero=>exact⟨fun f x r h=>by simp[ij] at h,fun f x l k r h=>by simp[ik] at h⟩
 |succ n ih=>
  refine⟨fun f x r h=>?_,fun f x l k r h=>?_⟩
  .rw[ij] at h |-;cases hp:S.prim f x with
   |some r'=>simpa [hp] using h
   |none=>
    simp only[hp] at h |-;cases hf:S.fns f with
    |none=>simp[hf] at h
    |some fn=>
     simp only[hf] at h |-;split at h
     .rename_i hl;rw[aG hl];exact aho ih.1 ih.2 aa h
     cases h
  rw[ik] at h |-;by_cases ht:S.trig f x=true
  .rw[aG ht] at h |-;exact h
  rw[aC ht] at h |-;cases hf:S.fns f with
  |none=>simp[hf] at h
  |some fn=>
   simp only[hf] at h |-;split at h
   .rename_i hl;rw[aG hl];exact U4 ih.1 ih.2 aa h
   cases h
theorem EZ(S:Sys){n:Nat}(h:n<=m):PLe (ij S n) (ij S m):=by
 induction h with
 |refl=>exact fun _ _ _ h=>h
 |step _ ih=>exact fun f x r hr=>(abf S _).1 f x r (ih f x r hr)
theorem Mt(S:Sys){n:Nat}(h:n<=m):SLe (ik S n) (ik S m):=by
 induction h with
 |refl=>exact fun _ _ _ _ _ h=>h
 |step _ ih=>exact fun f x l k r hr=>(abf S _).2 f x l k r (ih f x l k r hr)
theorem aO.AL{S:Sys}{f:Nat}{args:e_}{r r':RV}(h:aO S f args r)(h':aO S f args r'):r=r':=by obtain⟨n,hn⟩:=h;obtain⟨m,hm⟩:=h';have a:=EZ S (IM n m) _ _ _ hn;have b:=EZ S (L9 n m) _ _ _ hm;rw[a] at b;exact pz b
theorem G0(S:Sys){al:Al}{n:Nat}(h:n<=m){c:aR}{ak:Env}{aj:aE}{r:nG×Env×aE}(hr:exec (S.ctx al) (ij S n) (ik S n) n c ak aj=some r):
  exec (S.ctx al) (ij S m) (ik S m) m c ak aj=some r:=acz (EZ S h) (Mt S h) h hr
theorem auz(S:Sys){al:Al}{n:Nat}(h:n<=m){ops:g_}{ak:Env}{aj:aE}{r:Env×aE×i_}(hr:steps (S.ctx al) (ij S n) (ik S n) ops ak aj=some r):
  steps (S.ctx al) (ij S m) (ik S m) ops ak aj=some r:=aia (EZ S h) (Mt S h) hr
variable {S:Sys} {al:Al} {Q:eK} {ak:Env} {aj:aE}
theorem W.mono{c:aR}{Q':eK}(h:W S al c Q ak aj)(hq:∀e ak aj,Q e ak aj->Q' e ak aj):W S al c Q' ak aj:=by obtain⟨n,e,aH,ao,h1,h2⟩:=h;exact⟨n,e,aH,ao,h1,hq _ _ _ h2⟩
theorem ajk(h:Q .normal ak aj):W S al .skip Q ak aj:=⟨0,_,_,_,rfl,h⟩
theorem ajd{id:Nat}(h:Q (.exit id) ak aj):W S al (.exit id) Q ak aj:=⟨0,_,_,_,rfl,h⟩
theorem ajg(h:Q .ret ak aj):W S al .ret Q ak aj:=⟨0,_,_,_,rfl,h⟩
def Pr(next:Env->aE->Prop)(Q:eK):eK
 | .normal,ak,aj=>next ak aj
 |e,ak,aj=>Q e ak aj
theorem ajh{a b:aR}(h:W S al a (Pr (W S al b Q) Q) ak aj):W S al (.seq a b) Q ak aj:=by
 obtain⟨n,e,aH,ao,h1,h2⟩:=h;cases e with
 |normal=>obtain⟨m,e,dE,bN,h3,h4⟩:=h2;refine⟨max n m,e,dE,bN,?_,h4⟩;simp only[exec];rw[G0 S (IM n m) h1];exact G0 S (L9 n m) h3
 |exit i=>exact⟨n,_,_,_,by simp[exec,h1],h2⟩
 |ret=>exact⟨n,_,_,_,by simp[exec,h1],h2⟩
theorem aja{x:aX}{a b:aR}{t:Bool}(hx:ev ak x=.one (.p (.bool t)))(h:if t=true then W S al a Q ak aj else W S al b Q ak aj):W S al (.cond x a b) Q ak aj:=by
 cases t with
 |true=>obtain⟨n,e,aH,ao,h1,h2⟩:=h;exact⟨n,e,aH,ao,by simp[exec,hx,h1],h2⟩
 |false=>obtain⟨n,e,aH,ao,h1,h2⟩:=(by simpa using h:W S al b Q ak aj);exact⟨n,e,aH,ao,by simp[exec,hx,h1],h2⟩
def rV(id:Nat)(Q:eK):eK
 | .exit i,ak,aj=>if i=id then Q .normal ak aj else Q (.exit i) ak aj
 |e,ak,aj=>Q e ak aj
theorem ai9{id:Nat}{c:aR}(h:W S al c (rV id Q) ak aj):W S al (.block id c) Q ak aj:=by
 obtain⟨n,e,aH,ao,h1,h2⟩:=h;cases e with
 |normal=>exact⟨n,_,_,_,by simp[exec,h1],h2⟩
 |ret=>exact⟨n,_,_,_,by simp[exec,h1],h2⟩
 |exit i=>
  simp only[rV] at h2;by_cases hi:i=id
  .simp only[hi,if_true] at h2;exact⟨n,_,_,_,by simp[exec,h1,hi],h2⟩
  simp only[hi,if_false] at h2;exact⟨n,_,_,_,by simp[exec,h1,hi],h2⟩
theorem Yt(S:Sys){c:aR}{n k l:Nat}(h:n<=m)(hk:k<=l){r:nG×Env×aE}(hr:iter (exec (S.ctx al) (ij S n) (ik S n) n c) k ak aj=some r):
  iter (exec (S.ctx al) (ij S m) (ik S m) m c) l ak aj=some r:=aeA (fun _ _ _ h'=>G0 S h h') hk hr
theorem aje{c:aR}(I:Nat->Env->aE->Prop)(k0 N:Nat)(hk:k0<=N)(h0:I k0 ak aj)
  (round:∀k ak aj,k<=N->I k ak aj->W S al c (Pr (fun aH ao=>k<N/\I (k+1) aH ao) Q) ak aj):W S al (.loop c) Q ak aj:=by
 have key:∀j k ak aj,k+j=N->I k ak aj->∃n l e aH ao,iter (exec (S.ctx al) (ij S n) (ik S n) n c) l ak aj=some (e,aH,ao)/\Q e aH ao:=by
  intro j
  induction j with
  |zero=>
   intro k ak aj Hz hI;obtain⟨n,e,iR,cZ,h1,h2⟩:=round k ak aj aa hI;cases e with
   |normal=>obtain⟨aB,_⟩:=h2;omega
   |exit i=>exact⟨n,1,_,_,_,by simp[iter,h1],h2⟩
   |ret=>exact⟨n,1,_,_,_,by simp[iter,h1],h2⟩
  |succ j ih=>
   intro k ak aj Hz hI;obtain⟨n,e,iR,cZ,h1,h2⟩:=round k ak aj aa hI;cases e with
   |normal=>obtain⟨_,hI1⟩:=h2;obtain⟨m,l,e,dE,bN,h3,h4⟩:=ih (k+1) iR cZ aa hI1;refine⟨max n m,l+1,e,dE,bN,?_,h4⟩;simp only[iter];rw[G0 S (IM n m) h1];exact Yt S (L9 n m) (cD _) h3
   |exit i=>exact⟨n,1,_,_,_,by simp[iter,h1],h2⟩
   |ret=>exact⟨n,1,_,_,_,by simp[iter,h1],h2⟩
 obtain⟨n,l,e,aH,ao,h1,h2⟩:=key (N-k0) k0 ak aj aa h0;refine⟨max n l,e,aH,ao,?_,h2⟩;simp only[exec];exact Yt S (IM n l) (L9 n l) h1
theorem ajf{d:Bool}{ops:g_}(h:WO S al ops (fun ak aj es=>(d=true->ui ops [] es=true)/\Q .normal ak aj) ak aj []):W S al (.region d ops) Q ak aj:=by
 obtain⟨n,aH,ao,es,h1,h2,h3⟩:=h;refine⟨n,.normal,aH,ao,?_,h3⟩;simp only[exec,h1];cases d with
 |false=>simp
 |true=>simpa using h2
theorem ai7{R:Env->aE->i_->Prop}{tr:i_}(h:R ak aj tr):WO S al [] R ak aj tr:=⟨0,ak,aj,[],rfl,by simpa using h⟩
theorem PQ{o:cq}{os:g_}{R:Env->aE->i_->Prop}{tr:i_}{n:Nat}{iR:Env}{cZ:aE}{e:cM}
  (h1:step1 (S.ctx al) (ij S n) (ik S n) o ak aj=some (iR,cZ,e)) (h:WO S al os R iR cZ (tr++[e])):WO S al (o::os) R ak aj tr:=by
 obtain⟨m,aH,ao,es,h2,h3⟩:=h;refine⟨max n m,aH,ao,e::es,?_,by simpa using h3⟩;simp only[steps];rw[ah6 (EZ S (IM n m)) (Mt S (IM n m)) h1];simp[auz S (L9 n m) h2]
def Hf(S:Sys)(al:Al)(p:fP)(d:w_)(ak:Env)(aj:aE)(tr:i_)(K:Env->aE->i_->Prop):Prop:=
 match p with
 | .fail=>False
 | .done v u r=>al.fT (r++u.map (·.1))=true/\K (put ak d v) (app u aj) (tr++[⟨r,u.map (·.1),[]⟩])
 | .pc f vs r s=>∃x,aO S f vs x/\match land aj r s (x.iu (S.lone s)) with
  |some (v,u)=>al.fT (r++u.map (·.1))=true/\K (put ak d v) (app u aj) (tr++[⟨r++u.map (·.1),u.map (·.1),[]⟩])
  |none=>False
 | .sc f vs=>al.holds (allow (S.ctx al) f vs aj)=true/\ ∃v ao,jd S f vs (allow (S.ctx al) f vs aj) aj v ao/\
   K (put ak d v) ao (tr++[⟨(allow (S.ctx al) f vs aj).ids,(allow (S.ctx al) f vs aj).ids,(allow (S.ctx al) f vs aj).fs⟩])
def Fs(S:Sys)(al:Al)(w:Option Bool)(o:cq)(ak:Env)(aj:aE)(tr:i_)(K:Env->aE->i_->Prop):Prop:=
 match w with
 |none=>False
 |some false=>K (put ak o.dst .undef) aj (tr++[⟨[],[],[]⟩])
 |some true=>Hf S al (bU S.shared ak aj o.op) o.dst ak aj tr K
@[simp] theorem Al.Gz (l:a_):Al.all.fT l=true:=by simp[Al.fT,Al.ok,Al.all]
@[simp] theorem Al.avI (b:Al):Al.all.holds b=true:=rfl
theorem ai8{o:cq}{os:g_}{R:Env->aE->i_->Prop}{tr:i_}
  (h:Fs S al (wanted ak o.guard) o ak aj tr (WO S al os R)):WO S al (o::os) R ak aj tr:=by
 cases hw:wanted ak o.guard with
 |none=>simp[hw,Fs] at h
 |some b=>
  cases b with
  |false=>rw[hw] at h;exact PQ (n:=0) (by simp[step1,hw]) h
  |true=>
   rw[hw] at h;simp only[Fs] at h;have jw:(S.ctx al).shared=S.shared:=rfl;have iC:(S.ctx al).al=al:=rfl;have fM:(S.ctx al).lone=S.lone:=rfl;cases bd:bU S.shared ak aj o.op with
   |fail=>simp[bd,Hf] at h
   |done v u r=>rw[bd] at h;obtain⟨h1,h⟩:=h;exact PQ (n:=0) (by simp only[step1,hw,jw,iC,bd,h1,if_true]) h
   |pc f vs r s=>
    rw[bd] at h;obtain⟨x,⟨n,hx⟩,h⟩:=h;cases hl:land aj r s (x.iu (S.lone s)) with
    |none=>simp[hl] at h
    |some y=>obtain⟨v,u⟩:=y;simp only[hl] at h;obtain⟨h1,h⟩:=h;exact PQ (n:=n) (by simp only[step1,hw,jw,iC,fM,bd,hx,hl,h1,if_true]) h
   |sc f vs=>rw[bd] at h;obtain⟨h1,v,ao,⟨n,hx⟩,h⟩:=h;exact PQ (n:=n) (by simp only[step1,hw,jw,iC,bd,h1,if_true,hx]) h
end
end Go.Abs
namespace Go.Abs
variable {S:Sys} {al:Al}
def tW(al:Al)(res:List (Nat×Option w_))(R:V->aE->Prop):eK
 | .exit _,_,_=>False
 |_,ak,aj=>match qt al ak aj res with
  |some vs=>R (Bo vs) aj
  |none=>False
theorem VS{fn:bG}{args:e_}{aj:aE}{R:V->aE->Prop}(h:W S al fn.body (tW al fn.results R) (tA args) aj):
  ∃n v ao,sG (S.ctx al) (ij S n) (ik S n) n fn args aj=some (v,ao)/\R v ao:=by
 obtain⟨n,e,aH,ao,h1,h2⟩:=h;refine⟨n,?_⟩;unfold sG;rw[h1];cases e with
 |exit i=>exact h2.elim
 |normal=>
  simp only[tW] at h2;split at h2
  .rename_i vs hv;exact⟨_,_,by simp only[show(S.ctx al).al=al from rfl,hv,nE],h2⟩
  exact h2.elim
 |ret=>
  simp only[tW] at h2;split at h2
  .rename_i vs hv;exact⟨_,_,by simp only[show(S.ctx al).al=al from rfl,hv,nE],h2⟩
  exact h2.elim
theorem ai0{f:Nat}{fn:bG}{args:e_}{r:RV}(hp:S.prim f args=none)(hf:S.fns f=some fn)(hl:args.length<=fn.ntmps)
  (h:W S .all fn.body (tW .all fn.results fun v aj=>j6 aj v=some r) (tA args) xe):aO S f args r:=by
 obtain⟨n,v,ao,h1,h2⟩:=VS h;refine⟨n+1,?_⟩;rw[ij];simp only[hp,hf,hl,if_true];unfold F8;rw[h1];exact h2
theorem nH{f:Nat}{fn:bG}{args:e_}{aj:aE}{R:V->aE->Prop}(hf:S.fns f=some fn)(hl:args.length<=fn.ntmps)
  (h:W S al fn.body (tW al fn.results R) (tA args) aj) (ht:S.trig f args=false:=by rfl):∃v ao,jd S f args al aj v ao/\R v ao:=by
 obtain⟨n,v,ao,h1,h2⟩:=VS h;refine⟨v,ao,⟨n+1,?_⟩,h2⟩;rw[ik];simp only[ht,dR,if_false,hf,hl,if_true];exact h1
end Go.Abs
namespace Go.Abs
variable {S:Sys} {al:Al} {Q:eK} {ak:Env} {aj:aE}
theorem aaB:W S al .skip Q ak aj↔Q .normal ak aj:=⟨fun⟨_,_,_,_,h,q⟩=>by simp[exec] at h;obtain⟨rfl,rfl,rfl⟩:=h;exact q,ajk⟩
theorem aay{id:Nat}:W S al (.exit id) Q ak aj↔Q (.exit id) ak aj:=⟨fun⟨_,_,_,_,h,q⟩=>by simp[exec] at h;obtain⟨rfl,rfl,rfl⟩:=h;exact q,ajd⟩
theorem aaA:W S al .ret Q ak aj↔Q .ret ak aj:=⟨fun⟨_,_,_,_,h,q⟩=>by simp[exec] at h;obtain⟨rfl,rfl,rfl⟩:=h;exact q,ajg⟩
theorem aji{a b:aR}:W S al (.seq a b) Q ak aj↔W S al a (Pr (W S al b Q) Q) ak aj:=by
 refine⟨?_,ajh⟩;rintro ⟨n,e,aH,ao,h,q⟩
 simp only[exec] at h;cases h1:exec (S.ctx al) (ij S n) (ik S n) n a ak aj with
 |none=>simp[h1] at h
 |some x=>
  obtain⟨e1,iR,cZ⟩:=x;refine⟨n,e1,iR,cZ,h1,?_⟩;cases e1 with
  |normal=>simp only[h1] at h;exact⟨n,e,aH,ao,h,q⟩
  |exit i=>simp[h1] at h;obtain⟨rfl,rfl,rfl⟩:=h;exact q
  |ret=>simp[h1] at h;obtain⟨rfl,rfl,rfl⟩:=h;exact q
def Jr(v:V)(A B:Prop):Prop:=
 match v with
 | .one (.p (.bool t))=>if t=true then A else B
 |_=>False
theorem ajb{x:aX}{a b:aR}:W S al (.cond x a b) Q ak aj↔Jr (ev ak x) (W S al a Q ak aj) (W S al b Q ak aj):=by
 constructor
 .rintro ⟨n,e,aH,ao,h,q⟩
  simp only[exec] at h;split at h
  .rename_i t ht;rw[ht];simp only[Jr];cases t with
   |true=>exact⟨n,e,aH,ao,by simpa using h,q⟩
   |false=>exact⟨n,e,aH,ao,by simpa using h,q⟩
  cases h
 intro h;unfold Jr at h;split at h
 .rename_i t ht;exact aja ht h
 exact h.elim
theorem aax{id:Nat}{c:aR}:W S al (.block id c) Q ak aj↔W S al c (rV id Q) ak aj:=by
 refine⟨?_,ai9⟩;rintro ⟨n,e,aH,ao,h,q⟩
 simp only[exec] at h;cases h1:exec (S.ctx al) (ij S n) (ik S n) n c ak aj with
 |none=>simp[h1] at h
 |some x=>
  obtain⟨e1,iR,cZ⟩:=x;refine⟨n,e1,iR,cZ,h1,?_⟩;cases e1 with
  |normal=>simp[h1] at h;obtain⟨rfl,rfl,rfl⟩:=h;exact q
  |ret=>simp[h1] at h;obtain⟨rfl,rfl,rfl⟩:=h;exact q
  |exit i=>
   simp only[h1] at h;simp only[rV];split at h
   .rename_i hi;simp at h;obtain⟨rfl,rfl,rfl⟩:=h;rw[aG hi];exact q
   rename_i hi;simp at h;obtain⟨rfl,rfl,rfl⟩:=h;rw[aC hi];exact q
theorem VR{R:Env->aE->i_->Prop}{tr:i_}:WO S al [] R ak aj tr↔R ak aj tr:=by
 refine⟨?_,ai7⟩;rintro ⟨n,aH,ao,es,h,q⟩
 simp[steps] at h;obtain⟨rfl,rfl,rfl⟩:=h
 simpa using q
theorem PS{o:cq}{os:g_}{R:Env->aE->i_->Prop}{tr:i_}:
  WO S al (o::os) R ak aj tr↔Fs S al (wanted ak o.guard) o ak aj tr (WO S al os R):=by
 refine⟨?_,ai8⟩;rintro ⟨n,aH,ao,es,h,q⟩
 simp only[steps] at h;cases h1:step1 (S.ctx al) (ij S n) (ik S n) o ak aj with
 |none=>simp[h1] at h
 |some x=>
  obtain⟨iR,cZ,e⟩:=x;simp only[h1] at h;cases h2:steps (S.ctx al) (ij S n) (ik S n) os iR cZ with
  |none=>simp[h2] at h
  |some y=>
   obtain⟨dE,bN,es2⟩:=y;simp[h2] at h;obtain⟨rfl,rfl,rfl⟩:=h;have hk:WO S al os R iR cZ (tr++[e]):=⟨n,_,_,es2,h2,by simpa using q⟩;unfold step1 at h1;cases hw:wanted ak o.guard with
   |none=>simp[hw] at h1
   |some b=>
    cases b with
    |false=>simp[hw] at h1;obtain⟨rfl,rfl,rfl⟩:=h1;exact hk
    |true=>
     simp only[hw] at h1;simp only[Fs];have jw:(S.ctx al).shared=S.shared:=rfl;have iC:(S.ctx al).al=al:=rfl;have fM:(S.ctx al).lone=S.lone:=rfl;simp only[jw,iC,fM] at h1;cases bd:bU S.shared ak aj o.op with
     |fail=>simp[bd] at h1
     |done v u r=>
      simp only[bd] at h1;split at h1
      .rename_i ay;cases h1;exact⟨ay,hk⟩
      cases h1
     |pc f vs r s=>
      simp only[bd] at h1;cases hc:ij S n f vs with
      |none=>simp[hc] at h1
      |some x=>
       simp only[hc] at h1;refine⟨x,⟨n,hc⟩,?_⟩;cases hl:land aj r s (x.iu (S.lone s)) with
       |none=>simp[hl] at h1
       |some y=>
        obtain⟨v,u⟩:=y;simp only[hl] at h1;split at h1
        .rename_i ay;cases h1;exact⟨ay,hk⟩
        cases h1
     |sc f vs=>
      simp only[bd] at h1;split at h1
      .rename_i ay;cases hc:ik S n f vs (allow (S.ctx al) f vs aj) aj with
       |none=>simp[hc] at h1
       |some x=>obtain⟨v,b⟩:=x;simp only[hc] at h1;cases h1;exact⟨ay,v,_,⟨n,hc⟩,hk⟩
      cases h1
theorem aaz{d:Bool}{ops:g_}:W S al (.region d ops) Q ak aj↔WO S al ops (fun ak aj es=>(d=true->ui ops [] es=true)/\Q .normal ak aj) ak aj []:=by
 refine⟨?_,ajf⟩;rintro ⟨n,e,aH,ao,h,q⟩
 simp only[exec] at h;cases h1:steps (S.ctx al) (ij S n) (ik S n) ops ak aj with
 |none=>simp[h1] at h
 |some x=>
  obtain⟨iR,cZ,es⟩:=x;simp only[h1] at h;cases d with
  |false=>simp at h;obtain⟨rfl,rfl,rfl⟩:=h;exact⟨n,_,_,es,h1,af,q⟩
  |true=>simp at h;obtain⟨hd,rfl,rfl,rfl⟩:=h;exact⟨n,_,_,es,h1,fun _=>by simpa using hd,q⟩
end Go.Abs
namespace Go.Abs
inductive cN (w:World) (own:Nat->Prop):PV->Value->Prop where
 |bool (b:Bool):cN w own (.bool b) (.bool b)
 |int (k:IntKind) (n:Int):cN w own (.int k n) (.int k n)
 |str (s:ByteArray):cN w own (.str s) (.string s)
 |vK:cN w own .vK (.pointer none)
 |nils:cN w own .nils (.slice none 0 0)
 |sA:cN w own .sA (.map none)
 |zR:cN w own .zR .nilFunc
 |nili:cN w own .nili .nilIface
 |ifc (d:TypeId) (x:Value):cN w own .ifc (.iface d x)
 |zs (a:Option Addr):cN w own .zs (.slice a 0 0)
 |box {cs:b_} (b o:Nat) (f:Nat->Value) (ho:cs≠[]-> ¬own b)
   (hc:∀(j:Nat) (x:PV),cs[j]?=some x->w.cell? ⟨b,o+j,none⟩=some (f j))
   (hr:∀(j:Nat) (x:PV),cs[j]?=some x->cN w own x (f j)):cN w own (.box cs) (.pointer (some ⟨b,o,none⟩))
 |zZ (a:Option Addr) (cap:Nat) (hn:a=none->cap=0) (hm:cap<=maxLen):cN w own (.sl []) (.slice a 0 cap)
 |sl {es:s_} (b o cap sz:Nat) (f:Nat->Value) (ho:es.flatten≠[]-> ¬own b) (hl:es.length<=cap) (hm:cap<=maxLen) (cT:∀e∈es,e.length=sz)
   (hc:∀(j:Nat) (x:PV),es.flatten[j]?=some x->w.cell? ⟨b,o+j,none⟩=some (f j))
   (hr:∀(j:Nat) (x:PV),es.flatten[j]?=some x->cN w own x (f j)):cN w own (.sl es) (.slice (some ⟨b,o,none⟩) es.length cap)
 |mp {ag:Bool} {es:t_} (r:Nat) (ents:Array MapEntry) (clock:Nat) (g:Nat->Array Value) (ho:¬own r) (hb:w.heap[r]?=some (.map ents clock)) (hl:ents.size=es.length)
   (hk:∀(i:Nat) (q:PV) (v:b_) (e:MapEntry),es[i]?=some (q,v)->ents[i]?=some e->cN w own q e.key)
   (hv:∀(i:Nat) (q:PV) (v:b_) (e:MapEntry),es[i]?=some (q,v)->ents[i]?=some e->(g i).size=v.length/\(ag=true->e.val=.agg (g i))/\(ag=false-> #[e.val]=g i))
   (hr:∀(i:Nat) (q:PV) (v:b_) (j:Nat) (x:PV) (u:Value),es[i]?=some (q,v)->v[j]?=some x->(g i)[j]?=some u->cN w own x u):cN w own (.mp ag es) (.map (some r))
 |fn {f:Nat} {a b:b_} (A B:Array Value) (ha:A.size=a.length) (hb:B.size=b.length)
   (wT:∀(j:Nat) (x:PV) (u:Value),a[j]?=some x->A[j]?=some u->cN w own x u)
   (r8:∀(j:Nat) (x:PV) (u:Value),b[j]?=some x->B[j]?=some u->cN w own x u):cN w own (.fn f a b) (.func (.func f) A B)
theorem cN.O6{w:World}{own:Nat->Prop}{x:PV}{v:Value}(h:cN w own x v):v.oneCell'=true:=by cases h<;>rfl
theorem cN.cells{w:World}{own:Nat->Prop}{x:PV}{v:Value}(h:cN w own x v):v.cells= #[v]:=by cases h<;>rfl
theorem abi{w:World}{b o:Nat}{v:Value}(h:w.cell? ⟨b,o,none⟩=some v):b<w.heap.size:=World.block_lt_of_cell? w ⟨b,o,none⟩ h
theorem wL{w:World}{b:Nat}{o:Obj}(h:w.heap[b]?=some o):b<w.heap.size:=(Array.getElem?_eq_some_iff.1 h).1
theorem cN.mono{w w':World}{own Bj:Nat->Prop}(hk:∀c,c<w.heap.size-> ¬own c->w'.heap[c]?=w.heap[c]? /\ ¬Bj c){x:PV}{v:Value}
  (h:cN w own x v):cN w' Bj x v:=by
 induction h with
 |bool b=>exact .bool b
 |int k n=>exact .int k n
 |str s=>exact .str s
 |vK=>exact .vK
 |nils=>exact .nils
 |sA=>exact .sA
 |zR=>exact .zR
 |nili=>exact .nili
 |ifc d x=>exact .ifc d x
 |zs a=>exact .zs a
 | @box cs b o f ho hc _ ih=>
  cases cs with
  |nil=>exact .box b o f (fun h=>(h rfl).elim) (fun j x h=>by simp at h) (fun j x h=>by simp at h)
  |cons c r=>have hb:=abi (hc 0 c rfl);have hn:=ho af;refine .box b o f (fun _=>(hk b hb hn).2) (fun j x h=>?_) ih;rw[World.cell?_of_block (hk b hb hn).1];exact hc j x h
 |zZ a cap hn hm=>exact .zZ a cap hn hm
 | @sl es b o cap sz f ho hl hm cT hc _ ih=>
  cases hf:es.flatten with
  |nil=>exact .sl b o cap sz f (fun h=>(h hf).elim) hl hm cT (fun j x h=>by simp[hf] at h) (fun j x h=>by simp[hf] at h)
  |cons c r=>have hb:=abi (hc 0 c (by simp[hf]));have hn:=ho (by simp[hf]);refine .sl b o cap sz f (fun _=>(hk b hb hn).2) hl hm cT (fun j x h=>?_) ih;rw[World.cell?_of_block (hk b hb hn).1];exact hc j x h
 | @mp ag es r ents clock g ho hb hl _ hv _ ihk ihr=>exact .mp r ents clock g (hk r (wL hb) ho).2 ((hk r (wL hb) ho).1.trans hb) hl ihk hv ihr
 |fn A B ha hb _ _ iha ihb=>exact .fn A B ha hb iha ihb
structure Mem where
 w:World
 aj:aE
 σ:Nat->Nat
 κ:Nat->Nat
 fr:Nat->Prop
def Ob.gh:Ob->Bool
 | .var _| .arr _ _ _| .jg _ _ _| .map _ _=>true
 |_=>false
def lO:Nat×Option Ob->w_
 |(_,some (.arr _ sz _))=>some sz
 |(_,some (.jg _ sz _))=>some sz
 |(_,some (.qF _ sz _))=>some sz
 |_=>none
def Mem.gh(m:Mem)(c:Nat):Prop:= ∃id o,(m.aj id).2=some o/\o.gh=true/\m.σ id=c
def Mem.own(m:Mem)(c:Nat):Prop:=m.fr c\/m.gh c
inductive dz (m:Mem):C->Value->Prop where
 |p {x:PV} {v:Value} (h:cN m.w m.own x v):dz m (.p x) v
 |bt {id g off:Nat} (a:Addr) (hg:g<=(m.aj id).1) (h:(m.aj id).1=g->(m.aj id).2.isSome=true->a=⟨m.σ id,off,none⟩):dz m (.bt id g off) (.pointer (some a))
 |dy {id g i off:Nat} (a:Addr) (hg:g<=(m.aj id).1) (h:∀sz,(m.aj id).1=g->lO (m.aj id)=some sz->a=⟨m.σ id,i*sz+off,none⟩):dz m (.dy id g i off) (.pointer (some a))
 |hsl {id g z off len:Nat} (a:Addr) (cap:Nat) (hg:g<=(m.aj id).1) (hl:len<=cap) (hm:cap<=maxLen)
   (h:∀sz,(m.aj id).1=g->lO (m.aj id)=some sz->sz=z/\(off=0\/0<len->a=⟨m.σ id,off*sz,none⟩)/\off+cap=m.κ id):
   dz m (.hsl id g z off len) (.slice (some a) len cap)
 |kE {id g:Nat} (r:Nat) (hg:g<=(m.aj id).1) (h:(m.aj id).1=g->(m.aj id).2.isSome=true->r=m.σ id):dz m (.kE id g) (.map (some r))
 |hfn {f:Nat} {a b:f_} (A B:Array Value) (ha:A.size=a.length) (hb:B.size=b.length)
   (wT:∀(j:Nat) (x:C) (u:Value),a[j]?=some x->A[j]?=some u->dz m x u)
   (r8:∀(j:Nat) (x:C) (u:Value),b[j]?=some x->B[j]?=some u->dz m x u):dz m (.hfn f a b) (.func (.func f) A B)
theorem dz.O6{m:Mem}{x:C}{v:Value}(h:dz m x v):v.oneCell'=true:=by
 cases h with
 |p h=>exact h.O6
 |_=>rfl
theorem dz.cells{m:Mem}{x:C}{v:Value}(h:dz m x v):v.cells= #[v]:=by
 cases h with
 |p h=>exact h.cells
 |_=>rfl
def dO(m:Mem)(cs:f_)(vs:List Value):Prop:=vs.length=cs.length/\ ∀(j:Nat) (x:C) (u:Value),cs[j]?=some x->vs[j]?=some u->dz m x u
def dM(w:World)(own:Nat->Prop)(cs:b_)(vs:List Value):Prop:=vs.length=cs.length/\ ∀(j:Nat) (x:PV) (u:Value),cs[j]?=some x->vs[j]?=some u->cN w own x u
def pE(m:Mem):V->Value->Prop
 | .undef,v=>v=undef
 | .one c,v=>dz m c v
 | .agg cs,v=>∃arr,v=.agg arr/\dO m cs arr.toList
 | .tup _,_=>False
def cF(m:Mem):V->Value->Prop
 | .tup vs,v=>∃arr,v=.tuple arr/\arr.size=vs.length/\ ∀(j:Nat) (x:V) (u:Value),vs[j]?=some x->arr[j]?=some u->pE m x u
 |x,v=>pE m x v
def ux(m:Mem)(id:Nat):Ob->Prop
 | .var cs=>∃cur ty,m.w.heap[m.σ id]?=some (.cells cur ty (0,0))/\dO m cs cur.toList
 | .fvar cs=>∃cur ty fz,m.w.heap[m.σ id]?=some (.cells cur ty fz)/\dM m.w m.own cs cur.toList/\ ¬m.own (m.σ id)
 | .arr ty sz es=>∃cur,m.w.heap[m.σ id]?=some (.cells cur ty (0,0))/\0<sz/\(∀e∈es,e.length=sz)/\es.length<=m.κ id/\m.κ id<=maxLen/\cur.size=m.κ id*sz/\
   dM m.w m.own es.flatten (cur.toList.take (es.length*sz))
 | .qF ty sz es=>∃cur fz,m.w.heap[m.σ id]?=some (.cells cur ty fz)/\0<sz/\(∀e∈es,e.length=sz)/\es.length<=m.κ id/\m.κ id<=maxLen/\cur.size=m.κ id*sz/\
   dM m.w m.own es.flatten (cur.toList.take (es.length*sz))/\ ¬m.own (m.σ id)
 | .jg ty sz es=>∃cur,m.w.heap[m.σ id]?=some (.cells cur ty (0,0))/\0<sz/\(∀e∈es,e.length=sz)/\es.length<=m.κ id/\m.κ id<=maxLen/\cur.size=m.κ id*sz/\
   dO m es.flatten (cur.toList.take (es.length*sz))
 | .map ag es=>∃ents clock,m.w.heap[m.σ id]?=some (.map ents clock)/\ents.size=es.length/\
   ∀(i:Nat) (q:PV) (v:b_) (e:MapEntry),es[i]?=some (q,v)->ents[i]?=some e->cN m.w m.own q e.key/\ ∃g:Array Value,(ag=true->e.val=.agg g)/\(ag=false-> #[e.val]=g)/\dM m.w m.own v g.toList
 | .fmap ag es=>∃ents clock,m.w.heap[m.σ id]?=some (.map ents clock)/\ents.size=es.length/\
   (∀(i:Nat) (q:PV) (v:b_) (e:MapEntry),es[i]?=some (q,v)->ents[i]?=some e->cN m.w m.own q e.key/\ ∃g:Array Value,(ag=true->e.val=.agg g)/\(ag=false-> #[e.val]=g)/\dM m.w m.own v g.toList)/\ ¬m.own (m.σ id)
structure Ok (w0:World) (m:Mem):Prop where
 os:m.w.os=w0.os
 tape:m.w.tape=w0.tape
 output:m.w.output=w0.output
 size:w0.heap.size<=m.w.heap.size
 base:∀c,c<w0.heap.size->m.w.heap[c]?=w0.heap[c]?
 obj:∀id o,(m.aj id).2=some o->ux m id o
 ig:∀id o,(m.aj id).2=some o->o.gh=true->w0.heap.size<=m.σ id/\ ¬m.fr (m.σ id)
 frlt:∀c,m.fr c->c<m.w.heap.size
 inj:∀id fH o o',(m.aj id).2=some o->o.gh=true->(m.aj fH).2=some o'->o'.gh=true->m.σ id=m.σ fH->id=fH
structure Ev (m m':Mem):Prop where
 os:m'.w.os=m.w.os
 tape:m'.w.tape=m.w.tape
 output:m'.w.output=m.w.output
 size:m.w.heap.size<=m'.w.heap.size
 keep:∀c,c<m.w.heap.size-> ¬m.gh c->m'.w.heap[c]?=m.w.heap[c]?
 gh:∀c,c<m.w.heap.size->m'.gh c->m.gh c
 less:∀c,c<m.w.heap.size-> ¬m.own c-> ¬m'.own c
 gen:∀id,(m.aj id).1<=(m'.aj id).1
 ref:∀id,(m'.aj id).1=(m.aj id).1->(m'.aj id).2.isSome=true->(m.aj id).2.isSome=true/\m'.σ id=m.σ id/\m'.κ id=m.κ id/\lO (m'.aj id)=lO (m.aj id)
theorem Ev.refl(m:Mem):Ev m m:=⟨rfl,rfl,rfl,cD _,fun _ _ _=>rfl,fun _ _ h=>h,fun _ _ h=>h,fun _=>cD _,fun _ _ h=>⟨h,rfl,rfl,rfl⟩⟩
theorem Ev.trans{a b c:Mem}(h:Ev a b)(k:Ev b c):Ev a c where
 os:=k.os.trans h.os
 tape:=k.tape.trans h.tape
 output:=k.output.trans h.output
 size:=oZ h.size k.size
 keep x hx hm:=(k.keep x (EN hx h.size) fun hb=>hm (h.gh x hx hb)).trans (h.keep x hx hm)
 gh x hx hm:=h.gh x hx (k.gh x (EN hx h.size) hm)
 less x hx hn:=k.less x (EN hx h.size) (h.less x hx hn)
 gen id:=oZ (h.gen id) (k.gen id)
 ref id he hs:=by have h1:=h.gen id;have h2:=k.gen id;obtain⟨s1,e1,e2,e3⟩:=k.ref id aa hs;obtain⟨s2,f1,f2,f3⟩:=h.ref id aa s1;exact⟨s2,e1.trans f1,e2.trans f2,e3.trans f3⟩
theorem Ev.own{m m':Mem}(h:Ev m m'):∀c,c<m.w.heap.size-> ¬m.own c->m'.w.heap[c]?=m.w.heap[c]? /\ ¬m'.own c:=fun c hc hn=>⟨h.keep c hc fun hm=>hn (.inr hm),h.less c hc hn⟩
theorem aih{x:Nat×Option Ob}{sz:Nat}(h:lO x=some sz):x.2.isSome=true:=by
 obtain⟨g,o⟩:=x;cases o with
 |none=>simp[lO] at h
 |some o=>rfl
structure vd (m m':Mem):Prop where
 own:∀c,c<m.w.heap.size-> ¬m.own c->m'.w.heap[c]?=m.w.heap[c]? /\ ¬m'.own c
 gen:∀id,(m.aj id).1<=(m'.aj id).1
 ref:∀id,(m'.aj id).1=(m.aj id).1->(m'.aj id).2.isSome=true->(m.aj id).2.isSome=true/\m'.σ id=m.σ id/\m'.κ id=m.κ id/\lO (m'.aj id)=lO (m.aj id)
theorem Ev.zero{m m':Mem}(h:Ev m m'):vd m m':=⟨h.own,h.gen,h.ref⟩
theorem cN.ev{m m':Mem}(h:vd m m'){x:PV}{v:Value}(hr:cN m.w m.own x v):cN m'.w m'.own x v:=hr.mono h.own
theorem dz.ev{m m':Mem}(h:vd m m'){x:C}{v:Value}(hr:dz m x v):dz m' x v:=by
 induction hr with
 |p hp=>exact .p (hp.ev h)
 | @bt id g off a hg ha=>have XM:=h.gen id;refine .bt a aa fun DH hs=>?_;obtain⟨s,e1,_,_⟩:=h.ref id aa hs;rw[e1];exact ha aa s
 | @dy id g i off a hg ha=>have XM:=h.gen id;refine .dy a aa fun sz DH hs=>?_;obtain⟨s,e1,_,e3⟩:=h.ref id aa (aih hs);rw[e1];exact ha sz aa (e3▸hs)
 | @hsl id g z off len a cap hg hl hm ha=>have XM:=h.gen id;refine .hsl a cap aa hl hm fun sz DH hs=>?_;obtain⟨s,e1,e2,e3⟩:=h.ref id aa (aih hs);rw[e1,e2];exact ha sz aa (e3▸hs)
 | @kE id g r hg hr=>have XM:=h.gen id;refine .kE r aa fun DH hs=>?_;obtain⟨s,e1,_,_⟩:=h.ref id aa hs;rw[e1];exact hr aa s
 |hfn A B ha hb _ _ iha ihb=>exact .hfn A B ha hb iha ihb
theorem dO.ev{m m':Mem}(h:vd m m'){cs:f_}{vs:List Value}(hr:dO m cs vs):dO m' cs vs:=⟨hr.1,fun j x u a b=>(hr.2 j x u a b).ev h⟩
theorem dM.mono{w w':World}{own Bj:Nat->Prop}(hk:∀c,c<w.heap.size-> ¬own c->w'.heap[c]?=w.heap[c]? /\ ¬Bj c){cs:b_}{vs:List Value}
  (hr:dM w own cs vs):dM w' Bj cs vs:=⟨hr.1,fun j x u a b=>(hr.2 j x u a b).mono hk⟩
theorem dM.ev{m m':Mem}(h:vd m m'){cs:b_}{vs:List Value}(hr:dM m.w m.own cs vs):dM m'.w m'.own cs vs:=hr.mono h.own
theorem pE.ev{m m':Mem}(h:vd m m'){x:V}{v:Value}(hr:pE m x v):pE m' x v:=by
 cases x with
 |undef=>exact hr
 |one c=>exact dz.ev h hr
 |agg cs=>obtain⟨arr,e,hc⟩:=hr;exact⟨arr,e,hc.ev h⟩
 |tup vs=>exact hr.elim
theorem cF.ev{m m':Mem}(h:vd m m'){x:V}{v:Value}(hr:cF m x v):cF m' x v:=by
 cases x with
 |tup vs=>obtain⟨arr,e,hs,hc⟩:=hr;exact⟨arr,e,hs,fun j x u a b=>(hc j x u a b).ev h⟩
 |undef=>exact pE.ev (x:=.undef) h hr
 |one c=>exact pE.ev (x:=.one c) h hr
 |agg cs=>exact pE.ev (x:=.agg cs) h hr
theorem ux.ev{m m':Mem}(h:vd m m'){id:Nat}{o:Ob}(hs:m'.σ id=m.σ id)(hk:m'.κ id=m.κ id)(hh:m'.w.heap[m.σ id]?=m.w.heap[m.σ id]?)
  (hr:ux m id o):ux m' id o:=by
 cases o with
 |var cs=>obtain⟨cur,ty,a,b⟩:=hr;exact⟨cur,ty,by rw[hs,hh];exact a,b.ev h⟩
 |fvar cs=>obtain⟨cur,ty,fz,a,b,c⟩:=hr;exact⟨cur,ty,fz,by rw[hs,hh];exact a,b.ev h,by rw[hs];exact(h.own _ (wL a) c).2⟩
 |arr ty sz es=>obtain⟨cur,a,b,c,d,e,f,g⟩:=hr;exact⟨cur,by rw[hs,hh];exact a,b,c,by rw[hk];exact d,by rw[hk];exact e,by rw[hk];exact f,g.ev h⟩
 |qF ty sz es=>obtain⟨cur,fz,a,b,c,d,e,f,g,i⟩:=hr;exact⟨cur,fz,by rw[hs,hh];exact a,b,c,by rw[hk];exact d,by rw[hk];exact e,by rw[hk];exact f,g.ev h,by rw[hs];exact(h.own _ (wL a) i).2⟩
 |jg ty sz es=>obtain⟨cur,a,b,c,d,e,f,g⟩:=hr;exact⟨cur,by rw[hs,hh];exact a,b,c,by rw[hk];exact d,by rw[hk];exact e,by rw[hk];exact f,g.ev h⟩
 |map ag es=>obtain⟨ents,clock,a,b,c⟩:=hr;exact⟨ents,clock,by rw[hs,hh];exact a,b,fun i q v e x y=>let ⟨p,g,g1,g2,g3⟩:=c i q v e x y;⟨p.ev h,g,g1,g2,g3.ev h⟩⟩
 |fmap ag es=>obtain⟨ents,clock,a,b,c,d⟩:=hr;exact⟨ents,clock,by rw[hs,hh];exact a,b,fun i q v e x y=>let ⟨p,g,g1,g2,g3⟩:=c i q v e x y;⟨p.ev h,g,g1,g2,g3.ev h⟩,by rw[hs];exact(h.own _ (wL a) d).2⟩
theorem ux.lt{m:Mem}{id:Nat}{o:Ob}(hr:ux m id o):m.σ id<m.w.heap.size:=by
 cases o with
 |var cs=>obtain⟨cur,ty,a,_⟩:=hr;exact wL a
 |fvar cs=>obtain⟨cur,ty,fz,a,_⟩:=hr;exact wL a
 |arr ty sz es=>obtain⟨cur,a,_⟩:=hr;exact wL a
 |qF ty sz es=>obtain⟨cur,fz,a,_⟩:=hr;exact wL a
 |jg ty sz es=>obtain⟨cur,a,_⟩:=hr;exact wL a
 |map ag es=>obtain⟨ents,clock,a,_⟩:=hr;exact wL a
 |fmap ag es=>obtain⟨ents,clock,a,_⟩:=hr;exact wL a
theorem ux.calm{m:Mem}{id:Nat}{o:Ob}(hr:ux m id o)(ho:o.gh=false):¬m.own (m.σ id):=by
 cases o with
 |fvar cs=>obtain⟨cur,ty,fz,_,_,c⟩:=hr;exact c
 |qF ty sz es=>obtain⟨cur,fz,_,_,_,_,_,_,_,c⟩:=hr;exact c
 |fmap ag es=>obtain⟨_,_,_,_,_,c⟩:=hr;exact c
 |_=>simp[Ob.gh] at ho
end Go.Abs
namespace Go.Abs
variable {w0:World}
section
variable{m:Mem}
structure fY (w w':World):Prop where
 os:w'.os=w.os
 tape:w'.tape=w.tape
 output:w'.output=w.output
 size:w.heap.size<=w'.heap.size
 keep:∀c,c<w.heap.size->w'.heap[c]?=w.heap[c]?
theorem fY.refl(w:World):fY w w:=⟨rfl,rfl,rfl,cD _,fun _ _=>rfl⟩
theorem fY.trans{a b c:World}(h:fY a b)(k:fY b c):fY a c:=
 ⟨k.os.trans h.os,k.tape.trans h.tape,k.output.trans h.output,oZ h.size k.size,fun x hx=>(k.keep x (EN hx h.size)).trans (h.keep x hx)⟩
theorem fY.alloc(w:World)(o:Obj):fY w (w.alloc o):=⟨rfl,rfl,rfl,af,fun _ hc=>heap_alloc_old w o hc⟩
theorem fY.drew(w:World):fY w w.drew:=⟨rfl,rfl,rfl,cD _,fun _ _=>rfl⟩
def Mem.later(m:Mem)(w':World)(X:Nat->Prop):Mem:={m with w:=w',fr:=fun c=>m.fr c\/X c}
theorem afu{w':World}{X:Nat->Prop}{c:Nat}:(m.later w' X).own c↔m.own c\/X c:=by
 unfold Mem.own Mem.gh Mem.later;constructor
 .rintro ((h|h)|h)
  .exact .inl (.inl h)
  .exact .inr h
  exact .inl (.inr h)
 rintro ((h|h)|h)
 .exact .inl (.inl h)
 .exact .inr h
 exact .inl (.inr h)
theorem KS{w':World}{X:Nat->Prop}(hg:fY m.w w')(hX:∀c,X c->m.w.heap.size<=c):Ev m (m.later w' X) where
 os:=hg.os
 tape:=hg.tape
 output:=hg.output
 size:=hg.size
 keep c hc _:=hg.keep c hc
 gh c _ h:=h
 less c hc hn h:=by
  rcases afu.1 h with h|h
  .exact hn h
  have:=hX c h;omega
 gen _:=cD _
 ref _ _ hs:=⟨hs,rfl,rfl,rfl⟩
theorem OW{w':World}{X:Nat->Prop}(h:Ok w0 m)(hg:fY m.w w')(hX:∀c,X c->m.w.heap.size<=c/\c<w'.heap.size):Ok w0 (m.later w' X) where
 os:=hg.os.trans h.os
 tape:=hg.tape.trans h.tape
 output:=hg.output.trans h.output
 size:=oZ h.size hg.size
 base c hc:=(hg.keep c (EN hc h.size)).trans (h.base c hc)
 obj id o ho:=(h.obj id o ho).ev (KS hg fun c hc=>(hX c hc).1).zero rfl rfl (hg.keep _ (h.obj id o ho).lt)
 ig id o ho hm:=by
  refine⟨(h.ig id o ho hm).1,?_⟩;rintro (hf|hx)
  .exact(h.ig id o ho hm).2 hf
  have h1:=(hX _ hx).1;have h2:=(h.obj id o ho).lt;simp only[Mem.later] at h1;omega
 frlt c hc:=by
  rcases hc with hf|hx
  .exact EN (h.frlt c hf) hg.size
  exact(hX c hx).2
 inj:=h.inj
def Mem.install(m:Mem)(s c k:Nat)(o:Ob):Mem:=⟨m.w,eH m.aj s ((m.aj s).1+1,some o),eH m.σ s c,eH m.κ s k,fun x=>m.fr x/\x≠c⟩
theorem aev{s c k:Nat}{o:Ob}{x:Nat}(h:(m.install s c k o).gh x):x=c\/m.gh x:=by
 obtain⟨id,o',ho,hm,hx⟩:=h;simp only[Mem.install,aU] at ho hx;by_cases hid:id=s
 .simp only[hid,if_true] at hx;exact .inl hx.symm
 simp only[hid,if_false] at ho hx;exact .inr ⟨id,o',ho,hm,hx⟩
theorem Uf{s c k:Nat}{o:Ob}(hc:m.fr c){x:Nat}(h:(m.install s c k o).own x):m.own x:=by
 rcases h with h|h
 .exact .inl h.1
 rcases aev h with rfl|h
 .exact .inl hc
 exact .inr h
theorem Ud{m1:Mem}{s c k:Nat}{o:Ob}(h:Ev m m1)(hc:m1.fr c)(hn:m.w.heap.size<=c\/m.gh c):Ev m (m1.install s c k o) where
 os:=h.os
 tape:=h.tape
 output:=h.output
 size:=h.size
 keep:=h.keep
 gh x hx hm:=by
  rcases aev hm with rfl|hm
  .rcases hn with hn|hn
   .omega
   exact hn
  exact h.gh x hx hm
 less x hx eh hm:=h.less x hx eh (Uf hc hm)
 gen id:=by
  simp only[Mem.install,aU];have:=h.gen id;split
  .rename_i e;subst e;simp only;omega
  exact this
 ref id he hs:=by
  have hg:=h.gen id;simp only[Mem.install,aU] at he hs |-;by_cases hid:id=s
  .subst hid;simp only[if_true] at he;omega
  simp only[hid,if_false] at he hs |-;exact h.ref id he hs
theorem Ue{s c k:Nat}{o:Ob}(h:Ok w0 m)(hc:m.fr c)(fM:w0.heap.size<=c)(ho:ux (m.install s c k o) s o):Ok w0 (m.install s c k o):=by
 have hk:∀x,x<m.w.heap.size-> ¬m.own x->(m.install s c k o).w.heap[x]?=m.w.heap[x]? /\ ¬(m.install s c k o).own x:=fun x _ hn=>⟨rfl,fun h=>hn (Uf hc h)⟩
 have eO:vd m (m.install s c k o):=by
  refine⟨hk,fun id=>?_,fun id he hs=>?_⟩
  .simp only[Mem.install,aU];split
   .rename_i e;subst e;simp only;omega
   exact cD _
  simp only[Mem.install,aU] at he hs |-;by_cases hid:id=s
  .subst hid;simp only[if_true] at he;omega
  simp only[hid,if_false] at he hs |-;exact⟨hs,trivial,trivial,trivial⟩
 exact {
  os:=h.os
  tape:=h.tape
  output:=h.output
  size:=h.size
  base:=h.base
  obj:=by
   intro id o' lW;by_cases hid:id=s
   .subst hid;simp only[Mem.install,aU,if_true,gn] at lW;exact lW▸ho
   have hs:(m.install s c k o).σ id=m.σ id:=by simp[Mem.install,aU,hid]
   have wO:(m.install s c k o).κ id=m.κ id:=by simp[Mem.install,aU,hid]
   simp only[Mem.install,aU,hid,if_false] at lW;exact(h.obj id o' lW).ev eO hs wO rfl
  ig:=by
   intro id o' lW hm;by_cases hid:id=s
   .subst hid;simp only[Mem.install,aU,if_true];exact⟨fM,fun h=>h.2 rfl⟩
   simp only[Mem.install,aU,hid,if_false] at lW |-;exact⟨(h.ig id o' lW hm).1,fun hf=>(h.ig id o' lW hm).2 hf.1⟩
  frlt:=fun x hx=>h.frlt x hx.1
  inj:=by
   intro id fH o1 o2 h1 m1 h2 m2 he;by_cases hid:id=s<;>by_cases uK:fH=s
   .rw[hid,uK]
   .subst hid;simp only[Mem.install,aU,uK,if_true,if_false] at h2 he;exact((h.ig fH o2 h2 m2).2 (he▸hc)).elim
   .subst uK;simp only[Mem.install,aU,hid,if_true,if_false] at h1 he;exact((h.ig id o1 h1 m1).2 (he.symm▸hc)).elim
   simp only[Mem.install,aU,hid,uK,if_false] at h1 h2 he;exact h.inj id fH o1 o2 h1 m1 h2 m2 he}
def Mem.iJ(m:Mem)(id:Nat):Mem:=⟨m.w,eH m.aj id ((m.aj id).1,none),m.σ,m.κ,fun c=>m.fr c\/c=m.σ id⟩
theorem alV{id:Nat}{o:Ob}(ho:(m.aj id).2=some o)(hm:o.gh=true){x:Nat}(h:(m.iJ id).own x):m.own x:=by
 rcases h with (h|h)|⟨fH,o',h1,h2,h3⟩
 .exact .inl h
 .exact .inr ⟨id,o,ho,hm,h.symm⟩
 simp only[Mem.iJ,aU] at h1 h3;by_cases hid:fH=id
 .simp[hid] at h1
 simp only[hid,if_false] at h1;exact .inr ⟨fH,o',h1,h2,h3⟩
theorem GV{id:Nat}{o:Ob}(ho:(m.aj id).2=some o)(hm:o.gh=true):Ev m (m.iJ id) where
 os:=rfl
 tape:=rfl
 output:=rfl
 size:=cD _
 keep _ _ _:=rfl
 gh x _ h:=by
  obtain⟨fH,o',h1,h2,h3⟩:=h;simp only[Mem.iJ,aU] at h1 h3;by_cases hid:fH=id
  .simp[hid] at h1
  simp only[hid,if_false] at h1;exact⟨fH,o',h1,h2,h3⟩
 less x _ hn h:=hn (alV ho hm h)
 gen fH:=by
  simp only[Mem.iJ,aU];split
  .rename_i e;subst e;exact cD _
  exact cD _
 ref fH he hs:=by
  simp only[Mem.iJ,aU] at he hs |-;by_cases hid:fH=id
  .simp[hid] at hs
  simp only[hid,if_false] at he hs |-;exact⟨hs,trivial,trivial,trivial⟩
theorem WY{id:Nat}{o:Ob}(h:Ok w0 m)(ho:(m.aj id).2=some o)(hm:o.gh=true):Ok w0 (m.iJ id) where
 os:=h.os
 tape:=h.tape
 output:=h.output
 size:=h.size
 base:=h.base
 obj fH o' h1:=by
  simp only[Mem.iJ,aU] at h1;by_cases hid:fH=id
  .simp[hid] at h1
  simp only[hid,if_false] at h1;exact(h.obj fH o' h1).ev (GV ho hm).zero rfl rfl rfl
 ig fH o' h1 h2:=by
  simp only[Mem.iJ,aU] at h1 |-;by_cases hid:fH=id
  .simp[hid] at h1
  simp only[hid,if_false] at h1;refine⟨(h.ig fH o' h1 h2).1,?_⟩;rintro (hf|hf)
  .exact(h.ig fH o' h1 h2).2 hf
  exact hid (h.inj fH id o' o h1 h2 ho hm hf)
 frlt c hc:=by
  rcases hc with hf|rfl
  .exact h.frlt c hf
  exact(h.obj id o ho).lt
 inj Cf Cg o1 o2 h1 m1 h2 m2 he:=by
  simp only[Mem.iJ,aU] at h1 h2 he;by_cases hid:Cf=id
  .simp[hid] at h1
  by_cases uK:Cg=id
  .simp[uK] at h2
  simp only[hid,uK,if_false] at h1 h2;exact h.inj Cf Cg o1 o2 h1 m1 h2 m2 he
def Mem.kK(m:Mem)(w':World)(id:Nat)(o:Ob):Mem:=⟨w',eH m.aj id ((m.aj id).1,some o),m.σ,m.κ,m.fr⟩
section
variable {m:Mem} {w':World} {id:Nat} {o old:Ob} (ho:(m.aj id).2=some old) (hm:old.gh=true)
include ho hm
theorem as8{x:Nat}(h:(m.kK w' id o).own x):m.own x:=by
 rcases h with h|⟨fH,o',h1,h2,h3⟩
 .exact .inl h
 simp only[Mem.kK,aU] at h1 h3;by_cases hid:fH=id
 .exact .inr ⟨id,old,ho,hm,hid▸h3⟩
 simp only[hid,if_false] at h1;exact .inr ⟨fH,o',h1,h2,h3⟩
theorem Pm(cT:lO ((m.aj id).1,some o)=lO ((m.aj id).1,some old))(Bc:w'.os=m.w.os)(ht:w'.tape=m.w.tape)(qM:w'.output=m.w.output)(hs:w'.heap.size=m.w.heap.size)
  (hk:∀c,c≠m.σ id->w'.heap[c]?=m.w.heap[c]?):Ev m (m.kK w' id o) where
 os:=Bc
 tape:=ht
 output:=qM
 size:=Gq hs.symm
 keep c _ hn:=hk c fun e=>hn ⟨id,old,ho,hm,e.symm⟩
 gh x _ h:=by
  obtain⟨fH,o',h1,h2,h3⟩:=h;simp only[Mem.kK,aU] at h1 h3;by_cases hid:fH=id
  .exact⟨id,old,ho,hm,hid▸h3⟩
  simp only[hid,if_false] at h1;exact⟨fH,o',h1,h2,h3⟩
 less x _ hn h:=hn (as8 ho hm h)
 gen fH:=by
  simp only[Mem.kK,aU];split
  .rename_i e;subst e;exact cD _
  exact cD _
 ref fH he hss:=by
  simp only[Mem.kK,aU] at he hss |-;by_cases hid:fH=id
  .subst hid;refine⟨by simp[ho],trivial,trivial,?_⟩;simp only[if_true];rw[cT,<- ho]
  simp only[hid,if_false] at he hss |-;exact⟨hss,trivial,trivial,trivial⟩
theorem Vc(h:Ok w0 m)(cT:lO ((m.aj id).1,some o)=lO ((m.aj id).1,some old))(Bc:w'.os=m.w.os)(ht:w'.tape=m.w.tape)(qM:w'.output=m.w.output)(hs:w'.heap.size=m.w.heap.size)
  (hk:∀c,c≠m.σ id->w'.heap[c]?=m.w.heap[c]?) (DT:ux (m.kK w' id o) id o):Ok w0 (m.kK w' id o) where
 os:=Bc.trans h.os
 tape:=ht.trans h.tape
 output:=qM.trans h.output
 size:=oZ h.size (Gq hs.symm)
 base c hc:=by have:=(h.ig id old ho hm).1;exact(hk c aa).trans (h.base c hc)
 obj fH o' h1:=by
  simp only[Mem.kK,aU] at h1;by_cases hid:fH=id
  .subst hid;simp only[if_true,gn] at h1;exact h1▸DT
  simp only[hid,if_false] at h1;refine(h.obj fH o' h1).ev (Pm ho hm cT Bc ht qM hs hk).zero rfl rfl (hk _ fun e=>?_);cases BW:o'.gh with
  |true=>exact hid (h.inj fH id o' old h1 BW ho hm e)
  |false=>exact(h.obj fH o' h1).calm BW (.inr ⟨id,old,ho,hm,e.symm⟩)
 ig fH o' h1 h2:=by
  simp only[Mem.kK,aU] at h1 |-;by_cases hid:fH=id
  .subst hid;exact h.ig fH old ho hm
  simp only[hid,if_false] at h1;exact h.ig fH o' h1 h2
 frlt c hc:=by rw[show(m.kK w' id o).w.heap.size=m.w.heap.size from hs];exact h.frlt c hc
 inj Cf Cg o1 o2 h1 m1 h2 m2 he:=by
  simp only[Mem.kK,aU] at h1 h2 he;by_cases hid:Cf=id<;>by_cases uK:Cg=id
  .rw[hid,uK]
  .simp only[uK,if_false] at h2;exact hid▸h.inj id Cg old o2 ho hm h2 m2 (hid▸he)
  .simp only[hid,if_false] at h1;exact uK▸h.inj Cf id o1 old h1 m1 ho hm (uK▸he)
  simp only[hid,uK,if_false] at h1 h2;exact h.inj Cf Cg o1 o2 h1 m1 h2 m2 he
end
end
end Go.Abs
namespace Go.Abs
def MB:Value->Option PV
 | .bool b=>some (.bool b)
 | .int k n=>some (.int k n)
 | .string s=>some (.str s)
 | .pointer none=>some .vK
 | .slice none 0 0=>some .nils
 | .map none=>some .sA
 | .nilFunc=>some .zR
 | .nilIface=>some .nili
 |_=>none
def Js:List Value->Option b_
 |[]=>some []
 |v::r=>match MB v,Js r with
  |some x,some xs=>some (x::xs)
  |_,_=>none
def WE:Value->Option V
 | .agg cs=>(Js cs.toList).map fun l=>.agg (l.map .p)
 |v=>(MB v).map fun x=>.one (.p x)
def de:Operand->Option aX
 | .tmp t=>some (.t t)
 | .const (.int .i64 n)=>some (.i n)
 | .const (.bool b)=>some (.b b)
 | .const v=>(WE v).map .k
 | .func f=>some (.k (.one (.p (.fn f [] []))))
 | .global _=>none
def rm:List Operand->Option o_
 |[]=>some []
 |a::r=>match de a,rm r with
  |some x,some xs=>some (x::xs)
  |_,_=>none
def yU:Option Operand->Option (Option aX)
 |none=>some none
 |some a=>(de a).map some
def Br(P:Program)(t:TypeId):Option b_:=
 match P.info? t with
 |some i=>match i.zero with
  |some (.agg cs)=>if cs.size=i.size then Js cs.toList else none
  |some v=>if i.size=1 then (MB v).map fun x=>[x] else none
  |none=>none
 |none=>none
def se(P:Program)(t:TypeId):Option w_:=
 match P.underlying t,P.info? t with
 |some (.struct _),some i=>some (some i.size)
 |some (.array _ _),some i=>some (some i.size)
 |some _,some i=>if i.size=1 then some none else none
 |_,_=>none
def yI(P:Program)(t:TypeId):w_:=(P.info? t).map (·.size)
def Ei(place:Nat->Option (Nat×Nat))(zl:Nat):List (Nat×Operand)->Option (List (Nat×Nat×aX))
 |[]=>some []
 |(i,x)::r=>match place i,de x,Ei place zl r with
  |some (off,n),some a,some q=>if off+n<=zl then some ((off,n,a)::q) else none
  |_,_,_=>none
def JD:Nat->List (Nat×Operand)->Option o_
 |_,[]=>some []
 |k,(i,x)::r=>match de x,JD (k+1) r with
  |some a,some q=>if i=k then some (a::q) else none
  |_,_=>none
def Vb(P:Program)(t:TypeId):Option Bool:=
 match P.underlying t with
 |some (.int _)=>some true
 |some .bool=>some false
 |_=>none
def Lu(P:Program):Nat->List Field->Option l_
 |_,[]=>some []
 |k,f::r=>match Vb P f.type,Lu P (k+1) r with
  |some b,some bs=>if f.offset=k/\f.name≠ "_" then some (b::bs) else none
  |_,_=>none
def K8:Operand->Bool
 | .const .nilIface=>true
 |_=>false
def MQ(P:Program)(t:TypeId)(x y:Operand):Option v7:=
 match P.underlying t with
 |some (.interface _)=>if K8 x||K8 y then some .ifc else none
 |some .bool=>some .bool
 |some (.pointer _)=>some .ptr
 |some (.slice _)=>some .slc
 |some (.map _ _)=>some .map
 |some (.func _ _ _)=>some .fnc
 |some (.struct fs)=>if !P.stoodInHeld t&& !P.eqGuardType P.depth t then (Lu P 0 fs.toList).map .str else none
 |_=>none
def BD(P:Program)(t:TypeId):Option (TypeId×Nat×Nat×b_):=
 match P.underlying t with
 |some (.slice e)=>match P.info? e,Br P e with
  |some i,some z=>if 0<i.size/\0<i.bytes then some (e,i.size,i.bytes,z) else none
  |_,_=>none
 |_=>none
def keyOf(P:Program)(k:TypeId):w_:=
 match P.underlying k with
 |some (.int _)=>some 0
 |some .string=>some 1
 |some .bool=>some 2
 |_=>none
def VF(P:Program)(t:TypeId):Bool:=
 match P.info? t with
 |some i=>match i.zero with
  |some (.agg _)=>true
  |_=>false
 |none=>false
def GP(P:Program)(site:Nat)(o:Oper):Option oz:=
 match o.op with
 | .move x=>(de x).map .zQ
 | .assign x=>(de x).map .zQ
 | .pick c a b=>match de c,de a,de b with
  |some c,some a,some b=>some (.pick c a b)
  |_,_,_=>none
 | .alloc t=>(Br P t).map (.alloc site)
 | .box _ x=>(de x).map (.box site)
 | .build t ps=>match P.underlying t,Br P t with
  |some (.struct fs),some z=>if fs.all fun f=>(P.info? f.type).isSome then
    (Ei (fun i=>(fs[i]?).map fun f=>(f.offset,P.cellsOf f.type)) z.length ps.toList).map (.build z)
   else none
  |some (.array _ e),some z=>match P.info? e with
   |some i=>(Ei (fun k=>some (k*i.size,i.size)) z.length ps.toList).map (.build z)
   |none=>none
  |_,_=>none
 | .buildSlice t n ps=>match BD P t,JD 0 ps.toList with
  |some (e,sz,_,_),some as=>if as.length=n/\n*sz<=16777216 then some (.EY site e sz as) else none
  |_,_=>none
 | .load t a=>match se P t,de a with
  |some k,some a=>some (.load k a)
  |_,_=>none
 | .store t a x=>match yI P t,de a,de x with
  |some n,some a,some x=>some (.store n a x)
  |_,_,_=>none
 | .nilCheck x=>(de x).map .K9
 | .binOp op t x y _=>match de x,de y with
  |some a,some b=>match P.underlying t with
   |some (.int _)=>some (.bin op a b)
   |some .string=>some (.bin op a b)
   |_=>match op,MQ P t x y with
    | .eql,some k=>some (.eqc k false a b)
    | .neq,some k=>some (.eqc k true a b)
    |_,_=>none
  |_,_=>none
 | .unOp op _ x=>match op with
  | .not=>(de x).map (.un .not)
  | .neg=>(de x).map (.un .neg)
  |_=>none
 | .convert s d x=>match P.underlying s,P.underlying d,de x with
  |some (.int _),some (.int k),some a=>some (.conv k a)
  |some (.slice e),some .string,some a=>match P.underlying e with
   |some (.int .u8)=>some (.bstr a)
   |_=>none
  |_,_,_=>none
 | .makeFunc (.func f) a b=>match rm a.toList,rm b.toList with
  |some x,some y=>some (.mkfn f x y)
  |_,_=>none
 | .makeMap t none=>match P.underlying t with
  |some (.map _ e)=>(se P e).map fun k=>.mkmap site k.isSome
  |_=>none
 | .makeSlice t l c=>match BD P t,de l,de c with
  |some (e,sz,bytes,z),some l,some c=>some (.KY site e sz bytes z l c)
  |_,_,_=>none
 | .slice t x lo hi none=>match de x,yU lo,yU hi with
  |some a,some l,some h=>match P.underlying t with
   |some (.slice e)=>(yI P e).map fun sz=>.slice sz a l h
   |some .string=>some (.sslice a l h)
   |_=>none
  |_,_,_=>none
 | .fieldAddr s x f=>match P.underlying s,de x with
  |some (.struct fs),some a=>match fs[f]? with
   |some d=>if P.cellsOf d.type≠0 then some (.G9 d.offset a) else none
   |none=>none
  |_,_=>none
 | .field t x f=>match P.underlying t,de x with
  |some (.struct fs),some a=>match fs[f]? with
   |some d=>(se P d.type).map fun k=>.fld d.offset k a
   |none=>none
  |_,_=>none
 | .indexAddr t x i=>match de x,de i with
  |some a,some b=>match P.underlying t with
   |some (.slice e)=>(yI P e).map fun sz=>.HO sz a b
   |some (.array n e)=>(yI P e).map fun sz=>.IY n sz a b
   |_=>none
  |_,_=>none
 | .index t x i=>match de x,de i with
  |some a,some b=>match P.underlying t with
   |some (.array n e)=>match yI P e,se P e with
    |some sz,some k=>some (.aidx n sz k a b)
    |_,_=>none
   |some .string=>some (.sidx a b)
   |_=>none
  |_,_=>none
 | .lookup t x k ok=>match P.underlying t,de x,de k with
  |some (.map kt e),some a,some b=>match Br P e,se P e with
   |some z,some q=>match keyOf P kt with
    |some kd=>if VF P e=q.isSome then some (.lookup kd z q.isSome ok a b) else none
    |none=>none
   |_,_=>none
  |_,_,_=>none
 | .mapUpdate t m k v=>match P.underlying t,de m,de k,de v with
  |some (.map kt e),some a,some b,some c=>match se P e with
   |some q=>(keyOf P kt).map fun kd=>.mupd kd q.isSome a b c
   |none=>none
  |_,_,_,_=>none
 | .insert t m k v=>match P.underlying t,de m,de k,de v with
  |some (.map kt e),some a,some b,some c=>match se P e with
   |some q=>(keyOf P kt).map fun kd=>.mupd kd q.isSome a b c
   |none=>none
  |_,_,_,_=>none
 | .extract x i=>(de x).map fun a=>.extract a i
 | .call c=>match c.callee,rm c.args.toList with
  | .value f,some as=>(de f).map fun g=>.call site g as
  | .builtin .len,some [a]=>match c.argTypes[0]? with
   |some t=>match P.underlying t with
    |some .string=>some (.slen a)
    |some (.slice _)=>some (.KW a)
    |some (.map _ _)=>some (.mlen a)
    |_=>none
   |none=>none
  | .builtin .append,some [a,b]=>match c.argTypes[0]?,c.argTypes[1]? with
   |some t,some u=>match BD P t with
    |some (e,sz,bytes,_)=>if t=u/\c.argTypes.size=2 then some (.append site e sz bytes a b) else none
    |none=>none
   |_,_=>none
  | .builtin .max,some [a,b]=>some (.max a b)
  | .builtin .min,some [a,b]=>some (.min a b)
  | .builtin .clear,some [a]=>match c.argTypes[0]? with
   |some t=>(BD P t).map fun q=>.clear q.2.2.2 a
   |none=>none
  |_,_=>none
 |_=>none
def aX.tmps:aX->a_
 | .t n=>[n]
 |_=>[]
def Ge:o_->a_
 |[]=>[]
 |a::r=>a.tmps++Ge r
def ZS:Option aX->a_
 |some a=>a.tmps
 |none=>[]
def ZT:List (Nat×Nat×aX)->a_
 |[]=>[]
 |(_,_,a)::r=>a.tmps++ZT r
def oz.tmps:oz->a_
 | .zQ x| .box _ x| .load _ x| .K9 x| .un _ x| .conv _ x| .bstr x| .G9 _ x| .fld _ _ x| .extract x _| .slen x| .KW x| .mlen x| .clear _ x=>x.tmps
 | .pick c a b=>c.tmps++a.tmps++b.tmps
 | .alloc _ _| .mkmap _ _| .bad=>[]
 | .build _ ps=>ZT ps
 | .EY _ _ _ ps=>Ge ps
 | .store _ a x| .bin _ a x| .eqc _ _ a x| .HO _ a x| .IY _ _ a x| .aidx _ _ _ a x| .sidx a x| .lookup _ _ _ _ a x| .append _ _ _ _ a x| .max a x| .min a x=>a.tmps++x.tmps
 | .mkfn _ a b=>Ge a++Ge b
 | .KY _ _ _ _ _ a b=>a.tmps++b.tmps
 | .slice _ x a b| .sslice x a b=>x.tmps++ZS a++ZS b
 | .mupd _ _ a b c=>a.tmps++b.tmps++c.tmps
 | .call _ f as=>f.tmps++Ge as
def cq.Iy(o:cq):a_:=
 o.op.tmps++match o.guard with
  |some (t,_)=>[t]
  |none=>[]
def Hc(a b:cq):Bool:=
 (match a.dst with
  |some d=> !b.Iy.contains d&&b.dst !=some d
  |none=>true)&&
 (match b.dst with
  |some d=> !a.Iy.contains d
  |none=>true)
def TB(o:cq):Nat->g_->Bool
 |_,[]=>true
 |j,x::r=>(o.anc.testBit j||Hc x o)&&TB o (j+1) r
def Np:g_->g_->Bool
 |[],_=>true
 |o::os,past=>TB o 0 past&&Np os (past++[o])
def Jq(P:Program)(site:Nat)(o:Oper):oz:=(GP P site o).getD .bad
def ach(nt:Nat):w_->Bool
 |some d=>decide (d<nt)
 |none=>true
def Xt(dst:Nat->w_):Option (Nat×Bool)->Option (Option (Nat×Bool))
 |none=>some none
 |some (j,w)=>(dst j).map fun t=>some (t,w)
def Fe(P:Program)(dst:Nat->w_)(base nt:Nat)(anc:Nat)(o:Oper):Option cq:=if ach nt o.dst then (Xt dst o.guard).map fun g=>⟨o.dst,Jq P base o,g,anc⟩ else none
def xP(P:Program)(dst anc:Nat->w_)(base nt:Nat):Nat->List Oper->Option g_
 |_,[]=>some []
 |i,o::r=>match Fe P dst ((base+i)*64) nt ((anc i).getD 0) o,xP P dst anc base nt (i+1) r with
  |some x,some xs=>some (x::xs)
  |_,_=>none
def I0(ops:Array Oper):Bool:=(List.range ops.size).all fun i=>match ops[i]? with
 |some o=>o.after.toList.all fun e=> !Region.binds .any e||decide (e.on<i)
 |none=>true
def qD(P:Program)(f nt:Nat):Code->Option aR
 | .skip=>some .skip
 | .region id ops draw=>
  let b:=if draw then Region.before ops else #[]
  match xP P (fun j=>(ops[j]?).bind (·.dst)) (fun i=>b[i]?) ((f*1000+id)*1000) nt 0 ops.toList with
  |some xs=>if draw then (if I0 ops&&Np xs [] then some (.region true xs) else none) else some (.region false xs)
  |none=>none
 | .seq a b=>match qD P f nt a,qD P f nt b with
  |some x,some y=>some (.seq x y)
  |_,_=>none
 | .cond c a b=>match de c,qD P f nt a,qD P f nt b with
  |some c,some x,some y=>some (.cond c x y)
  |_,_,_=>none
 | .block id c=>(qD P f nt c).map (.block id)
 | .loop c=>(qD P f nt c).map .loop
 | .exit id=>some (.exit id)
 | .scope c=>qD P f nt c
 | .label _=>some .skip
 | .ret=>some .ret
 |_=>some .bad
def CC(P:Program):List ResultVar->Option (List (Nat×Option w_))
 |[]=>some []
 | .tmp t::r=>(CC P r).map ((t,none):: ·)
 | .cell t ty::r=>match se P ty,CC P r with
  |some k,some q=>some ((t,some k)::q)
  |_,_=>none
def Dk(P:Program)(f:Nat):Option bG:=
 match P.funcs[f]? with
 |none=>none
 |some fn=>match fn.body with
  |none=>none
  |some c=>if fn.name== "runtime.NumGoroutine" then none else
   match qD P f fn.ntmps c,CC P fn.results.toList with
   |some b,some r=>some ⟨fn.ntmps,r,b⟩
   |_,_=>none
end Go.Abs
namespace Go.Abs
variable {P:Program} {w0:World}
section
variable{m:Mem}
def jt(m:Mem)(ak:Env)(tmps:Array Value):Prop:=∀t,cF m (ak t) (tmps.getD t undef)
theorem jt.ev{m':Mem}(h:Ev m m'){ak:Env}{tmps:Array Value}(hr:jt m ak tmps):jt m' ak tmps:=fun t=>(hr t).ev h.zero
theorem cF.one{c:C}{v:Value}:cF m (.one c) v↔dz m c v:=Iff.rfl
theorem cF.agg{cs:f_}{v:Value}:cF m (.agg cs) v↔ ∃arr,v=.agg arr/\dO m cs arr.toList:=Iff.rfl
theorem cF.of1{x:V}{v:Value}(h:pE m x v):cF m x v:=by
 cases x with
 |tup vs=>exact h.elim
 |_=>exact h
theorem WD{w:World}{own:Nat->Prop}{v:Value}{x:PV}(h:MB v=some x):cN w own x v:=by
 unfold MB at h;split at h<;>first
  |(cases h;constructor;done)
  |cases h
theorem abE{w:World}{own:Nat->Prop}:∀ {vs:List Value} {xs:b_},Js vs=some xs->dM w own xs vs:=by
 intro vs
 induction vs with
 |nil=>intro xs h;simp[Js] at h;subst h;exact⟨rfl,fun j x u a _=>by simp at a⟩
 |cons v r ih=>
  intro xs h;simp only[Js] at h;split at h
  .rename_i x ys h1 h2;cases h;obtain⟨hl,hr⟩:=ih h2;refine⟨by simp[hl],fun j z u a b=>?_⟩;cases j with
   |zero=>simp at a b;subst a b;exact WD h1
   |succ j=>simp at a b;exact hr j z u a b
  cases h
theorem dM.Ey{xs:b_}{vs:List Value}(h:dM m.w m.own xs vs):dO m (xs.map .p) vs:=by refine⟨by simp[h.1],fun j x u a b=>?_⟩;simp only[gk,ef] at a;obtain⟨y,hy,rfl⟩:=a;exact .p (h.2 j y u hy b)
theorem ale{v:Value}{x:V}(h:WE v=some x):cF m x v:=by
 unfold WE at h;split at h
 .simp only[ef] at h;obtain⟨xs,h1,rfl⟩:=h;exact cF.agg.2 ⟨_,rfl,(abE h1).Ey⟩
 simp only[ef] at h;obtain⟨y,h1,rfl⟩:=h;exact cF.one.2 (.p (WD h1))
theorem eZ{ak:Env}{a:Act}{x:Operand}{y:aX}(h:de x=some y)(hr:jt m ak a.tmps):cF m (ev ak y) (a.eval x):=by
 unfold de at h;split at h
 .cases h;exact hr _
 .cases h;exact cF.one.2 (.p (.int _ _))
 .cases h;exact cF.one.2 (.p (.bool _))
 .simp only[ef] at h;obtain⟨v,h1,rfl⟩:=h;exact ale h1
 .cases h;exact cF.one.2 (.p (.fn #[] #[] rfl rfl (fun j x u a=>by simp at a) (fun j x u a=>by simp at a)))
 cases h
def Does(P:Program)(ρ:Operand->Value)(o:Oper)(w:World)(x:Value)(w':World):Prop:=
 (execOp ρ o).run P w=.ok (.value x) w'\/((execOp ρ o).run P w=.ok .skip w'/\x=undef)
def gC(P:Program)(w0:World)(ρ:Operand->Value)(o:Oper)(m:Mem)(v:V)(u:k_):Prop:=∃x m',Does P ρ o m.w x m'.w/\Ok w0 m'/\Ev m m'/\m'.fr=m.fr/\m'.aj=app u m.aj/\cF m' v x
theorem gC.calm{ρ:Operand->Value}{o:Oper}{v:V}{x:Value}(h:Ok w0 m)(jX:(execOp ρ o).run P m.w=.ok (.value x) m.w)(hv:cF m v x):gC P w0 ρ o m v []:=
 ⟨x,m,.inl jX,h,Ev.refl m,rfl,rfl,hv⟩
section
variable {m:Mem} {ak:Env} {a:Act} {o:Oper} (ay:Ok w0 m) (hr:jt m ak a.tmps)
include ay hr
theorem ahJ{x:Operand}{y:aX}(ho:o.op=.move x\/o.op=.assign x)(hx:de x=some y):gC P w0 a.eval o m (ev ak y) []:=
 .calm ay (by rcases ho with ho|ho<;>simp[execOp,ho]) (eZ hx hr)
theorem atK{c x y:Operand}{c' x' y':aX}{t:Bool}(ho:o.op=.pick c x y)(hc:de c=some c')(hx:de x=some x')(hy:de y=some y')
  (ht:ev ak c'=.one (.p (.bool t))):gC P w0 a.eval o m (if t then ev ak x' else ev ak y') []:=by
 have h1:=eZ hc hr;rw[ht] at h1;obtain⟨⟩:dz m (.p (.bool t)) _:=h1;rename_i hp;generalize hb:a.eval c=b at hp;cases hp;refine .calm (x:=if t then a.eval x else a.eval y) ay ?_ ?_
 .simp[execOp,ho,hb,asBool]
 cases t
 .exact eZ hy hr
 exact eZ hx hr
end
theorem FY{b:Bool}{v:Value}(h:cF m (.one (.p (.bool b))) v):v=.bool b:=by obtain⟨hp⟩:dz m _ v:=h;cases hp;rfl
theorem Ec{k:IntKind}{n:Int}{v:Value}(h:cF m (.one (.p (.int k n))) v):v=.int k n:=by obtain⟨hp⟩:dz m _ v:=h;cases hp;rfl
theorem OS{s:ByteArray}{v:Value}(h:cF m (.one (.p (.str s))) v):v=.string s:=by obtain⟨hp⟩:dz m _ v:=h;cases hp;rfl
theorem Uh{v:Value}(h:cF m (.one (.p .nils)) v):v=.slice none 0 0:=by obtain⟨hp⟩:dz m _ v:=h;cases hp;rfl
theorem apf{v:Value}(h:cF m (.one (.p .zs)) v):∃a,v=.slice a 0 0:=by obtain⟨hp⟩:dz m _ v:=h;cases hp;exact⟨_,rfl⟩
theorem aew{v:Value}(h:cF m (.one (.p .sA)) v):v=.map none:=by obtain⟨hp⟩:dz m _ v:=h;cases hp;rfl
theorem nk{x:PV}{v:Value}(h:cN m.w m.own x v):cF m (.one (.p x)) v:=cF.one.2 (.p h)
def Mem.fresh(m:Mem)(ob:Obj)(s k:Nat)(o:Ob):Mem:=(m.later (m.w.alloc ob) (· =m.w.heap.size)).install s m.w.heap.size k o
theorem Xl(ay:Ok w0 m)(ob:Obj)(s k:Nat)(o:Ob):(m.fresh ob s k o).fr=m.fr:=by
 funext c;simp only[Mem.fresh,Mem.install,Mem.later];apply propext;constructor
 .rintro ⟨h|h,h2⟩
  .exact h
  exact(h2 h).elim
 intro h;exact⟨.inl h,fun e=>by have:=ay.frlt c h;omega⟩
theorem TC(ob:Obj)(s k:Nat)(o:Ob):Ev m (m.fresh ob s k o):=Ud (KS (fY.alloc m.w ob) fun c hc=>Gq hc.symm) (.inr rfl) (.inl (cD _))
theorem ac6(ob:Obj)(s k:Nat)(o:Ob):(m.fresh ob s k o).w.heap[(m.fresh ob s k o).σ s]?=some ob:=by
 have:(m.fresh ob s k o).σ s=m.w.heap.size:=by simp[Mem.fresh,Mem.install,aU]
 rw[this];exact heap_alloc_new m.w ob
theorem ac7(ay:Ok w0 m)(ob:Obj)(s k:Nat)(o:Ob)(ho:ux (m.fresh ob s k o) s o):Ok w0 (m.fresh ob s k o):=Ue (OW ay (fY.alloc m.w ob) fun c hc=>by subst hc;exact⟨cD _,af⟩) (.inr rfl) ay.size ho
theorem Xk(m:Mem)(ob:Obj)(s k:Nat)(o:Ob):(m.fresh ob s k o).aj=app [(s,((m.aj s).1+1,some o))] m.aj:=rfl
theorem ac8(ay:Ok w0 m)(s:Nat)(t:TypeId)(cs:f_)(arr:Array Value)(hc:dO m cs arr.toList):
  Ok w0 (m.fresh (.cells arr t) s 0 (.var cs))/\cF (m.fresh (.cells arr t) s 0 (.var cs)) (.one (.bt s ((m.aj s).1+1) 0)) (.pointer (some ⟨m.w.heap.size,0,none⟩)):=by
 refine⟨ac7 ay _ s 0 _ ⟨arr,t,ac6 _ s 0 _,hc.ev (TC _ s 0 _).zero⟩,cF.one.2 (.bt _ ?_ fun _ _=>?_)⟩
 .simp[Mem.fresh,Mem.install,Mem.later,aU]
 simp[Mem.fresh,Mem.install,aU]
theorem PE{t:TypeId}{z:b_}(h:Br P t=some z):∃v i,P.info? t=some i/\i.zero=some v/\v.cells.size=i.size/\z.length=i.size/\ ∀w own,dM w own z v.cells.toList:=by
 unfold Br at h;split at h
 .rename_i i hi;split at h
  .rename_i cs hz;split at h
   .rename_i hs;have hr:=fun w own=>abE (w:=w) (own:=own) h;refine⟨_,i,hi,hz,by simpa [Value.cells] using hs,?_,fun w own=>by simpa [Value.cells] using hr w own⟩;have:=(hr default (fun _=>False)).1;simp at this;omega
   cases h
  .rename_i v hz hv;split at h
   .rename_i hs;simp only[ef] at h;obtain⟨x,hx,rfl⟩:=h;have hr:=fun w own=>WD (w:=w) (own:=own) hx;have hc:=(hr default (fun _=>False)).cells;refine⟨v,i,hi,hv,by simp[hc,hs],by simp[hs],fun w own=>?_⟩;rw[hc];refine⟨rfl,fun j y u a b=>?_⟩;cases j with
    |zero=>simp at a b;subst a b;exact hr w own
    |succ j=>simp at a
   cases h
  cases h
 cases h
section
variable {m:Mem} {ak:Env} {a:Act} {o:Oper} (ay:Ok w0 m) (hr:jt m ak a.tmps)
include ay
theorem atj{t:TypeId}{z:b_}{s:Nat}(ho:o.op=.alloc t)(hz:Br P t=some z):
  gC P w0 a.eval o m (.one (.bt s ((m.aj s).1+1) 0)) [(s,((m.aj s).1+1,some (.var (z.map .p))))]:=by
 obtain⟨v,i,hi,hv,hs,hl,dX⟩:=PE hz;obtain⟨h1,h2⟩:=ac8 ay s t (z.map .p) v.cells (dX m.w m.own).Ey;refine⟨_,_,.inl ?_,h1,TC _ s 0 _,Xl ay _ s 0 _,Xk _ _ s 0 _,h2⟩;simp[execOp,ho,Instr.alloc,zeroValue,typeInfo,hi,hv,newVar,newRow];rfl
include hr
theorem atm{t:TypeId}{x:Operand}{y:aX}{cs:f_}{s:Nat}(ho:o.op=.box t x)(hx:de x=some y)(hc:sN (ev ak y)=some cs):
  gC P w0 a.eval o m (.one (.bt s ((m.aj s).1+1) 0)) [(s,((m.aj s).1+1,some (.var cs)))]:=by
 have hv:=eZ hx hr;have dF:dO m cs (a.eval x).cells.toList:=by
  generalize ev ak y=w at hc hv;cases w with
  |undef=>simp[sN] at hc
  |tup vs=>simp[sN] at hc
  |one c=>
   simp[sN] at hc;subst hc;rw[(cF.one.1 hv).cells];refine⟨rfl,fun j y u p q=>?_⟩;cases j with
   |zero=>simp at p q;subst p q;exact hv
   |succ j=>simp at p
  |agg ds=>simp[sN] at hc;subst hc;obtain⟨arr,e,h⟩:=cF.agg.1 hv;rw[e];exact h
 obtain⟨h1,h2⟩:=ac8 ay s t cs _ dF;refine⟨_,_,.inl ?_,h1,TC _ s 0 _,Xl ay _ s 0 _,Xk _ _ s 0 _,h2⟩;simp[execOp,ho,Instr.box,newVar,newRow];rfl
end
end
end Go.Abs
namespace Go.Abs
variable {P:Program} {w0:World}
theorem Hb{α:Type}{sz:Nat}:∀ {es:List (List α)},(∀e∈es,e.length=sz)->es.flatten.length=es.length*sz:=by
 intro es
 induction es with
 |nil=>intro _;simp
 |cons e r ih=>intro h;have h1:=h e af;have h2:=ih fun x hx=>h x (by simp[hx]);simp only[mS,gJ,dL,h1,h2,ib,Nat.one_mul];omega
theorem Ha{α:Type}{sz:Nat}:∀ {es:List (List α)},(∀e∈es,e.length=sz)->∀ {i:Nat} {e:List α},es[i]?=some e->∀ {j:Nat},j<sz->es.flatten[i*sz+j]?=e[j]? :=by
 intro es
 induction es with
 |nil=>intro _ i e h;simp at h
 |cons x r ih=>
  intro h i e he j hj;have h1:=h x af;cases i with
  |zero=>simp at he;subst he;simp only[mS,Bu,jr];rw[xB aa]
  |succ i=>simp at he;have h2:=ih (fun y hy=>h y (by simp[hy])) he hj;simp only[mS];rw[Ag (by rw[h1,ib];omega),<- h2];congr 1;rw[h1,ib];omega
theorem Nv{α:Type}{sz:Nat}{es:List (List α)}(h:∀e∈es,e.length=sz){i:Nat}{e:List α}(he:es[i]?=some e):e.length=sz:=h e (aZ he)
theorem E0{w:World}{b k:Nat}{cur:Array Value}{ty:TypeId}{fz:Nat×Nat}(h:w.heap[b]?=some (.cells cur ty fz)):w.cell? ⟨b,k,none⟩=cur[k]? :=cell_of_row w b k cur ty fz h
def At (m:Mem)(v:Value)(cs:f_):Prop:=∃b o vs,v=.pointer (some ⟨b,o,none⟩)/\dO m cs vs/\ ∀(j:Nat) (u:Value),vs[j]?=some u->m.w.cell? ⟨b,o+j,none⟩=some u
theorem At.row{m:Mem}{b o:Nat}{cur:Array Value}{ty:TypeId}{fz:Nat×Nat}(h:m.w.heap[b]?=some (.cells cur ty fz)){cs:f_}(hl:o+cs.length<=cur.size)
  (hc:∀(j:Nat) (x:C) (u:Value),cs[j]?=some x->cur[o+j]?=some u->dz m x u):At m (.pointer (some ⟨b,o,none⟩)) cs:=by
 refine⟨b,o,(cur.toList.drop o).take cs.length,rfl,⟨by simp;omega,fun j x u p q=>?_⟩,fun j u q=>?_⟩
 .rw[l8] at q;split at q
  .exact hc j x u p (by simpa using q)
  cases q
 rw[l8] at q;split at q
 .rw[E0 h];simpa using q
 cases q
theorem ag8{m:Mem}(ay:Ok w0 m){x:V}{v:Value}{cs:f_}{rd:a_}(h:CB m.aj x=some (cs,rd))(hv:cF m x v):At m v cs:=by
 unfold CB at h;split at h
 .rename_i ps;simp only[gn,lE] at h;obtain⟨rfl,rfl⟩:=h;obtain⟨hp⟩:dz m _ v:=hv;cases hp with
  |box b o f ho hc hr=>
   refine⟨b,o,(List.range ps.length).map f,rfl,⟨af,fun j x u p q=>?_⟩,fun j u q=>?_⟩
   .simp only[gk,ef] at p q;obtain⟨y,hy,rfl⟩:=p;obtain⟨k,hk,rfl⟩:=q;have lL:k=j:=by
     rw[tM (by have:=aW.1 hy;obtain⟨h,_⟩:=this;exact h)] at hk
     simpa using hk.symm
    subst lL;exact .p (hr k y hy)
   simp only[gk,ef] at q;obtain⟨k,hk,rfl⟩:=q;have aB:j<ps.length:=by have:=aW.1 hk;obtain⟨h,_⟩:=this;simpa using h
   rw[tM aB] at hk;simp at hk;subst hk;exact hc j _ (rR aB)
 .rename_i id g off;have hv:dz m _ v:=hv;cases hv with
  |bt a hg ha=>
   split at h
   .rename_i g' Ay hb;split at h
    .rename_i jf;simp only[gn,lE] at h;obtain⟨rfl,rfl⟩:=h;have bR:(m.aj id).2=some (.var Ay):=by rw[hb]
     have ha:=ha (by rw[hb];exact jf) (by rw[bR];rfl);subst ha;obtain⟨cur,ty,hh,hl,hc⟩:=ay.obj id _ bR;simp at hl;by_cases ho:off<=Ay.length
     .exact At.row hh (by simp;omega) fun j x u p q=>hc (off+j) x u (by simpa using p) (by simpa using q)
     exact⟨_,_,[],rfl,⟨by simp;omega,fun j x u p q=>by simp at q⟩,fun j u q=>by simp at q⟩
    cases h
   .rename_i g' Ay hb;split at h
    .rename_i jf;simp only[gn,lE] at h;obtain⟨rfl,rfl⟩:=h;have bR:(m.aj id).2=some (.fvar Ay):=by rw[hb]
     have ha:=ha (by rw[hb];exact jf) (by rw[bR];rfl);subst ha;obtain⟨cur,ty,fz,hh,hp,_⟩:=ay.obj id _ bR;have hl:=hp.1;simp at hl;by_cases ho:off<=Ay.length
     .refine At.row hh (by simp;omega) fun j x u p q=>?_;simp only[gk,ef] at p;obtain⟨y,hy,rfl⟩:=p;exact .p (hp.2 (off+j) y u (by simpa using hy) (by simpa using q))
     exact⟨_,_,[],rfl,⟨by simp;omega,fun j x u p q=>by simp at q⟩,fun j u q=>by simp at q⟩
    cases h
   cases h
 .rename_i id g i off;have hv:dz m _ v:=hv;cases hv with
  |dy a hg ha=>
   have key:∀(sz:Nat) (e:f_) (cur:Array Value) (ty:TypeId) (fz:Nat×Nat),m.w.heap[m.σ id]?=some (.cells cur ty fz)->e.length=sz->(i+1)*sz<=cur.size->
     a=⟨m.σ id,i*sz+off,none⟩->(∀(j:Nat) (x:C) (u:Value),e[j]?=some x->cur[i*sz+j]?=some u->dz m x u)->At m (.pointer (some a)) (e.drop off):=by
    intro sz e cur ty fz hh he aB xY hc;subst xY;rw[ib,Nat.one_mul] at aB;by_cases ho:off<=e.length
    .exact At.row hh (by simp;omega) fun j x u p q=>hc (off+j) x u (by simpa using p) (by rw[<- EM];exact q)
    exact⟨_,_,[],rfl,⟨by simp;omega,fun j x u p q=>by simp at q⟩,fun j u q=>by simp at q⟩
   have pure:∀(ty sz:Nat) (es:s_) (e:b_) (cur:Array Value) (fz:Nat×Nat),m.w.heap[m.σ id]?=some (.cells cur ty fz)->(∀e∈es,e.length=sz)->es.length*sz<=cur.size->
     dM m.w m.own es.flatten (cur.toList.take (es.length*sz))->es[i]?=some e->a=⟨m.σ id,i*sz+off,none⟩->At m (.pointer (some a)) ((e.drop off).map .p):=by
    intro ty sz es e cur fz hh cT hlen dX he xY;have dy:=Nv cT he;have hi:i<es.length:=(aW.1 he).1;have zA:(i+1)*sz<=es.length*sz:=mV _ hi;rw[List.map_drop];refine key sz (e.map .p) cur ty fz hh (by simpa using dy) aa xY fun j x u p q=>?_;simp only[gk,ef] at p;obtain⟨y,hy,rfl⟩:=p;have hj:j<sz:=by have:=(aW.1 hy).1;omega
    refine .p (dX.2 (i*sz+j) y u (by rw[Ha cT he hj];exact hy) ?_);rw[ib] at zA;rw[l8,aG aa]
    simpa using q
   split at h
   .rename_i g' ty sz es hb;split at h
    .rename_i jf;simp only[ef,lE] at h;obtain⟨e,he,rfl,rfl⟩:=h;have bR:(m.aj id).2=some (.arr ty sz es):=by rw[hb]
     obtain⟨cur,hh,qO,cT,hl,hm,dF,dX⟩:=ay.obj id _ bR;exact pure ty sz es e cur _ hh cT (by rw[dF];exact mV _ hl) dX he (ha sz (by rw[hb];exact jf) (by rw[hb];rfl))
    cases h
   .rename_i g' ty sz es hb;split at h
    .rename_i jf;simp only[ef,lE] at h;obtain⟨e,he,rfl,rfl⟩:=h;have bR:(m.aj id).2=some (.qF ty sz es):=by rw[hb]
     obtain⟨cur,fz,hh,qO,cT,hl,hm,dF,dX,_⟩:=ay.obj id _ bR;exact pure ty sz es e cur _ hh cT (by rw[dF];exact mV _ hl) dX he (ha sz (by rw[hb];exact jf) (by rw[hb];rfl))
    cases h
   .rename_i g' ty sz es hb;split at h
    .rename_i jf;simp only[ef,lE] at h;obtain⟨e,he,rfl,rfl⟩:=h;have bR:(m.aj id).2=some (.jg ty sz es):=by rw[hb]
     obtain⟨cur,hh,qO,cT,hl,hm,dF,dX⟩:=ay.obj id _ bR;have dy:=Nv cT he;have hi:i<es.length:=(aW.1 he).1;have zA:(i+1)*sz<=es.length*sz:=mV _ hi;have adW:es.length*sz<=m.κ id*sz:=mV _ hl;refine key sz e cur ty _ hh dy aa (ha sz (by rw[hb];exact jf) (by rw[hb];rfl)) fun j x u p q=>?_;have hj:j<sz:=by have:=(aW.1 p).1;omega
     refine dX.2 (i*sz+j) x u (by rw[Ha cT he hj];exact p) ?_;rw[ib] at zA;rw[l8,aG aa]
     simpa using q
    cases h
   cases h
 cases h
end Go.Abs
namespace Go.Abs
variable {P:Program} {w0:World}
theorem apq{t:TypeId}{n:Nat}(h:se P t=some (some n)):∃d i,P.underlying t=some d/\P.info? t=some i/\i.size=n/\((∃fs,d=.struct fs)\/ ∃k e,d=.array k e):=by
 unfold se at h;split at h
 .rename_i fs i h1 h2;simp at h;exact⟨_,i,h1,h2,h,.inl ⟨fs,rfl⟩⟩
 .rename_i k e i h1 h2;simp at h;exact⟨_,i,h1,h2,h,.inr ⟨k,e,rfl⟩⟩
 .split at h<;>simp at h
 cases h
theorem apo{t:TypeId}(h:se P t=some none):∃d i,P.underlying t=some d/\P.info? t=some i/\i.size=1/\(∀fs,d≠ .struct fs)/\ ∀k e,d≠ .array k e:=by
 unfold se at h;split at h
 .simp at h
 .simp at h
 .rename_i d i n1 n2 h1 h2;split at h
  .rename_i hs;exact⟨_,_,h1,h2,hs,fun fs e=>n1 fs e,fun k e' e=>n2 k e' e⟩
  cases h
 cases h
theorem ahr{t:TypeId}{n:Nat}(h:se P t=some (some n))(w:World):(isAgg t).run P w=.ok true w/\(sizeOf t).run P w=.ok n w:=by
 obtain⟨d,i,h1,h2,h3,h4⟩:=apq h;constructor
 .rcases h4 with ⟨fs,rfl⟩|⟨k,e,rfl⟩<;>simp[isAgg,run_underlying h1]
 simp[sizeOf,typeInfo,h2,h3]
theorem ahq{t:TypeId}(h:se P t=some none)(w:World):(isAgg t).run P w=.ok false w/\(sizeOf t).run P w=.ok 1 w:=by
 obtain⟨d,i,h1,h2,h3,h4,h5⟩:=apo h;constructor
 .cases d<;>first
   |exact(h4 _ rfl).elim
   |exact(h5 _ _ rfl).elim
   |simp[isAgg,run_underlying h1]
 simp[sizeOf,typeInfo,h2,h3]
theorem afF{m:Mem}{t:TypeId}{k:w_}(hk:se P t=some k){v:Value}{cs:f_}(h:At m v cs){x:V}(hx:qZ k cs=some x):
  ∃a y,v=.pointer (some a)/\(loadVar t a).run P m.w=.ok y m.w/\cF m x y:=by
 obtain⟨b,o,vs,rfl,dF,jU⟩:=h;cases k with
 |none=>
  obtain⟨h1,h2⟩:=ahq hk m.w;cases cs with
  |nil=>simp[qZ] at hx
  |cons c r=>
   simp[qZ] at hx;subst hx;obtain⟨hl,hr⟩:=dF;cases vs with
   |nil=>simp at hl
   |cons u us=>have h0:=jU 0 u rfl;refine⟨_,u,rfl,?_,cF.one.2 (hr 0 c u rfl rfl)⟩;rw[u7] at h0;simp[loadVar,h1,h0]
 |some n=>
  obtain⟨h1,h2⟩:=ahr hk m.w;simp only[qZ] at hx;split at hx
  .rename_i hn;cases hx;obtain⟨hl,hr⟩:=dF;refine⟨_,.agg (vs.take n).toArray,rfl,?_,cF.agg.2 ⟨_,rfl,by simp;omega,fun j x u p q=>?_⟩⟩
   .have hlen:(vs.take n).length=n:=by simp;omega
    have:=run_loadCells_list (P:=P) m.w ⟨b,o,none⟩ (vs.take n) (fun j u q=>by
     rw[Addr.add_lit];rw[l8] at q;split at q
     .exact jU j u q
     cases q)
    rw[hlen] at this;simp[loadVar,h1,h2,this]
   rw[l8] at p;simp only[l8] at q;split at p
   .rename_i hj;simp only[hj,if_true] at q;exact hr j x u p q
   cases p
  cases hx
section
variable {m:Mem} {ak:Env} {a:Act} {o:Oper} (ay:Ok w0 m) (hr:jt m ak a.tmps)
include ay hr
theorem aty{t:TypeId}{x:Operand}{y:aX}{k:w_}{cs:f_}{rd:a_}{v:V}(ho:o.op=.load t x)(hk:se P t=some k)(hx:de x=some y)
  (hc:CB m.aj (ev ak y)=some (cs,rd)) (hv:qZ k cs=some v):gC P w0 a.eval o m v []:=by
 obtain⟨ad,y',h1,h2,h3⟩:=afF hk (ag8 ay hc (eZ hx hr)) hv;exact .calm ay (by simp[execOp,ho,h1,Instr.loadAt,Instr.sureAddr,h2]) h3
theorem atI{x:Operand}{y:aX}{v:V}(ho:o.op=.nilCheck x)(hx:de x=some y)(hv:bU (fun _=>false) ak m.aj (.K9 y)=.done v [] []):gC P w0 a.eval o m v []:=by
 have eY:=eZ hx hr;simp only[bU] at hv;split at hv
 .rename_i he;rw[he] at eY;cases hv;have hc:dz m _ (a.eval x):=eY;generalize hb:a.eval x=b at hc eY;cases hc with
  |bt ad hg h=>exact .calm ay (by simp[execOp,ho,hb]) eY
 .rename_i he;rw[he] at eY;cases hv;have hc:dz m _ (a.eval x):=eY;generalize hb:a.eval x=b at hc eY;cases hc with
  |dy ad hg h=>exact .calm ay (by simp[execOp,ho,hb]) eY
 .rename_i he;rw[he] at eY;cases hv;have hc:dz m _ (a.eval x):=eY;generalize hb:a.eval x=b at hc eY;cases hc with
  |p hp=>cases hp with
   |box b' o' f lW iz mL=>exact .calm ay (by simp[execOp,ho,hb]) eY
 .rename_i he;rw[he] at eY;cases hv;have hc:dz m _ (a.eval x):=eY;generalize hb:a.eval x=b at hc eY;cases hc with
  |hfn A B ha wI wT r8=>exact .calm ay (by simp[execOp,ho,hb]) eY
 .rename_i he;rw[he] at eY;cases hv;have hc:dz m _ (a.eval x):=eY;generalize hb:a.eval x=b at hc eY;cases hc with
  |p hp=>cases hp with
   |fn A B ha wI wT r8=>exact .calm ay (by simp[execOp,ho,hb]) eY
 cases hv
end
end Go.Abs
namespace Go.Abs
variable {P:Program} {w0:World}
section
variable{vs:List Value}{off:Nat}
theorem cN.norm{w:World}{own:Nat->Prop}{x:PV}{v:Value}(h:cN w own x v):cN w own x.norm v:=by
 cases h<;>first
  |exact .zZ none 0 (fun _=>rfl) (cA _)
  |exact .zZ _ 0 (fun _=>rfl) (cA _)
  |(simp only[PV.norm];constructor<;>assumption)
theorem auW{m:Mem}{c:C}{x:PV}{v:Value}(h:toP c=some x)(hr:dz m c v):cN m.w m.own x v:=by
 cases hr<;>simp[toP] at h
 rename_i hp;subst h;exact hp.norm
theorem Ps{m:Mem}:∀ {cs:f_} {xs:b_} {vs:List Value},CJ cs=some xs->dO m cs vs->dM m.w m.own xs vs:=by
 intro cs
 induction cs with
 |nil=>intro xs vs h hr;simp[CJ] at h;subst h;exact⟨hr.1,fun j x u a=>by simp at a⟩
 |cons c r ih=>
  intro xs vs h hr;simp only[CJ] at h;split at h
  .rename_i x ys h1 h2;cases h;cases vs with
   |nil=>simp[dO] at hr
   |cons v us=>
    obtain⟨hl,DW⟩:=ih (vs:=us) h2 ⟨by simpa using hr.1,fun j x u a b=>hr.2 (j+1) x u (by simpa using a) (by simpa using b)⟩;refine⟨by simp[hl],fun j z u a b=>?_⟩;cases j with
    |zero=>simp at a b;subst a b;exact auW h1 (hr.2 0 c v rfl rfl)
    |succ j=>simp at a b;exact DW j z u a b
  cases h
def Pw {α:Type}(R:α->Value->Prop)(xs:List α)(vs:List Value):Prop:=vs.length=xs.length/\ ∀(j:Nat) (x:α) (u:Value),xs[j]?=some x->vs[j]?=some u->R x u
theorem Pw.take{α:Type}{R:α->Value->Prop}{xs:List α}(h:Pw R xs vs)(n:Nat):Pw R (xs.take n) (vs.take n):=by
 refine⟨by simp[h.1],fun j x u a b=>?_⟩;rw[l8] at a b;split at a
 .rename_i hj;rw[aG hj] at b;exact h.2 j x u a b
 cases a
theorem Pw.drop{α:Type}{R:α->Value->Prop}{xs:List α}(h:Pw R xs vs)(n:Nat):Pw R (xs.drop n) (vs.drop n):=
 ⟨by simp[h.1],fun j x u a b=>h.2 (n+j) x u (by simpa using a) (by simpa using b)⟩
theorem Pw.append{α:Type}{R:α->Value->Prop}{xs ys:List α}{us:List Value}(h:Pw R xs vs)(k:Pw R ys us):Pw R (xs++ys) (vs++us):=by
 refine⟨by simp[h.1,k.1],fun j x u a b=>?_⟩;by_cases hj:j<xs.length
 .rw[xB hj] at a;rw[xB (by rw[h.1];exact hj)] at b;exact h.2 j x u a b
 rw[Ag aa] at a;rw[Ag (by rw[h.1];omega),h.1] at b;exact k.2 _ x u a b
theorem Pw.ft{α:Type}{R:α->Value->Prop}{xs ys:List α}{us:List Value}(h:Pw R xs vs)(k:Pw R ys us)(off:Nat):Pw R (ft xs off ys) (ft vs off us):=by unfold Abs.ft;rw[k.1];exact((h.take off).append k).append (h.drop _)
theorem Vn{α:Type}{cs xs:List α}(h:off+xs.length<=cs.length):(ft cs off xs).length=cs.length:=by simp[ft];omega
theorem ah5{α:Type}{cs xs:List α}{n:Nat}(h:off+xs.length<=n)(hn:n<=cs.length):(ft cs off xs).take n=ft (cs.take n) off xs:=by unfold ft;rw[L8,L8,Gp,List.drop_take];simp only[gJ,iH];rw[Aj (by omega:off<=cs.length),Gp,Aj (by omega:off<=n),Nat.min_eq_right (by omega:off<=n)];have e:n-(off+xs.length)=n-(off+xs.length):=rfl;rw[gT (by omega:xs.length<=n-off)]
theorem auo{α:Type}{a cs xs:List α}:ft (a++cs) (a.length+off) xs=a++ft cs off xs:=by unfold ft;rw[L8,List.drop_append];simp only[vW];rw[gT (by omega:a.length<=a.length+off),List.drop_of_length_le (by omega:a.length<=a.length+off+xs.length)];simp only[gR];have e1:a.length+off-a.length=off:=aa;have e2:a.length+off+xs.length-a.length=off+xs.length:=aa;rw[e1,e2]
theorem aun{α:Type}{a cs xs:List α}(h:off+xs.length<=a.length):ft (a++cs) off xs=ft a off xs++cs:=by unfold ft;rw[PK aa,List.drop_append_of_le_length aa];simp
theorem amU{α:Type}{sz:Nat}{ps:List α}:∀ {es:List (List α)},(∀e∈es,e.length=sz)->∀ {i:Nat} {e:List α},es[i]?=some e->off+ps.length<=sz->
  (es.set i (ft e off ps)).flatten=ft es.flatten (i*sz+off) ps:=by
 intro es
 induction es with
 |nil=>intro _ i e h;simp at h
 |cons x r ih=>
  intro h i e he hl;have h1:=h x af;cases i with
  |zero=>simp at he;subst he;simp only[List.set_cons_zero,mS,Bu,jr];rw[aun aa]
  |succ i=>
   simp at he;simp only[List.set_cons_succ,mS];rw[ih (fun y hy=>h y (by simp[hy])) he hl];have hh:(i+1)*sz+off=x.length+(i*sz+off):=by rw[h1,ib];omega
   rw[hh,auo]
theorem Pn{w:World}{g:Nat}{cur new:Array Value}{ty:TypeId}{fz:Nat×Nat}(h:w.heap[g]?=some (.cells cur ty fz)):(w.setRow g new).heap[g]?=some (.cells new ty fz):=setRow_heap w g cur new ty fz h
theorem dO.pw{m:Mem}{cs:f_}:dO m cs vs↔Pw (dz m) cs vs:=Iff.rfl
theorem dM.pw{w:World}{own:Nat->Prop}{cs:b_}:dM w own cs vs↔Pw (cN w own) cs vs:=Iff.rfl
theorem dO.one{m:Mem}{cs:f_}(h:dO m cs vs):∀v∈vs,v.oneCell'=true:=by
 intro v hv;obtain⟨j,hj⟩:=ia hv;have aB:j<cs.length:=by rw[<- h.1];exact(aW.1 hj).1
 exact(h.2 j _ v (rR aB) hj).O6
theorem Wq{m:Mem}{x:V}{v:Value}{cs:f_}(h:sN x=some cs)(hr:cF m x v):dO m cs v.cells.toList:=by
 cases x with
 |undef=>simp[sN] at h
 |tup vs=>simp[sN] at h
 |one c=>
  simp[sN] at h;subst h;rw[(cF.one.1 hr).cells];refine⟨rfl,fun j y u p q=>?_⟩;cases j with
  |zero=>simp at p q;subst p q;exact hr
  |succ j=>simp at p
 |agg ds=>simp[sN] at h;subst h;obtain⟨arr,e,h⟩:=cF.agg.1 hr;rw[e];exact h
section
variable {m:Mem} {ak:Env} {a:Act} {o:Oper} (ay:Ok w0 m) (hr:jt m ak a.tmps)
include ay hr
theorem atP{t:TypeId}{x v:Operand}{x' v':aX}{n:Nat}{cs:f_}{r:V}{u:k_}{rd:a_}(ho:o.op=.store t x v)(hn:yI P t=some n)(hx:de x=some x')(hv:de v=some v')
  (hc:sN (ev ak v')=some cs) (hw:Bq m.aj (ev ak x') n cs=.done r u rd):gC P w0 a.eval o m r u:=by
 have dF:=Wq hc (eZ hv hr);have lY:=eZ hx hr;unfold yI at hn;simp only[ef] at hn;obtain⟨i,hi,jC⟩:=hn;have cT:(a.eval v).cells.toList.length=cs.length:=dF.1;simp only[Array.length_toList] at cT;unfold Bq at hw;split at hw
 .cases hw
 rename_i hlen;have hlen:cs.length=n:=by simpa using hlen
 have T3:=dF.one;split at hw
 .rename_i id g off he;rw[he] at lY;have lY:dz m _ (a.eval x):=lY;generalize hb:a.eval x=b at lY;cases lY with
  |bt ad hg oE=>
   split at hw
   .rename_i g' Ay jL;split at hw
    .rename_i NV;obtain⟨jf,hfit⟩:=NV;cases hw;have bR:(m.aj id).2=some (.var Ay):=by rw[jL]
     have oE:=oE (by rw[jL];exact jf) (by rw[bR];rfl);subst oE;obtain⟨cur,ty,hh,dX⟩:=ay.obj id _ bR;have cK:=dX.1;simp at cK;have BQ:off+0+(a.eval v).cells.toList.length<=cur.size:=by simp;omega
     have di:=run_storeCells_at P (m.σ id) off ty (a.eval v).cells.toList 0 cur m.w hh BQ T3;simp only[u7] at di;generalize hW:m.w.setRow (m.σ id) (cur.toList.take off++(a.eval v).cells.toList++cur.toList.drop (off+(a.eval v).cells.toList.length)).toArray=W at di;have Fw:W.heap.size=m.w.heap.size:=by rw[<- hW];simp
     have Fv:∀c,c≠m.σ id->W.heap[c]?=m.w.heap[c]? :=fun c hc=>by rw[<- hW];exact setRow_other m.w (m.σ id) c _ hc
     have eO:=Pm (w':=W) (o:=.var (ft Ay off cs)) bR rfl (by simp[lO]) (by rw[<- hW];rfl) (by rw[<- hW];rfl) (by rw[<- hW];rfl) Fw Fv;have DT:ux (m.kK W id (.var (ft Ay off cs))) id (.var (ft Ay off cs)):=by
      refine⟨_,ty,by rw[<- hW];exact Pn hh,?_⟩;have:=dO.pw.2 ((dO.pw.1 (dX.ev eO.zero)).ft (dO.pw.1 (dF.ev eO.zero)) off)
      simpa [ft] using this
     refine⟨undef,m.kK W id (.var (ft Ay off cs)),.inr ⟨?_,rfl⟩,Vc bR rfl ay (by simp[lO]) (by rw[<- hW];rfl) (by rw[<- hW];rfl) (by rw[<- hW];rfl) Fw Fv DT,eO,rfl,?_,rfl⟩
     .simp only[execOp,ho,hb,Instr.storeAt,Instr.sureAddr,storeVar,sizeOf,typeInfo];simp[hi,cT,hlen,jC,di,Mem.kK]
     simp[Mem.kK,app,jL,jf]
    cases hw
   cases hw
 .rename_i id g i' off he;rw[he] at lY;have lY:dz m _ (a.eval x):=lY;generalize hb:a.eval x=b at lY;cases lY with
  |dy ad hg oE=>
   split at hw
   .rename_i g' ty sz es jL;split at hw
    .rename_i e ps Hp T5;split at hw
     .rename_i NV;obtain⟨jf,hfit⟩:=NV;cases hw;have bR:(m.aj id).2=some (.arr ty sz es):=by rw[jL]
      have oE:=oE sz (by rw[jL];exact jf) (by rw[jL];rfl);subst oE;obtain⟨cur,hh,qO,uO,hl,hm,adL,dX⟩:=ay.obj id _ bR;have dy:=Nv uO Hp;have an9:i'<es.length:=(aW.1 Hp).1;have zA:(i'+1)*sz<=es.length*sz:=mV _ an9;have adW:es.length*sz<=m.κ id*sz:=mV _ hl;rw[ib,Nat.one_mul] at zA;have hpsl:ps.length=cs.length:=by rw[<- dF.1];exact(Ps T5 dF).1.symm
      have BQ:i'*sz+off+0+(a.eval v).cells.toList.length<=cur.size:=by simp;omega
      have di:=run_storeCells_at P (m.σ id) (i'*sz+off) ty (a.eval v).cells.toList 0 cur m.w hh BQ T3;simp only[u7] at di;generalize hW:m.w.setRow (m.σ id) (cur.toList.take (i'*sz+off)++(a.eval v).cells.toList++cur.toList.drop (i'*sz+off+(a.eval v).cells.toList.length)).toArray=W at di;have Fw:W.heap.size=m.w.heap.size:=by rw[<- hW];simp
      have Fv:∀c,c≠m.σ id->W.heap[c]?=m.w.heap[c]? :=fun c hc=>by rw[<- hW];exact setRow_other m.w (m.σ id) c _ hc
      have eO:=Pm (w':=W) (o:=.arr ty sz (es.set i' (ft e off ps))) bR rfl (by simp[lO]) (by rw[<- hW];rfl) (by rw[<- hW];rfl) (by rw[<- hW];rfl) Fw Fv;have DT:ux (m.kK W id (.arr ty sz (es.set i' (ft e off ps)))) id (.arr ty sz (es.set i' (ft e off ps))):=by
       refine⟨_,by rw[<- hW];exact Pn hh,qO,?_,by rw[nA];exact hl,hm,?_,?_⟩
       .intro e' DF;rcases List.mem_or_eq_of_mem_set DF with h|h
        .exact uO e' h
        rw[h,Vn aa];exact dy
       .simp[Mem.kK];omega
       rw[nA,amU uO Hp aa];have h1:=(dM.pw.1 (dX.ev eO.zero)).ft (dM.pw.1 ((Ps T5 dF).ev eO.zero)) (i'*sz+off);rw[<- ah5 (by simp;omega) (by simp;omega)] at h1;have h1:=dM.pw.2 h1
       simpa [ft] using h1
      refine⟨undef,m.kK W id (.arr ty sz (es.set i' (ft e off ps))),.inr ⟨?_,rfl⟩,Vc bR rfl ay (by simp[lO]) (by rw[<- hW];rfl) (by rw[<- hW];rfl) (by rw[<- hW];rfl) Fw Fv DT,eO,rfl,?_,rfl⟩
      .simp only[execOp,ho,hb,Instr.storeAt,Instr.sureAddr,storeVar,sizeOf,typeInfo];simp[hi,cT,hlen,jC,di,Mem.kK]
      simp[Mem.kK,app,jL,jf]
     cases hw
    cases hw
   cases hw
 cases hw
end
end
end Go.Abs
namespace Go.Abs
variable {P:Program} {w0:World}
theorem Au{m:Mem}{x:V}{v:Value}{n:Nat}(h:qC x=some n)(hr:cF m x v):∃k,v=.int k (n:Int):=by
 unfold qC at h;split at h
 .rename_i k z;split at h
  .rename_i hz;cases h;exact⟨k,by rw[Ec hr,Int.toNat_of_nonneg hz]⟩
  cases h
 cases h
theorem Vf{t:TypeId}{n:Nat}(h:yI P t=some n)(w:World):(sizeOf t).run P w=.ok n w:=by unfold yI at h;simp only[ef] at h;obtain⟨i,hi,rfl⟩:=h;simp[sizeOf,typeInfo,hi]
section
variable {m:Mem} {ak:Env} {a:Act} {o:Oper} (ay:Ok w0 m) (hr:jt m ak a.tmps)
include ay hr
theorem atu{s:TypeId}{x:Operand}{f:Nat}{fs:Array Field}{d:Field}{y:aX}{v:V}(ho:o.op=.fieldAddr s x f)(hs:P.underlying s=some (.struct fs))(hf:fs[f]?=some d)
  (hz:P.cellsOf d.type≠0) (hx:de x=some y) (hv:bU (fun _=>false) ak m.aj (.G9 d.offset y)=.done v [] []):gC P w0 a.eval o m v []:=by
 have eY:=eZ hx hr;have cT:∃n,(sizeOf d.type).run P m.w=.ok n m.w/\n≠0:=by
  unfold Program.cellsOf at hz;cases hi:P.info? d.type with
  |none=>simp[hi] at hz
  |some i=>exact⟨i.size,by simp[sizeOf,typeInfo,hi],by simpa [hi] using hz⟩
 obtain⟨n,hn,fE⟩:=cT;have run:∀ad,a.eval x=.pointer (some ad)->(execOp a.eval o).run P m.w=.ok (.value (.pointer (some (ad.add d.offset)))) m.w:=by intro ad oE;simp[execOp,ho,oE,Instr.fieldAt,run_underlying hs,hf,Instr.sureAddr,fieldPlace,hn,fE]
 simp only[bU] at hv;split at hv
 .rename_i id g off he;rw[he] at eY;cases hv;have hc:dz m _ (a.eval x):=eY;generalize hb:a.eval x=b at hc;cases hc with
  |bt ad hg h=>exact .calm ay (run _ hb) (cF.one.2 (.bt _ hg fun h1 h2=>by rw[h h1 h2,Addr.add_lit]))
 .rename_i id g i off he;rw[he] at eY;cases hv;have hc:dz m _ (a.eval x):=eY;generalize hb:a.eval x=b at hc;cases hc with
  |dy ad hg h=>exact .calm ay (run _ hb) (cF.one.2 (.dy _ hg fun sz h1 h2=>by rw[h sz h1 h2,Addr.add_lit,EM]))
 .rename_i cs he;rw[he] at eY;cases hv;have hc:dz m _ (a.eval x):=eY;generalize hb:a.eval x=b at hc;cases hc with
  |p hp=>cases hp with
   |box b' o' f' lW iz mL=>refine .calm ay (run _ hb) (nk ?_);rw[Addr.add_lit];refine .box b' (o'+d.offset) (fun j=>f' (d.offset+j)) (fun h=>lW fun e=>h (by simp[e])) (fun j z h=>?_) fun j z h=>mL _ z (by simpa using h);rw[EM];exact iz _ z (by simpa using h)
 cases hv
theorem atw{t e:TypeId}{x i:Operand}{sz:Nat}{x' i':aX}{v:V}(ho:o.op=.indexAddr t x i)(ht:P.underlying t=some (.slice e))(hs:yI P e=some sz)
  (hx:de x=some x') (hi:de i=some i') (hv:bU (fun _=>false) ak m.aj (.HO sz x' i')=.done v [] []):gC P w0 a.eval o m v []:=by
 have eY:=eZ hx hr;have Ky:=eZ hi hr;have run:∀ad len cap k (n:Nat),a.eval x=.slice (some ad) len cap->a.eval i=.int k (n:Int)->n<len->(execOp a.eval o).run P m.w=.ok (.value (.pointer (some (ad.add (n*sz))))) m.w:=by intro ad len cap k n h1 h2 h3;simp[execOp,ho,h1,h2,Instr.indexAt,asIntOf,run_underlying ht,Vf hs,h3]
 simp only[bU] at hv;split at hv
 .rename_i n es hn he;obtain⟨k,hk⟩:=Au hn Ky;rw[he] at eY;split at hv
  .rename_i el dy;split at hv
   .rename_i hlen;cases hv;have hc:dz m _ (a.eval x):=eY;generalize hb:a.eval x=b at hc;cases hc with
    |p hp=>
     generalize iE:(PV.sl es)=pv at hp;cases hp<;>first
      |cases iE
      |skip
     .simp at dy
     rename_i b' o' cap cH f iS lW jV cT uJ DW;have aB:n<es.length:=(aW.1 dy).1;have Yk:cH=sz:=by rw[<- Nv cT dy];exact hlen
     subst Yk;refine .calm ay (run _ _ _ k n hb hk aB) (nk ?_);rw[Addr.add_lit];refine .box b' (o'+n*cH) (fun j=>f (n*cH+j)) (fun h=>lW ?_) (fun j z h=>?_) fun j z h=>?_
     .intro e0;cases el with
      |nil=>exact h rfl
      |cons c r=>have:=Ha cT dy (j:=0) (by rw[<- hlen];simp);rw[e0] at this;simp at this
     .have hj:j<cH:=by rw[<- hlen];exact(aW.1 h).1
      rw[EM];exact uJ _ z (by rw[Ha cT dy hj];exact h)
     have hj:j<cH:=by rw[<- hlen];exact(aW.1 h).1
     exact DW _ z (by rw[Ha cT dy hj];exact h)
   cases hv
  cases hv
 .rename_i n id g z off len hn he;obtain⟨k,hk⟩:=Au hn Ky;rw[he] at eY;split at hv
  .rename_i aB;cases hv;have hc:dz m _ (a.eval x):=eY;generalize hb:a.eval x=b at hc;cases hc with
   |hsl ad cap hg hl hm h=>refine .calm ay (run _ _ _ k n hb hk aB.1) (cF.one.2 (.dy _ hg fun s h1 h2=>?_));obtain⟨e1,e2,_⟩:=h s h1 h2;rw[e2 (.inr aa),Addr.add_lit,e1,aB.2];simp[ib]
  cases hv
 cases hv
theorem ath{t e:TypeId}{x i:Operand}{sz ln:Nat}{x' i':aX}{v:V}(ho:o.op=.indexAddr t x i)(ht:P.underlying t=some (.array ln e))(hs:yI P e=some sz)
  (hx:de x=some x') (hi:de i=some i') (hv:bU (fun _=>false) ak m.aj (.IY ln sz x' i')=.done v [] []):gC P w0 a.eval o m v []:=by
 have eY:=eZ hx hr;have Ky:=eZ hi hr;have run:∀ad k (n:Nat),a.eval x=.pointer (some ad)->a.eval i=.int k (n:Int)->n<ln->(execOp a.eval o).run P m.w=.ok (.value (.pointer (some (ad.add (n*sz))))) m.w:=by intro ad k n h1 h2 h3;simp[execOp,ho,h1,h2,Instr.indexAt,asIntOf,run_underlying ht,Vf hs,h3,Instr.sureAddr]
 simp only[bU] at hv;split at hv
 .rename_i n id g off hn he;obtain⟨k,hk⟩:=Au hn Ky;rw[he] at eY;split at hv
  .rename_i aB;cases hv;have hc:dz m _ (a.eval x):=eY;generalize hb:a.eval x=b at hc;cases hc with
   |bt ad hg h=>exact .calm ay (run _ k n hb hk aB) (cF.one.2 (.bt _ hg fun h1 h2=>by rw[h h1 h2,Addr.add_lit]))
  cases hv
 .rename_i n id g j off hn he;obtain⟨k,hk⟩:=Au hn Ky;rw[he] at eY;split at hv
  .rename_i aB;cases hv;have hc:dz m _ (a.eval x):=eY;generalize hb:a.eval x=b at hc;cases hc with
   |dy ad hg h=>exact .calm ay (run _ k n hb hk aB) (cF.one.2 (.dy _ hg fun s h1 h2=>by rw[h s h1 h2,Addr.add_lit,EM]))
  cases hv
 .rename_i n cs hn he;obtain⟨k,hk⟩:=Au hn Ky;rw[he] at eY;split at hv
  .rename_i aB;cases hv;have hc:dz m _ (a.eval x):=eY;generalize hb:a.eval x=b at hc;cases hc with
   |p hp=>cases hp with
    |box b' o' f' lW iz mL=>refine .calm ay (run _ k n hb hk aB) (nk ?_);rw[Addr.add_lit];refine .box b' (o'+n*sz) (fun j=>f' (n*sz+j)) (fun h=>lW fun e=>h (by simp[e])) (fun j z h=>?_) fun j z h=>mL _ z (by simpa using h);rw[EM];exact iz _ z (by simpa using h)
  cases hv
 cases hv
theorem agF{t:TypeId}{k:w_}(hk:se P t=some k){cs:f_}{arr:Array Value}(hc:dO m cs arr.toList){off:Nat}{x:V}(hx:qZ k (cs.drop off)=some x):
  ∃y,(part t arr off).run P m.w=.ok y m.w/\cF m x y:=by
 have _u0:=ay;have _u1:=hr;have hl:=hc.1;simp at hl;cases k with
 |none=>
  obtain⟨h1,h2⟩:=ahq hk m.w;cases hd:cs.drop off with
  |nil=>simp[hd,qZ] at hx
  |cons c r=>
   simp[hd,qZ] at hx;subst hx;have dF:cs[off]?=some c:=by
    have:=congrArg (·[0]?) hd
    simpa using this
   have aB:off<arr.size:=by rw[hl];exact(aW.1 dF).1
   refine⟨arr[off],by simp[part,h1,aB],cF.one.2 (hc.2 off c _ dF (by simp[aB]))⟩
 |some n=>
  obtain⟨h1,h2⟩:=ahr hk m.w;simp only[qZ] at hx;split at hx
  .rename_i hn;cases hx;simp at hn;refine⟨.agg (arr.extract off (off+n)),by simp[part,h1,h2],cF.agg.2 ⟨_,rfl,by simp;omega,fun j x u p q=>?_⟩⟩;rw[l8] at p;split at p
   .rename_i hj;simp at p;refine hc.2 (off+j) x u p ?_;have aB:off+j<cs.length:=(aW.1 p).1;have he:(arr.extract off (off+n)).toList=(arr.toList.drop off).take n:=af;rw[he,l8,aG hj,Ah] at q;exact q
   cases p
  cases hx
theorem atv{t:TypeId}{x:Operand}{f:Nat}{fs:Array Field}{d:Field}{y:aX}{k:w_}{cs:f_}{v:V}(ho:o.op=.field t x f)(hs:P.underlying t=some (.struct fs))(hf:fs[f]?=some d)
  (hk:se P d.type=some k) (hx:de x=some y) (hy:ev ak y=.agg cs) (hv:qZ k (cs.drop d.offset)=some v):gC P w0 a.eval o m v []:=by
 have eY:=eZ hx hr;rw[hy] at eY;obtain⟨arr,e,hc⟩:=cF.agg.1 eY;obtain⟨z,h1,h2⟩:=agF (ay:=ay) (hr:=hr) hk hc hv;exact .calm ay (by simp[execOp,ho,e,Instr.field,run_underlying hs,hf,asAgg,h1]) h2
theorem ati{t e:TypeId}{x i:Operand}{ln sz:Nat}{x' i':aX}{k:w_}{n:Nat}{cs:f_}{v:V}(ho:o.op=.index t x i)(ht:P.underlying t=some (.array ln e))(hs:yI P e=some sz)
  (hk:se P e=some k) (hx:de x=some x') (hi:de i=some i') (hn:qC (ev ak i')=some n) (aB:n<ln) (hy:ev ak x'=.agg cs) (hv:qZ k (cs.drop (n*sz))=some v):gC P w0 a.eval o m v []:=by
 have eY:=eZ hx hr;obtain⟨kk,wO⟩:=Au hn (eZ hi hr);rw[hy] at eY;obtain⟨arr,e',hc⟩:=cF.agg.1 eY;obtain⟨z,h1,h2⟩:=agF (ay:=ay) (hr:=hr) hk hc hv;exact .calm ay (by simp[execOp,ho,e',wO,Instr.index,asIntOf,run_underlying ht,Vf hs,aB,h1]) h2
theorem atL{t:TypeId}{x i:Operand}{x' i':aX}{n:Nat}{s:ByteArray}{b:UInt8}(ho:o.op=.index t x i)(ht:P.underlying t=some .string)
  (hx:de x=some x') (hi:de i=some i') (hn:qC (ev ak i')=some n) (hy:ev ak x'=.one (.p (.str s))) (hb:s[n]?=some b):gC P w0 a.eval o m (.one (.p (.int .u8 b.toNat))) []:=by
 have eY:=eZ hx hr;obtain⟨kk,wO⟩:=Au hn (eZ hi hr);rw[hy] at eY;exact .calm ay (by simp[execOp,ho,OS eY,wO,Instr.index,asIntOf,run_underlying ht,hb]) (nk (.int _ _))
end
end Go.Abs
namespace Go.Abs
variable {P:Program} {w0:World}
theorem akp{op:BinOp}{t:TypeId}{k k':IntKind}{x y:Int}{v:PV}(w:World)(hk:k=k'\/op=.shl\/op=.shr)(h:uA op k x y=some v):
  ∃u,(binOp op t (.int k x) (.int k' y)).run P w=.ok u w/\ ∀own,cN w own v u:=by
 by_cases hs:op=.shl\/op=.shr
 .rcases hs with rfl|rfl
  .simp only[uA] at h;split at h
   .cases h
   rename_i hy;cases h;exact⟨_,by simp[binOp,Op.shift,hy],fun own=>.int _ _⟩
  simp only[uA] at h;split at h
  .cases h
  rename_i hy;cases h;exact⟨_,by simp[binOp,Op.shift,hy],fun own=>.int _ _⟩
 have wO:k=k':=by
  rcases hk with h|h
  .exact h
  exact(hs h).elim
 subst wO;cases op<;>simp only[uA] at h<;>first
  |cases h
  |skip
 all_goals first
  |exact(hs (.inl rfl)).elim
  |exact(hs (.inr rfl)).elim
  |(exact⟨_,by simp[binOp,Op.intArith,Op.intCmp,Op.intBits],fun own=>.int _ _⟩)
  |(exact⟨_,by simp[binOp,Op.intArith,Op.intCmp],fun own=>.bool _⟩)
  |(split at h
    .cases h
    rename_i hy;cases h;exact⟨_,by simp[binOp,Op.intDiv,hy],fun own=>.int _ _⟩)
theorem akr{op:BinOp}{t:TypeId}{x y:ByteArray}{v:PV}(w:World)(h:Jh op x y=some v):
  ∃u,(binOp op t (.string x) (.string y)).run P w=.ok u w/\ ∀own,cN w own v u:=by
 cases op<;>simp only[Jh] at h<;>first
  |cases h
  |skip
 all_goals first
  |exact⟨_,by simp[binOp,Op.stringOp],fun own=>.bool _⟩
  |(split at h
    .rename_i hl;cases h;refine⟨.string (x++y),?_,fun own=>.str _⟩;have:¬((x.size:Int)+(y.size:Int)>9223372036854775807):=aa;simp[binOp,Op.stringOp,this]
    cases h)
section
variable {m:Mem} {ak:Env} {a:Act} {o:Oper} (ay:Ok w0 m) (hr:jt m ak a.tmps)
include ay hr
theorem atl{op:BinOp}{t ty:TypeId}{x y:Operand}{x' y':aX}{v:V}(ho:o.op=.binOp op t x y ty)(hx:de x=some x')(hy:de y=some y')
  (hv:rU op (ev ak x') (ev ak y')=some v):gC P w0 a.eval o m v []:=by
 have h1:=eZ hx hr;have h2:=eZ hy hr;unfold rU at hv;split at hv
 .rename_i k p k' q e1 e2;rw[e1] at h1;rw[e2] at h2;split at hv
  .rename_i hk;simp only[ef] at hv;obtain⟨u,hu,rfl⟩:=hv;obtain⟨z,hz,KJ⟩:=akp (P:=P) (t:=t) m.w hk hu;refine .calm ay ?_ (nk (KJ _));have hg:(eqGuard op t x y (.int k p) (.int k' q)).run P m.w=.ok () m.w:=by cases op<;>simp[eqGuard]
   simp[execOp,ho,Ec h1,Ec h2,hg,hz]
  cases hv
 .rename_i p q e1 e2;rw[e1] at h1;rw[e2] at h2;simp only[ef] at hv;obtain⟨u,hu,rfl⟩:=hv;obtain⟨z,hz,KJ⟩:=akr (P:=P) (t:=t) m.w hu;refine .calm ay ?_ (nk (KJ _));have hg:(eqGuard op t x y (.string p) (.string q)).run P m.w=.ok () m.w:=by cases op<;>simp[eqGuard]
  simp[execOp,ho,OS h1,OS h2,hg,hz]
 cases hv
theorem atJ{t:TypeId}{x:Operand}{x':aX}{b:Bool}(ho:o.op=.unOp .not t x)(hx:de x=some x')(hb:ev ak x'=.one (.p (.bool b))):gC P w0 a.eval o m (.one (.p (.bool (!b)))) []:=by have h1:=eZ hx hr;rw[hb] at h1;exact .calm ay (by simp[execOp,ho,FY h1,Op.unary]) (nk (.bool _))
theorem atH{t:TypeId}{x:Operand}{x':aX}{k:IntKind}{n:Int}(ho:o.op=.unOp .neg t x)(hx:de x=some x')(hb:ev ak x'=.one (.p (.int k n))):gC P w0 a.eval o m (.one (.p (.int k (k.wrap (0-n))))) []:=by have h1:=eZ hx hr;rw[hb] at h1;exact .calm ay (by simp[execOp,ho,Ec h1,Op.unary,Op.intArith]) (nk (.int _ _))
theorem ats{s d:TypeId}{x:Operand}{x':aX}{ks k k0:IntKind}{n:Int}(ho:o.op=.convert s d x)(hs:P.underlying s=some (.int ks))(hd:P.underlying d=some (.int k))(hx:de x=some x')
  (hb:ev ak x'=.one (.p (.int k0 n))):gC P w0 a.eval o m (.one (.p (.int k (k.wrap n)))) []:=by
 have h1:=eZ hx hr;rw[hb] at h1;exact .calm ay (by simp[execOp,ho,Ec h1,convert,run_underlying hs,run_underlying hd,Conv.intToInt]) (nk (.int _ _))
theorem agx:∀ {xs:List Operand} {ys:o_} {cs:f_},rm xs=some ys->xg ak ys=some cs->dO m cs (xs.map a.eval):=by
 have _u0:=ay;intro xs
 induction xs with
 |nil=>intro ys cs h1 h2;simp[rm] at h1;subst h1;simp[xg] at h2;subst h2;exact⟨rfl,fun j x u p=>by simp at p⟩
 |cons x r ih=>
  intro ys cs h1 h2;simp only[rm] at h1;split at h1
  .rename_i y ys' e1 e2;cases h1;simp only[xg] at h2;split at h2
   .rename_i c q e3 e4;cases h2;obtain⟨hl,DW⟩:=ih e2 e4;refine⟨by simpa using hl,fun j z u p q=>?_⟩;cases j with
    |zero=>simp at p q;subst p q;have:=eZ e1 hr;rw[e3] at this;exact this
    |succ j=>simp at p q;exact DW j z u p (by simpa using q)
   cases h2
  cases h1
theorem atC{f:FuncId}{x y:Array Operand}{x' y':o_}{cs ds:f_}(ho:o.op=.makeFunc (.func f) x y)(hx:rm x.toList=some x')(hy:rm y.toList=some y')
  (hc:xg ak x'=some cs) (hd:xg ak y'=some ds):gC P w0 a.eval o m (.one (.hfn f cs ds)) []:=by
 have h1:=agx (ay:=ay) (hr:=hr) hx hc;have h2:=agx (ay:=ay) (hr:=hr) hy hd;refine .calm (x:=.func (.func f) (x.map a.eval) (y.map a.eval)) ay (by simp[execOp,ho,Instr.makeFunc]) (cF.one.2 (.hfn _ _ ?_ ?_ ?_ ?_))
 .have:=h1.1;simpa using this
 .have:=h2.1;simpa using this
 .intro j z u p q;exact h1.2 j z u p (by rw[<- Array.toList_map,Array.getElem?_toList];exact q)
 intro j z u p q;exact h2.2 j z u p (by rw[<- Array.toList_map,Array.getElem?_toList];exact q)
theorem att{x:Operand}{i:Nat}{x':aX}{vs:e_}{v:V}(ho:o.op=.extract x i)(hx:de x=some x')(he:ev ak x'=.tup vs)(hv:vs[i]?=some v):gC P w0 a.eval o m v []:=by
 have h1:=eZ hx hr;rw[he] at h1;obtain⟨arr,e,hl,hc⟩:=h1;have aB:i<arr.size:=by rw[hl];exact(aW.1 hv).1
 exact .calm (x:=arr[i]) ay (by simp[execOp,ho,e,Instr.extract,aB]) (.of1 (hc i v _ hv (by simp[aB])))
theorem afA{x:V}{v:Value}{n:Nat}(h:zN x=some n)(hv:cF m x v):∃ad cap,v=.slice ad n cap/\n<=cap/\cap<=maxLen:=by
 have _u0:=ay;have _u1:=hr;unfold zN at h;split at h
 .cases h;exact⟨none,0,Uh hv,cD _,cA _⟩
 .cases h;obtain⟨hp⟩:dz m _ v:=hv;rename_i es;generalize iE:(PV.sl es)=pv at hp;cases hp<;>cases iE
  .exact⟨_,_,rfl,cA _,by assumption⟩
  exact⟨_,_,rfl,by assumption,by assumption⟩
 .cases h;have hc:dz m _ v:=hv;cases hc with
  |hsl ad cap hg hl hm h=>exact⟨_,_,rfl,hl,hm⟩
 cases h
theorem atx{c:Call}{x:Operand}{x':aX}{t e:TypeId}{n:Nat}(ho:o.op=.call c)(hc:c.callee=.builtin .len)(has:c.args= #[x])(jU:c.argTypes[0]?=some t)(ht:P.underlying t=some (.slice e))
  (hx:de x=some x') (hn:zN (ev ak x')=some n):gC P w0 a.eval o m (.one (.p (.int .i64 n))) []:=by
 obtain⟨ad,cap,h1,_,_⟩:=afA (ay:=ay) (hr:=hr) hn (eZ hx hr);refine .calm ay ?_ (nk (.int _ _));simp[execOp,ho,resolve,hc,has,invoke,builtin,Builtin.len_,jU,h1,run_underlying ht,goInt]
theorem atM{c:Call}{x:Operand}{x':aX}{t:TypeId}{s:ByteArray}(ho:o.op=.call c)(hc:c.callee=.builtin .len)(has:c.args= #[x])(jU:c.argTypes[0]?=some t)(ht:P.underlying t=some .string)
  (hx:de x=some x') (hn:ev ak x'=.one (.p (.str s))):gC P w0 a.eval o m (.one (.p (.int .i64 s.size))) []:=by
 have h1:=eZ hx hr;rw[hn] at h1;refine .calm ay ?_ (nk (.int _ _));simp[execOp,ho,resolve,hc,has,invoke,builtin,Builtin.len_,jU,OS h1,run_underlying ht,goInt]
theorem atA{c:Call}{x y:Operand}{x' y':aX}{k k':IntKind}{p q:Int}(ho:o.op=.call c)(hc:c.callee=.builtin .max)(has:c.args= #[x,y])
  (hx:de x=some x') (hy:de y=some y') (h1:ev ak x'=.one (.p (.int k p))) (h2:ev ak y'=.one (.p (.int k' q))):gC P w0 a.eval o m (.one (.p (.int k (if q>p then q else p)))) []:=by
 have g1:=eZ hx hr;have g2:=eZ hy hr;rw[h1] at g1;rw[h2] at g2;refine .calm ay ?_ (nk (.int _ _));simp[execOp,ho,resolve,hc,has,invoke,builtin,Builtin.max_,Builtin.max2,Ec g1,Ec g2]
theorem atB{c:Call}{x y:Operand}{x' y':aX}{k k':IntKind}{p q:Int}(ho:o.op=.call c)(hc:c.callee=.builtin .min)(has:c.args= #[x,y])
  (hx:de x=some x') (hy:de y=some y') (h1:ev ak x'=.one (.p (.int k p))) (h2:ev ak y'=.one (.p (.int k' q))):gC P w0 a.eval o m (.one (.p (.int k (if q<p then q else p)))) []:=by
 have g1:=eZ hx hr;have g2:=eZ hy hr;rw[h1] at g1;rw[h2] at g2;refine .calm ay ?_ (nk (.int _ _));simp[execOp,ho,resolve,hc,has,invoke,builtin,Builtin.min_,Builtin.min2,Ec g1,Ec g2]
end
end Go.Abs
namespace Go.Abs
variable {P:Program} {w0:World}
section
variable{sz:Nat}
theorem ajE:∀(u:k_) (aj:aE) (id:Nat),(app u aj id=aj id/\ ∀e∈u,e.1≠id)\/ ∃e∈u,e.1=id/\app u aj id=e.2:=by
 intro u
 induction u with
 |nil=>intro aj id;exact .inl ⟨rfl,fun e h=>by simp at h⟩
 |cons x r ih=>
  intro aj id;obtain⟨i,o⟩:=x;simp only[app];rcases ih (eH aj i o) id with ⟨h1,h2⟩|⟨e,he,h1,h2⟩
  .by_cases hi:id=i
   .exact .inr ⟨(i,o),af,hi.symm,by rw[h1];simp[aU,hi]⟩
   refine .inl ⟨by rw[h1];simp[aU,hi],fun e he=>?_⟩;rcases ch.1 he with rfl|he
   .exact fun h=>hi h.symm
   exact h2 e he
  exact .inr ⟨e,by simp[he],h1,h2⟩
theorem Jp{α β γ:Type}{f:α->Option (β×a_)}{R:α->γ->Prop}{T:β->γ->Prop}{fq:a_->Prop}(Oe:∀a b,fq (a++b)->fq a/\fq b)
  (hf:∀a b r v,f a=some (b,r)->R a v->fq r->T b v):∀ {xs:List α} {ys:List β} {r:a_} {vs:List γ},collect f xs=some (ys,r)->fq r->
  (vs.length=xs.length/\ ∀(j:Nat) (x:α) (u:γ),xs[j]?=some x->vs[j]?=some u->R x u)->(vs.length=ys.length/\ ∀(j:Nat) (x:β) (u:γ),ys[j]?=some x->vs[j]?=some u->T x u):=by
 intro xs
 induction xs with
 |nil=>intro ys r vs h _ hr;simp[collect] at h;obtain⟨rfl,rfl⟩:=h;exact⟨hr.1,fun j x u a=>by simp at a⟩
 |cons x t ih=>
  intro ys r vs h hg hr;simp only[collect] at h;split at h
  .rename_i b p bs q e1 e2;cases h;obtain⟨g1,g2⟩:=Oe _ _ hg;cases vs with
   |nil=>simp at hr
   |cons v us=>
    obtain⟨hl,hh⟩:=ih (vs:=us) e2 g2 ⟨by simpa using hr.1,fun j x u a b=>hr.2 (j+1) x u (by simpa using a) (by simpa using b)⟩;refine⟨by simp[hl],fun j z u a b=>?_⟩;cases j with
    |zero=>simp at a b;subst a b;exact hf _ _ _ _ e1 (hr.2 0 x v rfl rfl) g1
    |succ j=>simp at a b;exact hh j z u a b
  cases h
def rl(m:Mem)(own:Nat->Prop)(r:a_):Prop:=(∀b,own b->m.own b)/\ ∀id∈r,¬own (m.σ id)
theorem rl.app{m:Mem}{own:Nat->Prop}{a b:a_}(h:rl m own (a++b)):rl m own a/\rl m own b:=
 ⟨⟨h.1,fun id hi=>h.2 id (by simp[hi])⟩,⟨h.1,fun id hi=>h.2 id (by simp[hi])⟩⟩
theorem cN.less{w:World}{own Bj:Nat->Prop}(h:∀b,Bj b->own b){x:PV}{v:Value}(hr:cN w own x v):cN w Bj x v:=hr.mono fun c _ hn=>⟨rfl,fun ho=>hn (h c ho)⟩
theorem dM.less{w:World}{own Bj:Nat->Prop}(h:∀b,Bj b->own b){x:b_}{v:List Value}(hr:dM w own x v):dM w Bj x v:=⟨hr.1,fun j x u a b=>(hr.2 j x u a b).less h⟩
theorem afZ{α:Type}{xs:List α}{R:α->Value->Prop}{vs:List Value}(h:Pw R xs vs):∃f:Nat->Value,∀(j:Nat) (x:α),xs[j]?=some x->vs[j]?=some (f j)/\R x (f j):=by
 refine⟨fun j=>vs.getD j undef,fun j x hx=>?_⟩;have aB:j<vs.length:=by rw[h.1];exact(aW.1 hx).1
 have:vs[j]?=some (vs.getD j undef):=by simp[List.getD,rR aB]
 exact⟨this,h.2 j x _ hx this⟩
theorem YT{w:World}{own:Nat->Prop}{b o:Nat}{cur:Array Value}{ty:TypeId}{fz:Nat×Nat}{ps:b_}(hh:w.heap[b]?=some (.cells cur ty fz))(hp:Pw (cN w own) ps (cur.toList.drop o |>.take ps.length))
  (ho:ps≠[]-> ¬own b):cN w own (.box ps) (.pointer (some ⟨b,o,none⟩)):=by
 obtain⟨f,hf⟩:=afZ hp;refine .box b o f ho (fun j x hx=>?_) fun j x hx=>(hf j x hx).2;have h1:=(hf j x hx).1;rw[l8] at h1;split at h1
 .rw[E0 hh];simpa using h1
 cases h1
theorem af0{w:World}{own:Nat->Prop}{b o cap sz:Nat}{cur:Array Value}{ty:TypeId}{fz:Nat×Nat}{es:s_}(hh:w.heap[b]?=some (.cells cur ty fz))(cT:∀e∈es,e.length=sz)
  (hl:es.length<=cap) (hm:cap<=maxLen) (hp:Pw (cN w own) es.flatten ((cur.toList.drop o).take (es.length*sz))) (ho:¬own b):cN w own (.sl es) (.slice (some ⟨b,o,none⟩) es.length cap):=by
 obtain⟨f,hf⟩:=afZ hp;refine .sl b o cap sz f (fun _=>ho) hl hm cT (fun j x hx=>?_) fun j x hx=>(hf j x hx).2;have h1:=(hf j x hx).1;rw[l8] at h1;split at h1
 .rw[E0 hh];simpa using h1
 cases h1
theorem Ty{α:Type}:∀ {es:List (List α)},(∀e∈es,e.length=sz)->∀(n:Nat),(es.drop n).flatten=es.flatten.drop (n*sz):=by
 intro es
 induction es with
 |nil=>intro _ n;simp
 |cons e r ih=>
  intro h n;cases n with
  |zero=>simp
  |succ n=>simp only[List.drop_succ_cons,mS];have h1:=h e af;rw[ih (fun x hx=>h x (by simp[hx])),List.drop_append,List.drop_of_length_le (by rw[h1,ib];omega:e.length<=(n+1)*sz),gR];congr 1;rw[h1,ib];omega
theorem JR{α:Type}:∀ {es:List (List α)},(∀e∈es,e.length=sz)->∀(n:Nat),(es.take n).flatten=es.flatten.take (n*sz):=by
 intro es
 induction es with
 |nil=>intro _ n;simp
 |cons e r ih=>
  intro h n;cases n with
  |zero=>simp
  |succ n=>simp only[List.take_succ_cons,mS];have h1:=h e af;rw[ih (fun x hx=>h x (by simp[hx])),L8,gT (by rw[h1,ib];omega:e.length<=(n+1)*sz)];congr 1;congr 1;rw[h1,ib];omega
theorem Ga{α:Type}{R:α->Value->Prop}{off len:Nat}{es:List (List α)}{cur:List Value}(cT:∀e∈es,e.length=sz)(h:Pw R es.flatten (cur.take (es.length*sz)))(hfit:off+len<=es.length):
  Pw R ((es.drop off).take len).flatten ((cur.drop (off*sz)).take (((es.drop off).take len).length*sz)):=by
 have OL:∀e∈es.drop off,e.length=sz:=fun e he=>cT e (xC he);have hlen:((es.drop off).take len).length=len:=by simp;omega
 rw[hlen,JR OL,Ty cT];have h1:=(h.drop (off*sz)).take (len*sz);have h2:((cur.take (es.length*sz)).drop (off*sz)).take (len*sz)=(cur.drop (off*sz)).take (len*sz):=by
  rw[List.drop_take,Gp];congr 1;have:off*sz+len*sz<=es.length*sz:=by rw[<- ib];exact mV _ hfit
  omega
 rw[h2] at h1;exact h1
theorem Zq{α:Type}{R:α->Value->Prop}:∀ {ps:List (List α)} {cur:List Value},(∀e∈ps,e.length=sz)->ps.length*sz<=cur.length->
  (∀(j:Nat) (e:List α),ps[j]?=some e->Pw R e ((cur.drop (j*sz)).take sz))->Pw R ps.flatten (cur.take (ps.length*sz)):=by
 intro ps
 induction ps with
 |nil=>intro cur _ _ _;exact⟨af,fun j x u a=>by simp at a⟩
 |cons e r ih=>
  intro cur h hl hp;simp only[dL,ib,Nat.one_mul] at hl;have h0:=hp 0 e rfl;rw[Bu,List.drop_zero] at h0;have h1:=ih (cur:=cur.drop sz) (fun x hx=>h x (by simp[hx])) (by simp;omega) fun j x hx=>by have:=hp (j+1) x (by simpa using hx);rw[ib,Nat.one_mul] at this;rw[List.drop_drop,Nat.add_comm sz];exact this
  have h2:=h0.append h1;have h3:cur.take sz++(cur.drop sz).take (r.length*sz)=cur.take ((e::r).length*sz):=by rw[dL,ib,Nat.one_mul,Nat.add_comm,List.take_add]
  rw[h3] at h2;exact h2
theorem Xf{α:Type}{R:α->Value->Prop}{i:Nat}{es:List (List α)}{e:List α}{cur:List Value}(cT:∀e∈es,e.length=sz)(h:Pw R es.flatten (cur.take (es.length*sz)))(he:es[i]?=some e):
  Pw R e ((cur.drop (i*sz)).take sz):=by
 have hi:i<es.length:=(aW.1 he).1;have h1:=Ga (off:=i) (len:=1) cT h aa;have h0:((es.drop i).take 1)=[e]:=by rw[List.drop_eq_getElem_cons hi];have:=(aW.1 he).2;simp[this]
 rw[h0] at h1
 simpa using h1
theorem WA{α β:Type}{f:α->Option (β×a_)}:∀ {xs:List α} {ys:List β} {r:a_},collect f xs=some (ys,r)->ys.length=xs.length:=by
 intro xs
 induction xs with
 |nil=>intro ys r h;simp[collect] at h;rw[h.1];rfl
 |cons x t ih=>
  intro ys r h;simp only[collect] at h;split at h
  .rename_i b p bs q e1 e2;cases h;simp[ih e2]
  cases h
theorem Wz{α β:Type}{f:α->Option (β×a_)}:∀ {xs:List α} {ys:List β} {r:a_},collect f xs=some (ys,r)->∀ {j:Nat} {y:β},ys[j]?=some y->∃x q,xs[j]?=some x/\f x=some (y,q)/\ ∀i∈q,i∈r:=by
 intro xs
 induction xs with
 |nil=>intro ys r h j y hy;simp[collect] at h;rw[h.1] at hy;simp at hy
 |cons x t ih=>
  intro ys r h j y hy;simp only[collect] at h;split at h
  .rename_i b p bs q e1 e2;cases h;cases j with
   |zero=>simp at hy;subst hy;exact⟨x,p,rfl,e1,fun i hi=>by simp[hi]⟩
   |succ j=>simp at hy;obtain⟨x',q',h1,h2,h3⟩:=ih e2 hy;exact⟨x',q',by simpa using h1,h2,fun i hi=>by simp[h3 i hi]⟩
  cases h
theorem Ly{m:Mem}(ay:Ok w0 m){own:Nat->Prop}:∀(n:Nat) {c:C} {x:PV} {r:a_} {v:Value},snap m.aj n c=some (x,r)->dz m c v->rl m own r->cN m.w own x v:=by
 intro n
 induction n with
 |zero=>intro c x r v h;simp[snap] at h
 |succ n ih=>
  intro c x r v h hr hs;have TO:∀ {cs:f_} {ps:b_} {q:a_} {vs:List Value},collect (snap m.aj n) cs=some (ps,q)->rl m own q->Pw (dz m) cs vs->Pw (cN m.w own) ps vs:=fun h1 h2 h3=>Jp (R:=dz m) (T:=cN m.w own) (fq:=rl m own) (fun a b h=>h.app) (fun a b r v e1 e2 e3=>ih e1 e2 e3) h1 h2 h3
  have TV:∀ {ps:b_} {vs:List Value},dM m.w m.own ps vs->Pw (cN m.w own) ps vs:=fun h=>dM.pw.1 (h.less hs.1);unfold snap at h;cases c with
  |p y=>simp at h;obtain⟨rfl,rfl⟩:=h;obtain⟨hp⟩:=hr;exact hp.norm.less hs.1
  |bt id g off=>
   cases hr with
   |bt a hg ha=>
    simp only at h;split at h
    .rename_i g' cs hb;split at h
     .rename_i jf;split at h
      .rename_i ps q hq;cases h;have bR:(m.aj id).2=some (.var cs):=by rw[hb]
       have ha:=ha (by rw[hb];exact jf) (by rw[bR];rfl);subst ha;obtain⟨cur,ty,hh,hc⟩:=ay.obj id _ bR;have hp:=TO hq ⟨hs.1,fun i hi=>hs.2 i (by simp[hi])⟩ (dO.pw.1 hc);refine YT hh ?_ fun _=>hs.2 id af;have h1:=hp.drop off;have h2:(cur.toList.drop off).take (ps.drop off).length=cur.toList.drop off:=gT (by have:=h1.1;omega);rw[h2];exact h1
      cases h
     cases h
    .rename_i g' ps hb;split at h
     .rename_i jf;cases h;have bR:(m.aj id).2=some (.fvar ps):=by rw[hb]
      have ha:=ha (by rw[hb];exact jf) (by rw[bR];rfl);subst ha;obtain⟨cur,ty,fz,hh,hc,_⟩:=ay.obj id _ bR;refine YT hh ?_ fun _=>hs.2 id af;have h1:=(TV hc).drop off;have h2:(cur.toList.drop off).take (ps.drop off).length=cur.toList.drop off:=gT (by have:=h1.1;omega);rw[h2];exact h1
     cases h
    cases h
  |dy id g i off=>
   cases hr with
   |dy a hg ha=>
    have key:∀(ty sz:Nat) (es:s_) (e:b_) (cur:Array Value) (fz:Nat×Nat),m.w.heap[m.σ id]?=some (.cells cur ty fz)->(∀e∈es,e.length=sz)->es.length*sz<=cur.size->
      dM m.w m.own es.flatten (cur.toList.take (es.length*sz))->es[i]?=some e->a=⟨m.σ id,i*sz+off,none⟩-> ¬own (m.σ id)->cN m.w own (.box (e.drop off)) (.pointer (some a)):=by
     intro ty sz es e cur fz hh cT hlen dX he xY eh;subst xY;have dy:=Nv cT he;have hi:i<es.length:=(aW.1 he).1;have zA:(i+1)*sz<=es.length*sz:=mV _ hi;have h1:=(Ga (off:=i) (len:=1) cT (TV dX) aa).drop off;have h0:((es.drop i).take 1)=[e]:=by rw[List.drop_eq_getElem_cons hi];have:=(aW.1 he).2;simp[this]
     rw[h0] at h1;simp only[mS,IJ,jJ,dL,fv,jr,Nat.one_mul] at h1;refine YT hh ?_ fun _=>eh;have h2:(cur.toList.drop (i*sz+off)).take (e.drop off).length=(((cur.toList.drop (i*sz)).take sz).drop off):=by rw[List.drop_take,List.drop_drop,lD,dy]
     rw[h2];exact h1
    simp only at h;split at h
    .rename_i g' ty sz es hb;split at h
     .rename_i jf;simp only[ef,lE] at h;obtain⟨e,he,rfl,rfl⟩:=h;have bR:(m.aj id).2=some (.arr ty sz es):=by rw[hb]
      obtain⟨cur,hh,qO,cT,hl,hm,dF,dX⟩:=ay.obj id _ bR;exact key ty sz es e cur _ hh cT (by rw[dF];exact mV _ hl) dX he (ha sz (by rw[hb];exact jf) (by rw[hb];rfl)) (hs.2 id af)
     cases h
    .rename_i g' ty sz es hb;split at h
     .rename_i jf;simp only[ef,lE] at h;obtain⟨e,he,rfl,rfl⟩:=h;have bR:(m.aj id).2=some (.qF ty sz es):=by rw[hb]
      obtain⟨cur,fz,hh,qO,cT,hl,hm,dF,dX,_⟩:=ay.obj id _ bR;exact key ty sz es e cur _ hh cT (by rw[dF];exact mV _ hl) dX he (ha sz (by rw[hb];exact jf) (by rw[hb];rfl)) (hs.2 id af)
     cases h
    cases h
  |hsl id g z off len=>
   cases hr with
   |hsl a cap hg hl hm ha=>
    have key:∀(ty sz:Nat) (es:s_) (cur:Array Value) (fz:Nat×Nat),m.w.heap[m.σ id]?=some (.cells cur ty fz)->(∀e∈es,e.length=sz)->Pw (cN m.w own) es.flatten (cur.toList.take (es.length*sz))->
      off+len<=es.length->(off=0\/0<len->a=⟨m.σ id,off*sz,none⟩)-> ¬own (m.σ id)->cN m.w own (.sl ((es.drop off).take len)) (.slice (some a) len cap):=by
     intro ty sz es cur fz hh cT dX hfit xY eh;by_cases hlen:len=0
     .subst hlen;simp only[List.take_zero];exact .zZ _ _ (fun h=>by cases h) hm
     have:=xY (.inr aa);subst this;have hle:((es.drop off).take len).length=len:=by simp;omega
     have h1:=af0 (cap:=cap) (own:=own) (o:=off*sz) (es:=(es.drop off).take len) hh (sz:=sz) (fun e he=>cT e (xC (xD he))) aa hm (Ga cT dX hfit) eh;rw[hle] at h1;exact h1
    simp only at h;split at h
    .rename_i g' ty sz es hb;split at h
     .rename_i hc;cases h;have bR:(m.aj id).2=some (.arr ty sz es):=by rw[hb]
      obtain⟨cur,hh,qO,cT,jV,iS,dF,dX⟩:=ay.obj id _ bR;exact key ty sz es cur _ hh cT (TV dX) hc.2 (by obtain⟨_,h2,_⟩:=ha sz (by rw[hb];exact hc.1) (by rw[hb];rfl);rename_i e1 _;exact e1▸h2) (hs.2 id af)
     cases h
    .rename_i g' ty sz es hb;split at h
     .rename_i hc;cases h;have bR:(m.aj id).2=some (.qF ty sz es):=by rw[hb]
      obtain⟨cur,fz,hh,qO,cT,jV,iS,dF,dX,_⟩:=ay.obj id _ bR;exact key ty sz es cur _ hh cT (TV dX) hc.2 (by obtain⟨_,h2,_⟩:=ha sz (by rw[hb];exact hc.1) (by rw[hb];rfl);exact h2) (hs.2 id af)
     cases h
    .rename_i g' ty sz es hb;split at h
     .rename_i hc;split at h
      .rename_i ps q hq;cases h;have bR:(m.aj id).2=some (.jg ty sz es):=by rw[hb]
       obtain⟨cur,hh,qO,cT,jV,iS,dF,dX⟩:=ay.obj id _ bR;have Yh:=Ga cT (dO.pw.1 dX) hc.2;have OL:∀e∈(es.drop off).take len,e.length=sz:=fun e he=>cT e (xC (xD he));have hle:((es.drop off).take len).length=len:=by simp;omega
       have bd:ps.length=len:=by rw[WA hq,hle]
       have mg:len*sz<=(cur.toList.drop (off*sz)).length:=by
        simp;have h1:off*sz+len*sz<=es.length*sz:=by rw[<- ib];exact mV _ hc.2
        have h2:es.length*sz<=m.κ id*sz:=mV _ jV;omega
       have pX:∀(j:Nat) (e:b_),ps[j]?=some e->Pw (cN m.w own) e (((cur.toList.drop (off*sz)).drop (j*sz)).take sz):=by intro j e he;obtain⟨x,q',h1,h2,h3⟩:=Wz hq he;exact TO h2 ⟨hs.1,fun i hi=>hs.2 i (by simp[h3 i hi])⟩ (Xf OL Yh h1)
       have FM:∀e∈ps,e.length=sz:=by
        intro e he;obtain⟨j,hj⟩:=ia he;have:=(pX j e hj).1;have mh:j<len:=by rw[<- bd];exact(aW.1 hj).1
        have h1:(j+1)*sz<=len*sz:=mV _ mh;rw[ib] at h1;simp at this mg;omega
       by_cases hlen:len=0
       .have:ps=[]:=List.eq_nil_of_length_eq_zero aa;subst this;subst hlen;exact .zZ _ _ (fun h=>by cases h) hm
       obtain⟨_,h2,_⟩:=ha sz (by rw[hb];exact hc.1) (by rw[hb];rfl);rename_i e1 _;have xY:=h2 (.inr aa);subst xY;have wN:=af0 (cap:=cap) (own:=own) (o:=off*sz) hh FM aa hm (Zq FM (by rw[bd];exact mg) pX) (hs.2 id af);rw[bd] at wN;exact wN
      cases h
     cases h
    cases h
  |kE id g=>
   cases hr with
   |kE r' hg ha=>
    have key:∀(ag:Bool) (es:t_) (ents:Array MapEntry) (clock:Nat),m.w.heap[m.σ id]?=some (.map ents clock)->ents.size=es.length->
      (∀(i:Nat) (q:PV) (v:b_) (e:MapEntry),es[i]?=some (q,v)->ents[i]?=some e->cN m.w m.own q e.key/\ ∃g:Array Value,(ag=true->e.val=.agg g)/\(ag=false-> #[e.val]=g)/\dM m.w m.own v g.toList)->
      ¬own (m.σ id)->cN m.w own (.mp ag es) (.map (some (m.σ id))):=by
     intro ag es ents clock hh hl hc eh;have hch:∃G:Nat->Array Value,∀(i:Nat) (q:PV) (v:b_) (e:MapEntry),es[i]?=some (q,v)->ents[i]?=some e->(ag=true->e.val=.agg (G i))/\(ag=false-> #[e.val]=G i)/\dM m.w m.own v (G i).toList:=by
      refine⟨fun i=>match ents[i]? with|some e=>(match e.val with| .agg g=>if ag then g else #[e.val]|v=> #[v])|none=> #[],fun i q v e h1 h2=>?_⟩;obtain⟨_,g,g1,g2,g3⟩:=hc i q v e h1 h2;simp only[h2];cases ag with
      |true=>have:=g1 rfl;simp[this];exact g3
      |false=>
       have:=g2 rfl;subst this;refine⟨(fun h=>by cases h),(fun _=>?_),?_⟩
       .cases e.val<;>rfl
       cases hv:e.val<;>simp only[hv] at g3<;>exact g3
     obtain⟨G,hG⟩:=hch;refine .mp (m.σ id) ents clock G eh hh hl (fun i q v e h1 h2=>((hc i q v e h1 h2).1).less hs.1) (fun i q v e h1 h2=>?_) fun i q v j x u h1 h2 h3=>?_
     .obtain⟨a1,a2,a3⟩:=hG i q v e h1 h2;exact⟨by have:=a3.1;simpa using this,a1,a2⟩
     have aB:i<ents.size:=by rw[hl];exact(aW.1 h1).1
     obtain⟨a1,a2,a3⟩:=hG i q v _ h1 (Array.getElem?_eq_getElem aB);exact(a3.2 j x u h2 (by rw[Array.getElem?_toList];exact h3)).less hs.1
    simp only at h;split at h
    .rename_i g' ag es hb;split at h
     .rename_i jf;cases h;have bR:(m.aj id).2=some (.map ag es):=by rw[hb]
      have ha:=ha (by rw[hb];exact jf) (by rw[bR];rfl);subst ha;obtain⟨ents,clock,hh,hl,hc⟩:=ay.obj id _ bR;exact key ag es ents clock hh hl hc (hs.2 id af)
     cases h
    .rename_i g' ag es hb;split at h
     .rename_i jf;cases h;have bR:(m.aj id).2=some (.fmap ag es):=by rw[hb]
      have ha:=ha (by rw[hb];exact jf) (by rw[bR];rfl);subst ha;obtain⟨ents,clock,hh,hl,hc,_⟩:=ay.obj id _ bR;exact key ag es ents clock hh hl hc (hs.2 id af)
     cases h
    cases h
  |hfn f a b=>
   cases hr with
   |hfn A B hA hB wT r8=>
    simp only at h;split at h
    .rename_i xa ra xb rb h1 h2;cases h;obtain⟨s1,s2⟩:=hs.app;have p1:=TO (vs:=A.toList) h1 s1 ⟨by simpa using hA,fun j x u p q=>wT j x u p (by rw[<- Array.getElem?_toList];exact q)⟩;have p2:=TO (vs:=B.toList) h2 s2 ⟨by simpa using hB,fun j x u p q=>r8 j x u p (by rw[<- Array.getElem?_toList];exact q)⟩;exact .fn A B (by have:=p1.1;simpa using this) (by have:=p2.1;simpa using this) (fun j x u p q=>p1.2 j x u p (by rw[Array.getElem?_toList];exact q)) fun j x u p q=>p2.2 j x u p (by rw[Array.getElem?_toList];exact q)
    cases h
end
end Go.Abs
namespace Go.Abs
variable {P:Program} {w0:World}
theorem am6{aj:aE}{all:a_}:∀ {l:a_} {u:k_},vp aj all l=some u->
  (∀e∈u,e.1∈l/\ ∃x,y8 aj all e.1=some x/\e∈x)/\ ∀id∈l,∃x,y8 aj all id=some x/\ ∀e∈x,e∈u:=by
 intro l
 induction l with
 |nil=>intro u h;simp[vp] at h;subst h;exact⟨fun e h=>by simp at h,fun id h=>by simp at h⟩
 |cons i r ih=>
  intro u h;simp only[vp] at h;split at h
  .rename_i a b h1 h2;cases h;obtain⟨g1,g2⟩:=ih h2;have adU:∀e∈a,e.1=i:=by
    intro e he;unfold y8 at h1;split at h1<;>first
     |(cases h1;simp at he;subst he;rfl)
     |(split at h1
       .split at h1
        .cases h1;simp at he;subst he;rfl
        cases h1
       cases h1)
     |(cases h1;simp at he)
     |cases h1
   refine⟨fun e he=>?_,fun id hid=>?_⟩
   .rcases eX.1 he with he|he
    .exact⟨by simp[adU e he],a,by rw[adU e he];exact h1,he⟩
    obtain⟨k1,k2⟩:=g1 e he;exact⟨by simp[k1],k2⟩
   rcases ch.1 hid with rfl|hid
   .exact⟨a,h1,fun e he=>by simp[he]⟩
   obtain⟨x,k1,k2⟩:=g2 id hid;exact⟨x,k1,fun e he=>by simp[k2 e he]⟩
  cases h
def IP(aj:aE)(all:a_):Ob->Ob->Prop
 | .var cs,.fvar ps=>∃r,collect (snap aj gZ) cs=some (ps,r)/\ ∀i∈r,i∈all
 | .arr ty sz es,.qF kh cH im=>kh=ty/\cH=sz/\im=es
 | .jg ty sz es,.qF kh cH ps=>kh=ty/\cH=sz/\ ∃r,collect (collect (snap aj gZ)) es=some (ps,r)/\ ∀i∈r,i∈all
 | .map ag es,.fmap sK im=>sK=ag/\im=es
 |_,_=>False
theorem IP.facts{aj:aE}{all:a_}{o o':Ob}(h:IP aj all o o')(g:Nat):o.gh=true/\o'.gh=false/\lO (g,some o')=lO (g,some o):=by
 cases o<;>cases o'<;>simp only[IP] at h<;>first
  |exact h.elim
  |exact⟨rfl,rfl,rfl⟩
  |exact⟨rfl,rfl,by simp[lO,h.2.1]⟩
theorem ac9{aj:aE}{all:a_}{id:Nat}{x:k_}(h:y8 aj all id=some x):
  (∃o,(aj id).2=some o/\o.gh=false/\x=[])\/ ∃o o',(aj id).2=some o/\IP aj all o o'/\x=[(id,((aj id).1,some o'))]:=by
 unfold y8 at h;split at h
 .rename_i g cs hb;split at h
  .rename_i ps r hc;split at h
   .rename_i dV;cases h;refine .inr ⟨.var cs,.fvar ps,by rw[hb],⟨r,hc,fun i hi=>?_⟩,by rw[hb]⟩;have:=gj.1 dV i hi
    simpa using this
   cases h
  cases h
 .rename_i g ty sz es hb;cases h;exact .inr ⟨.arr ty sz es,.qF ty sz es,by rw[hb],⟨rfl,rfl,rfl⟩,by rw[hb]⟩
 .rename_i g ty sz es hb;split at h
  .rename_i ps r hc;split at h
   .rename_i dV;cases h;refine .inr ⟨.jg ty sz es,.qF ty sz ps,by rw[hb],⟨rfl,rfl,r,hc,fun i hi=>?_⟩,by rw[hb]⟩;have:=gj.1 dV i hi
    simpa using this
   cases h
  cases h
 .rename_i g ag es hb;cases h;exact .inr ⟨.map ag es,.fmap ag es,by rw[hb],⟨rfl,rfl⟩,by rw[hb]⟩
 .cases h
 rename_i y n1 n2 n3 n4 n5;cases h;cases hb:aj id with
 |mk g o=>
  cases o with
  |none=>exact(n5 g hb).elim
  |some o=>
   refine .inl ⟨o,rfl,?_,rfl⟩;cases o with
   |var cs=>exact(n1 g cs hb).elim
   |arr ty sz es=>exact(n2 g ty sz es hb).elim
   |jg ty sz es=>exact(n3 g ty sz es hb).elim
   |map ag es=>exact(n4 g ag es hb).elim
   |_=>rfl
def Mem.with(m:Mem)(u:k_):Mem:={m with aj:=app u m.aj}
theorem xT{m:Mem}{ids:a_}{u:k_}(h:tY m.aj ids=some u)(id:Nat):
  ((m.with u).aj id=m.aj id/\(id∈ids->∃o,(m.aj id).2=some o/\o.gh=false))\/
  (id∈ids/\ ∃o o',(m.aj id).2=some o/\IP m.aj ids o o'/\(m.with u).aj id=((m.aj id).1,some o')):=by
 obtain⟨h1,h2⟩:=am6 h;rcases ajE u m.aj id with ⟨e1,e2⟩|⟨e,he,e1,e2⟩
 .refine .inl ⟨e1,fun hid=>?_⟩;obtain⟨x,hx,HN⟩:=h2 id hid;rcases ac9 hx with ⟨o,a,b,_⟩|⟨o,o',a,b,c⟩
  .exact⟨o,a,b⟩
  exact(e2 (id,(m.aj id).fst,some o') (HN _ (by rw[c];simp)) rfl).elim
 obtain⟨k1,x,k2,k3⟩:=h1 e he;rw[e1] at k1 k2;rcases ac9 k2 with ⟨o,a,b,c⟩|⟨o,o',a,b,c⟩
 .rw[c] at k3;simp at k3
 rw[c] at k3;simp at k3;refine .inr ⟨k1,o,o',a,b,?_⟩;simp only[Mem.with];rw[e2,k3]
theorem Xo{m:Mem}{ids:a_}{u:k_}(h:tY m.aj ids=some u){c:Nat}(hc:(m.with u).own c):m.own c:=by
 rcases hc with hc|⟨id,o,h1,h2,h3⟩
 .exact .inl hc
 rcases xT h id with ⟨e,_⟩|⟨_,p,q,a,b,e⟩
 .rw[e] at h1;exact .inr ⟨id,o,h1,h2,h3⟩
 rw[e] at h1;cases h1;rw[(b.facts 0).2.1] at h2;cases h2
theorem Xp{m:Mem}(ay:Ok w0 m){ids:a_}{u:k_}(h:tY m.aj ids=some u):rl m (m.with u).own ids:=by
 refine⟨fun b hb=>Xo h hb,fun id hid hc=>?_⟩;rcases xT h id with ⟨e,hn⟩|⟨_,o,o',a,b,e⟩
 .obtain⟨o,ho,hm⟩:=hn hid;exact(ay.obj id o ho).calm hm (Xo h hc)
 rcases hc with hc|⟨fH,q,h1,h2,h3⟩
 .exact(ay.ig id o a (b.facts 0).1).2 hc
 by_cases hi:fH=id
 .subst hi;rw[e] at h1;cases h1;rw[(b.facts 0).2.1] at h2;cases h2
 rcases xT h fH with ⟨e',_⟩|⟨_,p',q',a',b',e'⟩
 .rw[e'] at h1;exact hi (ay.inj fH id q o h1 h2 a (b.facts 0).1 h3)
 rw[e'] at h1;cases h1;rw[(b'.facts 0).2.1] at h2;cases h2
theorem Xm{m:Mem}{ids:a_}{u:k_}(h:tY m.aj ids=some u):Ev m (m.with u) where
 os:=rfl
 tape:=rfl
 output:=rfl
 size:=cD _
 keep _ _ _:=rfl
 gh c _ hc:=by
  obtain⟨id,o,h1,h2,h3⟩:=hc;rcases xT h id with ⟨e,_⟩|⟨_,p,q,a,b,e⟩
  .rw[e] at h1;exact⟨id,o,h1,h2,h3⟩
  rw[e] at h1;cases h1;rw[(b.facts 0).2.1] at h2;cases h2
 less c _ hn hc:=hn (Xo h hc)
 gen id:=by rcases xT h id with ⟨e,_⟩|⟨_,p,q,a,b,e⟩<;>rw[e]<;>exact cD _
 ref id he hs:=by
  rcases xT h id with ⟨e,_⟩|⟨_,p,q,a,b,e⟩
  .rw[e] at hs |-;exact⟨hs,rfl,rfl,rfl⟩
  rw[e] at hs |-;refine⟨by rw[a];rfl,rfl,rfl,?_⟩;have h1:m.aj id=((m.aj id).1,some p):=by rw[<- a]
  rw[(b.facts (m.aj id).1).2.2,<- h1]
theorem ada{m:Mem}(ay:Ok w0 m){ids:a_}{u:k_}(h:tY m.aj ids=some u):Ok w0 (m.with u) where
 os:=ay.os
 tape:=ay.tape
 output:=ay.output
 size:=ay.size
 base:=ay.base
 obj id o ho:=by
  have eO:=Xm h;have qc:=Xp ay h;rcases xT h id with ⟨e,_⟩|⟨hid,p,q,a,b,e⟩
  .rw[e] at ho;exact(ay.obj id o ho).ev eO.zero rfl rfl rfl
  rw[e] at ho;cases ho;have eh:=qc.2 id hid;have T6:∀r:a_,(∀i∈r,i∈ids)->rl m (m.with u).own r:=fun r hr=>⟨qc.1,fun i hi=>qc.2 i (hr i hi)⟩;have T4:=ay.obj id p a;cases p<;>cases o<;>simp only[IP] at b<;>first
   |exact b.elim
   |skip
  .obtain⟨r,hc,hr⟩:=b;obtain⟨cur,ty,hh,dF⟩:=T4;exact⟨cur,ty,(0,0),hh,dM.pw.2 (Jp (R:=dz m) (T:=cN m.w (m.with u).own) (fq:=rl m (m.with u).own) (fun a b h=>h.app) (fun a b r v e1 e2 e3=>Ly ay _ e1 e2 e3) hc (T6 r hr) (dO.pw.1 dF)),eh⟩
  .obtain⟨rfl,rfl,rfl⟩:=b;obtain⟨cur,hh,qO,cT,hl,hm,dF,dX⟩:=T4;exact⟨cur,(0,0),hh,qO,cT,hl,hm,dF,dX.less qc.1,eh⟩
  .obtain⟨rfl,rfl,r,hc,hr⟩:=b;obtain⟨cur,hh,qO,cT,hl,hm,dF,dX⟩:=T4;rename_i es _ sz ps;have bd:ps.length=es.length:=WA hc;have mg:ps.length*sz<=cur.toList.length:=by
    have h2:es.length*sz<=m.κ id*sz:=mV _ hl;simp;rw[bd];omega
   have pX:∀(j:Nat) (e:b_),ps[j]?=some e->Pw (cN m.w (m.with u).own) e ((cur.toList.drop (j*sz)).take sz):=by intro j e he;obtain⟨x,q',h1,h2,h3⟩:=Wz hc he;exact Jp (R:=dz m) (T:=cN m.w (m.with u).own) (fq:=rl m (m.with u).own) (fun a b h=>h.app) (fun a b r v e1 e2 e3=>Ly ay _ e1 e2 e3) h2 (T6 q' fun i hi=>hr i (h3 i hi)) (Xf cT (dO.pw.1 dX) h1)
   have FM:∀e∈ps,e.length=sz:=by intro e he;obtain⟨j,hj⟩:=ia he;have:=(pX j e hj).1;have mh:j<ps.length:=(aW.1 hj).1;have h1:(j+1)*sz<=ps.length*sz:=mV _ mh;rw[ib] at h1;simp at this mg;omega
   exact⟨cur,(0,0),hh,qO,FM,by rw[bd];exact hl,hm,dF,dM.pw.2 (Zq FM mg pX),eh⟩
  obtain⟨rfl,rfl⟩:=b;obtain⟨ents,clock,hh,hl,hc⟩:=T4;exact⟨ents,clock,hh,hl,fun i q v e h1 h2=>let ⟨p,g,g1,g2,g3⟩:=hc i q v e h1 h2;⟨p.less qc.1,g,g1,g2,g3.less qc.1⟩,eh⟩
 ig id o ho hm:=by
  rcases xT h id with ⟨e,_⟩|⟨_,p,q,a,b,e⟩
  .rw[e] at ho;exact ay.ig id o ho hm
  rw[e] at ho;cases ho;rw[(b.facts 0).2.1] at hm;cases hm
 frlt:=ay.frlt
 inj id fH o o' h1 m1 h2 m2 he:=by
  rcases xT h id with ⟨e,_⟩|⟨_,p,q,a,b,e⟩
  .rcases xT h fH with ⟨e',_⟩|⟨_,p',q',a',b',e'⟩
   .rw[e] at h1;rw[e'] at h2;exact ay.inj id fH o o' h1 m1 h2 m2 he
   rw[e'] at h2;cases h2;rw[(b'.facts 0).2.1] at m2;cases m2
  rw[e] at h1;cases h1;rw[(b.facts 0).2.1] at m1;cases m1
end Go.Abs
namespace Go.Abs
variable {P:Program} {w0:World}
section
variable{w':World}
def Mem.kU(m:Mem)(w':World)(s c k:Nat)(o:Ob):Mem:=(m.later w' (· =c)).install s c k o
section
variable {m:Mem} {w':World} {s c k:Nat} {o:Ob} (hg:fY m.w w') (iZ:m.w.heap.size<=c) (qJ:c<w'.heap.size)
theorem JU(ay:Ok w0 m)(iZ:m.w.heap.size<=c):(m.kU w' s c k o).fr=m.fr:=by
 funext x;simp only[Mem.kU,Mem.install,Mem.later];apply propext;constructor
 .rintro ⟨h|h,h2⟩
  .exact h
  exact(h2 h).elim
 intro h;exact⟨.inl h,fun e=>by have:=ay.frlt x h;omega⟩
include hg iZ
theorem JT:Ev m (m.kU w' s c k o):=Ud (KS hg fun x hx=>by subst hx;exact iZ) (.inr rfl) (.inl iZ)
include qJ
theorem JV(ay:Ok w0 m)(ho:ux (m.kU w' s c k o) s o):Ok w0 (m.kU w' s c k o):=Ue (OW ay hg fun x hx=>by subst hx;exact⟨iZ,qJ⟩) (.inr rfl) (oZ ay.size iZ) ho
end
theorem Fm{m:Mem}{s c k:Nat}{o:Ob}:(m.kU w' s c k o).σ s=c:=by simp[Mem.kU,Mem.install,aU]
theorem rB{m:Mem}{s c k:Nat}{o:Ob}:(m.kU w' s c k o).κ s=k:=by simp[Mem.kU,Mem.install,aU]
theorem Xi{m:Mem}{s c k:Nat}{o:Ob}:(m.kU w' s c k o).aj=app [(s,((m.aj s).1+1,some o))] m.aj:=rfl
theorem Xj{m:Mem}{s c k:Nat}{o:Ob}:(m.kU w' s c k o).w=w':=rfl
theorem Nq{m:Mem}{s c cap ty sz:Nat}{es:s_}{n:Nat}(hn:n<=cap)(hm:cap<=maxLen):
  cF (m.kU w' s c cap (.arr ty sz es)) (.one (.hsl s ((m.aj s).1+1) sz 0 n)) (.slice (some ⟨c,0,none⟩) n cap):=by
 refine cF.one.2 (.hsl _ _ ?_ hn hm fun z h1 h2=>?_)
 .simp[Mem.kU,Mem.install,Mem.later,aU]
 have:lO ((m.kU w' s c cap (.arr ty sz es)).aj s)=some sz:=by simp[Mem.kU,Mem.install,aU,lO]
 rw[this] at h2;cases h2;refine⟨rfl,fun _=>?_,by rw[jr];exact rB.symm⟩;rw[Fm,Bu]
theorem am0{m:Mem}{s c cap ty sz:Nat}{es:List f_}{n:Nat}(hn:n<=cap)(hm:cap<=maxLen):
  cF (m.kU w' s c cap (.jg ty sz es)) (.one (.hsl s ((m.aj s).1+1) sz 0 n)) (.slice (some ⟨c,0,none⟩) n cap):=by
 refine cF.one.2 (.hsl _ _ ?_ hn hm fun z h1 h2=>?_)
 .simp[Mem.kU,Mem.install,Mem.later,aU]
 have:lO ((m.kU w' s c cap (.jg ty sz es)).aj s)=some sz:=by simp[Mem.kU,Mem.install,aU,lO]
 rw[this] at h2;cases h2;refine⟨rfl,fun _=>?_,by rw[jr];exact rB.symm⟩;rw[Fm,Bu]
theorem Qw{t e:TypeId}{sz bytes:Nat}{z:b_}(h:BD P t=some (e,sz,bytes,z)):
  ∃i v,P.underlying t=some (.slice e)/\P.info? e=some i/\i.size=sz/\i.bytes=bytes/\(0<sz/\0<bytes)/\i.zero=some v/\v.cells.size=sz/\z.length=sz/\ ∀w own,dM w own z v.cells.toList:=by
 unfold BD at h;split at h
 .rename_i e' ht;split at h
  .rename_i i z' hi hz;split at h
   .rename_i jE;cases h;obtain⟨v,i',h1,h2,h3,h4,h5⟩:=PE hz;rw[hi] at h1;cases h1;exact⟨i,v,ht,hi,rfl,rfl,jE,h2,h3,h4,h5⟩
   cases h
  cases h
 cases h
theorem aqj{R:PV->Value->Prop}{z:b_}{v:Array Value}{sz n:Nat}(hz:Pw R z v.toList)(cT:v.size=sz)(jE:0<sz):
  Pw R (List.replicate n z).flatten ((madeCells v (n*sz)).toList.take (n*sz)):=by
 have mM:z.length=sz:=by have:=hz.1;simp at this;omega
 have dV:∀e∈List.replicate n z,e.length=sz:=fun e he=>by rw[VH he];exact mM
 have hlen:(madeCells v (n*sz)).toList.length=n*sz:=by simp[size_madeCells]
 rw[gT aa];refine⟨by rw[hlen,Hb dV];simp,fun j x u p q=>?_⟩;have hj:j<n*sz:=by have:=(aW.1 q).1;omega
 have hdiv:j/sz<n:=by rw[Nat.div_lt_iff_lt_mul jE];exact hj
 have TZ:j%sz<sz:=dk _ jE;have he:(List.replicate n z)[j/sz]?=some z:=by simp[hdiv]
 have h1:=Ha dV he TZ;rw[show j/sz*sz+j%sz=j by rw[Nat.mul_comm];exact Nat.div_add_mod j sz] at h1;rw[h1] at p;have h2:(madeCells v (n*sz)).toList[j]?=some v[j%sz]! :=by unfold madeCells;simp[hj,cT]
 rw[h2] at q;cases q;refine hz.2 (j%sz) x _ p ?_;have:j%sz<v.size:=aa;simp[this]
section
variable {m:Mem} {ak:Env} {a:Act} {o:Oper} (ay:Ok w0 m) (hr:jt m ak a.tmps)
include ay hr
theorem atE{t e:TypeId}{l c:Operand}{l' c':aX}{s sz bytes n:Nat}{z:b_}(ho:o.op=.makeSlice t l c)(he:BD P t=some (e,sz,bytes,z))(hl:de l=some l')(hc:de c=some c')
  (hn:qC (ev ak l')=some n) (hm:qC (ev ak c')=some n) (lf:n*bytes<=room):
  gC P w0 a.eval o m (.one (.hsl s ((m.aj s).1+1) sz 0 n)) [(s,((m.aj s).1+1,some (.arr e sz (List.replicate n z))))]:=by
 obtain⟨i,v,ht,hi,hs,hb,⟨jE,Hm⟩,hz,sa,mM,dX⟩:=Qw he;obtain⟨k1,h1⟩:=Au hn (eZ hl hr);obtain⟨k2,h2⟩:=Au hm (eZ hc hr);unfold room at lf;have XX:n<=maxLen:=by have:n<=n*bytes:=PL _ Hm;simp only[maxLen];omega
 have aoj:(n:Int)<=9223372036854775807:=by simp[maxLen] at XX;omega
 have xZ:(i.bytes:Int)*(n:Int)<=281474976710656:=by
  have:((i.bytes*n:Nat):Int)<=281474976710656:=by rw[hb,Nat.mul_comm];omega
  rwa[Int.natCast_mul] at this
 have jX:=run_make (P:=P) m.w t e i v ht hi hz k1 k2 n n aa (Int.le_refl _) xZ aoj;simp only[tL,hs] at jX
 let m':=m.kU (m.w.alloc (.cells (madeCells v.cells (n*sz)) e)) s m.w.heap.size n (.arr e sz (List.replicate n z))
 have eO:Ev m m':=JT (fY.alloc _ _) (cD _);have DT:ux m' s (.arr e sz (List.replicate n z)):=by
  refine⟨_,by rw[Fm];exact heap_alloc_new m.w _,jE,fun x hx=>?_,?_,?_,?_,?_⟩
  .rw[VH hx];exact mM
  .rw[rB];simp
  .rw[rB];exact XX
  .rw[rB,size_madeCells]
  rw[List.length_replicate];exact dM.pw.2 (aqj (dM.pw.1 (dX _ _)) sa jE)
 refine⟨_,m',.inl ?_,JV (fY.alloc _ _) (cD _) af ay DT,eO,JU ay (cD _),rfl,Nq (cD _) XX⟩;simp[execOp,ho,h1,h2,jX];rfl
theorem aba{lo hi:Option Operand}{Ee vz:Option aX}{n cap l h:Nat}{b:Bool}(fM:yU lo=some Ee)(FG:yU hi=some vz)(hl:sL ak 0 Ee=some l)(hh:sL ak n vz=some h)
  (FI:l<=h) (mg:h<=cap):(Instr.sliceBounds b n cap (lo.map a.eval) (hi.map a.eval) none).run P m.w=.ok (l,h,cap) m.w:=by
 have _u0:=ay;have pV:(match hi.map a.eval with|some v=>∃k,v=Value.int k (h:Int)|none=>h=n):=by
  cases hi with
  |none=>simp[yU] at FG;subst FG;simp[sL] at hh;simpa using hh.symm
  |some x=>simp only[yU,ef] at FG;obtain⟨y,hy,rfl⟩:=FG;exact Au hh (eZ hy hr)
 have jD:(match lo.map a.eval with|some v=>∃k,v=Value.int k (l:Int)|none=>l=0):=by
  cases lo with
  |none=>simp[yU] at fM;subst fM;simp[sL] at hl;simpa using hl.symm
  |some x=>simp only[yU,ef] at fM;obtain⟨y,hy,rfl⟩:=fM;exact Au hl (eZ hy hr)
 generalize lo.map a.eval=LO at jD;generalize hi.map a.eval=HI at pV;have iZ:(h:Int)<=(cap:Int):=aa;have qJ:(l:Int)<=(h:Int):=aa;cases LO with
 |none=>
  simp only at jD;subst jD;cases HI with
  |none=>simp only at pV;subst pV;simp[Instr.sliceBounds]
  |some v=>obtain⟨k,rfl⟩:=pV;simp[Instr.sliceBounds,Instr.sliceBound,asIntOf,mg]
 |some u=>
  obtain⟨k,rfl⟩:=jD;cases HI with
  |none=>simp only at pV;subst pV;simp[Instr.sliceBounds,Instr.sliceBound,asIntOf,FI]
  |some v=>obtain⟨k',rfl⟩:=pV;simp[Instr.sliceBounds,Instr.sliceBound,asIntOf,mg,FI]
theorem atO{t:TypeId}{x:Operand}{lo hi:Option Operand}{x':aX}{Ee vz:Option aX}{s:ByteArray}{l h:Nat}(ho:o.op=.slice t x lo hi none)(ht:P.underlying t=some .string)
  (hx:de x=some x') (fM:yU lo=some Ee) (FG:yU hi=some vz) (hs:ev ak x'=.one (.p (.str s))) (hl:sL ak 0 Ee=some l) (hh:sL ak s.size vz=some h) (FI:l<=h) (mg:h<=s.size):
  gC P w0 a.eval o m (.one (.p (.str (s.extract l h)))) []:=by
 have h1:=eZ hx hr;rw[hs] at h1;have hb:=aba (P:=P) (w0:=w0) (ay:=ay) (hr:=hr) (b:=false) fM FG hl hh FI mg;refine .calm ay ?_ (nk (.str _));simp[execOp,ho,OS h1,Instr.sliceAt,Instr.slice,run_underlying ht,hb]
theorem atN{t e:TypeId}{x:Operand}{lo hi:Option Operand}{x':aX}{Ee vz:Option aX}{sz n l h:Nat}{v:V}(ho:o.op=.slice t x lo hi none)(ht:P.underlying t=some (.slice e))(cT:yI P e=some sz)
  (hx:de x=some x') (fM:yU lo=some Ee) (FG:yU hi=some vz) (hn:zN (ev ak x')=some n) (hl:sL ak 0 Ee=some l) (hh:sL ak n vz=some h)
  (hv:Em (ev ak x') sz l h=.done v [] []):gC P w0 a.eval o m v []:=by
 have h1:=eZ hx hr;unfold Em at hv;split at hv
 .cases hv
 rename_i FI;have FI:l<=h:=by simpa using FI
 have run:∀(ad:Option Addr) (cap:Nat),a.eval x=.slice ad n cap->h<=cap->(execOp a.eval o).run P m.w=.ok (.value (.slice (if cap=l then ad else ad.map (·.add (l*sz))) (h-l) (cap-l))) m.w:=by intro ad cap kD mg;have hb:=aba (P:=P) (w0:=w0) (ay:=ay) (hr:=hr) (b:=true) fM FG hl hh FI mg;simp[execOp,ho,kD,Instr.sliceAt,Instr.slice,run_underlying ht,hb,Vf cT]
 obtain⟨ad0,cap0,hsl,hncap,qL⟩:=afA (ay:=ay) (hr:=hr) hn h1;split at hv
 .rename_i he;split at hv
  .rename_i h0;cases hv;rw[he] at h1;have:=Uh h1;subst h0;have uL:l=0:=aa;subst uL;rw[this] at hsl;cases hsl;refine .calm ay (run none 0 this (cD _)) ?_;simp;exact nk .nils
  cases hv
 .rename_i es he;split at hv
  .rename_i hc;cases hv;rw[he] at h1 hn;simp[zN] at hn;subst hn;obtain⟨hp⟩:dz m _ (a.eval x):=h1;generalize hb:a.eval x=b at hp;generalize iE:(PV.sl es)=pv at hp;cases hp<;>cases iE
   .rename_i ad cap tv hm;simp at hc;have hh0:h=0:=aa;subst hh0;have uL:l=0:=aa;subst uL;refine .calm ay (run ad cap hb (cA _)) (nk ?_);simp only[List.drop_nil,List.take_nil,Nat.sub_zero];refine .zZ _ _ (fun h=>?_) hm;split at h
    .exact tv h
    cases ad with
    |none=>exact tv rfl
    |some ad=>simp at h
   rename_i b' o' cap cH f hm lW jV uO uJ DW;refine .calm ay (run _ cap hb aa) (nk ?_);by_cases aB:l=h
   .subst aB;simp only[Nat.sub_self,List.take_zero];refine .zZ _ _ (fun h=>?_) aa;split at h<;>simp at h
   have hlen:((es.drop l).take (h-l)).length=h-l:=by simp;omega
   have gG:es≠[]:=fun e=>by subst e;simp at hc;omega
   have Yk:cH=sz:=by obtain⟨e0,r0,rfl⟩:=List.exists_cons_of_ne_nil gG;have g1:=uO e0 af;have g2:=hc.2;simp[aw] at g2;omega
   subst Yk;rw[aC aa];simp only[nE,Addr.add_lit];have Ca:=cN.sl (w:=m.w) (own:=m.own) (es:=(es.drop l).take (h-l)) b' (o'+l*cH) (cap-l) cH (fun j=>f (l*cH+j)) (fun aK=>lW fun e0=>aK ?_) aa aa (fun e he=>uO e (xC (xD he))) ?_ ?_
   .rw[hlen] at Ca;exact Ca
   .apply List.eq_nil_of_length_eq_zero;rw[JR (fun e he=>uO e (xC he)),Ty uO,e0];simp
   .intro j z hz;rw[JR (fun e he=>uO e (xC he)),Ty uO,l8] at hz;split at hz
    .rw[Ah] at hz;rw[EM];exact uJ _ z hz
    cases hz
   intro j z hz;rw[JR (fun e he=>uO e (xC he)),Ty uO,l8] at hz;split at hz
   .rw[Ah] at hz;exact DW _ z hz
   cases hz
  cases hv
 .rename_i id g z off len he;split at hv
  .rename_i hc;cases hv;rw[he] at h1 hn;simp[zN] at hn;subst hn;have fg:dz m _ (a.eval x):=h1;generalize hb:a.eval x=b at fg;cases fg with
   |hsl ad cap hg wP hm Of=>
    refine .calm ay (run _ cap hb aa) ?_;have Yj:∃ad',(if cap=l then some ad else (some ad).map (·.add (l*sz)))=some ad'/\(cap≠l->ad'=ad.add (l*sz))/\(l=0->ad'=ad):=by
     by_cases cK:cap=l
     .exact⟨ad,by simp[cK],fun h=>(h cK).elim,fun _=>rfl⟩
     exact⟨ad.add (l*sz),by simp[cK],fun _=>rfl,fun h=>by subst h;simp[Addr.add]⟩
    obtain⟨ad',e1,e2,e3⟩:=Yj;rw[e1];refine cF.one.2 (.hsl _ _ hg aa aa fun s g1 g2=>?_);obtain⟨f1,f2,f3⟩:=Of s g1 g2;refine⟨f1,fun B0=>?_,?_⟩
    .by_cases uL:l=0
     .subst uL;rw[e3 rfl,u7];refine f2 ?_;rcases B0 with h|h
      .exact .inl aa
      exact .inr aa
     have:0<h-l:=by rcases B0 with h|h<;>omega
     rw[e2 aa,f2 (.inr aa),Addr.add_lit,f1,hc.2,ib]
    omega
  cases hv
 cases hv
end
end
end Go.Abs
namespace Go.Abs
variable {P:Program} {w0:World}
theorem amX(off:Nat):∀(vs:List Value) (i:Nat) (cells:Array Value),off+i+vs.length<=cells.size->
  ((vs.zipIdx i).foldl (fun cs (x:Value×Nat)=>cs.setIfInBounds (off+x.2) x.1) cells).toList=ft cells.toList (off+i) vs:=by
 intro vs
 induction vs with
 |nil=>intro i cells _;simp[ft]
 |cons v r ih=>
  intro i cells h;simp only[dL] at h;simp only[List.zipIdx_cons,Bt];rw[ih (i+1) _ (by simp;omega)];unfold ft;rw[Array.toList_setIfInBounds];have aB:off+i<cells.toList.length:=by simp;omega
  have e1:(cells.toList.set (off+i) v).take (off+(i+1))=cells.toList.take (off+i)++[v]:=by rw[show off+(i+1)=(off+i)+1 by omega,List.take_succ_eq_append_getElem (by simpa using aB),List.take_set,List.set_eq_of_length_le (by simp;omega)];simp
  have e2:(cells.toList.set (off+i) v).drop (off+(i+1)+r.length)=cells.toList.drop (off+(i+1)+r.length):=by rw[List.drop_set_of_lt aa]
  rw[e1,e2];simp only[dL,vW,List.singleton_append];congr 3;omega
theorem acM{place:Nat->Option (Nat×Nat)}{i off n:Nat}{v:Value}{rest:List (Nat×Value)}{cells:Array Value}(hp:place i=some (off,n))(hv:v.cells.size=n)(hfit:off+n<=cells.size):
  ∃kO,Instr.fill place cells ((i,v)::rest)=Instr.fill place kO rest/\kO.toList=ft cells.toList off v.cells.toList:=by
 refine⟨v.cells.zipIdx.foldl (fun cs (x:Value×Nat)=>cs.setIfInBounds (off+x.2) x.1) cells,?_,?_⟩
 .simp only[Instr.fill,hp];rw[aC (by simp[hv];omega)]
 rw[<- Array.foldl_toList,Array.toList_zipIdx,amX off v.cells.toList 0 cells (by simp;omega)];simp
theorem acK{m:Mem}{ak:Env}{a:Act}(hr:jt m ak a.tmps){place:Nat->Option (Nat×Nat)}{zl:Nat}:∀ {ps:List (Nat×Operand)} {qs:List (Nat×Nat×aX)} {rs:List (Nat×f_)} {cs:f_} {cells:Array Value},
  Ei place zl ps=some qs->zS ak qs=some rs->dO m cs cells.toList->cs.length=zl->
  ∃kO,Instr.fill place cells (ps.map fun x=>(x.1,a.eval x.2))=some kO/\dO m (fill cs rs) kO.toList:=by
 intro ps
 induction ps with
 |nil=>intro qs rs cs cells h1 h2 hc hl;simp[Ei] at h1;subst h1;simp[zS] at h2;subst h2;exact⟨cells,by simp[Instr.fill],by simpa [fill] using hc⟩
 |cons p t ih=>
  intro qs rs cs cells h1 h2 hc hl;obtain⟨i,x⟩:=p;simp only[Ei] at h1;split at h1
  .rename_i off n a' q bd hx hq;split at h1
   .rename_i hfit;cases h1;simp only[zS] at h2;split at h2
    .rename_i Ff q' hcv rH;split at h2
     .rename_i hlen;cases h2;have hv:=Wq hcv (eZ hx hr);have cT:(a.eval x).cells.size=n:=by have:=hv.1;simp at this;omega
      have cK:=hc.1;simp at cK;obtain⟨kO,e1,e2⟩:=acM (rest:=t.map fun x=>(x.1,a.eval x.2)) bd cT (by omega:off+n<=cells.size);simp only[eD,fill];rw[e1];refine ih hq rH ?_ (by rw[Vn aa];exact hl);rw[e2];exact dO.pw.2 ((dO.pw.1 hc).ft (dO.pw.1 hv) off)
     cases h2
    cases h2
   cases h1
  cases h1
theorem mapM_ok{α β:Type}{f:α->Sem β}{g:α->β}{w:World}:∀ {l:List α},(∀x∈l,(f x).run P w=.ok (g x) w)->(l.mapM f).run P w=.ok (l.map g) w:=by
 intro l
 induction l with
 |nil=>intro _;simp
 |cons x r ih=>intro h;simp[List.mapM_cons,h x af,ih fun y hy=>h y (by simp[hy])]
theorem al1{m:Mem}{ak:Env}{a:Act}(hr:jt m ak a.tmps){place:Nat->Option (Nat×Nat)}{sz:Nat}(aoE:∀k,place k=some (k*sz,sz)):∀ {ps:List (Nat×Operand)} {as:o_} {es:List f_} {k:Nat} {done:List Value} {cells:Array Value},
  JD k ps=some as->AO ak sz as=some es->done.length=k*sz->cells.toList.take (k*sz)=done->cells.size=(k+as.length)*sz->
  ∃kO,Instr.fill place cells (ps.map fun x=>(x.1,a.eval x.2))=some kO/\ ∃vs,kO.toList=done++vs/\dO m es.flatten vs/\(∀e∈es,e.length=sz)/\es.length=as.length:=by
 intro ps
 induction ps with
 |nil=>intro as es k done cells h1 h2 hd ht hs;simp[JD] at h1;subst h1;simp[AO] at h2;subst h2;refine⟨cells,by simp[Instr.fill],[],?_,⟨af,fun j x u p=>by simp at p⟩,fun e he=>by simp at he,rfl⟩;rw[<- ht,jJ,gT (by simp at hs |-;omega)]
 |cons p t ih=>
  intro as es k done cells h1 h2 hd ht hs;obtain⟨i,x⟩:=p;simp only[JD] at h1;split at h1
  .rename_i a' q hx hq;split at h1
   .rename_i hik;cases h1;subst hik;simp only[AO] at h2;split at h2
    .rename_i Ff q' hcv rH;split at h2
     .rename_i hlen;cases h2;have hv:=Wq hcv (eZ hx hr);have cT:(a.eval x).cells.size=sz:=by have:=hv.1;simp at this;omega
      simp only[dL] at hs;have fR:cells.size=i*sz+sz+q.length*sz:=by rw[hs,ib,ib];omega
      obtain⟨kO,e1,e2⟩:=acM (rest:=t.map fun x=>(x.1,a.eval x.2)) (aoE i) cT (by omega:i*sz+sz<=cells.size);have iz:kO.toList.length=cells.size:=by rw[e2,Vn (by simp;omega)];simp
      obtain⟨akI,f1,vs,f2,f3,f4,f5⟩:=ih (k:=i+1) (done:=done++(a.eval x).cells.toList) (cells:=kO) hq rH (by simp[hd,cT,ib]) (by rw[e2];unfold ft;rw[ht,PK (by simp[hd,cT,ib])];rw[gT (by simp[hd,cT,ib])]) (by simp at iz;rw[iz,fR,ib,ib];omega)
      simp only[eD];rw[e1];refine⟨akI,f1,(a.eval x).cells.toList++vs,by rw[f2,vW],?_,?_,by simp[f5]⟩
      .simp only[mS];exact dO.pw.2 ((dO.pw.1 hv).append (dO.pw.1 f3))
      intro e he;rcases ch.1 he with rfl|he
      .exact hlen
      exact f4 e he
     cases h2
    cases h2
   cases h1
  cases h1
theorem auY{m:Mem}:∀ {es:List f_} {qs:s_} {vs:List Value} {sz:Nat},CK es=some qs->(∀e∈es,e.length=sz)->dO m es.flatten vs->dM m.w m.own qs.flatten vs/\(∀e∈qs,e.length=sz)/\qs.length=es.length:=by
 intro es
 induction es with
 |nil=>intro qs vs sz h _ hc;simp[CK] at h;subst h;exact⟨⟨hc.1,fun j x u p=>by simp at p⟩,fun e he=>by simp at he,rfl⟩
 |cons e r ih=>
  intro qs vs sz h cT hc;simp only[CK] at h;split at h
  .rename_i v nX h1 h2;cases h;simp only[mS] at hc;have dy:=cT e af;have iZ:=(dO.pw.1 hc).take e.length;have qJ:=(dO.pw.1 hc).drop e.length;simp only[List.take_left,List.drop_left] at iZ qJ;have g1:=Ps h1 (dO.pw.2 iZ);obtain⟨g2,g3,g4⟩:=ih h2 (fun x hx=>cT x (by simp[hx])) (dO.pw.2 qJ);have tx:v.length=sz:=by
    have a1:=g1.1;have a2:=iZ.1;omega
   refine⟨?_,?_,by simp[g4]⟩
   .have:=(dM.pw.1 g1).append (dM.pw.1 g2);rw[mU] at this;exact dM.pw.2 this
   intro y hy;rcases ch.1 hy with rfl|hy
   .exact tx
   exact g3 y hy
  cases h
section
variable {m:Mem} {ak:Env} {a:Act} {o:Oper} (ay:Ok w0 m) (hr:jt m ak a.tmps)
include ay hr
theorem atq{t:TypeId}{ps:Array (Nat×Operand)}{fs:Array Field}{z:b_}{qs:List (Nat×Nat×aX)}{rs:List (Nat×f_)}(ho:o.op=.build t ps)(ht:P.underlying t=some (.struct fs))(hz:Br P t=some z)
  (dV:fs.all (fun f=>(P.info? f.type).isSome)=true) (hp:Ei (fun i=>(fs[i]?).map fun f=>(f.offset,P.cellsOf f.type)) z.length ps.toList=some qs) (hv:zS ak qs=some rs):
  gC P w0 a.eval o m (.agg (fill (z.map .p) rs)) []:=by
 obtain⟨v,i,hi,hiv,hs,hl,dX⟩:=PE hz;obtain⟨kO,h1,h2⟩:=acK hr hp hv (dX m.w m.own).Ey af;refine .calm (x:=.agg kO) ay ?_ (cF.agg.2 ⟨_,rfl,h2⟩);have HF:(fs.mapM (fun f=>do pure (f.offset,<- sizeOf f.type):Field->Sem (Nat×Nat))).run P m.w=.ok (fs.map fun f=>(f.offset,P.cellsOf f.type)) m.w:=by
  rw[Array.mapM_eq_mapM_toList];have:=mapM_ok (P:=P) (f:=(fun f=>do pure (f.offset,<- sizeOf f.type):Field->Sem (Nat×Nat))) (g:=fun f=>(f.offset,P.cellsOf f.type)) (w:=m.w) (l:=fs.toList) (fun f hf=>by
   have:=Array.all_eq_true_iff_forall_mem.1 dV f (by simpa using hf);cases Hu:P.info? f.type with
   |none=>rw[Hu] at this;cases this
   |some i=>simp[sizeOf,typeInfo,Hu,Program.cellsOf])
  rw[Sem.run_map,this];simp only[Result.andThen_ok];congr 1;apply Array.ext';simp
 have FB:Instr.fill (fun x=>(fs.map fun f=>(f.offset,P.cellsOf f.type))[x]?) v.cells (ps.map fun x=>(x.1,a.eval x.2)).toList=some kO:=by simpa using h1
 simp only[execOp,ho,Instr.build,zeroValue,typeInfo,Sem.run_bind,run_program,Result.andThen_ok,hi,hiv,Sem.run_pure,run_underlying ht,HF,FB]
theorem atp{t e:TypeId}{n:Nat}{ps:Array (Nat×Operand)}{i:TypeInfo}{z:b_}{qs:List (Nat×Nat×aX)}{rs:List (Nat×f_)}(ho:o.op=.build t ps)(ht:P.underlying t=some (.array n e))(hz:Br P t=some z)
  (hie:P.info? e=some i) (hp:Ei (fun k=>some (k*i.size,i.size)) z.length ps.toList=some qs) (hv:zS ak qs=some rs):
  gC P w0 a.eval o m (.agg (fill (z.map .p) rs)) []:=by
 obtain⟨v,i',hi,hiv,hs,hl,dX⟩:=PE hz;obtain⟨kO,h1,h2⟩:=acK hr hp hv (dX m.w m.own).Ey af;refine .calm (x:=.agg kO) ay ?_ (cF.agg.2 ⟨_,rfl,h2⟩);have FB:Instr.fill (fun k=>some (k*i.size,i.size)) v.cells (ps.map fun x=>(x.1,a.eval x.2)).toList=some kO:=by simpa using h1
 simp only[execOp,ho,Instr.build,zeroValue,sizeOf,typeInfo,Sem.run_bind,run_program,Result.andThen_ok,hi,hie,hiv,Sem.run_pure,run_underlying ht,FB]
theorem atn{t e:TypeId}{n sz bytes s:Nat}{z:b_}{ps:Array (Nat×Operand)}{as:o_}{es:List f_}(ho:o.op=.buildSlice t n ps)(he:BD P t=some (e,sz,bytes,z))(hp:JD 0 ps.toList=some as)
  (hn:as.length=n) (anL:n*sz<=16777216) (hv:AO ak sz as=some es):
  (∀qs,CK es=some qs->gC P w0 a.eval o m (.one (.hsl s ((m.aj s).1+1) sz 0 es.length)) [(s,((m.aj s).1+1,some (.arr e sz qs)))])/\
  gC P w0 a.eval o m (.one (.hsl s ((m.aj s).1+1) sz 0 es.length)) [(s,((m.aj s).1+1,some (.jg e sz es)))]:=by
 obtain⟨i,v,ht,hi,hs,hb,⟨jE,_⟩,yl,sa,mM,dX⟩:=Qw he;subst hn;obtain⟨kO,f1,vs,f2,f3,f4,f5⟩:=al1 (place:=fun k=>some (k*sz,sz)) (done:=[]) (cells:=(Array.range (as.length*sz)).map ((if as.length*sz=0 then #[] else v.cells)[· %(if as.length*sz=0 then #[] else v.cells).size]!)) hr (fun _=>rfl) hp hv af af af;have jX:(execOp a.eval o).run P m.w=.ok (.value (.slice (some ⟨m.w.heap.size,0,none⟩) es.length es.length)) (m.w.alloc (.cells kO e)):=by
  have FB:Instr.fill (fun k=>some (k*sz,sz)) ((Array.range (as.length*sz)).map ((if as.length*sz=0 then #[] else v.cells)[· %(if as.length*sz=0 then #[] else v.cells).size]!)) (ps.map fun x=>(x.1,a.eval x.2)).toList=some kO:=by simpa using f1
  have hnb:¬(16777216<as.length*sz):=aa;have ad9:¬(as.length*sz>2 ^ 24):=aa;by_cases h0:as.length*sz=0
  .simp only[aG h0] at FB;simp only[execOp,ho,Instr.buildSlice,Sem.run_bind,run_underlying ht,Result.andThen_ok,sizeOf,typeInfo,run_program,hi,Sem.run_pure,hs,aC ad9,aG h0,FB,newRow,run_newObj,f5];rfl
  simp only[aC h0] at FB;simp only[execOp,ho,Instr.buildSlice,Sem.run_bind,run_underlying ht,Result.andThen_ok,sizeOf,typeInfo,run_program,hi,Sem.run_pure,hs,aC ad9,aC h0,zeroValue,yl,FB,newRow,run_newObj,f5];rfl
 simp at f2;have cK:kO.size=es.length*sz:=by
  have h1:=f3.1;rw[Hb f4] at h1;have:kO.toList.length=vs.length:=by rw[f2]
  simp at this;omega
 have On:es.length<=maxLen:=by have:es.length<=es.length*sz:=PL _ jE;simp only[maxLen];rw[f5] at this |-;omega
 have KF:kO.toList.take (es.length*sz)=vs:=by rw[gT (by simp;omega),f2]
 constructor
 .intro qs hq;have eO:Ev m (m.kU (m.w.alloc (.cells kO e)) s m.w.heap.size es.length (.arr e sz qs)):=JT (fY.alloc _ _) (cD _);obtain⟨g1,g2,g3⟩:=auY hq f4 (f3.ev eO.zero);refine⟨_,m.kU (m.w.alloc (.cells kO e)) s m.w.heap.size es.length (.arr e sz qs),.inl jX,JV (fY.alloc _ _) (cD _) af ay ?_,eO,JU ay (cD _),rfl,Nq (cD _) On⟩;exact⟨kO,by rw[Fm];exact heap_alloc_new m.w _,jE,g2,by rw[rB,g3];exact cD _,by rw[rB];exact On,by rw[rB,cK],by rw[g3,KF];exact g1⟩
 have eO:Ev m (m.kU (m.w.alloc (.cells kO e)) s m.w.heap.size es.length (.jg e sz es)):=JT (fY.alloc _ _) (cD _);refine⟨_,m.kU (m.w.alloc (.cells kO e)) s m.w.heap.size es.length (.jg e sz es),.inl jX,JV (fY.alloc _ _) (cD _) af ay ?_,eO,JU ay (cD _),rfl,am0 (cD _) On⟩;exact⟨kO,by rw[Fm];exact heap_alloc_new m.w _,jE,f4,by rw[rB];exact cD _,by rw[rB];exact On,by rw[rB,cK],by rw[KF];exact f3.ev eO.zero⟩
end
end Go.Abs
namespace Go.Abs
variable {P:Program} {w0:World}
theorem Mh(a b:k_)(aj:aE):app (a++b) aj=app b (app a aj):=by
 induction a generalizing aj with
 |nil=>rfl
 |cons x r ih=>obtain⟨i,o⟩:=x;simp only[nY,app];exact ih _
theorem apT{m:Mem}{AP:Nat->Prop}(hf:∀c,AP c->m.fr c){c:Nat}(h:({m with fr:=AP}:Mem).own c):m.own c:=by
 rcases h with h|h
 .exact .inl (hf c h)
 exact .inr h
theorem Uo{m:Mem}{AP:Nat->Prop}(hf:∀c,AP c->m.fr c):Ev m {m with fr:=AP}:=
 ⟨rfl,rfl,rfl,cD _,fun _ _ _=>rfl,fun _ _ h=>h,fun _ _ hn h=>hn (apT hf h),fun _=>cD _,fun _ _ h=>⟨h,rfl,rfl,rfl⟩⟩
theorem YH{m:Mem}{AP:Nat->Prop}(h:Ok w0 m)(hf:∀c,AP c->m.fr c):Ok w0 {m with fr:=AP} where
 os:=h.os
 tape:=h.tape
 output:=h.output
 size:=h.size
 base:=h.base
 obj id o ho:=(h.obj id o ho).ev (Uo hf).zero rfl rfl rfl
 ig id o ho hm:=⟨(h.ig id o ho hm).1,fun hc=>(h.ig id o ho hm).2 (hf _ hc)⟩
 frlt c hc:=h.frlt c (hf c hc)
 inj:=h.inj
theorem ahy{m:Mem}{w':World}{c:Nat}(h:Ok w0 m)(hc:m.fr c)(fM:w0.heap.size<=c)(Bc:w'.os=m.w.os)(ht:w'.tape=m.w.tape)(qM:w'.output=m.w.output)(hs:w'.heap.size=m.w.heap.size)
  (hk:∀x,x≠c->w'.heap[x]?=m.w.heap[x]?):Ok w0 {m with w:=w'} where
 os:=Bc.trans h.os
 tape:=ht.trans h.tape
 output:=qM.trans h.output
 size:=oZ h.size (Gq hs.symm)
 base x hx:=(hk x aa).trans (h.base x hx)
 obj id o ho:=by
  have aK:m.σ id≠c:=by
   intro e;cases hm:o.gh with
   |true=>exact(h.ig id o ho hm).2 (e▸hc)
   |false=>exact(h.obj id o ho).calm hm (.inl (e▸hc))
  exact(h.obj id o ho).ev (m':={m with w:=w'}) ⟨fun x _ hn=>⟨hk x fun e=>hn (.inl (e▸hc)),hn⟩,fun _=>cD _,fun _ _ h=>⟨h,rfl,rfl,rfl⟩⟩ rfl rfl (hk _ aK)
 ig:=h.ig
 frlt x hx:=by rw[show({m with w:=w'}:Mem).w.heap.size=m.w.heap.size from hs];exact h.frlt x hx
 inj:=h.inj
theorem aci{m:Mem}(ay:Ok w0 m){own:Nat->Prop}{x:V}{v:Value}{new:s_}{rd fr:a_}(h:gb m.aj x=some (new,rd,fr))(hv:cF m x v)(hs:rl m own fr):
  ∃ax cx,v=.slice ax new.length cx/\(∀z,ny x=some z->∀e∈new,e.length=z)/\
   (new≠[]->∃b o news,ax=some ⟨b,o,none⟩/\Pw (cN m.w own) new.flatten news/\ ∀(j:Nat) (u:Value),news[j]?=some u->m.w.cell? ⟨b,o+j,none⟩=some u):=by
 have row:∀(c off sz len:Nat) (cur:Array Value) (ty:TypeId) (fz:Nat×Nat) (ps:s_),m.w.heap[c]?=some (.cells cur ty fz)->Pw (cN m.w own) ps.flatten ((cur.toList.drop (off*sz)).take (ps.length*sz))->
   ∃b o news,some (⟨c,off*sz,none⟩:Addr)=some ⟨b,o,none⟩/\Pw (cN m.w own) ps.flatten news/\ ∀(j:Nat) (u:Value),news[j]?=some u->m.w.cell? ⟨b,o+j,none⟩=some u:=by
  intro c off sz len cur ty fz ps hh hp;refine⟨c,off*sz,_,rfl,hp,fun j u hj=>?_⟩;rw[l8] at hj;split at hj
  .rw[E0 hh];simpa using hj
  cases hj
 unfold gb at h;split at h
 .cases h;exact⟨none,0,Uh hv,fun z hz=>by simp[ny] at hz,fun h=>(h rfl).elim⟩
 .rename_i es;cases h;obtain⟨hp⟩:dz m _ v:=hv;generalize iE:(PV.sl new)=pv at hp;cases hp<;>cases iE
  .exact⟨_,_,rfl,fun z hz=>by simp[ny] at hz,fun h=>(h rfl).elim⟩
  rename_i b o cap sz f hm ho hl cT uJ DW;refine⟨_,_,rfl,fun z hz=>by simp[ny] at hz,fun _=>⟨b,o,(List.range new.flatten.length).map f,rfl,⟨af,fun j y u p q=>?_⟩,fun j u q=>?_⟩⟩
  .have hj:j<new.flatten.length:=(aW.1 p).1;rw[gk,tM hj] at q;simp at q;subst q;exact(DW j y p).less hs.1
  have hj:j<new.flatten.length:=by have:=(aW.1 q).1;simpa using this
  rw[gk,tM hj] at q;simp at q;subst q;exact uJ j _ (rR hj)
 .rename_i id g z off len;have fg:dz m _ v:=hv;cases fg with
  |hsl ad cap hg hl hm Of=>
   split at h
   .rename_i g' ty sz es hb;split at h
    .rename_i hc;cases h;have bR:(m.aj id).2=some (.arr ty sz es):=by rw[hb]
     obtain⟨cur,hh,qO,cT,tj,vC,dF,dX⟩:=ay.obj id _ bR;obtain⟨e1,e2,e3⟩:=Of sz (by rw[hb];exact hc.1) (by rw[hb];rfl);have hlen:((es.drop off).take len).length=len:=by simp;omega
     refine⟨some ad,cap,by rw[hlen],fun z' rK e he=>?_,fun aK=>?_⟩
     .simp[ny] at rK;subst rK;rw[<- e1];exact cT e (xC (xD he))
     have:0<len:=by
      cases len with
      |zero=>simp at aK
      |succ n=>omega
     rw[e2 (.inr this)];exact row (m.σ id) off sz len cur ty _ _ hh (Ga cT (dM.pw.1 (dX.less hs.1)) hc.2)
    cases h
   .rename_i g' ty sz es hb;split at h
    .rename_i hc;cases h;have bR:(m.aj id).2=some (.qF ty sz es):=by rw[hb]
     obtain⟨cur,fz,hh,qO,cT,tj,vC,dF,dX,_⟩:=ay.obj id _ bR;obtain⟨e1,e2,e3⟩:=Of sz (by rw[hb];exact hc.1) (by rw[hb];rfl);have hlen:((es.drop off).take len).length=len:=by simp;omega
     refine⟨some ad,cap,by rw[hlen],fun z' rK e he=>?_,fun aK=>?_⟩
     .simp[ny] at rK;subst rK;rw[<- e1];exact cT e (xC (xD he))
     have:0<len:=by
      cases len with
      |zero=>simp at aK
      |succ n=>omega
     rw[e2 (.inr this)];exact row (m.σ id) off sz len cur ty _ _ hh (Ga cT (dM.pw.1 (dX.less hs.1)) hc.2)
    cases h
   .rename_i g' ty sz es hb;split at h
    .rename_i hc;split at h
     .rename_i ps q hq;cases h;have bR:(m.aj id).2=some (.jg ty sz es):=by rw[hb]
      obtain⟨cur,hh,qO,cT,tj,vC,dF,dX⟩:=ay.obj id _ bR;obtain⟨e1,e2,e3⟩:=Of sz (by rw[hb];exact hc.1) (by rw[hb];rfl);have hle:((es.drop off).take len).length=len:=by simp;omega
      have bd:new.length=len:=by rw[WA hq,hle]
      have Yh:=Ga cT (dO.pw.1 dX) hc.2;have OL:∀e∈(es.drop off).take len,e.length=sz:=fun e he=>cT e (xC (xD he));have mg:len*sz<=(cur.toList.drop (off*sz)).length:=by
       simp;have h1:off*sz+len*sz<=es.length*sz:=by rw[<- ib];exact mV _ hc.2
       have h2:es.length*sz<=m.κ id*sz:=mV _ tj;omega
      have pX:∀(j:Nat) (e:b_),new[j]?=some e->Pw (cN m.w own) e (((cur.toList.drop (off*sz)).drop (j*sz)).take sz):=by intro j e he;obtain⟨x,q',h1,h2,h3⟩:=Wz hq he;exact Jp (R:=dz m) (T:=cN m.w own) (fq:=rl m own) (fun a b h=>h.app) (fun a b r v e1 e2 e3=>Ly ay _ e1 e2 e3) h2 ⟨hs.1,fun i hi=>hs.2 i (h3 i hi)⟩ (Xf OL Yh h1)
      have FM:∀e∈new,e.length=sz:=by
       intro e he;obtain⟨j,hj⟩:=ia he;have:=(pX j e hj).1;have mh:j<len:=by rw[<- bd];exact(aW.1 hj).1
       have h1:(j+1)*sz<=len*sz:=mV _ mh;rw[ib] at h1;simp at this mg;omega
      refine⟨some ad,cap,by rw[bd],fun z' rK e he=>?_,fun aK=>?_⟩
      .simp[ny] at rK;subst rK;rw[<- e1];exact FM e he
      have:0<len:=by rw[<- bd];exact jQ.2 aK
      rw[e2 (.inr this)];refine row (m.σ id) off sz len cur ty _ _ hh ?_;rw[bd];have:=Zq FM (by rw[bd];exact mg) pX;rw[bd] at this;exact this
     cases h
    cases h
   split at h
   .rename_i uL;cases h;exact⟨some ad,cap,by rw[uL];rfl,fun z' _ e he=>by simp at he,fun h=>(h rfl).elim⟩
   cases h
 cases h
end Go.Abs
namespace Go.Abs
variable {P:Program} {w0:World}
theorem ag6{w:World}{own:Nat->Prop}{xs:b_}{vs:List Value}(h:Pw (cN w own) xs vs):∀u∈vs,u.oneCell'=true:=by
 intro v hv;obtain⟨j,hj⟩:=ia hv;have aB:j<xs.length:=by rw[<- h.1];exact(aW.1 hj).1
 exact(h.2 j _ v (rR aB) hj).O6
theorem Nr{m:Mem}{ids:a_}{u:k_}(h:tY m.aj ids=some u)(id:Nat):(app u m.aj id).1=(m.aj id).1:=by
 rcases xT h id with ⟨e,_⟩|⟨_,p,q,a,b,e⟩
 .exact congrArg Prod.fst e
 have:=congrArg Prod.fst e;exact this
theorem acd{m:Mem}{id:Nat}{o:Ob}{w':World}(ho:(m.aj id).2=some o)(hm:o.gh=true)(Bc:w'.os=m.w.os)(ht:w'.tape=m.w.tape)(qM:w'.output=m.w.output)(hs:w'.heap.size=m.w.heap.size)
  (hk:∀x,x≠m.σ id->w'.heap[x]?=m.w.heap[x]?):Ev m {m.iJ id with w:=w'} where
 os:=Bc
 tape:=ht
 output:=qM
 size:=Gq hs.symm
 keep c _ hn:=hk c fun e=>hn ⟨id,o,ho,hm,e.symm⟩
 gh:=(GV ho hm).gh
 less:=(GV ho hm).less
 gen:=(GV ho hm).gen
 ref:=(GV ho hm).ref
theorem asz{m:Mem}(ay:Ok w0 m){id s:Nat}{ob:Ob}{w':World}{Dm:Array Value}{ty sz:Nat}{im:s_}(ho:(m.aj id).2=some ob)(hm:ob.gh=true)(jE:0<sz)(Bc:w'.os=m.w.os)(ht:w'.tape=m.w.tape)(qM:w'.output=m.w.output)(hs:w'.heap.size=m.w.heap.size)
  (hk:∀x,x≠m.σ id->w'.heap[x]?=m.w.heap[x]?) (hh:w'.heap[m.σ id]?=some (.cells Dm ty (0,0))) (cT:∀e∈im,e.length=sz) (hl:im.length<=m.κ id) (tu:m.κ id<=maxLen) (dF:Dm.size=m.κ id*sz)
  (hp:Pw (cN m.w m.own) im.flatten (Dm.toList.take (im.length*sz))):
  ∃m',m'.w=w'/\Ok w0 m'/\Ev m m'/\m'.fr=m.fr/\m'.aj=eH (eH m.aj id ((m.aj id).1,none)) s ((m.aj s).1+1,some (.arr ty sz im))/\
   cF m' (.one (.hsl s ((m.aj s).1+1) sz 0 im.length)) (.slice (some ⟨m.σ id,0,none⟩) im.length (m.κ id)):=by
 have DG:=acd ho hm Bc ht qM hs hk;have fM:=(ay.ig id ob ho hm).1;have X7:Ok w0 {m.iJ id with w:=w'}:=ahy (m:=m.iJ id) (WY ay ho hm) (.inr rfl) fM Bc ht qM hs hk;have eO:Ev m ((({m.iJ id with w:=w'}:Mem)).install s (m.σ id) (m.κ id) (.arr ty sz im)):=Ud DG (.inr rfl) (.inr ⟨id,ob,ho,hm,rfl⟩);have yh:((({m.iJ id with w:=w'}:Mem)).aj s).1=(m.aj s).1:=by
  simp only[Mem.iJ,aU];split
  .rename_i e;subst e;rfl
  rfl
 have hσ:((({m.iJ id with w:=w'}:Mem)).install s (m.σ id) (m.κ id) (.arr ty sz im)).σ s=m.σ id:=by simp[Mem.install,aU]
 have hκ:((({m.iJ id with w:=w'}:Mem)).install s (m.σ id) (m.κ id) (.arr ty sz im)).κ s=m.κ id:=by simp[Mem.install,aU]
 refine⟨_,rfl,Ue X7 (.inr rfl) fM ?_,eO,?_,?_,?_⟩
 .exact⟨Dm,by rw[hσ];exact hh,jE,cT,by rw[hκ];exact hl,by rw[hκ];exact tu,by rw[hκ];exact dF,dM.ev eO.zero (dM.pw.2 hp)⟩
 .funext x;simp only[Mem.install,Mem.iJ];apply propext;constructor
  .rintro ⟨h|h,h2⟩
   .exact h
   exact(h2 h).elim
  intro h;exact⟨.inl h,fun e=>(ay.ig id ob ho hm).2 (e▸h)⟩
 .simp only[Mem.install];rw[yh];rfl
 refine cF.one.2 (.hsl _ _ ?_ hl tu fun z h1 h2=>?_)
 .simp only[Mem.install,aU,if_true];rw[yh];exact cD _
 have:lO (((({m.iJ id with w:=w'}:Mem)).install s (m.σ id) (m.κ id) (.arr ty sz im)).aj s)=some sz:=by simp[Mem.install,aU,lO]
 rw[this] at h2;cases h2;exact⟨rfl,fun _=>by rw[hσ,Bu],by rw[jr];exact hκ.symm⟩
theorem as3{P:Program}(w:World)(t ty e:TypeId)(i:TypeInfo)(z:Value)(ht:P.underlying t=some (.slice e))(hi:P.info? e=some i)(hz:i.zero=some z)
  (az:Option Addr) (a:Addr) (n c:Nat) (news:List Value) (hl:news.length=n*i.size) (zE:∀j v,news[j]?=some v->w.cell? (a.add j)=some v)
  (h0:0<n) (h63:(n:Int)<=9223372036854775807) (xV:n*i.bytes<=281474976710656):
  (Builtin.append_ #[t,t] ty #[.slice az 0 0,.slice (some a) n c]).run P w=
   .ok (.slice (some ⟨w.heap.size,0,none⟩) n (grownCap w n 0 e)) (w.drew.alloc (.cells (news.toArray++Builtin.zeroCells z.cells (grownCap w n 0 e-n)) e)):=by
 cases az with
 |none=>exact run_append_nil w t ty e i z ht hi hz a n c news hl zE h0 h63 xV
 |some b=>have h:=run_append_grow (P:=P) w t ty e i z ht hi hz b 0 0 [] af (fun j v h=>by simp at h) a n c news hl zE aa (by simpa using h63) (by rw[jr,nextslicecap_zero h0];exact xV);rw[jr] at h;rw[h];simp
theorem as2{P:Program}(w:World)(t ty e:TypeId)(i:TypeInfo)(ht:P.underlying t=some (.slice e))(hi:P.info? e=some i)
  (g off sLen sCap:Nat) (cur:Array Value) (hg:w.heap[g]?=some (.cells cur e (0,0)))
  (a:Addr) (m c:Nat) (news:List Value) (hl:news.length=m*i.size) (zE:∀j u,news[j]?=some u->w.cell? (a.add j)=some u) (h1:∀u∈news,u.oneCell'=true)
  (lf:sLen+m<=sCap) (hfit:off+sLen*i.size+news.length<=cur.size):
  (Builtin.append_ #[t,t] ty #[.slice (some ⟨g,off,none⟩) sLen sCap,.slice (some a) m c]).run P w=
   .ok (.slice (some ⟨g,off,none⟩) (sLen+m) sCap) (w.setRow g (cur.toList.take (off+sLen*i.size)++news++cur.toList.drop (off+sLen*i.size+news.length)).toArray):=by
 have hf:=run_firstCells_some (P:=P) w i.size m a m c news hl zE;have di:=run_storeCells_at P g (off+sLen*i.size) e news 0 cur w hg (by simpa using hfit) h1;simp only[u7] at di;simp[Builtin.append_,run_underlying ht,sizeOf,typeInfo,hi,Builtin.lenOf,lf,hf,Addr.add_lit,di]
section
variable {m:Mem} {ak:Env} {a:Act} {o:Oper} (ay:Ok w0 m) (hr:jt m ak a.tmps)
include ay hr
theorem atk{c:Call}{d x:Operand}{d' x':aX}{t e:TypeId}{s sz bytes:Nat}{z:b_}{v:V}{u:k_}{rd:a_}(ho:o.op=.call c)(hc:c.callee=.builtin .append)(has:c.args= #[d,x])(jU:c.argTypes= #[t,t])
  (he:BD P t=some (e,sz,bytes,z)) (hd:de d=some d') (hx:de x=some x') (hv:au m.aj s e sz bytes (ev ak d') (ev ak x')=.done v u rd):gC P w0 a.eval o m v u:=by
 obtain⟨i,zv,ht,hi,hs,hb,⟨jE,Hm⟩,yl,KK,mM,dX⟩:=Qw he;have pZ:=eZ hd hr;have lY:=eZ hx hr;have run:∀(y:Value) (w':World),(Builtin.append_ #[t,t] o.type #[a.eval d,a.eval x]).run P m.w=.ok y w'->(execOp a.eval o).run P m.w=.ok (.value y) w':=by intro y w' h;simp[execOp,ho,resolve,hc,has,jU,invoke,builtin,h]
 unfold au at hv;split at hv
 .cases hv
 rename_i new rd' fr dy;split at hv
 .cases hv
 rename_i aoQ;split at hv
 .cases hv
 rename_i fu rF;have oI:=ada ay rF;have wM:=Xm rF;have qc:=Xp ay rF;obtain⟨ax,cx,yw,aoP,zE⟩:=aci ay dy lY qc;have dV:∀e∈new,e.length=sz:=by
  have:ny (ev ak x')=some sz\/aw sz new=true:=Classical.not_not.1 aoQ;rcases this with h|h
  .exact aoP sz h
  intro e he;have:=gj.1 h e he
  simpa using this
 have Od:new.flatten.length=new.length*sz:=Hb dV;split at hv
 · -- nil
  rename_i Ho;rw[Ho] at pZ;have A1:=Uh pZ;split at hv
  .rename_i fE;cases hv;refine⟨.slice none 0 0,m.with u,.inl (run _ _ ?_),oI,wM,rfl,rfl,nk .nils⟩;rw[A1,yw,fE];cases ax<;>simp[Builtin.append_,run_underlying ht,sizeOf,typeInfo,hi,Builtin.lenOf,Builtin.firstCells,loadCells,loadCellsFrom,Mem.with]
  rename_i fE;split at hv
  .rename_i lf;cases hv;have aK:new≠[]:=fun h=>fE (by simp[h]);obtain⟨b,off,news,rfl,pY,zn⟩:=zE aK;unfold room at lf;have jW:news.length=new.length*i.size:=by rw[pY.1,Od,hs]
   have DR:new.length<=maxLen/\(new.length:Int)<=9223372036854775807:=by have:new.length<=new.length*bytes:=PL _ Hm;simp only[maxLen];omega
   have jX:=run_append_nil (P:=P) m.w t o.type e i zv ht hi yl ⟨b,off,none⟩ new.length cx news jW (fun j v hj=>by rw[Addr.add_lit];exact zn j v hj) aa DR.2 (by rw[hb];omega);generalize hW:m.w.drew.alloc (.cells (news.toArray++Builtin.zeroCells zv.cells (grownCap m.w new.length 0 e-new.length)) e)=W at jX;have hg:fY (m.with fu).w W:=by rw[<- hW];exact(fY.drew _).trans (fY.alloc _ _)
   have mg:=grownCap_ge m.w new.length 0 e;have NT:=grownCap_le_maxLen m.w new.length 0 e DR.1;have DG:Ev (m.with fu) ((m.with fu).kU W s m.w.heap.size (grownCap m.w new.length 0 e) (.arr e sz new)):=JT hg (cD _);have yh:=Nr rF s;refine⟨_,(m.with fu).kU W s m.w.heap.size (grownCap m.w new.length 0 e) (.arr e sz new),.inl (run _ _ (by rw[A1,yw];exact jX)),JV hg (cD _) (by rw[<- hW];simp) oI ?_,wM.trans DG,JU oI (cD _),?_,?_⟩
   .refine⟨_,by rw[Fm,Xj,<- hW];exact heap_alloc_new m.w.drew _,jE,dV,by rw[rB];exact mg,by rw[rB];exact NT,?_,?_⟩
    .rw[rB];simp only[Array.size_append,List.size_toArray,size_zeroCells,KK,jW,hs,<- ib];congr 1;omega
    have:(news.toArray++Builtin.zeroCells zv.cells (grownCap m.w new.length 0 e-new.length)).toList.take (new.length*sz)=news:=by simp only[Array.toList_append];rw[<- hs,<- jW];exact List.take_left
    rw[this];exact dM.ev DG.zero (dM.pw.2 pY)
   .rw[Mh,Xi];simp only[Mem.with];rw[yh]
   have:=Nq (m:=m.with fu) (w':=W) (s:=s) (c:=m.w.heap.size) (ty:=e) (sz:=sz) (es:=new) mg NT;simp only[Mem.with] at this;rw[yh] at this;exact this
  cases hv
 · -- an empty slice without room
  rename_i Ho;rw[Ho] at pZ;obtain⟨az,A1⟩:=apf pZ;split at hv
  .cases hv
  rename_i fE;split at hv
  .rename_i lf;cases hv;have aK:new≠[]:=fun h=>fE (by simp[h]);obtain⟨b,off,news,rfl,pY,zn⟩:=zE aK;unfold room at lf;have jW:news.length=new.length*i.size:=by rw[pY.1,Od,hs]
   have DR:new.length<=maxLen/\(new.length:Int)<=9223372036854775807:=by have:new.length<=new.length*bytes:=PL _ Hm;simp only[maxLen];omega
   have jX:=as3 (P:=P) m.w t o.type e i zv ht hi yl az ⟨b,off,none⟩ new.length cx news jW (fun j v hj=>by rw[Addr.add_lit];exact zn j v hj) aa DR.2 (by rw[hb];omega);generalize hW:m.w.drew.alloc (.cells (news.toArray++Builtin.zeroCells zv.cells (grownCap m.w new.length 0 e-new.length)) e)=W at jX;have hg:fY (m.with fu).w W:=by rw[<- hW];exact(fY.drew _).trans (fY.alloc _ _)
   have mg:=grownCap_ge m.w new.length 0 e;have NT:=grownCap_le_maxLen m.w new.length 0 e DR.1;have DG:Ev (m.with fu) ((m.with fu).kU W s m.w.heap.size (grownCap m.w new.length 0 e) (.arr e sz new)):=JT hg (cD _);have yh:=Nr rF s;refine⟨_,(m.with fu).kU W s m.w.heap.size (grownCap m.w new.length 0 e) (.arr e sz new),.inl (run _ _ (by rw[A1,yw];exact jX)),JV hg (cD _) (by rw[<- hW];simp) oI ?_,wM.trans DG,JU oI (cD _),?_,?_⟩
   .refine⟨_,by rw[Fm,Xj,<- hW];exact heap_alloc_new m.w.drew _,jE,dV,by rw[rB];exact mg,by rw[rB];exact NT,?_,?_⟩
    .rw[rB];simp only[Array.size_append,List.size_toArray,size_zeroCells,KK,jW,hs,<- ib];congr 1;omega
    have:(news.toArray++Builtin.zeroCells zv.cells (grownCap m.w new.length 0 e-new.length)).toList.take (new.length*sz)=news:=by simp only[Array.toList_append];rw[<- hs,<- jW];exact List.take_left
    rw[this];exact dM.ev DG.zero (dM.pw.2 pY)
   .rw[Mh,Xi];simp only[Mem.with];rw[yh]
   have:=Nq (m:=m.with fu) (w':=W) (s:=s) (c:=m.w.heap.size) (ty:=e) (sz:=sz) (es:=new) mg NT;simp only[Mem.with] at this;rw[yh] at this;exact this
  cases hv
 .rename_i id g zz len Ho;rw[Ho] at pZ;split at hv
  .rename_i g' kh cH es jL;split at hv
   .rename_i r5;obtain⟨jf,rfl,rfl,hlen,lf,X0⟩:=r5;cases hv;have X1:id∉fr:=by simpa using X0
    have dN:(m.with fu).aj id=m.aj id:=by
     rcases xT rF id with ⟨e,_⟩|⟨jC,_⟩
     .exact e
     exact(X1 jC).elim
    have bR:((m.with fu).aj id).2=some (.arr kh cH es):=by rw[dN,jL]
    obtain⟨cur,hh,_,cT,hl,tu,dF,Yb⟩:=oI.obj id _ bR;have NU:dz m _ (a.eval d):=pZ;generalize A1:a.eval d=dv at NU;cases NU with
    |hsl ad cap hg wP Ku Og=>
     obtain⟨f1,f2,f3⟩:=Og cH (by rw[jL];exact jf) (by rw[jL];rfl);have mg:cap=m.κ id:=by rw[<- f3,jr]
     have oE:=f2 (.inl rfl);rw[Bu] at oE;subst oE;unfold room at lf;have yh:=Nr rF s;have hgid:=Nr rF id;have Kq:len*cH<=es.length*cH:=mV _ hlen;have tj:es.length*cH<=m.κ id*cH:=mV _ hl;have X8:Pw (cN (m.with fu).w (m.with fu).own) (es.take len).flatten (cur.toList.take (len*cH)):=by rw[JR cT];have h1:=(dM.pw.1 Yb).take (len*cH);rw[Gp,Aj Kq] at h1;exact h1
     have KG:(es.take len).length=len:=by simp;omega
     have NP:∀x∈es.take len++new,x.length=cH:=by
      intro x hx;rcases eX.1 hx with hx|hx
      .exact cT x (xD hx)
      exact dV x hx
     have hnl0:len+new.length<=(len+new.length)*bytes:=PL _ Hm;have wW:∀q:fy,app (fu++[(id,(g,none)),q]) m.aj=eH (eH (m.with fu).aj id (((m.with fu).aj id).1,none)) q.1 q.2:=by intro q;rw[Mh];simp only[app];rw[dN,jL,jf];rfl
     have DO:(es.take len++new).length=len+new.length:=by rw[gJ,KG]
     by_cases hfit:len+new.length<=cap
     · -- in its own block
      have key:∀(w':World) (Dm:Array Value),(execOp a.eval o).run P m.w=.ok (.value (.slice (some ⟨m.σ id,0,none⟩) (len+new.length) cap)) w'->w'.os=m.w.os->w'.tape=m.w.tape->w'.output=m.w.output->w'.heap.size=m.w.heap.size->
        (∀x,x≠m.σ id->w'.heap[x]?=m.w.heap[x]?)->w'.heap[m.σ id]?=some (.cells Dm kh (0,0))->Dm.size=cur.size->Pw (cN (m.with fu).w (m.with fu).own) (es.take len++new).flatten (Dm.toList.take ((len+new.length)*cH))->
        gC P w0 a.eval o m (.one (.hsl s ((m.aj s).1+1) cH 0 (len+new.length))) (fu++[(id,(g,none)),(s,((m.aj s).1+1,some (.arr kh cH (es.take len++new))))]):=by
       intro w' Dm jX q1 q2 q3 q4 q5 q6 q7 q8;obtain⟨m',e1,e2,e3,e4,e5,e6⟩:=asz (s:=s) oI bR rfl jE q1 q2 q3 q4 q5 q6 NP (by rw[DO];rw[mg] at hfit;exact hfit) tu (by rw[q7];exact dF) (by rw[DO];exact q8);rw[DO] at e6;have TU:((m.with fu).aj s).1=(m.aj s).1:=yh;rw[TU] at e6 e5;refine⟨_,m',.inl (by rw[e1];exact jX),e2,wM.trans e3,e4,by rw[e5,wW],?_⟩;rw[mg];exact e6
      by_cases fE:new=[]
      .subst fE;have aoN:(execOp a.eval o).run P m.w=.ok (.value (.slice (some ⟨m.σ id,0,none⟩) (len+([]:s_).length) cap)) m.w:=by
        apply run;rw[A1,yw];have aoe:len<=cap:=wP;cases ax<;>simp[Builtin.append_,run_underlying ht,sizeOf,typeInfo,hi,Builtin.lenOf,Builtin.firstCells,loadCells,loadCellsFrom,aoe,storeCells]
       exact key m.w cur aoN rfl rfl rfl rfl (fun _ _=>rfl) hh rfl (by simpa using X8)
      obtain⟨b,off,news,rfl,pY,zn⟩:=zE fE;have jW:news.length=new.length*i.size:=by rw[pY.1,Od,hs]
      have BQ:len*i.size+news.length<=cur.size:=by rw[jW,hs,dF,<- ib];rw[mg] at hfit;exact mV _ hfit
      have jX:=run_append_room (P:=P) m.w t o.type kh i ht hi (m.σ id) len cap cur hh ⟨b,off,none⟩ new.length cx news jW (fun j v hj=>by rw[Addr.add_lit];exact zn j v hj) (ag6 pY) hfit BQ;have aoO:(execOp a.eval o).run P m.w=.ok (.value (.slice (some ⟨m.σ id,0,none⟩) (len+new.length) cap)) _:=run _ _ (by rw[A1,yw];exact jX);have anR:len*i.size<=cur.size:=oZ (Nat.le_add_right _ _) BQ;refine key _ _ aoO ?_ ?_ ?_ ?_ (fun x hx=>setRow_other m.w (m.σ id) x _ hx) (Pn hh) ?_ ?_
      .rfl
      .rfl
      .rfl
      .exact setRow_size m.w _ _
      .rw[List.size_toArray,gJ,gJ,iH,lD,Array.length_toList];omega
      have h1:=X8.append pY;rw[<- EH] at h1;have:(cur.toList.take (len*i.size)++news++cur.toList.drop (len*i.size+news.length)).take ((len+new.length)*cH)=cur.toList.take (len*cH)++news:=by
       rw[hs];have cK:(cur.toList.take (len*cH)).length=len*cH:=by rw[iH,Array.length_toList];rw[hs] at anR;omega
       have TN:(cur.toList.take (len*cH)++news).length=(len+new.length)*cH:=by rw[gJ,cK,jW,hs,ib]
       rw[PK (Gq TN.symm)];exact gT (Gq TN)
      simp only[List.toList_toArray] at this |-;rw[this];exact h1
     · -- a new block
      have fE:new≠[]:=fun e=>by subst e;simp at hfit;omega
      obtain⟨b,off,news,rfl,pY,zn⟩:=zE fE;have jW:news.length=new.length*i.size:=by rw[pY.1,Od,hs]
      have Bb:(cur.toList.take (len*cH)).length=len*i.size:=by rw[hs,iH,Array.length_toList];have AZ:cur.size=m.κ id*cH:=dF;omega
      have jX:=run_append_grow (P:=P) m.w t o.type kh i zv ht hi yl ⟨m.σ id,0,none⟩ len cap (cur.toList.take (len*cH)) Bb (fun j v hj=>by
        rw[Addr.add_lit,jr];have:(m.w.cell? ⟨m.σ id,j,none⟩)=cur[j]? :=E0 hh;rw[this];rw[l8] at hj;split at hj
        .simpa using hj
        cases hj) ⟨b,off,none⟩ new.length cx news jW (fun j v hj=>by rw[Addr.add_lit];exact zn j v hj) aa aa (growslice_fits aa (by rw[hb];omega))
      have DR:len+new.length<=maxLen:=by simp only[maxLen];omega
      have Kk:=grownCap_ge m.w (len+new.length) cap kh;have Kl:=grownCap_le_maxLen m.w (len+new.length) cap kh DR;generalize uJ:grownCap m.w (len+new.length) cap kh=cc at jX Kk Kl;generalize hW:m.w.drew.alloc (.cells ((cur.toList.take (len*cH)).toArray++news.toArray++Builtin.zeroCells zv.cells (cc-(len+new.length))) kh)=W at jX;have Oz:=YH (AP:=m.fr) (WY oI bR rfl) (fun c hc=>.inl hc);have XJ:Ev (m.with fu) {(m.with fu).iJ id with fr:=m.fr}:=(GV bR rfl).trans (Uo (fun c hc=>.inl hc));have DI:fY ({(m.with fu).iJ id with fr:=m.fr}:Mem).w W:=by rw[<- hW];exact(fY.drew _).trans (fY.alloc _ _)
      have DG:Ev ({(m.with fu).iJ id with fr:=m.fr}:Mem) (({(m.with fu).iJ id with fr:=m.fr}:Mem).kU W s m.w.heap.size cc (.arr kh cH (es.take len++new))):=JT DI (cD _);have adR:=XJ.trans DG;have TU:((({(m.with fu).iJ id with fr:=m.fr}:Mem)).aj s).1=(m.aj s).1:=by
       simp only[Mem.iJ,aU];split
       .rename_i e';subst e';exact yh
       exact yh
      refine⟨_,({(m.with fu).iJ id with fr:=m.fr}:Mem).kU W s m.w.heap.size cc (.arr kh cH (es.take len++new)),.inl (run _ _ (by rw[A1,yw];exact jX)),JV DI (cD _) (by rw[<- hW];simp) Oz ?_,wM.trans adR,JU Oz (cD _),?_,?_⟩
      .refine⟨_,by rw[Fm,Xj,<- hW];exact heap_alloc_new m.w.drew _,jE,NP,by rw[rB,DO];exact Kk,by rw[rB];exact Kl,?_,?_⟩
       .rw[rB];simp only[Array.size_append,List.size_toArray,size_zeroCells,KK,jW,Bb,hs,<- ib];congr 1;omega
       have h1:=X8.append pY;rw[<- EH] at h1;have:((cur.toList.take (len*cH)).toArray++news.toArray++Builtin.zeroCells zv.cells (cc-(len+new.length))).toList.take ((es.take len++new).length*cH)=cur.toList.take (len*cH)++news:=by simp only[Array.toList_append,DO];exact List.take_left' (by rw[gJ,List.toList_toArray,List.toList_toArray,Bb,jW,hs,ib])
       rw[this];exact dM.ev adR.zero (dM.pw.2 h1)
      .rw[Xi,wW];simp only[app];rw[TU];rfl
      have:=Nq (m:=({(m.with fu).iJ id with fr:=m.fr}:Mem)) (w':=W) (s:=s) (c:=m.w.heap.size) (ty:=kh) (sz:=cH) (es:=es.take len++new) Kk Kl;rw[TU] at this;exact this
   cases hv
  cases hv
 · -- a slice that begins within its array: its values, nobody's any more
  rename_i id g zz off len aK Ho;rw[Ho] at pZ;split at hv
  .rename_i g' kh cH es jL;split at hv
   .rename_i r5;obtain⟨jf,rfl,rfl,hlen,lf,X0,uL,aom⟩:=r5;cases hv;have X1:id∉fr:=by simpa using X0
    have dN:(m.with fu).aj id=m.aj id:=by
     rcases xT rF id with ⟨e,_⟩|⟨jC,_⟩
     .exact e
     exact(X1 jC).elim
    have bR:((m.with fu).aj id).2=some (.arr kh cH es):=by rw[dN,jL]
    obtain⟨cur,hh,_,cT,hl,tu,dF,Yb⟩:=oI.obj id _ bR;have NU:dz m _ (a.eval d):=pZ;generalize A1:a.eval d=dv at NU;cases NU with
    |hsl ad cap hg wP Ku Og=>
     obtain⟨f1,f2,f3⟩:=Og cH (by rw[jL];exact jf) (by rw[jL];rfl);have oE:=f2 (.inr uL);subst oE;unfold room at lf;have fM:=(oI.ig id _ bR rfl).1;have hnf:=(oI.ig id _ bR rfl).2;have holds:=Ga (off:=off) (len:=len) cT (dM.pw.1 Yb) hlen;have KG:((es.drop off).take len).length=len:=by simp;omega
     rw[KG] at holds;have anE:∀x∈(es.drop off).take len,x.length=cH:=fun x hx=>cT x (xC (xD hx));have NP:∀x∈(es.drop off).take len++new,x.length=cH:=by
      intro x hx;rcases eX.1 hx with hx|hx
      .exact anE x hx
      exact dV x hx
     have fE:new≠[]:=fun e=>by subst e;simp at aom
     obtain⟨b,bo,news,rfl,pY,zn⟩:=zE fE;have jW:news.length=new.length*i.size:=by rw[pY.1,Od,hs]
     have DO:((es.drop off).take len++new).length=len+new.length:=by rw[gJ,KG]
     have adT:(((es.drop off).take len++new).flatten).length=(len+new.length)*cH:=by rw[Hb NP,DO]
     have Yc:=holds.append pY;rw[<- EH] at Yc;have Bb:((cur.toList.drop (off*cH)).take (len*cH)).length=len*i.size:=by rw[hs,iH,lD,Array.length_toList];have AZ:cur.size=m.κ id*cH:=dF;have h1:(off+len)*cH<=m.κ id*cH:=mV _ aa;rw[ib] at h1;omega
     have wW:app (fu++[(id,(g,none))]) m.aj=eH (m.with fu).aj id (((m.with fu).aj id).1,none):=by rw[Mh];simp only[app];rw[dN,jL,jf];rfl
     have XH:Ok w0 ((m.with fu).iJ id):=WY oI bR rfl;have anU:Ev (m.with fu) ((m.with fu).iJ id):=GV bR rfl;have XW:¬((m.with fu).iJ id).gh (m.σ id):=by
      rintro ⟨j,o',h1,h2,h3⟩
      exact(XH.ig j o' h1 h2).2 (.inr h3)
     have val:∀(m2:Mem) (c0 o0 cp:Nat) (cells:List Value),Ev (m.with fu) m2-> ¬m2.own c0->cells.length=(len+new.length)*cH->(∀j v,cells[j]?=some v->m2.w.cell? ⟨c0,o0+j,none⟩=some v)->
       Pw (cN (m.with fu).w (m.with fu).own) ((es.drop off).take len++new).flatten cells->len+new.length<=cp->cp<=maxLen->cF m2 (.one (.p (.sl ((es.drop off).take len++new)))) (.slice (some ⟨c0,o0,none⟩) (len+new.length) cp):=by
      intro m2 c0 o0 cp cells eO eh cK hce fG h1 h2;refine nk ?_;rw[<- DO];refine .sl c0 o0 cp cH (fun j=>cells.getD j undef) (fun _=>eh) (by rw[DO];exact h1) h2 NP (fun j x hj=>?_) (fun j x hj=>?_)
      .have mh:j<cells.length:=by rw[cK,<- adT];exact(aW.1 hj).1
       rw[dK,rR mh];exact hce j _ (rR mh)
      have mh:j<cells.length:=by rw[cK,<- adT];exact(aW.1 hj).1
      rw[dK,rR mh];exact(fG.2 j x _ hj (rR mh)).ev eO.zero
     by_cases hfit:len+new.length<=cap
     · -- in its own block
      have BQ:off*cH+len*i.size+news.length<=cur.size:=by rw[jW,hs,dF,<- ib,<- ib];exact mV _ (by have f3':off+cap=m.κ id:=f3;show _<=m.κ id;omega)
      have jX:=as2 (P:=P) m.w t o.type kh i ht hi (m.σ id) (off*cH) len cap cur hh ⟨b,bo,none⟩ new.length cx news jW (fun j v hj=>by rw[Addr.add_lit];exact zn j v hj) (ag6 pY) hfit BQ;generalize hW:m.w.setRow (m.σ id) (cur.toList.take (off*cH+len*i.size)++news++cur.toList.drop (off*cH+len*i.size+news.length)).toArray=W at jX;have hWh:W.heap[m.σ id]?=some (.cells (cur.toList.take (off*cH+len*i.size)++news++cur.toList.drop (off*cH+len*i.size+news.length)).toArray kh (0,0)):=by rw[<- hW];exact Pn hh
      have k1:W.os=m.w.os:=by rw[<- hW];rfl
      have k2:W.tape=m.w.tape:=by rw[<- hW];rfl
      have k3:W.output=m.w.output:=by rw[<- hW];rfl
      have k4:W.heap.size=m.w.heap.size:=by rw[<- hW];exact setRow_size m.w _ _
      have k5:∀x,x≠m.σ id->W.heap[x]?=m.w.heap[x]? :=fun x hx=>by rw[<- hW];exact setRow_other m.w (m.σ id) x _ hx
      have X7:Ok w0 {(m.with fu).iJ id with w:=W}:=ahy (m:=(m.with fu).iJ id) XH (.inr rfl) fM k1 k2 k3 k4 k5;have anZ:Ev (m.with fu) {(m.with fu).iJ id with w:=W}:=acd bR rfl k1 k2 k3 k4 k5;have T1:=YH (AP:=m.fr) X7 (fun c hc=>.inl hc);have N9:Ev (m.with fu) ({({(m.with fu).iJ id with w:=W}:Mem) with fr:=m.fr}:Mem):=anZ.trans (Uo fun c hc=>.inl hc);refine⟨_,({({(m.with fu).iJ id with w:=W}:Mem) with fr:=m.fr}:Mem),.inl (run _ _ (by rw[A1,yw];exact jX)),T1,wM.trans N9,rfl,by rw[wW];rfl,?_⟩;refine val _ (m.σ id) (off*cH) cap ((cur.toList.drop (off*cH)).take (len*cH)++news) N9 ?_ (by rw[gJ,Bb,jW,hs,ib]) ?_ Yc hfit Ku
      .rintro (h|h)
       .exact hnf h
       exact XW h
      intro j v hj;have cK:({({(m.with fu).iJ id with w:=W}:Mem) with fr:=m.fr}:Mem).w.cell? ⟨m.σ id,off*cH+j,none⟩=(cur.toList.take (off*cH+len*i.size)++news++cur.toList.drop (off*cH+len*i.size+news.length)).toArray[off*cH+j]? :=E0 hWh;rw[cK];have mh:=(aW.1 hj).1;rw[gJ,Bb] at mh;have KF:(cur.toList.take (off*cH+len*i.size)).length=off*cH+len*i.size:=by rw[iH,Array.length_toList];omega
      rw[List.getElem?_toArray,vW];by_cases Hx:j<len*i.size
      .rw[xB (by rw[KF];omega),l8,aG aa];rw[xB (by rw[Bb];exact Hx),l8,aG (by rw[<- hs];exact Hx),Ah] at hj;exact hj
      rw[Ag (by rw[KF];omega),KF,xB aa];rw[Ag (by rw[Bb];omega),Bb] at hj;rw[show off*cH+j-(off*cH+len*i.size)=j-len*i.size by omega];exact hj
     · -- a new block
      have hnlb:len+new.length<=(len+new.length)*bytes:=PL _ Hm;have jX:=run_append_grow (P:=P) m.w t o.type kh i zv ht hi yl ⟨m.σ id,off*cH,none⟩ len cap ((cur.toList.drop (off*cH)).take (len*cH)) Bb (fun j v hj=>by
        rw[Addr.add_lit];have:(m.w.cell? ⟨m.σ id,off*cH+j,none⟩)=cur[off*cH+j]? :=E0 hh;rw[this];rw[l8] at hj;split at hj
        .rw[Ah] at hj
         simpa using hj
        cases hj) ⟨b,bo,none⟩ new.length cx news jW (fun j v hj=>by rw[Addr.add_lit];exact zn j v hj) aa aa (growslice_fits aa (by rw[hb];omega))
      have DR:len+new.length<=maxLen:=by simp only[maxLen];omega
      have Kk:=grownCap_ge m.w (len+new.length) cap kh;have Kl:=grownCap_le_maxLen m.w (len+new.length) cap kh DR;generalize uJ:grownCap m.w (len+new.length) cap kh=cc at jX Kk Kl;generalize hW:m.w.drew.alloc (.cells (((cur.toList.drop (off*cH)).take (len*cH)).toArray++news.toArray++Builtin.zeroCells zv.cells (cc-(len+new.length))) kh)=W at jX;have Oz:=YH (AP:=m.fr) XH (fun c hc=>.inl hc);have XJ:Ev (m.with fu) {(m.with fu).iJ id with fr:=m.fr}:=anU.trans (Uo (fun c hc=>.inl hc));have DI:fY ({(m.with fu).iJ id with fr:=m.fr}:Mem).w W:=by rw[<- hW];exact(fY.drew _).trans (fY.alloc _ _)
      have T1:=OW (X:=fun _=>False) Oz DI (fun c hc=>hc.elim);have N9:=XJ.trans (KS (X:=fun _=>False) DI (fun c hc=>hc.elim));have HD:W.heap[m.w.heap.size]?=some (.cells (((cur.toList.drop (off*cH)).take (len*cH)).toArray++news.toArray++Builtin.zeroCells zv.cells (cc-(len+new.length))) kh (0,0)):=by rw[<- hW];exact heap_alloc_new m.w.drew _
      refine⟨_,({(m.with fu).iJ id with fr:=m.fr}:Mem).later W (fun _=>False),.inl (run _ _ (by rw[A1,yw];exact jX)),T1,wM.trans N9,?_,by rw[wW];rfl,?_⟩
      .funext x;simp only[Mem.later];exact propext ⟨fun h=>h.elim (fun h=>h) (fun h=>h.elim),.inl⟩
      refine val _ m.w.heap.size 0 cc ((cur.toList.drop (off*cH)).take (len*cH)++news) N9 ?_ (by rw[gJ,Bb,jW,hs,ib]) ?_ Yc Kk Kl
      .have aop:¬(m.with fu).own m.w.heap.size:=by
        rintro (h|⟨j,o',h1,h2,h3⟩)
        .exact Nat.lt_irrefl _ (oI.frlt _ h)
        have:=(oI.obj j o' h1).lt;rw[h3] at this;exact Nat.lt_irrefl _ this
       rintro ((h|h)|⟨j,o',h1,h2,h3⟩)
       .exact aop (.inl h)
       .exact h
       have:=(T1.obj j o' h1).lt;have h4:=(Oz.obj j o' h1).lt;have rC:m.σ j=m.w.heap.size:=h3;have vr:m.σ j<m.w.heap.size:=h4;omega
      intro j v hj;have cK:W.cell? ⟨m.w.heap.size,0+j,none⟩=_:=E0 HD;show W.cell? ⟨m.w.heap.size,0+j,none⟩=some v;rw[cK,jr];have mh:=(aW.1 hj).1;rw[<- Array.getElem?_toList,Array.toList_append,Array.toList_append,xB (by simpa using mh)];exact hj
   cases hv
  cases hv
 cases hv
end
end Go.Abs
