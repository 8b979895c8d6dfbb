/-
  An abstract machine for the code of the model.
-/
import Derived.KernelRfl
import Derived.Calls
import Derived.WalkKit
set_option linter.all false
namespace Go.Abs
abbrev p_:=List UInt8
abbrev m_:=List Bool
abbrev d_:=List Int
abbrev a_:=List Nat
abbrev w_:=Option Nat
abbrev v_:=List (Nat×Nat)
abbrev u_:=List (Int×Int)
abbrev r_:=List (Nat×a_)
theorem aa{p:Prop}(h:p:=by omega):p:=h
theorem ae{p:Prop}(h:p:=by decide):p:=h
theorem af{p:Prop}(h:p:=by simp):p:=h
theorem ah{p:Prop}(h:p:=by kernel_rfl):p:=h
theorem ay:type_of% @if_neg.{1}:=@if_neg.{1}
theorem aD:type_of% @if_pos.{1}:=@if_pos.{1}
theorem aT:type_of% @List.getElem?_eq_some_iff.{0}:=@List.getElem?_eq_some_iff.{0}
theorem aV:type_of% @List.mem_of_getElem?.{0}:=@List.mem_of_getElem?.{0}
theorem bG:type_of% @Nat.zero_le:=@Nat.zero_le
theorem bR:type_of% @Nat.le_refl:=@Nat.le_refl
theorem cD:type_of% @List.mem_cons.{0}:=@List.mem_cons.{0}
theorem cM:type_of% @List.length_map.{0,0}:=@List.length_map.{0,0}
theorem cU:type_of% @Bool.and_eq_true:=@Bool.and_eq_true
theorem dh:type_of% @List.mem_map.{0,0}:=@List.mem_map.{0,0}
theorem dk:type_of% @beq_iff_eq.{0}:=@beq_iff_eq.{0}
theorem dr:type_of% @Nat.mod_lt:=@Nat.mod_lt
theorem dA:type_of% @List.getD_eq_getElem?_getD.{0}:=@List.getD_eq_getElem?_getD.{0}
theorem dC:type_of% @List.length_cons.{0}:=@List.length_cons.{0}
theorem dN:type_of% @Bool.false_eq_true:=@Bool.false_eq_true
theorem dS:type_of% @Option.map_eq_some_iff.{0,0}:=@Option.map_eq_some_iff.{0,0}
theorem eh:type_of% @List.map_cons.{0,0}:=@List.map_cons.{0,0}
theorem eK:type_of% @List.mem_append.{0}:=@List.mem_append.{0}
theorem fe:type_of% @List.length_nil.{0}:=@List.length_nil.{0}
theorem fq:type_of% @List.not_mem_nil.{0}:=@List.not_mem_nil.{0}
theorem fG:type_of% @List.getElem?_map.{0,0}:=@List.getElem?_map.{0,0}
theorem fS:type_of% @List.length_append.{0}:=@List.length_append.{0}
theorem fZ:type_of% @List.nil_append.{0}:=@List.nil_append.{0}
theorem gh:type_of% @Option.some.injEq.{0}:=@Option.some.injEq.{0}
theorem gO:type_of% @List.all_eq_true.{0}:=@List.all_eq_true.{0}
theorem gV:type_of% @List.mem_range:=@List.mem_range
theorem gY:type_of% @Nat.mod_eq_of_lt:=@Nat.mod_eq_of_lt
theorem ia:type_of% @Nat.add_mul:=@Nat.add_mul
theorem ib:type_of% @of_decide_eq_false:=@of_decide_eq_false
theorem iz:type_of% @List.take_of_length_le.{0}:=@List.take_of_length_le.{0}
theorem iA:type_of% @Nat.le_of_ble_eq_true:=@Nat.le_of_ble_eq_true
theorem iJ:type_of% @List.getElem?_of_mem.{0}:=@List.getElem?_of_mem.{0}
theorem iK:type_of% @List.length_take.{0}:=@List.length_take.{0}
theorem jl:type_of% @List.length_pos_iff.{0}:=@List.length_pos_iff.{0}
theorem js:type_of% @Nat.zero_add:=@Nat.zero_add
theorem jA:type_of% @List.append_nil.{0}:=@List.append_nil.{0}
theorem kZ:type_of% @List.map_append.{0,0}:=@List.map_append.{0,0}
theorem k9:type_of% @List.mem_singleton.{0}:=@List.mem_singleton.{0}
theorem lf:type_of% @List.take_length.{0}:=@List.take_length.{0}
theorem lO:type_of% @List.length_drop.{0}:=@List.length_drop.{0}
theorem lQ:type_of% @List.map_nil.{0,0}:=@List.map_nil.{0,0}
theorem lR:type_of% @Prod.mk.injEq.{0,0}:=@Prod.mk.injEq.{0,0}
theorem lS:type_of% @beq_eq_false_iff_ne.{0}:=@beq_eq_false_iff_ne.{0}
theorem mj:type_of% @Bool.not_eq_true':=@Bool.not_eq_true'
theorem mH:type_of% @List.all_cons.{0}:=@List.all_cons.{0}
theorem mI:type_of% @List.getElem?_take.{0}:=@List.getElem?_take.{0}
theorem mJ:type_of% @List.take_append_drop.{0}:=@List.take_append_drop.{0}
theorem mW:type_of% @List.cons_append.{0}:=@List.cons_append.{0}
theorem mX:type_of% @List.flatten_cons.{0}:=@List.flatten_cons.{0}
theorem mY:type_of% @Nat.le_trans:=@Nat.le_trans
theorem mZ:type_of% @Nat.mul_le_mul_right:=@Nat.mul_le_mul_right
theorem nN:type_of% @Nat.lt_succ_iff_lt_or_eq:=@Nat.lt_succ_iff_lt_or_eq
theorem nO:type_of% @Option.getD_some.{0}:=@Option.getD_some.{0}
theorem nQ:type_of% @Option.map_some.{0,0}:=@Option.map_some.{0,0}
theorem oL:type_of% @List.length_reverse.{0}:=@List.length_reverse.{0}
theorem oN:type_of% @Nat.not_lt_zero:=@Nat.not_lt_zero
theorem oO:type_of% @decide_eq_true_eq:=@decide_eq_true_eq
theorem pP:type_of% @Int.toNat_natCast:=@Int.toNat_natCast
theorem pQ:type_of% @List.all_nil.{0}:=@List.all_nil.{0}
theorem qp:type_of% @List.getElem?_eq_none.{0}:=@List.getElem?_eq_none.{0}
theorem qq:type_of% @List.take_add_one.{0}:=@List.take_add_one.{0}
theorem qt:type_of% @Option.some.inj.{0}:=@Option.some.inj.{0}
theorem qu:type_of% @of_decide_eq_true:=@of_decide_eq_true
theorem qT:type_of% @List.getElem?_set.{0}:=@List.getElem?_set.{0}
theorem qU:type_of% @List.nodup_cons.{0}:=@List.nodup_cons.{0}
theorem qV:type_of% @Nat.add_mod_right:=@Nat.add_mod_right
theorem rL:type_of% @List.getElem?_eq_getElem.{0}:=@List.getElem?_eq_getElem.{0}
theorem rM:type_of% @List.pairwise_cons.{0}:=@List.pairwise_cons.{0}
theorem tA:type_of% @Int.eq_ofNat_of_zero_le:=@Int.eq_ofNat_of_zero_le
theorem uc:type_of% @List.getElem_cons_drop.{0}:=@List.getElem_cons_drop.{0}
theorem ud:type_of% @List.length_set.{0}:=@List.length_set.{0}
theorem ue:type_of% @List.map_map.{0,0,0}:=@List.map_map.{0,0,0}
theorem u5:type_of% @List.getElem?_range:=@List.getElem?_range
theorem u6:type_of% @List.mem_cons_of_mem.{0}:=@List.mem_cons_of_mem.{0}
theorem u7:type_of% @List.mem_filter.{0}:=@List.mem_filter.{0}
theorem u9:type_of% @Nat.add_zero:=@Nat.add_zero
theorem vS:type_of% @Bool.and_true:=@Bool.and_true
theorem vT:type_of% @Bool.or_eq_true:=@Bool.or_eq_true
theorem vU:type_of% @List.append_assoc.{0}:=@List.append_assoc.{0}
theorem xf:type_of% @List.countP_append.{0}:=@List.countP_append.{0}
theorem xg:type_of% @List.countP_cons.{0}:=@List.countP_cons.{0}
theorem xh:type_of% @List.getElem?_append_left.{0}:=@List.getElem?_append_left.{0}
theorem xj:type_of% @List.mem_of_mem_drop.{0}:=@List.mem_of_mem_drop.{0}
theorem xl:type_of% @List.nodup_nil.{0}:=@List.nodup_nil.{0}
theorem xm:type_of% @Nat.eq_of_beq_eq_true:=@Nat.eq_of_beq_eq_true
theorem xn:type_of% @Nat.mod_two_eq_zero_or_one:=@Nat.mod_two_eq_zero_or_one
theorem yg:type_of% @Bool.and_self:=@Bool.and_self
theorem yh:type_of% @List.cons.injEq.{0}:=@List.cons.injEq.{0}
theorem yj:type_of% @List.ext_getElem.{0}:=@List.ext_getElem.{0}
theorem yl:type_of% @List.mem_of_mem_take.{0}:=@List.mem_of_mem_take.{0}
theorem ym:type_of% @List.pairwise_map.{0,0}:=@List.pairwise_map.{0,0}
theorem yn:type_of% @List.range_succ:=@List.range_succ
theorem zE:type_of% @List.any_eq_true.{0}:=@List.any_eq_true.{0}
theorem zH:type_of% @List.countP_pos_iff.{0}:=@List.countP_pos_iff.{0}
theorem zI:type_of% @List.getElem?_append_right.{0}:=@List.getElem?_append_right.{0}
theorem zJ:type_of% @List.getElem?_drop.{0}:=@List.getElem?_drop.{0}
theorem zK:type_of% @Nat.min_eq_left:=@Nat.min_eq_left
theorem Ba:type_of% @List.countP_map.{0,0}:=@List.countP_map.{0,0}
theorem Bb:type_of% @List.ext_getElem?.{0}:=@List.ext_getElem?.{0}
theorem Bc:type_of% @List.foldl_cons.{0,0}:=@List.foldl_cons.{0,0}
theorem Bd:type_of% @List.map_congr_left.{0,0}:=@List.map_congr_left.{0,0}
theorem Be:type_of% @Nat.mod_add_mod:=@Nat.mod_add_mod
theorem Bf:type_of% @Nat.zero_mul:=@Nat.zero_mul
theorem Bg:type_of% @decide_eq_true:=@decide_eq_true
theorem Cw:type_of% @Bool.false_or:=@Bool.false_or
theorem Cx:type_of% @Bool.not_true:=@Bool.not_true
theorem Cy:type_of% @beq_self_eq_true.{0}:=@beq_self_eq_true.{0}
theorem Ef:type_of% @Bool.eq_iff_iff:=@Bool.eq_iff_iff
theorem Eg:type_of% @Bool.true_and:=@Bool.true_and
theorem Eh:type_of% @List.flatten_append.{0}:=@List.flatten_append.{0}
theorem Ei:type_of% @List.getElem_map.{0,0}:=@List.getElem_map.{0,0}
theorem Ej:type_of% @List.length_eq_zero_iff.{0}:=@List.length_eq_zero_iff.{0}
theorem Ek:type_of% @List.length_range:=@List.length_range
theorem El:type_of% @List.mem_append_right.{0}:=@List.mem_append_right.{0}
theorem Em:type_of% @Nat.lt_of_lt_of_le:=@Nat.lt_of_lt_of_le
theorem En:type_of% @Nat.mod_self:=@Nat.mod_self
theorem Eo:type_of% @decide_eq_false:=@decide_eq_false
theorem Gc:type_of% @List.mem_append_left.{0}:=@List.mem_append_left.{0}
theorem Gd:type_of% @List.mem_flatMap.{0,0}:=@List.mem_flatMap.{0,0}
theorem Ge:type_of% @List.mem_flatten.{0}:=@List.mem_flatten.{0}
theorem Gf:type_of% @List.nodup_append.{0}:=@List.nodup_append.{0}
theorem Gg:type_of% @List.nodup_range:=@List.nodup_range
theorem Gh:type_of% @List.take_take.{0}:=@List.take_take.{0}
theorem Gi:type_of% @Nat.add_assoc:=@Nat.add_assoc
theorem Gj:type_of% @Nat.le_max_left:=@Nat.le_max_left
theorem Gk:type_of% @Nat.le_of_eq:=@Nat.le_of_eq
theorem IA:type_of% @List.any_eq_false.{0}:=@List.any_eq_false.{0}
theorem IB:type_of% @List.cons.inj.{0}:=@List.cons.inj.{0}
theorem IC:type_of% @List.countP_congr.{0}:=@List.countP_congr.{0}
theorem ID:type_of% @List.find?_eq_none.{0}:=@List.find?_eq_none.{0}
theorem IE:type_of% @List.flatten_nil.{0}:=@List.flatten_nil.{0}
theorem IF:type_of% @List.foldl_append.{0,0}:=@List.foldl_append.{0,0}
theorem IG:type_of% @List.map_take.{0,0}:=@List.map_take.{0,0}
theorem IH:type_of% @List.mem_of_find?_eq_some.{0}:=@List.mem_of_find?_eq_some.{0}
theorem II:type_of% @Nat.le_max_right:=@Nat.le_max_right
theorem Lw:type_of% @List.contains_iff_mem.{0}:=@List.contains_iff_mem.{0}
theorem Lx:type_of% @List.countP_eq_zero.{0}:=@List.countP_eq_zero.{0}
theorem Ly:type_of% @List.drop_length.{0}:=@List.drop_length.{0}
theorem Lz:type_of% @List.find?_some.{0}:=@List.find?_some.{0}
theorem LD:type_of% @List.flatMap_cons.{0,0}:=@List.flatMap_cons.{0,0}
theorem LF:type_of% @List.getElem_range:=@List.getElem_range
theorem LG:type_of% @List.getElem_set.{0}:=@List.getElem_set.{0}
theorem LH:type_of% @List.length_pos_of_mem.{0}:=@List.length_pos_of_mem.{0}
theorem LI:type_of% @List.take_append.{0}:=@List.take_append.{0}
theorem OZ:type_of% @List.countP_le_length.{0}:=@List.countP_le_length.{0}
theorem O0:type_of% @List.idxOf_lt_length_iff.{0}:=@List.idxOf_lt_length_iff.{0}
theorem O1:type_of% @List.mem_cons_self.{0}:=@List.mem_cons_self.{0}
theorem O2:type_of% @List.pairwise_append.{0}:=@List.pairwise_append.{0}
theorem O3:type_of% @List.take_append_of_le_length.{0}:=@List.take_append_of_le_length.{0}
theorem O4:type_of% @Nat.le_mul_of_pos_right:=@Nat.le_mul_of_pos_right
theorem SL:type_of% @Bool.or_eq_false_iff:=@Bool.or_eq_false_iff
theorem SM:type_of% @List.eq_of_mem_replicate.{0}:=@List.eq_of_mem_replicate.{0}
theorem SN:type_of% @List.length_erase_of_mem.{0}:=@List.length_erase_of_mem.{0}
theorem SO:type_of% @List.pairwise_iff_getElem.{0}:=@List.pairwise_iff_getElem.{0}
theorem SP:type_of% @Option.bind_eq_some_iff.{0,0}:=@Option.bind_eq_some_iff.{0,0}
inductive PV where
 |bool (b:Bool)
 |int (k:IntKind) (n:Int)
 |str (s:ByteArray)
 |vJ|nils|sA|wT|nili|ifc|zs
 |box (cs:List PV)
 |sl (es:List (List PV))
 |mp (ag:Bool) (es:List (PV×List PV))
 |fn (f:Nat) (first cap:List PV)
 deriving Inhabited
abbrev b_:=List PV
abbrev t_:=List (PV×b_)
abbrev s_:=List b_
inductive C where
 |p (v:PV)
 |aZ (id g off:Nat)
 |dI (id g i off:Nat)
 |hsl (id g sz off len:Nat)
 |kU (id g:Nat)
 |hfn (f:Nat) (first cap:List C)
 deriving Inhabited
abbrev f_:=List C
inductive V where
 |undef
 |one (c:C)
 |agg (cs:f_)
 |tup (vs:List V)
 deriving Inhabited
abbrev e_:=List V
inductive Ob where
 |var (cs:f_)
 |arr (ty sz:Nat) (es:s_)
 |ju (ty sz:Nat) (es:List f_)
 |map (ag:Bool) (es:t_)
 |fvar (cs:b_)
 |qB (ty sz:Nat) (es:s_)
 |fmap (ag:Bool) (es:t_)
 deriving Inhabited
abbrev Env:=Nat->V
abbrev aB:=Nat->Nat×Option Ob
def dU{α:Type}(f:Nat->α)(a:Nat)(x:α):Nat->α:=fun i=>if i=a then x else f i
theorem aO{α:Type}(f:Nat->α)(a b:Nat)(x:α):dU f a x b=if b=a then x else f b:=rfl
inductive aS where
 |t (n:Nat)
 |i (n:Int)
 |b (x:Bool)
 |k (v:V)
abbrev o_:=List aS
inductive vV where
 |bool|ptr|slc|map|fnc|ifc
 |str (ks:m_)
inductive oQ where
 |zn (x:aS)
 |pick (c a b:aS)
 |alloc (site:Nat) (z:b_)
 |box (site:Nat) (x:aS)
 |build (z:b_) (parts:List (Nat×Nat×aS))
 |Ey (site ty sz:Nat) (parts:o_)
 |load (k:w_) (x:aS)
 |store (n:Nat) (a x:aS)
 |KN (x:aS)
 |bin (op:BinOp) (x y:aS)
 |eqc (k:vV) (neg:Bool) (x y:aS)
 |un (op:UnOp) (x:aS)
 |conv (k:IntKind) (x:aS)
 |bstr (x:aS)
 |mkfn (f:Nat) (first cap:o_)
 |mkmap (site:Nat) (ag:Bool)
 |KG (site ty sz bytes:Nat) (z:b_) (len cap:aS)
 |slice (sz:Nat) (x:aS) (lo hi:Option aS)
 |sslice (x:aS) (lo hi:Option aS)
 |GS (off:Nat) (x:aS)
 |HL (sz:Nat) (x i:aS)
 |IT (len sz:Nat) (x i:aS)
 |fld (off:Nat) (k:w_) (x:aS)
 |aidx (len sz:Nat) (k:w_) (x i:aS)
 |sidx (x i:aS)
 |lookup (kd:Nat) (z:b_) (agg ok:Bool) (x k:aS)
 |mupd (kd:Nat) (ag:Bool) (m k v:aS)
 |bad
 |extract (x:aS) (i:Nat)
 |call (site:Nat) (f:aS) (args:o_)
 |slen (x:aS)
 |KD (x:aS)
 |mlen (x:aS)
 |append (site ty sz bytes:Nat) (s x:aS)
 |max (x y:aS)
 |min (x y:aS)
 |clear (z:b_) (x:aS)
structure bJ where
 dst:w_
 op:oQ
 guard:Option (Nat×Bool)
 anc:Nat
abbrev h_:=List bJ
inductive aN where
 |skip
 |region (draw:Bool) (ops:h_)
 |seq (a b:aN)
 |cond (x:aS) (a b:aN)
 |block (id:Nat) (c:aN)
 |loop (c:aN)
 |exit (id:Nat)
 |ret
 |bad
structure bd where
 ntmps:Nat
 results:List (Nat×Option w_)
 body:aN
def ev (ak:Env):aS->V
 | .t n=>ak n
 | .i n=>.one (.p (.int .i64 n))
 | .b x=>.one (.p (.bool x))
 | .k v=>v
abbrev eY:=Nat×(Nat×Option Ob)
abbrev k_:=List eY
def app:k_->aB->aB
 |[],b=>b
 |(i,o)::r,b=>app r (dU b i o)
def PV.norm:PV->PV
 | .nils=>.sl []
 | .zs=>.sl []
 |v=>v
def toP:C->Option PV
 | .p v=>some v.norm
 |_=>none
def Cp:f_->Option b_
 |[]=>some []
 |c::r=>match toP c,Cp r with
  |some v,some vs=>some (v::vs)
  |_,_=>none
def sI:V->Option f_
 | .one c=>some [c]
 | .agg cs=>some cs
 |_=>none
def collect{α β:Type}(f:α->Option (β×a_)):List α->Option (List β×a_)
 |[]=>some ([],[])
 |a::r=>match f a,collect f r with
  |some (b,x),some (bs,y)=>some (b::bs,x++y)
  |_,_=>none
def snap(aj:aB):Nat->C->Option (PV×a_)
 |0,_=>none
 |n+1,c=>match c with
  | .p v=>some (v.norm,[])
  | .aZ id g off=>match aj id with
   |(g',some (.var cs))=>if g'=g then
     match collect (snap aj n) cs with
     |some (ps,r)=>some (.box (ps.drop off),id::r)
     |none=>none
    else none
   |(g',some (.fvar ps))=>if g'=g then some (.box (ps.drop off),[id]) else none
   |_=>none
  | .dI id g i off=>match aj id with
   |(g',some (.arr _ _ es))=>if g'=g then (es[i]?).map fun e=>(.box (e.drop off),[id]) else none
   |(g',some (.qB _ _ es))=>if g'=g then (es[i]?).map fun e=>(.box (e.drop off),[id]) else none
   |_=>none
  | .hsl id g z off len=>match aj id with
   |(g',some (.arr _ _ es))=>if g'=g/\off+len<=es.length then some (.sl ((es.drop off).take len),[id]) else none
   |(g',some (.qB _ _ es))=>if g'=g/\off+len<=es.length then some (.sl ((es.drop off).take len),[id]) else none
   |(g',some (.ju _ _ es))=>if g'=g/\off+len<=es.length then
     match collect (collect (snap aj n)) ((es.drop off).take len) with
     |some (ps,r)=>some (.sl ps,id::r)
     |none=>none
    else none
   |_=>none
  | .kU id g=>match aj id with
   |(g',some (.map ag es))=>if g'=g then some (.mp ag es,[id]) else none
   |(g',some (.fmap ag es))=>if g'=g then some (.mp ag es,[id]) else none
   |_=>none
  | .hfn f a b=>match collect (snap aj n) a,collect (snap aj n) b with
   |some (x,r),some (y,s)=>some (.fn f x y,r++s)
   |_,_=>none
def fE:Nat:=6
def pN(aj:aB):V->Option (V×a_)
 | .one c=>(snap aj fE c).map fun(v,r)=>(.one (.p v),r)
 | .agg cs=>(collect (snap aj fE) cs).map fun(vs,r)=>(.agg (vs.map .p),r)
 |_=>none
def yC(aj:aB)(all:a_)(id:Nat):Option k_:=
 match aj id with
 |(g,some (.var cs))=>match collect (snap aj fE) cs with
  |some (ps,r)=>if r.all all.contains then some [(id,(g,some (.fvar ps)))] else none
  |none=>none
 |(g,some (.arr ty sz es))=>some [(id,(g,some (.qB ty sz es)))]
 |(g,some (.ju ty sz es))=>match collect (collect (snap aj fE)) es with
  |some (ps,r)=>if r.all all.contains then some [(id,(g,some (.qB ty sz ps)))] else none
  |none=>none
 |(g,some (.map ag es))=>some [(id,(g,some (.fmap ag es)))]
 |(_,none)=>none
 |_=>some []
def vp(aj:aB)(all:a_):a_->Option k_
 |[]=>some []
 |i::r=>match yC aj all i,vp aj all r with
  |some a,some b=>some (a++b)
  |_,_=>none
def tJ(aj:aB)(ids:a_):Option k_:=vp aj ids ids
inductive RC where
 |p (v:PV)
 |own (ty sz:Nat) (es:s_)
 deriving Inhabited
abbrev n_:=List RC
inductive RV where
 |one (c:RC)
 |agg (cs:n_)
 |tup (vs:List RV)
 deriving Inhabited
def RC.pure:RC->RC
 | .p v=>.p v
 | .own _ _ es=>.p (.sl es)
def RV.Ii:RV->RV
 | .one c=>.one c.pure
 | .agg cs=>.agg (cs.map RC.pure)
 | .tup vs=>.tup vs
def RV.pure:RV->RV
 | .tup vs=>.tup (vs.map RV.Ii)
 |v=>v.Ii
def RV.gJ(b:Bool)(r:RV):RV:=match b with
 |true=>r.pure
 |false=>r
def PV.scalar:PV->Bool
 | .bool _| .int _ _| .str _| .vJ| .nils| .sA| .wT| .nili| .ifc| .zs=>true
 |_=>false
def RC.alone:RC->Bool
 | .p v=>v.scalar
 | .own _ _ es=>es.all fun e=>e.all PV.scalar
def jM(aj:aB)(c:C):Option (RC×a_×a_):=
 match c with
 | .p v=>some (.p v,[],[])
 | .hsl id g z 0 len=>match aj id with
  |(g',some (.arr ty sz es))=>if g'=g/\len<=es.length then some (.own ty sz (es.take len),[id],[]) else none
  |_=>(snap aj fE c).map fun(v,r)=>(.p v,[],r)
 |_=>(snap aj fE c).map fun(v,r)=>(.p v,[],r)
def nG(aj:aB):f_->Option (n_×a_×a_)
 |[]=>some ([],[],[])
 |c::r=>match jM aj c,nG aj r with
  |some (x,o,q),some (xs,os,qs)=>some (x::xs,o++os,q++qs)
  |_,_=>none
def oX:V->Option f_
 | .one c=>some [c]
 | .agg cs=>some cs
 |_=>none
def vn:e_->Option f_
 |[]=>some []
 |v::r=>match oX v,vn r with
  |some a,some b=>some (a++b)
  |_,_=>none
def tH:V->Option f_
 | .tup vs=>vn vs
 |v=>oX v
def tq:V->n_->RV×n_
 | .one _,r::rs=>(.one r,rs)
 | .agg cs,rs=>(.agg (rs.take cs.length),rs.drop cs.length)
 |_,rs=>(.agg [],rs)
def AZ:e_->n_->List RV
 |[],_=>[]
 |v::r,rs=>(tq v rs).1::AZ r (tq v rs).2
def vN:V->n_->RV
 | .tup vs,rs=>.tup (AZ vs rs)
 |v,rs=>(tq v rs).1
def apart:a_->a_->Bool
 |[],_=>true
 |i::r,q=> !r.contains i&& !q.contains i&&apart r q
def jd(aj:aB)(v:V):Option RV:=
 match tH v with
 |some cs=>match nG aj cs with
  |some (x,o,q)=>if apart o q then some (vN v x) else none
  |none=>none
 |none=>none
def dq(aj:aB)(site:Nat):RC->C×k_
 | .p v=>(.p v,[])
 | .own ty sz es=>(.hsl site ((aj site).1+1) sz 0 es.length,[(site,((aj site).1+1,some (.arr ty sz es)))])
def jr(aj:aB)(site:Nat):n_->f_×k_
 |[]=>([],[])
 |c::r=>((dq aj site c).1::(jr aj (site+1) r).1,(dq aj site c).2++(jr aj (site+1) r).2)
def ir:RV->n_
 | .one c=>[c]
 | .agg cs=>cs
 | .tup _=>[]
def ml:List RV->n_
 |[]=>[]
 |v::r=>ir v++ml r
def gQ:RV->n_
 | .tup vs=>ml vs
 |v=>ir v
def mA:RV->f_->V×f_
 | .one _,c::cs=>(.one c,cs)
 | .agg rs,cs=>(.agg (cs.take rs.length),cs.drop rs.length)
 |_,cs=>(.undef,cs)
def rI:List RV->f_->e_
 |[],_=>[]
 |v::r,cs=>(mA v cs).1::rI r (mA v cs).2
def qQ:RV->f_->V
 | .tup vs,cs=>.tup (rI vs cs)
 |v,cs=>(mA v cs).1
def RV.alone(r:RV):Bool:=(gQ r).all RC.alone
def jJ(aj:aB)(site:Nat)(r:RV):V×k_:=(qQ r (jr aj site (gQ r)).1,(jr aj site (gQ r)).2)
inductive fH where
 |fail
 |done (v:V) (u:k_) (rd:a_)
 |pc (f:Nat) (args:e_) (rd:a_) (site:Nat)
 |sc (f:Nat) (args:e_)
def Cj(aj:aB):V->Option (f_×a_)
 | .one (.p (.box cs))=>some (cs.map .p,[])
 | .one (.aZ id g off)=>match aj id with
  |(g',some (.var cs))=>if g'=g then some (cs.drop off,[id]) else none
  |(g',some (.fvar cs))=>if g'=g then some ((cs.drop off).map .p,[id]) else none
  |_=>none
 | .one (.dI id g i off)=>match aj id with
  |(g',some (.arr _ _ es))=>if g'=g then (es[i]?).map fun e=>((e.drop off).map .p,[id]) else none
  |(g',some (.qB _ _ es))=>if g'=g then (es[i]?).map fun e=>((e.drop off).map .p,[id]) else none
  |(g',some (.ju _ _ es))=>if g'=g then (es[i]?).map fun e=>(e.drop off,[id]) else none
  |_=>none
 |_=>none
def qS(k:w_)(cs:f_):Option V:=
 match k with
 |none=>match cs with
  |c::_=>some (.one c)
  |[]=>none
 |some n=>if n<=cs.length then some (.agg (cs.take n)) else none
def eZ{α:Type}(cs:List α)(off:Nat)(xs:List α):List α:=cs.take off++xs++cs.drop (off+xs.length)
def A8(aj:aB)(a:V)(n:Nat)(xs:f_):fH:=
 if xs.length≠n then .fail else
 match a with
 | .one (.aZ id g off)=>match aj id with
  |(g',some (.var cs))=>if g'=g/\off+n<=cs.length then .done .undef [(id,(g,some (.var (eZ cs off xs))))] [id] else .fail
  |_=>.fail
 | .one (.dI id g i off)=>match aj id with
  |(g',some (.arr ty sz es))=>match es[i]?,Cp xs with
   |some e,some ps=>if g'=g/\off+n<=e.length then .done .undef [(id,(g,some (.arr ty sz (es.set i (eZ e off ps)))))] [id] else .fail
   |_,_=>.fail
  |_=>.fail
 |_=>.fail
def fU(aj:aB):V->Option (s_×a_×a_)
 | .one (.p .nils)=>some ([],[],[])
 | .one (.p (.sl es))=>some (es,[],[])
 | .one (.hsl id g z off len)=>match aj id with
  |(g',some (.arr _ _ es))=>if g'=g/\off+len<=es.length then some ((es.drop off).take len,[id],[]) else none
  |(g',some (.qB _ _ es))=>if g'=g/\off+len<=es.length then some ((es.drop off).take len,[id],[]) else none
  |(g',some (.ju _ _ es))=>if g'=g/\off+len<=es.length then
    match collect (collect (snap aj fE)) ((es.drop off).take len) with
    |some (ps,r)=>some (ps,[id],r)
    |none=>none
   else none
  |_=>if len=0 then some ([],[id],[]) else none
 |_=>none
def iI(sz:Nat)(es:s_):Bool:=es.all fun e=>e.length==sz
def nL:V->w_
 | .one (.hsl _ _ z _ _)=>some z
 |_=>none
def room:Nat:=140737488355328
def gI(aj:aB)(site ty sz bytes:Nat)(s x:V):fH:=
 match fU aj x with
 |none=>.fail
 |some (new,rd,fr)=>
  if ¬(nL x=some sz\/iI sz new=true) then .fail else
  match tJ aj fr with
  |none=>.fail
  |some fu=>
   match s with
   | .one (.p .nils)=>
    if new.length=0 then .done (.one (.p .nils)) fu (rd++fr) else
    if new.length*bytes<=room then
     .done (.one (.hsl site ((aj site).1+1) sz 0 new.length)) (fu++[(site,((aj site).1+1,some (.arr ty sz new)))]) (site::rd++fr)
    else .fail
   | .one (.p .zs)=>
    if new.length=0 then .fail else
    if new.length*bytes<=room then
     .done (.one (.hsl site ((aj site).1+1) sz 0 new.length)) (fu++[(site,((aj site).1+1,some (.arr ty sz new)))]) (site::rd++fr)
    else .fail
   | .one (.hsl id g z 0 len)=>match aj id with
    |(g',some (.arr kL cA es))=>
     if g'=g/\kL=ty/\cA=sz/\len<=es.length/\(len+new.length)*bytes<=room/\fr.contains id=false then
      .done (.one (.hsl site ((aj site).1+1) sz 0 (len+new.length)))
       (fu++[(id,(g,none)),(site,((aj site).1+1,some (.arr ty sz (es.take len++new))))]) (site::id::rd++fr)
     else .fail
    |_=>.fail
   | .one (.hsl id g z off len)=>match aj id with
    |(g',some (.arr kL cA es))=>
     if g'=g/\kL=ty/\cA=sz/\off+len<=es.length/\(len+new.length)*bytes<=room/\fr.contains id=false/\0<len/\0<new.length then
      .done (.one (.p (.sl ((es.drop off).take len++new)))) (fu++[(id,(g,none))]) (id::rd++fr)
     else .fail
    |_=>.fail
   |_=>.fail
def qx:V->w_
 | .one (.p (.int _ n))=>if 0<=n then some n.toNat else none
 |_=>none
def sH(ak:Env)(d:Nat):Option aS->w_
 |none=>some d
 |some a=>qx (ev ak a)
def DU(x:V)(sz lo hi:Nat):fH:=
 if ¬lo<=hi then .fail else
 match x with
 | .one (.p .nils)=>if hi=0 then .done (.one (.p .nils)) [] [] else .fail
 | .one (.p (.sl es))=>if hi<=es.length/\iI sz es=true then .done (.one (.p (.sl ((es.drop lo).take (hi-lo))))) [] [] else .fail
 | .one (.hsl id g z off len)=>if hi<=len/\z=sz then .done (.one (.hsl id g z (off+lo) (hi-lo))) [] [] else .fail
 |_=>.fail
def zi:V->w_
 | .one (.p .nils)=>some 0
 | .one (.p (.sl es))=>some es.length
 | .one (.hsl _ _ _ _ len)=>some len
 |_=>none
def AR(aj:aB):V->Option (Nat×a_)
 | .one (.p .sA)=>some (0,[])
 | .one (.p (.mp _ es))=>some (es.length,[])
 | .one (.kU id g)=>match aj id with
  |(g',some (.map _ es))=>if g'=g then some (es.length,[id]) else none
  |(g',some (.fmap _ es))=>if g'=g then some (es.length,[id]) else none
  |_=>none
 |_=>none
def mapOf(aj:aB)(ag:Bool):V->Option (t_×a_)
 | .one (.p .sA)=>some ([],[])
 | .one (.p (.mp sG es))=>if sG=ag then some (es,[]) else none
 | .one (.kU id g)=>match aj id with
  |(g',some (.map sG es))=>if g'=g/\sG=ag then some (es,[id]) else none
  |(g',some (.fmap sG es))=>if g'=g/\sG=ag then some (es,[id]) else none
  |_=>none
 |_=>none
def sameKey:PV->PV->Option Bool
 | .int k a,.int k' b=>if k=k' then some (a==b) else none
 | .str a,.str b=>some (a==b)
 | .bool a,.bool b=>some (a==b)
 |_,_=>none
def iZ:PV->Nat
 | .int _ _=>0
 | .str _=>1
 | .bool _=>2
 |_=>3
def mapVal:Bool->b_->Option V
 |true,cs=>some (.agg (cs.map .p))
 |false,[c]=>some (.one (.p c))
 |false,_=>none
def qC(k:PV):t_->Nat->Option (Option (Nat×b_))
 |[],_=>some none
 |(a,v)::r,i=>match sameKey k a with
  |some true=>some (some (i,v))
  |some false=>qC k r (i+1)
  |none=>none
def yy:Bool->V->Option f_
 |false,.one c=>some [c]
 |true,.agg cs=>some cs
 |_,_=>none
def uj(op:BinOp)(k:IntKind)(a b:Int):Option PV:=
 match op with
 | .add=>some (.int k (k.wrap (a+b)))
 | .sub=>some (.int k (k.wrap (a-b)))
 | .mul=>some (.int k (k.wrap (a*b)))
 | .quo=>if b=0 then none else some (.int k (k.wrap (a.tdiv b)))
 | .rem=>if b=0 then none else some (.int k (a.tmod b))
 | .eql=>some (.bool (a==b))
 | .neq=>some (.bool (a !=b))
 | .lss=>some (.bool (decide (a<b)))
 | .leq=>some (.bool (decide (a<=b)))
 | .gtr=>some (.bool (decide (b<a)))
 | .geq=>some (.bool (decide (b<=a)))
 | .and=>some (.int k (k.wrap (BitVec.ofInt k.bits a&&& BitVec.ofInt k.bits b).toNat))
 | .shl=>if b<0 then none else some (.int k (k.wrap (a*2 ^ min b.toNat k.bits)))
 | .shr=>if b<0 then none else some (.int k (a.fdiv (2 ^ min b.toNat k.bits)))
 |_=>none
def Jd(op:BinOp)(a b:ByteArray):Option PV:=
 match op with
 | .add=>if a.size+b.size<=9223372036854775807 then some (.str (a++b)) else none
 | .eql=>some (.bool (a.toList==b.toList))
 | .neq=>some (.bool (!(a.toList==b.toList)))
 |_=>none
def rT(op:BinOp):V->V->Option V
 | .one (.p (.int k a)),.one (.p (.int k' b))=>if k=k'\/op=.shl\/op=.shr then (uj op k a b).map fun v=>.one (.p v) else none
 | .one (.p (.str a)),.one (.p (.str b))=>(Jd op a b).map fun v=>.one (.p v)
 |_,_=>none
def vl:Bool->PV->PV->Option Bool
 |true,.int k a,.int k' b=>if k=k' then some (a==b) else none
 |false,.bool a,.bool b=>some (a==b)
 |_,_,_=>none
def wy:m_->f_->f_->Option Bool
 |[],[],[]=>some true
 |k::ks,.p a::r,.p b::s=>match vl k a b with
  |some true=>wy ks r s
  |some false=>some false
  |none=>none
 |_,_,_=>none
def HO:vV->V->Option Bool
 | .ptr,.one (.p .vJ)=>some true
 | .ptr,.one (.p (.box _))=>some false
 | .ptr,.one (.aZ _ _ _)=>some false
 | .ptr,.one (.dI _ _ _ _)=>some false
 | .slc,.one (.p .nils)=>some true
 | .slc,.one (.p (.sl (_::_)))=>some false
 | .slc,.one (.hsl _ _ _ _ _)=>some false
 | .map,.one (.p .sA)=>some true
 | .map,.one (.p (.mp _ _))=>some false
 | .map,.one (.kU _ _)=>some false
 | .fnc,.one (.p .wT)=>some true
 | .fnc,.one (.p (.fn _ _ _))=>some false
 | .fnc,.one (.hfn _ _ _)=>some false
 | .ifc,.one (.p .nili)=>some true
 | .ifc,.one (.p .ifc)=>some false
 |_,_=>none
def Db:vV->V->V->Option Bool
 | .bool,.one (.p (.bool a)),.one (.p (.bool b))=>some (a==b)
 | .str ks,.agg a,.agg b=>wy ks a b
 | .bool,_,_=>none
 | .str _,_,_=>none
 |k,a,b=>if HO k b=some true then HO k a else if HO k a=some true then HO k b else none
def fill(cs:f_):List (Nat×f_)->f_
 |[]=>cs
 |(off,xs)::r=>fill (eZ cs off xs) r
def zo(ak:Env):List (Nat×Nat×aS)->Option (List (Nat×f_))
 |[]=>some []
 |(off,n,a)::r=>match sI (ev ak a),zo ak r with
  |some cs,some q=>if cs.length=n then some ((off,cs)::q) else none
  |_,_=>none
def Ab(ak:Env)(sz:Nat):o_->Option (List f_)
 |[]=>some []
 |a::r=>match sI (ev ak a),Ab ak sz r with
  |some cs,some q=>if cs.length=sz then some (cs::q) else none
  |_,_=>none
def Cr:List f_->Option s_
 |[]=>some []
 |c::r=>match Cp c,Cr r with
  |some v,some vs=>some (v::vs)
  |_,_=>none
def ET(ak:Env)(a:aS):Option (Nat×f_×f_):=
 match ev ak a with
 | .one (.p (.fn f x y))=>some (f,x.map .p,y.map .p)
 | .one (.hfn f x y)=>some (f,x,y)
 |_=>none
def Cn(aj:aB):e_->Option (e_×a_):=collect (pN aj)
def bytesOf:s_->Option p_
 |[]=>some []
 |[.int .u8 n]::r=>(bytesOf r).map (UInt8.ofNat n.toNat:: ·)
 |_::_=>none
def wV(ak:Env):o_->Option f_
 |[]=>some []
 |a::r=>match ev ak a,wV ak r with
  | .one c,some q=>some (c::q)
  |_,_=>none
def bK(shared:Nat->Bool)(ak:Env)(aj:aB):oQ->fH
 | .zn x=>.done (ev ak x) [] []
 | .pick c a b=>match ev ak c with
  | .one (.p (.bool t))=>.done (if t then ev ak a else ev ak b) [] []
  |_=>.fail
 | .alloc s z=>.done (.one (.aZ s ((aj s).1+1) 0)) [(s,((aj s).1+1,some (.var (z.map .p))))] [s]
 | .box s x=>match sI (ev ak x) with
  |some cs=>.done (.one (.aZ s ((aj s).1+1) 0)) [(s,((aj s).1+1,some (.var cs)))] [s]
  |none=>.fail
 | .build z ps=>match zo ak ps with
  |some q=>.done (.agg (fill (z.map .p) q)) [] []
  |none=>.fail
 | .Ey s ty sz ps=>match Ab ak sz ps with
  |some es=>match Cr es with
   |some qs=>.done (.one (.hsl s ((aj s).1+1) sz 0 es.length)) [(s,((aj s).1+1,some (.arr ty sz qs)))] [s]
   |none=>.done (.one (.hsl s ((aj s).1+1) sz 0 es.length)) [(s,((aj s).1+1,some (.ju ty sz es)))] [s]
  |none=>.fail
 | .load k x=>match Cj aj (ev ak x) with
  |some (cs,r)=>match qS k cs with
   |some v=>.done v [] r
   |none=>.fail
  |none=>.fail
 | .store n a x=>match sI (ev ak x) with
  |some xs=>A8 aj (ev ak a) n xs
  |none=>.fail
 | .KN x=>match ev ak x with
  | .one (.aZ id g o)=>.done (.one (.aZ id g o)) [] []
  | .one (.dI id g i o)=>.done (.one (.dI id g i o)) [] []
  | .one (.p (.box cs))=>.done (.one (.p (.box cs))) [] []
  | .one (.hfn f a b)=>.done (.one (.hfn f a b)) [] []
  | .one (.p (.fn f a b))=>.done (.one (.p (.fn f a b))) [] []
  |_=>.fail
 | .bin op x y=>match rT op (ev ak x) (ev ak y) with
  |some v=>.done v [] []
  |none=>.fail
 | .eqc k neg x y=>match Db k (ev ak x) (ev ak y) with
  |some b=>.done (.one (.p (.bool (if neg then !b else b)))) [] []
  |none=>.fail
 | .un op x=>match op,ev ak x with
  | .not,.one (.p (.bool b))=>.done (.one (.p (.bool (!b)))) [] []
  | .neg,.one (.p (.int k n))=>.done (.one (.p (.int k (k.wrap (0-n))))) [] []
  |_,_=>.fail
 | .conv k x=>match ev ak x with
  | .one (.p (.int _ n))=>.done (.one (.p (.int k (k.wrap n)))) [] []
  |_=>.fail
 | .bstr x=>match fU aj (ev ak x) with
  |some (es,r,[])=>match bytesOf es with
   |some bs=>.done (.one (.p (.str ⟨bs.toArray⟩))) [] r
   |none=>.fail
  |_=>.fail
 | .mkfn f a b=>match wV ak a,wV ak b with
  |some x,some y=>.done (.one (.hfn f x y)) [] []
  |_,_=>.fail
 | .mkmap s ag=>.done (.one (.kU s ((aj s).1+1))) [(s,((aj s).1+1,some (.map ag [])))] [s]
 | .KG s ty sz bytes z l c=>match qx (ev ak l),qx (ev ak c) with
  |some n,some m=>if n=m/\n*bytes<=room then
    .done (.one (.hsl s ((aj s).1+1) sz 0 n)) [(s,((aj s).1+1,some (.arr ty sz (List.replicate n z))))] [s]
   else .fail
  |_,_=>.fail
 | .slice sz x lo hi=>match zi (ev ak x) with
  |some n=>match sH ak 0 lo,sH ak n hi with
   |some l,some h=>DU (ev ak x) sz l h
   |_,_=>.fail
  |none=>.fail
 | .sslice x lo hi=>match ev ak x with
  | .one (.p (.str s))=>match sH ak 0 lo,sH ak s.size hi with
   |some l,some h=>if l<=h/\h<=s.size then .done (.one (.p (.str (s.extract l h)))) [] [] else .fail
   |_,_=>.fail
  |_=>.fail
 | .GS off x=>match ev ak x with
  | .one (.aZ id g o)=>.done (.one (.aZ id g (o+off))) [] []
  | .one (.dI id g i o)=>.done (.one (.dI id g i (o+off))) [] []
  | .one (.p (.box cs))=>.done (.one (.p (.box (cs.drop off)))) [] []
  |_=>.fail
 | .HL sz x i=>match qx (ev ak i),ev ak x with
  |some n,.one (.p (.sl es))=>match es[n]? with
   |some e=>if e.length=sz then .done (.one (.p (.box e))) [] [] else .fail
   |none=>.fail
  |some n,.one (.hsl id g z off len)=>if n<len/\z=sz then .done (.one (.dI id g (off+n) 0)) [] [] else .fail
  |_,_=>.fail
 | .IT len sz x i=>match qx (ev ak i),ev ak x with
  |some n,.one (.aZ id g o)=>if n<len then .done (.one (.aZ id g (o+n*sz))) [] [] else .fail
  |some n,.one (.dI id g j o)=>if n<len then .done (.one (.dI id g j (o+n*sz))) [] [] else .fail
  |some n,.one (.p (.box cs))=>if n<len then .done (.one (.p (.box (cs.drop (n*sz))))) [] [] else .fail
  |_,_=>.fail
 | .fld off k x=>match ev ak x with
  | .agg cs=>match qS k (cs.drop off) with
   |some v=>.done v [] []
   |none=>.fail
  |_=>.fail
 | .aidx len sz k x i=>match qx (ev ak i),ev ak x with
  |some n,.agg cs=>if n<len then
    match qS k (cs.drop (n*sz)) with
    |some v=>.done v [] []
    |none=>.fail
   else .fail
  |_,_=>.fail
 | .sidx x i=>match qx (ev ak i),ev ak x with
  |some n,.one (.p (.str s))=>match s[n]? with
   |some b=>.done (.one (.p (.int .u8 b.toNat))) [] []
   |none=>.fail
  |_,_=>.fail
 | .lookup kd z agg ok x k=>match mapOf aj agg (ev ak x),ev ak k with
  |some (es,r),.one (.p q)=>if iZ q≠kd then .fail else match qC q es 0 with
   |some f=>match mapVal agg ((f.map (·.2)).getD z) with
    |some w=>.done (if ok then .tup [w,.one (.p (.bool f.isSome))] else w) [] r
    |none=>.fail
   |none=>.fail
  |_,_=>.fail
 | .bad=>.fail
 | .mupd kd ag m k v=>match ev ak m,ev ak k,yy ag (ev ak v) with
  | .one (.kU id g),.one (.p q),some cs=>match aj id,Cp cs with
   |(g',some (.map sG es)),some ps=>if g'=g/\sG=ag/\iZ q=kd then
     match qC q es 0 with
     |some (some (i,_))=>.done .undef [(id,(g,some (.map ag (es.set i (q,ps)))))] [id]
     |some none=>.done .undef [(id,(g,some (.map ag (es++[(q,ps)]))))] [id]
     |none=>.fail
    else .fail
   |_,_=>.fail
  |_,_,_=>.fail
 | .extract x i=>match ev ak x with
  | .tup vs=>match vs[i]? with
   |some v=>.done v [] []
   |none=>.fail
  |_=>.fail
 | .call s f as=>match ET ak f with
  |some (g,a,b)=>
   if shared g then .sc g (a.map .one++as.map (ev ak)++b.map .one)
   else match Cn aj (a.map .one++as.map (ev ak)++b.map .one) with
    |some (vs,r)=>.pc g vs r s
    |none=>.fail
  |none=>.fail
 | .slen x=>match ev ak x with
  | .one (.p (.str s))=>.done (.one (.p (.int .i64 s.size))) [] []
  |_=>.fail
 | .KD x=>match zi (ev ak x) with
  |some n=>.done (.one (.p (.int .i64 n))) [] []
  |none=>.fail
 | .mlen x=>match AR aj (ev ak x) with
  |some (n,r)=>.done (.one (.p (.int .i64 n))) [] r
  |none=>.fail
 | .append s ty sz bytes d x=>gI aj s ty sz bytes (ev ak d) (ev ak x)
 | .max x y=>match ev ak x,ev ak y with
  | .one (.p (.int k a)),.one (.p (.int _ b))=>.done (.one (.p (.int k (if b>a then b else a)))) [] []
  |_,_=>.fail
 | .min x y=>match ev ak x,ev ak y with
  | .one (.p (.int k a)),.one (.p (.int _ b))=>.done (.one (.p (.int k (if b<a then b else a)))) [] []
  |_,_=>.fail
 | .clear z x=>match ev ak x with
  | .one (.p .nils)=>.done (.tup []) [] []
  | .one (.p (.sl []))=>.done (.tup []) [] []
  | .one (.hsl id g _ off len)=>if len=0 then .done (.tup []) [] [] else match aj id with
   |(g',some (.arr ty sz es))=>if g'=g/\sz=z.length/\off+len<=es.length then .done (.tup []) [(id,(g,some (.arr ty sz (eZ es off (List.replicate len z)))))] [id] else .fail
   |_=>.fail
  |_=>.fail
structure cE where
 rd:a_
 wr:a_
 fs:a_
abbrev i_:=List cE
structure Al where
 any:Bool
 ids:a_
 fs:a_
def Al.all:Al:=⟨true,[],[]⟩
def jO(id:Nat):Nat:=id/64000000
def Al.ok(a:Al)(id:Nat):Bool:=a.any||a.ids.contains id||a.fs.contains (jO id)
def Al.fP(a:Al)(l:a_):Bool:=l.all a.ok
def Al.holds(a b:Al):Bool:=a.any||(a.fP b.ids&&b.fs.all a.fs.contains)
structure Ctx where
 shared:Nat->Bool
 sites:Nat->a_
 lone:Nat->Bool
 al:Al
def kJ(aj:aB):Nat->C->a_
 |0,_=>[]
 |n+1,c=>match c with
  | .p _=>[]
  | .aZ id _ _=>id::match aj id with
   |(_,some (.var cs))=>(cs.map (kJ aj n)).flatten
   |_=>[]
  | .dI id _ _ _=>id::match aj id with
   |(_,some (.ju _ _ es))=>(es.flatten.map (kJ aj n)).flatten
   |_=>[]
  | .hsl id _ _ _ _=>id::match aj id with
   |(_,some (.ju _ _ es))=>(es.flatten.map (kJ aj n)).flatten
   |_=>[]
  | .kU id _=>[id]
  | .hfn _ a b=>(a.map (kJ aj n)).flatten++(b.map (kJ aj n)).flatten
def jN(aj:aB):V->a_
 | .one c=>kJ aj fE c
 | .agg cs=>(cs.map (kJ aj fE)).flatten
 |_=>[]
def allow(sh:Ctx)(f:Nat)(vs:e_)(aj:aB):Al:=⟨false,(vs.map (jN aj)).flatten,sh.sites f⟩
def put(ak:Env)(d:w_)(v:V):Env:=
 match d with
 |some t=>dU ak t v
 |none=>ak
abbrev gC:=Nat->e_->Option RV
abbrev ke:=Nat->e_->Al->aB->Option (V×aB)
def land(aj:aB)(rd:a_)(site:Nat)(r:RV):Option (V×k_):=
 if rd=[]\/r.alone then some (jJ aj site r)
 else match tJ aj rd with
  |some u=>some ((jJ aj site r).1,u++(jJ aj site r).2)
  |none=>none
def wanted(ak:Env):Option (Nat×Bool)->Option Bool
 |none=>some true
 |some (t,want)=>match ak t with
  | .one (.p (.bool b))=>some (b==want)
  | .undef=>some false
  |_=>none
def step1(sh:Ctx)(cp:gC)(cs:ke)(o:bJ)(ak:Env)(aj:aB):Option (Env×aB×cE):=
 match wanted ak o.guard with
 |none=>none
 |some false=>some (put ak o.dst .undef,aj,⟨[],[],[]⟩)
 |some true=>match bK sh.shared ak aj o.op with
  | .fail=>none
  | .done v u r=>if sh.al.fP (r++u.map (·.1)) then some (put ak o.dst v,app u aj,⟨r,u.map (·.1),[]⟩) else none
  | .pc f vs r s=>match cp f vs with
   |some x=>match land aj r s (x.gJ (sh.lone s)) with
    |some (v,u)=>if sh.al.fP (r++u.map (·.1)) then some (put ak o.dst v,app u aj,⟨r++u.map (·.1),u.map (·.1),[]⟩) else none
    |none=>none
   |none=>none
  | .sc f vs=>if sh.al.holds (allow sh f vs aj) then
    match cs f vs (allow sh f vs aj) aj with
    |some (v,ao)=>some (put ak o.dst v,ao,⟨(allow sh f vs aj).ids,(allow sh f vs aj).ids,(allow sh f vs aj).fs⟩)
    |none=>none
   else none
def steps(sh:Ctx)(cp:gC)(cs:ke):h_->Env->aB->Option (Env×aB×i_)
 |[],ak,aj=>some (ak,aj,[])
 |o::r,ak,aj=>match step1 sh cp cs o ak aj with
  |some (aF,ao,e)=>match steps sh cp cs r aF ao with
   |some (Mr,Je,es)=>some (Mr,Je,e::es)
   |none=>none
  |none=>none
def meets(a b:a_):Bool:=a.any fun i=>b.contains i
def HN(fs ids:a_):Bool:=ids.any fun i=>fs.contains (jO i)
def GG(a b:cE):Bool:=meets a.wr b.rd||meets a.wr b.wr||meets a.rd b.wr||meets a.fs b.fs||HN a.fs (b.rd++b.wr)||HN b.fs (a.rd++a.wr)
def Rh(anc:Nat)(e:cE):Nat->i_->Bool
 |_,[]=>true
 |j,x::r=>(anc.testBit j|| !GG x e)&&Rh anc e (j+1) r
def tZ:h_->i_->i_->Bool
 |o::os,past,e::es=>Rh o.anc e 0 past&&tZ os (past++[e]) es
 |_,_,_=>true
inductive mK where
 |normal
 |exit (id:Nat)
 |ret
def iter(f:Env->aB->Option (mK×Env×aB)):Nat->Env->aB->Option (mK×Env×aB)
 |0,_,_=>none
 |n+1,ak,aj=>match f ak aj with
  |some (.normal,aF,ao)=>iter f n aF ao
  |r=>r
def exec(sh:Ctx)(cp:gC)(cs:ke)(n:Nat):aN->Env->aB->Option (mK×Env×aB)
 | .skip,ak,aj=>some (.normal,ak,aj)
 | .region d ops,ak,aj=>match steps sh cp cs ops ak aj with
  |some (aF,ao,es)=>if d then (if tZ ops [] es then some (.normal,aF,ao) else none) else some (.normal,aF,ao)
  |none=>none
 | .seq a b,ak,aj=>match exec sh cp cs n a ak aj with
  |some (.normal,aF,ao)=>exec sh cp cs n b aF ao
  |r=>r
 | .cond x a b,ak,aj=>match ev ak x with
  | .one (.p (.bool t))=>if t then exec sh cp cs n a ak aj else exec sh cp cs n b ak aj
  |_=>none
 | .block id c,ak,aj=>match exec sh cp cs n c ak aj with
  |some (.exit i,aF,ao)=>if i=id then some (.normal,aF,ao) else some (.exit i,aF,ao)
  |r=>r
 | .loop c,ak,aj=>iter (exec sh cp cs n c) n ak aj
 | .exit id,ak,aj=>some (.exit id,ak,aj)
 | .ret,ak,aj=>some (.ret,ak,aj)
 | .bad,_,_=>none
def th(args:e_):Env:=fun i=>args.getD i .undef
def Rf:V->Option V
 | .tup _=>none
 |v=>some v
def qm(al:Al)(ak:Env)(aj:aB):List (Nat×Option w_)->Option e_
 |[]=>some []
 |(t,none)::r=>match Rf (ak t),qm al ak aj r with
  |some v,some q=>some (v::q)
  |_,_=>none
 |(t,some k)::r=>match Cj aj (ak t),qm al ak aj r with
  |some (cs,rd),some q=>if al.fP rd then (qS k cs).map (· ::q) else none
  |_,_=>none
def A6:e_->V
 |[v]=>v
 |vs=>.tup vs
def AT:aB:=fun _=>(0,none)
def sD(sh:Ctx)(cp:gC)(cs:ke)(n:Nat)(fn:bd)(args:e_)(aj:aB):Option (V×aB):=
 match exec sh cp cs n fn.body (th args) aj with
 |some (.normal,ak,ao)=>(qm sh.al ak ao fn.results).map fun vs=>(A6 vs,ao)
 |some (.ret,ak,ao)=>(qm sh.al ak ao fn.results).map fun vs=>(A6 vs,ao)
 |_=>none
def F0(sh:Ctx)(cp:gC)(cs:ke)(n:Nat)(fn:bd)(args:e_):Option RV:=
 match sD sh cp cs n fn args AT with
 |some (v,aj)=>jd aj v
 |none=>none
structure Sys where
 P:Program
 shared:Nat->Bool
 sites:Nat->a_
 lone:Nat->Bool
 fns:Nat->Option bd
 prim:Nat->e_->Option (Option RV)
 trig:Nat->e_->Bool:=fun _ _=>false
 primS:Nat->e_->Al->aB->Option (V×k_):=fun _ _ _ _=>none
def Sys.ctx(S:Sys)(a:Al):Ctx:=⟨S.shared,S.sites,S.lone,a⟩
mutual
def ij(S:Sys):Nat->gC
 |0,_,_=>none
 |n+1,f,args=>match S.prim f args with
  |some r=>r
  |none=>match S.fns f with
   |some fn=>if args.length<=fn.ntmps then F0 (S.ctx .all) (ij S n) (ik S n) n fn args else none
   |none=>none
def ik(S:Sys):Nat->ke
 |0,_,_,_,_=>none
 |n+1,f,args,al,aj=>if S.trig f args=true then (S.primS f args al aj).map (fun r=>(r.1,app r.2 aj)) else match S.fns f with
  |some fn=>if args.length<=fn.ntmps then sD (S.ctx al) (ij S n) (ik S n) n fn args aj else none
  |none=>none
end
def aK(S:Sys)(f:Nat)(args:e_)(r:RV):Prop:= ∃n,ij S n f args=some r
def jm(S:Sys)(f:Nat)(args:e_)(al:Al)(aj:aB)(v:V)(ao:aB):Prop:= ∃n,ik S n f args al aj=some (v,ao)
abbrev dO:=mK->Env->aB->Prop
def W (S:Sys)(al:Al)(c:aN)(Q:dO)(ak:Env)(aj:aB):Prop:=∃n e aF ao,exec (S.ctx al) (ij S n) (ik S n) n c ak aj=some (e,aF,ao)/\Q e aF ao
def WO (S:Sys)(al:Al)(ops:h_)(Q:Env->aB->i_->Prop)(ak:Env)(aj:aB)(tr:i_):Prop:=∃n aF ao es,steps (S.ctx al) (ij S n) (ik S n) ops ak aj=some (aF,ao,es)/\Q aF ao (tr++es)
end Go.Abs
namespace Go.Abs
section
variable{m:Nat}
def PLe(a b:gC):Prop:=∀f x r,a f x=some r->b f x=some r
def SLe(a b:ke):Prop:=∀f x l k r,a f x l k=some r->b f x l k=some r
section
variable {sh:Ctx} {cp mM:gC} {cs EJ:ke} (hp:PLe cp mM) (hs:SLe cs EJ)
include hp hs
theorem ah8{o:bJ}{ak:Env}{aj:aB}{r:Env×aB×cE}(h:step1 sh cp cs o ak aj=some r):step1 sh mM EJ o ak aj=some r:=by
 unfold step1 at h |-;cases hw:wanted ak o.guard with
 |none=>simp[hw] at h
 |some b=>
  cases b with
  |false=>simpa [hw] using h
  |true=>
   simp only[hw] at h |-;cases bY:bK sh.shared ak aj o.op with
   |fail=>simp[bY] at h
   |done v u rd=>simpa [bY] using h
   |pc f vs rd s=>
    simp only[bY] at h |-;cases hc:cp f vs with
    |none=>simp[hc] at h
    |some x=>rw[hp _ _ _ hc];simpa [hc] using h
   |sc f vs=>
    simp only[bY] at h |-;split at h
    .rename_i ha;rw[aD ha];cases hc:cs f vs (allow sh f vs aj) aj with
     |none=>simp[hc] at h
     |some x=>rw[hs _ _ _ _ _ hc];simpa [hc] using h
    cases h
theorem aic:∀ {ops:h_} {ak:Env} {aj:aB} {r:Env×aB×i_},steps sh cp cs ops ak aj=some r->steps sh mM EJ ops ak aj=some r:=by
 intro ops
 induction ops with
 |nil=>intro ak aj r h;simpa [steps] using h
 |cons o os ih=>
  intro ak aj r h;simp only[steps] at h |-;cases h1:step1 sh cp cs o ak aj with
  |none=>simp[h1] at h
  |some x=>
   obtain⟨e1,b1,f1⟩:=x;rw[ah8 hp hs h1];simp only[h1] at h |-;cases h2:steps sh cp cs os e1 b1 with
   |none=>simp[h2] at h
   |some y=>rw[ih h2];simpa [h2] using h
omit hp hs in
theorem aeH{f g:Env->aB->Option (mK×Env×aB)}(hfg:∀e b r,f e b=some r->g e b=some r):
  ∀ {n m:Nat} {ak:Env} {aj:aB} {r:mK×Env×aB},n<=m->iter f n ak aj=some r->iter g m ak aj=some r:=by
 intro n
 induction n with
 |zero=>intro m ak aj r _ h;simp[iter] at h
 |succ n ih=>
  intro m ak aj r hm h;obtain⟨m,rfl⟩:∃k,m=k+1:=⟨m-1,aa⟩;simp only[iter] at h |-;cases hf:f ak aj with
  |none=>simp[hf] at h
  |some x=>
   obtain⟨e,e1,b1⟩:=x;rw[hfg _ _ _ hf];cases e with
   |normal=>simp only[hf] at h |-;exact ih aa h
   |exit i=>simpa [hf] using h
   |ret=>simpa [hf] using h
theorem abM{n:Nat}(ND:n<=m):∀ {c:aN} {ak:Env} {aj:aB} {r:mK×Env×aB},exec sh cp cs n c ak aj=some r->exec sh mM EJ m c ak aj=some r:=by
 intro c
 induction c with
 |skip=>intro ak aj r h;simpa [exec] using h
 |region d ops=>
  intro ak aj r h;simp only[exec] at h |-;cases h1:steps sh cp cs ops ak aj with
  |none=>simp[h1] at h
  |some x=>rw[aic hp hs h1];simpa [h1] using h
 |seq a b iha ihb=>
  intro ak aj r h;simp only[exec] at h |-;cases h1:exec sh cp cs n a ak aj with
  |none=>simp[h1] at h
  |some x=>
   obtain⟨e,e1,b1⟩:=x;rw[iha h1];cases e with
   |normal=>simp only[h1] at h |-;exact ihb h
   |exit i=>simpa [h1] using h
   |ret=>simpa [h1] using h
 |cond x a b iha ihb=>
  intro ak aj r h;simp only[exec] at h |-;split at h
  .split at h
   .rename_i ht;simp only[ht,if_true];exact iha h
   rename_i ht;simp only[ht];exact ihb h
  cases h
 |block id c ih=>
  intro ak aj r h;simp only[exec] at h |-;cases h1:exec sh cp cs n c ak aj with
  |none=>simp[h1] at h
  |some x=>rw[ih h1];simpa [h1] using h
 |loop c ih=>intro ak aj r h;simp only[exec] at h |-;exact aeH (fun _ _ _ h=>ih h) ND h
 |exit id=>intro ak aj r h;simpa [exec] using h
 |ret=>intro ak aj r h;simpa [exec] using h
 |bad=>intro ak aj r h;simp[exec] at h
theorem Se{n:Nat}(ND:n<=m){fn:bd}{args:e_}{aj:aB}{r:V×aB}(h:sD sh cp cs n fn args aj=some r):sD sh mM EJ m fn args aj=some r:=by
 unfold sD at h |-;cases h1:exec sh cp cs n fn.body (th args) aj with
 |none=>simp[h1] at h
 |some x=>rw[abM hp hs ND h1];simpa [h1] using h
theorem aht{n:Nat}(ND:n<=m){fn:bd}{args:e_}{r:RV}(h:F0 sh cp cs n fn args=some r):F0 sh mM EJ m fn args=some r:=by
 unfold F0 at h |-;cases h1:sD sh cp cs n fn args AT with
 |none=>simp[h1] at h
 |some x=>rw[Se hp hs ND h1];simpa [h1] using h
end
theorem aao(S:Sys):∀n,PLe (ij S n) (ij S (n+1))/\SLe (ik S n) (ik S (n+1)):=by
 intro n
 induction n with
 |zero=>exact⟨fun f x r h=>by simp[ij] at h,fun f x l k r h=>by simp[ik] at h⟩
 |succ n ih=>
  refine⟨fun f x r h=>?_,fun f x l k r h=>?_⟩
  .rw[ij] at h |-;cases hp:S.prim f x with
   |some r'=>simpa [hp] using h
   |none=>
    simp only[hp] at h |-;cases hf:S.fns f with
    |none=>simp[hf] at h
    |some fn=>
     simp only[hf] at h |-;split at h
     .rename_i hl;rw[aD hl];exact aht ih.1 ih.2 aa h
     cases h
  rw[ik] at h |-;by_cases ht:S.trig f x=true
  .rw[aD ht] at h |-;exact h
  rw[ay ht] at h |-;cases hf:S.fns f with
  |none=>simp[hf] at h
  |some fn=>
   simp only[hf] at h |-;split at h
   .rename_i hl;rw[aD hl];exact Se ih.1 ih.2 aa h
   cases h
theorem Ez(S:Sys){n:Nat}(h:n<=m):PLe (ij S n) (ij S m):=by
 induction h with
 |refl=>exact fun _ _ _ h=>h
 |step _ ih=>exact fun f x r hr=>(aao S _).1 f x r (ih f x r hr)
theorem L7(S:Sys){n:Nat}(h:n<=m):SLe (ik S n) (ik S m):=by
 induction h with
 |refl=>exact fun _ _ _ _ _ h=>h
 |step _ ih=>exact fun f x l k r hr=>(aao S _).2 f x l k r (ih f x l k r hr)
theorem aK.zZ{S:Sys}{f:Nat}{args:e_}{r r':RV}(h:aK S f args r)(h':aK S f args r'):r=r':=by obtain⟨n,hn⟩:=h;obtain⟨m,hm⟩:=h';have a:=Ez S (Gj n m) _ _ _ hn;have b:=Ez S (II n m) _ _ _ hm;rw[a] at b;exact qt b
theorem Ac(S:Sys){al:Al}{n:Nat}(h:n<=m){c:aN}{ak:Env}{aj:aB}{r:mK×Env×aB}(hr:exec (S.ctx al) (ij S n) (ik S n) n c ak aj=some r):
  exec (S.ctx al) (ij S m) (ik S m) m c ak aj=some r:=abM (Ez S h) (L7 S h) h hr
theorem auX(S:Sys){al:Al}{n:Nat}(h:n<=m){ops:h_}{ak:Env}{aj:aB}{r:Env×aB×i_}(hr:steps (S.ctx al) (ij S n) (ik S n) ops ak aj=some r):
  steps (S.ctx al) (ij S m) (ik S m) ops ak aj=some r:=aic (Ez S h) (L7 S h) hr
variable {S:Sys} {al:Al} {Q:dO} {ak:Env} {aj:aB}
theorem W.mono{c:aN}{Q':dO}(h:W S al c Q ak aj)(hq:∀e ak aj,Q e ak aj->Q' e ak aj):W S al c Q' ak aj:=by obtain⟨n,e,aF,ao,h1,h2⟩:=h;exact⟨n,e,aF,ao,h1,hq _ _ _ h2⟩
theorem ajh(h:Q .normal ak aj):W S al .skip Q ak aj:=⟨0,_,_,_,rfl,h⟩
theorem aja{id:Nat}(h:Q (.exit id) ak aj):W S al (.exit id) Q ak aj:=⟨0,_,_,_,rfl,h⟩
theorem ajd(h:Q .ret ak aj):W S al .ret Q ak aj:=⟨0,_,_,_,rfl,h⟩
def Lj(next:Env->aB->Prop)(Q:dO):dO
 | .normal,ak,aj=>next ak aj
 |e,ak,aj=>Q e ak aj
theorem aje{a b:aN}(h:W S al a (Lj (W S al b Q) Q) ak aj):W S al (.seq a b) Q ak aj:=by
 obtain⟨n,e,aF,ao,h1,h2⟩:=h;cases e with
 |normal=>obtain⟨m,e,dz,bh,h3,h4⟩:=h2;refine⟨max n m,e,dz,bh,?_,h4⟩;simp only[exec];rw[Ac S (Gj n m) h1];exact Ac S (II n m) h3
 |exit i=>exact⟨n,_,_,_,by simp[exec,h1],h2⟩
 |ret=>exact⟨n,_,_,_,by simp[exec,h1],h2⟩
theorem ai7{x:aS}{a b:aN}{t:Bool}(hx:ev ak x=.one (.p (.bool t)))(h:if t=true then W S al a Q ak aj else W S al b Q ak aj):W S al (.cond x a b) Q ak aj:=by
 cases t with
 |true=>obtain⟨n,e,aF,ao,h1,h2⟩:=h;exact⟨n,e,aF,ao,by simp[exec,hx,h1],h2⟩
 |false=>obtain⟨n,e,aF,ao,h1,h2⟩:=(by simpa using h:W S al b Q ak aj);exact⟨n,e,aF,ao,by simp[exec,hx,h1],h2⟩
def nh(id:Nat)(Q:dO):dO
 | .exit i,ak,aj=>if i=id then Q .normal ak aj else Q (.exit i) ak aj
 |e,ak,aj=>Q e ak aj
theorem ai6{id:Nat}{c:aN}(h:W S al c (nh id Q) ak aj):W S al (.block id c) Q ak aj:=by
 obtain⟨n,e,aF,ao,h1,h2⟩:=h;cases e with
 |normal=>exact⟨n,_,_,_,by simp[exec,h1],h2⟩
 |ret=>exact⟨n,_,_,_,by simp[exec,h1],h2⟩
 |exit i=>
  simp only[nh] at h2;by_cases hi:i=id
  .simp only[hi,if_true] at h2;exact⟨n,_,_,_,by simp[exec,h1,hi],h2⟩
  simp only[hi,if_false] at h2;exact⟨n,_,_,_,by simp[exec,h1,hi],h2⟩
theorem QX(S:Sys){c:aN}{n k l:Nat}(h:n<=m)(hk:k<=l){r:mK×Env×aB}(hr:iter (exec (S.ctx al) (ij S n) (ik S n) n c) k ak aj=some r):
  iter (exec (S.ctx al) (ij S m) (ik S m) m c) l ak aj=some r:=aeH (fun _ _ _ h'=>Ac S h h') hk hr
theorem ajb{c:aN}(I:Nat->Env->aB->Prop)(k0 N:Nat)(hk:k0<=N)(h0:I k0 ak aj)
  (round:∀k ak aj,k<=N->I k ak aj->W S al c (Lj (fun aF ao=>k<N/\I (k+1) aF ao) Q) ak aj):W S al (.loop c) Q ak aj:=by
 have key:∀j k ak aj,k+j=N->I k ak aj->∃n l e aF ao,iter (exec (S.ctx al) (ij S n) (ik S n) n c) l ak aj=some (e,aF,ao)/\Q e aF ao:=by
  intro j
  induction j with
  |zero=>
   intro k ak aj Hu hI;obtain⟨n,e,iU,bU,h1,h2⟩:=round k ak aj aa hI;cases e with
   |normal=>obtain⟨aw,_⟩:=h2;omega
   |exit i=>exact⟨n,1,_,_,_,by simp[iter,h1],h2⟩
   |ret=>exact⟨n,1,_,_,_,by simp[iter,h1],h2⟩
  |succ j ih=>
   intro k ak aj Hu hI;obtain⟨n,e,iU,bU,h1,h2⟩:=round k ak aj aa hI;cases e with
   |normal=>obtain⟨_,hI1⟩:=h2;obtain⟨m,l,e,dz,bh,h3,h4⟩:=ih (k+1) iU bU aa hI1;refine⟨max n m,l+1,e,dz,bh,?_,h4⟩;simp only[iter];rw[Ac S (Gj n m) h1];exact QX S (II n m) (bR _) h3
   |exit i=>exact⟨n,1,_,_,_,by simp[iter,h1],h2⟩
   |ret=>exact⟨n,1,_,_,_,by simp[iter,h1],h2⟩
 obtain⟨n,l,e,aF,ao,h1,h2⟩:=key (N-k0) k0 ak aj aa h0;refine⟨max n l,e,aF,ao,?_,h2⟩;simp only[exec];exact QX S (Gj n l) (II n l) h1
theorem ajc{d:Bool}{ops:h_}(h:WO S al ops (fun ak aj es=>(d=true->tZ ops [] es=true)/\Q .normal ak aj) ak aj []):W S al (.region d ops) Q ak aj:=by
 obtain⟨n,aF,ao,es,h1,h2,h3⟩:=h;refine⟨n,.normal,aF,ao,?_,h3⟩;simp only[exec,h1];cases d with
 |false=>simp
 |true=>simpa using h2
theorem ai4{R:Env->aB->i_->Prop}{tr:i_}(h:R ak aj tr):WO S al [] R ak aj tr:=⟨0,ak,aj,[],rfl,by simpa using h⟩
theorem O8{o:bJ}{os:h_}{R:Env->aB->i_->Prop}{tr:i_}{n:Nat}{iU:Env}{bU:aB}{e:cE}
  (h1:step1 (S.ctx al) (ij S n) (ik S n) o ak aj=some (iU,bU,e)) (h:WO S al os R iU bU (tr++[e])):WO S al (o::os) R ak aj tr:=by
 obtain⟨m,aF,ao,es,h2,h3⟩:=h;refine⟨max n m,aF,ao,e::es,?_,by simpa using h3⟩;simp only[steps];rw[ah8 (Ez S (Gj n m)) (L7 S (Gj n m)) h1];simp[auX S (II n m) h2]
def G0(S:Sys)(al:Al)(p:fH)(d:w_)(ak:Env)(aj:aB)(tr:i_)(K:Env->aB->i_->Prop):Prop:=
 match p with
 | .fail=>False
 | .done v u r=>al.fP (r++u.map (·.1))=true/\K (put ak d v) (app u aj) (tr++[⟨r,u.map (·.1),[]⟩])
 | .pc f vs r s=>∃x,aK S f vs x/\match land aj r s (x.gJ (S.lone s)) with
  |some (v,u)=>al.fP (r++u.map (·.1))=true/\K (put ak d v) (app u aj) (tr++[⟨r++u.map (·.1),u.map (·.1),[]⟩])
  |none=>False
 | .sc f vs=>al.holds (allow (S.ctx al) f vs aj)=true/\ ∃v ao,jm S f vs (allow (S.ctx al) f vs aj) aj v ao/\
   K (put ak d v) ao (tr++[⟨(allow (S.ctx al) f vs aj).ids,(allow (S.ctx al) f vs aj).ids,(allow (S.ctx al) f vs aj).fs⟩])
def EY(S:Sys)(al:Al)(w:Option Bool)(o:bJ)(ak:Env)(aj:aB)(tr:i_)(K:Env->aB->i_->Prop):Prop:=
 match w with
 |none=>False
 |some false=>K (put ak o.dst .undef) aj (tr++[⟨[],[],[]⟩])
 |some true=>G0 S al (bK S.shared ak aj o.op) o.dst ak aj tr K
@[simp] theorem Al.Gs (l:a_):Al.all.fP l=true:=by simp[Al.fP,Al.ok,Al.all]
@[simp] theorem Al.av5 (b:Al):Al.all.holds b=true:=rfl
theorem ai5{o:bJ}{os:h_}{R:Env->aB->i_->Prop}{tr:i_}
  (h:EY S al (wanted ak o.guard) o ak aj tr (WO S al os R)):WO S al (o::os) R ak aj tr:=by
 cases hw:wanted ak o.guard with
 |none=>simp[hw,EY] at h
 |some b=>
  cases b with
  |false=>rw[hw] at h;exact O8 (n:=0) (by simp[step1,hw]) h
  |true=>
   rw[hw] at h;simp only[EY] at h;have jI:(S.ctx al).shared=S.shared:=rfl;have gR:(S.ctx al).al=al:=rfl;have eF:(S.ctx al).lone=S.lone:=rfl;cases bY:bK S.shared ak aj o.op with
   |fail=>simp[bY,G0] at h
   |done v u r=>rw[bY] at h;obtain⟨h1,h⟩:=h;exact O8 (n:=0) (by simp only[step1,hw,jI,gR,bY,h1,if_true]) h
   |pc f vs r s=>
    rw[bY] at h;obtain⟨x,⟨n,hx⟩,h⟩:=h;cases hl:land aj r s (x.gJ (S.lone s)) with
    |none=>simp[hl] at h
    |some y=>obtain⟨v,u⟩:=y;simp only[hl] at h;obtain⟨h1,h⟩:=h;exact O8 (n:=n) (by simp only[step1,hw,jI,gR,eF,bY,hx,hl,h1,if_true]) h
   |sc f vs=>rw[bY] at h;obtain⟨h1,v,ao,⟨n,hx⟩,h⟩:=h;exact O8 (n:=n) (by simp only[step1,hw,jI,gR,bY,h1,if_true,hx]) h
end
end Go.Abs
namespace Go.Abs
variable {S:Sys} {al:Al}
def nj(al:Al)(res:List (Nat×Option w_))(R:V->aB->Prop):dO
 | .exit _,_,_=>False
 |_,ak,aj=>match qm al ak aj res with
  |some vs=>R (A6 vs) aj
  |none=>False
theorem SX{fn:bd}{args:e_}{aj:aB}{R:V->aB->Prop}(h:W S al fn.body (nj al fn.results R) (th args) aj):
  ∃n v ao,sD (S.ctx al) (ij S n) (ik S n) n fn args aj=some (v,ao)/\R v ao:=by
 obtain⟨n,e,aF,ao,h1,h2⟩:=h;refine⟨n,?_⟩;unfold sD;rw[h1];cases e with
 |exit i=>exact h2.elim
 |normal=>
  simp only[nj] at h2;split at h2
  .rename_i vs hv;exact⟨_,_,by simp only[show(S.ctx al).al=al from rfl,hv,nQ],h2⟩
  exact h2.elim
 |ret=>
  simp only[nj] at h2;split at h2
  .rename_i vs hv;exact⟨_,_,by simp only[show(S.ctx al).al=al from rfl,hv,nQ],h2⟩
  exact h2.elim
theorem aiX{f:Nat}{fn:bd}{args:e_}{r:RV}(hp:S.prim f args=none)(hf:S.fns f=some fn)(hl:args.length<=fn.ntmps)
  (h:W S .all fn.body (nj .all fn.results fun v aj=>jd aj v=some r) (th args) AT):aK S f args r:=by
 obtain⟨n,v,ao,h1,h2⟩:=SX h;refine⟨n+1,?_⟩;rw[ij];simp only[hp,hf,hl,if_true];unfold F0;rw[h1];exact h2
theorem nT{f:Nat}{fn:bd}{args:e_}{aj:aB}{R:V->aB->Prop}(hf:S.fns f=some fn)(hl:args.length<=fn.ntmps)
  (h:W S al fn.body (nj al fn.results R) (th args) aj) (ht:S.trig f args=false:=by rfl):∃v ao,jm S f args al aj v ao/\R v ao:=by
 obtain⟨n,v,ao,h1,h2⟩:=SX h;refine⟨v,ao,⟨n+1,?_⟩,h2⟩;rw[ik];simp only[ht,dN,if_false,hf,hl,if_true];exact h1
end Go.Abs
namespace Go.Abs
variable {S:Sys} {al:Al} {Q:dO} {ak:Env} {aj:aB}
theorem ZI:W S al .skip Q ak aj↔Q .normal ak aj:=⟨fun⟨_,_,_,_,h,q⟩=>by simp[exec] at h;obtain⟨rfl,rfl,rfl⟩:=h;exact q,ajh⟩
theorem ZE{id:Nat}:W S al (.exit id) Q ak aj↔Q (.exit id) ak aj:=⟨fun⟨_,_,_,_,h,q⟩=>by simp[exec] at h;obtain⟨rfl,rfl,rfl⟩:=h;exact q,aja⟩
theorem ZH:W S al .ret Q ak aj↔Q .ret ak aj:=⟨fun⟨_,_,_,_,h,q⟩=>by simp[exec] at h;obtain⟨rfl,rfl,rfl⟩:=h;exact q,ajd⟩
theorem ajf{a b:aN}:W S al (.seq a b) Q ak aj↔W S al a (Lj (W S al b Q) Q) ak aj:=by
 refine⟨?_,aje⟩;rintro ⟨n,e,aF,ao,h,q⟩
 simp only[exec] at h;cases h1:exec (S.ctx al) (ij S n) (ik S n) n a ak aj with
 |none=>simp[h1] at h
 |some x=>
  obtain⟨e1,iU,bU⟩:=x;refine⟨n,e1,iU,bU,h1,?_⟩;cases e1 with
  |normal=>simp only[h1] at h;exact⟨n,e,aF,ao,h,q⟩
  |exit i=>simp[h1] at h;obtain⟨rfl,rfl,rfl⟩:=h;exact q
  |ret=>simp[h1] at h;obtain⟨rfl,rfl,rfl⟩:=h;exact q
def Jm(v:V)(A B:Prop):Prop:=
 match v with
 | .one (.p (.bool t))=>if t=true then A else B
 |_=>False
theorem ai8{x:aS}{a b:aN}:W S al (.cond x a b) Q ak aj↔Jm (ev ak x) (W S al a Q ak aj) (W S al b Q ak aj):=by
 constructor
 .rintro ⟨n,e,aF,ao,h,q⟩
  simp only[exec] at h;split at h
  .rename_i t ht;rw[ht];simp only[Jm];cases t with
   |true=>exact⟨n,e,aF,ao,by simpa using h,q⟩
   |false=>exact⟨n,e,aF,ao,by simpa using h,q⟩
  cases h
 intro h;unfold Jm at h;split at h
 .rename_i t ht;exact ai7 ht h
 exact h.elim
theorem ZD{id:Nat}{c:aN}:W S al (.block id c) Q ak aj↔W S al c (nh id Q) ak aj:=by
 refine⟨?_,ai6⟩;rintro ⟨n,e,aF,ao,h,q⟩
 simp only[exec] at h;cases h1:exec (S.ctx al) (ij S n) (ik S n) n c ak aj with
 |none=>simp[h1] at h
 |some x=>
  obtain⟨e1,iU,bU⟩:=x;refine⟨n,e1,iU,bU,h1,?_⟩;cases e1 with
  |normal=>simp[h1] at h;obtain⟨rfl,rfl,rfl⟩:=h;exact q
  |ret=>simp[h1] at h;obtain⟨rfl,rfl,rfl⟩:=h;exact q
  |exit i=>
   simp only[h1] at h;simp only[nh];split at h
   .rename_i hi;simp at h;obtain⟨rfl,rfl,rfl⟩:=h;rw[aD hi];exact q
   rename_i hi;simp at h;obtain⟨rfl,rfl,rfl⟩:=h;rw[ay hi];exact q
theorem SV{R:Env->aB->i_->Prop}{tr:i_}:WO S al [] R ak aj tr↔R ak aj tr:=by
 refine⟨?_,ai4⟩;rintro ⟨n,aF,ao,es,h,q⟩
 simp[steps] at h;obtain⟨rfl,rfl,rfl⟩:=h
 simpa using q
theorem O9{o:bJ}{os:h_}{R:Env->aB->i_->Prop}{tr:i_}:
  WO S al (o::os) R ak aj tr↔EY S al (wanted ak o.guard) o ak aj tr (WO S al os R):=by
 refine⟨?_,ai5⟩;rintro ⟨n,aF,ao,es,h,q⟩
 simp only[steps] at h;cases h1:step1 (S.ctx al) (ij S n) (ik S n) o ak aj with
 |none=>simp[h1] at h
 |some x=>
  obtain⟨iU,bU,e⟩:=x;simp only[h1] at h;cases h2:steps (S.ctx al) (ij S n) (ik S n) os iU bU with
  |none=>simp[h2] at h
  |some y=>
   obtain⟨dz,bh,es2⟩:=y;simp[h2] at h;obtain⟨rfl,rfl,rfl⟩:=h;have hk:WO S al os R iU bU (tr++[e]):=⟨n,_,_,es2,h2,by simpa using q⟩;unfold step1 at h1;cases hw:wanted ak o.guard with
   |none=>simp[hw] at h1
   |some b=>
    cases b with
    |false=>simp[hw] at h1;obtain⟨rfl,rfl,rfl⟩:=h1;exact hk
    |true=>
     simp only[hw] at h1;simp only[EY];have jI:(S.ctx al).shared=S.shared:=rfl;have gR:(S.ctx al).al=al:=rfl;have eF:(S.ctx al).lone=S.lone:=rfl;simp only[jI,gR,eF] at h1;cases bY:bK S.shared ak aj o.op with
     |fail=>simp[bY] at h1
     |done v u r=>
      simp only[bY] at h1;split at h1
      .rename_i au;cases h1;exact⟨au,hk⟩
      cases h1
     |pc f vs r s=>
      simp only[bY] at h1;cases hc:ij S n f vs with
      |none=>simp[hc] at h1
      |some x=>
       simp only[hc] at h1;refine⟨x,⟨n,hc⟩,?_⟩;cases hl:land aj r s (x.gJ (S.lone s)) with
       |none=>simp[hl] at h1
       |some y=>
        obtain⟨v,u⟩:=y;simp only[hl] at h1;split at h1
        .rename_i au;cases h1;exact⟨au,hk⟩
        cases h1
     |sc f vs=>
      simp only[bY] at h1;split at h1
      .rename_i au;cases hc:ik S n f vs (allow (S.ctx al) f vs aj) aj with
       |none=>simp[hc] at h1
       |some x=>obtain⟨v,b⟩:=x;simp only[hc] at h1;cases h1;exact⟨au,v,_,⟨n,hc⟩,hk⟩
      cases h1
theorem ZG{d:Bool}{ops:h_}:W S al (.region d ops) Q ak aj↔WO S al ops (fun ak aj es=>(d=true->tZ ops [] es=true)/\Q .normal ak aj) ak aj []:=by
 refine⟨?_,ajc⟩;rintro ⟨n,e,aF,ao,h,q⟩
 simp only[exec] at h;cases h1:steps (S.ctx al) (ij S n) (ik S n) ops ak aj with
 |none=>simp[h1] at h
 |some x=>
  obtain⟨iU,bU,es⟩:=x;simp only[h1] at h;cases d with
  |false=>simp at h;obtain⟨rfl,rfl,rfl⟩:=h;exact⟨n,_,_,es,h1,af,q⟩
  |true=>simp at h;obtain⟨hd,rfl,rfl,rfl⟩:=h;exact⟨n,_,_,es,h1,fun _=>by simpa using hd,q⟩
end Go.Abs
namespace Go.Abs
inductive cF (w:World) (own:Nat->Prop):PV->Value->Prop where
 |bool (b:Bool):cF w own (.bool b) (.bool b)
 |int (k:IntKind) (n:Int):cF w own (.int k n) (.int k n)
 |str (s:ByteArray):cF w own (.str s) (.string s)
 |vJ:cF w own .vJ (.pointer none)
 |nils:cF w own .nils (.slice none 0 0)
 |sA:cF w own .sA (.map none)
 |wT:cF w own .wT .nilFunc
 |nili:cF w own .nili .nilIface
 |ifc (d:TypeId) (x:Value):cF w own .ifc (.iface d x)
 |zs (a:Option Addr):cF w own .zs (.slice a 0 0)
 |box {cs:b_} (b o:Nat) (f:Nat->Value) (ho:cs≠[]-> ¬own b)
   (hc:∀(j:Nat) (x:PV),cs[j]?=some x->w.cell? ⟨b,o+j,none⟩=some (f j))
   (hr:∀(j:Nat) (x:PV),cs[j]?=some x->cF w own x (f j)):cF w own (.box cs) (.pointer (some ⟨b,o,none⟩))
 |zw (a:Option Addr) (cap:Nat) (hn:a=none->cap=0) (hm:cap<=maxLen):cF w own (.sl []) (.slice a 0 cap)
 |sl {es:s_} (b o cap sz:Nat) (f:Nat->Value) (ho:es.flatten≠[]-> ¬own b) (hl:es.length<=cap) (hm:cap<=maxLen) (cH:∀e∈es,e.length=sz)
   (hc:∀(j:Nat) (x:PV),es.flatten[j]?=some x->w.cell? ⟨b,o+j,none⟩=some (f j))
   (hr:∀(j:Nat) (x:PV),es.flatten[j]?=some x->cF w own x (f j)):cF w own (.sl es) (.slice (some ⟨b,o,none⟩) es.length cap)
 |mp {ag:Bool} {es:t_} (r:Nat) (ents:Array MapEntry) (clock:Nat) (g:Nat->Array Value) (ho:¬own r) (hb:w.heap[r]?=some (.map ents clock)) (hl:ents.size=es.length)
   (hk:∀(i:Nat) (q:PV) (v:b_) (e:MapEntry),es[i]?=some (q,v)->ents[i]?=some e->cF w own q e.key)
   (hv:∀(i:Nat) (q:PV) (v:b_) (e:MapEntry),es[i]?=some (q,v)->ents[i]?=some e->(g i).size=v.length/\(ag=true->e.val=.agg (g i))/\(ag=false-> #[e.val]=g i))
   (hr:∀(i:Nat) (q:PV) (v:b_) (j:Nat) (x:PV) (u:Value),es[i]?=some (q,v)->v[j]?=some x->(g i)[j]?=some u->cF w own x u):cF w own (.mp ag es) (.map (some r))
 |fn {f:Nat} {a b:b_} (A B:Array Value) (ha:A.size=a.length) (hb:B.size=b.length)
   (wK:∀(j:Nat) (x:PV) (u:Value),a[j]?=some x->A[j]?=some u->cF w own x u)
   (sa:∀(j:Nat) (x:PV) (u:Value),b[j]?=some x->B[j]?=some u->cF w own x u):cF w own (.fn f a b) (.func (.func f) A B)
theorem cF.Ot{w:World}{own:Nat->Prop}{x:PV}{v:Value}(h:cF w own x v):v.oneCell'=true:=by cases h<;>rfl
theorem cF.cells{w:World}{own:Nat->Prop}{x:PV}{v:Value}(h:cF w own x v):v.cells= #[v]:=by cases h<;>rfl
theorem aar{w:World}{b o:Nat}{v:Value}(h:w.cell? ⟨b,o,none⟩=some v):b<w.heap.size:=World.block_lt_of_cell? w ⟨b,o,none⟩ h
theorem wD{w:World}{b:Nat}{o:Obj}(h:w.heap[b]?=some o):b<w.heap.size:=(Array.getElem?_eq_some_iff.1 h).1
theorem cF.mono{w w':World}{own AX:Nat->Prop}(hk:∀c,c<w.heap.size-> ¬own c->w'.heap[c]?=w.heap[c]? /\ ¬AX c){x:PV}{v:Value}
  (h:cF w own x v):cF w' AX x v:=by
 induction h with
 |bool b=>exact .bool b
 |int k n=>exact .int k n
 |str s=>exact .str s
 |vJ=>exact .vJ
 |nils=>exact .nils
 |sA=>exact .sA
 |wT=>exact .wT
 |nili=>exact .nili
 |ifc d x=>exact .ifc d x
 |zs a=>exact .zs a
 | @box cs b o f ho hc _ ih=>
  cases cs with
  |nil=>exact .box b o f (fun h=>(h rfl).elim) (fun j x h=>by simp at h) (fun j x h=>by simp at h)
  |cons c r=>have hb:=aar (hc 0 c rfl);have hn:=ho af;refine .box b o f (fun _=>(hk b hb hn).2) (fun j x h=>?_) ih;rw[World.cell?_of_block (hk b hb hn).1];exact hc j x h
 |zw a cap hn hm=>exact .zw a cap hn hm
 | @sl es b o cap sz f ho hl hm cH hc _ ih=>
  cases hf:es.flatten with
  |nil=>exact .sl b o cap sz f (fun h=>(h hf).elim) hl hm cH (fun j x h=>by simp[hf] at h) (fun j x h=>by simp[hf] at h)
  |cons c r=>have hb:=aar (hc 0 c (by simp[hf]));have hn:=ho (by simp[hf]);refine .sl b o cap sz f (fun _=>(hk b hb hn).2) hl hm cH (fun j x h=>?_) ih;rw[World.cell?_of_block (hk b hb hn).1];exact hc j x h
 | @mp ag es r ents clock g ho hb hl _ hv _ ihk ihr=>exact .mp r ents clock g (hk r (wD hb) ho).2 ((hk r (wD hb) ho).1.trans hb) hl ihk hv ihr
 |fn A B ha hb _ _ iha ihb=>exact .fn A B ha hb iha ihb
structure Mem where
 w:World
 aj:aB
 σ:Nat->Nat
 κ:Nat->Nat
 fr:Nat->Prop
def Ob.fX:Ob->Bool
 | .var _| .arr _ _ _| .ju _ _ _| .map _ _=>true
 |_=>false
def lY:Nat×Option Ob->w_
 |(_,some (.arr _ sz _))=>some sz
 |(_,some (.ju _ sz _))=>some sz
 |(_,some (.qB _ sz _))=>some sz
 |_=>none
def Mem.fX(m:Mem)(c:Nat):Prop:= ∃id o,(m.aj id).2=some o/\o.fX=true/\m.σ id=c
def Mem.own(m:Mem)(c:Nat):Prop:=m.fr c\/m.fX c
inductive dx (m:Mem):C->Value->Prop where
 |p {x:PV} {v:Value} (h:cF m.w m.own x v):dx m (.p x) v
 |aZ {id g off:Nat} (a:Addr) (hg:g<=(m.aj id).1) (h:(m.aj id).1=g->(m.aj id).2.isSome=true->a=⟨m.σ id,off,none⟩):dx m (.aZ id g off) (.pointer (some a))
 |dI {id g i off:Nat} (a:Addr) (hg:g<=(m.aj id).1) (h:∀sz,(m.aj id).1=g->lY (m.aj id)=some sz->a=⟨m.σ id,i*sz+off,none⟩):dx m (.dI id g i off) (.pointer (some a))
 |hsl {id g z off len:Nat} (a:Addr) (cap:Nat) (hg:g<=(m.aj id).1) (hl:len<=cap) (hm:cap<=maxLen)
   (h:∀sz,(m.aj id).1=g->lY (m.aj id)=some sz->sz=z/\(off=0\/0<len->a=⟨m.σ id,off*sz,none⟩)/\off+cap=m.κ id):
   dx m (.hsl id g z off len) (.slice (some a) len cap)
 |kU {id g:Nat} (r:Nat) (hg:g<=(m.aj id).1) (h:(m.aj id).1=g->(m.aj id).2.isSome=true->r=m.σ id):dx m (.kU id g) (.map (some r))
 |hfn {f:Nat} {a b:f_} (A B:Array Value) (ha:A.size=a.length) (hb:B.size=b.length)
   (wK:∀(j:Nat) (x:C) (u:Value),a[j]?=some x->A[j]?=some u->dx m x u)
   (sa:∀(j:Nat) (x:C) (u:Value),b[j]?=some x->B[j]?=some u->dx m x u):dx m (.hfn f a b) (.func (.func f) A B)
theorem dx.Ot{m:Mem}{x:C}{v:Value}(h:dx m x v):v.oneCell'=true:=by
 cases h with
 |p h=>exact h.Ot
 |_=>rfl
theorem dx.cells{m:Mem}{x:C}{v:Value}(h:dx m x v):v.cells= #[v]:=by
 cases h with
 |p h=>exact h.cells
 |_=>rfl
def dJ(m:Mem)(cs:f_)(vs:List Value):Prop:=vs.length=cs.length/\ ∀(j:Nat) (x:C) (u:Value),cs[j]?=some x->vs[j]?=some u->dx m x u
def dD(w:World)(own:Nat->Prop)(cs:b_)(vs:List Value):Prop:=vs.length=cs.length/\ ∀(j:Nat) (x:PV) (u:Value),cs[j]?=some x->vs[j]?=some u->cF w own x u
def pR(m:Mem):V->Value->Prop
 | .undef,v=>v=undef
 | .one c,v=>dx m c v
 | .agg cs,v=>∃arr,v=.agg arr/\dJ m cs arr.toList
 | .tup _,_=>False
def ch(m:Mem):V->Value->Prop
 | .tup vs,v=>∃arr,v=.tuple arr/\arr.size=vs.length/\ ∀(j:Nat) (x:V) (u:Value),vs[j]?=some x->arr[j]?=some u->pR m x u
 |x,v=>pR m x v
def uf(m:Mem)(id:Nat):Ob->Prop
 | .var cs=>∃cur ty,m.w.heap[m.σ id]?=some (.cells cur ty (0,0))/\dJ m cs cur.toList
 | .fvar cs=>∃cur ty fz,m.w.heap[m.σ id]?=some (.cells cur ty fz)/\dD m.w m.own cs cur.toList/\ ¬m.own (m.σ id)
 | .arr ty sz es=>∃cur,m.w.heap[m.σ id]?=some (.cells cur ty (0,0))/\0<sz/\(∀e∈es,e.length=sz)/\es.length<=m.κ id/\m.κ id<=maxLen/\cur.size=m.κ id*sz/\
   dD m.w m.own es.flatten (cur.toList.take (es.length*sz))
 | .qB ty sz es=>∃cur fz,m.w.heap[m.σ id]?=some (.cells cur ty fz)/\0<sz/\(∀e∈es,e.length=sz)/\es.length<=m.κ id/\m.κ id<=maxLen/\cur.size=m.κ id*sz/\
   dD m.w m.own es.flatten (cur.toList.take (es.length*sz))/\ ¬m.own (m.σ id)
 | .ju ty sz es=>∃cur,m.w.heap[m.σ id]?=some (.cells cur ty (0,0))/\0<sz/\(∀e∈es,e.length=sz)/\es.length<=m.κ id/\m.κ id<=maxLen/\cur.size=m.κ id*sz/\
   dJ m es.flatten (cur.toList.take (es.length*sz))
 | .map ag es=>∃ents clock,m.w.heap[m.σ id]?=some (.map ents clock)/\ents.size=es.length/\
   ∀(i:Nat) (q:PV) (v:b_) (e:MapEntry),es[i]?=some (q,v)->ents[i]?=some e->cF m.w m.own q e.key/\ ∃g:Array Value,(ag=true->e.val=.agg g)/\(ag=false-> #[e.val]=g)/\dD m.w m.own v g.toList
 | .fmap ag es=>∃ents clock,m.w.heap[m.σ id]?=some (.map ents clock)/\ents.size=es.length/\
   (∀(i:Nat) (q:PV) (v:b_) (e:MapEntry),es[i]?=some (q,v)->ents[i]?=some e->cF m.w m.own q e.key/\ ∃g:Array Value,(ag=true->e.val=.agg g)/\(ag=false-> #[e.val]=g)/\dD m.w m.own v g.toList)/\ ¬m.own (m.σ id)
structure Ok (w0:World) (m:Mem):Prop where
 os:m.w.os=w0.os
 tape:m.w.tape=w0.tape
 output:m.w.output=w0.output
 size:w0.heap.size<=m.w.heap.size
 base:∀c,c<w0.heap.size->m.w.heap[c]?=w0.heap[c]?
 obj:∀id o,(m.aj id).2=some o->uf m id o
 ie:∀id o,(m.aj id).2=some o->o.fX=true->w0.heap.size<=m.σ id/\ ¬m.fr (m.σ id)
 frlt:∀c,m.fr c->c<m.w.heap.size
 inj:∀id fh o o',(m.aj id).2=some o->o.fX=true->(m.aj fh).2=some o'->o'.fX=true->m.σ id=m.σ fh->id=fh
structure Ev (m m':Mem):Prop where
 os:m'.w.os=m.w.os
 tape:m'.w.tape=m.w.tape
 output:m'.w.output=m.w.output
 size:m.w.heap.size<=m'.w.heap.size
 keep:∀c,c<m.w.heap.size-> ¬m.fX c->m'.w.heap[c]?=m.w.heap[c]?
 fX:∀c,c<m.w.heap.size->m'.fX c->m.fX c
 less:∀c,c<m.w.heap.size-> ¬m.own c-> ¬m'.own c
 gen:∀id,(m.aj id).1<=(m'.aj id).1
 ref:∀id,(m'.aj id).1=(m.aj id).1->(m'.aj id).2.isSome=true->(m.aj id).2.isSome=true/\m'.σ id=m.σ id/\m'.κ id=m.κ id/\lY (m'.aj id)=lY (m.aj id)
theorem Ev.refl(m:Mem):Ev m m:=⟨rfl,rfl,rfl,bR _,fun _ _ _=>rfl,fun _ _ h=>h,fun _ _ h=>h,fun _=>bR _,fun _ _ h=>⟨h,rfl,rfl,rfl⟩⟩
theorem Ev.trans{a b c:Mem}(h:Ev a b)(k:Ev b c):Ev a c where
 os:=k.os.trans h.os
 tape:=k.tape.trans h.tape
 output:=k.output.trans h.output
 size:=mY h.size k.size
 keep x hx hm:=(k.keep x (Em hx h.size) fun hb=>hm (h.fX x hx hb)).trans (h.keep x hx hm)
 fX x hx hm:=h.fX x hx (k.fX x (Em hx h.size) hm)
 less x hx hn:=k.less x (Em hx h.size) (h.less x hx hn)
 gen id:=mY (h.gen id) (k.gen id)
 ref id he hs:=by have h1:=h.gen id;have h2:=k.gen id;obtain⟨s1,e1,e2,e3⟩:=k.ref id aa hs;obtain⟨s2,f1,f2,f3⟩:=h.ref id aa s1;exact⟨s2,e1.trans f1,e2.trans f2,e3.trans f3⟩
theorem Ev.own{m m':Mem}(h:Ev m m'):∀c,c<m.w.heap.size-> ¬m.own c->m'.w.heap[c]?=m.w.heap[c]? /\ ¬m'.own c:=fun c hc hn=>⟨h.keep c hc fun hm=>hn (.inr hm),h.less c hc hn⟩
theorem aii{x:Nat×Option Ob}{sz:Nat}(h:lY x=some sz):x.2.isSome=true:=by
 obtain⟨g,o⟩:=x;cases o with
 |none=>simp[lY] at h
 |some o=>rfl
structure vd (m m':Mem):Prop where
 own:∀c,c<m.w.heap.size-> ¬m.own c->m'.w.heap[c]?=m.w.heap[c]? /\ ¬m'.own c
 gen:∀id,(m.aj id).1<=(m'.aj id).1
 ref:∀id,(m'.aj id).1=(m.aj id).1->(m'.aj id).2.isSome=true->(m.aj id).2.isSome=true/\m'.σ id=m.σ id/\m'.κ id=m.κ id/\lY (m'.aj id)=lY (m.aj id)
theorem Ev.zero{m m':Mem}(h:Ev m m'):vd m m':=⟨h.own,h.gen,h.ref⟩
theorem cF.ev{m m':Mem}(h:vd m m'){x:PV}{v:Value}(hr:cF m.w m.own x v):cF m'.w m'.own x v:=hr.mono h.own
theorem dx.ev{m m':Mem}(h:vd m m'){x:C}{v:Value}(hr:dx m x v):dx m' x v:=by
 induction hr with
 |p hp=>exact .p (hp.ev h)
 | @aZ id g off a hg ha=>have WK:=h.gen id;refine .aZ a aa fun Ds hs=>?_;obtain⟨s,e1,_,_⟩:=h.ref id aa hs;rw[e1];exact ha aa s
 | @dI id g i off a hg ha=>have WK:=h.gen id;refine .dI a aa fun sz Ds hs=>?_;obtain⟨s,e1,_,e3⟩:=h.ref id aa (aii hs);rw[e1];exact ha sz aa (e3▸hs)
 | @hsl id g z off len a cap hg hl hm ha=>have WK:=h.gen id;refine .hsl a cap aa hl hm fun sz Ds hs=>?_;obtain⟨s,e1,e2,e3⟩:=h.ref id aa (aii hs);rw[e1,e2];exact ha sz aa (e3▸hs)
 | @kU id g r hg hr=>have WK:=h.gen id;refine .kU r aa fun Ds hs=>?_;obtain⟨s,e1,_,_⟩:=h.ref id aa hs;rw[e1];exact hr aa s
 |hfn A B ha hb _ _ iha ihb=>exact .hfn A B ha hb iha ihb
theorem dJ.ev{m m':Mem}(h:vd m m'){cs:f_}{vs:List Value}(hr:dJ m cs vs):dJ m' cs vs:=⟨hr.1,fun j x u a b=>(hr.2 j x u a b).ev h⟩
theorem dD.mono{w w':World}{own AX:Nat->Prop}(hk:∀c,c<w.heap.size-> ¬own c->w'.heap[c]?=w.heap[c]? /\ ¬AX c){cs:b_}{vs:List Value}
  (hr:dD w own cs vs):dD w' AX cs vs:=⟨hr.1,fun j x u a b=>(hr.2 j x u a b).mono hk⟩
theorem dD.ev{m m':Mem}(h:vd m m'){cs:b_}{vs:List Value}(hr:dD m.w m.own cs vs):dD m'.w m'.own cs vs:=hr.mono h.own
theorem pR.ev{m m':Mem}(h:vd m m'){x:V}{v:Value}(hr:pR m x v):pR m' x v:=by
 cases x with
 |undef=>exact hr
 |one c=>exact dx.ev h hr
 |agg cs=>obtain⟨arr,e,hc⟩:=hr;exact⟨arr,e,hc.ev h⟩
 |tup vs=>exact hr.elim
theorem ch.ev{m m':Mem}(h:vd m m'){x:V}{v:Value}(hr:ch m x v):ch m' x v:=by
 cases x with
 |tup vs=>obtain⟨arr,e,hs,hc⟩:=hr;exact⟨arr,e,hs,fun j x u a b=>(hc j x u a b).ev h⟩
 |undef=>exact pR.ev (x:=.undef) h hr
 |one c=>exact pR.ev (x:=.one c) h hr
 |agg cs=>exact pR.ev (x:=.agg cs) h hr
theorem uf.ev{m m':Mem}(h:vd m m'){id:Nat}{o:Ob}(hs:m'.σ id=m.σ id)(hk:m'.κ id=m.κ id)(hh:m'.w.heap[m.σ id]?=m.w.heap[m.σ id]?)
  (hr:uf m id o):uf m' id o:=by
 cases o with
 |var cs=>obtain⟨cur,ty,a,b⟩:=hr;exact⟨cur,ty,by rw[hs,hh];exact a,b.ev h⟩
 |fvar cs=>obtain⟨cur,ty,fz,a,b,c⟩:=hr;exact⟨cur,ty,fz,by rw[hs,hh];exact a,b.ev h,by rw[hs];exact(h.own _ (wD a) c).2⟩
 |arr ty sz es=>obtain⟨cur,a,b,c,d,e,f,g⟩:=hr;exact⟨cur,by rw[hs,hh];exact a,b,c,by rw[hk];exact d,by rw[hk];exact e,by rw[hk];exact f,g.ev h⟩
 |qB ty sz es=>obtain⟨cur,fz,a,b,c,d,e,f,g,i⟩:=hr;exact⟨cur,fz,by rw[hs,hh];exact a,b,c,by rw[hk];exact d,by rw[hk];exact e,by rw[hk];exact f,g.ev h,by rw[hs];exact(h.own _ (wD a) i).2⟩
 |ju ty sz es=>obtain⟨cur,a,b,c,d,e,f,g⟩:=hr;exact⟨cur,by rw[hs,hh];exact a,b,c,by rw[hk];exact d,by rw[hk];exact e,by rw[hk];exact f,g.ev h⟩
 |map ag es=>obtain⟨ents,clock,a,b,c⟩:=hr;exact⟨ents,clock,by rw[hs,hh];exact a,b,fun i q v e x y=>let ⟨p,g,g1,g2,g3⟩:=c i q v e x y;⟨p.ev h,g,g1,g2,g3.ev h⟩⟩
 |fmap ag es=>obtain⟨ents,clock,a,b,c,d⟩:=hr;exact⟨ents,clock,by rw[hs,hh];exact a,b,fun i q v e x y=>let ⟨p,g,g1,g2,g3⟩:=c i q v e x y;⟨p.ev h,g,g1,g2,g3.ev h⟩,by rw[hs];exact(h.own _ (wD a) d).2⟩
theorem uf.lt{m:Mem}{id:Nat}{o:Ob}(hr:uf m id o):m.σ id<m.w.heap.size:=by
 cases o with
 |var cs=>obtain⟨cur,ty,a,_⟩:=hr;exact wD a
 |fvar cs=>obtain⟨cur,ty,fz,a,_⟩:=hr;exact wD a
 |arr ty sz es=>obtain⟨cur,a,_⟩:=hr;exact wD a
 |qB ty sz es=>obtain⟨cur,fz,a,_⟩:=hr;exact wD a
 |ju ty sz es=>obtain⟨cur,a,_⟩:=hr;exact wD a
 |map ag es=>obtain⟨ents,clock,a,_⟩:=hr;exact wD a
 |fmap ag es=>obtain⟨ents,clock,a,_⟩:=hr;exact wD a
theorem uf.calm{m:Mem}{id:Nat}{o:Ob}(hr:uf m id o)(ho:o.fX=false):¬m.own (m.σ id):=by
 cases o with
 |fvar cs=>obtain⟨cur,ty,fz,_,_,c⟩:=hr;exact c
 |qB ty sz es=>obtain⟨cur,fz,_,_,_,_,_,_,_,c⟩:=hr;exact c
 |fmap ag es=>obtain⟨_,_,_,_,_,c⟩:=hr;exact c
 |_=>simp[Ob.fX] at ho
end Go.Abs
namespace Go.Abs
variable {w0:World}
section
variable{m:Mem}
structure fT (w w':World):Prop where
 os:w'.os=w.os
 tape:w'.tape=w.tape
 output:w'.output=w.output
 size:w.heap.size<=w'.heap.size
 keep:∀c,c<w.heap.size->w'.heap[c]?=w.heap[c]?
theorem fT.refl(w:World):fT w w:=⟨rfl,rfl,rfl,bR _,fun _ _=>rfl⟩
theorem fT.trans{a b c:World}(h:fT a b)(k:fT b c):fT a c:=
 ⟨k.os.trans h.os,k.tape.trans h.tape,k.output.trans h.output,mY h.size k.size,fun x hx=>(k.keep x (Em hx h.size)).trans (h.keep x hx)⟩
theorem fT.alloc(w:World)(o:Obj):fT w (w.alloc o):=⟨rfl,rfl,rfl,af,fun _ hc=>heap_alloc_old w o hc⟩
theorem fT.drew(w:World):fT w w.drew:=⟨rfl,rfl,rfl,bR _,fun _ _=>rfl⟩
def Mem.later(m:Mem)(w':World)(X:Nat->Prop):Mem:={m with w:=w',fr:=fun c=>m.fr c\/X c}
theorem afB{w':World}{X:Nat->Prop}{c:Nat}:(m.later w' X).own c↔m.own c\/X c:=by
 unfold Mem.own Mem.fX Mem.later;constructor
 .rintro ((h|h)|h)
  .exact .inl (.inl h)
  .exact .inr h
  exact .inl (.inr h)
 rintro ((h|h)|h)
 .exact .inl (.inl h)
 .exact .inr h
 exact .inl (.inr h)
theorem Kz{w':World}{X:Nat->Prop}(hg:fT m.w w')(hX:∀c,X c->m.w.heap.size<=c):Ev m (m.later w' X) where
 os:=hg.os
 tape:=hg.tape
 output:=hg.output
 size:=hg.size
 keep c hc _:=hg.keep c hc
 fX c _ h:=h
 less c hc hn h:=by
  rcases afB.1 h with h|h
  .exact hn h
  have:=hX c h;omega
 gen _:=bR _
 ref _ _ hs:=⟨hs,rfl,rfl,rfl⟩
theorem Od{w':World}{X:Nat->Prop}(h:Ok w0 m)(hg:fT m.w w')(hX:∀c,X c->m.w.heap.size<=c/\c<w'.heap.size):Ok w0 (m.later w' X) where
 os:=hg.os.trans h.os
 tape:=hg.tape.trans h.tape
 output:=hg.output.trans h.output
 size:=mY h.size hg.size
 base c hc:=(hg.keep c (Em hc h.size)).trans (h.base c hc)
 obj id o ho:=(h.obj id o ho).ev (Kz hg fun c hc=>(hX c hc).1).zero rfl rfl (hg.keep _ (h.obj id o ho).lt)
 ie id o ho hm:=by
  refine⟨(h.ie id o ho hm).1,?_⟩;rintro (hf|hx)
  .exact(h.ie id o ho hm).2 hf
  have h1:=(hX _ hx).1;have h2:=(h.obj id o ho).lt;simp only[Mem.later] at h1;omega
 frlt c hc:=by
  rcases hc with hf|hx
  .exact Em (h.frlt c hf) hg.size
  exact(hX c hx).2
 inj:=h.inj
def Mem.install(m:Mem)(s c k:Nat)(o:Ob):Mem:=⟨m.w,dU m.aj s ((m.aj s).1+1,some o),dU m.σ s c,dU m.κ s k,fun x=>m.fr x/\x≠c⟩
theorem aeB{s c k:Nat}{o:Ob}{x:Nat}(h:(m.install s c k o).fX x):x=c\/m.fX x:=by
 obtain⟨id,o',ho,hm,hx⟩:=h;simp only[Mem.install,aO] at ho hx;by_cases hid:id=s
 .simp only[hid,if_true] at hx;exact .inl hx.symm
 simp only[hid,if_false] at ho hx;exact .inr ⟨id,o',ho,hm,hx⟩
theorem QS{s c k:Nat}{o:Ob}(hc:m.fr c){x:Nat}(h:(m.install s c k o).own x):m.own x:=by
 rcases h with h|h
 .exact .inl h.1
 rcases aeB h with rfl|h
 .exact .inl hc
 exact .inr h
theorem QQ{m1:Mem}{s c k:Nat}{o:Ob}(h:Ev m m1)(hc:m1.fr c)(hn:m.w.heap.size<=c\/m.fX c):Ev m (m1.install s c k o) where
 os:=h.os
 tape:=h.tape
 output:=h.output
 size:=h.size
 keep:=h.keep
 fX x hx hm:=by
  rcases aeB hm with rfl|hm
  .rcases hn with hn|hn
   .omega
   exact hn
  exact h.fX x hx hm
 less x hx dM hm:=h.less x hx dM (QS hc hm)
 gen id:=by
  simp only[Mem.install,aO];have:=h.gen id;split
  .rename_i e;subst e;simp only;omega
  exact this
 ref id he hs:=by
  have hg:=h.gen id;simp only[Mem.install,aO] at he hs |-;by_cases hid:id=s
  .subst hid;simp only[if_true] at he;omega
  simp only[hid,if_false] at he hs |-;exact h.ref id he hs
theorem QR{s c k:Nat}{o:Ob}(h:Ok w0 m)(hc:m.fr c)(eF:w0.heap.size<=c)(ho:uf (m.install s c k o) s o):Ok w0 (m.install s c k o):=by
 have hk:∀x,x<m.w.heap.size-> ¬m.own x->(m.install s c k o).w.heap[x]?=m.w.heap[x]? /\ ¬(m.install s c k o).own x:=fun x _ hn=>⟨rfl,fun h=>hn (QS hc h)⟩
 have eD:vd m (m.install s c k o):=by
  refine⟨hk,fun id=>?_,fun id he hs=>?_⟩
  .simp only[Mem.install,aO];split
   .rename_i e;subst e;simp only;omega
   exact bR _
  simp only[Mem.install,aO] at he hs |-;by_cases hid:id=s
  .subst hid;simp only[if_true] at he;omega
  simp only[hid,if_false] at he hs |-;exact⟨hs,trivial,trivial,trivial⟩
 exact {
  os:=h.os
  tape:=h.tape
  output:=h.output
  size:=h.size
  base:=h.base
  obj:=by
   intro id o' l8;by_cases hid:id=s
   .subst hid;simp only[Mem.install,aO,if_true,gh] at l8;exact l8▸ho
   have hs:(m.install s c k o).σ id=m.σ id:=by simp[Mem.install,aO,hid]
   have wG:(m.install s c k o).κ id=m.κ id:=by simp[Mem.install,aO,hid]
   simp only[Mem.install,aO,hid,if_false] at l8;exact(h.obj id o' l8).ev eD hs wG rfl
  ie:=by
   intro id o' l8 hm;by_cases hid:id=s
   .subst hid;simp only[Mem.install,aO,if_true];exact⟨eF,fun h=>h.2 rfl⟩
   simp only[Mem.install,aO,hid,if_false] at l8 |-;exact⟨(h.ie id o' l8 hm).1,fun hf=>(h.ie id o' l8 hm).2 hf.1⟩
  frlt:=fun x hx=>h.frlt x hx.1
  inj:=by
   intro id fh o1 o2 h1 m1 h2 m2 he;by_cases hid:id=s<;>by_cases uB:fh=s
   .rw[hid,uB]
   .subst hid;simp only[Mem.install,aO,uB,if_true,if_false] at h2 he;exact((h.ie fh o2 h2 m2).2 (he▸hc)).elim
   .subst uB;simp only[Mem.install,aO,hid,if_true,if_false] at h1 he;exact((h.ie id o1 h1 m1).2 (he.symm▸hc)).elim
   simp only[Mem.install,aO,hid,uB,if_false] at h1 h2 he;exact h.inj id fh o1 o2 h1 m1 h2 m2 he}
def Mem.iL(m:Mem)(id:Nat):Mem:=⟨m.w,dU m.aj id ((m.aj id).1,none),m.σ,m.κ,fun c=>m.fr c\/c=m.σ id⟩
theorem al1{id:Nat}{o:Ob}(ho:(m.aj id).2=some o)(hm:o.fX=true){x:Nat}(h:(m.iL id).own x):m.own x:=by
 rcases h with (h|h)|⟨fh,o',h1,h2,h3⟩
 .exact .inl h
 .exact .inr ⟨id,o,ho,hm,h.symm⟩
 simp only[Mem.iL,aO] at h1 h3;by_cases hid:fh=id
 .simp[hid] at h1
 simp only[hid,if_false] at h1;exact .inr ⟨fh,o',h1,h2,h3⟩
theorem GM{id:Nat}{o:Ob}(ho:(m.aj id).2=some o)(hm:o.fX=true):Ev m (m.iL id) where
 os:=rfl
 tape:=rfl
 output:=rfl
 size:=bR _
 keep _ _ _:=rfl
 fX x _ h:=by
  obtain⟨fh,o',h1,h2,h3⟩:=h;simp only[Mem.iL,aO] at h1 h3;by_cases hid:fh=id
  .simp[hid] at h1
  simp only[hid,if_false] at h1;exact⟨fh,o',h1,h2,h3⟩
 less x _ hn h:=hn (al1 ho hm h)
 gen fh:=by
  simp only[Mem.iL,aO];split
  .rename_i e;subst e;exact bR _
  exact bR _
 ref fh he hs:=by
  simp only[Mem.iL,aO] at he hs |-;by_cases hid:fh=id
  .simp[hid] at hs
  simp only[hid,if_false] at he hs |-;exact⟨hs,trivial,trivial,trivial⟩
theorem T8{id:Nat}{o:Ob}(h:Ok w0 m)(ho:(m.aj id).2=some o)(hm:o.fX=true):Ok w0 (m.iL id) where
 os:=h.os
 tape:=h.tape
 output:=h.output
 size:=h.size
 base:=h.base
 obj fh o' h1:=by
  simp only[Mem.iL,aO] at h1;by_cases hid:fh=id
  .simp[hid] at h1
  simp only[hid,if_false] at h1;exact(h.obj fh o' h1).ev (GM ho hm).zero rfl rfl rfl
 ie fh o' h1 h2:=by
  simp only[Mem.iL,aO] at h1 |-;by_cases hid:fh=id
  .simp[hid] at h1
  simp only[hid,if_false] at h1;refine⟨(h.ie fh o' h1 h2).1,?_⟩;rintro (hf|hf)
  .exact(h.ie fh o' h1 h2).2 hf
  exact hid (h.inj fh id o' o h1 h2 ho hm hf)
 frlt c hc:=by
  rcases hc with hf|rfl
  .exact h.frlt c hf
  exact(h.obj id o ho).lt
 inj BP BQ o1 o2 h1 m1 h2 m2 he:=by
  simp only[Mem.iL,aO] at h1 h2 he;by_cases hid:BP=id
  .simp[hid] at h1
  by_cases uB:BQ=id
  .simp[uB] at h2
  simp only[hid,uB,if_false] at h1 h2;exact h.inj BP BQ o1 o2 h1 m1 h2 m2 he
def Mem.kX(m:Mem)(w':World)(id:Nat)(o:Ob):Mem:=⟨w',dU m.aj id ((m.aj id).1,some o),m.σ,m.κ,m.fr⟩
section
variable {m:Mem} {w':World} {id:Nat} {o old:Ob} (ho:(m.aj id).2=some old) (hm:old.fX=true)
include ho hm
theorem atu{x:Nat}(h:(m.kX w' id o).own x):m.own x:=by
 rcases h with h|⟨fh,o',h1,h2,h3⟩
 .exact .inl h
 simp only[Mem.kX,aO] at h1 h3;by_cases hid:fh=id
 .exact .inr ⟨id,old,ho,hm,hid▸h3⟩
 simp only[hid,if_false] at h1;exact .inr ⟨fh,o',h1,h2,h3⟩
theorem OJ(cH:lY ((m.aj id).1,some o)=lY ((m.aj id).1,some old))(AM:w'.os=m.w.os)(ht:w'.tape=m.w.tape)(qG:w'.output=m.w.output)(hs:w'.heap.size=m.w.heap.size)
  (hk:∀c,c≠m.σ id->w'.heap[c]?=m.w.heap[c]?):Ev m (m.kX w' id o) where
 os:=AM
 tape:=ht
 output:=qG
 size:=Gk hs.symm
 keep c _ hn:=hk c fun e=>hn ⟨id,old,ho,hm,e.symm⟩
 fX x _ h:=by
  obtain⟨fh,o',h1,h2,h3⟩:=h;simp only[Mem.kX,aO] at h1 h3;by_cases hid:fh=id
  .exact⟨id,old,ho,hm,hid▸h3⟩
  simp only[hid,if_false] at h1;exact⟨fh,o',h1,h2,h3⟩
 less x _ hn h:=hn (atu ho hm h)
 gen fh:=by
  simp only[Mem.kX,aO];split
  .rename_i e;subst e;exact bR _
  exact bR _
 ref fh he hss:=by
  simp only[Mem.kX,aO] at he hss |-;by_cases hid:fh=id
  .subst hid;refine⟨by simp[ho],trivial,trivial,?_⟩;simp only[if_true];rw[cH,<- ho]
  simp only[hid,if_false] at he hss |-;exact⟨hss,trivial,trivial,trivial⟩
theorem Si(h:Ok w0 m)(cH:lY ((m.aj id).1,some o)=lY ((m.aj id).1,some old))(AM:w'.os=m.w.os)(ht:w'.tape=m.w.tape)(qG:w'.output=m.w.output)(hs:w'.heap.size=m.w.heap.size)
  (hk:∀c,c≠m.σ id->w'.heap[c]?=m.w.heap[c]?) (DB:uf (m.kX w' id o) id o):Ok w0 (m.kX w' id o) where
 os:=AM.trans h.os
 tape:=ht.trans h.tape
 output:=qG.trans h.output
 size:=mY h.size (Gk hs.symm)
 base c hc:=by have:=(h.ie id old ho hm).1;exact(hk c aa).trans (h.base c hc)
 obj fh o' h1:=by
  simp only[Mem.kX,aO] at h1;by_cases hid:fh=id
  .subst hid;simp only[if_true,gh] at h1;exact h1▸DB
  simp only[hid,if_false] at h1;refine(h.obj fh o' h1).ev (OJ ho hm cH AM ht qG hs hk).zero rfl rfl (hk _ fun e=>?_);cases BH:o'.fX with
  |true=>exact hid (h.inj fh id o' old h1 BH ho hm e)
  |false=>exact(h.obj fh o' h1).calm BH (.inr ⟨id,old,ho,hm,e.symm⟩)
 ie fh o' h1 h2:=by
  simp only[Mem.kX,aO] at h1 |-;by_cases hid:fh=id
  .subst hid;exact h.ie fh old ho hm
  simp only[hid,if_false] at h1;exact h.ie fh o' h1 h2
 frlt c hc:=by rw[show(m.kX w' id o).w.heap.size=m.w.heap.size from hs];exact h.frlt c hc
 inj BP BQ o1 o2 h1 m1 h2 m2 he:=by
  simp only[Mem.kX,aO] at h1 h2 he;by_cases hid:BP=id<;>by_cases uB:BQ=id
  .rw[hid,uB]
  .simp only[uB,if_false] at h2;exact hid▸h.inj id BQ old o2 ho hm h2 m2 (hid▸he)
  .simp only[hid,if_false] at h1;exact uB▸h.inj BP id o1 old h1 m1 ho hm (uB▸he)
  simp only[hid,uB,if_false] at h1 h2;exact h.inj BP BQ o1 o2 h1 m1 h2 m2 he
end
end
end Go.Abs
namespace Go.Abs
def Mc:Value->Option PV
 | .bool b=>some (.bool b)
 | .int k n=>some (.int k n)
 | .string s=>some (.str s)
 | .pointer none=>some .vJ
 | .slice none 0 0=>some .nils
 | .map none=>some .sA
 | .nilFunc=>some .wT
 | .nilIface=>some .nili
 |_=>none
def Jn:List Value->Option b_
 |[]=>some []
 |v::r=>match Mc v,Jn r with
  |some x,some xs=>some (x::xs)
  |_,_=>none
def TQ:Value->Option V
 | .agg cs=>(Jn cs.toList).map fun l=>.agg (l.map .p)
 |v=>(Mc v).map fun x=>.one (.p x)
def cZ:Operand->Option aS
 | .tmp t=>some (.t t)
 | .const (.int .i64 n)=>some (.i n)
 | .const (.bool b)=>some (.b b)
 | .const v=>(TQ v).map .k
 | .func f=>some (.k (.one (.p (.fn f [] []))))
 | .global _=>none
def qZ:List Operand->Option o_
 |[]=>some []
 |a::r=>match cZ a,qZ r with
  |some x,some xs=>some (x::xs)
  |_,_=>none
def yu:Option Operand->Option (Option aS)
 |none=>some none
 |some a=>(cZ a).map some
def A9(P:Program)(t:TypeId):Option b_:=
 match P.info? t with
 |some i=>match i.zero with
  |some (.agg cs)=>if cs.size=i.size then Jn cs.toList else none
  |some v=>if i.size=1 then (Mc v).map fun x=>[x] else none
  |none=>none
 |none=>none
def ss(P:Program)(t:TypeId):Option w_:=
 match P.underlying t,P.info? t with
 |some (.struct _),some i=>some (some i.size)
 |some (.array _ _),some i=>some (some i.size)
 |some _,some i=>if i.size=1 then some none else none
 |_,_=>none
def ye(P:Program)(t:TypeId):w_:=(P.info? t).map (·.size)
def DQ(place:Nat->Option (Nat×Nat))(zl:Nat):List (Nat×Operand)->Option (List (Nat×Nat×aS))
 |[]=>some []
 |(i,x)::r=>match place i,cZ x,DQ place zl r with
  |some (off,n),some a,some q=>if off+n<=zl then some ((off,n,a)::q) else none
  |_,_,_=>none
def Jy:Nat->List (Nat×Operand)->Option o_
 |_,[]=>some []
 |k,(i,x)::r=>match cZ x,Jy (k+1) r with
  |some a,some q=>if i=k then some (a::q) else none
  |_,_=>none
def Sh(P:Program)(t:TypeId):Option Bool:=
 match P.underlying t with
 |some (.int _)=>some true
 |some .bool=>some false
 |_=>none
def La(P:Program):Nat->List Field->Option m_
 |_,[]=>some []
 |k,f::r=>match Sh P f.type,La P (k+1) r with
  |some b,some bs=>if f.offset=k/\f.name≠ "_" then some (b::bs) else none
  |_,_=>none
def KM:Operand->Bool
 | .const .nilIface=>true
 |_=>false
def Ms(P:Program)(t:TypeId)(x y:Operand):Option vV:=
 match P.underlying t with
 |some (.interface _)=>if KM x||KM y then some .ifc else none
 |some .bool=>some .bool
 |some (.pointer _)=>some .ptr
 |some (.slice _)=>some .slc
 |some (.map _ _)=>some .map
 |some (.func _ _ _)=>some .fnc
 |some (.struct fs)=>if !P.stoodInHeld t&& !P.eqGuardType P.depth t then (La P 0 fs.toList).map .str else none
 |_=>none
def Bp(P:Program)(t:TypeId):Option (TypeId×Nat×Nat×b_):=
 match P.underlying t with
 |some (.slice e)=>match P.info? e,A9 P e with
  |some i,some z=>if 0<i.size/\0<i.bytes then some (e,i.size,i.bytes,z) else none
  |_,_=>none
 |_=>none
def keyOf(P:Program)(k:TypeId):w_:=
 match P.underlying k with
 |some (.int _)=>some 0
 |some .string=>some 1
 |some .bool=>some 2
 |_=>none
def SJ(P:Program)(t:TypeId):Bool:=
 match P.info? t with
 |some i=>match i.zero with
  |some (.agg _)=>true
  |_=>false
 |none=>false
def GJ(P:Program)(site:Nat)(o:Oper):Option oQ:=
 match o.op with
 | .move x=>(cZ x).map .zn
 | .assign x=>(cZ x).map .zn
 | .pick c a b=>match cZ c,cZ a,cZ b with
  |some c,some a,some b=>some (.pick c a b)
  |_,_,_=>none
 | .alloc t=>(A9 P t).map (.alloc site)
 | .box _ x=>(cZ x).map (.box site)
 | .build t ps=>match P.underlying t,A9 P t with
  |some (.struct fs),some z=>if fs.all fun f=>(P.info? f.type).isSome then
    (DQ (fun i=>(fs[i]?).map fun f=>(f.offset,P.cellsOf f.type)) z.length ps.toList).map (.build z)
   else none
  |some (.array _ e),some z=>match P.info? e with
   |some i=>(DQ (fun k=>some (k*i.size,i.size)) z.length ps.toList).map (.build z)
   |none=>none
  |_,_=>none
 | .buildSlice t n ps=>match Bp P t,Jy 0 ps.toList with
  |some (e,sz,_,_),some as=>if as.length=n/\n*sz<=16777216 then some (.Ey site e sz as) else none
  |_,_=>none
 | .load t a=>match ss P t,cZ a with
  |some k,some a=>some (.load k a)
  |_,_=>none
 | .store t a x=>match ye P t,cZ a,cZ x with
  |some n,some a,some x=>some (.store n a x)
  |_,_,_=>none
 | .nilCheck x=>(cZ x).map .KN
 | .binOp op t x y _=>match cZ x,cZ y with
  |some a,some b=>match P.underlying t with
   |some (.int _)=>some (.bin op a b)
   |some .string=>some (.bin op a b)
   |_=>match op,Ms P t x y with
    | .eql,some k=>some (.eqc k false a b)
    | .neq,some k=>some (.eqc k true a b)
    |_,_=>none
  |_,_=>none
 | .unOp op _ x=>match op with
  | .not=>(cZ x).map (.un .not)
  | .neg=>(cZ x).map (.un .neg)
  |_=>none
 | .convert s d x=>match P.underlying s,P.underlying d,cZ x with
  |some (.int _),some (.int k),some a=>some (.conv k a)
  |some (.slice e),some .string,some a=>match P.underlying e with
   |some (.int .u8)=>some (.bstr a)
   |_=>none
  |_,_,_=>none
 | .makeFunc (.func f) a b=>match qZ a.toList,qZ b.toList with
  |some x,some y=>some (.mkfn f x y)
  |_,_=>none
 | .makeMap t none=>match P.underlying t with
  |some (.map _ e)=>(ss P e).map fun k=>.mkmap site k.isSome
  |_=>none
 | .makeSlice t l c=>match Bp P t,cZ l,cZ c with
  |some (e,sz,bytes,z),some l,some c=>some (.KG site e sz bytes z l c)
  |_,_,_=>none
 | .slice t x lo hi none=>match cZ x,yu lo,yu hi with
  |some a,some l,some h=>match P.underlying t with
   |some (.slice e)=>(ye P e).map fun sz=>.slice sz a l h
   |some .string=>some (.sslice a l h)
   |_=>none
  |_,_,_=>none
 | .fieldAddr s x f=>match P.underlying s,cZ x with
  |some (.struct fs),some a=>match fs[f]? with
   |some d=>if P.cellsOf d.type≠0 then some (.GS d.offset a) else none
   |none=>none
  |_,_=>none
 | .field t x f=>match P.underlying t,cZ x with
  |some (.struct fs),some a=>match fs[f]? with
   |some d=>(ss P d.type).map fun k=>.fld d.offset k a
   |none=>none
  |_,_=>none
 | .indexAddr t x i=>match cZ x,cZ i with
  |some a,some b=>match P.underlying t with
   |some (.slice e)=>(ye P e).map fun sz=>.HL sz a b
   |some (.array n e)=>(ye P e).map fun sz=>.IT n sz a b
   |_=>none
  |_,_=>none
 | .index t x i=>match cZ x,cZ i with
  |some a,some b=>match P.underlying t with
   |some (.array n e)=>match ye P e,ss P e with
    |some sz,some k=>some (.aidx n sz k a b)
    |_,_=>none
   |some .string=>some (.sidx a b)
   |_=>none
  |_,_=>none
 | .lookup t x k ok=>match P.underlying t,cZ x,cZ k with
  |some (.map kt e),some a,some b=>match A9 P e,ss P e with
   |some z,some q=>match keyOf P kt with
    |some kd=>if SJ P e=q.isSome then some (.lookup kd z q.isSome ok a b) else none
    |none=>none
   |_,_=>none
  |_,_,_=>none
 | .mapUpdate t m k v=>match P.underlying t,cZ m,cZ k,cZ v with
  |some (.map kt e),some a,some b,some c=>match ss P e with
   |some q=>(keyOf P kt).map fun kd=>.mupd kd q.isSome a b c
   |none=>none
  |_,_,_,_=>none
 | .insert t m k v=>match P.underlying t,cZ m,cZ k,cZ v with
  |some (.map kt e),some a,some b,some c=>match ss P e with
   |some q=>(keyOf P kt).map fun kd=>.mupd kd q.isSome a b c
   |none=>none
  |_,_,_,_=>none
 | .extract x i=>(cZ x).map fun a=>.extract a i
 | .call c=>match c.callee,qZ c.args.toList with
  | .value f,some as=>(cZ f).map fun g=>.call site g as
  | .builtin .len,some [a]=>match c.argTypes[0]? with
   |some t=>match P.underlying t with
    |some .string=>some (.slen a)
    |some (.slice _)=>some (.KD a)
    |some (.map _ _)=>some (.mlen a)
    |_=>none
   |none=>none
  | .builtin .append,some [a,b]=>match c.argTypes[0]?,c.argTypes[1]? with
   |some t,some u=>match Bp P t with
    |some (e,sz,bytes,_)=>if t=u/\c.argTypes.size=2 then some (.append site e sz bytes a b) else none
    |none=>none
   |_,_=>none
  | .builtin .max,some [a,b]=>some (.max a b)
  | .builtin .min,some [a,b]=>some (.min a b)
  | .builtin .clear,some [a]=>match c.argTypes[0]? with
   |some t=>(Bp P t).map fun q=>.clear q.2.2.2 a
   |none=>none
  |_,_=>none
 |_=>none
def aS.tmps:aS->a_
 | .t n=>[n]
 |_=>[]
def F7:o_->a_
 |[]=>[]
 |a::r=>a.tmps++F7 r
def YR:Option aS->a_
 |some a=>a.tmps
 |none=>[]
def YS:List (Nat×Nat×aS)->a_
 |[]=>[]
 |(_,_,a)::r=>a.tmps++YS r
def oQ.tmps:oQ->a_
 | .zn x| .box _ x| .load _ x| .KN x| .un _ x| .conv _ x| .bstr x| .GS _ x| .fld _ _ x| .extract x _| .slen x| .KD x| .mlen x| .clear _ x=>x.tmps
 | .pick c a b=>c.tmps++a.tmps++b.tmps
 | .alloc _ _| .mkmap _ _| .bad=>[]
 | .build _ ps=>YS ps
 | .Ey _ _ _ ps=>F7 ps
 | .store _ a x| .bin _ a x| .eqc _ _ a x| .HL _ a x| .IT _ _ a x| .aidx _ _ _ a x| .sidx a x| .lookup _ _ _ _ a x| .append _ _ _ _ a x| .max a x| .min a x=>a.tmps++x.tmps
 | .mkfn _ a b=>F7 a++F7 b
 | .KG _ _ _ _ _ a b=>a.tmps++b.tmps
 | .slice _ x a b| .sslice x a b=>x.tmps++YR a++YR b
 | .mupd _ _ a b c=>a.tmps++b.tmps++c.tmps
 | .call _ f as=>f.tmps++F7 as
def bJ.Iq(o:bJ):a_:=
 o.op.tmps++match o.guard with
  |some (t,_)=>[t]
  |none=>[]
def GW(a b:bJ):Bool:=
 (match a.dst with
  |some d=> !b.Iq.contains d&&b.dst !=some d
  |none=>true)&&
 (match b.dst with
  |some d=> !a.Iq.contains d
  |none=>true)
def Qa(o:bJ):Nat->h_->Bool
 |_,[]=>true
 |j,x::r=>(o.anc.testBit j||GW x o)&&Qa o (j+1) r
def MC:h_->h_->Bool
 |[],_=>true
 |o::os,past=>Qa o 0 past&&MC os (past++[o])
def Jl(P:Program)(site:Nat)(o:Oper):oQ:=(GJ P site o).getD .bad
def abw(nt:Nat):w_->Bool
 |some d=>decide (d<nt)
 |none=>true
def Wp(dst:Nat->w_):Option (Nat×Bool)->Option (Option (Nat×Bool))
 |none=>some none
 |some (j,w)=>(dst j).map fun t=>some (t,w)
def EH(P:Program)(dst:Nat->w_)(base nt:Nat)(anc:Nat)(o:Oper):Option bJ:=if abw nt o.dst then (Wp dst o.guard).map fun g=>⟨o.dst,Jl P base o,g,anc⟩ else none
def xx(P:Program)(dst anc:Nat->w_)(base nt:Nat):Nat->List Oper->Option h_
 |_,[]=>some []
 |i,o::r=>match EH P dst ((base+i)*64) nt ((anc i).getD 0) o,xx P dst anc base nt (i+1) r with
  |some x,some xs=>some (x::xs)
  |_,_=>none
def IU(ops:Array Oper):Bool:=(List.range ops.size).all fun i=>match ops[i]? with
 |some o=>o.after.toList.all fun e=> !Region.binds .any e||decide (e.on<i)
 |none=>true
def qA(P:Program)(f nt:Nat):Code->Option aN
 | .skip=>some .skip
 | .region id ops draw=>
  let b:=if draw then Region.before ops else #[]
  match xx P (fun j=>(ops[j]?).bind (·.dst)) (fun i=>b[i]?) ((f*1000+id)*1000) nt 0 ops.toList with
  |some xs=>if draw then (if IU ops&&MC xs [] then some (.region true xs) else none) else some (.region false xs)
  |none=>none
 | .seq a b=>match qA P f nt a,qA P f nt b with
  |some x,some y=>some (.seq x y)
  |_,_=>none
 | .cond c a b=>match cZ c,qA P f nt a,qA P f nt b with
  |some c,some x,some y=>some (.cond c x y)
  |_,_,_=>none
 | .block id c=>(qA P f nt c).map (.block id)
 | .loop c=>(qA P f nt c).map .loop
 | .exit id=>some (.exit id)
 | .scope c=>qA P f nt c
 | .label _=>some .skip
 | .ret=>some .ret
 |_=>some .bad
def Ck(P:Program):List ResultVar->Option (List (Nat×Option w_))
 |[]=>some []
 | .tmp t::r=>(Ck P r).map ((t,none):: ·)
 | .cell t ty::r=>match ss P ty,Ck P r with
  |some k,some q=>some ((t,some k)::q)
  |_,_=>none
def CX(P:Program)(f:Nat):Option bd:=
 match P.funcs[f]? with
 |none=>none
 |some fn=>match fn.body with
  |none=>none
  |some c=>if fn.name== "runtime.NumGoroutine" then none else
   match qA P f fn.ntmps c,Ck P fn.results.toList with
   |some b,some r=>some ⟨fn.ntmps,r,b⟩
   |_,_=>none
end Go.Abs
namespace Go.Abs
variable {P:Program} {w0:World}
section
variable{m:Mem}
def jC(m:Mem)(ak:Env)(tmps:Array Value):Prop:=∀t,ch m (ak t) (tmps.getD t undef)
theorem jC.ev{m':Mem}(h:Ev m m'){ak:Env}{tmps:Array Value}(hr:jC m ak tmps):jC m' ak tmps:=fun t=>(hr t).ev h.zero
theorem ch.one{c:C}{v:Value}:ch m (.one c) v↔dx m c v:=Iff.rfl
theorem ch.agg{cs:f_}{v:Value}:ch m (.agg cs) v↔ ∃arr,v=.agg arr/\dJ m cs arr.toList:=Iff.rfl
theorem ch.of1{x:V}{v:Value}(h:pR m x v):ch m x v:=by
 cases x with
 |tup vs=>exact h.elim
 |_=>exact h
theorem TP{w:World}{own:Nat->Prop}{v:Value}{x:PV}(h:Mc v=some x):cF w own x v:=by
 unfold Mc at h;split at h<;>first
  |(cases h;constructor;done)
  |cases h
theorem aaP{w:World}{own:Nat->Prop}:∀ {vs:List Value} {xs:b_},Jn vs=some xs->dD w own xs vs:=by
 intro vs
 induction vs with
 |nil=>intro xs h;simp[Jn] at h;subst h;exact⟨rfl,fun j x u a _=>by simp at a⟩
 |cons v r ih=>
  intro xs h;simp only[Jn] at h;split at h
  .rename_i x ys h1 h2;cases h;obtain⟨hl,hr⟩:=ih h2;refine⟨by simp[hl],fun j z u a b=>?_⟩;cases j with
   |zero=>simp at a b;subst a b;exact TP h1
   |succ j=>simp at a b;exact hr j z u a b
  cases h
theorem dD.Eb{xs:b_}{vs:List Value}(h:dD m.w m.own xs vs):dJ m (xs.map .p) vs:=by refine⟨by simp[h.1],fun j x u a b=>?_⟩;simp only[fG,dS] at a;obtain⟨y,hy,rfl⟩:=a;exact .p (h.2 j y u hy b)
theorem alk{v:Value}{x:V}(h:TQ v=some x):ch m x v:=by
 unfold TQ at h;split at h
 .simp only[dS] at h;obtain⟨xs,h1,rfl⟩:=h;exact ch.agg.2 ⟨_,rfl,(aaP h1).Eb⟩
 simp only[dS] at h;obtain⟨y,h1,rfl⟩:=h;exact ch.one.2 (.p (TP h1))
theorem eQ{ak:Env}{a:Act}{x:Operand}{y:aS}(h:cZ x=some y)(hr:jC m ak a.tmps):ch m (ev ak y) (a.eval x):=by
 unfold cZ at h;split at h
 .cases h;exact hr _
 .cases h;exact ch.one.2 (.p (.int _ _))
 .cases h;exact ch.one.2 (.p (.bool _))
 .simp only[dS] at h;obtain⟨v,h1,rfl⟩:=h;exact alk h1
 .cases h;exact ch.one.2 (.p (.fn #[] #[] rfl rfl (fun j x u a=>by simp at a) (fun j x u a=>by simp at a)))
 cases h
def Does(P:Program)(ρ:Operand->Value)(o:Oper)(w:World)(x:Value)(w':World):Prop:=
 (execOp ρ o).run P w=.ok (.value x) w'\/((execOp ρ o).run P w=.ok .skip w'/\x=undef)
def gj(P:Program)(w0:World)(ρ:Operand->Value)(o:Oper)(m:Mem)(v:V)(u:k_):Prop:=∃x m',Does P ρ o m.w x m'.w/\Ok w0 m'/\Ev m m'/\m'.fr=m.fr/\m'.aj=app u m.aj/\ch m' v x
theorem gj.calm{ρ:Operand->Value}{o:Oper}{v:V}{x:Value}(h:Ok w0 m)(kB:(execOp ρ o).run P m.w=.ok (.value x) m.w)(hv:ch m v x):gj P w0 ρ o m v []:=
 ⟨x,m,.inl kB,h,Ev.refl m,rfl,rfl,hv⟩
section
variable {m:Mem} {ak:Env} {a:Act} {o:Oper} (au:Ok w0 m) (hr:jC m ak a.tmps)
include au hr
theorem ahN{x:Operand}{y:aS}(ho:o.op=.move x\/o.op=.assign x)(hx:cZ x=some y):gj P w0 a.eval o m (ev ak y) []:=
 .calm au (by rcases ho with ho|ho<;>simp[execOp,ho]) (eQ hx hr)
theorem aua{c x y:Operand}{c' x' y':aS}{t:Bool}(ho:o.op=.pick c x y)(hc:cZ c=some c')(hx:cZ x=some x')(hy:cZ y=some y')
  (ht:ev ak c'=.one (.p (.bool t))):gj P w0 a.eval o m (if t then ev ak x' else ev ak y') []:=by
 have h1:=eQ hc hr;rw[ht] at h1;obtain⟨⟩:dx m (.p (.bool t)) _:=h1;rename_i hp;generalize hb:a.eval c=b at hp;cases hp;refine .calm (x:=if t then a.eval x else a.eval y) au ?_ ?_
 .simp[execOp,ho,hb,asBool]
 cases t
 .exact eQ hy hr
 exact eQ hx hr
end
theorem FI{b:Bool}{v:Value}(h:ch m (.one (.p (.bool b))) v):v=.bool b:=by obtain⟨hp⟩:dx m _ v:=h;cases hp;rfl
theorem DI{k:IntKind}{n:Int}{v:Value}(h:ch m (.one (.p (.int k n))) v):v=.int k n:=by obtain⟨hp⟩:dx m _ v:=h;cases hp;rfl
theorem N7{s:ByteArray}{v:Value}(h:ch m (.one (.p (.str s))) v):v=.string s:=by obtain⟨hp⟩:dx m _ v:=h;cases hp;rfl
theorem QU{v:Value}(h:ch m (.one (.p .nils)) v):v=.slice none 0 0:=by obtain⟨hp⟩:dx m _ v:=h;cases hp;rfl
theorem apv{v:Value}(h:ch m (.one (.p .zs)) v):∃a,v=.slice a 0 0:=by obtain⟨hp⟩:dx m _ v:=h;cases hp;exact⟨_,rfl⟩
theorem aeC{v:Value}(h:ch m (.one (.p .sA)) v):v=.map none:=by obtain⟨hp⟩:dx m _ v:=h;cases hp;rfl
theorem nE{x:PV}{v:Value}(h:cF m.w m.own x v):ch m (.one (.p x)) v:=ch.one.2 (.p h)
def Mem.fresh(m:Mem)(ob:Obj)(s k:Nat)(o:Ob):Mem:=(m.later (m.w.alloc ob) (· =m.w.heap.size)).install s m.w.heap.size k o
theorem We(au:Ok w0 m)(ob:Obj)(s k:Nat)(o:Ob):(m.fresh ob s k o).fr=m.fr:=by
 funext c;simp only[Mem.fresh,Mem.install,Mem.later];apply propext;constructor
 .rintro ⟨h|h,h2⟩
  .exact h
  exact(h2 h).elim
 intro h;exact⟨.inl h,fun e=>by have:=au.frlt c h;omega⟩
theorem Qb(ob:Obj)(s k:Nat)(o:Ob):Ev m (m.fresh ob s k o):=QQ (Kz (fT.alloc m.w ob) fun c hc=>Gk hc.symm) (.inr rfl) (.inl (bR _))
theorem adh(ob:Obj)(s k:Nat)(o:Ob):(m.fresh ob s k o).w.heap[(m.fresh ob s k o).σ s]?=some ob:=by
 have:(m.fresh ob s k o).σ s=m.w.heap.size:=by simp[Mem.fresh,Mem.install,aO]
 rw[this];exact heap_alloc_new m.w ob
theorem adi(au:Ok w0 m)(ob:Obj)(s k:Nat)(o:Ob)(ho:uf (m.fresh ob s k o) s o):Ok w0 (m.fresh ob s k o):=QR (Od au (fT.alloc m.w ob) fun c hc=>by subst hc;exact⟨bR _,af⟩) (.inr rfl) au.size ho
theorem Wd(m:Mem)(ob:Obj)(s k:Nat)(o:Ob):(m.fresh ob s k o).aj=app [(s,((m.aj s).1+1,some o))] m.aj:=rfl
theorem adj(au:Ok w0 m)(s:Nat)(t:TypeId)(cs:f_)(arr:Array Value)(hc:dJ m cs arr.toList):
  Ok w0 (m.fresh (.cells arr t) s 0 (.var cs))/\ch (m.fresh (.cells arr t) s 0 (.var cs)) (.one (.aZ s ((m.aj s).1+1) 0)) (.pointer (some ⟨m.w.heap.size,0,none⟩)):=by
 refine⟨adi au _ s 0 _ ⟨arr,t,adh _ s 0 _,hc.ev (Qb _ s 0 _).zero⟩,ch.one.2 (.aZ _ ?_ fun _ _=>?_)⟩
 .simp[Mem.fresh,Mem.install,Mem.later,aO]
 simp[Mem.fresh,Mem.install,aO]
theorem OY{t:TypeId}{z:b_}(h:A9 P t=some z):∃v i,P.info? t=some i/\i.zero=some v/\v.cells.size=i.size/\z.length=i.size/\ ∀w own,dD w own z v.cells.toList:=by
 unfold A9 at h;split at h
 .rename_i i hi;split at h
  .rename_i cs hz;split at h
   .rename_i hs;have hr:=fun w own=>aaP (w:=w) (own:=own) h;refine⟨_,i,hi,hz,by simpa [Value.cells] using hs,?_,fun w own=>by simpa [Value.cells] using hr w own⟩;have:=(hr default (fun _=>False)).1;simp at this;omega
   cases h
  .rename_i v hz hv;split at h
   .rename_i hs;simp only[dS] at h;obtain⟨x,hx,rfl⟩:=h;have hr:=fun w own=>TP (w:=w) (own:=own) hx;have hc:=(hr default (fun _=>False)).cells;refine⟨v,i,hi,hv,by simp[hc,hs],by simp[hs],fun w own=>?_⟩;rw[hc];refine⟨rfl,fun j y u a b=>?_⟩;cases j with
    |zero=>simp at a b;subst a b;exact hr w own
    |succ j=>simp at a
   cases h
  cases h
 cases h
section
variable {m:Mem} {ak:Env} {a:Act} {o:Oper} (au:Ok w0 m) (hr:jC m ak a.tmps)
include au
theorem atH{t:TypeId}{z:b_}{s:Nat}(ho:o.op=.alloc t)(hz:A9 P t=some z):
  gj P w0 a.eval o m (.one (.aZ s ((m.aj s).1+1) 0)) [(s,((m.aj s).1+1,some (.var (z.map .p))))]:=by
 obtain⟨v,i,hi,hv,hs,hl,dR⟩:=OY hz;obtain⟨h1,h2⟩:=adj au s t (z.map .p) v.cells (dR m.w m.own).Eb;refine⟨_,_,.inl ?_,h1,Qb _ s 0 _,We au _ s 0 _,Wd _ _ s 0 _,h2⟩;simp[execOp,ho,Instr.alloc,zeroValue,typeInfo,hi,hv,newVar,newRow];rfl
include hr
theorem atK{t:TypeId}{x:Operand}{y:aS}{cs:f_}{s:Nat}(ho:o.op=.box t x)(hx:cZ x=some y)(hc:sI (ev ak y)=some cs):
  gj P w0 a.eval o m (.one (.aZ s ((m.aj s).1+1) 0)) [(s,((m.aj s).1+1,some (.var cs)))]:=by
 have hv:=eQ hx hr;have dB:dJ m cs (a.eval x).cells.toList:=by
  generalize ev ak y=w at hc hv;cases w with
  |undef=>simp[sI] at hc
  |tup vs=>simp[sI] at hc
  |one c=>
   simp[sI] at hc;subst hc;rw[(ch.one.1 hv).cells];refine⟨rfl,fun j y u p q=>?_⟩;cases j with
   |zero=>simp at p q;subst p q;exact hv
   |succ j=>simp at p
  |agg ds=>simp[sI] at hc;subst hc;obtain⟨arr,e,h⟩:=ch.agg.1 hv;rw[e];exact h
 obtain⟨h1,h2⟩:=adj au s t cs _ dB;refine⟨_,_,.inl ?_,h1,Qb _ s 0 _,We au _ s 0 _,Wd _ _ s 0 _,h2⟩;simp[execOp,ho,Instr.box,newVar,newRow];rfl
end
end
end Go.Abs
namespace Go.Abs
variable {P:Program} {w0:World}
theorem GV{α:Type}{sz:Nat}:∀ {es:List (List α)},(∀e∈es,e.length=sz)->es.flatten.length=es.length*sz:=by
 intro es
 induction es with
 |nil=>intro _;simp
 |cons e r ih=>intro h;have h1:=h e af;have h2:=ih fun x hx=>h x (by simp[hx]);simp only[mX,fS,dC,h1,h2,ia,Nat.one_mul];omega
theorem GU{α:Type}{sz:Nat}:∀ {es:List (List α)},(∀e∈es,e.length=sz)->∀ {i:Nat} {e:List α},es[i]?=some e->∀ {j:Nat},j<sz->es.flatten[i*sz+j]?=e[j]? :=by
 intro es
 induction es with
 |nil=>intro _ i e h;simp at h
 |cons x r ih=>
  intro h i e he j hj;have h1:=h x af;cases i with
  |zero=>simp at he;subst he;simp only[mX,Bf,js];rw[xh aa]
  |succ i=>simp at he;have h2:=ih (fun y hy=>h y (by simp[hy])) he hj;simp only[mX];rw[zI (by rw[h1,ia];omega),<- h2];congr 1;rw[h1,ia];omega
theorem MI{α:Type}{sz:Nat}{es:List (List α)}(h:∀e∈es,e.length=sz){i:Nat}{e:List α}(he:es[i]?=some e):e.length=sz:=h e (aV he)
theorem EB{w:World}{b k:Nat}{cur:Array Value}{ty:TypeId}{fz:Nat×Nat}(h:w.heap[b]?=some (.cells cur ty fz)):w.cell? ⟨b,k,none⟩=cur[k]? :=cell_of_row w b k cur ty fz h
def At (m:Mem)(v:Value)(cs:f_):Prop:=∃b o vs,v=.pointer (some ⟨b,o,none⟩)/\dJ m cs vs/\ ∀(j:Nat) (u:Value),vs[j]?=some u->m.w.cell? ⟨b,o+j,none⟩=some u
theorem At.row{m:Mem}{b o:Nat}{cur:Array Value}{ty:TypeId}{fz:Nat×Nat}(h:m.w.heap[b]?=some (.cells cur ty fz)){cs:f_}(hl:o+cs.length<=cur.size)
  (hc:∀(j:Nat) (x:C) (u:Value),cs[j]?=some x->cur[o+j]?=some u->dx m x u):At m (.pointer (some ⟨b,o,none⟩)) cs:=by
 refine⟨b,o,(cur.toList.drop o).take cs.length,rfl,⟨by simp;omega,fun j x u p q=>?_⟩,fun j u q=>?_⟩
 .rw[mI] at q;split at q
  .exact hc j x u p (by simpa using q)
  cases q
 rw[mI] at q;split at q
 .rw[EB h];simpa using q
 cases q
theorem ahd{m:Mem}(au:Ok w0 m){x:V}{v:Value}{cs:f_}{rd:a_}(h:Cj m.aj x=some (cs,rd))(hv:ch m x v):At m v cs:=by
 unfold Cj at h;split at h
 .rename_i ps;simp only[gh,lR] at h;obtain⟨rfl,rfl⟩:=h;obtain⟨hp⟩:dx m _ v:=hv;cases hp with
  |box b o f ho hc hr=>
   refine⟨b,o,(List.range ps.length).map f,rfl,⟨af,fun j x u p q=>?_⟩,fun j u q=>?_⟩
   .simp only[fG,dS] at p q;obtain⟨y,hy,rfl⟩:=p;obtain⟨k,hk,rfl⟩:=q;have kS:k=j:=by
     rw[u5 (by have:=aT.1 hy;obtain⟨h,_⟩:=this;exact h)] at hk
     simpa using hk.symm
    subst kS;exact .p (hr k y hy)
   simp only[fG,dS] at q;obtain⟨k,hk,rfl⟩:=q;have aw:j<ps.length:=by have:=aT.1 hk;obtain⟨h,_⟩:=this;simpa using h
   rw[u5 aw] at hk;simp at hk;subst hk;exact hc j _ (rL aw)
 .rename_i id g off;have hv:dx m _ v:=hv;cases hv with
  |aZ a hg ha=>
   split at h
   .rename_i g' zV hb;split at h
    .rename_i jo;simp only[gh,lR] at h;obtain⟨rfl,rfl⟩:=h;have bj:(m.aj id).2=some (.var zV):=by rw[hb]
     have ha:=ha (by rw[hb];exact jo) (by rw[bj];rfl);subst ha;obtain⟨cur,ty,hh,hl,hc⟩:=au.obj id _ bj;simp at hl;by_cases ho:off<=zV.length
     .exact At.row hh (by simp;omega) fun j x u p q=>hc (off+j) x u (by simpa using p) (by simpa using q)
     exact⟨_,_,[],rfl,⟨by simp;omega,fun j x u p q=>by simp at q⟩,fun j u q=>by simp at q⟩
    cases h
   .rename_i g' zV hb;split at h
    .rename_i jo;simp only[gh,lR] at h;obtain⟨rfl,rfl⟩:=h;have bj:(m.aj id).2=some (.fvar zV):=by rw[hb]
     have ha:=ha (by rw[hb];exact jo) (by rw[bj];rfl);subst ha;obtain⟨cur,ty,fz,hh,hp,_⟩:=au.obj id _ bj;have hl:=hp.1;simp at hl;by_cases ho:off<=zV.length
     .refine At.row hh (by simp;omega) fun j x u p q=>?_;simp only[fG,dS] at p;obtain⟨y,hy,rfl⟩:=p;exact .p (hp.2 (off+j) y u (by simpa using hy) (by simpa using q))
     exact⟨_,_,[],rfl,⟨by simp;omega,fun j x u p q=>by simp at q⟩,fun j u q=>by simp at q⟩
    cases h
   cases h
 .rename_i id g i off;have hv:dx m _ v:=hv;cases hv with
  |dI a hg ha=>
   have key:∀(sz:Nat) (e:f_) (cur:Array Value) (ty:TypeId) (fz:Nat×Nat),m.w.heap[m.σ id]?=some (.cells cur ty fz)->e.length=sz->(i+1)*sz<=cur.size->
     a=⟨m.σ id,i*sz+off,none⟩->(∀(j:Nat) (x:C) (u:Value),e[j]?=some x->cur[i*sz+j]?=some u->dx m x u)->At m (.pointer (some a)) (e.drop off):=by
    intro sz e cur ty fz hh he aw xF hc;subst xF;rw[ia,Nat.one_mul] at aw;by_cases ho:off<=e.length
    .exact At.row hh (by simp;omega) fun j x u p q=>hc (off+j) x u (by simpa using p) (by rw[<- Gi];exact q)
    exact⟨_,_,[],rfl,⟨by simp;omega,fun j x u p q=>by simp at q⟩,fun j u q=>by simp at q⟩
   have pure:∀(ty sz:Nat) (es:s_) (e:b_) (cur:Array Value) (fz:Nat×Nat),m.w.heap[m.σ id]?=some (.cells cur ty fz)->(∀e∈es,e.length=sz)->es.length*sz<=cur.size->
     dD m.w m.own es.flatten (cur.toList.take (es.length*sz))->es[i]?=some e->a=⟨m.σ id,i*sz+off,none⟩->At m (.pointer (some a)) ((e.drop off).map .p):=by
    intro ty sz es e cur fz hh cH hlen dR he xF;have dI:=MI cH he;have hi:i<es.length:=(aT.1 he).1;have tO:(i+1)*sz<=es.length*sz:=mZ _ hi;rw[List.map_drop];refine key sz (e.map .p) cur ty fz hh (by simpa using dI) aa xF fun j x u p q=>?_;simp only[fG,dS] at p;obtain⟨y,hy,rfl⟩:=p;have hj:j<sz:=by have:=(aT.1 hy).1;omega
    refine .p (dR.2 (i*sz+j) y u (by rw[GU cH he hj];exact hy) ?_);rw[ia] at tO;rw[mI,aD aa]
    simpa using q
   split at h
   .rename_i g' ty sz es hb;split at h
    .rename_i jo;simp only[dS,lR] at h;obtain⟨e,he,rfl,rfl⟩:=h;have bj:(m.aj id).2=some (.arr ty sz es):=by rw[hb]
     obtain⟨cur,hh,qI,cH,hl,hm,dB,dR⟩:=au.obj id _ bj;exact pure ty sz es e cur _ hh cH (by rw[dB];exact mZ _ hl) dR he (ha sz (by rw[hb];exact jo) (by rw[hb];rfl))
    cases h
   .rename_i g' ty sz es hb;split at h
    .rename_i jo;simp only[dS,lR] at h;obtain⟨e,he,rfl,rfl⟩:=h;have bj:(m.aj id).2=some (.qB ty sz es):=by rw[hb]
     obtain⟨cur,fz,hh,qI,cH,hl,hm,dB,dR,_⟩:=au.obj id _ bj;exact pure ty sz es e cur _ hh cH (by rw[dB];exact mZ _ hl) dR he (ha sz (by rw[hb];exact jo) (by rw[hb];rfl))
    cases h
   .rename_i g' ty sz es hb;split at h
    .rename_i jo;simp only[dS,lR] at h;obtain⟨e,he,rfl,rfl⟩:=h;have bj:(m.aj id).2=some (.ju ty sz es):=by rw[hb]
     obtain⟨cur,hh,qI,cH,hl,hm,dB,dR⟩:=au.obj id _ bj;have dI:=MI cH he;have hi:i<es.length:=(aT.1 he).1;have tO:(i+1)*sz<=es.length*sz:=mZ _ hi;have ad2:es.length*sz<=m.κ id*sz:=mZ _ hl;refine key sz e cur ty _ hh dI aa (ha sz (by rw[hb];exact jo) (by rw[hb];rfl)) fun j x u p q=>?_;have hj:j<sz:=by have:=(aT.1 p).1;omega
     refine dR.2 (i*sz+j) x u (by rw[GU cH he hj];exact p) ?_;rw[ia] at tO;rw[mI,aD aa]
     simpa using q
    cases h
   cases h
 cases h
end Go.Abs
namespace Go.Abs
variable {P:Program} {w0:World}
theorem apF{t:TypeId}{n:Nat}(h:ss P t=some (some n)):∃d i,P.underlying t=some d/\P.info? t=some i/\i.size=n/\((∃fs,d=.struct fs)\/ ∃k e,d=.array k e):=by
 unfold ss at h;split at h
 .rename_i fs i h1 h2;simp at h;exact⟨_,i,h1,h2,h,.inl ⟨fs,rfl⟩⟩
 .rename_i k e i h1 h2;simp at h;exact⟨_,i,h1,h2,h,.inr ⟨k,e,rfl⟩⟩
 .split at h<;>simp at h
 cases h
theorem apE{t:TypeId}(h:ss P t=some none):∃d i,P.underlying t=some d/\P.info? t=some i/\i.size=1/\(∀fs,d≠ .struct fs)/\ ∀k e,d≠ .array k e:=by
 unfold ss at h;split at h
 .simp at h
 .simp at h
 .rename_i d i n1 n2 h1 h2;split at h
  .rename_i hs;exact⟨_,_,h1,h2,hs,fun fs e=>n1 fs e,fun k e' e=>n2 k e' e⟩
  cases h
 cases h
theorem ahw{t:TypeId}{n:Nat}(h:ss P t=some (some n))(w:World):(isAgg t).run P w=.ok true w/\(sizeOf t).run P w=.ok n w:=by
 obtain⟨d,i,h1,h2,h3,h4⟩:=apF h;constructor
 .rcases h4 with ⟨fs,rfl⟩|⟨k,e,rfl⟩<;>simp[isAgg,run_underlying h1]
 simp[sizeOf,typeInfo,h2,h3]
theorem ahv{t:TypeId}(h:ss P t=some none)(w:World):(isAgg t).run P w=.ok false w/\(sizeOf t).run P w=.ok 1 w:=by
 obtain⟨d,i,h1,h2,h3,h4,h5⟩:=apE h;constructor
 .cases d<;>first
   |exact(h4 _ rfl).elim
   |exact(h5 _ _ rfl).elim
   |simp[isAgg,run_underlying h1]
 simp[sizeOf,typeInfo,h2,h3]
theorem afM{m:Mem}{t:TypeId}{k:w_}(hk:ss P t=some k){v:Value}{cs:f_}(h:At m v cs){x:V}(hx:qS k cs=some x):
  ∃a y,v=.pointer (some a)/\(loadVar t a).run P m.w=.ok y m.w/\ch m x y:=by
 obtain⟨b,o,vs,rfl,dB,kr⟩:=h;cases k with
 |none=>
  obtain⟨h1,h2⟩:=ahv hk m.w;cases cs with
  |nil=>simp[qS] at hx
  |cons c r=>
   simp[qS] at hx;subst hx;obtain⟨hl,hr⟩:=dB;cases vs with
   |nil=>simp at hl
   |cons u us=>have h0:=kr 0 u rfl;refine⟨_,u,rfl,?_,ch.one.2 (hr 0 c u rfl rfl)⟩;rw[u9] at h0;simp[loadVar,h1,h0]
 |some n=>
  obtain⟨h1,h2⟩:=ahw hk m.w;simp only[qS] at hx;split at hx
  .rename_i hn;cases hx;obtain⟨hl,hr⟩:=dB;refine⟨_,.agg (vs.take n).toArray,rfl,?_,ch.agg.2 ⟨_,rfl,by simp;omega,fun j x u p q=>?_⟩⟩
   .have hlen:(vs.take n).length=n:=by simp;omega
    have:=run_loadCells_list (P:=P) m.w ⟨b,o,none⟩ (vs.take n) (fun j u q=>by
     rw[Addr.add_lit];rw[mI] at q;split at q
     .exact kr j u q
     cases q)
    rw[hlen] at this;simp[loadVar,h1,h2,this]
   rw[mI] at p;simp only[mI] at q;split at p
   .rename_i hj;simp only[hj,if_true] at q;exact hr j x u p q
   cases p
  cases hx
section
variable {m:Mem} {ak:Env} {a:Act} {o:Oper} (au:Ok w0 m) (hr:jC m ak a.tmps)
include au hr
theorem atX{t:TypeId}{x:Operand}{y:aS}{k:w_}{cs:f_}{rd:a_}{v:V}(ho:o.op=.load t x)(hk:ss P t=some k)(hx:cZ x=some y)
  (hc:Cj m.aj (ev ak y)=some (cs,rd)) (hv:qS k cs=some v):gj P w0 a.eval o m v []:=by
 obtain⟨ad,y',h1,h2,h3⟩:=afM hk (ahd au hc (eQ hx hr)) hv;exact .calm au (by simp[execOp,ho,h1,Instr.loadAt,Instr.sureAddr,h2]) h3
theorem at6{x:Operand}{y:aS}{v:V}(ho:o.op=.nilCheck x)(hx:cZ x=some y)(hv:bK (fun _=>false) ak m.aj (.KN y)=.done v [] []):gj P w0 a.eval o m v []:=by
 have eN:=eQ hx hr;simp only[bK] at hv;split at hv
 .rename_i he;rw[he] at eN;cases hv;have hc:dx m _ (a.eval x):=eN;generalize hb:a.eval x=b at hc eN;cases hc with
  |aZ ad hg h=>exact .calm au (by simp[execOp,ho,hb]) eN
 .rename_i he;rw[he] at eN;cases hv;have hc:dx m _ (a.eval x):=eN;generalize hb:a.eval x=b at hc eN;cases hc with
  |dI ad hg h=>exact .calm au (by simp[execOp,ho,hb]) eN
 .rename_i he;rw[he] at eN;cases hv;have hc:dx m _ (a.eval x):=eN;generalize hb:a.eval x=b at hc eN;cases hc with
  |p hp=>cases hp with
   |box b' o' f l8 jw mR=>exact .calm au (by simp[execOp,ho,hb]) eN
 .rename_i he;rw[he] at eN;cases hv;have hc:dx m _ (a.eval x):=eN;generalize hb:a.eval x=b at hc eN;cases hc with
  |hfn A B ha wB wK sa=>exact .calm au (by simp[execOp,ho,hb]) eN
 .rename_i he;rw[he] at eN;cases hv;have hc:dx m _ (a.eval x):=eN;generalize hb:a.eval x=b at hc eN;cases hc with
  |p hp=>cases hp with
   |fn A B ha wB wK sa=>exact .calm au (by simp[execOp,ho,hb]) eN
 cases hv
end
end Go.Abs
namespace Go.Abs
variable {P:Program} {w0:World}
section
variable{vs:List Value}{off:Nat}
theorem cF.norm{w:World}{own:Nat->Prop}{x:PV}{v:Value}(h:cF w own x v):cF w own x.norm v:=by
 cases h<;>first
  |exact .zw none 0 (fun _=>rfl) (bG _)
  |exact .zw _ 0 (fun _=>rfl) (bG _)
  |(simp only[PV.norm];constructor<;>assumption)
theorem avm{m:Mem}{c:C}{x:PV}{v:Value}(h:toP c=some x)(hr:dx m c v):cF m.w m.own x v:=by
 cases hr<;>simp[toP] at h
 rename_i hp;subst h;exact hp.norm
theorem ON{m:Mem}:∀ {cs:f_} {xs:b_} {vs:List Value},Cp cs=some xs->dJ m cs vs->dD m.w m.own xs vs:=by
 intro cs
 induction cs with
 |nil=>intro xs vs h hr;simp[Cp] at h;subst h;exact⟨hr.1,fun j x u a=>by simp at a⟩
 |cons c r ih=>
  intro xs vs h hr;simp only[Cp] at h;split at h
  .rename_i x ys h1 h2;cases h;cases vs with
   |nil=>simp[dJ] at hr
   |cons v us=>
    obtain⟨hl,xP⟩:=ih (vs:=us) h2 ⟨by simpa using hr.1,fun j x u a b=>hr.2 (j+1) x u (by simpa using a) (by simpa using b)⟩;refine⟨by simp[hl],fun j z u a b=>?_⟩;cases j with
    |zero=>simp at a b;subst a b;exact avm h1 (hr.2 0 c v rfl rfl)
    |succ j=>simp at a b;exact xP j z u a b
  cases h
def Pw {α:Type}(R:α->Value->Prop)(xs:List α)(vs:List Value):Prop:=vs.length=xs.length/\ ∀(j:Nat) (x:α) (u:Value),xs[j]?=some x->vs[j]?=some u->R x u
theorem Pw.take{α:Type}{R:α->Value->Prop}{xs:List α}(h:Pw R xs vs)(n:Nat):Pw R (xs.take n) (vs.take n):=by
 refine⟨by simp[h.1],fun j x u a b=>?_⟩;rw[mI] at a b;split at a
 .rename_i hj;rw[aD hj] at b;exact h.2 j x u a b
 cases a
theorem Pw.drop{α:Type}{R:α->Value->Prop}{xs:List α}(h:Pw R xs vs)(n:Nat):Pw R (xs.drop n) (vs.drop n):=
 ⟨by simp[h.1],fun j x u a b=>h.2 (n+j) x u (by simpa using a) (by simpa using b)⟩
theorem Pw.append{α:Type}{R:α->Value->Prop}{xs ys:List α}{us:List Value}(h:Pw R xs vs)(k:Pw R ys us):Pw R (xs++ys) (vs++us):=by
 refine⟨by simp[h.1,k.1],fun j x u a b=>?_⟩;by_cases hj:j<xs.length
 .rw[xh hj] at a;rw[xh (by rw[h.1];exact hj)] at b;exact h.2 j x u a b
 rw[zI aa] at a;rw[zI (by rw[h.1];omega),h.1] at b;exact k.2 _ x u a b
theorem Pw.eZ{α:Type}{R:α->Value->Prop}{xs ys:List α}{us:List Value}(h:Pw R xs vs)(k:Pw R ys us)(off:Nat):Pw R (eZ xs off ys) (eZ vs off us):=by unfold Abs.eZ;rw[k.1];exact((h.take off).append k).append (h.drop _)
theorem Su{α:Type}{cs xs:List α}(h:off+xs.length<=cs.length):(eZ cs off xs).length=cs.length:=by simp[eZ];omega
theorem ah7{α:Type}{cs xs:List α}{n:Nat}(h:off+xs.length<=n)(hn:n<=cs.length):(eZ cs off xs).take n=eZ (cs.take n) off xs:=by unfold eZ;rw[LI,LI,Gh,List.drop_take];simp only[fS,iK];rw[zK (by omega:off<=cs.length),Gh,zK (by omega:off<=n),Nat.min_eq_right (by omega:off<=n)];have e:n-(off+xs.length)=n-(off+xs.length):=rfl;rw[iz (by omega:xs.length<=n-off)]
theorem auN{α:Type}{a cs xs:List α}:eZ (a++cs) (a.length+off) xs=a++eZ cs off xs:=by unfold eZ;rw[LI,List.drop_append];simp only[vU];rw[iz (by omega:a.length<=a.length+off),List.drop_of_length_le (by omega:a.length<=a.length+off+xs.length)];simp only[fZ];have e1:a.length+off-a.length=off:=aa;have e2:a.length+off+xs.length-a.length=off+xs.length:=aa;rw[e1,e2]
theorem auM{α:Type}{a cs xs:List α}(h:off+xs.length<=a.length):eZ (a++cs) off xs=eZ a off xs++cs:=by unfold eZ;rw[O3 aa,List.drop_append_of_le_length aa];simp
theorem am2{α:Type}{sz:Nat}{ps:List α}:∀ {es:List (List α)},(∀e∈es,e.length=sz)->∀ {i:Nat} {e:List α},es[i]?=some e->off+ps.length<=sz->
  (es.set i (eZ e off ps)).flatten=eZ es.flatten (i*sz+off) ps:=by
 intro es
 induction es with
 |nil=>intro _ i e h;simp at h
 |cons x r ih=>
  intro h i e he hl;have h1:=h x af;cases i with
  |zero=>simp at he;subst he;simp only[List.set_cons_zero,mX,Bf,js];rw[auM aa]
  |succ i=>
   simp at he;simp only[List.set_cons_succ,mX];rw[ih (fun y hy=>h y (by simp[hy])) he hl];have hh:(i+1)*sz+off=x.length+(i*sz+off):=by rw[h1,ia];omega
   rw[hh,auN]
theorem OK{w:World}{g:Nat}{cur new:Array Value}{ty:TypeId}{fz:Nat×Nat}(h:w.heap[g]?=some (.cells cur ty fz)):(w.setRow g new).heap[g]?=some (.cells new ty fz):=setRow_heap w g cur new ty fz h
theorem dJ.pw{m:Mem}{cs:f_}:dJ m cs vs↔Pw (dx m) cs vs:=Iff.rfl
theorem dD.pw{w:World}{own:Nat->Prop}{cs:b_}:dD w own cs vs↔Pw (cF w own) cs vs:=Iff.rfl
theorem dJ.one{m:Mem}{cs:f_}(h:dJ m cs vs):∀v∈vs,v.oneCell'=true:=by
 intro v hv;obtain⟨j,hj⟩:=iJ hv;have aw:j<cs.length:=by rw[<- h.1];exact(aT.1 hj).1
 exact(h.2 j _ v (rL aw) hj).Ot
theorem TA{m:Mem}{x:V}{v:Value}{cs:f_}(h:sI x=some cs)(hr:ch m x v):dJ m cs v.cells.toList:=by
 cases x with
 |undef=>simp[sI] at h
 |tup vs=>simp[sI] at h
 |one c=>
  simp[sI] at h;subst h;rw[(ch.one.1 hr).cells];refine⟨rfl,fun j y u p q=>?_⟩;cases j with
  |zero=>simp at p q;subst p q;exact hr
  |succ j=>simp at p
 |agg ds=>simp[sI] at h;subst h;obtain⟨arr,e,h⟩:=ch.agg.1 hr;rw[e];exact h
section
variable {m:Mem} {ak:Env} {a:Act} {o:Oper} (au:Ok w0 m) (hr:jC m ak a.tmps)
include au hr
theorem auf{t:TypeId}{x v:Operand}{x' v':aS}{n:Nat}{cs:f_}{r:V}{u:k_}{rd:a_}(ho:o.op=.store t x v)(hn:ye P t=some n)(hx:cZ x=some x')(hv:cZ v=some v')
  (hc:sI (ev ak v')=some cs) (hw:A8 m.aj (ev ak x') n cs=.done r u rd):gj P w0 a.eval o m r u:=by
 have dB:=TA hc (eQ hv hr);have l9:=eQ hx hr;unfold ye at hn;simp only[dS] at hn;obtain⟨i,hi,jS⟩:=hn;have cH:(a.eval v).cells.toList.length=cs.length:=dB.1;simp only[Array.length_toList] at cH;unfold A8 at hw;split at hw
 .cases hw
 rename_i hlen;have hlen:cs.length=n:=by simpa using hlen
 have QF:=dB.one;split at hw
 .rename_i id g off he;rw[he] at l9;have l9:dx m _ (a.eval x):=l9;generalize hb:a.eval x=b at l9;cases l9 with
  |aZ ad hg oY=>
   split at hw
   .rename_i g' zV iW;split at hw
    .rename_i M7;obtain⟨jo,hfit⟩:=M7;cases hw;have bj:(m.aj id).2=some (.var zV):=by rw[iW]
     have oY:=oY (by rw[iW];exact jo) (by rw[bj];rfl);subst oY;obtain⟨cur,ty,hh,dR⟩:=au.obj id _ bj;have bN:=dR.1;simp at bN;have By:off+0+(a.eval v).cells.toList.length<=cur.size:=by simp;omega
     have cV:=run_storeCells_at P (m.σ id) off ty (a.eval v).cells.toList 0 cur m.w hh By QF;simp only[u9] at cV;generalize hW:m.w.setRow (m.σ id) (cur.toList.take off++(a.eval v).cells.toList++cur.toList.drop (off+(a.eval v).cells.toList.length)).toArray=W at cV;have Ff:W.heap.size=m.w.heap.size:=by rw[<- hW];simp
     have Fe:∀c,c≠m.σ id->W.heap[c]?=m.w.heap[c]? :=fun c hc=>by rw[<- hW];exact setRow_other m.w (m.σ id) c _ hc
     have eD:=OJ (w':=W) (o:=.var (eZ zV off cs)) bj rfl (by simp[lY]) (by rw[<- hW];rfl) (by rw[<- hW];rfl) (by rw[<- hW];rfl) Ff Fe;have DB:uf (m.kX W id (.var (eZ zV off cs))) id (.var (eZ zV off cs)):=by
      refine⟨_,ty,by rw[<- hW];exact OK hh,?_⟩;have:=dJ.pw.2 ((dJ.pw.1 (dR.ev eD.zero)).eZ (dJ.pw.1 (dB.ev eD.zero)) off)
      simpa [eZ] using this
     refine⟨undef,m.kX W id (.var (eZ zV off cs)),.inr ⟨?_,rfl⟩,Si bj rfl au (by simp[lY]) (by rw[<- hW];rfl) (by rw[<- hW];rfl) (by rw[<- hW];rfl) Ff Fe DB,eD,rfl,?_,rfl⟩
     .simp only[execOp,ho,hb,Instr.storeAt,Instr.sureAddr,storeVar,sizeOf,typeInfo];simp[hi,cH,hlen,jS,cV,Mem.kX]
     simp[Mem.kX,app,iW,jo]
    cases hw
   cases hw
 .rename_i id g i' off he;rw[he] at l9;have l9:dx m _ (a.eval x):=l9;generalize hb:a.eval x=b at l9;cases l9 with
  |dI ad hg oY=>
   split at hw
   .rename_i g' ty sz es iW;split at hw
    .rename_i e ps Hn QH;split at hw
     .rename_i M7;obtain⟨jo,hfit⟩:=M7;cases hw;have bj:(m.aj id).2=some (.arr ty sz es):=by rw[iW]
      have oY:=oY sz (by rw[iW];exact jo) (by rw[iW];rfl);subst oY;obtain⟨cur,hh,qI,uI,hl,hm,adT,dR⟩:=au.obj id _ bj;have dI:=MI uI Hn;have aon:i'<es.length:=(aT.1 Hn).1;have tO:(i'+1)*sz<=es.length*sz:=mZ _ aon;have ad2:es.length*sz<=m.κ id*sz:=mZ _ hl;rw[ia,Nat.one_mul] at tO;have hpsl:ps.length=cs.length:=by rw[<- dB.1];exact(ON QH dB).1.symm
      have By:i'*sz+off+0+(a.eval v).cells.toList.length<=cur.size:=by simp;omega
      have cV:=run_storeCells_at P (m.σ id) (i'*sz+off) ty (a.eval v).cells.toList 0 cur m.w hh By QF;simp only[u9] at cV;generalize hW:m.w.setRow (m.σ id) (cur.toList.take (i'*sz+off)++(a.eval v).cells.toList++cur.toList.drop (i'*sz+off+(a.eval v).cells.toList.length)).toArray=W at cV;have Ff:W.heap.size=m.w.heap.size:=by rw[<- hW];simp
      have Fe:∀c,c≠m.σ id->W.heap[c]?=m.w.heap[c]? :=fun c hc=>by rw[<- hW];exact setRow_other m.w (m.σ id) c _ hc
      have eD:=OJ (w':=W) (o:=.arr ty sz (es.set i' (eZ e off ps))) bj rfl (by simp[lY]) (by rw[<- hW];rfl) (by rw[<- hW];rfl) (by rw[<- hW];rfl) Ff Fe;have DB:uf (m.kX W id (.arr ty sz (es.set i' (eZ e off ps)))) id (.arr ty sz (es.set i' (eZ e off ps))):=by
       refine⟨_,by rw[<- hW];exact OK hh,qI,?_,by rw[ud];exact hl,hm,?_,?_⟩
       .intro e' Ap;rcases List.mem_or_eq_of_mem_set Ap with h|h
        .exact uI e' h
        rw[h,Su aa];exact dI
       .simp[Mem.kX];omega
       rw[ud,am2 uI Hn aa];have h1:=(dD.pw.1 (dR.ev eD.zero)).eZ (dD.pw.1 ((ON QH dB).ev eD.zero)) (i'*sz+off);rw[<- ah7 (by simp;omega) (by simp;omega)] at h1;have h1:=dD.pw.2 h1
       simpa [eZ] using h1
      refine⟨undef,m.kX W id (.arr ty sz (es.set i' (eZ e off ps))),.inr ⟨?_,rfl⟩,Si bj rfl au (by simp[lY]) (by rw[<- hW];rfl) (by rw[<- hW];rfl) (by rw[<- hW];rfl) Ff Fe DB,eD,rfl,?_,rfl⟩
      .simp only[execOp,ho,hb,Instr.storeAt,Instr.sureAddr,storeVar,sizeOf,typeInfo];simp[hi,cH,hlen,jS,cV,Mem.kX]
      simp[Mem.kX,app,iW,jo]
     cases hw
    cases hw
   cases hw
 cases hw
end
end
end Go.Abs
namespace Go.Abs
variable {P:Program} {w0:World}
theorem zR{m:Mem}{x:V}{v:Value}{n:Nat}(h:qx x=some n)(hr:ch m x v):∃k,v=.int k (n:Int):=by
 unfold qx at h;split at h
 .rename_i k z;split at h
  .rename_i hz;cases h;exact⟨k,by rw[DI hr,Int.toNat_of_nonneg hz]⟩
  cases h
 cases h
theorem Sl{t:TypeId}{n:Nat}(h:ye P t=some n)(w:World):(sizeOf t).run P w=.ok n w:=by unfold ye at h;simp only[dS] at h;obtain⟨i,hi,rfl⟩:=h;simp[sizeOf,typeInfo,hi]
section
variable {m:Mem} {ak:Env} {a:Act} {o:Oper} (au:Ok w0 m) (hr:jC m ak a.tmps)
include au hr
theorem atT{s:TypeId}{x:Operand}{f:Nat}{fs:Array Field}{d:Field}{y:aS}{v:V}(ho:o.op=.fieldAddr s x f)(hs:P.underlying s=some (.struct fs))(hf:fs[f]?=some d)
  (hz:P.cellsOf d.type≠0) (hx:cZ x=some y) (hv:bK (fun _=>false) ak m.aj (.GS d.offset y)=.done v [] []):gj P w0 a.eval o m v []:=by
 have eN:=eQ hx hr;have cH:∃n,(sizeOf d.type).run P m.w=.ok n m.w/\n≠0:=by
  unfold Program.cellsOf at hz;cases hi:P.info? d.type with
  |none=>simp[hi] at hz
  |some i=>exact⟨i.size,by simp[sizeOf,typeInfo,hi],by simpa [hi] using hz⟩
 obtain⟨n,hn,iY⟩:=cH;have run:∀ad,a.eval x=.pointer (some ad)->(execOp a.eval o).run P m.w=.ok (.value (.pointer (some (ad.add d.offset)))) m.w:=by intro ad oY;simp[execOp,ho,oY,Instr.fieldAt,run_underlying hs,hf,Instr.sureAddr,fieldPlace,hn,iY]
 simp only[bK] at hv;split at hv
 .rename_i id g off he;rw[he] at eN;cases hv;have hc:dx m _ (a.eval x):=eN;generalize hb:a.eval x=b at hc;cases hc with
  |aZ ad hg h=>exact .calm au (run _ hb) (ch.one.2 (.aZ _ hg fun h1 h2=>by rw[h h1 h2,Addr.add_lit]))
 .rename_i id g i off he;rw[he] at eN;cases hv;have hc:dx m _ (a.eval x):=eN;generalize hb:a.eval x=b at hc;cases hc with
  |dI ad hg h=>exact .calm au (run _ hb) (ch.one.2 (.dI _ hg fun sz h1 h2=>by rw[h sz h1 h2,Addr.add_lit,Gi]))
 .rename_i cs he;rw[he] at eN;cases hv;have hc:dx m _ (a.eval x):=eN;generalize hb:a.eval x=b at hc;cases hc with
  |p hp=>cases hp with
   |box b' o' f' l8 jw mR=>refine .calm au (run _ hb) (nE ?_);rw[Addr.add_lit];refine .box b' (o'+d.offset) (fun j=>f' (d.offset+j)) (fun h=>l8 fun e=>h (by simp[e])) (fun j z h=>?_) fun j z h=>mR _ z (by simpa using h);rw[Gi];exact jw _ z (by simpa using h)
 cases hv
theorem atV{t e:TypeId}{x i:Operand}{sz:Nat}{x' i':aS}{v:V}(ho:o.op=.indexAddr t x i)(ht:P.underlying t=some (.slice e))(hs:ye P e=some sz)
  (hx:cZ x=some x') (hi:cZ i=some i') (hv:bK (fun _=>false) ak m.aj (.HL sz x' i')=.done v [] []):gj P w0 a.eval o m v []:=by
 have eN:=eQ hx hr;have Kf:=eQ hi hr;have run:∀ad len cap k (n:Nat),a.eval x=.slice (some ad) len cap->a.eval i=.int k (n:Int)->n<len->(execOp a.eval o).run P m.w=.ok (.value (.pointer (some (ad.add (n*sz))))) m.w:=by intro ad len cap k n h1 h2 h3;simp[execOp,ho,h1,h2,Instr.indexAt,asIntOf,run_underlying ht,Sl hs,h3]
 simp only[bK] at hv;split at hv
 .rename_i n es hn he;obtain⟨k,hk⟩:=zR hn Kf;rw[he] at eN;split at hv
  .rename_i el dI;split at hv
   .rename_i hlen;cases hv;have hc:dx m _ (a.eval x):=eN;generalize hb:a.eval x=b at hc;cases hc with
    |p hp=>
     generalize iF:(PV.sl es)=pv at hp;cases hp<;>first
      |cases iF
      |skip
     .simp at dI
     rename_i b' o' cap cA f iX l8 kA cH uz xP;have aw:n<es.length:=(aT.1 dI).1;have Xi:cA=sz:=by rw[<- MI cH dI];exact hlen
     subst Xi;refine .calm au (run _ _ _ k n hb hk aw) (nE ?_);rw[Addr.add_lit];refine .box b' (o'+n*cA) (fun j=>f (n*cA+j)) (fun h=>l8 ?_) (fun j z h=>?_) fun j z h=>?_
     .intro e0;cases el with
      |nil=>exact h rfl
      |cons c r=>have:=GU cH dI (j:=0) (by rw[<- hlen];simp);rw[e0] at this;simp at this
     .have hj:j<cA:=by rw[<- hlen];exact(aT.1 h).1
      rw[Gi];exact uz _ z (by rw[GU cH dI hj];exact h)
     have hj:j<cA:=by rw[<- hlen];exact(aT.1 h).1
     exact xP _ z (by rw[GU cH dI hj];exact h)
   cases hv
  cases hv
 .rename_i n id g z off len hn he;obtain⟨k,hk⟩:=zR hn Kf;rw[he] at eN;split at hv
  .rename_i aw;cases hv;have hc:dx m _ (a.eval x):=eN;generalize hb:a.eval x=b at hc;cases hc with
   |hsl ad cap hg hl hm h=>refine .calm au (run _ _ _ k n hb hk aw.1) (ch.one.2 (.dI _ hg fun s h1 h2=>?_));obtain⟨e1,e2,_⟩:=h s h1 h2;rw[e2 (.inr aa),Addr.add_lit,e1,aw.2];simp[ia]
  cases hv
 cases hv
theorem atE{t e:TypeId}{x i:Operand}{sz ln:Nat}{x' i':aS}{v:V}(ho:o.op=.indexAddr t x i)(ht:P.underlying t=some (.array ln e))(hs:ye P e=some sz)
  (hx:cZ x=some x') (hi:cZ i=some i') (hv:bK (fun _=>false) ak m.aj (.IT ln sz x' i')=.done v [] []):gj P w0 a.eval o m v []:=by
 have eN:=eQ hx hr;have Kf:=eQ hi hr;have run:∀ad k (n:Nat),a.eval x=.pointer (some ad)->a.eval i=.int k (n:Int)->n<ln->(execOp a.eval o).run P m.w=.ok (.value (.pointer (some (ad.add (n*sz))))) m.w:=by intro ad k n h1 h2 h3;simp[execOp,ho,h1,h2,Instr.indexAt,asIntOf,run_underlying ht,Sl hs,h3,Instr.sureAddr]
 simp only[bK] at hv;split at hv
 .rename_i n id g off hn he;obtain⟨k,hk⟩:=zR hn Kf;rw[he] at eN;split at hv
  .rename_i aw;cases hv;have hc:dx m _ (a.eval x):=eN;generalize hb:a.eval x=b at hc;cases hc with
   |aZ ad hg h=>exact .calm au (run _ k n hb hk aw) (ch.one.2 (.aZ _ hg fun h1 h2=>by rw[h h1 h2,Addr.add_lit]))
  cases hv
 .rename_i n id g j off hn he;obtain⟨k,hk⟩:=zR hn Kf;rw[he] at eN;split at hv
  .rename_i aw;cases hv;have hc:dx m _ (a.eval x):=eN;generalize hb:a.eval x=b at hc;cases hc with
   |dI ad hg h=>exact .calm au (run _ k n hb hk aw) (ch.one.2 (.dI _ hg fun s h1 h2=>by rw[h s h1 h2,Addr.add_lit,Gi]))
  cases hv
 .rename_i n cs hn he;obtain⟨k,hk⟩:=zR hn Kf;rw[he] at eN;split at hv
  .rename_i aw;cases hv;have hc:dx m _ (a.eval x):=eN;generalize hb:a.eval x=b at hc;cases hc with
   |p hp=>cases hp with
    |box b' o' f' l8 jw mR=>refine .calm au (run _ k n hb hk aw) (nE ?_);rw[Addr.add_lit];refine .box b' (o'+n*sz) (fun j=>f' (n*sz+j)) (fun h=>l8 fun e=>h (by simp[e])) (fun j z h=>?_) fun j z h=>mR _ z (by simpa using h);rw[Gi];exact jw _ z (by simpa using h)
  cases hv
 cases hv
theorem agK{t:TypeId}{k:w_}(hk:ss P t=some k){cs:f_}{arr:Array Value}(hc:dJ m cs arr.toList){off:Nat}{x:V}(hx:qS k (cs.drop off)=some x):
  ∃y,(part t arr off).run P m.w=.ok y m.w/\ch m x y:=by
 have _u0:=au;have _u1:=hr;have hl:=hc.1;simp at hl;cases k with
 |none=>
  obtain⟨h1,h2⟩:=ahv hk m.w;cases hd:cs.drop off with
  |nil=>simp[hd,qS] at hx
  |cons c r=>
   simp[hd,qS] at hx;subst hx;have dB:cs[off]?=some c:=by
    have:=congrArg (·[0]?) hd
    simpa using this
   have aw:off<arr.size:=by rw[hl];exact(aT.1 dB).1
   refine⟨arr[off],by simp[part,h1,aw],ch.one.2 (hc.2 off c _ dB (by simp[aw]))⟩
 |some n=>
  obtain⟨h1,h2⟩:=ahw hk m.w;simp only[qS] at hx;split at hx
  .rename_i hn;cases hx;simp at hn;refine⟨.agg (arr.extract off (off+n)),by simp[part,h1,h2],ch.agg.2 ⟨_,rfl,by simp;omega,fun j x u p q=>?_⟩⟩;rw[mI] at p;split at p
   .rename_i hj;simp at p;refine hc.2 (off+j) x u p ?_;have aw:off+j<cs.length:=(aT.1 p).1;have he:(arr.extract off (off+n)).toList=(arr.toList.drop off).take n:=af;rw[he,mI,aD hj,zJ] at q;exact q
   cases p
  cases hx
theorem atU{t:TypeId}{x:Operand}{f:Nat}{fs:Array Field}{d:Field}{y:aS}{k:w_}{cs:f_}{v:V}(ho:o.op=.field t x f)(hs:P.underlying t=some (.struct fs))(hf:fs[f]?=some d)
  (hk:ss P d.type=some k) (hx:cZ x=some y) (hy:ev ak y=.agg cs) (hv:qS k (cs.drop d.offset)=some v):gj P w0 a.eval o m v []:=by
 have eN:=eQ hx hr;rw[hy] at eN;obtain⟨arr,e,hc⟩:=ch.agg.1 eN;obtain⟨z,h1,h2⟩:=agK (au:=au) (hr:=hr) hk hc hv;exact .calm au (by simp[execOp,ho,e,Instr.field,run_underlying hs,hf,asAgg,h1]) h2
theorem atF{t e:TypeId}{x i:Operand}{ln sz:Nat}{x' i':aS}{k:w_}{n:Nat}{cs:f_}{v:V}(ho:o.op=.index t x i)(ht:P.underlying t=some (.array ln e))(hs:ye P e=some sz)
  (hk:ss P e=some k) (hx:cZ x=some x') (hi:cZ i=some i') (hn:qx (ev ak i')=some n) (aw:n<ln) (hy:ev ak x'=.agg cs) (hv:qS k (cs.drop (n*sz))=some v):gj P w0 a.eval o m v []:=by
 have eN:=eQ hx hr;obtain⟨kk,wG⟩:=zR hn (eQ hi hr);rw[hy] at eN;obtain⟨arr,e',hc⟩:=ch.agg.1 eN;obtain⟨z,h1,h2⟩:=agK (au:=au) (hr:=hr) hk hc hv;exact .calm au (by simp[execOp,ho,e',wG,Instr.index,asIntOf,run_underlying ht,Sl hs,aw,h1]) h2
theorem aub{t:TypeId}{x i:Operand}{x' i':aS}{n:Nat}{s:ByteArray}{b:UInt8}(ho:o.op=.index t x i)(ht:P.underlying t=some .string)
  (hx:cZ x=some x') (hi:cZ i=some i') (hn:qx (ev ak i')=some n) (hy:ev ak x'=.one (.p (.str s))) (hb:s[n]?=some b):gj P w0 a.eval o m (.one (.p (.int .u8 b.toNat))) []:=by
 have eN:=eQ hx hr;obtain⟨kk,wG⟩:=zR hn (eQ hi hr);rw[hy] at eN;exact .calm au (by simp[execOp,ho,N7 eN,wG,Instr.index,asIntOf,run_underlying ht,hb]) (nE (.int _ _))
end
end Go.Abs
namespace Go.Abs
variable {P:Program} {w0:World}
theorem aku{op:BinOp}{t:TypeId}{k k':IntKind}{x y:Int}{v:PV}(w:World)(hk:k=k'\/op=.shl\/op=.shr)(h:uj op k x y=some v):
  ∃u,(binOp op t (.int k x) (.int k' y)).run P w=.ok u w/\ ∀own,cF w own v u:=by
 by_cases hs:op=.shl\/op=.shr
 .rcases hs with rfl|rfl
  .simp only[uj] at h;split at h
   .cases h
   rename_i hy;cases h;exact⟨_,by simp[binOp,Op.shift,hy],fun own=>.int _ _⟩
  simp only[uj] at h;split at h
  .cases h
  rename_i hy;cases h;exact⟨_,by simp[binOp,Op.shift,hy],fun own=>.int _ _⟩
 have wG:k=k':=by
  rcases hk with h|h
  .exact h
  exact(hs h).elim
 subst wG;cases op<;>simp only[uj] at h<;>first
  |cases h
  |skip
 all_goals first
  |exact(hs (.inl rfl)).elim
  |exact(hs (.inr rfl)).elim
  |(exact⟨_,by simp[binOp,Op.intArith,Op.intCmp,Op.intBits],fun own=>.int _ _⟩)
  |(exact⟨_,by simp[binOp,Op.intArith,Op.intCmp],fun own=>.bool _⟩)
  |(split at h
    .cases h
    rename_i hy;cases h;exact⟨_,by simp[binOp,Op.intDiv,hy],fun own=>.int _ _⟩)
theorem akw{op:BinOp}{t:TypeId}{x y:ByteArray}{v:PV}(w:World)(h:Jd op x y=some v):
  ∃u,(binOp op t (.string x) (.string y)).run P w=.ok u w/\ ∀own,cF w own v u:=by
 cases op<;>simp only[Jd] at h<;>first
  |cases h
  |skip
 all_goals first
  |exact⟨_,by simp[binOp,Op.stringOp],fun own=>.bool _⟩
  |(split at h
    .rename_i hl;cases h;refine⟨.string (x++y),?_,fun own=>.str _⟩;have:¬((x.size:Int)+(y.size:Int)>9223372036854775807):=aa;simp[binOp,Op.stringOp,this]
    cases h)
section
variable {m:Mem} {ak:Env} {a:Act} {o:Oper} (au:Ok w0 m) (hr:jC m ak a.tmps)
include au hr
theorem atJ{op:BinOp}{t ty:TypeId}{x y:Operand}{x' y':aS}{v:V}(ho:o.op=.binOp op t x y ty)(hx:cZ x=some x')(hy:cZ y=some y')
  (hv:rT op (ev ak x') (ev ak y')=some v):gj P w0 a.eval o m v []:=by
 have h1:=eQ hx hr;have h2:=eQ hy hr;unfold rT at hv;split at hv
 .rename_i k p k' q e1 e2;rw[e1] at h1;rw[e2] at h2;split at hv
  .rename_i hk;simp only[dS] at hv;obtain⟨u,hu,rfl⟩:=hv;obtain⟨z,hz,Kr⟩:=aku (P:=P) (t:=t) m.w hk hu;refine .calm au ?_ (nE (Kr _));have hg:(eqGuard op t x y (.int k p) (.int k' q)).run P m.w=.ok () m.w:=by cases op<;>simp[eqGuard]
   simp[execOp,ho,DI h1,DI h2,hg,hz]
  cases hv
 .rename_i p q e1 e2;rw[e1] at h1;rw[e2] at h2;simp only[dS] at hv;obtain⟨u,hu,rfl⟩:=hv;obtain⟨z,hz,Kr⟩:=akw (P:=P) (t:=t) m.w hu;refine .calm au ?_ (nE (Kr _));have hg:(eqGuard op t x y (.string p) (.string q)).run P m.w=.ok () m.w:=by cases op<;>simp[eqGuard]
  simp[execOp,ho,N7 h1,N7 h2,hg,hz]
 cases hv
theorem at7{t:TypeId}{x:Operand}{x':aS}{b:Bool}(ho:o.op=.unOp .not t x)(hx:cZ x=some x')(hb:ev ak x'=.one (.p (.bool b))):gj P w0 a.eval o m (.one (.p (.bool (!b)))) []:=by have h1:=eQ hx hr;rw[hb] at h1;exact .calm au (by simp[execOp,ho,FI h1,Op.unary]) (nE (.bool _))
theorem at5{t:TypeId}{x:Operand}{x':aS}{k:IntKind}{n:Int}(ho:o.op=.unOp .neg t x)(hx:cZ x=some x')(hb:ev ak x'=.one (.p (.int k n))):gj P w0 a.eval o m (.one (.p (.int k (k.wrap (0-n))))) []:=by have h1:=eQ hx hr;rw[hb] at h1;exact .calm au (by simp[execOp,ho,DI h1,Op.unary,Op.intArith]) (nE (.int _ _))
theorem atQ{s d:TypeId}{x:Operand}{x':aS}{ks k k0:IntKind}{n:Int}(ho:o.op=.convert s d x)(hs:P.underlying s=some (.int ks))(hd:P.underlying d=some (.int k))(hx:cZ x=some x')
  (hb:ev ak x'=.one (.p (.int k0 n))):gj P w0 a.eval o m (.one (.p (.int k (k.wrap n)))) []:=by
 have h1:=eQ hx hr;rw[hb] at h1;exact .calm au (by simp[execOp,ho,DI h1,convert,run_underlying hs,run_underlying hd,Conv.intToInt]) (nE (.int _ _))
theorem agB:∀ {xs:List Operand} {ys:o_} {cs:f_},qZ xs=some ys->wV ak ys=some cs->dJ m cs (xs.map a.eval):=by
 have _u0:=au;intro xs
 induction xs with
 |nil=>intro ys cs h1 h2;simp[qZ] at h1;subst h1;simp[wV] at h2;subst h2;exact⟨rfl,fun j x u p=>by simp at p⟩
 |cons x r ih=>
  intro ys cs h1 h2;simp only[qZ] at h1;split at h1
  .rename_i y ys' e1 e2;cases h1;simp only[wV] at h2;split at h2
   .rename_i c q e3 e4;cases h2;obtain⟨hl,xP⟩:=ih e2 e4;refine⟨by simpa using hl,fun j z u p q=>?_⟩;cases j with
    |zero=>simp at p q;subst p q;have:=eQ e1 hr;rw[e3] at this;exact this
    |succ j=>simp at p q;exact xP j z u p (by simpa using q)
   cases h2
  cases h1
theorem at1{f:FuncId}{x y:Array Operand}{x' y':o_}{cs ds:f_}(ho:o.op=.makeFunc (.func f) x y)(hx:qZ x.toList=some x')(hy:qZ y.toList=some y')
  (hc:wV ak x'=some cs) (hd:wV ak y'=some ds):gj P w0 a.eval o m (.one (.hfn f cs ds)) []:=by
 have h1:=agB (au:=au) (hr:=hr) hx hc;have h2:=agB (au:=au) (hr:=hr) hy hd;refine .calm (x:=.func (.func f) (x.map a.eval) (y.map a.eval)) au (by simp[execOp,ho,Instr.makeFunc]) (ch.one.2 (.hfn _ _ ?_ ?_ ?_ ?_))
 .have:=h1.1;simpa using this
 .have:=h2.1;simpa using this
 .intro j z u p q;exact h1.2 j z u p (by rw[<- Array.toList_map,Array.getElem?_toList];exact q)
 intro j z u p q;exact h2.2 j z u p (by rw[<- Array.toList_map,Array.getElem?_toList];exact q)
theorem atS{x:Operand}{i:Nat}{x':aS}{vs:e_}{v:V}(ho:o.op=.extract x i)(hx:cZ x=some x')(he:ev ak x'=.tup vs)(hv:vs[i]?=some v):gj P w0 a.eval o m v []:=by
 have h1:=eQ hx hr;rw[he] at h1;obtain⟨arr,e,hl,hc⟩:=h1;have aw:i<arr.size:=by rw[hl];exact(aT.1 hv).1
 exact .calm (x:=arr[i]) au (by simp[execOp,ho,e,Instr.extract,aw]) (.of1 (hc i v _ hv (by simp[aw])))
theorem afH{x:V}{v:Value}{n:Nat}(h:zi x=some n)(hv:ch m x v):∃ad cap,v=.slice ad n cap/\n<=cap/\cap<=maxLen:=by
 have _u0:=au;have _u1:=hr;unfold zi at h;split at h
 .cases h;exact⟨none,0,QU hv,bR _,bG _⟩
 .cases h;obtain⟨hp⟩:dx m _ v:=hv;rename_i es;generalize iF:(PV.sl es)=pv at hp;cases hp<;>cases iF
  .exact⟨_,_,rfl,bG _,by assumption⟩
  exact⟨_,_,rfl,by assumption,by assumption⟩
 .cases h;have hc:dx m _ v:=hv;cases hc with
  |hsl ad cap hg hl hm h=>exact⟨_,_,rfl,hl,hm⟩
 cases h
theorem atW{c:Call}{x:Operand}{x':aS}{t e:TypeId}{n:Nat}(ho:o.op=.call c)(hc:c.callee=.builtin .len)(has:c.args= #[x])(kr:c.argTypes[0]?=some t)(ht:P.underlying t=some (.slice e))
  (hx:cZ x=some x') (hn:zi (ev ak x')=some n):gj P w0 a.eval o m (.one (.p (.int .i64 n))) []:=by
 obtain⟨ad,cap,h1,_,_⟩:=afH (au:=au) (hr:=hr) hn (eQ hx hr);refine .calm au ?_ (nE (.int _ _));simp[execOp,ho,resolve,hc,has,invoke,builtin,Builtin.len_,kr,h1,run_underlying ht,goInt]
theorem auc{c:Call}{x:Operand}{x':aS}{t:TypeId}{s:ByteArray}(ho:o.op=.call c)(hc:c.callee=.builtin .len)(has:c.args= #[x])(kr:c.argTypes[0]?=some t)(ht:P.underlying t=some .string)
  (hx:cZ x=some x') (hn:ev ak x'=.one (.p (.str s))):gj P w0 a.eval o m (.one (.p (.int .i64 s.size))) []:=by
 have h1:=eQ hx hr;rw[hn] at h1;refine .calm au ?_ (nE (.int _ _));simp[execOp,ho,resolve,hc,has,invoke,builtin,Builtin.len_,kr,N7 h1,run_underlying ht,goInt]
theorem atZ{c:Call}{x y:Operand}{x' y':aS}{k k':IntKind}{p q:Int}(ho:o.op=.call c)(hc:c.callee=.builtin .max)(has:c.args= #[x,y])
  (hx:cZ x=some x') (hy:cZ y=some y') (h1:ev ak x'=.one (.p (.int k p))) (h2:ev ak y'=.one (.p (.int k' q))):gj P w0 a.eval o m (.one (.p (.int k (if q>p then q else p)))) []:=by
 have g1:=eQ hx hr;have g2:=eQ hy hr;rw[h1] at g1;rw[h2] at g2;refine .calm au ?_ (nE (.int _ _));simp[execOp,ho,resolve,hc,has,invoke,builtin,Builtin.max_,Builtin.max2,DI g1,DI g2]
theorem at0{c:Call}{x y:Operand}{x' y':aS}{k k':IntKind}{p q:Int}(ho:o.op=.call c)(hc:c.callee=.builtin .min)(has:c.args= #[x,y])
  (hx:cZ x=some x') (hy:cZ y=some y') (h1:ev ak x'=.one (.p (.int k p))) (h2:ev ak y'=.one (.p (.int k' q))):gj P w0 a.eval o m (.one (.p (.int k (if q<p then q else p)))) []:=by
 have g1:=eQ hx hr;have g2:=eQ hy hr;rw[h1] at g1;rw[h2] at g2;refine .calm au ?_ (nE (.int _ _));simp[execOp,ho,resolve,hc,has,invoke,builtin,Builtin.min_,Builtin.min2,DI g1,DI g2]
end
end Go.Abs
namespace Go.Abs
variable {P:Program} {w0:World}
section
variable{sz:Nat}
theorem ajE:∀(u:k_) (aj:aB) (id:Nat),(app u aj id=aj id/\ ∀e∈u,e.1≠id)\/ ∃e∈u,e.1=id/\app u aj id=e.2:=by
 intro u
 induction u with
 |nil=>intro aj id;exact .inl ⟨rfl,fun e h=>by simp at h⟩
 |cons x r ih=>
  intro aj id;obtain⟨i,o⟩:=x;simp only[app];rcases ih (dU aj i o) id with ⟨h1,h2⟩|⟨e,he,h1,h2⟩
  .by_cases hi:id=i
   .exact .inr ⟨(i,o),af,hi.symm,by rw[h1];simp[aO,hi]⟩
   refine .inl ⟨by rw[h1];simp[aO,hi],fun e he=>?_⟩;rcases cD.1 he with rfl|he
   .exact fun h=>hi h.symm
   exact h2 e he
  exact .inr ⟨e,by simp[he],h1,h2⟩
theorem Jk{α β γ:Type}{f:α->Option (β×a_)}{R:α->γ->Prop}{T:β->γ->Prop}{fy:a_->Prop}(Nn:∀a b,fy (a++b)->fy a/\fy b)
  (hf:∀a b r v,f a=some (b,r)->R a v->fy r->T b v):∀ {xs:List α} {ys:List β} {r:a_} {vs:List γ},collect f xs=some (ys,r)->fy r->
  (vs.length=xs.length/\ ∀(j:Nat) (x:α) (u:γ),xs[j]?=some x->vs[j]?=some u->R x u)->(vs.length=ys.length/\ ∀(j:Nat) (x:β) (u:γ),ys[j]?=some x->vs[j]?=some u->T x u):=by
 intro xs
 induction xs with
 |nil=>intro ys r vs h _ hr;simp[collect] at h;obtain⟨rfl,rfl⟩:=h;exact⟨hr.1,fun j x u a=>by simp at a⟩
 |cons x t ih=>
  intro ys r vs h hg hr;simp only[collect] at h;split at h
  .rename_i b p bs q e1 e2;cases h;obtain⟨g1,g2⟩:=Nn _ _ hg;cases vs with
   |nil=>simp at hr
   |cons v us=>
    obtain⟨hl,hh⟩:=ih (vs:=us) e2 g2 ⟨by simpa using hr.1,fun j x u a b=>hr.2 (j+1) x u (by simpa using a) (by simpa using b)⟩;refine⟨by simp[hl],fun j z u a b=>?_⟩;cases j with
    |zero=>simp at a b;subst a b;exact hf _ _ _ _ e1 (hr.2 0 x v rfl rfl) g1
    |succ j=>simp at a b;exact hh j z u a b
  cases h
def qW(m:Mem)(own:Nat->Prop)(r:a_):Prop:=(∀b,own b->m.own b)/\ ∀id∈r,¬own (m.σ id)
theorem qW.app{m:Mem}{own:Nat->Prop}{a b:a_}(h:qW m own (a++b)):qW m own a/\qW m own b:=
 ⟨⟨h.1,fun id hi=>h.2 id (by simp[hi])⟩,⟨h.1,fun id hi=>h.2 id (by simp[hi])⟩⟩
theorem cF.less{w:World}{own AX:Nat->Prop}(h:∀b,AX b->own b){x:PV}{v:Value}(hr:cF w own x v):cF w AX x v:=hr.mono fun c _ hn=>⟨rfl,fun ho=>hn (h c ho)⟩
theorem dD.less{w:World}{own AX:Nat->Prop}(h:∀b,AX b->own b){x:b_}{v:List Value}(hr:dD w own x v):dD w AX x v:=⟨hr.1,fun j x u a b=>(hr.2 j x u a b).less h⟩
theorem af5{α:Type}{xs:List α}{R:α->Value->Prop}{vs:List Value}(h:Pw R xs vs):∃f:Nat->Value,∀(j:Nat) (x:α),xs[j]?=some x->vs[j]?=some (f j)/\R x (f j):=by
 refine⟨fun j=>vs.getD j undef,fun j x hx=>?_⟩;have aw:j<vs.length:=by rw[h.1];exact(aT.1 hx).1
 have:vs[j]?=some (vs.getD j undef):=by simp[List.getD,rL aw]
 exact⟨this,h.2 j x _ hx this⟩
theorem XU{w:World}{own:Nat->Prop}{b o:Nat}{cur:Array Value}{ty:TypeId}{fz:Nat×Nat}{ps:b_}(hh:w.heap[b]?=some (.cells cur ty fz))(hp:Pw (cF w own) ps (cur.toList.drop o |>.take ps.length))
  (ho:ps≠[]-> ¬own b):cF w own (.box ps) (.pointer (some ⟨b,o,none⟩)):=by
 obtain⟨f,hf⟩:=af5 hp;refine .box b o f ho (fun j x hx=>?_) fun j x hx=>(hf j x hx).2;have h1:=(hf j x hx).1;rw[mI] at h1;split at h1
 .rw[EB hh];simpa using h1
 cases h1
theorem af6{w:World}{own:Nat->Prop}{b o cap sz:Nat}{cur:Array Value}{ty:TypeId}{fz:Nat×Nat}{es:s_}(hh:w.heap[b]?=some (.cells cur ty fz))(cH:∀e∈es,e.length=sz)
  (hl:es.length<=cap) (hm:cap<=maxLen) (hp:Pw (cF w own) es.flatten ((cur.toList.drop o).take (es.length*sz))) (ho:¬own b):cF w own (.sl es) (.slice (some ⟨b,o,none⟩) es.length cap):=by
 obtain⟨f,hf⟩:=af5 hp;refine .sl b o cap sz f (fun _=>ho) hl hm cH (fun j x hx=>?_) fun j x hx=>(hf j x hx).2;have h1:=(hf j x hx).1;rw[mI] at h1;split at h1
 .rw[EB hh];simpa using h1
 cases h1
theorem PZ{α:Type}:∀ {es:List (List α)},(∀e∈es,e.length=sz)->∀(n:Nat),(es.drop n).flatten=es.flatten.drop (n*sz):=by
 intro es
 induction es with
 |nil=>intro _ n;simp
 |cons e r ih=>
  intro h n;cases n with
  |zero=>simp
  |succ n=>simp only[List.drop_succ_cons,mX];have h1:=h e af;rw[ih (fun x hx=>h x (by simp[hx])),List.drop_append,List.drop_of_length_le (by rw[h1,ia];omega:e.length<=(n+1)*sz),fZ];congr 1;rw[h1,ia];omega
theorem JF{α:Type}:∀ {es:List (List α)},(∀e∈es,e.length=sz)->∀(n:Nat),(es.take n).flatten=es.flatten.take (n*sz):=by
 intro es
 induction es with
 |nil=>intro _ n;simp
 |cons e r ih=>
  intro h n;cases n with
  |zero=>simp
  |succ n=>simp only[List.take_succ_cons,mX];have h1:=h e af;rw[ih (fun x hx=>h x (by simp[hx])),LI,iz (by rw[h1,ia];omega:e.length<=(n+1)*sz)];congr 1;congr 1;rw[h1,ia];omega
theorem F1{α:Type}{R:α->Value->Prop}{off len:Nat}{es:List (List α)}{cur:List Value}(cH:∀e∈es,e.length=sz)(h:Pw R es.flatten (cur.take (es.length*sz)))(hfit:off+len<=es.length):
  Pw R ((es.drop off).take len).flatten ((cur.drop (off*sz)).take (((es.drop off).take len).length*sz)):=by
 have NW:∀e∈es.drop off,e.length=sz:=fun e he=>cH e (xj he);have hlen:((es.drop off).take len).length=len:=by simp;omega
 rw[hlen,JF NW,PZ cH];have h1:=(h.drop (off*sz)).take (len*sz);have h2:((cur.take (es.length*sz)).drop (off*sz)).take (len*sz)=(cur.drop (off*sz)).take (len*sz):=by
  rw[List.drop_take,Gh];congr 1;have:off*sz+len*sz<=es.length*sz:=by rw[<- ia];exact mZ _ hfit
  omega
 rw[h2] at h1;exact h1
theorem Yn{α:Type}{R:α->Value->Prop}:∀ {ps:List (List α)} {cur:List Value},(∀e∈ps,e.length=sz)->ps.length*sz<=cur.length->
  (∀(j:Nat) (e:List α),ps[j]?=some e->Pw R e ((cur.drop (j*sz)).take sz))->Pw R ps.flatten (cur.take (ps.length*sz)):=by
 intro ps
 induction ps with
 |nil=>intro cur _ _ _;exact⟨af,fun j x u a=>by simp at a⟩
 |cons e r ih=>
  intro cur h hl hp;simp only[dC,ia,Nat.one_mul] at hl;have h0:=hp 0 e rfl;rw[Bf,List.drop_zero] at h0;have h1:=ih (cur:=cur.drop sz) (fun x hx=>h x (by simp[hx])) (by simp;omega) fun j x hx=>by have:=hp (j+1) x (by simpa using hx);rw[ia,Nat.one_mul] at this;rw[List.drop_drop,Nat.add_comm sz];exact this
  have h2:=h0.append h1;have h3:cur.take sz++(cur.drop sz).take (r.length*sz)=cur.take ((e::r).length*sz):=by rw[dC,ia,Nat.one_mul,Nat.add_comm,List.take_add]
  rw[h3] at h2;exact h2
theorem V8{α:Type}{R:α->Value->Prop}{i:Nat}{es:List (List α)}{e:List α}{cur:List Value}(cH:∀e∈es,e.length=sz)(h:Pw R es.flatten (cur.take (es.length*sz)))(he:es[i]?=some e):
  Pw R e ((cur.drop (i*sz)).take sz):=by
 have hi:i<es.length:=(aT.1 he).1;have h1:=F1 (off:=i) (len:=1) cH h aa;have h0:((es.drop i).take 1)=[e]:=by rw[List.drop_eq_getElem_cons hi];have:=(aT.1 he).2;simp[this]
 rw[h0] at h1
 simpa using h1
theorem TM{α β:Type}{f:α->Option (β×a_)}:∀ {xs:List α} {ys:List β} {r:a_},collect f xs=some (ys,r)->ys.length=xs.length:=by
 intro xs
 induction xs with
 |nil=>intro ys r h;simp[collect] at h;rw[h.1];rfl
 |cons x t ih=>
  intro ys r h;simp only[collect] at h;split at h
  .rename_i b p bs q e1 e2;cases h;simp[ih e2]
  cases h
theorem TL{α β:Type}{f:α->Option (β×a_)}:∀ {xs:List α} {ys:List β} {r:a_},collect f xs=some (ys,r)->∀ {j:Nat} {y:β},ys[j]?=some y->∃x q,xs[j]?=some x/\f x=some (y,q)/\ ∀i∈q,i∈r:=by
 intro xs
 induction xs with
 |nil=>intro ys r h j y hy;simp[collect] at h;rw[h.1] at hy;simp at hy
 |cons x t ih=>
  intro ys r h j y hy;simp only[collect] at h;split at h
  .rename_i b p bs q e1 e2;cases h;cases j with
   |zero=>simp at hy;subst hy;exact⟨x,p,rfl,e1,fun i hi=>by simp[hi]⟩
   |succ j=>simp at hy;obtain⟨x',q',h1,h2,h3⟩:=ih e2 hy;exact⟨x',q',by simpa using h1,h2,fun i hi=>by simp[h3 i hi]⟩
  cases h
theorem Ld{m:Mem}(au:Ok w0 m){own:Nat->Prop}:∀(n:Nat) {c:C} {x:PV} {r:a_} {v:Value},snap m.aj n c=some (x,r)->dx m c v->qW m own r->cF m.w own x v:=by
 intro n
 induction n with
 |zero=>intro c x r v h;simp[snap] at h
 |succ n ih=>
  intro c x r v h hr hs;have Qn:∀ {cs:f_} {ps:b_} {q:a_} {vs:List Value},collect (snap m.aj n) cs=some (ps,q)->qW m own q->Pw (dx m) cs vs->Pw (cF m.w own) ps vs:=fun h1 h2 h3=>Jk (R:=dx m) (T:=cF m.w own) (fy:=qW m own) (fun a b h=>h.app) (fun a b r v e1 e2 e3=>ih e1 e2 e3) h1 h2 h3
  have Qv:∀ {ps:b_} {vs:List Value},dD m.w m.own ps vs->Pw (cF m.w own) ps vs:=fun h=>dD.pw.1 (h.less hs.1);unfold snap at h;cases c with
  |p y=>simp at h;obtain⟨rfl,rfl⟩:=h;obtain⟨hp⟩:=hr;exact hp.norm.less hs.1
  |aZ id g off=>
   cases hr with
   |aZ a hg ha=>
    simp only at h;split at h
    .rename_i g' cs hb;split at h
     .rename_i jo;split at h
      .rename_i ps q hq;cases h;have bj:(m.aj id).2=some (.var cs):=by rw[hb]
       have ha:=ha (by rw[hb];exact jo) (by rw[bj];rfl);subst ha;obtain⟨cur,ty,hh,hc⟩:=au.obj id _ bj;have hp:=Qn hq ⟨hs.1,fun i hi=>hs.2 i (by simp[hi])⟩ (dJ.pw.1 hc);refine XU hh ?_ fun _=>hs.2 id af;have h1:=hp.drop off;have h2:(cur.toList.drop off).take (ps.drop off).length=cur.toList.drop off:=iz (by have:=h1.1;omega);rw[h2];exact h1
      cases h
     cases h
    .rename_i g' ps hb;split at h
     .rename_i jo;cases h;have bj:(m.aj id).2=some (.fvar ps):=by rw[hb]
      have ha:=ha (by rw[hb];exact jo) (by rw[bj];rfl);subst ha;obtain⟨cur,ty,fz,hh,hc,_⟩:=au.obj id _ bj;refine XU hh ?_ fun _=>hs.2 id af;have h1:=(Qv hc).drop off;have h2:(cur.toList.drop off).take (ps.drop off).length=cur.toList.drop off:=iz (by have:=h1.1;omega);rw[h2];exact h1
     cases h
    cases h
  |dI id g i off=>
   cases hr with
   |dI a hg ha=>
    have key:∀(ty sz:Nat) (es:s_) (e:b_) (cur:Array Value) (fz:Nat×Nat),m.w.heap[m.σ id]?=some (.cells cur ty fz)->(∀e∈es,e.length=sz)->es.length*sz<=cur.size->
      dD m.w m.own es.flatten (cur.toList.take (es.length*sz))->es[i]?=some e->a=⟨m.σ id,i*sz+off,none⟩-> ¬own (m.σ id)->cF m.w own (.box (e.drop off)) (.pointer (some a)):=by
     intro ty sz es e cur fz hh cH hlen dR he xF dM;subst xF;have dI:=MI cH he;have hi:i<es.length:=(aT.1 he).1;have tO:(i+1)*sz<=es.length*sz:=mZ _ hi;have h1:=(F1 (off:=i) (len:=1) cH (Qv dR) aa).drop off;have h0:((es.drop i).take 1)=[e]:=by rw[List.drop_eq_getElem_cons hi];have:=(aT.1 he).2;simp[this]
     rw[h0] at h1;simp only[mX,IE,jA,dC,fe,js,Nat.one_mul] at h1;refine XU hh ?_ fun _=>dM;have h2:(cur.toList.drop (i*sz+off)).take (e.drop off).length=(((cur.toList.drop (i*sz)).take sz).drop off):=by rw[List.drop_take,List.drop_drop,lO,dI]
     rw[h2];exact h1
    simp only at h;split at h
    .rename_i g' ty sz es hb;split at h
     .rename_i jo;simp only[dS,lR] at h;obtain⟨e,he,rfl,rfl⟩:=h;have bj:(m.aj id).2=some (.arr ty sz es):=by rw[hb]
      obtain⟨cur,hh,qI,cH,hl,hm,dB,dR⟩:=au.obj id _ bj;exact key ty sz es e cur _ hh cH (by rw[dB];exact mZ _ hl) dR he (ha sz (by rw[hb];exact jo) (by rw[hb];rfl)) (hs.2 id af)
     cases h
    .rename_i g' ty sz es hb;split at h
     .rename_i jo;simp only[dS,lR] at h;obtain⟨e,he,rfl,rfl⟩:=h;have bj:(m.aj id).2=some (.qB ty sz es):=by rw[hb]
      obtain⟨cur,fz,hh,qI,cH,hl,hm,dB,dR,_⟩:=au.obj id _ bj;exact key ty sz es e cur _ hh cH (by rw[dB];exact mZ _ hl) dR he (ha sz (by rw[hb];exact jo) (by rw[hb];rfl)) (hs.2 id af)
     cases h
    cases h
  |hsl id g z off len=>
   cases hr with
   |hsl a cap hg hl hm ha=>
    have key:∀(ty sz:Nat) (es:s_) (cur:Array Value) (fz:Nat×Nat),m.w.heap[m.σ id]?=some (.cells cur ty fz)->(∀e∈es,e.length=sz)->Pw (cF m.w own) es.flatten (cur.toList.take (es.length*sz))->
      off+len<=es.length->(off=0\/0<len->a=⟨m.σ id,off*sz,none⟩)-> ¬own (m.σ id)->cF m.w own (.sl ((es.drop off).take len)) (.slice (some a) len cap):=by
     intro ty sz es cur fz hh cH dR hfit xF dM;by_cases hlen:len=0
     .subst hlen;simp only[List.take_zero];exact .zw _ _ (fun h=>by cases h) hm
     have:=xF (.inr aa);subst this;have hle:((es.drop off).take len).length=len:=by simp;omega
     have h1:=af6 (cap:=cap) (own:=own) (o:=off*sz) (es:=(es.drop off).take len) hh (sz:=sz) (fun e he=>cH e (xj (yl he))) aa hm (F1 cH dR hfit) dM;rw[hle] at h1;exact h1
    simp only at h;split at h
    .rename_i g' ty sz es hb;split at h
     .rename_i hc;cases h;have bj:(m.aj id).2=some (.arr ty sz es):=by rw[hb]
      obtain⟨cur,hh,qI,cH,kA,iX,dB,dR⟩:=au.obj id _ bj;exact key ty sz es cur _ hh cH (Qv dR) hc.2 (by obtain⟨_,h2,_⟩:=ha sz (by rw[hb];exact hc.1) (by rw[hb];rfl);rename_i e1 _;exact e1▸h2) (hs.2 id af)
     cases h
    .rename_i g' ty sz es hb;split at h
     .rename_i hc;cases h;have bj:(m.aj id).2=some (.qB ty sz es):=by rw[hb]
      obtain⟨cur,fz,hh,qI,cH,kA,iX,dB,dR,_⟩:=au.obj id _ bj;exact key ty sz es cur _ hh cH (Qv dR) hc.2 (by obtain⟨_,h2,_⟩:=ha sz (by rw[hb];exact hc.1) (by rw[hb];rfl);exact h2) (hs.2 id af)
     cases h
    .rename_i g' ty sz es hb;split at h
     .rename_i hc;split at h
      .rename_i ps q hq;cases h;have bj:(m.aj id).2=some (.ju ty sz es):=by rw[hb]
       obtain⟨cur,hh,qI,cH,kA,iX,dB,dR⟩:=au.obj id _ bj;have Xf:=F1 cH (dJ.pw.1 dR) hc.2;have NW:∀e∈(es.drop off).take len,e.length=sz:=fun e he=>cH e (xj (yl he));have hle:((es.drop off).take len).length=len:=by simp;omega
       have bY:ps.length=len:=by rw[TM hq,hle]
       have mv:len*sz<=(cur.toList.drop (off*sz)).length:=by
        simp;have h1:off*sz+len*sz<=es.length*sz:=by rw[<- ia];exact mZ _ hc.2
        have h2:es.length*sz<=m.κ id*sz:=mZ _ kA;omega
       have pZ:∀(j:Nat) (e:b_),ps[j]?=some e->Pw (cF m.w own) e (((cur.toList.drop (off*sz)).drop (j*sz)).take sz):=by intro j e he;obtain⟨x,q',h1,h2,h3⟩:=TL hq he;exact Qn h2 ⟨hs.1,fun i hi=>hs.2 i (by simp[h3 i hi])⟩ (V8 NW Xf h1)
       have Fu:∀e∈ps,e.length=sz:=by
        intro e he;obtain⟨j,hj⟩:=iJ he;have:=(pZ j e hj).1;have ow:j<len:=by rw[<- bY];exact(aT.1 hj).1
        have h1:(j+1)*sz<=len*sz:=mZ _ ow;rw[ia] at h1;simp at this mv;omega
       by_cases hlen:len=0
       .have:ps=[]:=List.eq_nil_of_length_eq_zero aa;subst this;subst hlen;exact .zw _ _ (fun h=>by cases h) hm
       obtain⟨_,h2,_⟩:=ha sz (by rw[hb];exact hc.1) (by rw[hb];rfl);rename_i e1 _;have xF:=h2 (.inr aa);subst xF;have uA:=af6 (cap:=cap) (own:=own) (o:=off*sz) hh Fu aa hm (Yn Fu (by rw[bY];exact mv) pZ) (hs.2 id af);rw[bY] at uA;exact uA
      cases h
     cases h
    cases h
  |kU id g=>
   cases hr with
   |kU r' hg ha=>
    have key:∀(ag:Bool) (es:t_) (ents:Array MapEntry) (clock:Nat),m.w.heap[m.σ id]?=some (.map ents clock)->ents.size=es.length->
      (∀(i:Nat) (q:PV) (v:b_) (e:MapEntry),es[i]?=some (q,v)->ents[i]?=some e->cF m.w m.own q e.key/\ ∃g:Array Value,(ag=true->e.val=.agg g)/\(ag=false-> #[e.val]=g)/\dD m.w m.own v g.toList)->
      ¬own (m.σ id)->cF m.w own (.mp ag es) (.map (some (m.σ id))):=by
     intro ag es ents clock hh hl hc dM;have hch:∃G:Nat->Array Value,∀(i:Nat) (q:PV) (v:b_) (e:MapEntry),es[i]?=some (q,v)->ents[i]?=some e->(ag=true->e.val=.agg (G i))/\(ag=false-> #[e.val]=G i)/\dD m.w m.own v (G i).toList:=by
      refine⟨fun i=>match ents[i]? with|some e=>(match e.val with| .agg g=>if ag then g else #[e.val]|v=> #[v])|none=> #[],fun i q v e h1 h2=>?_⟩;obtain⟨_,g,g1,g2,g3⟩:=hc i q v e h1 h2;simp only[h2];cases ag with
      |true=>have:=g1 rfl;simp[this];exact g3
      |false=>
       have:=g2 rfl;subst this;refine⟨(fun h=>by cases h),(fun _=>?_),?_⟩
       .cases e.val<;>rfl
       cases hv:e.val<;>simp only[hv] at g3<;>exact g3
     obtain⟨G,hG⟩:=hch;refine .mp (m.σ id) ents clock G dM hh hl (fun i q v e h1 h2=>((hc i q v e h1 h2).1).less hs.1) (fun i q v e h1 h2=>?_) fun i q v j x u h1 h2 h3=>?_
     .obtain⟨a1,a2,a3⟩:=hG i q v e h1 h2;exact⟨by have:=a3.1;simpa using this,a1,a2⟩
     have aw:i<ents.size:=by rw[hl];exact(aT.1 h1).1
     obtain⟨a1,a2,a3⟩:=hG i q v _ h1 (Array.getElem?_eq_getElem aw);exact(a3.2 j x u h2 (by rw[Array.getElem?_toList];exact h3)).less hs.1
    simp only at h;split at h
    .rename_i g' ag es hb;split at h
     .rename_i jo;cases h;have bj:(m.aj id).2=some (.map ag es):=by rw[hb]
      have ha:=ha (by rw[hb];exact jo) (by rw[bj];rfl);subst ha;obtain⟨ents,clock,hh,hl,hc⟩:=au.obj id _ bj;exact key ag es ents clock hh hl hc (hs.2 id af)
     cases h
    .rename_i g' ag es hb;split at h
     .rename_i jo;cases h;have bj:(m.aj id).2=some (.fmap ag es):=by rw[hb]
      have ha:=ha (by rw[hb];exact jo) (by rw[bj];rfl);subst ha;obtain⟨ents,clock,hh,hl,hc,_⟩:=au.obj id _ bj;exact key ag es ents clock hh hl hc (hs.2 id af)
     cases h
    cases h
  |hfn f a b=>
   cases hr with
   |hfn A B hA hB wK sa=>
    simp only at h;split at h
    .rename_i xa ra xb rb h1 h2;cases h;obtain⟨s1,s2⟩:=hs.app;have p1:=Qn (vs:=A.toList) h1 s1 ⟨by simpa using hA,fun j x u p q=>wK j x u p (by rw[<- Array.getElem?_toList];exact q)⟩;have p2:=Qn (vs:=B.toList) h2 s2 ⟨by simpa using hB,fun j x u p q=>sa j x u p (by rw[<- Array.getElem?_toList];exact q)⟩;exact .fn A B (by have:=p1.1;simpa using this) (by have:=p2.1;simpa using this) (fun j x u p q=>p1.2 j x u p (by rw[Array.getElem?_toList];exact q)) fun j x u p q=>p2.2 j x u p (by rw[Array.getElem?_toList];exact q)
    cases h
end
end Go.Abs
namespace Go.Abs
variable {P:Program} {w0:World}
theorem anj{aj:aB}{all:a_}:∀ {l:a_} {u:k_},vp aj all l=some u->
  (∀e∈u,e.1∈l/\ ∃x,yC aj all e.1=some x/\e∈x)/\ ∀id∈l,∃x,yC aj all id=some x/\ ∀e∈x,e∈u:=by
 intro l
 induction l with
 |nil=>intro u h;simp[vp] at h;subst h;exact⟨fun e h=>by simp at h,fun id h=>by simp at h⟩
 |cons i r ih=>
  intro u h;simp only[vp] at h;split at h
  .rename_i a b h1 h2;cases h;obtain⟨g1,g2⟩:=ih h2;have adZ:∀e∈a,e.1=i:=by
    intro e he;unfold yC at h1;split at h1<;>first
     |(cases h1;simp at he;subst he;rfl)
     |(split at h1
       .split at h1
        .cases h1;simp at he;subst he;rfl
        cases h1
       cases h1)
     |(cases h1;simp at he)
     |cases h1
   refine⟨fun e he=>?_,fun id hid=>?_⟩
   .rcases eK.1 he with he|he
    .exact⟨by simp[adZ e he],a,by rw[adZ e he];exact h1,he⟩
    obtain⟨k1,k2⟩:=g1 e he;exact⟨by simp[k1],k2⟩
   rcases cD.1 hid with rfl|hid
   .exact⟨a,h1,fun e he=>by simp[he]⟩
   obtain⟨x,k1,k2⟩:=g2 id hid;exact⟨x,k1,fun e he=>by simp[k2 e he]⟩
  cases h
def IJ(aj:aB)(all:a_):Ob->Ob->Prop
 | .var cs,.fvar ps=>∃r,collect (snap aj fE) cs=some (ps,r)/\ ∀i∈r,i∈all
 | .arr ty sz es,.qB kL cA im=>kL=ty/\cA=sz/\im=es
 | .ju ty sz es,.qB kL cA ps=>kL=ty/\cA=sz/\ ∃r,collect (collect (snap aj fE)) es=some (ps,r)/\ ∀i∈r,i∈all
 | .map ag es,.fmap sG im=>sG=ag/\im=es
 |_,_=>False
theorem IJ.facts{aj:aB}{all:a_}{o o':Ob}(h:IJ aj all o o')(g:Nat):o.fX=true/\o'.fX=false/\lY (g,some o')=lY (g,some o):=by
 cases o<;>cases o'<;>simp only[IJ] at h<;>first
  |exact h.elim
  |exact⟨rfl,rfl,rfl⟩
  |exact⟨rfl,rfl,by simp[lY,h.2.1]⟩
theorem adk{aj:aB}{all:a_}{id:Nat}{x:k_}(h:yC aj all id=some x):
  (∃o,(aj id).2=some o/\o.fX=false/\x=[])\/ ∃o o',(aj id).2=some o/\IJ aj all o o'/\x=[(id,((aj id).1,some o'))]:=by
 unfold yC at h;split at h
 .rename_i g cs hb;split at h
  .rename_i ps r hc;split at h
   .rename_i dQ;cases h;refine .inr ⟨.var cs,.fvar ps,by rw[hb],⟨r,hc,fun i hi=>?_⟩,by rw[hb]⟩;have:=gO.1 dQ i hi
    simpa using this
   cases h
  cases h
 .rename_i g ty sz es hb;cases h;exact .inr ⟨.arr ty sz es,.qB ty sz es,by rw[hb],⟨rfl,rfl,rfl⟩,by rw[hb]⟩
 .rename_i g ty sz es hb;split at h
  .rename_i ps r hc;split at h
   .rename_i dQ;cases h;refine .inr ⟨.ju ty sz es,.qB ty sz ps,by rw[hb],⟨rfl,rfl,r,hc,fun i hi=>?_⟩,by rw[hb]⟩;have:=gO.1 dQ i hi
    simpa using this
   cases h
  cases h
 .rename_i g ag es hb;cases h;exact .inr ⟨.map ag es,.fmap ag es,by rw[hb],⟨rfl,rfl⟩,by rw[hb]⟩
 .cases h
 rename_i y n1 n2 n3 n4 n5;cases h;cases hb:aj id with
 |mk g o=>
  cases o with
  |none=>exact(n5 g hb).elim
  |some o=>
   refine .inl ⟨o,rfl,?_,rfl⟩;cases o with
   |var cs=>exact(n1 g cs hb).elim
   |arr ty sz es=>exact(n2 g ty sz es hb).elim
   |ju ty sz es=>exact(n3 g ty sz es hb).elim
   |map ag es=>exact(n4 g ag es hb).elim
   |_=>rfl
def Mem.with(m:Mem)(u:k_):Mem:={m with aj:=app u m.aj}
theorem xC{m:Mem}{ids:a_}{u:k_}(h:tJ m.aj ids=some u)(id:Nat):
  ((m.with u).aj id=m.aj id/\(id∈ids->∃o,(m.aj id).2=some o/\o.fX=false))\/
  (id∈ids/\ ∃o o',(m.aj id).2=some o/\IJ m.aj ids o o'/\(m.with u).aj id=((m.aj id).1,some o')):=by
 obtain⟨h1,h2⟩:=anj h;rcases ajE u m.aj id with ⟨e1,e2⟩|⟨e,he,e1,e2⟩
 .refine .inl ⟨e1,fun hid=>?_⟩;obtain⟨x,hx,HJ⟩:=h2 id hid;rcases adk hx with ⟨o,a,b,_⟩|⟨o,o',a,b,c⟩
  .exact⟨o,a,b⟩
  exact(e2 (id,(m.aj id).fst,some o') (HJ _ (by rw[c];simp)) rfl).elim
 obtain⟨k1,x,k2,k3⟩:=h1 e he;rw[e1] at k1 k2;rcases adk k2 with ⟨o,a,b,c⟩|⟨o,o',a,b,c⟩
 .rw[c] at k3;simp at k3
 rw[c] at k3;simp at k3;refine .inr ⟨k1,o,o',a,b,?_⟩;simp only[Mem.with];rw[e2,k3]
theorem Wh{m:Mem}{ids:a_}{u:k_}(h:tJ m.aj ids=some u){c:Nat}(hc:(m.with u).own c):m.own c:=by
 rcases hc with hc|⟨id,o,h1,h2,h3⟩
 .exact .inl hc
 rcases xC h id with ⟨e,_⟩|⟨_,p,q,a,b,e⟩
 .rw[e] at h1;exact .inr ⟨id,o,h1,h2,h3⟩
 rw[e] at h1;cases h1;rw[(b.facts 0).2.1] at h2;cases h2
theorem Wi{m:Mem}(au:Ok w0 m){ids:a_}{u:k_}(h:tJ m.aj ids=some u):qW m (m.with u).own ids:=by
 refine⟨fun b hb=>Wh h hb,fun id hid hc=>?_⟩;rcases xC h id with ⟨e,hn⟩|⟨_,o,o',a,b,e⟩
 .obtain⟨o,ho,hm⟩:=hn hid;exact(au.obj id o ho).calm hm (Wh h hc)
 rcases hc with hc|⟨fh,q,h1,h2,h3⟩
 .exact(au.ie id o a (b.facts 0).1).2 hc
 by_cases hi:fh=id
 .subst hi;rw[e] at h1;cases h1;rw[(b.facts 0).2.1] at h2;cases h2
 rcases xC h fh with ⟨e',_⟩|⟨_,p',q',a',b',e'⟩
 .rw[e'] at h1;exact hi (au.inj fh id q o h1 h2 a (b.facts 0).1 h3)
 rw[e'] at h1;cases h1;rw[(b'.facts 0).2.1] at h2;cases h2
theorem Wf{m:Mem}{ids:a_}{u:k_}(h:tJ m.aj ids=some u):Ev m (m.with u) where
 os:=rfl
 tape:=rfl
 output:=rfl
 size:=bR _
 keep _ _ _:=rfl
 fX c _ hc:=by
  obtain⟨id,o,h1,h2,h3⟩:=hc;rcases xC h id with ⟨e,_⟩|⟨_,p,q,a,b,e⟩
  .rw[e] at h1;exact⟨id,o,h1,h2,h3⟩
  rw[e] at h1;cases h1;rw[(b.facts 0).2.1] at h2;cases h2
 less c _ hn hc:=hn (Wh h hc)
 gen id:=by rcases xC h id with ⟨e,_⟩|⟨_,p,q,a,b,e⟩<;>rw[e]<;>exact bR _
 ref id he hs:=by
  rcases xC h id with ⟨e,_⟩|⟨_,p,q,a,b,e⟩
  .rw[e] at hs |-;exact⟨hs,rfl,rfl,rfl⟩
  rw[e] at hs |-;refine⟨by rw[a];rfl,rfl,rfl,?_⟩;have h1:m.aj id=((m.aj id).1,some p):=by rw[<- a]
  rw[(b.facts (m.aj id).1).2.2,<- h1]
theorem adl{m:Mem}(au:Ok w0 m){ids:a_}{u:k_}(h:tJ m.aj ids=some u):Ok w0 (m.with u) where
 os:=au.os
 tape:=au.tape
 output:=au.output
 size:=au.size
 base:=au.base
 obj id o ho:=by
  have eD:=Wf h;have qc:=Wi au h;rcases xC h id with ⟨e,_⟩|⟨hid,p,q,a,b,e⟩
  .rw[e] at ho;exact(au.obj id o ho).ev eD.zero rfl rfl rfl
  rw[e] at ho;cases ho;have dM:=qc.2 id hid;have QJ:∀r:a_,(∀i∈r,i∈ids)->qW m (m.with u).own r:=fun r hr=>⟨qc.1,fun i hi=>qc.2 i (hr i hi)⟩;have QG:=au.obj id p a;cases p<;>cases o<;>simp only[IJ] at b<;>first
   |exact b.elim
   |skip
  .obtain⟨r,hc,hr⟩:=b;obtain⟨cur,ty,hh,dB⟩:=QG;exact⟨cur,ty,(0,0),hh,dD.pw.2 (Jk (R:=dx m) (T:=cF m.w (m.with u).own) (fy:=qW m (m.with u).own) (fun a b h=>h.app) (fun a b r v e1 e2 e3=>Ld au _ e1 e2 e3) hc (QJ r hr) (dJ.pw.1 dB)),dM⟩
  .obtain⟨rfl,rfl,rfl⟩:=b;obtain⟨cur,hh,qI,cH,hl,hm,dB,dR⟩:=QG;exact⟨cur,(0,0),hh,qI,cH,hl,hm,dB,dR.less qc.1,dM⟩
  .obtain⟨rfl,rfl,r,hc,hr⟩:=b;obtain⟨cur,hh,qI,cH,hl,hm,dB,dR⟩:=QG;rename_i es _ sz ps;have bY:ps.length=es.length:=TM hc;have mv:ps.length*sz<=cur.toList.length:=by
    have h2:es.length*sz<=m.κ id*sz:=mZ _ hl;simp;rw[bY];omega
   have pZ:∀(j:Nat) (e:b_),ps[j]?=some e->Pw (cF m.w (m.with u).own) e ((cur.toList.drop (j*sz)).take sz):=by intro j e he;obtain⟨x,q',h1,h2,h3⟩:=TL hc he;exact Jk (R:=dx m) (T:=cF m.w (m.with u).own) (fy:=qW m (m.with u).own) (fun a b h=>h.app) (fun a b r v e1 e2 e3=>Ld au _ e1 e2 e3) h2 (QJ q' fun i hi=>hr i (h3 i hi)) (V8 cH (dJ.pw.1 dR) h1)
   have Fu:∀e∈ps,e.length=sz:=by intro e he;obtain⟨j,hj⟩:=iJ he;have:=(pZ j e hj).1;have ow:j<ps.length:=(aT.1 hj).1;have h1:(j+1)*sz<=ps.length*sz:=mZ _ ow;rw[ia] at h1;simp at this mv;omega
   exact⟨cur,(0,0),hh,qI,Fu,by rw[bY];exact hl,hm,dB,dD.pw.2 (Yn Fu mv pZ),dM⟩
  obtain⟨rfl,rfl⟩:=b;obtain⟨ents,clock,hh,hl,hc⟩:=QG;exact⟨ents,clock,hh,hl,fun i q v e h1 h2=>let ⟨p,g,g1,g2,g3⟩:=hc i q v e h1 h2;⟨p.less qc.1,g,g1,g2,g3.less qc.1⟩,dM⟩
 ie id o ho hm:=by
  rcases xC h id with ⟨e,_⟩|⟨_,p,q,a,b,e⟩
  .rw[e] at ho;exact au.ie id o ho hm
  rw[e] at ho;cases ho;rw[(b.facts 0).2.1] at hm;cases hm
 frlt:=au.frlt
 inj id fh o o' h1 m1 h2 m2 he:=by
  rcases xC h id with ⟨e,_⟩|⟨_,p,q,a,b,e⟩
  .rcases xC h fh with ⟨e',_⟩|⟨_,p',q',a',b',e'⟩
   .rw[e] at h1;rw[e'] at h2;exact au.inj id fh o o' h1 m1 h2 m2 he
   rw[e'] at h2;cases h2;rw[(b'.facts 0).2.1] at m2;cases m2
  rw[e] at h1;cases h1;rw[(b.facts 0).2.1] at m1;cases m1
end Go.Abs
namespace Go.Abs
variable {P:Program} {w0:World}
section
variable{w':World}
def Mem.lB(m:Mem)(w':World)(s c k:Nat)(o:Ob):Mem:=(m.later w' (· =c)).install s c k o
section
variable {m:Mem} {w':World} {s c k:Nat} {o:Ob} (hg:fT m.w w') (ji:m.w.heap.size<=c) (o9:c<w'.heap.size)
theorem JI(au:Ok w0 m)(ji:m.w.heap.size<=c):(m.lB w' s c k o).fr=m.fr:=by
 funext x;simp only[Mem.lB,Mem.install,Mem.later];apply propext;constructor
 .rintro ⟨h|h,h2⟩
  .exact h
  exact(h2 h).elim
 intro h;exact⟨.inl h,fun e=>by have:=au.frlt x h;omega⟩
include hg ji
theorem JH:Ev m (m.lB w' s c k o):=QQ (Kz hg fun x hx=>by subst hx;exact ji) (.inr rfl) (.inl ji)
include o9
theorem JJ(au:Ok w0 m)(ho:uf (m.lB w' s c k o) s o):Ok w0 (m.lB w' s c k o):=QR (Od au hg fun x hx=>by subst hx;exact⟨ji,o9⟩) (.inr rfl) (mY au.size ji) ho
end
theorem EU{m:Mem}{s c k:Nat}{o:Ob}:(m.lB w' s c k o).σ s=c:=by simp[Mem.lB,Mem.install,aO]
theorem rl{m:Mem}{s c k:Nat}{o:Ob}:(m.lB w' s c k o).κ s=k:=by simp[Mem.lB,Mem.install,aO]
theorem Wb{m:Mem}{s c k:Nat}{o:Ob}:(m.lB w' s c k o).aj=app [(s,((m.aj s).1+1,some o))] m.aj:=rfl
theorem Wc{m:Mem}{s c k:Nat}{o:Ob}:(m.lB w' s c k o).w=w':=rfl
theorem MD{m:Mem}{s c cap ty sz:Nat}{es:s_}{n:Nat}(hn:n<=cap)(hm:cap<=maxLen):
  ch (m.lB w' s c cap (.arr ty sz es)) (.one (.hsl s ((m.aj s).1+1) sz 0 n)) (.slice (some ⟨c,0,none⟩) n cap):=by
 refine ch.one.2 (.hsl _ _ ?_ hn hm fun z h1 h2=>?_)
 .simp[Mem.lB,Mem.install,Mem.later,aO]
 have:lY ((m.lB w' s c cap (.arr ty sz es)).aj s)=some sz:=by simp[Mem.lB,Mem.install,aO,lY]
 rw[this] at h2;cases h2;refine⟨rfl,fun _=>?_,by rw[js];exact rl.symm⟩;rw[EU,Bf]
theorem anb{m:Mem}{s c cap ty sz:Nat}{es:List f_}{n:Nat}(hn:n<=cap)(hm:cap<=maxLen):
  ch (m.lB w' s c cap (.ju ty sz es)) (.one (.hsl s ((m.aj s).1+1) sz 0 n)) (.slice (some ⟨c,0,none⟩) n cap):=by
 refine ch.one.2 (.hsl _ _ ?_ hn hm fun z h1 h2=>?_)
 .simp[Mem.lB,Mem.install,Mem.later,aO]
 have:lY ((m.lB w' s c cap (.ju ty sz es)).aj s)=some sz:=by simp[Mem.lB,Mem.install,aO,lY]
 rw[this] at h2;cases h2;refine⟨rfl,fun _=>?_,by rw[js];exact rl.symm⟩;rw[EU,Bf]
theorem Pz{t e:TypeId}{sz bytes:Nat}{z:b_}(h:Bp P t=some (e,sz,bytes,z)):
  ∃i v,P.underlying t=some (.slice e)/\P.info? e=some i/\i.size=sz/\i.bytes=bytes/\(0<sz/\0<bytes)/\i.zero=some v/\v.cells.size=sz/\z.length=sz/\ ∀w own,dD w own z v.cells.toList:=by
 unfold Bp at h;split at h
 .rename_i e' ht;split at h
  .rename_i i z' hi hz;split at h
   .rename_i jU;cases h;obtain⟨v,i',h1,h2,h3,h4,h5⟩:=OY hz;rw[hi] at h1;cases h1;exact⟨i,v,ht,hi,rfl,rfl,jU,h2,h3,h4,h5⟩
   cases h
  cases h
 cases h
theorem aqA{R:PV->Value->Prop}{z:b_}{v:Array Value}{sz n:Nat}(hz:Pw R z v.toList)(cH:v.size=sz)(jU:0<sz):
  Pw R (List.replicate n z).flatten ((madeCells v (n*sz)).toList.take (n*sz)):=by
 have mS:z.length=sz:=by have:=hz.1;simp at this;omega
 have dQ:∀e∈List.replicate n z,e.length=sz:=fun e he=>by rw[SM he];exact mS
 have hlen:(madeCells v (n*sz)).toList.length=n*sz:=by simp[size_madeCells]
 rw[iz aa];refine⟨by rw[hlen,GV dQ];simp,fun j x u p q=>?_⟩;have hj:j<n*sz:=by have:=(aT.1 q).1;omega
 have hdiv:j/sz<n:=by rw[Nat.div_lt_iff_lt_mul jU];exact hj
 have QA:j%sz<sz:=dr _ jU;have he:(List.replicate n z)[j/sz]?=some z:=by simp[hdiv]
 have h1:=GU dQ he QA;rw[show j/sz*sz+j%sz=j by rw[Nat.mul_comm];exact Nat.div_add_mod j sz] at h1;rw[h1] at p;have h2:(madeCells v (n*sz)).toList[j]?=some v[j%sz]! :=by unfold madeCells;simp[hj,cH]
 rw[h2] at q;cases q;refine hz.2 (j%sz) x _ p ?_;have:j%sz<v.size:=aa;simp[this]
section
variable {m:Mem} {ak:Env} {a:Act} {o:Oper} (au:Ok w0 m) (hr:jC m ak a.tmps)
include au hr
theorem at3{t e:TypeId}{l c:Operand}{l' c':aS}{s sz bytes n:Nat}{z:b_}(ho:o.op=.makeSlice t l c)(he:Bp P t=some (e,sz,bytes,z))(hl:cZ l=some l')(hc:cZ c=some c')
  (hn:qx (ev ak l')=some n) (hm:qx (ev ak c')=some n) (lI:n*bytes<=room):
  gj P w0 a.eval o m (.one (.hsl s ((m.aj s).1+1) sz 0 n)) [(s,((m.aj s).1+1,some (.arr e sz (List.replicate n z))))]:=by
 obtain⟨i,v,ht,hi,hs,hb,⟨jU,Hj⟩,hz,se,mS,dR⟩:=Pz he;obtain⟨k1,h1⟩:=zR hn (eQ hl hr);obtain⟨k2,h2⟩:=zR hm (eQ hc hr);unfold room at lI;have WW:n<=maxLen:=by have:n<=n*bytes:=O4 _ Hj;simp only[maxLen];omega
 have aoA:(n:Int)<=9223372036854775807:=by simp[maxLen] at WW;omega
 have xG:(i.bytes:Int)*(n:Int)<=281474976710656:=by
  have:((i.bytes*n:Nat):Int)<=281474976710656:=by rw[hb,Nat.mul_comm];omega
  rwa[Int.natCast_mul] at this
 have kB:=run_make (P:=P) m.w t e i v ht hi hz k1 k2 n n aa (Int.le_refl _) xG aoA;simp only[pP,hs] at kB
 let m':=m.lB (m.w.alloc (.cells (madeCells v.cells (n*sz)) e)) s m.w.heap.size n (.arr e sz (List.replicate n z))
 have eD:Ev m m':=JH (fT.alloc _ _) (bR _);have DB:uf m' s (.arr e sz (List.replicate n z)):=by
  refine⟨_,by rw[EU];exact heap_alloc_new m.w _,jU,fun x hx=>?_,?_,?_,?_,?_⟩
  .rw[SM hx];exact mS
  .rw[rl];simp
  .rw[rl];exact WW
  .rw[rl,size_madeCells]
  rw[List.length_replicate];exact dD.pw.2 (aqA (dD.pw.1 (dR _ _)) se jU)
 refine⟨_,m',.inl ?_,JJ (fT.alloc _ _) (bR _) af au DB,eD,JI au (bR _),rfl,MD (bR _) WW⟩;simp[execOp,ho,h1,h2,kB];rfl
theorem aaj{lo hi:Option Operand}{DK vA:Option aS}{n cap l h:Nat}{b:Bool}(eF:yu lo=some DK)(Fo:yu hi=some vA)(hl:sH ak 0 DK=some l)(hh:sH ak n vA=some h)
  (Fq:l<=h) (mv:h<=cap):(Instr.sliceBounds b n cap (lo.map a.eval) (hi.map a.eval) none).run P m.w=.ok (l,h,cap) m.w:=by
 have _u0:=au;have pW:(match hi.map a.eval with|some v=>∃k,v=Value.int k (h:Int)|none=>h=n):=by
  cases hi with
  |none=>simp[yu] at Fo;subst Fo;simp[sH] at hh;simpa using hh.symm
  |some x=>simp only[yu,dS] at Fo;obtain⟨y,hy,rfl⟩:=Fo;exact zR hh (eQ hy hr)
 have pX:(match lo.map a.eval with|some v=>∃k,v=Value.int k (l:Int)|none=>l=0):=by
  cases lo with
  |none=>simp[yu] at eF;subst eF;simp[sH] at hl;simpa using hl.symm
  |some x=>simp only[yu,dS] at eF;obtain⟨y,hy,rfl⟩:=eF;exact zR hl (eQ hy hr)
 generalize lo.map a.eval=LO at pX;generalize hi.map a.eval=HI at pW;have ji:(h:Int)<=(cap:Int):=aa;have o9:(l:Int)<=(h:Int):=aa;cases LO with
 |none=>
  simp only at pX;subst pX;cases HI with
  |none=>simp only at pW;subst pW;simp[Instr.sliceBounds]
  |some v=>obtain⟨k,rfl⟩:=pW;simp[Instr.sliceBounds,Instr.sliceBound,asIntOf,mv]
 |some u=>
  obtain⟨k,rfl⟩:=pX;cases HI with
  |none=>simp only at pW;subst pW;simp[Instr.sliceBounds,Instr.sliceBound,asIntOf,Fq]
  |some v=>obtain⟨k',rfl⟩:=pW;simp[Instr.sliceBounds,Instr.sliceBound,asIntOf,mv,Fq]
theorem aue{t:TypeId}{x:Operand}{lo hi:Option Operand}{x':aS}{DK vA:Option aS}{s:ByteArray}{l h:Nat}(ho:o.op=.slice t x lo hi none)(ht:P.underlying t=some .string)
  (hx:cZ x=some x') (eF:yu lo=some DK) (Fo:yu hi=some vA) (hs:ev ak x'=.one (.p (.str s))) (hl:sH ak 0 DK=some l) (hh:sH ak s.size vA=some h) (Fq:l<=h) (mv:h<=s.size):
  gj P w0 a.eval o m (.one (.p (.str (s.extract l h)))) []:=by
 have h1:=eQ hx hr;rw[hs] at h1;have hb:=aaj (P:=P) (w0:=w0) (au:=au) (hr:=hr) (b:=false) eF Fo hl hh Fq mv;refine .calm au ?_ (nE (.str _));simp[execOp,ho,N7 h1,Instr.sliceAt,Instr.slice,run_underlying ht,hb]
theorem aud{t e:TypeId}{x:Operand}{lo hi:Option Operand}{x':aS}{DK vA:Option aS}{sz n l h:Nat}{v:V}(ho:o.op=.slice t x lo hi none)(ht:P.underlying t=some (.slice e))(cH:ye P e=some sz)
  (hx:cZ x=some x') (eF:yu lo=some DK) (Fo:yu hi=some vA) (hn:zi (ev ak x')=some n) (hl:sH ak 0 DK=some l) (hh:sH ak n vA=some h)
  (hv:DU (ev ak x') sz l h=.done v [] []):gj P w0 a.eval o m v []:=by
 have h1:=eQ hx hr;unfold DU at hv;split at hv
 .cases hv
 rename_i Fq;have Fq:l<=h:=by simpa using Fq
 have run:∀(ad:Option Addr) (cap:Nat),a.eval x=.slice ad n cap->h<=cap->(execOp a.eval o).run P m.w=.ok (.value (.slice (if cap=l then ad else ad.map (·.add (l*sz))) (h-l) (cap-l))) m.w:=by intro ad cap kQ mv;have hb:=aaj (P:=P) (w0:=w0) (au:=au) (hr:=hr) (b:=true) eF Fo hl hh Fq mv;simp[execOp,ho,kQ,Instr.sliceAt,Instr.slice,run_underlying ht,hb,Sl cH]
 obtain⟨ad0,cap0,hsl,hncap,pY⟩:=afH (au:=au) (hr:=hr) hn h1;split at hv
 .rename_i he;split at hv
  .rename_i h0;cases hv;rw[he] at h1;have:=QU h1;subst h0;have r7:l=0:=aa;subst r7;rw[this] at hsl;cases hsl;refine .calm au (run none 0 this (bR _)) ?_;simp;exact nE .nils
  cases hv
 .rename_i es he;split at hv
  .rename_i hc;cases hv;rw[he] at h1 hn;simp[zi] at hn;subst hn;obtain⟨hp⟩:dx m _ (a.eval x):=h1;generalize hb:a.eval x=b at hp;generalize iF:(PV.sl es)=pv at hp;cases hp<;>cases iF
   .rename_i ad cap uE hm;simp at hc;have hh0:h=0:=aa;subst hh0;have r7:l=0:=aa;subst r7;refine .calm au (run ad cap hb (bG _)) (nE ?_);simp only[List.drop_nil,List.take_nil,Nat.sub_zero];refine .zw _ _ (fun h=>?_) hm;split at h
    .exact uE h
    cases ad with
    |none=>exact uE rfl
    |some ad=>simp at h
   rename_i b' o' cap cA f hm l8 kA uI uz xP;refine .calm au (run _ cap hb aa) (nE ?_);by_cases aw:l=h
   .subst aw;simp only[Nat.sub_self,List.take_zero];refine .zw _ _ (fun h=>?_) aa;split at h<;>simp at h
   have hlen:((es.drop l).take (h-l)).length=h-l:=by simp;omega
   have l6:es≠[]:=fun e=>by subst e;simp at hc;omega
   have Xi:cA=sz:=by obtain⟨e0,r0,rfl⟩:=List.exists_cons_of_ne_nil l6;have g1:=uI e0 af;have g2:=hc.2;simp[iI] at g2;omega
   subst Xi;rw[ay aa];simp only[nQ,Addr.add_lit];have BK:=cF.sl (w:=m.w) (own:=m.own) (es:=(es.drop l).take (h-l)) b' (o'+l*cA) (cap-l) cA (fun j=>f (l*cA+j)) (fun aI=>l8 fun e0=>aI ?_) aa aa (fun e he=>uI e (xj (yl he))) ?_ ?_
   .rw[hlen] at BK;exact BK
   .apply List.eq_nil_of_length_eq_zero;rw[JF (fun e he=>uI e (xj he)),PZ uI,e0];simp
   .intro j z hz;rw[JF (fun e he=>uI e (xj he)),PZ uI,mI] at hz;split at hz
    .rw[zJ] at hz;rw[Gi];exact uz _ z hz
    cases hz
   intro j z hz;rw[JF (fun e he=>uI e (xj he)),PZ uI,mI] at hz;split at hz
   .rw[zJ] at hz;exact xP _ z hz
   cases hz
  cases hv
 .rename_i id g z off len he;split at hv
  .rename_i hc;cases hv;rw[he] at h1 hn;simp[zi] at hn;subst hn;have eV:dx m _ (a.eval x):=h1;generalize hb:a.eval x=b at eV;cases eV with
   |hsl ad cap hg wH hm No=>
    refine .calm au (run _ cap hb aa) ?_;have Xh:∃ad',(if cap=l then some ad else (some ad).map (·.add (l*sz)))=some ad'/\(cap≠l->ad'=ad.add (l*sz))/\(l=0->ad'=ad):=by
     by_cases bN:cap=l
     .exact⟨ad,by simp[bN],fun h=>(h bN).elim,fun _=>rfl⟩
     exact⟨ad.add (l*sz),by simp[bN],fun _=>rfl,fun h=>by subst h;simp[Addr.add]⟩
    obtain⟨ad',e1,e2,e3⟩:=Xh;rw[e1];refine ch.one.2 (.hsl _ _ hg aa aa fun s g1 g2=>?_);obtain⟨f1,f2,f3⟩:=No s g1 g2;refine⟨f1,fun BJ=>?_,?_⟩
    .by_cases r7:l=0
     .subst r7;rw[e3 rfl,u9];refine f2 ?_;rcases BJ with h|h
      .exact .inl aa
      exact .inr aa
     have:0<h-l:=by rcases BJ with h|h<;>omega
     rw[e2 aa,f2 (.inr aa),Addr.add_lit,f1,hc.2,ia]
    omega
  cases hv
 cases hv
end
end
end Go.Abs
namespace Go.Abs
variable {P:Program} {w0:World}
theorem am5(off:Nat):∀(vs:List Value) (i:Nat) (cells:Array Value),off+i+vs.length<=cells.size->
  ((vs.zipIdx i).foldl (fun cs (x:Value×Nat)=>cs.setIfInBounds (off+x.2) x.1) cells).toList=eZ cells.toList (off+i) vs:=by
 intro vs
 induction vs with
 |nil=>intro i cells _;simp[eZ]
 |cons v r ih=>
  intro i cells h;simp only[dC] at h;simp only[List.zipIdx_cons,Bc];rw[ih (i+1) _ (by simp;omega)];unfold eZ;rw[Array.toList_setIfInBounds];have aw:off+i<cells.toList.length:=by simp;omega
  have e1:(cells.toList.set (off+i) v).take (off+(i+1))=cells.toList.take (off+i)++[v]:=by rw[show off+(i+1)=(off+i)+1 by omega,List.take_succ_eq_append_getElem (by simpa using aw),List.take_set,List.set_eq_of_length_le (by simp;omega)];simp
  have e2:(cells.toList.set (off+i) v).drop (off+(i+1)+r.length)=cells.toList.drop (off+(i+1)+r.length):=by rw[List.drop_set_of_lt aa]
  rw[e1,e2];simp only[dC,vU,List.singleton_append];congr 3;omega
theorem acU{place:Nat->Option (Nat×Nat)}{i off n:Nat}{v:Value}{rest:List (Nat×Value)}{cells:Array Value}(hp:place i=some (off,n))(hv:v.cells.size=n)(hfit:off+n<=cells.size):
  ∃lh,Instr.fill place cells ((i,v)::rest)=Instr.fill place lh rest/\lh.toList=eZ cells.toList off v.cells.toList:=by
 refine⟨v.cells.zipIdx.foldl (fun cs (x:Value×Nat)=>cs.setIfInBounds (off+x.2) x.1) cells,?_,?_⟩
 .simp only[Instr.fill,hp];rw[ay (by simp[hv];omega)]
 rw[<- Array.foldl_toList,Array.toList_zipIdx,am5 off v.cells.toList 0 cells (by simp;omega)];simp
theorem acT{m:Mem}{ak:Env}{a:Act}(hr:jC m ak a.tmps){place:Nat->Option (Nat×Nat)}{zl:Nat}:∀ {ps:List (Nat×Operand)} {qs:List (Nat×Nat×aS)} {rs:List (Nat×f_)} {cs:f_} {cells:Array Value},
  DQ place zl ps=some qs->zo ak qs=some rs->dJ m cs cells.toList->cs.length=zl->
  ∃lh,Instr.fill place cells (ps.map fun x=>(x.1,a.eval x.2))=some lh/\dJ m (fill cs rs) lh.toList:=by
 intro ps
 induction ps with
 |nil=>intro qs rs cs cells h1 h2 hc hl;simp[DQ] at h1;subst h1;simp[zo] at h2;subst h2;exact⟨cells,by simp[Instr.fill],by simpa [fill] using hc⟩
 |cons p t ih=>
  intro qs rs cs cells h1 h2 hc hl;obtain⟨i,x⟩:=p;simp only[DQ] at h1;split at h1
  .rename_i off n a' q bY hx hq;split at h1
   .rename_i hfit;cases h1;simp only[zo] at h2;split at h2
    .rename_i EJ q' hcv tQ;split at h2
     .rename_i hlen;cases h2;have hv:=TA hcv (eQ hx hr);have cH:(a.eval x).cells.size=n:=by have:=hv.1;simp at this;omega
      have bN:=hc.1;simp at bN;obtain⟨lh,e1,e2⟩:=acU (rest:=t.map fun x=>(x.1,a.eval x.2)) bY cH (by omega:off+n<=cells.size);simp only[eh,fill];rw[e1];refine ih hq tQ ?_ (by rw[Su aa];exact hl);rw[e2];exact dJ.pw.2 ((dJ.pw.1 hc).eZ (dJ.pw.1 hv) off)
     cases h2
    cases h2
   cases h1
  cases h1
theorem mapM_ok{α β:Type}{f:α->Sem β}{g:α->β}{w:World}:∀ {l:List α},(∀x∈l,(f x).run P w=.ok (g x) w)->(l.mapM f).run P w=.ok (l.map g) w:=by
 intro l
 induction l with
 |nil=>intro _;simp
 |cons x r ih=>intro h;simp[List.mapM_cons,h x af,ih fun y hy=>h y (by simp[hy])]
theorem al7{m:Mem}{ak:Env}{a:Act}(hr:jC m ak a.tmps){place:Nat->Option (Nat×Nat)}{sz:Nat}(aoU:∀k,place k=some (k*sz,sz)):∀ {ps:List (Nat×Operand)} {as:o_} {es:List f_} {k:Nat} {done:List Value} {cells:Array Value},
  Jy k ps=some as->Ab ak sz as=some es->done.length=k*sz->cells.toList.take (k*sz)=done->cells.size=(k+as.length)*sz->
  ∃lh,Instr.fill place cells (ps.map fun x=>(x.1,a.eval x.2))=some lh/\ ∃vs,lh.toList=done++vs/\dJ m es.flatten vs/\(∀e∈es,e.length=sz)/\es.length=as.length:=by
 intro ps
 induction ps with
 |nil=>intro as es k done cells h1 h2 hd ht hs;simp[Jy] at h1;subst h1;simp[Ab] at h2;subst h2;refine⟨cells,by simp[Instr.fill],[],?_,⟨af,fun j x u p=>by simp at p⟩,fun e he=>by simp at he,rfl⟩;rw[<- ht,jA,iz (by simp at hs |-;omega)]
 |cons p t ih=>
  intro as es k done cells h1 h2 hd ht hs;obtain⟨i,x⟩:=p;simp only[Jy] at h1;split at h1
  .rename_i a' q hx hq;split at h1
   .rename_i hik;cases h1;subst hik;simp only[Ab] at h2;split at h2
    .rename_i EJ q' hcv tQ;split at h2
     .rename_i hlen;cases h2;have hv:=TA hcv (eQ hx hr);have cH:(a.eval x).cells.size=sz:=by have:=hv.1;simp at this;omega
      simp only[dC] at hs;have fM:cells.size=i*sz+sz+q.length*sz:=by rw[hs,ia,ia];omega
      obtain⟨lh,e1,e2⟩:=acU (rest:=t.map fun x=>(x.1,a.eval x.2)) (aoU i) cH (by omega:i*sz+sz<=cells.size);have jw:lh.toList.length=cells.size:=by rw[e2,Su (by simp;omega)];simp
      obtain⟨akL,f1,vs,f2,f3,f4,f5⟩:=ih (k:=i+1) (done:=done++(a.eval x).cells.toList) (cells:=lh) hq tQ (by simp[hd,cH,ia]) (by rw[e2];unfold eZ;rw[ht,O3 (by simp[hd,cH,ia])];rw[iz (by simp[hd,cH,ia])]) (by simp at jw;rw[jw,fM,ia,ia];omega)
      simp only[eh];rw[e1];refine⟨akL,f1,(a.eval x).cells.toList++vs,by rw[f2,vU],?_,?_,by simp[f5]⟩
      .simp only[mX];exact dJ.pw.2 ((dJ.pw.1 hv).append (dJ.pw.1 f3))
      intro e he;rcases cD.1 he with rfl|he
      .exact hlen
      exact f4 e he
     cases h2
    cases h2
   cases h1
  cases h1
theorem avn{m:Mem}:∀ {es:List f_} {qs:s_} {vs:List Value} {sz:Nat},Cr es=some qs->(∀e∈es,e.length=sz)->dJ m es.flatten vs->dD m.w m.own qs.flatten vs/\(∀e∈qs,e.length=sz)/\qs.length=es.length:=by
 intro es
 induction es with
 |nil=>intro qs vs sz h _ hc;simp[Cr] at h;subst h;exact⟨⟨hc.1,fun j x u p=>by simp at p⟩,fun e he=>by simp at he,rfl⟩
 |cons e r ih=>
  intro qs vs sz h cH hc;simp only[Cr] at h;split at h
  .rename_i v oJ h1 h2;cases h;simp only[mX] at hc;have dI:=cH e af;have ji:=(dJ.pw.1 hc).take e.length;have o9:=(dJ.pw.1 hc).drop e.length;simp only[List.take_left,List.drop_left] at ji o9;have g1:=ON h1 (dJ.pw.2 ji);obtain⟨g2,g3,g4⟩:=ih h2 (fun x hx=>cH x (by simp[hx])) (dJ.pw.2 o9);have te:v.length=sz:=by
    have a1:=g1.1;have a2:=ji.1;omega
   refine⟨?_,?_,by simp[g4]⟩
   .have:=(dD.pw.1 g1).append (dD.pw.1 g2);rw[mJ] at this;exact dD.pw.2 this
   intro y hy;rcases cD.1 hy with rfl|hy
   .exact te
   exact g3 y hy
  cases h
section
variable {m:Mem} {ak:Env} {a:Act} {o:Oper} (au:Ok w0 m) (hr:jC m ak a.tmps)
include au hr
theorem atO{t:TypeId}{ps:Array (Nat×Operand)}{fs:Array Field}{z:b_}{qs:List (Nat×Nat×aS)}{rs:List (Nat×f_)}(ho:o.op=.build t ps)(ht:P.underlying t=some (.struct fs))(hz:A9 P t=some z)
  (dQ:fs.all (fun f=>(P.info? f.type).isSome)=true) (hp:DQ (fun i=>(fs[i]?).map fun f=>(f.offset,P.cellsOf f.type)) z.length ps.toList=some qs) (hv:zo ak qs=some rs):
  gj P w0 a.eval o m (.agg (fill (z.map .p) rs)) []:=by
 obtain⟨v,i,hi,hiv,hs,hl,dR⟩:=OY hz;obtain⟨lh,h1,h2⟩:=acT hr hp hv (dR m.w m.own).Eb af;refine .calm (x:=.agg lh) au ?_ (ch.agg.2 ⟨_,rfl,h2⟩);have HC:(fs.mapM (fun f=>do pure (f.offset,<- sizeOf f.type):Field->Sem (Nat×Nat))).run P m.w=.ok (fs.map fun f=>(f.offset,P.cellsOf f.type)) m.w:=by
  rw[Array.mapM_eq_mapM_toList];have:=mapM_ok (P:=P) (f:=(fun f=>do pure (f.offset,<- sizeOf f.type):Field->Sem (Nat×Nat))) (g:=fun f=>(f.offset,P.cellsOf f.type)) (w:=m.w) (l:=fs.toList) (fun f hf=>by
   have:=Array.all_eq_true_iff_forall_mem.1 dQ f (by simpa using hf);cases Aq:P.info? f.type with
   |none=>rw[Aq] at this;cases this
   |some i=>simp[sizeOf,typeInfo,Aq,Program.cellsOf])
  rw[Sem.run_map,this];simp only[Result.andThen_ok];congr 1;apply Array.ext';simp
 have Fk:Instr.fill (fun x=>(fs.map fun f=>(f.offset,P.cellsOf f.type))[x]?) v.cells (ps.map fun x=>(x.1,a.eval x.2)).toList=some lh:=by simpa using h1
 simp only[execOp,ho,Instr.build,zeroValue,typeInfo,Sem.run_bind,run_program,Result.andThen_ok,hi,hiv,Sem.run_pure,run_underlying ht,HC,Fk]
theorem atN{t e:TypeId}{n:Nat}{ps:Array (Nat×Operand)}{i:TypeInfo}{z:b_}{qs:List (Nat×Nat×aS)}{rs:List (Nat×f_)}(ho:o.op=.build t ps)(ht:P.underlying t=some (.array n e))(hz:A9 P t=some z)
  (hie:P.info? e=some i) (hp:DQ (fun k=>some (k*i.size,i.size)) z.length ps.toList=some qs) (hv:zo ak qs=some rs):
  gj P w0 a.eval o m (.agg (fill (z.map .p) rs)) []:=by
 obtain⟨v,i',hi,hiv,hs,hl,dR⟩:=OY hz;obtain⟨lh,h1,h2⟩:=acT hr hp hv (dR m.w m.own).Eb af;refine .calm (x:=.agg lh) au ?_ (ch.agg.2 ⟨_,rfl,h2⟩);have Fk:Instr.fill (fun k=>some (k*i.size,i.size)) v.cells (ps.map fun x=>(x.1,a.eval x.2)).toList=some lh:=by simpa using h1
 simp only[execOp,ho,Instr.build,zeroValue,sizeOf,typeInfo,Sem.run_bind,run_program,Result.andThen_ok,hi,hie,hiv,Sem.run_pure,run_underlying ht,Fk]
theorem atL{t e:TypeId}{n sz bytes s:Nat}{z:b_}{ps:Array (Nat×Operand)}{as:o_}{es:List f_}(ho:o.op=.buildSlice t n ps)(he:Bp P t=some (e,sz,bytes,z))(hp:Jy 0 ps.toList=some as)
  (hn:as.length=n) (anZ:n*sz<=16777216) (hv:Ab ak sz as=some es):
  (∀qs,Cr es=some qs->gj P w0 a.eval o m (.one (.hsl s ((m.aj s).1+1) sz 0 es.length)) [(s,((m.aj s).1+1,some (.arr e sz qs)))])/\
  gj P w0 a.eval o m (.one (.hsl s ((m.aj s).1+1) sz 0 es.length)) [(s,((m.aj s).1+1,some (.ju e sz es)))]:=by
 obtain⟨i,v,ht,hi,hs,hb,⟨jU,_⟩,xK,se,mS,dR⟩:=Pz he;subst hn;obtain⟨lh,f1,vs,f2,f3,f4,f5⟩:=al7 (place:=fun k=>some (k*sz,sz)) (done:=[]) (cells:=(Array.range (as.length*sz)).map ((if as.length*sz=0 then #[] else v.cells)[· %(if as.length*sz=0 then #[] else v.cells).size]!)) hr (fun _=>rfl) hp hv af af af;have kB:(execOp a.eval o).run P m.w=.ok (.value (.slice (some ⟨m.w.heap.size,0,none⟩) es.length es.length)) (m.w.alloc (.cells lh e)):=by
  have Fk:Instr.fill (fun k=>some (k*sz,sz)) ((Array.range (as.length*sz)).map ((if as.length*sz=0 then #[] else v.cells)[· %(if as.length*sz=0 then #[] else v.cells).size]!)) (ps.map fun x=>(x.1,a.eval x.2)).toList=some lh:=by simpa using f1
  have hnb:¬(16777216<as.length*sz):=aa;have aeg:¬(as.length*sz>2 ^ 24):=aa;by_cases h0:as.length*sz=0
  .simp only[aD h0] at Fk;simp only[execOp,ho,Instr.buildSlice,Sem.run_bind,run_underlying ht,Result.andThen_ok,sizeOf,typeInfo,run_program,hi,Sem.run_pure,hs,ay aeg,aD h0,Fk,newRow,run_newObj,f5];rfl
  simp only[ay h0] at Fk;simp only[execOp,ho,Instr.buildSlice,Sem.run_bind,run_underlying ht,Result.andThen_ok,sizeOf,typeInfo,run_program,hi,Sem.run_pure,hs,ay aeg,ay h0,zeroValue,xK,Fk,newRow,run_newObj,f5];rfl
 simp at f2;have bN:lh.size=es.length*sz:=by
  have h1:=f3.1;rw[GV f4] at h1;have:lh.toList.length=vs.length:=by rw[f2]
  simp at this;omega
 have Nx:es.length<=maxLen:=by have:es.length<=es.length*sz:=O4 _ jU;simp only[maxLen];rw[f5] at this |-;omega
 have Km:lh.toList.take (es.length*sz)=vs:=by rw[iz (by simp;omega),f2]
 constructor
 .intro qs hq;have eD:Ev m (m.lB (m.w.alloc (.cells lh e)) s m.w.heap.size es.length (.arr e sz qs)):=JH (fT.alloc _ _) (bR _);obtain⟨g1,g2,g3⟩:=avn hq f4 (f3.ev eD.zero);refine⟨_,m.lB (m.w.alloc (.cells lh e)) s m.w.heap.size es.length (.arr e sz qs),.inl kB,JJ (fT.alloc _ _) (bR _) af au ?_,eD,JI au (bR _),rfl,MD (bR _) Nx⟩;exact⟨lh,by rw[EU];exact heap_alloc_new m.w _,jU,g2,by rw[rl,g3];exact bR _,by rw[rl];exact Nx,by rw[rl,bN],by rw[g3,Km];exact g1⟩
 have eD:Ev m (m.lB (m.w.alloc (.cells lh e)) s m.w.heap.size es.length (.ju e sz es)):=JH (fT.alloc _ _) (bR _);refine⟨_,m.lB (m.w.alloc (.cells lh e)) s m.w.heap.size es.length (.ju e sz es),.inl kB,JJ (fT.alloc _ _) (bR _) af au ?_,eD,JI au (bR _),rfl,anb (bR _) Nx⟩;exact⟨lh,by rw[EU];exact heap_alloc_new m.w _,jU,f4,by rw[rl];exact bR _,by rw[rl];exact Nx,by rw[rl,bN],by rw[Km];exact f3.ev eD.zero⟩
end
end Go.Abs
namespace Go.Abs
variable {P:Program} {w0:World}
theorem LU(a b:k_)(aj:aB):app (a++b) aj=app b (app a aj):=by
 induction a generalizing aj with
 |nil=>rfl
 |cons x r ih=>obtain⟨i,o⟩:=x;simp only[mW,app];exact ih _
theorem ap7{m:Mem}{Ad:Nat->Prop}(hf:∀c,Ad c->m.fr c){c:Nat}(h:({m with fr:=Ad}:Mem).own c):m.own c:=by
 rcases h with h|h
 .exact .inl (hf c h)
 exact .inr h
theorem Q3{m:Mem}{Ad:Nat->Prop}(hf:∀c,Ad c->m.fr c):Ev m {m with fr:=Ad}:=
 ⟨rfl,rfl,rfl,bR _,fun _ _ _=>rfl,fun _ _ h=>h,fun _ _ hn h=>hn (ap7 hf h),fun _=>bR _,fun _ _ h=>⟨h,rfl,rfl,rfl⟩⟩
theorem XI{m:Mem}{Ad:Nat->Prop}(h:Ok w0 m)(hf:∀c,Ad c->m.fr c):Ok w0 {m with fr:=Ad} where
 os:=h.os
 tape:=h.tape
 output:=h.output
 size:=h.size
 base:=h.base
 obj id o ho:=(h.obj id o ho).ev (Q3 hf).zero rfl rfl rfl
 ie id o ho hm:=⟨(h.ie id o ho hm).1,fun hc=>(h.ie id o ho hm).2 (hf _ hc)⟩
 frlt c hc:=h.frlt c (hf c hc)
 inj:=h.inj
theorem ahD{m:Mem}{w':World}{c:Nat}(h:Ok w0 m)(hc:m.fr c)(eF:w0.heap.size<=c)(AM:w'.os=m.w.os)(ht:w'.tape=m.w.tape)(qG:w'.output=m.w.output)(hs:w'.heap.size=m.w.heap.size)
  (hk:∀x,x≠c->w'.heap[x]?=m.w.heap[x]?):Ok w0 {m with w:=w'} where
 os:=AM.trans h.os
 tape:=ht.trans h.tape
 output:=qG.trans h.output
 size:=mY h.size (Gk hs.symm)
 base x hx:=(hk x aa).trans (h.base x hx)
 obj id o ho:=by
  have aI:m.σ id≠c:=by
   intro e;cases hm:o.fX with
   |true=>exact(h.ie id o ho hm).2 (e▸hc)
   |false=>exact(h.obj id o ho).calm hm (.inl (e▸hc))
  exact(h.obj id o ho).ev (m':={m with w:=w'}) ⟨fun x _ hn=>⟨hk x fun e=>hn (.inl (e▸hc)),hn⟩,fun _=>bR _,fun _ _ h=>⟨h,rfl,rfl,rfl⟩⟩ rfl rfl (hk _ aI)
 ie:=h.ie
 frlt x hx:=by rw[show({m with w:=w'}:Mem).w.heap.size=m.w.heap.size from hs];exact h.frlt x hx
 inj:=h.inj
theorem abx{m:Mem}(au:Ok w0 m){own:Nat->Prop}{x:V}{v:Value}{new:s_}{rd fr:a_}(h:fU m.aj x=some (new,rd,fr))(hv:ch m x v)(hs:qW m own fr):
  ∃ax cx,v=.slice ax new.length cx/\(∀z,nL x=some z->∀e∈new,e.length=z)/\
   (new≠[]->∃b o news,ax=some ⟨b,o,none⟩/\Pw (cF m.w own) new.flatten news/\ ∀(j:Nat) (u:Value),news[j]?=some u->m.w.cell? ⟨b,o+j,none⟩=some u):=by
 have row:∀(c off sz len:Nat) (cur:Array Value) (ty:TypeId) (fz:Nat×Nat) (ps:s_),m.w.heap[c]?=some (.cells cur ty fz)->Pw (cF m.w own) ps.flatten ((cur.toList.drop (off*sz)).take (ps.length*sz))->
   ∃b o news,some (⟨c,off*sz,none⟩:Addr)=some ⟨b,o,none⟩/\Pw (cF m.w own) ps.flatten news/\ ∀(j:Nat) (u:Value),news[j]?=some u->m.w.cell? ⟨b,o+j,none⟩=some u:=by
  intro c off sz len cur ty fz ps hh hp;refine⟨c,off*sz,_,rfl,hp,fun j u hj=>?_⟩;rw[mI] at hj;split at hj
  .rw[EB hh];simpa using hj
  cases hj
 unfold fU at h;split at h
 .cases h;exact⟨none,0,QU hv,fun z hz=>by simp[nL] at hz,fun h=>(h rfl).elim⟩
 .rename_i es;cases h;obtain⟨hp⟩:dx m _ v:=hv;generalize iF:(PV.sl new)=pv at hp;cases hp<;>cases iF
  .exact⟨_,_,rfl,fun z hz=>by simp[nL] at hz,fun h=>(h rfl).elim⟩
  rename_i b o cap sz f hm ho hl cH uz xP;refine⟨_,_,rfl,fun z hz=>by simp[nL] at hz,fun _=>⟨b,o,(List.range new.flatten.length).map f,rfl,⟨af,fun j y u p q=>?_⟩,fun j u q=>?_⟩⟩
  .have hj:j<new.flatten.length:=(aT.1 p).1;rw[fG,u5 hj] at q;simp at q;subst q;exact(xP j y p).less hs.1
  have hj:j<new.flatten.length:=by have:=(aT.1 q).1;simpa using this
  rw[fG,u5 hj] at q;simp at q;subst q;exact uz j _ (rL hj)
 .rename_i id g z off len;have eV:dx m _ v:=hv;cases eV with
  |hsl ad cap hg hl hm No=>
   split at h
   .rename_i g' ty sz es hb;split at h
    .rename_i hc;cases h;have bj:(m.aj id).2=some (.arr ty sz es):=by rw[hb]
     obtain⟨cur,hh,qI,cH,r8,vC,dB,dR⟩:=au.obj id _ bj;obtain⟨e1,e2,e3⟩:=No sz (by rw[hb];exact hc.1) (by rw[hb];rfl);have hlen:((es.drop off).take len).length=len:=by simp;omega
     refine⟨some ad,cap,by rw[hlen],fun z' rD e he=>?_,fun aI=>?_⟩
     .simp[nL] at rD;subst rD;rw[<- e1];exact cH e (xj (yl he))
     have:0<len:=by
      cases len with
      |zero=>simp at aI
      |succ n=>omega
     rw[e2 (.inr this)];exact row (m.σ id) off sz len cur ty _ _ hh (F1 cH (dD.pw.1 (dR.less hs.1)) hc.2)
    cases h
   .rename_i g' ty sz es hb;split at h
    .rename_i hc;cases h;have bj:(m.aj id).2=some (.qB ty sz es):=by rw[hb]
     obtain⟨cur,fz,hh,qI,cH,r8,vC,dB,dR,_⟩:=au.obj id _ bj;obtain⟨e1,e2,e3⟩:=No sz (by rw[hb];exact hc.1) (by rw[hb];rfl);have hlen:((es.drop off).take len).length=len:=by simp;omega
     refine⟨some ad,cap,by rw[hlen],fun z' rD e he=>?_,fun aI=>?_⟩
     .simp[nL] at rD;subst rD;rw[<- e1];exact cH e (xj (yl he))
     have:0<len:=by
      cases len with
      |zero=>simp at aI
      |succ n=>omega
     rw[e2 (.inr this)];exact row (m.σ id) off sz len cur ty _ _ hh (F1 cH (dD.pw.1 (dR.less hs.1)) hc.2)
    cases h
   .rename_i g' ty sz es hb;split at h
    .rename_i hc;split at h
     .rename_i ps q hq;cases h;have bj:(m.aj id).2=some (.ju ty sz es):=by rw[hb]
      obtain⟨cur,hh,qI,cH,r8,vC,dB,dR⟩:=au.obj id _ bj;obtain⟨e1,e2,e3⟩:=No sz (by rw[hb];exact hc.1) (by rw[hb];rfl);have hle:((es.drop off).take len).length=len:=by simp;omega
      have bY:new.length=len:=by rw[TM hq,hle]
      have Xf:=F1 cH (dJ.pw.1 dR) hc.2;have NW:∀e∈(es.drop off).take len,e.length=sz:=fun e he=>cH e (xj (yl he));have mv:len*sz<=(cur.toList.drop (off*sz)).length:=by
       simp;have h1:off*sz+len*sz<=es.length*sz:=by rw[<- ia];exact mZ _ hc.2
       have h2:es.length*sz<=m.κ id*sz:=mZ _ r8;omega
      have pZ:∀(j:Nat) (e:b_),new[j]?=some e->Pw (cF m.w own) e (((cur.toList.drop (off*sz)).drop (j*sz)).take sz):=by intro j e he;obtain⟨x,q',h1,h2,h3⟩:=TL hq he;exact Jk (R:=dx m) (T:=cF m.w own) (fy:=qW m own) (fun a b h=>h.app) (fun a b r v e1 e2 e3=>Ld au _ e1 e2 e3) h2 ⟨hs.1,fun i hi=>hs.2 i (h3 i hi)⟩ (V8 NW Xf h1)
      have Fu:∀e∈new,e.length=sz:=by
       intro e he;obtain⟨j,hj⟩:=iJ he;have:=(pZ j e hj).1;have ow:j<len:=by rw[<- bY];exact(aT.1 hj).1
       have h1:(j+1)*sz<=len*sz:=mZ _ ow;rw[ia] at h1;simp at this mv;omega
      refine⟨some ad,cap,by rw[bY],fun z' rD e he=>?_,fun aI=>?_⟩
      .simp[nL] at rD;subst rD;rw[<- e1];exact Fu e he
      have:0<len:=by rw[<- bY];exact jl.2 aI
      rw[e2 (.inr this)];refine row (m.σ id) off sz len cur ty _ _ hh ?_;rw[bY];have:=Yn Fu (by rw[bY];exact mv) pZ;rw[bY] at this;exact this
     cases h
    cases h
   split at h
   .rename_i r7;cases h;exact⟨some ad,cap,by rw[r7];rfl,fun z' _ e he=>by simp at he,fun h=>(h rfl).elim⟩
   cases h
 cases h
end Go.Abs
namespace Go.Abs
variable {P:Program} {w0:World}
theorem ahb{w:World}{own:Nat->Prop}{xs:b_}{vs:List Value}(h:Pw (cF w own) xs vs):∀u∈vs,u.oneCell'=true:=by
 intro v hv;obtain⟨j,hj⟩:=iJ hv;have aw:j<xs.length:=by rw[<- h.1];exact(aT.1 hj).1
 exact(h.2 j _ v (rL aw) hj).Ot
theorem ME{m:Mem}{ids:a_}{u:k_}(h:tJ m.aj ids=some u)(id:Nat):(app u m.aj id).1=(m.aj id).1:=by
 rcases xC h id with ⟨e,_⟩|⟨_,p,q,a,b,e⟩
 .exact congrArg Prod.fst e
 have:=congrArg Prod.fst e;exact this
theorem abr{m:Mem}{id:Nat}{o:Ob}{w':World}(ho:(m.aj id).2=some o)(hm:o.fX=true)(AM:w'.os=m.w.os)(ht:w'.tape=m.w.tape)(qG:w'.output=m.w.output)(hs:w'.heap.size=m.w.heap.size)
  (hk:∀x,x≠m.σ id->w'.heap[x]?=m.w.heap[x]?):Ev m {m.iL id with w:=w'} where
 os:=AM
 tape:=ht
 output:=qG
 size:=Gk hs.symm
 keep c _ hn:=hk c fun e=>hn ⟨id,o,ho,hm,e.symm⟩
 fX:=(GM ho hm).fX
 less:=(GM ho hm).less
 gen:=(GM ho hm).gen
 ref:=(GM ho hm).ref
theorem asU{m:Mem}(au:Ok w0 m){id s:Nat}{ob:Ob}{w':World}{CY:Array Value}{ty sz:Nat}{im:s_}(ho:(m.aj id).2=some ob)(hm:ob.fX=true)(jU:0<sz)(AM:w'.os=m.w.os)(ht:w'.tape=m.w.tape)(qG:w'.output=m.w.output)(hs:w'.heap.size=m.w.heap.size)
  (hk:∀x,x≠m.σ id->w'.heap[x]?=m.w.heap[x]?) (hh:w'.heap[m.σ id]?=some (.cells CY ty (0,0))) (cH:∀e∈im,e.length=sz) (hl:im.length<=m.κ id) (tc:m.κ id<=maxLen) (dB:CY.size=m.κ id*sz)
  (hp:Pw (cF m.w m.own) im.flatten (CY.toList.take (im.length*sz))):
  ∃m',m'.w=w'/\Ok w0 m'/\Ev m m'/\m'.fr=m.fr/\m'.aj=dU (dU m.aj id ((m.aj id).1,none)) s ((m.aj s).1+1,some (.arr ty sz im))/\
   ch m' (.one (.hsl s ((m.aj s).1+1) sz 0 im.length)) (.slice (some ⟨m.σ id,0,none⟩) im.length (m.κ id)):=by
 have Dq:=abr ho hm AM ht qG hs hk;have eF:=(au.ie id ob ho hm).1;have W4:Ok w0 {m.iL id with w:=w'}:=ahD (m:=m.iL id) (T8 au ho hm) (.inr rfl) eF AM ht qG hs hk;have eD:Ev m ((({m.iL id with w:=w'}:Mem)).install s (m.σ id) (m.κ id) (.arr ty sz im)):=QQ Dq (.inr rfl) (.inr ⟨id,ob,ho,hm,rfl⟩);have xI:((({m.iL id with w:=w'}:Mem)).aj s).1=(m.aj s).1:=by
  simp only[Mem.iL,aO];split
  .rename_i e;subst e;rfl
  rfl
 have hσ:((({m.iL id with w:=w'}:Mem)).install s (m.σ id) (m.κ id) (.arr ty sz im)).σ s=m.σ id:=by simp[Mem.install,aO]
 have hκ:((({m.iL id with w:=w'}:Mem)).install s (m.σ id) (m.κ id) (.arr ty sz im)).κ s=m.κ id:=by simp[Mem.install,aO]
 refine⟨_,rfl,QR W4 (.inr rfl) eF ?_,eD,?_,?_,?_⟩
 .exact⟨CY,by rw[hσ];exact hh,jU,cH,by rw[hκ];exact hl,by rw[hκ];exact tc,by rw[hκ];exact dB,dD.ev eD.zero (dD.pw.2 hp)⟩
 .funext x;simp only[Mem.install,Mem.iL];apply propext;constructor
  .rintro ⟨h|h,h2⟩
   .exact h
   exact(h2 h).elim
  intro h;exact⟨.inl h,fun e=>(au.ie id ob ho hm).2 (e▸h)⟩
 .simp only[Mem.install];rw[xI];rfl
 refine ch.one.2 (.hsl _ _ ?_ hl tc fun z h1 h2=>?_)
 .simp only[Mem.install,aO,if_true];rw[xI];exact bR _
 have:lY (((({m.iL id with w:=w'}:Mem)).install s (m.σ id) (m.κ id) (.arr ty sz im)).aj s)=some sz:=by simp[Mem.install,aO,lY]
 rw[this] at h2;cases h2;exact⟨rfl,fun _=>by rw[hσ,Bf],by rw[js];exact hκ.symm⟩
theorem atn{P:Program}(w:World)(t ty e:TypeId)(i:TypeInfo)(z:Value)(ht:P.underlying t=some (.slice e))(hi:P.info? e=some i)(hz:i.zero=some z)
  (az:Option Addr) (a:Addr) (n c:Nat) (news:List Value) (hl:news.length=n*i.size) (y8:∀j v,news[j]?=some v->w.cell? (a.add j)=some v)
  (h0:0<n) (h63:(n:Int)<=9223372036854775807) (yI:n*i.bytes<=281474976710656):
  (Builtin.append_ #[t,t] ty #[.slice az 0 0,.slice (some a) n c]).run P w=
   .ok (.slice (some ⟨w.heap.size,0,none⟩) n (grownCap w n 0 e)) (w.drew.alloc (.cells (news.toArray++Builtin.zeroCells z.cells (grownCap w n 0 e-n)) e)):=by
 cases az with
 |none=>exact run_append_nil w t ty e i z ht hi hz a n c news hl y8 h0 h63 yI
 |some b=>have h:=run_append_grow (P:=P) w t ty e i z ht hi hz b 0 0 [] af (fun j v h=>by simp at h) a n c news hl y8 aa (by simpa using h63) (by rw[js,nextslicecap_zero h0];exact yI);rw[js] at h;rw[h];simp
theorem atm{P:Program}(w:World)(t ty e:TypeId)(i:TypeInfo)(ht:P.underlying t=some (.slice e))(hi:P.info? e=some i)
  (g off sLen sCap:Nat) (cur:Array Value) (hg:w.heap[g]?=some (.cells cur e (0,0)))
  (a:Addr) (m c:Nat) (news:List Value) (hl:news.length=m*i.size) (y8:∀j u,news[j]?=some u->w.cell? (a.add j)=some u) (h1:∀u∈news,u.oneCell'=true)
  (lI:sLen+m<=sCap) (hfit:off+sLen*i.size+news.length<=cur.size):
  (Builtin.append_ #[t,t] ty #[.slice (some ⟨g,off,none⟩) sLen sCap,.slice (some a) m c]).run P w=
   .ok (.slice (some ⟨g,off,none⟩) (sLen+m) sCap) (w.setRow g (cur.toList.take (off+sLen*i.size)++news++cur.toList.drop (off+sLen*i.size+news.length)).toArray):=by
 have hf:=run_firstCells_some (P:=P) w i.size m a m c news hl y8;have cV:=run_storeCells_at P g (off+sLen*i.size) e news 0 cur w hg (by simpa using hfit) h1;simp only[u9] at cV;simp[Builtin.append_,run_underlying ht,sizeOf,typeInfo,hi,Builtin.lenOf,lI,hf,Addr.add_lit,cV]
section
variable {m:Mem} {ak:Env} {a:Act} {o:Oper} (au:Ok w0 m) (hr:jC m ak a.tmps)
include au hr
theorem atI{c:Call}{d x:Operand}{d' x':aS}{t e:TypeId}{s sz bytes:Nat}{z:b_}{v:V}{u:k_}{rd:a_}(ho:o.op=.call c)(hc:c.callee=.builtin .append)(has:c.args= #[d,x])(kr:c.argTypes= #[t,t])
  (he:Bp P t=some (e,sz,bytes,z)) (hd:cZ d=some d') (hx:cZ x=some x') (hv:gI m.aj s e sz bytes (ev ak d') (ev ak x')=.done v u rd):gj P w0 a.eval o m v u:=by
 obtain⟨i,zv,ht,hi,hs,hb,⟨jU,Hj⟩,xK,Ks,mS,dR⟩:=Pz he;have oE:=eQ hd hr;have l9:=eQ hx hr;have run:∀(y:Value) (w':World),(Builtin.append_ #[t,t] o.type #[a.eval d,a.eval x]).run P m.w=.ok y w'->(execOp a.eval o).run P m.w=.ok (.value y) w':=by intro y w' h;simp[execOp,ho,resolve,hc,has,kr,invoke,builtin,h]
 unfold gI at hv;split at hv
 .cases hv
 rename_i new rd' fr dI;split at hv
 .cases hv
 rename_i ao5;split at hv
 .cases hv
 rename_i fu rz;have pz:=adl au rz;have wE:=Wf rz;have qc:=Wi au rz;obtain⟨ax,cx,xR,ao4,y8⟩:=abx au dI l9 qc;have dQ:∀e∈new,e.length=sz:=by
  have:nL (ev ak x')=some sz\/iI sz new=true:=Classical.not_not.1 ao5;rcases this with h|h
  .exact ao4 sz h
  intro e he;have:=gO.1 h e he
  simpa using this
 have Nl:new.flatten.length=new.length*sz:=GV dQ;split at hv
 · -- nil
  rename_i Hm;rw[Hm] at oE;have Ao:=QU oE;split at hv
  .rename_i iY;cases hv;refine⟨.slice none 0 0,m.with u,.inl (run _ _ ?_),pz,wE,rfl,rfl,nE .nils⟩;rw[Ao,xR,iY];cases ax<;>simp[Builtin.append_,run_underlying ht,sizeOf,typeInfo,hi,Builtin.lenOf,Builtin.firstCells,loadCells,loadCellsFrom,Mem.with]
  rename_i iY;split at hv
  .rename_i lI;cases hv;have aI:new≠[]:=fun h=>iY (by simp[h]);obtain⟨b,off,news,rfl,r9,yN⟩:=y8 aI;unfold room at lI;have jZ:news.length=new.length*i.size:=by rw[r9.1,Nl,hs]
   have DA:new.length<=maxLen/\(new.length:Int)<=9223372036854775807:=by have:new.length<=new.length*bytes:=O4 _ Hj;simp only[maxLen];omega
   have kB:=run_append_nil (P:=P) m.w t o.type e i zv ht hi xK ⟨b,off,none⟩ new.length cx news jZ (fun j v hj=>by rw[Addr.add_lit];exact yN j v hj) aa DA.2 (by rw[hb];omega);generalize hW:m.w.drew.alloc (.cells (news.toArray++Builtin.zeroCells zv.cells (grownCap m.w new.length 0 e-new.length)) e)=W at kB;have hg:fT (m.with fu).w W:=by rw[<- hW];exact(fT.drew _).trans (fT.alloc _ _)
   have mv:=grownCap_ge m.w new.length 0 e;have M3:=grownCap_le_maxLen m.w new.length 0 e DA.1;have Dq:Ev (m.with fu) ((m.with fu).lB W s m.w.heap.size (grownCap m.w new.length 0 e) (.arr e sz new)):=JH hg (bR _);have xI:=ME rz s;refine⟨_,(m.with fu).lB W s m.w.heap.size (grownCap m.w new.length 0 e) (.arr e sz new),.inl (run _ _ (by rw[Ao,xR];exact kB)),JJ hg (bR _) (by rw[<- hW];simp) pz ?_,wE.trans Dq,JI pz (bR _),?_,?_⟩
   .refine⟨_,by rw[EU,Wc,<- hW];exact heap_alloc_new m.w.drew _,jU,dQ,by rw[rl];exact mv,by rw[rl];exact M3,?_,?_⟩
    .rw[rl];simp only[Array.size_append,List.size_toArray,size_zeroCells,Ks,jZ,hs,<- ia];congr 1;omega
    have:(news.toArray++Builtin.zeroCells zv.cells (grownCap m.w new.length 0 e-new.length)).toList.take (new.length*sz)=news:=by simp only[Array.toList_append];rw[<- hs,<- jZ];exact List.take_left
    rw[this];exact dD.ev Dq.zero (dD.pw.2 r9)
   .rw[LU,Wb];simp only[Mem.with];rw[xI]
   have:=MD (m:=m.with fu) (w':=W) (s:=s) (c:=m.w.heap.size) (ty:=e) (sz:=sz) (es:=new) mv M3;simp only[Mem.with] at this;rw[xI] at this;exact this
  cases hv
 · -- an empty slice without room
  rename_i Hm;rw[Hm] at oE;obtain⟨az,Ao⟩:=apv oE;split at hv
  .cases hv
  rename_i iY;split at hv
  .rename_i lI;cases hv;have aI:new≠[]:=fun h=>iY (by simp[h]);obtain⟨b,off,news,rfl,r9,yN⟩:=y8 aI;unfold room at lI;have jZ:news.length=new.length*i.size:=by rw[r9.1,Nl,hs]
   have DA:new.length<=maxLen/\(new.length:Int)<=9223372036854775807:=by have:new.length<=new.length*bytes:=O4 _ Hj;simp only[maxLen];omega
   have kB:=atn (P:=P) m.w t o.type e i zv ht hi xK az ⟨b,off,none⟩ new.length cx news jZ (fun j v hj=>by rw[Addr.add_lit];exact yN j v hj) aa DA.2 (by rw[hb];omega);generalize hW:m.w.drew.alloc (.cells (news.toArray++Builtin.zeroCells zv.cells (grownCap m.w new.length 0 e-new.length)) e)=W at kB;have hg:fT (m.with fu).w W:=by rw[<- hW];exact(fT.drew _).trans (fT.alloc _ _)
   have mv:=grownCap_ge m.w new.length 0 e;have M3:=grownCap_le_maxLen m.w new.length 0 e DA.1;have Dq:Ev (m.with fu) ((m.with fu).lB W s m.w.heap.size (grownCap m.w new.length 0 e) (.arr e sz new)):=JH hg (bR _);have xI:=ME rz s;refine⟨_,(m.with fu).lB W s m.w.heap.size (grownCap m.w new.length 0 e) (.arr e sz new),.inl (run _ _ (by rw[Ao,xR];exact kB)),JJ hg (bR _) (by rw[<- hW];simp) pz ?_,wE.trans Dq,JI pz (bR _),?_,?_⟩
   .refine⟨_,by rw[EU,Wc,<- hW];exact heap_alloc_new m.w.drew _,jU,dQ,by rw[rl];exact mv,by rw[rl];exact M3,?_,?_⟩
    .rw[rl];simp only[Array.size_append,List.size_toArray,size_zeroCells,Ks,jZ,hs,<- ia];congr 1;omega
    have:(news.toArray++Builtin.zeroCells zv.cells (grownCap m.w new.length 0 e-new.length)).toList.take (new.length*sz)=news:=by simp only[Array.toList_append];rw[<- hs,<- jZ];exact List.take_left
    rw[this];exact dD.ev Dq.zero (dD.pw.2 r9)
   .rw[LU,Wb];simp only[Mem.with];rw[xI]
   have:=MD (m:=m.with fu) (w':=W) (s:=s) (c:=m.w.heap.size) (ty:=e) (sz:=sz) (es:=new) mv M3;simp only[Mem.with] at this;rw[xI] at this;exact this
  cases hv
 .rename_i id g zz len Hm;rw[Hm] at oE;split at hv
  .rename_i g' kL cA es iW;split at hv
   .rename_i r4;obtain⟨jo,rfl,rfl,hlen,lI,WY⟩:=r4;cases hv;have WZ:id∉fr:=by simpa using WY
    have dw:(m.with fu).aj id=m.aj id:=by
     rcases xC rz id with ⟨e,_⟩|⟨jS,_⟩
     .exact e
     exact(WZ jS).elim
    have bj:((m.with fu).aj id).2=some (.arr kL cA es):=by rw[dw,iW]
    obtain⟨cur,hh,_,cH,hl,tc,dB,W8⟩:=pz.obj id _ bj;have M4:dx m _ (a.eval d):=oE;generalize Ao:a.eval d=dv at M4;cases M4 with
    |hsl ad cap hg wH Kc Np=>
     obtain⟨f1,f2,f3⟩:=Np cA (by rw[iW];exact jo) (by rw[iW];rfl);have mv:cap=m.κ id:=by rw[<- f3,js]
     have oY:=f2 (.inl rfl);rw[Bf] at oY;subst oY;unfold room at lI;have xI:=ME rz s;have hgid:=ME rz id;have Hw:len*cA<=es.length*cA:=mZ _ hlen;have r8:es.length*cA<=m.κ id*cA:=mZ _ hl;have W5:Pw (cF (m.with fu).w (m.with fu).own) (es.take len).flatten (cur.toList.take (len*cA)):=by rw[JF cH];have h1:=(dD.pw.1 W8).take (len*cA);rw[Gh,zK Hw] at h1;exact h1
     have Kn:(es.take len).length=len:=by simp;omega
     have MY:∀x∈es.take len++new,x.length=cA:=by
      intro x hx;rcases eK.1 hx with hx|hx
      .exact cH x (yl hx)
      exact dQ x hx
     have hnl0:len+new.length<=(len+new.length)*bytes:=O4 _ Hj;have wN:∀q:eY,app (fu++[(id,(g,none)),q]) m.aj=dU (dU (m.with fu).aj id (((m.with fu).aj id).1,none)) q.1 q.2:=by intro q;rw[LU];simp only[app];rw[dw,iW,jo];rfl
     have Dy:(es.take len++new).length=len+new.length:=by rw[fS,Kn]
     by_cases hfit:len+new.length<=cap
     · -- in its own block
      have key:∀(w':World) (CY:Array Value),(execOp a.eval o).run P m.w=.ok (.value (.slice (some ⟨m.σ id,0,none⟩) (len+new.length) cap)) w'->w'.os=m.w.os->w'.tape=m.w.tape->w'.output=m.w.output->w'.heap.size=m.w.heap.size->
        (∀x,x≠m.σ id->w'.heap[x]?=m.w.heap[x]?)->w'.heap[m.σ id]?=some (.cells CY kL (0,0))->CY.size=cur.size->Pw (cF (m.with fu).w (m.with fu).own) (es.take len++new).flatten (CY.toList.take ((len+new.length)*cA))->
        gj P w0 a.eval o m (.one (.hsl s ((m.aj s).1+1) cA 0 (len+new.length))) (fu++[(id,(g,none)),(s,((m.aj s).1+1,some (.arr kL cA (es.take len++new))))]):=by
       intro w' CY kB q1 q2 q3 q4 q5 q6 q7 q8;obtain⟨m',e1,e2,e3,e4,e5,e6⟩:=asU (s:=s) pz bj rfl jU q1 q2 q3 q4 q5 q6 MY (by rw[Dy];rw[mv] at hfit;exact hfit) tc (by rw[q7];exact dB) (by rw[Dy];exact q8);rw[Dy] at e6;have Qu:((m.with fu).aj s).1=(m.aj s).1:=xI;rw[Qu] at e6 e5;refine⟨_,m',.inl (by rw[e1];exact kB),e2,wE.trans e3,e4,by rw[e5,wN],?_⟩;rw[mv];exact e6
      by_cases iY:new=[]
      .subst iY;have ao2:(execOp a.eval o).run P m.w=.ok (.value (.slice (some ⟨m.σ id,0,none⟩) (len+([]:s_).length) cap)) m.w:=by
        apply run;rw[Ao,xR];have aos:len<=cap:=wH;cases ax<;>simp[Builtin.append_,run_underlying ht,sizeOf,typeInfo,hi,Builtin.lenOf,Builtin.firstCells,loadCells,loadCellsFrom,aos,storeCells]
       exact key m.w cur ao2 rfl rfl rfl rfl (fun _ _=>rfl) hh rfl (by simpa using W5)
      obtain⟨b,off,news,rfl,r9,yN⟩:=y8 iY;have jZ:news.length=new.length*i.size:=by rw[r9.1,Nl,hs]
      have By:len*i.size+news.length<=cur.size:=by rw[jZ,hs,dB,<- ia];rw[mv] at hfit;exact mZ _ hfit
      have kB:=run_append_room (P:=P) m.w t o.type kL i ht hi (m.σ id) len cap cur hh ⟨b,off,none⟩ new.length cx news jZ (fun j v hj=>by rw[Addr.add_lit];exact yN j v hj) (ahb r9) hfit By;have ao3:(execOp a.eval o).run P m.w=.ok (.value (.slice (some ⟨m.σ id,0,none⟩) (len+new.length) cap)) _:=run _ _ (by rw[Ao,xR];exact kB);have an5:len*i.size<=cur.size:=mY (Nat.le_add_right _ _) By;refine key _ _ ao3 ?_ ?_ ?_ ?_ (fun x hx=>setRow_other m.w (m.σ id) x _ hx) (OK hh) ?_ ?_
      .rfl
      .rfl
      .rfl
      .exact setRow_size m.w _ _
      .rw[List.size_toArray,fS,fS,iK,lO,Array.length_toList];omega
      have h1:=W5.append r9;rw[<- Eh] at h1;have:(cur.toList.take (len*i.size)++news++cur.toList.drop (len*i.size+news.length)).take ((len+new.length)*cA)=cur.toList.take (len*cA)++news:=by
       rw[hs];have bN:(cur.toList.take (len*cA)).length=len*cA:=by rw[iK,Array.length_toList];rw[hs] at an5;omega
       have M5:(cur.toList.take (len*cA)++news).length=(len+new.length)*cA:=by rw[fS,bN,jZ,hs,ia]
       rw[O3 (Gk M5.symm)];exact iz (Gk M5)
      simp only[List.toList_toArray] at this |-;rw[this];exact h1
     · -- a new block
      have iY:new≠[]:=fun e=>by subst e;simp at hfit;omega
      obtain⟨b,off,news,rfl,r9,yN⟩:=y8 iY;have jZ:news.length=new.length*i.size:=by rw[r9.1,Nl,hs]
      have AL:(cur.toList.take (len*cA)).length=len*i.size:=by rw[hs,iK,Array.length_toList];have Am:cur.size=m.κ id*cA:=dB;omega
      have kB:=run_append_grow (P:=P) m.w t o.type kL i zv ht hi xK ⟨m.σ id,0,none⟩ len cap (cur.toList.take (len*cA)) AL (fun j v hj=>by
        rw[Addr.add_lit,js];have:(m.w.cell? ⟨m.σ id,j,none⟩)=cur[j]? :=EB hh;rw[this];rw[mI] at hj;split at hj
        .simpa using hj
        cases hj) ⟨b,off,none⟩ new.length cx news jZ (fun j v hj=>by rw[Addr.add_lit];exact yN j v hj) aa aa (growslice_fits aa (by rw[hb];omega))
      have DA:len+new.length<=maxLen:=by simp only[maxLen];omega
      have Bz:=grownCap_ge m.w (len+new.length) cap kL;have JX:=grownCap_le_maxLen m.w (len+new.length) cap kL DA;generalize uz:grownCap m.w (len+new.length) cap kL=cc at kB Bz JX;generalize hW:m.w.drew.alloc (.cells ((cur.toList.take (len*cA)).toArray++news.toArray++Builtin.zeroCells zv.cells (cc-(len+new.length))) kL)=W at kB;have NJ:=XI (Ad:=m.fr) (T8 pz bj rfl) (fun c hc=>.inl hc);have WH:Ev (m.with fu) {(m.with fu).iL id with fr:=m.fr}:=(GM bj rfl).trans (Q3 (fun c hc=>.inl hc));have Dt:fT ({(m.with fu).iL id with fr:=m.fr}:Mem).w W:=by rw[<- hW];exact(fT.drew _).trans (fT.alloc _ _)
      have Dq:Ev ({(m.with fu).iL id with fr:=m.fr}:Mem) (({(m.with fu).iL id with fr:=m.fr}:Mem).lB W s m.w.heap.size cc (.arr kL cA (es.take len++new))):=JH Dt (bR _);have adX:=WH.trans Dq;have Qu:((({(m.with fu).iL id with fr:=m.fr}:Mem)).aj s).1=(m.aj s).1:=by
       simp only[Mem.iL,aO];split
       .rename_i e';subst e';exact xI
       exact xI
      refine⟨_,({(m.with fu).iL id with fr:=m.fr}:Mem).lB W s m.w.heap.size cc (.arr kL cA (es.take len++new)),.inl (run _ _ (by rw[Ao,xR];exact kB)),JJ Dt (bR _) (by rw[<- hW];simp) NJ ?_,wE.trans adX,JI NJ (bR _),?_,?_⟩
      .refine⟨_,by rw[EU,Wc,<- hW];exact heap_alloc_new m.w.drew _,jU,MY,by rw[rl,Dy];exact Bz,by rw[rl];exact JX,?_,?_⟩
       .rw[rl];simp only[Array.size_append,List.size_toArray,size_zeroCells,Ks,jZ,AL,hs,<- ia];congr 1;omega
       have h1:=W5.append r9;rw[<- Eh] at h1;have:((cur.toList.take (len*cA)).toArray++news.toArray++Builtin.zeroCells zv.cells (cc-(len+new.length))).toList.take ((es.take len++new).length*cA)=cur.toList.take (len*cA)++news:=by simp only[Array.toList_append,Dy];exact List.take_left' (by rw[fS,List.toList_toArray,List.toList_toArray,AL,jZ,hs,ia])
       rw[this];exact dD.ev adX.zero (dD.pw.2 h1)
      .rw[Wb,wN];simp only[app];rw[Qu];rfl
      have:=MD (m:=({(m.with fu).iL id with fr:=m.fr}:Mem)) (w':=W) (s:=s) (c:=m.w.heap.size) (ty:=kL) (sz:=cA) (es:=es.take len++new) Bz JX;rw[Qu] at this;exact this
   cases hv
  cases hv
 · -- a slice that begins within its array: its values, nobody's any more
  rename_i id g zz off len aI Hm;rw[Hm] at oE;split at hv
  .rename_i g' kL cA es iW;split at hv
   .rename_i r4;obtain⟨jo,rfl,rfl,hlen,lI,WY,r7,aoE⟩:=r4;cases hv;have WZ:id∉fr:=by simpa using WY
    have dw:(m.with fu).aj id=m.aj id:=by
     rcases xC rz id with ⟨e,_⟩|⟨jS,_⟩
     .exact e
     exact(WZ jS).elim
    have bj:((m.with fu).aj id).2=some (.arr kL cA es):=by rw[dw,iW]
    obtain⟨cur,hh,_,cH,hl,tc,dB,W8⟩:=pz.obj id _ bj;have M4:dx m _ (a.eval d):=oE;generalize Ao:a.eval d=dv at M4;cases M4 with
    |hsl ad cap hg wH Kc Np=>
     obtain⟨f1,f2,f3⟩:=Np cA (by rw[iW];exact jo) (by rw[iW];rfl);have oY:=f2 (.inr r7);subst oY;unfold room at lI;have eF:=(pz.ie id _ bj rfl).1;have hnf:=(pz.ie id _ bj rfl).2;have holds:=F1 (off:=off) (len:=len) cH (dD.pw.1 W8) hlen;have Kn:((es.drop off).take len).length=len:=by simp;omega
     rw[Kn] at holds;have anR:∀x∈(es.drop off).take len,x.length=cA:=fun x hx=>cH x (xj (yl hx));have MY:∀x∈(es.drop off).take len++new,x.length=cA:=by
      intro x hx;rcases eK.1 hx with hx|hx
      .exact anR x hx
      exact dQ x hx
     have iY:new≠[]:=fun e=>by subst e;simp at aoE
     obtain⟨b,bo,news,rfl,r9,yN⟩:=y8 iY;have jZ:news.length=new.length*i.size:=by rw[r9.1,Nl,hs]
     have Dy:((es.drop off).take len++new).length=len+new.length:=by rw[fS,Kn]
     have adY:(((es.drop off).take len++new).flatten).length=(len+new.length)*cA:=by rw[GV MY,Dy]
     have W9:=holds.append r9;rw[<- Eh] at W9;have AL:((cur.toList.drop (off*cA)).take (len*cA)).length=len*i.size:=by rw[hs,iK,lO,Array.length_toList];have Am:cur.size=m.κ id*cA:=dB;have h1:(off+len)*cA<=m.κ id*cA:=mZ _ aa;rw[ia] at h1;omega
     have wN:app (fu++[(id,(g,none))]) m.aj=dU (m.with fu).aj id (((m.with fu).aj id).1,none):=by rw[LU];simp only[app];rw[dw,iW,jo];rfl
     have WD:Ok w0 ((m.with fu).iL id):=T8 pz bj rfl;have an8:Ev (m.with fu) ((m.with fu).iL id):=GM bj rfl;have WV:¬((m.with fu).iL id).fX (m.σ id):=by
      rintro ⟨j,o',h1,h2,h3⟩
      exact(WD.ie j o' h1 h2).2 (.inr h3)
     have val:∀(m2:Mem) (c0 o0 cp:Nat) (cells:List Value),Ev (m.with fu) m2-> ¬m2.own c0->cells.length=(len+new.length)*cA->(∀j v,cells[j]?=some v->m2.w.cell? ⟨c0,o0+j,none⟩=some v)->
       Pw (cF (m.with fu).w (m.with fu).own) ((es.drop off).take len++new).flatten cells->len+new.length<=cp->cp<=maxLen->ch m2 (.one (.p (.sl ((es.drop off).take len++new)))) (.slice (some ⟨c0,o0,none⟩) (len+new.length) cp):=by
      intro m2 c0 o0 cp cells eD dM bN hce fV h1 h2;refine nE ?_;rw[<- Dy];refine .sl c0 o0 cp cA (fun j=>cells.getD j undef) (fun _=>dM) (by rw[Dy];exact h1) h2 MY (fun j x hj=>?_) (fun j x hj=>?_)
      .have ow:j<cells.length:=by rw[bN,<- adY];exact(aT.1 hj).1
       rw[dA,rL ow];exact hce j _ (rL ow)
      have ow:j<cells.length:=by rw[bN,<- adY];exact(aT.1 hj).1
      rw[dA,rL ow];exact(fV.2 j x _ hj (rL ow)).ev eD.zero
     by_cases hfit:len+new.length<=cap
     · -- in its own block
      have By:off*cA+len*i.size+news.length<=cur.size:=by rw[jZ,hs,dB,<- ia,<- ia];exact mZ _ (by have f3':off+cap=m.κ id:=f3;show _<=m.κ id;omega)
      have kB:=atm (P:=P) m.w t o.type kL i ht hi (m.σ id) (off*cA) len cap cur hh ⟨b,bo,none⟩ new.length cx news jZ (fun j v hj=>by rw[Addr.add_lit];exact yN j v hj) (ahb r9) hfit By;generalize hW:m.w.setRow (m.σ id) (cur.toList.take (off*cA+len*i.size)++news++cur.toList.drop (off*cA+len*i.size+news.length)).toArray=W at kB;have hWh:W.heap[m.σ id]?=some (.cells (cur.toList.take (off*cA+len*i.size)++news++cur.toList.drop (off*cA+len*i.size+news.length)).toArray kL (0,0)):=by rw[<- hW];exact OK hh
      have k1:W.os=m.w.os:=by rw[<- hW];rfl
      have k2:W.tape=m.w.tape:=by rw[<- hW];rfl
      have k3:W.output=m.w.output:=by rw[<- hW];rfl
      have k4:W.heap.size=m.w.heap.size:=by rw[<- hW];exact setRow_size m.w _ _
      have k5:∀x,x≠m.σ id->W.heap[x]?=m.w.heap[x]? :=fun x hx=>by rw[<- hW];exact setRow_other m.w (m.σ id) x _ hx
      have W4:Ok w0 {(m.with fu).iL id with w:=W}:=ahD (m:=(m.with fu).iL id) WD (.inr rfl) eF k1 k2 k3 k4 k5;have aod:Ev (m.with fu) {(m.with fu).iL id with w:=W}:=abr bj rfl k1 k2 k3 k4 k5;have QD:=XI (Ad:=m.fr) W4 (fun c hc=>.inl hc);have Nj:Ev (m.with fu) ({({(m.with fu).iL id with w:=W}:Mem) with fr:=m.fr}:Mem):=aod.trans (Q3 fun c hc=>.inl hc);refine⟨_,({({(m.with fu).iL id with w:=W}:Mem) with fr:=m.fr}:Mem),.inl (run _ _ (by rw[Ao,xR];exact kB)),QD,wE.trans Nj,rfl,by rw[wN];rfl,?_⟩;refine val _ (m.σ id) (off*cA) cap ((cur.toList.drop (off*cA)).take (len*cA)++news) Nj ?_ (by rw[fS,AL,jZ,hs,ia]) ?_ W9 hfit Kc
      .rintro (h|h)
       .exact hnf h
       exact WV h
      intro j v hj;have bN:({({(m.with fu).iL id with w:=W}:Mem) with fr:=m.fr}:Mem).w.cell? ⟨m.σ id,off*cA+j,none⟩=(cur.toList.take (off*cA+len*i.size)++news++cur.toList.drop (off*cA+len*i.size+news.length)).toArray[off*cA+j]? :=EB hWh;rw[bN];have ow:=(aT.1 hj).1;rw[fS,AL] at ow;have Km:(cur.toList.take (off*cA+len*i.size)).length=off*cA+len*i.size:=by rw[iK,Array.length_toList];omega
      rw[List.getElem?_toArray,vU];by_cases Hs:j<len*i.size
      .rw[xh (by rw[Km];omega),mI,aD aa];rw[xh (by rw[AL];exact Hs),mI,aD (by rw[<- hs];exact Hs),zJ] at hj;exact hj
      rw[zI (by rw[Km];omega),Km,xh aa];rw[zI (by rw[AL];omega),AL] at hj;rw[show off*cA+j-(off*cA+len*i.size)=j-len*i.size by omega];exact hj
     · -- a new block
      have hnlb:len+new.length<=(len+new.length)*bytes:=O4 _ Hj;have kB:=run_append_grow (P:=P) m.w t o.type kL i zv ht hi xK ⟨m.σ id,off*cA,none⟩ len cap ((cur.toList.drop (off*cA)).take (len*cA)) AL (fun j v hj=>by
        rw[Addr.add_lit];have:(m.w.cell? ⟨m.σ id,off*cA+j,none⟩)=cur[off*cA+j]? :=EB hh;rw[this];rw[mI] at hj;split at hj
        .rw[zJ] at hj
         simpa using hj
        cases hj) ⟨b,bo,none⟩ new.length cx news jZ (fun j v hj=>by rw[Addr.add_lit];exact yN j v hj) aa aa (growslice_fits aa (by rw[hb];omega))
      have DA:len+new.length<=maxLen:=by simp only[maxLen];omega
      have Bz:=grownCap_ge m.w (len+new.length) cap kL;have JX:=grownCap_le_maxLen m.w (len+new.length) cap kL DA;generalize uz:grownCap m.w (len+new.length) cap kL=cc at kB Bz JX;generalize hW:m.w.drew.alloc (.cells (((cur.toList.drop (off*cA)).take (len*cA)).toArray++news.toArray++Builtin.zeroCells zv.cells (cc-(len+new.length))) kL)=W at kB;have NJ:=XI (Ad:=m.fr) WD (fun c hc=>.inl hc);have WH:Ev (m.with fu) {(m.with fu).iL id with fr:=m.fr}:=an8.trans (Q3 (fun c hc=>.inl hc));have Dt:fT ({(m.with fu).iL id with fr:=m.fr}:Mem).w W:=by rw[<- hW];exact(fT.drew _).trans (fT.alloc _ _)
      have QD:=Od (X:=fun _=>False) NJ Dt (fun c hc=>hc.elim);have Nj:=WH.trans (Kz (X:=fun _=>False) Dt (fun c hc=>hc.elim));have Hz:W.heap[m.w.heap.size]?=some (.cells (((cur.toList.drop (off*cA)).take (len*cA)).toArray++news.toArray++Builtin.zeroCells zv.cells (cc-(len+new.length))) kL (0,0)):=by rw[<- hW];exact heap_alloc_new m.w.drew _
      refine⟨_,({(m.with fu).iL id with fr:=m.fr}:Mem).later W (fun _=>False),.inl (run _ _ (by rw[Ao,xR];exact kB)),QD,wE.trans Nj,?_,by rw[wN];rfl,?_⟩
      .funext x;simp only[Mem.later];exact propext ⟨fun h=>h.elim (fun h=>h) (fun h=>h.elim),.inl⟩
      refine val _ m.w.heap.size 0 cc ((cur.toList.drop (off*cA)).take (len*cA)++news) Nj ?_ (by rw[fS,AL,jZ,hs,ia]) ?_ W9 Bz JX
      .have aoG:¬(m.with fu).own m.w.heap.size:=by
        rintro (h|⟨j,o',h1,h2,h3⟩)
        .exact Nat.lt_irrefl _ (pz.frlt _ h)
        have:=(pz.obj j o' h1).lt;rw[h3] at this;exact Nat.lt_irrefl _ this
       rintro ((h|h)|⟨j,o',h1,h2,h3⟩)
       .exact aoG (.inl h)
       .exact h
       have:=(QD.obj j o' h1).lt;have h4:=(NJ.obj j o' h1).lt;have rm:m.σ j=m.w.heap.size:=h3;have vt:m.σ j<m.w.heap.size:=h4;omega
      intro j v hj;have bN:W.cell? ⟨m.w.heap.size,0+j,none⟩=_:=EB Hz;show W.cell? ⟨m.w.heap.size,0+j,none⟩=some v;rw[bN,js];have ow:=(aT.1 hj).1;rw[<- Array.getElem?_toList,Array.toList_append,Array.toList_append,xh (by simpa using ow)];exact hj
   cases hv
  cases hv
 cases hv
end
end Go.Abs
