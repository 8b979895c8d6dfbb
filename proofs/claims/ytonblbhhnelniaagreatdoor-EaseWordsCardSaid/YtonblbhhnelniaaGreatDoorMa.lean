/-
  An abstract machine for the code of the model.
-/
import Derived.KernelRfl
import Derived.Calls
import Derived.WalkKit
set_option linter.all false
namespace Go.Abs
theorem aa{p:Prop}(h:p:=by omega):p:=h
theorem ae{p:Prop}(h:p:=by decide):p:=h
theorem af{p:Prop}(h:p:=by simp):p:=h
theorem ah{p:Prop}(h:p:=by kernel_rfl):p:=h
theorem aS:type_of% @List.getElem?_eq_some_iff.{0}:=@List.getElem?_eq_some_iff.{0}
theorem aU:type_of% @List.mem_of_getElem?.{0}:=@List.mem_of_getElem?.{0}
theorem aX:type_of% @Nat.le_refl:=@Nat.le_refl
theorem bd:type_of% @Nat.zero_le:=@Nat.zero_le
theorem cq:type_of% @List.length_cons.{0}:=@List.length_cons.{0}
theorem cF:type_of% @List.length_map.{0,0}:=@List.length_map.{0,0}
theorem cH:type_of% @Bool.and_eq_true:=@Bool.and_eq_true
theorem cM:type_of% @List.mem_cons.{0}:=@List.mem_cons.{0}
theorem de:type_of% @List.getD_eq_getElem?_getD.{0}:=@List.getD_eq_getElem?_getD.{0}
theorem dq:type_of% @List.mem_map.{0,0}:=@List.mem_map.{0,0}
theorem dx:type_of% @Bool.false_eq_true:=@Bool.false_eq_true
theorem dC:type_of% @Option.map_eq_some_iff.{0,0}:=@Option.map_eq_some_iff.{0,0}
theorem dG:type_of% @List.map_cons.{0,0}:=@List.map_cons.{0,0}
theorem dN:type_of% @List.length_nil.{0}:=@List.length_nil.{0}
theorem dQ:type_of% @Nat.mod_lt:=@Nat.mod_lt
theorem dX:type_of% @List.length_append.{0}:=@List.length_append.{0}
theorem eF:type_of% @List.mem_append.{0}:=@List.mem_append.{0}
theorem eQ:type_of% @List.length_take.{0}:=@List.length_take.{0}
theorem fm:type_of% @List.mem_range:=@List.mem_range
theorem fp:type_of% @List.nil_append.{0}:=@List.nil_append.{0}
theorem fq:type_of% @Option.some.injEq.{0}:=@Option.some.injEq.{0}
theorem fR:type_of% @List.getElem?_map.{0,0}:=@List.getElem?_map.{0,0}
theorem fS:type_of% @List.take_of_length_le.{0}:=@List.take_of_length_le.{0}
theorem fY:type_of% @Nat.add_mul:=@Nat.add_mul
theorem gD:type_of% @Nat.mod_eq_of_lt:=@Nat.mod_eq_of_lt
theorem gV:type_of% @List.length_pos_iff.{0}:=@List.length_pos_iff.{0}
theorem gY:type_of% @Nat.le_of_ble_eq_true:=@Nat.le_of_ble_eq_true
theorem iC:type_of% @List.length_drop.{0}:=@List.length_drop.{0}
theorem iD:type_of% @Nat.zero_add:=@Nat.zero_add
theorem iO:type_of% @List.not_mem_nil.{0}:=@List.not_mem_nil.{0}
theorem jf:type_of% @List.all_eq_true.{0}:=@List.all_eq_true.{0}
theorem jg:type_of% @List.cons_append.{0}:=@List.cons_append.{0}
theorem jh:type_of% @List.take_length.{0}:=@List.take_length.{0}
theorem jt:type_of% @List.getElem?_take.{0}:=@List.getElem?_take.{0}
theorem jD:type_of% @List.getElem?_of_mem.{0}:=@List.getElem?_of_mem.{0}
theorem jR:type_of% @List.append_nil.{0}:=@List.append_nil.{0}
theorem jZ:type_of% @Option.map_some.{0,0}:=@Option.map_some.{0,0}
theorem km:type_of% @List.map_append.{0,0}:=@List.map_append.{0,0}
theorem kn:type_of% @List.take_add_one.{0}:=@List.take_add_one.{0}
theorem ko:type_of% @Prod.mk.injEq.{0,0}:=@Prod.mk.injEq.{0,0}
theorem kE:type_of% @List.map_nil.{0,0}:=@List.map_nil.{0,0}
theorem kG:type_of% @List.take_append_drop.{0}:=@List.take_append_drop.{0}
theorem kV:type_of% @Bool.not_eq_true':=@Bool.not_eq_true'
theorem lk:type_of% @List.all_cons.{0}:=@List.all_cons.{0}
theorem ll:type_of% @Nat.le_trans:=@Nat.le_trans
theorem lR:type_of% @List.flatten_cons.{0}:=@List.flatten_cons.{0}
theorem lS:type_of% @List.getElem?_eq_none.{0}:=@List.getElem?_eq_none.{0}
theorem lT:type_of% @Nat.mul_le_mul_right:=@Nat.mul_le_mul_right
theorem mQ:type_of% @List.getElem?_append_right.{0}:=@List.getElem?_append_right.{0}
theorem mR:type_of% @List.mem_singleton.{0}:=@List.mem_singleton.{0}
theorem mS:type_of% @Option.getD_some.{0}:=@Option.getD_some.{0}
theorem nG:type_of% @List.getElem?_eq_getElem.{0}:=@List.getElem?_eq_getElem.{0}
theorem oG:type_of% @List.all_nil.{0}:=@List.all_nil.{0}
theorem oI:type_of% @List.getElem?_set.{0}:=@List.getElem?_set.{0}
theorem pS:type_of% @List.getElem?_append_left.{0}:=@List.getElem?_append_left.{0}
theorem pV:type_of% @Nat.lt_succ_iff_lt_or_eq:=@Nat.lt_succ_iff_lt_or_eq
theorem qD:type_of% @List.length_reverse.{0}:=@List.length_reverse.{0}
theorem qE:type_of% @Nat.not_lt_zero:=@Nat.not_lt_zero
theorem qF:type_of% @Option.some.inj.{0}:=@Option.some.inj.{0}
theorem r8:type_of% @Int.eq_ofNat_of_zero_le:=@Int.eq_ofNat_of_zero_le
theorem r9:type_of% @List.getElem?_drop.{0}:=@List.getElem?_drop.{0}
theorem sa:type_of% @List.nodup_cons.{0}:=@List.nodup_cons.{0}
theorem se:type_of% @Nat.add_zero:=@Nat.add_zero
theorem tc:type_of% @List.append_assoc.{0}:=@List.append_assoc.{0}
theorem te:type_of% @List.getElem?_range:=@List.getElem?_range
theorem tg:type_of% @List.getElem_cons_drop.{0}:=@List.getElem_cons_drop.{0}
theorem th:type_of% @List.length_set.{0}:=@List.length_set.{0}
theorem ti:type_of% @List.map_map.{0,0,0}:=@List.map_map.{0,0,0}
theorem ui:type_of% @List.pairwise_cons.{0}:=@List.pairwise_cons.{0}
theorem uK:type_of% @Int.toNat_natCast:=@Int.toNat_natCast
theorem uL:type_of% @List.length_eq_zero_iff.{0}:=@List.length_eq_zero_iff.{0}
theorem uM:type_of% @List.mem_filter.{0}:=@List.mem_filter.{0}
theorem vD:type_of% @Bool.and_true:=@Bool.and_true
theorem vE:type_of% @List.countP_append.{0}:=@List.countP_append.{0}
theorem vF:type_of% @List.ext_getElem?.{0}:=@List.ext_getElem?.{0}
theorem vG:type_of% @List.length_dropLast.{0}:=@List.length_dropLast.{0}
theorem vH:type_of% @List.map_congr_left.{0,0}:=@List.map_congr_left.{0,0}
theorem vI:type_of% @List.mem_of_mem_drop.{0}:=@List.mem_of_mem_drop.{0}
theorem vJ:type_of% @List.mem_of_mem_take.{0}:=@List.mem_of_mem_take.{0}
theorem vK:type_of% @Nat.eq_of_beq_eq_true:=@Nat.eq_of_beq_eq_true
theorem wY:type_of% @Bool.and_self:=@Bool.and_self
theorem wZ:type_of% @List.countP_cons.{0}:=@List.countP_cons.{0}
theorem w5:type_of% @List.ext_getElem.{0}:=@List.ext_getElem.{0}
theorem w6:type_of% @List.mem_cons_of_mem.{0}:=@List.mem_cons_of_mem.{0}
theorem w7:type_of% @List.nodup_nil.{0}:=@List.nodup_nil.{0}
theorem w8:type_of% @List.range_succ:=@List.range_succ
theorem w9:type_of% @Nat.add_mod_right:=@Nat.add_mod_right
theorem xe:type_of% @Nat.min_eq_left:=@Nat.min_eq_left
theorem xf:type_of% @Nat.mod_two_eq_zero_or_one:=@Nat.mod_two_eq_zero_or_one
theorem yG:type_of% @List.pairwise_map.{0,0}:=@List.pairwise_map.{0,0}
theorem yH:type_of% @Nat.mod_self:=@Nat.mod_self
theorem zY:type_of% @List.drop_eq_getElem_cons.{0}:=@List.drop_eq_getElem_cons.{0}
theorem zZ:type_of% @List.foldl_cons.{0,0}:=@List.foldl_cons.{0,0}
theorem Aa:type_of% @Nat.zero_mul:=@Nat.zero_mul
theorem Bw:type_of% @Bool.false_or:=@Bool.false_or
theorem Bx:type_of% @Bool.not_true:=@Bool.not_true
theorem By:type_of% @Bool.or_eq_true:=@Bool.or_eq_true
theorem Bz:type_of% @List.countP_pos_iff.{0}:=@List.countP_pos_iff.{0}
theorem BA:type_of% @List.foldl_append.{0,0}:=@List.foldl_append.{0,0}
theorem BB:type_of% @Nat.add_assoc:=@Nat.add_assoc
theorem BC:type_of% @Nat.le_of_eq:=@Nat.le_of_eq
theorem Ds:type_of% @Bool.true_and:=@Bool.true_and
theorem Dt:type_of% @List.any_eq_false.{0}:=@List.any_eq_false.{0}
theorem Du:type_of% @List.countP_map.{0,0}:=@List.countP_map.{0,0}
theorem Dv:type_of% @List.flatten_append.{0}:=@List.flatten_append.{0}
theorem Dw:type_of% @List.getElem_map.{0,0}:=@List.getElem_map.{0,0}
theorem Dx:type_of% @List.length_range:=@List.length_range
theorem Dy:type_of% @Nat.lt_of_lt_of_le:=@Nat.lt_of_lt_of_le
theorem Fh:type_of% @List.cons.injEq.{0}:=@List.cons.injEq.{0}
theorem Fi:type_of% @List.mem_of_find?_eq_some.{0}:=@List.mem_of_find?_eq_some.{0}
theorem Fj:type_of% @List.nodup_range:=@List.nodup_range
theorem Fk:type_of% @Nat.add_comm:=@Nat.add_comm
theorem Fl:type_of% @Nat.le_max_left:=@Nat.le_max_left
theorem Fm:type_of% @Nat.sub_self:=@Nat.sub_self
theorem He:type_of% @List.cons.inj.{0}:=@List.cons.inj.{0}
theorem Hf:type_of% @List.countP_eq_zero.{0}:=@List.countP_eq_zero.{0}
theorem Hg:type_of% @List.drop_length.{0}:=@List.drop_length.{0}
theorem Hh:type_of% @List.find?_eq_none.{0}:=@List.find?_eq_none.{0}
theorem Hi:type_of% @List.flatten_nil.{0}:=@List.flatten_nil.{0}
theorem Hj:type_of% @List.map_take.{0,0}:=@List.map_take.{0,0}
theorem Hk:type_of% @List.mem_append_right.{0}:=@List.mem_append_right.{0}
theorem Hl:type_of% @List.mem_cons_self.{0}:=@List.mem_cons_self.{0}
theorem Hm:type_of% @List.mem_flatten.{0}:=@List.mem_flatten.{0}
theorem Hn:type_of% @List.nodup_append.{0}:=@List.nodup_append.{0}
theorem Ho:type_of% @List.take_take.{0}:=@List.take_take.{0}
theorem Hp:type_of% @Nat.le_max_right:=@Nat.le_max_right
theorem Kp:type_of% @List.countP_eq_length_filter.{0}:=@List.countP_eq_length_filter.{0}
theorem Kq:type_of% @List.countP_le_length.{0}:=@List.countP_le_length.{0}
theorem Kr:type_of% @List.find?_some.{0}:=@List.find?_some.{0}
theorem Ks:type_of% @List.getElem_range:=@List.getElem_range
theorem Kt:type_of% @List.getElem_set.{0}:=@List.getElem_set.{0}
theorem NS:type_of% @List.drop_of_length_le.{0}:=@List.drop_of_length_le.{0}
theorem NT:type_of% @List.filter_append.{0}:=@List.filter_append.{0}
theorem NU:type_of% @List.length_pos_of_mem.{0}:=@List.length_pos_of_mem.{0}
theorem NV:type_of% @List.map_eq_nil_iff.{0,0}:=@List.map_eq_nil_iff.{0,0}
theorem NW:type_of% @List.pairwise_append.{0}:=@List.pairwise_append.{0}
theorem NX:type_of% @List.pairwise_iff_getElem.{0}:=@List.pairwise_iff_getElem.{0}
theorem NY:type_of% @Nat.le_mul_of_pos_right:=@Nat.le_mul_of_pos_right
theorem Rp:type_of% @Bool.or_eq_false_iff:=@Bool.or_eq_false_iff
theorem Rq:type_of% @List.eq_of_mem_replicate.{0}:=@List.eq_of_mem_replicate.{0}
theorem Rr:type_of% @List.idxOf_lt_length_iff.{0}:=@List.idxOf_lt_length_iff.{0}
theorem Rs:type_of% @List.set_eq_of_length_le.{0}:=@List.set_eq_of_length_le.{0}
theorem Ru:type_of% @List.take_append_of_le_length.{0}:=@List.take_append_of_le_length.{0}
theorem Rv:type_of% @Option.bind_eq_some_iff.{0,0}:=@Option.bind_eq_some_iff.{0,0}
inductive PV where
 |bool (b:Bool)
 |int (k:IntKind) (n:Int)
 |str (s:ByteArray)
 |uG|nils|rj|yn|nili|ifc|zs
 |box (cs:List PV)
 |sl (es:List (List PV))
 |mp (ag:Bool) (es:List (PV×List PV))
 |fn (f:Nat) (first cap:List PV)
 deriving Inhabited
inductive C where
 |p (v:PV)
 |bk (id g off:Nat)
 |dw (id g i off:Nat)
 |hsl (id g sz off len:Nat)
 |jV (id g:Nat)
 |hfn (f:Nat) (first cap:List C)
 deriving Inhabited
inductive V where
 |undef
 |one (c:C)
 |agg (cs:List C)
 |tup (vs:List V)
 deriving Inhabited
inductive Ob where
 |var (cs:List C)
 |arr (ty sz:Nat) (es:List (List PV))
 |iQ (ty sz:Nat) (es:List (List C))
 |map (ag:Bool) (es:List (PV×List PV))
 |fvar (cs:List PV)
 |oR (ty sz:Nat) (es:List (List PV))
 |fmap (ag:Bool) (es:List (PV×List PV))
 deriving Inhabited
abbrev Env:=Nat->V
abbrev aq:=Nat->Nat×Option Ob
def dB{α:Type}(f:Nat->α)(a:Nat)(x:α):Nat->α:=fun i=>if i=a then x else f i
theorem aM{α:Type}(f:Nat->α)(a b:Nat)(x:α):dB f a x b=if b=a then x else f b:=rfl
inductive aQ where
 |t (n:Nat)
 |i (n:Int)
 |b (x:Bool)
 |k (v:V)
inductive uN where
 |bool|ptr|slc|map|fnc|ifc
 |str (ks:List Bool)
inductive mT where
 |ym (x:aQ)
 |pick (c a b:aQ)
 |alloc (site:Nat) (z:List PV)
 |box (site:Nat) (x:aQ)
 |build (z:List PV) (parts:List (Nat×Nat×aQ))
 |DE (site ty sz:Nat) (parts:List aQ)
 |load (k:Option Nat) (x:aQ)
 |store (n:Nat) (a x:aQ)
 |Jq (x:aQ)
 |bin (op:BinOp) (x y:aQ)
 |eqc (k:uN) (neg:Bool) (x y:aQ)
 |un (op:UnOp) (x:aQ)
 |conv (k:IntKind) (x:aQ)
 |bstr (x:aQ)
 |mkfn (f:Nat) (first cap:List aQ)
 |mkmap (site:Nat) (ag:Bool)
 |Jj (site ty sz bytes:Nat) (z:List PV) (len cap:aQ)
 |slice (sz:Nat) (x:aQ) (lo hi:Option aQ)
 |sslice (x:aQ) (lo hi:Option aQ)
 |FP (off:Nat) (x:aQ)
 |Gu (sz:Nat) (x i:aQ)
 |Hw (len sz:Nat) (x i:aQ)
 |fld (off:Nat) (k:Option Nat) (x:aQ)
 |aidx (len sz:Nat) (k:Option Nat) (x i:aQ)
 |sidx (x i:aQ)
 |lookup (kd:Nat) (z:List PV) (agg ok:Bool) (x k:aQ)
 |mupd (kd:Nat) (ag:Bool) (m k v:aQ)
 |bad
 |extract (x:aQ) (i:Nat)
 |call (site:Nat) (f:aQ) (args:List aQ)
 |slen (x:aQ)
 |Jh (x:aQ)
 |mlen (x:aQ)
 |append (site ty sz bytes:Nat) (s x:aQ)
 |max (x y:aQ)
 |min (x y:aQ)
 |clear (z:List PV) (x:aQ)
structure bl where
 dst:Option Nat
 op:mT
 guard:Option (Nat×Bool)
 anc:Nat
inductive aJ where
 |skip
 |region (draw:Bool) (ops:List bl)
 |seq (a b:aJ)
 |cond (x:aQ) (a b:aJ)
 |block (id:Nat) (c:aJ)
 |loop (c:aJ)
 |exit (id:Nat)
 |ret
 |bad
structure aW where
 ntmps:Nat
 results:List (Nat×Option (Option Nat))
 body:aJ
def ev (ak:Env):aQ->V
 | .t n=>ak n
 | .i n=>.one (.p (.int .i64 n))
 | .b x=>.one (.p (.bool x))
 | .k v=>v
abbrev eG:=Nat×(Nat×Option Ob)
def app:List eG->aq->aq
 |[],b=>b
 |(i,o)::r,b=>app r (dB b i o)
def PV.norm:PV->PV
 | .nils=>.sl []
 | .zs=>.sl []
 |v=>v
def toP:C->Option PV
 | .p v=>some v.norm
 |_=>none
def Bp:List C->Option (List PV)
 |[]=>some []
 |c::r=>match toP c,Bp r with
  |some v,some vs=>some (v::vs)
  |_,_=>none
def rG:V->Option (List C)
 | .one c=>some [c]
 | .agg cs=>some cs
 |_=>none
def collect{α β:Type}(f:α->Option (β×List Nat)):List α->Option (List β×List Nat)
 |[]=>some ([],[])
 |a::r=>match f a,collect f r with
  |some (b,x),some (bs,y)=>some (b::bs,x++y)
  |_,_=>none
def snap(aj:aq):Nat->C->Option (PV×List Nat)
 |0,_=>none
 |n+1,c=>match c with
  | .p v=>some (v.norm,[])
  | .bk id g off=>match aj id with
   |(g',some (.var cs))=>if g'=g then
     match collect (snap aj n) cs with
     |some (ps,r)=>some (.box (ps.drop off),id::r)
     |none=>none
    else none
   |(g',some (.fvar ps))=>if g'=g then some (.box (ps.drop off),[id]) else none
   |_=>none
  | .dw id g i off=>match aj id with
   |(g',some (.arr _ _ es))=>if g'=g then (es[i]?).map fun e=>(.box (e.drop off),[id]) else none
   |(g',some (.oR _ _ es))=>if g'=g then (es[i]?).map fun e=>(.box (e.drop off),[id]) else none
   |_=>none
  | .hsl id g z off len=>match aj id with
   |(g',some (.arr _ _ es))=>if g'=g/\off+len<=es.length then some (.sl ((es.drop off).take len),[id]) else none
   |(g',some (.oR _ _ es))=>if g'=g/\off+len<=es.length then some (.sl ((es.drop off).take len),[id]) else none
   |(g',some (.iQ _ _ es))=>if g'=g/\off+len<=es.length then
     match collect (collect (snap aj n)) ((es.drop off).take len) with
     |some (ps,r)=>some (.sl ps,id::r)
     |none=>none
    else none
   |_=>none
  | .jV id g=>match aj id with
   |(g',some (.map ag es))=>if g'=g then some (.mp ag es,[id]) else none
   |(g',some (.fmap ag es))=>if g'=g then some (.mp ag es,[id]) else none
   |_=>none
  | .hfn f a b=>match collect (snap aj n) a,collect (snap aj n) b with
   |some (x,r),some (y,s)=>some (.fn f x y,r++s)
   |_,_=>none
def eL:Nat:=6
def nA(aj:aq):V->Option (V×List Nat)
 | .one c=>(snap aj eL c).map fun(v,r)=>(.one (.p v),r)
 | .agg cs=>(collect (snap aj eL) cs).map fun(vs,r)=>(.agg (vs.map .p),r)
 |_=>none
def An(aj:aq)(all:List Nat)(id:Nat):Option (List eG):=
 match aj id with
 |(g,some (.var cs))=>match collect (snap aj eL) cs with
  |some (ps,r)=>if r.all all.contains then some [(id,(g,some (.fvar ps)))] else none
  |none=>none
 |(g,some (.arr ty sz es))=>some [(id,(g,some (.oR ty sz es)))]
 |(g,some (.iQ ty sz es))=>match collect (collect (snap aj eL)) es with
  |some (ps,r)=>if r.all all.contains then some [(id,(g,some (.oR ty sz ps)))] else none
  |none=>none
 |(g,some (.map ag es))=>some [(id,(g,some (.fmap ag es)))]
 |(_,none)=>none
 |_=>some []
def rL(aj:aq)(all:List Nat):List Nat->Option (List eG)
 |[]=>some []
 |i::r=>match An aj all i,rL aj all r with
  |some a,some b=>some (a++b)
  |_,_=>none
def qd(aj:aq)(ids:List Nat):Option (List eG):=rL aj ids ids
inductive RC where
 |p (v:PV)
 |own (ty sz:Nat) (es:List (List PV))
 deriving Inhabited
inductive RV where
 |one (c:RC)
 |agg (cs:List RC)
 |tup (vs:List RV)
 deriving Inhabited
def RC.pure:RC->RC
 | .p v=>.p v
 | .own _ _ es=>.p (.sl es)
def RV.GP:RV->RV
 | .one c=>.one c.pure
 | .agg cs=>.agg (cs.map RC.pure)
 | .tup vs=>.tup vs
def RV.pure:RV->RV
 | .tup vs=>.tup (vs.map RV.GP)
 |v=>v.GP
def RV.ig(b:Bool)(r:RV):RV:=match b with
 |true=>r.pure
 |false=>r
def PV.scalar:PV->Bool
 | .bool _| .int _ _| .str _| .uG| .nils| .rj| .yn| .nili| .ifc| .zs=>true
 |_=>false
def RC.alone:RC->Bool
 | .p v=>v.scalar
 | .own _ _ es=>es.all fun e=>e.all PV.scalar
def jc(aj:aq)(c:C):Option (RC×List Nat×List Nat):=
 match c with
 | .p v=>some (.p v,[],[])
 | .hsl id g z 0 len=>match aj id with
  |(g',some (.arr ty sz es))=>if g'=g/\len<=es.length then some (.own ty sz (es.take len),[id],[]) else none
  |_=>(snap aj eL c).map fun(v,r)=>(.p v,[],r)
 |_=>(snap aj eL c).map fun(v,r)=>(.p v,[],r)
def lM(aj:aq):List C->Option (List RC×List Nat×List Nat)
 |[]=>some ([],[],[])
 |c::r=>match jc aj c,lM aj r with
  |some (x,o,q),some (xs,os,qs)=>some (x::xs,o++os,q++qs)
  |_,_=>none
def my:V->Option (List C)
 | .one c=>some [c]
 | .agg cs=>some cs
 |_=>none
def tD:List V->Option (List C)
 |[]=>some []
 |v::r=>match my v,tD r with
  |some a,some b=>some (a++b)
  |_,_=>none
def rK:V->Option (List C)
 | .tup vs=>tD vs
 |v=>my v
def rq:V->List RC->RV×List RC
 | .one _,r::rs=>(.one r,rs)
 | .agg cs,rs=>(.agg (rs.take cs.length),rs.drop cs.length)
 |_,rs=>(.agg [],rs)
def yx:List V->List RC->List RV
 |[],_=>[]
 |v::r,rs=>(rq v rs).1::yx r (rq v rs).2
def ud:V->List RC->RV
 | .tup vs,rs=>.tup (yx vs rs)
 |v,rs=>(rq v rs).1
def apart:List Nat->List Nat->Bool
 |[],_=>true
 |i::r,q=> !r.contains i&& !q.contains i&&apart r q
def iA(aj:aq)(v:V):Option RV:=
 match rK v with
 |some cs=>match lM aj cs with
  |some (x,o,q)=>if apart o q then some (ud v x) else none
  |none=>none
 |none=>none
def cD(aj:aq)(site:Nat):RC->C×List eG
 | .p v=>(.p v,[])
 | .own ty sz es=>(.hsl site ((aj site).1+1) sz 0 es.length,[(site,((aj site).1+1,some (.arr ty sz es)))])
def iU(aj:aq)(site:Nat):List RC->List C×List eG
 |[]=>([],[])
 |c::r=>((cD aj site c).1::(iU aj (site+1) r).1,(cD aj site c).2++(iU aj (site+1) r).2)
def gI:RV->List RC
 | .one c=>[c]
 | .agg cs=>cs
 | .tup _=>[]
def kL:List RV->List RC
 |[]=>[]
 |v::r=>gI v++kL r
def gk:RV->List RC
 | .tup vs=>kL vs
 |v=>gI v
def lN:RV->List C->V×List C
 | .one _,c::cs=>(.one c,cs)
 | .agg rs,cs=>(.agg (cs.take rs.length),cs.drop rs.length)
 |_,cs=>(.undef,cs)
def pM:List RV->List C->List V
 |[],_=>[]
 |v::r,cs=>(lN v cs).1::pM r (lN v cs).2
def qB:RV->List C->V
 | .tup vs,cs=>.tup (pM vs cs)
 |v,cs=>(lN v cs).1
def RV.alone(r:RV):Bool:=(gk r).all RC.alone
def jm(aj:aq)(site:Nat)(r:RV):V×List eG:=(qB r (iU aj site (gk r)).1,(iU aj site (gk r)).2)
inductive eX where
 |fail
 |done (v:V) (u:List eG) (rd:List Nat)
 |pc (f:Nat) (args:List V) (rd:List Nat) (site:Nat)
 |sc (f:Nat) (args:List V)
def Bf(aj:aq):V->Option (List C×List Nat)
 | .one (.p (.box cs))=>some (cs.map .p,[])
 | .one (.bk id g off)=>match aj id with
  |(g',some (.var cs))=>if g'=g then some (cs.drop off,[id]) else none
  |(g',some (.fvar cs))=>if g'=g then some ((cs.drop off).map .p,[id]) else none
  |_=>none
 | .one (.dw id g i off)=>match aj id with
  |(g',some (.arr _ _ es))=>if g'=g then (es[i]?).map fun e=>((e.drop off).map .p,[id]) else none
  |(g',some (.oR _ _ es))=>if g'=g then (es[i]?).map fun e=>((e.drop off).map .p,[id]) else none
  |(g',some (.iQ _ _ es))=>if g'=g then (es[i]?).map fun e=>(e.drop off,[id]) else none
  |_=>none
 |_=>none
def pP(k:Option Nat)(cs:List C):Option V:=
 match k with
 |none=>match cs with
  |c::_=>some (.one c)
  |[]=>none
 |some n=>if n<=cs.length then some (.agg (cs.take n)) else none
def eN{α:Type}(cs:List α)(off:Nat)(xs:List α):List α:=cs.take off++xs++cs.drop (off+xs.length)
def zW(aj:aq)(a:V)(n:Nat)(xs:List C):eX:=
 if xs.length≠n then .fail else
 match a with
 | .one (.bk id g off)=>match aj id with
  |(g',some (.var cs))=>if g'=g/\off+n<=cs.length then .done .undef [(id,(g,some (.var (eN cs off xs))))] [id] else .fail
  |_=>.fail
 | .one (.dw id g i off)=>match aj id with
  |(g',some (.arr ty sz es))=>match es[i]?,Bp xs with
   |some e,some ps=>if g'=g/\off+n<=e.length then .done .undef [(id,(g,some (.arr ty sz (es.set i (eN e off ps)))))] [id] else .fail
   |_,_=>.fail
  |_=>.fail
 |_=>.fail
def ez(aj:aq):V->Option (List (List PV)×List Nat×List Nat)
 | .one (.p .nils)=>some ([],[],[])
 | .one (.p (.sl es))=>some (es,[],[])
 | .one (.hsl id g z off len)=>match aj id with
  |(g',some (.arr _ _ es))=>if g'=g/\off+len<=es.length then some ((es.drop off).take len,[id],[]) else none
  |(g',some (.oR _ _ es))=>if g'=g/\off+len<=es.length then some ((es.drop off).take len,[id],[]) else none
  |(g',some (.iQ _ _ es))=>if g'=g/\off+len<=es.length then
    match collect (collect (snap aj eL)) ((es.drop off).take len) with
    |some (ps,r)=>some (ps,[id],r)
    |none=>none
   else none
  |_=>if len=0 then some ([],[id],[]) else none
 |_=>none
def gC(sz:Nat)(es:List (List PV)):Bool:=es.all fun e=>e.length==sz
def kD:V->Option Nat
 | .one (.hsl _ _ z _ _)=>some z
 |_=>none
def room:Nat:=140737488355328
def fj(aj:aq)(site ty sz bytes:Nat)(s x:V):eX:=
 match ez aj x with
 |none=>.fail
 |some (new,rd,fr)=>
  if ¬(kD x=some sz\/gC sz new=true) then .fail else
  match qd aj fr with
  |none=>.fail
  |some fu=>
   match s with
   | .one (.p .nils)=>
    if new.length=0 then .done (.one (.p .nils)) fu (rd++fr) else
    if new.length*bytes<=room then
     .done (.one (.hsl site ((aj site).1+1) sz 0 new.length)) (fu++[(site,((aj site).1+1,some (.arr ty sz new)))]) (site::rd++fr)
    else .fail
   | .one (.p .zs)=>
    if new.length=0 then .fail else
    if new.length*bytes<=room then
     .done (.one (.hsl site ((aj site).1+1) sz 0 new.length)) (fu++[(site,((aj site).1+1,some (.arr ty sz new)))]) (site::rd++fr)
    else .fail
   | .one (.hsl id g z 0 len)=>match aj id with
    |(g',some (.arr jQ bN es))=>
     if g'=g/\jQ=ty/\bN=sz/\len<=es.length/\(len+new.length)*bytes<=room/\fr.contains id=false then
      .done (.one (.hsl site ((aj site).1+1) sz 0 (len+new.length)))
       (fu++[(id,(g,none)),(site,((aj site).1+1,some (.arr ty sz (es.take len++new))))]) (site::id::rd++fr)
     else .fail
    |_=>.fail
   | .one (.hsl id g z off len)=>match aj id with
    |(g',some (.arr jQ bN es))=>
     if g'=g/\jQ=ty/\bN=sz/\off+len<=es.length/\(len+new.length)*bytes<=room/\fr.contains id=false/\0<len/\0<new.length then
      .done (.one (.p (.sl ((es.drop off).take len++new)))) (fu++[(id,(g,none))]) (id::rd++fr)
     else .fail
    |_=>.fail
   |_=>.fail
def oN:V->Option Nat
 | .one (.p (.int _ n))=>if 0<=n then some n.toNat else none
 |_=>none
def rF(ak:Env)(d:Nat):Option aQ->Option Nat
 |none=>some d
 |some a=>oN (ev ak a)
def Dc(x:V)(sz lo hi:Nat):eX:=
 if ¬lo<=hi then .fail else
 match x with
 | .one (.p .nils)=>if hi=0 then .done (.one (.p .nils)) [] [] else .fail
 | .one (.p (.sl es))=>if hi<=es.length/\gC sz es=true then .done (.one (.p (.sl ((es.drop lo).take (hi-lo))))) [] [] else .fail
 | .one (.hsl id g z off len)=>if hi<=len/\z=sz then .done (.one (.hsl id g z (off+lo) (hi-lo))) [] [] else .fail
 |_=>.fail
def yh:V->Option Nat
 | .one (.p .nils)=>some 0
 | .one (.p (.sl es))=>some es.length
 | .one (.hsl _ _ _ _ len)=>some len
 |_=>none
def zN(aj:aq):V->Option (Nat×List Nat)
 | .one (.p .rj)=>some (0,[])
 | .one (.p (.mp _ es))=>some (es.length,[])
 | .one (.jV id g)=>match aj id with
  |(g',some (.map _ es))=>if g'=g then some (es.length,[id]) else none
  |(g',some (.fmap _ es))=>if g'=g then some (es.length,[id]) else none
  |_=>none
 |_=>none
def mapOf(aj:aq)(ag:Bool):V->Option (List (PV×List PV)×List Nat)
 | .one (.p .rj)=>some ([],[])
 | .one (.p (.mp rD es))=>if rD=ag then some (es,[]) else none
 | .one (.jV id g)=>match aj id with
  |(g',some (.map rD es))=>if g'=g/\rD=ag then some (es,[id]) else none
  |(g',some (.fmap rD es))=>if g'=g/\rD=ag then some (es,[id]) else none
  |_=>none
 |_=>none
def sameKey:PV->PV->Option Bool
 | .int k a,.int k' b=>if k=k' then some (a==b) else none
 | .str a,.str b=>some (a==b)
 | .bool a,.bool b=>some (a==b)
 |_,_=>none
def iz:PV->Nat
 | .int _ _=>0
 | .str _=>1
 | .bool _=>2
 |_=>3
def mapVal:Bool->List PV->Option V
 |true,cs=>some (.agg (cs.map .p))
 |false,[c]=>some (.one (.p c))
 |false,_=>none
def oU(k:PV):List (PV×List PV)->Nat->Option (Option (Nat×List PV))
 |[],_=>some none
 |(a,v)::r,i=>match sameKey k a with
  |some true=>some (some (i,v))
  |some false=>oU k r (i+1)
  |none=>none
def xv:Bool->V->Option (List C)
 |false,.one c=>some [c]
 |true,.agg cs=>some cs
 |_,_=>none
def tn(op:BinOp)(k:IntKind)(a b:Int):Option PV:=
 match op with
 | .add=>some (.int k (k.wrap (a+b)))
 | .sub=>some (.int k (k.wrap (a-b)))
 | .mul=>some (.int k (k.wrap (a*b)))
 | .quo=>if b=0 then none else some (.int k (k.wrap (a.tdiv b)))
 | .rem=>if b=0 then none else some (.int k (a.tmod b))
 | .eql=>some (.bool (a==b))
 | .neq=>some (.bool (a !=b))
 | .lss=>some (.bool (decide (a<b)))
 | .leq=>some (.bool (decide (a<=b)))
 | .gtr=>some (.bool (decide (b<a)))
 | .geq=>some (.bool (decide (b<=a)))
 | .and=>some (.int k (k.wrap (BitVec.ofInt k.bits a&&& BitVec.ofInt k.bits b).toNat))
 | .shl=>if b<0 then none else some (.int k (k.wrap (a*2 ^ min b.toNat k.bits)))
 | .shr=>if b<0 then none else some (.int k (a.fdiv (2 ^ min b.toNat k.bits)))
 |_=>none
def HD(op:BinOp)(a b:ByteArray):Option PV:=
 match op with
 | .add=>if a.size+b.size<=9223372036854775807 then some (.str (a++b)) else none
 | .eql=>some (.bool (a.toList==b.toList))
 | .neq=>some (.bool (!(a.toList==b.toList)))
 |_=>none
def qI(op:BinOp):V->V->Option V
 | .one (.p (.int k a)),.one (.p (.int k' b))=>if k=k'\/op=.shl\/op=.shr then (tn op k a b).map fun v=>.one (.p v) else none
 | .one (.p (.str a)),.one (.p (.str b))=>(HD op a b).map fun v=>.one (.p v)
 |_,_=>none
def uv:Bool->PV->PV->Option Bool
 |true,.int k a,.int k' b=>if k=k' then some (a==b) else none
 |false,.bool a,.bool b=>some (a==b)
 |_,_,_=>none
def uX:List Bool->List C->List C->Option Bool
 |[],[],[]=>some true
 |k::ks,.p a::r,.p b::s=>match uv k a b with
  |some true=>uX ks r s
  |some false=>some false
  |none=>none
 |_,_,_=>none
def Gx:uN->V->Option Bool
 | .ptr,.one (.p .uG)=>some true
 | .ptr,.one (.p (.box _))=>some false
 | .ptr,.one (.bk _ _ _)=>some false
 | .ptr,.one (.dw _ _ _ _)=>some false
 | .slc,.one (.p .nils)=>some true
 | .slc,.one (.p (.sl (_::_)))=>some false
 | .slc,.one (.hsl _ _ _ _ _)=>some false
 | .map,.one (.p .rj)=>some true
 | .map,.one (.p (.mp _ _))=>some false
 | .map,.one (.jV _ _)=>some false
 | .fnc,.one (.p .yn)=>some true
 | .fnc,.one (.p (.fn _ _ _))=>some false
 | .fnc,.one (.hfn _ _ _)=>some false
 | .ifc,.one (.p .nili)=>some true
 | .ifc,.one (.p .ifc)=>some false
 |_,_=>none
def Cg:uN->V->V->Option Bool
 | .bool,.one (.p (.bool a)),.one (.p (.bool b))=>some (a==b)
 | .str ks,.agg a,.agg b=>uX ks a b
 | .bool,_,_=>none
 | .str _,_,_=>none
 |k,a,b=>if Gx k b=some true then Gx k a else if Gx k a=some true then Gx k b else none
def fill(cs:List C):List (Nat×List C)->List C
 |[]=>cs
 |(off,xs)::r=>fill (eN cs off xs) r
def yr(ak:Env):List (Nat×Nat×aQ)->Option (List (Nat×List C))
 |[]=>some []
 |(off,n,a)::r=>match rG (ev ak a),yr ak r with
  |some cs,some q=>if cs.length=n then some ((off,cs)::q) else none
  |_,_=>none
def za(ak:Env)(sz:Nat):List aQ->Option (List (List C))
 |[]=>some []
 |a::r=>match rG (ev ak a),za ak sz r with
  |some cs,some q=>if cs.length=sz then some (cs::q) else none
  |_,_=>none
def Bq:List (List C)->Option (List (List PV))
 |[]=>some []
 |c::r=>match Bp c,Bq r with
  |some v,some vs=>some (v::vs)
  |_,_=>none
def DU(ak:Env)(a:aQ):Option (Nat×List C×List C):=
 match ev ak a with
 | .one (.p (.fn f x y))=>some (f,x.map .p,y.map .p)
 | .one (.hfn f x y)=>some (f,x,y)
 |_=>none
def Bl(aj:aq):List V->Option (List V×List Nat):=collect (nA aj)
def bytesOf:List (List PV)->Option (List UInt8)
 |[]=>some []
 |[.int .u8 n]::r=>(bytesOf r).map (UInt8.ofNat n.toNat:: ·)
 |_::_=>none
def vq(ak:Env):List aQ->Option (List C)
 |[]=>some []
 |a::r=>match ev ak a,vq ak r with
  | .one c,some q=>some (c::q)
  |_,_=>none
def bn(shared:Nat->Bool)(ak:Env)(aj:aq):mT->eX
 | .ym x=>.done (ev ak x) [] []
 | .pick c a b=>match ev ak c with
  | .one (.p (.bool t))=>.done (if t then ev ak a else ev ak b) [] []
  |_=>.fail
 | .alloc s z=>.done (.one (.bk s ((aj s).1+1) 0)) [(s,((aj s).1+1,some (.var (z.map .p))))] [s]
 | .box s x=>match rG (ev ak x) with
  |some cs=>.done (.one (.bk s ((aj s).1+1) 0)) [(s,((aj s).1+1,some (.var cs)))] [s]
  |none=>.fail
 | .build z ps=>match yr ak ps with
  |some q=>.done (.agg (fill (z.map .p) q)) [] []
  |none=>.fail
 | .DE s ty sz ps=>match za ak sz ps with
  |some es=>match Bq es with
   |some qs=>.done (.one (.hsl s ((aj s).1+1) sz 0 es.length)) [(s,((aj s).1+1,some (.arr ty sz qs)))] [s]
   |none=>.done (.one (.hsl s ((aj s).1+1) sz 0 es.length)) [(s,((aj s).1+1,some (.iQ ty sz es)))] [s]
  |none=>.fail
 | .load k x=>match Bf aj (ev ak x) with
  |some (cs,r)=>match pP k cs with
   |some v=>.done v [] r
   |none=>.fail
  |none=>.fail
 | .store n a x=>match rG (ev ak x) with
  |some xs=>zW aj (ev ak a) n xs
  |none=>.fail
 | .Jq x=>match ev ak x with
  | .one (.bk id g o)=>.done (.one (.bk id g o)) [] []
  | .one (.dw id g i o)=>.done (.one (.dw id g i o)) [] []
  | .one (.p (.box cs))=>.done (.one (.p (.box cs))) [] []
  | .one (.hfn f a b)=>.done (.one (.hfn f a b)) [] []
  | .one (.p (.fn f a b))=>.done (.one (.p (.fn f a b))) [] []
  |_=>.fail
 | .bin op x y=>match qI op (ev ak x) (ev ak y) with
  |some v=>.done v [] []
  |none=>.fail
 | .eqc k neg x y=>match Cg k (ev ak x) (ev ak y) with
  |some b=>.done (.one (.p (.bool (if neg then !b else b)))) [] []
  |none=>.fail
 | .un op x=>match op,ev ak x with
  | .not,.one (.p (.bool b))=>.done (.one (.p (.bool (!b)))) [] []
  | .neg,.one (.p (.int k n))=>.done (.one (.p (.int k (k.wrap (0-n))))) [] []
  |_,_=>.fail
 | .conv k x=>match ev ak x with
  | .one (.p (.int _ n))=>.done (.one (.p (.int k (k.wrap n)))) [] []
  |_=>.fail
 | .bstr x=>match ez aj (ev ak x) with
  |some (es,r,[])=>match bytesOf es with
   |some bs=>.done (.one (.p (.str ⟨bs.toArray⟩))) [] r
   |none=>.fail
  |_=>.fail
 | .mkfn f a b=>match vq ak a,vq ak b with
  |some x,some y=>.done (.one (.hfn f x y)) [] []
  |_,_=>.fail
 | .mkmap s ag=>.done (.one (.jV s ((aj s).1+1))) [(s,((aj s).1+1,some (.map ag [])))] [s]
 | .Jj s ty sz bytes z l c=>match oN (ev ak l),oN (ev ak c) with
  |some n,some m=>if n=m/\n*bytes<=room then
    .done (.one (.hsl s ((aj s).1+1) sz 0 n)) [(s,((aj s).1+1,some (.arr ty sz (List.replicate n z))))] [s]
   else .fail
  |_,_=>.fail
 | .slice sz x lo hi=>match yh (ev ak x) with
  |some n=>match rF ak 0 lo,rF ak n hi with
   |some l,some h=>Dc (ev ak x) sz l h
   |_,_=>.fail
  |none=>.fail
 | .sslice x lo hi=>match ev ak x with
  | .one (.p (.str s))=>match rF ak 0 lo,rF ak s.size hi with
   |some l,some h=>if l<=h/\h<=s.size then .done (.one (.p (.str (s.extract l h)))) [] [] else .fail
   |_,_=>.fail
  |_=>.fail
 | .FP off x=>match ev ak x with
  | .one (.bk id g o)=>.done (.one (.bk id g (o+off))) [] []
  | .one (.dw id g i o)=>.done (.one (.dw id g i (o+off))) [] []
  | .one (.p (.box cs))=>.done (.one (.p (.box (cs.drop off)))) [] []
  |_=>.fail
 | .Gu sz x i=>match oN (ev ak i),ev ak x with
  |some n,.one (.p (.sl es))=>match es[n]? with
   |some e=>if e.length=sz then .done (.one (.p (.box e))) [] [] else .fail
   |none=>.fail
  |some n,.one (.hsl id g z off len)=>if n<len/\z=sz then .done (.one (.dw id g (off+n) 0)) [] [] else .fail
  |_,_=>.fail
 | .Hw len sz x i=>match oN (ev ak i),ev ak x with
  |some n,.one (.bk id g o)=>if n<len then .done (.one (.bk id g (o+n*sz))) [] [] else .fail
  |some n,.one (.dw id g j o)=>if n<len then .done (.one (.dw id g j (o+n*sz))) [] [] else .fail
  |some n,.one (.p (.box cs))=>if n<len then .done (.one (.p (.box (cs.drop (n*sz))))) [] [] else .fail
  |_,_=>.fail
 | .fld off k x=>match ev ak x with
  | .agg cs=>match pP k (cs.drop off) with
   |some v=>.done v [] []
   |none=>.fail
  |_=>.fail
 | .aidx len sz k x i=>match oN (ev ak i),ev ak x with
  |some n,.agg cs=>if n<len then
    match pP k (cs.drop (n*sz)) with
    |some v=>.done v [] []
    |none=>.fail
   else .fail
  |_,_=>.fail
 | .sidx x i=>match oN (ev ak i),ev ak x with
  |some n,.one (.p (.str s))=>match s[n]? with
   |some b=>.done (.one (.p (.int .u8 b.toNat))) [] []
   |none=>.fail
  |_,_=>.fail
 | .lookup kd z agg ok x k=>match mapOf aj agg (ev ak x),ev ak k with
  |some (es,r),.one (.p q)=>if iz q≠kd then .fail else match oU q es 0 with
   |some f=>match mapVal agg ((f.map (·.2)).getD z) with
    |some w=>.done (if ok then .tup [w,.one (.p (.bool f.isSome))] else w) [] r
    |none=>.fail
   |none=>.fail
  |_,_=>.fail
 | .bad=>.fail
 | .mupd kd ag m k v=>match ev ak m,ev ak k,xv ag (ev ak v) with
  | .one (.jV id g),.one (.p q),some cs=>match aj id,Bp cs with
   |(g',some (.map rD es)),some ps=>if g'=g/\rD=ag/\iz q=kd then
     match oU q es 0 with
     |some (some (i,_))=>.done .undef [(id,(g,some (.map ag (es.set i (q,ps)))))] [id]
     |some none=>.done .undef [(id,(g,some (.map ag (es++[(q,ps)]))))] [id]
     |none=>.fail
    else .fail
   |_,_=>.fail
  |_,_,_=>.fail
 | .extract x i=>match ev ak x with
  | .tup vs=>match vs[i]? with
   |some v=>.done v [] []
   |none=>.fail
  |_=>.fail
 | .call s f as=>match DU ak f with
  |some (g,a,b)=>
   if shared g then .sc g (a.map .one++as.map (ev ak)++b.map .one)
   else match Bl aj (a.map .one++as.map (ev ak)++b.map .one) with
    |some (vs,r)=>.pc g vs r s
    |none=>.fail
  |none=>.fail
 | .slen x=>match ev ak x with
  | .one (.p (.str s))=>.done (.one (.p (.int .i64 s.size))) [] []
  |_=>.fail
 | .Jh x=>match yh (ev ak x) with
  |some n=>.done (.one (.p (.int .i64 n))) [] []
  |none=>.fail
 | .mlen x=>match zN aj (ev ak x) with
  |some (n,r)=>.done (.one (.p (.int .i64 n))) [] r
  |none=>.fail
 | .append s ty sz bytes d x=>fj aj s ty sz bytes (ev ak d) (ev ak x)
 | .max x y=>match ev ak x,ev ak y with
  | .one (.p (.int k a)),.one (.p (.int _ b))=>.done (.one (.p (.int k (if b>a then b else a)))) [] []
  |_,_=>.fail
 | .min x y=>match ev ak x,ev ak y with
  | .one (.p (.int k a)),.one (.p (.int _ b))=>.done (.one (.p (.int k (if b<a then b else a)))) [] []
  |_,_=>.fail
 | .clear z x=>match ev ak x with
  | .one (.p .nils)=>.done (.tup []) [] []
  | .one (.p (.sl []))=>.done (.tup []) [] []
  | .one (.hsl id g _ off len)=>if len=0 then .done (.tup []) [] [] else match aj id with
   |(g',some (.arr ty sz es))=>if g'=g/\sz=z.length/\off+len<=es.length then .done (.tup []) [(id,(g,some (.arr ty sz (eN es off (List.replicate len z)))))] [id] else .fail
   |_=>.fail
  |_=>.fail
structure bR where
 rd:List Nat
 wr:List Nat
 fs:List Nat
structure Al where
 any:Bool
 ids:List Nat
 fs:List Nat
def Al.all:Al:=⟨true,[],[]⟩
def je(id:Nat):Nat:=id/64000000
def Al.ok(a:Al)(id:Nat):Bool:=a.any||a.ids.contains id||a.fs.contains (je id)
def Al.ff(a:Al)(l:List Nat):Bool:=l.all a.ok
def Al.holds(a b:Al):Bool:=a.any||(a.ff b.ids&&b.fs.all a.fs.contains)
structure Ctx where
 shared:Nat->Bool
 sites:Nat->List Nat
 lone:Nat->Bool
 al:Al
def jO(aj:aq):Nat->C->List Nat
 |0,_=>[]
 |n+1,c=>match c with
  | .p _=>[]
  | .bk id _ _=>id::match aj id with
   |(_,some (.var cs))=>(cs.map (jO aj n)).flatten
   |_=>[]
  | .dw id _ _ _=>id::match aj id with
   |(_,some (.iQ _ _ es))=>(es.flatten.map (jO aj n)).flatten
   |_=>[]
  | .hsl id _ _ _ _=>id::match aj id with
   |(_,some (.iQ _ _ es))=>(es.flatten.map (jO aj n)).flatten
   |_=>[]
  | .jV id _=>[id]
  | .hfn _ a b=>(a.map (jO aj n)).flatten++(b.map (jO aj n)).flatten
def jd(aj:aq):V->List Nat
 | .one c=>jO aj eL c
 | .agg cs=>(cs.map (jO aj eL)).flatten
 |_=>[]
def allow(sh:Ctx)(f:Nat)(vs:List V)(aj:aq):Al:=⟨false,(vs.map (jd aj)).flatten,sh.sites f⟩
def put(ak:Env)(d:Option Nat)(v:V):Env:=
 match d with
 |some t=>dB ak t v
 |none=>ak
abbrev fE:=Nat->List V->Option RV
abbrev jF:=Nat->List V->Al->aq->Option (V×aq)
def land(aj:aq)(rd:List Nat)(site:Nat)(r:RV):Option (V×List eG):=
 if rd=[]\/r.alone then some (jm aj site r)
 else match qd aj rd with
  |some u=>some ((jm aj site r).1,u++(jm aj site r).2)
  |none=>none
def wanted(ak:Env):Option (Nat×Bool)->Option Bool
 |none=>some true
 |some (t,want)=>match ak t with
  | .one (.p (.bool b))=>some (b==want)
  | .undef=>some false
  |_=>none
def step1(sh:Ctx)(cp:fE)(cs:jF)(o:bl)(ak:Env)(aj:aq):Option (Env×aq×bR):=
 match wanted ak o.guard with
 |none=>none
 |some false=>some (put ak o.dst .undef,aj,⟨[],[],[]⟩)
 |some true=>match bn sh.shared ak aj o.op with
  | .fail=>none
  | .done v u r=>if sh.al.ff (r++u.map (·.1)) then some (put ak o.dst v,app u aj,⟨r,u.map (·.1),[]⟩) else none
  | .pc f vs r s=>match cp f vs with
   |some x=>match land aj r s (x.ig (sh.lone s)) with
    |some (v,u)=>if sh.al.ff (r++u.map (·.1)) then some (put ak o.dst v,app u aj,⟨r++u.map (·.1),u.map (·.1),[]⟩) else none
    |none=>none
   |none=>none
  | .sc f vs=>if sh.al.holds (allow sh f vs aj) then
    match cs f vs (allow sh f vs aj) aj with
    |some (v,ao)=>some (put ak o.dst v,ao,⟨(allow sh f vs aj).ids,(allow sh f vs aj).ids,(allow sh f vs aj).fs⟩)
    |none=>none
   else none
def steps(sh:Ctx)(cp:fE)(cs:jF):List bl->Env->aq->Option (Env×aq×List bR)
 |[],ak,aj=>some (ak,aj,[])
 |o::r,ak,aj=>match step1 sh cp cs o ak aj with
  |some (aD,ao,e)=>match steps sh cp cs r aD ao with
   |some (K6,HE,es)=>some (K6,HE,e::es)
   |none=>none
  |none=>none
def meets(a b:List Nat):Bool:=a.any fun i=>b.contains i
def Gw(fs ids:List Nat):Bool:=ids.any fun i=>fs.contains (je i)
def FD(a b:bR):Bool:=meets a.wr b.rd||meets a.wr b.wr||meets a.rd b.wr||meets a.fs b.fs||Gw a.fs (b.rd++b.wr)||Gw b.fs (a.rd++a.wr)
def Qh(anc:Nat)(e:bR):Nat->List bR->Bool
 |_,[]=>true
 |j,x::r=>(anc.testBit j|| !FD x e)&&Qh anc e (j+1) r
def tX:List bl->List bR->List bR->Bool
 |o::os,past,e::es=>Qh o.anc e 0 past&&tX os (past++[e]) es
 |_,_,_=>true
inductive lz where
 |normal
 |exit (id:Nat)
 |ret
def iter(f:Env->aq->Option (lz×Env×aq)):Nat->Env->aq->Option (lz×Env×aq)
 |0,_,_=>none
 |n+1,ak,aj=>match f ak aj with
  |some (.normal,aD,ao)=>iter f n aD ao
  |r=>r
def exec(sh:Ctx)(cp:fE)(cs:jF)(n:Nat):aJ->Env->aq->Option (lz×Env×aq)
 | .skip,ak,aj=>some (.normal,ak,aj)
 | .region d ops,ak,aj=>match steps sh cp cs ops ak aj with
  |some (aD,ao,es)=>if d then (if tX ops [] es then some (.normal,aD,ao) else none) else some (.normal,aD,ao)
  |none=>none
 | .seq a b,ak,aj=>match exec sh cp cs n a ak aj with
  |some (.normal,aD,ao)=>exec sh cp cs n b aD ao
  |r=>r
 | .cond x a b,ak,aj=>match ev ak x with
  | .one (.p (.bool t))=>if t then exec sh cp cs n a ak aj else exec sh cp cs n b ak aj
  |_=>none
 | .block id c,ak,aj=>match exec sh cp cs n c ak aj with
  |some (.exit i,aD,ao)=>if i=id then some (.normal,aD,ao) else some (.exit i,aD,ao)
  |r=>r
 | .loop c,ak,aj=>iter (exec sh cp cs n c) n ak aj
 | .exit id,ak,aj=>some (.exit id,ak,aj)
 | .ret,ak,aj=>some (.ret,ak,aj)
 | .bad,_,_=>none
def rX(args:List V):Env:=fun i=>args.getD i .undef
def Qf:V->Option V
 | .tup _=>none
 |v=>some v
def oz(al:Al)(ak:Env)(aj:aq):List (Nat×Option (Option Nat))->Option (List V)
 |[]=>some []
 |(t,none)::r=>match Qf (ak t),oz al ak aj r with
  |some v,some q=>some (v::q)
  |_,_=>none
 |(t,some k)::r=>match Bf aj (ak t),oz al ak aj r with
  |some (cs,rd),some q=>if al.ff rd then (pP k cs).map (· ::q) else none
  |_,_=>none
def zV:List V->V
 |[v]=>v
 |vs=>.tup vs
def zO:aq:=fun _=>(0,none)
def ru(sh:Ctx)(cp:fE)(cs:jF)(n:Nat)(fn:aW)(args:List V)(aj:aq):Option (V×aq):=
 match exec sh cp cs n fn.body (rX args) aj with
 |some (.normal,ak,ao)=>(oz sh.al ak ao fn.results).map fun vs=>(zV vs,ao)
 |some (.ret,ak,ao)=>(oz sh.al ak ao fn.results).map fun vs=>(zV vs,ao)
 |_=>none
def EU(sh:Ctx)(cp:fE)(cs:jF)(n:Nat)(fn:aW)(args:List V):Option RV:=
 match ru sh cp cs n fn args zO with
 |some (v,aj)=>iA aj v
 |none=>none
structure Sys where
 P:Program
 shared:Nat->Bool
 sites:Nat->List Nat
 lone:Nat->Bool
 fns:Nat->Option aW
 prim:Nat->List V->Option (Option RV)
 trig:Nat->List V->Bool:=fun _ _=>false
 primS:Nat->List V->Al->aq->Option (V×List eG):=fun _ _ _ _=>none
def Sys.ctx(S:Sys)(a:Al):Ctx:=⟨S.shared,S.sites,S.lone,a⟩
mutual
def gh(S:Sys):Nat->fE
 |0,_,_=>none
 |n+1,f,args=>match S.prim f args with
  |some r=>r
  |none=>match S.fns f with
   |some fn=>if args.length<=fn.ntmps then EU (S.ctx .all) (gh S n) (gj S n) n fn args else none
   |none=>none
def gj(S:Sys):Nat->jF
 |0,_,_,_,_=>none
 |n+1,f,args,al,aj=>if S.trig f args=true then (S.primS f args al aj).map (fun r=>(r.1,app r.2 aj)) else match S.fns f with
  |some fn=>if args.length<=fn.ntmps then ru (S.ctx al) (gh S n) (gj S n) n fn args aj else none
  |none=>none
end
def aI(S:Sys)(f:Nat)(args:List V)(r:RV):Prop:= ∃n,gh S n f args=some r
def iJ(S:Sys)(f:Nat)(args:List V)(al:Al)(aj:aq)(v:V)(ao:aq):Prop:= ∃n,gj S n f args al aj=some (v,ao)
abbrev dy:=lz->Env->aq->Prop
def W (S:Sys)(al:Al)(c:aJ)(Q:dy)(ak:Env)(aj:aq):Prop:=∃n e aD ao,exec (S.ctx al) (gh S n) (gj S n) n c ak aj=some (e,aD,ao)/\Q e aD ao
def WO (S:Sys)(al:Al)(ops:List bl)(Q:Env->aq->List bR->Prop)(ak:Env)(aj:aq)(tr:List bR):Prop:=∃n aD ao es,steps (S.ctx al) (gh S n) (gj S n) ops ak aj=some (aD,ao,es)/\Q aD ao (tr++es)
end Go.Abs
namespace Go.Abs
section
variable{m:Nat}
def PLe(a b:fE):Prop:=∀f x r,a f x=some r->b f x=some r
def SLe(a b:jF):Prop:=∀f x l k r,a f x l k=some r->b f x l k=some r
section
variable {sh:Ctx} {cp mV:fE} {cs DP:jF} (hp:PLe cp mV) (hs:SLe cs DP)
include hp hs
theorem agE{o:bl}{ak:Env}{aj:aq}{r:Env×aq×bR}(h:step1 sh cp cs o ak aj=some r):step1 sh mV DP o ak aj=some r:=by
 unfold step1 at h ⊢;cases hw:wanted ak o.guard with
 |none=>simp[hw] at h
 |some b=>
  cases b with
  |false=>simpa [hw] using h
  |true=>
   simp only[hw] at h ⊢;cases bK:bn sh.shared ak aj o.op with
   |fail=>simp[bK] at h
   |done v u rd=>simpa [bK] using h
   |pc f vs rd s=>
    simp only[bK] at h ⊢;cases hc:cp f vs with
    |none=>simp[hc] at h
    |some x=>rw[hp _ _ _ hc];simpa [hc] using h
   |sc f vs=>
    simp only[bK] at h ⊢;split at h
    .rename_i ha;rw[if_pos ha];cases hc:cs f vs (allow sh f vs aj) aj with
     |none=>simp[hc] at h
     |some x=>rw[hs _ _ _ _ _ hc];simpa [hc] using h
    cases h
theorem agI:∀ {ops:List bl} {ak:Env} {aj:aq} {r:Env×aq×List bR},steps sh cp cs ops ak aj=some r->steps sh mV DP ops ak aj=some r:=by
 intro ops
 induction ops with
 |nil=>intro ak aj r h;simpa [steps] using h
 |cons o os ih=>
  intro ak aj r h;simp only[steps] at h ⊢;cases h1:step1 sh cp cs o ak aj with
  |none=>simp[h1] at h
  |some x=>
   obtain⟨e1,b1,f1⟩:=x;rw[agE hp hs h1];simp only[h1] at h ⊢;cases h2:steps sh cp cs os e1 b1 with
   |none=>simp[h2] at h
   |some y=>rw[ih h2];simpa [h2] using h
omit hp hs in
theorem acX{f g:Env->aq->Option (lz×Env×aq)}(hfg:∀e b r,f e b=some r->g e b=some r):
  ∀ {n m:Nat} {ak:Env} {aj:aq} {r:lz×Env×aq},n<=m->iter f n ak aj=some r->iter g m ak aj=some r:=by
 intro n
 induction n with
 |zero=>intro m ak aj r _ h;simp[iter] at h
 |succ n ih=>
  intro m ak aj r hm h;obtain⟨m,rfl⟩:∃k,m=k+1:=⟨m-1,aa⟩;simp only[iter] at h ⊢;cases hf:f ak aj with
  |none=>simp[hf] at h
  |some x=>
   obtain⟨e,e1,b1⟩:=x;rw[hfg _ _ _ hf];cases e with
   |normal=>simp only[hf] at h ⊢;exact ih aa h
   |exit i=>simpa [hf] using h
   |ret=>simpa [hf] using h
theorem Z9{n:Nat}(Mw:n<=m):∀ {c:aJ} {ak:Env} {aj:aq} {r:lz×Env×aq},exec sh cp cs n c ak aj=some r->exec sh mV DP m c ak aj=some r:=by
 intro c
 induction c with
 |skip=>intro ak aj r h;simpa [exec] using h
 |region d ops=>
  intro ak aj r h;simp only[exec] at h ⊢;cases h1:steps sh cp cs ops ak aj with
  |none=>simp[h1] at h
  |some x=>rw[agI hp hs h1];simpa [h1] using h
 |seq a b iha ihb=>
  intro ak aj r h;simp only[exec] at h ⊢;cases h1:exec sh cp cs n a ak aj with
  |none=>simp[h1] at h
  |some x=>
   obtain⟨e,e1,b1⟩:=x;rw[iha h1];cases e with
   |normal=>simp only[h1] at h ⊢;exact ihb h
   |exit i=>simpa [h1] using h
   |ret=>simpa [h1] using h
 |cond x a b iha ihb=>
  intro ak aj r h;simp only[exec] at h ⊢;split at h
  .split at h
   .rename_i ht;simp only[ht,if_true];exact iha h
   rename_i ht;simp only[ht];exact ihb h
  cases h
 |block id c ih=>
  intro ak aj r h;simp only[exec] at h ⊢;cases h1:exec sh cp cs n c ak aj with
  |none=>simp[h1] at h
  |some x=>rw[ih h1];simpa [h1] using h
 |loop c ih=>intro ak aj r h;simp only[exec] at h ⊢;exact acX (fun _ _ _ h=>ih h) Mw h
 |exit id=>intro ak aj r h;simpa [exec] using h
 |ret=>intro ak aj r h;simpa [exec] using h
 |bad=>intro ak aj r h;simp[exec] at h
theorem QL{n:Nat}(Mw:n<=m){fn:aW}{args:List V}{aj:aq}{r:V×aq}(h:ru sh cp cs n fn args aj=some r):ru sh mV DP m fn args aj=some r:=by
 unfold ru at h ⊢;cases h1:exec sh cp cs n fn.body (rX args) aj with
 |none=>simp[h1] at h
 |some x=>rw[Z9 hp hs Mw h1];simpa [h1] using h
theorem af0{n:Nat}(Mw:n<=m){fn:aW}{args:List V}{r:RV}(h:EU sh cp cs n fn args=some r):EU sh mV DP m fn args=some r:=by
 unfold EU at h ⊢;cases h1:ru sh cp cs n fn args zO with
 |none=>simp[h1] at h
 |some x=>rw[QL hp hs Mw h1];simpa [h1] using h
end
theorem YD(S:Sys):∀n,PLe (gh S n) (gh S (n+1))/\SLe (gj S n) (gj S (n+1)):=by
 intro n
 induction n with
 |zero=>exact⟨fun f x r h=>by simp[gh] at h,fun f x l k r h=>by simp[gj] at h⟩
 |succ n ih=>
  refine⟨fun f x r h=>?_,fun f x l k r h=>?_⟩
  .rw[gh] at h ⊢;cases hp:S.prim f x with
   |some r'=>simpa [hp] using h
   |none=>
    simp only[hp] at h ⊢;cases hf:S.fns f with
    |none=>simp[hf] at h
    |some fn=>
     simp only[hf] at h ⊢;split at h
     .rename_i hl;rw[if_pos hl];exact af0 ih.1 ih.2 aa h
     cases h
  rw[gj] at h ⊢;by_cases ht:S.trig f x=true
  .rw[if_pos ht] at h ⊢;exact h
  rw[if_neg ht] at h ⊢;cases hf:S.fns f with
  |none=>simp[hf] at h
  |some fn=>
   simp only[hf] at h ⊢;split at h
   .rename_i hl;rw[if_pos hl];exact QL ih.1 ih.2 aa h
   cases h
theorem DF(S:Sys){n:Nat}(h:n<=m):PLe (gh S n) (gh S m):=by
 induction h with
 |refl=>exact fun _ _ _ h=>h
 |step _ ih=>exact fun f x r hr=>(YD S _).1 f x r (ih f x r hr)
theorem KK(S:Sys){n:Nat}(h:n<=m):SLe (gj S n) (gj S m):=by
 induction h with
 |refl=>exact fun _ _ _ _ _ h=>h
 |step _ ih=>exact fun f x l k r hr=>(YD S _).2 f x l k r (ih f x l k r hr)
theorem aI.Ag{S:Sys}{f:Nat}{args:List V}{r r':RV}(h:aI S f args r)(h':aI S f args r'):r=r':=by obtain⟨n,hn⟩:=h;obtain⟨m,hm⟩:=h';have a:=DF S (Fl n m) _ _ _ hn;have b:=DF S (Hp n m) _ _ _ hm;rw[a] at b;exact qF b
theorem zb(S:Sys){al:Al}{n:Nat}(h:n<=m){c:aJ}{ak:Env}{aj:aq}{r:lz×Env×aq}(hr:exec (S.ctx al) (gh S n) (gj S n) n c ak aj=some r):
  exec (S.ctx al) (gh S m) (gj S m) m c ak aj=some r:=Z9 (DF S h) (KK S h) h hr
theorem atx(S:Sys){al:Al}{n:Nat}(h:n<=m){ops:List bl}{ak:Env}{aj:aq}{r:Env×aq×List bR}(hr:steps (S.ctx al) (gh S n) (gj S n) ops ak aj=some r):
  steps (S.ctx al) (gh S m) (gj S m) ops ak aj=some r:=agI (DF S h) (KK S h) hr
variable {S:Sys} {al:Al} {Q:dy} {ak:Env} {aj:aq}
theorem W.mono{c:aJ}{Q':dy}(h:W S al c Q ak aj)(hq:∀e ak aj,Q e ak aj->Q' e ak aj):W S al c Q' ak aj:=by obtain⟨n,e,aD,ao,h1,h2⟩:=h;exact⟨n,e,aD,ao,h1,hq _ _ _ h2⟩
theorem ahZ(h:Q .normal ak aj):W S al .skip Q ak aj:=⟨0,_,_,_,rfl,h⟩
theorem ahS{id:Nat}(h:Q (.exit id) ak aj):W S al (.exit id) Q ak aj:=⟨0,_,_,_,rfl,h⟩
theorem ahV(h:Q .ret ak aj):W S al .ret Q ak aj:=⟨0,_,_,_,rfl,h⟩
def JY(next:Env->aq->Prop)(Q:dy):dy
 | .normal,ak,aj=>next ak aj
 |e,ak,aj=>Q e ak aj
theorem ahW{a b:aJ}(h:W S al a (JY (W S al b Q) Q) ak aj):W S al (.seq a b) Q ak aj:=by
 obtain⟨n,e,aD,ao,h1,h2⟩:=h;cases e with
 |normal=>obtain⟨m,e,cZ,aZ,h3,h4⟩:=h2;refine⟨max n m,e,cZ,aZ,?_,h4⟩;simp only[exec];rw[zb S (Fl n m) h1];exact zb S (Hp n m) h3
 |exit i=>exact⟨n,_,_,_,by simp[exec,h1],h2⟩
 |ret=>exact⟨n,_,_,_,by simp[exec,h1],h2⟩
theorem ahP{x:aQ}{a b:aJ}{t:Bool}(hx:ev ak x=.one (.p (.bool t)))(h:if t=true then W S al a Q ak aj else W S al b Q ak aj):W S al (.cond x a b) Q ak aj:=by
 cases t with
 |true=>obtain⟨n,e,aD,ao,h1,h2⟩:=h;exact⟨n,e,aD,ao,by simp[exec,hx,h1],h2⟩
 |false=>obtain⟨n,e,aD,ao,h1,h2⟩:=(by simpa using h:W S al b Q ak aj);exact⟨n,e,aD,ao,by simp[exec,hx,h1],h2⟩
def nJ(id:Nat)(Q:dy):dy
 | .exit i,ak,aj=>if i=id then Q .normal ak aj else Q (.exit i) ak aj
 |e,ak,aj=>Q e ak aj
theorem ahO{id:Nat}{c:aJ}(h:W S al c (nJ id Q) ak aj):W S al (.block id c) Q ak aj:=by
 obtain⟨n,e,aD,ao,h1,h2⟩:=h;cases e with
 |normal=>exact⟨n,_,_,_,by simp[exec,h1],h2⟩
 |ret=>exact⟨n,_,_,_,by simp[exec,h1],h2⟩
 |exit i=>
  simp only[nJ] at h2;by_cases hi:i=id
  .simp only[hi,if_true] at h2;exact⟨n,_,_,_,by simp[exec,h1,hi],h2⟩
  simp only[hi,if_false] at h2;exact⟨n,_,_,_,by simp[exec,h1,hi],h2⟩
theorem PM(S:Sys){c:aJ}{n k l:Nat}(h:n<=m)(hk:k<=l){r:lz×Env×aq}(hr:iter (exec (S.ctx al) (gh S n) (gj S n) n c) k ak aj=some r):
  iter (exec (S.ctx al) (gh S m) (gj S m) m c) l ak aj=some r:=acX (fun _ _ _ h'=>zb S h h') hk hr
theorem ahT{c:aJ}(I:Nat->Env->aq->Prop)(k0 N:Nat)(hk:k0<=N)(h0:I k0 ak aj)
  (round:∀k ak aj,k<=N->I k ak aj->W S al c (JY (fun aD ao=>k<N/\I (k+1) aD ao) Q) ak aj):W S al (.loop c) Q ak aj:=by
 have key:∀j k ak aj,k+j=N->I k ak aj->∃n l e aD ao,iter (exec (S.ctx al) (gh S n) (gj S n) n c) l ak aj=some (e,aD,ao)/\Q e aD ao:=by
  intro j
  induction j with
  |zero=>
   intro k ak aj Ge hI;obtain⟨n,e,ir,bG,h1,h2⟩:=round k ak aj aa hI;cases e with
   |normal=>obtain⟨aw,_⟩:=h2;omega
   |exit i=>exact⟨n,1,_,_,_,by simp[iter,h1],h2⟩
   |ret=>exact⟨n,1,_,_,_,by simp[iter,h1],h2⟩
  |succ j ih=>
   intro k ak aj Ge hI;obtain⟨n,e,ir,bG,h1,h2⟩:=round k ak aj aa hI;cases e with
   |normal=>obtain⟨_,hI1⟩:=h2;obtain⟨m,l,e,cZ,aZ,h3,h4⟩:=ih (k+1) ir bG aa hI1;refine⟨max n m,l+1,e,cZ,aZ,?_,h4⟩;simp only[iter];rw[zb S (Fl n m) h1];exact PM S (Hp n m) (aX _) h3
   |exit i=>exact⟨n,1,_,_,_,by simp[iter,h1],h2⟩
   |ret=>exact⟨n,1,_,_,_,by simp[iter,h1],h2⟩
 obtain⟨n,l,e,aD,ao,h1,h2⟩:=key (N-k0) k0 ak aj aa h0;refine⟨max n l,e,aD,ao,?_,h2⟩;simp only[exec];exact PM S (Fl n l) (Hp n l) h1
theorem ahU{d:Bool}{ops:List bl}(h:WO S al ops (fun ak aj es=>(d=true->tX ops [] es=true)/\Q .normal ak aj) ak aj []):W S al (.region d ops) Q ak aj:=by
 obtain⟨n,aD,ao,es,h1,h2,h3⟩:=h;refine⟨n,.normal,aD,ao,?_,h3⟩;simp only[exec,h1];cases d with
 |false=>simp
 |true=>simpa using h2
theorem ahM{R:Env->aq->List bR->Prop}{tr:List bR}(h:R ak aj tr):WO S al [] R ak aj tr:=⟨0,ak,aj,[],rfl,by simpa using h⟩
theorem N6{o:bl}{os:List bl}{R:Env->aq->List bR->Prop}{tr:List bR}{n:Nat}{ir:Env}{bG:aq}{e:bR}
  (h1:step1 (S.ctx al) (gh S n) (gj S n) o ak aj=some (ir,bG,e)) (h:WO S al os R ir bG (tr++[e])):WO S al (o::os) R ak aj tr:=by
 obtain⟨m,aD,ao,es,h2,h3⟩:=h;refine⟨max n m,aD,ao,e::es,?_,by simpa using h3⟩;simp only[steps];rw[agE (DF S (Fl n m)) (KK S (Fl n m)) h1];simp[atx S (Hp n m) h2]
def FZ(S:Sys)(al:Al)(p:eX)(d:Option Nat)(ak:Env)(aj:aq)(tr:List bR)(K:Env->aq->List bR->Prop):Prop:=
 match p with
 | .fail=>False
 | .done v u r=>al.ff (r++u.map (·.1))=true/\K (put ak d v) (app u aj) (tr++[⟨r,u.map (·.1),[]⟩])
 | .pc f vs r s=>∃x,aI S f vs x/\match land aj r s (x.ig (S.lone s)) with
  |some (v,u)=>al.ff (r++u.map (·.1))=true/\K (put ak d v) (app u aj) (tr++[⟨r++u.map (·.1),u.map (·.1),[]⟩])
  |none=>False
 | .sc f vs=>al.holds (allow (S.ctx al) f vs aj)=true/\ ∃v ao,iJ S f vs (allow (S.ctx al) f vs aj) aj v ao/\
   K (put ak d v) ao (tr++[⟨(allow (S.ctx al) f vs aj).ids,(allow (S.ctx al) f vs aj).ids,(allow (S.ctx al) f vs aj).fs⟩])
def DZ(S:Sys)(al:Al)(w:Option Bool)(o:bl)(ak:Env)(aj:aq)(tr:List bR)(K:Env->aq->List bR->Prop):Prop:=
 match w with
 |none=>False
 |some false=>K (put ak o.dst .undef) aj (tr++[⟨[],[],[]⟩])
 |some true=>FZ S al (bn S.shared ak aj o.op) o.dst ak aj tr K
@[simp] theorem Al.Fv (l:List Nat):Al.all.ff l=true:=by simp[Al.ff,Al.ok,Al.all]
@[simp] theorem Al.au2 (b:Al):Al.all.holds b=true:=rfl
theorem ahN{o:bl}{os:List bl}{R:Env->aq->List bR->Prop}{tr:List bR}
  (h:DZ S al (wanted ak o.guard) o ak aj tr (WO S al os R)):WO S al (o::os) R ak aj tr:=by
 cases hw:wanted ak o.guard with
 |none=>simp[hw,DZ] at h
 |some b=>
  cases b with
  |false=>rw[hw] at h;exact N6 (n:=0) (by simp[step1,hw]) h
  |true=>
   rw[hw] at h;simp only[DZ] at h;have iw:(S.ctx al).shared=S.shared:=rfl;have iK:(S.ctx al).al=al:=rfl;have dZ:(S.ctx al).lone=S.lone:=rfl;cases bK:bn S.shared ak aj o.op with
   |fail=>simp[bK,FZ] at h
   |done v u r=>rw[bK] at h;obtain⟨h1,h⟩:=h;exact N6 (n:=0) (by simp only[step1,hw,iw,iK,bK,h1,if_true]) h
   |pc f vs r s=>
    rw[bK] at h;obtain⟨x,⟨n,hx⟩,h⟩:=h;cases hl:land aj r s (x.ig (S.lone s)) with
    |none=>simp[hl] at h
    |some y=>obtain⟨v,u⟩:=y;simp only[hl] at h;obtain⟨h1,h⟩:=h;exact N6 (n:=n) (by simp only[step1,hw,iw,iK,dZ,bK,hx,hl,h1,if_true]) h
   |sc f vs=>rw[bK] at h;obtain⟨h1,v,ao,⟨n,hx⟩,h⟩:=h;exact N6 (n:=n) (by simp only[step1,hw,iw,iK,bK,h1,if_true,hx]) h
end
end Go.Abs
namespace Go.Abs
variable {S:Sys} {al:Al}
def lE(al:Al)(res:List (Nat×Option (Option Nat)))(R:V->aq->Prop):dy
 | .exit _,_,_=>False
 |_,ak,aj=>match oz al ak aj res with
  |some vs=>R (zV vs) aj
  |none=>False
theorem RO{fn:aW}{args:List V}{aj:aq}{R:V->aq->Prop}(h:W S al fn.body (lE al fn.results R) (rX args) aj):
  ∃n v ao,ru (S.ctx al) (gh S n) (gj S n) n fn args aj=some (v,ao)/\R v ao:=by
 obtain⟨n,e,aD,ao,h1,h2⟩:=h;refine⟨n,?_⟩;unfold ru;rw[h1];cases e with
 |exit i=>exact h2.elim
 |normal=>
  simp only[lE] at h2;split at h2
  .rename_i vs hv;exact⟨_,_,by simp only[show(S.ctx al).al=al from rfl,hv,jZ],h2⟩
  exact h2.elim
 |ret=>
  simp only[lE] at h2;split at h2
  .rename_i vs hv;exact⟨_,_,by simp only[show(S.ctx al).al=al from rfl,hv,jZ],h2⟩
  exact h2.elim
theorem ahD{f:Nat}{fn:aW}{args:List V}{r:RV}(hp:S.prim f args=none)(hf:S.fns f=some fn)(hl:args.length<=fn.ntmps)
  (h:W S .all fn.body (lE .all fn.results fun v aj=>iA aj v=some r) (rX args) zO):aI S f args r:=by
 obtain⟨n,v,ao,h1,h2⟩:=RO h;refine⟨n+1,?_⟩;rw[gh];simp only[hp,hf,hl,if_true];unfold EU;rw[h1];exact h2
theorem mr{f:Nat}{fn:aW}{args:List V}{aj:aq}{R:V->aq->Prop}(hf:S.fns f=some fn)(hl:args.length<=fn.ntmps)
  (h:W S al fn.body (lE al fn.results R) (rX args) aj) (ht:S.trig f args=false:=by rfl):∃v ao,iJ S f args al aj v ao/\R v ao:=by
 obtain⟨n,v,ao,h1,h2⟩:=RO h;refine⟨v,ao,⟨n+1,?_⟩,h2⟩;rw[gj];simp only[ht,dx,if_false,hf,hl,if_true];exact h1
end Go.Abs
namespace Go.Abs
variable {S:Sys} {al:Al} {Q:dy} {ak:Env} {aj:aq}
theorem X3:W S al .skip Q ak aj↔Q .normal ak aj:=⟨fun⟨_,_,_,_,h,q⟩=>by simp[exec] at h;obtain⟨rfl,rfl,rfl⟩:=h;exact q,ahZ⟩
theorem XZ{id:Nat}:W S al (.exit id) Q ak aj↔Q (.exit id) ak aj:=⟨fun⟨_,_,_,_,h,q⟩=>by simp[exec] at h;obtain⟨rfl,rfl,rfl⟩:=h;exact q,ahS⟩
theorem X2:W S al .ret Q ak aj↔Q .ret ak aj:=⟨fun⟨_,_,_,_,h,q⟩=>by simp[exec] at h;obtain⟨rfl,rfl,rfl⟩:=h;exact q,ahV⟩
theorem ahX{a b:aJ}:W S al (.seq a b) Q ak aj↔W S al a (JY (W S al b Q) Q) ak aj:=by
 refine⟨?_,ahW⟩;rintro ⟨n,e,aD,ao,h,q⟩
 simp only[exec] at h;cases h1:exec (S.ctx al) (gh S n) (gj S n) n a ak aj with
 |none=>simp[h1] at h
 |some x=>
  obtain⟨e1,ir,bG⟩:=x;refine⟨n,e1,ir,bG,h1,?_⟩;cases e1 with
  |normal=>simp only[h1] at h;exact⟨n,e,aD,ao,h,q⟩
  |exit i=>simp[h1] at h;obtain⟨rfl,rfl,rfl⟩:=h;exact q
  |ret=>simp[h1] at h;obtain⟨rfl,rfl,rfl⟩:=h;exact q
def HQ(v:V)(A B:Prop):Prop:=
 match v with
 | .one (.p (.bool t))=>if t=true then A else B
 |_=>False
theorem ahQ{x:aQ}{a b:aJ}:W S al (.cond x a b) Q ak aj↔HQ (ev ak x) (W S al a Q ak aj) (W S al b Q ak aj):=by
 constructor
 .rintro ⟨n,e,aD,ao,h,q⟩
  simp only[exec] at h;split at h
  .rename_i t ht;rw[ht];simp only[HQ];cases t with
   |true=>exact⟨n,e,aD,ao,by simpa using h,q⟩
   |false=>exact⟨n,e,aD,ao,by simpa using h,q⟩
  cases h
 intro h;unfold HQ at h;split at h
 .rename_i t ht;exact ahP ht h
 exact h.elim
theorem XY{id:Nat}{c:aJ}:W S al (.block id c) Q ak aj↔W S al c (nJ id Q) ak aj:=by
 refine⟨?_,ahO⟩;rintro ⟨n,e,aD,ao,h,q⟩
 simp only[exec] at h;cases h1:exec (S.ctx al) (gh S n) (gj S n) n c ak aj with
 |none=>simp[h1] at h
 |some x=>
  obtain⟨e1,ir,bG⟩:=x;refine⟨n,e1,ir,bG,h1,?_⟩;cases e1 with
  |normal=>simp[h1] at h;obtain⟨rfl,rfl,rfl⟩:=h;exact q
  |ret=>simp[h1] at h;obtain⟨rfl,rfl,rfl⟩:=h;exact q
  |exit i=>
   simp only[h1] at h;simp only[nJ];split at h
   .rename_i hi;simp at h;obtain⟨rfl,rfl,rfl⟩:=h;rw[if_pos hi];exact q
   rename_i hi;simp at h;obtain⟨rfl,rfl,rfl⟩:=h;rw[if_neg hi];exact q
theorem Rz{R:Env->aq->List bR->Prop}{tr:List bR}:WO S al [] R ak aj tr↔R ak aj tr:=by
 refine⟨?_,ahM⟩;rintro ⟨n,aD,ao,es,h,q⟩
 simp[steps] at h;obtain⟨rfl,rfl,rfl⟩:=h
 simpa using q
theorem N7{o:bl}{os:List bl}{R:Env->aq->List bR->Prop}{tr:List bR}:
  WO S al (o::os) R ak aj tr↔DZ S al (wanted ak o.guard) o ak aj tr (WO S al os R):=by
 refine⟨?_,ahN⟩;rintro ⟨n,aD,ao,es,h,q⟩
 simp only[steps] at h;cases h1:step1 (S.ctx al) (gh S n) (gj S n) o ak aj with
 |none=>simp[h1] at h
 |some x=>
  obtain⟨ir,bG,e⟩:=x;simp only[h1] at h;cases h2:steps (S.ctx al) (gh S n) (gj S n) os ir bG with
  |none=>simp[h2] at h
  |some y=>
   obtain⟨cZ,aZ,es2⟩:=y;simp[h2] at h;obtain⟨rfl,rfl,rfl⟩:=h;have hk:WO S al os R ir bG (tr++[e]):=⟨n,_,_,es2,h2,by simpa using q⟩;unfold step1 at h1;cases hw:wanted ak o.guard with
   |none=>simp[hw] at h1
   |some b=>
    cases b with
    |false=>simp[hw] at h1;obtain⟨rfl,rfl,rfl⟩:=h1;exact hk
    |true=>
     simp only[hw] at h1;simp only[DZ];have iw:(S.ctx al).shared=S.shared:=rfl;have iK:(S.ctx al).al=al:=rfl;have dZ:(S.ctx al).lone=S.lone:=rfl;simp only[iw,iK,dZ] at h1;cases bK:bn S.shared ak aj o.op with
     |fail=>simp[bK] at h1
     |done v u r=>
      simp only[bK] at h1;split at h1
      .rename_i au;cases h1;exact⟨au,hk⟩
      cases h1
     |pc f vs r s=>
      simp only[bK] at h1;cases hc:gh S n f vs with
      |none=>simp[hc] at h1
      |some x=>
       simp only[hc] at h1;refine⟨x,⟨n,hc⟩,?_⟩;cases hl:land aj r s (x.ig (S.lone s)) with
       |none=>simp[hl] at h1
       |some y=>
        obtain⟨v,u⟩:=y;simp only[hl] at h1;split at h1
        .rename_i au;cases h1;exact⟨au,hk⟩
        cases h1
     |sc f vs=>
      simp only[bK] at h1;split at h1
      .rename_i au;cases hc:gj S n f vs (allow (S.ctx al) f vs aj) aj with
       |none=>simp[hc] at h1
       |some x=>obtain⟨v,b⟩:=x;simp only[hc] at h1;cases h1;exact⟨au,v,_,⟨n,hc⟩,hk⟩
      cases h1
theorem X1{d:Bool}{ops:List bl}:W S al (.region d ops) Q ak aj↔WO S al ops (fun ak aj es=>(d=true->tX ops [] es=true)/\Q .normal ak aj) ak aj []:=by
 refine⟨?_,ahU⟩;rintro ⟨n,e,aD,ao,h,q⟩
 simp only[exec] at h;cases h1:steps (S.ctx al) (gh S n) (gj S n) ops ak aj with
 |none=>simp[h1] at h
 |some x=>
  obtain⟨ir,bG,es⟩:=x;simp only[h1] at h;cases d with
  |false=>simp at h;obtain⟨rfl,rfl,rfl⟩:=h;exact⟨n,_,_,es,h1,af,q⟩
  |true=>simp at h;obtain⟨hd,rfl,rfl,rfl⟩:=h;exact⟨n,_,_,es,h1,fun _=>by simpa using hd,q⟩
end Go.Abs
namespace Go.Abs
inductive bU (w:World) (own:Nat->Prop):PV->Value->Prop where
 |bool (b:Bool):bU w own (.bool b) (.bool b)
 |int (k:IntKind) (n:Int):bU w own (.int k n) (.int k n)
 |str (s:ByteArray):bU w own (.str s) (.string s)
 |uG:bU w own .uG (.pointer none)
 |nils:bU w own .nils (.slice none 0 0)
 |rj:bU w own .rj (.map none)
 |yn:bU w own .yn .nilFunc
 |nili:bU w own .nili .nilIface
 |ifc (d:TypeId) (x:Value):bU w own .ifc (.iface d x)
 |zs (a:Option Addr):bU w own .zs (.slice a 0 0)
 |box {cs:List PV} (b o:Nat) (f:Nat->Value) (ho:cs≠[]-> ¬own b)
   (hc:∀(j:Nat) (x:PV),cs[j]?=some x->w.cell? ⟨b,o+j,none⟩=some (f j))
   (hr:∀(j:Nat) (x:PV),cs[j]?=some x->bU w own x (f j)):bU w own (.box cs) (.pointer (some ⟨b,o,none⟩))
 |yA (a:Option Addr) (cap:Nat) (hn:a=none->cap=0) (hm:cap<=maxLen):bU w own (.sl []) (.slice a 0 cap)
 |sl {es:List (List PV)} (b o cap sz:Nat) (f:Nat->Value) (ho:es.flatten≠[]-> ¬own b) (hl:es.length<=cap) (hm:cap<=maxLen) (cn:∀e∈es,e.length=sz)
   (hc:∀(j:Nat) (x:PV),es.flatten[j]?=some x->w.cell? ⟨b,o+j,none⟩=some (f j))
   (hr:∀(j:Nat) (x:PV),es.flatten[j]?=some x->bU w own x (f j)):bU w own (.sl es) (.slice (some ⟨b,o,none⟩) es.length cap)
 |mp {ag:Bool} {es:List (PV×List PV)} (r:Nat) (ents:Array MapEntry) (clock:Nat) (g:Nat->Array Value) (ho:¬own r) (hb:w.heap[r]?=some (.map ents clock)) (hl:ents.size=es.length)
   (hk:∀(i:Nat) (q:PV) (v:List PV) (e:MapEntry),es[i]?=some (q,v)->ents[i]?=some e->bU w own q e.key)
   (hv:∀(i:Nat) (q:PV) (v:List PV) (e:MapEntry),es[i]?=some (q,v)->ents[i]?=some e->(g i).size=v.length/\(ag=true->e.val=.agg (g i))/\(ag=false-> #[e.val]=g i))
   (hr:∀(i:Nat) (q:PV) (v:List PV) (j:Nat) (x:PV) (u:Value),es[i]?=some (q,v)->v[j]?=some x->(g i)[j]?=some u->bU w own x u):bU w own (.mp ag es) (.map (some r))
 |fn {f:Nat} {a b:List PV} (A B:Array Value) (ha:A.size=a.length) (hb:B.size=b.length)
   (uA:∀(j:Nat) (x:PV) (u:Value),a[j]?=some x->A[j]?=some u->bU w own x u)
   (qo:∀(j:Nat) (x:PV) (u:Value),b[j]?=some x->B[j]?=some u->bU w own x u):bU w own (.fn f a b) (.func (.func f) A B)
theorem bU.Nk{w:World}{own:Nat->Prop}{x:PV}{v:Value}(h:bU w own x v):v.oneCell'=true:=by cases h<;>rfl
theorem bU.cells{w:World}{own:Nat->Prop}{x:PV}{v:Value}(h:bU w own x v):v.cells= #[v]:=by cases h<;>rfl
theorem YH{w:World}{b o:Nat}{v:Value}(h:w.cell? ⟨b,o,none⟩=some v):b<w.heap.size:=World.block_lt_of_cell? w ⟨b,o,none⟩ h
theorem u4{w:World}{b:Nat}{o:Obj}(h:w.heap[b]?=some o):b<w.heap.size:=(Array.getElem?_eq_some_iff.1 h).1
theorem bU.mono{w w':World}{own zP:Nat->Prop}(hk:∀c,c<w.heap.size-> ¬own c->w'.heap[c]?=w.heap[c]? /\ ¬zP c){x:PV}{v:Value}
  (h:bU w own x v):bU w' zP x v:=by
 induction h with
 |bool b=>exact .bool b
 |int k n=>exact .int k n
 |str s=>exact .str s
 |uG=>exact .uG
 |nils=>exact .nils
 |rj=>exact .rj
 |yn=>exact .yn
 |nili=>exact .nili
 |ifc d x=>exact .ifc d x
 |zs a=>exact .zs a
 | @box cs b o f ho hc _ ih=>
  cases cs with
  |nil=>exact .box b o f (fun h=>(h rfl).elim) (fun j x h=>by simp at h) (fun j x h=>by simp at h)
  |cons c r=>have hb:=YH (hc 0 c rfl);have hn:=ho af;refine .box b o f (fun _=>(hk b hb hn).2) (fun j x h=>?_) ih;rw[World.cell?_of_block (hk b hb hn).1];exact hc j x h
 |yA a cap hn hm=>exact .yA a cap hn hm
 | @sl es b o cap sz f ho hl hm cn hc _ ih=>
  cases hf:es.flatten with
  |nil=>exact .sl b o cap sz f (fun h=>(h hf).elim) hl hm cn (fun j x h=>by simp[hf] at h) (fun j x h=>by simp[hf] at h)
  |cons c r=>have hb:=YH (hc 0 c (by simp[hf]));have hn:=ho (by simp[hf]);refine .sl b o cap sz f (fun _=>(hk b hb hn).2) hl hm cn (fun j x h=>?_) ih;rw[World.cell?_of_block (hk b hb hn).1];exact hc j x h
 | @mp ag es r ents clock g ho hb hl _ hv _ ihk ihr=>exact .mp r ents clock g (hk r (u4 hb) ho).2 ((hk r (u4 hb) ho).1.trans hb) hl ihk hv ihr
 |fn A B ha hb _ _ iha ihb=>exact .fn A B ha hb iha ihb
structure Mem where
 w:World
 aj:aq
 σ:Nat->Nat
 κ:Nat->Nat
 fr:Nat->Prop
def Ob.fh:Ob->Bool
 | .var _| .arr _ _ _| .iQ _ _ _| .map _ _=>true
 |_=>false
def kB:Nat×Option Ob->Option Nat
 |(_,some (.arr _ sz _))=>some sz
 |(_,some (.iQ _ sz _))=>some sz
 |(_,some (.oR _ sz _))=>some sz
 |_=>none
def Mem.fh(m:Mem)(c:Nat):Prop:= ∃id o,(m.aj id).2=some o/\o.fh=true/\m.σ id=c
def Mem.own(m:Mem)(c:Nat):Prop:=m.fr c\/m.fh c
inductive cT (m:Mem):C->Value->Prop where
 |p {x:PV} {v:Value} (h:bU m.w m.own x v):cT m (.p x) v
 |bk {id g off:Nat} (a:Addr) (hg:g<=(m.aj id).1) (h:(m.aj id).1=g->(m.aj id).2.isSome=true->a=⟨m.σ id,off,none⟩):cT m (.bk id g off) (.pointer (some a))
 |dw {id g i off:Nat} (a:Addr) (hg:g<=(m.aj id).1) (h:∀sz,(m.aj id).1=g->kB (m.aj id)=some sz->a=⟨m.σ id,i*sz+off,none⟩):cT m (.dw id g i off) (.pointer (some a))
 |hsl {id g z off len:Nat} (a:Addr) (cap:Nat) (hg:g<=(m.aj id).1) (hl:len<=cap) (hm:cap<=maxLen)
   (h:∀sz,(m.aj id).1=g->kB (m.aj id)=some sz->sz=z/\(off=0\/0<len->a=⟨m.σ id,off*sz,none⟩)/\off+cap=m.κ id):
   cT m (.hsl id g z off len) (.slice (some a) len cap)
 |jV {id g:Nat} (r:Nat) (hg:g<=(m.aj id).1) (h:(m.aj id).1=g->(m.aj id).2.isSome=true->r=m.σ id):cT m (.jV id g) (.map (some r))
 |hfn {f:Nat} {a b:List C} (A B:Array Value) (ha:A.size=a.length) (hb:B.size=b.length)
   (uA:∀(j:Nat) (x:C) (u:Value),a[j]?=some x->A[j]?=some u->cT m x u)
   (qo:∀(j:Nat) (x:C) (u:Value),b[j]?=some x->B[j]?=some u->cT m x u):cT m (.hfn f a b) (.func (.func f) A B)
theorem cT.Nk{m:Mem}{x:C}{v:Value}(h:cT m x v):v.oneCell'=true:=by
 cases h with
 |p h=>exact h.Nk
 |_=>rfl
theorem cT.cells{m:Mem}{x:C}{v:Value}(h:cT m x v):v.cells= #[v]:=by
 cases h with
 |p h=>exact h.cells
 |_=>rfl
def di(m:Mem)(cs:List C)(vs:List Value):Prop:=vs.length=cs.length/\ ∀(j:Nat) (x:C) (u:Value),cs[j]?=some x->vs[j]?=some u->cT m x u
def df(w:World)(own:Nat->Prop)(cs:List PV)(vs:List Value):Prop:=vs.length=cs.length/\ ∀(j:Nat) (x:PV) (u:Value),cs[j]?=some x->vs[j]?=some u->bU w own x u
def nH(m:Mem):V->Value->Prop
 | .undef,v=>v=undef
 | .one c,v=>cT m c v
 | .agg cs,v=>∃arr,v=.agg arr/\di m cs arr.toList
 | .tup _,_=>False
def bJ(m:Mem):V->Value->Prop
 | .tup vs,v=>∃arr,v=.tuple arr/\arr.size=vs.length/\ ∀(j:Nat) (x:V) (u:Value),vs[j]?=some x->arr[j]?=some u->nH m x u
 |x,v=>nH m x v
def tj(m:Mem)(id:Nat):Ob->Prop
 | .var cs=>∃cur ty,m.w.heap[m.σ id]?=some (.cells cur ty (0,0))/\di m cs cur.toList
 | .fvar cs=>∃cur ty fz,m.w.heap[m.σ id]?=some (.cells cur ty fz)/\df m.w m.own cs cur.toList/\ ¬m.own (m.σ id)
 | .arr ty sz es=>∃cur,m.w.heap[m.σ id]?=some (.cells cur ty (0,0))/\0<sz/\(∀e∈es,e.length=sz)/\es.length<=m.κ id/\m.κ id<=maxLen/\cur.size=m.κ id*sz/\
   df m.w m.own es.flatten (cur.toList.take (es.length*sz))
 | .oR ty sz es=>∃cur fz,m.w.heap[m.σ id]?=some (.cells cur ty fz)/\0<sz/\(∀e∈es,e.length=sz)/\es.length<=m.κ id/\m.κ id<=maxLen/\cur.size=m.κ id*sz/\
   df m.w m.own es.flatten (cur.toList.take (es.length*sz))/\ ¬m.own (m.σ id)
 | .iQ ty sz es=>∃cur,m.w.heap[m.σ id]?=some (.cells cur ty (0,0))/\0<sz/\(∀e∈es,e.length=sz)/\es.length<=m.κ id/\m.κ id<=maxLen/\cur.size=m.κ id*sz/\
   di m es.flatten (cur.toList.take (es.length*sz))
 | .map ag es=>∃ents clock,m.w.heap[m.σ id]?=some (.map ents clock)/\ents.size=es.length/\
   ∀(i:Nat) (q:PV) (v:List PV) (e:MapEntry),es[i]?=some (q,v)->ents[i]?=some e->bU m.w m.own q e.key/\ ∃g:Array Value,(ag=true->e.val=.agg g)/\(ag=false-> #[e.val]=g)/\df m.w m.own v g.toList
 | .fmap ag es=>∃ents clock,m.w.heap[m.σ id]?=some (.map ents clock)/\ents.size=es.length/\
   (∀(i:Nat) (q:PV) (v:List PV) (e:MapEntry),es[i]?=some (q,v)->ents[i]?=some e->bU m.w m.own q e.key/\ ∃g:Array Value,(ag=true->e.val=.agg g)/\(ag=false-> #[e.val]=g)/\df m.w m.own v g.toList)/\ ¬m.own (m.σ id)
structure Ok (w0:World) (m:Mem):Prop where
 os:m.w.os=w0.os
 tape:m.w.tape=w0.tape
 output:m.w.output=w0.output
 size:w0.heap.size<=m.w.heap.size
 base:∀c,c<w0.heap.size->m.w.heap[c]?=w0.heap[c]?
 obj:∀id o,(m.aj id).2=some o->tj m id o
 fZ:∀id o,(m.aj id).2=some o->o.fh=true->w0.heap.size<=m.σ id/\ ¬m.fr (m.σ id)
 frlt:∀c,m.fr c->c<m.w.heap.size
 inj:∀id eO o o',(m.aj id).2=some o->o.fh=true->(m.aj eO).2=some o'->o'.fh=true->m.σ id=m.σ eO->id=eO
structure Ev (m m':Mem):Prop where
 os:m'.w.os=m.w.os
 tape:m'.w.tape=m.w.tape
 output:m'.w.output=m.w.output
 size:m.w.heap.size<=m'.w.heap.size
 keep:∀c,c<m.w.heap.size-> ¬m.fh c->m'.w.heap[c]?=m.w.heap[c]?
 fh:∀c,c<m.w.heap.size->m'.fh c->m.fh c
 less:∀c,c<m.w.heap.size-> ¬m.own c-> ¬m'.own c
 gen:∀id,(m.aj id).1<=(m'.aj id).1
 ref:∀id,(m'.aj id).1=(m.aj id).1->(m'.aj id).2.isSome=true->(m.aj id).2.isSome=true/\m'.σ id=m.σ id/\m'.κ id=m.κ id/\kB (m'.aj id)=kB (m.aj id)
theorem Ev.refl(m:Mem):Ev m m:=⟨rfl,rfl,rfl,aX _,fun _ _ _=>rfl,fun _ _ h=>h,fun _ _ h=>h,fun _=>aX _,fun _ _ h=>⟨h,rfl,rfl,rfl⟩⟩
theorem Ev.trans{a b c:Mem}(h:Ev a b)(k:Ev b c):Ev a c where
 os:=k.os.trans h.os
 tape:=k.tape.trans h.tape
 output:=k.output.trans h.output
 size:=ll h.size k.size
 keep x hx hm:=(k.keep x (Dy hx h.size) fun hb=>hm (h.fh x hx hb)).trans (h.keep x hx hm)
 fh x hx hm:=h.fh x hx (k.fh x (Dy hx h.size) hm)
 less x hx hn:=k.less x (Dy hx h.size) (h.less x hx hn)
 gen id:=ll (h.gen id) (k.gen id)
 ref id he hs:=by have h1:=h.gen id;have h2:=k.gen id;obtain⟨s1,e1,e2,e3⟩:=k.ref id aa hs;obtain⟨s2,f1,f2,f3⟩:=h.ref id aa s1;exact⟨s2,e1.trans f1,e2.trans f2,e3.trans f3⟩
theorem Ev.own{m m':Mem}(h:Ev m m'):∀c,c<m.w.heap.size-> ¬m.own c->m'.w.heap[c]?=m.w.heap[c]? /\ ¬m'.own c:=fun c hc hn=>⟨h.keep c hc fun hm=>hn (.inr hm),h.less c hc hn⟩
theorem agT{x:Nat×Option Ob}{sz:Nat}(h:kB x=some sz):x.2.isSome=true:=by
 obtain⟨g,o⟩:=x;cases o with
 |none=>simp[kB] at h
 |some o=>rfl
structure uj (m m':Mem):Prop where
 own:∀c,c<m.w.heap.size-> ¬m.own c->m'.w.heap[c]?=m.w.heap[c]? /\ ¬m'.own c
 gen:∀id,(m.aj id).1<=(m'.aj id).1
 ref:∀id,(m'.aj id).1=(m.aj id).1->(m'.aj id).2.isSome=true->(m.aj id).2.isSome=true/\m'.σ id=m.σ id/\m'.κ id=m.κ id/\kB (m'.aj id)=kB (m.aj id)
theorem Ev.zero{m m':Mem}(h:Ev m m'):uj m m':=⟨h.own,h.gen,h.ref⟩
theorem bU.ev{m m':Mem}(h:uj m m'){x:PV}{v:Value}(hr:bU m.w m.own x v):bU m'.w m'.own x v:=hr.mono h.own
theorem cT.ev{m m':Mem}(h:uj m m'){x:C}{v:Value}(hr:cT m x v):cT m' x v:=by
 induction hr with
 |p hp=>exact .p (hp.ev h)
 | @bk id g off a hg ha=>have Vm:=h.gen id;refine .bk a aa fun Cw hs=>?_;obtain⟨s,e1,_,_⟩:=h.ref id aa hs;rw[e1];exact ha aa s
 | @dw id g i off a hg ha=>have Vm:=h.gen id;refine .dw a aa fun sz Cw hs=>?_;obtain⟨s,e1,_,e3⟩:=h.ref id aa (agT hs);rw[e1];exact ha sz aa (e3▸hs)
 | @hsl id g z off len a cap hg hl hm ha=>have Vm:=h.gen id;refine .hsl a cap aa hl hm fun sz Cw hs=>?_;obtain⟨s,e1,e2,e3⟩:=h.ref id aa (agT hs);rw[e1,e2];exact ha sz aa (e3▸hs)
 | @jV id g r hg hr=>have Vm:=h.gen id;refine .jV r aa fun Cw hs=>?_;obtain⟨s,e1,_,_⟩:=h.ref id aa hs;rw[e1];exact hr aa s
 |hfn A B ha hb _ _ iha ihb=>exact .hfn A B ha hb iha ihb
theorem di.ev{m m':Mem}(h:uj m m'){cs:List C}{vs:List Value}(hr:di m cs vs):di m' cs vs:=⟨hr.1,fun j x u a b=>(hr.2 j x u a b).ev h⟩
theorem df.mono{w w':World}{own zP:Nat->Prop}(hk:∀c,c<w.heap.size-> ¬own c->w'.heap[c]?=w.heap[c]? /\ ¬zP c){cs:List PV}{vs:List Value}
  (hr:df w own cs vs):df w' zP cs vs:=⟨hr.1,fun j x u a b=>(hr.2 j x u a b).mono hk⟩
theorem df.ev{m m':Mem}(h:uj m m'){cs:List PV}{vs:List Value}(hr:df m.w m.own cs vs):df m'.w m'.own cs vs:=hr.mono h.own
theorem nH.ev{m m':Mem}(h:uj m m'){x:V}{v:Value}(hr:nH m x v):nH m' x v:=by
 cases x with
 |undef=>exact hr
 |one c=>exact cT.ev h hr
 |agg cs=>obtain⟨arr,e,hc⟩:=hr;exact⟨arr,e,hc.ev h⟩
 |tup vs=>exact hr.elim
theorem bJ.ev{m m':Mem}(h:uj m m'){x:V}{v:Value}(hr:bJ m x v):bJ m' x v:=by
 cases x with
 |tup vs=>obtain⟨arr,e,hs,hc⟩:=hr;exact⟨arr,e,hs,fun j x u a b=>(hc j x u a b).ev h⟩
 |undef=>exact nH.ev (x:=.undef) h hr
 |one c=>exact nH.ev (x:=.one c) h hr
 |agg cs=>exact nH.ev (x:=.agg cs) h hr
theorem tj.ev{m m':Mem}(h:uj m m'){id:Nat}{o:Ob}(hs:m'.σ id=m.σ id)(hk:m'.κ id=m.κ id)(hh:m'.w.heap[m.σ id]?=m.w.heap[m.σ id]?)
  (hr:tj m id o):tj m' id o:=by
 cases o with
 |var cs=>obtain⟨cur,ty,a,b⟩:=hr;exact⟨cur,ty,by rw[hs,hh];exact a,b.ev h⟩
 |fvar cs=>obtain⟨cur,ty,fz,a,b,c⟩:=hr;exact⟨cur,ty,fz,by rw[hs,hh];exact a,b.ev h,by rw[hs];exact(h.own _ (u4 a) c).2⟩
 |arr ty sz es=>obtain⟨cur,a,b,c,d,e,f,g⟩:=hr;exact⟨cur,by rw[hs,hh];exact a,b,c,by rw[hk];exact d,by rw[hk];exact e,by rw[hk];exact f,g.ev h⟩
 |oR ty sz es=>obtain⟨cur,fz,a,b,c,d,e,f,g,i⟩:=hr;exact⟨cur,fz,by rw[hs,hh];exact a,b,c,by rw[hk];exact d,by rw[hk];exact e,by rw[hk];exact f,g.ev h,by rw[hs];exact(h.own _ (u4 a) i).2⟩
 |iQ ty sz es=>obtain⟨cur,a,b,c,d,e,f,g⟩:=hr;exact⟨cur,by rw[hs,hh];exact a,b,c,by rw[hk];exact d,by rw[hk];exact e,by rw[hk];exact f,g.ev h⟩
 |map ag es=>obtain⟨ents,clock,a,b,c⟩:=hr;exact⟨ents,clock,by rw[hs,hh];exact a,b,fun i q v e x y=>let ⟨p,g,g1,g2,g3⟩:=c i q v e x y;⟨p.ev h,g,g1,g2,g3.ev h⟩⟩
 |fmap ag es=>obtain⟨ents,clock,a,b,c,d⟩:=hr;exact⟨ents,clock,by rw[hs,hh];exact a,b,fun i q v e x y=>let ⟨p,g,g1,g2,g3⟩:=c i q v e x y;⟨p.ev h,g,g1,g2,g3.ev h⟩,by rw[hs];exact(h.own _ (u4 a) d).2⟩
theorem tj.lt{m:Mem}{id:Nat}{o:Ob}(hr:tj m id o):m.σ id<m.w.heap.size:=by
 cases o with
 |var cs=>obtain⟨cur,ty,a,_⟩:=hr;exact u4 a
 |fvar cs=>obtain⟨cur,ty,fz,a,_⟩:=hr;exact u4 a
 |arr ty sz es=>obtain⟨cur,a,_⟩:=hr;exact u4 a
 |oR ty sz es=>obtain⟨cur,fz,a,_⟩:=hr;exact u4 a
 |iQ ty sz es=>obtain⟨cur,a,_⟩:=hr;exact u4 a
 |map ag es=>obtain⟨ents,clock,a,_⟩:=hr;exact u4 a
 |fmap ag es=>obtain⟨ents,clock,a,_⟩:=hr;exact u4 a
theorem tj.calm{m:Mem}{id:Nat}{o:Ob}(hr:tj m id o)(ho:o.fh=false):¬m.own (m.σ id):=by
 cases o with
 |fvar cs=>obtain⟨cur,ty,fz,_,_,c⟩:=hr;exact c
 |oR ty sz es=>obtain⟨cur,fz,_,_,_,_,_,_,_,c⟩:=hr;exact c
 |fmap ag es=>obtain⟨_,_,_,_,_,c⟩:=hr;exact c
 |_=>simp[Ob.fh] at ho
end Go.Abs
namespace Go.Abs
variable {w0:World}
section
variable{m:Mem}
structure fg (w w':World):Prop where
 os:w'.os=w.os
 tape:w'.tape=w.tape
 output:w'.output=w.output
 size:w.heap.size<=w'.heap.size
 keep:∀c,c<w.heap.size->w'.heap[c]?=w.heap[c]?
theorem fg.refl(w:World):fg w w:=⟨rfl,rfl,rfl,aX _,fun _ _=>rfl⟩
theorem fg.trans{a b c:World}(h:fg a b)(k:fg b c):fg a c:=
 ⟨k.os.trans h.os,k.tape.trans h.tape,k.output.trans h.output,ll h.size k.size,fun x hx=>(k.keep x (Dy hx h.size)).trans (h.keep x hx)⟩
theorem fg.alloc(w:World)(o:Obj):fg w (w.alloc o):=⟨rfl,rfl,rfl,af,fun _ hc=>heap_alloc_old w o hc⟩
theorem fg.drew(w:World):fg w w.drew:=⟨rfl,rfl,rfl,aX _,fun _ _=>rfl⟩
def Mem.later(m:Mem)(w':World)(X:Nat->Prop):Mem:={m with w:=w',fr:=fun c=>m.fr c\/X c}
theorem adV{w':World}{X:Nat->Prop}{c:Nat}:(m.later w' X).own c↔m.own c\/X c:=by
 unfold Mem.own Mem.fh Mem.later;constructor
 .rintro ((h|h)|h)
  .exact .inl (.inl h)
  .exact .inr h
  exact .inl (.inr h)
 rintro ((h|h)|h)
 .exact .inl (.inl h)
 .exact .inr h
 exact .inl (.inr h)
theorem Je{w':World}{X:Nat->Prop}(hg:fg m.w w')(hX:∀c,X c->m.w.heap.size<=c):Ev m (m.later w' X) where
 os:=hg.os
 tape:=hg.tape
 output:=hg.output
 size:=hg.size
 keep c hc _:=hg.keep c hc
 fh c _ h:=h
 less c hc hn h:=by
  rcases adV.1 h with h|h
  .exact hn h
  have:=hX c h;omega
 gen _:=aX _
 ref _ _ hs:=⟨hs,rfl,rfl,rfl⟩
theorem M4{w':World}{X:Nat->Prop}(h:Ok w0 m)(hg:fg m.w w')(hX:∀c,X c->m.w.heap.size<=c/\c<w'.heap.size):Ok w0 (m.later w' X) where
 os:=hg.os.trans h.os
 tape:=hg.tape.trans h.tape
 output:=hg.output.trans h.output
 size:=ll h.size hg.size
 base c hc:=(hg.keep c (Dy hc h.size)).trans (h.base c hc)
 obj id o ho:=(h.obj id o ho).ev (Je hg fun c hc=>(hX c hc).1).zero rfl rfl (hg.keep _ (h.obj id o ho).lt)
 fZ id o ho hm:=by
  refine⟨(h.fZ id o ho hm).1,?_⟩;rintro (hf|hx)
  .exact(h.fZ id o ho hm).2 hf
  have h1:=(hX _ hx).1;have h2:=(h.obj id o ho).lt;simp only[Mem.later] at h1;omega
 frlt c hc:=by
  rcases hc with hf|hx
  .exact Dy (h.frlt c hf) hg.size
  exact(hX c hx).2
 inj:=h.inj
def Mem.install(m:Mem)(s c k:Nat)(o:Ob):Mem:=⟨m.w,dB m.aj s ((m.aj s).1+1,some o),dB m.σ s c,dB m.κ s k,fun x=>m.fr x/\x≠c⟩
theorem acS{s c k:Nat}{o:Ob}{x:Nat}(h:(m.install s c k o).fh x):x=c\/m.fh x:=by
 obtain⟨id,o',ho,hm,hx⟩:=h;simp only[Mem.install,aM] at ho hx;by_cases hid:id=s
 .simp only[hid,if_true] at hx;exact .inl hx.symm
 simp only[hid,if_false] at ho hx;exact .inr ⟨id,o',ho,hm,hx⟩
theorem PH{s c k:Nat}{o:Ob}(hc:m.fr c){x:Nat}(h:(m.install s c k o).own x):m.own x:=by
 rcases h with h|h
 .exact .inl h.1
 rcases acS h with rfl|h
 .exact .inl hc
 exact .inr h
theorem PE{m1:Mem}{s c k:Nat}{o:Ob}(h:Ev m m1)(hc:m1.fr c)(hn:m.w.heap.size<=c\/m.fh c):Ev m (m1.install s c k o) where
 os:=h.os
 tape:=h.tape
 output:=h.output
 size:=h.size
 keep:=h.keep
 fh x hx hm:=by
  rcases acS hm with rfl|hm
  .rcases hn with hn|hn
   .omega
   exact hn
  exact h.fh x hx hm
 less x hx dz hm:=h.less x hx dz (PH hc hm)
 gen id:=by
  simp only[Mem.install,aM];have:=h.gen id;split
  .rename_i e;subst e;simp only;omega
  exact this
 ref id he hs:=by
  have hg:=h.gen id;simp only[Mem.install,aM] at he hs ⊢;by_cases hid:id=s
  .subst hid;simp only[if_true] at he;omega
  simp only[hid,if_false] at he hs ⊢;exact h.ref id he hs
theorem PG{s c k:Nat}{o:Ob}(h:Ok w0 m)(hc:m.fr c)(dZ:w0.heap.size<=c)(ho:tj (m.install s c k o) s o):Ok w0 (m.install s c k o):=by
 have hk:∀x,x<m.w.heap.size-> ¬m.own x->(m.install s c k o).w.heap[x]?=m.w.heap[x]? /\ ¬(m.install s c k o).own x:=fun x _ hn=>⟨rfl,fun h=>hn (PH hc h)⟩
 have dL:uj m (m.install s c k o):=by
  refine⟨hk,fun id=>?_,fun id he hs=>?_⟩
  .simp only[Mem.install,aM];split
   .rename_i e;subst e;simp only;omega
   exact aX _
  simp only[Mem.install,aM] at he hs ⊢;by_cases hid:id=s
  .subst hid;simp only[if_true] at he;omega
  simp only[hid,if_false] at he hs ⊢;exact⟨hs,trivial,trivial,trivial⟩
 exact {
  os:=h.os
  tape:=h.tape
  output:=h.output
  size:=h.size
  base:=h.base
  obj:=by
   intro id o' lG;by_cases hid:id=s
   .subst hid;simp only[Mem.install,aM,if_true,fq] at lG;exact lG▸ho
   have hs:(m.install s c k o).σ id=m.σ id:=by simp[Mem.install,aM,hid]
   have u7:(m.install s c k o).κ id=m.κ id:=by simp[Mem.install,aM,hid]
   simp only[Mem.install,aM,hid,if_false] at lG;exact(h.obj id o' lG).ev dL hs u7 rfl
  fZ:=by
   intro id o' lG hm;by_cases hid:id=s
   .subst hid;simp only[Mem.install,aM,if_true];exact⟨dZ,fun h=>h.2 rfl⟩
   simp only[Mem.install,aM,hid,if_false] at lG ⊢;exact⟨(h.fZ id o' lG hm).1,fun hf=>(h.fZ id o' lG hm).2 hf.1⟩
  frlt:=fun x hx=>h.frlt x hx.1
  inj:=by
   intro id eO o1 o2 h1 m1 h2 m2 he;by_cases hid:id=s<;>by_cases tK:eO=s
   .rw[hid,tK]
   .subst hid;simp only[Mem.install,aM,tK,if_true,if_false] at h2 he;exact((h.fZ eO o2 h2 m2).2 (he▸hc)).elim
   .subst tK;simp only[Mem.install,aM,hid,if_true,if_false] at h1 he;exact((h.fZ id o1 h1 m1).2 (he.symm▸hc)).elim
   simp only[Mem.install,aM,hid,tK,if_false] at h1 h2 he;exact h.inj id eO o1 o2 h1 m1 h2 m2 he}
def Mem.gZ(m:Mem)(id:Nat):Mem:=⟨m.w,dB m.aj id ((m.aj id).1,none),m.σ,m.κ,fun c=>m.fr c\/c=m.σ id⟩
theorem akw{id:Nat}{o:Ob}(ho:(m.aj id).2=some o)(hm:o.fh=true){x:Nat}(h:(m.gZ id).own x):m.own x:=by
 rcases h with (h|h)|⟨eO,o',h1,h2,h3⟩
 .exact .inl h
 .exact .inr ⟨id,o,ho,hm,h.symm⟩
 simp only[Mem.gZ,aM] at h1 h3;by_cases hid:eO=id
 .simp[hid] at h1
 simp only[hid,if_false] at h1;exact .inr ⟨eO,o',h1,h2,h3⟩
theorem FJ{id:Nat}{o:Ob}(ho:(m.aj id).2=some o)(hm:o.fh=true):Ev m (m.gZ id) where
 os:=rfl
 tape:=rfl
 output:=rfl
 size:=aX _
 keep _ _ _:=rfl
 fh x _ h:=by
  obtain⟨eO,o',h1,h2,h3⟩:=h;simp only[Mem.gZ,aM] at h1 h3;by_cases hid:eO=id
  .simp[hid] at h1
  simp only[hid,if_false] at h1;exact⟨eO,o',h1,h2,h3⟩
 less x _ hn h:=hn (akw ho hm h)
 gen eO:=by
  simp only[Mem.gZ,aM];split
  .rename_i e;subst e;exact aX _
  exact aX _
 ref eO he hs:=by
  simp only[Mem.gZ,aM] at he hs ⊢;by_cases hid:eO=id
  .simp[hid] at hs
  simp only[hid,if_false] at he hs ⊢;exact⟨hs,trivial,trivial,trivial⟩
theorem SY{id:Nat}{o:Ob}(h:Ok w0 m)(ho:(m.aj id).2=some o)(hm:o.fh=true):Ok w0 (m.gZ id) where
 os:=h.os
 tape:=h.tape
 output:=h.output
 size:=h.size
 base:=h.base
 obj eO o' h1:=by
  simp only[Mem.gZ,aM] at h1;by_cases hid:eO=id
  .simp[hid] at h1
  simp only[hid,if_false] at h1;exact(h.obj eO o' h1).ev (FJ ho hm).zero rfl rfl rfl
 fZ eO o' h1 h2:=by
  simp only[Mem.gZ,aM] at h1 ⊢;by_cases hid:eO=id
  .simp[hid] at h1
  simp only[hid,if_false] at h1;refine⟨(h.fZ eO o' h1 h2).1,?_⟩;rintro (hf|hf)
  .exact(h.fZ eO o' h1 h2).2 hf
  exact hid (h.inj eO id o' o h1 h2 ho hm hf)
 frlt c hc:=by
  rcases hc with hf|rfl
  .exact h.frlt c hf
  exact(h.obj id o ho).lt
 inj I9 Ja o1 o2 h1 m1 h2 m2 he:=by
  simp only[Mem.gZ,aM] at h1 h2 he;by_cases hid:I9=id
  .simp[hid] at h1
  by_cases tK:Ja=id
  .simp[tK] at h2
  simp only[hid,tK,if_false] at h1 h2;exact h.inj I9 Ja o1 o2 h1 m1 h2 m2 he
def Mem.jX(m:Mem)(w':World)(id:Nat)(o:Ob):Mem:=⟨w',dB m.aj id ((m.aj id).1,some o),m.σ,m.κ,m.fr⟩
section
variable {m:Mem} {w':World} {id:Nat} {o old:Ob} (ho:(m.aj id).2=some old) (hm:old.fh=true)
include ho hm
theorem ar8{x:Nat}(h:(m.jX w' id o).own x):m.own x:=by
 rcases h with h|⟨eO,o',h1,h2,h3⟩
 .exact .inl h
 simp only[Mem.jX,aM] at h1 h3;by_cases hid:eO=id
 .exact .inr ⟨id,old,ho,hm,hid▸h3⟩
 simp only[hid,if_false] at h1;exact .inr ⟨eO,o',h1,h2,h3⟩
theorem NC(cn:kB ((m.aj id).1,some o)=kB ((m.aj id).1,some old))(zJ:w'.os=m.w.os)(ht:w'.tape=m.w.tape)(nk:w'.output=m.w.output)(hs:w'.heap.size=m.w.heap.size)
  (hk:∀c,c≠m.σ id->w'.heap[c]?=m.w.heap[c]?):Ev m (m.jX w' id o) where
 os:=zJ
 tape:=ht
 output:=nk
 size:=BC hs.symm
 keep c _ hn:=hk c fun e=>hn ⟨id,old,ho,hm,e.symm⟩
 fh x _ h:=by
  obtain⟨eO,o',h1,h2,h3⟩:=h;simp only[Mem.jX,aM] at h1 h3;by_cases hid:eO=id
  .exact⟨id,old,ho,hm,hid▸h3⟩
  simp only[hid,if_false] at h1;exact⟨eO,o',h1,h2,h3⟩
 less x _ hn h:=hn (ar8 ho hm h)
 gen eO:=by
  simp only[Mem.jX,aM];split
  .rename_i e;subst e;exact aX _
  exact aX _
 ref eO he hss:=by
  simp only[Mem.jX,aM] at he hss ⊢;by_cases hid:eO=id
  .subst hid;refine⟨by simp[ho],trivial,trivial,?_⟩;simp only[if_true];rw[cn,<- ho]
  simp only[hid,if_false] at he hss ⊢;exact⟨hss,trivial,trivial,trivial⟩
theorem QQ(h:Ok w0 m)(cn:kB ((m.aj id).1,some o)=kB ((m.aj id).1,some old))(zJ:w'.os=m.w.os)(ht:w'.tape=m.w.tape)(nk:w'.output=m.w.output)(hs:w'.heap.size=m.w.heap.size)
  (hk:∀c,c≠m.σ id->w'.heap[c]?=m.w.heap[c]?) (CJ:tj (m.jX w' id o) id o):Ok w0 (m.jX w' id o) where
 os:=zJ.trans h.os
 tape:=ht.trans h.tape
 output:=nk.trans h.output
 size:=ll h.size (BC hs.symm)
 base c hc:=by have:=(h.fZ id old ho hm).1;exact(hk c aa).trans (h.base c hc)
 obj eO o' h1:=by
  simp only[Mem.jX,aM] at h1;by_cases hid:eO=id
  .subst hid;simp only[if_true,fq] at h1;exact h1▸CJ
  simp only[hid,if_false] at h1;refine(h.obj eO o' h1).ev (NC ho hm cn zJ ht nk hs hk).zero rfl rfl (hk _ fun e=>?_);cases AP:o'.fh with
  |true=>exact hid (h.inj eO id o' old h1 AP ho hm e)
  |false=>exact(h.obj eO o' h1).calm AP (.inr ⟨id,old,ho,hm,e.symm⟩)
 fZ eO o' h1 h2:=by
  simp only[Mem.jX,aM] at h1 ⊢;by_cases hid:eO=id
  .subst hid;exact h.fZ eO old ho hm
  simp only[hid,if_false] at h1;exact h.fZ eO o' h1 h2
 frlt c hc:=by rw[show(m.jX w' id o).w.heap.size=m.w.heap.size from hs];exact h.frlt c hc
 inj I9 Ja o1 o2 h1 m1 h2 m2 he:=by
  simp only[Mem.jX,aM] at h1 h2 he;by_cases hid:I9=id<;>by_cases tK:Ja=id
  .rw[hid,tK]
  .simp only[tK,if_false] at h2;exact hid▸h.inj id Ja old o2 ho hm h2 m2 (hid▸he)
  .simp only[hid,if_false] at h1;exact tK▸h.inj I9 id o1 old h1 m1 ho hm (tK▸he)
  simp only[hid,tK,if_false] at h1 h2;exact h.inj I9 Ja o1 o2 h1 m1 h2 m2 he
end
end
end Go.Abs
namespace Go.Abs
def KR:Value->Option PV
 | .bool b=>some (.bool b)
 | .int k n=>some (.int k n)
 | .string s=>some (.str s)
 | .pointer none=>some .uG
 | .slice none 0 0=>some .nils
 | .map none=>some .rj
 | .nilFunc=>some .yn
 | .nilIface=>some .nili
 |_=>none
def HR:List Value->Option (List PV)
 |[]=>some []
 |v::r=>match KR v,HR r with
  |some x,some xs=>some (x::xs)
  |_,_=>none
def SG:Value->Option V
 | .agg cs=>(HR cs.toList).map fun l=>.agg (l.map .p)
 |v=>(KR v).map fun x=>.one (.p x)
def cA:Operand->Option aQ
 | .tmp t=>some (.t t)
 | .const (.int .i64 n)=>some (.i n)
 | .const (.bool b)=>some (.b b)
 | .const v=>(SG v).map .k
 | .func f=>some (.k (.one (.p (.fn f [] []))))
 | .global _=>none
def pZ:List Operand->Option (List aQ)
 |[]=>some []
 |a::r=>match cA a,pZ r with
  |some x,some xs=>some (x::xs)
  |_,_=>none
def xm:Option Operand->Option (Option aQ)
 |none=>some none
 |some a=>(cA a).map some
def zX(P:Program)(t:TypeId):Option (List PV):=
 match P.info? t with
 |some i=>match i.zero with
  |some (.agg cs)=>if cs.size=i.size then HR cs.toList else none
  |some v=>if i.size=1 then (KR v).map fun x=>[x] else none
  |none=>none
 |none=>none
def qY(P:Program)(t:TypeId):Option (Option Nat):=
 match P.underlying t,P.info? t with
 |some (.struct _),some i=>some (some i.size)
 |some (.array _ _),some i=>some (some i.size)
 |some _,some i=>if i.size=1 then some none else none
 |_,_=>none
def wV(P:Program)(t:TypeId):Option Nat:=(P.info? t).map (·.size)
def CZ(place:Nat->Option (Nat×Nat))(zl:Nat):List (Nat×Operand)->Option (List (Nat×Nat×aQ))
 |[]=>some []
 |(i,x)::r=>match place i,cA x,CZ place zl r with
  |some (off,n),some a,some q=>if off+n<=zl then some ((off,n,a)::q) else none
  |_,_,_=>none
def Ib:Nat->List (Nat×Operand)->Option (List aQ)
 |_,[]=>some []
 |k,(i,x)::r=>match cA x,Ib (k+1) r with
  |some a,some q=>if i=k then some (a::q) else none
  |_,_=>none
def QP(P:Program)(t:TypeId):Option Bool:=
 match P.underlying t with
 |some (.int _)=>some true
 |some .bool=>some false
 |_=>none
def JN(P:Program):Nat->List Field->Option (List Bool)
 |_,[]=>some []
 |k,f::r=>match QP P f.type,JN P (k+1) r with
  |some b,some bs=>if f.offset=k/\f.name≠ "_" then some (b::bs) else none
  |_,_=>none
def Jp:Operand->Bool
 | .const .nilIface=>true
 |_=>false
def K7(P:Program)(t:TypeId)(x y:Operand):Option uN:=
 match P.underlying t with
 |some (.interface _)=>if Jp x||Jp y then some .ifc else none
 |some .bool=>some .bool
 |some (.pointer _)=>some .ptr
 |some (.slice _)=>some .slc
 |some (.map _ _)=>some .map
 |some (.func _ _ _)=>some .fnc
 |some (.struct fs)=>if !P.stoodInHeld t&& !P.eqGuardType P.depth t then (JN P 0 fs.toList).map .str else none
 |_=>none
def Ah(P:Program)(t:TypeId):Option (TypeId×Nat×Nat×List PV):=
 match P.underlying t with
 |some (.slice e)=>match P.info? e,zX P e with
  |some i,some z=>if 0<i.size/\0<i.bytes then some (e,i.size,i.bytes,z) else none
  |_,_=>none
 |_=>none
def keyOf(P:Program)(k:TypeId):Option Nat:=
 match P.underlying k with
 |some (.int _)=>some 0
 |some .string=>some 1
 |some .bool=>some 2
 |_=>none
def Rn(P:Program)(t:TypeId):Bool:=
 match P.info? t with
 |some i=>match i.zero with
  |some (.agg _)=>true
  |_=>false
 |none=>false
def FH(P:Program)(site:Nat)(o:Oper):Option mT:=
 match o.op with
 | .move x=>(cA x).map .ym
 | .assign x=>(cA x).map .ym
 | .pick c a b=>match cA c,cA a,cA b with
  |some c,some a,some b=>some (.pick c a b)
  |_,_,_=>none
 | .alloc t=>(zX P t).map (.alloc site)
 | .box _ x=>(cA x).map (.box site)
 | .build t ps=>match P.underlying t,zX P t with
  |some (.struct fs),some z=>if fs.all fun f=>(P.info? f.type).isSome then
    (CZ (fun i=>(fs[i]?).map fun f=>(f.offset,P.cellsOf f.type)) z.length ps.toList).map (.build z)
   else none
  |some (.array _ e),some z=>match P.info? e with
   |some i=>(CZ (fun k=>some (k*i.size,i.size)) z.length ps.toList).map (.build z)
   |none=>none
  |_,_=>none
 | .buildSlice t n ps=>match Ah P t,Ib 0 ps.toList with
  |some (e,sz,_,_),some as=>if as.length=n/\n*sz<=16777216 then some (.DE site e sz as) else none
  |_,_=>none
 | .load t a=>match qY P t,cA a with
  |some k,some a=>some (.load k a)
  |_,_=>none
 | .store t a x=>match wV P t,cA a,cA x with
  |some n,some a,some x=>some (.store n a x)
  |_,_,_=>none
 | .nilCheck x=>(cA x).map .Jq
 | .binOp op t x y _=>match cA x,cA y with
  |some a,some b=>match P.underlying t with
   |some (.int _)=>some (.bin op a b)
   |some .string=>some (.bin op a b)
   |_=>match op,K7 P t x y with
    | .eql,some k=>some (.eqc k false a b)
    | .neq,some k=>some (.eqc k true a b)
    |_,_=>none
  |_,_=>none
 | .unOp op _ x=>match op with
  | .not=>(cA x).map (.un .not)
  | .neg=>(cA x).map (.un .neg)
  |_=>none
 | .convert s d x=>match P.underlying s,P.underlying d,cA x with
  |some (.int _),some (.int k),some a=>some (.conv k a)
  |some (.slice e),some .string,some a=>match P.underlying e with
   |some (.int .u8)=>some (.bstr a)
   |_=>none
  |_,_,_=>none
 | .makeFunc (.func f) a b=>match pZ a.toList,pZ b.toList with
  |some x,some y=>some (.mkfn f x y)
  |_,_=>none
 | .makeMap t none=>match P.underlying t with
  |some (.map _ e)=>(qY P e).map fun k=>.mkmap site k.isSome
  |_=>none
 | .makeSlice t l c=>match Ah P t,cA l,cA c with
  |some (e,sz,bytes,z),some l,some c=>some (.Jj site e sz bytes z l c)
  |_,_,_=>none
 | .slice t x lo hi none=>match cA x,xm lo,xm hi with
  |some a,some l,some h=>match P.underlying t with
   |some (.slice e)=>(wV P e).map fun sz=>.slice sz a l h
   |some .string=>some (.sslice a l h)
   |_=>none
  |_,_,_=>none
 | .fieldAddr s x f=>match P.underlying s,cA x with
  |some (.struct fs),some a=>match fs[f]? with
   |some d=>if P.cellsOf d.type≠0 then some (.FP d.offset a) else none
   |none=>none
  |_,_=>none
 | .field t x f=>match P.underlying t,cA x with
  |some (.struct fs),some a=>match fs[f]? with
   |some d=>(qY P d.type).map fun k=>.fld d.offset k a
   |none=>none
  |_,_=>none
 | .indexAddr t x i=>match cA x,cA i with
  |some a,some b=>match P.underlying t with
   |some (.slice e)=>(wV P e).map fun sz=>.Gu sz a b
   |some (.array n e)=>(wV P e).map fun sz=>.Hw n sz a b
   |_=>none
  |_,_=>none
 | .index t x i=>match cA x,cA i with
  |some a,some b=>match P.underlying t with
   |some (.array n e)=>match wV P e,qY P e with
    |some sz,some k=>some (.aidx n sz k a b)
    |_,_=>none
   |some .string=>some (.sidx a b)
   |_=>none
  |_,_=>none
 | .lookup t x k ok=>match P.underlying t,cA x,cA k with
  |some (.map kt e),some a,some b=>match zX P e,qY P e with
   |some z,some q=>match keyOf P kt with
    |some kd=>if Rn P e=q.isSome then some (.lookup kd z q.isSome ok a b) else none
    |none=>none
   |_,_=>none
  |_,_,_=>none
 | .mapUpdate t m k v=>match P.underlying t,cA m,cA k,cA v with
  |some (.map kt e),some a,some b,some c=>match qY P e with
   |some q=>(keyOf P kt).map fun kd=>.mupd kd q.isSome a b c
   |none=>none
  |_,_,_,_=>none
 | .insert t m k v=>match P.underlying t,cA m,cA k,cA v with
  |some (.map kt e),some a,some b,some c=>match qY P e with
   |some q=>(keyOf P kt).map fun kd=>.mupd kd q.isSome a b c
   |none=>none
  |_,_,_,_=>none
 | .extract x i=>(cA x).map fun a=>.extract a i
 | .call c=>match c.callee,pZ c.args.toList with
  | .value f,some as=>(cA f).map fun g=>.call site g as
  | .builtin .len,some [a]=>match c.argTypes[0]? with
   |some t=>match P.underlying t with
    |some .string=>some (.slen a)
    |some (.slice _)=>some (.Jh a)
    |some (.map _ _)=>some (.mlen a)
    |_=>none
   |none=>none
  | .builtin .append,some [a,b]=>match c.argTypes[0]?,c.argTypes[1]? with
   |some t,some u=>match Ah P t with
    |some (e,sz,bytes,_)=>if t=u/\c.argTypes.size=2 then some (.append site e sz bytes a b) else none
    |none=>none
   |_,_=>none
  | .builtin .max,some [a,b]=>some (.max a b)
  | .builtin .min,some [a,b]=>some (.min a b)
  | .builtin .clear,some [a]=>match c.argTypes[0]? with
   |some t=>(Ah P t).map fun q=>.clear q.2.2.2 a
   |none=>none
  |_,_=>none
 |_=>none
def aQ.tmps:aQ->List Nat
 | .t n=>[n]
 |_=>[]
def Fa:List aQ->List Nat
 |[]=>[]
 |a::r=>a.tmps++Fa r
def Xj:Option aQ->List Nat
 |some a=>a.tmps
 |none=>[]
def Xk:List (Nat×Nat×aQ)->List Nat
 |[]=>[]
 |(_,_,a)::r=>a.tmps++Xk r
def mT.tmps:mT->List Nat
 | .ym x| .box _ x| .load _ x| .Jq x| .un _ x| .conv _ x| .bstr x| .FP _ x| .fld _ _ x| .extract x _| .slen x| .Jh x| .mlen x| .clear _ x=>x.tmps
 | .pick c a b=>c.tmps++a.tmps++b.tmps
 | .alloc _ _| .mkmap _ _| .bad=>[]
 | .build _ ps=>Xk ps
 | .DE _ _ _ ps=>Fa ps
 | .store _ a x| .bin _ a x| .eqc _ _ a x| .Gu _ a x| .Hw _ _ a x| .aidx _ _ _ a x| .sidx a x| .lookup _ _ _ _ a x| .append _ _ _ _ a x| .max a x| .min a x=>a.tmps++x.tmps
 | .mkfn _ a b=>Fa a++Fa b
 | .Jj _ _ _ _ _ a b=>a.tmps++b.tmps
 | .slice _ x a b| .sslice x a b=>x.tmps++Xj a++Xj b
 | .mupd _ _ a b c=>a.tmps++b.tmps++c.tmps
 | .call _ f as=>f.tmps++Fa as
def bl.G0(o:bl):List Nat:=
 o.op.tmps++match o.guard with
  |some (t,_)=>[t]
  |none=>[]
def FT(a b:bl):Bool:=
 (match a.dst with
  |some d=> !b.G0.contains d&&b.dst !=some d
  |none=>true)&&
 (match b.dst with
  |some d=> !a.G0.contains d
  |none=>true)
def OW(o:bl):Nat->List bl->Bool
 |_,[]=>true
 |j,x::r=>(o.anc.testBit j||FT x o)&&OW o (j+1) r
def Lh:List bl->List bl->Bool
 |[],_=>true
 |o::os,past=>OW o 0 past&&Lh os (past++[o])
def HP(P:Program)(site:Nat)(o:Oper):mT:=(FH P site o).getD .bad
def ZM(nt:Nat):Option Nat->Bool
 |some d=>decide (d<nt)
 |none=>true
def Va(dst:Nat->Option Nat):Option (Nat×Bool)->Option (Option (Nat×Bool))
 |none=>some none
 |some (j,w)=>(dst j).map fun t=>some (t,w)
def DN(P:Program)(dst:Nat->Option Nat)(base nt:Nat)(anc:Nat)(o:Oper):Option bl:=if ZM nt o.dst then (Va dst o.guard).map fun g=>⟨o.dst,HP P base o,g,anc⟩ else none
def vT(P:Program)(dst anc:Nat->Option Nat)(base nt:Nat):Nat->List Oper->Option (List bl)
 |_,[]=>some []
 |i,o::r=>match DN P dst ((base+i)*64) nt ((anc i).getD 0) o,vT P dst anc base nt (i+1) r with
  |some x,some xs=>some (x::xs)
  |_,_=>none
def Hx(ops:Array Oper):Bool:=(List.range ops.size).all fun i=>match ops[i]? with
 |some o=>o.after.toList.all fun e=> !Region.binds .any e||decide (e.on<i)
 |none=>true
def oQ(P:Program)(f nt:Nat):Code->Option aJ
 | .skip=>some .skip
 | .region id ops draw=>
  let b:=if draw then Region.before ops else #[]
  match vT P (fun j=>(ops[j]?).bind (·.dst)) (fun i=>b[i]?) ((f*1000+id)*1000) nt 0 ops.toList with
  |some xs=>if draw then (if Hx ops&&Lh xs [] then some (.region true xs) else none) else some (.region false xs)
  |none=>none
 | .seq a b=>match oQ P f nt a,oQ P f nt b with
  |some x,some y=>some (.seq x y)
  |_,_=>none
 | .cond c a b=>match cA c,oQ P f nt a,oQ P f nt b with
  |some c,some x,some y=>some (.cond c x y)
  |_,_,_=>none
 | .block id c=>(oQ P f nt c).map (.block id)
 | .loop c=>(oQ P f nt c).map .loop
 | .exit id=>some (.exit id)
 | .scope c=>oQ P f nt c
 | .label _=>some .skip
 | .ret=>some .ret
 |_=>some .bad
def Bg(P:Program):List ResultVar->Option (List (Nat×Option (Option Nat)))
 |[]=>some []
 | .tmp t::r=>(Bg P r).map ((t,none):: ·)
 | .cell t ty::r=>match qY P ty,Bg P r with
  |some k,some q=>some ((t,some k)::q)
  |_,_=>none
def Af(P:Program)(f:Nat):Option aW:=
 match P.funcs[f]? with
 |none=>none
 |some fn=>match fn.body with
  |none=>none
  |some c=>if fn.name== "runtime.NumGoroutine" then none else
   match oQ P f fn.ntmps c,Bg P fn.results.toList with
   |some b,some r=>some ⟨fn.ntmps,r,b⟩
   |_,_=>none
end Go.Abs
namespace Go.Abs
variable {P:Program} {w0:World}
section
variable{m:Mem}
def iW(m:Mem)(ak:Env)(tmps:Array Value):Prop:=∀t,bJ m (ak t) (tmps.getD t undef)
theorem iW.ev{m':Mem}(h:Ev m m'){ak:Env}{tmps:Array Value}(hr:iW m ak tmps):iW m' ak tmps:=fun t=>(hr t).ev h.zero
theorem bJ.one{c:C}{v:Value}:bJ m (.one c) v↔cT m c v:=Iff.rfl
theorem bJ.agg{cs:List C}{v:Value}:bJ m (.agg cs) v↔ ∃arr,v=.agg arr/\di m cs arr.toList:=Iff.rfl
theorem bJ.of1{x:V}{v:Value}(h:nH m x v):bJ m x v:=by
 cases x with
 |tup vs=>exact h.elim
 |_=>exact h
theorem SF{w:World}{own:Nat->Prop}{v:Value}{x:PV}(h:KR v=some x):bU w own x v:=by
 unfold KR at h;split at h<;>first
  |(cases h;constructor;done)
  |cases h
theorem Zl{w:World}{own:Nat->Prop}:∀ {vs:List Value} {xs:List PV},HR vs=some xs->df w own xs vs:=by
 intro vs
 induction vs with
 |nil=>intro xs h;simp[HR] at h;subst h;exact⟨rfl,fun j x u a _=>by simp at a⟩
 |cons v r ih=>
  intro xs h;simp only[HR] at h;split at h
  .rename_i x ys h1 h2;cases h;obtain⟨hl,hr⟩:=ih h2;refine⟨by simp[hl],fun j z u a b=>?_⟩;cases j with
   |zero=>simp at a b;subst a b;exact SF h1
   |succ j=>simp at a b;exact hr j z u a b
  cases h
theorem df.Dl{xs:List PV}{vs:List Value}(h:df m.w m.own xs vs):di m (xs.map .p) vs:=by refine⟨by simp[h.1],fun j x u a b=>?_⟩;simp only[fR,dC] at a;obtain⟨y,hy,rfl⟩:=a;exact .p (h.2 j y u hy b)
theorem ajN{v:Value}{x:V}(h:SG v=some x):bJ m x v:=by
 unfold SG at h;split at h
 .simp only[dC] at h;obtain⟨xs,h1,rfl⟩:=h;exact bJ.agg.2 ⟨_,rfl,(Zl h1).Dl⟩
 simp only[dC] at h;obtain⟨y,h1,rfl⟩:=h;exact bJ.one.2 (.p (SF h1))
theorem ek{ak:Env}{a:Act}{x:Operand}{y:aQ}(h:cA x=some y)(hr:iW m ak a.tmps):bJ m (ev ak y) (a.eval x):=by
 unfold cA at h;split at h
 .cases h;exact hr _
 .cases h;exact bJ.one.2 (.p (.int _ _))
 .cases h;exact bJ.one.2 (.p (.bool _))
 .simp only[dC] at h;obtain⟨v,h1,rfl⟩:=h;exact ajN h1
 .cases h;exact bJ.one.2 (.p (.fn #[] #[] rfl rfl (fun j x u a=>by simp at a) (fun j x u a=>by simp at a)))
 cases h
def Does(P:Program)(ρ:Operand->Value)(o:Oper)(w:World)(x:Value)(w':World):Prop:=
 (execOp ρ o).run P w=.ok (.value x) w'\/((execOp ρ o).run P w=.ok .skip w'/\x=undef)
def ft(P:Program)(w0:World)(ρ:Operand->Value)(o:Oper)(m:Mem)(v:V)(u:List eG):Prop:=∃x m',Does P ρ o m.w x m'.w/\Ok w0 m'/\Ev m m'/\m'.fr=m.fr/\m'.aj=app u m.aj/\bJ m' v x
theorem ft.calm{ρ:Operand->Value}{o:Oper}{v:V}{x:Value}(h:Ok w0 m)(jJ:(execOp ρ o).run P m.w=.ok (.value x) m.w)(hv:bJ m v x):ft P w0 ρ o m v []:=
 ⟨x,m,.inl jJ,h,Ev.refl m,rfl,rfl,hv⟩
section
variable {m:Mem} {ak:Env} {a:Act} {o:Oper} (au:Ok w0 m) (hr:iW m ak a.tmps)
include au hr
theorem agl{x:Operand}{y:aQ}(ho:o.op=.move x\/o.op=.assign x)(hx:cA x=some y):ft P w0 a.eval o m (ev ak y) []:=
 .calm au (by rcases ho with ho|ho<;>simp[execOp,ho]) (ek hx hr)
theorem asK{c x y:Operand}{c' x' y':aQ}{t:Bool}(ho:o.op=.pick c x y)(hc:cA c=some c')(hx:cA x=some x')(hy:cA y=some y')
  (ht:ev ak c'=.one (.p (.bool t))):ft P w0 a.eval o m (if t then ev ak x' else ev ak y') []:=by
 have h1:=ek hc hr;rw[ht] at h1;obtain⟨⟩:cT m (.p (.bool t)) _:=h1;rename_i hp;generalize hb:a.eval c=b at hp;cases hp;refine .calm (x:=if t then a.eval x else a.eval y) au ?_ ?_
 .simp[execOp,ho,hb,asBool]
 cases t
 .exact ek hy hr
 exact ek hx hr
end
theorem EG{b:Bool}{v:Value}(h:bJ m (.one (.p (.bool b))) v):v=.bool b:=by obtain⟨hp⟩:cT m _ v:=h;cases hp;rfl
theorem CQ{k:IntKind}{n:Int}{v:Value}(h:bJ m (.one (.p (.int k n))) v):v=.int k n:=by obtain⟨hp⟩:cT m _ v:=h;cases hp;rfl
theorem MY{s:ByteArray}{v:Value}(h:bJ m (.one (.p (.str s))) v):v=.string s:=by obtain⟨hp⟩:cT m _ v:=h;cases hp;rfl
theorem PJ{v:Value}(h:bJ m (.one (.p .nils)) v):v=.slice none 0 0:=by obtain⟨hp⟩:cT m _ v:=h;cases hp;rfl
theorem anZ{v:Value}(h:bJ m (.one (.p .zs)) v):∃a,v=.slice a 0 0:=by obtain⟨hp⟩:cT m _ v:=h;cases hp;exact⟨_,rfl⟩
theorem acT{v:Value}(h:bJ m (.one (.p .rj)) v):v=.map none:=by obtain⟨hp⟩:cT m _ v:=h;cases hp;rfl
theorem mg{x:PV}{v:Value}(h:bU m.w m.own x v):bJ m (.one (.p x)) v:=bJ.one.2 (.p h)
def Mem.fresh(m:Mem)(ob:Obj)(s k:Nat)(o:Ob):Mem:=(m.later (m.w.alloc ob) (· =m.w.heap.size)).install s m.w.heap.size k o
theorem UX(au:Ok w0 m)(ob:Obj)(s k:Nat)(o:Ob):(m.fresh ob s k o).fr=m.fr:=by
 funext c;simp only[Mem.fresh,Mem.install,Mem.later];apply propext;constructor
 .rintro ⟨h|h,h2⟩
  .exact h
  exact(h2 h).elim
 intro h;exact⟨.inl h,fun e=>by have:=au.frlt c h;omega⟩
theorem OX(ob:Obj)(s k:Nat)(o:Ob):Ev m (m.fresh ob s k o):=PE (Je (fg.alloc m.w ob) fun c hc=>BC hc.symm) (.inr rfl) (.inl (aX _))
theorem abt(ob:Obj)(s k:Nat)(o:Ob):(m.fresh ob s k o).w.heap[(m.fresh ob s k o).σ s]?=some ob:=by
 have:(m.fresh ob s k o).σ s=m.w.heap.size:=by simp[Mem.fresh,Mem.install,aM]
 rw[this];exact heap_alloc_new m.w ob
theorem abu(au:Ok w0 m)(ob:Obj)(s k:Nat)(o:Ob)(ho:tj (m.fresh ob s k o) s o):Ok w0 (m.fresh ob s k o):=PG (M4 au (fg.alloc m.w ob) fun c hc=>by subst hc;exact⟨aX _,af⟩) (.inr rfl) au.size ho
theorem UW(m:Mem)(ob:Obj)(s k:Nat)(o:Ob):(m.fresh ob s k o).aj=app [(s,((m.aj s).1+1,some o))] m.aj:=rfl
theorem abv(au:Ok w0 m)(s:Nat)(t:TypeId)(cs:List C)(arr:Array Value)(hc:di m cs arr.toList):
  Ok w0 (m.fresh (.cells arr t) s 0 (.var cs))/\bJ (m.fresh (.cells arr t) s 0 (.var cs)) (.one (.bk s ((m.aj s).1+1) 0)) (.pointer (some ⟨m.w.heap.size,0,none⟩)):=by
 refine⟨abu au _ s 0 _ ⟨arr,t,abt _ s 0 _,hc.ev (OX _ s 0 _).zero⟩,bJ.one.2 (.bk _ ?_ fun _ _=>?_)⟩
 .simp[Mem.fresh,Mem.install,Mem.later,aM]
 simp[Mem.fresh,Mem.install,aM]
theorem NR{t:TypeId}{z:List PV}(h:zX P t=some z):∃v i,P.info? t=some i/\i.zero=some v/\v.cells.size=i.size/\z.length=i.size/\ ∀w own,df w own z v.cells.toList:=by
 unfold zX at h;split at h
 .rename_i i hi;split at h
  .rename_i cs hz;split at h
   .rename_i hs;have hr:=fun w own=>Zl (w:=w) (own:=own) h;refine⟨_,i,hi,hz,by simpa [Value.cells] using hs,?_,fun w own=>by simpa [Value.cells] using hr w own⟩;have:=(hr default (fun _=>False)).1;simp at this;omega
   cases h
  .rename_i v hz hv;split at h
   .rename_i hs;simp only[dC] at h;obtain⟨x,hx,rfl⟩:=h;have hr:=fun w own=>SF (w:=w) (own:=own) hx;have hc:=(hr default (fun _=>False)).cells;refine⟨v,i,hi,hv,by simp[hc,hs],by simp[hs],fun w own=>?_⟩;rw[hc];refine⟨rfl,fun j y u a b=>?_⟩;cases j with
    |zero=>simp at a b;subst a b;exact hr w own
    |succ j=>simp at a
   cases h
  cases h
 cases h
section
variable {m:Mem} {ak:Env} {a:Act} {o:Oper} (au:Ok w0 m) (hr:iW m ak a.tmps)
include au
theorem asj{t:TypeId}{z:List PV}{s:Nat}(ho:o.op=.alloc t)(hz:zX P t=some z):
  ft P w0 a.eval o m (.one (.bk s ((m.aj s).1+1) 0)) [(s,((m.aj s).1+1,some (.var (z.map .p))))]:=by
 obtain⟨v,i,hi,hv,hs,hl,dp⟩:=NR hz;obtain⟨h1,h2⟩:=abv au s t (z.map .p) v.cells (dp m.w m.own).Dl;refine⟨_,_,.inl ?_,h1,OX _ s 0 _,UX au _ s 0 _,UW _ _ s 0 _,h2⟩;simp[execOp,ho,Instr.alloc,zeroValue,typeInfo,hi,hv,newVar,newRow];rfl
include hr
theorem asn{t:TypeId}{x:Operand}{y:aQ}{cs:List C}{s:Nat}(ho:o.op=.box t x)(hx:cA x=some y)(hc:rG (ev ak y)=some cs):
  ft P w0 a.eval o m (.one (.bk s ((m.aj s).1+1) 0)) [(s,((m.aj s).1+1,some (.var cs)))]:=by
 have hv:=ek hx hr;have cY:di m cs (a.eval x).cells.toList:=by
  generalize ev ak y=w at hc hv;cases w with
  |undef=>simp[rG] at hc
  |tup vs=>simp[rG] at hc
  |one c=>
   simp[rG] at hc;subst hc;rw[(bJ.one.1 hv).cells];refine⟨rfl,fun j y u p q=>?_⟩;cases j with
   |zero=>simp at p q;subst p q;exact hv
   |succ j=>simp at p
  |agg ds=>simp[rG] at hc;subst hc;obtain⟨arr,e,h⟩:=bJ.agg.1 hv;rw[e];exact h
 obtain⟨h1,h2⟩:=abv au s t cs _ cY;refine⟨_,_,.inl ?_,h1,OX _ s 0 _,UX au _ s 0 _,UW _ _ s 0 _,h2⟩;simp[execOp,ho,Instr.box,newVar,newRow];rfl
end
end
end Go.Abs
namespace Go.Abs
variable {P:Program} {w0:World}
theorem FR{α:Type}{sz:Nat}:∀ {es:List (List α)},(∀e∈es,e.length=sz)->es.flatten.length=es.length*sz:=by
 intro es
 induction es with
 |nil=>intro _;simp
 |cons e r ih=>intro h;have h1:=h e af;have h2:=ih fun x hx=>h x (by simp[hx]);simp only[lR,dX,cq,h1,h2,fY,Nat.one_mul];omega
theorem FQ{α:Type}{sz:Nat}:∀ {es:List (List α)},(∀e∈es,e.length=sz)->∀ {i:Nat} {e:List α},es[i]?=some e->∀ {j:Nat},j<sz->es.flatten[i*sz+j]?=e[j]? :=by
 intro es
 induction es with
 |nil=>intro _ i e h;simp at h
 |cons x r ih=>
  intro h i e he j hj;have h1:=h x af;cases i with
  |zero=>simp at he;subst he;simp only[lR,Aa,iD];rw[pS aa]
  |succ i=>simp at he;have h2:=ih (fun y hy=>h y (by simp[hy])) he hj;simp only[lR];rw[mQ (by rw[h1,fY];omega),<- h2];congr 1;rw[h1,fY];omega
theorem Lm{α:Type}{sz:Nat}{es:List (List α)}(h:∀e∈es,e.length=sz){i:Nat}{e:List α}(he:es[i]?=some e):e.length=sz:=h e (aU he)
theorem DG{w:World}{b k:Nat}{cur:Array Value}{ty:TypeId}{fz:Nat×Nat}(h:w.heap[b]?=some (.cells cur ty fz)):w.cell? ⟨b,k,none⟩=cur[k]? :=cell_of_row w b k cur ty fz h
def At (m:Mem)(v:Value)(cs:List C):Prop:=∃b o vs,v=.pointer (some ⟨b,o,none⟩)/\di m cs vs/\ ∀(j:Nat) (u:Value),vs[j]?=some u->m.w.cell? ⟨b,o+j,none⟩=some u
theorem At.row{m:Mem}{b o:Nat}{cur:Array Value}{ty:TypeId}{fz:Nat×Nat}(h:m.w.heap[b]?=some (.cells cur ty fz)){cs:List C}(hl:o+cs.length<=cur.size)
  (hc:∀(j:Nat) (x:C) (u:Value),cs[j]?=some x->cur[o+j]?=some u->cT m x u):At m (.pointer (some ⟨b,o,none⟩)) cs:=by
 refine⟨b,o,(cur.toList.drop o).take cs.length,rfl,⟨by simp;omega,fun j x u p q=>?_⟩,fun j u q=>?_⟩
 .rw[jt] at q;split at q
  .exact hc j x u p (by simpa using q)
  cases q
 rw[jt] at q;split at q
 .rw[DG h];simpa using q
 cases q
theorem afF{m:Mem}(au:Ok w0 m){x:V}{v:Value}{cs:List C}{rd:List Nat}(h:Bf m.aj x=some (cs,rd))(hv:bJ m x v):At m v cs:=by
 unfold Bf at h;split at h
 .rename_i ps;simp only[fq,ko] at h;obtain⟨rfl,rfl⟩:=h;obtain⟨hp⟩:cT m _ v:=hv;cases hp with
  |box b o f ho hc hr=>
   refine⟨b,o,(List.range ps.length).map f,rfl,⟨af,fun j x u p q=>?_⟩,fun j u q=>?_⟩
   .simp only[fR,dC] at p q;obtain⟨y,hy,rfl⟩:=p;obtain⟨k,hk,rfl⟩:=q;have qT:k=j:=by
     rw[te (by have:=aS.1 hy;obtain⟨h,_⟩:=this;exact h)] at hk
     simpa using hk.symm
    subst qT;exact .p (hr k y hy)
   simp only[fR,dC] at q;obtain⟨k,hk,rfl⟩:=q;have aw:j<ps.length:=by have:=aS.1 hk;obtain⟨h,_⟩:=this;simpa using h
   rw[te aw] at hk;simp at hk;subst hk;exact hc j _ (nG aw)
 .rename_i id g off;have hv:cT m _ v:=hv;cases hv with
  |bk a hg ha=>
   split at h
   .rename_i g' yW hb;split at h
    .rename_i iL;simp only[fq,ko] at h;obtain⟨rfl,rfl⟩:=h;have aV:(m.aj id).2=some (.var yW):=by rw[hb]
     have ha:=ha (by rw[hb];exact iL) (by rw[aV];rfl);subst ha;obtain⟨cur,ty,hh,hl,hc⟩:=au.obj id _ aV;simp at hl;by_cases ho:off<=yW.length
     .exact At.row hh (by simp;omega) fun j x u p q=>hc (off+j) x u (by simpa using p) (by simpa using q)
     exact⟨_,_,[],rfl,⟨by simp;omega,fun j x u p q=>by simp at q⟩,fun j u q=>by simp at q⟩
    cases h
   .rename_i g' yW hb;split at h
    .rename_i iL;simp only[fq,ko] at h;obtain⟨rfl,rfl⟩:=h;have aV:(m.aj id).2=some (.fvar yW):=by rw[hb]
     have ha:=ha (by rw[hb];exact iL) (by rw[aV];rfl);subst ha;obtain⟨cur,ty,fz,hh,hp,_⟩:=au.obj id _ aV;have hl:=hp.1;simp at hl;by_cases ho:off<=yW.length
     .refine At.row hh (by simp;omega) fun j x u p q=>?_;simp only[fR,dC] at p;obtain⟨y,hy,rfl⟩:=p;exact .p (hp.2 (off+j) y u (by simpa using hy) (by simpa using q))
     exact⟨_,_,[],rfl,⟨by simp;omega,fun j x u p q=>by simp at q⟩,fun j u q=>by simp at q⟩
    cases h
   cases h
 .rename_i id g i off;have hv:cT m _ v:=hv;cases hv with
  |dw a hg ha=>
   have key:∀(sz:Nat) (e:List C) (cur:Array Value) (ty:TypeId) (fz:Nat×Nat),m.w.heap[m.σ id]?=some (.cells cur ty fz)->e.length=sz->(i+1)*sz<=cur.size->
     a=⟨m.σ id,i*sz+off,none⟩->(∀(j:Nat) (x:C) (u:Value),e[j]?=some x->cur[i*sz+j]?=some u->cT m x u)->At m (.pointer (some a)) (e.drop off):=by
    intro sz e cur ty fz hh he aw wg hc;subst wg;rw[fY,Nat.one_mul] at aw;by_cases ho:off<=e.length
    .exact At.row hh (by simp;omega) fun j x u p q=>hc (off+j) x u (by simpa using p) (by rw[<- BB];exact q)
    exact⟨_,_,[],rfl,⟨by simp;omega,fun j x u p q=>by simp at q⟩,fun j u q=>by simp at q⟩
   have pure:∀(ty sz:Nat) (es:List (List PV)) (e:List PV) (cur:Array Value) (fz:Nat×Nat),m.w.heap[m.σ id]?=some (.cells cur ty fz)->(∀e∈es,e.length=sz)->es.length*sz<=cur.size->
     df m.w m.own es.flatten (cur.toList.take (es.length*sz))->es[i]?=some e->a=⟨m.σ id,i*sz+off,none⟩->At m (.pointer (some a)) ((e.drop off).map .p):=by
    intro ty sz es e cur fz hh cn hlen dp he wg;have dw:=Lm cn he;have hi:i<es.length:=(aS.1 he).1;have xS:(i+1)*sz<=es.length*sz:=lT _ hi;rw[List.map_drop];refine key sz (e.map .p) cur ty fz hh (by simpa using dw) aa wg fun j x u p q=>?_;simp only[fR,dC] at p;obtain⟨y,hy,rfl⟩:=p;have hj:j<sz:=by have:=(aS.1 hy).1;omega
    refine .p (dp.2 (i*sz+j) y u (by rw[FQ cn he hj];exact hy) ?_);rw[fY] at xS;rw[jt,if_pos aa]
    simpa using q
   split at h
   .rename_i g' ty sz es hb;split at h
    .rename_i iL;simp only[dC,ko] at h;obtain⟨e,he,rfl,rfl⟩:=h;have aV:(m.aj id).2=some (.arr ty sz es):=by rw[hb]
     obtain⟨cur,hh,j8,cn,hl,hm,cY,dp⟩:=au.obj id _ aV;exact pure ty sz es e cur _ hh cn (by rw[cY];exact lT _ hl) dp he (ha sz (by rw[hb];exact iL) (by rw[hb];rfl))
    cases h
   .rename_i g' ty sz es hb;split at h
    .rename_i iL;simp only[dC,ko] at h;obtain⟨e,he,rfl,rfl⟩:=h;have aV:(m.aj id).2=some (.oR ty sz es):=by rw[hb]
     obtain⟨cur,fz,hh,j8,cn,hl,hm,cY,dp,_⟩:=au.obj id _ aV;exact pure ty sz es e cur _ hh cn (by rw[cY];exact lT _ hl) dp he (ha sz (by rw[hb];exact iL) (by rw[hb];rfl))
    cases h
   .rename_i g' ty sz es hb;split at h
    .rename_i iL;simp only[dC,ko] at h;obtain⟨e,he,rfl,rfl⟩:=h;have aV:(m.aj id).2=some (.iQ ty sz es):=by rw[hb]
     obtain⟨cur,hh,j8,cn,hl,hm,cY,dp⟩:=au.obj id _ aV;have dw:=Lm cn he;have hi:i<es.length:=(aS.1 he).1;have xS:(i+1)*sz<=es.length*sz:=lT _ hi;have acg:es.length*sz<=m.κ id*sz:=lT _ hl;refine key sz e cur ty _ hh dw aa (ha sz (by rw[hb];exact iL) (by rw[hb];rfl)) fun j x u p q=>?_;have hj:j<sz:=by have:=(aS.1 p).1;omega
     refine dp.2 (i*sz+j) x u (by rw[FQ cn he hj];exact p) ?_;rw[fY] at xS;rw[jt,if_pos aa]
     simpa using q
    cases h
   cases h
 cases h
end Go.Abs
namespace Go.Abs
variable {P:Program} {w0:World}
theorem aoa{t:TypeId}{n:Nat}(h:qY P t=some (some n)):∃d i,P.underlying t=some d/\P.info? t=some i/\i.size=n/\((∃fs,d=.struct fs)\/ ∃k e,d=.array k e):=by
 unfold qY at h;split at h
 .rename_i fs i h1 h2;simp at h;exact⟨_,i,h1,h2,h,.inl ⟨fs,rfl⟩⟩
 .rename_i k e i h1 h2;simp at h;exact⟨_,i,h1,h2,h,.inr ⟨k,e,rfl⟩⟩
 .split at h<;>simp at h
 cases h
theorem an9{t:TypeId}(h:qY P t=some none):∃d i,P.underlying t=some d/\P.info? t=some i/\i.size=1/\(∀fs,d≠ .struct fs)/\ ∀k e,d≠ .array k e:=by
 unfold qY at h;split at h
 .simp at h
 .simp at h
 .rename_i d i n1 n2 h1 h2;split at h
  .rename_i hs;exact⟨_,_,h1,h2,hs,fun fs e=>n1 fs e,fun k e' e=>n2 k e' e⟩
  cases h
 cases h
theorem af3{t:TypeId}{n:Nat}(h:qY P t=some (some n))(w:World):(isAgg t).run P w=.ok true w/\(sizeOf t).run P w=.ok n w:=by
 obtain⟨d,i,h1,h2,h3,h4⟩:=aoa h;constructor
 .rcases h4 with ⟨fs,rfl⟩|⟨k,e,rfl⟩<;>simp[isAgg,run_underlying h1]
 simp[sizeOf,typeInfo,h2,h3]
theorem af2{t:TypeId}(h:qY P t=some none)(w:World):(isAgg t).run P w=.ok false w/\(sizeOf t).run P w=.ok 1 w:=by
 obtain⟨d,i,h1,h2,h3,h4,h5⟩:=an9 h;constructor
 .cases d<;>first
   |exact(h4 _ rfl).elim
   |exact(h5 _ _ rfl).elim
   |simp[isAgg,run_underlying h1]
 simp[sizeOf,typeInfo,h2,h3]
theorem aeb{m:Mem}{t:TypeId}{k:Option Nat}(hk:qY P t=some k){v:Value}{cs:List C}(h:At m v cs){x:V}(hx:pP k cs=some x):
  ∃a y,v=.pointer (some a)/\(loadVar t a).run P m.w=.ok y m.w/\bJ m x y:=by
 obtain⟨b,o,vs,rfl,cY,hJ⟩:=h;cases k with
 |none=>
  obtain⟨h1,h2⟩:=af2 hk m.w;cases cs with
  |nil=>simp[pP] at hx
  |cons c r=>
   simp[pP] at hx;subst hx;obtain⟨hl,hr⟩:=cY;cases vs with
   |nil=>simp at hl
   |cons u us=>have h0:=hJ 0 u rfl;refine⟨_,u,rfl,?_,bJ.one.2 (hr 0 c u rfl rfl)⟩;rw[se] at h0;simp[loadVar,h1,h0]
 |some n=>
  obtain⟨h1,h2⟩:=af3 hk m.w;simp only[pP] at hx;split at hx
  .rename_i hn;cases hx;obtain⟨hl,hr⟩:=cY;refine⟨_,.agg (vs.take n).toArray,rfl,?_,bJ.agg.2 ⟨_,rfl,by simp;omega,fun j x u p q=>?_⟩⟩
   .have hlen:(vs.take n).length=n:=by simp;omega
    have:=run_loadCells_list (P:=P) m.w ⟨b,o,none⟩ (vs.take n) (fun j u q=>by
     rw[Addr.add_lit];rw[jt] at q;split at q
     .exact hJ j u q
     cases q)
    rw[hlen] at this;simp[loadVar,h1,h2,this]
   rw[jt] at p;simp only[jt] at q;split at p
   .rename_i hj;simp only[hj,if_true] at q;exact hr j x u p q
   cases p
  cases hx
section
variable {m:Mem} {ak:Env} {a:Act} {o:Oper} (au:Ok w0 m) (hr:iW m ak a.tmps)
include au hr
theorem asz{t:TypeId}{x:Operand}{y:aQ}{k:Option Nat}{cs:List C}{rd:List Nat}{v:V}(ho:o.op=.load t x)(hk:qY P t=some k)(hx:cA x=some y)
  (hc:Bf m.aj (ev ak y)=some (cs,rd)) (hv:pP k cs=some v):ft P w0 a.eval o m v []:=by
 obtain⟨ad,y',h1,h2,h3⟩:=aeb hk (afF au hc (ek hx hr)) hv;exact .calm au (by simp[execOp,ho,h1,Instr.loadAt,Instr.sureAddr,h2]) h3
theorem asI{x:Operand}{y:aQ}{v:V}(ho:o.op=.nilCheck x)(hx:cA x=some y)(hv:bn (fun _=>false) ak m.aj (.Jq y)=.done v [] []):ft P w0 a.eval o m v []:=by
 have ef:=ek hx hr;simp only[bn] at hv;split at hv
 .rename_i he;rw[he] at ef;cases hv;have hc:cT m _ (a.eval x):=ef;generalize hb:a.eval x=b at hc ef;cases hc with
  |bk ad hg h=>exact .calm au (by simp[execOp,ho,hb]) ef
 .rename_i he;rw[he] at ef;cases hv;have hc:cT m _ (a.eval x):=ef;generalize hb:a.eval x=b at hc ef;cases hc with
  |dw ad hg h=>exact .calm au (by simp[execOp,ho,hb]) ef
 .rename_i he;rw[he] at ef;cases hv;have hc:cT m _ (a.eval x):=ef;generalize hb:a.eval x=b at hc ef;cases hc with
  |p hp=>cases hp with
   |box b' o' f lG jU qm=>exact .calm au (by simp[execOp,ho,hb]) ef
 .rename_i he;rw[he] at ef;cases hv;have hc:cT m _ (a.eval x):=ef;generalize hb:a.eval x=b at hc ef;cases hc with
  |hfn A B ha xJ uA qo=>exact .calm au (by simp[execOp,ho,hb]) ef
 .rename_i he;rw[he] at ef;cases hv;have hc:cT m _ (a.eval x):=ef;generalize hb:a.eval x=b at hc ef;cases hc with
  |p hp=>cases hp with
   |fn A B ha xJ uA qo=>exact .calm au (by simp[execOp,ho,hb]) ef
 cases hv
end
end Go.Abs
namespace Go.Abs
variable {P:Program} {w0:World}
section
variable{vs:List Value}{off:Nat}
theorem bU.norm{w:World}{own:Nat->Prop}{x:PV}{v:Value}(h:bU w own x v):bU w own x.norm v:=by
 cases h<;>first
  |exact .yA none 0 (fun _=>rfl) (bd _)
  |exact .yA _ 0 (fun _=>rfl) (bd _)
  |(simp only[PV.norm];constructor<;>assumption)
theorem at0{m:Mem}{c:C}{x:PV}{v:Value}(h:toP c=some x)(hr:cT m c v):bU m.w m.own x v:=by
 cases hr<;>simp[toP] at h
 rename_i hp;subst h;exact hp.norm
theorem NH{m:Mem}:∀ {cs:List C} {xs:List PV} {vs:List Value},Bp cs=some xs->di m cs vs->df m.w m.own xs vs:=by
 intro cs
 induction cs with
 |nil=>intro xs vs h hr;simp[Bp] at h;subst h;exact⟨hr.1,fun j x u a=>by simp at a⟩
 |cons c r ih=>
  intro xs vs h hr;simp only[Bp] at h;split at h
  .rename_i x ys h1 h2;cases h;cases vs with
   |nil=>simp[di] at hr
   |cons v us=>
    obtain⟨hl,CL⟩:=ih (vs:=us) h2 ⟨by simpa using hr.1,fun j x u a b=>hr.2 (j+1) x u (by simpa using a) (by simpa using b)⟩;refine⟨by simp[hl],fun j z u a b=>?_⟩;cases j with
    |zero=>simp at a b;subst a b;exact at0 h1 (hr.2 0 c v rfl rfl)
    |succ j=>simp at a b;exact CL j z u a b
  cases h
def Pw {α:Type}(R:α->Value->Prop)(xs:List α)(vs:List Value):Prop:=vs.length=xs.length/\ ∀(j:Nat) (x:α) (u:Value),xs[j]?=some x->vs[j]?=some u->R x u
theorem Pw.take{α:Type}{R:α->Value->Prop}{xs:List α}(h:Pw R xs vs)(n:Nat):Pw R (xs.take n) (vs.take n):=by
 refine⟨by simp[h.1],fun j x u a b=>?_⟩;rw[jt] at a b;split at a
 .rename_i hj;rw[if_pos hj] at b;exact h.2 j x u a b
 cases a
theorem Pw.drop{α:Type}{R:α->Value->Prop}{xs:List α}(h:Pw R xs vs)(n:Nat):Pw R (xs.drop n) (vs.drop n):=
 ⟨by simp[h.1],fun j x u a b=>h.2 (n+j) x u (by simpa using a) (by simpa using b)⟩
theorem Pw.append{α:Type}{R:α->Value->Prop}{xs ys:List α}{us:List Value}(h:Pw R xs vs)(k:Pw R ys us):Pw R (xs++ys) (vs++us):=by
 refine⟨by simp[h.1,k.1],fun j x u a b=>?_⟩;by_cases hj:j<xs.length
 .rw[pS hj] at a;rw[pS (by rw[h.1];exact hj)] at b;exact h.2 j x u a b
 rw[mQ aa] at a;rw[mQ (by rw[h.1];omega),h.1] at b;exact k.2 _ x u a b
theorem Pw.eN{α:Type}{R:α->Value->Prop}{xs ys:List α}{us:List Value}(h:Pw R xs vs)(k:Pw R ys us)(off:Nat):Pw R (eN xs off ys) (eN vs off us):=by unfold Abs.eN;rw[k.1];exact((h.take off).append k).append (h.drop _)
theorem Q3{α:Type}{cs xs:List α}(h:off+xs.length<=cs.length):(eN cs off xs).length=cs.length:=by simp[eN];omega
theorem agD{α:Type}{cs xs:List α}{n:Nat}(h:off+xs.length<=n)(hn:n<=cs.length):(eN cs off xs).take n=eN (cs.take n) off xs:=by unfold eN;rw[List.take_append,List.take_append,Ho,List.drop_take];simp only[dX,eQ];rw[xe (by omega:off<=cs.length),Ho,xe (by omega:off<=n),Nat.min_eq_right (by omega:off<=n)];have e:n-(off+xs.length)=n-(off+xs.length):=rfl;rw[fS (by omega:xs.length<=n-off)]
theorem atn{α:Type}{a cs xs:List α}:eN (a++cs) (a.length+off) xs=a++eN cs off xs:=by unfold eN;rw[List.take_append,List.drop_append];simp only[tc];rw[fS (by omega:a.length<=a.length+off),NS (by omega:a.length<=a.length+off+xs.length)];simp only[fp];have e1:a.length+off-a.length=off:=aa;have e2:a.length+off+xs.length-a.length=off+xs.length:=aa;rw[e1,e2]
theorem atm{α:Type}{a cs xs:List α}(h:off+xs.length<=a.length):eN (a++cs) off xs=eN a off xs++cs:=by unfold eN;rw[Ru aa,List.drop_append_of_le_length aa];simp
theorem alD{α:Type}{sz:Nat}{ps:List α}:∀ {es:List (List α)},(∀e∈es,e.length=sz)->∀ {i:Nat} {e:List α},es[i]?=some e->off+ps.length<=sz->
  (es.set i (eN e off ps)).flatten=eN es.flatten (i*sz+off) ps:=by
 intro es
 induction es with
 |nil=>intro _ i e h;simp at h
 |cons x r ih=>
  intro h i e he hl;have h1:=h x af;cases i with
  |zero=>simp at he;subst he;simp only[List.set_cons_zero,lR,Aa,iD];rw[atm aa]
  |succ i=>
   simp at he;simp only[List.set_cons_succ,lR];rw[ih (fun y hy=>h y (by simp[hy])) he hl];have hh:(i+1)*sz+off=x.length+(i*sz+off):=by rw[h1,fY];omega
   rw[hh,atn]
theorem ND{w:World}{g:Nat}{cur new:Array Value}{ty:TypeId}{fz:Nat×Nat}(h:w.heap[g]?=some (.cells cur ty fz)):(w.setRow g new).heap[g]?=some (.cells new ty fz):=setRow_heap w g cur new ty fz h
theorem di.pw{m:Mem}{cs:List C}:di m cs vs↔Pw (cT m) cs vs:=Iff.rfl
theorem df.pw{w:World}{own:Nat->Prop}{cs:List PV}:df w own cs vs↔Pw (bU w own) cs vs:=Iff.rfl
theorem di.one{m:Mem}{cs:List C}(h:di m cs vs):∀v∈vs,v.oneCell'=true:=by
 intro v hv;obtain⟨j,hj⟩:=jD hv;have aw:j<cs.length:=by rw[<- h.1];exact(aS.1 hj).1
 exact(h.2 j _ v (nG aw) hj).Nk
theorem Sr{m:Mem}{x:V}{v:Value}{cs:List C}(h:rG x=some cs)(hr:bJ m x v):di m cs v.cells.toList:=by
 cases x with
 |undef=>simp[rG] at h
 |tup vs=>simp[rG] at h
 |one c=>
  simp[rG] at h;subst h;rw[(bJ.one.1 hr).cells];refine⟨rfl,fun j y u p q=>?_⟩;cases j with
  |zero=>simp at p q;subst p q;exact hr
  |succ j=>simp at p
 |agg ds=>simp[rG] at h;subst h;obtain⟨arr,e,h⟩:=bJ.agg.1 hr;rw[e];exact h
section
variable {m:Mem} {ak:Env} {a:Act} {o:Oper} (au:Ok w0 m) (hr:iW m ak a.tmps)
include au hr
theorem asQ{t:TypeId}{x v:Operand}{x' v':aQ}{n:Nat}{cs:List C}{r:V}{u:List eG}{rd:List Nat}(ho:o.op=.store t x v)(hn:wV P t=some n)(hx:cA x=some x')(hv:cA v=some v')
  (hc:rG (ev ak v')=some cs) (hw:zW m.aj (ev ak x') n cs=.done r u rd):ft P w0 a.eval o m r u:=by
 have cY:=Sr hc (ek hv hr);have kO:=ek hx hr;unfold wV at hn;simp only[dC] at hn;obtain⟨i,hi,nh⟩:=hn;have cn:(a.eval v).cells.toList.length=cs.length:=cY.1;simp only[Array.length_toList] at cn;unfold zW at hw;split at hw
 .cases hw
 rename_i hlen;have hlen:cs.length=n:=by simpa using hlen
 have Pt:=cY.one;split at hw
 .rename_i id g off he;rw[he] at kO;have kO:cT m _ (a.eval x):=kO;generalize hb:a.eval x=b at kO;cases kO with
  |bk ad hg nc=>
   split at hw
   .rename_i g' yW iu;split at hw
    .rename_i LU;obtain⟨iL,hfit⟩:=LU;cases hw;have aV:(m.aj id).2=some (.var yW):=by rw[iu]
     have nc:=nc (by rw[iu];exact iL) (by rw[aV];rfl);subst nc;obtain⟨cur,ty,hh,dp⟩:=au.obj id _ aV;have bQ:=dp.1;simp at bQ;have Aw:off+0+(a.eval v).cells.toList.length<=cur.size:=by simp;omega
     have cE:=run_storeCells_at P (m.σ id) off ty (a.eval v).cells.toList 0 cur m.w hh Aw Pt;simp only[se] at cE;generalize hW:m.w.setRow (m.σ id) (cur.toList.take off++(a.eval v).cells.toList++cur.toList.drop (off+(a.eval v).cells.toList.length)).toArray=W at cE;have Ef:W.heap.size=m.w.heap.size:=by rw[<- hW];simp
     have Ee:∀c,c≠m.σ id->W.heap[c]?=m.w.heap[c]? :=fun c hc=>by rw[<- hW];exact setRow_other m.w (m.σ id) c _ hc
     have dL:=NC (w':=W) (o:=.var (eN yW off cs)) aV rfl (by simp[kB]) (by rw[<- hW];rfl) (by rw[<- hW];rfl) (by rw[<- hW];rfl) Ef Ee;have CJ:tj (m.jX W id (.var (eN yW off cs))) id (.var (eN yW off cs)):=by
      refine⟨_,ty,by rw[<- hW];exact ND hh,?_⟩;have:=di.pw.2 ((di.pw.1 (dp.ev dL.zero)).eN (di.pw.1 (cY.ev dL.zero)) off)
      simpa [eN] using this
     refine⟨undef,m.jX W id (.var (eN yW off cs)),.inr ⟨?_,rfl⟩,QQ aV rfl au (by simp[kB]) (by rw[<- hW];rfl) (by rw[<- hW];rfl) (by rw[<- hW];rfl) Ef Ee CJ,dL,rfl,?_,rfl⟩
     .simp only[execOp,ho,hb,Instr.storeAt,Instr.sureAddr,storeVar,sizeOf,typeInfo];simp[hi,cn,hlen,nh,cE,Mem.jX]
     simp[Mem.jX,app,iu,iL]
    cases hw
   cases hw
 .rename_i id g i' off he;rw[he] at kO;have kO:cT m _ (a.eval x):=kO;generalize hb:a.eval x=b at kO;cases kO with
  |dw ad hg nc=>
   split at hw
   .rename_i g' ty sz es iu;split at hw
    .rename_i e ps Cu Pv;split at hw
     .rename_i LU;obtain⟨iL,hfit⟩:=LU;cases hw;have aV:(m.aj id).2=some (.arr ty sz es):=by rw[iu]
      have nc:=nc sz (by rw[iu];exact iL) (by rw[iu];rfl);subst nc;obtain⟨cur,hh,j8,tQ,hl,hm,ab7,dp⟩:=au.obj id _ aV;have dw:=Lm tQ Cu;have amS:i'<es.length:=(aS.1 Cu).1;have xS:(i'+1)*sz<=es.length*sz:=lT _ amS;have acg:es.length*sz<=m.κ id*sz:=lT _ hl;rw[fY,Nat.one_mul] at xS;have hpsl:ps.length=cs.length:=by rw[<- cY.1];exact(NH Pv cY).1.symm
      have Aw:i'*sz+off+0+(a.eval v).cells.toList.length<=cur.size:=by simp;omega
      have cE:=run_storeCells_at P (m.σ id) (i'*sz+off) ty (a.eval v).cells.toList 0 cur m.w hh Aw Pt;simp only[se] at cE;generalize hW:m.w.setRow (m.σ id) (cur.toList.take (i'*sz+off)++(a.eval v).cells.toList++cur.toList.drop (i'*sz+off+(a.eval v).cells.toList.length)).toArray=W at cE;have Ef:W.heap.size=m.w.heap.size:=by rw[<- hW];simp
      have Ee:∀c,c≠m.σ id->W.heap[c]?=m.w.heap[c]? :=fun c hc=>by rw[<- hW];exact setRow_other m.w (m.σ id) c _ hc
      have dL:=NC (w':=W) (o:=.arr ty sz (es.set i' (eN e off ps))) aV rfl (by simp[kB]) (by rw[<- hW];rfl) (by rw[<- hW];rfl) (by rw[<- hW];rfl) Ef Ee;have CJ:tj (m.jX W id (.arr ty sz (es.set i' (eN e off ps)))) id (.arr ty sz (es.set i' (eN e off ps))):=by
       refine⟨_,by rw[<- hW];exact ND hh,j8,?_,by rw[th];exact hl,hm,?_,?_⟩
       .intro e' Ct;rcases List.mem_or_eq_of_mem_set Ct with h|h
        .exact tQ e' h
        rw[h,Q3 aa];exact dw
       .simp[Mem.jX];omega
       rw[th,alD tQ Cu aa];have h1:=(df.pw.1 (dp.ev dL.zero)).eN (df.pw.1 ((NH Pv cY).ev dL.zero)) (i'*sz+off);rw[<- agD (by simp;omega) (by simp;omega)] at h1;have h1:=df.pw.2 h1
       simpa [eN] using h1
      refine⟨undef,m.jX W id (.arr ty sz (es.set i' (eN e off ps))),.inr ⟨?_,rfl⟩,QQ aV rfl au (by simp[kB]) (by rw[<- hW];rfl) (by rw[<- hW];rfl) (by rw[<- hW];rfl) Ef Ee CJ,dL,rfl,?_,rfl⟩
      .simp only[execOp,ho,hb,Instr.storeAt,Instr.sureAddr,storeVar,sizeOf,typeInfo];simp[hi,cn,hlen,nh,cE,Mem.jX]
      simp[Mem.jX,app,iu,iL]
     cases hw
    cases hw
   cases hw
 cases hw
end
end
end Go.Abs
namespace Go.Abs
variable {P:Program} {w0:World}
theorem yO{m:Mem}{x:V}{v:Value}{n:Nat}(h:oN x=some n)(hr:bJ m x v):∃k,v=.int k (n:Int):=by
 unfold oN at h;split at h
 .rename_i k z;split at h
  .rename_i hz;cases h;exact⟨k,by rw[CQ hr,Int.toNat_of_nonneg hz]⟩
  cases h
 cases h
theorem QV{t:TypeId}{n:Nat}(h:wV P t=some n)(w:World):(sizeOf t).run P w=.ok n w:=by unfold wV at h;simp only[dC] at h;obtain⟨i,hi,rfl⟩:=h;simp[sizeOf,typeInfo,hi]
section
variable {m:Mem} {ak:Env} {a:Act} {o:Oper} (au:Ok w0 m) (hr:iW m ak a.tmps)
include au hr
theorem asv{s:TypeId}{x:Operand}{f:Nat}{fs:Array Field}{d:Field}{y:aQ}{v:V}(ho:o.op=.fieldAddr s x f)(hs:P.underlying s=some (.struct fs))(hf:fs[f]?=some d)
  (hz:P.cellsOf d.type≠0) (hx:cA x=some y) (hv:bn (fun _=>false) ak m.aj (.FP d.offset y)=.done v [] []):ft P w0 a.eval o m v []:=by
 have ef:=ek hx hr;have cn:∃n,(sizeOf d.type).run P m.w=.ok n m.w/\n≠0:=by
  unfold Program.cellsOf at hz;cases hi:P.info? d.type with
  |none=>simp[hi] at hz
  |some i=>exact⟨i.size,by simp[sizeOf,typeInfo,hi],by simpa [hi] using hz⟩
 obtain⟨n,hn,iZ⟩:=cn;have run:∀ad,a.eval x=.pointer (some ad)->(execOp a.eval o).run P m.w=.ok (.value (.pointer (some (ad.add d.offset)))) m.w:=by intro ad nc;simp[execOp,ho,nc,Instr.fieldAt,run_underlying hs,hf,Instr.sureAddr,fieldPlace,hn,iZ]
 simp only[bn] at hv;split at hv
 .rename_i id g off he;rw[he] at ef;cases hv;have hc:cT m _ (a.eval x):=ef;generalize hb:a.eval x=b at hc;cases hc with
  |bk ad hg h=>exact .calm au (run _ hb) (bJ.one.2 (.bk _ hg fun h1 h2=>by rw[h h1 h2,Addr.add_lit]))
 .rename_i id g i off he;rw[he] at ef;cases hv;have hc:cT m _ (a.eval x):=ef;generalize hb:a.eval x=b at hc;cases hc with
  |dw ad hg h=>exact .calm au (run _ hb) (bJ.one.2 (.dw _ hg fun sz h1 h2=>by rw[h sz h1 h2,Addr.add_lit,BB]))
 .rename_i cs he;rw[he] at ef;cases hv;have hc:cT m _ (a.eval x):=ef;generalize hb:a.eval x=b at hc;cases hc with
  |p hp=>cases hp with
   |box b' o' f' lG jU qm=>refine .calm au (run _ hb) (mg ?_);rw[Addr.add_lit];refine .box b' (o'+d.offset) (fun j=>f' (d.offset+j)) (fun h=>lG fun e=>h (by simp[e])) (fun j z h=>?_) fun j z h=>qm _ z (by simpa using h);rw[BB];exact jU _ z (by simpa using h)
 cases hv
theorem asx{t e:TypeId}{x i:Operand}{sz:Nat}{x' i':aQ}{v:V}(ho:o.op=.indexAddr t x i)(ht:P.underlying t=some (.slice e))(hs:wV P e=some sz)
  (hx:cA x=some x') (hi:cA i=some i') (hv:bn (fun _=>false) ak m.aj (.Gu sz x' i')=.done v [] []):ft P w0 a.eval o m v []:=by
 have ef:=ek hx hr;have IU:=ek hi hr;have run:∀ad len cap k (n:Nat),a.eval x=.slice (some ad) len cap->a.eval i=.int k (n:Int)->n<len->(execOp a.eval o).run P m.w=.ok (.value (.pointer (some (ad.add (n*sz))))) m.w:=by intro ad len cap k n h1 h2 h3;simp[execOp,ho,h1,h2,Instr.indexAt,asIntOf,run_underlying ht,QV hs,h3]
 simp only[bn] at hv;split at hv
 .rename_i n es hn he;obtain⟨k,hk⟩:=yO hn IU;rw[he] at ef;split at hv
  .rename_i el dw;split at hv
   .rename_i hlen;cases hv;have hc:cT m _ (a.eval x):=ef;generalize hb:a.eval x=b at hc;cases hc with
    |p hp=>
     generalize jI:(PV.sl es)=pv at hp;cases hp<;>first
      |cases jI
      |skip
     .simp at dw
     rename_i b' o' cap bN f wC lG u9 cn tH CL;have aw:n<es.length:=(aS.1 dw).1;have VQ:bN=sz:=by rw[<- Lm cn dw];exact hlen
     subst VQ;refine .calm au (run _ _ _ k n hb hk aw) (mg ?_);rw[Addr.add_lit];refine .box b' (o'+n*bN) (fun j=>f (n*bN+j)) (fun h=>lG ?_) (fun j z h=>?_) fun j z h=>?_
     .intro e0;cases el with
      |nil=>exact h rfl
      |cons c r=>have:=FQ cn dw (j:=0) (by rw[<- hlen];simp);rw[e0] at this;simp at this
     .have hj:j<bN:=by rw[<- hlen];exact(aS.1 h).1
      rw[BB];exact tH _ z (by rw[FQ cn dw hj];exact h)
     have hj:j<bN:=by rw[<- hlen];exact(aS.1 h).1
     exact CL _ z (by rw[FQ cn dw hj];exact h)
   cases hv
  cases hv
 .rename_i n id g z off len hn he;obtain⟨k,hk⟩:=yO hn IU;rw[he] at ef;split at hv
  .rename_i aw;cases hv;have hc:cT m _ (a.eval x):=ef;generalize hb:a.eval x=b at hc;cases hc with
   |hsl ad cap hg hl hm h=>refine .calm au (run _ _ _ k n hb hk aw.1) (bJ.one.2 (.dw _ hg fun s h1 h2=>?_));obtain⟨e1,e2,_⟩:=h s h1 h2;rw[e2 (.inr aa),Addr.add_lit,e1,aw.2];simp[fY]
  cases hv
 cases hv
theorem ash{t e:TypeId}{x i:Operand}{sz ln:Nat}{x' i':aQ}{v:V}(ho:o.op=.indexAddr t x i)(ht:P.underlying t=some (.array ln e))(hs:wV P e=some sz)
  (hx:cA x=some x') (hi:cA i=some i') (hv:bn (fun _=>false) ak m.aj (.Hw ln sz x' i')=.done v [] []):ft P w0 a.eval o m v []:=by
 have ef:=ek hx hr;have IU:=ek hi hr;have run:∀ad k (n:Nat),a.eval x=.pointer (some ad)->a.eval i=.int k (n:Int)->n<ln->(execOp a.eval o).run P m.w=.ok (.value (.pointer (some (ad.add (n*sz))))) m.w:=by intro ad k n h1 h2 h3;simp[execOp,ho,h1,h2,Instr.indexAt,asIntOf,run_underlying ht,QV hs,h3,Instr.sureAddr]
 simp only[bn] at hv;split at hv
 .rename_i n id g off hn he;obtain⟨k,hk⟩:=yO hn IU;rw[he] at ef;split at hv
  .rename_i aw;cases hv;have hc:cT m _ (a.eval x):=ef;generalize hb:a.eval x=b at hc;cases hc with
   |bk ad hg h=>exact .calm au (run _ k n hb hk aw) (bJ.one.2 (.bk _ hg fun h1 h2=>by rw[h h1 h2,Addr.add_lit]))
  cases hv
 .rename_i n id g j off hn he;obtain⟨k,hk⟩:=yO hn IU;rw[he] at ef;split at hv
  .rename_i aw;cases hv;have hc:cT m _ (a.eval x):=ef;generalize hb:a.eval x=b at hc;cases hc with
   |dw ad hg h=>exact .calm au (run _ k n hb hk aw) (bJ.one.2 (.dw _ hg fun s h1 h2=>by rw[h s h1 h2,Addr.add_lit,BB]))
  cases hv
 .rename_i n cs hn he;obtain⟨k,hk⟩:=yO hn IU;rw[he] at ef;split at hv
  .rename_i aw;cases hv;have hc:cT m _ (a.eval x):=ef;generalize hb:a.eval x=b at hc;cases hc with
   |p hp=>cases hp with
    |box b' o' f' lG jU qm=>refine .calm au (run _ k n hb hk aw) (mg ?_);rw[Addr.add_lit];refine .box b' (o'+n*sz) (fun j=>f' (n*sz+j)) (fun h=>lG fun e=>h (by simp[e])) (fun j z h=>?_) fun j z h=>qm _ z (by simpa using h);rw[BB];exact jU _ z (by simpa using h)
  cases hv
 cases hv
theorem afe{t:TypeId}{k:Option Nat}(hk:qY P t=some k){cs:List C}{arr:Array Value}(hc:di m cs arr.toList){off:Nat}{x:V}(hx:pP k (cs.drop off)=some x):
  ∃y,(part t arr off).run P m.w=.ok y m.w/\bJ m x y:=by
 have _u0:=au;have _u1:=hr;have hl:=hc.1;simp at hl;cases k with
 |none=>
  obtain⟨h1,h2⟩:=af2 hk m.w;cases hd:cs.drop off with
  |nil=>simp[hd,pP] at hx
  |cons c r=>
   simp[hd,pP] at hx;subst hx;have cY:cs[off]?=some c:=by
    have:=congrArg (·[0]?) hd
    simpa using this
   have aw:off<arr.size:=by rw[hl];exact(aS.1 cY).1
   refine⟨arr[off],by simp[part,h1,aw],bJ.one.2 (hc.2 off c _ cY (by simp[aw]))⟩
 |some n=>
  obtain⟨h1,h2⟩:=af3 hk m.w;simp only[pP] at hx;split at hx
  .rename_i hn;cases hx;simp at hn;refine⟨.agg (arr.extract off (off+n)),by simp[part,h1,h2],bJ.agg.2 ⟨_,rfl,by simp;omega,fun j x u p q=>?_⟩⟩;rw[jt] at p;split at p
   .rename_i hj;simp at p;refine hc.2 (off+j) x u p ?_;have aw:off+j<cs.length:=(aS.1 p).1;have he:(arr.extract off (off+n)).toList=(arr.toList.drop off).take n:=af;rw[he,jt,if_pos hj,r9] at q;exact q
   cases p
  cases hx
theorem asw{t:TypeId}{x:Operand}{f:Nat}{fs:Array Field}{d:Field}{y:aQ}{k:Option Nat}{cs:List C}{v:V}(ho:o.op=.field t x f)(hs:P.underlying t=some (.struct fs))(hf:fs[f]?=some d)
  (hk:qY P d.type=some k) (hx:cA x=some y) (hy:ev ak y=.agg cs) (hv:pP k (cs.drop d.offset)=some v):ft P w0 a.eval o m v []:=by
 have ef:=ek hx hr;rw[hy] at ef;obtain⟨arr,e,hc⟩:=bJ.agg.1 ef;obtain⟨z,h1,h2⟩:=afe (au:=au) (hr:=hr) hk hc hv;exact .calm au (by simp[execOp,ho,e,Instr.field,run_underlying hs,hf,asAgg,h1]) h2
theorem asi{t e:TypeId}{x i:Operand}{ln sz:Nat}{x' i':aQ}{k:Option Nat}{n:Nat}{cs:List C}{v:V}(ho:o.op=.index t x i)(ht:P.underlying t=some (.array ln e))(hs:wV P e=some sz)
  (hk:qY P e=some k) (hx:cA x=some x') (hi:cA i=some i') (hn:oN (ev ak i')=some n) (aw:n<ln) (hy:ev ak x'=.agg cs) (hv:pP k (cs.drop (n*sz))=some v):ft P w0 a.eval o m v []:=by
 have ef:=ek hx hr;obtain⟨kk,u7⟩:=yO hn (ek hi hr);rw[hy] at ef;obtain⟨arr,e',hc⟩:=bJ.agg.1 ef;obtain⟨z,h1,h2⟩:=afe (au:=au) (hr:=hr) hk hc hv;exact .calm au (by simp[execOp,ho,e',u7,Instr.index,asIntOf,run_underlying ht,QV hs,aw,h1]) h2
theorem asL{t:TypeId}{x i:Operand}{x' i':aQ}{n:Nat}{s:ByteArray}{b:UInt8}(ho:o.op=.index t x i)(ht:P.underlying t=some .string)
  (hx:cA x=some x') (hi:cA i=some i') (hn:oN (ev ak i')=some n) (hy:ev ak x'=.one (.p (.str s))) (hb:s[n]?=some b):ft P w0 a.eval o m (.one (.p (.int .u8 b.toNat))) []:=by
 have ef:=ek hx hr;obtain⟨kk,u7⟩:=yO hn (ek hi hr);rw[hy] at ef;exact .calm au (by simp[execOp,ho,MY ef,u7,Instr.index,asIntOf,run_underlying ht,hb]) (mg (.int _ _))
end
end Go.Abs
namespace Go.Abs
variable {P:Program} {w0:World}
theorem ai9{op:BinOp}{t:TypeId}{k k':IntKind}{x y:Int}{v:PV}(w:World)(hk:k=k'\/op=.shl\/op=.shr)(h:tn op k x y=some v):
  ∃u,(binOp op t (.int k x) (.int k' y)).run P w=.ok u w/\ ∀own,bU w own v u:=by
 by_cases hs:op=.shl\/op=.shr
 .rcases hs with rfl|rfl
  .simp only[tn] at h;split at h
   .cases h
   rename_i hy;cases h;exact⟨_,by simp[binOp,Op.shift,hy],fun own=>.int _ _⟩
  simp only[tn] at h;split at h
  .cases h
  rename_i hy;cases h;exact⟨_,by simp[binOp,Op.shift,hy],fun own=>.int _ _⟩
 have u7:k=k':=by
  rcases hk with h|h
  .exact h
  exact(hs h).elim
 subst u7;cases op<;>simp only[tn] at h<;>first
  |cases h
  |skip
 all_goals first
  |exact(hs (.inl rfl)).elim
  |exact(hs (.inr rfl)).elim
  |(exact⟨_,by simp[binOp,Op.intArith,Op.intCmp,Op.intBits],fun own=>.int _ _⟩)
  |(exact⟨_,by simp[binOp,Op.intArith,Op.intCmp],fun own=>.bool _⟩)
  |(split at h
    .cases h
    rename_i hy;cases h;exact⟨_,by simp[binOp,Op.intDiv,hy],fun own=>.int _ _⟩)
theorem ajb{op:BinOp}{t:TypeId}{x y:ByteArray}{v:PV}(w:World)(h:HD op x y=some v):
  ∃u,(binOp op t (.string x) (.string y)).run P w=.ok u w/\ ∀own,bU w own v u:=by
 cases op<;>simp only[HD] at h<;>first
  |cases h
  |skip
 all_goals first
  |exact⟨_,by simp[binOp,Op.stringOp],fun own=>.bool _⟩
  |(split at h
    .rename_i hl;cases h;refine⟨.string (x++y),?_,fun own=>.str _⟩;have:¬((x.size:Int)+(y.size:Int)>9223372036854775807):=aa;simp[binOp,Op.stringOp,this]
    cases h)
section
variable {m:Mem} {ak:Env} {a:Act} {o:Oper} (au:Ok w0 m) (hr:iW m ak a.tmps)
include au hr
theorem asm{op:BinOp}{t ty:TypeId}{x y:Operand}{x' y':aQ}{v:V}(ho:o.op=.binOp op t x y ty)(hx:cA x=some x')(hy:cA y=some y')
  (hv:qI op (ev ak x') (ev ak y')=some v):ft P w0 a.eval o m v []:=by
 have h1:=ek hx hr;have h2:=ek hy hr;unfold qI at hv;split at hv
 .rename_i k p k' q e1 e2;rw[e1] at h1;rw[e2] at h2;split at hv
  .rename_i hk;simp only[dC] at hv;obtain⟨u,hu,rfl⟩:=hv;obtain⟨z,hz,I6⟩:=ai9 (P:=P) (t:=t) m.w hk hu;refine .calm au ?_ (mg (I6 _));have hg:(eqGuard op t x y (.int k p) (.int k' q)).run P m.w=.ok () m.w:=by cases op<;>simp[eqGuard]
   simp[execOp,ho,CQ h1,CQ h2,hg,hz]
  cases hv
 .rename_i p q e1 e2;rw[e1] at h1;rw[e2] at h2;simp only[dC] at hv;obtain⟨u,hu,rfl⟩:=hv;obtain⟨z,hz,I6⟩:=ajb (P:=P) (t:=t) m.w hu;refine .calm au ?_ (mg (I6 _));have hg:(eqGuard op t x y (.string p) (.string q)).run P m.w=.ok () m.w:=by cases op<;>simp[eqGuard]
  simp[execOp,ho,MY h1,MY h2,hg,hz]
 cases hv
theorem asJ{t:TypeId}{x:Operand}{x':aQ}{b:Bool}(ho:o.op=.unOp .not t x)(hx:cA x=some x')(hb:ev ak x'=.one (.p (.bool b))):ft P w0 a.eval o m (.one (.p (.bool (!b)))) []:=by have h1:=ek hx hr;rw[hb] at h1;exact .calm au (by simp[execOp,ho,EG h1,Op.unary]) (mg (.bool _))
theorem asH{t:TypeId}{x:Operand}{x':aQ}{k:IntKind}{n:Int}(ho:o.op=.unOp .neg t x)(hx:cA x=some x')(hb:ev ak x'=.one (.p (.int k n))):ft P w0 a.eval o m (.one (.p (.int k (k.wrap (0-n))))) []:=by have h1:=ek hx hr;rw[hb] at h1;exact .calm au (by simp[execOp,ho,CQ h1,Op.unary,Op.intArith]) (mg (.int _ _))
theorem ast{s d:TypeId}{x:Operand}{x':aQ}{ks k k0:IntKind}{n:Int}(ho:o.op=.convert s d x)(hs:P.underlying s=some (.int ks))(hd:P.underlying d=some (.int k))(hx:cA x=some x')
  (hb:ev ak x'=.one (.p (.int k0 n))):ft P w0 a.eval o m (.one (.p (.int k (k.wrap n)))) []:=by
 have h1:=ek hx hr;rw[hb] at h1;exact .calm au (by simp[execOp,ho,CQ h1,convert,run_underlying hs,run_underlying hd,Conv.intToInt]) (mg (.int _ _))
theorem ae5:∀ {xs:List Operand} {ys:List aQ} {cs:List C},pZ xs=some ys->vq ak ys=some cs->di m cs (xs.map a.eval):=by
 have _u0:=au;intro xs
 induction xs with
 |nil=>intro ys cs h1 h2;simp[pZ] at h1;subst h1;simp[vq] at h2;subst h2;exact⟨rfl,fun j x u p=>by simp at p⟩
 |cons x r ih=>
  intro ys cs h1 h2;simp only[pZ] at h1;split at h1
  .rename_i y ys' e1 e2;cases h1;simp only[vq] at h2;split at h2
   .rename_i c q e3 e4;cases h2;obtain⟨hl,CL⟩:=ih e2 e4;refine⟨by simpa using hl,fun j z u p q=>?_⟩;cases j with
    |zero=>simp at p q;subst p q;have:=ek e1 hr;rw[e3] at this;exact this
    |succ j=>simp at p q;exact CL j z u p (by simpa using q)
   cases h2
  cases h1
theorem asD{f:FuncId}{x y:Array Operand}{x' y':List aQ}{cs ds:List C}(ho:o.op=.makeFunc (.func f) x y)(hx:pZ x.toList=some x')(hy:pZ y.toList=some y')
  (hc:vq ak x'=some cs) (hd:vq ak y'=some ds):ft P w0 a.eval o m (.one (.hfn f cs ds)) []:=by
 have h1:=ae5 (au:=au) (hr:=hr) hx hc;have h2:=ae5 (au:=au) (hr:=hr) hy hd;refine .calm (x:=.func (.func f) (x.map a.eval) (y.map a.eval)) au (by simp[execOp,ho,Instr.makeFunc]) (bJ.one.2 (.hfn _ _ ?_ ?_ ?_ ?_))
 .have:=h1.1;simpa using this
 .have:=h2.1;simpa using this
 .intro j z u p q;exact h1.2 j z u p (by rw[<- Array.toList_map,Array.getElem?_toList];exact q)
 intro j z u p q;exact h2.2 j z u p (by rw[<- Array.toList_map,Array.getElem?_toList];exact q)
theorem asu{x:Operand}{i:Nat}{x':aQ}{vs:List V}{v:V}(ho:o.op=.extract x i)(hx:cA x=some x')(he:ev ak x'=.tup vs)(hv:vs[i]?=some v):ft P w0 a.eval o m v []:=by
 have h1:=ek hx hr;rw[he] at h1;obtain⟨arr,e,hl,hc⟩:=h1;have aw:i<arr.size:=by rw[hl];exact(aS.1 hv).1
 exact .calm (x:=arr[i]) au (by simp[execOp,ho,e,Instr.extract,aw]) (.of1 (hc i v _ hv (by simp[aw])))
theorem ad4{x:V}{v:Value}{n:Nat}(h:yh x=some n)(hv:bJ m x v):∃ad cap,v=.slice ad n cap/\n<=cap/\cap<=maxLen:=by
 have _u0:=au;have _u1:=hr;unfold yh at h;split at h
 .cases h;exact⟨none,0,PJ hv,aX _,bd _⟩
 .cases h;obtain⟨hp⟩:cT m _ v:=hv;rename_i es;generalize jI:(PV.sl es)=pv at hp;cases hp<;>cases jI
  .exact⟨_,_,rfl,bd _,by assumption⟩
  exact⟨_,_,rfl,by assumption,by assumption⟩
 .cases h;have hc:cT m _ v:=hv;cases hc with
  |hsl ad cap hg hl hm h=>exact⟨_,_,rfl,hl,hm⟩
 cases h
theorem asy{c:Call}{x:Operand}{x':aQ}{t e:TypeId}{n:Nat}(ho:o.op=.call c)(hc:c.callee=.builtin .len)(has:c.args= #[x])(hJ:c.argTypes[0]?=some t)(ht:P.underlying t=some (.slice e))
  (hx:cA x=some x') (hn:yh (ev ak x')=some n):ft P w0 a.eval o m (.one (.p (.int .i64 n))) []:=by
 obtain⟨ad,cap,h1,_,_⟩:=ad4 (au:=au) (hr:=hr) hn (ek hx hr);refine .calm au ?_ (mg (.int _ _));simp[execOp,ho,resolve,hc,has,invoke,builtin,Builtin.len_,hJ,h1,run_underlying ht,goInt]
theorem asM{c:Call}{x:Operand}{x':aQ}{t:TypeId}{s:ByteArray}(ho:o.op=.call c)(hc:c.callee=.builtin .len)(has:c.args= #[x])(hJ:c.argTypes[0]?=some t)(ht:P.underlying t=some .string)
  (hx:cA x=some x') (hn:ev ak x'=.one (.p (.str s))):ft P w0 a.eval o m (.one (.p (.int .i64 s.size))) []:=by
 have h1:=ek hx hr;rw[hn] at h1;refine .calm au ?_ (mg (.int _ _));simp[execOp,ho,resolve,hc,has,invoke,builtin,Builtin.len_,hJ,MY h1,run_underlying ht,goInt]
theorem asB{c:Call}{x y:Operand}{x' y':aQ}{k k':IntKind}{p q:Int}(ho:o.op=.call c)(hc:c.callee=.builtin .max)(has:c.args= #[x,y])
  (hx:cA x=some x') (hy:cA y=some y') (h1:ev ak x'=.one (.p (.int k p))) (h2:ev ak y'=.one (.p (.int k' q))):ft P w0 a.eval o m (.one (.p (.int k (if q>p then q else p)))) []:=by
 have g1:=ek hx hr;have g2:=ek hy hr;rw[h1] at g1;rw[h2] at g2;refine .calm au ?_ (mg (.int _ _));simp[execOp,ho,resolve,hc,has,invoke,builtin,Builtin.max_,Builtin.max2,CQ g1,CQ g2]
theorem asC{c:Call}{x y:Operand}{x' y':aQ}{k k':IntKind}{p q:Int}(ho:o.op=.call c)(hc:c.callee=.builtin .min)(has:c.args= #[x,y])
  (hx:cA x=some x') (hy:cA y=some y') (h1:ev ak x'=.one (.p (.int k p))) (h2:ev ak y'=.one (.p (.int k' q))):ft P w0 a.eval o m (.one (.p (.int k (if q<p then q else p)))) []:=by
 have g1:=ek hx hr;have g2:=ek hy hr;rw[h1] at g1;rw[h2] at g2;refine .calm au ?_ (mg (.int _ _));simp[execOp,ho,resolve,hc,has,invoke,builtin,Builtin.min_,Builtin.min2,CQ g1,CQ g2]
end
end Go.Abs
namespace Go.Abs
variable {P:Program} {w0:World}
section
variable{sz:Nat}
theorem aik:∀(u:List eG) (aj:aq) (id:Nat),(app u aj id=aj id/\ ∀e∈u,e.1≠id)\/ ∃e∈u,e.1=id/\app u aj id=e.2:=by
 intro u
 induction u with
 |nil=>intro aj id;exact .inl ⟨rfl,fun e h=>by simp at h⟩
 |cons x r ih=>
  intro aj id;obtain⟨i,o⟩:=x;simp only[app];rcases ih (dB aj i o) id with ⟨h1,h2⟩|⟨e,he,h1,h2⟩
  .by_cases hi:id=i
   .exact .inr ⟨(i,o),af,hi.symm,by rw[h1];simp[aM,hi]⟩
   refine .inl ⟨by rw[h1];simp[aM,hi],fun e he=>?_⟩;rcases cM.1 he with rfl|he
   .exact fun h=>hi h.symm
   exact h2 e he
  exact .inr ⟨e,by simp[he],h1,h2⟩
theorem HO{α β γ:Type}{f:α->Option (β×List Nat)}{R:α->γ->Prop}{T:β->γ->Prop}{eU:List Nat->Prop}(Vn:∀a b,eU (a++b)->eU a/\eU b)
  (hf:∀a b r v,f a=some (b,r)->R a v->eU r->T b v):∀ {xs:List α} {ys:List β} {r:List Nat} {vs:List γ},collect f xs=some (ys,r)->eU r->
  (vs.length=xs.length/\ ∀(j:Nat) (x:α) (u:γ),xs[j]?=some x->vs[j]?=some u->R x u)->(vs.length=ys.length/\ ∀(j:Nat) (x:β) (u:γ),ys[j]?=some x->vs[j]?=some u->T x u):=by
 intro xs
 induction xs with
 |nil=>intro ys r vs h _ hr;simp[collect] at h;obtain⟨rfl,rfl⟩:=h;exact⟨hr.1,fun j x u a=>by simp at a⟩
 |cons x t ih=>
  intro ys r vs h hg hr;simp only[collect] at h;split at h
  .rename_i b p bs q e1 e2;cases h;obtain⟨g1,g2⟩:=Vn _ _ hg;cases vs with
   |nil=>simp at hr
   |cons v us=>
    obtain⟨hl,hh⟩:=ih (vs:=us) e2 g2 ⟨by simpa using hr.1,fun j x u a b=>hr.2 (j+1) x u (by simpa using a) (by simpa using b)⟩;refine⟨by simp[hl],fun j z u a b=>?_⟩;cases j with
    |zero=>simp at a b;subst a b;exact hf _ _ _ _ e1 (hr.2 0 x v rfl rfl) g1
    |succ j=>simp at a b;exact hh j z u a b
  cases h
def pW(m:Mem)(own:Nat->Prop)(r:List Nat):Prop:=(∀b,own b->m.own b)/\ ∀id∈r,¬own (m.σ id)
theorem pW.app{m:Mem}{own:Nat->Prop}{a b:List Nat}(h:pW m own (a++b)):pW m own a/\pW m own b:=
 ⟨⟨h.1,fun id hi=>h.2 id (by simp[hi])⟩,⟨h.1,fun id hi=>h.2 id (by simp[hi])⟩⟩
theorem bU.less{w:World}{own zP:Nat->Prop}(h:∀b,zP b->own b){x:PV}{v:Value}(hr:bU w own x v):bU w zP x v:=hr.mono fun c _ hn=>⟨rfl,fun ho=>hn (h c ho)⟩
theorem df.less{w:World}{own zP:Nat->Prop}(h:∀b,zP b->own b){x:List PV}{v:List Value}(hr:df w own x v):df w zP x v:=⟨hr.1,fun j x u a b=>(hr.2 j x u a b).less h⟩
theorem aey{α:Type}{xs:List α}{R:α->Value->Prop}{vs:List Value}(h:Pw R xs vs):∃f:Nat->Value,∀(j:Nat) (x:α),xs[j]?=some x->vs[j]?=some (f j)/\R x (f j):=by
 refine⟨fun j=>vs.getD j undef,fun j x hx=>?_⟩;have aw:j<vs.length:=by rw[h.1];exact(aS.1 hx).1
 have:vs[j]?=some (vs.getD j undef):=by simp[List.getD,nG aw]
 exact⟨this,h.2 j x _ hx this⟩
theorem Wk{w:World}{own:Nat->Prop}{b o:Nat}{cur:Array Value}{ty:TypeId}{fz:Nat×Nat}{ps:List PV}(hh:w.heap[b]?=some (.cells cur ty fz))(hp:Pw (bU w own) ps (cur.toList.drop o |>.take ps.length))
  (ho:ps≠[]-> ¬own b):bU w own (.box ps) (.pointer (some ⟨b,o,none⟩)):=by
 obtain⟨f,hf⟩:=aey hp;refine .box b o f ho (fun j x hx=>?_) fun j x hx=>(hf j x hx).2;have h1:=(hf j x hx).1;rw[jt] at h1;split at h1
 .rw[DG hh];simpa using h1
 cases h1
theorem aeA{w:World}{own:Nat->Prop}{b o cap sz:Nat}{cur:Array Value}{ty:TypeId}{fz:Nat×Nat}{es:List (List PV)}(hh:w.heap[b]?=some (.cells cur ty fz))(cn:∀e∈es,e.length=sz)
  (hl:es.length<=cap) (hm:cap<=maxLen) (hp:Pw (bU w own) es.flatten ((cur.toList.drop o).take (es.length*sz))) (ho:¬own b):bU w own (.sl es) (.slice (some ⟨b,o,none⟩) es.length cap):=by
 obtain⟨f,hf⟩:=aey hp;refine .sl b o cap sz f (fun _=>ho) hl hm cn (fun j x hx=>?_) fun j x hx=>(hf j x hx).2;have h1:=(hf j x hx).1;rw[jt] at h1;split at h1
 .rw[DG hh];simpa using h1
 cases h1
theorem OT{α:Type}:∀ {es:List (List α)},(∀e∈es,e.length=sz)->∀(n:Nat),(es.drop n).flatten=es.flatten.drop (n*sz):=by
 intro es
 induction es with
 |nil=>intro _ n;simp
 |cons e r ih=>
  intro h n;cases n with
  |zero=>simp
  |succ n=>simp only[List.drop_succ_cons,lR];have h1:=h e af;rw[ih (fun x hx=>h x (by simp[hx])),List.drop_append,NS (by rw[h1,fY];omega:e.length<=(n+1)*sz),fp];congr 1;rw[h1,fY];omega
theorem Ij{α:Type}:∀ {es:List (List α)},(∀e∈es,e.length=sz)->∀(n:Nat),(es.take n).flatten=es.flatten.take (n*sz):=by
 intro es
 induction es with
 |nil=>intro _ n;simp
 |cons e r ih=>
  intro h n;cases n with
  |zero=>simp
  |succ n=>simp only[List.take_succ_cons,lR];have h1:=h e af;rw[ih (fun x hx=>h x (by simp[hx])),List.take_append,fS (by rw[h1,fY];omega:e.length<=(n+1)*sz)];congr 1;congr 1;rw[h1,fY];omega
theorem EX{α:Type}{R:α->Value->Prop}{off len:Nat}{es:List (List α)}{cur:List Value}(cn:∀e∈es,e.length=sz)(h:Pw R es.flatten (cur.take (es.length*sz)))(hfit:off+len<=es.length):
  Pw R ((es.drop off).take len).flatten ((cur.drop (off*sz)).take (((es.drop off).take len).length*sz)):=by
 have MP:∀e∈es.drop off,e.length=sz:=fun e he=>cn e (vI he);have hlen:((es.drop off).take len).length=len:=by simp;omega
 rw[hlen,Ij MP,OT cn];have h1:=(h.drop (off*sz)).take (len*sz);have h2:((cur.take (es.length*sz)).drop (off*sz)).take (len*sz)=(cur.drop (off*sz)).take (len*sz):=by
  rw[List.drop_take,Ho];congr 1;have:off*sz+len*sz<=es.length*sz:=by rw[<- fY];exact lT _ hfit
  omega
 rw[h2] at h1;exact h1
theorem WI{α:Type}{R:α->Value->Prop}:∀ {ps:List (List α)} {cur:List Value},(∀e∈ps,e.length=sz)->ps.length*sz<=cur.length->
  (∀(j:Nat) (e:List α),ps[j]?=some e->Pw R e ((cur.drop (j*sz)).take sz))->Pw R ps.flatten (cur.take (ps.length*sz)):=by
 intro ps
 induction ps with
 |nil=>intro cur _ _ _;exact⟨af,fun j x u a=>by simp at a⟩
 |cons e r ih=>
  intro cur h hl hp;simp only[cq,fY,Nat.one_mul] at hl;have h0:=hp 0 e rfl;rw[Aa,List.drop_zero] at h0;have h1:=ih (cur:=cur.drop sz) (fun x hx=>h x (by simp[hx])) (by simp;omega) fun j x hx=>by have:=hp (j+1) x (by simpa using hx);rw[fY,Nat.one_mul] at this;rw[List.drop_drop,Fk sz];exact this
  have h2:=h0.append h1;have h3:cur.take sz++(cur.drop sz).take (r.length*sz)=cur.take ((e::r).length*sz):=by rw[cq,fY,Nat.one_mul,Fk,List.take_add]
  rw[h3] at h2;exact h2
theorem UR{α:Type}{R:α->Value->Prop}{i:Nat}{es:List (List α)}{e:List α}{cur:List Value}(cn:∀e∈es,e.length=sz)(h:Pw R es.flatten (cur.take (es.length*sz)))(he:es[i]?=some e):
  Pw R e ((cur.drop (i*sz)).take sz):=by
 have hi:i<es.length:=(aS.1 he).1;have h1:=EX (off:=i) (len:=1) cn h aa;have h0:((es.drop i).take 1)=[e]:=by rw[zY hi];have:=(aS.1 he).2;simp[this]
 rw[h0] at h1
 simpa using h1
theorem SB{α β:Type}{f:α->Option (β×List Nat)}:∀ {xs:List α} {ys:List β} {r:List Nat},collect f xs=some (ys,r)->ys.length=xs.length:=by
 intro xs
 induction xs with
 |nil=>intro ys r h;simp[collect] at h;rw[h.1];rfl
 |cons x t ih=>
  intro ys r h;simp only[collect] at h;split at h
  .rename_i b p bs q e1 e2;cases h;simp[ih e2]
  cases h
theorem SA{α β:Type}{f:α->Option (β×List Nat)}:∀ {xs:List α} {ys:List β} {r:List Nat},collect f xs=some (ys,r)->∀ {j:Nat} {y:β},ys[j]?=some y->∃x q,xs[j]?=some x/\f x=some (y,q)/\ ∀i∈q,i∈r:=by
 intro xs
 induction xs with
 |nil=>intro ys r h j y hy;simp[collect] at h;rw[h.1] at hy;simp at hy
 |cons x t ih=>
  intro ys r h j y hy;simp only[collect] at h;split at h
  .rename_i b p bs q e1 e2;cases h;cases j with
   |zero=>simp at hy;subst hy;exact⟨x,p,rfl,e1,fun i hi=>by simp[hi]⟩
   |succ j=>simp at hy;obtain⟨x',q',h1,h2,h3⟩:=ih e2 hy;exact⟨x',q',by simpa using h1,h2,fun i hi=>by simp[h3 i hi]⟩
  cases h
theorem JQ{m:Mem}(au:Ok w0 m){own:Nat->Prop}:∀(n:Nat) {c:C} {x:PV} {r:List Nat} {v:Value},snap m.aj n c=some (x,r)->cT m c v->pW m own r->bU m.w own x v:=by
 intro n
 induction n with
 |zero=>intro c x r v h;simp[snap] at h
 |succ n ih=>
  intro c x r v h hr hs;have Pa:∀ {cs:List C} {ps:List PV} {q:List Nat} {vs:List Value},collect (snap m.aj n) cs=some (ps,q)->pW m own q->Pw (cT m) cs vs->Pw (bU m.w own) ps vs:=fun h1 h2 h3=>HO (R:=cT m) (T:=bU m.w own) (eU:=pW m own) (fun a b h=>h.app) (fun a b r v e1 e2 e3=>ih e1 e2 e3) h1 h2 h3
  have Pk:∀ {ps:List PV} {vs:List Value},df m.w m.own ps vs->Pw (bU m.w own) ps vs:=fun h=>df.pw.1 (h.less hs.1);unfold snap at h;cases c with
  |p y=>simp at h;obtain⟨rfl,rfl⟩:=h;obtain⟨hp⟩:=hr;exact hp.norm.less hs.1
  |bk id g off=>
   cases hr with
   |bk a hg ha=>
    simp only at h;split at h
    .rename_i g' cs hb;split at h
     .rename_i iL;split at h
      .rename_i ps q hq;cases h;have aV:(m.aj id).2=some (.var cs):=by rw[hb]
       have ha:=ha (by rw[hb];exact iL) (by rw[aV];rfl);subst ha;obtain⟨cur,ty,hh,hc⟩:=au.obj id _ aV;have hp:=Pa hq ⟨hs.1,fun i hi=>hs.2 i (by simp[hi])⟩ (di.pw.1 hc);refine Wk hh ?_ fun _=>hs.2 id af;have h1:=hp.drop off;have h2:(cur.toList.drop off).take (ps.drop off).length=cur.toList.drop off:=fS (by have:=h1.1;omega);rw[h2];exact h1
      cases h
     cases h
    .rename_i g' ps hb;split at h
     .rename_i iL;cases h;have aV:(m.aj id).2=some (.fvar ps):=by rw[hb]
      have ha:=ha (by rw[hb];exact iL) (by rw[aV];rfl);subst ha;obtain⟨cur,ty,fz,hh,hc,_⟩:=au.obj id _ aV;refine Wk hh ?_ fun _=>hs.2 id af;have h1:=(Pk hc).drop off;have h2:(cur.toList.drop off).take (ps.drop off).length=cur.toList.drop off:=fS (by have:=h1.1;omega);rw[h2];exact h1
     cases h
    cases h
  |dw id g i off=>
   cases hr with
   |dw a hg ha=>
    have key:∀(ty sz:Nat) (es:List (List PV)) (e:List PV) (cur:Array Value) (fz:Nat×Nat),m.w.heap[m.σ id]?=some (.cells cur ty fz)->(∀e∈es,e.length=sz)->es.length*sz<=cur.size->
      df m.w m.own es.flatten (cur.toList.take (es.length*sz))->es[i]?=some e->a=⟨m.σ id,i*sz+off,none⟩-> ¬own (m.σ id)->bU m.w own (.box (e.drop off)) (.pointer (some a)):=by
     intro ty sz es e cur fz hh cn hlen dp he wg dz;subst wg;have dw:=Lm cn he;have hi:i<es.length:=(aS.1 he).1;have xS:(i+1)*sz<=es.length*sz:=lT _ hi;have h1:=(EX (off:=i) (len:=1) cn (Pk dp) aa).drop off;have h0:((es.drop i).take 1)=[e]:=by rw[zY hi];have:=(aS.1 he).2;simp[this]
     rw[h0] at h1;simp only[lR,Hi,jR,cq,dN,iD,Nat.one_mul] at h1;refine Wk hh ?_ fun _=>dz;have h2:(cur.toList.drop (i*sz+off)).take (e.drop off).length=(((cur.toList.drop (i*sz)).take sz).drop off):=by rw[List.drop_take,List.drop_drop,iC,dw]
     rw[h2];exact h1
    simp only at h;split at h
    .rename_i g' ty sz es hb;split at h
     .rename_i iL;simp only[dC,ko] at h;obtain⟨e,he,rfl,rfl⟩:=h;have aV:(m.aj id).2=some (.arr ty sz es):=by rw[hb]
      obtain⟨cur,hh,j8,cn,hl,hm,cY,dp⟩:=au.obj id _ aV;exact key ty sz es e cur _ hh cn (by rw[cY];exact lT _ hl) dp he (ha sz (by rw[hb];exact iL) (by rw[hb];rfl)) (hs.2 id af)
     cases h
    .rename_i g' ty sz es hb;split at h
     .rename_i iL;simp only[dC,ko] at h;obtain⟨e,he,rfl,rfl⟩:=h;have aV:(m.aj id).2=some (.oR ty sz es):=by rw[hb]
      obtain⟨cur,fz,hh,j8,cn,hl,hm,cY,dp,_⟩:=au.obj id _ aV;exact key ty sz es e cur _ hh cn (by rw[cY];exact lT _ hl) dp he (ha sz (by rw[hb];exact iL) (by rw[hb];rfl)) (hs.2 id af)
     cases h
    cases h
  |hsl id g z off len=>
   cases hr with
   |hsl a cap hg hl hm ha=>
    have key:∀(ty sz:Nat) (es:List (List PV)) (cur:Array Value) (fz:Nat×Nat),m.w.heap[m.σ id]?=some (.cells cur ty fz)->(∀e∈es,e.length=sz)->Pw (bU m.w own) es.flatten (cur.toList.take (es.length*sz))->
      off+len<=es.length->(off=0\/0<len->a=⟨m.σ id,off*sz,none⟩)-> ¬own (m.σ id)->bU m.w own (.sl ((es.drop off).take len)) (.slice (some a) len cap):=by
     intro ty sz es cur fz hh cn dp hfit wg dz;by_cases hlen:len=0
     .subst hlen;simp only[List.take_zero];exact .yA _ _ (fun h=>by cases h) hm
     have:=wg (.inr aa);subst this;have hle:((es.drop off).take len).length=len:=by simp;omega
     have h1:=aeA (cap:=cap) (own:=own) (o:=off*sz) (es:=(es.drop off).take len) hh (sz:=sz) (fun e he=>cn e (vI (vJ he))) aa hm (EX cn dp hfit) dz;rw[hle] at h1;exact h1
    simp only at h;split at h
    .rename_i g' ty sz es hb;split at h
     .rename_i hc;cases h;have aV:(m.aj id).2=some (.arr ty sz es):=by rw[hb]
      obtain⟨cur,hh,j8,cn,u9,wC,cY,dp⟩:=au.obj id _ aV;exact key ty sz es cur _ hh cn (Pk dp) hc.2 (by obtain⟨_,h2,_⟩:=ha sz (by rw[hb];exact hc.1) (by rw[hb];rfl);rename_i e1 _;exact e1▸h2) (hs.2 id af)
     cases h
    .rename_i g' ty sz es hb;split at h
     .rename_i hc;cases h;have aV:(m.aj id).2=some (.oR ty sz es):=by rw[hb]
      obtain⟨cur,fz,hh,j8,cn,u9,wC,cY,dp,_⟩:=au.obj id _ aV;exact key ty sz es cur _ hh cn (Pk dp) hc.2 (by obtain⟨_,h2,_⟩:=ha sz (by rw[hb];exact hc.1) (by rw[hb];rfl);exact h2) (hs.2 id af)
     cases h
    .rename_i g' ty sz es hb;split at h
     .rename_i hc;split at h
      .rename_i ps q hq;cases h;have aV:(m.aj id).2=some (.iQ ty sz es):=by rw[hb]
       obtain⟨cur,hh,j8,cn,u9,wC,cY,dp⟩:=au.obj id _ aV;have ML:=EX cn (di.pw.1 dp) hc.2;have MP:∀e∈(es.drop off).take len,e.length=sz:=fun e he=>cn e (vI (vJ he));have hle:((es.drop off).take len).length=len:=by simp;omega
       have bK:ps.length=len:=by rw[SB hq,hle]
       have kZ:len*sz<=(cur.toList.drop (off*sz)).length:=by
        simp;have h1:off*sz+len*sz<=es.length*sz:=by rw[<- fY];exact lT _ hc.2
        have h2:es.length*sz<=m.κ id*sz:=lT _ u9;omega
       have sL:∀(j:Nat) (e:List PV),ps[j]?=some e->Pw (bU m.w own) e (((cur.toList.drop (off*sz)).drop (j*sz)).take sz):=by intro j e he;obtain⟨x,q',h1,h2,h3⟩:=SA hq he;exact Pa h2 ⟨hs.1,fun i hi=>hs.2 i (by simp[h3 i hi])⟩ (UR MP ML h1)
       have Eu:∀e∈ps,e.length=sz:=by
        intro e he;obtain⟨j,hj⟩:=jD he;have:=(sL j e hj).1;have mF:j<len:=by rw[<- bK];exact(aS.1 hj).1
        have h1:(j+1)*sz<=len*sz:=lT _ mF;rw[fY] at h1;simp at this kZ;omega
       by_cases hlen:len=0
       .have:ps=[]:=List.eq_nil_of_length_eq_zero aa;subst this;subst hlen;exact .yA _ _ (fun h=>by cases h) hm
       obtain⟨_,h2,_⟩:=ha sz (by rw[hb];exact hc.1) (by rw[hb];rfl);rename_i e1 _;have wg:=h2 (.inr aa);subst wg;have zu:=aeA (cap:=cap) (own:=own) (o:=off*sz) hh Eu aa hm (WI Eu (by rw[bK];exact kZ) sL) (hs.2 id af);rw[bK] at zu;exact zu
      cases h
     cases h
    cases h
  |jV id g=>
   cases hr with
   |jV r' hg ha=>
    have key:∀(ag:Bool) (es:List (PV×List PV)) (ents:Array MapEntry) (clock:Nat),m.w.heap[m.σ id]?=some (.map ents clock)->ents.size=es.length->
      (∀(i:Nat) (q:PV) (v:List PV) (e:MapEntry),es[i]?=some (q,v)->ents[i]?=some e->bU m.w m.own q e.key/\ ∃g:Array Value,(ag=true->e.val=.agg g)/\(ag=false-> #[e.val]=g)/\df m.w m.own v g.toList)->
      ¬own (m.σ id)->bU m.w own (.mp ag es) (.map (some (m.σ id))):=by
     intro ag es ents clock hh hl hc dz;have hch:∃G:Nat->Array Value,∀(i:Nat) (q:PV) (v:List PV) (e:MapEntry),es[i]?=some (q,v)->ents[i]?=some e->(ag=true->e.val=.agg (G i))/\(ag=false-> #[e.val]=G i)/\df m.w m.own v (G i).toList:=by
      refine⟨fun i=>match ents[i]? with|some e=>(match e.val with| .agg g=>if ag then g else #[e.val]|v=> #[v])|none=> #[],fun i q v e h1 h2=>?_⟩;obtain⟨_,g,g1,g2,g3⟩:=hc i q v e h1 h2;simp only[h2];cases ag with
      |true=>have:=g1 rfl;simp[this];exact g3
      |false=>
       have:=g2 rfl;subst this;refine⟨(fun h=>by cases h),(fun _=>?_),?_⟩
       .cases e.val<;>rfl
       cases hv:e.val<;>simp only[hv] at g3<;>exact g3
     obtain⟨G,hG⟩:=hch;refine .mp (m.σ id) ents clock G dz hh hl (fun i q v e h1 h2=>((hc i q v e h1 h2).1).less hs.1) (fun i q v e h1 h2=>?_) fun i q v j x u h1 h2 h3=>?_
     .obtain⟨a1,a2,a3⟩:=hG i q v e h1 h2;exact⟨by have:=a3.1;simpa using this,a1,a2⟩
     have aw:i<ents.size:=by rw[hl];exact(aS.1 h1).1
     obtain⟨a1,a2,a3⟩:=hG i q v _ h1 (Array.getElem?_eq_getElem aw);exact(a3.2 j x u h2 (by rw[Array.getElem?_toList];exact h3)).less hs.1
    simp only at h;split at h
    .rename_i g' ag es hb;split at h
     .rename_i iL;cases h;have aV:(m.aj id).2=some (.map ag es):=by rw[hb]
      have ha:=ha (by rw[hb];exact iL) (by rw[aV];rfl);subst ha;obtain⟨ents,clock,hh,hl,hc⟩:=au.obj id _ aV;exact key ag es ents clock hh hl hc (hs.2 id af)
     cases h
    .rename_i g' ag es hb;split at h
     .rename_i iL;cases h;have aV:(m.aj id).2=some (.fmap ag es):=by rw[hb]
      have ha:=ha (by rw[hb];exact iL) (by rw[aV];rfl);subst ha;obtain⟨ents,clock,hh,hl,hc,_⟩:=au.obj id _ aV;exact key ag es ents clock hh hl hc (hs.2 id af)
     cases h
    cases h
  |hfn f a b=>
   cases hr with
   |hfn A B hA hB uA qo=>
    simp only at h;split at h
    .rename_i xa ra xb rb h1 h2;cases h;obtain⟨s1,s2⟩:=hs.app;have p1:=Pa (vs:=A.toList) h1 s1 ⟨by simpa using hA,fun j x u p q=>uA j x u p (by rw[<- Array.getElem?_toList];exact q)⟩;have p2:=Pa (vs:=B.toList) h2 s2 ⟨by simpa using hB,fun j x u p q=>qo j x u p (by rw[<- Array.getElem?_toList];exact q)⟩;exact .fn A B (by have:=p1.1;simpa using this) (by have:=p2.1;simpa using this) (fun j x u p q=>p1.2 j x u p (by rw[Array.getElem?_toList];exact q)) fun j x u p q=>p2.2 j x u p (by rw[Array.getElem?_toList];exact q)
    cases h
end
end Go.Abs
namespace Go.Abs
variable {P:Program} {w0:World}
theorem alQ{aj:aq}{all:List Nat}:∀ {l:List Nat} {u:List eG},rL aj all l=some u->
  (∀e∈u,e.1∈l/\ ∃x,An aj all e.1=some x/\e∈x)/\ ∀id∈l,∃x,An aj all id=some x/\ ∀e∈x,e∈u:=by
 intro l
 induction l with
 |nil=>intro u h;simp[rL] at h;subst h;exact⟨fun e h=>by simp at h,fun id h=>by simp at h⟩
 |cons i r ih=>
  intro u h;simp only[rL] at h;split at h
  .rename_i a b h1 h2;cases h;obtain⟨g1,g2⟩:=ih h2;have ace:∀e∈a,e.1=i:=by
    intro e he;unfold An at h1;split at h1<;>first
     |(cases h1;simp at he;subst he;rfl)
     |(split at h1
       .split at h1
        .cases h1;simp at he;subst he;rfl
        cases h1
       cases h1)
     |(cases h1;simp at he)
     |cases h1
   refine⟨fun e he=>?_,fun id hid=>?_⟩
   .rcases eF.1 he with he|he
    .exact⟨by simp[ace e he],a,by rw[ace e he];exact h1,he⟩
    obtain⟨k1,k2⟩:=g1 e he;exact⟨by simp[k1],k2⟩
   rcases cM.1 hid with rfl|hid
   .exact⟨a,h1,fun e he=>by simp[he]⟩
   obtain⟨x,k1,k2⟩:=g2 id hid;exact⟨x,k1,fun e he=>by simp[k2 e he]⟩
  cases h
def Hq(aj:aq)(all:List Nat):Ob->Ob->Prop
 | .var cs,.fvar ps=>∃r,collect (snap aj eL) cs=some (ps,r)/\ ∀i∈r,i∈all
 | .arr ty sz es,.oR jQ bN kX=>jQ=ty/\bN=sz/\kX=es
 | .iQ ty sz es,.oR jQ bN ps=>jQ=ty/\bN=sz/\ ∃r,collect (collect (snap aj eL)) es=some (ps,r)/\ ∀i∈r,i∈all
 | .map ag es,.fmap rD kX=>rD=ag/\kX=es
 |_,_=>False
theorem Hq.facts{aj:aq}{all:List Nat}{o o':Ob}(h:Hq aj all o o')(g:Nat):o.fh=true/\o'.fh=false/\kB (g,some o')=kB (g,some o):=by
 cases o<;>cases o'<;>simp only[Hq] at h<;>first
  |exact h.elim
  |exact⟨rfl,rfl,rfl⟩
  |exact⟨rfl,rfl,by simp[kB,h.2.1]⟩
theorem abw{aj:aq}{all:List Nat}{id:Nat}{x:List eG}(h:An aj all id=some x):
  (∃o,(aj id).2=some o/\o.fh=false/\x=[])\/ ∃o o',(aj id).2=some o/\Hq aj all o o'/\x=[(id,((aj id).1,some o'))]:=by
 unfold An at h;split at h
 .rename_i g cs hb;split at h
  .rename_i ps r hc;split at h
   .rename_i dk;cases h;refine .inr ⟨.var cs,.fvar ps,by rw[hb],⟨r,hc,fun i hi=>?_⟩,by rw[hb]⟩;have:=jf.1 dk i hi
    simpa using this
   cases h
  cases h
 .rename_i g ty sz es hb;cases h;exact .inr ⟨.arr ty sz es,.oR ty sz es,by rw[hb],⟨rfl,rfl,rfl⟩,by rw[hb]⟩
 .rename_i g ty sz es hb;split at h
  .rename_i ps r hc;split at h
   .rename_i dk;cases h;refine .inr ⟨.iQ ty sz es,.oR ty sz ps,by rw[hb],⟨rfl,rfl,r,hc,fun i hi=>?_⟩,by rw[hb]⟩;have:=jf.1 dk i hi
    simpa using this
   cases h
  cases h
 .rename_i g ag es hb;cases h;exact .inr ⟨.map ag es,.fmap ag es,by rw[hb],⟨rfl,rfl⟩,by rw[hb]⟩
 .cases h
 rename_i y n1 n2 n3 n4 n5;cases h;cases hb:aj id with
 |mk g o=>
  cases o with
  |none=>exact(n5 g hb).elim
  |some o=>
   refine .inl ⟨o,rfl,?_,rfl⟩;cases o with
   |var cs=>exact(n1 g cs hb).elim
   |arr ty sz es=>exact(n2 g ty sz es hb).elim
   |iQ ty sz es=>exact(n3 g ty sz es hb).elim
   |map ag es=>exact(n4 g ag es hb).elim
   |_=>rfl
def Mem.with(m:Mem)(u:List eG):Mem:={m with aj:=app u m.aj}
theorem v7{m:Mem}{ids:List Nat}{u:List eG}(h:qd m.aj ids=some u)(id:Nat):
  ((m.with u).aj id=m.aj id/\(id∈ids->∃o,(m.aj id).2=some o/\o.fh=false))\/
  (id∈ids/\ ∃o o',(m.aj id).2=some o/\Hq m.aj ids o o'/\(m.with u).aj id=((m.aj id).1,some o')):=by
 obtain⟨h1,h2⟩:=alQ h;rcases aik u m.aj id with ⟨e1,e2⟩|⟨e,he,e1,e2⟩
 .refine .inl ⟨e1,fun hid=>?_⟩;obtain⟨x,hx,hxu⟩:=h2 id hid;rcases abw hx with ⟨o,a,b,_⟩|⟨o,o',a,b,c⟩
  .exact⟨o,a,b⟩
  exact(e2 (id,(m.aj id).fst,some o') (hxu _ (by rw[c];simp)) rfl).elim
 obtain⟨k1,x,k2,k3⟩:=h1 e he;rw[e1] at k1 k2;rcases abw k2 with ⟨o,a,b,c⟩|⟨o,o',a,b,c⟩
 .rw[c] at k3;simp at k3
 rw[c] at k3;simp at k3;refine .inr ⟨k1,o,o',a,b,?_⟩;simp only[Mem.with];rw[e2,k3]
theorem U0{m:Mem}{ids:List Nat}{u:List eG}(h:qd m.aj ids=some u){c:Nat}(hc:(m.with u).own c):m.own c:=by
 rcases hc with hc|⟨id,o,h1,h2,h3⟩
 .exact .inl hc
 rcases v7 h id with ⟨e,_⟩|⟨_,p,q,a,b,e⟩
 .rw[e] at h1;exact .inr ⟨id,o,h1,h2,h3⟩
 rw[e] at h1;cases h1;rw[(b.facts 0).2.1] at h2;cases h2
theorem U1{m:Mem}(au:Ok w0 m){ids:List Nat}{u:List eG}(h:qd m.aj ids=some u):pW m (m.with u).own ids:=by
 refine⟨fun b hb=>U0 h hb,fun id hid hc=>?_⟩;rcases v7 h id with ⟨e,hn⟩|⟨_,o,o',a,b,e⟩
 .obtain⟨o,ho,hm⟩:=hn hid;exact(au.obj id o ho).calm hm (U0 h hc)
 rcases hc with hc|⟨eO,q,h1,h2,h3⟩
 .exact(au.fZ id o a (b.facts 0).1).2 hc
 by_cases hi:eO=id
 .subst hi;rw[e] at h1;cases h1;rw[(b.facts 0).2.1] at h2;cases h2
 rcases v7 h eO with ⟨e',_⟩|⟨_,p',q',a',b',e'⟩
 .rw[e'] at h1;exact hi (au.inj eO id q o h1 h2 a (b.facts 0).1 h3)
 rw[e'] at h1;cases h1;rw[(b'.facts 0).2.1] at h2;cases h2
theorem UY{m:Mem}{ids:List Nat}{u:List eG}(h:qd m.aj ids=some u):Ev m (m.with u) where
 os:=rfl
 tape:=rfl
 output:=rfl
 size:=aX _
 keep _ _ _:=rfl
 fh c _ hc:=by
  obtain⟨id,o,h1,h2,h3⟩:=hc;rcases v7 h id with ⟨e,_⟩|⟨_,p,q,a,b,e⟩
  .rw[e] at h1;exact⟨id,o,h1,h2,h3⟩
  rw[e] at h1;cases h1;rw[(b.facts 0).2.1] at h2;cases h2
 less c _ hn hc:=hn (U0 h hc)
 gen id:=by rcases v7 h id with ⟨e,_⟩|⟨_,p,q,a,b,e⟩<;>rw[e]<;>exact aX _
 ref id he hs:=by
  rcases v7 h id with ⟨e,_⟩|⟨_,p,q,a,b,e⟩
  .rw[e] at hs ⊢;exact⟨hs,rfl,rfl,rfl⟩
  rw[e] at hs ⊢;refine⟨by rw[a];rfl,rfl,rfl,?_⟩;have h1:m.aj id=((m.aj id).1,some p):=by rw[<- a]
  rw[(b.facts (m.aj id).1).2.2,<- h1]
theorem abx{m:Mem}(au:Ok w0 m){ids:List Nat}{u:List eG}(h:qd m.aj ids=some u):Ok w0 (m.with u) where
 os:=au.os
 tape:=au.tape
 output:=au.output
 size:=au.size
 base:=au.base
 obj id o ho:=by
  have dL:=UY h;have nT:=U1 au h;rcases v7 h id with ⟨e,_⟩|⟨hid,p,q,a,b,e⟩
  .rw[e] at ho;exact(au.obj id o ho).ev dL.zero rfl rfl rfl
  rw[e] at ho;cases ho;have dz:=nT.2 id hid;have Py:∀r:List Nat,(∀i∈r,i∈ids)->pW m (m.with u).own r:=fun r hr=>⟨nT.1,fun i hi=>nT.2 i (hr i hi)⟩;have Pu:=au.obj id p a;cases p<;>cases o<;>simp only[Hq] at b<;>first
   |exact b.elim
   |skip
  .obtain⟨r,hc,hr⟩:=b;obtain⟨cur,ty,hh,cY⟩:=Pu;exact⟨cur,ty,(0,0),hh,df.pw.2 (HO (R:=cT m) (T:=bU m.w (m.with u).own) (eU:=pW m (m.with u).own) (fun a b h=>h.app) (fun a b r v e1 e2 e3=>JQ au _ e1 e2 e3) hc (Py r hr) (di.pw.1 cY)),dz⟩
  .obtain⟨rfl,rfl,rfl⟩:=b;obtain⟨cur,hh,j8,cn,hl,hm,cY,dp⟩:=Pu;exact⟨cur,(0,0),hh,j8,cn,hl,hm,cY,dp.less nT.1,dz⟩
  .obtain⟨rfl,rfl,r,hc,hr⟩:=b;obtain⟨cur,hh,j8,cn,hl,hm,cY,dp⟩:=Pu;rename_i es _ sz ps;have bK:ps.length=es.length:=SB hc;have kZ:ps.length*sz<=cur.toList.length:=by
    have h2:es.length*sz<=m.κ id*sz:=lT _ hl;simp;rw[bK];omega
   have sL:∀(j:Nat) (e:List PV),ps[j]?=some e->Pw (bU m.w (m.with u).own) e ((cur.toList.drop (j*sz)).take sz):=by intro j e he;obtain⟨x,q',h1,h2,h3⟩:=SA hc he;exact HO (R:=cT m) (T:=bU m.w (m.with u).own) (eU:=pW m (m.with u).own) (fun a b h=>h.app) (fun a b r v e1 e2 e3=>JQ au _ e1 e2 e3) h2 (Py q' fun i hi=>hr i (h3 i hi)) (UR cn (di.pw.1 dp) h1)
   have Eu:∀e∈ps,e.length=sz:=by intro e he;obtain⟨j,hj⟩:=jD he;have:=(sL j e hj).1;have mF:j<ps.length:=(aS.1 hj).1;have h1:(j+1)*sz<=ps.length*sz:=lT _ mF;rw[fY] at h1;simp at this kZ;omega
   exact⟨cur,(0,0),hh,j8,Eu,by rw[bK];exact hl,hm,cY,df.pw.2 (WI Eu kZ sL),dz⟩
  obtain⟨rfl,rfl⟩:=b;obtain⟨ents,clock,hh,hl,hc⟩:=Pu;exact⟨ents,clock,hh,hl,fun i q v e h1 h2=>let ⟨p,g,g1,g2,g3⟩:=hc i q v e h1 h2;⟨p.less nT.1,g,g1,g2,g3.less nT.1⟩,dz⟩
 fZ id o ho hm:=by
  rcases v7 h id with ⟨e,_⟩|⟨_,p,q,a,b,e⟩
  .rw[e] at ho;exact au.fZ id o ho hm
  rw[e] at ho;cases ho;rw[(b.facts 0).2.1] at hm;cases hm
 frlt:=au.frlt
 inj id eO o o' h1 m1 h2 m2 he:=by
  rcases v7 h id with ⟨e,_⟩|⟨_,p,q,a,b,e⟩
  .rcases v7 h eO with ⟨e',_⟩|⟨_,p',q',a',b',e'⟩
   .rw[e] at h1;rw[e'] at h2;exact au.inj id eO o o' h1 m1 h2 m2 he
   rw[e'] at h2;cases h2;rw[(b'.facts 0).2.1] at m2;cases m2
  rw[e] at h1;cases h1;rw[(b.facts 0).2.1] at m1;cases m1
end Go.Abs
namespace Go.Abs
variable {P:Program} {w0:World}
section
variable{w':World}
def Mem.j6(m:Mem)(w':World)(s c k:Nat)(o:Ob):Mem:=(m.later w' (· =c)).install s c k o
section
variable {m:Mem} {w':World} {s c k:Nat} {o:Ob} (hg:fg m.w w') (fH:m.w.heap.size<=c) (qP:c<w'.heap.size)
theorem Im(au:Ok w0 m)(fH:m.w.heap.size<=c):(m.j6 w' s c k o).fr=m.fr:=by
 funext x;simp only[Mem.j6,Mem.install,Mem.later];apply propext;constructor
 .rintro ⟨h|h,h2⟩
  .exact h
  exact(h2 h).elim
 intro h;exact⟨.inl h,fun e=>by have:=au.frlt x h;omega⟩
include hg fH
theorem Il:Ev m (m.j6 w' s c k o):=PE (Je hg fun x hx=>by subst hx;exact fH) (.inr rfl) (.inl fH)
include qP
theorem Io(au:Ok w0 m)(ho:tj (m.j6 w' s c k o) s o):Ok w0 (m.j6 w' s c k o):=PG (M4 au hg fun x hx=>by subst hx;exact⟨fH,qP⟩) (.inr rfl) (ll au.size fH) ho
end
theorem DV{m:Mem}{s c k:Nat}{o:Ob}:(m.j6 w' s c k o).σ s=c:=by simp[Mem.j6,Mem.install,aM]
theorem qc{m:Mem}{s c k:Nat}{o:Ob}:(m.j6 w' s c k o).κ s=k:=by simp[Mem.j6,Mem.install,aM]
theorem UT{m:Mem}{s c k:Nat}{o:Ob}:(m.j6 w' s c k o).aj=app [(s,((m.aj s).1+1,some o))] m.aj:=rfl
theorem UU{m:Mem}{s c k:Nat}{o:Ob}:(m.j6 w' s c k o).w=w':=rfl
theorem Li{m:Mem}{s c cap ty sz:Nat}{es:List (List PV)}{n:Nat}(hn:n<=cap)(hm:cap<=maxLen):
  bJ (m.j6 w' s c cap (.arr ty sz es)) (.one (.hsl s ((m.aj s).1+1) sz 0 n)) (.slice (some ⟨c,0,none⟩) n cap):=by
 refine bJ.one.2 (.hsl _ _ ?_ hn hm fun z h1 h2=>?_)
 .simp[Mem.j6,Mem.install,Mem.later,aM]
 have:kB ((m.j6 w' s c cap (.arr ty sz es)).aj s)=some sz:=by simp[Mem.j6,Mem.install,aM,kB]
 rw[this] at h2;cases h2;refine⟨rfl,fun _=>?_,by rw[iD];exact qc.symm⟩;rw[DV,Aa]
theorem alK{m:Mem}{s c cap ty sz:Nat}{es:List (List C)}{n:Nat}(hn:n<=cap)(hm:cap<=maxLen):
  bJ (m.j6 w' s c cap (.iQ ty sz es)) (.one (.hsl s ((m.aj s).1+1) sz 0 n)) (.slice (some ⟨c,0,none⟩) n cap):=by
 refine bJ.one.2 (.hsl _ _ ?_ hn hm fun z h1 h2=>?_)
 .simp[Mem.j6,Mem.install,Mem.later,aM]
 have:kB ((m.j6 w' s c cap (.iQ ty sz es)).aj s)=some sz:=by simp[Mem.j6,Mem.install,aM,kB]
 rw[this] at h2;cases h2;refine⟨rfl,fun _=>?_,by rw[iD];exact qc.symm⟩;rw[DV,Aa]
theorem Oy{t e:TypeId}{sz bytes:Nat}{z:List PV}(h:Ah P t=some (e,sz,bytes,z)):
  ∃i v,P.underlying t=some (.slice e)/\P.info? e=some i/\i.size=sz/\i.bytes=bytes/\(0<sz/\0<bytes)/\i.zero=some v/\v.cells.size=sz/\z.length=sz/\ ∀w own,df w own z v.cells.toList:=by
 unfold Ah at h;split at h
 .rename_i e' ht;split at h
  .rename_i i z' hi hz;split at h
   .rename_i fA;cases h;obtain⟨v,i',h1,h2,h3,h4,h5⟩:=NR hz;rw[hi] at h1;cases h1;exact⟨i,v,ht,hi,rfl,rfl,fA,h2,h3,h4,h5⟩
   cases h
  cases h
 cases h
theorem ao9{R:PV->Value->Prop}{z:List PV}{v:Array Value}{sz n:Nat}(hz:Pw R z v.toList)(cn:v.size=sz)(fA:0<sz):
  Pw R (List.replicate n z).flatten ((madeCells v (n*sz)).toList.take (n*sz)):=by
 have l8:z.length=sz:=by have:=hz.1;simp at this;omega
 have dk:∀e∈List.replicate n z,e.length=sz:=fun e he=>by rw[Rq he];exact l8
 have hlen:(madeCells v (n*sz)).toList.length=n*sz:=by simp[size_madeCells]
 rw[fS aa];refine⟨by rw[hlen,FR dk];simp,fun j x u p q=>?_⟩;have hj:j<n*sz:=by have:=(aS.1 q).1;omega
 have hdiv:j/sz<n:=by rw[Nat.div_lt_iff_lt_mul fA];exact hj
 have Po:j%sz<sz:=dQ _ fA;have he:(List.replicate n z)[j/sz]?=some z:=by simp[hdiv]
 have h1:=FQ dk he Po;rw[show j/sz*sz+j%sz=j by rw[Nat.mul_comm];exact Nat.div_add_mod j sz] at h1;rw[h1] at p;have h2:(madeCells v (n*sz)).toList[j]?=some v[j%sz]! :=by unfold madeCells;simp[hj,cn]
 rw[h2] at q;cases q;refine hz.2 (j%sz) x _ p ?_;have:j%sz<v.size:=aa;simp[this]
section
variable {m:Mem} {ak:Env} {a:Act} {o:Oper} (au:Ok w0 m) (hr:iW m ak a.tmps)
include au hr
theorem asF{t e:TypeId}{l c:Operand}{l' c':aQ}{s sz bytes n:Nat}{z:List PV}(ho:o.op=.makeSlice t l c)(he:Ah P t=some (e,sz,bytes,z))(hl:cA l=some l')(hc:cA c=some c')
  (hn:oN (ev ak l')=some n) (hm:oN (ev ak c')=some n) (qt:n*bytes<=room):
  ft P w0 a.eval o m (.one (.hsl s ((m.aj s).1+1) sz 0 n)) [(s,((m.aj s).1+1,some (.arr e sz (List.replicate n z))))]:=by
 obtain⟨i,v,ht,hi,hs,hb,⟨fA,F5⟩,hz,qX,l8,dp⟩:=Oy he;obtain⟨k1,h1⟩:=yO hn (ek hl hr);obtain⟨k2,h2⟩:=yO hm (ek hc hr);unfold room at qt;have Vx:n<=maxLen:=by have:n<=n*bytes:=NY _ F5;simp only[maxLen];omega
 have am4:(n:Int)<=9223372036854775807:=by simp[maxLen] at Vx;omega
 have Cr:(i.bytes:Int)*(n:Int)<=281474976710656:=by
  have:((i.bytes*n:Nat):Int)<=281474976710656:=by rw[hb,Nat.mul_comm];omega
  rwa[Int.natCast_mul] at this
 have jJ:=run_make (P:=P) m.w t e i v ht hi hz k1 k2 n n aa (Int.le_refl _) Cr am4;simp only[uK,hs] at jJ
 let m':=m.j6 (m.w.alloc (.cells (madeCells v.cells (n*sz)) e)) s m.w.heap.size n (.arr e sz (List.replicate n z))
 have dL:Ev m m':=Il (fg.alloc _ _) (aX _);have CJ:tj m' s (.arr e sz (List.replicate n z)):=by
  refine⟨_,by rw[DV];exact heap_alloc_new m.w _,fA,fun x hx=>?_,?_,?_,?_,?_⟩
  .rw[Rq hx];exact l8
  .rw[qc];simp
  .rw[qc];exact Vx
  .rw[qc,size_madeCells]
  rw[List.length_replicate];exact df.pw.2 (ao9 (df.pw.1 (dp _ _)) qX fA)
 refine⟨_,m',.inl ?_,Io (fg.alloc _ _) (aX _) af au CJ,dL,Im au (aX _),rfl,Li (aX _) Vx⟩;simp[execOp,ho,h1,h2,jJ];rfl
theorem Yy{lo hi:Option Operand}{CS zy:Option aQ}{n cap l h:Nat}{b:Bool}(dZ:xm lo=some CS)(Em:xm hi=some zy)(hl:rF ak 0 CS=some l)(hh:rF ak n zy=some h)
  (Eo:l<=h) (kZ:h<=cap):(Instr.sliceBounds b n cap (lo.map a.eval) (hi.map a.eval) none).run P m.w=.ok (l,h,cap) m.w:=by
 have _u0:=au;have nO:(match hi.map a.eval with|some v=>∃k,v=Value.int k (h:Int)|none=>h=n):=by
  cases hi with
  |none=>simp[xm] at Em;subst Em;simp[rF] at hh;simpa using hh.symm
  |some x=>simp only[xm,dC] at Em;obtain⟨y,hy,rfl⟩:=Em;exact yO hh (ek hy hr)
 have ql:(match lo.map a.eval with|some v=>∃k,v=Value.int k (l:Int)|none=>l=0):=by
  cases lo with
  |none=>simp[xm] at dZ;subst dZ;simp[rF] at hl;simpa using hl.symm
  |some x=>simp only[xm,dC] at dZ;obtain⟨y,hy,rfl⟩:=dZ;exact yO hl (ek hy hr)
 generalize lo.map a.eval=LO at ql;generalize hi.map a.eval=HI at nO;have fH:(h:Int)<=(cap:Int):=aa;have qP:(l:Int)<=(h:Int):=aa;cases LO with
 |none=>
  simp only at ql;subst ql;cases HI with
  |none=>simp only at nO;subst nO;simp[Instr.sliceBounds]
  |some v=>obtain⟨k,rfl⟩:=nO;simp[Instr.sliceBounds,Instr.sliceBound,asIntOf,kZ]
 |some u=>
  obtain⟨k,rfl⟩:=ql;cases HI with
  |none=>simp only at nO;subst nO;simp[Instr.sliceBounds,Instr.sliceBound,asIntOf,Eo]
  |some v=>obtain⟨k',rfl⟩:=nO;simp[Instr.sliceBounds,Instr.sliceBound,asIntOf,kZ,Eo]
theorem asP{t:TypeId}{x:Operand}{lo hi:Option Operand}{x':aQ}{CS zy:Option aQ}{s:ByteArray}{l h:Nat}(ho:o.op=.slice t x lo hi none)(ht:P.underlying t=some .string)
  (hx:cA x=some x') (dZ:xm lo=some CS) (Em:xm hi=some zy) (hs:ev ak x'=.one (.p (.str s))) (hl:rF ak 0 CS=some l) (hh:rF ak s.size zy=some h) (Eo:l<=h) (kZ:h<=s.size):
  ft P w0 a.eval o m (.one (.p (.str (s.extract l h)))) []:=by
 have h1:=ek hx hr;rw[hs] at h1;have hb:=Yy (P:=P) (w0:=w0) (au:=au) (hr:=hr) (b:=false) dZ Em hl hh Eo kZ;refine .calm au ?_ (mg (.str _));simp[execOp,ho,MY h1,Instr.sliceAt,Instr.slice,run_underlying ht,hb]
theorem asO{t e:TypeId}{x:Operand}{lo hi:Option Operand}{x':aQ}{CS zy:Option aQ}{sz n l h:Nat}{v:V}(ho:o.op=.slice t x lo hi none)(ht:P.underlying t=some (.slice e))(cn:wV P e=some sz)
  (hx:cA x=some x') (dZ:xm lo=some CS) (Em:xm hi=some zy) (hn:yh (ev ak x')=some n) (hl:rF ak 0 CS=some l) (hh:rF ak n zy=some h)
  (hv:Dc (ev ak x') sz l h=.done v [] []):ft P w0 a.eval o m v []:=by
 have h1:=ek hx hr;unfold Dc at hv;split at hv
 .cases hv
 rename_i Eo;have Eo:l<=h:=by simpa using Eo
 have run:∀(ad:Option Addr) (cap:Nat),a.eval x=.slice ad n cap->h<=cap->(execOp a.eval o).run P m.w=.ok (.value (.slice (if cap=l then ad else ad.map (·.add (l*sz))) (h-l) (cap-l))) m.w:=by intro ad cap nL kZ;have hb:=Yy (P:=P) (w0:=w0) (au:=au) (hr:=hr) (b:=true) dZ Em hl hh Eo kZ;simp[execOp,ho,nL,Instr.sliceAt,Instr.slice,run_underlying ht,hb,QV cn]
 obtain⟨ad0,cap0,hsl,hncap,rV⟩:=ad4 (au:=au) (hr:=hr) hn h1;split at hv
 .rename_i he;split at hv
  .rename_i h0;cases hv;rw[he] at h1;have:=PJ h1;subst h0;have tL:l=0:=aa;subst tL;rw[this] at hsl;cases hsl;refine .calm au (run none 0 this (aX _)) ?_;simp;exact mg .nils
  cases hv
 .rename_i es he;split at hv
  .rename_i hc;cases hv;rw[he] at h1 hn;simp[yh] at hn;subst hn;obtain⟨hp⟩:cT m _ (a.eval x):=h1;generalize hb:a.eval x=b at hp;generalize jI:(PV.sl es)=pv at hp;cases hp<;>cases jI
   .rename_i ad cap IS hm;simp at hc;have hh0:h=0:=aa;subst hh0;have tL:l=0:=aa;subst tL;refine .calm au (run ad cap hb (bd _)) (mg ?_);simp only[List.drop_nil,List.take_nil,Nat.sub_zero];refine .yA _ _ (fun h=>?_) hm;split at h
    .exact IS h
    cases ad with
    |none=>exact IS rfl
    |some ad=>simp at h
   rename_i b' o' cap bN f hm lG u9 tQ tH CL;refine .calm au (run _ cap hb aa) (mg ?_);by_cases aw:l=h
   .subst aw;simp only[Fm,List.take_zero];refine .yA _ _ (fun h=>?_) aa;split at h<;>simp at h
   have hlen:((es.drop l).take (h-l)).length=h-l:=by simp;omega
   have mD:es≠[]:=fun e=>by subst e;simp at hc;omega
   have VQ:bN=sz:=by obtain⟨e0,r0,rfl⟩:=List.exists_cons_of_ne_nil mD;have g1:=tQ e0 af;have g2:=hc.2;simp[gC] at g2;omega
   subst VQ;rw[if_neg aa];simp only[jZ,Addr.add_lit];have AS:=bU.sl (w:=m.w) (own:=m.own) (es:=(es.drop l).take (h-l)) b' (o'+l*bN) (cap-l) bN (fun j=>f (l*bN+j)) (fun aF=>lG fun e0=>aF ?_) aa aa (fun e he=>tQ e (vI (vJ he))) ?_ ?_
   .rw[hlen] at AS;exact AS
   .apply List.eq_nil_of_length_eq_zero;rw[Ij (fun e he=>tQ e (vI he)),OT tQ,e0];simp
   .intro j z hz;rw[Ij (fun e he=>tQ e (vI he)),OT tQ,jt] at hz;split at hz
    .rw[r9] at hz;rw[BB];exact tH _ z hz
    cases hz
   intro j z hz;rw[Ij (fun e he=>tQ e (vI he)),OT tQ,jt] at hz;split at hz
   .rw[r9] at hz;exact CL _ z hz
   cases hz
  cases hv
 .rename_i id g z off len he;split at hv
  .rename_i hc;cases hv;rw[he] at h1 hn;simp[yh] at hn;subst hn;have eV:cT m _ (a.eval x):=h1;generalize hb:a.eval x=b at eV;cases eV with
   |hsl ad cap hg rU hm Mk=>
    refine .calm au (run _ cap hb aa) ?_;have VP:∃ad',(if cap=l then some ad else (some ad).map (·.add (l*sz)))=some ad'/\(cap≠l->ad'=ad.add (l*sz))/\(l=0->ad'=ad):=by
     by_cases bQ:cap=l
     .exact⟨ad,by simp[bQ],fun h=>(h bQ).elim,fun _=>rfl⟩
     exact⟨ad.add (l*sz),by simp[bQ],fun _=>rfl,fun h=>by subst h;simp[Addr.add]⟩
    obtain⟨ad',e1,e2,e3⟩:=VP;rw[e1];refine bJ.one.2 (.hsl _ _ hg aa aa fun s g1 g2=>?_);obtain⟨f1,f2,f3⟩:=Mk s g1 g2;refine⟨f1,fun AQ=>?_,?_⟩
    .by_cases tL:l=0
     .subst tL;rw[e3 rfl,se];refine f2 ?_;rcases AQ with h|h
      .exact .inl aa
      exact .inr aa
     have:0<h-l:=by rcases AQ with h|h<;>omega
     rw[e2 aa,f2 (.inr aa),Addr.add_lit,f1,hc.2,fY]
    omega
  cases hv
 cases hv
end
end
end Go.Abs
namespace Go.Abs
variable {P:Program} {w0:World}
theorem alG(off:Nat):∀(vs:List Value) (i:Nat) (cells:Array Value),off+i+vs.length<=cells.size->
  ((vs.zipIdx i).foldl (fun cs (x:Value×Nat)=>cs.setIfInBounds (off+x.2) x.1) cells).toList=eN cells.toList (off+i) vs:=by
 intro vs
 induction vs with
 |nil=>intro i cells _;simp[eN]
 |cons v r ih=>
  intro i cells h;simp only[cq] at h;simp only[List.zipIdx_cons,zZ];rw[ih (i+1) _ (by simp;omega)];unfold eN;rw[Array.toList_setIfInBounds];have aw:off+i<cells.toList.length:=by simp;omega
  have e1:(cells.toList.set (off+i) v).take (off+(i+1))=cells.toList.take (off+i)++[v]:=by rw[show off+(i+1)=(off+i)+1 by omega,List.take_succ_eq_append_getElem (by simpa using aw),List.take_set,Rs (by simp;omega)];simp
  have e2:(cells.toList.set (off+i) v).drop (off+(i+1)+r.length)=cells.toList.drop (off+(i+1)+r.length):=by rw[List.drop_set_of_lt aa]
  rw[e1,e2];simp only[cq,tc,List.singleton_append];congr 3;omega
theorem aba{place:Nat->Option (Nat×Nat)}{i off n:Nat}{v:Value}{rest:List (Nat×Value)}{cells:Array Value}(hp:place i=some (off,n))(hv:v.cells.size=n)(hfit:off+n<=cells.size):
  ∃j4,Instr.fill place cells ((i,v)::rest)=Instr.fill place j4 rest/\j4.toList=eN cells.toList off v.cells.toList:=by
 refine⟨v.cells.zipIdx.foldl (fun cs (x:Value×Nat)=>cs.setIfInBounds (off+x.2) x.1) cells,?_,?_⟩
 .simp only[Instr.fill,hp];rw[if_neg (by simp[hv];omega)]
 rw[<- Array.foldl_toList,Array.toList_zipIdx,alG off v.cells.toList 0 cells (by simp;omega)];simp
theorem aa9{m:Mem}{ak:Env}{a:Act}(hr:iW m ak a.tmps){place:Nat->Option (Nat×Nat)}{zl:Nat}:∀ {ps:List (Nat×Operand)} {qs:List (Nat×Nat×aQ)} {rs:List (Nat×List C)} {cs:List C} {cells:Array Value},
  CZ place zl ps=some qs->yr ak qs=some rs->di m cs cells.toList->cs.length=zl->
  ∃j4,Instr.fill place cells (ps.map fun x=>(x.1,a.eval x.2))=some j4/\di m (fill cs rs) j4.toList:=by
 intro ps
 induction ps with
 |nil=>intro qs rs cs cells h1 h2 hc hl;simp[CZ] at h1;subst h1;simp[yr] at h2;subst h2;exact⟨cells,by simp[Instr.fill],by simpa [fill] using hc⟩
 |cons p t ih=>
  intro qs rs cs cells h1 h2 hc hl;obtain⟨i,x⟩:=p;simp only[CZ] at h1;split at h1
  .rename_i off n a' q bK hx hq;split at h1
   .rename_i hfit;cases h1;simp only[yr] at h2;split at h2
    .rename_i DP q' hcv Gj;split at h2
     .rename_i hlen;cases h2;have hv:=Sr hcv (ek hx hr);have cn:(a.eval x).cells.size=n:=by have:=hv.1;simp at this;omega
      have bQ:=hc.1;simp at bQ;obtain⟨j4,e1,e2⟩:=aba (rest:=t.map fun x=>(x.1,a.eval x.2)) bK cn (by omega:off+n<=cells.size);simp only[dG,fill];rw[e1];refine ih hq Gj ?_ (by rw[Q3 aa];exact hl);rw[e2];exact di.pw.2 ((di.pw.1 hc).eN (di.pw.1 hv) off)
     cases h2
    cases h2
   cases h1
  cases h1
theorem mapM_ok{α β:Type}{f:α->Sem β}{g:α->β}{w:World}:∀ {l:List α},(∀x∈l,(f x).run P w=.ok (g x) w)->(l.mapM f).run P w=.ok (l.map g) w:=by
 intro l
 induction l with
 |nil=>intro _;simp
 |cons x r ih=>intro h;simp[List.mapM_cons,h x af,ih fun y hy=>h y (by simp[hy])]
theorem akF{m:Mem}{ak:Env}{a:Act}(hr:iW m ak a.tmps){place:Nat->Option (Nat×Nat)}{sz:Nat}(ano:∀k,place k=some (k*sz,sz)):∀ {ps:List (Nat×Operand)} {as:List aQ} {es:List (List C)} {k:Nat} {done:List Value} {cells:Array Value},
  Ib k ps=some as->za ak sz as=some es->done.length=k*sz->cells.toList.take (k*sz)=done->cells.size=(k+as.length)*sz->
  ∃j4,Instr.fill place cells (ps.map fun x=>(x.1,a.eval x.2))=some j4/\ ∃vs,j4.toList=done++vs/\di m es.flatten vs/\(∀e∈es,e.length=sz)/\es.length=as.length:=by
 intro ps
 induction ps with
 |nil=>intro as es k done cells h1 h2 hd ht hs;simp[Ib] at h1;subst h1;simp[za] at h2;subst h2;refine⟨cells,by simp[Instr.fill],[],?_,⟨af,fun j x u p=>by simp at p⟩,fun e he=>by simp at he,rfl⟩;rw[<- ht,jR,fS (by simp at hs ⊢;omega)]
 |cons p t ih=>
  intro as es k done cells h1 h2 hd ht hs;obtain⟨i,x⟩:=p;simp only[Ib] at h1;split at h1
  .rename_i a' q hx hq;split at h1
   .rename_i hik;cases h1;subst hik;simp only[za] at h2;split at h2
    .rename_i DP q' hcv Gj;split at h2
     .rename_i hlen;cases h2;have hv:=Sr hcv (ek hx hr);have cn:(a.eval x).cells.size=sz:=by have:=hv.1;simp at this;omega
      simp only[cq] at hs;have eh:cells.size=i*sz+sz+q.length*sz:=by rw[hs,fY,fY];omega
      obtain⟨j4,e1,e2⟩:=aba (rest:=t.map fun x=>(x.1,a.eval x.2)) (ano i) cn (by omega:i*sz+sz<=cells.size);have jU:j4.toList.length=cells.size:=by rw[e2,Q3 (by simp;omega)];simp
      obtain⟨ajo,f1,vs,f2,f3,f4,f5⟩:=ih (k:=i+1) (done:=done++(a.eval x).cells.toList) (cells:=j4) hq Gj (by simp[hd,cn,fY]) (by rw[e2];unfold eN;rw[ht,Ru (by simp[hd,cn,fY])];rw[fS (by simp[hd,cn,fY])]) (by simp at jU;rw[jU,eh,fY,fY];omega)
      simp only[dG];rw[e1];refine⟨ajo,f1,(a.eval x).cells.toList++vs,by rw[f2,tc],?_,?_,by simp[f5]⟩
      .simp only[lR];exact di.pw.2 ((di.pw.1 hv).append (di.pw.1 f3))
      intro e he;rcases cM.1 he with rfl|he
      .exact hlen
      exact f4 e he
     cases h2
    cases h2
   cases h1
  cases h1
theorem at1{m:Mem}:∀ {es:List (List C)} {qs:List (List PV)} {vs:List Value} {sz:Nat},Bq es=some qs->(∀e∈es,e.length=sz)->di m es.flatten vs->df m.w m.own qs.flatten vs/\(∀e∈qs,e.length=sz)/\qs.length=es.length:=by
 intro es
 induction es with
 |nil=>intro qs vs sz h _ hc;simp[Bq] at h;subst h;exact⟨⟨hc.1,fun j x u p=>by simp at p⟩,fun e he=>by simp at he,rfl⟩
 |cons e r ih=>
  intro qs vs sz h cn hc;simp only[Bq] at h;split at h
  .rename_i v mO h1 h2;cases h;simp only[lR] at hc;have dw:=cn e af;have fH:=(di.pw.1 hc).take e.length;have qP:=(di.pw.1 hc).drop e.length;simp only[List.take_left,List.drop_left] at fH qP;have g1:=NH h1 (di.pw.2 fH);obtain⟨g2,g3,g4⟩:=ih h2 (fun x hx=>cn x (by simp[hx])) (di.pw.2 qP);have xZ:v.length=sz:=by
    have a1:=g1.1;have a2:=fH.1;omega
   refine⟨?_,?_,by simp[g4]⟩
   .have:=(df.pw.1 g1).append (df.pw.1 g2);rw[kG] at this;exact df.pw.2 this
   intro y hy;rcases cM.1 hy with rfl|hy
   .exact xZ
   exact g3 y hy
  cases h
section
variable {m:Mem} {ak:Env} {a:Act} {o:Oper} (au:Ok w0 m) (hr:iW m ak a.tmps)
include au hr
theorem asr{t:TypeId}{ps:Array (Nat×Operand)}{fs:Array Field}{z:List PV}{qs:List (Nat×Nat×aQ)}{rs:List (Nat×List C)}(ho:o.op=.build t ps)(ht:P.underlying t=some (.struct fs))(hz:zX P t=some z)
  (dk:fs.all (fun f=>(P.info? f.type).isSome)=true) (hp:CZ (fun i=>(fs[i]?).map fun f=>(f.offset,P.cellsOf f.type)) z.length ps.toList=some qs) (hv:yr ak qs=some rs):
  ft P w0 a.eval o m (.agg (fill (z.map .p) rs)) []:=by
 obtain⟨v,i,hi,hiv,hs,hl,dp⟩:=NR hz;obtain⟨j4,h1,h2⟩:=aa9 hr hp hv (dp m.w m.own).Dl af;refine .calm (x:=.agg j4) au ?_ (bJ.agg.2 ⟨_,rfl,h2⟩);have Gi:(fs.mapM (fun f=>do pure (f.offset,<- sizeOf f.type):Field->Sem (Nat×Nat))).run P m.w=.ok (fs.map fun f=>(f.offset,P.cellsOf f.type)) m.w:=by
  rw[Array.mapM_eq_mapM_toList];have:=mapM_ok (P:=P) (f:=(fun f=>do pure (f.offset,<- sizeOf f.type):Field->Sem (Nat×Nat))) (g:=fun f=>(f.offset,P.cellsOf f.type)) (w:=m.w) (l:=fs.toList) (fun f hf=>by
   have:=Array.all_eq_true_iff_forall_mem.1 dk f (by simpa using hf);cases Ga:P.info? f.type with
   |none=>rw[Ga] at this;cases this
   |some i=>simp[sizeOf,typeInfo,Ga,Program.cellsOf])
  rw[Sem.run_map,this];simp only[Result.andThen_ok];congr 1;apply Array.ext';simp
 have Ei:Instr.fill (fun x=>(fs.map fun f=>(f.offset,P.cellsOf f.type))[x]?) v.cells (ps.map fun x=>(x.1,a.eval x.2)).toList=some j4:=by simpa using h1
 simp only[execOp,ho,Instr.build,zeroValue,typeInfo,Sem.run_bind,run_program,Result.andThen_ok,hi,hiv,Sem.run_pure,run_underlying ht,Gi,Ei]
theorem asq{t e:TypeId}{n:Nat}{ps:Array (Nat×Operand)}{i:TypeInfo}{z:List PV}{qs:List (Nat×Nat×aQ)}{rs:List (Nat×List C)}(ho:o.op=.build t ps)(ht:P.underlying t=some (.array n e))(hz:zX P t=some z)
  (hie:P.info? e=some i) (hp:CZ (fun k=>some (k*i.size,i.size)) z.length ps.toList=some qs) (hv:yr ak qs=some rs):
  ft P w0 a.eval o m (.agg (fill (z.map .p) rs)) []:=by
 obtain⟨v,i',hi,hiv,hs,hl,dp⟩:=NR hz;obtain⟨j4,h1,h2⟩:=aa9 hr hp hv (dp m.w m.own).Dl af;refine .calm (x:=.agg j4) au ?_ (bJ.agg.2 ⟨_,rfl,h2⟩);have Ei:Instr.fill (fun k=>some (k*i.size,i.size)) v.cells (ps.map fun x=>(x.1,a.eval x.2)).toList=some j4:=by simpa using h1
 simp only[execOp,ho,Instr.build,zeroValue,sizeOf,typeInfo,Sem.run_bind,run_program,Result.andThen_ok,hi,hie,hiv,Sem.run_pure,run_underlying ht,Ei]
theorem aso{t e:TypeId}{n sz bytes s:Nat}{z:List PV}{ps:Array (Nat×Operand)}{as:List aQ}{es:List (List C)}(ho:o.op=.buildSlice t n ps)(he:Ah P t=some (e,sz,bytes,z))(hp:Ib 0 ps.toList=some as)
  (hn:as.length=n) (amv:n*sz<=16777216) (hv:za ak sz as=some es):
  (∀qs,Bq es=some qs->ft P w0 a.eval o m (.one (.hsl s ((m.aj s).1+1) sz 0 es.length)) [(s,((m.aj s).1+1,some (.arr e sz qs)))])/\
  ft P w0 a.eval o m (.one (.hsl s ((m.aj s).1+1) sz 0 es.length)) [(s,((m.aj s).1+1,some (.iQ e sz es)))]:=by
 obtain⟨i,v,ht,hi,hs,hb,⟨fA,_⟩,wB,qX,l8,dp⟩:=Oy he;subst hn;obtain⟨j4,f1,vs,f2,f3,f4,f5⟩:=akF (place:=fun k=>some (k*sz,sz)) (done:=[]) (cells:=(Array.range (as.length*sz)).map ((if as.length*sz=0 then #[] else v.cells)[· %(if as.length*sz=0 then #[] else v.cells).size]!)) hr (fun _=>rfl) hp hv af af af;have jJ:(execOp a.eval o).run P m.w=.ok (.value (.slice (some ⟨m.w.heap.size,0,none⟩) es.length es.length)) (m.w.alloc (.cells j4 e)):=by
  have Ei:Instr.fill (fun k=>some (k*sz,sz)) ((Array.range (as.length*sz)).map ((if as.length*sz=0 then #[] else v.cells)[· %(if as.length*sz=0 then #[] else v.cells).size]!)) (ps.map fun x=>(x.1,a.eval x.2)).toList=some j4:=by simpa using f1
  have hnb:¬(16777216<as.length*sz):=aa;have acw:¬(as.length*sz>2 ^ 24):=aa;by_cases h0:as.length*sz=0
  .simp only[if_pos h0] at Ei;simp only[execOp,ho,Instr.buildSlice,Sem.run_bind,run_underlying ht,Result.andThen_ok,sizeOf,typeInfo,run_program,hi,Sem.run_pure,hs,if_neg acw,if_pos h0,Ei,newRow,run_newObj,f5];rfl
  simp only[if_neg h0] at Ei;simp only[execOp,ho,Instr.buildSlice,Sem.run_bind,run_underlying ht,Result.andThen_ok,sizeOf,typeInfo,run_program,hi,Sem.run_pure,hs,if_neg acw,if_neg h0,zeroValue,wB,Ei,newRow,run_newObj,f5];rfl
 simp at f2;have bQ:j4.size=es.length*sz:=by
  have h1:=f3.1;rw[FR f4] at h1;have:j4.toList.length=vs.length:=by rw[f2]
  simp at this;omega
 have Mr:es.length<=maxLen:=by have:es.length<=es.length*sz:=NY _ fA;simp only[maxLen];rw[f5] at this ⊢;omega
 have I2:j4.toList.take (es.length*sz)=vs:=by rw[fS (by simp;omega),f2]
 constructor
 .intro qs hq;have dL:Ev m (m.j6 (m.w.alloc (.cells j4 e)) s m.w.heap.size es.length (.arr e sz qs)):=Il (fg.alloc _ _) (aX _);obtain⟨g1,g2,g3⟩:=at1 hq f4 (f3.ev dL.zero);refine⟨_,m.j6 (m.w.alloc (.cells j4 e)) s m.w.heap.size es.length (.arr e sz qs),.inl jJ,Io (fg.alloc _ _) (aX _) af au ?_,dL,Im au (aX _),rfl,Li (aX _) Mr⟩;exact⟨j4,by rw[DV];exact heap_alloc_new m.w _,fA,g2,by rw[qc,g3];exact aX _,by rw[qc];exact Mr,by rw[qc,bQ],by rw[g3,I2];exact g1⟩
 have dL:Ev m (m.j6 (m.w.alloc (.cells j4 e)) s m.w.heap.size es.length (.iQ e sz es)):=Il (fg.alloc _ _) (aX _);refine⟨_,m.j6 (m.w.alloc (.cells j4 e)) s m.w.heap.size es.length (.iQ e sz es),.inl jJ,Io (fg.alloc _ _) (aX _) af au ?_,dL,Im au (aX _),rfl,alK (aX _) Mr⟩;exact⟨j4,by rw[DV];exact heap_alloc_new m.w _,fA,f4,by rw[qc];exact aX _,by rw[qc];exact Mr,by rw[qc,bQ],by rw[I2];exact f3.ev dL.zero⟩
end
end Go.Abs
namespace Go.Abs
variable {P:Program} {w0:World}
theorem KA(a b:List eG)(aj:aq):app (a++b) aj=app b (app a aj):=by
 induction a generalizing aj with
 |nil=>rfl
 |cons x r ih=>obtain⟨i,o⟩:=x;simp only[jg,app];exact ih _
theorem aoI{m:Mem}{zc:Nat->Prop}(hf:∀c,zc c->m.fr c){c:Nat}(h:({m with fr:=zc}:Mem).own c):m.own c:=by
 rcases h with h|h
 .exact .inl (hf c h)
 exact .inr h
theorem PX{m:Mem}{zc:Nat->Prop}(hf:∀c,zc c->m.fr c):Ev m {m with fr:=zc}:=
 ⟨rfl,rfl,rfl,aX _,fun _ _ _=>rfl,fun _ _ h=>h,fun _ _ hn h=>hn (aoI hf h),fun _=>aX _,fun _ _ h=>⟨h,rfl,rfl,rfl⟩⟩
theorem Wc{m:Mem}{zc:Nat->Prop}(h:Ok w0 m)(hf:∀c,zc c->m.fr c):Ok w0 {m with fr:=zc} where
 os:=h.os
 tape:=h.tape
 output:=h.output
 size:=h.size
 base:=h.base
 obj id o ho:=(h.obj id o ho).ev (PX hf).zero rfl rfl rfl
 fZ id o ho hm:=⟨(h.fZ id o ho hm).1,fun hc=>(h.fZ id o ho hm).2 (hf _ hc)⟩
 frlt c hc:=h.frlt c (hf c hc)
 inj:=h.inj
theorem aga{m:Mem}{w':World}{c:Nat}(h:Ok w0 m)(hc:m.fr c)(dZ:w0.heap.size<=c)(zJ:w'.os=m.w.os)(ht:w'.tape=m.w.tape)(nk:w'.output=m.w.output)(hs:w'.heap.size=m.w.heap.size)
  (hk:∀x,x≠c->w'.heap[x]?=m.w.heap[x]?):Ok w0 {m with w:=w'} where
 os:=zJ.trans h.os
 tape:=ht.trans h.tape
 output:=nk.trans h.output
 size:=ll h.size (BC hs.symm)
 base x hx:=(hk x aa).trans (h.base x hx)
 obj id o ho:=by
  have aF:m.σ id≠c:=by
   intro e;cases hm:o.fh with
   |true=>exact(h.fZ id o ho hm).2 (e▸hc)
   |false=>exact(h.obj id o ho).calm hm (.inl (e▸hc))
  exact(h.obj id o ho).ev (m':={m with w:=w'}) ⟨fun x _ hn=>⟨hk x fun e=>hn (.inl (e▸hc)),hn⟩,fun _=>aX _,fun _ _ h=>⟨h,rfl,rfl,rfl⟩⟩ rfl rfl (hk _ aF)
 fZ:=h.fZ
 frlt x hx:=by rw[show({m with w:=w'}:Mem).w.heap.size=m.w.heap.size from hs];exact h.frlt x hx
 inj:=h.inj
theorem ZS{m:Mem}(au:Ok w0 m){own:Nat->Prop}{x:V}{v:Value}{new:List (List PV)}{rd fr:List Nat}(h:ez m.aj x=some (new,rd,fr))(hv:bJ m x v)(hs:pW m own fr):
  ∃ax cx,v=.slice ax new.length cx/\(∀z,kD x=some z->∀e∈new,e.length=z)/\
   (new≠[]->∃b o news,ax=some ⟨b,o,none⟩/\Pw (bU m.w own) new.flatten news/\ ∀(j:Nat) (u:Value),news[j]?=some u->m.w.cell? ⟨b,o+j,none⟩=some u):=by
 have row:∀(c off sz len:Nat) (cur:Array Value) (ty:TypeId) (fz:Nat×Nat) (ps:List (List PV)),m.w.heap[c]?=some (.cells cur ty fz)->Pw (bU m.w own) ps.flatten ((cur.toList.drop (off*sz)).take (ps.length*sz))->
   ∃b o news,some (⟨c,off*sz,none⟩:Addr)=some ⟨b,o,none⟩/\Pw (bU m.w own) ps.flatten news/\ ∀(j:Nat) (u:Value),news[j]?=some u->m.w.cell? ⟨b,o+j,none⟩=some u:=by
  intro c off sz len cur ty fz ps hh hp;refine⟨c,off*sz,_,rfl,hp,fun j u hj=>?_⟩;rw[jt] at hj;split at hj
  .rw[DG hh];simpa using hj
  cases hj
 unfold ez at h;split at h
 .cases h;exact⟨none,0,PJ hv,fun z hz=>by simp[kD] at hz,fun h=>(h rfl).elim⟩
 .rename_i es;cases h;obtain⟨hp⟩:cT m _ v:=hv;generalize jI:(PV.sl new)=pv at hp;cases hp<;>cases jI
  .exact⟨_,_,rfl,fun z hz=>by simp[kD] at hz,fun h=>(h rfl).elim⟩
  rename_i b o cap sz f hm ho hl cn tH CL;refine⟨_,_,rfl,fun z hz=>by simp[kD] at hz,fun _=>⟨b,o,(List.range new.flatten.length).map f,rfl,⟨af,fun j y u p q=>?_⟩,fun j u q=>?_⟩⟩
  .have hj:j<new.flatten.length:=(aS.1 p).1;rw[fR,te hj] at q;simp at q;subst q;exact(CL j y p).less hs.1
  have hj:j<new.flatten.length:=by have:=(aS.1 q).1;simpa using this
  rw[fR,te hj] at q;simp at q;subst q;exact tH j _ (nG hj)
 .rename_i id g z off len;have eV:cT m _ v:=hv;cases eV with
  |hsl ad cap hg hl hm Mk=>
   split at h
   .rename_i g' ty sz es hb;split at h
    .rename_i hc;cases h;have aV:(m.aj id).2=some (.arr ty sz es):=by rw[hb]
     obtain⟨cur,hh,j8,cn,mH,tM,cY,dp⟩:=au.obj id _ aV;obtain⟨e1,e2,e3⟩:=Mk sz (by rw[hb];exact hc.1) (by rw[hb];rfl);have hlen:((es.drop off).take len).length=len:=by simp;omega
     refine⟨some ad,cap,by rw[hlen],fun z' l7 e he=>?_,fun aF=>?_⟩
     .simp[kD] at l7;subst l7;rw[<- e1];exact cn e (vI (vJ he))
     have:0<len:=by
      cases len with
      |zero=>simp at aF
      |succ n=>omega
     rw[e2 (.inr this)];exact row (m.σ id) off sz len cur ty _ _ hh (EX cn (df.pw.1 (dp.less hs.1)) hc.2)
    cases h
   .rename_i g' ty sz es hb;split at h
    .rename_i hc;cases h;have aV:(m.aj id).2=some (.oR ty sz es):=by rw[hb]
     obtain⟨cur,fz,hh,j8,cn,mH,tM,cY,dp,_⟩:=au.obj id _ aV;obtain⟨e1,e2,e3⟩:=Mk sz (by rw[hb];exact hc.1) (by rw[hb];rfl);have hlen:((es.drop off).take len).length=len:=by simp;omega
     refine⟨some ad,cap,by rw[hlen],fun z' l7 e he=>?_,fun aF=>?_⟩
     .simp[kD] at l7;subst l7;rw[<- e1];exact cn e (vI (vJ he))
     have:0<len:=by
      cases len with
      |zero=>simp at aF
      |succ n=>omega
     rw[e2 (.inr this)];exact row (m.σ id) off sz len cur ty _ _ hh (EX cn (df.pw.1 (dp.less hs.1)) hc.2)
    cases h
   .rename_i g' ty sz es hb;split at h
    .rename_i hc;split at h
     .rename_i ps q hq;cases h;have aV:(m.aj id).2=some (.iQ ty sz es):=by rw[hb]
      obtain⟨cur,hh,j8,cn,mH,tM,cY,dp⟩:=au.obj id _ aV;obtain⟨e1,e2,e3⟩:=Mk sz (by rw[hb];exact hc.1) (by rw[hb];rfl);have hle:((es.drop off).take len).length=len:=by simp;omega
      have bK:new.length=len:=by rw[SB hq,hle]
      have ML:=EX cn (di.pw.1 dp) hc.2;have MP:∀e∈(es.drop off).take len,e.length=sz:=fun e he=>cn e (vI (vJ he));have kZ:len*sz<=(cur.toList.drop (off*sz)).length:=by
       simp;have h1:off*sz+len*sz<=es.length*sz:=by rw[<- fY];exact lT _ hc.2
       have h2:es.length*sz<=m.κ id*sz:=lT _ mH;omega
      have sL:∀(j:Nat) (e:List PV),new[j]?=some e->Pw (bU m.w own) e (((cur.toList.drop (off*sz)).drop (j*sz)).take sz):=by intro j e he;obtain⟨x,q',h1,h2,h3⟩:=SA hq he;exact HO (R:=cT m) (T:=bU m.w own) (eU:=pW m own) (fun a b h=>h.app) (fun a b r v e1 e2 e3=>JQ au _ e1 e2 e3) h2 ⟨hs.1,fun i hi=>hs.2 i (h3 i hi)⟩ (UR MP ML h1)
      have Eu:∀e∈new,e.length=sz:=by
       intro e he;obtain⟨j,hj⟩:=jD he;have:=(sL j e hj).1;have mF:j<len:=by rw[<- bK];exact(aS.1 hj).1
       have h1:(j+1)*sz<=len*sz:=lT _ mF;rw[fY] at h1;simp at this kZ;omega
      refine⟨some ad,cap,by rw[bK],fun z' l7 e he=>?_,fun aF=>?_⟩
      .simp[kD] at l7;subst l7;rw[<- e1];exact Eu e he
      have:0<len:=by rw[<- bK];exact gV.2 aF
      rw[e2 (.inr this)];refine row (m.σ id) off sz len cur ty _ _ hh ?_;rw[bK];have:=WI Eu (by rw[bK];exact kZ) sL;rw[bK] at this;exact this
     cases h
    cases h
   split at h
   .rename_i tL;cases h;exact⟨some ad,cap,by rw[tL];rfl,fun z' _ e he=>by simp at he,fun h=>(h rfl).elim⟩
   cases h
 cases h
end Go.Abs
namespace Go.Abs
variable {P:Program} {w0:World}
theorem afD{w:World}{own:Nat->Prop}{xs:List PV}{vs:List Value}(h:Pw (bU w own) xs vs):∀u∈vs,u.oneCell'=true:=by
 intro v hv;obtain⟨j,hj⟩:=jD hv;have aw:j<xs.length:=by rw[<- h.1];exact(aS.1 hj).1
 exact(h.2 j _ v (nG aw) hj).Nk
theorem Lj{m:Mem}{ids:List Nat}{u:List eG}(h:qd m.aj ids=some u)(id:Nat):(app u m.aj id).1=(m.aj id).1:=by
 rcases v7 h id with ⟨e,_⟩|⟨_,p,q,a,b,e⟩
 .exact congrArg Prod.fst e
 have:=congrArg Prod.fst e;exact this
theorem ZI{m:Mem}{id:Nat}{o:Ob}{w':World}(ho:(m.aj id).2=some o)(hm:o.fh=true)(zJ:w'.os=m.w.os)(ht:w'.tape=m.w.tape)(nk:w'.output=m.w.output)(hs:w'.heap.size=m.w.heap.size)
  (hk:∀x,x≠m.σ id->w'.heap[x]?=m.w.heap[x]?):Ev m {m.gZ id with w:=w'} where
 os:=zJ
 tape:=ht
 output:=nk
 size:=BC hs.symm
 keep c _ hn:=hk c fun e=>hn ⟨id,o,ho,hm,e.symm⟩
 fh:=(FJ ho hm).fh
 less:=(FJ ho hm).less
 gen:=(FJ ho hm).gen
 ref:=(FJ ho hm).ref
theorem arC{m:Mem}(au:Ok w0 m){id s:Nat}{ob:Ob}{w':World}{Cc:Array Value}{ty sz:Nat}{kX:List (List PV)}(ho:(m.aj id).2=some ob)(hm:ob.fh=true)(fA:0<sz)(zJ:w'.os=m.w.os)(ht:w'.tape=m.w.tape)(nk:w'.output=m.w.output)(hs:w'.heap.size=m.w.heap.size)
  (hk:∀x,x≠m.σ id->w'.heap[x]?=m.w.heap[x]?) (hh:w'.heap[m.σ id]?=some (.cells Cc ty (0,0))) (cn:∀e∈kX,e.length=sz) (hl:kX.length<=m.κ id) (rW:m.κ id<=maxLen) (cY:Cc.size=m.κ id*sz)
  (hp:Pw (bU m.w m.own) kX.flatten (Cc.toList.take (kX.length*sz))):
  ∃m',m'.w=w'/\Ok w0 m'/\Ev m m'/\m'.fr=m.fr/\m'.aj=dB (dB m.aj id ((m.aj id).1,none)) s ((m.aj s).1+1,some (.arr ty sz kX))/\
   bJ m' (.one (.hsl s ((m.aj s).1+1) sz 0 kX.length)) (.slice (some ⟨m.σ id,0,none⟩) kX.length (m.κ id)):=by
 have Cv:=ZI ho hm zJ ht nk hs hk;have dZ:=(au.fZ id ob ho hm).1;have VE:Ok w0 {m.gZ id with w:=w'}:=aga (m:=m.gZ id) (SY au ho hm) (.inr rfl) dZ zJ ht nk hs hk;have dL:Ev m ((({m.gZ id with w:=w'}:Mem)).install s (m.σ id) (m.κ id) (.arr ty sz kX)):=PE Cv (.inr rfl) (.inr ⟨id,ob,ho,hm,rfl⟩);have tJ:((({m.gZ id with w:=w'}:Mem)).aj s).1=(m.aj s).1:=by
  simp only[Mem.gZ,aM];split
  .rename_i e;subst e;rfl
  rfl
 have hσ:((({m.gZ id with w:=w'}:Mem)).install s (m.σ id) (m.κ id) (.arr ty sz kX)).σ s=m.σ id:=by simp[Mem.install,aM]
 have hκ:((({m.gZ id with w:=w'}:Mem)).install s (m.σ id) (m.κ id) (.arr ty sz kX)).κ s=m.κ id:=by simp[Mem.install,aM]
 refine⟨_,rfl,PG VE (.inr rfl) dZ ?_,dL,?_,?_,?_⟩
 .exact⟨Cc,by rw[hσ];exact hh,fA,cn,by rw[hκ];exact hl,by rw[hκ];exact rW,by rw[hκ];exact cY,df.ev dL.zero (df.pw.2 hp)⟩
 .funext x;simp only[Mem.install,Mem.gZ];apply propext;constructor
  .rintro ⟨h|h,h2⟩
   .exact h
   exact(h2 h).elim
  intro h;exact⟨.inl h,fun e=>(au.fZ id ob ho hm).2 (e▸h)⟩
 .simp only[Mem.install];rw[tJ];rfl
 refine bJ.one.2 (.hsl _ _ ?_ hl rW fun z h1 h2=>?_)
 .simp only[Mem.install,aM,if_true];rw[tJ];exact aX _
 have:kB (((({m.gZ id with w:=w'}:Mem)).install s (m.σ id) (m.κ id) (.arr ty sz kX)).aj s)=some sz:=by simp[Mem.install,aM,kB]
 rw[this] at h2;cases h2;exact⟨rfl,fun _=>by rw[hσ,Aa],by rw[iD];exact hκ.symm⟩
theorem ar4{P:Program}(w:World)(t ty e:TypeId)(i:TypeInfo)(z:Value)(ht:P.underlying t=some (.slice e))(hi:P.info? e=some i)(hz:i.zero=some z)
  (az:Option Addr) (a:Addr) (n c:Nat) (news:List Value) (hl:news.length=n*i.size) (xW:∀j v,news[j]?=some v->w.cell? (a.add j)=some v)
  (h0:0<n) (h63:(n:Int)<=9223372036854775807) (xG:n*i.bytes<=281474976710656):
  (Builtin.append_ #[t,t] ty #[.slice az 0 0,.slice (some a) n c]).run P w=
   .ok (.slice (some ⟨w.heap.size,0,none⟩) n (grownCap w n 0 e)) (w.drew.alloc (.cells (news.toArray++Builtin.zeroCells z.cells (grownCap w n 0 e-n)) e)):=by
 cases az with
 |none=>exact run_append_nil w t ty e i z ht hi hz a n c news hl xW h0 h63 xG
 |some b=>have h:=run_append_grow (P:=P) w t ty e i z ht hi hz b 0 0 [] af (fun j v h=>by simp at h) a n c news hl xW aa (by simpa using h63) (by rw[iD,nextslicecap_zero h0];exact xG);rw[iD] at h;rw[h];simp
theorem ar3{P:Program}(w:World)(t ty e:TypeId)(i:TypeInfo)(ht:P.underlying t=some (.slice e))(hi:P.info? e=some i)
  (g off sLen sCap:Nat) (cur:Array Value) (hg:w.heap[g]?=some (.cells cur e (0,0)))
  (a:Addr) (m c:Nat) (news:List Value) (hl:news.length=m*i.size) (xW:∀j u,news[j]?=some u->w.cell? (a.add j)=some u) (h1:∀u∈news,u.oneCell'=true)
  (qt:sLen+m<=sCap) (hfit:off+sLen*i.size+news.length<=cur.size):
  (Builtin.append_ #[t,t] ty #[.slice (some ⟨g,off,none⟩) sLen sCap,.slice (some a) m c]).run P w=
   .ok (.slice (some ⟨g,off,none⟩) (sLen+m) sCap) (w.setRow g (cur.toList.take (off+sLen*i.size)++news++cur.toList.drop (off+sLen*i.size+news.length)).toArray):=by
 have hf:=run_firstCells_some (P:=P) w i.size m a m c news hl xW;have cE:=run_storeCells_at P g (off+sLen*i.size) e news 0 cur w hg (by simpa using hfit) h1;simp only[se] at cE;simp[Builtin.append_,run_underlying ht,sizeOf,typeInfo,hi,Builtin.lenOf,qt,hf,Addr.add_lit,cE]
section
variable {m:Mem} {ak:Env} {a:Act} {o:Oper} (au:Ok w0 m) (hr:iW m ak a.tmps)
include au hr
theorem asl{c:Call}{d x:Operand}{d' x':aQ}{t e:TypeId}{s sz bytes:Nat}{z:List PV}{v:V}{u:List eG}{rd:List Nat}(ho:o.op=.call c)(hc:c.callee=.builtin .append)(has:c.args= #[d,x])(hJ:c.argTypes= #[t,t])
  (he:Ah P t=some (e,sz,bytes,z)) (hd:cA d=some d') (hx:cA x=some x') (hv:fj m.aj s e sz bytes (ev ak d') (ev ak x')=.done v u rd):ft P w0 a.eval o m v u:=by
 obtain⟨i,zv,ht,hi,hs,hb,⟨fA,F5⟩,wB,I7,l8,dp⟩:=Oy he;have qq:=ek hd hr;have kO:=ek hx hr;have run:∀(y:Value) (w':World),(Builtin.append_ #[t,t] o.type #[a.eval d,a.eval x]).run P m.w=.ok y w'->(execOp a.eval o).run P m.w=.ok (.value y) w':=by intro y w' h;simp[execOp,ho,resolve,hc,has,hJ,invoke,builtin,h]
 unfold fj at hv;split at hv
 .cases hv
 rename_i new rd' fr dw;split at hv
 .cases hv
 rename_i anz;split at hv
 .cases hv
 rename_i fu qh;have nj:=abx au qh;have u5:=UY qh;have nT:=U1 au qh;obtain⟨ax,cx,wJ,anx,xW⟩:=ZS au dw kO nT;have dk:∀e∈new,e.length=sz:=by
  have:kD (ev ak x')=some sz\/gC sz new=true:=Classical.not_not.1 anz;rcases this with h|h
  .exact anx sz h
  intro e he;have:=jf.1 h e he
  simpa using this
 have Mh:new.flatten.length=new.length*sz:=FR dk;split at hv
 · -- nil
  rename_i F8;rw[F8] at qq;have zt:=PJ qq;split at hv
  .rename_i iZ;cases hv;refine⟨.slice none 0 0,m.with u,.inl (run _ _ ?_),nj,u5,rfl,rfl,mg .nils⟩;rw[zt,wJ,iZ];cases ax<;>simp[Builtin.append_,run_underlying ht,sizeOf,typeInfo,hi,Builtin.lenOf,Builtin.firstCells,loadCells,loadCellsFrom,Mem.with]
  rename_i iZ;split at hv
  .rename_i qt;cases hv;have aF:new≠[]:=fun h=>iZ (by simp[h]);obtain⟨b,off,news,rfl,qW,xL⟩:=xW aF;unfold room at qt;have jl:news.length=new.length*i.size:=by rw[qW.1,Mh,hs]
   have CI:new.length<=maxLen/\(new.length:Int)<=9223372036854775807:=by have:new.length<=new.length*bytes:=NY _ F5;simp only[maxLen];omega
   have jJ:=run_append_nil (P:=P) m.w t o.type e i zv ht hi wB ⟨b,off,none⟩ new.length cx news jl (fun j v hj=>by rw[Addr.add_lit];exact xL j v hj) aa CI.2 (by rw[hb];omega);generalize hW:m.w.drew.alloc (.cells (news.toArray++Builtin.zeroCells zv.cells (grownCap m.w new.length 0 e-new.length)) e)=W at jJ;have hg:fg (m.with fu).w W:=by rw[<- hW];exact(fg.drew _).trans (fg.alloc _ _)
   have kZ:=grownCap_ge m.w new.length 0 e;have LP:=grownCap_le_maxLen m.w new.length 0 e CI.1;have Cv:Ev (m.with fu) ((m.with fu).j6 W s m.w.heap.size (grownCap m.w new.length 0 e) (.arr e sz new)):=Il hg (aX _);have tJ:=Lj qh s;refine⟨_,(m.with fu).j6 W s m.w.heap.size (grownCap m.w new.length 0 e) (.arr e sz new),.inl (run _ _ (by rw[zt,wJ];exact jJ)),Io hg (aX _) (by rw[<- hW];simp) nj ?_,u5.trans Cv,Im nj (aX _),?_,?_⟩
   .refine⟨_,by rw[DV,UU,<- hW];exact heap_alloc_new m.w.drew _,fA,dk,by rw[qc];exact kZ,by rw[qc];exact LP,?_,?_⟩
    .rw[qc];simp only[Array.size_append,List.size_toArray,size_zeroCells,I7,jl,hs,<- fY];congr 1;omega
    have:(news.toArray++Builtin.zeroCells zv.cells (grownCap m.w new.length 0 e-new.length)).toList.take (new.length*sz)=news:=by simp only[Array.toList_append];rw[<- hs,<- jl];exact List.take_left
    rw[this];exact df.ev Cv.zero (df.pw.2 qW)
   .rw[KA,UT];simp only[Mem.with];rw[tJ]
   have:=Li (m:=m.with fu) (w':=W) (s:=s) (c:=m.w.heap.size) (ty:=e) (sz:=sz) (es:=new) kZ LP;simp only[Mem.with] at this;rw[tJ] at this;exact this
  cases hv
 · -- an empty slice without room
  rename_i F8;rw[F8] at qq;obtain⟨az,zt⟩:=anZ qq;split at hv
  .cases hv
  rename_i iZ;split at hv
  .rename_i qt;cases hv;have aF:new≠[]:=fun h=>iZ (by simp[h]);obtain⟨b,off,news,rfl,qW,xL⟩:=xW aF;unfold room at qt;have jl:news.length=new.length*i.size:=by rw[qW.1,Mh,hs]
   have CI:new.length<=maxLen/\(new.length:Int)<=9223372036854775807:=by have:new.length<=new.length*bytes:=NY _ F5;simp only[maxLen];omega
   have jJ:=ar4 (P:=P) m.w t o.type e i zv ht hi wB az ⟨b,off,none⟩ new.length cx news jl (fun j v hj=>by rw[Addr.add_lit];exact xL j v hj) aa CI.2 (by rw[hb];omega);generalize hW:m.w.drew.alloc (.cells (news.toArray++Builtin.zeroCells zv.cells (grownCap m.w new.length 0 e-new.length)) e)=W at jJ;have hg:fg (m.with fu).w W:=by rw[<- hW];exact(fg.drew _).trans (fg.alloc _ _)
   have kZ:=grownCap_ge m.w new.length 0 e;have LP:=grownCap_le_maxLen m.w new.length 0 e CI.1;have Cv:Ev (m.with fu) ((m.with fu).j6 W s m.w.heap.size (grownCap m.w new.length 0 e) (.arr e sz new)):=Il hg (aX _);have tJ:=Lj qh s;refine⟨_,(m.with fu).j6 W s m.w.heap.size (grownCap m.w new.length 0 e) (.arr e sz new),.inl (run _ _ (by rw[zt,wJ];exact jJ)),Io hg (aX _) (by rw[<- hW];simp) nj ?_,u5.trans Cv,Im nj (aX _),?_,?_⟩
   .refine⟨_,by rw[DV,UU,<- hW];exact heap_alloc_new m.w.drew _,fA,dk,by rw[qc];exact kZ,by rw[qc];exact LP,?_,?_⟩
    .rw[qc];simp only[Array.size_append,List.size_toArray,size_zeroCells,I7,jl,hs,<- fY];congr 1;omega
    have:(news.toArray++Builtin.zeroCells zv.cells (grownCap m.w new.length 0 e-new.length)).toList.take (new.length*sz)=news:=by simp only[Array.toList_append];rw[<- hs,<- jl];exact List.take_left
    rw[this];exact df.ev Cv.zero (df.pw.2 qW)
   .rw[KA,UT];simp only[Mem.with];rw[tJ]
   have:=Li (m:=m.with fu) (w':=W) (s:=s) (c:=m.w.heap.size) (ty:=e) (sz:=sz) (es:=new) kZ LP;simp only[Mem.with] at this;rw[tJ] at this;exact this
  cases hv
 .rename_i id g zz len F8;rw[F8] at qq;split at hv
  .rename_i g' jQ bN es iu;split at hv
   .rename_i qR;obtain⟨iL,rfl,rfl,hlen,qt,Vz⟩:=qR;cases hv;have VA:id∉fr:=by simpa using Vz
    have cU:(m.with fu).aj id=m.aj id:=by
     rcases v7 qh id with ⟨e,_⟩|⟨nh,_⟩
     .exact e
     exact(VA nh).elim
    have aV:((m.with fu).aj id).2=some (.arr jQ bN es):=by rw[cU,iu]
    obtain⟨cur,hh,_,cn,hl,rW,cY,VI⟩:=nj.obj id _ aV;have LQ:cT m _ (a.eval d):=qq;generalize zt:a.eval d=dv at LQ;cases LQ with
    |hsl ad cap hg rU IQ Ml=>
     obtain⟨f1,f2,f3⟩:=Ml bN (by rw[iu];exact iL) (by rw[iu];rfl);have kZ:cap=m.κ id:=by rw[<- f3,iD]
     have nc:=f2 (.inl rfl);rw[Aa] at nc;subst nc;unfold room at qt;have tJ:=Lj qh s;have hgid:=Lj qh id;have En:len*bN<=es.length*bN:=lT _ hlen;have mH:es.length*bN<=m.κ id*bN:=lT _ hl;have VF:Pw (bU (m.with fu).w (m.with fu).own) (es.take len).flatten (cur.toList.take (len*bN)):=by rw[Ij cn];have h1:=(df.pw.1 VI).take (len*bN);rw[Ho,xe En] at h1;exact h1
     have vf:(es.take len).length=len:=by simp;omega
     have LF:∀x∈es.take len++new,x.length=bN:=by
      intro x hx;rcases eF.1 hx with hx|hx
      .exact cn x (vJ hx)
      exact dk x hx
     have hnl0:len+new.length<=(len+new.length)*bytes:=NY _ F5;have vj:∀q:eG,app (fu++[(id,(g,none)),q]) m.aj=dB (dB (m.with fu).aj id (((m.with fu).aj id).1,none)) q.1 q.2:=by intro q;rw[KA];simp only[app];rw[cU,iu,iL];rfl
     have CF:(es.take len++new).length=len+new.length:=by rw[dX,vf]
     by_cases hfit:len+new.length<=cap
     · -- in its own block
      have key:∀(w':World) (Cc:Array Value),(execOp a.eval o).run P m.w=.ok (.value (.slice (some ⟨m.σ id,0,none⟩) (len+new.length) cap)) w'->w'.os=m.w.os->w'.tape=m.w.tape->w'.output=m.w.output->w'.heap.size=m.w.heap.size->
        (∀x,x≠m.σ id->w'.heap[x]?=m.w.heap[x]?)->w'.heap[m.σ id]?=some (.cells Cc jQ (0,0))->Cc.size=cur.size->Pw (bU (m.with fu).w (m.with fu).own) (es.take len++new).flatten (Cc.toList.take ((len+new.length)*bN))->
        ft P w0 a.eval o m (.one (.hsl s ((m.aj s).1+1) bN 0 (len+new.length))) (fu++[(id,(g,none)),(s,((m.aj s).1+1,some (.arr jQ bN (es.take len++new))))]):=by
       intro w' Cc jJ q1 q2 q3 q4 q5 q6 q7 q8;obtain⟨m',e1,e2,e3,e4,e5,e6⟩:=arC (s:=s) nj aV rfl fA q1 q2 q3 q4 q5 q6 LF (by rw[CF];rw[kZ] at hfit;exact hfit) rW (by rw[q7];exact cY) (by rw[CF];exact q8);rw[CF] at e6;have Pj:((m.with fu).aj s).1=(m.aj s).1:=tJ;rw[Pj] at e6 e5;refine⟨_,m',.inl (by rw[e1];exact jJ),e2,u5.trans e3,e4,by rw[e5,vj],?_⟩;rw[kZ];exact e6
      by_cases iZ:new=[]
      .subst iZ;have anv:(execOp a.eval o).run P m.w=.ok (.value (.slice (some ⟨m.σ id,0,none⟩) (len+([]:List (List PV)).length) cap)) m.w:=by
        apply run;rw[zt,wJ];have amU:len<=cap:=rU;cases ax<;>simp[Builtin.append_,run_underlying ht,sizeOf,typeInfo,hi,Builtin.lenOf,Builtin.firstCells,loadCells,loadCellsFrom,amU,storeCells]
       exact key m.w cur anv rfl rfl rfl rfl (fun _ _=>rfl) hh rfl (by simpa using VF)
      obtain⟨b,off,news,rfl,qW,xL⟩:=xW iZ;have jl:news.length=new.length*i.size:=by rw[qW.1,Mh,hs]
      have Aw:len*i.size+news.length<=cur.size:=by rw[jl,hs,cY,<- fY];rw[kZ] at hfit;exact lT _ hfit
      have jJ:=run_append_room (P:=P) m.w t o.type jQ i ht hi (m.σ id) len cap cur hh ⟨b,off,none⟩ new.length cx news jl (fun j v hj=>by rw[Addr.add_lit];exact xL j v hj) (afD qW) hfit Aw;have anw:(execOp a.eval o).run P m.w=.ok (.value (.slice (some ⟨m.σ id,0,none⟩) (len+new.length) cap)) _:=run _ _ (by rw[zt,wJ];exact jJ);have amB:len*i.size<=cur.size:=ll (Nat.le_add_right _ _) Aw;refine key _ _ anw ?_ ?_ ?_ ?_ (fun x hx=>setRow_other m.w (m.σ id) x _ hx) (ND hh) ?_ ?_
      .rfl
      .rfl
      .rfl
      .exact setRow_size m.w _ _
      .rw[List.size_toArray,dX,dX,eQ,iC,Array.length_toList];omega
      have h1:=VF.append qW;rw[<- Dv] at h1;have:(cur.toList.take (len*i.size)++news++cur.toList.drop (len*i.size+news.length)).take ((len+new.length)*bN)=cur.toList.take (len*bN)++news:=by
       rw[hs];have bQ:(cur.toList.take (len*bN)).length=len*bN:=by rw[eQ,Array.length_toList];rw[hs] at amB;omega
       have LR:(cur.toList.take (len*bN)++news).length=(len+new.length)*bN:=by rw[dX,bQ,jl,hs,fY]
       rw[Ru (BC LR.symm)];exact fS (BC LR)
      simp only[List.toList_toArray] at this ⊢;rw[this];exact h1
     · -- a new block
      have iZ:new≠[]:=fun e=>by subst e;simp at hfit;omega
      obtain⟨b,off,news,rfl,qW,xL⟩:=xW iZ;have jl:news.length=new.length*i.size:=by rw[qW.1,Mh,hs]
      have zI:(cur.toList.take (len*bN)).length=len*i.size:=by rw[hs,eQ,Array.length_toList];have amA:cur.size=m.κ id*bN:=cY;omega
      have jJ:=run_append_grow (P:=P) m.w t o.type jQ i zv ht hi wB ⟨m.σ id,0,none⟩ len cap (cur.toList.take (len*bN)) zI (fun j v hj=>by
        rw[Addr.add_lit,iD];have:(m.w.cell? ⟨m.σ id,j,none⟩)=cur[j]? :=DG hh;rw[this];rw[jt] at hj;split at hj
        .simpa using hj
        cases hj) ⟨b,off,none⟩ new.length cx news jl (fun j v hj=>by rw[Addr.add_lit];exact xL j v hj) aa aa (growslice_fits aa (by rw[hb];omega))
      have CI:len+new.length<=maxLen:=by simp only[maxLen];omega
      have IH:=grownCap_ge m.w (len+new.length) cap jQ;have CA:=grownCap_le_maxLen m.w (len+new.length) cap jQ CI;generalize tH:grownCap m.w (len+new.length) cap jQ=cc at jJ IH CA;generalize hW:m.w.drew.alloc (.cells ((cur.toList.take (len*bN)).toArray++news.toArray++Builtin.zeroCells zv.cells (cc-(len+new.length))) jQ)=W at jJ;have MA:=Wc (zc:=m.fr) (SY nj aV rfl) (fun c hc=>.inl hc);have Vj:Ev (m.with fu) {(m.with fu).gZ id with fr:=m.fr}:=(FJ aV rfl).trans (PX (fun c hc=>.inl hc));have Cx:fg ({(m.with fu).gZ id with fr:=m.fr}:Mem).w W:=by rw[<- hW];exact(fg.drew _).trans (fg.alloc _ _)
      have Cv:Ev ({(m.with fu).gZ id with fr:=m.fr}:Mem) (({(m.with fu).gZ id with fr:=m.fr}:Mem).j6 W s m.w.heap.size cc (.arr jQ bN (es.take len++new))):=Il Cx (aX _);have acb:=Vj.trans Cv;have Pj:((({(m.with fu).gZ id with fr:=m.fr}:Mem)).aj s).1=(m.aj s).1:=by
       simp only[Mem.gZ,aM];split
       .rename_i e';subst e';exact tJ
       exact tJ
      refine⟨_,({(m.with fu).gZ id with fr:=m.fr}:Mem).j6 W s m.w.heap.size cc (.arr jQ bN (es.take len++new)),.inl (run _ _ (by rw[zt,wJ];exact jJ)),Io Cx (aX _) (by rw[<- hW];simp) MA ?_,u5.trans acb,Im MA (aX _),?_,?_⟩
      .refine⟨_,by rw[DV,UU,<- hW];exact heap_alloc_new m.w.drew _,fA,LF,by rw[qc,CF];exact IH,by rw[qc];exact CA,?_,?_⟩
       .rw[qc];simp only[Array.size_append,List.size_toArray,size_zeroCells,I7,jl,zI,hs,<- fY];congr 1;omega
       have h1:=VF.append qW;rw[<- Dv] at h1;have:((cur.toList.take (len*bN)).toArray++news.toArray++Builtin.zeroCells zv.cells (cc-(len+new.length))).toList.take ((es.take len++new).length*bN)=cur.toList.take (len*bN)++news:=by simp only[Array.toList_append,CF];exact List.take_left' (by rw[dX,List.toList_toArray,List.toList_toArray,zI,jl,hs,fY])
       rw[this];exact df.ev acb.zero (df.pw.2 h1)
      .rw[UT,vj];simp only[app];rw[Pj];rfl
      have:=Li (m:=({(m.with fu).gZ id with fr:=m.fr}:Mem)) (w':=W) (s:=s) (c:=m.w.heap.size) (ty:=jQ) (sz:=bN) (es:=es.take len++new) IH CA;rw[Pj] at this;exact this
   cases hv
  cases hv
 · -- a slice that begins within its array: its values, nobody's any more
  rename_i id g zz off len aF F8;rw[F8] at qq;split at hv
  .rename_i g' jQ bN es iu;split at hv
   .rename_i qR;obtain⟨iL,rfl,rfl,hlen,qt,Vz,tL,am8⟩:=qR;cases hv;have VA:id∉fr:=by simpa using Vz
    have cU:(m.with fu).aj id=m.aj id:=by
     rcases v7 qh id with ⟨e,_⟩|⟨nh,_⟩
     .exact e
     exact(VA nh).elim
    have aV:((m.with fu).aj id).2=some (.arr jQ bN es):=by rw[cU,iu]
    obtain⟨cur,hh,_,cn,hl,rW,cY,VI⟩:=nj.obj id _ aV;have LQ:cT m _ (a.eval d):=qq;generalize zt:a.eval d=dv at LQ;cases LQ with
    |hsl ad cap hg rU IQ Ml=>
     obtain⟨f1,f2,f3⟩:=Ml bN (by rw[iu];exact iL) (by rw[iu];rfl);have nc:=f2 (.inr tL);subst nc;unfold room at qt;have dZ:=(nj.fZ id _ aV rfl).1;have hnf:=(nj.fZ id _ aV rfl).2;have holds:=EX (off:=off) (len:=len) cn (df.pw.1 VI) hlen;have vf:((es.drop off).take len).length=len:=by simp;omega
     rw[vf] at holds;have amn:∀x∈(es.drop off).take len,x.length=bN:=fun x hx=>cn x (vI (vJ hx));have LF:∀x∈(es.drop off).take len++new,x.length=bN:=by
      intro x hx;rcases eF.1 hx with hx|hx
      .exact amn x hx
      exact dk x hx
     have iZ:new≠[]:=fun e=>by subst e;simp at am8
     obtain⟨b,bo,news,rfl,qW,xL⟩:=xW iZ;have jl:news.length=new.length*i.size:=by rw[qW.1,Mh,hs]
     have CF:((es.drop off).take len++new).length=len+new.length:=by rw[dX,vf]
     have acd:(((es.drop off).take len++new).flatten).length=(len+new.length)*bN:=by rw[FR LF,CF]
     have VJ:=holds.append qW;rw[<- Dv] at VJ;have zI:((cur.toList.drop (off*bN)).take (len*bN)).length=len*i.size:=by rw[hs,eQ,iC,Array.length_toList];have amA:cur.size=m.κ id*bN:=cY;have h1:(off+len)*bN<=m.κ id*bN:=lT _ aa;rw[fY] at h1;omega
     have vj:app (fu++[(id,(g,none))]) m.aj=dB (m.with fu).aj id (((m.with fu).aj id).1,none):=by rw[KA];simp only[app];rw[cU,iu,iL];rfl
     have Vh:Ok w0 ((m.with fu).gZ id):=SY nj aV rfl;have amE:Ev (m.with fu) ((m.with fu).gZ id):=FJ aV rfl;have Vw:¬((m.with fu).gZ id).fh (m.σ id):=by
      rintro ⟨j,o',h1,h2,h3⟩
      exact(Vh.fZ j o' h1 h2).2 (.inr h3)
     have val:∀(m2:Mem) (c0 o0 cp:Nat) (cells:List Value),Ev (m.with fu) m2-> ¬m2.own c0->cells.length=(len+new.length)*bN->(∀j v,cells[j]?=some v->m2.w.cell? ⟨c0,o0+j,none⟩=some v)->
       Pw (bU (m.with fu).w (m.with fu).own) ((es.drop off).take len++new).flatten cells->len+new.length<=cp->cp<=maxLen->bJ m2 (.one (.p (.sl ((es.drop off).take len++new)))) (.slice (some ⟨c0,o0,none⟩) (len+new.length) cp):=by
      intro m2 c0 o0 cp cells dL dz bQ hce fJ h1 h2;refine mg ?_;rw[<- CF];refine .sl c0 o0 cp bN (fun j=>cells.getD j undef) (fun _=>dz) (by rw[CF];exact h1) h2 LF (fun j x hj=>?_) (fun j x hj=>?_)
      .have mF:j<cells.length:=by rw[bQ,<- acd];exact(aS.1 hj).1
       rw[de,nG mF];exact hce j _ (nG mF)
      have mF:j<cells.length:=by rw[bQ,<- acd];exact(aS.1 hj).1
      rw[de,nG mF];exact(fJ.2 j x _ hj (nG mF)).ev dL.zero
     by_cases hfit:len+new.length<=cap
     · -- in its own block
      have Aw:off*bN+len*i.size+news.length<=cur.size:=by rw[jl,hs,cY,<- fY,<- fY];exact lT _ (by have f3':off+cap=m.κ id:=f3;show _<=m.κ id;omega)
      have jJ:=ar3 (P:=P) m.w t o.type jQ i ht hi (m.σ id) (off*bN) len cap cur hh ⟨b,bo,none⟩ new.length cx news jl (fun j v hj=>by rw[Addr.add_lit];exact xL j v hj) (afD qW) hfit Aw;generalize hW:m.w.setRow (m.σ id) (cur.toList.take (off*bN+len*i.size)++news++cur.toList.drop (off*bN+len*i.size+news.length)).toArray=W at jJ;have hWh:W.heap[m.σ id]?=some (.cells (cur.toList.take (off*bN+len*i.size)++news++cur.toList.drop (off*bN+len*i.size+news.length)).toArray jQ (0,0)):=by rw[<- hW];exact ND hh
      have k1:W.os=m.w.os:=by rw[<- hW];rfl
      have k2:W.tape=m.w.tape:=by rw[<- hW];rfl
      have k3:W.output=m.w.output:=by rw[<- hW];rfl
      have k4:W.heap.size=m.w.heap.size:=by rw[<- hW];exact setRow_size m.w _ _
      have k5:∀x,x≠m.σ id->W.heap[x]?=m.w.heap[x]? :=fun x hx=>by rw[<- hW];exact setRow_other m.w (m.σ id) x _ hx
      have VE:Ok w0 {(m.with fu).gZ id with w:=W}:=aga (m:=(m.with fu).gZ id) Vh (.inr rfl) dZ k1 k2 k3 k4 k5;have amJ:Ev (m.with fu) {(m.with fu).gZ id with w:=W}:=ZI aV rfl k1 k2 k3 k4 k5;have Pr:=Wc (zc:=m.fr) VE (fun c hc=>.inl hc);have Mf:Ev (m.with fu) ({({(m.with fu).gZ id with w:=W}:Mem) with fr:=m.fr}:Mem):=amJ.trans (PX fun c hc=>.inl hc);refine⟨_,({({(m.with fu).gZ id with w:=W}:Mem) with fr:=m.fr}:Mem),.inl (run _ _ (by rw[zt,wJ];exact jJ)),Pr,u5.trans Mf,rfl,by rw[vj];rfl,?_⟩;refine val _ (m.σ id) (off*bN) cap ((cur.toList.drop (off*bN)).take (len*bN)++news) Mf ?_ (by rw[dX,zI,jl,hs,fY]) ?_ VJ hfit IQ
      .rintro (h|h)
       .exact hnf h
       exact Vw h
      intro j v hj;have bQ:({({(m.with fu).gZ id with w:=W}:Mem) with fr:=m.fr}:Mem).w.cell? ⟨m.σ id,off*bN+j,none⟩=(cur.toList.take (off*bN+len*i.size)++news++cur.toList.drop (off*bN+len*i.size+news.length)).toArray[off*bN+j]? :=DG hWh;rw[bQ];have mF:=(aS.1 hj).1;rw[dX,zI] at mF;have I2:(cur.toList.take (off*bN+len*i.size)).length=off*bN+len*i.size:=by rw[eQ,Array.length_toList];omega
      rw[List.getElem?_toArray,tc];by_cases Gc:j<len*i.size
      .rw[pS (by rw[I2];omega),jt,if_pos aa];rw[pS (by rw[zI];exact Gc),jt,if_pos (by rw[<- hs];exact Gc),r9] at hj;exact hj
      rw[mQ (by rw[I2];omega),I2,pS aa];rw[mQ (by rw[zI];omega),zI] at hj;rw[show off*bN+j-(off*bN+len*i.size)=j-len*i.size by omega];exact hj
     · -- a new block
      have hnlb:len+new.length<=(len+new.length)*bytes:=NY _ F5;have jJ:=run_append_grow (P:=P) m.w t o.type jQ i zv ht hi wB ⟨m.σ id,off*bN,none⟩ len cap ((cur.toList.drop (off*bN)).take (len*bN)) zI (fun j v hj=>by
        rw[Addr.add_lit];have:(m.w.cell? ⟨m.σ id,off*bN+j,none⟩)=cur[off*bN+j]? :=DG hh;rw[this];rw[jt] at hj;split at hj
        .rw[r9] at hj
         simpa using hj
        cases hj) ⟨b,bo,none⟩ new.length cx news jl (fun j v hj=>by rw[Addr.add_lit];exact xL j v hj) aa aa (growslice_fits aa (by rw[hb];omega))
      have CI:len+new.length<=maxLen:=by simp only[maxLen];omega
      have IH:=grownCap_ge m.w (len+new.length) cap jQ;have CA:=grownCap_le_maxLen m.w (len+new.length) cap jQ CI;generalize tH:grownCap m.w (len+new.length) cap jQ=cc at jJ IH CA;generalize hW:m.w.drew.alloc (.cells (((cur.toList.drop (off*bN)).take (len*bN)).toArray++news.toArray++Builtin.zeroCells zv.cells (cc-(len+new.length))) jQ)=W at jJ;have MA:=Wc (zc:=m.fr) Vh (fun c hc=>.inl hc);have Vj:Ev (m.with fu) {(m.with fu).gZ id with fr:=m.fr}:=amE.trans (PX (fun c hc=>.inl hc));have Cx:fg ({(m.with fu).gZ id with fr:=m.fr}:Mem).w W:=by rw[<- hW];exact(fg.drew _).trans (fg.alloc _ _)
      have Pr:=M4 (X:=fun _=>False) MA Cx (fun c hc=>hc.elim);have Mf:=Vj.trans (Je (X:=fun _=>False) Cx (fun c hc=>hc.elim));have Mu:W.heap[m.w.heap.size]?=some (.cells (((cur.toList.drop (off*bN)).take (len*bN)).toArray++news.toArray++Builtin.zeroCells zv.cells (cc-(len+new.length))) jQ (0,0)):=by rw[<- hW];exact heap_alloc_new m.w.drew _
      refine⟨_,({(m.with fu).gZ id with fr:=m.fr}:Mem).later W (fun _=>False),.inl (run _ _ (by rw[zt,wJ];exact jJ)),Pr,u5.trans Mf,?_,by rw[vj];rfl,?_⟩
      .funext x;simp only[Mem.later];exact propext ⟨fun h=>h.elim (fun h=>h) (fun h=>h.elim),.inl⟩
      refine val _ m.w.heap.size 0 cc ((cur.toList.drop (off*bN)).take (len*bN)++news) Mf ?_ (by rw[dX,zI,jl,hs,fY]) ?_ VJ IH CA
      .have ana:¬(m.with fu).own m.w.heap.size:=by
        rintro (h|⟨j,o',h1,h2,h3⟩)
        .exact Nat.lt_irrefl _ (nj.frlt _ h)
        have:=(nj.obj j o' h1).lt;rw[h3] at this;exact Nat.lt_irrefl _ this
       rintro ((h|h)|⟨j,o',h1,h2,h3⟩)
       .exact ana (.inl h)
       .exact h
       have:=(Pr.obj j o' h1).lt;have h4:=(MA.obj j o' h1).lt;have Aq:m.σ j=m.w.heap.size:=h3;have Iw:m.σ j<m.w.heap.size:=h4;omega
      intro j v hj;have bQ:W.cell? ⟨m.w.heap.size,0+j,none⟩=_:=DG Mu;show W.cell? ⟨m.w.heap.size,0+j,none⟩=some v;rw[bQ,iD];have mF:=(aS.1 hj).1;rw[<- Array.getElem?_toList,Array.toList_append,Array.toList_append,pS (by simpa using mF)];exact hj
   cases hv
  cases hv
 cases hv
end
end Go.Abs
