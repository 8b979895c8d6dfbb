/-
  An abstract machine for the code of the model.
-/
import Derived.KernelRfl
import Derived.Calls
import Derived.WalkKit
set_option linter.all false
namespace Go.Abs
theorem aa{p:Prop}(h:p:=by omega):p:=h
theorem ae{p:Prop}(h:p:=by decide):p:=h
theorem af{p:Prop}(h:p:=by simp):p:=h
theorem ah{p:Prop}(h:p:=by kernel_rfl):p:=h
theorem aU:type_of% @List.mem_of_getElem?.{0}:=@List.mem_of_getElem?.{0}
theorem aW:type_of% @List.getElem?_eq_some_iff.{0}:=@List.getElem?_eq_some_iff.{0}
theorem bG:type_of% @Nat.zero_le:=@Nat.zero_le
theorem bN:type_of% @Nat.le_refl:=@Nat.le_refl
theorem cM:type_of% @List.length_map.{0,0}:=@List.length_map.{0,0}
theorem cP:type_of% @List.mem_cons.{0}:=@List.mem_cons.{0}
theorem cX:type_of% @Bool.and_eq_true:=@Bool.and_eq_true
theorem dh:type_of% @List.length_cons.{0}:=@List.length_cons.{0}
theorem dq:type_of% @List.getD_eq_getElem?_getD.{0}:=@List.getD_eq_getElem?_getD.{0}
theorem dI:type_of% @Option.map_eq_some_iff.{0,0}:=@Option.map_eq_some_iff.{0,0}
theorem dL:type_of% @Bool.false_eq_true:=@Bool.false_eq_true
theorem dQ:type_of% @List.mem_map.{0,0}:=@List.mem_map.{0,0}
theorem dS:type_of% @List.map_cons.{0,0}:=@List.map_cons.{0,0}
theorem eH:type_of% @Nat.mod_lt:=@Nat.mod_lt
theorem ff:type_of% @List.length_nil.{0}:=@List.length_nil.{0}
theorem fg:type_of% @List.mem_append.{0}:=@List.mem_append.{0}
theorem fI:type_of% @Option.some.injEq.{0}:=@Option.some.injEq.{0}
theorem fZ:type_of% @List.getElem?_map.{0,0}:=@List.getElem?_map.{0,0}
theorem gh:type_of% @List.length_append.{0}:=@List.length_append.{0}
theorem gj:type_of% @List.mem_range:=@List.mem_range
theorem gD:type_of% @List.nil_append.{0}:=@List.nil_append.{0}
theorem gR:type_of% @List.take_of_length_le.{0}:=@List.take_of_length_le.{0}
theorem iu:type_of% @List.length_take.{0}:=@List.length_take.{0}
theorem iv:type_of% @Nat.le_of_ble_eq_true:=@Nat.le_of_ble_eq_true
theorem iF:type_of% @Nat.add_mul:=@Nat.add_mul
theorem iX:type_of% @List.length_pos_iff.{0}:=@List.length_pos_iff.{0}
theorem jz:type_of% @List.not_mem_nil.{0}:=@List.not_mem_nil.{0}
theorem jA:type_of% @Nat.mod_eq_of_lt:=@Nat.mod_eq_of_lt
theorem jZ:type_of% @List.getElem?_of_mem.{0}:=@List.getElem?_of_mem.{0}
theorem ko:type_of% @List.all_eq_true.{0}:=@List.all_eq_true.{0}
theorem kB:type_of% @Prod.mk.injEq.{0,0}:=@Prod.mk.injEq.{0,0}
theorem kN:type_of% @List.append_nil.{0}:=@List.append_nil.{0}
theorem kO:type_of% @List.length_drop.{0}:=@List.length_drop.{0}
theorem kQ:type_of% @List.map_nil.{0,0}:=@List.map_nil.{0,0}
theorem kS:type_of% @List.take_length.{0}:=@List.take_length.{0}
theorem kU:type_of% @Nat.zero_add:=@Nat.zero_add
theorem ll:type_of% @List.map_append.{0,0}:=@List.map_append.{0,0}
theorem l8:type_of% @List.flatten_cons.{0}:=@List.flatten_cons.{0}
theorem mB:type_of% @List.all_cons.{0}:=@List.all_cons.{0}
theorem mD:type_of% @Nat.le_trans:=@Nat.le_trans
theorem mW:type_of% @List.getElem?_take.{0}:=@List.getElem?_take.{0}
theorem mX:type_of% @List.take_append_drop.{0}:=@List.take_append_drop.{0}
theorem mY:type_of% @Nat.lt_succ_iff_lt_or_eq:=@Nat.lt_succ_iff_lt_or_eq
theorem mZ:type_of% @Nat.mul_le_mul_right:=@Nat.mul_le_mul_right
theorem nc:type_of% @Option.getD_some.{0}:=@Option.getD_some.{0}
theorem ng:type_of% @Option.map_some.{0,0}:=@Option.map_some.{0,0}
theorem pL:type_of% @Bool.not_eq_true':=@Bool.not_eq_true'
theorem pM:type_of% @List.all_nil.{0}:=@List.all_nil.{0}
theorem pN:type_of% @List.getElem?_set.{0}:=@List.getElem?_set.{0}
theorem pO:type_of% @List.mem_singleton.{0}:=@List.mem_singleton.{0}
theorem pP:type_of% @List.take_add_one.{0}:=@List.take_add_one.{0}
theorem qW:type_of% @List.length_reverse.{0}:=@List.length_reverse.{0}
theorem qX:type_of% @List.length_set.{0}:=@List.length_set.{0}
theorem qY:type_of% @Nat.not_lt_zero:=@Nat.not_lt_zero
theorem qZ:type_of% @Option.some.inj.{0}:=@Option.some.inj.{0}
theorem r4:type_of% @List.getElem?_range:=@List.getElem?_range
theorem r5:type_of% @List.getElem_cons_drop.{0}:=@List.getElem_cons_drop.{0}
theorem r6:type_of% @List.nodup_cons.{0}:=@List.nodup_cons.{0}
theorem sZ:type_of% @Int.eq_ofNat_of_zero_le:=@Int.eq_ofNat_of_zero_le
theorem s0:type_of% @List.getElem?_eq_getElem.{0}:=@List.getElem?_eq_getElem.{0}
theorem tY:type_of% @Int.toNat_natCast:=@Int.toNat_natCast
theorem tZ:type_of% @List.getElem?_eq_none.{0}:=@List.getElem?_eq_none.{0}
theorem ua:type_of% @List.pairwise_cons.{0}:=@List.pairwise_cons.{0}
theorem uM:type_of% @List.map_map.{0,0,0}:=@List.map_map.{0,0,0}
theorem vF:type_of% @List.countP_append.{0}:=@List.countP_append.{0}
theorem vG:type_of% @List.mem_filter.{0}:=@List.mem_filter.{0}
theorem vH:type_of% @Nat.eq_of_beq_eq_true:=@Nat.eq_of_beq_eq_true
theorem wN:type_of% @Bool.and_self:=@Bool.and_self
theorem wO:type_of% @Bool.and_true:=@Bool.and_true
theorem wP:type_of% @List.countP_cons.{0}:=@List.countP_cons.{0}
theorem wQ:type_of% @List.ext_getElem.{0}:=@List.ext_getElem.{0}
theorem wR:type_of% @List.mem_of_mem_drop.{0}:=@List.mem_of_mem_drop.{0}
theorem wS:type_of% @List.nodup_nil.{0}:=@List.nodup_nil.{0}
theorem wT:type_of% @List.range_succ:=@List.range_succ
theorem yf:type_of% @List.cons_append.{0}:=@List.cons_append.{0}
theorem yg:type_of% @List.mem_of_mem_take.{0}:=@List.mem_of_mem_take.{0}
theorem yh:type_of% @List.pairwise_map.{0,0}:=@List.pairwise_map.{0,0}
theorem yj:type_of% @Nat.add_mod_right:=@Nat.add_mod_right
theorem yl:type_of% @Nat.add_zero:=@Nat.add_zero
theorem ym:type_of% @Nat.mod_two_eq_zero_or_one:=@Nat.mod_two_eq_zero_or_one
theorem zE:type_of% @List.append_assoc.{0}:=@List.append_assoc.{0}
theorem zH:type_of% @Nat.min_eq_left:=@Nat.min_eq_left
theorem zI:type_of% @Nat.zero_mul:=@Nat.zero_mul
theorem Bq:type_of% @Bool.not_true:=@Bool.not_true
theorem Br:type_of% @Bool.or_eq_true:=@Bool.or_eq_true
theorem Bs:type_of% @List.countP_pos_iff.{0}:=@List.countP_pos_iff.{0}
theorem Bt:type_of% @List.getElem?_append_right.{0}:=@List.getElem?_append_right.{0}
theorem Bu:type_of% @List.getElem?_drop.{0}:=@List.getElem?_drop.{0}
theorem Bv:type_of% @List.mem_cons_of_mem.{0}:=@List.mem_cons_of_mem.{0}
theorem Da:type_of% @Bool.false_or:=@Bool.false_or
theorem Db:type_of% @Bool.true_and:=@Bool.true_and
theorem Dc:type_of% @List.countP_map.{0,0}:=@List.countP_map.{0,0}
theorem Dd:type_of% @List.foldl_cons.{0,0}:=@List.foldl_cons.{0,0}
theorem De:type_of% @List.getElem?_append_left.{0}:=@List.getElem?_append_left.{0}
theorem Df:type_of% @List.getElem_map.{0,0}:=@List.getElem_map.{0,0}
theorem Dg:type_of% @List.length_range:=@List.length_range
theorem Dh:type_of% @List.map_congr_left.{0,0}:=@List.map_congr_left.{0,0}
theorem Di:type_of% @Nat.lt_of_lt_of_le:=@Nat.lt_of_lt_of_le
theorem Dj:type_of% @Nat.mod_self:=@Nat.mod_self
theorem EZ:type_of% @List.flatten_append.{0}:=@List.flatten_append.{0}
theorem E0:type_of% @List.length_eq_zero_iff.{0}:=@List.length_eq_zero_iff.{0}
theorem E6:type_of% @List.nodup_range:=@List.nodup_range
theorem Fa:type_of% @Nat.le_max_left:=@Nat.le_max_left
theorem Fb:type_of% @Nat.le_of_eq:=@Nat.le_of_eq
theorem G0:type_of% @List.any_eq_false.{0}:=@List.any_eq_false.{0}
theorem G9:type_of% @List.cons.injEq.{0}:=@List.cons.injEq.{0}
theorem Ha:type_of% @List.find?_eq_none.{0}:=@List.find?_eq_none.{0}
theorem Hb:type_of% @List.flatten_nil.{0}:=@List.flatten_nil.{0}
theorem Hc:type_of% @List.mem_append_right.{0}:=@List.mem_append_right.{0}
theorem Hd:type_of% @List.mem_flatten.{0}:=@List.mem_flatten.{0}
theorem He:type_of% @List.mem_of_find?_eq_some.{0}:=@List.mem_of_find?_eq_some.{0}
theorem Hf:type_of% @List.nodup_append.{0}:=@List.nodup_append.{0}
theorem Hg:type_of% @List.take_take.{0}:=@List.take_take.{0}
theorem Hh:type_of% @Nat.add_assoc:=@Nat.add_assoc
theorem Hi:type_of% @Nat.le_max_right:=@Nat.le_max_right
theorem JZ:type_of% @List.countP_eq_zero.{0}:=@List.countP_eq_zero.{0}
theorem Ka:type_of% @List.drop_length.{0}:=@List.drop_length.{0}
theorem Kb:type_of% @List.ext_getElem?.{0}:=@List.ext_getElem?.{0}
theorem Kc:type_of% @List.find?_some.{0}:=@List.find?_some.{0}
theorem Kd:type_of% @List.foldl_append.{0,0}:=@List.foldl_append.{0,0}
theorem Ke:type_of% @List.getElem_range:=@List.getElem_range
theorem Kf:type_of% @List.getElem_set.{0}:=@List.getElem_set.{0}
theorem Nt:type_of% @List.countP_le_length.{0}:=@List.countP_le_length.{0}
theorem Nu:type_of% @List.getElem?_reverse.{0}:=@List.getElem?_reverse.{0}
theorem Nv:type_of% @List.idxOf_lt_length_iff.{0}:=@List.idxOf_lt_length_iff.{0}
theorem Nw:type_of% @List.length_pos_of_mem.{0}:=@List.length_pos_of_mem.{0}
theorem Nx:type_of% @List.mem_cons_self.{0}:=@List.mem_cons_self.{0}
theorem Ny:type_of% @List.pairwise_append.{0}:=@List.pairwise_append.{0}
theorem QL:type_of% @Bool.or_eq_false_iff:=@Bool.or_eq_false_iff
theorem QM:type_of% @List.eq_of_mem_replicate.{0}:=@List.eq_of_mem_replicate.{0}
theorem QN:type_of% @List.pairwise_iff_getElem.{0}:=@List.pairwise_iff_getElem.{0}
theorem QO:type_of% @List.take_append_of_le_length.{0}:=@List.take_append_of_le_length.{0}
theorem QP:type_of% @Nat.le_mul_of_pos_right:=@Nat.le_mul_of_pos_right
theorem QQ:type_of% @Option.bind_eq_some_iff.{0,0}:=@Option.bind_eq_some_iff.{0,0}
inductive PV where
 |bool (b:Bool)
 |int (k:IntKind) (n:Int)
 |str (s:ByteArray)
 |tQ|nils|qp|jx|nili|ifc|zs
 |box (cs:List PV)
 |sl (es:List (List PV))
 |mp (ag:Bool) (es:List (PV×List PV))
 |fn (f:Nat) (first cap:List PV)
 deriving Inhabited
inductive C where
 |p (v:PV)
 |aY (id g off:Nat)
 |dC (id g i off:Nat)
 |hsl (id g sz off len:Nat)
 |j8 (id g:Nat)
 |hfn (f:Nat) (first cap:List C)
 deriving Inhabited
inductive V where
 |undef
 |one (c:C)
 |agg (cs:List C)
 |tup (vs:List V)
 deriving Inhabited
inductive Ob where
 |var (cs:List C)
 |arr (ty sz:Nat) (es:List (List PV))
 |iN (ty sz:Nat) (es:List (List C))
 |map (ag:Bool) (es:List (PV×List PV))
 |fvar (cs:List PV)
 |oN (ty sz:Nat) (es:List (List PV))
 |fmap (ag:Bool) (es:List (PV×List PV))
 deriving Inhabited
abbrev Env:=Nat->V
abbrev aA:=Nat->Nat×Option Ob
def dK{α:Type}(f:Nat->α)(a:Nat)(x:α):Nat->α:=fun i=>if i=a then x else f i
theorem aN{α:Type}(f:Nat->α)(a b:Nat)(x:α):dK f a x b=if b=a then x else f b:=rfl
inductive aR where
 |t (n:Nat)
 |i (n:Int)
 |b (x:Bool)
 |k (v:V)
inductive uN where
 |bool|ptr|slc|map|fnc|ifc
 |str (ks:List Bool)
inductive lB where
 |jU (x:aR)
 |pick (c a b:aR)
 |alloc (site:Nat) (z:List PV)
 |box (site:Nat) (x:aR)
 |build (z:List PV) (parts:List (Nat×Nat×aR))
 |fi (site ty sz:Nat) (parts:List aR)
 |load (k:Option Nat) (x:aR)
 |store (n:Nat) (a x:aR)
 |xT (x:aR)
 |bin (op:BinOp) (x y:aR)
 |eqc (k:uN) (neg:Bool) (x y:aR)
 |un (op:UnOp) (x:aR)
 |conv (k:IntKind) (x:aR)
 |bstr (x:aR)
 |mkfn (f:Nat) (first cap:List aR)
 |mkmap (site:Nat) (ag:Bool)
 |rS (site ty sz bytes:Nat) (z:List PV) (len cap:aR)
 |slice (sz:Nat) (x:aR) (lo hi:Option aR)
 |sslice (x:aR) (lo hi:Option aR)
 |xf (off:Nat) (x:aR)
 |ql (sz:Nat) (x i:aR)
 |ud (len sz:Nat) (x i:aR)
 |fld (off:Nat) (k:Option Nat) (x:aR)
 |aidx (len sz:Nat) (k:Option Nat) (x i:aR)
 |sidx (x i:aR)
 |lookup (kd:Nat) (z:List PV) (agg ok:Bool) (x k:aR)
 |mupd (kd:Nat) (ag:Bool) (m k v:aR)
 |bad
 |extract (x:aR) (i:Nat)
 |call (site:Nat) (f:aR) (args:List aR)
 |slen (x:aR)
 |CG (x:aR)
 |mlen (x:aR)
 |append (site ty sz bytes:Nat) (s x:aR)
 |max (x y:aR)
 |min (x y:aR)
 |clear (z:List PV) (x:aR)
structure aO where
 dst:Option Nat
 op:lB
 guard:Option (Nat×Bool)
 anc:Nat
inductive aK where
 |skip
 |region (draw:Bool) (ops:List aO)
 |seq (a b:aK)
 |cond (x:aR) (a b:aK)
 |block (id:Nat) (c:aK)
 |loop (c:aK)
 |exit (id:Nat)
 |ret
 |bad
structure aX where
 ntmps:Nat
 results:List (Nat×Option (Option Nat))
 body:aK
def ev (ak:Env):aR->V
 | .t n=>ak n
 | .i n=>.one (.p (.int .i64 n))
 | .b x=>.one (.p (.bool x))
 | .k v=>v
abbrev eN:=Nat×(Nat×Option Ob)
def app:List eN->aA->aA
 |[],b=>b
 |(i,o)::r,b=>app r (dK b i o)
def PV.norm:PV->PV
 | .nils=>.sl []
 | .zs=>.sl []
 |v=>v
def toP:C->Option PV
 | .p v=>some v.norm
 |_=>none
def Bi:List C->Option (List PV)
 |[]=>some []
 |c::r=>match toP c,Bi r with
  |some v,some vs=>some (v::vs)
  |_,_=>none
def rq:V->Option (List C)
 | .one c=>some [c]
 | .agg cs=>some cs
 |_=>none
def collect{α β:Type}(f:α->Option (β×List Nat)):List α->Option (List β×List Nat)
 |[]=>some ([],[])
 |a::r=>match f a,collect f r with
  |some (b,x),some (bs,y)=>some (b::bs,x++y)
  |_,_=>none
def snap(aj:aA):Nat->C->Option (PV×List Nat)
 |0,_=>none
 |n+1,c=>match c with
  | .p v=>some (v.norm,[])
  | .aY id g off=>match aj id with
   |(g',some (.var cs))=>if g'=g then
     match collect (snap aj n) cs with
     |some (ps,r)=>some (.box (ps.drop off),id::r)
     |none=>none
    else none
   |(g',some (.fvar ps))=>if g'=g then some (.box (ps.drop off),[id]) else none
   |_=>none
  | .dC id g i off=>match aj id with
   |(g',some (.arr _ _ es))=>if g'=g then (es[i]?).map fun e=>(.box (e.drop off),[id]) else none
   |(g',some (.oN _ _ es))=>if g'=g then (es[i]?).map fun e=>(.box (e.drop off),[id]) else none
   |_=>none
  | .hsl id g z off len=>match aj id with
   |(g',some (.arr _ _ es))=>if g'=g/\off+len<=es.length then some (.sl ((es.drop off).take len),[id]) else none
   |(g',some (.oN _ _ es))=>if g'=g/\off+len<=es.length then some (.sl ((es.drop off).take len),[id]) else none
   |(g',some (.iN _ _ es))=>if g'=g/\off+len<=es.length then
     match collect (collect (snap aj n)) ((es.drop off).take len) with
     |some (ps,r)=>some (.sl ps,id::r)
     |none=>none
    else none
   |_=>none
  | .j8 id g=>match aj id with
   |(g',some (.map ag es))=>if g'=g then some (.mp ag es,[id]) else none
   |(g',some (.fmap ag es))=>if g'=g then some (.mp ag es,[id]) else none
   |_=>none
  | .hfn f a b=>match collect (snap aj n) a,collect (snap aj n) b with
   |some (x,r),some (y,s)=>some (.fn f x y,r++s)
   |_,_=>none
def fH:Nat:=6
def nI(aj:aA):V->Option (V×List Nat)
 | .one c=>(snap aj fH c).map fun(v,r)=>(.one (.p v),r)
 | .agg cs=>(collect (snap aj fH) cs).map fun(vs,r)=>(.agg (vs.map .p),r)
 |_=>none
def xj(aj:aA)(all:List Nat)(id:Nat):Option (List eN):=
 match aj id with
 |(g,some (.var cs))=>match collect (snap aj fH) cs with
  |some (ps,r)=>if r.all all.contains then some [(id,(g,some (.fvar ps)))] else none
  |none=>none
 |(g,some (.arr ty sz es))=>some [(id,(g,some (.oN ty sz es)))]
 |(g,some (.iN ty sz es))=>match collect (collect (snap aj fH)) es with
  |some (ps,r)=>if r.all all.contains then some [(id,(g,some (.oN ty sz ps)))] else none
  |none=>none
 |(g,some (.map ag es))=>some [(id,(g,some (.fmap ag es)))]
 |(_,none)=>none
 |_=>some []
def uk(aj:aA)(all:List Nat):List Nat->Option (List eN)
 |[]=>some []
 |i::r=>match xj aj all i,uk aj all r with
  |some a,some b=>some (a++b)
  |_,_=>none
def rA(aj:aA)(ids:List Nat):Option (List eN):=uk aj ids ids
inductive RC where
 |p (v:PV)
 |own (ty sz:Nat) (es:List (List PV))
 deriving Inhabited
inductive RV where
 |one (c:RC)
 |agg (cs:List RC)
 |tup (vs:List RV)
 deriving Inhabited
def RC.pure:RC->RC
 | .p v=>.p v
 | .own _ _ es=>.p (.sl es)
def RV.GJ:RV->RV
 | .one c=>.one c.pure
 | .agg cs=>.agg (cs.map RC.pure)
 | .tup vs=>.tup vs
def RV.pure:RV->RV
 | .tup vs=>.tup (vs.map RV.GJ)
 |v=>v.GJ
def RV.gK(b:Bool)(r:RV):RV:=match b with
 |true=>r.pure
 |false=>r
def PV.scalar:PV->Bool
 | .bool _| .int _ _| .str _| .tQ| .nils| .qp| .jx| .nili| .ifc| .zs=>true
 |_=>false
def RC.alone:RC->Bool
 | .p v=>v.scalar
 | .own _ _ es=>es.all fun e=>e.all PV.scalar
def ke(aj:aA)(c:C):Option (RC×List Nat×List Nat):=
 match c with
 | .p v=>some (.p v,[],[])
 | .hsl id g z 0 len=>match aj id with
  |(g',some (.arr ty sz es))=>if g'=g/\len<=es.length then some (.own ty sz (es.take len),[id],[]) else none
  |_=>(snap aj fH c).map fun(v,r)=>(.p v,[],r)
 |_=>(snap aj fH c).map fun(v,r)=>(.p v,[],r)
def mT(aj:aA):List C->Option (List RC×List Nat×List Nat)
 |[]=>some ([],[],[])
 |c::r=>match ke aj c,mT aj r with
  |some (x,o,q),some (xs,os,qs)=>some (x::xs,o++os,q++qs)
  |_,_=>none
def nT:V->Option (List C)
 | .one c=>some [c]
 | .agg cs=>some cs
 |_=>none
def uX:List V->Option (List C)
 |[]=>some []
 |v::r=>match nT v,uX r with
  |some a,some b=>some (a++b)
  |_,_=>none
def tA:V->Option (List C)
 | .tup vs=>uX vs
 |v=>nT v
def sX:V->List RC->RV×List RC
 | .one _,r::rs=>(.one r,rs)
 | .agg cs,rs=>(.agg (rs.take cs.length),rs.drop cs.length)
 |_,rs=>(.agg [],rs)
def A9:List V->List RC->List RV
 |[],_=>[]
 |v::r,rs=>(sX v rs).1::A9 r (sX v rs).2
def vv:V->List RC->RV
 | .tup vs,rs=>.tup (A9 vs rs)
 |v,rs=>(sX v rs).1
def apart:List Nat->List Nat->Bool
 |[],_=>true
 |i::r,q=> !r.contains i&& !q.contains i&&apart r q
def iU(aj:aA)(v:V):Option RV:=
 match tA v with
 |some cs=>match mT aj cs with
  |some (x,o,q)=>if apart o q then some (vv v x) else none
  |none=>none
 |none=>none
def cH(aj:aA)(site:Nat):RC->C×List eN
 | .p v=>(.p v,[])
 | .own ty sz es=>(.hsl site ((aj site).1+1) sz 0 es.length,[(site,((aj site).1+1,some (.arr ty sz es)))])
def iT(aj:aA)(site:Nat):List RC->List C×List eN
 |[]=>([],[])
 |c::r=>((cH aj site c).1::(iT aj (site+1) r).1,(cH aj site c).2++(iT aj (site+1) r).2)
def ik:RV->List RC
 | .one c=>[c]
 | .agg cs=>cs
 | .tup _=>[]
def mf:List RV->List RC
 |[]=>[]
 |v::r=>ik v++mf r
def gG:RV->List RC
 | .tup vs=>mf vs
 |v=>ik v
def l7:RV->List C->V×List C
 | .one _,c::cs=>(.one c,cs)
 | .agg rs,cs=>(.agg (cs.take rs.length),cs.drop rs.length)
 |_,cs=>(.undef,cs)
def qT:List RV->List C->List V
 |[],_=>[]
 |v::r,cs=>(l7 v cs).1::qT r (l7 v cs).2
def qt:RV->List C->V
 | .tup vs,cs=>.tup (qT vs cs)
 |v,cs=>(l7 v cs).1
def RV.alone(r:RV):Bool:=(gG r).all RC.alone
def jl(aj:aA)(site:Nat)(r:RV):V×List eN:=(qt r (iT aj site (gG r)).1,(iT aj site (gG r)).2)
inductive ft where
 |fail
 |done (v:V) (u:List eN) (rd:List Nat)
 |pc (f:Nat) (args:List V) (rd:List Nat) (site:Nat)
 |sc (f:Nat) (args:List V)
def A7(aj:aA):V->Option (List C×List Nat)
 | .one (.p (.box cs))=>some (cs.map .p,[])
 | .one (.aY id g off)=>match aj id with
  |(g',some (.var cs))=>if g'=g then some (cs.drop off,[id]) else none
  |(g',some (.fvar cs))=>if g'=g then some ((cs.drop off).map .p,[id]) else none
  |_=>none
 | .one (.dC id g i off)=>match aj id with
  |(g',some (.arr _ _ es))=>if g'=g then (es[i]?).map fun e=>((e.drop off).map .p,[id]) else none
  |(g',some (.oN _ _ es))=>if g'=g then (es[i]?).map fun e=>((e.drop off).map .p,[id]) else none
  |(g',some (.iN _ _ es))=>if g'=g then (es[i]?).map fun e=>(e.drop off,[id]) else none
  |_=>none
 |_=>none
def pK(k:Option Nat)(cs:List C):Option V:=
 match k with
 |none=>match cs with
  |c::_=>some (.one c)
  |[]=>none
 |some n=>if n<=cs.length then some (.agg (cs.take n)) else none
def eX{α:Type}(cs:List α)(off:Nat)(xs:List α):List α:=cs.take off++xs++cs.drop (off+xs.length)
def zD(aj:aA)(a:V)(n:Nat)(xs:List C):ft:=
 if xs.length≠n then .fail else
 match a with
 | .one (.aY id g off)=>match aj id with
  |(g',some (.var cs))=>if g'=g/\off+n<=cs.length then .done .undef [(id,(g,some (.var (eX cs off xs))))] [id] else .fail
  |_=>.fail
 | .one (.dC id g i off)=>match aj id with
  |(g',some (.arr ty sz es))=>match es[i]?,Bi xs with
   |some e,some ps=>if g'=g/\off+n<=e.length then .done .undef [(id,(g,some (.arr ty sz (es.set i (eX e off ps)))))] [id] else .fail
   |_,_=>.fail
  |_=>.fail
 |_=>.fail
def fF(aj:aA):V->Option (List (List PV)×List Nat×List Nat)
 | .one (.p .nils)=>some ([],[],[])
 | .one (.p (.sl es))=>some (es,[],[])
 | .one (.hsl id g z off len)=>match aj id with
  |(g',some (.arr _ _ es))=>if g'=g/\off+len<=es.length then some ((es.drop off).take len,[id],[]) else none
  |(g',some (.oN _ _ es))=>if g'=g/\off+len<=es.length then some ((es.drop off).take len,[id],[]) else none
  |(g',some (.iN _ _ es))=>if g'=g/\off+len<=es.length then
    match collect (collect (snap aj fH)) ((es.drop off).take len) with
    |some (ps,r)=>some (ps,[id],r)
    |none=>none
   else none
  |_=>if len=0 then some ([],[id],[]) else none
 |_=>none
def ie(sz:Nat)(es:List (List PV)):Bool:=es.all fun e=>e.length==sz
def mz:V->Option Nat
 | .one (.hsl _ _ z _ _)=>some z
 |_=>none
def room:Nat:=140737488355328
def fQ(aj:aA)(site ty sz bytes:Nat)(s x:V):ft:=
 match fF aj x with
 |none=>.fail
 |some (new,rd,fr)=>
  if ¬(mz x=some sz\/ie sz new=true) then .fail else
  match rA aj fr with
  |none=>.fail
  |some fu=>
   match s with
   | .one (.p .nils)=>
    if new.length=0 then .done (.one (.p .nils)) fu (rd++fr) else
    if new.length*bytes<=room then
     .done (.one (.hsl site ((aj site).1+1) sz 0 new.length)) (fu++[(site,((aj site).1+1,some (.arr ty sz new)))]) (site::rd++fr)
    else .fail
   | .one (.p .zs)=>
    if new.length=0 then .fail else
    if new.length*bytes<=room then
     .done (.one (.hsl site ((aj site).1+1) sz 0 new.length)) (fu++[(site,((aj site).1+1,some (.arr ty sz new)))]) (site::rd++fr)
    else .fail
   | .one (.hsl id g z 0 len)=>match aj id with
    |(g',some (.arr qV dO es))=>
     if g'=g/\qV=ty/\dO=sz/\len<=es.length/\(len+new.length)*bytes<=room/\fr.contains id=false then
      .done (.one (.hsl site ((aj site).1+1) sz 0 (len+new.length)))
       (fu++[(id,(g,none)),(site,((aj site).1+1,some (.arr ty sz (es.take len++new))))]) (site::id::rd++fr)
     else .fail
    |_=>.fail
   |_=>.fail
def oI:V->Option Nat
 | .one (.p (.int _ n))=>if 0<=n then some n.toNat else none
 |_=>none
def rm(ak:Env)(d:Nat):Option aR->Option Nat
 |none=>some d
 |some a=>oI (ev ak a)
def CO(x:V)(sz lo hi:Nat):ft:=
 if ¬lo<=hi then .fail else
 match x with
 | .one (.p .nils)=>if hi=0 then .done (.one (.p .nils)) [] [] else .fail
 | .one (.p (.sl es))=>if hi<=es.length/\ie sz es=true then .done (.one (.p (.sl ((es.drop lo).take (hi-lo))))) [] [] else .fail
 | .one (.hsl id g z off len)=>if hi<=len/\z=sz then .done (.one (.hsl id g z (off+lo) (hi-lo))) [] [] else .fail
 |_=>.fail
def xR:V->Option Nat
 | .one (.p .nils)=>some 0
 | .one (.p (.sl es))=>some es.length
 | .one (.hsl _ _ _ _ len)=>some len
 |_=>none
def zj(aj:aA):V->Option (Nat×List Nat)
 | .one (.p .qp)=>some (0,[])
 | .one (.p (.mp _ es))=>some (es.length,[])
 | .one (.j8 id g)=>match aj id with
  |(g',some (.map _ es))=>if g'=g then some (es.length,[id]) else none
  |(g',some (.fmap _ es))=>if g'=g then some (es.length,[id]) else none
  |_=>none
 |_=>none
def mapOf(aj:aA)(ag:Bool):V->Option (List (PV×List PV)×List Nat)
 | .one (.p .qp)=>some ([],[])
 | .one (.p (.mp rl es))=>if rl=ag then some (es,[]) else none
 | .one (.j8 id g)=>match aj id with
  |(g',some (.map rl es))=>if g'=g/\rl=ag then some (es,[id]) else none
  |(g',some (.fmap rl es))=>if g'=g/\rl=ag then some (es,[id]) else none
  |_=>none
 |_=>none
def sameKey:PV->PV->Option Bool
 | .int k a,.int k' b=>if k=k' then some (a==b) else none
 | .str a,.str b=>some (a==b)
 | .bool a,.bool b=>some (a==b)
 |_,_=>none
def iC:PV->Nat
 | .int _ _=>0
 | .str _=>1
 | .bool _=>2
 |_=>3
def mapVal:Bool->List PV->Option V
 |true,cs=>some (.agg (cs.map .p))
 |false,[c]=>some (.one (.p c))
 |false,_=>none
def oO(k:PV):List (PV×List PV)->Nat->Option (Option (Nat×List PV))
 |[],_=>some none
 |(a,v)::r,i=>match sameKey k a with
  |some true=>some (some (i,v))
  |some false=>oO k r (i+1)
  |none=>none
def w8:Bool->V->Option (List C)
 |false,.one c=>some [c]
 |true,.agg cs=>some cs
 |_,_=>none
def ti(op:BinOp)(k:IntKind)(a b:Int):Option PV:=
 match op with
 | .add=>some (.int k (k.wrap (a+b)))
 | .sub=>some (.int k (k.wrap (a-b)))
 | .mul=>some (.int k (k.wrap (a*b)))
 | .quo=>if b=0 then none else some (.int k (k.wrap (a.tdiv b)))
 | .rem=>if b=0 then none else some (.int k (a.tmod b))
 | .eql=>some (.bool (a==b))
 | .neq=>some (.bool (a !=b))
 | .lss=>some (.bool (decide (a<b)))
 | .leq=>some (.bool (decide (a<=b)))
 | .gtr=>some (.bool (decide (b<a)))
 | .geq=>some (.bool (decide (b<=a)))
 | .and=>some (.int k (k.wrap (BitVec.ofInt k.bits a&&& BitVec.ofInt k.bits b).toNat))
 | .shl=>if b<0 then none else some (.int k (k.wrap (a*2 ^ min b.toNat k.bits)))
 | .shr=>if b<0 then none else some (.int k (a.fdiv (2 ^ min b.toNat k.bits)))
 |_=>none
def Hy(op:BinOp)(a b:ByteArray):Option PV:=
 match op with
 | .add=>if a.size+b.size<=9223372036854775807 then some (.str (a++b)) else none
 | .eql=>some (.bool (a.toList==b.toList))
 | .neq=>some (.bool (!(a.toList==b.toList)))
 |_=>none
def qB(op:BinOp):V->V->Option V
 | .one (.p (.int k a)),.one (.p (.int k' b))=>if k=k'\/op=.shl\/op=.shr then (ti op k a b).map fun v=>.one (.p v) else none
 | .one (.p (.str a)),.one (.p (.str b))=>(Hy op a b).map fun v=>.one (.p v)
 |_,_=>none
def tq:Bool->PV->PV->Option Bool
 |true,.int k a,.int k' b=>if k=k' then some (a==b) else none
 |false,.bool a,.bool b=>some (a==b)
 |_,_,_=>none
def ui:List Bool->List C->List C->Option Bool
 |[],[],[]=>some true
 |k::ks,.p a::r,.p b::s=>match tq k a b with
  |some true=>ui ks r s
  |some false=>some false
  |none=>none
 |_,_,_=>none
def Gn:uN->V->Option Bool
 | .ptr,.one (.p .tQ)=>some true
 | .ptr,.one (.p (.box _))=>some false
 | .ptr,.one (.aY _ _ _)=>some false
 | .ptr,.one (.dC _ _ _ _)=>some false
 | .slc,.one (.p .nils)=>some true
 | .slc,.one (.p (.sl (_::_)))=>some false
 | .slc,.one (.hsl _ _ _ _ _)=>some false
 | .map,.one (.p .qp)=>some true
 | .map,.one (.p (.mp _ _))=>some false
 | .map,.one (.j8 _ _)=>some false
 | .fnc,.one (.p .jx)=>some true
 | .fnc,.one (.p (.fn _ _ _))=>some false
 | .fnc,.one (.hfn _ _ _)=>some false
 | .ifc,.one (.p .nili)=>some true
 | .ifc,.one (.p .ifc)=>some false
 |_,_=>none
def BY:uN->V->V->Option Bool
 | .bool,.one (.p (.bool a)),.one (.p (.bool b))=>some (a==b)
 | .str ks,.agg a,.agg b=>ui ks a b
 | .bool,_,_=>none
 | .str _,_,_=>none
 |k,a,b=>if Gn k b=some true then Gn k a else if Gn k a=some true then Gn k b else none
def fill(cs:List C):List (Nat×List C)->List C
 |[]=>cs
 |(off,xs)::r=>fill (eX cs off xs) r
def xU(ak:Env):List (Nat×Nat×aR)->Option (List (Nat×List C))
 |[]=>some []
 |(off,n,a)::r=>match rq (ev ak a),xU ak r with
  |some cs,some q=>if cs.length=n then some ((off,cs)::q) else none
  |_,_=>none
def yJ(ak:Env)(sz:Nat):List aR->Option (List (List C))
 |[]=>some []
 |a::r=>match rq (ev ak a),yJ ak sz r with
  |some cs,some q=>if cs.length=sz then some (cs::q) else none
  |_,_=>none
def Bj:List (List C)->Option (List (List PV))
 |[]=>some []
 |c::r=>match Bi c,Bj r with
  |some v,some vs=>some (v::vs)
  |_,_=>none
def DF(ak:Env)(a:aR):Option (Nat×List C×List C):=
 match ev ak a with
 | .one (.p (.fn f x y))=>some (f,x.map .p,y.map .p)
 | .one (.hfn f x y)=>some (f,x,y)
 |_=>none
def Bf(aj:aA):List V->Option (List V×List Nat):=collect (nI aj)
def bytesOf:List (List PV)->Option (List UInt8)
 |[]=>some []
 |[.int .u8 n]::r=>(bytesOf r).map (UInt8.ofNat n.toNat:: ·)
 |_::_=>none
structure Sys where
 P:Program
 shared:Nat->Bool
 sites:Nat->List Nat
 lone:Nat->Bool
 fns:Nat->Option aX
 prim:Nat->List V->Option (Option RV)
def vr(ak:Env):List aR->Option (List C)
 |[]=>some []
 |a::r=>match ev ak a,vr ak r with
  | .one c,some q=>some (c::q)
  |_,_=>none
def bt(shared:Nat->Bool)(ak:Env)(aj:aA):lB->ft
 | .jU x=>.done (ev ak x) [] []
 | .pick c a b=>match ev ak c with
  | .one (.p (.bool t))=>.done (if t then ev ak a else ev ak b) [] []
  |_=>.fail
 | .alloc s z=>.done (.one (.aY s ((aj s).1+1) 0)) [(s,((aj s).1+1,some (.var (z.map .p))))] [s]
 | .box s x=>match rq (ev ak x) with
  |some cs=>.done (.one (.aY s ((aj s).1+1) 0)) [(s,((aj s).1+1,some (.var cs)))] [s]
  |none=>.fail
 | .build z ps=>match xU ak ps with
  |some q=>.done (.agg (fill (z.map .p) q)) [] []
  |none=>.fail
 | .fi s ty sz ps=>match yJ ak sz ps with
  |some es=>match Bj es with
   |some qs=>.done (.one (.hsl s ((aj s).1+1) sz 0 es.length)) [(s,((aj s).1+1,some (.arr ty sz qs)))] [s]
   |none=>.done (.one (.hsl s ((aj s).1+1) sz 0 es.length)) [(s,((aj s).1+1,some (.iN ty sz es)))] [s]
  |none=>.fail
 | .load k x=>match A7 aj (ev ak x) with
  |some (cs,r)=>match pK k cs with
   |some v=>.done v [] r
   |none=>.fail
  |none=>.fail
 | .store n a x=>match rq (ev ak x) with
  |some xs=>zD aj (ev ak a) n xs
  |none=>.fail
 | .xT x=>match ev ak x with
  | .one (.aY id g o)=>.done (.one (.aY id g o)) [] []
  | .one (.dC id g i o)=>.done (.one (.dC id g i o)) [] []
  | .one (.p (.box cs))=>.done (.one (.p (.box cs))) [] []
  | .one (.hfn f a b)=>.done (.one (.hfn f a b)) [] []
  | .one (.p (.fn f a b))=>.done (.one (.p (.fn f a b))) [] []
  |_=>.fail
 | .bin op x y=>match qB op (ev ak x) (ev ak y) with
  |some v=>.done v [] []
  |none=>.fail
 | .eqc k neg x y=>match BY k (ev ak x) (ev ak y) with
  |some b=>.done (.one (.p (.bool (if neg then !b else b)))) [] []
  |none=>.fail
 | .un op x=>match op,ev ak x with
  | .not,.one (.p (.bool b))=>.done (.one (.p (.bool (!b)))) [] []
  | .neg,.one (.p (.int k n))=>.done (.one (.p (.int k (k.wrap (0-n))))) [] []
  |_,_=>.fail
 | .conv k x=>match ev ak x with
  | .one (.p (.int _ n))=>.done (.one (.p (.int k (k.wrap n)))) [] []
  |_=>.fail
 | .bstr x=>match fF aj (ev ak x) with
  |some (es,r,[])=>match bytesOf es with
   |some bs=>.done (.one (.p (.str ⟨bs.toArray⟩))) [] r
   |none=>.fail
  |_=>.fail
 | .mkfn f a b=>match vr ak a,vr ak b with
  |some x,some y=>.done (.one (.hfn f x y)) [] []
  |_,_=>.fail
 | .mkmap s ag=>.done (.one (.j8 s ((aj s).1+1))) [(s,((aj s).1+1,some (.map ag [])))] [s]
 | .rS s ty sz bytes z l c=>match oI (ev ak l),oI (ev ak c) with
  |some n,some m=>if n=m/\n*bytes<=room then
    .done (.one (.hsl s ((aj s).1+1) sz 0 n)) [(s,((aj s).1+1,some (.arr ty sz (List.replicate n z))))] [s]
   else .fail
  |_,_=>.fail
 | .slice sz x lo hi=>match xR (ev ak x) with
  |some n=>match rm ak 0 lo,rm ak n hi with
   |some l,some h=>CO (ev ak x) sz l h
   |_,_=>.fail
  |none=>.fail
 | .sslice x lo hi=>match ev ak x with
  | .one (.p (.str s))=>match rm ak 0 lo,rm ak s.size hi with
   |some l,some h=>if l<=h/\h<=s.size then .done (.one (.p (.str (s.extract l h)))) [] [] else .fail
   |_,_=>.fail
  |_=>.fail
 | .xf off x=>match ev ak x with
  | .one (.aY id g o)=>.done (.one (.aY id g (o+off))) [] []
  | .one (.dC id g i o)=>.done (.one (.dC id g i (o+off))) [] []
  | .one (.p (.box cs))=>.done (.one (.p (.box (cs.drop off)))) [] []
  |_=>.fail
 | .ql sz x i=>match oI (ev ak i),ev ak x with
  |some n,.one (.p (.sl es))=>match es[n]? with
   |some e=>if e.length=sz then .done (.one (.p (.box e))) [] [] else .fail
   |none=>.fail
  |some n,.one (.hsl id g z off len)=>if n<len/\z=sz then .done (.one (.dC id g (off+n) 0)) [] [] else .fail
  |_,_=>.fail
 | .ud len sz x i=>match oI (ev ak i),ev ak x with
  |some n,.one (.aY id g o)=>if n<len then .done (.one (.aY id g (o+n*sz))) [] [] else .fail
  |some n,.one (.dC id g j o)=>if n<len then .done (.one (.dC id g j (o+n*sz))) [] [] else .fail
  |some n,.one (.p (.box cs))=>if n<len then .done (.one (.p (.box (cs.drop (n*sz))))) [] [] else .fail
  |_,_=>.fail
 | .fld off k x=>match ev ak x with
  | .agg cs=>match pK k (cs.drop off) with
   |some v=>.done v [] []
   |none=>.fail
  |_=>.fail
 | .aidx len sz k x i=>match oI (ev ak i),ev ak x with
  |some n,.agg cs=>if n<len then
    match pK k (cs.drop (n*sz)) with
    |some v=>.done v [] []
    |none=>.fail
   else .fail
  |_,_=>.fail
 | .sidx x i=>match oI (ev ak i),ev ak x with
  |some n,.one (.p (.str s))=>match s[n]? with
   |some b=>.done (.one (.p (.int .u8 b.toNat))) [] []
   |none=>.fail
  |_,_=>.fail
 | .lookup kd z agg ok x k=>match mapOf aj agg (ev ak x),ev ak k with
  |some (es,r),.one (.p q)=>if iC q≠kd then .fail else match oO q es 0 with
   |some f=>match mapVal agg ((f.map (·.2)).getD z) with
    |some w=>.done (if ok then .tup [w,.one (.p (.bool f.isSome))] else w) [] r
    |none=>.fail
   |none=>.fail
  |_,_=>.fail
 | .bad=>.fail
 | .mupd kd ag m k v=>match ev ak m,ev ak k,w8 ag (ev ak v) with
  | .one (.j8 id g),.one (.p q),some cs=>match aj id,Bi cs with
   |(g',some (.map rl es)),some ps=>if g'=g/\rl=ag/\iC q=kd then
     match oO q es 0 with
     |some (some (i,_))=>.done .undef [(id,(g,some (.map ag (es.set i (q,ps)))))] [id]
     |some none=>.done .undef [(id,(g,some (.map ag (es++[(q,ps)]))))] [id]
     |none=>.fail
    else .fail
   |_,_=>.fail
  |_,_,_=>.fail
 | .extract x i=>match ev ak x with
  | .tup vs=>match vs[i]? with
   |some v=>.done v [] []
   |none=>.fail
  |_=>.fail
 | .call s f as=>match DF ak f with
  |some (g,a,b)=>
   if shared g then .sc g (a.map .one++as.map (ev ak)++b.map .one)
   else match Bf aj (a.map .one++as.map (ev ak)++b.map .one) with
    |some (vs,r)=>.pc g vs r s
    |none=>.fail
  |none=>.fail
 | .slen x=>match ev ak x with
  | .one (.p (.str s))=>.done (.one (.p (.int .i64 s.size))) [] []
  |_=>.fail
 | .CG x=>match xR (ev ak x) with
  |some n=>.done (.one (.p (.int .i64 n))) [] []
  |none=>.fail
 | .mlen x=>match zj aj (ev ak x) with
  |some (n,r)=>.done (.one (.p (.int .i64 n))) [] r
  |none=>.fail
 | .append s ty sz bytes d x=>fQ aj s ty sz bytes (ev ak d) (ev ak x)
 | .max x y=>match ev ak x,ev ak y with
  | .one (.p (.int k a)),.one (.p (.int _ b))=>.done (.one (.p (.int k (if b>a then b else a)))) [] []
  |_,_=>.fail
 | .min x y=>match ev ak x,ev ak y with
  | .one (.p (.int k a)),.one (.p (.int _ b))=>.done (.one (.p (.int k (if b<a then b else a)))) [] []
  |_,_=>.fail
 | .clear z x=>match ev ak x with
  | .one (.p .nils)=>.done (.tup []) [] []
  | .one (.p (.sl []))=>.done (.tup []) [] []
  | .one (.hsl id g _ off len)=>if len=0 then .done (.tup []) [] [] else match aj id with
   |(g',some (.arr ty sz es))=>if g'=g/\sz=z.length/\off+len<=es.length then .done (.tup []) [(id,(g,some (.arr ty sz (eX es off (List.replicate len z)))))] [id] else .fail
   |_=>.fail
  |_=>.fail
structure bR where
 rd:List Nat
 wr:List Nat
 fs:List Nat
structure Al where
 any:Bool
 ids:List Nat
 fs:List Nat
def Al.all:Al:=⟨true,[],[]⟩
def jo(id:Nat):Nat:=id/64000000
def Al.ok(a:Al)(id:Nat):Bool:=a.any||a.ids.contains id||a.fs.contains (jo id)
def Al.fD(a:Al)(l:List Nat):Bool:=l.all a.ok
def Al.holds(a b:Al):Bool:=a.any||(a.fD b.ids&&b.fs.all a.fs.contains)
structure Ctx where
 shared:Nat->Bool
 sites:Nat->List Nat
 lone:Nat->Bool
 al:Al
def jX(aj:aA):Nat->C->List Nat
 |0,_=>[]
 |n+1,c=>match c with
  | .p _=>[]
  | .aY id _ _=>id::match aj id with
   |(_,some (.var cs))=>(cs.map (jX aj n)).flatten
   |_=>[]
  | .dC id _ _ _=>id::match aj id with
   |(_,some (.iN _ _ es))=>(es.flatten.map (jX aj n)).flatten
   |_=>[]
  | .hsl id _ _ _ _=>id::match aj id with
   |(_,some (.iN _ _ es))=>(es.flatten.map (jX aj n)).flatten
   |_=>[]
  | .j8 id _=>[id]
  | .hfn _ a b=>(a.map (jX aj n)).flatten++(b.map (jX aj n)).flatten
def jm(aj:aA):V->List Nat
 | .one c=>jX aj fH c
 | .agg cs=>(cs.map (jX aj fH)).flatten
 |_=>[]
def allow(sh:Ctx)(f:Nat)(vs:List V)(aj:aA):Al:=⟨false,(vs.map (jm aj)).flatten,sh.sites f⟩
def put(ak:Env)(d:Option Nat)(v:V):Env:=
 match d with
 |some t=>dK ak t v
 |none=>ak
abbrev fO:=Nat->List V->Option RV
abbrev jN:=Nat->List V->Al->aA->Option (V×aA)
def land(aj:aA)(rd:List Nat)(site:Nat)(r:RV):Option (V×List eN):=
 if rd=[]\/r.alone then some (jl aj site r)
 else match rA aj rd with
  |some u=>some ((jl aj site r).1,u++(jl aj site r).2)
  |none=>none
def wanted(ak:Env):Option (Nat×Bool)->Option Bool
 |none=>some true
 |some (t,want)=>match ak t with
  | .one (.p (.bool b))=>some (b==want)
  | .undef=>some false
  |_=>none
def step1(sh:Ctx)(cp:fO)(cs:jN)(o:aO)(ak:Env)(aj:aA):Option (Env×aA×bR):=
 match wanted ak o.guard with
 |none=>none
 |some false=>some (put ak o.dst .undef,aj,⟨[],[],[]⟩)
 |some true=>match bt sh.shared ak aj o.op with
  | .fail=>none
  | .done v u r=>if sh.al.fD (r++u.map (·.1)) then some (put ak o.dst v,app u aj,⟨r,u.map (·.1),[]⟩) else none
  | .pc f vs r s=>match cp f vs with
   |some x=>match land aj r s (x.gK (sh.lone s)) with
    |some (v,u)=>if sh.al.fD (r++u.map (·.1)) then some (put ak o.dst v,app u aj,⟨r++u.map (·.1),u.map (·.1),[]⟩) else none
    |none=>none
   |none=>none
  | .sc f vs=>if sh.al.holds (allow sh f vs aj) then
    match cs f vs (allow sh f vs aj) aj with
    |some (v,ao)=>some (put ak o.dst v,ao,⟨(allow sh f vs aj).ids,(allow sh f vs aj).ids,(allow sh f vs aj).fs⟩)
    |none=>none
   else none
def steps(sh:Ctx)(cp:fO)(cs:jN):List aO->Env->aA->Option (Env×aA×List bR)
 |[],ak,aj=>some (ak,aj,[])
 |o::r,ak,aj=>match step1 sh cp cs o ak aj with
  |some (aC,ao,e)=>match steps sh cp cs r aC ao with
   |some (KX,HA,es)=>some (KX,HA,e::es)
   |none=>none
  |none=>none
def meets(a b:List Nat):Bool:=a.any fun i=>b.contains i
def Gm(fs ids:List Nat):Bool:=ids.any fun i=>fs.contains (jo i)
def Fv(a b:bR):Bool:=meets a.wr b.rd||meets a.wr b.wr||meets a.rd b.wr||meets a.fs b.fs||Gm a.fs (b.rd++b.wr)||Gm b.fs (a.rd++a.wr)
def PC(anc:Nat)(e:bR):Nat->List bR->Bool
 |_,[]=>true
 |j,x::r=>(anc.testBit j|| !Fv x e)&&PC anc e (j+1) r
def sT:List aO->List bR->List bR->Bool
 |o::os,past,e::es=>PC o.anc e 0 past&&sT os (past++[e]) es
 |_,_,_=>true
inductive lS where
 |normal
 |exit (id:Nat)
 |ret
def iter(f:Env->aA->Option (lS×Env×aA)):Nat->Env->aA->Option (lS×Env×aA)
 |0,_,_=>none
 |n+1,ak,aj=>match f ak aj with
  |some (.normal,aC,ao)=>iter f n aC ao
  |r=>r
def exec(sh:Ctx)(cp:fO)(cs:jN)(n:Nat):aK->Env->aA->Option (lS×Env×aA)
 | .skip,ak,aj=>some (.normal,ak,aj)
 | .region d ops,ak,aj=>match steps sh cp cs ops ak aj with
  |some (aC,ao,es)=>if d then (if sT ops [] es then some (.normal,aC,ao) else none) else some (.normal,aC,ao)
  |none=>none
 | .seq a b,ak,aj=>match exec sh cp cs n a ak aj with
  |some (.normal,aC,ao)=>exec sh cp cs n b aC ao
  |r=>r
 | .cond x a b,ak,aj=>match ev ak x with
  | .one (.p (.bool t))=>if t then exec sh cp cs n a ak aj else exec sh cp cs n b ak aj
  |_=>none
 | .block id c,ak,aj=>match exec sh cp cs n c ak aj with
  |some (.exit i,aC,ao)=>if i=id then some (.normal,aC,ao) else some (.exit i,aC,ao)
  |r=>r
 | .loop c,ak,aj=>iter (exec sh cp cs n c) n ak aj
 | .exit id,ak,aj=>some (.exit id,ak,aj)
 | .ret,ak,aj=>some (.ret,ak,aj)
 | .bad,_,_=>none
def rL(args:List V):Env:=fun i=>args.getD i .undef
def PA:V->Option V
 | .tup _=>none
 |v=>some v
def oE(al:Al)(ak:Env)(aj:aA):List (Nat×Option (Option Nat))->Option (List V)
 |[]=>some []
 |(t,none)::r=>match PA (ak t),oE al ak aj r with
  |some v,some q=>some (v::q)
  |_,_=>none
 |(t,some k)::r=>match A7 aj (ak t),oE al ak aj r with
  |some (cs,rd),some q=>if al.fD rd then (pK k cs).map (· ::q) else none
  |_,_=>none
def zC:List V->V
 |[v]=>v
 |vs=>.tup vs
def zo:aA:=fun _=>(0,none)
def qU(sh:Ctx)(cp:fO)(cs:jN)(n:Nat)(fn:aX)(args:List V)(aj:aA):Option (V×aA):=
 match exec sh cp cs n fn.body (rL args) aj with
 |some (.normal,ak,ao)=>(oE sh.al ak ao fn.results).map fun vs=>(zC vs,ao)
 |some (.ret,ak,ao)=>(oE sh.al ak ao fn.results).map fun vs=>(zC vs,ao)
 |_=>none
def EP(sh:Ctx)(cp:fO)(cs:jN)(n:Nat)(fn:aX)(args:List V):Option RV:=
 match qU sh cp cs n fn args zo with
 |some (v,aj)=>iU aj v
 |none=>none
def Sys.ctx(S:Sys)(a:Al):Ctx:=⟨S.shared,S.sites,S.lone,a⟩
mutual
def gn(S:Sys):Nat->fO
 |0,_,_=>none
 |n+1,f,args=>match S.prim f args with
  |some r=>r
  |none=>match S.fns f with
   |some fn=>if args.length<=fn.ntmps then EP (S.ctx .all) (gn S n) (gE S n) n fn args else none
   |none=>none
def gE(S:Sys):Nat->jN
 |0,_,_,_,_=>none
 |n+1,f,args,al,aj=>match S.fns f with
  |some fn=>if args.length<=fn.ntmps then qU (S.ctx al) (gn S n) (gE S n) n fn args aj else none
  |none=>none
end
def aI(S:Sys)(f:Nat)(args:List V)(r:RV):Prop:= ∃n,gn S n f args=some r
def iK(S:Sys)(f:Nat)(args:List V)(al:Al)(aj:aA)(v:V)(ao:aA):Prop:= ∃n,gE S n f args al aj=some (v,ao)
abbrev dA:=lS->Env->aA->Prop
def W (S:Sys)(al:Al)(c:aK)(Q:dA)(ak:Env)(aj:aA):Prop:=∃n e aC ao,exec (S.ctx al) (gn S n) (gE S n) n c ak aj=some (e,aC,ao)/\Q e aC ao
def WO (S:Sys)(al:Al)(ops:List aO)(Q:Env->aA->List bR->Prop)(ak:Env)(aj:aA)(tr:List bR):Prop:=∃n aC ao es,steps (S.ctx al) (gn S n) (gE S n) ops ak aj=some (aC,ao,es)/\Q aC ao (tr++es)
end Go.Abs
namespace Go.Abs
section
variable{m:Nat}
def Ho(a b:fO):Prop:=∀f x r,a f x=some r->b f x=some r
def SLe(a b:jN):Prop:=∀f x l k r,a f x l k=some r->b f x l k=some r
section
variable {sh:Ctx} {cp nj:fO} {cs DB:jN} (hp:Ho cp nj) (hs:SLe cs DB)
include hp hs
theorem aff{o:aO}{ak:Env}{aj:aA}{r:Env×aA×bR}(h:step1 sh cp cs o ak aj=some r):step1 sh nj DB o ak aj=some r:=by
 unfold step1 at h ⊢;cases hw:wanted ak o.guard with
 |none=>simp[hw] at h
 |some b=>
  cases b with
  |false=>simpa [hw] using h
  |true=>
   simp only[hw] at h ⊢;cases cA:bt sh.shared ak aj o.op with
   |fail=>simp[cA] at h
   |done v u rd=>simpa [cA] using h
   |pc f vs rd s=>
    simp only[cA] at h ⊢;cases hc:cp f vs with
    |none=>simp[hc] at h
    |some x=>rw[hp _ _ _ hc];simpa [hc] using h
   |sc f vs=>
    simp only[cA] at h ⊢;split at h
    .rename_i ha;rw[if_pos ha];cases hc:cs f vs (allow sh f vs aj) aj with
     |none=>simp[hc] at h
     |some x=>rw[hs _ _ _ _ _ hc];simpa [hc] using h
    cases h
theorem afj:∀ {ops:List aO} {ak:Env} {aj:aA} {r:Env×aA×List bR},steps sh cp cs ops ak aj=some r->steps sh nj DB ops ak aj=some r:=by
 intro ops
 induction ops with
 |nil=>intro ak aj r h;simpa [steps] using h
 |cons o os ih=>
  intro ak aj r h;simp only[steps] at h ⊢;cases h1:step1 sh cp cs o ak aj with
  |none=>simp[h1] at h
  |some x=>
   obtain⟨e1,b1,f1⟩:=x;rw[aff hp hs h1];simp only[h1] at h ⊢;cases h2:steps sh cp cs os e1 b1 with
   |none=>simp[h2] at h
   |some y=>rw[ih h2];simpa [h2] using h
omit hp hs in
theorem abI{f g:Env->aA->Option (lS×Env×aA)}(hfg:∀e b r,f e b=some r->g e b=some r):
  ∀ {n m:Nat} {ak:Env} {aj:aA} {r:lS×Env×aA},n<=m->iter f n ak aj=some r->iter g m ak aj=some r:=by
 intro n
 induction n with
 |zero=>intro m ak aj r _ h;simp[iter] at h
 |succ n ih=>
  intro m ak aj r hm h;obtain⟨m,rfl⟩:∃k,m=k+1:=⟨m-1,aa⟩;simp only[iter] at h ⊢;cases hf:f ak aj with
  |none=>simp[hf] at h
  |some x=>
   obtain⟨e,e1,b1⟩:=x;rw[hfg _ _ _ hf];cases e with
   |normal=>simp only[hf] at h ⊢;exact ih aa h
   |exit i=>simpa [hf] using h
   |ret=>simpa [hf] using h
theorem YQ{n:Nat}(Mc:n<=m):∀ {c:aK} {ak:Env} {aj:aA} {r:lS×Env×aA},exec sh cp cs n c ak aj=some r->exec sh nj DB m c ak aj=some r:=by
 intro c
 induction c with
 |skip=>intro ak aj r h;simpa [exec] using h
 |region d ops=>
  intro ak aj r h;simp only[exec] at h ⊢;cases h1:steps sh cp cs ops ak aj with
  |none=>simp[h1] at h
  |some x=>rw[afj hp hs h1];simpa [h1] using h
 |seq a b iha ihb=>
  intro ak aj r h;simp only[exec] at h ⊢;cases h1:exec sh cp cs n a ak aj with
  |none=>simp[h1] at h
  |some x=>
   obtain⟨e,e1,b1⟩:=x;rw[iha h1];cases e with
   |normal=>simp only[h1] at h ⊢;exact ihb h
   |exit i=>simpa [h1] using h
   |ret=>simpa [h1] using h
 |cond x a b iha ihb=>
  intro ak aj r h;simp only[exec] at h ⊢;split at h
  .split at h
   .rename_i ht;simp only[ht,if_true];exact iha h
   rename_i ht;simp only[ht];exact ihb h
  cases h
 |block id c ih=>
  intro ak aj r h;simp only[exec] at h ⊢;cases h1:exec sh cp cs n c ak aj with
  |none=>simp[h1] at h
  |some x=>rw[ih h1];simpa [h1] using h
 |loop c ih=>intro ak aj r h;simp only[exec] at h ⊢;exact abI (fun _ _ _ h=>ih h) Mc h
 |exit id=>intro ak aj r h;simpa [exec] using h
 |ret=>intro ak aj r h;simpa [exec] using h
 |bad=>intro ak aj r h;simp[exec] at h
theorem Qg{n:Nat}(Mc:n<=m){fn:aX}{args:List V}{aj:aA}{r:V×aA}(h:qU sh cp cs n fn args aj=some r):qU sh nj DB m fn args aj=some r:=by
 unfold qU at h ⊢;cases h1:exec sh cp cs n fn.body (rL args) aj with
 |none=>simp[h1] at h
 |some x=>rw[YQ hp hs Mc h1];simpa [h1] using h
theorem aeC{n:Nat}(Mc:n<=m){fn:aX}{args:List V}{r:RV}(h:EP sh cp cs n fn args=some r):EP sh nj DB m fn args=some r:=by
 unfold EP at h ⊢;cases h1:qU sh cp cs n fn args zo with
 |none=>simp[h1] at h
 |some x=>rw[Qg hp hs Mc h1];simpa [h1] using h
end
theorem XK(S:Sys):∀n,Ho (gn S n) (gn S (n+1))/\SLe (gE S n) (gE S (n+1)):=by
 intro n
 induction n with
 |zero=>exact⟨fun f x r h=>by simp[gn] at h,fun f x l k r h=>by simp[gE] at h⟩
 |succ n ih=>
  refine⟨fun f x r h=>?_,fun f x l k r h=>?_⟩
  .rw[gn] at h ⊢;cases hp:S.prim f x with
   |some r'=>simpa [hp] using h
   |none=>
    simp only[hp] at h ⊢;cases hf:S.fns f with
    |none=>simp[hf] at h
    |some fn=>
     simp only[hf] at h ⊢;split at h
     .rename_i hl;rw[if_pos hl];exact aeC ih.1 ih.2 aa h
     cases h
  rw[gE] at h ⊢;cases hf:S.fns f with
  |none=>simp[hf] at h
  |some fn=>
   simp only[hf] at h ⊢;split at h
   .rename_i hl;rw[if_pos hl];exact Qg ih.1 ih.2 aa h
   cases h
theorem Dt(S:Sys){n:Nat}(h:n<=m):Ho (gn S n) (gn S m):=by
 induction h with
 |refl=>exact fun _ _ _ h=>h
 |step _ ih=>exact fun f x r hr=>(XK S _).1 f x r (ih f x r hr)
theorem KA(S:Sys){n:Nat}(h:n<=m):SLe (gE S n) (gE S m):=by
 induction h with
 |refl=>exact fun _ _ _ _ _ h=>h
 |step _ ih=>exact fun f x l k r hr=>(XK S _).2 f x l k r (ih f x l k r hr)
theorem aI.zS{S:Sys}{f:Nat}{args:List V}{r r':RV}(h:aI S f args r)(h':aI S f args r'):r=r':=by obtain⟨n,hn⟩:=h;obtain⟨m,hm⟩:=h';have a:=Dt S (Fa n m) _ _ _ hn;have b:=Dt S (Hi n m) _ _ _ hm;rw[a] at b;exact qZ b
theorem yK(S:Sys){al:Al}{n:Nat}(h:n<=m){c:aK}{ak:Env}{aj:aA}{r:lS×Env×aA}(hr:exec (S.ctx al) (gn S n) (gE S n) n c ak aj=some r):
  exec (S.ctx al) (gn S m) (gE S m) m c ak aj=some r:=YQ (Dt S h) (KA S h) h hr
theorem ari(S:Sys){al:Al}{n:Nat}(h:n<=m){ops:List aO}{ak:Env}{aj:aA}{r:Env×aA×List bR}(hr:steps (S.ctx al) (gn S n) (gE S n) ops ak aj=some r):
  steps (S.ctx al) (gn S m) (gE S m) ops ak aj=some r:=afj (Dt S h) (KA S h) hr
variable {S:Sys} {al:Al} {Q:dA} {ak:Env} {aj:aA}
theorem W.mono{c:aK}{Q':dA}(h:W S al c Q ak aj)(hq:∀e ak aj,Q e ak aj->Q' e ak aj):W S al c Q' ak aj:=by obtain⟨n,e,aC,ao,h1,h2⟩:=h;exact⟨n,e,aC,ao,h1,hq _ _ _ h2⟩
theorem agh(h:Q .normal ak aj):W S al .skip Q ak aj:=⟨0,_,_,_,rfl,h⟩
theorem af9{id:Nat}(h:Q (.exit id) ak aj):W S al (.exit id) Q ak aj:=⟨0,_,_,_,rfl,h⟩
theorem agc(h:Q .ret ak aj):W S al .ret Q ak aj:=⟨0,_,_,_,rfl,h⟩
def JJ(next:Env->aA->Prop)(Q:dA):dA
 | .normal,ak,aj=>next ak aj
 |e,ak,aj=>Q e ak aj
theorem agd{a b:aK}(h:W S al a (JJ (W S al b Q) Q) ak aj):W S al (.seq a b) Q ak aj:=by
 obtain⟨n,e,aC,ao,h1,h2⟩:=h;cases e with
 |normal=>obtain⟨m,e,cT,bh,h3,h4⟩:=h2;refine⟨max n m,e,cT,bh,?_,h4⟩;simp only[exec];rw[yK S (Fa n m) h1];exact yK S (Hi n m) h3
 |exit i=>exact⟨n,_,_,_,by simp[exec,h1],h2⟩
 |ret=>exact⟨n,_,_,_,by simp[exec,h1],h2⟩
theorem af6{x:aR}{a b:aK}{t:Bool}(hx:ev ak x=.one (.p (.bool t)))(h:if t=true then W S al a Q ak aj else W S al b Q ak aj):W S al (.cond x a b) Q ak aj:=by
 cases t with
 |true=>obtain⟨n,e,aC,ao,h1,h2⟩:=h;exact⟨n,e,aC,ao,by simp[exec,hx,h1],h2⟩
 |false=>obtain⟨n,e,aC,ao,h1,h2⟩:=(by simpa using h:W S al b Q ak aj);exact⟨n,e,aC,ao,by simp[exec,hx,h1],h2⟩
def mI(id:Nat)(Q:dA):dA
 | .exit i,ak,aj=>if i=id then Q .normal ak aj else Q (.exit i) ak aj
 |e,ak,aj=>Q e ak aj
theorem af5{id:Nat}{c:aK}(h:W S al c (mI id Q) ak aj):W S al (.block id c) Q ak aj:=by
 obtain⟨n,e,aC,ao,h1,h2⟩:=h;cases e with
 |normal=>exact⟨n,_,_,_,by simp[exec,h1],h2⟩
 |ret=>exact⟨n,_,_,_,by simp[exec,h1],h2⟩
 |exit i=>
  simp only[mI] at h2;by_cases hi:i=id
  .simp only[hi,if_true] at h2;exact⟨n,_,_,_,by simp[exec,h1,hi],h2⟩
  simp only[hi,if_false] at h2;exact⟨n,_,_,_,by simp[exec,h1,hi],h2⟩
theorem Pk(S:Sys){c:aK}{n k l:Nat}(h:n<=m)(hk:k<=l){r:lS×Env×aA}(hr:iter (exec (S.ctx al) (gn S n) (gE S n) n c) k ak aj=some r):
  iter (exec (S.ctx al) (gn S m) (gE S m) m c) l ak aj=some r:=abI (fun _ _ _ h'=>yK S h h') hk hr
theorem aga{c:aK}(I:Nat->Env->aA->Prop)(k0 N:Nat)(hk:k0<=N)(h0:I k0 ak aj)
  (round:∀k ak aj,k<=N->I k ak aj->W S al c (JJ (fun aC ao=>k<N/\I (k+1) aC ao) Q) ak aj):W S al (.loop c) Q ak aj:=by
 have key:∀j k ak aj,k+j=N->I k ak aj->∃n l e aC ao,iter (exec (S.ctx al) (gn S n) (gE S n) n c) l ak aj=some (e,aC,ao)/\Q e aC ao:=by
  intro j
  induction j with
  |zero=>
   intro k ak aj F4 hI;obtain⟨n,e,iA,bK,h1,h2⟩:=round k ak aj aa hI;cases e with
   |normal=>obtain⟨ay,_⟩:=h2;omega
   |exit i=>exact⟨n,1,_,_,_,by simp[iter,h1],h2⟩
   |ret=>exact⟨n,1,_,_,_,by simp[iter,h1],h2⟩
  |succ j ih=>
   intro k ak aj F4 hI;obtain⟨n,e,iA,bK,h1,h2⟩:=round k ak aj aa hI;cases e with
   |normal=>obtain⟨_,hI1⟩:=h2;obtain⟨m,l,e,cT,bh,h3,h4⟩:=ih (k+1) iA bK aa hI1;refine⟨max n m,l+1,e,cT,bh,?_,h4⟩;simp only[iter];rw[yK S (Fa n m) h1];exact Pk S (Hi n m) (bN _) h3
   |exit i=>exact⟨n,1,_,_,_,by simp[iter,h1],h2⟩
   |ret=>exact⟨n,1,_,_,_,by simp[iter,h1],h2⟩
 obtain⟨n,l,e,aC,ao,h1,h2⟩:=key (N-k0) k0 ak aj aa h0;refine⟨max n l,e,aC,ao,?_,h2⟩;simp only[exec];exact Pk S (Fa n l) (Hi n l) h1
theorem agb{d:Bool}{ops:List aO}(h:WO S al ops (fun ak aj es=>(d=true->sT ops [] es=true)/\Q .normal ak aj) ak aj []):W S al (.region d ops) Q ak aj:=by
 obtain⟨n,aC,ao,es,h1,h2,h3⟩:=h;refine⟨n,.normal,aC,ao,?_,h3⟩;simp only[exec,h1];cases d with
 |false=>simp
 |true=>simpa using h2
theorem af3{R:Env->aA->List bR->Prop}{tr:List bR}(h:R ak aj tr):WO S al [] R ak aj tr:=⟨0,ak,aj,[],rfl,by simpa using h⟩
theorem NC{o:aO}{os:List aO}{R:Env->aA->List bR->Prop}{tr:List bR}{n:Nat}{iA:Env}{bK:aA}{e:bR}
  (h1:step1 (S.ctx al) (gn S n) (gE S n) o ak aj=some (iA,bK,e)) (h:WO S al os R iA bK (tr++[e])):WO S al (o::os) R ak aj tr:=by
 obtain⟨m,aC,ao,es,h2,h3⟩:=h;refine⟨max n m,aC,ao,e::es,?_,by simpa using h3⟩;simp only[steps];rw[aff (Dt S (Fa n m)) (KA S (Fa n m)) h1];simp[ari S (Hi n m) h2]
def FN(S:Sys)(al:Al)(p:ft)(d:Option Nat)(ak:Env)(aj:aA)(tr:List bR)(K:Env->aA->List bR->Prop):Prop:=
 match p with
 | .fail=>False
 | .done v u r=>al.fD (r++u.map (·.1))=true/\K (put ak d v) (app u aj) (tr++[⟨r,u.map (·.1),[]⟩])
 | .pc f vs r s=>∃x,aI S f vs x/\match land aj r s (x.gK (S.lone s)) with
  |some (v,u)=>al.fD (r++u.map (·.1))=true/\K (put ak d v) (app u aj) (tr++[⟨r++u.map (·.1),u.map (·.1),[]⟩])
  |none=>False
 | .sc f vs=>al.holds (allow (S.ctx al) f vs aj)=true/\ ∃v ao,iK S f vs (allow (S.ctx al) f vs aj) aj v ao/\
   K (put ak d v) ao (tr++[⟨(allow (S.ctx al) f vs aj).ids,(allow (S.ctx al) f vs aj).ids,(allow (S.ctx al) f vs aj).fs⟩])
def DL(S:Sys)(al:Al)(w:Option Bool)(o:aO)(ak:Env)(aj:aA)(tr:List bR)(K:Env->aA->List bR->Prop):Prop:=
 match w with
 |none=>False
 |some false=>K (put ak o.dst .undef) aj (tr++[⟨[],[],[]⟩])
 |some true=>FN S al (bt S.shared ak aj o.op) o.dst ak aj tr K
@[simp] theorem Al.Fo (l:List Nat):Al.all.fD l=true:=by simp[Al.fD,Al.ok,Al.all]
@[simp] theorem Al.asm (b:Al):Al.all.holds b=true:=rfl
theorem af4{o:aO}{os:List aO}{R:Env->aA->List bR->Prop}{tr:List bR}
  (h:DL S al (wanted ak o.guard) o ak aj tr (WO S al os R)):WO S al (o::os) R ak aj tr:=by
 cases hw:wanted ak o.guard with
 |none=>simp[hw,DL] at h
 |some b=>
  cases b with
  |false=>rw[hw] at h;exact NC (n:=0) (by simp[step1,hw]) h
  |true=>
   rw[hw] at h;simp only[DL] at h;have jk:(S.ctx al).shared=S.shared:=rfl;have gZ:(S.ctx al).al=al:=rfl;have eS:(S.ctx al).lone=S.lone:=rfl;cases cA:bt S.shared ak aj o.op with
   |fail=>simp[cA,FN] at h
   |done v u r=>rw[cA] at h;obtain⟨h1,h⟩:=h;exact NC (n:=0) (by simp only[step1,hw,jk,gZ,cA,h1,if_true]) h
   |pc f vs r s=>
    rw[cA] at h;obtain⟨x,⟨n,hx⟩,h⟩:=h;cases hl:land aj r s (x.gK (S.lone s)) with
    |none=>simp[hl] at h
    |some y=>obtain⟨v,u⟩:=y;simp only[hl] at h;obtain⟨h1,h⟩:=h;exact NC (n:=n) (by simp only[step1,hw,jk,gZ,eS,cA,hx,hl,h1,if_true]) h
   |sc f vs=>rw[cA] at h;obtain⟨h1,v,ao,⟨n,hx⟩,h⟩:=h;exact NC (n:=n) (by simp only[step1,hw,jk,gZ,cA,h1,if_true,hx]) h
end
end Go.Abs
namespace Go.Abs
variable {S:Sys} {al:Al}
def mJ(al:Al)(res:List (Nat×Option (Option Nat)))(R:V->aA->Prop):dA
 | .exit _,_,_=>False
 |_,ak,aj=>match oE al ak aj res with
  |some vs=>R (zC vs) aj
  |none=>False
theorem QV{fn:aX}{args:List V}{aj:aA}{R:V->aA->Prop}(h:W S al fn.body (mJ al fn.results R) (rL args) aj):
  ∃n v ao,qU (S.ctx al) (gn S n) (gE S n) n fn args aj=some (v,ao)/\R v ao:=by
 obtain⟨n,e,aC,ao,h1,h2⟩:=h;refine⟨n,?_⟩;unfold qU;rw[h1];cases e with
 |exit i=>exact h2.elim
 |normal=>
  simp only[mJ] at h2;split at h2
  .rename_i vs hv;exact⟨_,_,by simp only[show(S.ctx al).al=al from rfl,hv,ng],h2⟩
  exact h2.elim
 |ret=>
  simp only[mJ] at h2;split at h2
  .rename_i vs hv;exact⟨_,_,by simp only[show(S.ctx al).al=al from rfl,hv,ng],h2⟩
  exact h2.elim
theorem afY{f:Nat}{fn:aX}{args:List V}{r:RV}(hp:S.prim f args=none)(hf:S.fns f=some fn)(hl:args.length<=fn.ntmps)
  (h:W S .all fn.body (mJ .all fn.results fun v aj=>iU aj v=some r) (rL args) zo):aI S f args r:=by
 obtain⟨n,v,ao,h1,h2⟩:=QV h;refine⟨n+1,?_⟩;rw[gn];simp only[hp,hf,hl,if_true];unfold EP;rw[h1];exact h2
theorem mF{f:Nat}{fn:aX}{args:List V}{aj:aA}{R:V->aA->Prop}(hf:S.fns f=some fn)(hl:args.length<=fn.ntmps)
  (h:W S al fn.body (mJ al fn.results R) (rL args) aj):∃v ao,iK S f args al aj v ao/\R v ao:=by
 obtain⟨n,v,ao,h1,h2⟩:=QV h;refine⟨v,ao,⟨n+1,?_⟩,h2⟩;rw[gE];simp only[hf,hl,if_true];exact h1
end Go.Abs
namespace Go.Abs
variable {S:Sys} {al:Al} {Q:dA} {ak:Env} {aj:aA}
theorem W6:W S al .skip Q ak aj↔Q .normal ak aj:=⟨fun⟨_,_,_,_,h,q⟩=>by simp[exec] at h;obtain⟨rfl,rfl,rfl⟩:=h;exact q,agh⟩
theorem W2{id:Nat}:W S al (.exit id) Q ak aj↔Q (.exit id) ak aj:=⟨fun⟨_,_,_,_,h,q⟩=>by simp[exec] at h;obtain⟨rfl,rfl,rfl⟩:=h;exact q,af9⟩
theorem W5:W S al .ret Q ak aj↔Q .ret ak aj:=⟨fun⟨_,_,_,_,h,q⟩=>by simp[exec] at h;obtain⟨rfl,rfl,rfl⟩:=h;exact q,agc⟩
theorem age{a b:aK}:W S al (.seq a b) Q ak aj↔W S al a (JJ (W S al b Q) Q) ak aj:=by
 refine⟨?_,agd⟩;rintro ⟨n,e,aC,ao,h,q⟩
 simp only[exec] at h;cases h1:exec (S.ctx al) (gn S n) (gE S n) n a ak aj with
 |none=>simp[h1] at h
 |some x=>
  obtain⟨e1,iA,bK⟩:=x;refine⟨n,e1,iA,bK,h1,?_⟩;cases e1 with
  |normal=>simp only[h1] at h;exact⟨n,e,aC,ao,h,q⟩
  |exit i=>simp[h1] at h;obtain⟨rfl,rfl,rfl⟩:=h;exact q
  |ret=>simp[h1] at h;obtain⟨rfl,rfl,rfl⟩:=h;exact q
def HF(v:V)(A B:Prop):Prop:=
 match v with
 | .one (.p (.bool t))=>if t=true then A else B
 |_=>False
theorem af7{x:aR}{a b:aK}:W S al (.cond x a b) Q ak aj↔HF (ev ak x) (W S al a Q ak aj) (W S al b Q ak aj):=by
 constructor
 .rintro ⟨n,e,aC,ao,h,q⟩
  simp only[exec] at h;split at h
  .rename_i t ht;rw[ht];simp only[HF];cases t with
   |true=>exact⟨n,e,aC,ao,by simpa using h,q⟩
   |false=>exact⟨n,e,aC,ao,by simpa using h,q⟩
  cases h
 intro h;unfold HF at h;split at h
 .rename_i t ht;exact af6 ht h
 exact h.elim
theorem W1{id:Nat}{c:aK}:W S al (.block id c) Q ak aj↔W S al c (mI id Q) ak aj:=by
 refine⟨?_,af5⟩;rintro ⟨n,e,aC,ao,h,q⟩
 simp only[exec] at h;cases h1:exec (S.ctx al) (gn S n) (gE S n) n c ak aj with
 |none=>simp[h1] at h
 |some x=>
  obtain⟨e1,iA,bK⟩:=x;refine⟨n,e1,iA,bK,h1,?_⟩;cases e1 with
  |normal=>simp[h1] at h;obtain⟨rfl,rfl,rfl⟩:=h;exact q
  |ret=>simp[h1] at h;obtain⟨rfl,rfl,rfl⟩:=h;exact q
  |exit i=>
   simp only[h1] at h;simp only[mI];split at h
   .rename_i hi;simp at h;obtain⟨rfl,rfl,rfl⟩:=h;rw[if_pos hi];exact q
   rename_i hi;simp at h;obtain⟨rfl,rfl,rfl⟩:=h;rw[if_neg hi];exact q
theorem QU{R:Env->aA->List bR->Prop}{tr:List bR}:WO S al [] R ak aj tr↔R ak aj tr:=by
 refine⟨?_,af3⟩;rintro ⟨n,aC,ao,es,h,q⟩
 simp[steps] at h;obtain⟨rfl,rfl,rfl⟩:=h
 simpa using q
theorem ND{o:aO}{os:List aO}{R:Env->aA->List bR->Prop}{tr:List bR}:
  WO S al (o::os) R ak aj tr↔DL S al (wanted ak o.guard) o ak aj tr (WO S al os R):=by
 refine⟨?_,af4⟩;rintro ⟨n,aC,ao,es,h,q⟩
 simp only[steps] at h;cases h1:step1 (S.ctx al) (gn S n) (gE S n) o ak aj with
 |none=>simp[h1] at h
 |some x=>
  obtain⟨iA,bK,e⟩:=x;simp only[h1] at h;cases h2:steps (S.ctx al) (gn S n) (gE S n) os iA bK with
  |none=>simp[h2] at h
  |some y=>
   obtain⟨cT,bh,es2⟩:=y;simp[h2] at h;obtain⟨rfl,rfl,rfl⟩:=h;have hk:WO S al os R iA bK (tr++[e]):=⟨n,_,_,es2,h2,by simpa using q⟩;unfold step1 at h1;cases hw:wanted ak o.guard with
   |none=>simp[hw] at h1
   |some b=>
    cases b with
    |false=>simp[hw] at h1;obtain⟨rfl,rfl,rfl⟩:=h1;exact hk
    |true=>
     simp only[hw] at h1;simp only[DL];have jk:(S.ctx al).shared=S.shared:=rfl;have gZ:(S.ctx al).al=al:=rfl;have eS:(S.ctx al).lone=S.lone:=rfl;simp only[jk,gZ,eS] at h1;cases cA:bt S.shared ak aj o.op with
     |fail=>simp[cA] at h1
     |done v u r=>
      simp only[cA] at h1;split at h1
      .rename_i au;cases h1;exact⟨au,hk⟩
      cases h1
     |pc f vs r s=>
      simp only[cA] at h1;cases hc:gn S n f vs with
      |none=>simp[hc] at h1
      |some x=>
       simp only[hc] at h1;refine⟨x,⟨n,hc⟩,?_⟩;cases hl:land aj r s (x.gK (S.lone s)) with
       |none=>simp[hl] at h1
       |some y=>
        obtain⟨v,u⟩:=y;simp only[hl] at h1;split at h1
        .rename_i au;cases h1;exact⟨au,hk⟩
        cases h1
     |sc f vs=>
      simp only[cA] at h1;split at h1
      .rename_i au;cases hc:gE S n f vs (allow (S.ctx al) f vs aj) aj with
       |none=>simp[hc] at h1
       |some x=>obtain⟨v,b⟩:=x;simp only[hc] at h1;cases h1;exact⟨au,v,_,⟨n,hc⟩,hk⟩
      cases h1
theorem W4{d:Bool}{ops:List aO}:W S al (.region d ops) Q ak aj↔WO S al ops (fun ak aj es=>(d=true->sT ops [] es=true)/\Q .normal ak aj) ak aj []:=by
 refine⟨?_,agb⟩;rintro ⟨n,e,aC,ao,h,q⟩
 simp only[exec] at h;cases h1:steps (S.ctx al) (gn S n) (gE S n) ops ak aj with
 |none=>simp[h1] at h
 |some x=>
  obtain⟨iA,bK,es⟩:=x;simp only[h1] at h;cases d with
  |false=>simp at h;obtain⟨rfl,rfl,rfl⟩:=h;exact⟨n,_,_,es,h1,af,q⟩
  |true=>simp at h;obtain⟨hd,rfl,rfl,rfl⟩:=h;exact⟨n,_,_,es,h1,fun _=>by simpa using hd,q⟩
end Go.Abs
namespace Go.Abs
inductive bY (w:World) (own:Nat->Prop):PV->Value->Prop where
 |bool (b:Bool):bY w own (.bool b) (.bool b)
 |int (k:IntKind) (n:Int):bY w own (.int k n) (.int k n)
 |str (s:ByteArray):bY w own (.str s) (.string s)
 |tQ:bY w own .tQ (.pointer none)
 |nils:bY w own .nils (.slice none 0 0)
 |qp:bY w own .qp (.map none)
 |jx:bY w own .jx .nilFunc
 |nili:bY w own .nili .nilIface
 |ifc (d:TypeId) (x:Value):bY w own .ifc (.iface d x)
 |zs (a:Option Addr):bY w own .zs (.slice a 0 0)
 |box {cs:List PV} (b o:Nat) (f:Nat->Value) (ho:cs≠[]-> ¬own b)
   (hc:∀(j:Nat) (x:PV),cs[j]?=some x->w.cell? ⟨b,o+j,none⟩=some (f j))
   (hr:∀(j:Nat) (x:PV),cs[j]?=some x->bY w own x (f j)):bY w own (.box cs) (.pointer (some ⟨b,o,none⟩))
 |xX (a:Option Addr) (cap:Nat) (hn:a=none->cap=0) (hm:cap<=maxLen):bY w own (.sl []) (.slice a 0 cap)
 |sl {es:List (List PV)} (b o cap sz:Nat) (f:Nat->Value) (ho:es.flatten≠[]-> ¬own b) (hl:es.length<=cap) (hm:cap<=maxLen) (ch:∀e∈es,e.length=sz)
   (hc:∀(j:Nat) (x:PV),es.flatten[j]?=some x->w.cell? ⟨b,o+j,none⟩=some (f j))
   (hr:∀(j:Nat) (x:PV),es.flatten[j]?=some x->bY w own x (f j)):bY w own (.sl es) (.slice (some ⟨b,o,none⟩) es.length cap)
 |mp {ag:Bool} {es:List (PV×List PV)} (r:Nat) (ents:Array MapEntry) (clock:Nat) (g:Nat->Array Value) (ho:¬own r) (hb:w.heap[r]?=some (.map ents clock)) (hl:ents.size=es.length)
   (hk:∀(i:Nat) (q:PV) (v:List PV) (e:MapEntry),es[i]?=some (q,v)->ents[i]?=some e->bY w own q e.key)
   (hv:∀(i:Nat) (q:PV) (v:List PV) (e:MapEntry),es[i]?=some (q,v)->ents[i]?=some e->(g i).size=v.length/\(ag=true->e.val=.agg (g i))/\(ag=false-> #[e.val]=g i))
   (hr:∀(i:Nat) (q:PV) (v:List PV) (j:Nat) (x:PV) (u:Value),es[i]?=some (q,v)->v[j]?=some x->(g i)[j]?=some u->bY w own x u):bY w own (.mp ag es) (.map (some r))
 |fn {f:Nat} {a b:List PV} (A B:Array Value) (ha:A.size=a.length) (hb:B.size=b.length)
   (vf:∀(j:Nat) (x:PV) (u:Value),a[j]?=some x->A[j]?=some u->bY w own x u)
   (qO:∀(j:Nat) (x:PV) (u:Value),b[j]?=some x->B[j]?=some u->bY w own x u):bY w own (.fn f a b) (.func (.func f) A B)
theorem bY.MW{w:World}{own:Nat->Prop}{x:PV}{v:Value}(h:bY w own x v):v.oneCell'=true:=by cases h<;>rfl
theorem bY.cells{w:World}{own:Nat->Prop}{x:PV}{v:Value}(h:bY w own x v):v.cells= #[v]:=by cases h<;>rfl
theorem XN{w:World}{b o:Nat}{v:Value}(h:w.cell? ⟨b,o,none⟩=some v):b<w.heap.size:=World.block_lt_of_cell? w ⟨b,o,none⟩ h
theorem u6{w:World}{b:Nat}{o:Obj}(h:w.heap[b]?=some o):b<w.heap.size:=(Array.getElem?_eq_some_iff.1 h).1
theorem bY.mono{w w':World}{own zu:Nat->Prop}(hk:∀c,c<w.heap.size-> ¬own c->w'.heap[c]?=w.heap[c]? /\ ¬zu c){x:PV}{v:Value}
  (h:bY w own x v):bY w' zu x v:=by
 induction h with
 |bool b=>exact .bool b
 |int k n=>exact .int k n
 |str s=>exact .str s
 |tQ=>exact .tQ
 |nils=>exact .nils
 |qp=>exact .qp
 |jx=>exact .jx
 |nili=>exact .nili
 |ifc d x=>exact .ifc d x
 |zs a=>exact .zs a
 | @box cs b o f ho hc _ ih=>
  cases cs with
  |nil=>exact .box b o f (fun h=>(h rfl).elim) (fun j x h=>by simp at h) (fun j x h=>by simp at h)
  |cons c r=>have hb:=XN (hc 0 c rfl);have hn:=ho af;refine .box b o f (fun _=>(hk b hb hn).2) (fun j x h=>?_) ih;rw[World.cell?_of_block (hk b hb hn).1];exact hc j x h
 |xX a cap hn hm=>exact .xX a cap hn hm
 | @sl es b o cap sz f ho hl hm ch hc _ ih=>
  cases hf:es.flatten with
  |nil=>exact .sl b o cap sz f (fun h=>(h hf).elim) hl hm ch (fun j x h=>by simp[hf] at h) (fun j x h=>by simp[hf] at h)
  |cons c r=>have hb:=XN (hc 0 c (by simp[hf]));have hn:=ho (by simp[hf]);refine .sl b o cap sz f (fun _=>(hk b hb hn).2) hl hm ch (fun j x h=>?_) ih;rw[World.cell?_of_block (hk b hb hn).1];exact hc j x h
 | @mp ag es r ents clock g ho hb hl _ hv _ ihk ihr=>exact .mp r ents clock g (hk r (u6 hb) ho).2 ((hk r (u6 hb) ho).1.trans hb) hl ihk hv ihr
 |fn A B ha hb _ _ iha ihb=>exact .fn A B ha hb iha ihb
structure Mem where
 w:World
 aj:aA
 σ:Nat->Nat
 κ:Nat->Nat
 fr:Nat->Prop
def Ob.fM:Ob->Bool
 | .var _| .arr _ _ _| .iN _ _ _| .map _ _=>true
 |_=>false
def kM:Nat×Option Ob->Option Nat
 |(_,some (.arr _ sz _))=>some sz
 |(_,some (.iN _ sz _))=>some sz
 |(_,some (.oN _ sz _))=>some sz
 |_=>none
def Mem.fM(m:Mem)(c:Nat):Prop:= ∃id o,(m.aj id).2=some o/\o.fM=true/\m.σ id=c
def Mem.own(m:Mem)(c:Nat):Prop:=m.fr c\/m.fM c
inductive cS (m:Mem):C->Value->Prop where
 |p {x:PV} {v:Value} (h:bY m.w m.own x v):cS m (.p x) v
 |aY {id g off:Nat} (a:Addr) (hg:g<=(m.aj id).1) (h:(m.aj id).1=g->(m.aj id).2.isSome=true->a=⟨m.σ id,off,none⟩):cS m (.aY id g off) (.pointer (some a))
 |dC {id g i off:Nat} (a:Addr) (hg:g<=(m.aj id).1) (h:∀sz,(m.aj id).1=g->kM (m.aj id)=some sz->a=⟨m.σ id,i*sz+off,none⟩):cS m (.dC id g i off) (.pointer (some a))
 |hsl {id g z off len:Nat} (a:Addr) (cap:Nat) (hg:g<=(m.aj id).1) (hl:len<=cap) (hm:cap<=maxLen)
   (h:∀sz,(m.aj id).1=g->kM (m.aj id)=some sz->sz=z/\(off=0\/0<len->a=⟨m.σ id,off*sz,none⟩)/\(off=0->cap=m.κ id)):
   cS m (.hsl id g z off len) (.slice (some a) len cap)
 |j8 {id g:Nat} (r:Nat) (hg:g<=(m.aj id).1) (h:(m.aj id).1=g->(m.aj id).2.isSome=true->r=m.σ id):cS m (.j8 id g) (.map (some r))
 |hfn {f:Nat} {a b:List C} (A B:Array Value) (ha:A.size=a.length) (hb:B.size=b.length)
   (vf:∀(j:Nat) (x:C) (u:Value),a[j]?=some x->A[j]?=some u->cS m x u)
   (qO:∀(j:Nat) (x:C) (u:Value),b[j]?=some x->B[j]?=some u->cS m x u):cS m (.hfn f a b) (.func (.func f) A B)
theorem cS.MW{m:Mem}{x:C}{v:Value}(h:cS m x v):v.oneCell'=true:=by
 cases h with
 |p h=>exact h.MW
 |_=>rfl
theorem cS.cells{m:Mem}{x:C}{v:Value}(h:cS m x v):v.cells= #[v]:=by
 cases h with
 |p h=>exact h.cells
 |_=>rfl
def dr(m:Mem)(cs:List C)(vs:List Value):Prop:=vs.length=cs.length/\ ∀(j:Nat) (x:C) (u:Value),cs[j]?=some x->vs[j]?=some u->cS m x u
def dk(w:World)(own:Nat->Prop)(cs:List PV)(vs:List Value):Prop:=vs.length=cs.length/\ ∀(j:Nat) (x:PV) (u:Value),cs[j]?=some x->vs[j]?=some u->bY w own x u
def nJ(m:Mem):V->Value->Prop
 | .undef,v=>v=undef
 | .one c,v=>cS m c v
 | .agg cs,v=>∃arr,v=.agg arr/\dr m cs arr.toList
 | .tup _,_=>False
def bQ(m:Mem):V->Value->Prop
 | .tup vs,v=>∃arr,v=.tuple arr/\arr.size=vs.length/\ ∀(j:Nat) (x:V) (u:Value),vs[j]?=some x->arr[j]?=some u->nJ m x u
 |x,v=>nJ m x v
def tc(m:Mem)(id:Nat):Ob->Prop
 | .var cs=>∃cur ty,m.w.heap[m.σ id]?=some (.cells cur ty (0,0))/\dr m cs cur.toList
 | .fvar cs=>∃cur ty fz,m.w.heap[m.σ id]?=some (.cells cur ty fz)/\dk m.w m.own cs cur.toList/\ ¬m.own (m.σ id)
 | .arr ty sz es=>∃cur,m.w.heap[m.σ id]?=some (.cells cur ty (0,0))/\0<sz/\(∀e∈es,e.length=sz)/\es.length<=m.κ id/\m.κ id<=maxLen/\cur.size=m.κ id*sz/\
   dk m.w m.own es.flatten (cur.toList.take (es.length*sz))
 | .oN ty sz es=>∃cur fz,m.w.heap[m.σ id]?=some (.cells cur ty fz)/\0<sz/\(∀e∈es,e.length=sz)/\es.length<=m.κ id/\m.κ id<=maxLen/\cur.size=m.κ id*sz/\
   dk m.w m.own es.flatten (cur.toList.take (es.length*sz))/\ ¬m.own (m.σ id)
 | .iN ty sz es=>∃cur,m.w.heap[m.σ id]?=some (.cells cur ty (0,0))/\0<sz/\(∀e∈es,e.length=sz)/\es.length<=m.κ id/\m.κ id<=maxLen/\cur.size=m.κ id*sz/\
   dr m es.flatten (cur.toList.take (es.length*sz))
 | .map ag es=>∃ents clock,m.w.heap[m.σ id]?=some (.map ents clock)/\ents.size=es.length/\
   ∀(i:Nat) (q:PV) (v:List PV) (e:MapEntry),es[i]?=some (q,v)->ents[i]?=some e->bY m.w m.own q e.key/\ ∃g:Array Value,(ag=true->e.val=.agg g)/\(ag=false-> #[e.val]=g)/\dk m.w m.own v g.toList
 | .fmap ag es=>∃ents clock,m.w.heap[m.σ id]?=some (.map ents clock)/\ents.size=es.length/\
   (∀(i:Nat) (q:PV) (v:List PV) (e:MapEntry),es[i]?=some (q,v)->ents[i]?=some e->bY m.w m.own q e.key/\ ∃g:Array Value,(ag=true->e.val=.agg g)/\(ag=false-> #[e.val]=g)/\dk m.w m.own v g.toList)/\ ¬m.own (m.σ id)
structure Ok (w0:World) (m:Mem):Prop where
 os:m.w.os=w0.os
 tape:m.w.tape=w0.tape
 output:m.w.output=w0.output
 size:w0.heap.size<=m.w.heap.size
 base:∀c,c<w0.heap.size->m.w.heap[c]?=w0.heap[c]?
 obj:∀id o,(m.aj id).2=some o->tc m id o
 ij:∀id o,(m.aj id).2=some o->o.fM=true->w0.heap.size<=m.σ id/\ ¬m.fr (m.σ id)
 frlt:∀c,m.fr c->c<m.w.heap.size
 inj:∀id eY o o',(m.aj id).2=some o->o.fM=true->(m.aj eY).2=some o'->o'.fM=true->m.σ id=m.σ eY->id=eY
structure Ev (m m':Mem):Prop where
 os:m'.w.os=m.w.os
 tape:m'.w.tape=m.w.tape
 output:m'.w.output=m.w.output
 size:m.w.heap.size<=m'.w.heap.size
 keep:∀c,c<m.w.heap.size-> ¬m.fM c->m'.w.heap[c]?=m.w.heap[c]?
 fM:∀c,c<m.w.heap.size->m'.fM c->m.fM c
 less:∀c,c<m.w.heap.size-> ¬m.own c-> ¬m'.own c
 gen:∀id,(m.aj id).1<=(m'.aj id).1
 ref:∀id,(m'.aj id).1=(m.aj id).1->(m'.aj id).2.isSome=true->(m.aj id).2.isSome=true/\m'.σ id=m.σ id/\m'.κ id=m.κ id/\kM (m'.aj id)=kM (m.aj id)
theorem Ev.refl(m:Mem):Ev m m:=⟨rfl,rfl,rfl,bN _,fun _ _ _=>rfl,fun _ _ h=>h,fun _ _ h=>h,fun _=>bN _,fun _ _ h=>⟨h,rfl,rfl,rfl⟩⟩
theorem Ev.trans{a b c:Mem}(h:Ev a b)(k:Ev b c):Ev a c where
 os:=k.os.trans h.os
 tape:=k.tape.trans h.tape
 output:=k.output.trans h.output
 size:=mD h.size k.size
 keep x hx hm:=(k.keep x (Di hx h.size) fun hb=>hm (h.fM x hx hb)).trans (h.keep x hx hm)
 fM x hx hm:=h.fM x hx (k.fM x (Di hx h.size) hm)
 less x hx hn:=k.less x (Di hx h.size) (h.less x hx hn)
 gen id:=mD (h.gen id) (k.gen id)
 ref id he hs:=by have h1:=h.gen id;have h2:=k.gen id;obtain⟨s1,e1,e2,e3⟩:=k.ref id aa hs;obtain⟨s2,f1,f2,f3⟩:=h.ref id aa s1;exact⟨s2,e1.trans f1,e2.trans f2,e3.trans f3⟩
theorem Ev.own{m m':Mem}(h:Ev m m'):∀c,c<m.w.heap.size-> ¬m.own c->m'.w.heap[c]?=m.w.heap[c]? /\ ¬m'.own c:=fun c hc hn=>⟨h.keep c hc fun hm=>hn (.inr hm),h.less c hc hn⟩
theorem afn{x:Nat×Option Ob}{sz:Nat}(h:kM x=some sz):x.2.isSome=true:=by
 obtain⟨g,o⟩:=x;cases o with
 |none=>simp[kM] at h
 |some o=>rfl
structure ub (m m':Mem):Prop where
 own:∀c,c<m.w.heap.size-> ¬m.own c->m'.w.heap[c]?=m.w.heap[c]? /\ ¬m'.own c
 gen:∀id,(m.aj id).1<=(m'.aj id).1
 ref:∀id,(m'.aj id).1=(m.aj id).1->(m'.aj id).2.isSome=true->(m.aj id).2.isSome=true/\m'.σ id=m.σ id/\m'.κ id=m.κ id/\kM (m'.aj id)=kM (m.aj id)
theorem Ev.zero{m m':Mem}(h:Ev m m'):ub m m':=⟨h.own,h.gen,h.ref⟩
theorem bY.ev{m m':Mem}(h:ub m m'){x:PV}{v:Value}(hr:bY m.w m.own x v):bY m'.w m'.own x v:=hr.mono h.own
theorem cS.ev{m m':Mem}(h:ub m m'){x:C}{v:Value}(hr:cS m x v):cS m' x v:=by
 induction hr with
 |p hp=>exact .p (hp.ev h)
 | @aY id g off a hg ha=>have UC:=h.gen id;refine .aY a aa fun Cm hs=>?_;obtain⟨s,e1,_,_⟩:=h.ref id aa hs;rw[e1];exact ha aa s
 | @dC id g i off a hg ha=>have UC:=h.gen id;refine .dC a aa fun sz Cm hs=>?_;obtain⟨s,e1,_,e3⟩:=h.ref id aa (afn hs);rw[e1];exact ha sz aa (e3▸hs)
 | @hsl id g z off len a cap hg hl hm ha=>have UC:=h.gen id;refine .hsl a cap aa hl hm fun sz Cm hs=>?_;obtain⟨s,e1,e2,e3⟩:=h.ref id aa (afn hs);rw[e1,e2];exact ha sz aa (e3▸hs)
 | @j8 id g r hg hr=>have UC:=h.gen id;refine .j8 r aa fun Cm hs=>?_;obtain⟨s,e1,_,_⟩:=h.ref id aa hs;rw[e1];exact hr aa s
 |hfn A B ha hb _ _ iha ihb=>exact .hfn A B ha hb iha ihb
theorem dr.ev{m m':Mem}(h:ub m m'){cs:List C}{vs:List Value}(hr:dr m cs vs):dr m' cs vs:=⟨hr.1,fun j x u a b=>(hr.2 j x u a b).ev h⟩
theorem dk.mono{w w':World}{own zu:Nat->Prop}(hk:∀c,c<w.heap.size-> ¬own c->w'.heap[c]?=w.heap[c]? /\ ¬zu c){cs:List PV}{vs:List Value}
  (hr:dk w own cs vs):dk w' zu cs vs:=⟨hr.1,fun j x u a b=>(hr.2 j x u a b).mono hk⟩
theorem dk.ev{m m':Mem}(h:ub m m'){cs:List PV}{vs:List Value}(hr:dk m.w m.own cs vs):dk m'.w m'.own cs vs:=hr.mono h.own
theorem nJ.ev{m m':Mem}(h:ub m m'){x:V}{v:Value}(hr:nJ m x v):nJ m' x v:=by
 cases x with
 |undef=>exact hr
 |one c=>exact cS.ev h hr
 |agg cs=>obtain⟨arr,e,hc⟩:=hr;exact⟨arr,e,hc.ev h⟩
 |tup vs=>exact hr.elim
theorem bQ.ev{m m':Mem}(h:ub m m'){x:V}{v:Value}(hr:bQ m x v):bQ m' x v:=by
 cases x with
 |tup vs=>obtain⟨arr,e,hs,hc⟩:=hr;exact⟨arr,e,hs,fun j x u a b=>(hc j x u a b).ev h⟩
 |undef=>exact nJ.ev (x:=.undef) h hr
 |one c=>exact nJ.ev (x:=.one c) h hr
 |agg cs=>exact nJ.ev (x:=.agg cs) h hr
theorem tc.ev{m m':Mem}(h:ub m m'){id:Nat}{o:Ob}(hs:m'.σ id=m.σ id)(hk:m'.κ id=m.κ id)(hh:m'.w.heap[m.σ id]?=m.w.heap[m.σ id]?)
  (hr:tc m id o):tc m' id o:=by
 cases o with
 |var cs=>obtain⟨cur,ty,a,b⟩:=hr;exact⟨cur,ty,by rw[hs,hh];exact a,b.ev h⟩
 |fvar cs=>obtain⟨cur,ty,fz,a,b,c⟩:=hr;exact⟨cur,ty,fz,by rw[hs,hh];exact a,b.ev h,by rw[hs];exact(h.own _ (u6 a) c).2⟩
 |arr ty sz es=>obtain⟨cur,a,b,c,d,e,f,g⟩:=hr;exact⟨cur,by rw[hs,hh];exact a,b,c,by rw[hk];exact d,by rw[hk];exact e,by rw[hk];exact f,g.ev h⟩
 |oN ty sz es=>obtain⟨cur,fz,a,b,c,d,e,f,g,i⟩:=hr;exact⟨cur,fz,by rw[hs,hh];exact a,b,c,by rw[hk];exact d,by rw[hk];exact e,by rw[hk];exact f,g.ev h,by rw[hs];exact(h.own _ (u6 a) i).2⟩
 |iN ty sz es=>obtain⟨cur,a,b,c,d,e,f,g⟩:=hr;exact⟨cur,by rw[hs,hh];exact a,b,c,by rw[hk];exact d,by rw[hk];exact e,by rw[hk];exact f,g.ev h⟩
 |map ag es=>obtain⟨ents,clock,a,b,c⟩:=hr;exact⟨ents,clock,by rw[hs,hh];exact a,b,fun i q v e x y=>let ⟨p,g,g1,g2,g3⟩:=c i q v e x y;⟨p.ev h,g,g1,g2,g3.ev h⟩⟩
 |fmap ag es=>obtain⟨ents,clock,a,b,c,d⟩:=hr;exact⟨ents,clock,by rw[hs,hh];exact a,b,fun i q v e x y=>let ⟨p,g,g1,g2,g3⟩:=c i q v e x y;⟨p.ev h,g,g1,g2,g3.ev h⟩,by rw[hs];exact(h.own _ (u6 a) d).2⟩
theorem tc.lt{m:Mem}{id:Nat}{o:Ob}(hr:tc m id o):m.σ id<m.w.heap.size:=by
 cases o with
 |var cs=>obtain⟨cur,ty,a,_⟩:=hr;exact u6 a
 |fvar cs=>obtain⟨cur,ty,fz,a,_⟩:=hr;exact u6 a
 |arr ty sz es=>obtain⟨cur,a,_⟩:=hr;exact u6 a
 |oN ty sz es=>obtain⟨cur,fz,a,_⟩:=hr;exact u6 a
 |iN ty sz es=>obtain⟨cur,a,_⟩:=hr;exact u6 a
 |map ag es=>obtain⟨ents,clock,a,_⟩:=hr;exact u6 a
 |fmap ag es=>obtain⟨ents,clock,a,_⟩:=hr;exact u6 a
theorem tc.calm{m:Mem}{id:Nat}{o:Ob}(hr:tc m id o)(ho:o.fM=false):¬m.own (m.σ id):=by
 cases o with
 |fvar cs=>obtain⟨cur,ty,fz,_,_,c⟩:=hr;exact c
 |oN ty sz es=>obtain⟨cur,fz,_,_,_,_,_,_,_,c⟩:=hr;exact c
 |fmap ag es=>obtain⟨_,_,_,_,_,c⟩:=hr;exact c
 |_=>simp[Ob.fM] at ho
end Go.Abs
namespace Go.Abs
variable {w0:World}
section
variable{m:Mem}
structure fR (w w':World):Prop where
 os:w'.os=w.os
 tape:w'.tape=w.tape
 output:w'.output=w.output
 size:w.heap.size<=w'.heap.size
 keep:∀c,c<w.heap.size->w'.heap[c]?=w.heap[c]?
theorem fR.refl(w:World):fR w w:=⟨rfl,rfl,rfl,bN _,fun _ _=>rfl⟩
theorem fR.trans{a b c:World}(h:fR a b)(k:fR b c):fR a c:=
 ⟨k.os.trans h.os,k.tape.trans h.tape,k.output.trans h.output,mD h.size k.size,fun x hx=>(k.keep x (Di hx h.size)).trans (h.keep x hx)⟩
theorem fR.alloc(w:World)(o:Obj):fR w (w.alloc o):=⟨rfl,rfl,rfl,af,fun _ hc=>heap_alloc_old w o hc⟩
theorem fR.drew(w:World):fR w w.drew:=⟨rfl,rfl,rfl,bN _,fun _ _=>rfl⟩
def Mem.later(m:Mem)(w':World)(X:Nat->Prop):Mem:={m with w:=w',fr:=fun c=>m.fr c\/X c}
theorem acC{w':World}{X:Nat->Prop}{c:Nat}:(m.later w' X).own c↔m.own c\/X c:=by
 unfold Mem.own Mem.fM Mem.later;constructor
 .rintro ((h|h)|h)
  .exact .inl (.inl h)
  .exact .inr h
  exact .inl (.inr h)
 rintro ((h|h)|h)
 .exact .inl (.inl h)
 .exact .inr h
 exact .inl (.inr h)
theorem ME{w':World}{X:Nat->Prop}(hg:fR m.w w')(hX:∀c,X c->m.w.heap.size<=c):Ev m (m.later w' X) where
 os:=hg.os
 tape:=hg.tape
 output:=hg.output
 size:=hg.size
 keep c hc _:=hg.keep c hc
 fM c _ h:=h
 less c hc hn h:=by
  rcases acC.1 h with h|h
  .exact hn h
  have:=hX c h;omega
 gen _:=bN _
 ref _ _ hs:=⟨hs,rfl,rfl,rfl⟩
theorem Pq{w':World}{X:Nat->Prop}(h:Ok w0 m)(hg:fR m.w w')(hX:∀c,X c->m.w.heap.size<=c/\c<w'.heap.size):Ok w0 (m.later w' X) where
 os:=hg.os.trans h.os
 tape:=hg.tape.trans h.tape
 output:=hg.output.trans h.output
 size:=mD h.size hg.size
 base c hc:=(hg.keep c (Di hc h.size)).trans (h.base c hc)
 obj id o ho:=(h.obj id o ho).ev (ME hg fun c hc=>(hX c hc).1).zero rfl rfl (hg.keep _ (h.obj id o ho).lt)
 ij id o ho hm:=by
  refine⟨(h.ij id o ho hm).1,?_⟩;rintro (hf|hx)
  .exact(h.ij id o ho hm).2 hf
  have h1:=(hX _ hx).1;have h2:=(h.obj id o ho).lt;simp only[Mem.later] at h1;omega
 frlt c hc:=by
  rcases hc with hf|hx
  .exact Di (h.frlt c hf) hg.size
  exact(hX c hx).2
 inj:=h.inj
def Mem.install(m:Mem)(s c k:Nat)(o:Ob):Mem:=⟨m.w,dK m.aj s ((m.aj s).1+1,some o),dK m.σ s c,dK m.κ s k,fun x=>m.fr x/\x≠c⟩
theorem abC{s c k:Nat}{o:Ob}{x:Nat}(h:(m.install s c k o).fM x):x=c\/m.fM x:=by
 obtain⟨id,o',ho,hm,hx⟩:=h;simp only[Mem.install,aN] at ho hx;by_cases hid:id=s
 .simp only[hid,if_true] at hx;exact .inl hx.symm
 simp only[hid,if_false] at ho hx;exact .inr ⟨id,o',ho,hm,hx⟩
theorem Pe{s c k:Nat}{o:Ob}(hc:m.fr c){x:Nat}(h:(m.install s c k o).own x):m.own x:=by
 rcases h with h|h
 .exact .inl h.1
 rcases abC h with rfl|h
 .exact .inl hc
 exact .inr h
theorem Pb{m1:Mem}{s c k:Nat}{o:Ob}(h:Ev m m1)(hc:m1.fr c)(hn:m.w.heap.size<=c\/m.fM c):Ev m (m1.install s c k o) where
 os:=h.os
 tape:=h.tape
 output:=h.output
 size:=h.size
 keep:=h.keep
 fM x hx hm:=by
  rcases abC hm with rfl|hm
  .rcases hn with hn|hn
   .omega
   exact hn
  exact h.fM x hx hm
 less x hx dD hm:=h.less x hx dD (Pe hc hm)
 gen id:=by
  simp only[Mem.install,aN];have:=h.gen id;split
  .rename_i e;subst e;simp only;omega
  exact this
 ref id he hs:=by
  have hg:=h.gen id;simp only[Mem.install,aN] at he hs ⊢;by_cases hid:id=s
  .subst hid;simp only[if_true] at he;omega
  simp only[hid,if_false] at he hs ⊢;exact h.ref id he hs
theorem Pd{s c k:Nat}{o:Ob}(h:Ok w0 m)(hc:m.fr c)(eS:w0.heap.size<=c)(ho:tc (m.install s c k o) s o):Ok w0 (m.install s c k o):=by
 have hk:∀x,x<m.w.heap.size-> ¬m.own x->(m.install s c k o).w.heap[x]?=m.w.heap[x]? /\ ¬(m.install s c k o).own x:=fun x _ hn=>⟨rfl,fun h=>hn (Pe hc h)⟩
 have dY:ub m (m.install s c k o):=by
  refine⟨hk,fun id=>?_,fun id he hs=>?_⟩
  .simp only[Mem.install,aN];split
   .rename_i e;subst e;simp only;omega
   exact bN _
  simp only[Mem.install,aN] at he hs ⊢;by_cases hid:id=s
  .subst hid;simp only[if_true] at he;omega
  simp only[hid,if_false] at he hs ⊢;exact⟨hs,trivial,trivial,trivial⟩
 exact {
  os:=h.os
  tape:=h.tape
  output:=h.output
  size:=h.size
  base:=h.base
  obj:=by
   intro id o' k8;by_cases hid:id=s
   .subst hid;simp only[Mem.install,aN,if_true,fI] at k8;exact k8▸ho
   have hs:(m.install s c k o).σ id=m.σ id:=by simp[Mem.install,aN,hid]
   have u7:(m.install s c k o).κ id=m.κ id:=by simp[Mem.install,aN,hid]
   simp only[Mem.install,aN,hid,if_false] at k8;exact(h.obj id o' k8).ev dY hs u7 rfl
  ij:=by
   intro id o' k8 hm;by_cases hid:id=s
   .subst hid;simp only[Mem.install,aN,if_true];exact⟨eS,fun h=>h.2 rfl⟩
   simp only[Mem.install,aN,hid,if_false] at k8 ⊢;exact⟨(h.ij id o' k8 hm).1,fun hf=>(h.ij id o' k8 hm).2 hf.1⟩
  frlt:=fun x hx=>h.frlt x hx.1
  inj:=by
   intro id eY o1 o2 h1 m1 h2 m2 he;by_cases hid:id=s<;>by_cases tD:eY=s
   .rw[hid,tD]
   .subst hid;simp only[Mem.install,aN,tD,if_true,if_false] at h2 he;exact((h.ij eY o2 h2 m2).2 (he▸hc)).elim
   .subst tD;simp only[Mem.install,aN,hid,if_true,if_false] at h1 he;exact((h.ij id o1 h1 m1).2 (he.symm▸hc)).elim
   simp only[Mem.install,aN,hid,tD,if_false] at h1 h2 he;exact h.inj id eY o1 o2 h1 m1 h2 m2 he}
def Mem.kX(m:Mem)(id:Nat):Mem:=⟨m.w,dK m.aj id ((m.aj id).1,none),m.σ,m.κ,fun c=>m.fr c\/c=m.σ id⟩
theorem aiF{id:Nat}{o:Ob}(ho:(m.aj id).2=some o)(hm:o.fM=true){x:Nat}(h:(m.kX id).own x):m.own x:=by
 rcases h with (h|h)|⟨eY,o',h1,h2,h3⟩
 .exact .inl h
 .exact .inr ⟨id,o,ho,hm,h.symm⟩
 simp only[Mem.kX,aN] at h1 h3;by_cases hid:eY=id
 .simp[hid] at h1
 simp only[hid,if_false] at h1;exact .inr ⟨eY,o',h1,h2,h3⟩
theorem HQ{id:Nat}{o:Ob}(ho:(m.aj id).2=some o)(hm:o.fM=true):Ev m (m.kX id) where
 os:=rfl
 tape:=rfl
 output:=rfl
 size:=bN _
 keep _ _ _:=rfl
 fM x _ h:=by
  obtain⟨eY,o',h1,h2,h3⟩:=h;simp only[Mem.kX,aN] at h1 h3;by_cases hid:eY=id
  .simp[hid] at h1
  simp only[hid,if_false] at h1;exact⟨eY,o',h1,h2,h3⟩
 less x _ hn h:=hn (aiF ho hm h)
 gen eY:=by
  simp only[Mem.kX,aN];split
  .rename_i e;subst e;exact bN _
  exact bN _
 ref eY he hs:=by
  simp only[Mem.kX,aN] at he hs ⊢;by_cases hid:eY=id
  .simp[hid] at hs
  simp only[hid,if_false] at he hs ⊢;exact⟨hs,trivial,trivial,trivial⟩
theorem Yw{id:Nat}{o:Ob}(h:Ok w0 m)(ho:(m.aj id).2=some o)(hm:o.fM=true):Ok w0 (m.kX id) where
 os:=h.os
 tape:=h.tape
 output:=h.output
 size:=h.size
 base:=h.base
 obj eY o' h1:=by
  simp only[Mem.kX,aN] at h1;by_cases hid:eY=id
  .simp[hid] at h1
  simp only[hid,if_false] at h1;exact(h.obj eY o' h1).ev (HQ ho hm).zero rfl rfl rfl
 ij eY o' h1 h2:=by
  simp only[Mem.kX,aN] at h1 ⊢;by_cases hid:eY=id
  .simp[hid] at h1
  simp only[hid,if_false] at h1;refine⟨(h.ij eY o' h1 h2).1,?_⟩;rintro (hf|hf)
  .exact(h.ij eY o' h1 h2).2 hf
  exact hid (h.inj eY id o' o h1 h2 ho hm hf)
 frlt c hc:=by
  rcases hc with hf|rfl
  .exact h.frlt c hf
  exact(h.obj id o ho).lt
 inj IY IZ o1 o2 h1 m1 h2 m2 he:=by
  simp only[Mem.kX,aN] at h1 h2 he;by_cases hid:IY=id
  .simp[hid] at h1
  by_cases tD:IZ=id
  .simp[tD] at h2
  simp only[hid,tD,if_false] at h1 h2;exact h.inj IY IZ o1 o2 h1 m1 h2 m2 he
def Mem.km(m:Mem)(w':World)(id:Nat)(o:Ob):Mem:=⟨w',dK m.aj id ((m.aj id).1,some o),m.σ,m.κ,m.fr⟩
section
variable {m:Mem} {w':World} {id:Nat} {o old:Ob} (ho:(m.aj id).2=some old) (hm:old.fM=true)
include ho hm
theorem apR{x:Nat}(h:(m.km w' id o).own x):m.own x:=by
 rcases h with h|⟨eY,o',h1,h2,h3⟩
 .exact .inl h
 simp only[Mem.km,aN] at h1 h3;by_cases hid:eY=id
 .exact .inr ⟨id,old,ho,hm,hid▸h3⟩
 simp only[hid,if_false] at h1;exact .inr ⟨eY,o',h1,h2,h3⟩
theorem Na(ch:kM ((m.aj id).1,some o)=kM ((m.aj id).1,some old))(zb:w'.os=m.w.os)(ht:w'.tape=m.w.tape)(nA:w'.output=m.w.output)(hs:w'.heap.size=m.w.heap.size)
  (hk:∀c,c≠m.σ id->w'.heap[c]?=m.w.heap[c]?):Ev m (m.km w' id o) where
 os:=zb
 tape:=ht
 output:=nA
 size:=Fb hs.symm
 keep c _ hn:=hk c fun e=>hn ⟨id,old,ho,hm,e.symm⟩
 fM x _ h:=by
  obtain⟨eY,o',h1,h2,h3⟩:=h;simp only[Mem.km,aN] at h1 h3;by_cases hid:eY=id
  .exact⟨id,old,ho,hm,hid▸h3⟩
  simp only[hid,if_false] at h1;exact⟨eY,o',h1,h2,h3⟩
 less x _ hn h:=hn (apR ho hm h)
 gen eY:=by
  simp only[Mem.km,aN];split
  .rename_i e;subst e;exact bN _
  exact bN _
 ref eY he hss:=by
  simp only[Mem.km,aN] at he hss ⊢;by_cases hid:eY=id
  .subst hid;refine⟨by simp[ho],trivial,trivial,?_⟩;simp only[if_true];rw[ch,<- ho]
  simp only[hid,if_false] at he hss ⊢;exact⟨hss,trivial,trivial,trivial⟩
theorem Qj(h:Ok w0 m)(ch:kM ((m.aj id).1,some o)=kM ((m.aj id).1,some old))(zb:w'.os=m.w.os)(ht:w'.tape=m.w.tape)(nA:w'.output=m.w.output)(hs:w'.heap.size=m.w.heap.size)
  (hk:∀c,c≠m.σ id->w'.heap[c]?=m.w.heap[c]?) (Cu:tc (m.km w' id o) id o):Ok w0 (m.km w' id o) where
 os:=zb.trans h.os
 tape:=ht.trans h.tape
 output:=nA.trans h.output
 size:=mD h.size (Fb hs.symm)
 base c hc:=by have:=(h.ij id old ho hm).1;exact(hk c aa).trans (h.base c hc)
 obj eY o' h1:=by
  simp only[Mem.km,aN] at h1;by_cases hid:eY=id
  .subst hid;simp only[if_true,fI] at h1;exact h1▸Cu
  simp only[hid,if_false] at h1;refine(h.obj eY o' h1).ev (Na ho hm ch zb ht nA hs hk).zero rfl rfl (hk _ fun e=>?_);cases Ap:o'.fM with
  |true=>exact hid (h.inj eY id o' old h1 Ap ho hm e)
  |false=>exact(h.obj eY o' h1).calm Ap (.inr ⟨id,old,ho,hm,e.symm⟩)
 ij eY o' h1 h2:=by
  simp only[Mem.km,aN] at h1 ⊢;by_cases hid:eY=id
  .subst hid;exact h.ij eY old ho hm
  simp only[hid,if_false] at h1;exact h.ij eY o' h1 h2
 frlt c hc:=by rw[show(m.km w' id o).w.heap.size=m.w.heap.size from hs];exact h.frlt c hc
 inj IY IZ o1 o2 h1 m1 h2 m2 he:=by
  simp only[Mem.km,aN] at h1 h2 he;by_cases hid:IY=id<;>by_cases tD:IZ=id
  .rw[hid,tD]
  .simp only[tD,if_false] at h2;exact hid▸h.inj id IZ old o2 ho hm h2 m2 (hid▸he)
  .simp only[hid,if_false] at h1;exact tD▸h.inj IY id o1 old h1 m1 ho hm (tD▸he)
  simp only[hid,tD,if_false] at h1 h2;exact h.inj IY IZ o1 o2 h1 m1 h2 m2 he
end
end
end Go.Abs
namespace Go.Abs
def KJ:Value->Option PV
 | .bool b=>some (.bool b)
 | .int k n=>some (.int k n)
 | .string s=>some (.str s)
 | .pointer none=>some .tQ
 | .slice none 0 0=>some .nils
 | .map none=>some .qp
 | .nilFunc=>some .jx
 | .nilIface=>some .nili
 |_=>none
def HG:List Value->Option (List PV)
 |[]=>some []
 |v::r=>match KJ v,HG r with
  |some x,some xs=>some (x::xs)
  |_,_=>none
def RR:Value->Option V
 | .agg cs=>(HG cs.toList).map fun l=>.agg (l.map .p)
 |v=>(KJ v).map fun x=>.one (.p x)
def cE:Operand->Option aR
 | .tmp t=>some (.t t)
 | .const (.int .i64 n)=>some (.i n)
 | .const (.bool b)=>some (.b b)
 | .const v=>(RR v).map .k
 | .func f=>some (.k (.one (.p (.fn f [] []))))
 | .global _=>none
def pS:List Operand->Option (List aR)
 |[]=>some []
 |a::r=>match cE a,pS r with
  |some x,some xs=>some (x::xs)
  |_,_=>none
def wZ:Option Operand->Option (Option aR)
 |none=>some none
 |some a=>(cE a).map some
def Bp(P:Program)(t:TypeId):Option (List PV):=
 match P.info? t with
 |some i=>match i.zero with
  |some (.agg cs)=>if cs.size=i.size then HG cs.toList else none
  |some v=>if i.size=1 then (KJ v).map fun x=>[x] else none
  |none=>none
 |none=>none
def qQ(P:Program)(t:TypeId):Option (Option Nat):=
 match P.underlying t,P.info? t with
 |some (.struct _),some i=>some (some i.size)
 |some (.array _ _),some i=>some (some i.size)
 |some _,some i=>if i.size=1 then some none else none
 |_,_=>none
def wJ(P:Program)(t:TypeId):Option Nat:=(P.info? t).map (·.size)
def EK(place:Nat->Option (Nat×Nat))(zl:Nat):List (Nat×Operand)->Option (List (Nat×Nat×aR))
 |[]=>some []
 |(i,x)::r=>match place i,cE x,EK place zl r with
  |some (off,n),some a,some q=>if off+n<=zl then some ((off,n,a)::q) else none
  |_,_,_=>none
def HU:Nat->List (Nat×Operand)->Option (List aR)
 |_,[]=>some []
 |k,(i,x)::r=>match cE x,HU (k+1) r with
  |some a,some q=>if i=k then some (a::q) else none
  |_,_=>none
def V7(P:Program)(t:TypeId):Option Bool:=
 match P.underlying t with
 |some (.int _)=>some true
 |some .bool=>some false
 |_=>none
def JA(P:Program):Nat->List Field->Option (List Bool)
 |_,[]=>some []
 |k,f::r=>match V7 P f.type,JA P (k+1) r with
  |some b,some bs=>if f.offset=k/\f.name≠ "_" then some (b::bs) else none
  |_,_=>none
def Je:Operand->Bool
 | .const .nilIface=>true
 |_=>false
def KY(P:Program)(t:TypeId)(x y:Operand):Option uN:=
 match P.underlying t with
 |some (.interface _)=>if Je x||Je y then some .ifc else none
 |some .bool=>some .bool
 |some (.pointer _)=>some .ptr
 |some (.slice _)=>some .slc
 |some (.map _ _)=>some .map
 |some (.func _ _ _)=>some .fnc
 |some (.struct fs)=>if !P.stoodInHeld t&& !P.eqGuardType P.depth t then (JA P 0 fs.toList).map .str else none
 |_=>none
def zU(P:Program)(t:TypeId):Option (TypeId×Nat×Nat×List PV):=
 match P.underlying t with
 |some (.slice e)=>match P.info? e,Bp P e with
  |some i,some z=>if 0<i.size/\0<i.bytes then some (e,i.size,i.bytes,z) else none
  |_,_=>none
 |_=>none
def keyOf(P:Program)(k:TypeId):Option Nat:=
 match P.underlying k with
 |some (.int _)=>some 0
 |some .string=>some 1
 |some .bool=>some 2
 |_=>none
def QJ(P:Program)(t:TypeId):Bool:=
 match P.info? t with
 |some i=>match i.zero with
  |some (.agg _)=>true
  |_=>false
 |none=>false
def Fy(P:Program)(site:Nat)(o:Oper):Option lB:=
 match o.op with
 | .move x=>(cE x).map .jU
 | .assign x=>(cE x).map .jU
 | .pick c a b=>match cE c,cE a,cE b with
  |some c,some a,some b=>some (.pick c a b)
  |_,_,_=>none
 | .alloc t=>(Bp P t).map (.alloc site)
 | .box _ x=>(cE x).map (.box site)
 | .build t ps=>match P.underlying t,Bp P t with
  |some (.struct fs),some z=>if fs.all fun f=>(P.info? f.type).isSome then
    (EK (fun i=>(fs[i]?).map fun f=>(f.offset,P.cellsOf f.type)) z.length ps.toList).map (.build z)
   else none
  |some (.array _ e),some z=>match P.info? e with
   |some i=>(EK (fun k=>some (k*i.size,i.size)) z.length ps.toList).map (.build z)
   |none=>none
  |_,_=>none
 | .buildSlice t n ps=>match zU P t,HU 0 ps.toList with
  |some (e,sz,_,_),some as=>if as.length=n/\n*sz<=16777216 then some (.fi site e sz as) else none
  |_,_=>none
 | .load t a=>match qQ P t,cE a with
  |some k,some a=>some (.load k a)
  |_,_=>none
 | .store t a x=>match wJ P t,cE a,cE x with
  |some n,some a,some x=>some (.store n a x)
  |_,_,_=>none
 | .nilCheck x=>(cE x).map .xT
 | .binOp op t x y _=>match cE x,cE y with
  |some a,some b=>match P.underlying t with
   |some (.int _)=>some (.bin op a b)
   |some .string=>some (.bin op a b)
   |_=>match op,KY P t x y with
    | .eql,some k=>some (.eqc k false a b)
    | .neq,some k=>some (.eqc k true a b)
    |_,_=>none
  |_,_=>none
 | .unOp op _ x=>match op with
  | .not=>(cE x).map (.un .not)
  | .neg=>(cE x).map (.un .neg)
  |_=>none
 | .convert s d x=>match P.underlying s,P.underlying d,cE x with
  |some (.int _),some (.int k),some a=>some (.conv k a)
  |some (.slice e),some .string,some a=>match P.underlying e with
   |some (.int .u8)=>some (.bstr a)
   |_=>none
  |_,_,_=>none
 | .makeFunc (.func f) a b=>match pS a.toList,pS b.toList with
  |some x,some y=>some (.mkfn f x y)
  |_,_=>none
 | .makeMap t none=>match P.underlying t with
  |some (.map _ e)=>(qQ P e).map fun k=>.mkmap site k.isSome
  |_=>none
 | .makeSlice t l c=>match zU P t,cE l,cE c with
  |some (e,sz,bytes,z),some l,some c=>some (.rS site e sz bytes z l c)
  |_,_,_=>none
 | .slice t x lo hi none=>match cE x,wZ lo,wZ hi with
  |some a,some l,some h=>match P.underlying t with
   |some (.slice e)=>(wJ P e).map fun sz=>.slice sz a l h
   |some .string=>some (.sslice a l h)
   |_=>none
  |_,_,_=>none
 | .fieldAddr s x f=>match P.underlying s,cE x with
  |some (.struct fs),some a=>match fs[f]? with
   |some d=>if P.cellsOf d.type≠0 then some (.xf d.offset a) else none
   |none=>none
  |_,_=>none
 | .field t x f=>match P.underlying t,cE x with
  |some (.struct fs),some a=>match fs[f]? with
   |some d=>(qQ P d.type).map fun k=>.fld d.offset k a
   |none=>none
  |_,_=>none
 | .indexAddr t x i=>match cE x,cE i with
  |some a,some b=>match P.underlying t with
   |some (.slice e)=>(wJ P e).map fun sz=>.ql sz a b
   |some (.array n e)=>(wJ P e).map fun sz=>.ud n sz a b
   |_=>none
  |_,_=>none
 | .index t x i=>match cE x,cE i with
  |some a,some b=>match P.underlying t with
   |some (.array n e)=>match wJ P e,qQ P e with
    |some sz,some k=>some (.aidx n sz k a b)
    |_,_=>none
   |some .string=>some (.sidx a b)
   |_=>none
  |_,_=>none
 | .lookup t x k ok=>match P.underlying t,cE x,cE k with
  |some (.map kt e),some a,some b=>match Bp P e,qQ P e with
   |some z,some q=>match keyOf P kt with
    |some kd=>if QJ P e=q.isSome then some (.lookup kd z q.isSome ok a b) else none
    |none=>none
   |_,_=>none
  |_,_,_=>none
 | .mapUpdate t m k v=>match P.underlying t,cE m,cE k,cE v with
  |some (.map kt e),some a,some b,some c=>match qQ P e with
   |some q=>(keyOf P kt).map fun kd=>.mupd kd q.isSome a b c
   |none=>none
  |_,_,_,_=>none
 | .insert t m k v=>match P.underlying t,cE m,cE k,cE v with
  |some (.map kt e),some a,some b,some c=>match qQ P e with
   |some q=>(keyOf P kt).map fun kd=>.mupd kd q.isSome a b c
   |none=>none
  |_,_,_,_=>none
 | .extract x i=>(cE x).map fun a=>.extract a i
 | .call c=>match c.callee,pS c.args.toList with
  | .value f,some as=>(cE f).map fun g=>.call site g as
  | .builtin .len,some [a]=>match c.argTypes[0]? with
   |some t=>match P.underlying t with
    |some .string=>some (.slen a)
    |some (.slice _)=>some (.CG a)
    |some (.map _ _)=>some (.mlen a)
    |_=>none
   |none=>none
  | .builtin .append,some [a,b]=>match c.argTypes[0]?,c.argTypes[1]? with
   |some t,some u=>match zU P t with
    |some (e,sz,bytes,_)=>if t=u/\c.argTypes.size=2 then some (.append site e sz bytes a b) else none
    |none=>none
   |_,_=>none
  | .builtin .max,some [a,b]=>some (.max a b)
  | .builtin .min,some [a,b]=>some (.min a b)
  | .builtin .clear,some [a]=>match c.argTypes[0]? with
   |some t=>(zU P t).map fun q=>.clear q.2.2.2 a
   |none=>none
  |_,_=>none
 |_=>none
def aR.tmps:aR->List Nat
 | .t n=>[n]
 |_=>[]
def EW:List aR->List Nat
 |[]=>[]
 |a::r=>a.tmps++EW r
def Wn:Option aR->List Nat
 |some a=>a.tmps
 |none=>[]
def Wo:List (Nat×Nat×aR)->List Nat
 |[]=>[]
 |(_,_,a)::r=>a.tmps++Wo r
def lB.tmps:lB->List Nat
 | .jU x| .box _ x| .load _ x| .xT x| .un _ x| .conv _ x| .bstr x| .xf _ x| .fld _ _ x| .extract x _| .slen x| .CG x| .mlen x| .clear _ x=>x.tmps
 | .pick c a b=>c.tmps++a.tmps++b.tmps
 | .alloc _ _| .mkmap _ _| .bad=>[]
 | .build _ ps=>Wo ps
 | .fi _ _ _ ps=>EW ps
 | .store _ a x| .bin _ a x| .eqc _ _ a x| .ql _ a x| .ud _ _ a x| .aidx _ _ _ a x| .sidx a x| .lookup _ _ _ _ a x| .append _ _ _ _ a x| .max a x| .min a x=>a.tmps++x.tmps
 | .mkfn _ a b=>EW a++EW b
 | .rS _ _ _ _ _ a b=>a.tmps++b.tmps
 | .slice _ x a b| .sslice x a b=>x.tmps++Wn a++Wn b
 | .mupd _ _ a b c=>a.tmps++b.tmps++c.tmps
 | .call _ f as=>f.tmps++EW as
def aO.GR(o:aO):List Nat:=
 o.op.tmps++match o.guard with
  |some (t,_)=>[t]
  |none=>[]
def FH(a b:aO):Bool:=
 (match a.dst with
  |some d=> !b.GR.contains d&&b.dst !=some d
  |none=>true)&&
 (match b.dst with
  |some d=> !a.GR.contains d
  |none=>true)
def Ou(o:aO):Nat->List aO->Bool
 |_,[]=>true
 |j,x::r=>(o.anc.testBit j||FH x o)&&Ou o (j+1) r
def Lb:List aO->List aO->Bool
 |[],_=>true
 |o::os,past=>Ou o 0 past&&Lb os (past++[o])
def Rz(P:Program)(site:Nat)(o:Oper):lB:=(Fy P site o).getD .bad
def YA(nt:Nat):Option Nat->Bool
 |some d=>decide (d<nt)
 |none=>true
def Us(dst:Nat->Option Nat):Option (Nat×Bool)->Option (Option (Nat×Bool))
 |none=>some none
 |some (j,w)=>(dst j).map fun t=>some (t,w)
def Dz(P:Program)(dst:Nat->Option Nat)(base nt:Nat)(anc:Nat)(o:Oper):Option aO:=if YA nt o.dst then (Us dst o.guard).map fun g=>⟨o.dst,Rz P base o,g,anc⟩ else none
def vP(P:Program)(dst anc:Nat->Option Nat)(base nt:Nat):Nat->List Oper->Option (List aO)
 |_,[]=>some []
 |i,o::r=>match Dz P dst ((base+i)*64) nt ((anc i).getD 0) o,vP P dst anc base nt (i+1) r with
  |some x,some xs=>some (x::xs)
  |_,_=>none
def Hr(ops:Array Oper):Bool:=(List.range ops.size).all fun i=>match ops[i]? with
 |some o=>o.after.all fun e=> !Region.binds .any e||decide (e.on<i)
 |none=>true
def oL(P:Program)(f nt:Nat):Code->Option aK
 | .skip=>some .skip
 | .region id ops draw=>
  let b:=if draw then Region.before ops else #[]
  match vP P (fun j=>(ops[j]?).bind (·.dst)) (fun i=>b[i]?) ((f*1000+id)*1000) nt 0 ops.toList with
  |some xs=>if draw then (if Hr ops&&Lb xs [] then some (.region true xs) else none) else some (.region false xs)
  |none=>none
 | .seq a b=>match oL P f nt a,oL P f nt b with
  |some x,some y=>some (.seq x y)
  |_,_=>none
 | .cond c a b=>match cE c,oL P f nt a,oL P f nt b with
  |some c,some x,some y=>some (.cond c x y)
  |_,_,_=>none
 | .block id c=>(oL P f nt c).map (.block id)
 | .loop c=>(oL P f nt c).map .loop
 | .exit id=>some (.exit id)
 | .scope c=>oL P f nt c
 | .label _=>some .skip
 | .ret=>some .ret
 |_=>some .bad
def CS(P:Program):List ResultVar->Option (List (Nat×Option (Option Nat)))
 |[]=>some []
 | .tmp t::r=>(CS P r).map ((t,none):: ·)
 | .cell t ty::r=>match qQ P ty,CS P r with
  |some k,some q=>some ((t,some k)::q)
  |_,_=>none
def BR(P:Program)(f:Nat):Option aX:=
 match P.funcs[f]? with
 |none=>none
 |some fn=>match fn.body with
  |none=>none
  |some c=>if fn.name== "runtime.NumGoroutine" then none else
   match oL P f fn.ntmps c,CS P fn.results.toList with
   |some b,some r=>some ⟨fn.ntmps,r,b⟩
   |_,_=>none
end Go.Abs
namespace Go.Abs
variable {P:Program} {w0:World}
section
variable{m:Mem}
def iZ(m:Mem)(ak:Env)(tmps:Array Value):Prop:=∀t,bQ m (ak t) (tmps.getD t undef)
theorem iZ.ev{m':Mem}(h:Ev m m'){ak:Env}{tmps:Array Value}(hr:iZ m ak tmps):iZ m' ak tmps:=fun t=>(hr t).ev h.zero
theorem bQ.one{c:C}{v:Value}:bQ m (.one c) v↔cS m c v:=Iff.rfl
theorem bQ.agg{cs:List C}{v:Value}:bQ m (.agg cs) v↔ ∃arr,v=.agg arr/\dr m cs arr.toList:=Iff.rfl
theorem bQ.of1{x:V}{v:Value}(h:nJ m x v):bQ m x v:=by
 cases x with
 |tup vs=>exact h.elim
 |_=>exact h
theorem RQ{w:World}{own:Nat->Prop}{v:Value}{x:PV}(h:KJ v=some x):bY w own x v:=by
 unfold KJ at h;split at h<;>first
  |(cases h;constructor;done)
  |cases h
theorem Ya{w:World}{own:Nat->Prop}:∀ {vs:List Value} {xs:List PV},HG vs=some xs->dk w own xs vs:=by
 intro vs
 induction vs with
 |nil=>intro xs h;simp[HG] at h;subst h;exact⟨rfl,fun j x u a _=>by simp at a⟩
 |cons v r ih=>
  intro xs h;simp only[HG] at h;split at h
  .rename_i x ys h1 h2;cases h;obtain⟨hl,hr⟩:=ih h2;refine⟨by simp[hl],fun j z u a b=>?_⟩;cases j with
   |zero=>simp at a b;subst a b;exact RQ h1
   |succ j=>simp at a b;exact hr j z u a b
  cases h
theorem dk.CX{xs:List PV}{vs:List Value}(h:dk m.w m.own xs vs):dr m (xs.map .p) vs:=by refine⟨by simp[h.1],fun j x u a b=>?_⟩;simp only[fZ,dI] at a;obtain⟨y,hy,rfl⟩:=a;exact .p (h.2 j y u hy b)
theorem ah2{v:Value}{x:V}(h:RR v=some x):bQ m x v:=by
 unfold RR at h;split at h
 .simp only[dI] at h;obtain⟨xs,h1,rfl⟩:=h;exact bQ.agg.2 ⟨_,rfl,(Ya h1).CX⟩
 simp only[dI] at h;obtain⟨y,h1,rfl⟩:=h;exact bQ.one.2 (.p (RQ h1))
theorem eB{ak:Env}{a:Act}{x:Operand}{y:aR}(h:cE x=some y)(hr:iZ m ak a.tmps):bQ m (ev ak y) (a.eval x):=by
 unfold cE at h;split at h
 .cases h;exact hr _
 .cases h;exact bQ.one.2 (.p (.int _ _))
 .cases h;exact bQ.one.2 (.p (.bool _))
 .simp only[dI] at h;obtain⟨v,h1,rfl⟩:=h;exact ah2 h1
 .cases h;exact bQ.one.2 (.p (.fn #[] #[] rfl rfl (fun j x u a=>by simp at a) (fun j x u a=>by simp at a)))
 cases h
def Does(P:Program)(ρ:Operand->Value)(o:Oper)(w:World)(x:Value)(w':World):Prop:=
 (execOp ρ o).run P w=.ok (.value x) w'\/((execOp ρ o).run P w=.ok .skip w'/\x=undef)
def fJ(P:Program)(w0:World)(ρ:Operand->Value)(o:Oper)(m:Mem)(v:V)(u:List eN):Prop:=∃x m',Does P ρ o m.w x m'.w/\Ok w0 m'/\Ev m m'/\m'.fr=m.fr/\m'.aj=app u m.aj/\bQ m' v x
theorem fJ.calm{ρ:Operand->Value}{o:Oper}{v:V}{x:Value}(h:Ok w0 m)(ml:(execOp ρ o).run P m.w=.ok (.value x) m.w)(hv:bQ m v x):fJ P w0 ρ o m v []:=
 ⟨x,m,.inl ml,h,Ev.refl m,rfl,rfl,hv⟩
section
variable {m:Mem} {ak:Env} {a:Act} {o:Oper} (au:Ok w0 m) (hr:iZ m ak a.tmps)
include au hr
theorem aeV{x:Operand}{y:aR}(ho:o.op=.move x\/o.op=.assign x)(hx:cE x=some y):fJ P w0 a.eval o m (ev ak y) []:=
 .calm au (by rcases ho with ho|ho<;>simp[execOp,ho]) (eB hx hr)
theorem aqs{c x y:Operand}{c' x' y':aR}{t:Bool}(ho:o.op=.pick c x y)(hc:cE c=some c')(hx:cE x=some x')(hy:cE y=some y')
  (ht:ev ak c'=.one (.p (.bool t))):fJ P w0 a.eval o m (if t then ev ak x' else ev ak y') []:=by
 have h1:=eB hc hr;rw[ht] at h1;obtain⟨⟩:cS m (.p (.bool t)) _:=h1;rename_i hp;generalize hb:a.eval c=b at hp;cases hp;refine .calm (x:=if t then a.eval x else a.eval y) au ?_ ?_
 .simp[execOp,ho,hb,asBool]
 cases t
 .exact eB hy hr
 exact eB hx hr
end
theorem Ez{b:Bool}{v:Value}(h:bQ m (.one (.p (.bool b))) v):v=.bool b:=by obtain⟨hp⟩:cS m _ v:=h;cases hp;rfl
theorem CC{k:IntKind}{n:Int}{v:Value}(h:bQ m (.one (.p (.int k n))) v):v=.int k n:=by obtain⟨hp⟩:cS m _ v:=h;cases hp;rfl
theorem MA{s:ByteArray}{v:Value}(h:bQ m (.one (.p (.str s))) v):v=.string s:=by obtain⟨hp⟩:cS m _ v:=h;cases hp;rfl
theorem Pg{v:Value}(h:bQ m (.one (.p .nils)) v):v=.slice none 0 0:=by obtain⟨hp⟩:cS m _ v:=h;cases hp;rfl
theorem al0{v:Value}(h:bQ m (.one (.p .zs)) v):∃a,v=.slice a 0 0:=by obtain⟨hp⟩:cS m _ v:=h;cases hp;exact⟨_,rfl⟩
theorem abD{v:Value}(h:bQ m (.one (.p .qp)) v):v=.map none:=by obtain⟨hp⟩:cS m _ v:=h;cases hp;rfl
theorem mS{x:PV}{v:Value}(h:bY m.w m.own x v):bQ m (.one (.p x)) v:=bQ.one.2 (.p h)
def Mem.fresh(m:Mem)(ob:Obj)(s k:Nat)(o:Ob):Mem:=(m.later (m.w.alloc ob) (· =m.w.heap.size)).install s m.w.heap.size k o
theorem Ul(au:Ok w0 m)(ob:Obj)(s k:Nat)(o:Ob):(m.fresh ob s k o).fr=m.fr:=by
 funext c;simp only[Mem.fresh,Mem.install,Mem.later];apply propext;constructor
 .rintro ⟨h|h,h2⟩
  .exact h
  exact(h2 h).elim
 intro h;exact⟨.inl h,fun e=>by have:=au.frlt c h;omega⟩
theorem Ov(ob:Obj)(s k:Nat)(o:Ob):Ev m (m.fresh ob s k o):=Pb (ME (fR.alloc m.w ob) fun c hc=>Fb hc.symm) (.inr rfl) (.inl (bN _))
theorem aal(ob:Obj)(s k:Nat)(o:Ob):(m.fresh ob s k o).w.heap[(m.fresh ob s k o).σ s]?=some ob:=by
 have:(m.fresh ob s k o).σ s=m.w.heap.size:=by simp[Mem.fresh,Mem.install,aN]
 rw[this];exact heap_alloc_new m.w ob
theorem aam(au:Ok w0 m)(ob:Obj)(s k:Nat)(o:Ob)(ho:tc (m.fresh ob s k o) s o):Ok w0 (m.fresh ob s k o):=Pd (Pq au (fR.alloc m.w ob) fun c hc=>by subst hc;exact⟨bN _,af⟩) (.inr rfl) au.size ho
theorem Uk(m:Mem)(ob:Obj)(s k:Nat)(o:Ob):(m.fresh ob s k o).aj=app [(s,((m.aj s).1+1,some o))] m.aj:=rfl
theorem aan(au:Ok w0 m)(s:Nat)(t:TypeId)(cs:List C)(arr:Array Value)(hc:dr m cs arr.toList):
  Ok w0 (m.fresh (.cells arr t) s 0 (.var cs))/\bQ (m.fresh (.cells arr t) s 0 (.var cs)) (.one (.aY s ((m.aj s).1+1) 0)) (.pointer (some ⟨m.w.heap.size,0,none⟩)):=by
 refine⟨aam au _ s 0 _ ⟨arr,t,aal _ s 0 _,hc.ev (Ov _ s 0 _).zero⟩,bQ.one.2 (.aY _ ?_ fun _ _=>?_)⟩
 .simp[Mem.fresh,Mem.install,Mem.later,aN]
 simp[Mem.fresh,Mem.install,aN]
theorem Ns{t:TypeId}{z:List PV}(h:Bp P t=some z):∃v i,P.info? t=some i/\i.zero=some v/\v.cells.size=i.size/\z.length=i.size/\ ∀w own,dk w own z v.cells.toList:=by
 unfold Bp at h;split at h
 .rename_i i hi;split at h
  .rename_i cs hz;split at h
   .rename_i hs;have hr:=fun w own=>Ya (w:=w) (own:=own) h;refine⟨_,i,hi,hz,by simpa [Value.cells] using hs,?_,fun w own=>by simpa [Value.cells] using hr w own⟩;have:=(hr default (fun _=>False)).1;simp at this;omega
   cases h
  .rename_i v hz hv;split at h
   .rename_i hs;simp only[dI] at h;obtain⟨x,hx,rfl⟩:=h;have hr:=fun w own=>RQ (w:=w) (own:=own) hx;have hc:=(hr default (fun _=>False)).cells;refine⟨v,i,hi,hv,by simp[hc,hs],by simp[hs],fun w own=>?_⟩;rw[hc];refine⟨rfl,fun j y u a b=>?_⟩;cases j with
    |zero=>simp at a b;subst a b;exact hr w own
    |succ j=>simp at a
   cases h
  cases h
 cases h
section
variable {m:Mem} {ak:Env} {a:Act} {o:Oper} (au:Ok w0 m) (hr:iZ m ak a.tmps)
include au
theorem ap2{t:TypeId}{z:List PV}{s:Nat}(ho:o.op=.alloc t)(hz:Bp P t=some z):
  fJ P w0 a.eval o m (.one (.aY s ((m.aj s).1+1) 0)) [(s,((m.aj s).1+1,some (.var (z.map .p))))]:=by
 obtain⟨v,i,hi,hv,hs,hl,dE⟩:=Ns hz;obtain⟨h1,h2⟩:=aan au s t (z.map .p) v.cells (dE m.w m.own).CX;refine⟨_,_,.inl ?_,h1,Ov _ s 0 _,Ul au _ s 0 _,Uk _ _ s 0 _,h2⟩;simp[execOp,ho,Instr.alloc,zeroValue,typeInfo,hi,hv,newVar,newRow];rfl
include hr
theorem ap5{t:TypeId}{x:Operand}{y:aR}{cs:List C}{s:Nat}(ho:o.op=.box t x)(hx:cE x=some y)(hc:rq (ev ak y)=some cs):
  fJ P w0 a.eval o m (.one (.aY s ((m.aj s).1+1) 0)) [(s,((m.aj s).1+1,some (.var cs)))]:=by
 have hv:=eB hx hr;have de:dr m cs (a.eval x).cells.toList:=by
  generalize ev ak y=w at hc hv;cases w with
  |undef=>simp[rq] at hc
  |tup vs=>simp[rq] at hc
  |one c=>
   simp[rq] at hc;subst hc;rw[(bQ.one.1 hv).cells];refine⟨rfl,fun j y u p q=>?_⟩;cases j with
   |zero=>simp at p q;subst p q;exact hv
   |succ j=>simp at p
  |agg ds=>simp[rq] at hc;subst hc;obtain⟨arr,e,h⟩:=bQ.agg.1 hv;rw[e];exact h
 obtain⟨h1,h2⟩:=aan au s t cs _ de;refine⟨_,_,.inl ?_,h1,Ov _ s 0 _,Ul au _ s 0 _,Uk _ _ s 0 _,h2⟩;simp[execOp,ho,Instr.box,newVar,newRow];rfl
end
end
end Go.Abs
namespace Go.Abs
variable {P:Program} {w0:World}
theorem Ia{α:Type}{sz:Nat}:∀ {es:List (List α)},(∀e∈es,e.length=sz)->es.flatten.length=es.length*sz:=by
 intro es
 induction es with
 |nil=>intro _;simp
 |cons e r ih=>intro h;have h1:=h e af;have h2:=ih fun x hx=>h x (by simp[hx]);simp only[l8,gh,dh,h1,h2,iF,Nat.one_mul];omega
theorem FG{α:Type}{sz:Nat}:∀ {es:List (List α)},(∀e∈es,e.length=sz)->∀ {i:Nat} {e:List α},es[i]?=some e->∀ {j:Nat},j<sz->es.flatten[i*sz+j]?=e[j]? :=by
 intro es
 induction es with
 |nil=>intro _ i e h;simp at h
 |cons x r ih=>
  intro h i e he j hj;have h1:=h x af;cases i with
  |zero=>simp at he;subst he;simp only[l8,zI,kU];rw[De aa]
  |succ i=>simp at he;have h2:=ih (fun y hy=>h y (by simp[hy])) he hj;simp only[l8];rw[Bt (by rw[h1,iF];omega),<- h2];congr 1;rw[h1,iF];omega
theorem Lh{α:Type}{sz:Nat}{es:List (List α)}(h:∀e∈es,e.length=sz){i:Nat}{e:List α}(he:es[i]?=some e):e.length=sz:=h e (aU he)
theorem KE{w:World}{b k:Nat}{cur:Array Value}{ty:TypeId}{fz:Nat×Nat}(h:w.heap[b]?=some (.cells cur ty fz)):w.cell? ⟨b,k,none⟩=cur[k]? :=cell_of_row w b k cur ty fz h
def At (m:Mem)(v:Value)(cs:List C):Prop:=∃b o vs,v=.pointer (some ⟨b,o,none⟩)/\dr m cs vs/\ ∀(j:Nat) (u:Value),vs[j]?=some u->m.w.cell? ⟨b,o+j,none⟩=some u
theorem At.row{m:Mem}{b o:Nat}{cur:Array Value}{ty:TypeId}{fz:Nat×Nat}(h:m.w.heap[b]?=some (.cells cur ty fz)){cs:List C}(hl:o+cs.length<=cur.size)
  (hc:∀(j:Nat) (x:C) (u:Value),cs[j]?=some x->cur[o+j]?=some u->cS m x u):At m (.pointer (some ⟨b,o,none⟩)) cs:=by
 refine⟨b,o,(cur.toList.drop o).take cs.length,rfl,⟨by simp;omega,fun j x u p q=>?_⟩,fun j u q=>?_⟩
 .rw[mW] at q;split at q
  .exact hc j x u p (by simpa using q)
  cases q
 rw[mW] at q;split at q
 .rw[KE h];simpa using q
 cases q
theorem aen{m:Mem}(au:Ok w0 m){x:V}{v:Value}{cs:List C}{rd:List Nat}(h:A7 m.aj x=some (cs,rd))(hv:bQ m x v):At m v cs:=by
 unfold A7 at h;split at h
 .rename_i ps;simp only[fI,kB] at h;obtain⟨rfl,rfl⟩:=h;obtain⟨hp⟩:cS m _ v:=hv;cases hp with
  |box b o f ho hc hr=>
   refine⟨b,o,(List.range ps.length).map f,rfl,⟨af,fun j x u p q=>?_⟩,fun j u q=>?_⟩
   .simp only[fZ,dI] at p q;obtain⟨y,hy,rfl⟩:=p;obtain⟨k,hk,rfl⟩:=q;have sF:k=j:=by
     rw[r4 (by have:=aW.1 hy;obtain⟨h,_⟩:=this;exact h)] at hk
     simpa using hk.symm
    subst sF;exact .p (hr k y hy)
   simp only[fZ,dI] at q;obtain⟨k,hk,rfl⟩:=q;have ay:j<ps.length:=by have:=aW.1 hk;obtain⟨h,_⟩:=this;simpa using h
   rw[r4 ay] at hk;simp at hk;subst hk;exact hc j _ (s0 ay)
 .rename_i id g off;have hv:cS m _ v:=hv;cases hv with
  |aY a hg ha=>
   split at h
   .rename_i g' yE hb;split at h
    .rename_i js;simp only[fI,kB] at h;obtain⟨rfl,rfl⟩:=h;have bj:(m.aj id).2=some (.var yE):=by rw[hb]
     have ha:=ha (by rw[hb];exact js) (by rw[bj];rfl);subst ha;obtain⟨cur,ty,hh,hl,hc⟩:=au.obj id _ bj;simp at hl;by_cases ho:off<=yE.length
     .exact At.row hh (by simp;omega) fun j x u p q=>hc (off+j) x u (by simpa using p) (by simpa using q)
     exact⟨_,_,[],rfl,⟨by simp;omega,fun j x u p q=>by simp at q⟩,fun j u q=>by simp at q⟩
    cases h
   .rename_i g' yE hb;split at h
    .rename_i js;simp only[fI,kB] at h;obtain⟨rfl,rfl⟩:=h;have bj:(m.aj id).2=some (.fvar yE):=by rw[hb]
     have ha:=ha (by rw[hb];exact js) (by rw[bj];rfl);subst ha;obtain⟨cur,ty,fz,hh,hp,_⟩:=au.obj id _ bj;have hl:=hp.1;simp at hl;by_cases ho:off<=yE.length
     .refine At.row hh (by simp;omega) fun j x u p q=>?_;simp only[fZ,dI] at p;obtain⟨y,hy,rfl⟩:=p;exact .p (hp.2 (off+j) y u (by simpa using hy) (by simpa using q))
     exact⟨_,_,[],rfl,⟨by simp;omega,fun j x u p q=>by simp at q⟩,fun j u q=>by simp at q⟩
    cases h
   cases h
 .rename_i id g i off;have hv:cS m _ v:=hv;cases hv with
  |dC a hg ha=>
   have key:∀(sz:Nat) (e:List C) (cur:Array Value) (ty:TypeId) (fz:Nat×Nat),m.w.heap[m.σ id]?=some (.cells cur ty fz)->e.length=sz->(i+1)*sz<=cur.size->
     a=⟨m.σ id,i*sz+off,none⟩->(∀(j:Nat) (x:C) (u:Value),e[j]?=some x->cur[i*sz+j]?=some u->cS m x u)->At m (.pointer (some a)) (e.drop off):=by
    intro sz e cur ty fz hh he ay vX hc;subst vX;rw[iF,Nat.one_mul] at ay;by_cases ho:off<=e.length
    .exact At.row hh (by simp;omega) fun j x u p q=>hc (off+j) x u (by simpa using p) (by rw[<- Hh];exact q)
    exact⟨_,_,[],rfl,⟨by simp;omega,fun j x u p q=>by simp at q⟩,fun j u q=>by simp at q⟩
   have pure:∀(ty sz:Nat) (es:List (List PV)) (e:List PV) (cur:Array Value) (fz:Nat×Nat),m.w.heap[m.σ id]?=some (.cells cur ty fz)->(∀e∈es,e.length=sz)->es.length*sz<=cur.size->
     dk m.w m.own es.flatten (cur.toList.take (es.length*sz))->es[i]?=some e->a=⟨m.σ id,i*sz+off,none⟩->At m (.pointer (some a)) ((e.drop off).map .p):=by
    intro ty sz es e cur fz hh ch hlen dE he vX;have dC:=Lh ch he;have hi:i<es.length:=(aW.1 he).1;have xH:(i+1)*sz<=es.length*sz:=mZ _ hi;rw[List.map_drop];refine key sz (e.map .p) cur ty fz hh (by simpa using dC) aa vX fun j x u p q=>?_;simp only[fZ,dI] at p;obtain⟨y,hy,rfl⟩:=p;have hj:j<sz:=by have:=(aW.1 hy).1;omega
    refine .p (dE.2 (i*sz+j) y u (by rw[FG ch he hj];exact hy) ?_);rw[iF] at xH;rw[mW,if_pos aa]
    simpa using q
   split at h
   .rename_i g' ty sz es hb;split at h
    .rename_i js;simp only[dI,kB] at h;obtain⟨e,he,rfl,rfl⟩:=h;have bj:(m.aj id).2=some (.arr ty sz es):=by rw[hb]
     obtain⟨cur,hh,o9,ch,hl,hm,de,dE⟩:=au.obj id _ bj;exact pure ty sz es e cur _ hh ch (by rw[de];exact mZ _ hl) dE he (ha sz (by rw[hb];exact js) (by rw[hb];rfl))
    cases h
   .rename_i g' ty sz es hb;split at h
    .rename_i js;simp only[dI,kB] at h;obtain⟨e,he,rfl,rfl⟩:=h;have bj:(m.aj id).2=some (.oN ty sz es):=by rw[hb]
     obtain⟨cur,fz,hh,o9,ch,hl,hm,de,dE,_⟩:=au.obj id _ bj;exact pure ty sz es e cur _ hh ch (by rw[de];exact mZ _ hl) dE he (ha sz (by rw[hb];exact js) (by rw[hb];rfl))
    cases h
   .rename_i g' ty sz es hb;split at h
    .rename_i js;simp only[dI,kB] at h;obtain⟨e,he,rfl,rfl⟩:=h;have bj:(m.aj id).2=some (.iN ty sz es):=by rw[hb]
     obtain⟨cur,hh,o9,ch,hl,hm,de,dE⟩:=au.obj id _ bj;have dC:=Lh ch he;have hi:i<es.length:=(aW.1 he).1;have xH:(i+1)*sz<=es.length*sz:=mZ _ hi;have aa2:es.length*sz<=m.κ id*sz:=mZ _ hl;refine key sz e cur ty _ hh dC aa (ha sz (by rw[hb];exact js) (by rw[hb];rfl)) fun j x u p q=>?_;have hj:j<sz:=by have:=(aW.1 p).1;omega
     refine dE.2 (i*sz+j) x u (by rw[FG ch he hj];exact p) ?_;rw[iF] at xH;rw[mW,if_pos aa]
     simpa using q
    cases h
   cases h
 cases h
end Go.Abs
namespace Go.Abs
variable {P:Program} {w0:World}
theorem amb{t:TypeId}{n:Nat}(h:qQ P t=some (some n)):∃d i,P.underlying t=some d/\P.info? t=some i/\i.size=n/\((∃fs,d=.struct fs)\/ ∃k e,d=.array k e):=by
 unfold qQ at h;split at h
 .rename_i fs i h1 h2;simp at h;exact⟨_,i,h1,h2,h,.inl ⟨fs,rfl⟩⟩
 .rename_i k e i h1 h2;simp at h;exact⟨_,i,h1,h2,h,.inr ⟨k,e,rfl⟩⟩
 .split at h<;>simp at h
 cases h
theorem ama{t:TypeId}(h:qQ P t=some none):∃d i,P.underlying t=some d/\P.info? t=some i/\i.size=1/\(∀fs,d≠ .struct fs)/\ ∀k e,d≠ .array k e:=by
 unfold qQ at h;split at h
 .simp at h
 .simp at h
 .rename_i d i n1 n2 h1 h2;split at h
  .rename_i hs;exact⟨_,_,h1,h2,hs,fun fs e=>n1 fs e,fun k e' e=>n2 k e' e⟩
  cases h
 cases h
theorem aeF{t:TypeId}{n:Nat}(h:qQ P t=some (some n))(w:World):(isAgg t).run P w=.ok true w/\(sizeOf t).run P w=.ok n w:=by
 obtain⟨d,i,h1,h2,h3,h4⟩:=amb h;constructor
 .rcases h4 with ⟨fs,rfl⟩|⟨k,e,rfl⟩<;>simp[isAgg,run_underlying h1]
 simp[sizeOf,typeInfo,h2,h3]
theorem aeE{t:TypeId}(h:qQ P t=some none)(w:World):(isAgg t).run P w=.ok false w/\(sizeOf t).run P w=.ok 1 w:=by
 obtain⟨d,i,h1,h2,h3,h4,h5⟩:=ama h;constructor
 .cases d<;>first
   |exact(h4 _ rfl).elim
   |exact(h5 _ _ rfl).elim
   |simp[isAgg,run_underlying h1]
 simp[sizeOf,typeInfo,h2,h3]
theorem acS{m:Mem}{t:TypeId}{k:Option Nat}(hk:qQ P t=some k){v:Value}{cs:List C}(h:At m v cs){x:V}(hx:pK k cs=some x):
  ∃a y,v=.pointer (some a)/\(loadVar t a).run P m.w=.ok y m.w/\bQ m x y:=by
 obtain⟨b,o,vs,rfl,de,jP⟩:=h;cases k with
 |none=>
  obtain⟨h1,h2⟩:=aeE hk m.w;cases cs with
  |nil=>simp[pK] at hx
  |cons c r=>
   simp[pK] at hx;subst hx;obtain⟨hl,hr⟩:=de;cases vs with
   |nil=>simp at hl
   |cons u us=>have h0:=jP 0 u rfl;refine⟨_,u,rfl,?_,bQ.one.2 (hr 0 c u rfl rfl)⟩;rw[yl] at h0;simp[loadVar,h1,h0]
 |some n=>
  obtain⟨h1,h2⟩:=aeF hk m.w;simp only[pK] at hx;split at hx
  .rename_i hn;cases hx;obtain⟨hl,hr⟩:=de;refine⟨_,.agg (vs.take n).toArray,rfl,?_,bQ.agg.2 ⟨_,rfl,by simp;omega,fun j x u p q=>?_⟩⟩
   .have hlen:(vs.take n).length=n:=by simp;omega
    have:=run_loadCells_list (P:=P) m.w ⟨b,o,none⟩ (vs.take n) (fun j u q=>by
     rw[Addr.add_lit];rw[mW] at q;split at q
     .exact jP j u q
     cases q)
    rw[hlen] at this;simp[loadVar,h1,h2,this]
   rw[mW] at p;simp only[mW] at q;split at p
   .rename_i hj;simp only[hj,if_true] at q;exact hr j x u p q
   cases p
  cases hx
section
variable {m:Mem} {ak:Env} {a:Act} {o:Oper} (au:Ok w0 m) (hr:iZ m ak a.tmps)
include au hr
theorem aqh{t:TypeId}{x:Operand}{y:aR}{k:Option Nat}{cs:List C}{rd:List Nat}{v:V}(ho:o.op=.load t x)(hk:qQ P t=some k)(hx:cE x=some y)
  (hc:A7 m.aj (ev ak y)=some (cs,rd)) (hv:pK k cs=some v):fJ P w0 a.eval o m v []:=by
 obtain⟨ad,y',h1,h2,h3⟩:=acS hk (aen au hc (eB hx hr)) hv;exact .calm au (by simp[execOp,ho,h1,Instr.loadAt,Instr.sureAddr,h2]) h3
theorem aqq{x:Operand}{y:aR}{v:V}(ho:o.op=.nilCheck x)(hx:cE x=some y)(hv:bt (fun _=>false) ak m.aj (.xT y)=.done v [] []):fJ P w0 a.eval o m v []:=by
 have ek:=eB hx hr;simp only[bt] at hv;split at hv
 .rename_i he;rw[he] at ek;cases hv;have hc:cS m _ (a.eval x):=ek;generalize hb:a.eval x=b at hc ek;cases hc with
  |aY ad hg h=>exact .calm au (by simp[execOp,ho,hb]) ek
 .rename_i he;rw[he] at ek;cases hv;have hc:cS m _ (a.eval x):=ek;generalize hb:a.eval x=b at hc ek;cases hc with
  |dC ad hg h=>exact .calm au (by simp[execOp,ho,hb]) ek
 .rename_i he;rw[he] at ek;cases hv;have hc:cS m _ (a.eval x):=ek;generalize hb:a.eval x=b at hc ek;cases hc with
  |p hp=>cases hp with
   |box b' o' f k8 kJ qe=>exact .calm au (by simp[execOp,ho,hb]) ek
 .rename_i he;rw[he] at ek;cases hv;have hc:cS m _ (a.eval x):=ek;generalize hb:a.eval x=b at hc ek;cases hc with
  |hfn A B ha oX vf qO=>exact .calm au (by simp[execOp,ho,hb]) ek
 .rename_i he;rw[he] at ek;cases hv;have hc:cS m _ (a.eval x):=ek;generalize hb:a.eval x=b at hc ek;cases hc with
  |p hp=>cases hp with
   |fn A B ha oX vf qO=>exact .calm au (by simp[execOp,ho,hb]) ek
 cases hv
end
end Go.Abs
namespace Go.Abs
variable {P:Program} {w0:World}
section
variable{vs:List Value}{off:Nat}
theorem bY.norm{w:World}{own:Nat->Prop}{x:PV}{v:Value}(h:bY w own x v):bY w own x.norm v:=by
 cases h<;>first
  |exact .xX none 0 (fun _=>rfl) (bG _)
  |exact .xX _ 0 (fun _=>rfl) (bG _)
  |(simp only[PV.norm];constructor<;>assumption)
theorem arE{m:Mem}{c:C}{x:PV}{v:Value}(h:toP c=some x)(hr:cS m c v):bY m.w m.own x v:=by
 cases hr<;>simp[toP] at h
 rename_i hp;subst h;exact hp.norm
theorem Ng{m:Mem}:∀ {cs:List C} {xs:List PV} {vs:List Value},Bi cs=some xs->dr m cs vs->dk m.w m.own xs vs:=by
 intro cs
 induction cs with
 |nil=>intro xs vs h hr;simp[Bi] at h;subst h;exact⟨hr.1,fun j x u a=>by simp at a⟩
 |cons c r ih=>
  intro xs vs h hr;simp only[Bi] at h;split at h
  .rename_i x ys h1 h2;cases h;cases vs with
   |nil=>simp[dr] at hr
   |cons v us=>
    obtain⟨hl,Cv⟩:=ih (vs:=us) h2 ⟨by simpa using hr.1,fun j x u a b=>hr.2 (j+1) x u (by simpa using a) (by simpa using b)⟩;refine⟨by simp[hl],fun j z u a b=>?_⟩;cases j with
    |zero=>simp at a b;subst a b;exact arE h1 (hr.2 0 c v rfl rfl)
    |succ j=>simp at a b;exact Cv j z u a b
  cases h
def Pw {α:Type}(R:α->Value->Prop)(xs:List α)(vs:List Value):Prop:=vs.length=xs.length/\ ∀(j:Nat) (x:α) (u:Value),xs[j]?=some x->vs[j]?=some u->R x u
theorem Pw.take{α:Type}{R:α->Value->Prop}{xs:List α}(h:Pw R xs vs)(n:Nat):Pw R (xs.take n) (vs.take n):=by
 refine⟨by simp[h.1],fun j x u a b=>?_⟩;rw[mW] at a b;split at a
 .rename_i hj;rw[if_pos hj] at b;exact h.2 j x u a b
 cases a
theorem Pw.drop{α:Type}{R:α->Value->Prop}{xs:List α}(h:Pw R xs vs)(n:Nat):Pw R (xs.drop n) (vs.drop n):=
 ⟨by simp[h.1],fun j x u a b=>h.2 (n+j) x u (by simpa using a) (by simpa using b)⟩
theorem Pw.append{α:Type}{R:α->Value->Prop}{xs ys:List α}{us:List Value}(h:Pw R xs vs)(k:Pw R ys us):Pw R (xs++ys) (vs++us):=by
 refine⟨by simp[h.1,k.1],fun j x u a b=>?_⟩;by_cases hj:j<xs.length
 .rw[De hj] at a;rw[De (by rw[h.1];exact hj)] at b;exact h.2 j x u a b
 rw[Bt aa] at a;rw[Bt (by rw[h.1];omega),h.1] at b;exact k.2 _ x u a b
theorem Pw.eX{α:Type}{R:α->Value->Prop}{xs ys:List α}{us:List Value}(h:Pw R xs vs)(k:Pw R ys us)(off:Nat):Pw R (eX xs off ys) (eX vs off us):=by unfold Abs.eX;rw[k.1];exact((h.take off).append k).append (h.drop _)
theorem Qv{α:Type}{cs xs:List α}(h:off+xs.length<=cs.length):(eX cs off xs).length=cs.length:=by simp[eX];omega
theorem afe{α:Type}{cs xs:List α}{n:Nat}(h:off+xs.length<=n)(hn:n<=cs.length):(eX cs off xs).take n=eX (cs.take n) off xs:=by unfold eX;rw[List.take_append,List.take_append,Hg,List.drop_take];simp only[gh,iu];rw[zH (by omega:off<=cs.length),Hg,zH (by omega:off<=n),Nat.min_eq_right (by omega:off<=n)];have e:n-(off+xs.length)=n-(off+xs.length):=rfl;rw[gR (by omega:xs.length<=n-off)]
theorem aq1{α:Type}{a cs xs:List α}:eX (a++cs) (a.length+off) xs=a++eX cs off xs:=by unfold eX;rw[List.take_append,List.drop_append];simp only[zE];rw[gR (by omega:a.length<=a.length+off),List.drop_of_length_le (by omega:a.length<=a.length+off+xs.length)];simp only[gD];have e1:a.length+off-a.length=off:=aa;have e2:a.length+off+xs.length-a.length=off+xs.length:=aa;rw[e1,e2]
theorem aq0{α:Type}{a cs xs:List α}(h:off+xs.length<=a.length):eX (a++cs) off xs=eX a off xs++cs:=by unfold eX;rw[QO aa,List.drop_append_of_le_length aa];simp
theorem ajD{α:Type}{sz:Nat}{ps:List α}:∀ {es:List (List α)},(∀e∈es,e.length=sz)->∀ {i:Nat} {e:List α},es[i]?=some e->off+ps.length<=sz->
  (es.set i (eX e off ps)).flatten=eX es.flatten (i*sz+off) ps:=by
 intro es
 induction es with
 |nil=>intro _ i e h;simp at h
 |cons x r ih=>
  intro h i e he hl;have h1:=h x af;cases i with
  |zero=>simp at he;subst he;simp only[List.set_cons_zero,l8,zI,kU];rw[aq0 aa]
  |succ i=>
   simp at he;simp only[List.set_cons_succ,l8];rw[ih (fun y hy=>h y (by simp[hy])) he hl];have hh:(i+1)*sz+off=x.length+(i*sz+off):=by rw[h1,iF];omega
   rw[hh,aq1]
theorem Ql{w:World}{g:Nat}{cur new:Array Value}{ty:TypeId}{fz:Nat×Nat}(h:w.heap[g]?=some (.cells cur ty fz)):(w.setRow g new).heap[g]?=some (.cells new ty fz):=setRow_heap w g cur new ty fz h
theorem dr.pw{m:Mem}{cs:List C}:dr m cs vs↔Pw (cS m) cs vs:=Iff.rfl
theorem dk.pw{w:World}{own:Nat->Prop}{cs:List PV}:dk w own cs vs↔Pw (bY w own) cs vs:=Iff.rfl
theorem dr.one{m:Mem}{cs:List C}(h:dr m cs vs):∀v∈vs,v.oneCell'=true:=by
 intro v hv;obtain⟨j,hj⟩:=jZ hv;have ay:j<cs.length:=by rw[<- h.1];exact(aW.1 hj).1
 exact(h.2 j _ v (s0 ay) hj).MW
theorem Rq{m:Mem}{x:V}{v:Value}{cs:List C}(h:rq x=some cs)(hr:bQ m x v):dr m cs v.cells.toList:=by
 cases x with
 |undef=>simp[rq] at h
 |tup vs=>simp[rq] at h
 |one c=>
  simp[rq] at h;subst h;rw[(bQ.one.1 hr).cells];refine⟨rfl,fun j y u p q=>?_⟩;cases j with
  |zero=>simp at p q;subst p q;exact hr
  |succ j=>simp at p
 |agg ds=>simp[rq] at h;subst h;obtain⟨arr,e,h⟩:=bQ.agg.1 hr;rw[e];exact h
section
variable {m:Mem} {ak:Env} {a:Act} {o:Oper} (au:Ok w0 m) (hr:iZ m ak a.tmps)
include au hr
theorem aqx{t:TypeId}{x v:Operand}{x' v':aR}{n:Nat}{cs:List C}{r:V}{u:List eN}{rd:List Nat}(ho:o.op=.store t x v)(hn:wJ P t=some n)(hx:cE x=some x')(hv:cE v=some v')
  (hc:rq (ev ak v')=some cs) (hw:zD m.aj (ev ak x') n cs=.done r u rd):fJ P w0 a.eval o m r u:=by
 have de:=Rq hc (eB hv hr);have k9:=eB hx hr;unfold wJ at hn;simp only[dI] at hn;obtain⟨i,hi,lW⟩:=hn;have ch:(a.eval v).cells.toList.length=cs.length:=de.1;simp only[Array.length_toList] at ch;unfold zD at hw;split at hw
 .cases hw
 rename_i hlen;have hlen:cs.length=n:=by simpa using hlen
 have OY:=de.one;split at hw
 .rename_i id g off he;rw[he] at k9;have k9:cS m _ (a.eval x):=k9;generalize hb:a.eval x=b at k9;cases k9 with
  |aY ad hg oR=>
   split at hw
   .rename_i g' yE jr;split at hw
    .rename_i LH;obtain⟨js,hfit⟩:=LH;cases hw;have bj:(m.aj id).2=some (.var yE):=by rw[jr]
     have oR:=oR (by rw[jr];exact js) (by rw[bj];rfl);subst oR;obtain⟨cur,ty,hh,dE⟩:=au.obj id _ bj;have cq:=dE.1;simp at cq;have Ea:off+0+(a.eval v).cells.toList.length<=cur.size:=by simp;omega
     have cQ:=run_storeCells_at P (m.σ id) off ty (a.eval v).cells.toList 0 cur m.w hh Ea OY;simp only[yl] at cQ;generalize hW:m.w.setRow (m.σ id) (cur.toList.take off++(a.eval v).cells.toList++cur.toList.drop (off+(a.eval v).cells.toList.length)).toArray=W at cQ;have DT:W.heap.size=m.w.heap.size:=by rw[<- hW];simp
     have DS:∀c,c≠m.σ id->W.heap[c]?=m.w.heap[c]? :=fun c hc=>by rw[<- hW];exact setRow_other m.w (m.σ id) c _ hc
     have dY:=Na (w':=W) (o:=.var (eX yE off cs)) bj rfl (by simp[kM]) (by rw[<- hW];rfl) (by rw[<- hW];rfl) (by rw[<- hW];rfl) DT DS;have Cu:tc (m.km W id (.var (eX yE off cs))) id (.var (eX yE off cs)):=by
      refine⟨_,ty,by rw[<- hW];exact Ql hh,?_⟩;have:=dr.pw.2 ((dr.pw.1 (dE.ev dY.zero)).eX (dr.pw.1 (de.ev dY.zero)) off)
      simpa [eX] using this
     refine⟨undef,m.km W id (.var (eX yE off cs)),.inr ⟨?_,rfl⟩,Qj bj rfl au (by simp[kM]) (by rw[<- hW];rfl) (by rw[<- hW];rfl) (by rw[<- hW];rfl) DT DS Cu,dY,rfl,?_,rfl⟩
     .simp only[execOp,ho,hb,Instr.storeAt,Instr.sureAddr,storeVar,sizeOf,typeInfo];simp[hi,ch,hlen,lW,cQ,Mem.km]
     simp[Mem.km,app,jr,js]
    cases hw
   cases hw
 .rename_i id g i' off he;rw[he] at k9;have k9:cS m _ (a.eval x):=k9;generalize hb:a.eval x=b at k9;cases k9 with
  |dC ad hg oR=>
   split at hw
   .rename_i g' ty sz es jr;split at hw
    .rename_i e ps FX O0;split at hw
     .rename_i LH;obtain⟨js,hfit⟩:=LH;cases hw;have bj:(m.aj id).2=some (.arr ty sz es):=by rw[jr]
      have oR:=oR sz (by rw[jr];exact js) (by rw[jr];rfl);subst oR;obtain⟨cur,hh,o9,tH,hl,hm,aaV,dE⟩:=au.obj id _ bj;have dC:=Lh tH FX;have akO:i'<es.length:=(aW.1 FX).1;have xH:(i'+1)*sz<=es.length*sz:=mZ _ akO;have aa2:es.length*sz<=m.κ id*sz:=mZ _ hl;rw[iF,Nat.one_mul] at xH;have hpsl:ps.length=cs.length:=by rw[<- de.1];exact(Ng O0 de).1.symm
      have Ea:i'*sz+off+0+(a.eval v).cells.toList.length<=cur.size:=by simp;omega
      have cQ:=run_storeCells_at P (m.σ id) (i'*sz+off) ty (a.eval v).cells.toList 0 cur m.w hh Ea OY;simp only[yl] at cQ;generalize hW:m.w.setRow (m.σ id) (cur.toList.take (i'*sz+off)++(a.eval v).cells.toList++cur.toList.drop (i'*sz+off+(a.eval v).cells.toList.length)).toArray=W at cQ;have DT:W.heap.size=m.w.heap.size:=by rw[<- hW];simp
      have DS:∀c,c≠m.σ id->W.heap[c]?=m.w.heap[c]? :=fun c hc=>by rw[<- hW];exact setRow_other m.w (m.σ id) c _ hc
      have dY:=Na (w':=W) (o:=.arr ty sz (es.set i' (eX e off ps))) bj rfl (by simp[kM]) (by rw[<- hW];rfl) (by rw[<- hW];rfl) (by rw[<- hW];rfl) DT DS;have Cu:tc (m.km W id (.arr ty sz (es.set i' (eX e off ps)))) id (.arr ty sz (es.set i' (eX e off ps))):=by
       refine⟨_,by rw[<- hW];exact Ql hh,o9,?_,by rw[qX];exact hl,hm,?_,?_⟩
       .intro e' FW;rcases List.mem_or_eq_of_mem_set FW with h|h
        .exact tH e' h
        rw[h,Qv aa];exact dC
       .simp[Mem.km];omega
       rw[qX,ajD tH FX aa];have h1:=(dk.pw.1 (dE.ev dY.zero)).eX (dk.pw.1 ((Ng O0 de).ev dY.zero)) (i'*sz+off);rw[<- afe (by simp;omega) (by simp;omega)] at h1;have h1:=dk.pw.2 h1
       simpa [eX] using h1
      refine⟨undef,m.km W id (.arr ty sz (es.set i' (eX e off ps))),.inr ⟨?_,rfl⟩,Qj bj rfl au (by simp[kM]) (by rw[<- hW];rfl) (by rw[<- hW];rfl) (by rw[<- hW];rfl) DT DS Cu,dY,rfl,?_,rfl⟩
      .simp only[execOp,ho,hb,Instr.storeAt,Instr.sureAddr,storeVar,sizeOf,typeInfo];simp[hi,ch,hlen,lW,cQ,Mem.km]
      simp[Mem.km,app,jr,js]
     cases hw
    cases hw
   cases hw
 cases hw
end
end
end Go.Abs
namespace Go.Abs
variable {P:Program} {w0:World}
theorem yy{m:Mem}{x:V}{v:Value}{n:Nat}(h:oI x=some n)(hr:bQ m x v):∃k,v=.int k (n:Int):=by
 unfold oI at h;split at h
 .rename_i k z;split at h
  .rename_i hz;cases h;exact⟨k,by rw[CC hr,Int.toNat_of_nonneg hz]⟩
  cases h
 cases h
theorem Qn{t:TypeId}{n:Nat}(h:wJ P t=some n)(w:World):(sizeOf t).run P w=.ok n w:=by unfold wJ at h;simp only[dI] at h;obtain⟨i,hi,rfl⟩:=h;simp[sizeOf,typeInfo,hi]
section
variable {m:Mem} {ak:Env} {a:Act} {o:Oper} (au:Ok w0 m) (hr:iZ m ak a.tmps)
include au hr
theorem aqd{s:TypeId}{x:Operand}{f:Nat}{fs:Array Field}{d:Field}{y:aR}{v:V}(ho:o.op=.fieldAddr s x f)(hs:P.underlying s=some (.struct fs))(hf:fs[f]?=some d)
  (hz:P.cellsOf d.type≠0) (hx:cE x=some y) (hv:bt (fun _=>false) ak m.aj (.xf d.offset y)=.done v [] []):fJ P w0 a.eval o m v []:=by
 have ek:=eB hx hr;have ch:∃n,(sizeOf d.type).run P m.w=.ok n m.w/\n≠0:=by
  unfold Program.cellsOf at hz;cases hi:P.info? d.type with
  |none=>simp[hi] at hz
  |some i=>exact⟨i.size,by simp[sizeOf,typeInfo,hi],by simpa [hi] using hz⟩
 obtain⟨n,hn,iM⟩:=ch;have run:∀ad,a.eval x=.pointer (some ad)->(execOp a.eval o).run P m.w=.ok (.value (.pointer (some (ad.add d.offset)))) m.w:=by intro ad oR;simp[execOp,ho,oR,Instr.fieldAt,run_underlying hs,hf,Instr.sureAddr,fieldPlace,hn,iM]
 simp only[bt] at hv;split at hv
 .rename_i id g off he;rw[he] at ek;cases hv;have hc:cS m _ (a.eval x):=ek;generalize hb:a.eval x=b at hc;cases hc with
  |aY ad hg h=>exact .calm au (run _ hb) (bQ.one.2 (.aY _ hg fun h1 h2=>by rw[h h1 h2,Addr.add_lit]))
 .rename_i id g i off he;rw[he] at ek;cases hv;have hc:cS m _ (a.eval x):=ek;generalize hb:a.eval x=b at hc;cases hc with
  |dC ad hg h=>exact .calm au (run _ hb) (bQ.one.2 (.dC _ hg fun sz h1 h2=>by rw[h sz h1 h2,Addr.add_lit,Hh]))
 .rename_i cs he;rw[he] at ek;cases hv;have hc:cS m _ (a.eval x):=ek;generalize hb:a.eval x=b at hc;cases hc with
  |p hp=>cases hp with
   |box b' o' f' k8 kJ qe=>refine .calm au (run _ hb) (mS ?_);rw[Addr.add_lit];refine .box b' (o'+d.offset) (fun j=>f' (d.offset+j)) (fun h=>k8 fun e=>h (by simp[e])) (fun j z h=>?_) fun j z h=>qe _ z (by simpa using h);rw[Hh];exact kJ _ z (by simpa using h)
 cases hv
theorem aqf{t e:TypeId}{x i:Operand}{sz:Nat}{x' i':aR}{v:V}(ho:o.op=.indexAddr t x i)(ht:P.underlying t=some (.slice e))(hs:wJ P e=some sz)
  (hx:cE x=some x') (hi:cE i=some i') (hv:bt (fun _=>false) ak m.aj (.ql sz x' i')=.done v [] []):fJ P w0 a.eval o m v []:=by
 have ek:=eB hx hr;have II:=eB hi hr;have run:∀ad len cap k (n:Nat),a.eval x=.slice (some ad) len cap->a.eval i=.int k (n:Int)->n<len->(execOp a.eval o).run P m.w=.ok (.value (.pointer (some (ad.add (n*sz))))) m.w:=by intro ad len cap k n h1 h2 h3;simp[execOp,ho,h1,h2,Instr.indexAt,asIntOf,run_underlying ht,Qn hs,h3]
 simp only[bt] at hv;split at hv
 .rename_i n es hn he;obtain⟨k,hk⟩:=yy hn II;rw[he] at ek;split at hv
  .rename_i el dC;split at hv
   .rename_i hlen;cases hv;have hc:cS m _ (a.eval x):=ek;generalize hb:a.eval x=b at hc;cases hc with
    |p hp=>
     generalize hU:(PV.sl es)=pv at hp;cases hp<;>first
      |cases hU
      |skip
     .simp at dC
     rename_i b' o' cap dO f we k8 u9 ch vZ Cv;have ay:n<es.length:=(aW.1 dC).1;have U2:dO=sz:=by rw[<- Lh ch dC];exact hlen
     subst U2;refine .calm au (run _ _ _ k n hb hk ay) (mS ?_);rw[Addr.add_lit];refine .box b' (o'+n*dO) (fun j=>f (n*dO+j)) (fun h=>k8 ?_) (fun j z h=>?_) fun j z h=>?_
     .intro e0;cases el with
      |nil=>exact h rfl
      |cons c r=>have:=FG ch dC (j:=0) (by rw[<- hlen];simp);rw[e0] at this;simp at this
     .have hj:j<dO:=by rw[<- hlen];exact(aW.1 h).1
      rw[Hh];exact vZ _ z (by rw[FG ch dC hj];exact h)
     have hj:j<dO:=by rw[<- hlen];exact(aW.1 h).1
     exact Cv _ z (by rw[FG ch dC hj];exact h)
   cases hv
  cases hv
 .rename_i n id g z off len hn he;obtain⟨k,hk⟩:=yy hn II;rw[he] at ek;split at hv
  .rename_i ay;cases hv;have hc:cS m _ (a.eval x):=ek;generalize hb:a.eval x=b at hc;cases hc with
   |hsl ad cap hg hl hm h=>refine .calm au (run _ _ _ k n hb hk ay.1) (bQ.one.2 (.dC _ hg fun s h1 h2=>?_));obtain⟨e1,e2,_⟩:=h s h1 h2;rw[e2 (.inr aa),Addr.add_lit,e1,ay.2];simp[iF]
  cases hv
 cases hv
theorem ap0{t e:TypeId}{x i:Operand}{sz ln:Nat}{x' i':aR}{v:V}(ho:o.op=.indexAddr t x i)(ht:P.underlying t=some (.array ln e))(hs:wJ P e=some sz)
  (hx:cE x=some x') (hi:cE i=some i') (hv:bt (fun _=>false) ak m.aj (.ud ln sz x' i')=.done v [] []):fJ P w0 a.eval o m v []:=by
 have ek:=eB hx hr;have II:=eB hi hr;have run:∀ad k (n:Nat),a.eval x=.pointer (some ad)->a.eval i=.int k (n:Int)->n<ln->(execOp a.eval o).run P m.w=.ok (.value (.pointer (some (ad.add (n*sz))))) m.w:=by intro ad k n h1 h2 h3;simp[execOp,ho,h1,h2,Instr.indexAt,asIntOf,run_underlying ht,Qn hs,h3,Instr.sureAddr]
 simp only[bt] at hv;split at hv
 .rename_i n id g off hn he;obtain⟨k,hk⟩:=yy hn II;rw[he] at ek;split at hv
  .rename_i ay;cases hv;have hc:cS m _ (a.eval x):=ek;generalize hb:a.eval x=b at hc;cases hc with
   |aY ad hg h=>exact .calm au (run _ k n hb hk ay) (bQ.one.2 (.aY _ hg fun h1 h2=>by rw[h h1 h2,Addr.add_lit]))
  cases hv
 .rename_i n id g j off hn he;obtain⟨k,hk⟩:=yy hn II;rw[he] at ek;split at hv
  .rename_i ay;cases hv;have hc:cS m _ (a.eval x):=ek;generalize hb:a.eval x=b at hc;cases hc with
   |dC ad hg h=>exact .calm au (run _ k n hb hk ay) (bQ.one.2 (.dC _ hg fun s h1 h2=>by rw[h s h1 h2,Addr.add_lit,Hh]))
  cases hv
 .rename_i n cs hn he;obtain⟨k,hk⟩:=yy hn II;rw[he] at ek;split at hv
  .rename_i ay;cases hv;have hc:cS m _ (a.eval x):=ek;generalize hb:a.eval x=b at hc;cases hc with
   |p hp=>cases hp with
    |box b' o' f' k8 kJ qe=>refine .calm au (run _ k n hb hk ay) (mS ?_);rw[Addr.add_lit];refine .box b' (o'+n*sz) (fun j=>f' (n*sz+j)) (fun h=>k8 fun e=>h (by simp[e])) (fun j z h=>?_) fun j z h=>qe _ z (by simpa using h);rw[Hh];exact kJ _ z (by simpa using h)
  cases hv
 cases hv
theorem adW{t:TypeId}{k:Option Nat}(hk:qQ P t=some k){cs:List C}{arr:Array Value}(hc:dr m cs arr.toList){off:Nat}{x:V}(hx:pK k (cs.drop off)=some x):
  ∃y,(part t arr off).run P m.w=.ok y m.w/\bQ m x y:=by
 have _u0:=au;have _u1:=hr;have hl:=hc.1;simp at hl;cases k with
 |none=>
  obtain⟨h1,h2⟩:=aeE hk m.w;cases hd:cs.drop off with
  |nil=>simp[hd,pK] at hx
  |cons c r=>
   simp[hd,pK] at hx;subst hx;have de:cs[off]?=some c:=by
    have:=congrArg (·[0]?) hd
    simpa using this
   have ay:off<arr.size:=by rw[hl];exact(aW.1 de).1
   refine⟨arr[off],by simp[part,h1,ay],bQ.one.2 (hc.2 off c _ de (by simp[ay]))⟩
 |some n=>
  obtain⟨h1,h2⟩:=aeF hk m.w;simp only[pK] at hx;split at hx
  .rename_i hn;cases hx;simp at hn;refine⟨.agg (arr.extract off (off+n)),by simp[part,h1,h2],bQ.agg.2 ⟨_,rfl,by simp;omega,fun j x u p q=>?_⟩⟩;rw[mW] at p;split at p
   .rename_i hj;simp at p;refine hc.2 (off+j) x u p ?_;have ay:off+j<cs.length:=(aW.1 p).1;have he:(arr.extract off (off+n)).toList=(arr.toList.drop off).take n:=af;rw[he,mW,if_pos hj,Bu] at q;exact q
   cases p
  cases hx
theorem aqe{t:TypeId}{x:Operand}{f:Nat}{fs:Array Field}{d:Field}{y:aR}{k:Option Nat}{cs:List C}{v:V}(ho:o.op=.field t x f)(hs:P.underlying t=some (.struct fs))(hf:fs[f]?=some d)
  (hk:qQ P d.type=some k) (hx:cE x=some y) (hy:ev ak y=.agg cs) (hv:pK k (cs.drop d.offset)=some v):fJ P w0 a.eval o m v []:=by
 have ek:=eB hx hr;rw[hy] at ek;obtain⟨arr,e,hc⟩:=bQ.agg.1 ek;obtain⟨z,h1,h2⟩:=adW (au:=au) (hr:=hr) hk hc hv;exact .calm au (by simp[execOp,ho,e,Instr.field,run_underlying hs,hf,asAgg,h1]) h2
theorem ap1{t e:TypeId}{x i:Operand}{ln sz:Nat}{x' i':aR}{k:Option Nat}{n:Nat}{cs:List C}{v:V}(ho:o.op=.index t x i)(ht:P.underlying t=some (.array ln e))(hs:wJ P e=some sz)
  (hk:qQ P e=some k) (hx:cE x=some x') (hi:cE i=some i') (hn:oI (ev ak i')=some n) (ay:n<ln) (hy:ev ak x'=.agg cs) (hv:pK k (cs.drop (n*sz))=some v):fJ P w0 a.eval o m v []:=by
 have ek:=eB hx hr;obtain⟨kk,u7⟩:=yy hn (eB hi hr);rw[hy] at ek;obtain⟨arr,e',hc⟩:=bQ.agg.1 ek;obtain⟨z,h1,h2⟩:=adW (au:=au) (hr:=hr) hk hc hv;exact .calm au (by simp[execOp,ho,e',u7,Instr.index,asIntOf,run_underlying ht,Qn hs,ay,h1]) h2
theorem aqt{t:TypeId}{x i:Operand}{x' i':aR}{n:Nat}{s:ByteArray}{b:UInt8}(ho:o.op=.index t x i)(ht:P.underlying t=some .string)
  (hx:cE x=some x') (hi:cE i=some i') (hn:oI (ev ak i')=some n) (hy:ev ak x'=.one (.p (.str s))) (hb:s[n]?=some b):fJ P w0 a.eval o m (.one (.p (.int .u8 b.toNat))) []:=by
 have ek:=eB hx hr;obtain⟨kk,u7⟩:=yy hn (eB hi hr);rw[hy] at ek;exact .calm au (by simp[execOp,ho,MA ek,u7,Instr.index,asIntOf,run_underlying ht,hb]) (mS (.int _ _))
end
end Go.Abs
namespace Go.Abs
variable {P:Program} {w0:World}
theorem ahm{op:BinOp}{t:TypeId}{k k':IntKind}{x y:Int}{v:PV}(w:World)(hk:k=k'\/op=.shl\/op=.shr)(h:ti op k x y=some v):
  ∃u,(binOp op t (.int k x) (.int k' y)).run P w=.ok u w/\ ∀own,bY w own v u:=by
 by_cases hs:op=.shl\/op=.shr
 .rcases hs with rfl|rfl
  .simp only[ti] at h;split at h
   .cases h
   rename_i hy;cases h;exact⟨_,by simp[binOp,Op.shift,hy],fun own=>.int _ _⟩
  simp only[ti] at h;split at h
  .cases h
  rename_i hy;cases h;exact⟨_,by simp[binOp,Op.shift,hy],fun own=>.int _ _⟩
 have u7:k=k':=by
  rcases hk with h|h
  .exact h
  exact(hs h).elim
 subst u7;cases op<;>simp only[ti] at h<;>first
  |cases h
  |skip
 all_goals first
  |exact(hs (.inl rfl)).elim
  |exact(hs (.inr rfl)).elim
  |(exact⟨_,by simp[binOp,Op.intArith,Op.intCmp,Op.intBits],fun own=>.int _ _⟩)
  |(exact⟨_,by simp[binOp,Op.intArith,Op.intCmp],fun own=>.bool _⟩)
  |(split at h
    .cases h
    rename_i hy;cases h;exact⟨_,by simp[binOp,Op.intDiv,hy],fun own=>.int _ _⟩)
theorem aho{op:BinOp}{t:TypeId}{x y:ByteArray}{v:PV}(w:World)(h:Hy op x y=some v):
  ∃u,(binOp op t (.string x) (.string y)).run P w=.ok u w/\ ∀own,bY w own v u:=by
 cases op<;>simp only[Hy] at h<;>first
  |cases h
  |skip
 all_goals first
  |exact⟨_,by simp[binOp,Op.stringOp],fun own=>.bool _⟩
  |(split at h
    .rename_i hl;cases h;refine⟨.string (x++y),?_,fun own=>.str _⟩;have:¬((x.size:Int)+(y.size:Int)>9223372036854775807):=aa;simp[binOp,Op.stringOp,this]
    cases h)
section
variable {m:Mem} {ak:Env} {a:Act} {o:Oper} (au:Ok w0 m) (hr:iZ m ak a.tmps)
include au hr
theorem ap4{op:BinOp}{t ty:TypeId}{x y:Operand}{x' y':aR}{v:V}(ho:o.op=.binOp op t x y ty)(hx:cE x=some x')(hy:cE y=some y')
  (hv:qB op (ev ak x') (ev ak y')=some v):fJ P w0 a.eval o m v []:=by
 have h1:=eB hx hr;have h2:=eB hy hr;unfold qB at hv;split at hv
 .rename_i k p k' q e1 e2;rw[e1] at h1;rw[e2] at h2;split at hv
  .rename_i hk;simp only[dI] at hv;obtain⟨u,hu,rfl⟩:=hv;obtain⟨z,hz,IV⟩:=ahm (P:=P) (t:=t) m.w hk hu;refine .calm au ?_ (mS (IV _));have hg:(eqGuard op t x y (.int k p) (.int k' q)).run P m.w=.ok () m.w:=by cases op<;>simp[eqGuard]
   simp[execOp,ho,CC h1,CC h2,hg,hz]
  cases hv
 .rename_i p q e1 e2;rw[e1] at h1;rw[e2] at h2;simp only[dI] at hv;obtain⟨u,hu,rfl⟩:=hv;obtain⟨z,hz,IV⟩:=aho (P:=P) (t:=t) m.w hu;refine .calm au ?_ (mS (IV _));have hg:(eqGuard op t x y (.string p) (.string q)).run P m.w=.ok () m.w:=by cases op<;>simp[eqGuard]
  simp[execOp,ho,MA h1,MA h2,hg,hz]
 cases hv
theorem aqr{t:TypeId}{x:Operand}{x':aR}{b:Bool}(ho:o.op=.unOp .not t x)(hx:cE x=some x')(hb:ev ak x'=.one (.p (.bool b))):fJ P w0 a.eval o m (.one (.p (.bool (!b)))) []:=by have h1:=eB hx hr;rw[hb] at h1;exact .calm au (by simp[execOp,ho,Ez h1,Op.unary]) (mS (.bool _))
theorem aqp{t:TypeId}{x:Operand}{x':aR}{k:IntKind}{n:Int}(ho:o.op=.unOp .neg t x)(hx:cE x=some x')(hb:ev ak x'=.one (.p (.int k n))):fJ P w0 a.eval o m (.one (.p (.int k (k.wrap (0-n))))) []:=by have h1:=eB hx hr;rw[hb] at h1;exact .calm au (by simp[execOp,ho,CC h1,Op.unary,Op.intArith]) (mS (.int _ _))
theorem aqb{s d:TypeId}{x:Operand}{x':aR}{ks k k0:IntKind}{n:Int}(ho:o.op=.convert s d x)(hs:P.underlying s=some (.int ks))(hd:P.underlying d=some (.int k))(hx:cE x=some x')
  (hb:ev ak x'=.one (.p (.int k0 n))):fJ P w0 a.eval o m (.one (.p (.int k (k.wrap n)))) []:=by
 have h1:=eB hx hr;rw[hb] at h1;exact .calm au (by simp[execOp,ho,CC h1,convert,run_underlying hs,run_underlying hd,Conv.intToInt]) (mS (.int _ _))
theorem adN:∀ {xs:List Operand} {ys:List aR} {cs:List C},pS xs=some ys->vr ak ys=some cs->dr m cs (xs.map a.eval):=by
 have _u0:=au;intro xs
 induction xs with
 |nil=>intro ys cs h1 h2;simp[pS] at h1;subst h1;simp[vr] at h2;subst h2;exact⟨rfl,fun j x u p=>by simp at p⟩
 |cons x r ih=>
  intro ys cs h1 h2;simp only[pS] at h1;split at h1
  .rename_i y ys' e1 e2;cases h1;simp only[vr] at h2;split at h2
   .rename_i c q e3 e4;cases h2;obtain⟨hl,Cv⟩:=ih e2 e4;refine⟨by simpa using hl,fun j z u p q=>?_⟩;cases j with
    |zero=>simp at p q;subst p q;have:=eB e1 hr;rw[e3] at this;exact this
    |succ j=>simp at p q;exact Cv j z u p (by simpa using q)
   cases h2
  cases h1
theorem aql{f:FuncId}{x y:Array Operand}{x' y':List aR}{cs ds:List C}(ho:o.op=.makeFunc (.func f) x y)(hx:pS x.toList=some x')(hy:pS y.toList=some y')
  (hc:vr ak x'=some cs) (hd:vr ak y'=some ds):fJ P w0 a.eval o m (.one (.hfn f cs ds)) []:=by
 have h1:=adN (au:=au) (hr:=hr) hx hc;have h2:=adN (au:=au) (hr:=hr) hy hd;refine .calm (x:=.func (.func f) (x.map a.eval) (y.map a.eval)) au (by simp[execOp,ho,Instr.makeFunc]) (bQ.one.2 (.hfn _ _ ?_ ?_ ?_ ?_))
 .have:=h1.1;simpa using this
 .have:=h2.1;simpa using this
 .intro j z u p q;exact h1.2 j z u p (by rw[<- Array.toList_map,Array.getElem?_toList];exact q)
 intro j z u p q;exact h2.2 j z u p (by rw[<- Array.toList_map,Array.getElem?_toList];exact q)
theorem aqc{x:Operand}{i:Nat}{x':aR}{vs:List V}{v:V}(ho:o.op=.extract x i)(hx:cE x=some x')(he:ev ak x'=.tup vs)(hv:vs[i]?=some v):fJ P w0 a.eval o m v []:=by
 have h1:=eB hx hr;rw[he] at h1;obtain⟨arr,e,hl,hc⟩:=h1;have ay:i<arr.size:=by rw[hl];exact(aW.1 hv).1
 exact .calm (x:=arr[i]) au (by simp[execOp,ho,e,Instr.extract,ay]) (.of1 (hc i v _ hv (by simp[ay])))
theorem acI{x:V}{v:Value}{n:Nat}(h:xR x=some n)(hv:bQ m x v):∃ad cap,v=.slice ad n cap/\n<=cap/\cap<=maxLen:=by
 have _u0:=au;have _u1:=hr;unfold xR at h;split at h
 .cases h;exact⟨none,0,Pg hv,bN _,bG _⟩
 .cases h;obtain⟨hp⟩:cS m _ v:=hv;rename_i es;generalize hU:(PV.sl es)=pv at hp;cases hp<;>cases hU
  .exact⟨_,_,rfl,bG _,by assumption⟩
  exact⟨_,_,rfl,by assumption,by assumption⟩
 .cases h;have hc:cS m _ v:=hv;cases hc with
  |hsl ad cap hg hl hm h=>exact⟨_,_,rfl,hl,hm⟩
 cases h
theorem aqg{c:Call}{x:Operand}{x':aR}{t e:TypeId}{n:Nat}(ho:o.op=.call c)(hc:c.callee=.builtin .len)(has:c.args= #[x])(jP:c.argTypes[0]?=some t)(ht:P.underlying t=some (.slice e))
  (hx:cE x=some x') (hn:xR (ev ak x')=some n):fJ P w0 a.eval o m (.one (.p (.int .i64 n))) []:=by
 obtain⟨ad,cap,h1,_,_⟩:=acI (au:=au) (hr:=hr) hn (eB hx hr);refine .calm au ?_ (mS (.int _ _));simp[execOp,ho,resolve,hc,has,invoke,builtin,Builtin.len_,jP,h1,run_underlying ht,goInt]
theorem aqu{c:Call}{x:Operand}{x':aR}{t:TypeId}{s:ByteArray}(ho:o.op=.call c)(hc:c.callee=.builtin .len)(has:c.args= #[x])(jP:c.argTypes[0]?=some t)(ht:P.underlying t=some .string)
  (hx:cE x=some x') (hn:ev ak x'=.one (.p (.str s))):fJ P w0 a.eval o m (.one (.p (.int .i64 s.size))) []:=by
 have h1:=eB hx hr;rw[hn] at h1;refine .calm au ?_ (mS (.int _ _));simp[execOp,ho,resolve,hc,has,invoke,builtin,Builtin.len_,jP,MA h1,run_underlying ht,goInt]
theorem aqj{c:Call}{x y:Operand}{x' y':aR}{k k':IntKind}{p q:Int}(ho:o.op=.call c)(hc:c.callee=.builtin .max)(has:c.args= #[x,y])
  (hx:cE x=some x') (hy:cE y=some y') (h1:ev ak x'=.one (.p (.int k p))) (h2:ev ak y'=.one (.p (.int k' q))):fJ P w0 a.eval o m (.one (.p (.int k (if q>p then q else p)))) []:=by
 have g1:=eB hx hr;have g2:=eB hy hr;rw[h1] at g1;rw[h2] at g2;refine .calm au ?_ (mS (.int _ _));simp[execOp,ho,resolve,hc,has,invoke,builtin,Builtin.max_,Builtin.max2,CC g1,CC g2]
theorem aqk{c:Call}{x y:Operand}{x' y':aR}{k k':IntKind}{p q:Int}(ho:o.op=.call c)(hc:c.callee=.builtin .min)(has:c.args= #[x,y])
  (hx:cE x=some x') (hy:cE y=some y') (h1:ev ak x'=.one (.p (.int k p))) (h2:ev ak y'=.one (.p (.int k' q))):fJ P w0 a.eval o m (.one (.p (.int k (if q<p then q else p)))) []:=by
 have g1:=eB hx hr;have g2:=eB hy hr;rw[h1] at g1;rw[h2] at g2;refine .calm au ?_ (mS (.int _ _));simp[execOp,ho,resolve,hc,has,invoke,builtin,Builtin.min_,Builtin.min2,CC g1,CC g2]
end
end Go.Abs
namespace Go.Abs
variable {P:Program} {w0:World}
section
variable{sz:Nat}
theorem agy:∀(u:List eN) (aj:aA) (id:Nat),(app u aj id=aj id/\ ∀e∈u,e.1≠id)\/ ∃e∈u,e.1=id/\app u aj id=e.2:=by
 intro u
 induction u with
 |nil=>intro aj id;exact .inl ⟨rfl,fun e h=>by simp at h⟩
 |cons x r ih=>
  intro aj id;obtain⟨i,o⟩:=x;simp only[app];rcases ih (dK aj i o) id with ⟨h1,h2⟩|⟨e,he,h1,h2⟩
  .by_cases hi:id=i
   .exact .inr ⟨(i,o),af,hi.symm,by rw[h1];simp[aN,hi]⟩
   refine .inl ⟨by rw[h1];simp[aN,hi],fun e he=>?_⟩;rcases cP.1 he with rfl|he
   .exact fun h=>hi h.symm
   exact h2 e he
  exact .inr ⟨e,by simp[he],h1,h2⟩
theorem HE{α β γ:Type}{f:α->Option (β×List Nat)}{R:α->γ->Prop}{T:β->γ->Prop}{fm:List Nat->Prop}(LY:∀a b,fm (a++b)->fm a/\fm b)
  (hf:∀a b r v,f a=some (b,r)->R a v->fm r->T b v):∀ {xs:List α} {ys:List β} {r:List Nat} {vs:List γ},collect f xs=some (ys,r)->fm r->
  (vs.length=xs.length/\ ∀(j:Nat) (x:α) (u:γ),xs[j]?=some x->vs[j]?=some u->R x u)->(vs.length=ys.length/\ ∀(j:Nat) (x:β) (u:γ),ys[j]?=some x->vs[j]?=some u->T x u):=by
 intro xs
 induction xs with
 |nil=>intro ys r vs h _ hr;simp[collect] at h;obtain⟨rfl,rfl⟩:=h;exact⟨hr.1,fun j x u a=>by simp at a⟩
 |cons x t ih=>
  intro ys r vs h hg hr;simp only[collect] at h;split at h
  .rename_i b p bs q e1 e2;cases h;obtain⟨g1,g2⟩:=LY _ _ hg;cases vs with
   |nil=>simp at hr
   |cons v us=>
    obtain⟨hl,hh⟩:=ih (vs:=us) e2 g2 ⟨by simpa using hr.1,fun j x u a b=>hr.2 (j+1) x u (by simpa using a) (by simpa using b)⟩;refine⟨by simp[hl],fun j z u a b=>?_⟩;cases j with
    |zero=>simp at a b;subst a b;exact hf _ _ _ _ e1 (hr.2 0 x v rfl rfl) g1
    |succ j=>simp at a b;exact hh j z u a b
  cases h
def pQ(m:Mem)(own:Nat->Prop)(r:List Nat):Prop:=(∀b,own b->m.own b)/\ ∀id∈r,¬own (m.σ id)
theorem pQ.app{m:Mem}{own:Nat->Prop}{a b:List Nat}(h:pQ m own (a++b)):pQ m own a/\pQ m own b:=
 ⟨⟨h.1,fun id hi=>h.2 id (by simp[hi])⟩,⟨h.1,fun id hi=>h.2 id (by simp[hi])⟩⟩
theorem bY.less{w:World}{own zu:Nat->Prop}(h:∀b,zu b->own b){x:PV}{v:Value}(hr:bY w own x v):bY w zu x v:=hr.mono fun c _ hn=>⟨rfl,fun ho=>hn (h c ho)⟩
theorem dk.less{w:World}{own zu:Nat->Prop}(h:∀b,zu b->own b){x:List PV}{v:List Value}(hr:dk w own x v):dk w zu x v:=⟨hr.1,fun j x u a b=>(hr.2 j x u a b).less h⟩
theorem adg{α:Type}{xs:List α}{R:α->Value->Prop}{vs:List Value}(h:Pw R xs vs):∃f:Nat->Value,∀(j:Nat) (x:α),xs[j]?=some x->vs[j]?=some (f j)/\R x (f j):=by
 refine⟨fun j=>vs.getD j undef,fun j x hx=>?_⟩;have ay:j<vs.length:=by rw[h.1];exact(aW.1 hx).1
 have:vs[j]?=some (vs.getD j undef):=by simp[List.getD,s0 ay]
 exact⟨this,h.2 j x _ hx this⟩
theorem Vy{w:World}{own:Nat->Prop}{b o:Nat}{cur:Array Value}{ty:TypeId}{fz:Nat×Nat}{ps:List PV}(hh:w.heap[b]?=some (.cells cur ty fz))(hp:Pw (bY w own) ps (cur.toList.drop o |>.take ps.length))
  (ho:ps≠[]-> ¬own b):bY w own (.box ps) (.pointer (some ⟨b,o,none⟩)):=by
 obtain⟨f,hf⟩:=adg hp;refine .box b o f ho (fun j x hx=>?_) fun j x hx=>(hf j x hx).2;have h1:=(hf j x hx).1;rw[mW] at h1;split at h1
 .rw[KE hh];simpa using h1
 cases h1
theorem adi{w:World}{own:Nat->Prop}{b o cap sz:Nat}{cur:Array Value}{ty:TypeId}{fz:Nat×Nat}{es:List (List PV)}(hh:w.heap[b]?=some (.cells cur ty fz))(ch:∀e∈es,e.length=sz)
  (hl:es.length<=cap) (hm:cap<=maxLen) (hp:Pw (bY w own) es.flatten ((cur.toList.drop o).take (es.length*sz))) (ho:¬own b):bY w own (.sl es) (.slice (some ⟨b,o,none⟩) es.length cap):=by
 obtain⟨f,hf⟩:=adg hp;refine .sl b o cap sz f (fun _=>ho) hl hm ch (fun j x hx=>?_) fun j x hx=>(hf j x hx).2;have h1:=(hf j x hx).1;rw[mW] at h1;split at h1
 .rw[KE hh];simpa using h1
 cases h1
theorem Oo{α:Type}:∀ {es:List (List α)},(∀e∈es,e.length=sz)->∀(n:Nat),(es.drop n).flatten=es.flatten.drop (n*sz):=by
 intro es
 induction es with
 |nil=>intro _ n;simp
 |cons e r ih=>
  intro h n;cases n with
  |zero=>simp
  |succ n=>simp only[List.drop_succ_cons,l8];have h1:=h e af;rw[ih (fun x hx=>h x (by simp[hx])),List.drop_append,List.drop_of_length_le (by rw[h1,iF];omega:e.length<=(n+1)*sz),gD];congr 1;rw[h1,iF];omega
theorem Ib{α:Type}:∀ {es:List (List α)},(∀e∈es,e.length=sz)->∀(n:Nat),(es.take n).flatten=es.flatten.take (n*sz):=by
 intro es
 induction es with
 |nil=>intro _ n;simp
 |cons e r ih=>
  intro h n;cases n with
  |zero=>simp
  |succ n=>simp only[List.take_succ_cons,l8];have h1:=h e af;rw[ih (fun x hx=>h x (by simp[hx])),List.take_append,gR (by rw[h1,iF];omega:e.length<=(n+1)*sz)];congr 1;congr 1;rw[h1,iF];omega
theorem GN{α:Type}{R:α->Value->Prop}{off len:Nat}{es:List (List α)}{cur:List Value}(ch:∀e∈es,e.length=sz)(h:Pw R es.flatten (cur.take (es.length*sz)))(hfit:off+len<=es.length):
  Pw R ((es.drop off).take len).flatten ((cur.drop (off*sz)).take (((es.drop off).take len).length*sz)):=by
 have Ms:∀e∈es.drop off,e.length=sz:=fun e he=>ch e (wR he);have hlen:((es.drop off).take len).length=len:=by simp;omega
 rw[hlen,Ib Ms,Oo ch];have h1:=(h.drop (off*sz)).take (len*sz);have h2:((cur.take (es.length*sz)).drop (off*sz)).take (len*sz)=(cur.drop (off*sz)).take (len*sz):=by
  rw[List.drop_take,Hg];congr 1;have:off*sz+len*sz<=es.length*sz:=by rw[<- iF];exact mZ _ hfit
  omega
 rw[h2] at h1;exact h1
theorem VV{α:Type}{R:α->Value->Prop}:∀ {ps:List (List α)} {cur:List Value},(∀e∈ps,e.length=sz)->ps.length*sz<=cur.length->
  (∀(j:Nat) (e:List α),ps[j]?=some e->Pw R e ((cur.drop (j*sz)).take sz))->Pw R ps.flatten (cur.take (ps.length*sz)):=by
 intro ps
 induction ps with
 |nil=>intro cur _ _ _;exact⟨af,fun j x u a=>by simp at a⟩
 |cons e r ih=>
  intro cur h hl hp;simp only[dh,iF,Nat.one_mul] at hl;have h0:=hp 0 e rfl;rw[zI,List.drop_zero] at h0;have h1:=ih (cur:=cur.drop sz) (fun x hx=>h x (by simp[hx])) (by simp;omega) fun j x hx=>by have:=hp (j+1) x (by simpa using hx);rw[iF,Nat.one_mul] at this;rw[List.drop_drop,Nat.add_comm sz];exact this
  have h2:=h0.append h1;have h3:cur.take sz++(cur.drop sz).take (r.length*sz)=cur.take ((e::r).length*sz):=by rw[dh,iF,Nat.one_mul,Nat.add_comm,List.take_add]
  rw[h3] at h2;exact h2
theorem Uf{α:Type}{R:α->Value->Prop}{i:Nat}{es:List (List α)}{e:List α}{cur:List Value}(ch:∀e∈es,e.length=sz)(h:Pw R es.flatten (cur.take (es.length*sz)))(he:es[i]?=some e):
  Pw R e ((cur.drop (i*sz)).take sz):=by
 have hi:i<es.length:=(aW.1 he).1;have h1:=GN (off:=i) (len:=1) ch h aa;have h0:((es.drop i).take 1)=[e]:=by rw[List.drop_eq_getElem_cons hi];have:=(aW.1 he).2;simp[this]
 rw[h0] at h1
 simpa using h1
theorem Ry{α β:Type}{f:α->Option (β×List Nat)}:∀ {xs:List α} {ys:List β} {r:List Nat},collect f xs=some (ys,r)->ys.length=xs.length:=by
 intro xs
 induction xs with
 |nil=>intro ys r h;simp[collect] at h;rw[h.1];rfl
 |cons x t ih=>
  intro ys r h;simp only[collect] at h;split at h
  .rename_i b p bs q e1 e2;cases h;simp[ih e2]
  cases h
theorem Rx{α β:Type}{f:α->Option (β×List Nat)}:∀ {xs:List α} {ys:List β} {r:List Nat},collect f xs=some (ys,r)->∀ {j:Nat} {y:β},ys[j]?=some y->∃x q,xs[j]?=some x/\f x=some (y,q)/\ ∀i∈q,i∈r:=by
 intro xs
 induction xs with
 |nil=>intro ys r h j y hy;simp[collect] at h;rw[h.1] at hy;simp at hy
 |cons x t ih=>
  intro ys r h j y hy;simp only[collect] at h;split at h
  .rename_i b p bs q e1 e2;cases h;cases j with
   |zero=>simp at hy;subst hy;exact⟨x,p,rfl,e1,fun i hi=>by simp[hi]⟩
   |succ j=>simp at hy;obtain⟨x',q',h1,h2,h3⟩:=ih e2 hy;exact⟨x',q',by simpa using h1,h2,fun i hi=>by simp[h3 i hi]⟩
  cases h
theorem JD{m:Mem}(au:Ok w0 m){own:Nat->Prop}:∀(n:Nat) {c:C} {x:PV} {r:List Nat} {v:Value},snap m.aj n c=some (x,r)->cS m c v->pQ m own r->bY m.w own x v:=by
 intro n
 induction n with
 |zero=>intro c x r v h;simp[snap] at h
 |succ n ih=>
  intro c x r v h hr hs;have OH:∀ {cs:List C} {ps:List PV} {q:List Nat} {vs:List Value},collect (snap m.aj n) cs=some (ps,q)->pQ m own q->Pw (cS m) cs vs->Pw (bY m.w own) ps vs:=fun h1 h2 h3=>HE (R:=cS m) (T:=bY m.w own) (fm:=pQ m own) (fun a b h=>h.app) (fun a b r v e1 e2 e3=>ih e1 e2 e3) h1 h2 h3
  have OQ:∀ {ps:List PV} {vs:List Value},dk m.w m.own ps vs->Pw (bY m.w own) ps vs:=fun h=>dk.pw.1 (h.less hs.1);unfold snap at h;cases c with
  |p y=>simp at h;obtain⟨rfl,rfl⟩:=h;obtain⟨hp⟩:=hr;exact hp.norm.less hs.1
  |aY id g off=>
   cases hr with
   |aY a hg ha=>
    simp only at h;split at h
    .rename_i g' cs hb;split at h
     .rename_i js;split at h
      .rename_i ps q hq;cases h;have bj:(m.aj id).2=some (.var cs):=by rw[hb]
       have ha:=ha (by rw[hb];exact js) (by rw[bj];rfl);subst ha;obtain⟨cur,ty,hh,hc⟩:=au.obj id _ bj;have hp:=OH hq ⟨hs.1,fun i hi=>hs.2 i (by simp[hi])⟩ (dr.pw.1 hc);refine Vy hh ?_ fun _=>hs.2 id af;have h1:=hp.drop off;have h2:(cur.toList.drop off).take (ps.drop off).length=cur.toList.drop off:=gR (by have:=h1.1;omega);rw[h2];exact h1
      cases h
     cases h
    .rename_i g' ps hb;split at h
     .rename_i js;cases h;have bj:(m.aj id).2=some (.fvar ps):=by rw[hb]
      have ha:=ha (by rw[hb];exact js) (by rw[bj];rfl);subst ha;obtain⟨cur,ty,fz,hh,hc,_⟩:=au.obj id _ bj;refine Vy hh ?_ fun _=>hs.2 id af;have h1:=(OQ hc).drop off;have h2:(cur.toList.drop off).take (ps.drop off).length=cur.toList.drop off:=gR (by have:=h1.1;omega);rw[h2];exact h1
     cases h
    cases h
  |dC id g i off=>
   cases hr with
   |dC a hg ha=>
    have key:∀(ty sz:Nat) (es:List (List PV)) (e:List PV) (cur:Array Value) (fz:Nat×Nat),m.w.heap[m.σ id]?=some (.cells cur ty fz)->(∀e∈es,e.length=sz)->es.length*sz<=cur.size->
      dk m.w m.own es.flatten (cur.toList.take (es.length*sz))->es[i]?=some e->a=⟨m.σ id,i*sz+off,none⟩-> ¬own (m.σ id)->bY m.w own (.box (e.drop off)) (.pointer (some a)):=by
     intro ty sz es e cur fz hh ch hlen dE he vX dD;subst vX;have dC:=Lh ch he;have hi:i<es.length:=(aW.1 he).1;have xH:(i+1)*sz<=es.length*sz:=mZ _ hi;have h1:=(GN (off:=i) (len:=1) ch (OQ dE) aa).drop off;have h0:((es.drop i).take 1)=[e]:=by rw[List.drop_eq_getElem_cons hi];have:=(aW.1 he).2;simp[this]
     rw[h0] at h1;simp only[l8,Hb,kN,dh,ff,kU,Nat.one_mul] at h1;refine Vy hh ?_ fun _=>dD;have h2:(cur.toList.drop (i*sz+off)).take (e.drop off).length=(((cur.toList.drop (i*sz)).take sz).drop off):=by rw[List.drop_take,List.drop_drop,kO,dC]
     rw[h2];exact h1
    simp only at h;split at h
    .rename_i g' ty sz es hb;split at h
     .rename_i js;simp only[dI,kB] at h;obtain⟨e,he,rfl,rfl⟩:=h;have bj:(m.aj id).2=some (.arr ty sz es):=by rw[hb]
      obtain⟨cur,hh,o9,ch,hl,hm,de,dE⟩:=au.obj id _ bj;exact key ty sz es e cur _ hh ch (by rw[de];exact mZ _ hl) dE he (ha sz (by rw[hb];exact js) (by rw[hb];rfl)) (hs.2 id af)
     cases h
    .rename_i g' ty sz es hb;split at h
     .rename_i js;simp only[dI,kB] at h;obtain⟨e,he,rfl,rfl⟩:=h;have bj:(m.aj id).2=some (.oN ty sz es):=by rw[hb]
      obtain⟨cur,fz,hh,o9,ch,hl,hm,de,dE,_⟩:=au.obj id _ bj;exact key ty sz es e cur _ hh ch (by rw[de];exact mZ _ hl) dE he (ha sz (by rw[hb];exact js) (by rw[hb];rfl)) (hs.2 id af)
     cases h
    cases h
  |hsl id g z off len=>
   cases hr with
   |hsl a cap hg hl hm ha=>
    have key:∀(ty sz:Nat) (es:List (List PV)) (cur:Array Value) (fz:Nat×Nat),m.w.heap[m.σ id]?=some (.cells cur ty fz)->(∀e∈es,e.length=sz)->Pw (bY m.w own) es.flatten (cur.toList.take (es.length*sz))->
      off+len<=es.length->(off=0\/0<len->a=⟨m.σ id,off*sz,none⟩)-> ¬own (m.σ id)->bY m.w own (.sl ((es.drop off).take len)) (.slice (some a) len cap):=by
     intro ty sz es cur fz hh ch dE hfit vX dD;by_cases hlen:len=0
     .subst hlen;simp only[List.take_zero];exact .xX _ _ (fun h=>by cases h) hm
     have:=vX (.inr aa);subst this;have hle:((es.drop off).take len).length=len:=by simp;omega
     have h1:=adi (cap:=cap) (own:=own) (o:=off*sz) (es:=(es.drop off).take len) hh (sz:=sz) (fun e he=>ch e (wR (yg he))) aa hm (GN ch dE hfit) dD;rw[hle] at h1;exact h1
    simp only at h;split at h
    .rename_i g' ty sz es hb;split at h
     .rename_i hc;cases h;have bj:(m.aj id).2=some (.arr ty sz es):=by rw[hb]
      obtain⟨cur,hh,o9,ch,u9,we,de,dE⟩:=au.obj id _ bj;exact key ty sz es cur _ hh ch (OQ dE) hc.2 (by obtain⟨_,h2,_⟩:=ha sz (by rw[hb];exact hc.1) (by rw[hb];rfl);rename_i e1 _;exact e1▸h2) (hs.2 id af)
     cases h
    .rename_i g' ty sz es hb;split at h
     .rename_i hc;cases h;have bj:(m.aj id).2=some (.oN ty sz es):=by rw[hb]
      obtain⟨cur,fz,hh,o9,ch,u9,we,de,dE,_⟩:=au.obj id _ bj;exact key ty sz es cur _ hh ch (OQ dE) hc.2 (by obtain⟨_,h2,_⟩:=ha sz (by rw[hb];exact hc.1) (by rw[hb];rfl);exact h2) (hs.2 id af)
     cases h
    .rename_i g' ty sz es hb;split at h
     .rename_i hc;split at h
      .rename_i ps q hq;cases h;have bj:(m.aj id).2=some (.iN ty sz es):=by rw[hb]
       obtain⟨cur,hh,o9,ch,u9,we,de,dE⟩:=au.obj id _ bj;have UZ:=GN ch (dr.pw.1 dE) hc.2;have Ms:∀e∈(es.drop off).take len,e.length=sz:=fun e he=>ch e (wR (yg he));have hle:((es.drop off).take len).length=len:=by simp;omega
       have cA:ps.length=len:=by rw[Ry hq,hle]
       have lH:len*sz<=(cur.toList.drop (off*sz)).length:=by
        simp;have h1:off*sz+len*sz<=es.length*sz:=by rw[<- iF];exact mZ _ hc.2
        have h2:es.length*sz<=m.κ id*sz:=mZ _ u9;omega
       have sM:∀(j:Nat) (e:List PV),ps[j]?=some e->Pw (bY m.w own) e (((cur.toList.drop (off*sz)).drop (j*sz)).take sz):=by intro j e he;obtain⟨x,q',h1,h2,h3⟩:=Rx hq he;exact OH h2 ⟨hs.1,fun i hi=>hs.2 i (by simp[h3 i hi])⟩ (Uf Ms UZ h1)
       have En:∀e∈ps,e.length=sz:=by
        intro e he;obtain⟨j,hj⟩:=jZ he;have:=(sM j e hj).1;have xJ:j<len:=by rw[<- cA];exact(aW.1 hj).1
        have h1:(j+1)*sz<=len*sz:=mZ _ xJ;rw[iF] at h1;simp at this lH;omega
       by_cases hlen:len=0
       .have:ps=[]:=List.eq_nil_of_length_eq_zero aa;subst this;subst hlen;exact .xX _ _ (fun h=>by cases h) hm
       obtain⟨_,h2,_⟩:=ha sz (by rw[hb];exact hc.1) (by rw[hb];rfl);rename_i e1 _;have vX:=h2 (.inr aa);subst vX;have yS:=adi (cap:=cap) (own:=own) (o:=off*sz) hh En aa hm (VV En (by rw[cA];exact lH) sM) (hs.2 id af);rw[cA] at yS;exact yS
      cases h
     cases h
    cases h
  |j8 id g=>
   cases hr with
   |j8 r' hg ha=>
    have key:∀(ag:Bool) (es:List (PV×List PV)) (ents:Array MapEntry) (clock:Nat),m.w.heap[m.σ id]?=some (.map ents clock)->ents.size=es.length->
      (∀(i:Nat) (q:PV) (v:List PV) (e:MapEntry),es[i]?=some (q,v)->ents[i]?=some e->bY m.w m.own q e.key/\ ∃g:Array Value,(ag=true->e.val=.agg g)/\(ag=false-> #[e.val]=g)/\dk m.w m.own v g.toList)->
      ¬own (m.σ id)->bY m.w own (.mp ag es) (.map (some (m.σ id))):=by
     intro ag es ents clock hh hl hc dD;have hch:∃G:Nat->Array Value,∀(i:Nat) (q:PV) (v:List PV) (e:MapEntry),es[i]?=some (q,v)->ents[i]?=some e->(ag=true->e.val=.agg (G i))/\(ag=false-> #[e.val]=G i)/\dk m.w m.own v (G i).toList:=by
      refine⟨fun i=>match ents[i]? with|some e=>(match e.val with| .agg g=>if ag then g else #[e.val]|v=> #[v])|none=> #[],fun i q v e h1 h2=>?_⟩;obtain⟨_,g,g1,g2,g3⟩:=hc i q v e h1 h2;simp only[h2];cases ag with
      |true=>have:=g1 rfl;simp[this];exact g3
      |false=>
       have:=g2 rfl;subst this;refine⟨(fun h=>by cases h),(fun _=>?_),?_⟩
       .cases e.val<;>rfl
       cases hv:e.val<;>simp only[hv] at g3<;>exact g3
     obtain⟨G,hG⟩:=hch;refine .mp (m.σ id) ents clock G dD hh hl (fun i q v e h1 h2=>((hc i q v e h1 h2).1).less hs.1) (fun i q v e h1 h2=>?_) fun i q v j x u h1 h2 h3=>?_
     .obtain⟨a1,a2,a3⟩:=hG i q v e h1 h2;exact⟨by have:=a3.1;simpa using this,a1,a2⟩
     have ay:i<ents.size:=by rw[hl];exact(aW.1 h1).1
     obtain⟨a1,a2,a3⟩:=hG i q v _ h1 (Array.getElem?_eq_getElem ay);exact(a3.2 j x u h2 (by rw[Array.getElem?_toList];exact h3)).less hs.1
    simp only at h;split at h
    .rename_i g' ag es hb;split at h
     .rename_i js;cases h;have bj:(m.aj id).2=some (.map ag es):=by rw[hb]
      have ha:=ha (by rw[hb];exact js) (by rw[bj];rfl);subst ha;obtain⟨ents,clock,hh,hl,hc⟩:=au.obj id _ bj;exact key ag es ents clock hh hl hc (hs.2 id af)
     cases h
    .rename_i g' ag es hb;split at h
     .rename_i js;cases h;have bj:(m.aj id).2=some (.fmap ag es):=by rw[hb]
      have ha:=ha (by rw[hb];exact js) (by rw[bj];rfl);subst ha;obtain⟨ents,clock,hh,hl,hc,_⟩:=au.obj id _ bj;exact key ag es ents clock hh hl hc (hs.2 id af)
     cases h
    cases h
  |hfn f a b=>
   cases hr with
   |hfn A B hA hB vf qO=>
    simp only at h;split at h
    .rename_i xa ra xb rb h1 h2;cases h;obtain⟨s1,s2⟩:=hs.app;have p1:=OH (vs:=A.toList) h1 s1 ⟨by simpa using hA,fun j x u p q=>vf j x u p (by rw[<- Array.getElem?_toList];exact q)⟩;have p2:=OH (vs:=B.toList) h2 s2 ⟨by simpa using hB,fun j x u p q=>qO j x u p (by rw[<- Array.getElem?_toList];exact q)⟩;exact .fn A B (by have:=p1.1;simpa using this) (by have:=p2.1;simpa using this) (fun j x u p q=>p1.2 j x u p (by rw[Array.getElem?_toList];exact q)) fun j x u p q=>p2.2 j x u p (by rw[Array.getElem?_toList];exact q)
    cases h
end
end Go.Abs
namespace Go.Abs
variable {P:Program} {w0:World}
theorem ajQ{aj:aA}{all:List Nat}:∀ {l:List Nat} {u:List eN},uk aj all l=some u->
  (∀e∈u,e.1∈l/\ ∃x,xj aj all e.1=some x/\e∈x)/\ ∀id∈l,∃x,xj aj all id=some x/\ ∀e∈x,e∈u:=by
 intro l
 induction l with
 |nil=>intro u h;simp[uk] at h;subst h;exact⟨fun e h=>by simp at h,fun id h=>by simp at h⟩
 |cons i r ih=>
  intro u h;simp only[uk] at h;split at h
  .rename_i a b h1 h2;cases h;obtain⟨g1,g2⟩:=ih h2;have aa0:∀e∈a,e.1=i:=by
    intro e he;unfold xj at h1;split at h1<;>first
     |(cases h1;simp at he;subst he;rfl)
     |(split at h1
       .split at h1
        .cases h1;simp at he;subst he;rfl
        cases h1
       cases h1)
     |(cases h1;simp at he)
     |cases h1
   refine⟨fun e he=>?_,fun id hid=>?_⟩
   .rcases fg.1 he with he|he
    .exact⟨by simp[aa0 e he],a,by rw[aa0 e he];exact h1,he⟩
    obtain⟨k1,k2⟩:=g1 e he;exact⟨by simp[k1],k2⟩
   rcases cP.1 hid with rfl|hid
   .exact⟨a,h1,fun e he=>by simp[he]⟩
   obtain⟨x,k1,k2⟩:=g2 id hid;exact⟨x,k1,fun e he=>by simp[k2 e he]⟩
  cases h
def Hj(aj:aA)(all:List Nat):Ob->Ob->Prop
 | .var cs,.fvar ps=>∃r,collect (snap aj fH) cs=some (ps,r)/\ ∀i∈r,i∈all
 | .arr ty sz es,.oN qV dO lE=>qV=ty/\dO=sz/\lE=es
 | .iN ty sz es,.oN qV dO ps=>qV=ty/\dO=sz/\ ∃r,collect (collect (snap aj fH)) es=some (ps,r)/\ ∀i∈r,i∈all
 | .map ag es,.fmap rl lE=>rl=ag/\lE=es
 |_,_=>False
theorem Hj.facts{aj:aA}{all:List Nat}{o o':Ob}(h:Hj aj all o o')(g:Nat):o.fM=true/\o'.fM=false/\kM (g,some o')=kM (g,some o):=by
 cases o<;>cases o'<;>simp only[Hj] at h<;>first
  |exact h.elim
  |exact⟨rfl,rfl,rfl⟩
  |exact⟨rfl,rfl,by simp[kM,h.2.1]⟩
theorem aao{aj:aA}{all:List Nat}{id:Nat}{x:List eN}(h:xj aj all id=some x):
  (∃o,(aj id).2=some o/\o.fM=false/\x=[])\/ ∃o o',(aj id).2=some o/\Hj aj all o o'/\x=[(id,((aj id).1,some o'))]:=by
 unfold xj at h;split at h
 .rename_i g cs hb;split at h
  .rename_i ps r hc;split at h
   .rename_i dy;cases h;refine .inr ⟨.var cs,.fvar ps,by rw[hb],⟨r,hc,fun i hi=>?_⟩,by rw[hb]⟩;have:=ko.1 dy i hi
    simpa using this
   cases h
  cases h
 .rename_i g ty sz es hb;cases h;exact .inr ⟨.arr ty sz es,.oN ty sz es,by rw[hb],⟨rfl,rfl,rfl⟩,by rw[hb]⟩
 .rename_i g ty sz es hb;split at h
  .rename_i ps r hc;split at h
   .rename_i dy;cases h;refine .inr ⟨.iN ty sz es,.oN ty sz ps,by rw[hb],⟨rfl,rfl,r,hc,fun i hi=>?_⟩,by rw[hb]⟩;have:=ko.1 dy i hi
    simpa using this
   cases h
  cases h
 .rename_i g ag es hb;cases h;exact .inr ⟨.map ag es,.fmap ag es,by rw[hb],⟨rfl,rfl⟩,by rw[hb]⟩
 .cases h
 rename_i y n1 n2 n3 n4 n5;cases h;cases hb:aj id with
 |mk g o=>
  cases o with
  |none=>exact(n5 g hb).elim
  |some o=>
   refine .inl ⟨o,rfl,?_,rfl⟩;cases o with
   |var cs=>exact(n1 g cs hb).elim
   |arr ty sz es=>exact(n2 g ty sz es hb).elim
   |iN ty sz es=>exact(n3 g ty sz es hb).elim
   |map ag es=>exact(n4 g ag es hb).elim
   |_=>rfl
def Mem.with(m:Mem)(u:List eN):Mem:={m with aj:=app u m.aj}
theorem xl{m:Mem}{ids:List Nat}{u:List eN}(h:rA m.aj ids=some u)(id:Nat):
  ((m.with u).aj id=m.aj id/\(id∈ids->∃o,(m.aj id).2=some o/\o.fM=false))\/
  (id∈ids/\ ∃o o',(m.aj id).2=some o/\Hj m.aj ids o o'/\(m.with u).aj id=((m.aj id).1,some o')):=by
 obtain⟨h1,h2⟩:=ajQ h;rcases agy u m.aj id with ⟨e1,e2⟩|⟨e,he,e1,e2⟩
 .refine .inl ⟨e1,fun hid=>?_⟩;obtain⟨x,hx,hxu⟩:=h2 id hid;rcases aao hx with ⟨o,a,b,_⟩|⟨o,o',a,b,c⟩
  .exact⟨o,a,b⟩
  exact(e2 (id,(m.aj id).fst,some o') (hxu _ (by rw[c];simp)) rfl).elim
 obtain⟨k1,x,k2,k3⟩:=h1 e he;rw[e1] at k1 k2;rcases aao k2 with ⟨o,a,b,c⟩|⟨o,o',a,b,c⟩
 .rw[c] at k3;simp at k3
 rw[c] at k3;simp at k3;refine .inr ⟨k1,o,o',a,b,?_⟩;simp only[Mem.with];rw[e2,k3]
theorem Un{m:Mem}{ids:List Nat}{u:List eN}(h:rA m.aj ids=some u){c:Nat}(hc:(m.with u).own c):m.own c:=by
 rcases hc with hc|⟨id,o,h1,h2,h3⟩
 .exact .inl hc
 rcases xl h id with ⟨e,_⟩|⟨_,p,q,a,b,e⟩
 .rw[e] at h1;exact .inr ⟨id,o,h1,h2,h3⟩
 rw[e] at h1;cases h1;rw[(b.facts 0).2.1] at h2;cases h2
theorem Uo{m:Mem}(au:Ok w0 m){ids:List Nat}{u:List eN}(h:rA m.aj ids=some u):pQ m (m.with u).own ids:=by
 refine⟨fun b hb=>Un h hb,fun id hid hc=>?_⟩;rcases xl h id with ⟨e,hn⟩|⟨_,o,o',a,b,e⟩
 .obtain⟨o,ho,hm⟩:=hn hid;exact(au.obj id o ho).calm hm (Un h hc)
 rcases hc with hc|⟨eY,q,h1,h2,h3⟩
 .exact(au.ij id o a (b.facts 0).1).2 hc
 by_cases hi:eY=id
 .subst hi;rw[e] at h1;cases h1;rw[(b.facts 0).2.1] at h2;cases h2
 rcases xl h eY with ⟨e',_⟩|⟨_,p',q',a',b',e'⟩
 .rw[e'] at h1;exact hi (au.inj eY id q o h1 h2 a (b.facts 0).1 h3)
 rw[e'] at h1;cases h1;rw[(b'.facts 0).2.1] at h2;cases h2
theorem Um{m:Mem}{ids:List Nat}{u:List eN}(h:rA m.aj ids=some u):Ev m (m.with u) where
 os:=rfl
 tape:=rfl
 output:=rfl
 size:=bN _
 keep _ _ _:=rfl
 fM c _ hc:=by
  obtain⟨id,o,h1,h2,h3⟩:=hc;rcases xl h id with ⟨e,_⟩|⟨_,p,q,a,b,e⟩
  .rw[e] at h1;exact⟨id,o,h1,h2,h3⟩
  rw[e] at h1;cases h1;rw[(b.facts 0).2.1] at h2;cases h2
 less c _ hn hc:=hn (Un h hc)
 gen id:=by rcases xl h id with ⟨e,_⟩|⟨_,p,q,a,b,e⟩<;>rw[e]<;>exact bN _
 ref id he hs:=by
  rcases xl h id with ⟨e,_⟩|⟨_,p,q,a,b,e⟩
  .rw[e] at hs ⊢;exact⟨hs,rfl,rfl,rfl⟩
  rw[e] at hs ⊢;refine⟨by rw[a];rfl,rfl,rfl,?_⟩;have h1:m.aj id=((m.aj id).1,some p):=by rw[<- a]
  rw[(b.facts (m.aj id).1).2.2,<- h1]
theorem aap{m:Mem}(au:Ok w0 m){ids:List Nat}{u:List eN}(h:rA m.aj ids=some u):Ok w0 (m.with u) where
 os:=au.os
 tape:=au.tape
 output:=au.output
 size:=au.size
 base:=au.base
 obj id o ho:=by
  have dY:=Um h;have nY:=Uo au h;rcases xl h id with ⟨e,_⟩|⟨hid,p,q,a,b,e⟩
  .rw[e] at ho;exact(au.obj id o ho).ev dY.zero rfl rfl rfl
  rw[e] at ho;cases ho;have dD:=nY.2 id hid;have O3:∀r:List Nat,(∀i∈r,i∈ids)->pQ m (m.with u).own r:=fun r hr=>⟨nY.1,fun i hi=>nY.2 i (hr i hi)⟩;have OZ:=au.obj id p a;cases p<;>cases o<;>simp only[Hj] at b<;>first
   |exact b.elim
   |skip
  .obtain⟨r,hc,hr⟩:=b;obtain⟨cur,ty,hh,de⟩:=OZ;exact⟨cur,ty,(0,0),hh,dk.pw.2 (HE (R:=cS m) (T:=bY m.w (m.with u).own) (fm:=pQ m (m.with u).own) (fun a b h=>h.app) (fun a b r v e1 e2 e3=>JD au _ e1 e2 e3) hc (O3 r hr) (dr.pw.1 de)),dD⟩
  .obtain⟨rfl,rfl,rfl⟩:=b;obtain⟨cur,hh,o9,ch,hl,hm,de,dE⟩:=OZ;exact⟨cur,(0,0),hh,o9,ch,hl,hm,de,dE.less nY.1,dD⟩
  .obtain⟨rfl,rfl,r,hc,hr⟩:=b;obtain⟨cur,hh,o9,ch,hl,hm,de,dE⟩:=OZ;rename_i es _ sz ps;have cA:ps.length=es.length:=Ry hc;have lH:ps.length*sz<=cur.toList.length:=by
    have h2:es.length*sz<=m.κ id*sz:=mZ _ hl;simp;rw[cA];omega
   have sM:∀(j:Nat) (e:List PV),ps[j]?=some e->Pw (bY m.w (m.with u).own) e ((cur.toList.drop (j*sz)).take sz):=by intro j e he;obtain⟨x,q',h1,h2,h3⟩:=Rx hc he;exact HE (R:=cS m) (T:=bY m.w (m.with u).own) (fm:=pQ m (m.with u).own) (fun a b h=>h.app) (fun a b r v e1 e2 e3=>JD au _ e1 e2 e3) h2 (O3 q' fun i hi=>hr i (h3 i hi)) (Uf ch (dr.pw.1 dE) h1)
   have En:∀e∈ps,e.length=sz:=by intro e he;obtain⟨j,hj⟩:=jZ he;have:=(sM j e hj).1;have xJ:j<ps.length:=(aW.1 hj).1;have h1:(j+1)*sz<=ps.length*sz:=mZ _ xJ;rw[iF] at h1;simp at this lH;omega
   exact⟨cur,(0,0),hh,o9,En,by rw[cA];exact hl,hm,de,dk.pw.2 (VV En lH sM),dD⟩
  obtain⟨rfl,rfl⟩:=b;obtain⟨ents,clock,hh,hl,hc⟩:=OZ;exact⟨ents,clock,hh,hl,fun i q v e h1 h2=>let ⟨p,g,g1,g2,g3⟩:=hc i q v e h1 h2;⟨p.less nY.1,g,g1,g2,g3.less nY.1⟩,dD⟩
 ij id o ho hm:=by
  rcases xl h id with ⟨e,_⟩|⟨_,p,q,a,b,e⟩
  .rw[e] at ho;exact au.ij id o ho hm
  rw[e] at ho;cases ho;rw[(b.facts 0).2.1] at hm;cases hm
 frlt:=au.frlt
 inj id eY o o' h1 m1 h2 m2 he:=by
  rcases xl h id with ⟨e,_⟩|⟨_,p,q,a,b,e⟩
  .rcases xl h eY with ⟨e',_⟩|⟨_,p',q',a',b',e'⟩
   .rw[e] at h1;rw[e'] at h2;exact au.inj id eY o o' h1 m1 h2 m2 he
   rw[e'] at h2;cases h2;rw[(b'.facts 0).2.1] at m2;cases m2
  rw[e] at h1;cases h1;rw[(b.facts 0).2.1] at m1;cases m1
end Go.Abs
namespace Go.Abs
variable {P:Program} {w0:World}
section
variable{w':World}
def Mem.ky(m:Mem)(w':World)(s c k:Nat)(o:Ob):Mem:=(m.later w' (· =c)).install s c k o
section
variable {m:Mem} {w':World} {s c k:Nat} {o:Ob} (hg:fR m.w w') (fG:m.w.heap.size<=c) (qI:c<w'.heap.size)
theorem Ig(au:Ok w0 m)(fG:m.w.heap.size<=c):(m.ky w' s c k o).fr=m.fr:=by
 funext x;simp only[Mem.ky,Mem.install,Mem.later];apply propext;constructor
 .rintro ⟨h|h,h2⟩
  .exact h
  exact(h2 h).elim
 intro h;exact⟨.inl h,fun e=>by have:=au.frlt x h;omega⟩
include hg fG
theorem Ie:Ev m (m.ky w' s c k o):=Pb (ME hg fun x hx=>by subst hx;exact fG) (.inr rfl) (.inl fG)
include qI
theorem Ih(au:Ok w0 m)(ho:tc (m.ky w' s c k o) s o):Ok w0 (m.ky w' s c k o):=Pd (Pq au hg fun x hx=>by subst hx;exact⟨fG,qI⟩) (.inr rfl) (mD au.size fG) ho
end
theorem DG{m:Mem}{s c k:Nat}{o:Ob}:(m.ky w' s c k o).σ s=c:=by simp[Mem.ky,Mem.install,aN]
theorem pW{m:Mem}{s c k:Nat}{o:Ob}:(m.ky w' s c k o).κ s=k:=by simp[Mem.ky,Mem.install,aN]
theorem Ui{m:Mem}{s c k:Nat}{o:Ob}:(m.ky w' s c k o).aj=app [(s,((m.aj s).1+1,some o))] m.aj:=rfl
theorem Uj{m:Mem}{s c k:Nat}{o:Ob}:(m.ky w' s c k o).w=w':=rfl
theorem Lc{m:Mem}{s c cap ty sz:Nat}{es:List (List PV)}{n:Nat}(hn:n<=cap)(hm:cap<=maxLen):
  bQ (m.ky w' s c cap (.arr ty sz es)) (.one (.hsl s ((m.aj s).1+1) sz 0 n)) (.slice (some ⟨c,0,none⟩) n cap):=by
 refine bQ.one.2 (.hsl _ _ ?_ hn hm fun z h1 h2=>?_)
 .simp[Mem.ky,Mem.install,Mem.later,aN]
 have:kM ((m.ky w' s c cap (.arr ty sz es)).aj s)=some sz:=by simp[Mem.ky,Mem.install,aN,kM]
 rw[this] at h2;cases h2;refine⟨rfl,fun _=>?_,fun _=>pW.symm⟩;rw[DG,zI]
theorem ajK{m:Mem}{s c cap ty sz:Nat}{es:List (List C)}{n:Nat}(hn:n<=cap)(hm:cap<=maxLen):
  bQ (m.ky w' s c cap (.iN ty sz es)) (.one (.hsl s ((m.aj s).1+1) sz 0 n)) (.slice (some ⟨c,0,none⟩) n cap):=by
 refine bQ.one.2 (.hsl _ _ ?_ hn hm fun z h1 h2=>?_)
 .simp[Mem.ky,Mem.install,Mem.later,aN]
 have:kM ((m.ky w' s c cap (.iN ty sz es)).aj s)=some sz:=by simp[Mem.ky,Mem.install,aN,kM]
 rw[this] at h2;cases h2;refine⟨rfl,fun _=>?_,fun _=>pW.symm⟩;rw[DG,zI]
theorem NY{t e:TypeId}{sz bytes:Nat}{z:List PV}(h:zU P t=some (e,sz,bytes,z)):
  ∃i v,P.underlying t=some (.slice e)/\P.info? e=some i/\i.size=sz/\i.bytes=bytes/\(0<sz/\0<bytes)/\i.zero=some v/\v.cells.size=sz/\z.length=sz/\ ∀w own,dk w own z v.cells.toList:=by
 unfold zU at h;split at h
 .rename_i e' ht;split at h
  .rename_i i z' hi hz;split at h
   .rename_i ju;cases h;obtain⟨v,i',h1,h2,h3,h4,h5⟩:=Ns hz;rw[hi] at h1;cases h1;exact⟨i,v,ht,hi,rfl,rfl,ju,h2,h3,h4,h5⟩
   cases h
  cases h
 cases h
theorem am7{R:PV->Value->Prop}{z:List PV}{v:Array Value}{sz n:Nat}(hz:Pw R z v.toList)(ch:v.size=sz)(ju:0<sz):
  Pw R (List.replicate n z).flatten ((madeCells v (n*sz)).toList.take (n*sz)):=by
 have mr:z.length=sz:=by have:=hz.1;simp at this;omega
 have dy:∀e∈List.replicate n z,e.length=sz:=fun e he=>by rw[QM he];exact mr
 have hlen:(madeCells v (n*sz)).toList.length=n*sz:=by simp[size_madeCells]
 rw[gR aa];refine⟨by rw[hlen,Ia dy];simp,fun j x u p q=>?_⟩;have hj:j<n*sz:=by have:=(aW.1 q).1;omega
 have hdiv:j/sz<n:=by rw[Nat.div_lt_iff_lt_mul ju];exact hj
 have OU:j%sz<sz:=eH _ ju;have he:(List.replicate n z)[j/sz]?=some z:=by simp[hdiv]
 have h1:=FG dy he OU;rw[show j/sz*sz+j%sz=j by rw[Nat.mul_comm];exact Nat.div_add_mod j sz] at h1;rw[h1] at p;have h2:(madeCells v (n*sz)).toList[j]?=some v[j%sz]! :=by unfold madeCells;simp[hj,ch]
 rw[h2] at q;cases q;refine hz.2 (j%sz) x _ p ?_;have:j%sz<v.size:=aa;simp[this]
section
variable {m:Mem} {ak:Env} {a:Act} {o:Oper} (au:Ok w0 m) (hr:iZ m ak a.tmps)
include au hr
theorem aqn{t e:TypeId}{l c:Operand}{l' c':aR}{s sz bytes n:Nat}{z:List PV}(ho:o.op=.makeSlice t l c)(he:zU P t=some (e,sz,bytes,z))(hl:cE l=some l')(hc:cE c=some c')
  (hn:oI (ev ak l')=some n) (hm:oI (ev ak c')=some n) (lX:n*bytes<=room):
  fJ P w0 a.eval o m (.one (.hsl s ((m.aj s).1+1) sz 0 n)) [(s,((m.aj s).1+1,some (.arr e sz (List.replicate n z))))]:=by
 obtain⟨i,v,ht,hi,hs,hb,⟨ju,Iv⟩,hz,qP,mr,dE⟩:=NY he;obtain⟨k1,h1⟩:=yy hn (eB hl hr);obtain⟨k2,h2⟩:=yy hm (eB hc hr);unfold room at lX;have UK:n<=maxLen:=by have:n<=n*bytes:=QP _ Iv;simp only[maxLen];omega
 have ak0:(n:Int)<=9223372036854775807:=by simp[maxLen] at UK;omega
 have Ch:(i.bytes:Int)*(n:Int)<=281474976710656:=by
  have:((i.bytes*n:Nat):Int)<=281474976710656:=by rw[hb,Nat.mul_comm];omega
  rwa[Int.natCast_mul] at this
 have ml:=run_make (P:=P) m.w t e i v ht hi hz k1 k2 n n aa (Int.le_refl _) Ch ak0;simp only[tY,hs] at ml
 let m':=m.ky (m.w.alloc (.cells (madeCells v.cells (n*sz)) e)) s m.w.heap.size n (.arr e sz (List.replicate n z))
 have dY:Ev m m':=Ie (fR.alloc _ _) (bN _);have Cu:tc m' s (.arr e sz (List.replicate n z)):=by
  refine⟨_,by rw[DG];exact heap_alloc_new m.w _,ju,fun x hx=>?_,?_,?_,?_,?_⟩
  .rw[QM hx];exact mr
  .rw[pW];simp
  .rw[pW];exact UK
  .rw[pW,size_madeCells]
  rw[List.length_replicate];exact dk.pw.2 (am7 (dk.pw.1 (dE _ _)) qP ju)
 refine⟨_,m',.inl ?_,Ih (fR.alloc _ _) (bN _) af au Cu,dY,Ig au (bN _),rfl,Lc (bN _) UK⟩;simp[execOp,ho,h1,h2,ml];rfl
theorem XF{lo hi:Option Operand}{CH yX:Option aR}{n cap l h:Nat}{b:Bool}(eS:wZ lo=some CH)(Ed:wZ hi=some yX)(hl:rm ak 0 CH=some l)(hh:rm ak n yX=some h)
  (Eg:l<=h) (lH:h<=cap):(Instr.sliceBounds b n cap (lo.map a.eval) (hi.map a.eval) none).run P m.w=.ok (l,h,cap) m.w:=by
 have _u0:=au;have nV:(match hi.map a.eval with|some v=>∃k,v=Value.int k (h:Int)|none=>h=n):=by
  cases hi with
  |none=>simp[wZ] at Ed;subst Ed;simp[rm] at hh;simpa using hh.symm
  |some x=>simp only[wZ,dI] at Ed;obtain⟨y,hy,rfl⟩:=Ed;exact yy hh (eB hy hr)
 have nW:(match lo.map a.eval with|some v=>∃k,v=Value.int k (l:Int)|none=>l=0):=by
  cases lo with
  |none=>simp[wZ] at eS;subst eS;simp[rm] at hl;simpa using hl.symm
  |some x=>simp only[wZ,dI] at eS;obtain⟨y,hy,rfl⟩:=eS;exact yy hl (eB hy hr)
 generalize lo.map a.eval=LO at nW;generalize hi.map a.eval=HI at nV;have fG:(h:Int)<=(cap:Int):=aa;have qI:(l:Int)<=(h:Int):=aa;cases LO with
 |none=>
  simp only at nW;subst nW;cases HI with
  |none=>simp only at nV;subst nV;simp[Instr.sliceBounds]
  |some v=>obtain⟨k,rfl⟩:=nV;simp[Instr.sliceBounds,Instr.sliceBound,asIntOf,lH]
 |some u=>
  obtain⟨k,rfl⟩:=nW;cases HI with
  |none=>simp only at nV;subst nV;simp[Instr.sliceBounds,Instr.sliceBound,asIntOf,Eg]
  |some v=>obtain⟨k',rfl⟩:=nV;simp[Instr.sliceBounds,Instr.sliceBound,asIntOf,lH,Eg]
theorem aqw{t:TypeId}{x:Operand}{lo hi:Option Operand}{x':aR}{CH yX:Option aR}{s:ByteArray}{l h:Nat}(ho:o.op=.slice t x lo hi none)(ht:P.underlying t=some .string)
  (hx:cE x=some x') (eS:wZ lo=some CH) (Ed:wZ hi=some yX) (hs:ev ak x'=.one (.p (.str s))) (hl:rm ak 0 CH=some l) (hh:rm ak s.size yX=some h) (Eg:l<=h) (lH:h<=s.size):
  fJ P w0 a.eval o m (.one (.p (.str (s.extract l h)))) []:=by
 have h1:=eB hx hr;rw[hs] at h1;have hb:=XF (P:=P) (w0:=w0) (au:=au) (hr:=hr) (b:=false) eS Ed hl hh Eg lH;refine .calm au ?_ (mS (.str _));simp[execOp,ho,MA h1,Instr.sliceAt,Instr.slice,run_underlying ht,hb]
theorem aqv{t e:TypeId}{x:Operand}{lo hi:Option Operand}{x':aR}{CH yX:Option aR}{sz n l h:Nat}{v:V}(ho:o.op=.slice t x lo hi none)(ht:P.underlying t=some (.slice e))(ch:wJ P e=some sz)
  (hx:cE x=some x') (eS:wZ lo=some CH) (Ed:wZ hi=some yX) (hn:xR (ev ak x')=some n) (hl:rm ak 0 CH=some l) (hh:rm ak n yX=some h)
  (hv:CO (ev ak x') sz l h=.done v [] []):fJ P w0 a.eval o m v []:=by
 have h1:=eB hx hr;unfold CO at hv;split at hv
 .cases hv
 rename_i Eg;have Eg:l<=h:=by simpa using Eg
 have run:∀(ad:Option Addr) (cap:Nat),a.eval x=.slice ad n cap->h<=cap->(execOp a.eval o).run P m.w=.ok (.value (.slice (if cap=l then ad else ad.map (·.add (l*sz))) (h-l) (cap-l))) m.w:=by intro ad cap j6 lH;have hb:=XF (P:=P) (w0:=w0) (au:=au) (hr:=hr) (b:=true) eS Ed hl hh Eg lH;simp[execOp,ho,j6,Instr.sliceAt,Instr.slice,run_underlying ht,hb,Qn ch]
 obtain⟨ad0,cap0,hsl,hncap,nX⟩:=acI (au:=au) (hr:=hr) hn h1;split at hv
 .rename_i he;split at hv
  .rename_i h0;cases hv;rw[he] at h1;have:=Pg h1;subst h0;have vc:l=0:=aa;subst vc;rw[this] at hsl;cases hsl;refine .calm au (run none 0 this (bN _)) ?_;simp;exact mS .nils
  cases hv
 .rename_i es he;split at hv
  .rename_i hc;cases hv;rw[he] at h1 hn;simp[xR] at hn;subst hn;obtain⟨hp⟩:cS m _ (a.eval x):=h1;generalize hb:a.eval x=b at hp;generalize hU:(PV.sl es)=pv at hp;cases hp<;>cases hU
   .rename_i ad cap IG hm;simp at hc;have hh0:h=0:=aa;subst hh0;have vc:l=0:=aa;subst vc;refine .calm au (run ad cap hb (bG _)) (mS ?_);simp only[List.drop_nil,List.take_nil,Nat.sub_zero];refine .xX _ _ (fun h=>?_) hm;split at h
    .exact IG h
    cases ad with
    |none=>exact IG rfl
    |some ad=>simp at h
   rename_i b' o' cap dO f hm k8 u9 tH vZ Cv;refine .calm au (run _ cap hb aa) (mS ?_);by_cases ay:l=h
   .subst ay;simp only[Nat.sub_self,List.take_zero];refine .xX _ _ (fun h=>?_) aa;split at h<;>simp at h
   have hlen:((es.drop l).take (h-l)).length=h-l:=by simp;omega
   have mL:es≠[]:=fun e=>by subst e;simp at hc;omega
   have U2:dO=sz:=by obtain⟨e0,r0,rfl⟩:=List.exists_cons_of_ne_nil mL;have g1:=tH e0 af;have g2:=hc.2;simp[ie] at g2;omega
   subst U2;rw[if_neg aa];simp only[ng,Addr.add_lit];have Au:=bY.sl (w:=m.w) (own:=m.own) (es:=(es.drop l).take (h-l)) b' (o'+l*dO) (cap-l) dO (fun j=>f (l*dO+j)) (fun aH=>k8 fun e0=>aH ?_) aa aa (fun e he=>tH e (wR (yg he))) ?_ ?_
   .rw[hlen] at Au;exact Au
   .apply List.eq_nil_of_length_eq_zero;rw[Ib (fun e he=>tH e (wR he)),Oo tH,e0];simp
   .intro j z hz;rw[Ib (fun e he=>tH e (wR he)),Oo tH,mW] at hz;split at hz
    .rw[Bu] at hz;rw[Hh];exact vZ _ z hz
    cases hz
   intro j z hz;rw[Ib (fun e he=>tH e (wR he)),Oo tH,mW] at hz;split at hz
   .rw[Bu] at hz;exact Cv _ z hz
   cases hz
  cases hv
 .rename_i id g z off len he;split at hv
  .rename_i hc;cases hv;rw[he] at h1 hn;simp[xR] at hn;subst hn;have fv:cS m _ (a.eval x):=h1;generalize hb:a.eval x=b at fv;cases fv with
   |hsl ad cap hg rJ hm LZ=>
    refine .calm au (run _ cap hb aa) ?_;have U1:∃ad',(if cap=l then some ad else (some ad).map (·.add (l*sz)))=some ad'/\(cap≠l->ad'=ad.add (l*sz))/\(l=0->ad'=ad):=by
     by_cases cq:cap=l
     .exact⟨ad,by simp[cq],fun h=>(h cq).elim,fun _=>rfl⟩
     exact⟨ad.add (l*sz),by simp[cq],fun _=>rfl,fun h=>by subst h;simp[Addr.add]⟩
    obtain⟨ad',e1,e2,e3⟩:=U1;rw[e1];refine bQ.one.2 (.hsl _ _ hg aa aa fun s g1 g2=>?_);obtain⟨f1,f2,f3⟩:=LZ s g1 g2;refine⟨f1,fun Ar=>?_,fun h0=>?_⟩
    .by_cases vc:l=0
     .subst vc;rw[e3 rfl,yl];refine f2 ?_;rcases Ar with h|h
      .exact .inl aa
      exact .inr aa
     have:0<h-l:=by rcases Ar with h|h<;>omega
     rw[e2 aa,f2 (.inr aa),Addr.add_lit,f1,hc.2,iF]
    have:off=0/\l=0:=aa;rw[this.2,Nat.sub_zero];exact f3 this.1
  cases hv
 cases hv
end
end
end Go.Abs
namespace Go.Abs
variable {P:Program} {w0:World}
theorem ajG(off:Nat):∀(vs:List Value) (i:Nat) (cells:Array Value),off+i+vs.length<=cells.size->
  ((vs.zipIdx i).foldl (fun cs (x:Value×Nat)=>cs.setIfInBounds (off+x.2) x.1) cells).toList=eX cells.toList (off+i) vs:=by
 intro vs
 induction vs with
 |nil=>intro i cells _;simp[eX]
 |cons v r ih=>
  intro i cells h;simp only[dh] at h;simp only[List.zipIdx_cons,Dd];rw[ih (i+1) _ (by simp;omega)];unfold eX;rw[Array.toList_setIfInBounds];have ay:off+i<cells.toList.length:=by simp;omega
  have e1:(cells.toList.set (off+i) v).take (off+(i+1))=cells.toList.take (off+i)++[v]:=by rw[show off+(i+1)=(off+i)+1 by omega,List.take_succ_eq_append_getElem (by simpa using ay),List.take_set,List.set_eq_of_length_le (by simp;omega)];simp
  have e2:(cells.toList.set (off+i) v).drop (off+(i+1)+r.length)=cells.toList.drop (off+(i+1)+r.length):=by rw[List.drop_set_of_lt aa]
  rw[e1,e2];simp only[dh,zE,List.singleton_append];congr 3;omega
theorem Z3{place:Nat->Option (Nat×Nat)}{i off n:Nat}{v:Value}{rest:List (Nat×Value)}{cells:Array Value}(hp:place i=some (off,n))(hv:v.cells.size=n)(hfit:off+n<=cells.size):
  ∃kx,Instr.fill place cells ((i,v)::rest)=Instr.fill place kx rest/\kx.toList=eX cells.toList off v.cells.toList:=by
 refine⟨v.cells.zipIdx.foldl (fun cs (x:Value×Nat)=>cs.setIfInBounds (off+x.2) x.1) cells,?_,?_⟩
 .simp only[Instr.fill,hp];rw[if_neg (by simp[hv];omega)]
 rw[<- Array.foldl_toList,Array.toList_zipIdx,ajG off v.cells.toList 0 cells (by simp;omega)];simp
theorem Z2{m:Mem}{ak:Env}{a:Act}(hr:iZ m ak a.tmps){place:Nat->Option (Nat×Nat)}{zl:Nat}:∀ {ps:List (Nat×Operand)} {qs:List (Nat×Nat×aR)} {rs:List (Nat×List C)} {cs:List C} {cells:Array Value},
  EK place zl ps=some qs->xU ak qs=some rs->dr m cs cells.toList->cs.length=zl->
  ∃kx,Instr.fill place cells (ps.map fun x=>(x.1,a.eval x.2))=some kx/\dr m (fill cs rs) kx.toList:=by
 intro ps
 induction ps with
 |nil=>intro qs rs cs cells h1 h2 hc hl;simp[EK] at h1;subst h1;simp[xU] at h2;subst h2;exact⟨cells,by simp[Instr.fill],by simpa [fill] using hc⟩
 |cons p t ih=>
  intro qs rs cs cells h1 h2 hc hl;obtain⟨i,x⟩:=p;simp only[EK] at h1;split at h1
  .rename_i off n a' q cA hx hq;split at h1
   .rename_i hfit;cases h1;simp only[xU] at h2;split at h2
    .rename_i DB q' hcv Gc;split at h2
     .rename_i hlen;cases h2;have hv:=Rq hcv (eB hx hr);have ch:(a.eval x).cells.size=n:=by have:=hv.1;simp at this;omega
      have cq:=hc.1;simp at cq;obtain⟨kx,e1,e2⟩:=Z3 (rest:=t.map fun x=>(x.1,a.eval x.2)) cA ch (by omega:off+n<=cells.size);simp only[dS,fill];rw[e1];refine ih hq Gc ?_ (by rw[Qv aa];exact hl);rw[e2];exact dr.pw.2 ((dr.pw.1 hc).eX (dr.pw.1 hv) off)
     cases h2
    cases h2
   cases h1
  cases h1
theorem mapM_ok{α β:Type}{f:α->Sem β}{g:α->β}{w:World}:∀ {l:List α},(∀x∈l,(f x).run P w=.ok (g x) w)->(l.mapM f).run P w=.ok (l.map g) w:=by
 intro l
 induction l with
 |nil=>intro _;simp
 |cons x r ih=>intro h;simp[List.mapM_cons,h x af,ih fun y hy=>h y (by simp[hy])]
theorem aiL{m:Mem}{ak:Env}{a:Act}(hr:iZ m ak a.tmps){place:Nat->Option (Nat×Nat)}{sz:Nat}(alm:∀k,place k=some (k*sz,sz)):∀ {ps:List (Nat×Operand)} {as:List aR} {es:List (List C)} {k:Nat} {done:List Value} {cells:Array Value},
  HU k ps=some as->yJ ak sz as=some es->done.length=k*sz->cells.toList.take (k*sz)=done->cells.size=(k+as.length)*sz->
  ∃kx,Instr.fill place cells (ps.map fun x=>(x.1,a.eval x.2))=some kx/\ ∃vs,kx.toList=done++vs/\dr m es.flatten vs/\(∀e∈es,e.length=sz)/\es.length=as.length:=by
 intro ps
 induction ps with
 |nil=>intro as es k done cells h1 h2 hd ht hs;simp[HU] at h1;subst h1;simp[yJ] at h2;subst h2;refine⟨cells,by simp[Instr.fill],[],?_,⟨af,fun j x u p=>by simp at p⟩,fun e he=>by simp at he,rfl⟩;rw[<- ht,kN,gR (by simp at hs ⊢;omega)]
 |cons p t ih=>
  intro as es k done cells h1 h2 hd ht hs;obtain⟨i,x⟩:=p;simp only[HU] at h1;split at h1
  .rename_i a' q hx hq;split at h1
   .rename_i hik;cases h1;subst hik;simp only[yJ] at h2;split at h2
    .rename_i DB q' hcv Gc;split at h2
     .rename_i hlen;cases h2;have hv:=Rq hcv (eB hx hr);have ch:(a.eval x).cells.size=sz:=by have:=hv.1;simp at this;omega
      simp only[dh] at hs;have eG:cells.size=i*sz+sz+q.length*sz:=by rw[hs,iF,iF];omega
      obtain⟨kx,e1,e2⟩:=Z3 (rest:=t.map fun x=>(x.1,a.eval x.2)) (alm i) ch (by omega:i*sz+sz<=cells.size);have kJ:kx.toList.length=cells.size:=by rw[e2,Qv (by simp;omega)];simp
      obtain⟨ahB,f1,vs,f2,f3,f4,f5⟩:=ih (k:=i+1) (done:=done++(a.eval x).cells.toList) (cells:=kx) hq Gc (by simp[hd,ch,iF]) (by rw[e2];unfold eX;rw[ht,QO (by simp[hd,ch,iF])];rw[gR (by simp[hd,ch,iF])]) (by simp at kJ;rw[kJ,eG,iF,iF];omega)
      simp only[dS];rw[e1];refine⟨ahB,f1,(a.eval x).cells.toList++vs,by rw[f2,zE],?_,?_,by simp[f5]⟩
      .simp only[l8];exact dr.pw.2 ((dr.pw.1 hv).append (dr.pw.1 f3))
      intro e he;rcases cP.1 he with rfl|he
      .exact hlen
      exact f4 e he
     cases h2
    cases h2
   cases h1
  cases h1
theorem arF{m:Mem}:∀ {es:List (List C)} {qs:List (List PV)} {vs:List Value} {sz:Nat},Bj es=some qs->(∀e∈es,e.length=sz)->dr m es.flatten vs->dk m.w m.own qs.flatten vs/\(∀e∈qs,e.length=sz)/\qs.length=es.length:=by
 intro es
 induction es with
 |nil=>intro qs vs sz h _ hc;simp[Bj] at h;subst h;exact⟨⟨hc.1,fun j x u p=>by simp at p⟩,fun e he=>by simp at he,rfl⟩
 |cons e r ih=>
  intro qs vs sz h ch hc;simp only[Bj] at h;split at h
  .rename_i v mV h1 h2;cases h;simp only[l8] at hc;have dC:=ch e af;have fG:=(dr.pw.1 hc).take e.length;have qI:=(dr.pw.1 hc).drop e.length;simp only[List.take_left,List.drop_left] at fG qI;have g1:=Ng h1 (dr.pw.2 fG);obtain⟨g2,g3,g4⟩:=ih h2 (fun x hx=>ch x (by simp[hx])) (dr.pw.2 qI);have rK:v.length=sz:=by
    have a1:=g1.1;have a2:=fG.1;omega
   refine⟨?_,?_,by simp[g4]⟩
   .have:=(dk.pw.1 g1).append (dk.pw.1 g2);rw[mX] at this;exact dk.pw.2 this
   intro y hy;rcases cP.1 hy with rfl|hy
   .exact rK
   exact g3 y hy
  cases h
section
variable {m:Mem} {ak:Env} {a:Act} {o:Oper} (au:Ok w0 m) (hr:iZ m ak a.tmps)
include au hr
theorem ap9{t:TypeId}{ps:Array (Nat×Operand)}{fs:Array Field}{z:List PV}{qs:List (Nat×Nat×aR)}{rs:List (Nat×List C)}(ho:o.op=.build t ps)(ht:P.underlying t=some (.struct fs))(hz:Bp P t=some z)
  (dy:fs.all (fun f=>(P.info? f.type).isSome)=true) (hp:EK (fun i=>(fs[i]?).map fun f=>(f.offset,P.cellsOf f.type)) z.length ps.toList=some qs) (hv:xU ak qs=some rs):
  fJ P w0 a.eval o m (.agg (fill (z.map .p) rs)) []:=by
 obtain⟨v,i,hi,hiv,hs,hl,dE⟩:=Ns hz;obtain⟨kx,h1,h2⟩:=Z2 hr hp hv (dE m.w m.own).CX af;refine .calm (x:=.agg kx) au ?_ (bQ.agg.2 ⟨_,rfl,h2⟩);have Gb:(fs.mapM (fun f=>do pure (f.offset,<- sizeOf f.type):Field->Sem (Nat×Nat))).run P m.w=.ok (fs.map fun f=>(f.offset,P.cellsOf f.type)) m.w:=by
  rw[Array.mapM_eq_mapM_toList];have:=mapM_ok (P:=P) (f:=(fun f=>do pure (f.offset,<- sizeOf f.type):Field->Sem (Nat×Nat))) (g:=fun f=>(f.offset,P.cellsOf f.type)) (w:=m.w) (l:=fs.toList) (fun f hf=>by
   have:=Array.all_eq_true_iff_forall_mem.1 dy f (by simpa using hf);cases FZ:P.info? f.type with
   |none=>rw[FZ] at this;cases this
   |some i=>simp[sizeOf,typeInfo,FZ,Program.cellsOf])
  rw[Sem.run_map,this];simp only[Result.andThen_ok];congr 1;apply Array.ext';simp
 have D0:Instr.fill (fun x=>(fs.map fun f=>(f.offset,P.cellsOf f.type))[x]?) v.cells (ps.map fun x=>(x.1,a.eval x.2)).toList=some kx:=by simpa using h1
 simp only[execOp,ho,Instr.build,zeroValue,typeInfo,Sem.run_bind,run_program,Result.andThen_ok,hi,hiv,Sem.run_pure,run_underlying ht,Gb,D0]
theorem ap8{t e:TypeId}{n:Nat}{ps:Array (Nat×Operand)}{i:TypeInfo}{z:List PV}{qs:List (Nat×Nat×aR)}{rs:List (Nat×List C)}(ho:o.op=.build t ps)(ht:P.underlying t=some (.array n e))(hz:Bp P t=some z)
  (hie:P.info? e=some i) (hp:EK (fun k=>some (k*i.size,i.size)) z.length ps.toList=some qs) (hv:xU ak qs=some rs):
  fJ P w0 a.eval o m (.agg (fill (z.map .p) rs)) []:=by
 obtain⟨v,i',hi,hiv,hs,hl,dE⟩:=Ns hz;obtain⟨kx,h1,h2⟩:=Z2 hr hp hv (dE m.w m.own).CX af;refine .calm (x:=.agg kx) au ?_ (bQ.agg.2 ⟨_,rfl,h2⟩);have D0:Instr.fill (fun k=>some (k*i.size,i.size)) v.cells (ps.map fun x=>(x.1,a.eval x.2)).toList=some kx:=by simpa using h1
 simp only[execOp,ho,Instr.build,zeroValue,sizeOf,typeInfo,Sem.run_bind,run_program,Result.andThen_ok,hi,hie,hiv,Sem.run_pure,run_underlying ht,D0]
theorem ap6{t e:TypeId}{n sz bytes s:Nat}{z:List PV}{ps:Array (Nat×Operand)}{as:List aR}{es:List (List C)}(ho:o.op=.buildSlice t n ps)(he:zU P t=some (e,sz,bytes,z))(hp:HU 0 ps.toList=some as)
  (hn:as.length=n) (akt:n*sz<=16777216) (hv:yJ ak sz as=some es):
  (∀qs,Bj es=some qs->fJ P w0 a.eval o m (.one (.hsl s ((m.aj s).1+1) sz 0 es.length)) [(s,((m.aj s).1+1,some (.arr e sz qs)))])/\
  fJ P w0 a.eval o m (.one (.hsl s ((m.aj s).1+1) sz 0 es.length)) [(s,((m.aj s).1+1,some (.iN e sz es)))]:=by
 obtain⟨i,v,ht,hi,hs,hb,⟨ju,_⟩,xI,qP,mr,dE⟩:=NY he;subst hn;obtain⟨kx,f1,vs,f2,f3,f4,f5⟩:=aiL (place:=fun k=>some (k*sz,sz)) (done:=[]) (cells:=(Array.range (as.length*sz)).map ((if as.length*sz=0 then #[] else v.cells)[· %(if as.length*sz=0 then #[] else v.cells).size]!)) hr (fun _=>rfl) hp hv af af af;have ml:(execOp a.eval o).run P m.w=.ok (.value (.slice (some ⟨m.w.heap.size,0,none⟩) es.length es.length)) (m.w.alloc (.cells kx e)):=by
  have D0:Instr.fill (fun k=>some (k*sz,sz)) ((Array.range (as.length*sz)).map ((if as.length*sz=0 then #[] else v.cells)[· %(if as.length*sz=0 then #[] else v.cells).size]!)) (ps.map fun x=>(x.1,a.eval x.2)).toList=some kx:=by simpa using f1
  have hnb:¬(16777216<as.length*sz):=aa;have abg:¬(as.length*sz>2 ^ 24):=aa;by_cases h0:as.length*sz=0
  .simp only[if_pos h0] at D0;simp only[execOp,ho,Instr.buildSlice,Sem.run_bind,run_underlying ht,Result.andThen_ok,sizeOf,typeInfo,run_program,hi,Sem.run_pure,hs,if_neg abg,if_pos h0,D0,newRow,run_newObj,f5];rfl
  simp only[if_neg h0] at D0;simp only[execOp,ho,Instr.buildSlice,Sem.run_bind,run_underlying ht,Result.andThen_ok,sizeOf,typeInfo,run_program,hi,Sem.run_pure,hs,if_neg abg,if_neg h0,zeroValue,xI,D0,newRow,run_newObj,f5];rfl
 simp at f2;have cq:kx.size=es.length*sz:=by
  have h1:=f3.1;rw[Ia f4] at h1;have:kx.toList.length=vs.length:=by rw[f2]
  simp at this;omega
 have L8:es.length<=maxLen:=by have:es.length<=es.length*sz:=QP _ ju;simp only[maxLen];rw[f5] at this ⊢;omega
 have abp:kx.toList.take (es.length*sz)=vs:=by rw[gR (by simp;omega),f2]
 constructor
 .intro qs hq;have dY:Ev m (m.ky (m.w.alloc (.cells kx e)) s m.w.heap.size es.length (.arr e sz qs)):=Ie (fR.alloc _ _) (bN _);obtain⟨g1,g2,g3⟩:=arF hq f4 (f3.ev dY.zero);refine⟨_,m.ky (m.w.alloc (.cells kx e)) s m.w.heap.size es.length (.arr e sz qs),.inl ml,Ih (fR.alloc _ _) (bN _) af au ?_,dY,Ig au (bN _),rfl,Lc (bN _) L8⟩;exact⟨kx,by rw[DG];exact heap_alloc_new m.w _,ju,g2,by rw[pW,g3];exact bN _,by rw[pW];exact L8,by rw[pW,cq],by rw[g3,abp];exact g1⟩
 have dY:Ev m (m.ky (m.w.alloc (.cells kx e)) s m.w.heap.size es.length (.iN e sz es)):=Ie (fR.alloc _ _) (bN _);refine⟨_,m.ky (m.w.alloc (.cells kx e)) s m.w.heap.size es.length (.iN e sz es),.inl ml,Ih (fR.alloc _ _) (bN _) af au ?_,dY,Ig au (bN _),rfl,ajK (bN _) L8⟩;exact⟨kx,by rw[DG];exact heap_alloc_new m.w _,ju,f4,by rw[pW];exact bN _,by rw[pW];exact L8,by rw[pW,cq],by rw[abp];exact f3.ev dY.zero⟩
end
end Go.Abs
namespace Go.Abs
variable {P:Program} {w0:World}
theorem NJ(a b:List eN)(aj:aA):app (a++b) aj=app b (app a aj):=by
 induction a generalizing aj with
 |nil=>rfl
 |cons x r ih=>obtain⟨i,o⟩:=x;simp only[yf,app];exact ih _
theorem amE{m:Mem}{Ca:Nat->Prop}(hf:∀c,Ca c->m.fr c){c:Nat}(h:({m with fr:=Ca}:Mem).own c):m.own c:=by
 rcases h with h|h
 .exact .inl (hf c h)
 exact .inr h
theorem acK{m:Mem}{Ca:Nat->Prop}(hf:∀c,Ca c->m.fr c):Ev m {m with fr:=Ca}:=
 ⟨rfl,rfl,rfl,bN _,fun _ _ _=>rfl,fun _ _ h=>h,fun _ _ hn h=>hn (amE hf h),fun _=>bN _,fun _ _ h=>⟨h,rfl,rfl,rfl⟩⟩
theorem amD{m:Mem}{Ca:Nat->Prop}(h:Ok w0 m)(hf:∀c,Ca c->m.fr c):Ok w0 {m with fr:=Ca} where
 os:=h.os
 tape:=h.tape
 output:=h.output
 size:=h.size
 base:=h.base
 obj id o ho:=(h.obj id o ho).ev (acK hf).zero rfl rfl rfl
 ij id o ho hm:=⟨(h.ij id o ho hm).1,fun hc=>(h.ij id o ho hm).2 (hf _ hc)⟩
 frlt c hc:=h.frlt c (hf c hc)
 inj:=h.inj
theorem apP{m:Mem}{w':World}{c:Nat}(h:Ok w0 m)(hc:m.fr c)(eS:w0.heap.size<=c)(zb:w'.os=m.w.os)(ht:w'.tape=m.w.tape)(nA:w'.output=m.w.output)(hs:w'.heap.size=m.w.heap.size)
  (hk:∀x,x≠c->w'.heap[x]?=m.w.heap[x]?):Ok w0 {m with w:=w'} where
 os:=zb.trans h.os
 tape:=ht.trans h.tape
 output:=nA.trans h.output
 size:=mD h.size (Fb hs.symm)
 base x hx:=(hk x aa).trans (h.base x hx)
 obj id o ho:=by
  have aH:m.σ id≠c:=by
   intro e;cases hm:o.fM with
   |true=>exact(h.ij id o ho hm).2 (e▸hc)
   |false=>exact(h.obj id o ho).calm hm (.inl (e▸hc))
  exact(h.obj id o ho).ev (m':={m with w:=w'}) ⟨fun x _ hn=>⟨hk x fun e=>hn (.inl (e▸hc)),hn⟩,fun _=>bN _,fun _ _ h=>⟨h,rfl,rfl,rfl⟩⟩ rfl rfl (hk _ aH)
 ij:=h.ij
 frlt x hx:=by rw[show({m with w:=w'}:Mem).w.heap.size=m.w.heap.size from hs];exact h.frlt x hx
 inj:=h.inj
theorem YB{m:Mem}(au:Ok w0 m){own:Nat->Prop}{x:V}{v:Value}{new:List (List PV)}{rd fr:List Nat}(h:fF m.aj x=some (new,rd,fr))(hv:bQ m x v)(hs:pQ m own fr):
  ∃ax cx,v=.slice ax new.length cx/\(∀z,mz x=some z->∀e∈new,e.length=z)/\
   (new≠[]->∃b o news,ax=some ⟨b,o,none⟩/\Pw (bY m.w own) new.flatten news/\ ∀(j:Nat) (u:Value),news[j]?=some u->m.w.cell? ⟨b,o+j,none⟩=some u):=by
 have row:∀(c off sz len:Nat) (cur:Array Value) (ty:TypeId) (fz:Nat×Nat) (ps:List (List PV)),m.w.heap[c]?=some (.cells cur ty fz)->Pw (bY m.w own) ps.flatten ((cur.toList.drop (off*sz)).take (ps.length*sz))->
   ∃b o news,some (⟨c,off*sz,none⟩:Addr)=some ⟨b,o,none⟩/\Pw (bY m.w own) ps.flatten news/\ ∀(j:Nat) (u:Value),news[j]?=some u->m.w.cell? ⟨b,o+j,none⟩=some u:=by
  intro c off sz len cur ty fz ps hh hp;refine⟨c,off*sz,_,rfl,hp,fun j u hj=>?_⟩;rw[mW] at hj;split at hj
  .rw[KE hh];simpa using hj
  cases hj
 unfold fF at h;split at h
 .cases h;exact⟨none,0,Pg hv,fun z hz=>by simp[mz] at hz,fun h=>(h rfl).elim⟩
 .rename_i es;cases h;obtain⟨hp⟩:cS m _ v:=hv;generalize hU:(PV.sl new)=pv at hp;cases hp<;>cases hU
  .exact⟨_,_,rfl,fun z hz=>by simp[mz] at hz,fun h=>(h rfl).elim⟩
  rename_i b o cap sz f hm ho hl ch vZ Cv;refine⟨_,_,rfl,fun z hz=>by simp[mz] at hz,fun _=>⟨b,o,(List.range new.flatten.length).map f,rfl,⟨af,fun j y u p q=>?_⟩,fun j u q=>?_⟩⟩
  .have hj:j<new.flatten.length:=(aW.1 p).1;rw[fZ,r4 hj] at q;simp at q;subst q;exact(Cv j y p).less hs.1
  have hj:j<new.flatten.length:=by have:=(aW.1 q).1;simpa using this
  rw[fZ,r4 hj] at q;simp at q;subst q;exact vZ j _ (s0 hj)
 .rename_i id g z off len;have fv:cS m _ v:=hv;cases fv with
  |hsl ad cap hg hl hm LZ=>
   split at h
   .rename_i g' ty sz es hb;split at h
    .rename_i hc;cases h;have bj:(m.aj id).2=some (.arr ty sz es):=by rw[hb]
     obtain⟨cur,hh,o9,ch,sG,uz,de,dE⟩:=au.obj id _ bj;obtain⟨e1,e2,e3⟩:=LZ sz (by rw[hb];exact hc.1) (by rw[hb];rfl);have hlen:((es.drop off).take len).length=len:=by simp;omega
     refine⟨some ad,cap,by rw[hlen],fun z' qk e he=>?_,fun aH=>?_⟩
     .simp[mz] at qk;subst qk;rw[<- e1];exact ch e (wR (yg he))
     have:0<len:=by
      cases len with
      |zero=>simp at aH
      |succ n=>omega
     rw[e2 (.inr this)];exact row (m.σ id) off sz len cur ty _ _ hh (GN ch (dk.pw.1 (dE.less hs.1)) hc.2)
    cases h
   .rename_i g' ty sz es hb;split at h
    .rename_i hc;cases h;have bj:(m.aj id).2=some (.oN ty sz es):=by rw[hb]
     obtain⟨cur,fz,hh,o9,ch,sG,uz,de,dE,_⟩:=au.obj id _ bj;obtain⟨e1,e2,e3⟩:=LZ sz (by rw[hb];exact hc.1) (by rw[hb];rfl);have hlen:((es.drop off).take len).length=len:=by simp;omega
     refine⟨some ad,cap,by rw[hlen],fun z' qk e he=>?_,fun aH=>?_⟩
     .simp[mz] at qk;subst qk;rw[<- e1];exact ch e (wR (yg he))
     have:0<len:=by
      cases len with
      |zero=>simp at aH
      |succ n=>omega
     rw[e2 (.inr this)];exact row (m.σ id) off sz len cur ty _ _ hh (GN ch (dk.pw.1 (dE.less hs.1)) hc.2)
    cases h
   .rename_i g' ty sz es hb;split at h
    .rename_i hc;split at h
     .rename_i ps q hq;cases h;have bj:(m.aj id).2=some (.iN ty sz es):=by rw[hb]
      obtain⟨cur,hh,o9,ch,sG,uz,de,dE⟩:=au.obj id _ bj;obtain⟨e1,e2,e3⟩:=LZ sz (by rw[hb];exact hc.1) (by rw[hb];rfl);have hle:((es.drop off).take len).length=len:=by simp;omega
      have cA:new.length=len:=by rw[Ry hq,hle]
      have UZ:=GN ch (dr.pw.1 dE) hc.2;have Ms:∀e∈(es.drop off).take len,e.length=sz:=fun e he=>ch e (wR (yg he));have lH:len*sz<=(cur.toList.drop (off*sz)).length:=by
       simp;have h1:off*sz+len*sz<=es.length*sz:=by rw[<- iF];exact mZ _ hc.2
       have h2:es.length*sz<=m.κ id*sz:=mZ _ sG;omega
      have sM:∀(j:Nat) (e:List PV),new[j]?=some e->Pw (bY m.w own) e (((cur.toList.drop (off*sz)).drop (j*sz)).take sz):=by intro j e he;obtain⟨x,q',h1,h2,h3⟩:=Rx hq he;exact HE (R:=cS m) (T:=bY m.w own) (fm:=pQ m own) (fun a b h=>h.app) (fun a b r v e1 e2 e3=>JD au _ e1 e2 e3) h2 ⟨hs.1,fun i hi=>hs.2 i (h3 i hi)⟩ (Uf Ms UZ h1)
      have En:∀e∈new,e.length=sz:=by
       intro e he;obtain⟨j,hj⟩:=jZ he;have:=(sM j e hj).1;have xJ:j<len:=by rw[<- cA];exact(aW.1 hj).1
       have h1:(j+1)*sz<=len*sz:=mZ _ xJ;rw[iF] at h1;simp at this lH;omega
      refine⟨some ad,cap,by rw[cA],fun z' qk e he=>?_,fun aH=>?_⟩
      .simp[mz] at qk;subst qk;rw[<- e1];exact En e he
      have:0<len:=by rw[<- cA];exact iX.2 aH
      rw[e2 (.inr this)];refine row (m.σ id) off sz len cur ty _ _ hh ?_;rw[cA];have:=VV En (by rw[cA];exact lH) sM;rw[cA] at this;exact this
     cases h
    cases h
   split at h
   .rename_i vc;cases h;exact⟨some ad,cap,by rw[vc];rfl,fun z' _ e he=>by simp at he,fun h=>(h rfl).elim⟩
   cases h
 cases h
end Go.Abs
namespace Go.Abs
variable {P:Program} {w0:World}
theorem ao8{w:World}{own:Nat->Prop}{xs:List PV}{vs:List Value}(h:Pw (bY w own) xs vs):∀u∈vs,u.oneCell'=true:=by
 intro v hv;obtain⟨j,hj⟩:=jZ hv;have ay:j<xs.length:=by rw[<- h.1];exact(aW.1 hj).1
 exact(h.2 j _ v (s0 ay) hj).MW
theorem Ld{m:Mem}{ids:List Nat}{u:List eN}(h:rA m.aj ids=some u)(id:Nat):(app u m.aj id).1=(m.aj id).1:=by
 rcases xl h id with ⟨e,_⟩|⟨_,p,q,a,b,e⟩
 .exact congrArg Prod.fst e
 have:=congrArg Prod.fst e;exact this
theorem aiG{m:Mem}{id:Nat}{o:Ob}{w':World}(ho:(m.aj id).2=some o)(hm:o.fM=true)(zb:w'.os=m.w.os)(ht:w'.tape=m.w.tape)(nA:w'.output=m.w.output)(hs:w'.heap.size=m.w.heap.size)
  (hk:∀x,x≠m.σ id->w'.heap[x]?=m.w.heap[x]?):Ev m {m.kX id with w:=w'} where
 os:=zb
 tape:=ht
 output:=nA
 size:=Fb hs.symm
 keep c _ hn:=hk c fun e=>hn ⟨id,o,ho,hm,e.symm⟩
 fM:=(HQ ho hm).fM
 less:=(HQ ho hm).less
 gen:=(HQ ho hm).gen
 ref:=(HQ ho hm).ref
theorem apl{m:Mem}(au:Ok w0 m){id s:Nat}{ob:Ob}{w':World}{BT:Array Value}{ty sz:Nat}{lE:List (List PV)}(ho:(m.aj id).2=some ob)(hm:ob.fM=true)(ju:0<sz)(zb:w'.os=m.w.os)(ht:w'.tape=m.w.tape)(nA:w'.output=m.w.output)(hs:w'.heap.size=m.w.heap.size)
  (hk:∀x,x≠m.σ id->w'.heap[x]?=m.w.heap[x]?) (hh:w'.heap[m.σ id]?=some (.cells BT ty (0,0))) (ch:∀e∈lE,e.length=sz) (hl:lE.length<=m.κ id) (sI:m.κ id<=maxLen) (de:BT.size=m.κ id*sz)
  (hp:Pw (bY m.w m.own) lE.flatten (BT.toList.take (lE.length*sz))):
  ∃m',m'.w=w'/\Ok w0 m'/\Ev m m'/\m'.fr=m.fr/\m'.aj=dK (dK m.aj id ((m.aj id).1,none)) s ((m.aj s).1+1,some (.arr ty sz lE))/\
   bQ m' (.one (.hsl s ((m.aj s).1+1) sz 0 lE.length)) (.slice (some ⟨m.σ id,0,none⟩) lE.length (m.κ id)):=by
 have Cl:=aiG ho hm zb ht nA hs hk;have eS:=(au.ij id ob ho hm).1;have alf:Ok w0 {m.kX id with w:=w'}:=apP (m:=m.kX id) (Yw au ho hm) (.inr rfl) eS zb ht nA hs hk;have dY:Ev m ((({m.kX id with w:=w'}:Mem)).install s (m.σ id) (m.κ id) (.arr ty sz lE)):=Pb Cl (.inr rfl) (.inr ⟨id,ob,ho,hm,rfl⟩);have v8:((({m.kX id with w:=w'}:Mem)).aj s).1=(m.aj s).1:=by
  simp only[Mem.kX,aN];split
  .rename_i e;subst e;rfl
  rfl
 have hσ:((({m.kX id with w:=w'}:Mem)).install s (m.σ id) (m.κ id) (.arr ty sz lE)).σ s=m.σ id:=by simp[Mem.install,aN]
 have hκ:((({m.kX id with w:=w'}:Mem)).install s (m.σ id) (m.κ id) (.arr ty sz lE)).κ s=m.κ id:=by simp[Mem.install,aN]
 refine⟨_,rfl,Pd alf (.inr rfl) eS ?_,dY,?_,?_,?_⟩
 .exact⟨BT,by rw[hσ];exact hh,ju,ch,by rw[hκ];exact hl,by rw[hκ];exact sI,by rw[hκ];exact de,dk.ev dY.zero (dk.pw.2 hp)⟩
 .funext x;simp only[Mem.install,Mem.kX];apply propext;constructor
  .rintro ⟨h|h,h2⟩
   .exact h
   exact(h2 h).elim
  intro h;exact⟨.inl h,fun e=>(au.ij id ob ho hm).2 (e▸h)⟩
 .simp only[Mem.install];rw[v8];rfl
 refine bQ.one.2 (.hsl _ _ ?_ hl sI fun z h1 h2=>?_)
 .simp only[Mem.install,aN,if_true];rw[v8];exact bN _
 have:kM (((({m.kX id with w:=w'}:Mem)).install s (m.σ id) (m.κ id) (.arr ty sz lE)).aj s)=some sz:=by simp[Mem.install,aN,kM]
 rw[this] at h2;cases h2;exact⟨rfl,fun _=>by rw[hσ,zI],fun _=>hκ.symm⟩
theorem apL{P:Program}(w:World)(t ty e:TypeId)(i:TypeInfo)(z:Value)(ht:P.underlying t=some (.slice e))(hi:P.info? e=some i)(hz:i.zero=some z)
  (az:Option Addr) (a:Addr) (n c:Nat) (news:List Value) (hl:news.length=n*i.size) (Ct:∀j v,news[j]?=some v->w.cell? (a.add j)=some v)
  (h0:0<n) (h63:(n:Int)<=9223372036854775807) (xu:n*i.bytes<=281474976710656):
  (Builtin.append_ #[t,t] ty #[.slice az 0 0,.slice (some a) n c]).run P w=
   .ok (.slice (some ⟨w.heap.size,0,none⟩) n (grownCap w n 0 e)) (w.drew.alloc (.cells (news.toArray++Builtin.zeroCells z.cells (grownCap w n 0 e-n)) e)):=by
 cases az with
 |none=>exact run_append_nil w t ty e i z ht hi hz a n c news hl Ct h0 h63 xu
 |some b=>have h:=run_append_grow (P:=P) w t ty e i z ht hi hz b 0 0 [] af (fun j v h=>by simp at h) a n c news hl Ct aa (by simpa using h63) (by rw[kU,nextslicecap_zero h0];exact xu);rw[kU] at h;rw[h];simp
section
variable {m:Mem} {ak:Env} {a:Act} {o:Oper} (au:Ok w0 m) (hr:iZ m ak a.tmps)
include au hr
theorem ap3{c:Call}{d x:Operand}{d' x':aR}{t e:TypeId}{s sz bytes:Nat}{z:List PV}{v:V}{u:List eN}{rd:List Nat}(ho:o.op=.call c)(hc:c.callee=.builtin .append)(has:c.args= #[d,x])(jP:c.argTypes= #[t,t])
  (he:zU P t=some (e,sz,bytes,z)) (hd:cE d=some d') (hx:cE x=some x') (hv:fQ m.aj s e sz bytes (ev ak d') (ev ak x')=.done v u rd):fJ P w0 a.eval o m v u:=by
 obtain⟨i,zv,ht,hi,hs,hb,⟨ju,Iv⟩,xI,IW,mr,dE⟩:=NY he;have qf:=eB hd hr;have k9:=eB hx hr;have run:∀(y:Value) (w':World),(Builtin.append_ #[t,t] o.type #[a.eval d,a.eval x]).run P m.w=.ok y w'->(execOp a.eval o).run P m.w=.ok (.value y) w':=by intro y w' h;simp[execOp,ho,resolve,hc,has,jP,invoke,builtin,h]
 unfold fQ at hv;split at hv
 .cases hv
 rename_i new rd' fr dC;split at hv
 .cases hv
 rename_i aly;split at hv
 .cases hv
 rename_i fu rG;have sK:=aap au rG;have xC:=Um rG;have nY:=Uo au rG;obtain⟨ax,cx,zh,alx,Ct⟩:=YB au dC k9 nY;have dy:∀e∈new,e.length=sz:=by
  have:mz (ev ak x')=some sz\/ie sz new=true:=Classical.not_not.1 aly;rcases this with h|h
  .exact alx sz h
  intro e he;have:=ko.1 h e he
  simpa using this
 have ON:new.flatten.length=new.length*sz:=Ia dy;split at hv
 · -- nil
  rename_i LP;rw[LP] at qf;have DZ:=Pg qf;split at hv
  .rename_i iM;cases hv;refine⟨.slice none 0 0,m.with u,.inl (run _ _ ?_),sK,xC,rfl,rfl,mS .nils⟩;rw[DZ,zh,iM];cases ax<;>simp[Builtin.append_,run_underlying ht,sizeOf,typeInfo,hi,Builtin.lenOf,Builtin.firstCells,loadCells,loadCellsFrom,Mem.with]
  rename_i iM;split at hv
  .rename_i lX;cases hv;have aH:new≠[]:=fun h=>iM (by simp[h]);obtain⟨b,off,news,rfl,uB,Ck⟩:=Ct aH;unfold room at lX;have lI:news.length=new.length*i.size:=by rw[uB.1,ON,hs]
   have F7:new.length<=maxLen/\(new.length:Int)<=9223372036854775807:=by have:new.length<=new.length*bytes:=QP _ Iv;simp only[maxLen];omega
   have ml:=run_append_nil (P:=P) m.w t o.type e i zv ht hi xI ⟨b,off,none⟩ new.length cx news lI (fun j v hj=>by rw[Addr.add_lit];exact Ck j v hj) aa F7.2 (by rw[hb];omega);generalize hW:m.w.drew.alloc (.cells (news.toArray++Builtin.zeroCells zv.cells (grownCap m.w new.length 0 e-new.length)) e)=W at ml;have hg:fR (m.with fu).w W:=by rw[<- hW];exact(fR.drew _).trans (fR.alloc _ _)
   have lH:=grownCap_ge m.w new.length 0 e;have LD:=grownCap_le_maxLen m.w new.length 0 e F7.1;have Cl:Ev (m.with fu) ((m.with fu).ky W s m.w.heap.size (grownCap m.w new.length 0 e) (.arr e sz new)):=Ie hg (bN _);have v8:=Ld rG s;refine⟨_,(m.with fu).ky W s m.w.heap.size (grownCap m.w new.length 0 e) (.arr e sz new),.inl (run _ _ (by rw[DZ,zh];exact ml)),Ih hg (bN _) (by rw[<- hW];simp) sK ?_,xC.trans Cl,Ig sK (bN _),?_,?_⟩
   .refine⟨_,by rw[DG,Uj,<- hW];exact heap_alloc_new m.w.drew _,ju,dy,by rw[pW];exact lH,by rw[pW];exact LD,?_,?_⟩
    .rw[pW];simp only[Array.size_append,List.size_toArray,size_zeroCells,IW,lI,hs,<- iF];congr 1;omega
    have:(news.toArray++Builtin.zeroCells zv.cells (grownCap m.w new.length 0 e-new.length)).toList.take (new.length*sz)=news:=by simp only[Array.toList_append];rw[<- hs,<- lI];exact List.take_left
    rw[this];exact dk.ev Cl.zero (dk.pw.2 uB)
   .rw[NJ,Ui];simp only[Mem.with];rw[v8]
   have:=Lc (m:=m.with fu) (w':=W) (s:=s) (c:=m.w.heap.size) (ty:=e) (sz:=sz) (es:=new) lH LD;simp only[Mem.with] at this;rw[v8] at this;exact this
  cases hv
 · -- an empty slice without room
  rename_i LP;rw[LP] at qf;obtain⟨az,DZ⟩:=al0 qf;split at hv
  .cases hv
  rename_i iM;split at hv
  .rename_i lX;cases hv;have aH:new≠[]:=fun h=>iM (by simp[h]);obtain⟨b,off,news,rfl,uB,Ck⟩:=Ct aH;unfold room at lX;have lI:news.length=new.length*i.size:=by rw[uB.1,ON,hs]
   have F7:new.length<=maxLen/\(new.length:Int)<=9223372036854775807:=by have:new.length<=new.length*bytes:=QP _ Iv;simp only[maxLen];omega
   have ml:=apL (P:=P) m.w t o.type e i zv ht hi xI az ⟨b,off,none⟩ new.length cx news lI (fun j v hj=>by rw[Addr.add_lit];exact Ck j v hj) aa F7.2 (by rw[hb];omega);generalize hW:m.w.drew.alloc (.cells (news.toArray++Builtin.zeroCells zv.cells (grownCap m.w new.length 0 e-new.length)) e)=W at ml;have hg:fR (m.with fu).w W:=by rw[<- hW];exact(fR.drew _).trans (fR.alloc _ _)
   have lH:=grownCap_ge m.w new.length 0 e;have LD:=grownCap_le_maxLen m.w new.length 0 e F7.1;have Cl:Ev (m.with fu) ((m.with fu).ky W s m.w.heap.size (grownCap m.w new.length 0 e) (.arr e sz new)):=Ie hg (bN _);have v8:=Ld rG s;refine⟨_,(m.with fu).ky W s m.w.heap.size (grownCap m.w new.length 0 e) (.arr e sz new),.inl (run _ _ (by rw[DZ,zh];exact ml)),Ih hg (bN _) (by rw[<- hW];simp) sK ?_,xC.trans Cl,Ig sK (bN _),?_,?_⟩
   .refine⟨_,by rw[DG,Uj,<- hW];exact heap_alloc_new m.w.drew _,ju,dy,by rw[pW];exact lH,by rw[pW];exact LD,?_,?_⟩
    .rw[pW];simp only[Array.size_append,List.size_toArray,size_zeroCells,IW,lI,hs,<- iF];congr 1;omega
    have:(news.toArray++Builtin.zeroCells zv.cells (grownCap m.w new.length 0 e-new.length)).toList.take (new.length*sz)=news:=by simp only[Array.toList_append];rw[<- hs,<- lI];exact List.take_left
    rw[this];exact dk.ev Cl.zero (dk.pw.2 uB)
   .rw[NJ,Ui];simp only[Mem.with];rw[v8]
   have:=Lc (m:=m.with fu) (w':=W) (s:=s) (c:=m.w.heap.size) (ty:=e) (sz:=sz) (es:=new) lH LD;simp only[Mem.with] at this;rw[v8] at this;exact this
  cases hv
 .rename_i id g zz len LP;rw[LP] at qf;split at hv
  .rename_i g' qV dO es jr;split at hv
   .rename_i sC;obtain⟨js,rfl,rfl,hlen,lX,ak4⟩:=sC;cases hv;have ak5:id∉fr:=by simpa using ak4
    have cD:(m.with fu).aj id=m.aj id:=by
     rcases xl rG id with ⟨e,_⟩|⟨lW,_⟩
     .exact e
     exact(ak5 lW).elim
    have bj:((m.with fu).aj id).2=some (.arr qV dO es):=by rw[cD,jr]
    obtain⟨cur,hh,_,ch,hl,sI,de,alp⟩:=sK.obj id _ bj;have hcd:cS m _ (a.eval d):=qf;generalize DZ:a.eval d=dv at hcd;cases hcd with
    |hsl ad cap hg rJ hmm hhd=>
     obtain⟨f1,f2,f3⟩:=hhd dO (by rw[jr];exact js) (by rw[jr];rfl);have lH:=f3 rfl;have oR:=f2 (.inl rfl);rw[zI] at oR;subst oR;unfold room at lX;have v8:=Ld rG s;have hgid:=Ld rG id;have Ef:len*dO<=es.length*dO:=mZ _ hlen;have sG:es.length*dO<=m.κ id*dO:=mZ _ hl;have UQ:Pw (bY (m.with fu).w (m.with fu).own) (es.take len).flatten (cur.toList.take (len*dO)):=by rw[Ib ch];have h1:=(dk.pw.1 alp).take (len*dO);rw[Hg,zH Ef] at h1;exact h1
     have htl:(es.take len).length=len:=by simp;omega
     have aaN:∀x∈es.take len++new,x.length=dO:=by
      intro x hx;rcases fg.1 hx with hx|hx
      .exact ch x (yg hx)
      exact dy x hx
     have hnl0:len+new.length<=(len+new.length)*bytes:=QP _ Iv;have ze:∀q:eN,app (fu++[(id,(g,none)),q]) m.aj=dK (dK (m.with fu).aj id (((m.with fu).aj id).1,none)) q.1 q.2:=by intro q;rw[NJ];simp only[app];rw[cD,jr,js];rfl
     have L5:(es.take len++new).length=len+new.length:=by rw[gh,htl]
     by_cases hfit:len+new.length<=cap
     · -- in its own block
      have key:∀(w':World) (BT:Array Value),(execOp a.eval o).run P m.w=.ok (.value (.slice (some ⟨m.σ id,0,none⟩) (len+new.length) cap)) w'->w'.os=m.w.os->w'.tape=m.w.tape->w'.output=m.w.output->w'.heap.size=m.w.heap.size->
        (∀x,x≠m.σ id->w'.heap[x]?=m.w.heap[x]?)->w'.heap[m.σ id]?=some (.cells BT qV (0,0))->BT.size=cur.size->Pw (bY (m.with fu).w (m.with fu).own) (es.take len++new).flatten (BT.toList.take ((len+new.length)*dO))->
        fJ P w0 a.eval o m (.one (.hsl s ((m.aj s).1+1) dO 0 (len+new.length))) (fu++[(id,(g,none)),(s,((m.aj s).1+1,some (.arr qV dO (es.take len++new))))]):=by
       intro w' BT ml q1 q2 q3 q4 q5 q6 q7 q8;obtain⟨m',e1,e2,e3,e4,e5,e6⟩:=apl (s:=s) sK bj rfl ju q1 q2 q3 q4 q5 q6 aaN (by rw[L5];rw[lH] at hfit;exact hfit) sI (by rw[q7];exact de) (by rw[L5];exact q8);rw[L5] at e6;have OP:((m.with fu).aj s).1=(m.aj s).1:=v8;rw[OP] at e6 e5;refine⟨_,m',.inl (by rw[e1];exact ml),e2,xC.trans e3,e4,by rw[e5,ze],?_⟩;rw[lH];exact e6
      by_cases iM:new=[]
      .subst iM;have alu:(execOp a.eval o).run P m.w=.ok (.value (.slice (some ⟨m.σ id,0,none⟩) (len+([]:List (List PV)).length) cap)) m.w:=by
        apply run;rw[DZ,zh];have akR:len<=cap:=rJ;cases ax<;>simp[Builtin.append_,run_underlying ht,sizeOf,typeInfo,hi,Builtin.lenOf,Builtin.firstCells,loadCells,loadCellsFrom,akR,storeCells]
       exact key m.w cur alu rfl rfl rfl rfl (fun _ _=>rfl) hh rfl (by simpa using UQ)
      obtain⟨b,off,news,rfl,uB,Ck⟩:=Ct iM;have lI:news.length=new.length*i.size:=by rw[uB.1,ON,hs]
      have Ea:len*i.size+news.length<=cur.size:=by rw[lI,hs,de,<- iF];rw[lH] at hfit;exact mZ _ hfit
      have ml:=run_append_room (P:=P) m.w t o.type qV i ht hi (m.σ id) len cap cur hh ⟨b,off,none⟩ new.length cx news lI (fun j v hj=>by rw[Addr.add_lit];exact Ck j v hj) (ao8 uB) hfit Ea;have alv:(execOp a.eval o).run P m.w=.ok (.value (.slice (some ⟨m.σ id,0,none⟩) (len+new.length) cap)) _:=run _ _ (by rw[DZ,zh];exact ml);have akz:len*i.size<=cur.size:=mD (Nat.le_add_right _ _) Ea;refine key _ _ alv ?_ ?_ ?_ ?_ (fun x hx=>setRow_other m.w (m.σ id) x _ hx) (Ql hh) ?_ ?_
      .rfl
      .rfl
      .rfl
      .exact setRow_size m.w _ _
      .rw[List.size_toArray,gh,gh,iu,kO,Array.length_toList];omega
      have h1:=UQ.append uB;rw[<- EZ] at h1;have:(cur.toList.take (len*i.size)++news++cur.toList.drop (len*i.size+news.length)).take ((len+new.length)*dO)=cur.toList.take (len*dO)++news:=by
       rw[hs];have cq:(cur.toList.take (len*dO)).length=len*dO:=by rw[iu,Array.length_toList];rw[hs] at akz;omega
       have LF:(cur.toList.take (len*dO)++news).length=(len+new.length)*dO:=by rw[gh,cq,lI,hs,iF]
       rw[QO (Fb LF.symm)];exact gR (Fb LF)
      simp only[List.toList_toArray] at this ⊢;rw[this];exact h1
     · -- a new block
      have iM:new≠[]:=fun e=>by subst e;simp at hfit;omega
      obtain⟨b,off,news,rfl,uB,Ck⟩:=Ct iM;have lI:news.length=new.length*i.size:=by rw[uB.1,ON,hs]
      have UR:(cur.toList.take (len*dO)).length=len*i.size:=by rw[hs,iu,Array.length_toList];have hcs2:cur.size=m.κ id*dO:=de;omega
      have ml:=run_append_grow (P:=P) m.w t o.type qV i zv ht hi xI ⟨m.σ id,0,none⟩ len cap (cur.toList.take (len*dO)) UR (fun j v hj=>by
        rw[Addr.add_lit,kU];have:(m.w.cell? ⟨m.σ id,j,none⟩)=cur[j]? :=KE hh;rw[this];rw[mW] at hj;split at hj
        .simpa using hj
        cases hj) ⟨b,off,none⟩ new.length cx news lI (fun j v hj=>by rw[Addr.add_lit];exact Ck j v hj) aa aa (growslice_fits aa (by rw[hb];omega))
      have F7:len+new.length<=maxLen:=by simp only[maxLen];omega
      have hgc:=grownCap_ge m.w (len+new.length) cap qV;have hgm:=grownCap_le_maxLen m.w (len+new.length) cap qV F7;generalize vZ:grownCap m.w (len+new.length) cap qV=cc at ml hgc hgm;generalize hW:m.w.drew.alloc (.cells ((cur.toList.take (len*dO)).toArray++news.toArray++Builtin.zeroCells zv.cells (cc-(len+new.length))) qV)=W at ml;have abj:=amD (Ca:=m.fr) (Yw sK bj rfl) (fun c hc=>.inl hc);have akG:Ev (m.with fu) {(m.with fu).kX id with fr:=m.fr}:=(HQ bj rfl).trans (acK (fun c hc=>.inl hc));have IC:fR ({(m.with fu).kX id with fr:=m.fr}:Mem).w W:=by rw[<- hW];exact(fR.drew _).trans (fR.alloc _ _)
      have Cl:Ev ({(m.with fu).kX id with fr:=m.fr}:Mem) (({(m.with fu).kX id with fr:=m.fr}:Mem).ky W s m.w.heap.size cc (.arr qV dO (es.take len++new))):=Ie IC (bN _);have aaZ:=akG.trans Cl;have OP:((({(m.with fu).kX id with fr:=m.fr}:Mem)).aj s).1=(m.aj s).1:=by
       simp only[Mem.kX,aN];split
       .rename_i e';subst e';exact v8
       exact v8
      refine⟨_,({(m.with fu).kX id with fr:=m.fr}:Mem).ky W s m.w.heap.size cc (.arr qV dO (es.take len++new)),.inl (run _ _ (by rw[DZ,zh];exact ml)),Ih IC (bN _) (by rw[<- hW];simp) abj ?_,xC.trans aaZ,Ig abj (bN _),?_,?_⟩
      .refine⟨_,by rw[DG,Uj,<- hW];exact heap_alloc_new m.w.drew _,ju,aaN,by rw[pW,L5];exact hgc,by rw[pW];exact hgm,?_,?_⟩
       .rw[pW];simp only[Array.size_append,List.size_toArray,size_zeroCells,IW,lI,UR,hs,<- iF];congr 1;omega
       have h1:=UQ.append uB;rw[<- EZ] at h1;have:((cur.toList.take (len*dO)).toArray++news.toArray++Builtin.zeroCells zv.cells (cc-(len+new.length))).toList.take ((es.take len++new).length*dO)=cur.toList.take (len*dO)++news:=by simp only[Array.toList_append,L5];exact List.take_left' (by rw[gh,List.toList_toArray,List.toList_toArray,UR,lI,hs,iF])
       rw[this];exact dk.ev aaZ.zero (dk.pw.2 h1)
      .rw[Ui,ze];simp only[app];rw[OP];rfl
      have:=Lc (m:=({(m.with fu).kX id with fr:=m.fr}:Mem)) (w':=W) (s:=s) (c:=m.w.heap.size) (ty:=qV) (sz:=dO) (es:=es.take len++new) hgc hgm;rw[OP] at this;exact this
   cases hv
  cases hv
 cases hv
end
end Go.Abs
