/-
  An abstract machine for the code of the model.
-/
import Derived.KernelRfl
import Derived.Calls
import Derived.WalkKit
set_option linter.all false
namespace Go.Abs
theorem aa{p:Prop}(h:p:=by omega):p:=h
theorem ae{p:Prop}(h:p:=by decide):p:=h
theorem af{p:Prop}(h:p:=by simp):p:=h
theorem ah{p:Prop}(h:p:=by kernel_rfl):p:=h
theorem aQ:type_of% @List.mem_of_getElem?.{0}:=@List.mem_of_getElem?.{0}
theorem aV:type_of% @List.getElem?_eq_some_iff.{0}:=@List.getElem?_eq_some_iff.{0}
theorem aY:type_of% @Nat.zero_le:=@Nat.zero_le
theorem aZ:type_of% @Nat.le_refl:=@Nat.le_refl
theorem bQ:type_of% @Bool.and_eq_true:=@Bool.and_eq_true
theorem cE:type_of% @List.length_cons.{0}:=@List.length_cons.{0}
theorem cF:type_of% @List.length_map.{0,0}:=@List.length_map.{0,0}
theorem cJ:type_of% @List.getD_eq_getElem?_getD.{0}:=@List.getD_eq_getElem?_getD.{0}
theorem cT:type_of% @List.mem_cons.{0}:=@List.mem_cons.{0}
theorem dr:type_of% @List.mem_map.{0,0}:=@List.mem_map.{0,0}
theorem dw:type_of% @Nat.mod_lt:=@Nat.mod_lt
theorem dy:type_of% @Option.map_eq_some_iff.{0,0}:=@Option.map_eq_some_iff.{0,0}
theorem dG:type_of% @List.map_cons.{0,0}:=@List.map_cons.{0,0}
theorem dQ:type_of% @List.length_nil.{0}:=@List.length_nil.{0}
theorem eY:type_of% @Bool.false_eq_true:=@Bool.false_eq_true
theorem fc:type_of% @List.length_append.{0}:=@List.length_append.{0}
theorem fg:type_of% @Option.some.injEq.{0}:=@Option.some.injEq.{0}
theorem fk:type_of% @List.mem_range:=@List.mem_range
theorem fq:type_of% @List.mem_append.{0}:=@List.mem_append.{0}
theorem fJ:type_of% @List.length_take.{0}:=@List.length_take.{0}
theorem fK:type_of% @Nat.mod_eq_of_lt:=@Nat.mod_eq_of_lt
theorem fX:type_of% @List.getElem?_map.{0,0}:=@List.getElem?_map.{0,0}
theorem fY:type_of% @List.take_of_length_le.{0}:=@List.take_of_length_le.{0}
theorem gD:type_of% @Nat.add_mul:=@Nat.add_mul
theorem gH:type_of% @Bool.not_eq_true':=@Bool.not_eq_true'
theorem gZ:type_of% @List.nil_append.{0}:=@List.nil_append.{0}
theorem hJ:type_of% @List.not_mem_nil.{0}:=@List.not_mem_nil.{0}
theorem hU:type_of% @Nat.le_of_ble_eq_true:=@Nat.le_of_ble_eq_true
theorem iC:type_of% @List.all_eq_true.{0}:=@List.all_eq_true.{0}
theorem iR:type_of% @List.length_pos_iff.{0}:=@List.length_pos_iff.{0}
theorem iS:type_of% @List.map_append.{0,0}:=@List.map_append.{0,0}
theorem jc:type_of% @Nat.zero_add:=@Nat.zero_add
theorem jm:type_of% @List.getElem?_take.{0}:=@List.getElem?_take.{0}
theorem jo:type_of% @List.take_length.{0}:=@List.take_length.{0}
theorem jy:type_of% @List.getElem?_of_mem.{0}:=@List.getElem?_of_mem.{0}
theorem jP:type_of% @List.pairwise_cons.{0}:=@List.pairwise_cons.{0}
theorem j6:type_of% @List.mem_singleton.{0}:=@List.mem_singleton.{0}
theorem kA:type_of% @Option.getD_some.{0}:=@Option.getD_some.{0}
theorem kW:type_of% @List.take_add_one.{0}:=@List.take_add_one.{0}
theorem kX:type_of% @Option.map_some.{0,0}:=@Option.map_some.{0,0}
theorem kY:type_of% @Prod.mk.injEq.{0,0}:=@Prod.mk.injEq.{0,0}
theorem lJ:type_of% @Int.toNat_natCast:=@Int.toNat_natCast
theorem lK:type_of% @List.map_nil.{0,0}:=@List.map_nil.{0,0}
theorem lL:type_of% @Nat.mul_le_mul_right:=@Nat.mul_le_mul_right
theorem lX:type_of% @List.take_append_drop.{0}:=@List.take_append_drop.{0}
theorem mq:type_of% @List.cons_append.{0}:=@List.cons_append.{0}
theorem mR:type_of% @List.flatten_cons.{0}:=@List.flatten_cons.{0}
theorem mS:type_of% @List.getElem?_eq_none.{0}:=@List.getElem?_eq_none.{0}
theorem mT:type_of% @List.getElem?_set.{0}:=@List.getElem?_set.{0}
theorem mU:type_of% @Nat.le_trans:=@Nat.le_trans
theorem nV:type_of% @List.getElem?_append_right.{0}:=@List.getElem?_append_right.{0}
theorem nW:type_of% @List.length_drop.{0}:=@List.length_drop.{0}
theorem nX:type_of% @List.length_set.{0}:=@List.length_set.{0}
theorem nY:type_of% @List.nodup_cons.{0}:=@List.nodup_cons.{0}
theorem nZ:type_of% @Nat.lt_succ_iff_lt_or_eq:=@Nat.lt_succ_iff_lt_or_eq
theorem oL:type_of% @Int.eq_ofNat_of_zero_le:=@Int.eq_ofNat_of_zero_le
theorem oN:type_of% @List.append_nil.{0}:=@List.append_nil.{0}
theorem oO:type_of% @List.getElem?_append_left.{0}:=@List.getElem?_append_left.{0}
theorem oQ:type_of% @List.getElem?_eq_getElem.{0}:=@List.getElem?_eq_getElem.{0}
theorem qG:type_of% @List.append_assoc.{0}:=@List.append_assoc.{0}
theorem qH:type_of% @List.map_map.{0,0,0}:=@List.map_map.{0,0,0}
theorem rA:type_of% @Nat.add_zero:=@Nat.add_zero
theorem rB:type_of% @Option.some.inj.{0}:=@Option.some.inj.{0}
theorem sG:type_of% @Nat.eq_of_beq_eq_true:=@Nat.eq_of_beq_eq_true
theorem sH:type_of% @Nat.mod_two_eq_zero_or_one:=@Nat.mod_two_eq_zero_or_one
theorem tu:type_of% @List.getElem?_range:=@List.getElem?_range
theorem tv:type_of% @List.mem_filter.{0}:=@List.mem_filter.{0}
theorem tz:type_of% @List.nodup_nil.{0}:=@List.nodup_nil.{0}
theorem tA:type_of% @Nat.not_lt_zero:=@Nat.not_lt_zero
theorem uq:type_of% @Bool.or_eq_true:=@Bool.or_eq_true
theorem ur:type_of% @List.getElem?_drop.{0}:=@List.getElem?_drop.{0}
theorem uu:type_of% @List.map_congr_left.{0,0}:=@List.map_congr_left.{0,0}
theorem uv:type_of% @List.range_succ:=@List.range_succ
theorem uT:type_of% @List.all_cons.{0}:=@List.all_cons.{0}
theorem uU:type_of% @List.countP_append.{0}:=@List.countP_append.{0}
theorem uV:type_of% @List.countP_cons.{0}:=@List.countP_cons.{0}
theorem uW:type_of% @List.foldl_cons.{0,0}:=@List.foldl_cons.{0,0}
theorem uX:type_of% @Nat.add_mod_right:=@Nat.add_mod_right
theorem vL:type_of% @List.length_dropLast.{0}:=@List.length_dropLast.{0}
theorem vM:type_of% @List.length_range:=@List.length_range
theorem vN:type_of% @List.mem_cons_of_mem.{0}:=@List.mem_cons_of_mem.{0}
theorem vO:type_of% @List.mem_of_mem_drop.{0}:=@List.mem_of_mem_drop.{0}
theorem vP:type_of% @List.mem_of_mem_take.{0}:=@List.mem_of_mem_take.{0}
theorem xw:type_of% @List.ext_getElem.{0}:=@List.ext_getElem.{0}
theorem xx:type_of% @List.ext_getElem?.{0}:=@List.ext_getElem?.{0}
theorem xy:type_of% @List.length_reverse.{0}:=@List.length_reverse.{0}
theorem xz:type_of% @Nat.mod_self:=@Nat.mod_self
theorem yH:type_of% @List.all_nil.{0}:=@List.all_nil.{0}
theorem yI:type_of% @List.drop_eq_getElem_cons.{0}:=@List.drop_eq_getElem_cons.{0}
theorem yJ:type_of% @List.getElem_cons_drop.{0}:=@List.getElem_cons_drop.{0}
theorem yK:type_of% @Nat.min_eq_left:=@Nat.min_eq_left
theorem yL:type_of% @Nat.zero_mul:=@Nat.zero_mul
theorem Ad:type_of% @List.map_take.{0,0}:=@List.map_take.{0,0}
theorem Bp:type_of% @List.countP_pos_iff.{0}:=@List.countP_pos_iff.{0}
theorem Bq:type_of% @List.foldl_append.{0,0}:=@List.foldl_append.{0,0}
theorem Br:type_of% @List.mem_append_right.{0}:=@List.mem_append_right.{0}
theorem Bs:type_of% @List.mem_cons_self.{0}:=@List.mem_cons_self.{0}
theorem Bt:type_of% @Nat.add_assoc:=@Nat.add_assoc
theorem Bu:type_of% @Nat.le_of_eq:=@Nat.le_of_eq
theorem Df:type_of% @Bool.false_or:=@Bool.false_or
theorem Dg:type_of% @Bool.not_true:=@Bool.not_true
theorem Dh:type_of% @List.any_eq_false.{0}:=@List.any_eq_false.{0}
theorem Di:type_of% @List.flatten_append.{0}:=@List.flatten_append.{0}
theorem Dj:type_of% @List.getElem_map.{0,0}:=@List.getElem_map.{0,0}
theorem Dk:type_of% @List.map_drop.{0,0}:=@List.map_drop.{0,0}
theorem Dl:type_of% @List.nodup_range:=@List.nodup_range
theorem Dm:type_of% @Nat.lt_of_lt_of_le:=@Nat.lt_of_lt_of_le
theorem Fl:type_of% @Bool.and_self:=@Bool.and_self
theorem Fm:type_of% @List.mem_flatten.{0}:=@List.mem_flatten.{0}
theorem Hc:type_of% @Bool.and_true:=@Bool.and_true
theorem Hd:type_of% @List.cons.inj.{0}:=@List.cons.inj.{0}
theorem He:type_of% @List.countP_eq_zero.{0}:=@List.countP_eq_zero.{0}
theorem Hf:type_of% @List.find?_eq_none.{0}:=@List.find?_eq_none.{0}
theorem Hg:type_of% @List.length_eq_zero_iff.{0}:=@List.length_eq_zero_iff.{0}
theorem Hh:type_of% @List.nodup_append.{0}:=@List.nodup_append.{0}
theorem Hi:type_of% @List.pairwise_map.{0,0}:=@List.pairwise_map.{0,0}
theorem Hj:type_of% @List.pairwise_singleton.{0}:=@List.pairwise_singleton.{0}
theorem Hk:type_of% @List.perm_middle.{0}:=@List.perm_middle.{0}
theorem Hl:type_of% @Nat.add_sub_cancel:=@Nat.add_sub_cancel
theorem Hm:type_of% @Nat.le_max_left:=@Nat.le_max_left
theorem Kl:type_of% @List.countP_map.{0,0}:=@List.countP_map.{0,0}
theorem Km:type_of% @List.getElem_range:=@List.getElem_range
theorem Kn:type_of% @List.getElem_set.{0}:=@List.getElem_set.{0}
theorem Ko:type_of% @List.mem_of_find?_eq_some.{0}:=@List.mem_of_find?_eq_some.{0}
theorem NB:type_of% @List.countP_eq_length_filter.{0}:=@List.countP_eq_length_filter.{0}
theorem NC:type_of% @List.countP_le_length.{0}:=@List.countP_le_length.{0}
theorem ND:type_of% @List.filter_append.{0}:=@List.filter_append.{0}
theorem NF:type_of% @List.length_pos_of_mem.{0}:=@List.length_pos_of_mem.{0}
theorem NG:type_of% @List.pairwise_append.{0}:=@List.pairwise_append.{0}
theorem NH:type_of% @List.pairwise_iff_getElem.{0}:=@List.pairwise_iff_getElem.{0}
theorem NI:type_of% @List.perm_append_comm.{0}:=@List.perm_append_comm.{0}
theorem NJ:type_of% @List.set_eq_of_length_le.{0}:=@List.set_eq_of_length_le.{0}
theorem NK:type_of% @Nat.le_mul_of_pos_right:=@Nat.le_mul_of_pos_right
theorem QD:type_of% @Bool.or_eq_false_iff:=@Bool.or_eq_false_iff
theorem QE:type_of% @List.eq_of_mem_replicate.{0}:=@List.eq_of_mem_replicate.{0}
theorem QF:type_of% @Option.bind_eq_some_iff.{0,0}:=@Option.bind_eq_some_iff.{0,0}
inductive PV where
 |bool (b:Bool)
 |int (k:IntKind) (n:Int)
 |str (s:ByteArray)
 |xg|nils|rj|vx|nili|ifc|zs
 |box (cs:List PV)
 |sl (es:List (List PV))
 |mp (ag:Bool) (es:List (PV×List PV))
 |fn (f:Nat) (first cap:List PV)
 deriving Inhabited
inductive C where
 |p (v:PV)
 |bt (id g off:Nat)
 |di (id g i off:Nat)
 |hsl (id g sz off len:Nat)
 |k9 (id g:Nat)
 |hfn (f:Nat) (first cap:List C)
 deriving Inhabited
inductive V where
 |undef
 |one (c:C)
 |agg (cs:List C)
 |tup (vs:List V)
 deriving Inhabited
inductive Ob where
 |var (cs:List C)
 |arr (ty sz:Nat) (es:List (List PV))
 |iT (ty sz:Nat) (es:List (List C))
 |map (ag:Bool) (es:List (PV×List PV))
 |fvar (cs:List PV)
 |pG (ty sz:Nat) (es:List (List PV))
 |fmap (ag:Bool) (es:List (PV×List PV))
 deriving Inhabited
abbrev Env:=Nat->V
abbrev aB:=Nat->Nat×Option Ob
def cZ{α:Type}(f:Nat->α)(a:Nat)(x:α):Nat->α:=fun i=>if i=a then x else f i
theorem aS{α:Type}(f:Nat->α)(a b:Nat)(x:α):cZ f a x b=if b=a then x else f b:=rfl
inductive aP where
 |t (n:Nat)
 |i (n:Int)
 |b (x:Bool)
 |k (v:V)
inductive uY where
 |bool|ptr|slc|map|fnc|ifc
 |str (ks:List Bool)
inductive oR where
 |Jp (x:aP)
 |pick (c a b:aP)
 |alloc (site:Nat) (z:List PV)
 |box (site:Nat) (x:aP)
 |build (z:List PV) (parts:List (Nat×Nat×aP))
 |HK (site ty sz:Nat) (parts:List aP)
 |load (k:Option Nat) (x:aP)
 |store (n:Nat) (a x:aP)
 |Jv (x:aP)
 |bin (op:BinOp) (x y:aP)
 |eqc (k:uY) (neg:Bool) (x y:aP)
 |un (op:UnOp) (x:aP)
 |conv (k:IntKind) (x:aP)
 |bstr (x:aP)
 |mkfn (f:Nat) (first cap:List aP)
 |mkmap (site:Nat) (ag:Bool)
 |Jo (site ty sz bytes:Nat) (z:List PV) (len cap:aP)
 |slice (sz:Nat) (x:aP) (lo hi:Option aP)
 |sslice (x:aP) (lo hi:Option aP)
 |Ik (off:Nat) (x:aP)
 |Ja (sz:Nat) (x i:aP)
 |Hw (len sz:Nat) (x i:aP)
 |fld (off:Nat) (k:Option Nat) (x:aP)
 |aidx (len sz:Nat) (k:Option Nat) (x i:aP)
 |sidx (x i:aP)
 |lookup (kd:Nat) (z:List PV) (agg ok:Bool) (x k:aP)
 |mupd (kd:Nat) (ag:Bool) (m k v:aP)
 |bad
 |extract (x:aP) (i:Nat)
 |call (site:Nat) (f:aP) (args:List aP)
 |slen (x:aP)
 |ML (x:aP)
 |mlen (x:aP)
 |append (site ty sz bytes:Nat) (s x:aP)
 |max (x y:aP)
 |min (x y:aP)
 |clear (z:List PV) (x:aP)
structure ch where
 dst:Option Nat
 op:oR
 guard:Option (Nat×Bool)
 anc:Nat
inductive aL where
 |skip
 |region (draw:Bool) (ops:List ch)
 |seq (a b:aL)
 |cond (x:aP) (a b:aL)
 |block (id:Nat) (c:aL)
 |loop (c:aL)
 |exit (id:Nat)
 |ret
 |bad
structure aX where
 ntmps:Nat
 results:List (Nat×Option (Option Nat))
 body:aL
def ev (aj:Env):aP->V
 | .t n=>aj n
 | .i n=>.one (.p (.int .i64 n))
 | .b x=>.one (.p (.bool x))
 | .k v=>v
abbrev eO:=Nat×(Nat×Option Ob)
def app:List eO->aB->aB
 |[],b=>b
 |(i,o)::r,b=>app r (cZ b i o)
def PV.norm:PV->PV
 | .nils=>.sl []
 | .zs=>.sl []
 |v=>v
def toP:C->Option PV
 | .p v=>some v.norm
 |_=>none
def Bk:List C->Option (List PV)
 |[]=>some []
 |c::r=>match toP c,Bk r with
  |some v,some vs=>some (v::vs)
  |_,_=>none
def rI:V->Option (List C)
 | .one c=>some [c]
 | .agg cs=>some cs
 |_=>none
def collect{α β:Type}(f:α->Option (β×List Nat)):List α->Option (List β×List Nat)
 |[]=>some ([],[])
 |a::r=>match f a,collect f r with
  |some (b,x),some (bs,y)=>some (b::bs,x++y)
  |_,_=>none
def snap(blk:aB):Nat->C->Option (PV×List Nat)
 |0,_=>none
 |n+1,c=>match c with
  | .p v=>some (v.norm,[])
  | .bt id g off=>match blk id with
   |(g',some (.var cs))=>if g'=g then
     match collect (snap blk n) cs with
     |some (ps,r)=>some (.box (ps.drop off),id::r)
     |none=>none
    else none
   |(g',some (.fvar ps))=>if g'=g then some (.box (ps.drop off),[id]) else none
   |_=>none
  | .di id g i off=>match blk id with
   |(g',some (.arr _ _ es))=>if g'=g then (es[i]?).map fun e=>(.box (e.drop off),[id]) else none
   |(g',some (.pG _ _ es))=>if g'=g then (es[i]?).map fun e=>(.box (e.drop off),[id]) else none
   |_=>none
  | .hsl id g z off len=>match blk id with
   |(g',some (.arr _ _ es))=>if g'=g/\off+len<=es.length then some (.sl ((es.drop off).take len),[id]) else none
   |(g',some (.pG _ _ es))=>if g'=g/\off+len<=es.length then some (.sl ((es.drop off).take len),[id]) else none
   |(g',some (.iT _ _ es))=>if g'=g/\off+len<=es.length then
     match collect (collect (snap blk n)) ((es.drop off).take len) with
     |some (ps,r)=>some (.sl ps,id::r)
     |none=>none
    else none
   |_=>none
  | .k9 id g=>match blk id with
   |(g',some (.map ag es))=>if g'=g then some (.mp ag es,[id]) else none
   |(g',some (.fmap ag es))=>if g'=g then some (.mp ag es,[id]) else none
   |_=>none
  | .hfn f a b=>match collect (snap blk n) a,collect (snap blk n) b with
   |some (x,r),some (y,s)=>some (.fn f x y,r++s)
   |_,_=>none
def dO:Nat:=6
def nT(blk:aB):V->Option (V×List Nat)
 | .one c=>(snap blk dO c).map fun(v,r)=>(.one (.p v),r)
 | .agg cs=>(collect (snap blk dO) cs).map fun(vs,r)=>(.agg (vs.map .p),r)
 |_=>none
def xL(blk:aB)(all:List Nat)(id:Nat):Option (List eO):=
 match blk id with
 |(g,some (.var cs))=>match collect (snap blk dO) cs with
  |some (ps,r)=>if r.all all.contains then some [(id,(g,some (.fvar ps)))] else none
  |none=>none
 |(g,some (.arr ty sz es))=>some [(id,(g,some (.pG ty sz es)))]
 |(g,some (.iT ty sz es))=>match collect (collect (snap blk dO)) es with
  |some (ps,r)=>if r.all all.contains then some [(id,(g,some (.pG ty sz ps)))] else none
  |none=>none
 |(g,some (.map ag es))=>some [(id,(g,some (.fmap ag es)))]
 |(_,none)=>none
 |_=>some []
def rV(blk:aB)(all:List Nat):List Nat->Option (List eO)
 |[]=>some []
 |i::r=>match xL blk all i,rV blk all r with
  |some a,some b=>some (a++b)
  |_,_=>none
def qN(blk:aB)(ids:List Nat):Option (List eO):=rV blk ids ids
inductive RC where
 |p (v:PV)
 |own (ty sz:Nat) (es:List (List PV))
 deriving Inhabited
inductive RV where
 |one (c:RC)
 |agg (cs:List RC)
 |tup (vs:List RV)
 deriving Inhabited
def RC.pure:RC->RC
 | .p v=>.p v
 | .own _ _ es=>.p (.sl es)
def RV.GK:RV->RV
 | .one c=>.one c.pure
 | .agg cs=>.agg (cs.map RC.pure)
 | .tup vs=>.tup vs
def RV.pure:RV->RV
 | .tup vs=>.tup (vs.map RV.GK)
 |v=>v.GK
def RV.gV(b:Bool)(r:RV):RV:=match b with
 |true=>r.pure
 |false=>r
def PV.scalar:PV->Bool
 | .bool _| .int _ _| .str _| .xg| .nils| .rj| .vx| .nili| .ifc| .zs=>true
 |_=>false
def RC.alone:RC->Bool
 | .p v=>v.scalar
 | .own _ _ es=>es.all fun e=>e.all PV.scalar
def lG(blk:aB)(c:C):Option (RC×List Nat×List Nat):=
 match c with
 | .p v=>some (.p v,[],[])
 | .hsl id g z 0 len=>match blk id with
  |(g',some (.arr ty sz es))=>if g'=g/\len<=es.length then some (.own ty sz (es.take len),[id],[]) else none
  |_=>(snap blk dO c).map fun(v,r)=>(.p v,[],r)
 |_=>(snap blk dO c).map fun(v,r)=>(.p v,[],r)
def mN(blk:aB):List C->Option (List RC×List Nat×List Nat)
 |[]=>some ([],[],[])
 |c::r=>match lG blk c,mN blk r with
  |some (x,o,q),some (xs,os,qs)=>some (x::xs,o++os,q++qs)
  |_,_=>none
def oa:V->Option (List C)
 | .one c=>some [c]
 | .agg cs=>some cs
 |_=>none
def wA:List V->Option (List C)
 |[]=>some []
 |v::r=>match oa v,wA r with
  |some a,some b=>some (a++b)
  |_,_=>none
def tL:V->Option (List C)
 | .tup vs=>wA vs
 |v=>oa v
def ti:V->List RC->RV×List RC
 | .one _,r::rs=>(.one r,rs)
 | .agg cs,rs=>(.agg (rs.take cs.length),rs.drop cs.length)
 |_,rs=>(.agg [],rs)
def CU:List V->List RC->List RV
 |[],_=>[]
 |v::r,rs=>(ti v rs).1::CU r (ti v rs).2
def vE:V->List RC->RV
 | .tup vs,rs=>.tup (CU vs rs)
 |v,rs=>(ti v rs).1
def apart:List Nat->List Nat->Bool
 |[],_=>true
 |i::r,q=> !r.contains i&& !q.contains i&&apart r q
def kx(blk:aB)(v:V):Option RV:=
 match tL v with
 |some cs=>match mN blk cs with
  |some (x,o,q)=>if apart o q then some (vE v x) else none
  |none=>none
 |none=>none
def dN(blk:aB)(site:Nat):RC->C×List eO
 | .p v=>(.p v,[])
 | .own ty sz es=>(.hsl site ((blk site).1+1) sz 0 es.length,[(site,((blk site).1+1,some (.arr ty sz es)))])
def jW(blk:aB)(site:Nat):List RC->List C×List eO
 |[]=>([],[])
 |c::r=>((dN blk site c).1::(jW blk (site+1) r).1,(dN blk site c).2++(jW blk (site+1) r).2)
def kD:RV->List RC
 | .one c=>[c]
 | .agg cs=>cs
 | .tup _=>[]
def rU:List RV->List RC
 |[]=>[]
 |v::r=>kD v++rU r
def jS:RV->List RC
 | .tup vs=>rU vs
 |v=>kD v
def oE:RV->List C->V×List C
 | .one _,c::cs=>(.one c,cs)
 | .agg rs,cs=>(.agg (cs.take rs.length),cs.drop rs.length)
 |_,cs=>(.undef,cs)
def uO:List RV->List C->List V
 |[],_=>[]
 |v::r,cs=>(oE v cs).1::uO r (oE v cs).2
def ue:RV->List C->V
 | .tup vs,cs=>.tup (uO vs cs)
 |v,cs=>(oE v cs).1
def RV.alone(r:RV):Bool:=(jS r).all RC.alone
def kN(blk:aB)(site:Nat)(r:RV):V×List eO:=(ue r (jW blk site (jS r)).1,(jW blk site (jS r)).2)
inductive ft where
 |fail
 |done (v:V) (u:List eO) (rd:List Nat)
 |pc (f:Nat) (args:List V) (rd:List Nat) (site:Nat)
 |sc (f:Nat) (args:List V)
def Bc(blk:aB):V->Option (List C×List Nat)
 | .one (.p (.box cs))=>some (cs.map .p,[])
 | .one (.bt id g off)=>match blk id with
  |(g',some (.var cs))=>if g'=g then some (cs.drop off,[id]) else none
  |(g',some (.fvar cs))=>if g'=g then some ((cs.drop off).map .p,[id]) else none
  |_=>none
 | .one (.di id g i off)=>match blk id with
  |(g',some (.arr _ _ es))=>if g'=g then (es[i]?).map fun e=>((e.drop off).map .p,[id]) else none
  |(g',some (.pG _ _ es))=>if g'=g then (es[i]?).map fun e=>((e.drop off).map .p,[id]) else none
  |(g',some (.iT _ _ es))=>if g'=g then (es[i]?).map fun e=>(e.drop off,[id]) else none
  |_=>none
 |_=>none
def pZ(k:Option Nat)(cs:List C):Option V:=
 match k with
 |none=>match cs with
  |c::_=>some (.one c)
  |[]=>none
 |some n=>if n<=cs.length then some (.agg (cs.take n)) else none
def eX{α:Type}(cs:List α)(off:Nat)(xs:List α):List α:=cs.take off++xs++cs.drop (off+xs.length)
def Ab(blk:aB)(a:V)(n:Nat)(xs:List C):ft:=
 if xs.length≠n then .fail else
 match a with
 | .one (.bt id g off)=>match blk id with
  |(g',some (.var cs))=>if g'=g/\off+n<=cs.length then .done .undef [(id,(g,some (.var (eX cs off xs))))] [id] else .fail
  |_=>.fail
 | .one (.di id g i off)=>match blk id with
  |(g',some (.arr ty sz es))=>match es[i]?,Bk xs with
   |some e,some ps=>if g'=g/\off+n<=e.length then .done .undef [(id,(g,some (.arr ty sz (es.set i (eX e off ps)))))] [id] else .fail
   |_,_=>.fail
  |_=>.fail
 |_=>.fail
def eT(blk:aB):V->Option (List (List PV)×List Nat×List Nat)
 | .one (.p .nils)=>some ([],[],[])
 | .one (.p (.sl es))=>some (es,[],[])
 | .one (.hsl id g z off len)=>match blk id with
  |(g',some (.arr _ _ es))=>if g'=g/\off+len<=es.length then some ((es.drop off).take len,[id],[]) else none
  |(g',some (.pG _ _ es))=>if g'=g/\off+len<=es.length then some ((es.drop off).take len,[id],[]) else none
  |(g',some (.iT _ _ es))=>if g'=g/\off+len<=es.length then
    match collect (collect (snap blk dO)) ((es.drop off).take len) with
    |some (ps,r)=>some (ps,[id],r)
    |none=>none
   else none
  |_=>if len=0 then some ([],[id],[]) else none
 |_=>none
def fM(sz:Nat)(es:List (List PV)):Bool:=es.all fun e=>e.length==sz
def lI:V->Option Nat
 | .one (.hsl _ _ z _ _)=>some z
 |_=>none
def room:Nat:=140737488355328
def fj(blk:aB)(site ty sz bytes:Nat)(s x:V):ft:=
 match eT blk x with
 |none=>.fail
 |some (new,rd,fr)=>
  if ¬(lI x=some sz\/fM sz new=true) then .fail else
  match qN blk fr with
  |none=>.fail
  |some fu=>
   match s with
   | .one (.p .nils)=>
    if new.length=0 then .done (.one (.p .nils)) fu (rd++fr) else
    if new.length*bytes<=room then
     .done (.one (.hsl site ((blk site).1+1) sz 0 new.length)) (fu++[(site,((blk site).1+1,some (.arr ty sz new)))]) (site::rd++fr)
    else .fail
   | .one (.p .zs)=>
    if new.length=0 then .fail else
    if new.length*bytes<=room then
     .done (.one (.hsl site ((blk site).1+1) sz 0 new.length)) (fu++[(site,((blk site).1+1,some (.arr ty sz new)))]) (site::rd++fr)
    else .fail
   | .one (.hsl id g z 0 len)=>match blk id with
    |(g',some (.arr j4 bR es))=>
     if g'=g/\j4=ty/\bR=sz/\len<=es.length/\(len+new.length)*bytes<=room/\fr.contains id=false then
      .done (.one (.hsl site ((blk site).1+1) sz 0 (len+new.length)))
       (fu++[(id,(g,none)),(site,((blk site).1+1,some (.arr ty sz (es.take len++new))))]) (site::id::rd++fr)
     else .fail
    |_=>.fail
   | .one (.hsl id g z off len)=>match blk id with
    |(g',some (.arr j4 bR es))=>
     if g'=g/\j4=ty/\bR=sz/\off+len<=es.length/\(len+new.length)*bytes<=room/\fr.contains id=false/\0<len/\0<new.length then
      .done (.one (.p (.sl ((es.drop off).take len++new)))) (fu++[(id,(g,none))]) (id::rd++fr)
     else .fail
    |_=>.fail
   |_=>.fail
def oZ:V->Option Nat
 | .one (.p (.int _ n))=>if 0<=n then some n.toNat else none
 |_=>none
def rH(aj:Env)(d:Nat):Option aP->Option Nat
 |none=>some d
 |some a=>oZ (ev aj a)
def CQ(x:V)(sz lo hi:Nat):ft:=
 if ¬lo<=hi then .fail else
 match x with
 | .one (.p .nils)=>if hi=0 then .done (.one (.p .nils)) [] [] else .fail
 | .one (.p (.sl es))=>if hi<=es.length/\fM sz es=true then .done (.one (.p (.sl ((es.drop lo).take (hi-lo))))) [] [] else .fail
 | .one (.hsl id g z off len)=>if hi<=len/\z=sz then .done (.one (.hsl id g z (off+lo) (hi-lo))) [] [] else .fail
 |_=>.fail
def yu:V->Option Nat
 | .one (.p .nils)=>some 0
 | .one (.p (.sl es))=>some es.length
 | .one (.hsl _ _ _ _ len)=>some len
 |_=>none
def AU(blk:aB):V->Option (Nat×List Nat)
 | .one (.p .rj)=>some (0,[])
 | .one (.p (.mp _ es))=>some (es.length,[])
 | .one (.k9 id g)=>match blk id with
  |(g',some (.map _ es))=>if g'=g then some (es.length,[id]) else none
  |(g',some (.fmap _ es))=>if g'=g then some (es.length,[id]) else none
  |_=>none
 |_=>none
def mapOf(blk:aB)(ag:Bool):V->Option (List (PV×List PV)×List Nat)
 | .one (.p .rj)=>some ([],[])
 | .one (.p (.mp rF es))=>if rF=ag then some (es,[]) else none
 | .one (.k9 id g)=>match blk id with
  |(g',some (.map rF es))=>if g'=g/\rF=ag then some (es,[id]) else none
  |(g',some (.fmap rF es))=>if g'=g/\rF=ag then some (es,[id]) else none
  |_=>none
 |_=>none
def sameKey:PV->PV->Option Bool
 | .int k a,.int k' b=>if k=k' then some (a==b) else none
 | .str a,.str b=>some (a==b)
 | .bool a,.bool b=>some (a==b)
 |_,_=>none
def jM:PV->Nat
 | .int _ _=>0
 | .str _=>1
 | .bool _=>2
 |_=>3
def mapVal:Bool->List PV->Option V
 |true,cs=>some (.agg (cs.map .p))
 |false,[c]=>some (.one (.p c))
 |false,_=>none
def wh(k:PV):List (PV×List PV)->Nat->Option (Option (Nat×List PV))
 |[],_=>some none
 |(a,v)::r,i=>match sameKey k a with
  |some true=>some (some (i,v))
  |some false=>wh k r (i+1)
  |none=>none
def BQ:Bool->V->Option (List C)
 |false,.one c=>some [c]
 |true,.agg cs=>some cs
 |_,_=>none
def tE(op:BinOp)(k:IntKind)(a b:Int):Option PV:=
 match op with
 | .add=>some (.int k (k.wrap (a+b)))
 | .sub=>some (.int k (k.wrap (a-b)))
 | .mul=>some (.int k (k.wrap (a*b)))
 | .quo=>if b=0 then none else some (.int k (k.wrap (a.tdiv b)))
 | .rem=>if b=0 then none else some (.int k (a.tmod b))
 | .eql=>some (.bool (a==b))
 | .neq=>some (.bool (a !=b))
 | .lss=>some (.bool (decide (a<b)))
 | .leq=>some (.bool (decide (a<=b)))
 | .gtr=>some (.bool (decide (b<a)))
 | .geq=>some (.bool (decide (b<=a)))
 | .and=>some (.int k (k.wrap (BitVec.ofInt k.bits a&&& BitVec.ofInt k.bits b).toNat))
 | .shl=>if b<0 then none else some (.int k (k.wrap (a*2 ^ min b.toNat k.bits)))
 | .shr=>if b<0 then none else some (.int k (a.fdiv (2 ^ min b.toNat k.bits)))
 |_=>none
def Q1(op:BinOp)(a b:ByteArray):Option PV:=
 match op with
 | .add=>if a.size+b.size<=9223372036854775807 then some (.str (a++b)) else none
 | .eql=>some (.bool (a.toList==b.toList))
 | .neq=>some (.bool (!(a.toList==b.toList)))
 |_=>none
def qK(op:BinOp):V->V->Option V
 | .one (.p (.int k a)),.one (.p (.int k' b))=>if k=k'\/op=.shl\/op=.shr then (tE op k a b).map fun v=>.one (.p v) else none
 | .one (.p (.str a)),.one (.p (.str b))=>(Q1 op a b).map fun v=>.one (.p v)
 |_,_=>none
def qh:Bool->PV->PV->Option Bool
 |true,.int k a,.int k' b=>if k=k' then some (a==b) else none
 |false,.bool a,.bool b=>some (a==b)
 |_,_,_=>none
def pF:List Bool->List C->List C->Option Bool
 |[],[],[]=>some true
 |k::ks,.p a::r,.p b::s=>match qh k a b with
  |some true=>pF ks r s
  |some false=>some false
  |none=>none
 |_,_,_=>none
def Gv:uY->V->Option Bool
 | .ptr,.one (.p .xg)=>some true
 | .ptr,.one (.p (.box _))=>some false
 | .ptr,.one (.bt _ _ _)=>some false
 | .ptr,.one (.di _ _ _ _)=>some false
 | .slc,.one (.p .nils)=>some true
 | .slc,.one (.p (.sl (_::_)))=>some false
 | .slc,.one (.hsl _ _ _ _ _)=>some false
 | .map,.one (.p .rj)=>some true
 | .map,.one (.p (.mp _ _))=>some false
 | .map,.one (.k9 _ _)=>some false
 | .fnc,.one (.p .vx)=>some true
 | .fnc,.one (.p (.fn _ _ _))=>some false
 | .fnc,.one (.hfn _ _ _)=>some false
 | .ifc,.one (.p .nili)=>some true
 | .ifc,.one (.p .ifc)=>some false
 |_,_=>none
def BY:uY->V->V->Option Bool
 | .bool,.one (.p (.bool a)),.one (.p (.bool b))=>some (a==b)
 | .str ks,.agg a,.agg b=>pF ks a b
 | .bool,_,_=>none
 | .str _,_,_=>none
 |k,a,b=>if Gv k b=some true then Gv k a else if Gv k a=some true then Gv k b else none
def fill(cs:List C):List (Nat×List C)->List C
 |[]=>cs
 |(off,xs)::r=>fill (eX cs off xs) r
def yv(aj:Env):List (Nat×Nat×aP)->Option (List (Nat×List C))
 |[]=>some []
 |(off,n,a)::r=>match rI (ev aj a),yv aj r with
  |some cs,some q=>if cs.length=n then some ((off,cs)::q) else none
  |_,_=>none
def ze(aj:Env)(sz:Nat):List aP->Option (List (List C))
 |[]=>some []
 |a::r=>match rI (ev aj a),ze aj sz r with
  |some cs,some q=>if cs.length=sz then some (cs::q) else none
  |_,_=>none
def Bl:List (List C)->Option (List (List PV))
 |[]=>some []
 |c::r=>match Bk c,Bl r with
  |some v,some vs=>some (v::vs)
  |_,_=>none
def DJ(aj:Env)(a:aP):Option (Nat×List C×List C):=
 match ev aj a with
 | .one (.p (.fn f x y))=>some (f,x.map .p,y.map .p)
 | .one (.hfn f x y)=>some (f,x,y)
 |_=>none
def Bg(blk:aB):List V->Option (List V×List Nat):=collect (nT blk)
def bytesOf:List (List PV)->Option (List UInt8)
 |[]=>some []
 |[.int .u8 n]::r=>(bytesOf r).map (UInt8.ofNat n.toNat:: ·)
 |_::_=>none
def vB(aj:Env):List aP->Option (List C)
 |[]=>some []
 |a::r=>match ev aj a,vB aj r with
  | .one c,some q=>some (c::q)
  |_,_=>none
def bj(shared:Nat->Bool)(aj:Env)(blk:aB):oR->ft
 | .Jp x=>.done (ev aj x) [] []
 | .pick c a b=>match ev aj c with
  | .one (.p (.bool t))=>.done (if t then ev aj a else ev aj b) [] []
  |_=>.fail
 | .alloc s z=>.done (.one (.bt s ((blk s).1+1) 0)) [(s,((blk s).1+1,some (.var (z.map .p))))] [s]
 | .box s x=>match rI (ev aj x) with
  |some cs=>.done (.one (.bt s ((blk s).1+1) 0)) [(s,((blk s).1+1,some (.var cs)))] [s]
  |none=>.fail
 | .build z ps=>match yv aj ps with
  |some q=>.done (.agg (fill (z.map .p) q)) [] []
  |none=>.fail
 | .HK s ty sz ps=>match ze aj sz ps with
  |some es=>match Bl es with
   |some qs=>.done (.one (.hsl s ((blk s).1+1) sz 0 es.length)) [(s,((blk s).1+1,some (.arr ty sz qs)))] [s]
   |none=>.done (.one (.hsl s ((blk s).1+1) sz 0 es.length)) [(s,((blk s).1+1,some (.iT ty sz es)))] [s]
  |none=>.fail
 | .load k x=>match Bc blk (ev aj x) with
  |some (cs,r)=>match pZ k cs with
   |some v=>.done v [] r
   |none=>.fail
  |none=>.fail
 | .store n a x=>match rI (ev aj x) with
  |some xs=>Ab blk (ev aj a) n xs
  |none=>.fail
 | .Jv x=>match ev aj x with
  | .one (.bt id g o)=>.done (.one (.bt id g o)) [] []
  | .one (.di id g i o)=>.done (.one (.di id g i o)) [] []
  | .one (.p (.box cs))=>.done (.one (.p (.box cs))) [] []
  | .one (.hfn f a b)=>.done (.one (.hfn f a b)) [] []
  | .one (.p (.fn f a b))=>.done (.one (.p (.fn f a b))) [] []
  |_=>.fail
 | .bin op x y=>match qK op (ev aj x) (ev aj y) with
  |some v=>.done v [] []
  |none=>.fail
 | .eqc k neg x y=>match BY k (ev aj x) (ev aj y) with
  |some b=>.done (.one (.p (.bool (if neg then !b else b)))) [] []
  |none=>.fail
 | .un op x=>match op,ev aj x with
  | .not,.one (.p (.bool b))=>.done (.one (.p (.bool (!b)))) [] []
  | .neg,.one (.p (.int k n))=>.done (.one (.p (.int k (k.wrap (0-n))))) [] []
  |_,_=>.fail
 | .conv k x=>match ev aj x with
  | .one (.p (.int _ n))=>.done (.one (.p (.int k (k.wrap n)))) [] []
  |_=>.fail
 | .bstr x=>match eT blk (ev aj x) with
  |some (es,r,[])=>match bytesOf es with
   |some bs=>.done (.one (.p (.str ⟨bs.toArray⟩))) [] r
   |none=>.fail
  |_=>.fail
 | .mkfn f a b=>match vB aj a,vB aj b with
  |some x,some y=>.done (.one (.hfn f x y)) [] []
  |_,_=>.fail
 | .mkmap s ag=>.done (.one (.k9 s ((blk s).1+1))) [(s,((blk s).1+1,some (.map ag [])))] [s]
 | .Jo s ty sz bytes z l c=>match oZ (ev aj l),oZ (ev aj c) with
  |some n,some m=>if n=m/\n*bytes<=room then
    .done (.one (.hsl s ((blk s).1+1) sz 0 n)) [(s,((blk s).1+1,some (.arr ty sz (List.replicate n z))))] [s]
   else .fail
  |_,_=>.fail
 | .slice sz x lo hi=>match yu (ev aj x) with
  |some n=>match rH aj 0 lo,rH aj n hi with
   |some l,some h=>CQ (ev aj x) sz l h
   |_,_=>.fail
  |none=>.fail
 | .sslice x lo hi=>match ev aj x with
  | .one (.p (.str s))=>match rH aj 0 lo,rH aj s.size hi with
   |some l,some h=>if l<=h/\h<=s.size then .done (.one (.p (.str (s.extract l h)))) [] [] else .fail
   |_,_=>.fail
  |_=>.fail
 | .Ik off x=>match ev aj x with
  | .one (.bt id g o)=>.done (.one (.bt id g (o+off))) [] []
  | .one (.di id g i o)=>.done (.one (.di id g i (o+off))) [] []
  | .one (.p (.box cs))=>.done (.one (.p (.box (cs.drop off)))) [] []
  |_=>.fail
 | .Ja sz x i=>match oZ (ev aj i),ev aj x with
  |some n,.one (.p (.sl es))=>match es[n]? with
   |some e=>if e.length=sz then .done (.one (.p (.box e))) [] [] else .fail
   |none=>.fail
  |some n,.one (.hsl id g z off len)=>if n<len/\z=sz then .done (.one (.di id g (off+n) 0)) [] [] else .fail
  |_,_=>.fail
 | .Hw len sz x i=>match oZ (ev aj i),ev aj x with
  |some n,.one (.bt id g o)=>if n<len then .done (.one (.bt id g (o+n*sz))) [] [] else .fail
  |some n,.one (.di id g j o)=>if n<len then .done (.one (.di id g j (o+n*sz))) [] [] else .fail
  |some n,.one (.p (.box cs))=>if n<len then .done (.one (.p (.box (cs.drop (n*sz))))) [] [] else .fail
  |_,_=>.fail
 | .fld off k x=>match ev aj x with
  | .agg cs=>match pZ k (cs.drop off) with
   |some v=>.done v [] []
   |none=>.fail
  |_=>.fail
 | .aidx len sz k x i=>match oZ (ev aj i),ev aj x with
  |some n,.agg cs=>if n<len then
    match pZ k (cs.drop (n*sz)) with
    |some v=>.done v [] []
    |none=>.fail
   else .fail
  |_,_=>.fail
 | .sidx x i=>match oZ (ev aj i),ev aj x with
  |some n,.one (.p (.str s))=>match s[n]? with
   |some b=>.done (.one (.p (.int .u8 b.toNat))) [] []
   |none=>.fail
  |_,_=>.fail
 | .lookup kd z agg ok x k=>match mapOf blk agg (ev aj x),ev aj k with
  |some (es,r),.one (.p q)=>if jM q≠kd then .fail else match wh q es 0 with
   |some f=>match mapVal agg ((f.map (·.2)).getD z) with
    |some w=>.done (if ok then .tup [w,.one (.p (.bool f.isSome))] else w) [] r
    |none=>.fail
   |none=>.fail
  |_,_=>.fail
 | .bad=>.fail
 | .mupd kd ag m k v=>match ev aj m,ev aj k,BQ ag (ev aj v) with
  | .one (.k9 id g),.one (.p q),some cs=>match blk id,Bk cs with
   |(g',some (.map rF es)),some ps=>if g'=g/\rF=ag/\jM q=kd then
     match wh q es 0 with
     |some (some (i,_))=>.done .undef [(id,(g,some (.map ag (es.set i (q,ps)))))] [id]
     |some none=>.done .undef [(id,(g,some (.map ag (es++[(q,ps)]))))] [id]
     |none=>.fail
    else .fail
   |_,_=>.fail
  |_,_,_=>.fail
 | .extract x i=>match ev aj x with
  | .tup vs=>match vs[i]? with
   |some v=>.done v [] []
   |none=>.fail
  |_=>.fail
 | .call s f as=>match DJ aj f with
  |some (g,a,b)=>
   if shared g then .sc g (a.map .one++as.map (ev aj)++b.map .one)
   else match Bg blk (a.map .one++as.map (ev aj)++b.map .one) with
    |some (vs,r)=>.pc g vs r s
    |none=>.fail
  |none=>.fail
 | .slen x=>match ev aj x with
  | .one (.p (.str s))=>.done (.one (.p (.int .i64 s.size))) [] []
  |_=>.fail
 | .ML x=>match yu (ev aj x) with
  |some n=>.done (.one (.p (.int .i64 n))) [] []
  |none=>.fail
 | .mlen x=>match AU blk (ev aj x) with
  |some (n,r)=>.done (.one (.p (.int .i64 n))) [] r
  |none=>.fail
 | .append s ty sz bytes d x=>fj blk s ty sz bytes (ev aj d) (ev aj x)
 | .max x y=>match ev aj x,ev aj y with
  | .one (.p (.int k a)),.one (.p (.int _ b))=>.done (.one (.p (.int k (if b>a then b else a)))) [] []
  |_,_=>.fail
 | .min x y=>match ev aj x,ev aj y with
  | .one (.p (.int k a)),.one (.p (.int _ b))=>.done (.one (.p (.int k (if b<a then b else a)))) [] []
  |_,_=>.fail
 | .clear z x=>match ev aj x with
  | .one (.p .nils)=>.done (.tup []) [] []
  | .one (.p (.sl []))=>.done (.tup []) [] []
  | .one (.hsl id g _ off len)=>if len=0 then .done (.tup []) [] [] else match blk id with
   |(g',some (.arr ty sz es))=>if g'=g/\sz=z.length/\off+len<=es.length then .done (.tup []) [(id,(g,some (.arr ty sz (eX es off (List.replicate len z)))))] [id] else .fail
   |_=>.fail
  |_=>.fail
structure bX where
 rd:List Nat
 wr:List Nat
 fs:List Nat
structure Al where
 any:Bool
 ids:List Nat
 fs:List Nat
def Al.all:Al:=⟨true,[],[]⟩
def nQ(id:Nat):Nat:=id/64000000
def Al.ok(a:Al)(id:Nat):Bool:=a.any||a.ids.contains id||a.fs.contains (nQ id)
def Al.gG(a:Al)(l:List Nat):Bool:=l.all a.ok
def Al.holds(a b:Al):Bool:=a.any||(a.gG b.ids&&b.fs.all a.fs.contains)
structure Ctx where
 shared:Nat->Bool
 sites:Nat->List Nat
 lone:Nat->Bool
 al:Al
def mB(blk:aB):Nat->C->List Nat
 |0,_=>[]
 |n+1,c=>match c with
  | .p _=>[]
  | .bt id _ _=>id::match blk id with
   |(_,some (.var cs))=>(cs.map (mB blk n)).flatten
   |_=>[]
  | .di id _ _ _=>id::match blk id with
   |(_,some (.iT _ _ es))=>(es.flatten.map (mB blk n)).flatten
   |_=>[]
  | .hsl id _ _ _ _=>id::match blk id with
   |(_,some (.iT _ _ es))=>(es.flatten.map (mB blk n)).flatten
   |_=>[]
  | .k9 id _=>[id]
  | .hfn _ a b=>(a.map (mB blk n)).flatten++(b.map (mB blk n)).flatten
def mh(blk:aB):V->List Nat
 | .one c=>mB blk dO c
 | .agg cs=>(cs.map (mB blk dO)).flatten
 |_=>[]
def allow(sh:Ctx)(f:Nat)(vs:List V)(blk:aB):Al:=⟨false,(vs.map (mh blk)).flatten,sh.sites f⟩
def put(aj:Env)(d:Option Nat)(v:V):Env:=
 match d with
 |some t=>cZ aj t v
 |none=>aj
abbrev fO:=Nat->List V->Option RV
abbrev j8:=Nat->List V->Al->aB->Option (V×aB)
def land(blk:aB)(rd:List Nat)(site:Nat)(r:RV):Option (V×List eO):=
 if rd=[]\/r.alone then some (kN blk site r)
 else match qN blk rd with
  |some u=>some ((kN blk site r).1,u++(kN blk site r).2)
  |none=>none
def wanted(aj:Env):Option (Nat×Bool)->Option Bool
 |none=>some true
 |some (t,want)=>match aj t with
  | .one (.p (.bool b))=>some (b==want)
  | .undef=>some false
  |_=>none
def step1(sh:Ctx)(cp:fO)(cs:j8)(o:ch)(aj:Env)(blk:aB):Option (Env×aB×bX):=
 match wanted aj o.guard with
 |none=>none
 |some false=>some (put aj o.dst .undef,blk,⟨[],[],[]⟩)
 |some true=>match bj sh.shared aj blk o.op with
  | .fail=>none
  | .done v u r=>if sh.al.gG (r++u.map (·.1)) then some (put aj o.dst v,app u blk,⟨r,u.map (·.1),[]⟩) else none
  | .pc f vs r s=>match cp f vs with
   |some x=>match land blk r s (x.gV (sh.lone s)) with
    |some (v,u)=>if sh.al.gG (r++u.map (·.1)) then some (put aj o.dst v,app u blk,⟨r++u.map (·.1),u.map (·.1),[]⟩) else none
    |none=>none
   |none=>none
  | .sc f vs=>if sh.al.holds (allow sh f vs blk) then
    match cs f vs (allow sh f vs blk) blk with
    |some (v,ak)=>some (put aj o.dst v,ak,⟨(allow sh f vs blk).ids,(allow sh f vs blk).ids,(allow sh f vs blk).fs⟩)
    |none=>none
   else none
def steps(sh:Ctx)(cp:fO)(cs:j8):List ch->Env->aB->Option (Env×aB×List bX)
 |[],aj,blk=>some (aj,blk,[])
 |o::r,aj,blk=>match step1 sh cp cs o aj blk with
  |some (aE,ak,e)=>match steps sh cp cs r aE ak with
   |some (rS,BK,es)=>some (rS,BK,e::es)
   |none=>none
  |none=>none
def meets(a b:List Nat):Bool:=a.any fun i=>b.contains i
def Gu(fs ids:List Nat):Bool:=ids.any fun i=>fs.contains (nQ i)
def FC(a b:bX):Bool:=meets a.wr b.rd||meets a.wr b.wr||meets a.rd b.wr||meets a.fs b.fs||Gu a.fs (b.rd++b.wr)||Gu b.fs (a.rd++a.wr)
def Pv(anc:Nat)(e:bX):Nat->List bX->Bool
 |_,[]=>true
 |j,x::r=>(anc.testBit j|| !FC x e)&&Pv anc e (j+1) r
def te:List ch->List bX->List bX->Bool
 |o::os,past,e::es=>Pv o.anc e 0 past&&te os (past++[e]) es
 |_,_,_=>true
inductive mD where
 |normal
 |exit (id:Nat)
 |ret
def iter(f:Env->aB->Option (mD×Env×aB)):Nat->Env->aB->Option (mD×Env×aB)
 |0,_,_=>none
 |n+1,aj,blk=>match f aj blk with
  |some (.normal,aE,ak)=>iter f n aE ak
  |r=>r
def exec(sh:Ctx)(cp:fO)(cs:j8)(n:Nat):aL->Env->aB->Option (mD×Env×aB)
 | .skip,aj,blk=>some (.normal,aj,blk)
 | .region d ops,aj,blk=>match steps sh cp cs ops aj blk with
  |some (aE,ak,es)=>if d then (if te ops [] es then some (.normal,aE,ak) else none) else some (.normal,aE,ak)
  |none=>none
 | .seq a b,aj,blk=>match exec sh cp cs n a aj blk with
  |some (.normal,aE,ak)=>exec sh cp cs n b aE ak
  |r=>r
 | .cond x a b,aj,blk=>match ev aj x with
  | .one (.p (.bool t))=>if t then exec sh cp cs n a aj blk else exec sh cp cs n b aj blk
  |_=>none
 | .block id c,aj,blk=>match exec sh cp cs n c aj blk with
  |some (.exit i,aE,ak)=>if i=id then some (.normal,aE,ak) else some (.exit i,aE,ak)
  |r=>r
 | .loop c,aj,blk=>iter (exec sh cp cs n c) n aj blk
 | .exit id,aj,blk=>some (.exit id,aj,blk)
 | .ret,aj,blk=>some (.ret,aj,blk)
 | .bad,_,_=>none
def sv(args:List V):Env:=fun i=>args.getD i .undef
def Pu:V->Option V
 | .tup _=>none
 |v=>some v
def oF(al:Al)(aj:Env)(blk:aB):List (Nat×Option (Option Nat))->Option (List V)
 |[]=>some []
 |(t,none)::r=>match Pu (aj t),oF al aj blk r with
  |some v,some q=>some (v::q)
  |_,_=>none
 |(t,some k)::r=>match Bc blk (aj t),oF al aj blk r with
  |some (cs,rd),some q=>if al.gG rd then (pZ k cs).map (· ::q) else none
  |_,_=>none
def zY:List V->V
 |[v]=>v
 |vs=>.tup vs
def A5:aB:=fun _=>(0,none)
def rq(sh:Ctx)(cp:fO)(cs:j8)(n:Nat)(fn:aX)(args:List V)(blk:aB):Option (V×aB):=
 match exec sh cp cs n fn.body (sv args) blk with
 |some (.normal,aj,ak)=>(oF sh.al aj ak fn.results).map fun vs=>(zY vs,ak)
 |some (.ret,aj,ak)=>(oF sh.al aj ak fn.results).map fun vs=>(zY vs,ak)
 |_=>none
def E0(sh:Ctx)(cp:fO)(cs:j8)(n:Nat)(fn:aX)(args:List V):Option RV:=
 match rq sh cp cs n fn args A5 with
 |some (v,blk)=>kx blk v
 |none=>none
structure Sys where
 P:Program
 shared:Nat->Bool
 sites:Nat->List Nat
 lone:Nat->Bool
 fns:Nat->Option aX
 prim:Nat->List V->Option (Option RV)
 trig:Nat->List V->Bool:=fun _ _=>false
 primS:Nat->List V->Al->aB->Option (V×List eO):=fun _ _ _ _=>none
def Sys.ctx(S:Sys)(a:Al):Ctx:=⟨S.shared,S.sites,S.lone,a⟩
mutual
def js(S:Sys):Nat->fO
 |0,_,_=>none
 |n+1,f,args=>match S.prim f args with
  |some r=>r
  |none=>match S.fns f with
   |some fn=>if args.length<=fn.ntmps then E0 (S.ctx .all) (js S n) (ia S n) n fn args else none
   |none=>none
def ia(S:Sys):Nat->j8
 |0,_,_,_,_=>none
 |n+1,f,args,al,blk=>if S.trig f args=true then (S.primS f args al blk).map (fun r=>(r.1,app r.2 blk)) else match S.fns f with
  |some fn=>if args.length<=fn.ntmps then rq (S.ctx al) (js S n) (ia S n) n fn args blk else none
  |none=>none
end
def aH(S:Sys)(f:Nat)(args:List V)(r:RV):Prop:= ∃n,js S n f args=some r
def jd(S:Sys)(f:Nat)(args:List V)(al:Al)(blk:aB)(v:V)(ak:aB):Prop:= ∃n,ia S n f args al blk=some (v,ak)
abbrev ef:=mD->Env->aB->Prop
def W (S:Sys)(al:Al)(c:aL)(Q:ef)(aj:Env)(blk:aB):Prop:=∃n e aE ak,exec (S.ctx al) (js S n) (ia S n) n c aj blk=some (e,aE,ak)/\Q e aE ak
def WO (S:Sys)(al:Al)(ops:List ch)(Q:Env->aB->List bX->Prop)(aj:Env)(blk:aB)(tr:List bX):Prop:=∃n aE ak es,steps (S.ctx al) (js S n) (ia S n) ops aj blk=some (aE,ak,es)/\Q aE ak (tr++es)
end Go.Abs
namespace Go.Abs
section
variable{m n:Nat}
def Ks(a b:fO):Prop:=∀f x r,a f x=some r->b f x=some r
def SLe(a b:j8):Prop:=∀f x l k r,a f x l k=some r->b f x l k=some r
section
variable {sh:Ctx} {cp mY:fO} {cs DD:j8} (hp:Ks cp mY) (hs:SLe cs DD)
include hp hs
theorem aeC{o:ch}{aj:Env}{blk:aB}{r:Env×aB×bX}(h:step1 sh cp cs o aj blk=some r):step1 sh mY DD o aj blk=some r:=by
 unfold step1 at h ⊢;cases hw:wanted aj o.guard with
 |none=>simp[hw] at h
 |some b=>
  cases b with
  |false=>simpa [hw] using h
  |true=>
   simp only[hw] at h ⊢;cases bh:bj sh.shared aj blk o.op with
   |fail=>simp[bh] at h
   |done v u rd=>simpa [bh] using h
   |pc f vs rd s=>
    simp only[bh] at h ⊢;cases hc:cp f vs with
    |none=>simp[hc] at h
    |some x=>rw[hp _ _ _ hc];simpa [hc] using h
   |sc f vs=>
    simp only[bh] at h ⊢;split at h
    .rename_i ha;rw[if_pos ha];cases hc:cs f vs (allow sh f vs blk) blk with
     |none=>simp[hc] at h
     |some x=>rw[hs _ _ _ _ _ hc];simpa [hc] using h
    cases h
theorem aeG:∀ {ops:List ch} {aj:Env} {blk:aB} {r:Env×aB×List bX},steps sh cp cs ops aj blk=some r->steps sh mY DD ops aj blk=some r:=by
 intro ops
 induction ops with
 |nil=>intro aj blk r h;simpa [steps] using h
 |cons o os ih=>
  intro aj blk r h;simp only[steps] at h ⊢;cases h1:step1 sh cp cs o aj blk with
  |none=>simp[h1] at h
  |some x=>
   obtain⟨e1,b1,f1⟩:=x;rw[aeC hp hs h1];simp only[h1] at h ⊢;cases h2:steps sh cp cs os e1 b1 with
   |none=>simp[h2] at h
   |some y=>rw[ih h2];simpa [h2] using h
omit hp hs in
theorem abJ{f g:Env->aB->Option (mD×Env×aB)}(hfg:∀e b r,f e b=some r->g e b=some r):
  ∀ {n m:Nat} {aj:Env} {blk:aB} {r:mD×Env×aB},n<=m->iter f n aj blk=some r->iter g m aj blk=some r:=by
 intro n
 induction n with
 |zero=>intro m aj blk r _ h;simp[iter] at h
 |succ n ih=>
  intro m aj blk r hm h;obtain⟨m,rfl⟩:∃k,m=k+1:=⟨m-1,aa⟩;simp only[iter] at h ⊢;cases hf:f aj blk with
  |none=>simp[hf] at h
  |some x=>
   obtain⟨e,e1,b1⟩:=x;rw[hfg _ _ _ hf];cases e with
   |normal=>simp only[hf] at h ⊢;exact ih aa h
   |exit i=>simpa [hf] using h
   |ret=>simpa [hf] using h
theorem Y0(Mm:n<=m):∀ {c:aL} {aj:Env} {blk:aB} {r:mD×Env×aB},exec sh cp cs n c aj blk=some r->exec sh mY DD m c aj blk=some r:=by
 intro c
 induction c with
 |skip=>intro aj blk r h;simpa [exec] using h
 |region d ops=>
  intro aj blk r h;simp only[exec] at h ⊢;cases h1:steps sh cp cs ops aj blk with
  |none=>simp[h1] at h
  |some x=>rw[aeG hp hs h1];simpa [h1] using h
 |seq a b iha ihb=>
  intro aj blk r h;simp only[exec] at h ⊢;cases h1:exec sh cp cs n a aj blk with
  |none=>simp[h1] at h
  |some x=>
   obtain⟨e,e1,b1⟩:=x;rw[iha h1];cases e with
   |normal=>simp only[h1] at h ⊢;exact ihb h
   |exit i=>simpa [h1] using h
   |ret=>simpa [h1] using h
 |cond x a b iha ihb=>
  intro aj blk r h;simp only[exec] at h ⊢;split at h
  .split at h
   .rename_i ht;simp only[ht,if_true];exact iha h
   rename_i ht;simp only[ht];exact ihb h
  cases h
 |block id c ih=>
  intro aj blk r h;simp only[exec] at h ⊢;cases h1:exec sh cp cs n c aj blk with
  |none=>simp[h1] at h
  |some x=>rw[ih h1];simpa [h1] using h
 |loop c ih=>intro aj blk r h;simp only[exec] at h ⊢;exact abJ (fun _ _ _ h=>ih h) Mm h
 |exit id=>intro aj blk r h;simpa [exec] using h
 |ret=>intro aj blk r h;simpa [exec] using h
 |bad=>intro aj blk r h;simp[exec] at h
theorem VQ(Mm:n<=m){fn:aX}{args:List V}{blk:aB}{r:V×aB}(h:rq sh cp cs n fn args blk=some r):rq sh mY DD m fn args blk=some r:=by
 unfold rq at h ⊢;cases h1:exec sh cp cs n fn.body (sv args) blk with
 |none=>simp[h1] at h
 |some x=>rw[Y0 hp hs Mm h1];simpa [h1] using h
theorem aoU(Mm:n<=m){fn:aX}{args:List V}{r:RV}(h:E0 sh cp cs n fn args=some r):E0 sh mY DD m fn args=some r:=by
 unfold E0 at h ⊢;cases h1:rq sh cp cs n fn args A5 with
 |none=>simp[h1] at h
 |some x=>rw[VQ hp hs Mm h1];simpa [h1] using h
end
theorem XI(S:Sys):∀n,Ks (js S n) (js S (n+1))/\SLe (ia S n) (ia S (n+1)):=by
 intro n
 induction n with
 |zero=>exact⟨fun f x r h=>by simp[js] at h,fun f x l k r h=>by simp[ia] at h⟩
 |succ n ih=>
  refine⟨fun f x r h=>?_,fun f x l k r h=>?_⟩
  .rw[js] at h ⊢;cases hp:S.prim f x with
   |some r'=>simpa [hp] using h
   |none=>
    simp only[hp] at h ⊢;cases hf:S.fns f with
    |none=>simp[hf] at h
    |some fn=>
     simp only[hf] at h ⊢;split at h
     .rename_i hl;rw[if_pos hl];exact aoU ih.1 ih.2 aa h
     cases h
  rw[ia] at h ⊢;by_cases ht:S.trig f x=true
  .rw[if_pos ht] at h ⊢;exact h
  rw[if_neg ht] at h ⊢;cases hf:S.fns f with
  |none=>simp[hf] at h
  |some fn=>
   simp only[hf] at h ⊢;split at h
   .rename_i hl;rw[if_pos hl];exact VQ ih.1 ih.2 aa h
   cases h
theorem KI(S:Sys)(h:n<=m):Ks (js S n) (js S m):=by
 induction h with
 |refl=>exact fun _ _ _ h=>h
 |step _ ih=>exact fun f x r hr=>(XI S _).1 f x r (ih f x r hr)
theorem KJ(S:Sys)(h:n<=m):SLe (ia S n) (ia S m):=by
 induction h with
 |refl=>exact fun _ _ _ _ _ h=>h
 |step _ ih=>exact fun f x l k r hr=>(XI S _).2 f x l k r (ih f x l k r hr)
theorem aH.BT{S:Sys}{f:Nat}{args:List V}{r r':RV}(h:aH S f args r)(h':aH S f args r'):r=r':=by obtain⟨n,hn⟩:=h;obtain⟨m,hm⟩:=h';have a:=KI S (Hm n m) _ _ _ hn;have b:=KI S (Nat.le_max_right n m) _ _ _ hm;rw[a] at b;exact rB b
theorem FO(S:Sys){al:Al}(h:n<=m){c:aL}{aj:Env}{blk:aB}{r:mD×Env×aB}(hr:exec (S.ctx al) (js S n) (ia S n) n c aj blk=some r):
  exec (S.ctx al) (js S m) (ia S m) m c aj blk=some r:=Y0 (KI S h) (KJ S h) h hr
theorem aqx(S:Sys){al:Al}(h:n<=m){ops:List ch}{aj:Env}{blk:aB}{r:Env×aB×List bX}(hr:steps (S.ctx al) (js S n) (ia S n) ops aj blk=some r):
  steps (S.ctx al) (js S m) (ia S m) ops aj blk=some r:=aeG (KI S h) (KJ S h) hr
variable {S:Sys} {al:Al} {Q:ef} {aj:Env} {blk:aB}
theorem W.mono{c:aL}{Q':ef}(h:W S al c Q aj blk)(hq:∀e aj blk,Q e aj blk->Q' e aj blk):W S al c Q' aj blk:=by obtain⟨n,e,aE,ak,h1,h2⟩:=h;exact⟨n,e,aE,ak,h1,hq _ _ _ h2⟩
theorem af0(h:Q .normal aj blk):W S al .skip Q aj blk:=⟨0,_,_,_,rfl,h⟩
theorem afT{id:Nat}(h:Q (.exit id) aj blk):W S al (.exit id) Q aj blk:=⟨0,_,_,_,rfl,h⟩
theorem afW(h:Q .ret aj blk):W S al .ret Q aj blk:=⟨0,_,_,_,rfl,h⟩
def Nr(next:Env->aB->Prop)(Q:ef):ef
 | .normal,aj,blk=>next aj blk
 |e,aj,blk=>Q e aj blk
theorem afX{a b:aL}(h:W S al a (Nr (W S al b Q) Q) aj blk):W S al (.seq a b) Q aj blk:=by
 obtain⟨n,e,aE,ak,h1,h2⟩:=h;cases e with
 |normal=>obtain⟨m,e,cS,aT,h3,h4⟩:=h2;refine⟨max n m,e,cS,aT,?_,h4⟩;simp only[exec];rw[FO S (Hm n m) h1];exact FO S (Nat.le_max_right n m) h3
 |exit i=>exact⟨n,_,_,_,by simp[exec,h1],h2⟩
 |ret=>exact⟨n,_,_,_,by simp[exec,h1],h2⟩
theorem afQ{x:aP}{a b:aL}{t:Bool}(hx:ev aj x=.one (.p (.bool t)))(h:if t=true then W S al a Q aj blk else W S al b Q aj blk):W S al (.cond x a b) Q aj blk:=by
 cases t with
 |true=>obtain⟨n,e,aE,ak,h1,h2⟩:=h;exact⟨n,e,aE,ak,by simp[exec,hx,h1],h2⟩
 |false=>obtain⟨n,e,aE,ak,h1,h2⟩:=(by simpa using h:W S al b Q aj blk);exact⟨n,e,aE,ak,by simp[exec,hx,h1],h2⟩
def rG(id:Nat)(Q:ef):ef
 | .exit i,aj,blk=>if i=id then Q .normal aj blk else Q (.exit i) aj blk
 |e,aj,blk=>Q e aj blk
theorem afP{id:Nat}{c:aL}(h:W S al c (rG id Q) aj blk):W S al (.block id c) Q aj blk:=by
 obtain⟨n,e,aE,ak,h1,h2⟩:=h;cases e with
 |normal=>exact⟨n,_,_,_,by simp[exec,h1],h2⟩
 |ret=>exact⟨n,_,_,_,by simp[exec,h1],h2⟩
 |exit i=>
  simp only[rG] at h2;by_cases hi:i=id
  .simp only[hi,if_true] at h2;exact⟨n,_,_,_,by simp[exec,h1,hi],h2⟩
  simp only[hi,if_false] at h2;exact⟨n,_,_,_,by simp[exec,h1,hi],h2⟩
theorem UO(S:Sys){c:aL}{k l:Nat}(h:n<=m)(hk:k<=l){r:mD×Env×aB}(hr:iter (exec (S.ctx al) (js S n) (ia S n) n c) k aj blk=some r):
  iter (exec (S.ctx al) (js S m) (ia S m) m c) l aj blk=some r:=abJ (fun _ _ _ h'=>FO S h h') hk hr
theorem afU{c:aL}(I:Nat->Env->aB->Prop)(k0 N:Nat)(hk:k0<=N)(h0:I k0 aj blk)
  (round:∀k aj blk,k<=N->I k aj blk->W S al c (Nr (fun aE ak=>k<N/\I (k+1) aE ak) Q) aj blk):W S al (.loop c) Q aj blk:=by
 have key:∀j k aj blk,k+j=N->I k aj blk->∃n l e aE ak,iter (exec (S.ctx al) (js S n) (ia S n) n c) l aj blk=some (e,aE,ak)/\Q e aE ak:=by
  intro j
  induction j with
  |zero=>
   intro k aj blk F7 hI;obtain⟨n,e,iF,bc,h1,h2⟩:=round k aj blk aa hI;cases e with
   |normal=>obtain⟨aq,_⟩:=h2;omega
   |exit i=>exact⟨n,1,_,_,_,by simp[iter,h1],h2⟩
   |ret=>exact⟨n,1,_,_,_,by simp[iter,h1],h2⟩
  |succ j ih=>
   intro k aj blk F7 hI;obtain⟨n,e,iF,bc,h1,h2⟩:=round k aj blk aa hI;cases e with
   |normal=>obtain⟨_,hI1⟩:=h2;obtain⟨m,l,e,cS,aT,h3,h4⟩:=ih (k+1) iF bc aa hI1;refine⟨max n m,l+1,e,cS,aT,?_,h4⟩;simp only[iter];rw[FO S (Hm n m) h1];exact UO S (Nat.le_max_right n m) (aZ _) h3
   |exit i=>exact⟨n,1,_,_,_,by simp[iter,h1],h2⟩
   |ret=>exact⟨n,1,_,_,_,by simp[iter,h1],h2⟩
 obtain⟨n,l,e,aE,ak,h1,h2⟩:=key (N-k0) k0 aj blk aa h0;refine⟨max n l,e,aE,ak,?_,h2⟩;simp only[exec];exact UO S (Hm n l) (Nat.le_max_right n l) h1
theorem afV{d:Bool}{ops:List ch}(h:WO S al ops (fun aj blk es=>(d=true->te ops [] es=true)/\Q .normal aj blk) aj blk []):W S al (.region d ops) Q aj blk:=by
 obtain⟨n,aE,ak,es,h1,h2,h3⟩:=h;refine⟨n,.normal,aE,ak,?_,h3⟩;simp only[exec,h1];cases d with
 |false=>simp
 |true=>simpa using h2
theorem afN{R:Env->aB->List bX->Prop}{tr:List bX}(h:R aj blk tr):WO S al [] R aj blk tr:=⟨0,aj,blk,[],rfl,by simpa using h⟩
theorem NP{o:ch}{os:List ch}{R:Env->aB->List bX->Prop}{tr:List bX}{n:Nat}{iF:Env}{bc:aB}{e:bX}
  (h1:step1 (S.ctx al) (js S n) (ia S n) o aj blk=some (iF,bc,e)) (h:WO S al os R iF bc (tr++[e])):WO S al (o::os) R aj blk tr:=by
 obtain⟨m,aE,ak,es,h2,h3⟩:=h;refine⟨max n m,aE,ak,e::es,?_,by simpa using h3⟩;simp only[steps];rw[aeC (KI S (Hm n m)) (KJ S (Hm n m)) h1];simp[aqx S (Nat.le_max_right n m) h2]
def FW(S:Sys)(al:Al)(p:ft)(d:Option Nat)(aj:Env)(blk:aB)(tr:List bX)(K:Env->aB->List bX->Prop):Prop:=
 match p with
 | .fail=>False
 | .done v u r=>al.gG (r++u.map (·.1))=true/\K (put aj d v) (app u blk) (tr++[⟨r,u.map (·.1),[]⟩])
 | .pc f vs r s=>∃x,aH S f vs x/\match land blk r s (x.gV (S.lone s)) with
  |some (v,u)=>al.gG (r++u.map (·.1))=true/\K (put aj d v) (app u blk) (tr++[⟨r++u.map (·.1),u.map (·.1),[]⟩])
  |none=>False
 | .sc f vs=>al.holds (allow (S.ctx al) f vs blk)=true/\ ∃v ak,jd S f vs (allow (S.ctx al) f vs blk) blk v ak/\
   K (put aj d v) ak (tr++[⟨(allow (S.ctx al) f vs blk).ids,(allow (S.ctx al) f vs blk).ids,(allow (S.ctx al) f vs blk).fs⟩])
def DO(S:Sys)(al:Al)(w:Option Bool)(o:ch)(aj:Env)(blk:aB)(tr:List bX)(K:Env->aB->List bX->Prop):Prop:=
 match w with
 |none=>False
 |some false=>K (put aj o.dst .undef) blk (tr++[⟨[],[],[]⟩])
 |some true=>FW S al (bj S.shared aj blk o.op) o.dst aj blk tr K
@[simp] theorem Al.Fu (l:List Nat):Al.all.gG l=true:=by simp[Al.gG,Al.ok,Al.all]
@[simp] theorem Al.ar0 (b:Al):Al.all.holds b=true:=rfl
theorem afO{o:ch}{os:List ch}{R:Env->aB->List bX->Prop}{tr:List bX}
  (h:DO S al (wanted aj o.guard) o aj blk tr (WO S al os R)):WO S al (o::os) R aj blk tr:=by
 cases hw:wanted aj o.guard with
 |none=>simp[hw,DO] at h
 |some b=>
  cases b with
  |false=>rw[hw] at h;exact NP (n:=0) (by simp[step1,hw]) h
  |true=>
   rw[hw] at h;simp only[DO] at h;have eC:(S.ctx al).shared=S.shared:=rfl;have iK:(S.ctx al).al=al:=rfl;have fA:(S.ctx al).lone=S.lone:=rfl;cases bh:bj S.shared aj blk o.op with
   |fail=>simp[bh,FW] at h
   |done v u r=>rw[bh] at h;obtain⟨h1,h⟩:=h;exact NP (n:=0) (by simp only[step1,hw,eC,iK,bh,h1,if_true]) h
   |pc f vs r s=>
    rw[bh] at h;obtain⟨x,⟨n,hx⟩,h⟩:=h;cases hl:land blk r s (x.gV (S.lone s)) with
    |none=>simp[hl] at h
    |some y=>obtain⟨v,u⟩:=y;simp only[hl] at h;obtain⟨h1,h⟩:=h;exact NP (n:=n) (by simp only[step1,hw,eC,iK,fA,bh,hx,hl,h1,if_true]) h
   |sc f vs=>rw[bh] at h;obtain⟨h1,v,ak,⟨n,hx⟩,h⟩:=h;exact NP (n:=n) (by simp only[step1,hw,eC,iK,bh,h1,if_true,hx]) h
end
end Go.Abs
namespace Go.Abs
variable {S:Sys} {al:Al}
def qL(al:Al)(res:List (Nat×Option (Option Nat)))(R:V->aB->Prop):ef
 | .exit _,_,_=>False
 |_,aj,blk=>match oF al aj blk res with
  |some vs=>R (zY vs) blk
  |none=>False
theorem QK{fn:aX}{args:List V}{blk:aB}{R:V->aB->Prop}(h:W S al fn.body (qL al fn.results R) (sv args) blk):
  ∃n v ak,rq (S.ctx al) (js S n) (ia S n) n fn args blk=some (v,ak)/\R v ak:=by
 obtain⟨n,e,aE,ak,h1,h2⟩:=h;refine⟨n,?_⟩;unfold rq;rw[h1];cases e with
 |exit i=>exact h2.elim
 |normal=>
  simp only[qL] at h2;split at h2
  .rename_i vs hv;exact⟨_,_,by simp only[show(S.ctx al).al=al from rfl,hv,kX],h2⟩
  exact h2.elim
 |ret=>
  simp only[qL] at h2;split at h2
  .rename_i vs hv;exact⟨_,_,by simp only[show(S.ctx al).al=al from rfl,hv,kX],h2⟩
  exact h2.elim
theorem afE{f:Nat}{fn:aX}{args:List V}{r:RV}(hp:S.prim f args=none)(hf:S.fns f=some fn)(hl:args.length<=fn.ntmps)
  (h:W S .all fn.body (qL .all fn.results fun v blk=>kx blk v=some r) (sv args) A5):aH S f args r:=by
 obtain⟨n,v,ak,h1,h2⟩:=QK h;refine⟨n+1,?_⟩;rw[js];simp only[hp,hf,hl,if_true];unfold E0;rw[h1];exact h2
theorem oY{f:Nat}{fn:aX}{args:List V}{blk:aB}{R:V->aB->Prop}(hf:S.fns f=some fn)(hl:args.length<=fn.ntmps)
  (h:W S al fn.body (qL al fn.results R) (sv args) blk) (ht:S.trig f args=false:=by rfl):∃v ak,jd S f args al blk v ak/\R v ak:=by
 obtain⟨n,v,ak,h1,h2⟩:=QK h;refine⟨v,ak,⟨n+1,?_⟩,h2⟩;rw[ia];simp only[ht,eY,if_false,hf,hl,if_true];exact h1
end Go.Abs
namespace Go.Abs
variable {S:Sys} {al:Al} {Q:ef} {aj:Env} {blk:aB}
theorem W5:W S al .skip Q aj blk↔Q .normal aj blk:=⟨fun⟨_,_,_,_,h,q⟩=>by simp[exec] at h;obtain⟨rfl,rfl,rfl⟩:=h;exact q,af0⟩
theorem W2{id:Nat}:W S al (.exit id) Q aj blk↔Q (.exit id) aj blk:=⟨fun⟨_,_,_,_,h,q⟩=>by simp[exec] at h;obtain⟨rfl,rfl,rfl⟩:=h;exact q,afT⟩
theorem W4:W S al .ret Q aj blk↔Q .ret aj blk:=⟨fun⟨_,_,_,_,h,q⟩=>by simp[exec] at h;obtain⟨rfl,rfl,rfl⟩:=h;exact q,afW⟩
theorem afY{a b:aL}:W S al (.seq a b) Q aj blk↔W S al a (Nr (W S al b Q) Q) aj blk:=by
 refine⟨?_,afX⟩;rintro ⟨n,e,aE,ak,h,q⟩
 simp only[exec] at h;cases h1:exec (S.ctx al) (js S n) (ia S n) n a aj blk with
 |none=>simp[h1] at h
 |some x=>
  obtain⟨e1,iF,bc⟩:=x;refine⟨n,e1,iF,bc,h1,?_⟩;cases e1 with
  |normal=>simp only[h1] at h;exact⟨n,e,aE,ak,h,q⟩
  |exit i=>simp[h1] at h;obtain⟨rfl,rfl,rfl⟩:=h;exact q
  |ret=>simp[h1] at h;obtain⟨rfl,rfl,rfl⟩:=h;exact q
def HS(v:V)(A B:Prop):Prop:=
 match v with
 | .one (.p (.bool t))=>if t=true then A else B
 |_=>False
theorem afR{x:aP}{a b:aL}:W S al (.cond x a b) Q aj blk↔HS (ev aj x) (W S al a Q aj blk) (W S al b Q aj blk):=by
 constructor
 .rintro ⟨n,e,aE,ak,h,q⟩
  simp only[exec] at h;split at h
  .rename_i t ht;rw[ht];simp only[HS];cases t with
   |true=>exact⟨n,e,aE,ak,by simpa using h,q⟩
   |false=>exact⟨n,e,aE,ak,by simpa using h,q⟩
  cases h
 intro h;unfold HS at h;split at h
 .rename_i t ht;exact afQ ht h
 exact h.elim
theorem W1{id:Nat}{c:aL}:W S al (.block id c) Q aj blk↔W S al c (rG id Q) aj blk:=by
 refine⟨?_,afP⟩;rintro ⟨n,e,aE,ak,h,q⟩
 simp only[exec] at h;cases h1:exec (S.ctx al) (js S n) (ia S n) n c aj blk with
 |none=>simp[h1] at h
 |some x=>
  obtain⟨e1,iF,bc⟩:=x;refine⟨n,e1,iF,bc,h1,?_⟩;cases e1 with
  |normal=>simp[h1] at h;obtain⟨rfl,rfl,rfl⟩:=h;exact q
  |ret=>simp[h1] at h;obtain⟨rfl,rfl,rfl⟩:=h;exact q
  |exit i=>
   simp only[h1] at h;simp only[rG];split at h
   .rename_i hi;simp at h;obtain⟨rfl,rfl,rfl⟩:=h;rw[if_pos hi];exact q
   rename_i hi;simp at h;obtain⟨rfl,rfl,rfl⟩:=h;rw[if_neg hi];exact q
theorem QJ{R:Env->aB->List bX->Prop}{tr:List bX}:WO S al [] R aj blk tr↔R aj blk tr:=by
 refine⟨?_,afN⟩;rintro ⟨n,aE,ak,es,h,q⟩
 simp[steps] at h;obtain⟨rfl,rfl,rfl⟩:=h
 simpa using q
theorem NQ{o:ch}{os:List ch}{R:Env->aB->List bX->Prop}{tr:List bX}:
  WO S al (o::os) R aj blk tr↔DO S al (wanted aj o.guard) o aj blk tr (WO S al os R):=by
 refine⟨?_,afO⟩;rintro ⟨n,aE,ak,es,h,q⟩
 simp only[steps] at h;cases h1:step1 (S.ctx al) (js S n) (ia S n) o aj blk with
 |none=>simp[h1] at h
 |some x=>
  obtain⟨iF,bc,e⟩:=x;simp only[h1] at h;cases h2:steps (S.ctx al) (js S n) (ia S n) os iF bc with
  |none=>simp[h2] at h
  |some y=>
   obtain⟨cS,aT,es2⟩:=y;simp[h2] at h;obtain⟨rfl,rfl,rfl⟩:=h;have hk:WO S al os R iF bc (tr++[e]):=⟨n,_,_,es2,h2,by simpa using q⟩;unfold step1 at h1;cases hw:wanted aj o.guard with
   |none=>simp[hw] at h1
   |some b=>
    cases b with
    |false=>simp[hw] at h1;obtain⟨rfl,rfl,rfl⟩:=h1;exact hk
    |true=>
     simp only[hw] at h1;simp only[DO];have eC:(S.ctx al).shared=S.shared:=rfl;have iK:(S.ctx al).al=al:=rfl;have fA:(S.ctx al).lone=S.lone:=rfl;simp only[eC,iK,fA] at h1;cases bh:bj S.shared aj blk o.op with
     |fail=>simp[bh] at h1
     |done v u r=>
      simp only[bh] at h1;split at h1
      .rename_i ao;cases h1;exact⟨ao,hk⟩
      cases h1
     |pc f vs r s=>
      simp only[bh] at h1;cases hc:js S n f vs with
      |none=>simp[hc] at h1
      |some x=>
       simp only[hc] at h1;refine⟨x,⟨n,hc⟩,?_⟩;cases hl:land blk r s (x.gV (S.lone s)) with
       |none=>simp[hl] at h1
       |some y=>
        obtain⟨v,u⟩:=y;simp only[hl] at h1;split at h1
        .rename_i ao;cases h1;exact⟨ao,hk⟩
        cases h1
     |sc f vs=>
      simp only[bh] at h1;split at h1
      .rename_i ao;cases hc:ia S n f vs (allow (S.ctx al) f vs blk) blk with
       |none=>simp[hc] at h1
       |some x=>obtain⟨v,b⟩:=x;simp only[hc] at h1;cases h1;exact⟨ao,v,_,⟨n,hc⟩,hk⟩
      cases h1
theorem W3{d:Bool}{ops:List ch}:W S al (.region d ops) Q aj blk↔WO S al ops (fun aj blk es=>(d=true->te ops [] es=true)/\Q .normal aj blk) aj blk []:=by
 refine⟨?_,afV⟩;rintro ⟨n,e,aE,ak,h,q⟩
 simp only[exec] at h;cases h1:steps (S.ctx al) (js S n) (ia S n) ops aj blk with
 |none=>simp[h1] at h
 |some x=>
  obtain⟨iF,bc,es⟩:=x;simp only[h1] at h;cases d with
  |false=>simp at h;obtain⟨rfl,rfl,rfl⟩:=h;exact⟨n,_,_,es,h1,af,q⟩
  |true=>simp at h;obtain⟨hd,rfl,rfl,rfl⟩:=h;exact⟨n,_,_,es,h1,fun _=>by simpa using hd,q⟩
end Go.Abs
namespace Go.Abs
section
variable{v:Value}
inductive bU (w:World) (own:Nat->Prop):PV->Value->Prop where
 |bool (b:Bool):bU w own (.bool b) (.bool b)
 |int (k:IntKind) (n:Int):bU w own (.int k n) (.int k n)
 |str (s:ByteArray):bU w own (.str s) (.string s)
 |xg:bU w own .xg (.pointer none)
 |nils:bU w own .nils (.slice none 0 0)
 |rj:bU w own .rj (.map none)
 |vx:bU w own .vx .nilFunc
 |nili:bU w own .nili .nilIface
 |ifc (d:TypeId) (x:Value):bU w own .ifc (.iface d x)
 |zs (a:Option Addr):bU w own .zs (.slice a 0 0)
 |box {cs:List PV} (b o:Nat) (f:Nat->Value) (ho:cs≠[]-> ¬own b)
   (hc:∀(j:Nat) (x:PV),cs[j]?=some x->w.cell? ⟨b,o+j,none⟩=some (f j))
   (hr:∀(j:Nat) (x:PV),cs[j]?=some x->bU w own x (f j)):bU w own (.box cs) (.pointer (some ⟨b,o,none⟩))
 |xm (a:Option Addr) (cap:Nat) (hn:a=none->cap=0) (hm:cap<=maxLen):bU w own (.sl []) (.slice a 0 cap)
 |sl {es:List (List PV)} (b o cap sz:Nat) (f:Nat->Value) (ho:es.flatten≠[]-> ¬own b) (hl:es.length<=cap) (hm:cap<=maxLen) (hsz:∀e∈es,e.length=sz)
   (hc:∀(j:Nat) (x:PV),es.flatten[j]?=some x->w.cell? ⟨b,o+j,none⟩=some (f j))
   (hr:∀(j:Nat) (x:PV),es.flatten[j]?=some x->bU w own x (f j)):bU w own (.sl es) (.slice (some ⟨b,o,none⟩) es.length cap)
 |mp {ag:Bool} {es:List (PV×List PV)} (r:Nat) (ents:Array MapEntry) (clock:Nat) (g:Nat->Array Value) (ho:¬own r) (hb:w.heap[r]?=some (.map ents clock)) (hl:ents.size=es.length)
   (hk:∀(i:Nat) (q:PV) (v:List PV) (e:MapEntry),es[i]?=some (q,v)->ents[i]?=some e->bU w own q e.key)
   (hv:∀(i:Nat) (q:PV) (v:List PV) (e:MapEntry),es[i]?=some (q,v)->ents[i]?=some e->(g i).size=v.length/\(ag=true->e.val=.agg (g i))/\(ag=false-> #[e.val]=g i))
   (hr:∀(i:Nat) (q:PV) (v:List PV) (j:Nat) (x:PV) (u:Value),es[i]?=some (q,v)->v[j]?=some x->(g i)[j]?=some u->bU w own x u):bU w own (.mp ag es) (.map (some r))
 |fn {f:Nat} {a b:List PV} (A B:Array Value) (ha:A.size=a.length) (hb:B.size=b.length)
   (uL:∀(j:Nat) (x:PV) (u:Value),a[j]?=some x->A[j]?=some u->bU w own x u)
   (mL:∀(j:Nat) (x:PV) (u:Value),b[j]?=some x->B[j]?=some u->bU w own x u):bU w own (.fn f a b) (.func (.func f) A B)
theorem bU.MX{w:World}{own:Nat->Prop}{x:PV}(h:bU w own x v):v.oneCell'=true:=by cases h<;>rfl
theorem bU.cells{w:World}{own:Nat->Prop}{x:PV}(h:bU w own x v):v.cells= #[v]:=by cases h<;>rfl
theorem Q6{w:World}{b o:Nat}(h:w.cell? ⟨b,o,none⟩=some v):b<w.heap.size:=World.block_lt_of_cell? w ⟨b,o,none⟩ h
theorem uI{w:World}{b:Nat}{o:Obj}(h:w.heap[b]?=some o):b<w.heap.size:=(Array.getElem?_eq_some_iff.1 h).1
theorem bU.mono{w w':World}{own zP:Nat->Prop}(hk:∀c,c<w.heap.size-> ¬own c->w'.heap[c]?=w.heap[c]? /\ ¬zP c){x:PV}{v:Value}
  (h:bU w own x v):bU w' zP x v:=by
 induction h with
 |bool b=>exact .bool b
 |int k n=>exact .int k n
 |str s=>exact .str s
 |xg=>exact .xg
 |nils=>exact .nils
 |rj=>exact .rj
 |vx=>exact .vx
 |nili=>exact .nili
 |ifc d x=>exact .ifc d x
 |zs a=>exact .zs a
 | @box cs b o f ho hc _ ih=>
  cases cs with
  |nil=>exact .box b o f (fun h=>(h rfl).elim) (fun j x h=>by simp at h) (fun j x h=>by simp at h)
  |cons c r=>have hb:=Q6 (hc 0 c rfl);have hn:=ho af;refine .box b o f (fun _=>(hk b hb hn).2) (fun j x h=>?_) ih;rw[World.cell?_of_block (hk b hb hn).1];exact hc j x h
 |xm a cap hn hm=>exact .xm a cap hn hm
 | @sl es b o cap sz f ho hl hm hsz hc _ ih=>
  cases hf:es.flatten with
  |nil=>exact .sl b o cap sz f (fun h=>(h hf).elim) hl hm hsz (fun j x h=>by simp[hf] at h) (fun j x h=>by simp[hf] at h)
  |cons c r=>have hb:=Q6 (hc 0 c (by simp[hf]));have hn:=ho (by simp[hf]);refine .sl b o cap sz f (fun _=>(hk b hb hn).2) hl hm hsz (fun j x h=>?_) ih;rw[World.cell?_of_block (hk b hb hn).1];exact hc j x h
 | @mp ag es r ents clock g ho hb hl _ hv _ ihk ihr=>exact .mp r ents clock g (hk r (uI hb) ho).2 ((hk r (uI hb) ho).1.trans hb) hl ihk hv ihr
 |fn A B ha hb _ _ iha ihb=>exact .fn A B ha hb iha ihb
structure Mem where
 w:World
 blk:aB
 σ:Nat->Nat
 κ:Nat->Nat
 fr:Nat->Prop
def Ob.fD:Ob->Bool
 | .var _| .arr _ _ _| .iT _ _ _| .map _ _=>true
 |_=>false
def kz:Nat×Option Ob->Option Nat
 |(_,some (.arr _ sz _))=>some sz
 |(_,some (.iT _ sz _))=>some sz
 |(_,some (.pG _ sz _))=>some sz
 |_=>none
def Mem.fD(m:Mem)(c:Nat):Prop:= ∃id o,(m.blk id).2=some o/\o.fD=true/\m.σ id=c
def Mem.own(m:Mem)(c:Nat):Prop:=m.fr c\/m.fD c
inductive cN (m:Mem):C->Value->Prop where
 |p {x:PV} {v:Value} (h:bU m.w m.own x v):cN m (.p x) v
 |bt {id g off:Nat} (a:Addr) (hg:g<=(m.blk id).1) (h:(m.blk id).1=g->(m.blk id).2.isSome=true->a=⟨m.σ id,off,none⟩):cN m (.bt id g off) (.pointer (some a))
 |di {id g i off:Nat} (a:Addr) (hg:g<=(m.blk id).1) (h:∀sz,(m.blk id).1=g->kz (m.blk id)=some sz->a=⟨m.σ id,i*sz+off,none⟩):cN m (.di id g i off) (.pointer (some a))
 |hsl {id g z off len:Nat} (a:Addr) (cap:Nat) (hg:g<=(m.blk id).1) (hl:len<=cap) (hm:cap<=maxLen)
   (h:∀sz,(m.blk id).1=g->kz (m.blk id)=some sz->sz=z/\(off=0\/0<len->a=⟨m.σ id,off*sz,none⟩)/\off+cap=m.κ id):
   cN m (.hsl id g z off len) (.slice (some a) len cap)
 |k9 {id g:Nat} (r:Nat) (hg:g<=(m.blk id).1) (h:(m.blk id).1=g->(m.blk id).2.isSome=true->r=m.σ id):cN m (.k9 id g) (.map (some r))
 |hfn {f:Nat} {a b:List C} (A B:Array Value) (ha:A.size=a.length) (hb:B.size=b.length)
   (uL:∀(j:Nat) (x:C) (u:Value),a[j]?=some x->A[j]?=some u->cN m x u)
   (mL:∀(j:Nat) (x:C) (u:Value),b[j]?=some x->B[j]?=some u->cN m x u):cN m (.hfn f a b) (.func (.func f) A B)
theorem cN.MX{m:Mem}{x:C}(h:cN m x v):v.oneCell'=true:=by
 cases h with
 |p h=>exact h.MX
 |_=>rfl
theorem cN.cells{m:Mem}{x:C}(h:cN m x v):v.cells= #[v]:=by
 cases h with
 |p h=>exact h.cells
 |_=>rfl
def df(m:Mem)(cs:List C)(vs:List Value):Prop:=vs.length=cs.length/\ ∀(j:Nat) (x:C) (u:Value),cs[j]?=some x->vs[j]?=some u->cN m x u
def cX(w:World)(own:Nat->Prop)(cs:List PV)(vs:List Value):Prop:=vs.length=cs.length/\ ∀(j:Nat) (x:PV) (u:Value),cs[j]?=some x->vs[j]?=some u->bU w own x u
def n0(m:Mem):V->Value->Prop
 | .undef,v=>v=undef
 | .one c,v=>cN m c v
 | .agg cs,v=>∃arr,v=.agg arr/\df m cs arr.toList
 | .tup _,_=>False
def bN(m:Mem):V->Value->Prop
 | .tup vs,v=>∃arr,v=.tuple arr/\arr.size=vs.length/\ ∀(j:Nat) (x:V) (u:Value),vs[j]?=some x->arr[j]?=some u->n0 m x u
 |x,v=>n0 m x v
def sJ(m:Mem)(id:Nat):Ob->Prop
 | .var cs=>∃cur ty,m.w.heap[m.σ id]?=some (.cells cur ty (0,0))/\df m cs cur.toList
 | .fvar cs=>∃cur ty fz,m.w.heap[m.σ id]?=some (.cells cur ty fz)/\cX m.w m.own cs cur.toList/\ ¬m.own (m.σ id)
 | .arr ty sz es=>∃cur,m.w.heap[m.σ id]?=some (.cells cur ty (0,0))/\0<sz/\(∀e∈es,e.length=sz)/\es.length<=m.κ id/\m.κ id<=maxLen/\cur.size=m.κ id*sz/\
   cX m.w m.own es.flatten (cur.toList.take (es.length*sz))
 | .pG ty sz es=>∃cur fz,m.w.heap[m.σ id]?=some (.cells cur ty fz)/\0<sz/\(∀e∈es,e.length=sz)/\es.length<=m.κ id/\m.κ id<=maxLen/\cur.size=m.κ id*sz/\
   cX m.w m.own es.flatten (cur.toList.take (es.length*sz))/\ ¬m.own (m.σ id)
 | .iT ty sz es=>∃cur,m.w.heap[m.σ id]?=some (.cells cur ty (0,0))/\0<sz/\(∀e∈es,e.length=sz)/\es.length<=m.κ id/\m.κ id<=maxLen/\cur.size=m.κ id*sz/\
   df m es.flatten (cur.toList.take (es.length*sz))
 | .map ag es=>∃ents clock,m.w.heap[m.σ id]?=some (.map ents clock)/\ents.size=es.length/\
   ∀(i:Nat) (q:PV) (v:List PV) (e:MapEntry),es[i]?=some (q,v)->ents[i]?=some e->bU m.w m.own q e.key/\ ∃g:Array Value,(ag=true->e.val=.agg g)/\(ag=false-> #[e.val]=g)/\cX m.w m.own v g.toList
 | .fmap ag es=>∃ents clock,m.w.heap[m.σ id]?=some (.map ents clock)/\ents.size=es.length/\
   (∀(i:Nat) (q:PV) (v:List PV) (e:MapEntry),es[i]?=some (q,v)->ents[i]?=some e->bU m.w m.own q e.key/\ ∃g:Array Value,(ag=true->e.val=.agg g)/\(ag=false-> #[e.val]=g)/\cX m.w m.own v g.toList)/\ ¬m.own (m.σ id)
structure Ok (w0:World) (m:Mem):Prop where
 os:m.w.os=w0.os
 tape:m.w.tape=w0.tape
 output:m.w.output=w0.output
 size:w0.heap.size<=m.w.heap.size
 base:∀c,c<w0.heap.size->m.w.heap[c]?=w0.heap[c]?
 obj:∀id o,(m.blk id).2=some o->sJ m id o
 ek:∀id o,(m.blk id).2=some o->o.fD=true->w0.heap.size<=m.σ id/\ ¬m.fr (m.σ id)
 frlt:∀c,m.fr c->c<m.w.heap.size
 inj:∀id eV o o',(m.blk id).2=some o->o.fD=true->(m.blk eV).2=some o'->o'.fD=true->m.σ id=m.σ eV->id=eV
structure Ev (m m':Mem):Prop where
 os:m'.w.os=m.w.os
 tape:m'.w.tape=m.w.tape
 output:m'.w.output=m.w.output
 size:m.w.heap.size<=m'.w.heap.size
 keep:∀c,c<m.w.heap.size-> ¬m.fD c->m'.w.heap[c]?=m.w.heap[c]?
 fD:∀c,c<m.w.heap.size->m'.fD c->m.fD c
 less:∀c,c<m.w.heap.size-> ¬m.own c-> ¬m'.own c
 gen:∀id,(m.blk id).1<=(m'.blk id).1
 ref:∀id,(m'.blk id).1=(m.blk id).1->(m'.blk id).2.isSome=true->(m.blk id).2.isSome=true/\m'.σ id=m.σ id/\m'.κ id=m.κ id/\kz (m'.blk id)=kz (m.blk id)
theorem Ev.refl(m:Mem):Ev m m:=⟨rfl,rfl,rfl,aZ _,fun _ _ _=>rfl,fun _ _ h=>h,fun _ _ h=>h,fun _=>aZ _,fun _ _ h=>⟨h,rfl,rfl,rfl⟩⟩
theorem Ev.trans{a b c:Mem}(h:Ev a b)(k:Ev b c):Ev a c where
 os:=k.os.trans h.os
 tape:=k.tape.trans h.tape
 output:=k.output.trans h.output
 size:=mU h.size k.size
 keep x hx hm:=(k.keep x (Dm hx h.size) fun hb=>hm (h.fD x hx hb)).trans (h.keep x hx hm)
 fD x hx hm:=h.fD x hx (k.fD x (Dm hx h.size) hm)
 less x hx hn:=k.less x (Dm hx h.size) (h.less x hx hn)
 gen id:=mU (h.gen id) (k.gen id)
 ref id he hs:=by have h1:=h.gen id;have h2:=k.gen id;obtain⟨s1,e1,e2,e3⟩:=k.ref id aa hs;obtain⟨s2,f1,f2,f3⟩:=h.ref id aa s1;exact⟨s2,e1.trans f1,e2.trans f2,e3.trans f3⟩
theorem Ev.own{m m':Mem}(h:Ev m m'):∀c,c<m.w.heap.size-> ¬m.own c->m'.w.heap[c]?=m.w.heap[c]? /\ ¬m'.own c:=fun c hc hn=>⟨h.keep c hc fun hm=>hn (.inr hm),h.less c hc hn⟩
theorem aeR{x:Nat×Option Ob}{sz:Nat}(h:kz x=some sz):x.2.isSome=true:=by
 obtain⟨g,o⟩:=x;cases o with
 |none=>simp[kz] at h
 |some o=>rfl
structure uw (m m':Mem):Prop where
 own:∀c,c<m.w.heap.size-> ¬m.own c->m'.w.heap[c]?=m.w.heap[c]? /\ ¬m'.own c
 gen:∀id,(m.blk id).1<=(m'.blk id).1
 ref:∀id,(m'.blk id).1=(m.blk id).1->(m'.blk id).2.isSome=true->(m.blk id).2.isSome=true/\m'.σ id=m.σ id/\m'.κ id=m.κ id/\kz (m'.blk id)=kz (m.blk id)
theorem Ev.zero{m m':Mem}(h:Ev m m'):uw m m':=⟨h.own,h.gen,h.ref⟩
theorem bU.ev{m m':Mem}(h:uw m m'){x:PV}(hr:bU m.w m.own x v):bU m'.w m'.own x v:=hr.mono h.own
theorem cN.ev{m m':Mem}(h:uw m m'){x:C}(hr:cN m x v):cN m' x v:=by
 induction hr with
 |p hp=>exact .p (hp.ev h)
 | @bt id g off a hg ha=>have Ug:=h.gen id;refine .bt a aa fun Ch hs=>?_;obtain⟨s,e1,_,_⟩:=h.ref id aa hs;rw[e1];exact ha aa s
 | @di id g i off a hg ha=>have Ug:=h.gen id;refine .di a aa fun sz Ch hs=>?_;obtain⟨s,e1,_,e3⟩:=h.ref id aa (aeR hs);rw[e1];exact ha sz aa (e3▸hs)
 | @hsl id g z off len a cap hg hl hm ha=>have Ug:=h.gen id;refine .hsl a cap aa hl hm fun sz Ch hs=>?_;obtain⟨s,e1,e2,e3⟩:=h.ref id aa (aeR hs);rw[e1,e2];exact ha sz aa (e3▸hs)
 | @k9 id g r hg hr=>have Ug:=h.gen id;refine .k9 r aa fun Ch hs=>?_;obtain⟨s,e1,_,_⟩:=h.ref id aa hs;rw[e1];exact hr aa s
 |hfn A B ha hb _ _ iha ihb=>exact .hfn A B ha hb iha ihb
theorem df.ev{m m':Mem}(h:uw m m'){cs:List C}{vs:List Value}(hr:df m cs vs):df m' cs vs:=⟨hr.1,fun j x u a b=>(hr.2 j x u a b).ev h⟩
theorem cX.mono{w w':World}{own zP:Nat->Prop}(hk:∀c,c<w.heap.size-> ¬own c->w'.heap[c]?=w.heap[c]? /\ ¬zP c){cs:List PV}{vs:List Value}
  (hr:cX w own cs vs):cX w' zP cs vs:=⟨hr.1,fun j x u a b=>(hr.2 j x u a b).mono hk⟩
theorem cX.ev{m m':Mem}(h:uw m m'){cs:List PV}{vs:List Value}(hr:cX m.w m.own cs vs):cX m'.w m'.own cs vs:=hr.mono h.own
theorem n0.ev{m m':Mem}(h:uw m m'){x:V}(hr:n0 m x v):n0 m' x v:=by
 cases x with
 |undef=>exact hr
 |one c=>exact cN.ev h hr
 |agg cs=>obtain⟨arr,e,hc⟩:=hr;exact⟨arr,e,hc.ev h⟩
 |tup vs=>exact hr.elim
theorem bN.ev{m m':Mem}(h:uw m m'){x:V}(hr:bN m x v):bN m' x v:=by
 cases x with
 |tup vs=>obtain⟨arr,e,hs,hc⟩:=hr;exact⟨arr,e,hs,fun j x u a b=>(hc j x u a b).ev h⟩
 |undef=>exact n0.ev (x:=.undef) h hr
 |one c=>exact n0.ev (x:=.one c) h hr
 |agg cs=>exact n0.ev (x:=.agg cs) h hr
theorem sJ.ev{m m':Mem}(h:uw m m'){id:Nat}{o:Ob}(hs:m'.σ id=m.σ id)(hk:m'.κ id=m.κ id)(hh:m'.w.heap[m.σ id]?=m.w.heap[m.σ id]?)
  (hr:sJ m id o):sJ m' id o:=by
 cases o with
 |var cs=>obtain⟨cur,ty,a,b⟩:=hr;exact⟨cur,ty,by rw[hs,hh];exact a,b.ev h⟩
 |fvar cs=>obtain⟨cur,ty,fz,a,b,c⟩:=hr;exact⟨cur,ty,fz,by rw[hs,hh];exact a,b.ev h,by rw[hs];exact(h.own _ (uI a) c).2⟩
 |arr ty sz es=>obtain⟨cur,a,b,c,d,e,f,g⟩:=hr;exact⟨cur,by rw[hs,hh];exact a,b,c,by rw[hk];exact d,by rw[hk];exact e,by rw[hk];exact f,g.ev h⟩
 |pG ty sz es=>obtain⟨cur,fz,a,b,c,d,e,f,g,i⟩:=hr;exact⟨cur,fz,by rw[hs,hh];exact a,b,c,by rw[hk];exact d,by rw[hk];exact e,by rw[hk];exact f,g.ev h,by rw[hs];exact(h.own _ (uI a) i).2⟩
 |iT ty sz es=>obtain⟨cur,a,b,c,d,e,f,g⟩:=hr;exact⟨cur,by rw[hs,hh];exact a,b,c,by rw[hk];exact d,by rw[hk];exact e,by rw[hk];exact f,g.ev h⟩
 |map ag es=>obtain⟨ents,clock,a,b,c⟩:=hr;exact⟨ents,clock,by rw[hs,hh];exact a,b,fun i q v e x y=>let ⟨p,g,g1,g2,g3⟩:=c i q v e x y;⟨p.ev h,g,g1,g2,g3.ev h⟩⟩
 |fmap ag es=>obtain⟨ents,clock,a,b,c,d⟩:=hr;exact⟨ents,clock,by rw[hs,hh];exact a,b,fun i q v e x y=>let ⟨p,g,g1,g2,g3⟩:=c i q v e x y;⟨p.ev h,g,g1,g2,g3.ev h⟩,by rw[hs];exact(h.own _ (uI a) d).2⟩
theorem sJ.lt{m:Mem}{id:Nat}{o:Ob}(hr:sJ m id o):m.σ id<m.w.heap.size:=by
 cases o with
 |var cs=>obtain⟨cur,ty,a,_⟩:=hr;exact uI a
 |fvar cs=>obtain⟨cur,ty,fz,a,_⟩:=hr;exact uI a
 |arr ty sz es=>obtain⟨cur,a,_⟩:=hr;exact uI a
 |pG ty sz es=>obtain⟨cur,fz,a,_⟩:=hr;exact uI a
 |iT ty sz es=>obtain⟨cur,a,_⟩:=hr;exact uI a
 |map ag es=>obtain⟨ents,clock,a,_⟩:=hr;exact uI a
 |fmap ag es=>obtain⟨ents,clock,a,_⟩:=hr;exact uI a
theorem sJ.calm{m:Mem}{id:Nat}{o:Ob}(hr:sJ m id o)(ho:o.fD=false):¬m.own (m.σ id):=by
 cases o with
 |fvar cs=>obtain⟨cur,ty,fz,_,_,c⟩:=hr;exact c
 |pG ty sz es=>obtain⟨cur,fz,_,_,_,_,_,_,_,c⟩:=hr;exact c
 |fmap ag es=>obtain⟨_,_,_,_,_,c⟩:=hr;exact c
 |_=>simp[Ob.fD] at ho
end
end Go.Abs
namespace Go.Abs
variable {w0:World}
section
variable{m:Mem}
structure fm (w w':World):Prop where
 os:w'.os=w.os
 tape:w'.tape=w.tape
 output:w'.output=w.output
 size:w.heap.size<=w'.heap.size
 keep:∀c,c<w.heap.size->w'.heap[c]?=w.heap[c]?
theorem fm.refl(w:World):fm w w:=⟨rfl,rfl,rfl,aZ _,fun _ _=>rfl⟩
theorem fm.trans{a b c:World}(h:fm a b)(k:fm b c):fm a c:=
 ⟨k.os.trans h.os,k.tape.trans h.tape,k.output.trans h.output,mU h.size k.size,fun x hx=>(k.keep x (Dm hx h.size)).trans (h.keep x hx)⟩
theorem fm.alloc(w:World)(o:Obj):fm w (w.alloc o):=⟨rfl,rfl,rfl,af,fun _ hc=>heap_alloc_old w o hc⟩
theorem fm.drew(w:World):fm w w.drew:=⟨rfl,rfl,rfl,aZ _,fun _ _=>rfl⟩
def Mem.later(m:Mem)(w':World)(X:Nat->Prop):Mem:={m with w:=w',fr:=fun c=>m.fr c\/X c}
theorem abS{w':World}{X:Nat->Prop}{c:Nat}:(m.later w' X).own c↔m.own c\/X c:=by
 unfold Mem.own Mem.fD Mem.later;constructor
 .rintro ((h|h)|h)
  .exact .inl (.inl h)
  .exact .inr h
  exact .inl (.inr h)
 rintro ((h|h)|h)
 .exact .inl (.inl h)
 .exact .inr h
 exact .inl (.inr h)
theorem Gy{w':World}{X:Nat->Prop}(hg:fm m.w w')(hX:∀c,X c->m.w.heap.size<=c):Ev m (m.later w' X) where
 os:=hg.os
 tape:=hg.tape
 output:=hg.output
 size:=hg.size
 keep c hc _:=hg.keep c hc
 fD c _ h:=h
 less c hc hn h:=by
  rcases abS.1 h with h|h
  .exact hn h
  have:=hX c h;omega
 gen _:=aZ _
 ref _ _ hs:=⟨hs,rfl,rfl,rfl⟩
theorem Jl{w':World}{X:Nat->Prop}(h:Ok w0 m)(hg:fm m.w w')(hX:∀c,X c->m.w.heap.size<=c/\c<w'.heap.size):Ok w0 (m.later w' X) where
 os:=hg.os.trans h.os
 tape:=hg.tape.trans h.tape
 output:=hg.output.trans h.output
 size:=mU h.size hg.size
 base c hc:=(hg.keep c (Dm hc h.size)).trans (h.base c hc)
 obj id o ho:=(h.obj id o ho).ev (Gy hg fun c hc=>(hX c hc).1).zero rfl rfl (hg.keep _ (h.obj id o ho).lt)
 ek id o ho hm:=by
  refine⟨(h.ek id o ho hm).1,?_⟩;rintro (hf|hx)
  .exact(h.ek id o ho hm).2 hf
  have h1:=(hX _ hx).1;have h2:=(h.obj id o ho).lt;simp only[Mem.later] at h1;omega
 frlt c hc:=by
  rcases hc with hf|hx
  .exact Dm (h.frlt c hf) hg.size
  exact(hX c hx).2
 inj:=h.inj
def Mem.install(m:Mem)(s c k:Nat)(o:Ob):Mem:=⟨m.w,cZ m.blk s ((m.blk s).1+1,some o),cZ m.σ s c,cZ m.κ s k,fun x=>m.fr x/\x≠c⟩
theorem abD{s c k:Nat}{o:Ob}{x:Nat}(h:(m.install s c k o).fD x):x=c\/m.fD x:=by
 obtain⟨id,o',ho,hm,hx⟩:=h;simp only[Mem.install,aS] at ho hx;by_cases hid:id=s
 .simp only[hid,if_true] at hx;exact .inl hx.symm
 simp only[hid,if_false] at ho hx;exact .inr ⟨id,o',ho,hm,hx⟩
theorem Pd{s c k:Nat}{o:Ob}(hc:m.fr c){x:Nat}(h:(m.install s c k o).own x):m.own x:=by
 rcases h with h|h
 .exact .inl h.1
 rcases abD h with rfl|h
 .exact .inl hc
 exact .inr h
theorem Pa{m1:Mem}{s c k:Nat}{o:Ob}(h:Ev m m1)(hc:m1.fr c)(hn:m.w.heap.size<=c\/m.fD c):Ev m (m1.install s c k o) where
 os:=h.os
 tape:=h.tape
 output:=h.output
 size:=h.size
 keep:=h.keep
 fD x hx hm:=by
  rcases abD hm with rfl|hm
  .rcases hn with hn|hn
   .omega
   exact hn
  exact h.fD x hx hm
 less x hx dF hm:=h.less x hx dF (Pd hc hm)
 gen id:=by
  simp only[Mem.install,aS];have:=h.gen id;split
  .rename_i e;subst e;simp only;omega
  exact this
 ref id he hs:=by
  have hg:=h.gen id;simp only[Mem.install,aS] at he hs ⊢;by_cases hid:id=s
  .subst hid;simp only[if_true] at he;omega
  simp only[hid,if_false] at he hs ⊢;exact h.ref id he hs
theorem Pb{s c k:Nat}{o:Ob}(h:Ok w0 m)(hc:m.fr c)(fA:w0.heap.size<=c)(ho:sJ (m.install s c k o) s o):Ok w0 (m.install s c k o):=by
 have hk:∀x,x<m.w.heap.size-> ¬m.own x->(m.install s c k o).w.heap[x]?=m.w.heap[x]? /\ ¬(m.install s c k o).own x:=fun x _ hn=>⟨rfl,fun h=>hn (Pd hc h)⟩
 have dD:uw m (m.install s c k o):=by
  refine⟨hk,fun id=>?_,fun id he hs=>?_⟩
  .simp only[Mem.install,aS];split
   .rename_i e;subst e;simp only;omega
   exact aZ _
  simp only[Mem.install,aS] at he hs ⊢;by_cases hid:id=s
  .subst hid;simp only[if_true] at he;omega
  simp only[hid,if_false] at he hs ⊢;exact⟨hs,trivial,trivial,trivial⟩
 exact {
  os:=h.os
  tape:=h.tape
  output:=h.output
  size:=h.size
  base:=h.base
  obj:=by
   intro id o' lD;by_cases hid:id=s
   .subst hid;simp only[Mem.install,aS,if_true,fg] at lD;exact lD▸ho
   have hs:(m.install s c k o).σ id=m.σ id:=by simp[Mem.install,aS,hid]
   have vg:(m.install s c k o).κ id=m.κ id:=by simp[Mem.install,aS,hid]
   simp only[Mem.install,aS,hid,if_false] at lD;exact(h.obj id o' lD).ev dD hs vg rfl
  ek:=by
   intro id o' lD hm;by_cases hid:id=s
   .subst hid;simp only[Mem.install,aS,if_true];exact⟨fA,fun h=>h.2 rfl⟩
   simp only[Mem.install,aS,hid,if_false] at lD ⊢;exact⟨(h.ek id o' lD hm).1,fun hf=>(h.ek id o' lD hm).2 hf.1⟩
  frlt:=fun x hx=>h.frlt x hx.1
  inj:=by
   intro id eV o1 o2 h1 m1 h2 m2 he;by_cases hid:id=s<;>by_cases tU:eV=s
   .rw[hid,tU]
   .subst hid;simp only[Mem.install,aS,tU,if_true,if_false] at h2 he;exact((h.ek eV o2 h2 m2).2 (he▸hc)).elim
   .subst tU;simp only[Mem.install,aS,hid,if_true,if_false] at h1 he;exact((h.ek id o1 h1 m1).2 (he.symm▸hc)).elim
   simp only[Mem.install,aS,hid,tU,if_false] at h1 h2 he;exact h.inj id eV o1 o2 h1 m1 h2 m2 he}
def Mem.ie(m:Mem)(id:Nat):Mem:=⟨m.w,cZ m.blk id ((m.blk id).1,none),m.σ,m.κ,fun c=>m.fr c\/c=m.σ id⟩
theorem aiw{id:Nat}{o:Ob}(ho:(m.blk id).2=some o)(hm:o.fD=true){x:Nat}(h:(m.ie id).own x):m.own x:=by
 rcases h with (h|h)|⟨eV,o',h1,h2,h3⟩
 .exact .inl h
 .exact .inr ⟨id,o,ho,hm,h.symm⟩
 simp only[Mem.ie,aS] at h1 h3;by_cases hid:eV=id
 .simp[hid] at h1
 simp only[hid,if_false] at h1;exact .inr ⟨eV,o',h1,h2,h3⟩
theorem FK{id:Nat}{o:Ob}(ho:(m.blk id).2=some o)(hm:o.fD=true):Ev m (m.ie id) where
 os:=rfl
 tape:=rfl
 output:=rfl
 size:=aZ _
 keep _ _ _:=rfl
 fD x _ h:=by
  obtain⟨eV,o',h1,h2,h3⟩:=h;simp only[Mem.ie,aS] at h1 h3;by_cases hid:eV=id
  .simp[hid] at h1
  simp only[hid,if_false] at h1;exact⟨eV,o',h1,h2,h3⟩
 less x _ hn h:=hn (aiw ho hm h)
 gen eV:=by
  simp only[Mem.ie,aS];split
  .rename_i e;subst e;exact aZ _
  exact aZ _
 ref eV he hs:=by
  simp only[Mem.ie,aS] at he hs ⊢;by_cases hid:eV=id
  .simp[hid] at hs
  simp only[hid,if_false] at he hs ⊢;exact⟨hs,trivial,trivial,trivial⟩
theorem RP{id:Nat}{o:Ob}(h:Ok w0 m)(ho:(m.blk id).2=some o)(hm:o.fD=true):Ok w0 (m.ie id) where
 os:=h.os
 tape:=h.tape
 output:=h.output
 size:=h.size
 base:=h.base
 obj eV o' h1:=by
  simp only[Mem.ie,aS] at h1;by_cases hid:eV=id
  .simp[hid] at h1
  simp only[hid,if_false] at h1;exact(h.obj eV o' h1).ev (FK ho hm).zero rfl rfl rfl
 ek eV o' h1 h2:=by
  simp only[Mem.ie,aS] at h1 ⊢;by_cases hid:eV=id
  .simp[hid] at h1
  simp only[hid,if_false] at h1;refine⟨(h.ek eV o' h1 h2).1,?_⟩;rintro (hf|hf)
  .exact(h.ek eV o' h1 h2).2 hf
  exact hid (h.inj eV id o' o h1 h2 ho hm hf)
 frlt c hc:=by
  rcases hc with hf|rfl
  .exact h.frlt c hf
  exact(h.obj id o ho).lt
 inj Jb Jc o1 o2 h1 m1 h2 m2 he:=by
  simp only[Mem.ie,aS] at h1 h2 he;by_cases hid:Jb=id
  .simp[hid] at h1
  by_cases tU:Jc=id
  .simp[tU] at h2
  simp only[hid,tU,if_false] at h1 h2;exact h.inj Jb Jc o1 o2 h1 m1 h2 m2 he
def Mem.jl(m:Mem)(w':World)(id:Nat)(o:Ob):Mem:=⟨w',cZ m.blk id ((m.blk id).1,some o),m.σ,m.κ,m.fr⟩
section
variable {m:Mem} {w':World} {id:Nat} {o old:Ob} (ho:(m.blk id).2=some old) (hm:old.fD=true)
include ho hm
theorem ao4{x:Nat}(h:(m.jl w' id o).own x):m.own x:=by
 rcases h with h|⟨eV,o',h1,h2,h3⟩
 .exact .inl h
 simp only[Mem.jl,aS] at h1 h3;by_cases hid:eV=id
 .exact .inr ⟨id,old,ho,hm,hid▸h3⟩
 simp only[hid,if_false] at h1;exact .inr ⟨eV,o',h1,h2,h3⟩
theorem JR(hsz:kz ((m.blk id).1,some o)=kz ((m.blk id).1,some old))(vk:w'.os=m.w.os)(ht:w'.tape=m.w.tape)(l9:w'.output=m.w.output)(hs:w'.heap.size=m.w.heap.size)
  (hk:∀c,c≠m.σ id->w'.heap[c]?=m.w.heap[c]?):Ev m (m.jl w' id o) where
 os:=vk
 tape:=ht
 output:=l9
 size:=Bu hs.symm
 keep c _ hn:=hk c fun e=>hn ⟨id,old,ho,hm,e.symm⟩
 fD x _ h:=by
  obtain⟨eV,o',h1,h2,h3⟩:=h;simp only[Mem.jl,aS] at h1 h3;by_cases hid:eV=id
  .exact⟨id,old,ho,hm,hid▸h3⟩
  simp only[hid,if_false] at h1;exact⟨eV,o',h1,h2,h3⟩
 less x _ hn h:=hn (ao4 ho hm h)
 gen eV:=by
  simp only[Mem.jl,aS];split
  .rename_i e;subst e;exact aZ _
  exact aZ _
 ref eV he hss:=by
  simp only[Mem.jl,aS] at he hss ⊢;by_cases hid:eV=id
  .subst hid;refine⟨by simp[ho],trivial,trivial,?_⟩;simp only[if_true];rw[hsz,<- ho]
  simp only[hid,if_false] at he hss ⊢;exact⟨hss,trivial,trivial,trivial⟩
theorem Nh(h:Ok w0 m)(hsz:kz ((m.blk id).1,some o)=kz ((m.blk id).1,some old))(vk:w'.os=m.w.os)(ht:w'.tape=m.w.tape)(l9:w'.output=m.w.output)(hs:w'.heap.size=m.w.heap.size)
  (hk:∀c,c≠m.σ id->w'.heap[c]?=m.w.heap[c]?) (zE:sJ (m.jl w' id o) id o):Ok w0 (m.jl w' id o) where
 os:=vk.trans h.os
 tape:=ht.trans h.tape
 output:=l9.trans h.output
 size:=mU h.size (Bu hs.symm)
 base c hc:=by have:=(h.ek id old ho hm).1;exact(hk c aa).trans (h.base c hc)
 obj eV o' h1:=by
  simp only[Mem.jl,aS] at h1;by_cases hid:eV=id
  .subst hid;simp only[if_true,fg] at h1;exact h1▸zE
  simp only[hid,if_false] at h1;refine(h.obj eV o' h1).ev (JR ho hm hsz vk ht l9 hs hk).zero rfl rfl (hk _ fun e=>?_);cases AL:o'.fD with
  |true=>exact hid (h.inj eV id o' old h1 AL ho hm e)
  |false=>exact(h.obj eV o' h1).calm AL (.inr ⟨id,old,ho,hm,e.symm⟩)
 ek eV o' h1 h2:=by
  simp only[Mem.jl,aS] at h1 ⊢;by_cases hid:eV=id
  .subst hid;exact h.ek eV old ho hm
  simp only[hid,if_false] at h1;exact h.ek eV o' h1 h2
 frlt c hc:=by rw[show(m.jl w' id o).w.heap.size=m.w.heap.size from hs];exact h.frlt c hc
 inj Jb Jc o1 o2 h1 m1 h2 m2 he:=by
  simp only[Mem.jl,aS] at h1 h2 he;by_cases hid:Jb=id<;>by_cases tU:Jc=id
  .rw[hid,tU]
  .simp only[tU,if_false] at h2;exact hid▸h.inj id Jc old o2 ho hm h2 m2 (hid▸he)
  .simp only[hid,if_false] at h1;exact tU▸h.inj Jb id o1 old h1 m1 ho hm (tU▸he)
  simp only[hid,tU,if_false] at h1 h2;exact h.inj Jb Jc o1 o2 h1 m1 h2 m2 he
end
end
end Go.Abs
namespace Go.Abs
def KP:Value->Option PV
 | .bool b=>some (.bool b)
 | .int k n=>some (.int k n)
 | .string s=>some (.str s)
 | .pointer none=>some .xg
 | .slice none 0 0=>some .nils
 | .map none=>some .rj
 | .nilFunc=>some .vx
 | .nilIface=>some .nili
 |_=>none
def HT:List Value->Option (List PV)
 |[]=>some []
 |v::r=>match KP v,HT r with
  |some x,some xs=>some (x::xs)
  |_,_=>none
def Rj:Value->Option V
 | .agg cs=>(HT cs.toList).map fun l=>.agg (l.map .p)
 |v=>(KP v).map fun x=>.one (.p x)
def cn:Operand->Option aP
 | .tmp t=>some (.t t)
 | .const (.int .i64 n)=>some (.i n)
 | .const (.bool b)=>some (.b b)
 | .const v=>(Rj v).map .k
 | .func f=>some (.k (.one (.p (.fn f [] []))))
 | .global _=>none
def qe:List Operand->Option (List aP)
 |[]=>some []
 |a::r=>match cn a,qe r with
  |some x,some xs=>some (x::xs)
  |_,_=>none
def xF:Option Operand->Option (Option aP)
 |none=>some none
 |some a=>(cn a).map some
def Ac(P:Program)(t:TypeId):Option (List PV):=
 match P.info? t with
 |some i=>match i.zero with
  |some (.agg cs)=>if cs.size=i.size then HT cs.toList else none
  |some v=>if i.size=1 then (KP v).map fun x=>[x] else none
  |none=>none
 |none=>none
def re(P:Program)(t:TypeId):Option (Option Nat):=
 match P.underlying t,P.info? t with
 |some (.struct _),some i=>some (some i.size)
 |some (.array _ _),some i=>some (some i.size)
 |some _,some i=>if i.size=1 then some none else none
 |_,_=>none
def xl(P:Program)(t:TypeId):Option Nat:=(P.info? t).map (·.size)
def CL(place:Nat->Option (Nat×Nat))(zl:Nat):List (Nat×Operand)->Option (List (Nat×Nat×aP))
 |[]=>some []
 |(i,x)::r=>match place i,cn x,CL place zl r with
  |some (off,n),some a,some q=>if off+n<=zl then some ((off,n,a)::q) else none
  |_,_,_=>none
def Ih:Nat->List (Nat×Operand)->Option (List aP)
 |_,[]=>some []
 |k,(i,x)::r=>match cn x,Ih (k+1) r with
  |some a,some q=>if i=k then some (a::q) else none
  |_,_=>none
def Qa(P:Program)(t:TypeId):Option Bool:=
 match P.underlying t with
 |some (.int _)=>some true
 |some .bool=>some false
 |_=>none
def JQ(P:Program):Nat->List Field->Option (List Bool)
 |_,[]=>some []
 |k,f::r=>match Qa P f.type,JQ P (k+1) r with
  |some b,some bs=>if f.offset=k/\f.name≠ "_" then some (b::bs) else none
  |_,_=>none
def Ju:Operand->Bool
 | .const .nilIface=>true
 |_=>false
def KV(P:Program)(t:TypeId)(x y:Operand):Option uY:=
 match P.underlying t with
 |some (.interface _)=>if Ju x||Ju y then some .ifc else none
 |some .bool=>some .bool
 |some (.pointer _)=>some .ptr
 |some (.slice _)=>some .slc
 |some (.map _ _)=>some .map
 |some (.func _ _ _)=>some .fnc
 |some (.struct fs)=>if !P.stoodInHeld t&& !P.eqGuardType P.depth t then (JQ P 0 fs.toList).map .str else none
 |_=>none
def Ak(P:Program)(t:TypeId):Option (TypeId×Nat×Nat×List PV):=
 match P.underlying t with
 |some (.slice e)=>match P.info? e,Ac P e with
  |some i,some z=>if 0<i.size/\0<i.bytes then some (e,i.size,i.bytes,z) else none
  |_,_=>none
 |_=>none
def keyOf(P:Program)(k:TypeId):Option Nat:=
 match P.underlying k with
 |some (.int _)=>some 0
 |some .string=>some 1
 |some .bool=>some 2
 |_=>none
def QC(P:Program)(t:TypeId):Bool:=
 match P.info? t with
 |some i=>match i.zero with
  |some (.agg _)=>true
  |_=>false
 |none=>false
def FG(P:Program)(site:Nat)(o:Oper):Option oR:=
 match o.op with
 | .move x=>(cn x).map .Jp
 | .assign x=>(cn x).map .Jp
 | .pick c a b=>match cn c,cn a,cn b with
  |some c,some a,some b=>some (.pick c a b)
  |_,_,_=>none
 | .alloc t=>(Ac P t).map (.alloc site)
 | .box _ x=>(cn x).map (.box site)
 | .build t ps=>match P.underlying t,Ac P t with
  |some (.struct fs),some z=>if fs.all fun f=>(P.info? f.type).isSome then
    (CL (fun i=>(fs[i]?).map fun f=>(f.offset,P.cellsOf f.type)) z.length ps.toList).map (.build z)
   else none
  |some (.array _ e),some z=>match P.info? e with
   |some i=>(CL (fun k=>some (k*i.size,i.size)) z.length ps.toList).map (.build z)
   |none=>none
  |_,_=>none
 | .buildSlice t n ps=>match Ak P t,Ih 0 ps.toList with
  |some (e,sz,_,_),some as=>if as.length=n/\n*sz<=16777216 then some (.HK site e sz as) else none
  |_,_=>none
 | .load t a=>match re P t,cn a with
  |some k,some a=>some (.load k a)
  |_,_=>none
 | .store t a x=>match xl P t,cn a,cn x with
  |some n,some a,some x=>some (.store n a x)
  |_,_,_=>none
 | .nilCheck x=>(cn x).map .Jv
 | .binOp op t x y _=>match cn x,cn y with
  |some a,some b=>match P.underlying t with
   |some (.int _)=>some (.bin op a b)
   |some .string=>some (.bin op a b)
   |_=>match op,KV P t x y with
    | .eql,some k=>some (.eqc k false a b)
    | .neq,some k=>some (.eqc k true a b)
    |_,_=>none
  |_,_=>none
 | .unOp op _ x=>match op with
  | .not=>(cn x).map (.un .not)
  | .neg=>(cn x).map (.un .neg)
  |_=>none
 | .convert s d x=>match P.underlying s,P.underlying d,cn x with
  |some (.int _),some (.int k),some a=>some (.conv k a)
  |some (.slice e),some .string,some a=>match P.underlying e with
   |some (.int .u8)=>some (.bstr a)
   |_=>none
  |_,_,_=>none
 | .makeFunc (.func f) a b=>match qe a.toList,qe b.toList with
  |some x,some y=>some (.mkfn f x y)
  |_,_=>none
 | .makeMap t none=>match P.underlying t with
  |some (.map _ e)=>(re P e).map fun k=>.mkmap site k.isSome
  |_=>none
 | .makeSlice t l c=>match Ak P t,cn l,cn c with
  |some (e,sz,bytes,z),some l,some c=>some (.Jo site e sz bytes z l c)
  |_,_,_=>none
 | .slice t x lo hi none=>match cn x,xF lo,xF hi with
  |some a,some l,some h=>match P.underlying t with
   |some (.slice e)=>(xl P e).map fun sz=>.slice sz a l h
   |some .string=>some (.sslice a l h)
   |_=>none
  |_,_,_=>none
 | .fieldAddr s x f=>match P.underlying s,cn x with
  |some (.struct fs),some a=>match fs[f]? with
   |some d=>if P.cellsOf d.type≠0 then some (.Ik d.offset a) else none
   |none=>none
  |_,_=>none
 | .field t x f=>match P.underlying t,cn x with
  |some (.struct fs),some a=>match fs[f]? with
   |some d=>(re P d.type).map fun k=>.fld d.offset k a
   |none=>none
  |_,_=>none
 | .indexAddr t x i=>match cn x,cn i with
  |some a,some b=>match P.underlying t with
   |some (.slice e)=>(xl P e).map fun sz=>.Ja sz a b
   |some (.array n e)=>(xl P e).map fun sz=>.Hw n sz a b
   |_=>none
  |_,_=>none
 | .index t x i=>match cn x,cn i with
  |some a,some b=>match P.underlying t with
   |some (.array n e)=>match xl P e,re P e with
    |some sz,some k=>some (.aidx n sz k a b)
    |_,_=>none
   |some .string=>some (.sidx a b)
   |_=>none
  |_,_=>none
 | .lookup t x k ok=>match P.underlying t,cn x,cn k with
  |some (.map kt e),some a,some b=>match Ac P e,re P e with
   |some z,some q=>match keyOf P kt with
    |some kd=>if QC P e=q.isSome then some (.lookup kd z q.isSome ok a b) else none
    |none=>none
   |_,_=>none
  |_,_,_=>none
 | .mapUpdate t m k v=>match P.underlying t,cn m,cn k,cn v with
  |some (.map kt e),some a,some b,some c=>match re P e with
   |some q=>(keyOf P kt).map fun kd=>.mupd kd q.isSome a b c
   |none=>none
  |_,_,_,_=>none
 | .insert t m k v=>match P.underlying t,cn m,cn k,cn v with
  |some (.map kt e),some a,some b,some c=>match re P e with
   |some q=>(keyOf P kt).map fun kd=>.mupd kd q.isSome a b c
   |none=>none
  |_,_,_,_=>none
 | .extract x i=>(cn x).map fun a=>.extract a i
 | .call c=>match c.callee,qe c.args.toList with
  | .value f,some as=>(cn f).map fun g=>.call site g as
  | .builtin .len,some [a]=>match c.argTypes[0]? with
   |some t=>match P.underlying t with
    |some .string=>some (.slen a)
    |some (.slice _)=>some (.ML a)
    |some (.map _ _)=>some (.mlen a)
    |_=>none
   |none=>none
  | .builtin .append,some [a,b]=>match c.argTypes[0]?,c.argTypes[1]? with
   |some t,some u=>match Ak P t with
    |some (e,sz,bytes,_)=>if t=u/\c.argTypes.size=2 then some (.append site e sz bytes a b) else none
    |none=>none
   |_,_=>none
  | .builtin .max,some [a,b]=>some (.max a b)
  | .builtin .min,some [a,b]=>some (.min a b)
  | .builtin .clear,some [a]=>match c.argTypes[0]? with
   |some t=>(Ak P t).map fun q=>.clear q.2.2.2 a
   |none=>none
  |_,_=>none
 |_=>none
def aP.tmps:aP->List Nat
 | .t n=>[n]
 |_=>[]
def Ff:List aP->List Nat
 |[]=>[]
 |a::r=>a.tmps++Ff r
def Wg:Option aP->List Nat
 |some a=>a.tmps
 |none=>[]
def Wh:List (Nat×Nat×aP)->List Nat
 |[]=>[]
 |(_,_,a)::r=>a.tmps++Wh r
def oR.tmps:oR->List Nat
 | .Jp x| .box _ x| .load _ x| .Jv x| .un _ x| .conv _ x| .bstr x| .Ik _ x| .fld _ _ x| .extract x _| .slen x| .ML x| .mlen x| .clear _ x=>x.tmps
 | .pick c a b=>c.tmps++a.tmps++b.tmps
 | .alloc _ _| .mkmap _ _| .bad=>[]
 | .build _ ps=>Wh ps
 | .HK _ _ _ ps=>Ff ps
 | .store _ a x| .bin _ a x| .eqc _ _ a x| .Ja _ a x| .Hw _ _ a x| .aidx _ _ _ a x| .sidx a x| .lookup _ _ _ _ a x| .append _ _ _ _ a x| .max a x| .min a x=>a.tmps++x.tmps
 | .mkfn _ a b=>Ff a++Ff b
 | .Jo _ _ _ _ _ a b=>a.tmps++b.tmps
 | .slice _ x a b| .sslice x a b=>x.tmps++Wg a++Wg b
 | .mupd _ _ a b c=>a.tmps++b.tmps++c.tmps
 | .call _ f as=>f.tmps++Ff as
def ch.GU(o:ch):List Nat:=
 o.op.tmps++match o.guard with
  |some (t,_)=>[t]
  |none=>[]
def FR(a b:ch):Bool:=
 (match a.dst with
  |some d=> !b.GU.contains d&&b.dst !=some d
  |none=>true)&&
 (match b.dst with
  |some d=> !a.GU.contains d
  |none=>true)
def OE(o:ch):Nat->List ch->Bool
 |_,[]=>true
 |j,x::r=>(o.anc.testBit j||FR x o)&&OE o (j+1) r
def La:List ch->List ch->Bool
 |[],_=>true
 |o::os,past=>OE o 0 past&&La os (past++[o])
def HR(P:Program)(site:Nat)(o:Oper):oR:=(FG P site o).getD .bad
def YD(nt:Nat):Option Nat->Bool
 |some d=>decide (d<nt)
 |none=>true
def T3(dst:Nat->Option Nat):Option (Nat×Bool)->Option (Option (Nat×Bool))
 |none=>some none
 |some (j,w)=>(dst j).map fun t=>some (t,w)
def DB(P:Program)(dst:Nat->Option Nat)(base nt:Nat)(anc:Nat)(o:Oper):Option ch:=if YD nt o.dst then (T3 dst o.guard).map fun g=>⟨o.dst,HR P base o,g,anc⟩ else none
def vZ(P:Program)(dst anc:Nat->Option Nat)(base nt:Nat):Nat->List Oper->Option (List ch)
 |_,[]=>some []
 |i,o::r=>match DB P dst ((base+i)*64) nt ((anc i).getD 0) o,vZ P dst anc base nt (i+1) r with
  |some x,some xs=>some (x::xs)
  |_,_=>none
def Hx(ops:Array Oper):Bool:=(List.range ops.size).all fun i=>match ops[i]? with
 |some o=>o.after.toList.all fun e=> !Region.binds .any e||decide (e.on<i)
 |none=>true
def pz(P:Program)(f nt:Nat):Code->Option aL
 | .skip=>some .skip
 | .region id ops draw=>
  let b:=if draw then Region.before ops else #[]
  match vZ P (fun j=>(ops[j]?).bind (·.dst)) (fun i=>b[i]?) ((f*1000+id)*1000) nt 0 ops.toList with
  |some xs=>if draw then (if Hx ops&&La xs [] then some (.region true xs) else none) else some (.region false xs)
  |none=>none
 | .seq a b=>match pz P f nt a,pz P f nt b with
  |some x,some y=>some (.seq x y)
  |_,_=>none
 | .cond c a b=>match cn c,pz P f nt a,pz P f nt b with
  |some c,some x,some y=>some (.cond c x y)
  |_,_,_=>none
 | .block id c=>(pz P f nt c).map (.block id)
 | .loop c=>(pz P f nt c).map .loop
 | .exit id=>some (.exit id)
 | .scope c=>pz P f nt c
 | .label _=>some .skip
 | .ret=>some .ret
 |_=>some .bad
def Bd(P:Program):List ResultVar->Option (List (Nat×Option (Option Nat)))
 |[]=>some []
 | .tmp t::r=>(Bd P r).map ((t,none):: ·)
 | .cell t ty::r=>match re P ty,Bd P r with
  |some k,some q=>some ((t,some k)::q)
  |_,_=>none
def Ai(P:Program)(f:Nat):Option aX:=
 match P.funcs[f]? with
 |none=>none
 |some fn=>match fn.body with
  |none=>none
  |some c=>if fn.name== "runtime.NumGoroutine" then none else
   match pz P f fn.ntmps c,Bd P fn.results.toList with
   |some b,some r=>some ⟨fn.ntmps,r,b⟩
   |_,_=>none
end Go.Abs
namespace Go.Abs
variable {P:Program} {w0:World}
section
variable{m:Mem}{v:Value}
def jr(m:Mem)(aj:Env)(tmps:Array Value):Prop:=∀t,bN m (aj t) (tmps.getD t undef)
theorem jr.ev{m':Mem}(h:Ev m m'){aj:Env}{tmps:Array Value}(hr:jr m aj tmps):jr m' aj tmps:=fun t=>(hr t).ev h.zero
theorem bN.one{c:C}:bN m (.one c) v↔cN m c v:=Iff.rfl
theorem bN.agg{cs:List C}:bN m (.agg cs) v↔ ∃arr,v=.agg arr/\df m cs arr.toList:=Iff.rfl
theorem bN.of1{x:V}(h:n0 m x v):bN m x v:=by
 cases x with
 |tup vs=>exact h.elim
 |_=>exact h
theorem Ri{w:World}{own:Nat->Prop}{x:PV}(h:KP v=some x):bU w own x v:=by
 unfold KP at h;split at h<;>first
  |(cases h;constructor;done)
  |cases h
theorem Yc{w:World}{own:Nat->Prop}:∀ {vs:List Value} {xs:List PV},HT vs=some xs->cX w own xs vs:=by
 intro vs
 induction vs with
 |nil=>intro xs h;simp[HT] at h;subst h;exact⟨rfl,fun j x u a _=>by simp at a⟩
 |cons v r ih=>
  intro xs h;simp only[HT] at h;split at h
  .rename_i x ys h1 h2;cases h;obtain⟨hl,hr⟩:=ih h2;refine⟨by simp[hl],fun j z u a b=>?_⟩;cases j with
   |zero=>simp at a b;subst a b;exact Ri h1
   |succ j=>simp at a b;exact hr j z u a b
  cases h
theorem cX.Da{xs:List PV}{vs:List Value}(h:cX m.w m.own xs vs):df m (xs.map .p) vs:=by refine⟨by simp[h.1],fun j x u a b=>?_⟩;simp only[fX,dy] at a;obtain⟨y,hy,rfl⟩:=a;exact .p (h.2 j y u hy b)
theorem ahQ{x:V}(h:Rj v=some x):bN m x v:=by
 unfold Rj at h;split at h
 .simp only[dy] at h;obtain⟨xs,h1,rfl⟩:=h;exact bN.agg.2 ⟨_,rfl,(Yc h1).Da⟩
 simp only[dy] at h;obtain⟨y,h1,rfl⟩:=h;exact bN.one.2 (.p (Ri h1))
theorem eE{aj:Env}{a:Act}{x:Operand}{y:aP}(h:cn x=some y)(hr:jr m aj a.tmps):bN m (ev aj y) (a.eval x):=by
 unfold cn at h;split at h
 .cases h;exact hr _
 .cases h;exact bN.one.2 (.p (.int _ _))
 .cases h;exact bN.one.2 (.p (.bool _))
 .simp only[dy] at h;obtain⟨v,h1,rfl⟩:=h;exact ahQ h1
 .cases h;exact bN.one.2 (.p (.fn #[] #[] rfl rfl (fun j x u a=>by simp at a) (fun j x u a=>by simp at a)))
 cases h
def Does(P:Program)(ρ:Operand->Value)(o:Oper)(w:World)(x:Value)(w':World):Prop:=
 (execOp ρ o).run P w=.ok (.value x) w'\/((execOp ρ o).run P w=.ok .skip w'/\x=undef)
def fE(P:Program)(w0:World)(ρ:Operand->Value)(o:Oper)(m:Mem)(v:V)(u:List eO):Prop:=∃x m',Does P ρ o m.w x m'.w/\Ok w0 m'/\Ev m m'/\m'.fr=m.fr/\m'.blk=app u m.blk/\bN m' v x
theorem fE.calm{ρ:Operand->Value}{o:Oper}{v:V}{x:Value}(h:Ok w0 m)(jV:(execOp ρ o).run P m.w=.ok (.value x) m.w)(hv:bN m v x):fE P w0 ρ o m v []:=
 ⟨x,m,.inl jV,h,Ev.refl m,rfl,rfl,hv⟩
section
variable {m:Mem} {aj:Env} {a:Act} {o:Oper} (ao:Ok w0 m) (hr:jr m aj a.tmps)
include ao hr
theorem ad9{x:Operand}{y:aP}(ho:o.op=.move x\/o.op=.assign x)(hx:cn x=some y):fE P w0 a.eval o m (ev aj y) []:=
 .calm ao (by rcases ho with ho|ho<;>simp[execOp,ho]) (eE hx hr)
theorem apC{c x y:Operand}{c' x' y':aP}{t:Bool}(ho:o.op=.pick c x y)(hc:cn c=some c')(hx:cn x=some x')(hy:cn y=some y')
  (ht:ev aj c'=.one (.p (.bool t))):fE P w0 a.eval o m (if t then ev aj x' else ev aj y') []:=by
 have h1:=eE hc hr;rw[ht] at h1;obtain⟨⟩:cN m (.p (.bool t)) _:=h1;rename_i hp;generalize hb:a.eval c=b at hp;cases hp;refine .calm (x:=if t then a.eval x else a.eval y) ao ?_ ?_
 .simp[execOp,ho,hb,asBool]
 cases t
 .exact eE hy hr
 exact eE hx hr
end
theorem EC{b:Bool}(h:bN m (.one (.p (.bool b))) v):v=.bool b:=by obtain⟨hp⟩:cN m _ v:=h;cases hp;rfl
theorem CA{k:IntKind}{n:Int}(h:bN m (.one (.p (.int k n))) v):v=.int k n:=by obtain⟨hp⟩:cN m _ v:=h;cases hp;rfl
theorem MG{s:ByteArray}(h:bN m (.one (.p (.str s))) v):v=.string s:=by obtain⟨hp⟩:cN m _ v:=h;cases hp;rfl
theorem Pf(h:bN m (.one (.p .nils)) v):v=.slice none 0 0:=by obtain⟨hp⟩:cN m _ v:=h;cases hp;rfl
theorem alF(h:bN m (.one (.p .zs)) v):∃a,v=.slice a 0 0:=by obtain⟨hp⟩:cN m _ v:=h;cases hp;exact⟨_,rfl⟩
theorem abF(h:bN m (.one (.p .rj)) v):v=.map none:=by obtain⟨hp⟩:cN m _ v:=h;cases hp;rfl
theorem mz{x:PV}(h:bU m.w m.own x v):bN m (.one (.p x)) v:=bN.one.2 (.p h)
def Mem.fresh(m:Mem)(ob:Obj)(s k:Nat)(o:Ob):Mem:=(m.later (m.w.alloc ob) (· =m.w.heap.size)).install s m.w.heap.size k o
theorem TX(ao:Ok w0 m)(ob:Obj)(s k:Nat)(o:Ob):(m.fresh ob s k o).fr=m.fr:=by
 funext c;simp only[Mem.fresh,Mem.install,Mem.later];apply propext;constructor
 .rintro ⟨h|h,h2⟩
  .exact h
  exact(h2 h).elim
 intro h;exact⟨.inl h,fun e=>by have:=ao.frlt c h;omega⟩
theorem OF(ob:Obj)(s k:Nat)(o:Ob):Ev m (m.fresh ob s k o):=Pa (Gy (fm.alloc m.w ob) fun c hc=>Bu hc.symm) (.inr rfl) (.inl (aZ _))
theorem aaj(ob:Obj)(s k:Nat)(o:Ob):(m.fresh ob s k o).w.heap[(m.fresh ob s k o).σ s]?=some ob:=by
 have:(m.fresh ob s k o).σ s=m.w.heap.size:=by simp[Mem.fresh,Mem.install,aS]
 rw[this];exact heap_alloc_new m.w ob
theorem aak(ao:Ok w0 m)(ob:Obj)(s k:Nat)(o:Ob)(ho:sJ (m.fresh ob s k o) s o):Ok w0 (m.fresh ob s k o):=Pb (Jl ao (fm.alloc m.w ob) fun c hc=>by subst hc;exact⟨aZ _,af⟩) (.inr rfl) ao.size ho
theorem TW(m:Mem)(ob:Obj)(s k:Nat)(o:Ob):(m.fresh ob s k o).blk=app [(s,((m.blk s).1+1,some o))] m.blk:=rfl
theorem aal(ao:Ok w0 m)(s:Nat)(t:TypeId)(cs:List C)(arr:Array Value)(hc:df m cs arr.toList):
  Ok w0 (m.fresh (.cells arr t) s 0 (.var cs))/\bN (m.fresh (.cells arr t) s 0 (.var cs)) (.one (.bt s ((m.blk s).1+1) 0)) (.pointer (some ⟨m.w.heap.size,0,none⟩)):=by
 refine⟨aak ao _ s 0 _ ⟨arr,t,aaj _ s 0 _,hc.ev (OF _ s 0 _).zero⟩,bN.one.2 (.bt _ ?_ fun _ _=>?_)⟩
 .simp[Mem.fresh,Mem.install,Mem.later,aS]
 simp[Mem.fresh,Mem.install,aS]
theorem NA{t:TypeId}{z:List PV}(h:Ac P t=some z):∃v i,P.info? t=some i/\i.zero=some v/\v.cells.size=i.size/\z.length=i.size/\ ∀w own,cX w own z v.cells.toList:=by
 unfold Ac at h;split at h
 .rename_i i hi;split at h
  .rename_i cs hz;split at h
   .rename_i hs;have hr:=fun w own=>Yc (w:=w) (own:=own) h;refine⟨_,i,hi,hz,by simpa [Value.cells] using hs,?_,fun w own=>by simpa [Value.cells] using hr w own⟩;have:=(hr default (fun _=>False)).1;simp at this;omega
   cases h
  .rename_i v hz hv;split at h
   .rename_i hs;simp only[dy] at h;obtain⟨x,hx,rfl⟩:=h;have hr:=fun w own=>Ri (w:=w) (own:=own) hx;have hc:=(hr default (fun _=>False)).cells;refine⟨v,i,hi,hv,by simp[hc,hs],by simp[hs],fun w own=>?_⟩;rw[hc];refine⟨rfl,fun j y u a b=>?_⟩;cases j with
    |zero=>simp at a b;subst a b;exact hr w own
    |succ j=>simp at a
   cases h
  cases h
 cases h
section
variable {m:Mem} {aj:Env} {a:Act} {o:Oper} (ao:Ok w0 m) (hr:jr m aj a.tmps)
include ao
theorem apb{t:TypeId}{z:List PV}{s:Nat}(ho:o.op=.alloc t)(hz:Ac P t=some z):
  fE P w0 a.eval o m (.one (.bt s ((m.blk s).1+1) 0)) [(s,((m.blk s).1+1,some (.var (z.map .p))))]:=by
 obtain⟨v,i,hi,hv,hs,hl,dh⟩:=NA hz;obtain⟨h1,h2⟩:=aal ao s t (z.map .p) v.cells (dh m.w m.own).Da;refine⟨_,_,.inl ?_,h1,OF _ s 0 _,TX ao _ s 0 _,TW _ _ s 0 _,h2⟩;simp[execOp,ho,Instr.alloc,zeroValue,typeInfo,hi,hv,newVar,newRow];rfl
include hr
theorem ape{t:TypeId}{x:Operand}{y:aP}{cs:List C}{s:Nat}(ho:o.op=.box t x)(hx:cn x=some y)(hc:rI (ev aj y)=some cs):
  fE P w0 a.eval o m (.one (.bt s ((m.blk s).1+1) 0)) [(s,((m.blk s).1+1,some (.var cs)))]:=by
 have hv:=eE hx hr;have cY:df m cs (a.eval x).cells.toList:=by
  generalize ev aj y=w at hc hv;cases w with
  |undef=>simp[rI] at hc
  |tup vs=>simp[rI] at hc
  |one c=>
   simp[rI] at hc;subst hc;rw[(bN.one.1 hv).cells];refine⟨rfl,fun j y u p q=>?_⟩;cases j with
   |zero=>simp at p q;subst p q;exact hv
   |succ j=>simp at p
  |agg ds=>simp[rI] at hc;subst hc;obtain⟨arr,e,h⟩:=bN.agg.1 hv;rw[e];exact h
 obtain⟨h1,h2⟩:=aal ao s t cs _ cY;refine⟨_,_,.inl ?_,h1,OF _ s 0 _,TX ao _ s 0 _,TW _ _ s 0 _,h2⟩;simp[execOp,ho,Instr.box,newVar,newRow];rfl
end
end
end Go.Abs
namespace Go.Abs
variable {P:Program} {w0:World}
theorem FQ{α:Type}{sz:Nat}:∀ {es:List (List α)},(∀e∈es,e.length=sz)->es.flatten.length=es.length*sz:=by
 intro es
 induction es with
 |nil=>intro _;simp
 |cons e r ih=>intro h;have h1:=h e af;have h2:=ih fun x hx=>h x (by simp[hx]);simp only[mR,fc,cE,h1,h2,gD,Nat.one_mul];omega
theorem FP{α:Type}{sz:Nat}:∀ {es:List (List α)},(∀e∈es,e.length=sz)->∀ {i:Nat} {e:List α},es[i]?=some e->∀ {j:Nat},j<sz->es.flatten[i*sz+j]?=e[j]? :=by
 intro es
 induction es with
 |nil=>intro _ i e h;simp at h
 |cons x r ih=>
  intro h i e he j hj;have h1:=h x af;cases i with
  |zero=>simp at he;subst he;simp only[mR,yL,jc];rw[oO aa]
  |succ i=>simp at he;have h2:=ih (fun y hy=>h y (by simp[hy])) he hj;simp only[mR];rw[nV (by rw[h1,gD];omega),<- h2];congr 1;rw[h1,gD];omega
theorem Lg{α:Type}{sz:Nat}{es:List (List α)}(h:∀e∈es,e.length=sz){i:Nat}{e:List α}(he:es[i]?=some e):e.length=sz:=h e (aQ he)
theorem BP{w:World}{b k:Nat}{cur:Array Value}{ty:TypeId}{fz:Nat×Nat}(h:w.heap[b]?=some (.cells cur ty fz)):w.cell? ⟨b,k,none⟩=cur[k]? :=cell_of_row w b k cur ty fz h
def At (m:Mem)(v:Value)(cs:List C):Prop:=∃b o vs,v=.pointer (some ⟨b,o,none⟩)/\df m cs vs/\ ∀(j:Nat) (u:Value),vs[j]?=some u->m.w.cell? ⟨b,o+j,none⟩=some u
theorem At.row{m:Mem}{b o:Nat}{cur:Array Value}{ty:TypeId}{fz:Nat×Nat}(h:m.w.heap[b]?=some (.cells cur ty fz)){cs:List C}(hl:o+cs.length<=cur.size)
  (hc:∀(j:Nat) (x:C) (u:Value),cs[j]?=some x->cur[o+j]?=some u->cN m x u):At m (.pointer (some ⟨b,o,none⟩)) cs:=by
 refine⟨b,o,(cur.toList.drop o).take cs.length,rfl,⟨by simp;omega,fun j x u p q=>?_⟩,fun j u q=>?_⟩
 .rw[jm] at q;split at q
  .exact hc j x u p (by simpa using q)
  cases q
 rw[jm] at q;split at q
 .rw[BP h];simpa using q
 cases q
theorem adE{m:Mem}(ao:Ok w0 m){x:V}{v:Value}{cs:List C}{rd:List Nat}(h:Bc m.blk x=some (cs,rd))(hv:bN m x v):At m v cs:=by
 unfold Bc at h;split at h
 .rename_i ps;simp only[fg,kY] at h;obtain⟨rfl,rfl⟩:=h;obtain⟨hp⟩:cN m _ v:=hv;cases hp with
  |box b o f ho hc hr=>
   refine⟨b,o,(List.range ps.length).map f,rfl,⟨af,fun j x u p q=>?_⟩,fun j u q=>?_⟩
   .simp only[fX,dy] at p q;obtain⟨y,hy,rfl⟩:=p;obtain⟨k,hk,rfl⟩:=q;have Ef:k=j:=by
     rw[tu (by have:=aV.1 hy;obtain⟨h,_⟩:=this;exact h)] at hk
     simpa using hk.symm
    subst Ef;exact .p (hr k y hy)
   simp only[fX,dy] at q;obtain⟨k,hk,rfl⟩:=q;have aq:j<ps.length:=by have:=aV.1 hk;obtain⟨h,_⟩:=this;simpa using h
   rw[tu aq] at hk;simp at hk;subst hk;exact hc j _ (oQ aq)
 .rename_i id g off;have hv:cN m _ v:=hv;cases hv with
  |bt a hg ha=>
   split at h
   .rename_i g' y8 hb;split at h
    .rename_i iM;simp only[fg,kY] at h;obtain⟨rfl,rfl⟩:=h;have aU:(m.blk id).2=some (.var y8):=by rw[hb]
     have ha:=ha (by rw[hb];exact iM) (by rw[aU];rfl);subst ha;obtain⟨cur,ty,hh,hl,hc⟩:=ao.obj id _ aU;simp at hl;by_cases ho:off<=y8.length
     .exact At.row hh (by simp;omega) fun j x u p q=>hc (off+j) x u (by simpa using p) (by simpa using q)
     exact⟨_,_,[],rfl,⟨by simp;omega,fun j x u p q=>by simp at q⟩,fun j u q=>by simp at q⟩
    cases h
   .rename_i g' y8 hb;split at h
    .rename_i iM;simp only[fg,kY] at h;obtain⟨rfl,rfl⟩:=h;have aU:(m.blk id).2=some (.fvar y8):=by rw[hb]
     have ha:=ha (by rw[hb];exact iM) (by rw[aU];rfl);subst ha;obtain⟨cur,ty,fz,hh,hp,_⟩:=ao.obj id _ aU;have hl:=hp.1;simp at hl;by_cases ho:off<=y8.length
     .refine At.row hh (by simp;omega) fun j x u p q=>?_;simp only[fX,dy] at p;obtain⟨y,hy,rfl⟩:=p;exact .p (hp.2 (off+j) y u (by simpa using hy) (by simpa using q))
     exact⟨_,_,[],rfl,⟨by simp;omega,fun j x u p q=>by simp at q⟩,fun j u q=>by simp at q⟩
    cases h
   cases h
 .rename_i id g i off;have hv:cN m _ v:=hv;cases hv with
  |di a hg ha=>
   have key:∀(sz:Nat) (e:List C) (cur:Array Value) (ty:TypeId) (fz:Nat×Nat),m.w.heap[m.σ id]?=some (.cells cur ty fz)->e.length=sz->(i+1)*sz<=cur.size->
     a=⟨m.σ id,i*sz+off,none⟩->(∀(j:Nat) (x:C) (u:Value),e[j]?=some x->cur[i*sz+j]?=some u->cN m x u)->At m (.pointer (some a)) (e.drop off):=by
    intro sz e cur ty fz hh he aq wK hc;subst wK;rw[gD,Nat.one_mul] at aq;by_cases ho:off<=e.length
    .exact At.row hh (by simp;omega) fun j x u p q=>hc (off+j) x u (by simpa using p) (by rw[<- Bt];exact q)
    exact⟨_,_,[],rfl,⟨by simp;omega,fun j x u p q=>by simp at q⟩,fun j u q=>by simp at q⟩
   have pure:∀(ty sz:Nat) (es:List (List PV)) (e:List PV) (cur:Array Value) (fz:Nat×Nat),m.w.heap[m.σ id]?=some (.cells cur ty fz)->(∀e∈es,e.length=sz)->es.length*sz<=cur.size->
     cX m.w m.own es.flatten (cur.toList.take (es.length*sz))->es[i]?=some e->a=⟨m.σ id,i*sz+off,none⟩->At m (.pointer (some a)) ((e.drop off).map .p):=by
    intro ty sz es e cur fz hh hsz hlen dh he wK;have di:=Lg hsz he;have hi:i<es.length:=(aV.1 he).1;have oh:(i+1)*sz<=es.length*sz:=lL _ hi;rw[Dk];refine key sz (e.map .p) cur ty fz hh (by simpa using di) aa wK fun j x u p q=>?_;simp only[fX,dy] at p;obtain⟨y,hy,rfl⟩:=p;have hj:j<sz:=by have:=(aV.1 hy).1;omega
    refine .p (dh.2 (i*sz+j) y u (by rw[FP hsz he hj];exact hy) ?_);rw[gD] at oh;rw[jm,if_pos aa]
    simpa using q
   split at h
   .rename_i g' ty sz es hb;split at h
    .rename_i iM;simp only[dy,kY] at h;obtain⟨e,he,rfl,rfl⟩:=h;have aU:(m.blk id).2=some (.arr ty sz es):=by rw[hb]
     obtain⟨cur,hh,jf,hsz,hl,hm,cY,dh⟩:=ao.obj id _ aU;exact pure ty sz es e cur _ hh hsz (by rw[cY];exact lL _ hl) dh he (ha sz (by rw[hb];exact iM) (by rw[hb];rfl))
    cases h
   .rename_i g' ty sz es hb;split at h
    .rename_i iM;simp only[dy,kY] at h;obtain⟨e,he,rfl,rfl⟩:=h;have aU:(m.blk id).2=some (.pG ty sz es):=by rw[hb]
     obtain⟨cur,fz,hh,jf,hsz,hl,hm,cY,dh,_⟩:=ao.obj id _ aU;exact pure ty sz es e cur _ hh hsz (by rw[cY];exact lL _ hl) dh he (ha sz (by rw[hb];exact iM) (by rw[hb];rfl))
    cases h
   .rename_i g' ty sz es hb;split at h
    .rename_i iM;simp only[dy,kY] at h;obtain⟨e,he,rfl,rfl⟩:=h;have aU:(m.blk id).2=some (.iT ty sz es):=by rw[hb]
     obtain⟨cur,hh,jf,hsz,hl,hm,cY,dh⟩:=ao.obj id _ aU;have di:=Lg hsz he;have hi:i<es.length:=(aV.1 he).1;have oh:(i+1)*sz<=es.length*sz:=lL _ hi;have aa4:es.length*sz<=m.κ id*sz:=lL _ hl;refine key sz e cur ty _ hh di aa (ha sz (by rw[hb];exact iM) (by rw[hb];rfl)) fun j x u p q=>?_;have hj:j<sz:=by have:=(aV.1 p).1;omega
     refine dh.2 (i*sz+j) x u (by rw[FP hsz he hj];exact p) ?_;rw[gD] at oh;rw[jm,if_pos aa]
     simpa using q
    cases h
   cases h
 cases h
end Go.Abs
namespace Go.Abs
variable {P:Program} {w0:World}
theorem alM{t:TypeId}{n:Nat}(h:re P t=some (some n)):∃d i,P.underlying t=some d/\P.info? t=some i/\i.size=n/\((∃fs,d=.struct fs)\/ ∃k e,d=.array k e):=by
 unfold re at h;split at h
 .rename_i fs i h1 h2;simp at h;exact⟨_,i,h1,h2,h,.inl ⟨fs,rfl⟩⟩
 .rename_i k e i h1 h2;simp at h;exact⟨_,i,h1,h2,h,.inr ⟨k,e,rfl⟩⟩
 .split at h<;>simp at h
 cases h
theorem alL{t:TypeId}(h:re P t=some none):∃d i,P.underlying t=some d/\P.info? t=some i/\i.size=1/\(∀fs,d≠ .struct fs)/\ ∀k e,d≠ .array k e:=by
 unfold re at h;split at h
 .simp at h
 .simp at h
 .rename_i d i n1 n2 h1 h2;split at h
  .rename_i hs;exact⟨_,_,h1,h2,hs,fun fs e=>n1 fs e,fun k e' e=>n2 k e' e⟩
  cases h
 cases h
theorem adS{t:TypeId}{n:Nat}(h:re P t=some (some n))(w:World):(isAgg t).run P w=.ok true w/\(sizeOf t).run P w=.ok n w:=by
 obtain⟨d,i,h1,h2,h3,h4⟩:=alM h;constructor
 .rcases h4 with ⟨fs,rfl⟩|⟨k,e,rfl⟩<;>simp[isAgg,run_underlying h1]
 simp[sizeOf,typeInfo,h2,h3]
theorem adR{t:TypeId}(h:re P t=some none)(w:World):(isAgg t).run P w=.ok false w/\(sizeOf t).run P w=.ok 1 w:=by
 obtain⟨d,i,h1,h2,h3,h4,h5⟩:=alL h;constructor
 .cases d<;>first
   |exact(h4 _ rfl).elim
   |exact(h5 _ _ rfl).elim
   |simp[isAgg,run_underlying h1]
 simp[sizeOf,typeInfo,h2,h3]
theorem ab7{m:Mem}{t:TypeId}{k:Option Nat}(hk:re P t=some k){v:Value}{cs:List C}(h:At m v cs){x:V}(hx:pZ k cs=some x):
  ∃a y,v=.pointer (some a)/\(loadVar t a).run P m.w=.ok y m.w/\bN m x y:=by
 obtain⟨b,o,vs,rfl,cY,gh⟩:=h;cases k with
 |none=>
  obtain⟨h1,h2⟩:=adR hk m.w;cases cs with
  |nil=>simp[pZ] at hx
  |cons c r=>
   simp[pZ] at hx;subst hx;obtain⟨hl,hr⟩:=cY;cases vs with
   |nil=>simp at hl
   |cons u us=>have h0:=gh 0 u rfl;refine⟨_,u,rfl,?_,bN.one.2 (hr 0 c u rfl rfl)⟩;rw[rA] at h0;simp[loadVar,h1,h0]
 |some n=>
  obtain⟨h1,h2⟩:=adS hk m.w;simp only[pZ] at hx;split at hx
  .rename_i hn;cases hx;obtain⟨hl,hr⟩:=cY;refine⟨_,.agg (vs.take n).toArray,rfl,?_,bN.agg.2 ⟨_,rfl,by simp;omega,fun j x u p q=>?_⟩⟩
   .have hlen:(vs.take n).length=n:=by simp;omega
    have:=run_loadCells_list (P:=P) m.w ⟨b,o,none⟩ (vs.take n) (fun j u q=>by
     rw[Addr.add_lit];rw[jm] at q;split at q
     .exact gh j u q
     cases q)
    rw[hlen] at this;simp[loadVar,h1,h2,this]
   rw[jm] at p;simp only[jm] at q;split at p
   .rename_i hj;simp only[hj,if_true] at q;exact hr j x u p q
   cases p
  cases hx
section
variable {m:Mem} {aj:Env} {a:Act} {o:Oper} (ao:Ok w0 m) (hr:jr m aj a.tmps)
include ao hr
theorem apr{t:TypeId}{x:Operand}{y:aP}{k:Option Nat}{cs:List C}{rd:List Nat}{v:V}(ho:o.op=.load t x)(hk:re P t=some k)(hx:cn x=some y)
  (hc:Bc m.blk (ev aj y)=some (cs,rd)) (hv:pZ k cs=some v):fE P w0 a.eval o m v []:=by
 obtain⟨ad,y',h1,h2,h3⟩:=ab7 hk (adE ao hc (eE hx hr)) hv;exact .calm ao (by simp[execOp,ho,h1,Instr.loadAt,Instr.sureAddr,h2]) h3
theorem apA{x:Operand}{y:aP}{v:V}(ho:o.op=.nilCheck x)(hx:cn x=some y)(hv:bj (fun _=>false) aj m.blk (.Jv y)=.done v [] []):fE P w0 a.eval o m v []:=by
 have dY:=eE hx hr;simp only[bj] at hv;split at hv
 .rename_i he;rw[he] at dY;cases hv;have hc:cN m _ (a.eval x):=dY;generalize hb:a.eval x=b at hc dY;cases hc with
  |bt ad hg h=>exact .calm ao (by simp[execOp,ho,hb]) dY
 .rename_i he;rw[he] at dY;cases hv;have hc:cN m _ (a.eval x):=dY;generalize hb:a.eval x=b at hc dY;cases hc with
  |di ad hg h=>exact .calm ao (by simp[execOp,ho,hb]) dY
 .rename_i he;rw[he] at dY;cases hv;have hc:cN m _ (a.eval x):=dY;generalize hb:a.eval x=b at hc dY;cases hc with
  |p hp=>cases hp with
   |box b' o' f lD ki qB=>exact .calm ao (by simp[execOp,ho,hb]) dY
 .rename_i he;rw[he] at dY;cases hv;have hc:cN m _ (a.eval x):=dY;generalize hb:a.eval x=b at hc dY;cases hc with
  |hfn A B ha xV uL mL=>exact .calm ao (by simp[execOp,ho,hb]) dY
 .rename_i he;rw[he] at dY;cases hv;have hc:cN m _ (a.eval x):=dY;generalize hb:a.eval x=b at hc dY;cases hc with
  |p hp=>cases hp with
   |fn A B ha xV uL mL=>exact .calm ao (by simp[execOp,ho,hb]) dY
 cases hv
end
end Go.Abs
namespace Go.Abs
variable {P:Program} {w0:World}
section
variable{vs:List Value}{off:Nat}
theorem bU.norm{w:World}{own:Nat->Prop}{x:PV}{v:Value}(h:bU w own x v):bU w own x.norm v:=by
 cases h<;>first
  |exact .xm none 0 (fun _=>rfl) (aY _)
  |exact .xm _ 0 (fun _=>rfl) (aY _)
  |(simp only[PV.norm];constructor<;>assumption)
theorem aq0{m:Mem}{c:C}{x:PV}{v:Value}(h:toP c=some x)(hr:cN m c v):bU m.w m.own x v:=by
 cases hr<;>simp[toP] at h
 rename_i hp;subst h;exact hp.norm
theorem Ns{m:Mem}:∀ {cs:List C} {xs:List PV} {vs:List Value},Bk cs=some xs->df m cs vs->cX m.w m.own xs vs:=by
 intro cs
 induction cs with
 |nil=>intro xs vs h hr;simp[Bk] at h;subst h;exact⟨hr.1,fun j x u a=>by simp at a⟩
 |cons c r ih=>
  intro xs vs h hr;simp only[Bk] at h;split at h
  .rename_i x ys h1 h2;cases h;cases vs with
   |nil=>simp[df] at hr
   |cons v us=>
    obtain⟨hl,Cy⟩:=ih (vs:=us) h2 ⟨by simpa using hr.1,fun j x u a b=>hr.2 (j+1) x u (by simpa using a) (by simpa using b)⟩;refine⟨by simp[hl],fun j z u a b=>?_⟩;cases j with
    |zero=>simp at a b;subst a b;exact aq0 h1 (hr.2 0 c v rfl rfl)
    |succ j=>simp at a b;exact Cy j z u a b
  cases h
def Pw {α:Type}(R:α->Value->Prop)(xs:List α)(vs:List Value):Prop:=vs.length=xs.length/\ ∀(j:Nat) (x:α) (u:Value),xs[j]?=some x->vs[j]?=some u->R x u
theorem Pw.take{α:Type}{R:α->Value->Prop}{xs:List α}(h:Pw R xs vs)(n:Nat):Pw R (xs.take n) (vs.take n):=by
 refine⟨by simp[h.1],fun j x u a b=>?_⟩;rw[jm] at a b;split at a
 .rename_i hj;rw[if_pos hj] at b;exact h.2 j x u a b
 cases a
theorem Pw.drop{α:Type}{R:α->Value->Prop}{xs:List α}(h:Pw R xs vs)(n:Nat):Pw R (xs.drop n) (vs.drop n):=
 ⟨by simp[h.1],fun j x u a b=>h.2 (n+j) x u (by simpa using a) (by simpa using b)⟩
theorem Pw.append{α:Type}{R:α->Value->Prop}{xs ys:List α}{us:List Value}(h:Pw R xs vs)(k:Pw R ys us):Pw R (xs++ys) (vs++us):=by
 refine⟨by simp[h.1,k.1],fun j x u a b=>?_⟩;by_cases hj:j<xs.length
 .rw[oO hj] at a;rw[oO (by rw[h.1];exact hj)] at b;exact h.2 j x u a b
 rw[nV aa] at a;rw[nV (by rw[h.1];omega),h.1] at b;exact k.2 _ x u a b
theorem Pw.eX{α:Type}{R:α->Value->Prop}{xs ys:List α}{us:List Value}(h:Pw R xs vs)(k:Pw R ys us)(off:Nat):Pw R (eX xs off ys) (eX vs off us):=by unfold Abs.eX;rw[k.1];exact((h.take off).append k).append (h.drop _)
theorem Qo{α:Type}{cs xs:List α}(h:off+xs.length<=cs.length):(eX cs off xs).length=cs.length:=by simp[eX];omega
theorem aex{α:Type}{cs xs:List α}{n:Nat}(h:off+xs.length<=n)(hn:n<=cs.length):(eX cs off xs).take n=eX (cs.take n) off xs:=by unfold eX;rw[List.take_append,List.take_append,List.take_take,List.drop_take];simp only[fc,fJ];rw[yK (by omega:off<=cs.length),List.take_take,yK (by omega:off<=n),Nat.min_eq_right (by omega:off<=n)];have e:n-(off+xs.length)=n-(off+xs.length):=rfl;rw[fY (by omega:xs.length<=n-off)]
theorem aqj{α:Type}{a cs xs:List α}:eX (a++cs) (a.length+off) xs=a++eX cs off xs:=by unfold eX;rw[List.take_append,List.drop_append];simp only[qG];rw[fY (by omega:a.length<=a.length+off),List.drop_of_length_le (by omega:a.length<=a.length+off+xs.length)];simp only[gZ];have e1:a.length+off-a.length=off:=aa;have e2:a.length+off+xs.length-a.length=off+xs.length:=aa;rw[e1,e2]
theorem aqi{α:Type}{a cs xs:List α}(h:off+xs.length<=a.length):eX (a++cs) off xs=eX a off xs++cs:=by unfold eX;rw[List.take_append_of_le_length aa,List.drop_append_of_le_length aa];simp
theorem ajr{α:Type}{sz:Nat}{ps:List α}:∀ {es:List (List α)},(∀e∈es,e.length=sz)->∀ {i:Nat} {e:List α},es[i]?=some e->off+ps.length<=sz->
  (es.set i (eX e off ps)).flatten=eX es.flatten (i*sz+off) ps:=by
 intro es
 induction es with
 |nil=>intro _ i e h;simp at h
 |cons x r ih=>
  intro h i e he hl;have h1:=h x af;cases i with
  |zero=>simp at he;subst he;simp only[List.set_cons_zero,mR,yL,jc];rw[aqi aa]
  |succ i=>
   simp at he;simp only[List.set_cons_succ,mR];rw[ih (fun y hy=>h y (by simp[hy])) he hl];have hh:(i+1)*sz+off=x.length+(i*sz+off):=by rw[h1,gD];omega
   rw[hh,aqj]
theorem Ni{w:World}{g:Nat}{cur new:Array Value}{ty:TypeId}{fz:Nat×Nat}(h:w.heap[g]?=some (.cells cur ty fz)):(w.setRow g new).heap[g]?=some (.cells new ty fz):=setRow_heap w g cur new ty fz h
theorem df.pw{m:Mem}{cs:List C}:df m cs vs↔Pw (cN m) cs vs:=Iff.rfl
theorem cX.pw{w:World}{own:Nat->Prop}{cs:List PV}:cX w own cs vs↔Pw (bU w own) cs vs:=Iff.rfl
theorem df.one{m:Mem}{cs:List C}(h:df m cs vs):∀v∈vs,v.oneCell'=true:=by
 intro v hv;obtain⟨j,hj⟩:=jy hv;have aq:j<cs.length:=by rw[<- h.1];exact(aV.1 hj).1
 exact(h.2 j _ v (oQ aq) hj).MX
theorem Q7{m:Mem}{x:V}{v:Value}{cs:List C}(h:rI x=some cs)(hr:bN m x v):df m cs v.cells.toList:=by
 cases x with
 |undef=>simp[rI] at h
 |tup vs=>simp[rI] at h
 |one c=>
  simp[rI] at h;subst h;rw[(bN.one.1 hr).cells];refine⟨rfl,fun j y u p q=>?_⟩;cases j with
  |zero=>simp at p q;subst p q;exact hr
  |succ j=>simp at p
 |agg ds=>simp[rI] at h;subst h;obtain⟨arr,e,h⟩:=bN.agg.1 hr;rw[e];exact h
section
variable {m:Mem} {aj:Env} {a:Act} {o:Oper} (ao:Ok w0 m) (hr:jr m aj a.tmps)
include ao hr
theorem apH{t:TypeId}{x v:Operand}{x' v':aP}{n:Nat}{cs:List C}{r:V}{u:List eO}{rd:List Nat}(ho:o.op=.store t x v)(hn:xl P t=some n)(hx:cn x=some x')(hv:cn v=some v')
  (hc:rI (ev aj v')=some cs) (hw:Ab m.blk (ev aj x') n cs=.done r u rd):fE P w0 a.eval o m r u:=by
 have cY:=Q7 hc (eE hv hr);have lE:=eE hx hr;unfold xl at hn;simp only[dy] at hn;obtain⟨i,hi,l6⟩:=hn;have hsz:(a.eval v).cells.toList.length=cs.length:=cY.1;simp only[Array.length_toList] at hsz;unfold Ab at hw;split at hw
 .cases hw
 rename_i hlen;have hlen:cs.length=n:=by simpa using hlen
 have OY:=cY.one;split at hw
 .rename_i id g off he;rw[he] at lE;have lE:cN m _ (a.eval x):=lE;generalize hb:a.eval x=b at lE;cases lE with
  |bt ad hg nv=>
   split at hw
   .rename_i g' y8 hbk;split at hw
    .rename_i LK;obtain⟨iM,hfit⟩:=LK;cases hw;have aU:(m.blk id).2=some (.var y8):=by rw[hbk]
     have nv:=nv (by rw[hbk];exact iM) (by rw[aU];rfl);subst nv;obtain⟨cur,ty,hh,dh⟩:=ao.obj id _ aU;have eo:=dh.1;simp at eo;have Ar:off+0+(a.eval v).cells.toList.length<=cur.size:=by simp;omega
     have cA:=run_storeCells_at P (m.σ id) off ty (a.eval v).cells.toList 0 cur m.w hh Ar OY;simp only[rA] at cA;generalize hW:m.w.setRow (m.σ id) (cur.toList.take off++(a.eval v).cells.toList++cur.toList.drop (off+(a.eval v).cells.toList.length)).toArray=W at cA;have DU:W.heap.size=m.w.heap.size:=by rw[<- hW];simp
     have DT:∀c,c≠m.σ id->W.heap[c]?=m.w.heap[c]? :=fun c hc=>by rw[<- hW];exact setRow_other m.w (m.σ id) c _ hc
     have dD:=JR (w':=W) (o:=.var (eX y8 off cs)) aU rfl (by simp[kz]) (by rw[<- hW];rfl) (by rw[<- hW];rfl) (by rw[<- hW];rfl) DU DT;have zE:sJ (m.jl W id (.var (eX y8 off cs))) id (.var (eX y8 off cs)):=by
      refine⟨_,ty,by rw[<- hW];exact Ni hh,?_⟩;have:=df.pw.2 ((df.pw.1 (dh.ev dD.zero)).eX (df.pw.1 (cY.ev dD.zero)) off)
      simpa [eX] using this
     refine⟨undef,m.jl W id (.var (eX y8 off cs)),.inr ⟨?_,rfl⟩,Nh aU rfl ao (by simp[kz]) (by rw[<- hW];rfl) (by rw[<- hW];rfl) (by rw[<- hW];rfl) DU DT zE,dD,rfl,?_,rfl⟩
     .simp only[execOp,ho,hb,Instr.storeAt,Instr.sureAddr,storeVar,sizeOf,typeInfo];simp[hi,hsz,hlen,l6,cA,Mem.jl]
     simp[Mem.jl,app,hbk,iM]
    cases hw
   cases hw
 .rename_i id g i' off he;rw[he] at lE;have lE:cN m _ (a.eval x):=lE;generalize hb:a.eval x=b at lE;cases lE with
  |di ad hg nv=>
   split at hw
   .rename_i g' ty sz es hbk;split at hw
    .rename_i e ps Cf AO;split at hw
     .rename_i LK;obtain⟨iM,hfit⟩:=LK;cases hw;have aU:(m.blk id).2=some (.arr ty sz es):=by rw[hbk]
      have nv:=nv sz (by rw[hbk];exact iM) (by rw[hbk];rfl);subst nv;obtain⟨cur,hh,jf,qY,hl,hm,DX,dh⟩:=ao.obj id _ aU;have di:=Lg qY Cf;have akm:i'<es.length:=(aV.1 Cf).1;have oh:(i'+1)*sz<=es.length*sz:=lL _ akm;have aa4:es.length*sz<=m.κ id*sz:=lL _ hl;rw[gD,Nat.one_mul] at oh;have ak0:ps.length=cs.length:=by rw[<- cY.1];exact(Ns AO cY).1.symm
      have Ar:i'*sz+off+0+(a.eval v).cells.toList.length<=cur.size:=by simp;omega
      have cA:=run_storeCells_at P (m.σ id) (i'*sz+off) ty (a.eval v).cells.toList 0 cur m.w hh Ar OY;simp only[rA] at cA;generalize hW:m.w.setRow (m.σ id) (cur.toList.take (i'*sz+off)++(a.eval v).cells.toList++cur.toList.drop (i'*sz+off+(a.eval v).cells.toList.length)).toArray=W at cA;have DU:W.heap.size=m.w.heap.size:=by rw[<- hW];simp
      have DT:∀c,c≠m.σ id->W.heap[c]?=m.w.heap[c]? :=fun c hc=>by rw[<- hW];exact setRow_other m.w (m.σ id) c _ hc
      have dD:=JR (w':=W) (o:=.arr ty sz (es.set i' (eX e off ps))) aU rfl (by simp[kz]) (by rw[<- hW];rfl) (by rw[<- hW];rfl) (by rw[<- hW];rfl) DU DT;have zE:sJ (m.jl W id (.arr ty sz (es.set i' (eX e off ps)))) id (.arr ty sz (es.set i' (eX e off ps))):=by
       refine⟨_,by rw[<- hW];exact Ni hh,jf,?_,by rw[nX];exact hl,hm,?_,?_⟩
       .intro e' Ce;rcases List.mem_or_eq_of_mem_set Ce with h|h
        .exact qY e' h
        rw[h,Qo aa];exact di
       .simp[Mem.jl];omega
       rw[nX,ajr qY Cf aa];have h1:=(cX.pw.1 (dh.ev dD.zero)).eX (cX.pw.1 ((Ns AO cY).ev dD.zero)) (i'*sz+off);rw[<- aex (by simp;omega) (by simp;omega)] at h1;have h1:=cX.pw.2 h1
       simpa [eX] using h1
      refine⟨undef,m.jl W id (.arr ty sz (es.set i' (eX e off ps))),.inr ⟨?_,rfl⟩,Nh aU rfl ao (by simp[kz]) (by rw[<- hW];rfl) (by rw[<- hW];rfl) (by rw[<- hW];rfl) DU DT zE,dD,rfl,?_,rfl⟩
      .simp only[execOp,ho,hb,Instr.storeAt,Instr.sureAddr,storeVar,sizeOf,typeInfo];simp[hi,hsz,hlen,l6,cA,Mem.jl]
      simp[Mem.jl,app,hbk,iM]
     cases hw
    cases hw
   cases hw
 cases hw
end
end
end Go.Abs
namespace Go.Abs
variable {P:Program} {w0:World}
theorem yS{m:Mem}{x:V}{v:Value}{n:Nat}(h:oZ x=some n)(hr:bN m x v):∃k,v=.int k (n:Int):=by
 unfold oZ at h;split at h
 .rename_i k z;split at h
  .rename_i hz;cases h;exact⟨k,by rw[CA hr,Int.toNat_of_nonneg hz]⟩
  cases h
 cases h
theorem Qg{t:TypeId}{n:Nat}(h:xl P t=some n)(w:World):(sizeOf t).run P w=.ok n w:=by unfold xl at h;simp only[dy] at h;obtain⟨i,hi,rfl⟩:=h;simp[sizeOf,typeInfo,hi]
section
variable {m:Mem} {aj:Env} {a:Act} {o:Oper} (ao:Ok w0 m) (hr:jr m aj a.tmps)
include ao hr
theorem apm{s:TypeId}{x:Operand}{f:Nat}{fs:Array Field}{d:Field}{y:aP}{v:V}(ho:o.op=.fieldAddr s x f)(hs:P.underlying s=some (.struct fs))(hf:fs[f]?=some d)
  (hz:P.cellsOf d.type≠0) (hx:cn x=some y) (hv:bj (fun _=>false) aj m.blk (.Ik d.offset y)=.done v [] []):fE P w0 a.eval o m v []:=by
 have dY:=eE hx hr;have hsz:∃n,(sizeOf d.type).run P m.w=.ok n m.w/\n≠0:=by
  unfold Program.cellsOf at hz;cases hi:P.info? d.type with
  |none=>simp[hi] at hz
  |some i=>exact⟨i.size,by simp[sizeOf,typeInfo,hi],by simpa [hi] using hz⟩
 obtain⟨n,hn,fR⟩:=hsz;have run:∀ad,a.eval x=.pointer (some ad)->(execOp a.eval o).run P m.w=.ok (.value (.pointer (some (ad.add d.offset)))) m.w:=by intro ad nv;simp[execOp,ho,nv,Instr.fieldAt,run_underlying hs,hf,Instr.sureAddr,fieldPlace,hn,fR]
 simp only[bj] at hv;split at hv
 .rename_i id g off he;rw[he] at dY;cases hv;have hc:cN m _ (a.eval x):=dY;generalize hb:a.eval x=b at hc;cases hc with
  |bt ad hg h=>exact .calm ao (run _ hb) (bN.one.2 (.bt _ hg fun h1 h2=>by rw[h h1 h2,Addr.add_lit]))
 .rename_i id g i off he;rw[he] at dY;cases hv;have hc:cN m _ (a.eval x):=dY;generalize hb:a.eval x=b at hc;cases hc with
  |di ad hg h=>exact .calm ao (run _ hb) (bN.one.2 (.di _ hg fun sz h1 h2=>by rw[h sz h1 h2,Addr.add_lit,Bt]))
 .rename_i cs he;rw[he] at dY;cases hv;have hc:cN m _ (a.eval x):=dY;generalize hb:a.eval x=b at hc;cases hc with
  |p hp=>cases hp with
   |box b' o' f' lD ki qB=>refine .calm ao (run _ hb) (mz ?_);rw[Addr.add_lit];refine .box b' (o'+d.offset) (fun j=>f' (d.offset+j)) (fun h=>lD fun e=>h (by simp[e])) (fun j z h=>?_) fun j z h=>qB _ z (by simpa using h);rw[Bt];exact ki _ z (by simpa using h)
 cases hv
theorem apo{t e:TypeId}{x i:Operand}{sz:Nat}{x' i':aP}{v:V}(ho:o.op=.indexAddr t x i)(ht:P.underlying t=some (.slice e))(hs:xl P e=some sz)
  (hx:cn x=some x') (hi:cn i=some i') (hv:bj (fun _=>false) aj m.blk (.Ja sz x' i')=.done v [] []):fE P w0 a.eval o m v []:=by
 have dY:=eE hx hr;have IY:=eE hi hr;have run:∀ad len cap k (n:Nat),a.eval x=.slice (some ad) len cap->a.eval i=.int k (n:Int)->n<len->(execOp a.eval o).run P m.w=.ok (.value (.pointer (some (ad.add (n*sz))))) m.w:=by intro ad len cap k n h1 h2 h3;simp[execOp,ho,h1,h2,Instr.indexAt,asIntOf,run_underlying ht,Qg hs,h3]
 simp only[bj] at hv;split at hv
 .rename_i n es hn he;obtain⟨k,hk⟩:=yS hn IY;rw[he] at dY;split at hv
  .rename_i el di;split at hv
   .rename_i hlen;cases hv;have hc:cN m _ (a.eval x):=dY;generalize hb:a.eval x=b at hc;cases hc with
    |p hp=>
     generalize gT:(PV.sl es)=pv at hp;cases hp<;>first
      |cases gT
      |skip
     .simp at di
     rename_i b' o' cap bR f Cp lD r9 hsz rX Cy;have aq:n<es.length:=(aV.1 di).1;have UI:bR=sz:=by rw[<- Lg hsz di];exact hlen
     subst UI;refine .calm ao (run _ _ _ k n hb hk aq) (mz ?_);rw[Addr.add_lit];refine .box b' (o'+n*bR) (fun j=>f (n*bR+j)) (fun h=>lD ?_) (fun j z h=>?_) fun j z h=>?_
     .intro e0;cases el with
      |nil=>exact h rfl
      |cons c r=>have:=FP hsz di (j:=0) (by rw[<- hlen];simp);rw[e0] at this;simp at this
     .have hj:j<bR:=by rw[<- hlen];exact(aV.1 h).1
      rw[Bt];exact rX _ z (by rw[FP hsz di hj];exact h)
     have hj:j<bR:=by rw[<- hlen];exact(aV.1 h).1
     exact Cy _ z (by rw[FP hsz di hj];exact h)
   cases hv
  cases hv
 .rename_i n id g z off len hn he;obtain⟨k,hk⟩:=yS hn IY;rw[he] at dY;split at hv
  .rename_i aq;cases hv;have hc:cN m _ (a.eval x):=dY;generalize hb:a.eval x=b at hc;cases hc with
   |hsl ad cap hg hl hm h=>refine .calm ao (run _ _ _ k n hb hk aq.1) (bN.one.2 (.di _ hg fun s h1 h2=>?_));obtain⟨e1,e2,_⟩:=h s h1 h2;rw[e2 (.inr aa),Addr.add_lit,e1,aq.2];simp[gD]
  cases hv
 cases hv
theorem ao9{t e:TypeId}{x i:Operand}{sz ln:Nat}{x' i':aP}{v:V}(ho:o.op=.indexAddr t x i)(ht:P.underlying t=some (.array ln e))(hs:xl P e=some sz)
  (hx:cn x=some x') (hi:cn i=some i') (hv:bj (fun _=>false) aj m.blk (.Hw ln sz x' i')=.done v [] []):fE P w0 a.eval o m v []:=by
 have dY:=eE hx hr;have IY:=eE hi hr;have run:∀ad k (n:Nat),a.eval x=.pointer (some ad)->a.eval i=.int k (n:Int)->n<ln->(execOp a.eval o).run P m.w=.ok (.value (.pointer (some (ad.add (n*sz))))) m.w:=by intro ad k n h1 h2 h3;simp[execOp,ho,h1,h2,Instr.indexAt,asIntOf,run_underlying ht,Qg hs,h3,Instr.sureAddr]
 simp only[bj] at hv;split at hv
 .rename_i n id g off hn he;obtain⟨k,hk⟩:=yS hn IY;rw[he] at dY;split at hv
  .rename_i aq;cases hv;have hc:cN m _ (a.eval x):=dY;generalize hb:a.eval x=b at hc;cases hc with
   |bt ad hg h=>exact .calm ao (run _ k n hb hk aq) (bN.one.2 (.bt _ hg fun h1 h2=>by rw[h h1 h2,Addr.add_lit]))
  cases hv
 .rename_i n id g j off hn he;obtain⟨k,hk⟩:=yS hn IY;rw[he] at dY;split at hv
  .rename_i aq;cases hv;have hc:cN m _ (a.eval x):=dY;generalize hb:a.eval x=b at hc;cases hc with
   |di ad hg h=>exact .calm ao (run _ k n hb hk aq) (bN.one.2 (.di _ hg fun s h1 h2=>by rw[h s h1 h2,Addr.add_lit,Bt]))
  cases hv
 .rename_i n cs hn he;obtain⟨k,hk⟩:=yS hn IY;rw[he] at dY;split at hv
  .rename_i aq;cases hv;have hc:cN m _ (a.eval x):=dY;generalize hb:a.eval x=b at hc;cases hc with
   |p hp=>cases hp with
    |box b' o' f' lD ki qB=>refine .calm ao (run _ k n hb hk aq) (mz ?_);rw[Addr.add_lit];refine .box b' (o'+n*sz) (fun j=>f' (n*sz+j)) (fun h=>lD fun e=>h (by simp[e])) (fun j z h=>?_) fun j z h=>qB _ z (by simpa using h);rw[Bt];exact ki _ z (by simpa using h)
  cases hv
 cases hv
theorem ac8{t:TypeId}{k:Option Nat}(hk:re P t=some k){cs:List C}{arr:Array Value}(hc:df m cs arr.toList){off:Nat}{x:V}(hx:pZ k (cs.drop off)=some x):
  ∃y,(part t arr off).run P m.w=.ok y m.w/\bN m x y:=by
 have _u0:=ao;have _u1:=hr;have hl:=hc.1;simp at hl;cases k with
 |none=>
  obtain⟨h1,h2⟩:=adR hk m.w;cases hd:cs.drop off with
  |nil=>simp[hd,pZ] at hx
  |cons c r=>
   simp[hd,pZ] at hx;subst hx;have cY:cs[off]?=some c:=by
    have:=congrArg (·[0]?) hd
    simpa using this
   have aq:off<arr.size:=by rw[hl];exact(aV.1 cY).1
   refine⟨arr[off],by simp[part,h1,aq],bN.one.2 (hc.2 off c _ cY (by simp[aq]))⟩
 |some n=>
  obtain⟨h1,h2⟩:=adS hk m.w;simp only[pZ] at hx;split at hx
  .rename_i hn;cases hx;simp at hn;refine⟨.agg (arr.extract off (off+n)),by simp[part,h1,h2],bN.agg.2 ⟨_,rfl,by simp;omega,fun j x u p q=>?_⟩⟩;rw[jm] at p;split at p
   .rename_i hj;simp at p;refine hc.2 (off+j) x u p ?_;have aq:off+j<cs.length:=(aV.1 p).1;have he:(arr.extract off (off+n)).toList=(arr.toList.drop off).take n:=af;rw[he,jm,if_pos hj,ur] at q;exact q
   cases p
  cases hx
theorem apn{t:TypeId}{x:Operand}{f:Nat}{fs:Array Field}{d:Field}{y:aP}{k:Option Nat}{cs:List C}{v:V}(ho:o.op=.field t x f)(hs:P.underlying t=some (.struct fs))(hf:fs[f]?=some d)
  (hk:re P d.type=some k) (hx:cn x=some y) (hy:ev aj y=.agg cs) (hv:pZ k (cs.drop d.offset)=some v):fE P w0 a.eval o m v []:=by
 have dY:=eE hx hr;rw[hy] at dY;obtain⟨arr,e,hc⟩:=bN.agg.1 dY;obtain⟨z,h1,h2⟩:=ac8 (ao:=ao) (hr:=hr) hk hc hv;exact .calm ao (by simp[execOp,ho,e,Instr.field,run_underlying hs,hf,asAgg,h1]) h2
theorem apa{t e:TypeId}{x i:Operand}{ln sz:Nat}{x' i':aP}{k:Option Nat}{n:Nat}{cs:List C}{v:V}(ho:o.op=.index t x i)(ht:P.underlying t=some (.array ln e))(hs:xl P e=some sz)
  (hk:re P e=some k) (hx:cn x=some x') (hi:cn i=some i') (hn:oZ (ev aj i')=some n) (aq:n<ln) (hy:ev aj x'=.agg cs) (hv:pZ k (cs.drop (n*sz))=some v):fE P w0 a.eval o m v []:=by
 have dY:=eE hx hr;obtain⟨kk,vg⟩:=yS hn (eE hi hr);rw[hy] at dY;obtain⟨arr,e',hc⟩:=bN.agg.1 dY;obtain⟨z,h1,h2⟩:=ac8 (ao:=ao) (hr:=hr) hk hc hv;exact .calm ao (by simp[execOp,ho,e',vg,Instr.index,asIntOf,run_underlying ht,Qg hs,aq,h1]) h2
theorem apD{t:TypeId}{x i:Operand}{x' i':aP}{n:Nat}{s:ByteArray}{b:UInt8}(ho:o.op=.index t x i)(ht:P.underlying t=some .string)
  (hx:cn x=some x') (hi:cn i=some i') (hn:oZ (ev aj i')=some n) (hy:ev aj x'=.one (.p (.str s))) (hb:s[n]?=some b):fE P w0 a.eval o m (.one (.p (.int .u8 b.toNat))) []:=by
 have dY:=eE hx hr;obtain⟨kk,vg⟩:=yS hn (eE hi hr);rw[hy] at dY;exact .calm ao (by simp[execOp,ho,MG dY,vg,Instr.index,asIntOf,run_underlying ht,hb]) (mz (.int _ _))
end
end Go.Abs
namespace Go.Abs
variable {P:Program} {w0:World}
theorem ag5{op:BinOp}{t:TypeId}{k k':IntKind}{x y:Int}{v:PV}(w:World)(hk:k=k'\/op=.shl\/op=.shr)(h:tE op k x y=some v):
  ∃u,(binOp op t (.int k x) (.int k' y)).run P w=.ok u w/\ ∀own,bU w own v u:=by
 by_cases hs:op=.shl\/op=.shr
 .rcases hs with rfl|rfl
  .simp only[tE] at h;split at h
   .cases h
   rename_i hy;cases h;exact⟨_,by simp[binOp,Op.shift,hy],fun own=>.int _ _⟩
  simp only[tE] at h;split at h
  .cases h
  rename_i hy;cases h;exact⟨_,by simp[binOp,Op.shift,hy],fun own=>.int _ _⟩
 have vg:k=k':=by
  rcases hk with h|h
  .exact h
  exact(hs h).elim
 subst vg;cases op<;>simp only[tE] at h<;>first
  |cases h
  |skip
 all_goals first
  |exact(hs (.inl rfl)).elim
  |exact(hs (.inr rfl)).elim
  |(exact⟨_,by simp[binOp,Op.intArith,Op.intCmp,Op.intBits],fun own=>.int _ _⟩)
  |(exact⟨_,by simp[binOp,Op.intArith,Op.intCmp],fun own=>.bool _⟩)
  |(split at h
    .cases h
    rename_i hy;cases h;exact⟨_,by simp[binOp,Op.intDiv,hy],fun own=>.int _ _⟩)
theorem ag7{op:BinOp}{t:TypeId}{x y:ByteArray}{v:PV}(w:World)(h:Q1 op x y=some v):
  ∃u,(binOp op t (.string x) (.string y)).run P w=.ok u w/\ ∀own,bU w own v u:=by
 cases op<;>simp only[Q1] at h<;>first
  |cases h
  |skip
 all_goals first
  |exact⟨_,by simp[binOp,Op.stringOp],fun own=>.bool _⟩
  |(split at h
    .rename_i hl;cases h;refine⟨.string (x++y),?_,fun own=>.str _⟩;have:¬((x.size:Int)+(y.size:Int)>9223372036854775807):=aa;simp[binOp,Op.stringOp,this]
    cases h)
section
variable {m:Mem} {aj:Env} {a:Act} {o:Oper} (ao:Ok w0 m) (hr:jr m aj a.tmps)
include ao hr
theorem apd{op:BinOp}{t ty:TypeId}{x y:Operand}{x' y':aP}{v:V}(ho:o.op=.binOp op t x y ty)(hx:cn x=some x')(hy:cn y=some y')
  (hv:qK op (ev aj x') (ev aj y')=some v):fE P w0 a.eval o m v []:=by
 have h1:=eE hx hr;have h2:=eE hy hr;unfold qK at hv;split at hv
 .rename_i k p k' q e1 e2;rw[e1] at h1;rw[e2] at h2;split at hv
  .rename_i hk;simp only[dy] at hv;obtain⟨u,hu,rfl⟩:=hv;obtain⟨z,hz,I7⟩:=ag5 (P:=P) (t:=t) m.w hk hu;refine .calm ao ?_ (mz (I7 _));have hg:(eqGuard op t x y (.int k p) (.int k' q)).run P m.w=.ok () m.w:=by cases op<;>simp[eqGuard]
   simp[execOp,ho,CA h1,CA h2,hg,hz]
  cases hv
 .rename_i p q e1 e2;rw[e1] at h1;rw[e2] at h2;simp only[dy] at hv;obtain⟨u,hu,rfl⟩:=hv;obtain⟨z,hz,I7⟩:=ag7 (P:=P) (t:=t) m.w hu;refine .calm ao ?_ (mz (I7 _));have hg:(eqGuard op t x y (.string p) (.string q)).run P m.w=.ok () m.w:=by cases op<;>simp[eqGuard]
  simp[execOp,ho,MG h1,MG h2,hg,hz]
 cases hv
theorem apB{t:TypeId}{x:Operand}{x':aP}{b:Bool}(ho:o.op=.unOp .not t x)(hx:cn x=some x')(hb:ev aj x'=.one (.p (.bool b))):fE P w0 a.eval o m (.one (.p (.bool (!b)))) []:=by have h1:=eE hx hr;rw[hb] at h1;exact .calm ao (by simp[execOp,ho,EC h1,Op.unary]) (mz (.bool _))
theorem apz{t:TypeId}{x:Operand}{x':aP}{k:IntKind}{n:Int}(ho:o.op=.unOp .neg t x)(hx:cn x=some x')(hb:ev aj x'=.one (.p (.int k n))):fE P w0 a.eval o m (.one (.p (.int k (k.wrap (0-n))))) []:=by have h1:=eE hx hr;rw[hb] at h1;exact .calm ao (by simp[execOp,ho,CA h1,Op.unary,Op.intArith]) (mz (.int _ _))
theorem apk{s d:TypeId}{x:Operand}{x':aP}{ks k k0:IntKind}{n:Int}(ho:o.op=.convert s d x)(hs:P.underlying s=some (.int ks))(hd:P.underlying d=some (.int k))(hx:cn x=some x')
  (hb:ev aj x'=.one (.p (.int k0 n))):fE P w0 a.eval o m (.one (.p (.int k (k.wrap n)))) []:=by
 have h1:=eE hx hr;rw[hb] at h1;exact .calm ao (by simp[execOp,ho,CA h1,convert,run_underlying hs,run_underlying hd,Conv.intToInt]) (mz (.int _ _))
theorem ac2:∀ {xs:List Operand} {ys:List aP} {cs:List C},qe xs=some ys->vB aj ys=some cs->df m cs (xs.map a.eval):=by
 have _u0:=ao;intro xs
 induction xs with
 |nil=>intro ys cs h1 h2;simp[qe] at h1;subst h1;simp[vB] at h2;subst h2;exact⟨rfl,fun j x u p=>by simp at p⟩
 |cons x r ih=>
  intro ys cs h1 h2;simp only[qe] at h1;split at h1
  .rename_i y ys' e1 e2;cases h1;simp only[vB] at h2;split at h2
   .rename_i c q e3 e4;cases h2;obtain⟨hl,Cy⟩:=ih e2 e4;refine⟨by simpa using hl,fun j z u p q=>?_⟩;cases j with
    |zero=>simp at p q;subst p q;have:=eE e1 hr;rw[e3] at this;exact this
    |succ j=>simp at p q;exact Cy j z u p (by simpa using q)
   cases h2
  cases h1
theorem apv{f:FuncId}{x y:Array Operand}{x' y':List aP}{cs ds:List C}(ho:o.op=.makeFunc (.func f) x y)(hx:qe x.toList=some x')(hy:qe y.toList=some y')
  (hc:vB aj x'=some cs) (hd:vB aj y'=some ds):fE P w0 a.eval o m (.one (.hfn f cs ds)) []:=by
 have h1:=ac2 (ao:=ao) (hr:=hr) hx hc;have h2:=ac2 (ao:=ao) (hr:=hr) hy hd;refine .calm (x:=.func (.func f) (x.map a.eval) (y.map a.eval)) ao (by simp[execOp,ho,Instr.makeFunc]) (bN.one.2 (.hfn _ _ ?_ ?_ ?_ ?_))
 .have:=h1.1;simpa using this
 .have:=h2.1;simpa using this
 .intro j z u p q;exact h1.2 j z u p (by rw[<- Array.toList_map,Array.getElem?_toList];exact q)
 intro j z u p q;exact h2.2 j z u p (by rw[<- Array.toList_map,Array.getElem?_toList];exact q)
theorem apl{x:Operand}{i:Nat}{x':aP}{vs:List V}{v:V}(ho:o.op=.extract x i)(hx:cn x=some x')(he:ev aj x'=.tup vs)(hv:vs[i]?=some v):fE P w0 a.eval o m v []:=by
 have h1:=eE hx hr;rw[he] at h1;obtain⟨arr,e,hl,hc⟩:=h1;have aq:i<arr.size:=by rw[hl];exact(aV.1 hv).1
 exact .calm (x:=arr[i]) ao (by simp[execOp,ho,e,Instr.extract,aq]) (.of1 (hc i v _ hv (by simp[aq])))
theorem ab2{x:V}{v:Value}{n:Nat}(h:yu x=some n)(hv:bN m x v):∃ad cap,v=.slice ad n cap/\n<=cap/\cap<=maxLen:=by
 have _u0:=ao;have _u1:=hr;unfold yu at h;split at h
 .cases h;exact⟨none,0,Pf hv,aZ _,aY _⟩
 .cases h;obtain⟨hp⟩:cN m _ v:=hv;rename_i es;generalize gT:(PV.sl es)=pv at hp;cases hp<;>cases gT
  .exact⟨_,_,rfl,aY _,by assumption⟩
  exact⟨_,_,rfl,by assumption,by assumption⟩
 .cases h;have hc:cN m _ v:=hv;cases hc with
  |hsl ad cap hg hl hm h=>exact⟨_,_,rfl,hl,hm⟩
 cases h
theorem apq{c:Call}{x:Operand}{x':aP}{t e:TypeId}{n:Nat}(ho:o.op=.call c)(hc:c.callee=.builtin .len)(has:c.args= #[x])(gh:c.argTypes[0]?=some t)(ht:P.underlying t=some (.slice e))
  (hx:cn x=some x') (hn:yu (ev aj x')=some n):fE P w0 a.eval o m (.one (.p (.int .i64 n))) []:=by
 obtain⟨ad,cap,h1,_,_⟩:=ab2 (ao:=ao) (hr:=hr) hn (eE hx hr);refine .calm ao ?_ (mz (.int _ _));simp[execOp,ho,resolve,hc,has,invoke,builtin,Builtin.len_,gh,h1,run_underlying ht,goInt]
theorem apE{c:Call}{x:Operand}{x':aP}{t:TypeId}{s:ByteArray}(ho:o.op=.call c)(hc:c.callee=.builtin .len)(has:c.args= #[x])(gh:c.argTypes[0]?=some t)(ht:P.underlying t=some .string)
  (hx:cn x=some x') (hn:ev aj x'=.one (.p (.str s))):fE P w0 a.eval o m (.one (.p (.int .i64 s.size))) []:=by
 have h1:=eE hx hr;rw[hn] at h1;refine .calm ao ?_ (mz (.int _ _));simp[execOp,ho,resolve,hc,has,invoke,builtin,Builtin.len_,gh,MG h1,run_underlying ht,goInt]
theorem apt{c:Call}{x y:Operand}{x' y':aP}{k k':IntKind}{p q:Int}(ho:o.op=.call c)(hc:c.callee=.builtin .max)(has:c.args= #[x,y])
  (hx:cn x=some x') (hy:cn y=some y') (h1:ev aj x'=.one (.p (.int k p))) (h2:ev aj y'=.one (.p (.int k' q))):fE P w0 a.eval o m (.one (.p (.int k (if q>p then q else p)))) []:=by
 have g1:=eE hx hr;have g2:=eE hy hr;rw[h1] at g1;rw[h2] at g2;refine .calm ao ?_ (mz (.int _ _));simp[execOp,ho,resolve,hc,has,invoke,builtin,Builtin.max_,Builtin.max2,CA g1,CA g2]
theorem apu{c:Call}{x y:Operand}{x' y':aP}{k k':IntKind}{p q:Int}(ho:o.op=.call c)(hc:c.callee=.builtin .min)(has:c.args= #[x,y])
  (hx:cn x=some x') (hy:cn y=some y') (h1:ev aj x'=.one (.p (.int k p))) (h2:ev aj y'=.one (.p (.int k' q))):fE P w0 a.eval o m (.one (.p (.int k (if q<p then q else p)))) []:=by
 have g1:=eE hx hr;have g2:=eE hy hr;rw[h1] at g1;rw[h2] at g2;refine .calm ao ?_ (mz (.int _ _));simp[execOp,ho,resolve,hc,has,invoke,builtin,Builtin.min_,Builtin.min2,CA g1,CA g2]
end
end Go.Abs
namespace Go.Abs
variable {P:Program} {w0:World}
section
variable{sz:Nat}
theorem agh:∀(u:List eO) (blk:aB) (id:Nat),(app u blk id=blk id/\ ∀e∈u,e.1≠id)\/ ∃e∈u,e.1=id/\app u blk id=e.2:=by
 intro u
 induction u with
 |nil=>intro blk id;exact .inl ⟨rfl,fun e h=>by simp at h⟩
 |cons x r ih=>
  intro blk id;obtain⟨i,o⟩:=x;simp only[app];rcases ih (cZ blk i o) id with ⟨h1,h2⟩|⟨e,he,h1,h2⟩
  .by_cases hi:id=i
   .exact .inr ⟨(i,o),af,hi.symm,by rw[h1];simp[aS,hi]⟩
   refine .inl ⟨by rw[h1];simp[aS,hi],fun e he=>?_⟩;rcases cT.1 he with rfl|he
   .exact fun h=>hi h.symm
   exact h2 e he
  exact .inr ⟨e,by simp[he],h1,h2⟩
theorem HQ{α β γ:Type}{f:α->Option (β×List Nat)}{R:α->γ->Prop}{T:β->γ->Prop}{eQ:List Nat->Prop}(Mb:∀a b,eQ (a++b)->eQ a/\eQ b)
  (hf:∀a b r v,f a=some (b,r)->R a v->eQ r->T b v):∀ {xs:List α} {ys:List β} {r:List Nat} {vs:List γ},collect f xs=some (ys,r)->eQ r->
  (vs.length=xs.length/\ ∀(j:Nat) (x:α) (u:γ),xs[j]?=some x->vs[j]?=some u->R x u)->(vs.length=ys.length/\ ∀(j:Nat) (x:β) (u:γ),ys[j]?=some x->vs[j]?=some u->T x u):=by
 intro xs
 induction xs with
 |nil=>intro ys r vs h _ hr;simp[collect] at h;obtain⟨rfl,rfl⟩:=h;exact⟨hr.1,fun j x u a=>by simp at a⟩
 |cons x t ih=>
  intro ys r vs h hg hr;simp only[collect] at h;split at h
  .rename_i b p bs q e1 e2;cases h;obtain⟨g1,g2⟩:=Mb _ _ hg;cases vs with
   |nil=>simp at hr
   |cons v us=>
    obtain⟨hl,hh⟩:=ih (vs:=us) e2 g2 ⟨by simpa using hr.1,fun j x u a b=>hr.2 (j+1) x u (by simpa using a) (by simpa using b)⟩;refine⟨by simp[hl],fun j z u a b=>?_⟩;cases j with
    |zero=>simp at a b;subst a b;exact hf _ _ _ _ e1 (hr.2 0 x v rfl rfl) g1
    |succ j=>simp at a b;exact hh j z u a b
  cases h
def qd(m:Mem)(own:Nat->Prop)(r:List Nat):Prop:=(∀b,own b->m.own b)/\ ∀id∈r,¬own (m.σ id)
theorem qd.app{m:Mem}{own:Nat->Prop}{a b:List Nat}(h:qd m own (a++b)):qd m own a/\qd m own b:=
 ⟨⟨h.1,fun id hi=>h.2 id (by simp[hi])⟩,⟨h.1,fun id hi=>h.2 id (by simp[hi])⟩⟩
theorem bU.less{w:World}{own zP:Nat->Prop}(h:∀b,zP b->own b){x:PV}{v:Value}(hr:bU w own x v):bU w zP x v:=hr.mono fun c _ hn=>⟨rfl,fun ho=>hn (h c ho)⟩
theorem cX.less{w:World}{own zP:Nat->Prop}(h:∀b,zP b->own b){x:List PV}{v:List Value}(hr:cX w own x v):cX w zP x v:=⟨hr.1,fun j x u a b=>(hr.2 j x u a b).less h⟩
theorem acp{α:Type}{xs:List α}{R:α->Value->Prop}{vs:List Value}(h:Pw R xs vs):∃f:Nat->Value,∀(j:Nat) (x:α),xs[j]?=some x->vs[j]?=some (f j)/\R x (f j):=by
 refine⟨fun j=>vs.getD j undef,fun j x hx=>?_⟩;have aq:j<vs.length:=by rw[h.1];exact(aV.1 hx).1
 have:vs[j]?=some (vs.getD j undef):=by simp[List.getD,oQ aq]
 exact⟨this,h.2 j x _ hx this⟩
theorem U7{w:World}{own:Nat->Prop}{b o:Nat}{cur:Array Value}{ty:TypeId}{fz:Nat×Nat}{ps:List PV}(hh:w.heap[b]?=some (.cells cur ty fz))(hp:Pw (bU w own) ps (cur.toList.drop o |>.take ps.length))
  (ho:ps≠[]-> ¬own b):bU w own (.box ps) (.pointer (some ⟨b,o,none⟩)):=by
 obtain⟨f,hf⟩:=acp hp;refine .box b o f ho (fun j x hx=>?_) fun j x hx=>(hf j x hx).2;have h1:=(hf j x hx).1;rw[jm] at h1;split at h1
 .rw[BP hh];simpa using h1
 cases h1
theorem acq{w:World}{own:Nat->Prop}{b o cap sz:Nat}{cur:Array Value}{ty:TypeId}{fz:Nat×Nat}{es:List (List PV)}(hh:w.heap[b]?=some (.cells cur ty fz))(hsz:∀e∈es,e.length=sz)
  (hl:es.length<=cap) (hm:cap<=maxLen) (hp:Pw (bU w own) es.flatten ((cur.toList.drop o).take (es.length*sz))) (ho:¬own b):bU w own (.sl es) (.slice (some ⟨b,o,none⟩) es.length cap):=by
 obtain⟨f,hf⟩:=acp hp;refine .sl b o cap sz f (fun _=>ho) hl hm hsz (fun j x hx=>?_) fun j x hx=>(hf j x hx).2;have h1:=(hf j x hx).1;rw[jm] at h1;split at h1
 .rw[BP hh];simpa using h1
 cases h1
theorem OB{α:Type}:∀ {es:List (List α)},(∀e∈es,e.length=sz)->∀(n:Nat),(es.drop n).flatten=es.flatten.drop (n*sz):=by
 intro es
 induction es with
 |nil=>intro _ n;simp
 |cons e r ih=>
  intro h n;cases n with
  |zero=>simp
  |succ n=>simp only[List.drop_succ_cons,mR];have h1:=h e af;rw[ih (fun x hx=>h x (by simp[hx])),List.drop_append,List.drop_of_length_le (by rw[h1,gD];omega:e.length<=(n+1)*sz),gZ];congr 1;rw[h1,gD];omega
theorem Im{α:Type}:∀ {es:List (List α)},(∀e∈es,e.length=sz)->∀(n:Nat),(es.take n).flatten=es.flatten.take (n*sz):=by
 intro es
 induction es with
 |nil=>intro _ n;simp
 |cons e r ih=>
  intro h n;cases n with
  |zero=>simp
  |succ n=>simp only[List.take_succ_cons,mR];have h1:=h e af;rw[ih (fun x hx=>h x (by simp[hx])),List.take_append,fY (by rw[h1,gD];omega:e.length<=(n+1)*sz)];congr 1;congr 1;rw[h1,gD];omega
theorem E6{α:Type}{R:α->Value->Prop}{off len:Nat}{es:List (List α)}{cur:List Value}(hsz:∀e∈es,e.length=sz)(h:Pw R es.flatten (cur.take (es.length*sz)))(hfit:off+len<=es.length):
  Pw R ((es.drop off).take len).flatten ((cur.drop (off*sz)).take (((es.drop off).take len).length*sz)):=by
 have Mz:∀e∈es.drop off,e.length=sz:=fun e he=>hsz e (vO he);have hlen:((es.drop off).take len).length=len:=by simp;omega
 rw[hlen,Im Mz,OB hsz];have h1:=(h.drop (off*sz)).take (len*sz);have h2:((cur.take (es.length*sz)).drop (off*sz)).take (len*sz)=(cur.drop (off*sz)).take (len*sz):=by
  rw[List.drop_take,List.take_take];congr 1;have:off*sz+len*sz<=es.length*sz:=by rw[<- gD];exact lL _ hfit
  omega
 rw[h2] at h1;exact h1
theorem Vy{α:Type}{R:α->Value->Prop}:∀ {ps:List (List α)} {cur:List Value},(∀e∈ps,e.length=sz)->ps.length*sz<=cur.length->
  (∀(j:Nat) (e:List α),ps[j]?=some e->Pw R e ((cur.drop (j*sz)).take sz))->Pw R ps.flatten (cur.take (ps.length*sz)):=by
 intro ps
 induction ps with
 |nil=>intro cur _ _ _;exact⟨af,fun j x u a=>by simp at a⟩
 |cons e r ih=>
  intro cur h hl hp;simp only[cE,gD,Nat.one_mul] at hl;have h0:=hp 0 e rfl;rw[yL,List.drop_zero] at h0;have h1:=ih (cur:=cur.drop sz) (fun x hx=>h x (by simp[hx])) (by simp;omega) fun j x hx=>by have:=hp (j+1) x (by simpa using hx);rw[gD,Nat.one_mul] at this;rw[List.drop_drop,Nat.add_comm sz];exact this
  have h2:=h0.append h1;have h3:cur.take sz++(cur.drop sz).take (r.length*sz)=cur.take ((e::r).length*sz):=by rw[cE,gD,Nat.one_mul,Nat.add_comm,List.take_add]
  rw[h3] at h2;exact h2
theorem TS{α:Type}{R:α->Value->Prop}{i:Nat}{es:List (List α)}{e:List α}{cur:List Value}(hsz:∀e∈es,e.length=sz)(h:Pw R es.flatten (cur.take (es.length*sz)))(he:es[i]?=some e):
  Pw R e ((cur.drop (i*sz)).take sz):=by
 have hi:i<es.length:=(aV.1 he).1;have h1:=E6 (off:=i) (len:=1) hsz h aa;have h0:((es.drop i).take 1)=[e]:=by rw[yI hi];have:=(aV.1 he).2;simp[this]
 rw[h0] at h1
 simpa using h1
theorem Rf{α β:Type}{f:α->Option (β×List Nat)}:∀ {xs:List α} {ys:List β} {r:List Nat},collect f xs=some (ys,r)->ys.length=xs.length:=by
 intro xs
 induction xs with
 |nil=>intro ys r h;simp[collect] at h;rw[h.1];rfl
 |cons x t ih=>
  intro ys r h;simp only[collect] at h;split at h
  .rename_i b p bs q e1 e2;cases h;simp[ih e2]
  cases h
theorem Re{α β:Type}{f:α->Option (β×List Nat)}:∀ {xs:List α} {ys:List β} {r:List Nat},collect f xs=some (ys,r)->∀ {j:Nat} {y:β},ys[j]?=some y->∃x q,xs[j]?=some x/\f x=some (y,q)/\ ∀i∈q,i∈r:=by
 intro xs
 induction xs with
 |nil=>intro ys r h j y hy;simp[collect] at h;rw[h.1] at hy;simp at hy
 |cons x t ih=>
  intro ys r h j y hy;simp only[collect] at h;split at h
  .rename_i b p bs q e1 e2;cases h;cases j with
   |zero=>simp at hy;subst hy;exact⟨x,p,rfl,e1,fun i hi=>by simp[hi]⟩
   |succ j=>simp at hy;obtain⟨x',q',h1,h2,h3⟩:=ih e2 hy;exact⟨x',q',by simpa using h1,h2,fun i hi=>by simp[h3 i hi]⟩
  cases h
theorem JT{m:Mem}(ao:Ok w0 m){own:Nat->Prop}:∀(n:Nat) {c:C} {x:PV} {r:List Nat} {v:Value},snap m.blk n c=some (x,r)->cN m c v->qd m own r->bU m.w own x v:=by
 intro n
 induction n with
 |zero=>intro c x r v h;simp[snap] at h
 |succ n ih=>
  intro c x r v h hr hs;have OM:∀ {cs:List C} {ps:List PV} {q:List Nat} {vs:List Value},collect (snap m.blk n) cs=some (ps,q)->qd m own q->Pw (cN m) cs vs->Pw (bU m.w own) ps vs:=fun h1 h2 h3=>HQ (R:=cN m) (T:=bU m.w own) (eQ:=qd m own) (fun a b h=>h.app) (fun a b r v e1 e2 e3=>ih e1 e2 e3) h1 h2 h3
  have OV:∀ {ps:List PV} {vs:List Value},cX m.w m.own ps vs->Pw (bU m.w own) ps vs:=fun h=>cX.pw.1 (h.less hs.1);unfold snap at h;cases c with
  |p y=>simp at h;obtain⟨rfl,rfl⟩:=h;obtain⟨hp⟩:=hr;exact hp.norm.less hs.1
  |bt id g off=>
   cases hr with
   |bt a hg ha=>
    simp only at h;split at h
    .rename_i g' cs hb;split at h
     .rename_i iM;split at h
      .rename_i ps q hq;cases h;have aU:(m.blk id).2=some (.var cs):=by rw[hb]
       have ha:=ha (by rw[hb];exact iM) (by rw[aU];rfl);subst ha;obtain⟨cur,ty,hh,hc⟩:=ao.obj id _ aU;have hp:=OM hq ⟨hs.1,fun i hi=>hs.2 i (by simp[hi])⟩ (df.pw.1 hc);refine U7 hh ?_ fun _=>hs.2 id af;have h1:=hp.drop off;have h2:(cur.toList.drop off).take (ps.drop off).length=cur.toList.drop off:=fY (by have:=h1.1;omega);rw[h2];exact h1
      cases h
     cases h
    .rename_i g' ps hb;split at h
     .rename_i iM;cases h;have aU:(m.blk id).2=some (.fvar ps):=by rw[hb]
      have ha:=ha (by rw[hb];exact iM) (by rw[aU];rfl);subst ha;obtain⟨cur,ty,fz,hh,hc,_⟩:=ao.obj id _ aU;refine U7 hh ?_ fun _=>hs.2 id af;have h1:=(OV hc).drop off;have h2:(cur.toList.drop off).take (ps.drop off).length=cur.toList.drop off:=fY (by have:=h1.1;omega);rw[h2];exact h1
     cases h
    cases h
  |di id g i off=>
   cases hr with
   |di a hg ha=>
    have key:∀(ty sz:Nat) (es:List (List PV)) (e:List PV) (cur:Array Value) (fz:Nat×Nat),m.w.heap[m.σ id]?=some (.cells cur ty fz)->(∀e∈es,e.length=sz)->es.length*sz<=cur.size->
      cX m.w m.own es.flatten (cur.toList.take (es.length*sz))->es[i]?=some e->a=⟨m.σ id,i*sz+off,none⟩-> ¬own (m.σ id)->bU m.w own (.box (e.drop off)) (.pointer (some a)):=by
     intro ty sz es e cur fz hh hsz hlen dh he wK dF;subst wK;have di:=Lg hsz he;have hi:i<es.length:=(aV.1 he).1;have oh:(i+1)*sz<=es.length*sz:=lL _ hi;have h1:=(E6 (off:=i) (len:=1) hsz (OV dh) aa).drop off;have h0:((es.drop i).take 1)=[e]:=by rw[yI hi];have:=(aV.1 he).2;simp[this]
     rw[h0] at h1;simp only[mR,List.flatten_nil,oN,cE,dQ,jc,Nat.one_mul] at h1;refine U7 hh ?_ fun _=>dF;have h2:(cur.toList.drop (i*sz+off)).take (e.drop off).length=(((cur.toList.drop (i*sz)).take sz).drop off):=by rw[List.drop_take,List.drop_drop,nW,di]
     rw[h2];exact h1
    simp only at h;split at h
    .rename_i g' ty sz es hb;split at h
     .rename_i iM;simp only[dy,kY] at h;obtain⟨e,he,rfl,rfl⟩:=h;have aU:(m.blk id).2=some (.arr ty sz es):=by rw[hb]
      obtain⟨cur,hh,jf,hsz,hl,hm,cY,dh⟩:=ao.obj id _ aU;exact key ty sz es e cur _ hh hsz (by rw[cY];exact lL _ hl) dh he (ha sz (by rw[hb];exact iM) (by rw[hb];rfl)) (hs.2 id af)
     cases h
    .rename_i g' ty sz es hb;split at h
     .rename_i iM;simp only[dy,kY] at h;obtain⟨e,he,rfl,rfl⟩:=h;have aU:(m.blk id).2=some (.pG ty sz es):=by rw[hb]
      obtain⟨cur,fz,hh,jf,hsz,hl,hm,cY,dh,_⟩:=ao.obj id _ aU;exact key ty sz es e cur _ hh hsz (by rw[cY];exact lL _ hl) dh he (ha sz (by rw[hb];exact iM) (by rw[hb];rfl)) (hs.2 id af)
     cases h
    cases h
  |hsl id g z off len=>
   cases hr with
   |hsl a cap hg hl hm ha=>
    have key:∀(ty sz:Nat) (es:List (List PV)) (cur:Array Value) (fz:Nat×Nat),m.w.heap[m.σ id]?=some (.cells cur ty fz)->(∀e∈es,e.length=sz)->Pw (bU m.w own) es.flatten (cur.toList.take (es.length*sz))->
      off+len<=es.length->(off=0\/0<len->a=⟨m.σ id,off*sz,none⟩)-> ¬own (m.σ id)->bU m.w own (.sl ((es.drop off).take len)) (.slice (some a) len cap):=by
     intro ty sz es cur fz hh hsz dh hfit wK dF;by_cases hlen:len=0
     .subst hlen;simp only[List.take_zero];exact .xm _ _ (fun h=>by cases h) hm
     have:=wK (.inr aa);subst this;have hle:((es.drop off).take len).length=len:=by simp;omega
     have h1:=acq (cap:=cap) (own:=own) (o:=off*sz) (es:=(es.drop off).take len) hh (sz:=sz) (fun e he=>hsz e (vO (vP he))) aa hm (E6 hsz dh hfit) dF;rw[hle] at h1;exact h1
    simp only at h;split at h
    .rename_i g' ty sz es hb;split at h
     .rename_i hc;cases h;have aU:(m.blk id).2=some (.arr ty sz es):=by rw[hb]
      obtain⟨cur,hh,jf,hsz,r9,Cp,cY,dh⟩:=ao.obj id _ aU;exact key ty sz es cur _ hh hsz (OV dh) hc.2 (by obtain⟨_,h2,_⟩:=ha sz (by rw[hb];exact hc.1) (by rw[hb];rfl);rename_i e1 _;exact e1▸h2) (hs.2 id af)
     cases h
    .rename_i g' ty sz es hb;split at h
     .rename_i hc;cases h;have aU:(m.blk id).2=some (.pG ty sz es):=by rw[hb]
      obtain⟨cur,fz,hh,jf,hsz,r9,Cp,cY,dh,_⟩:=ao.obj id _ aU;exact key ty sz es cur _ hh hsz (OV dh) hc.2 (by obtain⟨_,h2,_⟩:=ha sz (by rw[hb];exact hc.1) (by rw[hb];rfl);exact h2) (hs.2 id af)
     cases h
    .rename_i g' ty sz es hb;split at h
     .rename_i hc;split at h
      .rename_i ps q hq;cases h;have aU:(m.blk id).2=some (.iT ty sz es):=by rw[hb]
       obtain⟨cur,hh,jf,hsz,r9,Cp,cY,dh⟩:=ao.obj id _ aU;have Mw:=E6 hsz (df.pw.1 dh) hc.2;have Mz:∀e∈(es.drop off).take len,e.length=sz:=fun e he=>hsz e (vO (vP he));have hle:((es.drop off).take len).length=len:=by simp;omega
       have bh:ps.length=len:=by rw[Rf hq,hle]
       have hcap:len*sz<=(cur.toList.drop (off*sz)).length:=by
        simp;have h1:off*sz+len*sz<=es.length*sz:=by rw[<- gD];exact lL _ hc.2
        have h2:es.length*sz<=m.κ id*sz:=lL _ r9;omega
       have nE:∀(j:Nat) (e:List PV),ps[j]?=some e->Pw (bU m.w own) e (((cur.toList.drop (off*sz)).drop (j*sz)).take sz):=by intro j e he;obtain⟨x,q',h1,h2,h3⟩:=Re hq he;exact OM h2 ⟨hs.1,fun i hi=>hs.2 i (by simp[h3 i hi])⟩ (TS Mz Mw h1)
       have Er:∀e∈ps,e.length=sz:=by
        intro e he;obtain⟨j,hj⟩:=jy he;have:=(nE j e hj).1;have k8:j<len:=by rw[<- bh];exact(aV.1 hj).1
        have h1:(j+1)*sz<=len*sz:=lL _ k8;rw[gD] at h1;simp at this hcap;omega
       by_cases hlen:len=0
       .have:ps=[]:=List.eq_nil_of_length_eq_zero aa;subst this;subst hlen;exact .xm _ _ (fun h=>by cases h) hm
       obtain⟨_,h2,_⟩:=ha sz (by rw[hb];exact hc.1) (by rw[hb];rfl);rename_i e1 _;have wK:=h2 (.inr aa);subst wK;have tQ:=acq (cap:=cap) (own:=own) (o:=off*sz) hh Er aa hm (Vy Er (by rw[bh];exact hcap) nE) (hs.2 id af);rw[bh] at tQ;exact tQ
      cases h
     cases h
    cases h
  |k9 id g=>
   cases hr with
   |k9 r' hg ha=>
    have key:∀(ag:Bool) (es:List (PV×List PV)) (ents:Array MapEntry) (clock:Nat),m.w.heap[m.σ id]?=some (.map ents clock)->ents.size=es.length->
      (∀(i:Nat) (q:PV) (v:List PV) (e:MapEntry),es[i]?=some (q,v)->ents[i]?=some e->bU m.w m.own q e.key/\ ∃g:Array Value,(ag=true->e.val=.agg g)/\(ag=false-> #[e.val]=g)/\cX m.w m.own v g.toList)->
      ¬own (m.σ id)->bU m.w own (.mp ag es) (.map (some (m.σ id))):=by
     intro ag es ents clock hh hl hc dF;have hch:∃G:Nat->Array Value,∀(i:Nat) (q:PV) (v:List PV) (e:MapEntry),es[i]?=some (q,v)->ents[i]?=some e->(ag=true->e.val=.agg (G i))/\(ag=false-> #[e.val]=G i)/\cX m.w m.own v (G i).toList:=by
      refine⟨fun i=>match ents[i]? with|some e=>(match e.val with| .agg g=>if ag then g else #[e.val]|v=> #[v])|none=> #[],fun i q v e h1 h2=>?_⟩;obtain⟨_,g,g1,g2,g3⟩:=hc i q v e h1 h2;simp only[h2];cases ag with
      |true=>have:=g1 rfl;simp[this];exact g3
      |false=>
       have:=g2 rfl;subst this;refine⟨(fun h=>by cases h),(fun _=>?_),?_⟩
       .cases e.val<;>rfl
       cases hv:e.val<;>simp only[hv] at g3<;>exact g3
     obtain⟨G,hG⟩:=hch;refine .mp (m.σ id) ents clock G dF hh hl (fun i q v e h1 h2=>((hc i q v e h1 h2).1).less hs.1) (fun i q v e h1 h2=>?_) fun i q v j x u h1 h2 h3=>?_
     .obtain⟨a1,a2,a3⟩:=hG i q v e h1 h2;exact⟨by have:=a3.1;simpa using this,a1,a2⟩
     have aq:i<ents.size:=by rw[hl];exact(aV.1 h1).1
     obtain⟨a1,a2,a3⟩:=hG i q v _ h1 (Array.getElem?_eq_getElem aq);exact(a3.2 j x u h2 (by rw[Array.getElem?_toList];exact h3)).less hs.1
    simp only at h;split at h
    .rename_i g' ag es hb;split at h
     .rename_i iM;cases h;have aU:(m.blk id).2=some (.map ag es):=by rw[hb]
      have ha:=ha (by rw[hb];exact iM) (by rw[aU];rfl);subst ha;obtain⟨ents,clock,hh,hl,hc⟩:=ao.obj id _ aU;exact key ag es ents clock hh hl hc (hs.2 id af)
     cases h
    .rename_i g' ag es hb;split at h
     .rename_i iM;cases h;have aU:(m.blk id).2=some (.fmap ag es):=by rw[hb]
      have ha:=ha (by rw[hb];exact iM) (by rw[aU];rfl);subst ha;obtain⟨ents,clock,hh,hl,hc,_⟩:=ao.obj id _ aU;exact key ag es ents clock hh hl hc (hs.2 id af)
     cases h
    cases h
  |hfn f a b=>
   cases hr with
   |hfn A B hA hB uL mL=>
    simp only at h;split at h
    .rename_i xa ra xb rb h1 h2;cases h;obtain⟨s1,s2⟩:=hs.app;have p1:=OM (vs:=A.toList) h1 s1 ⟨by simpa using hA,fun j x u p q=>uL j x u p (by rw[<- Array.getElem?_toList];exact q)⟩;have p2:=OM (vs:=B.toList) h2 s2 ⟨by simpa using hB,fun j x u p q=>mL j x u p (by rw[<- Array.getElem?_toList];exact q)⟩;exact .fn A B (by have:=p1.1;simpa using this) (by have:=p2.1;simpa using this) (fun j x u p q=>p1.2 j x u p (by rw[Array.getElem?_toList];exact q)) fun j x u p q=>p2.2 j x u p (by rw[Array.getElem?_toList];exact q)
    cases h
end
end Go.Abs
namespace Go.Abs
variable {P:Program} {w0:World}
theorem ajC{blk:aB}{all:List Nat}:∀ {l:List Nat} {u:List eO},rV blk all l=some u->
  (∀e∈u,e.1∈l/\ ∃x,xL blk all e.1=some x/\e∈x)/\ ∀id∈l,∃x,xL blk all id=some x/\ ∀e∈x,e∈u:=by
 intro l
 induction l with
 |nil=>intro u h;simp[rV] at h;subst h;exact⟨fun e h=>by simp at h,fun id h=>by simp at h⟩
 |cons i r ih=>
  intro u h;simp only[rV] at h;split at h
  .rename_i a b h1 h2;cases h;obtain⟨g1,g2⟩:=ih h2;have aa2:∀e∈a,e.1=i:=by
    intro e he;unfold xL at h1;split at h1<;>first
     |(cases h1;simp at he;subst he;rfl)
     |(split at h1
       .split at h1
        .cases h1;simp at he;subst he;rfl
        cases h1
       cases h1)
     |(cases h1;simp at he)
     |cases h1
   refine⟨fun e he=>?_,fun id hid=>?_⟩
   .rcases fq.1 he with he|he
    .exact⟨by simp[aa2 e he],a,by rw[aa2 e he];exact h1,he⟩
    obtain⟨k1,k2⟩:=g1 e he;exact⟨by simp[k1],k2⟩
   rcases cT.1 hid with rfl|hid
   .exact⟨a,h1,fun e he=>by simp[he]⟩
   obtain⟨x,k1,k2⟩:=g2 id hid;exact⟨x,k1,fun e he=>by simp[k2 e he]⟩
  cases h
def Hn(blk:aB)(all:List Nat):Ob->Ob->Prop
 | .var cs,.fvar ps=>∃r,collect (snap blk dO) cs=some (ps,r)/\ ∀i∈r,i∈all
 | .arr ty sz es,.pG j4 bR iG=>j4=ty/\bR=sz/\iG=es
 | .iT ty sz es,.pG j4 bR ps=>j4=ty/\bR=sz/\ ∃r,collect (collect (snap blk dO)) es=some (ps,r)/\ ∀i∈r,i∈all
 | .map ag es,.fmap rF iG=>rF=ag/\iG=es
 |_,_=>False
theorem Hn.facts{blk:aB}{all:List Nat}{o o':Ob}(h:Hn blk all o o')(g:Nat):o.fD=true/\o'.fD=false/\kz (g,some o')=kz (g,some o):=by
 cases o<;>cases o'<;>simp only[Hn] at h<;>first
  |exact h.elim
  |exact⟨rfl,rfl,rfl⟩
  |exact⟨rfl,rfl,by simp[kz,h.2.1]⟩
theorem aam{blk:aB}{all:List Nat}{id:Nat}{x:List eO}(h:xL blk all id=some x):
  (∃o,(blk id).2=some o/\o.fD=false/\x=[])\/ ∃o o',(blk id).2=some o/\Hn blk all o o'/\x=[(id,((blk id).1,some o'))]:=by
 unfold xL at h;split at h
 .rename_i g cs hb;split at h
  .rename_i ps r hc;split at h
   .rename_i eK;cases h;refine .inr ⟨.var cs,.fvar ps,by rw[hb],⟨r,hc,fun i hi=>?_⟩,by rw[hb]⟩;have:=iC.1 eK i hi
    simpa using this
   cases h
  cases h
 .rename_i g ty sz es hb;cases h;exact .inr ⟨.arr ty sz es,.pG ty sz es,by rw[hb],⟨rfl,rfl,rfl⟩,by rw[hb]⟩
 .rename_i g ty sz es hb;split at h
  .rename_i ps r hc;split at h
   .rename_i eK;cases h;refine .inr ⟨.iT ty sz es,.pG ty sz ps,by rw[hb],⟨rfl,rfl,r,hc,fun i hi=>?_⟩,by rw[hb]⟩;have:=iC.1 eK i hi
    simpa using this
   cases h
  cases h
 .rename_i g ag es hb;cases h;exact .inr ⟨.map ag es,.fmap ag es,by rw[hb],⟨rfl,rfl⟩,by rw[hb]⟩
 .cases h
 rename_i y n1 n2 n3 n4 n5;cases h;cases hb:blk id with
 |mk g o=>
  cases o with
  |none=>exact(n5 g hb).elim
  |some o=>
   refine .inl ⟨o,rfl,?_,rfl⟩;cases o with
   |var cs=>exact(n1 g cs hb).elim
   |arr ty sz es=>exact(n2 g ty sz es hb).elim
   |iT ty sz es=>exact(n3 g ty sz es hb).elim
   |map ag es=>exact(n4 g ag es hb).elim
   |_=>rfl
def Mem.with(m:Mem)(u:List eO):Mem:={m with blk:=app u m.blk}
theorem wB{m:Mem}{ids:List Nat}{u:List eO}(h:qN m.blk ids=some u)(id:Nat):
  ((m.with u).blk id=m.blk id/\(id∈ids->∃o,(m.blk id).2=some o/\o.fD=false))\/
  (id∈ids/\ ∃o o',(m.blk id).2=some o/\Hn m.blk ids o o'/\(m.with u).blk id=((m.blk id).1,some o')):=by
 obtain⟨h1,h2⟩:=ajC h;rcases agh u m.blk id with ⟨e1,e2⟩|⟨e,he,e1,e2⟩
 .refine .inl ⟨e1,fun hid=>?_⟩;obtain⟨x,hx,hxu⟩:=h2 id hid;rcases aam hx with ⟨o,a,b,_⟩|⟨o,o',a,b,c⟩
  .exact⟨o,a,b⟩
  exact(e2 (id,(m.blk id).fst,some o') (hxu _ (by rw[c];simp)) rfl).elim
 obtain⟨k1,x,k2,k3⟩:=h1 e he;rw[e1] at k1 k2;rcases aam k2 with ⟨o,a,b,c⟩|⟨o,o',a,b,c⟩
 .rw[c] at k3;simp at k3
 rw[c] at k3;simp at k3;refine .inr ⟨k1,o,o',a,b,?_⟩;simp only[Mem.with];rw[e2,k3]
theorem TZ{m:Mem}{ids:List Nat}{u:List eO}(h:qN m.blk ids=some u){c:Nat}(hc:(m.with u).own c):m.own c:=by
 rcases hc with hc|⟨id,o,h1,h2,h3⟩
 .exact .inl hc
 rcases wB h id with ⟨e,_⟩|⟨_,p,q,a,b,e⟩
 .rw[e] at h1;exact .inr ⟨id,o,h1,h2,h3⟩
 rw[e] at h1;cases h1;rw[(b.facts 0).2.1] at h2;cases h2
theorem T0{m:Mem}(ao:Ok w0 m){ids:List Nat}{u:List eO}(h:qN m.blk ids=some u):qd m (m.with u).own ids:=by
 refine⟨fun b hb=>TZ h hb,fun id hid hc=>?_⟩;rcases wB h id with ⟨e,hn⟩|⟨_,o,o',a,b,e⟩
 .obtain⟨o,ho,hm⟩:=hn hid;exact(ao.obj id o ho).calm hm (TZ h hc)
 rcases hc with hc|⟨eV,q,h1,h2,h3⟩
 .exact(ao.ek id o a (b.facts 0).1).2 hc
 by_cases hi:eV=id
 .subst hi;rw[e] at h1;cases h1;rw[(b.facts 0).2.1] at h2;cases h2
 rcases wB h eV with ⟨e',_⟩|⟨_,p',q',a',b',e'⟩
 .rw[e'] at h1;exact hi (ao.inj eV id q o h1 h2 a (b.facts 0).1 h3)
 rw[e'] at h1;cases h1;rw[(b'.facts 0).2.1] at h2;cases h2
theorem TY{m:Mem}{ids:List Nat}{u:List eO}(h:qN m.blk ids=some u):Ev m (m.with u) where
 os:=rfl
 tape:=rfl
 output:=rfl
 size:=aZ _
 keep _ _ _:=rfl
 fD c _ hc:=by
  obtain⟨id,o,h1,h2,h3⟩:=hc;rcases wB h id with ⟨e,_⟩|⟨_,p,q,a,b,e⟩
  .rw[e] at h1;exact⟨id,o,h1,h2,h3⟩
  rw[e] at h1;cases h1;rw[(b.facts 0).2.1] at h2;cases h2
 less c _ hn hc:=hn (TZ h hc)
 gen id:=by rcases wB h id with ⟨e,_⟩|⟨_,p,q,a,b,e⟩<;>rw[e]<;>exact aZ _
 ref id he hs:=by
  rcases wB h id with ⟨e,_⟩|⟨_,p,q,a,b,e⟩
  .rw[e] at hs ⊢;exact⟨hs,rfl,rfl,rfl⟩
  rw[e] at hs ⊢;refine⟨by rw[a];rfl,rfl,rfl,?_⟩;have h1:m.blk id=((m.blk id).1,some p):=by rw[<- a]
  rw[(b.facts (m.blk id).1).2.2,<- h1]
theorem aao{m:Mem}(ao:Ok w0 m){ids:List Nat}{u:List eO}(h:qN m.blk ids=some u):Ok w0 (m.with u) where
 os:=ao.os
 tape:=ao.tape
 output:=ao.output
 size:=ao.size
 base:=ao.base
 obj id o ho:=by
  have dD:=TY h;have mw:=T0 ao h;rcases wB h id with ⟨e,_⟩|⟨hid,p,q,a,b,e⟩
  .rw[e] at ho;exact(ao.obj id o ho).ev dD.zero rfl rfl rfl
  rw[e] at ho;cases ho;have dF:=mw.2 id hid;have O0:∀r:List Nat,(∀i∈r,i∈ids)->qd m (m.with u).own r:=fun r hr=>⟨mw.1,fun i hi=>mw.2 i (hr i hi)⟩;have OZ:=ao.obj id p a;cases p<;>cases o<;>simp only[Hn] at b<;>first
   |exact b.elim
   |skip
  .obtain⟨r,hc,hr⟩:=b;obtain⟨cur,ty,hh,cY⟩:=OZ;exact⟨cur,ty,(0,0),hh,cX.pw.2 (HQ (R:=cN m) (T:=bU m.w (m.with u).own) (eQ:=qd m (m.with u).own) (fun a b h=>h.app) (fun a b r v e1 e2 e3=>JT ao _ e1 e2 e3) hc (O0 r hr) (df.pw.1 cY)),dF⟩
  .obtain⟨rfl,rfl,rfl⟩:=b;obtain⟨cur,hh,jf,hsz,hl,hm,cY,dh⟩:=OZ;exact⟨cur,(0,0),hh,jf,hsz,hl,hm,cY,dh.less mw.1,dF⟩
  .obtain⟨rfl,rfl,r,hc,hr⟩:=b;obtain⟨cur,hh,jf,hsz,hl,hm,cY,dh⟩:=OZ;rename_i es _ sz ps;have bh:ps.length=es.length:=Rf hc;have hcap:ps.length*sz<=cur.toList.length:=by
    have h2:es.length*sz<=m.κ id*sz:=lL _ hl;simp;rw[bh];omega
   have nE:∀(j:Nat) (e:List PV),ps[j]?=some e->Pw (bU m.w (m.with u).own) e ((cur.toList.drop (j*sz)).take sz):=by intro j e he;obtain⟨x,q',h1,h2,h3⟩:=Re hc he;exact HQ (R:=cN m) (T:=bU m.w (m.with u).own) (eQ:=qd m (m.with u).own) (fun a b h=>h.app) (fun a b r v e1 e2 e3=>JT ao _ e1 e2 e3) h2 (O0 q' fun i hi=>hr i (h3 i hi)) (TS hsz (df.pw.1 dh) h1)
   have Er:∀e∈ps,e.length=sz:=by intro e he;obtain⟨j,hj⟩:=jy he;have:=(nE j e hj).1;have k8:j<ps.length:=(aV.1 hj).1;have h1:(j+1)*sz<=ps.length*sz:=lL _ k8;rw[gD] at h1;simp at this hcap;omega
   exact⟨cur,(0,0),hh,jf,Er,by rw[bh];exact hl,hm,cY,cX.pw.2 (Vy Er hcap nE),dF⟩
  obtain⟨rfl,rfl⟩:=b;obtain⟨ents,clock,hh,hl,hc⟩:=OZ;exact⟨ents,clock,hh,hl,fun i q v e h1 h2=>let ⟨p,g,g1,g2,g3⟩:=hc i q v e h1 h2;⟨p.less mw.1,g,g1,g2,g3.less mw.1⟩,dF⟩
 ek id o ho hm:=by
  rcases wB h id with ⟨e,_⟩|⟨_,p,q,a,b,e⟩
  .rw[e] at ho;exact ao.ek id o ho hm
  rw[e] at ho;cases ho;rw[(b.facts 0).2.1] at hm;cases hm
 frlt:=ao.frlt
 inj id eV o o' h1 m1 h2 m2 he:=by
  rcases wB h id with ⟨e,_⟩|⟨_,p,q,a,b,e⟩
  .rcases wB h eV with ⟨e',_⟩|⟨_,p',q',a',b',e'⟩
   .rw[e] at h1;rw[e'] at h2;exact ao.inj id eV o o' h1 m1 h2 m2 he
   rw[e'] at h2;cases h2;rw[(b'.facts 0).2.1] at m2;cases m2
  rw[e] at h1;cases h1;rw[(b.facts 0).2.1] at m1;cases m1
end Go.Abs
namespace Go.Abs
variable {P:Program} {w0:World}
section
variable{w':World}
def Mem.kE(m:Mem)(w':World)(s c k:Nat)(o:Ob):Mem:=(m.later w' (· =c)).install s c k o
section
variable {m:Mem} {w':World} {s c k:Nat} {o:Ob} (hg:fm m.w w') (fG:m.w.heap.size<=c) (qP:c<w'.heap.size)
theorem Ip(ao:Ok w0 m)(fG:m.w.heap.size<=c):(m.kE w' s c k o).fr=m.fr:=by
 funext x;simp only[Mem.kE,Mem.install,Mem.later];apply propext;constructor
 .rintro ⟨h|h,h2⟩
  .exact h
  exact(h2 h).elim
 intro h;exact⟨.inl h,fun e=>by have:=ao.frlt x h;omega⟩
include hg fG
theorem Io:Ev m (m.kE w' s c k o):=Pa (Gy hg fun x hx=>by subst hx;exact fG) (.inr rfl) (.inl fG)
include qP
theorem Iq(ao:Ok w0 m)(ho:sJ (m.kE w' s c k o) s o):Ok w0 (m.kE w' s c k o):=Pb (Jl ao hg fun x hx=>by subst hx;exact⟨fG,qP⟩) (.inr rfl) (mU ao.size fG) ho
end
theorem DK{m:Mem}{s c k:Nat}{o:Ob}:(m.kE w' s c k o).σ s=c:=by simp[Mem.kE,Mem.install,aS]
theorem qj{m:Mem}{s c k:Nat}{o:Ob}:(m.kE w' s c k o).κ s=k:=by simp[Mem.kE,Mem.install,aS]
theorem TU{m:Mem}{s c k:Nat}{o:Ob}:(m.kE w' s c k o).blk=app [(s,((m.blk s).1+1,some o))] m.blk:=rfl
theorem TV{m:Mem}{s c k:Nat}{o:Ob}:(m.kE w' s c k o).w=w':=rfl
theorem Lb{m:Mem}{s c cap ty sz:Nat}{es:List (List PV)}{n:Nat}(hn:n<=cap)(hm:cap<=maxLen):
  bN (m.kE w' s c cap (.arr ty sz es)) (.one (.hsl s ((m.blk s).1+1) sz 0 n)) (.slice (some ⟨c,0,none⟩) n cap):=by
 refine bN.one.2 (.hsl _ _ ?_ hn hm fun z h1 h2=>?_)
 .simp[Mem.kE,Mem.install,Mem.later,aS]
 have:kz ((m.kE w' s c cap (.arr ty sz es)).blk s)=some sz:=by simp[Mem.kE,Mem.install,aS,kz]
 rw[this] at h2;cases h2;refine⟨rfl,fun _=>?_,by rw[jc];exact qj.symm⟩;rw[DK,yL]
theorem ajw{m:Mem}{s c cap ty sz:Nat}{es:List (List C)}{n:Nat}(hn:n<=cap)(hm:cap<=maxLen):
  bN (m.kE w' s c cap (.iT ty sz es)) (.one (.hsl s ((m.blk s).1+1) sz 0 n)) (.slice (some ⟨c,0,none⟩) n cap):=by
 refine bN.one.2 (.hsl _ _ ?_ hn hm fun z h1 h2=>?_)
 .simp[Mem.kE,Mem.install,Mem.later,aS]
 have:kz ((m.kE w' s c cap (.iT ty sz es)).blk s)=some sz:=by simp[Mem.kE,Mem.install,aS,kz]
 rw[this] at h2;cases h2;refine⟨rfl,fun _=>?_,by rw[jc];exact qj.symm⟩;rw[DK,yL]
theorem Oc{t e:TypeId}{sz bytes:Nat}{z:List PV}(h:Ak P t=some (e,sz,bytes,z)):
  ∃i v,P.underlying t=some (.slice e)/\P.info? e=some i/\i.size=sz/\i.bytes=bytes/\(0<sz/\0<bytes)/\i.zero=some v/\v.cells.size=sz/\z.length=sz/\ ∀w own,cX w own z v.cells.toList:=by
 unfold Ak at h;split at h
 .rename_i e' ht;split at h
  .rename_i i z' hi hz;split at h
   .rename_i ff;cases h;obtain⟨v,i',h1,h2,h3,h4,h5⟩:=NA hz;rw[hi] at h1;cases h1;exact⟨i,v,ht,hi,rfl,rfl,ff,h2,h3,h4,h5⟩
   cases h
  cases h
 cases h
theorem amD{R:PV->Value->Prop}{z:List PV}{v:Array Value}{sz n:Nat}(hz:Pw R z v.toList)(hsz:v.size=sz)(ff:0<sz):
  Pw R (List.replicate n z).flatten ((madeCells v (n*sz)).toList.take (n*sz)):=by
 have kM:z.length=sz:=by have:=hz.1;simp at this;omega
 have eK:∀e∈List.replicate n z,e.length=sz:=fun e he=>by rw[QE he];exact kM
 have hlen:(madeCells v (n*sz)).toList.length=n*sz:=by simp[size_madeCells]
 rw[fY aa];refine⟨by rw[hlen,FQ eK];simp,fun j x u p q=>?_⟩;have hj:j<n*sz:=by have:=(aV.1 q).1;omega
 have hdiv:j/sz<n:=by rw[Nat.div_lt_iff_lt_mul ff];exact hj
 have Gc:j%sz<sz:=dw _ ff;have he:(List.replicate n z)[j/sz]?=some z:=by simp[hdiv]
 have h1:=FP eK he Gc;rw[show j/sz*sz+j%sz=j by rw[Nat.mul_comm];exact Nat.div_add_mod j sz] at h1;rw[h1] at p;have h2:(madeCells v (n*sz)).toList[j]?=some v[j%sz]! :=by unfold madeCells;simp[hj,hsz]
 rw[h2] at q;cases q;refine hz.2 (j%sz) x _ p ?_;have:j%sz<v.size:=aa;simp[this]
section
variable {m:Mem} {aj:Env} {a:Act} {o:Oper} (ao:Ok w0 m) (hr:jr m aj a.tmps)
include ao hr
theorem apx{t e:TypeId}{l c:Operand}{l' c':aP}{s sz bytes n:Nat}{z:List PV}(ho:o.op=.makeSlice t l c)(he:Ak P t=some (e,sz,bytes,z))(hl:cn l=some l')(hc:cn c=some c')
  (hn:oZ (ev aj l')=some n) (hm:oZ (ev aj c')=some n) (kL:n*bytes<=room):
  fE P w0 a.eval o m (.one (.hsl s ((m.blk s).1+1) sz 0 n)) [(s,((m.blk s).1+1,some (.arr e sz (List.replicate n z))))]:=by
 obtain⟨i,v,ht,hi,hs,hb,⟨ff,FY⟩,hz,qZ,kM,dh⟩:=Oc he;obtain⟨k1,h1⟩:=yS hn (eE hl hr);obtain⟨k2,h2⟩:=yS hm (eE hc hr);unfold room at kL;have Un:n<=maxLen:=by have:n<=n*bytes:=NK _ FY;simp only[maxLen];omega
 have akw:(n:Int)<=9223372036854775807:=by simp[maxLen] at Un;omega
 have Ca:(i.bytes:Int)*(n:Int)<=281474976710656:=by
  have:((i.bytes*n:Nat):Int)<=281474976710656:=by rw[hb,Nat.mul_comm];omega
  rwa[Int.natCast_mul] at this
 have jV:=run_make (P:=P) m.w t e i v ht hi hz k1 k2 n n aa (Int.le_refl _) Ca akw;simp only[lJ,hs] at jV
 let m':=m.kE (m.w.alloc (.cells (madeCells v.cells (n*sz)) e)) s m.w.heap.size n (.arr e sz (List.replicate n z))
 have dD:Ev m m':=Io (fm.alloc _ _) (aZ _);have zE:sJ m' s (.arr e sz (List.replicate n z)):=by
  refine⟨_,by rw[DK];exact heap_alloc_new m.w _,ff,fun x hx=>?_,?_,?_,?_,?_⟩
  .rw[QE hx];exact kM
  .rw[qj];simp
  .rw[qj];exact Un
  .rw[qj,size_madeCells]
  rw[List.length_replicate];exact cX.pw.2 (amD (cX.pw.1 (dh _ _)) qZ ff)
 refine⟨_,m',.inl ?_,Iq (fm.alloc _ _) (aZ _) af ao zE,dD,Ip ao (aZ _),rfl,Lb (aZ _) Un⟩;simp[execOp,ho,h1,h2,jV];rfl
theorem XD{lo hi:Option Operand}{CF zx:Option aP}{n cap l h:Nat}{b:Bool}(fA:xF lo=some CF)(Ee:xF hi=some zx)(hl:rH aj 0 CF=some l)(hh:rH aj n zx=some h)
  (Ei:l<=h) (hcap:h<=cap):(Instr.sliceBounds b n cap (lo.map a.eval) (hi.map a.eval) none).run P m.w=.ok (l,h,cap) m.w:=by
 have _u0:=ao;have og:(match hi.map a.eval with|some v=>∃k,v=Value.int k (h:Int)|none=>h=n):=by
  cases hi with
  |none=>simp[xF] at Ee;subst Ee;simp[rH] at hh;simpa using hh.symm
  |some x=>simp only[xF,dy] at Ee;obtain⟨y,hy,rfl⟩:=Ee;exact yS hh (eE hy hr)
 have l8:(match lo.map a.eval with|some v=>∃k,v=Value.int k (l:Int)|none=>l=0):=by
  cases lo with
  |none=>simp[xF] at fA;subst fA;simp[rH] at hl;simpa using hl.symm
  |some x=>simp only[xF,dy] at fA;obtain⟨y,hy,rfl⟩:=fA;exact yS hl (eE hy hr)
 generalize lo.map a.eval=LO at l8;generalize hi.map a.eval=HI at og;have fG:(h:Int)<=(cap:Int):=aa;have qP:(l:Int)<=(h:Int):=aa;cases LO with
 |none=>
  simp only at l8;subst l8;cases HI with
  |none=>simp only at og;subst og;simp[Instr.sliceBounds]
  |some v=>obtain⟨k,rfl⟩:=og;simp[Instr.sliceBounds,Instr.sliceBound,asIntOf,hcap]
 |some u=>
  obtain⟨k,rfl⟩:=l8;cases HI with
  |none=>simp only at og;subst og;simp[Instr.sliceBounds,Instr.sliceBound,asIntOf,Ei]
  |some v=>obtain⟨k',rfl⟩:=og;simp[Instr.sliceBounds,Instr.sliceBound,asIntOf,hcap,Ei]
theorem apG{t:TypeId}{x:Operand}{lo hi:Option Operand}{x':aP}{CF zx:Option aP}{s:ByteArray}{l h:Nat}(ho:o.op=.slice t x lo hi none)(ht:P.underlying t=some .string)
  (hx:cn x=some x') (fA:xF lo=some CF) (Ee:xF hi=some zx) (hs:ev aj x'=.one (.p (.str s))) (hl:rH aj 0 CF=some l) (hh:rH aj s.size zx=some h) (Ei:l<=h) (hcap:h<=s.size):
  fE P w0 a.eval o m (.one (.p (.str (s.extract l h)))) []:=by
 have h1:=eE hx hr;rw[hs] at h1;have hb:=XD (P:=P) (w0:=w0) (ao:=ao) (hr:=hr) (b:=false) fA Ee hl hh Ei hcap;refine .calm ao ?_ (mz (.str _));simp[execOp,ho,MG h1,Instr.sliceAt,Instr.slice,run_underlying ht,hb]
theorem apF{t e:TypeId}{x:Operand}{lo hi:Option Operand}{x':aP}{CF zx:Option aP}{sz n l h:Nat}{v:V}(ho:o.op=.slice t x lo hi none)(ht:P.underlying t=some (.slice e))(hsz:xl P e=some sz)
  (hx:cn x=some x') (fA:xF lo=some CF) (Ee:xF hi=some zx) (hn:yu (ev aj x')=some n) (hl:rH aj 0 CF=some l) (hh:rH aj n zx=some h)
  (hv:CQ (ev aj x') sz l h=.done v [] []):fE P w0 a.eval o m v []:=by
 have h1:=eE hx hr;unfold CQ at hv;split at hv
 .cases hv
 rename_i Ei;have Ei:l<=h:=by simpa using Ei
 have run:∀(ad:Option Addr) (cap:Nat),a.eval x=.slice ad n cap->h<=cap->(execOp a.eval o).run P m.w=.ok (.value (.slice (if cap=l then ad else ad.map (·.add (l*sz))) (h-l) (cap-l))) m.w:=by intro ad cap jT hcap;have hb:=XD (P:=P) (w0:=w0) (ao:=ao) (hr:=hr) (b:=true) fA Ee hl hh Ei hcap;simp[execOp,ho,jT,Instr.sliceAt,Instr.slice,run_underlying ht,hb,Qg hsz]
 obtain⟨ad0,cap0,hsl,hncap,pK⟩:=ab2 (ao:=ao) (hr:=hr) hn h1;split at hv
 .rename_i he;split at hv
  .rename_i h0;cases hv;rw[he] at h1;have:=Pf h1;subst h0;have pI:l=0:=aa;subst pI;rw[this] at hsl;cases hsl;refine .calm ao (run none 0 this (aZ _)) ?_;simp;exact mz .nils
  cases hv
 .rename_i es he;split at hv
  .rename_i hc;cases hv;rw[he] at h1 hn;simp[yu] at hn;subst hn;obtain⟨hp⟩:cN m _ (a.eval x):=h1;generalize hb:a.eval x=b at hp;generalize gT:(PV.sl es)=pv at hp;cases hp<;>cases gT
   .rename_i ad cap Em hm;simp at hc;have hh0:h=0:=aa;subst hh0;have pI:l=0:=aa;subst pI;refine .calm ao (run ad cap hb (aY _)) (mz ?_);simp only[List.drop_nil,List.take_nil,Nat.sub_zero];refine .xm _ _ (fun h=>?_) hm;split at h
    .exact Em h
    cases ad with
    |none=>exact Em rfl
    |some ad=>simp at h
   rename_i b' o' cap bR f hm lD r9 qY rX Cy;refine .calm ao (run _ cap hb aa) (mz ?_);by_cases aq:l=h
   .subst aq;simp only[Nat.sub_self,List.take_zero];refine .xm _ _ (fun h=>?_) aa;split at h<;>simp at h
   have hlen:((es.drop l).take (h-l)).length=h-l:=by simp;omega
   have jU:es≠[]:=fun e=>by subst e;simp at hc;omega
   have UI:bR=sz:=by obtain⟨e0,r0,rfl⟩:=List.exists_cons_of_ne_nil jU;have g1:=qY e0 af;have g2:=hc.2;simp[fM] at g2;omega
   subst UI;rw[if_neg aa];simp only[kX,Addr.add_lit];have gJ:=bU.sl (w:=m.w) (own:=m.own) (es:=(es.drop l).take (h-l)) b' (o'+l*bR) (cap-l) bR (fun j=>f (l*bR+j)) (fun aK=>lD fun e0=>aK ?_) aa aa (fun e he=>qY e (vO (vP he))) ?_ ?_
   .rw[hlen] at gJ;exact gJ
   .apply List.eq_nil_of_length_eq_zero;rw[Im (fun e he=>qY e (vO he)),OB qY,e0];simp
   .intro j z hz;rw[Im (fun e he=>qY e (vO he)),OB qY,jm] at hz;split at hz
    .rw[ur] at hz;rw[Bt];exact rX _ z hz
    cases hz
   intro j z hz;rw[Im (fun e he=>qY e (vO he)),OB qY,jm] at hz;split at hz
   .rw[ur] at hz;exact Cy _ z hz
   cases hz
  cases hv
 .rename_i id g z off len he;split at hv
  .rename_i hc;cases hv;rw[he] at h1 hn;simp[yu] at hn;subst hn;have dX:cN m _ (a.eval x):=h1;generalize hb:a.eval x=b at dX;cases dX with
   |hsl ad cap hg vh hm Mc=>
    refine .calm ao (run _ cap hb aa) ?_;have UH:∃ad',(if cap=l then some ad else (some ad).map (·.add (l*sz)))=some ad'/\(cap≠l->ad'=ad.add (l*sz))/\(l=0->ad'=ad):=by
     by_cases eo:cap=l
     .exact⟨ad,by simp[eo],fun h=>(h eo).elim,fun _=>rfl⟩
     exact⟨ad.add (l*sz),by simp[eo],fun _=>rfl,fun h=>by subst h;simp[Addr.add]⟩
    obtain⟨ad',e1,e2,e3⟩:=UH;rw[e1];refine bN.one.2 (.hsl _ _ hg aa aa fun s g1 g2=>?_);obtain⟨f1,f2,f3⟩:=Mc s g1 g2;refine⟨f1,fun AM=>?_,?_⟩
    .by_cases pI:l=0
     .subst pI;rw[e3 rfl,rA];refine f2 ?_;rcases AM with h|h
      .exact .inl aa
      exact .inr aa
     have:0<h-l:=by rcases AM with h|h<;>omega
     rw[e2 aa,f2 (.inr aa),Addr.add_lit,f1,hc.2,gD]
    omega
  cases hv
 cases hv
end
end
end Go.Abs
namespace Go.Abs
variable {P:Program} {w0:World}
theorem aju(off:Nat):∀(vs:List Value) (i:Nat) (cells:Array Value),off+i+vs.length<=cells.size->
  ((vs.zipIdx i).foldl (fun cs (x:Value×Nat)=>cs.setIfInBounds (off+x.2) x.1) cells).toList=eX cells.toList (off+i) vs:=by
 intro vs
 induction vs with
 |nil=>intro i cells _;simp[eX]
 |cons v r ih=>
  intro i cells h;simp only[cE] at h;simp only[List.zipIdx_cons,uW];rw[ih (i+1) _ (by simp;omega)];unfold eX;rw[Array.toList_setIfInBounds];have aq:off+i<cells.toList.length:=by simp;omega
  have e1:(cells.toList.set (off+i) v).take (off+(i+1))=cells.toList.take (off+i)++[v]:=by rw[show off+(i+1)=(off+i)+1 by omega,List.take_succ_eq_append_getElem (by simpa using aq),List.take_set,NJ (by simp;omega)];simp
  have e2:(cells.toList.set (off+i) v).drop (off+(i+1)+r.length)=cells.toList.drop (off+(i+1)+r.length):=by rw[List.drop_set_of_lt aa]
  rw[e1,e2];simp only[cE,qG,List.singleton_append];congr 3;omega
theorem Z1{place:Nat->Option (Nat×Nat)}{i off n:Nat}{v:Value}{rest:List (Nat×Value)}{cells:Array Value}(hp:place i=some (off,n))(hv:v.cells.size=n)(hfit:off+n<=cells.size):
  ∃kB,Instr.fill place cells ((i,v)::rest)=Instr.fill place kB rest/\kB.toList=eX cells.toList off v.cells.toList:=by
 refine⟨v.cells.zipIdx.foldl (fun cs (x:Value×Nat)=>cs.setIfInBounds (off+x.2) x.1) cells,?_,?_⟩
 .simp only[Instr.fill,hp];rw[if_neg (by simp[hv];omega)]
 rw[<- Array.foldl_toList,Array.toList_zipIdx,aju off v.cells.toList 0 cells (by simp;omega)];simp
theorem Z0{m:Mem}{aj:Env}{a:Act}(hr:jr m aj a.tmps){place:Nat->Option (Nat×Nat)}{zl:Nat}:∀ {ps:List (Nat×Operand)} {qs:List (Nat×Nat×aP)} {rs:List (Nat×List C)} {cs:List C} {cells:Array Value},
  CL place zl ps=some qs->yv aj qs=some rs->df m cs cells.toList->cs.length=zl->
  ∃kB,Instr.fill place cells (ps.map fun x=>(x.1,a.eval x.2))=some kB/\df m (fill cs rs) kB.toList:=by
 intro ps
 induction ps with
 |nil=>intro qs rs cs cells h1 h2 hc hl;simp[CL] at h1;subst h1;simp[yv] at h2;subst h2;exact⟨cells,by simp[Instr.fill],by simpa [fill] using hc⟩
 |cons p t ih=>
  intro qs rs cs cells h1 h2 hc hl;obtain⟨i,x⟩:=p;simp only[CL] at h1;split at h1
  .rename_i off n a' q bh hx hq;split at h1
   .rename_i hfit;cases h1;simp only[yv] at h2;split at h2
    .rename_i DD q' hcv Gg;split at h2
     .rename_i hlen;cases h2;have hv:=Q7 hcv (eE hx hr);have hsz:(a.eval x).cells.size=n:=by have:=hv.1;simp at this;omega
      have eo:=hc.1;simp at eo;obtain⟨kB,e1,e2⟩:=Z1 (rest:=t.map fun x=>(x.1,a.eval x.2)) bh hsz (by omega:off+n<=cells.size);simp only[dG,fill];rw[e1];refine ih hq Gg ?_ (by rw[Qo aa];exact hl);rw[e2];exact df.pw.2 ((df.pw.1 hc).eX (df.pw.1 hv) off)
     cases h2
    cases h2
   cases h1
  cases h1
theorem mapM_ok{α β:Type}{f:α->Sem β}{g:α->β}{w:World}:∀ {l:List α},(∀x∈l,(f x).run P w=.ok (g x) w)->(l.mapM f).run P w=.ok (l.map g) w:=by
 intro l
 induction l with
 |nil=>intro _;simp
 |cons x r ih=>intro h;simp[List.mapM_cons,h x af,ih fun y hy=>h y (by simp[hy])]
theorem aiD{m:Mem}{aj:Env}{a:Act}(hr:jr m aj a.tmps){place:Nat->Option (Nat×Nat)}{sz:Nat}(akW:∀k,place k=some (k*sz,sz)):∀ {ps:List (Nat×Operand)} {as:List aP} {es:List (List C)} {k:Nat} {done:List Value} {cells:Array Value},
  Ih k ps=some as->ze aj sz as=some es->done.length=k*sz->cells.toList.take (k*sz)=done->cells.size=(k+as.length)*sz->
  ∃kB,Instr.fill place cells (ps.map fun x=>(x.1,a.eval x.2))=some kB/\ ∃vs,kB.toList=done++vs/\df m es.flatten vs/\(∀e∈es,e.length=sz)/\es.length=as.length:=by
 intro ps
 induction ps with
 |nil=>intro as es k done cells h1 h2 hd ht hs;simp[Ih] at h1;subst h1;simp[ze] at h2;subst h2;refine⟨cells,by simp[Instr.fill],[],?_,⟨af,fun j x u p=>by simp at p⟩,fun e he=>by simp at he,rfl⟩;rw[<- ht,oN,fY (by simp at hs ⊢;omega)]
 |cons p t ih=>
  intro as es k done cells h1 h2 hd ht hs;obtain⟨i,x⟩:=p;simp only[Ih] at h1;split at h1
  .rename_i a' q hx hq;split at h1
   .rename_i hik;cases h1;subst hik;simp only[ze] at h2;split at h2
    .rename_i DD q' hcv Gg;split at h2
     .rename_i hlen;cases h2;have hv:=Q7 hcv (eE hx hr);have hsz:(a.eval x).cells.size=sz:=by have:=hv.1;simp at this;omega
      simp only[cE] at hs;have eH:cells.size=i*sz+sz+q.length*sz:=by rw[hs,gD,gD];omega
      obtain⟨kB,e1,e2⟩:=Z1 (rest:=t.map fun x=>(x.1,a.eval x.2)) (akW i) hsz (by omega:i*sz+sz<=cells.size);have ki:kB.toList.length=cells.size:=by rw[e2,Qo (by simp;omega)];simp
      obtain⟨ahq,f1,vs,f2,f3,f4,f5⟩:=ih (k:=i+1) (done:=done++(a.eval x).cells.toList) (cells:=kB) hq Gg (by simp[hd,hsz,gD]) (by rw[e2];unfold eX;rw[ht,List.take_append_of_le_length (by simp[hd,hsz,gD])];rw[fY (by simp[hd,hsz,gD])]) (by simp at ki;rw[ki,eH,gD,gD];omega)
      simp only[dG];rw[e1];refine⟨ahq,f1,(a.eval x).cells.toList++vs,by rw[f2,qG],?_,?_,by simp[f5]⟩
      .simp only[mR];exact df.pw.2 ((df.pw.1 hv).append (df.pw.1 f3))
      intro e he;rcases cT.1 he with rfl|he
      .exact hlen
      exact f4 e he
     cases h2
    cases h2
   cases h1
  cases h1
theorem aq3{m:Mem}:∀ {es:List (List C)} {qs:List (List PV)} {vs:List Value} {sz:Nat},Bl es=some qs->(∀e∈es,e.length=sz)->df m es.flatten vs->cX m.w m.own qs.flatten vs/\(∀e∈qs,e.length=sz)/\qs.length=es.length:=by
 intro es
 induction es with
 |nil=>intro qs vs sz h _ hc;simp[Bl] at h;subst h;exact⟨⟨hc.1,fun j x u p=>by simp at p⟩,fun e he=>by simp at he,rfl⟩
 |cons e r ih=>
  intro qs vs sz h hsz hc;simp only[Bl] at h;split at h
  .rename_i v mQ h1 h2;cases h;simp only[mR] at hc;have di:=hsz e af;have fG:=(df.pw.1 hc).take e.length;have qP:=(df.pw.1 hc).drop e.length;simp only[List.take_left,List.drop_left] at fG qP;have g1:=Ns h1 (df.pw.2 fG);obtain⟨g2,g3,g4⟩:=ih h2 (fun x hx=>hsz x (by simp[hx])) (df.pw.2 qP);have ss:v.length=sz:=by
    have a1:=g1.1;have a2:=fG.1;omega
   refine⟨?_,?_,by simp[g4]⟩
   .have:=(cX.pw.1 g1).append (cX.pw.1 g2);rw[lX] at this;exact cX.pw.2 this
   intro y hy;rcases cT.1 hy with rfl|hy
   .exact ss
   exact g3 y hy
  cases h
section
variable {m:Mem} {aj:Env} {a:Act} {o:Oper} (ao:Ok w0 m) (hr:jr m aj a.tmps)
include ao hr
theorem api{t:TypeId}{ps:Array (Nat×Operand)}{fs:Array Field}{z:List PV}{qs:List (Nat×Nat×aP)}{rs:List (Nat×List C)}(ho:o.op=.build t ps)(ht:P.underlying t=some (.struct fs))(hz:Ac P t=some z)
  (eK:fs.all (fun f=>(P.info? f.type).isSome)=true) (hp:CL (fun i=>(fs[i]?).map fun f=>(f.offset,P.cellsOf f.type)) z.length ps.toList=some qs) (hv:yv aj qs=some rs):
  fE P w0 a.eval o m (.agg (fill (z.map .p) rs)) []:=by
 obtain⟨v,i,hi,hiv,hs,hl,dh⟩:=NA hz;obtain⟨kB,h1,h2⟩:=Z0 hr hp hv (dh m.w m.own).Da af;refine .calm (x:=.agg kB) ao ?_ (bN.agg.2 ⟨_,rfl,h2⟩);have Gf:(fs.mapM (fun f=>do pure (f.offset,<- sizeOf f.type):Field->Sem (Nat×Nat))).run P m.w=.ok (fs.map fun f=>(f.offset,P.cellsOf f.type)) m.w:=by
  rw[Array.mapM_eq_mapM_toList];have:=mapM_ok (P:=P) (f:=(fun f=>do pure (f.offset,<- sizeOf f.type):Field->Sem (Nat×Nat))) (g:=fun f=>(f.offset,P.cellsOf f.type)) (w:=m.w) (l:=fs.toList) (fun f hf=>by
   have:=Array.all_eq_true_iff_forall_mem.1 eK f (by simpa using hf);cases Aq:P.info? f.type with
   |none=>rw[Aq] at this;cases this
   |some i=>simp[sizeOf,typeInfo,Aq,Program.cellsOf])
  rw[Sem.run_map,this];simp only[Result.andThen_ok];congr 1;apply Array.ext';simp
 have DZ:Instr.fill (fun x=>(fs.map fun f=>(f.offset,P.cellsOf f.type))[x]?) v.cells (ps.map fun x=>(x.1,a.eval x.2)).toList=some kB:=by simpa using h1
 simp only[execOp,ho,Instr.build,zeroValue,typeInfo,Sem.run_bind,run_program,Result.andThen_ok,hi,hiv,Sem.run_pure,run_underlying ht,Gf,DZ]
theorem aph{t e:TypeId}{n:Nat}{ps:Array (Nat×Operand)}{i:TypeInfo}{z:List PV}{qs:List (Nat×Nat×aP)}{rs:List (Nat×List C)}(ho:o.op=.build t ps)(ht:P.underlying t=some (.array n e))(hz:Ac P t=some z)
  (hie:P.info? e=some i) (hp:CL (fun k=>some (k*i.size,i.size)) z.length ps.toList=some qs) (hv:yv aj qs=some rs):
  fE P w0 a.eval o m (.agg (fill (z.map .p) rs)) []:=by
 obtain⟨v,i',hi,hiv,hs,hl,dh⟩:=NA hz;obtain⟨kB,h1,h2⟩:=Z0 hr hp hv (dh m.w m.own).Da af;refine .calm (x:=.agg kB) ao ?_ (bN.agg.2 ⟨_,rfl,h2⟩);have DZ:Instr.fill (fun k=>some (k*i.size,i.size)) v.cells (ps.map fun x=>(x.1,a.eval x.2)).toList=some kB:=by simpa using h1
 simp only[execOp,ho,Instr.build,zeroValue,sizeOf,typeInfo,Sem.run_bind,run_program,Result.andThen_ok,hi,hie,hiv,Sem.run_pure,run_underlying ht,DZ]
theorem apf{t e:TypeId}{n sz bytes s:Nat}{z:List PV}{ps:Array (Nat×Operand)}{as:List aP}{es:List (List C)}(ho:o.op=.buildSlice t n ps)(he:Ak P t=some (e,sz,bytes,z))(hp:Ih 0 ps.toList=some as)
  (hn:as.length=n) (aj5:n*sz<=16777216) (hv:ze aj sz as=some es):
  (∀qs,Bl es=some qs->fE P w0 a.eval o m (.one (.hsl s ((m.blk s).1+1) sz 0 es.length)) [(s,((m.blk s).1+1,some (.arr e sz qs)))])/\
  fE P w0 a.eval o m (.one (.hsl s ((m.blk s).1+1) sz 0 es.length)) [(s,((m.blk s).1+1,some (.iT e sz es)))]:=by
 obtain⟨i,v,ht,hi,hs,hb,⟨ff,_⟩,wR,qZ,kM,dh⟩:=Oc he;subst hn;obtain⟨kB,f1,vs,f2,f3,f4,f5⟩:=aiD (place:=fun k=>some (k*sz,sz)) (done:=[]) (cells:=(Array.range (as.length*sz)).map ((if as.length*sz=0 then #[] else v.cells)[· %(if as.length*sz=0 then #[] else v.cells).size]!)) hr (fun _=>rfl) hp hv af af af;have jV:(execOp a.eval o).run P m.w=.ok (.value (.slice (some ⟨m.w.heap.size,0,none⟩) es.length es.length)) (m.w.alloc (.cells kB e)):=by
  have DZ:Instr.fill (fun k=>some (k*sz,sz)) ((Array.range (as.length*sz)).map ((if as.length*sz=0 then #[] else v.cells)[· %(if as.length*sz=0 then #[] else v.cells).size]!)) (ps.map fun x=>(x.1,a.eval x.2)).toList=some kB:=by simpa using f1
  have hnb:¬(16777216<as.length*sz):=aa;have abe:¬(as.length*sz>2 ^ 24):=aa;by_cases h0:as.length*sz=0
  .simp only[if_pos h0] at DZ;simp only[execOp,ho,Instr.buildSlice,Sem.run_bind,run_underlying ht,Result.andThen_ok,sizeOf,typeInfo,run_program,hi,Sem.run_pure,hs,if_neg abe,if_pos h0,DZ,newRow,run_newObj,f5];rfl
  simp only[if_neg h0] at DZ;simp only[execOp,ho,Instr.buildSlice,Sem.run_bind,run_underlying ht,Result.andThen_ok,sizeOf,typeInfo,run_program,hi,Sem.run_pure,hs,if_neg abe,if_neg h0,zeroValue,wR,DZ,newRow,run_newObj,f5];rfl
 simp at f2;have eo:kB.size=es.length*sz:=by
  have h1:=f3.1;rw[FQ f4] at h1;have:kB.toList.length=vs.length:=by rw[f2]
  simp at this;omega
 have Mj:es.length<=maxLen:=by have:es.length<=es.length*sz:=NK _ ff;simp only[maxLen];rw[f5] at this ⊢;omega
 have I6:kB.toList.take (es.length*sz)=vs:=by rw[fY (by simp;omega),f2]
 constructor
 .intro qs hq;have dD:Ev m (m.kE (m.w.alloc (.cells kB e)) s m.w.heap.size es.length (.arr e sz qs)):=Io (fm.alloc _ _) (aZ _);obtain⟨g1,g2,g3⟩:=aq3 hq f4 (f3.ev dD.zero);refine⟨_,m.kE (m.w.alloc (.cells kB e)) s m.w.heap.size es.length (.arr e sz qs),.inl jV,Iq (fm.alloc _ _) (aZ _) af ao ?_,dD,Ip ao (aZ _),rfl,Lb (aZ _) Mj⟩;exact⟨kB,by rw[DK];exact heap_alloc_new m.w _,ff,g2,by rw[qj,g3];exact aZ _,by rw[qj];exact Mj,by rw[qj,eo],by rw[g3,I6];exact g1⟩
 have dD:Ev m (m.kE (m.w.alloc (.cells kB e)) s m.w.heap.size es.length (.iT e sz es)):=Io (fm.alloc _ _) (aZ _);refine⟨_,m.kE (m.w.alloc (.cells kB e)) s m.w.heap.size es.length (.iT e sz es),.inl jV,Iq (fm.alloc _ _) (aZ _) af ao ?_,dD,Ip ao (aZ _),rfl,ajw (aZ _) Mj⟩;exact⟨kB,by rw[DK];exact heap_alloc_new m.w _,ff,f4,by rw[qj];exact aZ _,by rw[qj];exact Mj,by rw[qj,eo],by rw[I6];exact f3.ev dD.zero⟩
end
end Go.Abs
namespace Go.Abs
variable {P:Program} {w0:World}
theorem Kx(a b:List eO)(blk:aB):app (a++b) blk=app b (app a blk):=by
 induction a generalizing blk with
 |nil=>rfl
 |cons x r ih=>obtain⟨i,o⟩:=x;simp only[mq,app];exact ih _
theorem aml{m:Mem}{zh:Nat->Prop}(hf:∀c,zh c->m.fr c){c:Nat}(h:({m with fr:=zh}:Mem).own c):m.own c:=by
 rcases h with h|h
 .exact .inl (hf c h)
 exact .inr h
theorem Pm{m:Mem}{zh:Nat->Prop}(hf:∀c,zh c->m.fr c):Ev m {m with fr:=zh}:=
 ⟨rfl,rfl,rfl,aZ _,fun _ _ _=>rfl,fun _ _ h=>h,fun _ _ hn h=>hn (aml hf h),fun _=>aZ _,fun _ _ h=>⟨h,rfl,rfl,rfl⟩⟩
theorem U2{m:Mem}{zh:Nat->Prop}(h:Ok w0 m)(hf:∀c,zh c->m.fr c):Ok w0 {m with fr:=zh} where
 os:=h.os
 tape:=h.tape
 output:=h.output
 size:=h.size
 base:=h.base
 obj id o ho:=(h.obj id o ho).ev (Pm hf).zero rfl rfl rfl
 ek id o ho hm:=⟨(h.ek id o ho hm).1,fun hc=>(h.ek id o ho hm).2 (hf _ hc)⟩
 frlt c hc:=h.frlt c (hf c hc)
 inj:=h.inj
theorem adY{m:Mem}{w':World}{c:Nat}(h:Ok w0 m)(hc:m.fr c)(fA:w0.heap.size<=c)(vk:w'.os=m.w.os)(ht:w'.tape=m.w.tape)(l9:w'.output=m.w.output)(hs:w'.heap.size=m.w.heap.size)
  (hk:∀x,x≠c->w'.heap[x]?=m.w.heap[x]?):Ok w0 {m with w:=w'} where
 os:=vk.trans h.os
 tape:=ht.trans h.tape
 output:=l9.trans h.output
 size:=mU h.size (Bu hs.symm)
 base x hx:=(hk x aa).trans (h.base x hx)
 obj id o ho:=by
  have aK:m.σ id≠c:=by
   intro e;cases hm:o.fD with
   |true=>exact(h.ek id o ho hm).2 (e▸hc)
   |false=>exact(h.obj id o ho).calm hm (.inl (e▸hc))
  exact(h.obj id o ho).ev (m':={m with w:=w'}) ⟨fun x _ hn=>⟨hk x fun e=>hn (.inl (e▸hc)),hn⟩,fun _=>aZ _,fun _ _ h=>⟨h,rfl,rfl,rfl⟩⟩ rfl rfl (hk _ aK)
 ek:=h.ek
 frlt x hx:=by rw[show({m with w:=w'}:Mem).w.heap.size=m.w.heap.size from hs];exact h.frlt x hx
 inj:=h.inj
theorem YK{m:Mem}(ao:Ok w0 m){own:Nat->Prop}{x:V}{v:Value}{new:List (List PV)}{rd fr:List Nat}(h:eT m.blk x=some (new,rd,fr))(hv:bN m x v)(hs:qd m own fr):
  ∃ax cx,v=.slice ax new.length cx/\(∀z,lI x=some z->∀e∈new,e.length=z)/\
   (new≠[]->∃b o news,ax=some ⟨b,o,none⟩/\Pw (bU m.w own) new.flatten news/\ ∀(j:Nat) (u:Value),news[j]?=some u->m.w.cell? ⟨b,o+j,none⟩=some u):=by
 have row:∀(c off sz len:Nat) (cur:Array Value) (ty:TypeId) (fz:Nat×Nat) (ps:List (List PV)),m.w.heap[c]?=some (.cells cur ty fz)->Pw (bU m.w own) ps.flatten ((cur.toList.drop (off*sz)).take (ps.length*sz))->
   ∃b o news,some (⟨c,off*sz,none⟩:Addr)=some ⟨b,o,none⟩/\Pw (bU m.w own) ps.flatten news/\ ∀(j:Nat) (u:Value),news[j]?=some u->m.w.cell? ⟨b,o+j,none⟩=some u:=by
  intro c off sz len cur ty fz ps hh hp;refine⟨c,off*sz,_,rfl,hp,fun j u hj=>?_⟩;rw[jm] at hj;split at hj
  .rw[BP hh];simpa using hj
  cases hj
 unfold eT at h;split at h
 .cases h;exact⟨none,0,Pf hv,fun z hz=>by simp[lI] at hz,fun h=>(h rfl).elim⟩
 .rename_i es;cases h;obtain⟨hp⟩:cN m _ v:=hv;generalize gT:(PV.sl new)=pv at hp;cases hp<;>cases gT
  .exact⟨_,_,rfl,fun z hz=>by simp[lI] at hz,fun h=>(h rfl).elim⟩
  rename_i b o cap sz f hm ho hl hsz rX Cy;refine⟨_,_,rfl,fun z hz=>by simp[lI] at hz,fun _=>⟨b,o,(List.range new.flatten.length).map f,rfl,⟨af,fun j y u p q=>?_⟩,fun j u q=>?_⟩⟩
  .have hj:j<new.flatten.length:=(aV.1 p).1;rw[fX,tu hj] at q;simp at q;subst q;exact(Cy j y p).less hs.1
  have hj:j<new.flatten.length:=by have:=(aV.1 q).1;simpa using this
  rw[fX,tu hj] at q;simp at q;subst q;exact rX j _ (oQ hj)
 .rename_i id g z off len;have dX:cN m _ v:=hv;cases dX with
  |hsl ad cap hg hl hm Mc=>
   split at h
   .rename_i g' ty sz es hb;split at h
    .rename_i hc;cases h;have aU:(m.blk id).2=some (.arr ty sz es):=by rw[hb]
     obtain⟨cur,hh,jf,hsz,l7,mJ,cY,dh⟩:=ao.obj id _ aU;obtain⟨e1,e2,e3⟩:=Mc sz (by rw[hb];exact hc.1) (by rw[hb];rfl);have hlen:((es.drop off).take len).length=len:=by simp;omega
     refine⟨some ad,cap,by rw[hlen],fun z' my e he=>?_,fun aK=>?_⟩
     .simp[lI] at my;subst my;rw[<- e1];exact hsz e (vO (vP he))
     have:0<len:=by
      cases len with
      |zero=>simp at aK
      |succ n=>omega
     rw[e2 (.inr this)];exact row (m.σ id) off sz len cur ty _ _ hh (E6 hsz (cX.pw.1 (dh.less hs.1)) hc.2)
    cases h
   .rename_i g' ty sz es hb;split at h
    .rename_i hc;cases h;have aU:(m.blk id).2=some (.pG ty sz es):=by rw[hb]
     obtain⟨cur,fz,hh,jf,hsz,l7,mJ,cY,dh,_⟩:=ao.obj id _ aU;obtain⟨e1,e2,e3⟩:=Mc sz (by rw[hb];exact hc.1) (by rw[hb];rfl);have hlen:((es.drop off).take len).length=len:=by simp;omega
     refine⟨some ad,cap,by rw[hlen],fun z' my e he=>?_,fun aK=>?_⟩
     .simp[lI] at my;subst my;rw[<- e1];exact hsz e (vO (vP he))
     have:0<len:=by
      cases len with
      |zero=>simp at aK
      |succ n=>omega
     rw[e2 (.inr this)];exact row (m.σ id) off sz len cur ty _ _ hh (E6 hsz (cX.pw.1 (dh.less hs.1)) hc.2)
    cases h
   .rename_i g' ty sz es hb;split at h
    .rename_i hc;split at h
     .rename_i ps q hq;cases h;have aU:(m.blk id).2=some (.iT ty sz es):=by rw[hb]
      obtain⟨cur,hh,jf,hsz,l7,mJ,cY,dh⟩:=ao.obj id _ aU;obtain⟨e1,e2,e3⟩:=Mc sz (by rw[hb];exact hc.1) (by rw[hb];rfl);have hle:((es.drop off).take len).length=len:=by simp;omega
      have bh:new.length=len:=by rw[Rf hq,hle]
      have Mw:=E6 hsz (df.pw.1 dh) hc.2;have Mz:∀e∈(es.drop off).take len,e.length=sz:=fun e he=>hsz e (vO (vP he));have hcap:len*sz<=(cur.toList.drop (off*sz)).length:=by
       simp;have h1:off*sz+len*sz<=es.length*sz:=by rw[<- gD];exact lL _ hc.2
       have h2:es.length*sz<=m.κ id*sz:=lL _ l7;omega
      have nE:∀(j:Nat) (e:List PV),new[j]?=some e->Pw (bU m.w own) e (((cur.toList.drop (off*sz)).drop (j*sz)).take sz):=by intro j e he;obtain⟨x,q',h1,h2,h3⟩:=Re hq he;exact HQ (R:=cN m) (T:=bU m.w own) (eQ:=qd m own) (fun a b h=>h.app) (fun a b r v e1 e2 e3=>JT ao _ e1 e2 e3) h2 ⟨hs.1,fun i hi=>hs.2 i (h3 i hi)⟩ (TS Mz Mw h1)
      have Er:∀e∈new,e.length=sz:=by
       intro e he;obtain⟨j,hj⟩:=jy he;have:=(nE j e hj).1;have k8:j<len:=by rw[<- bh];exact(aV.1 hj).1
       have h1:(j+1)*sz<=len*sz:=lL _ k8;rw[gD] at h1;simp at this hcap;omega
      refine⟨some ad,cap,by rw[bh],fun z' my e he=>?_,fun aK=>?_⟩
      .simp[lI] at my;subst my;rw[<- e1];exact Er e he
      have:0<len:=by rw[<- bh];exact iR.2 aK
      rw[e2 (.inr this)];refine row (m.σ id) off sz len cur ty _ _ hh ?_;rw[bh];have:=Vy Er (by rw[bh];exact hcap) nE;rw[bh] at this;exact this
     cases h
    cases h
   split at h
   .rename_i pI;cases h;exact⟨some ad,cap,by rw[pI];rfl,fun z' _ e he=>by simp at he,fun h=>(h rfl).elim⟩
   cases h
 cases h
end Go.Abs
namespace Go.Abs
variable {P:Program} {w0:World}
theorem adA{w:World}{own:Nat->Prop}{xs:List PV}{vs:List Value}(h:Pw (bU w own) xs vs):∀u∈vs,u.oneCell'=true:=by
 intro v hv;obtain⟨j,hj⟩:=jy hv;have aq:j<xs.length:=by rw[<- h.1];exact(aV.1 hj).1
 exact(h.2 j _ v (oQ aq) hj).MX
theorem Lc{m:Mem}{ids:List Nat}{u:List eO}(h:qN m.blk ids=some u)(id:Nat):(app u m.blk id).1=(m.blk id).1:=by
 rcases wB h id with ⟨e,_⟩|⟨_,p,q,a,b,e⟩
 .exact congrArg Prod.fst e
 have:=congrArg Prod.fst e;exact this
theorem YA{m:Mem}{id:Nat}{o:Ob}{w':World}(ho:(m.blk id).2=some o)(hm:o.fD=true)(vk:w'.os=m.w.os)(ht:w'.tape=m.w.tape)(l9:w'.output=m.w.output)(hs:w'.heap.size=m.w.heap.size)
  (hk:∀x,x≠m.σ id->w'.heap[x]?=m.w.heap[x]?):Ev m {m.ie id with w:=w'} where
 os:=vk
 tape:=ht
 output:=l9
 size:=Bu hs.symm
 keep c _ hn:=hk c fun e=>hn ⟨id,o,ho,hm,e.symm⟩
 fD:=(FK ho hm).fD
 less:=(FK ho hm).less
 gen:=(FK ho hm).gen
 ref:=(FK ho hm).ref
theorem aoB{m:Mem}(ao:Ok w0 m){id s:Nat}{ob:Ob}{w':World}{uC:Array Value}{ty sz:Nat}{iG:List (List PV)}(ho:(m.blk id).2=some ob)(hm:ob.fD=true)(ff:0<sz)(vk:w'.os=m.w.os)(ht:w'.tape=m.w.tape)(l9:w'.output=m.w.output)(hs:w'.heap.size=m.w.heap.size)
  (hk:∀x,x≠m.σ id->w'.heap[x]?=m.w.heap[x]?) (hh:w'.heap[m.σ id]?=some (.cells uC ty (0,0))) (hsz:∀e∈iG,e.length=sz) (hl:iG.length<=m.κ id) (sa:m.κ id<=maxLen) (cY:uC.size=m.κ id*sz)
  (hp:Pw (bU m.w m.own) iG.flatten (uC.toList.take (iG.length*sz))):
  ∃m',m'.w=w'/\Ok w0 m'/\Ev m m'/\m'.fr=m.fr/\m'.blk=cZ (cZ m.blk id ((m.blk id).1,none)) s ((m.blk s).1+1,some (.arr ty sz iG))/\
   bN m' (.one (.hsl s ((m.blk s).1+1) sz 0 iG.length)) (.slice (some ⟨m.σ id,0,none⟩) iG.length (m.κ id)):=by
 have Cg:=YA ho hm vk ht l9 hs hk;have fA:=(ao.ek id ob ho hm).1;have Uv:Ok w0 {m.ie id with w:=w'}:=adY (m:=m.ie id) (RP ao ho hm) (.inr rfl) fA vk ht l9 hs hk;have dD:Ev m ((({m.ie id with w:=w'}:Mem)).install s (m.σ id) (m.κ id) (.arr ty sz iG)):=Pa Cg (.inr rfl) (.inr ⟨id,ob,ho,hm,rfl⟩);have tS:((({m.ie id with w:=w'}:Mem)).blk s).1=(m.blk s).1:=by
  simp only[Mem.ie,aS];split
  .rename_i e;subst e;rfl
  rfl
 have hσ:((({m.ie id with w:=w'}:Mem)).install s (m.σ id) (m.κ id) (.arr ty sz iG)).σ s=m.σ id:=by simp[Mem.install,aS]
 have hκ:((({m.ie id with w:=w'}:Mem)).install s (m.σ id) (m.κ id) (.arr ty sz iG)).κ s=m.κ id:=by simp[Mem.install,aS]
 refine⟨_,rfl,Pb Uv (.inr rfl) fA ?_,dD,?_,?_,?_⟩
 .exact⟨uC,by rw[hσ];exact hh,ff,hsz,by rw[hκ];exact hl,by rw[hκ];exact sa,by rw[hκ];exact cY,cX.ev dD.zero (cX.pw.2 hp)⟩
 .funext x;simp only[Mem.install,Mem.ie];apply propext;constructor
  .rintro ⟨h|h,h2⟩
   .exact h
   exact(h2 h).elim
  intro h;exact⟨.inl h,fun e=>(ao.ek id ob ho hm).2 (e▸h)⟩
 .simp only[Mem.install];rw[tS];rfl
 refine bN.one.2 (.hsl _ _ ?_ hl sa fun z h1 h2=>?_)
 .simp only[Mem.install,aS,if_true];rw[tS];exact aZ _
 have:kz (((({m.ie id with w:=w'}:Mem)).install s (m.σ id) (m.κ id) (.arr ty sz iG)).blk s)=some sz:=by simp[Mem.install,aS,kz]
 rw[this] at h2;cases h2;exact⟨rfl,fun _=>by rw[hσ,yL],by rw[jc];exact hκ.symm⟩
theorem aoZ{P:Program}(w:World)(t ty e:TypeId)(i:TypeInfo)(z:Value)(ht:P.underlying t=some (.slice e))(hi:P.info? e=some i)(hz:i.zero=some z)
  (az:Option Addr) (a:Addr) (n c:Nat) (news:List Value) (hl:news.length=n*i.size) (yj:∀j v,news[j]?=some v->w.cell? (a.add j)=some v)
  (h0:0<n) (h63:(n:Int)<=9223372036854775807) (Lq:n*i.bytes<=281474976710656):
  (Builtin.append_ #[t,t] ty #[.slice az 0 0,.slice (some a) n c]).run P w=
   .ok (.slice (some ⟨w.heap.size,0,none⟩) n (grownCap w n 0 e)) (w.drew.alloc (.cells (news.toArray++Builtin.zeroCells z.cells (grownCap w n 0 e-n)) e)):=by
 cases az with
 |none=>exact run_append_nil w t ty e i z ht hi hz a n c news hl yj h0 h63 Lq
 |some b=>have h:=run_append_grow (P:=P) w t ty e i z ht hi hz b 0 0 [] af (fun j v h=>by simp at h) a n c news hl yj aa (by simpa using h63) (by rw[jc,nextslicecap_zero h0];exact Lq);rw[jc] at h;rw[h];simp
theorem aoY{P:Program}(w:World)(t ty e:TypeId)(i:TypeInfo)(ht:P.underlying t=some (.slice e))(hi:P.info? e=some i)
  (g off sLen sCap:Nat) (cur:Array Value) (hg:w.heap[g]?=some (.cells cur e (0,0)))
  (a:Addr) (m c:Nat) (news:List Value) (hl:news.length=m*i.size) (yj:∀j u,news[j]?=some u->w.cell? (a.add j)=some u) (h1:∀u∈news,u.oneCell'=true)
  (kL:sLen+m<=sCap) (hfit:off+sLen*i.size+news.length<=cur.size):
  (Builtin.append_ #[t,t] ty #[.slice (some ⟨g,off,none⟩) sLen sCap,.slice (some a) m c]).run P w=
   .ok (.slice (some ⟨g,off,none⟩) (sLen+m) sCap) (w.setRow g (cur.toList.take (off+sLen*i.size)++news++cur.toList.drop (off+sLen*i.size+news.length)).toArray):=by
 have hf:=run_firstCells_some (P:=P) w i.size m a m c news hl yj;have cA:=run_storeCells_at P g (off+sLen*i.size) e news 0 cur w hg (by simpa using hfit) h1;simp only[rA] at cA;simp[Builtin.append_,run_underlying ht,sizeOf,typeInfo,hi,Builtin.lenOf,kL,hf,Addr.add_lit,cA]
section
variable {m:Mem} {aj:Env} {a:Act} {o:Oper} (ao:Ok w0 m) (hr:jr m aj a.tmps)
include ao hr
theorem apc{c:Call}{d x:Operand}{d' x':aP}{t e:TypeId}{s sz bytes:Nat}{z:List PV}{v:V}{u:List eO}{rd:List Nat}(ho:o.op=.call c)(hc:c.callee=.builtin .append)(has:c.args= #[d,x])(gh:c.argTypes= #[t,t])
  (he:Ak P t=some (e,sz,bytes,z)) (hd:cn d=some d') (hx:cn x=some x') (hv:fj m.blk s e sz bytes (ev aj d') (ev aj x')=.done v u rd):fE P w0 a.eval o m v u:=by
 obtain⟨i,zv,ht,hi,hs,hb,⟨ff,FY⟩,wR,I8,kM,dh⟩:=Oc he;have pN:=eE hd hr;have lE:=eE hx hr;have run:∀(y:Value) (w':World),(Builtin.append_ #[t,t] o.type #[a.eval d,a.eval x]).run P m.w=.ok y w'->(execOp a.eval o).run P m.w=.ok (.value y) w':=by intro y w' h;simp[execOp,ho,resolve,hc,has,gh,invoke,builtin,h]
 unfold fj at hv;split at hv
 .cases hv
 rename_i new rd' fr di;split at hv
 .cases hv
 rename_i alb;split at hv
 .cases hv
 rename_i fu qw;have nA:=aao ao qw;have ve:=TY qw;have mw:=T0 ao qw;obtain⟨ax,cx,wY,ala,yj⟩:=YK ao di lE mw;have eK:∀e∈new,e.length=sz:=by
  have:lI (ev aj x')=some sz\/fM sz new=true:=Classical.not_not.1 alb;rcases this with h|h
  .exact ala sz h
  intro e he;have:=iC.1 h e he
  simpa using this
 have Ma:new.flatten.length=new.length*sz:=FQ eK;split at hv
 · -- nil
  rename_i F2;rw[F2] at pN;have sV:=Pf pN;split at hv
  .rename_i fR;cases hv;refine⟨.slice none 0 0,m.with u,.inl (run _ _ ?_),nA,ve,rfl,rfl,mz .nils⟩;rw[sV,wY,fR];cases ax<;>simp[Builtin.append_,run_underlying ht,sizeOf,typeInfo,hi,Builtin.lenOf,Builtin.firstCells,loadCells,loadCellsFrom,Mem.with]
  rename_i fR;split at hv
  .rename_i kL;cases hv;have aK:new≠[]:=fun h=>fR (by simp[h]);obtain⟨b,off,news,rfl,qX,xY⟩:=yj aK;unfold room at kL;have ir:news.length=new.length*i.size:=by rw[qX.1,Ma,hs]
   have Cr:new.length<=maxLen/\(new.length:Int)<=9223372036854775807:=by have:new.length<=new.length*bytes:=NK _ FY;simp only[maxLen];omega
   have jV:=run_append_nil (P:=P) m.w t o.type e i zv ht hi wR ⟨b,off,none⟩ new.length cx news ir (fun j v hj=>by rw[Addr.add_lit];exact xY j v hj) aa Cr.2 (by rw[hb];omega);generalize hW:m.w.drew.alloc (.cells (news.toArray++Builtin.zeroCells zv.cells (grownCap m.w new.length 0 e-new.length)) e)=W at jV;have hg:fm (m.with fu).w W:=by rw[<- hW];exact(fm.drew _).trans (fm.alloc _ _)
   have hcap:=grownCap_ge m.w new.length 0 e;have LI:=grownCap_le_maxLen m.w new.length 0 e Cr.1;have Cg:Ev (m.with fu) ((m.with fu).kE W s m.w.heap.size (grownCap m.w new.length 0 e) (.arr e sz new)):=Io hg (aZ _);have tS:=Lc qw s;refine⟨_,(m.with fu).kE W s m.w.heap.size (grownCap m.w new.length 0 e) (.arr e sz new),.inl (run _ _ (by rw[sV,wY];exact jV)),Iq hg (aZ _) (by rw[<- hW];simp) nA ?_,ve.trans Cg,Ip nA (aZ _),?_,?_⟩
   .refine⟨_,by rw[DK,TV,<- hW];exact heap_alloc_new m.w.drew _,ff,eK,by rw[qj];exact hcap,by rw[qj];exact LI,?_,?_⟩
    .rw[qj];simp only[Array.size_append,List.size_toArray,size_zeroCells,I8,ir,hs,<- gD];congr 1;omega
    have:(news.toArray++Builtin.zeroCells zv.cells (grownCap m.w new.length 0 e-new.length)).toList.take (new.length*sz)=news:=by simp only[Array.toList_append];rw[<- hs,<- ir];exact List.take_left
    rw[this];exact cX.ev Cg.zero (cX.pw.2 qX)
   .rw[Kx,TU];simp only[Mem.with];rw[tS]
   have:=Lb (m:=m.with fu) (w':=W) (s:=s) (c:=m.w.heap.size) (ty:=e) (sz:=sz) (es:=new) hcap LI;simp only[Mem.with] at this;rw[tS] at this;exact this
  cases hv
 · -- an empty slice without room
  rename_i F2;rw[F2] at pN;obtain⟨az,sV⟩:=alF pN;split at hv
  .cases hv
  rename_i fR;split at hv
  .rename_i kL;cases hv;have aK:new≠[]:=fun h=>fR (by simp[h]);obtain⟨b,off,news,rfl,qX,xY⟩:=yj aK;unfold room at kL;have ir:news.length=new.length*i.size:=by rw[qX.1,Ma,hs]
   have Cr:new.length<=maxLen/\(new.length:Int)<=9223372036854775807:=by have:new.length<=new.length*bytes:=NK _ FY;simp only[maxLen];omega
   have jV:=aoZ (P:=P) m.w t o.type e i zv ht hi wR az ⟨b,off,none⟩ new.length cx news ir (fun j v hj=>by rw[Addr.add_lit];exact xY j v hj) aa Cr.2 (by rw[hb];omega);generalize hW:m.w.drew.alloc (.cells (news.toArray++Builtin.zeroCells zv.cells (grownCap m.w new.length 0 e-new.length)) e)=W at jV;have hg:fm (m.with fu).w W:=by rw[<- hW];exact(fm.drew _).trans (fm.alloc _ _)
   have hcap:=grownCap_ge m.w new.length 0 e;have LI:=grownCap_le_maxLen m.w new.length 0 e Cr.1;have Cg:Ev (m.with fu) ((m.with fu).kE W s m.w.heap.size (grownCap m.w new.length 0 e) (.arr e sz new)):=Io hg (aZ _);have tS:=Lc qw s;refine⟨_,(m.with fu).kE W s m.w.heap.size (grownCap m.w new.length 0 e) (.arr e sz new),.inl (run _ _ (by rw[sV,wY];exact jV)),Iq hg (aZ _) (by rw[<- hW];simp) nA ?_,ve.trans Cg,Ip nA (aZ _),?_,?_⟩
   .refine⟨_,by rw[DK,TV,<- hW];exact heap_alloc_new m.w.drew _,ff,eK,by rw[qj];exact hcap,by rw[qj];exact LI,?_,?_⟩
    .rw[qj];simp only[Array.size_append,List.size_toArray,size_zeroCells,I8,ir,hs,<- gD];congr 1;omega
    have:(news.toArray++Builtin.zeroCells zv.cells (grownCap m.w new.length 0 e-new.length)).toList.take (new.length*sz)=news:=by simp only[Array.toList_append];rw[<- hs,<- ir];exact List.take_left
    rw[this];exact cX.ev Cg.zero (cX.pw.2 qX)
   .rw[Kx,TU];simp only[Mem.with];rw[tS]
   have:=Lb (m:=m.with fu) (w':=W) (s:=s) (c:=m.w.heap.size) (ty:=e) (sz:=sz) (es:=new) hcap LI;simp only[Mem.with] at this;rw[tS] at this;exact this
  cases hv
 .rename_i id g zz len F2;rw[F2] at pN;split at hv
  .rename_i g' j4 bR es hbk;split at hv
   .rename_i qR;obtain⟨iM,rfl,rfl,hlen,kL,Up⟩:=qR;cases hv;have Uq:id∉fr:=by simpa using Up
    have aR:(m.with fu).blk id=m.blk id:=by
     rcases wB qw id with ⟨e,_⟩|⟨l6,_⟩
     .exact e
     exact(Uq l6).elim
    have aU:((m.with fu).blk id).2=some (.arr j4 bR es):=by rw[aR,hbk]
    obtain⟨cur,hh,_,hsz,hl,sa,cY,UA⟩:=nA.obj id _ aU;have Cc:cN m _ (a.eval d):=pN;generalize sV:a.eval d=dv at Cc;cases Cc with
    |hsl ad cap hg vh IT Md=>
     obtain⟨f1,f2,f3⟩:=Md bR (by rw[hbk];exact iM) (by rw[hbk];rfl);have hcap:cap=m.κ id:=by rw[<- f3,jc]
     have nv:=f2 (.inl rfl);rw[yL] at nv;subst nv;unfold room at kL;have tS:=Lc qw s;have hgid:=Lc qw id;have Eh:len*bR<=es.length*bR:=lL _ hlen;have l7:es.length*bR<=m.κ id*bR:=lL _ hl;have Uw:Pw (bU (m.with fu).w (m.with fu).own) (es.take len).flatten (cur.toList.take (len*bR)):=by rw[Im hsz];have h1:=(cX.pw.1 UA).take (len*bR);rw[List.take_take,yK Eh] at h1;exact h1
     have vn:(es.take len).length=len:=by simp;omega
     have Lu:∀x∈es.take len++new,x.length=bR:=by
      intro x hx;rcases fq.1 hx with hx|hx
      .exact hsz x (vP hx)
      exact eK x hx
     have hnl0:len+new.length<=(len+new.length)*bytes:=NK _ FY;have sk:∀q:eO,app (fu++[(id,(g,none)),q]) m.blk=cZ (cZ (m.with fu).blk id (((m.with fu).blk id).1,none)) q.1 q.2:=by intro q;rw[Kx];simp only[app];rw[aR,hbk,iM];rfl
     have Cm:(es.take len++new).length=len+new.length:=by rw[fc,vn]
     by_cases hfit:len+new.length<=cap
     · -- in its own block
      have key:∀(w':World) (uC:Array Value),(execOp a.eval o).run P m.w=.ok (.value (.slice (some ⟨m.σ id,0,none⟩) (len+new.length) cap)) w'->w'.os=m.w.os->w'.tape=m.w.tape->w'.output=m.w.output->w'.heap.size=m.w.heap.size->
        (∀x,x≠m.σ id->w'.heap[x]?=m.w.heap[x]?)->w'.heap[m.σ id]?=some (.cells uC j4 (0,0))->uC.size=cur.size->Pw (bU (m.with fu).w (m.with fu).own) (es.take len++new).flatten (uC.toList.take ((len+new.length)*bR))->
        fE P w0 a.eval o m (.one (.hsl s ((m.blk s).1+1) bR 0 (len+new.length))) (fu++[(id,(g,none)),(s,((m.blk s).1+1,some (.arr j4 bR (es.take len++new))))]):=by
       intro w' uC jV q1 q2 q3 q4 q5 q6 q7 q8;obtain⟨m',e1,e2,e3,e4,e5,e6⟩:=aoB (s:=s) nA aU rfl ff q1 q2 q3 q4 q5 q6 Lu (by rw[Cm];rw[hcap] at hfit;exact hfit) sa (by rw[q7];exact cY) (by rw[Cm];exact q8);rw[Cm] at e6;have OU:((m.with fu).blk s).1=(m.blk s).1:=tS;rw[OU] at e6 e5;refine⟨_,m',.inl (by rw[e1];exact jV),e2,ve.trans e3,e4,by rw[e5,sk],?_⟩;rw[hcap];exact e6
      by_cases fR:new=[]
      .subst fR;have ak4:(execOp a.eval o).run P m.w=.ok (.value (.slice (some ⟨m.σ id,0,none⟩) (len+([]:List (List PV)).length) cap)) m.w:=by
        apply run;rw[sV,wY];have aks:len<=cap:=vh;cases ax<;>simp[Builtin.append_,run_underlying ht,sizeOf,typeInfo,hi,Builtin.lenOf,Builtin.firstCells,loadCells,loadCellsFrom,aks,storeCells]
       exact key m.w cur ak4 rfl rfl rfl rfl (fun _ _=>rfl) hh rfl (by simpa using Uw)
      obtain⟨b,off,news,rfl,qX,xY⟩:=yj fR;have ir:news.length=new.length*i.size:=by rw[qX.1,Ma,hs]
      have Ar:len*i.size+news.length<=cur.size:=by rw[ir,hs,cY,<- gD];rw[hcap] at hfit;exact lL _ hfit
      have jV:=run_append_room (P:=P) m.w t o.type j4 i ht hi (m.σ id) len cap cur hh ⟨b,off,none⟩ new.length cx news ir (fun j v hj=>by rw[Addr.add_lit];exact xY j v hj) (adA qX) hfit Ar;have ak5:(execOp a.eval o).run P m.w=.ok (.value (.slice (some ⟨m.σ id,0,none⟩) (len+new.length) cap)) _:=run _ _ (by rw[sV,wY];exact jV);have aka:len*i.size<=cur.size:=mU (Nat.le_add_right _ _) Ar;refine key _ _ ak5 ?_ ?_ ?_ ?_ (fun x hx=>setRow_other m.w (m.σ id) x _ hx) (Ni hh) ?_ ?_
      .rfl
      .rfl
      .rfl
      .exact setRow_size m.w _ _
      .rw[List.size_toArray,fc,fc,fJ,nW,Array.length_toList];omega
      have h1:=Uw.append qX;rw[<- Di] at h1;have:(cur.toList.take (len*i.size)++news++cur.toList.drop (len*i.size+news.length)).take ((len+new.length)*bR)=cur.toList.take (len*bR)++news:=by
       rw[hs];have eo:(cur.toList.take (len*bR)).length=len*bR:=by rw[fJ,Array.length_toList];rw[hs] at aka;omega
       have OL:(cur.toList.take (len*bR)++news).length=(len+new.length)*bR:=by rw[fc,eo,ir,hs,gD]
       rw[List.take_append_of_le_length (Bu OL.symm)];exact fY (Bu OL)
      simp only[List.toList_toArray] at this ⊢;rw[this];exact h1
     · -- a new block
      have fR:new≠[]:=fun e=>by subst e;simp at hfit;omega
      obtain⟨b,off,news,rfl,qX,xY⟩:=yj fR;have ir:news.length=new.length*i.size:=by rw[qX.1,Ma,hs]
      have zH:(cur.toList.take (len*bR)).length=len*i.size:=by rw[hs,fJ,Array.length_toList];have aj9:cur.size=m.κ id*bR:=cY;omega
      have jV:=run_append_grow (P:=P) m.w t o.type j4 i zv ht hi wR ⟨m.σ id,0,none⟩ len cap (cur.toList.take (len*bR)) zH (fun j v hj=>by
        rw[Addr.add_lit,jc];have:(m.w.cell? ⟨m.σ id,j,none⟩)=cur[j]? :=BP hh;rw[this];rw[jm] at hj;split at hj
        .simpa using hj
        cases hj) ⟨b,off,none⟩ new.length cx news ir (fun j v hj=>by rw[Addr.add_lit];exact xY j v hj) aa aa (growslice_fits aa (by rw[hb];omega))
      have Cr:len+new.length<=maxLen:=by simp only[maxLen];omega
      have IJ:=grownCap_ge m.w (len+new.length) cap j4;have wN:=grownCap_le_maxLen m.w (len+new.length) cap j4 Cr;generalize rX:grownCap m.w (len+new.length) cap j4=cc at jV IJ wN;generalize hW:m.w.drew.alloc (.cells ((cur.toList.take (len*bR)).toArray++news.toArray++Builtin.zeroCells zv.cells (cc-(len+new.length))) j4)=W at jV;have Mp:=U2 (zh:=m.fr) (RP nA aU rfl) (fun c hc=>.inl hc);have Ud:Ev (m.with fu) {(m.with fu).ie id with fr:=m.fr}:=(FK aU rfl).trans (Pm (fun c hc=>.inl hc));have Ci:fm ({(m.with fu).ie id with fr:=m.fr}:Mem).w W:=by rw[<- hW];exact(fm.drew _).trans (fm.alloc _ _)
      have Cg:Ev ({(m.with fu).ie id with fr:=m.fr}:Mem) (({(m.with fu).ie id with fr:=m.fr}:Mem).kE W s m.w.heap.size cc (.arr j4 bR (es.take len++new))):=Io Ci (aZ _);have aa0:=Ud.trans Cg;have OU:((({(m.with fu).ie id with fr:=m.fr}:Mem)).blk s).1=(m.blk s).1:=by
       simp only[Mem.ie,aS];split
       .rename_i e';subst e';exact tS
       exact tS
      refine⟨_,({(m.with fu).ie id with fr:=m.fr}:Mem).kE W s m.w.heap.size cc (.arr j4 bR (es.take len++new)),.inl (run _ _ (by rw[sV,wY];exact jV)),Iq Ci (aZ _) (by rw[<- hW];simp) Mp ?_,ve.trans aa0,Ip Mp (aZ _),?_,?_⟩
      .refine⟨_,by rw[DK,TV,<- hW];exact heap_alloc_new m.w.drew _,ff,Lu,by rw[qj,Cm];exact IJ,by rw[qj];exact wN,?_,?_⟩
       .rw[qj];simp only[Array.size_append,List.size_toArray,size_zeroCells,I8,ir,zH,hs,<- gD];congr 1;omega
       have h1:=Uw.append qX;rw[<- Di] at h1;have:((cur.toList.take (len*bR)).toArray++news.toArray++Builtin.zeroCells zv.cells (cc-(len+new.length))).toList.take ((es.take len++new).length*bR)=cur.toList.take (len*bR)++news:=by simp only[Array.toList_append,Cm];exact List.take_left' (by rw[fc,List.toList_toArray,List.toList_toArray,zH,ir,hs,gD])
       rw[this];exact cX.ev aa0.zero (cX.pw.2 h1)
      .rw[TU,sk];simp only[app];rw[OU];rfl
      have:=Lb (m:=({(m.with fu).ie id with fr:=m.fr}:Mem)) (w':=W) (s:=s) (c:=m.w.heap.size) (ty:=j4) (sz:=bR) (es:=es.take len++new) IJ wN;rw[OU] at this;exact this
   cases hv
  cases hv
 · -- a slice that begins within its array: its values, nobody's any more
  rename_i id g zz off len aK F2;rw[F2] at pN;split at hv
  .rename_i g' j4 bR es hbk;split at hv
   .rename_i qR;obtain⟨iM,rfl,rfl,hlen,kL,Up,pI,akA⟩:=qR;cases hv;have Uq:id∉fr:=by simpa using Up
    have aR:(m.with fu).blk id=m.blk id:=by
     rcases wB qw id with ⟨e,_⟩|⟨l6,_⟩
     .exact e
     exact(Uq l6).elim
    have aU:((m.with fu).blk id).2=some (.arr j4 bR es):=by rw[aR,hbk]
    obtain⟨cur,hh,_,hsz,hl,sa,cY,UA⟩:=nA.obj id _ aU;have Cc:cN m _ (a.eval d):=pN;generalize sV:a.eval d=dv at Cc;cases Cc with
    |hsl ad cap hg vh IT Md=>
     obtain⟨f1,f2,f3⟩:=Md bR (by rw[hbk];exact iM) (by rw[hbk];rfl);have nv:=f2 (.inr pI);subst nv;unfold room at kL;have fA:=(nA.ek id _ aU rfl).1;have hnf:=(nA.ek id _ aU rfl).2;have holds:=E6 (off:=off) (len:=len) hsz (cX.pw.1 UA) hlen;have vn:((es.drop off).take len).length=len:=by simp;omega
     rw[vn] at holds;have ajY:∀x∈(es.drop off).take len,x.length=bR:=fun x hx=>hsz x (vO (vP hx));have Lu:∀x∈(es.drop off).take len++new,x.length=bR:=by
      intro x hx;rcases fq.1 hx with hx|hx
      .exact ajY x hx
      exact eK x hx
     have fR:new≠[]:=fun e=>by subst e;simp at akA
     obtain⟨b,bo,news,rfl,qX,xY⟩:=yj fR;have ir:news.length=new.length*i.size:=by rw[qX.1,Ma,hs]
     have Cm:((es.drop off).take len++new).length=len+new.length:=by rw[fc,vn]
     have aa1:(((es.drop off).take len++new).flatten).length=(len+new.length)*bR:=by rw[FQ Lu,Cm]
     have UB:=holds.append qX;rw[<- Di] at UB;have zH:((cur.toList.drop (off*bR)).take (len*bR)).length=len*i.size:=by rw[hs,fJ,nW,Array.length_toList];have aj9:cur.size=m.κ id*bR:=cY;have h1:(off+len)*bR<=m.κ id*bR:=lL _ aa;rw[gD] at h1;omega
     have sk:app (fu++[(id,(g,none))]) m.blk=cZ (m.with fu).blk id (((m.with fu).blk id).1,none):=by rw[Kx];simp only[app];rw[aR,hbk,iM];rfl
     have Ub:Ok w0 ((m.with fu).ie id):=RP nA aU rfl;have akd:Ev (m.with fu) ((m.with fu).ie id):=FK aU rfl;have Um:¬((m.with fu).ie id).fD (m.σ id):=by
      rintro ⟨j,o',h1,h2,h3⟩
      exact(Ub.ek j o' h1 h2).2 (.inr h3)
     have val:∀(m2:Mem) (c0 o0 cp:Nat) (cells:List Value),Ev (m.with fu) m2-> ¬m2.own c0->cells.length=(len+new.length)*bR->(∀j v,cells[j]?=some v->m2.w.cell? ⟨c0,o0+j,none⟩=some v)->
       Pw (bU (m.with fu).w (m.with fu).own) ((es.drop off).take len++new).flatten cells->len+new.length<=cp->cp<=maxLen->bN m2 (.one (.p (.sl ((es.drop off).take len++new)))) (.slice (some ⟨c0,o0,none⟩) (len+new.length) cp):=by
      intro m2 c0 o0 cp cells dD dF eo hce ez h1 h2;refine mz ?_;rw[<- Cm];refine .sl c0 o0 cp bR (fun j=>cells.getD j undef) (fun _=>dF) (by rw[Cm];exact h1) h2 Lu (fun j x hj=>?_) (fun j x hj=>?_)
      .have k8:j<cells.length:=by rw[eo,<- aa1];exact(aV.1 hj).1
       rw[cJ,oQ k8];exact hce j _ (oQ k8)
      have k8:j<cells.length:=by rw[eo,<- aa1];exact(aV.1 hj).1
      rw[cJ,oQ k8];exact(ez.2 j x _ hj (oQ k8)).ev dD.zero
     by_cases hfit:len+new.length<=cap
     · -- in its own block
      have Ar:off*bR+len*i.size+news.length<=cur.size:=by rw[ir,hs,cY,<- gD,<- gD];exact lL _ (by have f3':off+cap=m.κ id:=f3;show _<=m.κ id;omega)
      have jV:=aoY (P:=P) m.w t o.type j4 i ht hi (m.σ id) (off*bR) len cap cur hh ⟨b,bo,none⟩ new.length cx news ir (fun j v hj=>by rw[Addr.add_lit];exact xY j v hj) (adA qX) hfit Ar;generalize hW:m.w.setRow (m.σ id) (cur.toList.take (off*bR+len*i.size)++news++cur.toList.drop (off*bR+len*i.size+news.length)).toArray=W at jV;have hWh:W.heap[m.σ id]?=some (.cells (cur.toList.take (off*bR+len*i.size)++news++cur.toList.drop (off*bR+len*i.size+news.length)).toArray j4 (0,0)):=by rw[<- hW];exact Ni hh
      have k1:W.os=m.w.os:=by rw[<- hW];rfl
      have k2:W.tape=m.w.tape:=by rw[<- hW];rfl
      have k3:W.output=m.w.output:=by rw[<- hW];rfl
      have k4:W.heap.size=m.w.heap.size:=by rw[<- hW];exact setRow_size m.w _ _
      have k5:∀x,x≠m.σ id->W.heap[x]?=m.w.heap[x]? :=fun x hx=>by rw[<- hW];exact setRow_other m.w (m.σ id) x _ hx
      have Uv:Ok w0 {(m.with fu).ie id with w:=W}:=adY (m:=(m.with fu).ie id) Ub (.inr rfl) fA k1 k2 k3 k4 k5;have aki:Ev (m.with fu) {(m.with fu).ie id with w:=W}:=YA aU rfl k1 k2 k3 k4 k5;have OX:=U2 (zh:=m.fr) Uv (fun c hc=>.inl hc);have LZ:Ev (m.with fu) ({({(m.with fu).ie id with w:=W}:Mem) with fr:=m.fr}:Mem):=aki.trans (Pm fun c hc=>.inl hc);refine⟨_,({({(m.with fu).ie id with w:=W}:Mem) with fr:=m.fr}:Mem),.inl (run _ _ (by rw[sV,wY];exact jV)),OX,ve.trans LZ,rfl,by rw[sk];rfl,?_⟩;refine val _ (m.σ id) (off*bR) cap ((cur.toList.drop (off*bR)).take (len*bR)++news) LZ ?_ (by rw[fc,zH,ir,hs,gD]) ?_ UB hfit IT
      .rintro (h|h)
       .exact hnf h
       exact Um h
      intro j v hj;have eo:({({(m.with fu).ie id with w:=W}:Mem) with fr:=m.fr}:Mem).w.cell? ⟨m.σ id,off*bR+j,none⟩=(cur.toList.take (off*bR+len*i.size)++news++cur.toList.drop (off*bR+len*i.size+news.length)).toArray[off*bR+j]? :=BP hWh;rw[eo];have k8:=(aV.1 hj).1;rw[fc,zH] at k8;have I6:(cur.toList.take (off*bR+len*i.size)).length=off*bR+len*i.size:=by rw[fJ,Array.length_toList];omega
      rw[List.getElem?_toArray,qG];by_cases zA:j<len*i.size
      .rw[oO (by rw[I6];omega),jm,if_pos aa];rw[oO (by rw[zH];exact zA),jm,if_pos (by rw[<- hs];exact zA),ur] at hj;exact hj
      rw[nV (by rw[I6];omega),I6,oO aa];rw[nV (by rw[zH];omega),zH] at hj;rw[show off*bR+j-(off*bR+len*i.size)=j-len*i.size by omega];exact hj
     · -- a new block
      have hnlb:len+new.length<=(len+new.length)*bytes:=NK _ FY;have jV:=run_append_grow (P:=P) m.w t o.type j4 i zv ht hi wR ⟨m.σ id,off*bR,none⟩ len cap ((cur.toList.drop (off*bR)).take (len*bR)) zH (fun j v hj=>by
        rw[Addr.add_lit];have:(m.w.cell? ⟨m.σ id,off*bR+j,none⟩)=cur[off*bR+j]? :=BP hh;rw[this];rw[jm] at hj;split at hj
        .rw[ur] at hj
         simpa using hj
        cases hj) ⟨b,bo,none⟩ new.length cx news ir (fun j v hj=>by rw[Addr.add_lit];exact xY j v hj) aa aa (growslice_fits aa (by rw[hb];omega))
      have Cr:len+new.length<=maxLen:=by simp only[maxLen];omega
      have IJ:=grownCap_ge m.w (len+new.length) cap j4;have wN:=grownCap_le_maxLen m.w (len+new.length) cap j4 Cr;generalize rX:grownCap m.w (len+new.length) cap j4=cc at jV IJ wN;generalize hW:m.w.drew.alloc (.cells (((cur.toList.drop (off*bR)).take (len*bR)).toArray++news.toArray++Builtin.zeroCells zv.cells (cc-(len+new.length))) j4)=W at jV;have Mp:=U2 (zh:=m.fr) Ub (fun c hc=>.inl hc);have Ud:Ev (m.with fu) {(m.with fu).ie id with fr:=m.fr}:=akd.trans (Pm (fun c hc=>.inl hc));have Ci:fm ({(m.with fu).ie id with fr:=m.fr}:Mem).w W:=by rw[<- hW];exact(fm.drew _).trans (fm.alloc _ _)
      have OX:=Jl (X:=fun _=>False) Mp Ci (fun c hc=>hc.elim);have LZ:=Ud.trans (Gy (X:=fun _=>False) Ci (fun c hc=>hc.elim));have Gd:W.heap[m.w.heap.size]?=some (.cells (((cur.toList.drop (off*bR)).take (len*bR)).toArray++news.toArray++Builtin.zeroCells zv.cells (cc-(len+new.length))) j4 (0,0)):=by rw[<- hW];exact heap_alloc_new m.w.drew _
      refine⟨_,({(m.with fu).ie id with fr:=m.fr}:Mem).later W (fun _=>False),.inl (run _ _ (by rw[sV,wY];exact jV)),OX,ve.trans LZ,?_,by rw[sk];rfl,?_⟩
      .funext x;simp only[Mem.later];exact propext ⟨fun h=>h.elim (fun h=>h) (fun h=>h.elim),.inl⟩
      refine val _ m.w.heap.size 0 cc ((cur.toList.drop (off*bR)).take (len*bR)++news) LZ ?_ (by rw[fc,zH,ir,hs,gD]) ?_ UB IJ wN
      .have akC:¬(m.with fu).own m.w.heap.size:=by
        rintro (h|⟨j,o',h1,h2,h3⟩)
        .exact Nat.lt_irrefl _ (nA.frlt _ h)
        have:=(nA.obj j o' h1).lt;rw[h3] at this;exact Nat.lt_irrefl _ this
       rintro ((h|h)|⟨j,o',h1,h2,h3⟩)
       .exact akC (.inl h)
       .exact h
       have:=(OX.obj j o' h1).lt;have h4:=(Mp.obj j o' h1).lt;have qo:m.σ j=m.w.heap.size:=h3;have xQ:m.σ j<m.w.heap.size:=h4;omega
      intro j v hj;have eo:W.cell? ⟨m.w.heap.size,0+j,none⟩=_:=BP Gd;show W.cell? ⟨m.w.heap.size,0+j,none⟩=some v;rw[eo,jc];have k8:=(aV.1 hj).1;rw[<- Array.getElem?_toList,Array.toList_append,Array.toList_append,oO (by simpa using k8)];exact hj
   cases hv
  cases hv
 cases hv
end
end Go.Abs
