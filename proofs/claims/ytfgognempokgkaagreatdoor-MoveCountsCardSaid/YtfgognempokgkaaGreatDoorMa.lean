/-
  An abstract machine for the code of the model.
-/
import Derived.KernelRfl
import Derived.Calls
import Derived.WalkKit
set_option linter.all false
namespace Go.Abs
theorem aa{p:Prop}(h:p:=by omega):p:=h
theorem ae{p:Prop}(h:p:=by decide):p:=h
theorem af{p:Prop}(h:p:=by simp):p:=h
theorem ah{p:Prop}(h:p:=by kernel_rfl):p:=h
theorem ba:type_of% @List.mem_of_getElem?.{0}:=@List.mem_of_getElem?.{0}
theorem bc:type_of% @Nat.zero_le:=@Nat.zero_le
theorem bn:type_of% @List.getElem?_eq_some_iff.{0}:=@List.getElem?_eq_some_iff.{0}
theorem bo:type_of% @Nat.le_refl:=@Nat.le_refl
theorem cq:type_of% @List.length_map.{0,0}:=@List.length_map.{0,0}
theorem cA:type_of% @Bool.and_eq_true:=@Bool.and_eq_true
theorem cH:type_of% @Option.map_eq_some_iff.{0,0}:=@Option.map_eq_some_iff.{0,0}
theorem cP:type_of% @List.getD_eq_getElem?_getD.{0}:=@List.getD_eq_getElem?_getD.{0}
theorem dE:type_of% @List.map_cons.{0,0}:=@List.map_cons.{0,0}
theorem dN:type_of% @List.length_cons.{0}:=@List.length_cons.{0}
theorem dU:type_of% @List.mem_cons.{0}:=@List.mem_cons.{0}
theorem dV:type_of% @Option.some.injEq.{0}:=@Option.some.injEq.{0}
theorem eJ:type_of% @Nat.mod_lt:=@Nat.mod_lt
theorem fj:type_of% @List.length_nil.{0}:=@List.length_nil.{0}
theorem fk:type_of% @List.mem_append.{0}:=@List.mem_append.{0}
theorem fy:type_of% @Nat.le_of_ble_eq_true:=@Nat.le_of_ble_eq_true
theorem fH:type_of% @Nat.add_mul:=@Nat.add_mul
theorem fS:type_of% @List.take_of_length_le.{0}:=@List.take_of_length_le.{0}
theorem im:type_of% @List.all_eq_true.{0}:=@List.all_eq_true.{0}
theorem iF:type_of% @Bool.false_eq_true:=@Bool.false_eq_true
theorem iN:type_of% @List.mem_range:=@List.mem_range
theorem iV:type_of% @List.getElem?_of_mem.{0}:=@List.getElem?_of_mem.{0}
theorem iW:type_of% @List.length_append.{0}:=@List.length_append.{0}
theorem iX:type_of% @List.mem_map.{0,0}:=@List.mem_map.{0,0}
theorem jj:type_of% @List.map_nil.{0,0}:=@List.map_nil.{0,0}
theorem js:type_of% @List.getElem?_map.{0,0}:=@List.getElem?_map.{0,0}
theorem jt:type_of% @List.length_take.{0}:=@List.length_take.{0}
theorem ju:type_of% @Prod.mk.injEq.{0,0}:=@Prod.mk.injEq.{0,0}
theorem jJ:type_of% @Nat.mul_le_mul_right:=@Nat.mul_le_mul_right
theorem jU:type_of% @Bool.not_eq_true':=@Bool.not_eq_true'
theorem kb:type_of% @List.flatten_cons.{0}:=@List.flatten_cons.{0}
theorem ke:type_of% @List.take_length.{0}:=@List.take_length.{0}
theorem kK:type_of% @Nat.lt_succ_iff_lt_or_eq:=@Nat.lt_succ_iff_lt_or_eq
theorem kL:type_of% @Option.getD_some.{0}:=@Option.getD_some.{0}
theorem kM:type_of% @Option.map_some.{0,0}:=@Option.map_some.{0,0}
theorem kY:type_of% @List.length_set.{0}:=@List.length_set.{0}
theorem kZ:type_of% @Nat.zero_add:=@Nat.zero_add
theorem lQ:type_of% @List.getElem?_take.{0}:=@List.getElem?_take.{0}
theorem lR:type_of% @List.take_add_one.{0}:=@List.take_add_one.{0}
theorem ml:type_of% @List.getElem?_set.{0}:=@List.getElem?_set.{0}
theorem mm:type_of% @Nat.le_trans:=@Nat.le_trans
theorem mq:type_of% @Nat.mod_eq_of_lt:=@Nat.mod_eq_of_lt
theorem nG:type_of% @Int.eq_ofNat_of_zero_le:=@Int.eq_ofNat_of_zero_le
theorem nH:type_of% @List.length_pos_iff.{0}:=@List.length_pos_iff.{0}
theorem nI:type_of% @Nat.eq_of_beq_eq_true:=@Nat.eq_of_beq_eq_true
theorem oE:type_of% @Int.toNat_natCast:=@Int.toNat_natCast
theorem qu:type_of% @List.append_nil.{0}:=@List.append_nil.{0}
theorem ry:type_of% @List.getElem?_eq_getElem.{0}:=@List.getElem?_eq_getElem.{0}
theorem rz:type_of% @List.getElem?_range:=@List.getElem?_range
theorem rA:type_of% @List.pairwise_cons.{0}:=@List.pairwise_cons.{0}
theorem rB:type_of% @List.sum_cons.{0}:=@List.sum_cons.{0}
theorem rC:type_of% @Nat.not_lt_zero:=@Nat.not_lt_zero
theorem sG:type_of% @Bool.or_eq_true:=@Bool.or_eq_true
theorem sH:type_of% @List.ext_getElem.{0}:=@List.ext_getElem.{0}
theorem sI:type_of% @List.mem_of_mem_drop.{0}:=@List.mem_of_mem_drop.{0}
theorem sJ:type_of% @List.mem_of_mem_take.{0}:=@List.mem_of_mem_take.{0}
theorem sK:type_of% @List.mem_singleton.{0}:=@List.mem_singleton.{0}
theorem sL:type_of% @List.range_succ:=@List.range_succ
theorem tQ:type_of% @List.all_cons.{0}:=@List.all_cons.{0}
theorem uT:type_of% @List.getElem?_eq_none.{0}:=@List.getElem?_eq_none.{0}
theorem uU:type_of% @List.map_append.{0,0}:=@List.map_append.{0,0}
theorem uV:type_of% @Nat.zero_mul:=@Nat.zero_mul
theorem vN:type_of% @List.all_nil.{0}:=@List.all_nil.{0}
theorem vO:type_of% @List.not_mem_nil.{0}:=@List.not_mem_nil.{0}
theorem vP:type_of% @Nat.add_zero:=@Nat.add_zero
theorem xM:type_of% @Bool.false_or:=@Bool.false_or
theorem xN:type_of% @List.getElem_map.{0,0}:=@List.getElem_map.{0,0}
theorem xO:type_of% @List.length_reverse.{0}:=@List.length_reverse.{0}
theorem xP:type_of% @List.mem_filter.{0}:=@List.mem_filter.{0}
theorem xQ:type_of% @List.nil_append.{0}:=@List.nil_append.{0}
theorem xR:type_of% @List.take_append_drop.{0}:=@List.take_append_drop.{0}
theorem xS:type_of% @Nat.lt_of_lt_of_le:=@Nat.lt_of_lt_of_le
theorem zD:type_of% @List.any_eq_false.{0}:=@List.any_eq_false.{0}
theorem zE:type_of% @List.flatten_append.{0}:=@List.flatten_append.{0}
theorem zG:type_of% @List.getElem?_append_right.{0}:=@List.getElem?_append_right.{0}
theorem zH:type_of% @List.map_map.{0,0,0}:=@List.map_map.{0,0,0}
theorem Bo:type_of% @Bool.and_self:=@Bool.and_self
theorem Bp:type_of% @Bool.not_true:=@Bool.not_true
theorem Bq:type_of% @List.countP_pos_iff.{0}:=@List.countP_pos_iff.{0}
theorem Br:type_of% @List.getElem?_append_left.{0}:=@List.getElem?_append_left.{0}
theorem Bs:type_of% @List.length_drop.{0}:=@List.length_drop.{0}
theorem Bt:type_of% @Nat.add_assoc:=@Nat.add_assoc
theorem Bu:type_of% @Nat.add_mod_right:=@Nat.add_mod_right
theorem Bv:type_of% @Nat.le_max_left:=@Nat.le_max_left
theorem Bw:type_of% @Nat.min_eq_left:=@Nat.min_eq_left
theorem DD:type_of% @List.append_assoc.{0}:=@List.append_assoc.{0}
theorem DE:type_of% @List.find?_eq_none.{0}:=@List.find?_eq_none.{0}
theorem DF:type_of% @List.getElem?_drop.{0}:=@List.getElem?_drop.{0}
theorem DG:type_of% @List.getElem_range:=@List.getElem_range
theorem DH:type_of% @List.getElem_set.{0}:=@List.getElem_set.{0}
theorem DI:type_of% @List.mem_cons_of_mem.{0}:=@List.mem_cons_of_mem.{0}
theorem DJ:type_of% @List.mem_cons_self.{0}:=@List.mem_cons_self.{0}
theorem DK:type_of% @List.nodup_cons.{0}:=@List.nodup_cons.{0}
theorem DL:type_of% @Nat.lt_trichotomy:=@Nat.lt_trichotomy
theorem DM:type_of% @Nat.mod_two_eq_zero_or_one:=@Nat.mod_two_eq_zero_or_one
theorem DN:type_of% @Option.some.inj.{0}:=@Option.some.inj.{0}
theorem GV:type_of% @List.countP_cons.{0}:=@List.countP_cons.{0}
theorem GW:type_of% @List.countP_eq_zero.{0}:=@List.countP_eq_zero.{0}
theorem GX:type_of% @List.map_congr_left.{0,0}:=@List.map_congr_left.{0,0}
theorem Jl:type_of% @Bool.or_eq_false_iff:=@Bool.or_eq_false_iff
theorem Jm:type_of% @List.eq_of_mem_replicate.{0}:=@List.eq_of_mem_replicate.{0}
theorem Jn:type_of% @List.mem_of_find?_eq_some.{0}:=@List.mem_of_find?_eq_some.{0}
theorem Jo:type_of% @List.pairwise_iff_getElem.{0}:=@List.pairwise_iff_getElem.{0}
theorem Jp:type_of% @Nat.le_mul_of_pos_right:=@Nat.le_mul_of_pos_right
theorem Jq:type_of% @Option.bind_eq_some_iff.{0,0}:=@Option.bind_eq_some_iff.{0,0}
inductive PV where
 |bool (b:Bool)
 |int (k:IntKind) (n:Int)
 |str (s:ByteArray)
 |qU|nils|mf|fX|nili|ifc|zs
 |box (cs:List PV)
 |sl (es:List (List PV))
 |mp (ag:Bool) (es:List (PV×List PV))
 |fn (f:Nat) (first cap:List PV)
 deriving Inhabited
inductive C where
 |p (v:PV)
 |aZ (id g off:Nat)
 |cJ (id g i off:Nat)
 |hsl (id g sz off len:Nat)
 |iS (id g:Nat)
 |hfn (f:Nat) (first cap:List C)
 deriving Inhabited
inductive V where
 |undef
 |one (c:C)
 |agg (cs:List C)
 |tup (vs:List V)
 deriving Inhabited
inductive Ob where
 |var (cs:List C)
 |arr (ty sz:Nat) (es:List (List PV))
 |fO (ty sz:Nat) (es:List (List C))
 |map (ag:Bool) (es:List (PV×List PV))
 |fvar (cs:List PV)
 |lr (ty sz:Nat) (es:List (List PV))
 |fmap (ag:Bool) (es:List (PV×List PV))
 deriving Inhabited
abbrev Env:=Nat->V
abbrev aw:=Nat->Nat×Option Ob
def ca{α:Type}(f:Nat->α)(a:Nat)(x:α):Nat->α:=fun i=>if i=a then x else f i
theorem aP{α:Type}(f:Nat->α)(a b:Nat)(x:α):ca f a x b=if b=a then x else f b:=rfl
inductive aK where
 |t (n:Nat)
 |i (n:Int)
 |b (x:Bool)
 |k (v:V)
inductive qw where
 |bool|ptr|slc|map|fnc|ifc
 |str (ks:List Bool)
inductive jk where
 |jh (x:aK)
 |pick (c a b:aK)
 |alloc (site:Nat) (z:List PV)
 |box (site:Nat) (x:aK)
 |build (z:List PV) (parts:List (Nat×Nat×aK))
 |eW (site ty sz:Nat) (parts:List aK)
 |load (k:Option Nat) (x:aK)
 |store (n:Nat) (a x:aK)
 |tF (x:aK)
 |bin (op:BinOp) (x y:aK)
 |eqc (k:qw) (neg:Bool) (x y:aK)
 |un (op:UnOp) (x:aK)
 |conv (k:IntKind) (x:aK)
 |bstr (x:aK)
 |mkfn (f:Nat) (first cap:List aK)
 |mkmap (site:Nat) (ag:Bool)
 |ny (site ty sz bytes:Nat) (z:List PV) (len cap:aK)
 |slice (sz:Nat) (x:aK) (lo hi:Option aK)
 |sslice (x:aK) (lo hi:Option aK)
 |sW (off:Nat) (x:aK)
 |mH (sz:Nat) (x i:aK)
 |tX (len sz:Nat) (x i:aK)
 |fld (off:Nat) (k:Option Nat) (x:aK)
 |aidx (len sz:Nat) (k:Option Nat) (x i:aK)
 |sidx (x i:aK)
 |lookup (kd:Nat) (z:List PV) (agg ok:Bool) (x k:aK)
 |mupd (kd:Nat) (ag:Bool) (m k v:aK)
 |bad
 |extract (x:aK) (i:Nat)
 |call (site:Nat) (f:aK) (args:List aK)
 |slen (x:aK)
 |xr (x:aK)
 |mlen (x:aK)
 |append (site ty sz bytes:Nat) (s x:aK)
 |max (x y:aK)
 |min (x y:aK)
 |clear (z:List PV) (x:aK)
structure aI where
 dst:Option Nat
 op:jk
 guard:Option (Nat×Bool)
 anc:Nat
inductive aH where
 |skip
 |region (draw:Bool) (ops:List aI)
 |seq (a b:aH)
 |cond (x:aK) (a b:aH)
 |block (id:Nat) (c:aH)
 |loop (c:aH)
 |exit (id:Nat)
 |ret
 |bad
structure aU where
 ntmps:Nat
 results:List (Nat×Option (Option Nat))
 body:aH
def ev (aj:Env):aK->V
 | .t n=>aj n
 | .i n=>.one (.p (.int .i64 n))
 | .b x=>.one (.p (.bool x))
 | .k v=>v
abbrev dH:=Nat×(Nat×Option Ob)
def app:List dH->aw->aw
 |[],b=>b
 |(i,o)::r,b=>app r (ca b i o)
def PV.norm:PV->PV
 | .nils=>.sl []
 | .zs=>.sl []
 |v=>v
def toP:C->Option PV
 | .p v=>some v.norm
 |_=>none
def vI:List C->Option (List PV)
 |[]=>some []
 |c::r=>match toP c,vI r with
  |some v,some vs=>some (v::vs)
  |_,_=>none
def mW:V->Option (List C)
 | .one c=>some [c]
 | .agg cs=>some cs
 |_=>none
def collect{α β:Type}(f:α->Option (β×List Nat)):List α->Option (List β×List Nat)
 |[]=>some ([],[])
 |a::r=>match f a,collect f r with
  |some (b,x),some (bs,y)=>some (b::bs,x++y)
  |_,_=>none
def snap(blk:aw):Nat->C->Option (PV×List Nat)
 |0,_=>none
 |n+1,c=>match c with
  | .p v=>some (v.norm,[])
  | .aZ id g off=>match blk id with
   |(g',some (.var cs))=>if g'=g then
     match collect (snap blk n) cs with
     |some (ps,r)=>some (.box (ps.drop off),id::r)
     |none=>none
    else none
   |(g',some (.fvar ps))=>if g'=g then some (.box (ps.drop off),[id]) else none
   |_=>none
  | .cJ id g i off=>match blk id with
   |(g',some (.arr _ _ es))=>if g'=g then (es[i]?).map fun e=>(.box (e.drop off),[id]) else none
   |(g',some (.lr _ _ es))=>if g'=g then (es[i]?).map fun e=>(.box (e.drop off),[id]) else none
   |_=>none
  | .hsl id g z off len=>match blk id with
   |(g',some (.arr _ _ es))=>if g'=g/\off+len<=es.length then some (.sl ((es.drop off).take len),[id]) else none
   |(g',some (.lr _ _ es))=>if g'=g/\off+len<=es.length then some (.sl ((es.drop off).take len),[id]) else none
   |(g',some (.fO _ _ es))=>if g'=g/\off+len<=es.length then
     match collect (collect (snap blk n)) ((es.drop off).take len) with
     |some (ps,r)=>some (.sl ps,id::r)
     |none=>none
    else none
   |_=>none
  | .iS id g=>match blk id with
   |(g',some (.map ag es))=>if g'=g then some (.mp ag es,[id]) else none
   |(g',some (.fmap ag es))=>if g'=g then some (.mp ag es,[id]) else none
   |_=>none
  | .hfn f a b=>match collect (snap blk n) a,collect (snap blk n) b with
   |some (x,r),some (y,s)=>some (.fn f x y,r++s)
   |_,_=>none
def dD:Nat:=6
def kJ(blk:aw):V->Option (V×List Nat)
 | .one c=>(snap blk dD c).map fun(v,r)=>(.one (.p v),r)
 | .agg cs=>(collect (snap blk dD) cs).map fun(vs,r)=>(.agg (vs.map .p),r)
 |_=>none
def sY(blk:aw)(all:List Nat)(id:Nat):Option (List dH):=
 match blk id with
 |(g,some (.var cs))=>match collect (snap blk dD) cs with
  |some (ps,r)=>if r.all all.contains then some [(id,(g,some (.fvar ps)))] else none
  |none=>none
 |(g,some (.arr ty sz es))=>some [(id,(g,some (.lr ty sz es)))]
 |(g,some (.fO ty sz es))=>match collect (collect (snap blk dD)) es with
  |some (ps,r)=>if r.all all.contains then some [(id,(g,some (.lr ty sz ps)))] else none
  |none=>none
 |(g,some (.map ag es))=>some [(id,(g,some (.fmap ag es)))]
 |(_,none)=>none
 |_=>some []
def pZ(blk:aw)(all:List Nat):List Nat->Option (List dH)
 |[]=>some []
 |i::r=>match sY blk all i,pZ blk all r with
  |some a,some b=>some (a++b)
  |_,_=>none
def oQ(blk:aw)(ids:List Nat):Option (List dH):=pZ blk ids ids
inductive RC where
 |p (v:PV)
 |own (ty sz:Nat) (es:List (List PV))
 deriving Inhabited
inductive RV where
 |one (c:RC)
 |agg (cs:List RC)
 |tup (vs:List RV)
 deriving Inhabited
def RC.pure:RC->RC
 | .p v=>.p v
 | .own _ _ es=>.p (.sl es)
def RV.A7:RV->RV
 | .one c=>.one c.pure
 | .agg cs=>.agg (cs.map RC.pure)
 | .tup vs=>.tup vs
def RV.pure:RV->RV
 | .tup vs=>.tup (vs.map RV.A7)
 |v=>v.A7
def RV.fx(b:Bool)(r:RV):RV:=match b with
 |true=>r.pure
 |false=>r
def PV.scalar:PV->Bool
 | .bool _| .int _ _| .str _| .qU| .nils| .mf| .fX| .nili| .ifc| .zs=>true
 |_=>false
def RC.alone:RC->Bool
 | .p v=>v.scalar
 | .own _ _ es=>es.all fun e=>e.all PV.scalar
def jF(blk:aw)(c:C):Option (RC×List Nat×List Nat):=
 match c with
 | .p v=>some (.p v,[],[])
 | .hsl id g z 0 len=>match blk id with
  |(g',some (.arr ty sz es))=>if g'=g/\len<=es.length then some (.own ty sz (es.take len),[id],[]) else none
  |_=>(snap blk dD c).map fun(v,r)=>(.p v,[],r)
 |_=>(snap blk dD c).map fun(v,r)=>(.p v,[],r)
def kV(blk:aw):List C->Option (List RC×List Nat×List Nat)
 |[]=>some ([],[],[])
 |c::r=>match jF blk c,kV blk r with
  |some (x,o,q),some (xs,os,qs)=>some (x::xs,o++os,q++qs)
  |_,_=>none
def lX:V->Option (List C)
 | .one c=>some [c]
 | .agg cs=>some cs
 |_=>none
def sX:List V->Option (List C)
 |[]=>some []
 |v::r=>match lX v,sX r with
  |some a,some b=>some (a++b)
  |_,_=>none
def qB:V->Option (List C)
 | .tup vs=>sX vs
 |v=>lX v
def qq:V->List RC->RV×List RC
 | .one _,r::rs=>(.one r,rs)
 | .agg cs,rs=>(.agg (rs.take cs.length),rs.drop cs.length)
 |_,rs=>(.agg [],rs)
def zo:List V->List RC->List RV
 |[],_=>[]
 |v::r,rs=>(qq v rs).1::zo r (qq v rs).2
def tM:V->List RC->RV
 | .tup vs,rs=>.tup (zo vs rs)
 |v,rs=>(qq v rs).1
def apart:List Nat->List Nat->Bool
 |[],_=>true
 |i::r,q=> !r.contains i&& !q.contains i&&apart r q
def ji(blk:aw)(v:V):Option RV:=
 match qB v with
 |some cs=>match kV blk cs with
  |some (x,o,q)=>if apart o q then some (tM v x) else none
  |none=>none
 |none=>none
def cY(blk:aw)(site:Nat):RC->C×List dH
 | .p v=>(.p v,[])
 | .own ty sz es=>(.hsl site ((blk site).1+1) sz 0 es.length,[(site,((blk site).1+1,some (.arr ty sz es)))])
def iJ(blk:aw)(site:Nat):List RC->List C×List dH
 |[]=>([],[])
 |c::r=>((cY blk site c).1::(iJ blk (site+1) r).1,(cY blk site c).2++(iJ blk (site+1) r).2)
def jy:RV->List RC
 | .one c=>[c]
 | .agg cs=>cs
 | .tup _=>[]
def oO:List RV->List RC
 |[]=>[]
 |v::r=>jy v++oO r
def iZ:RV->List RC
 | .tup vs=>oO vs
 |v=>jy v
def mg:RV->List C->V×List C
 | .one _,c::cs=>(.one c,cs)
 | .agg rs,cs=>(.agg (cs.take rs.length),cs.drop rs.length)
 |_,cs=>(.undef,cs)
def rh:List RV->List C->List V
 |[],_=>[]
 |v::r,cs=>(mg v cs).1::rh r (mg v cs).2
def re:RV->List C->V
 | .tup vs,cs=>.tup (rh vs cs)
 |v,cs=>(mg v cs).1
def RV.alone(r:RV):Bool:=(iZ r).all RC.alone
def jg(blk:aw)(site:Nat)(r:RV):V×List dH:=(re r (iJ blk site (iZ r)).1,(iJ blk site (iZ r)).2)
inductive ej where
 |fail
 |done (v:V) (u:List dH) (rd:List Nat)
 |pc (f:Nat) (args:List V) (rd:List Nat) (site:Nat)
 |sc (f:Nat) (args:List V)
def vF(blk:aw):V->Option (List C×List Nat)
 | .one (.p (.box cs))=>some (cs.map .p,[])
 | .one (.aZ id g off)=>match blk id with
  |(g',some (.var cs))=>if g'=g then some (cs.drop off,[id]) else none
  |(g',some (.fvar cs))=>if g'=g then some ((cs.drop off).map .p,[id]) else none
  |_=>none
 | .one (.cJ id g i off)=>match blk id with
  |(g',some (.arr _ _ es))=>if g'=g then (es[i]?).map fun e=>((e.drop off).map .p,[id]) else none
  |(g',some (.lr _ _ es))=>if g'=g then (es[i]?).map fun e=>((e.drop off).map .p,[id]) else none
  |(g',some (.fO _ _ es))=>if g'=g then (es[i]?).map fun e=>(e.drop off,[id]) else none
  |_=>none
 |_=>none
def lM(k:Option Nat)(cs:List C):Option V:=
 match k with
 |none=>match cs with
  |c::_=>some (.one c)
  |[]=>none
 |some n=>if n<=cs.length then some (.agg (cs.take n)) else none
def dM{α:Type}(cs:List α)(off:Nat)(xs:List α):List α:=cs.take off++xs++cs.drop (off+xs.length)
def uS(blk:aw)(a:V)(n:Nat)(xs:List C):ej:=
 if xs.length≠n then .fail else
 match a with
 | .one (.aZ id g off)=>match blk id with
  |(g',some (.var cs))=>if g'=g/\off+n<=cs.length then .done .undef [(id,(g,some (.var (dM cs off xs))))] [id] else .fail
  |_=>.fail
 | .one (.cJ id g i off)=>match blk id with
  |(g',some (.arr ty sz es))=>match es[i]?,vI xs with
   |some e,some ps=>if g'=g/\off+n<=e.length then .done .undef [(id,(g,some (.arr ty sz (es.set i (dM e off ps)))))] [id] else .fail
   |_,_=>.fail
  |_=>.fail
 |_=>.fail
def eK(blk:aw):V->Option (List (List PV)×List Nat×List Nat)
 | .one (.p .nils)=>some ([],[],[])
 | .one (.p (.sl es))=>some (es,[],[])
 | .one (.hsl id g z off len)=>match blk id with
  |(g',some (.arr _ _ es))=>if g'=g/\off+len<=es.length then some ((es.drop off).take len,[id],[]) else none
  |(g',some (.lr _ _ es))=>if g'=g/\off+len<=es.length then some ((es.drop off).take len,[id],[]) else none
  |(g',some (.fO _ _ es))=>if g'=g/\off+len<=es.length then
    match collect (collect (snap blk dD)) ((es.drop off).take len) with
    |some (ps,r)=>some (ps,[id],r)
    |none=>none
   else none
  |_=>if len=0 then some ([],[id],[]) else none
 |_=>none
def fR(sz:Nat)(es:List (List PV)):Bool:=es.all fun e=>e.length==sz
def j9:V->Option Nat
 | .one (.hsl _ _ z _ _)=>some z
 |_=>none
def room:Nat:=140737488355328
def fe(blk:aw)(site ty sz bytes:Nat)(s x:V):ej:=
 match eK blk x with
 |none=>.fail
 |some (new,rd,fr)=>
  if ¬(j9 x=some sz\/fR sz new=true) then .fail else
  match oQ blk fr with
  |none=>.fail
  |some fu=>
   match s with
   | .one (.p .nils)=>
    if new.length=0 then .done (.one (.p .nils)) fu (rd++fr) else
    if new.length*bytes<=room then
     .done (.one (.hsl site ((blk site).1+1) sz 0 new.length)) (fu++[(site,((blk site).1+1,some (.arr ty sz new)))]) (site::rd++fr)
    else .fail
   | .one (.p .zs)=>
    if new.length=0 then .fail else
    if new.length*bytes<=room then
     .done (.one (.hsl site ((blk site).1+1) sz 0 new.length)) (fu++[(site,((blk site).1+1,some (.arr ty sz new)))]) (site::rd++fr)
    else .fail
   | .one (.hsl id g z 0 len)=>match blk id with
    |(g',some (.arr mQ cQ es))=>
     if g'=g/\mQ=ty/\cQ=sz/\len<=es.length/\(len+new.length)*bytes<=room/\fr.contains id=false then
      .done (.one (.hsl site ((blk site).1+1) sz 0 (len+new.length)))
       (fu++[(id,(g,none)),(site,((blk site).1+1,some (.arr ty sz (es.take len++new))))]) (site::id::rd++fr)
     else .fail
    |_=>.fail
   |_=>.fail
def lh:V->Option Nat
 | .one (.p (.int _ n))=>if 0<=n then some n.toNat else none
 |_=>none
def mV(aj:Env)(d:Nat):Option aK->Option Nat
 |none=>some d
 |some a=>lh (ev aj a)
def xA(x:V)(sz lo hi:Nat):ej:=
 if ¬lo<=hi then .fail else
 match x with
 | .one (.p .nils)=>if hi=0 then .done (.one (.p .nils)) [] [] else .fail
 | .one (.p (.sl es))=>if hi<=es.length/\fR sz es=true then .done (.one (.p (.sl ((es.drop lo).take (hi-lo))))) [] [] else .fail
 | .one (.hsl id g z off len)=>if hi<=len/\z=sz then .done (.one (.hsl id g z (off+lo) (hi-lo))) [] [] else .fail
 |_=>.fail
def tE:V->Option Nat
 | .one (.p .nils)=>some 0
 | .one (.p (.sl es))=>some es.length
 | .one (.hsl _ _ _ _ len)=>some len
 |_=>none
def vr(blk:aw):V->Option (Nat×List Nat)
 | .one (.p .mf)=>some (0,[])
 | .one (.p (.mp _ es))=>some (es.length,[])
 | .one (.iS id g)=>match blk id with
  |(g',some (.map _ es))=>if g'=g then some (es.length,[id]) else none
  |(g',some (.fmap _ es))=>if g'=g then some (es.length,[id]) else none
  |_=>none
 |_=>none
def mapOf(blk:aw)(ag:Bool):V->Option (List (PV×List PV)×List Nat)
 | .one (.p .mf)=>some ([],[])
 | .one (.p (.mp mU es))=>if mU=ag then some (es,[]) else none
 | .one (.iS id g)=>match blk id with
  |(g',some (.map mU es))=>if g'=g/\mU=ag then some (es,[id]) else none
  |(g',some (.fmap mU es))=>if g'=g/\mU=ag then some (es,[id]) else none
  |_=>none
 |_=>none
def sameKey:PV->PV->Option Bool
 | .int k a,.int k' b=>if k=k' then some (a==b) else none
 | .str a,.str b=>some (a==b)
 | .bool a,.bool b=>some (a==b)
 |_,_=>none
def ia:PV->Nat
 | .int _ _=>0
 | .str _=>1
 | .bool _=>2
 |_=>3
def mapVal:Bool->List PV->Option V
 |true,cs=>some (.agg (cs.map .p))
 |false,[c]=>some (.one (.p c))
 |false,_=>none
def rL(k:PV):List (PV×List PV)->Nat->Option (Option (Nat×List PV))
 |[],_=>some none
 |(a,v)::r,i=>match sameKey k a with
  |some true=>some (some (i,v))
  |some false=>rL k r (i+1)
  |none=>none
def wh:Bool->V->Option (List C)
 |false,.one c=>some [c]
 |true,.agg cs=>some cs
 |_,_=>none
def oG(op:BinOp)(k:IntKind)(a b:Int):Option PV:=
 match op with
 | .add=>some (.int k (k.wrap (a+b)))
 | .sub=>some (.int k (k.wrap (a-b)))
 | .mul=>some (.int k (k.wrap (a*b)))
 | .quo=>if b=0 then none else some (.int k (k.wrap (a.tdiv b)))
 | .rem=>if b=0 then none else some (.int k (a.tmod b))
 | .eql=>some (.bool (a==b))
 | .neq=>some (.bool (a !=b))
 | .lss=>some (.bool (decide (a<b)))
 | .leq=>some (.bool (decide (a<=b)))
 | .gtr=>some (.bool (decide (b<a)))
 | .geq=>some (.bool (decide (b<=a)))
 | .and=>some (.int k (k.wrap (BitVec.ofInt k.bits a&&& BitVec.ofInt k.bits b).toNat))
 | .shl=>if b<0 then none else some (.int k (k.wrap (a*2 ^ min b.toNat k.bits)))
 | .shr=>if b<0 then none else some (.int k (a.fdiv (2 ^ min b.toNat k.bits)))
 |_=>none
def JE(op:BinOp)(a b:ByteArray):Option PV:=
 match op with
 | .add=>if a.size+b.size<=9223372036854775807 then some (.str (a++b)) else none
 | .eql=>some (.bool (a.toList==b.toList))
 | .neq=>some (.bool (!(a.toList==b.toList)))
 |_=>none
def mu(op:BinOp):V->V->Option V
 | .one (.p (.int k a)),.one (.p (.int k' b))=>if k=k'\/op=.shl\/op=.shr then (oG op k a b).map fun v=>.one (.p v) else none
 | .one (.p (.str a)),.one (.p (.str b))=>(JE op a b).map fun v=>.one (.p v)
 |_,_=>none
def lV:Bool->PV->PV->Option Bool
 |true,.int k a,.int k' b=>if k=k' then some (a==b) else none
 |false,.bool a,.bool b=>some (a==b)
 |_,_,_=>none
def lq:List Bool->List C->List C->Option Bool
 |[],[],[]=>some true
 |k::ks,.p a::r,.p b::s=>match lV k a b with
  |some true=>lq ks r s
  |some false=>some false
  |none=>none
 |_,_,_=>none
def AZ:qw->V->Option Bool
 | .ptr,.one (.p .qU)=>some true
 | .ptr,.one (.p (.box _))=>some false
 | .ptr,.one (.aZ _ _ _)=>some false
 | .ptr,.one (.cJ _ _ _ _)=>some false
 | .slc,.one (.p .nils)=>some true
 | .slc,.one (.p (.sl (_::_)))=>some false
 | .slc,.one (.hsl _ _ _ _ _)=>some false
 | .map,.one (.p .mf)=>some true
 | .map,.one (.p (.mp _ _))=>some false
 | .map,.one (.iS _ _)=>some false
 | .fnc,.one (.p .fX)=>some true
 | .fnc,.one (.p (.fn _ _ _))=>some false
 | .fnc,.one (.hfn _ _ _)=>some false
 | .ifc,.one (.p .nili)=>some true
 | .ifc,.one (.p .ifc)=>some false
 |_,_=>none
def wE:qw->V->V->Option Bool
 | .bool,.one (.p (.bool a)),.one (.p (.bool b))=>some (a==b)
 | .str ks,.agg a,.agg b=>lq ks a b
 | .bool,_,_=>none
 | .str _,_,_=>none
 |k,a,b=>if AZ k b=some true then AZ k a else if AZ k a=some true then AZ k b else none
def fill(cs:List C):List (Nat×List C)->List C
 |[]=>cs
 |(off,xs)::r=>fill (dM cs off xs) r
def tG(aj:Env):List (Nat×Nat×aK)->Option (List (Nat×List C))
 |[]=>some []
 |(off,n,a)::r=>match mW (ev aj a),tG aj r with
  |some cs,some q=>if cs.length=n then some ((off,cs)::q) else none
  |_,_=>none
def uh(aj:Env)(sz:Nat):List aK->Option (List (List C))
 |[]=>some []
 |a::r=>match mW (ev aj a),uh aj sz r with
  |some cs,some q=>if cs.length=sz then some (cs::q) else none
  |_,_=>none
def vJ:List (List C)->Option (List (List PV))
 |[]=>some []
 |c::r=>match vI c,vJ r with
  |some v,some vs=>some (v::vs)
  |_,_=>none
def yn(aj:Env)(a:aK):Option (Nat×List C×List C):=
 match ev aj a with
 | .one (.p (.fn f x y))=>some (f,x.map .p,y.map .p)
 | .one (.hfn f x y)=>some (f,x,y)
 |_=>none
def vG(blk:aw):List V->Option (List V×List Nat):=collect (kJ blk)
def bytesOf:List (List PV)->Option (List UInt8)
 |[]=>some []
 |[.int .u8 n]::r=>(bytesOf r).map (UInt8.ofNat n.toNat:: ·)
 |_::_=>none
def qW(aj:Env):List aK->Option (List C)
 |[]=>some []
 |a::r=>match ev aj a,qW aj r with
  | .one c,some q=>some (c::q)
  |_,_=>none
def aT(shared:Nat->Bool)(aj:Env)(blk:aw):jk->ej
 | .jh x=>.done (ev aj x) [] []
 | .pick c a b=>match ev aj c with
  | .one (.p (.bool t))=>.done (if t then ev aj a else ev aj b) [] []
  |_=>.fail
 | .alloc s z=>.done (.one (.aZ s ((blk s).1+1) 0)) [(s,((blk s).1+1,some (.var (z.map .p))))] [s]
 | .box s x=>match mW (ev aj x) with
  |some cs=>.done (.one (.aZ s ((blk s).1+1) 0)) [(s,((blk s).1+1,some (.var cs)))] [s]
  |none=>.fail
 | .build z ps=>match tG aj ps with
  |some q=>.done (.agg (fill (z.map .p) q)) [] []
  |none=>.fail
 | .eW s ty sz ps=>match uh aj sz ps with
  |some es=>match vJ es with
   |some qs=>.done (.one (.hsl s ((blk s).1+1) sz 0 es.length)) [(s,((blk s).1+1,some (.arr ty sz qs)))] [s]
   |none=>.done (.one (.hsl s ((blk s).1+1) sz 0 es.length)) [(s,((blk s).1+1,some (.fO ty sz es)))] [s]
  |none=>.fail
 | .load k x=>match vF blk (ev aj x) with
  |some (cs,r)=>match lM k cs with
   |some v=>.done v [] r
   |none=>.fail
  |none=>.fail
 | .store n a x=>match mW (ev aj x) with
  |some xs=>uS blk (ev aj a) n xs
  |none=>.fail
 | .tF x=>match ev aj x with
  | .one (.aZ id g o)=>.done (.one (.aZ id g o)) [] []
  | .one (.cJ id g i o)=>.done (.one (.cJ id g i o)) [] []
  | .one (.p (.box cs))=>.done (.one (.p (.box cs))) [] []
  | .one (.hfn f a b)=>.done (.one (.hfn f a b)) [] []
  | .one (.p (.fn f a b))=>.done (.one (.p (.fn f a b))) [] []
  |_=>.fail
 | .bin op x y=>match mu op (ev aj x) (ev aj y) with
  |some v=>.done v [] []
  |none=>.fail
 | .eqc k neg x y=>match wE k (ev aj x) (ev aj y) with
  |some b=>.done (.one (.p (.bool (if neg then !b else b)))) [] []
  |none=>.fail
 | .un op x=>match op,ev aj x with
  | .not,.one (.p (.bool b))=>.done (.one (.p (.bool (!b)))) [] []
  | .neg,.one (.p (.int k n))=>.done (.one (.p (.int k (k.wrap (0-n))))) [] []
  |_,_=>.fail
 | .conv k x=>match ev aj x with
  | .one (.p (.int _ n))=>.done (.one (.p (.int k (k.wrap n)))) [] []
  |_=>.fail
 | .bstr x=>match eK blk (ev aj x) with
  |some (es,r,[])=>match bytesOf es with
   |some bs=>.done (.one (.p (.str ⟨bs.toArray⟩))) [] r
   |none=>.fail
  |_=>.fail
 | .mkfn f a b=>match qW aj a,qW aj b with
  |some x,some y=>.done (.one (.hfn f x y)) [] []
  |_,_=>.fail
 | .mkmap s ag=>.done (.one (.iS s ((blk s).1+1))) [(s,((blk s).1+1,some (.map ag [])))] [s]
 | .ny s ty sz bytes z l c=>match lh (ev aj l),lh (ev aj c) with
  |some n,some m=>if n=m/\n*bytes<=room then
    .done (.one (.hsl s ((blk s).1+1) sz 0 n)) [(s,((blk s).1+1,some (.arr ty sz (List.replicate n z))))] [s]
   else .fail
  |_,_=>.fail
 | .slice sz x lo hi=>match tE (ev aj x) with
  |some n=>match mV aj 0 lo,mV aj n hi with
   |some l,some h=>xA (ev aj x) sz l h
   |_,_=>.fail
  |none=>.fail
 | .sslice x lo hi=>match ev aj x with
  | .one (.p (.str s))=>match mV aj 0 lo,mV aj s.size hi with
   |some l,some h=>if l<=h/\h<=s.size then .done (.one (.p (.str (s.extract l h)))) [] [] else .fail
   |_,_=>.fail
  |_=>.fail
 | .sW off x=>match ev aj x with
  | .one (.aZ id g o)=>.done (.one (.aZ id g (o+off))) [] []
  | .one (.cJ id g i o)=>.done (.one (.cJ id g i (o+off))) [] []
  | .one (.p (.box cs))=>.done (.one (.p (.box (cs.drop off)))) [] []
  |_=>.fail
 | .mH sz x i=>match lh (ev aj i),ev aj x with
  |some n,.one (.p (.sl es))=>match es[n]? with
   |some e=>if e.length=sz then .done (.one (.p (.box e))) [] [] else .fail
   |none=>.fail
  |some n,.one (.hsl id g z off len)=>if n<len/\z=sz then .done (.one (.cJ id g (off+n) 0)) [] [] else .fail
  |_,_=>.fail
 | .tX len sz x i=>match lh (ev aj i),ev aj x with
  |some n,.one (.aZ id g o)=>if n<len then .done (.one (.aZ id g (o+n*sz))) [] [] else .fail
  |some n,.one (.cJ id g j o)=>if n<len then .done (.one (.cJ id g j (o+n*sz))) [] [] else .fail
  |some n,.one (.p (.box cs))=>if n<len then .done (.one (.p (.box (cs.drop (n*sz))))) [] [] else .fail
  |_,_=>.fail
 | .fld off k x=>match ev aj x with
  | .agg cs=>match lM k (cs.drop off) with
   |some v=>.done v [] []
   |none=>.fail
  |_=>.fail
 | .aidx len sz k x i=>match lh (ev aj i),ev aj x with
  |some n,.agg cs=>if n<len then
    match lM k (cs.drop (n*sz)) with
    |some v=>.done v [] []
    |none=>.fail
   else .fail
  |_,_=>.fail
 | .sidx x i=>match lh (ev aj i),ev aj x with
  |some n,.one (.p (.str s))=>match s[n]? with
   |some b=>.done (.one (.p (.int .u8 b.toNat))) [] []
   |none=>.fail
  |_,_=>.fail
 | .lookup kd z agg ok x k=>match mapOf blk agg (ev aj x),ev aj k with
  |some (es,r),.one (.p q)=>if ia q≠kd then .fail else match rL q es 0 with
   |some f=>match mapVal agg ((f.map (·.2)).getD z) with
    |some w=>.done (if ok then .tup [w,.one (.p (.bool f.isSome))] else w) [] r
    |none=>.fail
   |none=>.fail
  |_,_=>.fail
 | .bad=>.fail
 | .mupd kd ag m k v=>match ev aj m,ev aj k,wh ag (ev aj v) with
  | .one (.iS id g),.one (.p q),some cs=>match blk id,vI cs with
   |(g',some (.map mU es)),some ps=>if g'=g/\mU=ag/\ia q=kd then
     match rL q es 0 with
     |some (some (i,_))=>.done .undef [(id,(g,some (.map ag (es.set i (q,ps)))))] [id]
     |some none=>.done .undef [(id,(g,some (.map ag (es++[(q,ps)]))))] [id]
     |none=>.fail
    else .fail
   |_,_=>.fail
  |_,_,_=>.fail
 | .extract x i=>match ev aj x with
  | .tup vs=>match vs[i]? with
   |some v=>.done v [] []
   |none=>.fail
  |_=>.fail
 | .call s f as=>match yn aj f with
  |some (g,a,b)=>
   if shared g then .sc g (a.map .one++as.map (ev aj)++b.map .one)
   else match vG blk (a.map .one++as.map (ev aj)++b.map .one) with
    |some (vs,r)=>.pc g vs r s
    |none=>.fail
  |none=>.fail
 | .slen x=>match ev aj x with
  | .one (.p (.str s))=>.done (.one (.p (.int .i64 s.size))) [] []
  |_=>.fail
 | .xr x=>match tE (ev aj x) with
  |some n=>.done (.one (.p (.int .i64 n))) [] []
  |none=>.fail
 | .mlen x=>match vr blk (ev aj x) with
  |some (n,r)=>.done (.one (.p (.int .i64 n))) [] r
  |none=>.fail
 | .append s ty sz bytes d x=>fe blk s ty sz bytes (ev aj d) (ev aj x)
 | .max x y=>match ev aj x,ev aj y with
  | .one (.p (.int k a)),.one (.p (.int _ b))=>.done (.one (.p (.int k (if b>a then b else a)))) [] []
  |_,_=>.fail
 | .min x y=>match ev aj x,ev aj y with
  | .one (.p (.int k a)),.one (.p (.int _ b))=>.done (.one (.p (.int k (if b<a then b else a)))) [] []
  |_,_=>.fail
 | .clear z x=>match ev aj x with
  | .one (.p .nils)=>.done (.tup []) [] []
  | .one (.p (.sl []))=>.done (.tup []) [] []
  | .one (.hsl id g _ off len)=>if len=0 then .done (.tup []) [] [] else match blk id with
   |(g',some (.arr ty sz es))=>if g'=g/\sz=z.length/\off+len<=es.length then .done (.tup []) [(id,(g,some (.arr ty sz (dM es off (List.replicate len z)))))] [id] else .fail
   |_=>.fail
  |_=>.fail
structure bl where
 rd:List Nat
 wr:List Nat
 fs:List Nat
structure Al where
 any:Bool
 ids:List Nat
 fs:List Nat
def Al.all:Al:=⟨true,[],[]⟩
def kI(id:Nat):Nat:=id/64000000
def Al.ok(a:Al)(id:Nat):Bool:=a.any||a.ids.contains id||a.fs.contains (kI id)
def Al.fi(a:Al)(l:List Nat):Bool:=l.all a.ok
def Al.holds(a b:Al):Bool:=a.any||(a.fi b.ids&&b.fs.all a.fs.contains)
structure Ctx where
 shared:Nat->Bool
 sites:Nat->List Nat
 lone:Nat->Bool
 al:Al
def jT(blk:aw):Nat->C->List Nat
 |0,_=>[]
 |n+1,c=>match c with
  | .p _=>[]
  | .aZ id _ _=>id::match blk id with
   |(_,some (.var cs))=>(cs.map (jT blk n)).flatten
   |_=>[]
  | .cJ id _ _ _=>id::match blk id with
   |(_,some (.fO _ _ es))=>(es.flatten.map (jT blk n)).flatten
   |_=>[]
  | .hsl id _ _ _ _=>id::match blk id with
   |(_,some (.fO _ _ es))=>(es.flatten.map (jT blk n)).flatten
   |_=>[]
  | .iS id _=>[id]
  | .hfn _ a b=>(a.map (jT blk n)).flatten++(b.map (jT blk n)).flatten
def jG(blk:aw):V->List Nat
 | .one c=>jT blk dD c
 | .agg cs=>(cs.map (jT blk dD)).flatten
 |_=>[]
def allow(sh:Ctx)(f:Nat)(vs:List V)(blk:aw):Al:=⟨false,(vs.map (jG blk)).flatten,sh.sites f⟩
def put(aj:Env)(d:Option Nat)(v:V):Env:=
 match d with
 |some t=>ca aj t v
 |none=>aj
abbrev eN:=Nat->List V->Option RV
abbrev iv:=Nat->List V->Al->aw->Option (V×aw)
def land(blk:aw)(rd:List Nat)(site:Nat)(r:RV):Option (V×List dH):=
 if rd=[]\/r.alone then some (jg blk site r)
 else match oQ blk rd with
  |some u=>some ((jg blk site r).1,u++(jg blk site r).2)
  |none=>none
def wanted(aj:Env):Option (Nat×Bool)->Option Bool
 |none=>some true
 |some (t,want)=>match aj t with
  | .one (.p (.bool b))=>some (b==want)
  | .undef=>some false
  |_=>none
def step1(sh:Ctx)(cp:eN)(cs:iv)(o:aI)(aj:Env)(blk:aw):Option (Env×aw×bl):=
 match wanted aj o.guard with
 |none=>none
 |some false=>some (put aj o.dst .undef,blk,⟨[],[],[]⟩)
 |some true=>match aT sh.shared aj blk o.op with
  | .fail=>none
  | .done v u r=>if sh.al.fi (r++u.map (·.1)) then some (put aj o.dst v,app u blk,⟨r,u.map (·.1),[]⟩) else none
  | .pc f vs r s=>match cp f vs with
   |some x=>match land blk r s (x.fx (sh.lone s)) with
    |some (v,u)=>if sh.al.fi (r++u.map (·.1)) then some (put aj o.dst v,app u blk,⟨r++u.map (·.1),u.map (·.1),[]⟩) else none
    |none=>none
   |none=>none
  | .sc f vs=>if sh.al.holds (allow sh f vs blk) then
    match cs f vs (allow sh f vs blk) blk with
    |some (v,ak)=>some (put aj o.dst v,ak,⟨(allow sh f vs blk).ids,(allow sh f vs blk).ids,(allow sh f vs blk).fs⟩)
    |none=>none
   else none
def steps(sh:Ctx)(cp:eN)(cs:iv):List aI->Env->aw->Option (Env×aw×List bl)
 |[],aj,blk=>some (aj,blk,[])
 |o::r,aj,blk=>match step1 sh cp cs o aj blk with
  |some (aB,ak,e)=>match steps sh cp cs r aB ak with
   |some (nc,v7,es)=>some (nc,v7,e::es)
   |none=>none
  |none=>none
def meets(a b:List Nat):Bool:=a.any fun i=>b.contains i
def AY(fs ids:List Nat):Bool:=ids.any fun i=>fs.contains (kI i)
def zW(a b:bl):Bool:=meets a.wr b.rd||meets a.wr b.wr||meets a.rd b.wr||meets a.fs b.fs||AY a.fs (b.rd++b.wr)||AY b.fs (a.rd++a.wr)
def Iw(anc:Nat)(e:bl):Nat->List bl->Bool
 |_,[]=>true
 |j,x::r=>(anc.testBit j|| !zW x e)&&Iw anc e (j+1) r
def ow:List aI->List bl->List bl->Bool
 |o::os,past,e::es=>Iw o.anc e 0 past&&ow os (past++[e]) es
 |_,_,_=>true
inductive jV where
 |normal
 |exit (id:Nat)
 |ret
def iter(f:Env->aw->Option (jV×Env×aw)):Nat->Env->aw->Option (jV×Env×aw)
 |0,_,_=>none
 |n+1,aj,blk=>match f aj blk with
  |some (.normal,aB,ak)=>iter f n aB ak
  |r=>r
def exec(sh:Ctx)(cp:eN)(cs:iv)(n:Nat):aH->Env->aw->Option (jV×Env×aw)
 | .skip,aj,blk=>some (.normal,aj,blk)
 | .region d ops,aj,blk=>match steps sh cp cs ops aj blk with
  |some (aB,ak,es)=>if d then (if ow ops [] es then some (.normal,aB,ak) else none) else some (.normal,aB,ak)
  |none=>none
 | .seq a b,aj,blk=>match exec sh cp cs n a aj blk with
  |some (.normal,aB,ak)=>exec sh cp cs n b aB ak
  |r=>r
 | .cond x a b,aj,blk=>match ev aj x with
  | .one (.p (.bool t))=>if t then exec sh cp cs n a aj blk else exec sh cp cs n b aj blk
  |_=>none
 | .block id c,aj,blk=>match exec sh cp cs n c aj blk with
  |some (.exit i,aB,ak)=>if i=id then some (.normal,aB,ak) else some (.exit i,aB,ak)
  |r=>r
 | .loop c,aj,blk=>iter (exec sh cp cs n c) n aj blk
 | .exit id,aj,blk=>some (.exit id,aj,blk)
 | .ret,aj,blk=>some (.ret,aj,blk)
 | .bad,_,_=>none
def nr(args:List V):Env:=fun i=>args.getD i .undef
def Iu:V->Option V
 | .tup _=>none
 |v=>some v
def kW(al:Al)(aj:Env)(blk:aw):List (Nat×Option (Option Nat))->Option (List V)
 |[]=>some []
 |(t,none)::r=>match Iu (aj t),kW al aj blk r with
  |some v,some q=>some (v::q)
  |_,_=>none
 |(t,some k)::r=>match vF blk (aj t),kW al aj blk r with
  |some (cs,rd),some q=>if al.fi rd then (lM k cs).map (· ::q) else none
  |_,_=>none
def uQ:List V->V
 |[v]=>v
 |vs=>.tup vs
def vx:aw:=fun _=>(0,none)
def mN(sh:Ctx)(cp:eN)(cs:iv)(n:Nat)(fn:aU)(args:List V)(blk:aw):Option (V×aw):=
 match exec sh cp cs n fn.body (nr args) blk with
 |some (.normal,aj,ak)=>(kW sh.al aj ak fn.results).map fun vs=>(uQ vs,ak)
 |some (.ret,aj,ak)=>(kW sh.al aj ak fn.results).map fun vs=>(uQ vs,ak)
 |_=>none
def zu(sh:Ctx)(cp:eN)(cs:iv)(n:Nat)(fn:aU)(args:List V):Option RV:=
 match mN sh cp cs n fn args vx with
 |some (v,blk)=>ji blk v
 |none=>none
structure Sys where
 P:Program
 shared:Nat->Bool
 sites:Nat->List Nat
 lone:Nat->Bool
 fns:Nat->Option aU
 prim:Nat->List V->Option (Option RV)
 trig:Nat->List V->Bool:=fun _ _=>false
 primS:Nat->List V->Al->aw->Option (V×List dH):=fun _ _ _ _=>none
def Sys.ctx(S:Sys)(a:Al):Ctx:=⟨S.shared,S.sites,S.lone,a⟩
mutual
def gu(S:Sys):Nat->eN
 |0,_,_=>none
 |n+1,f,args=>match S.prim f args with
  |some r=>r
  |none=>match S.fns f with
   |some fn=>if args.length<=fn.ntmps then zu (S.ctx .all) (gu S n) (fm S n) n fn args else none
   |none=>none
def fm(S:Sys):Nat->iv
 |0,_,_,_,_=>none
 |n+1,f,args,al,blk=>if S.trig f args=true then (S.primS f args al blk).map (fun r=>(r.1,app r.2 blk)) else match S.fns f with
  |some fn=>if args.length<=fn.ntmps then mN (S.ctx al) (gu S n) (fm S n) n fn args blk else none
  |none=>none
end
def aE(S:Sys)(f:Nat)(args:List V)(r:RV):Prop:= ∃n,gu S n f args=some r
def fT(S:Sys)(f:Nat)(args:List V)(al:Al)(blk:aw)(v:V)(ak:aw):Prop:= ∃n,fm S n f args al blk=some (v,ak)
abbrev dF:=jV->Env->aw->Prop
def W (S:Sys)(al:Al)(c:aH)(Q:dF)(aj:Env)(blk:aw):Prop:=∃n e aB ak,exec (S.ctx al) (gu S n) (fm S n) n c aj blk=some (e,aB,ak)/\Q e aB ak
def WO (S:Sys)(al:Al)(ops:List aI)(Q:Env->aw->List bl->Prop)(aj:Env)(blk:aw)(tr:List bl):Prop:=∃n aB ak es,steps (S.ctx al) (gu S n) (fm S n) ops aj blk=some (aB,ak,es)/\Q aB ak (tr++es)
end Go.Abs
namespace Go.Abs
section
variable{m n:Nat}
def DR(a b:eN):Prop:=∀f x r,a f x=some r->b f x=some r
def SLe(a b:iv):Prop:=∀f x l k r,a f x l k=some r->b f x l k=some r
section
variable {sh:Ctx} {cp kj:eN} {cs yl:iv} (hp:DR cp kj) (hs:SLe cs yl)
include hp hs
theorem VR{o:aI}{aj:Env}{blk:aw}{r:Env×aw×bl}(h:step1 sh cp cs o aj blk=some r):step1 sh kj yl o aj blk=some r:=by
 unfold step1 at h ⊢;cases hw:wanted aj o.guard with
 |none=>simp[hw] at h
 |some b=>
  cases b with
  |false=>simpa [hw] using h
  |true=>
   simp only[hw] at h ⊢;cases bq:aT sh.shared aj blk o.op with
   |fail=>simp[bq] at h
   |done v u rd=>simpa [bq] using h
   |pc f vs rd s=>
    simp only[bq] at h ⊢;cases hc:cp f vs with
    |none=>simp[hc] at h
    |some x=>rw[hp _ _ _ hc];simpa [hc] using h
   |sc f vs=>
    simp only[bq] at h ⊢;split at h
    .rename_i ha;rw[if_pos ha];cases hc:cs f vs (allow sh f vs blk) blk with
     |none=>simp[hc] at h
     |some x=>rw[hs _ _ _ _ _ hc];simpa [hc] using h
    cases h
theorem VV:∀ {ops:List aI} {aj:Env} {blk:aw} {r:Env×aw×List bl},steps sh cp cs ops aj blk=some r->steps sh kj yl ops aj blk=some r:=by
 intro ops
 induction ops with
 |nil=>intro aj blk r h;simpa [steps] using h
 |cons o os ih=>
  intro aj blk r h;simp only[steps] at h ⊢;cases h1:step1 sh cp cs o aj blk with
  |none=>simp[h1] at h
  |some x=>
   obtain⟨e1,b1,f1⟩:=x;rw[VR hp hs h1];simp only[h1] at h ⊢;cases h2:steps sh cp cs os e1 b1 with
   |none=>simp[h2] at h
   |some y=>rw[ih h2];simpa [h2] using h
omit hp hs in
theorem TA{f g:Env->aw->Option (jV×Env×aw)}(hfg:∀e b r,f e b=some r->g e b=some r):
  ∀ {n m:Nat} {aj:Env} {blk:aw} {r:jV×Env×aw},n<=m->iter f n aj blk=some r->iter g m aj blk=some r:=by
 intro n
 induction n with
 |zero=>intro m aj blk r _ h;simp[iter] at h
 |succ n ih=>
  intro m aj blk r hm h;obtain⟨m,rfl⟩:∃k,m=k+1:=⟨m-1,aa⟩;simp only[iter] at h ⊢;cases hf:f aj blk with
  |none=>simp[hf] at h
  |some x=>
   obtain⟨e,e1,b1⟩:=x;rw[hfg _ _ _ hf];cases e with
   |normal=>simp only[hf] at h ⊢;exact ih aa h
   |exit i=>simpa [hf] using h
   |ret=>simpa [hf] using h
theorem QG(FQ:n<=m):∀ {c:aH} {aj:Env} {blk:aw} {r:jV×Env×aw},exec sh cp cs n c aj blk=some r->exec sh kj yl m c aj blk=some r:=by
 intro c
 induction c with
 |skip=>intro aj blk r h;simpa [exec] using h
 |region d ops=>
  intro aj blk r h;simp only[exec] at h ⊢;cases h1:steps sh cp cs ops aj blk with
  |none=>simp[h1] at h
  |some x=>rw[VV hp hs h1];simpa [h1] using h
 |seq a b iha ihb=>
  intro aj blk r h;simp only[exec] at h ⊢;cases h1:exec sh cp cs n a aj blk with
  |none=>simp[h1] at h
  |some x=>
   obtain⟨e,e1,b1⟩:=x;rw[iha h1];cases e with
   |normal=>simp only[h1] at h ⊢;exact ihb h
   |exit i=>simpa [h1] using h
   |ret=>simpa [h1] using h
 |cond x a b iha ihb=>
  intro aj blk r h;simp only[exec] at h ⊢;split at h
  .split at h
   .rename_i ht;simp only[ht,if_true];exact iha h
   rename_i ht;simp only[ht];exact ihb h
  cases h
 |block id c ih=>
  intro aj blk r h;simp only[exec] at h ⊢;cases h1:exec sh cp cs n c aj blk with
  |none=>simp[h1] at h
  |some x=>rw[ih h1];simpa [h1] using h
 |loop c ih=>intro aj blk r h;simp only[exec] at h ⊢;exact TA (fun _ _ _ h=>ih h) FQ h
 |exit id=>intro aj blk r h;simpa [exec] using h
 |ret=>intro aj blk r h;simpa [exec] using h
 |bad=>intro aj blk r h;simp[exec] at h
theorem NV(FQ:n<=m){fn:aU}{args:List V}{blk:aw}{r:V×aw}(h:mN sh cp cs n fn args blk=some r):mN sh kj yl m fn args blk=some r:=by
 unfold mN at h ⊢;cases h1:exec sh cp cs n fn.body (nr args) blk with
 |none=>simp[h1] at h
 |some x=>rw[QG hp hs FQ h1];simpa [h1] using h
theorem aeK(FQ:n<=m){fn:aU}{args:List V}{r:RV}(h:zu sh cp cs n fn args=some r):zu sh kj yl m fn args=some r:=by
 unfold zu at h ⊢;cases h1:mN sh cp cs n fn args vx with
 |none=>simp[h1] at h
 |some x=>rw[NV hp hs FQ h1];simpa [h1] using h
end
theorem Pr(S:Sys):∀n,DR (gu S n) (gu S (n+1))/\SLe (fm S n) (fm S (n+1)):=by
 intro n
 induction n with
 |zero=>exact⟨fun f x r h=>by simp[gu] at h,fun f x l k r h=>by simp[fm] at h⟩
 |succ n ih=>
  refine⟨fun f x r h=>?_,fun f x l k r h=>?_⟩
  .rw[gu] at h ⊢;cases hp:S.prim f x with
   |some r'=>simpa [hp] using h
   |none=>
    simp only[hp] at h ⊢;cases hf:S.fns f with
    |none=>simp[hf] at h
    |some fn=>
     simp only[hf] at h ⊢;split at h
     .rename_i hl;rw[if_pos hl];exact aeK ih.1 ih.2 aa h
     cases h
  rw[fm] at h ⊢;by_cases ht:S.trig f x=true
  .rw[if_pos ht] at h ⊢;exact h
  rw[if_neg ht] at h ⊢;cases hf:S.fns f with
  |none=>simp[hf] at h
  |some fn=>
   simp only[hf] at h ⊢;split at h
   .rename_i hl;rw[if_pos hl];exact NV ih.1 ih.2 aa h
   cases h
theorem Ed(S:Sys)(h:n<=m):DR (gu S n) (gu S m):=by
 induction h with
 |refl=>exact fun _ _ _ h=>h
 |step _ ih=>exact fun f x r hr=>(Pr S _).1 f x r (ih f x r hr)
theorem Ee(S:Sys)(h:n<=m):SLe (fm S n) (fm S m):=by
 induction h with
 |refl=>exact fun _ _ _ _ _ h=>h
 |step _ ih=>exact fun f x l k r hr=>(Pr S _).2 f x l k r (ih f x l k r hr)
theorem aE.wA{S:Sys}{f:Nat}{args:List V}{r r':RV}(h:aE S f args r)(h':aE S f args r'):r=r':=by obtain⟨n,hn⟩:=h;obtain⟨m,hm⟩:=h';have a:=Ed S (Bv n m) _ _ _ hn;have b:=Ed S (Nat.le_max_right n m) _ _ _ hm;rw[a] at b;exact DN b
theorem z6(S:Sys){al:Al}(h:n<=m){c:aH}{aj:Env}{blk:aw}{r:jV×Env×aw}(hr:exec (S.ctx al) (gu S n) (fm S n) n c aj blk=some r):
  exec (S.ctx al) (gu S m) (fm S m) m c aj blk=some r:=QG (Ed S h) (Ee S h) h hr
theorem agf(S:Sys){al:Al}(h:n<=m){ops:List aI}{aj:Env}{blk:aw}{r:Env×aw×List bl}(hr:steps (S.ctx al) (gu S n) (fm S n) ops aj blk=some r):
  steps (S.ctx al) (gu S m) (fm S m) ops aj blk=some r:=VV (Ed S h) (Ee S h) hr
variable {S:Sys} {al:Al} {Q:dF} {aj:Env} {blk:aw}
theorem W.mono{c:aH}{Q':dF}(h:W S al c Q aj blk)(hq:∀e aj blk,Q e aj blk->Q' e aj blk):W S al c Q' aj blk:=by obtain⟨n,e,aB,ak,h1,h2⟩:=h;exact⟨n,e,aB,ak,h1,hq _ _ _ h2⟩
theorem W4(h:Q .normal aj blk):W S al .skip Q aj blk:=⟨0,_,_,_,rfl,h⟩
theorem WX{id:Nat}(h:Q (.exit id) aj blk):W S al (.exit id) Q aj blk:=⟨0,_,_,_,rfl,h⟩
theorem W0(h:Q .ret aj blk):W S al .ret Q aj blk:=⟨0,_,_,_,rfl,h⟩
def GJ(next:Env->aw->Prop)(Q:dF):dF
 | .normal,aj,blk=>next aj blk
 |e,aj,blk=>Q e aj blk
theorem W1{a b:aH}(h:W S al a (GJ (W S al b Q) Q) aj blk):W S al (.seq a b) Q aj blk:=by
 obtain⟨n,e,aB,ak,h1,h2⟩:=h;cases e with
 |normal=>obtain⟨m,e,bH,aN,h3,h4⟩:=h2;refine⟨max n m,e,bH,aN,?_,h4⟩;simp only[exec];rw[z6 S (Bv n m) h1];exact z6 S (Nat.le_max_right n m) h3
 |exit i=>exact⟨n,_,_,_,by simp[exec,h1],h2⟩
 |ret=>exact⟨n,_,_,_,by simp[exec,h1],h2⟩
theorem WU{x:aK}{a b:aH}{t:Bool}(hx:ev aj x=.one (.p (.bool t)))(h:if t=true then W S al a Q aj blk else W S al b Q aj blk):W S al (.cond x a b) Q aj blk:=by
 cases t with
 |true=>obtain⟨n,e,aB,ak,h1,h2⟩:=h;exact⟨n,e,aB,ak,by simp[exec,hx,h1],h2⟩
 |false=>obtain⟨n,e,aB,ak,h1,h2⟩:=(by simpa using h:W S al b Q aj blk);exact⟨n,e,aB,ak,by simp[exec,hx,h1],h2⟩
def nO(id:Nat)(Q:dF):dF
 | .exit i,aj,blk=>if i=id then Q .normal aj blk else Q (.exit i) aj blk
 |e,aj,blk=>Q e aj blk
theorem WT{id:Nat}{c:aH}(h:W S al c (nO id Q) aj blk):W S al (.block id c) Q aj blk:=by
 obtain⟨n,e,aB,ak,h1,h2⟩:=h;cases e with
 |normal=>exact⟨n,_,_,_,by simp[exec,h1],h2⟩
 |ret=>exact⟨n,_,_,_,by simp[exec,h1],h2⟩
 |exit i=>
  simp only[nO] at h2;by_cases hi:i=id
  .simp only[hi,if_true] at h2;exact⟨n,_,_,_,by simp[exec,h1,hi],h2⟩
  simp only[hi,if_false] at h2;exact⟨n,_,_,_,by simp[exec,h1,hi],h2⟩
theorem MW(S:Sys){c:aH}{k l:Nat}(h:n<=m)(hk:k<=l){r:jV×Env×aw}(hr:iter (exec (S.ctx al) (gu S n) (fm S n) n c) k aj blk=some r):
  iter (exec (S.ctx al) (gu S m) (fm S m) m c) l aj blk=some r:=TA (fun _ _ _ h'=>z6 S h h') hk hr
theorem WY{c:aH}(I:Nat->Env->aw->Prop)(k0 N:Nat)(hk:k0<=N)(h0:I k0 aj blk)
  (round:∀k aj blk,k<=N->I k aj blk->W S al c (GJ (fun aB ak=>k<N/\I (k+1) aB ak) Q) aj blk):W S al (.loop c) Q aj blk:=by
 have key:∀j k aj blk,k+j=N->I k aj blk->∃n l e aB ak,iter (exec (S.ctx al) (gu S n) (fm S n) n c) l aj blk=some (e,aB,ak)/\Q e aB ak:=by
  intro j
  induction j with
  |zero=>
   intro k aj blk Aq hI;obtain⟨n,e,fA,aW,h1,h2⟩:=round k aj blk aa hI;cases e with
   |normal=>obtain⟨au,_⟩:=h2;omega
   |exit i=>exact⟨n,1,_,_,_,by simp[iter,h1],h2⟩
   |ret=>exact⟨n,1,_,_,_,by simp[iter,h1],h2⟩
  |succ j ih=>
   intro k aj blk Aq hI;obtain⟨n,e,fA,aW,h1,h2⟩:=round k aj blk aa hI;cases e with
   |normal=>obtain⟨_,hI1⟩:=h2;obtain⟨m,l,e,bH,aN,h3,h4⟩:=ih (k+1) fA aW aa hI1;refine⟨max n m,l+1,e,bH,aN,?_,h4⟩;simp only[iter];rw[z6 S (Bv n m) h1];exact MW S (Nat.le_max_right n m) (bo _) h3
   |exit i=>exact⟨n,1,_,_,_,by simp[iter,h1],h2⟩
   |ret=>exact⟨n,1,_,_,_,by simp[iter,h1],h2⟩
 obtain⟨n,l,e,aB,ak,h1,h2⟩:=key (N-k0) k0 aj blk aa h0;refine⟨max n l,e,aB,ak,?_,h2⟩;simp only[exec];exact MW S (Bv n l) (Nat.le_max_right n l) h1
theorem WZ{d:Bool}{ops:List aI}(h:WO S al ops (fun aj blk es=>(d=true->ow ops [] es=true)/\Q .normal aj blk) aj blk []):W S al (.region d ops) Q aj blk:=by
 obtain⟨n,aB,ak,es,h1,h2,h3⟩:=h;refine⟨n,.normal,aB,ak,?_,h3⟩;simp only[exec,h1];cases d with
 |false=>simp
 |true=>simpa using h2
theorem WR{R:Env->aw->List bl->Prop}{tr:List bl}(h:R aj blk tr):WO S al [] R aj blk tr:=⟨0,aj,blk,[],rfl,by simpa using h⟩
theorem G9{o:aI}{os:List aI}{R:Env->aw->List bl->Prop}{tr:List bl}{n:Nat}{fA:Env}{aW:aw}{e:bl}
  (h1:step1 (S.ctx al) (gu S n) (fm S n) o aj blk=some (fA,aW,e)) (h:WO S al os R fA aW (tr++[e])):WO S al (o::os) R aj blk tr:=by
 obtain⟨m,aB,ak,es,h2,h3⟩:=h;refine⟨max n m,aB,ak,e::es,?_,by simpa using h3⟩;simp only[steps];rw[VR (Ed S (Bv n m)) (Ee S (Bv n m)) h1];simp[agf S (Nat.le_max_right n m) h2]
def Ac(S:Sys)(al:Al)(p:ej)(d:Option Nat)(aj:Env)(blk:aw)(tr:List bl)(K:Env->aw->List bl->Prop):Prop:=
 match p with
 | .fail=>False
 | .done v u r=>al.fi (r++u.map (·.1))=true/\K (put aj d v) (app u blk) (tr++[⟨r,u.map (·.1),[]⟩])
 | .pc f vs r s=>∃x,aE S f vs x/\match land blk r s (x.fx (S.lone s)) with
  |some (v,u)=>al.fi (r++u.map (·.1))=true/\K (put aj d v) (app u blk) (tr++[⟨r++u.map (·.1),u.map (·.1),[]⟩])
  |none=>False
 | .sc f vs=>al.holds (allow (S.ctx al) f vs blk)=true/\ ∃v ak,fT S f vs (allow (S.ctx al) f vs blk) blk v ak/\
   K (put aj d v) ak (tr++[⟨(allow (S.ctx al) f vs blk).ids,(allow (S.ctx al) f vs blk).ids,(allow (S.ctx al) f vs blk).fs⟩])
def yr(S:Sys)(al:Al)(w:Option Bool)(o:aI)(aj:Env)(blk:aw)(tr:List bl)(K:Env->aw->List bl->Prop):Prop:=
 match w with
 |none=>False
 |some false=>K (put aj o.dst .undef) blk (tr++[⟨[],[],[]⟩])
 |some true=>Ac S al (aT S.shared aj blk o.op) o.dst aj blk tr K
@[simp] theorem Al.zQ (l:List Nat):Al.all.fi l=true:=by simp[Al.fi,Al.ok,Al.all]
@[simp] theorem Al.ahf (b:Al):Al.all.holds b=true:=rfl
theorem WS{o:aI}{os:List aI}{R:Env->aw->List bl->Prop}{tr:List bl}
  (h:yr S al (wanted aj o.guard) o aj blk tr (WO S al os R)):WO S al (o::os) R aj blk tr:=by
 cases hw:wanted aj o.guard with
 |none=>simp[hw,yr] at h
 |some b=>
  cases b with
  |false=>rw[hw] at h;exact G9 (n:=0) (by simp[step1,hw]) h
  |true=>
   rw[hw] at h;simp only[yr] at h;have dY:(S.ctx al).shared=S.shared:=rfl;have gI:(S.ctx al).al=al:=rfl;have eY:(S.ctx al).lone=S.lone:=rfl;cases bq:aT S.shared aj blk o.op with
   |fail=>simp[bq,Ac] at h
   |done v u r=>rw[bq] at h;obtain⟨h1,h⟩:=h;exact G9 (n:=0) (by simp only[step1,hw,dY,gI,bq,h1,if_true]) h
   |pc f vs r s=>
    rw[bq] at h;obtain⟨x,⟨n,hx⟩,h⟩:=h;cases hl:land blk r s (x.fx (S.lone s)) with
    |none=>simp[hl] at h
    |some y=>obtain⟨v,u⟩:=y;simp only[hl] at h;obtain⟨h1,h⟩:=h;exact G9 (n:=n) (by simp only[step1,hw,dY,gI,eY,bq,hx,hl,h1,if_true]) h
   |sc f vs=>rw[bq] at h;obtain⟨h1,v,ak,⟨n,hx⟩,h⟩:=h;exact G9 (n:=n) (by simp only[step1,hw,dY,gI,bq,h1,if_true,hx]) h
end
end Go.Abs
namespace Go.Abs
variable {S:Sys} {al:Al}
def oL(al:Al)(res:List (Nat×Option (Option Nat)))(R:V->aw->Prop):dF
 | .exit _,_,_=>False
 |_,aj,blk=>match kW al aj blk res with
  |some vs=>R (uQ vs) blk
  |none=>False
theorem Jt{fn:aU}{args:List V}{blk:aw}{R:V->aw->Prop}(h:W S al fn.body (oL al fn.results R) (nr args) blk):
  ∃n v ak,mN (S.ctx al) (gu S n) (fm S n) n fn args blk=some (v,ak)/\R v ak:=by
 obtain⟨n,e,aB,ak,h1,h2⟩:=h;refine⟨n,?_⟩;unfold mN;rw[h1];cases e with
 |exit i=>exact h2.elim
 |normal=>
  simp only[oL] at h2;split at h2
  .rename_i vs hv;exact⟨_,_,by simp only[show(S.ctx al).al=al from rfl,hv,kM],h2⟩
  exact h2.elim
 |ret=>
  simp only[oL] at h2;split at h2
  .rename_i vs hv;exact⟨_,_,by simp only[show(S.ctx al).al=al from rfl,hv,kM],h2⟩
  exact h2.elim
theorem WI{f:Nat}{fn:aU}{args:List V}{r:RV}(hp:S.prim f args=none)(hf:S.fns f=some fn)(hl:args.length<=fn.ntmps)
  (h:W S .all fn.body (oL .all fn.results fun v blk=>ji blk v=some r) (nr args) vx):aE S f args r:=by
 obtain⟨n,v,ak,h1,h2⟩:=Jt h;refine⟨n+1,?_⟩;rw[gu];simp only[hp,hf,hl,if_true];unfold zu;rw[h1];exact h2
theorem lf{f:Nat}{fn:aU}{args:List V}{blk:aw}{R:V->aw->Prop}(hf:S.fns f=some fn)(hl:args.length<=fn.ntmps)
  (h:W S al fn.body (oL al fn.results R) (nr args) blk) (ht:S.trig f args=false:=by rfl):∃v ak,fT S f args al blk v ak/\R v ak:=by
 obtain⟨n,v,ak,h1,h2⟩:=Jt h;refine⟨v,ak,⟨n+1,?_⟩,h2⟩;rw[fm];simp only[ht,iF,if_false,hf,hl,if_true];exact h1
end Go.Abs
namespace Go.Abs
variable {S:Sys} {al:Al} {Q:dF} {aj:Env} {blk:aw}
theorem OZ:W S al .skip Q aj blk↔Q .normal aj blk:=⟨fun⟨_,_,_,_,h,q⟩=>by simp[exec] at h;obtain⟨rfl,rfl,rfl⟩:=h;exact q,W4⟩
theorem OW{id:Nat}:W S al (.exit id) Q aj blk↔Q (.exit id) aj blk:=⟨fun⟨_,_,_,_,h,q⟩=>by simp[exec] at h;obtain⟨rfl,rfl,rfl⟩:=h;exact q,WX⟩
theorem OY:W S al .ret Q aj blk↔Q .ret aj blk:=⟨fun⟨_,_,_,_,h,q⟩=>by simp[exec] at h;obtain⟨rfl,rfl,rfl⟩:=h;exact q,W0⟩
theorem W2{a b:aH}:W S al (.seq a b) Q aj blk↔W S al a (GJ (W S al b Q) Q) aj blk:=by
 refine⟨?_,W1⟩;rintro ⟨n,e,aB,ak,h,q⟩
 simp only[exec] at h;cases h1:exec (S.ctx al) (gu S n) (fm S n) n a aj blk with
 |none=>simp[h1] at h
 |some x=>
  obtain⟨e1,fA,aW⟩:=x;refine⟨n,e1,fA,aW,h1,?_⟩;cases e1 with
  |normal=>simp only[h1] at h;exact⟨n,e,aB,ak,h,q⟩
  |exit i=>simp[h1] at h;obtain⟨rfl,rfl,rfl⟩:=h;exact q
  |ret=>simp[h1] at h;obtain⟨rfl,rfl,rfl⟩:=h;exact q
def BY(v:V)(A B:Prop):Prop:=
 match v with
 | .one (.p (.bool t))=>if t=true then A else B
 |_=>False
theorem WV{x:aK}{a b:aH}:W S al (.cond x a b) Q aj blk↔BY (ev aj x) (W S al a Q aj blk) (W S al b Q aj blk):=by
 constructor
 .rintro ⟨n,e,aB,ak,h,q⟩
  simp only[exec] at h;split at h
  .rename_i t ht;rw[ht];simp only[BY];cases t with
   |true=>exact⟨n,e,aB,ak,by simpa using h,q⟩
   |false=>exact⟨n,e,aB,ak,by simpa using h,q⟩
  cases h
 intro h;unfold BY at h;split at h
 .rename_i t ht;exact WU ht h
 exact h.elim
theorem OV{id:Nat}{c:aH}:W S al (.block id c) Q aj blk↔W S al c (nO id Q) aj blk:=by
 refine⟨?_,WT⟩;rintro ⟨n,e,aB,ak,h,q⟩
 simp only[exec] at h;cases h1:exec (S.ctx al) (gu S n) (fm S n) n c aj blk with
 |none=>simp[h1] at h
 |some x=>
  obtain⟨e1,fA,aW⟩:=x;refine⟨n,e1,fA,aW,h1,?_⟩;cases e1 with
  |normal=>simp[h1] at h;obtain⟨rfl,rfl,rfl⟩:=h;exact q
  |ret=>simp[h1] at h;obtain⟨rfl,rfl,rfl⟩:=h;exact q
  |exit i=>
   simp only[h1] at h;simp only[nO];split at h
   .rename_i hi;simp at h;obtain⟨rfl,rfl,rfl⟩:=h;rw[if_pos hi];exact q
   rename_i hi;simp at h;obtain⟨rfl,rfl,rfl⟩:=h;rw[if_neg hi];exact q
theorem Js{R:Env->aw->List bl->Prop}{tr:List bl}:WO S al [] R aj blk tr↔R aj blk tr:=by
 refine⟨?_,WR⟩;rintro ⟨n,aB,ak,es,h,q⟩
 simp[steps] at h;obtain⟨rfl,rfl,rfl⟩:=h
 simpa using q
theorem Ha{o:aI}{os:List aI}{R:Env->aw->List bl->Prop}{tr:List bl}:
  WO S al (o::os) R aj blk tr↔yr S al (wanted aj o.guard) o aj blk tr (WO S al os R):=by
 refine⟨?_,WS⟩;rintro ⟨n,aB,ak,es,h,q⟩
 simp only[steps] at h;cases h1:step1 (S.ctx al) (gu S n) (fm S n) o aj blk with
 |none=>simp[h1] at h
 |some x=>
  obtain⟨fA,aW,e⟩:=x;simp only[h1] at h;cases h2:steps (S.ctx al) (gu S n) (fm S n) os fA aW with
  |none=>simp[h2] at h
  |some y=>
   obtain⟨bH,aN,es2⟩:=y;simp[h2] at h;obtain⟨rfl,rfl,rfl⟩:=h;have hk:WO S al os R fA aW (tr++[e]):=⟨n,_,_,es2,h2,by simpa using q⟩;unfold step1 at h1;cases hw:wanted aj o.guard with
   |none=>simp[hw] at h1
   |some b=>
    cases b with
    |false=>simp[hw] at h1;obtain⟨rfl,rfl,rfl⟩:=h1;exact hk
    |true=>
     simp only[hw] at h1;simp only[yr];have dY:(S.ctx al).shared=S.shared:=rfl;have gI:(S.ctx al).al=al:=rfl;have eY:(S.ctx al).lone=S.lone:=rfl;simp only[dY,gI,eY] at h1;cases bq:aT S.shared aj blk o.op with
     |fail=>simp[bq] at h1
     |done v u r=>
      simp only[bq] at h1;split at h1
      .rename_i aq;cases h1;exact⟨aq,hk⟩
      cases h1
     |pc f vs r s=>
      simp only[bq] at h1;cases hc:gu S n f vs with
      |none=>simp[hc] at h1
      |some x=>
       simp only[hc] at h1;refine⟨x,⟨n,hc⟩,?_⟩;cases hl:land blk r s (x.fx (S.lone s)) with
       |none=>simp[hl] at h1
       |some y=>
        obtain⟨v,u⟩:=y;simp only[hl] at h1;split at h1
        .rename_i aq;cases h1;exact⟨aq,hk⟩
        cases h1
     |sc f vs=>
      simp only[bq] at h1;split at h1
      .rename_i aq;cases hc:fm S n f vs (allow (S.ctx al) f vs blk) blk with
       |none=>simp[hc] at h1
       |some x=>obtain⟨v,b⟩:=x;simp only[hc] at h1;cases h1;exact⟨aq,v,_,⟨n,hc⟩,hk⟩
      cases h1
theorem OX{d:Bool}{ops:List aI}:W S al (.region d ops) Q aj blk↔WO S al ops (fun aj blk es=>(d=true->ow ops [] es=true)/\Q .normal aj blk) aj blk []:=by
 refine⟨?_,WZ⟩;rintro ⟨n,e,aB,ak,h,q⟩
 simp only[exec] at h;cases h1:steps (S.ctx al) (gu S n) (fm S n) ops aj blk with
 |none=>simp[h1] at h
 |some x=>
  obtain⟨fA,aW,es⟩:=x;simp only[h1] at h;cases d with
  |false=>simp at h;obtain⟨rfl,rfl,rfl⟩:=h;exact⟨n,_,_,es,h1,af,q⟩
  |true=>simp at h;obtain⟨hd,rfl,rfl,rfl⟩:=h;exact⟨n,_,_,es,h1,fun _=>by simpa using hd,q⟩
end Go.Abs
namespace Go.Abs
section
variable{v:Value}
inductive bh (w:World) (own:Nat->Prop):PV->Value->Prop where
 |bool (b:Bool):bh w own (.bool b) (.bool b)
 |int (k:IntKind) (n:Int):bh w own (.int k n) (.int k n)
 |str (s:ByteArray):bh w own (.str s) (.string s)
 |qU:bh w own .qU (.pointer none)
 |nils:bh w own .nils (.slice none 0 0)
 |mf:bh w own .mf (.map none)
 |fX:bh w own .fX .nilFunc
 |nili:bh w own .nili .nilIface
 |ifc (d:TypeId) (x:Value):bh w own .ifc (.iface d x)
 |zs (a:Option Addr):bh w own .zs (.slice a 0 0)
 |box {cs:List PV} (b o:Nat) (f:Nat->Value) (ho:cs≠[]-> ¬own b)
   (hc:∀(j:Nat) (x:PV),cs[j]?=some x->w.cell? ⟨b,o+j,none⟩=some (f j))
   (hr:∀(j:Nat) (x:PV),cs[j]?=some x->bh w own x (f j)):bh w own (.box cs) (.pointer (some ⟨b,o,none⟩))
 |sB (a:Option Addr) (cap:Nat) (hn:a=none->cap=0) (hm:cap<=maxLen):bh w own (.sl []) (.slice a 0 cap)
 |sl {es:List (List PV)} (b o cap sz:Nat) (f:Nat->Value) (ho:es.flatten≠[]-> ¬own b) (hl:es.length<=cap) (hm:cap<=maxLen) (hsz:∀e∈es,e.length=sz)
   (hc:∀(j:Nat) (x:PV),es.flatten[j]?=some x->w.cell? ⟨b,o+j,none⟩=some (f j))
   (hr:∀(j:Nat) (x:PV),es.flatten[j]?=some x->bh w own x (f j)):bh w own (.sl es) (.slice (some ⟨b,o,none⟩) es.length cap)
 |mp {ag:Bool} {es:List (PV×List PV)} (r:Nat) (ents:Array MapEntry) (clock:Nat) (g:Nat->Array Value) (ho:¬own r) (hb:w.heap[r]?=some (.map ents clock)) (hl:ents.size=es.length)
   (hk:∀(i:Nat) (q:PV) (v:List PV) (e:MapEntry),es[i]?=some (q,v)->ents[i]?=some e->bh w own q e.key)
   (hv:∀(i:Nat) (q:PV) (v:List PV) (e:MapEntry),es[i]?=some (q,v)->ents[i]?=some e->(g i).size=v.length/\(ag=true->e.val=.agg (g i))/\(ag=false-> #[e.val]=g i))
   (hr:∀(i:Nat) (q:PV) (v:List PV) (j:Nat) (x:PV) (u:Value),es[i]?=some (q,v)->v[j]?=some x->(g i)[j]?=some u->bh w own x u):bh w own (.mp ag es) (.map (some r))
 |fn {f:Nat} {a b:List PV} (A B:Array Value) (ha:A.size=a.length) (hb:B.size=b.length)
   (qL:∀(j:Nat) (x:PV) (u:Value),a[j]?=some x->A[j]?=some u->bh w own x u)
   (kC:∀(j:Nat) (x:PV) (u:Value),b[j]?=some x->B[j]?=some u->bh w own x u):bh w own (.fn f a b) (.func (.func f) A B)
theorem bh.Gq{w:World}{own:Nat->Prop}{x:PV}(h:bh w own x v):v.oneCell'=true:=by cases h<;>rfl
theorem bh.cells{w:World}{own:Nat->Prop}{x:PV}(h:bh w own x v):v.cells= #[v]:=by cases h<;>rfl
theorem JI{w:World}{b o:Nat}(h:w.cell? ⟨b,o,none⟩=some v):b<w.heap.size:=World.block_lt_of_cell? w ⟨b,o,none⟩ h
theorem qe{w:World}{b:Nat}{o:Obj}(h:w.heap[b]?=some o):b<w.heap.size:=(Array.getElem?_eq_some_iff.1 h).1
theorem bh.mono{w w':World}{own uL:Nat->Prop}(hk:∀c,c<w.heap.size-> ¬own c->w'.heap[c]?=w.heap[c]? /\ ¬uL c){x:PV}{v:Value}
  (h:bh w own x v):bh w' uL x v:=by
 induction h with
 |bool b=>exact .bool b
 |int k n=>exact .int k n
 |str s=>exact .str s
 |qU=>exact .qU
 |nils=>exact .nils
 |mf=>exact .mf
 |fX=>exact .fX
 |nili=>exact .nili
 |ifc d x=>exact .ifc d x
 |zs a=>exact .zs a
 | @box cs b o f ho hc _ ih=>
  cases cs with
  |nil=>exact .box b o f (fun h=>(h rfl).elim) (fun j x h=>by simp at h) (fun j x h=>by simp at h)
  |cons c r=>have hb:=JI (hc 0 c rfl);have hn:=ho af;refine .box b o f (fun _=>(hk b hb hn).2) (fun j x h=>?_) ih;rw[World.cell?_of_block (hk b hb hn).1];exact hc j x h
 |sB a cap hn hm=>exact .sB a cap hn hm
 | @sl es b o cap sz f ho hl hm hsz hc _ ih=>
  cases hf:es.flatten with
  |nil=>exact .sl b o cap sz f (fun h=>(h hf).elim) hl hm hsz (fun j x h=>by simp[hf] at h) (fun j x h=>by simp[hf] at h)
  |cons c r=>have hb:=JI (hc 0 c (by simp[hf]));have hn:=ho (by simp[hf]);refine .sl b o cap sz f (fun _=>(hk b hb hn).2) hl hm hsz (fun j x h=>?_) ih;rw[World.cell?_of_block (hk b hb hn).1];exact hc j x h
 | @mp ag es r ents clock g ho hb hl _ hv _ ihk ihr=>exact .mp r ents clock g (hk r (qe hb) ho).2 ((hk r (qe hb) ho).1.trans hb) hl ihk hv ihr
 |fn A B ha hb _ _ iha ihb=>exact .fn A B ha hb iha ihb
structure Mem where
 w:World
 blk:aw
 σ:Nat->Nat
 κ:Nat->Nat
 fr:Nat->Prop
def Ob.eH:Ob->Bool
 | .var _| .arr _ _ _| .fO _ _ _| .map _ _=>true
 |_=>false
def iE:Nat×Option Ob->Option Nat
 |(_,some (.arr _ sz _))=>some sz
 |(_,some (.fO _ sz _))=>some sz
 |(_,some (.lr _ sz _))=>some sz
 |_=>none
def Mem.eH(m:Mem)(c:Nat):Prop:= ∃id o,(m.blk id).2=some o/\o.eH=true/\m.σ id=c
def Mem.own(m:Mem)(c:Nat):Prop:=m.fr c\/m.eH c
inductive bG (m:Mem):C->Value->Prop where
 |p {x:PV} {v:Value} (h:bh m.w m.own x v):bG m (.p x) v
 |aZ {id g off:Nat} (a:Addr) (hg:g<=(m.blk id).1) (h:(m.blk id).1=g->(m.blk id).2.isSome=true->a=⟨m.σ id,off,none⟩):bG m (.aZ id g off) (.pointer (some a))
 |cJ {id g i off:Nat} (a:Addr) (hg:g<=(m.blk id).1) (h:∀sz,(m.blk id).1=g->iE (m.blk id)=some sz->a=⟨m.σ id,i*sz+off,none⟩):bG m (.cJ id g i off) (.pointer (some a))
 |hsl {id g z off len:Nat} (a:Addr) (cap:Nat) (hg:g<=(m.blk id).1) (hl:len<=cap) (hm:cap<=maxLen)
   (h:∀sz,(m.blk id).1=g->iE (m.blk id)=some sz->sz=z/\(off=0\/0<len->a=⟨m.σ id,off*sz,none⟩)/\(off=0->cap=m.κ id)):
   bG m (.hsl id g z off len) (.slice (some a) len cap)
 |iS {id g:Nat} (r:Nat) (hg:g<=(m.blk id).1) (h:(m.blk id).1=g->(m.blk id).2.isSome=true->r=m.σ id):bG m (.iS id g) (.map (some r))
 |hfn {f:Nat} {a b:List C} (A B:Array Value) (ha:A.size=a.length) (hb:B.size=b.length)
   (qL:∀(j:Nat) (x:C) (u:Value),a[j]?=some x->A[j]?=some u->bG m x u)
   (kC:∀(j:Nat) (x:C) (u:Value),b[j]?=some x->B[j]?=some u->bG m x u):bG m (.hfn f a b) (.func (.func f) A B)
theorem bG.Gq{m:Mem}{x:C}(h:bG m x v):v.oneCell'=true:=by
 cases h with
 |p h=>exact h.Gq
 |_=>rfl
theorem bG.cells{m:Mem}{x:C}(h:bG m x v):v.cells= #[v]:=by
 cases h with
 |p h=>exact h.cells
 |_=>rfl
def ch(m:Mem)(cs:List C)(vs:List Value):Prop:=vs.length=cs.length/\ ∀(j:Nat) (x:C) (u:Value),cs[j]?=some x->vs[j]?=some u->bG m x u
def bQ(w:World)(own:Nat->Prop)(cs:List PV)(vs:List Value):Prop:=vs.length=cs.length/\ ∀(j:Nat) (x:PV) (u:Value),cs[j]?=some x->vs[j]?=some u->bh w own x u
def kN(m:Mem):V->Value->Prop
 | .undef,v=>v=undef
 | .one c,v=>bG m c v
 | .agg cs,v=>∃arr,v=.agg arr/\ch m cs arr.toList
 | .tup _,_=>False
def aY(m:Mem):V->Value->Prop
 | .tup vs,v=>∃arr,v=.tuple arr/\arr.size=vs.length/\ ∀(j:Nat) (x:V) (u:Value),vs[j]?=some x->arr[j]?=some u->kN m x u
 |x,v=>kN m x v
def nK(m:Mem)(id:Nat):Ob->Prop
 | .var cs=>∃cur ty,m.w.heap[m.σ id]?=some (.cells cur ty (0,0))/\ch m cs cur.toList
 | .fvar cs=>∃cur ty fz,m.w.heap[m.σ id]?=some (.cells cur ty fz)/\bQ m.w m.own cs cur.toList/\ ¬m.own (m.σ id)
 | .arr ty sz es=>∃cur,m.w.heap[m.σ id]?=some (.cells cur ty (0,0))/\0<sz/\(∀e∈es,e.length=sz)/\es.length<=m.κ id/\m.κ id<=maxLen/\cur.size=m.κ id*sz/\
   bQ m.w m.own es.flatten (cur.toList.take (es.length*sz))
 | .lr ty sz es=>∃cur fz,m.w.heap[m.σ id]?=some (.cells cur ty fz)/\0<sz/\(∀e∈es,e.length=sz)/\es.length<=m.κ id/\m.κ id<=maxLen/\cur.size=m.κ id*sz/\
   bQ m.w m.own es.flatten (cur.toList.take (es.length*sz))/\ ¬m.own (m.σ id)
 | .fO ty sz es=>∃cur,m.w.heap[m.σ id]?=some (.cells cur ty (0,0))/\0<sz/\(∀e∈es,e.length=sz)/\es.length<=m.κ id/\m.κ id<=maxLen/\cur.size=m.κ id*sz/\
   ch m es.flatten (cur.toList.take (es.length*sz))
 | .map ag es=>∃ents clock,m.w.heap[m.σ id]?=some (.map ents clock)/\ents.size=es.length/\
   ∀(i:Nat) (q:PV) (v:List PV) (e:MapEntry),es[i]?=some (q,v)->ents[i]?=some e->bh m.w m.own q e.key/\ ∃g:Array Value,(ag=true->e.val=.agg g)/\(ag=false-> #[e.val]=g)/\bQ m.w m.own v g.toList
 | .fmap ag es=>∃ents clock,m.w.heap[m.σ id]?=some (.map ents clock)/\ents.size=es.length/\
   (∀(i:Nat) (q:PV) (v:List PV) (e:MapEntry),es[i]?=some (q,v)->ents[i]?=some e->bh m.w m.own q e.key/\ ∃g:Array Value,(ag=true->e.val=.agg g)/\(ag=false-> #[e.val]=g)/\bQ m.w m.own v g.toList)/\ ¬m.own (m.σ id)
structure Ok (w0:World) (m:Mem):Prop where
 os:m.w.os=w0.os
 tape:m.w.tape=w0.tape
 output:m.w.output=w0.output
 size:w0.heap.size<=m.w.heap.size
 base:∀c,c<w0.heap.size->m.w.heap[c]?=w0.heap[c]?
 obj:∀id o,(m.blk id).2=some o->nK m id o
 eC:∀id o,(m.blk id).2=some o->o.eH=true->w0.heap.size<=m.σ id/\ ¬m.fr (m.σ id)
 frlt:∀c,m.fr c->c<m.w.heap.size
 inj:∀id dL o o',(m.blk id).2=some o->o.eH=true->(m.blk dL).2=some o'->o'.eH=true->m.σ id=m.σ dL->id=dL
structure Ev (m m':Mem):Prop where
 os:m'.w.os=m.w.os
 tape:m'.w.tape=m.w.tape
 output:m'.w.output=m.w.output
 size:m.w.heap.size<=m'.w.heap.size
 keep:∀c,c<m.w.heap.size-> ¬m.eH c->m'.w.heap[c]?=m.w.heap[c]?
 eH:∀c,c<m.w.heap.size->m'.eH c->m.eH c
 less:∀c,c<m.w.heap.size-> ¬m.own c-> ¬m'.own c
 gen:∀id,(m.blk id).1<=(m'.blk id).1
 ref:∀id,(m'.blk id).1=(m.blk id).1->(m'.blk id).2.isSome=true->(m.blk id).2.isSome=true/\m'.σ id=m.σ id/\m'.κ id=m.κ id/\iE (m'.blk id)=iE (m.blk id)
theorem Ev.refl(m:Mem):Ev m m:=⟨rfl,rfl,rfl,bo _,fun _ _ _=>rfl,fun _ _ h=>h,fun _ _ h=>h,fun _=>bo _,fun _ _ h=>⟨h,rfl,rfl,rfl⟩⟩
theorem Ev.trans{a b c:Mem}(h:Ev a b)(k:Ev b c):Ev a c where
 os:=k.os.trans h.os
 tape:=k.tape.trans h.tape
 output:=k.output.trans h.output
 size:=mm h.size k.size
 keep x hx hm:=(k.keep x (xS hx h.size) fun hb=>hm (h.eH x hx hb)).trans (h.keep x hx hm)
 eH x hx hm:=h.eH x hx (k.eH x (xS hx h.size) hm)
 less x hx hn:=k.less x (xS hx h.size) (h.less x hx hn)
 gen id:=mm (h.gen id) (k.gen id)
 ref id he hs:=by have h1:=h.gen id;have h2:=k.gen id;obtain⟨s1,e1,e2,e3⟩:=k.ref id aa hs;obtain⟨s2,f1,f2,f3⟩:=h.ref id aa s1;exact⟨s2,e1.trans f1,e2.trans f2,e3.trans f3⟩
theorem Ev.own{m m':Mem}(h:Ev m m'):∀c,c<m.w.heap.size-> ¬m.own c->m'.w.heap[c]?=m.w.heap[c]? /\ ¬m'.own c:=fun c hc hn=>⟨h.keep c hc fun hm=>hn (.inr hm),h.less c hc hn⟩
theorem V6{x:Nat×Option Ob}{sz:Nat}(h:iE x=some sz):x.2.isSome=true:=by
 obtain⟨g,o⟩:=x;cases o with
 |none=>simp[iE] at h
 |some o=>rfl
structure pN (m m':Mem):Prop where
 own:∀c,c<m.w.heap.size-> ¬m.own c->m'.w.heap[c]?=m.w.heap[c]? /\ ¬m'.own c
 gen:∀id,(m.blk id).1<=(m'.blk id).1
 ref:∀id,(m'.blk id).1=(m.blk id).1->(m'.blk id).2.isSome=true->(m.blk id).2.isSome=true/\m'.σ id=m.σ id/\m'.κ id=m.κ id/\iE (m'.blk id)=iE (m.blk id)
theorem Ev.zero{m m':Mem}(h:Ev m m'):pN m m':=⟨h.own,h.gen,h.ref⟩
theorem bh.ev{m m':Mem}(h:pN m m'){x:PV}(hr:bh m.w m.own x v):bh m'.w m'.own x v:=hr.mono h.own
theorem bG.ev{m m':Mem}(h:pN m m'){x:C}(hr:bG m x v):bG m' x v:=by
 induction hr with
 |p hp=>exact .p (hp.ev h)
 | @aZ id g off a hg ha=>have Mu:=h.gen id;refine .aZ a aa fun Ak hs=>?_;obtain⟨s,e1,_,_⟩:=h.ref id aa hs;rw[e1];exact ha aa s
 | @cJ id g i off a hg ha=>have Mu:=h.gen id;refine .cJ a aa fun sz Ak hs=>?_;obtain⟨s,e1,_,e3⟩:=h.ref id aa (V6 hs);rw[e1];exact ha sz aa (e3▸hs)
 | @hsl id g z off len a cap hg hl hm ha=>have Mu:=h.gen id;refine .hsl a cap aa hl hm fun sz Ak hs=>?_;obtain⟨s,e1,e2,e3⟩:=h.ref id aa (V6 hs);rw[e1,e2];exact ha sz aa (e3▸hs)
 | @iS id g r hg hr=>have Mu:=h.gen id;refine .iS r aa fun Ak hs=>?_;obtain⟨s,e1,_,_⟩:=h.ref id aa hs;rw[e1];exact hr aa s
 |hfn A B ha hb _ _ iha ihb=>exact .hfn A B ha hb iha ihb
theorem ch.ev{m m':Mem}(h:pN m m'){cs:List C}{vs:List Value}(hr:ch m cs vs):ch m' cs vs:=⟨hr.1,fun j x u a b=>(hr.2 j x u a b).ev h⟩
theorem bQ.mono{w w':World}{own uL:Nat->Prop}(hk:∀c,c<w.heap.size-> ¬own c->w'.heap[c]?=w.heap[c]? /\ ¬uL c){cs:List PV}{vs:List Value}
  (hr:bQ w own cs vs):bQ w' uL cs vs:=⟨hr.1,fun j x u a b=>(hr.2 j x u a b).mono hk⟩
theorem bQ.ev{m m':Mem}(h:pN m m'){cs:List PV}{vs:List Value}(hr:bQ m.w m.own cs vs):bQ m'.w m'.own cs vs:=hr.mono h.own
theorem kN.ev{m m':Mem}(h:pN m m'){x:V}(hr:kN m x v):kN m' x v:=by
 cases x with
 |undef=>exact hr
 |one c=>exact bG.ev h hr
 |agg cs=>obtain⟨arr,e,hc⟩:=hr;exact⟨arr,e,hc.ev h⟩
 |tup vs=>exact hr.elim
theorem aY.ev{m m':Mem}(h:pN m m'){x:V}(hr:aY m x v):aY m' x v:=by
 cases x with
 |tup vs=>obtain⟨arr,e,hs,hc⟩:=hr;exact⟨arr,e,hs,fun j x u a b=>(hc j x u a b).ev h⟩
 |undef=>exact kN.ev (x:=.undef) h hr
 |one c=>exact kN.ev (x:=.one c) h hr
 |agg cs=>exact kN.ev (x:=.agg cs) h hr
theorem nK.ev{m m':Mem}(h:pN m m'){id:Nat}{o:Ob}(hs:m'.σ id=m.σ id)(hk:m'.κ id=m.κ id)(hh:m'.w.heap[m.σ id]?=m.w.heap[m.σ id]?)
  (hr:nK m id o):nK m' id o:=by
 cases o with
 |var cs=>obtain⟨cur,ty,a,b⟩:=hr;exact⟨cur,ty,by rw[hs,hh];exact a,b.ev h⟩
 |fvar cs=>obtain⟨cur,ty,fz,a,b,c⟩:=hr;exact⟨cur,ty,fz,by rw[hs,hh];exact a,b.ev h,by rw[hs];exact(h.own _ (qe a) c).2⟩
 |arr ty sz es=>obtain⟨cur,a,b,c,d,e,f,g⟩:=hr;exact⟨cur,by rw[hs,hh];exact a,b,c,by rw[hk];exact d,by rw[hk];exact e,by rw[hk];exact f,g.ev h⟩
 |lr ty sz es=>obtain⟨cur,fz,a,b,c,d,e,f,g,i⟩:=hr;exact⟨cur,fz,by rw[hs,hh];exact a,b,c,by rw[hk];exact d,by rw[hk];exact e,by rw[hk];exact f,g.ev h,by rw[hs];exact(h.own _ (qe a) i).2⟩
 |fO ty sz es=>obtain⟨cur,a,b,c,d,e,f,g⟩:=hr;exact⟨cur,by rw[hs,hh];exact a,b,c,by rw[hk];exact d,by rw[hk];exact e,by rw[hk];exact f,g.ev h⟩
 |map ag es=>obtain⟨ents,clock,a,b,c⟩:=hr;exact⟨ents,clock,by rw[hs,hh];exact a,b,fun i q v e x y=>let ⟨p,g,g1,g2,g3⟩:=c i q v e x y;⟨p.ev h,g,g1,g2,g3.ev h⟩⟩
 |fmap ag es=>obtain⟨ents,clock,a,b,c,d⟩:=hr;exact⟨ents,clock,by rw[hs,hh];exact a,b,fun i q v e x y=>let ⟨p,g,g1,g2,g3⟩:=c i q v e x y;⟨p.ev h,g,g1,g2,g3.ev h⟩,by rw[hs];exact(h.own _ (qe a) d).2⟩
theorem nK.lt{m:Mem}{id:Nat}{o:Ob}(hr:nK m id o):m.σ id<m.w.heap.size:=by
 cases o with
 |var cs=>obtain⟨cur,ty,a,_⟩:=hr;exact qe a
 |fvar cs=>obtain⟨cur,ty,fz,a,_⟩:=hr;exact qe a
 |arr ty sz es=>obtain⟨cur,a,_⟩:=hr;exact qe a
 |lr ty sz es=>obtain⟨cur,fz,a,_⟩:=hr;exact qe a
 |fO ty sz es=>obtain⟨cur,a,_⟩:=hr;exact qe a
 |map ag es=>obtain⟨ents,clock,a,_⟩:=hr;exact qe a
 |fmap ag es=>obtain⟨ents,clock,a,_⟩:=hr;exact qe a
theorem nK.calm{m:Mem}{id:Nat}{o:Ob}(hr:nK m id o)(ho:o.eH=false):¬m.own (m.σ id):=by
 cases o with
 |fvar cs=>obtain⟨cur,ty,fz,_,_,c⟩:=hr;exact c
 |lr ty sz es=>obtain⟨cur,fz,_,_,_,_,_,_,_,c⟩:=hr;exact c
 |fmap ag es=>obtain⟨_,_,_,_,_,c⟩:=hr;exact c
 |_=>simp[Ob.eH] at ho
end
end Go.Abs
namespace Go.Abs
variable {w0:World}
section
variable{m:Mem}
structure ew (w w':World):Prop where
 os:w'.os=w.os
 tape:w'.tape=w.tape
 output:w'.output=w.output
 size:w.heap.size<=w'.heap.size
 keep:∀c,c<w.heap.size->w'.heap[c]?=w.heap[c]?
theorem ew.refl(w:World):ew w w:=⟨rfl,rfl,rfl,bo _,fun _ _=>rfl⟩
theorem ew.trans{a b c:World}(h:ew a b)(k:ew b c):ew a c:=
 ⟨k.os.trans h.os,k.tape.trans h.tape,k.output.trans h.output,mm h.size k.size,fun x hx=>(k.keep x (xS hx h.size)).trans (h.keep x hx)⟩
theorem ew.alloc(w:World)(o:Obj):ew w (w.alloc o):=⟨rfl,rfl,rfl,af,fun _ hc=>heap_alloc_old w o hc⟩
theorem ew.drew(w:World):ew w w.drew:=⟨rfl,rfl,rfl,bo _,fun _ _=>rfl⟩
def Mem.later(m:Mem)(w':World)(X:Nat->Prop):Mem:={m with w:=w',fr:=fun c=>m.fr c\/X c}
theorem TI{w':World}{X:Nat->Prop}{c:Nat}:(m.later w' X).own c↔m.own c\/X c:=by
 unfold Mem.own Mem.eH Mem.later;constructor
 .rintro ((h|h)|h)
  .exact .inl (.inl h)
  .exact .inr h
  exact .inl (.inr h)
 rintro ((h|h)|h)
 .exact .inl (.inl h)
 .exact .inr h
 exact .inl (.inr h)
theorem CM{w':World}{X:Nat->Prop}(hg:ew m.w w')(hX:∀c,X c->m.w.heap.size<=c):Ev m (m.later w' X) where
 os:=hg.os
 tape:=hg.tape
 output:=hg.output
 size:=hg.size
 keep c hc _:=hg.keep c hc
 eH c _ h:=h
 less c hc hn h:=by
  rcases TI.1 h with h|h
  .exact hn h
  have:=hX c h;omega
 gen _:=bo _
 ref _ _ hs:=⟨hs,rfl,rfl,rfl⟩
theorem Ge{w':World}{X:Nat->Prop}(h:Ok w0 m)(hg:ew m.w w')(hX:∀c,X c->m.w.heap.size<=c/\c<w'.heap.size):Ok w0 (m.later w' X) where
 os:=hg.os.trans h.os
 tape:=hg.tape.trans h.tape
 output:=hg.output.trans h.output
 size:=mm h.size hg.size
 base c hc:=(hg.keep c (xS hc h.size)).trans (h.base c hc)
 obj id o ho:=(h.obj id o ho).ev (CM hg fun c hc=>(hX c hc).1).zero rfl rfl (hg.keep _ (h.obj id o ho).lt)
 eC id o ho hm:=by
  refine⟨(h.eC id o ho hm).1,?_⟩;rintro (hf|hx)
  .exact(h.eC id o ho hm).2 hf
  have h1:=(hX _ hx).1;have h2:=(h.obj id o ho).lt;simp only[Mem.later] at h1;omega
 frlt c hc:=by
  rcases hc with hf|hx
  .exact xS (h.frlt c hf) hg.size
  exact(hX c hx).2
 inj:=h.inj
def Mem.install(m:Mem)(s c k:Nat)(o:Ob):Mem:=⟨m.w,ca m.blk s ((m.blk s).1+1,some o),ca m.σ s c,ca m.κ s k,fun x=>m.fr x/\x≠c⟩
theorem Tx{s c k:Nat}{o:Ob}{x:Nat}(h:(m.install s c k o).eH x):x=c\/m.eH x:=by
 obtain⟨id,o',ho,hm,hx⟩:=h;simp only[Mem.install,aP] at ho hx;by_cases hid:id=s
 .simp only[hid,if_true] at hx;exact .inl hx.symm
 simp only[hid,if_false] at ho hx;exact .inr ⟨id,o',ho,hm,hx⟩
theorem Ib{s c k:Nat}{o:Ob}(hc:m.fr c){x:Nat}(h:(m.install s c k o).own x):m.own x:=by
 rcases h with h|h
 .exact .inl h.1
 rcases Tx h with rfl|h
 .exact .inl hc
 exact .inr h
theorem H0{m1:Mem}{s c k:Nat}{o:Ob}(h:Ev m m1)(hc:m1.fr c)(hn:m.w.heap.size<=c\/m.eH c):Ev m (m1.install s c k o) where
 os:=h.os
 tape:=h.tape
 output:=h.output
 size:=h.size
 keep:=h.keep
 eH x hx hm:=by
  rcases Tx hm with rfl|hm
  .rcases hn with hn|hn
   .omega
   exact hn
  exact h.eH x hx hm
 less x hx dB hm:=h.less x hx dB (Ib hc hm)
 gen id:=by
  simp only[Mem.install,aP];have:=h.gen id;split
  .rename_i e;subst e;simp only;omega
  exact this
 ref id he hs:=by
  have hg:=h.gen id;simp only[Mem.install,aP] at he hs ⊢;by_cases hid:id=s
  .subst hid;simp only[if_true] at he;omega
  simp only[hid,if_false] at he hs ⊢;exact h.ref id he hs
theorem Ia{s c k:Nat}{o:Ob}(h:Ok w0 m)(hc:m.fr c)(eY:w0.heap.size<=c)(ho:nK (m.install s c k o) s o):Ok w0 (m.install s c k o):=by
 have hk:∀x,x<m.w.heap.size-> ¬m.own x->(m.install s c k o).w.heap[x]?=m.w.heap[x]? /\ ¬(m.install s c k o).own x:=fun x _ hn=>⟨rfl,fun h=>hn (Ib hc h)⟩
 have ek:pN m (m.install s c k o):=by
  refine⟨hk,fun id=>?_,fun id he hs=>?_⟩
  .simp only[Mem.install,aP];split
   .rename_i e;subst e;simp only;omega
   exact bo _
  simp only[Mem.install,aP] at he hs ⊢;by_cases hid:id=s
  .subst hid;simp only[if_true] at he;omega
  simp only[hid,if_false] at he hs ⊢;exact⟨hs,trivial,trivial,trivial⟩
 exact {
  os:=h.os
  tape:=h.tape
  output:=h.output
  size:=h.size
  base:=h.base
  obj:=by
   intro id o' je;by_cases hid:id=s
   .subst hid;simp only[Mem.install,aP,if_true,dV] at je;exact je▸ho
   have hs:(m.install s c k o).σ id=m.σ id:=by simp[Mem.install,aP,hid]
   have qJ:(m.install s c k o).κ id=m.κ id:=by simp[Mem.install,aP,hid]
   simp only[Mem.install,aP,hid,if_false] at je;exact(h.obj id o' je).ev ek hs qJ rfl
  eC:=by
   intro id o' je hm;by_cases hid:id=s
   .subst hid;simp only[Mem.install,aP,if_true];exact⟨eY,fun h=>h.2 rfl⟩
   simp only[Mem.install,aP,hid,if_false] at je ⊢;exact⟨(h.eC id o' je hm).1,fun hf=>(h.eC id o' je hm).2 hf.1⟩
  frlt:=fun x hx=>h.frlt x hx.1
  inj:=by
   intro id dL o1 o2 h1 m1 h2 m2 he;by_cases hid:id=s<;>by_cases r7:dL=s
   .rw[hid,r7]
   .subst hid;simp only[Mem.install,aP,r7,if_true,if_false] at h2 he;exact((h.eC dL o2 h2 m2).2 (he▸hc)).elim
   .subst r7;simp only[Mem.install,aP,hid,if_true,if_false] at h1 he;exact((h.eC id o1 h1 m1).2 (he.symm▸hc)).elim
   simp only[Mem.install,aP,hid,r7,if_false] at h1 h2 he;exact h.inj id dL o1 o2 h1 m1 h2 m2 he}
def Mem.iY(m:Mem)(id:Nat):Mem:=⟨m.w,ca m.blk id ((m.blk id).1,none),m.σ,m.κ,fun c=>m.fr c\/c=m.σ id⟩
theorem Zd{id:Nat}{o:Ob}(ho:(m.blk id).2=some o)(hm:o.eH=true){x:Nat}(h:(m.iY id).own x):m.own x:=by
 rcases h with (h|h)|⟨dL,o',h1,h2,h3⟩
 .exact .inl h
 .exact .inr ⟨id,o,ho,hm,h.symm⟩
 simp only[Mem.iY,aP] at h1 h3;by_cases hid:dL=id
 .simp[hid] at h1
 simp only[hid,if_false] at h1;exact .inr ⟨dL,o',h1,h2,h3⟩
theorem B2{id:Nat}{o:Ob}(ho:(m.blk id).2=some o)(hm:o.eH=true):Ev m (m.iY id) where
 os:=rfl
 tape:=rfl
 output:=rfl
 size:=bo _
 keep _ _ _:=rfl
 eH x _ h:=by
  obtain⟨dL,o',h1,h2,h3⟩:=h;simp only[Mem.iY,aP] at h1 h3;by_cases hid:dL=id
  .simp[hid] at h1
  simp only[hid,if_false] at h1;exact⟨dL,o',h1,h2,h3⟩
 less x _ hn h:=hn (Zd ho hm h)
 gen dL:=by
  simp only[Mem.iY,aP];split
  .rename_i e;subst e;exact bo _
  exact bo _
 ref dL he hs:=by
  simp only[Mem.iY,aP] at he hs ⊢;by_cases hid:dL=id
  .simp[hid] at hs
  simp only[hid,if_false] at he hs ⊢;exact⟨hs,trivial,trivial,trivial⟩
theorem Qn{id:Nat}{o:Ob}(h:Ok w0 m)(ho:(m.blk id).2=some o)(hm:o.eH=true):Ok w0 (m.iY id) where
 os:=h.os
 tape:=h.tape
 output:=h.output
 size:=h.size
 base:=h.base
 obj dL o' h1:=by
  simp only[Mem.iY,aP] at h1;by_cases hid:dL=id
  .simp[hid] at h1
  simp only[hid,if_false] at h1;exact(h.obj dL o' h1).ev (B2 ho hm).zero rfl rfl rfl
 eC dL o' h1 h2:=by
  simp only[Mem.iY,aP] at h1 ⊢;by_cases hid:dL=id
  .simp[hid] at h1
  simp only[hid,if_false] at h1;refine⟨(h.eC dL o' h1 h2).1,?_⟩;rintro (hf|hf)
  .exact(h.eC dL o' h1 h2).2 hf
  exact hid (h.inj dL id o' o h1 h2 ho hm hf)
 frlt c hc:=by
  rcases hc with hf|rfl
  .exact h.frlt c hf
  exact(h.obj id o ho).lt
 inj CG CH o1 o2 h1 m1 h2 m2 he:=by
  simp only[Mem.iY,aP] at h1 h2 he;by_cases hid:CG=id
  .simp[hid] at h1
  by_cases r7:CH=id
  .simp[r7] at h2
  simp only[hid,r7,if_false] at h1 h2;exact h.inj CG CH o1 o2 h1 m1 h2 m2 he
def Mem.gb(m:Mem)(w':World)(id:Nat)(o:Ob):Mem:=⟨w',ca m.blk id ((m.blk id).1,some o),m.σ,m.κ,m.fr⟩
section
variable {m:Mem} {w':World} {id:Nat} {o old:Ob} (ho:(m.blk id).2=some old) (hm:old.eH=true)
include ho hm
theorem aeV{x:Nat}(h:(m.gb w' id o).own x):m.own x:=by
 rcases h with h|⟨dL,o',h1,h2,h3⟩
 .exact .inl h
 simp only[Mem.gb,aP] at h1 h3;by_cases hid:dL=id
 .exact .inr ⟨id,old,ho,hm,hid▸h3⟩
 simp only[hid,if_false] at h1;exact .inr ⟨dL,o',h1,h2,h3⟩
theorem Dm(hsz:iE ((m.blk id).1,some o)=iE ((m.blk id).1,some old))(qK:w'.os=m.w.os)(ht:w'.tape=m.w.tape)(jD:w'.output=m.w.output)(hs:w'.heap.size=m.w.heap.size)
  (hk:∀c,c≠m.σ id->w'.heap[c]?=m.w.heap[c]?):Ev m (m.gb w' id o) where
 os:=qK
 tape:=ht
 output:=jD
 size:=Nat.le_of_eq hs.symm
 keep c _ hn:=hk c fun e=>hn ⟨id,old,ho,hm,e.symm⟩
 eH x _ h:=by
  obtain⟨dL,o',h1,h2,h3⟩:=h;simp only[Mem.gb,aP] at h1 h3;by_cases hid:dL=id
  .exact⟨id,old,ho,hm,hid▸h3⟩
  simp only[hid,if_false] at h1;exact⟨dL,o',h1,h2,h3⟩
 less x _ hn h:=hn (aeV ho hm h)
 gen dL:=by
  simp only[Mem.gb,aP];split
  .rename_i e;subst e;exact bo _
  exact bo _
 ref dL he hss:=by
  simp only[Mem.gb,aP] at he hss ⊢;by_cases hid:dL=id
  .subst hid;refine⟨by simp[ho],trivial,trivial,?_⟩;simp only[if_true];rw[hsz,<- ho]
  simp only[hid,if_false] at he hss ⊢;exact⟨hss,trivial,trivial,trivial⟩
theorem GC(h:Ok w0 m)(hsz:iE ((m.blk id).1,some o)=iE ((m.blk id).1,some old))(qK:w'.os=m.w.os)(ht:w'.tape=m.w.tape)(jD:w'.output=m.w.output)(hs:w'.heap.size=m.w.heap.size)
  (hk:∀c,c≠m.σ id->w'.heap[c]?=m.w.heap[c]?) (uB:nK (m.gb w' id o) id o):Ok w0 (m.gb w' id o) where
 os:=qK.trans h.os
 tape:=ht.trans h.tape
 output:=jD.trans h.output
 size:=mm h.size (Nat.le_of_eq hs.symm)
 base c hc:=by have:=(h.eC id old ho hm).1;exact(hk c aa).trans (h.base c hc)
 obj dL o' h1:=by
  simp only[Mem.gb,aP] at h1;by_cases hid:dL=id
  .subst hid;simp only[if_true,dV] at h1;exact h1▸uB
  simp only[hid,if_false] at h1;refine(h.obj dL o' h1).ev (Dm ho hm hsz qK ht jD hs hk).zero rfl rfl (hk _ fun e=>?_);cases Az:o'.eH with
  |true=>exact hid (h.inj dL id o' old h1 Az ho hm e)
  |false=>exact(h.obj dL o' h1).calm Az (.inr ⟨id,old,ho,hm,e.symm⟩)
 eC dL o' h1 h2:=by
  simp only[Mem.gb,aP] at h1 ⊢;by_cases hid:dL=id
  .subst hid;exact h.eC dL old ho hm
  simp only[hid,if_false] at h1;exact h.eC dL o' h1 h2
 frlt c hc:=by rw[show(m.gb w' id o).w.heap.size=m.w.heap.size from hs];exact h.frlt c hc
 inj CG CH o1 o2 h1 m1 h2 m2 he:=by
  simp only[Mem.gb,aP] at h1 h2 he;by_cases hid:CG=id<;>by_cases r7:CH=id
  .rw[hid,r7]
  .simp only[r7,if_false] at h2;exact hid▸h.inj id CH old o2 ho hm h2 m2 (hid▸he)
  .simp only[hid,if_false] at h1;exact r7▸h.inj CG id o1 old h1 m1 ho hm (r7▸he)
  simp only[hid,r7,if_false] at h1 h2;exact h.inj CG CH o1 o2 h1 m1 h2 m2 he
end
end
end Go.Abs
namespace Go.Abs
def Ek:Value->Option PV
 | .bool b=>some (.bool b)
 | .int k n=>some (.int k n)
 | .string s=>some (.str s)
 | .pointer none=>some .qU
 | .slice none 0 0=>some .nils
 | .map none=>some .mf
 | .nilFunc=>some .fX
 | .nilIface=>some .nili
 |_=>none
def BZ:List Value->Option (List PV)
 |[]=>some []
 |v::r=>match Ek v,BZ r with
  |some x,some xs=>some (x::xs)
  |_,_=>none
def JW:Value->Option V
 | .agg cs=>(BZ cs.toList).map fun l=>.agg (l.map .p)
 |v=>(Ek v).map fun x=>.one (.p x)
def bp:Operand->Option aK
 | .tmp t=>some (.t t)
 | .const (.int .i64 n)=>some (.i n)
 | .const (.bool b)=>some (.b b)
 | .const v=>(JW v).map .k
 | .func f=>some (.k (.one (.p (.fn f [] []))))
 | .global _=>none
def lU:List Operand->Option (List aK)
 |[]=>some []
 |a::r=>match bp a,lU r with
  |some x,some xs=>some (x::xs)
  |_,_=>none
def sT:Option Operand->Option (Option aK)
 |none=>some none
 |some a=>(bp a).map some
def vM(P:Program)(t:TypeId):Option (List PV):=
 match P.info? t with
 |some i=>match i.zero with
  |some (.agg cs)=>if cs.size=i.size then BZ cs.toList else none
  |some v=>if i.size=1 then (Ek v).map fun x=>[x] else none
  |none=>none
 |none=>none
def mI(P:Program)(t:TypeId):Option (Option Nat):=
 match P.underlying t,P.info? t with
 |some (.struct _),some i=>some (some i.size)
 |some (.array _ _),some i=>some (some i.size)
 |some _,some i=>if i.size=1 then some none else none
 |_,_=>none
def sA(P:Program)(t:TypeId):Option Nat:=(P.info? t).map (·.size)
def zj(place:Nat->Option (Nat×Nat))(zl:Nat):List (Nat×Operand)->Option (List (Nat×Nat×aK))
 |[]=>some []
 |(i,x)::r=>match place i,bp x,zj place zl r with
  |some (off,n),some a,some q=>if off+n<=zl then some ((off,n,a)::q) else none
  |_,_,_=>none
def B4:Nat->List (Nat×Operand)->Option (List aK)
 |_,[]=>some []
 |k,(i,x)::r=>match bp x,B4 (k+1) r with
  |some a,some q=>if i=k then some (a::q) else none
  |_,_=>none
def NX(P:Program)(t:TypeId):Option Bool:=
 match P.underlying t with
 |some (.int _)=>some true
 |some .bool=>some false
 |_=>none
def Dk(P:Program):Nat->List Field->Option (List Bool)
 |_,[]=>some []
 |k,f::r=>match NX P f.type,Dk P (k+1) r with
  |some b,some bs=>if f.offset=k/\f.name≠ "_" then some (b::bs) else none
  |_,_=>none
def CS:Operand->Bool
 | .const .nilIface=>true
 |_=>false
def Et(P:Program)(t:TypeId)(x y:Operand):Option qw:=
 match P.underlying t with
 |some (.interface _)=>if CS x||CS y then some .ifc else none
 |some .bool=>some .bool
 |some (.pointer _)=>some .ptr
 |some (.slice _)=>some .slc
 |some (.map _ _)=>some .map
 |some (.func _ _ _)=>some .fnc
 |some (.struct fs)=>if !P.stoodInHeld t&& !P.eqGuardType P.depth t then (Dk P 0 fs.toList).map .str else none
 |_=>none
def u4(P:Program)(t:TypeId):Option (TypeId×Nat×Nat×List PV):=
 match P.underlying t with
 |some (.slice e)=>match P.info? e,vM P e with
  |some i,some z=>if 0<i.size/\0<i.bytes then some (e,i.size,i.bytes,z) else none
  |_,_=>none
 |_=>none
def keyOf(P:Program)(k:TypeId):Option Nat:=
 match P.underlying k with
 |some (.int _)=>some 0
 |some .string=>some 1
 |some .bool=>some 2
 |_=>none
def Jk(P:Program)(t:TypeId):Bool:=
 match P.info? t with
 |some i=>match i.zero with
  |some (.agg _)=>true
  |_=>false
 |none=>false
def zY(P:Program)(site:Nat)(o:Oper):Option jk:=
 match o.op with
 | .move x=>(bp x).map .jh
 | .assign x=>(bp x).map .jh
 | .pick c a b=>match bp c,bp a,bp b with
  |some c,some a,some b=>some (.pick c a b)
  |_,_,_=>none
 | .alloc t=>(vM P t).map (.alloc site)
 | .box _ x=>(bp x).map (.box site)
 | .build t ps=>match P.underlying t,vM P t with
  |some (.struct fs),some z=>if fs.all fun f=>(P.info? f.type).isSome then
    (zj (fun i=>(fs[i]?).map fun f=>(f.offset,P.cellsOf f.type)) z.length ps.toList).map (.build z)
   else none
  |some (.array _ e),some z=>match P.info? e with
   |some i=>(zj (fun k=>some (k*i.size,i.size)) z.length ps.toList).map (.build z)
   |none=>none
  |_,_=>none
 | .buildSlice t n ps=>match u4 P t,B4 0 ps.toList with
  |some (e,sz,_,_),some as=>if as.length=n/\n*sz<=16777216 then some (.eW site e sz as) else none
  |_,_=>none
 | .load t a=>match mI P t,bp a with
  |some k,some a=>some (.load k a)
  |_,_=>none
 | .store t a x=>match sA P t,bp a,bp x with
  |some n,some a,some x=>some (.store n a x)
  |_,_,_=>none
 | .nilCheck x=>(bp x).map .tF
 | .binOp op t x y _=>match bp x,bp y with
  |some a,some b=>match P.underlying t with
   |some (.int _)=>some (.bin op a b)
   |some .string=>some (.bin op a b)
   |_=>match op,Et P t x y with
    | .eql,some k=>some (.eqc k false a b)
    | .neq,some k=>some (.eqc k true a b)
    |_,_=>none
  |_,_=>none
 | .unOp op _ x=>match op with
  | .not=>(bp x).map (.un .not)
  | .neg=>(bp x).map (.un .neg)
  |_=>none
 | .convert s d x=>match P.underlying s,P.underlying d,bp x with
  |some (.int _),some (.int k),some a=>some (.conv k a)
  |some (.slice e),some .string,some a=>match P.underlying e with
   |some (.int .u8)=>some (.bstr a)
   |_=>none
  |_,_,_=>none
 | .makeFunc (.func f) a b=>match lU a.toList,lU b.toList with
  |some x,some y=>some (.mkfn f x y)
  |_,_=>none
 | .makeMap t none=>match P.underlying t with
  |some (.map _ e)=>(mI P e).map fun k=>.mkmap site k.isSome
  |_=>none
 | .makeSlice t l c=>match u4 P t,bp l,bp c with
  |some (e,sz,bytes,z),some l,some c=>some (.ny site e sz bytes z l c)
  |_,_,_=>none
 | .slice t x lo hi none=>match bp x,sT lo,sT hi with
  |some a,some l,some h=>match P.underlying t with
   |some (.slice e)=>(sA P e).map fun sz=>.slice sz a l h
   |some .string=>some (.sslice a l h)
   |_=>none
  |_,_,_=>none
 | .fieldAddr s x f=>match P.underlying s,bp x with
  |some (.struct fs),some a=>match fs[f]? with
   |some d=>if P.cellsOf d.type≠0 then some (.sW d.offset a) else none
   |none=>none
  |_,_=>none
 | .field t x f=>match P.underlying t,bp x with
  |some (.struct fs),some a=>match fs[f]? with
   |some d=>(mI P d.type).map fun k=>.fld d.offset k a
   |none=>none
  |_,_=>none
 | .indexAddr t x i=>match bp x,bp i with
  |some a,some b=>match P.underlying t with
   |some (.slice e)=>(sA P e).map fun sz=>.mH sz a b
   |some (.array n e)=>(sA P e).map fun sz=>.tX n sz a b
   |_=>none
  |_,_=>none
 | .index t x i=>match bp x,bp i with
  |some a,some b=>match P.underlying t with
   |some (.array n e)=>match sA P e,mI P e with
    |some sz,some k=>some (.aidx n sz k a b)
    |_,_=>none
   |some .string=>some (.sidx a b)
   |_=>none
  |_,_=>none
 | .lookup t x k ok=>match P.underlying t,bp x,bp k with
  |some (.map kt e),some a,some b=>match vM P e,mI P e with
   |some z,some q=>match keyOf P kt with
    |some kd=>if Jk P e=q.isSome then some (.lookup kd z q.isSome ok a b) else none
    |none=>none
   |_,_=>none
  |_,_,_=>none
 | .mapUpdate t m k v=>match P.underlying t,bp m,bp k,bp v with
  |some (.map kt e),some a,some b,some c=>match mI P e with
   |some q=>(keyOf P kt).map fun kd=>.mupd kd q.isSome a b c
   |none=>none
  |_,_,_,_=>none
 | .insert t m k v=>match P.underlying t,bp m,bp k,bp v with
  |some (.map kt e),some a,some b,some c=>match mI P e with
   |some q=>(keyOf P kt).map fun kd=>.mupd kd q.isSome a b c
   |none=>none
  |_,_,_,_=>none
 | .extract x i=>(bp x).map fun a=>.extract a i
 | .call c=>match c.callee,lU c.args.toList with
  | .value f,some as=>(bp f).map fun g=>.call site g as
  | .builtin .len,some [a]=>match c.argTypes[0]? with
   |some t=>match P.underlying t with
    |some .string=>some (.slen a)
    |some (.slice _)=>some (.xr a)
    |some (.map _ _)=>some (.mlen a)
    |_=>none
   |none=>none
  | .builtin .append,some [a,b]=>match c.argTypes[0]?,c.argTypes[1]? with
   |some t,some u=>match u4 P t with
    |some (e,sz,bytes,_)=>if t=u/\c.argTypes.size=2 then some (.append site e sz bytes a b) else none
    |none=>none
   |_,_=>none
  | .builtin .max,some [a,b]=>some (.max a b)
  | .builtin .min,some [a,b]=>some (.min a b)
  | .builtin .clear,some [a]=>match c.argTypes[0]? with
   |some t=>(u4 P t).map fun q=>.clear q.2.2.2 a
   |none=>none
  |_,_=>none
 |_=>none
def aK.tmps:aK->List Nat
 | .t n=>[n]
 |_=>[]
def zy:List aK->List Nat
 |[]=>[]
 |a::r=>a.tmps++zy r
def Oj:Option aK->List Nat
 |some a=>a.tmps
 |none=>[]
def Ol:List (Nat×Nat×aK)->List Nat
 |[]=>[]
 |(_,_,a)::r=>a.tmps++Ol r
def jk.tmps:jk->List Nat
 | .jh x| .box _ x| .load _ x| .tF x| .un _ x| .conv _ x| .bstr x| .sW _ x| .fld _ _ x| .extract x _| .slen x| .xr x| .mlen x| .clear _ x=>x.tmps
 | .pick c a b=>c.tmps++a.tmps++b.tmps
 | .alloc _ _| .mkmap _ _| .bad=>[]
 | .build _ ps=>Ol ps
 | .eW _ _ _ ps=>zy ps
 | .store _ a x| .bin _ a x| .eqc _ _ a x| .mH _ a x| .tX _ _ a x| .aidx _ _ _ a x| .sidx a x| .lookup _ _ _ _ a x| .append _ _ _ _ a x| .max a x| .min a x=>a.tmps++x.tmps
 | .mkfn _ a b=>zy a++zy b
 | .ny _ _ _ _ _ a b=>a.tmps++b.tmps
 | .slice _ x a b| .sslice x a b=>x.tmps++Oj a++Oj b
 | .mupd _ _ a b c=>a.tmps++b.tmps++c.tmps
 | .call _ f as=>f.tmps++zy as
def aI.Bf(o:aI):List Nat:=
 o.op.tmps++match o.guard with
  |some (t,_)=>[t]
  |none=>[]
def z8(a b:aI):Bool:=
 (match a.dst with
  |some d=> !b.Bf.contains d&&b.dst !=some d
  |none=>true)&&
 (match b.dst with
  |some d=> !a.Bf.contains d
  |none=>true)
def HE(o:aI):Nat->List aI->Bool
 |_,[]=>true
 |j,x::r=>(o.anc.testBit j||z8 x o)&&HE o (j+1) r
def EI:List aI->List aI->Bool
 |[],_=>true
 |o::os,past=>HE o 0 past&&EI os (past++[o])
def JS(P:Program)(site:Nat)(o:Oper):jk:=(zY P site o).getD .bad
def Qq(nt:Nat):Option Nat->Bool
 |some d=>decide (d<nt)
 |none=>true
def Mk(dst:Nat->Option Nat):Option (Nat×Bool)->Option (Option (Nat×Bool))
 |none=>some none
 |some (j,w)=>(dst j).map fun t=>some (t,w)
def yi(P:Program)(dst:Nat->Option Nat)(base nt:Nat)(anc:Nat)(o:Oper):Option aI:=if Qq nt o.dst then (Mk dst o.guard).map fun g=>⟨o.dst,JS P base o,g,anc⟩ else none
def rI(P:Program)(dst anc:Nat->Option Nat)(base nt:Nat):Nat->List Oper->Option (List aI)
 |_,[]=>some []
 |i,o::r=>match yi P dst ((base+i)*64) nt ((anc i).getD 0) o,rI P dst anc base nt (i+1) r with
  |some x,some xs=>some (x::xs)
  |_,_=>none
def BH(ops:Array Oper):Bool:=(List.range ops.size).all fun i=>match ops[i]? with
 |some o=>o.after.all fun e=> !Region.binds .any e||decide (e.on<i)
 |none=>true
def lk(P:Program)(f nt:Nat):Code->Option aH
 | .skip=>some .skip
 | .region id ops draw=>
  let b:=if draw then Region.before ops else #[]
  match rI P (fun j=>(ops[j]?).bind (·.dst)) (fun i=>b[i]?) ((f*1000+id)*1000) nt 0 ops.toList with
  |some xs=>if draw then (if BH ops&&EI xs [] then some (.region true xs) else none) else some (.region false xs)
  |none=>none
 | .seq a b=>match lk P f nt a,lk P f nt b with
  |some x,some y=>some (.seq x y)
  |_,_=>none
 | .cond c a b=>match bp c,lk P f nt a,lk P f nt b with
  |some c,some x,some y=>some (.cond c x y)
  |_,_,_=>none
 | .block id c=>(lk P f nt c).map (.block id)
 | .loop c=>(lk P f nt c).map .loop
 | .exit id=>some (.exit id)
 | .scope c=>lk P f nt c
 | .label _=>some .skip
 | .ret=>some .ret
 |_=>some .bad
def xE(P:Program):List ResultVar->Option (List (Nat×Option (Option Nat)))
 |[]=>some []
 | .tmp t::r=>(xE P r).map ((t,none):: ·)
 | .cell t ty::r=>match mI P ty,xE P r with
  |some k,some q=>some ((t,some k)::q)
  |_,_=>none
def wx(P:Program)(f:Nat):Option aU:=
 match P.funcs[f]? with
 |none=>none
 |some fn=>match fn.body with
  |none=>none
  |some c=>if fn.name== "runtime.NumGoroutine" then none else
   match lk P f fn.ntmps c,xE P fn.results.toList with
   |some b,some r=>some ⟨fn.ntmps,r,b⟩
   |_,_=>none
end Go.Abs
namespace Go.Abs
variable {P:Program} {w0:World}
section
variable{m:Mem}{v:Value}
def gi(m:Mem)(aj:Env)(tmps:Array Value):Prop:=∀t,aY m (aj t) (tmps.getD t undef)
theorem gi.ev{m':Mem}(h:Ev m m'){aj:Env}{tmps:Array Value}(hr:gi m aj tmps):gi m' aj tmps:=fun t=>(hr t).ev h.zero
theorem aY.one{c:C}:aY m (.one c) v↔bG m c v:=Iff.rfl
theorem aY.agg{cs:List C}:aY m (.agg cs) v↔ ∃arr,v=.agg arr/\ch m cs arr.toList:=Iff.rfl
theorem aY.of1{x:V}(h:kN m x v):aY m x v:=by
 cases x with
 |tup vs=>exact h.elim
 |_=>exact h
theorem JV{w:World}{own:Nat->Prop}{x:PV}(h:Ek v=some x):bh w own x v:=by
 unfold Ek at h;split at h<;>first
  |(cases h;constructor;done)
  |cases h
theorem PK{w:World}{own:Nat->Prop}:∀ {vs:List Value} {xs:List PV},BZ vs=some xs->bQ w own xs vs:=by
 intro vs
 induction vs with
 |nil=>intro xs h;simp[BZ] at h;subst h;exact⟨rfl,fun j x u a _=>by simp at a⟩
 |cons v r ih=>
  intro xs h;simp only[BZ] at h;split at h
  .rename_i x ys h1 h2;cases h;obtain⟨hl,hr⟩:=ih h2;refine⟨by simp[hl],fun j z u a b=>?_⟩;cases j with
   |zero=>simp at a b;subst a b;exact JV h1
   |succ j=>simp at a b;exact hr j z u a b
  cases h
theorem bQ.xK{xs:List PV}{vs:List Value}(h:bQ m.w m.own xs vs):ch m (xs.map .p) vs:=by refine⟨by simp[h.1],fun j x u a b=>?_⟩;simp only[js,cH] at a;obtain⟨y,hy,rfl⟩:=a;exact .p (h.2 j y u hy b)
theorem YJ{x:V}(h:JW v=some x):aY m x v:=by
 unfold JW at h;split at h
 .simp only[cH] at h;obtain⟨xs,h1,rfl⟩:=h;exact aY.agg.2 ⟨_,rfl,(PK h1).xK⟩
 simp only[cH] at h;obtain⟨y,h1,rfl⟩:=h;exact aY.one.2 (.p (JV h1))
theorem dy{aj:Env}{a:Act}{x:Operand}{y:aK}(h:bp x=some y)(hr:gi m aj a.tmps):aY m (ev aj y) (a.eval x):=by
 unfold bp at h;split at h
 .cases h;exact hr _
 .cases h;exact aY.one.2 (.p (.int _ _))
 .cases h;exact aY.one.2 (.p (.bool _))
 .simp only[cH] at h;obtain⟨v,h1,rfl⟩:=h;exact YJ h1
 .cases h;exact aY.one.2 (.p (.fn #[] #[] rfl rfl (fun j x u a=>by simp at a) (fun j x u a=>by simp at a)))
 cases h
def Does(P:Program)(ρ:Operand->Value)(o:Oper)(w:World)(x:Value)(w':World):Prop:=
 (execOp ρ o).run P w=.ok (.value x) w'\/((execOp ρ o).run P w=.ok .skip w'/\x=undef)
def eB(P:Program)(w0:World)(ρ:Operand->Value)(o:Oper)(m:Mem)(v:V)(u:List dH):Prop:=∃x m',Does P ρ o m.w x m'.w/\Ok w0 m'/\Ev m m'/\m'.fr=m.fr/\m'.blk=app u m.blk/\aY m' v x
theorem eB.calm{ρ:Operand->Value}{o:Oper}{v:V}{x:Value}(h:Ok w0 m)(jQ:(execOp ρ o).run P m.w=.ok (.value x) m.w)(hv:aY m v x):eB P w0 ρ o m v []:=
 ⟨x,m,.inl jQ,h,Ev.refl m,rfl,rfl,hv⟩
section
variable {m:Mem} {aj:Env} {a:Act} {o:Oper} (aq:Ok w0 m) (hr:gi m aj a.tmps)
include aq hr
theorem Vr{x:Operand}{y:aK}(ho:o.op=.move x\/o.op=.assign x)(hx:bp x=some y):eB P w0 a.eval o m (ev aj y) []:=
 .calm aq (by rcases ho with ho|ho<;>simp[execOp,ho]) (dy hx hr)
theorem afq{c x y:Operand}{c' x' y':aK}{t:Bool}(ho:o.op=.pick c x y)(hc:bp c=some c')(hx:bp x=some x')(hy:bp y=some y')
  (ht:ev aj c'=.one (.p (.bool t))):eB P w0 a.eval o m (if t then ev aj x' else ev aj y') []:=by
 have h1:=dy hc hr;rw[ht] at h1;obtain⟨⟩:bG m (.p (.bool t)) _:=h1;rename_i hp;generalize hb:a.eval c=b at hp;cases hp;refine .calm (x:=if t then a.eval x else a.eval y) aq ?_ ?_
 .simp[execOp,ho,hb,asBool]
 cases t
 .exact dy hy hr
 exact dy hx hr
end
theorem yX{b:Bool}(h:aY m (.one (.p (.bool b))) v):v=.bool b:=by obtain⟨hp⟩:bG m _ v:=h;cases hp;rfl
theorem xm{k:IntKind}{n:Int}(h:aY m (.one (.p (.int k n))) v):v=.int k n:=by obtain⟨hp⟩:bG m _ v:=h;cases hp;rfl
theorem Gb{s:ByteArray}(h:aY m (.one (.p (.str s))) v):v=.string s:=by obtain⟨hp⟩:bG m _ v:=h;cases hp;rfl
theorem Ie(h:aY m (.one (.p .nils)) v):v=.slice none 0 0:=by obtain⟨hp⟩:bG m _ v:=h;cases hp;rfl
theorem ab0(h:aY m (.one (.p .zs)) v):∃a,v=.slice a 0 0:=by obtain⟨hp⟩:bG m _ v:=h;cases hp;exact⟨_,rfl⟩
theorem Ty(h:aY m (.one (.p .mf)) v):v=.map none:=by obtain⟨hp⟩:bG m _ v:=h;cases hp;rfl
theorem j6{x:PV}(h:bh m.w m.own x v):aY m (.one (.p x)) v:=aY.one.2 (.p h)
def Mem.fresh(m:Mem)(ob:Obj)(s k:Nat)(o:Ob):Mem:=(m.later (m.w.alloc ob) (· =m.w.heap.size)).install s m.w.heap.size k o
theorem Me(aq:Ok w0 m)(ob:Obj)(s k:Nat)(o:Ob):(m.fresh ob s k o).fr=m.fr:=by
 funext c;simp only[Mem.fresh,Mem.install,Mem.later];apply propext;constructor
 .rintro ⟨h|h,h2⟩
  .exact h
  exact(h2 h).elim
 intro h;exact⟨.inl h,fun e=>by have:=aq.frlt c h;omega⟩
theorem HF(ob:Obj)(s k:Nat)(o:Ob):Ev m (m.fresh ob s k o):=H0 (CM (ew.alloc m.w ob) fun c hc=>Nat.le_of_eq hc.symm) (.inr rfl) (.inl (bo _))
theorem Sl(ob:Obj)(s k:Nat)(o:Ob):(m.fresh ob s k o).w.heap[(m.fresh ob s k o).σ s]?=some ob:=by
 have:(m.fresh ob s k o).σ s=m.w.heap.size:=by simp[Mem.fresh,Mem.install,aP]
 rw[this];exact heap_alloc_new m.w ob
theorem Sm(aq:Ok w0 m)(ob:Obj)(s k:Nat)(o:Ob)(ho:nK (m.fresh ob s k o) s o):Ok w0 (m.fresh ob s k o):=Ia (Ge aq (ew.alloc m.w ob) fun c hc=>by subst hc;exact⟨bo _,af⟩) (.inr rfl) aq.size ho
theorem Md(m:Mem)(ob:Obj)(s k:Nat)(o:Ob):(m.fresh ob s k o).blk=app [(s,((m.blk s).1+1,some o))] m.blk:=rfl
theorem Sn(aq:Ok w0 m)(s:Nat)(t:TypeId)(cs:List C)(arr:Array Value)(hc:ch m cs arr.toList):
  Ok w0 (m.fresh (.cells arr t) s 0 (.var cs))/\aY (m.fresh (.cells arr t) s 0 (.var cs)) (.one (.aZ s ((m.blk s).1+1) 0)) (.pointer (some ⟨m.w.heap.size,0,none⟩)):=by
 refine⟨Sm aq _ s 0 _ ⟨arr,t,Sl _ s 0 _,hc.ev (HF _ s 0 _).zero⟩,aY.one.2 (.aZ _ ?_ fun _ _=>?_)⟩
 .simp[Mem.fresh,Mem.install,Mem.later,aP]
 simp[Mem.fresh,Mem.install,aP]
theorem GU{t:TypeId}{z:List PV}(h:vM P t=some z):∃v i,P.info? t=some i/\i.zero=some v/\v.cells.size=i.size/\z.length=i.size/\ ∀w own,bQ w own z v.cells.toList:=by
 unfold vM at h;split at h
 .rename_i i hi;split at h
  .rename_i cs hz;split at h
   .rename_i hs;have hr:=fun w own=>PK (w:=w) (own:=own) h;refine⟨_,i,hi,hz,by simpa [Value.cells] using hs,?_,fun w own=>by simpa [Value.cells] using hr w own⟩;have:=(hr default (fun _=>False)).1;simp at this;omega
   cases h
  .rename_i v hz hv;split at h
   .rename_i hs;simp only[cH] at h;obtain⟨x,hx,rfl⟩:=h;have hr:=fun w own=>JV (w:=w) (own:=own) hx;have hc:=(hr default (fun _=>False)).cells;refine⟨v,i,hi,hv,by simp[hc,hs],by simp[hs],fun w own=>?_⟩;rw[hc];refine⟨rfl,fun j y u a b=>?_⟩;cases j with
    |zero=>simp at a b;subst a b;exact hr w own
    |succ j=>simp at a
   cases h
  cases h
 cases h
section
variable {m:Mem} {aj:Env} {a:Act} {o:Oper} (aq:Ok w0 m) (hr:gi m aj a.tmps)
include aq
theorem ae0{t:TypeId}{z:List PV}{s:Nat}(ho:o.op=.alloc t)(hz:vM P t=some z):
  eB P w0 a.eval o m (.one (.aZ s ((m.blk s).1+1) 0)) [(s,((m.blk s).1+1,some (.var (z.map .p))))]:=by
 obtain⟨v,i,hi,hv,hs,hl,cn⟩:=GU hz;obtain⟨h1,h2⟩:=Sn aq s t (z.map .p) v.cells (cn m.w m.own).xK;refine⟨_,_,.inl ?_,h1,HF _ s 0 _,Me aq _ s 0 _,Md _ _ s 0 _,h2⟩;simp[execOp,ho,Instr.alloc,zeroValue,typeInfo,hi,hv,newVar,newRow];rfl
include hr
theorem ae3{t:TypeId}{x:Operand}{y:aK}{cs:List C}{s:Nat}(ho:o.op=.box t x)(hx:bp x=some y)(hc:mW (ev aj y)=some cs):
  eB P w0 a.eval o m (.one (.aZ s ((m.blk s).1+1) 0)) [(s,((m.blk s).1+1,some (.var cs)))]:=by
 have hv:=dy hx hr;have bZ:ch m cs (a.eval x).cells.toList:=by
  generalize ev aj y=w at hc hv;cases w with
  |undef=>simp[mW] at hc
  |tup vs=>simp[mW] at hc
  |one c=>
   simp[mW] at hc;subst hc;rw[(aY.one.1 hv).cells];refine⟨rfl,fun j y u p q=>?_⟩;cases j with
   |zero=>simp at p q;subst p q;exact hv
   |succ j=>simp at p
  |agg ds=>simp[mW] at hc;subst hc;obtain⟨arr,e,h⟩:=aY.agg.1 hv;rw[e];exact h
 obtain⟨h1,h2⟩:=Sn aq s t cs _ bZ;refine⟨_,_,.inl ?_,h1,HF _ s 0 _,Me aq _ s 0 _,Md _ _ s 0 _,h2⟩;simp[execOp,ho,Instr.box,newVar,newRow];rfl
end
end
end Go.Abs
namespace Go.Abs
variable {P:Program} {w0:World}
theorem B7{α:Type}{sz:Nat}:∀ {es:List (List α)},(∀e∈es,e.length=sz)->es.flatten.length=es.length*sz:=by
 intro es
 induction es with
 |nil=>intro _;simp
 |cons e r ih=>intro h;have h1:=h e af;have h2:=ih fun x hx=>h x (by simp[hx]);simp only[kb,iW,dN,h1,h2,fH,Nat.one_mul];omega
theorem z7{α:Type}{sz:Nat}:∀ {es:List (List α)},(∀e∈es,e.length=sz)->∀ {i:Nat} {e:List α},es[i]?=some e->∀ {j:Nat},j<sz->es.flatten[i*sz+j]?=e[j]? :=by
 intro es
 induction es with
 |nil=>intro _ i e h;simp at h
 |cons x r ih=>
  intro h i e he j hj;have h1:=h x af;cases i with
  |zero=>simp at he;subst he;simp only[kb,uV,kZ];rw[Br aa]
  |succ i=>simp at he;have h2:=ih (fun y hy=>h y (by simp[hy])) he hj;simp only[kb];rw[zG (by rw[h1,fH];omega),<- h2];congr 1;rw[h1,fH];omega
theorem EP{α:Type}{sz:Nat}{es:List (List α)}(h:∀e∈es,e.length=sz){i:Nat}{e:List α}(he:es[i]?=some e):e.length=sz:=h e (ba he)
theorem BU{w:World}{b k:Nat}{cur:Array Value}{ty:TypeId}{fz:Nat×Nat}(h:w.heap[b]?=some (.cells cur ty fz)):w.cell? ⟨b,k,none⟩=cur[k]? :=cell_of_row w b k cur ty fz h
def At (m:Mem)(v:Value)(cs:List C):Prop:=∃b o vs,v=.pointer (some ⟨b,o,none⟩)/\ch m cs vs/\ ∀(j:Nat) (u:Value),vs[j]?=some u->m.w.cell? ⟨b,o+j,none⟩=some u
theorem At.row{m:Mem}{b o:Nat}{cur:Array Value}{ty:TypeId}{fz:Nat×Nat}(h:m.w.heap[b]?=some (.cells cur ty fz)){cs:List C}(hl:o+cs.length<=cur.size)
  (hc:∀(j:Nat) (x:C) (u:Value),cs[j]?=some x->cur[o+j]?=some u->bG m x u):At m (.pointer (some ⟨b,o,none⟩)) cs:=by
 refine⟨b,o,(cur.toList.drop o).take cs.length,rfl,⟨by simp;omega,fun j x u p q=>?_⟩,fun j u q=>?_⟩
 .rw[lQ] at q;split at q
  .exact hc j x u p (by simpa using q)
  cases q
 rw[lQ] at q;split at q
 .rw[BU h];simpa using q
 cases q
theorem U9{m:Mem}(aq:Ok w0 m){x:V}{v:Value}{cs:List C}{rd:List Nat}(h:vF m.blk x=some (cs,rd))(hv:aY m x v):At m v cs:=by
 unfold vF at h;split at h
 .rename_i ps;simp only[dV,ju] at h;obtain⟨rfl,rfl⟩:=h;obtain⟨hp⟩:bG m _ v:=hv;cases hp with
  |box b o f ho hc hr=>
   refine⟨b,o,(List.range ps.length).map f,rfl,⟨af,fun j x u p q=>?_⟩,fun j u q=>?_⟩
   .simp only[js,cH] at p q;obtain⟨y,hy,rfl⟩:=p;obtain⟨k,hk,rfl⟩:=q;have Ct:k=j:=by
     rw[rz (by have:=bn.1 hy;obtain⟨h,_⟩:=this;exact h)] at hk
     simpa using hk.symm
    subst Ct;exact .p (hr k y hy)
   simp only[js,cH] at q;obtain⟨k,hk,rfl⟩:=q;have au:j<ps.length:=by have:=bn.1 hk;obtain⟨h,_⟩:=this;simpa using h
   rw[rz au] at hk;simp at hk;subst hk;exact hc j _ (ry au)
 .rename_i id g off;have hv:bG m _ v:=hv;cases hv with
  |aZ a hg ha=>
   split at h
   .rename_i g' ue hb;split at h
    .rename_i gK;simp only[dV,ju] at h;obtain⟨rfl,rfl⟩:=h;have aS:(m.blk id).2=some (.var ue):=by rw[hb]
     have ha:=ha (by rw[hb];exact gK) (by rw[aS];rfl);subst ha;obtain⟨cur,ty,hh,hl,hc⟩:=aq.obj id _ aS;simp at hl;by_cases ho:off<=ue.length
     .exact At.row hh (by simp;omega) fun j x u p q=>hc (off+j) x u (by simpa using p) (by simpa using q)
     exact⟨_,_,[],rfl,⟨by simp;omega,fun j x u p q=>by simp at q⟩,fun j u q=>by simp at q⟩
    cases h
   .rename_i g' ue hb;split at h
    .rename_i gK;simp only[dV,ju] at h;obtain⟨rfl,rfl⟩:=h;have aS:(m.blk id).2=some (.fvar ue):=by rw[hb]
     have ha:=ha (by rw[hb];exact gK) (by rw[aS];rfl);subst ha;obtain⟨cur,ty,fz,hh,hp,_⟩:=aq.obj id _ aS;have hl:=hp.1;simp at hl;by_cases ho:off<=ue.length
     .refine At.row hh (by simp;omega) fun j x u p q=>?_;simp only[js,cH] at p;obtain⟨y,hy,rfl⟩:=p;exact .p (hp.2 (off+j) y u (by simpa using hy) (by simpa using q))
     exact⟨_,_,[],rfl,⟨by simp;omega,fun j x u p q=>by simp at q⟩,fun j u q=>by simp at q⟩
    cases h
   cases h
 .rename_i id g i off;have hv:bG m _ v:=hv;cases hv with
  |cJ a hg ha=>
   have key:∀(sz:Nat) (e:List C) (cur:Array Value) (ty:TypeId) (fz:Nat×Nat),m.w.heap[m.σ id]?=some (.cells cur ty fz)->e.length=sz->(i+1)*sz<=cur.size->
     a=⟨m.σ id,i*sz+off,none⟩->(∀(j:Nat) (x:C) (u:Value),e[j]?=some x->cur[i*sz+j]?=some u->bG m x u)->At m (.pointer (some a)) (e.drop off):=by
    intro sz e cur ty fz hh he au rW hc;subst rW;rw[fH,Nat.one_mul] at au;by_cases ho:off<=e.length
    .exact At.row hh (by simp;omega) fun j x u p q=>hc (off+j) x u (by simpa using p) (by rw[<- Bt];exact q)
    exact⟨_,_,[],rfl,⟨by simp;omega,fun j x u p q=>by simp at q⟩,fun j u q=>by simp at q⟩
   have pure:∀(ty sz:Nat) (es:List (List PV)) (e:List PV) (cur:Array Value) (fz:Nat×Nat),m.w.heap[m.σ id]?=some (.cells cur ty fz)->(∀e∈es,e.length=sz)->es.length*sz<=cur.size->
     bQ m.w m.own es.flatten (cur.toList.take (es.length*sz))->es[i]?=some e->a=⟨m.σ id,i*sz+off,none⟩->At m (.pointer (some a)) ((e.drop off).map .p):=by
    intro ty sz es e cur fz hh hsz hlen cn he rW;have cJ:=EP hsz he;have hi:i<es.length:=(bn.1 he).1;have kQ:(i+1)*sz<=es.length*sz:=jJ _ hi;rw[List.map_drop];refine key sz (e.map .p) cur ty fz hh (by simpa using cJ) aa rW fun j x u p q=>?_;simp only[js,cH] at p;obtain⟨y,hy,rfl⟩:=p;have hj:j<sz:=by have:=(bn.1 hy).1;omega
    refine .p (cn.2 (i*sz+j) y u (by rw[z7 hsz he hj];exact hy) ?_);rw[fH] at kQ;rw[lQ,if_pos aa]
    simpa using q
   split at h
   .rename_i g' ty sz es hb;split at h
    .rename_i gK;simp only[cH,ju] at h;obtain⟨e,he,rfl,rfl⟩:=h;have aS:(m.blk id).2=some (.arr ty sz es):=by rw[hb]
     obtain⟨cur,hh,jR,hsz,hl,hm,bZ,cn⟩:=aq.obj id _ aS;exact pure ty sz es e cur _ hh hsz (by rw[bZ];exact jJ _ hl) cn he (ha sz (by rw[hb];exact gK) (by rw[hb];rfl))
    cases h
   .rename_i g' ty sz es hb;split at h
    .rename_i gK;simp only[cH,ju] at h;obtain⟨e,he,rfl,rfl⟩:=h;have aS:(m.blk id).2=some (.lr ty sz es):=by rw[hb]
     obtain⟨cur,fz,hh,jR,hsz,hl,hm,bZ,cn,_⟩:=aq.obj id _ aS;exact pure ty sz es e cur _ hh hsz (by rw[bZ];exact jJ _ hl) cn he (ha sz (by rw[hb];exact gK) (by rw[hb];rfl))
    cases h
   .rename_i g' ty sz es hb;split at h
    .rename_i gK;simp only[cH,ju] at h;obtain⟨e,he,rfl,rfl⟩:=h;have aS:(m.blk id).2=some (.fO ty sz es):=by rw[hb]
     obtain⟨cur,hh,jR,hsz,hl,hm,bZ,cn⟩:=aq.obj id _ aS;have cJ:=EP hsz he;have hi:i<es.length:=(bn.1 he).1;have kQ:(i+1)*sz<=es.length*sz:=jJ _ hi;have SY:es.length*sz<=m.κ id*sz:=jJ _ hl;refine key sz e cur ty _ hh cJ aa (ha sz (by rw[hb];exact gK) (by rw[hb];rfl)) fun j x u p q=>?_;have hj:j<sz:=by have:=(bn.1 p).1;omega
     refine cn.2 (i*sz+j) x u (by rw[z7 hsz he hj];exact p) ?_;rw[fH] at kQ;rw[lQ,if_pos aa]
     simpa using q
    cases h
   cases h
 cases h
end Go.Abs
namespace Go.Abs
variable {P:Program} {w0:World}
theorem ab8{t:TypeId}{n:Nat}(h:mI P t=some (some n)):∃d i,P.underlying t=some d/\P.info? t=some i/\i.size=n/\((∃fs,d=.struct fs)\/ ∃k e,d=.array k e):=by
 unfold mI at h;split at h
 .rename_i fs i h1 h2;simp at h;exact⟨_,i,h1,h2,h,.inl ⟨fs,rfl⟩⟩
 .rename_i k e i h1 h2;simp at h;exact⟨_,i,h1,h2,h,.inr ⟨k,e,rfl⟩⟩
 .split at h<;>simp at h
 cases h
theorem ab7{t:TypeId}(h:mI P t=some none):∃d i,P.underlying t=some d/\P.info? t=some i/\i.size=1/\(∀fs,d≠ .struct fs)/\ ∀k e,d≠ .array k e:=by
 unfold mI at h;split at h
 .simp at h
 .simp at h
 .rename_i d i n1 n2 h1 h2;split at h
  .rename_i hs;exact⟨_,_,h1,h2,hs,fun fs e=>n1 fs e,fun k e' e=>n2 k e' e⟩
  cases h
 cases h
theorem Vh{t:TypeId}{n:Nat}(h:mI P t=some (some n))(w:World):(isAgg t).run P w=.ok true w/\(sizeOf t).run P w=.ok n w:=by
 obtain⟨d,i,h1,h2,h3,h4⟩:=ab8 h;constructor
 .rcases h4 with ⟨fs,rfl⟩|⟨k,e,rfl⟩<;>simp[isAgg,run_underlying h1]
 simp[sizeOf,typeInfo,h2,h3]
theorem Vg{t:TypeId}(h:mI P t=some none)(w:World):(isAgg t).run P w=.ok false w/\(sizeOf t).run P w=.ok 1 w:=by
 obtain⟨d,i,h1,h2,h3,h4,h5⟩:=ab7 h;constructor
 .cases d<;>first
   |exact(h4 _ rfl).elim
   |exact(h5 _ _ rfl).elim
   |simp[isAgg,run_underlying h1]
 simp[sizeOf,typeInfo,h2,h3]
theorem TT{m:Mem}{t:TypeId}{k:Option Nat}(hk:mI P t=some k){v:Value}{cs:List C}(h:At m v cs){x:V}(hx:lM k cs=some x):
  ∃a y,v=.pointer (some a)/\(loadVar t a).run P m.w=.ok y m.w/\aY m x y:=by
 obtain⟨b,o,vs,rfl,bZ,gJ⟩:=h;cases k with
 |none=>
  obtain⟨h1,h2⟩:=Vg hk m.w;cases cs with
  |nil=>simp[lM] at hx
  |cons c r=>
   simp[lM] at hx;subst hx;obtain⟨hl,hr⟩:=bZ;cases vs with
   |nil=>simp at hl
   |cons u us=>have h0:=gJ 0 u rfl;refine⟨_,u,rfl,?_,aY.one.2 (hr 0 c u rfl rfl)⟩;rw[vP] at h0;simp[loadVar,h1,h0]
 |some n=>
  obtain⟨h1,h2⟩:=Vh hk m.w;simp only[lM] at hx;split at hx
  .rename_i hn;cases hx;obtain⟨hl,hr⟩:=bZ;refine⟨_,.agg (vs.take n).toArray,rfl,?_,aY.agg.2 ⟨_,rfl,by simp;omega,fun j x u p q=>?_⟩⟩
   .have hlen:(vs.take n).length=n:=by simp;omega
    have:=run_loadCells_list (P:=P) m.w ⟨b,o,none⟩ (vs.take n) (fun j u q=>by
     rw[Addr.add_lit];rw[lQ] at q;split at q
     .exact gJ j u q
     cases q)
    rw[hlen] at this;simp[loadVar,h1,h2,this]
   rw[lQ] at p;simp only[lQ] at q;split at p
   .rename_i hj;simp only[hj,if_true] at q;exact hr j x u p q
   cases p
  cases hx
section
variable {m:Mem} {aj:Env} {a:Act} {o:Oper} (aq:Ok w0 m) (hr:gi m aj a.tmps)
include aq hr
theorem aff{t:TypeId}{x:Operand}{y:aK}{k:Option Nat}{cs:List C}{rd:List Nat}{v:V}(ho:o.op=.load t x)(hk:mI P t=some k)(hx:bp x=some y)
  (hc:vF m.blk (ev aj y)=some (cs,rd)) (hv:lM k cs=some v):eB P w0 a.eval o m v []:=by
 obtain⟨ad,y',h1,h2,h3⟩:=TT hk (U9 aq hc (dy hx hr)) hv;exact .calm aq (by simp[execOp,ho,h1,Instr.loadAt,Instr.sureAddr,h2]) h3
theorem afo{x:Operand}{y:aK}{v:V}(ho:o.op=.nilCheck x)(hx:bp x=some y)(hv:aT (fun _=>false) aj m.blk (.tF y)=.done v [] []):eB P w0 a.eval o m v []:=by
 have dh:=dy hx hr;simp only[aT] at hv;split at hv
 .rename_i he;rw[he] at dh;cases hv;have hc:bG m _ (a.eval x):=dh;generalize hb:a.eval x=b at hc dh;cases hc with
  |aZ ad hg h=>exact .calm aq (by simp[execOp,ho,hb]) dh
 .rename_i he;rw[he] at dh;cases hv;have hc:bG m _ (a.eval x):=dh;generalize hb:a.eval x=b at hc dh;cases hc with
  |cJ ad hg h=>exact .calm aq (by simp[execOp,ho,hb]) dh
 .rename_i he;rw[he] at dh;cases hv;have hc:bG m _ (a.eval x):=dh;generalize hb:a.eval x=b at hc dh;cases hc with
  |p hp=>cases hp with
   |box b' o' f je jm l8=>exact .calm aq (by simp[execOp,ho,hb]) dh
 .rename_i he;rw[he] at dh;cases hv;have hc:bG m _ (a.eval x):=dh;generalize hb:a.eval x=b at hc dh;cases hc with
  |hfn A B ha wQ qL kC=>exact .calm aq (by simp[execOp,ho,hb]) dh
 .rename_i he;rw[he] at dh;cases hv;have hc:bG m _ (a.eval x):=dh;generalize hb:a.eval x=b at hc dh;cases hc with
  |p hp=>cases hp with
   |fn A B ha wQ qL kC=>exact .calm aq (by simp[execOp,ho,hb]) dh
 cases hv
end
end Go.Abs
namespace Go.Abs
variable {P:Program} {w0:World}
section
variable{vs:List Value}{off:Nat}
theorem bh.norm{w:World}{own:Nat->Prop}{x:PV}{v:Value}(h:bh w own x v):bh w own x.norm v:=by
 cases h<;>first
  |exact .sB none 0 (fun _=>rfl) (bc _)
  |exact .sB _ 0 (fun _=>rfl) (bc _)
  |(simp only[PV.norm];constructor<;>assumption)
theorem agD{m:Mem}{c:C}{x:PV}{v:Value}(h:toP c=some x)(hr:bG m c v):bh m.w m.own x v:=by
 cases hr<;>simp[toP] at h
 rename_i hp;subst h;exact hp.norm
theorem GK{m:Mem}:∀ {cs:List C} {xs:List PV} {vs:List Value},vI cs=some xs->ch m cs vs->bQ m.w m.own xs vs:=by
 intro cs
 induction cs with
 |nil=>intro xs vs h hr;simp[vI] at h;subst h;exact⟨hr.1,fun j x u a=>by simp at a⟩
 |cons c r ih=>
  intro xs vs h hr;simp only[vI] at h;split at h
  .rename_i x ys h1 h2;cases h;cases vs with
   |nil=>simp[ch] at hr
   |cons v us=>
    obtain⟨hl,xh⟩:=ih (vs:=us) h2 ⟨by simpa using hr.1,fun j x u a b=>hr.2 (j+1) x u (by simpa using a) (by simpa using b)⟩;refine⟨by simp[hl],fun j z u a b=>?_⟩;cases j with
    |zero=>simp at a b;subst a b;exact agD h1 (hr.2 0 c v rfl rfl)
    |succ j=>simp at a b;exact xh j z u a b
  cases h
def Pw {α:Type}(R:α->Value->Prop)(xs:List α)(vs:List Value):Prop:=vs.length=xs.length/\ ∀(j:Nat) (x:α) (u:Value),xs[j]?=some x->vs[j]?=some u->R x u
theorem Pw.take{α:Type}{R:α->Value->Prop}{xs:List α}(h:Pw R xs vs)(n:Nat):Pw R (xs.take n) (vs.take n):=by
 refine⟨by simp[h.1],fun j x u a b=>?_⟩;rw[lQ] at a b;split at a
 .rename_i hj;rw[if_pos hj] at b;exact h.2 j x u a b
 cases a
theorem Pw.drop{α:Type}{R:α->Value->Prop}{xs:List α}(h:Pw R xs vs)(n:Nat):Pw R (xs.drop n) (vs.drop n):=
 ⟨by simp[h.1],fun j x u a b=>h.2 (n+j) x u (by simpa using a) (by simpa using b)⟩
theorem Pw.append{α:Type}{R:α->Value->Prop}{xs ys:List α}{us:List Value}(h:Pw R xs vs)(k:Pw R ys us):Pw R (xs++ys) (vs++us):=by
 refine⟨by simp[h.1,k.1],fun j x u a b=>?_⟩;by_cases hj:j<xs.length
 .rw[Br hj] at a;rw[Br (by rw[h.1];exact hj)] at b;exact h.2 j x u a b
 rw[zG aa] at a;rw[zG (by rw[h.1];omega),h.1] at b;exact k.2 _ x u a b
theorem Pw.dM{α:Type}{R:α->Value->Prop}{xs ys:List α}{us:List Value}(h:Pw R xs vs)(k:Pw R ys us)(off:Nat):Pw R (dM xs off ys) (dM vs off us):=by unfold Abs.dM;rw[k.1];exact((h.take off).append k).append (h.drop _)
theorem I9{α:Type}{cs xs:List α}(h:off+xs.length<=cs.length):(dM cs off xs).length=cs.length:=by simp[dM];omega
theorem VO{α:Type}{cs xs:List α}{n:Nat}(h:off+xs.length<=n)(hn:n<=cs.length):(dM cs off xs).take n=dM (cs.take n) off xs:=by unfold dM;rw[List.take_append,List.take_append,List.take_take,List.drop_take];simp only[iW,jt];rw[Bw (by omega:off<=cs.length),List.take_take,Bw (by omega:off<=n),Nat.min_eq_right (by omega:off<=n)];have e:n-(off+xs.length)=n-(off+xs.length):=rfl;rw[fS (by omega:xs.length<=n-off)]
theorem af4{α:Type}{a cs xs:List α}:dM (a++cs) (a.length+off) xs=a++dM cs off xs:=by unfold dM;rw[List.take_append,List.drop_append];simp only[DD];rw[fS (by omega:a.length<=a.length+off),List.drop_of_length_le (by omega:a.length<=a.length+off+xs.length)];simp only[xQ];have e1:a.length+off-a.length=off:=aa;have e2:a.length+off+xs.length-a.length=off+xs.length:=aa;rw[e1,e2]
theorem af3{α:Type}{a cs xs:List α}(h:off+xs.length<=a.length):dM (a++cs) off xs=dM a off xs++cs:=by unfold dM;rw[List.take_append_of_le_length aa,List.drop_append_of_le_length aa];simp
theorem Z8{α:Type}{sz:Nat}{ps:List α}:∀ {es:List (List α)},(∀e∈es,e.length=sz)->∀ {i:Nat} {e:List α},es[i]?=some e->off+ps.length<=sz->
  (es.set i (dM e off ps)).flatten=dM es.flatten (i*sz+off) ps:=by
 intro es
 induction es with
 |nil=>intro _ i e h;simp at h
 |cons x r ih=>
  intro h i e he hl;have h1:=h x af;cases i with
  |zero=>simp at he;subst he;simp only[List.set_cons_zero,kb,uV,kZ];rw[af3 aa]
  |succ i=>
   simp at he;simp only[List.set_cons_succ,kb];rw[ih (fun y hy=>h y (by simp[hy])) he hl];have hh:(i+1)*sz+off=x.length+(i*sz+off):=by rw[h1,fH];omega
   rw[hh,af4]
theorem IX{w:World}{g:Nat}{cur new:Array Value}{ty:TypeId}{fz:Nat×Nat}(h:w.heap[g]?=some (.cells cur ty fz)):(w.setRow g new).heap[g]?=some (.cells new ty fz):=setRow_heap w g cur new ty fz h
theorem ch.pw{m:Mem}{cs:List C}:ch m cs vs↔Pw (bG m) cs vs:=Iff.rfl
theorem bQ.pw{w:World}{own:Nat->Prop}{cs:List PV}:bQ w own cs vs↔Pw (bh w own) cs vs:=Iff.rfl
theorem ch.one{m:Mem}{cs:List C}(h:ch m cs vs):∀v∈vs,v.oneCell'=true:=by
 intro v hv;obtain⟨j,hj⟩:=iV hv;have au:j<cs.length:=by rw[<- h.1];exact(bn.1 hj).1
 exact(h.2 j _ v (ry au) hj).Gq
theorem JJ{m:Mem}{x:V}{v:Value}{cs:List C}(h:mW x=some cs)(hr:aY m x v):ch m cs v.cells.toList:=by
 cases x with
 |undef=>simp[mW] at h
 |tup vs=>simp[mW] at h
 |one c=>
  simp[mW] at h;subst h;rw[(aY.one.1 hr).cells];refine⟨rfl,fun j y u p q=>?_⟩;cases j with
  |zero=>simp at p q;subst p q;exact hr
  |succ j=>simp at p
 |agg ds=>simp[mW] at h;subst h;obtain⟨arr,e,h⟩:=aY.agg.1 hr;rw[e];exact h
section
variable {m:Mem} {aj:Env} {a:Act} {o:Oper} (aq:Ok w0 m) (hr:gi m aj a.tmps)
include aq hr
theorem afv{t:TypeId}{x v:Operand}{x' v':aK}{n:Nat}{cs:List C}{r:V}{u:List dH}{rd:List Nat}(ho:o.op=.store t x v)(hn:sA P t=some n)(hx:bp x=some x')(hv:bp v=some v')
  (hc:mW (ev aj v')=some cs) (hw:uS m.blk (ev aj x') n cs=.done r u rd):eB P w0 a.eval o m r u:=by
 have bZ:=JJ hc (dy hv hr);have jf:=dy hx hr;unfold sA at hn;simp only[cH] at hn;obtain⟨i,hi,qI⟩:=hn;have hsz:(a.eval v).cells.toList.length=cs.length:=bZ.1;simp only[Array.length_toList] at hsz;unfold uS at hw;split at hw
 .cases hw
 rename_i hlen;have hlen:cs.length=n:=by simpa using hlen
 have HV:=bZ.one;split at hw
 .rename_i id g off he;rw[he] at jf;have jf:bG m _ (a.eval x):=jf;generalize hb:a.eval x=b at jf;cases jf with
  |aZ ad hg lz=>
   split at hw
   .rename_i g' ue hbk;split at hw
    .rename_i Fo;obtain⟨gK,hfit⟩:=Fo;cases hw;have aS:(m.blk id).2=some (.var ue):=by rw[hbk]
     have lz:=lz (by rw[hbk];exact gK) (by rw[aS];rfl);subst lz;obtain⟨cur,ty,hh,cn⟩:=aq.obj id _ aS;have ef:=cn.1;simp at ef;have yE:off+0+(a.eval v).cells.toList.length<=cur.size:=by simp;omega
     have bU:=run_storeCells_at P (m.σ id) off ty (a.eval v).cells.toList 0 cur m.w hh yE HV;simp only[vP] at bU;generalize hW:m.w.setRow (m.σ id) (cur.toList.take off++(a.eval v).cells.toList++cur.toList.drop (off+(a.eval v).cells.toList.length)).toArray=W at bU;have yx:W.heap.size=m.w.heap.size:=by rw[<- hW];simp
     have yw:∀c,c≠m.σ id->W.heap[c]?=m.w.heap[c]? :=fun c hc=>by rw[<- hW];exact setRow_other m.w (m.σ id) c _ hc
     have ek:=Dm (w':=W) (o:=.var (dM ue off cs)) aS rfl (by simp[iE]) (by rw[<- hW];rfl) (by rw[<- hW];rfl) (by rw[<- hW];rfl) yx yw;have uB:nK (m.gb W id (.var (dM ue off cs))) id (.var (dM ue off cs)):=by
      refine⟨_,ty,by rw[<- hW];exact IX hh,?_⟩;have:=ch.pw.2 ((ch.pw.1 (cn.ev ek.zero)).dM (ch.pw.1 (bZ.ev ek.zero)) off)
      simpa [dM] using this
     refine⟨undef,m.gb W id (.var (dM ue off cs)),.inr ⟨?_,rfl⟩,GC aS rfl aq (by simp[iE]) (by rw[<- hW];rfl) (by rw[<- hW];rfl) (by rw[<- hW];rfl) yx yw uB,ek,rfl,?_,rfl⟩
     .simp only[execOp,ho,hb,Instr.storeAt,Instr.sureAddr,storeVar,sizeOf,typeInfo];simp[hi,hsz,hlen,qI,bU,Mem.gb]
     simp[Mem.gb,app,hbk,gK]
    cases hw
   cases hw
 .rename_i id g i' off he;rw[he] at jf;have jf:bG m _ (a.eval x):=jf;generalize hb:a.eval x=b at jf;cases jf with
  |cJ ad hg lz=>
   split at hw
   .rename_i g' ty sz es hbk;split at hw
    .rename_i e ps Ai vn;split at hw
     .rename_i Fo;obtain⟨gK,hfit⟩:=Fo;cases hw;have aS:(m.blk id).2=some (.arr ty sz es):=by rw[hbk]
      have lz:=lz sz (by rw[hbk];exact gK) (by rw[hbk];rfl);subst lz;obtain⟨cur,hh,jR,mD,hl,hm,yz,cn⟩:=aq.obj id _ aS;have cJ:=EP mD Ai;have aaS:i'<es.length:=(bn.1 Ai).1;have kQ:(i'+1)*sz<=es.length*sz:=jJ _ aaS;have SY:es.length*sz<=m.κ id*sz:=jJ _ hl;rw[fH,Nat.one_mul] at kQ;have abw:ps.length=cs.length:=by rw[<- bZ.1];exact(GK vn bZ).1.symm
      have yE:i'*sz+off+0+(a.eval v).cells.toList.length<=cur.size:=by simp;omega
      have bU:=run_storeCells_at P (m.σ id) (i'*sz+off) ty (a.eval v).cells.toList 0 cur m.w hh yE HV;simp only[vP] at bU;generalize hW:m.w.setRow (m.σ id) (cur.toList.take (i'*sz+off)++(a.eval v).cells.toList++cur.toList.drop (i'*sz+off+(a.eval v).cells.toList.length)).toArray=W at bU;have yx:W.heap.size=m.w.heap.size:=by rw[<- hW];simp
      have yw:∀c,c≠m.σ id->W.heap[c]?=m.w.heap[c]? :=fun c hc=>by rw[<- hW];exact setRow_other m.w (m.σ id) c _ hc
      have ek:=Dm (w':=W) (o:=.arr ty sz (es.set i' (dM e off ps))) aS rfl (by simp[iE]) (by rw[<- hW];rfl) (by rw[<- hW];rfl) (by rw[<- hW];rfl) yx yw;have uB:nK (m.gb W id (.arr ty sz (es.set i' (dM e off ps)))) id (.arr ty sz (es.set i' (dM e off ps))):=by
       refine⟨_,by rw[<- hW];exact IX hh,jR,?_,by rw[kY];exact hl,hm,?_,?_⟩
       .intro e' Ah;rcases List.mem_or_eq_of_mem_set Ah with h|h
        .exact mD e' h
        rw[h,I9 aa];exact cJ
       .simp[Mem.gb];omega
       rw[kY,Z8 mD Ai aa];have h1:=(bQ.pw.1 (cn.ev ek.zero)).dM (bQ.pw.1 ((GK vn bZ).ev ek.zero)) (i'*sz+off);rw[<- VO (by simp;omega) (by simp;omega)] at h1;have h1:=bQ.pw.2 h1
       simpa [dM] using h1
      refine⟨undef,m.gb W id (.arr ty sz (es.set i' (dM e off ps))),.inr ⟨?_,rfl⟩,GC aS rfl aq (by simp[iE]) (by rw[<- hW];rfl) (by rw[<- hW];rfl) (by rw[<- hW];rfl) yx yw uB,ek,rfl,?_,rfl⟩
      .simp only[execOp,ho,hb,Instr.storeAt,Instr.sureAddr,storeVar,sizeOf,typeInfo];simp[hi,hsz,hlen,qI,bU,Mem.gb]
      simp[Mem.gb,app,hbk,gK]
     cases hw
    cases hw
   cases hw
 cases hw
end
end
end Go.Abs
namespace Go.Abs
variable {P:Program} {w0:World}
theorem ua{m:Mem}{x:V}{v:Value}{n:Nat}(h:lh x=some n)(hr:aY m x v):∃k,v=.int k (n:Int):=by
 unfold lh at h;split at h
 .rename_i k z;split at h
  .rename_i hz;cases h;exact⟨k,by rw[xm hr,Int.toNat_of_nonneg hz]⟩
  cases h
 cases h
theorem IZ{t:TypeId}{n:Nat}(h:sA P t=some n)(w:World):(sizeOf t).run P w=.ok n w:=by unfold sA at h;simp only[cH] at h;obtain⟨i,hi,rfl⟩:=h;simp[sizeOf,typeInfo,hi]
section
variable {m:Mem} {aj:Env} {a:Act} {o:Oper} (aq:Ok w0 m) (hr:gi m aj a.tmps)
include aq hr
theorem afb{s:TypeId}{x:Operand}{f:Nat}{fs:Array Field}{d:Field}{y:aK}{v:V}(ho:o.op=.fieldAddr s x f)(hs:P.underlying s=some (.struct fs))(hf:fs[f]?=some d)
  (hz:P.cellsOf d.type≠0) (hx:bp x=some y) (hv:aT (fun _=>false) aj m.blk (.sW d.offset y)=.done v [] []):eB P w0 a.eval o m v []:=by
 have dh:=dy hx hr;have hsz:∃n,(sizeOf d.type).run P m.w=.ok n m.w/\n≠0:=by
  unfold Program.cellsOf at hz;cases hi:P.info? d.type with
  |none=>simp[hi] at hz
  |some i=>exact⟨i.size,by simp[sizeOf,typeInfo,hi],by simpa [hi] using hz⟩
 obtain⟨n,hn,eX⟩:=hsz;have run:∀ad,a.eval x=.pointer (some ad)->(execOp a.eval o).run P m.w=.ok (.value (.pointer (some (ad.add d.offset)))) m.w:=by intro ad lz;simp[execOp,ho,lz,Instr.fieldAt,run_underlying hs,hf,Instr.sureAddr,fieldPlace,hn,eX]
 simp only[aT] at hv;split at hv
 .rename_i id g off he;rw[he] at dh;cases hv;have hc:bG m _ (a.eval x):=dh;generalize hb:a.eval x=b at hc;cases hc with
  |aZ ad hg h=>exact .calm aq (run _ hb) (aY.one.2 (.aZ _ hg fun h1 h2=>by rw[h h1 h2,Addr.add_lit]))
 .rename_i id g i off he;rw[he] at dh;cases hv;have hc:bG m _ (a.eval x):=dh;generalize hb:a.eval x=b at hc;cases hc with
  |cJ ad hg h=>exact .calm aq (run _ hb) (aY.one.2 (.cJ _ hg fun sz h1 h2=>by rw[h sz h1 h2,Addr.add_lit,Bt]))
 .rename_i cs he;rw[he] at dh;cases hv;have hc:bG m _ (a.eval x):=dh;generalize hb:a.eval x=b at hc;cases hc with
  |p hp=>cases hp with
   |box b' o' f' je jm l8=>refine .calm aq (run _ hb) (j6 ?_);rw[Addr.add_lit];refine .box b' (o'+d.offset) (fun j=>f' (d.offset+j)) (fun h=>je fun e=>h (by simp[e])) (fun j z h=>?_) fun j z h=>l8 _ z (by simpa using h);rw[Bt];exact jm _ z (by simpa using h)
 cases hv
theorem afd{t e:TypeId}{x i:Operand}{sz:Nat}{x' i':aK}{v:V}(ho:o.op=.indexAddr t x i)(ht:P.underlying t=some (.slice e))(hs:sA P e=some sz)
  (hx:bp x=some x') (hi:bp i=some i') (hv:aT (fun _=>false) aj m.blk (.mH sz x' i')=.done v [] []):eB P w0 a.eval o m v []:=by
 have dh:=dy hx hr;have Cy:=dy hi hr;have run:∀ad len cap k (n:Nat),a.eval x=.slice (some ad) len cap->a.eval i=.int k (n:Int)->n<len->(execOp a.eval o).run P m.w=.ok (.value (.pointer (some (ad.add (n*sz))))) m.w:=by intro ad len cap k n h1 h2 h3;simp[execOp,ho,h1,h2,Instr.indexAt,asIntOf,run_underlying ht,IZ hs,h3]
 simp only[aT] at hv;split at hv
 .rename_i n es hn he;obtain⟨k,hk⟩:=ua hn Cy;rw[he] at dh;split at hv
  .rename_i el cJ;split at hv
   .rename_i hlen;cases hv;have hc:bG m _ (a.eval x):=dh;generalize hb:a.eval x=b at hc;cases hc with
    |p hp=>
     generalize fh:(PV.sl es)=pv at hp;cases hp<;>first
      |cases fh
      |skip
     .simp at cJ
     rename_i b' o' cap cQ f Aw je vh hsz tm xh;have au:n<es.length:=(bn.1 cJ).1;have MP:cQ=sz:=by rw[<- EP hsz cJ];exact hlen
     subst MP;refine .calm aq (run _ _ _ k n hb hk au) (j6 ?_);rw[Addr.add_lit];refine .box b' (o'+n*cQ) (fun j=>f (n*cQ+j)) (fun h=>je ?_) (fun j z h=>?_) fun j z h=>?_
     .intro e0;cases el with
      |nil=>exact h rfl
      |cons c r=>have:=z7 hsz cJ (j:=0) (by rw[<- hlen];simp);rw[e0] at this;simp at this
     .have hj:j<cQ:=by rw[<- hlen];exact(bn.1 h).1
      rw[Bt];exact tm _ z (by rw[z7 hsz cJ hj];exact h)
     have hj:j<cQ:=by rw[<- hlen];exact(bn.1 h).1
     exact xh _ z (by rw[z7 hsz cJ hj];exact h)
   cases hv
  cases hv
 .rename_i n id g z off len hn he;obtain⟨k,hk⟩:=ua hn Cy;rw[he] at dh;split at hv
  .rename_i au;cases hv;have hc:bG m _ (a.eval x):=dh;generalize hb:a.eval x=b at hc;cases hc with
   |hsl ad cap hg hl hm h=>refine .calm aq (run _ _ _ k n hb hk au.1) (aY.one.2 (.cJ _ hg fun s h1 h2=>?_));obtain⟨e1,e2,_⟩:=h s h1 h2;rw[e2 (.inr aa),Addr.add_lit,e1,au.2];simp[fH]
  cases hv
 cases hv
theorem aeY{t e:TypeId}{x i:Operand}{sz ln:Nat}{x' i':aK}{v:V}(ho:o.op=.indexAddr t x i)(ht:P.underlying t=some (.array ln e))(hs:sA P e=some sz)
  (hx:bp x=some x') (hi:bp i=some i') (hv:aT (fun _=>false) aj m.blk (.tX ln sz x' i')=.done v [] []):eB P w0 a.eval o m v []:=by
 have dh:=dy hx hr;have Cy:=dy hi hr;have run:∀ad k (n:Nat),a.eval x=.pointer (some ad)->a.eval i=.int k (n:Int)->n<ln->(execOp a.eval o).run P m.w=.ok (.value (.pointer (some (ad.add (n*sz))))) m.w:=by intro ad k n h1 h2 h3;simp[execOp,ho,h1,h2,Instr.indexAt,asIntOf,run_underlying ht,IZ hs,h3,Instr.sureAddr]
 simp only[aT] at hv;split at hv
 .rename_i n id g off hn he;obtain⟨k,hk⟩:=ua hn Cy;rw[he] at dh;split at hv
  .rename_i au;cases hv;have hc:bG m _ (a.eval x):=dh;generalize hb:a.eval x=b at hc;cases hc with
   |aZ ad hg h=>exact .calm aq (run _ k n hb hk au) (aY.one.2 (.aZ _ hg fun h1 h2=>by rw[h h1 h2,Addr.add_lit]))
  cases hv
 .rename_i n id g j off hn he;obtain⟨k,hk⟩:=ua hn Cy;rw[he] at dh;split at hv
  .rename_i au;cases hv;have hc:bG m _ (a.eval x):=dh;generalize hb:a.eval x=b at hc;cases hc with
   |cJ ad hg h=>exact .calm aq (run _ k n hb hk au) (aY.one.2 (.cJ _ hg fun s h1 h2=>by rw[h s h1 h2,Addr.add_lit,Bt]))
  cases hv
 .rename_i n cs hn he;obtain⟨k,hk⟩:=ua hn Cy;rw[he] at dh;split at hv
  .rename_i au;cases hv;have hc:bG m _ (a.eval x):=dh;generalize hb:a.eval x=b at hc;cases hc with
   |p hp=>cases hp with
    |box b' o' f' je jm l8=>refine .calm aq (run _ k n hb hk au) (j6 ?_);rw[Addr.add_lit];refine .box b' (o'+n*sz) (fun j=>f' (n*sz+j)) (fun h=>je fun e=>h (by simp[e])) (fun j z h=>?_) fun j z h=>l8 _ z (by simpa using h);rw[Bt];exact jm _ z (by simpa using h)
  cases hv
 cases hv
theorem UI{t:TypeId}{k:Option Nat}(hk:mI P t=some k){cs:List C}{arr:Array Value}(hc:ch m cs arr.toList){off:Nat}{x:V}(hx:lM k (cs.drop off)=some x):
  ∃y,(part t arr off).run P m.w=.ok y m.w/\aY m x y:=by
 have _u0:=aq;have _u1:=hr;have hl:=hc.1;simp at hl;cases k with
 |none=>
  obtain⟨h1,h2⟩:=Vg hk m.w;cases hd:cs.drop off with
  |nil=>simp[hd,lM] at hx
  |cons c r=>
   simp[hd,lM] at hx;subst hx;have bZ:cs[off]?=some c:=by
    have:=congrArg (·[0]?) hd
    simpa using this
   have au:off<arr.size:=by rw[hl];exact(bn.1 bZ).1
   refine⟨arr[off],by simp[part,h1,au],aY.one.2 (hc.2 off c _ bZ (by simp[au]))⟩
 |some n=>
  obtain⟨h1,h2⟩:=Vh hk m.w;simp only[lM] at hx;split at hx
  .rename_i hn;cases hx;simp at hn;refine⟨.agg (arr.extract off (off+n)),by simp[part,h1,h2],aY.agg.2 ⟨_,rfl,by simp;omega,fun j x u p q=>?_⟩⟩;rw[lQ] at p;split at p
   .rename_i hj;simp at p;refine hc.2 (off+j) x u p ?_;have au:off+j<cs.length:=(bn.1 p).1;have he:(arr.extract off (off+n)).toList=(arr.toList.drop off).take n:=af;rw[he,lQ,if_pos hj,DF] at q;exact q
   cases p
  cases hx
theorem afc{t:TypeId}{x:Operand}{f:Nat}{fs:Array Field}{d:Field}{y:aK}{k:Option Nat}{cs:List C}{v:V}(ho:o.op=.field t x f)(hs:P.underlying t=some (.struct fs))(hf:fs[f]?=some d)
  (hk:mI P d.type=some k) (hx:bp x=some y) (hy:ev aj y=.agg cs) (hv:lM k (cs.drop d.offset)=some v):eB P w0 a.eval o m v []:=by
 have dh:=dy hx hr;rw[hy] at dh;obtain⟨arr,e,hc⟩:=aY.agg.1 dh;obtain⟨z,h1,h2⟩:=UI (aq:=aq) (hr:=hr) hk hc hv;exact .calm aq (by simp[execOp,ho,e,Instr.field,run_underlying hs,hf,asAgg,h1]) h2
theorem aeZ{t e:TypeId}{x i:Operand}{ln sz:Nat}{x' i':aK}{k:Option Nat}{n:Nat}{cs:List C}{v:V}(ho:o.op=.index t x i)(ht:P.underlying t=some (.array ln e))(hs:sA P e=some sz)
  (hk:mI P e=some k) (hx:bp x=some x') (hi:bp i=some i') (hn:lh (ev aj i')=some n) (au:n<ln) (hy:ev aj x'=.agg cs) (hv:lM k (cs.drop (n*sz))=some v):eB P w0 a.eval o m v []:=by
 have dh:=dy hx hr;obtain⟨kk,qJ⟩:=ua hn (dy hi hr);rw[hy] at dh;obtain⟨arr,e',hc⟩:=aY.agg.1 dh;obtain⟨z,h1,h2⟩:=UI (aq:=aq) (hr:=hr) hk hc hv;exact .calm aq (by simp[execOp,ho,e',qJ,Instr.index,asIntOf,run_underlying ht,IZ hs,au,h1]) h2
theorem afr{t:TypeId}{x i:Operand}{x' i':aK}{n:Nat}{s:ByteArray}{b:UInt8}(ho:o.op=.index t x i)(ht:P.underlying t=some .string)
  (hx:bp x=some x') (hi:bp i=some i') (hn:lh (ev aj i')=some n) (hy:ev aj x'=.one (.p (.str s))) (hb:s[n]?=some b):eB P w0 a.eval o m (.one (.p (.int .u8 b.toNat))) []:=by
 have dh:=dy hx hr;obtain⟨kk,qJ⟩:=ua hn (dy hi hr);rw[hy] at dh;exact .calm aq (by simp[execOp,ho,Gb dh,qJ,Instr.index,asIntOf,run_underlying ht,hb]) (j6 (.int _ _))
end
end Go.Abs
namespace Go.Abs
variable {P:Program} {w0:World}
theorem X6{op:BinOp}{t:TypeId}{k k':IntKind}{x y:Int}{v:PV}(w:World)(hk:k=k'\/op=.shl\/op=.shr)(h:oG op k x y=some v):
  ∃u,(binOp op t (.int k x) (.int k' y)).run P w=.ok u w/\ ∀own,bh w own v u:=by
 by_cases hs:op=.shl\/op=.shr
 .rcases hs with rfl|rfl
  .simp only[oG] at h;split at h
   .cases h
   rename_i hy;cases h;exact⟨_,by simp[binOp,Op.shift,hy],fun own=>.int _ _⟩
  simp only[oG] at h;split at h
  .cases h
  rename_i hy;cases h;exact⟨_,by simp[binOp,Op.shift,hy],fun own=>.int _ _⟩
 have qJ:k=k':=by
  rcases hk with h|h
  .exact h
  exact(hs h).elim
 subst qJ;cases op<;>simp only[oG] at h<;>first
  |cases h
  |skip
 all_goals first
  |exact(hs (.inl rfl)).elim
  |exact(hs (.inr rfl)).elim
  |(exact⟨_,by simp[binOp,Op.intArith,Op.intCmp,Op.intBits],fun own=>.int _ _⟩)
  |(exact⟨_,by simp[binOp,Op.intArith,Op.intCmp],fun own=>.bool _⟩)
  |(split at h
    .cases h
    rename_i hy;cases h;exact⟨_,by simp[binOp,Op.intDiv,hy],fun own=>.int _ _⟩)
theorem X8{op:BinOp}{t:TypeId}{x y:ByteArray}{v:PV}(w:World)(h:JE op x y=some v):
  ∃u,(binOp op t (.string x) (.string y)).run P w=.ok u w/\ ∀own,bh w own v u:=by
 cases op<;>simp only[JE] at h<;>first
  |cases h
  |skip
 all_goals first
  |exact⟨_,by simp[binOp,Op.stringOp],fun own=>.bool _⟩
  |(split at h
    .rename_i hl;cases h;refine⟨.string (x++y),?_,fun own=>.str _⟩;have:¬((x.size:Int)+(y.size:Int)>9223372036854775807):=aa;simp[binOp,Op.stringOp,this]
    cases h)
section
variable {m:Mem} {aj:Env} {a:Act} {o:Oper} (aq:Ok w0 m) (hr:gi m aj a.tmps)
include aq hr
theorem ae2{op:BinOp}{t ty:TypeId}{x y:Operand}{x' y':aK}{v:V}(ho:o.op=.binOp op t x y ty)(hx:bp x=some x')(hy:bp y=some y')
  (hv:mu op (ev aj x') (ev aj y')=some v):eB P w0 a.eval o m v []:=by
 have h1:=dy hx hr;have h2:=dy hy hr;unfold mu at hv;split at hv
 .rename_i k p k' q e1 e2;rw[e1] at h1;rw[e2] at h2;split at hv
  .rename_i hk;simp only[cH] at hv;obtain⟨u,hu,rfl⟩:=hv;obtain⟨z,hz,CE⟩:=X6 (P:=P) (t:=t) m.w hk hu;refine .calm aq ?_ (j6 (CE _));have hg:(eqGuard op t x y (.int k p) (.int k' q)).run P m.w=.ok () m.w:=by cases op<;>simp[eqGuard]
   simp[execOp,ho,xm h1,xm h2,hg,hz]
  cases hv
 .rename_i p q e1 e2;rw[e1] at h1;rw[e2] at h2;simp only[cH] at hv;obtain⟨u,hu,rfl⟩:=hv;obtain⟨z,hz,CE⟩:=X8 (P:=P) (t:=t) m.w hu;refine .calm aq ?_ (j6 (CE _));have hg:(eqGuard op t x y (.string p) (.string q)).run P m.w=.ok () m.w:=by cases op<;>simp[eqGuard]
  simp[execOp,ho,Gb h1,Gb h2,hg,hz]
 cases hv
theorem afp{t:TypeId}{x:Operand}{x':aK}{b:Bool}(ho:o.op=.unOp .not t x)(hx:bp x=some x')(hb:ev aj x'=.one (.p (.bool b))):eB P w0 a.eval o m (.one (.p (.bool (!b)))) []:=by have h1:=dy hx hr;rw[hb] at h1;exact .calm aq (by simp[execOp,ho,yX h1,Op.unary]) (j6 (.bool _))
theorem afn{t:TypeId}{x:Operand}{x':aK}{k:IntKind}{n:Int}(ho:o.op=.unOp .neg t x)(hx:bp x=some x')(hb:ev aj x'=.one (.p (.int k n))):eB P w0 a.eval o m (.one (.p (.int k (k.wrap (0-n))))) []:=by have h1:=dy hx hr;rw[hb] at h1;exact .calm aq (by simp[execOp,ho,xm h1,Op.unary,Op.intArith]) (j6 (.int _ _))
theorem ae9{s d:TypeId}{x:Operand}{x':aK}{ks k k0:IntKind}{n:Int}(ho:o.op=.convert s d x)(hs:P.underlying s=some (.int ks))(hd:P.underlying d=some (.int k))(hx:bp x=some x')
  (hb:ev aj x'=.one (.p (.int k0 n))):eB P w0 a.eval o m (.one (.p (.int k (k.wrap n)))) []:=by
 have h1:=dy hx hr;rw[hb] at h1;exact .calm aq (by simp[execOp,ho,xm h1,convert,run_underlying hs,run_underlying hd,Conv.intToInt]) (j6 (.int _ _))
theorem UB:∀ {xs:List Operand} {ys:List aK} {cs:List C},lU xs=some ys->qW aj ys=some cs->ch m cs (xs.map a.eval):=by
 have _u0:=aq;intro xs
 induction xs with
 |nil=>intro ys cs h1 h2;simp[lU] at h1;subst h1;simp[qW] at h2;subst h2;exact⟨rfl,fun j x u p=>by simp at p⟩
 |cons x r ih=>
  intro ys cs h1 h2;simp only[lU] at h1;split at h1
  .rename_i y ys' e1 e2;cases h1;simp only[qW] at h2;split at h2
   .rename_i c q e3 e4;cases h2;obtain⟨hl,xh⟩:=ih e2 e4;refine⟨by simpa using hl,fun j z u p q=>?_⟩;cases j with
    |zero=>simp at p q;subst p q;have:=dy e1 hr;rw[e3] at this;exact this
    |succ j=>simp at p q;exact xh j z u p (by simpa using q)
   cases h2
  cases h1
theorem afj{f:FuncId}{x y:Array Operand}{x' y':List aK}{cs ds:List C}(ho:o.op=.makeFunc (.func f) x y)(hx:lU x.toList=some x')(hy:lU y.toList=some y')
  (hc:qW aj x'=some cs) (hd:qW aj y'=some ds):eB P w0 a.eval o m (.one (.hfn f cs ds)) []:=by
 have h1:=UB (aq:=aq) (hr:=hr) hx hc;have h2:=UB (aq:=aq) (hr:=hr) hy hd;refine .calm (x:=.func (.func f) (x.map a.eval) (y.map a.eval)) aq (by simp[execOp,ho,Instr.makeFunc]) (aY.one.2 (.hfn _ _ ?_ ?_ ?_ ?_))
 .have:=h1.1;simpa using this
 .have:=h2.1;simpa using this
 .intro j z u p q;exact h1.2 j z u p (by rw[<- Array.toList_map,Array.getElem?_toList];exact q)
 intro j z u p q;exact h2.2 j z u p (by rw[<- Array.toList_map,Array.getElem?_toList];exact q)
theorem afa{x:Operand}{i:Nat}{x':aK}{vs:List V}{v:V}(ho:o.op=.extract x i)(hx:bp x=some x')(he:ev aj x'=.tup vs)(hv:vs[i]?=some v):eB P w0 a.eval o m v []:=by
 have h1:=dy hx hr;rw[he] at h1;obtain⟨arr,e,hl,hc⟩:=h1;have au:i<arr.size:=by rw[hl];exact(bn.1 hv).1
 exact .calm (x:=arr[i]) aq (by simp[execOp,ho,e,Instr.extract,au]) (.of1 (hc i v _ hv (by simp[au])))
theorem TQ{x:V}{v:Value}{n:Nat}(h:tE x=some n)(hv:aY m x v):∃ad cap,v=.slice ad n cap/\n<=cap/\cap<=maxLen:=by
 have _u0:=aq;have _u1:=hr;unfold tE at h;split at h
 .cases h;exact⟨none,0,Ie hv,bo _,bc _⟩
 .cases h;obtain⟨hp⟩:bG m _ v:=hv;rename_i es;generalize fh:(PV.sl es)=pv at hp;cases hp<;>cases fh
  .exact⟨_,_,rfl,bc _,by assumption⟩
  exact⟨_,_,rfl,by assumption,by assumption⟩
 .cases h;have hc:bG m _ v:=hv;cases hc with
  |hsl ad cap hg hl hm h=>exact⟨_,_,rfl,hl,hm⟩
 cases h
theorem afe{c:Call}{x:Operand}{x':aK}{t e:TypeId}{n:Nat}(ho:o.op=.call c)(hc:c.callee=.builtin .len)(has:c.args= #[x])(gJ:c.argTypes[0]?=some t)(ht:P.underlying t=some (.slice e))
  (hx:bp x=some x') (hn:tE (ev aj x')=some n):eB P w0 a.eval o m (.one (.p (.int .i64 n))) []:=by
 obtain⟨ad,cap,h1,_,_⟩:=TQ (aq:=aq) (hr:=hr) hn (dy hx hr);refine .calm aq ?_ (j6 (.int _ _));simp[execOp,ho,resolve,hc,has,invoke,builtin,Builtin.len_,gJ,h1,run_underlying ht,goInt]
theorem afs{c:Call}{x:Operand}{x':aK}{t:TypeId}{s:ByteArray}(ho:o.op=.call c)(hc:c.callee=.builtin .len)(has:c.args= #[x])(gJ:c.argTypes[0]?=some t)(ht:P.underlying t=some .string)
  (hx:bp x=some x') (hn:ev aj x'=.one (.p (.str s))):eB P w0 a.eval o m (.one (.p (.int .i64 s.size))) []:=by
 have h1:=dy hx hr;rw[hn] at h1;refine .calm aq ?_ (j6 (.int _ _));simp[execOp,ho,resolve,hc,has,invoke,builtin,Builtin.len_,gJ,Gb h1,run_underlying ht,goInt]
theorem afh{c:Call}{x y:Operand}{x' y':aK}{k k':IntKind}{p q:Int}(ho:o.op=.call c)(hc:c.callee=.builtin .max)(has:c.args= #[x,y])
  (hx:bp x=some x') (hy:bp y=some y') (h1:ev aj x'=.one (.p (.int k p))) (h2:ev aj y'=.one (.p (.int k' q))):eB P w0 a.eval o m (.one (.p (.int k (if q>p then q else p)))) []:=by
 have g1:=dy hx hr;have g2:=dy hy hr;rw[h1] at g1;rw[h2] at g2;refine .calm aq ?_ (j6 (.int _ _));simp[execOp,ho,resolve,hc,has,invoke,builtin,Builtin.max_,Builtin.max2,xm g1,xm g2]
theorem afi{c:Call}{x y:Operand}{x' y':aK}{k k':IntKind}{p q:Int}(ho:o.op=.call c)(hc:c.callee=.builtin .min)(has:c.args= #[x,y])
  (hx:bp x=some x') (hy:bp y=some y') (h1:ev aj x'=.one (.p (.int k p))) (h2:ev aj y'=.one (.p (.int k' q))):eB P w0 a.eval o m (.one (.p (.int k (if q<p then q else p)))) []:=by
 have g1:=dy hx hr;have g2:=dy hy hr;rw[h1] at g1;rw[h2] at g2;refine .calm aq ?_ (j6 (.int _ _));simp[execOp,ho,resolve,hc,has,invoke,builtin,Builtin.min_,Builtin.min2,xm g1,xm g2]
end
end Go.Abs
namespace Go.Abs
variable {P:Program} {w0:World}
section
variable{sz:Nat}
theorem Xh:∀(u:List dH) (blk:aw) (id:Nat),(app u blk id=blk id/\ ∀e∈u,e.1≠id)\/ ∃e∈u,e.1=id/\app u blk id=e.2:=by
 intro u
 induction u with
 |nil=>intro blk id;exact .inl ⟨rfl,fun e h=>by simp at h⟩
 |cons x r ih=>
  intro blk id;obtain⟨i,o⟩:=x;simp only[app];rcases ih (ca blk i o) id with ⟨h1,h2⟩|⟨e,he,h1,h2⟩
  .by_cases hi:id=i
   .exact .inr ⟨(i,o),af,hi.symm,by rw[h1];simp[aP,hi]⟩
   refine .inl ⟨by rw[h1];simp[aP,hi],fun e he=>?_⟩;rcases dU.1 he with rfl|he
   .exact fun h=>hi h.symm
   exact h2 e he
  exact .inr ⟨e,by simp[he],h1,h2⟩
theorem BX{α β γ:Type}{f:α->Option (β×List Nat)}{R:α->γ->Prop}{T:β->γ->Prop}{gA:List Nat->Prop}(FB:∀a b,gA (a++b)->gA a/\gA b)
  (hf:∀a b r v,f a=some (b,r)->R a v->gA r->T b v):∀ {xs:List α} {ys:List β} {r:List Nat} {vs:List γ},collect f xs=some (ys,r)->gA r->
  (vs.length=xs.length/\ ∀(j:Nat) (x:α) (u:γ),xs[j]?=some x->vs[j]?=some u->R x u)->(vs.length=ys.length/\ ∀(j:Nat) (x:β) (u:γ),ys[j]?=some x->vs[j]?=some u->T x u):=by
 intro xs
 induction xs with
 |nil=>intro ys r vs h _ hr;simp[collect] at h;obtain⟨rfl,rfl⟩:=h;exact⟨hr.1,fun j x u a=>by simp at a⟩
 |cons x t ih=>
  intro ys r vs h hg hr;simp only[collect] at h;split at h
  .rename_i b p bs q e1 e2;cases h;obtain⟨g1,g2⟩:=FB _ _ hg;cases vs with
   |nil=>simp at hr
   |cons v us=>
    obtain⟨hl,hh⟩:=ih (vs:=us) e2 g2 ⟨by simpa using hr.1,fun j x u a b=>hr.2 (j+1) x u (by simpa using a) (by simpa using b)⟩;refine⟨by simp[hl],fun j z u a b=>?_⟩;cases j with
    |zero=>simp at a b;subst a b;exact hf _ _ _ _ e1 (hr.2 0 x v rfl rfl) g1
    |succ j=>simp at a b;exact hh j z u a b
  cases h
def lT(m:Mem)(own:Nat->Prop)(r:List Nat):Prop:=(∀b,own b->m.own b)/\ ∀id∈r,¬own (m.σ id)
theorem lT.app{m:Mem}{own:Nat->Prop}{a b:List Nat}(h:lT m own (a++b)):lT m own a/\lT m own b:=
 ⟨⟨h.1,fun id hi=>h.2 id (by simp[hi])⟩,⟨h.1,fun id hi=>h.2 id (by simp[hi])⟩⟩
theorem bh.less{w:World}{own uL:Nat->Prop}(h:∀b,uL b->own b){x:PV}{v:Value}(hr:bh w own x v):bh w uL x v:=hr.mono fun c _ hn=>⟨rfl,fun ho=>hn (h c ho)⟩
theorem bQ.less{w:World}{own uL:Nat->Prop}(h:∀b,uL b->own b){x:List PV}{v:List Value}(hr:bQ w own x v):bQ w uL x v:=⟨hr.1,fun j x u a b=>(hr.2 j x u a b).less h⟩
theorem T6{α:Type}{xs:List α}{R:α->Value->Prop}{vs:List Value}(h:Pw R xs vs):∃f:Nat->Value,∀(j:Nat) (x:α),xs[j]?=some x->vs[j]?=some (f j)/\R x (f j):=by
 refine⟨fun j=>vs.getD j undef,fun j x hx=>?_⟩;have au:j<vs.length:=by rw[h.1];exact(bn.1 hx).1
 have:vs[j]?=some (vs.getD j undef):=by simp[List.getD,ry au]
 exact⟨this,h.2 j x _ hx this⟩
theorem Nf{w:World}{own:Nat->Prop}{b o:Nat}{cur:Array Value}{ty:TypeId}{fz:Nat×Nat}{ps:List PV}(hh:w.heap[b]?=some (.cells cur ty fz))(hp:Pw (bh w own) ps (cur.toList.drop o |>.take ps.length))
  (ho:ps≠[]-> ¬own b):bh w own (.box ps) (.pointer (some ⟨b,o,none⟩)):=by
 obtain⟨f,hf⟩:=T6 hp;refine .box b o f ho (fun j x hx=>?_) fun j x hx=>(hf j x hx).2;have h1:=(hf j x hx).1;rw[lQ] at h1;split at h1
 .rw[BU hh];simpa using h1
 cases h1
theorem T7{w:World}{own:Nat->Prop}{b o cap sz:Nat}{cur:Array Value}{ty:TypeId}{fz:Nat×Nat}{es:List (List PV)}(hh:w.heap[b]?=some (.cells cur ty fz))(hsz:∀e∈es,e.length=sz)
  (hl:es.length<=cap) (hm:cap<=maxLen) (hp:Pw (bh w own) es.flatten ((cur.toList.drop o).take (es.length*sz))) (ho:¬own b):bh w own (.sl es) (.slice (some ⟨b,o,none⟩) es.length cap):=by
 obtain⟨f,hf⟩:=T6 hp;refine .sl b o cap sz f (fun _=>ho) hl hm hsz (fun j x hx=>?_) fun j x hx=>(hf j x hx).2;have h1:=(hf j x hx).1;rw[lQ] at h1;split at h1
 .rw[BU hh];simpa using h1
 cases h1
theorem HD{α:Type}:∀ {es:List (List α)},(∀e∈es,e.length=sz)->∀(n:Nat),(es.drop n).flatten=es.flatten.drop (n*sz):=by
 intro es
 induction es with
 |nil=>intro _ n;simp
 |cons e r ih=>
  intro h n;cases n with
  |zero=>simp
  |succ n=>simp only[List.drop_succ_cons,kb];have h1:=h e af;rw[ih (fun x hx=>h x (by simp[hx])),List.drop_append,List.drop_of_length_le (by rw[h1,fH];omega:e.length<=(n+1)*sz),xQ];congr 1;rw[h1,fH];omega
theorem B8{α:Type}:∀ {es:List (List α)},(∀e∈es,e.length=sz)->∀(n:Nat),(es.take n).flatten=es.flatten.take (n*sz):=by
 intro es
 induction es with
 |nil=>intro _ n;simp
 |cons e r ih=>
  intro h n;cases n with
  |zero=>simp
  |succ n=>simp only[List.take_succ_cons,kb];have h1:=h e af;rw[ih (fun x hx=>h x (by simp[hx])),List.take_append,fS (by rw[h1,fH];omega:e.length<=(n+1)*sz)];congr 1;congr 1;rw[h1,fH];omega
theorem Ba{α:Type}{R:α->Value->Prop}{off len:Nat}{es:List (List α)}{cur:List Value}(hsz:∀e∈es,e.length=sz)(h:Pw R es.flatten (cur.take (es.length*sz)))(hfit:off+len<=es.length):
  Pw R ((es.drop off).take len).flatten ((cur.drop (off*sz)).take (((es.drop off).take len).length*sz)):=by
 have F5:∀e∈es.drop off,e.length=sz:=fun e he=>hsz e (sI he);have hlen:((es.drop off).take len).length=len:=by simp;omega
 rw[hlen,B8 F5,HD hsz];have h1:=(h.drop (off*sz)).take (len*sz);have h2:((cur.take (es.length*sz)).drop (off*sz)).take (len*sz)=(cur.drop (off*sz)).take (len*sz):=by
  rw[List.drop_take,List.take_take];congr 1;have:off*sz+len*sz<=es.length*sz:=by rw[<- fH];exact jJ _ hfit
  omega
 rw[h2] at h1;exact h1
theorem NK{α:Type}{R:α->Value->Prop}:∀ {ps:List (List α)} {cur:List Value},(∀e∈ps,e.length=sz)->ps.length*sz<=cur.length->
  (∀(j:Nat) (e:List α),ps[j]?=some e->Pw R e ((cur.drop (j*sz)).take sz))->Pw R ps.flatten (cur.take (ps.length*sz)):=by
 intro ps
 induction ps with
 |nil=>intro cur _ _ _;exact⟨af,fun j x u a=>by simp at a⟩
 |cons e r ih=>
  intro cur h hl hp;simp only[dN,fH,Nat.one_mul] at hl;have h0:=hp 0 e rfl;rw[uV,List.drop_zero] at h0;have h1:=ih (cur:=cur.drop sz) (fun x hx=>h x (by simp[hx])) (by simp;omega) fun j x hx=>by have:=hp (j+1) x (by simpa using hx);rw[fH,Nat.one_mul] at this;rw[List.drop_drop,Nat.add_comm sz];exact this
  have h2:=h0.append h1;have h3:cur.take sz++(cur.drop sz).take (r.length*sz)=cur.take ((e::r).length*sz):=by rw[dN,fH,Nat.one_mul,Nat.add_comm,List.take_add]
  rw[h3] at h2;exact h2
theorem L9{α:Type}{R:α->Value->Prop}{i:Nat}{es:List (List α)}{e:List α}{cur:List Value}(hsz:∀e∈es,e.length=sz)(h:Pw R es.flatten (cur.take (es.length*sz)))(he:es[i]?=some e):
  Pw R e ((cur.drop (i*sz)).take sz):=by
 have hi:i<es.length:=(bn.1 he).1;have h1:=Ba (off:=i) (len:=1) hsz h aa;have h0:((es.drop i).take 1)=[e]:=by rw[List.drop_eq_getElem_cons hi];have:=(bn.1 he).2;simp[this]
 rw[h0] at h1
 simpa using h1
theorem JR{α β:Type}{f:α->Option (β×List Nat)}:∀ {xs:List α} {ys:List β} {r:List Nat},collect f xs=some (ys,r)->ys.length=xs.length:=by
 intro xs
 induction xs with
 |nil=>intro ys r h;simp[collect] at h;rw[h.1];rfl
 |cons x t ih=>
  intro ys r h;simp only[collect] at h;split at h
  .rename_i b p bs q e1 e2;cases h;simp[ih e2]
  cases h
theorem JQ{α β:Type}{f:α->Option (β×List Nat)}:∀ {xs:List α} {ys:List β} {r:List Nat},collect f xs=some (ys,r)->∀ {j:Nat} {y:β},ys[j]?=some y->∃x q,xs[j]?=some x/\f x=some (y,q)/\ ∀i∈q,i∈r:=by
 intro xs
 induction xs with
 |nil=>intro ys r h j y hy;simp[collect] at h;rw[h.1] at hy;simp at hy
 |cons x t ih=>
  intro ys r h j y hy;simp only[collect] at h;split at h
  .rename_i b p bs q e1 e2;cases h;cases j with
   |zero=>simp at hy;subst hy;exact⟨x,p,rfl,e1,fun i hi=>by simp[hi]⟩
   |succ j=>simp at hy;obtain⟨x',q',h1,h2,h3⟩:=ih e2 hy;exact⟨x',q',by simpa using h1,h2,fun i hi=>by simp[h3 i hi]⟩
  cases h
theorem Dq{m:Mem}(aq:Ok w0 m){own:Nat->Prop}:∀(n:Nat) {c:C} {x:PV} {r:List Nat} {v:Value},snap m.blk n c=some (x,r)->bG m c v->lT m own r->bh m.w own x v:=by
 intro n
 induction n with
 |zero=>intro c x r v h;simp[snap] at h
 |succ n ih=>
  intro c x r v h hr hs;have HM:∀ {cs:List C} {ps:List PV} {q:List Nat} {vs:List Value},collect (snap m.blk n) cs=some (ps,q)->lT m own q->Pw (bG m) cs vs->Pw (bh m.w own) ps vs:=fun h1 h2 h3=>BX (R:=bG m) (T:=bh m.w own) (gA:=lT m own) (fun a b h=>h.app) (fun a b r v e1 e2 e3=>ih e1 e2 e3) h1 h2 h3
  have HU:∀ {ps:List PV} {vs:List Value},bQ m.w m.own ps vs->Pw (bh m.w own) ps vs:=fun h=>bQ.pw.1 (h.less hs.1);unfold snap at h;cases c with
  |p y=>simp at h;obtain⟨rfl,rfl⟩:=h;obtain⟨hp⟩:=hr;exact hp.norm.less hs.1
  |aZ id g off=>
   cases hr with
   |aZ a hg ha=>
    simp only at h;split at h
    .rename_i g' cs hb;split at h
     .rename_i gK;split at h
      .rename_i ps q hq;cases h;have aS:(m.blk id).2=some (.var cs):=by rw[hb]
       have ha:=ha (by rw[hb];exact gK) (by rw[aS];rfl);subst ha;obtain⟨cur,ty,hh,hc⟩:=aq.obj id _ aS;have hp:=HM hq ⟨hs.1,fun i hi=>hs.2 i (by simp[hi])⟩ (ch.pw.1 hc);refine Nf hh ?_ fun _=>hs.2 id af;have h1:=hp.drop off;have h2:(cur.toList.drop off).take (ps.drop off).length=cur.toList.drop off:=fS (by have:=h1.1;omega);rw[h2];exact h1
      cases h
     cases h
    .rename_i g' ps hb;split at h
     .rename_i gK;cases h;have aS:(m.blk id).2=some (.fvar ps):=by rw[hb]
      have ha:=ha (by rw[hb];exact gK) (by rw[aS];rfl);subst ha;obtain⟨cur,ty,fz,hh,hc,_⟩:=aq.obj id _ aS;refine Nf hh ?_ fun _=>hs.2 id af;have h1:=(HU hc).drop off;have h2:(cur.toList.drop off).take (ps.drop off).length=cur.toList.drop off:=fS (by have:=h1.1;omega);rw[h2];exact h1
     cases h
    cases h
  |cJ id g i off=>
   cases hr with
   |cJ a hg ha=>
    have key:∀(ty sz:Nat) (es:List (List PV)) (e:List PV) (cur:Array Value) (fz:Nat×Nat),m.w.heap[m.σ id]?=some (.cells cur ty fz)->(∀e∈es,e.length=sz)->es.length*sz<=cur.size->
      bQ m.w m.own es.flatten (cur.toList.take (es.length*sz))->es[i]?=some e->a=⟨m.σ id,i*sz+off,none⟩-> ¬own (m.σ id)->bh m.w own (.box (e.drop off)) (.pointer (some a)):=by
     intro ty sz es e cur fz hh hsz hlen cn he rW dB;subst rW;have cJ:=EP hsz he;have hi:i<es.length:=(bn.1 he).1;have kQ:(i+1)*sz<=es.length*sz:=jJ _ hi;have h1:=(Ba (off:=i) (len:=1) hsz (HU cn) aa).drop off;have h0:((es.drop i).take 1)=[e]:=by rw[List.drop_eq_getElem_cons hi];have:=(bn.1 he).2;simp[this]
     rw[h0] at h1;simp only[kb,List.flatten_nil,qu,dN,fj,kZ,Nat.one_mul] at h1;refine Nf hh ?_ fun _=>dB;have h2:(cur.toList.drop (i*sz+off)).take (e.drop off).length=(((cur.toList.drop (i*sz)).take sz).drop off):=by rw[List.drop_take,List.drop_drop,Bs,cJ]
     rw[h2];exact h1
    simp only at h;split at h
    .rename_i g' ty sz es hb;split at h
     .rename_i gK;simp only[cH,ju] at h;obtain⟨e,he,rfl,rfl⟩:=h;have aS:(m.blk id).2=some (.arr ty sz es):=by rw[hb]
      obtain⟨cur,hh,jR,hsz,hl,hm,bZ,cn⟩:=aq.obj id _ aS;exact key ty sz es e cur _ hh hsz (by rw[bZ];exact jJ _ hl) cn he (ha sz (by rw[hb];exact gK) (by rw[hb];rfl)) (hs.2 id af)
     cases h
    .rename_i g' ty sz es hb;split at h
     .rename_i gK;simp only[cH,ju] at h;obtain⟨e,he,rfl,rfl⟩:=h;have aS:(m.blk id).2=some (.lr ty sz es):=by rw[hb]
      obtain⟨cur,fz,hh,jR,hsz,hl,hm,bZ,cn,_⟩:=aq.obj id _ aS;exact key ty sz es e cur _ hh hsz (by rw[bZ];exact jJ _ hl) cn he (ha sz (by rw[hb];exact gK) (by rw[hb];rfl)) (hs.2 id af)
     cases h
    cases h
  |hsl id g z off len=>
   cases hr with
   |hsl a cap hg hl hm ha=>
    have key:∀(ty sz:Nat) (es:List (List PV)) (cur:Array Value) (fz:Nat×Nat),m.w.heap[m.σ id]?=some (.cells cur ty fz)->(∀e∈es,e.length=sz)->Pw (bh m.w own) es.flatten (cur.toList.take (es.length*sz))->
      off+len<=es.length->(off=0\/0<len->a=⟨m.σ id,off*sz,none⟩)-> ¬own (m.σ id)->bh m.w own (.sl ((es.drop off).take len)) (.slice (some a) len cap):=by
     intro ty sz es cur fz hh hsz cn hfit rW dB;by_cases hlen:len=0
     .subst hlen;simp only[List.take_zero];exact .sB _ _ (fun h=>by cases h) hm
     have:=rW (.inr aa);subst this;have hle:((es.drop off).take len).length=len:=by simp;omega
     have h1:=T7 (cap:=cap) (own:=own) (o:=off*sz) (es:=(es.drop off).take len) hh (sz:=sz) (fun e he=>hsz e (sI (sJ he))) aa hm (Ba hsz cn hfit) dB;rw[hle] at h1;exact h1
    simp only at h;split at h
    .rename_i g' ty sz es hb;split at h
     .rename_i hc;cases h;have aS:(m.blk id).2=some (.arr ty sz es):=by rw[hb]
      obtain⟨cur,hh,jR,hsz,vh,Aw,bZ,cn⟩:=aq.obj id _ aS;exact key ty sz es cur _ hh hsz (HU cn) hc.2 (by obtain⟨_,h2,_⟩:=ha sz (by rw[hb];exact hc.1) (by rw[hb];rfl);rename_i e1 _;exact e1▸h2) (hs.2 id af)
     cases h
    .rename_i g' ty sz es hb;split at h
     .rename_i hc;cases h;have aS:(m.blk id).2=some (.lr ty sz es):=by rw[hb]
      obtain⟨cur,fz,hh,jR,hsz,vh,Aw,bZ,cn,_⟩:=aq.obj id _ aS;exact key ty sz es cur _ hh hsz (HU cn) hc.2 (by obtain⟨_,h2,_⟩:=ha sz (by rw[hb];exact hc.1) (by rw[hb];rfl);exact h2) (hs.2 id af)
     cases h
    .rename_i g' ty sz es hb;split at h
     .rename_i hc;split at h
      .rename_i ps q hq;cases h;have aS:(m.blk id).2=some (.fO ty sz es):=by rw[hb]
       obtain⟨cur,hh,jR,hsz,vh,Aw,bZ,cn⟩:=aq.obj id _ aS;have MN:=Ba hsz (ch.pw.1 cn) hc.2;have F5:∀e∈(es.drop off).take len,e.length=sz:=fun e he=>hsz e (sI (sJ he));have hle:((es.drop off).take len).length=len:=by simp;omega
       have bq:ps.length=len:=by rw[JR hq,hle]
       have hcap:len*sz<=(cur.toList.drop (off*sz)).length:=by
        simp;have h1:off*sz+len*sz<=es.length*sz:=by rw[<- fH];exact jJ _ hc.2
        have h2:es.length*sz<=m.κ id*sz:=jJ _ vh;omega
       have nk:∀(j:Nat) (e:List PV),ps[j]?=some e->Pw (bh m.w own) e (((cur.toList.drop (off*sz)).drop (j*sz)).take sz):=by intro j e he;obtain⟨x,q',h1,h2,h3⟩:=JQ hq he;exact HM h2 ⟨hs.1,fun i hi=>hs.2 i (by simp[h3 i hi])⟩ (L9 F5 MN h1)
       have yQ:∀e∈ps,e.length=sz:=by
        intro e he;obtain⟨j,hj⟩:=iV he;have:=(nk j e hj).1;have pj:j<len:=by rw[<- bq];exact(bn.1 hj).1
        have h1:(j+1)*sz<=len*sz:=jJ _ pj;rw[fH] at h1;simp at this hcap;omega
       by_cases hlen:len=0
       .have:ps=[]:=List.eq_nil_of_length_eq_zero aa;subst this;subst hlen;exact .sB _ _ (fun h=>by cases h) hm
       obtain⟨_,h2,_⟩:=ha sz (by rw[hb];exact hc.1) (by rw[hb];rfl);rename_i e1 _;have rW:=h2 (.inr aa);subst rW;have o0:=T7 (cap:=cap) (own:=own) (o:=off*sz) hh yQ aa hm (NK yQ (by rw[bq];exact hcap) nk) (hs.2 id af);rw[bq] at o0;exact o0
      cases h
     cases h
    cases h
  |iS id g=>
   cases hr with
   |iS r' hg ha=>
    have key:∀(ag:Bool) (es:List (PV×List PV)) (ents:Array MapEntry) (clock:Nat),m.w.heap[m.σ id]?=some (.map ents clock)->ents.size=es.length->
      (∀(i:Nat) (q:PV) (v:List PV) (e:MapEntry),es[i]?=some (q,v)->ents[i]?=some e->bh m.w m.own q e.key/\ ∃g:Array Value,(ag=true->e.val=.agg g)/\(ag=false-> #[e.val]=g)/\bQ m.w m.own v g.toList)->
      ¬own (m.σ id)->bh m.w own (.mp ag es) (.map (some (m.σ id))):=by
     intro ag es ents clock hh hl hc dB;have hch:∃G:Nat->Array Value,∀(i:Nat) (q:PV) (v:List PV) (e:MapEntry),es[i]?=some (q,v)->ents[i]?=some e->(ag=true->e.val=.agg (G i))/\(ag=false-> #[e.val]=G i)/\bQ m.w m.own v (G i).toList:=by
      refine⟨fun i=>match ents[i]? with|some e=>(match e.val with| .agg g=>if ag then g else #[e.val]|v=> #[v])|none=> #[],fun i q v e h1 h2=>?_⟩;obtain⟨_,g,g1,g2,g3⟩:=hc i q v e h1 h2;simp only[h2];cases ag with
      |true=>have:=g1 rfl;simp[this];exact g3
      |false=>
       have:=g2 rfl;subst this;refine⟨(fun h=>by cases h),(fun _=>?_),?_⟩
       .cases e.val<;>rfl
       cases hv:e.val<;>simp only[hv] at g3<;>exact g3
     obtain⟨G,hG⟩:=hch;refine .mp (m.σ id) ents clock G dB hh hl (fun i q v e h1 h2=>((hc i q v e h1 h2).1).less hs.1) (fun i q v e h1 h2=>?_) fun i q v j x u h1 h2 h3=>?_
     .obtain⟨a1,a2,a3⟩:=hG i q v e h1 h2;exact⟨by have:=a3.1;simpa using this,a1,a2⟩
     have au:i<ents.size:=by rw[hl];exact(bn.1 h1).1
     obtain⟨a1,a2,a3⟩:=hG i q v _ h1 (Array.getElem?_eq_getElem au);exact(a3.2 j x u h2 (by rw[Array.getElem?_toList];exact h3)).less hs.1
    simp only at h;split at h
    .rename_i g' ag es hb;split at h
     .rename_i gK;cases h;have aS:(m.blk id).2=some (.map ag es):=by rw[hb]
      have ha:=ha (by rw[hb];exact gK) (by rw[aS];rfl);subst ha;obtain⟨ents,clock,hh,hl,hc⟩:=aq.obj id _ aS;exact key ag es ents clock hh hl hc (hs.2 id af)
     cases h
    .rename_i g' ag es hb;split at h
     .rename_i gK;cases h;have aS:(m.blk id).2=some (.fmap ag es):=by rw[hb]
      have ha:=ha (by rw[hb];exact gK) (by rw[aS];rfl);subst ha;obtain⟨ents,clock,hh,hl,hc,_⟩:=aq.obj id _ aS;exact key ag es ents clock hh hl hc (hs.2 id af)
     cases h
    cases h
  |hfn f a b=>
   cases hr with
   |hfn A B hA hB qL kC=>
    simp only at h;split at h
    .rename_i xa ra xb rb h1 h2;cases h;obtain⟨s1,s2⟩:=hs.app;have p1:=HM (vs:=A.toList) h1 s1 ⟨by simpa using hA,fun j x u p q=>qL j x u p (by rw[<- Array.getElem?_toList];exact q)⟩;have p2:=HM (vs:=B.toList) h2 s2 ⟨by simpa using hB,fun j x u p q=>kC j x u p (by rw[<- Array.getElem?_toList];exact q)⟩;exact .fn A B (by have:=p1.1;simpa using this) (by have:=p2.1;simpa using this) (fun j x u p q=>p1.2 j x u p (by rw[Array.getElem?_toList];exact q)) fun j x u p q=>p2.2 j x u p (by rw[Array.getElem?_toList];exact q)
    cases h
end
end Go.Abs
namespace Go.Abs
variable {P:Program} {w0:World}
theorem aai{blk:aw}{all:List Nat}:∀ {l:List Nat} {u:List dH},pZ blk all l=some u->
  (∀e∈u,e.1∈l/\ ∃x,sY blk all e.1=some x/\e∈x)/\ ∀id∈l,∃x,sY blk all id=some x/\ ∀e∈x,e∈u:=by
 intro l
 induction l with
 |nil=>intro u h;simp[pZ] at h;subst h;exact⟨fun e h=>by simp at h,fun id h=>by simp at h⟩
 |cons i r ih=>
  intro u h;simp only[pZ] at h;split at h
  .rename_i a b h1 h2;cases h;obtain⟨g1,g2⟩:=ih h2;have SX:∀e∈a,e.1=i:=by
    intro e he;unfold sY at h1;split at h1<;>first
     |(cases h1;simp at he;subst he;rfl)
     |(split at h1
       .split at h1
        .cases h1;simp at he;subst he;rfl
        cases h1
       cases h1)
     |(cases h1;simp at he)
     |cases h1
   refine⟨fun e he=>?_,fun id hid=>?_⟩
   .rcases fk.1 he with he|he
    .exact⟨by simp[SX e he],a,by rw[SX e he];exact h1,he⟩
    obtain⟨k1,k2⟩:=g1 e he;exact⟨by simp[k1],k2⟩
   rcases dU.1 hid with rfl|hid
   .exact⟨a,h1,fun e he=>by simp[he]⟩
   obtain⟨x,k1,k2⟩:=g2 id hid;exact⟨x,k1,fun e he=>by simp[k2 e he]⟩
  cases h
def Bx(blk:aw)(all:List Nat):Ob->Ob->Prop
 | .var cs,.fvar ps=>∃r,collect (snap blk dD) cs=some (ps,r)/\ ∀i∈r,i∈all
 | .arr ty sz es,.lr mQ cQ fB=>mQ=ty/\cQ=sz/\fB=es
 | .fO ty sz es,.lr mQ cQ ps=>mQ=ty/\cQ=sz/\ ∃r,collect (collect (snap blk dD)) es=some (ps,r)/\ ∀i∈r,i∈all
 | .map ag es,.fmap mU fB=>mU=ag/\fB=es
 |_,_=>False
theorem Bx.facts{blk:aw}{all:List Nat}{o o':Ob}(h:Bx blk all o o')(g:Nat):o.eH=true/\o'.eH=false/\iE (g,some o')=iE (g,some o):=by
 cases o<;>cases o'<;>simp only[Bx] at h<;>first
  |exact h.elim
  |exact⟨rfl,rfl,rfl⟩
  |exact⟨rfl,rfl,by simp[iE,h.2.1]⟩
theorem Sp{blk:aw}{all:List Nat}{id:Nat}{x:List dH}(h:sY blk all id=some x):
  (∃o,(blk id).2=some o/\o.eH=false/\x=[])\/ ∃o o',(blk id).2=some o/\Bx blk all o o'/\x=[(id,((blk id).1,some o'))]:=by
 unfold sY at h;split at h
 .rename_i g cs hb;split at h
  .rename_i ps r hc;split at h
   .rename_i dI;cases h;refine .inr ⟨.var cs,.fvar ps,by rw[hb],⟨r,hc,fun i hi=>?_⟩,by rw[hb]⟩;have:=im.1 dI i hi
    simpa using this
   cases h
  cases h
 .rename_i g ty sz es hb;cases h;exact .inr ⟨.arr ty sz es,.lr ty sz es,by rw[hb],⟨rfl,rfl,rfl⟩,by rw[hb]⟩
 .rename_i g ty sz es hb;split at h
  .rename_i ps r hc;split at h
   .rename_i dI;cases h;refine .inr ⟨.fO ty sz es,.lr ty sz ps,by rw[hb],⟨rfl,rfl,r,hc,fun i hi=>?_⟩,by rw[hb]⟩;have:=im.1 dI i hi
    simpa using this
   cases h
  cases h
 .rename_i g ag es hb;cases h;exact .inr ⟨.map ag es,.fmap ag es,by rw[hb],⟨rfl,rfl⟩,by rw[hb]⟩
 .cases h
 rename_i y n1 n2 n3 n4 n5;cases h;cases hb:blk id with
 |mk g o=>
  cases o with
  |none=>exact(n5 g hb).elim
  |some o=>
   refine .inl ⟨o,rfl,?_,rfl⟩;cases o with
   |var cs=>exact(n1 g cs hb).elim
   |arr ty sz es=>exact(n2 g ty sz es hb).elim
   |fO ty sz es=>exact(n3 g ty sz es hb).elim
   |map ag es=>exact(n4 g ag es hb).elim
   |_=>rfl
def Mem.with(m:Mem)(u:List dH):Mem:={m with blk:=app u m.blk}
theorem sZ{m:Mem}{ids:List Nat}{u:List dH}(h:oQ m.blk ids=some u)(id:Nat):
  ((m.with u).blk id=m.blk id/\(id∈ids->∃o,(m.blk id).2=some o/\o.eH=false))\/
  (id∈ids/\ ∃o o',(m.blk id).2=some o/\Bx m.blk ids o o'/\(m.with u).blk id=((m.blk id).1,some o')):=by
 obtain⟨h1,h2⟩:=aai h;rcases Xh u m.blk id with ⟨e1,e2⟩|⟨e,he,e1,e2⟩
 .refine .inl ⟨e1,fun hid=>?_⟩;obtain⟨x,hx,hxu⟩:=h2 id hid;rcases Sp hx with ⟨o,a,b,_⟩|⟨o,o',a,b,c⟩
  .exact⟨o,a,b⟩
  exact(e2 (id,(m.blk id).fst,some o') (hxu _ (by rw[c];simp)) rfl).elim
 obtain⟨k1,x,k2,k3⟩:=h1 e he;rw[e1] at k1 k2;rcases Sp k2 with ⟨o,a,b,c⟩|⟨o,o',a,b,c⟩
 .rw[c] at k3;simp at k3
 rw[c] at k3;simp at k3;refine .inr ⟨k1,o,o',a,b,?_⟩;simp only[Mem.with];rw[e2,k3]
theorem Mg{m:Mem}{ids:List Nat}{u:List dH}(h:oQ m.blk ids=some u){c:Nat}(hc:(m.with u).own c):m.own c:=by
 rcases hc with hc|⟨id,o,h1,h2,h3⟩
 .exact .inl hc
 rcases sZ h id with ⟨e,_⟩|⟨_,p,q,a,b,e⟩
 .rw[e] at h1;exact .inr ⟨id,o,h1,h2,h3⟩
 rw[e] at h1;cases h1;rw[(b.facts 0).2.1] at h2;cases h2
theorem Mh{m:Mem}(aq:Ok w0 m){ids:List Nat}{u:List dH}(h:oQ m.blk ids=some u):lT m (m.with u).own ids:=by
 refine⟨fun b hb=>Mg h hb,fun id hid hc=>?_⟩;rcases sZ h id with ⟨e,hn⟩|⟨_,o,o',a,b,e⟩
 .obtain⟨o,ho,hm⟩:=hn hid;exact(aq.obj id o ho).calm hm (Mg h hc)
 rcases hc with hc|⟨dL,q,h1,h2,h3⟩
 .exact(aq.eC id o a (b.facts 0).1).2 hc
 by_cases hi:dL=id
 .subst hi;rw[e] at h1;cases h1;rw[(b.facts 0).2.1] at h2;cases h2
 rcases sZ h dL with ⟨e',_⟩|⟨_,p',q',a',b',e'⟩
 .rw[e'] at h1;exact hi (aq.inj dL id q o h1 h2 a (b.facts 0).1 h3)
 rw[e'] at h1;cases h1;rw[(b'.facts 0).2.1] at h2;cases h2
theorem Mf{m:Mem}{ids:List Nat}{u:List dH}(h:oQ m.blk ids=some u):Ev m (m.with u) where
 os:=rfl
 tape:=rfl
 output:=rfl
 size:=bo _
 keep _ _ _:=rfl
 eH c _ hc:=by
  obtain⟨id,o,h1,h2,h3⟩:=hc;rcases sZ h id with ⟨e,_⟩|⟨_,p,q,a,b,e⟩
  .rw[e] at h1;exact⟨id,o,h1,h2,h3⟩
  rw[e] at h1;cases h1;rw[(b.facts 0).2.1] at h2;cases h2
 less c _ hn hc:=hn (Mg h hc)
 gen id:=by rcases sZ h id with ⟨e,_⟩|⟨_,p,q,a,b,e⟩<;>rw[e]<;>exact bo _
 ref id he hs:=by
  rcases sZ h id with ⟨e,_⟩|⟨_,p,q,a,b,e⟩
  .rw[e] at hs ⊢;exact⟨hs,rfl,rfl,rfl⟩
  rw[e] at hs ⊢;refine⟨by rw[a];rfl,rfl,rfl,?_⟩;have h1:m.blk id=((m.blk id).1,some p):=by rw[<- a]
  rw[(b.facts (m.blk id).1).2.2,<- h1]
theorem Sr{m:Mem}(aq:Ok w0 m){ids:List Nat}{u:List dH}(h:oQ m.blk ids=some u):Ok w0 (m.with u) where
 os:=aq.os
 tape:=aq.tape
 output:=aq.output
 size:=aq.size
 base:=aq.base
 obj id o ho:=by
  have ek:=Mf h;have kD:=Mh aq h;rcases sZ h id with ⟨e,_⟩|⟨hid,p,q,a,b,e⟩
  .rw[e] at ho;exact(aq.obj id o ho).ev ek.zero rfl rfl rfl
  rw[e] at ho;cases ho;have dB:=kD.2 id hid;have Th:∀r:List Nat,(∀i∈r,i∈ids)->lT m (m.with u).own r:=fun r hr=>⟨kD.1,fun i hi=>kD.2 i (hr i hi)⟩;have HW:=aq.obj id p a;cases p<;>cases o<;>simp only[Bx] at b<;>first
   |exact b.elim
   |skip
  .obtain⟨r,hc,hr⟩:=b;obtain⟨cur,ty,hh,bZ⟩:=HW;exact⟨cur,ty,(0,0),hh,bQ.pw.2 (BX (R:=bG m) (T:=bh m.w (m.with u).own) (gA:=lT m (m.with u).own) (fun a b h=>h.app) (fun a b r v e1 e2 e3=>Dq aq _ e1 e2 e3) hc (Th r hr) (ch.pw.1 bZ)),dB⟩
  .obtain⟨rfl,rfl,rfl⟩:=b;obtain⟨cur,hh,jR,hsz,hl,hm,bZ,cn⟩:=HW;exact⟨cur,(0,0),hh,jR,hsz,hl,hm,bZ,cn.less kD.1,dB⟩
  .obtain⟨rfl,rfl,r,hc,hr⟩:=b;obtain⟨cur,hh,jR,hsz,hl,hm,bZ,cn⟩:=HW;rename_i es _ sz ps;have bq:ps.length=es.length:=JR hc;have hcap:ps.length*sz<=cur.toList.length:=by
    have h2:es.length*sz<=m.κ id*sz:=jJ _ hl;simp;rw[bq];omega
   have nk:∀(j:Nat) (e:List PV),ps[j]?=some e->Pw (bh m.w (m.with u).own) e ((cur.toList.drop (j*sz)).take sz):=by intro j e he;obtain⟨x,q',h1,h2,h3⟩:=JQ hc he;exact BX (R:=bG m) (T:=bh m.w (m.with u).own) (gA:=lT m (m.with u).own) (fun a b h=>h.app) (fun a b r v e1 e2 e3=>Dq aq _ e1 e2 e3) h2 (Th q' fun i hi=>hr i (h3 i hi)) (L9 hsz (ch.pw.1 cn) h1)
   have yQ:∀e∈ps,e.length=sz:=by intro e he;obtain⟨j,hj⟩:=iV he;have:=(nk j e hj).1;have pj:j<ps.length:=(bn.1 hj).1;have h1:(j+1)*sz<=ps.length*sz:=jJ _ pj;rw[fH] at h1;simp at this hcap;omega
   exact⟨cur,(0,0),hh,jR,yQ,by rw[bq];exact hl,hm,bZ,bQ.pw.2 (NK yQ hcap nk),dB⟩
  obtain⟨rfl,rfl⟩:=b;obtain⟨ents,clock,hh,hl,hc⟩:=HW;exact⟨ents,clock,hh,hl,fun i q v e h1 h2=>let ⟨p,g,g1,g2,g3⟩:=hc i q v e h1 h2;⟨p.less kD.1,g,g1,g2,g3.less kD.1⟩,dB⟩
 eC id o ho hm:=by
  rcases sZ h id with ⟨e,_⟩|⟨_,p,q,a,b,e⟩
  .rw[e] at ho;exact aq.eC id o ho hm
  rw[e] at ho;cases ho;rw[(b.facts 0).2.1] at hm;cases hm
 frlt:=aq.frlt
 inj id dL o o' h1 m1 h2 m2 he:=by
  rcases sZ h id with ⟨e,_⟩|⟨_,p,q,a,b,e⟩
  .rcases sZ h dL with ⟨e',_⟩|⟨_,p',q',a',b',e'⟩
   .rw[e] at h1;rw[e'] at h2;exact aq.inj id dL o o' h1 m1 h2 m2 he
   rw[e'] at h2;cases h2;rw[(b'.facts 0).2.1] at m2;cases m2
  rw[e] at h1;cases h1;rw[(b.facts 0).2.1] at m1;cases m1
end Go.Abs
namespace Go.Abs
variable {P:Program} {w0:World}
section
variable{w':World}
def Mem.iI(m:Mem)(w':World)(s c k:Nat)(o:Ob):Mem:=(m.later w' (· =c)).install s c k o
section
variable {m:Mem} {w':World} {s c k:Nat} {o:Ob} (hg:ew m.w w') (fC:m.w.heap.size<=c) (qE:c<w'.heap.size)
theorem Ca(aq:Ok w0 m)(fC:m.w.heap.size<=c):(m.iI w' s c k o).fr=m.fr:=by
 funext x;simp only[Mem.iI,Mem.install,Mem.later];apply propext;constructor
 .rintro ⟨h|h,h2⟩
  .exact h
  exact(h2 h).elim
 intro h;exact⟨.inl h,fun e=>by have:=aq.frlt x h;omega⟩
include hg fC
theorem B9:Ev m (m.iI w' s c k o):=H0 (CM hg fun x hx=>by subst hx;exact fC) (.inr rfl) (.inl fC)
include qE
theorem Cb(aq:Ok w0 m)(ho:nK (m.iI w' s c k o) s o):Ok w0 (m.iI w' s c k o):=Ia (Ge aq hg fun x hx=>by subst hx;exact⟨fC,qE⟩) (.inr rfl) (mm aq.size fC) ho
end
theorem yo{m:Mem}{s c k:Nat}{o:Ob}:(m.iI w' s c k o).σ s=c:=by simp[Mem.iI,Mem.install,aP]
theorem lY{m:Mem}{s c k:Nat}{o:Ob}:(m.iI w' s c k o).κ s=k:=by simp[Mem.iI,Mem.install,aP]
theorem Mb{m:Mem}{s c k:Nat}{o:Ob}:(m.iI w' s c k o).blk=app [(s,((m.blk s).1+1,some o))] m.blk:=rfl
theorem Mc{m:Mem}{s c k:Nat}{o:Ob}:(m.iI w' s c k o).w=w':=rfl
theorem EJ{m:Mem}{s c cap ty sz:Nat}{es:List (List PV)}{n:Nat}(hn:n<=cap)(hm:cap<=maxLen):
  aY (m.iI w' s c cap (.arr ty sz es)) (.one (.hsl s ((m.blk s).1+1) sz 0 n)) (.slice (some ⟨c,0,none⟩) n cap):=by
 refine aY.one.2 (.hsl _ _ ?_ hn hm fun z h1 h2=>?_)
 .simp[Mem.iI,Mem.install,Mem.later,aP]
 have:iE ((m.iI w' s c cap (.arr ty sz es)).blk s)=some sz:=by simp[Mem.iI,Mem.install,aP,iE]
 rw[this] at h2;cases h2;refine⟨rfl,fun _=>?_,fun _=>lY.symm⟩;rw[yo,uV]
theorem aad{m:Mem}{s c cap ty sz:Nat}{es:List (List C)}{n:Nat}(hn:n<=cap)(hm:cap<=maxLen):
  aY (m.iI w' s c cap (.fO ty sz es)) (.one (.hsl s ((m.blk s).1+1) sz 0 n)) (.slice (some ⟨c,0,none⟩) n cap):=by
 refine aY.one.2 (.hsl _ _ ?_ hn hm fun z h1 h2=>?_)
 .simp[Mem.iI,Mem.install,Mem.later,aP]
 have:iE ((m.iI w' s c cap (.fO ty sz es)).blk s)=some sz:=by simp[Mem.iI,Mem.install,aP,iE]
 rw[this] at h2;cases h2;refine⟨rfl,fun _=>?_,fun _=>lY.symm⟩;rw[yo,uV]
theorem Hm{t e:TypeId}{sz bytes:Nat}{z:List PV}(h:u4 P t=some (e,sz,bytes,z)):
  ∃i v,P.underlying t=some (.slice e)/\P.info? e=some i/\i.size=sz/\i.bytes=bytes/\(0<sz/\0<bytes)/\i.zero=some v/\v.cells.size=sz/\z.length=sz/\ ∀w own,bQ w own z v.cells.toList:=by
 unfold u4 at h;split at h
 .rename_i e' ht;split at h
  .rename_i i z' hi hz;split at h
   .rename_i gM;cases h;obtain⟨v,i',h1,h2,h3,h4,h5⟩:=GU hz;rw[hi] at h1;cases h1;exact⟨i,v,ht,hi,rfl,rfl,gM,h2,h3,h4,h5⟩
   cases h
  cases h
 cases h
theorem acS{R:PV->Value->Prop}{z:List PV}{v:Array Value}{sz n:Nat}(hz:Pw R z v.toList)(hsz:v.size=sz)(gM:0<sz):
  Pw R (List.replicate n z).flatten ((madeCells v (n*sz)).toList.take (n*sz)):=by
 have kT:z.length=sz:=by have:=hz.1;simp at this;omega
 have dI:∀e∈List.replicate n z,e.length=sz:=fun e he=>by rw[Jm he];exact kT
 have hlen:(madeCells v (n*sz)).toList.length=n*sz:=by simp[size_madeCells]
 rw[fS aa];refine⟨by rw[hlen,B7 dI];simp,fun j x u p q=>?_⟩;have hj:j<n*sz:=by have:=(bn.1 q).1;omega
 have hdiv:j/sz<n:=by rw[Nat.div_lt_iff_lt_mul gM];exact hj
 have AL:j%sz<sz:=eJ _ gM;have he:(List.replicate n z)[j/sz]?=some z:=by simp[hdiv]
 have h1:=z7 dI he AL;rw[show j/sz*sz+j%sz=j by rw[Nat.mul_comm];exact Nat.div_add_mod j sz] at h1;rw[h1] at p;have h2:(madeCells v (n*sz)).toList[j]?=some v[j%sz]! :=by unfold madeCells;simp[hj,hsz]
 rw[h2] at q;cases q;refine hz.2 (j%sz) x _ p ?_;have:j%sz<v.size:=aa;simp[this]
section
variable {m:Mem} {aj:Env} {a:Act} {o:Oper} (aq:Ok w0 m) (hr:gi m aj a.tmps)
include aq hr
theorem afl{t e:TypeId}{l c:Operand}{l' c':aK}{s sz bytes n:Nat}{z:List PV}(ho:o.op=.makeSlice t l c)(he:u4 P t=some (e,sz,bytes,z))(hl:bp l=some l')(hc:bp c=some c')
  (hn:lh (ev aj l')=some n) (hm:lh (ev aj c')=some n) (jE:n*bytes<=room):
  eB P w0 a.eval o m (.one (.hsl s ((m.blk s).1+1) sz 0 n)) [(s,((m.blk s).1+1,some (.arr e sz (List.replicate n z))))]:=by
 obtain⟨i,v,ht,hi,hs,hb,⟨gM,Cj⟩,hz,mF,kT,cn⟩:=Hm he;obtain⟨k1,h1⟩:=ua hn (dy hl hr);obtain⟨k2,h2⟩:=ua hm (dy hc hr);unfold room at jE;have My:n<=maxLen:=by have:n<=n*bytes:=Jp _ Cj;simp only[maxLen];omega
 have aa0:(n:Int)<=9223372036854775807:=by simp[maxLen] at My;omega
 have wS:(i.bytes:Int)*(n:Int)<=281474976710656:=by
  have:((i.bytes*n:Nat):Int)<=281474976710656:=by rw[hb,Nat.mul_comm];omega
  rwa[Int.natCast_mul] at this
 have jQ:=run_make (P:=P) m.w t e i v ht hi hz k1 k2 n n aa (Int.le_refl _) wS aa0;simp only[oE,hs] at jQ
 let m':=m.iI (m.w.alloc (.cells (madeCells v.cells (n*sz)) e)) s m.w.heap.size n (.arr e sz (List.replicate n z))
 have ek:Ev m m':=B9 (ew.alloc _ _) (bo _);have uB:nK m' s (.arr e sz (List.replicate n z)):=by
  refine⟨_,by rw[yo];exact heap_alloc_new m.w _,gM,fun x hx=>?_,?_,?_,?_,?_⟩
  .rw[Jm hx];exact kT
  .rw[lY];simp
  .rw[lY];exact My
  .rw[lY,size_madeCells]
  rw[List.length_replicate];exact bQ.pw.2 (acS (bQ.pw.1 (cn _ _)) mF gM)
 refine⟨_,m',.inl ?_,Cb (ew.alloc _ _) (bo _) af aq uB,ek,Ca aq (bo _),rfl,EJ (bo _) My⟩;simp[execOp,ho,h1,h2,jQ];rfl
theorem Pm{lo hi:Option Operand}{xt ux:Option aK}{n cap l h:Nat}{b:Bool}(eY:sT lo=some xt)(yI:sT hi=some ux)(hl:mV aj 0 xt=some l)(hh:mV aj n ux=some h)
  (yL:l<=h) (hcap:h<=cap):(Instr.sliceBounds b n cap (lo.map a.eval) (hi.map a.eval) none).run P m.w=.ok (l,h,cap) m.w:=by
 have _u0:=aq;have An:(match hi.map a.eval with|some v=>∃k,v=Value.int k (h:Int)|none=>h=n):=by
  cases hi with
  |none=>simp[sT] at yI;subst yI;simp[mV] at hh;simpa using hh.symm
  |some x=>simp only[sT,cH] at yI;obtain⟨y,hy,rfl⟩:=yI;exact ua hh (dy hy hr)
 have jY:(match lo.map a.eval with|some v=>∃k,v=Value.int k (l:Int)|none=>l=0):=by
  cases lo with
  |none=>simp[sT] at eY;subst eY;simp[mV] at hl;simpa using hl.symm
  |some x=>simp only[sT,cH] at eY;obtain⟨y,hy,rfl⟩:=eY;exact ua hl (dy hy hr)
 generalize lo.map a.eval=LO at jY;generalize hi.map a.eval=HI at An;have fC:(h:Int)<=(cap:Int):=aa;have qE:(l:Int)<=(h:Int):=aa;cases LO with
 |none=>
  simp only at jY;subst jY;cases HI with
  |none=>simp only at An;subst An;simp[Instr.sliceBounds]
  |some v=>obtain⟨k,rfl⟩:=An;simp[Instr.sliceBounds,Instr.sliceBound,asIntOf,hcap]
 |some u=>
  obtain⟨k,rfl⟩:=jY;cases HI with
  |none=>simp only at An;subst An;simp[Instr.sliceBounds,Instr.sliceBound,asIntOf,yL]
  |some v=>obtain⟨k',rfl⟩:=An;simp[Instr.sliceBounds,Instr.sliceBound,asIntOf,hcap,yL]
theorem afu{t:TypeId}{x:Operand}{lo hi:Option Operand}{x':aK}{xt ux:Option aK}{s:ByteArray}{l h:Nat}(ho:o.op=.slice t x lo hi none)(ht:P.underlying t=some .string)
  (hx:bp x=some x') (eY:sT lo=some xt) (yI:sT hi=some ux) (hs:ev aj x'=.one (.p (.str s))) (hl:mV aj 0 xt=some l) (hh:mV aj s.size ux=some h) (yL:l<=h) (hcap:h<=s.size):
  eB P w0 a.eval o m (.one (.p (.str (s.extract l h)))) []:=by
 have h1:=dy hx hr;rw[hs] at h1;have hb:=Pm (P:=P) (w0:=w0) (aq:=aq) (hr:=hr) (b:=false) eY yI hl hh yL hcap;refine .calm aq ?_ (j6 (.str _));simp[execOp,ho,Gb h1,Instr.sliceAt,Instr.slice,run_underlying ht,hb]
theorem aft{t e:TypeId}{x:Operand}{lo hi:Option Operand}{x':aK}{xt ux:Option aK}{sz n l h:Nat}{v:V}(ho:o.op=.slice t x lo hi none)(ht:P.underlying t=some (.slice e))(hsz:sA P e=some sz)
  (hx:bp x=some x') (eY:sT lo=some xt) (yI:sT hi=some ux) (hn:tE (ev aj x')=some n) (hl:mV aj 0 xt=some l) (hh:mV aj n ux=some h)
  (hv:xA (ev aj x') sz l h=.done v [] []):eB P w0 a.eval o m v []:=by
 have h1:=dy hx hr;unfold xA at hv;split at hv
 .cases hv
 rename_i yL;have yL:l<=h:=by simpa using yL
 have run:∀(ad:Option Addr) (cap:Nat),a.eval x=.slice ad n cap->h<=cap->(execOp a.eval o).run P m.w=.ok (.value (.slice (if cap=l then ad else ad.map (·.add (l*sz))) (h-l) (cap-l))) m.w:=by intro ad cap jA hcap;have hb:=Pm (P:=P) (w0:=w0) (aq:=aq) (hr:=hr) (b:=true) eY yI hl hh yL hcap;simp[execOp,ho,jA,Instr.sliceAt,Instr.slice,run_underlying ht,hb,IZ hsz]
 obtain⟨ad0,cap0,hsl,hncap,lC⟩:=TQ (aq:=aq) (hr:=hr) hn h1;split at hv
 .rename_i he;split at hv
  .rename_i h0;cases hv;rw[he] at h1;have:=Ie h1;subst h0;have mA:l=0:=aa;subst mA;rw[this] at hsl;cases hsl;refine .calm aq (run none 0 this (bo _)) ?_;simp;exact j6 .nils
  cases hv
 .rename_i es he;split at hv
  .rename_i hc;cases hv;rw[he] at h1 hn;simp[tE] at hn;subst hn;obtain⟨hp⟩:bG m _ (a.eval x):=h1;generalize hb:a.eval x=b at hp;generalize fh:(PV.sl es)=pv at hp;cases hp<;>cases fh
   .rename_i ad cap Cw hm;simp at hc;have hh0:h=0:=aa;subst hh0;have mA:l=0:=aa;subst mA;refine .calm aq (run ad cap hb (bc _)) (j6 ?_);simp only[List.drop_nil,List.take_nil,Nat.sub_zero];refine .sB _ _ (fun h=>?_) hm;split at h
    .exact Cw h
    cases ad with
    |none=>exact Cw rfl
    |some ad=>simp at h
   rename_i b' o' cap cQ f hm je vh mD tm xh;refine .calm aq (run _ cap hb aa) (j6 ?_);by_cases au:l=h
   .subst au;simp only[Nat.sub_self,List.take_zero];refine .sB _ _ (fun h=>?_) aa;split at h<;>simp at h
   have hlen:((es.drop l).take (h-l)).length=h-l:=by simp;omega
   have ig:es≠[]:=fun e=>by subst e;simp at hc;omega
   have MP:cQ=sz:=by obtain⟨e0,r0,rfl⟩:=List.exists_cons_of_ne_nil ig;have g1:=mD e0 af;have g2:=hc.2;simp[fR] at g2;omega
   subst MP;rw[if_neg aa];simp only[kM,Addr.add_lit];have eZ:=bh.sl (w:=m.w) (own:=m.own) (es:=(es.drop l).take (h-l)) b' (o'+l*cQ) (cap-l) cQ (fun j=>f (l*cQ+j)) (fun aR=>je fun e0=>aR ?_) aa aa (fun e he=>mD e (sI (sJ he))) ?_ ?_
   .rw[hlen] at eZ;exact eZ
   .apply List.eq_nil_of_length_eq_zero;rw[B8 (fun e he=>mD e (sI he)),HD mD,e0];simp
   .intro j z hz;rw[B8 (fun e he=>mD e (sI he)),HD mD,lQ] at hz;split at hz
    .rw[DF] at hz;rw[Bt];exact tm _ z hz
    cases hz
   intro j z hz;rw[B8 (fun e he=>mD e (sI he)),HD mD,lQ] at hz;split at hz
   .rw[DF] at hz;exact xh _ z hz
   cases hz
  cases hv
 .rename_i id g z off len he;split at hv
  .rename_i hc;cases hv;rw[he] at h1 hn;simp[tE] at hn;subst hn;have fD:bG m _ (a.eval x):=h1;generalize hb:a.eval x=b at fD;cases fD with
   |hsl ad cap hg As hm FD=>
    refine .calm aq (run _ cap hb aa) ?_;have MO:∃ad',(if cap=l then some ad else (some ad).map (·.add (l*sz)))=some ad'/\(cap≠l->ad'=ad.add (l*sz))/\(l=0->ad'=ad):=by
     by_cases ef:cap=l
     .exact⟨ad,by simp[ef],fun h=>(h ef).elim,fun _=>rfl⟩
     exact⟨ad.add (l*sz),by simp[ef],fun _=>rfl,fun h=>by subst h;simp[Addr.add]⟩
    obtain⟨ad',e1,e2,e3⟩:=MO;rw[e1];refine aY.one.2 (.hsl _ _ hg aa aa fun s g1 g2=>?_);obtain⟨f1,f2,f3⟩:=FD s g1 g2;refine⟨f1,fun vm=>?_,fun h0=>?_⟩
    .by_cases mA:l=0
     .subst mA;rw[e3 rfl,vP];refine f2 ?_;rcases vm with h|h
      .exact .inl aa
      exact .inr aa
     have:0<h-l:=by rcases vm with h|h<;>omega
     rw[e2 aa,f2 (.inr aa),Addr.add_lit,f1,hc.2,fH]
    have:off=0/\l=0:=aa;rw[this.2,Nat.sub_zero];exact f3 this.1
  cases hv
 cases hv
end
end
end Go.Abs
namespace Go.Abs
variable {P:Program} {w0:World}
theorem aab(off:Nat):∀(vs:List Value) (i:Nat) (cells:Array Value),off+i+vs.length<=cells.size->
  ((vs.zipIdx i).foldl (fun cs (x:Value×Nat)=>cs.setIfInBounds (off+x.2) x.1) cells).toList=dM cells.toList (off+i) vs:=by
 intro vs
 induction vs with
 |nil=>intro i cells _;simp[dM]
 |cons v r ih=>
  intro i cells h;simp only[dN] at h;simp only[List.zipIdx_cons,List.foldl_cons];rw[ih (i+1) _ (by simp;omega)];unfold dM;rw[Array.toList_setIfInBounds];have au:off+i<cells.toList.length:=by simp;omega
  have e1:(cells.toList.set (off+i) v).take (off+(i+1))=cells.toList.take (off+i)++[v]:=by rw[show off+(i+1)=(off+i)+1 by omega,List.take_succ_eq_append_getElem (by simpa using au),List.take_set,List.set_eq_of_length_le (by simp;omega)];simp
  have e2:(cells.toList.set (off+i) v).drop (off+(i+1)+r.length)=cells.toList.drop (off+(i+1)+r.length):=by rw[List.drop_set_of_lt aa]
  rw[e1,e2];simp only[dN,DD,List.singleton_append];congr 3;omega
theorem R9{place:Nat->Option (Nat×Nat)}{i off n:Nat}{v:Value}{rest:List (Nat×Value)}{cells:Array Value}(hp:place i=some (off,n))(hv:v.cells.size=n)(hfit:off+n<=cells.size):
  ∃iH,Instr.fill place cells ((i,v)::rest)=Instr.fill place iH rest/\iH.toList=dM cells.toList off v.cells.toList:=by
 refine⟨v.cells.zipIdx.foldl (fun cs (x:Value×Nat)=>cs.setIfInBounds (off+x.2) x.1) cells,?_,?_⟩
 .simp only[Instr.fill,hp];rw[if_neg (by simp[hv];omega)]
 rw[<- Array.foldl_toList,Array.toList_zipIdx,aab off v.cells.toList 0 cells (by simp;omega)];simp
theorem R8{m:Mem}{aj:Env}{a:Act}(hr:gi m aj a.tmps){place:Nat->Option (Nat×Nat)}{zl:Nat}:∀ {ps:List (Nat×Operand)} {qs:List (Nat×Nat×aK)} {rs:List (Nat×List C)} {cs:List C} {cells:Array Value},
  zj place zl ps=some qs->tG aj qs=some rs->ch m cs cells.toList->cs.length=zl->
  ∃iH,Instr.fill place cells (ps.map fun x=>(x.1,a.eval x.2))=some iH/\ch m (fill cs rs) iH.toList:=by
 intro ps
 induction ps with
 |nil=>intro qs rs cs cells h1 h2 hc hl;simp[zj] at h1;subst h1;simp[tG] at h2;subst h2;exact⟨cells,by simp[Instr.fill],by simpa [fill] using hc⟩
 |cons p t ih=>
  intro qs rs cs cells h1 h2 hc hl;obtain⟨i,x⟩:=p;simp only[zj] at h1;split at h1
  .rename_i off n a' q bq hx hq;split at h1
   .rename_i hfit;cases h1;simp only[tG] at h2;split at h2
    .rename_i yl q' hcv AO;split at h2
     .rename_i hlen;cases h2;have hv:=JJ hcv (dy hx hr);have hsz:(a.eval x).cells.size=n:=by have:=hv.1;simp at this;omega
      have ef:=hc.1;simp at ef;obtain⟨iH,e1,e2⟩:=R9 (rest:=t.map fun x=>(x.1,a.eval x.2)) bq hsz (by omega:off+n<=cells.size);simp only[dE,fill];rw[e1];refine ih hq AO ?_ (by rw[I9 aa];exact hl);rw[e2];exact ch.pw.2 ((ch.pw.1 hc).dM (ch.pw.1 hv) off)
     cases h2
    cases h2
   cases h1
  cases h1
theorem mapM_ok{α β:Type}{f:α->Sem β}{g:α->β}{w:World}:∀ {l:List α},(∀x∈l,(f x).run P w=.ok (g x) w)->(l.mapM f).run P w=.ok (l.map g) w:=by
 intro l
 induction l with
 |nil=>intro _;simp
 |cons x r ih=>intro h;simp[List.mapM_cons,h x af,ih fun y hy=>h y (by simp[hy])]
theorem Zi{m:Mem}{aj:Env}{a:Act}(hr:gi m aj a.tmps){place:Nat->Option (Nat×Nat)}{sz:Nat}(abt:∀k,place k=some (k*sz,sz)):∀ {ps:List (Nat×Operand)} {as:List aK} {es:List (List C)} {k:Nat} {done:List Value} {cells:Array Value},
  B4 k ps=some as->uh aj sz as=some es->done.length=k*sz->cells.toList.take (k*sz)=done->cells.size=(k+as.length)*sz->
  ∃iH,Instr.fill place cells (ps.map fun x=>(x.1,a.eval x.2))=some iH/\ ∃vs,iH.toList=done++vs/\ch m es.flatten vs/\(∀e∈es,e.length=sz)/\es.length=as.length:=by
 intro ps
 induction ps with
 |nil=>intro as es k done cells h1 h2 hd ht hs;simp[B4] at h1;subst h1;simp[uh] at h2;subst h2;refine⟨cells,by simp[Instr.fill],[],?_,⟨af,fun j x u p=>by simp at p⟩,fun e he=>by simp at he,rfl⟩;rw[<- ht,qu,fS (by simp at hs ⊢;omega)]
 |cons p t ih=>
  intro as es k done cells h1 h2 hd ht hs;obtain⟨i,x⟩:=p;simp only[B4] at h1;split at h1
  .rename_i a' q hx hq;split at h1
   .rename_i hik;cases h1;subst hik;simp only[uh] at h2;split at h2
    .rename_i yl q' hcv AO;split at h2
     .rename_i hlen;cases h2;have hv:=JJ hcv (dy hx hr);have hsz:(a.eval x).cells.size=sz:=by have:=hv.1;simp at this;omega
      simp only[dN] at hs;have eP:cells.size=i*sz+sz+q.length*sz:=by rw[hs,fH,fH];omega
      obtain⟨iH,e1,e2⟩:=R9 (rest:=t.map fun x=>(x.1,a.eval x.2)) (abt i) hsz (by omega:i*sz+sz<=cells.size);have jm:iH.toList.length=cells.size:=by rw[e2,I9 (by simp;omega)];simp
      obtain⟨Yr,f1,vs,f2,f3,f4,f5⟩:=ih (k:=i+1) (done:=done++(a.eval x).cells.toList) (cells:=iH) hq AO (by simp[hd,hsz,fH]) (by rw[e2];unfold dM;rw[ht,List.take_append_of_le_length (by simp[hd,hsz,fH])];rw[fS (by simp[hd,hsz,fH])]) (by simp at jm;rw[jm,eP,fH,fH];omega)
      simp only[dE];rw[e1];refine⟨Yr,f1,(a.eval x).cells.toList++vs,by rw[f2,DD],?_,?_,by simp[f5]⟩
      .simp only[kb];exact ch.pw.2 ((ch.pw.1 hv).append (ch.pw.1 f3))
      intro e he;rcases dU.1 he with rfl|he
      .exact hlen
      exact f4 e he
     cases h2
    cases h2
   cases h1
  cases h1
theorem agG{m:Mem}:∀ {es:List (List C)} {qs:List (List PV)} {vs:List Value} {sz:Nat},vJ es=some qs->(∀e∈es,e.length=sz)->ch m es.flatten vs->bQ m.w m.own qs.flatten vs/\(∀e∈qs,e.length=sz)/\qs.length=es.length:=by
 intro es
 induction es with
 |nil=>intro qs vs sz h _ hc;simp[vJ] at h;subst h;exact⟨⟨hc.1,fun j x u p=>by simp at p⟩,fun e he=>by simp at he,rfl⟩
 |cons e r ih=>
  intro qs vs sz h hsz hc;simp only[vJ] at h;split at h
  .rename_i v ka h1 h2;cases h;simp only[kb] at hc;have cJ:=hsz e af;have fC:=(ch.pw.1 hc).take e.length;have qE:=(ch.pw.1 hc).drop e.length;simp only[List.take_left,List.drop_left] at fC qE;have g1:=GK h1 (ch.pw.2 fC);obtain⟨g2,g3,g4⟩:=ih h2 (fun x hx=>hsz x (by simp[hx])) (ch.pw.2 qE);have nq:v.length=sz:=by
    have a1:=g1.1;have a2:=fC.1;omega
   refine⟨?_,?_,by simp[g4]⟩
   .have:=(bQ.pw.1 g1).append (bQ.pw.1 g2);rw[xR] at this;exact bQ.pw.2 this
   intro y hy;rcases dU.1 hy with rfl|hy
   .exact nq
   exact g3 y hy
  cases h
section
variable {m:Mem} {aj:Env} {a:Act} {o:Oper} (aq:Ok w0 m) (hr:gi m aj a.tmps)
include aq hr
theorem ae7{t:TypeId}{ps:Array (Nat×Operand)}{fs:Array Field}{z:List PV}{qs:List (Nat×Nat×aK)}{rs:List (Nat×List C)}(ho:o.op=.build t ps)(ht:P.underlying t=some (.struct fs))(hz:vM P t=some z)
  (dI:fs.all (fun f=>(P.info? f.type).isSome)=true) (hp:zj (fun i=>(fs[i]?).map fun f=>(f.offset,P.cellsOf f.type)) z.length ps.toList=some qs) (hv:tG aj qs=some rs):
  eB P w0 a.eval o m (.agg (fill (z.map .p) rs)) []:=by
 obtain⟨v,i,hi,hiv,hs,hl,cn⟩:=GU hz;obtain⟨iH,h1,h2⟩:=R8 hr hp hv (cn m.w m.own).xK af;refine .calm (x:=.agg iH) aq ?_ (aY.agg.2 ⟨_,rfl,h2⟩);have AN:(fs.mapM (fun f=>do pure (f.offset,<- sizeOf f.type):Field->Sem (Nat×Nat))).run P m.w=.ok (fs.map fun f=>(f.offset,P.cellsOf f.type)) m.w:=by
  rw[Array.mapM_eq_mapM_toList];have:=mapM_ok (P:=P) (f:=(fun f=>do pure (f.offset,<- sizeOf f.type):Field->Sem (Nat×Nat))) (g:=fun f=>(f.offset,P.cellsOf f.type)) (w:=m.w) (l:=fs.toList) (fun f hf=>by
   have:=Array.all_eq_true_iff_forall_mem.1 dI f (by simpa using hf);cases u9:P.info? f.type with
   |none=>rw[u9] at this;cases this
   |some i=>simp[sizeOf,typeInfo,u9,Program.cellsOf])
  rw[Sem.run_map,this];simp only[Result.andThen_ok];congr 1;apply Array.ext';simp
 have yC:Instr.fill (fun x=>(fs.map fun f=>(f.offset,P.cellsOf f.type))[x]?) v.cells (ps.map fun x=>(x.1,a.eval x.2)).toList=some iH:=by simpa using h1
 simp only[execOp,ho,Instr.build,zeroValue,typeInfo,Sem.run_bind,run_program,Result.andThen_ok,hi,hiv,Sem.run_pure,run_underlying ht,AN,yC]
theorem ae6{t e:TypeId}{n:Nat}{ps:Array (Nat×Operand)}{i:TypeInfo}{z:List PV}{qs:List (Nat×Nat×aK)}{rs:List (Nat×List C)}(ho:o.op=.build t ps)(ht:P.underlying t=some (.array n e))(hz:vM P t=some z)
  (hie:P.info? e=some i) (hp:zj (fun k=>some (k*i.size,i.size)) z.length ps.toList=some qs) (hv:tG aj qs=some rs):
  eB P w0 a.eval o m (.agg (fill (z.map .p) rs)) []:=by
 obtain⟨v,i',hi,hiv,hs,hl,cn⟩:=GU hz;obtain⟨iH,h1,h2⟩:=R8 hr hp hv (cn m.w m.own).xK af;refine .calm (x:=.agg iH) aq ?_ (aY.agg.2 ⟨_,rfl,h2⟩);have yC:Instr.fill (fun k=>some (k*i.size,i.size)) v.cells (ps.map fun x=>(x.1,a.eval x.2)).toList=some iH:=by simpa using h1
 simp only[execOp,ho,Instr.build,zeroValue,sizeOf,typeInfo,Sem.run_bind,run_program,Result.andThen_ok,hi,hie,hiv,Sem.run_pure,run_underlying ht,yC]
theorem ae4{t e:TypeId}{n sz bytes s:Nat}{z:List PV}{ps:Array (Nat×Operand)}{as:List aK}{es:List (List C)}(ho:o.op=.buildSlice t n ps)(he:u4 P t=some (e,sz,bytes,z))(hp:B4 0 ps.toList=some as)
  (hn:as.length=n) (aaF:n*sz<=16777216) (hv:uh aj sz as=some es):
  (∀qs,vJ es=some qs->eB P w0 a.eval o m (.one (.hsl s ((m.blk s).1+1) sz 0 es.length)) [(s,((m.blk s).1+1,some (.arr e sz qs)))])/\
  eB P w0 a.eval o m (.one (.hsl s ((m.blk s).1+1) sz 0 es.length)) [(s,((m.blk s).1+1,some (.fO e sz es)))]:=by
 obtain⟨i,v,ht,hi,hs,hb,⟨gM,_⟩,tz,mF,kT,cn⟩:=Hm he;subst hn;obtain⟨iH,f1,vs,f2,f3,f4,f5⟩:=Zi (place:=fun k=>some (k*sz,sz)) (done:=[]) (cells:=(Array.range (as.length*sz)).map ((if as.length*sz=0 then #[] else v.cells)[· %(if as.length*sz=0 then #[] else v.cells).size]!)) hr (fun _=>rfl) hp hv af af af;have jQ:(execOp a.eval o).run P m.w=.ok (.value (.slice (some ⟨m.w.heap.size,0,none⟩) es.length es.length)) (m.w.alloc (.cells iH e)):=by
  have yC:Instr.fill (fun k=>some (k*sz,sz)) ((Array.range (as.length*sz)).map ((if as.length*sz=0 then #[] else v.cells)[· %(if as.length*sz=0 then #[] else v.cells).size]!)) (ps.map fun x=>(x.1,a.eval x.2)).toList=some iH:=by simpa using f1
  have hnb:¬(16777216<as.length*sz):=aa;have S8:¬(as.length*sz>2 ^ 24):=aa;by_cases h0:as.length*sz=0
  .simp only[if_pos h0] at yC;simp only[execOp,ho,Instr.buildSlice,Sem.run_bind,run_underlying ht,Result.andThen_ok,sizeOf,typeInfo,run_program,hi,Sem.run_pure,hs,if_neg S8,if_pos h0,yC,newRow,run_newObj,f5];rfl
  simp only[if_neg h0] at yC;simp only[execOp,ho,Instr.buildSlice,Sem.run_bind,run_underlying ht,Result.andThen_ok,sizeOf,typeInfo,run_program,hi,Sem.run_pure,hs,if_neg S8,if_neg h0,zeroValue,tz,yC,newRow,run_newObj,f5];rfl
 simp at f2;have ef:iH.size=es.length*sz:=by
  have h1:=f3.1;rw[B7 f4] at h1;have:iH.toList.length=vs.length:=by rw[f2]
  simp at this;omega
 have FN:es.length<=maxLen:=by have:es.length<=es.length*sz:=Jp _ gM;simp only[maxLen];rw[f5] at this ⊢;omega
 have Ti:iH.toList.take (es.length*sz)=vs:=by rw[fS (by simp;omega),f2]
 constructor
 .intro qs hq;have ek:Ev m (m.iI (m.w.alloc (.cells iH e)) s m.w.heap.size es.length (.arr e sz qs)):=B9 (ew.alloc _ _) (bo _);obtain⟨g1,g2,g3⟩:=agG hq f4 (f3.ev ek.zero);refine⟨_,m.iI (m.w.alloc (.cells iH e)) s m.w.heap.size es.length (.arr e sz qs),.inl jQ,Cb (ew.alloc _ _) (bo _) af aq ?_,ek,Ca aq (bo _),rfl,EJ (bo _) FN⟩;exact⟨iH,by rw[yo];exact heap_alloc_new m.w _,gM,g2,by rw[lY,g3];exact bo _,by rw[lY];exact FN,by rw[lY,ef],by rw[g3,Ti];exact g1⟩
 have ek:Ev m (m.iI (m.w.alloc (.cells iH e)) s m.w.heap.size es.length (.fO e sz es)):=B9 (ew.alloc _ _) (bo _);refine⟨_,m.iI (m.w.alloc (.cells iH e)) s m.w.heap.size es.length (.fO e sz es),.inl jQ,Cb (ew.alloc _ _) (bo _) af aq ?_,ek,Ca aq (bo _),rfl,aad (bo _) FN⟩;exact⟨iH,by rw[yo];exact heap_alloc_new m.w _,gM,f4,by rw[lY];exact bo _,by rw[lY];exact FN,by rw[lY,ef],by rw[Ti];exact f3.ev ek.zero⟩
end
end Go.Abs
namespace Go.Abs
variable {P:Program} {w0:World}
theorem Hc(a b:List dH)(blk:aw):app (a++b) blk=app b (app a blk):=by
 induction a generalizing blk with
 |nil=>rfl
 |cons x r ih=>obtain⟨i,o⟩:=x;simp only[List.cons_append,app];exact ih _
theorem acD{m:Mem}{wK:Nat->Prop}(hf:∀c,wK c->m.fr c){c:Nat}(h:({m with fr:=wK}:Mem).own c):m.own c:=by
 rcases h with h|h
 .exact .inl (hf c h)
 exact .inr h
theorem TR{m:Mem}{wK:Nat->Prop}(hf:∀c,wK c->m.fr c):Ev m {m with fr:=wK}:=
 ⟨rfl,rfl,rfl,bo _,fun _ _ _=>rfl,fun _ _ h=>h,fun _ _ hn h=>hn (acD hf h),fun _=>bo _,fun _ _ h=>⟨h,rfl,rfl,rfl⟩⟩
theorem acC{m:Mem}{wK:Nat->Prop}(h:Ok w0 m)(hf:∀c,wK c->m.fr c):Ok w0 {m with fr:=wK} where
 os:=h.os
 tape:=h.tape
 output:=h.output
 size:=h.size
 base:=h.base
 obj id o ho:=(h.obj id o ho).ev (TR hf).zero rfl rfl rfl
 eC id o ho hm:=⟨(h.eC id o ho hm).1,fun hc=>(h.eC id o ho hm).2 (hf _ hc)⟩
 frlt c hc:=h.frlt c (hf c hc)
 inj:=h.inj
theorem aeT{m:Mem}{w':World}{c:Nat}(h:Ok w0 m)(hc:m.fr c)(eY:w0.heap.size<=c)(qK:w'.os=m.w.os)(ht:w'.tape=m.w.tape)(jD:w'.output=m.w.output)(hs:w'.heap.size=m.w.heap.size)
  (hk:∀x,x≠c->w'.heap[x]?=m.w.heap[x]?):Ok w0 {m with w:=w'} where
 os:=qK.trans h.os
 tape:=ht.trans h.tape
 output:=jD.trans h.output
 size:=mm h.size (Nat.le_of_eq hs.symm)
 base x hx:=(hk x aa).trans (h.base x hx)
 obj id o ho:=by
  have aR:m.σ id≠c:=by
   intro e;cases hm:o.eH with
   |true=>exact(h.eC id o ho hm).2 (e▸hc)
   |false=>exact(h.obj id o ho).calm hm (.inl (e▸hc))
  exact(h.obj id o ho).ev (m':={m with w:=w'}) ⟨fun x _ hn=>⟨hk x fun e=>hn (.inl (e▸hc)),hn⟩,fun _=>bo _,fun _ _ h=>⟨h,rfl,rfl,rfl⟩⟩ rfl rfl (hk _ aR)
 eC:=h.eC
 frlt x hx:=by rw[show({m with w:=w'}:Mem).w.heap.size=m.w.heap.size from hs];exact h.frlt x hx
 inj:=h.inj
theorem Qr{m:Mem}(aq:Ok w0 m){own:Nat->Prop}{x:V}{v:Value}{new:List (List PV)}{rd fr:List Nat}(h:eK m.blk x=some (new,rd,fr))(hv:aY m x v)(hs:lT m own fr):
  ∃ax cx,v=.slice ax new.length cx/\(∀z,j9 x=some z->∀e∈new,e.length=z)/\
   (new≠[]->∃b o news,ax=some ⟨b,o,none⟩/\Pw (bh m.w own) new.flatten news/\ ∀(j:Nat) (u:Value),news[j]?=some u->m.w.cell? ⟨b,o+j,none⟩=some u):=by
 have row:∀(c off sz len:Nat) (cur:Array Value) (ty:TypeId) (fz:Nat×Nat) (ps:List (List PV)),m.w.heap[c]?=some (.cells cur ty fz)->Pw (bh m.w own) ps.flatten ((cur.toList.drop (off*sz)).take (ps.length*sz))->
   ∃b o news,some (⟨c,off*sz,none⟩:Addr)=some ⟨b,o,none⟩/\Pw (bh m.w own) ps.flatten news/\ ∀(j:Nat) (u:Value),news[j]?=some u->m.w.cell? ⟨b,o+j,none⟩=some u:=by
  intro c off sz len cur ty fz ps hh hp;refine⟨c,off*sz,_,rfl,hp,fun j u hj=>?_⟩;rw[lQ] at hj;split at hj
  .rw[BU hh];simpa using hj
  cases hj
 unfold eK at h;split at h
 .cases h;exact⟨none,0,Ie hv,fun z hz=>by simp[j9] at hz,fun h=>(h rfl).elim⟩
 .rename_i es;cases h;obtain⟨hp⟩:bG m _ v:=hv;generalize fh:(PV.sl new)=pv at hp;cases hp<;>cases fh
  .exact⟨_,_,rfl,fun z hz=>by simp[j9] at hz,fun h=>(h rfl).elim⟩
  rename_i b o cap sz f hm ho hl hsz tm xh;refine⟨_,_,rfl,fun z hz=>by simp[j9] at hz,fun _=>⟨b,o,(List.range new.flatten.length).map f,rfl,⟨af,fun j y u p q=>?_⟩,fun j u q=>?_⟩⟩
  .have hj:j<new.flatten.length:=(bn.1 p).1;rw[js,rz hj] at q;simp at q;subst q;exact(xh j y p).less hs.1
  have hj:j<new.flatten.length:=by have:=(bn.1 q).1;simpa using this
  rw[js,rz hj] at q;simp at q;subst q;exact tm j _ (ry hj)
 .rename_i id g z off len;have fD:bG m _ v:=hv;cases fD with
  |hsl ad cap hg hl hm FD=>
   split at h
   .rename_i g' ty sz es hb;split at h
    .rename_i hc;cases h;have aS:(m.blk id).2=some (.arr ty sz es):=by rw[hb]
     obtain⟨cur,hh,jR,hsz,n9,kB,bZ,cn⟩:=aq.obj id _ aS;obtain⟨e1,e2,e3⟩:=FD sz (by rw[hb];exact hc.1) (by rw[hb];rfl);have hlen:((es.drop off).take len).length=len:=by simp;omega
     refine⟨some ad,cap,by rw[hlen],fun z' ma e he=>?_,fun aR=>?_⟩
     .simp[j9] at ma;subst ma;rw[<- e1];exact hsz e (sI (sJ he))
     have:0<len:=by
      cases len with
      |zero=>simp at aR
      |succ n=>omega
     rw[e2 (.inr this)];exact row (m.σ id) off sz len cur ty _ _ hh (Ba hsz (bQ.pw.1 (cn.less hs.1)) hc.2)
    cases h
   .rename_i g' ty sz es hb;split at h
    .rename_i hc;cases h;have aS:(m.blk id).2=some (.lr ty sz es):=by rw[hb]
     obtain⟨cur,fz,hh,jR,hsz,n9,kB,bZ,cn,_⟩:=aq.obj id _ aS;obtain⟨e1,e2,e3⟩:=FD sz (by rw[hb];exact hc.1) (by rw[hb];rfl);have hlen:((es.drop off).take len).length=len:=by simp;omega
     refine⟨some ad,cap,by rw[hlen],fun z' ma e he=>?_,fun aR=>?_⟩
     .simp[j9] at ma;subst ma;rw[<- e1];exact hsz e (sI (sJ he))
     have:0<len:=by
      cases len with
      |zero=>simp at aR
      |succ n=>omega
     rw[e2 (.inr this)];exact row (m.σ id) off sz len cur ty _ _ hh (Ba hsz (bQ.pw.1 (cn.less hs.1)) hc.2)
    cases h
   .rename_i g' ty sz es hb;split at h
    .rename_i hc;split at h
     .rename_i ps q hq;cases h;have aS:(m.blk id).2=some (.fO ty sz es):=by rw[hb]
      obtain⟨cur,hh,jR,hsz,n9,kB,bZ,cn⟩:=aq.obj id _ aS;obtain⟨e1,e2,e3⟩:=FD sz (by rw[hb];exact hc.1) (by rw[hb];rfl);have hle:((es.drop off).take len).length=len:=by simp;omega
      have bq:new.length=len:=by rw[JR hq,hle]
      have MN:=Ba hsz (ch.pw.1 cn) hc.2;have F5:∀e∈(es.drop off).take len,e.length=sz:=fun e he=>hsz e (sI (sJ he));have hcap:len*sz<=(cur.toList.drop (off*sz)).length:=by
       simp;have h1:off*sz+len*sz<=es.length*sz:=by rw[<- fH];exact jJ _ hc.2
       have h2:es.length*sz<=m.κ id*sz:=jJ _ n9;omega
      have nk:∀(j:Nat) (e:List PV),new[j]?=some e->Pw (bh m.w own) e (((cur.toList.drop (off*sz)).drop (j*sz)).take sz):=by intro j e he;obtain⟨x,q',h1,h2,h3⟩:=JQ hq he;exact BX (R:=bG m) (T:=bh m.w own) (gA:=lT m own) (fun a b h=>h.app) (fun a b r v e1 e2 e3=>Dq aq _ e1 e2 e3) h2 ⟨hs.1,fun i hi=>hs.2 i (h3 i hi)⟩ (L9 F5 MN h1)
      have yQ:∀e∈new,e.length=sz:=by
       intro e he;obtain⟨j,hj⟩:=iV he;have:=(nk j e hj).1;have pj:j<len:=by rw[<- bq];exact(bn.1 hj).1
       have h1:(j+1)*sz<=len*sz:=jJ _ pj;rw[fH] at h1;simp at this hcap;omega
      refine⟨some ad,cap,by rw[bq],fun z' ma e he=>?_,fun aR=>?_⟩
      .simp[j9] at ma;subst ma;rw[<- e1];exact yQ e he
      have:0<len:=by rw[<- bq];exact nH.2 aR
      rw[e2 (.inr this)];refine row (m.σ id) off sz len cur ty _ _ hh ?_;rw[bq];have:=NK yQ (by rw[bq];exact hcap) nk;rw[bq] at this;exact this
     cases h
    cases h
   split at h
   .rename_i mA;cases h;exact⟨some ad,cap,by rw[mA];rfl,fun z' _ e he=>by simp at he,fun h=>(h rfl).elim⟩
   cases h
 cases h
end Go.Abs
namespace Go.Abs
variable {P:Program} {w0:World}
theorem aes{w:World}{own:Nat->Prop}{xs:List PV}{vs:List Value}(h:Pw (bh w own) xs vs):∀u∈vs,u.oneCell'=true:=by
 intro v hv;obtain⟨j,hj⟩:=iV hv;have au:j<xs.length:=by rw[<- h.1];exact(bn.1 hj).1
 exact(h.2 j _ v (ry au) hj).Gq
theorem EK{m:Mem}{ids:List Nat}{u:List dH}(h:oQ m.blk ids=some u)(id:Nat):(app u m.blk id).1=(m.blk id).1:=by
 rcases sZ h id with ⟨e,_⟩|⟨_,p,q,a,b,e⟩
 .exact congrArg Prod.fst e
 have:=congrArg Prod.fst e;exact this
theorem Ze{m:Mem}{id:Nat}{o:Ob}{w':World}(ho:(m.blk id).2=some o)(hm:o.eH=true)(qK:w'.os=m.w.os)(ht:w'.tape=m.w.tape)(jD:w'.output=m.w.output)(hs:w'.heap.size=m.w.heap.size)
  (hk:∀x,x≠m.σ id->w'.heap[x]?=m.w.heap[x]?):Ev m {m.iY id with w:=w'} where
 os:=qK
 tape:=ht
 output:=jD
 size:=Nat.le_of_eq hs.symm
 keep c _ hn:=hk c fun e=>hn ⟨id,o,ho,hm,e.symm⟩
 eH:=(B2 ho hm).eH
 less:=(B2 ho hm).less
 gen:=(B2 ho hm).gen
 ref:=(B2 ho hm).ref
theorem aez{m:Mem}(aq:Ok w0 m){id s:Nat}{ob:Ob}{w':World}{pT:Array Value}{ty sz:Nat}{fB:List (List PV)}(ho:(m.blk id).2=some ob)(hm:ob.eH=true)(gM:0<sz)(qK:w'.os=m.w.os)(ht:w'.tape=m.w.tape)(jD:w'.output=m.w.output)(hs:w'.heap.size=m.w.heap.size)
  (hk:∀x,x≠m.σ id->w'.heap[x]?=m.w.heap[x]?) (hh:w'.heap[m.σ id]?=some (.cells pT ty (0,0))) (hsz:∀e∈fB,e.length=sz) (hl:fB.length<=m.κ id) (qh:m.κ id<=maxLen) (bZ:pT.size=m.κ id*sz)
  (hp:Pw (bh m.w m.own) fB.flatten (pT.toList.take (fB.length*sz))):
  ∃m',m'.w=w'/\Ok w0 m'/\Ev m m'/\m'.fr=m.fr/\m'.blk=ca (ca m.blk id ((m.blk id).1,none)) s ((m.blk s).1+1,some (.arr ty sz fB))/\
   aY m' (.one (.hsl s ((m.blk s).1+1) sz 0 fB.length)) (.slice (some ⟨m.σ id,0,none⟩) fB.length (m.κ id)):=by
 have wV:=Ze ho hm qK ht jD hs hk;have eY:=(aq.eC id ob ho hm).1;have abi:Ok w0 {m.iY id with w:=w'}:=aeT (m:=m.iY id) (Qn aq ho hm) (.inr rfl) eY qK ht jD hs hk;have ek:Ev m ((({m.iY id with w:=w'}:Mem)).install s (m.σ id) (m.κ id) (.arr ty sz fB)):=H0 wV (.inr rfl) (.inr ⟨id,ob,ho,hm,rfl⟩);have r4:((({m.iY id with w:=w'}:Mem)).blk s).1=(m.blk s).1:=by
  simp only[Mem.iY,aP];split
  .rename_i e;subst e;rfl
  rfl
 have hσ:((({m.iY id with w:=w'}:Mem)).install s (m.σ id) (m.κ id) (.arr ty sz fB)).σ s=m.σ id:=by simp[Mem.install,aP]
 have hκ:((({m.iY id with w:=w'}:Mem)).install s (m.σ id) (m.κ id) (.arr ty sz fB)).κ s=m.κ id:=by simp[Mem.install,aP]
 refine⟨_,rfl,Ia abi (.inr rfl) eY ?_,ek,?_,?_,?_⟩
 .exact⟨pT,by rw[hσ];exact hh,gM,hsz,by rw[hκ];exact hl,by rw[hκ];exact qh,by rw[hκ];exact bZ,bQ.ev ek.zero (bQ.pw.2 hp)⟩
 .funext x;simp only[Mem.install,Mem.iY];apply propext;constructor
  .rintro ⟨h|h,h2⟩
   .exact h
   exact(h2 h).elim
  intro h;exact⟨.inl h,fun e=>(aq.eC id ob ho hm).2 (e▸h)⟩
 .simp only[Mem.install];rw[r4];rfl
 refine aY.one.2 (.hsl _ _ ?_ hl qh fun z h1 h2=>?_)
 .simp only[Mem.install,aP,if_true];rw[r4];exact bo _
 have:iE (((({m.iY id with w:=w'}:Mem)).install s (m.σ id) (m.κ id) (.arr ty sz fB)).blk s)=some sz:=by simp[Mem.install,aP,iE]
 rw[this] at h2;cases h2;exact⟨rfl,fun _=>by rw[hσ,uV],fun _=>hκ.symm⟩
theorem aeO{P:Program}(w:World)(t ty e:TypeId)(i:TypeInfo)(z:Value)(ht:P.underlying t=some (.slice e))(hi:P.info? e=some i)(hz:i.zero=some z)
  (az:Option Addr) (a:Addr) (n c:Nat) (news:List Value) (hl:news.length=n*i.size) (xe:∀j v,news[j]?=some v->w.cell? (a.add j)=some v)
  (h0:0<n) (h63:(n:Int)<=9223372036854775807) (Fb:n*i.bytes<=281474976710656):
  (Builtin.append_ #[t,t] ty #[.slice az 0 0,.slice (some a) n c]).run P w=
   .ok (.slice (some ⟨w.heap.size,0,none⟩) n (grownCap w n 0 e)) (w.drew.alloc (.cells (news.toArray++Builtin.zeroCells z.cells (grownCap w n 0 e-n)) e)):=by
 cases az with
 |none=>exact run_append_nil w t ty e i z ht hi hz a n c news hl xe h0 h63 Fb
 |some b=>have h:=run_append_grow (P:=P) w t ty e i z ht hi hz b 0 0 [] af (fun j v h=>by simp at h) a n c news hl xe aa (by simpa using h63) (by rw[kZ,nextslicecap_zero h0];exact Fb);rw[kZ] at h;rw[h];simp
section
variable {m:Mem} {aj:Env} {a:Act} {o:Oper} (aq:Ok w0 m) (hr:gi m aj a.tmps)
include aq hr
theorem ae1{c:Call}{d x:Operand}{d' x':aK}{t e:TypeId}{s sz bytes:Nat}{z:List PV}{v:V}{u:List dH}{rd:List Nat}(ho:o.op=.call c)(hc:c.callee=.builtin .append)(has:c.args= #[d,x])(gJ:c.argTypes= #[t,t])
  (he:u4 P t=some (e,sz,bytes,z)) (hd:bp d=some d') (hx:bp x=some x') (hv:fe m.blk s e sz bytes (ev aj d') (ev aj x')=.done v u rd):eB P w0 a.eval o m v u:=by
 obtain⟨i,zv,ht,hi,hs,hb,⟨gM,Cj⟩,tz,CF,kT,cn⟩:=Hm he;have nn:=dy hd hr;have jf:=dy hx hr;have run:∀(y:Value) (w':World),(Builtin.append_ #[t,t] o.type #[a.eval d,a.eval x]).run P m.w=.ok y w'->(execOp a.eval o).run P m.w=.ok (.value y) w':=by intro y w' h;simp[execOp,ho,resolve,hc,has,gJ,invoke,builtin,h]
 unfold fe at hv;split at hv
 .cases hv
 rename_i new rd' fr cJ;split at hv
 .cases hv
 rename_i abC;split at hv
 .cases hv
 rename_i fu nh;have oa:=Sr aq nh;have tq:=Mf nh;have kD:=Mh aq nh;obtain⟨ax,cx,uF,abB,xe⟩:=Qr aq cJ jf kD;have dI:∀e∈new,e.length=sz:=by
  have:j9 (ev aj x')=some sz\/fR sz new=true:=Classical.not_not.1 abC;rcases this with h|h
  .exact abB sz h
  intro e he;have:=im.1 h e he
  simpa using this
 have HS:new.flatten.length=new.length*sz:=B7 dI;split at hv
 · -- nil
  rename_i Fv;rw[Fv] at nn;have yB:=Ie nn;split at hv
  .rename_i eX;cases hv;refine⟨.slice none 0 0,m.with u,.inl (run _ _ ?_),oa,tq,rfl,rfl,j6 .nils⟩;rw[yB,uF,eX];cases ax<;>simp[Builtin.append_,run_underlying ht,sizeOf,typeInfo,hi,Builtin.lenOf,Builtin.firstCells,loadCells,loadCellsFrom,Mem.with]
  rename_i eX;split at hv
  .rename_i jE;cases hv;have aR:new≠[]:=fun h=>eX (by simp[h]);obtain⟨b,off,news,rfl,qj,wU⟩:=xe aR;unfold room at jE;have jd:news.length=new.length*i.size:=by rw[qj.1,HS,hs]
   have Ax:new.length<=maxLen/\(new.length:Int)<=9223372036854775807:=by have:new.length<=new.length*bytes:=Jp _ Cj;simp only[maxLen];omega
   have jQ:=run_append_nil (P:=P) m.w t o.type e i zv ht hi tz ⟨b,off,none⟩ new.length cx news jd (fun j v hj=>by rw[Addr.add_lit];exact wU j v hj) aa Ax.2 (by rw[hb];omega);generalize hW:m.w.drew.alloc (.cells (news.toArray++Builtin.zeroCells zv.cells (grownCap m.w new.length 0 e-new.length)) e)=W at jQ;have hg:ew (m.with fu).w W:=by rw[<- hW];exact(ew.drew _).trans (ew.alloc _ _)
   have hcap:=grownCap_ge m.w new.length 0 e;have Fl:=grownCap_le_maxLen m.w new.length 0 e Ax.1;have wV:Ev (m.with fu) ((m.with fu).iI W s m.w.heap.size (grownCap m.w new.length 0 e) (.arr e sz new)):=B9 hg (bo _);have r4:=EK nh s;refine⟨_,(m.with fu).iI W s m.w.heap.size (grownCap m.w new.length 0 e) (.arr e sz new),.inl (run _ _ (by rw[yB,uF];exact jQ)),Cb hg (bo _) (by rw[<- hW];simp) oa ?_,tq.trans wV,Ca oa (bo _),?_,?_⟩
   .refine⟨_,by rw[yo,Mc,<- hW];exact heap_alloc_new m.w.drew _,gM,dI,by rw[lY];exact hcap,by rw[lY];exact Fl,?_,?_⟩
    .rw[lY];simp only[Array.size_append,List.size_toArray,size_zeroCells,CF,jd,hs,<- fH];congr 1;omega
    have:(news.toArray++Builtin.zeroCells zv.cells (grownCap m.w new.length 0 e-new.length)).toList.take (new.length*sz)=news:=by simp only[Array.toList_append];rw[<- hs,<- jd];exact List.take_left
    rw[this];exact bQ.ev wV.zero (bQ.pw.2 qj)
   .rw[Hc,Mb];simp only[Mem.with];rw[r4]
   have:=EJ (m:=m.with fu) (w':=W) (s:=s) (c:=m.w.heap.size) (ty:=e) (sz:=sz) (es:=new) hcap Fl;simp only[Mem.with] at this;rw[r4] at this;exact this
  cases hv
 · -- an empty slice without room
  rename_i Fv;rw[Fv] at nn;obtain⟨az,yB⟩:=ab0 nn;split at hv
  .cases hv
  rename_i eX;split at hv
  .rename_i jE;cases hv;have aR:new≠[]:=fun h=>eX (by simp[h]);obtain⟨b,off,news,rfl,qj,wU⟩:=xe aR;unfold room at jE;have jd:news.length=new.length*i.size:=by rw[qj.1,HS,hs]
   have Ax:new.length<=maxLen/\(new.length:Int)<=9223372036854775807:=by have:new.length<=new.length*bytes:=Jp _ Cj;simp only[maxLen];omega
   have jQ:=aeO (P:=P) m.w t o.type e i zv ht hi tz az ⟨b,off,none⟩ new.length cx news jd (fun j v hj=>by rw[Addr.add_lit];exact wU j v hj) aa Ax.2 (by rw[hb];omega);generalize hW:m.w.drew.alloc (.cells (news.toArray++Builtin.zeroCells zv.cells (grownCap m.w new.length 0 e-new.length)) e)=W at jQ;have hg:ew (m.with fu).w W:=by rw[<- hW];exact(ew.drew _).trans (ew.alloc _ _)
   have hcap:=grownCap_ge m.w new.length 0 e;have Fl:=grownCap_le_maxLen m.w new.length 0 e Ax.1;have wV:Ev (m.with fu) ((m.with fu).iI W s m.w.heap.size (grownCap m.w new.length 0 e) (.arr e sz new)):=B9 hg (bo _);have r4:=EK nh s;refine⟨_,(m.with fu).iI W s m.w.heap.size (grownCap m.w new.length 0 e) (.arr e sz new),.inl (run _ _ (by rw[yB,uF];exact jQ)),Cb hg (bo _) (by rw[<- hW];simp) oa ?_,tq.trans wV,Ca oa (bo _),?_,?_⟩
   .refine⟨_,by rw[yo,Mc,<- hW];exact heap_alloc_new m.w.drew _,gM,dI,by rw[lY];exact hcap,by rw[lY];exact Fl,?_,?_⟩
    .rw[lY];simp only[Array.size_append,List.size_toArray,size_zeroCells,CF,jd,hs,<- fH];congr 1;omega
    have:(news.toArray++Builtin.zeroCells zv.cells (grownCap m.w new.length 0 e-new.length)).toList.take (new.length*sz)=news:=by simp only[Array.toList_append];rw[<- hs,<- jd];exact List.take_left
    rw[this];exact bQ.ev wV.zero (bQ.pw.2 qj)
   .rw[Hc,Mb];simp only[Mem.with];rw[r4]
   have:=EJ (m:=m.with fu) (w':=W) (s:=s) (c:=m.w.heap.size) (ty:=e) (sz:=sz) (es:=new) hcap Fl;simp only[Mem.with] at this;rw[r4] at this;exact this
  cases hv
 .rename_i id g zz len Fv;rw[Fv] at nn;split at hv
  .rename_i g' mQ cQ es hbk;split at hv
   .rename_i nX;obtain⟨gK,rfl,rfl,hlen,jE,aa4⟩:=nX;cases hv;have aa5:id∉fr:=by simpa using aa4
    have aQ:(m.with fu).blk id=m.blk id:=by
     rcases sZ nh id with ⟨e,_⟩|⟨qI,_⟩
     .exact e
     exact(aa5 qI).elim
    have aS:((m.with fu).blk id).2=some (.arr mQ cQ es):=by rw[aQ,hbk]
    obtain⟨cur,hh,_,hsz,hl,qh,bZ,abv⟩:=oa.obj id _ aS;have Ck:bG m _ (a.eval d):=nn;generalize yB:a.eval d=dv at Ck;cases Ck with
    |hsl ad cap hg As hmm hhd=>
     obtain⟨f1,f2,f3⟩:=hhd cQ (by rw[hbk];exact gK) (by rw[hbk];rfl);have hcap:=f3 rfl;have lz:=f2 (.inl rfl);rw[uV] at lz;subst lz;unfold room at jE;have r4:=EK nh s;have hgid:=EK nh id;have yK:len*cQ<=es.length*cQ:=jJ _ hlen;have n9:es.length*cQ<=m.κ id*cQ:=jJ _ hl;have ME:Pw (bh (m.with fu).w (m.with fu).own) (es.take len).flatten (cur.toList.take (len*cQ)):=by rw[B8 hsz];have h1:=(bQ.pw.1 abv).take (len*cQ);rw[List.take_take,Bw yK] at h1;exact h1
     have htl:(es.take len).length=len:=by simp;omega
     have SM:∀x∈es.take len++new,x.length=cQ:=by
      intro x hx;rcases fk.1 hx with hx|hx
      .exact hsz x (sJ hx)
      exact dI x hx
     have hnl0:len+new.length<=(len+new.length)*bytes:=Jp _ Cj;have uC:∀q:dH,app (fu++[(id,(g,none)),q]) m.blk=ca (ca (m.with fu).blk id (((m.with fu).blk id).1,none)) q.1 q.2:=by intro q;rw[Hc];simp only[app];rw[aQ,hbk,gK];rfl
     have FK:(es.take len++new).length=len+new.length:=by rw[iW,htl]
     by_cases hfit:len+new.length<=cap
     · -- in its own block
      have key:∀(w':World) (pT:Array Value),(execOp a.eval o).run P m.w=.ok (.value (.slice (some ⟨m.σ id,0,none⟩) (len+new.length) cap)) w'->w'.os=m.w.os->w'.tape=m.w.tape->w'.output=m.w.output->w'.heap.size=m.w.heap.size->
        (∀x,x≠m.σ id->w'.heap[x]?=m.w.heap[x]?)->w'.heap[m.σ id]?=some (.cells pT mQ (0,0))->pT.size=cur.size->Pw (bh (m.with fu).w (m.with fu).own) (es.take len++new).flatten (pT.toList.take ((len+new.length)*cQ))->
        eB P w0 a.eval o m (.one (.hsl s ((m.blk s).1+1) cQ 0 (len+new.length))) (fu++[(id,(g,none)),(s,((m.blk s).1+1,some (.arr mQ cQ (es.take len++new))))]):=by
       intro w' pT jQ q1 q2 q3 q4 q5 q6 q7 q8;obtain⟨m',e1,e2,e3,e4,e5,e6⟩:=aez (s:=s) oa aS rfl gM q1 q2 q3 q4 q5 q6 SM (by rw[FK];rw[hcap] at hfit;exact hfit) qh (by rw[q7];exact bZ) (by rw[FK];exact q8);rw[FK] at e6;have HT:((m.with fu).blk s).1=(m.blk s).1:=r4;rw[HT] at e6 e5;refine⟨_,m',.inl (by rw[e1];exact jQ),e2,tq.trans e3,e4,by rw[e5,uC],?_⟩;rw[hcap];exact e6
      by_cases eX:new=[]
      .subst eX;have aby:(execOp a.eval o).run P m.w=.ok (.value (.slice (some ⟨m.σ id,0,none⟩) (len+([]:List (List PV)).length) cap)) m.w:=by
        apply run;rw[yB,uF];have aaW:len<=cap:=As;cases ax<;>simp[Builtin.append_,run_underlying ht,sizeOf,typeInfo,hi,Builtin.lenOf,Builtin.firstCells,loadCells,loadCellsFrom,aaW,storeCells]
       exact key m.w cur aby rfl rfl rfl rfl (fun _ _=>rfl) hh rfl (by simpa using ME)
      obtain⟨b,off,news,rfl,qj,wU⟩:=xe eX;have jd:news.length=new.length*i.size:=by rw[qj.1,HS,hs]
      have yE:len*i.size+news.length<=cur.size:=by rw[jd,hs,bZ,<- fH];rw[hcap] at hfit;exact jJ _ hfit
      have jQ:=run_append_room (P:=P) m.w t o.type mQ i ht hi (m.σ id) len cap cur hh ⟨b,off,none⟩ new.length cx news jd (fun j v hj=>by rw[Addr.add_lit];exact wU j v hj) (aes qj) hfit yE;have abz:(execOp a.eval o).run P m.w=.ok (.value (.slice (some ⟨m.σ id,0,none⟩) (len+new.length) cap)) _:=run _ _ (by rw[yB,uF];exact jQ);have aaI:len*i.size<=cur.size:=mm (Nat.le_add_right _ _) yE;refine key _ _ abz ?_ ?_ ?_ ?_ (fun x hx=>setRow_other m.w (m.σ id) x _ hx) (IX hh) ?_ ?_
      .rfl
      .rfl
      .rfl
      .exact setRow_size m.w _ _
      .rw[List.size_toArray,iW,iW,jt,Bs,Array.length_toList];omega
      have h1:=ME.append qj;rw[<- zE] at h1;have:(cur.toList.take (len*i.size)++news++cur.toList.drop (len*i.size+news.length)).take ((len+new.length)*cQ)=cur.toList.take (len*cQ)++news:=by
       rw[hs];have ef:(cur.toList.take (len*cQ)).length=len*cQ:=by rw[jt,Array.length_toList];rw[hs] at aaI;omega
       have SS:(cur.toList.take (len*cQ)++news).length=(len+new.length)*cQ:=by rw[iW,ef,jd,hs,fH]
       rw[List.take_append_of_le_length (Nat.le_of_eq SS.symm)];exact fS (Nat.le_of_eq SS)
      simp only[List.toList_toArray] at this ⊢;rw[this];exact h1
     · -- a new block
      have eX:new≠[]:=fun e=>by subst e;simp at hfit;omega
      obtain⟨b,off,news,rfl,qj,wU⟩:=xe eX;have jd:news.length=new.length*i.size:=by rw[qj.1,HS,hs]
      have MF:(cur.toList.take (len*cQ)).length=len*i.size:=by rw[hs,jt,Array.length_toList];have hcs2:cur.size=m.κ id*cQ:=bZ;omega
      have jQ:=run_append_grow (P:=P) m.w t o.type mQ i zv ht hi tz ⟨m.σ id,0,none⟩ len cap (cur.toList.take (len*cQ)) MF (fun j v hj=>by
        rw[Addr.add_lit,kZ];have:(m.w.cell? ⟨m.σ id,j,none⟩)=cur[j]? :=BU hh;rw[this];rw[lQ] at hj;split at hj
        .simpa using hj
        cases hj) ⟨b,off,none⟩ new.length cx news jd (fun j v hj=>by rw[Addr.add_lit];exact wU j v hj) aa aa (growslice_fits aa (by rw[hb];omega))
      have Ax:len+new.length<=maxLen:=by simp only[maxLen];omega
      have hgc:=grownCap_ge m.w (len+new.length) cap mQ;have hgm:=grownCap_le_maxLen m.w (len+new.length) cap mQ Ax;generalize tm:grownCap m.w (len+new.length) cap mQ=cc at jQ hgc hgm;generalize hW:m.w.drew.alloc (.cells ((cur.toList.take (len*cQ)).toArray++news.toArray++Builtin.zeroCells zv.cells (cc-(len+new.length))) mQ)=W at jQ;have Tb:=acC (wK:=m.fr) (Qn oa aS rfl) (fun c hc=>.inl hc);have aaP:Ev (m.with fu) {(m.with fu).iY id with fr:=m.fr}:=(B2 aS rfl).trans (TR (fun c hc=>.inl hc));have Co:ew ({(m.with fu).iY id with fr:=m.fr}:Mem).w W:=by rw[<- hW];exact(ew.drew _).trans (ew.alloc _ _)
      have wV:Ev ({(m.with fu).iY id with fr:=m.fr}:Mem) (({(m.with fu).iY id with fr:=m.fr}:Mem).iI W s m.w.heap.size cc (.arr mQ cQ (es.take len++new))):=B9 Co (bo _);have SV:=aaP.trans wV;have HT:((({(m.with fu).iY id with fr:=m.fr}:Mem)).blk s).1=(m.blk s).1:=by
       simp only[Mem.iY,aP];split
       .rename_i e';subst e';exact r4
       exact r4
      refine⟨_,({(m.with fu).iY id with fr:=m.fr}:Mem).iI W s m.w.heap.size cc (.arr mQ cQ (es.take len++new)),.inl (run _ _ (by rw[yB,uF];exact jQ)),Cb Co (bo _) (by rw[<- hW];simp) Tb ?_,tq.trans SV,Ca Tb (bo _),?_,?_⟩
      .refine⟨_,by rw[yo,Mc,<- hW];exact heap_alloc_new m.w.drew _,gM,SM,by rw[lY,FK];exact hgc,by rw[lY];exact hgm,?_,?_⟩
       .rw[lY];simp only[Array.size_append,List.size_toArray,size_zeroCells,CF,jd,MF,hs,<- fH];congr 1;omega
       have h1:=ME.append qj;rw[<- zE] at h1;have:((cur.toList.take (len*cQ)).toArray++news.toArray++Builtin.zeroCells zv.cells (cc-(len+new.length))).toList.take ((es.take len++new).length*cQ)=cur.toList.take (len*cQ)++news:=by simp only[Array.toList_append,FK];exact List.take_left' (by rw[iW,List.toList_toArray,List.toList_toArray,MF,jd,hs,fH])
       rw[this];exact bQ.ev SV.zero (bQ.pw.2 h1)
      .rw[Mb,uC];simp only[app];rw[HT];rfl
      have:=EJ (m:=({(m.with fu).iY id with fr:=m.fr}:Mem)) (w':=W) (s:=s) (c:=m.w.heap.size) (ty:=mQ) (sz:=cQ) (es:=es.take len++new) hgc hgm;rw[HT] at this;exact this
   cases hv
  cases hv
 cases hv
end
end Go.Abs
