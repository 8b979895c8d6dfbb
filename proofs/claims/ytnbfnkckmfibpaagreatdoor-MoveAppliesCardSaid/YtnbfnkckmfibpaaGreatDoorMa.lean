/-
  An abstract machine for the code of the model.
-/
import Derived.Calls
import Derived.WalkKit
set_option linter.unusedSimpArgs false
set_option linter.unusedVariables false
set_option linter.unusedSectionVars false
namespace Go.Abs
theorem aaf:type_of% @List.mem_of_getElem?.{0}:=@List.mem_of_getElem?.{0}
theorem aag:type_of% @List.getElem?_eq_some_iff.{0}:=@List.getElem?_eq_some_iff.{0}
theorem aah:type_of% @Nat.zero_le:=@Nat.zero_le
theorem aak:type_of% @List.length_map.{0,0}:=@List.length_map.{0,0}
theorem aal:type_of% @Nat.le_refl:=@Nat.le_refl
theorem aan:type_of% @Bool.and_eq_true:=@Bool.and_eq_true
theorem aao:type_of% @Option.map_eq_some_iff.{0,0}:=@Option.map_eq_some_iff.{0,0}
theorem aap:type_of% @List.getD_eq_getElem?_getD.{0}:=@List.getD_eq_getElem?_getD.{0}
theorem aar:type_of% @List.length_cons.{0}:=@List.length_cons.{0}
theorem aas:type_of% @List.map_cons.{0,0}:=@List.map_cons.{0,0}
theorem aat:type_of% @List.mem_cons.{0}:=@List.mem_cons.{0}
theorem aau:type_of% @List.take_of_length_le.{0}:=@List.take_of_length_le.{0}
theorem aav:type_of% @List.length_nil.{0}:=@List.length_nil.{0}
theorem aaw:type_of% @Option.some.injEq.{0}:=@Option.some.injEq.{0}
theorem aax:type_of% @Nat.mod_lt:=@Nat.mod_lt
theorem aay:type_of% @List.length_append.{0}:=@List.length_append.{0}
theorem aaz:type_of% @Nat.add_mul:=@Nat.add_mul
theorem aaA:type_of% @List.getElem?_map.{0,0}:=@List.getElem?_map.{0,0}
theorem aaB:type_of% @List.length_take.{0}:=@List.length_take.{0}
theorem aaC:type_of% @List.getElem?_of_mem.{0}:=@List.getElem?_of_mem.{0}
theorem aaD:type_of% @List.length_set.{0}:=@List.length_set.{0}
theorem aaE:type_of% @List.mem_range:=@List.mem_range
theorem aaF:type_of% @List.mem_map.{0,0}:=@List.mem_map.{0,0}
theorem aaG:type_of% @List.map_nil.{0,0}:=@List.map_nil.{0,0}
theorem aaH:type_of% @Bool.not_eq_true':=@Bool.not_eq_true'
theorem aaI:type_of% @List.flatten_cons.{0}:=@List.flatten_cons.{0}
theorem aaJ:type_of% @List.all_eq_true.{0}:=@List.all_eq_true.{0}
theorem aaL:type_of% @Bool.false_eq_true:=@Bool.false_eq_true
theorem aaM:type_of% @List.mem_append.{0}:=@List.mem_append.{0}
theorem aaN:type_of% @Nat.le_of_ble_eq_true:=@Nat.le_of_ble_eq_true
theorem aaS:type_of% @Option.getD_some.{0}:=@Option.getD_some.{0}
theorem aaW:type_of% @Nat.lt_succ_iff_lt_or_eq:=@Nat.lt_succ_iff_lt_or_eq
theorem aaX:type_of% @List.take_add_one.{0}:=@List.take_add_one.{0}
theorem aa2:type_of% @Prod.mk.injEq.{0,0}:=@Prod.mk.injEq.{0,0}
theorem aa3:type_of% @List.getElem?_set.{0}:=@List.getElem?_set.{0}
theorem aa4:type_of% @Option.map_some.{0,0}:=@Option.map_some.{0,0}
theorem aa5:type_of% @Nat.le_trans:=@Nat.le_trans
theorem aa6:type_of% @Nat.mul_le_mul_right:=@Nat.mul_le_mul_right
theorem aa7:type_of% @List.take_length.{0}:=@List.take_length.{0}
theorem aa8:type_of% @Int.eq_ofNat_of_zero_le:=@Int.eq_ofNat_of_zero_le
theorem abh:type_of% @List.length_reverse.{0}:=@List.length_reverse.{0}
theorem abi:type_of% @List.getElem?_take.{0}:=@List.getElem?_take.{0}
theorem abj:type_of% @Bool.eq_iff_iff:=@Bool.eq_iff_iff
theorem abk:type_of% @Bool.or_eq_true:=@Bool.or_eq_true
theorem abl:type_of% @Nat.not_lt_zero:=@Nat.not_lt_zero
theorem abm:type_of% @Int.toNat_natCast:=@Int.toNat_natCast
theorem abn:type_of% @List.length_pos_iff.{0}:=@List.length_pos_iff.{0}
theorem abC:type_of% @Nat.zero_add:=@Nat.zero_add
theorem abD:type_of% @List.nodup_cons.{0}:=@List.nodup_cons.{0}
theorem abE:type_of% @List.range_succ:=@List.range_succ
theorem abF:type_of% @Nat.mod_eq_of_lt:=@Nat.mod_eq_of_lt
theorem abG:type_of% @List.not_mem_nil.{0}:=@List.not_mem_nil.{0}
theorem abH:type_of% @List.getElem?_range:=@List.getElem?_range
theorem abI:type_of% @List.getElem?_eq_none.{0}:=@List.getElem?_eq_none.{0}
theorem abJ:type_of% @List.getElem?_eq_getElem.{0}:=@List.getElem?_eq_getElem.{0}
theorem abK:type_of% @List.nil_append.{0}:=@List.nil_append.{0}
theorem abL:type_of% @List.mem_of_mem_drop.{0}:=@List.mem_of_mem_drop.{0}
theorem abM:type_of% @List.mem_of_mem_take.{0}:=@List.mem_of_mem_take.{0}
theorem abN:type_of% @List.foldl_cons.{0,0}:=@List.foldl_cons.{0,0}
theorem abO:type_of% @List.append_nil.{0}:=@List.append_nil.{0}
theorem abP:type_of% @List.ext_getElem.{0}:=@List.ext_getElem.{0}
theorem abQ:type_of% @List.map_append.{0,0}:=@List.map_append.{0,0}
theorem abR:type_of% @List.all_cons.{0}:=@List.all_cons.{0}
theorem abT:type_of% @Nat.eq_of_beq_eq_true:=@Nat.eq_of_beq_eq_true
theorem abU:type_of% @List.map_set.{0,0}:=@List.map_set.{0,0}
theorem abV:type_of% @List.countP_cons.{0}:=@List.countP_cons.{0}
theorem abW:type_of% @Nat.zero_mul:=@Nat.zero_mul
theorem abY:type_of% @List.length_drop.{0}:=@List.length_drop.{0}
theorem abZ:type_of% @List.all_nil.{0}:=@List.all_nil.{0}
theorem ab2:type_of% @Option.some.inj.{0}:=@Option.some.inj.{0}
theorem ab3:type_of% @Nat.lt_of_lt_of_le:=@Nat.lt_of_lt_of_le
theorem ab6:type_of% @Nat.add_zero:=@Nat.add_zero
theorem ab8:type_of% @Nat.min_eq_left:=@Nat.min_eq_left
theorem aca:type_of% @Bool.false_or:=@Bool.false_or
theorem ace:type_of% @List.nodup_nil.{0}:=@List.nodup_nil.{0}
theorem acf:type_of% @List.mem_filter.{0}:=@List.mem_filter.{0}
theorem ach:type_of% @Bool.and_true:=@Bool.and_true
theorem aci:type_of% @List.getElem_map.{0,0}:=@List.getElem_map.{0,0}
theorem acl:type_of% @List.mem_cons_of_mem.{0}:=@List.mem_cons_of_mem.{0}
theorem acm:type_of% @Bool.true_and:=@Bool.true_and
theorem acn:type_of% @List.getElem?_append_right.{0}:=@List.getElem?_append_right.{0}
theorem aco:type_of% @List.flatten_append.{0}:=@List.flatten_append.{0}
theorem acp:type_of% @List.any_eq_false.{0}:=@List.any_eq_false.{0}
theorem acq:type_of% @List.map_map.{0,0,0}:=@List.map_map.{0,0,0}
theorem acr:type_of% @List.getElem?_append_left.{0}:=@List.getElem?_append_left.{0}
theorem acs:type_of% @Nat.add_assoc:=@Nat.add_assoc
theorem act:type_of% @List.getElem?_drop.{0}:=@List.getElem?_drop.{0}
theorem acu:type_of% @List.any_eq_true.{0}:=@List.any_eq_true.{0}
theorem acv:type_of% @List.pairwise_cons.{0}:=@List.pairwise_cons.{0}
theorem ac9:type_of% @List.map_congr_left.{0,0}:=@List.map_congr_left.{0,0}
theorem adb:type_of% @List.nodup_append.{0}:=@List.nodup_append.{0}
theorem adc:type_of% @List.mem_cons_self.{0}:=@List.mem_cons_self.{0}
theorem ade:type_of% @List.ext_getElem?.{0}:=@List.ext_getElem?.{0}
theorem adf:type_of% @List.length_eq_zero_iff.{0}:=@List.length_eq_zero_iff.{0}
theorem adg:type_of% @Nat.mod_two_eq_zero_or_one:=@Nat.mod_two_eq_zero_or_one
theorem adh:type_of% @Nat.le_max_left:=@Nat.le_max_left
theorem adm:type_of% @List.append_assoc.{0}:=@List.append_assoc.{0}
theorem ado:type_of% @List.take_append_drop.{0}:=@List.take_append_drop.{0}
theorem adq:type_of% @List.mem_singleton.{0}:=@List.mem_singleton.{0}
theorem adr:type_of% @List.find?_eq_none.{0}:=@List.find?_eq_none.{0}
theorem ads:type_of% @List.foldl_append.{0,0}:=@List.foldl_append.{0,0}
theorem adt:type_of% @List.mem_of_find?_eq_some.{0}:=@List.mem_of_find?_eq_some.{0}
theorem adu:type_of% @List.getElem_set.{0}:=@List.getElem_set.{0}
theorem adv:type_of% @List.getElem_range:=@List.getElem_range
theorem adw:type_of% @List.countP_eq_zero.{0}:=@List.countP_eq_zero.{0}
theorem adz:type_of% @List.countP_pos_iff.{0}:=@List.countP_pos_iff.{0}
theorem adB:type_of% @List.mem_or_eq_of_mem_set.{0}:=@List.mem_or_eq_of_mem_set.{0}
theorem adC:type_of% @Bool.or_eq_false_iff:=@Bool.or_eq_false_iff
theorem adD:type_of% @List.contains_eq_mem.{0}:=@List.contains_eq_mem.{0}
theorem adF:type_of% @List.drop_eq_getElem_cons.{0}:=@List.drop_eq_getElem_cons.{0}
theorem adG:type_of% @List.eq_of_mem_replicate.{0}:=@List.eq_of_mem_replicate.{0}
theorem adH:type_of% @Option.bind_eq_some_iff.{0,0}:=@Option.bind_eq_some_iff.{0,0}
inductive PV where
 |bool (b:Bool)
 |int (k:IntKind) (n:Int)
 |str (s:ByteArray)
 |UA|nils|Uv|TR|nili|ifc
 |box (cs:List PV)
 |sl (es:List (List PV))
 |mp (ag:Bool) (es:List (PV × List PV))
 |fn (f:Nat) (first cap:List PV)
 deriving Inhabited
inductive C where
 |p (v:PV)
 |Tn (id g off:Nat)
 |TS (id g i off:Nat)
 |hsl (id g sz off len:Nat)
 |T6 (id g:Nat)
 |hfn (f:Nat) (first cap:List C)
 deriving Inhabited
inductive V where
 |undef
 |one (c:C)
 |agg (cs:List C)
 |tup (vs:List V)
 deriving Inhabited
inductive Ob where
 |var (cs:List C)
 |arr (ty sz:Nat) (es:List (List PV))
 |TV (ty sz:Nat) (es:List (List C))
 |map (ag:Bool) (es:List (PV × List PV))
 |fvar (cs:List PV)
 |Ul (ty sz:Nat) (es:List (List PV))
 |fmap (ag:Bool) (es:List (PV × List PV))
 deriving Inhabited
abbrev Env:=Nat->V
abbrev aB:=Nat->Nat × Option Ob
def fD{α:Type}(f:Nat->α)(a:Nat)(x:α):Nat->α:=fun i=>if i=a then x else f i
theorem af{α:Type}(f:Nat->α)(a b:Nat)(x:α):fD f a x b=if b=a then x else f b:=rfl
inductive aC where
 |t (n:Nat)
 |i (n:Int)
 |b (x:Bool)
 |k (v:V)
inductive Hk where
 |bool|ptr|slc|map|fnc|ifc
 |str (ks:List Bool)
inductive w9 where
 |To (x:aC)
 |pick (c a b:aC)
 |alloc (site:Nat) (z:List PV)
 |box (site:Nat) (x:aC)
 |build (z:List PV) (parts:List (Nat × Nat × aC))
 |Tt (site ty sz:Nat) (parts:List aC)
 |load (k:Option Nat) (x:aC)
 |store (n:Nat) (a x:aC)
 |Tm (x:aC)
 |bin (op:BinOp) (x y:aC)
 |eqc (k:Hk) (neg:Bool) (x y:aC)
 |un (op:UnOp) (x:aC)
 |conv (k:IntKind) (x:aC)
 |bstr (x:aC)
 |mkfn (f:Nat) (first cap:List aC)
 |mkmap (site:Nat) (ag:Bool)
 |TK (site ty sz bytes:Nat) (z:List PV) (len cap:aC)
 |slice (sz:Nat) (x:aC) (lo hi:Option aC)
 |sslice (x:aC) (lo hi:Option aC)
 |Te (off:Nat) (x:aC)
 |Tx (sz:Nat) (x i:aC)
 |UR (len sz:Nat) (x i:aC)
 |fld (off:Nat) (k:Option Nat) (x:aC)
 |aidx (len sz:Nat) (k:Option Nat) (x i:aC)
 |sidx (x i:aC)
 |lookup (kd:Nat) (z:List PV) (agg ok:Bool) (x k:aC)
 |mupd (kd:Nat) (ag:Bool) (m k v:aC)
 |bad
 |extract (x:aC) (i:Nat)
 |call (site:Nat) (f:aC) (args:List aC)
 |slen (x:aC)
 |Ug (x:aC)
 |mlen (x:aC)
 |append (site ty sz bytes:Nat) (s x:aC)
 |max (x y:aC)
 |min (x y:aC)
 |clear (z:List PV) (x:aC)
structure az where
 dst:Option Nat
 op:w9
 guard:Option (Nat × Bool)
 anc:Nat
inductive an where
 |skip
 |region (draw:Bool) (ops:List az)
 |seq (a b:an)
 |cond (x:aC) (a b:an)
 |block (id:Nat) (c:an)
 |loop (c:an)
 |exit (id:Nat)
 |ret
 |bad
structure ca where
 ntmps:Nat
 results:List (Nat × Option (Option Nat))
 body:an
def ev (env:Env):aC->V
 | .t n=>env n
 | .i n=> .one (.p (.int .i64 n))
 | .b x=> .one (.p (.bool x))
 | .k v=>v
abbrev jv:=Nat × (Nat × Option Ob)
def app:List jv->aB->aB
 |[],b=>b
 |(i,o)::r,b=>app r (fD b i o)
def PV.norm:PV->PV
 | .nils=> .sl []
 |v=>v
def toP:C->Option PV
 | .p v=>some v.norm
 |_=>none
def xn:List C->Option (List PV)
 |[]=>some []
 |c::r=>match toP c,xn r with
  |some v,some vs=>some (v::vs)
  |_,_=>none
def fB:V->Option (List C)
 | .one c=>some [c]
 | .agg cs=>some cs
 |_=>none
def collect{α β:Type}(f:α->Option (β × List Nat)):List α->Option (List β × List Nat)
 |[]=>some ([],[])
 |a::r=>match f a,collect f r with
  |some (b,x),some (bs,y)=>some (b::bs,x++y)
  |_,_=>none
def cH(Tc:aB):Nat->C->Option (PV × List Nat)
 |0,_=>none
 |n+1,c=>match c with
  | .p v=>some (v.norm,[])
  | .Tn id g off=>match Tc id with
   |(g',some (.var cs))=>if g'=g then
     match collect (cH Tc n) cs with
     |some (ps,r)=>some (.box (ps.drop off),id::r)
     |none=>none
    else none
   |(g',some (.fvar ps))=>if g'=g then some (.box (ps.drop off),[id]) else none
   |_=>none
  | .TS id g i off=>match Tc id with
   |(g',some (.arr _ _ es))=>if g'=g then (es[i]?).map fun e=>(.box (e.drop off),[id]) else none
   |(g',some (.Ul _ _ es))=>if g'=g then (es[i]?).map fun e=>(.box (e.drop off),[id]) else none
   |_=>none
  | .hsl id g z off len=>match Tc id with
   |(g',some (.arr _ _ es))=>if g'=g/\off+len<=es.length then some (.sl ((es.drop off).take len),[id]) else none
   |(g',some (.Ul _ _ es))=>if g'=g/\off+len<=es.length then some (.sl ((es.drop off).take len),[id]) else none
   |(g',some (.TV _ _ es))=>if g'=g/\off+len<=es.length then
     match collect (collect (cH Tc n)) ((es.drop off).take len) with
     |some (ps,r)=>some (.sl ps,id::r)
     |none=>none
    else none
   |_=>none
  | .T6 id g=>match Tc id with
   |(g',some (.map ag es))=>if g'=g then some (.mp ag es,[id]) else none
   |(g',some (.fmap ag es))=>if g'=g then some (.mp ag es,[id]) else none
   |_=>none
  | .hfn f a b=>match collect (cH Tc n) a,collect (cH Tc n) b with
   |some (x,r),some (y,s)=>some (.fn f x y,r++s)
   |_,_=>none
def bN:Nat:=6
def fM(Tc:aB):V->Option (V × List Nat)
 | .one c=>(cH Tc bN c).map fun(v,r)=>(.one (.p v),r)
 | .agg cs=>(collect (cH Tc bN) cs).map fun(vs,r)=>(.agg (vs.map .p),r)
 |_=>none
def sD(Tc:aB)(all:List Nat)(id:Nat):Option (List jv):=
 match Tc id with
 |(g,some (.var cs))=>match collect (cH Tc bN) cs with
  |some (ps,r)=>if r.all all.contains then some [(id,(g,some (.fvar ps)))] else none
  |none=>none
 |(g,some (.arr ty sz es))=>some [(id,(g,some (.Ul ty sz es)))]
 |(g,some (.TV ty sz es))=>match collect (collect (cH Tc bN)) es with
  |some (ps,r)=>if r.all all.contains then some [(id,(g,some (.Ul ty sz ps)))] else none
  |none=>none
 |(g,some (.map ag es))=>some [(id,(g,some (.fmap ag es)))]
 |(_,none)=>none
 |_=>some []
def o9(Tc:aB)(all:List Nat):List Nat->Option (List jv)
 |[]=>some []
 |i::r=>match sD Tc all i,o9 Tc all r with
  |some a,some b=>some (a++b)
  |_,_=>none
def DN(Tc:aB)(ids:List Nat):Option (List jv):=o9 Tc ids ids
inductive RC where
 |p (v:PV)
 |own (ty sz:Nat) (es:List (List PV))
 deriving Inhabited
inductive RV where
 |one (c:RC)
 |agg (cs:List RC)
 |tup (vs:List RV)
 deriving Inhabited
def RC.pure:RC->RC
 | .p v=> .p v
 | .own _ _ es=> .p (.sl es)
def RV.vh:RV->RV
 | .one c=> .one c.pure
 | .agg cs=> .agg (cs.map RC.pure)
 | .tup vs=> .tup vs
def RV.pure:RV->RV
 | .tup vs=> .tup (vs.map RV.vh)
 |v=>v.vh
def RV.bK(b:Bool)(r:RV):RV:=match b with
 |true=>r.pure
 |false=>r
def PV.scalar:PV->Bool
 | .bool _| .int _ _| .str _| .UA| .nils| .Uv| .TR| .nili| .ifc=>true
 |_=>false
def RC.alone:RC->Bool
 | .p v=>v.scalar
 | .own _ _ es=>es.all fun e=>e.all PV.scalar
def eo(Tc:aB)(c:C):Option (RC × List Nat × List Nat):=
 match c with
 | .p v=>some (.p v,[],[])
 | .hsl id g z 0 len=>match Tc id with
  |(g',some (.arr ty sz es))=>if g'=g/\len<=es.length then some (.own ty sz (es.take len),[id],[]) else none
  |_=>(cH Tc bN c).map fun(v,r)=>(.p v,[],r)
 |_=>(cH Tc bN c).map fun(v,r)=>(.p v,[],r)
def dg(Tc:aB):List C->Option (List RC × List Nat × List Nat)
 |[]=>some ([],[],[])
 |c::r=>match eo Tc c,dg Tc r with
  |some (x,o,q),some (xs,os,qs)=>some (x::xs,o++os,q++qs)
  |_,_=>none
def cb:V->Option (List C)
 | .one c=>some [c]
 | .agg cs=>some cs
 |_=>none
def iF:List V->Option (List C)
 |[]=>some []
 |v::r=>match cb v,iF r with
  |some a,some b=>some (a++b)
  |_,_=>none
def et:V->Option (List C)
 | .tup vs=>iF vs
 |v=>cb v
def cX:V->List RC->RV × List RC
 | .one _,r::rs=>(.one r,rs)
 | .agg cs,rs=>(.agg (rs.take cs.length),rs.drop cs.length)
 |_,rs=>(.agg [],rs)
def nh:List V->List RC->List RV
 |[],_=>[]
 |v::r,rs=>(cX v rs).1::nh r (cX v rs).2
def eZ:V->List RC->RV
 | .tup vs,rs=> .tup (nh vs rs)
 |v,rs=>(cX v rs).1
def apart:List Nat->List Nat->Bool
 |[],_=>true
 |i::r,q=> !r.contains i&& !q.contains i&&apart r q
def en(Tc:aB)(v:V):Option RV:=
 match et v with
 |some cs=>match dg Tc cs with
  |some (x,o,q)=>if apart o q then some (eZ v x) else none
  |none=>none
 |none=>none
def ik(Tc:aB)(site:Nat):RC->C × List jv
 | .p v=>(.p v,[])
 | .own ty sz es=>(.hsl site ((Tc site).1+1) sz 0 es.length,[(site,((Tc site).1+1,some (.arr ty sz es)))])
def iC(Tc:aB)(site:Nat):List RC->List C × List jv
 |[]=>([],[])
 |c::r=>((ik Tc site c).1::(iC Tc (site+1) r).1,(ik Tc site c).2++(iC Tc (site+1) r).2)
def dA:RV->List RC
 | .one c=>[c]
 | .agg cs=>cs
 | .tup _=>[]
def gR:List RV->List RC
 |[]=>[]
 |v::r=>dA v++gR r
def eJ:RV->List RC
 | .tup vs=>gR vs
 |v=>dA v
def ff:RV->List C->V × List C
 | .one _,c::cs=>(.one c,cs)
 | .agg rs,cs=>(.agg (cs.take rs.length),cs.drop rs.length)
 |_,cs=>(.undef,cs)
def iQ:List RV->List C->List V
 |[],_=>[]
 |v::r,cs=>(ff v cs).1::iQ r (ff v cs).2
def lz:RV->List C->V
 | .tup vs,cs=> .tup (iQ vs cs)
 |v,cs=>(ff v cs).1
def RV.alone(r:RV):Bool:=(eJ r).all RC.alone
def lm(Tc:aB)(site:Nat)(r:RV):V × List jv:=(lz r (iC Tc site (eJ r)).1,(iC Tc site (eJ r)).2)
inductive d5 where
 |fail
 |done (v:V) (u:List jv) (rd:List Nat)
 |pc (f:Nat) (args:List V) (rd:List Nat) (site:Nat)
 |sc (f:Nat) (args:List V)
def xu(Tc:aB):V->Option (List C × List Nat)
 | .one (.p (.box cs))=>some (cs.map .p,[])
 | .one (.Tn id g off)=>match Tc id with
  |(g',some (.var cs))=>if g'=g then some (cs.drop off,[id]) else none
  |(g',some (.fvar cs))=>if g'=g then some ((cs.drop off).map .p,[id]) else none
  |_=>none
 | .one (.TS id g i off)=>match Tc id with
  |(g',some (.arr _ _ es))=>if g'=g then (es[i]?).map fun e=>((e.drop off).map .p,[id]) else none
  |(g',some (.Ul _ _ es))=>if g'=g then (es[i]?).map fun e=>((e.drop off).map .p,[id]) else none
  |(g',some (.TV _ _ es))=>if g'=g then (es[i]?).map fun e=>(e.drop off,[id]) else none
  |_=>none
 |_=>none
def gu(k:Option Nat)(cs:List C):Option V:=
 match k with
 |none=>match cs with
  |c::_=>some (.one c)
  |[]=>none
 |some n=>if n<=cs.length then some (.agg (cs.take n)) else none
def bc{α:Type}(cs:List α)(off:Nat)(xs:List α):List α:=cs.take off++xs++cs.drop (off+xs.length)
def uE(Tc:aB)(a:V)(n:Nat)(xs:List C):d5:=
 if xs.length≠n then .fail else
 match a with
 | .one (.Tn id g off)=>match Tc id with
  |(g',some (.var cs))=>if g'=g/\off+n<=cs.length then .done .undef [(id,(g,some (.var (bc cs off xs))))] [id] else .fail
  |_=> .fail
 | .one (.TS id g i off)=>match Tc id with
  |(g',some (.arr ty sz es))=>match es[i]?,xn xs with
   |some e,some ps=>if g'=g/\off+n<=e.length then .done .undef [(id,(g,some (.arr ty sz (es.set i (bc e off ps)))))] [id] else .fail
   |_,_=> .fail
  |_=> .fail
 |_=> .fail
def bh(Tc:aB):V->Option (List (List PV) × List Nat × List Nat)
 | .one (.p .nils)=>some ([],[],[])
 | .one (.p (.sl es))=>some (es,[],[])
 | .one (.hsl id g z off len)=>match Tc id with
  |(g',some (.arr _ _ es))=>if g'=g/\off+len<=es.length then some ((es.drop off).take len,[id],[]) else none
  |(g',some (.Ul _ _ es))=>if g'=g/\off+len<=es.length then some ((es.drop off).take len,[id],[]) else none
  |(g',some (.TV _ _ es))=>if g'=g/\off+len<=es.length then
    match collect (collect (cH Tc bN)) ((es.drop off).take len) with
    |some (ps,r)=>some (ps,[id],r)
    |none=>none
   else none
  |_=>if len=0 then some ([],[id],[]) else none
 |_=>none
def gI(sz:Nat)(es:List (List PV)):Bool:=es.all fun e=>e.length==sz
def kA:V->Option Nat
 | .one (.hsl _ _ z _ _)=>some z
 |_=>none
def room:Nat:=140737488355328
def ac(Tc:aB)(site ty sz bytes:Nat)(s x:V):d5:=
 match bh Tc x with
 |none=> .fail
 |some (new,rd,fr)=>
  if ¬ (kA x=some sz\/gI sz new=true) then .fail else
  match DN Tc fr with
  |none=> .fail
  |some fu=>
   match s with
   | .one (.p .nils)=>
    if new.length=0 then .done (.one (.p .nils)) fu (rd++fr) else
    if new.length*bytes<=room then
     .done (.one (.hsl site ((Tc site).1+1) sz 0 new.length)) (fu++[(site,((Tc site).1+1,some (.arr ty sz new)))]) (site::rd++fr)
    else .fail
   | .one (.hsl id g z 0 len)=>match Tc id with
    |(g',some (.arr WE TY es))=>
     if g'=g/\WE=ty/\TY=sz/\len<=es.length/\(len+new.length)*bytes<=room/\fr.contains id=false then
      .done (.one (.hsl site ((Tc site).1+1) sz 0 (len+new.length)))
       (fu++[(id,(g,none)),(site,((Tc site).1+1,some (.arr ty sz (es.take len++new))))]) (site::id::rd++fr)
     else .fail
    |_=> .fail
   |_=> .fail
def xE:V->Option Nat
 | .one (.p (.int _ n))=>if 0<=n then some n.toNat else none
 |_=>none
def ek(env:Env)(d:Nat):Option aC->Option Nat
 |none=>some d
 |some a=>xE (ev env a)
def fV(x:V)(sz lo hi:Nat):d5:=
 if ¬ lo<=hi then .fail else
 match x with
 | .one (.p .nils)=>if hi=0 then .done (.one (.p .nils)) [] [] else .fail
 | .one (.p (.sl es))=>if hi<=es.length/\gI sz es=true then .done (.one (.p (.sl ((es.drop lo).take (hi - lo))))) [] [] else .fail
 | .one (.hsl id g z off len)=>if hi<=len/\z=sz then .done (.one (.hsl id g z (off+lo) (hi - lo))) [] [] else .fail
 |_=> .fail
def tZ:V->Option Nat
 | .one (.p .nils)=>some 0
 | .one (.p (.sl es))=>some es.length
 | .one (.hsl _ _ _ _ len)=>some len
 |_=>none
def xz(Tc:aB):V->Option (Nat × List Nat)
 | .one (.p .Uv)=>some (0,[])
 | .one (.p (.mp _ es))=>some (es.length,[])
 | .one (.T6 id g)=>match Tc id with
  |(g',some (.map _ es))=>if g'=g then some (es.length,[id]) else none
  |(g',some (.fmap _ es))=>if g'=g then some (es.length,[id]) else none
  |_=>none
 |_=>none
def mapOf(Tc:aB)(ag:Bool):V->Option (List (PV × List PV) × List Nat)
 | .one (.p .Uv)=>some ([],[])
 | .one (.p (.mp Xv es))=>if Xv=ag then some (es,[]) else none
 | .one (.T6 id g)=>match Tc id with
  |(g',some (.map Xv es))=>if g'=g/\Xv=ag then some (es,[id]) else none
  |(g',some (.fmap Xv es))=>if g'=g/\Xv=ag then some (es,[id]) else none
  |_=>none
 |_=>none
def sameKey:PV->PV->Option Bool
 | .int k a, .int k' b=>if k=k' then some (a==b) else none
 | .str a, .str b=>some (a==b)
 | .bool a, .bool b=>some (a==b)
 |_,_=>none
def dU:PV->Nat
 | .int _ _=>0
 | .str _=>1
 | .bool _=>2
 |_=>3
def mapVal:Bool->List PV->Option V
 |true,cs=>some (.agg (cs.map .p))
 |false,[c]=>some (.one (.p c))
 |false,_=>none
def lR(k:PV):List (PV × List PV)->Nat->Option (Option (Nat × List PV))
 |[],_=>some none
 |(a,v)::r,i=>match sameKey k a with
  |some true=>some (some (i,v))
  |some false=>lR k r (i+1)
  |none=>none
def jM:Bool->V->Option (List C)
 |false, .one c=>some [c]
 |true, .agg cs=>some cs
 |_,_=>none
def gt(op:BinOp)(k:IntKind)(a b:Int):Option PV:=
 match op with
 | .add=>some (.int k (k.wrap (a+b)))
 | .sub=>some (.int k (k.wrap (a - b)))
 | .mul=>some (.int k (k.wrap (a*b)))
 | .quo=>if b=0 then none else some (.int k (k.wrap (a.tdiv b)))
 | .rem=>if b=0 then none else some (.int k (a.tmod b))
 | .eql=>some (.bool (a==b))
 | .neq=>some (.bool (a !=b))
 | .lss=>some (.bool (decide (a<b)))
 | .leq=>some (.bool (decide (a<=b)))
 | .gtr=>some (.bool (decide (b<a)))
 | .geq=>some (.bool (decide (b<=a)))
 | .and=>some (.int k (k.wrap (BitVec.ofInt k.bits a&&& BitVec.ofInt k.bits b).toNat))
 | .shl=>if b<0 then none else some (.int k (k.wrap (a*2 ^ min b.toNat k.bits)))
 | .shr=>if b<0 then none else some (.int k (a.fdiv (2 ^ min b.toNat k.bits)))
 |_=>none
def mJ(op:BinOp)(a b:ByteArray):Option PV:=
 match op with
 | .add=>if a.size+b.size<=9223372036854775807 then some (.str (a++b)) else none
 | .eql=>some (.bool (a.toList==b.toList))
 | .neq=>some (.bool (!(a.toList==b.toList)))
 |_=>none
def mI(op:BinOp):V->V->Option V
 | .one (.p (.int k a)), .one (.p (.int k' b))=>
  if k=k'\/op= .shl\/op= .shr then (gt op k a b).map fun v=> .one (.p v) else none
 | .one (.p (.str a)), .one (.p (.str b))=>(mJ op a b).map fun v=> .one (.p v)
 |_,_=>none
def CX:Bool->PV->PV->Option Bool
 |true, .int k a, .int k' b=>if k=k' then some (a==b) else none
 |false, .bool a, .bool b=>some (a==b)
 |_,_,_=>none
def mC:List Bool->List C->List C->Option Bool
 |[],[],[]=>some true
 |k::ks, .p a::r, .p b::s=>match CX k a b with
  |some true=>mC ks r s
  |some false=>some false
  |none=>none
 |_,_,_=>none
def pW:Hk->V->Option Bool
 | .ptr, .one (.p .UA)=>some true
 | .ptr, .one (.p (.box _))=>some false
 | .ptr, .one (.Tn _ _ _)=>some false
 | .ptr, .one (.TS _ _ _ _)=>some false
 | .slc, .one (.p .nils)=>some true
 | .slc, .one (.p (.sl (_::_)))=>some false
 | .slc, .one (.hsl _ _ _ _ _)=>some false
 | .map, .one (.p .Uv)=>some true
 | .map, .one (.p (.mp _ _))=>some false
 | .map, .one (.T6 _ _)=>some false
 | .fnc, .one (.p .TR)=>some true
 | .fnc, .one (.p (.fn _ _ _))=>some false
 | .fnc, .one (.hfn _ _ _)=>some false
 | .ifc, .one (.p .nili)=>some true
 | .ifc, .one (.p .ifc)=>some false
 |_,_=>none
def Ox:Hk->V->V->Option Bool
 | .bool, .one (.p (.bool a)), .one (.p (.bool b))=>some (a==b)
 | .str ks, .agg a, .agg b=>mC ks a b
 | .bool,_,_=>none
 | .str _,_,_=>none
 |k,a,b=>if pW k b=some true then pW k a else if pW k a=some true then pW k b else none
def fill(cs:List C):List (Nat × List C)->List C
 |[]=>cs
 |(off,xs)::r=>fill (bc cs off xs) r
def jA(env:Env):List (Nat × Nat × aC)->Option (List (Nat × List C))
 |[]=>some []
 |(off,n,a)::r=>match fB (ev env a),jA env r with
  |some cs,some q=>if cs.length=n then some ((off,cs)::q) else none
  |_,_=>none
def kr(env:Env)(sz:Nat):List aC->Option (List (List C))
 |[]=>some []
 |a::r=>match fB (ev env a),kr env sz r with
  |some cs,some q=>if cs.length=sz then some (cs::q) else none
  |_,_=>none
def qu:List (List C)->Option (List (List PV))
 |[]=>some []
 |c::r=>match xn c,qu r with
  |some v,some vs=>some (v::vs)
  |_,_=>none
def CN(env:Env)(a:aC):Option (Nat × List C × List C):=
 match ev env a with
 | .one (.p (.fn f x y))=>some (f,x.map .p,y.map .p)
 | .one (.hfn f x y)=>some (f,x,y)
 |_=>none
def lc(Tc:aB):List V->Option (List V × List Nat):=collect (fM Tc)
def bytesOf:List (List PV)->Option (List UInt8)
 |[]=>some []
 |[.int .u8 n]::r=>(bytesOf r).map (UInt8.ofNat n.toNat:: ·)
 |_::_=>none
structure Sys where
 P:Program
 Tf:Nat->Bool
 sites:Nat->List Nat
 lone:Nat->Bool
 fns:Nat->Option ca
 prim:Nat->List V->Option (Option RV)
def kJ(env:Env):List aC->Option (List C)
 |[]=>some []
 |a::r=>match ev env a,kJ env r with
  | .one c,some q=>some (c::q)
  |_,_=>none
def aP(Tf:Nat->Bool)(env:Env)(Tc:aB):w9->d5
 | .To x=> .done (ev env x) [] []
 | .pick c a b=>match ev env c with
  | .one (.p (.bool t))=> .done (if t then ev env a else ev env b) [] []
  |_=> .fail
 | .alloc s z=> .done (.one (.Tn s ((Tc s).1+1) 0)) [(s,((Tc s).1+1,some (.var (z.map .p))))] [s]
 | .box s x=>match fB (ev env x) with
  |some cs=> .done (.one (.Tn s ((Tc s).1+1) 0)) [(s,((Tc s).1+1,some (.var cs)))] [s]
  |none=> .fail
 | .build z ps=>match jA env ps with
  |some q=> .done (.agg (fill (z.map .p) q)) [] []
  |none=> .fail
 | .Tt s ty sz ps=>match kr env sz ps with
  |some es=>match qu es with
   |some qs=> .done (.one (.hsl s ((Tc s).1+1) sz 0 es.length)) [(s,((Tc s).1+1,some (.arr ty sz qs)))] [s]
   |none=> .done (.one (.hsl s ((Tc s).1+1) sz 0 es.length)) [(s,((Tc s).1+1,some (.TV ty sz es)))] [s]
  |none=> .fail
 | .load k x=>match xu Tc (ev env x) with
  |some (cs,r)=>match gu k cs with
   |some v=> .done v [] r
   |none=> .fail
  |none=> .fail
 | .store n a x=>match fB (ev env x) with
  |some xs=>uE Tc (ev env a) n xs
  |none=> .fail
 | .Tm x=>match ev env x with
  | .one (.Tn id g o)=> .done (.one (.Tn id g o)) [] []
  | .one (.TS id g i o)=> .done (.one (.TS id g i o)) [] []
  | .one (.p (.box cs))=> .done (.one (.p (.box cs))) [] []
  | .one (.hfn f a b)=> .done (.one (.hfn f a b)) [] []
  | .one (.p (.fn f a b))=> .done (.one (.p (.fn f a b))) [] []
  |_=> .fail
 | .bin op x y=>match mI op (ev env x) (ev env y) with
  |some v=> .done v [] []
  |none=> .fail
 | .eqc k neg x y=>match Ox k (ev env x) (ev env y) with
  |some b=> .done (.one (.p (.bool (if neg then !b else b)))) [] []
  |none=> .fail
 | .un op x=>match op,ev env x with
  | .not, .one (.p (.bool b))=> .done (.one (.p (.bool (!b)))) [] []
  | .neg, .one (.p (.int k n))=> .done (.one (.p (.int k (k.wrap (0 - n))))) [] []
  |_,_=> .fail
 | .conv k x=>match ev env x with
  | .one (.p (.int _ n))=> .done (.one (.p (.int k (k.wrap n)))) [] []
  |_=> .fail
 | .bstr x=>match bh Tc (ev env x) with
  |some (es,r,[])=>match bytesOf es with
   |some bs=> .done (.one (.p (.str ⟨bs.toArray⟩))) [] r
   |none=> .fail
  |_=> .fail
 | .mkfn f a b=>match kJ env a,kJ env b with
  |some x,some y=> .done (.one (.hfn f x y)) [] []
  |_,_=> .fail
 | .mkmap s ag=> .done (.one (.T6 s ((Tc s).1+1))) [(s,((Tc s).1+1,some (.map ag [])))] [s]
 | .TK s ty sz bytes z l c=>match xE (ev env l),xE (ev env c) with
  |some n,some m=>if n=m/\n*bytes<=room then
    .done (.one (.hsl s ((Tc s).1+1) sz 0 n)) [(s,((Tc s).1+1,some (.arr ty sz (List.replicate n z))))] [s]
   else .fail
  |_,_=> .fail
 | .slice sz x lo hi=>match tZ (ev env x) with
  |some n=>match ek env 0 lo,ek env n hi with
   |some l,some h=>fV (ev env x) sz l h
   |_,_=> .fail
  |none=> .fail
 | .sslice x lo hi=>match ev env x with
  | .one (.p (.str s))=>match ek env 0 lo,ek env s.size hi with
   |some l,some h=>if l<=h/\h<=s.size then .done (.one (.p (.str (s.extract l h)))) [] [] else .fail
   |_,_=> .fail
  |_=> .fail
 | .Te off x=>match ev env x with
  | .one (.Tn id g o)=> .done (.one (.Tn id g (o+off))) [] []
  | .one (.TS id g i o)=> .done (.one (.TS id g i (o+off))) [] []
  | .one (.p (.box cs))=> .done (.one (.p (.box (cs.drop off)))) [] []
  |_=> .fail
 | .Tx sz x i=>match xE (ev env i),ev env x with
  |some n, .one (.p (.sl es))=>match es[n]? with
   |some e=>if e.length=sz then .done (.one (.p (.box e))) [] [] else .fail
   |none=> .fail
  |some n, .one (.hsl id g z off len)=>if n<len/\z=sz then .done (.one (.TS id g (off+n) 0)) [] [] else .fail
  |_,_=> .fail
 | .UR len sz x i=>match xE (ev env i),ev env x with
  |some n, .one (.Tn id g o)=>if n<len then .done (.one (.Tn id g (o+n*sz))) [] [] else .fail
  |some n, .one (.TS id g j o)=>if n<len then .done (.one (.TS id g j (o+n*sz))) [] [] else .fail
  |some n, .one (.p (.box cs))=>if n<len then .done (.one (.p (.box (cs.drop (n*sz))))) [] [] else .fail
  |_,_=> .fail
 | .fld off k x=>match ev env x with
  | .agg cs=>match gu k (cs.drop off) with
   |some v=> .done v [] []
   |none=> .fail
  |_=> .fail
 | .aidx len sz k x i=>match xE (ev env i),ev env x with
  |some n, .agg cs=>if n<len then
    match gu k (cs.drop (n*sz)) with
    |some v=> .done v [] []
    |none=> .fail
   else .fail
  |_,_=> .fail
 | .sidx x i=>match xE (ev env i),ev env x with
  |some n, .one (.p (.str s))=>match s[n]? with
   |some b=> .done (.one (.p (.int .u8 b.toNat))) [] []
   |none=> .fail
  |_,_=> .fail
 | .lookup kd z agg ok x k=>match mapOf Tc agg (ev env x),ev env k with
  |some (es,r), .one (.p q)=>if dU q≠kd then .fail else match lR q es 0 with
   |some f=>match mapVal agg ((f.map (·.2)).getD z) with
    |some w=> .done (if ok then .tup [w, .one (.p (.bool f.isSome))] else w) [] r
    |none=> .fail
   |none=> .fail
  |_,_=> .fail
 | .bad=> .fail
 | .mupd kd ag m k v=>match ev env m,ev env k,jM ag (ev env v) with
  | .one (.T6 id g), .one (.p q),some cs=>match Tc id,xn cs with
   |(g',some (.map Xv es)),some ps=>if g'=g/\Xv=ag/\dU q=kd then
     match lR q es 0 with
     |some (some (i,_))=> .done .undef [(id,(g,some (.map ag (es.set i (q,ps)))))] [id]
     |some none=> .done .undef [(id,(g,some (.map ag (es++[(q,ps)]))))] [id]
     |none=> .fail
    else .fail
   |_,_=> .fail
  |_,_,_=> .fail
 | .extract x i=>match ev env x with
  | .tup vs=>match vs[i]? with
   |some v=> .done v [] []
   |none=> .fail
  |_=> .fail
 | .call s f as=>match CN env f with
  |some (g,a,b)=>
   if Tf g then .sc g (a.map .one++as.map (ev env)++b.map .one)
   else match lc Tc (a.map .one++as.map (ev env)++b.map .one) with
    |some (vs,r)=> .pc g vs r s
    |none=> .fail
  |none=> .fail
 | .slen x=>match ev env x with
  | .one (.p (.str s))=> .done (.one (.p (.int .i64 s.size))) [] []
  |_=> .fail
 | .Ug x=>match tZ (ev env x) with
  |some n=> .done (.one (.p (.int .i64 n))) [] []
  |none=> .fail
 | .mlen x=>match xz Tc (ev env x) with
  |some (n,r)=> .done (.one (.p (.int .i64 n))) [] r
  |none=> .fail
 | .append s ty sz bytes d x=>ac Tc s ty sz bytes (ev env d) (ev env x)
 | .max x y=>match ev env x,ev env y with
  | .one (.p (.int k a)), .one (.p (.int _ b))=> .done (.one (.p (.int k (if b>a then b else a)))) [] []
  |_,_=> .fail
 | .min x y=>match ev env x,ev env y with
  | .one (.p (.int k a)), .one (.p (.int _ b))=> .done (.one (.p (.int k (if b<a then b else a)))) [] []
  |_,_=> .fail
 | .clear z x=>match ev env x with
  | .one (.p .nils)=> .done (.tup []) [] []
  | .one (.p (.sl []))=> .done (.tup []) [] []
  | .one (.hsl id g _ off len)=>if len=0 then .done (.tup []) [] [] else match Tc id with
   |(g',some (.arr ty sz es))=>if g'=g/\sz=z.length/\off+len<=es.length then .done (.tup []) [(id,(g,some (.arr ty sz (bc es off (List.replicate len z)))))] [id] else .fail
   |_=> .fail
  |_=> .fail
structure dE where
 rd:List Nat
 wr:List Nat
 fs:List Nat
structure Al where
 any:Bool
 ids:List Nat
 fs:List Nat
def Al.all:Al:=⟨true,[],[]⟩
def bY(id:Nat):Nat:=id/64000000
def Al.ok(a:Al)(id:Nat):Bool:=a.any||a.ids.contains id||a.fs.contains (bY id)
def Al.kB(a:Al)(l:List Nat):Bool:=l.all a.ok
def Al.holds(a b:Al):Bool:=a.any||(a.kB b.ids&&b.fs.all a.fs.contains)
structure Ctx where
 Tf:Nat->Bool
 sites:Nat->List Nat
 lone:Nat->Bool
 al:Al
def dG(Tc:aB):Nat->C->List Nat
 |0,_=>[]
 |n+1,c=>match c with
  | .p _=>[]
  | .Tn id _ _=>id::match Tc id with
   |(_,some (.var cs))=>(cs.map (dG Tc n)).flatten
   |_=>[]
  | .TS id _ _ _=>id::match Tc id with
   |(_,some (.TV _ _ es))=>(es.flatten.map (dG Tc n)).flatten
   |_=>[]
  | .hsl id _ _ _ _=>id::match Tc id with
   |(_,some (.TV _ _ es))=>(es.flatten.map (dG Tc n)).flatten
   |_=>[]
  | .T6 id _=>[id]
  | .hfn _ a b=>(a.map (dG Tc n)).flatten++(b.map (dG Tc n)).flatten
def co(Tc:aB):V->List Nat
 | .one c=>dG Tc bN c
 | .agg cs=>(cs.map (dG Tc bN)).flatten
 |_=>[]
def allow(sh:Ctx)(f:Nat)(vs:List V)(Tc:aB):Al:=⟨false,(vs.map (co Tc)).flatten,sh.sites f⟩
def put(env:Env)(d:Option Nat)(v:V):Env:=
 match d with
 |some t=>fD env t v
 |none=>env
abbrev cG:=Nat->List V->Option RV
abbrev ee:=Nat->List V->Al->aB->Option (V × aB)
def land(Tc:aB)(rd:List Nat)(site:Nat)(r:RV):Option (V × List jv):=
 if rd=[]\/r.alone then some (lm Tc site r)
 else match DN Tc rd with
  |some u=>some ((lm Tc site r).1,u++(lm Tc site r).2)
  |none=>none
def wanted(env:Env):Option (Nat × Bool)->Option Bool
 |none=>some true
 |some (t,want)=>match env t with
  | .one (.p (.bool b))=>some (b==want)
  | .undef=>some false
  |_=>none
def step1(sh:Ctx)(cp:cG)(cs:ee)(o:az)(env:Env)(Tc:aB):Option (Env × aB × dE):=
 match wanted env o.guard with
 |none=>none
 |some false=>some (put env o.dst .undef,Tc,⟨[],[],[]⟩)
 |some true=>match aP sh.Tf env Tc o.op with
  | .fail=>none
  | .done v u r=>if sh.al.kB (r++u.map (·.1)) then some (put env o.dst v,app u Tc,⟨r,u.map (·.1),[]⟩) else none
  | .pc f vs r s=>match cp f vs with
   |some x=>match land Tc r s (x.bK (sh.lone s)) with
    |some (v,u)=>if sh.al.kB (r++u.map (·.1)) then some (put env o.dst v,app u Tc,⟨r++u.map (·.1),u.map (·.1),[]⟩) else none
    |none=>none
   |none=>none
  | .sc f vs=>if sh.al.holds (allow sh f vs Tc) then
    match cs f vs (allow sh f vs Tc) Tc with
    |some (v,Td)=>some (put env o.dst v,Td,⟨(allow sh f vs Tc).ids,(allow sh f vs Tc).ids,(allow sh f vs Tc).fs⟩)
    |none=>none
   else none
def steps(sh:Ctx)(cp:cG)(cs:ee):List az->Env->aB->Option (Env × aB × List dE)
 |[],env,Tc=>some (env,Tc,[])
 |o::r,env,Tc=>match step1 sh cp cs o env Tc with
  |some (Tg,Td,e)=>match steps sh cp cs r Tg Td with
   |some (X4,WD,es)=>some (X4,WD,e::es)
   |none=>none
  |none=>none
def meets(a b:List Nat):Bool:=a.any fun i=>b.contains i
def rk(fs ids:List Nat):Bool:=ids.any fun i=>fs.contains (bY i)
def kS(a b:dE):Bool:=
 meets a.wr b.rd||meets a.wr b.wr||meets a.rd b.wr||meets a.fs b.fs||rk a.fs (b.rd++b.wr)||rk b.fs (a.rd++a.wr)
def vw(anc:Nat)(e:dE):Nat->List dE->Bool
 |_,[]=>true
 |j,x::r=>(anc.testBit j|| !kS x e)&&vw anc e (j+1) r
def dX:List az->List dE->List dE->Bool
 |o::os,past,e::es=>vw o.anc e 0 past&&dX os (past++[e]) es
 |_,_,_=>true
inductive fJ where
 |normal
 |exit (id:Nat)
 |ret
def iter(f:Env->aB->Option (fJ × Env × aB)):Nat->Env->aB->Option (fJ × Env × aB)
 |0,_,_=>none
 |n+1,env,Tc=>match f env Tc with
  |some (.normal,Tg,Td)=>iter f n Tg Td
  |r=>r
def exec(sh:Ctx)(cp:cG)(cs:ee)(n:Nat):an->Env->aB->Option (fJ × Env × aB)
 | .skip,env,Tc=>some (.normal,env,Tc)
 | .region d ops,env,Tc=>match steps sh cp cs ops env Tc with
  |some (Tg,Td,es)=>if d then (if dX ops [] es then some (.normal,Tg,Td) else none) else some (.normal,Tg,Td)
  |none=>none
 | .seq a b,env,Tc=>match exec sh cp cs n a env Tc with
  |some (.normal,Tg,Td)=>exec sh cp cs n b Tg Td
  |r=>r
 | .cond x a b,env,Tc=>match ev env x with
  | .one (.p (.bool t))=>if t then exec sh cp cs n a env Tc else exec sh cp cs n b env Tc
  |_=>none
 | .block id c,env,Tc=>match exec sh cp cs n c env Tc with
  |some (.exit i,Tg,Td)=>if i=id then some (.normal,Tg,Td) else some (.exit i,Tg,Td)
  |r=>r
 | .loop c,env,Tc=>iter (exec sh cp cs n c) n env Tc
 | .exit id,env,Tc=>some (.exit id,env,Tc)
 | .ret,env,Tc=>some (.ret,env,Tc)
 | .bad,_,_=>none
def nG(args:List V):Env:=fun i=>args.getD i .undef
def Gr:V->Option V
 | .tup _=>none
 |v=>some v
def cF(al:Al)(env:Env)(Tc:aB):List (Nat × Option (Option Nat))->Option (List V)
 |[]=>some []
 |(t,none)::r=>match Gr (env t),cF al env Tc r with
  |some v,some q=>some (v::q)
  |_,_=>none
 |(t,some k)::r=>match xu Tc (env t),cF al env Tc r with
  |some (cs,rd),some q=>if al.kB rd then (gu k cs).map (· ::q) else none
  |_,_=>none
def uP:List V->V
 |[v]=>v
 |vs=> .tup vs
def qS:aB:=fun _=>(0,none)
def l9(sh:Ctx)(cp:cG)(cs:ee)(n:Nat)(fn:ca)(args:List V)(Tc:aB):Option (V × aB):=
 match exec sh cp cs n fn.body (nG args) Tc with
 |some (.normal,env,Td)=>(cF sh.al env Td fn.results).map fun vs=>(uP vs,Td)
 |some (.ret,env,Td)=>(cF sh.al env Td fn.results).map fun vs=>(uP vs,Td)
 |_=>none
def Ep(sh:Ctx)(cp:cG)(cs:ee)(n:Nat)(fn:ca)(args:List V):Option RV:=
 match l9 sh cp cs n fn args qS with
 |some (v,Tc)=>en Tc v
 |none=>none
def Sys.ctx(S:Sys)(a:Al):Ctx:=⟨S.Tf,S.sites,S.lone,a⟩
mutual
def dN(S:Sys):Nat->cG
 |0,_,_=>none
 |n+1,f,args=>match S.prim f args with
  |some r=>r
  |none=>match S.fns f with
   |some fn=>if args.length<=fn.ntmps then Ep (S.ctx .all) (dN S n) (dy S n) n fn args else none
   |none=>none
def dy(S:Sys):Nat->ee
 |0,_,_,_,_=>none
 |n+1,f,args,al,Tc=>match S.fns f with
  |some fn=>if args.length<=fn.ntmps then l9 (S.ctx al) (dN S n) (dy S n) n fn args Tc else none
  |none=>none
end
def aH(S:Sys)(f:Nat)(args:List V)(r:RV):Prop:= ∃ n,dN S n f args=some r
def pz(S:Sys)(f:Nat)(args:List V)(al:Al)(Tc:aB)(v:V)(Td:aB):Prop:= ∃ n,dy S n f args al Tc=some (v,Td)
abbrev cZ:=fJ->Env->aB->Prop
def W (S:Sys)(al:Al)(c:an)(Q:cZ)(env:Env)(Tc:aB):Prop:=
 ∃ n e Tg Td,exec (S.ctx al) (dN S n) (dy S n) n c env Tc=some (e,Tg,Td)/\Q e Tg Td
def WO (S:Sys)(al:Al)(ops:List az)(Q:Env->aB->List dE->Prop)(env:Env)(Tc:aB)(tr:List dE):Prop:=
 ∃ n Tg Td es,steps (S.ctx al) (dN S n) (dy S n) ops env Tc=some (Tg,Td,es)/\Q Tg Td (tr++es)
end Go.Abs
namespace Go.Abs
def S8(a b:cG):Prop:= ∀ f x r,a f x=some r->b f x=some r
def SLe(a b:ee):Prop:= ∀ f x l k r,a f x l k=some r->b f x l k=some r
section
variable {sh:Ctx} {cp Vs:cG} {cs cs':ee} (hp:S8 cp Vs) (hs:SLe cs cs')
include hp hs
theorem uW{o:az}{env:Env}{Tc:aB}{r:Env × aB × dE}(h:step1 sh cp cs o env Tc=some r):step1 sh Vs cs' o env Tc=some r:=by
 unfold step1 at h ⊢;cases hw:wanted env o.guard with
 |none=>simp[hw] at h
 |some b=>
  cases b with
  |false=>simpa [hw] using h
  |true=>
   simp only[hw] at h ⊢;cases TD:aP sh.Tf env Tc o.op with
   |fail=>simp[TD] at h
   |done v u rd=>simpa [TD] using h
   |pc f vs rd s=>
    simp only[TD] at h ⊢;cases hc:cp f vs with
    |none=>simp[hc] at h
    |some x=>rw[hp _ _ _ hc];simpa [hc] using h
   |sc f vs=>
    simp only[TD] at h ⊢;split at h
    ·rename_i ha;rw[if_pos ha];cases hc:cs f vs (allow sh f vs Tc) Tc with
     |none=>simp[hc] at h
     |some x=>rw[hs _ _ _ _ _ hc];simpa [hc] using h
    ·cases h
theorem uU: ∀ {ops:List az} {env:Env} {Tc:aB} {r:Env × aB × List dE},steps sh cp cs ops env Tc=some r->steps sh Vs cs' ops env Tc=some r:=by
 intro ops
 induction ops with
 |nil=>intro env Tc r h;simpa [steps] using h
 |cons o os ih=>
  intro env Tc r h;simp only[steps] at h ⊢;cases h1:step1 sh cp cs o env Tc with
  |none=>simp[h1] at h
  |some x=>
   obtain⟨e1,b1,f1⟩:=x;rw[uW hp hs h1];simp only[h1] at h ⊢;cases h2:steps sh cp cs os e1 b1 with
   |none=>simp[h2] at h
   |some y=>rw[ih h2];simpa [h2] using h
omit hp hs in
theorem yC{f g:Env->aB->Option (fJ × Env × aB)}(hfg: ∀ e b r,f e b=some r->g e b=some r):
  ∀ {n m:Nat} {env:Env} {Tc:aB} {r:fJ × Env × aB},n<=m->iter f n env Tc=some r->iter g m env Tc=some r:=by
 intro n
 induction n with
 |zero=>intro m env Tc r _ h;simp[iter] at h
 |succ n ih=>
  intro m env Tc r hm h;obtain⟨m,rfl⟩: ∃ k,m=k+1:=⟨m - 1,by omega⟩;simp only[iter] at h ⊢;cases hf:f env Tc with
  |none=>simp[hf] at h
  |some x=>
   obtain⟨e,e1,b1⟩:=x;rw[hfg _ _ _ hf];cases e with
   |normal=>simp only[hf] at h ⊢;exact ih (by omega) h
   |exit i=>simpa [hf] using h
   |ret=>simpa [hf] using h
theorem yS{n m:Nat}(hnm:n<=m): ∀ {c:an} {env:Env} {Tc:aB} {r:fJ × Env × aB},exec sh cp cs n c env Tc=some r->exec sh Vs cs' m c env Tc=some r:=by
 intro c
 induction c with
 |skip=>intro env Tc r h;simpa [exec] using h
 |region d ops=>
  intro env Tc r h;simp only[exec] at h ⊢;cases h1:steps sh cp cs ops env Tc with
  |none=>simp[h1] at h
  |some x=>rw[uU hp hs h1];simpa [h1] using h
 |seq a b iha ihb=>
  intro env Tc r h;simp only[exec] at h ⊢;cases h1:exec sh cp cs n a env Tc with
  |none=>simp[h1] at h
  |some x=>
   obtain⟨e,e1,b1⟩:=x;rw[iha h1];cases e with
   |normal=>simp only[h1] at h ⊢;exact ihb h
   |exit i=>simpa [h1] using h
   |ret=>simpa [h1] using h
 |cond x a b iha ihb=>
  intro env Tc r h;simp only[exec] at h ⊢;split at h
  ·split at h
   ·rename_i ht;simp only[ht,if_true];exact iha h
   ·rename_i ht;simp only[ht];exact ihb h
  ·cases h
 |block id c ih=>
  intro env Tc r h;simp only[exec] at h ⊢;cases h1:exec sh cp cs n c env Tc with
  |none=>simp[h1] at h
  |some x=>rw[ih h1];simpa [h1] using h
 |loop c ih=>
  intro env Tc r h;simp only[exec] at h ⊢;exact yC (fun _ _ _ h=>ih h) hnm h
 |exit id=>intro env Tc r h;simpa [exec] using h
 |ret=>intro env Tc r h;simpa [exec] using h
 |bad=>intro env Tc r h;simp[exec] at h
theorem r5{n m:Nat}(hnm:n<=m){fn:ca}{args:List V}{Tc:aB}{r:V × aB}(h:l9 sh cp cs n fn args Tc=some r):l9 sh Vs cs' m fn args Tc=some r:=by
 unfold l9 at h ⊢;cases h1:exec sh cp cs n fn.body (nG args) Tc with
 |none=>simp[h1] at h
 |some x=>rw[yS hp hs hnm h1];simpa [h1] using h
theorem HP{n m:Nat}(hnm:n<=m){fn:ca}{args:List V}{r:RV}(h:Ep sh cp cs n fn args=some r):Ep sh Vs cs' m fn args=some r:=by
 unfold Ep at h ⊢;cases h1:l9 sh cp cs n fn args qS with
 |none=>simp[h1] at h
 |some x=>rw[r5 hp hs hnm h1];simpa [h1] using h
end
theorem za(S:Sys): ∀ n,S8 (dN S n) (dN S (n+1))/\SLe (dy S n) (dy S (n+1)):=by
 intro n
 induction n with
 |zero=>exact⟨fun f x r h=>by simp[dN] at h,fun f x l k r h=>by simp[dy] at h⟩
 |succ n ih=>
  refine⟨fun f x r h=> ?_,fun f x l k r h=> ?_⟩
  ·rw[dN] at h ⊢;cases hp:S.prim f x with
   |some r'=>simpa [hp] using h
   |none=>
    simp only[hp] at h ⊢;cases hf:S.fns f with
    |none=>simp[hf] at h
    |some fn=>
     simp only[hf] at h ⊢;split at h
     ·rename_i hl;rw[if_pos hl];exact HP ih.1 ih.2 (by omega) h
     ·cases h
  ·rw[dy] at h ⊢;cases hf:S.fns f with
   |none=>simp[hf] at h
   |some fn=>
    simp only[hf] at h ⊢;split at h
    ·rename_i hl;rw[if_pos hl];exact r5 ih.1 ih.2 (by omega) h
    ·cases h
theorem nW(S:Sys){n m:Nat}(h:n<=m):S8 (dN S n) (dN S m):=by
 induction h with
 |refl=>exact fun _ _ _ h=>h
 |step _ ih=>exact fun f x r hr=>(za S _).1 f x r (ih f x r hr)
theorem nV(S:Sys){n m:Nat}(h:n<=m):SLe (dy S n) (dy S m):=by
 induction h with
 |refl=>exact fun _ _ _ _ _ h=>h
 |step _ ih=>exact fun f x l k r hr=>(za S _).2 f x l k r (ih f x l k r hr)
theorem aH.MJ{S:Sys}{f:Nat}{args:List V}{r r':RV}(h:aH S f args r)(h':aH S f args r'):r=r':=by
 obtain⟨n,hn⟩:=h;obtain⟨m,hm⟩:=h';have a:=nW S (adh n m) _ _ _ hn;have b:=nW S (Nat.le_max_right n m) _ _ _ hm;rw[a] at b;exact ab2 b
theorem mA(S:Sys){al:Al}{n m:Nat}(h:n<=m){c:an}{env:Env}{Tc:aB}{r:fJ × Env × aB}(hr:exec (S.ctx al) (dN S n) (dy S n) n c env Tc=some r):
  exec (S.ctx al) (dN S m) (dy S m) m c env Tc=some r:=yS (nW S h) (nV S h) h hr
theorem JQ(S:Sys){al:Al}{n m:Nat}(h:n<=m){ops:List az}{env:Env}{Tc:aB}{r:Env × aB × List dE}(hr:steps (S.ctx al) (dN S n) (dy S n) ops env Tc=some r):
  steps (S.ctx al) (dN S m) (dy S m) ops env Tc=some r:=uU (nW S h) (nV S h) hr
variable {S:Sys} {al:Al} {Q:cZ} {env:Env} {Tc:aB}
theorem W.mono{c:an}{Q':cZ}(h:W S al c Q env Tc)(hq: ∀ e env Tc,Q e env Tc->Q' e env Tc):W S al c Q' env Tc:=by
 obtain⟨n,e,Tg,Td,h1,h2⟩:=h;exact⟨n,e,Tg,Td,h1,hq _ _ _ h2⟩
theorem RX(h:Q .normal env Tc):W S al .skip Q env Tc:=⟨0,_,_,_,rfl,h⟩
theorem RY{id:Nat}(h:Q (.exit id) env Tc):W S al (.exit id) Q env Tc:=⟨0,_,_,_,rfl,h⟩
theorem S5(h:Q .ret env Tc):W S al .ret Q env Tc:=⟨0,_,_,_,rfl,h⟩
def Bi(next:Env->aB->Prop)(Q:cZ):cZ
 | .normal,env,Tc=>next env Tc
 |e,env,Tc=>Q e env Tc
theorem S4{a b:an}(h:W S al a (Bi (W S al b Q) Q) env Tc):W S al (.seq a b) Q env Tc:=by
 obtain⟨n,e,Tg,Td,h1,h2⟩:=h;cases e with
 |normal=>
  obtain⟨m,e,Tz,Tp,h3,h4⟩:=h2;refine⟨max n m,e,Tz,Tp,?_,h4⟩;simp only[exec];rw[mA S (adh n m) h1];exact mA S (Nat.le_max_right n m) h3
 |exit i=>exact⟨n,_,_,_,by simp[exec,h1],h2⟩
 |ret=>exact⟨n,_,_,_,by simp[exec,h1],h2⟩
theorem R0{x:aC}{a b:an}{t:Bool}(hx:ev env x= .one (.p (.bool t)))(h:if t=true then W S al a Q env Tc else W S al b Q env Tc):W S al (.cond x a b) Q env Tc:=by
 cases t with
 |true=>obtain⟨n,e,Tg,Td,h1,h2⟩:=h;exact⟨n,e,Tg,Td,by simp[exec,hx,h1],h2⟩
 |false=>obtain⟨n,e,Tg,Td,h1,h2⟩:=(by simpa using h:W S al b Q env Tc);exact⟨n,e,Tg,Td,by simp[exec,hx,h1],h2⟩
def ey(id:Nat)(Q:cZ):cZ
 | .exit i,env,Tc=>if i=id then Q .normal env Tc else Q (.exit i) env Tc
 |e,env,Tc=>Q e env Tc
theorem Pa{id:Nat}{c:an}(h:W S al c (ey id Q) env Tc):W S al (.block id c) Q env Tc:=by
 obtain⟨n,e,Tg,Td,h1,h2⟩:=h;cases e with
 |normal=>exact⟨n,_,_,_,by simp[exec,h1],h2⟩
 |ret=>exact⟨n,_,_,_,by simp[exec,h1],h2⟩
 |exit i=>
  simp only[ey] at h2;by_cases hi:i=id
  ·simp only[hi,if_true] at h2;exact⟨n,_,_,_,by simp[exec,h1,hi],h2⟩
  ·simp only[hi,if_false] at h2;exact⟨n,_,_,_,by simp[exec,h1,hi],h2⟩
theorem Ap(S:Sys){c:an}{n m k l:Nat}(h:n<=m)(hk:k<=l){r:fJ × Env × aB}(hr:iter (exec (S.ctx al) (dN S n) (dy S n) n c) k env Tc=some r):
  iter (exec (S.ctx al) (dN S m) (dy S m) m c) l env Tc=some r:=yC (fun _ _ _ h'=>mA S h h') hk hr
theorem S6{c:an}(I:Nat->Env->aB->Prop)(k0 N:Nat)(hk:k0<=N)(h0:I k0 env Tc)
  (round: ∀ k env Tc,k<=N->I k env Tc->W S al c (Bi (fun Tg Td=>k<N/\I (k+1) Tg Td) Q) env Tc):W S al (.loop c) Q env Tc:=by
 have key: ∀ j k env Tc,k+j=N->I k env Tc-> ∃ n l e Tg Td,iter (exec (S.ctx al) (dN S n) (dy S n) n c) l env Tc=some (e,Tg,Td)/\Q e Tg Td:=by
  intro j
  induction j with
  |zero=>
   intro k env Tc hkj hI;obtain⟨n,e,TI,Tq,h1,h2⟩:=round k env Tc (by omega) hI;cases e with
   |normal=>obtain⟨Ti,_⟩:=h2;omega
   |exit i=>exact⟨n,1,_,_,_,by simp[iter,h1],h2⟩
   |ret=>exact⟨n,1,_,_,_,by simp[iter,h1],h2⟩
  |succ j ih=>
   intro k env Tc hkj hI;obtain⟨n,e,TI,Tq,h1,h2⟩:=round k env Tc (by omega) hI;cases e with
   |normal=>
    obtain⟨_,hI1⟩:=h2;obtain⟨m,l,e,Tz,Tp,h3,h4⟩:=ih (k+1) TI Tq (by omega) hI1;refine⟨max n m,l+1,e,Tz,Tp,?_,h4⟩;simp only[iter];rw[mA S (adh n m) h1];exact Ap S (Nat.le_max_right n m) (aal _) h3
   |exit i=>exact⟨n,1,_,_,_,by simp[iter,h1],h2⟩
   |ret=>exact⟨n,1,_,_,_,by simp[iter,h1],h2⟩
 obtain⟨n,l,e,Tg,Td,h1,h2⟩:=key (N - k0) k0 env Tc (by omega) h0;refine⟨max n l,e,Tg,Td,?_,h2⟩;simp only[exec];exact Ap S (adh n l) (Nat.le_max_right n l) h1
theorem Mv{d:Bool}{ops:List az}(h:WO S al ops (fun env Tc es=>(d=true->dX ops [] es=true)/\Q .normal env Tc) env Tc []):W S al (.region d ops) Q env Tc:=by
 obtain⟨n,Tg,Td,es,h1,h2,h3⟩:=h;refine⟨n, .normal,Tg,Td,?_,h3⟩;simp only[exec,h1];cases d with
 |false=>simp
 |true=>simpa using h2
theorem R1{R:Env->aB->List dE->Prop}{tr:List dE}(h:R env Tc tr):WO S al [] R env Tc tr:=⟨0,env,Tc,[],rfl,by simpa using h⟩
theorem uB{o:az}{os:List az}{R:Env->aB->List dE->Prop}{tr:List dE}{n:Nat}{TI:Env}{Tq:aB}{e:dE}
  (h1:step1 (S.ctx al) (dN S n) (dy S n) o env Tc=some (TI,Tq,e)) (h:WO S al os R TI Tq (tr++[e])):WO S al (o::os) R env Tc tr:=by
 obtain⟨m,Tg,Td,es,h2,h3⟩:=h;refine⟨max n m,Tg,Td,e::es,?_,by simpa using h3⟩;simp only[steps];rw[uW (nW S (adh n m)) (nV S (adh n m)) h1];simp[JQ S (Nat.le_max_right n m) h2]
def QZ(S:Sys)(al:Al)(p:d5)(d:Option Nat)(env:Env)(Tc:aB)(tr:List dE)(K:Env->aB->List dE->Prop):Prop:=
 match p with
 | .fail=>False
 | .done v u r=>al.kB (r++u.map (·.1))=true/\K (put env d v) (app u Tc) (tr++[⟨r,u.map (·.1),[]⟩])
 | .pc f vs r s=> ∃ x,aH S f vs x/\match land Tc r s (x.bK (S.lone s)) with
  |some (v,u)=>al.kB (r++u.map (·.1))=true/\K (put env d v) (app u Tc) (tr++[⟨r++u.map (·.1),u.map (·.1),[]⟩])
  |none=>False
 | .sc f vs=>al.holds (allow (S.ctx al) f vs Tc)=true/\ ∃ v Td,pz S f vs (allow (S.ctx al) f vs Tc) Tc v Td/\
   K (put env d v) Td (tr++[⟨(allow (S.ctx al) f vs Tc).ids,(allow (S.ctx al) f vs Tc).ids,(allow (S.ctx al) f vs Tc).fs⟩])
def PM(S:Sys)(al:Al)(w:Option Bool)(o:az)(env:Env)(Tc:aB)(tr:List dE)(K:Env->aB->List dE->Prop):Prop:=
 match w with
 |none=>False
 |some false=>K (put env o.dst .undef) Tc (tr++[⟨[],[],[]⟩])
 |some true=>QZ S al (aP S.Tf env Tc o.op) o.dst env Tc tr K
@[simp] theorem Al.kT (l:List Nat):Al.all.kB l=true:=by simp[Al.kB,Al.ok,Al.all]
@[simp] theorem Al.Sf (b:Al):Al.all.holds b=true:=rfl
theorem Pb{o:az}{os:List az}{R:Env->aB->List dE->Prop}{tr:List dE}
  (h:PM S al (wanted env o.guard) o env Tc tr (WO S al os R)):WO S al (o::os) R env Tc tr:=by
 cases hw:wanted env o.guard with
 |none=>simp[hw,PM] at h
 |some b=>
  cases b with
  |false=>rw[hw] at h;exact uB (n:=0) (by simp[step1,hw]) h
  |true=>
   rw[hw] at h;simp only[PM] at h;have T4:(S.ctx al).Tf=S.Tf:=rfl;have UG:(S.ctx al).al=al:=rfl;have Uy:(S.ctx al).lone=S.lone:=rfl;cases TD:aP S.Tf env Tc o.op with
   |fail=>simp[TD,QZ] at h
   |done v u r=>
    rw[TD] at h;obtain⟨h1,h⟩:=h;exact uB (n:=0) (by simp only[step1,hw,T4,UG,TD,h1,if_true]) h
   |pc f vs r s=>
    rw[TD] at h;obtain⟨x,⟨n,hx⟩,h⟩:=h;cases hl:land Tc r s (x.bK (S.lone s)) with
    |none=>simp[hl] at h
    |some y=>
     obtain⟨v,u⟩:=y;simp only[hl] at h;obtain⟨h1,h⟩:=h;exact uB (n:=n) (by simp only[step1,hw,T4,UG,Uy,TD,hx,hl,h1,if_true]) h
   |sc f vs=>
    rw[TD] at h;obtain⟨h1,v,Td,⟨n,hx⟩,h⟩:=h;exact uB (n:=n) (by simp only[step1,hw,T4,UG,TD,h1,if_true,hx]) h
end Go.Abs
namespace Go.Abs
variable {S:Sys} {al:Al}
def pj(al:Al)(res:List (Nat × Option (Option Nat)))(R:V->aB->Prop):cZ
 | .exit _,_,_=>False
 |_,env,Tc=>match cF al env Tc res with
  |some vs=>R (uP vs) Tc
  |none=>False
theorem P0{fn:ca}{args:List V}{Tc:aB}{R:V->aB->Prop}(h:W S al fn.body (pj al fn.results R) (nG args) Tc):
  ∃ n v Td,l9 (S.ctx al) (dN S n) (dy S n) n fn args Tc=some (v,Td)/\R v Td:=by
 obtain⟨n,e,Tg,Td,h1,h2⟩:=h;refine⟨n,?_⟩;unfold l9;rw[h1];cases e with
 |exit i=>exact h2.elim
 |normal=>
  simp only[pj] at h2;split at h2
  ·rename_i vs hv;exact⟨_,_,by simp only[show(S.ctx al).al=al from rfl,hv,aa4],h2⟩
  ·exact h2.elim
 |ret=>
  simp only[pj] at h2;split at h2
  ·rename_i vs hv;exact⟨_,_,by simp only[show(S.ctx al).al=al from rfl,hv,aa4],h2⟩
  ·exact h2.elim
theorem R3{f:Nat}{fn:ca}{args:List V}{r:RV}(hp:S.prim f args=none)(hf:S.fns f=some fn)(hl:args.length<=fn.ntmps)
  (h:W S .all fn.body (pj .all fn.results fun v Tc=>en Tc v=some r) (nG args) qS):aH S f args r:=by
 obtain⟨n,v,Td,h1,h2⟩:=P0 h;refine⟨n+1,?_⟩;rw[dN];simp only[hp,hf,hl,if_true];unfold Ep;rw[h1];exact h2
theorem eY{f:Nat}{fn:ca}{args:List V}{Tc:aB}{R:V->aB->Prop}(hf:S.fns f=some fn)(hl:args.length<=fn.ntmps)
  (h:W S al fn.body (pj al fn.results R) (nG args) Tc): ∃ v Td,pz S f args al Tc v Td/\R v Td:=by
 obtain⟨n,v,Td,h1,h2⟩:=P0 h;refine⟨v,Td,⟨n+1,?_⟩,h2⟩;rw[dy];simp only[hf,hl,if_true];exact h1
end Go.Abs
namespace Go.Abs
variable {S:Sys} {al:Al} {Q:cZ} {env:Env} {Tc:aB}
theorem w7:W S al .skip Q env Tc↔Q .normal env Tc:=⟨fun⟨_,_,_,_,h,q⟩=>by simp[exec] at h;obtain⟨rfl,rfl,rfl⟩:=h;exact q,RX⟩
theorem w8{id:Nat}:W S al (.exit id) Q env Tc↔Q (.exit id) env Tc:=⟨fun⟨_,_,_,_,h,q⟩=>by simp[exec] at h;obtain⟨rfl,rfl,rfl⟩:=h;exact q,RY⟩
theorem zh:W S al .ret Q env Tc↔Q .ret env Tc:=⟨fun⟨_,_,_,_,h,q⟩=>by simp[exec] at h;obtain⟨rfl,rfl,rfl⟩:=h;exact q,S5⟩
theorem I7{a b:an}:W S al (.seq a b) Q env Tc↔W S al a (Bi (W S al b Q) Q) env Tc:=by
 refine⟨?_,S4⟩;rintro ⟨n,e,Tg,Td,h,q⟩
 simp only[exec] at h;cases h1:exec (S.ctx al) (dN S n) (dy S n) n a env Tc with
 |none=>simp[h1] at h
 |some x=>
  obtain⟨e1,TI,Tq⟩:=x;refine⟨n,e1,TI,Tq,h1,?_⟩;cases e1 with
  |normal=>simp only[h1] at h;exact⟨n,e,Tg,Td,h,q⟩
  |exit i=>simp[h1] at h;obtain⟨rfl,rfl,rfl⟩:=h;exact q
  |ret=>simp[h1] at h;obtain⟨rfl,rfl,rfl⟩:=h;exact q
def yZ(v:V)(A B:Prop):Prop:=
 match v with
 | .one (.p (.bool t))=>if t=true then A else B
 |_=>False
theorem FV{x:aC}{a b:an}:W S al (.cond x a b) Q env Tc↔yZ (ev env x) (W S al a Q env Tc) (W S al b Q env Tc):=by
 constructor
 ·rintro ⟨n,e,Tg,Td,h,q⟩
  simp only[exec] at h;split at h
  ·rename_i t ht;rw[ht];simp only[yZ];cases t with
   |true=>exact⟨n,e,Tg,Td,by simpa using h,q⟩
   |false=>exact⟨n,e,Tg,Td,by simpa using h,q⟩
  ·cases h
 ·intro h;unfold yZ at h;split at h
  ·rename_i t ht;exact R0 ht h
  ·exact h.elim
theorem tV{id:Nat}{c:an}:W S al (.block id c) Q env Tc↔W S al c (ey id Q) env Tc:=by
 refine⟨?_,Pa⟩;rintro ⟨n,e,Tg,Td,h,q⟩
 simp only[exec] at h;cases h1:exec (S.ctx al) (dN S n) (dy S n) n c env Tc with
 |none=>simp[h1] at h
 |some x=>
  obtain⟨e1,TI,Tq⟩:=x;refine⟨n,e1,TI,Tq,h1,?_⟩;cases e1 with
  |normal=>simp[h1] at h;obtain⟨rfl,rfl,rfl⟩:=h;exact q
  |ret=>simp[h1] at h;obtain⟨rfl,rfl,rfl⟩:=h;exact q
  |exit i=>
   simp only[h1] at h;simp only[ey];split at h
   ·rename_i hi;simp at h;obtain⟨rfl,rfl,rfl⟩:=h;rw[if_pos hi];exact q
   ·rename_i hi;simp at h;obtain⟨rfl,rfl,rfl⟩:=h;rw[if_neg hi];exact q
theorem qn{R:Env->aB->List dE->Prop}{tr:List dE}:WO S al [] R env Tc tr↔R env Tc tr:=by
 refine⟨?_,R1⟩;rintro ⟨n,Tg,Td,es,h,q⟩
 simp[steps] at h;obtain⟨rfl,rfl,rfl⟩:=h
 simpa using q
theorem kU{o:az}{os:List az}{R:Env->aB->List dE->Prop}{tr:List dE}:
  WO S al (o::os) R env Tc tr↔PM S al (wanted env o.guard) o env Tc tr (WO S al os R):=by
 refine⟨?_,Pb⟩;rintro ⟨n,Tg,Td,es,h,q⟩
 simp only[steps] at h;cases h1:step1 (S.ctx al) (dN S n) (dy S n) o env Tc with
 |none=>simp[h1] at h
 |some x=>
  obtain⟨TI,Tq,e⟩:=x;simp only[h1] at h;cases h2:steps (S.ctx al) (dN S n) (dy S n) os TI Tq with
  |none=>simp[h2] at h
  |some y=>
   obtain⟨Tz,Tp,es2⟩:=y;simp[h2] at h;obtain⟨rfl,rfl,rfl⟩:=h;have hk:WO S al os R TI Tq (tr++[e]):=⟨n,_,_,es2,h2,by simpa using q⟩;unfold step1 at h1;cases hw:wanted env o.guard with
   |none=>simp[hw] at h1
   |some b=>
    cases b with
    |false=>simp[hw] at h1;obtain⟨rfl,rfl,rfl⟩:=h1;exact hk
    |true=>
     simp only[hw] at h1;simp only[PM];have T4:(S.ctx al).Tf=S.Tf:=rfl;have UG:(S.ctx al).al=al:=rfl;have Uy:(S.ctx al).lone=S.lone:=rfl;simp only[T4,UG,Uy] at h1;cases TD:aP S.Tf env Tc o.op with
     |fail=>simp[TD] at h1
     |done v u r=>
      simp only[TD] at h1;split at h1
      ·rename_i Tj;cases h1;exact⟨Tj,hk⟩
      ·cases h1
     |pc f vs r s=>
      simp only[TD] at h1;cases hc:dN S n f vs with
      |none=>simp[hc] at h1
      |some x=>
       simp only[hc] at h1;refine⟨x,⟨n,hc⟩,?_⟩;cases hl:land Tc r s (x.bK (S.lone s)) with
       |none=>simp[hl] at h1
       |some y=>
        obtain⟨v,u⟩:=y;simp only[hl] at h1;split at h1
        ·rename_i Tj;cases h1;exact⟨Tj,hk⟩
        ·cases h1
     |sc f vs=>
      simp only[TD] at h1;split at h1
      ·rename_i Tj;cases hc:dy S n f vs (allow (S.ctx al) f vs Tc) Tc with
       |none=>simp[hc] at h1
       |some x=>obtain⟨v,b⟩:=x;simp only[hc] at h1;cases h1;exact⟨Tj,v,_,⟨n,hc⟩,hk⟩
      ·cases h1
theorem rR{d:Bool}{ops:List az}:W S al (.region d ops) Q env Tc↔WO S al ops (fun env Tc es=>(d=true->dX ops [] es=true)/\Q .normal env Tc) env Tc []:=by
 refine⟨?_,Mv⟩;rintro ⟨n,e,Tg,Td,h,q⟩
 simp only[exec] at h;cases h1:steps (S.ctx al) (dN S n) (dy S n) ops env Tc with
 |none=>simp[h1] at h
 |some x=>
  obtain⟨TI,Tq,es⟩:=x;simp only[h1] at h;cases d with
  |false=>simp at h;obtain⟨rfl,rfl,rfl⟩:=h;exact⟨n,_,_,es,h1,by simp,q⟩
  |true=>
   simp at h;obtain⟨hd,rfl,rfl,rfl⟩:=h;exact⟨n,_,_,es,h1,fun _=>by simpa using hd,q⟩
end Go.Abs
namespace Go.Abs
inductive bi (w:World) (own:Nat->Prop):PV->Value->Prop where
 |bool (b:Bool):bi w own (.bool b) (.bool b)
 |int (k:IntKind) (n:Int):bi w own (.int k n) (.int k n)
 |str (s:ByteArray):bi w own (.str s) (.string s)
 |UA:bi w own .UA (.pointer none)
 |nils:bi w own .nils (.slice none 0 0)
 |Uv:bi w own .Uv (.map none)
 |TR:bi w own .TR .nilFunc
 |nili:bi w own .nili .nilIface
 |ifc (d:TypeId) (x:Value):bi w own .ifc (.iface d x)
 |box {cs:List PV} (b o:Nat) (f:Nat->Value) (ho:cs≠[]-> ¬ own b)
   (hc: ∀ (j:Nat) (x:PV),cs[j]? =some x->w.cell? ⟨b,o+j,none⟩=some (f j))
   (hr: ∀ (j:Nat) (x:PV),cs[j]? =some x->bi w own x (f j)):bi w own (.box cs) (.pointer (some ⟨b,o,none⟩))
 |sl0 (a:Option Addr) (cap:Nat) (hn:a=none->cap=0) (hm:cap<=maxLen):bi w own (.sl []) (.slice a 0 cap)
 |sl {es:List (List PV)} (b o cap sz:Nat) (f:Nat->Value) (ho:es.flatten≠[]-> ¬ own b) (hl:es.length<=cap) (hm:cap<=maxLen) (TG: ∀ e∈es,e.length=sz)
   (hc: ∀ (j:Nat) (x:PV),es.flatten[j]? =some x->w.cell? ⟨b,o+j,none⟩=some (f j))
   (hr: ∀ (j:Nat) (x:PV),es.flatten[j]? =some x->bi w own x (f j)):bi w own (.sl es) (.slice (some ⟨b,o,none⟩) es.length cap)
 |mp {ag:Bool} {es:List (PV × List PV)} (r:Nat) (ents:Array MapEntry) (clock:Nat) (g:Nat->Array Value) (ho: ¬ own r) (hb:w.heap[r]? =some (.map ents clock)) (hl:ents.size=es.length)
   (hk: ∀ (i:Nat) (q:PV) (v:List PV) (e:MapEntry),es[i]? =some (q,v)->ents[i]? =some e->bi w own q e.key)
   (hv: ∀ (i:Nat) (q:PV) (v:List PV) (e:MapEntry),es[i]? =some (q,v)->ents[i]? =some e->(g i).size=v.length/\(ag=true->e.val= .agg (g i))/\(ag=false-> #[e.val]=g i))
   (hr: ∀ (i:Nat) (q:PV) (v:List PV) (j:Nat) (x:PV) (u:Value),es[i]? =some (q,v)->v[j]? =some x->(g i)[j]? =some u->bi w own x u):bi w own (.mp ag es) (.map (some r))
 |fn {f:Nat} {a b:List PV} (A B:Array Value) (ha:A.size=a.length) (hb:B.size=b.length)
   (YS: ∀ (j:Nat) (x:PV) (u:Value),a[j]? =some x->A[j]? =some u->bi w own x u)
   (VU: ∀ (j:Nat) (x:PV) (u:Value),b[j]? =some x->B[j]? =some u->bi w own x u):bi w own (.fn f a b) (.func (.func f) A B)
theorem bi.qQ{w:World}{own:Nat->Prop}{x:PV}{v:Value}(h:bi w own x v):v.oneCell'=true:=by cases h<;>rfl
theorem bi.cells{w:World}{own:Nat->Prop}{x:PV}{v:Value}(h:bi w own x v):v.cells= #[v]:=by cases h<;>rfl
theorem AP{w:World}{b o:Nat}{v:Value}(h:w.cell? ⟨b,o,none⟩=some v):b<w.heap.size:=World.block_lt_of_cell? w ⟨b,o,none⟩ h
theorem fH{w:World}{b:Nat}{o:Obj}(h:w.heap[b]? =some o):b<w.heap.size:=(Array.getElem?_eq_some_iff.1 h).1
theorem bi.mono{w w':World}{own VR:Nat->Prop}(hk: ∀ c,c<w.heap.size-> ¬ own c->w'.heap[c]? =w.heap[c]? /\ ¬ VR c){x:PV}{v:Value}
  (h:bi w own x v):bi w' VR x v:=by
 induction h with
 |bool b=>exact .bool b
 |int k n=>exact .int k n
 |str s=>exact .str s
 |UA=>exact .UA
 |nils=>exact .nils
 |Uv=>exact .Uv
 |TR=>exact .TR
 |nili=>exact .nili
 |ifc d x=>exact .ifc d x
 | @box cs b o f ho hc _ ih=>
  cases cs with
  |nil=>exact .box b o f (fun h=>(h rfl).elim) (fun j x h=>by simp at h) (fun j x h=>by simp at h)
  |cons c r=>
   have hb:=AP (hc 0 c rfl);have hn:=ho (by simp);refine .box b o f (fun _=>(hk b hb hn).2) (fun j x h=> ?_) ih;rw[World.cell?_of_block (hk b hb hn).1];exact hc j x h
 |sl0 a cap hn hm=>exact .sl0 a cap hn hm
 | @sl es b o cap sz f ho hl hm TG hc _ ih=>
  cases hf:es.flatten with
  |nil=>exact .sl b o cap sz f (fun h=>(h hf).elim) hl hm TG (fun j x h=>by simp[hf] at h) (fun j x h=>by simp[hf] at h)
  |cons c r=>
   have hb:=AP (hc 0 c (by simp[hf]));have hn:=ho (by simp[hf]);refine .sl b o cap sz f (fun _=>(hk b hb hn).2) hl hm TG (fun j x h=> ?_) ih;rw[World.cell?_of_block (hk b hb hn).1];exact hc j x h
 | @mp ag es r ents clock g ho hb hl _ hv _ ihk ihr=>exact .mp r ents clock g (hk r (fH hb) ho).2 ((hk r (fH hb) ho).1.trans hb) hl ihk hv ihr
 |fn A B ha hb _ _ iha ihb=>exact .fn A B ha hb iha ihb
structure Mem where
 w:World
 Tc:aB
 σ:Nat->Nat
 κ:Nat->Nat
 fr:Nat->Prop
def Ob.ec:Ob->Bool
 | .var _| .arr _ _ _| .TV _ _ _| .map _ _=>true
 |_=>false
def im:Nat × Option Ob->Option Nat
 |(_,some (.arr _ sz _))=>some sz
 |(_,some (.TV _ sz _))=>some sz
 |(_,some (.Ul _ sz _))=>some sz
 |_=>none
def Mem.ec(m:Mem)(c:Nat):Prop:= ∃ id o,(m.Tc id).2=some o/\o.ec=true/\m.σ id=c
def Mem.own(m:Mem)(c:Nat):Prop:=m.fr c\/m.ec c
inductive bH (m:Mem):C->Value->Prop where
 |p {x:PV} {v:Value} (h:bi m.w m.own x v):bH m (.p x) v
 |Tn {id g off:Nat} (a:Addr) (hg:g<=(m.Tc id).1) (h:(m.Tc id).1=g->(m.Tc id).2.isSome=true->a=⟨m.σ id,off,none⟩):bH m (.Tn id g off) (.pointer (some a))
 |TS {id g i off:Nat} (a:Addr) (hg:g<=(m.Tc id).1) (h: ∀ sz,(m.Tc id).1=g->im (m.Tc id)=some sz->a=⟨m.σ id,i*sz+off,none⟩):bH m (.TS id g i off) (.pointer (some a))
 |hsl {id g z off len:Nat} (a:Addr) (cap:Nat) (hg:g<=(m.Tc id).1) (hl:len<=cap) (hm:cap<=maxLen)
   (h: ∀ sz,(m.Tc id).1=g->im (m.Tc id)=some sz->sz=z/\(off=0\/0<len->a=⟨m.σ id,off*sz,none⟩)/\(off=0->cap=m.κ id)):
   bH m (.hsl id g z off len) (.slice (some a) len cap)
 |T6 {id g:Nat} (r:Nat) (hg:g<=(m.Tc id).1) (h:(m.Tc id).1=g->(m.Tc id).2.isSome=true->r=m.σ id):bH m (.T6 id g) (.map (some r))
 |hfn {f:Nat} {a b:List C} (A B:Array Value) (ha:A.size=a.length) (hb:B.size=b.length)
   (YS: ∀ (j:Nat) (x:C) (u:Value),a[j]? =some x->A[j]? =some u->bH m x u)
   (VU: ∀ (j:Nat) (x:C) (u:Value),b[j]? =some x->B[j]? =some u->bH m x u):bH m (.hfn f a b) (.func (.func f) A B)
theorem bH.qQ{m:Mem}{x:C}{v:Value}(h:bH m x v):v.oneCell'=true:=by
 cases h with
 |p h=>exact h.qQ
 |_=>rfl
theorem bH.cells{m:Mem}{x:C}{v:Value}(h:bH m x v):v.cells= #[v]:=by
 cases h with
 |p h=>exact h.cells
 |_=>rfl
def aW(m:Mem)(cs:List C)(vs:List Value):Prop:=vs.length=cs.length/\ ∀ (j:Nat) (x:C) (u:Value),cs[j]? =some x->vs[j]? =some u->bH m x u
def aV(w:World)(own:Nat->Prop)(cs:List PV)(vs:List Value):Prop:=vs.length=cs.length/\ ∀ (j:Nat) (x:PV) (u:Value),cs[j]? =some x->vs[j]? =some u->bi w own x u
def gi(m:Mem):V->Value->Prop
 | .undef,v=>v=undef
 | .one c,v=>bH m c v
 | .agg cs,v=> ∃ arr,v= .agg arr/\aW m cs arr.toList
 | .tup _,_=>False
def aZ(m:Mem):V->Value->Prop
 | .tup vs,v=> ∃ arr,v= .tuple arr/\arr.size=vs.length/\ ∀ (j:Nat) (x:V) (u:Value),vs[j]? =some x->arr[j]? =some u->gi m x u
 |x,v=>gi m x v
def pC(m:Mem)(id:Nat):Ob->Prop
 | .var cs=> ∃ cur ty,m.w.heap[m.σ id]? =some (.cells cur ty (0,0))/\aW m cs cur.toList
 | .fvar cs=> ∃ cur ty fz,m.w.heap[m.σ id]? =some (.cells cur ty fz)/\aV m.w m.own cs cur.toList/\ ¬ m.own (m.σ id)
 | .arr ty sz es=> ∃ cur,m.w.heap[m.σ id]? =some (.cells cur ty (0,0))/\0<sz/\(∀ e∈es,e.length=sz)/\es.length<=m.κ id/\m.κ id<=maxLen/\cur.size=m.κ id*sz/\
   aV m.w m.own es.flatten (cur.toList.take (es.length*sz))
 | .Ul ty sz es=> ∃ cur fz,m.w.heap[m.σ id]? =some (.cells cur ty fz)/\0<sz/\(∀ e∈es,e.length=sz)/\es.length<=m.κ id/\m.κ id<=maxLen/\cur.size=m.κ id*sz/\
   aV m.w m.own es.flatten (cur.toList.take (es.length*sz))/\ ¬ m.own (m.σ id)
 | .TV ty sz es=> ∃ cur,m.w.heap[m.σ id]? =some (.cells cur ty (0,0))/\0<sz/\(∀ e∈es,e.length=sz)/\es.length<=m.κ id/\m.κ id<=maxLen/\cur.size=m.κ id*sz/\
   aW m es.flatten (cur.toList.take (es.length*sz))
 | .map ag es=> ∃ ents clock,m.w.heap[m.σ id]? =some (.map ents clock)/\ents.size=es.length/\
   ∀ (i:Nat) (q:PV) (v:List PV) (e:MapEntry),es[i]? =some (q,v)->ents[i]? =some e->bi m.w m.own q e.key/\ ∃ g:Array Value,(ag=true->e.val= .agg g)/\(ag=false-> #[e.val]=g)/\aV m.w m.own v g.toList
 | .fmap ag es=> ∃ ents clock,m.w.heap[m.σ id]? =some (.map ents clock)/\ents.size=es.length/\
   (∀ (i:Nat) (q:PV) (v:List PV) (e:MapEntry),es[i]? =some (q,v)->ents[i]? =some e->bi m.w m.own q e.key/\ ∃ g:Array Value,(ag=true->e.val= .agg g)/\(ag=false-> #[e.val]=g)/\aV m.w m.own v g.toList)/\ ¬ m.own (m.σ id)
structure Ok (w0:World) (m:Mem):Prop where
 os:m.w.os=w0.os
 tape:m.w.tape=w0.tape
 output:m.w.output=w0.output
 size:w0.heap.size<=m.w.heap.size
 base: ∀ c,c<w0.heap.size->m.w.heap[c]? =w0.heap[c]?
 obj: ∀ id o,(m.Tc id).2=some o->pC m id o
 Tu: ∀ id o,(m.Tc id).2=some o->o.ec=true->w0.heap.size<=m.σ id/\ ¬ m.fr (m.σ id)
 frlt: ∀ c,m.fr c->c<m.w.heap.size
 inj: ∀ id Ud o o',(m.Tc id).2=some o->o.ec=true->(m.Tc Ud).2=some o'->o'.ec=true->m.σ id=m.σ Ud->id=Ud
structure Ev (m m':Mem):Prop where
 os:m'.w.os=m.w.os
 tape:m'.w.tape=m.w.tape
 output:m'.w.output=m.w.output
 size:m.w.heap.size<=m'.w.heap.size
 keep: ∀ c,c<m.w.heap.size-> ¬ m.ec c->m'.w.heap[c]? =m.w.heap[c]?
 ec: ∀ c,c<m.w.heap.size->m'.ec c->m.ec c
 less: ∀ c,c<m.w.heap.size-> ¬ m.own c-> ¬ m'.own c
 gen: ∀ id,(m.Tc id).1<=(m'.Tc id).1
 ref: ∀ id,(m'.Tc id).1=(m.Tc id).1->(m'.Tc id).2.isSome=true->(m.Tc id).2.isSome=true/\m'.σ id=m.σ id/\m'.κ id=m.κ id/\im (m'.Tc id)=im (m.Tc id)
theorem Ev.refl(m:Mem):Ev m m:=⟨rfl,rfl,rfl,aal _,fun _ _ _=>rfl,fun _ _ h=>h,fun _ _ h=>h,fun _=>aal _,fun _ _ h=>⟨h,rfl,rfl,rfl⟩⟩
theorem Ev.trans{a b c:Mem}(h:Ev a b)(k:Ev b c):Ev a c where
 os:=k.os.trans h.os
 tape:=k.tape.trans h.tape
 output:=k.output.trans h.output
 size:=aa5 h.size k.size
 keep x hx hm:=(k.keep x (ab3 hx h.size) fun hb=>hm (h.ec x hx hb)).trans (h.keep x hx hm)
 ec x hx hm:=h.ec x hx (k.ec x (ab3 hx h.size) hm)
 less x hx hn:=k.less x (ab3 hx h.size) (h.less x hx hn)
 gen id:=aa5 (h.gen id) (k.gen id)
 ref id he hs:=by
  have h1:=h.gen id;have h2:=k.gen id;obtain⟨s1,e1,e2,e3⟩:=k.ref id (by omega) hs;obtain⟨s2,f1,f2,f3⟩:=h.ref id (by omega) s1;exact⟨s2,e1.trans f1,e2.trans f2,e3.trans f3⟩
theorem Ev.own{m m':Mem}(h:Ev m m'): ∀ c,c<m.w.heap.size-> ¬ m.own c->m'.w.heap[c]? =m.w.heap[c]? /\ ¬ m'.own c:=
 fun c hc hn=>⟨h.keep c hc fun hm=>hn (.inr hm),h.less c hc hn⟩
theorem xM{x:Nat × Option Ob}{sz:Nat}(h:im x=some sz):x.2.isSome=true:=by
 obtain⟨g,o⟩:=x;cases o with
 |none=>simp[im] at h
 |some o=>rfl
structure FZ (m m':Mem):Prop where
 own: ∀ c,c<m.w.heap.size-> ¬ m.own c->m'.w.heap[c]? =m.w.heap[c]? /\ ¬ m'.own c
 gen: ∀ id,(m.Tc id).1<=(m'.Tc id).1
 ref: ∀ id,(m'.Tc id).1=(m.Tc id).1->(m'.Tc id).2.isSome=true->(m.Tc id).2.isSome=true/\m'.σ id=m.σ id/\m'.κ id=m.κ id/\im (m'.Tc id)=im (m.Tc id)
theorem Ev.zero{m m':Mem}(h:Ev m m'):FZ m m':=⟨h.own,h.gen,h.ref⟩
theorem bi.ev{m m':Mem}(h:FZ m m'){x:PV}{v:Value}(hr:bi m.w m.own x v):bi m'.w m'.own x v:=hr.mono h.own
theorem bH.ev{m m':Mem}(h:FZ m m'){x:C}{v:Value}(hr:bH m x v):bH m' x v:=by
 induction hr with
 |p hp=>exact .p (hp.ev h)
 | @Tn id g off a hg ha=>
  have aen:=h.gen id;refine .Tn a (by omega) fun hg' hs=> ?_
  obtain⟨s,e1,_,_⟩:=h.ref id (by omega) hs;rw[e1];exact ha (by omega) s
 | @TS id g i off a hg ha=>
  have aen:=h.gen id;refine .TS a (by omega) fun sz hg' hs=> ?_
  obtain⟨s,e1,_,e3⟩:=h.ref id (by omega) (xM hs);rw[e1];exact ha sz (by omega) (e3▸hs)
 | @hsl id g z off len a cap hg hl hm ha=>
  have aen:=h.gen id;refine .hsl a cap (by omega) hl hm fun sz hg' hs=> ?_
  obtain⟨s,e1,e2,e3⟩:=h.ref id (by omega) (xM hs);rw[e1,e2];exact ha sz (by omega) (e3▸hs)
 | @T6 id g r hg hr=>
  have aen:=h.gen id;refine .T6 r (by omega) fun hg' hs=> ?_
  obtain⟨s,e1,_,_⟩:=h.ref id (by omega) hs;rw[e1];exact hr (by omega) s
 |hfn A B ha hb _ _ iha ihb=>exact .hfn A B ha hb iha ihb
theorem aW.ev{m m':Mem}(h:FZ m m'){cs:List C}{vs:List Value}(hr:aW m cs vs):aW m' cs vs:=⟨hr.1,fun j x u a b=>(hr.2 j x u a b).ev h⟩
theorem aV.mono{w w':World}{own VR:Nat->Prop}(hk: ∀ c,c<w.heap.size-> ¬ own c->w'.heap[c]? =w.heap[c]? /\ ¬ VR c){cs:List PV}{vs:List Value}
  (hr:aV w own cs vs):aV w' VR cs vs:=⟨hr.1,fun j x u a b=>(hr.2 j x u a b).mono hk⟩
theorem aV.ev{m m':Mem}(h:FZ m m'){cs:List PV}{vs:List Value}(hr:aV m.w m.own cs vs):aV m'.w m'.own cs vs:=hr.mono h.own
theorem gi.ev{m m':Mem}(h:FZ m m'){x:V}{v:Value}(hr:gi m x v):gi m' x v:=by
 cases x with
 |undef=>exact hr
 |one c=>exact bH.ev h hr
 |agg cs=>obtain⟨arr,e,hc⟩:=hr;exact⟨arr,e,hc.ev h⟩
 |tup vs=>exact hr.elim
theorem aZ.ev{m m':Mem}(h:FZ m m'){x:V}{v:Value}(hr:aZ m x v):aZ m' x v:=by
 cases x with
 |tup vs=>obtain⟨arr,e,hs,hc⟩:=hr;exact⟨arr,e,hs,fun j x u a b=>(hc j x u a b).ev h⟩
 |undef=>exact gi.ev (x:= .undef) h hr
 |one c=>exact gi.ev (x:= .one c) h hr
 |agg cs=>exact gi.ev (x:= .agg cs) h hr
theorem pC.ev{m m':Mem}(h:FZ m m'){id:Nat}{o:Ob}(hs:m'.σ id=m.σ id)(hk:m'.κ id=m.κ id)(hh:m'.w.heap[m.σ id]? =m.w.heap[m.σ id]?)
  (hr:pC m id o):pC m' id o:=by
 cases o with
 |var cs=>obtain⟨cur,ty,a,b⟩:=hr;exact⟨cur,ty,by rw[hs,hh];exact a,b.ev h⟩
 |fvar cs=>obtain⟨cur,ty,fz,a,b,c⟩:=hr;exact⟨cur,ty,fz,by rw[hs,hh];exact a,b.ev h,by rw[hs];exact(h.own _ (fH a) c).2⟩
 |arr ty sz es=>obtain⟨cur,a,b,c,d,e,f,g⟩:=hr;exact⟨cur,by rw[hs,hh];exact a,b,c,by rw[hk];exact d,by rw[hk];exact e,by rw[hk];exact f,g.ev h⟩
 |Ul ty sz es=>obtain⟨cur,fz,a,b,c,d,e,f,g,i⟩:=hr;exact⟨cur,fz,by rw[hs,hh];exact a,b,c,by rw[hk];exact d,by rw[hk];exact e,by rw[hk];exact f,g.ev h,by rw[hs];exact(h.own _ (fH a) i).2⟩
 |TV ty sz es=>obtain⟨cur,a,b,c,d,e,f,g⟩:=hr;exact⟨cur,by rw[hs,hh];exact a,b,c,by rw[hk];exact d,by rw[hk];exact e,by rw[hk];exact f,g.ev h⟩
 |map ag es=>
  obtain⟨ents,clock,a,b,c⟩:=hr;exact⟨ents,clock,by rw[hs,hh];exact a,b,fun i q v e x y=>let ⟨p,g,g1,g2,g3⟩:=c i q v e x y;⟨p.ev h,g,g1,g2,g3.ev h⟩⟩
 |fmap ag es=>
  obtain⟨ents,clock,a,b,c,d⟩:=hr;exact⟨ents,clock,by rw[hs,hh];exact a,b,fun i q v e x y=>let ⟨p,g,g1,g2,g3⟩:=c i q v e x y;⟨p.ev h,g,g1,g2,g3.ev h⟩,by rw[hs];exact(h.own _ (fH a) d).2⟩
theorem pC.lt{m:Mem}{id:Nat}{o:Ob}(hr:pC m id o):m.σ id<m.w.heap.size:=by
 cases o with
 |var cs=>obtain⟨cur,ty,a,_⟩:=hr;exact fH a
 |fvar cs=>obtain⟨cur,ty,fz,a,_⟩:=hr;exact fH a
 |arr ty sz es=>obtain⟨cur,a,_⟩:=hr;exact fH a
 |Ul ty sz es=>obtain⟨cur,fz,a,_⟩:=hr;exact fH a
 |TV ty sz es=>obtain⟨cur,a,_⟩:=hr;exact fH a
 |map ag es=>obtain⟨ents,clock,a,_⟩:=hr;exact fH a
 |fmap ag es=>obtain⟨ents,clock,a,_⟩:=hr;exact fH a
theorem pC.calm{m:Mem}{id:Nat}{o:Ob}(hr:pC m id o)(ho:o.ec=false): ¬ m.own (m.σ id):=by
 cases o with
 |fvar cs=>obtain⟨cur,ty,fz,_,_,c⟩:=hr;exact c
 |Ul ty sz es=>obtain⟨cur,fz,_,_,_,_,_,_,_,c⟩:=hr;exact c
 |fmap ag es=>obtain⟨_,_,_,_,_,c⟩:=hr;exact c
 |_=>simp[Ob.ec] at ho
end Go.Abs
namespace Go.Abs
variable {w0:World}
structure eQ (w w':World):Prop where
 os:w'.os=w.os
 tape:w'.tape=w.tape
 output:w'.output=w.output
 size:w.heap.size<=w'.heap.size
 keep: ∀ c,c<w.heap.size->w'.heap[c]? =w.heap[c]?
theorem eQ.refl(w:World):eQ w w:=⟨rfl,rfl,rfl,aal _,fun _ _=>rfl⟩
theorem eQ.trans{a b c:World}(h:eQ a b)(k:eQ b c):eQ a c:=
 ⟨k.os.trans h.os,k.tape.trans h.tape,k.output.trans h.output,aa5 h.size k.size,fun x hx=>(k.keep x (ab3 hx h.size)).trans (h.keep x hx)⟩
theorem eQ.alloc(w:World)(o:Obj):eQ w (w.alloc o):=⟨rfl,rfl,rfl,by simp,fun _ hc=>heap_alloc_old w o hc⟩
theorem eQ.drew(w:World):eQ w w.drew:=⟨rfl,rfl,rfl,aal _,fun _ _=>rfl⟩
def Mem.later(m:Mem)(w':World)(X:Nat->Prop):Mem:={m with w:=w',fr:=fun c=>m.fr c\/X c}
theorem yv{m:Mem}{w':World}{X:Nat->Prop}{c:Nat}:(m.later w' X).own c↔m.own c\/X c:=by
 unfold Mem.own Mem.ec Mem.later;constructor
 ·rintro ((h|h)|h)
  ·exact .inl (.inl h)
  ·exact .inr h
  ·exact .inl (.inr h)
 ·rintro ((h|h)|h)
  ·exact .inl (.inl h)
  ·exact .inr h
  ·exact .inl (.inr h)
theorem nA{m:Mem}{w':World}{X:Nat->Prop}(hg:eQ m.w w')(hX: ∀ c,X c->m.w.heap.size<=c):Ev m (m.later w' X) where
 os:=hg.os
 tape:=hg.tape
 output:=hg.output
 size:=hg.size
 keep c hc _:=hg.keep c hc
 ec c _ h:=h
 less c hc hn h:=by
  rcases yv.1 h with h|h
  ·exact hn h
  ·have:=hX c h;omega
 gen _:=aal _
 ref _ _ hs:=⟨hs,rfl,rfl,rfl⟩
theorem qY{m:Mem}{w':World}{X:Nat->Prop}(h:Ok w0 m)(hg:eQ m.w w')(hX: ∀ c,X c->m.w.heap.size<=c/\c<w'.heap.size):Ok w0 (m.later w' X) where
 os:=hg.os.trans h.os
 tape:=hg.tape.trans h.tape
 output:=hg.output.trans h.output
 size:=aa5 h.size hg.size
 base c hc:=(hg.keep c (ab3 hc h.size)).trans (h.base c hc)
 obj id o ho:=(h.obj id o ho).ev (nA hg fun c hc=>(hX c hc).1).zero rfl rfl (hg.keep _ (h.obj id o ho).lt)
 Tu id o ho hm:=by
  refine⟨(h.Tu id o ho hm).1,?_⟩;rintro (hf|hx)
  ·exact(h.Tu id o ho hm).2 hf
  ·have h1:=(hX _ hx).1;have h2:=(h.obj id o ho).lt;simp only[Mem.later] at h1;omega
 frlt c hc:=by
  rcases hc with hf|hx
  ·exact ab3 (h.frlt c hf) hg.size
  ·exact(hX c hx).2
 inj:=h.inj
def Mem.install(m:Mem)(s c k:Nat)(o:Ob):Mem:=⟨m.w,fD m.Tc s ((m.Tc s).1+1,some o),fD m.σ s c,fD m.κ s k,fun x=>m.fr x/\x≠c⟩
theorem rj{m:Mem}{s c k:Nat}{o:Ob}{x:Nat}(h:(m.install s c k o).ec x):x=c\/m.ec x:=by
 obtain⟨id,o',ho,hm,hx⟩:=h;simp only[Mem.install,af] at ho hx;by_cases Ts:id=s
 ·simp only[Ts,if_true] at hx;exact .inl hx.symm
 ·simp only[Ts,if_false] at ho hx;exact .inr ⟨id,o',ho,hm,hx⟩
theorem kN{m:Mem}{s c k:Nat}{o:Ob}(hc:m.fr c){x:Nat}(h:(m.install s c k o).own x):m.own x:=by
 rcases h with h|h
 ·exact .inl h.1
 ·rcases rj h with rfl|h
  ·exact .inl hc
  ·exact .inr h
theorem mq{m m1:Mem}{s c k:Nat}{o:Ob}(h:Ev m m1)(hc:m1.fr c)(hn:m.w.heap.size<=c\/m.ec c):Ev m (m1.install s c k o) where
 os:=h.os
 tape:=h.tape
 output:=h.output
 size:=h.size
 keep:=h.keep
 ec x hx hm:=by
  rcases rj hm with rfl|hm
  ·rcases hn with hn|hn
   ·omega
   ·exact hn
  ·exact h.ec x hx hm
 less x hx TW hm:=h.less x hx TW (kN hc hm)
 gen id:=by
  simp only[Mem.install,af];have:=h.gen id;split
  ·rename_i e;subst e;simp only;omega
  ·exact this
 ref id he hs:=by
  have hg:=h.gen id;simp only[Mem.install,af] at he hs ⊢;by_cases Ts:id=s
  ·subst Ts;simp only[if_true] at he;omega
  ·simp only[Ts,if_false] at he hs ⊢;exact h.ref id he hs
theorem ml{m:Mem}{s c k:Nat}{o:Ob}(h:Ok w0 m)(hc:m.fr c)(Uy:w0.heap.size<=c)(ho:pC (m.install s c k o) s o):Ok w0 (m.install s c k o):=by
 have hk: ∀ x,x<m.w.heap.size-> ¬ m.own x->(m.install s c k o).w.heap[x]? =m.w.heap[x]? /\ ¬ (m.install s c k o).own x:=
  fun x _ hn=>⟨rfl,fun h=>hn (kN hc h)⟩
 have Uf:FZ m (m.install s c k o):=by
  refine⟨hk,fun id=> ?_,fun id he hs=> ?_⟩
  ·simp only[Mem.install,af];split
   ·rename_i e;subst e;simp only;omega
   ·exact aal _
  ·simp only[Mem.install,af] at he hs ⊢;by_cases Ts:id=s
   ·subst Ts;simp only[if_true] at he;omega
   ·simp only[Ts,if_false] at he hs ⊢;exact⟨hs,trivial,trivial,trivial⟩
 exact {
  os:=h.os
  tape:=h.tape
  output:=h.output
  size:=h.size
  base:=h.base
  obj:=by
   intro id o' Vh;by_cases Ts:id=s
   ·subst Ts;simp only[Mem.install,af,if_true,aaw] at Vh;exact Vh▸ho
   ·have hs:(m.install s c k o).σ id=m.σ id:=by simp[Mem.install,af,Ts]
    have Y0:(m.install s c k o).κ id=m.κ id:=by simp[Mem.install,af,Ts]
    simp only[Mem.install,af,Ts,if_false] at Vh;exact(h.obj id o' Vh).ev Uf hs Y0 rfl
  Tu:=by
   intro id o' Vh hm;by_cases Ts:id=s
   ·subst Ts;simp only[Mem.install,af,if_true];exact⟨Uy,fun h=>h.2 rfl⟩
   ·simp only[Mem.install,af,Ts,if_false] at Vh ⊢;exact⟨(h.Tu id o' Vh hm).1,fun hf=>(h.Tu id o' Vh hm).2 hf.1⟩
  frlt:=fun x hx=>h.frlt x hx.1
  inj:=by
   intro id Ud o1 o2 h1 m1 h2 m2 he;by_cases Ts:id=s<;>by_cases Vm:Ud=s
   ·rw[Ts,Vm]
   ·subst Ts;simp only[Mem.install,af,Vm,if_true,if_false] at h2 he;exact((h.Tu Ud o2 h2 m2).2 (he▸hc)).elim
   ·subst Vm;simp only[Mem.install,af,Ts,if_true,if_false] at h1 he;exact((h.Tu id o1 h1 m1).2 (he.symm▸hc)).elim
   ·simp only[Mem.install,af,Ts,Vm,if_false] at h1 h2 he;exact h.inj id Ud o1 o2 h1 m1 h2 m2 he}
def Mem.eP(m:Mem)(id:Nat):Mem:=⟨m.w,fD m.Tc id ((m.Tc id).1,none),m.σ,m.κ,fun c=>m.fr c\/c=m.σ id⟩
theorem II{m:Mem}{id:Nat}{o:Ob}(ho:(m.Tc id).2=some o)(hm:o.ec=true){x:Nat}(h:(m.eP id).own x):m.own x:=by
 rcases h with (h|h)|⟨Ud,o',h1,h2,h3⟩
 ·exact .inl h
 ·exact .inr ⟨id,o,ho,hm,h.symm⟩
 ·simp only[Mem.eP,af] at h1 h3;by_cases Ts:Ud=id
  ·simp[Ts] at h1
  ·simp only[Ts,if_false] at h1;exact .inr ⟨Ud,o',h1,h2,h3⟩
theorem lT{m:Mem}{id:Nat}{o:Ob}(ho:(m.Tc id).2=some o)(hm:o.ec=true):Ev m (m.eP id) where
 os:=rfl
 tape:=rfl
 output:=rfl
 size:=aal _
 keep _ _ _:=rfl
 ec x _ h:=by
  obtain⟨Ud,o',h1,h2,h3⟩:=h;simp only[Mem.eP,af] at h1 h3;by_cases Ts:Ud=id
  ·simp[Ts] at h1
  ·simp only[Ts,if_false] at h1;exact⟨Ud,o',h1,h2,h3⟩
 less x _ hn h:=hn (II ho hm h)
 gen Ud:=by
  simp only[Mem.eP,af];split
  ·rename_i e;subst e;exact aal _
  ·exact aal _
 ref Ud he hs:=by
  simp only[Mem.eP,af] at he hs ⊢;by_cases Ts:Ud=id
  ·simp[Ts] at hs
  ·simp only[Ts,if_false] at he hs ⊢;exact⟨hs,trivial,trivial,trivial⟩
theorem CZ{m:Mem}{id:Nat}{o:Ob}(h:Ok w0 m)(ho:(m.Tc id).2=some o)(hm:o.ec=true):Ok w0 (m.eP id) where
 os:=h.os
 tape:=h.tape
 output:=h.output
 size:=h.size
 base:=h.base
 obj Ud o' h1:=by
  simp only[Mem.eP,af] at h1;by_cases Ts:Ud=id
  ·simp[Ts] at h1
  ·simp only[Ts,if_false] at h1;exact(h.obj Ud o' h1).ev (lT ho hm).zero rfl rfl rfl
 Tu Ud o' h1 h2:=by
  simp only[Mem.eP,af] at h1 ⊢;by_cases Ts:Ud=id
  ·simp[Ts] at h1
  ·simp only[Ts,if_false] at h1;refine⟨(h.Tu Ud o' h1 h2).1,?_⟩;rintro (hf|hf)
   ·exact(h.Tu Ud o' h1 h2).2 hf
   ·exact Ts (h.inj Ud id o' o h1 h2 ho hm hf)
 frlt c hc:=by
  rcases hc with hf|rfl
  ·exact h.frlt c hf
  ·exact(h.obj id o ho).lt
 inj id1 id2 o1 o2 h1 m1 h2 m2 he:=by
  simp only[Mem.eP,af] at h1 h2 he;by_cases Ts:id1=id
  ·simp[Ts] at h1
  ·by_cases Vm:id2=id
   ·simp[Vm] at h2
   ·simp only[Ts,Vm,if_false] at h1 h2;exact h.inj id1 id2 o1 o2 h1 m1 h2 m2 he
def Mem.gJ(m:Mem)(w':World)(id:Nat)(o:Ob):Mem:=⟨w',fD m.Tc id ((m.Tc id).1,some o),m.σ,m.κ,m.fr⟩
section
variable {m:Mem} {w':World} {id:Nat} {o old:Ob} (ho:(m.Tc id).2=some old) (hm:old.ec=true)
include ho hm
theorem Kf{x:Nat}(h:(m.gJ w' id o).own x):m.own x:=by
 rcases h with h|⟨Ud,o',h1,h2,h3⟩
 ·exact .inl h
 ·simp only[Mem.gJ,af] at h1 h3;by_cases Ts:Ud=id
  ·exact .inr ⟨id,old,ho,hm,Ts▸h3⟩
  ·simp only[Ts,if_false] at h1;exact .inr ⟨Ud,o',h1,h2,h3⟩
theorem qB(TG:im ((m.Tc id).1,some o)=im ((m.Tc id).1,some old))(hos:w'.os=m.w.os)(ht:w'.tape=m.w.tape)(Uj:w'.output=m.w.output)(hs:w'.heap.size=m.w.heap.size)
  (hk: ∀ c,c≠m.σ id->w'.heap[c]? =m.w.heap[c]?):Ev m (m.gJ w' id o) where
 os:=hos
 tape:=ht
 output:=Uj
 size:=Nat.le_of_eq hs.symm
 keep c _ hn:=hk c fun e=>hn ⟨id,old,ho,hm,e.symm⟩
 ec x _ h:=by
  obtain⟨Ud,o',h1,h2,h3⟩:=h;simp only[Mem.gJ,af] at h1 h3;by_cases Ts:Ud=id
  ·exact⟨id,old,ho,hm,Ts▸h3⟩
  ·simp only[Ts,if_false] at h1;exact⟨Ud,o',h1,h2,h3⟩
 less x _ hn h:=hn (Kf ho hm h)
 gen Ud:=by
  simp only[Mem.gJ,af];split
  ·rename_i e;subst e;exact aal _
  ·exact aal _
 ref Ud he hss:=by
  simp only[Mem.gJ,af] at he hss ⊢;by_cases Ts:Ud=id
  ·subst Ts;refine⟨by simp[ho],trivial,trivial,?_⟩;simp only[if_true];rw[TG,<- ho]
  ·simp only[Ts,if_false] at he hss ⊢;exact⟨hss,trivial,trivial,trivial⟩
theorem uf(h:Ok w0 m)(TG:im ((m.Tc id).1,some o)=im ((m.Tc id).1,some old))(hos:w'.os=m.w.os)(ht:w'.tape=m.w.tape)(Uj:w'.output=m.w.output)(hs:w'.heap.size=m.w.heap.size)
  (hk: ∀ c,c≠m.σ id->w'.heap[c]? =m.w.heap[c]?) (WG:pC (m.gJ w' id o) id o):Ok w0 (m.gJ w' id o) where
 os:=hos.trans h.os
 tape:=ht.trans h.tape
 output:=Uj.trans h.output
 size:=aa5 h.size (Nat.le_of_eq hs.symm)
 base c hc:=by
  have:=(h.Tu id old ho hm).1;exact(hk c (by omega)).trans (h.base c hc)
 obj Ud o' h1:=by
  simp only[Mem.gJ,af] at h1;by_cases Ts:Ud=id
  ·subst Ts;simp only[if_true,aaw] at h1;exact h1▸WG
  ·simp only[Ts,if_false] at h1;refine(h.obj Ud o' h1).ev (qB ho hm TG hos ht Uj hs hk).zero rfl rfl (hk _ fun e=> ?_);cases hmo:o'.ec with
   |true=>exact Ts (h.inj Ud id o' old h1 hmo ho hm e)
   |false=>exact(h.obj Ud o' h1).calm hmo (.inr ⟨id,old,ho,hm,e.symm⟩)
 Tu Ud o' h1 h2:=by
  simp only[Mem.gJ,af] at h1 ⊢;by_cases Ts:Ud=id
  ·subst Ts;exact h.Tu Ud old ho hm
  ·simp only[Ts,if_false] at h1;exact h.Tu Ud o' h1 h2
 frlt c hc:=by rw[show(m.gJ w' id o).w.heap.size=m.w.heap.size from hs];exact h.frlt c hc
 inj id1 id2 o1 o2 h1 m1 h2 m2 he:=by
  simp only[Mem.gJ,af] at h1 h2 he;by_cases Ts:id1=id<;>by_cases Vm:id2=id
  ·rw[Ts,Vm]
  ·simp only[Vm,if_false] at h2;exact Ts▸h.inj id id2 old o2 ho hm h2 m2 (Ts▸he)
  ·simp only[Ts,if_false] at h1;exact Vm▸h.inj id1 id o1 old h1 m1 ho hm (Vm▸he)
  ·simp only[Ts,Vm,if_false] at h1 h2;exact h.inj id1 id2 o1 o2 h1 m1 h2 m2 he
end
end Go.Abs
namespace Go.Abs
def wM:Value->Option PV
 | .bool b=>some (.bool b)
 | .int k n=>some (.int k n)
 | .string s=>some (.str s)
 | .pointer none=>some .UA
 | .slice none 0 0=>some .nils
 | .map none=>some .Uv
 | .nilFunc=>some .TR
 | .nilIface=>some .nili
 |_=>none
def oT:List Value->Option (List PV)
 |[]=>some []
 |v::r=>match wM v,oT r with
  |some x,some xs=>some (x::xs)
  |_,_=>none
def FG:Value->Option V
 | .agg cs=>(oT cs.toList).map fun l=> .agg (l.map .p)
 |v=>(wM v).map fun x=> .one (.p x)
def bp:Operand->Option aC
 | .tmp t=>some (.t t)
 | .const (.int .i64 n)=>some (.i n)
 | .const (.bool b)=>some (.b b)
 | .const v=>(FG v).map .k
 | .func f=>some (.k (.one (.p (.fn f [] []))))
 | .global _=>none
def ii:List Operand->Option (List aC)
 |[]=>some []
 |a::r=>match bp a,ii r with
  |some x,some xs=>some (x::xs)
  |_,_=>none
def t7:Option Operand->Option (Option aC)
 |none=>some none
 |some a=>(bp a).map some
def pE(P:Program)(t:TypeId):Option (List PV):=
 match P.info? t with
 |some i=>match i.zero with
  |some (.agg cs)=>if cs.size=i.size then oT cs.toList else none
  |some v=>if i.size=1 then (wM v).map fun x=>[x] else none
  |none=>none
 |none=>none
def Ao(P:Program)(t:TypeId):Option (Option Nat):=
 match P.underlying t,P.info? t with
 |some (.struct _),some i=>some (some i.size)
 |some (.array _ _),some i=>some (some i.size)
 |some _,some i=>if i.size=1 then some none else none
 |_,_=>none
def ly(P:Program)(t:TypeId):Option Nat:=(P.info? t).map (·.size)
def nk(place:Nat->Option (Nat × Nat))(zl:Nat):List (Nat × Operand)->Option (List (Nat × Nat × aC))
 |[]=>some []
 |(i,x)::r=>match place i,bp x,nk place zl r with
  |some (off,n),some a,some q=>if off+n<=zl then some ((off,n,a)::q) else none
  |_,_,_=>none
def sL:Nat->List (Nat × Operand)->Option (List aC)
 |_,[]=>some []
 |k,(i,x)::r=>match bp x,sL (k+1) r with
  |some a,some q=>if i=k then some (a::q) else none
  |_,_=>none
def zT(P:Program)(t:TypeId):Option Bool:=
 match P.underlying t with
 |some (.int _)=>some true
 |some .bool=>some false
 |_=>none
def oG(P:Program):Nat->List Field->Option (List Bool)
 |_,[]=>some []
 |k,f::r=>match zT P f.type,oG P (k+1) r with
  |some b,some bs=>if f.offset=k/\f.name≠ "_" then some (b::bs) else none
  |_,_=>none
def lD:Operand->Bool
 | .const .nilIface=>true
 |_=>false
def wy(P:Program)(t:TypeId)(x y:Operand):Option Hk:=
 match P.underlying t with
 |some (.interface _)=>if lD x||lD y then some .ifc else none
 |some .bool=>some .bool
 |some (.pointer _)=>some .ptr
 |some (.slice _)=>some .slc
 |some (.map _ _)=>some .map
 |some (.func _ _ _)=>some .fnc
 |some (.struct fs)=>if !P.stoodInHeld t&& !P.eqGuardType P.depth t then (oG P 0 fs.toList).map .str else none
 |_=>none
def pL(P:Program)(t:TypeId):Option (TypeId × Nat × Nat × List PV):=
 match P.underlying t with
 |some (.slice e)=>match P.info? e,pE P e with
  |some i,some z=>if 0<i.size/\0<i.bytes then some (e,i.size,i.bytes,z) else none
  |_,_=>none
 |_=>none
def keyOf(P:Program)(k:TypeId):Option Nat:=
 match P.underlying k with
 |some (.int _)=>some 0
 |some .string=>some 1
 |some .bool=>some 2
 |_=>none
def ML(P:Program)(t:TypeId):Bool:=
 match P.info? t with
 |some i=>match i.zero with
  |some (.agg _)=>true
  |_=>false
 |none=>false
def qf(P:Program)(site:Nat)(o:Oper):Option w9:=
 match o.op with
 | .move x=>(bp x).map .To
 | .assign x=>(bp x).map .To
 | .pick c a b=>match bp c,bp a,bp b with
  |some c,some a,some b=>some (.pick c a b)
  |_,_,_=>none
 | .alloc t=>(pE P t).map (.alloc site)
 | .box _ x=>(bp x).map (.box site)
 | .build t ps=>match P.underlying t,pE P t with
  |some (.struct fs),some z=>if fs.all fun f=>(P.info? f.type).isSome then
    (nk (fun i=>(fs[i]?).map fun f=>(f.offset,P.cellsOf f.type)) z.length ps.toList).map (.build z)
   else none
  |some (.array _ e),some z=>match P.info? e with
   |some i=>(nk (fun k=>some (k*i.size,i.size)) z.length ps.toList).map (.build z)
   |none=>none
  |_,_=>none
 | .buildSlice t n ps=>match pL P t,sL 0 ps.toList with
  |some (e,sz,_,_),some as=>if as.length=n/\n*sz<=16777216 then some (.Tt site e sz as) else none
  |_,_=>none
 | .load t a=>match Ao P t,bp a with
  |some k,some a=>some (.load k a)
  |_,_=>none
 | .store t a x=>match ly P t,bp a,bp x with
  |some n,some a,some x=>some (.store n a x)
  |_,_,_=>none
 | .nilCheck x=>(bp x).map .Tm
 | .binOp op t x y _=>match bp x,bp y with
  |some a,some b=>match P.underlying t with
   |some (.int _)=>some (.bin op a b)
   |some .string=>some (.bin op a b)
   |_=>match op,wy P t x y with
    | .eql,some k=>some (.eqc k false a b)
    | .neq,some k=>some (.eqc k true a b)
    |_,_=>none
  |_,_=>none
 | .unOp op _ x=>match op with
  | .not=>(bp x).map (.un .not)
  | .neg=>(bp x).map (.un .neg)
  |_=>none
 | .convert s d x=>match P.underlying s,P.underlying d,bp x with
  |some (.int _),some (.int k),some a=>some (.conv k a)
  |some (.slice e),some .string,some a=>match P.underlying e with
   |some (.int .u8)=>some (.bstr a)
   |_=>none
  |_,_,_=>none
 | .makeFunc (.func f) a b=>match ii a.toList,ii b.toList with
  |some x,some y=>some (.mkfn f x y)
  |_,_=>none
 | .makeMap t none=>match P.underlying t with
  |some (.map _ e)=>(Ao P e).map fun k=> .mkmap site k.isSome
  |_=>none
 | .makeSlice t l c=>match pL P t,bp l,bp c with
  |some (e,sz,bytes,z),some l,some c=>some (.TK site e sz bytes z l c)
  |_,_,_=>none
 | .slice t x lo hi none=>match bp x,t7 lo,t7 hi with
  |some a,some l,some h=>match P.underlying t with
   |some (.slice e)=>(ly P e).map fun sz=> .slice sz a l h
   |some .string=>some (.sslice a l h)
   |_=>none
  |_,_,_=>none
 | .fieldAddr s x f=>match P.underlying s,bp x with
  |some (.struct fs),some a=>match fs[f]? with
   |some d=>if P.cellsOf d.type≠0 then some (.Te d.offset a) else none
   |none=>none
  |_,_=>none
 | .field t x f=>match P.underlying t,bp x with
  |some (.struct fs),some a=>match fs[f]? with
   |some d=>(Ao P d.type).map fun k=> .fld d.offset k a
   |none=>none
  |_,_=>none
 | .indexAddr t x i=>match bp x,bp i with
  |some a,some b=>match P.underlying t with
   |some (.slice e)=>(ly P e).map fun sz=> .Tx sz a b
   |some (.array n e)=>(ly P e).map fun sz=> .UR n sz a b
   |_=>none
  |_,_=>none
 | .index t x i=>match bp x,bp i with
  |some a,some b=>match P.underlying t with
   |some (.array n e)=>match ly P e,Ao P e with
    |some sz,some k=>some (.aidx n sz k a b)
    |_,_=>none
   |some .string=>some (.sidx a b)
   |_=>none
  |_,_=>none
 | .lookup t x k ok=>match P.underlying t,bp x,bp k with
  |some (.map kt e),some a,some b=>match pE P e,Ao P e with
   |some z,some q=>match keyOf P kt with
    |some kd=>if ML P e=q.isSome then some (.lookup kd z q.isSome ok a b) else none
    |none=>none
   |_,_=>none
  |_,_,_=>none
 | .mapUpdate t m k v=>match P.underlying t,bp m,bp k,bp v with
  |some (.map kt e),some a,some b,some c=>match Ao P e with
   |some q=>(keyOf P kt).map fun kd=> .mupd kd q.isSome a b c
   |none=>none
  |_,_,_,_=>none
 | .insert t m k v=>match P.underlying t,bp m,bp k,bp v with
  |some (.map kt e),some a,some b,some c=>match Ao P e with
   |some q=>(keyOf P kt).map fun kd=> .mupd kd q.isSome a b c
   |none=>none
  |_,_,_,_=>none
 | .extract x i=>(bp x).map fun a=> .extract a i
 | .call c=>match c.callee,ii c.args.toList with
  | .value f,some as=>(bp f).map fun g=> .call site g as
  | .builtin .len,some [a]=>match c.argTypes[0]? with
   |some t=>match P.underlying t with
    |some .string=>some (.slen a)
    |some (.slice _)=>some (.Ug a)
    |some (.map _ _)=>some (.mlen a)
    |_=>none
   |none=>none
  | .builtin .append,some [a,b]=>match c.argTypes[0]?,c.argTypes[1]? with
   |some t,some u=>match pL P t with
    |some (e,sz,bytes,_)=>if t=u/\c.argTypes.size=2 then some (.append site e sz bytes a b) else none
    |none=>none
   |_,_=>none
  | .builtin .max,some [a,b]=>some (.max a b)
  | .builtin .min,some [a,b]=>some (.min a b)
  | .builtin .clear,some [a]=>match c.argTypes[0]? with
   |some t=>(pL P t).map fun q=> .clear q.2.2.2 a
   |none=>none
  |_,_=>none
 |_=>none
def aC.tmps:aC->List Nat
 | .t n=>[n]
 |_=>[]
def tc:List aC->List Nat
 |[]=>[]
 |a::r=>a.tmps++tc r
def JF:Option aC->List Nat
 |some a=>a.tmps
 |none=>[]
def JE:List (Nat × Nat × aC)->List Nat
 |[]=>[]
 |(_,_,a)::r=>a.tmps++JE r
def w9.tmps:w9->List Nat
 | .To x| .box _ x| .load _ x| .Tm x| .un _ x| .conv _ x| .bstr x| .Te _ x| .fld _ _ x| .extract x _| .slen x| .Ug x| .mlen x| .clear _ x=>x.tmps
 | .pick c a b=>c.tmps++a.tmps++b.tmps
 | .alloc _ _| .mkmap _ _| .bad=>[]
 | .build _ ps=>JE ps
 | .Tt _ _ _ ps=>tc ps
 | .store _ a x| .bin _ a x| .eqc _ _ a x| .Tx _ a x| .UR _ _ a x| .aidx _ _ _ a x| .sidx a x| .lookup _ _ _ _ a x| .append _ _ _ _ a x| .max a x| .min a x=>a.tmps++x.tmps
 | .mkfn _ a b=>tc a++tc b
 | .TK _ _ _ _ _ a b=>a.tmps++b.tmps
 | .slice _ x a b| .sslice x a b=>x.tmps++JF a++JF b
 | .mupd _ _ a b c=>a.tmps++b.tmps++c.tmps
 | .call _ f as=>f.tmps++tc as
def az.DW(o:az):List Nat:=
 o.op.tmps++match o.guard with
  |some (t,_)=>[t]
  |none=>[]
def vY(a b:az):Bool:=
 (match a.dst with
  |some d=> !b.DW.contains d&&b.dst !=some d
  |none=>true)&&
 (match b.dst with
  |some d=> !a.DW.contains d
  |none=>true)
def Au(o:az):Nat->List az->Bool
 |_,[]=>true
 |j,x::r=>(o.anc.testBit j||vY x o)&&Au o (j+1) r
def ru:List az->List az->Bool
 |[],_=>true
 |o::os,past=>Au o 0 past&&ru os (past++[o])
def AO(P:Program)(site:Nat)(o:Oper):w9:=(qf P site o).getD .bad
def PS(nt:Nat):Option Nat->Bool
 |some d=>decide (d<nt)
 |none=>true
def Fg(dst:Nat->Option Nat):Option (Nat × Bool)->Option (Option (Nat × Bool))
 |none=>some none
 |some (j,w)=>(dst j).map fun t=>some (t,w)
def jt(P:Program)(dst:Nat->Option Nat)(base nt:Nat)(anc:Nat)(o:Oper):Option az:=
 if PS nt o.dst then (Fg dst o.guard).map fun g=>⟨o.dst,AO P base o,g,anc⟩ else none
def fZ(P:Program)(dst anc:Nat->Option Nat)(base nt:Nat):Nat->List Oper->Option (List az)
 |_,[]=>some []
 |i,o::r=>match jt P dst ((base+i)*64) nt ((anc i).getD 0) o,fZ P dst anc base nt (i+1) r with
  |some x,some xs=>some (x::xs)
  |_,_=>none
def oU(ops:Array Oper):Bool:=(List.range ops.size).all fun i=>match ops[i]? with
 |some o=>o.after.all fun e=> !Region.binds .any e||decide (e.on<i)
 |none=>true
def gC(P:Program)(f nt:Nat):Code->Option an
 | .skip=>some .skip
 | .region id ops draw=>
  let b:=if draw then Region.before ops else #[]
  match fZ P (fun j=>(ops[j]?).bind (·.dst)) (fun i=>b[i]?) ((f*1000+id)*1000) nt 0 ops.toList with
  |some xs=>if draw then (if oU ops&&ru xs [] then some (.region true xs) else none) else some (.region false xs)
  |none=>none
 | .seq a b=>match gC P f nt a,gC P f nt b with
  |some x,some y=>some (.seq x y)
  |_,_=>none
 | .cond c a b=>match bp c,gC P f nt a,gC P f nt b with
  |some c,some x,some y=>some (.cond c x y)
  |_,_,_=>none
 | .block id c=>(gC P f nt c).map (.block id)
 | .loop c=>(gC P f nt c).map .loop
 | .exit id=>some (.exit id)
 | .scope c=>gC P f nt c
 | .label _=>some .skip
 | .ret=>some .ret
 |_=>some .bad
def zW(P:Program):List ResultVar->Option (List (Nat × Option (Option Nat)))
 |[]=>some []
 | .tmp t::r=>(zW P r).map ((t,none):: ·)
 | .cell t ty::r=>match Ao P ty,zW P r with
  |some k,some q=>some ((t,some k)::q)
  |_,_=>none
def rG(P:Program)(f:Nat):Option ca:=
 match P.funcs[f]? with
 |none=>none
 |some fn=>match fn.body with
  |none=>none
  |some c=>if fn.name== "runtime.NumGoroutine" then none else
   match gC P f fn.ntmps c,zW P fn.results.toList with
   |some b,some r=>some ⟨fn.ntmps,r,b⟩
   |_,_=>none
end Go.Abs
