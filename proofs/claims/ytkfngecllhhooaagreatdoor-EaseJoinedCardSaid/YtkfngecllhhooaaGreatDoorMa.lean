/-
  An abstract machine for the code of the model.
-/
import Derived.Calls
import Derived.WalkKit
set_option linter.all false
namespace Go.Abs
theorem aae:type_of% @List.mem_of_getElem?.{0}:=@List.mem_of_getElem?.{0}
theorem aai:type_of% @List.getElem?_eq_some_iff.{0}:=@List.getElem?_eq_some_iff.{0}
theorem aaj:type_of% @Nat.le_refl:=@Nat.le_refl
theorem aan:type_of% @Nat.zero_le:=@Nat.zero_le
theorem aat:type_of% @List.mem_cons.{0}:=@List.mem_cons.{0}
theorem aau:type_of% @List.length_map.{0,0}:=@List.length_map.{0,0}
theorem aay:type_of% @Bool.and_eq_true:=@Bool.and_eq_true
theorem aaz:type_of% @List.length_cons.{0}:=@List.length_cons.{0}
theorem aaC:type_of% @List.getD_eq_getElem?_getD.{0}:=@List.getD_eq_getElem?_getD.{0}
theorem aaD:type_of% @Option.map_eq_some_iff.{0,0}:=@Option.map_eq_some_iff.{0,0}
theorem aaE:type_of% @Bool.false_eq_true:=@Bool.false_eq_true
theorem aaF:type_of% @List.mem_map.{0,0}:=@List.mem_map.{0,0}
theorem aaK:type_of% @List.map_cons.{0,0}:=@List.map_cons.{0,0}
theorem aaL:type_of% @List.length_nil.{0}:=@List.length_nil.{0}
theorem aaN:type_of% @Nat.mod_lt:=@Nat.mod_lt
theorem aaR:type_of% @List.mem_append.{0}:=@List.mem_append.{0}
theorem aaV:type_of% @Option.some.injEq.{0}:=@Option.some.injEq.{0}
theorem aaW:type_of% @Nat.le_of_ble_eq_true:=@Nat.le_of_ble_eq_true
theorem aaX:type_of% @List.mem_range:=@List.mem_range
theorem aaY:type_of% @List.length_append.{0}:=@List.length_append.{0}
theorem aaZ:type_of% @List.nil_append.{0}:=@List.nil_append.{0}
theorem aa0:type_of% @List.getElem?_map.{0,0}:=@List.getElem?_map.{0,0}
theorem aa2:type_of% @List.length_take.{0}:=@List.length_take.{0}
theorem aa3:type_of% @Nat.add_mul:=@Nat.add_mul
theorem aa4:type_of% @List.take_of_length_le.{0}:=@List.take_of_length_le.{0}
theorem aa7:type_of% @Nat.mod_eq_of_lt:=@Nat.mod_eq_of_lt
theorem aa9:type_of% @List.not_mem_nil.{0}:=@List.not_mem_nil.{0}
theorem aba:type_of% @List.all_eq_true.{0}:=@List.all_eq_true.{0}
theorem abb:type_of% @List.getElem?_of_mem.{0}:=@List.getElem?_of_mem.{0}
theorem abd:type_of% @Nat.zero_add:=@Nat.zero_add
theorem abe:type_of% @Prod.mk.injEq.{0,0}:=@Prod.mk.injEq.{0,0}
theorem abh:type_of% @List.length_pos_iff.{0}:=@List.length_pos_iff.{0}
theorem abi:type_of% @List.map_nil.{0,0}:=@List.map_nil.{0,0}
theorem abk:type_of% @List.length_drop.{0}:=@List.length_drop.{0}
theorem abm:type_of% @Nat.le_trans:=@Nat.le_trans
theorem abo:type_of% @List.append_nil.{0}:=@List.append_nil.{0}
theorem abq:type_of% @List.map_append.{0,0}:=@List.map_append.{0,0}
theorem abt:type_of% @List.flatten_cons.{0}:=@List.flatten_cons.{0}
theorem abu:type_of% @List.all_cons.{0}:=@List.all_cons.{0}
theorem abv:type_of% @Option.getD_some.{0}:=@Option.getD_some.{0}
theorem abw:type_of% @List.take_length.{0}:=@List.take_length.{0}
theorem abx:type_of% @Option.map_some.{0,0}:=@Option.map_some.{0,0}
theorem aby:type_of% @List.getElem?_take.{0}:=@List.getElem?_take.{0}
theorem abz:type_of% @Nat.mul_le_mul_right:=@Nat.mul_le_mul_right
theorem abA:type_of% @List.take_append_drop.{0}:=@List.take_append_drop.{0}
theorem abB:type_of% @Bool.not_eq_true':=@Bool.not_eq_true'
theorem abC:type_of% @Nat.lt_succ_iff_lt_or_eq:=@Nat.lt_succ_iff_lt_or_eq
theorem abI:type_of% @List.getElem?_set.{0}:=@List.getElem?_set.{0}
theorem abJ:type_of% @List.mem_singleton.{0}:=@List.mem_singleton.{0}
theorem abL:type_of% @List.all_nil.{0}:=@List.all_nil.{0}
theorem abM:type_of% @List.take_add_one.{0}:=@List.take_add_one.{0}
theorem abP:type_of% @Option.some.inj.{0}:=@Option.some.inj.{0}
theorem abQ:type_of% @List.nodup_cons.{0}:=@List.nodup_cons.{0}
theorem abS:type_of% @List.getElem?_eq_none.{0}:=@List.getElem?_eq_none.{0}
theorem abT:type_of% @List.getElem?_range:=@List.getElem?_range
theorem abV:type_of% @List.length_set.{0}:=@List.length_set.{0}
theorem abW:type_of% @Nat.not_lt_zero:=@Nat.not_lt_zero
theorem abX:type_of% @Int.eq_ofNat_of_zero_le:=@Int.eq_ofNat_of_zero_le
theorem abY:type_of% @List.getElem_cons_drop.{0}:=@List.getElem_cons_drop.{0}
theorem abZ:type_of% @List.getElem?_eq_getElem.{0}:=@List.getElem?_eq_getElem.{0}
theorem ab0:type_of% @List.pairwise_cons.{0}:=@List.pairwise_cons.{0}
theorem ab1:type_of% @Int.toNat_natCast:=@Int.toNat_natCast
theorem ab2:type_of% @List.length_reverse.{0}:=@List.length_reverse.{0}
theorem ab3:type_of% @List.map_map.{0,0,0}:=@List.map_map.{0,0,0}
theorem ab4:type_of% @List.mem_filter.{0}:=@List.mem_filter.{0}
theorem ab5:type_of% @Nat.eq_of_beq_eq_true:=@Nat.eq_of_beq_eq_true
theorem acb:type_of% @List.countP_append.{0}:=@List.countP_append.{0}
theorem acd:type_of% @List.mem_of_mem_drop.{0}:=@List.mem_of_mem_drop.{0}
theorem acf:type_of% @List.mem_of_mem_take.{0}:=@List.mem_of_mem_take.{0}
theorem ach:type_of% @List.nodup_nil.{0}:=@List.nodup_nil.{0}
theorem aci:type_of% @Bool.and_true:=@Bool.and_true
theorem acj:type_of% @Bool.and_self:=@Bool.and_self
theorem ack:type_of% @List.range_succ:=@List.range_succ
theorem acl:type_of% @List.countP_cons.{0}:=@List.countP_cons.{0}
theorem acm:type_of% @List.ext_getElem.{0}:=@List.ext_getElem.{0}
theorem acn:type_of% @Nat.add_mod_right:=@Nat.add_mod_right
theorem aco:type_of% @Nat.add_zero:=@Nat.add_zero
theorem acp:type_of% @List.cons_append.{0}:=@List.cons_append.{0}
theorem acr:type_of% @List.pairwise_map.{0,0}:=@List.pairwise_map.{0,0}
theorem acs:type_of% @Nat.mod_two_eq_zero_or_one:=@Nat.mod_two_eq_zero_or_one
theorem act:type_of% @Nat.zero_mul:=@Nat.zero_mul
theorem acu:type_of% @Nat.min_eq_left:=@Nat.min_eq_left
theorem acw:type_of% @List.append_assoc.{0}:=@List.append_assoc.{0}
theorem acA:type_of% @List.getElem?_append_right.{0}:=@List.getElem?_append_right.{0}
theorem acB:type_of% @List.getElem?_drop.{0}:=@List.getElem?_drop.{0}
theorem acE:type_of% @Bool.not_true:=@Bool.not_true
theorem acF:type_of% @Bool.or_eq_true:=@Bool.or_eq_true
theorem acG:type_of% @Bool.false_or:=@Bool.false_or
theorem acH:type_of% @Bool.true_and:=@Bool.true_and
theorem acI:type_of% @List.mem_cons_of_mem.{0}:=@List.mem_cons_of_mem.{0}
theorem acJ:type_of% @List.countP_pos_iff.{0}:=@List.countP_pos_iff.{0}
theorem acK:type_of% @Nat.mod_self:=@Nat.mod_self
theorem acM:type_of% @Nat.lt_of_lt_of_le:=@Nat.lt_of_lt_of_le
theorem acN:type_of% @List.getElem?_append_left.{0}:=@List.getElem?_append_left.{0}
theorem acT:type_of% @List.foldl_cons.{0,0}:=@List.foldl_cons.{0,0}
theorem acW:type_of% @List.any_eq_false.{0}:=@List.any_eq_false.{0}
theorem ac1:type_of% @List.getElem_map.{0,0}:=@List.getElem_map.{0,0}
theorem ac2:type_of% @List.map_congr_left.{0,0}:=@List.map_congr_left.{0,0}
theorem ac3:type_of% @List.length_range:=@List.length_range
theorem ac4:type_of% @List.countP_map.{0,0}:=@List.countP_map.{0,0}
theorem ac5:type_of% @Nat.le_max_left:=@Nat.le_max_left
theorem ac7:type_of% @Nat.le_of_eq:=@Nat.le_of_eq
theorem ac8:type_of% @List.flatten_append.{0}:=@List.flatten_append.{0}
theorem ac9:type_of% @List.nodup_range:=@List.nodup_range
theorem ada:type_of% @List.cons.injEq.{0}:=@List.cons.injEq.{0}
theorem adb:type_of% @Nat.le_max_right:=@Nat.le_max_right
theorem adc:type_of% @Nat.add_assoc:=@Nat.add_assoc
theorem ade:type_of% @List.flatten_nil.{0}:=@List.flatten_nil.{0}
theorem adf:type_of% @List.mem_flatten.{0}:=@List.mem_flatten.{0}
theorem adg:type_of% @List.length_eq_zero_iff.{0}:=@List.length_eq_zero_iff.{0}
theorem adh:type_of% @List.countP_eq_zero.{0}:=@List.countP_eq_zero.{0}
theorem adi:type_of% @List.nodup_append.{0}:=@List.nodup_append.{0}
theorem adk:type_of% @List.ext_getElem?.{0}:=@List.ext_getElem?.{0}
theorem adl:type_of% @List.mem_append_right.{0}:=@List.mem_append_right.{0}
theorem adn:type_of% @List.find?_eq_none.{0}:=@List.find?_eq_none.{0}
theorem adp:type_of% @List.foldl_append.{0,0}:=@List.foldl_append.{0,0}
theorem ads:type_of% @List.mem_of_find?_eq_some.{0}:=@List.mem_of_find?_eq_some.{0}
theorem adu:type_of% @List.getElem_set.{0}:=@List.getElem_set.{0}
theorem adv:type_of% @List.getElem_range:=@List.getElem_range
theorem adw:type_of% @List.drop_length.{0}:=@List.drop_length.{0}
theorem adB:type_of% @List.pairwise_append.{0}:=@List.pairwise_append.{0}
theorem adC:type_of% @List.countP_le_length.{0}:=@List.countP_le_length.{0}
theorem adQ:type_of% @List.mem_cons_self.{0}:=@List.mem_cons_self.{0}
theorem adR:type_of% @List.length_pos_of_mem.{0}:=@List.length_pos_of_mem.{0}
theorem adS:type_of% @List.take_append_of_le_length.{0}:=@List.take_append_of_le_length.{0}
theorem adT:type_of% @List.eq_of_mem_replicate.{0}:=@List.eq_of_mem_replicate.{0}
theorem adU:type_of% @Nat.le_mul_of_pos_right:=@Nat.le_mul_of_pos_right
theorem adV:type_of% @Bool.or_eq_false_iff:=@Bool.or_eq_false_iff
theorem adW:type_of% @Option.bind_eq_some_iff.{0,0}:=@Option.bind_eq_some_iff.{0,0}
theorem adX:type_of% @List.idxOf_lt_length_iff.{0}:=@List.idxOf_lt_length_iff.{0}
theorem adY:type_of% @List.pairwise_iff_getElem.{0}:=@List.pairwise_iff_getElem.{0}
inductive PV where
 |bool (b:Bool)
 |int (k:IntKind) (n:Int)
 |str (s:ByteArray)
 |abN|nils|abn|aaI|nili|ifc|zs
 |box (cs:List PV)
 |sl (es:List (List PV))
 |mp (ag:Bool) (es:List (PV×List PV))
 |fn (f:Nat) (first cap:List PV)
 deriving Inhabited
inductive C where
 |p (v:PV)
 |aam (id g off:Nat)
 |hel (id g i off:Nat)
 |hsl (id g sz off len:Nat)
 |aaT (id g:Nat)
 |hfn (f:Nat) (first cap:List C)
 deriving Inhabited
inductive V where
 |undef
 |one (c:C)
 |agg (cs:List C)
 |tup (vs:List V)
 deriving Inhabited
inductive Ob where
 |var (cs:List C)
 |arr (ty sz:Nat) (es:List (List PV))
 |aaJ (ty sz:Nat) (es:List (List C))
 |map (ag:Bool) (es:List (PV×List PV))
 |fvar (cs:List PV)
 |abl (ty sz:Nat) (es:List (List PV))
 |fmap (ag:Bool) (es:List (PV×List PV))
 deriving Inhabited
abbrev Env:=Nat->V
abbrev aw:=Nat->Nat×Option Ob
def fY{α:Type}(f:Nat->α)(a:Nat)(x:α):Nat->α:=fun i=>if i=a then x else f i
theorem aa{α:Type}(f:Nat->α)(a b:Nat)(x:α):fY f a x b=if b=a then x else f b:=rfl
inductive aC where
 |t (n:Nat)
 |i (n:Int)
 |b (x:Bool)
 |k (v:V)
inductive Lg where
 |bool|ptr|slc|map|fnc|ifc
 |str (ks:List Bool)
inductive vQ where
 |mov (x:aC)
 |pick (c a b:aC)
 |alloc (site:Nat) (z:List PV)
 |box (site:Nat) (x:aC)
 |build (z:List PV) (parts:List (Nat×Nat×aC))
 |aaq (site ty sz:Nat) (parts:List aC)
 |load (k:Option Nat) (x:aC)
 |store (n:Nat) (a x:aC)
 |aa5 (x:aC)
 |bin (op:BinOp) (x y:aC)
 |eqc (k:Lg) (neg:Bool) (x y:aC)
 |un (op:UnOp) (x:aC)
 |conv (k:IntKind) (x:aC)
 |bstr (x:aC)
 |mkfn (f:Nat) (first cap:List aC)
 |mkmap (site:Nat) (ag:Bool)
 |aaA (site ty sz bytes:Nat) (z:List PV) (len cap:aC)
 |slice (sz:Nat) (x:aC) (lo hi:Option aC)
 |sslice (x:aC) (lo hi:Option aC)
 |abr (off:Nat) (x:aC)
 |aaU (sz:Nat) (x i:aC)
 |abg (len sz:Nat) (x i:aC)
 |fld (off:Nat) (k:Option Nat) (x:aC)
 |aidx (len sz:Nat) (k:Option Nat) (x i:aC)
 |sidx (x i:aC)
 |lookup (kd:Nat) (z:List PV) (agg ok:Bool) (x k:aC)
 |mupd (kd:Nat) (ag:Bool) (m k v:aC)
 |bad
 |extract (x:aC) (i:Nat)
 |call (site:Nat) (f:aC) (args:List aC)
 |slen (x:aC)
 |adr (x:aC)
 |mlen (x:aC)
 |append (site ty sz bytes:Nat) (s x:aC)
 |max (x y:aC)
 |min (x y:aC)
 |clear (z:List PV) (x:aC)
structure aj where
 dst:Option Nat
 op:vQ
 guard:Option (Nat×Bool)
 anc:Nat
inductive am where
 |skip
 |region (draw:Bool) (ops:List aj)
 |seq (a b:am)
 |cond (x:aC) (a b:am)
 |block (id:Nat) (c:am)
 |loop (c:am)
 |exit (id:Nat)
 |ret
 |bad
structure cX where
 ntmps:Nat
 results:List (Nat×Option (Option Nat))
 body:am
def ev (env:Env):aC->V
 | .t n=>env n
 | .i n=>.one (.p (.int .i64 n))
 | .b x=>.one (.p (.bool x))
 | .k v=>v
abbrev jS:=Nat×(Nat×Option Ob)
def app:List jS->aw->aw
 |[],b=>b
 |(i,o)::r,b=>app r (fY b i o)
def PV.norm:PV->PV
 | .nils=>.sl []
 | .zs=>.sl []
 |v=>v
def toP:C->Option PV
 | .p v=>some v.norm
 |_=>none
def AS:List C->Option (List PV)
 |[]=>some []
 |c::r=>match toP c,AS r with
  |some v,some vs=>some (v::vs)
  |_,_=>none
def gj:V->Option (List C)
 | .one c=>some [c]
 | .agg cs=>some cs
 |_=>none
def collect{α β:Type}(f:α->Option (β×List Nat)):List α->Option (List β×List Nat)
 |[]=>some ([],[])
 |a::r=>match f a,collect f r with
  |some (b,x),some (bs,y)=>some (b::bs,x++y)
  |_,_=>none
def snap(blk:aw):Nat->C->Option (PV×List Nat)
 |0,_=>none
 |n+1,c=>match c with
  | .p v=>some (v.norm,[])
  | .aam id g off=>match blk id with
   |(g',some (.var cs))=>if g'=g then
     match collect (snap blk n) cs with
     |some (ps,r)=>some (.box (ps.drop off),id::r)
     |none=>none
    else none
   |(g',some (.fvar ps))=>if g'=g then some (.box (ps.drop off),[id]) else none
   |_=>none
  | .hel id g i off=>match blk id with
   |(g',some (.arr _ _ es))=>if g'=g then (es[i]?).map fun e=>(.box (e.drop off),[id]) else none
   |(g',some (.abl _ _ es))=>if g'=g then (es[i]?).map fun e=>(.box (e.drop off),[id]) else none
   |_=>none
  | .hsl id g z off len=>match blk id with
   |(g',some (.arr _ _ es))=>if g'=g/\off+len<=es.length then some (.sl ((es.drop off).take len),[id]) else none
   |(g',some (.abl _ _ es))=>if g'=g/\off+len<=es.length then some (.sl ((es.drop off).take len),[id]) else none
   |(g',some (.aaJ _ _ es))=>if g'=g/\off+len<=es.length then
     match collect (collect (snap blk n)) ((es.drop off).take len) with
     |some (ps,r)=>some (.sl ps,id::r)
     |none=>none
    else none
   |_=>none
  | .aaT id g=>match blk id with
   |(g',some (.map ag es))=>if g'=g then some (.mp ag es,[id]) else none
   |(g',some (.fmap ag es))=>if g'=g then some (.mp ag es,[id]) else none
   |_=>none
  | .hfn f a b=>match collect (snap blk n) a,collect (snap blk n) b with
   |some (x,r),some (y,s)=>some (.fn f x y,r++s)
   |_,_=>none
def cG:Nat:=6
def gD(blk:aw):V->Option (V×List Nat)
 | .one c=>(snap blk cG c).map fun(v,r)=>(.one (.p v),r)
 | .agg cs=>(collect (snap blk cG) cs).map fun(vs,r)=>(.agg (vs.map .p),r)
 |_=>none
def A0(blk:aw)(all:List Nat)(id:Nat):Option (List jS):=
 match blk id with
 |(g,some (.var cs))=>match collect (snap blk cG) cs with
  |some (ps,r)=>if r.all all.contains then some [(id,(g,some (.fvar ps)))] else none
  |none=>none
 |(g,some (.arr ty sz es))=>some [(id,(g,some (.abl ty sz es)))]
 |(g,some (.aaJ ty sz es))=>match collect (collect (snap blk cG)) es with
  |some (ps,r)=>if r.all all.contains then some [(id,(g,some (.abl ty sz ps)))] else none
  |none=>none
 |(g,some (.map ag es))=>some [(id,(g,some (.fmap ag es)))]
 |(_,none)=>none
 |_=>some []
def tn(blk:aw)(all:List Nat):List Nat->Option (List jS)
 |[]=>some []
 |i::r=>match A0 blk all i,tn blk all r with
  |some a,some b=>some (a++b)
  |_,_=>none
def Gb(blk:aw)(ids:List Nat):Option (List jS):=tn blk ids ids
inductive RC where
 |p (v:PV)
 |own (ty sz:Nat) (es:List (List PV))
 deriving Inhabited
inductive RV where
 |one (c:RC)
 |agg (cs:List RC)
 |tup (vs:List RV)
 deriving Inhabited
def RC.pure:RC->RC
 | .p v=>.p v
 | .own _ _ es=>.p (.sl es)
def RV.yq:RV->RV
 | .one c=>.one c.pure
 | .agg cs=>.agg (cs.map RC.pure)
 | .tup vs=>.tup vs
def RV.pure:RV->RV
 | .tup vs=>.tup (vs.map RV.yq)
 |v=>v.yq
def RV.bn(b:Bool)(r:RV):RV:=match b with
 |true=>r.pure
 |false=>r
def PV.scalar:PV->Bool
 | .bool _| .int _ _| .str _| .abN| .nils| .abn| .aaI| .nili| .ifc| .zs=>true
 |_=>false
def RC.alone:RC->Bool
 | .p v=>v.scalar
 | .own _ _ es=>es.all fun e=>e.all PV.scalar
def fR(blk:aw)(c:C):Option (RC×List Nat×List Nat):=
 match c with
 | .p v=>some (.p v,[],[])
 | .hsl id g z 0 len=>match blk id with
  |(g',some (.arr ty sz es))=>if g'=g/\len<=es.length then some (.own ty sz (es.take len),[id],[]) else none
  |_=>(snap blk cG c).map fun(v,r)=>(.p v,[],r)
 |_=>(snap blk cG c).map fun(v,r)=>(.p v,[],r)
def fJ(blk:aw):List C->Option (List RC×List Nat×List Nat)
 |[]=>some ([],[],[])
 |c::r=>match fR blk c,fJ blk r with
  |some (x,o,q),some (xs,os,qs)=>some (x::xs,o++os,q++qs)
  |_,_=>none
def ef:V->Option (List C)
 | .one c=>some [c]
 | .agg cs=>some cs
 |_=>none
def ii:List V->Option (List C)
 |[]=>some []
 |v::r=>match ef v,ii r with
  |some a,some b=>some (a++b)
  |_,_=>none
def jv:V->Option (List C)
 | .tup vs=>ii vs
 |v=>ef v
def fL:V->List RC->RV×List RC
 | .one _,r::rs=>(.one r,rs)
 | .agg cs,rs=>(.agg (rs.take cs.length),rs.drop cs.length)
 |_,rs=>(.agg [],rs)
def kx:List V->List RC->List RV
 |[],_=>[]
 |v::r,rs=>(fL v rs).1::kx r (fL v rs).2
def kN:V->List RC->RV
 | .tup vs,rs=>.tup (kx vs rs)
 |v,rs=>(fL v rs).1
def apart:List Nat->List Nat->Bool
 |[],_=>true
 |i::r,q=> !r.contains i&& !q.contains i&&apart r q
def fH(blk:aw)(v:V):Option RV:=
 match jv v with
 |some cs=>match fJ blk cs with
  |some (x,o,q)=>if apart o q then some (kN v x) else none
  |none=>none
 |none=>none
def dY(blk:aw)(site:Nat):RC->C×List jS
 | .p v=>(.p v,[])
 | .own ty sz es=>(.hsl site ((blk site).1+1) sz 0 es.length,[(site,((blk site).1+1,some (.arr ty sz es)))])
def gA(blk:aw)(site:Nat):List RC->List C×List jS
 |[]=>([],[])
 |c::r=>((dY blk site c).1::(gA blk (site+1) r).1,(dY blk site c).2++(gA blk (site+1) r).2)
def bQ:RV->List RC
 | .one c=>[c]
 | .agg cs=>cs
 | .tup _=>[]
def dJ:List RV->List RC
 |[]=>[]
 |v::r=>bQ v++dJ r
def dp:RV->List RC
 | .tup vs=>dJ vs
 |v=>bQ v
def dM:RV->List C->V×List C
 | .one _,c::cs=>(.one c,cs)
 | .agg rs,cs=>(.agg (cs.take rs.length),cs.drop rs.length)
 |_,cs=>(.undef,cs)
def fg:List RV->List C->List V
 |[],_=>[]
 |v::r,cs=>(dM v cs).1::fg r (dM v cs).2
def iR:RV->List C->V
 | .tup vs,cs=>.tup (fg vs cs)
 |v,cs=>(dM v cs).1
def RV.alone(r:RV):Bool:=(dp r).all RC.alone
def rV(blk:aw)(site:Nat)(r:RV):V×List jS:=(iR r (gA blk site (dp r)).1,(gA blk site (dp r)).2)
inductive d9 where
 |fail
 |done (v:V) (u:List jS) (rd:List Nat)
 |pc (f:Nat) (args:List V) (rd:List Nat) (site:Nat)
 |sc (f:Nat) (args:List V)
def AW(blk:aw):V->Option (List C×List Nat)
 | .one (.p (.box cs))=>some (cs.map .p,[])
 | .one (.aam id g off)=>match blk id with
  |(g',some (.var cs))=>if g'=g then some (cs.drop off,[id]) else none
  |(g',some (.fvar cs))=>if g'=g then some ((cs.drop off).map .p,[id]) else none
  |_=>none
 | .one (.hel id g i off)=>match blk id with
  |(g',some (.arr _ _ es))=>if g'=g then (es[i]?).map fun e=>((e.drop off).map .p,[id]) else none
  |(g',some (.abl _ _ es))=>if g'=g then (es[i]?).map fun e=>((e.drop off).map .p,[id]) else none
  |(g',some (.aaJ _ _ es))=>if g'=g then (es[i]?).map fun e=>(e.drop off,[id]) else none
  |_=>none
 |_=>none
def iz(k:Option Nat)(cs:List C):Option V:=
 match k with
 |none=>match cs with
  |c::_=>some (.one c)
  |[]=>none
 |some n=>if n<=cs.length then some (.agg (cs.take n)) else none
def aY{α:Type}(cs:List α)(off:Nat)(xs:List α):List α:=cs.take off++xs++cs.drop (off+xs.length)
def xD(blk:aw)(a:V)(n:Nat)(xs:List C):d9:=
 if xs.length≠n then .fail else
 match a with
 | .one (.aam id g off)=>match blk id with
  |(g',some (.var cs))=>if g'=g/\off+n<=cs.length then .done .undef [(id,(g,some (.var (aY cs off xs))))] [id] else .fail
  |_=>.fail
 | .one (.hel id g i off)=>match blk id with
  |(g',some (.arr ty sz es))=>match es[i]?,AS xs with
   |some e,some ps=>if g'=g/\off+n<=e.length then .done .undef [(id,(g,some (.arr ty sz (es.set i (aY e off ps)))))] [id] else .fail
   |_,_=>.fail
  |_=>.fail
 |_=>.fail
def aO(blk:aw):V->Option (List (List PV)×List Nat×List Nat)
 | .one (.p .nils)=>some ([],[],[])
 | .one (.p (.sl es))=>some (es,[],[])
 | .one (.hsl id g z off len)=>match blk id with
  |(g',some (.arr _ _ es))=>if g'=g/\off+len<=es.length then some ((es.drop off).take len,[id],[]) else none
  |(g',some (.abl _ _ es))=>if g'=g/\off+len<=es.length then some ((es.drop off).take len,[id],[]) else none
  |(g',some (.aaJ _ _ es))=>if g'=g/\off+len<=es.length then
    match collect (collect (snap blk cG)) ((es.drop off).take len) with
    |some (ps,r)=>some (ps,[id],r)
    |none=>none
   else none
  |_=>if len=0 then some ([],[id],[]) else none
 |_=>none
def gQ(sz:Nat)(es:List (List PV)):Bool:=es.all fun e=>e.length==sz
def kr:V->Option Nat
 | .one (.hsl _ _ z _ _)=>some z
 |_=>none
def room:Nat:=140737488355328
def aF(blk:aw)(site ty sz bytes:Nat)(s x:V):d9:=
 match aO blk x with
 |none=>.fail
 |some (new,rd,fr)=>
  if ¬(kr x=some sz\/gQ sz new=true) then .fail else
  match Gb blk fr with
  |none=>.fail
  |some fu=>
   match s with
   | .one (.p .nils)=>
    if new.length=0 then .done (.one (.p .nils)) fu (rd++fr) else
    if new.length*bytes<=room then
     .done (.one (.hsl site ((blk site).1+1) sz 0 new.length)) (fu++[(site,((blk site).1+1,some (.arr ty sz new)))]) (site::rd++fr)
    else .fail
   | .one (.p .zs)=>
    if new.length=0 then .fail else
    if new.length*bytes<=room then
     .done (.one (.hsl site ((blk site).1+1) sz 0 new.length)) (fu++[(site,((blk site).1+1,some (.arr ty sz new)))]) (site::rd++fr)
    else .fail
   | .one (.hsl id g z 0 len)=>match blk id with
    |(g',some (.arr ty' sz' es))=>
     if g'=g/\ty'=ty/\sz'=sz/\len<=es.length/\(len+new.length)*bytes<=room/\fr.contains id=false then
      .done (.one (.hsl site ((blk site).1+1) sz 0 (len+new.length)))
       (fu++[(id,(g,none)),(site,((blk site).1+1,some (.arr ty sz (es.take len++new))))]) (site::id::rd++fr)
     else .fail
    |_=>.fail
   |_=>.fail
def A4:V->Option Nat
 | .one (.p (.int _ n))=>if 0<=n then some n.toNat else none
 |_=>none
def eL(env:Env)(d:Nat):Option aC->Option Nat
 |none=>some d
 |some a=>A4 (ev env a)
def gT(x:V)(sz lo hi:Nat):d9:=
 if ¬lo<=hi then .fail else
 match x with
 | .one (.p .nils)=>if hi=0 then .done (.one (.p .nils)) [] [] else .fail
 | .one (.p (.sl es))=>if hi<=es.length/\gQ sz es=true then .done (.one (.p (.sl ((es.drop lo).take (hi-lo))))) [] [] else .fail
 | .one (.hsl id g z off len)=>if hi<=len/\z=sz then .done (.one (.hsl id g z (off+lo) (hi-lo))) [] [] else .fail
 |_=>.fail
def wY:V->Option Nat
 | .one (.p .nils)=>some 0
 | .one (.p (.sl es))=>some es.length
 | .one (.hsl _ _ _ _ len)=>some len
 |_=>none
def yL(blk:aw):V->Option (Nat×List Nat)
 | .one (.p .abn)=>some (0,[])
 | .one (.p (.mp _ es))=>some (es.length,[])
 | .one (.aaT id g)=>match blk id with
  |(g',some (.map _ es))=>if g'=g then some (es.length,[id]) else none
  |(g',some (.fmap _ es))=>if g'=g then some (es.length,[id]) else none
  |_=>none
 |_=>none
def mapOf(blk:aw)(ag:Bool):V->Option (List (PV×List PV)×List Nat)
 | .one (.p .abn)=>some ([],[])
 | .one (.p (.mp ag' es))=>if ag'=ag then some (es,[]) else none
 | .one (.aaT id g)=>match blk id with
  |(g',some (.map ag' es))=>if g'=g/\ag'=ag then some (es,[id]) else none
  |(g',some (.fmap ag' es))=>if g'=g/\ag'=ag then some (es,[id]) else none
  |_=>none
 |_=>none
def sameKey:PV->PV->Option Bool
 | .int k a,.int k' b=>if k=k' then some (a==b) else none
 | .str a,.str b=>some (a==b)
 | .bool a,.bool b=>some (a==b)
 |_,_=>none
def dD:PV->Nat
 | .int _ _=>0
 | .str _=>1
 | .bool _=>2
 |_=>3
def mapVal:Bool->List PV->Option V
 |true,cs=>some (.agg (cs.map .p))
 |false,[c]=>some (.one (.p c))
 |false,_=>none
def iG(k:PV):List (PV×List PV)->Nat->Option (Option (Nat×List PV))
 |[],_=>some none
 |(a,v)::r,i=>match sameKey k a with
  |some true=>some (some (i,v))
  |some false=>iG k r (i+1)
  |none=>none
def iK:Bool->V->Option (List C)
 |false,.one c=>some [c]
 |true,.agg cs=>some cs
 |_,_=>none
def ir(op:BinOp)(k:IntKind)(a b:Int):Option PV:=
 match op with
 | .add=>some (.int k (k.wrap (a+b)))
 | .sub=>some (.int k (k.wrap (a-b)))
 | .mul=>some (.int k (k.wrap (a*b)))
 | .quo=>if b=0 then none else some (.int k (k.wrap (a.tdiv b)))
 | .rem=>if b=0 then none else some (.int k (a.tmod b))
 | .eql=>some (.bool (a==b))
 | .neq=>some (.bool (a !=b))
 | .lss=>some (.bool (decide (a<b)))
 | .leq=>some (.bool (decide (a<=b)))
 | .gtr=>some (.bool (decide (b<a)))
 | .geq=>some (.bool (decide (b<=a)))
 | .and=>some (.int k (k.wrap (BitVec.ofInt k.bits a&&& BitVec.ofInt k.bits b).toNat))
 | .shl=>if b<0 then none else some (.int k (k.wrap (a*2 ^ min b.toNat k.bits)))
 | .shr=>if b<0 then none else some (.int k (a.fdiv (2 ^ min b.toNat k.bits)))
 |_=>none
def vK(op:BinOp)(a b:ByteArray):Option PV:=
 match op with
 | .add=>if a.size+b.size<=9223372036854775807 then some (.str (a++b)) else none
 | .eql=>some (.bool (a.toList==b.toList))
 | .neq=>some (.bool (!(a.toList==b.toList)))
 |_=>none
def pJ(op:BinOp):V->V->Option V
 | .one (.p (.int k a)),.one (.p (.int k' b))=>if k=k'\/op=.shl\/op=.shr then (ir op k a b).map fun v=>.one (.p v) else none
 | .one (.p (.str a)),.one (.p (.str b))=>(vK op a b).map fun v=>.one (.p v)
 |_,_=>none
def Hm:Bool->PV->PV->Option Bool
 |true,.int k a,.int k' b=>if k=k' then some (a==b) else none
 |false,.bool a,.bool b=>some (a==b)
 |_,_,_=>none
def tv:List Bool->List C->List C->Option Bool
 |[],[],[]=>some true
 |k::ks,.p a::r,.p b::s=>match Hm k a b with
  |some true=>tv ks r s
  |some false=>some false
  |none=>none
 |_,_,_=>none
def ti:Lg->V->Option Bool
 | .ptr,.one (.p .abN)=>some true
 | .ptr,.one (.p (.box _))=>some false
 | .ptr,.one (.aam _ _ _)=>some false
 | .ptr,.one (.hel _ _ _ _)=>some false
 | .slc,.one (.p .nils)=>some true
 | .slc,.one (.p (.sl (_::_)))=>some false
 | .slc,.one (.hsl _ _ _ _ _)=>some false
 | .map,.one (.p .abn)=>some true
 | .map,.one (.p (.mp _ _))=>some false
 | .map,.one (.aaT _ _)=>some false
 | .fnc,.one (.p .aaI)=>some true
 | .fnc,.one (.p (.fn _ _ _))=>some false
 | .fnc,.one (.hfn _ _ _)=>some false
 | .ifc,.one (.p .nili)=>some true
 | .ifc,.one (.p .ifc)=>some false
 |_,_=>none
def Ut:Lg->V->V->Option Bool
 | .bool,.one (.p (.bool a)),.one (.p (.bool b))=>some (a==b)
 | .str ks,.agg a,.agg b=>tv ks a b
 | .bool,_,_=>none
 | .str _,_,_=>none
 |k,a,b=>if ti k b=some true then ti k a else if ti k a=some true then ti k b else none
def fill(cs:List C):List (Nat×List C)->List C
 |[]=>cs
 |(off,xs)::r=>fill (aY cs off xs) r
def kB(env:Env):List (Nat×Nat×aC)->Option (List (Nat×List C))
 |[]=>some []
 |(off,n,a)::r=>match gj (ev env a),kB env r with
  |some cs,some q=>if cs.length=n then some ((off,cs)::q) else none
  |_,_=>none
def lX(env:Env)(sz:Nat):List aC->Option (List (List C))
 |[]=>some []
 |a::r=>match gj (ev env a),lX env sz r with
  |some cs,some q=>if cs.length=sz then some (cs::q) else none
  |_,_=>none
def sH:List (List C)->Option (List (List PV))
 |[]=>some []
 |c::r=>match AS c,sH r with
  |some v,some vs=>some (v::vs)
  |_,_=>none
def Gh(env:Env)(a:aC):Option (Nat×List C×List C):=
 match ev env a with
 | .one (.p (.fn f x y))=>some (f,x.map .p,y.map .p)
 | .one (.hfn f x y)=>some (f,x,y)
 |_=>none
def mQ(blk:aw):List V->Option (List V×List Nat):=collect (gD blk)
def bytesOf:List (List PV)->Option (List UInt8)
 |[]=>some []
 |[.int .u8 n]::r=>(bytesOf r).map (UInt8.ofNat n.toNat:: ·)
 |_::_=>none
structure Sys where
 P:Program
 shared:Nat->Bool
 sites:Nat->List Nat
 lone:Nat->Bool
 fns:Nat->Option cX
 prim:Nat->List V->Option (Option RV)
def ml(env:Env):List aC->Option (List C)
 |[]=>some []
 |a::r=>match ev env a,ml env r with
  | .one c,some q=>some (c::q)
  |_,_=>none
def aM(shared:Nat->Bool)(env:Env)(blk:aw):vQ->d9
 | .mov x=>.done (ev env x) [] []
 | .pick c a b=>match ev env c with
  | .one (.p (.bool t))=>.done (if t then ev env a else ev env b) [] []
  |_=>.fail
 | .alloc s z=>.done (.one (.aam s ((blk s).1+1) 0)) [(s,((blk s).1+1,some (.var (z.map .p))))] [s]
 | .box s x=>match gj (ev env x) with
  |some cs=>.done (.one (.aam s ((blk s).1+1) 0)) [(s,((blk s).1+1,some (.var cs)))] [s]
  |none=>.fail
 | .build z ps=>match kB env ps with
  |some q=>.done (.agg (fill (z.map .p) q)) [] []
  |none=>.fail
 | .aaq s ty sz ps=>match lX env sz ps with
  |some es=>match sH es with
   |some qs=>.done (.one (.hsl s ((blk s).1+1) sz 0 es.length)) [(s,((blk s).1+1,some (.arr ty sz qs)))] [s]
   |none=>.done (.one (.hsl s ((blk s).1+1) sz 0 es.length)) [(s,((blk s).1+1,some (.aaJ ty sz es)))] [s]
  |none=>.fail
 | .load k x=>match AW blk (ev env x) with
  |some (cs,r)=>match iz k cs with
   |some v=>.done v [] r
   |none=>.fail
  |none=>.fail
 | .store n a x=>match gj (ev env x) with
  |some xs=>xD blk (ev env a) n xs
  |none=>.fail
 | .aa5 x=>match ev env x with
  | .one (.aam id g o)=>.done (.one (.aam id g o)) [] []
  | .one (.hel id g i o)=>.done (.one (.hel id g i o)) [] []
  | .one (.p (.box cs))=>.done (.one (.p (.box cs))) [] []
  | .one (.hfn f a b)=>.done (.one (.hfn f a b)) [] []
  | .one (.p (.fn f a b))=>.done (.one (.p (.fn f a b))) [] []
  |_=>.fail
 | .bin op x y=>match pJ op (ev env x) (ev env y) with
  |some v=>.done v [] []
  |none=>.fail
 | .eqc k neg x y=>match Ut k (ev env x) (ev env y) with
  |some b=>.done (.one (.p (.bool (if neg then !b else b)))) [] []
  |none=>.fail
 | .un op x=>match op,ev env x with
  | .not,.one (.p (.bool b))=>.done (.one (.p (.bool (!b)))) [] []
  | .neg,.one (.p (.int k n))=>.done (.one (.p (.int k (k.wrap (0-n))))) [] []
  |_,_=>.fail
 | .conv k x=>match ev env x with
  | .one (.p (.int _ n))=>.done (.one (.p (.int k (k.wrap n)))) [] []
  |_=>.fail
 | .bstr x=>match aO blk (ev env x) with
  |some (es,r,[])=>match bytesOf es with
   |some bs=>.done (.one (.p (.str ⟨bs.toArray⟩))) [] r
   |none=>.fail
  |_=>.fail
 | .mkfn f a b=>match ml env a,ml env b with
  |some x,some y=>.done (.one (.hfn f x y)) [] []
  |_,_=>.fail
 | .mkmap s ag=>.done (.one (.aaT s ((blk s).1+1))) [(s,((blk s).1+1,some (.map ag [])))] [s]
 | .aaA s ty sz bytes z l c=>match A4 (ev env l),A4 (ev env c) with
  |some n,some m=>if n=m/\n*bytes<=room then
    .done (.one (.hsl s ((blk s).1+1) sz 0 n)) [(s,((blk s).1+1,some (.arr ty sz (List.replicate n z))))] [s]
   else .fail
  |_,_=>.fail
 | .slice sz x lo hi=>match wY (ev env x) with
  |some n=>match eL env 0 lo,eL env n hi with
   |some l,some h=>gT (ev env x) sz l h
   |_,_=>.fail
  |none=>.fail
 | .sslice x lo hi=>match ev env x with
  | .one (.p (.str s))=>match eL env 0 lo,eL env s.size hi with
   |some l,some h=>if l<=h/\h<=s.size then .done (.one (.p (.str (s.extract l h)))) [] [] else .fail
   |_,_=>.fail
  |_=>.fail
 | .abr off x=>match ev env x with
  | .one (.aam id g o)=>.done (.one (.aam id g (o+off))) [] []
  | .one (.hel id g i o)=>.done (.one (.hel id g i (o+off))) [] []
  | .one (.p (.box cs))=>.done (.one (.p (.box (cs.drop off)))) [] []
  |_=>.fail
 | .aaU sz x i=>match A4 (ev env i),ev env x with
  |some n,.one (.p (.sl es))=>match es[n]? with
   |some e=>if e.length=sz then .done (.one (.p (.box e))) [] [] else .fail
   |none=>.fail
  |some n,.one (.hsl id g z off len)=>if n<len/\z=sz then .done (.one (.hel id g (off+n) 0)) [] [] else .fail
  |_,_=>.fail
 | .abg len sz x i=>match A4 (ev env i),ev env x with
  |some n,.one (.aam id g o)=>if n<len then .done (.one (.aam id g (o+n*sz))) [] [] else .fail
  |some n,.one (.hel id g j o)=>if n<len then .done (.one (.hel id g j (o+n*sz))) [] [] else .fail
  |some n,.one (.p (.box cs))=>if n<len then .done (.one (.p (.box (cs.drop (n*sz))))) [] [] else .fail
  |_,_=>.fail
 | .fld off k x=>match ev env x with
  | .agg cs=>match iz k (cs.drop off) with
   |some v=>.done v [] []
   |none=>.fail
  |_=>.fail
 | .aidx len sz k x i=>match A4 (ev env i),ev env x with
  |some n,.agg cs=>if n<len then
    match iz k (cs.drop (n*sz)) with
    |some v=>.done v [] []
    |none=>.fail
   else .fail
  |_,_=>.fail
 | .sidx x i=>match A4 (ev env i),ev env x with
  |some n,.one (.p (.str s))=>match s[n]? with
   |some b=>.done (.one (.p (.int .u8 b.toNat))) [] []
   |none=>.fail
  |_,_=>.fail
 | .lookup kd z agg ok x k=>match mapOf blk agg (ev env x),ev env k with
  |some (es,r),.one (.p q)=>if dD q≠kd then .fail else match iG q es 0 with
   |some f=>match mapVal agg ((f.map (·.2)).getD z) with
    |some w=>.done (if ok then .tup [w,.one (.p (.bool f.isSome))] else w) [] r
    |none=>.fail
   |none=>.fail
  |_,_=>.fail
 | .bad=>.fail
 | .mupd kd ag m k v=>match ev env m,ev env k,iK ag (ev env v) with
  | .one (.aaT id g),.one (.p q),some cs=>match blk id,AS cs with
   |(g',some (.map ag' es)),some ps=>if g'=g/\ag'=ag/\dD q=kd then
     match iG q es 0 with
     |some (some (i,_))=>.done .undef [(id,(g,some (.map ag (es.set i (q,ps)))))] [id]
     |some none=>.done .undef [(id,(g,some (.map ag (es++[(q,ps)]))))] [id]
     |none=>.fail
    else .fail
   |_,_=>.fail
  |_,_,_=>.fail
 | .extract x i=>match ev env x with
  | .tup vs=>match vs[i]? with
   |some v=>.done v [] []
   |none=>.fail
  |_=>.fail
 | .call s f as=>match Gh env f with
  |some (g,a,b)=>
   if shared g then .sc g (a.map .one++as.map (ev env)++b.map .one)
   else match mQ blk (a.map .one++as.map (ev env)++b.map .one) with
    |some (vs,r)=>.pc g vs r s
    |none=>.fail
  |none=>.fail
 | .slen x=>match ev env x with
  | .one (.p (.str s))=>.done (.one (.p (.int .i64 s.size))) [] []
  |_=>.fail
 | .adr x=>match wY (ev env x) with
  |some n=>.done (.one (.p (.int .i64 n))) [] []
  |none=>.fail
 | .mlen x=>match yL blk (ev env x) with
  |some (n,r)=>.done (.one (.p (.int .i64 n))) [] r
  |none=>.fail
 | .append s ty sz bytes d x=>aF blk s ty sz bytes (ev env d) (ev env x)
 | .max x y=>match ev env x,ev env y with
  | .one (.p (.int k a)),.one (.p (.int _ b))=>.done (.one (.p (.int k (if b>a then b else a)))) [] []
  |_,_=>.fail
 | .min x y=>match ev env x,ev env y with
  | .one (.p (.int k a)),.one (.p (.int _ b))=>.done (.one (.p (.int k (if b<a then b else a)))) [] []
  |_,_=>.fail
 | .clear z x=>match ev env x with
  | .one (.p .nils)=>.done (.tup []) [] []
  | .one (.p (.sl []))=>.done (.tup []) [] []
  | .one (.hsl id g _ off len)=>if len=0 then .done (.tup []) [] [] else match blk id with
   |(g',some (.arr ty sz es))=>if g'=g/\sz=z.length/\off+len<=es.length then .done (.tup []) [(id,(g,some (.arr ty sz (aY es off (List.replicate len z)))))] [id] else .fail
   |_=>.fail
  |_=>.fail
structure dR where
 rd:List Nat
 wr:List Nat
 fs:List Nat
structure Al where
 any:Bool
 ids:List Nat
 fs:List Nat
def Al.all:Al:=⟨true,[],[]⟩
def cH(id:Nat):Nat:=id/64000000
def Al.ok(a:Al)(id:Nat):Bool:=a.any||a.ids.contains id||a.fs.contains (cH id)
def Al.kY(a:Al)(l:List Nat):Bool:=l.all a.ok
def Al.holds(a b:Al):Bool:=a.any||(a.kY b.ids&&b.fs.all a.fs.contains)
structure Ctx where
 shared:Nat->Bool
 sites:Nat->List Nat
 lone:Nat->Bool
 al:Al
def c9(blk:aw):Nat->C->List Nat
 |0,_=>[]
 |n+1,c=>match c with
  | .p _=>[]
  | .aam id _ _=>id::match blk id with
   |(_,some (.var cs))=>(cs.map (c9 blk n)).flatten
   |_=>[]
  | .hel id _ _ _=>id::match blk id with
   |(_,some (.aaJ _ _ es))=>(es.flatten.map (c9 blk n)).flatten
   |_=>[]
  | .hsl id _ _ _ _=>id::match blk id with
   |(_,some (.aaJ _ _ es))=>(es.flatten.map (c9 blk n)).flatten
   |_=>[]
  | .aaT id _=>[id]
  | .hfn _ a b=>(a.map (c9 blk n)).flatten++(b.map (c9 blk n)).flatten
def cJ(blk:aw):V->List Nat
 | .one c=>c9 blk cG c
 | .agg cs=>(cs.map (c9 blk cG)).flatten
 |_=>[]
def allow(sh:Ctx)(f:Nat)(vs:List V)(blk:aw):Al:=⟨false,(vs.map (cJ blk)).flatten,sh.sites f⟩
def put(env:Env)(d:Option Nat)(v:V):Env:=
 match d with
 |some t=>fY env t v
 |none=>env
abbrev cN:=Nat->List V->Option RV
abbrev ez:=Nat->List V->Al->aw->Option (V×aw)
def land(blk:aw)(rd:List Nat)(site:Nat)(r:RV):Option (V×List jS):=
 if rd=[]\/r.alone then some (rV blk site r)
 else match Gb blk rd with
  |some u=>some ((rV blk site r).1,u++(rV blk site r).2)
  |none=>none
def wanted(env:Env):Option (Nat×Bool)->Option Bool
 |none=>some true
 |some (t,want)=>match env t with
  | .one (.p (.bool b))=>some (b==want)
  | .undef=>some false
  |_=>none
def step1(sh:Ctx)(cp:cN)(cs:ez)(o:aj)(env:Env)(blk:aw):Option (Env×aw×dR):=
 match wanted env o.guard with
 |none=>none
 |some false=>some (put env o.dst .undef,blk,⟨[],[],[]⟩)
 |some true=>match aM sh.shared env blk o.op with
  | .fail=>none
  | .done v u r=>if sh.al.kY (r++u.map (·.1)) then some (put env o.dst v,app u blk,⟨r,u.map (·.1),[]⟩) else none
  | .pc f vs r s=>match cp f vs with
   |some x=>match land blk r s (x.bn (sh.lone s)) with
    |some (v,u)=>if sh.al.kY (r++u.map (·.1)) then some (put env o.dst v,app u blk,⟨r++u.map (·.1),u.map (·.1),[]⟩) else none
    |none=>none
   |none=>none
  | .sc f vs=>if sh.al.holds (allow sh f vs blk) then
    match cs f vs (allow sh f vs blk) blk with
    |some (v,aaf)=>some (put env o.dst v,aaf,⟨(allow sh f vs blk).ids,(allow sh f vs blk).ids,(allow sh f vs blk).fs⟩)
    |none=>none
   else none
def steps(sh:Ctx)(cp:cN)(cs:ez):List aj->Env->aw->Option (Env×aw×List dR)
 |[],env,blk=>some (env,blk,[])
 |o::r,env,blk=>match step1 sh cp cs o env blk with
  |some (aah,aaf,e)=>match steps sh cp cs r aah aaf with
   |some (aes,ado,es)=>some (aes,ado,e::es)
   |none=>none
  |none=>none
def meets(a b:List Nat):Bool:=a.any fun i=>b.contains i
def Iw(fs ids:List Nat):Bool:=ids.any fun i=>fs.contains (cH i)
def Aa(a b:dR):Bool:=meets a.wr b.rd||meets a.wr b.wr||meets a.rd b.wr||meets a.fs b.fs||Iw a.fs (b.rd++b.wr)||Iw b.fs (a.rd++a.wr)
def TB(anc:Nat)(e:dR):Nat->List dR->Bool
 |_,[]=>true
 |j,x::r=>(anc.testBit j|| !Aa x e)&&TB anc e (j+1) r
def ig:List aj->List dR->List dR->Bool
 |o::os,past,e::es=>TB o.anc e 0 past&&ig os (past++[e]) es
 |_,_,_=>true
inductive fK where
 |normal
 |exit (id:Nat)
 |ret
def iter(f:Env->aw->Option (fK×Env×aw)):Nat->Env->aw->Option (fK×Env×aw)
 |0,_,_=>none
 |n+1,env,blk=>match f env blk with
  |some (.normal,aah,aaf)=>iter f n aah aaf
  |r=>r
def exec(sh:Ctx)(cp:cN)(cs:ez)(n:Nat):am->Env->aw->Option (fK×Env×aw)
 | .skip,env,blk=>some (.normal,env,blk)
 | .region d ops,env,blk=>match steps sh cp cs ops env blk with
  |some (aah,aaf,es)=>if d then (if ig ops [] es then some (.normal,aah,aaf) else none) else some (.normal,aah,aaf)
  |none=>none
 | .seq a b,env,blk=>match exec sh cp cs n a env blk with
  |some (.normal,aah,aaf)=>exec sh cp cs n b aah aaf
  |r=>r
 | .cond x a b,env,blk=>match ev env x with
  | .one (.p (.bool t))=>if t then exec sh cp cs n a env blk else exec sh cp cs n b env blk
  |_=>none
 | .block id c,env,blk=>match exec sh cp cs n c env blk with
  |some (.exit i,aah,aaf)=>if i=id then some (.normal,aah,aaf) else some (.exit i,aah,aaf)
  |r=>r
 | .loop c,env,blk=>iter (exec sh cp cs n c) n env blk
 | .exit id,env,blk=>some (.exit id,env,blk)
 | .ret,env,blk=>some (.ret,env,blk)
 | .bad,_,_=>none
def qd(args:List V):Env:=fun i=>args.getD i .undef
def Kc:V->Option V
 | .tup _=>none
 |v=>some v
def cT(al:Al)(env:Env)(blk:aw):List (Nat×Option (Option Nat))->Option (List V)
 |[]=>some []
 |(t,none)::r=>match Kc (env t),cT al env blk r with
  |some v,some q=>some (v::q)
  |_,_=>none
 |(t,some k)::r=>match AW blk (env t),cT al env blk r with
  |some (cs,rd),some q=>if al.kY rd then (iz k cs).map (· ::q) else none
  |_,_=>none
def xN:List V->V
 |[v]=>v
 |vs=>.tup vs
def qG:aw:=fun _=>(0,none)
def n9(sh:Ctx)(cp:cN)(cs:ez)(n:Nat)(fn:cX)(args:List V)(blk:aw):Option (V×aw):=
 match exec sh cp cs n fn.body (qd args) blk with
 |some (.normal,env,aaf)=>(cT sh.al env aaf fn.results).map fun vs=>(xN vs,aaf)
 |some (.ret,env,aaf)=>(cT sh.al env aaf fn.results).map fun vs=>(xN vs,aaf)
 |_=>none
def Fi(sh:Ctx)(cp:cN)(cs:ez)(n:Nat)(fn:cX)(args:List V):Option RV:=
 match n9 sh cp cs n fn args qG with
 |some (v,blk)=>fH blk v
 |none=>none
def Sys.ctx(S:Sys)(a:Al):Ctx:=⟨S.shared,S.sites,S.lone,a⟩
mutual
def de(S:Sys):Nat->cN
 |0,_,_=>none
 |n+1,f,args=>match S.prim f args with
  |some r=>r
  |none=>match S.fns f with
   |some fn=>if args.length<=fn.ntmps then Fi (S.ctx .all) (de S n) (dq S n) n fn args else none
   |none=>none
def dq(S:Sys):Nat->ez
 |0,_,_,_,_=>none
 |n+1,f,args,al,blk=>match S.fns f with
  |some fn=>if args.length<=fn.ntmps then n9 (S.ctx al) (de S n) (dq S n) n fn args blk else none
  |none=>none
end
def aP(S:Sys)(f:Nat)(args:List V)(r:RV):Prop:= ∃n,de S n f args=some r
def nQ(S:Sys)(f:Nat)(args:List V)(al:Al)(blk:aw)(v:V)(aaf:aw):Prop:= ∃n,dq S n f args al blk=some (v,aaf)
abbrev cU:=fK->Env->aw->Prop
def W (S:Sys)(al:Al)(c:am)(Q:cU)(env:Env)(blk:aw):Prop:=∃n e aah aaf,exec (S.ctx al) (de S n) (dq S n) n c env blk=some (e,aah,aaf)/\Q e aah aaf
def WO (S:Sys)(al:Al)(ops:List aj)(Q:Env->aw->List dR->Prop)(env:Env)(blk:aw)(tr:List dR):Prop:=∃n aah aaf es,steps (S.ctx al) (de S n) (dq S n) ops env blk=some (aah,aaf,es)/\Q aah aaf (tr++es)
end Go.Abs
namespace Go.Abs
section
variable{m:Nat}
def Yi(a b:cN):Prop:=∀f x r,a f x=some r->b f x=some r
def SLe(a b:ez):Prop:=∀f x l k r,a f x l k=some r->b f x l k=some r
section
variable {sh:Ctx} {cp cp':cN} {cs cs':ez} (hp:Yi cp cp') (hs:SLe cs cs')
include hp hs
theorem xR{o:aj}{env:Env}{blk:aw}{r:Env×aw×dR}(h:step1 sh cp cs o env blk=some r):step1 sh cp' cs' o env blk=some r:=by
 unfold step1 at h ⊢;cases hw:wanted env o.guard with
 |none=>simp[hw] at h
 |some b=>
  cases b with
  |false=>simpa [hw] using h
  |true=>
   simp only[hw] at h ⊢;cases hpl:aM sh.shared env blk o.op with
   |fail=>simp[hpl] at h
   |done v u rd=>simpa [hpl] using h
   |pc f vs rd s=>
    simp only[hpl] at h ⊢;cases hc:cp f vs with
    |none=>simp[hc] at h
    |some x=>rw[hp _ _ _ hc];simpa [hc] using h
   |sc f vs=>
    simp only[hpl] at h ⊢;split at h
    .rename_i ha;rw[if_pos ha];cases hc:cs f vs (allow sh f vs blk) blk with
     |none=>simp[hc] at h
     |some x=>rw[hs _ _ _ _ _ hc];simpa [hc] using h
    cases h
theorem xP:∀ {ops:List aj} {env:Env} {blk:aw} {r:Env×aw×List dR},steps sh cp cs ops env blk=some r->steps sh cp' cs' ops env blk=some r:=by
 intro ops
 induction ops with
 |nil=>intro env blk r h;simpa [steps] using h
 |cons o os ih=>
  intro env blk r h;simp only[steps] at h ⊢;cases h1:step1 sh cp cs o env blk with
  |none=>simp[h1] at h
  |some x=>
   obtain⟨e1,b1,f1⟩:=x;rw[xR hp hs h1];simp only[h1] at h ⊢;cases h2:steps sh cp cs os e1 b1 with
   |none=>simp[h2] at h
   |some y=>rw[ih h2];simpa [h2] using h
omit hp hs in
theorem Cc{f g:Env->aw->Option (fK×Env×aw)}(hfg:∀e b r,f e b=some r->g e b=some r):
  ∀ {n m:Nat} {env:Env} {blk:aw} {r:fK×Env×aw},n<=m->iter f n env blk=some r->iter g m env blk=some r:=by
 intro n
 induction n with
 |zero=>intro m env blk r _ h;simp[iter] at h
 |succ n ih=>
  intro m env blk r hm h;obtain⟨m,rfl⟩:∃k,m=k+1:=⟨m-1,by omega⟩;simp only[iter] at h ⊢;cases hf:f env blk with
  |none=>simp[hf] at h
  |some x=>
   obtain⟨e,e1,b1⟩:=x;rw[hfg _ _ _ hf];cases e with
   |normal=>simp only[hf] at h ⊢;exact ih (by omega) h
   |exit i=>simpa [hf] using h
   |ret=>simpa [hf] using h
theorem Co{n:Nat}(hnm:n<=m):∀ {c:am} {env:Env} {blk:aw} {r:fK×Env×aw},exec sh cp cs n c env blk=some r->exec sh cp' cs' m c env blk=some r:=by
 intro c
 induction c with
 |skip=>intro env blk r h;simpa [exec] using h
 |region d ops=>
  intro env blk r h;simp only[exec] at h ⊢;cases h1:steps sh cp cs ops env blk with
  |none=>simp[h1] at h
  |some x=>rw[xP hp hs h1];simpa [h1] using h
 |seq a b iha ihb=>
  intro env blk r h;simp only[exec] at h ⊢;cases h1:exec sh cp cs n a env blk with
  |none=>simp[h1] at h
  |some x=>
   obtain⟨e,e1,b1⟩:=x;rw[iha h1];cases e with
   |normal=>simp only[h1] at h ⊢;exact ihb h
   |exit i=>simpa [h1] using h
   |ret=>simpa [h1] using h
 |cond x a b iha ihb=>
  intro env blk r h;simp only[exec] at h ⊢;split at h
  .split at h
   .rename_i ht;simp only[ht,if_true];exact iha h
   rename_i ht;simp only[ht];exact ihb h
  cases h
 |block id c ih=>
  intro env blk r h;simp only[exec] at h ⊢;cases h1:exec sh cp cs n c env blk with
  |none=>simp[h1] at h
  |some x=>rw[ih h1];simpa [h1] using h
 |loop c ih=>intro env blk r h;simp only[exec] at h ⊢;exact Cc (fun _ _ _ h=>ih h) hnm h
 |exit id=>intro env blk r h;simpa [exec] using h
 |ret=>intro env blk r h;simpa [exec] using h
 |bad=>intro env blk r h;simp[exec] at h
theorem rH{n:Nat}(hnm:n<=m){fn:cX}{args:List V}{blk:aw}{r:V×aw}(h:n9 sh cp cs n fn args blk=some r):n9 sh cp' cs' m fn args blk=some r:=by
 unfold n9 at h ⊢;cases h1:exec sh cp cs n fn.body (qd args) blk with
 |none=>simp[h1] at h
 |some x=>rw[Co hp hs hnm h1];simpa [h1] using h
theorem Bl{n:Nat}(hnm:n<=m){fn:cX}{args:List V}{r:RV}(h:Fi sh cp cs n fn args=some r):Fi sh cp' cs' m fn args=some r:=by
 unfold Fi at h ⊢;cases h1:n9 sh cp cs n fn args qG with
 |none=>simp[h1] at h
 |some x=>rw[rH hp hs hnm h1];simpa [h1] using h
end
theorem CF(S:Sys):∀n,Yi (de S n) (de S (n+1))/\SLe (dq S n) (dq S (n+1)):=by
 intro n
 induction n with
 |zero=>exact⟨fun f x r h=>by simp[de] at h,fun f x l k r h=>by simp[dq] at h⟩
 |succ n ih=>
  refine⟨fun f x r h=>?_,fun f x l k r h=>?_⟩
  .rw[de] at h ⊢;cases hp:S.prim f x with
   |some r'=>simpa [hp] using h
   |none=>
    simp only[hp] at h ⊢;cases hf:S.fns f with
    |none=>simp[hf] at h
    |some fn=>
     simp only[hf] at h ⊢;split at h
     .rename_i hl;rw[if_pos hl];exact Bl ih.1 ih.2 (by omega) h
     cases h
  rw[dq] at h ⊢;cases hf:S.fns f with
  |none=>simp[hf] at h
  |some fn=>
   simp only[hf] at h ⊢;split at h
   .rename_i hl;rw[if_pos hl];exact rH ih.1 ih.2 (by omega) h
   cases h
theorem kh(S:Sys){n:Nat}(h:n<=m):Yi (de S n) (de S m):=by
 induction h with
 |refl=>exact fun _ _ _ h=>h
 |step _ ih=>exact fun f x r hr=>(CF S _).1 f x r (ih f x r hr)
theorem rc(S:Sys){n:Nat}(h:n<=m):SLe (dq S n) (dq S m):=by
 induction h with
 |refl=>exact fun _ _ _ _ _ h=>h
 |step _ ih=>exact fun f x l k r hr=>(CF S _).2 f x l k r (ih f x l k r hr)
theorem aP.Sp{S:Sys}{f:Nat}{args:List V}{r r':RV}(h:aP S f args r)(h':aP S f args r'):r=r':=by obtain⟨n,hn⟩:=h;obtain⟨m,hm⟩:=h';have a:=kh S (ac5 n m) _ _ _ hn;have b:=kh S (adb n m) _ _ _ hm;rw[a] at b;exact abP b
theorem ji(S:Sys){al:Al}{n:Nat}(h:n<=m){c:am}{env:Env}{blk:aw}{r:fK×Env×aw}(hr:exec (S.ctx al) (de S n) (dq S n) n c env blk=some r):
  exec (S.ctx al) (de S m) (dq S m) m c env blk=some r:=Co (kh S h) (rc S h) h hr
theorem N8(S:Sys){al:Al}{n:Nat}(h:n<=m){ops:List aj}{env:Env}{blk:aw}{r:Env×aw×List dR}(hr:steps (S.ctx al) (de S n) (dq S n) ops env blk=some r):
  steps (S.ctx al) (de S m) (dq S m) ops env blk=some r:=xP (kh S h) (rc S h) hr
variable {S:Sys} {al:Al} {Q:cU} {env:Env} {blk:aw}
theorem W.mono{c:am}{Q':cU}(h:W S al c Q env blk)(hq:∀e env blk,Q e env blk->Q' e env blk):W S al c Q' env blk:=by obtain⟨n,e,aah,aaf,h1,h2⟩:=h;exact⟨n,e,aah,aaf,h1,hq _ _ _ h2⟩
theorem XW(h:Q .normal env blk):W S al .skip Q env blk:=⟨0,_,_,_,rfl,h⟩
theorem XX{id:Nat}(h:Q (.exit id) env blk):W S al (.exit id) Q env blk:=⟨0,_,_,_,rfl,h⟩
theorem Z2(h:Q .ret env blk):W S al .ret Q env blk:=⟨0,_,_,_,rfl,h⟩
def A9(next:Env->aw->Prop)(Q:cU):cU
 | .normal,env,blk=>next env blk
 |e,env,blk=>Q e env blk
theorem Z1{a b:am}(h:W S al a (A9 (W S al b Q) Q) env blk):W S al (.seq a b) Q env blk:=by
 obtain⟨n,e,aah,aaf,h1,h2⟩:=h;cases e with
 |normal=>obtain⟨m,e,aar,aal,h3,h4⟩:=h2;refine⟨max n m,e,aar,aal,?_,h4⟩;simp only[exec];rw[ji S (ac5 n m) h1];exact ji S (adb n m) h3
 |exit i=>exact⟨n,_,_,_,by simp[exec,h1],h2⟩
 |ret=>exact⟨n,_,_,_,by simp[exec,h1],h2⟩
theorem XZ{x:aC}{a b:am}{t:Bool}(hx:ev env x=.one (.p (.bool t)))(h:if t=true then W S al a Q env blk else W S al b Q env blk):W S al (.cond x a b) Q env blk:=by
 cases t with
 |true=>obtain⟨n,e,aah,aaf,h1,h2⟩:=h;exact⟨n,e,aah,aaf,by simp[exec,hx,h1],h2⟩
 |false=>obtain⟨n,e,aah,aaf,h1,h2⟩:=(by simpa using h:W S al b Q env blk);exact⟨n,e,aah,aaf,by simp[exec,hx,h1],h2⟩
def eT(id:Nat)(Q:cU):cU
 | .exit i,env,blk=>if i=id then Q .normal env blk else Q (.exit i) env blk
 |e,env,blk=>Q e env blk
theorem Ve{id:Nat}{c:am}(h:W S al c (eT id Q) env blk):W S al (.block id c) Q env blk:=by
 obtain⟨n,e,aah,aaf,h1,h2⟩:=h;cases e with
 |normal=>exact⟨n,_,_,_,by simp[exec,h1],h2⟩
 |ret=>exact⟨n,_,_,_,by simp[exec,h1],h2⟩
 |exit i=>
  simp only[eT] at h2;by_cases hi:i=id
  .simp only[hi,if_true] at h2;exact⟨n,_,_,_,by simp[exec,h1,hi],h2⟩
  simp only[hi,if_false] at h2;exact⟨n,_,_,_,by simp[exec,h1,hi],h2⟩
theorem xl(S:Sys){c:am}{n k l:Nat}(h:n<=m)(hk:k<=l){r:fK×Env×aw}(hr:iter (exec (S.ctx al) (de S n) (dq S n) n c) k env blk=some r):
  iter (exec (S.ctx al) (de S m) (dq S m) m c) l env blk=some r:=Cc (fun _ _ _ h'=>ji S h h') hk hr
theorem Z4{c:am}(I:Nat->Env->aw->Prop)(k0 N:Nat)(hk:k0<=N)(h0:I k0 env blk)
  (round:∀k env blk,k<=N->I k env blk->W S al c (A9 (fun aah aaf=>k<N/\I (k+1) aah aaf) Q) env blk):W S al (.loop c) Q env blk:=by
 have key:∀j k env blk,k+j=N->I k env blk->∃n l e aah aaf,iter (exec (S.ctx al) (de S n) (dq S n) n c) l env blk=some (e,aah,aaf)/\Q e aah aaf:=by
  intro j
  induction j with
  |zero=>
   intro k env blk hkj hI;obtain⟨n,e,aaG,aao,h1,h2⟩:=round k env blk (by omega) hI;cases e with
   |normal=>obtain⟨hlt,_⟩:=h2;omega
   |exit i=>exact⟨n,1,_,_,_,by simp[iter,h1],h2⟩
   |ret=>exact⟨n,1,_,_,_,by simp[iter,h1],h2⟩
  |succ j ih=>
   intro k env blk hkj hI;obtain⟨n,e,aaG,aao,h1,h2⟩:=round k env blk (by omega) hI;cases e with
   |normal=>obtain⟨_,hI1⟩:=h2;obtain⟨m,l,e,aar,aal,h3,h4⟩:=ih (k+1) aaG aao (by omega) hI1;refine⟨max n m,l+1,e,aar,aal,?_,h4⟩;simp only[iter];rw[ji S (ac5 n m) h1];exact xl S (adb n m) (aaj _) h3
   |exit i=>exact⟨n,1,_,_,_,by simp[iter,h1],h2⟩
   |ret=>exact⟨n,1,_,_,_,by simp[iter,h1],h2⟩
 obtain⟨n,l,e,aah,aaf,h1,h2⟩:=key (N-k0) k0 env blk (by omega) h0;refine⟨max n l,e,aah,aaf,?_,h2⟩;simp only[exec];exact xl S (ac5 n l) (adb n l) h1
theorem RW{d:Bool}{ops:List aj}(h:WO S al ops (fun env blk es=>(d=true->ig ops [] es=true)/\Q .normal env blk) env blk []):W S al (.region d ops) Q env blk:=by
 obtain⟨n,aah,aaf,es,h1,h2,h3⟩:=h;refine⟨n,.normal,aah,aaf,?_,h3⟩;simp only[exec,h1];cases d with
 |false=>simp
 |true=>simpa using h2
theorem X0{R:Env->aw->List dR->Prop}{tr:List dR}(h:R env blk tr):WO S al [] R env blk tr:=⟨0,env,blk,[],rfl,by simpa using h⟩
theorem xy{o:aj}{os:List aj}{R:Env->aw->List dR->Prop}{tr:List dR}{n:Nat}{aaG:Env}{aao:aw}{e:dR}
  (h1:step1 (S.ctx al) (de S n) (dq S n) o env blk=some (aaG,aao,e)) (h:WO S al os R aaG aao (tr++[e])):WO S al (o::os) R env blk tr:=by
 obtain⟨m,aah,aaf,es,h2,h3⟩:=h;refine⟨max n m,aah,aaf,e::es,?_,by simpa using h3⟩;simp only[steps];rw[xR (kh S (ac5 n m)) (rc S (ac5 n m)) h1];simp[N8 S (adb n m) h2]
def Xj(S:Sys)(al:Al)(p:d9)(d:Option Nat)(env:Env)(blk:aw)(tr:List dR)(K:Env->aw->List dR->Prop):Prop:=
 match p with
 | .fail=>False
 | .done v u r=>al.kY (r++u.map (·.1))=true/\K (put env d v) (app u blk) (tr++[⟨r,u.map (·.1),[]⟩])
 | .pc f vs r s=>∃x,aP S f vs x/\match land blk r s (x.bn (S.lone s)) with
  |some (v,u)=>al.kY (r++u.map (·.1))=true/\K (put env d v) (app u blk) (tr++[⟨r++u.map (·.1),u.map (·.1),[]⟩])
  |none=>False
 | .sc f vs=>al.holds (allow (S.ctx al) f vs blk)=true/\ ∃v aaf,nQ S f vs (allow (S.ctx al) f vs blk) blk v aaf/\
   K (put env d v) aaf (tr++[⟨(allow (S.ctx al) f vs blk).ids,(allow (S.ctx al) f vs blk).ids,(allow (S.ctx al) f vs blk).fs⟩])
def V4(S:Sys)(al:Al)(w:Option Bool)(o:aj)(env:Env)(blk:aw)(tr:List dR)(K:Env->aw->List dR->Prop):Prop:=
 match w with
 |none=>False
 |some false=>K (put env o.dst .undef) blk (tr++[⟨[],[],[]⟩])
 |some true=>Xj S al (aM S.shared env blk o.op) o.dst env blk tr K
@[simp] theorem Al.pO (l:List Nat):Al.all.kY l=true:=by simp[Al.kY,Al.ok,Al.all]
@[simp] theorem Al.Yh (b:Al):Al.all.holds b=true:=rfl
theorem Vf{o:aj}{os:List aj}{R:Env->aw->List dR->Prop}{tr:List dR}
  (h:V4 S al (wanted env o.guard) o env blk tr (WO S al os R)):WO S al (o::os) R env blk tr:=by
 cases hw:wanted env o.guard with
 |none=>simp[hw,V4] at h
 |some b=>
  cases b with
  |false=>rw[hw] at h;exact xy (n:=0) (by simp[step1,hw]) h
  |true=>
   rw[hw] at h;simp only[V4] at h;have hsh:(S.ctx al).shared=S.shared:=rfl;have hal:(S.ctx al).al=al:=rfl;have hlo:(S.ctx al).lone=S.lone:=rfl;cases hpl:aM S.shared env blk o.op with
   |fail=>simp[hpl,Xj] at h
   |done v u r=>rw[hpl] at h;obtain⟨h1,h⟩:=h;exact xy (n:=0) (by simp only[step1,hw,hsh,hal,hpl,h1,if_true]) h
   |pc f vs r s=>
    rw[hpl] at h;obtain⟨x,⟨n,hx⟩,h⟩:=h;cases hl:land blk r s (x.bn (S.lone s)) with
    |none=>simp[hl] at h
    |some y=>obtain⟨v,u⟩:=y;simp only[hl] at h;obtain⟨h1,h⟩:=h;exact xy (n:=n) (by simp only[step1,hw,hsh,hal,hlo,hpl,hx,hl,h1,if_true]) h
   |sc f vs=>rw[hpl] at h;obtain⟨h1,v,aaf,⟨n,hx⟩,h⟩:=h;exact xy (n:=n) (by simp only[step1,hw,hsh,hal,hpl,h1,if_true,hx]) h
end
end Go.Abs
namespace Go.Abs
variable {S:Sys} {al:Al}
def lh(al:Al)(res:List (Nat×Option (Option Nat)))(R:V->aw->Prop):cU
 | .exit _,_,_=>False
 |_,env,blk=>match cT al env blk res with
  |some vs=>R (xN vs) blk
  |none=>False
theorem RR{fn:cX}{args:List V}{blk:aw}{R:V->aw->Prop}(h:W S al fn.body (lh al fn.results R) (qd args) blk):
  ∃n v aaf,n9 (S.ctx al) (de S n) (dq S n) n fn args blk=some (v,aaf)/\R v aaf:=by
 obtain⟨n,e,aah,aaf,h1,h2⟩:=h;refine⟨n,?_⟩;unfold n9;rw[h1];cases e with
 |exit i=>exact h2.elim
 |normal=>
  simp only[lh] at h2;split at h2
  .rename_i vs hv;exact⟨_,_,by simp only[show(S.ctx al).al=al from rfl,hv,abx],h2⟩
  exact h2.elim
 |ret=>
  simp only[lh] at h2;split at h2
  .rename_i vs hv;exact⟨_,_,by simp only[show(S.ctx al).al=al from rfl,hv,abx],h2⟩
  exact h2.elim
theorem X3{f:Nat}{fn:cX}{args:List V}{r:RV}(hp:S.prim f args=none)(hf:S.fns f=some fn)(hl:args.length<=fn.ntmps)
  (h:W S .all fn.body (lh .all fn.results fun v blk=>fH blk v=some r) (qd args) qG):aP S f args r:=by
 obtain⟨n,v,aaf,h1,h2⟩:=RR h;refine⟨n+1,?_⟩;rw[de];simp only[hp,hf,hl,if_true];unfold Fi;rw[h1];exact h2
theorem dO{f:Nat}{fn:cX}{args:List V}{blk:aw}{R:V->aw->Prop}(hf:S.fns f=some fn)(hl:args.length<=fn.ntmps)
  (h:W S al fn.body (lh al fn.results R) (qd args) blk):∃v aaf,nQ S f args al blk v aaf/\R v aaf:=by
 obtain⟨n,v,aaf,h1,h2⟩:=RR h;refine⟨v,aaf,⟨n+1,?_⟩,h2⟩;rw[dq];simp only[hf,hl,if_true];exact h1
end Go.Abs
namespace Go.Abs
variable {S:Sys} {al:Al} {Q:cU} {env:Env} {blk:aw}
theorem Ap:W S al .skip Q env blk↔Q .normal env blk:=⟨fun⟨_,_,_,_,h,q⟩=>by simp[exec] at h;obtain⟨rfl,rfl,rfl⟩:=h;exact q,XW⟩
theorem Aq{id:Nat}:W S al (.exit id) Q env blk↔Q (.exit id) env blk:=⟨fun⟨_,_,_,_,h,q⟩=>by simp[exec] at h;obtain⟨rfl,rfl,rfl⟩:=h;exact q,XX⟩
theorem CL:W S al .ret Q env blk↔Q .ret env blk:=⟨fun⟨_,_,_,_,h,q⟩=>by simp[exec] at h;obtain⟨rfl,rfl,rfl⟩:=h;exact q,Z2⟩
theorem Nt{a b:am}:W S al (.seq a b) Q env blk↔W S al a (A9 (W S al b Q) Q) env blk:=by
 refine⟨?_,Z1⟩;rintro ⟨n,e,aah,aaf,h,q⟩
 simp only[exec] at h;cases h1:exec (S.ctx al) (de S n) (dq S n) n a env blk with
 |none=>simp[h1] at h
 |some x=>
  obtain⟨e1,aaG,aao⟩:=x;refine⟨n,e1,aaG,aao,h1,?_⟩;cases e1 with
  |normal=>simp only[h1] at h;exact⟨n,e,aah,aaf,h,q⟩
  |exit i=>simp[h1] at h;obtain⟨rfl,rfl,rfl⟩:=h;exact q
  |ret=>simp[h1] at h;obtain⟨rfl,rfl,rfl⟩:=h;exact q
def Cv(v:V)(A B:Prop):Prop:=
 match v with
 | .one (.p (.bool t))=>if t=true then A else B
 |_=>False
theorem Jl{x:aC}{a b:am}:W S al (.cond x a b) Q env blk↔Cv (ev env x) (W S al a Q env blk) (W S al b Q env blk):=by
 constructor
 .rintro ⟨n,e,aah,aaf,h,q⟩
  simp only[exec] at h;split at h
  .rename_i t ht;rw[ht];simp only[Cv];cases t with
   |true=>exact⟨n,e,aah,aaf,by simpa using h,q⟩
   |false=>exact⟨n,e,aah,aaf,by simpa using h,q⟩
  cases h
 intro h;unfold Cv at h;split at h
 .rename_i t ht;exact XZ ht h
 exact h.elim
theorem wU{id:Nat}{c:am}:W S al (.block id c) Q env blk↔W S al c (eT id Q) env blk:=by
 refine⟨?_,Ve⟩;rintro ⟨n,e,aah,aaf,h,q⟩
 simp only[exec] at h;cases h1:exec (S.ctx al) (de S n) (dq S n) n c env blk with
 |none=>simp[h1] at h
 |some x=>
  obtain⟨e1,aaG,aao⟩:=x;refine⟨n,e1,aaG,aao,h1,?_⟩;cases e1 with
  |normal=>simp[h1] at h;obtain⟨rfl,rfl,rfl⟩:=h;exact q
  |ret=>simp[h1] at h;obtain⟨rfl,rfl,rfl⟩:=h;exact q
  |exit i=>
   simp only[h1] at h;simp only[eT];split at h
   .rename_i hi;simp at h;obtain⟨rfl,rfl,rfl⟩:=h;rw[if_pos hi];exact q
   rename_i hi;simp at h;obtain⟨rfl,rfl,rfl⟩:=h;rw[if_neg hi];exact q
theorem tG{R:Env->aw->List dR->Prop}{tr:List dR}:WO S al [] R env blk tr↔R env blk tr:=by
 refine⟨?_,X0⟩;rintro ⟨n,aah,aaf,es,h,q⟩
 simp[steps] at h;obtain⟨rfl,rfl,rfl⟩:=h
 simpa using q
theorem mI{o:aj}{os:List aj}{R:Env->aw->List dR->Prop}{tr:List dR}:
  WO S al (o::os) R env blk tr↔V4 S al (wanted env o.guard) o env blk tr (WO S al os R):=by
 refine⟨?_,Vf⟩;rintro ⟨n,aah,aaf,es,h,q⟩
 simp only[steps] at h;cases h1:step1 (S.ctx al) (de S n) (dq S n) o env blk with
 |none=>simp[h1] at h
 |some x=>
  obtain⟨aaG,aao,e⟩:=x;simp only[h1] at h;cases h2:steps (S.ctx al) (de S n) (dq S n) os aaG aao with
  |none=>simp[h2] at h
  |some y=>
   obtain⟨aar,aal,es2⟩:=y;simp[h2] at h;obtain⟨rfl,rfl,rfl⟩:=h;have hk:WO S al os R aaG aao (tr++[e]):=⟨n,_,_,es2,h2,by simpa using q⟩;unfold step1 at h1;cases hw:wanted env o.guard with
   |none=>simp[hw] at h1
   |some b=>
    cases b with
    |false=>simp[hw] at h1;obtain⟨rfl,rfl,rfl⟩:=h1;exact hk
    |true=>
     simp only[hw] at h1;simp only[V4];have hsh:(S.ctx al).shared=S.shared:=rfl;have hal:(S.ctx al).al=al:=rfl;have hlo:(S.ctx al).lone=S.lone:=rfl;simp only[hsh,hal,hlo] at h1;cases hpl:aM S.shared env blk o.op with
     |fail=>simp[hpl] at h1
     |done v u r=>
      simp only[hpl] at h1;split at h1
      .rename_i hok;cases h1;exact⟨hok,hk⟩
      cases h1
     |pc f vs r s=>
      simp only[hpl] at h1;cases hc:de S n f vs with
      |none=>simp[hc] at h1
      |some x=>
       simp only[hc] at h1;refine⟨x,⟨n,hc⟩,?_⟩;cases hl:land blk r s (x.bn (S.lone s)) with
       |none=>simp[hl] at h1
       |some y=>
        obtain⟨v,u⟩:=y;simp only[hl] at h1;split at h1
        .rename_i hok;cases h1;exact⟨hok,hk⟩
        cases h1
     |sc f vs=>
      simp only[hpl] at h1;split at h1
      .rename_i hok;cases hc:dq S n f vs (allow (S.ctx al) f vs blk) blk with
       |none=>simp[hc] at h1
       |some x=>obtain⟨v,b⟩:=x;simp only[hc] at h1;cases h1;exact⟨hok,v,_,⟨n,hc⟩,hk⟩
      cases h1
theorem uP{d:Bool}{ops:List aj}:W S al (.region d ops) Q env blk↔WO S al ops (fun env blk es=>(d=true->ig ops [] es=true)/\Q .normal env blk) env blk []:=by
 refine⟨?_,RW⟩;rintro ⟨n,e,aah,aaf,h,q⟩
 simp only[exec] at h;cases h1:steps (S.ctx al) (de S n) (dq S n) ops env blk with
 |none=>simp[h1] at h
 |some x=>
  obtain⟨aaG,aao,es⟩:=x;simp only[h1] at h;cases d with
  |false=>simp at h;obtain⟨rfl,rfl,rfl⟩:=h;exact⟨n,_,_,es,h1,by simp,q⟩
  |true=>simp at h;obtain⟨hd,rfl,rfl,rfl⟩:=h;exact⟨n,_,_,es,h1,fun _=>by simpa using hd,q⟩
end Go.Abs
namespace Go.Abs
inductive aZ (w:World) (own:Nat->Prop):PV->Value->Prop where
 |bool (b:Bool):aZ w own (.bool b) (.bool b)
 |int (k:IntKind) (n:Int):aZ w own (.int k n) (.int k n)
 |str (s:ByteArray):aZ w own (.str s) (.string s)
 |abN:aZ w own .abN (.pointer none)
 |nils:aZ w own .nils (.slice none 0 0)
 |abn:aZ w own .abn (.map none)
 |aaI:aZ w own .aaI .nilFunc
 |nili:aZ w own .nili .nilIface
 |ifc (d:TypeId) (x:Value):aZ w own .ifc (.iface d x)
 |zs (a:Option Addr):aZ w own .zs (.slice a 0 0)
 |box {cs:List PV} (b o:Nat) (f:Nat->Value) (ho:cs≠[]-> ¬own b)
   (hc:∀(j:Nat) (x:PV),cs[j]?=some x->w.cell? ⟨b,o+j,none⟩=some (f j))
   (hr:∀(j:Nat) (x:PV),cs[j]?=some x->aZ w own x (f j)):aZ w own (.box cs) (.pointer (some ⟨b,o,none⟩))
 |sl0 (a:Option Addr) (cap:Nat) (hn:a=none->cap=0) (hm:cap<=maxLen):aZ w own (.sl []) (.slice a 0 cap)
 |sl {es:List (List PV)} (b o cap sz:Nat) (f:Nat->Value) (ho:es.flatten≠[]-> ¬own b) (hl:es.length<=cap) (hm:cap<=maxLen) (hsz:∀e∈es,e.length=sz)
   (hc:∀(j:Nat) (x:PV),es.flatten[j]?=some x->w.cell? ⟨b,o+j,none⟩=some (f j))
   (hr:∀(j:Nat) (x:PV),es.flatten[j]?=some x->aZ w own x (f j)):aZ w own (.sl es) (.slice (some ⟨b,o,none⟩) es.length cap)
 |mp {ag:Bool} {es:List (PV×List PV)} (r:Nat) (ents:Array MapEntry) (clock:Nat) (g:Nat->Array Value) (ho:¬own r) (hb:w.heap[r]?=some (.map ents clock)) (hl:ents.size=es.length)
   (hk:∀(i:Nat) (q:PV) (v:List PV) (e:MapEntry),es[i]?=some (q,v)->ents[i]?=some e->aZ w own q e.key)
   (hv:∀(i:Nat) (q:PV) (v:List PV) (e:MapEntry),es[i]?=some (q,v)->ents[i]?=some e->(g i).size=v.length/\(ag=true->e.val=.agg (g i))/\(ag=false-> #[e.val]=g i))
   (hr:∀(i:Nat) (q:PV) (v:List PV) (j:Nat) (x:PV) (u:Value),es[i]?=some (q,v)->v[j]?=some x->(g i)[j]?=some u->aZ w own x u):aZ w own (.mp ag es) (.map (some r))
 |fn {f:Nat} {a b:List PV} (A B:Array Value) (ha:A.size=a.length) (hb:B.size=b.length)
   (hra:∀(j:Nat) (x:PV) (u:Value),a[j]?=some x->A[j]?=some u->aZ w own x u)
   (hrb:∀(j:Nat) (x:PV) (u:Value),b[j]?=some x->B[j]?=some u->aZ w own x u):aZ w own (.fn f a b) (.func (.func f) A B)
theorem aZ.uc{w:World}{own:Nat->Prop}{x:PV}{v:Value}(h:aZ w own x v):v.oneCell'=true:=by cases h<;>rfl
theorem aZ.cells{w:World}{own:Nat->Prop}{x:PV}{v:Value}(h:aZ w own x v):v.cells= #[v]:=by cases h<;>rfl
theorem K6{w:World}{b o:Nat}{v:Value}(h:w.cell? ⟨b,o,none⟩=some v):b<w.heap.size:=World.block_lt_of_cell? w ⟨b,o,none⟩ h
theorem gn{w:World}{b:Nat}{o:Obj}(h:w.heap[b]?=some o):b<w.heap.size:=(Array.getElem?_eq_some_iff.1 h).1
theorem aZ.mono{w w':World}{own acS:Nat->Prop}(hk:∀c,c<w.heap.size-> ¬own c->w'.heap[c]?=w.heap[c]? /\ ¬acS c){x:PV}{v:Value}
  (h:aZ w own x v):aZ w' acS x v:=by
 induction h with
 |bool b=>exact .bool b
 |int k n=>exact .int k n
 |str s=>exact .str s
 |abN=>exact .abN
 |nils=>exact .nils
 |abn=>exact .abn
 |aaI=>exact .aaI
 |nili=>exact .nili
 |ifc d x=>exact .ifc d x
 |zs a=>exact .zs a
 | @box cs b o f ho hc _ ih=>
  cases cs with
  |nil=>exact .box b o f (fun h=>(h rfl).elim) (fun j x h=>by simp at h) (fun j x h=>by simp at h)
  |cons c r=>have hb:=K6 (hc 0 c rfl);have hn:=ho (by simp);refine .box b o f (fun _=>(hk b hb hn).2) (fun j x h=>?_) ih;rw[World.cell?_of_block (hk b hb hn).1];exact hc j x h
 |sl0 a cap hn hm=>exact .sl0 a cap hn hm
 | @sl es b o cap sz f ho hl hm hsz hc _ ih=>
  cases hf:es.flatten with
  |nil=>exact .sl b o cap sz f (fun h=>(h hf).elim) hl hm hsz (fun j x h=>by simp[hf] at h) (fun j x h=>by simp[hf] at h)
  |cons c r=>have hb:=K6 (hc 0 c (by simp[hf]));have hn:=ho (by simp[hf]);refine .sl b o cap sz f (fun _=>(hk b hb hn).2) hl hm hsz (fun j x h=>?_) ih;rw[World.cell?_of_block (hk b hb hn).1];exact hc j x h
 | @mp ag es r ents clock g ho hb hl _ hv _ ihk ihr=>exact .mp r ents clock g (hk r (gn hb) ho).2 ((hk r (gn hb) ho).1.trans hb) hl ihk hv ihr
 |fn A B ha hb _ _ iha ihb=>exact .fn A B ha hb iha ihb
structure Mem where
 w:World
 blk:aw
 σ:Nat->Nat
 κ:Nat->Nat
 fr:Nat->Prop
def Ob.eE:Ob->Bool
 | .var _| .arr _ _ _| .aaJ _ _ _| .map _ _=>true
 |_=>false
def je:Nat×Option Ob->Option Nat
 |(_,some (.arr _ sz _))=>some sz
 |(_,some (.aaJ _ sz _))=>some sz
 |(_,some (.abl _ sz _))=>some sz
 |_=>none
def Mem.eE(m:Mem)(c:Nat):Prop:= ∃id o,(m.blk id).2=some o/\o.eE=true/\m.σ id=c
def Mem.own(m:Mem)(c:Nat):Prop:=m.fr c\/m.eE c
inductive bJ (m:Mem):C->Value->Prop where
 |p {x:PV} {v:Value} (h:aZ m.w m.own x v):bJ m (.p x) v
 |aam {id g off:Nat} (a:Addr) (hg:g<=(m.blk id).1) (h:(m.blk id).1=g->(m.blk id).2.isSome=true->a=⟨m.σ id,off,none⟩):bJ m (.aam id g off) (.pointer (some a))
 |hel {id g i off:Nat} (a:Addr) (hg:g<=(m.blk id).1) (h:∀sz,(m.blk id).1=g->je (m.blk id)=some sz->a=⟨m.σ id,i*sz+off,none⟩):bJ m (.hel id g i off) (.pointer (some a))
 |hsl {id g z off len:Nat} (a:Addr) (cap:Nat) (hg:g<=(m.blk id).1) (hl:len<=cap) (hm:cap<=maxLen)
   (h:∀sz,(m.blk id).1=g->je (m.blk id)=some sz->sz=z/\(off=0\/0<len->a=⟨m.σ id,off*sz,none⟩)/\(off=0->cap=m.κ id)):
   bJ m (.hsl id g z off len) (.slice (some a) len cap)
 |aaT {id g:Nat} (r:Nat) (hg:g<=(m.blk id).1) (h:(m.blk id).1=g->(m.blk id).2.isSome=true->r=m.σ id):bJ m (.aaT id g) (.map (some r))
 |hfn {f:Nat} {a b:List C} (A B:Array Value) (ha:A.size=a.length) (hb:B.size=b.length)
   (hra:∀(j:Nat) (x:C) (u:Value),a[j]?=some x->A[j]?=some u->bJ m x u)
   (hrb:∀(j:Nat) (x:C) (u:Value),b[j]?=some x->B[j]?=some u->bJ m x u):bJ m (.hfn f a b) (.func (.func f) A B)
theorem bJ.uc{m:Mem}{x:C}{v:Value}(h:bJ m x v):v.oneCell'=true:=by
 cases h with
 |p h=>exact h.uc
 |_=>rfl
theorem bJ.cells{m:Mem}{x:C}{v:Value}(h:bJ m x v):v.cells= #[v]:=by
 cases h with
 |p h=>exact h.cells
 |_=>rfl
def aT(m:Mem)(cs:List C)(vs:List Value):Prop:=vs.length=cs.length/\ ∀(j:Nat) (x:C) (u:Value),cs[j]?=some x->vs[j]?=some u->bJ m x u
def aR(w:World)(own:Nat->Prop)(cs:List PV)(vs:List Value):Prop:=vs.length=cs.length/\ ∀(j:Nat) (x:PV) (u:Value),cs[j]?=some x->vs[j]?=some u->aZ w own x u
def ia(m:Mem):V->Value->Prop
 | .undef,v=>v=undef
 | .one c,v=>bJ m c v
 | .agg cs,v=>∃arr,v=.agg arr/\aT m cs arr.toList
 | .tup _,_=>False
def aX(m:Mem):V->Value->Prop
 | .tup vs,v=>∃arr,v=.tuple arr/\arr.size=vs.length/\ ∀(j:Nat) (x:V) (u:Value),vs[j]?=some x->arr[j]?=some u->ia m x u
 |x,v=>ia m x v
def sE(m:Mem)(id:Nat):Ob->Prop
 | .var cs=>∃cur ty,m.w.heap[m.σ id]?=some (.cells cur ty (0,0))/\aT m cs cur.toList
 | .fvar cs=>∃cur ty fz,m.w.heap[m.σ id]?=some (.cells cur ty fz)/\aR m.w m.own cs cur.toList/\ ¬m.own (m.σ id)
 | .arr ty sz es=>∃cur,m.w.heap[m.σ id]?=some (.cells cur ty (0,0))/\0<sz/\(∀e∈es,e.length=sz)/\es.length<=m.κ id/\m.κ id<=maxLen/\cur.size=m.κ id*sz/\
   aR m.w m.own es.flatten (cur.toList.take (es.length*sz))
 | .abl ty sz es=>∃cur fz,m.w.heap[m.σ id]?=some (.cells cur ty fz)/\0<sz/\(∀e∈es,e.length=sz)/\es.length<=m.κ id/\m.κ id<=maxLen/\cur.size=m.κ id*sz/\
   aR m.w m.own es.flatten (cur.toList.take (es.length*sz))/\ ¬m.own (m.σ id)
 | .aaJ ty sz es=>∃cur,m.w.heap[m.σ id]?=some (.cells cur ty (0,0))/\0<sz/\(∀e∈es,e.length=sz)/\es.length<=m.κ id/\m.κ id<=maxLen/\cur.size=m.κ id*sz/\
   aT m es.flatten (cur.toList.take (es.length*sz))
 | .map ag es=>∃ents clock,m.w.heap[m.σ id]?=some (.map ents clock)/\ents.size=es.length/\
   ∀(i:Nat) (q:PV) (v:List PV) (e:MapEntry),es[i]?=some (q,v)->ents[i]?=some e->aZ m.w m.own q e.key/\ ∃g:Array Value,(ag=true->e.val=.agg g)/\(ag=false-> #[e.val]=g)/\aR m.w m.own v g.toList
 | .fmap ag es=>∃ents clock,m.w.heap[m.σ id]?=some (.map ents clock)/\ents.size=es.length/\
   (∀(i:Nat) (q:PV) (v:List PV) (e:MapEntry),es[i]?=some (q,v)->ents[i]?=some e->aZ m.w m.own q e.key/\ ∃g:Array Value,(ag=true->e.val=.agg g)/\(ag=false-> #[e.val]=g)/\aR m.w m.own v g.toList)/\ ¬m.own (m.σ id)
structure Ok (w0:World) (m:Mem):Prop where
 os:m.w.os=w0.os
 tape:m.w.tape=w0.tape
 output:m.w.output=w0.output
 size:w0.heap.size<=m.w.heap.size
 base:∀c,c<w0.heap.size->m.w.heap[c]?=w0.heap[c]?
 obj:∀id o,(m.blk id).2=some o->sE m id o
 aaw:∀id o,(m.blk id).2=some o->o.eE=true->w0.heap.size<=m.σ id/\ ¬m.fr (m.σ id)
 frlt:∀c,m.fr c->c<m.w.heap.size
 inj:∀id id' o o',(m.blk id).2=some o->o.eE=true->(m.blk id').2=some o'->o'.eE=true->m.σ id=m.σ id'->id=id'
structure Ev (m m':Mem):Prop where
 os:m'.w.os=m.w.os
 tape:m'.w.tape=m.w.tape
 output:m'.w.output=m.w.output
 size:m.w.heap.size<=m'.w.heap.size
 keep:∀c,c<m.w.heap.size-> ¬m.eE c->m'.w.heap[c]?=m.w.heap[c]?
 eE:∀c,c<m.w.heap.size->m'.eE c->m.eE c
 less:∀c,c<m.w.heap.size-> ¬m.own c-> ¬m'.own c
 gen:∀id,(m.blk id).1<=(m'.blk id).1
 ref:∀id,(m'.blk id).1=(m.blk id).1->(m'.blk id).2.isSome=true->(m.blk id).2.isSome=true/\m'.σ id=m.σ id/\m'.κ id=m.κ id/\je (m'.blk id)=je (m.blk id)
theorem Ev.refl(m:Mem):Ev m m:=⟨rfl,rfl,rfl,aaj _,fun _ _ _=>rfl,fun _ _ h=>h,fun _ _ h=>h,fun _=>aaj _,fun _ _ h=>⟨h,rfl,rfl,rfl⟩⟩
theorem Ev.trans{a b c:Mem}(h:Ev a b)(k:Ev b c):Ev a c where
 os:=k.os.trans h.os
 tape:=k.tape.trans h.tape
 output:=k.output.trans h.output
 size:=abm h.size k.size
 keep x hx hm:=(k.keep x (acM hx h.size) fun hb=>hm (h.eE x hx hb)).trans (h.keep x hx hm)
 eE x hx hm:=h.eE x hx (k.eE x (acM hx h.size) hm)
 less x hx hn:=k.less x (acM hx h.size) (h.less x hx hn)
 gen id:=abm (h.gen id) (k.gen id)
 ref id he hs:=by have h1:=h.gen id;have h2:=k.gen id;obtain⟨s1,e1,e2,e3⟩:=k.ref id (by omega) hs;obtain⟨s2,f1,f2,f3⟩:=h.ref id (by omega) s1;exact⟨s2,e1.trans f1,e2.trans f2,e3.trans f3⟩
theorem Ev.own{m m':Mem}(h:Ev m m'):∀c,c<m.w.heap.size-> ¬m.own c->m'.w.heap[c]?=m.w.heap[c]? /\ ¬m'.own c:=fun c hc hn=>⟨h.keep c hc fun hm=>hn (.inr hm),h.less c hc hn⟩
theorem Ba{x:Nat×Option Ob}{sz:Nat}(h:je x=some sz):x.2.isSome=true:=by
 obtain⟨g,o⟩:=x;cases o with
 |none=>simp[je] at h
 |some o=>rfl
structure Js (m m':Mem):Prop where
 own:∀c,c<m.w.heap.size-> ¬m.own c->m'.w.heap[c]?=m.w.heap[c]? /\ ¬m'.own c
 gen:∀id,(m.blk id).1<=(m'.blk id).1
 ref:∀id,(m'.blk id).1=(m.blk id).1->(m'.blk id).2.isSome=true->(m.blk id).2.isSome=true/\m'.σ id=m.σ id/\m'.κ id=m.κ id/\je (m'.blk id)=je (m.blk id)
theorem Ev.zero{m m':Mem}(h:Ev m m'):Js m m':=⟨h.own,h.gen,h.ref⟩
theorem aZ.ev{m m':Mem}(h:Js m m'){x:PV}{v:Value}(hr:aZ m.w m.own x v):aZ m'.w m'.own x v:=hr.mono h.own
theorem bJ.ev{m m':Mem}(h:Js m m'){x:C}{v:Value}(hr:bJ m x v):bJ m' x v:=by
 induction hr with
 |p hp=>exact .p (hp.ev h)
 | @aam id g off a hg ha=>have ak1:=h.gen id;refine .aam a (by omega) fun hg' hs=>?_;obtain⟨s,e1,_,_⟩:=h.ref id (by omega) hs;rw[e1];exact ha (by omega) s
 | @hel id g i off a hg ha=>have ak1:=h.gen id;refine .hel a (by omega) fun sz hg' hs=>?_;obtain⟨s,e1,_,e3⟩:=h.ref id (by omega) (Ba hs);rw[e1];exact ha sz (by omega) (e3▸hs)
 | @hsl id g z off len a cap hg hl hm ha=>have ak1:=h.gen id;refine .hsl a cap (by omega) hl hm fun sz hg' hs=>?_;obtain⟨s,e1,e2,e3⟩:=h.ref id (by omega) (Ba hs);rw[e1,e2];exact ha sz (by omega) (e3▸hs)
 | @aaT id g r hg hr=>have ak1:=h.gen id;refine .aaT r (by omega) fun hg' hs=>?_;obtain⟨s,e1,_,_⟩:=h.ref id (by omega) hs;rw[e1];exact hr (by omega) s
 |hfn A B ha hb _ _ iha ihb=>exact .hfn A B ha hb iha ihb
theorem aT.ev{m m':Mem}(h:Js m m'){cs:List C}{vs:List Value}(hr:aT m cs vs):aT m' cs vs:=⟨hr.1,fun j x u a b=>(hr.2 j x u a b).ev h⟩
theorem aR.mono{w w':World}{own acS:Nat->Prop}(hk:∀c,c<w.heap.size-> ¬own c->w'.heap[c]?=w.heap[c]? /\ ¬acS c){cs:List PV}{vs:List Value}
  (hr:aR w own cs vs):aR w' acS cs vs:=⟨hr.1,fun j x u a b=>(hr.2 j x u a b).mono hk⟩
theorem aR.ev{m m':Mem}(h:Js m m'){cs:List PV}{vs:List Value}(hr:aR m.w m.own cs vs):aR m'.w m'.own cs vs:=hr.mono h.own
theorem ia.ev{m m':Mem}(h:Js m m'){x:V}{v:Value}(hr:ia m x v):ia m' x v:=by
 cases x with
 |undef=>exact hr
 |one c=>exact bJ.ev h hr
 |agg cs=>obtain⟨arr,e,hc⟩:=hr;exact⟨arr,e,hc.ev h⟩
 |tup vs=>exact hr.elim
theorem aX.ev{m m':Mem}(h:Js m m'){x:V}{v:Value}(hr:aX m x v):aX m' x v:=by
 cases x with
 |tup vs=>obtain⟨arr,e,hs,hc⟩:=hr;exact⟨arr,e,hs,fun j x u a b=>(hc j x u a b).ev h⟩
 |undef=>exact ia.ev (x:=.undef) h hr
 |one c=>exact ia.ev (x:=.one c) h hr
 |agg cs=>exact ia.ev (x:=.agg cs) h hr
theorem sE.ev{m m':Mem}(h:Js m m'){id:Nat}{o:Ob}(hs:m'.σ id=m.σ id)(hk:m'.κ id=m.κ id)(hh:m'.w.heap[m.σ id]?=m.w.heap[m.σ id]?)
  (hr:sE m id o):sE m' id o:=by
 cases o with
 |var cs=>obtain⟨cur,ty,a,b⟩:=hr;exact⟨cur,ty,by rw[hs,hh];exact a,b.ev h⟩
 |fvar cs=>obtain⟨cur,ty,fz,a,b,c⟩:=hr;exact⟨cur,ty,fz,by rw[hs,hh];exact a,b.ev h,by rw[hs];exact(h.own _ (gn a) c).2⟩
 |arr ty sz es=>obtain⟨cur,a,b,c,d,e,f,g⟩:=hr;exact⟨cur,by rw[hs,hh];exact a,b,c,by rw[hk];exact d,by rw[hk];exact e,by rw[hk];exact f,g.ev h⟩
 |abl ty sz es=>obtain⟨cur,fz,a,b,c,d,e,f,g,i⟩:=hr;exact⟨cur,fz,by rw[hs,hh];exact a,b,c,by rw[hk];exact d,by rw[hk];exact e,by rw[hk];exact f,g.ev h,by rw[hs];exact(h.own _ (gn a) i).2⟩
 |aaJ ty sz es=>obtain⟨cur,a,b,c,d,e,f,g⟩:=hr;exact⟨cur,by rw[hs,hh];exact a,b,c,by rw[hk];exact d,by rw[hk];exact e,by rw[hk];exact f,g.ev h⟩
 |map ag es=>obtain⟨ents,clock,a,b,c⟩:=hr;exact⟨ents,clock,by rw[hs,hh];exact a,b,fun i q v e x y=>let ⟨p,g,g1,g2,g3⟩:=c i q v e x y;⟨p.ev h,g,g1,g2,g3.ev h⟩⟩
 |fmap ag es=>obtain⟨ents,clock,a,b,c,d⟩:=hr;exact⟨ents,clock,by rw[hs,hh];exact a,b,fun i q v e x y=>let ⟨p,g,g1,g2,g3⟩:=c i q v e x y;⟨p.ev h,g,g1,g2,g3.ev h⟩,by rw[hs];exact(h.own _ (gn a) d).2⟩
theorem sE.lt{m:Mem}{id:Nat}{o:Ob}(hr:sE m id o):m.σ id<m.w.heap.size:=by
 cases o with
 |var cs=>obtain⟨cur,ty,a,_⟩:=hr;exact gn a
 |fvar cs=>obtain⟨cur,ty,fz,a,_⟩:=hr;exact gn a
 |arr ty sz es=>obtain⟨cur,a,_⟩:=hr;exact gn a
 |abl ty sz es=>obtain⟨cur,fz,a,_⟩:=hr;exact gn a
 |aaJ ty sz es=>obtain⟨cur,a,_⟩:=hr;exact gn a
 |map ag es=>obtain⟨ents,clock,a,_⟩:=hr;exact gn a
 |fmap ag es=>obtain⟨ents,clock,a,_⟩:=hr;exact gn a
theorem sE.calm{m:Mem}{id:Nat}{o:Ob}(hr:sE m id o)(ho:o.eE=false):¬m.own (m.σ id):=by
 cases o with
 |fvar cs=>obtain⟨cur,ty,fz,_,_,c⟩:=hr;exact c
 |abl ty sz es=>obtain⟨cur,fz,_,_,_,_,_,_,_,c⟩:=hr;exact c
 |fmap ag es=>obtain⟨_,_,_,_,_,c⟩:=hr;exact c
 |_=>simp[Ob.eE] at ho
end Go.Abs
namespace Go.Abs
variable {w0:World}
section
variable{m:Mem}
structure eU (w w':World):Prop where
 os:w'.os=w.os
 tape:w'.tape=w.tape
 output:w'.output=w.output
 size:w.heap.size<=w'.heap.size
 keep:∀c,c<w.heap.size->w'.heap[c]?=w.heap[c]?
theorem eU.refl(w:World):eU w w:=⟨rfl,rfl,rfl,aaj _,fun _ _=>rfl⟩
theorem eU.trans{a b c:World}(h:eU a b)(k:eU b c):eU a c:=
 ⟨k.os.trans h.os,k.tape.trans h.tape,k.output.trans h.output,abm h.size k.size,fun x hx=>(k.keep x (acM hx h.size)).trans (h.keep x hx)⟩
theorem eU.alloc(w:World)(o:Obj):eU w (w.alloc o):=⟨rfl,rfl,rfl,by simp,fun _ hc=>heap_alloc_old w o hc⟩
theorem eU.drew(w:World):eU w w.drew:=⟨rfl,rfl,rfl,aaj _,fun _ _=>rfl⟩
def Mem.later(m:Mem)(w':World)(X:Nat->Prop):Mem:={m with w:=w',fr:=fun c=>m.fr c\/X c}
theorem BX{w':World}{X:Nat->Prop}{c:Nat}:(m.later w' X).own c↔m.own c\/X c:=by
 unfold Mem.own Mem.eE Mem.later;constructor
 .rintro ((h|h)|h)
  .exact .inl (.inl h)
  .exact .inr h
  exact .inl (.inr h)
 rintro ((h|h)|h)
 .exact .inl (.inl h)
 .exact .inr h
 exact .inl (.inr h)
theorem qK{w':World}{X:Nat->Prop}(hg:eU m.w w')(hX:∀c,X c->m.w.heap.size<=c):Ev m (m.later w' X) where
 os:=hg.os
 tape:=hg.tape
 output:=hg.output
 size:=hg.size
 keep c hc _:=hg.keep c hc
 eE c _ h:=h
 less c hc hn h:=by
  rcases BX.1 h with h|h
  .exact hn h
  have:=hX c h;omega
 gen _:=aaj _
 ref _ _ hs:=⟨hs,rfl,rfl,rfl⟩
theorem uj{w':World}{X:Nat->Prop}(h:Ok w0 m)(hg:eU m.w w')(hX:∀c,X c->m.w.heap.size<=c/\c<w'.heap.size):Ok w0 (m.later w' X) where
 os:=hg.os.trans h.os
 tape:=hg.tape.trans h.tape
 output:=hg.output.trans h.output
 size:=abm h.size hg.size
 base c hc:=(hg.keep c (acM hc h.size)).trans (h.base c hc)
 obj id o ho:=(h.obj id o ho).ev (qK hg fun c hc=>(hX c hc).1).zero rfl rfl (hg.keep _ (h.obj id o ho).lt)
 aaw id o ho hm:=by
  refine⟨(h.aaw id o ho hm).1,?_⟩;rintro (hf|hx)
  .exact(h.aaw id o ho hm).2 hf
  have h1:=(hX _ hx).1;have h2:=(h.obj id o ho).lt;simp only[Mem.later] at h1;omega
 frlt c hc:=by
  rcases hc with hf|hx
  .exact acM (h.frlt c hf) hg.size
  exact(hX c hx).2
 inj:=h.inj
def Mem.install(m:Mem)(s c k:Nat)(o:Ob):Mem:=⟨m.w,fY m.blk s ((m.blk s).1+1,some o),fY m.σ s c,fY m.κ s k,fun x=>m.fr x/\x≠c⟩
theorem uu{s c k:Nat}{o:Ob}{x:Nat}(h:(m.install s c k o).eE x):x=c\/m.eE x:=by
 obtain⟨id,o',ho,hm,hx⟩:=h;simp only[Mem.install,aa] at ho hx;by_cases hid:id=s
 .simp only[hid,if_true] at hx;exact .inl hx.symm
 simp only[hid,if_false] at ho hx;exact .inr ⟨id,o',ho,hm,hx⟩
theorem mw{s c k:Nat}{o:Ob}(hc:m.fr c){x:Nat}(h:(m.install s c k o).own x):m.own x:=by
 rcases h with h|h
 .exact .inl h.1
 rcases uu h with rfl|h
 .exact .inl hc
 exact .inr h
theorem oO{m1:Mem}{s c k:Nat}{o:Ob}(h:Ev m m1)(hc:m1.fr c)(hn:m.w.heap.size<=c\/m.eE c):Ev m (m1.install s c k o) where
 os:=h.os
 tape:=h.tape
 output:=h.output
 size:=h.size
 keep:=h.keep
 eE x hx hm:=by
  rcases uu hm with rfl|hm
  .rcases hn with hn|hn
   .omega
   exact hn
  exact h.eE x hx hm
 less x hx hno hm:=h.less x hx hno (mw hc hm)
 gen id:=by
  simp only[Mem.install,aa];have:=h.gen id;split
  .rename_i e;subst e;simp only;omega
  exact this
 ref id he hs:=by
  have hg:=h.gen id;simp only[Mem.install,aa] at he hs ⊢;by_cases hid:id=s
  .subst hid;simp only[if_true] at he;omega
  simp only[hid,if_false] at he hs ⊢;exact h.ref id he hs
theorem oN{s c k:Nat}{o:Ob}(h:Ok w0 m)(hc:m.fr c)(hlo:w0.heap.size<=c)(ho:sE (m.install s c k o) s o):Ok w0 (m.install s c k o):=by
 have hk:∀x,x<m.w.heap.size-> ¬m.own x->(m.install s c k o).w.heap[x]?=m.w.heap[x]? /\ ¬(m.install s c k o).own x:=fun x _ hn=>⟨rfl,fun h=>hn (mw hc h)⟩
 have hev:Js m (m.install s c k o):=by
  refine⟨hk,fun id=>?_,fun id he hs=>?_⟩
  .simp only[Mem.install,aa];split
   .rename_i e;subst e;simp only;omega
   exact aaj _
  simp only[Mem.install,aa] at he hs ⊢;by_cases hid:id=s
  .subst hid;simp only[if_true] at he;omega
  simp only[hid,if_false] at he hs ⊢;exact⟨hs,trivial,trivial,trivial⟩
 exact {
  os:=h.os
  tape:=h.tape
  output:=h.output
  size:=h.size
  base:=h.base
  obj:=by
   intro id o' ho';by_cases hid:id=s
   .subst hid;simp only[Mem.install,aa,if_true,aaV] at ho';exact ho'▸ho
   have hs:(m.install s c k o).σ id=m.σ id:=by simp[Mem.install,aa,hid]
   have hkk:(m.install s c k o).κ id=m.κ id:=by simp[Mem.install,aa,hid]
   simp only[Mem.install,aa,hid,if_false] at ho';exact(h.obj id o' ho').ev hev hs hkk rfl
  aaw:=by
   intro id o' ho' hm;by_cases hid:id=s
   .subst hid;simp only[Mem.install,aa,if_true];exact⟨hlo,fun h=>h.2 rfl⟩
   simp only[Mem.install,aa,hid,if_false] at ho' ⊢;exact⟨(h.aaw id o' ho' hm).1,fun hf=>(h.aaw id o' ho' hm).2 hf.1⟩
  frlt:=fun x hx=>h.frlt x hx.1
  inj:=by
   intro id id' o1 o2 h1 m1 h2 m2 he;by_cases hid:id=s<;>by_cases abR:id'=s
   .rw[hid,abR]
   .subst hid;simp only[Mem.install,aa,abR,if_true,if_false] at h2 he;exact((h.aaw id' o2 h2 m2).2 (he▸hc)).elim
   .subst abR;simp only[Mem.install,aa,hid,if_true,if_false] at h1 he;exact((h.aaw id o1 h1 m1).2 (he.symm▸hc)).elim
   simp only[Mem.install,aa,hid,abR,if_false] at h1 h2 he;exact h.inj id id' o1 o2 h1 m1 h2 m2 he}
def Mem.fp(m:Mem)(id:Nat):Mem:=⟨m.w,fY m.blk id ((m.blk id).1,none),m.σ,m.κ,fun c=>m.fr c\/c=m.σ id⟩
theorem M7{id:Nat}{o:Ob}(ho:(m.blk id).2=some o)(hm:o.eE=true){x:Nat}(h:(m.fp id).own x):m.own x:=by
 rcases h with (h|h)|⟨id',o',h1,h2,h3⟩
 .exact .inl h
 .exact .inr ⟨id,o,ho,hm,h.symm⟩
 simp only[Mem.fp,aa] at h1 h3;by_cases hid:id'=id
 .simp[hid] at h1
 simp only[hid,if_false] at h1;exact .inr ⟨id',o',h1,h2,h3⟩
theorem nH{id:Nat}{o:Ob}(ho:(m.blk id).2=some o)(hm:o.eE=true):Ev m (m.fp id) where
 os:=rfl
 tape:=rfl
 output:=rfl
 size:=aaj _
 keep _ _ _:=rfl
 eE x _ h:=by
  obtain⟨id',o',h1,h2,h3⟩:=h;simp only[Mem.fp,aa] at h1 h3;by_cases hid:id'=id
  .simp[hid] at h1
  simp only[hid,if_false] at h1;exact⟨id',o',h1,h2,h3⟩
 less x _ hn h:=hn (M7 ho hm h)
 gen id':=by
  simp only[Mem.fp,aa];split
  .rename_i e;subst e;exact aaj _
  exact aaj _
 ref id' he hs:=by
  simp only[Mem.fp,aa] at he hs ⊢;by_cases hid:id'=id
  .simp[hid] at hs
  simp only[hid,if_false] at he hs ⊢;exact⟨hs,trivial,trivial,trivial⟩
theorem GA{id:Nat}{o:Ob}(h:Ok w0 m)(ho:(m.blk id).2=some o)(hm:o.eE=true):Ok w0 (m.fp id) where
 os:=h.os
 tape:=h.tape
 output:=h.output
 size:=h.size
 base:=h.base
 obj id' o' h1:=by
  simp only[Mem.fp,aa] at h1;by_cases hid:id'=id
  .simp[hid] at h1
  simp only[hid,if_false] at h1;exact(h.obj id' o' h1).ev (nH ho hm).zero rfl rfl rfl
 aaw id' o' h1 h2:=by
  simp only[Mem.fp,aa] at h1 ⊢;by_cases hid:id'=id
  .simp[hid] at h1
  simp only[hid,if_false] at h1;refine⟨(h.aaw id' o' h1 h2).1,?_⟩;rintro (hf|hf)
  .exact(h.aaw id' o' h1 h2).2 hf
  exact hid (h.inj id' id o' o h1 h2 ho hm hf)
 frlt c hc:=by
  rcases hc with hf|rfl
  .exact h.frlt c hf
  exact(h.obj id o ho).lt
 inj id1 id2 o1 o2 h1 m1 h2 m2 he:=by
  simp only[Mem.fp,aa] at h1 h2 he;by_cases hid:id1=id
  .simp[hid] at h1
  by_cases abR:id2=id
  .simp[abR] at h2
  simp only[hid,abR,if_false] at h1 h2;exact h.inj id1 id2 o1 o2 h1 m1 h2 m2 he
def Mem.iL(m:Mem)(w':World)(id:Nat)(o:Ob):Mem:=⟨w',fY m.blk id ((m.blk id).1,some o),m.σ,m.κ,m.fr⟩
section
variable {m:Mem} {w':World} {id:Nat} {o old:Ob} (ho:(m.blk id).2=some old) (hm:old.eE=true)
include ho hm
theorem OA{x:Nat}(h:(m.iL w' id o).own x):m.own x:=by
 rcases h with h|⟨id',o',h1,h2,h3⟩
 .exact .inl h
 simp only[Mem.iL,aa] at h1 h3;by_cases hid:id'=id
 .exact .inr ⟨id,old,ho,hm,hid▸h3⟩
 simp only[hid,if_false] at h1;exact .inr ⟨id',o',h1,h2,h3⟩
theorem tP(hsz:je ((m.blk id).1,some o)=je ((m.blk id).1,some old))(hos:w'.os=m.w.os)(ht:w'.tape=m.w.tape)(abc:w'.output=m.w.output)(hs:w'.heap.size=m.w.heap.size)
  (hk:∀c,c≠m.σ id->w'.heap[c]?=m.w.heap[c]?):Ev m (m.iL w' id o) where
 os:=hos
 tape:=ht
 output:=abc
 size:=ac7 hs.symm
 keep c _ hn:=hk c fun e=>hn ⟨id,old,ho,hm,e.symm⟩
 eE x _ h:=by
  obtain⟨id',o',h1,h2,h3⟩:=h;simp only[Mem.iL,aa] at h1 h3;by_cases hid:id'=id
  .exact⟨id,old,ho,hm,hid▸h3⟩
  simp only[hid,if_false] at h1;exact⟨id',o',h1,h2,h3⟩
 less x _ hn h:=hn (OA ho hm h)
 gen id':=by
  simp only[Mem.iL,aa];split
  .rename_i e;subst e;exact aaj _
  exact aaj _
 ref id' he hss:=by
  simp only[Mem.iL,aa] at he hss ⊢;by_cases hid:id'=id
  .subst hid;refine⟨by simp[ho],trivial,trivial,?_⟩;simp only[if_true];rw[hsz,<- ho]
  simp only[hid,if_false] at he hss ⊢;exact⟨hss,trivial,trivial,trivial⟩
theorem w7(h:Ok w0 m)(hsz:je ((m.blk id).1,some o)=je ((m.blk id).1,some old))(hos:w'.os=m.w.os)(ht:w'.tape=m.w.tape)(abc:w'.output=m.w.output)(hs:w'.heap.size=m.w.heap.size)
  (hk:∀c,c≠m.σ id->w'.heap[c]?=m.w.heap[c]?) (adx:sE (m.iL w' id o) id o):Ok w0 (m.iL w' id o) where
 os:=hos.trans h.os
 tape:=ht.trans h.tape
 output:=abc.trans h.output
 size:=abm h.size (ac7 hs.symm)
 base c hc:=by have:=(h.aaw id old ho hm).1;exact(hk c (by omega)).trans (h.base c hc)
 obj id' o' h1:=by
  simp only[Mem.iL,aa] at h1;by_cases hid:id'=id
  .subst hid;simp only[if_true,aaV] at h1;exact h1▸adx
  simp only[hid,if_false] at h1;refine(h.obj id' o' h1).ev (tP ho hm hsz hos ht abc hs hk).zero rfl rfl (hk _ fun e=>?_);cases hmo:o'.eE with
  |true=>exact hid (h.inj id' id o' old h1 hmo ho hm e)
  |false=>exact(h.obj id' o' h1).calm hmo (.inr ⟨id,old,ho,hm,e.symm⟩)
 aaw id' o' h1 h2:=by
  simp only[Mem.iL,aa] at h1 ⊢;by_cases hid:id'=id
  .subst hid;exact h.aaw id' old ho hm
  simp only[hid,if_false] at h1;exact h.aaw id' o' h1 h2
 frlt c hc:=by rw[show(m.iL w' id o).w.heap.size=m.w.heap.size from hs];exact h.frlt c hc
 inj id1 id2 o1 o2 h1 m1 h2 m2 he:=by
  simp only[Mem.iL,aa] at h1 h2 he;by_cases hid:id1=id<;>by_cases abR:id2=id
  .rw[hid,abR]
  .simp only[abR,if_false] at h2;exact hid▸h.inj id id2 old o2 ho hm h2 m2 (hid▸he)
  .simp only[hid,if_false] at h1;exact abR▸h.inj id1 id o1 old h1 m1 ho hm (abR▸he)
  simp only[hid,abR,if_false] at h1 h2;exact h.inj id1 id2 o1 o2 h1 m1 h2 m2 he
end
end
end Go.Abs
namespace Go.Abs
def zT:Value->Option PV
 | .bool b=>some (.bool b)
 | .int k n=>some (.int k n)
 | .string s=>some (.str s)
 | .pointer none=>some .abN
 | .slice none 0 0=>some .nils
 | .map none=>some .abn
 | .nilFunc=>some .aaI
 | .nilIface=>some .nili
 |_=>none
def sa:List Value->Option (List PV)
 |[]=>some []
 |v::r=>match zT v,sa r with
  |some x,some xs=>some (x::xs)
  |_,_=>none
def I3:Value->Option V
 | .agg cs=>(sa cs.toList).map fun l=>.agg (l.map .p)
 |v=>(zT v).map fun x=>.one (.p x)
def bh:Operand->Option aC
 | .tmp t=>some (.t t)
 | .const (.int .i64 n)=>some (.i n)
 | .const (.bool b)=>some (.b b)
 | .const v=>(I3 v).map .k
 | .func f=>some (.k (.one (.p (.fn f [] []))))
 | .global _=>none
def iY:List Operand->Option (List aC)
 |[]=>some []
 |a::r=>match bh a,iY r with
  |some x,some xs=>some (x::xs)
  |_,_=>none
def wZ:Option Operand->Option (Option aC)
 |none=>some none
 |some a=>(bh a).map some
def sF(P:Program)(t:TypeId):Option (List PV):=
 match P.info? t with
 |some i=>match i.zero with
  |some (.agg cs)=>if cs.size=i.size then sa cs.toList else none
  |some v=>if i.size=1 then (zT v).map fun x=>[x] else none
  |none=>none
 |none=>none
def DN(P:Program)(t:TypeId):Option (Option Nat):=
 match P.underlying t,P.info? t with
 |some (.struct _),some i=>some (some i.size)
 |some (.array _ _),some i=>some (some i.size)
 |some _,some i=>if i.size=1 then some none else none
 |_,_=>none
def nh(P:Program)(t:TypeId):Option Nat:=(P.info? t).map (·.size)
def qF(place:Nat->Option (Nat×Nat))(zl:Nat):List (Nat×Operand)->Option (List (Nat×Nat×aC))
 |[]=>some []
 |(i,x)::r=>match place i,bh x,qF place zl r with
  |some (off,n),some a,some q=>if off+n<=zl then some ((off,n,a)::q) else none
  |_,_,_=>none
def vC:Nat->List (Nat×Operand)->Option (List aC)
 |_,[]=>some []
 |k,(i,x)::r=>match bh x,vC (k+1) r with
  |some a,some q=>if i=k then some (a::q) else none
  |_,_=>none
def Dj(P:Program)(t:TypeId):Option Bool:=
 match P.underlying t with
 |some (.int _)=>some true
 |some .bool=>some false
 |_=>none
def rG(P:Program):Nat->List Field->Option (List Bool)
 |_,[]=>some []
 |k,f::r=>match Dj P f.type,rG P (k+1) r with
  |some b,some bs=>if f.offset=k/\f.name≠ "_" then some (b::bs) else none
  |_,_=>none
def nv:Operand->Bool
 | .const .nilIface=>true
 |_=>false
def zC(P:Program)(t:TypeId)(x y:Operand):Option Lg:=
 match P.underlying t with
 |some (.interface _)=>if nv x||nv y then some .ifc else none
 |some .bool=>some .bool
 |some (.pointer _)=>some .ptr
 |some (.slice _)=>some .slc
 |some (.map _ _)=>some .map
 |some (.func _ _ _)=>some .fnc
 |some (.struct fs)=>if !P.stoodInHeld t&& !P.eqGuardType P.depth t then (rG P 0 fs.toList).map .str else none
 |_=>none
def sQ(P:Program)(t:TypeId):Option (TypeId×Nat×Nat×List PV):=
 match P.underlying t with
 |some (.slice e)=>match P.info? e,sF P e with
  |some i,some z=>if 0<i.size/\0<i.bytes then some (e,i.size,i.bytes,z) else none
  |_,_=>none
 |_=>none
def keyOf(P:Program)(k:TypeId):Option Nat:=
 match P.underlying k with
 |some (.int _)=>some 0
 |some .string=>some 1
 |some .bool=>some 2
 |_=>none
def Sw(P:Program)(t:TypeId):Bool:=
 match P.info? t with
 |some i=>match i.zero with
  |some (.agg _)=>true
  |_=>false
 |none=>false
def tz(P:Program)(site:Nat)(o:Oper):Option vQ:=
 match o.op with
 | .move x=>(bh x).map .mov
 | .assign x=>(bh x).map .mov
 | .pick c a b=>match bh c,bh a,bh b with
  |some c,some a,some b=>some (.pick c a b)
  |_,_,_=>none
 | .alloc t=>(sF P t).map (.alloc site)
 | .box _ x=>(bh x).map (.box site)
 | .build t ps=>match P.underlying t,sF P t with
  |some (.struct fs),some z=>if fs.all fun f=>(P.info? f.type).isSome then
    (qF (fun i=>(fs[i]?).map fun f=>(f.offset,P.cellsOf f.type)) z.length ps.toList).map (.build z)
   else none
  |some (.array _ e),some z=>match P.info? e with
   |some i=>(qF (fun k=>some (k*i.size,i.size)) z.length ps.toList).map (.build z)
   |none=>none
  |_,_=>none
 | .buildSlice t n ps=>match sQ P t,vC 0 ps.toList with
  |some (e,sz,_,_),some as=>if as.length=n/\n*sz<=16777216 then some (.aaq site e sz as) else none
  |_,_=>none
 | .load t a=>match DN P t,bh a with
  |some k,some a=>some (.load k a)
  |_,_=>none
 | .store t a x=>match nh P t,bh a,bh x with
  |some n,some a,some x=>some (.store n a x)
  |_,_,_=>none
 | .nilCheck x=>(bh x).map .aa5
 | .binOp op t x y _=>match bh x,bh y with
  |some a,some b=>match P.underlying t with
   |some (.int _)=>some (.bin op a b)
   |some .string=>some (.bin op a b)
   |_=>match op,zC P t x y with
    | .eql,some k=>some (.eqc k false a b)
    | .neq,some k=>some (.eqc k true a b)
    |_,_=>none
  |_,_=>none
 | .unOp op _ x=>match op with
  | .not=>(bh x).map (.un .not)
  | .neg=>(bh x).map (.un .neg)
  |_=>none
 | .convert s d x=>match P.underlying s,P.underlying d,bh x with
  |some (.int _),some (.int k),some a=>some (.conv k a)
  |some (.slice e),some .string,some a=>match P.underlying e with
   |some (.int .u8)=>some (.bstr a)
   |_=>none
  |_,_,_=>none
 | .makeFunc (.func f) a b=>match iY a.toList,iY b.toList with
  |some x,some y=>some (.mkfn f x y)
  |_,_=>none
 | .makeMap t none=>match P.underlying t with
  |some (.map _ e)=>(DN P e).map fun k=>.mkmap site k.isSome
  |_=>none
 | .makeSlice t l c=>match sQ P t,bh l,bh c with
  |some (e,sz,bytes,z),some l,some c=>some (.aaA site e sz bytes z l c)
  |_,_,_=>none
 | .slice t x lo hi none=>match bh x,wZ lo,wZ hi with
  |some a,some l,some h=>match P.underlying t with
   |some (.slice e)=>(nh P e).map fun sz=>.slice sz a l h
   |some .string=>some (.sslice a l h)
   |_=>none
  |_,_,_=>none
 | .fieldAddr s x f=>match P.underlying s,bh x with
  |some (.struct fs),some a=>match fs[f]? with
   |some d=>if P.cellsOf d.type≠0 then some (.abr d.offset a) else none
   |none=>none
  |_,_=>none
 | .field t x f=>match P.underlying t,bh x with
  |some (.struct fs),some a=>match fs[f]? with
   |some d=>(DN P d.type).map fun k=>.fld d.offset k a
   |none=>none
  |_,_=>none
 | .indexAddr t x i=>match bh x,bh i with
  |some a,some b=>match P.underlying t with
   |some (.slice e)=>(nh P e).map fun sz=>.aaU sz a b
   |some (.array n e)=>(nh P e).map fun sz=>.abg n sz a b
   |_=>none
  |_,_=>none
 | .index t x i=>match bh x,bh i with
  |some a,some b=>match P.underlying t with
   |some (.array n e)=>match nh P e,DN P e with
    |some sz,some k=>some (.aidx n sz k a b)
    |_,_=>none
   |some .string=>some (.sidx a b)
   |_=>none
  |_,_=>none
 | .lookup t x k ok=>match P.underlying t,bh x,bh k with
  |some (.map kt e),some a,some b=>match sF P e,DN P e with
   |some z,some q=>match keyOf P kt with
    |some kd=>if Sw P e=q.isSome then some (.lookup kd z q.isSome ok a b) else none
    |none=>none
   |_,_=>none
  |_,_,_=>none
 | .mapUpdate t m k v=>match P.underlying t,bh m,bh k,bh v with
  |some (.map kt e),some a,some b,some c=>match DN P e with
   |some q=>(keyOf P kt).map fun kd=>.mupd kd q.isSome a b c
   |none=>none
  |_,_,_,_=>none
 | .insert t m k v=>match P.underlying t,bh m,bh k,bh v with
  |some (.map kt e),some a,some b,some c=>match DN P e with
   |some q=>(keyOf P kt).map fun kd=>.mupd kd q.isSome a b c
   |none=>none
  |_,_,_,_=>none
 | .extract x i=>(bh x).map fun a=>.extract a i
 | .call c=>match c.callee,iY c.args.toList with
  | .value f,some as=>(bh f).map fun g=>.call site g as
  | .builtin .len,some [a]=>match c.argTypes[0]? with
   |some t=>match P.underlying t with
    |some .string=>some (.slen a)
    |some (.slice _)=>some (.adr a)
    |some (.map _ _)=>some (.mlen a)
    |_=>none
   |none=>none
  | .builtin .append,some [a,b]=>match c.argTypes[0]?,c.argTypes[1]? with
   |some t,some u=>match sQ P t with
    |some (e,sz,bytes,_)=>if t=u/\c.argTypes.size=2 then some (.append site e sz bytes a b) else none
    |none=>none
   |_,_=>none
  | .builtin .max,some [a,b]=>some (.max a b)
  | .builtin .min,some [a,b]=>some (.min a b)
  | .builtin .clear,some [a]=>match c.argTypes[0]? with
   |some t=>(sQ P t).map fun q=>.clear q.2.2.2 a
   |none=>none
  |_,_=>none
 |_=>none
def aC.tmps:aC->List Nat
 | .t n=>[n]
 |_=>[]
def vY:List aC->List Nat
 |[]=>[]
 |a::r=>a.tmps++vY r
def NX:Option aC->List Nat
 |some a=>a.tmps
 |none=>[]
def NW:List (Nat×Nat×aC)->List Nat
 |[]=>[]
 |(_,_,a)::r=>a.tmps++NW r
def vQ.tmps:vQ->List Nat
 | .mov x| .box _ x| .load _ x| .aa5 x| .un _ x| .conv _ x| .bstr x| .abr _ x| .fld _ _ x| .extract x _| .slen x| .adr x| .mlen x| .clear _ x=>x.tmps
 | .pick c a b=>c.tmps++a.tmps++b.tmps
 | .alloc _ _| .mkmap _ _| .bad=>[]
 | .build _ ps=>NW ps
 | .aaq _ _ _ ps=>vY ps
 | .store _ a x| .bin _ a x| .eqc _ _ a x| .aaU _ a x| .abg _ _ a x| .aidx _ _ _ a x| .sidx a x| .lookup _ _ _ _ a x| .append _ _ _ _ a x| .max a x| .min a x=>a.tmps++x.tmps
 | .mkfn _ a b=>vY a++vY b
 | .aaA _ _ _ _ _ a b=>a.tmps++b.tmps
 | .slice _ x a b| .sslice x a b=>x.tmps++NX a++NX b
 | .mupd _ _ a b c=>a.tmps++b.tmps++c.tmps
 | .call _ f as=>f.tmps++vY as
def aj.Hw(o:aj):List Nat:=
 o.op.tmps++match o.guard with
  |some (t,_)=>[t]
  |none=>[]
def zj(a b:aj):Bool:=
 (match a.dst with
  |some d=> !b.Hw.contains d&&b.dst !=some d
  |none=>true)&&
 (match b.dst with
  |some d=> !a.Hw.contains d
  |none=>true)
def DU(o:aj):Nat->List aj->Bool
 |_,[]=>true
 |j,x::r=>(o.anc.testBit j||zj x o)&&DU o (j+1) r
def uz:List aj->List aj->Bool
 |[],_=>true
 |o::os,past=>DU o 0 past&&uz os (past++[o])
def Ef(P:Program)(site:Nat)(o:Oper):vQ:=(tz P site o).getD .bad
def Wa(nt:Nat):Option Nat->Bool
 |some d=>decide (d<nt)
 |none=>true
def IB(dst:Nat->Option Nat):Option (Nat×Bool)->Option (Option (Nat×Bool))
 |none=>some none
 |some (j,w)=>(dst j).map fun t=>some (t,w)
def ke(P:Program)(dst:Nat->Option Nat)(base nt:Nat)(anc:Nat)(o:Oper):Option aj:=if Wa nt o.dst then (IB dst o.guard).map fun g=>⟨o.dst,Ef P base o,g,anc⟩ else none
def gZ(P:Program)(dst anc:Nat->Option Nat)(base nt:Nat):Nat->List Oper->Option (List aj)
 |_,[]=>some []
 |i,o::r=>match ke P dst ((base+i)*64) nt ((anc i).getD 0) o,gZ P dst anc base nt (i+1) r with
  |some x,some xs=>some (x::xs)
  |_,_=>none
def sA(ops:Array Oper):Bool:=(List.range ops.size).all fun i=>match ops[i]? with
 |some o=>o.after.all fun e=> !Region.binds .any e||decide (e.on<i)
 |none=>true
def iI(P:Program)(f nt:Nat):Code->Option am
 | .skip=>some .skip
 | .region id ops draw=>
  let b:=if draw then Region.before ops else #[]
  match gZ P (fun j=>(ops[j]?).bind (·.dst)) (fun i=>b[i]?) ((f*1000+id)*1000) nt 0 ops.toList with
  |some xs=>if draw then (if sA ops&&uz xs [] then some (.region true xs) else none) else some (.region false xs)
  |none=>none
 | .seq a b=>match iI P f nt a,iI P f nt b with
  |some x,some y=>some (.seq x y)
  |_,_=>none
 | .cond c a b=>match bh c,iI P f nt a,iI P f nt b with
  |some c,some x,some y=>some (.cond c x y)
  |_,_,_=>none
 | .block id c=>(iI P f nt c).map (.block id)
 | .loop c=>(iI P f nt c).map .loop
 | .exit id=>some (.exit id)
 | .scope c=>iI P f nt c
 | .label _=>some .skip
 | .ret=>some .ret
 |_=>some .bad
def Dn(P:Program):List ResultVar->Option (List (Nat×Option (Option Nat)))
 |[]=>some []
 | .tmp t::r=>(Dn P r).map ((t,none):: ·)
 | .cell t ty::r=>match DN P ty,Dn P r with
  |some k,some q=>some ((t,some k)::q)
  |_,_=>none
def uH(P:Program)(f:Nat):Option cX:=
 match P.funcs[f]? with
 |none=>none
 |some fn=>match fn.body with
  |none=>none
  |some c=>if fn.name== "runtime.NumGoroutine" then none else
   match iI P f fn.ntmps c,Dn P fn.results.toList with
   |some b,some r=>some ⟨fn.ntmps,r,b⟩
   |_,_=>none
end Go.Abs
namespace Go.Abs
variable {P:Program} {w0:World}
section
variable{m:Mem}
def gL(m:Mem)(env:Env)(tmps:Array Value):Prop:=∀t,aX m (env t) (tmps.getD t undef)
theorem gL.ev{m':Mem}(h:Ev m m'){env:Env}{tmps:Array Value}(hr:gL m env tmps):gL m' env tmps:=fun t=>(hr t).ev h.zero
theorem aX.one{c:C}{v:Value}:aX m (.one c) v↔bJ m c v:=Iff.rfl
theorem aX.agg{cs:List C}{v:Value}:aX m (.agg cs) v↔ ∃arr,v=.agg arr/\aT m cs arr.toList:=Iff.rfl
theorem aX.of1{x:V}{v:Value}(h:ia m x v):aX m x v:=by
 cases x with
 |tup vs=>exact h.elim
 |_=>exact h
theorem tx{w:World}{own:Nat->Prop}{v:Value}{x:PV}(h:zT v=some x):aZ w own x v:=by
 unfold zT at h;split at h<;>first
  |(cases h;constructor;done)
  |cases h
theorem wN{w:World}{own:Nat->Prop}:∀ {vs:List Value} {xs:List PV},sa vs=some xs->aR w own xs vs:=by
 intro vs
 induction vs with
 |nil=>intro xs h;simp[sa] at h;subst h;exact⟨rfl,fun j x u a _=>by simp at a⟩
 |cons v r ih=>
  intro xs h;simp only[sa] at h;split at h
  .rename_i x ys h1 h2;cases h;obtain⟨hl,hr⟩:=ih h2;refine⟨by simp[hl],fun j z u a b=>?_⟩;cases j with
   |zero=>simp at a b;subst a b;exact tx h1
   |succ j=>simp at a b;exact hr j z u a b
  cases h
theorem aR.SI{xs:List PV}{vs:List Value}(h:aR m.w m.own xs vs):aT m (xs.map .p) vs:=by refine⟨by simp[h.1],fun j x u a b=>?_⟩;simp only[aa0,aaD] at a;obtain⟨y,hy,rfl⟩:=a;exact .p (h.2 j y u hy b)
theorem I2{v:Value}{x:V}(h:I3 v=some x):aX m x v:=by
 unfold I3 at h;split at h
 .simp only[aaD] at h;obtain⟨xs,h1,rfl⟩:=h;exact aX.agg.2 ⟨_,rfl,(wN h1).SI⟩
 simp only[aaD] at h;obtain⟨y,h1,rfl⟩:=h;exact aX.one.2 (.p (tx h1))
theorem aE{env:Env}{a:Act}{x:Operand}{y:aC}(h:bh x=some y)(hr:gL m env a.tmps):aX m (ev env y) (a.eval x):=by
 unfold bh at h;split at h
 .cases h;exact hr _
 .cases h;exact aX.one.2 (.p (.int _ _))
 .cases h;exact aX.one.2 (.p (.bool _))
 .simp only[aaD] at h;obtain⟨v,h1,rfl⟩:=h;exact I2 h1
 .cases h;exact aX.one.2 (.p (.fn #[] #[] rfl rfl (fun j x u a=>by simp at a) (fun j x u a=>by simp at a)))
 cases h
def Does(P:Program)(ρ:Operand->Value)(o:Oper)(w:World)(x:Value)(w':World):Prop:=
 (execOp ρ o).run P w=.ok (.value x) w'\/((execOp ρ o).run P w=.ok .skip w'/\x=undef)
def eI(P:Program)(w0:World)(ρ:Operand->Value)(o:Oper)(m:Mem)(v:V)(u:List jS):Prop:=∃x m',Does P ρ o m.w x m'.w/\Ok w0 m'/\Ev m m'/\m'.fr=m.fr/\m'.blk=app u m.blk/\aX m' v x
theorem eI.calm{ρ:Operand->Value}{o:Oper}{v:V}{x:Value}(h:Ok w0 m)(aa6:(execOp ρ o).run P m.w=.ok (.value x) m.w)(hv:aX m v x):eI P w0 ρ o m v []:=
 ⟨x,m,.inl aa6,h,Ev.refl m,rfl,rfl,hv⟩
section
variable {m:Mem} {env:Env} {a:Act} {o:Oper} (hok:Ok w0 m) (hr:gL m env a.tmps)
include hok hr
theorem Fb{x:Operand}{y:aC}(ho:o.op=.move x\/o.op=.assign x)(hx:bh x=some y):eI P w0 a.eval o m (ev env y) []:=
 .calm hok (by rcases ho with ho|ho<;>simp[execOp,ho]) (aE hx hr)
theorem Om{c x y:Operand}{c' x' y':aC}{t:Bool}(ho:o.op=.pick c x y)(hc:bh c=some c')(hx:bh x=some x')(hy:bh y=some y')
  (ht:ev env c'=.one (.p (.bool t))):eI P w0 a.eval o m (if t then ev env x' else ev env y') []:=by
 have h1:=aE hc hr;rw[ht] at h1;obtain⟨⟩:bJ m (.p (.bool t)) _:=h1;rename_i hp;generalize hb:a.eval c=b at hp;cases hp;refine .calm (x:=if t then a.eval x else a.eval y) hok ?_ ?_
 .simp[execOp,ho,hb,asBool]
 cases t
 .exact aE hy hr
 exact aE hx hr
end
theorem j6{b:Bool}{v:Value}(h:aX m (.one (.p (.bool b))) v):v=.bool b:=by obtain⟨hp⟩:bJ m _ v:=h;cases hp;rfl
theorem k8{k:IntKind}{n:Int}{v:Value}(h:aX m (.one (.p (.int k n))) v):v=.int k n:=by obtain⟨hp⟩:bJ m _ v:=h;cases hp;rfl
theorem ur{s:ByteArray}{v:Value}(h:aX m (.one (.p (.str s))) v):v=.string s:=by obtain⟨hp⟩:bJ m _ v:=h;cases hp;rfl
theorem ut{v:Value}(h:aX m (.one (.p .nils)) v):v=.slice none 0 0:=by obtain⟨hp⟩:bJ m _ v:=h;cases hp;rfl
theorem Xd{v:Value}(h:aX m (.one (.p .zs)) v):∃a,v=.slice a 0 0:=by obtain⟨hp⟩:bJ m _ v:=h;cases hp;exact⟨_,rfl⟩
theorem F0{v:Value}(h:aX m (.one (.p .abn)) v):v=.map none:=by obtain⟨hp⟩:bJ m _ v:=h;cases hp;rfl
theorem kZ{x:PV}{v:Value}(h:aZ m.w m.own x v):aX m (.one (.p x)) v:=aX.one.2 (.p h)
def Mem.fresh(m:Mem)(ob:Obj)(s k:Nat)(o:Ob):Mem:=(m.later (m.w.alloc ob) (· =m.w.heap.size)).install s m.w.heap.size k o
theorem zh(hok:Ok w0 m)(ob:Obj)(s k:Nat)(o:Ob):(m.fresh ob s k o).fr=m.fr:=by
 funext c;simp only[Mem.fresh,Mem.install,Mem.later];apply propext;constructor
 .rintro ⟨h|h,h2⟩
  .exact h
  exact(h2 h).elim
 intro h;exact⟨.inl h,fun e=>by have:=hok.frlt c h;omega⟩
theorem uy(ob:Obj)(s k:Nat)(o:Ob):Ev m (m.fresh ob s k o):=oO (qK (eU.alloc m.w ob) fun c hc=>ac7 hc.symm) (.inr rfl) (.inl (aaj _))
theorem zg(ob:Obj)(s k:Nat)(o:Ob):(m.fresh ob s k o).w.heap[(m.fresh ob s k o).σ s]?=some ob:=by
 have:(m.fresh ob s k o).σ s=m.w.heap.size:=by simp[Mem.fresh,Mem.install,aa]
 rw[this];exact heap_alloc_new m.w ob
theorem Gc(hok:Ok w0 m)(ob:Obj)(s k:Nat)(o:Ob)(ho:sE (m.fresh ob s k o) s o):Ok w0 (m.fresh ob s k o):=oN (uj hok (eU.alloc m.w ob) fun c hc=>by subst hc;exact⟨aaj _,by simp⟩) (.inr rfl) hok.size ho
theorem vx(m:Mem)(ob:Obj)(s k:Nat)(o:Ob):(m.fresh ob s k o).blk=app [(s,((m.blk s).1+1,some o))] m.blk:=rfl
theorem Ci(hok:Ok w0 m)(s:Nat)(t:TypeId)(cs:List C)(arr:Array Value)(hc:aT m cs arr.toList):
  Ok w0 (m.fresh (.cells arr t) s 0 (.var cs))/\aX (m.fresh (.cells arr t) s 0 (.var cs)) (.one (.aam s ((m.blk s).1+1) 0)) (.pointer (some ⟨m.w.heap.size,0,none⟩)):=by
 refine⟨Gc hok _ s 0 _ ⟨arr,t,zg _ s 0 _,hc.ev (uy _ s 0 _).zero⟩,aX.one.2 (.aam _ ?_ fun _ _=>?_)⟩
 .simp[Mem.fresh,Mem.install,Mem.later,aa]
 simp[Mem.fresh,Mem.install,aa]
theorem m7{t:TypeId}{z:List PV}(h:sF P t=some z):∃v i,P.info? t=some i/\i.zero=some v/\v.cells.size=i.size/\z.length=i.size/\ ∀w own,aR w own z v.cells.toList:=by
 unfold sF at h;split at h
 .rename_i i hi;split at h
  .rename_i cs hz;split at h
   .rename_i hs;have hr:=fun w own=>wN (w:=w) (own:=own) h;refine⟨_,i,hi,hz,by simpa [Value.cells] using hs,?_,fun w own=>by simpa [Value.cells] using hr w own⟩;have:=(hr default (fun _=>False)).1;simp at this;omega
   cases h
  .rename_i v hz hv;split at h
   .rename_i hs;simp only[aaD] at h;obtain⟨x,hx,rfl⟩:=h;have hr:=fun w own=>tx (w:=w) (own:=own) hx;have hc:=(hr default (fun _=>False)).cells;refine⟨v,i,hi,hv,by simp[hc,hs],by simp[hs],fun w own=>?_⟩;rw[hc];refine⟨rfl,fun j y u a b=>?_⟩;cases j with
    |zero=>simp at a b;subst a b;exact hr w own
    |succ j=>simp at a
   cases h
  cases h
 cases h
section
variable {m:Mem} {env:Env} {a:Act} {o:Oper} (hok:Ok w0 m) (hr:gL m env a.tmps)
include hok
theorem LP{t:TypeId}{z:List PV}{s:Nat}(ho:o.op=.alloc t)(hz:sF P t=some z):
  eI P w0 a.eval o m (.one (.aam s ((m.blk s).1+1) 0)) [(s,((m.blk s).1+1,some (.var (z.map .p))))]:=by
 obtain⟨v,i,hi,hv,hs,hl,hps⟩:=m7 hz;obtain⟨h1,h2⟩:=Ci hok s t (z.map .p) v.cells (hps m.w m.own).SI;refine⟨_,_,.inl ?_,h1,uy _ s 0 _,zh hok _ s 0 _,vx _ _ s 0 _,h2⟩;simp[execOp,ho,Instr.alloc,zeroValue,typeInfo,hi,hv,newVar,newRow];rfl
include hr
theorem S7{t:TypeId}{x:Operand}{y:aC}{cs:List C}{s:Nat}(ho:o.op=.box t x)(hx:bh x=some y)(hc:gj (ev env y)=some cs):
  eI P w0 a.eval o m (.one (.aam s ((m.blk s).1+1) 0)) [(s,((m.blk s).1+1,some (.var cs)))]:=by
 have hv:=aE hx hr;have hcs:aT m cs (a.eval x).cells.toList:=by
  generalize ev env y=w at hc hv;cases w with
  |undef=>simp[gj] at hc
  |tup vs=>simp[gj] at hc
  |one c=>
   simp[gj] at hc;subst hc;rw[(aX.one.1 hv).cells];refine⟨rfl,fun j y u p q=>?_⟩;cases j with
   |zero=>simp at p q;subst p q;exact hv
   |succ j=>simp at p
  |agg ds=>simp[gj] at hc;subst hc;obtain⟨arr,e,h⟩:=aX.agg.1 hv;rw[e];exact h
 obtain⟨h1,h2⟩:=Ci hok s t cs _ hcs;refine⟨_,_,.inl ?_,h1,uy _ s 0 _,zh hok _ s 0 _,vx _ _ s 0 _,h2⟩;simp[execOp,ho,Instr.box,newVar,newRow];rfl
end
end
end Go.Abs
namespace Go.Abs
variable {P:Program} {w0:World}
theorem nE{α:Type}{sz:Nat}:∀ {es:List (List α)},(∀e∈es,e.length=sz)->es.flatten.length=es.length*sz:=by
 intro es
 induction es with
 |nil=>intro _;simp
 |cons e r ih=>intro h;have h1:=h e (by simp);have h2:=ih fun x hx=>h x (by simp[hx]);simp only[abt,aaY,aaz,h1,h2,aa3,Nat.one_mul];omega
theorem oU{α:Type}{sz:Nat}:∀ {es:List (List α)},(∀e∈es,e.length=sz)->∀ {i:Nat} {e:List α},es[i]?=some e->∀ {j:Nat},j<sz->es.flatten[i*sz+j]?=e[j]? :=by
 intro es
 induction es with
 |nil=>intro _ i e h;simp at h
 |cons x r ih=>
  intro h i e he j hj;have h1:=h x (by simp);cases i with
  |zero=>simp at he;subst he;simp only[abt,act,abd];rw[acN (by omega)]
  |succ i=>simp at he;have h2:=ih (fun y hy=>h y (by simp[hy])) he hj;simp only[abt];rw[acA (by rw[h1,aa3];omega),<- h2];congr 1;rw[h1,aa3];omega
theorem fB{α:Type}{sz:Nat}{es:List (List α)}(h:∀e∈es,e.length=sz){i:Nat}{e:List α}(he:es[i]?=some e):e.length=sz:=h e (aae he)
theorem qY{w:World}{b k:Nat}{cur:Array Value}{ty:TypeId}{fz:Nat×Nat}(h:w.heap[b]?=some (.cells cur ty fz)):w.cell? ⟨b,k,none⟩=cur[k]? :=cell_of_row w b k cur ty fz h
def At (m:Mem)(v:Value)(cs:List C):Prop:=∃b o vs,v=.pointer (some ⟨b,o,none⟩)/\aT m cs vs/\ ∀(j:Nat) (u:Value),vs[j]?=some u->m.w.cell? ⟨b,o+j,none⟩=some u
theorem At.row{m:Mem}{b o:Nat}{cur:Array Value}{ty:TypeId}{fz:Nat×Nat}(h:m.w.heap[b]?=some (.cells cur ty fz)){cs:List C}(hl:o+cs.length<=cur.size)
  (hc:∀(j:Nat) (x:C) (u:Value),cs[j]?=some x->cur[o+j]?=some u->bJ m x u):At m (.pointer (some ⟨b,o,none⟩)) cs:=by
 refine⟨b,o,(cur.toList.drop o).take cs.length,rfl,⟨by simp;omega,fun j x u p q=>?_⟩,fun j u q=>?_⟩
 .rw[aby] at q;split at q
  .exact hc j x u p (by simpa using q)
  cases q
 rw[aby] at q;split at q
 .rw[qY h];simpa using q
 cases q
theorem Fm{m:Mem}(hok:Ok w0 m){x:V}{v:Value}{cs:List C}{rd:List Nat}(h:AW m.blk x=some (cs,rd))(hv:aX m x v):At m v cs:=by
 unfold AW at h;split at h
 .rename_i ps;simp only[aaV,abe] at h;obtain⟨rfl,rfl⟩:=h;obtain⟨hp⟩:bJ m _ v:=hv;cases hp with
  |box b o f ho hc hr=>
   refine⟨b,o,(List.range ps.length).map f,rfl,⟨by simp,fun j x u p q=>?_⟩,fun j u q=>?_⟩
   .simp only[aa0,aaD] at p q;obtain⟨y,hy,rfl⟩:=p;obtain⟨k,hk,rfl⟩:=q;have hk':k=j:=by
     rw[abT (by have:=aai.1 hy;obtain⟨h,_⟩:=this;exact h)] at hk
     simpa using hk.symm
    subst hk';exact .p (hr k y hy)
   simp only[aa0,aaD] at q;obtain⟨k,hk,rfl⟩:=q;have hlt:j<ps.length:=by have:=aai.1 hk;obtain⟨h,_⟩:=this;simpa using h
   rw[abT hlt] at hk;simp at hk;subst hk;exact hc j _ (abZ hlt)
 .rename_i id g off;have hv:bJ m _ v:=hv;cases hv with
  |aam a hg ha=>
   split at h
   .rename_i g' cs0 hb;split at h
    .rename_i hgg;simp only[aaV,abe] at h;obtain⟨rfl,rfl⟩:=h;have hb2:(m.blk id).2=some (.var cs0):=by rw[hb]
     have ha:=ha (by rw[hb];exact hgg) (by rw[hb2];rfl);subst ha;obtain⟨cur,ty,hh,hl,hc⟩:=hok.obj id _ hb2;simp at hl;by_cases ho:off<=cs0.length
     .exact At.row hh (by simp;omega) fun j x u p q=>hc (off+j) x u (by simpa using p) (by simpa using q)
     exact⟨_,_,[],rfl,⟨by simp;omega,fun j x u p q=>by simp at q⟩,fun j u q=>by simp at q⟩
    cases h
   .rename_i g' cs0 hb;split at h
    .rename_i hgg;simp only[aaV,abe] at h;obtain⟨rfl,rfl⟩:=h;have hb2:(m.blk id).2=some (.fvar cs0):=by rw[hb]
     have ha:=ha (by rw[hb];exact hgg) (by rw[hb2];rfl);subst ha;obtain⟨cur,ty,fz,hh,hp,_⟩:=hok.obj id _ hb2;have hl:=hp.1;simp at hl;by_cases ho:off<=cs0.length
     .refine At.row hh (by simp;omega) fun j x u p q=>?_;simp only[aa0,aaD] at p;obtain⟨y,hy,rfl⟩:=p;exact .p (hp.2 (off+j) y u (by simpa using hy) (by simpa using q))
     exact⟨_,_,[],rfl,⟨by simp;omega,fun j x u p q=>by simp at q⟩,fun j u q=>by simp at q⟩
    cases h
   cases h
 .rename_i id g i off;have hv:bJ m _ v:=hv;cases hv with
  |hel a hg ha=>
   have key:∀(sz:Nat) (e:List C) (cur:Array Value) (ty:TypeId) (fz:Nat×Nat),m.w.heap[m.σ id]?=some (.cells cur ty fz)->e.length=sz->(i+1)*sz<=cur.size->
     a=⟨m.σ id,i*sz+off,none⟩->(∀(j:Nat) (x:C) (u:Value),e[j]?=some x->cur[i*sz+j]?=some u->bJ m x u)->At m (.pointer (some a)) (e.drop off):=by
    intro sz e cur ty fz hh he hlt haa hc;subst haa;rw[aa3,Nat.one_mul] at hlt;by_cases ho:off<=e.length
    .exact At.row hh (by simp;omega) fun j x u p q=>hc (off+j) x u (by simpa using p) (by rw[<- adc];exact q)
    exact⟨_,_,[],rfl,⟨by simp;omega,fun j x u p q=>by simp at q⟩,fun j u q=>by simp at q⟩
   have pure:∀(ty sz:Nat) (es:List (List PV)) (e:List PV) (cur:Array Value) (fz:Nat×Nat),m.w.heap[m.σ id]?=some (.cells cur ty fz)->(∀e∈es,e.length=sz)->es.length*sz<=cur.size->
     aR m.w m.own es.flatten (cur.toList.take (es.length*sz))->es[i]?=some e->a=⟨m.σ id,i*sz+off,none⟩->At m (.pointer (some a)) ((e.drop off).map .p):=by
    intro ty sz es e cur fz hh hsz hlen hps he haa;have hel:=fB hsz he;have hi:i<es.length:=(aai.1 he).1;have hil:(i+1)*sz<=es.length*sz:=abz _ hi;rw[List.map_drop];refine key sz (e.map .p) cur ty fz hh (by simpa using hel) (by omega) haa fun j x u p q=>?_;simp only[aa0,aaD] at p;obtain⟨y,hy,rfl⟩:=p;have hj:j<sz:=by have:=(aai.1 hy).1;omega
    refine .p (hps.2 (i*sz+j) y u (by rw[oU hsz he hj];exact hy) ?_);rw[aa3] at hil;rw[aby,if_pos (by omega)]
    simpa using q
   split at h
   .rename_i g' ty sz es hb;split at h
    .rename_i hgg;simp only[aaD,abe] at h;obtain⟨e,he,rfl,rfl⟩:=h;have hb2:(m.blk id).2=some (.arr ty sz es):=by rw[hb]
     obtain⟨cur,hh,hs0,hsz,hl,hm,hcs,hps⟩:=hok.obj id _ hb2;exact pure ty sz es e cur _ hh hsz (by rw[hcs];exact abz _ hl) hps he (ha sz (by rw[hb];exact hgg) (by rw[hb];rfl))
    cases h
   .rename_i g' ty sz es hb;split at h
    .rename_i hgg;simp only[aaD,abe] at h;obtain⟨e,he,rfl,rfl⟩:=h;have hb2:(m.blk id).2=some (.abl ty sz es):=by rw[hb]
     obtain⟨cur,fz,hh,hs0,hsz,hl,hm,hcs,hps,_⟩:=hok.obj id _ hb2;exact pure ty sz es e cur _ hh hsz (by rw[hcs];exact abz _ hl) hps he (ha sz (by rw[hb];exact hgg) (by rw[hb];rfl))
    cases h
   .rename_i g' ty sz es hb;split at h
    .rename_i hgg;simp only[aaD,abe] at h;obtain⟨e,he,rfl,rfl⟩:=h;have hb2:(m.blk id).2=some (.aaJ ty sz es):=by rw[hb]
     obtain⟨cur,hh,hs0,hsz,hl,hm,hcs,hps⟩:=hok.obj id _ hb2;have hel:=fB hsz he;have hi:i<es.length:=(aai.1 he).1;have hil:(i+1)*sz<=es.length*sz:=abz _ hi;have anG:es.length*sz<=m.κ id*sz:=abz _ hl;refine key sz e cur ty _ hh hel (by omega) (ha sz (by rw[hb];exact hgg) (by rw[hb];rfl)) fun j x u p q=>?_;have hj:j<sz:=by have:=(aai.1 p).1;omega
     refine hps.2 (i*sz+j) x u (by rw[oU hsz he hj];exact p) ?_;rw[aa3] at hil;rw[aby,if_pos (by omega)]
     simpa using q
    cases h
   cases h
 cases h
end Go.Abs
namespace Go.Abs
variable {P:Program} {w0:World}
theorem PZ{t:TypeId}{n:Nat}(h:DN P t=some (some n)):∃d i,P.underlying t=some d/\P.info? t=some i/\i.size=n/\((∃fs,d=.struct fs)\/ ∃k e,d=.array k e):=by
 unfold DN at h;split at h
 .rename_i fs i h1 h2;simp at h;exact⟨_,i,h1,h2,h,.inl ⟨fs,rfl⟩⟩
 .rename_i k e i h1 h2;simp at h;exact⟨_,i,h1,h2,h,.inr ⟨k,e,rfl⟩⟩
 .split at h<;>simp at h
 cases h
theorem P0{t:TypeId}(h:DN P t=some none):∃d i,P.underlying t=some d/\P.info? t=some i/\i.size=1/\(∀fs,d≠ .struct fs)/\ ∀k e,d≠ .array k e:=by
 unfold DN at h;split at h
 .simp at h
 .simp at h
 .rename_i d i n1 n2 h1 h2;split at h
  .rename_i hs;exact⟨_,_,h1,h2,hs,fun fs e=>n1 fs e,fun k e' e=>n2 k e' e⟩
  cases h
 cases h
theorem qy{t:TypeId}{n:Nat}(h:DN P t=some (some n))(w:World):(isAgg t).run P w=.ok true w/\(sizeOf t).run P w=.ok n w:=by
 obtain⟨d,i,h1,h2,h3,h4⟩:=PZ h;constructor
 .rcases h4 with ⟨fs,rfl⟩|⟨k,e,rfl⟩<;>simp[isAgg,run_underlying h1]
 simp[sizeOf,typeInfo,h2,h3]
theorem qA{t:TypeId}(h:DN P t=some none)(w:World):(isAgg t).run P w=.ok false w/\(sizeOf t).run P w=.ok 1 w:=by
 obtain⟨d,i,h1,h2,h3,h4,h5⟩:=P0 h;constructor
 .cases d<;>first
   |exact(h4 _ rfl).elim
   |exact(h5 _ _ rfl).elim
   |simp[isAgg,run_underlying h1]
 simp[sizeOf,typeInfo,h2,h3]
theorem ww{m:Mem}{t:TypeId}{k:Option Nat}(hk:DN P t=some k){v:Value}{cs:List C}(h:At m v cs){x:V}(hx:iz k cs=some x):
  ∃a y,v=.pointer (some a)/\(loadVar t a).run P m.w=.ok y m.w/\aX m x y:=by
 obtain⟨b,o,vs,rfl,hcs,hat⟩:=h;cases k with
 |none=>
  obtain⟨h1,h2⟩:=qA hk m.w;cases cs with
  |nil=>simp[iz] at hx
  |cons c r=>
   simp[iz] at hx;subst hx;obtain⟨hl,hr⟩:=hcs;cases vs with
   |nil=>simp at hl
   |cons u us=>have h0:=hat 0 u rfl;refine⟨_,u,rfl,?_,aX.one.2 (hr 0 c u rfl rfl)⟩;rw[aco] at h0;simp[loadVar,h1,h0]
 |some n=>
  obtain⟨h1,h2⟩:=qy hk m.w;simp only[iz] at hx;split at hx
  .rename_i hn;cases hx;obtain⟨hl,hr⟩:=hcs;refine⟨_,.agg (vs.take n).toArray,rfl,?_,aX.agg.2 ⟨_,rfl,by simp;omega,fun j x u p q=>?_⟩⟩
   .have hlen:(vs.take n).length=n:=by simp;omega
    have:=run_loadCells_list (P:=P) m.w ⟨b,o,none⟩ (vs.take n) (fun j u q=>by
     rw[Addr.add_lit];rw[aby] at q;split at q
     .exact hat j u q
     cases q)
    rw[hlen] at this;simp[loadVar,h1,h2,this]
   rw[aby] at p;simp only[aby] at q;split at p
   .rename_i hj;simp only[hj,if_true] at q;exact hr j x u p q
   cases p
  cases hx
section
variable {m:Mem} {env:Env} {a:Act} {o:Oper} (hok:Ok w0 m) (hr:gL m env a.tmps)
include hok hr
theorem Oq{t:TypeId}{x:Operand}{y:aC}{k:Option Nat}{cs:List C}{rd:List Nat}{v:V}(ho:o.op=.load t x)(hk:DN P t=some k)(hx:bh x=some y)
  (hc:AW m.blk (ev env y)=some (cs,rd)) (hv:iz k cs=some v):eI P w0 a.eval o m v []:=by
 obtain⟨ad,y',h1,h2,h3⟩:=ww hk (Fm hok hc (aE hx hr)) hv;exact .calm hok (by simp[execOp,ho,h1,Instr.loadAt,Instr.sureAddr,h2]) h3
theorem HH{x:Operand}{y:aC}{v:V}(ho:o.op=.nilCheck x)(hx:bh x=some y)(hv:aM (fun _=>false) env m.blk (.aa5 y)=.done v [] []):eI P w0 a.eval o m v []:=by
 have aax:=aE hx hr;simp only[aM] at hv;split at hv
 .rename_i he;rw[he] at aax;cases hv;have hc:bJ m _ (a.eval x):=aax;generalize hb:a.eval x=b at hc aax;cases hc with
  |aam ad hg h=>exact .calm hok (by simp[execOp,ho,hb]) aax
 .rename_i he;rw[he] at aax;cases hv;have hc:bJ m _ (a.eval x):=aax;generalize hb:a.eval x=b at hc aax;cases hc with
  |hel ad hg h=>exact .calm hok (by simp[execOp,ho,hb]) aax
 .rename_i he;rw[he] at aax;cases hv;have hc:bJ m _ (a.eval x):=aax;generalize hb:a.eval x=b at hc aax;cases hc with
  |p hp=>cases hp with
   |box b' o' f ho' hc' hr'=>exact .calm hok (by simp[execOp,ho,hb]) aax
 .rename_i he;rw[he] at aax;cases hv;have hc:bJ m _ (a.eval x):=aax;generalize hb:a.eval x=b at hc aax;cases hc with
  |hfn A B ha hb' hra hrb=>exact .calm hok (by simp[execOp,ho,hb]) aax
 .rename_i he;rw[he] at aax;cases hv;have hc:bJ m _ (a.eval x):=aax;generalize hb:a.eval x=b at hc aax;cases hc with
  |p hp=>cases hp with
   |fn A B ha hb' hra hrb=>exact .calm hok (by simp[execOp,ho,hb]) aax
 cases hv
end
end Go.Abs
namespace Go.Abs
variable {P:Program} {w0:World}
section
variable{vs:List Value}{off:Nat}
theorem aZ.norm{w:World}{own:Nat->Prop}{x:PV}{v:Value}(h:aZ w own x v):aZ w own x.norm v:=by
 cases h<;>first
  |exact .sl0 none 0 (fun _=>rfl) (aan _)
  |exact .sl0 _ 0 (fun _=>rfl) (aan _)
  |(simp only[PV.norm];constructor<;>assumption)
theorem SG{m:Mem}{c:C}{x:PV}{v:Value}(h:toP c=some x)(hr:bJ m c v):aZ m.w m.own x v:=by
 cases hr<;>simp[toP] at h
 rename_i hp;subst h;exact hp.norm
theorem qo{m:Mem}:∀ {cs:List C} {xs:List PV} {vs:List Value},AS cs=some xs->aT m cs vs->aR m.w m.own xs vs:=by
 intro cs
 induction cs with
 |nil=>intro xs vs h hr;simp[AS] at h;subst h;exact⟨hr.1,fun j x u a=>by simp at a⟩
 |cons c r ih=>
  intro xs vs h hr;simp only[AS] at h;split at h
  .rename_i x ys h1 h2;cases h;cases vs with
   |nil=>simp[aT] at hr
   |cons v us=>
    obtain⟨hl,hrr⟩:=ih (vs:=us) h2 ⟨by simpa using hr.1,fun j x u a b=>hr.2 (j+1) x u (by simpa using a) (by simpa using b)⟩;refine⟨by simp[hl],fun j z u a b=>?_⟩;cases j with
    |zero=>simp at a b;subst a b;exact SG h1 (hr.2 0 c v rfl rfl)
    |succ j=>simp at a b;exact hrr j z u a b
  cases h
def Pw {α:Type}(R:α->Value->Prop)(xs:List α)(vs:List Value):Prop:=vs.length=xs.length/\ ∀(j:Nat) (x:α) (u:Value),xs[j]?=some x->vs[j]?=some u->R x u
theorem Pw.take{α:Type}{R:α->Value->Prop}{xs:List α}(h:Pw R xs vs)(n:Nat):Pw R (xs.take n) (vs.take n):=by
 refine⟨by simp[h.1],fun j x u a b=>?_⟩;rw[aby] at a b;split at a
 .rename_i hj;rw[if_pos hj] at b;exact h.2 j x u a b
 cases a
theorem Pw.drop{α:Type}{R:α->Value->Prop}{xs:List α}(h:Pw R xs vs)(n:Nat):Pw R (xs.drop n) (vs.drop n):=
 ⟨by simp[h.1],fun j x u a b=>h.2 (n+j) x u (by simpa using a) (by simpa using b)⟩
theorem Pw.append{α:Type}{R:α->Value->Prop}{xs ys:List α}{us:List Value}(h:Pw R xs vs)(k:Pw R ys us):Pw R (xs++ys) (vs++us):=by
 refine⟨by simp[h.1,k.1],fun j x u a b=>?_⟩;by_cases hj:j<xs.length
 .rw[acN hj] at a;rw[acN (by rw[h.1];exact hj)] at b;exact h.2 j x u a b
 rw[acA (by omega)] at a;rw[acA (by rw[h.1];omega),h.1] at b;exact k.2 _ x u a b
theorem Pw.aY{α:Type}{R:α->Value->Prop}{xs ys:List α}{us:List Value}(h:Pw R xs vs)(k:Pw R ys us)(off:Nat):Pw R (aY xs off ys) (aY vs off us):=by unfold Abs.aY;rw[k.1];exact((h.take off).append k).append (h.drop _)
theorem nY{α:Type}{cs xs:List α}(h:off+xs.length<=cs.length):(aY cs off xs).length=cs.length:=by simp[aY];omega
theorem v7{α:Type}{cs xs:List α}{n:Nat}(h:off+xs.length<=n)(hn:n<=cs.length):(aY cs off xs).take n=aY (cs.take n) off xs:=by unfold aY;rw[List.take_append,List.take_append,List.take_take,List.drop_take];simp only[aaY,aa2];rw[acu (by omega:off<=cs.length),List.take_take,acu (by omega:off<=n),Nat.min_eq_right (by omega:off<=n)];have e:n-(off+xs.length)=n-(off+xs.length):=rfl;rw[aa4 (by omega:xs.length<=n-off)]
theorem Da{α:Type}{a cs xs:List α}:aY (a++cs) (a.length+off) xs=a++aY cs off xs:=by
 unfold aY;rw[List.take_append,List.drop_append];simp only[acw];rw[aa4 (by omega:a.length<=a.length+off),List.drop_of_length_le (by omega:a.length<=a.length+off+xs.length)];simp only[aaZ];have e1:a.length+off-a.length=off:=by omega
 have e2:a.length+off+xs.length-a.length=off+xs.length:=by omega
 rw[e1,e2]
theorem EU{α:Type}{a cs xs:List α}(h:off+xs.length<=a.length):aY (a++cs) off xs=aY a off xs++cs:=by unfold aY;rw[adS (by omega),List.drop_append_of_le_length (by omega)];simp
theorem QA{α:Type}{sz:Nat}{ps:List α}:∀ {es:List (List α)},(∀e∈es,e.length=sz)->∀ {i:Nat} {e:List α},es[i]?=some e->off+ps.length<=sz->
  (es.set i (aY e off ps)).flatten=aY es.flatten (i*sz+off) ps:=by
 intro es
 induction es with
 |nil=>intro _ i e h;simp at h
 |cons x r ih=>
  intro h i e he hl;have h1:=h x (by simp);cases i with
  |zero=>simp at he;subst he;simp only[List.set_cons_zero,abt,act,abd];rw[EU (by omega)]
  |succ i=>
   simp at he;simp only[List.set_cons_succ,abt];rw[ih (fun y hy=>h y (by simp[hy])) he hl];have hh:(i+1)*sz+off=x.length+(i*sz+off):=by rw[h1,aa3];omega
   rw[hh,Da]
theorem rF{w:World}{g:Nat}{cur new:Array Value}{ty:TypeId}{fz:Nat×Nat}(h:w.heap[g]?=some (.cells cur ty fz)):(w.setRow g new).heap[g]?=some (.cells new ty fz):=setRow_heap w g cur new ty fz h
theorem aT.pw{m:Mem}{cs:List C}:aT m cs vs↔Pw (bJ m) cs vs:=Iff.rfl
theorem aR.pw{w:World}{own:Nat->Prop}{cs:List PV}:aR w own cs vs↔Pw (aZ w own) cs vs:=Iff.rfl
theorem aT.one{m:Mem}{cs:List C}(h:aT m cs vs):∀v∈vs,v.oneCell'=true:=by
 intro v hv;obtain⟨j,hj⟩:=abb hv;have hlt:j<cs.length:=by rw[<- h.1];exact(aai.1 hj).1
 exact(h.2 j _ v (abZ hlt) hj).uc
theorem tB{m:Mem}{x:V}{v:Value}{cs:List C}(h:gj x=some cs)(hr:aX m x v):aT m cs v.cells.toList:=by
 cases x with
 |undef=>simp[gj] at h
 |tup vs=>simp[gj] at h
 |one c=>
  simp[gj] at h;subst h;rw[(aX.one.1 hr).cells];refine⟨rfl,fun j y u p q=>?_⟩;cases j with
  |zero=>simp at p q;subst p q;exact hr
  |succ j=>simp at p
 |agg ds=>simp[gj] at h;subst h;obtain⟨arr,e,h⟩:=aX.agg.1 hr;rw[e];exact h
section
variable {m:Mem} {env:Env} {a:Act} {o:Oper} (hok:Ok w0 m) (hr:gL m env a.tmps)
include hok hr
theorem LG{t:TypeId}{x v:Operand}{x' v':aC}{n:Nat}{cs:List C}{r:V}{u:List jS}{rd:List Nat}(ho:o.op=.store t x v)(hn:nh P t=some n)(hx:bh x=some x')(hv:bh v=some v')
  (hc:gj (ev env v')=some cs) (hw:xD m.blk (ev env x') n cs=.done r u rd):eI P w0 a.eval o m r u:=by
 have hcs:=tB hc (aE hv hr);have hrx:=aE hx hr;unfold nh at hn;simp only[aaD] at hn;obtain⟨i,hi,hin⟩:=hn;have hsz:(a.eval v).cells.toList.length=cs.length:=hcs.1;simp only[Array.length_toList] at hsz;unfold xD at hw;split at hw
 .cases hw
 rename_i hlen;have hlen:cs.length=n:=by simpa using hlen
 have aiX:=hcs.one;split at hw
 .rename_i id g off he;rw[he] at hrx;have hrx:bJ m _ (a.eval x):=hrx;generalize hb:a.eval x=b at hrx;cases hrx with
  |aam ad hg had=>
   split at hw
   .rename_i g' cs0 hbk;split at hw
    .rename_i ael;obtain⟨hgg,hfit⟩:=ael;cases hw;have hb2:(m.blk id).2=some (.var cs0):=by rw[hbk]
     have had:=had (by rw[hbk];exact hgg) (by rw[hb2];rfl);subst had;obtain⟨cur,ty,hh,hps⟩:=hok.obj id _ hb2;have hcl:=hps.1;simp at hcl;have acy:off+0+(a.eval v).cells.toList.length<=cur.size:=by simp;omega
     have hst:=run_storeCells_at P (m.σ id) off ty (a.eval v).cells.toList 0 cur m.w hh acy aiX;simp only[aco] at hst;generalize hW:m.w.setRow (m.σ id) (cur.toList.take off++(a.eval v).cells.toList++cur.toList.drop (off+(a.eval v).cells.toList.length)).toArray=W at hst;have hWs:W.heap.size=m.w.heap.size:=by rw[<- hW];simp
     have hWo:∀c,c≠m.σ id->W.heap[c]?=m.w.heap[c]? :=fun c hc=>by rw[<- hW];exact setRow_other m.w (m.σ id) c _ hc
     have hev:=tP (w':=W) (o:=.var (aY cs0 off cs)) hb2 rfl (by simp[je]) (by rw[<- hW];rfl) (by rw[<- hW];rfl) (by rw[<- hW];rfl) hWs hWo;have adx:sE (m.iL W id (.var (aY cs0 off cs))) id (.var (aY cs0 off cs)):=by
      refine⟨_,ty,by rw[<- hW];exact rF hh,?_⟩;have:=aT.pw.2 ((aT.pw.1 (hps.ev hev.zero)).aY (aT.pw.1 (hcs.ev hev.zero)) off)
      simpa [aY] using this
     refine⟨undef,m.iL W id (.var (aY cs0 off cs)),.inr ⟨?_,rfl⟩,w7 hb2 rfl hok (by simp[je]) (by rw[<- hW];rfl) (by rw[<- hW];rfl) (by rw[<- hW];rfl) hWs hWo adx,hev,rfl,?_,rfl⟩
     .simp only[execOp,ho,hb,Instr.storeAt,Instr.sureAddr,storeVar,sizeOf,typeInfo];simp[hi,hsz,hlen,hin,hst,Mem.iL]
     simp[Mem.iL,app,hbk,hgg]
    cases hw
   cases hw
 .rename_i id g i' off he;rw[he] at hrx;have hrx:bJ m _ (a.eval x):=hrx;generalize hb:a.eval x=b at hrx;cases hrx with
  |hel ad hg had=>
   split at hw
   .rename_i g' ty sz es hbk;split at hw
    .rename_i e ps he2 aiW;split at hw
     .rename_i ael;obtain⟨hgg,hfit⟩:=ael;cases hw;have hb2:(m.blk id).2=some (.arr ty sz es):=by rw[hbk]
      have had:=had sz (by rw[hbk];exact hgg) (by rw[hbk];rfl);subst had;obtain⟨cur,hh,hs0,abO,hl,hm,ajK,hps⟩:=hok.obj id _ hb2;have hel:=fB abO he2;have aq3:i'<es.length:=(aai.1 he2).1;have hil:(i'+1)*sz<=es.length*sz:=abz _ aq3;have anG:es.length*sz<=m.κ id*sz:=abz _ hl;rw[aa3,Nat.one_mul] at hil;have hpsl:ps.length=cs.length:=by rw[<- hcs.1];exact(qo aiW hcs).1.symm
      have acy:i'*sz+off+0+(a.eval v).cells.toList.length<=cur.size:=by simp;omega
      have hst:=run_storeCells_at P (m.σ id) (i'*sz+off) ty (a.eval v).cells.toList 0 cur m.w hh acy aiX;simp only[aco] at hst;generalize hW:m.w.setRow (m.σ id) (cur.toList.take (i'*sz+off)++(a.eval v).cells.toList++cur.toList.drop (i'*sz+off+(a.eval v).cells.toList.length)).toArray=W at hst;have hWs:W.heap.size=m.w.heap.size:=by rw[<- hW];simp
      have hWo:∀c,c≠m.σ id->W.heap[c]?=m.w.heap[c]? :=fun c hc=>by rw[<- hW];exact setRow_other m.w (m.σ id) c _ hc
      have hev:=tP (w':=W) (o:=.arr ty sz (es.set i' (aY e off ps))) hb2 rfl (by simp[je]) (by rw[<- hW];rfl) (by rw[<- hW];rfl) (by rw[<- hW];rfl) hWs hWo;have adx:sE (m.iL W id (.arr ty sz (es.set i' (aY e off ps)))) id (.arr ty sz (es.set i' (aY e off ps))):=by
       refine⟨_,by rw[<- hW];exact rF hh,hs0,?_,by rw[abV];exact hl,hm,?_,?_⟩
       .intro e' he';rcases List.mem_or_eq_of_mem_set he' with h|h
        .exact abO e' h
        rw[h,nY (by omega)];exact hel
       .simp[Mem.iL];omega
       rw[abV,QA abO he2 (by omega)];have h1:=(aR.pw.1 (hps.ev hev.zero)).aY (aR.pw.1 ((qo aiW hcs).ev hev.zero)) (i'*sz+off);rw[<- v7 (by simp;omega) (by simp;omega)] at h1;have h1:=aR.pw.2 h1
       simpa [aY] using h1
      refine⟨undef,m.iL W id (.arr ty sz (es.set i' (aY e off ps))),.inr ⟨?_,rfl⟩,w7 hb2 rfl hok (by simp[je]) (by rw[<- hW];rfl) (by rw[<- hW];rfl) (by rw[<- hW];rfl) hWs hWo adx,hev,rfl,?_,rfl⟩
      .simp only[execOp,ho,hb,Instr.storeAt,Instr.sureAddr,storeVar,sizeOf,typeInfo];simp[hi,hsz,hlen,hin,hst,Mem.iL]
      simp[Mem.iL,app,hbk,hgg]
     cases hw
    cases hw
   cases hw
 cases hw
end
end
end Go.Abs
namespace Go.Abs
variable {P:Program} {w0:World}
theorem jp{m:Mem}{x:V}{v:Value}{n:Nat}(h:A4 x=some n)(hr:aX m x v):∃k,v=.int k (n:Int):=by
 unfold A4 at h;split at h
 .rename_i k z;split at h
  .rename_i hz;cases h;exact⟨k,by rw[k8 hr,Int.toNat_of_nonneg hz]⟩
  cases h
 cases h
theorem rD{t:TypeId}{n:Nat}(h:nh P t=some n)(w:World):(sizeOf t).run P w=.ok n w:=by unfold nh at h;simp only[aaD] at h;obtain⟨i,hi,rfl⟩:=h;simp[sizeOf,typeInfo,hi]
section
variable {m:Mem} {env:Env} {a:Act} {o:Oper} (hok:Ok w0 m) (hr:gL m env a.tmps)
include hok hr
theorem LK{s:TypeId}{x:Operand}{f:Nat}{fs:Array Field}{d:Field}{y:aC}{v:V}(ho:o.op=.fieldAddr s x f)(hs:P.underlying s=some (.struct fs))(hf:fs[f]?=some d)
  (hz:P.cellsOf d.type≠0) (hx:bh x=some y) (hv:aM (fun _=>false) env m.blk (.abr d.offset y)=.done v [] []):eI P w0 a.eval o m v []:=by
 have aax:=aE hx hr;have hsz:∃n,(sizeOf d.type).run P m.w=.ok n m.w/\n≠0:=by
  unfold Program.cellsOf at hz;cases hi:P.info? d.type with
  |none=>simp[hi] at hz
  |some i=>exact⟨i.size,by simp[sizeOf,typeInfo,hi],by simpa [hi] using hz⟩
 obtain⟨n,hn,hn0⟩:=hsz;have run:∀ad,a.eval x=.pointer (some ad)->(execOp a.eval o).run P m.w=.ok (.value (.pointer (some (ad.add d.offset)))) m.w:=by intro ad had;simp[execOp,ho,had,Instr.fieldAt,run_underlying hs,hf,Instr.sureAddr,fieldPlace,hn,hn0]
 simp only[aM] at hv;split at hv
 .rename_i id g off he;rw[he] at aax;cases hv;have hc:bJ m _ (a.eval x):=aax;generalize hb:a.eval x=b at hc;cases hc with
  |aam ad hg h=>exact .calm hok (run _ hb) (aX.one.2 (.aam _ hg fun h1 h2=>by rw[h h1 h2,Addr.add_lit]))
 .rename_i id g i off he;rw[he] at aax;cases hv;have hc:bJ m _ (a.eval x):=aax;generalize hb:a.eval x=b at hc;cases hc with
  |hel ad hg h=>exact .calm hok (run _ hb) (aX.one.2 (.hel _ hg fun sz h1 h2=>by rw[h sz h1 h2,Addr.add_lit,adc]))
 .rename_i cs he;rw[he] at aax;cases hv;have hc:bJ m _ (a.eval x):=aax;generalize hb:a.eval x=b at hc;cases hc with
  |p hp=>cases hp with
   |box b' o' f' ho' hc' hr'=>refine .calm hok (run _ hb) (kZ ?_);rw[Addr.add_lit];refine .box b' (o'+d.offset) (fun j=>f' (d.offset+j)) (fun h=>ho' fun e=>h (by simp[e])) (fun j z h=>?_) fun j z h=>hr' _ z (by simpa using h);rw[adc];exact hc' _ z (by simpa using h)
 cases hv
theorem LJ{t e:TypeId}{x i:Operand}{sz:Nat}{x' i':aC}{v:V}(ho:o.op=.indexAddr t x i)(ht:P.underlying t=some (.slice e))(hs:nh P e=some sz)
  (hx:bh x=some x') (hi:bh i=some i') (hv:aM (fun _=>false) env m.blk (.aaU sz x' i')=.done v [] []):eI P w0 a.eval o m v []:=by
 have aax:=aE hx hr;have hri:=aE hi hr;have run:∀ad len cap k (n:Nat),a.eval x=.slice (some ad) len cap->a.eval i=.int k (n:Int)->n<len->(execOp a.eval o).run P m.w=.ok (.value (.pointer (some (ad.add (n*sz))))) m.w:=by intro ad len cap k n h1 h2 h3;simp[execOp,ho,h1,h2,Instr.indexAt,asIntOf,run_underlying ht,rD hs,h3]
 simp only[aM] at hv;split at hv
 .rename_i n es hn he;obtain⟨k,hk⟩:=jp hn hri;rw[he] at aax;split at hv
  .rename_i el hel;split at hv
   .rename_i hlen;cases hv;have hc:bJ m _ (a.eval x):=aax;generalize hb:a.eval x=b at hc;cases hc with
    |p hp=>
     generalize hpv:(PV.sl es)=pv at hp;cases hp<;>first
      |cases hpv
      |skip
     .simp at hel
     rename_i b' o' cap sz' f hm' ho' hl' hsz hcc hrr;have hlt:n<es.length:=(aai.1 hel).1;have akA:sz'=sz:=by rw[<- fB hsz hel];exact hlen
     subst akA;refine .calm hok (run _ _ _ k n hb hk hlt) (kZ ?_);rw[Addr.add_lit];refine .box b' (o'+n*sz') (fun j=>f (n*sz'+j)) (fun h=>ho' ?_) (fun j z h=>?_) fun j z h=>?_
     .intro e0;cases el with
      |nil=>exact h rfl
      |cons c r=>have:=oU hsz hel (j:=0) (by rw[<- hlen];simp);rw[e0] at this;simp at this
     .have hj:j<sz':=by rw[<- hlen];exact(aai.1 h).1
      rw[adc];exact hcc _ z (by rw[oU hsz hel hj];exact h)
     have hj:j<sz':=by rw[<- hlen];exact(aai.1 h).1
     exact hrr _ z (by rw[oU hsz hel hj];exact h)
   cases hv
  cases hv
 .rename_i n id g z off len hn he;obtain⟨k,hk⟩:=jp hn hri;rw[he] at aax;split at hv
  .rename_i hlt;cases hv;have hc:bJ m _ (a.eval x):=aax;generalize hb:a.eval x=b at hc;cases hc with
   |hsl ad cap hg hl hm h=>refine .calm hok (run _ _ _ k n hb hk hlt.1) (aX.one.2 (.hel _ hg fun s h1 h2=>?_));obtain⟨e1,e2,_⟩:=h s h1 h2;rw[e2 (.inr (by omega)),Addr.add_lit,e1,hlt.2];simp[aa3]
  cases hv
 cases hv
theorem LQ{t e:TypeId}{x i:Operand}{sz ln:Nat}{x' i':aC}{v:V}(ho:o.op=.indexAddr t x i)(ht:P.underlying t=some (.array ln e))(hs:nh P e=some sz)
  (hx:bh x=some x') (hi:bh i=some i') (hv:aM (fun _=>false) env m.blk (.abg ln sz x' i')=.done v [] []):eI P w0 a.eval o m v []:=by
 have aax:=aE hx hr;have hri:=aE hi hr;have run:∀ad k (n:Nat),a.eval x=.pointer (some ad)->a.eval i=.int k (n:Int)->n<ln->(execOp a.eval o).run P m.w=.ok (.value (.pointer (some (ad.add (n*sz))))) m.w:=by intro ad k n h1 h2 h3;simp[execOp,ho,h1,h2,Instr.indexAt,asIntOf,run_underlying ht,rD hs,h3,Instr.sureAddr]
 simp only[aM] at hv;split at hv
 .rename_i n id g off hn he;obtain⟨k,hk⟩:=jp hn hri;rw[he] at aax;split at hv
  .rename_i hlt;cases hv;have hc:bJ m _ (a.eval x):=aax;generalize hb:a.eval x=b at hc;cases hc with
   |aam ad hg h=>exact .calm hok (run _ k n hb hk hlt) (aX.one.2 (.aam _ hg fun h1 h2=>by rw[h h1 h2,Addr.add_lit]))
  cases hv
 .rename_i n id g j off hn he;obtain⟨k,hk⟩:=jp hn hri;rw[he] at aax;split at hv
  .rename_i hlt;cases hv;have hc:bJ m _ (a.eval x):=aax;generalize hb:a.eval x=b at hc;cases hc with
   |hel ad hg h=>exact .calm hok (run _ k n hb hk hlt) (aX.one.2 (.hel _ hg fun s h1 h2=>by rw[h s h1 h2,Addr.add_lit,adc]))
  cases hv
 .rename_i n cs hn he;obtain⟨k,hk⟩:=jp hn hri;rw[he] at aax;split at hv
  .rename_i hlt;cases hv;have hc:bJ m _ (a.eval x):=aax;generalize hb:a.eval x=b at hc;cases hc with
   |p hp=>cases hp with
    |box b' o' f' ho' hc' hr'=>refine .calm hok (run _ k n hb hk hlt) (kZ ?_);rw[Addr.add_lit];refine .box b' (o'+n*sz) (fun j=>f' (n*sz+j)) (fun h=>ho' fun e=>h (by simp[e])) (fun j z h=>?_) fun j z h=>hr' _ z (by simpa using h);rw[adc];exact hc' _ z (by simpa using h)
  cases hv
 cases hv
theorem FA{t:TypeId}{k:Option Nat}(hk:DN P t=some k){cs:List C}{arr:Array Value}(hc:aT m cs arr.toList){off:Nat}{x:V}(hx:iz k (cs.drop off)=some x):
  ∃y,(part t arr off).run P m.w=.ok y m.w/\aX m x y:=by
 have _u0:=hok;have _u1:=hr;have hl:=hc.1;simp at hl;cases k with
 |none=>
  obtain⟨h1,h2⟩:=qA hk m.w;cases hd:cs.drop off with
  |nil=>simp[hd,iz] at hx
  |cons c r=>
   simp[hd,iz] at hx;subst hx;have hcs:cs[off]?=some c:=by
    have:=congrArg (·[0]?) hd
    simpa using this
   have hlt:off<arr.size:=by rw[hl];exact(aai.1 hcs).1
   refine⟨arr[off],by simp[part,h1,hlt],aX.one.2 (hc.2 off c _ hcs (by simp[hlt]))⟩
 |some n=>
  obtain⟨h1,h2⟩:=qy hk m.w;simp only[iz] at hx;split at hx
  .rename_i hn;cases hx;simp at hn;refine⟨.agg (arr.extract off (off+n)),by simp[part,h1,h2],aX.agg.2 ⟨_,rfl,by simp;omega,fun j x u p q=>?_⟩⟩;rw[aby] at p;split at p
   .rename_i hj;simp at p;refine hc.2 (off+j) x u p ?_;have hlt:off+j<cs.length:=(aai.1 p).1;have he:(arr.extract off (off+n)).toList=(arr.toList.drop off).take n:=by simp
    rw[he,aby,if_pos hj,acB] at q;exact q
   cases p
  cases hx
theorem S6{t:TypeId}{x:Operand}{f:Nat}{fs:Array Field}{d:Field}{y:aC}{k:Option Nat}{cs:List C}{v:V}(ho:o.op=.field t x f)(hs:P.underlying t=some (.struct fs))(hf:fs[f]?=some d)
  (hk:DN P d.type=some k) (hx:bh x=some y) (hy:ev env y=.agg cs) (hv:iz k (cs.drop d.offset)=some v):eI P w0 a.eval o m v []:=by
 have aax:=aE hx hr;rw[hy] at aax;obtain⟨arr,e,hc⟩:=aX.agg.1 aax;obtain⟨z,h1,h2⟩:=FA (hok:=hok) (hr:=hr) hk hc hv;exact .calm hok (by simp[execOp,ho,e,Instr.field,run_underlying hs,hf,asAgg,h1]) h2
theorem Ow{t e:TypeId}{x i:Operand}{ln sz:Nat}{x' i':aC}{k:Option Nat}{n:Nat}{cs:List C}{v:V}(ho:o.op=.index t x i)(ht:P.underlying t=some (.array ln e))(hs:nh P e=some sz)
  (hk:DN P e=some k) (hx:bh x=some x') (hi:bh i=some i') (hn:A4 (ev env i')=some n) (hlt:n<ln) (hy:ev env x'=.agg cs) (hv:iz k (cs.drop (n*sz))=some v):eI P w0 a.eval o m v []:=by
 have aax:=aE hx hr;obtain⟨kk,hkk⟩:=jp hn (aE hi hr);rw[hy] at aax;obtain⟨arr,e',hc⟩:=aX.agg.1 aax;obtain⟨z,h1,h2⟩:=FA (hok:=hok) (hr:=hr) hk hc hv;exact .calm hok (by simp[execOp,ho,e',hkk,Instr.index,asIntOf,run_underlying ht,rD hs,hlt,h1]) h2
theorem Ol{t:TypeId}{x i:Operand}{x' i':aC}{n:Nat}{s:ByteArray}{b:UInt8}(ho:o.op=.index t x i)(ht:P.underlying t=some .string)
  (hx:bh x=some x') (hi:bh i=some i') (hn:A4 (ev env i')=some n) (hy:ev env x'=.one (.p (.str s))) (hb:s[n]?=some b):eI P w0 a.eval o m (.one (.p (.int .u8 b.toNat))) []:=by
 have aax:=aE hx hr;obtain⟨kk,hkk⟩:=jp hn (aE hi hr);rw[hy] at aax;exact .calm hok (by simp[execOp,ho,ur aax,hkk,Instr.index,asIntOf,run_underlying ht,hb]) (kZ (.int _ _))
end
end Go.Abs
namespace Go.Abs
variable {P:Program} {w0:World}
theorem Jb{op:BinOp}{t:TypeId}{k k':IntKind}{x y:Int}{v:PV}(w:World)(hk:k=k'\/op=.shl\/op=.shr)(h:ir op k x y=some v):
  ∃u,(binOp op t (.int k x) (.int k' y)).run P w=.ok u w/\ ∀own,aZ w own v u:=by
 by_cases hs:op=.shl\/op=.shr
 .rcases hs with rfl|rfl
  .simp only[ir] at h;split at h
   .cases h
   rename_i hy;cases h;exact⟨_,by simp[binOp,Op.shift,hy],fun own=>.int _ _⟩
  simp only[ir] at h;split at h
  .cases h
  rename_i hy;cases h;exact⟨_,by simp[binOp,Op.shift,hy],fun own=>.int _ _⟩
 have hkk:k=k':=by
  rcases hk with h|h
  .exact h
  exact(hs h).elim
 subst hkk;cases op<;>simp only[ir] at h<;>first
  |cases h
  |skip
 all_goals first
  |exact(hs (.inl rfl)).elim
  |exact(hs (.inr rfl)).elim
  |(exact⟨_,by simp[binOp,Op.intArith,Op.intCmp,Op.intBits],fun own=>.int _ _⟩)
  |(exact⟨_,by simp[binOp,Op.intArith,Op.intCmp],fun own=>.bool _⟩)
  |(split at h
    .cases h
    rename_i hy;cases h;exact⟨_,by simp[binOp,Op.intDiv,hy],fun own=>.int _ _⟩)
theorem Ja{op:BinOp}{t:TypeId}{x y:ByteArray}{v:PV}(w:World)(h:vK op x y=some v):
  ∃u,(binOp op t (.string x) (.string y)).run P w=.ok u w/\ ∀own,aZ w own v u:=by
 cases op<;>simp only[vK] at h<;>first
  |cases h
  |skip
 all_goals first
  |exact⟨_,by simp[binOp,Op.stringOp],fun own=>.bool _⟩
  |(split at h
    .rename_i hl;cases h;refine⟨.string (x++y),?_,fun own=>.str _⟩;have:¬((x.size:Int)+(y.size:Int)>9223372036854775807):=by omega
     simp[binOp,Op.stringOp,this]
    cases h)
section
variable {m:Mem} {env:Env} {a:Act} {o:Oper} (hok:Ok w0 m) (hr:gL m env a.tmps)
include hok hr
theorem S8{op:BinOp}{t ty:TypeId}{x y:Operand}{x' y':aC}{v:V}(ho:o.op=.binOp op t x y ty)(hx:bh x=some x')(hy:bh y=some y')
  (hv:pJ op (ev env x') (ev env y')=some v):eI P w0 a.eval o m v []:=by
 have h1:=aE hx hr;have h2:=aE hy hr;unfold pJ at hv;split at hv
 .rename_i k p k' q e1 e2;rw[e1] at h1;rw[e2] at h2;split at hv
  .rename_i hk;simp only[aaD] at hv;obtain⟨u,hu,rfl⟩:=hv;obtain⟨z,hz,hzr⟩:=Jb (P:=P) (t:=t) m.w hk hu;refine .calm hok ?_ (kZ (hzr _));have hg:(eqGuard op t x y (.int k p) (.int k' q)).run P m.w=.ok () m.w:=by cases op<;>simp[eqGuard]
   simp[execOp,ho,k8 h1,k8 h2,hg,hz]
  cases hv
 .rename_i p q e1 e2;rw[e1] at h1;rw[e2] at h2;simp only[aaD] at hv;obtain⟨u,hu,rfl⟩:=hv;obtain⟨z,hz,hzr⟩:=Ja (P:=P) (t:=t) m.w hu;refine .calm hok ?_ (kZ (hzr _));have hg:(eqGuard op t x y (.string p) (.string q)).run P m.w=.ok () m.w:=by cases op<;>simp[eqGuard]
  simp[execOp,ho,ur h1,ur h2,hg,hz]
 cases hv
theorem S2{t:TypeId}{x:Operand}{x':aC}{b:Bool}(ho:o.op=.unOp .not t x)(hx:bh x=some x')(hb:ev env x'=.one (.p (.bool b))):eI P w0 a.eval o m (.one (.p (.bool (!b)))) []:=by have h1:=aE hx hr;rw[hb] at h1;exact .calm hok (by simp[execOp,ho,j6 h1,Op.unary]) (kZ (.bool _))
theorem S3{t:TypeId}{x:Operand}{x':aC}{k:IntKind}{n:Int}(ho:o.op=.unOp .neg t x)(hx:bh x=some x')(hb:ev env x'=.one (.p (.int k n))):eI P w0 a.eval o m (.one (.p (.int k (k.wrap (0-n))))) []:=by have h1:=aE hx hr;rw[hb] at h1;exact .calm hok (by simp[execOp,ho,k8 h1,Op.unary,Op.intArith]) (kZ (.int _ _))
theorem Ou{s d:TypeId}{x:Operand}{x':aC}{ks k k0:IntKind}{n:Int}(ho:o.op=.convert s d x)(hs:P.underlying s=some (.int ks))(hd:P.underlying d=some (.int k))(hx:bh x=some x')
  (hb:ev env x'=.one (.p (.int k0 n))):eI P w0 a.eval o m (.one (.p (.int k (k.wrap n)))) []:=by
 have h1:=aE hx hr;rw[hb] at h1;exact .calm hok (by simp[execOp,ho,k8 h1,convert,run_underlying hs,run_underlying hd,Conv.intToInt]) (kZ (.int _ _))
theorem Bz:∀ {xs:List Operand} {ys:List aC} {cs:List C},iY xs=some ys->ml env ys=some cs->aT m cs (xs.map a.eval):=by
 have _u0:=hok;intro xs
 induction xs with
 |nil=>intro ys cs h1 h2;simp[iY] at h1;subst h1;simp[ml] at h2;subst h2;exact⟨rfl,fun j x u p=>by simp at p⟩
 |cons x r ih=>
  intro ys cs h1 h2;simp only[iY] at h1;split at h1
  .rename_i y ys' e1 e2;cases h1;simp only[ml] at h2;split at h2
   .rename_i c q e3 e4;cases h2;obtain⟨hl,hrr⟩:=ih e2 e4;refine⟨by simpa using hl,fun j z u p q=>?_⟩;cases j with
    |zero=>simp at p q;subst p q;have:=aE e1 hr;rw[e3] at this;exact this
    |succ j=>simp at p q;exact hrr j z u p (by simpa using q)
   cases h2
  cases h1
theorem Oo{f:FuncId}{x y:Array Operand}{x' y':List aC}{cs ds:List C}(ho:o.op=.makeFunc (.func f) x y)(hx:iY x.toList=some x')(hy:iY y.toList=some y')
  (hc:ml env x'=some cs) (hd:ml env y'=some ds):eI P w0 a.eval o m (.one (.hfn f cs ds)) []:=by
 have h1:=Bz (hok:=hok) (hr:=hr) hx hc;have h2:=Bz (hok:=hok) (hr:=hr) hy hd;refine .calm (x:=.func (.func f) (x.map a.eval) (y.map a.eval)) hok (by simp[execOp,ho,Instr.makeFunc]) (aX.one.2 (.hfn _ _ ?_ ?_ ?_ ?_))
 .have:=h1.1;simpa using this
 .have:=h2.1;simpa using this
 .intro j z u p q;exact h1.2 j z u p (by rw[<- Array.toList_map,Array.getElem?_toList];exact q)
 intro j z u p q;exact h2.2 j z u p (by rw[<- Array.toList_map,Array.getElem?_toList];exact q)
theorem Fe{x:Operand}{i:Nat}{x':aC}{vs:List V}{v:V}(ho:o.op=.extract x i)(hx:bh x=some x')(he:ev env x'=.tup vs)(hv:vs[i]?=some v):eI P w0 a.eval o m v []:=by
 have h1:=aE hx hr;rw[he] at h1;obtain⟨arr,e,hl,hc⟩:=h1;have hlt:i<arr.size:=by rw[hl];exact(aai.1 hv).1
 exact .calm (x:=arr[i]) hok (by simp[execOp,ho,e,Instr.extract,hlt]) (.of1 (hc i v _ hv (by simp[hlt])))
theorem FT{x:V}{v:Value}{n:Nat}(h:wY x=some n)(hv:aX m x v):∃ad cap,v=.slice ad n cap/\n<=cap/\cap<=maxLen:=by
 have _u0:=hok;have _u1:=hr;unfold wY at h;split at h
 .cases h;exact⟨none,0,ut hv,aaj _,aan _⟩
 .cases h;obtain⟨hp⟩:bJ m _ v:=hv;rename_i es;generalize hpv:(PV.sl es)=pv at hp;cases hp<;>cases hpv
  .exact⟨_,_,rfl,aan _,by assumption⟩
  exact⟨_,_,rfl,by assumption,by assumption⟩
 .cases h;have hc:bJ m _ v:=hv;cases hc with
  |hsl ad cap hg hl hm h=>exact⟨_,_,rfl,hl,hm⟩
 cases h
theorem Ot{c:Call}{x:Operand}{x':aC}{t e:TypeId}{n:Nat}(ho:o.op=.call c)(hc:c.callee=.builtin .len)(has:c.args= #[x])(hat:c.argTypes[0]?=some t)(ht:P.underlying t=some (.slice e))
  (hx:bh x=some x') (hn:wY (ev env x')=some n):eI P w0 a.eval o m (.one (.p (.int .i64 n))) []:=by
 obtain⟨ad,cap,h1,_,_⟩:=FT (hok:=hok) (hr:=hr) hn (aE hx hr);refine .calm hok ?_ (kZ (.int _ _));simp[execOp,ho,resolve,hc,has,invoke,builtin,Builtin.len_,hat,h1,run_underlying ht,goInt]
theorem Oj{c:Call}{x:Operand}{x':aC}{t:TypeId}{s:ByteArray}(ho:o.op=.call c)(hc:c.callee=.builtin .len)(has:c.args= #[x])(hat:c.argTypes[0]?=some t)(ht:P.underlying t=some .string)
  (hx:bh x=some x') (hn:ev env x'=.one (.p (.str s))):eI P w0 a.eval o m (.one (.p (.int .i64 s.size))) []:=by
 have h1:=aE hx hr;rw[hn] at h1;refine .calm hok ?_ (kZ (.int _ _));simp[execOp,ho,resolve,hc,has,invoke,builtin,Builtin.len_,hat,ur h1,run_underlying ht,goInt]
theorem S5{c:Call}{x y:Operand}{x' y':aC}{k k':IntKind}{p q:Int}(ho:o.op=.call c)(hc:c.callee=.builtin .max)(has:c.args= #[x,y])
  (hx:bh x=some x') (hy:bh y=some y') (h1:ev env x'=.one (.p (.int k p))) (h2:ev env y'=.one (.p (.int k' q))):eI P w0 a.eval o m (.one (.p (.int k (if q>p then q else p)))) []:=by
 have g1:=aE hx hr;have g2:=aE hy hr;rw[h1] at g1;rw[h2] at g2;refine .calm hok ?_ (kZ (.int _ _));simp[execOp,ho,resolve,hc,has,invoke,builtin,Builtin.max_,Builtin.max2,k8 g1,k8 g2]
theorem S4{c:Call}{x y:Operand}{x' y':aC}{k k':IntKind}{p q:Int}(ho:o.op=.call c)(hc:c.callee=.builtin .min)(has:c.args= #[x,y])
  (hx:bh x=some x') (hy:bh y=some y') (h1:ev env x'=.one (.p (.int k p))) (h2:ev env y'=.one (.p (.int k' q))):eI P w0 a.eval o m (.one (.p (.int k (if q<p then q else p)))) []:=by
 have g1:=aE hx hr;have g2:=aE hy hr;rw[h1] at g1;rw[h2] at g2;refine .calm hok ?_ (kZ (.int _ _));simp[execOp,ho,resolve,hc,has,invoke,builtin,Builtin.min_,Builtin.min2,k8 g1,k8 g2]
end
end Go.Abs
namespace Go.Abs
variable {P:Program} {w0:World}
section
variable{sz:Nat}
theorem Rs:∀(u:List jS) (blk:aw) (id:Nat),(app u blk id=blk id/\ ∀e∈u,e.1≠id)\/ ∃e∈u,e.1=id/\app u blk id=e.2:=by
 intro u
 induction u with
 |nil=>intro blk id;exact .inl ⟨rfl,fun e h=>by simp at h⟩
 |cons x r ih=>
  intro blk id;obtain⟨i,o⟩:=x;simp only[app];rcases ih (fY blk i o) id with ⟨h1,h2⟩|⟨e,he,h1,h2⟩
  .by_cases hi:id=i
   .exact .inr ⟨(i,o),by simp,hi.symm,by rw[h1];simp[aa,hi]⟩
   refine .inl ⟨by rw[h1];simp[aa,hi],fun e he=>?_⟩;rcases aat.1 he with rfl|he
   .exact fun h=>hi h.symm
   exact h2 e he
  exact .inr ⟨e,by simp[he],h1,h2⟩
theorem iX{α β γ:Type}{f:α->Option (β×List Nat)}{R:α->γ->Prop}{T:β->γ->Prop}{dX:List Nat->Prop}(agX:∀a b,dX (a++b)->dX a/\dX b)
  (hf:∀a b r v,f a=some (b,r)->R a v->dX r->T b v):∀ {xs:List α} {ys:List β} {r:List Nat} {vs:List γ},collect f xs=some (ys,r)->dX r->
  (vs.length=xs.length/\ ∀(j:Nat) (x:α) (u:γ),xs[j]?=some x->vs[j]?=some u->R x u)->(vs.length=ys.length/\ ∀(j:Nat) (x:β) (u:γ),ys[j]?=some x->vs[j]?=some u->T x u):=by
 intro xs
 induction xs with
 |nil=>intro ys r vs h _ hr;simp[collect] at h;obtain⟨rfl,rfl⟩:=h;exact⟨hr.1,fun j x u a=>by simp at a⟩
 |cons x t ih=>
  intro ys r vs h hg hr;simp only[collect] at h;split at h
  .rename_i b p bs q e1 e2;cases h;obtain⟨g1,g2⟩:=agX _ _ hg;cases vs with
   |nil=>simp at hr
   |cons v us=>
    obtain⟨hl,hh⟩:=ih (vs:=us) e2 g2 ⟨by simpa using hr.1,fun j x u a b=>hr.2 (j+1) x u (by simpa using a) (by simpa using b)⟩;refine⟨by simp[hl],fun j z u a b=>?_⟩;cases j with
    |zero=>simp at a b;subst a b;exact hf _ _ _ _ e1 (hr.2 0 x v rfl rfl) g1
    |succ j=>simp at a b;exact hh j z u a b
  cases h
def fF(m:Mem)(own:Nat->Prop)(r:List Nat):Prop:=(∀b,own b->m.own b)/\ ∀id∈r,¬own (m.σ id)
theorem fF.app{m:Mem}{own:Nat->Prop}{a b:List Nat}(h:fF m own (a++b)):fF m own a/\fF m own b:=
 ⟨⟨h.1,fun id hi=>h.2 id (by simp[hi])⟩,⟨h.1,fun id hi=>h.2 id (by simp[hi])⟩⟩
theorem aZ.less{w:World}{own acS:Nat->Prop}(h:∀b,acS b->own b){x:PV}{v:Value}(hr:aZ w own x v):aZ w acS x v:=hr.mono fun c _ hn=>⟨rfl,fun ho=>hn (h c ho)⟩
theorem aR.less{w:World}{own acS:Nat->Prop}(h:∀b,acS b->own b){x:List PV}{v:List Value}(hr:aR w own x v):aR w acS x v:=⟨hr.1,fun j x u a b=>(hr.2 j x u a b).less h⟩
theorem Kh{α:Type}{xs:List α}{R:α->Value->Prop}{vs:List Value}(h:Pw R xs vs):∃f:Nat->Value,∀(j:Nat) (x:α),xs[j]?=some x->vs[j]?=some (f j)/\R x (f j):=by
 refine⟨fun j=>vs.getD j undef,fun j x hx=>?_⟩;have hlt:j<vs.length:=by rw[h.1];exact(aai.1 hx).1
 have:vs[j]?=some (vs.getD j undef):=by simp[List.getD,abZ hlt]
 exact⟨this,h.2 j x _ hx this⟩
theorem Ie{w:World}{own:Nat->Prop}{b o:Nat}{cur:Array Value}{ty:TypeId}{fz:Nat×Nat}{ps:List PV}(hh:w.heap[b]?=some (.cells cur ty fz))(hp:Pw (aZ w own) ps (cur.toList.drop o |>.take ps.length))
  (ho:ps≠[]-> ¬own b):aZ w own (.box ps) (.pointer (some ⟨b,o,none⟩)):=by
 obtain⟨f,hf⟩:=Kh hp;refine .box b o f ho (fun j x hx=>?_) fun j x hx=>(hf j x hx).2;have h1:=(hf j x hx).1;rw[aby] at h1;split at h1
 .rw[qY hh];simpa using h1
 cases h1
theorem Vu{w:World}{own:Nat->Prop}{b o cap sz:Nat}{cur:Array Value}{ty:TypeId}{fz:Nat×Nat}{es:List (List PV)}(hh:w.heap[b]?=some (.cells cur ty fz))(hsz:∀e∈es,e.length=sz)
  (hl:es.length<=cap) (hm:cap<=maxLen) (hp:Pw (aZ w own) es.flatten ((cur.toList.drop o).take (es.length*sz))) (ho:¬own b):aZ w own (.sl es) (.slice (some ⟨b,o,none⟩) es.length cap):=by
 obtain⟨f,hf⟩:=Kh hp;refine .sl b o cap sz f (fun _=>ho) hl hm hsz (fun j x hx=>?_) fun j x hx=>(hf j x hx).2;have h1:=(hf j x hx).1;rw[aby] at h1;split at h1
 .rw[qY hh];simpa using h1
 cases h1
theorem rZ{α:Type}:∀ {es:List (List α)},(∀e∈es,e.length=sz)->∀(n:Nat),(es.drop n).flatten=es.flatten.drop (n*sz):=by
 intro es
 induction es with
 |nil=>intro _ n;simp
 |cons e r ih=>
  intro h n;cases n with
  |zero=>simp
  |succ n=>simp only[List.drop_succ_cons,abt];have h1:=h e (by simp);rw[ih (fun x hx=>h x (by simp[hx])),List.drop_append,List.drop_of_length_le (by rw[h1,aa3];omega:e.length<=(n+1)*sz),aaZ];congr 1;rw[h1,aa3];omega
theorem lI{α:Type}:∀ {es:List (List α)},(∀e∈es,e.length=sz)->∀(n:Nat),(es.take n).flatten=es.flatten.take (n*sz):=by
 intro es
 induction es with
 |nil=>intro _ n;simp
 |cons e r ih=>
  intro h n;cases n with
  |zero=>simp
  |succ n=>simp only[List.take_succ_cons,abt];have h1:=h e (by simp);rw[ih (fun x hx=>h x (by simp[hx])),List.take_append,aa4 (by rw[h1,aa3];omega:e.length<=(n+1)*sz)];congr 1;congr 1;rw[h1,aa3];omega
theorem sZ{α:Type}{R:α->Value->Prop}{off len:Nat}{es:List (List α)}{cur:List Value}(hsz:∀e∈es,e.length=sz)(h:Pw R es.flatten (cur.take (es.length*sz)))(hfit:off+len<=es.length):
  Pw R ((es.drop off).take len).flatten ((cur.drop (off*sz)).take (((es.drop off).take len).length*sz)):=by
 have agA:∀e∈es.drop off,e.length=sz:=fun e he=>hsz e (acd he);have hlen:((es.drop off).take len).length=len:=by simp;omega
 rw[hlen,lI agA,rZ hsz];have h1:=(h.drop (off*sz)).take (len*sz);have h2:((cur.take (es.length*sz)).drop (off*sz)).take (len*sz)=(cur.drop (off*sz)).take (len*sz):=by
  rw[List.drop_take,List.take_take];congr 1;have:off*sz+len*sz<=es.length*sz:=by rw[<- aa3];exact abz _ hfit
  omega
 rw[h2] at h1;exact h1
theorem Ds{α:Type}{R:α->Value->Prop}:∀ {ps:List (List α)} {cur:List Value},(∀e∈ps,e.length=sz)->ps.length*sz<=cur.length->
  (∀(j:Nat) (e:List α),ps[j]?=some e->Pw R e ((cur.drop (j*sz)).take sz))->Pw R ps.flatten (cur.take (ps.length*sz)):=by
 intro ps
 induction ps with
 |nil=>intro cur _ _ _;exact⟨by simp,fun j x u a=>by simp at a⟩
 |cons e r ih=>
  intro cur h hl hp;simp only[aaz,aa3,Nat.one_mul] at hl;have h0:=hp 0 e rfl;rw[act,List.drop_zero] at h0;have h1:=ih (cur:=cur.drop sz) (fun x hx=>h x (by simp[hx])) (by simp;omega) fun j x hx=>by have:=hp (j+1) x (by simpa using hx);rw[aa3,Nat.one_mul] at this;rw[List.drop_drop,Nat.add_comm sz];exact this
  have h2:=h0.append h1;have h3:cur.take sz++(cur.drop sz).take (r.length*sz)=cur.take ((e::r).length*sz):=by rw[aaz,aa3,Nat.one_mul,Nat.add_comm,List.take_add]
  rw[h3] at h2;exact h2
theorem zn{α:Type}{R:α->Value->Prop}{i:Nat}{es:List (List α)}{e:List α}{cur:List Value}(hsz:∀e∈es,e.length=sz)(h:Pw R es.flatten (cur.take (es.length*sz)))(he:es[i]?=some e):
  Pw R e ((cur.drop (i*sz)).take sz):=by
 have hi:i<es.length:=(aai.1 he).1;have h1:=sZ (off:=i) (len:=1) hsz h (by omega);have h0:((es.drop i).take 1)=[e]:=by rw[List.drop_eq_getElem_cons hi];have:=(aai.1 he).2;simp[this]
 rw[h0] at h1
 simpa using h1
theorem qX{α β:Type}{f:α->Option (β×List Nat)}:∀ {xs:List α} {ys:List β} {r:List Nat},collect f xs=some (ys,r)->ys.length=xs.length:=by
 intro xs
 induction xs with
 |nil=>intro ys r h;simp[collect] at h;rw[h.1];rfl
 |cons x t ih=>
  intro ys r h;simp only[collect] at h;split at h
  .rename_i b p bs q e1 e2;cases h;simp[ih e2]
  cases h
theorem tA{α β:Type}{f:α->Option (β×List Nat)}:∀ {xs:List α} {ys:List β} {r:List Nat},collect f xs=some (ys,r)->∀ {j:Nat} {y:β},ys[j]?=some y->∃x q,xs[j]?=some x/\f x=some (y,q)/\ ∀i∈q,i∈r:=by
 intro xs
 induction xs with
 |nil=>intro ys r h j y hy;simp[collect] at h;rw[h.1] at hy;simp at hy
 |cons x t ih=>
  intro ys r h j y hy;simp only[collect] at h;split at h
  .rename_i b p bs q e1 e2;cases h;cases j with
   |zero=>simp at hy;subst hy;exact⟨x,p,rfl,e1,fun i hi=>by simp[hi]⟩
   |succ j=>simp at hy;obtain⟨x',q',h1,h2,h3⟩:=ih e2 hy;exact⟨x',q',by simpa using h1,h2,fun i hi=>by simp[h3 i hi]⟩
  cases h
theorem ng{m:Mem}(hok:Ok w0 m){own:Nat->Prop}:∀(n:Nat) {c:C} {x:PV} {r:List Nat} {v:Value},snap m.blk n c=some (x,r)->bJ m c v->fF m own r->aZ m.w own x v:=by
 intro n
 induction n with
 |zero=>intro c x r v h;simp[snap] at h
 |succ n ih=>
  intro c x r v h hr hs;have afq:∀ {cs:List C} {ps:List PV} {q:List Nat} {vs:List Value},collect (snap m.blk n) cs=some (ps,q)->fF m own q->Pw (bJ m) cs vs->Pw (aZ m.w own) ps vs:=fun h1 h2 h3=>iX (R:=bJ m) (T:=aZ m.w own) (dX:=fF m own) (fun a b h=>h.app) (fun a b r v e1 e2 e3=>ih e1 e2 e3) h1 h2 h3
  have afi:∀ {ps:List PV} {vs:List Value},aR m.w m.own ps vs->Pw (aZ m.w own) ps vs:=fun h=>aR.pw.1 (h.less hs.1);unfold snap at h;cases c with
  |p y=>simp at h;obtain⟨rfl,rfl⟩:=h;obtain⟨hp⟩:=hr;exact hp.norm.less hs.1
  |aam id g off=>
   cases hr with
   |aam a hg ha=>
    simp only at h;split at h
    .rename_i g' cs hb;split at h
     .rename_i hgg;split at h
      .rename_i ps q hq;cases h;have hb2:(m.blk id).2=some (.var cs):=by rw[hb]
       have ha:=ha (by rw[hb];exact hgg) (by rw[hb2];rfl);subst ha;obtain⟨cur,ty,hh,hc⟩:=hok.obj id _ hb2;have hp:=afq hq ⟨hs.1,fun i hi=>hs.2 i (by simp[hi])⟩ (aT.pw.1 hc);refine Ie hh ?_ fun _=>hs.2 id (by simp);have h1:=hp.drop off;have h2:(cur.toList.drop off).take (ps.drop off).length=cur.toList.drop off:=aa4 (by have:=h1.1;omega);rw[h2];exact h1
      cases h
     cases h
    .rename_i g' ps hb;split at h
     .rename_i hgg;cases h;have hb2:(m.blk id).2=some (.fvar ps):=by rw[hb]
      have ha:=ha (by rw[hb];exact hgg) (by rw[hb2];rfl);subst ha;obtain⟨cur,ty,fz,hh,hc,_⟩:=hok.obj id _ hb2;refine Ie hh ?_ fun _=>hs.2 id (by simp);have h1:=(afi hc).drop off;have h2:(cur.toList.drop off).take (ps.drop off).length=cur.toList.drop off:=aa4 (by have:=h1.1;omega);rw[h2];exact h1
     cases h
    cases h
  |hel id g i off=>
   cases hr with
   |hel a hg ha=>
    have key:∀(ty sz:Nat) (es:List (List PV)) (e:List PV) (cur:Array Value) (fz:Nat×Nat),m.w.heap[m.σ id]?=some (.cells cur ty fz)->(∀e∈es,e.length=sz)->es.length*sz<=cur.size->
      aR m.w m.own es.flatten (cur.toList.take (es.length*sz))->es[i]?=some e->a=⟨m.σ id,i*sz+off,none⟩-> ¬own (m.σ id)->aZ m.w own (.box (e.drop off)) (.pointer (some a)):=by
     intro ty sz es e cur fz hh hsz hlen hps he haa hno;subst haa;have hel:=fB hsz he;have hi:i<es.length:=(aai.1 he).1;have hil:(i+1)*sz<=es.length*sz:=abz _ hi;have h1:=(sZ (off:=i) (len:=1) hsz (afi hps) (by omega)).drop off;have h0:((es.drop i).take 1)=[e]:=by rw[List.drop_eq_getElem_cons hi];have:=(aai.1 he).2;simp[this]
     rw[h0] at h1;simp only[abt,ade,abo,aaz,aaL,abd,Nat.one_mul] at h1;refine Ie hh ?_ fun _=>hno;have h2:(cur.toList.drop (i*sz+off)).take (e.drop off).length=(((cur.toList.drop (i*sz)).take sz).drop off):=by rw[List.drop_take,List.drop_drop,abk,hel]
     rw[h2];exact h1
    simp only at h;split at h
    .rename_i g' ty sz es hb;split at h
     .rename_i hgg;simp only[aaD,abe] at h;obtain⟨e,he,rfl,rfl⟩:=h;have hb2:(m.blk id).2=some (.arr ty sz es):=by rw[hb]
      obtain⟨cur,hh,hs0,hsz,hl,hm,hcs,hps⟩:=hok.obj id _ hb2;exact key ty sz es e cur _ hh hsz (by rw[hcs];exact abz _ hl) hps he (ha sz (by rw[hb];exact hgg) (by rw[hb];rfl)) (hs.2 id (by simp))
     cases h
    .rename_i g' ty sz es hb;split at h
     .rename_i hgg;simp only[aaD,abe] at h;obtain⟨e,he,rfl,rfl⟩:=h;have hb2:(m.blk id).2=some (.abl ty sz es):=by rw[hb]
      obtain⟨cur,fz,hh,hs0,hsz,hl,hm,hcs,hps,_⟩:=hok.obj id _ hb2;exact key ty sz es e cur _ hh hsz (by rw[hcs];exact abz _ hl) hps he (ha sz (by rw[hb];exact hgg) (by rw[hb];rfl)) (hs.2 id (by simp))
     cases h
    cases h
  |hsl id g z off len=>
   cases hr with
   |hsl a cap hg hl hm ha=>
    have key:∀(ty sz:Nat) (es:List (List PV)) (cur:Array Value) (fz:Nat×Nat),m.w.heap[m.σ id]?=some (.cells cur ty fz)->(∀e∈es,e.length=sz)->Pw (aZ m.w own) es.flatten (cur.toList.take (es.length*sz))->
      off+len<=es.length->(off=0\/0<len->a=⟨m.σ id,off*sz,none⟩)-> ¬own (m.σ id)->aZ m.w own (.sl ((es.drop off).take len)) (.slice (some a) len cap):=by
     intro ty sz es cur fz hh hsz hps hfit haa hno;by_cases hlen:len=0
     .subst hlen;simp only[List.take_zero];exact .sl0 _ _ (fun h=>by cases h) hm
     have:=haa (.inr (by omega));subst this;have hle:((es.drop off).take len).length=len:=by simp;omega
     have h1:=Vu (cap:=cap) (own:=own) (o:=off*sz) (es:=(es.drop off).take len) hh (sz:=sz) (fun e he=>hsz e (acd (acf he))) (by omega) hm (sZ hsz hps hfit) hno;rw[hle] at h1;exact h1
    simp only at h;split at h
    .rename_i g' ty sz es hb;split at h
     .rename_i hc;cases h;have hb2:(m.blk id).2=some (.arr ty sz es):=by rw[hb]
      obtain⟨cur,hh,hs0,hsz,hl',hm',hcs,hps⟩:=hok.obj id _ hb2;exact key ty sz es cur _ hh hsz (afi hps) hc.2 (by obtain⟨_,h2,_⟩:=ha sz (by rw[hb];exact hc.1) (by rw[hb];rfl);rename_i e1 _;exact e1▸h2) (hs.2 id (by simp))
     cases h
    .rename_i g' ty sz es hb;split at h
     .rename_i hc;cases h;have hb2:(m.blk id).2=some (.abl ty sz es):=by rw[hb]
      obtain⟨cur,fz,hh,hs0,hsz,hl',hm',hcs,hps,_⟩:=hok.obj id _ hb2;exact key ty sz es cur _ hh hsz (afi hps) hc.2 (by obtain⟨_,h2,_⟩:=ha sz (by rw[hb];exact hc.1) (by rw[hb];rfl);exact h2) (hs.2 id (by simp))
     cases h
    .rename_i g' ty sz es hb;split at h
     .rename_i hc;split at h
      .rename_i ps q hq;cases h;have hb2:(m.blk id).2=some (.aaJ ty sz es):=by rw[hb]
       obtain⟨cur,hh,hs0,hsz,hl',hm',hcs,hps⟩:=hok.obj id _ hb2;have akB:=sZ hsz (aT.pw.1 hps) hc.2;have agA:∀e∈(es.drop off).take len,e.length=sz:=fun e he=>hsz e (acd (acf he));have hle:((es.drop off).take len).length=len:=by simp;omega
       have hpl:ps.length=len:=by rw[qX hq,hle]
       have aa1:len*sz<=(cur.toList.drop (off*sz)).length:=by
        simp;have h1:off*sz+len*sz<=es.length*sz:=by rw[<- aa3];exact abz _ hc.2
        have h2:es.length*sz<=m.κ id*sz:=abz _ hl';omega
       have hpe:∀(j:Nat) (e:List PV),ps[j]?=some e->Pw (aZ m.w own) e (((cur.toList.drop (off*sz)).drop (j*sz)).take sz):=by intro j e he;obtain⟨x,q',h1,h2,h3⟩:=tA hq he;exact afq h2 ⟨hs.1,fun i hi=>hs.2 i (by simp[h3 i hi])⟩ (zn agA akB h1)
       have ad7:∀e∈ps,e.length=sz:=by
        intro e he;obtain⟨j,hj⟩:=abb he;have:=(hpe j e hj).1;have hjl:j<len:=by rw[<- hpl];exact(aai.1 hj).1
        have h1:(j+1)*sz<=len*sz:=abz _ hjl;rw[aa3] at h1;simp at this aa1;omega
       by_cases hlen:len=0
       .have:ps=[]:=List.eq_nil_of_length_eq_zero (by omega);subst this;subst hlen;exact .sl0 _ _ (fun h=>by cases h) hm
       obtain⟨_,h2,_⟩:=ha sz (by rw[hb];exact hc.1) (by rw[hb];rfl);rename_i e1 _;have haa:=h2 (.inr (by omega));subst haa;have acq:=Vu (cap:=cap) (own:=own) (o:=off*sz) hh ad7 (by omega) hm (Ds ad7 (by rw[hpl];exact aa1) hpe) (hs.2 id (by simp));rw[hpl] at acq;exact acq
      cases h
     cases h
    cases h
  |aaT id g=>
   cases hr with
   |aaT r' hg ha=>
    have key:∀(ag:Bool) (es:List (PV×List PV)) (ents:Array MapEntry) (clock:Nat),m.w.heap[m.σ id]?=some (.map ents clock)->ents.size=es.length->
      (∀(i:Nat) (q:PV) (v:List PV) (e:MapEntry),es[i]?=some (q,v)->ents[i]?=some e->aZ m.w m.own q e.key/\ ∃g:Array Value,(ag=true->e.val=.agg g)/\(ag=false-> #[e.val]=g)/\aR m.w m.own v g.toList)->
      ¬own (m.σ id)->aZ m.w own (.mp ag es) (.map (some (m.σ id))):=by
     intro ag es ents clock hh hl hc hno;have hch:∃G:Nat->Array Value,∀(i:Nat) (q:PV) (v:List PV) (e:MapEntry),es[i]?=some (q,v)->ents[i]?=some e->(ag=true->e.val=.agg (G i))/\(ag=false-> #[e.val]=G i)/\aR m.w m.own v (G i).toList:=by
      refine⟨fun i=>match ents[i]? with|some e=>(match e.val with| .agg g=>if ag then g else #[e.val]|v=> #[v])|none=> #[],fun i q v e h1 h2=>?_⟩;obtain⟨_,g,g1,g2,g3⟩:=hc i q v e h1 h2;simp only[h2];cases ag with
      |true=>have:=g1 rfl;simp[this];exact g3
      |false=>
       have:=g2 rfl;subst this;refine⟨(fun h=>by cases h),(fun _=>?_),?_⟩
       .cases e.val<;>rfl
       cases hv:e.val<;>simp only[hv] at g3<;>exact g3
     obtain⟨G,hG⟩:=hch;refine .mp (m.σ id) ents clock G hno hh hl (fun i q v e h1 h2=>((hc i q v e h1 h2).1).less hs.1) (fun i q v e h1 h2=>?_) fun i q v j x u h1 h2 h3=>?_
     .obtain⟨a1,a2,a3⟩:=hG i q v e h1 h2;exact⟨by have:=a3.1;simpa using this,a1,a2⟩
     have hlt:i<ents.size:=by rw[hl];exact(aai.1 h1).1
     obtain⟨a1,a2,a3⟩:=hG i q v _ h1 (Array.getElem?_eq_getElem hlt);exact(a3.2 j x u h2 (by rw[Array.getElem?_toList];exact h3)).less hs.1
    simp only at h;split at h
    .rename_i g' ag es hb;split at h
     .rename_i hgg;cases h;have hb2:(m.blk id).2=some (.map ag es):=by rw[hb]
      have ha:=ha (by rw[hb];exact hgg) (by rw[hb2];rfl);subst ha;obtain⟨ents,clock,hh,hl,hc⟩:=hok.obj id _ hb2;exact key ag es ents clock hh hl hc (hs.2 id (by simp))
     cases h
    .rename_i g' ag es hb;split at h
     .rename_i hgg;cases h;have hb2:(m.blk id).2=some (.fmap ag es):=by rw[hb]
      have ha:=ha (by rw[hb];exact hgg) (by rw[hb2];rfl);subst ha;obtain⟨ents,clock,hh,hl,hc,_⟩:=hok.obj id _ hb2;exact key ag es ents clock hh hl hc (hs.2 id (by simp))
     cases h
    cases h
  |hfn f a b=>
   cases hr with
   |hfn A B hA hB hra hrb=>
    simp only at h;split at h
    .rename_i xa ra xb rb h1 h2;cases h;obtain⟨s1,s2⟩:=hs.app;have p1:=afq (vs:=A.toList) h1 s1 ⟨by simpa using hA,fun j x u p q=>hra j x u p (by rw[<- Array.getElem?_toList];exact q)⟩;have p2:=afq (vs:=B.toList) h2 s2 ⟨by simpa using hB,fun j x u p q=>hrb j x u p (by rw[<- Array.getElem?_toList];exact q)⟩;exact .fn A B (by have:=p1.1;simpa using this) (by have:=p2.1;simpa using this) (fun j x u p q=>p1.2 j x u p (by rw[Array.getElem?_toList];exact q)) fun j x u p q=>p2.2 j x u p (by rw[Array.getElem?_toList];exact q)
    cases h
end
end Go.Abs
namespace Go.Abs
variable {P:Program} {w0:World}
theorem MR{blk:aw}{all:List Nat}:∀ {l:List Nat} {u:List jS},tn blk all l=some u->
  (∀e∈u,e.1∈l/\ ∃x,A0 blk all e.1=some x/\e∈x)/\ ∀id∈l,∃x,A0 blk all id=some x/\ ∀e∈x,e∈u:=by
 intro l
 induction l with
 |nil=>intro u h;simp[tn] at h;subst h;exact⟨fun e h=>by simp at h,fun id h=>by simp at h⟩
 |cons i r ih=>
  intro u h;simp only[tn] at h;split at h
  .rename_i a b h1 h2;cases h;obtain⟨g1,g2⟩:=ih h2;have anJ:∀e∈a,e.1=i:=by
    intro e he;unfold A0 at h1;split at h1<;>first
     |(cases h1;simp at he;subst he;rfl)
     |(split at h1
       .split at h1
        .cases h1;simp at he;subst he;rfl
        cases h1
       cases h1)
     |(cases h1;simp at he)
     |cases h1
   refine⟨fun e he=>?_,fun id hid=>?_⟩
   .rcases aaR.1 he with he|he
    .exact⟨by simp[anJ e he],a,by rw[anJ e he];exact h1,he⟩
    obtain⟨k1,k2⟩:=g1 e he;exact⟨by simp[k1],k2⟩
   rcases aat.1 hid with rfl|hid
   .exact⟨a,h1,fun e he=>by simp[he]⟩
   obtain⟨x,k1,k2⟩:=g2 id hid;exact⟨x,k1,fun e he=>by simp[k2 e he]⟩
  cases h
def CN(blk:aw)(all:List Nat):Ob->Ob->Prop
 | .var cs,.fvar ps=>∃r,collect (snap blk cG) cs=some (ps,r)/\ ∀i∈r,i∈all
 | .arr ty sz es,.abl ty' sz' es'=>ty'=ty/\sz'=sz/\es'=es
 | .aaJ ty sz es,.abl ty' sz' ps=>ty'=ty/\sz'=sz/\ ∃r,collect (collect (snap blk cG)) es=some (ps,r)/\ ∀i∈r,i∈all
 | .map ag es,.fmap ag' es'=>ag'=ag/\es'=es
 |_,_=>False
theorem CN.facts{blk:aw}{all:List Nat}{o o':Ob}(h:CN blk all o o')(g:Nat):o.eE=true/\o'.eE=false/\je (g,some o')=je (g,some o):=by
 cases o<;>cases o'<;>simp only[CN] at h<;>first
  |exact h.elim
  |exact⟨rfl,rfl,rfl⟩
  |exact⟨rfl,rfl,by simp[je,h.2.1]⟩
theorem Ch{blk:aw}{all:List Nat}{id:Nat}{x:List jS}(h:A0 blk all id=some x):
  (∃o,(blk id).2=some o/\o.eE=false/\x=[])\/ ∃o o',(blk id).2=some o/\CN blk all o o'/\x=[(id,((blk id).1,some o'))]:=by
 unfold A0 at h;split at h
 .rename_i g cs hb;split at h
  .rename_i ps r hc;split at h
   .rename_i aas;cases h;refine .inr ⟨.var cs,.fvar ps,by rw[hb],⟨r,hc,fun i hi=>?_⟩,by rw[hb]⟩;have:=aba.1 aas i hi
    simpa using this
   cases h
  cases h
 .rename_i g ty sz es hb;cases h;exact .inr ⟨.arr ty sz es,.abl ty sz es,by rw[hb],⟨rfl,rfl,rfl⟩,by rw[hb]⟩
 .rename_i g ty sz es hb;split at h
  .rename_i ps r hc;split at h
   .rename_i aas;cases h;refine .inr ⟨.aaJ ty sz es,.abl ty sz ps,by rw[hb],⟨rfl,rfl,r,hc,fun i hi=>?_⟩,by rw[hb]⟩;have:=aba.1 aas i hi
    simpa using this
   cases h
  cases h
 .rename_i g ag es hb;cases h;exact .inr ⟨.map ag es,.fmap ag es,by rw[hb],⟨rfl,rfl⟩,by rw[hb]⟩
 .cases h
 rename_i y n1 n2 n3 n4 n5;cases h;cases hb:blk id with
 |mk g o=>
  cases o with
  |none=>exact(n5 g hb).elim
  |some o=>
   refine .inl ⟨o,rfl,?_,rfl⟩;cases o with
   |var cs=>exact(n1 g cs hb).elim
   |arr ty sz es=>exact(n2 g ty sz es hb).elim
   |aaJ ty sz es=>exact(n3 g ty sz es hb).elim
   |map ag es=>exact(n4 g ag es hb).elim
   |_=>rfl
def Mem.with(m:Mem)(u:List jS):Mem:={m with blk:=app u m.blk}
theorem kG{m:Mem}{ids:List Nat}{u:List jS}(h:Gb m.blk ids=some u)(id:Nat):
  ((m.with u).blk id=m.blk id/\(id∈ids->∃o,(m.blk id).2=some o/\o.eE=false))\/
  (id∈ids/\ ∃o o',(m.blk id).2=some o/\CN m.blk ids o o'/\(m.with u).blk id=((m.blk id).1,some o')):=by
 obtain⟨h1,h2⟩:=MR h;rcases Rs u m.blk id with ⟨e1,e2⟩|⟨e,he,e1,e2⟩
 .refine .inl ⟨e1,fun hid=>?_⟩;obtain⟨x,hx,hxu⟩:=h2 id hid;rcases Ch hx with ⟨o,a,b,_⟩|⟨o,o',a,b,c⟩
  .exact⟨o,a,b⟩
  exact(e2 (id,(m.blk id).fst,some o') (hxu _ (by rw[c];simp)) rfl).elim
 obtain⟨k1,x,k2,k3⟩:=h1 e he;rw[e1] at k1 k2;rcases Ch k2 with ⟨o,a,b,c⟩|⟨o,o',a,b,c⟩
 .rw[c] at k3;simp at k3
 rw[c] at k3;simp at k3;refine .inr ⟨k1,o,o',a,b,?_⟩;simp only[Mem.with];rw[e2,k3]
theorem DT{m:Mem}{ids:List Nat}{u:List jS}(h:Gb m.blk ids=some u){c:Nat}(hc:(m.with u).own c):m.own c:=by
 rcases hc with hc|⟨id,o,h1,h2,h3⟩
 .exact .inl hc
 rcases kG h id with ⟨e,_⟩|⟨_,p,q,a,b,e⟩
 .rw[e] at h1;exact .inr ⟨id,o,h1,h2,h3⟩
 rw[e] at h1;cases h1;rw[(b.facts 0).2.1] at h2;cases h2
theorem tm{m:Mem}(hok:Ok w0 m){ids:List Nat}{u:List jS}(h:Gb m.blk ids=some u):fF m (m.with u).own ids:=by
 refine⟨fun b hb=>DT h hb,fun id hid hc=>?_⟩;rcases kG h id with ⟨e,hn⟩|⟨_,o,o',a,b,e⟩
 .obtain⟨o,ho,hm⟩:=hn hid;exact(hok.obj id o ho).calm hm (DT h hc)
 rcases hc with hc|⟨id',q,h1,h2,h3⟩
 .exact(hok.aaw id o a (b.facts 0).1).2 hc
 by_cases hi:id'=id
 .subst hi;rw[e] at h1;cases h1;rw[(b.facts 0).2.1] at h2;cases h2
 rcases kG h id' with ⟨e',_⟩|⟨_,p',q',a',b',e'⟩
 .rw[e'] at h1;exact hi (hok.inj id' id q o h1 h2 a (b.facts 0).1 h3)
 rw[e'] at h1;cases h1;rw[(b'.facts 0).2.1] at h2;cases h2
theorem IH{m:Mem}{ids:List Nat}{u:List jS}(h:Gb m.blk ids=some u):Ev m (m.with u) where
 os:=rfl
 tape:=rfl
 output:=rfl
 size:=aaj _
 keep _ _ _:=rfl
 eE c _ hc:=by
  obtain⟨id,o,h1,h2,h3⟩:=hc;rcases kG h id with ⟨e,_⟩|⟨_,p,q,a,b,e⟩
  .rw[e] at h1;exact⟨id,o,h1,h2,h3⟩
  rw[e] at h1;cases h1;rw[(b.facts 0).2.1] at h2;cases h2
 less c _ hn hc:=hn (DT h hc)
 gen id:=by rcases kG h id with ⟨e,_⟩|⟨_,p,q,a,b,e⟩<;>rw[e]<;>exact aaj _
 ref id he hs:=by
  rcases kG h id with ⟨e,_⟩|⟨_,p,q,a,b,e⟩
  .rw[e] at hs ⊢;exact⟨hs,rfl,rfl,rfl⟩
  rw[e] at hs ⊢;refine⟨by rw[a];rfl,rfl,rfl,?_⟩;have h1:m.blk id=((m.blk id).1,some p):=by rw[<- a]
  rw[(b.facts (m.blk id).1).2.2,<- h1]
theorem Qx{m:Mem}(hok:Ok w0 m){ids:List Nat}{u:List jS}(h:Gb m.blk ids=some u):Ok w0 (m.with u) where
 os:=hok.os
 tape:=hok.tape
 output:=hok.output
 size:=hok.size
 base:=hok.base
 obj id o ho:=by
  have hev:=IH h;have hsp:=tm hok h;rcases kG h id with ⟨e,_⟩|⟨hid,p,q,a,b,e⟩
  .rw[e] at ho;exact(hok.obj id o ho).ev hev.zero rfl rfl rfl
  rw[e] at ho;cases ho;have hno:=hsp.2 id hid;have aiS:∀r:List Nat,(∀i∈r,i∈ids)->fF m (m.with u).own r:=fun r hr=>⟨hsp.1,fun i hi=>hsp.2 i (hr i hi)⟩;have afc:=hok.obj id p a;cases p<;>cases o<;>simp only[CN] at b<;>first
   |exact b.elim
   |skip
  .obtain⟨r,hc,hr⟩:=b;obtain⟨cur,ty,hh,hcs⟩:=afc;exact⟨cur,ty,(0,0),hh,aR.pw.2 (iX (R:=bJ m) (T:=aZ m.w (m.with u).own) (dX:=fF m (m.with u).own) (fun a b h=>h.app) (fun a b r v e1 e2 e3=>ng hok _ e1 e2 e3) hc (aiS r hr) (aT.pw.1 hcs)),hno⟩
  .obtain⟨rfl,rfl,rfl⟩:=b;obtain⟨cur,hh,hs0,hsz,hl,hm,hcs,hps⟩:=afc;exact⟨cur,(0,0),hh,hs0,hsz,hl,hm,hcs,hps.less hsp.1,hno⟩
  .obtain⟨rfl,rfl,r,hc,hr⟩:=b;obtain⟨cur,hh,hs0,hsz,hl,hm,hcs,hps⟩:=afc;rename_i es _ sz ps;have hpl:ps.length=es.length:=qX hc;have aa1:ps.length*sz<=cur.toList.length:=by
    have h2:es.length*sz<=m.κ id*sz:=abz _ hl;simp;rw[hpl];omega
   have hpe:∀(j:Nat) (e:List PV),ps[j]?=some e->Pw (aZ m.w (m.with u).own) e ((cur.toList.drop (j*sz)).take sz):=by intro j e he;obtain⟨x,q',h1,h2,h3⟩:=tA hc he;exact iX (R:=bJ m) (T:=aZ m.w (m.with u).own) (dX:=fF m (m.with u).own) (fun a b h=>h.app) (fun a b r v e1 e2 e3=>ng hok _ e1 e2 e3) h2 (aiS q' fun i hi=>hr i (h3 i hi)) (zn hsz (aT.pw.1 hps) h1)
   have ad7:∀e∈ps,e.length=sz:=by intro e he;obtain⟨j,hj⟩:=abb he;have:=(hpe j e hj).1;have hjl:j<ps.length:=(aai.1 hj).1;have h1:(j+1)*sz<=ps.length*sz:=abz _ hjl;rw[aa3] at h1;simp at this aa1;omega
   exact⟨cur,(0,0),hh,hs0,ad7,by rw[hpl];exact hl,hm,hcs,aR.pw.2 (Ds ad7 aa1 hpe),hno⟩
  obtain⟨rfl,rfl⟩:=b;obtain⟨ents,clock,hh,hl,hc⟩:=afc;exact⟨ents,clock,hh,hl,fun i q v e h1 h2=>let ⟨p,g,g1,g2,g3⟩:=hc i q v e h1 h2;⟨p.less hsp.1,g,g1,g2,g3.less hsp.1⟩,hno⟩
 aaw id o ho hm:=by
  rcases kG h id with ⟨e,_⟩|⟨_,p,q,a,b,e⟩
  .rw[e] at ho;exact hok.aaw id o ho hm
  rw[e] at ho;cases ho;rw[(b.facts 0).2.1] at hm;cases hm
 frlt:=hok.frlt
 inj id id' o o' h1 m1 h2 m2 he:=by
  rcases kG h id with ⟨e,_⟩|⟨_,p,q,a,b,e⟩
  .rcases kG h id' with ⟨e',_⟩|⟨_,p',q',a',b',e'⟩
   .rw[e] at h1;rw[e'] at h2;exact hok.inj id id' o o' h1 m1 h2 m2 he
   rw[e'] at h2;cases h2;rw[(b'.facts 0).2.1] at m2;cases m2
  rw[e] at h1;cases h1;rw[(b.facts 0).2.1] at m1;cases m1
end Go.Abs
namespace Go.Abs
variable {P:Program} {w0:World}
section
variable{w':World}
def Mem.dB(m:Mem)(w':World)(s c k:Nat)(o:Ob):Mem:=(m.later w' (· =c)).install s c k o
section
variable {m:Mem} {w':World} {s c k:Nat} {o:Ob} (hg:eU m.w w') (hc1:m.w.heap.size<=c) (hc2:c<w'.heap.size)
theorem lG(hok:Ok w0 m)(hc1:m.w.heap.size<=c):(m.dB w' s c k o).fr=m.fr:=by
 funext x;simp only[Mem.dB,Mem.install,Mem.later];apply propext;constructor
 .rintro ⟨h|h,h2⟩
  .exact h
  exact(h2 h).elim
 intro h;exact⟨.inl h,fun e=>by have:=hok.frlt x h;omega⟩
include hg hc1
theorem lH:Ev m (m.dB w' s c k o):=oO (qK hg fun x hx=>by subst hx;exact hc1) (.inr rfl) (.inl hc1)
include hc2
theorem lE(hok:Ok w0 m)(ho:sE (m.dB w' s c k o) s o):Ok w0 (m.dB w' s c k o):=oN (uj hok hg fun x hx=>by subst hx;exact⟨hc1,hc2⟩) (.inr rfl) (abm hok.size hc1) ho
end
theorem j9{m:Mem}{s c k:Nat}{o:Ob}:(m.dB w' s c k o).σ s=c:=by simp[Mem.dB,Mem.install,aa]
theorem dz{m:Mem}{s c k:Nat}{o:Ob}:(m.dB w' s c k o).κ s=k:=by simp[Mem.dB,Mem.install,aa]
theorem tq{m:Mem}{s c k:Nat}{o:Ob}:(m.dB w' s c k o).blk=app [(s,((m.blk s).1+1,some o))] m.blk:=rfl
theorem zi{m:Mem}{s c k:Nat}{o:Ob}:(m.dB w' s c k o).w=w':=rfl
theorem lW{m:Mem}{s c cap ty sz:Nat}{es:List (List PV)}{n:Nat}(hn:n<=cap)(hm:cap<=maxLen):
  aX (m.dB w' s c cap (.arr ty sz es)) (.one (.hsl s ((m.blk s).1+1) sz 0 n)) (.slice (some ⟨c,0,none⟩) n cap):=by
 refine aX.one.2 (.hsl _ _ ?_ hn hm fun z h1 h2=>?_)
 .simp[Mem.dB,Mem.install,Mem.later,aa]
 have:je ((m.dB w' s c cap (.arr ty sz es)).blk s)=some sz:=by simp[Mem.dB,Mem.install,aa,je]
 rw[this] at h2;cases h2;refine⟨rfl,fun _=>?_,fun _=>dz.symm⟩;rw[j9,act]
theorem Gd{m:Mem}{s c cap ty sz:Nat}{es:List (List C)}{n:Nat}(hn:n<=cap)(hm:cap<=maxLen):
  aX (m.dB w' s c cap (.aaJ ty sz es)) (.one (.hsl s ((m.blk s).1+1) sz 0 n)) (.slice (some ⟨c,0,none⟩) n cap):=by
 refine aX.one.2 (.hsl _ _ ?_ hn hm fun z h1 h2=>?_)
 .simp[Mem.dB,Mem.install,Mem.later,aa]
 have:je ((m.dB w' s c cap (.aaJ ty sz es)).blk s)=some sz:=by simp[Mem.dB,Mem.install,aa,je]
 rw[this] at h2;cases h2;refine⟨rfl,fun _=>?_,fun _=>dz.symm⟩;rw[j9,act]
theorem r7{t e:TypeId}{sz bytes:Nat}{z:List PV}(h:sQ P t=some (e,sz,bytes,z)):
  ∃i v,P.underlying t=some (.slice e)/\P.info? e=some i/\i.size=sz/\i.bytes=bytes/\(0<sz/\0<bytes)/\i.zero=some v/\v.cells.size=sz/\z.length=sz/\ ∀w own,aR w own z v.cells.toList:=by
 unfold sQ at h;split at h
 .rename_i e' ht;split at h
  .rename_i i z' hi hz;split at h
   .rename_i aaP;cases h;obtain⟨v,i',h1,h2,h3,h4,h5⟩:=m7 hz;rw[hi] at h1;cases h1;exact⟨i,v,ht,hi,rfl,rfl,aaP,h2,h3,h4,h5⟩
   cases h
  cases h
 cases h
theorem DG{R:PV->Value->Prop}{z:List PV}{v:Array Value}{sz n:Nat}(hz:Pw R z v.toList)(hsz:v.size=sz)(aaP:0<sz):
  Pw R (List.replicate n z).flatten ((madeCells v (n*sz)).toList.take (n*sz)):=by
 have hzl:z.length=sz:=by have:=hz.1;simp at this;omega
 have aas:∀e∈List.replicate n z,e.length=sz:=fun e he=>by rw[adT he];exact hzl
 have hlen:(madeCells v (n*sz)).toList.length=n*sz:=by simp[size_madeCells]
 rw[aa4 (by omega)];refine⟨by rw[hlen,nE aas];simp,fun j x u p q=>?_⟩;have hj:j<n*sz:=by have:=(aai.1 q).1;omega
 have hdiv:j/sz<n:=by rw[Nat.div_lt_iff_lt_mul aaP];exact hj
 have ai1:j%sz<sz:=aaN _ aaP;have he:(List.replicate n z)[j/sz]?=some z:=by simp[hdiv]
 have h1:=oU aas he ai1;rw[show j/sz*sz+j%sz=j by rw[Nat.mul_comm];exact Nat.div_add_mod j sz] at h1;rw[h1] at p;have h2:(madeCells v (n*sz)).toList[j]?=some v[j%sz]! :=by unfold madeCells;simp[hj,hsz]
 rw[h2] at q;cases q;refine hz.2 (j%sz) x _ p ?_;have:j%sz<v.size:=by omega
 simp[this]
section
variable {m:Mem} {env:Env} {a:Act} {o:Oper} (hok:Ok w0 m) (hr:gL m env a.tmps)
include hok hr
theorem Fd{t e:TypeId}{l c:Operand}{l' c':aC}{s sz bytes n:Nat}{z:List PV}(ho:o.op=.makeSlice t l c)(he:sQ P t=some (e,sz,bytes,z))(hl:bh l=some l')(hc:bh c=some c')
  (hn:A4 (ev env l')=some n) (hm:A4 (ev env c')=some n) (aa8:n*bytes<=room):
  eI P w0 a.eval o m (.one (.hsl s ((m.blk s).1+1) sz 0 n)) [(s,((m.blk s).1+1,some (.arr e sz (List.replicate n z))))]:=by
 obtain⟨i,v,ht,hi,hs,hb,⟨aaP,adm⟩,hz,hvs,hzl,hps⟩:=r7 he;obtain⟨k1,h1⟩:=jp hn (aE hl hr);obtain⟨k2,h2⟩:=jp hm (aE hc hr);unfold room at aa8;have akS:n<=maxLen:=by have:n<=n*bytes:=adU _ adm;simp only[maxLen];omega
 have anm:(n:Int)<=9223372036854775807:=by simp[maxLen] at akS;omega
 have hbb:(i.bytes:Int)*(n:Int)<=281474976710656:=by
  have:((i.bytes*n:Nat):Int)<=281474976710656:=by rw[hb,Nat.mul_comm];omega
  rwa[Int.natCast_mul] at this
 have aa6:=run_make (P:=P) m.w t e i v ht hi hz k1 k2 n n (by omega) (Int.le_refl _) hbb anm;simp only[ab1,hs] at aa6
 let m':=m.dB (m.w.alloc (.cells (madeCells v.cells (n*sz)) e)) s m.w.heap.size n (.arr e sz (List.replicate n z))
 have hev:Ev m m':=lH (eU.alloc _ _) (aaj _);have adx:sE m' s (.arr e sz (List.replicate n z)):=by
  refine⟨_,by rw[j9];exact heap_alloc_new m.w _,aaP,fun x hx=>?_,?_,?_,?_,?_⟩
  .rw[adT hx];exact hzl
  .rw[dz];simp
  .rw[dz];exact akS
  .rw[dz,size_madeCells]
  rw[List.length_replicate];exact aR.pw.2 (DG (aR.pw.1 (hps _ _)) hvs aaP)
 refine⟨_,m',.inl ?_,lE (eU.alloc _ _) (aaj _) (by simp) hok adx,hev,lG hok (aaj _),rfl,lW (aaj _) akS⟩;simp[execOp,ho,h1,h2,aa6];rfl
theorem Ae{lo hi:Option Operand}{lo' hi':Option aC}{n cap l h:Nat}{b:Bool}(hlo:wZ lo=some lo')(hhi:wZ hi=some hi')(hl:eL env 0 lo'=some l)(hh:eL env n hi'=some h)
  (hlh:l<=h) (aa1:h<=cap):(Instr.sliceBounds b n cap (lo.map a.eval) (hi.map a.eval) none).run P m.w=.ok (l,h,cap) m.w:=by
 have _u0:=hok;have hhv:(match hi.map a.eval with|some v=>∃k,v=Value.int k (h:Int)|none=>h=n):=by
  cases hi with
  |none=>simp[wZ] at hhi;subst hhi;simp[eL] at hh;simpa using hh.symm
  |some x=>simp only[wZ,aaD] at hhi;obtain⟨y,hy,rfl⟩:=hhi;exact jp hh (aE hy hr)
 have hlv:(match lo.map a.eval with|some v=>∃k,v=Value.int k (l:Int)|none=>l=0):=by
  cases lo with
  |none=>simp[wZ] at hlo;subst hlo;simp[eL] at hl;simpa using hl.symm
  |some x=>simp only[wZ,aaD] at hlo;obtain⟨y,hy,rfl⟩:=hlo;exact jp hl (aE hy hr)
 generalize lo.map a.eval=LO at hlv;generalize hi.map a.eval=HI at hhv;have hc1:(h:Int)<=(cap:Int):=by omega
 have hc2:(l:Int)<=(h:Int):=by omega
 cases LO with
 |none=>
  simp only at hlv;subst hlv;cases HI with
  |none=>simp only at hhv;subst hhv;simp[Instr.sliceBounds]
  |some v=>obtain⟨k,rfl⟩:=hhv;simp[Instr.sliceBounds,Instr.sliceBound,asIntOf,aa1]
 |some u=>
  obtain⟨k,rfl⟩:=hlv;cases HI with
  |none=>simp only at hhv;subst hhv;simp[Instr.sliceBounds,Instr.sliceBound,asIntOf,hlh]
  |some v=>obtain⟨k',rfl⟩:=hhv;simp[Instr.sliceBounds,Instr.sliceBound,asIntOf,aa1,hlh]
theorem HG{t:TypeId}{x:Operand}{lo hi:Option Operand}{x':aC}{lo' hi':Option aC}{s:ByteArray}{l h:Nat}(ho:o.op=.slice t x lo hi none)(ht:P.underlying t=some .string)
  (hx:bh x=some x') (hlo:wZ lo=some lo') (hhi:wZ hi=some hi') (hs:ev env x'=.one (.p (.str s))) (hl:eL env 0 lo'=some l) (hh:eL env s.size hi'=some h) (hlh:l<=h) (aa1:h<=s.size):
  eI P w0 a.eval o m (.one (.p (.str (s.extract l h)))) []:=by
 have h1:=aE hx hr;rw[hs] at h1;have hb:=Ae (P:=P) (w0:=w0) (hok:=hok) (hr:=hr) (b:=false) hlo hhi hl hh hlh aa1;refine .calm hok ?_ (kZ (.str _));simp[execOp,ho,ur h1,Instr.sliceAt,Instr.slice,run_underlying ht,hb]
theorem LH{t e:TypeId}{x:Operand}{lo hi:Option Operand}{x':aC}{lo' hi':Option aC}{sz n l h:Nat}{v:V}(ho:o.op=.slice t x lo hi none)(ht:P.underlying t=some (.slice e))(hsz:nh P e=some sz)
  (hx:bh x=some x') (hlo:wZ lo=some lo') (hhi:wZ hi=some hi') (hn:wY (ev env x')=some n) (hl:eL env 0 lo'=some l) (hh:eL env n hi'=some h)
  (hv:gT (ev env x') sz l h=.done v [] []):eI P w0 a.eval o m v []:=by
 have h1:=aE hx hr;unfold gT at hv;split at hv
 .cases hv
 rename_i hlh;have hlh:l<=h:=by simpa using hlh
 have run:∀(ad:Option Addr) (cap:Nat),a.eval x=.slice ad n cap->h<=cap->(execOp a.eval o).run P m.w=.ok (.value (.slice (if cap=l then ad else ad.map (·.add (l*sz))) (h-l) (cap-l))) m.w:=by intro ad cap AN aa1;have hb:=Ae (P:=P) (w0:=w0) (hok:=hok) (hr:=hr) (b:=true) hlo hhi hl hh hlh aa1;simp[execOp,ho,AN,Instr.sliceAt,Instr.slice,run_underlying ht,hb,rD hsz]
 obtain⟨ad0,cap0,hsl,hncap,hm0⟩:=FT (hok:=hok) (hr:=hr) hn h1;split at hv
 .rename_i he;split at hv
  .rename_i h0;cases hv;rw[he] at h1;have:=ut h1;subst h0;have hl0:l=0:=by omega
   subst hl0;rw[this] at hsl;cases hsl;refine .calm hok (run none 0 this (aaj _)) ?_;simp;exact kZ .nils
  cases hv
 .rename_i es he;split at hv
  .rename_i hc;cases hv;rw[he] at h1 hn;simp[wY] at hn;subst hn;obtain⟨hp⟩:bJ m _ (a.eval x):=h1;generalize hb:a.eval x=b at hp;generalize hpv:(PV.sl es)=pv at hp;cases hp<;>cases hpv
   .rename_i ad cap hnn hm;simp at hc;have hh0:h=0:=by omega
    subst hh0;have hl0:l=0:=by omega
    subst hl0;refine .calm hok (run ad cap hb (aan _)) (kZ ?_);simp only[List.drop_nil,List.take_nil,Nat.sub_zero];refine .sl0 _ _ (fun h=>?_) hm;split at h
    .exact hnn h
    cases ad with
    |none=>exact hnn rfl
    |some ad=>simp at h
   rename_i b' o' cap sz' f hm ho' hl' abO hcc hrr;refine .calm hok (run _ cap hb (by omega)) (kZ ?_);by_cases hlt:l=h
   .subst hlt;simp only[Nat.sub_self,List.take_zero];refine .sl0 _ _ (fun h=>?_) (by omega);split at h<;>simp at h
   have hlen:((es.drop l).take (h-l)).length=h-l:=by simp;omega
   have hes:es≠[]:=fun e=>by subst e;simp at hc;omega
   have akA:sz'=sz:=by obtain⟨e0,r0,rfl⟩:=List.exists_cons_of_ne_nil hes;have g1:=abO e0 (by simp);have g2:=hc.2;simp[gQ] at g2;omega
   subst akA;rw[if_neg (by omega)];simp only[abx,Addr.add_lit];have ac6:=aZ.sl (w:=m.w) (own:=m.own) (es:=(es.drop l).take (h-l)) b' (o'+l*sz') (cap-l) sz' (fun j=>f (l*sz'+j)) (fun hne=>ho' fun e0=>hne ?_) (by omega) (by omega) (fun e he=>abO e (acd (acf he))) ?_ ?_
   .rw[hlen] at ac6;exact ac6
   .apply List.eq_nil_of_length_eq_zero;rw[lI (fun e he=>abO e (acd he)),rZ abO,e0];simp
   .intro j z hz;rw[lI (fun e he=>abO e (acd he)),rZ abO,aby] at hz;split at hz
    .rw[acB] at hz;rw[adc];exact hcc _ z hz
    cases hz
   intro j z hz;rw[lI (fun e he=>abO e (acd he)),rZ abO,aby] at hz;split at hz
   .rw[acB] at hz;exact hrr _ z hz
   cases hz
  cases hv
 .rename_i id g z off len he;split at hv
  .rename_i hc;cases hv;rw[he] at h1 hn;simp[wY] at hn;subst hn;have hcr:bJ m _ (a.eval x):=h1;generalize hb:a.eval x=b at hcr;cases hcr with
   |hsl ad cap hg hll hm hh'=>
    refine .calm hok (run _ cap hb (by omega)) ?_;have agC:∃ad',(if cap=l then some ad else (some ad).map (·.add (l*sz)))=some ad'/\(cap≠l->ad'=ad.add (l*sz))/\(l=0->ad'=ad):=by
     by_cases hcl:cap=l
     .exact⟨ad,by simp[hcl],fun h=>(h hcl).elim,fun _=>rfl⟩
     exact⟨ad.add (l*sz),by simp[hcl],fun _=>rfl,fun h=>by subst h;simp[Addr.add]⟩
    obtain⟨ad',e1,e2,e3⟩:=agC;rw[e1];refine aX.one.2 (.hsl _ _ hg (by omega) (by omega) fun s g1 g2=>?_);obtain⟨f1,f2,f3⟩:=hh' s g1 g2;refine⟨f1,fun hor=>?_,fun h0=>?_⟩
    .by_cases hl0:l=0
     .subst hl0;rw[e3 rfl,aco];refine f2 ?_;rcases hor with h|h
      .exact .inl (by omega)
      exact .inr (by omega)
     have:0<h-l:=by rcases hor with h|h<;>omega
     rw[e2 (by omega),f2 (.inr (by omega)),Addr.add_lit,f1,hc.2,aa3]
    have:off=0/\l=0:=by omega
    rw[this.2,Nat.sub_zero];exact f3 this.1
  cases hv
 cases hv
end
end
end Go.Abs
namespace Go.Abs
variable {P:Program} {w0:World}
theorem Qz(off:Nat):∀(vs:List Value) (i:Nat) (cells:Array Value),off+i+vs.length<=cells.size->
  ((vs.zipIdx i).foldl (fun cs (x:Value×Nat)=>cs.setIfInBounds (off+x.2) x.1) cells).toList=aY cells.toList (off+i) vs:=by
 intro vs
 induction vs with
 |nil=>intro i cells _;simp[aY]
 |cons v r ih=>
  intro i cells h;simp only[aaz] at h;simp only[List.zipIdx_cons,acT];rw[ih (i+1) _ (by simp;omega)];unfold aY;rw[Array.toList_setIfInBounds];have hlt:off+i<cells.toList.length:=by simp;omega
  have e1:(cells.toList.set (off+i) v).take (off+(i+1))=cells.toList.take (off+i)++[v]:=by rw[show off+(i+1)=(off+i)+1 by omega,List.take_succ_eq_append_getElem (by simpa using hlt),List.take_set,List.set_eq_of_length_le (by simp;omega)];simp
  have e2:(cells.toList.set (off+i) v).drop (off+(i+1)+r.length)=cells.toList.drop (off+(i+1)+r.length):=by rw[List.drop_set_of_lt (by omega)]
  rw[e1,e2];simp only[aaz,acw,List.singleton_append];congr 3;omega
theorem Cm{place:Nat->Option (Nat×Nat)}{i off n:Nat}{v:Value}{rest:List (Nat×Value)}{cells:Array Value}(hp:place i=some (off,n))(hv:v.cells.size=n)(hfit:off+n<=cells.size):
  ∃aav,Instr.fill place cells ((i,v)::rest)=Instr.fill place aav rest/\aav.toList=aY cells.toList off v.cells.toList:=by
 refine⟨v.cells.zipIdx.foldl (fun cs (x:Value×Nat)=>cs.setIfInBounds (off+x.2) x.1) cells,?_,?_⟩
 .simp only[Instr.fill,hp];rw[if_neg (by simp[hv];omega)]
 rw[<- Array.foldl_toList,Array.toList_zipIdx,Qz off v.cells.toList 0 cells (by simp;omega)];simp
theorem Gp{m:Mem}{env:Env}{a:Act}(hr:gL m env a.tmps){place:Nat->Option (Nat×Nat)}{zl:Nat}:∀ {ps:List (Nat×Operand)} {qs:List (Nat×Nat×aC)} {rs:List (Nat×List C)} {cs:List C} {cells:Array Value},
  qF place zl ps=some qs->kB env qs=some rs->aT m cs cells.toList->cs.length=zl->
  ∃aav,Instr.fill place cells (ps.map fun x=>(x.1,a.eval x.2))=some aav/\aT m (fill cs rs) aav.toList:=by
 intro ps
 induction ps with
 |nil=>intro qs rs cs cells h1 h2 hc hl;simp[qF] at h1;subst h1;simp[kB] at h2;subst h2;exact⟨cells,by simp[Instr.fill],by simpa [fill] using hc⟩
 |cons p t ih=>
  intro qs rs cs cells h1 h2 hc hl;obtain⟨i,x⟩:=p;simp only[qF] at h1;split at h1
  .rename_i off n a' q hpl hx hq;split at h1
   .rename_i hfit;cases h1;simp only[kB] at h2;split at h2
    .rename_i cs' q' hcv hq';split at h2
     .rename_i hlen;cases h2;have hv:=tB hcv (aE hx hr);have hsz:(a.eval x).cells.size=n:=by have:=hv.1;simp at this;omega
      have hcl:=hc.1;simp at hcl;obtain⟨aav,e1,e2⟩:=Cm (rest:=t.map fun x=>(x.1,a.eval x.2)) hpl hsz (by omega:off+n<=cells.size);simp only[aaK,fill];rw[e1];refine ih hq hq' ?_ (by rw[nY (by omega)];exact hl);rw[e2];exact aT.pw.2 ((aT.pw.1 hc).aY (aT.pw.1 hv) off)
     cases h2
    cases h2
   cases h1
  cases h1
theorem mapM_ok{α β:Type}{f:α->Sem β}{g:α->β}{w:World}:∀ {l:List α},(∀x∈l,(f x).run P w=.ok (g x) w)->(l.mapM f).run P w=.ok (l.map g) w:=by
 intro l
 induction l with
 |nil=>intro _;simp
 |cons x r ih=>intro h;simp[List.mapM_cons,h x (by simp),ih fun y hy=>h y (by simp[hy])]
theorem M6{m:Mem}{env:Env}{a:Act}(hr:gL m env a.tmps){place:Nat->Option (Nat×Nat)}{sz:Nat}(akL:∀k,place k=some (k*sz,sz)):∀ {ps:List (Nat×Operand)} {as:List aC} {es:List (List C)} {k:Nat} {done:List Value} {cells:Array Value},
  vC k ps=some as->lX env sz as=some es->done.length=k*sz->cells.toList.take (k*sz)=done->cells.size=(k+as.length)*sz->
  ∃aav,Instr.fill place cells (ps.map fun x=>(x.1,a.eval x.2))=some aav/\ ∃vs,aav.toList=done++vs/\aT m es.flatten vs/\(∀e∈es,e.length=sz)/\es.length=as.length:=by
 intro ps
 induction ps with
 |nil=>intro as es k done cells h1 h2 hd ht hs;simp[vC] at h1;subst h1;simp[lX] at h2;subst h2;refine⟨cells,by simp[Instr.fill],[],?_,⟨by simp,fun j x u p=>by simp at p⟩,fun e he=>by simp at he,rfl⟩;rw[<- ht,abo,aa4 (by simp at hs ⊢;omega)]
 |cons p t ih=>
  intro as es k done cells h1 h2 hd ht hs;obtain⟨i,x⟩:=p;simp only[vC] at h1;split at h1
  .rename_i a' q hx hq;split at h1
   .rename_i hik;cases h1;subst hik;simp only[lX] at h2;split at h2
    .rename_i cs' q' hcv hq';split at h2
     .rename_i hlen;cases h2;have hv:=tB hcv (aE hx hr);have hsz:(a.eval x).cells.size=sz:=by have:=hv.1;simp at this;omega
      simp only[aaz] at hs;have hs2:cells.size=i*sz+sz+q.length*sz:=by rw[hs,aa3,aa3];omega
      obtain⟨aav,e1,e2⟩:=Cm (rest:=t.map fun x=>(x.1,a.eval x.2)) (akL i) hsz (by omega:i*sz+sz<=cells.size);have hc':aav.toList.length=cells.size:=by rw[e2,nY (by simp;omega)];simp
      obtain⟨alX,f1,vs,f2,f3,f4,f5⟩:=ih (k:=i+1) (done:=done++(a.eval x).cells.toList) (cells:=aav) hq hq' (by simp[hd,hsz,aa3]) (by rw[e2];unfold aY;rw[ht,adS (by simp[hd,hsz,aa3])];rw[aa4 (by simp[hd,hsz,aa3])]) (by simp at hc';rw[hc',hs2,aa3,aa3];omega)
      simp only[aaK];rw[e1];refine⟨alX,f1,(a.eval x).cells.toList++vs,by rw[f2,acw],?_,?_,by simp[f5]⟩
      .simp only[abt];exact aT.pw.2 ((aT.pw.1 hv).append (aT.pw.1 f3))
      intro e he;rcases aat.1 he with rfl|he
      .exact hlen
      exact f4 e he
     cases h2
    cases h2
   cases h1
  cases h1
theorem Lr{m:Mem}:∀ {es:List (List C)} {qs:List (List PV)} {vs:List Value} {sz:Nat},sH es=some qs->(∀e∈es,e.length=sz)->aT m es.flatten vs->aR m.w m.own qs.flatten vs/\(∀e∈qs,e.length=sz)/\qs.length=es.length:=by
 intro es
 induction es with
 |nil=>intro qs vs sz h _ hc;simp[sH] at h;subst h;exact⟨⟨hc.1,fun j x u p=>by simp at p⟩,fun e he=>by simp at he,rfl⟩
 |cons e r ih=>
  intro qs vs sz h hsz hc;simp only[sH] at h;split at h
  .rename_i v vs' h1 h2;cases h;simp only[abt] at hc;have hel:=hsz e (by simp);have hc1:=(aT.pw.1 hc).take e.length;have hc2:=(aT.pw.1 hc).drop e.length;simp only[List.take_left,List.drop_left] at hc1 hc2;have g1:=qo h1 (aT.pw.2 hc1);obtain⟨g2,g3,g4⟩:=ih h2 (fun x hx=>hsz x (by simp[hx])) (aT.pw.2 hc2);have hvl:v.length=sz:=by
    have a1:=g1.1;have a2:=hc1.1;omega
   refine⟨?_,?_,by simp[g4]⟩
   .have:=(aR.pw.1 g1).append (aR.pw.1 g2);rw[abA] at this;exact aR.pw.2 this
   intro y hy;rcases aat.1 hy with rfl|hy
   .exact hvl
   exact g3 y hy
  cases h
section
variable {m:Mem} {env:Env} {a:Act} {o:Oper} (hok:Ok w0 m) (hr:gL m env a.tmps)
include hok hr
theorem uZ{t:TypeId}{ps:Array (Nat×Operand)}{fs:Array Field}{z:List PV}{qs:List (Nat×Nat×aC)}{rs:List (Nat×List C)}(ho:o.op=.build t ps)(ht:P.underlying t=some (.struct fs))(hz:sF P t=some z)
  (aas:fs.all (fun f=>(P.info? f.type).isSome)=true) (hp:qF (fun i=>(fs[i]?).map fun f=>(f.offset,P.cellsOf f.type)) z.length ps.toList=some qs) (hv:kB env qs=some rs):
  eI P w0 a.eval o m (.agg (fill (z.map .p) rs)) []:=by
 obtain⟨v,i,hi,hiv,hs,hl,hps⟩:=m7 hz;obtain⟨aav,h1,h2⟩:=Gp hr hp hv (hps m.w m.own).SI (by simp);refine .calm (x:=.agg aav) hok ?_ (aX.agg.2 ⟨_,rfl,h2⟩);have abp:(fs.mapM (fun f=>do pure (f.offset,<- sizeOf f.type):Field->Sem (Nat×Nat))).run P m.w=.ok (fs.map fun f=>(f.offset,P.cellsOf f.type)) m.w:=by
  rw[Array.mapM_eq_mapM_toList];have:=mapM_ok (P:=P) (f:=(fun f=>do pure (f.offset,<- sizeOf f.type):Field->Sem (Nat×Nat))) (g:=fun f=>(f.offset,P.cellsOf f.type)) (w:=m.w) (l:=fs.toList) (fun f hf=>by
   have:=Array.all_eq_true_iff_forall_mem.1 aas f (by simpa using hf);cases hfi:P.info? f.type with
   |none=>rw[hfi] at this;cases this
   |some i=>simp[sizeOf,typeInfo,hfi,Program.cellsOf])
  rw[Sem.run_map,this];simp only[Result.andThen_ok];congr 1;apply Array.ext';simp
 have acz:Instr.fill (fun x=>(fs.map fun f=>(f.offset,P.cellsOf f.type))[x]?) v.cells (ps.map fun x=>(x.1,a.eval x.2)).toList=some aav:=by simpa using h1
 simp only[execOp,ho,Instr.build,zeroValue,typeInfo,Sem.run_bind,run_program,Result.andThen_ok,hi,hiv,Sem.run_pure,run_underlying ht,abp,acz]
theorem wX{t e:TypeId}{n:Nat}{ps:Array (Nat×Operand)}{i:TypeInfo}{z:List PV}{qs:List (Nat×Nat×aC)}{rs:List (Nat×List C)}(ho:o.op=.build t ps)(ht:P.underlying t=some (.array n e))(hz:sF P t=some z)
  (hie:P.info? e=some i) (hp:qF (fun k=>some (k*i.size,i.size)) z.length ps.toList=some qs) (hv:kB env qs=some rs):
  eI P w0 a.eval o m (.agg (fill (z.map .p) rs)) []:=by
 obtain⟨v,i',hi,hiv,hs,hl,hps⟩:=m7 hz;obtain⟨aav,h1,h2⟩:=Gp hr hp hv (hps m.w m.own).SI (by simp);refine .calm (x:=.agg aav) hok ?_ (aX.agg.2 ⟨_,rfl,h2⟩);have acz:Instr.fill (fun k=>some (k*i.size,i.size)) v.cells (ps.map fun x=>(x.1,a.eval x.2)).toList=some aav:=by simpa using h1
 simp only[execOp,ho,Instr.build,zeroValue,sizeOf,typeInfo,Sem.run_bind,run_program,Result.andThen_ok,hi,hie,hiv,Sem.run_pure,run_underlying ht,acz]
theorem HK{t e:TypeId}{n sz bytes s:Nat}{z:List PV}{ps:Array (Nat×Operand)}{as:List aC}{es:List (List C)}(ho:o.op=.buildSlice t n ps)(he:sQ P t=some (e,sz,bytes,z))(hp:vC 0 ps.toList=some as)
  (hn:as.length=n) (arw:n*sz<=16777216) (hv:lX env sz as=some es):
  (∀qs,sH es=some qs->eI P w0 a.eval o m (.one (.hsl s ((m.blk s).1+1) sz 0 es.length)) [(s,((m.blk s).1+1,some (.arr e sz qs)))])/\
  eI P w0 a.eval o m (.one (.hsl s ((m.blk s).1+1) sz 0 es.length)) [(s,((m.blk s).1+1,some (.aaJ e sz es)))]:=by
 obtain⟨i,v,ht,hi,hs,hb,⟨aaP,_⟩,hiz,hvs,hzl,hps⟩:=r7 he;subst hn;obtain⟨aav,f1,vs,f2,f3,f4,f5⟩:=M6 (place:=fun k=>some (k*sz,sz)) (done:=[]) (cells:=(Array.range (as.length*sz)).map ((if as.length*sz=0 then #[] else v.cells)[· %(if as.length*sz=0 then #[] else v.cells).size]!)) hr (fun _=>rfl) hp hv (by simp) (by simp) (by simp);have aa6:(execOp a.eval o).run P m.w=.ok (.value (.slice (some ⟨m.w.heap.size,0,none⟩) es.length es.length)) (m.w.alloc (.cells aav e)):=by
  have acz:Instr.fill (fun k=>some (k*sz,sz)) ((Array.range (as.length*sz)).map ((if as.length*sz=0 then #[] else v.cells)[· %(if as.length*sz=0 then #[] else v.cells).size]!)) (ps.map fun x=>(x.1,a.eval x.2)).toList=some aav:=by simpa using f1
  have hnb:¬(16777216<as.length*sz):=by omega
  have ank:¬(as.length*sz>2 ^ 24):=by omega
  by_cases h0:as.length*sz=0
  .simp only[if_pos h0] at acz;simp only[execOp,ho,Instr.buildSlice,Sem.run_bind,run_underlying ht,Result.andThen_ok,sizeOf,typeInfo,run_program,hi,Sem.run_pure,hs,if_neg ank,if_pos h0,acz,newRow,run_newObj,f5];rfl
  simp only[if_neg h0] at acz;simp only[execOp,ho,Instr.buildSlice,Sem.run_bind,run_underlying ht,Result.andThen_ok,sizeOf,typeInfo,run_program,hi,Sem.run_pure,hs,if_neg ank,if_neg h0,zeroValue,hiz,acz,newRow,run_newObj,f5];rfl
 simp at f2;have hcl:aav.size=es.length*sz:=by
  have h1:=f3.1;rw[nE f4] at h1;have:aav.toList.length=vs.length:=by rw[f2]
  simp at this;omega
 have agO:es.length<=maxLen:=by have:es.length<=es.length*sz:=adU _ aaP;simp only[maxLen];rw[f5] at this ⊢;omega
 have ajy:aav.toList.take (es.length*sz)=vs:=by rw[aa4 (by simp;omega),f2]
 constructor
 .intro qs hq;have hev:Ev m (m.dB (m.w.alloc (.cells aav e)) s m.w.heap.size es.length (.arr e sz qs)):=lH (eU.alloc _ _) (aaj _);obtain⟨g1,g2,g3⟩:=Lr hq f4 (f3.ev hev.zero);refine⟨_,m.dB (m.w.alloc (.cells aav e)) s m.w.heap.size es.length (.arr e sz qs),.inl aa6,lE (eU.alloc _ _) (aaj _) (by simp) hok ?_,hev,lG hok (aaj _),rfl,lW (aaj _) agO⟩;exact⟨aav,by rw[j9];exact heap_alloc_new m.w _,aaP,g2,by rw[dz,g3];exact aaj _,by rw[dz];exact agO,by rw[dz,hcl],by rw[g3,ajy];exact g1⟩
 have hev:Ev m (m.dB (m.w.alloc (.cells aav e)) s m.w.heap.size es.length (.aaJ e sz es)):=lH (eU.alloc _ _) (aaj _);refine⟨_,m.dB (m.w.alloc (.cells aav e)) s m.w.heap.size es.length (.aaJ e sz es),.inl aa6,lE (eU.alloc _ _) (aaj _) (by simp) hok ?_,hev,lG hok (aaj _),rfl,Gd (aaj _) agO⟩;exact⟨aav,by rw[j9];exact heap_alloc_new m.w _,aaP,f4,by rw[dz];exact aaj _,by rw[dz];exact agO,by rw[dz,hcl],by rw[ajy];exact f3.ev hev.zero⟩
end
end Go.Abs
namespace Go.Abs
variable {P:Program} {w0:World}
theorem pN(a b:List jS)(blk:aw):app (a++b) blk=app b (app a blk):=by
 induction a generalizing blk with
 |nil=>rfl
 |cons x r ih=>obtain⟨i,o⟩:=x;simp only[acp,app];exact ih _
theorem Il{m:Mem}{fr':Nat->Prop}(hf:∀c,fr' c->m.fr c){c:Nat}(h:({m with fr:=fr'}:Mem).own c):m.own c:=by
 rcases h with h|h
 .exact .inl (hf c h)
 exact .inr h
theorem BW{m:Mem}{fr':Nat->Prop}(hf:∀c,fr' c->m.fr c):Ev m {m with fr:=fr'}:=
 ⟨rfl,rfl,rfl,aaj _,fun _ _ _=>rfl,fun _ _ h=>h,fun _ _ hn h=>hn (Il hf h),fun _=>aaj _,fun _ _ h=>⟨h,rfl,rfl,rfl⟩⟩
theorem My{m:Mem}{fr':Nat->Prop}(h:Ok w0 m)(hf:∀c,fr' c->m.fr c):Ok w0 {m with fr:=fr'} where
 os:=h.os
 tape:=h.tape
 output:=h.output
 size:=h.size
 base:=h.base
 obj id o ho:=(h.obj id o ho).ev (BW hf).zero rfl rfl rfl
 aaw id o ho hm:=⟨(h.aaw id o ho hm).1,fun hc=>(h.aaw id o ho hm).2 (hf _ hc)⟩
 frlt c hc:=h.frlt c (hf c hc)
 inj:=h.inj
theorem Fg{m:Mem}{w':World}{c:Nat}(h:Ok w0 m)(hc:m.fr c)(hlo:w0.heap.size<=c)(hos:w'.os=m.w.os)(ht:w'.tape=m.w.tape)(abc:w'.output=m.w.output)(hs:w'.heap.size=m.w.heap.size)
  (hk:∀x,x≠c->w'.heap[x]?=m.w.heap[x]?):Ok w0 {m with w:=w'} where
 os:=hos.trans h.os
 tape:=ht.trans h.tape
 output:=abc.trans h.output
 size:=abm h.size (ac7 hs.symm)
 base x hx:=(hk x (by omega)).trans (h.base x hx)
 obj id o ho:=by
  have hne:m.σ id≠c:=by
   intro e;cases hm:o.eE with
   |true=>exact(h.aaw id o ho hm).2 (e▸hc)
   |false=>exact(h.obj id o ho).calm hm (.inl (e▸hc))
  exact(h.obj id o ho).ev (m':={m with w:=w'}) ⟨fun x _ hn=>⟨hk x fun e=>hn (.inl (e▸hc)),hn⟩,fun _=>aaj _,fun _ _ h=>⟨h,rfl,rfl,rfl⟩⟩ rfl rfl (hk _ hne)
 aaw:=h.aaw
 frlt x hx:=by rw[show({m with w:=w'}:Mem).w.heap.size=m.w.heap.size from hs];exact h.frlt x hx
 inj:=h.inj
theorem wG{m:Mem}(hok:Ok w0 m){own:Nat->Prop}{x:V}{v:Value}{new:List (List PV)}{rd fr:List Nat}(h:aO m.blk x=some (new,rd,fr))(hv:aX m x v)(hs:fF m own fr):
  ∃ax cx,v=.slice ax new.length cx/\(∀z,kr x=some z->∀e∈new,e.length=z)/\
   (new≠[]->∃b o news,ax=some ⟨b,o,none⟩/\Pw (aZ m.w own) new.flatten news/\ ∀(j:Nat) (u:Value),news[j]?=some u->m.w.cell? ⟨b,o+j,none⟩=some u):=by
 have row:∀(c off sz len:Nat) (cur:Array Value) (ty:TypeId) (fz:Nat×Nat) (ps:List (List PV)),m.w.heap[c]?=some (.cells cur ty fz)->Pw (aZ m.w own) ps.flatten ((cur.toList.drop (off*sz)).take (ps.length*sz))->
   ∃b o news,some (⟨c,off*sz,none⟩:Addr)=some ⟨b,o,none⟩/\Pw (aZ m.w own) ps.flatten news/\ ∀(j:Nat) (u:Value),news[j]?=some u->m.w.cell? ⟨b,o+j,none⟩=some u:=by
  intro c off sz len cur ty fz ps hh hp;refine⟨c,off*sz,_,rfl,hp,fun j u hj=>?_⟩;rw[aby] at hj;split at hj
  .rw[qY hh];simpa using hj
  cases hj
 unfold aO at h;split at h
 .cases h;exact⟨none,0,ut hv,fun z hz=>by simp[kr] at hz,fun h=>(h rfl).elim⟩
 .rename_i es;cases h;obtain⟨hp⟩:bJ m _ v:=hv;generalize hpv:(PV.sl new)=pv at hp;cases hp<;>cases hpv
  .exact⟨_,_,rfl,fun z hz=>by simp[kr] at hz,fun h=>(h rfl).elim⟩
  rename_i b o cap sz f hm ho hl hsz hcc hrr;refine⟨_,_,rfl,fun z hz=>by simp[kr] at hz,fun _=>⟨b,o,(List.range new.flatten.length).map f,rfl,⟨by simp,fun j y u p q=>?_⟩,fun j u q=>?_⟩⟩
  .have hj:j<new.flatten.length:=(aai.1 p).1;rw[aa0,abT hj] at q;simp at q;subst q;exact(hrr j y p).less hs.1
  have hj:j<new.flatten.length:=by have:=(aai.1 q).1;simpa using this
  rw[aa0,abT hj] at q;simp at q;subst q;exact hcc j _ (abZ hj)
 .rename_i id g z off len;have hcr:bJ m _ v:=hv;cases hcr with
  |hsl ad cap hg hl hm hh'=>
   split at h
   .rename_i g' ty sz es hb;split at h
    .rename_i hc;cases h;have hb2:(m.blk id).2=some (.arr ty sz es):=by rw[hb]
     obtain⟨cur,hh,hs0,hsz,hl2,hm2,hcs,hps⟩:=hok.obj id _ hb2;obtain⟨e1,e2,e3⟩:=hh' sz (by rw[hb];exact hc.1) (by rw[hb];rfl);have hlen:((es.drop off).take len).length=len:=by simp;omega
     refine⟨some ad,cap,by rw[hlen],fun z' hz' e he=>?_,fun hne=>?_⟩
     .simp[kr] at hz';subst hz';rw[<- e1];exact hsz e (acd (acf he))
     have:0<len:=by
      cases len with
      |zero=>simp at hne
      |succ n=>omega
     rw[e2 (.inr this)];exact row (m.σ id) off sz len cur ty _ _ hh (sZ hsz (aR.pw.1 (hps.less hs.1)) hc.2)
    cases h
   .rename_i g' ty sz es hb;split at h
    .rename_i hc;cases h;have hb2:(m.blk id).2=some (.abl ty sz es):=by rw[hb]
     obtain⟨cur,fz,hh,hs0,hsz,hl2,hm2,hcs,hps,_⟩:=hok.obj id _ hb2;obtain⟨e1,e2,e3⟩:=hh' sz (by rw[hb];exact hc.1) (by rw[hb];rfl);have hlen:((es.drop off).take len).length=len:=by simp;omega
     refine⟨some ad,cap,by rw[hlen],fun z' hz' e he=>?_,fun hne=>?_⟩
     .simp[kr] at hz';subst hz';rw[<- e1];exact hsz e (acd (acf he))
     have:0<len:=by
      cases len with
      |zero=>simp at hne
      |succ n=>omega
     rw[e2 (.inr this)];exact row (m.σ id) off sz len cur ty _ _ hh (sZ hsz (aR.pw.1 (hps.less hs.1)) hc.2)
    cases h
   .rename_i g' ty sz es hb;split at h
    .rename_i hc;split at h
     .rename_i ps q hq;cases h;have hb2:(m.blk id).2=some (.aaJ ty sz es):=by rw[hb]
      obtain⟨cur,hh,hs0,hsz,hl2,hm2,hcs,hps⟩:=hok.obj id _ hb2;obtain⟨e1,e2,e3⟩:=hh' sz (by rw[hb];exact hc.1) (by rw[hb];rfl);have hle:((es.drop off).take len).length=len:=by simp;omega
      have hpl:new.length=len:=by rw[qX hq,hle]
      have akB:=sZ hsz (aT.pw.1 hps) hc.2;have agA:∀e∈(es.drop off).take len,e.length=sz:=fun e he=>hsz e (acd (acf he));have aa1:len*sz<=(cur.toList.drop (off*sz)).length:=by
       simp;have h1:off*sz+len*sz<=es.length*sz:=by rw[<- aa3];exact abz _ hc.2
       have h2:es.length*sz<=m.κ id*sz:=abz _ hl2;omega
      have hpe:∀(j:Nat) (e:List PV),new[j]?=some e->Pw (aZ m.w own) e (((cur.toList.drop (off*sz)).drop (j*sz)).take sz):=by intro j e he;obtain⟨x,q',h1,h2,h3⟩:=tA hq he;exact iX (R:=bJ m) (T:=aZ m.w own) (dX:=fF m own) (fun a b h=>h.app) (fun a b r v e1 e2 e3=>ng hok _ e1 e2 e3) h2 ⟨hs.1,fun i hi=>hs.2 i (h3 i hi)⟩ (zn agA akB h1)
      have ad7:∀e∈new,e.length=sz:=by
       intro e he;obtain⟨j,hj⟩:=abb he;have:=(hpe j e hj).1;have hjl:j<len:=by rw[<- hpl];exact(aai.1 hj).1
       have h1:(j+1)*sz<=len*sz:=abz _ hjl;rw[aa3] at h1;simp at this aa1;omega
      refine⟨some ad,cap,by rw[hpl],fun z' hz' e he=>?_,fun hne=>?_⟩
      .simp[kr] at hz';subst hz';rw[<- e1];exact ad7 e he
      have:0<len:=by rw[<- hpl];exact abh.2 hne
      rw[e2 (.inr this)];refine row (m.σ id) off sz len cur ty _ _ hh ?_;rw[hpl];have:=Ds ad7 (by rw[hpl];exact aa1) hpe;rw[hpl] at this;exact this
     cases h
    cases h
   split at h
   .rename_i hl0;cases h;exact⟨some ad,cap,by rw[hl0];rfl,fun z' _ e he=>by simp at he,fun h=>(h rfl).elim⟩
   cases h
 cases h
end Go.Abs
namespace Go.Abs
variable {P:Program} {w0:World}
theorem WL{w:World}{own:Nat->Prop}{xs:List PV}{vs:List Value}(h:Pw (aZ w own) xs vs):∀u∈vs,u.oneCell'=true:=by
 intro v hv;obtain⟨j,hj⟩:=abb hv;have hlt:j<xs.length:=by rw[<- h.1];exact(aai.1 hj).1
 exact(h.2 j _ v (abZ hlt) hj).uc
theorem ux{m:Mem}{ids:List Nat}{u:List jS}(h:Gb m.blk ids=some u)(id:Nat):(app u m.blk id).1=(m.blk id).1:=by
 rcases kG h id with ⟨e,_⟩|⟨_,p,q,a,b,e⟩
 .exact congrArg Prod.fst e
 have:=congrArg Prod.fst e;exact this
theorem uB{m:Mem}{id:Nat}{o:Ob}{w':World}(ho:(m.blk id).2=some o)(hm:o.eE=true)(hos:w'.os=m.w.os)(ht:w'.tape=m.w.tape)(abc:w'.output=m.w.output)(hs:w'.heap.size=m.w.heap.size)
  (hk:∀x,x≠m.σ id->w'.heap[x]?=m.w.heap[x]?):Ev m {m.fp id with w:=w'} where
 os:=hos
 tape:=ht
 output:=abc
 size:=ac7 hs.symm
 keep c _ hn:=hk c fun e=>hn ⟨id,o,ho,hm,e.symm⟩
 eE:=(nH ho hm).eE
 less:=(nH ho hm).less
 gen:=(nH ho hm).gen
 ref:=(nH ho hm).ref
theorem WH{m:Mem}(hok:Ok w0 m){id s:Nat}{ob:Ob}{w':World}{adN:Array Value}{ty sz:Nat}{es':List (List PV)}(ho:(m.blk id).2=some ob)(hm:ob.eE=true)(aaP:0<sz)(hos:w'.os=m.w.os)(ht:w'.tape=m.w.tape)(abc:w'.output=m.w.output)(hs:w'.heap.size=m.w.heap.size)
  (hk:∀x,x≠m.σ id->w'.heap[x]?=m.w.heap[x]?) (hh:w'.heap[m.σ id]?=some (.cells adN ty (0,0))) (hsz:∀e∈es',e.length=sz) (hl:es'.length<=m.κ id) (hmx:m.κ id<=maxLen) (hcs:adN.size=m.κ id*sz)
  (hp:Pw (aZ m.w m.own) es'.flatten (adN.toList.take (es'.length*sz))):
  ∃m',m'.w=w'/\Ok w0 m'/\Ev m m'/\m'.fr=m.fr/\m'.blk=fY (fY m.blk id ((m.blk id).1,none)) s ((m.blk s).1+1,some (.arr ty sz es'))/\
   aX m' (.one (.hsl s ((m.blk s).1+1) sz 0 es'.length)) (.slice (some ⟨m.σ id,0,none⟩) es'.length (m.κ id)):=by
 have adA:=uB ho hm hos ht abc hs hk;have hlo:=(hok.aaw id ob ho hm).1;have aqz:Ok w0 {m.fp id with w:=w'}:=Fg (m:=m.fp id) (GA hok ho hm) (.inr rfl) hlo hos ht abc hs hk;have hev:Ev m ((({m.fp id with w:=w'}:Mem)).install s (m.σ id) (m.κ id) (.arr ty sz es')):=oO adA (.inr rfl) (.inr ⟨id,ob,ho,hm,rfl⟩);have hgs:((({m.fp id with w:=w'}:Mem)).blk s).1=(m.blk s).1:=by
  simp only[Mem.fp,aa];split
  .rename_i e;subst e;rfl
  rfl
 have hσ:((({m.fp id with w:=w'}:Mem)).install s (m.σ id) (m.κ id) (.arr ty sz es')).σ s=m.σ id:=by simp[Mem.install,aa]
 have hκ:((({m.fp id with w:=w'}:Mem)).install s (m.σ id) (m.κ id) (.arr ty sz es')).κ s=m.κ id:=by simp[Mem.install,aa]
 refine⟨_,rfl,oN aqz (.inr rfl) hlo ?_,hev,?_,?_,?_⟩
 .exact⟨adN,by rw[hσ];exact hh,aaP,hsz,by rw[hκ];exact hl,by rw[hκ];exact hmx,by rw[hκ];exact hcs,aR.ev hev.zero (aR.pw.2 hp)⟩
 .funext x;simp only[Mem.install,Mem.fp];apply propext;constructor
  .rintro ⟨h|h,h2⟩
   .exact h
   exact(h2 h).elim
  intro h;exact⟨.inl h,fun e=>(hok.aaw id ob ho hm).2 (e▸h)⟩
 .simp only[Mem.install];rw[hgs];rfl
 refine aX.one.2 (.hsl _ _ ?_ hl hmx fun z h1 h2=>?_)
 .simp only[Mem.install,aa,if_true];rw[hgs];exact aaj _
 have:je (((({m.fp id with w:=w'}:Mem)).install s (m.σ id) (m.κ id) (.arr ty sz es')).blk s)=some sz:=by simp[Mem.install,aa,je]
 rw[this] at h2;cases h2;exact⟨rfl,fun _=>by rw[hσ,act],fun _=>hκ.symm⟩
theorem AU{P:Program}(w:World)(t ty e:TypeId)(i:TypeInfo)(z:Value)(ht:P.underlying t=some (.slice e))(hi:P.info? e=some i)(hz:i.zero=some z)
  (az:Option Addr) (a:Addr) (n c:Nat) (news:List Value) (hl:news.length=n*i.size) (ab6:∀j v,news[j]?=some v->w.cell? (a.add j)=some v)
  (h0:0<n) (h63:(n:Int)<=9223372036854775807) (h48:n*i.bytes<=281474976710656):
  (Builtin.append_ #[t,t] ty #[.slice az 0 0,.slice (some a) n c]).run P w=
   .ok (.slice (some ⟨w.heap.size,0,none⟩) n (grownCap w n 0 e)) (w.drew.alloc (.cells (news.toArray++Builtin.zeroCells z.cells (grownCap w n 0 e-n)) e)):=by
 cases az with
 |none=>exact run_append_nil w t ty e i z ht hi hz a n c news hl ab6 h0 h63 h48
 |some b=>have h:=run_append_grow (P:=P) w t ty e i z ht hi hz b 0 0 [] (by simp) (fun j v h=>by simp at h) a n c news hl ab6 (by omega) (by simpa using h63) (by rw[abd,nextslicecap_zero h0];exact h48);rw[abd] at h;rw[h];simp
section
variable {m:Mem} {env:Env} {a:Act} {o:Oper} (hok:Ok w0 m) (hr:gL m env a.tmps)
include hok hr
theorem HL{c:Call}{d x:Operand}{d' x':aC}{t e:TypeId}{s sz bytes:Nat}{z:List PV}{v:V}{u:List jS}{rd:List Nat}(ho:o.op=.call c)(hc:c.callee=.builtin .append)(has:c.args= #[d,x])(hat:c.argTypes= #[t,t])
  (he:sQ P t=some (e,sz,bytes,z)) (hd:bh d=some d') (hx:bh x=some x') (hv:aF m.blk s e sz bytes (ev env d') (ev env x')=.done v u rd):eI P w0 a.eval o m v u:=by
 obtain⟨i,zv,ht,hi,hs,hb,⟨aaP,adm⟩,hiz,hzs,hzl,hps⟩:=r7 he;have hrd:=aE hd hr;have hrx:=aE hx hr;have run:∀(y:Value) (w':World),(Builtin.append_ #[t,t] o.type #[a.eval d,a.eval x]).run P m.w=.ok y w'->(execOp a.eval o).run P m.w=.ok (.value y) w':=by intro y w' h;simp[execOp,ho,resolve,hc,has,hat,invoke,builtin,h]
 unfold aF at hv;split at hv
 .cases hv
 rename_i new rd' fr hel;split at hv
 .cases hv
 rename_i aqm;split at hv
 .cases hv
 rename_i fu hfu;have abD:=Qx hok hfu;have acD:=IH hfu;have hsp:=tm hok hfu;obtain⟨ax,cx,hxv,aqn,ab6⟩:=wG hok hel hrx hsp;have aas:∀e∈new,e.length=sz:=by
  have:kr (ev env x')=some sz\/gQ sz new=true:=Classical.not_not.1 aqm;rcases this with h|h
  .exact aqn sz h
  intro e he;have:=aba.1 h e he
  simpa using this
 have afn:new.flatten.length=new.length*sz:=nE aas;split at hv
 · -- nil
  rename_i hds;rw[hds] at hrd;have hdv:=ut hrd;split at hv
  .rename_i hn0;cases hv;refine⟨.slice none 0 0,m.with u,.inl (run _ _ ?_),abD,acD,rfl,rfl,kZ .nils⟩;rw[hdv,hxv,hn0];cases ax<;>simp[Builtin.append_,run_underlying ht,sizeOf,typeInfo,hi,Builtin.lenOf,Builtin.firstCells,loadCells,loadCellsFrom,Mem.with]
  rename_i hn0;split at hv
  .rename_i aa8;cases hv;have hne:new≠[]:=fun h=>hn0 (by simp[h]);obtain⟨b,off,news,rfl,hpw,ab9⟩:=ab6 hne;unfold room at aa8;have hnl:news.length=new.length*i.size:=by rw[hpw.1,afn,hs]
   have acU:new.length<=maxLen/\(new.length:Int)<=9223372036854775807:=by have:new.length<=new.length*bytes:=adU _ adm;simp only[maxLen];omega
   have aa6:=run_append_nil (P:=P) m.w t o.type e i zv ht hi hiz ⟨b,off,none⟩ new.length cx news hnl (fun j v hj=>by rw[Addr.add_lit];exact ab9 j v hj) (by omega) acU.2 (by rw[hb];omega);generalize hW:m.w.drew.alloc (.cells (news.toArray++Builtin.zeroCells zv.cells (grownCap m.w new.length 0 e-new.length)) e)=W at aa6;have hg:eU (m.with fu).w W:=by rw[<- hW];exact(eU.drew _).trans (eU.alloc _ _)
   have aa1:=grownCap_ge m.w new.length 0 e;have aem:=grownCap_le_maxLen m.w new.length 0 e acU.1;have adA:Ev (m.with fu) ((m.with fu).dB W s m.w.heap.size (grownCap m.w new.length 0 e) (.arr e sz new)):=lH hg (aaj _);have hgs:=ux hfu s;refine⟨_,(m.with fu).dB W s m.w.heap.size (grownCap m.w new.length 0 e) (.arr e sz new),.inl (run _ _ (by rw[hdv,hxv];exact aa6)),lE hg (aaj _) (by rw[<- hW];simp) abD ?_,acD.trans adA,lG abD (aaj _),?_,?_⟩
   .refine⟨_,by rw[j9,zi,<- hW];exact heap_alloc_new m.w.drew _,aaP,aas,by rw[dz];exact aa1,by rw[dz];exact aem,?_,?_⟩
    .rw[dz];simp only[Array.size_append,List.size_toArray,size_zeroCells,hzs,hnl,hs,<- aa3];congr 1;omega
    have:(news.toArray++Builtin.zeroCells zv.cells (grownCap m.w new.length 0 e-new.length)).toList.take (new.length*sz)=news:=by simp only[Array.toList_append];rw[<- hs,<- hnl];exact List.take_left
    rw[this];exact aR.ev adA.zero (aR.pw.2 hpw)
   .rw[pN,tq];simp only[Mem.with];rw[hgs]
   have:=lW (m:=m.with fu) (w':=W) (s:=s) (c:=m.w.heap.size) (ty:=e) (sz:=sz) (es:=new) aa1 aem;simp only[Mem.with] at this;rw[hgs] at this;exact this
  cases hv
 · -- an empty slice without room
  rename_i hds;rw[hds] at hrd;obtain⟨az,hdv⟩:=Xd hrd;split at hv
  .cases hv
  rename_i hn0;split at hv
  .rename_i aa8;cases hv;have hne:new≠[]:=fun h=>hn0 (by simp[h]);obtain⟨b,off,news,rfl,hpw,ab9⟩:=ab6 hne;unfold room at aa8;have hnl:news.length=new.length*i.size:=by rw[hpw.1,afn,hs]
   have acU:new.length<=maxLen/\(new.length:Int)<=9223372036854775807:=by have:new.length<=new.length*bytes:=adU _ adm;simp only[maxLen];omega
   have aa6:=AU (P:=P) m.w t o.type e i zv ht hi hiz az ⟨b,off,none⟩ new.length cx news hnl (fun j v hj=>by rw[Addr.add_lit];exact ab9 j v hj) (by omega) acU.2 (by rw[hb];omega);generalize hW:m.w.drew.alloc (.cells (news.toArray++Builtin.zeroCells zv.cells (grownCap m.w new.length 0 e-new.length)) e)=W at aa6;have hg:eU (m.with fu).w W:=by rw[<- hW];exact(eU.drew _).trans (eU.alloc _ _)
   have aa1:=grownCap_ge m.w new.length 0 e;have aem:=grownCap_le_maxLen m.w new.length 0 e acU.1;have adA:Ev (m.with fu) ((m.with fu).dB W s m.w.heap.size (grownCap m.w new.length 0 e) (.arr e sz new)):=lH hg (aaj _);have hgs:=ux hfu s;refine⟨_,(m.with fu).dB W s m.w.heap.size (grownCap m.w new.length 0 e) (.arr e sz new),.inl (run _ _ (by rw[hdv,hxv];exact aa6)),lE hg (aaj _) (by rw[<- hW];simp) abD ?_,acD.trans adA,lG abD (aaj _),?_,?_⟩
   .refine⟨_,by rw[j9,zi,<- hW];exact heap_alloc_new m.w.drew _,aaP,aas,by rw[dz];exact aa1,by rw[dz];exact aem,?_,?_⟩
    .rw[dz];simp only[Array.size_append,List.size_toArray,size_zeroCells,hzs,hnl,hs,<- aa3];congr 1;omega
    have:(news.toArray++Builtin.zeroCells zv.cells (grownCap m.w new.length 0 e-new.length)).toList.take (new.length*sz)=news:=by simp only[Array.toList_append];rw[<- hs,<- hnl];exact List.take_left
    rw[this];exact aR.ev adA.zero (aR.pw.2 hpw)
   .rw[pN,tq];simp only[Mem.with];rw[hgs]
   have:=lW (m:=m.with fu) (w':=W) (s:=s) (c:=m.w.heap.size) (ty:=e) (sz:=sz) (es:=new) aa1 aem;simp only[Mem.with] at this;rw[hgs] at this;exact this
  cases hv
 .rename_i id g zz len hds;rw[hds] at hrd;split at hv
  .rename_i g' ty' sz' es hbk;split at hv
   .rename_i abH;obtain⟨hgg,rfl,rfl,hlen,aa8,aqN⟩:=abH;cases hv;have aqL:id∉fr:=by simpa using aqN
    have hb1:(m.with fu).blk id=m.blk id:=by
     rcases kG hfu id with ⟨e,_⟩|⟨hin,_⟩
     .exact e
     exact(aqL hin).elim
    have hb2:((m.with fu).blk id).2=some (.arr ty' sz' es):=by rw[hb1,hbk]
    obtain⟨cur,hh,_,hsz,hl,hmx,hcs,aqt⟩:=abD.obj id _ hb2;have hcd:bJ m _ (a.eval d):=hrd;generalize hdv:a.eval d=dv at hcd;cases hcd with
    |hsl ad cap hg hll hmm hhd=>
     obtain⟨f1,f2,f3⟩:=hhd sz' (by rw[hbk];exact hgg) (by rw[hbk];rfl);have aa1:=f3 rfl;have had:=f2 (.inl rfl);rw[act] at had;subst had;unfold room at aa8;have hgs:=ux hfu s;have hgid:=ux hfu id;have ab8:len*sz'<=es.length*sz':=abz _ hlen;have hl2:es.length*sz'<=m.κ id*sz':=abz _ hl;have aeH:Pw (aZ (m.with fu).w (m.with fu).own) (es.take len).flatten (cur.toList.take (len*sz')):=by rw[lI hsz];have h1:=(aR.pw.1 aqt).take (len*sz');rw[List.take_take,acu ab8] at h1;exact h1
     have htl:(es.take len).length=len:=by simp;omega
     have ajO:∀x∈es.take len++new,x.length=sz':=by
      intro x hx;rcases aaR.1 hx with hx|hx
      .exact hsz x (acf hx)
      exact aas x hx
     have hnl0:len+new.length<=(len+new.length)*bytes:=adU _ adm;have hup:∀q:jS,app (fu++[(id,(g,none)),q]) m.blk=fY (fY (m.with fu).blk id (((m.with fu).blk id).1,none)) q.1 q.2:=by intro q;rw[pN];simp only[app];rw[hb1,hbk,hgg];rfl
     have ab7:(es.take len++new).length=len+new.length:=by rw[aaY,htl]
     by_cases hfit:len+new.length<=cap
     · -- in its own block
      have key:∀(w':World) (adN:Array Value),(execOp a.eval o).run P m.w=.ok (.value (.slice (some ⟨m.σ id,0,none⟩) (len+new.length) cap)) w'->w'.os=m.w.os->w'.tape=m.w.tape->w'.output=m.w.output->w'.heap.size=m.w.heap.size->
        (∀x,x≠m.σ id->w'.heap[x]?=m.w.heap[x]?)->w'.heap[m.σ id]?=some (.cells adN ty' (0,0))->adN.size=cur.size->Pw (aZ (m.with fu).w (m.with fu).own) (es.take len++new).flatten (adN.toList.take ((len+new.length)*sz'))->
        eI P w0 a.eval o m (.one (.hsl s ((m.blk s).1+1) sz' 0 (len+new.length))) (fu++[(id,(g,none)),(s,((m.blk s).1+1,some (.arr ty' sz' (es.take len++new))))]):=by
       intro w' adN aa6 q1 q2 q3 q4 q5 q6 q7 q8;obtain⟨m',e1,e2,e3,e4,e5,e6⟩:=WH (s:=s) abD hb2 rfl aaP q1 q2 q3 q4 q5 q6 ajO (by rw[ab7];rw[aa1] at hfit;exact hfit) hmx (by rw[q7];exact hcs) (by rw[ab7];exact q8);rw[ab7] at e6;have ai6:((m.with fu).blk s).1=(m.blk s).1:=hgs;rw[ai6] at e6 e5;refine⟨_,m',.inl (by rw[e1];exact aa6),e2,acD.trans e3,e4,by rw[e5,hup],?_⟩;rw[aa1];exact e6
      by_cases hn0:new=[]
      .subst hn0;have am1:(execOp a.eval o).run P m.w=.ok (.value (.slice (some ⟨m.σ id,0,none⟩) (len+([]:List (List PV)).length) cap)) m.w:=by
        apply run;rw[hdv,hxv];have aqX:len<=cap:=hll;cases ax<;>simp[Builtin.append_,run_underlying ht,sizeOf,typeInfo,hi,Builtin.lenOf,Builtin.firstCells,loadCells,loadCellsFrom,aqX,storeCells]
       exact key m.w cur am1 rfl rfl rfl rfl (fun _ _=>rfl) hh rfl (by simpa using aeH)
      obtain⟨b,off,news,rfl,hpw,ab9⟩:=ab6 hn0;have hnl:news.length=new.length*i.size:=by rw[hpw.1,afn,hs]
      have acy:len*i.size+news.length<=cur.size:=by rw[hnl,hs,hcs,<- aa3];rw[aa1] at hfit;exact abz _ hfit
      have aa6:=run_append_room (P:=P) m.w t o.type ty' i ht hi (m.σ id) len cap cur hh ⟨b,off,none⟩ new.length cx news hnl (fun j v hj=>by rw[Addr.add_lit];exact ab9 j v hj) (WL hpw) hfit acy;have am0:(execOp a.eval o).run P m.w=.ok (.value (.slice (some ⟨m.σ id,0,none⟩) (len+new.length) cap)) _:=run _ _ (by rw[hdv,hxv];exact aa6);have aro:len*i.size<=cur.size:=abm (Nat.le_add_right _ _) acy;refine key _ _ am0 ?_ ?_ ?_ ?_ (fun x hx=>setRow_other m.w (m.σ id) x _ hx) (rF hh) ?_ ?_
      .rfl
      .rfl
      .rfl
      .exact setRow_size m.w _ _
      .rw[List.size_toArray,aaY,aaY,aa2,abk,Array.length_toList];omega
      have h1:=aeH.append hpw;rw[<- ac8] at h1;have:(cur.toList.take (len*i.size)++news++cur.toList.drop (len*i.size+news.length)).take ((len+new.length)*sz')=cur.toList.take (len*sz')++news:=by
       rw[hs];have hcl:(cur.toList.take (len*sz')).length=len*sz':=by rw[aa2,Array.length_toList];rw[hs] at aro;omega
       have ag7:(cur.toList.take (len*sz')++news).length=(len+new.length)*sz':=by rw[aaY,hcl,hnl,hs,aa3]
       rw[adS (ac7 ag7.symm)];exact aa4 (ac7 ag7)
      simp only[List.toList_toArray] at this ⊢;rw[this];exact h1
     · -- a new block
      have hn0:new≠[]:=fun e=>by subst e;simp at hfit;omega
      obtain⟨b,off,news,rfl,hpw,ab9⟩:=ab6 hn0;have hnl:news.length=new.length*i.size:=by rw[hpw.1,afn,hs]
      have akM:(cur.toList.take (len*sz')).length=len*i.size:=by rw[hs,aa2,Array.length_toList];have hcs2:cur.size=m.κ id*sz':=hcs;omega
      have aa6:=run_append_grow (P:=P) m.w t o.type ty' i zv ht hi hiz ⟨m.σ id,0,none⟩ len cap (cur.toList.take (len*sz')) akM (fun j v hj=>by
        rw[Addr.add_lit,abd];have:(m.w.cell? ⟨m.σ id,j,none⟩)=cur[j]? :=qY hh;rw[this];rw[aby] at hj;split at hj
        .simpa using hj
        cases hj) ⟨b,off,none⟩ new.length cx news hnl (fun j v hj=>by rw[Addr.add_lit];exact ab9 j v hj) (by omega) (by omega) (growslice_fits (by omega) (by rw[hb];omega))
      have acU:len+new.length<=maxLen:=by simp only[maxLen];omega
      have hgc:=grownCap_ge m.w (len+new.length) cap ty';have hgm:=grownCap_le_maxLen m.w (len+new.length) cap ty' acU;generalize hcc:grownCap m.w (len+new.length) cap ty'=cc at aa6 hgc hgm;generalize hW:m.w.drew.alloc (.cells ((cur.toList.take (len*sz')).toArray++news.toArray++Builtin.zeroCells zv.cells (cc-(len+new.length))) ty')=W at aa6;have ane:=My (fr':=m.fr) (GA abD hb2 rfl) (fun c hc=>.inl hc);have arc:Ev (m.with fu) {(m.with fu).fp id with fr:=m.fr}:=(nH hb2 rfl).trans (BW (fun c hc=>.inl hc));have hg2:eU ({(m.with fu).fp id with fr:=m.fr}:Mem).w W:=by rw[<- hW];exact(eU.drew _).trans (eU.alloc _ _)
      have adA:Ev ({(m.with fu).fp id with fr:=m.fr}:Mem) (({(m.with fu).fp id with fr:=m.fr}:Mem).dB W s m.w.heap.size cc (.arr ty' sz' (es.take len++new))):=lH hg2 (aaj _);have anK:=arc.trans adA;have ai6:((({(m.with fu).fp id with fr:=m.fr}:Mem)).blk s).1=(m.blk s).1:=by
       simp only[Mem.fp,aa];split
       .rename_i e';subst e';exact hgs
       exact hgs
      refine⟨_,({(m.with fu).fp id with fr:=m.fr}:Mem).dB W s m.w.heap.size cc (.arr ty' sz' (es.take len++new)),.inl (run _ _ (by rw[hdv,hxv];exact aa6)),lE hg2 (aaj _) (by rw[<- hW];simp) ane ?_,acD.trans anK,lG ane (aaj _),?_,?_⟩
      .refine⟨_,by rw[j9,zi,<- hW];exact heap_alloc_new m.w.drew _,aaP,ajO,by rw[dz,ab7];exact hgc,by rw[dz];exact hgm,?_,?_⟩
       .rw[dz];simp only[Array.size_append,List.size_toArray,size_zeroCells,hzs,hnl,akM,hs,<- aa3];congr 1;omega
       have h1:=aeH.append hpw;rw[<- ac8] at h1;have:((cur.toList.take (len*sz')).toArray++news.toArray++Builtin.zeroCells zv.cells (cc-(len+new.length))).toList.take ((es.take len++new).length*sz')=cur.toList.take (len*sz')++news:=by simp only[Array.toList_append,ab7];exact List.take_left' (by rw[aaY,List.toList_toArray,List.toList_toArray,akM,hnl,hs,aa3])
       rw[this];exact aR.ev anK.zero (aR.pw.2 h1)
      .rw[tq,hup];simp only[app];rw[ai6];rfl
      have:=lW (m:=({(m.with fu).fp id with fr:=m.fr}:Mem)) (w':=W) (s:=s) (c:=m.w.heap.size) (ty:=ty') (sz:=sz') (es:=es.take len++new) hgc hgm;rw[ai6] at this;exact this
   cases hv
  cases hv
 cases hv
end
end Go.Abs
