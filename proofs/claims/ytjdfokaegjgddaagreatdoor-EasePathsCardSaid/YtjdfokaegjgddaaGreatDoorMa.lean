/-
  An abstract machine for the code of the model.
-/
import Derived.Calls
import Derived.WalkKit
set_option linter.all false
namespace Go.Abs
theorem aab:type_of% @List.mem_of_getElem?.{0}:=@List.mem_of_getElem?.{0}
theorem aac:type_of% @List.getElem?_eq_some_iff.{0}:=@List.getElem?_eq_some_iff.{0}
theorem aad:type_of% @Nat.le_refl:=@Nat.le_refl
theorem aae:type_of% @Nat.zero_le:=@Nat.zero_le
theorem aaf:type_of% @Bool.and_eq_true:=@Bool.and_eq_true
theorem aag:type_of% @List.mem_cons.{0}:=@List.mem_cons.{0}
theorem aah:type_of% @List.length_map.{0,0}:=@List.length_map.{0,0}
theorem aal:type_of% @List.getD_eq_getElem?_getD.{0}:=@List.getD_eq_getElem?_getD.{0}
theorem aan:type_of% @List.mem_map.{0,0}:=@List.mem_map.{0,0}
theorem aap:type_of% @Option.map_eq_some_iff.{0,0}:=@Option.map_eq_some_iff.{0,0}
theorem aaq:type_of% @Bool.false_eq_true:=@Bool.false_eq_true
theorem aar:type_of% @List.map_cons.{0,0}:=@List.map_cons.{0,0}
theorem aas:type_of% @List.length_cons.{0}:=@List.length_cons.{0}
theorem aat:type_of% @Nat.mod_lt:=@Nat.mod_lt
theorem aau:type_of% @Option.some.injEq.{0}:=@Option.some.injEq.{0}
theorem aav:type_of% @List.mem_range:=@List.mem_range
theorem aaw:type_of% @List.mem_append.{0}:=@List.mem_append.{0}
theorem aay:type_of% @List.length_take.{0}:=@List.length_take.{0}
theorem aaz:type_of% @List.getElem?_map.{0,0}:=@List.getElem?_map.{0,0}
theorem aaA:type_of% @List.length_nil.{0}:=@List.length_nil.{0}
theorem aaB:type_of% @Nat.mod_eq_of_lt:=@Nat.mod_eq_of_lt
theorem aaC:type_of% @List.not_mem_nil.{0}:=@List.not_mem_nil.{0}
theorem aaD:type_of% @List.take_of_length_le.{0}:=@List.take_of_length_le.{0}
theorem aaE:type_of% @List.nil_append.{0}:=@List.nil_append.{0}
theorem aaF:type_of% @List.length_append.{0}:=@List.length_append.{0}
theorem aaM:type_of% @Nat.add_mul:=@Nat.add_mul
theorem aaN:type_of% @List.map_append.{0,0}:=@List.map_append.{0,0}
theorem aaO:type_of% @List.getElem?_of_mem.{0}:=@List.getElem?_of_mem.{0}
theorem aaP:type_of% @List.all_eq_true.{0}:=@List.all_eq_true.{0}
theorem aaQ:type_of% @List.length_pos_iff.{0}:=@List.length_pos_iff.{0}
theorem aaR:type_of% @Bool.not_eq_true':=@Bool.not_eq_true'
theorem aaS:type_of% @Option.getD_some.{0}:=@Option.getD_some.{0}
theorem aaT:type_of% @Prod.mk.injEq.{0,0}:=@Prod.mk.injEq.{0,0}
theorem aaU:type_of% @Nat.le_of_ble_eq_true:=@Nat.le_of_ble_eq_true
theorem aaV:type_of% @List.take_length.{0}:=@List.take_length.{0}
theorem aa0:type_of% @Nat.zero_add:=@Nat.zero_add
theorem aa1:type_of% @List.length_drop.{0}:=@List.length_drop.{0}
theorem aa2:type_of% @List.take_append_drop.{0}:=@List.take_append_drop.{0}
theorem aa3:type_of% @List.getElem?_take.{0}:=@List.getElem?_take.{0}
theorem aba:type_of% @Int.toNat_natCast:=@Int.toNat_natCast
theorem abb:type_of% @List.map_nil.{0,0}:=@List.map_nil.{0,0}
theorem abc:type_of% @Nat.le_trans:=@Nat.le_trans
theorem abd:type_of% @List.pairwise_cons.{0}:=@List.pairwise_cons.{0}
theorem abe:type_of% @Nat.lt_succ_iff_lt_or_eq:=@Nat.lt_succ_iff_lt_or_eq
theorem abf:type_of% @Option.map_some.{0,0}:=@Option.map_some.{0,0}
theorem abh:type_of% @Nat.mul_le_mul_right:=@Nat.mul_le_mul_right
theorem abi:type_of% @List.length_set.{0}:=@List.length_set.{0}
theorem abj:type_of% @List.getElem?_set.{0}:=@List.getElem?_set.{0}
theorem abk:type_of% @List.nodup_cons.{0}:=@List.nodup_cons.{0}
theorem abl:type_of% @List.flatten_cons.{0}:=@List.flatten_cons.{0}
theorem abm:type_of% @List.mem_singleton.{0}:=@List.mem_singleton.{0}
theorem abn:type_of% @List.take_add_one.{0}:=@List.take_add_one.{0}
theorem abo:type_of% @List.append_nil.{0}:=@List.append_nil.{0}
theorem abp:type_of% @List.length_reverse.{0}:=@List.length_reverse.{0}
theorem abq:type_of% @List.map_map.{0,0,0}:=@List.map_map.{0,0,0}
theorem abr:type_of% @List.nodup_nil.{0}:=@List.nodup_nil.{0}
theorem abs:type_of% @Int.eq_ofNat_of_zero_le:=@Int.eq_ofNat_of_zero_le
theorem abu:type_of% @Option.some.inj.{0}:=@Option.some.inj.{0}
theorem abv:type_of% @List.mem_cons_of_mem.{0}:=@List.mem_cons_of_mem.{0}
theorem abw:type_of% @List.getElem?_range:=@List.getElem?_range
theorem abx:type_of% @List.append_assoc.{0}:=@List.append_assoc.{0}
theorem abz:type_of% @List.getElem?_eq_none.{0}:=@List.getElem?_eq_none.{0}
theorem abB:type_of% @Nat.not_lt_zero:=@Nat.not_lt_zero
theorem abC:type_of% @List.getElem?_eq_getElem.{0}:=@List.getElem?_eq_getElem.{0}
theorem abD:type_of% @List.mem_filter.{0}:=@List.mem_filter.{0}
theorem abF:type_of% @List.countP_append.{0}:=@List.countP_append.{0}
theorem abH:type_of% @List.getElem_cons_drop.{0}:=@List.getElem_cons_drop.{0}
theorem abL:type_of% @Nat.mod_two_eq_zero_or_one:=@Nat.mod_two_eq_zero_or_one
theorem abM:type_of% @List.countP_cons.{0}:=@List.countP_cons.{0}
theorem abX:type_of% @Nat.add_mod_right:=@Nat.add_mod_right
theorem abY:type_of% @Nat.add_zero:=@Nat.add_zero
theorem abZ:type_of% @List.range_succ:=@List.range_succ
theorem ab0:type_of% @Nat.min_eq_left:=@Nat.min_eq_left
theorem ab1:type_of% @List.mem_of_mem_drop.{0}:=@List.mem_of_mem_drop.{0}
theorem ab2:type_of% @List.mem_of_mem_take.{0}:=@List.mem_of_mem_take.{0}
theorem ab3:type_of% @List.foldl_cons.{0,0}:=@List.foldl_cons.{0,0}
theorem ab4:type_of% @Bool.or_eq_true:=@Bool.or_eq_true
theorem ab9:type_of% @List.all_cons.{0}:=@List.all_cons.{0}
theorem acd:type_of% @Nat.eq_of_beq_eq_true:=@Nat.eq_of_beq_eq_true
theorem ack:type_of% @List.ext_getElem.{0}:=@List.ext_getElem.{0}
theorem acm:type_of% @List.length_range:=@List.length_range
theorem act:type_of% @List.map_congr_left.{0,0}:=@List.map_congr_left.{0,0}
theorem acu:type_of% @List.pairwise_map.{0,0}:=@List.pairwise_map.{0,0}
theorem acv:type_of% @Nat.zero_mul:=@Nat.zero_mul
theorem acw:type_of% @List.getElem?_append_left.{0}:=@List.getElem?_append_left.{0}
theorem acx:type_of% @Nat.mod_self:=@Nat.mod_self
theorem acy:type_of% @List.map_take.{0,0}:=@List.map_take.{0,0}
theorem acz:type_of% @List.getElem?_append_right.{0}:=@List.getElem?_append_right.{0}
theorem acA:type_of% @List.getElem?_drop.{0}:=@List.getElem?_drop.{0}
theorem acC:type_of% @Bool.not_true:=@Bool.not_true
theorem acD:type_of% @Bool.false_or:=@Bool.false_or
theorem acH:type_of% @List.all_nil.{0}:=@List.all_nil.{0}
theorem acI:type_of% @List.countP_pos_iff.{0}:=@List.countP_pos_iff.{0}
theorem acJ:type_of% @List.mem_append_right.{0}:=@List.mem_append_right.{0}
theorem acN:type_of% @Nat.lt_of_lt_of_le:=@Nat.lt_of_lt_of_le
theorem ac2:type_of% @List.map_drop.{0,0}:=@List.map_drop.{0,0}
theorem ac3:type_of% @List.cons_append.{0}:=@List.cons_append.{0}
theorem ac4:type_of% @List.any_eq_false.{0}:=@List.any_eq_false.{0}
theorem ac5:type_of% @List.getElem_map.{0,0}:=@List.getElem_map.{0,0}
theorem ac6:type_of% @List.nodup_range:=@List.nodup_range
theorem ac7:type_of% @Nat.le_of_eq:=@Nat.le_of_eq
theorem ac8:type_of% @List.flatten_append.{0}:=@List.flatten_append.{0}
theorem ac9:type_of% @List.mem_flatten.{0}:=@List.mem_flatten.{0}
theorem adb:type_of% @Bool.true_and:=@Bool.true_and
theorem adc:type_of% @List.nodup_append.{0}:=@List.nodup_append.{0}
theorem adh:type_of% @List.countP_map.{0,0}:=@List.countP_map.{0,0}
theorem adi:type_of% @Nat.le_max_left:=@Nat.le_max_left
theorem adk:type_of% @Nat.add_assoc:=@Nat.add_assoc
theorem adm:type_of% @List.take_take.{0}:=@List.take_take.{0}
theorem ado:type_of% @Bool.and_true:=@Bool.and_true
theorem adp:type_of% @List.foldl_append.{0,0}:=@List.foldl_append.{0,0}
theorem adw:type_of% @List.countP_eq_zero.{0}:=@List.countP_eq_zero.{0}
theorem adx:type_of% @List.ext_getElem?.{0}:=@List.ext_getElem?.{0}
theorem ady:type_of% @List.perm_middle.{0}:=@List.perm_middle.{0}
theorem adB:type_of% @Nat.le_max_right:=@Nat.le_max_right
theorem adD:type_of% @List.find?_eq_none.{0}:=@List.find?_eq_none.{0}
theorem adE:type_of% @List.getElem_set.{0}:=@List.getElem_set.{0}
theorem adG:type_of% @List.getElem_range:=@List.getElem_range
theorem adM:type_of% @List.countP_congr.{0}:=@List.countP_congr.{0}
theorem adN:type_of% @List.mem_cons_self.{0}:=@List.mem_cons_self.{0}
theorem adO:type_of% @Nat.add_sub_cancel:=@Nat.add_sub_cancel
theorem adQ:type_of% @List.pairwise_singleton.{0}:=@List.pairwise_singleton.{0}
theorem adR:type_of% @List.pairwise_append.{0}:=@List.pairwise_append.{0}
theorem adS:type_of% @List.mem_of_find?_eq_some.{0}:=@List.mem_of_find?_eq_some.{0}
theorem adT:type_of% @List.idxOf_lt_length_iff.{0}:=@List.idxOf_lt_length_iff.{0}
theorem adU:type_of% @List.perm_append_comm.{0}:=@List.perm_append_comm.{0}
theorem adV:type_of% @List.contains_iff_mem.{0}:=@List.contains_iff_mem.{0}
theorem adW:type_of% @List.take_append_of_le_length.{0}:=@List.take_append_of_le_length.{0}
theorem adX:type_of% @List.eq_of_mem_replicate.{0}:=@List.eq_of_mem_replicate.{0}
theorem adY:type_of% @Bool.or_eq_false_iff:=@Bool.or_eq_false_iff
theorem adZ:type_of% @Option.bind_eq_some_iff.{0,0}:=@Option.bind_eq_some_iff.{0,0}
theorem ad1:type_of% @List.pairwise_iff_getElem.{0}:=@List.pairwise_iff_getElem.{0}
theorem ad2:type_of% @List.length_eq_zero_iff.{0}:=@List.length_eq_zero_iff.{0}
inductive PV where
 |bool (b:Bool)
 |int (k:IntKind) (n:Int)
 |str (s:ByteArray)
 |ZX|nils|Zt|YF|nili|ifc
 |box (cs:List PV)
 |sl (es:List (List PV))
 |mp (ag:Bool) (es:List (PV×List PV))
 |fn (f:Nat) (first cap:List PV)
 deriving Inhabited
inductive C where
 |p (v:PV)
 |Yh (id g off:Nat)
 |YJ (id g i off:Nat)
 |hsl (id g sz off len:Nat)
 |YW (id g:Nat)
 |hfn (f:Nat) (first cap:List C)
 deriving Inhabited
inductive V where
 |undef
 |one (c:C)
 |agg (cs:List C)
 |tup (vs:List V)
 deriving Inhabited
inductive Ob where
 |var (cs:List C)
 |arr (ty sz:Nat) (es:List (List PV))
 |YP (ty sz:Nat) (es:List (List C))
 |map (ag:Bool) (es:List (PV×List PV))
 |fvar (cs:List PV)
 |Zr (ty sz:Nat) (es:List (List PV))
 |fmap (ag:Bool) (es:List (PV×List PV))
 deriving Inhabited
abbrev Env:=Nat->V
abbrev aE:=Nat->Nat×Option Ob
def ij{α:Type}(f:Nat->α)(a:Nat)(x:α):Nat->α:=fun i=>if i=a then x else f i
theorem ae{α:Type}(f:Nat->α)(a b:Nat)(x:α):ij f a x b=if b=a then x else f b:=rfl
inductive aC where
 |t (n:Nat)
 |i (n:Int)
 |b (x:Bool)
 |k (v:V)
inductive KN where
 |bool|ptr|slc|map|fnc|ifc
 |str (ks:List Bool)
inductive vP where
 |mov (x:aC)
 |pick (c a b:aC)
 |alloc (site:Nat) (z:List PV)
 |box (site:Nat) (x:aC)
 |build (z:List PV) (parts:List (Nat×Nat×aC))
 |Yl (site ty sz:Nat) (parts:List aC)
 |load (k:Option Nat) (x:aC)
 |store (n:Nat) (a x:aC)
 |Zf (x:aC)
 |bin (op:BinOp) (x y:aC)
 |eqc (k:KN) (neg:Bool) (x y:aC)
 |un (op:UnOp) (x:aC)
 |conv (k:IntKind) (x:aC)
 |bstr (x:aC)
 |mkfn (f:Nat) (first cap:List aC)
 |mkmap (site:Nat) (ag:Bool)
 |Yx (site ty sz bytes:Nat) (z:List PV) (len cap:aC)
 |slice (sz:Nat) (x:aC) (lo hi:Option aC)
 |sslice (x:aC) (lo hi:Option aC)
 |ZH (off:Nat) (x:aC)
 |Zc (sz:Nat) (x i:aC)
 |ZT (len sz:Nat) (x i:aC)
 |fld (off:Nat) (k:Option Nat) (x:aC)
 |aidx (len sz:Nat) (k:Option Nat) (x i:aC)
 |sidx (x i:aC)
 |lookup (kd:Nat) (z:List PV) (agg ok:Bool) (x k:aC)
 |mupd (kd:Nat) (ag:Bool) (m k v:aC)
 |bad
 |extract (x:aC) (i:Nat)
 |call (site:Nat) (f:aC) (args:List aC)
 |slen (x:aC)
 |abg (x:aC)
 |mlen (x:aC)
 |append (site ty sz bytes:Nat) (s x:aC)
 |max (x y:aC)
 |min (x y:aC)
 |clear (z:List PV) (x:aC)
structure aj where
 dst:Option Nat
 op:vP
 guard:Option (Nat×Bool)
 anc:Nat
inductive aq where
 |skip
 |region (draw:Bool) (ops:List aj)
 |seq (a b:aq)
 |cond (x:aC) (a b:aq)
 |block (id:Nat) (c:aq)
 |loop (c:aq)
 |exit (id:Nat)
 |ret
 |bad
structure dD where
 ntmps:Nat
 results:List (Nat×Option (Option Nat))
 body:aq
def ev (env:Env):aC->V
 | .t n=>env n
 | .i n=>.one (.p (.int .i64 n))
 | .b x=>.one (.p (.bool x))
 | .k v=>v
abbrev kB:=Nat×(Nat×Option Ob)
def app:List kB->aE->aE
 |[],b=>b
 |(i,o)::r,b=>app r (ij b i o)
def PV.norm:PV->PV
 | .nils=>.sl []
 |v=>v
def toP:C->Option PV
 | .p v=>some v.norm
 |_=>none
def AP:List C->Option (List PV)
 |[]=>some []
 |c::r=>match toP c,AP r with
  |some v,some vs=>some (v::vs)
  |_,_=>none
def gj:V->Option (List C)
 | .one c=>some [c]
 | .agg cs=>some cs
 |_=>none
def collect{α β:Type}(f:α->Option (β×List Nat)):List α->Option (List β×List Nat)
 |[]=>some ([],[])
 |a::r=>match f a,collect f r with
  |some (b,x),some (bs,y)=>some (b::bs,x++y)
  |_,_=>none
def snap(X9:aE):Nat->C->Option (PV×List Nat)
 |0,_=>none
 |n+1,c=>match c with
  | .p v=>some (v.norm,[])
  | .Yh id g off=>match X9 id with
   |(g',some (.var cs))=>if g'=g then
     match collect (snap X9 n) cs with
     |some (ps,r)=>some (.box (ps.drop off),id::r)
     |none=>none
    else none
   |(g',some (.fvar ps))=>if g'=g then some (.box (ps.drop off),[id]) else none
   |_=>none
  | .YJ id g i off=>match X9 id with
   |(g',some (.arr _ _ es))=>if g'=g then (es[i]?).map fun e=>(.box (e.drop off),[id]) else none
   |(g',some (.Zr _ _ es))=>if g'=g then (es[i]?).map fun e=>(.box (e.drop off),[id]) else none
   |_=>none
  | .hsl id g z off len=>match X9 id with
   |(g',some (.arr _ _ es))=>if g'=g/\off+len<=es.length then some (.sl ((es.drop off).take len),[id]) else none
   |(g',some (.Zr _ _ es))=>if g'=g/\off+len<=es.length then some (.sl ((es.drop off).take len),[id]) else none
   |(g',some (.YP _ _ es))=>if g'=g/\off+len<=es.length then
     match collect (collect (snap X9 n)) ((es.drop off).take len) with
     |some (ps,r)=>some (.sl ps,id::r)
     |none=>none
    else none
   |_=>none
  | .YW id g=>match X9 id with
   |(g',some (.map ag es))=>if g'=g then some (.mp ag es,[id]) else none
   |(g',some (.fmap ag es))=>if g'=g then some (.mp ag es,[id]) else none
   |_=>none
  | .hfn f a b=>match collect (snap X9 n) a,collect (snap X9 n) b with
   |some (x,r),some (y,s)=>some (.fn f x y,r++s)
   |_,_=>none
def cn:Nat:=6
def gI(X9:aE):V->Option (V×List Nat)
 | .one c=>(snap X9 cn c).map fun(v,r)=>(.one (.p v),r)
 | .agg cs=>(collect (snap X9 cn) cs).map fun(vs,r)=>(.agg (vs.map .p),r)
 |_=>none
def wY(X9:aE)(all:List Nat)(id:Nat):Option (List kB):=
 match X9 id with
 |(g,some (.var cs))=>match collect (snap X9 cn) cs with
  |some (ps,r)=>if r.all all.contains then some [(id,(g,some (.fvar ps)))] else none
  |none=>none
 |(g,some (.arr ty sz es))=>some [(id,(g,some (.Zr ty sz es)))]
 |(g,some (.YP ty sz es))=>match collect (collect (snap X9 cn)) es with
  |some (ps,r)=>if r.all all.contains then some [(id,(g,some (.Zr ty sz ps)))] else none
  |none=>none
 |(g,some (.map ag es))=>some [(id,(g,some (.fmap ag es)))]
 |(_,none)=>none
 |_=>some []
def te(X9:aE)(all:List Nat):List Nat->Option (List kB)
 |[]=>some []
 |i::r=>match wY X9 all i,te X9 all r with
  |some a,some b=>some (a++b)
  |_,_=>none
def Iv(X9:aE)(ids:List Nat):Option (List kB):=te X9 ids ids
inductive RC where
 |p (v:PV)
 |own (ty sz:Nat) (es:List (List PV))
 deriving Inhabited
inductive RV where
 |one (c:RC)
 |agg (cs:List RC)
 |tup (vs:List RV)
 deriving Inhabited
def RC.pure:RC->RC
 | .p v=>.p v
 | .own _ _ es=>.p (.sl es)
def RV.yD:RV->RV
 | .one c=>.one c.pure
 | .agg cs=>.agg (cs.map RC.pure)
 | .tup vs=>.tup vs
def RV.pure:RV->RV
 | .tup vs=>.tup (vs.map RV.yD)
 |v=>v.yD
def RV.bZ(b:Bool)(r:RV):RV:=match b with
 |true=>r.pure
 |false=>r
def PV.scalar:PV->Bool
 | .bool _| .int _ _| .str _| .ZX| .nils| .Zt| .YF| .nili| .ifc=>true
 |_=>false
def RC.alone:RC->Bool
 | .p v=>v.scalar
 | .own _ _ es=>es.all fun e=>e.all PV.scalar
def jg(X9:aE)(c:C):Option (RC×List Nat×List Nat):=
 match c with
 | .p v=>some (.p v,[],[])
 | .hsl id g z 0 len=>match X9 id with
  |(g',some (.arr ty sz es))=>if g'=g/\len<=es.length then some (.own ty sz (es.take len),[id],[]) else none
  |_=>(snap X9 cn c).map fun(v,r)=>(.p v,[],r)
 |_=>(snap X9 cn c).map fun(v,r)=>(.p v,[],r)
def gK(X9:aE):List C->Option (List RC×List Nat×List Nat)
 |[]=>some ([],[],[])
 |c::r=>match jg X9 c,gK X9 r with
  |some (x,o,q),some (xs,os,qs)=>some (x::xs,o++os,q++qs)
  |_,_=>none
def fE:V->Option (List C)
 | .one c=>some [c]
 | .agg cs=>some cs
 |_=>none
def jH:List V->Option (List C)
 |[]=>some []
 |v::r=>match fE v,jH r with
  |some a,some b=>some (a++b)
  |_,_=>none
def lW:V->Option (List C)
 | .tup vs=>jH vs
 |v=>fE v
def ik:V->List RC->RV×List RC
 | .one _,r::rs=>(.one r,rs)
 | .agg cs,rs=>(.agg (rs.take cs.length),rs.drop cs.length)
 |_,rs=>(.agg [],rs)
def oq:List V->List RC->List RV
 |[],_=>[]
 |v::r,rs=>(ik v rs).1::oq r (ik v rs).2
def ni:V->List RC->RV
 | .tup vs,rs=>.tup (oq vs rs)
 |v,rs=>(ik v rs).1
def apart:List Nat->List Nat->Bool
 |[],_=>true
 |i::r,q=> !r.contains i&& !q.contains i&&apart r q
def iE(X9:aE)(v:V):Option RV:=
 match lW v with
 |some cs=>match gK X9 cs with
  |some (x,o,q)=>if apart o q then some (ni v x) else none
  |none=>none
 |none=>none
def ju(X9:aE)(site:Nat):RC->C×List kB
 | .p v=>(.p v,[])
 | .own ty sz es=>(.hsl site ((X9 site).1+1) sz 0 es.length,[(site,((X9 site).1+1,some (.arr ty sz es)))])
def iO(X9:aE)(site:Nat):List RC->List C×List kB
 |[]=>([],[])
 |c::r=>((ju X9 site c).1::(iO X9 (site+1) r).1,(ju X9 site c).2++(iO X9 (site+1) r).2)
def dJ:RV->List RC
 | .one c=>[c]
 | .agg cs=>cs
 | .tup _=>[]
def gh:List RV->List RC
 |[]=>[]
 |v::r=>dJ v++gh r
def eZ:RV->List RC
 | .tup vs=>gh vs
 |v=>dJ v
def fD:RV->List C->V×List C
 | .one _,c::cs=>(.one c,cs)
 | .agg rs,cs=>(.agg (cs.take rs.length),cs.drop rs.length)
 |_,cs=>(.undef,cs)
def iN:List RV->List C->List V
 |[],_=>[]
 |v::r,cs=>(fD v cs).1::iN r (fD v cs).2
def lJ:RV->List C->V
 | .tup vs,cs=>.tup (iN vs cs)
 |v,cs=>(fD v cs).1
def RV.alone(r:RV):Bool:=(eZ r).all RC.alone
def uu(X9:aE)(site:Nat)(r:RV):V×List kB:=(lJ r (iO X9 site (eZ r)).1,(iO X9 site (eZ r)).2)
inductive eS where
 |fail
 |done (v:V) (u:List kB) (rd:List Nat)
 |pc (f:Nat) (args:List V) (rd:List Nat) (site:Nat)
 |sc (f:Nat) (args:List V)
def AS(X9:aE):V->Option (List C×List Nat)
 | .one (.p (.box cs))=>some (cs.map .p,[])
 | .one (.Yh id g off)=>match X9 id with
  |(g',some (.var cs))=>if g'=g then some (cs.drop off,[id]) else none
  |(g',some (.fvar cs))=>if g'=g then some ((cs.drop off).map .p,[id]) else none
  |_=>none
 | .one (.YJ id g i off)=>match X9 id with
  |(g',some (.arr _ _ es))=>if g'=g then (es[i]?).map fun e=>((e.drop off).map .p,[id]) else none
  |(g',some (.Zr _ _ es))=>if g'=g then (es[i]?).map fun e=>((e.drop off).map .p,[id]) else none
  |(g',some (.YP _ _ es))=>if g'=g then (es[i]?).map fun e=>(e.drop off,[id]) else none
  |_=>none
 |_=>none
def iC(k:Option Nat)(cs:List C):Option V:=
 match k with
 |none=>match cs with
  |c::_=>some (.one c)
  |[]=>none
 |some n=>if n<=cs.length then some (.agg (cs.take n)) else none
def bi{α:Type}(cs:List α)(off:Nat)(xs:List α):List α:=cs.take off++xs++cs.drop (off+xs.length)
def xN(X9:aE)(a:V)(n:Nat)(xs:List C):eS:=
 if xs.length≠n then .fail else
 match a with
 | .one (.Yh id g off)=>match X9 id with
  |(g',some (.var cs))=>if g'=g/\off+n<=cs.length then .done .undef [(id,(g,some (.var (bi cs off xs))))] [id] else .fail
  |_=>.fail
 | .one (.YJ id g i off)=>match X9 id with
  |(g',some (.arr ty sz es))=>match es[i]?,AP xs with
   |some e,some ps=>if g'=g/\off+n<=e.length then .done .undef [(id,(g,some (.arr ty sz (es.set i (bi e off ps)))))] [id] else .fail
   |_,_=>.fail
  |_=>.fail
 |_=>.fail
def cM(X9:aE):V->Option (List (List PV)×List Nat×List Nat)
 | .one (.p .nils)=>some ([],[],[])
 | .one (.p (.sl es))=>some (es,[],[])
 | .one (.hsl id g z off len)=>match X9 id with
  |(g',some (.arr _ _ es))=>if g'=g/\off+len<=es.length then some ((es.drop off).take len,[id],[]) else none
  |(g',some (.Zr _ _ es))=>if g'=g/\off+len<=es.length then some ((es.drop off).take len,[id],[]) else none
  |(g',some (.YP _ _ es))=>if g'=g/\off+len<=es.length then
    match collect (collect (snap X9 cn)) ((es.drop off).take len) with
    |some (ps,r)=>some (ps,[id],r)
    |none=>none
   else none
  |_=>if len=0 then some ([],[id],[]) else none
 |_=>none
def iD(sz:Nat)(es:List (List PV)):Bool:=es.all fun e=>e.length==sz
def mg:V->Option Nat
 | .one (.hsl _ _ z _ _)=>some z
 |_=>none
def room:Nat:=140737488355328
def aN(X9:aE)(site ty sz bytes:Nat)(s x:V):eS:=
 match cM X9 x with
 |none=>.fail
 |some (new,rd,fr)=>
  if ¬(mg x=some sz\/iD sz new=true) then .fail else
  match Iv X9 fr with
  |none=>.fail
  |some fu=>
   match s with
   | .one (.p .nils)=>
    if new.length=0 then .done (.one (.p .nils)) fu (rd++fr) else
    if new.length*bytes<=room then
     .done (.one (.hsl site ((X9 site).1+1) sz 0 new.length)) (fu++[(site,((X9 site).1+1,some (.arr ty sz new)))]) (site::rd++fr)
    else .fail
   | .one (.hsl id g z 0 len)=>match X9 id with
    |(g',some (.arr ty' YR es))=>
     if g'=g/\ty'=ty/\YR=sz/\len<=es.length/\(len+new.length)*bytes<=room/\fr.contains id=false then
      .done (.one (.hsl site ((X9 site).1+1) sz 0 (len+new.length)))
       (fu++[(id,(g,none)),(site,((X9 site).1+1,some (.arr ty sz (es.take len++new))))]) (site::id::rd++fr)
     else .fail
    |_=>.fail
   |_=>.fail
def A3:V->Option Nat
 | .one (.p (.int _ n))=>if 0<=n then some n.toNat else none
 |_=>none
def fi(env:Env)(d:Nat):Option aC->Option Nat
 |none=>some d
 |some a=>A3 (ev env a)
def gY(x:V)(sz lo hi:Nat):eS:=
 if ¬lo<=hi then .fail else
 match x with
 | .one (.p .nils)=>if hi=0 then .done (.one (.p .nils)) [] [] else .fail
 | .one (.p (.sl es))=>if hi<=es.length/\iD sz es=true then .done (.one (.p (.sl ((es.drop lo).take (hi-lo))))) [] [] else .fail
 | .one (.hsl id g z off len)=>if hi<=len/\z=sz then .done (.one (.hsl id g z (off+lo) (hi-lo))) [] [] else .fail
 |_=>.fail
def wW:V->Option Nat
 | .one (.p .nils)=>some 0
 | .one (.p (.sl es))=>some es.length
 | .one (.hsl _ _ _ _ len)=>some len
 |_=>none
def y7(X9:aE):V->Option (Nat×List Nat)
 | .one (.p .Zt)=>some (0,[])
 | .one (.p (.mp _ es))=>some (es.length,[])
 | .one (.YW id g)=>match X9 id with
  |(g',some (.map _ es))=>if g'=g then some (es.length,[id]) else none
  |(g',some (.fmap _ es))=>if g'=g then some (es.length,[id]) else none
  |_=>none
 |_=>none
def mapOf(X9:aE)(ag:Bool):V->Option (List (PV×List PV)×List Nat)
 | .one (.p .Zt)=>some ([],[])
 | .one (.p (.mp ag' es))=>if ag'=ag then some (es,[]) else none
 | .one (.YW id g)=>match X9 id with
  |(g',some (.map ag' es))=>if g'=g/\ag'=ag then some (es,[id]) else none
  |(g',some (.fmap ag' es))=>if g'=g/\ag'=ag then some (es,[id]) else none
  |_=>none
 |_=>none
def sameKey:PV->PV->Option Bool
 | .int k a,.int k' b=>if k=k' then some (a==b) else none
 | .str a,.str b=>some (a==b)
 | .bool a,.bool b=>some (a==b)
 |_,_=>none
def eh:PV->Nat
 | .int _ _=>0
 | .str _=>1
 | .bool _=>2
 |_=>3
def mapVal:Bool->List PV->Option V
 |true,cs=>some (.agg (cs.map .p))
 |false,[c]=>some (.one (.p c))
 |false,_=>none
def kN(k:PV):List (PV×List PV)->Nat->Option (Option (Nat×List PV))
 |[],_=>some none
 |(a,v)::r,i=>match sameKey k a with
  |some true=>some (some (i,v))
  |some false=>kN k r (i+1)
  |none=>none
def jR:Bool->V->Option (List C)
 |false,.one c=>some [c]
 |true,.agg cs=>some cs
 |_,_=>none
def iw(op:BinOp)(k:IntKind)(a b:Int):Option PV:=
 match op with
 | .add=>some (.int k (k.wrap (a+b)))
 | .sub=>some (.int k (k.wrap (a-b)))
 | .mul=>some (.int k (k.wrap (a*b)))
 | .quo=>if b=0 then none else some (.int k (k.wrap (a.tdiv b)))
 | .rem=>if b=0 then none else some (.int k (a.tmod b))
 | .eql=>some (.bool (a==b))
 | .neq=>some (.bool (a !=b))
 | .lss=>some (.bool (decide (a<b)))
 | .leq=>some (.bool (decide (a<=b)))
 | .gtr=>some (.bool (decide (b<a)))
 | .geq=>some (.bool (decide (b<=a)))
 | .and=>some (.int k (k.wrap (BitVec.ofInt k.bits a&&& BitVec.ofInt k.bits b).toNat))
 | .shl=>if b<0 then none else some (.int k (k.wrap (a*2 ^ min b.toNat k.bits)))
 | .shr=>if b<0 then none else some (.int k (a.fdiv (2 ^ min b.toNat k.bits)))
 |_=>none
def IZ(op:BinOp)(a b:ByteArray):Option PV:=
 match op with
 | .add=>if a.size+b.size<=9223372036854775807 then some (.str (a++b)) else none
 | .eql=>some (.bool (a.toList==b.toList))
 | .neq=>some (.bool (!(a.toList==b.toList)))
 |_=>none
def pE(op:BinOp):V->V->Option V
 | .one (.p (.int k a)),.one (.p (.int k' b))=>if k=k'\/op=.shl\/op=.shr then (iw op k a b).map fun v=>.one (.p v) else none
 | .one (.p (.str a)),.one (.p (.str b))=>(IZ op a b).map fun v=>.one (.p v)
 |_,_=>none
def Kr:Bool->PV->PV->Option Bool
 |true,.int k a,.int k' b=>if k=k' then some (a==b) else none
 |false,.bool a,.bool b=>some (a==b)
 |_,_,_=>none
def ti:List Bool->List C->List C->Option Bool
 |[],[],[]=>some true
 |k::ks,.p a::r,.p b::s=>match Kr k a b with
  |some true=>ti ks r s
  |some false=>some false
  |none=>none
 |_,_,_=>none
def sY:KN->V->Option Bool
 | .ptr,.one (.p .ZX)=>some true
 | .ptr,.one (.p (.box _))=>some false
 | .ptr,.one (.Yh _ _ _)=>some false
 | .ptr,.one (.YJ _ _ _ _)=>some false
 | .slc,.one (.p .nils)=>some true
 | .slc,.one (.p (.sl (_::_)))=>some false
 | .slc,.one (.hsl _ _ _ _ _)=>some false
 | .map,.one (.p .Zt)=>some true
 | .map,.one (.p (.mp _ _))=>some false
 | .map,.one (.YW _ _)=>some false
 | .fnc,.one (.p .YF)=>some true
 | .fnc,.one (.p (.fn _ _ _))=>some false
 | .fnc,.one (.hfn _ _ _)=>some false
 | .ifc,.one (.p .nili)=>some true
 | .ifc,.one (.p .ifc)=>some false
 |_,_=>none
def Tb:KN->V->V->Option Bool
 | .bool,.one (.p (.bool a)),.one (.p (.bool b))=>some (a==b)
 | .str ks,.agg a,.agg b=>ti ks a b
 | .bool,_,_=>none
 | .str _,_,_=>none
 |k,a,b=>if sY k b=some true then sY k a else if sY k a=some true then sY k b else none
def fill(cs:List C):List (Nat×List C)->List C
 |[]=>cs
 |(off,xs)::r=>fill (bi cs off xs) r
def ky(env:Env):List (Nat×Nat×aC)->Option (List (Nat×List C))
 |[]=>some []
 |(off,n,a)::r=>match gj (ev env a),ky env r with
  |some cs,some q=>if cs.length=n then some ((off,cs)::q) else none
  |_,_=>none
def lX(env:Env)(sz:Nat):List aC->Option (List (List C))
 |[]=>some []
 |a::r=>match gj (ev env a),lX env sz r with
  |some cs,some q=>if cs.length=sz then some (cs::q) else none
  |_,_=>none
def tO:List (List C)->Option (List (List PV))
 |[]=>some []
 |c::r=>match AP c,tO r with
  |some v,some vs=>some (v::vs)
  |_,_=>none
def F6(env:Env)(a:aC):Option (Nat×List C×List C):=
 match ev env a with
 | .one (.p (.fn f x y))=>some (f,x.map .p,y.map .p)
 | .one (.hfn f x y)=>some (f,x,y)
 |_=>none
def mK(X9:aE):List V->Option (List V×List Nat):=collect (gI X9)
def bytesOf:List (List PV)->Option (List UInt8)
 |[]=>some []
 |[.int .u8 n]::r=>(bytesOf r).map (UInt8.ofNat n.toNat:: ·)
 |_::_=>none
structure Sys where
 P:Program
 shared:Nat->Bool
 sites:Nat->List Nat
 lone:Nat->Bool
 fns:Nat->Option dD
 prim:Nat->List V->Option (Option RV)
def mv(env:Env):List aC->Option (List C)
 |[]=>some []
 |a::r=>match ev env a,mv env r with
  | .one c,some q=>some (c::q)
  |_,_=>none
def aR(shared:Nat->Bool)(env:Env)(X9:aE):vP->eS
 | .mov x=>.done (ev env x) [] []
 | .pick c a b=>match ev env c with
  | .one (.p (.bool t))=>.done (if t then ev env a else ev env b) [] []
  |_=>.fail
 | .alloc s z=>.done (.one (.Yh s ((X9 s).1+1) 0)) [(s,((X9 s).1+1,some (.var (z.map .p))))] [s]
 | .box s x=>match gj (ev env x) with
  |some cs=>.done (.one (.Yh s ((X9 s).1+1) 0)) [(s,((X9 s).1+1,some (.var cs)))] [s]
  |none=>.fail
 | .build z ps=>match ky env ps with
  |some q=>.done (.agg (fill (z.map .p) q)) [] []
  |none=>.fail
 | .Yl s ty sz ps=>match lX env sz ps with
  |some es=>match tO es with
   |some qs=>.done (.one (.hsl s ((X9 s).1+1) sz 0 es.length)) [(s,((X9 s).1+1,some (.arr ty sz qs)))] [s]
   |none=>.done (.one (.hsl s ((X9 s).1+1) sz 0 es.length)) [(s,((X9 s).1+1,some (.YP ty sz es)))] [s]
  |none=>.fail
 | .load k x=>match AS X9 (ev env x) with
  |some (cs,r)=>match iC k cs with
   |some v=>.done v [] r
   |none=>.fail
  |none=>.fail
 | .store n a x=>match gj (ev env x) with
  |some xs=>xN X9 (ev env a) n xs
  |none=>.fail
 | .Zf x=>match ev env x with
  | .one (.Yh id g o)=>.done (.one (.Yh id g o)) [] []
  | .one (.YJ id g i o)=>.done (.one (.YJ id g i o)) [] []
  | .one (.p (.box cs))=>.done (.one (.p (.box cs))) [] []
  | .one (.hfn f a b)=>.done (.one (.hfn f a b)) [] []
  | .one (.p (.fn f a b))=>.done (.one (.p (.fn f a b))) [] []
  |_=>.fail
 | .bin op x y=>match pE op (ev env x) (ev env y) with
  |some v=>.done v [] []
  |none=>.fail
 | .eqc k neg x y=>match Tb k (ev env x) (ev env y) with
  |some b=>.done (.one (.p (.bool (if neg then !b else b)))) [] []
  |none=>.fail
 | .un op x=>match op,ev env x with
  | .not,.one (.p (.bool b))=>.done (.one (.p (.bool (!b)))) [] []
  | .neg,.one (.p (.int k n))=>.done (.one (.p (.int k (k.wrap (0-n))))) [] []
  |_,_=>.fail
 | .conv k x=>match ev env x with
  | .one (.p (.int _ n))=>.done (.one (.p (.int k (k.wrap n)))) [] []
  |_=>.fail
 | .bstr x=>match cM X9 (ev env x) with
  |some (es,r,[])=>match bytesOf es with
   |some bs=>.done (.one (.p (.str ⟨bs.toArray⟩))) [] r
   |none=>.fail
  |_=>.fail
 | .mkfn f a b=>match mv env a,mv env b with
  |some x,some y=>.done (.one (.hfn f x y)) [] []
  |_,_=>.fail
 | .mkmap s ag=>.done (.one (.YW s ((X9 s).1+1))) [(s,((X9 s).1+1,some (.map ag [])))] [s]
 | .Yx s ty sz bytes z l c=>match A3 (ev env l),A3 (ev env c) with
  |some n,some m=>if n=m/\n*bytes<=room then
    .done (.one (.hsl s ((X9 s).1+1) sz 0 n)) [(s,((X9 s).1+1,some (.arr ty sz (List.replicate n z))))] [s]
   else .fail
  |_,_=>.fail
 | .slice sz x lo hi=>match wW (ev env x) with
  |some n=>match fi env 0 lo,fi env n hi with
   |some l,some h=>gY (ev env x) sz l h
   |_,_=>.fail
  |none=>.fail
 | .sslice x lo hi=>match ev env x with
  | .one (.p (.str s))=>match fi env 0 lo,fi env s.size hi with
   |some l,some h=>if l<=h/\h<=s.size then .done (.one (.p (.str (s.extract l h)))) [] [] else .fail
   |_,_=>.fail
  |_=>.fail
 | .ZH off x=>match ev env x with
  | .one (.Yh id g o)=>.done (.one (.Yh id g (o+off))) [] []
  | .one (.YJ id g i o)=>.done (.one (.YJ id g i (o+off))) [] []
  | .one (.p (.box cs))=>.done (.one (.p (.box (cs.drop off)))) [] []
  |_=>.fail
 | .Zc sz x i=>match A3 (ev env i),ev env x with
  |some n,.one (.p (.sl es))=>match es[n]? with
   |some e=>if e.length=sz then .done (.one (.p (.box e))) [] [] else .fail
   |none=>.fail
  |some n,.one (.hsl id g z off len)=>if n<len/\z=sz then .done (.one (.YJ id g (off+n) 0)) [] [] else .fail
  |_,_=>.fail
 | .ZT len sz x i=>match A3 (ev env i),ev env x with
  |some n,.one (.Yh id g o)=>if n<len then .done (.one (.Yh id g (o+n*sz))) [] [] else .fail
  |some n,.one (.YJ id g j o)=>if n<len then .done (.one (.YJ id g j (o+n*sz))) [] [] else .fail
  |some n,.one (.p (.box cs))=>if n<len then .done (.one (.p (.box (cs.drop (n*sz))))) [] [] else .fail
  |_,_=>.fail
 | .fld off k x=>match ev env x with
  | .agg cs=>match iC k (cs.drop off) with
   |some v=>.done v [] []
   |none=>.fail
  |_=>.fail
 | .aidx len sz k x i=>match A3 (ev env i),ev env x with
  |some n,.agg cs=>if n<len then
    match iC k (cs.drop (n*sz)) with
    |some v=>.done v [] []
    |none=>.fail
   else .fail
  |_,_=>.fail
 | .sidx x i=>match A3 (ev env i),ev env x with
  |some n,.one (.p (.str s))=>match s[n]? with
   |some b=>.done (.one (.p (.int .u8 b.toNat))) [] []
   |none=>.fail
  |_,_=>.fail
 | .lookup kd z agg ok x k=>match mapOf X9 agg (ev env x),ev env k with
  |some (es,r),.one (.p q)=>if eh q≠kd then .fail else match kN q es 0 with
   |some f=>match mapVal agg ((f.map (·.2)).getD z) with
    |some w=>.done (if ok then .tup [w,.one (.p (.bool f.isSome))] else w) [] r
    |none=>.fail
   |none=>.fail
  |_,_=>.fail
 | .bad=>.fail
 | .mupd kd ag m k v=>match ev env m,ev env k,jR ag (ev env v) with
  | .one (.YW id g),.one (.p q),some cs=>match X9 id,AP cs with
   |(g',some (.map ag' es)),some ps=>if g'=g/\ag'=ag/\eh q=kd then
     match kN q es 0 with
     |some (some (i,_))=>.done .undef [(id,(g,some (.map ag (es.set i (q,ps)))))] [id]
     |some none=>.done .undef [(id,(g,some (.map ag (es++[(q,ps)]))))] [id]
     |none=>.fail
    else .fail
   |_,_=>.fail
  |_,_,_=>.fail
 | .extract x i=>match ev env x with
  | .tup vs=>match vs[i]? with
   |some v=>.done v [] []
   |none=>.fail
  |_=>.fail
 | .call s f as=>match F6 env f with
  |some (g,a,b)=>
   if shared g then .sc g (a.map .one++as.map (ev env)++b.map .one)
   else match mK X9 (a.map .one++as.map (ev env)++b.map .one) with
    |some (vs,r)=>.pc g vs r s
    |none=>.fail
  |none=>.fail
 | .slen x=>match ev env x with
  | .one (.p (.str s))=>.done (.one (.p (.int .i64 s.size))) [] []
  |_=>.fail
 | .abg x=>match wW (ev env x) with
  |some n=>.done (.one (.p (.int .i64 n))) [] []
  |none=>.fail
 | .mlen x=>match y7 X9 (ev env x) with
  |some (n,r)=>.done (.one (.p (.int .i64 n))) [] r
  |none=>.fail
 | .append s ty sz bytes d x=>aN X9 s ty sz bytes (ev env d) (ev env x)
 | .max x y=>match ev env x,ev env y with
  | .one (.p (.int k a)),.one (.p (.int _ b))=>.done (.one (.p (.int k (if b>a then b else a)))) [] []
  |_,_=>.fail
 | .min x y=>match ev env x,ev env y with
  | .one (.p (.int k a)),.one (.p (.int _ b))=>.done (.one (.p (.int k (if b<a then b else a)))) [] []
  |_,_=>.fail
 | .clear z x=>match ev env x with
  | .one (.p .nils)=>.done (.tup []) [] []
  | .one (.p (.sl []))=>.done (.tup []) [] []
  | .one (.hsl id g _ off len)=>if len=0 then .done (.tup []) [] [] else match X9 id with
   |(g',some (.arr ty sz es))=>if g'=g/\sz=z.length/\off+len<=es.length then .done (.tup []) [(id,(g,some (.arr ty sz (bi es off (List.replicate len z)))))] [id] else .fail
   |_=>.fail
  |_=>.fail
structure eF where
 rd:List Nat
 wr:List Nat
 fs:List Nat
structure Al where
 any:Bool
 ids:List Nat
 fs:List Nat
def Al.all:Al:=⟨true,[],[]⟩
def eW(id:Nat):Nat:=id/64000000
def Al.ok(a:Al)(id:Nat):Bool:=a.any||a.ids.contains id||a.fs.contains (eW id)
def Al.mX(a:Al)(l:List Nat):Bool:=l.all a.ok
def Al.holds(a b:Al):Bool:=a.any||(a.mX b.ids&&b.fs.all a.fs.contains)
structure Ctx where
 shared:Nat->Bool
 sites:Nat->List Nat
 lone:Nat->Bool
 al:Al
def eJ(X9:aE):Nat->C->List Nat
 |0,_=>[]
 |n+1,c=>match c with
  | .p _=>[]
  | .Yh id _ _=>id::match X9 id with
   |(_,some (.var cs))=>(cs.map (eJ X9 n)).flatten
   |_=>[]
  | .YJ id _ _ _=>id::match X9 id with
   |(_,some (.YP _ _ es))=>(es.flatten.map (eJ X9 n)).flatten
   |_=>[]
  | .hsl id _ _ _ _=>id::match X9 id with
   |(_,some (.YP _ _ es))=>(es.flatten.map (eJ X9 n)).flatten
   |_=>[]
  | .YW id _=>[id]
  | .hfn _ a b=>(a.map (eJ X9 n)).flatten++(b.map (eJ X9 n)).flatten
def eQ(X9:aE):V->List Nat
 | .one c=>eJ X9 cn c
 | .agg cs=>(cs.map (eJ X9 cn)).flatten
 |_=>[]
def allow(sh:Ctx)(f:Nat)(vs:List V)(X9:aE):Al:=⟨false,(vs.map (eQ X9)).flatten,sh.sites f⟩
def put(env:Env)(d:Option Nat)(v:V):Env:=
 match d with
 |some t=>ij env t v
 |none=>env
abbrev dh:=Nat->List V->Option RV
abbrev fd:=Nat->List V->Al->aE->Option (V×aE)
def land(X9:aE)(rd:List Nat)(site:Nat)(r:RV):Option (V×List kB):=
 if rd=[]\/r.alone then some (uu X9 site r)
 else match Iv X9 rd with
  |some u=>some ((uu X9 site r).1,u++(uu X9 site r).2)
  |none=>none
def wanted(env:Env):Option (Nat×Bool)->Option Bool
 |none=>some true
 |some (t,want)=>match env t with
  | .one (.p (.bool b))=>some (b==want)
  | .undef=>some false
  |_=>none
def step1(sh:Ctx)(cp:dh)(cs:fd)(o:aj)(env:Env)(X9:aE):Option (Env×aE×eF):=
 match wanted env o.guard with
 |none=>none
 |some false=>some (put env o.dst .undef,X9,⟨[],[],[]⟩)
 |some true=>match aR sh.shared env X9 o.op with
  | .fail=>none
  | .done v u r=>if sh.al.mX (r++u.map (·.1)) then some (put env o.dst v,app u X9,⟨r,u.map (·.1),[]⟩) else none
  | .pc f vs r s=>match cp f vs with
   |some x=>match land X9 r s (x.bZ (sh.lone s)) with
    |some (v,u)=>if sh.al.mX (r++u.map (·.1)) then some (put env o.dst v,app u X9,⟨r++u.map (·.1),u.map (·.1),[]⟩) else none
    |none=>none
   |none=>none
  | .sc f vs=>if sh.al.holds (allow sh f vs X9) then
    match cs f vs (allow sh f vs X9) X9 with
    |some (v,Ya)=>some (put env o.dst v,Ya,⟨(allow sh f vs X9).ids,(allow sh f vs X9).ids,(allow sh f vs X9).fs⟩)
    |none=>none
   else none
def steps(sh:Ctx)(cp:dh)(cs:fd):List aj->Env->aE->Option (Env×aE×List eF)
 |[],env,X9=>some (env,X9,[])
 |o::r,env,X9=>match step1 sh cp cs o env X9 with
  |some (Yc,Ya,e)=>match steps sh cp cs r Yc Ya with
   |some (acr,aby,es)=>some (acr,aby,e::es)
   |none=>none
  |none=>none
def meets(a b:List Nat):Bool:=a.any fun i=>b.contains i
def Ij(fs ids:List Nat):Bool:=ids.any fun i=>fs.contains (eW i)
def Aa(a b:eF):Bool:=meets a.wr b.rd||meets a.wr b.wr||meets a.rd b.wr||meets a.fs b.fs||Ij a.fs (b.rd++b.wr)||Ij b.fs (a.rd++a.wr)
def Sl(anc:Nat)(e:eF):Nat->List eF->Bool
 |_,[]=>true
 |j,x::r=>(anc.testBit j|| !Aa x e)&&Sl anc e (j+1) r
def gM:List aj->List eF->List eF->Bool
 |o::os,past,e::es=>Sl o.anc e 0 past&&gM os (past++[e]) es
 |_,_,_=>true
inductive gD where
 |normal
 |exit (id:Nat)
 |ret
def iter(f:Env->aE->Option (gD×Env×aE)):Nat->Env->aE->Option (gD×Env×aE)
 |0,_,_=>none
 |n+1,env,X9=>match f env X9 with
  |some (.normal,Yc,Ya)=>iter f n Yc Ya
  |r=>r
def exec(sh:Ctx)(cp:dh)(cs:fd)(n:Nat):aq->Env->aE->Option (gD×Env×aE)
 | .skip,env,X9=>some (.normal,env,X9)
 | .region d ops,env,X9=>match steps sh cp cs ops env X9 with
  |some (Yc,Ya,es)=>if d then (if gM ops [] es then some (.normal,Yc,Ya) else none) else some (.normal,Yc,Ya)
  |none=>none
 | .seq a b,env,X9=>match exec sh cp cs n a env X9 with
  |some (.normal,Yc,Ya)=>exec sh cp cs n b Yc Ya
  |r=>r
 | .cond x a b,env,X9=>match ev env x with
  | .one (.p (.bool t))=>if t then exec sh cp cs n a env X9 else exec sh cp cs n b env X9
  |_=>none
 | .block id c,env,X9=>match exec sh cp cs n c env X9 with
  |some (.exit i,Yc,Ya)=>if i=id then some (.normal,Yc,Ya) else some (.exit i,Yc,Ya)
  |r=>r
 | .loop c,env,X9=>iter (exec sh cp cs n c) n env X9
 | .exit id,env,X9=>some (.exit id,env,X9)
 | .ret,env,X9=>some (.ret,env,X9)
 | .bad,_,_=>none
def pW(args:List V):Env:=fun i=>args.getD i .undef
def JM:V->Option V
 | .tup _=>none
 |v=>some v
def dd(al:Al)(env:Env)(X9:aE):List (Nat×Option (Option Nat))->Option (List V)
 |[]=>some []
 |(t,none)::r=>match JM (env t),dd al env X9 r with
  |some v,some q=>some (v::q)
  |_,_=>none
 |(t,some k)::r=>match AS X9 (env t),dd al env X9 r with
  |some (cs,rd),some q=>if al.mX rd then (iC k cs).map (· ::q) else none
  |_,_=>none
def xX:List V->V
 |[v]=>v
 |vs=>.tup vs
def qD:aE:=fun _=>(0,none)
def og(sh:Ctx)(cp:dh)(cs:fd)(n:Nat)(fn:dD)(args:List V)(X9:aE):Option (V×aE):=
 match exec sh cp cs n fn.body (pW args) X9 with
 |some (.normal,env,Ya)=>(dd sh.al env Ya fn.results).map fun vs=>(xX vs,Ya)
 |some (.ret,env,Ya)=>(dd sh.al env Ya fn.results).map fun vs=>(xX vs,Ya)
 |_=>none
def ET(sh:Ctx)(cp:dh)(cs:fd)(n:Nat)(fn:dD)(args:List V):Option RV:=
 match og sh cp cs n fn args qD with
 |some (v,X9)=>iE X9 v
 |none=>none
def Sys.ctx(S:Sys)(a:Al):Ctx:=⟨S.shared,S.sites,S.lone,a⟩
mutual
def dC(S:Sys):Nat->dh
 |0,_,_=>none
 |n+1,f,args=>match S.prim f args with
  |some r=>r
  |none=>match S.fns f with
   |some fn=>if args.length<=fn.ntmps then ET (S.ctx .all) (dC S n) (dB S n) n fn args else none
   |none=>none
def dB(S:Sys):Nat->fd
 |0,_,_,_,_=>none
 |n+1,f,args,al,X9=>match S.fns f with
  |some fn=>if args.length<=fn.ntmps then og (S.ctx al) (dC S n) (dB S n) n fn args X9 else none
  |none=>none
end
def bz(S:Sys)(f:Nat)(args:List V)(r:RV):Prop:= ∃n,dC S n f args=some r
def vN(S:Sys)(f:Nat)(args:List V)(al:Al)(X9:aE)(v:V)(Ya:aE):Prop:= ∃n,dB S n f args al X9=some (v,Ya)
abbrev dO:=gD->Env->aE->Prop
def W (S:Sys)(al:Al)(c:aq)(Q:dO)(env:Env)(X9:aE):Prop:=∃n e Yc Ya,exec (S.ctx al) (dC S n) (dB S n) n c env X9=some (e,Yc,Ya)/\Q e Yc Ya
def WO (S:Sys)(al:Al)(ops:List aj)(Q:Env->aE->List eF->Prop)(env:Env)(X9:aE)(tr:List eF):Prop:=∃n Yc Ya es,steps (S.ctx al) (dC S n) (dB S n) ops env X9=some (Yc,Ya,es)/\Q Yc Ya (tr++es)
end Go.Abs
namespace Go.Abs
section
variable{m n:Nat}
def WB(a b:dh):Prop:=∀f x r,a f x=some r->b f x=some r
def SLe(a b:fd):Prop:=∀f x l k r,a f x l k=some r->b f x l k=some r
section
variable {sh:Ctx} {cp cp':dh} {cs cs':fd} (hp:WB cp cp') (hs:SLe cs cs')
include hp hs
theorem yg{o:aj}{env:Env}{X9:aE}{r:Env×aE×eF}(h:step1 sh cp cs o env X9=some r):step1 sh cp' cs' o env X9=some r:=by
 unfold step1 at h ⊢;cases hw:wanted env o.guard with
 |none=>simp[hw] at h
 |some b=>
  cases b with
  |false=>simpa [hw] using h
  |true=>
   simp only[hw] at h ⊢;cases Yu:aR sh.shared env X9 o.op with
   |fail=>simp[Yu] at h
   |done v u rd=>simpa [Yu] using h
   |pc f vs rd s=>
    simp only[Yu] at h ⊢;cases hc:cp f vs with
    |none=>simp[hc] at h
    |some x=>rw[hp _ _ _ hc];simpa [hc] using h
   |sc f vs=>
    simp only[Yu] at h ⊢;split at h
    .rename_i ha;rw[if_pos ha];cases hc:cs f vs (allow sh f vs X9) X9 with
     |none=>simp[hc] at h
     |some x=>rw[hs _ _ _ _ _ hc];simpa [hc] using h
    cases h
theorem ye:∀ {ops:List aj} {env:Env} {X9:aE} {r:Env×aE×List eF},steps sh cp cs ops env X9=some r->steps sh cp' cs' ops env X9=some r:=by
 intro ops
 induction ops with
 |nil=>intro env X9 r h;simpa [steps] using h
 |cons o os ih=>
  intro env X9 r h;simp only[steps] at h ⊢;cases h1:step1 sh cp cs o env X9 with
  |none=>simp[h1] at h
  |some x=>
   obtain⟨e1,b1,f1⟩:=x;rw[yg hp hs h1];simp only[h1] at h ⊢;cases h2:steps sh cp cs os e1 b1 with
   |none=>simp[h2] at h
   |some y=>rw[ih h2];simpa [h2] using h
omit hp hs in
theorem BT{f g:Env->aE->Option (gD×Env×aE)}(hfg:∀e b r,f e b=some r->g e b=some r):
  ∀ {n m:Nat} {env:Env} {X9:aE} {r:gD×Env×aE},n<=m->iter f n env X9=some r->iter g m env X9=some r:=by
 intro n
 induction n with
 |zero=>intro m env X9 r _ h;simp[iter] at h
 |succ n ih=>
  intro m env X9 r hm h;obtain⟨m,rfl⟩:∃k,m=k+1:=⟨m-1,by omega⟩;simp only[iter] at h ⊢;cases hf:f env X9 with
  |none=>simp[hf] at h
  |some x=>
   obtain⟨e,e1,b1⟩:=x;rw[hfg _ _ _ hf];cases e with
   |normal=>simp only[hf] at h ⊢;exact ih (by omega) h
   |exit i=>simpa [hf] using h
   |ret=>simpa [hf] using h
theorem Cc(hnm:n<=m):∀ {c:aq} {env:Env} {X9:aE} {r:gD×Env×aE},exec sh cp cs n c env X9=some r->exec sh cp' cs' m c env X9=some r:=by
 intro c
 induction c with
 |skip=>intro env X9 r h;simpa [exec] using h
 |region d ops=>
  intro env X9 r h;simp only[exec] at h ⊢;cases h1:steps sh cp cs ops env X9 with
  |none=>simp[h1] at h
  |some x=>rw[ye hp hs h1];simpa [h1] using h
 |seq a b iha ihb=>
  intro env X9 r h;simp only[exec] at h ⊢;cases h1:exec sh cp cs n a env X9 with
  |none=>simp[h1] at h
  |some x=>
   obtain⟨e,e1,b1⟩:=x;rw[iha h1];cases e with
   |normal=>simp only[h1] at h ⊢;exact ihb h
   |exit i=>simpa [h1] using h
   |ret=>simpa [h1] using h
 |cond x a b iha ihb=>
  intro env X9 r h;simp only[exec] at h ⊢;split at h
  .split at h
   .rename_i ht;simp only[ht,if_true];exact iha h
   rename_i ht;simp only[ht];exact ihb h
  cases h
 |block id c ih=>
  intro env X9 r h;simp only[exec] at h ⊢;cases h1:exec sh cp cs n c env X9 with
  |none=>simp[h1] at h
  |some x=>rw[ih h1];simpa [h1] using h
 |loop c ih=>intro env X9 r h;simp only[exec] at h ⊢;exact BT (fun _ _ _ h=>ih h) hnm h
 |exit id=>intro env X9 r h;simpa [exec] using h
 |ret=>intro env X9 r h;simpa [exec] using h
 |bad=>intro env X9 r h;simp[exec] at h
theorem ru(hnm:n<=m){fn:dD}{args:List V}{X9:aE}{r:V×aE}(h:og sh cp cs n fn args X9=some r):og sh cp' cs' m fn args X9=some r:=by
 unfold og at h ⊢;cases h1:exec sh cp cs n fn.body (pW args) X9 with
 |none=>simp[h1] at h
 |some x=>rw[Cc hp hs hnm h1];simpa [h1] using h
theorem Bk(hnm:n<=m){fn:dD}{args:List V}{r:RV}(h:ET sh cp cs n fn args=some r):ET sh cp' cs' m fn args=some r:=by
 unfold ET at h ⊢;cases h1:og sh cp cs n fn args qD with
 |none=>simp[h1] at h
 |some x=>rw[ru hp hs hnm h1];simpa [h1] using h
end
theorem Cl(S:Sys):∀n,WB (dC S n) (dC S (n+1))/\SLe (dB S n) (dB S (n+1)):=by
 intro n
 induction n with
 |zero=>exact⟨fun f x r h=>by simp[dC] at h,fun f x l k r h=>by simp[dB] at h⟩
 |succ n ih=>
  refine⟨fun f x r h=>?_,fun f x l k r h=>?_⟩
  .rw[dC] at h ⊢;cases hp:S.prim f x with
   |some r'=>simpa [hp] using h
   |none=>
    simp only[hp] at h ⊢;cases hf:S.fns f with
    |none=>simp[hf] at h
    |some fn=>
     simp only[hf] at h ⊢;split at h
     .rename_i hl;rw[if_pos hl];exact Bk ih.1 ih.2 (by omega) h
     cases h
  rw[dB] at h ⊢;cases hf:S.fns f with
  |none=>simp[hf] at h
  |some fn=>
   simp only[hf] at h ⊢;split at h
   .rename_i hl;rw[if_pos hl];exact ru ih.1 ih.2 (by omega) h
   cases h
theorem kh(S:Sys)(h:n<=m):WB (dC S n) (dC S m):=by
 induction h with
 |refl=>exact fun _ _ _ h=>h
 |step _ ih=>exact fun f x r hr=>(Cl S _).1 f x r (ih f x r hr)
theorem qS(S:Sys)(h:n<=m):SLe (dB S n) (dB S m):=by
 induction h with
 |refl=>exact fun _ _ _ _ _ h=>h
 |step _ ih=>exact fun f x l k r hr=>(Cl S _).2 f x l k r (ih f x l k r hr)
theorem bz.Th{S:Sys}{f:Nat}{args:List V}{r r':RV}(h:bz S f args r)(h':bz S f args r'):r=r':=by obtain⟨n,hn⟩:=h;obtain⟨m,hm⟩:=h';have a:=kh S (adi n m) _ _ _ hn;have b:=kh S (adB n m) _ _ _ hm;rw[a] at b;exact abu b
theorem oX(S:Sys){al:Al}(h:n<=m){c:aq}{env:Env}{X9:aE}{r:gD×Env×aE}(hr:exec (S.ctx al) (dC S n) (dB S n) n c env X9=some r):
  exec (S.ctx al) (dC S m) (dB S m) m c env X9=some r:=Cc (kh S h) (qS S h) h hr
theorem ND(S:Sys){al:Al}(h:n<=m){ops:List aj}{env:Env}{X9:aE}{r:Env×aE×List eF}(hr:steps (S.ctx al) (dC S n) (dB S n) ops env X9=some r):
  steps (S.ctx al) (dC S m) (dB S m) ops env X9=some r:=ye (kh S h) (qS S h) hr
variable {S:Sys} {al:Al} {Q:dO} {env:Env} {X9:aE}
theorem W.mono{c:aq}{Q':dO}(h:W S al c Q env X9)(hq:∀e env X9,Q e env X9->Q' e env X9):W S al c Q' env X9:=by obtain⟨n,e,Yc,Ya,h1,h2⟩:=h;exact⟨n,e,Yc,Ya,h1,hq _ _ _ h2⟩
theorem Wj(h:Q .normal env X9):W S al .skip Q env X9:=⟨0,_,_,_,rfl,h⟩
theorem Wk{id:Nat}(h:Q (.exit id) env X9):W S al (.exit id) Q env X9:=⟨0,_,_,_,rfl,h⟩
theorem X0(h:Q .ret env X9):W S al .ret Q env X9:=⟨0,_,_,_,rfl,h⟩
def Eu(next:Env->aE->Prop)(Q:dO):dO
 | .normal,env,X9=>next env X9
 |e,env,X9=>Q e env X9
theorem XZ{a b:aq}(h:W S al a (Eu (W S al b Q) Q) env X9):W S al (.seq a b) Q env X9:=by
 obtain⟨n,e,Yc,Ya,h1,h2⟩:=h;cases e with
 |normal=>obtain⟨m,e,Yn,Yg,h3,h4⟩:=h2;refine⟨max n m,e,Yn,Yg,?_,h4⟩;simp only[exec];rw[oX S (adi n m) h1];exact oX S (adB n m) h3
 |exit i=>exact⟨n,_,_,_,by simp[exec,h1],h2⟩
 |ret=>exact⟨n,_,_,_,by simp[exec,h1],h2⟩
theorem Wm{x:aC}{a b:aq}{t:Bool}(hx:ev env x=.one (.p (.bool t)))(h:if t=true then W S al a Q env X9 else W S al b Q env X9):W S al (.cond x a b) Q env X9:=by
 cases t with
 |true=>obtain⟨n,e,Yc,Ya,h1,h2⟩:=h;exact⟨n,e,Yc,Ya,by simp[exec,hx,h1],h2⟩
 |false=>obtain⟨n,e,Yc,Ya,h1,h2⟩:=(by simpa using h:W S al b Q env X9);exact⟨n,e,Yc,Ya,by simp[exec,hx,h1],h2⟩
def fQ(id:Nat)(Q:dO):dO
 | .exit i,env,X9=>if i=id then Q .normal env X9 else Q (.exit i) env X9
 |e,env,X9=>Q e env X9
theorem TO{id:Nat}{c:aq}(h:W S al c (fQ id Q) env X9):W S al (.block id c) Q env X9:=by
 obtain⟨n,e,Yc,Ya,h1,h2⟩:=h;cases e with
 |normal=>exact⟨n,_,_,_,by simp[exec,h1],h2⟩
 |ret=>exact⟨n,_,_,_,by simp[exec,h1],h2⟩
 |exit i=>
  simp only[fQ] at h2;by_cases hi:i=id
  .simp only[hi,if_true] at h2;exact⟨n,_,_,_,by simp[exec,h1,hi],h2⟩
  simp only[hi,if_false] at h2;exact⟨n,_,_,_,by simp[exec,h1,hi],h2⟩
theorem Du(S:Sys){c:aq}{k l:Nat}(h:n<=m)(hk:k<=l){r:gD×Env×aE}(hr:iter (exec (S.ctx al) (dC S n) (dB S n) n c) k env X9=some r):
  iter (exec (S.ctx al) (dC S m) (dB S m) m c) l env X9=some r:=BT (fun _ _ _ h'=>oX S h h') hk hr
theorem X1{c:aq}(I:Nat->Env->aE->Prop)(k0 N:Nat)(hk:k0<=N)(h0:I k0 env X9)
  (round:∀k env X9,k<=N->I k env X9->W S al c (Eu (fun Yc Ya=>k<N/\I (k+1) Yc Ya) Q) env X9):W S al (.loop c) Q env X9:=by
 have key:∀j k env X9,k+j=N->I k env X9->∃n l e Yc Ya,iter (exec (S.ctx al) (dC S n) (dB S n) n c) l env X9=some (e,Yc,Ya)/\Q e Yc Ya:=by
  intro j
  induction j with
  |zero=>
   intro k env X9 hkj hI;obtain⟨n,e,YC,Yi,h1,h2⟩:=round k env X9 (by omega) hI;cases e with
   |normal=>obtain⟨Ye,_⟩:=h2;omega
   |exit i=>exact⟨n,1,_,_,_,by simp[iter,h1],h2⟩
   |ret=>exact⟨n,1,_,_,_,by simp[iter,h1],h2⟩
  |succ j ih=>
   intro k env X9 hkj hI;obtain⟨n,e,YC,Yi,h1,h2⟩:=round k env X9 (by omega) hI;cases e with
   |normal=>obtain⟨_,hI1⟩:=h2;obtain⟨m,l,e,Yn,Yg,h3,h4⟩:=ih (k+1) YC Yi (by omega) hI1;refine⟨max n m,l+1,e,Yn,Yg,?_,h4⟩;simp only[iter];rw[oX S (adi n m) h1];exact Du S (adB n m) (aad _) h3
   |exit i=>exact⟨n,1,_,_,_,by simp[iter,h1],h2⟩
   |ret=>exact⟨n,1,_,_,_,by simp[iter,h1],h2⟩
 obtain⟨n,l,e,Yc,Ya,h1,h2⟩:=key (N-k0) k0 env X9 (by omega) h0;refine⟨max n l,e,Yc,Ya,?_,h2⟩;simp only[exec];exact Du S (adi n l) (adB n l) h1
theorem QM{d:Bool}{ops:List aj}(h:WO S al ops (fun env X9 es=>(d=true->gM ops [] es=true)/\Q .normal env X9) env X9 []):W S al (.region d ops) Q env X9:=by
 obtain⟨n,Yc,Ya,es,h1,h2,h3⟩:=h;refine⟨n,.normal,Yc,Ya,?_,h3⟩;simp only[exec,h1];cases d with
 |false=>simp
 |true=>simpa using h2
theorem Wn{R:Env->aE->List eF->Prop}{tr:List eF}(h:R env X9 tr):WO S al [] R env X9 tr:=⟨0,env,X9,[],rfl,by simpa using h⟩
theorem xJ{o:aj}{os:List aj}{R:Env->aE->List eF->Prop}{tr:List eF}{n:Nat}{YC:Env}{Yi:aE}{e:eF}
  (h1:step1 (S.ctx al) (dC S n) (dB S n) o env X9=some (YC,Yi,e)) (h:WO S al os R YC Yi (tr++[e])):WO S al (o::os) R env X9 tr:=by
 obtain⟨m,Yc,Ya,es,h2,h3⟩:=h;refine⟨max n m,Yc,Ya,e::es,?_,by simpa using h3⟩;simp only[steps];rw[yg (kh S (adi n m)) (qS S (adi n m)) h1];simp[ND S (adB n m) h2]
def VK(S:Sys)(al:Al)(p:eS)(d:Option Nat)(env:Env)(X9:aE)(tr:List eF)(K:Env->aE->List eF->Prop):Prop:=
 match p with
 | .fail=>False
 | .done v u r=>al.mX (r++u.map (·.1))=true/\K (put env d v) (app u X9) (tr++[⟨r,u.map (·.1),[]⟩])
 | .pc f vs r s=>∃x,bz S f vs x/\match land X9 r s (x.bZ (S.lone s)) with
  |some (v,u)=>al.mX (r++u.map (·.1))=true/\K (put env d v) (app u X9) (tr++[⟨r++u.map (·.1),u.map (·.1),[]⟩])
  |none=>False
 | .sc f vs=>al.holds (allow (S.ctx al) f vs X9)=true/\ ∃v Ya,vN S f vs (allow (S.ctx al) f vs X9) X9 v Ya/\
   K (put env d v) Ya (tr++[⟨(allow (S.ctx al) f vs X9).ids,(allow (S.ctx al) f vs X9).ids,(allow (S.ctx al) f vs X9).fs⟩])
def UA(S:Sys)(al:Al)(w:Option Bool)(o:aj)(env:Env)(X9:aE)(tr:List eF)(K:Env->aE->List eF->Prop):Prop:=
 match w with
 |none=>False
 |some false=>K (put env o.dst .undef) X9 (tr++[⟨[],[],[]⟩])
 |some true=>VK S al (aR S.shared env X9 o.op) o.dst env X9 tr K
@[simp] theorem Al.pG (l:List Nat):Al.all.mX l=true:=by simp[Al.mX,Al.ok,Al.all]
@[simp] theorem Al.WA (b:Al):Al.all.holds b=true:=rfl
theorem TP{o:aj}{os:List aj}{R:Env->aE->List eF->Prop}{tr:List eF}
  (h:UA S al (wanted env o.guard) o env X9 tr (WO S al os R)):WO S al (o::os) R env X9 tr:=by
 cases hw:wanted env o.guard with
 |none=>simp[hw,UA] at h
 |some b=>
  cases b with
  |false=>rw[hw] at h;exact xJ (n:=0) (by simp[step1,hw]) h
  |true=>
   rw[hw] at h;simp only[UA] at h;have Za:(S.ctx al).shared=S.shared:=rfl;have ZP:(S.ctx al).al=al:=rfl;have Zm:(S.ctx al).lone=S.lone:=rfl;cases Yu:aR S.shared env X9 o.op with
   |fail=>simp[Yu,VK] at h
   |done v u r=>rw[Yu] at h;obtain⟨h1,h⟩:=h;exact xJ (n:=0) (by simp only[step1,hw,Za,ZP,Yu,h1,if_true]) h
   |pc f vs r s=>
    rw[Yu] at h;obtain⟨x,⟨n,hx⟩,h⟩:=h;cases hl:land X9 r s (x.bZ (S.lone s)) with
    |none=>simp[hl] at h
    |some y=>obtain⟨v,u⟩:=y;simp only[hl] at h;obtain⟨h1,h⟩:=h;exact xJ (n:=n) (by simp only[step1,hw,Za,ZP,Zm,Yu,hx,hl,h1,if_true]) h
   |sc f vs=>rw[Yu] at h;obtain⟨h1,v,Ya,⟨n,hx⟩,h⟩:=h;exact xJ (n:=n) (by simp only[step1,hw,Za,ZP,Yu,h1,if_true,hx]) h
end
end Go.Abs
namespace Go.Abs
variable {S:Sys} {al:Al}
def pY(al:Al)(res:List (Nat×Option (Option Nat)))(R:V->aE->Prop):dO
 | .exit _,_,_=>False
 |_,env,X9=>match dd al env X9 res with
  |some vs=>R (xX vs) X9
  |none=>False
theorem QL{fn:dD}{args:List V}{X9:aE}{R:V->aE->Prop}(h:W S al fn.body (pY al fn.results R) (pW args) X9):
  ∃n v Ya,og (S.ctx al) (dC S n) (dB S n) n fn args X9=some (v,Ya)/\R v Ya:=by
 obtain⟨n,e,Yc,Ya,h1,h2⟩:=h;refine⟨n,?_⟩;unfold og;rw[h1];cases e with
 |exit i=>exact h2.elim
 |normal=>
  simp only[pY] at h2;split at h2
  .rename_i vs hv;exact⟨_,_,by simp only[show(S.ctx al).al=al from rfl,hv,abf],h2⟩
  exact h2.elim
 |ret=>
  simp only[pY] at h2;split at h2
  .rename_i vs hv;exact⟨_,_,by simp only[show(S.ctx al).al=al from rfl,hv,abf],h2⟩
  exact h2.elim
theorem Wp{f:Nat}{fn:dD}{args:List V}{r:RV}(hp:S.prim f args=none)(hf:S.fns f=some fn)(hl:args.length<=fn.ntmps)
  (h:W S .all fn.body (pY .all fn.results fun v X9=>iE X9 v=some r) (pW args) qD):bz S f args r:=by
 obtain⟨n,v,Ya,h1,h2⟩:=QL h;refine⟨n+1,?_⟩;rw[dC];simp only[hp,hf,hl,if_true];unfold ET;rw[h1];exact h2
theorem iS{f:Nat}{fn:dD}{args:List V}{X9:aE}{R:V->aE->Prop}(hf:S.fns f=some fn)(hl:args.length<=fn.ntmps)
  (h:W S al fn.body (pY al fn.results R) (pW args) X9):∃v Ya,vN S f args al X9 v Ya/\R v Ya:=by
 obtain⟨n,v,Ya,h1,h2⟩:=QL h;refine⟨v,Ya,⟨n+1,?_⟩,h2⟩;rw[dB];simp only[hf,hl,if_true];exact h1
end Go.Abs
namespace Go.Abs
variable {S:Sys} {al:Al} {Q:dO} {env:Env} {X9:aE}
theorem Ar:W S al .skip Q env X9↔Q .normal env X9:=⟨fun⟨_,_,_,_,h,q⟩=>by simp[exec] at h;obtain⟨rfl,rfl,rfl⟩:=h;exact q,Wj⟩
theorem As{id:Nat}:W S al (.exit id) Q env X9↔Q (.exit id) env X9:=⟨fun⟨_,_,_,_,h,q⟩=>by simp[exec] at h;obtain⟨rfl,rfl,rfl⟩:=h;exact q,Wk⟩
theorem Ct:W S al .ret Q env X9↔Q .ret env X9:=⟨fun⟨_,_,_,_,h,q⟩=>by simp[exec] at h;obtain⟨rfl,rfl,rfl⟩:=h;exact q,X0⟩
theorem M2{a b:aq}:W S al (.seq a b) Q env X9↔W S al a (Eu (W S al b Q) Q) env X9:=by
 refine⟨?_,XZ⟩;rintro ⟨n,e,Yc,Ya,h,q⟩
 simp only[exec] at h;cases h1:exec (S.ctx al) (dC S n) (dB S n) n a env X9 with
 |none=>simp[h1] at h
 |some x=>
  obtain⟨e1,YC,Yi⟩:=x;refine⟨n,e1,YC,Yi,h1,?_⟩;cases e1 with
  |normal=>simp only[h1] at h;exact⟨n,e,Yc,Ya,h,q⟩
  |exit i=>simp[h1] at h;obtain⟨rfl,rfl,rfl⟩:=h;exact q
  |ret=>simp[h1] at h;obtain⟨rfl,rfl,rfl⟩:=h;exact q
def Ci(v:V)(A B:Prop):Prop:=
 match v with
 | .one (.p (.bool t))=>if t=true then A else B
 |_=>False
theorem I8{x:aC}{a b:aq}:W S al (.cond x a b) Q env X9↔Ci (ev env x) (W S al a Q env X9) (W S al b Q env X9):=by
 constructor
 .rintro ⟨n,e,Yc,Ya,h,q⟩
  simp only[exec] at h;split at h
  .rename_i t ht;rw[ht];simp only[Ci];cases t with
   |true=>exact⟨n,e,Yc,Ya,by simpa using h,q⟩
   |false=>exact⟨n,e,Yc,Ya,by simpa using h,q⟩
  cases h
 intro h;unfold Ci at h;split at h
 .rename_i t ht;exact Wm ht h
 exact h.elim
theorem wS{id:Nat}{c:aq}:W S al (.block id c) Q env X9↔W S al c (fQ id Q) env X9:=by
 refine⟨?_,TO⟩;rintro ⟨n,e,Yc,Ya,h,q⟩
 simp only[exec] at h;cases h1:exec (S.ctx al) (dC S n) (dB S n) n c env X9 with
 |none=>simp[h1] at h
 |some x=>
  obtain⟨e1,YC,Yi⟩:=x;refine⟨n,e1,YC,Yi,h1,?_⟩;cases e1 with
  |normal=>simp[h1] at h;obtain⟨rfl,rfl,rfl⟩:=h;exact q
  |ret=>simp[h1] at h;obtain⟨rfl,rfl,rfl⟩:=h;exact q
  |exit i=>
   simp only[h1] at h;simp only[fQ];split at h
   .rename_i hi;simp at h;obtain⟨rfl,rfl,rfl⟩:=h;rw[if_pos hi];exact q
   rename_i hi;simp at h;obtain⟨rfl,rfl,rfl⟩:=h;rw[if_neg hi];exact q
theorem tE{R:Env->aE->List eF->Prop}{tr:List eF}:WO S al [] R env X9 tr↔R env X9 tr:=by
 refine⟨?_,Wn⟩;rintro ⟨n,Yc,Ya,es,h,q⟩
 simp[steps] at h;obtain⟨rfl,rfl,rfl⟩:=h
 simpa using q
theorem mF{o:aj}{os:List aj}{R:Env->aE->List eF->Prop}{tr:List eF}:
  WO S al (o::os) R env X9 tr↔UA S al (wanted env o.guard) o env X9 tr (WO S al os R):=by
 refine⟨?_,TP⟩;rintro ⟨n,Yc,Ya,es,h,q⟩
 simp only[steps] at h;cases h1:step1 (S.ctx al) (dC S n) (dB S n) o env X9 with
 |none=>simp[h1] at h
 |some x=>
  obtain⟨YC,Yi,e⟩:=x;simp only[h1] at h;cases h2:steps (S.ctx al) (dC S n) (dB S n) os YC Yi with
  |none=>simp[h2] at h
  |some y=>
   obtain⟨Yn,Yg,es2⟩:=y;simp[h2] at h;obtain⟨rfl,rfl,rfl⟩:=h;have hk:WO S al os R YC Yi (tr++[e]):=⟨n,_,_,es2,h2,by simpa using q⟩;unfold step1 at h1;cases hw:wanted env o.guard with
   |none=>simp[hw] at h1
   |some b=>
    cases b with
    |false=>simp[hw] at h1;obtain⟨rfl,rfl,rfl⟩:=h1;exact hk
    |true=>
     simp only[hw] at h1;simp only[UA];have Za:(S.ctx al).shared=S.shared:=rfl;have ZP:(S.ctx al).al=al:=rfl;have Zm:(S.ctx al).lone=S.lone:=rfl;simp only[Za,ZP,Zm] at h1;cases Yu:aR S.shared env X9 o.op with
     |fail=>simp[Yu] at h1
     |done v u r=>
      simp only[Yu] at h1;split at h1
      .rename_i Yd;cases h1;exact⟨Yd,hk⟩
      cases h1
     |pc f vs r s=>
      simp only[Yu] at h1;cases hc:dC S n f vs with
      |none=>simp[hc] at h1
      |some x=>
       simp only[hc] at h1;refine⟨x,⟨n,hc⟩,?_⟩;cases hl:land X9 r s (x.bZ (S.lone s)) with
       |none=>simp[hl] at h1
       |some y=>
        obtain⟨v,u⟩:=y;simp only[hl] at h1;split at h1
        .rename_i Yd;cases h1;exact⟨Yd,hk⟩
        cases h1
     |sc f vs=>
      simp only[Yu] at h1;split at h1
      .rename_i Yd;cases hc:dB S n f vs (allow (S.ctx al) f vs X9) X9 with
       |none=>simp[hc] at h1
       |some x=>obtain⟨v,b⟩:=x;simp only[hc] at h1;cases h1;exact⟨Yd,v,_,⟨n,hc⟩,hk⟩
      cases h1
theorem uO{d:Bool}{ops:List aj}:W S al (.region d ops) Q env X9↔WO S al ops (fun env X9 es=>(d=true->gM ops [] es=true)/\Q .normal env X9) env X9 []:=by
 refine⟨?_,QM⟩;rintro ⟨n,e,Yc,Ya,h,q⟩
 simp only[exec] at h;cases h1:steps (S.ctx al) (dC S n) (dB S n) ops env X9 with
 |none=>simp[h1] at h
 |some x=>
  obtain⟨YC,Yi,es⟩:=x;simp only[h1] at h;cases d with
  |false=>simp at h;obtain⟨rfl,rfl,rfl⟩:=h;exact⟨n,_,_,es,h1,by simp,q⟩
  |true=>simp at h;obtain⟨hd,rfl,rfl,rfl⟩:=h;exact⟨n,_,_,es,h1,fun _=>by simpa using hd,q⟩
end Go.Abs
namespace Go.Abs
section
variable{v:Value}
inductive bt (w:World) (own:Nat->Prop):PV->Value->Prop where
 |bool (b:Bool):bt w own (.bool b) (.bool b)
 |int (k:IntKind) (n:Int):bt w own (.int k n) (.int k n)
 |str (s:ByteArray):bt w own (.str s) (.string s)
 |ZX:bt w own .ZX (.pointer none)
 |nils:bt w own .nils (.slice none 0 0)
 |Zt:bt w own .Zt (.map none)
 |YF:bt w own .YF .nilFunc
 |nili:bt w own .nili .nilIface
 |ifc (d:TypeId) (x:Value):bt w own .ifc (.iface d x)
 |box {cs:List PV} (b o:Nat) (f:Nat->Value) (ho:cs≠[]-> ¬own b)
   (hc:∀(j:Nat) (x:PV),cs[j]?=some x->w.cell? ⟨b,o+j,none⟩=some (f j))
   (hr:∀(j:Nat) (x:PV),cs[j]?=some x->bt w own x (f j)):bt w own (.box cs) (.pointer (some ⟨b,o,none⟩))
 |sl0 (a:Option Addr) (cap:Nat) (hn:a=none->cap=0) (hm:cap<=maxLen):bt w own (.sl []) (.slice a 0 cap)
 |sl {es:List (List PV)} (b o cap sz:Nat) (f:Nat->Value) (ho:es.flatten≠[]-> ¬own b) (hl:es.length<=cap) (hm:cap<=maxLen) (Yv:∀e∈es,e.length=sz)
   (hc:∀(j:Nat) (x:PV),es.flatten[j]?=some x->w.cell? ⟨b,o+j,none⟩=some (f j))
   (hr:∀(j:Nat) (x:PV),es.flatten[j]?=some x->bt w own x (f j)):bt w own (.sl es) (.slice (some ⟨b,o,none⟩) es.length cap)
 |mp {ag:Bool} {es:List (PV×List PV)} (r:Nat) (ents:Array MapEntry) (clock:Nat) (g:Nat->Array Value) (ho:¬own r) (hb:w.heap[r]?=some (.map ents clock)) (hl:ents.size=es.length)
   (hk:∀(i:Nat) (q:PV) (v:List PV) (e:MapEntry),es[i]?=some (q,v)->ents[i]?=some e->bt w own q e.key)
   (hv:∀(i:Nat) (q:PV) (v:List PV) (e:MapEntry),es[i]?=some (q,v)->ents[i]?=some e->(g i).size=v.length/\(ag=true->e.val=.agg (g i))/\(ag=false-> #[e.val]=g i))
   (hr:∀(i:Nat) (q:PV) (v:List PV) (j:Nat) (x:PV) (u:Value),es[i]?=some (q,v)->v[j]?=some x->(g i)[j]?=some u->bt w own x u):bt w own (.mp ag es) (.map (some r))
 |fn {f:Nat} {a b:List PV} (A B:Array Value) (ha:A.size=a.length) (hb:B.size=b.length)
   (hra:∀(j:Nat) (x:PV) (u:Value),a[j]?=some x->A[j]?=some u->bt w own x u)
   (hrb:∀(j:Nat) (x:PV) (u:Value),b[j]?=some x->B[j]?=some u->bt w own x u):bt w own (.fn f a b) (.func (.func f) A B)
theorem bt.ue{w:World}{own:Nat->Prop}{x:PV}(h:bt w own x v):v.oneCell'=true:=by cases h<;>rfl
theorem bt.cells{w:World}{own:Nat->Prop}{x:PV}(h:bt w own x v):v.cells= #[v]:=by cases h<;>rfl
theorem KG{w:World}{b o:Nat}(h:w.cell? ⟨b,o,none⟩=some v):b<w.heap.size:=World.block_lt_of_cell? w ⟨b,o,none⟩ h
theorem gn{w:World}{b:Nat}{o:Obj}(h:w.heap[b]?=some o):b<w.heap.size:=(Array.getElem?_eq_some_iff.1 h).1
theorem bt.mono{w w':World}{own aaZ:Nat->Prop}(hk:∀c,c<w.heap.size-> ¬own c->w'.heap[c]?=w.heap[c]? /\ ¬aaZ c){x:PV}{v:Value}
  (h:bt w own x v):bt w' aaZ x v:=by
 induction h with
 |bool b=>exact .bool b
 |int k n=>exact .int k n
 |str s=>exact .str s
 |ZX=>exact .ZX
 |nils=>exact .nils
 |Zt=>exact .Zt
 |YF=>exact .YF
 |nili=>exact .nili
 |ifc d x=>exact .ifc d x
 | @box cs b o f ho hc _ ih=>
  cases cs with
  |nil=>exact .box b o f (fun h=>(h rfl).elim) (fun j x h=>by simp at h) (fun j x h=>by simp at h)
  |cons c r=>have hb:=KG (hc 0 c rfl);have hn:=ho (by simp);refine .box b o f (fun _=>(hk b hb hn).2) (fun j x h=>?_) ih;rw[World.cell?_of_block (hk b hb hn).1];exact hc j x h
 |sl0 a cap hn hm=>exact .sl0 a cap hn hm
 | @sl es b o cap sz f ho hl hm Yv hc _ ih=>
  cases hf:es.flatten with
  |nil=>exact .sl b o cap sz f (fun h=>(h hf).elim) hl hm Yv (fun j x h=>by simp[hf] at h) (fun j x h=>by simp[hf] at h)
  |cons c r=>have hb:=KG (hc 0 c (by simp[hf]));have hn:=ho (by simp[hf]);refine .sl b o cap sz f (fun _=>(hk b hb hn).2) hl hm Yv (fun j x h=>?_) ih;rw[World.cell?_of_block (hk b hb hn).1];exact hc j x h
 | @mp ag es r ents clock g ho hb hl _ hv _ ihk ihr=>exact .mp r ents clock g (hk r (gn hb) ho).2 ((hk r (gn hb) ho).1.trans hb) hl ihk hv ihr
 |fn A B ha hb _ _ iha ihb=>exact .fn A B ha hb iha ihb
structure Mem where
 w:World
 X9:aE
 σ:Nat->Nat
 κ:Nat->Nat
 fr:Nat->Prop
def Ob.eY:Ob->Bool
 | .var _| .arr _ _ _| .YP _ _ _| .map _ _=>true
 |_=>false
def jh:Nat×Option Ob->Option Nat
 |(_,some (.arr _ sz _))=>some sz
 |(_,some (.YP _ sz _))=>some sz
 |(_,some (.Zr _ sz _))=>some sz
 |_=>none
def Mem.eY(m:Mem)(c:Nat):Prop:= ∃id o,(m.X9 id).2=some o/\o.eY=true/\m.σ id=c
def Mem.own(m:Mem)(c:Nat):Prop:=m.fr c\/m.eY c
inductive cE (m:Mem):C->Value->Prop where
 |p {x:PV} {v:Value} (h:bt m.w m.own x v):cE m (.p x) v
 |Yh {id g off:Nat} (a:Addr) (hg:g<=(m.X9 id).1) (h:(m.X9 id).1=g->(m.X9 id).2.isSome=true->a=⟨m.σ id,off,none⟩):cE m (.Yh id g off) (.pointer (some a))
 |YJ {id g i off:Nat} (a:Addr) (hg:g<=(m.X9 id).1) (h:∀sz,(m.X9 id).1=g->jh (m.X9 id)=some sz->a=⟨m.σ id,i*sz+off,none⟩):cE m (.YJ id g i off) (.pointer (some a))
 |hsl {id g z off len:Nat} (a:Addr) (cap:Nat) (hg:g<=(m.X9 id).1) (hl:len<=cap) (hm:cap<=maxLen)
   (h:∀sz,(m.X9 id).1=g->jh (m.X9 id)=some sz->sz=z/\(off=0\/0<len->a=⟨m.σ id,off*sz,none⟩)/\(off=0->cap=m.κ id)):
   cE m (.hsl id g z off len) (.slice (some a) len cap)
 |YW {id g:Nat} (r:Nat) (hg:g<=(m.X9 id).1) (h:(m.X9 id).1=g->(m.X9 id).2.isSome=true->r=m.σ id):cE m (.YW id g) (.map (some r))
 |hfn {f:Nat} {a b:List C} (A B:Array Value) (ha:A.size=a.length) (hb:B.size=b.length)
   (hra:∀(j:Nat) (x:C) (u:Value),a[j]?=some x->A[j]?=some u->cE m x u)
   (hrb:∀(j:Nat) (x:C) (u:Value),b[j]?=some x->B[j]?=some u->cE m x u):cE m (.hfn f a b) (.func (.func f) A B)
theorem cE.ue{m:Mem}{x:C}(h:cE m x v):v.oneCell'=true:=by
 cases h with
 |p h=>exact h.ue
 |_=>rfl
theorem cE.cells{m:Mem}{x:C}(h:cE m x v):v.cells= #[v]:=by
 cases h with
 |p h=>exact h.cells
 |_=>rfl
def aZ(m:Mem)(cs:List C)(vs:List Value):Prop:=vs.length=cs.length/\ ∀(j:Nat) (x:C) (u:Value),cs[j]?=some x->vs[j]?=some u->cE m x u
def aY(w:World)(own:Nat->Prop)(cs:List PV)(vs:List Value):Prop:=vs.length=cs.length/\ ∀(j:Nat) (x:PV) (u:Value),cs[j]?=some x->vs[j]?=some u->bt w own x u
def ii(m:Mem):V->Value->Prop
 | .undef,v=>v=undef
 | .one c,v=>cE m c v
 | .agg cs,v=>∃arr,v=.agg arr/\aZ m cs arr.toList
 | .tup _,_=>False
def bh(m:Mem):V->Value->Prop
 | .tup vs,v=>∃arr,v=.tuple arr/\arr.size=vs.length/\ ∀(j:Nat) (x:V) (u:Value),vs[j]?=some x->arr[j]?=some u->ii m x u
 |x,v=>ii m x v
def se(m:Mem)(id:Nat):Ob->Prop
 | .var cs=>∃cur ty,m.w.heap[m.σ id]?=some (.cells cur ty (0,0))/\aZ m cs cur.toList
 | .fvar cs=>∃cur ty fz,m.w.heap[m.σ id]?=some (.cells cur ty fz)/\aY m.w m.own cs cur.toList/\ ¬m.own (m.σ id)
 | .arr ty sz es=>∃cur,m.w.heap[m.σ id]?=some (.cells cur ty (0,0))/\0<sz/\(∀e∈es,e.length=sz)/\es.length<=m.κ id/\m.κ id<=maxLen/\cur.size=m.κ id*sz/\
   aY m.w m.own es.flatten (cur.toList.take (es.length*sz))
 | .Zr ty sz es=>∃cur fz,m.w.heap[m.σ id]?=some (.cells cur ty fz)/\0<sz/\(∀e∈es,e.length=sz)/\es.length<=m.κ id/\m.κ id<=maxLen/\cur.size=m.κ id*sz/\
   aY m.w m.own es.flatten (cur.toList.take (es.length*sz))/\ ¬m.own (m.σ id)
 | .YP ty sz es=>∃cur,m.w.heap[m.σ id]?=some (.cells cur ty (0,0))/\0<sz/\(∀e∈es,e.length=sz)/\es.length<=m.κ id/\m.κ id<=maxLen/\cur.size=m.κ id*sz/\
   aZ m es.flatten (cur.toList.take (es.length*sz))
 | .map ag es=>∃ents clock,m.w.heap[m.σ id]?=some (.map ents clock)/\ents.size=es.length/\
   ∀(i:Nat) (q:PV) (v:List PV) (e:MapEntry),es[i]?=some (q,v)->ents[i]?=some e->bt m.w m.own q e.key/\ ∃g:Array Value,(ag=true->e.val=.agg g)/\(ag=false-> #[e.val]=g)/\aY m.w m.own v g.toList
 | .fmap ag es=>∃ents clock,m.w.heap[m.σ id]?=some (.map ents clock)/\ents.size=es.length/\
   (∀(i:Nat) (q:PV) (v:List PV) (e:MapEntry),es[i]?=some (q,v)->ents[i]?=some e->bt m.w m.own q e.key/\ ∃g:Array Value,(ag=true->e.val=.agg g)/\(ag=false-> #[e.val]=g)/\aY m.w m.own v g.toList)/\ ¬m.own (m.σ id)
structure Ok (w0:World) (m:Mem):Prop where
 os:m.w.os=w0.os
 tape:m.w.tape=w0.tape
 output:m.w.output=w0.output
 size:w0.heap.size<=m.w.heap.size
 base:∀c,c<w0.heap.size->m.w.heap[c]?=w0.heap[c]?
 obj:∀id o,(m.X9 id).2=some o->se m id o
 Ym:∀id o,(m.X9 id).2=some o->o.eY=true->w0.heap.size<=m.σ id/\ ¬m.fr (m.σ id)
 frlt:∀c,m.fr c->c<m.w.heap.size
 inj:∀id Zb o o',(m.X9 id).2=some o->o.eY=true->(m.X9 Zb).2=some o'->o'.eY=true->m.σ id=m.σ Zb->id=Zb
structure Ev (m m':Mem):Prop where
 os:m'.w.os=m.w.os
 tape:m'.w.tape=m.w.tape
 output:m'.w.output=m.w.output
 size:m.w.heap.size<=m'.w.heap.size
 keep:∀c,c<m.w.heap.size-> ¬m.eY c->m'.w.heap[c]?=m.w.heap[c]?
 eY:∀c,c<m.w.heap.size->m'.eY c->m.eY c
 less:∀c,c<m.w.heap.size-> ¬m.own c-> ¬m'.own c
 gen:∀id,(m.X9 id).1<=(m'.X9 id).1
 ref:∀id,(m'.X9 id).1=(m.X9 id).1->(m'.X9 id).2.isSome=true->(m.X9 id).2.isSome=true/\m'.σ id=m.σ id/\m'.κ id=m.κ id/\jh (m'.X9 id)=jh (m.X9 id)
theorem Ev.refl(m:Mem):Ev m m:=⟨rfl,rfl,rfl,aad _,fun _ _ _=>rfl,fun _ _ h=>h,fun _ _ h=>h,fun _=>aad _,fun _ _ h=>⟨h,rfl,rfl,rfl⟩⟩
theorem Ev.trans{a b c:Mem}(h:Ev a b)(k:Ev b c):Ev a c where
 os:=k.os.trans h.os
 tape:=k.tape.trans h.tape
 output:=k.output.trans h.output
 size:=abc h.size k.size
 keep x hx hm:=(k.keep x (acN hx h.size) fun hb=>hm (h.eY x hx hb)).trans (h.keep x hx hm)
 eY x hx hm:=h.eY x hx (k.eY x (acN hx h.size) hm)
 less x hx hn:=k.less x (acN hx h.size) (h.less x hx hn)
 gen id:=abc (h.gen id) (k.gen id)
 ref id he hs:=by have h1:=h.gen id;have h2:=k.gen id;obtain⟨s1,e1,e2,e3⟩:=k.ref id (by omega) hs;obtain⟨s2,f1,f2,f3⟩:=h.ref id (by omega) s1;exact⟨s2,e1.trans f1,e2.trans f2,e3.trans f3⟩
theorem Ev.own{m m':Mem}(h:Ev m m'):∀c,c<m.w.heap.size-> ¬m.own c->m'.w.heap[c]?=m.w.heap[c]? /\ ¬m'.own c:=fun c hc hn=>⟨h.keep c hc fun hm=>hn (.inr hm),h.less c hc hn⟩
theorem Ba{x:Nat×Option Ob}{sz:Nat}(h:jh x=some sz):x.2.isSome=true:=by
 obtain⟨g,o⟩:=x;cases o with
 |none=>simp[jh] at h
 |some o=>rfl
structure Jf (m m':Mem):Prop where
 own:∀c,c<m.w.heap.size-> ¬m.own c->m'.w.heap[c]?=m.w.heap[c]? /\ ¬m'.own c
 gen:∀id,(m.X9 id).1<=(m'.X9 id).1
 ref:∀id,(m'.X9 id).1=(m.X9 id).1->(m'.X9 id).2.isSome=true->(m.X9 id).2.isSome=true/\m'.σ id=m.σ id/\m'.κ id=m.κ id/\jh (m'.X9 id)=jh (m.X9 id)
theorem Ev.zero{m m':Mem}(h:Ev m m'):Jf m m':=⟨h.own,h.gen,h.ref⟩
theorem bt.ev{m m':Mem}(h:Jf m m'){x:PV}(hr:bt m.w m.own x v):bt m'.w m'.own x v:=hr.mono h.own
theorem cE.ev{m m':Mem}(h:Jf m m'){x:C}(hr:cE m x v):cE m' x v:=by
 induction hr with
 |p hp=>exact .p (hp.ev h)
 | @Yh id g off a hg ha=>have ai7:=h.gen id;refine .Yh a (by omega) fun hg' hs=>?_;obtain⟨s,e1,_,_⟩:=h.ref id (by omega) hs;rw[e1];exact ha (by omega) s
 | @YJ id g i off a hg ha=>have ai7:=h.gen id;refine .YJ a (by omega) fun sz hg' hs=>?_;obtain⟨s,e1,_,e3⟩:=h.ref id (by omega) (Ba hs);rw[e1];exact ha sz (by omega) (e3▸hs)
 | @hsl id g z off len a cap hg hl hm ha=>have ai7:=h.gen id;refine .hsl a cap (by omega) hl hm fun sz hg' hs=>?_;obtain⟨s,e1,e2,e3⟩:=h.ref id (by omega) (Ba hs);rw[e1,e2];exact ha sz (by omega) (e3▸hs)
 | @YW id g r hg hr=>have ai7:=h.gen id;refine .YW r (by omega) fun hg' hs=>?_;obtain⟨s,e1,_,_⟩:=h.ref id (by omega) hs;rw[e1];exact hr (by omega) s
 |hfn A B ha hb _ _ iha ihb=>exact .hfn A B ha hb iha ihb
theorem aZ.ev{m m':Mem}(h:Jf m m'){cs:List C}{vs:List Value}(hr:aZ m cs vs):aZ m' cs vs:=⟨hr.1,fun j x u a b=>(hr.2 j x u a b).ev h⟩
theorem aY.mono{w w':World}{own aaZ:Nat->Prop}(hk:∀c,c<w.heap.size-> ¬own c->w'.heap[c]?=w.heap[c]? /\ ¬aaZ c){cs:List PV}{vs:List Value}
  (hr:aY w own cs vs):aY w' aaZ cs vs:=⟨hr.1,fun j x u a b=>(hr.2 j x u a b).mono hk⟩
theorem aY.ev{m m':Mem}(h:Jf m m'){cs:List PV}{vs:List Value}(hr:aY m.w m.own cs vs):aY m'.w m'.own cs vs:=hr.mono h.own
theorem ii.ev{m m':Mem}(h:Jf m m'){x:V}(hr:ii m x v):ii m' x v:=by
 cases x with
 |undef=>exact hr
 |one c=>exact cE.ev h hr
 |agg cs=>obtain⟨arr,e,hc⟩:=hr;exact⟨arr,e,hc.ev h⟩
 |tup vs=>exact hr.elim
theorem bh.ev{m m':Mem}(h:Jf m m'){x:V}(hr:bh m x v):bh m' x v:=by
 cases x with
 |tup vs=>obtain⟨arr,e,hs,hc⟩:=hr;exact⟨arr,e,hs,fun j x u a b=>(hc j x u a b).ev h⟩
 |undef=>exact ii.ev (x:=.undef) h hr
 |one c=>exact ii.ev (x:=.one c) h hr
 |agg cs=>exact ii.ev (x:=.agg cs) h hr
theorem se.ev{m m':Mem}(h:Jf m m'){id:Nat}{o:Ob}(hs:m'.σ id=m.σ id)(hk:m'.κ id=m.κ id)(hh:m'.w.heap[m.σ id]?=m.w.heap[m.σ id]?)
  (hr:se m id o):se m' id o:=by
 cases o with
 |var cs=>obtain⟨cur,ty,a,b⟩:=hr;exact⟨cur,ty,by rw[hs,hh];exact a,b.ev h⟩
 |fvar cs=>obtain⟨cur,ty,fz,a,b,c⟩:=hr;exact⟨cur,ty,fz,by rw[hs,hh];exact a,b.ev h,by rw[hs];exact(h.own _ (gn a) c).2⟩
 |arr ty sz es=>obtain⟨cur,a,b,c,d,e,f,g⟩:=hr;exact⟨cur,by rw[hs,hh];exact a,b,c,by rw[hk];exact d,by rw[hk];exact e,by rw[hk];exact f,g.ev h⟩
 |Zr ty sz es=>obtain⟨cur,fz,a,b,c,d,e,f,g,i⟩:=hr;exact⟨cur,fz,by rw[hs,hh];exact a,b,c,by rw[hk];exact d,by rw[hk];exact e,by rw[hk];exact f,g.ev h,by rw[hs];exact(h.own _ (gn a) i).2⟩
 |YP ty sz es=>obtain⟨cur,a,b,c,d,e,f,g⟩:=hr;exact⟨cur,by rw[hs,hh];exact a,b,c,by rw[hk];exact d,by rw[hk];exact e,by rw[hk];exact f,g.ev h⟩
 |map ag es=>obtain⟨ents,clock,a,b,c⟩:=hr;exact⟨ents,clock,by rw[hs,hh];exact a,b,fun i q v e x y=>let ⟨p,g,g1,g2,g3⟩:=c i q v e x y;⟨p.ev h,g,g1,g2,g3.ev h⟩⟩
 |fmap ag es=>obtain⟨ents,clock,a,b,c,d⟩:=hr;exact⟨ents,clock,by rw[hs,hh];exact a,b,fun i q v e x y=>let ⟨p,g,g1,g2,g3⟩:=c i q v e x y;⟨p.ev h,g,g1,g2,g3.ev h⟩,by rw[hs];exact(h.own _ (gn a) d).2⟩
theorem se.lt{m:Mem}{id:Nat}{o:Ob}(hr:se m id o):m.σ id<m.w.heap.size:=by
 cases o with
 |var cs=>obtain⟨cur,ty,a,_⟩:=hr;exact gn a
 |fvar cs=>obtain⟨cur,ty,fz,a,_⟩:=hr;exact gn a
 |arr ty sz es=>obtain⟨cur,a,_⟩:=hr;exact gn a
 |Zr ty sz es=>obtain⟨cur,fz,a,_⟩:=hr;exact gn a
 |YP ty sz es=>obtain⟨cur,a,_⟩:=hr;exact gn a
 |map ag es=>obtain⟨ents,clock,a,_⟩:=hr;exact gn a
 |fmap ag es=>obtain⟨ents,clock,a,_⟩:=hr;exact gn a
theorem se.calm{m:Mem}{id:Nat}{o:Ob}(hr:se m id o)(ho:o.eY=false):¬m.own (m.σ id):=by
 cases o with
 |fvar cs=>obtain⟨cur,ty,fz,_,_,c⟩:=hr;exact c
 |Zr ty sz es=>obtain⟨cur,fz,_,_,_,_,_,_,_,c⟩:=hr;exact c
 |fmap ag es=>obtain⟨_,_,_,_,_,c⟩:=hr;exact c
 |_=>simp[Ob.eY] at ho
end
end Go.Abs
namespace Go.Abs
variable {w0:World}
section
variable{m:Mem}
structure fX (w w':World):Prop where
 os:w'.os=w.os
 tape:w'.tape=w.tape
 output:w'.output=w.output
 size:w.heap.size<=w'.heap.size
 keep:∀c,c<w.heap.size->w'.heap[c]?=w.heap[c]?
theorem fX.refl(w:World):fX w w:=⟨rfl,rfl,rfl,aad _,fun _ _=>rfl⟩
theorem fX.trans{a b c:World}(h:fX a b)(k:fX b c):fX a c:=
 ⟨k.os.trans h.os,k.tape.trans h.tape,k.output.trans h.output,abc h.size k.size,fun x hx=>(k.keep x (acN hx h.size)).trans (h.keep x hx)⟩
theorem fX.alloc(w:World)(o:Obj):fX w (w.alloc o):=⟨rfl,rfl,rfl,by simp,fun _ hc=>heap_alloc_old w o hc⟩
theorem fX.drew(w:World):fX w w.drew:=⟨rfl,rfl,rfl,aad _,fun _ _=>rfl⟩
def Mem.later(m:Mem)(w':World)(X:Nat->Prop):Mem:={m with w:=w',fr:=fun c=>m.fr c\/X c}
theorem BO{w':World}{X:Nat->Prop}{c:Nat}:(m.later w' X).own c↔m.own c\/X c:=by
 unfold Mem.own Mem.eY Mem.later;constructor
 .rintro ((h|h)|h)
  .exact .inl (.inl h)
  .exact .inr h
  exact .inl (.inr h)
 rintro ((h|h)|h)
 .exact .inl (.inl h)
 .exact .inr h
 exact .inl (.inr h)
theorem qE{w':World}{X:Nat->Prop}(hg:fX m.w w')(hX:∀c,X c->m.w.heap.size<=c):Ev m (m.later w' X) where
 os:=hg.os
 tape:=hg.tape
 output:=hg.output
 size:=hg.size
 keep c hc _:=hg.keep c hc
 eY c _ h:=h
 less c hc hn h:=by
  rcases BO.1 h with h|h
  .exact hn h
  have:=hX c h;omega
 gen _:=aad _
 ref _ _ hs:=⟨hs,rfl,rfl,rfl⟩
theorem um{w':World}{X:Nat->Prop}(h:Ok w0 m)(hg:fX m.w w')(hX:∀c,X c->m.w.heap.size<=c/\c<w'.heap.size):Ok w0 (m.later w' X) where
 os:=hg.os.trans h.os
 tape:=hg.tape.trans h.tape
 output:=hg.output.trans h.output
 size:=abc h.size hg.size
 base c hc:=(hg.keep c (acN hc h.size)).trans (h.base c hc)
 obj id o ho:=(h.obj id o ho).ev (qE hg fun c hc=>(hX c hc).1).zero rfl rfl (hg.keep _ (h.obj id o ho).lt)
 Ym id o ho hm:=by
  refine⟨(h.Ym id o ho hm).1,?_⟩;rintro (hf|hx)
  .exact(h.Ym id o ho hm).2 hf
  have h1:=(hX _ hx).1;have h2:=(h.obj id o ho).lt;simp only[Mem.later] at h1;omega
 frlt c hc:=by
  rcases hc with hf|hx
  .exact acN (h.frlt c hf) hg.size
  exact(hX c hx).2
 inj:=h.inj
def Mem.install(m:Mem)(s c k:Nat)(o:Ob):Mem:=⟨m.w,ij m.X9 s ((m.X9 s).1+1,some o),ij m.σ s c,ij m.κ s k,fun x=>m.fr x/\x≠c⟩
theorem ut{s c k:Nat}{o:Ob}{x:Nat}(h:(m.install s c k o).eY x):x=c\/m.eY x:=by
 obtain⟨id,o',ho,hm,hx⟩:=h;simp only[Mem.install,ae] at ho hx;by_cases hid:id=s
 .simp only[hid,if_true] at hx;exact .inl hx.symm
 simp only[hid,if_false] at ho hx;exact .inr ⟨id,o',ho,hm,hx⟩
theorem mA{s c k:Nat}{o:Ob}(hc:m.fr c){x:Nat}(h:(m.install s c k o).own x):m.own x:=by
 rcases h with h|h
 .exact .inl h.1
 rcases ut h with rfl|h
 .exact .inl hc
 exact .inr h
theorem oN{m1:Mem}{s c k:Nat}{o:Ob}(h:Ev m m1)(hc:m1.fr c)(hn:m.w.heap.size<=c\/m.eY c):Ev m (m1.install s c k o) where
 os:=h.os
 tape:=h.tape
 output:=h.output
 size:=h.size
 keep:=h.keep
 eY x hx hm:=by
  rcases ut hm with rfl|hm
  .rcases hn with hn|hn
   .omega
   exact hn
  exact h.eY x hx hm
 less x hx YH hm:=h.less x hx YH (mA hc hm)
 gen id:=by
  simp only[Mem.install,ae];have:=h.gen id;split
  .rename_i e;subst e;simp only;omega
  exact this
 ref id he hs:=by
  have hg:=h.gen id;simp only[Mem.install,ae] at he hs ⊢;by_cases hid:id=s
  .subst hid;simp only[if_true] at he;omega
  simp only[hid,if_false] at he hs ⊢;exact h.ref id he hs
theorem oL{s c k:Nat}{o:Ob}(h:Ok w0 m)(hc:m.fr c)(Zm:w0.heap.size<=c)(ho:se (m.install s c k o) s o):Ok w0 (m.install s c k o):=by
 have hk:∀x,x<m.w.heap.size-> ¬m.own x->(m.install s c k o).w.heap[x]?=m.w.heap[x]? /\ ¬(m.install s c k o).own x:=fun x _ hn=>⟨rfl,fun h=>hn (mA hc h)⟩
 have YU:Jf m (m.install s c k o):=by
  refine⟨hk,fun id=>?_,fun id he hs=>?_⟩
  .simp only[Mem.install,ae];split
   .rename_i e;subst e;simp only;omega
   exact aad _
  simp only[Mem.install,ae] at he hs ⊢;by_cases hid:id=s
  .subst hid;simp only[if_true] at he;omega
  simp only[hid,if_false] at he hs ⊢;exact⟨hs,trivial,trivial,trivial⟩
 exact {
  os:=h.os
  tape:=h.tape
  output:=h.output
  size:=h.size
  base:=h.base
  obj:=by
   intro id o' ho';by_cases hid:id=s
   .subst hid;simp only[Mem.install,ae,if_true,aau] at ho';exact ho'▸ho
   have hs:(m.install s c k o).σ id=m.σ id:=by simp[Mem.install,ae,hid]
   have hkk:(m.install s c k o).κ id=m.κ id:=by simp[Mem.install,ae,hid]
   simp only[Mem.install,ae,hid,if_false] at ho';exact(h.obj id o' ho').ev YU hs hkk rfl
  Ym:=by
   intro id o' ho' hm;by_cases hid:id=s
   .subst hid;simp only[Mem.install,ae,if_true];exact⟨Zm,fun h=>h.2 rfl⟩
   simp only[Mem.install,ae,hid,if_false] at ho' ⊢;exact⟨(h.Ym id o' ho' hm).1,fun hf=>(h.Ym id o' ho' hm).2 hf.1⟩
  frlt:=fun x hx=>h.frlt x hx.1
  inj:=by
   intro id Zb o1 o2 h1 m1 h2 m2 he;by_cases hid:id=s<;>by_cases Z0:Zb=s
   .rw[hid,Z0]
   .subst hid;simp only[Mem.install,ae,Z0,if_true,if_false] at h2 he;exact((h.Ym Zb o2 h2 m2).2 (he▸hc)).elim
   .subst Z0;simp only[Mem.install,ae,hid,if_true,if_false] at h1 he;exact((h.Ym id o1 h1 m1).2 (he.symm▸hc)).elim
   simp only[Mem.install,ae,hid,Z0,if_false] at h1 h2 he;exact h.inj id Zb o1 o2 h1 m1 h2 m2 he}
def Mem.fI(m:Mem)(id:Nat):Mem:=⟨m.w,ij m.X9 id ((m.X9 id).1,none),m.σ,m.κ,fun c=>m.fr c\/c=m.σ id⟩
theorem MC{id:Nat}{o:Ob}(ho:(m.X9 id).2=some o)(hm:o.eY=true){x:Nat}(h:(m.fI id).own x):m.own x:=by
 rcases h with (h|h)|⟨Zb,o',h1,h2,h3⟩
 .exact .inl h
 .exact .inr ⟨id,o,ho,hm,h.symm⟩
 simp only[Mem.fI,ae] at h1 h3;by_cases hid:Zb=id
 .simp[hid] at h1
 simp only[hid,if_false] at h1;exact .inr ⟨Zb,o',h1,h2,h3⟩
theorem nL{id:Nat}{o:Ob}(ho:(m.X9 id).2=some o)(hm:o.eY=true):Ev m (m.fI id) where
 os:=rfl
 tape:=rfl
 output:=rfl
 size:=aad _
 keep _ _ _:=rfl
 eY x _ h:=by
  obtain⟨Zb,o',h1,h2,h3⟩:=h;simp only[Mem.fI,ae] at h1 h3;by_cases hid:Zb=id
  .simp[hid] at h1
  simp only[hid,if_false] at h1;exact⟨Zb,o',h1,h2,h3⟩
 less x _ hn h:=hn (MC ho hm h)
 gen Zb:=by
  simp only[Mem.fI,ae];split
  .rename_i e;subst e;exact aad _
  exact aad _
 ref Zb he hs:=by
  simp only[Mem.fI,ae] at he hs ⊢;by_cases hid:Zb=id
  .simp[hid] at hs
  simp only[hid,if_false] at he hs ⊢;exact⟨hs,trivial,trivial,trivial⟩
theorem Gm{id:Nat}{o:Ob}(h:Ok w0 m)(ho:(m.X9 id).2=some o)(hm:o.eY=true):Ok w0 (m.fI id) where
 os:=h.os
 tape:=h.tape
 output:=h.output
 size:=h.size
 base:=h.base
 obj Zb o' h1:=by
  simp only[Mem.fI,ae] at h1;by_cases hid:Zb=id
  .simp[hid] at h1
  simp only[hid,if_false] at h1;exact(h.obj Zb o' h1).ev (nL ho hm).zero rfl rfl rfl
 Ym Zb o' h1 h2:=by
  simp only[Mem.fI,ae] at h1 ⊢;by_cases hid:Zb=id
  .simp[hid] at h1
  simp only[hid,if_false] at h1;refine⟨(h.Ym Zb o' h1 h2).1,?_⟩;rintro (hf|hf)
  .exact(h.Ym Zb o' h1 h2).2 hf
  exact hid (h.inj Zb id o' o h1 h2 ho hm hf)
 frlt c hc:=by
  rcases hc with hf|rfl
  .exact h.frlt c hf
  exact(h.obj id o ho).lt
 inj id1 id2 o1 o2 h1 m1 h2 m2 he:=by
  simp only[Mem.fI,ae] at h1 h2 he;by_cases hid:id1=id
  .simp[hid] at h1
  by_cases Z0:id2=id
  .simp[Z0] at h2
  simp only[hid,Z0,if_false] at h1 h2;exact h.inj id1 id2 o1 o2 h1 m1 h2 m2 he
def Mem.iM(m:Mem)(w':World)(id:Nat)(o:Ob):Mem:=⟨w',ij m.X9 id ((m.X9 id).1,some o),m.σ,m.κ,m.fr⟩
section
variable {m:Mem} {w':World} {id:Nat} {o old:Ob} (ho:(m.X9 id).2=some old) (hm:old.eY=true)
include ho hm
theorem NY{x:Nat}(h:(m.iM w' id o).own x):m.own x:=by
 rcases h with h|⟨Zb,o',h1,h2,h3⟩
 .exact .inl h
 simp only[Mem.iM,ae] at h1 h3;by_cases hid:Zb=id
 .exact .inr ⟨id,old,ho,hm,hid▸h3⟩
 simp only[hid,if_false] at h1;exact .inr ⟨Zb,o',h1,h2,h3⟩
theorem tX(Yv:jh ((m.X9 id).1,some o)=jh ((m.X9 id).1,some old))(hos:w'.os=m.w.os)(ht:w'.tape=m.w.tape)(Zj:w'.output=m.w.output)(hs:w'.heap.size=m.w.heap.size)
  (hk:∀c,c≠m.σ id->w'.heap[c]?=m.w.heap[c]?):Ev m (m.iM w' id o) where
 os:=hos
 tape:=ht
 output:=Zj
 size:=ac7 hs.symm
 keep c _ hn:=hk c fun e=>hn ⟨id,old,ho,hm,e.symm⟩
 eY x _ h:=by
  obtain⟨Zb,o',h1,h2,h3⟩:=h;simp only[Mem.iM,ae] at h1 h3;by_cases hid:Zb=id
  .exact⟨id,old,ho,hm,hid▸h3⟩
  simp only[hid,if_false] at h1;exact⟨Zb,o',h1,h2,h3⟩
 less x _ hn h:=hn (NY ho hm h)
 gen Zb:=by
  simp only[Mem.iM,ae];split
  .rename_i e;subst e;exact aad _
  exact aad _
 ref Zb he hss:=by
  simp only[Mem.iM,ae] at he hss ⊢;by_cases hid:Zb=id
  .subst hid;refine⟨by simp[ho],trivial,trivial,?_⟩;simp only[if_true];rw[Yv,<- ho]
  simp only[hid,if_false] at he hss ⊢;exact⟨hss,trivial,trivial,trivial⟩
theorem xf(h:Ok w0 m)(Yv:jh ((m.X9 id).1,some o)=jh ((m.X9 id).1,some old))(hos:w'.os=m.w.os)(ht:w'.tape=m.w.tape)(Zj:w'.output=m.w.output)(hs:w'.heap.size=m.w.heap.size)
  (hk:∀c,c≠m.σ id->w'.heap[c]?=m.w.heap[c]?) (abG:se (m.iM w' id o) id o):Ok w0 (m.iM w' id o) where
 os:=hos.trans h.os
 tape:=ht.trans h.tape
 output:=Zj.trans h.output
 size:=abc h.size (ac7 hs.symm)
 base c hc:=by have:=(h.Ym id old ho hm).1;exact(hk c (by omega)).trans (h.base c hc)
 obj Zb o' h1:=by
  simp only[Mem.iM,ae] at h1;by_cases hid:Zb=id
  .subst hid;simp only[if_true,aau] at h1;exact h1▸abG
  simp only[hid,if_false] at h1;refine(h.obj Zb o' h1).ev (tX ho hm Yv hos ht Zj hs hk).zero rfl rfl (hk _ fun e=>?_);cases hmo:o'.eY with
  |true=>exact hid (h.inj Zb id o' old h1 hmo ho hm e)
  |false=>exact(h.obj Zb o' h1).calm hmo (.inr ⟨id,old,ho,hm,e.symm⟩)
 Ym Zb o' h1 h2:=by
  simp only[Mem.iM,ae] at h1 ⊢;by_cases hid:Zb=id
  .subst hid;exact h.Ym Zb old ho hm
  simp only[hid,if_false] at h1;exact h.Ym Zb o' h1 h2
 frlt c hc:=by rw[show(m.iM w' id o).w.heap.size=m.w.heap.size from hs];exact h.frlt c hc
 inj id1 id2 o1 o2 h1 m1 h2 m2 he:=by
  simp only[Mem.iM,ae] at h1 h2 he;by_cases hid:id1=id<;>by_cases Z0:id2=id
  .rw[hid,Z0]
  .simp only[Z0,if_false] at h2;exact hid▸h.inj id id2 old o2 ho hm h2 m2 (hid▸he)
  .simp only[hid,if_false] at h1;exact Z0▸h.inj id1 id o1 old h1 m1 ho hm (Z0▸he)
  simp only[hid,Z0,if_false] at h1 h2;exact h.inj id1 id2 o1 o2 h1 m1 h2 m2 he
end
end
end Go.Abs
namespace Go.Abs
def zW:Value->Option PV
 | .bool b=>some (.bool b)
 | .int k n=>some (.int k n)
 | .string s=>some (.str s)
 | .pointer none=>some .ZX
 | .slice none 0 0=>some .nils
 | .map none=>some .Zt
 | .nilFunc=>some .YF
 | .nilIface=>some .nili
 |_=>none
def rX:List Value->Option (List PV)
 |[]=>some []
 |v::r=>match zW v,rX r with
  |some x,some xs=>some (x::xs)
  |_,_=>none
def IR:Value->Option V
 | .agg cs=>(rX cs.toList).map fun l=>.agg (l.map .p)
 |v=>(zW v).map fun x=>.one (.p x)
def bK:Operand->Option aC
 | .tmp t=>some (.t t)
 | .const (.int .i64 n)=>some (.i n)
 | .const (.bool b)=>some (.b b)
 | .const v=>(IR v).map .k
 | .func f=>some (.k (.one (.p (.fn f [] []))))
 | .global _=>none
def jf:List Operand->Option (List aC)
 |[]=>some []
 |a::r=>match bK a,jf r with
  |some x,some xs=>some (x::xs)
  |_,_=>none
def wZ:Option Operand->Option (Option aC)
 |none=>some none
 |some a=>(bK a).map some
def sk(P:Program)(t:TypeId):Option (List PV):=
 match P.info? t with
 |some i=>match i.zero with
  |some (.agg cs)=>if cs.size=i.size then rX cs.toList else none
  |some v=>if i.size=1 then (zW v).map fun x=>[x] else none
  |none=>none
 |none=>none
def Dt(P:Program)(t:TypeId):Option (Option Nat):=
 match P.underlying t,P.info? t with
 |some (.struct _),some i=>some (some i.size)
 |some (.array _ _),some i=>some (some i.size)
 |some _,some i=>if i.size=1 then some none else none
 |_,_=>none
def nh(P:Program)(t:TypeId):Option Nat:=(P.info? t).map (·.size)
def qA(place:Nat->Option (Nat×Nat))(zl:Nat):List (Nat×Operand)->Option (List (Nat×Nat×aC))
 |[]=>some []
 |(i,x)::r=>match place i,bK x,qA place zl r with
  |some (off,n),some a,some q=>if off+n<=zl then some ((off,n,a)::q) else none
  |_,_,_=>none
def vt:Nat->List (Nat×Operand)->Option (List aC)
 |_,[]=>some []
 |k,(i,x)::r=>match bK x,vt (k+1) r with
  |some a,some q=>if i=k then some (a::q) else none
  |_,_=>none
def CS(P:Program)(t:TypeId):Option Bool:=
 match P.underlying t with
 |some (.int _)=>some true
 |some .bool=>some false
 |_=>none
def rq(P:Program):Nat->List Field->Option (List Bool)
 |_,[]=>some []
 |k,f::r=>match CS P f.type,rq P (k+1) r with
  |some b,some bs=>if f.offset=k/\f.name≠ "_" then some (b::bs) else none
  |_,_=>none
def nl:Operand->Bool
 | .const .nilIface=>true
 |_=>false
def zK(P:Program)(t:TypeId)(x y:Operand):Option KN:=
 match P.underlying t with
 |some (.interface _)=>if nl x||nl y then some .ifc else none
 |some .bool=>some .bool
 |some (.pointer _)=>some .ptr
 |some (.slice _)=>some .slc
 |some (.map _ _)=>some .map
 |some (.func _ _ _)=>some .fnc
 |some (.struct fs)=>if !P.stoodInHeld t&& !P.eqGuardType P.depth t then (rq P 0 fs.toList).map .str else none
 |_=>none
def sF(P:Program)(t:TypeId):Option (TypeId×Nat×Nat×List PV):=
 match P.underlying t with
 |some (.slice e)=>match P.info? e,sk P e with
  |some i,some z=>if 0<i.size/\0<i.bytes then some (e,i.size,i.bytes,z) else none
  |_,_=>none
 |_=>none
def keyOf(P:Program)(k:TypeId):Option Nat:=
 match P.underlying k with
 |some (.int _)=>some 0
 |some .string=>some 1
 |some .bool=>some 2
 |_=>none
def Q3(P:Program)(t:TypeId):Bool:=
 match P.info? t with
 |some i=>match i.zero with
  |some (.agg _)=>true
  |_=>false
 |none=>false
def tk(P:Program)(site:Nat)(o:Oper):Option vP:=
 match o.op with
 | .move x=>(bK x).map .mov
 | .assign x=>(bK x).map .mov
 | .pick c a b=>match bK c,bK a,bK b with
  |some c,some a,some b=>some (.pick c a b)
  |_,_,_=>none
 | .alloc t=>(sk P t).map (.alloc site)
 | .box _ x=>(bK x).map (.box site)
 | .build t ps=>match P.underlying t,sk P t with
  |some (.struct fs),some z=>if fs.all fun f=>(P.info? f.type).isSome then
    (qA (fun i=>(fs[i]?).map fun f=>(f.offset,P.cellsOf f.type)) z.length ps.toList).map (.build z)
   else none
  |some (.array _ e),some z=>match P.info? e with
   |some i=>(qA (fun k=>some (k*i.size,i.size)) z.length ps.toList).map (.build z)
   |none=>none
  |_,_=>none
 | .buildSlice t n ps=>match sF P t,vt 0 ps.toList with
  |some (e,sz,_,_),some as=>if as.length=n/\n*sz<=16777216 then some (.Yl site e sz as) else none
  |_,_=>none
 | .load t a=>match Dt P t,bK a with
  |some k,some a=>some (.load k a)
  |_,_=>none
 | .store t a x=>match nh P t,bK a,bK x with
  |some n,some a,some x=>some (.store n a x)
  |_,_,_=>none
 | .nilCheck x=>(bK x).map .Zf
 | .binOp op t x y _=>match bK x,bK y with
  |some a,some b=>match P.underlying t with
   |some (.int _)=>some (.bin op a b)
   |some .string=>some (.bin op a b)
   |_=>match op,zK P t x y with
    | .eql,some k=>some (.eqc k false a b)
    | .neq,some k=>some (.eqc k true a b)
    |_,_=>none
  |_,_=>none
 | .unOp op _ x=>match op with
  | .not=>(bK x).map (.un .not)
  | .neg=>(bK x).map (.un .neg)
  |_=>none
 | .convert s d x=>match P.underlying s,P.underlying d,bK x with
  |some (.int _),some (.int k),some a=>some (.conv k a)
  |some (.slice e),some .string,some a=>match P.underlying e with
   |some (.int .u8)=>some (.bstr a)
   |_=>none
  |_,_,_=>none
 | .makeFunc (.func f) a b=>match jf a.toList,jf b.toList with
  |some x,some y=>some (.mkfn f x y)
  |_,_=>none
 | .makeMap t none=>match P.underlying t with
  |some (.map _ e)=>(Dt P e).map fun k=>.mkmap site k.isSome
  |_=>none
 | .makeSlice t l c=>match sF P t,bK l,bK c with
  |some (e,sz,bytes,z),some l,some c=>some (.Yx site e sz bytes z l c)
  |_,_,_=>none
 | .slice t x lo hi none=>match bK x,wZ lo,wZ hi with
  |some a,some l,some h=>match P.underlying t with
   |some (.slice e)=>(nh P e).map fun sz=>.slice sz a l h
   |some .string=>some (.sslice a l h)
   |_=>none
  |_,_,_=>none
 | .fieldAddr s x f=>match P.underlying s,bK x with
  |some (.struct fs),some a=>match fs[f]? with
   |some d=>if P.cellsOf d.type≠0 then some (.ZH d.offset a) else none
   |none=>none
  |_,_=>none
 | .field t x f=>match P.underlying t,bK x with
  |some (.struct fs),some a=>match fs[f]? with
   |some d=>(Dt P d.type).map fun k=>.fld d.offset k a
   |none=>none
  |_,_=>none
 | .indexAddr t x i=>match bK x,bK i with
  |some a,some b=>match P.underlying t with
   |some (.slice e)=>(nh P e).map fun sz=>.Zc sz a b
   |some (.array n e)=>(nh P e).map fun sz=>.ZT n sz a b
   |_=>none
  |_,_=>none
 | .index t x i=>match bK x,bK i with
  |some a,some b=>match P.underlying t with
   |some (.array n e)=>match nh P e,Dt P e with
    |some sz,some k=>some (.aidx n sz k a b)
    |_,_=>none
   |some .string=>some (.sidx a b)
   |_=>none
  |_,_=>none
 | .lookup t x k ok=>match P.underlying t,bK x,bK k with
  |some (.map kt e),some a,some b=>match sk P e,Dt P e with
   |some z,some q=>match keyOf P kt with
    |some kd=>if Q3 P e=q.isSome then some (.lookup kd z q.isSome ok a b) else none
    |none=>none
   |_,_=>none
  |_,_,_=>none
 | .mapUpdate t m k v=>match P.underlying t,bK m,bK k,bK v with
  |some (.map kt e),some a,some b,some c=>match Dt P e with
   |some q=>(keyOf P kt).map fun kd=>.mupd kd q.isSome a b c
   |none=>none
  |_,_,_,_=>none
 | .insert t m k v=>match P.underlying t,bK m,bK k,bK v with
  |some (.map kt e),some a,some b,some c=>match Dt P e with
   |some q=>(keyOf P kt).map fun kd=>.mupd kd q.isSome a b c
   |none=>none
  |_,_,_,_=>none
 | .extract x i=>(bK x).map fun a=>.extract a i
 | .call c=>match c.callee,jf c.args.toList with
  | .value f,some as=>(bK f).map fun g=>.call site g as
  | .builtin .len,some [a]=>match c.argTypes[0]? with
   |some t=>match P.underlying t with
    |some .string=>some (.slen a)
    |some (.slice _)=>some (.abg a)
    |some (.map _ _)=>some (.mlen a)
    |_=>none
   |none=>none
  | .builtin .append,some [a,b]=>match c.argTypes[0]?,c.argTypes[1]? with
   |some t,some u=>match sF P t with
    |some (e,sz,bytes,_)=>if t=u/\c.argTypes.size=2 then some (.append site e sz bytes a b) else none
    |none=>none
   |_,_=>none
  | .builtin .max,some [a,b]=>some (.max a b)
  | .builtin .min,some [a,b]=>some (.min a b)
  | .builtin .clear,some [a]=>match c.argTypes[0]? with
   |some t=>(sF P t).map fun q=>.clear q.2.2.2 a
   |none=>none
  |_,_=>none
 |_=>none
def aC.tmps:aC->List Nat
 | .t n=>[n]
 |_=>[]
def vW:List aC->List Nat
 |[]=>[]
 |a::r=>a.tmps++vW r
def Nw:Option aC->List Nat
 |some a=>a.tmps
 |none=>[]
def Nv:List (Nat×Nat×aC)->List Nat
 |[]=>[]
 |(_,_,a)::r=>a.tmps++Nv r
def vP.tmps:vP->List Nat
 | .mov x| .box _ x| .load _ x| .Zf x| .un _ x| .conv _ x| .bstr x| .ZH _ x| .fld _ _ x| .extract x _| .slen x| .abg x| .mlen x| .clear _ x=>x.tmps
 | .pick c a b=>c.tmps++a.tmps++b.tmps
 | .alloc _ _| .mkmap _ _| .bad=>[]
 | .build _ ps=>Nv ps
 | .Yl _ _ _ ps=>vW ps
 | .store _ a x| .bin _ a x| .eqc _ _ a x| .Zc _ a x| .ZT _ _ a x| .aidx _ _ _ a x| .sidx a x| .lookup _ _ _ _ a x| .append _ _ _ _ a x| .max a x| .min a x=>a.tmps++x.tmps
 | .mkfn _ a b=>vW a++vW b
 | .Yx _ _ _ _ _ a b=>a.tmps++b.tmps
 | .slice _ x a b| .sslice x a b=>x.tmps++Nw a++Nw b
 | .mupd _ _ a b c=>a.tmps++b.tmps++c.tmps
 | .call _ f as=>f.tmps++vW as
def aj.Hg(o:aj):List Nat:=
 o.op.tmps++match o.guard with
  |some (t,_)=>[t]
  |none=>[]
def zw(a b:aj):Bool:=
 (match a.dst with
  |some d=> !b.Hg.contains d&&b.dst !=some d
  |none=>true)&&
 (match b.dst with
  |some d=> !a.Hg.contains d
  |none=>true)
def DC(o:aj):Nat->List aj->Bool
 |_,[]=>true
 |j,x::r=>(o.anc.testBit j||zw x o)&&DC o (j+1) r
def uA:List aj->List aj->Bool
 |[],_=>true
 |o::os,past=>DC o 0 past&&uA os (past++[o])
def DN(P:Program)(site:Nat)(o:Oper):vP:=(tk P site o).getD .bad
def UH(nt:Nat):Option Nat->Bool
 |some d=>decide (d<nt)
 |none=>true
def In(dst:Nat->Option Nat):Option (Nat×Bool)->Option (Option (Nat×Bool))
 |none=>some none
 |some (j,w)=>(dst j).map fun t=>some (t,w)
def ke(P:Program)(dst:Nat->Option Nat)(base nt:Nat)(anc:Nat)(o:Oper):Option aj:=if UH nt o.dst then (In dst o.guard).map fun g=>⟨o.dst,DN P base o,g,anc⟩ else none
def ib(P:Program)(dst anc:Nat->Option Nat)(base nt:Nat):Nat->List Oper->Option (List aj)
 |_,[]=>some []
 |i,o::r=>match ke P dst ((base+i)*64) nt ((anc i).getD 0) o,ib P dst anc base nt (i+1) r with
  |some x,some xs=>some (x::xs)
  |_,_=>none
def r4(ops:Array Oper):Bool:=(List.range ops.size).all fun i=>match ops[i]? with
 |some o=>o.after.all fun e=> !Region.binds .any e||decide (e.on<i)
 |none=>true
def iK(P:Program)(f nt:Nat):Code->Option aq
 | .skip=>some .skip
 | .region id ops draw=>
  let b:=if draw then Region.before ops else #[]
  match ib P (fun j=>(ops[j]?).bind (·.dst)) (fun i=>b[i]?) ((f*1000+id)*1000) nt 0 ops.toList with
  |some xs=>if draw then (if r4 ops&&uA xs [] then some (.region true xs) else none) else some (.region false xs)
  |none=>none
 | .seq a b=>match iK P f nt a,iK P f nt b with
  |some x,some y=>some (.seq x y)
  |_,_=>none
 | .cond c a b=>match bK c,iK P f nt a,iK P f nt b with
  |some c,some x,some y=>some (.cond c x y)
  |_,_,_=>none
 | .block id c=>(iK P f nt c).map (.block id)
 | .loop c=>(iK P f nt c).map .loop
 | .exit id=>some (.exit id)
 | .scope c=>iK P f nt c
 | .label _=>some .skip
 | .ret=>some .ret
 |_=>some .bad
def CV(P:Program):List ResultVar->Option (List (Nat×Option (Option Nat)))
 |[]=>some []
 | .tmp t::r=>(CV P r).map ((t,none):: ·)
 | .cell t ty::r=>match Dt P ty,CV P r with
  |some k,some q=>some ((t,some k)::q)
  |_,_=>none
def sH(P:Program)(f:Nat):Option dD:=
 match P.funcs[f]? with
 |none=>none
 |some fn=>match fn.body with
  |none=>none
  |some c=>if fn.name== "runtime.NumGoroutine" then none else
   match iK P f fn.ntmps c,CV P fn.results.toList with
   |some b,some r=>some ⟨fn.ntmps,r,b⟩
   |_,_=>none
end Go.Abs
namespace Go.Abs
variable {P:Program} {w0:World}
section
variable{m:Mem}{v:Value}
def gT(m:Mem)(env:Env)(tmps:Array Value):Prop:=∀t,bh m (env t) (tmps.getD t undef)
theorem gT.ev{m':Mem}(h:Ev m m'){env:Env}{tmps:Array Value}(hr:gT m env tmps):gT m' env tmps:=fun t=>(hr t).ev h.zero
theorem bh.one{c:C}:bh m (.one c) v↔cE m c v:=Iff.rfl
theorem bh.agg{cs:List C}:bh m (.agg cs) v↔ ∃arr,v=.agg arr/\aZ m cs arr.toList:=Iff.rfl
theorem bh.of1{x:V}(h:ii m x v):bh m x v:=by
 cases x with
 |tup vs=>exact h.elim
 |_=>exact h
theorem tj{w:World}{own:Nat->Prop}{x:PV}(h:zW v=some x):bt w own x v:=by
 unfold zW at h;split at h<;>first
  |(cases h;constructor;done)
  |cases h
theorem wL{w:World}{own:Nat->Prop}:∀ {vs:List Value} {xs:List PV},rX vs=some xs->aY w own xs vs:=by
 intro vs
 induction vs with
 |nil=>intro xs h;simp[rX] at h;subst h;exact⟨rfl,fun j x u a _=>by simp at a⟩
 |cons v r ih=>
  intro xs h;simp only[rX] at h;split at h
  .rename_i x ys h1 h2;cases h;obtain⟨hl,hr⟩:=ih h2;refine⟨by simp[hl],fun j z u a b=>?_⟩;cases j with
   |zero=>simp at a b;subst a b;exact tj h1
   |succ j=>simp at a b;exact hr j z u a b
  cases h
theorem aY.Rh{xs:List PV}{vs:List Value}(h:aY m.w m.own xs vs):aZ m (xs.map .p) vs:=by refine⟨by simp[h.1],fun j x u a b=>?_⟩;simp only[aaz,aap] at a;obtain⟨y,hy,rfl⟩:=a;exact .p (h.2 j y u hy b)
theorem IQ{x:V}(h:IR v=some x):bh m x v:=by
 unfold IR at h;split at h
 .simp only[aap] at h;obtain⟨xs,h1,rfl⟩:=h;exact bh.agg.2 ⟨_,rfl,(wL h1).Rh⟩
 simp only[aap] at h;obtain⟨y,h1,rfl⟩:=h;exact bh.one.2 (.p (tj h1))
theorem aF{env:Env}{a:Act}{x:Operand}{y:aC}(h:bK x=some y)(hr:gT m env a.tmps):bh m (ev env y) (a.eval x):=by
 unfold bK at h;split at h
 .cases h;exact hr _
 .cases h;exact bh.one.2 (.p (.int _ _))
 .cases h;exact bh.one.2 (.p (.bool _))
 .simp only[aap] at h;obtain⟨v,h1,rfl⟩:=h;exact IQ h1
 .cases h;exact bh.one.2 (.p (.fn #[] #[] rfl rfl (fun j x u a=>by simp at a) (fun j x u a=>by simp at a)))
 cases h
def Does(P:Program)(ρ:Operand->Value)(o:Oper)(w:World)(x:Value)(w':World):Prop:=
 (execOp ρ o).run P w=.ok (.value x) w'\/((execOp ρ o).run P w=.ok .skip w'/\x=undef)
def fe(P:Program)(w0:World)(ρ:Operand->Value)(o:Oper)(m:Mem)(v:V)(u:List kB):Prop:=∃x m',Does P ρ o m.w x m'.w/\Ok w0 m'/\Ev m m'/\m'.fr=m.fr/\m'.X9=app u m.X9/\bh m' v x
theorem fe.calm{ρ:Operand->Value}{o:Oper}{v:V}{x:Value}(h:Ok w0 m)(Zk:(execOp ρ o).run P m.w=.ok (.value x) m.w)(hv:bh m v x):fe P w0 ρ o m v []:=
 ⟨x,m,.inl Zk,h,Ev.refl m,rfl,rfl,hv⟩
section
variable {m:Mem} {env:Env} {a:Act} {o:Oper} (Yd:Ok w0 m) (hr:gT m env a.tmps)
include Yd hr
theorem EL{x:Operand}{y:aC}(ho:o.op=.move x\/o.op=.assign x)(hx:bK x=some y):fe P w0 a.eval o m (ev env y) []:=
 .calm Yd (by rcases ho with ho|ho<;>simp[execOp,ho]) (aF hx hr)
theorem NO{c x y:Operand}{c' x' y':aC}{t:Bool}(ho:o.op=.pick c x y)(hc:bK c=some c')(hx:bK x=some x')(hy:bK y=some y')
  (ht:ev env c'=.one (.p (.bool t))):fe P w0 a.eval o m (if t then ev env x' else ev env y') []:=by
 have h1:=aF hc hr;rw[ht] at h1;obtain⟨⟩:cE m (.p (.bool t)) _:=h1;rename_i hp;generalize hb:a.eval c=b at hp;cases hp;refine .calm (x:=if t then a.eval x else a.eval y) Yd ?_ ?_
 .simp[execOp,ho,hb,asBool]
 cases t
 .exact aF hy hr
 exact aF hx hr
end
theorem j4{b:Bool}(h:bh m (.one (.p (.bool b))) v):v=.bool b:=by obtain⟨hp⟩:cE m _ v:=h;cases hp;rfl
theorem kW{k:IntKind}{n:Int}(h:bh m (.one (.p (.int k n))) v):v=.int k n:=by obtain⟨hp⟩:cE m _ v:=h;cases hp;rfl
theorem uq{s:ByteArray}(h:bh m (.one (.p (.str s))) v):v=.string s:=by obtain⟨hp⟩:cE m _ v:=h;cases hp;rfl
theorem ur(h:bh m (.one (.p .nils)) v):v=.slice none 0 0:=by obtain⟨hp⟩:cE m _ v:=h;cases hp;rfl
theorem FO(h:bh m (.one (.p .Zt)) v):v=.map none:=by obtain⟨hp⟩:cE m _ v:=h;cases hp;rfl
theorem kV{x:PV}(h:bt m.w m.own x v):bh m (.one (.p x)) v:=bh.one.2 (.p h)
def Mem.fresh(m:Mem)(ob:Obj)(s k:Nat)(o:Ob):Mem:=(m.later (m.w.alloc ob) (· =m.w.heap.size)).install s m.w.heap.size k o
theorem zt(Yd:Ok w0 m)(ob:Obj)(s k:Nat)(o:Ob):(m.fresh ob s k o).fr=m.fr:=by
 funext c;simp only[Mem.fresh,Mem.install,Mem.later];apply propext;constructor
 .rintro ⟨h|h,h2⟩
  .exact h
  exact(h2 h).elim
 intro h;exact⟨.inl h,fun e=>by have:=Yd.frlt c h;omega⟩
theorem uz(ob:Obj)(s k:Nat)(o:Ob):Ev m (m.fresh ob s k o):=oN (qE (fX.alloc m.w ob) fun c hc=>ac7 hc.symm) (.inr rfl) (.inl (aad _))
theorem zq(ob:Obj)(s k:Nat)(o:Ob):(m.fresh ob s k o).w.heap[(m.fresh ob s k o).σ s]?=some ob:=by
 have:(m.fresh ob s k o).σ s=m.w.heap.size:=by simp[Mem.fresh,Mem.install,ae]
 rw[this];exact heap_alloc_new m.w ob
theorem F0(Yd:Ok w0 m)(ob:Obj)(s k:Nat)(o:Ob)(ho:se (m.fresh ob s k o) s o):Ok w0 (m.fresh ob s k o):=oL (um Yd (fX.alloc m.w ob) fun c hc=>by subst hc;exact⟨aad _,by simp⟩) (.inr rfl) Yd.size ho
theorem vm(m:Mem)(ob:Obj)(s k:Nat)(o:Ob):(m.fresh ob s k o).X9=app [(s,((m.X9 s).1+1,some o))] m.X9:=rfl
theorem B5(Yd:Ok w0 m)(s:Nat)(t:TypeId)(cs:List C)(arr:Array Value)(hc:aZ m cs arr.toList):
  Ok w0 (m.fresh (.cells arr t) s 0 (.var cs))/\bh (m.fresh (.cells arr t) s 0 (.var cs)) (.one (.Yh s ((m.X9 s).1+1) 0)) (.pointer (some ⟨m.w.heap.size,0,none⟩)):=by
 refine⟨F0 Yd _ s 0 _ ⟨arr,t,zq _ s 0 _,hc.ev (uz _ s 0 _).zero⟩,bh.one.2 (.Yh _ ?_ fun _ _=>?_)⟩
 .simp[Mem.fresh,Mem.install,Mem.later,ae]
 simp[Mem.fresh,Mem.install,ae]
theorem m7{t:TypeId}{z:List PV}(h:sk P t=some z):∃v i,P.info? t=some i/\i.zero=some v/\v.cells.size=i.size/\z.length=i.size/\ ∀w own,aY w own z v.cells.toList:=by
 unfold sk at h;split at h
 .rename_i i hi;split at h
  .rename_i cs hz;split at h
   .rename_i hs;have hr:=fun w own=>wL (w:=w) (own:=own) h;refine⟨_,i,hi,hz,by simpa [Value.cells] using hs,?_,fun w own=>by simpa [Value.cells] using hr w own⟩;have:=(hr default (fun _=>False)).1;simp at this;omega
   cases h
  .rename_i v hz hv;split at h
   .rename_i hs;simp only[aap] at h;obtain⟨x,hx,rfl⟩:=h;have hr:=fun w own=>tj (w:=w) (own:=own) hx;have hc:=(hr default (fun _=>False)).cells;refine⟨v,i,hi,hv,by simp[hc,hs],by simp[hs],fun w own=>?_⟩;rw[hc];refine⟨rfl,fun j y u a b=>?_⟩;cases j with
    |zero=>simp at a b;subst a b;exact hr w own
    |succ j=>simp at a
   cases h
  cases h
 cases h
section
variable {m:Mem} {env:Env} {a:Act} {o:Oper} (Yd:Ok w0 m) (hr:gT m env a.tmps)
include Yd
theorem Ll{t:TypeId}{z:List PV}{s:Nat}(ho:o.op=.alloc t)(hz:sk P t=some z):
  fe P w0 a.eval o m (.one (.Yh s ((m.X9 s).1+1) 0)) [(s,((m.X9 s).1+1,some (.var (z.map .p))))]:=by
 obtain⟨v,i,hi,hv,hs,hl,YK⟩:=m7 hz;obtain⟨h1,h2⟩:=B5 Yd s t (z.map .p) v.cells (YK m.w m.own).Rh;refine⟨_,_,.inl ?_,h1,uz _ s 0 _,zt Yd _ s 0 _,vm _ _ s 0 _,h2⟩;simp[execOp,ho,Instr.alloc,zeroValue,typeInfo,hi,hv,newVar,newRow];rfl
include hr
theorem RP{t:TypeId}{x:Operand}{y:aC}{cs:List C}{s:Nat}(ho:o.op=.box t x)(hx:bK x=some y)(hc:gj (ev env y)=some cs):
  fe P w0 a.eval o m (.one (.Yh s ((m.X9 s).1+1) 0)) [(s,((m.X9 s).1+1,some (.var cs)))]:=by
 have hv:=aF hx hr;have YD:aZ m cs (a.eval x).cells.toList:=by
  generalize ev env y=w at hc hv;cases w with
  |undef=>simp[gj] at hc
  |tup vs=>simp[gj] at hc
  |one c=>
   simp[gj] at hc;subst hc;rw[(bh.one.1 hv).cells];refine⟨rfl,fun j y u p q=>?_⟩;cases j with
   |zero=>simp at p q;subst p q;exact hv
   |succ j=>simp at p
  |agg ds=>simp[gj] at hc;subst hc;obtain⟨arr,e,h⟩:=bh.agg.1 hv;rw[e];exact h
 obtain⟨h1,h2⟩:=B5 Yd s t cs _ YD;refine⟨_,_,.inl ?_,h1,uz _ s 0 _,zt Yd _ s 0 _,vm _ _ s 0 _,h2⟩;simp[execOp,ho,Instr.box,newVar,newRow];rfl
end
end
end Go.Abs
namespace Go.Abs
variable {P:Program} {w0:World}
theorem nK{α:Type}{sz:Nat}:∀ {es:List (List α)},(∀e∈es,e.length=sz)->es.flatten.length=es.length*sz:=by
 intro es
 induction es with
 |nil=>intro _;simp
 |cons e r ih=>intro h;have h1:=h e (by simp);have h2:=ih fun x hx=>h x (by simp[hx]);simp only[abl,aaF,aas,h1,h2,aaM,Nat.one_mul];omega
theorem oR{α:Type}{sz:Nat}:∀ {es:List (List α)},(∀e∈es,e.length=sz)->∀ {i:Nat} {e:List α},es[i]?=some e->∀ {j:Nat},j<sz->es.flatten[i*sz+j]?=e[j]? :=by
 intro es
 induction es with
 |nil=>intro _ i e h;simp at h
 |cons x r ih=>
  intro h i e he j hj;have h1:=h x (by simp);cases i with
  |zero=>simp at he;subst he;simp only[abl,acv,aa0];rw[acw (by omega)]
  |succ i=>simp at he;have h2:=ih (fun y hy=>h y (by simp[hy])) he hj;simp only[abl];rw[acz (by rw[h1,aaM];omega),<- h2];congr 1;rw[h1,aaM];omega
theorem fP{α:Type}{sz:Nat}{es:List (List α)}(h:∀e∈es,e.length=sz){i:Nat}{e:List α}(he:es[i]?=some e):e.length=sz:=h e (aab he)
theorem qQ{w:World}{b k:Nat}{cur:Array Value}{ty:TypeId}{fz:Nat×Nat}(h:w.heap[b]?=some (.cells cur ty fz)):w.cell? ⟨b,k,none⟩=cur[k]? :=cell_of_row w b k cur ty fz h
def At (m:Mem)(v:Value)(cs:List C):Prop:=∃b o vs,v=.pointer (some ⟨b,o,none⟩)/\aZ m cs vs/\ ∀(j:Nat) (u:Value),vs[j]?=some u->m.w.cell? ⟨b,o+j,none⟩=some u
theorem At.row{m:Mem}{b o:Nat}{cur:Array Value}{ty:TypeId}{fz:Nat×Nat}(h:m.w.heap[b]?=some (.cells cur ty fz)){cs:List C}(hl:o+cs.length<=cur.size)
  (hc:∀(j:Nat) (x:C) (u:Value),cs[j]?=some x->cur[o+j]?=some u->cE m x u):At m (.pointer (some ⟨b,o,none⟩)) cs:=by
 refine⟨b,o,(cur.toList.drop o).take cs.length,rfl,⟨by simp;omega,fun j x u p q=>?_⟩,fun j u q=>?_⟩
 .rw[aa3] at q;split at q
  .exact hc j x u p (by simpa using q)
  cases q
 rw[aa3] at q;split at q
 .rw[qQ h];simpa using q
 cases q
theorem EZ{m:Mem}(Yd:Ok w0 m){x:V}{v:Value}{cs:List C}{rd:List Nat}(h:AS m.X9 x=some (cs,rd))(hv:bh m x v):At m v cs:=by
 unfold AS at h;split at h
 .rename_i ps;simp only[aau,aaT] at h;obtain⟨rfl,rfl⟩:=h;obtain⟨hp⟩:cE m _ v:=hv;cases hp with
  |box b o f ho hc hr=>
   refine⟨b,o,(List.range ps.length).map f,rfl,⟨by simp,fun j x u p q=>?_⟩,fun j u q=>?_⟩
   .simp only[aaz,aap] at p q;obtain⟨y,hy,rfl⟩:=p;obtain⟨k,hk,rfl⟩:=q;have hk':k=j:=by
     rw[abw (by have:=aac.1 hy;obtain⟨h,_⟩:=this;exact h)] at hk
     simpa using hk.symm
    subst hk';exact .p (hr k y hy)
   simp only[aaz,aap] at q;obtain⟨k,hk,rfl⟩:=q;have Ye:j<ps.length:=by have:=aac.1 hk;obtain⟨h,_⟩:=this;simpa using h
   rw[abw Ye] at hk;simp at hk;subst hk;exact hc j _ (abC Ye)
 .rename_i id g off;have hv:cE m _ v:=hv;cases hv with
  |Yh a hg ha=>
   split at h
   .rename_i g' cs0 hb;split at h
    .rename_i ZV;simp only[aau,aaT] at h;obtain⟨rfl,rfl⟩:=h;have Yp:(m.X9 id).2=some (.var cs0):=by rw[hb]
     have ha:=ha (by rw[hb];exact ZV) (by rw[Yp];rfl);subst ha;obtain⟨cur,ty,hh,hl,hc⟩:=Yd.obj id _ Yp;simp at hl;by_cases ho:off<=cs0.length
     .exact At.row hh (by simp;omega) fun j x u p q=>hc (off+j) x u (by simpa using p) (by simpa using q)
     exact⟨_,_,[],rfl,⟨by simp;omega,fun j x u p q=>by simp at q⟩,fun j u q=>by simp at q⟩
    cases h
   .rename_i g' cs0 hb;split at h
    .rename_i ZV;simp only[aau,aaT] at h;obtain⟨rfl,rfl⟩:=h;have Yp:(m.X9 id).2=some (.fvar cs0):=by rw[hb]
     have ha:=ha (by rw[hb];exact ZV) (by rw[Yp];rfl);subst ha;obtain⟨cur,ty,fz,hh,hp,_⟩:=Yd.obj id _ Yp;have hl:=hp.1;simp at hl;by_cases ho:off<=cs0.length
     .refine At.row hh (by simp;omega) fun j x u p q=>?_;simp only[aaz,aap] at p;obtain⟨y,hy,rfl⟩:=p;exact .p (hp.2 (off+j) y u (by simpa using hy) (by simpa using q))
     exact⟨_,_,[],rfl,⟨by simp;omega,fun j x u p q=>by simp at q⟩,fun j u q=>by simp at q⟩
    cases h
   cases h
 .rename_i id g i off;have hv:cE m _ v:=hv;cases hv with
  |YJ a hg ha=>
   have key:∀(sz:Nat) (e:List C) (cur:Array Value) (ty:TypeId) (fz:Nat×Nat),m.w.heap[m.σ id]?=some (.cells cur ty fz)->e.length=sz->(i+1)*sz<=cur.size->
     a=⟨m.σ id,i*sz+off,none⟩->(∀(j:Nat) (x:C) (u:Value),e[j]?=some x->cur[i*sz+j]?=some u->cE m x u)->At m (.pointer (some a)) (e.drop off):=by
    intro sz e cur ty fz hh he Ye haa hc;subst haa;rw[aaM,Nat.one_mul] at Ye;by_cases ho:off<=e.length
    .exact At.row hh (by simp;omega) fun j x u p q=>hc (off+j) x u (by simpa using p) (by rw[<- adk];exact q)
    exact⟨_,_,[],rfl,⟨by simp;omega,fun j x u p q=>by simp at q⟩,fun j u q=>by simp at q⟩
   have pure:∀(ty sz:Nat) (es:List (List PV)) (e:List PV) (cur:Array Value) (fz:Nat×Nat),m.w.heap[m.σ id]?=some (.cells cur ty fz)->(∀e∈es,e.length=sz)->es.length*sz<=cur.size->
     aY m.w m.own es.flatten (cur.toList.take (es.length*sz))->es[i]?=some e->a=⟨m.σ id,i*sz+off,none⟩->At m (.pointer (some a)) ((e.drop off).map .p):=by
    intro ty sz es e cur fz hh Yv hlen YK he haa;have YJ:=fP Yv he;have hi:i<es.length:=(aac.1 he).1;have hil:(i+1)*sz<=es.length*sz:=abh _ hi;rw[ac2];refine key sz (e.map .p) cur ty fz hh (by simpa using YJ) (by omega) haa fun j x u p q=>?_;simp only[aaz,aap] at p;obtain⟨y,hy,rfl⟩:=p;have hj:j<sz:=by have:=(aac.1 hy).1;omega
    refine .p (YK.2 (i*sz+j) y u (by rw[oR Yv he hj];exact hy) ?_);rw[aaM] at hil;rw[aa3,if_pos (by omega)]
    simpa using q
   split at h
   .rename_i g' ty sz es hb;split at h
    .rename_i ZV;simp only[aap,aaT] at h;obtain⟨e,he,rfl,rfl⟩:=h;have Yp:(m.X9 id).2=some (.arr ty sz es):=by rw[hb]
     obtain⟨cur,hh,hs0,Yv,hl,hm,YD,YK⟩:=Yd.obj id _ Yp;exact pure ty sz es e cur _ hh Yv (by rw[YD];exact abh _ hl) YK he (ha sz (by rw[hb];exact ZV) (by rw[hb];rfl))
    cases h
   .rename_i g' ty sz es hb;split at h
    .rename_i ZV;simp only[aap,aaT] at h;obtain⟨e,he,rfl,rfl⟩:=h;have Yp:(m.X9 id).2=some (.Zr ty sz es):=by rw[hb]
     obtain⟨cur,fz,hh,hs0,Yv,hl,hm,YD,YK,_⟩:=Yd.obj id _ Yp;exact pure ty sz es e cur _ hh Yv (by rw[YD];exact abh _ hl) YK he (ha sz (by rw[hb];exact ZV) (by rw[hb];rfl))
    cases h
   .rename_i g' ty sz es hb;split at h
    .rename_i ZV;simp only[aap,aaT] at h;obtain⟨e,he,rfl,rfl⟩:=h;have Yp:(m.X9 id).2=some (.YP ty sz es):=by rw[hb]
     obtain⟨cur,hh,hs0,Yv,hl,hm,YD,YK⟩:=Yd.obj id _ Yp;have YJ:=fP Yv he;have hi:i<es.length:=(aac.1 he).1;have hil:(i+1)*sz<=es.length*sz:=abh _ hi;have alk:es.length*sz<=m.κ id*sz:=abh _ hl;refine key sz e cur ty _ hh YJ (by omega) (ha sz (by rw[hb];exact ZV) (by rw[hb];rfl)) fun j x u p q=>?_;have hj:j<sz:=by have:=(aac.1 p).1;omega
     refine YK.2 (i*sz+j) x u (by rw[oR Yv he hj];exact p) ?_;rw[aaM] at hil;rw[aa3,if_pos (by omega)]
     simpa using q
    cases h
   cases h
 cases h
end Go.Abs
namespace Go.Abs
variable {P:Program} {w0:World}
theorem O8{t:TypeId}{n:Nat}(h:Dt P t=some (some n)):∃d i,P.underlying t=some d/\P.info? t=some i/\i.size=n/\((∃fs,d=.struct fs)\/ ∃k e,d=.array k e):=by
 unfold Dt at h;split at h
 .rename_i fs i h1 h2;simp at h;exact⟨_,i,h1,h2,h,.inl ⟨fs,rfl⟩⟩
 .rename_i k e i h1 h2;simp at h;exact⟨_,i,h1,h2,h,.inr ⟨k,e,rfl⟩⟩
 .split at h<;>simp at h
 cases h
theorem O9{t:TypeId}(h:Dt P t=some none):∃d i,P.underlying t=some d/\P.info? t=some i/\i.size=1/\(∀fs,d≠ .struct fs)/\ ∀k e,d≠ .array k e:=by
 unfold Dt at h;split at h
 .simp at h
 .simp at h
 .rename_i d i n1 n2 h1 h2;split at h
  .rename_i hs;exact⟨_,_,h1,h2,hs,fun fs e=>n1 fs e,fun k e' e=>n2 k e' e⟩
  cases h
 cases h
theorem qq{t:TypeId}{n:Nat}(h:Dt P t=some (some n))(w:World):(isAgg t).run P w=.ok true w/\(sizeOf t).run P w=.ok n w:=by
 obtain⟨d,i,h1,h2,h3,h4⟩:=O8 h;constructor
 .rcases h4 with ⟨fs,rfl⟩|⟨k,e,rfl⟩<;>simp[isAgg,run_underlying h1]
 simp[sizeOf,typeInfo,h2,h3]
theorem qt{t:TypeId}(h:Dt P t=some none)(w:World):(isAgg t).run P w=.ok false w/\(sizeOf t).run P w=.ok 1 w:=by
 obtain⟨d,i,h1,h2,h3,h4,h5⟩:=O9 h;constructor
 .cases d<;>first
   |exact(h4 _ rfl).elim
   |exact(h5 _ _ rfl).elim
   |simp[isAgg,run_underlying h1]
 simp[sizeOf,typeInfo,h2,h3]
theorem wn{m:Mem}{t:TypeId}{k:Option Nat}(hk:Dt P t=some k){v:Value}{cs:List C}(h:At m v cs){x:V}(hx:iC k cs=some x):
  ∃a y,v=.pointer (some a)/\(loadVar t a).run P m.w=.ok y m.w/\bh m x y:=by
 obtain⟨b,o,vs,rfl,YD,hat⟩:=h;cases k with
 |none=>
  obtain⟨h1,h2⟩:=qt hk m.w;cases cs with
  |nil=>simp[iC] at hx
  |cons c r=>
   simp[iC] at hx;subst hx;obtain⟨hl,hr⟩:=YD;cases vs with
   |nil=>simp at hl
   |cons u us=>have h0:=hat 0 u rfl;refine⟨_,u,rfl,?_,bh.one.2 (hr 0 c u rfl rfl)⟩;rw[abY] at h0;simp[loadVar,h1,h0]
 |some n=>
  obtain⟨h1,h2⟩:=qq hk m.w;simp only[iC] at hx;split at hx
  .rename_i hn;cases hx;obtain⟨hl,hr⟩:=YD;refine⟨_,.agg (vs.take n).toArray,rfl,?_,bh.agg.2 ⟨_,rfl,by simp;omega,fun j x u p q=>?_⟩⟩
   .have hlen:(vs.take n).length=n:=by simp;omega
    have:=run_loadCells_list (P:=P) m.w ⟨b,o,none⟩ (vs.take n) (fun j u q=>by
     rw[Addr.add_lit];rw[aa3] at q;split at q
     .exact hat j u q
     cases q)
    rw[hlen] at this;simp[loadVar,h1,h2,this]
   rw[aa3] at p;simp only[aa3] at q;split at p
   .rename_i hj;simp only[hj,if_true] at q;exact hr j x u p q
   cases p
  cases hx
section
variable {m:Mem} {env:Env} {a:Act} {o:Oper} (Yd:Ok w0 m) (hr:gT m env a.tmps)
include Yd hr
theorem NR{t:TypeId}{x:Operand}{y:aC}{k:Option Nat}{cs:List C}{rd:List Nat}{v:V}(ho:o.op=.load t x)(hk:Dt P t=some k)(hx:bK x=some y)
  (hc:AS m.X9 (ev env y)=some (cs,rd)) (hv:iC k cs=some v):fe P w0 a.eval o m v []:=by
 obtain⟨ad,y',h1,h2,h3⟩:=wn hk (EZ Yd hc (aF hx hr)) hv;exact .calm Yd (by simp[execOp,ho,h1,Instr.loadAt,Instr.sureAddr,h2]) h3
theorem Hu{x:Operand}{y:aC}{v:V}(ho:o.op=.nilCheck x)(hx:bK x=some y)(hv:aR (fun _=>false) env m.X9 (.Zf y)=.done v [] []):fe P w0 a.eval o m v []:=by
 have Yr:=aF hx hr;simp only[aR] at hv;split at hv
 .rename_i he;rw[he] at Yr;cases hv;have hc:cE m _ (a.eval x):=Yr;generalize hb:a.eval x=b at hc Yr;cases hc with
  |Yh ad hg h=>exact .calm Yd (by simp[execOp,ho,hb]) Yr
 .rename_i he;rw[he] at Yr;cases hv;have hc:cE m _ (a.eval x):=Yr;generalize hb:a.eval x=b at hc Yr;cases hc with
  |YJ ad hg h=>exact .calm Yd (by simp[execOp,ho,hb]) Yr
 .rename_i he;rw[he] at Yr;cases hv;have hc:cE m _ (a.eval x):=Yr;generalize hb:a.eval x=b at hc Yr;cases hc with
  |p hp=>cases hp with
   |box b' o' f ho' hc' hr'=>exact .calm Yd (by simp[execOp,ho,hb]) Yr
 .rename_i he;rw[he] at Yr;cases hv;have hc:cE m _ (a.eval x):=Yr;generalize hb:a.eval x=b at hc Yr;cases hc with
  |hfn A B ha hb' hra hrb=>exact .calm Yd (by simp[execOp,ho,hb]) Yr
 .rename_i he;rw[he] at Yr;cases hv;have hc:cE m _ (a.eval x):=Yr;generalize hb:a.eval x=b at hc Yr;cases hc with
  |p hp=>cases hp with
   |fn A B ha hb' hra hrb=>exact .calm Yd (by simp[execOp,ho,hb]) Yr
 cases hv
end
end Go.Abs
namespace Go.Abs
variable {P:Program} {w0:World}
section
variable{vs:List Value}{off:Nat}
theorem bt.norm{w:World}{own:Nat->Prop}{x:PV}{v:Value}(h:bt w own x v):bt w own x.norm v:=by
 cases h<;>first
  |exact .sl0 none 0 (fun _=>rfl) (aae _)
  |(simp only[PV.norm];constructor<;>assumption)
theorem Rg{m:Mem}{c:C}{x:PV}{v:Value}(h:toP c=some x)(hr:cE m c v):bt m.w m.own x v:=by
 cases hr<;>simp[toP] at h
 rename_i hp;subst h;exact hp.norm
theorem qj{m:Mem}:∀ {cs:List C} {xs:List PV} {vs:List Value},AP cs=some xs->aZ m cs vs->aY m.w m.own xs vs:=by
 intro cs
 induction cs with
 |nil=>intro xs vs h hr;simp[AP] at h;subst h;exact⟨hr.1,fun j x u a=>by simp at a⟩
 |cons c r ih=>
  intro xs vs h hr;simp only[AP] at h;split at h
  .rename_i x ys h1 h2;cases h;cases vs with
   |nil=>simp[aZ] at hr
   |cons v us=>
    obtain⟨hl,hrr⟩:=ih (vs:=us) h2 ⟨by simpa using hr.1,fun j x u a b=>hr.2 (j+1) x u (by simpa using a) (by simpa using b)⟩;refine⟨by simp[hl],fun j z u a b=>?_⟩;cases j with
    |zero=>simp at a b;subst a b;exact Rg h1 (hr.2 0 c v rfl rfl)
    |succ j=>simp at a b;exact hrr j z u a b
  cases h
def Pw {α:Type}(R:α->Value->Prop)(xs:List α)(vs:List Value):Prop:=vs.length=xs.length/\ ∀(j:Nat) (x:α) (u:Value),xs[j]?=some x->vs[j]?=some u->R x u
theorem Pw.take{α:Type}{R:α->Value->Prop}{xs:List α}(h:Pw R xs vs)(n:Nat):Pw R (xs.take n) (vs.take n):=by
 refine⟨by simp[h.1],fun j x u a b=>?_⟩;rw[aa3] at a b;split at a
 .rename_i hj;rw[if_pos hj] at b;exact h.2 j x u a b
 cases a
theorem Pw.drop{α:Type}{R:α->Value->Prop}{xs:List α}(h:Pw R xs vs)(n:Nat):Pw R (xs.drop n) (vs.drop n):=
 ⟨by simp[h.1],fun j x u a b=>h.2 (n+j) x u (by simpa using a) (by simpa using b)⟩
theorem Pw.append{α:Type}{R:α->Value->Prop}{xs ys:List α}{us:List Value}(h:Pw R xs vs)(k:Pw R ys us):Pw R (xs++ys) (vs++us):=by
 refine⟨by simp[h.1,k.1],fun j x u a b=>?_⟩;by_cases hj:j<xs.length
 .rw[acw hj] at a;rw[acw (by rw[h.1];exact hj)] at b;exact h.2 j x u a b
 rw[acz (by omega)] at a;rw[acz (by rw[h.1];omega),h.1] at b;exact k.2 _ x u a b
theorem Pw.bi{α:Type}{R:α->Value->Prop}{xs ys:List α}{us:List Value}(h:Pw R xs vs)(k:Pw R ys us)(off:Nat):Pw R (bi xs off ys) (bi vs off us):=by unfold Abs.bi;rw[k.1];exact((h.take off).append k).append (h.drop _)
theorem n9{α:Type}{cs xs:List α}(h:off+xs.length<=cs.length):(bi cs off xs).length=cs.length:=by simp[bi];omega
theorem vZ{α:Type}{cs xs:List α}{n:Nat}(h:off+xs.length<=n)(hn:n<=cs.length):(bi cs off xs).take n=bi (cs.take n) off xs:=by unfold bi;rw[List.take_append,List.take_append,adm,List.drop_take];simp only[aaF,aay];rw[ab0 (by omega:off<=cs.length),adm,ab0 (by omega:off<=n),Nat.min_eq_right (by omega:off<=n)];have e:n-(off+xs.length)=n-(off+xs.length):=rfl;rw[aaD (by omega:xs.length<=n-off)]
theorem CJ{α:Type}{a cs xs:List α}:bi (a++cs) (a.length+off) xs=a++bi cs off xs:=by
 unfold bi;rw[List.take_append,List.drop_append];simp only[abx];rw[aaD (by omega:a.length<=a.length+off),List.drop_of_length_le (by omega:a.length<=a.length+off+xs.length)];simp only[aaE];have e1:a.length+off-a.length=off:=by omega
 have e2:a.length+off+xs.length-a.length=off+xs.length:=by omega
 rw[e1,e2]
theorem ED{α:Type}{a cs xs:List α}(h:off+xs.length<=a.length):bi (a++cs) off xs=bi a off xs++cs:=by unfold bi;rw[adW (by omega),List.drop_append_of_le_length (by omega)];simp
theorem PG{α:Type}{sz:Nat}{ps:List α}:∀ {es:List (List α)},(∀e∈es,e.length=sz)->∀ {i:Nat} {e:List α},es[i]?=some e->off+ps.length<=sz->
  (es.set i (bi e off ps)).flatten=bi es.flatten (i*sz+off) ps:=by
 intro es
 induction es with
 |nil=>intro _ i e h;simp at h
 |cons x r ih=>
  intro h i e he hl;have h1:=h x (by simp);cases i with
  |zero=>simp at he;subst he;simp only[List.set_cons_zero,abl,acv,aa0];rw[ED (by omega)]
  |succ i=>
   simp at he;simp only[List.set_cons_succ,abl];rw[ih (fun y hy=>h y (by simp[hy])) he hl];have hh:(i+1)*sz+off=x.length+(i*sz+off):=by rw[h1,aaM];omega
   rw[hh,CJ]
theorem ro{w:World}{g:Nat}{cur new:Array Value}{ty:TypeId}{fz:Nat×Nat}(h:w.heap[g]?=some (.cells cur ty fz)):(w.setRow g new).heap[g]?=some (.cells new ty fz):=setRow_heap w g cur new ty fz h
theorem aZ.pw{m:Mem}{cs:List C}:aZ m cs vs↔Pw (cE m) cs vs:=Iff.rfl
theorem aY.pw{w:World}{own:Nat->Prop}{cs:List PV}:aY w own cs vs↔Pw (bt w own) cs vs:=Iff.rfl
theorem aZ.one{m:Mem}{cs:List C}(h:aZ m cs vs):∀v∈vs,v.oneCell'=true:=by
 intro v hv;obtain⟨j,hj⟩:=aaO hv;have Ye:j<cs.length:=by rw[<- h.1];exact(aac.1 hj).1
 exact(h.2 j _ v (abC Ye) hj).ue
theorem tu{m:Mem}{x:V}{v:Value}{cs:List C}(h:gj x=some cs)(hr:bh m x v):aZ m cs v.cells.toList:=by
 cases x with
 |undef=>simp[gj] at h
 |tup vs=>simp[gj] at h
 |one c=>
  simp[gj] at h;subst h;rw[(bh.one.1 hr).cells];refine⟨rfl,fun j y u p q=>?_⟩;cases j with
  |zero=>simp at p q;subst p q;exact hr
  |succ j=>simp at p
 |agg ds=>simp[gj] at h;subst h;obtain⟨arr,e,h⟩:=bh.agg.1 hr;rw[e];exact h
section
variable {m:Mem} {env:Env} {a:Act} {o:Oper} (Yd:Ok w0 m) (hr:gT m env a.tmps)
include Yd hr
theorem Lf{t:TypeId}{x v:Operand}{x' v':aC}{n:Nat}{cs:List C}{r:V}{u:List kB}{rd:List Nat}(ho:o.op=.store t x v)(hn:nh P t=some n)(hx:bK x=some x')(hv:bK v=some v')
  (hc:gj (ev env v')=some cs) (hw:xN m.X9 (ev env x') n cs=.done r u rd):fe P w0 a.eval o m r u:=by
 have YD:=tu hc (aF hv hr);have hrx:=aF hx hr;unfold nh at hn;simp only[aap] at hn;obtain⟨i,hi,hin⟩:=hn;have Yv:(a.eval v).cells.toList.length=cs.length:=YD.1;simp only[Array.length_toList] at Yv;unfold xN at hw;split at hw
 .cases hw
 rename_i hlen;have hlen:cs.length=n:=by simpa using hlen
 have agM:=YD.one;split at hw
 .rename_i id g off he;rw[he] at hrx;have hrx:cE m _ (a.eval x):=hrx;generalize hb:a.eval x=b at hrx;cases hrx with
  |Yh ad hg had=>
   split at hw
   .rename_i g' cs0 hbk;split at hw
    .rename_i acj;obtain⟨ZV,hfit⟩:=acj;cases hw;have Yp:(m.X9 id).2=some (.var cs0):=by rw[hbk]
     have had:=had (by rw[hbk];exact ZV) (by rw[Yp];rfl);subst had;obtain⟨cur,ty,hh,YK⟩:=Yd.obj id _ Yp;have YL:=YK.1;simp at YL;have aaJ:off+0+(a.eval v).cells.toList.length<=cur.size:=by simp;omega
     have Yz:=run_storeCells_at P (m.σ id) off ty (a.eval v).cells.toList 0 cur m.w hh aaJ agM;simp only[abY] at Yz;generalize hW:m.w.setRow (m.σ id) (cur.toList.take off++(a.eval v).cells.toList++cur.toList.drop (off+(a.eval v).cells.toList.length)).toArray=W at Yz;have hWs:W.heap.size=m.w.heap.size:=by rw[<- hW];simp
     have hWo:∀c,c≠m.σ id->W.heap[c]?=m.w.heap[c]? :=fun c hc=>by rw[<- hW];exact setRow_other m.w (m.σ id) c _ hc
     have YU:=tX (w':=W) (o:=.var (bi cs0 off cs)) Yp rfl (by simp[jh]) (by rw[<- hW];rfl) (by rw[<- hW];rfl) (by rw[<- hW];rfl) hWs hWo;have abG:se (m.iM W id (.var (bi cs0 off cs))) id (.var (bi cs0 off cs)):=by
      refine⟨_,ty,by rw[<- hW];exact ro hh,?_⟩;have:=aZ.pw.2 ((aZ.pw.1 (YK.ev YU.zero)).bi (aZ.pw.1 (YD.ev YU.zero)) off)
      simpa [bi] using this
     refine⟨undef,m.iM W id (.var (bi cs0 off cs)),.inr ⟨?_,rfl⟩,xf Yp rfl Yd (by simp[jh]) (by rw[<- hW];rfl) (by rw[<- hW];rfl) (by rw[<- hW];rfl) hWs hWo abG,YU,rfl,?_,rfl⟩
     .simp only[execOp,ho,hb,Instr.storeAt,Instr.sureAddr,storeVar,sizeOf,typeInfo];simp[hi,Yv,hlen,hin,Yz,Mem.iM]
     simp[Mem.iM,app,hbk,ZV]
    cases hw
   cases hw
 .rename_i id g i' off he;rw[he] at hrx;have hrx:cE m _ (a.eval x):=hrx;generalize hb:a.eval x=b at hrx;cases hrx with
  |YJ ad hg had=>
   split at hw
   .rename_i g' ty sz es hbk;split at hw
    .rename_i e ps he2 agL;split at hw
     .rename_i acj;obtain⟨ZV,hfit⟩:=acj;cases hw;have Yp:(m.X9 id).2=some (.arr ty sz es):=by rw[hbk]
      have had:=had sz (by rw[hbk];exact ZV) (by rw[hbk];rfl);subst had;obtain⟨cur,hh,hs0,ZY,hl,hm,ahN,YK⟩:=Yd.obj id _ Yp;have YJ:=fP ZY he2;have aoB:i'<es.length:=(aac.1 he2).1;have hil:(i'+1)*sz<=es.length*sz:=abh _ aoB;have alk:es.length*sz<=m.κ id*sz:=abh _ hl;rw[aaM,Nat.one_mul] at hil;have hpsl:ps.length=cs.length:=by rw[<- YD.1];exact(qj agL YD).1.symm
      have aaJ:i'*sz+off+0+(a.eval v).cells.toList.length<=cur.size:=by simp;omega
      have Yz:=run_storeCells_at P (m.σ id) (i'*sz+off) ty (a.eval v).cells.toList 0 cur m.w hh aaJ agM;simp only[abY] at Yz;generalize hW:m.w.setRow (m.σ id) (cur.toList.take (i'*sz+off)++(a.eval v).cells.toList++cur.toList.drop (i'*sz+off+(a.eval v).cells.toList.length)).toArray=W at Yz;have hWs:W.heap.size=m.w.heap.size:=by rw[<- hW];simp
      have hWo:∀c,c≠m.σ id->W.heap[c]?=m.w.heap[c]? :=fun c hc=>by rw[<- hW];exact setRow_other m.w (m.σ id) c _ hc
      have YU:=tX (w':=W) (o:=.arr ty sz (es.set i' (bi e off ps))) Yp rfl (by simp[jh]) (by rw[<- hW];rfl) (by rw[<- hW];rfl) (by rw[<- hW];rfl) hWs hWo;have abG:se (m.iM W id (.arr ty sz (es.set i' (bi e off ps)))) id (.arr ty sz (es.set i' (bi e off ps))):=by
       refine⟨_,by rw[<- hW];exact ro hh,hs0,?_,by rw[abi];exact hl,hm,?_,?_⟩
       .intro e' he';rcases List.mem_or_eq_of_mem_set he' with h|h
        .exact ZY e' h
        rw[h,n9 (by omega)];exact YJ
       .simp[Mem.iM];omega
       rw[abi,PG ZY he2 (by omega)];have h1:=(aY.pw.1 (YK.ev YU.zero)).bi (aY.pw.1 ((qj agL YD).ev YU.zero)) (i'*sz+off);rw[<- vZ (by simp;omega) (by simp;omega)] at h1;have h1:=aY.pw.2 h1
       simpa [bi] using h1
      refine⟨undef,m.iM W id (.arr ty sz (es.set i' (bi e off ps))),.inr ⟨?_,rfl⟩,xf Yp rfl Yd (by simp[jh]) (by rw[<- hW];rfl) (by rw[<- hW];rfl) (by rw[<- hW];rfl) hWs hWo abG,YU,rfl,?_,rfl⟩
      .simp only[execOp,ho,hb,Instr.storeAt,Instr.sureAddr,storeVar,sizeOf,typeInfo];simp[hi,Yv,hlen,hin,Yz,Mem.iM]
      simp[Mem.iM,app,hbk,ZV]
     cases hw
    cases hw
   cases hw
 cases hw
end
end
end Go.Abs
namespace Go.Abs
variable {P:Program} {w0:World}
theorem js{m:Mem}{x:V}{v:Value}{n:Nat}(h:A3 x=some n)(hr:bh m x v):∃k,v=.int k (n:Int):=by
 unfold A3 at h;split at h
 .rename_i k z;split at h
  .rename_i hz;cases h;exact⟨k,by rw[kW hr,Int.toNat_of_nonneg hz]⟩
  cases h
 cases h
theorem rm{t:TypeId}{n:Nat}(h:nh P t=some n)(w:World):(sizeOf t).run P w=.ok n w:=by unfold nh at h;simp only[aap] at h;obtain⟨i,hi,rfl⟩:=h;simp[sizeOf,typeInfo,hi]
section
variable {m:Mem} {env:Env} {a:Act} {o:Oper} (Yd:Ok w0 m) (hr:gT m env a.tmps)
include Yd hr
theorem Lj{s:TypeId}{x:Operand}{f:Nat}{fs:Array Field}{d:Field}{y:aC}{v:V}(ho:o.op=.fieldAddr s x f)(hs:P.underlying s=some (.struct fs))(hf:fs[f]?=some d)
  (hz:P.cellsOf d.type≠0) (hx:bK x=some y) (hv:aR (fun _=>false) env m.X9 (.ZH d.offset y)=.done v [] []):fe P w0 a.eval o m v []:=by
 have Yr:=aF hx hr;have Yv:∃n,(sizeOf d.type).run P m.w=.ok n m.w/\n≠0:=by
  unfold Program.cellsOf at hz;cases hi:P.info? d.type with
  |none=>simp[hi] at hz
  |some i=>exact⟨i.size,by simp[sizeOf,typeInfo,hi],by simpa [hi] using hz⟩
 obtain⟨n,hn,Z9⟩:=Yv;have run:∀ad,a.eval x=.pointer (some ad)->(execOp a.eval o).run P m.w=.ok (.value (.pointer (some (ad.add d.offset)))) m.w:=by intro ad had;simp[execOp,ho,had,Instr.fieldAt,run_underlying hs,hf,Instr.sureAddr,fieldPlace,hn,Z9]
 simp only[aR] at hv;split at hv
 .rename_i id g off he;rw[he] at Yr;cases hv;have hc:cE m _ (a.eval x):=Yr;generalize hb:a.eval x=b at hc;cases hc with
  |Yh ad hg h=>exact .calm Yd (run _ hb) (bh.one.2 (.Yh _ hg fun h1 h2=>by rw[h h1 h2,Addr.add_lit]))
 .rename_i id g i off he;rw[he] at Yr;cases hv;have hc:cE m _ (a.eval x):=Yr;generalize hb:a.eval x=b at hc;cases hc with
  |YJ ad hg h=>exact .calm Yd (run _ hb) (bh.one.2 (.YJ _ hg fun sz h1 h2=>by rw[h sz h1 h2,Addr.add_lit,adk]))
 .rename_i cs he;rw[he] at Yr;cases hv;have hc:cE m _ (a.eval x):=Yr;generalize hb:a.eval x=b at hc;cases hc with
  |p hp=>cases hp with
   |box b' o' f' ho' hc' hr'=>refine .calm Yd (run _ hb) (kV ?_);rw[Addr.add_lit];refine .box b' (o'+d.offset) (fun j=>f' (d.offset+j)) (fun h=>ho' fun e=>h (by simp[e])) (fun j z h=>?_) fun j z h=>hr' _ z (by simpa using h);rw[adk];exact hc' _ z (by simpa using h)
 cases hv
theorem Li{t e:TypeId}{x i:Operand}{sz:Nat}{x' i':aC}{v:V}(ho:o.op=.indexAddr t x i)(ht:P.underlying t=some (.slice e))(hs:nh P e=some sz)
  (hx:bK x=some x') (hi:bK i=some i') (hv:aR (fun _=>false) env m.X9 (.Zc sz x' i')=.done v [] []):fe P w0 a.eval o m v []:=by
 have Yr:=aF hx hr;have hri:=aF hi hr;have run:∀ad len cap k (n:Nat),a.eval x=.slice (some ad) len cap->a.eval i=.int k (n:Int)->n<len->(execOp a.eval o).run P m.w=.ok (.value (.pointer (some (ad.add (n*sz))))) m.w:=by intro ad len cap k n h1 h2 h3;simp[execOp,ho,h1,h2,Instr.indexAt,asIntOf,run_underlying ht,rm hs,h3]
 simp only[aR] at hv;split at hv
 .rename_i n es hn he;obtain⟨k,hk⟩:=js hn hri;rw[he] at Yr;split at hv
  .rename_i el YJ;split at hv
   .rename_i hlen;cases hv;have hc:cE m _ (a.eval x):=Yr;generalize hb:a.eval x=b at hc;cases hc with
    |p hp=>
     generalize Zu:(PV.sl es)=pv at hp;cases hp<;>first
      |cases Zu
      |skip
     .simp at YJ
     rename_i b' o' cap YR f hm' ho' hl' Yv hcc hrr;have Ye:n<es.length:=(aac.1 YJ).1;have aiB:YR=sz:=by rw[<- fP Yv YJ];exact hlen
     subst aiB;refine .calm Yd (run _ _ _ k n hb hk Ye) (kV ?_);rw[Addr.add_lit];refine .box b' (o'+n*YR) (fun j=>f (n*YR+j)) (fun h=>ho' ?_) (fun j z h=>?_) fun j z h=>?_
     .intro e0;cases el with
      |nil=>exact h rfl
      |cons c r=>have:=oR Yv YJ (j:=0) (by rw[<- hlen];simp);rw[e0] at this;simp at this
     .have hj:j<YR:=by rw[<- hlen];exact(aac.1 h).1
      rw[adk];exact hcc _ z (by rw[oR Yv YJ hj];exact h)
     have hj:j<YR:=by rw[<- hlen];exact(aac.1 h).1
     exact hrr _ z (by rw[oR Yv YJ hj];exact h)
   cases hv
  cases hv
 .rename_i n id g z off len hn he;obtain⟨k,hk⟩:=js hn hri;rw[he] at Yr;split at hv
  .rename_i Ye;cases hv;have hc:cE m _ (a.eval x):=Yr;generalize hb:a.eval x=b at hc;cases hc with
   |hsl ad cap hg hl hm h=>refine .calm Yd (run _ _ _ k n hb hk Ye.1) (bh.one.2 (.YJ _ hg fun s h1 h2=>?_));obtain⟨e1,e2,_⟩:=h s h1 h2;rw[e2 (.inr (by omega)),Addr.add_lit,e1,Ye.2];simp[aaM]
  cases hv
 cases hv
theorem Lm{t e:TypeId}{x i:Operand}{sz ln:Nat}{x' i':aC}{v:V}(ho:o.op=.indexAddr t x i)(ht:P.underlying t=some (.array ln e))(hs:nh P e=some sz)
  (hx:bK x=some x') (hi:bK i=some i') (hv:aR (fun _=>false) env m.X9 (.ZT ln sz x' i')=.done v [] []):fe P w0 a.eval o m v []:=by
 have Yr:=aF hx hr;have hri:=aF hi hr;have run:∀ad k (n:Nat),a.eval x=.pointer (some ad)->a.eval i=.int k (n:Int)->n<ln->(execOp a.eval o).run P m.w=.ok (.value (.pointer (some (ad.add (n*sz))))) m.w:=by intro ad k n h1 h2 h3;simp[execOp,ho,h1,h2,Instr.indexAt,asIntOf,run_underlying ht,rm hs,h3,Instr.sureAddr]
 simp only[aR] at hv;split at hv
 .rename_i n id g off hn he;obtain⟨k,hk⟩:=js hn hri;rw[he] at Yr;split at hv
  .rename_i Ye;cases hv;have hc:cE m _ (a.eval x):=Yr;generalize hb:a.eval x=b at hc;cases hc with
   |Yh ad hg h=>exact .calm Yd (run _ k n hb hk Ye) (bh.one.2 (.Yh _ hg fun h1 h2=>by rw[h h1 h2,Addr.add_lit]))
  cases hv
 .rename_i n id g j off hn he;obtain⟨k,hk⟩:=js hn hri;rw[he] at Yr;split at hv
  .rename_i Ye;cases hv;have hc:cE m _ (a.eval x):=Yr;generalize hb:a.eval x=b at hc;cases hc with
   |YJ ad hg h=>exact .calm Yd (run _ k n hb hk Ye) (bh.one.2 (.YJ _ hg fun s h1 h2=>by rw[h s h1 h2,Addr.add_lit,adk]))
  cases hv
 .rename_i n cs hn he;obtain⟨k,hk⟩:=js hn hri;rw[he] at Yr;split at hv
  .rename_i Ye;cases hv;have hc:cE m _ (a.eval x):=Yr;generalize hb:a.eval x=b at hc;cases hc with
   |p hp=>cases hp with
    |box b' o' f' ho' hc' hr'=>refine .calm Yd (run _ k n hb hk Ye) (kV ?_);rw[Addr.add_lit];refine .box b' (o'+n*sz) (fun j=>f' (n*sz+j)) (fun h=>ho' fun e=>h (by simp[e])) (fun j z h=>?_) fun j z h=>hr' _ z (by simpa using h);rw[adk];exact hc' _ z (by simpa using h)
  cases hv
 cases hv
theorem Fp{t:TypeId}{k:Option Nat}(hk:Dt P t=some k){cs:List C}{arr:Array Value}(hc:aZ m cs arr.toList){off:Nat}{x:V}(hx:iC k (cs.drop off)=some x):
  ∃y,(part t arr off).run P m.w=.ok y m.w/\bh m x y:=by
 have _u0:=Yd;have _u1:=hr;have hl:=hc.1;simp at hl;cases k with
 |none=>
  obtain⟨h1,h2⟩:=qt hk m.w;cases hd:cs.drop off with
  |nil=>simp[hd,iC] at hx
  |cons c r=>
   simp[hd,iC] at hx;subst hx;have YD:cs[off]?=some c:=by
    have:=congrArg (·[0]?) hd
    simpa using this
   have Ye:off<arr.size:=by rw[hl];exact(aac.1 YD).1
   refine⟨arr[off],by simp[part,h1,Ye],bh.one.2 (hc.2 off c _ YD (by simp[Ye]))⟩
 |some n=>
  obtain⟨h1,h2⟩:=qq hk m.w;simp only[iC] at hx;split at hx
  .rename_i hn;cases hx;simp at hn;refine⟨.agg (arr.extract off (off+n)),by simp[part,h1,h2],bh.agg.2 ⟨_,rfl,by simp;omega,fun j x u p q=>?_⟩⟩;rw[aa3] at p;split at p
   .rename_i hj;simp at p;refine hc.2 (off+j) x u p ?_;have Ye:off+j<cs.length:=(aac.1 p).1;have he:(arr.extract off (off+n)).toList=(arr.toList.drop off).take n:=by simp
    rw[he,aa3,if_pos hj,acA] at q;exact q
   cases p
  cases hx
theorem RO{t:TypeId}{x:Operand}{f:Nat}{fs:Array Field}{d:Field}{y:aC}{k:Option Nat}{cs:List C}{v:V}(ho:o.op=.field t x f)(hs:P.underlying t=some (.struct fs))(hf:fs[f]?=some d)
  (hk:Dt P d.type=some k) (hx:bK x=some y) (hy:ev env y=.agg cs) (hv:iC k (cs.drop d.offset)=some v):fe P w0 a.eval o m v []:=by
 have Yr:=aF hx hr;rw[hy] at Yr;obtain⟨arr,e,hc⟩:=bh.agg.1 Yr;obtain⟨z,h1,h2⟩:=Fp (Yd:=Yd) (hr:=hr) hk hc hv;exact .calm Yd (by simp[execOp,ho,e,Instr.field,run_underlying hs,hf,asAgg,h1]) h2
theorem NV{t e:TypeId}{x i:Operand}{ln sz:Nat}{x' i':aC}{k:Option Nat}{n:Nat}{cs:List C}{v:V}(ho:o.op=.index t x i)(ht:P.underlying t=some (.array ln e))(hs:nh P e=some sz)
  (hk:Dt P e=some k) (hx:bK x=some x') (hi:bK i=some i') (hn:A3 (ev env i')=some n) (Ye:n<ln) (hy:ev env x'=.agg cs) (hv:iC k (cs.drop (n*sz))=some v):fe P w0 a.eval o m v []:=by
 have Yr:=aF hx hr;obtain⟨kk,hkk⟩:=js hn (aF hi hr);rw[hy] at Yr;obtain⟨arr,e',hc⟩:=bh.agg.1 Yr;obtain⟨z,h1,h2⟩:=Fp (Yd:=Yd) (hr:=hr) hk hc hv;exact .calm Yd (by simp[execOp,ho,e',hkk,Instr.index,asIntOf,run_underlying ht,rm hs,Ye,h1]) h2
theorem NN{t:TypeId}{x i:Operand}{x' i':aC}{n:Nat}{s:ByteArray}{b:UInt8}(ho:o.op=.index t x i)(ht:P.underlying t=some .string)
  (hx:bK x=some x') (hi:bK i=some i') (hn:A3 (ev env i')=some n) (hy:ev env x'=.one (.p (.str s))) (hb:s[n]?=some b):fe P w0 a.eval o m (.one (.p (.int .u8 b.toNat))) []:=by
 have Yr:=aF hx hr;obtain⟨kk,hkk⟩:=js hn (aF hi hr);rw[hy] at Yr;exact .calm Yd (by simp[execOp,ho,uq Yr,hkk,Instr.index,asIntOf,run_underlying ht,hb]) (kV (.int _ _))
end
end Go.Abs
namespace Go.Abs
variable {P:Program} {w0:World}
theorem I0{op:BinOp}{t:TypeId}{k k':IntKind}{x y:Int}{v:PV}(w:World)(hk:k=k'\/op=.shl\/op=.shr)(h:iw op k x y=some v):
  ∃u,(binOp op t (.int k x) (.int k' y)).run P w=.ok u w/\ ∀own,bt w own v u:=by
 by_cases hs:op=.shl\/op=.shr
 .rcases hs with rfl|rfl
  .simp only[iw] at h;split at h
   .cases h
   rename_i hy;cases h;exact⟨_,by simp[binOp,Op.shift,hy],fun own=>.int _ _⟩
  simp only[iw] at h;split at h
  .cases h
  rename_i hy;cases h;exact⟨_,by simp[binOp,Op.shift,hy],fun own=>.int _ _⟩
 have hkk:k=k':=by
  rcases hk with h|h
  .exact h
  exact(hs h).elim
 subst hkk;cases op<;>simp only[iw] at h<;>first
  |cases h
  |skip
 all_goals first
  |exact(hs (.inl rfl)).elim
  |exact(hs (.inr rfl)).elim
  |(exact⟨_,by simp[binOp,Op.intArith,Op.intCmp,Op.intBits],fun own=>.int _ _⟩)
  |(exact⟨_,by simp[binOp,Op.intArith,Op.intCmp],fun own=>.bool _⟩)
  |(split at h
    .cases h
    rename_i hy;cases h;exact⟨_,by simp[binOp,Op.intDiv,hy],fun own=>.int _ _⟩)
theorem IY{op:BinOp}{t:TypeId}{x y:ByteArray}{v:PV}(w:World)(h:IZ op x y=some v):
  ∃u,(binOp op t (.string x) (.string y)).run P w=.ok u w/\ ∀own,bt w own v u:=by
 cases op<;>simp only[IZ] at h<;>first
  |cases h
  |skip
 all_goals first
  |exact⟨_,by simp[binOp,Op.stringOp],fun own=>.bool _⟩
  |(split at h
    .rename_i hl;cases h;refine⟨.string (x++y),?_,fun own=>.str _⟩;have:¬((x.size:Int)+(y.size:Int)>9223372036854775807):=by omega
     simp[binOp,Op.stringOp,this]
    cases h)
section
variable {m:Mem} {env:Env} {a:Act} {o:Oper} (Yd:Ok w0 m) (hr:gT m env a.tmps)
include Yd hr
theorem RQ{op:BinOp}{t ty:TypeId}{x y:Operand}{x' y':aC}{v:V}(ho:o.op=.binOp op t x y ty)(hx:bK x=some x')(hy:bK y=some y')
  (hv:pE op (ev env x') (ev env y')=some v):fe P w0 a.eval o m v []:=by
 have h1:=aF hx hr;have h2:=aF hy hr;unfold pE at hv;split at hv
 .rename_i k p k' q e1 e2;rw[e1] at h1;rw[e2] at h2;split at hv
  .rename_i hk;simp only[aap] at hv;obtain⟨u,hu,rfl⟩:=hv;obtain⟨z,hz,hzr⟩:=I0 (P:=P) (t:=t) m.w hk hu;refine .calm Yd ?_ (kV (hzr _));have hg:(eqGuard op t x y (.int k p) (.int k' q)).run P m.w=.ok () m.w:=by cases op<;>simp[eqGuard]
   simp[execOp,ho,kW h1,kW h2,hg,hz]
  cases hv
 .rename_i p q e1 e2;rw[e1] at h1;rw[e2] at h2;simp only[aap] at hv;obtain⟨u,hu,rfl⟩:=hv;obtain⟨z,hz,hzr⟩:=IY (P:=P) (t:=t) m.w hu;refine .calm Yd ?_ (kV (hzr _));have hg:(eqGuard op t x y (.string p) (.string q)).run P m.w=.ok () m.w:=by cases op<;>simp[eqGuard]
  simp[execOp,ho,uq h1,uq h2,hg,hz]
 cases hv
theorem Rw{t:TypeId}{x:Operand}{x':aC}{b:Bool}(ho:o.op=.unOp .not t x)(hx:bK x=some x')(hb:ev env x'=.one (.p (.bool b))):fe P w0 a.eval o m (.one (.p (.bool (!b)))) []:=by have h1:=aF hx hr;rw[hb] at h1;exact .calm Yd (by simp[execOp,ho,j4 h1,Op.unary]) (kV (.bool _))
theorem Rx{t:TypeId}{x:Operand}{x':aC}{k:IntKind}{n:Int}(ho:o.op=.unOp .neg t x)(hx:bK x=some x')(hb:ev env x'=.one (.p (.int k n))):fe P w0 a.eval o m (.one (.p (.int k (k.wrap (0-n))))) []:=by have h1:=aF hx hr;rw[hb] at h1;exact .calm Yd (by simp[execOp,ho,kW h1,Op.unary,Op.intArith]) (kV (.int _ _))
theorem NT{s d:TypeId}{x:Operand}{x':aC}{ks k k0:IntKind}{n:Int}(ho:o.op=.convert s d x)(hs:P.underlying s=some (.int ks))(hd:P.underlying d=some (.int k))(hx:bK x=some x')
  (hb:ev env x'=.one (.p (.int k0 n))):fe P w0 a.eval o m (.one (.p (.int k (k.wrap n)))) []:=by
 have h1:=aF hx hr;rw[hb] at h1;exact .calm Yd (by simp[execOp,ho,kW h1,convert,run_underlying hs,run_underlying hd,Conv.intToInt]) (kV (.int _ _))
theorem Bw:∀ {xs:List Operand} {ys:List aC} {cs:List C},jf xs=some ys->mv env ys=some cs->aZ m cs (xs.map a.eval):=by
 have _u0:=Yd;intro xs
 induction xs with
 |nil=>intro ys cs h1 h2;simp[jf] at h1;subst h1;simp[mv] at h2;subst h2;exact⟨rfl,fun j x u p=>by simp at p⟩
 |cons x r ih=>
  intro ys cs h1 h2;simp only[jf] at h1;split at h1
  .rename_i y ys' e1 e2;cases h1;simp only[mv] at h2;split at h2
   .rename_i c q e3 e4;cases h2;obtain⟨hl,hrr⟩:=ih e2 e4;refine⟨by simpa using hl,fun j z u p q=>?_⟩;cases j with
    |zero=>simp at p q;subst p q;have:=aF e1 hr;rw[e3] at this;exact this
    |succ j=>simp at p q;exact hrr j z u p (by simpa using q)
   cases h2
  cases h1
theorem NQ{f:FuncId}{x y:Array Operand}{x' y':List aC}{cs ds:List C}(ho:o.op=.makeFunc (.func f) x y)(hx:jf x.toList=some x')(hy:jf y.toList=some y')
  (hc:mv env x'=some cs) (hd:mv env y'=some ds):fe P w0 a.eval o m (.one (.hfn f cs ds)) []:=by
 have h1:=Bw (Yd:=Yd) (hr:=hr) hx hc;have h2:=Bw (Yd:=Yd) (hr:=hr) hy hd;refine .calm (x:=.func (.func f) (x.map a.eval) (y.map a.eval)) Yd (by simp[execOp,ho,Instr.makeFunc]) (bh.one.2 (.hfn _ _ ?_ ?_ ?_ ?_))
 .have:=h1.1;simpa using this
 .have:=h2.1;simpa using this
 .intro j z u p q;exact h1.2 j z u p (by rw[<- Array.toList_map,Array.getElem?_toList];exact q)
 intro j z u p q;exact h2.2 j z u p (by rw[<- Array.toList_map,Array.getElem?_toList];exact q)
theorem EN{x:Operand}{i:Nat}{x':aC}{vs:List V}{v:V}(ho:o.op=.extract x i)(hx:bK x=some x')(he:ev env x'=.tup vs)(hv:vs[i]?=some v):fe P w0 a.eval o m v []:=by
 have h1:=aF hx hr;rw[he] at h1;obtain⟨arr,e,hl,hc⟩:=h1;have Ye:i<arr.size:=by rw[hl];exact(aac.1 hv).1
 exact .calm (x:=arr[i]) Yd (by simp[execOp,ho,e,Instr.extract,Ye]) (.of1 (hc i v _ hv (by simp[Ye])))
theorem FH{x:V}{v:Value}{n:Nat}(h:wW x=some n)(hv:bh m x v):∃ad cap,v=.slice ad n cap/\n<=cap/\cap<=maxLen:=by
 have _u0:=Yd;have _u1:=hr;unfold wW at h;split at h
 .cases h;exact⟨none,0,ur hv,aad _,aae _⟩
 .cases h;obtain⟨hp⟩:cE m _ v:=hv;rename_i es;generalize Zu:(PV.sl es)=pv at hp;cases hp<;>cases Zu
  .exact⟨_,_,rfl,aae _,by assumption⟩
  exact⟨_,_,rfl,by assumption,by assumption⟩
 .cases h;have hc:cE m _ v:=hv;cases hc with
  |hsl ad cap hg hl hm h=>exact⟨_,_,rfl,hl,hm⟩
 cases h
theorem NS{c:Call}{x:Operand}{x':aC}{t e:TypeId}{n:Nat}(ho:o.op=.call c)(hc:c.callee=.builtin .len)(has:c.args= #[x])(hat:c.argTypes[0]?=some t)(ht:P.underlying t=some (.slice e))
  (hx:bK x=some x') (hn:wW (ev env x')=some n):fe P w0 a.eval o m (.one (.p (.int .i64 n))) []:=by
 obtain⟨ad,cap,h1,_,_⟩:=FH (Yd:=Yd) (hr:=hr) hn (aF hx hr);refine .calm Yd ?_ (kV (.int _ _));simp[execOp,ho,resolve,hc,has,invoke,builtin,Builtin.len_,hat,h1,run_underlying ht,goInt]
theorem NM{c:Call}{x:Operand}{x':aC}{t:TypeId}{s:ByteArray}(ho:o.op=.call c)(hc:c.callee=.builtin .len)(has:c.args= #[x])(hat:c.argTypes[0]?=some t)(ht:P.underlying t=some .string)
  (hx:bK x=some x') (hn:ev env x'=.one (.p (.str s))):fe P w0 a.eval o m (.one (.p (.int .i64 s.size))) []:=by
 have h1:=aF hx hr;rw[hn] at h1;refine .calm Yd ?_ (kV (.int _ _));simp[execOp,ho,resolve,hc,has,invoke,builtin,Builtin.len_,hat,uq h1,run_underlying ht,goInt]
theorem Rz{c:Call}{x y:Operand}{x' y':aC}{k k':IntKind}{p q:Int}(ho:o.op=.call c)(hc:c.callee=.builtin .max)(has:c.args= #[x,y])
  (hx:bK x=some x') (hy:bK y=some y') (h1:ev env x'=.one (.p (.int k p))) (h2:ev env y'=.one (.p (.int k' q))):fe P w0 a.eval o m (.one (.p (.int k (if q>p then q else p)))) []:=by
 have g1:=aF hx hr;have g2:=aF hy hr;rw[h1] at g1;rw[h2] at g2;refine .calm Yd ?_ (kV (.int _ _));simp[execOp,ho,resolve,hc,has,invoke,builtin,Builtin.max_,Builtin.max2,kW g1,kW g2]
theorem Ry{c:Call}{x y:Operand}{x' y':aC}{k k':IntKind}{p q:Int}(ho:o.op=.call c)(hc:c.callee=.builtin .min)(has:c.args= #[x,y])
  (hx:bK x=some x') (hy:bK y=some y') (h1:ev env x'=.one (.p (.int k p))) (h2:ev env y'=.one (.p (.int k' q))):fe P w0 a.eval o m (.one (.p (.int k (if q<p then q else p)))) []:=by
 have g1:=aF hx hr;have g2:=aF hy hr;rw[h1] at g1;rw[h2] at g2;refine .calm Yd ?_ (kV (.int _ _));simp[execOp,ho,resolve,hc,has,invoke,builtin,Builtin.min_,Builtin.min2,kW g1,kW g2]
end
end Go.Abs
namespace Go.Abs
variable {P:Program} {w0:World}
section
variable{sz:Nat}
theorem QC:∀(u:List kB) (X9:aE) (id:Nat),(app u X9 id=X9 id/\ ∀e∈u,e.1≠id)\/ ∃e∈u,e.1=id/\app u X9 id=e.2:=by
 intro u
 induction u with
 |nil=>intro X9 id;exact .inl ⟨rfl,fun e h=>by simp at h⟩
 |cons x r ih=>
  intro X9 id;obtain⟨i,o⟩:=x;simp only[app];rcases ih (ij X9 i o) id with ⟨h1,h2⟩|⟨e,he,h1,h2⟩
  .by_cases hi:id=i
   .exact .inr ⟨(i,o),by simp,hi.symm,by rw[h1];simp[ae,hi]⟩
   refine .inl ⟨by rw[h1];simp[ae,hi],fun e he=>?_⟩;rcases aag.1 he with rfl|he
   .exact fun h=>hi h.symm
   exact h2 e he
  exact .inr ⟨e,by simp[he],h1,h2⟩
theorem je{α β γ:Type}{f:α->Option (β×List Nat)}{R:α->γ->Prop}{T:β->γ->Prop}{d9:List Nat->Prop}(acg:∀a b,d9 (a++b)->d9 a/\d9 b)
  (hf:∀a b r v,f a=some (b,r)->R a v->d9 r->T b v):∀ {xs:List α} {ys:List β} {r:List Nat} {vs:List γ},collect f xs=some (ys,r)->d9 r->
  (vs.length=xs.length/\ ∀(j:Nat) (x:α) (u:γ),xs[j]?=some x->vs[j]?=some u->R x u)->(vs.length=ys.length/\ ∀(j:Nat) (x:β) (u:γ),ys[j]?=some x->vs[j]?=some u->T x u):=by
 intro xs
 induction xs with
 |nil=>intro ys r vs h _ hr;simp[collect] at h;obtain⟨rfl,rfl⟩:=h;exact⟨hr.1,fun j x u a=>by simp at a⟩
 |cons x t ih=>
  intro ys r vs h hg hr;simp only[collect] at h;split at h
  .rename_i b p bs q e1 e2;cases h;obtain⟨g1,g2⟩:=acg _ _ hg;cases vs with
   |nil=>simp at hr
   |cons v us=>
    obtain⟨hl,hh⟩:=ih (vs:=us) e2 g2 ⟨by simpa using hr.1,fun j x u a b=>hr.2 (j+1) x u (by simpa using a) (by simpa using b)⟩;refine⟨by simp[hl],fun j z u a b=>?_⟩;cases j with
    |zero=>simp at a b;subst a b;exact hf _ _ _ _ e1 (hr.2 0 x v rfl rfl) g1
    |succ j=>simp at a b;exact hh j z u a b
  cases h
def fS(m:Mem)(own:Nat->Prop)(r:List Nat):Prop:=(∀b,own b->m.own b)/\ ∀id∈r,¬own (m.σ id)
theorem fS.app{m:Mem}{own:Nat->Prop}{a b:List Nat}(h:fS m own (a++b)):fS m own a/\fS m own b:=
 ⟨⟨h.1,fun id hi=>h.2 id (by simp[hi])⟩,⟨h.1,fun id hi=>h.2 id (by simp[hi])⟩⟩
theorem bt.less{w:World}{own aaZ:Nat->Prop}(h:∀b,aaZ b->own b){x:PV}{v:Value}(hr:bt w own x v):bt w aaZ x v:=hr.mono fun c _ hn=>⟨rfl,fun ho=>hn (h c ho)⟩
theorem aY.less{w:World}{own aaZ:Nat->Prop}(h:∀b,aaZ b->own b){x:List PV}{v:List Value}(hr:aY w own x v):aY w aaZ x v:=⟨hr.1,fun j x u a b=>(hr.2 j x u a b).less h⟩
theorem JS{α:Type}{xs:List α}{R:α->Value->Prop}{vs:List Value}(h:Pw R xs vs):∃f:Nat->Value,∀(j:Nat) (x:α),xs[j]?=some x->vs[j]?=some (f j)/\R x (f j):=by
 refine⟨fun j=>vs.getD j undef,fun j x hx=>?_⟩;have Ye:j<vs.length:=by rw[h.1];exact(aac.1 hx).1
 have:vs[j]?=some (vs.getD j undef):=by simp[List.getD,abC Ye]
 exact⟨this,h.2 j x _ hx this⟩
theorem HT{w:World}{own:Nat->Prop}{b o:Nat}{cur:Array Value}{ty:TypeId}{fz:Nat×Nat}{ps:List PV}(hh:w.heap[b]?=some (.cells cur ty fz))(hp:Pw (bt w own) ps (cur.toList.drop o |>.take ps.length))
  (ho:ps≠[]-> ¬own b):bt w own (.box ps) (.pointer (some ⟨b,o,none⟩)):=by
 obtain⟨f,hf⟩:=JS hp;refine .box b o f ho (fun j x hx=>?_) fun j x hx=>(hf j x hx).2;have h1:=(hf j x hx).1;rw[aa3] at h1;split at h1
 .rw[qQ hh];simpa using h1
 cases h1
theorem T5{w:World}{own:Nat->Prop}{b o cap sz:Nat}{cur:Array Value}{ty:TypeId}{fz:Nat×Nat}{es:List (List PV)}(hh:w.heap[b]?=some (.cells cur ty fz))(Yv:∀e∈es,e.length=sz)
  (hl:es.length<=cap) (hm:cap<=maxLen) (hp:Pw (bt w own) es.flatten ((cur.toList.drop o).take (es.length*sz))) (ho:¬own b):bt w own (.sl es) (.slice (some ⟨b,o,none⟩) es.length cap):=by
 obtain⟨f,hf⟩:=JS hp;refine .sl b o cap sz f (fun _=>ho) hl hm Yv (fun j x hx=>?_) fun j x hx=>(hf j x hx).2;have h1:=(hf j x hx).1;rw[aa3] at h1;split at h1
 .rw[qQ hh];simpa using h1
 cases h1
theorem rR{α:Type}:∀ {es:List (List α)},(∀e∈es,e.length=sz)->∀(n:Nat),(es.drop n).flatten=es.flatten.drop (n*sz):=by
 intro es
 induction es with
 |nil=>intro _ n;simp
 |cons e r ih=>
  intro h n;cases n with
  |zero=>simp
  |succ n=>simp only[List.drop_succ_cons,abl];have h1:=h e (by simp);rw[ih (fun x hx=>h x (by simp[hx])),List.drop_append,List.drop_of_length_le (by rw[h1,aaM];omega:e.length<=(n+1)*sz),aaE];congr 1;rw[h1,aaM];omega
theorem lk{α:Type}:∀ {es:List (List α)},(∀e∈es,e.length=sz)->∀(n:Nat),(es.take n).flatten=es.flatten.take (n*sz):=by
 intro es
 induction es with
 |nil=>intro _ n;simp
 |cons e r ih=>
  intro h n;cases n with
  |zero=>simp
  |succ n=>simp only[List.take_succ_cons,abl];have h1:=h e (by simp);rw[ih (fun x hx=>h x (by simp[hx])),List.take_append,aaD (by rw[h1,aaM];omega:e.length<=(n+1)*sz)];congr 1;congr 1;rw[h1,aaM];omega
theorem sQ{α:Type}{R:α->Value->Prop}{off len:Nat}{es:List (List α)}{cur:List Value}(Yv:∀e∈es,e.length=sz)(h:Pw R es.flatten (cur.take (es.length*sz)))(hfit:off+len<=es.length):
  Pw R ((es.drop off).take len).flatten ((cur.drop (off*sz)).take (((es.drop off).take len).length*sz)):=by
 have aem:∀e∈es.drop off,e.length=sz:=fun e he=>Yv e (ab1 he);have hlen:((es.drop off).take len).length=len:=by simp;omega
 rw[hlen,lk aem,rR Yv];have h1:=(h.drop (off*sz)).take (len*sz);have h2:((cur.take (es.length*sz)).drop (off*sz)).take (len*sz)=(cur.drop (off*sz)).take (len*sz):=by
  rw[List.drop_take,adm];congr 1;have:off*sz+len*sz<=es.length*sz:=by rw[<- aaM];exact abh _ hfit
  omega
 rw[h2] at h1;exact h1
theorem CZ{α:Type}{R:α->Value->Prop}:∀ {ps:List (List α)} {cur:List Value},(∀e∈ps,e.length=sz)->ps.length*sz<=cur.length->
  (∀(j:Nat) (e:List α),ps[j]?=some e->Pw R e ((cur.drop (j*sz)).take sz))->Pw R ps.flatten (cur.take (ps.length*sz)):=by
 intro ps
 induction ps with
 |nil=>intro cur _ _ _;exact⟨by simp,fun j x u a=>by simp at a⟩
 |cons e r ih=>
  intro cur h hl hp;simp only[aas,aaM,Nat.one_mul] at hl;have h0:=hp 0 e rfl;rw[acv,List.drop_zero] at h0;have h1:=ih (cur:=cur.drop sz) (fun x hx=>h x (by simp[hx])) (by simp;omega) fun j x hx=>by have:=hp (j+1) x (by simpa using hx);rw[aaM,Nat.one_mul] at this;rw[List.drop_drop,Nat.add_comm sz];exact this
  have h2:=h0.append h1;have h3:cur.take sz++(cur.drop sz).take (r.length*sz)=cur.take ((e::r).length*sz):=by rw[aas,aaM,Nat.one_mul,Nat.add_comm,List.take_add]
  rw[h3] at h2;exact h2
theorem zy{α:Type}{R:α->Value->Prop}{i:Nat}{es:List (List α)}{e:List α}{cur:List Value}(Yv:∀e∈es,e.length=sz)(h:Pw R es.flatten (cur.take (es.length*sz)))(he:es[i]?=some e):
  Pw R e ((cur.drop (i*sz)).take sz):=by
 have hi:i<es.length:=(aac.1 he).1;have h1:=sQ (off:=i) (len:=1) Yv h (by omega);have h0:((es.drop i).take 1)=[e]:=by rw[List.drop_eq_getElem_cons hi];have:=(aac.1 he).2;simp[this]
 rw[h0] at h1
 simpa using h1
theorem qP{α β:Type}{f:α->Option (β×List Nat)}:∀ {xs:List α} {ys:List β} {r:List Nat},collect f xs=some (ys,r)->ys.length=xs.length:=by
 intro xs
 induction xs with
 |nil=>intro ys r h;simp[collect] at h;rw[h.1];rfl
 |cons x t ih=>
  intro ys r h;simp only[collect] at h;split at h
  .rename_i b p bs q e1 e2;cases h;simp[ih e2]
  cases h
theorem tm{α β:Type}{f:α->Option (β×List Nat)}:∀ {xs:List α} {ys:List β} {r:List Nat},collect f xs=some (ys,r)->∀ {j:Nat} {y:β},ys[j]?=some y->∃x q,xs[j]?=some x/\f x=some (y,q)/\ ∀i∈q,i∈r:=by
 intro xs
 induction xs with
 |nil=>intro ys r h j y hy;simp[collect] at h;rw[h.1] at hy;simp at hy
 |cons x t ih=>
  intro ys r h j y hy;simp only[collect] at h;split at h
  .rename_i b p bs q e1 e2;cases h;cases j with
   |zero=>simp at hy;subst hy;exact⟨x,p,rfl,e1,fun i hi=>by simp[hi]⟩
   |succ j=>simp at hy;obtain⟨x',q',h1,h2,h3⟩:=ih e2 hy;exact⟨x',q',by simpa using h1,h2,fun i hi=>by simp[h3 i hi]⟩
  cases h
theorem ng{m:Mem}(Yd:Ok w0 m){own:Nat->Prop}:∀(n:Nat) {c:C} {x:PV} {r:List Nat} {v:Value},snap m.X9 n c=some (x,r)->cE m c v->fS m own r->bt m.w own x v:=by
 intro n
 induction n with
 |zero=>intro c x r v h;simp[snap] at h
 |succ n ih=>
  intro c x r v h hr hs;have adn:∀ {cs:List C} {ps:List PV} {q:List Nat} {vs:List Value},collect (snap m.X9 n) cs=some (ps,q)->fS m own q->Pw (cE m) cs vs->Pw (bt m.w own) ps vs:=fun h1 h2 h3=>je (R:=cE m) (T:=bt m.w own) (d9:=fS m own) (fun a b h=>h.app) (fun a b r v e1 e2 e3=>ih e1 e2 e3) h1 h2 h3
  have adg:∀ {ps:List PV} {vs:List Value},aY m.w m.own ps vs->Pw (bt m.w own) ps vs:=fun h=>aY.pw.1 (h.less hs.1);unfold snap at h;cases c with
  |p y=>simp at h;obtain⟨rfl,rfl⟩:=h;obtain⟨hp⟩:=hr;exact hp.norm.less hs.1
  |Yh id g off=>
   cases hr with
   |Yh a hg ha=>
    simp only at h;split at h
    .rename_i g' cs hb;split at h
     .rename_i ZV;split at h
      .rename_i ps q hq;cases h;have Yp:(m.X9 id).2=some (.var cs):=by rw[hb]
       have ha:=ha (by rw[hb];exact ZV) (by rw[Yp];rfl);subst ha;obtain⟨cur,ty,hh,hc⟩:=Yd.obj id _ Yp;have hp:=adn hq ⟨hs.1,fun i hi=>hs.2 i (by simp[hi])⟩ (aZ.pw.1 hc);refine HT hh ?_ fun _=>hs.2 id (by simp);have h1:=hp.drop off;have h2:(cur.toList.drop off).take (ps.drop off).length=cur.toList.drop off:=aaD (by have:=h1.1;omega);rw[h2];exact h1
      cases h
     cases h
    .rename_i g' ps hb;split at h
     .rename_i ZV;cases h;have Yp:(m.X9 id).2=some (.fvar ps):=by rw[hb]
      have ha:=ha (by rw[hb];exact ZV) (by rw[Yp];rfl);subst ha;obtain⟨cur,ty,fz,hh,hc,_⟩:=Yd.obj id _ Yp;refine HT hh ?_ fun _=>hs.2 id (by simp);have h1:=(adg hc).drop off;have h2:(cur.toList.drop off).take (ps.drop off).length=cur.toList.drop off:=aaD (by have:=h1.1;omega);rw[h2];exact h1
     cases h
    cases h
  |YJ id g i off=>
   cases hr with
   |YJ a hg ha=>
    have key:∀(ty sz:Nat) (es:List (List PV)) (e:List PV) (cur:Array Value) (fz:Nat×Nat),m.w.heap[m.σ id]?=some (.cells cur ty fz)->(∀e∈es,e.length=sz)->es.length*sz<=cur.size->
      aY m.w m.own es.flatten (cur.toList.take (es.length*sz))->es[i]?=some e->a=⟨m.σ id,i*sz+off,none⟩-> ¬own (m.σ id)->bt m.w own (.box (e.drop off)) (.pointer (some a)):=by
     intro ty sz es e cur fz hh Yv hlen YK he haa YH;subst haa;have YJ:=fP Yv he;have hi:i<es.length:=(aac.1 he).1;have hil:(i+1)*sz<=es.length*sz:=abh _ hi;have h1:=(sQ (off:=i) (len:=1) Yv (adg YK) (by omega)).drop off;have h0:((es.drop i).take 1)=[e]:=by rw[List.drop_eq_getElem_cons hi];have:=(aac.1 he).2;simp[this]
     rw[h0] at h1;simp only[abl,List.flatten_nil,abo,aas,aaA,aa0,Nat.one_mul] at h1;refine HT hh ?_ fun _=>YH;have h2:(cur.toList.drop (i*sz+off)).take (e.drop off).length=(((cur.toList.drop (i*sz)).take sz).drop off):=by rw[List.drop_take,List.drop_drop,aa1,YJ]
     rw[h2];exact h1
    simp only at h;split at h
    .rename_i g' ty sz es hb;split at h
     .rename_i ZV;simp only[aap,aaT] at h;obtain⟨e,he,rfl,rfl⟩:=h;have Yp:(m.X9 id).2=some (.arr ty sz es):=by rw[hb]
      obtain⟨cur,hh,hs0,Yv,hl,hm,YD,YK⟩:=Yd.obj id _ Yp;exact key ty sz es e cur _ hh Yv (by rw[YD];exact abh _ hl) YK he (ha sz (by rw[hb];exact ZV) (by rw[hb];rfl)) (hs.2 id (by simp))
     cases h
    .rename_i g' ty sz es hb;split at h
     .rename_i ZV;simp only[aap,aaT] at h;obtain⟨e,he,rfl,rfl⟩:=h;have Yp:(m.X9 id).2=some (.Zr ty sz es):=by rw[hb]
      obtain⟨cur,fz,hh,hs0,Yv,hl,hm,YD,YK,_⟩:=Yd.obj id _ Yp;exact key ty sz es e cur _ hh Yv (by rw[YD];exact abh _ hl) YK he (ha sz (by rw[hb];exact ZV) (by rw[hb];rfl)) (hs.2 id (by simp))
     cases h
    cases h
  |hsl id g z off len=>
   cases hr with
   |hsl a cap hg hl hm ha=>
    have key:∀(ty sz:Nat) (es:List (List PV)) (cur:Array Value) (fz:Nat×Nat),m.w.heap[m.σ id]?=some (.cells cur ty fz)->(∀e∈es,e.length=sz)->Pw (bt m.w own) es.flatten (cur.toList.take (es.length*sz))->
      off+len<=es.length->(off=0\/0<len->a=⟨m.σ id,off*sz,none⟩)-> ¬own (m.σ id)->bt m.w own (.sl ((es.drop off).take len)) (.slice (some a) len cap):=by
     intro ty sz es cur fz hh Yv YK hfit haa YH;by_cases hlen:len=0
     .subst hlen;simp only[List.take_zero];exact .sl0 _ _ (fun h=>by cases h) hm
     have:=haa (.inr (by omega));subst this;have hle:((es.drop off).take len).length=len:=by simp;omega
     have h1:=T5 (cap:=cap) (own:=own) (o:=off*sz) (es:=(es.drop off).take len) hh (sz:=sz) (fun e he=>Yv e (ab1 (ab2 he))) (by omega) hm (sQ Yv YK hfit) YH;rw[hle] at h1;exact h1
    simp only at h;split at h
    .rename_i g' ty sz es hb;split at h
     .rename_i hc;cases h;have Yp:(m.X9 id).2=some (.arr ty sz es):=by rw[hb]
      obtain⟨cur,hh,hs0,Yv,hl',hm',YD,YK⟩:=Yd.obj id _ Yp;exact key ty sz es cur _ hh Yv (adg YK) hc.2 (by obtain⟨_,h2,_⟩:=ha sz (by rw[hb];exact hc.1) (by rw[hb];rfl);rename_i e1 _;exact e1▸h2) (hs.2 id (by simp))
     cases h
    .rename_i g' ty sz es hb;split at h
     .rename_i hc;cases h;have Yp:(m.X9 id).2=some (.Zr ty sz es):=by rw[hb]
      obtain⟨cur,fz,hh,hs0,Yv,hl',hm',YD,YK,_⟩:=Yd.obj id _ Yp;exact key ty sz es cur _ hh Yv (adg YK) hc.2 (by obtain⟨_,h2,_⟩:=ha sz (by rw[hb];exact hc.1) (by rw[hb];rfl);exact h2) (hs.2 id (by simp))
     cases h
    .rename_i g' ty sz es hb;split at h
     .rename_i hc;split at h
      .rename_i ps q hq;cases h;have Yp:(m.X9 id).2=some (.YP ty sz es):=by rw[hb]
       obtain⟨cur,hh,hs0,Yv,hl',hm',YD,YK⟩:=Yd.obj id _ Yp;have aiC:=sQ Yv (aZ.pw.1 YK) hc.2;have aem:∀e∈(es.drop off).take len,e.length=sz:=fun e he=>Yv e (ab1 (ab2 he));have hle:((es.drop off).take len).length=len:=by simp;omega
       have Yu:ps.length=len:=by rw[qP hq,hle]
       have Zh:len*sz<=(cur.toList.drop (off*sz)).length:=by
        simp;have h1:off*sz+len*sz<=es.length*sz:=by rw[<- aaM];exact abh _ hc.2
        have h2:es.length*sz<=m.κ id*sz:=abh _ hl';omega
       have hpe:∀(j:Nat) (e:List PV),ps[j]?=some e->Pw (bt m.w own) e (((cur.toList.drop (off*sz)).drop (j*sz)).take sz):=by intro j e he;obtain⟨x,q',h1,h2,h3⟩:=tm hq he;exact adn h2 ⟨hs.1,fun i hi=>hs.2 i (by simp[h3 i hi])⟩ (zy aem aiC h1)
       have ab8:∀e∈ps,e.length=sz:=by
        intro e he;obtain⟨j,hj⟩:=aaO he;have:=(hpe j e hj).1;have hjl:j<len:=by rw[<- Yu];exact(aac.1 hj).1
        have h1:(j+1)*sz<=len*sz:=abh _ hjl;rw[aaM] at h1;simp at this Zh;omega
       by_cases hlen:len=0
       .have:ps=[]:=List.eq_nil_of_length_eq_zero (by omega);subst this;subst hlen;exact .sl0 _ _ (fun h=>by cases h) hm
       obtain⟨_,h2,_⟩:=ha sz (by rw[hb];exact hc.1) (by rw[hb];rfl);rename_i e1 _;have haa:=h2 (.inr (by omega));subst haa;have Z3:=T5 (cap:=cap) (own:=own) (o:=off*sz) hh ab8 (by omega) hm (CZ ab8 (by rw[Yu];exact Zh) hpe) (hs.2 id (by simp));rw[Yu] at Z3;exact Z3
      cases h
     cases h
    cases h
  |YW id g=>
   cases hr with
   |YW r' hg ha=>
    have key:∀(ag:Bool) (es:List (PV×List PV)) (ents:Array MapEntry) (clock:Nat),m.w.heap[m.σ id]?=some (.map ents clock)->ents.size=es.length->
      (∀(i:Nat) (q:PV) (v:List PV) (e:MapEntry),es[i]?=some (q,v)->ents[i]?=some e->bt m.w m.own q e.key/\ ∃g:Array Value,(ag=true->e.val=.agg g)/\(ag=false-> #[e.val]=g)/\aY m.w m.own v g.toList)->
      ¬own (m.σ id)->bt m.w own (.mp ag es) (.map (some (m.σ id))):=by
     intro ag es ents clock hh hl hc YH;have hch:∃G:Nat->Array Value,∀(i:Nat) (q:PV) (v:List PV) (e:MapEntry),es[i]?=some (q,v)->ents[i]?=some e->(ag=true->e.val=.agg (G i))/\(ag=false-> #[e.val]=G i)/\aY m.w m.own v (G i).toList:=by
      refine⟨fun i=>match ents[i]? with|some e=>(match e.val with| .agg g=>if ag then g else #[e.val]|v=> #[v])|none=> #[],fun i q v e h1 h2=>?_⟩;obtain⟨_,g,g1,g2,g3⟩:=hc i q v e h1 h2;simp only[h2];cases ag with
      |true=>have:=g1 rfl;simp[this];exact g3
      |false=>
       have:=g2 rfl;subst this;refine⟨(fun h=>by cases h),(fun _=>?_),?_⟩
       .cases e.val<;>rfl
       cases hv:e.val<;>simp only[hv] at g3<;>exact g3
     obtain⟨G,hG⟩:=hch;refine .mp (m.σ id) ents clock G YH hh hl (fun i q v e h1 h2=>((hc i q v e h1 h2).1).less hs.1) (fun i q v e h1 h2=>?_) fun i q v j x u h1 h2 h3=>?_
     .obtain⟨a1,a2,a3⟩:=hG i q v e h1 h2;exact⟨by have:=a3.1;simpa using this,a1,a2⟩
     have Ye:i<ents.size:=by rw[hl];exact(aac.1 h1).1
     obtain⟨a1,a2,a3⟩:=hG i q v _ h1 (Array.getElem?_eq_getElem Ye);exact(a3.2 j x u h2 (by rw[Array.getElem?_toList];exact h3)).less hs.1
    simp only at h;split at h
    .rename_i g' ag es hb;split at h
     .rename_i ZV;cases h;have Yp:(m.X9 id).2=some (.map ag es):=by rw[hb]
      have ha:=ha (by rw[hb];exact ZV) (by rw[Yp];rfl);subst ha;obtain⟨ents,clock,hh,hl,hc⟩:=Yd.obj id _ Yp;exact key ag es ents clock hh hl hc (hs.2 id (by simp))
     cases h
    .rename_i g' ag es hb;split at h
     .rename_i ZV;cases h;have Yp:(m.X9 id).2=some (.fmap ag es):=by rw[hb]
      have ha:=ha (by rw[hb];exact ZV) (by rw[Yp];rfl);subst ha;obtain⟨ents,clock,hh,hl,hc,_⟩:=Yd.obj id _ Yp;exact key ag es ents clock hh hl hc (hs.2 id (by simp))
     cases h
    cases h
  |hfn f a b=>
   cases hr with
   |hfn A B hA hB hra hrb=>
    simp only at h;split at h
    .rename_i xa ra xb rb h1 h2;cases h;obtain⟨s1,s2⟩:=hs.app;have p1:=adn (vs:=A.toList) h1 s1 ⟨by simpa using hA,fun j x u p q=>hra j x u p (by rw[<- Array.getElem?_toList];exact q)⟩;have p2:=adn (vs:=B.toList) h2 s2 ⟨by simpa using hB,fun j x u p q=>hrb j x u p (by rw[<- Array.getElem?_toList];exact q)⟩;exact .fn A B (by have:=p1.1;simpa using this) (by have:=p2.1;simpa using this) (fun j x u p q=>p1.2 j x u p (by rw[Array.getElem?_toList];exact q)) fun j x u p q=>p2.2 j x u p (by rw[Array.getElem?_toList];exact q)
    cases h
end
end Go.Abs
namespace Go.Abs
variable {P:Program} {w0:World}
theorem Mn{X9:aE}{all:List Nat}:∀ {l:List Nat} {u:List kB},te X9 all l=some u->
  (∀e∈u,e.1∈l/\ ∃x,wY X9 all e.1=some x/\e∈x)/\ ∀id∈l,∃x,wY X9 all id=some x/\ ∀e∈x,e∈u:=by
 intro l
 induction l with
 |nil=>intro u h;simp[te] at h;subst h;exact⟨fun e h=>by simp at h,fun id h=>by simp at h⟩
 |cons i r ih=>
  intro u h;simp only[te] at h;split at h
  .rename_i a b h1 h2;cases h;obtain⟨g1,g2⟩:=ih h2;have alq:∀e∈a,e.1=i:=by
    intro e he;unfold wY at h1;split at h1<;>first
     |(cases h1;simp at he;subst he;rfl)
     |(split at h1
       .split at h1
        .cases h1;simp at he;subst he;rfl
        cases h1
       cases h1)
     |(cases h1;simp at he)
     |cases h1
   refine⟨fun e he=>?_,fun id hid=>?_⟩
   .rcases aaw.1 he with he|he
    .exact⟨by simp[alq e he],a,by rw[alq e he];exact h1,he⟩
    obtain⟨k1,k2⟩:=g1 e he;exact⟨by simp[k1],k2⟩
   rcases aag.1 hid with rfl|hid
   .exact⟨a,h1,fun e he=>by simp[he]⟩
   obtain⟨x,k1,k2⟩:=g2 id hid;exact⟨x,k1,fun e he=>by simp[k2 e he]⟩
  cases h
def Cv(X9:aE)(all:List Nat):Ob->Ob->Prop
 | .var cs,.fvar ps=>∃r,collect (snap X9 cn) cs=some (ps,r)/\ ∀i∈r,i∈all
 | .arr ty sz es,.Zr ty' YR es'=>ty'=ty/\YR=sz/\es'=es
 | .YP ty sz es,.Zr ty' YR ps=>ty'=ty/\YR=sz/\ ∃r,collect (collect (snap X9 cn)) es=some (ps,r)/\ ∀i∈r,i∈all
 | .map ag es,.fmap ag' es'=>ag'=ag/\es'=es
 |_,_=>False
theorem Cv.facts{X9:aE}{all:List Nat}{o o':Ob}(h:Cv X9 all o o')(g:Nat):o.eY=true/\o'.eY=false/\jh (g,some o')=jh (g,some o):=by
 cases o<;>cases o'<;>simp only[Cv] at h<;>first
  |exact h.elim
  |exact⟨rfl,rfl,rfl⟩
  |exact⟨rfl,rfl,by simp[jh,h.2.1]⟩
theorem B4{X9:aE}{all:List Nat}{id:Nat}{x:List kB}(h:wY X9 all id=some x):
  (∃o,(X9 id).2=some o/\o.eY=false/\x=[])\/ ∃o o',(X9 id).2=some o/\Cv X9 all o o'/\x=[(id,((X9 id).1,some o'))]:=by
 unfold wY at h;split at h
 .rename_i g cs hb;split at h
  .rename_i ps r hc;split at h
   .rename_i Yt;cases h;refine .inr ⟨.var cs,.fvar ps,by rw[hb],⟨r,hc,fun i hi=>?_⟩,by rw[hb]⟩;have:=aaP.1 Yt i hi
    simpa using this
   cases h
  cases h
 .rename_i g ty sz es hb;cases h;exact .inr ⟨.arr ty sz es,.Zr ty sz es,by rw[hb],⟨rfl,rfl,rfl⟩,by rw[hb]⟩
 .rename_i g ty sz es hb;split at h
  .rename_i ps r hc;split at h
   .rename_i Yt;cases h;refine .inr ⟨.YP ty sz es,.Zr ty sz ps,by rw[hb],⟨rfl,rfl,r,hc,fun i hi=>?_⟩,by rw[hb]⟩;have:=aaP.1 Yt i hi
    simpa using this
   cases h
  cases h
 .rename_i g ag es hb;cases h;exact .inr ⟨.map ag es,.fmap ag es,by rw[hb],⟨rfl,rfl⟩,by rw[hb]⟩
 .cases h
 rename_i y n1 n2 n3 n4 n5;cases h;cases hb:X9 id with
 |mk g o=>
  cases o with
  |none=>exact(n5 g hb).elim
  |some o=>
   refine .inl ⟨o,rfl,?_,rfl⟩;cases o with
   |var cs=>exact(n1 g cs hb).elim
   |arr ty sz es=>exact(n2 g ty sz es hb).elim
   |YP ty sz es=>exact(n3 g ty sz es hb).elim
   |map ag es=>exact(n4 g ag es hb).elim
   |_=>rfl
def Mem.with(m:Mem)(u:List kB):Mem:={m with X9:=app u m.X9}
theorem kz{m:Mem}{ids:List Nat}{u:List kB}(h:Iv m.X9 ids=some u)(id:Nat):
  ((m.with u).X9 id=m.X9 id/\(id∈ids->∃o,(m.X9 id).2=some o/\o.eY=false))\/
  (id∈ids/\ ∃o o',(m.X9 id).2=some o/\Cv m.X9 ids o o'/\(m.with u).X9 id=((m.X9 id).1,some o')):=by
 obtain⟨h1,h2⟩:=Mn h;rcases QC u m.X9 id with ⟨e1,e2⟩|⟨e,he,e1,e2⟩
 .refine .inl ⟨e1,fun hid=>?_⟩;obtain⟨x,hx,hxu⟩:=h2 id hid;rcases B4 hx with ⟨o,a,b,_⟩|⟨o,o',a,b,c⟩
  .exact⟨o,a,b⟩
  exact(e2 (id,(m.X9 id).fst,some o') (hxu _ (by rw[c];simp)) rfl).elim
 obtain⟨k1,x,k2,k3⟩:=h1 e he;rw[e1] at k1 k2;rcases B4 k2 with ⟨o,a,b,c⟩|⟨o,o',a,b,c⟩
 .rw[c] at k3;simp at k3
 rw[c] at k3;simp at k3;refine .inr ⟨k1,o,o',a,b,?_⟩;simp only[Mem.with];rw[e2,k3]
theorem DB{m:Mem}{ids:List Nat}{u:List kB}(h:Iv m.X9 ids=some u){c:Nat}(hc:(m.with u).own c):m.own c:=by
 rcases hc with hc|⟨id,o,h1,h2,h3⟩
 .exact .inl hc
 rcases kz h id with ⟨e,_⟩|⟨_,p,q,a,b,e⟩
 .rw[e] at h1;exact .inr ⟨id,o,h1,h2,h3⟩
 rw[e] at h1;cases h1;rw[(b.facts 0).2.1] at h2;cases h2
theorem tc{m:Mem}(Yd:Ok w0 m){ids:List Nat}{u:List kB}(h:Iv m.X9 ids=some u):fS m (m.with u).own ids:=by
 refine⟨fun b hb=>DB h hb,fun id hid hc=>?_⟩;rcases kz h id with ⟨e,hn⟩|⟨_,o,o',a,b,e⟩
 .obtain⟨o,ho,hm⟩:=hn hid;exact(Yd.obj id o ho).calm hm (DB h hc)
 rcases hc with hc|⟨Zb,q,h1,h2,h3⟩
 .exact(Yd.Ym id o a (b.facts 0).1).2 hc
 by_cases hi:Zb=id
 .subst hi;rw[e] at h1;cases h1;rw[(b.facts 0).2.1] at h2;cases h2
 rcases kz h Zb with ⟨e',_⟩|⟨_,p',q',a',b',e'⟩
 .rw[e'] at h1;exact hi (Yd.inj Zb id q o h1 h2 a (b.facts 0).1 h3)
 rw[e'] at h1;cases h1;rw[(b'.facts 0).2.1] at h2;cases h2
theorem Ir{m:Mem}{ids:List Nat}{u:List kB}(h:Iv m.X9 ids=some u):Ev m (m.with u) where
 os:=rfl
 tape:=rfl
 output:=rfl
 size:=aad _
 keep _ _ _:=rfl
 eY c _ hc:=by
  obtain⟨id,o,h1,h2,h3⟩:=hc;rcases kz h id with ⟨e,_⟩|⟨_,p,q,a,b,e⟩
  .rw[e] at h1;exact⟨id,o,h1,h2,h3⟩
  rw[e] at h1;cases h1;rw[(b.facts 0).2.1] at h2;cases h2
 less c _ hn hc:=hn (DB h hc)
 gen id:=by rcases kz h id with ⟨e,_⟩|⟨_,p,q,a,b,e⟩<;>rw[e]<;>exact aad _
 ref id he hs:=by
  rcases kz h id with ⟨e,_⟩|⟨_,p,q,a,b,e⟩
  .rw[e] at hs ⊢;exact⟨hs,rfl,rfl,rfl⟩
  rw[e] at hs ⊢;refine⟨by rw[a];rfl,rfl,rfl,?_⟩;have h1:m.X9 id=((m.X9 id).1,some p):=by rw[<- a]
  rw[(b.facts (m.X9 id).1).2.2,<- h1]
theorem PB{m:Mem}(Yd:Ok w0 m){ids:List Nat}{u:List kB}(h:Iv m.X9 ids=some u):Ok w0 (m.with u) where
 os:=Yd.os
 tape:=Yd.tape
 output:=Yd.output
 size:=Yd.size
 base:=Yd.base
 obj id o ho:=by
  have YU:=Ir h;have hsp:=tc Yd h;rcases kz h id with ⟨e,_⟩|⟨hid,p,q,a,b,e⟩
  .rw[e] at ho;exact(Yd.obj id o ho).ev YU.zero rfl rfl rfl
  rw[e] at ho;cases ho;have YH:=hsp.2 id hid;have agH:∀r:List Nat,(∀i∈r,i∈ids)->fS m (m.with u).own r:=fun r hr=>⟨hsp.1,fun i hi=>hsp.2 i (hr i hi)⟩;have ada:=Yd.obj id p a;cases p<;>cases o<;>simp only[Cv] at b<;>first
   |exact b.elim
   |skip
  .obtain⟨r,hc,hr⟩:=b;obtain⟨cur,ty,hh,YD⟩:=ada;exact⟨cur,ty,(0,0),hh,aY.pw.2 (je (R:=cE m) (T:=bt m.w (m.with u).own) (d9:=fS m (m.with u).own) (fun a b h=>h.app) (fun a b r v e1 e2 e3=>ng Yd _ e1 e2 e3) hc (agH r hr) (aZ.pw.1 YD)),YH⟩
  .obtain⟨rfl,rfl,rfl⟩:=b;obtain⟨cur,hh,hs0,Yv,hl,hm,YD,YK⟩:=ada;exact⟨cur,(0,0),hh,hs0,Yv,hl,hm,YD,YK.less hsp.1,YH⟩
  .obtain⟨rfl,rfl,r,hc,hr⟩:=b;obtain⟨cur,hh,hs0,Yv,hl,hm,YD,YK⟩:=ada;rename_i es _ sz ps;have Yu:ps.length=es.length:=qP hc;have Zh:ps.length*sz<=cur.toList.length:=by
    have h2:es.length*sz<=m.κ id*sz:=abh _ hl;simp;rw[Yu];omega
   have hpe:∀(j:Nat) (e:List PV),ps[j]?=some e->Pw (bt m.w (m.with u).own) e ((cur.toList.drop (j*sz)).take sz):=by intro j e he;obtain⟨x,q',h1,h2,h3⟩:=tm hc he;exact je (R:=cE m) (T:=bt m.w (m.with u).own) (d9:=fS m (m.with u).own) (fun a b h=>h.app) (fun a b r v e1 e2 e3=>ng Yd _ e1 e2 e3) h2 (agH q' fun i hi=>hr i (h3 i hi)) (zy Yv (aZ.pw.1 YK) h1)
   have ab8:∀e∈ps,e.length=sz:=by intro e he;obtain⟨j,hj⟩:=aaO he;have:=(hpe j e hj).1;have hjl:j<ps.length:=(aac.1 hj).1;have h1:(j+1)*sz<=ps.length*sz:=abh _ hjl;rw[aaM] at h1;simp at this Zh;omega
   exact⟨cur,(0,0),hh,hs0,ab8,by rw[Yu];exact hl,hm,YD,aY.pw.2 (CZ ab8 Zh hpe),YH⟩
  obtain⟨rfl,rfl⟩:=b;obtain⟨ents,clock,hh,hl,hc⟩:=ada;exact⟨ents,clock,hh,hl,fun i q v e h1 h2=>let ⟨p,g,g1,g2,g3⟩:=hc i q v e h1 h2;⟨p.less hsp.1,g,g1,g2,g3.less hsp.1⟩,YH⟩
 Ym id o ho hm:=by
  rcases kz h id with ⟨e,_⟩|⟨_,p,q,a,b,e⟩
  .rw[e] at ho;exact Yd.Ym id o ho hm
  rw[e] at ho;cases ho;rw[(b.facts 0).2.1] at hm;cases hm
 frlt:=Yd.frlt
 inj id Zb o o' h1 m1 h2 m2 he:=by
  rcases kz h id with ⟨e,_⟩|⟨_,p,q,a,b,e⟩
  .rcases kz h Zb with ⟨e',_⟩|⟨_,p',q',a',b',e'⟩
   .rw[e] at h1;rw[e'] at h2;exact Yd.inj id Zb o o' h1 m1 h2 m2 he
   rw[e'] at h2;cases h2;rw[(b'.facts 0).2.1] at m2;cases m2
  rw[e] at h1;cases h1;rw[(b.facts 0).2.1] at m1;cases m1
end Go.Abs
namespace Go.Abs
variable {P:Program} {w0:World}
section
variable{w':World}
def Mem.dM(m:Mem)(w':World)(s c k:Nat)(o:Ob):Mem:=(m.later w' (· =c)).install s c k o
section
variable {m:Mem} {w':World} {s c k:Nat} {o:Ob} (hg:fX m.w w') (Zz:m.w.heap.size<=c) (hc2:c<w'.heap.size)
theorem nI(Yd:Ok w0 m)(Zz:m.w.heap.size<=c):(m.dM w' s c k o).fr=m.fr:=by
 funext x;simp only[Mem.dM,Mem.install,Mem.later];apply propext;constructor
 .rintro ⟨h|h,h2⟩
  .exact h
  exact(h2 h).elim
 intro h;exact⟨.inl h,fun e=>by have:=Yd.frlt x h;omega⟩
include hg Zz
theorem nJ:Ev m (m.dM w' s c k o):=oN (qE hg fun x hx=>by subst hx;exact Zz) (.inr rfl) (.inl Zz)
include hc2
theorem nH(Yd:Ok w0 m)(ho:se (m.dM w' s c k o) s o):Ok w0 (m.dM w' s c k o):=oL (um Yd hg fun x hx=>by subst hx;exact⟨Zz,hc2⟩) (.inr rfl) (abc Yd.size Zz) ho
end
theorem lV{m:Mem}{s c k:Nat}{o:Ob}:(m.dM w' s c k o).σ s=c:=by simp[Mem.dM,Mem.install,ae]
theorem ek{m:Mem}{s c k:Nat}{o:Ob}:(m.dM w' s c k o).κ s=k:=by simp[Mem.dM,Mem.install,ae]
theorem zu{m:Mem}{s c k:Nat}{o:Ob}:(m.dM w' s c k o).X9=app [(s,((m.X9 s).1+1,some o))] m.X9:=rfl
theorem F1{m:Mem}{s c k:Nat}{o:Ob}:(m.dM w' s c k o).w=w':=rfl
theorem oQ{m:Mem}{s c cap ty sz:Nat}{es:List (List PV)}{n:Nat}(hn:n<=cap)(hm:cap<=maxLen):
  bh (m.dM w' s c cap (.arr ty sz es)) (.one (.hsl s ((m.X9 s).1+1) sz 0 n)) (.slice (some ⟨c,0,none⟩) n cap):=by
 refine bh.one.2 (.hsl _ _ ?_ hn hm fun z h1 h2=>?_)
 .simp[Mem.dM,Mem.install,Mem.later,ae]
 have:jh ((m.dM w' s c cap (.arr ty sz es)).X9 s)=some sz:=by simp[Mem.dM,Mem.install,ae,jh]
 rw[this] at h2;cases h2;refine⟨rfl,fun _=>?_,fun _=>ek.symm⟩;rw[lV,acv]
theorem F2{m:Mem}{s c cap ty sz:Nat}{es:List (List C)}{n:Nat}(hn:n<=cap)(hm:cap<=maxLen):
  bh (m.dM w' s c cap (.YP ty sz es)) (.one (.hsl s ((m.X9 s).1+1) sz 0 n)) (.slice (some ⟨c,0,none⟩) n cap):=by
 refine bh.one.2 (.hsl _ _ ?_ hn hm fun z h1 h2=>?_)
 .simp[Mem.dM,Mem.install,Mem.later,ae]
 have:jh ((m.dM w' s c cap (.YP ty sz es)).X9 s)=some sz:=by simp[Mem.dM,Mem.install,ae,jh]
 rw[this] at h2;cases h2;refine⟨rfl,fun _=>?_,fun _=>ek.symm⟩;rw[lV,acv]
theorem rU{t e:TypeId}{sz bytes:Nat}{z:List PV}(h:sF P t=some (e,sz,bytes,z)):
  ∃i v,P.underlying t=some (.slice e)/\P.info? e=some i/\i.size=sz/\i.bytes=bytes/\(0<sz/\0<bytes)/\i.zero=some v/\v.cells.size=sz/\z.length=sz/\ ∀w own,aY w own z v.cells.toList:=by
 unfold sF at h;split at h
 .rename_i e' ht;split at h
  .rename_i i z' hi hz;split at h
   .rename_i YG;cases h;obtain⟨v,i',h1,h2,h3,h4,h5⟩:=m7 hz;rw[hi] at h1;cases h1;exact⟨i,v,ht,hi,rfl,rfl,YG,h2,h3,h4,h5⟩
   cases h
  cases h
 cases h
theorem Dn{R:PV->Value->Prop}{z:List PV}{v:Array Value}{sz n:Nat}(hz:Pw R z v.toList)(Yv:v.size=sz)(YG:0<sz):
  Pw R (List.replicate n z).flatten ((madeCells v (n*sz)).toList.take (n*sz)):=by
 have hzl:z.length=sz:=by have:=hz.1;simp at this;omega
 have Yt:∀e∈List.replicate n z,e.length=sz:=fun e he=>by rw[adX he];exact hzl
 have hlen:(madeCells v (n*sz)).toList.length=n*sz:=by simp[size_madeCells]
 rw[aaD (by omega)];refine⟨by rw[hlen,nK Yt];simp,fun j x u p q=>?_⟩;have hj:j<n*sz:=by have:=(aac.1 q).1;omega
 have hdiv:j/sz<n:=by rw[Nat.div_lt_iff_lt_mul YG];exact hj
 have agP:j%sz<sz:=aat _ YG;have he:(List.replicate n z)[j/sz]?=some z:=by simp[hdiv]
 have h1:=oR Yt he agP;rw[show j/sz*sz+j%sz=j by rw[Nat.mul_comm];exact Nat.div_add_mod j sz] at h1;rw[h1] at p;have h2:(madeCells v (n*sz)).toList[j]?=some v[j%sz]! :=by unfold madeCells;simp[hj,Yv]
 rw[h2] at q;cases q;refine hz.2 (j%sz) x _ p ?_;have:j%sz<v.size:=by omega
 simp[this]
section
variable {m:Mem} {env:Env} {a:Act} {o:Oper} (Yd:Ok w0 m) (hr:gT m env a.tmps)
include Yd hr
theorem EM{t e:TypeId}{l c:Operand}{l' c':aC}{s sz bytes n:Nat}{z:List PV}(ho:o.op=.makeSlice t l c)(he:sF P t=some (e,sz,bytes,z))(hl:bK l=some l')(hc:bK c=some c')
  (hn:A3 (ev env l')=some n) (hm:A3 (ev env c')=some n) (YE:n*bytes<=room):
  fe P w0 a.eval o m (.one (.hsl s ((m.X9 s).1+1) sz 0 n)) [(s,((m.X9 s).1+1,some (.arr e sz (List.replicate n z))))]:=by
 obtain⟨i,v,ht,hi,hs,hb,⟨YG,acl⟩,hz,hvs,hzl,YK⟩:=rU he;obtain⟨k1,h1⟩:=js hn (aF hl hr);obtain⟨k2,h2⟩:=js hm (aF hc hr);unfold room at YE;have aiX:n<=maxLen:=by have:n<=n*bytes:=Nat.le_mul_of_pos_right _ acl;simp only[maxLen];omega
 have ak5:(n:Int)<=9223372036854775807:=by simp[maxLen] at aiX;omega
 have hbb:(i.bytes:Int)*(n:Int)<=281474976710656:=by
  have:((i.bytes*n:Nat):Int)<=281474976710656:=by rw[hb,Nat.mul_comm];omega
  rwa[Int.natCast_mul] at this
 have Zk:=run_make (P:=P) m.w t e i v ht hi hz k1 k2 n n (by omega) (Int.le_refl _) hbb ak5;simp only[aba,hs] at Zk
 let m':=m.dM (m.w.alloc (.cells (madeCells v.cells (n*sz)) e)) s m.w.heap.size n (.arr e sz (List.replicate n z))
 have YU:Ev m m':=nJ (fX.alloc _ _) (aad _);have abG:se m' s (.arr e sz (List.replicate n z)):=by
  refine⟨_,by rw[lV];exact heap_alloc_new m.w _,YG,fun x hx=>?_,?_,?_,?_,?_⟩
  .rw[adX hx];exact hzl
  .rw[ek];simp
  .rw[ek];exact aiX
  .rw[ek,size_madeCells]
  rw[List.length_replicate];exact aY.pw.2 (Dn (aY.pw.1 (YK _ _)) hvs YG)
 refine⟨_,m',.inl ?_,nH (fX.alloc _ _) (aad _) (by simp) Yd abG,YU,nI Yd (aad _),rfl,oQ (aad _) aiX⟩;simp[execOp,ho,h1,h2,Zk];rfl
theorem Ag{lo hi:Option Operand}{lo' hi':Option aC}{n cap l h:Nat}{b:Bool}(Zm:wZ lo=some lo')(hhi:wZ hi=some hi')(hl:fi env 0 lo'=some l)(hh:fi env n hi'=some h)
  (hlh:l<=h) (Zh:h<=cap):(Instr.sliceBounds b n cap (lo.map a.eval) (hi.map a.eval) none).run P m.w=.ok (l,h,cap) m.w:=by
 have _u0:=Yd;have hhv:(match hi.map a.eval with|some v=>∃k,v=Value.int k (h:Int)|none=>h=n):=by
  cases hi with
  |none=>simp[wZ] at hhi;subst hhi;simp[fi] at hh;simpa using hh.symm
  |some x=>simp only[wZ,aap] at hhi;obtain⟨y,hy,rfl⟩:=hhi;exact js hh (aF hy hr)
 have hlv:(match lo.map a.eval with|some v=>∃k,v=Value.int k (l:Int)|none=>l=0):=by
  cases lo with
  |none=>simp[wZ] at Zm;subst Zm;simp[fi] at hl;simpa using hl.symm
  |some x=>simp only[wZ,aap] at Zm;obtain⟨y,hy,rfl⟩:=Zm;exact js hl (aF hy hr)
 generalize lo.map a.eval=LO at hlv;generalize hi.map a.eval=HI at hhv;have Zz:(h:Int)<=(cap:Int):=by omega
 have hc2:(l:Int)<=(h:Int):=by omega
 cases LO with
 |none=>
  simp only at hlv;subst hlv;cases HI with
  |none=>simp only at hhv;subst hhv;simp[Instr.sliceBounds]
  |some v=>obtain⟨k,rfl⟩:=hhv;simp[Instr.sliceBounds,Instr.sliceBound,asIntOf,Zh]
 |some u=>
  obtain⟨k,rfl⟩:=hlv;cases HI with
  |none=>simp only at hhv;subst hhv;simp[Instr.sliceBounds,Instr.sliceBound,asIntOf,hlh]
  |some v=>obtain⟨k',rfl⟩:=hhv;simp[Instr.sliceBounds,Instr.sliceBound,asIntOf,Zh,hlh]
theorem Ht{t:TypeId}{x:Operand}{lo hi:Option Operand}{x':aC}{lo' hi':Option aC}{s:ByteArray}{l h:Nat}(ho:o.op=.slice t x lo hi none)(ht:P.underlying t=some .string)
  (hx:bK x=some x') (Zm:wZ lo=some lo') (hhi:wZ hi=some hi') (hs:ev env x'=.one (.p (.str s))) (hl:fi env 0 lo'=some l) (hh:fi env s.size hi'=some h) (hlh:l<=h) (Zh:h<=s.size):
  fe P w0 a.eval o m (.one (.p (.str (s.extract l h)))) []:=by
 have h1:=aF hx hr;rw[hs] at h1;have hb:=Ag (P:=P) (w0:=w0) (Yd:=Yd) (hr:=hr) (b:=false) Zm hhi hl hh hlh Zh;refine .calm Yd ?_ (kV (.str _));simp[execOp,ho,uq h1,Instr.sliceAt,Instr.slice,run_underlying ht,hb]
theorem Lg{t e:TypeId}{x:Operand}{lo hi:Option Operand}{x':aC}{lo' hi':Option aC}{sz n l h:Nat}{v:V}(ho:o.op=.slice t x lo hi none)(ht:P.underlying t=some (.slice e))(Yv:nh P e=some sz)
  (hx:bK x=some x') (Zm:wZ lo=some lo') (hhi:wZ hi=some hi') (hn:wW (ev env x')=some n) (hl:fi env 0 lo'=some l) (hh:fi env n hi'=some h)
  (hv:gY (ev env x') sz l h=.done v [] []):fe P w0 a.eval o m v []:=by
 have h1:=aF hx hr;unfold gY at hv;split at hv
 .cases hv
 rename_i hlh;have hlh:l<=h:=by simpa using hlh
 have run:∀(ad:Option Addr) (cap:Nat),a.eval x=.slice ad n cap->h<=cap->(execOp a.eval o).run P m.w=.ok (.value (.slice (if cap=l then ad else ad.map (·.add (l*sz))) (h-l) (cap-l))) m.w:=by intro ad cap sE Zh;have hb:=Ag (P:=P) (w0:=w0) (Yd:=Yd) (hr:=hr) (b:=true) Zm hhi hl hh hlh Zh;simp[execOp,ho,sE,Instr.sliceAt,Instr.slice,run_underlying ht,hb,rm Yv]
 obtain⟨ad0,cap0,hsl,hncap,hm0⟩:=FH (Yd:=Yd) (hr:=hr) hn h1;split at hv
 .rename_i he;split at hv
  .rename_i h0;cases hv;rw[he] at h1;have:=ur h1;subst h0;have hl0:l=0:=by omega
   subst hl0;rw[this] at hsl;cases hsl;refine .calm Yd (run none 0 this (aad _)) ?_;simp;exact kV .nils
  cases hv
 .rename_i es he;split at hv
  .rename_i hc;cases hv;rw[he] at h1 hn;simp[wW] at hn;subst hn;obtain⟨hp⟩:cE m _ (a.eval x):=h1;generalize hb:a.eval x=b at hp;generalize Zu:(PV.sl es)=pv at hp;cases hp<;>cases Zu
   .rename_i ad cap hnn hm;simp at hc;have hh0:h=0:=by omega
    subst hh0;have hl0:l=0:=by omega
    subst hl0;refine .calm Yd (run ad cap hb (aae _)) (kV ?_);simp only[List.drop_nil,List.take_nil,Nat.sub_zero];refine .sl0 _ _ (fun h=>?_) hm;split at h
    .exact hnn h
    cases ad with
    |none=>exact hnn rfl
    |some ad=>simp at h
   rename_i b' o' cap YR f hm ho' hl' ZY hcc hrr;refine .calm Yd (run _ cap hb (by omega)) (kV ?_);by_cases Ye:l=h
   .subst Ye;simp only[Nat.sub_self,List.take_zero];refine .sl0 _ _ (fun h=>?_) (by omega);split at h<;>simp at h
   have hlen:((es.drop l).take (h-l)).length=h-l:=by simp;omega
   have hes:es≠[]:=fun e=>by subst e;simp at hc;omega
   have aiB:YR=sz:=by obtain⟨e0,r0,rfl⟩:=List.exists_cons_of_ne_nil hes;have g1:=ZY e0 (by simp);have g2:=hc.2;simp[iD] at g2;omega
   subst aiB;rw[if_neg (by omega)];simp only[abf,Addr.add_lit];have Yy:=bt.sl (w:=m.w) (own:=m.own) (es:=(es.drop l).take (h-l)) b' (o'+l*YR) (cap-l) YR (fun j=>f (l*YR+j)) (fun Yk=>ho' fun e0=>Yk ?_) (by omega) (by omega) (fun e he=>ZY e (ab1 (ab2 he))) ?_ ?_
   .rw[hlen] at Yy;exact Yy
   .apply List.eq_nil_of_length_eq_zero;rw[lk (fun e he=>ZY e (ab1 he)),rR ZY,e0];simp
   .intro j z hz;rw[lk (fun e he=>ZY e (ab1 he)),rR ZY,aa3] at hz;split at hz
    .rw[acA] at hz;rw[adk];exact hcc _ z hz
    cases hz
   intro j z hz;rw[lk (fun e he=>ZY e (ab1 he)),rR ZY,aa3] at hz;split at hz
   .rw[acA] at hz;exact hrr _ z hz
   cases hz
  cases hv
 .rename_i id g z off len he;split at hv
  .rename_i hc;cases hv;rw[he] at h1 hn;simp[wW] at hn;subst hn;have YV:cE m _ (a.eval x):=h1;generalize hb:a.eval x=b at YV;cases YV with
   |hsl ad cap hg hll hm hh'=>
    refine .calm Yd (run _ cap hb (by omega)) ?_;have aeo:∃ad',(if cap=l then some ad else (some ad).map (·.add (l*sz)))=some ad'/\(cap≠l->ad'=ad.add (l*sz))/\(l=0->ad'=ad):=by
     by_cases YL:cap=l
     .exact⟨ad,by simp[YL],fun h=>(h YL).elim,fun _=>rfl⟩
     exact⟨ad.add (l*sz),by simp[YL],fun _=>rfl,fun h=>by subst h;simp[Addr.add]⟩
    obtain⟨ad',e1,e2,e3⟩:=aeo;rw[e1];refine bh.one.2 (.hsl _ _ hg (by omega) (by omega) fun s g1 g2=>?_);obtain⟨f1,f2,f3⟩:=hh' s g1 g2;refine⟨f1,fun hor=>?_,fun h0=>?_⟩
    .by_cases hl0:l=0
     .subst hl0;rw[e3 rfl,abY];refine f2 ?_;rcases hor with h|h
      .exact .inl (by omega)
      exact .inr (by omega)
     have:0<h-l:=by rcases hor with h|h<;>omega
     rw[e2 (by omega),f2 (.inr (by omega)),Addr.add_lit,f1,hc.2,aaM]
    have:off=0/\l=0:=by omega
    rw[this.2,Nat.sub_zero];exact f3 this.1
  cases hv
 cases hv
end
end
end Go.Abs
namespace Go.Abs
variable {P:Program} {w0:World}
theorem PE(off:Nat):∀(vs:List Value) (i:Nat) (cells:Array Value),off+i+vs.length<=cells.size->
  ((vs.zipIdx i).foldl (fun cs (x:Value×Nat)=>cs.setIfInBounds (off+x.2) x.1) cells).toList=bi cells.toList (off+i) vs:=by
 intro vs
 induction vs with
 |nil=>intro i cells _;simp[bi]
 |cons v r ih=>
  intro i cells h;simp only[aas] at h;simp only[List.zipIdx_cons,ab3];rw[ih (i+1) _ (by simp;omega)];unfold bi;rw[Array.toList_setIfInBounds];have Ye:off+i<cells.toList.length:=by simp;omega
  have e1:(cells.toList.set (off+i) v).take (off+(i+1))=cells.toList.take (off+i)++[v]:=by rw[show off+(i+1)=(off+i)+1 by omega,List.take_succ_eq_append_getElem (by simpa using Ye),List.take_set,List.set_eq_of_length_le (by simp;omega)];simp
  have e2:(cells.toList.set (off+i) v).drop (off+(i+1)+r.length)=cells.toList.drop (off+(i+1)+r.length):=by rw[List.drop_set_of_lt (by omega)]
  rw[e1,e2];simp only[aas,abx,List.singleton_append];congr 3;omega
theorem Ca{place:Nat->Option (Nat×Nat)}{i off n:Nat}{v:Value}{rest:List (Nat×Value)}{cells:Array Value}(hp:place i=some (off,n))(hv:v.cells.size=n)(hfit:off+n<=cells.size):
  ∃Yq,Instr.fill place cells ((i,v)::rest)=Instr.fill place Yq rest/\Yq.toList=bi cells.toList off v.cells.toList:=by
 refine⟨v.cells.zipIdx.foldl (fun cs (x:Value×Nat)=>cs.setIfInBounds (off+x.2) x.1) cells,?_,?_⟩
 .simp only[Instr.fill,hp];rw[if_neg (by simp[hv];omega)]
 rw[<- Array.foldl_toList,Array.toList_zipIdx,PE off v.cells.toList 0 cells (by simp;omega)];simp
theorem Gd{m:Mem}{env:Env}{a:Act}(hr:gT m env a.tmps){place:Nat->Option (Nat×Nat)}{zl:Nat}:∀ {ps:List (Nat×Operand)} {qs:List (Nat×Nat×aC)} {rs:List (Nat×List C)} {cs:List C} {cells:Array Value},
  qA place zl ps=some qs->ky env qs=some rs->aZ m cs cells.toList->cs.length=zl->
  ∃Yq,Instr.fill place cells (ps.map fun x=>(x.1,a.eval x.2))=some Yq/\aZ m (fill cs rs) Yq.toList:=by
 intro ps
 induction ps with
 |nil=>intro qs rs cs cells h1 h2 hc hl;simp[qA] at h1;subst h1;simp[ky] at h2;subst h2;exact⟨cells,by simp[Instr.fill],by simpa [fill] using hc⟩
 |cons p t ih=>
  intro qs rs cs cells h1 h2 hc hl;obtain⟨i,x⟩:=p;simp only[qA] at h1;split at h1
  .rename_i off n a' q Yu hx hq;split at h1
   .rename_i hfit;cases h1;simp only[ky] at h2;split at h2
    .rename_i cs' q' hcv hq';split at h2
     .rename_i hlen;cases h2;have hv:=tu hcv (aF hx hr);have Yv:(a.eval x).cells.size=n:=by have:=hv.1;simp at this;omega
      have YL:=hc.1;simp at YL;obtain⟨Yq,e1,e2⟩:=Ca (rest:=t.map fun x=>(x.1,a.eval x.2)) Yu Yv (by omega:off+n<=cells.size);simp only[aar,fill];rw[e1];refine ih hq hq' ?_ (by rw[n9 (by omega)];exact hl);rw[e2];exact aZ.pw.2 ((aZ.pw.1 hc).bi (aZ.pw.1 hv) off)
     cases h2
    cases h2
   cases h1
  cases h1
theorem mapM_ok{α β:Type}{f:α->Sem β}{g:α->β}{w:World}:∀ {l:List α},(∀x∈l,(f x).run P w=.ok (g x) w)->(l.mapM f).run P w=.ok (l.map g) w:=by
 intro l
 induction l with
 |nil=>intro _;simp
 |cons x r ih=>intro h;simp[List.mapM_cons,h x (by simp),ih fun y hy=>h y (by simp[hy])]
theorem MB{m:Mem}{env:Env}{a:Act}(hr:gT m env a.tmps){place:Nat->Option (Nat×Nat)}{sz:Nat}(aiL:∀k,place k=some (k*sz,sz)):∀ {ps:List (Nat×Operand)} {as:List aC} {es:List (List C)} {k:Nat} {done:List Value} {cells:Array Value},
  vt k ps=some as->lX env sz as=some es->done.length=k*sz->cells.toList.take (k*sz)=done->cells.size=(k+as.length)*sz->
  ∃Yq,Instr.fill place cells (ps.map fun x=>(x.1,a.eval x.2))=some Yq/\ ∃vs,Yq.toList=done++vs/\aZ m es.flatten vs/\(∀e∈es,e.length=sz)/\es.length=as.length:=by
 intro ps
 induction ps with
 |nil=>intro as es k done cells h1 h2 hd ht hs;simp[vt] at h1;subst h1;simp[lX] at h2;subst h2;refine⟨cells,by simp[Instr.fill],[],?_,⟨by simp,fun j x u p=>by simp at p⟩,fun e he=>by simp at he,rfl⟩;rw[<- ht,abo,aaD (by simp at hs ⊢;omega)]
 |cons p t ih=>
  intro as es k done cells h1 h2 hd ht hs;obtain⟨i,x⟩:=p;simp only[vt] at h1;split at h1
  .rename_i a' q hx hq;split at h1
   .rename_i hik;cases h1;subst hik;simp only[lX] at h2;split at h2
    .rename_i cs' q' hcv hq';split at h2
     .rename_i hlen;cases h2;have hv:=tu hcv (aF hx hr);have Yv:(a.eval x).cells.size=sz:=by have:=hv.1;simp at this;omega
      simp only[aas] at hs;have Zd:cells.size=i*sz+sz+q.length*sz:=by rw[hs,aaM,aaM];omega
      obtain⟨Yq,e1,e2⟩:=Ca (rest:=t.map fun x=>(x.1,a.eval x.2)) (aiL i) Yv (by omega:i*sz+sz<=cells.size);have hc':Yq.toList.length=cells.size:=by rw[e2,n9 (by simp;omega)];simp
      obtain⟨ajU,f1,vs,f2,f3,f4,f5⟩:=ih (k:=i+1) (done:=done++(a.eval x).cells.toList) (cells:=Yq) hq hq' (by simp[hd,Yv,aaM]) (by rw[e2];unfold bi;rw[ht,adW (by simp[hd,Yv,aaM])];rw[aaD (by simp[hd,Yv,aaM])]) (by simp at hc';rw[hc',Zd,aaM,aaM];omega)
      simp only[aar];rw[e1];refine⟨ajU,f1,(a.eval x).cells.toList++vs,by rw[f2,abx],?_,?_,by simp[f5]⟩
      .simp only[abl];exact aZ.pw.2 ((aZ.pw.1 hv).append (aZ.pw.1 f3))
      intro e he;rcases aag.1 he with rfl|he
      .exact hlen
      exact f4 e he
     cases h2
    cases h2
   cases h1
  cases h1
theorem KZ{m:Mem}:∀ {es:List (List C)} {qs:List (List PV)} {vs:List Value} {sz:Nat},tO es=some qs->(∀e∈es,e.length=sz)->aZ m es.flatten vs->aY m.w m.own qs.flatten vs/\(∀e∈qs,e.length=sz)/\qs.length=es.length:=by
 intro es
 induction es with
 |nil=>intro qs vs sz h _ hc;simp[tO] at h;subst h;exact⟨⟨hc.1,fun j x u p=>by simp at p⟩,fun e he=>by simp at he,rfl⟩
 |cons e r ih=>
  intro qs vs sz h Yv hc;simp only[tO] at h;split at h
  .rename_i v vs' h1 h2;cases h;simp only[abl] at hc;have YJ:=Yv e (by simp);have Zz:=(aZ.pw.1 hc).take e.length;have hc2:=(aZ.pw.1 hc).drop e.length;simp only[List.take_left,List.drop_left] at Zz hc2;have g1:=qj h1 (aZ.pw.2 Zz);obtain⟨g2,g3,g4⟩:=ih h2 (fun x hx=>Yv x (by simp[hx])) (aZ.pw.2 hc2);have hvl:v.length=sz:=by
    have a1:=g1.1;have a2:=Zz.1;omega
   refine⟨?_,?_,by simp[g4]⟩
   .have:=(aY.pw.1 g1).append (aY.pw.1 g2);rw[aa2] at this;exact aY.pw.2 this
   intro y hy;rcases aag.1 hy with rfl|hy
   .exact hvl
   exact g3 y hy
  cases h
section
variable {m:Mem} {env:Env} {a:Act} {o:Oper} (Yd:Ok w0 m) (hr:gT m env a.tmps)
include Yd hr
theorem uR{t:TypeId}{ps:Array (Nat×Operand)}{fs:Array Field}{z:List PV}{qs:List (Nat×Nat×aC)}{rs:List (Nat×List C)}(ho:o.op=.build t ps)(ht:P.underlying t=some (.struct fs))(hz:sk P t=some z)
  (Yt:fs.all (fun f=>(P.info? f.type).isSome)=true) (hp:qA (fun i=>(fs[i]?).map fun f=>(f.offset,P.cellsOf f.type)) z.length ps.toList=some qs) (hv:ky env qs=some rs):
  fe P w0 a.eval o m (.agg (fill (z.map .p) rs)) []:=by
 obtain⟨v,i,hi,hiv,hs,hl,YK⟩:=m7 hz;obtain⟨Yq,h1,h2⟩:=Gd hr hp hv (YK m.w m.own).Rh (by simp);refine .calm (x:=.agg Yq) Yd ?_ (bh.agg.2 ⟨_,rfl,h2⟩);have ZB:(fs.mapM (fun f=>do pure (f.offset,<- sizeOf f.type):Field->Sem (Nat×Nat))).run P m.w=.ok (fs.map fun f=>(f.offset,P.cellsOf f.type)) m.w:=by
  rw[Array.mapM_eq_mapM_toList];have:=mapM_ok (P:=P) (f:=(fun f=>do pure (f.offset,<- sizeOf f.type):Field->Sem (Nat×Nat))) (g:=fun f=>(f.offset,P.cellsOf f.type)) (w:=m.w) (l:=fs.toList) (fun f hf=>by
   have:=Array.all_eq_true_iff_forall_mem.1 Yt f (by simpa using hf);cases hfi:P.info? f.type with
   |none=>rw[hfi] at this;cases this
   |some i=>simp[sizeOf,typeInfo,hfi,Program.cellsOf])
  rw[Sem.run_map,this];simp only[Result.andThen_ok];congr 1;apply Array.ext';simp
 have aaL:Instr.fill (fun x=>(fs.map fun f=>(f.offset,P.cellsOf f.type))[x]?) v.cells (ps.map fun x=>(x.1,a.eval x.2)).toList=some Yq:=by simpa using h1
 simp only[execOp,ho,Instr.build,zeroValue,typeInfo,Sem.run_bind,run_program,Result.andThen_ok,hi,hiv,Sem.run_pure,run_underlying ht,ZB,aaL]
theorem wV{t e:TypeId}{n:Nat}{ps:Array (Nat×Operand)}{i:TypeInfo}{z:List PV}{qs:List (Nat×Nat×aC)}{rs:List (Nat×List C)}(ho:o.op=.build t ps)(ht:P.underlying t=some (.array n e))(hz:sk P t=some z)
  (hie:P.info? e=some i) (hp:qA (fun k=>some (k*i.size,i.size)) z.length ps.toList=some qs) (hv:ky env qs=some rs):
  fe P w0 a.eval o m (.agg (fill (z.map .p) rs)) []:=by
 obtain⟨v,i',hi,hiv,hs,hl,YK⟩:=m7 hz;obtain⟨Yq,h1,h2⟩:=Gd hr hp hv (YK m.w m.own).Rh (by simp);refine .calm (x:=.agg Yq) Yd ?_ (bh.agg.2 ⟨_,rfl,h2⟩);have aaL:Instr.fill (fun k=>some (k*i.size,i.size)) v.cells (ps.map fun x=>(x.1,a.eval x.2)).toList=some Yq:=by simpa using h1
 simp only[execOp,ho,Instr.build,zeroValue,sizeOf,typeInfo,Sem.run_bind,run_program,Result.andThen_ok,hi,hie,hiv,Sem.run_pure,run_underlying ht,aaL]
theorem Hw{t e:TypeId}{n sz bytes s:Nat}{z:List PV}{ps:Array (Nat×Operand)}{as:List aC}{es:List (List C)}(ho:o.op=.buildSlice t n ps)(he:sF P t=some (e,sz,bytes,z))(hp:vt 0 ps.toList=some as)
  (hn:as.length=n) (aoW:n*sz<=16777216) (hv:lX env sz as=some es):
  (∀qs,tO es=some qs->fe P w0 a.eval o m (.one (.hsl s ((m.X9 s).1+1) sz 0 es.length)) [(s,((m.X9 s).1+1,some (.arr e sz qs)))])/\
  fe P w0 a.eval o m (.one (.hsl s ((m.X9 s).1+1) sz 0 es.length)) [(s,((m.X9 s).1+1,some (.YP e sz es)))]:=by
 obtain⟨i,v,ht,hi,hs,hb,⟨YG,_⟩,hiz,hvs,hzl,YK⟩:=rU he;subst hn;obtain⟨Yq,f1,vs,f2,f3,f4,f5⟩:=MB (place:=fun k=>some (k*sz,sz)) (done:=[]) (cells:=(Array.range (as.length*sz)).map ((if as.length*sz=0 then #[] else v.cells)[· %(if as.length*sz=0 then #[] else v.cells).size]!)) hr (fun _=>rfl) hp hv (by simp) (by simp) (by simp);have Zk:(execOp a.eval o).run P m.w=.ok (.value (.slice (some ⟨m.w.heap.size,0,none⟩) es.length es.length)) (m.w.alloc (.cells Yq e)):=by
  have aaL:Instr.fill (fun k=>some (k*sz,sz)) ((Array.range (as.length*sz)).map ((if as.length*sz=0 then #[] else v.cells)[· %(if as.length*sz=0 then #[] else v.cells).size]!)) (ps.map fun x=>(x.1,a.eval x.2)).toList=some Yq:=by simpa using f1
  have hnb:¬(16777216<as.length*sz):=by omega
  have ak3:¬(as.length*sz>2 ^ 24):=by omega
  by_cases h0:as.length*sz=0
  .simp only[if_pos h0] at aaL;simp only[execOp,ho,Instr.buildSlice,Sem.run_bind,run_underlying ht,Result.andThen_ok,sizeOf,typeInfo,run_program,hi,Sem.run_pure,hs,if_neg ak3,if_pos h0,aaL,newRow,run_newObj,f5];rfl
  simp only[if_neg h0] at aaL;simp only[execOp,ho,Instr.buildSlice,Sem.run_bind,run_underlying ht,Result.andThen_ok,sizeOf,typeInfo,run_program,hi,Sem.run_pure,hs,if_neg ak3,if_neg h0,zeroValue,hiz,aaL,newRow,run_newObj,f5];rfl
 simp at f2;have YL:Yq.size=es.length*sz:=by
  have h1:=f3.1;rw[nK f4] at h1;have:Yq.toList.length=vs.length:=by rw[f2]
  simp at this;omega
 have aez:es.length<=maxLen:=by have:es.length<=es.length*sz:=Nat.le_mul_of_pos_right _ YG;simp only[maxLen];rw[f5] at this ⊢;omega
 have ahz:Yq.toList.take (es.length*sz)=vs:=by rw[aaD (by simp;omega),f2]
 constructor
 .intro qs hq;have YU:Ev m (m.dM (m.w.alloc (.cells Yq e)) s m.w.heap.size es.length (.arr e sz qs)):=nJ (fX.alloc _ _) (aad _);obtain⟨g1,g2,g3⟩:=KZ hq f4 (f3.ev YU.zero);refine⟨_,m.dM (m.w.alloc (.cells Yq e)) s m.w.heap.size es.length (.arr e sz qs),.inl Zk,nH (fX.alloc _ _) (aad _) (by simp) Yd ?_,YU,nI Yd (aad _),rfl,oQ (aad _) aez⟩;exact⟨Yq,by rw[lV];exact heap_alloc_new m.w _,YG,g2,by rw[ek,g3];exact aad _,by rw[ek];exact aez,by rw[ek,YL],by rw[g3,ahz];exact g1⟩
 have YU:Ev m (m.dM (m.w.alloc (.cells Yq e)) s m.w.heap.size es.length (.YP e sz es)):=nJ (fX.alloc _ _) (aad _);refine⟨_,m.dM (m.w.alloc (.cells Yq e)) s m.w.heap.size es.length (.YP e sz es),.inl Zk,nH (fX.alloc _ _) (aad _) (by simp) Yd ?_,YU,nI Yd (aad _),rfl,F2 (aad _) aez⟩;exact⟨Yq,by rw[lV];exact heap_alloc_new m.w _,YG,f4,by rw[ek];exact aad _,by rw[ek];exact aez,by rw[ek,YL],by rw[ahz];exact f3.ev YU.zero⟩
end
end Go.Abs
namespace Go.Abs
variable {P:Program} {w0:World}
theorem tD(a b:List kB)(X9:aE):app (a++b) X9=app b (app a X9):=by
 induction a generalizing X9 with
 |nil=>rfl
 |cons x r ih=>obtain⟨i,o⟩:=x;simp only[ac3,app];exact ih _
theorem H0{m:Mem}{fr':Nat->Prop}(hf:∀c,fr' c->m.fr c){c:Nat}(h:({m with fr:=fr'}:Mem).own c):m.own c:=by
 rcases h with h|h
 .exact .inl (hf c h)
 exact .inr h
theorem BN{m:Mem}{fr':Nat->Prop}(hf:∀c,fr' c->m.fr c):Ev m {m with fr:=fr'}:=
 ⟨rfl,rfl,rfl,aad _,fun _ _ _=>rfl,fun _ _ h=>h,fun _ _ hn h=>hn (H0 hf h),fun _=>aad _,fun _ _ h=>⟨h,rfl,rfl,rfl⟩⟩
theorem L9{m:Mem}{fr':Nat->Prop}(h:Ok w0 m)(hf:∀c,fr' c->m.fr c):Ok w0 {m with fr:=fr'} where
 os:=h.os
 tape:=h.tape
 output:=h.output
 size:=h.size
 base:=h.base
 obj id o ho:=(h.obj id o ho).ev (BN hf).zero rfl rfl rfl
 Ym id o ho hm:=⟨(h.Ym id o ho hm).1,fun hc=>(h.Ym id o ho hm).2 (hf _ hc)⟩
 frlt c hc:=h.frlt c (hf c hc)
 inj:=h.inj
theorem EQ{m:Mem}{w':World}{c:Nat}(h:Ok w0 m)(hc:m.fr c)(Zm:w0.heap.size<=c)(hos:w'.os=m.w.os)(ht:w'.tape=m.w.tape)(Zj:w'.output=m.w.output)(hs:w'.heap.size=m.w.heap.size)
  (hk:∀x,x≠c->w'.heap[x]?=m.w.heap[x]?):Ok w0 {m with w:=w'} where
 os:=hos.trans h.os
 tape:=ht.trans h.tape
 output:=Zj.trans h.output
 size:=abc h.size (ac7 hs.symm)
 base x hx:=(hk x (by omega)).trans (h.base x hx)
 obj id o ho:=by
  have Yk:m.σ id≠c:=by
   intro e;cases hm:o.eY with
   |true=>exact(h.Ym id o ho hm).2 (e▸hc)
   |false=>exact(h.obj id o ho).calm hm (.inl (e▸hc))
  exact(h.obj id o ho).ev (m':={m with w:=w'}) ⟨fun x _ hn=>⟨hk x fun e=>hn (.inl (e▸hc)),hn⟩,fun _=>aad _,fun _ _ h=>⟨h,rfl,rfl,rfl⟩⟩ rfl rfl (hk _ Yk)
 Ym:=h.Ym
 frlt x hx:=by rw[show({m with w:=w'}:Mem).w.heap.size=m.w.heap.size from hs];exact h.frlt x hx
 inj:=h.inj
theorem wE{m:Mem}(Yd:Ok w0 m){own:Nat->Prop}{x:V}{v:Value}{new:List (List PV)}{rd fr:List Nat}(h:cM m.X9 x=some (new,rd,fr))(hv:bh m x v)(hs:fS m own fr):
  ∃ax cx,v=.slice ax new.length cx/\(∀z,mg x=some z->∀e∈new,e.length=z)/\
   (new≠[]->∃b o news,ax=some ⟨b,o,none⟩/\Pw (bt m.w own) new.flatten news/\ ∀(j:Nat) (u:Value),news[j]?=some u->m.w.cell? ⟨b,o+j,none⟩=some u):=by
 have row:∀(c off sz len:Nat) (cur:Array Value) (ty:TypeId) (fz:Nat×Nat) (ps:List (List PV)),m.w.heap[c]?=some (.cells cur ty fz)->Pw (bt m.w own) ps.flatten ((cur.toList.drop (off*sz)).take (ps.length*sz))->
   ∃b o news,some (⟨c,off*sz,none⟩:Addr)=some ⟨b,o,none⟩/\Pw (bt m.w own) ps.flatten news/\ ∀(j:Nat) (u:Value),news[j]?=some u->m.w.cell? ⟨b,o+j,none⟩=some u:=by
  intro c off sz len cur ty fz ps hh hp;refine⟨c,off*sz,_,rfl,hp,fun j u hj=>?_⟩;rw[aa3] at hj;split at hj
  .rw[qQ hh];simpa using hj
  cases hj
 unfold cM at h;split at h
 .cases h;exact⟨none,0,ur hv,fun z hz=>by simp[mg] at hz,fun h=>(h rfl).elim⟩
 .rename_i es;cases h;obtain⟨hp⟩:cE m _ v:=hv;generalize Zu:(PV.sl new)=pv at hp;cases hp<;>cases Zu
  .exact⟨_,_,rfl,fun z hz=>by simp[mg] at hz,fun h=>(h rfl).elim⟩
  rename_i b o cap sz f hm ho hl Yv hcc hrr;refine⟨_,_,rfl,fun z hz=>by simp[mg] at hz,fun _=>⟨b,o,(List.range new.flatten.length).map f,rfl,⟨by simp,fun j y u p q=>?_⟩,fun j u q=>?_⟩⟩
  .have hj:j<new.flatten.length:=(aac.1 p).1;rw[aaz,abw hj] at q;simp at q;subst q;exact(hrr j y p).less hs.1
  have hj:j<new.flatten.length:=by have:=(aac.1 q).1;simpa using this
  rw[aaz,abw hj] at q;simp at q;subst q;exact hcc j _ (abC hj)
 .rename_i id g z off len;have YV:cE m _ v:=hv;cases YV with
  |hsl ad cap hg hl hm hh'=>
   split at h
   .rename_i g' ty sz es hb;split at h
    .rename_i hc;cases h;have Yp:(m.X9 id).2=some (.arr ty sz es):=by rw[hb]
     obtain⟨cur,hh,hs0,Yv,hl2,hm2,YD,YK⟩:=Yd.obj id _ Yp;obtain⟨e1,e2,e3⟩:=hh' sz (by rw[hb];exact hc.1) (by rw[hb];rfl);have hlen:((es.drop off).take len).length=len:=by simp;omega
     refine⟨some ad,cap,by rw[hlen],fun z' hz' e he=>?_,fun Yk=>?_⟩
     .simp[mg] at hz';subst hz';rw[<- e1];exact Yv e (ab1 (ab2 he))
     have:0<len:=by
      cases len with
      |zero=>simp at Yk
      |succ n=>omega
     rw[e2 (.inr this)];exact row (m.σ id) off sz len cur ty _ _ hh (sQ Yv (aY.pw.1 (YK.less hs.1)) hc.2)
    cases h
   .rename_i g' ty sz es hb;split at h
    .rename_i hc;cases h;have Yp:(m.X9 id).2=some (.Zr ty sz es):=by rw[hb]
     obtain⟨cur,fz,hh,hs0,Yv,hl2,hm2,YD,YK,_⟩:=Yd.obj id _ Yp;obtain⟨e1,e2,e3⟩:=hh' sz (by rw[hb];exact hc.1) (by rw[hb];rfl);have hlen:((es.drop off).take len).length=len:=by simp;omega
     refine⟨some ad,cap,by rw[hlen],fun z' hz' e he=>?_,fun Yk=>?_⟩
     .simp[mg] at hz';subst hz';rw[<- e1];exact Yv e (ab1 (ab2 he))
     have:0<len:=by
      cases len with
      |zero=>simp at Yk
      |succ n=>omega
     rw[e2 (.inr this)];exact row (m.σ id) off sz len cur ty _ _ hh (sQ Yv (aY.pw.1 (YK.less hs.1)) hc.2)
    cases h
   .rename_i g' ty sz es hb;split at h
    .rename_i hc;split at h
     .rename_i ps q hq;cases h;have Yp:(m.X9 id).2=some (.YP ty sz es):=by rw[hb]
      obtain⟨cur,hh,hs0,Yv,hl2,hm2,YD,YK⟩:=Yd.obj id _ Yp;obtain⟨e1,e2,e3⟩:=hh' sz (by rw[hb];exact hc.1) (by rw[hb];rfl);have hle:((es.drop off).take len).length=len:=by simp;omega
      have Yu:new.length=len:=by rw[qP hq,hle]
      have aiC:=sQ Yv (aZ.pw.1 YK) hc.2;have aem:∀e∈(es.drop off).take len,e.length=sz:=fun e he=>Yv e (ab1 (ab2 he));have Zh:len*sz<=(cur.toList.drop (off*sz)).length:=by
       simp;have h1:off*sz+len*sz<=es.length*sz:=by rw[<- aaM];exact abh _ hc.2
       have h2:es.length*sz<=m.κ id*sz:=abh _ hl2;omega
      have hpe:∀(j:Nat) (e:List PV),new[j]?=some e->Pw (bt m.w own) e (((cur.toList.drop (off*sz)).drop (j*sz)).take sz):=by intro j e he;obtain⟨x,q',h1,h2,h3⟩:=tm hq he;exact je (R:=cE m) (T:=bt m.w own) (d9:=fS m own) (fun a b h=>h.app) (fun a b r v e1 e2 e3=>ng Yd _ e1 e2 e3) h2 ⟨hs.1,fun i hi=>hs.2 i (h3 i hi)⟩ (zy aem aiC h1)
      have ab8:∀e∈new,e.length=sz:=by
       intro e he;obtain⟨j,hj⟩:=aaO he;have:=(hpe j e hj).1;have hjl:j<len:=by rw[<- Yu];exact(aac.1 hj).1
       have h1:(j+1)*sz<=len*sz:=abh _ hjl;rw[aaM] at h1;simp at this Zh;omega
      refine⟨some ad,cap,by rw[Yu],fun z' hz' e he=>?_,fun Yk=>?_⟩
      .simp[mg] at hz';subst hz';rw[<- e1];exact ab8 e he
      have:0<len:=by rw[<- Yu];exact aaQ.2 Yk
      rw[e2 (.inr this)];refine row (m.σ id) off sz len cur ty _ _ hh ?_;rw[Yu];have:=CZ ab8 (by rw[Yu];exact Zh) hpe;rw[Yu] at this;exact this
     cases h
    cases h
   split at h
   .rename_i hl0;cases h;exact⟨some ad,cap,by rw[hl0];rfl,fun z' _ e he=>by simp at he,fun h=>(h rfl).elim⟩
   cases h
 cases h
end Go.Abs
namespace Go.Abs
variable {P:Program} {w0:World}
theorem Vl{w:World}{own:Nat->Prop}{xs:List PV}{vs:List Value}(h:Pw (bt w own) xs vs):∀u∈vs,u.oneCell'=true:=by
 intro v hv;obtain⟨j,hj⟩:=aaO hv;have Ye:j<xs.length:=by rw[<- h.1];exact(aac.1 hj).1
 exact(h.2 j _ v (abC Ye) hj).ue
theorem xB{m:Mem}{ids:List Nat}{u:List kB}(h:Iv m.X9 ids=some u)(id:Nat):(app u m.X9 id).1=(m.X9 id).1:=by
 rcases kz h id with ⟨e,_⟩|⟨_,p,q,a,b,e⟩
 .exact congrArg Prod.fst e
 have:=congrArg Prod.fst e;exact this
theorem uE{m:Mem}{id:Nat}{o:Ob}{w':World}(ho:(m.X9 id).2=some o)(hm:o.eY=true)(hos:w'.os=m.w.os)(ht:w'.tape=m.w.tape)(Zj:w'.output=m.w.output)(hs:w'.heap.size=m.w.heap.size)
  (hk:∀x,x≠m.σ id->w'.heap[x]?=m.w.heap[x]?):Ev m {m.fI id with w:=w'} where
 os:=hos
 tape:=ht
 output:=Zj
 size:=ac7 hs.symm
 keep c _ hn:=hk c fun e=>hn ⟨id,o,ho,hm,e.symm⟩
 eY:=(nL ho hm).eY
 less:=(nL ho hm).less
 gen:=(nL ho hm).gen
 ref:=(nL ho hm).ref
theorem Vk{m:Mem}(Yd:Ok w0 m){id s:Nat}{ob:Ob}{w':World}{abW:Array Value}{ty sz:Nat}{es':List (List PV)}(ho:(m.X9 id).2=some ob)(hm:ob.eY=true)(YG:0<sz)(hos:w'.os=m.w.os)(ht:w'.tape=m.w.tape)(Zj:w'.output=m.w.output)(hs:w'.heap.size=m.w.heap.size)
  (hk:∀x,x≠m.σ id->w'.heap[x]?=m.w.heap[x]?) (hh:w'.heap[m.σ id]?=some (.cells abW ty (0,0))) (Yv:∀e∈es',e.length=sz) (hl:es'.length<=m.κ id) (hmx:m.κ id<=maxLen) (YD:abW.size=m.κ id*sz)
  (hp:Pw (bt m.w m.own) es'.flatten (abW.toList.take (es'.length*sz))):
  ∃m',m'.w=w'/\Ok w0 m'/\Ev m m'/\m'.fr=m.fr/\m'.X9=ij (ij m.X9 id ((m.X9 id).1,none)) s ((m.X9 s).1+1,some (.arr ty sz es'))/\
   bh m' (.one (.hsl s ((m.X9 s).1+1) sz 0 es'.length)) (.slice (some ⟨m.σ id,0,none⟩) es'.length (m.κ id)):=by
 have adH:=uE ho hm hos ht Zj hs hk;have Zm:=(Yd.Ym id ob ho hm).1;have aol:Ok w0 {m.fI id with w:=w'}:=EQ (m:=m.fI id) (Gm Yd ho hm) (.inr rfl) Zm hos ht Zj hs hk;have YU:Ev m ((({m.fI id with w:=w'}:Mem)).install s (m.σ id) (m.κ id) (.arr ty sz es')):=oN adH (.inr rfl) (.inr ⟨id,ob,ho,hm,rfl⟩);have hgs:((({m.fI id with w:=w'}:Mem)).X9 s).1=(m.X9 s).1:=by
  simp only[Mem.fI,ae];split
  .rename_i e;subst e;rfl
  rfl
 have hσ:((({m.fI id with w:=w'}:Mem)).install s (m.σ id) (m.κ id) (.arr ty sz es')).σ s=m.σ id:=by simp[Mem.install,ae]
 have hκ:((({m.fI id with w:=w'}:Mem)).install s (m.σ id) (m.κ id) (.arr ty sz es')).κ s=m.κ id:=by simp[Mem.install,ae]
 refine⟨_,rfl,oL aol (.inr rfl) Zm ?_,YU,?_,?_,?_⟩
 .exact⟨abW,by rw[hσ];exact hh,YG,Yv,by rw[hκ];exact hl,by rw[hκ];exact hmx,by rw[hκ];exact YD,aY.ev YU.zero (aY.pw.2 hp)⟩
 .funext x;simp only[Mem.install,Mem.fI];apply propext;constructor
  .rintro ⟨h|h,h2⟩
   .exact h
   exact(h2 h).elim
  intro h;exact⟨.inl h,fun e=>(Yd.Ym id ob ho hm).2 (e▸h)⟩
 .simp only[Mem.install];rw[hgs];rfl
 refine bh.one.2 (.hsl _ _ ?_ hl hmx fun z h1 h2=>?_)
 .simp only[Mem.install,ae,if_true];rw[hgs];exact aad _
 have:jh (((({m.fI id with w:=w'}:Mem)).install s (m.σ id) (m.κ id) (.arr ty sz es')).X9 s)=some sz:=by simp[Mem.install,ae,jh]
 rw[this] at h2;cases h2;exact⟨rfl,fun _=>by rw[hσ,acv],fun _=>hκ.symm⟩
section
variable {m:Mem} {env:Env} {a:Act} {o:Oper} (Yd:Ok w0 m) (hr:gT m env a.tmps)
include Yd hr
theorem Hx{c:Call}{d x:Operand}{d' x':aC}{t e:TypeId}{s sz bytes:Nat}{z:List PV}{v:V}{u:List kB}{rd:List Nat}(ho:o.op=.call c)(hc:c.callee=.builtin .append)(has:c.args= #[d,x])(hat:c.argTypes= #[t,t])
  (he:sF P t=some (e,sz,bytes,z)) (hd:bK d=some d') (hx:bK x=some x') (hv:aN m.X9 s e sz bytes (ev env d') (ev env x')=.done v u rd):fe P w0 a.eval o m v u:=by
 obtain⟨i,zv,ht,hi,hs,hb,⟨YG,acl⟩,hiz,hzs,hzl,YK⟩:=rU he;have hrd:=aF hd hr;have hrx:=aF hx hr;have run:∀(y:Value) (w':World),(Builtin.append_ #[t,t] o.type #[a.eval d,a.eval x]).run P m.w=.ok y w'->(execOp a.eval o).run P m.w=.ok (.value y) w':=by intro y w' h;simp[execOp,ho,resolve,hc,has,hat,invoke,builtin,h]
 unfold aN at hv;split at hv
 .cases hv
 rename_i new rd' fr YJ;split at hv
 .cases hv
 rename_i an1;split at hv
 .cases hv
 rename_i fu hfu;have Z8:=PB Yd hfu;have aa4:=Ir hfu;have hsp:=tc Yd hfu;obtain⟨ax,cx,hxv,an2,acb⟩:=wE Yd YJ hrx hsp;have Yt:∀e∈new,e.length=sz:=by
  have:mg (ev env x')=some sz\/iD sz new=true:=Classical.not_not.1 an1;rcases this with h|h
  .exact an2 sz h
  intro e he;have:=aaP.1 h e he
  simpa using this
 have aeQ:new.flatten.length=new.length*sz:=nK Yt;split at hv
 · -- nil
  rename_i hds;rw[hds] at hrd;have hdv:=ur hrd;split at hv
  .rename_i Z9;cases hv;refine⟨.slice none 0 0,m.with u,.inl (run _ _ ?_),Z8,aa4,rfl,rfl,kV .nils⟩;rw[hdv,hxv,Z9];cases ax<;>simp[Builtin.append_,run_underlying ht,sizeOf,typeInfo,hi,Builtin.lenOf,Builtin.firstCells,loadCells,loadCellsFrom,Mem.with]
  rename_i Z9;split at hv
  .rename_i YE;cases hv;have Yk:new≠[]:=fun h=>Z9 (by simp[h]);obtain⟨b,off,news,rfl,hpw,aa6⟩:=acb Yk;unfold room at YE;have hnl:news.length=new.length*i.size:=by rw[hpw.1,aeQ,hs]
   have ade:new.length<=maxLen/\(new.length:Int)<=9223372036854775807:=by have:new.length<=new.length*bytes:=Nat.le_mul_of_pos_right _ acl;simp only[maxLen];omega
   have Zk:=run_append_nil (P:=P) m.w t o.type e i zv ht hi hiz ⟨b,off,none⟩ new.length cx news hnl (fun j v hj=>by rw[Addr.add_lit];exact aa6 j v hj) (by omega) ade.2 (by rw[hb];omega);generalize hW:m.w.drew.alloc (.cells (news.toArray++Builtin.zeroCells zv.cells (grownCap m.w new.length 0 e-new.length)) e)=W at Zk;have hg:fX (m.with fu).w W:=by rw[<- hW];exact(fX.drew _).trans (fX.alloc _ _)
   have Zh:=grownCap_ge m.w new.length 0 e;have ahO:=grownCap_le_maxLen m.w new.length 0 e ade.1;have adH:Ev (m.with fu) ((m.with fu).dM W s m.w.heap.size (grownCap m.w new.length 0 e) (.arr e sz new)):=nJ hg (aad _);have hgs:=xB hfu s;refine⟨_,(m.with fu).dM W s m.w.heap.size (grownCap m.w new.length 0 e) (.arr e sz new),.inl (run _ _ (by rw[hdv,hxv];exact Zk)),nH hg (aad _) (by rw[<- hW];simp) Z8 ?_,aa4.trans adH,nI Z8 (aad _),?_,?_⟩
   .refine⟨_,by rw[lV,F1,<- hW];exact heap_alloc_new m.w.drew _,YG,Yt,by rw[ek];exact Zh,by rw[ek];exact ahO,?_,?_⟩
    .rw[ek];simp only[Array.size_append,List.size_toArray,size_zeroCells,hzs,hnl,hs,<- aaM];congr 1;omega
    have:(news.toArray++Builtin.zeroCells zv.cells (grownCap m.w new.length 0 e-new.length)).toList.take (new.length*sz)=news:=by simp only[Array.toList_append];rw[<- hs,<- hnl];exact List.take_left
    rw[this];exact aY.ev adH.zero (aY.pw.2 hpw)
   .rw[tD,zu];simp only[Mem.with];rw[hgs]
   have:=oQ (m:=m.with fu) (w':=W) (s:=s) (c:=m.w.heap.size) (ty:=e) (sz:=sz) (es:=new) Zh ahO;simp only[Mem.with] at this;rw[hgs] at this;exact this
  cases hv
 .rename_i id g zz len hds;rw[hds] at hrd;split at hv
  .rename_i g' ty' YR es hbk;split at hv
   .rename_i ZO;obtain⟨ZV,rfl,rfl,hlen,YE,aos⟩:=ZO;cases hv;have aor:id∉fr:=by simpa using aos
    have Yo:(m.with fu).X9 id=m.X9 id:=by
     rcases kz hfu id with ⟨e,_⟩|⟨hin,_⟩
     .exact e
     exact(aor hin).elim
    have Yp:((m.with fu).X9 id).2=some (.arr ty' YR es):=by rw[Yo,hbk]
    obtain⟨cur,hh,_,Yv,hl,hmx,YD,an9⟩:=Z8.obj id _ Yp;have hcd:cE m _ (a.eval d):=hrd;generalize hdv:a.eval d=dv at hcd;cases hcd with
    |hsl ad cap hg hll hmm hhd=>
     obtain⟨f1,f2,f3⟩:=hhd YR (by rw[hbk];exact ZV) (by rw[hbk];rfl);have Zh:=f3 rfl;have had:=f2 (.inl rfl);rw[acv] at had;subst had;unfold room at YE;have hgs:=xB hfu s;have hgid:=xB hfu id;have aaj:len*YR<=es.length*YR:=abh _ hlen;have hl2:es.length*YR<=m.κ id*YR:=abh _ hl;have acE:Pw (bt (m.with fu).w (m.with fu).own) (es.take len).flatten (cur.toList.take (len*YR)):=by rw[lk Yv];have h1:=(aY.pw.1 an9).take (len*YR);rw[adm,ab0 aaj] at h1;exact h1
     have htl:(es.take len).length=len:=by simp;omega
     have ahS:∀x∈es.take len++new,x.length=YR:=by
      intro x hx;rcases aaw.1 hx with hx|hx
      .exact Yv x (ab2 hx)
      exact Yt x hx
     have hnl0:len+new.length<=(len+new.length)*bytes:=Nat.le_mul_of_pos_right _ acl;have hup:∀q:kB,app (fu++[(id,(g,none)),q]) m.X9=ij (ij (m.with fu).X9 id (((m.with fu).X9 id).1,none)) q.1 q.2:=by intro q;rw[tD];simp only[app];rw[Yo,hbk,ZV];rfl
     have aai:(es.take len++new).length=len+new.length:=by rw[aaF,htl]
     by_cases hfit:len+new.length<=cap
     · -- in its own block
      have key:∀(w':World) (abW:Array Value),(execOp a.eval o).run P m.w=.ok (.value (.slice (some ⟨m.σ id,0,none⟩) (len+new.length) cap)) w'->w'.os=m.w.os->w'.tape=m.w.tape->w'.output=m.w.output->w'.heap.size=m.w.heap.size->
        (∀x,x≠m.σ id->w'.heap[x]?=m.w.heap[x]?)->w'.heap[m.σ id]?=some (.cells abW ty' (0,0))->abW.size=cur.size->Pw (bt (m.with fu).w (m.with fu).own) (es.take len++new).flatten (abW.toList.take ((len+new.length)*YR))->
        fe P w0 a.eval o m (.one (.hsl s ((m.X9 s).1+1) YR 0 (len+new.length))) (fu++[(id,(g,none)),(s,((m.X9 s).1+1,some (.arr ty' YR (es.take len++new))))]):=by
       intro w' abW Zk q1 q2 q3 q4 q5 q6 q7 q8;obtain⟨m',e1,e2,e3,e4,e5,e6⟩:=Vk (s:=s) Z8 Yp rfl YG q1 q2 q3 q4 q5 q6 ahS (by rw[aai];rw[Zh] at hfit;exact hfit) hmx (by rw[q7];exact YD) (by rw[aai];exact q8);rw[aai] at e6;have agX:((m.with fu).X9 s).1=(m.X9 s).1:=hgs;rw[agX] at e6 e5;refine⟨_,m',.inl (by rw[e1];exact Zk),e2,aa4.trans e3,e4,by rw[e5,hup],?_⟩;rw[Zh];exact e6
      by_cases Z9:new=[]
      .subst Z9;have akQ:(execOp a.eval o).run P m.w=.ok (.value (.slice (some ⟨m.σ id,0,none⟩) (len+([]:List (List PV)).length) cap)) m.w:=by
        apply run;rw[hdv,hxv];have aov:len<=cap:=hll;cases ax<;>simp[Builtin.append_,run_underlying ht,sizeOf,typeInfo,hi,Builtin.lenOf,Builtin.firstCells,loadCells,loadCellsFrom,aov,storeCells]
       exact key m.w cur akQ rfl rfl rfl rfl (fun _ _=>rfl) hh rfl (by simpa using acE)
      obtain⟨b,off,news,rfl,hpw,aa6⟩:=acb Z9;have hnl:news.length=new.length*i.size:=by rw[hpw.1,aeQ,hs]
      have aaJ:len*i.size+news.length<=cur.size:=by rw[hnl,hs,YD,<- aaM];rw[Zh] at hfit;exact abh _ hfit
      have Zk:=run_append_room (P:=P) m.w t o.type ty' i ht hi (m.σ id) len cap cur hh ⟨b,off,none⟩ new.length cx news hnl (fun j v hj=>by rw[Addr.add_lit];exact aa6 j v hj) (Vl hpw) hfit aaJ;have akP:(execOp a.eval o).run P m.w=.ok (.value (.slice (some ⟨m.σ id,0,none⟩) (len+new.length) cap)) _:=run _ _ (by rw[hdv,hxv];exact Zk);have aoQ:len*i.size<=cur.size:=abc (Nat.le_add_right _ _) aaJ;refine key _ _ akP ?_ ?_ ?_ ?_ (fun x hx=>setRow_other m.w (m.σ id) x _ hx) (ro hh) ?_ ?_
      .rfl
      .rfl
      .rfl
      .exact setRow_size m.w _ _
      .rw[List.size_toArray,aaF,aaF,aay,aa1,Array.length_toList];omega
      have h1:=acE.append hpw;rw[<- ac8] at h1;have:(cur.toList.take (len*i.size)++news++cur.toList.drop (len*i.size+news.length)).take ((len+new.length)*YR)=cur.toList.take (len*YR)++news:=by
       rw[hs];have YL:(cur.toList.take (len*YR)).length=len*YR:=by rw[aay,Array.length_toList];rw[hs] at aoQ;omega
       have ag7:(cur.toList.take (len*YR)++news).length=(len+new.length)*YR:=by rw[aaF,YL,hnl,hs,aaM]
       rw[adW (ac7 ag7.symm)];exact aaD (ac7 ag7)
      simp only[List.toList_toArray] at this ⊢;rw[this];exact h1
     · -- a new block
      have Z9:new≠[]:=fun e=>by subst e;simp at hfit;omega
      obtain⟨b,off,news,rfl,hpw,aa6⟩:=acb Z9;have hnl:news.length=new.length*i.size:=by rw[hpw.1,aeQ,hs]
      have aiM:(cur.toList.take (len*YR)).length=len*i.size:=by rw[hs,aay,Array.length_toList];have hcs2:cur.size=m.κ id*YR:=YD;omega
      have Zk:=run_append_grow (P:=P) m.w t o.type ty' i zv ht hi hiz ⟨m.σ id,0,none⟩ len cap (cur.toList.take (len*YR)) aiM (fun j v hj=>by
        rw[Addr.add_lit,aa0];have:(m.w.cell? ⟨m.σ id,j,none⟩)=cur[j]? :=qQ hh;rw[this];rw[aa3] at hj;split at hj
        .simpa using hj
        cases hj) ⟨b,off,none⟩ new.length cx news hnl (fun j v hj=>by rw[Addr.add_lit];exact aa6 j v hj) (by omega) (by omega) (growslice_fits (by omega) (by rw[hb];omega))
      have ade:len+new.length<=maxLen:=by simp only[maxLen];omega
      have hgc:=grownCap_ge m.w (len+new.length) cap ty';have hgm:=grownCap_le_maxLen m.w (len+new.length) cap ty' ade;generalize hcc:grownCap m.w (len+new.length) cap ty'=cc at Zk hgc hgm;generalize hW:m.w.drew.alloc (.cells ((cur.toList.take (len*YR)).toArray++news.toArray++Builtin.zeroCells zv.cells (cc-(len+new.length))) ty')=W at Zk;have akZ:=L9 (fr':=m.fr) (Gm Z8 Yp rfl) (fun c hc=>.inl hc);have aoI:Ev (m.with fu) {(m.with fu).fI id with fr:=m.fr}:=(nL Yp rfl).trans (BN (fun c hc=>.inl hc));have hg2:fX ({(m.with fu).fI id with fr:=m.fr}:Mem).w W:=by rw[<- hW];exact(fX.drew _).trans (fX.alloc _ _)
      have adH:Ev ({(m.with fu).fI id with fr:=m.fr}:Mem) (({(m.with fu).fI id with fr:=m.fr}:Mem).dM W s m.w.heap.size cc (.arr ty' YR (es.take len++new))):=nJ hg2 (aad _);have als:=aoI.trans adH;have agX:((({(m.with fu).fI id with fr:=m.fr}:Mem)).X9 s).1=(m.X9 s).1:=by
       simp only[Mem.fI,ae];split
       .rename_i e';subst e';exact hgs
       exact hgs
      refine⟨_,({(m.with fu).fI id with fr:=m.fr}:Mem).dM W s m.w.heap.size cc (.arr ty' YR (es.take len++new)),.inl (run _ _ (by rw[hdv,hxv];exact Zk)),nH hg2 (aad _) (by rw[<- hW];simp) akZ ?_,aa4.trans als,nI akZ (aad _),?_,?_⟩
      .refine⟨_,by rw[lV,F1,<- hW];exact heap_alloc_new m.w.drew _,YG,ahS,by rw[ek,aai];exact hgc,by rw[ek];exact hgm,?_,?_⟩
       .rw[ek];simp only[Array.size_append,List.size_toArray,size_zeroCells,hzs,hnl,aiM,hs,<- aaM];congr 1;omega
       have h1:=acE.append hpw;rw[<- ac8] at h1;have:((cur.toList.take (len*YR)).toArray++news.toArray++Builtin.zeroCells zv.cells (cc-(len+new.length))).toList.take ((es.take len++new).length*YR)=cur.toList.take (len*YR)++news:=by simp only[Array.toList_append,aai];exact List.take_left' (by rw[aaF,List.toList_toArray,List.toList_toArray,aiM,hnl,hs,aaM])
       rw[this];exact aY.ev als.zero (aY.pw.2 h1)
      .rw[zu,hup];simp only[app];rw[agX];rfl
      have:=oQ (m:=({(m.with fu).fI id with fr:=m.fr}:Mem)) (w':=W) (s:=s) (c:=m.w.heap.size) (ty:=ty') (sz:=YR) (es:=es.take len++new) hgc hgm;rw[agX] at this;exact this
   cases hv
  cases hv
 cases hv
end
end Go.Abs
