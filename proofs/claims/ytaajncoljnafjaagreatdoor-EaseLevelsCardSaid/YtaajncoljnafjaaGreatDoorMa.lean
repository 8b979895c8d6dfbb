/-
  An abstract machine for the code of the model.
-/
import Derived.KernelRfl
import Derived.Calls
import Derived.WalkKit
set_option linter.all false
namespace Go.Abs
abbrev p_:=List UInt8
abbrev m_:=List Bool
abbrev d_:=List Int
abbrev a_:=List Nat
abbrev w_:=Option Nat
abbrev v_:=List (Nat×Nat)
abbrev u_:=List (Int×Int)
abbrev r_:=List (Nat×a_)
theorem aa{p:Prop}(h:p:=by omega):p:=h
theorem ae{p:Prop}(h:p:=by decide):p:=h
theorem af{p:Prop}(h:p:=by simp):p:=h
theorem ah{p:Prop}(h:p:=by kernel_rfl):p:=h
def au:=@if_neg.{1}
def aD:=@if_pos.{1}
def aT:=@List.getElem?_eq_some_iff.{0}
def aV:=@List.mem_of_getElem?.{0}
def bJ:=@List.mem_cons.{0}
def bR:=@Nat.zero_le
def bY:=@Nat.le_refl
def cE:=@List.length_map.{0,0}
def cH:=@Bool.and_eq_true
def cJ:=@List.mem_map.{0,0}
def cZ:=@beq_iff_eq.{0}
def de:=@Nat.mod_lt
def dC:=@List.getD_eq_getElem?_getD.{0}
def dI:=@List.length_cons.{0}
def dN:=@Bool.false_eq_true
def dT:=@Option.map_eq_some_iff.{0,0}
def ek:=@List.map_cons.{0,0}
def eo:=@List.not_mem_nil.{0}
def eO:=@List.mem_append.{0}
def fe:=@List.length_nil.{0}
def fG:=@List.getElem?_map.{0,0}
def fS:=@List.length_append.{0}
def fT:=@Nat.mod_eq_of_lt
def fY:=@Option.some.injEq.{0}
def gk:=@List.all_eq_true.{0}
def gn:=@List.nil_append.{0}
def gK:=@List.take_of_length_le.{0}
def gV:=@List.getElem?_of_mem.{0}
def gY:=@Nat.add_mul
def gZ:=@of_decide_eq_false
def im:=@List.mem_range
def iz:=@List.length_take.{0}
def iH:=@Nat.le_of_ble_eq_true
def jl:=@List.length_pos_iff.{0}
def jx:=@Nat.zero_add
def jG:=@List.append_nil.{0}
def kS:=@List.map_append.{0,0}
def kU:=@List.map_nil.{0,0}
def lH:=@List.length_drop.{0}
def lI:=@List.mem_singleton.{0}
def lJ:=@List.take_length.{0}
def lK:=@Prod.mk.injEq.{0,0}
def lS:=@beq_eq_false_iff_ne.{0}
def l9:=@Bool.not_eq_true'
def mf:=@decide_eq_true_eq
def mA:=@List.getElem?_take.{0}
def mB:=@List.pairwise_cons.{0}
def mT:=@List.flatten_cons.{0}
def mU:=@List.take_append_drop.{0}
def mV:=@Nat.mul_le_mul_right
def nI:=@List.all_cons.{0}
def nJ:=@List.cons_append.{0}
def nK:=@Option.map_some.{0,0}
def n9:=@List.getElem?_eq_none.{0}
def og:=@List.length_reverse.{0}
def ow:=@Nat.add_mod_right
def oz:=@Nat.le_trans
def oD:=@Nat.lt_succ_iff_lt_or_eq
def oE:=@Option.getD_some.{0}
def oZ:=@List.take_add_one.{0}
def o9:=@Nat.not_lt_zero
def pz:=@Option.some.inj.{0}
def qu:=@Int.toNat_natCast
def qx:=@of_decide_eq_true
def qY:=@List.all_nil.{0}
def qZ:=@List.getElem?_set.{0}
def rh:=@List.nodup_cons.{0}
def rS:=@List.getElem?_eq_getElem.{0}
def tJ:=@Int.eq_ofNat_of_zero_le
def uv:=@Iff.rfl
def uw:=@List.getElem_cons_drop.{0}
def ux:=@List.length_set.{0}
def uy:=@List.map_map.{0,0,0}
def uz:=@List.mem_filter.{0}
def vp:=@List.getElem?_range
def vq:=@List.mem_cons_of_mem.{0}
def vr:=@Nat.add_zero
def vt:=@Nat.mod_two_eq_zero_or_one
def wE:=@Bool.or_eq_true
def wG:=@List.any_eq_true.{0}
def wH:=@List.append_assoc.{0}
def xJ:=@List.countP_append.{0}
def xK:=@List.countP_cons.{0}
def xL:=@List.ext_getElem?.{0}
def xM:=@List.getElem?_append_left.{0}
def xN:=@List.mem_of_mem_drop.{0}
def xO:=@List.nodup_nil.{0}
def xP:=@Nat.eq_of_beq_eq_true
def yP:=@Bool.and_self
def yQ:=@Bool.and_true
def yR:=@List.cons.injEq.{0}
def yS:=@List.countP_map.{0,0}
def yU:=@List.ext_getElem.{0}
def yV:=@List.mem_of_mem_take.{0}
def yW:=@List.pairwise_map.{0,0}
def yX:=@List.range_succ
def yY:=@Nat.mod_add_mod
def Ao:=@Bool.not_true
def Ap:=@List.countP_pos_iff.{0}
def Aq:=@List.getElem?_append_right.{0}
def Ar:=@List.getElem?_drop.{0}
def As:=@List.map_congr_left.{0,0}
def Au:=@Nat.min_eq_left
def Av:=@beq_self_eq_true.{0}
def Aw:=@not_or
def BD:=@List.foldl_cons.{0,0}
def BE:=@Nat.zero_mul
def De:=@Bool.false_or
def Df:=@Bool.true_and
def Dg:=@List.mem_append_left.{0}
def Dh:=@List.mem_append_right.{0}
def Di:=@List.mem_flatMap.{0,0}
def Dj:=@decide_eq_true
def ES:=@Array.getD_eq_getD_getElem?.{0}
def ET:=@Bool.eq_iff_iff
def EU:=@List.flatten_append.{0}
def EW:=@List.getElem_map.{0,0}
def EX:=@List.length_range
def EY:=@Nat.add_assoc
def EZ:=@Nat.lt_of_lt_of_le
def E0:=@Nat.mod_self
def E6:=@decide_eq_false
def GC:=@Bool.not_false
def GD:=@List.length_eq_zero_iff.{0}
def GF:=@List.mem_flatten.{0}
def GG:=@List.nodup_append.{0}
def GH:=@List.nodup_range
def GI:=@List.take_take.{0}
def GJ:=@Nat.le_max_left
def GK:=@Nat.le_of_eq
def IX:=@Array.getElem?_toList.{0}
def IY:=@Classical.em
def IZ:=@List.any_eq_false.{0}
def I0:=@List.cons.inj.{0}
def Ja:=@List.countP_congr.{0}
def Jb:=@List.find?_eq_none.{0}
def Jc:=@List.flatten_nil.{0}
def Jd:=@List.foldl_append.{0,0}
def Je:=@List.map_take.{0,0}
def Jf:=@List.mem_of_find?_eq_some.{0}
def Jg:=@Nat.le_max_right
def L8:=@Bool.not_not
def L9:=@List.Perm.refl.{0}
def Ma:=@List.contains_iff_mem.{0}
def Mb:=@List.countP_eq_zero.{0}
def Mc:=@List.drop_length.{0}
def Md:=@List.find?_some.{0}
def Me:=@List.flatMap_cons.{0,0}
def Mf:=@List.getElem_range
def Mg:=@List.getElem_set.{0}
def Mh:=@List.length_pos_of_mem.{0}
def Mi:=@List.map_set.{0,0}
def Mj:=@List.sum_cons.{0}
def Mk:=@List.take_append.{0}
def Ml:=@Nat.add_comm
def Mm:=@Nat.le_succ
def Mn:=@Nat.one_mul
def Mo:=@Nat.one_ne_zero
def Mp:=@Nat.sub_self
def PK:=@Array.length_toList.{0}
def PL:=@Array.toList_append.{0}
def PM:=@Function.comp_apply.{0,0,0}
def PN:=@List.countP_le_length.{0}
def PO:=@List.drop_zero.{0}
def PQ:=@List.idxOf_lt_length_iff.{0}
def PS:=@List.mem_cons_self.{0}
def PT:=@List.mem_reverse.{0}
def PU:=@List.pairwise_append.{0}
def PW:=@List.take_append_of_le_length.{0}
def PX:=@List.take_left.{0}
def PY:=@Nat.add_mod_mod
def PZ:=@Nat.le_mul_of_pos_right
def P0:=@Nat.lt_or_ge
def P9:=@Nat.lt_trichotomy
def Qa:=@Option.map_none.{0,0}
def TO:=@Array.getElem?_eq_some_iff.{0}
def TP:=@Array.getElem?_push.{0}
def TQ:=@Array.getElem?_setIfInBounds.{0}
def TR:=@Bool.or_eq_false_iff
def TS:=@Classical.byContradiction
def TT:=@List.drop_of_length_le.{0}
def TU:=@List.eq_of_mem_replicate.{0}
def TV:=@List.filter_append.{0}
def TW:=@List.filter_cons_of_neg.{0}
def TX:=@List.getElem?_reverse.{0}
def TY:=@List.idxOf_cons.{0}
def TZ:=@List.length_erase_of_mem.{0}
def T0:=@List.map_drop.{0,0}
def T1:=@List.mem_erase_of_ne.{0}
def T2:=@List.pairwise_iff_getElem.{0}
def T3:=@List.perm_ext_iff_of_nodup.{0}
def T4:=@List.size_toArray.{0}
def T5:=@Nat.ble_eq_true_of_le
def T6:=@Nat.mul_comm
def T7:=@Option.bind_eq_some_iff.{0,0}
def aai:=@Classical.choose_spec.{0}
def aaj:=@List.Pairwise.imp_of_mem.{0}
def aak:=@List.all_eq_false.{0}
def aal:=@List.any_append.{0}
def aam:=@List.contains_eq_mem.{0}
def aan:=@List.countP_eq_length_filter.{0}
def aao:=@List.countP_singleton.{0}
def aap:=@List.drop_drop.{0}
def aaq:=@List.drop_eq_getElem_cons.{0}
def aar:=@List.drop_left.{0}
def aas:=@List.foldl_nil.{0,0}
def aat:=@List.getElem_idxOf.{0}
def aau:=@List.length_replicate.{0}
def aav:=@List.map_eq_nil_iff.{0,0}
def aaw:=@List.map_reverse.{0,0}
def aax:=@List.mem_filterMap.{0,0}
def aay:=@List.perm_middle.{0}
def aaz:=@List.set_append_right.{0}
def aaA:=@List.set_cons_zero.{0}
def aaB:=@List.take_add.{0}
def aaC:=@List.take_reverse.{0}
def aaD:=@List.take_succ_cons.{0}
def aaE:=@Nat.add_sub_cancel
def aaF:=@Nat.beq_refl
def akk:=@Array.foldl_toList.{0,0}
def akl:=@Array.getElem?_append.{0}
def akm:=@Array.size_append.{0}
def akn:=@Int.tdiv_eq_ediv_of_nonneg
def ako:=@Int.toNat_of_nonneg
def akp:=@List.Pairwise.imp.{0}
def akq:=@List.Pairwise.sublist.{0}
def akr:=@List.drop_append.{0}
def aks:=@List.drop_append_of_le_length.{0}
def akt:=@List.eq_nil_of_length_eq_zero.{0}
def aku:=@List.filterMap_append.{0,0}
def akv:=@List.filter_cons_of_pos.{0}
def akw:=@List.find?_append.{0}
def akx:=@List.findIdx_getElem.{0}
def aky:=@List.idxOf_append.{0}
def akz:=@List.ne_nil_of_mem.{0}
def akA:=@List.range_eq_range'
def akB:=@List.set_eq_of_length_le.{0}
def akC:=@List.set_getElem_self.{0}
def akD:=@List.take_succ_eq_append_getElem.{0}
def akE:=@List.toList_toArray.{0}
def akF:=@Nat.div_add_mod
def akG:=@Nat.le_of_not_lt
def akH:=@Nat.lt_or_gt_of_ne
def akI:=@Nat.mod_eq_sub_mod
def axS:=@List.findIdx_lt_length_of_exists.{0}
inductive PV where
 |bool (b:Bool)
 |int (k:IntKind) (n:Int)
 |str (s:ByteArray)
 |wa|nils|sA|Aa|nili|ifc|zs
 |box (cs:List PV)
 |sl (es:List (List PV))
 |mp (ag:Bool) (es:List (PV×List PV))
 |fn (f:Nat) (first cap:List PV)
 deriving Inhabited
abbrev b_:=List PV
abbrev t_:=List (PV×b_)
abbrev s_:=List b_
inductive C where
 |p (v:PV)
 |aZ (id g off:Nat)
 |dB (id g i off:Nat)
 |hsl (id g sz off len:Nat)
 |kL (id g:Nat)
 |hfn (f:Nat) (first cap:List C)
 deriving Inhabited
abbrev f_:=List C
inductive V where
 |undef
 |one (c:C)
 |agg (cs:f_)
 |tup (vs:List V)
 deriving Inhabited
abbrev e_:=List V
inductive Ob where
 |var (cs:f_)
 |arr (ty sz:Nat) (es:s_)
 |jo (ty sz:Nat) (es:List f_)
 |map (ag:Bool) (es:t_)
 |fvar (cs:b_)
 |pL (ty sz:Nat) (es:s_)
 |fmap (ag:Bool) (es:t_)
 deriving Inhabited
abbrev Env:=Nat->V
abbrev aC:=Nat->Nat×Option Ob
def eh{α:Type}(f:Nat->α)(a:Nat)(x:α):Nat->α:=fun i=>if i=a then x else f i
theorem aP{α:Type}(f:Nat->α)(a b:Nat)(x:α):eh f a x b=if b=a then x else f b:=rfl
inductive aU where
 |t (n:Nat)
 |i (n:Int)
 |b (x:Bool)
 |k (v:V)
abbrev o_:=List aU
inductive wJ where
 |bool|ptr|slc|map|fnc|ifc
 |str (ks:m_)
inductive oF where
 |zZ (x:aU)
 |pick (c a b:aU)
 |alloc (site:Nat) (z:b_)
 |box (site:Nat) (x:aU)
 |build (z:b_) (parts:List (Nat×Nat×aU))
 |Fi (site ty sz:Nat) (parts:o_)
 |load (k:w_) (x:aU)
 |store (n:Nat) (a x:aU)
 |Lj (x:aU)
 |bin (op:BinOp) (x y:aU)
 |eqc (k:wJ) (neg:Bool) (x y:aU)
 |un (op:UnOp) (x:aU)
 |conv (k:IntKind) (x:aU)
 |bstr (x:aU)
 |mkfn (f:Nat) (first cap:o_)
 |mkmap (site:Nat) (ag:Bool)
 |Lc (site ty sz bytes:Nat) (z:b_) (len cap:aU)
 |slice (sz:Nat) (x:aU) (lo hi:Option aU)
 |sslice (x:aU) (lo hi:Option aU)
 |Hm (off:Nat) (x:aU)
 |Ie (sz:Nat) (x i:aU)
 |Jp (len sz:Nat) (x i:aU)
 |fld (off:Nat) (k:w_) (x:aU)
 |aidx (len sz:Nat) (k:w_) (x i:aU)
 |sidx (x i:aU)
 |lookup (kd:Nat) (z:b_) (agg ok:Bool) (x k:aU)
 |mupd (kd:Nat) (ag:Bool) (m k v:aU)
 |bad
 |extract (x:aU) (i:Nat)
 |call (site:Nat) (f:aU) (args:o_)
 |slen (x:aU)
 |K9 (x:aU)
 |mlen (x:aU)
 |append (site ty sz bytes:Nat) (s x:aU)
 |max (x y:aU)
 |min (x y:aU)
 |clear (z:b_) (x:aU)
structure bQ where
 dst:w_
 op:oF
 guard:Option (Nat×Bool)
 anc:Nat
abbrev h_:=List bQ
inductive aN where
 |skip
 |region (draw:Bool) (ops:h_)
 |seq (a b:aN)
 |cond (x:aU) (a b:aN)
 |block (id:Nat) (c:aN)
 |loop (c:aN)
 |exit (id:Nat)
 |ret
 |bad
structure bd where
 ntmps:Nat
 results:List (Nat×Option w_)
 body:aN
def ev (ak:Env):aU->V
 | .t n=>ak n
 | .i n=>.one (.p (.int .i64 n))
 | .b x=>.one (.p (.bool x))
 | .k v=>v
abbrev ff:=Nat×(Nat×Option Ob)
abbrev l_:=List ff
def app:l_->aC->aC
 |[],b=>b
 |(i,o)::r,b=>app r (eh b i o)
def PV.norm:PV->PV
 | .nils=>.sl []
 | .zs=>.sl []
 |v=>v
def toP:C->Option PV
 | .p v=>some v.norm
 |_=>none
def C0:f_->Option b_
 |[]=>some []
 |c::r=>match toP c,C0 r with
  |some v,some vs=>some (v::vs)
  |_,_=>none
def sP:V->Option f_
 | .one c=>some [c]
 | .agg cs=>some cs
 |_=>none
def collect{α β:Type}(f:α->Option (β×a_)):List α->Option (List β×a_)
 |[]=>some ([],[])
 |a::r=>match f a,collect f r with
  |some (b,x),some (bs,y)=>some (b::bs,x++y)
  |_,_=>none
def snap(aj:aC):Nat->C->Option (PV×a_)
 |0,_=>none
 |n+1,c=>match c with
  | .p v=>some (v.norm,[])
  | .aZ id g off=>match aj id with
   |(g',some (.var cs))=>if g'=g then
     match collect (snap aj n) cs with
     |some (ps,r)=>some (.box (ps.drop off),id::r)
     |none=>none
    else none
   |(g',some (.fvar ps))=>if g'=g then some (.box (ps.drop off),[id])else none
   |_=>none
  | .dB id g i off=>match aj id with
   |(g',some (.arr _ _ es))=>if g'=g then(es[i]?).map fun e=>(.box (e.drop off),[id])else none
   |(g',some (.pL _ _ es))=>if g'=g then(es[i]?).map fun e=>(.box (e.drop off),[id])else none
   |_=>none
  | .hsl id g z off len=>match aj id with
   |(g',some (.arr _ _ es))=>if g'=g/\off+len<=es.length then some (.sl ((es.drop off).take len),[id])else none
   |(g',some (.pL _ _ es))=>if g'=g/\off+len<=es.length then some (.sl ((es.drop off).take len),[id])else none
   |(g',some (.jo _ _ es))=>if g'=g/\off+len<=es.length then
     match collect (collect (snap aj n)) ((es.drop off).take len)with
     |some (ps,r)=>some (.sl ps,id::r)
     |none=>none
    else none
   |_=>none
  | .kL id g=>match aj id with
   |(g',some (.map ag es))=>if g'=g then some (.mp ag es,[id])else none
   |(g',some (.fmap ag es))=>if g'=g then some (.mp ag es,[id])else none
   |_=>none
  | .hfn f a b=>match collect (snap aj n) a,collect (snap aj n) b with
   |some (x,r),some (y,s)=>some (.fn f x y,r++s)
   |_,_=>none
def gG:Nat:=6
def oY(aj:aC):V->Option (V×a_)
 | .one c=>(snap aj gG c).map fun(v,r)=>(.one (.p v),r)
 | .agg cs=>(collect (snap aj gG) cs).map fun(vs,r)=>(.agg (vs.map .p),r)
 |_=>none
def xY(aj:aC)(all:a_)(id:Nat):Option l_:=
 match aj id with
 |(g,some (.var cs))=>match collect (snap aj gG) cs with
  |some (ps,r)=>if r.all all.contains then some [(id,(g,some (.fvar ps)))]else none
  |none=>none
 |(g,some (.arr ty sz es))=>some [(id,(g,some (.pL ty sz es)))]
 |(g,some (.jo ty sz es))=>match collect (collect (snap aj gG)) es with
  |some (ps,r)=>if r.all all.contains then some [(id,(g,some (.pL ty sz ps)))]else none
  |none=>none
 |(g,some (.map ag es))=>some [(id,(g,some (.fmap ag es)))]
 |(_,none)=>none
 |_=>some []
def uN(aj:aC)(all:a_):a_->Option l_
 |[]=>some []
 |i::r=>match xY aj all i,uN aj all r with
  |some a,some b=>some (a++b)
  |_,_=>none
def sW(aj:aC)(ids:a_):Option l_:=uN aj ids ids
inductive RC where
 |p (v:PV)
 |own (ty sz:Nat) (es:s_)
 deriving Inhabited
abbrev n_:=List RC
inductive RV where
 |one (c:RC)
 |agg (cs:n_)
 |tup (vs:List RV)
 deriving Inhabited
def RC.pure:RC->RC
 | .p v=>.p v
 | .own _ _ es=>.p (.sl es)
def RV.Gm:RV->RV
 | .one c=>.one c.pure
 | .agg cs=>.agg (cs.map RC.pure)
 | .tup vs=>.tup vs
def RV.pure:RV->RV
 | .tup vs=>.tup (vs.map RV.Gm)
 |v=>v.Gm
def RV.gj(b:Bool)(r:RV):RV:=match b with
 |true=>r.pure
 |false=>r
def PV.scalar:PV->Bool
 | .bool _| .int _ _| .str _| .wa| .nils| .sA| .Aa| .nili| .ifc| .zs=>true
 |_=>false
def RC.alone:RC->Bool
 | .p v=>v.scalar
 | .own _ _ es=>es.all fun e=>e.all PV.scalar
def jW(aj:aC)(c:C):Option (RC×a_×a_):=
 match c with
 | .p v=>some (.p v,[],[])
 | .hsl id g z 0 len=>match aj id with
  |(g',some (.arr ty sz es))=>if g'=g/\len<=es.length then some (.own ty sz (es.take len),[id],[])else none
  |_=>(snap aj gG c).map fun(v,r)=>(.p v,[],r)
 |_=>(snap aj gG c).map fun(v,r)=>(.p v,[],r)
def nC(aj:aC):f_->Option (n_×a_×a_)
 |[]=>some ([],[],[])
 |c::r=>match jW aj c,nC aj r with
  |some (x,o,q),some (xs,os,qs)=>some (x::xs,o++os,q++qs)
  |_,_=>none
def oL:V->Option f_
 | .one c=>some [c]
 | .agg cs=>some cs
 |_=>none
def vE:e_->Option f_
 |[]=>some []
 |v::r=>match oL v,vE r with
  |some a,some b=>some (a++b)
  |_,_=>none
def tW:V->Option f_
 | .tup vs=>vE vs
 |v=>oL v
def tE:V->n_->RV×n_
 | .one _,r::rs=>(.one r,rs)
 | .agg cs,rs=>(.agg (rs.take cs.length),rs.drop cs.length)
 |_,rs=>(.agg [],rs)
def Bw:e_->n_->List RV
 |[],_=>[]
 |v::r,rs=>(tE v rs).1::Bw r (tE v rs).2
def wx:V->n_->RV
 | .tup vs,rs=>.tup (Bw vs rs)
 |v,rs=>(tE v rs).1
def apart:a_->a_->Bool
 |[],_=>true
 |i::r,q=> !r.contains i&& !q.contains i&&apart r q
def jk(aj:aC)(v:V):Option RV:=
 match tW v with
 |some cs=>match nC aj cs with
  |some (x,o,q)=>if apart o q then some (wx v x)else none
  |none=>none
 |none=>none
def dw(aj:aC)(site:Nat):RC->C×l_
 | .p v=>(.p v,[])
 | .own ty sz es=>(.hsl site ((aj site).1+1) sz 0 es.length,[(site,((aj site).1+1,some (.arr ty sz es)))])
def jt(aj:aC)(site:Nat):n_->f_×l_
 |[]=>([],[])
 |c::r=>((dw aj site c).1::(jt aj (site+1) r).1,(dw aj site c).2++(jt aj (site+1) r).2)
def iJ:RV->n_
 | .one c=>[c]
 | .agg cs=>cs
 | .tup _=>[]
def ng:List RV->n_
 |[]=>[]
 |v::r=>iJ v++ng r
def iu:RV->n_
 | .tup vs=>ng vs
 |v=>iJ v
def mS:RV->f_->V×f_
 | .one _,c::cs=>(.one c,cs)
 | .agg rs,cs=>(.agg (cs.take rs.length),cs.drop rs.length)
 |_,cs=>(.undef,cs)
def sH:List RV->f_->e_
 |[],_=>[]
 |v::r,cs=>(mS v cs).1::sH r (mS v cs).2
def rQ:RV->f_->V
 | .tup vs,cs=>.tup (sH vs cs)
 |v,cs=>(mS v cs).1
def RV.alone(r:RV):Bool:=(iu r).all RC.alone
def jO(aj:aC)(site:Nat)(r:RV):V×l_:=(rQ r (jt aj site (iu r)).1,(jt aj site (iu r)).2)
inductive fL where
 |fail
 |done (v:V) (u:l_) (rd:a_)
 |pc (f:Nat) (args:e_) (rd:a_) (site:Nat)
 |sc (f:Nat) (args:e_)
def CV(aj:aC):V->Option (f_×a_)
 | .one (.p (.box cs))=>some (cs.map .p,[])
 | .one (.aZ id g off)=>match aj id with
  |(g',some (.var cs))=>if g'=g then some (cs.drop off,[id])else none
  |(g',some (.fvar cs))=>if g'=g then some ((cs.drop off).map .p,[id])else none
  |_=>none
 | .one (.dB id g i off)=>match aj id with
  |(g',some (.arr _ _ es))=>if g'=g then(es[i]?).map fun e=>((e.drop off).map .p,[id])else none
  |(g',some (.pL _ _ es))=>if g'=g then(es[i]?).map fun e=>((e.drop off).map .p,[id])else none
  |(g',some (.jo _ _ es))=>if g'=g then(es[i]?).map fun e=>(e.drop off,[id])else none
  |_=>none
 |_=>none
def qW(k:w_)(cs:f_):Option V:=
 match k with
 |none=>match cs with
  |c::_=>some (.one c)
  |[]=>none
 |some n=>if n<=cs.length then some (.agg (cs.take n))else none
def fj{α:Type}(cs:List α)(off:Nat)(xs:List α):List α:=cs.take off++xs++cs.drop (off+xs.length)
def BB(aj:aC)(a:V)(n:Nat)(xs:f_):fL:=
 if xs.length≠n then .fail else
 match a with
 | .one (.aZ id g off)=>match aj id with
  |(g',some (.var cs))=>if g'=g/\off+n<=cs.length then .done .undef [(id,(g,some (.var (fj cs off xs))))] [id]else .fail
  |_=>.fail
 | .one (.dB id g i off)=>match aj id with
  |(g',some (.arr ty sz es))=>match es[i]?,C0 xs with
   |some e,some ps=>if g'=g/\off+n<=e.length then .done .undef [(id,(g,some (.arr ty sz (es.set i (fj e off ps)))))] [id]else .fail
   |_,_=>.fail
  |_=>.fail
 |_=>.fail
def fN(aj:aC):V->Option (s_×a_×a_)
 | .one (.p .nils)=>some ([],[],[])
 | .one (.p (.sl es))=>some (es,[],[])
 | .one (.hsl id g z off len)=>match aj id with
  |(g',some (.arr _ _ es))=>if g'=g/\off+len<=es.length then some ((es.drop off).take len,[id],[])else none
  |(g',some (.pL _ _ es))=>if g'=g/\off+len<=es.length then some ((es.drop off).take len,[id],[])else none
  |(g',some (.jo _ _ es))=>if g'=g/\off+len<=es.length then
    match collect (collect (snap aj gG)) ((es.drop off).take len)with
    |some (ps,r)=>some (ps,[id],r)
    |none=>none
   else none
  |_=>if len=0 then some ([],[id],[])else none
 |_=>none
def iG(sz:Nat)(es:s_):Bool:=es.all fun e=>e.length==sz
def nG:V->w_
 | .one (.hsl _ _ z _ _)=>some z
 |_=>none
def room:Nat:=140737488355328
def gE(aj:aC)(site ty sz bytes:Nat)(s x:V):fL:=
 match fN aj x with
 |none=>.fail
 |some (new,rd,fr)=>
  if¬(nG x=some sz\/iG sz new=true)then .fail else
  match sW aj fr with
  |none=>.fail
  |some fu=>
   match s with
   | .one (.p .nils)=>
    if new.length=0 then .done (.one (.p .nils)) fu (rd++fr)else
    if new.length*bytes<=room then
     .done (.one (.hsl site ((aj site).1+1) sz 0 new.length)) (fu++[(site,((aj site).1+1,some (.arr ty sz new)))]) (site::rd++fr)
    else .fail
   | .one (.p .zs)=>
    if new.length=0 then .fail else
    if new.length*bytes<=room then
     .done (.one (.hsl site ((aj site).1+1) sz 0 new.length)) (fu++[(site,((aj site).1+1,some (.arr ty sz new)))]) (site::rd++fr)
    else .fail
   | .one (.hsl id g z 0 len)=>match aj id with
    |(g',some (.arr kB cD es))=>
     if g'=g/\kB=ty/\cD=sz/\len<=es.length/\(len+new.length)*bytes<=room/\fr.contains id=false then
      .done (.one (.hsl site ((aj site).1+1) sz 0 (len+new.length)))
       (fu++[(id,(g,none)),(site,((aj site).1+1,some (.arr ty sz (es.take len++new))))]) (site::id::rd++fr)
     else .fail
    |_=>.fail
   | .one (.hsl id g z off len)=>match aj id with
    |(g',some (.arr kB cD es))=>
     if g'=g/\kB=ty/\cD=sz/\off+len<=es.length/\(len+new.length)*bytes<=room/\fr.contains id=false/\0<len/\0<new.length then
      .done (.one (.p (.sl ((es.drop off).take len++new)))) (fu++[(id,(g,none))]) (id::rd++fr)
     else .fail
    |_=>.fail
   |_=>.fail
def qA:V->w_
 | .one (.p (.int _ n))=>if 0<=n then some n.toNat else none
 |_=>none
def sM(ak:Env)(d:Nat):Option aU->w_
 |none=>some d
 |some a=>qA (ev ak a)
def EE(x:V)(sz lo hi:Nat):fL:=
 if¬lo<=hi then .fail else
 match x with
 | .one (.p .nils)=>if hi=0 then .done (.one (.p .nils)) [] []else .fail
 | .one (.p (.sl es))=>if hi<=es.length/\iG sz es=true then .done (.one (.p (.sl ((es.drop lo).take (hi-lo))))) [] []else .fail
 | .one (.hsl id g z off len)=>if hi<=len/\z=sz then .done (.one (.hsl id g z (off+lo) (hi-lo))) [] []else .fail
 |_=>.fail
def zX:V->w_
 | .one (.p .nils)=>some 0
 | .one (.p (.sl es))=>some es.length
 | .one (.hsl _ _ _ _ len)=>some len
 |_=>none
def Bp(aj:aC):V->Option (Nat×a_)
 | .one (.p .sA)=>some (0,[])
 | .one (.p (.mp _ es))=>some (es.length,[])
 | .one (.kL id g)=>match aj id with
  |(g',some (.map _ es))=>if g'=g then some (es.length,[id])else none
  |(g',some (.fmap _ es))=>if g'=g then some (es.length,[id])else none
  |_=>none
 |_=>none
def mapOf(aj:aC)(ag:Bool):V->Option (t_×a_)
 | .one (.p .sA)=>some ([],[])
 | .one (.p (.mp sL es))=>if sL=ag then some (es,[])else none
 | .one (.kL id g)=>match aj id with
  |(g',some (.map sL es))=>if g'=g/\sL=ag then some (es,[id])else none
  |(g',some (.fmap sL es))=>if g'=g/\sL=ag then some (es,[id])else none
  |_=>none
 |_=>none
def sameKey:PV->PV->Option Bool
 | .int k a,.int k' b=>if k=k' then some (a==b)else none
 | .str a,.str b=>some (a==b)
 | .bool a,.bool b=>some (a==b)
 |_,_=>none
def iW:PV->Nat
 | .int _ _=>0
 | .str _=>1
 | .bool _=>2
 |_=>3
def mapVal:Bool->b_->Option V
 |true,cs=>some (.agg (cs.map .p))
 |false,[c]=>some (.one (.p c))
 |false,_=>none
def qF(k:PV):t_->Nat->Option (Option (Nat×b_))
 |[],_=>some none
 |(a,v)::r,i=>match sameKey k a with
  |some true=>some (some (i,v))
  |some false=>qF k r (i+1)
  |none=>none
def zc:Bool->V->Option f_
 |false,.one c=>some [c]
 |true,.agg cs=>some cs
 |_,_=>none
def uG(op:BinOp)(k:IntKind)(a b:Int):Option PV:=
 match op with
 | .add=>some (.int k (k.wrap (a+b)))
 | .sub=>some (.int k (k.wrap (a-b)))
 | .mul=>some (.int k (k.wrap (a*b)))
 | .quo=>if b=0 then none else some (.int k (k.wrap (a.tdiv b)))
 | .rem=>if b=0 then none else some (.int k (a.tmod b))
 | .eql=>some (.bool (a==b))
 | .neq=>some (.bool (a !=b))
 | .lss=>some (.bool (decide (a<b)))
 | .leq=>some (.bool (decide (a<=b)))
 | .gtr=>some (.bool (decide (b<a)))
 | .geq=>some (.bool (decide (b<=a)))
 | .and=>some (.int k (k.wrap (BitVec.ofInt k.bits a&&& BitVec.ofInt k.bits b).toNat))
 | .shl=>if b<0 then none else some (.int k (k.wrap (a*2 ^ min b.toNat k.bits)))
 | .shr=>if b<0 then none else some (.int k (a.fdiv (2 ^ min b.toNat k.bits)))
 |_=>none
def JB(op:BinOp)(a b:ByteArray):Option PV:=
 match op with
 | .add=>if a.size+b.size<=9223372036854775807 then some (.str (a++b))else none
 | .eql=>some (.bool (a.toList==b.toList))
 | .neq=>some (.bool (!(a.toList==b.toList)))
 |_=>none
def rW(op:BinOp):V->V->Option V
 | .one (.p (.int k a)),.one (.p (.int k' b))=>if k=k'\/op=.shl\/op=.shr then(uG op k a b).map fun v=>.one (.p v)else none
 | .one (.p (.str a)),.one (.p (.str b))=>(JB op a b).map fun v=>.one (.p v)
 |_,_=>none
def vC:Bool->PV->PV->Option Bool
 |true,.int k a,.int k' b=>if k=k' then some (a==b)else none
 |false,.bool a,.bool b=>some (a==b)
 |_,_,_=>none
def wU:m_->f_->f_->Option Bool
 |[],[],[]=>some true
 |k::ks,.p a::r,.p b::s=>match vC k a b with
  |some true=>wU ks r s
  |some false=>some false
  |none=>none
 |_,_,_=>none
def Ii:wJ->V->Option Bool
 | .ptr,.one (.p .wa)=>some true
 | .ptr,.one (.p (.box _))=>some false
 | .ptr,.one (.aZ _ _ _)=>some false
 | .ptr,.one (.dB _ _ _ _)=>some false
 | .slc,.one (.p .nils)=>some true
 | .slc,.one (.p (.sl (_::_)))=>some false
 | .slc,.one (.hsl _ _ _ _ _)=>some false
 | .map,.one (.p .sA)=>some true
 | .map,.one (.p (.mp _ _))=>some false
 | .map,.one (.kL _ _)=>some false
 | .fnc,.one (.p .Aa)=>some true
 | .fnc,.one (.p (.fn _ _ _))=>some false
 | .fnc,.one (.hfn _ _ _)=>some false
 | .ifc,.one (.p .nili)=>some true
 | .ifc,.one (.p .ifc)=>some false
 |_,_=>none
def DO:wJ->V->V->Option Bool
 | .bool,.one (.p (.bool a)),.one (.p (.bool b))=>some (a==b)
 | .str ks,.agg a,.agg b=>wU ks a b
 | .bool,_,_=>none
 | .str _,_,_=>none
 |k,a,b=>if Ii k b=some true then Ii k a else if Ii k a=some true then Ii k b else none
def fill(cs:f_):List (Nat×f_)->f_
 |[]=>cs
 |(off,xs)::r=>fill (fj cs off xs) r
def Ab(ak:Env):List (Nat×Nat×aU)->Option (List (Nat×f_))
 |[]=>some []
 |(off,n,a)::r=>match sP (ev ak a),Ab ak r with
  |some cs,some q=>if cs.length=n then some ((off,cs)::q)else none
  |_,_=>none
def A0(ak:Env)(sz:Nat):o_->Option (List f_)
 |[]=>some []
 |a::r=>match sP (ev ak a),A0 ak sz r with
  |some cs,some q=>if cs.length=sz then some (cs::q)else none
  |_,_=>none
def Da:List f_->Option s_
 |[]=>some []
 |c::r=>match C0 c,Da r with
  |some v,some vs=>some (v::vs)
  |_,_=>none
def Fz(ak:Env)(a:aU):Option (Nat×f_×f_):=
 match ev ak a with
 | .one (.p (.fn f x y))=>some (f,x.map .p,y.map .p)
 | .one (.hfn f x y)=>some (f,x,y)
 |_=>none
def CZ(aj:aC):e_->Option (e_×a_):=collect (oY aj)
def bytesOf:s_->Option p_
 |[]=>some []
 |[.int .u8 n]::r=>(bytesOf r).map (UInt8.ofNat n.toNat:: ·)
 |_::_=>none
def xz(ak:Env):o_->Option f_
 |[]=>some []
 |a::r=>match ev ak a,xz ak r with
  | .one c,some q=>some (c::q)
  |_,_=>none
def bN(shared:Nat->Bool)(ak:Env)(aj:aC):oF->fL
 | .zZ x=>.done (ev ak x) [] []
 | .pick c a b=>match ev ak c with
  | .one (.p (.bool t))=>.done (if t then ev ak a else ev ak b) [] []
  |_=>.fail
 | .alloc s z=>.done (.one (.aZ s ((aj s).1+1) 0)) [(s,((aj s).1+1,some (.var (z.map .p))))] [s]
 | .box s x=>match sP (ev ak x)with
  |some cs=>.done (.one (.aZ s ((aj s).1+1) 0)) [(s,((aj s).1+1,some (.var cs)))] [s]
  |none=>.fail
 | .build z ps=>match Ab ak ps with
  |some q=>.done (.agg (fill (z.map .p) q)) [] []
  |none=>.fail
 | .Fi s ty sz ps=>match A0 ak sz ps with
  |some es=>match Da es with
   |some qs=>.done (.one (.hsl s ((aj s).1+1) sz 0 es.length)) [(s,((aj s).1+1,some (.arr ty sz qs)))] [s]
   |none=>.done (.one (.hsl s ((aj s).1+1) sz 0 es.length)) [(s,((aj s).1+1,some (.jo ty sz es)))] [s]
  |none=>.fail
 | .load k x=>match CV aj (ev ak x)with
  |some (cs,r)=>match qW k cs with
   |some v=>.done v [] r
   |none=>.fail
  |none=>.fail
 | .store n a x=>match sP (ev ak x)with
  |some xs=>BB aj (ev ak a) n xs
  |none=>.fail
 | .Lj x=>match ev ak x with
  | .one (.aZ id g o)=>.done (.one (.aZ id g o)) [] []
  | .one (.dB id g i o)=>.done (.one (.dB id g i o)) [] []
  | .one (.p (.box cs))=>.done (.one (.p (.box cs))) [] []
  | .one (.hfn f a b)=>.done (.one (.hfn f a b)) [] []
  | .one (.p (.fn f a b))=>.done (.one (.p (.fn f a b))) [] []
  |_=>.fail
 | .bin op x y=>match rW op (ev ak x) (ev ak y)with
  |some v=>.done v [] []
  |none=>.fail
 | .eqc k neg x y=>match DO k (ev ak x) (ev ak y)with
  |some b=>.done (.one (.p (.bool (if neg then !b else b)))) [] []
  |none=>.fail
 | .un op x=>match op,ev ak x with
  | .not,.one (.p (.bool b))=>.done (.one (.p (.bool (!b)))) [] []
  | .neg,.one (.p (.int k n))=>.done (.one (.p (.int k (k.wrap (0-n))))) [] []
  |_,_=>.fail
 | .conv k x=>match ev ak x with
  | .one (.p (.int _ n))=>.done (.one (.p (.int k (k.wrap n)))) [] []
  |_=>.fail
 | .bstr x=>match fN aj (ev ak x)with
  |some (es,r,[])=>match bytesOf es with
   |some bs=>.done (.one (.p (.str ⟨bs.toArray⟩))) [] r
   |none=>.fail
  |_=>.fail
 | .mkfn f a b=>match xz ak a,xz ak b with
  |some x,some y=>.done (.one (.hfn f x y)) [] []
  |_,_=>.fail
 | .mkmap s ag=>.done (.one (.kL s ((aj s).1+1))) [(s,((aj s).1+1,some (.map ag [])))] [s]
 | .Lc s ty sz bytes z l c=>match qA (ev ak l),qA (ev ak c)with
  |some n,some m=>if n=m/\n*bytes<=room then
    .done (.one (.hsl s ((aj s).1+1) sz 0 n)) [(s,((aj s).1+1,some (.arr ty sz (List.replicate n z))))] [s]
   else .fail
  |_,_=>.fail
 | .slice sz x lo hi=>match zX (ev ak x)with
  |some n=>match sM ak 0 lo,sM ak n hi with
   |some l,some h=>EE (ev ak x) sz l h
   |_,_=>.fail
  |none=>.fail
 | .sslice x lo hi=>match ev ak x with
  | .one (.p (.str s))=>match sM ak 0 lo,sM ak s.size hi with
   |some l,some h=>if l<=h/\h<=s.size then .done (.one (.p (.str (s.extract l h)))) [] []else .fail
   |_,_=>.fail
  |_=>.fail
 | .Hm off x=>match ev ak x with
  | .one (.aZ id g o)=>.done (.one (.aZ id g (o+off))) [] []
  | .one (.dB id g i o)=>.done (.one (.dB id g i (o+off))) [] []
  | .one (.p (.box cs))=>.done (.one (.p (.box (cs.drop off)))) [] []
  |_=>.fail
 | .Ie sz x i=>match qA (ev ak i),ev ak x with
  |some n,.one (.p (.sl es))=>match es[n]? with
   |some e=>if e.length=sz then .done (.one (.p (.box e))) [] []else .fail
   |none=>.fail
  |some n,.one (.hsl id g z off len)=>if n<len/\z=sz then .done (.one (.dB id g (off+n) 0)) [] []else .fail
  |_,_=>.fail
 | .Jp len sz x i=>match qA (ev ak i),ev ak x with
  |some n,.one (.aZ id g o)=>if n<len then .done (.one (.aZ id g (o+n*sz))) [] []else .fail
  |some n,.one (.dB id g j o)=>if n<len then .done (.one (.dB id g j (o+n*sz))) [] []else .fail
  |some n,.one (.p (.box cs))=>if n<len then .done (.one (.p (.box (cs.drop (n*sz))))) [] []else .fail
  |_,_=>.fail
 | .fld off k x=>match ev ak x with
  | .agg cs=>match qW k (cs.drop off)with
   |some v=>.done v [] []
   |none=>.fail
  |_=>.fail
 | .aidx len sz k x i=>match qA (ev ak i),ev ak x with
  |some n,.agg cs=>if n<len then
    match qW k (cs.drop (n*sz))with
    |some v=>.done v [] []
    |none=>.fail
   else .fail
  |_,_=>.fail
 | .sidx x i=>match qA (ev ak i),ev ak x with
  |some n,.one (.p (.str s))=>match s[n]? with
   |some b=>.done (.one (.p (.int .u8 b.toNat))) [] []
   |none=>.fail
  |_,_=>.fail
 | .lookup kd z agg ok x k=>match mapOf aj agg (ev ak x),ev ak k with
  |some (es,r),.one (.p q)=>if iW q≠kd then .fail else match qF q es 0 with
   |some f=>match mapVal agg ((f.map (·.2)).getD z)with
    |some w=>.done (if ok then .tup [w,.one (.p (.bool f.isSome))]else w) [] r
    |none=>.fail
   |none=>.fail
  |_,_=>.fail
 | .bad=>.fail
 | .mupd kd ag m k v=>match ev ak m,ev ak k,zc ag (ev ak v)with
  | .one (.kL id g),.one (.p q),some cs=>match aj id,C0 cs with
   |(g',some (.map sL es)),some ps=>if g'=g/\sL=ag/\iW q=kd then
     match qF q es 0 with
     |some (some (i,_))=>.done .undef [(id,(g,some (.map ag (es.set i (q,ps)))))] [id]
     |some none=>.done .undef [(id,(g,some (.map ag (es++[(q,ps)]))))] [id]
     |none=>.fail
    else .fail
   |_,_=>.fail
  |_,_,_=>.fail
 | .extract x i=>match ev ak x with
  | .tup vs=>match vs[i]? with
   |some v=>.done v [] []
   |none=>.fail
  |_=>.fail
 | .call s f as=>match Fz ak f with
  |some (g,a,b)=>
   if shared g then .sc g (a.map .one++as.map (ev ak)++b.map .one)
   else match CZ aj (a.map .one++as.map (ev ak)++b.map .one)with
    |some (vs,r)=>.pc g vs r s
    |none=>.fail
  |none=>.fail
 | .slen x=>match ev ak x with
  | .one (.p (.str s))=>.done (.one (.p (.int .i64 s.size))) [] []
  |_=>.fail
 | .K9 x=>match zX (ev ak x)with
  |some n=>.done (.one (.p (.int .i64 n))) [] []
  |none=>.fail
 | .mlen x=>match Bp aj (ev ak x)with
  |some (n,r)=>.done (.one (.p (.int .i64 n))) [] r
  |none=>.fail
 | .append s ty sz bytes d x=>gE aj s ty sz bytes (ev ak d) (ev ak x)
 | .max x y=>match ev ak x,ev ak y with
  | .one (.p (.int k a)),.one (.p (.int _ b))=>.done (.one (.p (.int k (if b>a then b else a)))) [] []
  |_,_=>.fail
 | .min x y=>match ev ak x,ev ak y with
  | .one (.p (.int k a)),.one (.p (.int _ b))=>.done (.one (.p (.int k (if b<a then b else a)))) [] []
  |_,_=>.fail
 | .clear z x=>match ev ak x with
  | .one (.p .nils)=>.done (.tup []) [] []
  | .one (.p (.sl []))=>.done (.tup []) [] []
  | .one (.hsl id g _ off len)=>if len=0 then .done (.tup []) [] []else match aj id with
   |(g',some (.arr ty sz es))=>if g'=g/\sz=z.length/\off+len<=es.length then .done (.tup []) [(id,(g,some (.arr ty sz (fj es off (List.replicate len z)))))] [id]else .fail
   |_=>.fail
  |_=>.fail
structure cK where
 rd:a_
 wr:a_
 fs:a_
abbrev i_:=List cK
structure Al where
 any:Bool
 ids:a_
 fs:a_
def Al.all:Al:=⟨true,[],[]⟩
def jw(id:Nat):Nat:=id/64000000
def Al.ok(a:Al)(id:Nat):Bool:=a.any||a.ids.contains id||a.fs.contains (jw id)
def Al.fQ(a:Al)(l:a_):Bool:=l.all a.ok
def Al.holds(a b:Al):Bool:=a.any||(a.fQ b.ids&&b.fs.all a.fs.contains)
structure Ctx where
 shared:Nat->Bool
 sites:Nat->a_
 lone:Nat->Bool
 al:Al
def kr(aj:aC):Nat->C->a_
 |0,_=>[]
 |n+1,c=>match c with
  | .p _=>[]
  | .aZ id _ _=>id::match aj id with
   |(_,some (.var cs))=>(cs.map (kr aj n)).flatten
   |_=>[]
  | .dB id _ _ _=>id::match aj id with
   |(_,some (.jo _ _ es))=>(es.flatten.map (kr aj n)).flatten
   |_=>[]
  | .hsl id _ _ _ _=>id::match aj id with
   |(_,some (.jo _ _ es))=>(es.flatten.map (kr aj n)).flatten
   |_=>[]
  | .kL id _=>[id]
  | .hfn _ a b=>(a.map (kr aj n)).flatten++(b.map (kr aj n)).flatten
def jF(aj:aC):V->a_
 | .one c=>kr aj gG c
 | .agg cs=>(cs.map (kr aj gG)).flatten
 |_=>[]
def allow(sh:Ctx)(f:Nat)(vs:e_)(aj:aC):Al:=⟨false,(vs.map (jF aj)).flatten,sh.sites f⟩
def put(ak:Env)(d:w_)(v:V):Env:=
 match d with
 |some t=>eh ak t v
 |none=>ak
abbrev gC:=Nat->e_->Option RV
abbrev jZ:=Nat->e_->Al->aC->Option (V×aC)
def land(aj:aC)(rd:a_)(site:Nat)(r:RV):Option (V×l_):=
 if rd=[]\/r.alone then some (jO aj site r)
 else match sW aj rd with
  |some u=>some ((jO aj site r).1,u++(jO aj site r).2)
  |none=>none
def wanted(ak:Env):Option (Nat×Bool)->Option Bool
 |none=>some true
 |some (t,want)=>match ak t with
  | .one (.p (.bool b))=>some (b==want)
  | .undef=>some false
  |_=>none
def step1(sh:Ctx)(cp:gC)(cs:jZ)(o:bQ)(ak:Env)(aj:aC):Option (Env×aC×cK):=
 match wanted ak o.guard with
 |none=>none
 |some false=>some (put ak o.dst .undef,aj,⟨[],[],[]⟩)
 |some true=>match bN sh.shared ak aj o.op with
  | .fail=>none
  | .done v u r=>if sh.al.fQ (r++u.map (·.1))then some (put ak o.dst v,app u aj,⟨r,u.map (·.1),[]⟩)else none
  | .pc f vs r s=>match cp f vs with
   |some x=>match land aj r s (x.gj (sh.lone s))with
    |some (v,u)=>if sh.al.fQ (r++u.map (·.1))then some (put ak o.dst v,app u aj,⟨r++u.map (·.1),u.map (·.1),[]⟩)else none
    |none=>none
   |none=>none
  | .sc f vs=>if sh.al.holds (allow sh f vs aj)then
    match cs f vs (allow sh f vs aj) aj with
    |some (v,ao)=>some (put ak o.dst v,ao,⟨(allow sh f vs aj).ids,(allow sh f vs aj).ids,(allow sh f vs aj).fs⟩)
    |none=>none
   else none
def steps(sh:Ctx)(cp:gC)(cs:jZ):h_->Env->aC->Option (Env×aC×i_)
 |[],ak,aj=>some (ak,aj,[])
 |o::r,ak,aj=>match step1 sh cp cs o ak aj with
  |some (aF,ao,e)=>match steps sh cp cs r aF ao with
   |some (Na,JC,es)=>some (Na,JC,e::es)
   |none=>none
  |none=>none
def meets(a b:a_):Bool:=a.any fun i=>b.contains i
def Ih(fs ids:a_):Bool:=ids.any fun i=>fs.contains (jw i)
def Ha(a b:cK):Bool:=meets a.wr b.rd||meets a.wr b.wr||meets a.rd b.wr||meets a.fs b.fs||Ih a.fs (b.rd++b.wr)||Ih b.fs (a.rd++a.wr)
def SI(anc:Nat)(e:cK):Nat->i_->Bool
 |_,[]=>true
 |j,x::r=>(anc.testBit j|| !Ha x e)&&SI anc e (j+1) r
def um:h_->i_->i_->Bool
 |o::os,past,e::es=>SI o.anc e 0 past&&um os (past++[e]) es
 |_,_,_=>true
inductive mD where
 |normal
 |exit (id:Nat)
 |ret
def iter(f:Env->aC->Option (mD×Env×aC)):Nat->Env->aC->Option (mD×Env×aC)
 |0,_,_=>none
 |n+1,ak,aj=>match f ak aj with
  |some (.normal,aF,ao)=>iter f n aF ao
  |r=>r
def exec(sh:Ctx)(cp:gC)(cs:jZ)(n:Nat):aN->Env->aC->Option (mD×Env×aC)
 | .skip,ak,aj=>some (.normal,ak,aj)
 | .region d ops,ak,aj=>match steps sh cp cs ops ak aj with
  |some (aF,ao,es)=>if d then(if um ops [] es then some (.normal,aF,ao)else none)else some (.normal,aF,ao)
  |none=>none
 | .seq a b,ak,aj=>match exec sh cp cs n a ak aj with
  |some (.normal,aF,ao)=>exec sh cp cs n b aF ao
  |r=>r
 | .cond x a b,ak,aj=>match ev ak x with
  | .one (.p (.bool t))=>if t then exec sh cp cs n a ak aj else exec sh cp cs n b ak aj
  |_=>none
 | .block id c,ak,aj=>match exec sh cp cs n c ak aj with
  |some (.exit i,aF,ao)=>if i=id then some (.normal,aF,ao)else some (.exit i,aF,ao)
  |r=>r
 | .loop c,ak,aj=>iter (exec sh cp cs n c) n ak aj
 | .exit id,ak,aj=>some (.exit id,ak,aj)
 | .ret,ak,aj=>some (.ret,ak,aj)
 | .bad,_,_=>none
def tv(args:e_):Env:=fun i=>args.getD i .undef
def SG:V->Option V
 | .tup _=>none
 |v=>some v
def qm(al:Al)(ak:Env)(aj:aC):List (Nat×Option w_)->Option e_
 |[]=>some []
 |(t,none)::r=>match SG (ak t),qm al ak aj r with
  |some v,some q=>some (v::q)
  |_,_=>none
 |(t,some k)::r=>match CV aj (ak t),qm al ak aj r with
  |some (cs,rd),some q=>if al.fQ rd then(qW k cs).map (· ::q)else none
  |_,_=>none
def BA:e_->V
 |[v]=>v
 |vs=>.tup vs
def xx:aC:=fun _=>(0,none)
def sI(sh:Ctx)(cp:gC)(cs:jZ)(n:Nat)(fn:bd)(args:e_)(aj:aC):Option (V×aC):=
 match exec sh cp cs n fn.body (tv args) aj with
 |some (.normal,ak,ao)=>(qm sh.al ak ao fn.results).map fun vs=>(BA vs,ao)
 |some (.ret,ak,ao)=>(qm sh.al ak ao fn.results).map fun vs=>(BA vs,ao)
 |_=>none
def Gq(sh:Ctx)(cp:gC)(cs:jZ)(n:Nat)(fn:bd)(args:e_):Option RV:=
 match sI sh cp cs n fn args xx with
 |some (v,aj)=>jk aj v
 |none=>none
structure Sys where
 P:Program
 shared:Nat->Bool
 sites:Nat->a_
 lone:Nat->Bool
 fns:Nat->Option bd
 prim:Nat->e_->Option (Option RV)
 trig:Nat->e_->Bool:=fun _ _=>false
 primS:Nat->e_->Al->aC->Option (V×l_):=fun _ _ _ _=>none
def Sys.ctx(S:Sys)(a:Al):Ctx:=⟨S.shared,S.sites,S.lone,a⟩
mutual
def hU(S:Sys):Nat->gC
 |0,_,_=>none
 |n+1,f,args=>match S.prim f args with
  |some r=>r
  |none=>match S.fns f with
   |some fn=>if args.length<=fn.ntmps then Gq (S.ctx .all) (hU S n) (ia S n) n fn args else none
   |none=>none
def ia(S:Sys):Nat->jZ
 |0,_,_,_,_=>none
 |n+1,f,args,al,aj=>if S.trig f args=true then(S.primS f args al aj).map (fun r=>(r.1,app r.2 aj))else match S.fns f with
  |some fn=>if args.length<=fn.ntmps then sI (S.ctx al) (hU S n) (ia S n) n fn args aj else none
  |none=>none
end
def aK(S:Sys)(f:Nat)(args:e_)(r:RV):Prop:= ∃n,hU S n f args=some r
def jg(S:Sys)(f:Nat)(args:e_)(al:Al)(aj:aC)(v:V)(ao:aC):Prop:= ∃n,ia S n f args al aj=some (v,ao)
abbrev dX:=mD->Env->aC->Prop
def W (S:Sys)(al:Al)(c:aN)(Q:dX)(ak:Env)(aj:aC):Prop:=∃n e aF ao,exec (S.ctx al) (hU S n) (ia S n) n c ak aj=some (e,aF,ao)/\Q e aF ao
def WO (S:Sys)(al:Al)(ops:h_)(Q:Env->aC->i_->Prop)(ak:Env)(aj:aC)(tr:i_):Prop:=∃n aF ao es,steps (S.ctx al) (hU S n) (ia S n) ops ak aj=some (aF,ao,es)/\Q aF ao (tr++es)
end Go.Abs
namespace Go.Abs
section
variable{m:Nat}
def PLe(a b:gC):Prop:=∀f x r,a f x=some r->b f x=some r
def SLe(a b:jZ):Prop:=∀f x l k r,a f x l k=some r->b f x l k=some r
section
variable {sh:Ctx} {cp mH:gC} {cs Fq:jZ} (hp:PLe cp mH) (hs:SLe cs Fq)
include hp hs
theorem ajy{o:bQ}{ak:Env}{aj:aC}{r:Env×aC×cK}(h:step1 sh cp cs o ak aj=some r):step1 sh mH Fq o ak aj=some r:=by
 unfold step1 at h |-;cases hw:wanted ak o.guard with
 |none=>simp[hw]at h
 |some b=>
  cases b with
  |false=>simpa [hw]using h
  |true=>
   simp only[hw]at h |-;cases bU:bN sh.shared ak aj o.op with
   |fail=>simp[bU]at h
   |done v u rd=>simpa [bU]using h
   |pc f vs rd s=>
    simp only[bU]at h |-;cases hc:cp f vs with
    |none=>simp[hc]at h
    |some x=>rw[hp _ _ _ hc];simpa [hc]using h
   |sc f vs=>
    simp only[bU]at h |-;split at h
    .rename_i ha;rw[aD ha];cases hc:cs f vs (allow sh f vs aj) aj with
     |none=>simp[hc]at h
     |some x=>rw[hs _ _ _ _ _ hc];simpa [hc]using h
    cases h
theorem ajC:∀ {ops:h_}{ak:Env}{aj:aC}{r:Env×aC×i_},steps sh cp cs ops ak aj=some r->steps sh mH Fq ops ak aj=some r:=by
 intro ops
 induction ops with
 |nil=>intro ak aj r h;simpa [steps]using h
 |cons o os ih=>
  intro ak aj r h;simp only[steps]at h |-;cases h1:step1 sh cp cs o ak aj with
  |none=>simp[h1]at h
  |some x=>
   obtain⟨e1,b1,f1⟩:=x;rw[ajy hp hs h1];simp only[h1]at h |-;cases h2:steps sh cp cs os e1 b1 with
   |none=>simp[h2]at h
   |some y=>rw[ih h2];simpa [h2]using h
omit hp hs in
theorem afV{f g:Env->aC->Option (mD×Env×aC)}(HJ:∀e b r,f e b=some r->g e b=some r):
  ∀ {n m:Nat}{ak:Env}{aj:aC}{r:mD×Env×aC},n<=m->iter f n ak aj=some r->iter g m ak aj=some r:=by
 intro n
 induction n with
 |zero=>intro m ak aj r _ h;simp[iter]at h
 |succ n ih=>
  intro m ak aj r hm h;obtain⟨m,rfl⟩:∃k,m=k+1:=⟨m-1,aa⟩;simp only[iter]at h |-;cases hf:f ak aj with
  |none=>simp[hf]at h
  |some x=>
   obtain⟨e,e1,b1⟩:=x;rw[HJ _ _ _ hf];cases e with
   |normal=>simp only[hf]at h |-;exact ih aa h
   |exit i=>simpa [hf]using h
   |ret=>simpa [hf]using h
theorem ac2{n:Nat}(Oo:n<=m):∀ {c:aN}{ak:Env}{aj:aC}{r:mD×Env×aC},exec sh cp cs n c ak aj=some r->exec sh mH Fq m c ak aj=some r:=by
 intro c
 induction c with
 |skip=>intro ak aj r h;simpa [exec]using h
 |region d ops=>
  intro ak aj r h;simp only[exec]at h |-;cases h1:steps sh cp cs ops ak aj with
  |none=>simp[h1]at h
  |some x=>rw[ajC hp hs h1];simpa [h1]using h
 |seq a b iha ihb=>
  intro ak aj r h;simp only[exec]at h |-;cases h1:exec sh cp cs n a ak aj with
  |none=>simp[h1]at h
  |some x=>
   obtain⟨e,e1,b1⟩:=x;rw[iha h1];cases e with
   |normal=>simp only[h1]at h |-;exact ihb h
   |exit i=>simpa [h1]using h
   |ret=>simpa [h1]using h
 |cond x a b iha ihb=>
  intro ak aj r h;simp only[exec]at h |-;split at h
  .split at h
   .rename_i ht;simp only[ht,if_true];exact iha h
   rename_i ht;simp only[ht];exact ihb h
  cases h
 |block id c ih=>
  intro ak aj r h;simp only[exec]at h |-;cases h1:exec sh cp cs n c ak aj with
  |none=>simp[h1]at h
  |some x=>rw[ih h1];simpa [h1]using h
 |loop c ih=>intro ak aj r h;simp only[exec]at h |-;exact afV (fun _ _ _ h=>ih h) Oo h
 |exit id=>intro ak aj r h;simpa [exec]using h
 |ret=>intro ak aj r h;simpa [exec]using h
 |bad=>intro ak aj r h;simp[exec]at h
theorem Te{n:Nat}(Oo:n<=m){fn:bd}{args:e_}{aj:aC}{r:V×aC}(h:sI sh cp cs n fn args aj=some r):sI sh mH Fq m fn args aj=some r:=by
 unfold sI at h |-;cases h1:exec sh cp cs n fn.body (tv args) aj with
 |none=>simp[h1]at h
 |some x=>rw[ac2 hp hs Oo h1];simpa [h1]using h
theorem aiQ{n:Nat}(Oo:n<=m){fn:bd}{args:e_}{r:RV}(h:Gq sh cp cs n fn args=some r):Gq sh mH Fq m fn args=some r:=by
 unfold Gq at h |-;cases h1:sI sh cp cs n fn args xx with
 |none=>simp[h1]at h
 |some x=>rw[Te hp hs Oo h1];simpa [h1]using h
end
theorem abG(S:Sys):∀n,PLe (hU S n) (hU S (n+1))/\SLe (ia S n) (ia S (n+1)):=by
 intro n
 induction n with
 |zero=>exact⟨fun f x r h=>by simp[hU]at h,fun f x l k r h=>by simp[ia]at h⟩
 |succ n ih=>
  refine⟨fun f x r h=>?_,fun f x l k r h=>?_⟩
  .rw[hU]at h |-;cases hp:S.prim f x with
   |some r'=>simpa [hp]using h
   |none=>
    simp only[hp]at h |-;cases hf:S.fns f with
    |none=>simp[hf]at h
    |some fn=>
     simp only[hf]at h |-;split at h
     .rename_i hl;rw[aD hl];exact aiQ ih.1 ih.2 aa h
     cases h
  rw[ia]at h |-;by_cases ht:S.trig f x=true
  .rw[aD ht]at h |-;exact h
  rw[au ht]at h |-;cases hf:S.fns f with
  |none=>simp[hf]at h
  |some fn=>
   simp only[hf]at h |-;split at h
   .rename_i hl;rw[aD hl];exact Te ih.1 ih.2 aa h
   cases h
theorem Fj(S:Sys){n:Nat}(h:n<=m):PLe (hU S n) (hU S m):=by
 induction h with
 |refl=>exact fun _ _ _ h=>h
 |step _ ih=>exact fun f x r hr=>(abG S _).1 f x r (ih f x r hr)
theorem MH(S:Sys){n:Nat}(h:n<=m):SLe (ia S n) (ia S m):=by
 induction h with
 |refl=>exact fun _ _ _ _ _ h=>h
 |step _ ih=>exact fun f x l k r hr=>(abG S _).2 f x l k r (ih f x l k r hr)
theorem aK.AX{S:Sys}{f:Nat}{args:e_}{r r':RV}(h:aK S f args r)(h':aK S f args r'):r=r':=by obtain⟨n,hn⟩:=h;obtain⟨m,hm⟩:=h';have a:=Fj S (GJ n m) _ _ _ hn;have b:=Fj S (Jg n m) _ _ _ hm;rw[a]at b;exact pz b
theorem A1(S:Sys){al:Al}{n:Nat}(h:n<=m){c:aN}{ak:Env}{aj:aC}{r:mD×Env×aC}(hr:exec (S.ctx al) (hU S n) (ia S n) n c ak aj=some r):
  exec (S.ctx al) (hU S m) (ia S m) m c ak aj=some r:=ac2 (Fj S h) (MH S h) h hr
theorem awH(S:Sys){al:Al}{n:Nat}(h:n<=m){ops:h_}{ak:Env}{aj:aC}{r:Env×aC×i_}(hr:steps (S.ctx al) (hU S n) (ia S n) ops ak aj=some r):
  steps (S.ctx al) (hU S m) (ia S m) ops ak aj=some r:=ajC (Fj S h) (MH S h) hr
variable {S:Sys} {al:Al} {Q:dX} {ak:Env} {aj:aC}
theorem W.mono{c:aN}{Q':dX}(h:W S al c Q ak aj)(hq:∀e ak aj,Q e ak aj->Q' e ak aj):W S al c Q' ak aj:=by obtain⟨n,e,aF,ao,h1,h2⟩:=h;exact⟨n,e,aF,ao,h1,hq _ _ _ h2⟩
theorem ak9(h:Q .normal ak aj):W S al .skip Q ak aj:=⟨0,_,_,_,rfl,h⟩
theorem ak2{id:Nat}(h:Q (.exit id) ak aj):W S al (.exit id) Q ak aj:=⟨0,_,_,_,rfl,h⟩
theorem ak5(h:Q .ret ak aj):W S al .ret Q ak aj:=⟨0,_,_,_,rfl,h⟩
def LU(next:Env->aC->Prop)(Q:dX):dX
 | .normal,ak,aj=>next ak aj
 |e,ak,aj=>Q e ak aj
theorem ak6{a b:aN}(h:W S al a (LU (W S al b Q) Q) ak aj):W S al (.seq a b) Q ak aj:=by
 obtain⟨n,e,aF,ao,h1,h2⟩:=h;cases e with
 |normal=>obtain⟨m,e,dy,bn,h3,h4⟩:=h2;refine⟨max n m,e,dy,bn,?_,h4⟩;simp only[exec];rw[A1 S (GJ n m) h1];exact A1 S (Jg n m) h3
 |exit i=>exact⟨n,_,_,_,by simp[exec,h1],h2⟩
 |ret=>exact⟨n,_,_,_,by simp[exec,h1],h2⟩
theorem akZ{x:aU}{a b:aN}{t:Bool}(hx:ev ak x=.one (.p (.bool t)))(h:if t=true then W S al a Q ak aj else W S al b Q ak aj):W S al (.cond x a b) Q ak aj:=by
 cases t with
 |true=>obtain⟨n,e,aF,ao,h1,h2⟩:=h;exact⟨n,e,aF,ao,by simp[exec,hx,h1],h2⟩
 |false=>obtain⟨n,e,aF,ao,h1,h2⟩:=(by simpa using h:W S al b Q ak aj);exact⟨n,e,aF,ao,by simp[exec,hx,h1],h2⟩
def mY(id:Nat)(Q:dX):dX
 | .exit i,ak,aj=>if i=id then Q .normal ak aj else Q (.exit i) ak aj
 |e,ak,aj=>Q e ak aj
theorem akY{id:Nat}{c:aN}(h:W S al c (mY id Q) ak aj):W S al (.block id c) Q ak aj:=by
 obtain⟨n,e,aF,ao,h1,h2⟩:=h;cases e with
 |normal=>exact⟨n,_,_,_,by simp[exec,h1],h2⟩
 |ret=>exact⟨n,_,_,_,by simp[exec,h1],h2⟩
 |exit i=>
  simp only[mY]at h2;by_cases hi:i=id
  .simp only[hi,if_true]at h2;exact⟨n,_,_,_,by simp[exec,h1,hi],h2⟩
  simp only[hi,if_false]at h2;exact⟨n,_,_,_,by simp[exec,h1,hi],h2⟩
theorem Sq(S:Sys){c:aN}{n k l:Nat}(h:n<=m)(hk:k<=l){r:mD×Env×aC}(hr:iter (exec (S.ctx al) (hU S n) (ia S n) n c) k ak aj=some r):
  iter (exec (S.ctx al) (hU S m) (ia S m) m c) l ak aj=some r:=afV (fun _ _ _ h'=>A1 S h h') hk hr
theorem ak3{c:aN}(I:Nat->Env->aC->Prop)(k0 N:Nat)(hk:k0<=N)(h0:I k0 ak aj)
  (round:∀k ak aj,k<=N->I k ak aj->W S al c (LU (fun aF ao=>k<N/\I (k+1) aF ao) Q) ak aj):W S al (.loop c) Q ak aj:=by
 have key:∀j k ak aj,k+j=N->I k ak aj->∃n l e aF ao,iter (exec (S.ctx al) (hU S n) (ia S n) n c) l ak aj=some (e,aF,ao)/\Q e aF ao:=by
  intro j
  induction j with
  |zero=>
   intro k ak aj HP hI;obtain⟨n,e,iT,cF,h1,h2⟩:=round k ak aj aa hI;cases e with
   |normal=>obtain⟨aA,_⟩:=h2;omega
   |exit i=>exact⟨n,1,_,_,_,by simp[iter,h1],h2⟩
   |ret=>exact⟨n,1,_,_,_,by simp[iter,h1],h2⟩
  |succ j ih=>
   intro k ak aj HP hI;obtain⟨n,e,iT,cF,h1,h2⟩:=round k ak aj aa hI;cases e with
   |normal=>obtain⟨_,hI1⟩:=h2;obtain⟨m,l,e,dy,bn,h3,h4⟩:=ih (k+1) iT cF aa hI1;refine⟨max n m,l+1,e,dy,bn,?_,h4⟩;simp only[iter];rw[A1 S (GJ n m) h1];exact Sq S (Jg n m) (bY _) h3
   |exit i=>exact⟨n,1,_,_,_,by simp[iter,h1],h2⟩
   |ret=>exact⟨n,1,_,_,_,by simp[iter,h1],h2⟩
 obtain⟨n,l,e,aF,ao,h1,h2⟩:=key (N-k0) k0 ak aj aa h0;refine⟨max n l,e,aF,ao,?_,h2⟩;simp only[exec];exact Sq S (GJ n l) (Jg n l) h1
theorem ak4{d:Bool}{ops:h_}(h:WO S al ops (fun ak aj es=>(d=true->um ops [] es=true)/\Q .normal ak aj) ak aj []):W S al (.region d ops) Q ak aj:=by
 obtain⟨n,aF,ao,es,h1,h2,h3⟩:=h;refine⟨n,.normal,aF,ao,?_,h3⟩;simp only[exec,h1];cases d with
 |false=>simp
 |true=>simpa using h2
theorem akW{R:Env->aC->i_->Prop}{tr:i_}(h:R ak aj tr):WO S al [] R ak aj tr:=⟨0,ak,aj,[],rfl,by simpa using h⟩
theorem Qf{o:bQ}{os:h_}{R:Env->aC->i_->Prop}{tr:i_}{n:Nat}{iT:Env}{cF:aC}{e:cK}
  (h1:step1 (S.ctx al) (hU S n) (ia S n) o ak aj=some (iT,cF,e)) (h:WO S al os R iT cF (tr++[e])):WO S al (o::os) R ak aj tr:=by
 obtain⟨m,aF,ao,es,h2,h3⟩:=h;refine⟨max n m,aF,ao,e::es,?_,by simpa using h3⟩;simp only[steps];rw[ajy (Fj S (GJ n m)) (MH S (GJ n m)) h1];simp[awH S (Jg n m) h2]
def Hs(S:Sys)(al:Al)(p:fL)(d:w_)(ak:Env)(aj:aC)(tr:i_)(K:Env->aC->i_->Prop):Prop:=
 match p with
 | .fail=>False
 | .done v u r=>al.fQ (r++u.map (·.1))=true/\K (put ak d v) (app u aj) (tr++[⟨r,u.map (·.1),[]⟩])
 | .pc f vs r s=>∃x,aK S f vs x/\match land aj r s (x.gj (S.lone s))with
  |some (v,u)=>al.fQ (r++u.map (·.1))=true/\K (put ak d v) (app u aj) (tr++[⟨r++u.map (·.1),u.map (·.1),[]⟩])
  |none=>False
 | .sc f vs=>al.holds (allow (S.ctx al) f vs aj)=true/\ ∃v ao,jg S f vs (allow (S.ctx al) f vs aj) aj v ao/\
   K (put ak d v) ao (tr++[⟨(allow (S.ctx al) f vs aj).ids,(allow (S.ctx al) f vs aj).ids,(allow (S.ctx al) f vs aj).fs⟩])
def FG(S:Sys)(al:Al)(w:Option Bool)(o:bQ)(ak:Env)(aj:aC)(tr:i_)(K:Env->aC->i_->Prop):Prop:=
 match w with
 |none=>False
 |some false=>K (put ak o.dst .undef) aj (tr++[⟨[],[],[]⟩])
 |some true=>Hs S al (bN S.shared ak aj o.op) o.dst ak aj tr K
@[simp] theorem Al.GQ (l:a_):Al.all.fQ l=true:=by simp[Al.fQ,Al.ok,Al.all]
@[simp] theorem Al.axT (b:Al):Al.all.holds b=true:=rfl
theorem akX{o:bQ}{os:h_}{R:Env->aC->i_->Prop}{tr:i_}
  (h:FG S al (wanted ak o.guard) o ak aj tr (WO S al os R)):WO S al (o::os) R ak aj tr:=by
 cases hw:wanted ak o.guard with
 |none=>simp[hw,FG]at h
 |some b=>
  cases b with
  |false=>rw[hw]at h;exact Qf (n:=0) (by simp[step1,hw]) h
  |true=>
   rw[hw]at h;simp only[FG]at h;have jC:(S.ctx al).shared=S.shared:=rfl;have gT:(S.ctx al).al=al:=rfl;have eL:(S.ctx al).lone=S.lone:=rfl;cases bU:bN S.shared ak aj o.op with
   |fail=>simp[bU,Hs]at h
   |done v u r=>rw[bU]at h;obtain⟨h1,h⟩:=h;exact Qf (n:=0) (by simp only[step1,hw,jC,gT,bU,h1,if_true]) h
   |pc f vs r s=>
    rw[bU]at h;obtain⟨x,⟨n,hx⟩,h⟩:=h;cases hl:land aj r s (x.gj (S.lone s))with
    |none=>simp[hl]at h
    |some y=>obtain⟨v,u⟩:=y;simp only[hl]at h;obtain⟨h1,h⟩:=h;exact Qf (n:=n) (by simp only[step1,hw,jC,gT,eL,bU,hx,hl,h1,if_true]) h
   |sc f vs=>rw[bU]at h;obtain⟨h1,v,ao,⟨n,hx⟩,h⟩:=h;exact Qf (n:=n) (by simp only[step1,hw,jC,gT,bU,h1,if_true,hx]) h
end
end Go.Abs
namespace Go.Abs
variable {S:Sys} {al:Al}
def oJ(al:Al)(res:List (Nat×Option w_))(R:V->aC->Prop):dX
 | .exit _,_,_=>False
 |_,ak,aj=>match qm al ak aj res with
  |some vs=>R (BA vs) aj
  |none=>False
theorem Uc{fn:bd}{args:e_}{aj:aC}{R:V->aC->Prop}(h:W S al fn.body (oJ al fn.results R) (tv args) aj):
  ∃n v ao,sI (S.ctx al) (hU S n) (ia S n) n fn args aj=some (v,ao)/\R v ao:=by
 obtain⟨n,e,aF,ao,h1,h2⟩:=h;refine⟨n,?_⟩;unfold sI;rw[h1];cases e with
 |exit i=>exact h2.elim
 |normal=>
  simp only[oJ]at h2;split at h2
  .rename_i vs hv;exact⟨_,_,by simp only[show(S.ctx al).al=al from rfl,hv,nK],h2⟩
  exact h2.elim
 |ret=>
  simp only[oJ]at h2;split at h2
  .rename_i vs hv;exact⟨_,_,by simp only[show(S.ctx al).al=al from rfl,hv,nK],h2⟩
  exact h2.elim
theorem akP{f:Nat}{fn:bd}{args:e_}{r:RV}(hp:S.prim f args=none)(hf:S.fns f=some fn)(hl:args.length<=fn.ntmps)
  (h:W S .all fn.body (oJ .all fn.results fun v aj=>jk aj v=some r) (tv args) xx):aK S f args r:=by
 obtain⟨n,v,ao,h1,h2⟩:=Uc h;refine⟨n+1,?_⟩;rw[hU];simp only[hp,hf,hl,if_true];unfold Gq;rw[h1];exact h2
theorem nL{f:Nat}{fn:bd}{args:e_}{aj:aC}{R:V->aC->Prop}(hf:S.fns f=some fn)(hl:args.length<=fn.ntmps)
  (h:W S al fn.body (oJ al fn.results R) (tv args) aj) (ht:S.trig f args=false:=by rfl):∃v ao,jg S f args al aj v ao/\R v ao:=by
 obtain⟨n,v,ao,h1,h2⟩:=Uc h;refine⟨v,ao,⟨n+1,?_⟩,h2⟩;rw[ia];simp only[ht,dN,if_false,hf,hl,if_true];exact h1
end Go.Abs
namespace Go.Abs
variable {S:Sys} {al:Al} {Q:dX} {ak:Env} {aj:aC}
theorem aa4:W S al .skip Q ak aj↔Q .normal ak aj:=⟨fun⟨_,_,_,_,h,q⟩=>by simp[exec]at h;obtain⟨rfl,rfl,rfl⟩:=h;exact q,ak9⟩
theorem aa0{id:Nat}:W S al (.exit id) Q ak aj↔Q (.exit id) ak aj:=⟨fun⟨_,_,_,_,h,q⟩=>by simp[exec]at h;obtain⟨rfl,rfl,rfl⟩:=h;exact q,ak2⟩
theorem aa3:W S al .ret Q ak aj↔Q .ret ak aj:=⟨fun⟨_,_,_,_,h,q⟩=>by simp[exec]at h;obtain⟨rfl,rfl,rfl⟩:=h;exact q,ak5⟩
theorem ak7{a b:aN}:W S al (.seq a b) Q ak aj↔W S al a (LU (W S al b Q) Q) ak aj:=by
 refine⟨?_,ak6⟩;rintro⟨n,e,aF,ao,h,q⟩
 simp only[exec]at h;cases h1:exec (S.ctx al) (hU S n) (ia S n) n a ak aj with
 |none=>simp[h1]at h
 |some x=>
  obtain⟨e1,iT,cF⟩:=x;refine⟨n,e1,iT,cF,h1,?_⟩;cases e1 with
  |normal=>simp only[h1]at h;exact⟨n,e,aF,ao,h,q⟩
  |exit i=>simp[h1]at h;obtain⟨rfl,rfl,rfl⟩:=h;exact q
  |ret=>simp[h1]at h;obtain⟨rfl,rfl,rfl⟩:=h;exact q
def JK(v:V)(A B:Prop):Prop:=
 match v with
 | .one (.p (.bool t))=>if t=true then A else B
 |_=>False
theorem ak0{x:aU}{a b:aN}:W S al (.cond x a b) Q ak aj↔JK (ev ak x) (W S al a Q ak aj) (W S al b Q ak aj):=by
 constructor
 .rintro ⟨n,e,aF,ao,h,q⟩
  simp only[exec]at h;split at h
  .rename_i t ht;rw[ht];simp only[JK];cases t with
   |true=>exact⟨n,e,aF,ao,by simpa using h,q⟩
   |false=>exact⟨n,e,aF,ao,by simpa using h,q⟩
  cases h
 intro h;unfold JK at h;split at h
 .rename_i t ht;exact akZ ht h
 exact h.elim
theorem aaZ{id:Nat}{c:aN}:W S al (.block id c) Q ak aj↔W S al c (mY id Q) ak aj:=by
 refine⟨?_,akY⟩;rintro⟨n,e,aF,ao,h,q⟩
 simp only[exec]at h;cases h1:exec (S.ctx al) (hU S n) (ia S n) n c ak aj with
 |none=>simp[h1]at h
 |some x=>
  obtain⟨e1,iT,cF⟩:=x;refine⟨n,e1,iT,cF,h1,?_⟩;cases e1 with
  |normal=>simp[h1]at h;obtain⟨rfl,rfl,rfl⟩:=h;exact q
  |ret=>simp[h1]at h;obtain⟨rfl,rfl,rfl⟩:=h;exact q
  |exit i=>
   simp only[h1]at h;simp only[mY];split at h
   .rename_i hi;simp at h;obtain⟨rfl,rfl,rfl⟩:=h;rw[aD hi];exact q
   rename_i hi;simp at h;obtain⟨rfl,rfl,rfl⟩:=h;rw[au hi];exact q
theorem Ub{R:Env->aC->i_->Prop}{tr:i_}:WO S al [] R ak aj tr↔R ak aj tr:=by
 refine⟨?_,akW⟩;rintro⟨n,aF,ao,es,h,q⟩
 simp[steps]at h;obtain⟨rfl,rfl,rfl⟩:=h
 simpa using q
theorem Qg{o:bQ}{os:h_}{R:Env->aC->i_->Prop}{tr:i_}:
  WO S al (o::os) R ak aj tr↔FG S al (wanted ak o.guard) o ak aj tr (WO S al os R):=by
 refine⟨?_,akX⟩;rintro⟨n,aF,ao,es,h,q⟩
 simp only[steps]at h;cases h1:step1 (S.ctx al) (hU S n) (ia S n) o ak aj with
 |none=>simp[h1]at h
 |some x=>
  obtain⟨iT,cF,e⟩:=x;simp only[h1]at h;cases h2:steps (S.ctx al) (hU S n) (ia S n) os iT cF with
  |none=>simp[h2]at h
  |some y=>
   obtain⟨dy,bn,es2⟩:=y;simp[h2]at h;obtain⟨rfl,rfl,rfl⟩:=h;have hk:WO S al os R iT cF (tr++[e]):=⟨n,_,_,es2,h2,by simpa using q⟩;unfold step1 at h1;cases hw:wanted ak o.guard with
   |none=>simp[hw]at h1
   |some b=>
    cases b with
    |false=>simp[hw]at h1;obtain⟨rfl,rfl,rfl⟩:=h1;exact hk
    |true=>
     simp only[hw]at h1;simp only[FG];have jC:(S.ctx al).shared=S.shared:=rfl;have gT:(S.ctx al).al=al:=rfl;have eL:(S.ctx al).lone=S.lone:=rfl;simp only[jC,gT,eL]at h1;cases bU:bN S.shared ak aj o.op with
     |fail=>simp[bU]at h1
     |done v u r=>
      simp only[bU]at h1;split at h1
      .rename_i ay;cases h1;exact⟨ay,hk⟩
      cases h1
     |pc f vs r s=>
      simp only[bU]at h1;cases hc:hU S n f vs with
      |none=>simp[hc]at h1
      |some x=>
       simp only[hc]at h1;refine⟨x,⟨n,hc⟩,?_⟩;cases hl:land aj r s (x.gj (S.lone s))with
       |none=>simp[hl]at h1
       |some y=>
        obtain⟨v,u⟩:=y;simp only[hl]at h1;split at h1
        .rename_i ay;cases h1;exact⟨ay,hk⟩
        cases h1
     |sc f vs=>
      simp only[bU]at h1;split at h1
      .rename_i ay;cases hc:ia S n f vs (allow (S.ctx al) f vs aj) aj with
       |none=>simp[hc]at h1
       |some x=>obtain⟨v,b⟩:=x;simp only[hc]at h1;cases h1;exact⟨ay,v,_,⟨n,hc⟩,hk⟩
      cases h1
theorem aa2{d:Bool}{ops:h_}:W S al (.region d ops) Q ak aj↔WO S al ops (fun ak aj es=>(d=true->um ops [] es=true)/\Q .normal ak aj) ak aj []:=by
 refine⟨?_,ak4⟩;rintro⟨n,e,aF,ao,h,q⟩
 simp only[exec]at h;cases h1:steps (S.ctx al) (hU S n) (ia S n) ops ak aj with
 |none=>simp[h1]at h
 |some x=>
  obtain⟨iT,cF,es⟩:=x;simp only[h1]at h;cases d with
  |false=>simp at h;obtain⟨rfl,rfl,rfl⟩:=h;exact⟨n,_,_,es,h1,af,q⟩
  |true=>simp at h;obtain⟨hd,rfl,rfl,rfl⟩:=h;exact⟨n,_,_,es,h1,fun _=>by simpa using hd,q⟩
end Go.Abs
namespace Go.Abs
inductive cM (w:World) (own:Nat->Prop):PV->Value->Prop where
 |bool (b:Bool):cM w own (.bool b) (.bool b)
 |int (k:IntKind) (n:Int):cM w own (.int k n) (.int k n)
 |str (s:ByteArray):cM w own (.str s) (.string s)
 |wa:cM w own .wa (.pointer none)
 |nils:cM w own .nils (.slice none 0 0)
 |sA:cM w own .sA (.map none)
 |Aa:cM w own .Aa .nilFunc
 |nili:cM w own .nili .nilIface
 |ifc (d:TypeId) (x:Value):cM w own .ifc (.iface d x)
 |zs (a:Option Addr):cM w own .zs (.slice a 0 0)
 |box {cs:b_} (b o:Nat) (f:Nat->Value) (ho:cs≠[]-> ¬own b)
   (hc:∀(j:Nat) (x:PV),cs[j]?=some x->w.cell? ⟨b,o+j,none⟩=some (f j))
   (hr:∀(j:Nat) (x:PV),cs[j]?=some x->cM w own x (f j)):cM w own (.box cs) (.pointer (some ⟨b,o,none⟩))
 |Ah (a:Option Addr) (cap:Nat) (hn:a=none->cap=0) (hm:cap<=maxLen):cM w own (.sl []) (.slice a 0 cap)
 |sl {es:s_} (b o cap sz:Nat) (f:Nat->Value) (ho:es.flatten≠[]-> ¬own b) (hl:es.length<=cap) (hm:cap<=maxLen) (cT:∀e∈es,e.length=sz)
   (hc:∀(j:Nat) (x:PV),es.flatten[j]?=some x->w.cell? ⟨b,o+j,none⟩=some (f j))
   (hr:∀(j:Nat) (x:PV),es.flatten[j]?=some x->cM w own x (f j)):cM w own (.sl es) (.slice (some ⟨b,o,none⟩) es.length cap)
 |mp {ag:Bool}{es:t_} (r:Nat) (ents:Array MapEntry) (clock:Nat) (g:Nat->Array Value) (ho:¬own r) (hb:w.heap[r]?=some (.map ents clock)) (hl:ents.size=es.length)
   (hk:∀(i:Nat) (q:PV) (v:b_) (e:MapEntry),es[i]?=some (q,v)->ents[i]?=some e->cM w own q e.key)
   (hv:∀(i:Nat) (q:PV) (v:b_) (e:MapEntry),es[i]?=some (q,v)->ents[i]?=some e->(g i).size=v.length/\(ag=true->e.val=.agg (g i))/\(ag=false-> #[e.val]=g i))
   (hr:∀(i:Nat) (q:PV) (v:b_) (j:Nat) (x:PV) (u:Value),es[i]?=some (q,v)->v[j]?=some x->(g i)[j]?=some u->cM w own x u):cM w own (.mp ag es) (.map (some r))
 |fn {f:Nat}{a b:b_} (A B:Array Value) (ha:A.size=a.length) (hb:B.size=b.length)
   (xh:∀(j:Nat) (x:PV) (u:Value),a[j]?=some x->A[j]?=some u->cM w own x u)
   (sa:∀(j:Nat) (x:PV) (u:Value),b[j]?=some x->B[j]?=some u->cM w own x u):cM w own (.fn f a b) (.func (.func f) A B)
theorem cM.O7{w:World}{own:Nat->Prop}{x:PV}{v:Value}(h:cM w own x v):v.oneCell'=true:=by cases h<;>rfl
theorem cM.cells{w:World}{own:Nat->Prop}{x:PV}{v:Value}(h:cM w own x v):v.cells= #[v]:=by cases h<;>rfl
theorem abI{w:World}{b o:Nat}{v:Value}(h:w.cell? ⟨b,o,none⟩=some v):b<w.heap.size:=World.block_lt_of_cell? w ⟨b,o,none⟩ h
theorem wZ{w:World}{b:Nat}{o:Obj}(h:w.heap[b]?=some o):b<w.heap.size:=(TO.1 h).1
theorem cM.mono{w w':World}{own Bu:Nat->Prop}(hk:∀c,c<w.heap.size-> ¬own c->w'.heap[c]?=w.heap[c]? /\ ¬Bu c){x:PV}{v:Value}
  (h:cM w own x v):cM w' Bu x v:=by
 induction h with
 |bool b=>exact .bool b
 |int k n=>exact .int k n
 |str s=>exact .str s
 |wa=>exact .wa
 |nils=>exact .nils
 |sA=>exact .sA
 |Aa=>exact .Aa
 |nili=>exact .nili
 |ifc d x=>exact .ifc d x
 |zs a=>exact .zs a
 | @box cs b o f ho hc _ ih=>
  cases cs with
  |nil=>exact .box b o f (fun h=>(h rfl).elim) (fun j x h=>by simp at h) (fun j x h=>by simp at h)
  |cons c r=>have hb:=abI (hc 0 c rfl);have hn:=ho af;refine .box b o f (fun _=>(hk b hb hn).2) (fun j x h=>?_) ih;rw[World.cell?_of_block (hk b hb hn).1];exact hc j x h
 |Ah a cap hn hm=>exact .Ah a cap hn hm
 | @sl es b o cap sz f ho hl hm cT hc _ ih=>
  cases hf:es.flatten with
  |nil=>exact .sl b o cap sz f (fun h=>(h hf).elim) hl hm cT (fun j x h=>by simp[hf]at h) (fun j x h=>by simp[hf]at h)
  |cons c r=>have hb:=abI (hc 0 c (by simp[hf]));have hn:=ho (by simp[hf]);refine .sl b o cap sz f (fun _=>(hk b hb hn).2) hl hm cT (fun j x h=>?_) ih;rw[World.cell?_of_block (hk b hb hn).1];exact hc j x h
 | @mp ag es r ents clock g ho hb hl _ hv _ ihk ihr=>exact .mp r ents clock g (hk r (wZ hb) ho).2 ((hk r (wZ hb) ho).1.trans hb) hl ihk hv ihr
 |fn A B ha hb _ _ iha ihb=>exact .fn A B ha hb iha ihb
structure Mem where
 w:World
 aj:aC
 σ:Nat->Nat
 κ:Nat->Nat
 fr:Nat->Prop
def Ob.fX:Ob->Bool
 | .var _| .arr _ _ _| .jo _ _ _| .map _ _=>true
 |_=>false
def lR:Nat×Option Ob->w_
 |(_,some (.arr _ sz _))=>some sz
 |(_,some (.jo _ sz _))=>some sz
 |(_,some (.pL _ sz _))=>some sz
 |_=>none
def Mem.fX(m:Mem)(c:Nat):Prop:= ∃id o,(m.aj id).2=some o/\o.fX=true/\m.σ id=c
def Mem.own(m:Mem)(c:Nat):Prop:=m.fr c\/m.fX c
inductive dq (m:Mem):C->Value->Prop where
 |p {x:PV}{v:Value} (h:cM m.w m.own x v):dq m (.p x) v
 |aZ {id g off:Nat} (a:Addr) (hg:g<=(m.aj id).1) (h:(m.aj id).1=g->(m.aj id).2.isSome=true->a=⟨m.σ id,off,none⟩):dq m (.aZ id g off) (.pointer (some a))
 |dB {id g i off:Nat} (a:Addr) (hg:g<=(m.aj id).1) (h:∀sz,(m.aj id).1=g->lR (m.aj id)=some sz->a=⟨m.σ id,i*sz+off,none⟩):dq m (.dB id g i off) (.pointer (some a))
 |hsl {id g z off len:Nat} (a:Addr) (cap:Nat) (hg:g<=(m.aj id).1) (hl:len<=cap) (hm:cap<=maxLen)
   (h:∀sz,(m.aj id).1=g->lR (m.aj id)=some sz->sz=z/\(off=0\/0<len->a=⟨m.σ id,off*sz,none⟩)/\off+cap=m.κ id):
   dq m (.hsl id g z off len) (.slice (some a) len cap)
 |kL {id g:Nat} (r:Nat) (hg:g<=(m.aj id).1) (h:(m.aj id).1=g->(m.aj id).2.isSome=true->r=m.σ id):dq m (.kL id g) (.map (some r))
 |hfn {f:Nat}{a b:f_} (A B:Array Value) (ha:A.size=a.length) (hb:B.size=b.length)
   (xh:∀(j:Nat) (x:C) (u:Value),a[j]?=some x->A[j]?=some u->dq m x u)
   (sa:∀(j:Nat) (x:C) (u:Value),b[j]?=some x->B[j]?=some u->dq m x u):dq m (.hfn f a b) (.func (.func f) A B)
theorem dq.O7{m:Mem}{x:C}{v:Value}(h:dq m x v):v.oneCell'=true:=by
 cases h with
 |p h=>exact h.O7
 |_=>rfl
theorem dq.cells{m:Mem}{x:C}{v:Value}(h:dq m x v):v.cells= #[v]:=by
 cases h with
 |p h=>exact h.cells
 |_=>rfl
def dK(m:Mem)(cs:f_)(vs:List Value):Prop:=vs.length=cs.length/\ ∀(j:Nat) (x:C) (u:Value),cs[j]?=some x->vs[j]?=some u->dq m x u
def dJ(w:World)(own:Nat->Prop)(cs:b_)(vs:List Value):Prop:=vs.length=cs.length/\ ∀(j:Nat) (x:PV) (u:Value),cs[j]?=some x->vs[j]?=some u->cM w own x u
def pE(m:Mem):V->Value->Prop
 | .undef,v=>v=undef
 | .one c,v=>dq m c v
 | .agg cs,v=>∃arr,v=.agg arr/\dK m cs arr.toList
 | .tup _,_=>False
def cq(m:Mem):V->Value->Prop
 | .tup vs,v=>∃arr,v=.tuple arr/\arr.size=vs.length/\ ∀(j:Nat) (x:V) (u:Value),vs[j]?=some x->arr[j]?=some u->pE m x u
 |x,v=>pE m x v
def uB(m:Mem)(id:Nat):Ob->Prop
 | .var cs=>∃cur ty,m.w.heap[m.σ id]?=some (.cells cur ty (0,0))/\dK m cs cur.toList
 | .fvar cs=>∃cur ty fz,m.w.heap[m.σ id]?=some (.cells cur ty fz)/\dJ m.w m.own cs cur.toList/\ ¬m.own (m.σ id)
 | .arr ty sz es=>∃cur,m.w.heap[m.σ id]?=some (.cells cur ty (0,0))/\0<sz/\(∀e∈es,e.length=sz)/\es.length<=m.κ id/\m.κ id<=maxLen/\cur.size=m.κ id*sz/\
   dJ m.w m.own es.flatten (cur.toList.take (es.length*sz))
 | .pL ty sz es=>∃cur fz,m.w.heap[m.σ id]?=some (.cells cur ty fz)/\0<sz/\(∀e∈es,e.length=sz)/\es.length<=m.κ id/\m.κ id<=maxLen/\cur.size=m.κ id*sz/\
   dJ m.w m.own es.flatten (cur.toList.take (es.length*sz))/\ ¬m.own (m.σ id)
 | .jo ty sz es=>∃cur,m.w.heap[m.σ id]?=some (.cells cur ty (0,0))/\0<sz/\(∀e∈es,e.length=sz)/\es.length<=m.κ id/\m.κ id<=maxLen/\cur.size=m.κ id*sz/\
   dK m es.flatten (cur.toList.take (es.length*sz))
 | .map ag es=>∃ents clock,m.w.heap[m.σ id]?=some (.map ents clock)/\ents.size=es.length/\
   ∀(i:Nat) (q:PV) (v:b_) (e:MapEntry),es[i]?=some (q,v)->ents[i]?=some e->cM m.w m.own q e.key/\ ∃g:Array Value,(ag=true->e.val=.agg g)/\(ag=false-> #[e.val]=g)/\dJ m.w m.own v g.toList
 | .fmap ag es=>∃ents clock,m.w.heap[m.σ id]?=some (.map ents clock)/\ents.size=es.length/\
   (∀(i:Nat) (q:PV) (v:b_) (e:MapEntry),es[i]?=some (q,v)->ents[i]?=some e->cM m.w m.own q e.key/\ ∃g:Array Value,(ag=true->e.val=.agg g)/\(ag=false-> #[e.val]=g)/\dJ m.w m.own v g.toList)/\ ¬m.own (m.σ id)
structure Ok (w0:World) (m:Mem):Prop where
 os:m.w.os=w0.os
 tape:m.w.tape=w0.tape
 output:m.w.output=w0.output
 size:w0.heap.size<=m.w.heap.size
 base:∀c,c<w0.heap.size->m.w.heap[c]?=w0.heap[c]?
 obj:∀id o,(m.aj id).2=some o->uB m id o
 hJ:∀id o,(m.aj id).2=some o->o.fX=true->w0.heap.size<=m.σ id/\ ¬m.fr (m.σ id)
 frlt:∀c,m.fr c->c<m.w.heap.size
 inj:∀id fy o o',(m.aj id).2=some o->o.fX=true->(m.aj fy).2=some o'->o'.fX=true->m.σ id=m.σ fy->id=fy
structure Ev (m m':Mem):Prop where
 os:m'.w.os=m.w.os
 tape:m'.w.tape=m.w.tape
 output:m'.w.output=m.w.output
 size:m.w.heap.size<=m'.w.heap.size
 keep:∀c,c<m.w.heap.size-> ¬m.fX c->m'.w.heap[c]?=m.w.heap[c]?
 fX:∀c,c<m.w.heap.size->m'.fX c->m.fX c
 less:∀c,c<m.w.heap.size-> ¬m.own c-> ¬m'.own c
 gen:∀id,(m.aj id).1<=(m'.aj id).1
 ref:∀id,(m'.aj id).1=(m.aj id).1->(m'.aj id).2.isSome=true->(m.aj id).2.isSome=true/\m'.σ id=m.σ id/\m'.κ id=m.κ id/\lR (m'.aj id)=lR (m.aj id)
theorem Ev.refl(m:Mem):Ev m m:=⟨rfl,rfl,rfl,bY _,fun _ _ _=>rfl,fun _ _ h=>h,fun _ _ h=>h,fun _=>bY _,fun _ _ h=>⟨h,rfl,rfl,rfl⟩⟩
theorem Ev.trans{a b c:Mem}(h:Ev a b)(k:Ev b c):Ev a c where
 os:=k.os.trans h.os
 tape:=k.tape.trans h.tape
 output:=k.output.trans h.output
 size:=oz h.size k.size
 keep x hx hm:=(k.keep x (EZ hx h.size) fun hb=>hm (h.fX x hx hb)).trans (h.keep x hx hm)
 fX x hx hm:=h.fX x hx (k.fX x (EZ hx h.size) hm)
 less x hx hn:=k.less x (EZ hx h.size) (h.less x hx hn)
 gen id:=oz (h.gen id) (k.gen id)
 ref id he hs:=by have h1:=h.gen id;have h2:=k.gen id;obtain⟨s1,e1,e2,e3⟩:=k.ref id aa hs;obtain⟨s2,f1,f2,f3⟩:=h.ref id aa s1;exact⟨s2,e1.trans f1,e2.trans f2,e3.trans f3⟩
theorem Ev.own{m m':Mem}(h:Ev m m'):∀c,c<m.w.heap.size-> ¬m.own c->m'.w.heap[c]?=m.w.heap[c]? /\ ¬m'.own c:=fun c hc hn=>⟨h.keep c hc fun hm=>hn (.inr hm),h.less c hc hn⟩
theorem ajH{x:Nat×Option Ob}{sz:Nat}(h:lR x=some sz):x.2.isSome=true:=by
 obtain⟨g,o⟩:=x;cases o with
 |none=>simp[lR]at h
 |some o=>rfl
structure vu (m m':Mem):Prop where
 own:∀c,c<m.w.heap.size-> ¬m.own c->m'.w.heap[c]?=m.w.heap[c]? /\ ¬m'.own c
 gen:∀id,(m.aj id).1<=(m'.aj id).1
 ref:∀id,(m'.aj id).1=(m.aj id).1->(m'.aj id).2.isSome=true->(m.aj id).2.isSome=true/\m'.σ id=m.σ id/\m'.κ id=m.κ id/\lR (m'.aj id)=lR (m.aj id)
theorem Ev.zero{m m':Mem}(h:Ev m m'):vu m m':=⟨h.own,h.gen,h.ref⟩
theorem cM.ev{m m':Mem}(h:vu m m'){x:PV}{v:Value}(hr:cM m.w m.own x v):cM m'.w m'.own x v:=hr.mono h.own
theorem dq.ev{m m':Mem}(h:vu m m'){x:C}{v:Value}(hr:dq m x v):dq m' x v:=by
 induction hr with
 |p hp=>exact .p (hp.ev h)
 | @aZ id g off a hg ha=>have XL:=h.gen id;refine .aZ a aa fun Eb hs=>?_;obtain⟨s,e1,_,_⟩:=h.ref id aa hs;rw[e1];exact ha aa s
 | @dB id g i off a hg ha=>have XL:=h.gen id;refine .dB a aa fun sz Eb hs=>?_;obtain⟨s,e1,_,e3⟩:=h.ref id aa (ajH hs);rw[e1];exact ha sz aa (e3▸hs)
 | @hsl id g z off len a cap hg hl hm ha=>have XL:=h.gen id;refine .hsl a cap aa hl hm fun sz Eb hs=>?_;obtain⟨s,e1,e2,e3⟩:=h.ref id aa (ajH hs);rw[e1,e2];exact ha sz aa (e3▸hs)
 | @kL id g r hg hr=>have XL:=h.gen id;refine .kL r aa fun Eb hs=>?_;obtain⟨s,e1,_,_⟩:=h.ref id aa hs;rw[e1];exact hr aa s
 |hfn A B ha hb _ _ iha ihb=>exact .hfn A B ha hb iha ihb
theorem dK.ev{m m':Mem}(h:vu m m'){cs:f_}{vs:List Value}(hr:dK m cs vs):dK m' cs vs:=⟨hr.1,fun j x u a b=>(hr.2 j x u a b).ev h⟩
theorem dJ.mono{w w':World}{own Bu:Nat->Prop}(hk:∀c,c<w.heap.size-> ¬own c->w'.heap[c]?=w.heap[c]? /\ ¬Bu c){cs:b_}{vs:List Value}
  (hr:dJ w own cs vs):dJ w' Bu cs vs:=⟨hr.1,fun j x u a b=>(hr.2 j x u a b).mono hk⟩
theorem dJ.ev{m m':Mem}(h:vu m m'){cs:b_}{vs:List Value}(hr:dJ m.w m.own cs vs):dJ m'.w m'.own cs vs:=hr.mono h.own
theorem pE.ev{m m':Mem}(h:vu m m'){x:V}{v:Value}(hr:pE m x v):pE m' x v:=by
 cases x with
 |undef=>exact hr
 |one c=>exact dq.ev h hr
 |agg cs=>obtain⟨arr,e,hc⟩:=hr;exact⟨arr,e,hc.ev h⟩
 |tup vs=>exact hr.elim
theorem cq.ev{m m':Mem}(h:vu m m'){x:V}{v:Value}(hr:cq m x v):cq m' x v:=by
 cases x with
 |tup vs=>obtain⟨arr,e,hs,hc⟩:=hr;exact⟨arr,e,hs,fun j x u a b=>(hc j x u a b).ev h⟩
 |undef=>exact pE.ev (x:=.undef) h hr
 |one c=>exact pE.ev (x:=.one c) h hr
 |agg cs=>exact pE.ev (x:=.agg cs) h hr
theorem uB.ev{m m':Mem}(h:vu m m'){id:Nat}{o:Ob}(hs:m'.σ id=m.σ id)(hk:m'.κ id=m.κ id)(hh:m'.w.heap[m.σ id]?=m.w.heap[m.σ id]?)
  (hr:uB m id o):uB m' id o:=by
 cases o with
 |var cs=>obtain⟨cur,ty,a,b⟩:=hr;exact⟨cur,ty,by rw[hs,hh];exact a,b.ev h⟩
 |fvar cs=>obtain⟨cur,ty,fz,a,b,c⟩:=hr;exact⟨cur,ty,fz,by rw[hs,hh];exact a,b.ev h,by rw[hs];exact(h.own _ (wZ a) c).2⟩
 |arr ty sz es=>obtain⟨cur,a,b,c,d,e,f,g⟩:=hr;exact⟨cur,by rw[hs,hh];exact a,b,c,by rw[hk];exact d,by rw[hk];exact e,by rw[hk];exact f,g.ev h⟩
 |pL ty sz es=>obtain⟨cur,fz,a,b,c,d,e,f,g,i⟩:=hr;exact⟨cur,fz,by rw[hs,hh];exact a,b,c,by rw[hk];exact d,by rw[hk];exact e,by rw[hk];exact f,g.ev h,by rw[hs];exact(h.own _ (wZ a) i).2⟩
 |jo ty sz es=>obtain⟨cur,a,b,c,d,e,f,g⟩:=hr;exact⟨cur,by rw[hs,hh];exact a,b,c,by rw[hk];exact d,by rw[hk];exact e,by rw[hk];exact f,g.ev h⟩
 |map ag es=>obtain⟨ents,clock,a,b,c⟩:=hr;exact⟨ents,clock,by rw[hs,hh];exact a,b,fun i q v e x y=>let ⟨p,g,g1,g2,g3⟩:=c i q v e x y;⟨p.ev h,g,g1,g2,g3.ev h⟩⟩
 |fmap ag es=>obtain⟨ents,clock,a,b,c,d⟩:=hr;exact⟨ents,clock,by rw[hs,hh];exact a,b,fun i q v e x y=>let ⟨p,g,g1,g2,g3⟩:=c i q v e x y;⟨p.ev h,g,g1,g2,g3.ev h⟩,by rw[hs];exact(h.own _ (wZ a) d).2⟩
theorem uB.lt{m:Mem}{id:Nat}{o:Ob}(hr:uB m id o):m.σ id<m.w.heap.size:=by
 cases o with
 |var cs=>obtain⟨cur,ty,a,_⟩:=hr;exact wZ a
 |fvar cs=>obtain⟨cur,ty,fz,a,_⟩:=hr;exact wZ a
 |arr ty sz es=>obtain⟨cur,a,_⟩:=hr;exact wZ a
 |pL ty sz es=>obtain⟨cur,fz,a,_⟩:=hr;exact wZ a
 |jo ty sz es=>obtain⟨cur,a,_⟩:=hr;exact wZ a
 |map ag es=>obtain⟨ents,clock,a,_⟩:=hr;exact wZ a
 |fmap ag es=>obtain⟨ents,clock,a,_⟩:=hr;exact wZ a
theorem uB.calm{m:Mem}{id:Nat}{o:Ob}(hr:uB m id o)(ho:o.fX=false):¬m.own (m.σ id):=by
 cases o with
 |fvar cs=>obtain⟨cur,ty,fz,_,_,c⟩:=hr;exact c
 |pL ty sz es=>obtain⟨cur,fz,_,_,_,_,_,_,_,c⟩:=hr;exact c
 |fmap ag es=>obtain⟨_,_,_,_,_,c⟩:=hr;exact c
 |_=>simp[Ob.fX]at ho
end Go.Abs
namespace Go.Abs
variable {w0:World}
section
variable{m:Mem}
structure fU (w w':World):Prop where
 os:w'.os=w.os
 tape:w'.tape=w.tape
 output:w'.output=w.output
 size:w.heap.size<=w'.heap.size
 keep:∀c,c<w.heap.size->w'.heap[c]?=w.heap[c]?
theorem fU.refl(w:World):fU w w:=⟨rfl,rfl,rfl,bY _,fun _ _=>rfl⟩
theorem fU.trans{a b c:World}(h:fU a b)(k:fU b c):fU a c:=
 ⟨k.os.trans h.os,k.tape.trans h.tape,k.output.trans h.output,oz h.size k.size,fun x hx=>(k.keep x (EZ hx h.size)).trans (h.keep x hx)⟩
theorem fU.alloc(w:World)(o:Obj):fU w (w.alloc o):=⟨rfl,rfl,rfl,af,fun _ hc=>heap_alloc_old w o hc⟩
theorem fU.drew(w:World):fU w w.drew:=⟨rfl,rfl,rfl,bY _,fun _ _=>rfl⟩
def Mem.later(m:Mem)(w':World)(X:Nat->Prop):Mem:={m with w:=w',fr:=fun c=>m.fr c\/X c}
theorem agP{w':World}{X:Nat->Prop}{c:Nat}:(m.later w' X).own c↔m.own c\/X c:=by
 unfold Mem.own Mem.fX Mem.later;constructor
 .rintro ((h|h)|h)
  .exact .inl (.inl h)
  .exact .inr h
  exact .inl (.inr h)
 rintro((h|h)|h)
 .exact .inl (.inl h)
 .exact .inr h
 exact .inl (.inr h)
theorem K4{w':World}{X:Nat->Prop}(hg:fU m.w w')(hX:∀c,X c->m.w.heap.size<=c):Ev m (m.later w' X) where
 os:=hg.os
 tape:=hg.tape
 output:=hg.output
 size:=hg.size
 keep c hc _:=hg.keep c hc
 fX c _ h:=h
 less c hc hn h:=by
  rcases agP.1 h with h|h
  .exact hn h
  have:=hX c h;omega
 gen _:=bY _
 ref _ _ hs:=⟨hs,rfl,rfl,rfl⟩
theorem OW{w':World}{X:Nat->Prop}(h:Ok w0 m)(hg:fU m.w w')(hX:∀c,X c->m.w.heap.size<=c/\c<w'.heap.size):Ok w0 (m.later w' X) where
 os:=hg.os.trans h.os
 tape:=hg.tape.trans h.tape
 output:=hg.output.trans h.output
 size:=oz h.size hg.size
 base c hc:=(hg.keep c (EZ hc h.size)).trans (h.base c hc)
 obj id o ho:=(h.obj id o ho).ev (K4 hg fun c hc=>(hX c hc).1).zero rfl rfl (hg.keep _ (h.obj id o ho).lt)
 hJ id o ho hm:=by
  refine⟨(h.hJ id o ho hm).1,?_⟩;rintro(hf|hx)
  .exact(h.hJ id o ho hm).2 hf
  have h1:=(hX _ hx).1;have h2:=(h.obj id o ho).lt;simp only[Mem.later]at h1;omega
 frlt c hc:=by
  rcases hc with hf|hx
  .exact EZ (h.frlt c hf) hg.size
  exact(hX c hx).2
 inj:=h.inj
def Mem.install(m:Mem)(s c k:Nat)(o:Ob):Mem:=⟨m.w,eh m.aj s ((m.aj s).1+1,some o),eh m.σ s c,eh m.κ s k,fun x=>m.fr x/\x≠c⟩
theorem afQ{s c k:Nat}{o:Ob}{x:Nat}(h:(m.install s c k o).fX x):x=c\/m.fX x:=by
 obtain⟨id,o',ho,hm,hx⟩:=h;simp only[Mem.install,aP]at ho hx;by_cases hid:id=s
 .simp only[hid,if_true]at hx;exact .inl hx.symm
 simp only[hid,if_false]at ho hx;exact .inr ⟨id,o',ho,hm,hx⟩
theorem Sl{s c k:Nat}{o:Ob}(hc:m.fr c){x:Nat}(h:(m.install s c k o).own x):m.own x:=by
 rcases h with h|h
 .exact .inl h.1
 rcases afQ h with rfl|h
 .exact .inl hc
 exact .inr h
theorem Sj{m1:Mem}{s c k:Nat}{o:Ob}(h:Ev m m1)(hc:m1.fr c)(hn:m.w.heap.size<=c\/m.fX c):Ev m (m1.install s c k o) where
 os:=h.os
 tape:=h.tape
 output:=h.output
 size:=h.size
 keep:=h.keep
 fX x hx hm:=by
  rcases afQ hm with rfl|hm
  .rcases hn with hn|hn
   .omega
   exact hn
  exact h.fX x hx hm
 less x hx dR hm:=h.less x hx dR (Sl hc hm)
 gen id:=by
  simp only[Mem.install,aP];have:=h.gen id;split
  .rename_i e;subst e;simp only;omega
  exact this
 ref id he hs:=by
  have hg:=h.gen id;simp only[Mem.install,aP]at he hs |-;by_cases hid:id=s
  .subst hid;simp only[if_true]at he;omega
  simp only[hid,if_false]at he hs |-;exact h.ref id he hs
theorem Sk{s c k:Nat}{o:Ob}(h:Ok w0 m)(hc:m.fr c)(eL:w0.heap.size<=c)(ho:uB (m.install s c k o) s o):Ok w0 (m.install s c k o):=by
 have hk:∀x,x<m.w.heap.size-> ¬m.own x->(m.install s c k o).w.heap[x]?=m.w.heap[x]? /\ ¬(m.install s c k o).own x:=fun x _ hn=>⟨rfl,fun h=>hn (Sl hc h)⟩
 have eF:vu m (m.install s c k o):=by
  refine⟨hk,fun id=>?_,fun id he hs=>?_⟩
  .simp only[Mem.install,aP];split
   .rename_i e;subst e;simp only;omega
   exact bY _
  simp only[Mem.install,aP]at he hs |-;by_cases hid:id=s
  .subst hid;simp only[if_true]at he;omega
  simp only[hid,if_false]at he hs |-;exact⟨hs,trivial,trivial,trivial⟩
 exact{
  os:=h.os
  tape:=h.tape
  output:=h.output
  size:=h.size
  base:=h.base
  obj:=by
   intro id o' lX;by_cases hid:id=s
   .subst hid;simp only[Mem.install,aP,if_true,fY]at lX;exact lX▸ho
   have hs:(m.install s c k o).σ id=m.σ id:=by simp[Mem.install,aP,hid]
   have w9:(m.install s c k o).κ id=m.κ id:=by simp[Mem.install,aP,hid]
   simp only[Mem.install,aP,hid,if_false]at lX;exact(h.obj id o' lX).ev eF hs w9 rfl
  hJ:=by
   intro id o' lX hm;by_cases hid:id=s
   .subst hid;simp only[Mem.install,aP,if_true];exact⟨eL,fun h=>h.2 rfl⟩
   simp only[Mem.install,aP,hid,if_false]at lX |-;exact⟨(h.hJ id o' lX hm).1,fun hf=>(h.hJ id o' lX hm).2 hf.1⟩
  frlt:=fun x hx=>h.frlt x hx.1
  inj:=by
   intro id fy o1 o2 h1 m1 h2 m2 he;by_cases hid:id=s<;>by_cases uS:fy=s
   .rw[hid,uS]
   .subst hid;simp only[Mem.install,aP,uS,if_true,if_false]at h2 he;exact((h.hJ fy o2 h2 m2).2 (he▸hc)).elim
   .subst uS;simp only[Mem.install,aP,hid,if_true,if_false]at h1 he;exact((h.hJ id o1 h1 m1).2 (he.symm▸hc)).elim
   simp only[Mem.install,aP,hid,uS,if_false]at h1 h2 he;exact h.inj id fy o1 o2 h1 m1 h2 m2 he}
def Mem.iI(m:Mem)(id:Nat):Mem:=⟨m.w,eh m.aj id ((m.aj id).1,none),m.σ,m.κ,fun c=>m.fr c\/c=m.σ id⟩
theorem anW{id:Nat}{o:Ob}(ho:(m.aj id).2=some o)(hm:o.fX=true){x:Nat}(h:(m.iI id).own x):m.own x:=by
 rcases h with(h|h)|⟨fy,o',h1,h2,h3⟩
 .exact .inl h
 .exact .inr ⟨id,o,ho,hm,h.symm⟩
 simp only[Mem.iI,aP]at h1 h3;by_cases hid:fy=id
 .simp[hid]at h1
 simp only[hid,if_false]at h1;exact .inr ⟨fy,o',h1,h2,h3⟩
theorem Hh{id:Nat}{o:Ob}(ho:(m.aj id).2=some o)(hm:o.fX=true):Ev m (m.iI id) where
 os:=rfl
 tape:=rfl
 output:=rfl
 size:=bY _
 keep _ _ _:=rfl
 fX x _ h:=by
  obtain⟨fy,o',h1,h2,h3⟩:=h;simp only[Mem.iI,aP]at h1 h3;by_cases hid:fy=id
  .simp[hid]at h1
  simp only[hid,if_false]at h1;exact⟨fy,o',h1,h2,h3⟩
 less x _ hn h:=hn (anW ho hm h)
 gen fy:=by
  simp only[Mem.iI,aP];split
  .rename_i e;subst e;exact bY _
  exact bY _
 ref fy he hs:=by
  simp only[Mem.iI,aP]at he hs |-;by_cases hid:fy=id
  .simp[hid]at hs
  simp only[hid,if_false]at he hs |-;exact⟨hs,trivial,trivial,trivial⟩
theorem Vc{id:Nat}{o:Ob}(h:Ok w0 m)(ho:(m.aj id).2=some o)(hm:o.fX=true):Ok w0 (m.iI id) where
 os:=h.os
 tape:=h.tape
 output:=h.output
 size:=h.size
 base:=h.base
 obj fy o' h1:=by
  simp only[Mem.iI,aP]at h1;by_cases hid:fy=id
  .simp[hid]at h1
  simp only[hid,if_false]at h1;exact(h.obj fy o' h1).ev (Hh ho hm).zero rfl rfl rfl
 hJ fy o' h1 h2:=by
  simp only[Mem.iI,aP]at h1 |-;by_cases hid:fy=id
  .simp[hid]at h1
  simp only[hid,if_false]at h1;refine⟨(h.hJ fy o' h1 h2).1,?_⟩;rintro(hf|hf)
  .exact(h.hJ fy o' h1 h2).2 hf
  exact hid (h.inj fy id o' o h1 h2 ho hm hf)
 frlt c hc:=by
  rcases hc with hf|rfl
  .exact h.frlt c hf
  exact(h.obj id o ho).lt
 inj Cu Cv o1 o2 h1 m1 h2 m2 he:=by
  simp only[Mem.iI,aP]at h1 h2 he;by_cases hid:Cu=id
  .simp[hid]at h1
  by_cases uS:Cv=id
  .simp[uS]at h2
  simp only[hid,uS,if_false]at h1 h2;exact h.inj Cu Cv o1 o2 h1 m1 h2 m2 he
def Mem.kO(m:Mem)(w':World)(id:Nat)(o:Ob):Mem:=⟨w',eh m.aj id ((m.aj id).1,some o),m.σ,m.κ,m.fr⟩
section
variable {m:Mem} {w':World} {id:Nat} {o old:Ob} (ho:(m.aj id).2=some old) (hm:old.fX=true)
include ho hm
theorem avl{x:Nat}(h:(m.kO w' id o).own x):m.own x:=by
 rcases h with h|⟨fy,o',h1,h2,h3⟩
 .exact .inl h
 simp only[Mem.kO,aP]at h1 h3;by_cases hid:fy=id
 .exact .inr ⟨id,old,ho,hm,hid▸h3⟩
 simp only[hid,if_false]at h1;exact .inr ⟨fy,o',h1,h2,h3⟩
theorem Pq(cT:lR ((m.aj id).1,some o)=lR ((m.aj id).1,some old))(Bm:w'.os=m.w.os)(ht:w'.tape=m.w.tape)(qL:w'.output=m.w.output)(hs:w'.heap.size=m.w.heap.size)
  (hk:∀c,c≠m.σ id->w'.heap[c]?=m.w.heap[c]?):Ev m (m.kO w' id o) where
 os:=Bm
 tape:=ht
 output:=qL
 size:=GK hs.symm
 keep c _ hn:=hk c fun e=>hn ⟨id,old,ho,hm,e.symm⟩
 fX x _ h:=by
  obtain⟨fy,o',h1,h2,h3⟩:=h;simp only[Mem.kO,aP]at h1 h3;by_cases hid:fy=id
  .exact⟨id,old,ho,hm,hid▸h3⟩
  simp only[hid,if_false]at h1;exact⟨fy,o',h1,h2,h3⟩
 less x _ hn h:=hn (avl ho hm h)
 gen fy:=by
  simp only[Mem.kO,aP];split
  .rename_i e;subst e;exact bY _
  exact bY _
 ref fy he hss:=by
  simp only[Mem.kO,aP]at he hss |-;by_cases hid:fy=id
  .subst hid;refine⟨by simp[ho],trivial,trivial,?_⟩;simp only[if_true];rw[cT,<-ho]
  simp only[hid,if_false]at he hss |-;exact⟨hss,trivial,trivial,trivial⟩
theorem Ti(h:Ok w0 m)(cT:lR ((m.aj id).1,some o)=lR ((m.aj id).1,some old))(Bm:w'.os=m.w.os)(ht:w'.tape=m.w.tape)(qL:w'.output=m.w.output)(hs:w'.heap.size=m.w.heap.size)
  (hk:∀c,c≠m.σ id->w'.heap[c]?=m.w.heap[c]?) (Ej:uB (m.kO w' id o) id o):Ok w0 (m.kO w' id o) where
 os:=Bm.trans h.os
 tape:=ht.trans h.tape
 output:=qL.trans h.output
 size:=oz h.size (GK hs.symm)
 base c hc:=by have:=(h.hJ id old ho hm).1;exact(hk c aa).trans (h.base c hc)
 obj fy o' h1:=by
  simp only[Mem.kO,aP]at h1;by_cases hid:fy=id
  .subst hid;simp only[if_true,fY]at h1;exact h1▸Ej
  simp only[hid,if_false]at h1;refine(h.obj fy o' h1).ev (Pq ho hm cT Bm ht qL hs hk).zero rfl rfl (hk _ fun e=>?_);cases Ci:o'.fX with
  |true=>exact hid (h.inj fy id o' old h1 Ci ho hm e)
  |false=>exact(h.obj fy o' h1).calm Ci (.inr ⟨id,old,ho,hm,e.symm⟩)
 hJ fy o' h1 h2:=by
  simp only[Mem.kO,aP]at h1 |-;by_cases hid:fy=id
  .subst hid;exact h.hJ fy old ho hm
  simp only[hid,if_false]at h1;exact h.hJ fy o' h1 h2
 frlt c hc:=by rw[show(m.kO w' id o).w.heap.size=m.w.heap.size from hs];exact h.frlt c hc
 inj Cu Cv o1 o2 h1 m1 h2 m2 he:=by
  simp only[Mem.kO,aP]at h1 h2 he;by_cases hid:Cu=id<;>by_cases uS:Cv=id
  .rw[hid,uS]
  .simp only[uS,if_false]at h2;exact hid▸h.inj id Cv old o2 ho hm h2 m2 (hid▸he)
  .simp only[hid,if_false]at h1;exact uS▸h.inj Cu id o1 old h1 m1 ho hm (uS▸he)
  simp only[hid,uS,if_false]at h1 h2;exact h.inj Cu Cv o1 o2 h1 m1 h2 m2 he
end
end
end Go.Abs
namespace Go.Abs
def MT:Value->Option PV
 | .bool b=>some (.bool b)
 | .int k n=>some (.int k n)
 | .string s=>some (.str s)
 | .pointer none=>some .wa
 | .slice none 0 0=>some .nils
 | .map none=>some .sA
 | .nilFunc=>some .Aa
 | .nilIface=>some .nili
 |_=>none
def JL:List Value->Option b_
 |[]=>some []
 |v::r=>match MT v,JL r with
  |some x,some xs=>some (x::xs)
  |_,_=>none
def UQ:Value->Option V
 | .agg cs=>(JL cs.toList).map fun l=>.agg (l.map .p)
 |v=>(MT v).map fun x=>.one (.p x)
def cX:Operand->Option aU
 | .tmp t=>some (.t t)
 | .const (.int .i64 n)=>some (.i n)
 | .const (.bool b)=>some (.b b)
 | .const v=>(UQ v).map .k
 | .func f=>some (.k (.one (.p (.fn f [] []))))
 | .global _=>none
def rl:List Operand->Option o_
 |[]=>some []
 |a::r=>match cX a,rl r with
  |some x,some xs=>some (x::xs)
  |_,_=>none
def y8:Option Operand->Option (Option aU)
 |none=>some none
 |some a=>(cX a).map some
def BC(P:Program)(t:TypeId):Option b_:=
 match P.info? t with
 |some i=>match i.zero with
  |some (.agg cs)=>if cs.size=i.size then JL cs.toList else none
  |some v=>if i.size=1 then(MT v).map fun x=>[x]else none
  |none=>none
 |none=>none
def sk(P:Program)(t:TypeId):Option w_:=
 match P.underlying t,P.info? t with
 |some (.struct _),some i=>some (some i.size)
 |some (.array _ _),some i=>some (some i.size)
 |some _,some i=>if i.size=1 then some none else none
 |_,_=>none
def yL(P:Program)(t:TypeId):w_:=(P.info? t).map (·.size)
def EA(place:Nat->Option (Nat×Nat))(zl:Nat):List (Nat×Operand)->Option (List (Nat×Nat×aU))
 |[]=>some []
 |(i,x)::r=>match place i,cX x,EA place zl r with
  |some (off,n),some a,some q=>if off+n<=zl then some ((off,n,a)::q)else none
  |_,_,_=>none
def JU:Nat->List (Nat×Operand)->Option o_
 |_,[]=>some []
 |k,(i,x)::r=>match cX x,JU (k+1) r with
  |some a,some q=>if i=k then some (a::q)else none
  |_,_=>none
def Th(P:Program)(t:TypeId):Option Bool:=
 match P.underlying t with
 |some (.int _)=>some true
 |some .bool=>some false
 |_=>none
def LI(P:Program):Nat->List Field->Option m_
 |_,[]=>some []
 |k,f::r=>match Th P f.type,LI P (k+1) r with
  |some b,some bs=>if f.offset=k/\f.name≠ "_" then some (b::bs)else none
  |_,_=>none
def Li:Operand->Bool
 | .const .nilIface=>true
 |_=>false
def Nb(P:Program)(t:TypeId)(x y:Operand):Option wJ:=
 match P.underlying t with
 |some (.interface _)=>if Li x||Li y then some .ifc else none
 |some .bool=>some .bool
 |some (.pointer _)=>some .ptr
 |some (.slice _)=>some .slc
 |some (.map _ _)=>some .map
 |some (.func _ _ _)=>some .fnc
 |some (.struct fs)=>if !P.stoodInHeld t&& !P.eqGuardType P.depth t then(LI P 0 fs.toList).map .str else none
 |_=>none
def BP(P:Program)(t:TypeId):Option (TypeId×Nat×Nat×b_):=
 match P.underlying t with
 |some (.slice e)=>match P.info? e,BC P e with
  |some i,some z=>if 0<i.size/\0<i.bytes then some (e,i.size,i.bytes,z)else none
  |_,_=>none
 |_=>none
def keyOf(P:Program)(k:TypeId):w_:=
 match P.underlying k with
 |some (.int _)=>some 0
 |some .string=>some 1
 |some .bool=>some 2
 |_=>none
def TM(P:Program)(t:TypeId):Bool:=
 match P.info? t with
 |some i=>match i.zero with
  |some (.agg _)=>true
  |_=>false
 |none=>false
def Hc(P:Program)(site:Nat)(o:Oper):Option oF:=
 match o.op with
 | .move x=>(cX x).map .zZ
 | .assign x=>(cX x).map .zZ
 | .pick c a b=>match cX c,cX a,cX b with
  |some c,some a,some b=>some (.pick c a b)
  |_,_,_=>none
 | .alloc t=>(BC P t).map (.alloc site)
 | .box _ x=>(cX x).map (.box site)
 | .build t ps=>match P.underlying t,BC P t with
  |some (.struct fs),some z=>if fs.all fun f=>(P.info? f.type).isSome then
    (EA (fun i=>(fs[i]?).map fun f=>(f.offset,P.cellsOf f.type)) z.length ps.toList).map (.build z)
   else none
  |some (.array _ e),some z=>match P.info? e with
   |some i=>(EA (fun k=>some (k*i.size,i.size)) z.length ps.toList).map (.build z)
   |none=>none
  |_,_=>none
 | .buildSlice t n ps=>match BP P t,JU 0 ps.toList with
  |some (e,sz,_,_),some as=>if as.length=n/\n*sz<=16777216 then some (.Fi site e sz as)else none
  |_,_=>none
 | .load t a=>match sk P t,cX a with
  |some k,some a=>some (.load k a)
  |_,_=>none
 | .store t a x=>match yL P t,cX a,cX x with
  |some n,some a,some x=>some (.store n a x)
  |_,_,_=>none
 | .nilCheck x=>(cX x).map .Lj
 | .binOp op t x y _=>match cX x,cX y with
  |some a,some b=>match P.underlying t with
   |some (.int _)=>some (.bin op a b)
   |some .string=>some (.bin op a b)
   |_=>match op,Nb P t x y with
    | .eql,some k=>some (.eqc k false a b)
    | .neq,some k=>some (.eqc k true a b)
    |_,_=>none
  |_,_=>none
 | .unOp op _ x=>match op with
  | .not=>(cX x).map (.un .not)
  | .neg=>(cX x).map (.un .neg)
  |_=>none
 | .convert s d x=>match P.underlying s,P.underlying d,cX x with
  |some (.int _),some (.int k),some a=>some (.conv k a)
  |some (.slice e),some .string,some a=>match P.underlying e with
   |some (.int .u8)=>some (.bstr a)
   |_=>none
  |_,_,_=>none
 | .makeFunc (.func f) a b=>match rl a.toList,rl b.toList with
  |some x,some y=>some (.mkfn f x y)
  |_,_=>none
 | .makeMap t none=>match P.underlying t with
  |some (.map _ e)=>(sk P e).map fun k=>.mkmap site k.isSome
  |_=>none
 | .makeSlice t l c=>match BP P t,cX l,cX c with
  |some (e,sz,bytes,z),some l,some c=>some (.Lc site e sz bytes z l c)
  |_,_,_=>none
 | .slice t x lo hi none=>match cX x,y8 lo,y8 hi with
  |some a,some l,some h=>match P.underlying t with
   |some (.slice e)=>(yL P e).map fun sz=>.slice sz a l h
   |some .string=>some (.sslice a l h)
   |_=>none
  |_,_,_=>none
 | .fieldAddr s x f=>match P.underlying s,cX x with
  |some (.struct fs),some a=>match fs[f]? with
   |some d=>if P.cellsOf d.type≠0 then some (.Hm d.offset a)else none
   |none=>none
  |_,_=>none
 | .field t x f=>match P.underlying t,cX x with
  |some (.struct fs),some a=>match fs[f]? with
   |some d=>(sk P d.type).map fun k=>.fld d.offset k a
   |none=>none
  |_,_=>none
 | .indexAddr t x i=>match cX x,cX i with
  |some a,some b=>match P.underlying t with
   |some (.slice e)=>(yL P e).map fun sz=>.Ie sz a b
   |some (.array n e)=>(yL P e).map fun sz=>.Jp n sz a b
   |_=>none
  |_,_=>none
 | .index t x i=>match cX x,cX i with
  |some a,some b=>match P.underlying t with
   |some (.array n e)=>match yL P e,sk P e with
    |some sz,some k=>some (.aidx n sz k a b)
    |_,_=>none
   |some .string=>some (.sidx a b)
   |_=>none
  |_,_=>none
 | .lookup t x k ok=>match P.underlying t,cX x,cX k with
  |some (.map kt e),some a,some b=>match BC P e,sk P e with
   |some z,some q=>match keyOf P kt with
    |some kd=>if TM P e=q.isSome then some (.lookup kd z q.isSome ok a b)else none
    |none=>none
   |_,_=>none
  |_,_,_=>none
 | .mapUpdate t m k v=>match P.underlying t,cX m,cX k,cX v with
  |some (.map kt e),some a,some b,some c=>match sk P e with
   |some q=>(keyOf P kt).map fun kd=>.mupd kd q.isSome a b c
   |none=>none
  |_,_,_,_=>none
 | .insert t m k v=>match P.underlying t,cX m,cX k,cX v with
  |some (.map kt e),some a,some b,some c=>match sk P e with
   |some q=>(keyOf P kt).map fun kd=>.mupd kd q.isSome a b c
   |none=>none
  |_,_,_,_=>none
 | .extract x i=>(cX x).map fun a=>.extract a i
 | .call c=>match c.callee,rl c.args.toList with
  | .value f,some as=>(cX f).map fun g=>.call site g as
  | .builtin .len,some [a]=>match c.argTypes[0]? with
   |some t=>match P.underlying t with
    |some .string=>some (.slen a)
    |some (.slice _)=>some (.K9 a)
    |some (.map _ _)=>some (.mlen a)
    |_=>none
   |none=>none
  | .builtin .append,some [a,b]=>match c.argTypes[0]?,c.argTypes[1]? with
   |some t,some u=>match BP P t with
    |some (e,sz,bytes,_)=>if t=u/\c.argTypes.size=2 then some (.append site e sz bytes a b)else none
    |none=>none
   |_,_=>none
  | .builtin .max,some [a,b]=>some (.max a b)
  | .builtin .min,some [a,b]=>some (.min a b)
  | .builtin .clear,some [a]=>match c.argTypes[0]? with
   |some t=>(BP P t).map fun q=>.clear q.2.2.2 a
   |none=>none
  |_,_=>none
 |_=>none
def aU.tmps:aU->a_
 | .t n=>[n]
 |_=>[]
def Gy:o_->a_
 |[]=>[]
 |a::r=>a.tmps++Gy r
def ZX:Option aU->a_
 |some a=>a.tmps
 |none=>[]
def ZY:List (Nat×Nat×aU)->a_
 |[]=>[]
 |(_,_,a)::r=>a.tmps++ZY r
def oF.tmps:oF->a_
 | .zZ x| .box _ x| .load _ x| .Lj x| .un _ x| .conv _ x| .bstr x| .Hm _ x| .fld _ _ x| .extract x _| .slen x| .K9 x| .mlen x| .clear _ x=>x.tmps
 | .pick c a b=>c.tmps++a.tmps++b.tmps
 | .alloc _ _| .mkmap _ _| .bad=>[]
 | .build _ ps=>ZY ps
 | .Fi _ _ _ ps=>Gy ps
 | .store _ a x| .bin _ a x| .eqc _ _ a x| .Ie _ a x| .Jp _ _ a x| .aidx _ _ _ a x| .sidx a x| .lookup _ _ _ _ a x| .append _ _ _ _ a x| .max a x| .min a x=>a.tmps++x.tmps
 | .mkfn _ a b=>Gy a++Gy b
 | .Lc _ _ _ _ _ a b=>a.tmps++b.tmps
 | .slice _ x a b| .sslice x a b=>x.tmps++ZX a++ZX b
 | .mupd _ _ a b c=>a.tmps++b.tmps++c.tmps
 | .call _ f as=>f.tmps++Gy as
def bQ.IM(o:bQ):a_:=
 o.op.tmps++match o.guard with
  |some (t,_)=>[t]
  |none=>[]
def Hp(a b:bQ):Bool:=
 (match a.dst with
  |some d=> !b.IM.contains d&&b.dst !=some d
  |none=>true)&&
 (match b.dst with
  |some d=> !a.IM.contains d
  |none=>true)
def Rh(o:bQ):Nat->h_->Bool
 |_,[]=>true
 |j,x::r=>(o.anc.testBit j||Hp x o)&&Rh o (j+1) r
def Nl:h_->h_->Bool
 |[],_=>true
 |o::os,past=>Rh o 0 past&&Nl os (past++[o])
def JJ(P:Program)(site:Nat)(o:Oper):oF:=(Hc P site o).getD .bad
def acK(nt:Nat):w_->Bool
 |some d=>decide (d<nt)
 |none=>true
def Xt(dst:Nat->w_):Option (Nat×Bool)->Option (Option (Nat×Bool))
 |none=>some none
 |some (j,w)=>(dst j).map fun t=>some (t,w)
def Fp(P:Program)(dst:Nat->w_)(base nt:Nat)(anc:Nat)(o:Oper):Option bQ:=if acK nt o.dst then(Xt dst o.guard).map fun g=>⟨o.dst,JJ P base o,g,anc⟩else none
def xU(P:Program)(dst anc:Nat->w_)(base nt:Nat):Nat->List Oper->Option h_
 |_,[]=>some []
 |i,o::r=>match Fp P dst ((base+i)*64) nt ((anc i).getD 0) o,xU P dst anc base nt (i+1) r with
  |some x,some xs=>some (x::xs)
  |_,_=>none
def Jq(ops:Array Oper):Bool:=(List.range ops.size).all fun i=>match ops[i]? with
 |some o=>o.after.toList.all fun e=> !Region.binds .any e||decide (e.on<i)
 |none=>true
def qD(P:Program)(f nt:Nat):Code->Option aN
 | .skip=>some .skip
 | .region id ops draw=>
  let b:=if draw then Region.before ops else #[]
  match xU P (fun j=>(ops[j]?).bind (·.dst)) (fun i=>b[i]?) ((f*1000+id)*1000) nt 0 ops.toList with
  |some xs=>if draw then(if Jq ops&&Nl xs []then some (.region true xs)else none)else some (.region false xs)
  |none=>none
 | .seq a b=>match qD P f nt a,qD P f nt b with
  |some x,some y=>some (.seq x y)
  |_,_=>none
 | .cond c a b=>match cX c,qD P f nt a,qD P f nt b with
  |some c,some x,some y=>some (.cond c x y)
  |_,_,_=>none
 | .block id c=>(qD P f nt c).map (.block id)
 | .loop c=>(qD P f nt c).map .loop
 | .exit id=>some (.exit id)
 | .scope c=>qD P f nt c
 | .label _=>some .skip
 | .ret=>some .ret
 |_=>some .bad
def CW(P:Program):List ResultVar->Option (List (Nat×Option w_))
 |[]=>some []
 | .tmp t::r=>(CW P r).map ((t,none):: ·)
 | .cell t ty::r=>match sk P ty,CW P r with
  |some k,some q=>some ((t,some k)::q)
  |_,_=>none
def DG(P:Program)(f:Nat):Option bd:=
 match P.funcs[f]? with
 |none=>none
 |some fn=>match fn.body with
  |none=>none
  |some c=>if fn.name== "runtime.NumGoroutine" then none else
   match qD P f fn.ntmps c,CW P fn.results.toList with
   |some b,some r=>some ⟨fn.ntmps,r,b⟩
   |_,_=>none
end Go.Abs
namespace Go.Abs
variable {P:Program} {w0:World}
section
variable{m:Mem}
def jz(m:Mem)(ak:Env)(tmps:Array Value):Prop:=∀t,cq m (ak t) (tmps.getD t undef)
theorem jz.ev{m':Mem}(h:Ev m m'){ak:Env}{tmps:Array Value}(hr:jz m ak tmps):jz m' ak tmps:=fun t=>(hr t).ev h.zero
theorem cq.one{c:C}{v:Value}:cq m (.one c) v↔dq m c v:=uv
theorem cq.agg{cs:f_}{v:Value}:cq m (.agg cs) v↔ ∃arr,v=.agg arr/\dK m cs arr.toList:=uv
theorem cq.of1{x:V}{v:Value}(h:pE m x v):cq m x v:=by
 cases x with
 |tup vs=>exact h.elim
 |_=>exact h
theorem UP{w:World}{own:Nat->Prop}{v:Value}{x:PV}(h:MT v=some x):cM w own x v:=by
 unfold MT at h;split at h<;>first
  |(cases h;constructor;done)
  |cases h
theorem ab3{w:World}{own:Nat->Prop}:∀ {vs:List Value}{xs:b_},JL vs=some xs->dJ w own xs vs:=by
 intro vs
 induction vs with
 |nil=>intro xs h;simp[JL]at h;subst h;exact⟨rfl,fun j x u a _=>by simp at a⟩
 |cons v r ih=>
  intro xs h;simp only[JL]at h;split at h
  .rename_i x ys h1 h2;cases h;obtain⟨hl,hr⟩:=ih h2;refine⟨by simp[hl],fun j z u a b=>?_⟩;cases j with
   |zero=>simp at a b;subst a b;exact UP h1
   |succ j=>simp at a b;exact hr j z u a b
  cases h
theorem dJ.EL{xs:b_}{vs:List Value}(h:dJ m.w m.own xs vs):dK m (xs.map .p) vs:=by refine⟨by simp[h.1],fun j x u a b=>?_⟩;simp only[fG,dT]at a;obtain⟨y,hy,rfl⟩:=a;exact .p (h.2 j y u hy b)
theorem ani{v:Value}{x:V}(h:UQ v=some x):cq m x v:=by
 unfold UQ at h;split at h
 .simp only[dT]at h;obtain⟨xs,h1,rfl⟩:=h;exact cq.agg.2 ⟨_,rfl,(ab3 h1).EL⟩
 simp only[dT]at h;obtain⟨y,h1,rfl⟩:=h;exact cq.one.2 (.p (UP h1))
theorem eU{ak:Env}{a:Act}{x:Operand}{y:aU}(h:cX x=some y)(hr:jz m ak a.tmps):cq m (ev ak y) (a.eval x):=by
 unfold cX at h;split at h
 .cases h;exact hr _
 .cases h;exact cq.one.2 (.p (.int _ _))
 .cases h;exact cq.one.2 (.p (.bool _))
 .simp only[dT]at h;obtain⟨v,h1,rfl⟩:=h;exact ani h1
 .cases h;exact cq.one.2 (.p (.fn #[] #[] rfl rfl (fun j x u a=>by simp at a) (fun j x u a=>by simp at a)))
 cases h
def Does(P:Program)(ρ:Operand->Value)(o:Oper)(w:World)(x:Value)(w':World):Prop:=
 (execOp ρ o).run P w=.ok (.value x) w'\/((execOp ρ o).run P w=.ok .skip w'/\x=undef)
def fZ(P:Program)(w0:World)(ρ:Operand->Value)(o:Oper)(m:Mem)(v:V)(u:l_):Prop:=∃x m',Does P ρ o m.w x m'.w/\Ok w0 m'/\Ev m m'/\m'.fr=m.fr/\m'.aj=app u m.aj/\cq m' v x
theorem fZ.calm{ρ:Operand->Value}{o:Oper}{v:V}{x:Value}(h:Ok w0 m)(kh:(execOp ρ o).run P m.w=.ok (.value x) m.w)(hv:cq m v x):fZ P w0 ρ o m v []:=
 ⟨x,m,.inl kh,h,Ev.refl m,rfl,rfl,hv⟩
section
variable {m:Mem} {ak:Env} {a:Act} {o:Oper} (ay:Ok w0 m) (hr:jz m ak a.tmps)
include ay hr
theorem ajb{x:Operand}{y:aU}(ho:o.op=.move x\/o.op=.assign x)(hx:cX x=some y):fZ P w0 a.eval o m (ev ak y) []:=
 .calm ay (by rcases ho with ho|ho<;>simp[execOp,ho]) (eU hx hr)
theorem avW{c x y:Operand}{c' x' y':aU}{t:Bool}(ho:o.op=.pick c x y)(hc:cX c=some c')(hx:cX x=some x')(hy:cX y=some y')
  (ht:ev ak c'=.one (.p (.bool t))):fZ P w0 a.eval o m (if t then ev ak x' else ev ak y') []:=by
 have h1:=eU hc hr;rw[ht]at h1;obtain⟨⟩:dq m (.p (.bool t)) _:=h1;rename_i hp;generalize hb:a.eval c=b at hp;cases hp;refine .calm (x:=if t then a.eval x else a.eval y) ay ?_ ?_
 .simp[execOp,ho,hb,asBool]
 cases t
 .exact eU hy hr
 exact eU hx hr
end
theorem Gc{b:Bool}{v:Value}(h:cq m (.one (.p (.bool b))) v):v=.bool b:=by obtain⟨hp⟩:dq m _ v:=h;cases hp;rfl
theorem Es{k:IntKind}{n:Int}{v:Value}(h:cq m (.one (.p (.int k n))) v):v=.int k n:=by obtain⟨hp⟩:dq m _ v:=h;cases hp;rfl
theorem OS{s:ByteArray}{v:Value}(h:cq m (.one (.p (.str s))) v):v=.string s:=by obtain⟨hp⟩:dq m _ v:=h;cases hp;rfl
theorem Sn{v:Value}(h:cq m (.one (.p .nils)) v):v=.slice none 0 0:=by obtain⟨hp⟩:dq m _ v:=h;cases hp;rfl
theorem ari{v:Value}(h:cq m (.one (.p .zs)) v):∃a,v=.slice a 0 0:=by obtain⟨hp⟩:dq m _ v:=h;cases hp;exact⟨_,rfl⟩
theorem afR{v:Value}(h:cq m (.one (.p .sA)) v):v=.map none:=by obtain⟨hp⟩:dq m _ v:=h;cases hp;rfl
theorem nA{x:PV}{v:Value}(h:cM m.w m.own x v):cq m (.one (.p x)) v:=cq.one.2 (.p h)
def Mem.fresh(m:Mem)(ob:Obj)(s k:Nat)(o:Ob):Mem:=(m.later (m.w.alloc ob) (· =m.w.heap.size)).install s m.w.heap.size k o
theorem Xj(ay:Ok w0 m)(ob:Obj)(s k:Nat)(o:Ob):(m.fresh ob s k o).fr=m.fr:=by
 funext c;simp only[Mem.fresh,Mem.install,Mem.later];apply propext;constructor
 .rintro ⟨h|h,h2⟩
  .exact h
  exact(h2 h).elim
 intro h;exact⟨.inl h,fun e=>by have:=ay.frlt c h;omega⟩
theorem Ri(ob:Obj)(s k:Nat)(o:Ob):Ev m (m.fresh ob s k o):=Sj (K4 (fU.alloc m.w ob) fun c hc=>GK hc.symm) (.inr rfl) (.inl (bY _))
theorem aev(ob:Obj)(s k:Nat)(o:Ob):(m.fresh ob s k o).w.heap[(m.fresh ob s k o).σ s]?=some ob:=by
 have:(m.fresh ob s k o).σ s=m.w.heap.size:=by simp[Mem.fresh,Mem.install,aP]
 rw[this];exact heap_alloc_new m.w ob
theorem aew(ay:Ok w0 m)(ob:Obj)(s k:Nat)(o:Ob)(ho:uB (m.fresh ob s k o) s o):Ok w0 (m.fresh ob s k o):=Sk (OW ay (fU.alloc m.w ob) fun c hc=>by subst hc;exact⟨bY _,af⟩) (.inr rfl) ay.size ho
theorem Xi(m:Mem)(ob:Obj)(s k:Nat)(o:Ob):(m.fresh ob s k o).aj=app [(s,((m.aj s).1+1,some o))] m.aj:=rfl
theorem aex(ay:Ok w0 m)(s:Nat)(t:TypeId)(cs:f_)(arr:Array Value)(hc:dK m cs arr.toList):
  Ok w0 (m.fresh (.cells arr t) s 0 (.var cs))/\cq (m.fresh (.cells arr t) s 0 (.var cs)) (.one (.aZ s ((m.aj s).1+1) 0)) (.pointer (some ⟨m.w.heap.size,0,none⟩)):=by
 refine⟨aew ay _ s 0 _ ⟨arr,t,aev _ s 0 _,hc.ev (Ri _ s 0 _).zero⟩,cq.one.2 (.aZ _ ?_ fun _ _=>?_)⟩
 .simp[Mem.fresh,Mem.install,Mem.later,aP]
 simp[Mem.fresh,Mem.install,aP]
theorem PJ{t:TypeId}{z:b_}(h:BC P t=some z):∃v i,P.info? t=some i/\i.zero=some v/\v.cells.size=i.size/\z.length=i.size/\ ∀w own,dJ w own z v.cells.toList:=by
 unfold BC at h;split at h
 .rename_i i hi;split at h
  .rename_i cs hz;split at h
   .rename_i hs;have hr:=fun w own=>ab3 (w:=w) (own:=own) h;refine⟨_,i,hi,hz,by simpa [Value.cells]using hs,?_,fun w own=>by simpa [Value.cells]using hr w own⟩;have:=(hr default (fun _=>False)).1;simp at this;omega
   cases h
  .rename_i v hz hv;split at h
   .rename_i hs;simp only[dT]at h;obtain⟨x,hx,rfl⟩:=h;have hr:=fun w own=>UP (w:=w) (own:=own) hx;have hc:=(hr default (fun _=>False)).cells;refine⟨v,i,hi,hv,by simp[hc,hs],by simp[hs],fun w own=>?_⟩;rw[hc];refine⟨rfl,fun j y u a b=>?_⟩;cases j with
    |zero=>simp at a b;subst a b;exact hr w own
    |succ j=>simp at a
   cases h
  cases h
 cases h
section
variable {m:Mem} {ak:Env} {a:Act} {o:Oper} (ay:Ok w0 m) (hr:jz m ak a.tmps)
include ay
theorem avw{t:TypeId}{z:b_}{s:Nat}(ho:o.op=.alloc t)(hz:BC P t=some z):
  fZ P w0 a.eval o m (.one (.aZ s ((m.aj s).1+1) 0)) [(s,((m.aj s).1+1,some (.var (z.map .p))))]:=by
 obtain⟨v,i,hi,hv,hs,hl,dS⟩:=PJ hz;obtain⟨h1,h2⟩:=aex ay s t (z.map .p) v.cells (dS m.w m.own).EL;refine⟨_,_,.inl ?_,h1,Ri _ s 0 _,Xj ay _ s 0 _,Xi _ _ s 0 _,h2⟩;simp[execOp,ho,Instr.alloc,zeroValue,typeInfo,hi,hv,newVar,newRow];rfl
include hr
theorem avz{t:TypeId}{x:Operand}{y:aU}{cs:f_}{s:Nat}(ho:o.op=.box t x)(hx:cX x=some y)(hc:sP (ev ak y)=some cs):
  fZ P w0 a.eval o m (.one (.aZ s ((m.aj s).1+1) 0)) [(s,((m.aj s).1+1,some (.var cs)))]:=by
 have hv:=eU hx hr;have dA:dK m cs (a.eval x).cells.toList:=by
  generalize ev ak y=w at hc hv;cases w with
  |undef=>simp[sP]at hc
  |tup vs=>simp[sP]at hc
  |one c=>
   simp[sP]at hc;subst hc;rw[(cq.one.1 hv).cells];refine⟨rfl,fun j y u p q=>?_⟩;cases j with
   |zero=>simp at p q;subst p q;exact hv
   |succ j=>simp at p
  |agg ds=>simp[sP]at hc;subst hc;obtain⟨arr,e,h⟩:=cq.agg.1 hv;rw[e];exact h
 obtain⟨h1,h2⟩:=aex ay s t cs _ dA;refine⟨_,_,.inl ?_,h1,Ri _ s 0 _,Xj ay _ s 0 _,Xi _ _ s 0 _,h2⟩;simp[execOp,ho,Instr.box,newVar,newRow];rfl
end
end
end Go.Abs
namespace Go.Abs
variable {P:Program} {w0:World}
theorem Ho{α:Type}{sz:Nat}:∀ {es:List (List α)},(∀e∈es,e.length=sz)->es.flatten.length=es.length*sz:=by
 intro es
 induction es with
 |nil=>intro _;simp
 |cons e r ih=>intro h;have h1:=h e af;have h2:=ih fun x hx=>h x (by simp[hx]);simp only[mT,fS,dI,h1,h2,gY,Mn];omega
theorem Hn{α:Type}{sz:Nat}:∀ {es:List (List α)},(∀e∈es,e.length=sz)->∀ {i:Nat}{e:List α},es[i]?=some e->∀ {j:Nat},j<sz->es.flatten[i*sz+j]?=e[j]? :=by
 intro es
 induction es with
 |nil=>intro _ i e h;simp at h
 |cons x r ih=>
  intro h i e he j hj;have h1:=h x af;cases i with
  |zero=>simp at he;subst he;simp only[mT,BE,jx];rw[xM aa]
  |succ i=>simp at he;have h2:=ih (fun y hy=>h y (by simp[hy])) he hj;simp only[mT];rw[Aq (by rw[h1,gY];omega),<-h2];congr 1;rw[h1,gY];omega
theorem Ns{α:Type}{sz:Nat}{es:List (List α)}(h:∀e∈es,e.length=sz){i:Nat}{e:List α}(he:es[i]?=some e):e.length=sz:=h e (aV he)
theorem Fk{w:World}{b k:Nat}{cur:Array Value}{ty:TypeId}{fz:Nat×Nat}(h:w.heap[b]?=some (.cells cur ty fz)):w.cell? ⟨b,k,none⟩=cur[k]? :=cell_of_row w b k cur ty fz h
def At (m:Mem)(v:Value)(cs:f_):Prop:=∃b o vs,v=.pointer (some ⟨b,o,none⟩)/\dK m cs vs/\ ∀(j:Nat) (u:Value),vs[j]?=some u->m.w.cell? ⟨b,o+j,none⟩=some u
theorem At.row{m:Mem}{b o:Nat}{cur:Array Value}{ty:TypeId}{fz:Nat×Nat}(h:m.w.heap[b]?=some (.cells cur ty fz)){cs:f_}(hl:o+cs.length<=cur.size)
  (hc:∀(j:Nat) (x:C) (u:Value),cs[j]?=some x->cur[o+j]?=some u->dq m x u):At m (.pointer (some ⟨b,o,none⟩)) cs:=by
 refine⟨b,o,(cur.toList.drop o).take cs.length,rfl,⟨by simp;omega,fun j x u p q=>?_⟩,fun j u q=>?_⟩
 .rw[mA]at q;split at q
  .exact hc j x u p (by simpa using q)
  cases q
 rw[mA]at q;split at q
 .rw[Fk h];simpa using q
 cases q
theorem aiy{m:Mem}(ay:Ok w0 m){x:V}{v:Value}{cs:f_}{rd:a_}(h:CV m.aj x=some (cs,rd))(hv:cq m x v):At m v cs:=by
 unfold CV at h;split at h
 .rename_i ps;simp only[fY,lK]at h;obtain⟨rfl,rfl⟩:=h;obtain⟨hp⟩:dq m _ v:=hv;cases hp with
  |box b o f ho hc hr=>
   refine⟨b,o,(List.range ps.length).map f,rfl,⟨af,fun j x u p q=>?_⟩,fun j u q=>?_⟩
   .simp only[fG,dT]at p q;obtain⟨y,hy,rfl⟩:=p;obtain⟨k,hk,rfl⟩:=q;have lO:k=j:=by
     rw[vp (by have:=aT.1 hy;obtain⟨h,_⟩:=this;exact h)]at hk
     simpa using hk.symm
    subst lO;exact .p (hr k y hy)
   simp only[fG,dT]at q;obtain⟨k,hk,rfl⟩:=q;have aA:j<ps.length:=by have:=aT.1 hk;obtain⟨h,_⟩:=this;simpa using h
   rw[vp aA]at hk;simp at hk;subst hk;exact hc j _ (rS aA)
 .rename_i id g off;have hv:dq m _ v:=hv;cases hv with
  |aZ a hg ha=>
   split at h
   .rename_i g' AU hb;split at h
    .rename_i ji;simp only[fY,lK]at h;obtain⟨rfl,rfl⟩:=h;have bK:(m.aj id).2=some (.var AU):=by rw[hb]
     have ha:=ha (by rw[hb];exact ji) (by rw[bK];rfl);subst ha;obtain⟨cur,ty,hh,hl,hc⟩:=ay.obj id _ bK;simp at hl;by_cases ho:off<=AU.length
     .exact At.row hh (by simp;omega) fun j x u p q=>hc (off+j) x u (by simpa using p) (by simpa using q)
     exact⟨_,_,[],rfl,⟨by simp;omega,fun j x u p q=>by simp at q⟩,fun j u q=>by simp at q⟩
    cases h
   .rename_i g' AU hb;split at h
    .rename_i ji;simp only[fY,lK]at h;obtain⟨rfl,rfl⟩:=h;have bK:(m.aj id).2=some (.fvar AU):=by rw[hb]
     have ha:=ha (by rw[hb];exact ji) (by rw[bK];rfl);subst ha;obtain⟨cur,ty,fz,hh,hp,_⟩:=ay.obj id _ bK;have hl:=hp.1;simp at hl;by_cases ho:off<=AU.length
     .refine At.row hh (by simp;omega) fun j x u p q=>?_;simp only[fG,dT]at p;obtain⟨y,hy,rfl⟩:=p;exact .p (hp.2 (off+j) y u (by simpa using hy) (by simpa using q))
     exact⟨_,_,[],rfl,⟨by simp;omega,fun j x u p q=>by simp at q⟩,fun j u q=>by simp at q⟩
    cases h
   cases h
 .rename_i id g i off;have hv:dq m _ v:=hv;cases hv with
  |dB a hg ha=>
   have key:∀(sz:Nat) (e:f_) (cur:Array Value) (ty:TypeId) (fz:Nat×Nat),m.w.heap[m.σ id]?=some (.cells cur ty fz)->e.length=sz->(i+1)*sz<=cur.size->
     a=⟨m.σ id,i*sz+off,none⟩->(∀(j:Nat) (x:C) (u:Value),e[j]?=some x->cur[i*sz+j]?=some u->dq m x u)->At m (.pointer (some a)) (e.drop off):=by
    intro sz e cur ty fz hh he aA yg hc;subst yg;rw[gY,Mn]at aA;by_cases ho:off<=e.length
    .exact At.row hh (by simp;omega) fun j x u p q=>hc (off+j) x u (by simpa using p) (by rw[<-EY];exact q)
    exact⟨_,_,[],rfl,⟨by simp;omega,fun j x u p q=>by simp at q⟩,fun j u q=>by simp at q⟩
   have pure:∀(ty sz:Nat) (es:s_) (e:b_) (cur:Array Value) (fz:Nat×Nat),m.w.heap[m.σ id]?=some (.cells cur ty fz)->(∀e∈es,e.length=sz)->es.length*sz<=cur.size->
     dJ m.w m.own es.flatten (cur.toList.take (es.length*sz))->es[i]?=some e->a=⟨m.σ id,i*sz+off,none⟩->At m (.pointer (some a)) ((e.drop off).map .p):=by
    intro ty sz es e cur fz hh cT hlen dS he yg;have dB:=Ns cT he;have hi:i<es.length:=(aT.1 he).1;have zN:(i+1)*sz<=es.length*sz:=mV _ hi;rw[T0];refine key sz (e.map .p) cur ty fz hh (by simpa using dB) aa yg fun j x u p q=>?_;simp only[fG,dT]at p;obtain⟨y,hy,rfl⟩:=p;have hj:j<sz:=by have:=(aT.1 hy).1;omega
    refine .p (dS.2 (i*sz+j) y u (by rw[Hn cT he hj];exact hy) ?_);rw[gY]at zN;rw[mA,aD aa]
    simpa using q
   split at h
   .rename_i g' ty sz es hb;split at h
    .rename_i ji;simp only[dT,lK]at h;obtain⟨e,he,rfl,rfl⟩:=h;have bK:(m.aj id).2=some (.arr ty sz es):=by rw[hb]
     obtain⟨cur,hh,qN,cT,hl,hm,dA,dS⟩:=ay.obj id _ bK;exact pure ty sz es e cur _ hh cT (by rw[dA];exact mV _ hl) dS he (ha sz (by rw[hb];exact ji) (by rw[hb];rfl))
    cases h
   .rename_i g' ty sz es hb;split at h
    .rename_i ji;simp only[dT,lK]at h;obtain⟨e,he,rfl,rfl⟩:=h;have bK:(m.aj id).2=some (.pL ty sz es):=by rw[hb]
     obtain⟨cur,fz,hh,qN,cT,hl,hm,dA,dS,_⟩:=ay.obj id _ bK;exact pure ty sz es e cur _ hh cT (by rw[dA];exact mV _ hl) dS he (ha sz (by rw[hb];exact ji) (by rw[hb];rfl))
    cases h
   .rename_i g' ty sz es hb;split at h
    .rename_i ji;simp only[dT,lK]at h;obtain⟨e,he,rfl,rfl⟩:=h;have bK:(m.aj id).2=some (.jo ty sz es):=by rw[hb]
     obtain⟨cur,hh,qN,cT,hl,hm,dA,dS⟩:=ay.obj id _ bK;have dB:=Ns cT he;have hi:i<es.length:=(aT.1 he).1;have zN:(i+1)*sz<=es.length*sz:=mV _ hi;have afh:es.length*sz<=m.κ id*sz:=mV _ hl;refine key sz e cur ty _ hh dB aa (ha sz (by rw[hb];exact ji) (by rw[hb];rfl)) fun j x u p q=>?_;have hj:j<sz:=by have:=(aT.1 p).1;omega
     refine dS.2 (i*sz+j) x u (by rw[Hn cT he hj];exact p) ?_;rw[gY]at zN;rw[mA,aD aa]
     simpa using q
    cases h
   cases h
 cases h
end Go.Abs
namespace Go.Abs
variable {P:Program} {w0:World}
theorem aru{t:TypeId}{n:Nat}(h:sk P t=some (some n)):∃d i,P.underlying t=some d/\P.info? t=some i/\i.size=n/\((∃fs,d=.struct fs)\/ ∃k e,d=.array k e):=by
 unfold sk at h;split at h
 .rename_i fs i h1 h2;simp at h;exact⟨_,i,h1,h2,h,.inl ⟨fs,rfl⟩⟩
 .rename_i k e i h1 h2;simp at h;exact⟨_,i,h1,h2,h,.inr ⟨k,e,rfl⟩⟩
 .split at h<;>simp at h
 cases h
theorem art{t:TypeId}(h:sk P t=some none):∃d i,P.underlying t=some d/\P.info? t=some i/\i.size=1/\(∀fs,d≠ .struct fs)/\ ∀k e,d≠ .array k e:=by
 unfold sk at h;split at h
 .simp at h
 .simp at h
 .rename_i d i n1 n2 h1 h2;split at h
  .rename_i hs;exact⟨_,_,h1,h2,hs,fun fs e=>n1 fs e,fun k e' e=>n2 k e' e⟩
  cases h
 cases h
theorem aiT{t:TypeId}{n:Nat}(h:sk P t=some (some n))(w:World):(isAgg t).run P w=.ok true w/\(sizeOf t).run P w=.ok n w:=by
 obtain⟨d,i,h1,h2,h3,h4⟩:=aru h;constructor
 .rcases h4 with⟨fs,rfl⟩|⟨k,e,rfl⟩<;>simp[isAgg,run_underlying h1]
 simp[sizeOf,typeInfo,h2,h3]
theorem aiS{t:TypeId}(h:sk P t=some none)(w:World):(isAgg t).run P w=.ok false w/\(sizeOf t).run P w=.ok 1 w:=by
 obtain⟨d,i,h1,h2,h3,h4,h5⟩:=art h;constructor
 .cases d<;>first
   |exact(h4 _ rfl).elim
   |exact(h5 _ _ rfl).elim
   |simp[isAgg,run_underlying h1]
 simp[sizeOf,typeInfo,h2,h3]
theorem ag2{m:Mem}{t:TypeId}{k:w_}(hk:sk P t=some k){v:Value}{cs:f_}(h:At m v cs){x:V}(hx:qW k cs=some x):
  ∃a y,v=.pointer (some a)/\(loadVar t a).run P m.w=.ok y m.w/\cq m x y:=by
 obtain⟨b,o,vs,rfl,dA,jI⟩:=h;cases k with
 |none=>
  obtain⟨h1,h2⟩:=aiS hk m.w;cases cs with
  |nil=>simp[qW]at hx
  |cons c r=>
   simp[qW]at hx;subst hx;obtain⟨hl,hr⟩:=dA;cases vs with
   |nil=>simp at hl
   |cons u us=>have h0:=jI 0 u rfl;refine⟨_,u,rfl,?_,cq.one.2 (hr 0 c u rfl rfl)⟩;rw[vr]at h0;simp[loadVar,h1,h0]
 |some n=>
  obtain⟨h1,h2⟩:=aiT hk m.w;simp only[qW]at hx;split at hx
  .rename_i hn;cases hx;obtain⟨hl,hr⟩:=dA;refine⟨_,.agg (vs.take n).toArray,rfl,?_,cq.agg.2 ⟨_,rfl,by simp;omega,fun j x u p q=>?_⟩⟩
   .have hlen:(vs.take n).length=n:=by simp;omega
    have:=run_loadCells_list (P:=P) m.w ⟨b,o,none⟩ (vs.take n) (fun j u q=>by
     rw[Addr.add_lit];rw[mA]at q;split at q
     .exact jI j u q
     cases q)
    rw[hlen]at this;simp[loadVar,h1,h2,this]
   rw[mA]at p;simp only[mA]at q;split at p
   .rename_i hj;simp only[hj,if_true]at q;exact hr j x u p q
   cases p
  cases hx
section
variable {m:Mem} {ak:Env} {a:Act} {o:Oper} (ay:Ok w0 m) (hr:jz m ak a.tmps)
include ay hr
theorem avL{t:TypeId}{x:Operand}{y:aU}{k:w_}{cs:f_}{rd:a_}{v:V}(ho:o.op=.load t x)(hk:sk P t=some k)(hx:cX x=some y)
  (hc:CV m.aj (ev ak y)=some (cs,rd)) (hv:qW k cs=some v):fZ P w0 a.eval o m v []:=by
 obtain⟨ad,y',h1,h2,h3⟩:=ag2 hk (aiy ay hc (eU hx hr)) hv;exact .calm ay (by simp[execOp,ho,h1,Instr.loadAt,Instr.sureAddr,h2]) h3
theorem avU{x:Operand}{y:aU}{v:V}(ho:o.op=.nilCheck x)(hx:cX x=some y)(hv:bN (fun _=>false) ak m.aj (.Lj y)=.done v [] []):fZ P w0 a.eval o m v []:=by
 have eQ:=eU hx hr;simp only[bN]at hv;split at hv
 .rename_i he;rw[he]at eQ;cases hv;have hc:dq m _ (a.eval x):=eQ;generalize hb:a.eval x=b at hc eQ;cases hc with
  |aZ ad hg h=>exact .calm ay (by simp[execOp,ho,hb]) eQ
 .rename_i he;rw[he]at eQ;cases hv;have hc:dq m _ (a.eval x):=eQ;generalize hb:a.eval x=b at hc eQ;cases hc with
  |dB ad hg h=>exact .calm ay (by simp[execOp,ho,hb]) eQ
 .rename_i he;rw[he]at eQ;cases hv;have hc:dq m _ (a.eval x):=eQ;generalize hb:a.eval x=b at hc eQ;cases hc with
  |p hp=>cases hp with
   |box b' o' f lX iv mM=>exact .calm ay (by simp[execOp,ho,hb]) eQ
 .rename_i he;rw[he]at eQ;cases hv;have hc:dq m _ (a.eval x):=eQ;generalize hb:a.eval x=b at hc eQ;cases hc with
  |hfn A B ha wX xh sa=>exact .calm ay (by simp[execOp,ho,hb]) eQ
 .rename_i he;rw[he]at eQ;cases hv;have hc:dq m _ (a.eval x):=eQ;generalize hb:a.eval x=b at hc eQ;cases hc with
  |p hp=>cases hp with
   |fn A B ha wX xh sa=>exact .calm ay (by simp[execOp,ho,hb]) eQ
 cases hv
end
end Go.Abs
namespace Go.Abs
variable {P:Program} {w0:World}
section
variable{vs:List Value}{off:Nat}
theorem cM.norm{w:World}{own:Nat->Prop}{x:PV}{v:Value}(h:cM w own x v):cM w own x.norm v:=by
 cases h<;>first
  |exact .Ah none 0 (fun _=>rfl) (bR _)
  |exact .Ah _ 0 (fun _=>rfl) (bR _)
  |(simp only[PV.norm];constructor<;>assumption)
theorem aw5{m:Mem}{c:C}{x:PV}{v:Value}(h:toP c=some x)(hr:dq m c v):cM m.w m.own x v:=by
 cases hr<;>simp[toP]at h
 rename_i hp;subst h;exact hp.norm
theorem Px{m:Mem}:∀ {cs:f_}{xs:b_}{vs:List Value},C0 cs=some xs->dK m cs vs->dJ m.w m.own xs vs:=by
 intro cs
 induction cs with
 |nil=>intro xs vs h hr;simp[C0]at h;subst h;exact⟨hr.1,fun j x u a=>by simp at a⟩
 |cons c r ih=>
  intro xs vs h hr;simp only[C0]at h;split at h
  .rename_i x ys h1 h2;cases h;cases vs with
   |nil=>simp[dK]at hr
   |cons v us=>
    obtain⟨hl,El⟩:=ih (vs:=us) h2 ⟨by simpa using hr.1,fun j x u a b=>hr.2 (j+1) x u (by simpa using a) (by simpa using b)⟩;refine⟨by simp[hl],fun j z u a b=>?_⟩;cases j with
    |zero=>simp at a b;subst a b;exact aw5 h1 (hr.2 0 c v rfl rfl)
    |succ j=>simp at a b;exact El j z u a b
  cases h
def Pw {α:Type}(R:α->Value->Prop)(xs:List α)(vs:List Value):Prop:=vs.length=xs.length/\ ∀(j:Nat) (x:α) (u:Value),xs[j]?=some x->vs[j]?=some u->R x u
theorem Pw.take{α:Type}{R:α->Value->Prop}{xs:List α}(h:Pw R xs vs)(n:Nat):Pw R (xs.take n) (vs.take n):=by
 refine⟨by simp[h.1],fun j x u a b=>?_⟩;rw[mA]at a b;split at a
 .rename_i hj;rw[aD hj]at b;exact h.2 j x u a b
 cases a
theorem Pw.drop{α:Type}{R:α->Value->Prop}{xs:List α}(h:Pw R xs vs)(n:Nat):Pw R (xs.drop n) (vs.drop n):=
 ⟨by simp[h.1],fun j x u a b=>h.2 (n+j) x u (by simpa using a) (by simpa using b)⟩
theorem Pw.append{α:Type}{R:α->Value->Prop}{xs ys:List α}{us:List Value}(h:Pw R xs vs)(k:Pw R ys us):Pw R (xs++ys) (vs++us):=by
 refine⟨by simp[h.1,k.1],fun j x u a b=>?_⟩;by_cases hj:j<xs.length
 .rw[xM hj]at a;rw[xM (by rw[h.1];exact hj)]at b;exact h.2 j x u a b
 rw[Aq aa]at a;rw[Aq (by rw[h.1];omega),h.1]at b;exact k.2 _ x u a b
theorem Pw.fj{α:Type}{R:α->Value->Prop}{xs ys:List α}{us:List Value}(h:Pw R xs vs)(k:Pw R ys us)(off:Nat):Pw R (fj xs off ys) (fj vs off us):=by unfold Abs.fj;rw[k.1];exact((h.take off).append k).append (h.drop _)
theorem Tu{α:Type}{cs xs:List α}(h:off+xs.length<=cs.length):(fj cs off xs).length=cs.length:=by simp[fj];omega
theorem ajx{α:Type}{cs xs:List α}{n:Nat}(h:off+xs.length<=n)(hn:n<=cs.length):(fj cs off xs).take n=fj (cs.take n) off xs:=by unfold fj;rw[Mk,Mk,GI,List.drop_take];simp only[fS,iz];rw[Au (by omega:off<=cs.length),GI,Au (by omega:off<=n),Nat.min_eq_right (by omega:off<=n)];have e:n-(off+xs.length)=n-(off+xs.length):=rfl;rw[gK (by omega:xs.length<=n-off)]
theorem awx{α:Type}{a cs xs:List α}:fj (a++cs) (a.length+off) xs=a++fj cs off xs:=by unfold fj;rw[Mk,akr];simp only[wH];rw[gK (by omega:a.length<=a.length+off),TT (by omega:a.length<=a.length+off+xs.length)];simp only[gn];have e1:a.length+off-a.length=off:=aa;have e2:a.length+off+xs.length-a.length=off+xs.length:=aa;rw[e1,e2]
theorem aww{α:Type}{a cs xs:List α}(h:off+xs.length<=a.length):fj (a++cs) off xs=fj a off xs++cs:=by unfold fj;rw[PW aa,aks aa];simp
theorem aoU{α:Type}{sz:Nat}{ps:List α}:∀ {es:List (List α)},(∀e∈es,e.length=sz)->∀ {i:Nat}{e:List α},es[i]?=some e->off+ps.length<=sz->
  (es.set i (fj e off ps)).flatten=fj es.flatten (i*sz+off) ps:=by
 intro es
 induction es with
 |nil=>intro _ i e h;simp at h
 |cons x r ih=>
  intro h i e he hl;have h1:=h x af;cases i with
  |zero=>simp at he;subst he;simp only[aaA,mT,BE,jx];rw[aww aa]
  |succ i=>
   simp at he;simp only[List.set_cons_succ,mT];rw[ih (fun y hy=>h y (by simp[hy])) he hl];have hh:(i+1)*sz+off=x.length+(i*sz+off):=by rw[h1,gY];omega
   rw[hh,awx]
theorem Ps{w:World}{g:Nat}{cur new:Array Value}{ty:TypeId}{fz:Nat×Nat}(h:w.heap[g]?=some (.cells cur ty fz)):(w.setRow g new).heap[g]?=some (.cells new ty fz):=setRow_heap w g cur new ty fz h
theorem dK.pw{m:Mem}{cs:f_}:dK m cs vs↔Pw (dq m) cs vs:=uv
theorem dJ.pw{w:World}{own:Nat->Prop}{cs:b_}:dJ w own cs vs↔Pw (cM w own) cs vs:=uv
theorem dK.one{m:Mem}{cs:f_}(h:dK m cs vs):∀v∈vs,v.oneCell'=true:=by
 intro v hv;obtain⟨j,hj⟩:=gV hv;have aA:j<cs.length:=by rw[<-h.1];exact(aT.1 hj).1
 exact(h.2 j _ v (rS aA) hj).O7
theorem UF{m:Mem}{x:V}{v:Value}{cs:f_}(h:sP x=some cs)(hr:cq m x v):dK m cs v.cells.toList:=by
 cases x with
 |undef=>simp[sP]at h
 |tup vs=>simp[sP]at h
 |one c=>
  simp[sP]at h;subst h;rw[(cq.one.1 hr).cells];refine⟨rfl,fun j y u p q=>?_⟩;cases j with
  |zero=>simp at p q;subst p q;exact hr
  |succ j=>simp at p
 |agg ds=>simp[sP]at h;subst h;obtain⟨arr,e,h⟩:=cq.agg.1 hr;rw[e];exact h
section
variable {m:Mem} {ak:Env} {a:Act} {o:Oper} (ay:Ok w0 m) (hr:jz m ak a.tmps)
include ay hr
theorem av1{t:TypeId}{x v:Operand}{x' v':aU}{n:Nat}{cs:f_}{r:V}{u:l_}{rd:a_}(ho:o.op=.store t x v)(hn:yL P t=some n)(hx:cX x=some x')(hv:cX v=some v')
  (hc:sP (ev ak v')=some cs) (hw:BB m.aj (ev ak x') n cs=.done r u rd):fZ P w0 a.eval o m r u:=by
 have dA:=UF hc (eU hv hr);have lZ:=eU hx hr;unfold yL at hn;simp only[dT]at hn;obtain⟨i,hi,jL⟩:=hn;have cT:(a.eval v).cells.toList.length=cs.length:=dA.1;simp only[PK]at cT;unfold BB at hw;split at hw
 .cases hw
 rename_i hlen;have hlen:cs.length=n:=by simpa using hlen
 have R7:=dA.one;split at hw
 .rename_i id g off he;rw[he]at lZ;have lZ:dq m _ (a.eval x):=lZ;generalize hb:a.eval x=b at lZ;cases lZ with
  |aZ ad hg oN=>
   split at hw
   .rename_i g' AU jh;split at hw
    .rename_i NO;obtain⟨ji,hfit⟩:=NO;cases hw;have bK:(m.aj id).2=some (.var AU):=by rw[jh]
     have oN:=oN (by rw[jh];exact ji) (by rw[bK];rfl);subst oN;obtain⟨cur,ty,hh,dS⟩:=ay.obj id _ bK;have cS:=dS.1;simp at cS;have Cb:off+0+(a.eval v).cells.toList.length<=cur.size:=by simp;omega
     have cV:=run_storeCells_at P (m.σ id) off ty (a.eval v).cells.toList 0 cur m.w hh Cb R7;simp only[vr]at cV;generalize hW:m.w.setRow (m.σ id) (cur.toList.take off++(a.eval v).cells.toList++cur.toList.drop (off+(a.eval v).cells.toList.length)).toArray=W at cV;have FL:W.heap.size=m.w.heap.size:=by rw[<-hW];simp
     have FK:∀c,c≠m.σ id->W.heap[c]?=m.w.heap[c]? :=fun c hc=>by rw[<-hW];exact setRow_other m.w (m.σ id) c _ hc
     have eF:=Pq (w':=W) (o:=.var (fj AU off cs)) bK rfl (by simp[lR]) (by rw[<-hW];rfl) (by rw[<-hW];rfl) (by rw[<-hW];rfl) FL FK;have Ej:uB (m.kO W id (.var (fj AU off cs))) id (.var (fj AU off cs)):=by
      refine⟨_,ty,by rw[<-hW];exact Ps hh,?_⟩;have:=dK.pw.2 ((dK.pw.1 (dS.ev eF.zero)).fj (dK.pw.1 (dA.ev eF.zero)) off)
      simpa [fj]using this
     refine⟨undef,m.kO W id (.var (fj AU off cs)),.inr ⟨?_,rfl⟩,Ti bK rfl ay (by simp[lR]) (by rw[<-hW];rfl) (by rw[<-hW];rfl) (by rw[<-hW];rfl) FL FK Ej,eF,rfl,?_,rfl⟩
     .simp only[execOp,ho,hb,Instr.storeAt,Instr.sureAddr,storeVar,sizeOf,typeInfo];simp[hi,cT,hlen,jL,cV,Mem.kO]
     simp[Mem.kO,app,jh,ji]
    cases hw
   cases hw
 .rename_i id g i' off he;rw[he]at lZ;have lZ:dq m _ (a.eval x):=lZ;generalize hb:a.eval x=b at lZ;cases lZ with
  |dB ad hg oN=>
   split at hw
   .rename_i g' ty sz es jh;split at hw
    .rename_i e ps HE R9;split at hw
     .rename_i NO;obtain⟨ji,hfit⟩:=NO;cases hw;have bK:(m.aj id).2=some (.arr ty sz es):=by rw[jh]
      have oN:=oN sz (by rw[jh];exact ji) (by rw[jh];rfl);subst oN;obtain⟨cur,hh,qN,uZ,hl,hm,ae7,dS⟩:=ay.obj id _ bK;have dB:=Ns uZ HE;have aqa:i'<es.length:=(aT.1 HE).1;have zN:(i'+1)*sz<=es.length*sz:=mV _ aqa;have afh:es.length*sz<=m.κ id*sz:=mV _ hl;rw[gY,Mn]at zN;have hpsl:ps.length=cs.length:=by rw[<-dA.1];exact(Px R9 dA).1.symm
      have Cb:i'*sz+off+0+(a.eval v).cells.toList.length<=cur.size:=by simp;omega
      have cV:=run_storeCells_at P (m.σ id) (i'*sz+off) ty (a.eval v).cells.toList 0 cur m.w hh Cb R7;simp only[vr]at cV;generalize hW:m.w.setRow (m.σ id) (cur.toList.take (i'*sz+off)++(a.eval v).cells.toList++cur.toList.drop (i'*sz+off+(a.eval v).cells.toList.length)).toArray=W at cV;have FL:W.heap.size=m.w.heap.size:=by rw[<-hW];simp
      have FK:∀c,c≠m.σ id->W.heap[c]?=m.w.heap[c]? :=fun c hc=>by rw[<-hW];exact setRow_other m.w (m.σ id) c _ hc
      have eF:=Pq (w':=W) (o:=.arr ty sz (es.set i' (fj e off ps))) bK rfl (by simp[lR]) (by rw[<-hW];rfl) (by rw[<-hW];rfl) (by rw[<-hW];rfl) FL FK;have Ej:uB (m.kO W id (.arr ty sz (es.set i' (fj e off ps)))) id (.arr ty sz (es.set i' (fj e off ps))):=by
       refine⟨_,by rw[<-hW];exact Ps hh,qN,?_,by rw[ux];exact hl,hm,?_,?_⟩
       .intro e' D0;rcases List.mem_or_eq_of_mem_set D0 with h|h
        .exact uZ e' h
        rw[h,Tu aa];exact dB
       .simp[Mem.kO];omega
       rw[ux,aoU uZ HE aa];have h1:=(dJ.pw.1 (dS.ev eF.zero)).fj (dJ.pw.1 ((Px R9 dA).ev eF.zero)) (i'*sz+off);rw[<-ajx (by simp;omega) (by simp;omega)]at h1;have h1:=dJ.pw.2 h1
       simpa [fj]using h1
      refine⟨undef,m.kO W id (.arr ty sz (es.set i' (fj e off ps))),.inr ⟨?_,rfl⟩,Ti bK rfl ay (by simp[lR]) (by rw[<-hW];rfl) (by rw[<-hW];rfl) (by rw[<-hW];rfl) FL FK Ej,eF,rfl,?_,rfl⟩
      .simp only[execOp,ho,hb,Instr.storeAt,Instr.sureAddr,storeVar,sizeOf,typeInfo];simp[hi,cT,hlen,jL,cV,Mem.kO]
      simp[Mem.kO,app,jh,ji]
     cases hw
    cases hw
   cases hw
 cases hw
end
end
end Go.Abs
namespace Go.Abs
variable {P:Program} {w0:World}
theorem AP{m:Mem}{x:V}{v:Value}{n:Nat}(h:qA x=some n)(hr:cq m x v):∃k,v=.int k (n:Int):=by
 unfold qA at h;split at h
 .rename_i k z;split at h
  .rename_i hz;cases h;exact⟨k,by rw[Es hr,ako hz]⟩
  cases h
 cases h
theorem Tl{t:TypeId}{n:Nat}(h:yL P t=some n)(w:World):(sizeOf t).run P w=.ok n w:=by unfold yL at h;simp only[dT]at h;obtain⟨i,hi,rfl⟩:=h;simp[sizeOf,typeInfo,hi]
section
variable {m:Mem} {ak:Env} {a:Act} {o:Oper} (ay:Ok w0 m) (hr:jz m ak a.tmps)
include ay hr
theorem avH{s:TypeId}{x:Operand}{f:Nat}{fs:Array Field}{d:Field}{y:aU}{v:V}(ho:o.op=.fieldAddr s x f)(hs:P.underlying s=some (.struct fs))(hf:fs[f]?=some d)
  (hz:P.cellsOf d.type≠0) (hx:cX x=some y) (hv:bN (fun _=>false) ak m.aj (.Hm d.offset y)=.done v [] []):fZ P w0 a.eval o m v []:=by
 have eQ:=eU hx hr;have cT:∃n,(sizeOf d.type).run P m.w=.ok n m.w/\n≠0:=by
  unfold Program.cellsOf at hz;cases hi:P.info? d.type with
  |none=>simp[hi]at hz
  |some i=>exact⟨i.size,by simp[sizeOf,typeInfo,hi],by simpa [hi]using hz⟩
 obtain⟨n,hn,iV⟩:=cT;have run:∀ad,a.eval x=.pointer (some ad)->(execOp a.eval o).run P m.w=.ok (.value (.pointer (some (ad.add d.offset)))) m.w:=by intro ad oN;simp[execOp,ho,oN,Instr.fieldAt,run_underlying hs,hf,Instr.sureAddr,fieldPlace,hn,iV]
 simp only[bN]at hv;split at hv
 .rename_i id g off he;rw[he]at eQ;cases hv;have hc:dq m _ (a.eval x):=eQ;generalize hb:a.eval x=b at hc;cases hc with
  |aZ ad hg h=>exact .calm ay (run _ hb) (cq.one.2 (.aZ _ hg fun h1 h2=>by rw[h h1 h2,Addr.add_lit]))
 .rename_i id g i off he;rw[he]at eQ;cases hv;have hc:dq m _ (a.eval x):=eQ;generalize hb:a.eval x=b at hc;cases hc with
  |dB ad hg h=>exact .calm ay (run _ hb) (cq.one.2 (.dB _ hg fun sz h1 h2=>by rw[h sz h1 h2,Addr.add_lit,EY]))
 .rename_i cs he;rw[he]at eQ;cases hv;have hc:dq m _ (a.eval x):=eQ;generalize hb:a.eval x=b at hc;cases hc with
  |p hp=>cases hp with
   |box b' o' f' lX iv mM=>refine .calm ay (run _ hb) (nA ?_);rw[Addr.add_lit];refine .box b' (o'+d.offset) (fun j=>f' (d.offset+j)) (fun h=>lX fun e=>h (by simp[e])) (fun j z h=>?_) fun j z h=>mM _ z (by simpa using h);rw[EY];exact iv _ z (by simpa using h)
 cases hv
theorem avJ{t e:TypeId}{x i:Operand}{sz:Nat}{x' i':aU}{v:V}(ho:o.op=.indexAddr t x i)(ht:P.underlying t=some (.slice e))(hs:yL P e=some sz)
  (hx:cX x=some x') (hi:cX i=some i') (hv:bN (fun _=>false) ak m.aj (.Ie sz x' i')=.done v [] []):fZ P w0 a.eval o m v []:=by
 have eQ:=eU hx hr;have KG:=eU hi hr;have run:∀ad len cap k (n:Nat),a.eval x=.slice (some ad) len cap->a.eval i=.int k (n:Int)->n<len->(execOp a.eval o).run P m.w=.ok (.value (.pointer (some (ad.add (n*sz))))) m.w:=by intro ad len cap k n h1 h2 h3;simp[execOp,ho,h1,h2,Instr.indexAt,asIntOf,run_underlying ht,Tl hs,h3]
 simp only[bN]at hv;split at hv
 .rename_i n es hn he;obtain⟨k,hk⟩:=AP hn KG;rw[he]at eQ;split at hv
  .rename_i el dB;split at hv
   .rename_i hlen;cases hv;have hc:dq m _ (a.eval x):=eQ;generalize hb:a.eval x=b at hc;cases hc with
    |p hp=>
     generalize iD:(PV.sl es)=pv at hp;cases hp<;>first
      |cases iD
      |skip
     .simp at dB
     rename_i b' o' cap cD f iU lX j7 cT uQ El;have aA:n<es.length:=(aT.1 dB).1;have Yj:cD=sz:=by rw[<-Ns cT dB];exact hlen
     subst Yj;refine .calm ay (run _ _ _ k n hb hk aA) (nA ?_);rw[Addr.add_lit];refine .box b' (o'+n*cD) (fun j=>f (n*cD+j)) (fun h=>lX ?_) (fun j z h=>?_) fun j z h=>?_
     .intro e0;cases el with
      |nil=>exact h rfl
      |cons c r=>have:=Hn cT dB (j:=0) (by rw[<-hlen];simp);rw[e0]at this;simp at this
     .have hj:j<cD:=by rw[<-hlen];exact(aT.1 h).1
      rw[EY];exact uQ _ z (by rw[Hn cT dB hj];exact h)
     have hj:j<cD:=by rw[<-hlen];exact(aT.1 h).1
     exact El _ z (by rw[Hn cT dB hj];exact h)
   cases hv
  cases hv
 .rename_i n id g z off len hn he;obtain⟨k,hk⟩:=AP hn KG;rw[he]at eQ;split at hv
  .rename_i aA;cases hv;have hc:dq m _ (a.eval x):=eQ;generalize hb:a.eval x=b at hc;cases hc with
   |hsl ad cap hg hl hm h=>refine .calm ay (run _ _ _ k n hb hk aA.1) (cq.one.2 (.dB _ hg fun s h1 h2=>?_));obtain⟨e1,e2,_⟩:=h s h1 h2;rw[e2 (.inr aa),Addr.add_lit,e1,aA.2];simp[gY]
  cases hv
 cases hv
theorem avu{t e:TypeId}{x i:Operand}{sz ln:Nat}{x' i':aU}{v:V}(ho:o.op=.indexAddr t x i)(ht:P.underlying t=some (.array ln e))(hs:yL P e=some sz)
  (hx:cX x=some x') (hi:cX i=some i') (hv:bN (fun _=>false) ak m.aj (.Jp ln sz x' i')=.done v [] []):fZ P w0 a.eval o m v []:=by
 have eQ:=eU hx hr;have KG:=eU hi hr;have run:∀ad k (n:Nat),a.eval x=.pointer (some ad)->a.eval i=.int k (n:Int)->n<ln->(execOp a.eval o).run P m.w=.ok (.value (.pointer (some (ad.add (n*sz))))) m.w:=by intro ad k n h1 h2 h3;simp[execOp,ho,h1,h2,Instr.indexAt,asIntOf,run_underlying ht,Tl hs,h3,Instr.sureAddr]
 simp only[bN]at hv;split at hv
 .rename_i n id g off hn he;obtain⟨k,hk⟩:=AP hn KG;rw[he]at eQ;split at hv
  .rename_i aA;cases hv;have hc:dq m _ (a.eval x):=eQ;generalize hb:a.eval x=b at hc;cases hc with
   |aZ ad hg h=>exact .calm ay (run _ k n hb hk aA) (cq.one.2 (.aZ _ hg fun h1 h2=>by rw[h h1 h2,Addr.add_lit]))
  cases hv
 .rename_i n id g j off hn he;obtain⟨k,hk⟩:=AP hn KG;rw[he]at eQ;split at hv
  .rename_i aA;cases hv;have hc:dq m _ (a.eval x):=eQ;generalize hb:a.eval x=b at hc;cases hc with
   |dB ad hg h=>exact .calm ay (run _ k n hb hk aA) (cq.one.2 (.dB _ hg fun s h1 h2=>by rw[h s h1 h2,Addr.add_lit,EY]))
  cases hv
 .rename_i n cs hn he;obtain⟨k,hk⟩:=AP hn KG;rw[he]at eQ;split at hv
  .rename_i aA;cases hv;have hc:dq m _ (a.eval x):=eQ;generalize hb:a.eval x=b at hc;cases hc with
   |p hp=>cases hp with
    |box b' o' f' lX iv mM=>refine .calm ay (run _ k n hb hk aA) (nA ?_);rw[Addr.add_lit];refine .box b' (o'+n*sz) (fun j=>f' (n*sz+j)) (fun h=>lX fun e=>h (by simp[e])) (fun j z h=>?_) fun j z h=>mM _ z (by simpa using h);rw[EY];exact iv _ z (by simpa using h)
  cases hv
 cases hv
theorem ah3{t:TypeId}{k:w_}(hk:sk P t=some k){cs:f_}{arr:Array Value}(hc:dK m cs arr.toList){off:Nat}{x:V}(hx:qW k (cs.drop off)=some x):
  ∃y,(part t arr off).run P m.w=.ok y m.w/\cq m x y:=by
 have _u0:=ay;have _u1:=hr;have hl:=hc.1;simp at hl;cases k with
 |none=>
  obtain⟨h1,h2⟩:=aiS hk m.w;cases hd:cs.drop off with
  |nil=>simp[hd,qW]at hx
  |cons c r=>
   simp[hd,qW]at hx;subst hx;have dA:cs[off]?=some c:=by
    have:=congrArg (·[0]?) hd
    simpa using this
   have aA:off<arr.size:=by rw[hl];exact(aT.1 dA).1
   refine⟨arr[off],by simp[part,h1,aA],cq.one.2 (hc.2 off c _ dA (by simp[aA]))⟩
 |some n=>
  obtain⟨h1,h2⟩:=aiT hk m.w;simp only[qW]at hx;split at hx
  .rename_i hn;cases hx;simp at hn;refine⟨.agg (arr.extract off (off+n)),by simp[part,h1,h2],cq.agg.2 ⟨_,rfl,by simp;omega,fun j x u p q=>?_⟩⟩;rw[mA]at p;split at p
   .rename_i hj;simp at p;refine hc.2 (off+j) x u p ?_;have aA:off+j<cs.length:=(aT.1 p).1;have he:(arr.extract off (off+n)).toList=(arr.toList.drop off).take n:=af;rw[he,mA,aD hj,Ar]at q;exact q
   cases p
  cases hx
theorem avI{t:TypeId}{x:Operand}{f:Nat}{fs:Array Field}{d:Field}{y:aU}{k:w_}{cs:f_}{v:V}(ho:o.op=.field t x f)(hs:P.underlying t=some (.struct fs))(hf:fs[f]?=some d)
  (hk:sk P d.type=some k) (hx:cX x=some y) (hy:ev ak y=.agg cs) (hv:qW k (cs.drop d.offset)=some v):fZ P w0 a.eval o m v []:=by
 have eQ:=eU hx hr;rw[hy]at eQ;obtain⟨arr,e,hc⟩:=cq.agg.1 eQ;obtain⟨z,h1,h2⟩:=ah3 (ay:=ay) (hr:=hr) hk hc hv;exact .calm ay (by simp[execOp,ho,e,Instr.field,run_underlying hs,hf,asAgg,h1]) h2
theorem avv{t e:TypeId}{x i:Operand}{ln sz:Nat}{x' i':aU}{k:w_}{n:Nat}{cs:f_}{v:V}(ho:o.op=.index t x i)(ht:P.underlying t=some (.array ln e))(hs:yL P e=some sz)
  (hk:sk P e=some k) (hx:cX x=some x') (hi:cX i=some i') (hn:qA (ev ak i')=some n) (aA:n<ln) (hy:ev ak x'=.agg cs) (hv:qW k (cs.drop (n*sz))=some v):fZ P w0 a.eval o m v []:=by
 have eQ:=eU hx hr;obtain⟨kk,w9⟩:=AP hn (eU hi hr);rw[hy]at eQ;obtain⟨arr,e',hc⟩:=cq.agg.1 eQ;obtain⟨z,h1,h2⟩:=ah3 (ay:=ay) (hr:=hr) hk hc hv;exact .calm ay (by simp[execOp,ho,e',w9,Instr.index,asIntOf,run_underlying ht,Tl hs,aA,h1]) h2
theorem avX{t:TypeId}{x i:Operand}{x' i':aU}{n:Nat}{s:ByteArray}{b:UInt8}(ho:o.op=.index t x i)(ht:P.underlying t=some .string)
  (hx:cX x=some x') (hi:cX i=some i') (hn:qA (ev ak i')=some n) (hy:ev ak x'=.one (.p (.str s))) (hb:s[n]?=some b):fZ P w0 a.eval o m (.one (.p (.int .u8 b.toNat))) []:=by
 have eQ:=eU hx hr;obtain⟨kk,w9⟩:=AP hn (eU hi hr);rw[hy]at eQ;exact .calm ay (by simp[execOp,ho,OS eQ,w9,Instr.index,asIntOf,run_underlying ht,hb]) (nA (.int _ _))
end
end Go.Abs
namespace Go.Abs
variable {P:Program} {w0:World}
theorem amn{op:BinOp}{t:TypeId}{k k':IntKind}{x y:Int}{v:PV}(w:World)(hk:k=k'\/op=.shl\/op=.shr)(h:uG op k x y=some v):
  ∃u,(binOp op t (.int k x) (.int k' y)).run P w=.ok u w/\ ∀own,cM w own v u:=by
 by_cases hs:op=.shl\/op=.shr
 .rcases hs with rfl|rfl
  .simp only[uG]at h;split at h
   .cases h
   rename_i hy;cases h;exact⟨_,by simp[binOp,Op.shift,hy],fun own=>.int _ _⟩
  simp only[uG]at h;split at h
  .cases h
  rename_i hy;cases h;exact⟨_,by simp[binOp,Op.shift,hy],fun own=>.int _ _⟩
 have w9:k=k':=by
  rcases hk with h|h
  .exact h
  exact(hs h).elim
 subst w9;cases op<;>simp only[uG]at h<;>first
  |cases h
  |skip
 all_goals first
  |exact(hs (.inl rfl)).elim
  |exact(hs (.inr rfl)).elim
  |(exact⟨_,by simp[binOp,Op.intArith,Op.intCmp,Op.intBits],fun own=>.int _ _⟩)
  |(exact⟨_,by simp[binOp,Op.intArith,Op.intCmp],fun own=>.bool _⟩)
  |(split at h
    .cases h
    rename_i hy;cases h;exact⟨_,by simp[binOp,Op.intDiv,hy],fun own=>.int _ _⟩)
theorem amp{op:BinOp}{t:TypeId}{x y:ByteArray}{v:PV}(w:World)(h:JB op x y=some v):
  ∃u,(binOp op t (.string x) (.string y)).run P w=.ok u w/\ ∀own,cM w own v u:=by
 cases op<;>simp only[JB]at h<;>first
  |cases h
  |skip
 all_goals first
  |exact⟨_,by simp[binOp,Op.stringOp],fun own=>.bool _⟩
  |(split at h
    .rename_i hl;cases h;refine⟨.string (x++y),?_,fun own=>.str _⟩;have:¬((x.size:Int)+(y.size:Int)>9223372036854775807):=aa;simp[binOp,Op.stringOp,this]
    cases h)
section
variable {m:Mem} {ak:Env} {a:Act} {o:Oper} (ay:Ok w0 m) (hr:jz m ak a.tmps)
include ay hr
theorem avy{op:BinOp}{t ty:TypeId}{x y:Operand}{x' y':aU}{v:V}(ho:o.op=.binOp op t x y ty)(hx:cX x=some x')(hy:cX y=some y')
  (hv:rW op (ev ak x') (ev ak y')=some v):fZ P w0 a.eval o m v []:=by
 have h1:=eU hx hr;have h2:=eU hy hr;unfold rW at hv;split at hv
 .rename_i k p k' q e1 e2;rw[e1]at h1;rw[e2]at h2;split at hv
  .rename_i hk;simp only[dT]at hv;obtain⟨u,hu,rfl⟩:=hv;obtain⟨z,hz,KS⟩:=amn (P:=P) (t:=t) m.w hk hu;refine .calm ay ?_ (nA (KS _));have hg:(eqGuard op t x y (.int k p) (.int k' q)).run P m.w=.ok () m.w:=by cases op<;>simp[eqGuard]
   simp[execOp,ho,Es h1,Es h2,hg,hz]
  cases hv
 .rename_i p q e1 e2;rw[e1]at h1;rw[e2]at h2;simp only[dT]at hv;obtain⟨u,hu,rfl⟩:=hv;obtain⟨z,hz,KS⟩:=amp (P:=P) (t:=t) m.w hu;refine .calm ay ?_ (nA (KS _));have hg:(eqGuard op t x y (.string p) (.string q)).run P m.w=.ok () m.w:=by cases op<;>simp[eqGuard]
  simp[execOp,ho,OS h1,OS h2,hg,hz]
 cases hv
theorem avV{t:TypeId}{x:Operand}{x':aU}{b:Bool}(ho:o.op=.unOp .not t x)(hx:cX x=some x')(hb:ev ak x'=.one (.p (.bool b))):fZ P w0 a.eval o m (.one (.p (.bool (!b)))) []:=by have h1:=eU hx hr;rw[hb]at h1;exact .calm ay (by simp[execOp,ho,Gc h1,Op.unary]) (nA (.bool _))
theorem avT{t:TypeId}{x:Operand}{x':aU}{k:IntKind}{n:Int}(ho:o.op=.unOp .neg t x)(hx:cX x=some x')(hb:ev ak x'=.one (.p (.int k n))):fZ P w0 a.eval o m (.one (.p (.int k (k.wrap (0-n))))) []:=by have h1:=eU hx hr;rw[hb]at h1;exact .calm ay (by simp[execOp,ho,Es h1,Op.unary,Op.intArith]) (nA (.int _ _))
theorem avF{s d:TypeId}{x:Operand}{x':aU}{ks k k0:IntKind}{n:Int}(ho:o.op=.convert s d x)(hs:P.underlying s=some (.int ks))(hd:P.underlying d=some (.int k))(hx:cX x=some x')
  (hb:ev ak x'=.one (.p (.int k0 n))):fZ P w0 a.eval o m (.one (.p (.int k (k.wrap n)))) []:=by
 have h1:=eU hx hr;rw[hb]at h1;exact .calm ay (by simp[execOp,ho,Es h1,convert,run_underlying hs,run_underlying hd,Conv.intToInt]) (nA (.int _ _))
theorem ahS:∀ {xs:List Operand}{ys:o_}{cs:f_},rl xs=some ys->xz ak ys=some cs->dK m cs (xs.map a.eval):=by
 have _u0:=ay;intro xs
 induction xs with
 |nil=>intro ys cs h1 h2;simp[rl]at h1;subst h1;simp[xz]at h2;subst h2;exact⟨rfl,fun j x u p=>by simp at p⟩
 |cons x r ih=>
  intro ys cs h1 h2;simp only[rl]at h1;split at h1
  .rename_i y ys' e1 e2;cases h1;simp only[xz]at h2;split at h2
   .rename_i c q e3 e4;cases h2;obtain⟨hl,El⟩:=ih e2 e4;refine⟨by simpa using hl,fun j z u p q=>?_⟩;cases j with
    |zero=>simp at p q;subst p q;have:=eU e1 hr;rw[e3]at this;exact this
    |succ j=>simp at p q;exact El j z u p (by simpa using q)
   cases h2
  cases h1
theorem avP{f:FuncId}{x y:Array Operand}{x' y':o_}{cs ds:f_}(ho:o.op=.makeFunc (.func f) x y)(hx:rl x.toList=some x')(hy:rl y.toList=some y')
  (hc:xz ak x'=some cs) (hd:xz ak y'=some ds):fZ P w0 a.eval o m (.one (.hfn f cs ds)) []:=by
 have h1:=ahS (ay:=ay) (hr:=hr) hx hc;have h2:=ahS (ay:=ay) (hr:=hr) hy hd;refine .calm (x:=.func (.func f) (x.map a.eval) (y.map a.eval)) ay (by simp[execOp,ho,Instr.makeFunc]) (cq.one.2 (.hfn _ _ ?_ ?_ ?_ ?_))
 .have:=h1.1;simpa using this
 .have:=h2.1;simpa using this
 .intro j z u p q;exact h1.2 j z u p (by rw[<-Array.toList_map,IX];exact q)
 intro j z u p q;exact h2.2 j z u p (by rw[<-Array.toList_map,IX];exact q)
theorem avG{x:Operand}{i:Nat}{x':aU}{vs:e_}{v:V}(ho:o.op=.extract x i)(hx:cX x=some x')(he:ev ak x'=.tup vs)(hv:vs[i]?=some v):fZ P w0 a.eval o m v []:=by
 have h1:=eU hx hr;rw[he]at h1;obtain⟨arr,e,hl,hc⟩:=h1;have aA:i<arr.size:=by rw[hl];exact(aT.1 hv).1
 exact .calm (x:=arr[i]) ay (by simp[execOp,ho,e,Instr.extract,aA]) (.of1 (hc i v _ hv (by simp[aA])))
theorem agW{x:V}{v:Value}{n:Nat}(h:zX x=some n)(hv:cq m x v):∃ad cap,v=.slice ad n cap/\n<=cap/\cap<=maxLen:=by
 have _u0:=ay;have _u1:=hr;unfold zX at h;split at h
 .cases h;exact⟨none,0,Sn hv,bY _,bR _⟩
 .cases h;obtain⟨hp⟩:dq m _ v:=hv;rename_i es;generalize iD:(PV.sl es)=pv at hp;cases hp<;>cases iD
  .exact⟨_,_,rfl,bR _,by assumption⟩
  exact⟨_,_,rfl,by assumption,by assumption⟩
 .cases h;have hc:dq m _ v:=hv;cases hc with
  |hsl ad cap hg hl hm h=>exact⟨_,_,rfl,hl,hm⟩
 cases h
theorem avK{c:Call}{x:Operand}{x':aU}{t e:TypeId}{n:Nat}(ho:o.op=.call c)(hc:c.callee=.builtin .len)(has:c.args= #[x])(jI:c.argTypes[0]?=some t)(ht:P.underlying t=some (.slice e))
  (hx:cX x=some x') (hn:zX (ev ak x')=some n):fZ P w0 a.eval o m (.one (.p (.int .i64 n))) []:=by
 obtain⟨ad,cap,h1,_,_⟩:=agW (ay:=ay) (hr:=hr) hn (eU hx hr);refine .calm ay ?_ (nA (.int _ _));simp[execOp,ho,resolve,hc,has,invoke,builtin,Builtin.len_,jI,h1,run_underlying ht,goInt]
theorem avY{c:Call}{x:Operand}{x':aU}{t:TypeId}{s:ByteArray}(ho:o.op=.call c)(hc:c.callee=.builtin .len)(has:c.args= #[x])(jI:c.argTypes[0]?=some t)(ht:P.underlying t=some .string)
  (hx:cX x=some x') (hn:ev ak x'=.one (.p (.str s))):fZ P w0 a.eval o m (.one (.p (.int .i64 s.size))) []:=by
 have h1:=eU hx hr;rw[hn]at h1;refine .calm ay ?_ (nA (.int _ _));simp[execOp,ho,resolve,hc,has,invoke,builtin,Builtin.len_,jI,OS h1,run_underlying ht,goInt]
theorem avN{c:Call}{x y:Operand}{x' y':aU}{k k':IntKind}{p q:Int}(ho:o.op=.call c)(hc:c.callee=.builtin .max)(has:c.args= #[x,y])
  (hx:cX x=some x') (hy:cX y=some y') (h1:ev ak x'=.one (.p (.int k p))) (h2:ev ak y'=.one (.p (.int k' q))):fZ P w0 a.eval o m (.one (.p (.int k (if q>p then q else p)))) []:=by
 have g1:=eU hx hr;have g2:=eU hy hr;rw[h1]at g1;rw[h2]at g2;refine .calm ay ?_ (nA (.int _ _));simp[execOp,ho,resolve,hc,has,invoke,builtin,Builtin.max_,Builtin.max2,Es g1,Es g2]
theorem avO{c:Call}{x y:Operand}{x' y':aU}{k k':IntKind}{p q:Int}(ho:o.op=.call c)(hc:c.callee=.builtin .min)(has:c.args= #[x,y])
  (hx:cX x=some x') (hy:cX y=some y') (h1:ev ak x'=.one (.p (.int k p))) (h2:ev ak y'=.one (.p (.int k' q))):fZ P w0 a.eval o m (.one (.p (.int k (if q<p then q else p)))) []:=by
 have g1:=eU hx hr;have g2:=eU hy hr;rw[h1]at g1;rw[h2]at g2;refine .calm ay ?_ (nA (.int _ _));simp[execOp,ho,resolve,hc,has,invoke,builtin,Builtin.min_,Builtin.min2,Es g1,Es g2]
end
end Go.Abs
namespace Go.Abs
variable {P:Program} {w0:World}
section
variable{sz:Nat}
theorem aly:∀(u:l_) (aj:aC) (id:Nat),(app u aj id=aj id/\ ∀e∈u,e.1≠id)\/ ∃e∈u,e.1=id/\app u aj id=e.2:=by
 intro u
 induction u with
 |nil=>intro aj id;exact .inl ⟨rfl,fun e h=>by simp at h⟩
 |cons x r ih=>
  intro aj id;obtain⟨i,o⟩:=x;simp only[app];rcases ih (eh aj i o) id with⟨h1,h2⟩|⟨e,he,h1,h2⟩
  .by_cases hi:id=i
   .exact .inr ⟨(i,o),af,hi.symm,by rw[h1];simp[aP,hi]⟩
   refine .inl ⟨by rw[h1];simp[aP,hi],fun e he=>?_⟩;rcases bJ.1 he with rfl|he
   .exact fun h=>hi h.symm
   exact h2 e he
  exact .inr ⟨e,by simp[he],h1,h2⟩
theorem JI{α β γ:Type}{f:α->Option (β×a_)}{R:α->γ->Prop}{T:β->γ->Prop}{fi:a_->Prop}(N7:∀a b,fi (a++b)->fi a/\fi b)
  (hf:∀a b r v,f a=some (b,r)->R a v->fi r->T b v):∀ {xs:List α}{ys:List β}{r:a_}{vs:List γ},collect f xs=some (ys,r)->fi r->
  (vs.length=xs.length/\ ∀(j:Nat) (x:α) (u:γ),xs[j]?=some x->vs[j]?=some u->R x u)->(vs.length=ys.length/\ ∀(j:Nat) (x:β) (u:γ),ys[j]?=some x->vs[j]?=some u->T x u):=by
 intro xs
 induction xs with
 |nil=>intro ys r vs h _ hr;simp[collect]at h;obtain⟨rfl,rfl⟩:=h;exact⟨hr.1,fun j x u a=>by simp at a⟩
 |cons x t ih=>
  intro ys r vs h hg hr;simp only[collect]at h;split at h
  .rename_i b p bs q e1 e2;cases h;obtain⟨g1,g2⟩:=N7 _ _ hg;cases vs with
   |nil=>simp at hr
   |cons v us=>
    obtain⟨hl,hh⟩:=ih (vs:=us) e2 g2 ⟨by simpa using hr.1,fun j x u a b=>hr.2 (j+1) x u (by simpa using a) (by simpa using b)⟩;refine⟨by simp[hl],fun j z u a b=>?_⟩;cases j with
    |zero=>simp at a b;subst a b;exact hf _ _ _ _ e1 (hr.2 0 x v rfl rfl) g1
    |succ j=>simp at a b;exact hh j z u a b
  cases h
def rj(m:Mem)(own:Nat->Prop)(r:a_):Prop:=(∀b,own b->m.own b)/\ ∀id∈r,¬own (m.σ id)
theorem rj.app{m:Mem}{own:Nat->Prop}{a b:a_}(h:rj m own (a++b)):rj m own a/\rj m own b:=
 ⟨⟨h.1,fun id hi=>h.2 id (by simp[hi])⟩,⟨h.1,fun id hi=>h.2 id (by simp[hi])⟩⟩
theorem cM.less{w:World}{own Bu:Nat->Prop}(h:∀b,Bu b->own b){x:PV}{v:Value}(hr:cM w own x v):cM w Bu x v:=hr.mono fun c _ hn=>⟨rfl,fun ho=>hn (h c ho)⟩
theorem dJ.less{w:World}{own Bu:Nat->Prop}(h:∀b,Bu b->own b){x:b_}{v:List Value}(hr:dJ w own x v):dJ w Bu x v:=⟨hr.1,fun j x u a b=>(hr.2 j x u a b).less h⟩
theorem aho{α:Type}{xs:List α}{R:α->Value->Prop}{vs:List Value}(h:Pw R xs vs):∃f:Nat->Value,∀(j:Nat) (x:α),xs[j]?=some x->vs[j]?=some (f j)/\R x (f j):=by
 refine⟨fun j=>vs.getD j undef,fun j x hx=>?_⟩;have aA:j<vs.length:=by rw[h.1];exact(aT.1 hx).1
 have:vs[j]?=some (vs.getD j undef):=by simp[List.getD,rS aA]
 exact⟨this,h.2 j x _ hx this⟩
theorem YT{w:World}{own:Nat->Prop}{b o:Nat}{cur:Array Value}{ty:TypeId}{fz:Nat×Nat}{ps:b_}(hh:w.heap[b]?=some (.cells cur ty fz))(hp:Pw (cM w own) ps (cur.toList.drop o |>.take ps.length))
  (ho:ps≠[]-> ¬own b):cM w own (.box ps) (.pointer (some ⟨b,o,none⟩)):=by
 obtain⟨f,hf⟩:=aho hp;refine .box b o f ho (fun j x hx=>?_) fun j x hx=>(hf j x hx).2;have h1:=(hf j x hx).1;rw[mA]at h1;split at h1
 .rw[Fk hh];simpa using h1
 cases h1
theorem ahp{w:World}{own:Nat->Prop}{b o cap sz:Nat}{cur:Array Value}{ty:TypeId}{fz:Nat×Nat}{es:s_}(hh:w.heap[b]?=some (.cells cur ty fz))(cT:∀e∈es,e.length=sz)
  (hl:es.length<=cap) (hm:cap<=maxLen) (hp:Pw (cM w own) es.flatten ((cur.toList.drop o).take (es.length*sz))) (ho:¬own b):cM w own (.sl es) (.slice (some ⟨b,o,none⟩) es.length cap):=by
 obtain⟨f,hf⟩:=aho hp;refine .sl b o cap sz f (fun _=>ho) hl hm cT (fun j x hx=>?_) fun j x hx=>(hf j x hx).2;have h1:=(hf j x hx).1;rw[mA]at h1;split at h1
 .rw[Fk hh];simpa using h1
 cases h1
theorem Re{α:Type}:∀ {es:List (List α)},(∀e∈es,e.length=sz)->∀(n:Nat),(es.drop n).flatten=es.flatten.drop (n*sz):=by
 intro es
 induction es with
 |nil=>intro _ n;simp
 |cons e r ih=>
  intro h n;cases n with
  |zero=>simp
  |succ n=>simp only[List.drop_succ_cons,mT];have h1:=h e af;rw[ih (fun x hx=>h x (by simp[hx])),akr,TT (by rw[h1,gY];omega:e.length<=(n+1)*sz),gn];congr 1;rw[h1,gY];omega
theorem Kb{α:Type}:∀ {es:List (List α)},(∀e∈es,e.length=sz)->∀(n:Nat),(es.take n).flatten=es.flatten.take (n*sz):=by
 intro es
 induction es with
 |nil=>intro _ n;simp
 |cons e r ih=>
  intro h n;cases n with
  |zero=>simp
  |succ n=>simp only[aaD,mT];have h1:=h e af;rw[ih (fun x hx=>h x (by simp[hx])),Mk,gK (by rw[h1,gY];omega:e.length<=(n+1)*sz)];congr 1;congr 1;rw[h1,gY];omega
theorem Gs{α:Type}{R:α->Value->Prop}{off len:Nat}{es:List (List α)}{cur:List Value}(cT:∀e∈es,e.length=sz)(h:Pw R es.flatten (cur.take (es.length*sz)))(hfit:off+len<=es.length):
  Pw R ((es.drop off).take len).flatten ((cur.drop (off*sz)).take (((es.drop off).take len).length*sz)):=by
 have OK:∀e∈es.drop off,e.length=sz:=fun e he=>cT e (xN he);have hlen:((es.drop off).take len).length=len:=by simp;omega
 rw[hlen,Kb OK,Re cT];have h1:=(h.drop (off*sz)).take (len*sz);have h2:((cur.take (es.length*sz)).drop (off*sz)).take (len*sz)=(cur.drop (off*sz)).take (len*sz):=by
  rw[List.drop_take,GI];congr 1;have:off*sz+len*sz<=es.length*sz:=by rw[<-gY];exact mV _ hfit
  omega
 rw[h2]at h1;exact h1
theorem Zv{α:Type}{R:α->Value->Prop}:∀ {ps:List (List α)}{cur:List Value},(∀e∈ps,e.length=sz)->ps.length*sz<=cur.length->
  (∀(j:Nat) (e:List α),ps[j]?=some e->Pw R e ((cur.drop (j*sz)).take sz))->Pw R ps.flatten (cur.take (ps.length*sz)):=by
 intro ps
 induction ps with
 |nil=>intro cur _ _ _;exact⟨af,fun j x u a=>by simp at a⟩
 |cons e r ih=>
  intro cur h hl hp;simp only[dI,gY,Mn]at hl;have h0:=hp 0 e rfl;rw[BE,PO]at h0;have h1:=ih (cur:=cur.drop sz) (fun x hx=>h x (by simp[hx])) (by simp;omega) fun j x hx=>by have:=hp (j+1) x (by simpa using hx);rw[gY,Mn]at this;rw[aap,Ml sz];exact this
  have h2:=h0.append h1;have h3:cur.take sz++(cur.drop sz).take (r.length*sz)=cur.take ((e::r).length*sz):=by rw[dI,gY,Mn,Ml,aaB]
  rw[h3]at h2;exact h2
theorem Xd{α:Type}{R:α->Value->Prop}{i:Nat}{es:List (List α)}{e:List α}{cur:List Value}(cT:∀e∈es,e.length=sz)(h:Pw R es.flatten (cur.take (es.length*sz)))(he:es[i]?=some e):
  Pw R e ((cur.drop (i*sz)).take sz):=by
 have hi:i<es.length:=(aT.1 he).1;have h1:=Gs (off:=i) (len:=1) cT h aa;have h0:((es.drop i).take 1)=[e]:=by rw[aaq hi];have:=(aT.1 he).2;simp[this]
 rw[h0]at h1
 simpa using h1
theorem UM{α β:Type}{f:α->Option (β×a_)}:∀ {xs:List α}{ys:List β}{r:a_},collect f xs=some (ys,r)->ys.length=xs.length:=by
 intro xs
 induction xs with
 |nil=>intro ys r h;simp[collect]at h;rw[h.1];rfl
 |cons x t ih=>
  intro ys r h;simp only[collect]at h;split at h
  .rename_i b p bs q e1 e2;cases h;simp[ih e2]
  cases h
theorem UL{α β:Type}{f:α->Option (β×a_)}:∀ {xs:List α}{ys:List β}{r:a_},collect f xs=some (ys,r)->∀ {j:Nat}{y:β},ys[j]?=some y->∃x q,xs[j]?=some x/\f x=some (y,q)/\ ∀i∈q,i∈r:=by
 intro xs
 induction xs with
 |nil=>intro ys r h j y hy;simp[collect]at h;rw[h.1]at hy;simp at hy
 |cons x t ih=>
  intro ys r h j y hy;simp only[collect]at h;split at h
  .rename_i b p bs q e1 e2;cases h;cases j with
   |zero=>simp at hy;subst hy;exact⟨x,p,rfl,e1,fun i hi=>by simp[hi]⟩
   |succ j=>simp at hy;obtain⟨x',q',h1,h2,h3⟩:=ih e2 hy;exact⟨x',q',by simpa using h1,h2,fun i hi=>by simp[h3 i hi]⟩
  cases h
theorem LP{m:Mem}(ay:Ok w0 m){own:Nat->Prop}:∀(n:Nat) {c:C}{x:PV}{r:a_}{v:Value},snap m.aj n c=some (x,r)->dq m c v->rj m own r->cM m.w own x v:=by
 intro n
 induction n with
 |zero=>intro c x r v h;simp[snap]at h
 |succ n ih=>
  intro c x r v h hr hs;have Ru:∀ {cs:f_}{ps:b_}{q:a_}{vs:List Value},collect (snap m.aj n) cs=some (ps,q)->rj m own q->Pw (dq m) cs vs->Pw (cM m.w own) ps vs:=fun h1 h2 h3=>JI (R:=dq m) (T:=cM m.w own) (fi:=rj m own) (fun a b h=>h.app) (fun a b r v e1 e2 e3=>ih e1 e2 e3) h1 h2 h3
  have RQ:∀ {ps:b_}{vs:List Value},dJ m.w m.own ps vs->Pw (cM m.w own) ps vs:=fun h=>dJ.pw.1 (h.less hs.1);unfold snap at h;cases c with
  |p y=>simp at h;obtain⟨rfl,rfl⟩:=h;obtain⟨hp⟩:=hr;exact hp.norm.less hs.1
  |aZ id g off=>
   cases hr with
   |aZ a hg ha=>
    simp only at h;split at h
    .rename_i g' cs hb;split at h
     .rename_i ji;split at h
      .rename_i ps q hq;cases h;have bK:(m.aj id).2=some (.var cs):=by rw[hb]
       have ha:=ha (by rw[hb];exact ji) (by rw[bK];rfl);subst ha;obtain⟨cur,ty,hh,hc⟩:=ay.obj id _ bK;have hp:=Ru hq ⟨hs.1,fun i hi=>hs.2 i (by simp[hi])⟩ (dK.pw.1 hc);refine YT hh ?_ fun _=>hs.2 id af;have h1:=hp.drop off;have h2:(cur.toList.drop off).take (ps.drop off).length=cur.toList.drop off:=gK (by have:=h1.1;omega);rw[h2];exact h1
      cases h
     cases h
    .rename_i g' ps hb;split at h
     .rename_i ji;cases h;have bK:(m.aj id).2=some (.fvar ps):=by rw[hb]
      have ha:=ha (by rw[hb];exact ji) (by rw[bK];rfl);subst ha;obtain⟨cur,ty,fz,hh,hc,_⟩:=ay.obj id _ bK;refine YT hh ?_ fun _=>hs.2 id af;have h1:=(RQ hc).drop off;have h2:(cur.toList.drop off).take (ps.drop off).length=cur.toList.drop off:=gK (by have:=h1.1;omega);rw[h2];exact h1
     cases h
    cases h
  |dB id g i off=>
   cases hr with
   |dB a hg ha=>
    have key:∀(ty sz:Nat) (es:s_) (e:b_) (cur:Array Value) (fz:Nat×Nat),m.w.heap[m.σ id]?=some (.cells cur ty fz)->(∀e∈es,e.length=sz)->es.length*sz<=cur.size->
      dJ m.w m.own es.flatten (cur.toList.take (es.length*sz))->es[i]?=some e->a=⟨m.σ id,i*sz+off,none⟩-> ¬own (m.σ id)->cM m.w own (.box (e.drop off)) (.pointer (some a)):=by
     intro ty sz es e cur fz hh cT hlen dS he yg dR;subst yg;have dB:=Ns cT he;have hi:i<es.length:=(aT.1 he).1;have zN:(i+1)*sz<=es.length*sz:=mV _ hi;have h1:=(Gs (off:=i) (len:=1) cT (RQ dS) aa).drop off;have h0:((es.drop i).take 1)=[e]:=by rw[aaq hi];have:=(aT.1 he).2;simp[this]
     rw[h0]at h1;simp only[mT,Jc,jG,dI,fe,jx,Mn]at h1;refine YT hh ?_ fun _=>dR;have h2:(cur.toList.drop (i*sz+off)).take (e.drop off).length=(((cur.toList.drop (i*sz)).take sz).drop off):=by rw[List.drop_take,aap,lH,dB]
     rw[h2];exact h1
    simp only at h;split at h
    .rename_i g' ty sz es hb;split at h
     .rename_i ji;simp only[dT,lK]at h;obtain⟨e,he,rfl,rfl⟩:=h;have bK:(m.aj id).2=some (.arr ty sz es):=by rw[hb]
      obtain⟨cur,hh,qN,cT,hl,hm,dA,dS⟩:=ay.obj id _ bK;exact key ty sz es e cur _ hh cT (by rw[dA];exact mV _ hl) dS he (ha sz (by rw[hb];exact ji) (by rw[hb];rfl)) (hs.2 id af)
     cases h
    .rename_i g' ty sz es hb;split at h
     .rename_i ji;simp only[dT,lK]at h;obtain⟨e,he,rfl,rfl⟩:=h;have bK:(m.aj id).2=some (.pL ty sz es):=by rw[hb]
      obtain⟨cur,fz,hh,qN,cT,hl,hm,dA,dS,_⟩:=ay.obj id _ bK;exact key ty sz es e cur _ hh cT (by rw[dA];exact mV _ hl) dS he (ha sz (by rw[hb];exact ji) (by rw[hb];rfl)) (hs.2 id af)
     cases h
    cases h
  |hsl id g z off len=>
   cases hr with
   |hsl a cap hg hl hm ha=>
    have key:∀(ty sz:Nat) (es:s_) (cur:Array Value) (fz:Nat×Nat),m.w.heap[m.σ id]?=some (.cells cur ty fz)->(∀e∈es,e.length=sz)->Pw (cM m.w own) es.flatten (cur.toList.take (es.length*sz))->
      off+len<=es.length->(off=0\/0<len->a=⟨m.σ id,off*sz,none⟩)-> ¬own (m.σ id)->cM m.w own (.sl ((es.drop off).take len)) (.slice (some a) len cap):=by
     intro ty sz es cur fz hh cT dS hfit yg dR;by_cases hlen:len=0
     .subst hlen;simp only[List.take_zero];exact .Ah _ _ (fun h=>by cases h) hm
     have:=yg (.inr aa);subst this;have hle:((es.drop off).take len).length=len:=by simp;omega
     have h1:=ahp (cap:=cap) (own:=own) (o:=off*sz) (es:=(es.drop off).take len) hh (sz:=sz) (fun e he=>cT e (xN (yV he))) aa hm (Gs cT dS hfit) dR;rw[hle]at h1;exact h1
    simp only at h;split at h
    .rename_i g' ty sz es hb;split at h
     .rename_i hc;cases h;have bK:(m.aj id).2=some (.arr ty sz es):=by rw[hb]
      obtain⟨cur,hh,qN,cT,j7,iU,dA,dS⟩:=ay.obj id _ bK;exact key ty sz es cur _ hh cT (RQ dS) hc.2 (by obtain⟨_,h2,_⟩:=ha sz (by rw[hb];exact hc.1) (by rw[hb];rfl);rename_i e1 _;exact e1▸h2) (hs.2 id af)
     cases h
    .rename_i g' ty sz es hb;split at h
     .rename_i hc;cases h;have bK:(m.aj id).2=some (.pL ty sz es):=by rw[hb]
      obtain⟨cur,fz,hh,qN,cT,j7,iU,dA,dS,_⟩:=ay.obj id _ bK;exact key ty sz es cur _ hh cT (RQ dS) hc.2 (by obtain⟨_,h2,_⟩:=ha sz (by rw[hb];exact hc.1) (by rw[hb];rfl);exact h2) (hs.2 id af)
     cases h
    .rename_i g' ty sz es hb;split at h
     .rename_i hc;split at h
      .rename_i ps q hq;cases h;have bK:(m.aj id).2=some (.jo ty sz es):=by rw[hb]
       obtain⟨cur,hh,qN,cT,j7,iU,dA,dS⟩:=ay.obj id _ bK;have Yg:=Gs cT (dK.pw.1 dS) hc.2;have OK:∀e∈(es.drop off).take len,e.length=sz:=fun e he=>cT e (xN (yV he));have hle:((es.drop off).take len).length=len:=by simp;omega
       have bU:ps.length=len:=by rw[UM hq,hle]
       have mj:len*sz<=(cur.toList.drop (off*sz)).length:=by
        simp;have h1:off*sz+len*sz<=es.length*sz:=by rw[<-gY];exact mV _ hc.2
        have h2:es.length*sz<=m.κ id*sz:=mV _ j7;omega
       have pR:∀(j:Nat) (e:b_),ps[j]?=some e->Pw (cM m.w own) e (((cur.toList.drop (off*sz)).drop (j*sz)).take sz):=by intro j e he;obtain⟨x,q',h1,h2,h3⟩:=UL hq he;exact Ru h2 ⟨hs.1,fun i hi=>hs.2 i (by simp[h3 i hi])⟩ (Xd OK Yg h1)
       have F1:∀e∈ps,e.length=sz:=by
        intro e he;obtain⟨j,hj⟩:=gV he;have:=(pR j e hj).1;have nQ:j<len:=by rw[<-bU];exact(aT.1 hj).1
        have h1:(j+1)*sz<=len*sz:=mV _ nQ;rw[gY]at h1;simp at this mj;omega
       by_cases hlen:len=0
       .have:ps=[]:=akt aa;subst this;subst hlen;exact .Ah _ _ (fun h=>by cases h) hm
       obtain⟨_,h2,_⟩:=ha sz (by rw[hb];exact hc.1) (by rw[hb];rfl);rename_i e1 _;have yg:=h2 (.inr aa);subst yg;have w8:=ahp (cap:=cap) (own:=own) (o:=off*sz) hh F1 aa hm (Zv F1 (by rw[bU];exact mj) pR) (hs.2 id af);rw[bU]at w8;exact w8
      cases h
     cases h
    cases h
  |kL id g=>
   cases hr with
   |kL r' hg ha=>
    have key:∀(ag:Bool) (es:t_) (ents:Array MapEntry) (clock:Nat),m.w.heap[m.σ id]?=some (.map ents clock)->ents.size=es.length->
      (∀(i:Nat) (q:PV) (v:b_) (e:MapEntry),es[i]?=some (q,v)->ents[i]?=some e->cM m.w m.own q e.key/\ ∃g:Array Value,(ag=true->e.val=.agg g)/\(ag=false-> #[e.val]=g)/\dJ m.w m.own v g.toList)->
      ¬own (m.σ id)->cM m.w own (.mp ag es) (.map (some (m.σ id))):=by
     intro ag es ents clock hh hl hc dR;have hch:∃G:Nat->Array Value,∀(i:Nat) (q:PV) (v:b_) (e:MapEntry),es[i]?=some (q,v)->ents[i]?=some e->(ag=true->e.val=.agg (G i))/\(ag=false-> #[e.val]=G i)/\dJ m.w m.own v (G i).toList:=by
      refine⟨fun i=>match ents[i]? with|some e=>(match e.val with| .agg g=>if ag then g else #[e.val]|v=> #[v])|none=> #[],fun i q v e h1 h2=>?_⟩;obtain⟨_,g,g1,g2,g3⟩:=hc i q v e h1 h2;simp only[h2];cases ag with
      |true=>have:=g1 rfl;simp[this];exact g3
      |false=>
       have:=g2 rfl;subst this;refine⟨(fun h=>by cases h),(fun _=>?_),?_⟩
       .cases e.val<;>rfl
       cases hv:e.val<;>simp only[hv]at g3<;>exact g3
     obtain⟨G,hG⟩:=hch;refine .mp (m.σ id) ents clock G dR hh hl (fun i q v e h1 h2=>((hc i q v e h1 h2).1).less hs.1) (fun i q v e h1 h2=>?_) fun i q v j x u h1 h2 h3=>?_
     .obtain⟨a1,a2,a3⟩:=hG i q v e h1 h2;exact⟨by have:=a3.1;simpa using this,a1,a2⟩
     have aA:i<ents.size:=by rw[hl];exact(aT.1 h1).1
     obtain⟨a1,a2,a3⟩:=hG i q v _ h1 (Array.getElem?_eq_getElem aA);exact(a3.2 j x u h2 (by rw[IX];exact h3)).less hs.1
    simp only at h;split at h
    .rename_i g' ag es hb;split at h
     .rename_i ji;cases h;have bK:(m.aj id).2=some (.map ag es):=by rw[hb]
      have ha:=ha (by rw[hb];exact ji) (by rw[bK];rfl);subst ha;obtain⟨ents,clock,hh,hl,hc⟩:=ay.obj id _ bK;exact key ag es ents clock hh hl hc (hs.2 id af)
     cases h
    .rename_i g' ag es hb;split at h
     .rename_i ji;cases h;have bK:(m.aj id).2=some (.fmap ag es):=by rw[hb]
      have ha:=ha (by rw[hb];exact ji) (by rw[bK];rfl);subst ha;obtain⟨ents,clock,hh,hl,hc,_⟩:=ay.obj id _ bK;exact key ag es ents clock hh hl hc (hs.2 id af)
     cases h
    cases h
  |hfn f a b=>
   cases hr with
   |hfn A B hA hB xh sa=>
    simp only at h;split at h
    .rename_i xa ra xb rb h1 h2;cases h;obtain⟨s1,s2⟩:=hs.app;have p1:=Ru (vs:=A.toList) h1 s1 ⟨by simpa using hA,fun j x u p q=>xh j x u p (by rw[<-IX];exact q)⟩;have p2:=Ru (vs:=B.toList) h2 s2 ⟨by simpa using hB,fun j x u p q=>sa j x u p (by rw[<-IX];exact q)⟩;exact .fn A B (by have:=p1.1;simpa using this) (by have:=p2.1;simpa using this) (fun j x u p q=>p1.2 j x u p (by rw[IX];exact q)) fun j x u p q=>p2.2 j x u p (by rw[IX];exact q)
    cases h
end
end Go.Abs
namespace Go.Abs
variable {P:Program} {w0:World}
theorem ao7{aj:aC}{all:a_}:∀ {l:a_}{u:l_},uN aj all l=some u->
  (∀e∈u,e.1∈l/\ ∃x,xY aj all e.1=some x/\e∈x)/\ ∀id∈l,∃x,xY aj all id=some x/\ ∀e∈x,e∈u:=by
 intro l
 induction l with
 |nil=>intro u h;simp[uN]at h;subst h;exact⟨fun e h=>by simp at h,fun id h=>by simp at h⟩
 |cons i r ih=>
  intro u h;simp only[uN]at h;split at h
  .rename_i a b h1 h2;cases h;obtain⟨g1,g2⟩:=ih h2;have aff:∀e∈a,e.1=i:=by
    intro e he;unfold xY at h1;split at h1<;>first
     |(cases h1;simp at he;subst he;rfl)
     |(split at h1
       .split at h1
        .cases h1;simp at he;subst he;rfl
        cases h1
       cases h1)
     |(cases h1;simp at he)
     |cases h1
   refine⟨fun e he=>?_,fun id hid=>?_⟩
   .rcases eO.1 he with he|he
    .exact⟨by simp[aff e he],a,by rw[aff e he];exact h1,he⟩
    obtain⟨k1,k2⟩:=g1 e he;exact⟨by simp[k1],k2⟩
   rcases bJ.1 hid with rfl|hid
   .exact⟨a,h1,fun e he=>by simp[he]⟩
   obtain⟨x,k1,k2⟩:=g2 id hid;exact⟨x,k1,fun e he=>by simp[k2 e he]⟩
  cases h
def Jh(aj:aC)(all:a_):Ob->Ob->Prop
 | .var cs,.fvar ps=>∃r,collect (snap aj gG) cs=some (ps,r)/\ ∀i∈r,i∈all
 | .arr ty sz es,.pL kB cD ib=>kB=ty/\cD=sz/\ib=es
 | .jo ty sz es,.pL kB cD ps=>kB=ty/\cD=sz/\ ∃r,collect (collect (snap aj gG)) es=some (ps,r)/\ ∀i∈r,i∈all
 | .map ag es,.fmap sL ib=>sL=ag/\ib=es
 |_,_=>False
theorem Jh.facts{aj:aC}{all:a_}{o o':Ob}(h:Jh aj all o o')(g:Nat):o.fX=true/\o'.fX=false/\lR (g,some o')=lR (g,some o):=by
 cases o<;>cases o'<;>simp only[Jh]at h<;>first
  |exact h.elim
  |exact⟨rfl,rfl,rfl⟩
  |exact⟨rfl,rfl,by simp[lR,h.2.1]⟩
theorem aey{aj:aC}{all:a_}{id:Nat}{x:l_}(h:xY aj all id=some x):
  (∃o,(aj id).2=some o/\o.fX=false/\x=[])\/ ∃o o',(aj id).2=some o/\Jh aj all o o'/\x=[(id,((aj id).1,some o'))]:=by
 unfold xY at h;split at h
 .rename_i g cs hb;split at h
  .rename_i ps r hc;split at h
   .rename_i dz;cases h;refine .inr ⟨.var cs,.fvar ps,by rw[hb],⟨r,hc,fun i hi=>?_⟩,by rw[hb]⟩;have:=gk.1 dz i hi
    simpa using this
   cases h
  cases h
 .rename_i g ty sz es hb;cases h;exact .inr ⟨.arr ty sz es,.pL ty sz es,by rw[hb],⟨rfl,rfl,rfl⟩,by rw[hb]⟩
 .rename_i g ty sz es hb;split at h
  .rename_i ps r hc;split at h
   .rename_i dz;cases h;refine .inr ⟨.jo ty sz es,.pL ty sz ps,by rw[hb],⟨rfl,rfl,r,hc,fun i hi=>?_⟩,by rw[hb]⟩;have:=gk.1 dz i hi
    simpa using this
   cases h
  cases h
 .rename_i g ag es hb;cases h;exact .inr ⟨.map ag es,.fmap ag es,by rw[hb],⟨rfl,rfl⟩,by rw[hb]⟩
 .cases h
 rename_i y n1 n2 n3 n4 n5;cases h;cases hb:aj id with
 |mk g o=>
  cases o with
  |none=>exact(n5 g hb).elim
  |some o=>
   refine .inl ⟨o,rfl,?_,rfl⟩;cases o with
   |var cs=>exact(n1 g cs hb).elim
   |arr ty sz es=>exact(n2 g ty sz es hb).elim
   |jo ty sz es=>exact(n3 g ty sz es hb).elim
   |map ag es=>exact(n4 g ag es hb).elim
   |_=>rfl
def Mem.with(m:Mem)(u:l_):Mem:={m with aj:=app u m.aj}
theorem xZ{m:Mem}{ids:a_}{u:l_}(h:sW m.aj ids=some u)(id:Nat):
  ((m.with u).aj id=m.aj id/\(id∈ids->∃o,(m.aj id).2=some o/\o.fX=false))\/
  (id∈ids/\ ∃o o',(m.aj id).2=some o/\Jh m.aj ids o o'/\(m.with u).aj id=((m.aj id).1,some o')):=by
 obtain⟨h1,h2⟩:=ao7 h;rcases aly u m.aj id with⟨e1,e2⟩|⟨e,he,e1,e2⟩
 .refine .inl ⟨e1,fun hid=>?_⟩;obtain⟨x,hx,Ib⟩:=h2 id hid;rcases aey hx with⟨o,a,b,_⟩|⟨o,o',a,b,c⟩
  .exact⟨o,a,b⟩
  exact(e2 (id,(m.aj id).fst,some o') (Ib _ (by rw[c];simp)) rfl).elim
 obtain⟨k1,x,k2,k3⟩:=h1 e he;rw[e1]at k1 k2;rcases aey k2 with⟨o,a,b,c⟩|⟨o,o',a,b,c⟩
 .rw[c]at k3;simp at k3
 rw[c]at k3;simp at k3;refine .inr ⟨k1,o,o',a,b,?_⟩;simp only[Mem.with];rw[e2,k3]
theorem Xm{m:Mem}{ids:a_}{u:l_}(h:sW m.aj ids=some u){c:Nat}(hc:(m.with u).own c):m.own c:=by
 rcases hc with hc|⟨id,o,h1,h2,h3⟩
 .exact .inl hc
 rcases xZ h id with⟨e,_⟩|⟨_,p,q,a,b,e⟩
 .rw[e]at h1;exact .inr ⟨id,o,h1,h2,h3⟩
 rw[e]at h1;cases h1;rw[(b.facts 0).2.1]at h2;cases h2
theorem Xn{m:Mem}(ay:Ok w0 m){ids:a_}{u:l_}(h:sW m.aj ids=some u):rj m (m.with u).own ids:=by
 refine⟨fun b hb=>Xm h hb,fun id hid hc=>?_⟩;rcases xZ h id with⟨e,hn⟩|⟨_,o,o',a,b,e⟩
 .obtain⟨o,ho,hm⟩:=hn hid;exact(ay.obj id o ho).calm hm (Xm h hc)
 rcases hc with hc|⟨fy,q,h1,h2,h3⟩
 .exact(ay.hJ id o a (b.facts 0).1).2 hc
 by_cases hi:fy=id
 .subst hi;rw[e]at h1;cases h1;rw[(b.facts 0).2.1]at h2;cases h2
 rcases xZ h fy with⟨e',_⟩|⟨_,p',q',a',b',e'⟩
 .rw[e']at h1;exact hi (ay.inj fy id q o h1 h2 a (b.facts 0).1 h3)
 rw[e']at h1;cases h1;rw[(b'.facts 0).2.1]at h2;cases h2
theorem Xk{m:Mem}{ids:a_}{u:l_}(h:sW m.aj ids=some u):Ev m (m.with u) where
 os:=rfl
 tape:=rfl
 output:=rfl
 size:=bY _
 keep _ _ _:=rfl
 fX c _ hc:=by
  obtain⟨id,o,h1,h2,h3⟩:=hc;rcases xZ h id with⟨e,_⟩|⟨_,p,q,a,b,e⟩
  .rw[e]at h1;exact⟨id,o,h1,h2,h3⟩
  rw[e]at h1;cases h1;rw[(b.facts 0).2.1]at h2;cases h2
 less c _ hn hc:=hn (Xm h hc)
 gen id:=by rcases xZ h id with⟨e,_⟩|⟨_,p,q,a,b,e⟩<;>rw[e]<;>exact bY _
 ref id he hs:=by
  rcases xZ h id with⟨e,_⟩|⟨_,p,q,a,b,e⟩
  .rw[e]at hs |-;exact⟨hs,rfl,rfl,rfl⟩
  rw[e]at hs |-;refine⟨by rw[a];rfl,rfl,rfl,?_⟩;have h1:m.aj id=((m.aj id).1,some p):=by rw[<-a]
  rw[(b.facts (m.aj id).1).2.2,<-h1]
theorem aez{m:Mem}(ay:Ok w0 m){ids:a_}{u:l_}(h:sW m.aj ids=some u):Ok w0 (m.with u) where
 os:=ay.os
 tape:=ay.tape
 output:=ay.output
 size:=ay.size
 base:=ay.base
 obj id o ho:=by
  have eF:=Xk h;have pW:=Xn ay h;rcases xZ h id with⟨e,_⟩|⟨hid,p,q,a,b,e⟩
  .rw[e]at ho;exact(ay.obj id o ho).ev eF.zero rfl rfl rfl
  rw[e]at ho;cases ho;have dR:=pW.2 id hid;have Sb:∀r:a_,(∀i∈r,i∈ids)->rj m (m.with u).own r:=fun r hr=>⟨pW.1,fun i hi=>pW.2 i (hr i hi)⟩;have R8:=ay.obj id p a;cases p<;>cases o<;>simp only[Jh]at b<;>first
   |exact b.elim
   |skip
  .obtain⟨r,hc,hr⟩:=b;obtain⟨cur,ty,hh,dA⟩:=R8;exact⟨cur,ty,(0,0),hh,dJ.pw.2 (JI (R:=dq m) (T:=cM m.w (m.with u).own) (fi:=rj m (m.with u).own) (fun a b h=>h.app) (fun a b r v e1 e2 e3=>LP ay _ e1 e2 e3) hc (Sb r hr) (dK.pw.1 dA)),dR⟩
  .obtain⟨rfl,rfl,rfl⟩:=b;obtain⟨cur,hh,qN,cT,hl,hm,dA,dS⟩:=R8;exact⟨cur,(0,0),hh,qN,cT,hl,hm,dA,dS.less pW.1,dR⟩
  .obtain⟨rfl,rfl,r,hc,hr⟩:=b;obtain⟨cur,hh,qN,cT,hl,hm,dA,dS⟩:=R8;rename_i es _ sz ps;have bU:ps.length=es.length:=UM hc;have mj:ps.length*sz<=cur.toList.length:=by
    have h2:es.length*sz<=m.κ id*sz:=mV _ hl;simp;rw[bU];omega
   have pR:∀(j:Nat) (e:b_),ps[j]?=some e->Pw (cM m.w (m.with u).own) e ((cur.toList.drop (j*sz)).take sz):=by intro j e he;obtain⟨x,q',h1,h2,h3⟩:=UL hc he;exact JI (R:=dq m) (T:=cM m.w (m.with u).own) (fi:=rj m (m.with u).own) (fun a b h=>h.app) (fun a b r v e1 e2 e3=>LP ay _ e1 e2 e3) h2 (Sb q' fun i hi=>hr i (h3 i hi)) (Xd cT (dK.pw.1 dS) h1)
   have F1:∀e∈ps,e.length=sz:=by intro e he;obtain⟨j,hj⟩:=gV he;have:=(pR j e hj).1;have nQ:j<ps.length:=(aT.1 hj).1;have h1:(j+1)*sz<=ps.length*sz:=mV _ nQ;rw[gY]at h1;simp at this mj;omega
   exact⟨cur,(0,0),hh,qN,F1,by rw[bU];exact hl,hm,dA,dJ.pw.2 (Zv F1 mj pR),dR⟩
  obtain⟨rfl,rfl⟩:=b;obtain⟨ents,clock,hh,hl,hc⟩:=R8;exact⟨ents,clock,hh,hl,fun i q v e h1 h2=>let ⟨p,g,g1,g2,g3⟩:=hc i q v e h1 h2;⟨p.less pW.1,g,g1,g2,g3.less pW.1⟩,dR⟩
 hJ id o ho hm:=by
  rcases xZ h id with⟨e,_⟩|⟨_,p,q,a,b,e⟩
  .rw[e]at ho;exact ay.hJ id o ho hm
  rw[e]at ho;cases ho;rw[(b.facts 0).2.1]at hm;cases hm
 frlt:=ay.frlt
 inj id fy o o' h1 m1 h2 m2 he:=by
  rcases xZ h id with⟨e,_⟩|⟨_,p,q,a,b,e⟩
  .rcases xZ h fy with⟨e',_⟩|⟨_,p',q',a',b',e'⟩
   .rw[e]at h1;rw[e']at h2;exact ay.inj id fy o o' h1 m1 h2 m2 he
   rw[e']at h2;cases h2;rw[(b'.facts 0).2.1]at m2;cases m2
  rw[e]at h1;cases h1;rw[(b.facts 0).2.1]at m1;cases m1
end Go.Abs
namespace Go.Abs
variable {P:Program} {w0:World}
section
variable{w':World}
def Mem.kZ(m:Mem)(w':World)(s c k:Nat)(o:Ob):Mem:=(m.later w' (· =c)).install s c k o
section
variable {m:Mem} {w':World} {s c k:Nat} {o:Ob} (hg:fU m.w w') (je:m.w.heap.size<=c) (qJ:c<w'.heap.size)
theorem Ke(ay:Ok w0 m)(je:m.w.heap.size<=c):(m.kZ w' s c k o).fr=m.fr:=by
 funext x;simp only[Mem.kZ,Mem.install,Mem.later];apply propext;constructor
 .rintro ⟨h|h,h2⟩
  .exact h
  exact(h2 h).elim
 intro h;exact⟨.inl h,fun e=>by have:=ay.frlt x h;omega⟩
include hg je
theorem Kd:Ev m (m.kZ w' s c k o):=Sj (K4 hg fun x hx=>by subst hx;exact je) (.inr rfl) (.inl je)
include qJ
theorem Kf(ay:Ok w0 m)(ho:uB (m.kZ w' s c k o) s o):Ok w0 (m.kZ w' s c k o):=Sk (OW ay hg fun x hx=>by subst hx;exact⟨je,qJ⟩) (.inr rfl) (oz ay.size je) ho
end
theorem FA{m:Mem}{s c k:Nat}{o:Ob}:(m.kZ w' s c k o).σ s=c:=by simp[Mem.kZ,Mem.install,aP]
theorem rB{m:Mem}{s c k:Nat}{o:Ob}:(m.kZ w' s c k o).κ s=k:=by simp[Mem.kZ,Mem.install,aP]
theorem Xg{m:Mem}{s c k:Nat}{o:Ob}:(m.kZ w' s c k o).aj=app [(s,((m.aj s).1+1,some o))] m.aj:=rfl
theorem Xh{m:Mem}{s c k:Nat}{o:Ob}:(m.kZ w' s c k o).w=w':=rfl
theorem Nn{m:Mem}{s c cap ty sz:Nat}{es:s_}{n:Nat}(hn:n<=cap)(hm:cap<=maxLen):
  cq (m.kZ w' s c cap (.arr ty sz es)) (.one (.hsl s ((m.aj s).1+1) sz 0 n)) (.slice (some ⟨c,0,none⟩) n cap):=by
 refine cq.one.2 (.hsl _ _ ?_ hn hm fun z h1 h2=>?_)
 .simp[Mem.kZ,Mem.install,Mem.later,aP]
 have:lR ((m.kZ w' s c cap (.arr ty sz es)).aj s)=some sz:=by simp[Mem.kZ,Mem.install,aP,lR]
 rw[this]at h2;cases h2;refine⟨rfl,fun _=>?_,by rw[jx];exact rB.symm⟩;rw[FA,BE]
theorem ao1{m:Mem}{s c cap ty sz:Nat}{es:List f_}{n:Nat}(hn:n<=cap)(hm:cap<=maxLen):
  cq (m.kZ w' s c cap (.jo ty sz es)) (.one (.hsl s ((m.aj s).1+1) sz 0 n)) (.slice (some ⟨c,0,none⟩) n cap):=by
 refine cq.one.2 (.hsl _ _ ?_ hn hm fun z h1 h2=>?_)
 .simp[Mem.kZ,Mem.install,Mem.later,aP]
 have:lR ((m.kZ w' s c cap (.jo ty sz es)).aj s)=some sz:=by simp[Mem.kZ,Mem.install,aP,lR]
 rw[this]at h2;cases h2;refine⟨rfl,fun _=>?_,by rw[jx];exact rB.symm⟩;rw[FA,BE]
theorem QO{t e:TypeId}{sz bytes:Nat}{z:b_}(h:BP P t=some (e,sz,bytes,z)):
  ∃i v,P.underlying t=some (.slice e)/\P.info? e=some i/\i.size=sz/\i.bytes=bytes/\(0<sz/\0<bytes)/\i.zero=some v/\v.cells.size=sz/\z.length=sz/\ ∀w own,dJ w own z v.cells.toList:=by
 unfold BP at h;split at h
 .rename_i e' ht;split at h
  .rename_i i z' hi hz;split at h
   .rename_i jN;cases h;obtain⟨v,i',h1,h2,h3,h4,h5⟩:=PJ hz;rw[hi]at h1;cases h1;exact⟨i,v,ht,hi,rfl,rfl,jN,h2,h3,h4,h5⟩
   cases h
  cases h
 cases h
theorem ast{R:PV->Value->Prop}{z:b_}{v:Array Value}{sz n:Nat}(hz:Pw R z v.toList)(cT:v.size=sz)(jN:0<sz):
  Pw R (List.replicate n z).flatten ((madeCells v (n*sz)).toList.take (n*sz)):=by
 have mN:z.length=sz:=by have:=hz.1;simp at this;omega
 have dz:∀e∈List.replicate n z,e.length=sz:=fun e he=>by rw[TU he];exact mN
 have hlen:(madeCells v (n*sz)).toList.length=n*sz:=by simp[size_madeCells]
 rw[gK aa];refine⟨by rw[hlen,Ho dz];simp,fun j x u p q=>?_⟩;have hj:j<n*sz:=by have:=(aT.1 q).1;omega
 have hdiv:j/sz<n:=by rw[Nat.div_lt_iff_lt_mul jN];exact hj
 have RY:j%sz<sz:=de _ jN;have he:(List.replicate n z)[j/sz]?=some z:=by simp[hdiv]
 have h1:=Hn dz he RY;rw[show j/sz*sz+j%sz=j by rw[T6];exact akF j sz]at h1;rw[h1]at p;have h2:(madeCells v (n*sz)).toList[j]?=some v[j%sz]! :=by unfold madeCells;simp[hj,cT]
 rw[h2]at q;cases q;refine hz.2 (j%sz) x _ p ?_;have:j%sz<v.size:=aa;simp[this]
section
variable {m:Mem} {ak:Env} {a:Act} {o:Oper} (ay:Ok w0 m) (hr:jz m ak a.tmps)
include ay hr
theorem avR{t e:TypeId}{l c:Operand}{l' c':aU}{s sz bytes n:Nat}{z:b_}(ho:o.op=.makeSlice t l c)(he:BP P t=some (e,sz,bytes,z))(hl:cX l=some l')(hc:cX c=some c')
  (hn:qA (ev ak l')=some n) (hm:qA (ev ak c')=some n) (ll:n*bytes<=room):
  fZ P w0 a.eval o m (.one (.hsl s ((m.aj s).1+1) sz 0 n)) [(s,((m.aj s).1+1,some (.arr e sz (List.replicate n z))))]:=by
 obtain⟨i,v,ht,hi,hs,hb,⟨jN,HB⟩,hz,se,mN,dS⟩:=QO he;obtain⟨k1,h1⟩:=AP hn (eU hl hr);obtain⟨k2,h2⟩:=AP hm (eU hc hr);unfold room at ll;have XW:n<=maxLen:=by have:n<=n*bytes:=PZ _ HB;simp only[maxLen];omega
 have aqn:(n:Int)<=9223372036854775807:=by simp[maxLen]at XW;omega
 have yh:(i.bytes:Int)*(n:Int)<=281474976710656:=by
  have:((i.bytes*n:Nat):Int)<=281474976710656:=by rw[hb,T6];omega
  rwa[Int.natCast_mul]at this
 have kh:=run_make (P:=P) m.w t e i v ht hi hz k1 k2 n n aa (Int.le_refl _) yh aqn;simp only[qu,hs]at kh
 let m':=m.kZ (m.w.alloc (.cells (madeCells v.cells (n*sz)) e)) s m.w.heap.size n (.arr e sz (List.replicate n z))
 have eF:Ev m m':=Kd (fU.alloc _ _) (bY _);have Ej:uB m' s (.arr e sz (List.replicate n z)):=by
  refine⟨_,by rw[FA];exact heap_alloc_new m.w _,jN,fun x hx=>?_,?_,?_,?_,?_⟩
  .rw[TU hx];exact mN
  .rw[rB];simp
  .rw[rB];exact XW
  .rw[rB,size_madeCells]
  rw[aau];exact dJ.pw.2 (ast (dJ.pw.1 (dS _ _)) se jN)
 refine⟨_,m',.inl ?_,Kf (fU.alloc _ _) (bY _) af ay Ej,eF,Ke ay (bY _),rfl,Nn (bY _) XW⟩;simp[execOp,ho,h1,h2,kh];rfl
theorem abB{lo hi:Option Operand}{Eu vM:Option aU}{n cap l h:Nat}{b:Bool}(eL:y8 lo=some Eu)(FV:y8 hi=some vM)(hl:sM ak 0 Eu=some l)(hh:sM ak n vM=some h)
  (FX:l<=h) (mj:h<=cap):(Instr.sliceBounds b n cap (lo.map a.eval) (hi.map a.eval) none).run P m.w=.ok (l,h,cap) m.w:=by
 have _u0:=ay;have pO:(match hi.map a.eval with|some v=>∃k,v=Value.int k (h:Int)|none=>h=n):=by
  cases hi with
  |none=>simp[y8]at FV;subst FV;simp[sM]at hh;simpa using hh.symm
  |some x=>simp only[y8,dT]at FV;obtain⟨y,hy,rfl⟩:=FV;exact AP hh (eU hy hr)
 have jM:(match lo.map a.eval with|some v=>∃k,v=Value.int k (l:Int)|none=>l=0):=by
  cases lo with
  |none=>simp[y8]at eL;subst eL;simp[sM]at hl;simpa using hl.symm
  |some x=>simp only[y8,dT]at eL;obtain⟨y,hy,rfl⟩:=eL;exact AP hl (eU hy hr)
 generalize lo.map a.eval=LO at jM;generalize hi.map a.eval=HI at pO;have je:(h:Int)<=(cap:Int):=aa;have qJ:(l:Int)<=(h:Int):=aa;cases LO with
 |none=>
  simp only at jM;subst jM;cases HI with
  |none=>simp only at pO;subst pO;simp[Instr.sliceBounds]
  |some v=>obtain⟨k,rfl⟩:=pO;simp[Instr.sliceBounds,Instr.sliceBound,asIntOf,mj]
 |some u=>
  obtain⟨k,rfl⟩:=jM;cases HI with
  |none=>simp only at pO;subst pO;simp[Instr.sliceBounds,Instr.sliceBound,asIntOf,FX]
  |some v=>obtain⟨k',rfl⟩:=pO;simp[Instr.sliceBounds,Instr.sliceBound,asIntOf,mj,FX]
theorem av0{t:TypeId}{x:Operand}{lo hi:Option Operand}{x':aU}{Eu vM:Option aU}{s:ByteArray}{l h:Nat}(ho:o.op=.slice t x lo hi none)(ht:P.underlying t=some .string)
  (hx:cX x=some x') (eL:y8 lo=some Eu) (FV:y8 hi=some vM) (hs:ev ak x'=.one (.p (.str s))) (hl:sM ak 0 Eu=some l) (hh:sM ak s.size vM=some h) (FX:l<=h) (mj:h<=s.size):
  fZ P w0 a.eval o m (.one (.p (.str (s.extract l h)))) []:=by
 have h1:=eU hx hr;rw[hs]at h1;have hb:=abB (P:=P) (w0:=w0) (ay:=ay) (hr:=hr) (b:=false) eL FV hl hh FX mj;refine .calm ay ?_ (nA (.str _));simp[execOp,ho,OS h1,Instr.sliceAt,Instr.slice,run_underlying ht,hb]
theorem avZ{t e:TypeId}{x:Operand}{lo hi:Option Operand}{x':aU}{Eu vM:Option aU}{sz n l h:Nat}{v:V}(ho:o.op=.slice t x lo hi none)(ht:P.underlying t=some (.slice e))(cT:yL P e=some sz)
  (hx:cX x=some x') (eL:y8 lo=some Eu) (FV:y8 hi=some vM) (hn:zX (ev ak x')=some n) (hl:sM ak 0 Eu=some l) (hh:sM ak n vM=some h)
  (hv:EE (ev ak x') sz l h=.done v [] []):fZ P w0 a.eval o m v []:=by
 have h1:=eU hx hr;unfold EE at hv;split at hv
 .cases hv
 rename_i FX;have FX:l<=h:=by simpa using FX
 have run:∀(ad:Option Addr) (cap:Nat),a.eval x=.slice ad n cap->h<=cap->(execOp a.eval o).run P m.w=.ok (.value (.slice (if cap=l then ad else ad.map (·.add (l*sz))) (h-l) (cap-l))) m.w:=by intro ad cap kI mj;have hb:=abB (P:=P) (w0:=w0) (ay:=ay) (hr:=hr) (b:=true) eL FV hl hh FX mj;simp[execOp,ho,kI,Instr.sliceAt,Instr.slice,run_underlying ht,hb,Tl cT]
 obtain⟨ad0,cap0,hsl,hncap,pP⟩:=agW (ay:=ay) (hr:=hr) hn h1;split at hv
 .rename_i he;split at hv
  .rename_i h0;cases hv;rw[he]at h1;have:=Sn h1;subst h0;have uT:l=0:=aa;subst uT;rw[this]at hsl;cases hsl;refine .calm ay (run none 0 this (bY _)) ?_;simp;exact nA .nils
  cases hv
 .rename_i es he;split at hv
  .rename_i hc;cases hv;rw[he]at h1 hn;simp[zX]at hn;subst hn;obtain⟨hp⟩:dq m _ (a.eval x):=h1;generalize hb:a.eval x=b at hp;generalize iD:(PV.sl es)=pv at hp;cases hp<;>cases iD
   .rename_i ad cap tn hm;simp at hc;have hh0:h=0:=aa;subst hh0;have uT:l=0:=aa;subst uT;refine .calm ay (run ad cap hb (bR _)) (nA ?_);simp only[List.drop_nil,List.take_nil,Nat.sub_zero];refine .Ah _ _ (fun h=>?_) hm;split at h
    .exact tn h
    cases ad with
    |none=>exact tn rfl
    |some ad=>simp at h
   rename_i b' o' cap cD f hm lX j7 uZ uQ El;refine .calm ay (run _ cap hb aa) (nA ?_);by_cases aA:l=h
   .subst aA;simp only[Mp,List.take_zero];refine .Ah _ _ (fun h=>?_) aa;split at h<;>simp at h
   have hlen:((es.drop l).take (h-l)).length=h-l:=by simp;omega
   have gb:es≠[]:=fun e=>by subst e;simp at hc;omega
   have Yj:cD=sz:=by obtain⟨e0,r0,rfl⟩:=List.exists_cons_of_ne_nil gb;have g1:=uZ e0 af;have g2:=hc.2;simp[iG]at g2;omega
   subst Yj;rw[au aa];simp only[nK,Addr.add_lit];have Cn:=cM.sl (w:=m.w) (own:=m.own) (es:=(es.drop l).take (h-l)) b' (o'+l*cD) (cap-l) cD (fun j=>f (l*cD+j)) (fun aH=>lX fun e0=>aH ?_) aa aa (fun e he=>uZ e (xN (yV he))) ?_ ?_
   .rw[hlen]at Cn;exact Cn
   .apply akt;rw[Kb (fun e he=>uZ e (xN he)),Re uZ,e0];simp
   .intro j z hz;rw[Kb (fun e he=>uZ e (xN he)),Re uZ,mA]at hz;split at hz
    .rw[Ar]at hz;rw[EY];exact uQ _ z hz
    cases hz
   intro j z hz;rw[Kb (fun e he=>uZ e (xN he)),Re uZ,mA]at hz;split at hz
   .rw[Ar]at hz;exact El _ z hz
   cases hz
  cases hv
 .rename_i id g z off len he;split at hv
  .rename_i hc;cases hv;rw[he]at h1 hn;simp[zX]at hn;subst hn;have eX:dq m _ (a.eval x):=h1;generalize hb:a.eval x=b at eX;cases eX with
   |hsl ad cap hg vO hm N8=>
    refine .calm ay (run _ cap hb aa) ?_;have Yi:∃ad',(if cap=l then some ad else(some ad).map (·.add (l*sz)))=some ad'/\(cap≠l->ad'=ad.add (l*sz))/\(l=0->ad'=ad):=by
     by_cases cS:cap=l
     .exact⟨ad,by simp[cS],fun h=>(h cS).elim,fun _=>rfl⟩
     exact⟨ad.add (l*sz),by simp[cS],fun _=>rfl,fun h=>by subst h;simp[Addr.add]⟩
    obtain⟨ad',e1,e2,e3⟩:=Yi;rw[e1];refine cq.one.2 (.hsl _ _ hg aa aa fun s g1 g2=>?_);obtain⟨f1,f2,f3⟩:=N8 s g1 g2;refine⟨f1,fun Cm=>?_,?_⟩
    .by_cases uT:l=0
     .subst uT;rw[e3 rfl,vr];refine f2 ?_;rcases Cm with h|h
      .exact .inl aa
      exact .inr aa
     have:0<h-l:=by rcases Cm with h|h<;>omega
     rw[e2 aa,f2 (.inr aa),Addr.add_lit,f1,hc.2,gY]
    omega
  cases hv
 cases hv
end
end
end Go.Abs
namespace Go.Abs
variable {P:Program} {w0:World}
theorem aoX(off:Nat):∀(vs:List Value) (i:Nat) (cells:Array Value),off+i+vs.length<=cells.size->
  ((vs.zipIdx i).foldl (fun cs (x:Value×Nat)=>cs.setIfInBounds (off+x.2) x.1) cells).toList=fj cells.toList (off+i) vs:=by
 intro vs
 induction vs with
 |nil=>intro i cells _;simp[fj]
 |cons v r ih=>
  intro i cells h;simp only[dI]at h;simp only[List.zipIdx_cons,BD];rw[ih (i+1) _ (by simp;omega)];unfold fj;rw[Array.toList_setIfInBounds];have aA:off+i<cells.toList.length:=by simp;omega
  have e1:(cells.toList.set (off+i) v).take (off+(i+1))=cells.toList.take (off+i)++[v]:=by rw[show off+(i+1)=(off+i)+1 by omega,akD (by simpa using aA),List.take_set,akB (by simp;omega)];simp
  have e2:(cells.toList.set (off+i) v).drop (off+(i+1)+r.length)=cells.toList.drop (off+(i+1)+r.length):=by rw[List.drop_set_of_lt aa]
  rw[e1,e2];simp only[dI,wH,List.singleton_append];congr 3;omega
theorem aea{place:Nat->Option (Nat×Nat)}{i off n:Nat}{v:Value}{rest:List (Nat×Value)}{cells:Array Value}(hp:place i=some (off,n))(hv:v.cells.size=n)(hfit:off+n<=cells.size):
  ∃kW,Instr.fill place cells ((i,v)::rest)=Instr.fill place kW rest/\kW.toList=fj cells.toList off v.cells.toList:=by
 refine⟨v.cells.zipIdx.foldl (fun cs (x:Value×Nat)=>cs.setIfInBounds (off+x.2) x.1) cells,?_,?_⟩
 .simp only[Instr.fill,hp];rw[au (by simp[hv];omega)]
 rw[<-akk,Array.toList_zipIdx,aoX off v.cells.toList 0 cells (by simp;omega)];simp
theorem ad9{m:Mem}{ak:Env}{a:Act}(hr:jz m ak a.tmps){place:Nat->Option (Nat×Nat)}{zl:Nat}:∀ {ps:List (Nat×Operand)}{qs:List (Nat×Nat×aU)}{rs:List (Nat×f_)}{cs:f_}{cells:Array Value},
  EA place zl ps=some qs->Ab ak qs=some rs->dK m cs cells.toList->cs.length=zl->
  ∃kW,Instr.fill place cells (ps.map fun x=>(x.1,a.eval x.2))=some kW/\dK m (fill cs rs) kW.toList:=by
 intro ps
 induction ps with
 |nil=>intro qs rs cs cells h1 h2 hc hl;simp[EA]at h1;subst h1;simp[Ab]at h2;subst h2;exact⟨cells,by simp[Instr.fill],by simpa [fill]using hc⟩
 |cons p t ih=>
  intro qs rs cs cells h1 h2 hc hl;obtain⟨i,x⟩:=p;simp only[EA]at h1;split at h1
  .rename_i off n a' q bU hx hq;split at h1
   .rename_i hfit;cases h1;simp only[Ab]at h2;split at h2
    .rename_i Fq q' hcv rI;split at h2
     .rename_i hlen;cases h2;have hv:=UF hcv (eU hx hr);have cT:(a.eval x).cells.size=n:=by have:=hv.1;simp at this;omega
      have cS:=hc.1;simp at cS;obtain⟨kW,e1,e2⟩:=aea (rest:=t.map fun x=>(x.1,a.eval x.2)) bU cT (by omega:off+n<=cells.size);simp only[ek,fill];rw[e1];refine ih hq rI ?_ (by rw[Tu aa];exact hl);rw[e2];exact dK.pw.2 ((dK.pw.1 hc).fj (dK.pw.1 hv) off)
     cases h2
    cases h2
   cases h1
  cases h1
theorem mapM_ok{α β:Type}{f:α->Sem β}{g:α->β}{w:World}:∀ {l:List α},(∀x∈l,(f x).run P w=.ok (g x) w)->(l.mapM f).run P w=.ok (l.map g) w:=by
 intro l
 induction l with
 |nil=>intro _;simp
 |cons x r ih=>intro h;simp[List.mapM_cons,h x af,ih fun y hy=>h y (by simp[hy])]
theorem an1{m:Mem}{ak:Env}{a:Act}(hr:jz m ak a.tmps){place:Nat->Option (Nat×Nat)}{sz:Nat}(aqH:∀k,place k=some (k*sz,sz)):∀ {ps:List (Nat×Operand)}{as:o_}{es:List f_}{k:Nat}{done:List Value}{cells:Array Value},
  JU k ps=some as->A0 ak sz as=some es->done.length=k*sz->cells.toList.take (k*sz)=done->cells.size=(k+as.length)*sz->
  ∃kW,Instr.fill place cells (ps.map fun x=>(x.1,a.eval x.2))=some kW/\ ∃vs,kW.toList=done++vs/\dK m es.flatten vs/\(∀e∈es,e.length=sz)/\es.length=as.length:=by
 intro ps
 induction ps with
 |nil=>intro as es k done cells h1 h2 hd ht hs;simp[JU]at h1;subst h1;simp[A0]at h2;subst h2;refine⟨cells,by simp[Instr.fill],[],?_,⟨af,fun j x u p=>by simp at p⟩,fun e he=>by simp at he,rfl⟩;rw[<-ht,jG,gK (by simp at hs |-;omega)]
 |cons p t ih=>
  intro as es k done cells h1 h2 hd ht hs;obtain⟨i,x⟩:=p;simp only[JU]at h1;split at h1
  .rename_i a' q hx hq;split at h1
   .rename_i hik;cases h1;subst hik;simp only[A0]at h2;split at h2
    .rename_i Fq q' hcv rI;split at h2
     .rename_i hlen;cases h2;have hv:=UF hcv (eU hx hr);have cT:(a.eval x).cells.size=sz:=by have:=hv.1;simp at this;omega
      simp only[dI]at hs;have fO:cells.size=i*sz+sz+q.length*sz:=by rw[hs,gY,gY];omega
      obtain⟨kW,e1,e2⟩:=aea (rest:=t.map fun x=>(x.1,a.eval x.2)) (aqH i) cT (by omega:i*sz+sz<=cells.size);have iv:kW.toList.length=cells.size:=by rw[e2,Tu (by simp;omega)];simp
      obtain⟨amE,f1,vs,f2,f3,f4,f5⟩:=ih (k:=i+1) (done:=done++(a.eval x).cells.toList) (cells:=kW) hq rI (by simp[hd,cT,gY]) (by rw[e2];unfold fj;rw[ht,PW (by simp[hd,cT,gY])];rw[gK (by simp[hd,cT,gY])]) (by simp at iv;rw[iv,fO,gY,gY];omega)
      simp only[ek];rw[e1];refine⟨amE,f1,(a.eval x).cells.toList++vs,by rw[f2,wH],?_,?_,by simp[f5]⟩
      .simp only[mT];exact dK.pw.2 ((dK.pw.1 hv).append (dK.pw.1 f3))
      intro e he;rcases bJ.1 he with rfl|he
      .exact hlen
      exact f4 e he
     cases h2
    cases h2
   cases h1
  cases h1
theorem aw6{m:Mem}:∀ {es:List f_}{qs:s_}{vs:List Value}{sz:Nat},Da es=some qs->(∀e∈es,e.length=sz)->dK m es.flatten vs->dJ m.w m.own qs.flatten vs/\(∀e∈qs,e.length=sz)/\qs.length=es.length:=by
 intro es
 induction es with
 |nil=>intro qs vs sz h _ hc;simp[Da]at h;subst h;exact⟨⟨hc.1,fun j x u p=>by simp at p⟩,fun e he=>by simp at he,rfl⟩
 |cons e r ih=>
  intro qs vs sz h cT hc;simp only[Da]at h;split at h
  .rename_i v nZ h1 h2;cases h;simp only[mT]at hc;have dB:=cT e af;have je:=(dK.pw.1 hc).take e.length;have qJ:=(dK.pw.1 hc).drop e.length;simp only[PX,aar]at je qJ;have g1:=Px h1 (dK.pw.2 je);obtain⟨g2,g3,g4⟩:=ih h2 (fun x hx=>cT x (by simp[hx])) (dK.pw.2 qJ);have tq:v.length=sz:=by
    have a1:=g1.1;have a2:=je.1;omega
   refine⟨?_,?_,by simp[g4]⟩
   .have:=(dJ.pw.1 g1).append (dJ.pw.1 g2);rw[mU]at this;exact dJ.pw.2 this
   intro y hy;rcases bJ.1 hy with rfl|hy
   .exact tq
   exact g3 y hy
  cases h
section
variable {m:Mem} {ak:Env} {a:Act} {o:Oper} (ay:Ok w0 m) (hr:jz m ak a.tmps)
include ay hr
theorem avD{t:TypeId}{ps:Array (Nat×Operand)}{fs:Array Field}{z:b_}{qs:List (Nat×Nat×aU)}{rs:List (Nat×f_)}(ho:o.op=.build t ps)(ht:P.underlying t=some (.struct fs))(hz:BC P t=some z)
  (dz:fs.all (fun f=>(P.info? f.type).isSome)=true) (hp:EA (fun i=>(fs[i]?).map fun f=>(f.offset,P.cellsOf f.type)) z.length ps.toList=some qs) (hv:Ab ak qs=some rs):
  fZ P w0 a.eval o m (.agg (fill (z.map .p) rs)) []:=by
 obtain⟨v,i,hi,hiv,hs,hl,dS⟩:=PJ hz;obtain⟨kW,h1,h2⟩:=ad9 hr hp hv (dS m.w m.own).EL af;refine .calm (x:=.agg kW) ay ?_ (cq.agg.2 ⟨_,rfl,h2⟩);have HV:(fs.mapM (fun f=>do pure (f.offset,<-sizeOf f.type):Field->Sem (Nat×Nat))).run P m.w=.ok (fs.map fun f=>(f.offset,P.cellsOf f.type)) m.w:=by
  rw[Array.mapM_eq_mapM_toList];have:=mapM_ok (P:=P) (f:=(fun f=>do pure (f.offset,<-sizeOf f.type):Field->Sem (Nat×Nat))) (g:=fun f=>(f.offset,P.cellsOf f.type)) (w:=m.w) (l:=fs.toList) (fun f hf=>by
   have:=Array.all_eq_true_iff_forall_mem.1 dz f (by simpa using hf);cases HK:P.info? f.type with
   |none=>rw[HK]at this;cases this
   |some i=>simp[sizeOf,typeInfo,HK,Program.cellsOf])
  rw[Sem.run_map,this];simp only[Result.andThen_ok];congr 1;apply Array.ext';simp
 have FR:Instr.fill (fun x=>(fs.map fun f=>(f.offset,P.cellsOf f.type))[x]?) v.cells (ps.map fun x=>(x.1,a.eval x.2)).toList=some kW:=by simpa using h1
 simp only[execOp,ho,Instr.build,zeroValue,typeInfo,Sem.run_bind,run_program,Result.andThen_ok,hi,hiv,Sem.run_pure,run_underlying ht,HV,FR]
theorem avC{t e:TypeId}{n:Nat}{ps:Array (Nat×Operand)}{i:TypeInfo}{z:b_}{qs:List (Nat×Nat×aU)}{rs:List (Nat×f_)}(ho:o.op=.build t ps)(ht:P.underlying t=some (.array n e))(hz:BC P t=some z)
  (hie:P.info? e=some i) (hp:EA (fun k=>some (k*i.size,i.size)) z.length ps.toList=some qs) (hv:Ab ak qs=some rs):
  fZ P w0 a.eval o m (.agg (fill (z.map .p) rs)) []:=by
 obtain⟨v,i',hi,hiv,hs,hl,dS⟩:=PJ hz;obtain⟨kW,h1,h2⟩:=ad9 hr hp hv (dS m.w m.own).EL af;refine .calm (x:=.agg kW) ay ?_ (cq.agg.2 ⟨_,rfl,h2⟩);have FR:Instr.fill (fun k=>some (k*i.size,i.size)) v.cells (ps.map fun x=>(x.1,a.eval x.2)).toList=some kW:=by simpa using h1
 simp only[execOp,ho,Instr.build,zeroValue,sizeOf,typeInfo,Sem.run_bind,run_program,Result.andThen_ok,hi,hie,hiv,Sem.run_pure,run_underlying ht,FR]
theorem avA{t e:TypeId}{n sz bytes s:Nat}{z:b_}{ps:Array (Nat×Operand)}{as:o_}{es:List f_}(ho:o.op=.buildSlice t n ps)(he:BP P t=some (e,sz,bytes,z))(hp:JU 0 ps.toList=some as)
  (hn:as.length=n) (apN:n*sz<=16777216) (hv:A0 ak sz as=some es):
  (∀qs,Da es=some qs->fZ P w0 a.eval o m (.one (.hsl s ((m.aj s).1+1) sz 0 es.length)) [(s,((m.aj s).1+1,some (.arr e sz qs)))])/\
  fZ P w0 a.eval o m (.one (.hsl s ((m.aj s).1+1) sz 0 es.length)) [(s,((m.aj s).1+1,some (.jo e sz es)))]:=by
 obtain⟨i,v,ht,hi,hs,hb,⟨jN,_⟩,yt,se,mN,dS⟩:=QO he;subst hn;obtain⟨kW,f1,vs,f2,f3,f4,f5⟩:=an1 (place:=fun k=>some (k*sz,sz)) (done:=[]) (cells:=(Array.range (as.length*sz)).map ((if as.length*sz=0 then #[]else v.cells)[· %(if as.length*sz=0 then #[]else v.cells).size]!)) hr (fun _=>rfl) hp hv af af af;have kh:(execOp a.eval o).run P m.w=.ok (.value (.slice (some ⟨m.w.heap.size,0,none⟩) es.length es.length)) (m.w.alloc (.cells kW e)):=by
  have FR:Instr.fill (fun k=>some (k*sz,sz)) ((Array.range (as.length*sz)).map ((if as.length*sz=0 then #[]else v.cells)[· %(if as.length*sz=0 then #[]else v.cells).size]!)) (ps.map fun x=>(x.1,a.eval x.2)).toList=some kW:=by simpa using f1
  have hnb:¬(16777216<as.length*sz):=aa;have afv:¬(as.length*sz>2 ^ 24):=aa;by_cases h0:as.length*sz=0
  .simp only[aD h0]at FR;simp only[execOp,ho,Instr.buildSlice,Sem.run_bind,run_underlying ht,Result.andThen_ok,sizeOf,typeInfo,run_program,hi,Sem.run_pure,hs,au afv,aD h0,FR,newRow,run_newObj,f5];rfl
  simp only[au h0]at FR;simp only[execOp,ho,Instr.buildSlice,Sem.run_bind,run_underlying ht,Result.andThen_ok,sizeOf,typeInfo,run_program,hi,Sem.run_pure,hs,au afv,au h0,zeroValue,yt,FR,newRow,run_newObj,f5];rfl
 simp at f2;have cS:kW.size=es.length*sz:=by
  have h1:=f3.1;rw[Ho f4]at h1;have:kW.toList.length=vs.length:=by rw[f2]
  simp at this;omega
 have Oh:es.length<=maxLen:=by have:es.length<=es.length*sz:=PZ _ jN;simp only[maxLen];rw[f5]at this |-;omega
 have KN:kW.toList.take (es.length*sz)=vs:=by rw[gK (by simp;omega),f2]
 constructor
 .intro qs hq;have eF:Ev m (m.kZ (m.w.alloc (.cells kW e)) s m.w.heap.size es.length (.arr e sz qs)):=Kd (fU.alloc _ _) (bY _);obtain⟨g1,g2,g3⟩:=aw6 hq f4 (f3.ev eF.zero);refine⟨_,m.kZ (m.w.alloc (.cells kW e)) s m.w.heap.size es.length (.arr e sz qs),.inl kh,Kf (fU.alloc _ _) (bY _) af ay ?_,eF,Ke ay (bY _),rfl,Nn (bY _) Oh⟩;exact⟨kW,by rw[FA];exact heap_alloc_new m.w _,jN,g2,by rw[rB,g3];exact bY _,by rw[rB];exact Oh,by rw[rB,cS],by rw[g3,KN];exact g1⟩
 have eF:Ev m (m.kZ (m.w.alloc (.cells kW e)) s m.w.heap.size es.length (.jo e sz es)):=Kd (fU.alloc _ _) (bY _);refine⟨_,m.kZ (m.w.alloc (.cells kW e)) s m.w.heap.size es.length (.jo e sz es),.inl kh,Kf (fU.alloc _ _) (bY _) af ay ?_,eF,Ke ay (bY _),rfl,ao1 (bY _) Oh⟩;exact⟨kW,by rw[FA];exact heap_alloc_new m.w _,jN,f4,by rw[rB];exact bY _,by rw[rB];exact Oh,by rw[rB,cS],by rw[KN];exact f3.ev eF.zero⟩
end
end Go.Abs
namespace Go.Abs
variable {P:Program} {w0:World}
theorem Mw(a b:l_)(aj:aC):app (a++b) aj=app b (app a aj):=by
 induction a generalizing aj with
 |nil=>rfl
 |cons x r ih=>obtain⟨i,o⟩:=x;simp only[nJ,app];exact ih _
theorem ar0{m:Mem}{A2:Nat->Prop}(hf:∀c,A2 c->m.fr c){c:Nat}(h:({m with fr:=A2}:Mem).own c):m.own c:=by
 rcases h with h|h
 .exact .inl (hf c h)
 exact .inr h
theorem Sv{m:Mem}{A2:Nat->Prop}(hf:∀c,A2 c->m.fr c):Ev m {m with fr:=A2}:=
 ⟨rfl,rfl,rfl,bY _,fun _ _ _=>rfl,fun _ _ h=>h,fun _ _ hn h=>hn (ar0 hf h),fun _=>bY _,fun _ _ h=>⟨h,rfl,rfl,rfl⟩⟩
theorem YH{m:Mem}{A2:Nat->Prop}(h:Ok w0 m)(hf:∀c,A2 c->m.fr c):Ok w0 {m with fr:=A2} where
 os:=h.os
 tape:=h.tape
 output:=h.output
 size:=h.size
 base:=h.base
 obj id o ho:=(h.obj id o ho).ev (Sv hf).zero rfl rfl rfl
 hJ id o ho hm:=⟨(h.hJ id o ho hm).1,fun hc=>(h.hJ id o ho hm).2 (hf _ hc)⟩
 frlt c hc:=h.frlt c (hf c hc)
 inj:=h.inj
theorem ai0{m:Mem}{w':World}{c:Nat}(h:Ok w0 m)(hc:m.fr c)(eL:w0.heap.size<=c)(Bm:w'.os=m.w.os)(ht:w'.tape=m.w.tape)(qL:w'.output=m.w.output)(hs:w'.heap.size=m.w.heap.size)
  (hk:∀x,x≠c->w'.heap[x]?=m.w.heap[x]?):Ok w0 {m with w:=w'} where
 os:=Bm.trans h.os
 tape:=ht.trans h.tape
 output:=qL.trans h.output
 size:=oz h.size (GK hs.symm)
 base x hx:=(hk x aa).trans (h.base x hx)
 obj id o ho:=by
  have aH:m.σ id≠c:=by
   intro e;cases hm:o.fX with
   |true=>exact(h.hJ id o ho hm).2 (e▸hc)
   |false=>exact(h.obj id o ho).calm hm (.inl (e▸hc))
  exact(h.obj id o ho).ev (m':={m with w:=w'}) ⟨fun x _ hn=>⟨hk x fun e=>hn (.inl (e▸hc)),hn⟩,fun _=>bY _,fun _ _ h=>⟨h,rfl,rfl,rfl⟩⟩ rfl rfl (hk _ aH)
 hJ:=h.hJ
 frlt x hx:=by rw[show({m with w:=w'}:Mem).w.heap.size=m.w.heap.size from hs];exact h.frlt x hx
 inj:=h.inj
theorem acM{m:Mem}(ay:Ok w0 m){own:Nat->Prop}{x:V}{v:Value}{new:s_}{rd fr:a_}(h:fN m.aj x=some (new,rd,fr))(hv:cq m x v)(hs:rj m own fr):
  ∃ax cx,v=.slice ax new.length cx/\(∀z,nG x=some z->∀e∈new,e.length=z)/\
   (new≠[]->∃b o news,ax=some ⟨b,o,none⟩/\Pw (cM m.w own) new.flatten news/\ ∀(j:Nat) (u:Value),news[j]?=some u->m.w.cell? ⟨b,o+j,none⟩=some u):=by
 have row:∀(c off sz len:Nat) (cur:Array Value) (ty:TypeId) (fz:Nat×Nat) (ps:s_),m.w.heap[c]?=some (.cells cur ty fz)->Pw (cM m.w own) ps.flatten ((cur.toList.drop (off*sz)).take (ps.length*sz))->
   ∃b o news,some (⟨c,off*sz,none⟩:Addr)=some ⟨b,o,none⟩/\Pw (cM m.w own) ps.flatten news/\ ∀(j:Nat) (u:Value),news[j]?=some u->m.w.cell? ⟨b,o+j,none⟩=some u:=by
  intro c off sz len cur ty fz ps hh hp;refine⟨c,off*sz,_,rfl,hp,fun j u hj=>?_⟩;rw[mA]at hj;split at hj
  .rw[Fk hh];simpa using hj
  cases hj
 unfold fN at h;split at h
 .cases h;exact⟨none,0,Sn hv,fun z hz=>by simp[nG]at hz,fun h=>(h rfl).elim⟩
 .rename_i es;cases h;obtain⟨hp⟩:dq m _ v:=hv;generalize iD:(PV.sl new)=pv at hp;cases hp<;>cases iD
  .exact⟨_,_,rfl,fun z hz=>by simp[nG]at hz,fun h=>(h rfl).elim⟩
  rename_i b o cap sz f hm ho hl cT uQ El;refine⟨_,_,rfl,fun z hz=>by simp[nG]at hz,fun _=>⟨b,o,(List.range new.flatten.length).map f,rfl,⟨af,fun j y u p q=>?_⟩,fun j u q=>?_⟩⟩
  .have hj:j<new.flatten.length:=(aT.1 p).1;rw[fG,vp hj]at q;simp at q;subst q;exact(El j y p).less hs.1
  have hj:j<new.flatten.length:=by have:=(aT.1 q).1;simpa using this
  rw[fG,vp hj]at q;simp at q;subst q;exact uQ j _ (rS hj)
 .rename_i id g z off len;have eX:dq m _ v:=hv;cases eX with
  |hsl ad cap hg hl hm N8=>
   split at h
   .rename_i g' ty sz es hb;split at h
    .rename_i hc;cases h;have bK:(m.aj id).2=some (.arr ty sz es):=by rw[hb]
     obtain⟨cur,hh,qN,cT,ti,vR,dA,dS⟩:=ay.obj id _ bK;obtain⟨e1,e2,e3⟩:=N8 sz (by rw[hb];exact hc.1) (by rw[hb];rfl);have hlen:((es.drop off).take len).length=len:=by simp;omega
     refine⟨some ad,cap,by rw[hlen],fun z' rK e he=>?_,fun aH=>?_⟩
     .simp[nG]at rK;subst rK;rw[<-e1];exact cT e (xN (yV he))
     have:0<len:=by
      cases len with
      |zero=>simp at aH
      |succ n=>omega
     rw[e2 (.inr this)];exact row (m.σ id) off sz len cur ty _ _ hh (Gs cT (dJ.pw.1 (dS.less hs.1)) hc.2)
    cases h
   .rename_i g' ty sz es hb;split at h
    .rename_i hc;cases h;have bK:(m.aj id).2=some (.pL ty sz es):=by rw[hb]
     obtain⟨cur,fz,hh,qN,cT,ti,vR,dA,dS,_⟩:=ay.obj id _ bK;obtain⟨e1,e2,e3⟩:=N8 sz (by rw[hb];exact hc.1) (by rw[hb];rfl);have hlen:((es.drop off).take len).length=len:=by simp;omega
     refine⟨some ad,cap,by rw[hlen],fun z' rK e he=>?_,fun aH=>?_⟩
     .simp[nG]at rK;subst rK;rw[<-e1];exact cT e (xN (yV he))
     have:0<len:=by
      cases len with
      |zero=>simp at aH
      |succ n=>omega
     rw[e2 (.inr this)];exact row (m.σ id) off sz len cur ty _ _ hh (Gs cT (dJ.pw.1 (dS.less hs.1)) hc.2)
    cases h
   .rename_i g' ty sz es hb;split at h
    .rename_i hc;split at h
     .rename_i ps q hq;cases h;have bK:(m.aj id).2=some (.jo ty sz es):=by rw[hb]
      obtain⟨cur,hh,qN,cT,ti,vR,dA,dS⟩:=ay.obj id _ bK;obtain⟨e1,e2,e3⟩:=N8 sz (by rw[hb];exact hc.1) (by rw[hb];rfl);have hle:((es.drop off).take len).length=len:=by simp;omega
      have bU:new.length=len:=by rw[UM hq,hle]
      have Yg:=Gs cT (dK.pw.1 dS) hc.2;have OK:∀e∈(es.drop off).take len,e.length=sz:=fun e he=>cT e (xN (yV he));have mj:len*sz<=(cur.toList.drop (off*sz)).length:=by
       simp;have h1:off*sz+len*sz<=es.length*sz:=by rw[<-gY];exact mV _ hc.2
       have h2:es.length*sz<=m.κ id*sz:=mV _ ti;omega
      have pR:∀(j:Nat) (e:b_),new[j]?=some e->Pw (cM m.w own) e (((cur.toList.drop (off*sz)).drop (j*sz)).take sz):=by intro j e he;obtain⟨x,q',h1,h2,h3⟩:=UL hq he;exact JI (R:=dq m) (T:=cM m.w own) (fi:=rj m own) (fun a b h=>h.app) (fun a b r v e1 e2 e3=>LP ay _ e1 e2 e3) h2 ⟨hs.1,fun i hi=>hs.2 i (h3 i hi)⟩ (Xd OK Yg h1)
      have F1:∀e∈new,e.length=sz:=by
       intro e he;obtain⟨j,hj⟩:=gV he;have:=(pR j e hj).1;have nQ:j<len:=by rw[<-bU];exact(aT.1 hj).1
       have h1:(j+1)*sz<=len*sz:=mV _ nQ;rw[gY]at h1;simp at this mj;omega
      refine⟨some ad,cap,by rw[bU],fun z' rK e he=>?_,fun aH=>?_⟩
      .simp[nG]at rK;subst rK;rw[<-e1];exact F1 e he
      have:0<len:=by rw[<-bU];exact jl.2 aH
      rw[e2 (.inr this)];refine row (m.σ id) off sz len cur ty _ _ hh ?_;rw[bU];have:=Zv F1 (by rw[bU];exact mj) pR;rw[bU]at this;exact this
     cases h
    cases h
   split at h
   .rename_i uT;cases h;exact⟨some ad,cap,by rw[uT];rfl,fun z' _ e he=>by simp at he,fun h=>(h rfl).elim⟩
   cases h
 cases h
end Go.Abs
namespace Go.Abs
variable {P:Program} {w0:World}
theorem aiw{w:World}{own:Nat->Prop}{xs:b_}{vs:List Value}(h:Pw (cM w own) xs vs):∀u∈vs,u.oneCell'=true:=by
 intro v hv;obtain⟨j,hj⟩:=gV hv;have aA:j<xs.length:=by rw[<-h.1];exact(aT.1 hj).1
 exact(h.2 j _ v (rS aA) hj).O7
theorem No{m:Mem}{ids:a_}{u:l_}(h:sW m.aj ids=some u)(id:Nat):(app u m.aj id).1=(m.aj id).1:=by
 rcases xZ h id with⟨e,_⟩|⟨_,p,q,a,b,e⟩
 .exact congrArg Prod.fst e
 have:=congrArg Prod.fst e;exact this
theorem acG{m:Mem}{id:Nat}{o:Ob}{w':World}(ho:(m.aj id).2=some o)(hm:o.fX=true)(Bm:w'.os=m.w.os)(ht:w'.tape=m.w.tape)(qL:w'.output=m.w.output)(hs:w'.heap.size=m.w.heap.size)
  (hk:∀x,x≠m.σ id->w'.heap[x]?=m.w.heap[x]?):Ev m {m.iI id with w:=w'} where
 os:=Bm
 tape:=ht
 output:=qL
 size:=GK hs.symm
 keep c _ hn:=hk c fun e=>hn ⟨id,o,ho,hm,e.symm⟩
 fX:=(Hh ho hm).fX
 less:=(Hh ho hm).less
 gen:=(Hh ho hm).gen
 ref:=(Hh ho hm).ref
theorem auM{m:Mem}(ay:Ok w0 m){id s:Nat}{ob:Ob}{w':World}{DI:Array Value}{ty sz:Nat}{ib:s_}(ho:(m.aj id).2=some ob)(hm:ob.fX=true)(jN:0<sz)(Bm:w'.os=m.w.os)(ht:w'.tape=m.w.tape)(qL:w'.output=m.w.output)(hs:w'.heap.size=m.w.heap.size)
  (hk:∀x,x≠m.σ id->w'.heap[x]?=m.w.heap[x]?) (hh:w'.heap[m.σ id]?=some (.cells DI ty (0,0))) (cT:∀e∈ib,e.length=sz) (hl:ib.length<=m.κ id) (tm:m.κ id<=maxLen) (dA:DI.size=m.κ id*sz)
  (hp:Pw (cM m.w m.own) ib.flatten (DI.toList.take (ib.length*sz))):
  ∃m',m'.w=w'/\Ok w0 m'/\Ev m m'/\m'.fr=m.fr/\m'.aj=eh (eh m.aj id ((m.aj id).1,none)) s ((m.aj s).1+1,some (.arr ty sz ib))/\
   cq m' (.one (.hsl s ((m.aj s).1+1) sz 0 ib.length)) (.slice (some ⟨m.σ id,0,none⟩) ib.length (m.κ id)):=by
 have Ea:=acG ho hm Bm ht qL hs hk;have eL:=(ay.hJ id ob ho hm).1;have X6:Ok w0 {m.iI id with w:=w'}:=ai0 (m:=m.iI id) (Vc ay ho hm) (.inr rfl) eL Bm ht qL hs hk;have eF:Ev m ((({m.iI id with w:=w'}:Mem)).install s (m.σ id) (m.κ id) (.arr ty sz ib)):=Sj Ea (.inr rfl) (.inr ⟨id,ob,ho,hm,rfl⟩);have yq:((({m.iI id with w:=w'}:Mem)).aj s).1=(m.aj s).1:=by
  simp only[Mem.iI,aP];split
  .rename_i e;subst e;rfl
  rfl
 have hσ:((({m.iI id with w:=w'}:Mem)).install s (m.σ id) (m.κ id) (.arr ty sz ib)).σ s=m.σ id:=by simp[Mem.install,aP]
 have hκ:((({m.iI id with w:=w'}:Mem)).install s (m.σ id) (m.κ id) (.arr ty sz ib)).κ s=m.κ id:=by simp[Mem.install,aP]
 refine⟨_,rfl,Sk X6 (.inr rfl) eL ?_,eF,?_,?_,?_⟩
 .exact⟨DI,by rw[hσ];exact hh,jN,cT,by rw[hκ];exact hl,by rw[hκ];exact tm,by rw[hκ];exact dA,dJ.ev eF.zero (dJ.pw.2 hp)⟩
 .funext x;simp only[Mem.install,Mem.iI];apply propext;constructor
  .rintro ⟨h|h,h2⟩
   .exact h
   exact(h2 h).elim
  intro h;exact⟨.inl h,fun e=>(ay.hJ id ob ho hm).2 (e▸h)⟩
 .simp only[Mem.install];rw[yq];rfl
 refine cq.one.2 (.hsl _ _ ?_ hl tm fun z h1 h2=>?_)
 .simp only[Mem.install,aP,if_true];rw[yq];exact bY _
 have:lR (((({m.iI id with w:=w'}:Mem)).install s (m.σ id) (m.κ id) (.arr ty sz ib)).aj s)=some sz:=by simp[Mem.install,aP,lR]
 rw[this]at h2;cases h2;exact⟨rfl,fun _=>by rw[hσ,BE],by rw[jx];exact hκ.symm⟩
theorem ave{P:Program}(w:World)(t ty e:TypeId)(i:TypeInfo)(z:Value)(ht:P.underlying t=some (.slice e))(hi:P.info? e=some i)(hz:i.zero=some z)
  (az:Option Addr) (a:Addr) (n c:Nat) (news:List Value) (hl:news.length=n*i.size) (zQ:∀j v,news[j]?=some v->w.cell? (a.add j)=some v)
  (h0:0<n) (h63:(n:Int)<=9223372036854775807) (zu:n*i.bytes<=281474976710656):
  (Builtin.append_ #[t,t] ty #[.slice az 0 0,.slice (some a) n c]).run P w=
   .ok (.slice (some ⟨w.heap.size,0,none⟩) n (grownCap w n 0 e)) (w.drew.alloc (.cells (news.toArray++Builtin.zeroCells z.cells (grownCap w n 0 e-n)) e)):=by
 cases az with
 |none=>exact run_append_nil w t ty e i z ht hi hz a n c news hl zQ h0 h63 zu
 |some b=>have h:=run_append_grow (P:=P) w t ty e i z ht hi hz b 0 0 [] af (fun j v h=>by simp at h) a n c news hl zQ aa (by simpa using h63) (by rw[jx,nextslicecap_zero h0];exact zu);rw[jx]at h;rw[h];simp
theorem avd{P:Program}(w:World)(t ty e:TypeId)(i:TypeInfo)(ht:P.underlying t=some (.slice e))(hi:P.info? e=some i)
  (g off sLen sCap:Nat) (cur:Array Value) (hg:w.heap[g]?=some (.cells cur e (0,0)))
  (a:Addr) (m c:Nat) (news:List Value) (hl:news.length=m*i.size) (zQ:∀j u,news[j]?=some u->w.cell? (a.add j)=some u) (h1:∀u∈news,u.oneCell'=true)
  (ll:sLen+m<=sCap) (hfit:off+sLen*i.size+news.length<=cur.size):
  (Builtin.append_ #[t,t] ty #[.slice (some ⟨g,off,none⟩) sLen sCap,.slice (some a) m c]).run P w=
   .ok (.slice (some ⟨g,off,none⟩) (sLen+m) sCap) (w.setRow g (cur.toList.take (off+sLen*i.size)++news++cur.toList.drop (off+sLen*i.size+news.length)).toArray):=by
 have hf:=run_firstCells_some (P:=P) w i.size m a m c news hl zQ;have cV:=run_storeCells_at P g (off+sLen*i.size) e news 0 cur w hg (by simpa using hfit) h1;simp only[vr]at cV;simp[Builtin.append_,run_underlying ht,sizeOf,typeInfo,hi,Builtin.lenOf,ll,hf,Addr.add_lit,cV]
section
variable {m:Mem} {ak:Env} {a:Act} {o:Oper} (ay:Ok w0 m) (hr:jz m ak a.tmps)
include ay hr
theorem avx{c:Call}{d x:Operand}{d' x':aU}{t e:TypeId}{s sz bytes:Nat}{z:b_}{v:V}{u:l_}{rd:a_}(ho:o.op=.call c)(hc:c.callee=.builtin .append)(has:c.args= #[d,x])(jI:c.argTypes= #[t,t])
  (he:BP P t=some (e,sz,bytes,z)) (hd:cX d=some d') (hx:cX x=some x') (hv:gE m.aj s e sz bytes (ev ak d') (ev ak x')=.done v u rd):fZ P w0 a.eval o m v u:=by
 obtain⟨i,zv,ht,hi,hs,hb,⟨jN,HB⟩,yt,KT,mN,dS⟩:=QO he;have pV:=eU hd hr;have lZ:=eU hx hr;have run:∀(y:Value) (w':World),(Builtin.append_ #[t,t] o.type #[a.eval d,a.eval x]).run P m.w=.ok y w'->(execOp a.eval o).run P m.w=.ok (.value y) w':=by intro y w' h;simp[execOp,ho,resolve,hc,has,jI,invoke,builtin,h]
 unfold gE at hv;split at hv
 .cases hv
 rename_i new rd' fr dB;split at hv
 .cases hv
 rename_i aqR;split at hv
 .cases hv
 rename_i fu rF;have oO:=aez ay rF;have w7:=Xk rF;have pW:=Xn ay rF;obtain⟨ax,cx,yz,aqQ,zQ⟩:=acM ay dB lZ pW;have dz:∀e∈new,e.length=sz:=by
  have:nG (ev ak x')=some sz\/iG sz new=true:=Classical.not_not.1 aqR;rcases this with h|h
  .exact aqQ sz h
  intro e he;have:=gk.1 h e he
  simpa using this
 have N6:new.flatten.length=new.length*sz:=Ho dz;split at hv
 · -- nil
  rename_i HD;rw[HD]at pV;have Bd:=Sn pV;split at hv
  .rename_i iV;cases hv;refine⟨.slice none 0 0,m.with u,.inl (run _ _ ?_),oO,w7,rfl,rfl,nA .nils⟩;rw[Bd,yz,iV];cases ax<;>simp[Builtin.append_,run_underlying ht,sizeOf,typeInfo,hi,Builtin.lenOf,Builtin.firstCells,loadCells,loadCellsFrom,Mem.with]
  rename_i iV;split at hv
  .rename_i ll;cases hv;have aH:new≠[]:=fun h=>iV (by simp[h]);obtain⟨b,off,news,rfl,pS,zC⟩:=zQ aH;unfold room at ll;have j9:news.length=new.length*i.size:=by rw[pS.1,N6,hs]
   have Ei:new.length<=maxLen/\(new.length:Int)<=9223372036854775807:=by have:new.length<=new.length*bytes:=PZ _ HB;simp only[maxLen];omega
   have kh:=run_append_nil (P:=P) m.w t o.type e i zv ht hi yt ⟨b,off,none⟩ new.length cx news j9 (fun j v hj=>by rw[Addr.add_lit];exact zC j v hj) aa Ei.2 (by rw[hb];omega);generalize hW:m.w.drew.alloc (.cells (news.toArray++Builtin.zeroCells zv.cells (grownCap m.w new.length 0 e-new.length)) e)=W at kh;have hg:fU (m.with fu).w W:=by rw[<-hW];exact(fU.drew _).trans (fU.alloc _ _)
   have mj:=grownCap_ge m.w new.length 0 e;have NL:=grownCap_le_maxLen m.w new.length 0 e Ei.1;have Ea:Ev (m.with fu) ((m.with fu).kZ W s m.w.heap.size (grownCap m.w new.length 0 e) (.arr e sz new)):=Kd hg (bY _);have yq:=No rF s;refine⟨_,(m.with fu).kZ W s m.w.heap.size (grownCap m.w new.length 0 e) (.arr e sz new),.inl (run _ _ (by rw[Bd,yz];exact kh)),Kf hg (bY _) (by rw[<-hW];simp) oO ?_,w7.trans Ea,Ke oO (bY _),?_,?_⟩
   .refine⟨_,by rw[FA,Xh,<-hW];exact heap_alloc_new m.w.drew _,jN,dz,by rw[rB];exact mj,by rw[rB];exact NL,?_,?_⟩
    .rw[rB];simp only[akm,T4,size_zeroCells,KT,j9,hs,<-gY];congr 1;omega
    have:(news.toArray++Builtin.zeroCells zv.cells (grownCap m.w new.length 0 e-new.length)).toList.take (new.length*sz)=news:=by simp only[PL];rw[<-hs,<-j9];exact PX
    rw[this];exact dJ.ev Ea.zero (dJ.pw.2 pS)
   .rw[Mw,Xg];simp only[Mem.with];rw[yq]
   have:=Nn (m:=m.with fu) (w':=W) (s:=s) (c:=m.w.heap.size) (ty:=e) (sz:=sz) (es:=new) mj NL;simp only[Mem.with]at this;rw[yq]at this;exact this
  cases hv
 · -- an empty slice without room
  rename_i HD;rw[HD]at pV;obtain⟨az,Bd⟩:=ari pV;split at hv
  .cases hv
  rename_i iV;split at hv
  .rename_i ll;cases hv;have aH:new≠[]:=fun h=>iV (by simp[h]);obtain⟨b,off,news,rfl,pS,zC⟩:=zQ aH;unfold room at ll;have j9:news.length=new.length*i.size:=by rw[pS.1,N6,hs]
   have Ei:new.length<=maxLen/\(new.length:Int)<=9223372036854775807:=by have:new.length<=new.length*bytes:=PZ _ HB;simp only[maxLen];omega
   have kh:=ave (P:=P) m.w t o.type e i zv ht hi yt az ⟨b,off,none⟩ new.length cx news j9 (fun j v hj=>by rw[Addr.add_lit];exact zC j v hj) aa Ei.2 (by rw[hb];omega);generalize hW:m.w.drew.alloc (.cells (news.toArray++Builtin.zeroCells zv.cells (grownCap m.w new.length 0 e-new.length)) e)=W at kh;have hg:fU (m.with fu).w W:=by rw[<-hW];exact(fU.drew _).trans (fU.alloc _ _)
   have mj:=grownCap_ge m.w new.length 0 e;have NL:=grownCap_le_maxLen m.w new.length 0 e Ei.1;have Ea:Ev (m.with fu) ((m.with fu).kZ W s m.w.heap.size (grownCap m.w new.length 0 e) (.arr e sz new)):=Kd hg (bY _);have yq:=No rF s;refine⟨_,(m.with fu).kZ W s m.w.heap.size (grownCap m.w new.length 0 e) (.arr e sz new),.inl (run _ _ (by rw[Bd,yz];exact kh)),Kf hg (bY _) (by rw[<-hW];simp) oO ?_,w7.trans Ea,Ke oO (bY _),?_,?_⟩
   .refine⟨_,by rw[FA,Xh,<-hW];exact heap_alloc_new m.w.drew _,jN,dz,by rw[rB];exact mj,by rw[rB];exact NL,?_,?_⟩
    .rw[rB];simp only[akm,T4,size_zeroCells,KT,j9,hs,<-gY];congr 1;omega
    have:(news.toArray++Builtin.zeroCells zv.cells (grownCap m.w new.length 0 e-new.length)).toList.take (new.length*sz)=news:=by simp only[PL];rw[<-hs,<-j9];exact PX
    rw[this];exact dJ.ev Ea.zero (dJ.pw.2 pS)
   .rw[Mw,Xg];simp only[Mem.with];rw[yq]
   have:=Nn (m:=m.with fu) (w':=W) (s:=s) (c:=m.w.heap.size) (ty:=e) (sz:=sz) (es:=new) mj NL;simp only[Mem.with]at this;rw[yq]at this;exact this
  cases hv
 .rename_i id g zz len HD;rw[HD]at pV;split at hv
  .rename_i g' kB cD es jh;split at hv
   .rename_i r7;obtain⟨ji,rfl,rfl,hlen,ll,XZ⟩:=r7;cases hv;have X0:id∉fr:=by simpa using XZ
    have dE:(m.with fu).aj id=m.aj id:=by
     rcases xZ rF id with⟨e,_⟩|⟨jL,_⟩
     .exact e
     exact(X0 jL).elim
    have bK:((m.with fu).aj id).2=some (.arr kB cD es):=by rw[dE,jh]
    obtain⟨cur,hh,_,cT,hl,tm,dA,Ya⟩:=oO.obj id _ bK;have NM:dq m _ (a.eval d):=pV;generalize Bd:a.eval d=dv at NM;cases NM with
    |hsl ad cap hg vO KE N9=>
     obtain⟨f1,f2,f3⟩:=N9 cD (by rw[jh];exact ji) (by rw[jh];rfl);have mj:cap=m.κ id:=by rw[<-f3,jx]
     have oN:=f2 (.inl rfl);rw[BE]at oN;subst oN;unfold room at ll;have yq:=No rF s;have hgid:=No rF id;have KC:len*cD<=es.length*cD:=mV _ hlen;have ti:es.length*cD<=m.κ id*cD:=mV _ hl;have X7:Pw (cM (m.with fu).w (m.with fu).own) (es.take len).flatten (cur.toList.take (len*cD)):=by rw[Kb cT];have h1:=(dJ.pw.1 Ya).take (len*cD);rw[GI,Au KC]at h1;exact h1
     have KO:(es.take len).length=len:=by simp;omega
     have FN:∀x∈es.take len++new,x.length=cD:=by
      intro x hx;rcases eO.1 hx with hx|hx
      .exact cT x (yV hx)
      exact dz x hx
     have hnl0:len+new.length<=(len+new.length)*bytes:=PZ _ HB;have xm:∀q:ff,app (fu++[(id,(g,none)),q]) m.aj=eh (eh (m.with fu).aj id (((m.with fu).aj id).1,none)) q.1 q.2:=by intro q;rw[Mw];simp only[app];rw[dE,jh,ji];rfl
     have Eh:(es.take len++new).length=len+new.length:=by rw[fS,KO]
     by_cases hfit:len+new.length<=cap
     · -- in its own block
      have key:∀(w':World) (DI:Array Value),(execOp a.eval o).run P m.w=.ok (.value (.slice (some ⟨m.σ id,0,none⟩) (len+new.length) cap)) w'->w'.os=m.w.os->w'.tape=m.w.tape->w'.output=m.w.output->w'.heap.size=m.w.heap.size->
        (∀x,x≠m.σ id->w'.heap[x]?=m.w.heap[x]?)->w'.heap[m.σ id]?=some (.cells DI kB (0,0))->DI.size=cur.size->Pw (cM (m.with fu).w (m.with fu).own) (es.take len++new).flatten (DI.toList.take ((len+new.length)*cD))->
        fZ P w0 a.eval o m (.one (.hsl s ((m.aj s).1+1) cD 0 (len+new.length))) (fu++[(id,(g,none)),(s,((m.aj s).1+1,some (.arr kB cD (es.take len++new))))]):=by
       intro w' DI kh q1 q2 q3 q4 q5 q6 q7 q8;obtain⟨m',e1,e2,e3,e4,e5,e6⟩:=auM (s:=s) oO bK rfl jN q1 q2 q3 q4 q5 q6 FN (by rw[Eh];rw[mj]at hfit;exact hfit) tm (by rw[q7];exact dA) (by rw[Eh];exact q8);rw[Eh]at e6;have RP:((m.with fu).aj s).1=(m.aj s).1:=yq;rw[RP]at e6 e5;refine⟨_,m',.inl (by rw[e1];exact kh),e2,w7.trans e3,e4,by rw[e5,xm],?_⟩;rw[mj];exact e6
      by_cases iV:new=[]
      .subst iV;have aqO:(execOp a.eval o).run P m.w=.ok (.value (.slice (some ⟨m.σ id,0,none⟩) (len+([]:s_).length) cap)) m.w:=by
        apply run;rw[Bd,yz];have aqf:len<=cap:=vO;cases ax<;>simp[Builtin.append_,run_underlying ht,sizeOf,typeInfo,hi,Builtin.lenOf,Builtin.firstCells,loadCells,loadCellsFrom,aqf,storeCells]
       exact key m.w cur aqO rfl rfl rfl rfl (fun _ _=>rfl) hh rfl (by simpa using X7)
      obtain⟨b,off,news,rfl,pS,zC⟩:=zQ iV;have j9:news.length=new.length*i.size:=by rw[pS.1,N6,hs]
      have Cb:len*i.size+news.length<=cur.size:=by rw[j9,hs,dA,<-gY];rw[mj]at hfit;exact mV _ hfit
      have kh:=run_append_room (P:=P) m.w t o.type kB i ht hi (m.σ id) len cap cur hh ⟨b,off,none⟩ new.length cx news j9 (fun j v hj=>by rw[Addr.add_lit];exact zC j v hj) (aiw pS) hfit Cb;have aqP:(execOp a.eval o).run P m.w=.ok (.value (.slice (some ⟨m.σ id,0,none⟩) (len+new.length) cap)) _:=run _ _ (by rw[Bd,yz];exact kh);have apT:len*i.size<=cur.size:=oz (Nat.le_add_right _ _) Cb;refine key _ _ aqP ?_ ?_ ?_ ?_ (fun x hx=>setRow_other m.w (m.σ id) x _ hx) (Ps hh) ?_ ?_
      .rfl
      .rfl
      .rfl
      .exact setRow_size m.w _ _
      .rw[T4,fS,fS,iz,lH,PK];omega
      have h1:=X7.append pS;rw[<-EU]at h1;have:(cur.toList.take (len*i.size)++news++cur.toList.drop (len*i.size+news.length)).take ((len+new.length)*cD)=cur.toList.take (len*cD)++news:=by
       rw[hs];have cS:(cur.toList.take (len*cD)).length=len*cD:=by rw[iz,PK];rw[hs]at apT;omega
       have NN:(cur.toList.take (len*cD)++news).length=(len+new.length)*cD:=by rw[fS,cS,j9,hs,gY]
       rw[PW (GK NN.symm)];exact gK (GK NN)
      simp only[akE]at this |-;rw[this];exact h1
     · -- a new block
      have iV:new≠[]:=fun e=>by subst e;simp at hfit;omega
      obtain⟨b,off,news,rfl,pS,zC⟩:=zQ iV;have j9:news.length=new.length*i.size:=by rw[pS.1,N6,hs]
      have Bl:(cur.toList.take (len*cD)).length=len*i.size:=by rw[hs,iz,PK];have Bb:cur.size=m.κ id*cD:=dA;omega
      have kh:=run_append_grow (P:=P) m.w t o.type kB i zv ht hi yt ⟨m.σ id,0,none⟩ len cap (cur.toList.take (len*cD)) Bl (fun j v hj=>by
        rw[Addr.add_lit,jx];have:(m.w.cell? ⟨m.σ id,j,none⟩)=cur[j]? :=Fk hh;rw[this];rw[mA]at hj;split at hj
        .simpa using hj
        cases hj) ⟨b,off,none⟩ new.length cx news j9 (fun j v hj=>by rw[Addr.add_lit];exact zC j v hj) aa aa (growslice_fits aa (by rw[hb];omega))
      have Ei:len+new.length<=maxLen:=by simp only[maxLen];omega
      have Kw:=grownCap_ge m.w (len+new.length) cap kB;have Kx:=grownCap_le_maxLen m.w (len+new.length) cap kB Ei;generalize uQ:grownCap m.w (len+new.length) cap kB=cc at kh Kw Kx;generalize hW:m.w.drew.alloc (.cells ((cur.toList.take (len*cD)).toArray++news.toArray++Builtin.zeroCells zv.cells (cc-(len+new.length))) kB)=W at kh;have Ow:=YH (A2:=m.fr) (Vc oO bK rfl) (fun c hc=>.inl hc);have XI:Ev (m.with fu) {(m.with fu).iI id with fr:=m.fr}:=(Hh bK rfl).trans (Sv (fun c hc=>.inl hc));have Ec:fU ({(m.with fu).iI id with fr:=m.fr}:Mem).w W:=by rw[<-hW];exact(fU.drew _).trans (fU.alloc _ _)
      have Ea:Ev ({(m.with fu).iI id with fr:=m.fr}:Mem) (({(m.with fu).iI id with fr:=m.fr}:Mem).kZ W s m.w.heap.size cc (.arr kB cD (es.take len++new))):=Kd Ec (bY _);have afc:=XI.trans Ea;have RP:((({(m.with fu).iI id with fr:=m.fr}:Mem)).aj s).1=(m.aj s).1:=by
       simp only[Mem.iI,aP];split
       .rename_i e';subst e';exact yq
       exact yq
      refine⟨_,({(m.with fu).iI id with fr:=m.fr}:Mem).kZ W s m.w.heap.size cc (.arr kB cD (es.take len++new)),.inl (run _ _ (by rw[Bd,yz];exact kh)),Kf Ec (bY _) (by rw[<-hW];simp) Ow ?_,w7.trans afc,Ke Ow (bY _),?_,?_⟩
      .refine⟨_,by rw[FA,Xh,<-hW];exact heap_alloc_new m.w.drew _,jN,FN,by rw[rB,Eh];exact Kw,by rw[rB];exact Kx,?_,?_⟩
       .rw[rB];simp only[akm,T4,size_zeroCells,KT,j9,Bl,hs,<-gY];congr 1;omega
       have h1:=X7.append pS;rw[<-EU]at h1;have:((cur.toList.take (len*cD)).toArray++news.toArray++Builtin.zeroCells zv.cells (cc-(len+new.length))).toList.take ((es.take len++new).length*cD)=cur.toList.take (len*cD)++news:=by simp only[PL,Eh];exact List.take_left' (by rw[fS,akE,akE,Bl,j9,hs,gY])
       rw[this];exact dJ.ev afc.zero (dJ.pw.2 h1)
      .rw[Xg,xm];simp only[app];rw[RP];rfl
      have:=Nn (m:=({(m.with fu).iI id with fr:=m.fr}:Mem)) (w':=W) (s:=s) (c:=m.w.heap.size) (ty:=kB) (sz:=cD) (es:=es.take len++new) Kw Kx;rw[RP]at this;exact this
   cases hv
  cases hv
 · -- a slice that begins within its array: its values, nobody's any more
  rename_i id g zz off len aH HD;rw[HD]at pV;split at hv
  .rename_i g' kB cD es jh;split at hv
   .rename_i r7;obtain⟨ji,rfl,rfl,hlen,ll,XZ,uT,aqq⟩:=r7;cases hv;have X0:id∉fr:=by simpa using XZ
    have dE:(m.with fu).aj id=m.aj id:=by
     rcases xZ rF id with⟨e,_⟩|⟨jL,_⟩
     .exact e
     exact(X0 jL).elim
    have bK:((m.with fu).aj id).2=some (.arr kB cD es):=by rw[dE,jh]
    obtain⟨cur,hh,_,cT,hl,tm,dA,Ya⟩:=oO.obj id _ bK;have NM:dq m _ (a.eval d):=pV;generalize Bd:a.eval d=dv at NM;cases NM with
    |hsl ad cap hg vO KE N9=>
     obtain⟨f1,f2,f3⟩:=N9 cD (by rw[jh];exact ji) (by rw[jh];rfl);have oN:=f2 (.inr uT);subst oN;unfold room at ll;have eL:=(oO.hJ id _ bK rfl).1;have hnf:=(oO.hJ id _ bK rfl).2;have holds:=Gs (off:=off) (len:=len) cT (dJ.pw.1 Ya) hlen;have KO:((es.drop off).take len).length=len:=by simp;omega
     rw[KO]at holds;have apF:∀x∈(es.drop off).take len,x.length=cD:=fun x hx=>cT x (xN (yV hx));have FN:∀x∈(es.drop off).take len++new,x.length=cD:=by
      intro x hx;rcases eO.1 hx with hx|hx
      .exact apF x hx
      exact dz x hx
     have iV:new≠[]:=fun e=>by subst e;simp at aqq
     obtain⟨b,bo,news,rfl,pS,zC⟩:=zQ iV;have j9:news.length=new.length*i.size:=by rw[pS.1,N6,hs]
     have Eh:((es.drop off).take len++new).length=len+new.length:=by rw[fS,KO]
     have afe:(((es.drop off).take len++new).flatten).length=(len+new.length)*cD:=by rw[Ho FN,Eh]
     have Yb:=holds.append pS;rw[<-EU]at Yb;have Bl:((cur.toList.drop (off*cD)).take (len*cD)).length=len*i.size:=by rw[hs,iz,lH,PK];have Bb:cur.size=m.κ id*cD:=dA;have h1:(off+len)*cD<=m.κ id*cD:=mV _ aa;rw[gY]at h1;omega
     have xm:app (fu++[(id,(g,none))]) m.aj=eh (m.with fu).aj id (((m.with fu).aj id).1,none):=by rw[Mw];simp only[app];rw[dE,jh,ji];rfl
     have XG:Ok w0 ((m.with fu).iI id):=Vc oO bK rfl;have apV:Ev (m.with fu) ((m.with fu).iI id):=Hh bK rfl;have XV:¬((m.with fu).iI id).fX (m.σ id):=by
      rintro⟨j,o',h1,h2,h3⟩
      exact(XG.hJ j o' h1 h2).2 (.inr h3)
     have val:∀(m2:Mem) (c0 o0 cp:Nat) (cells:List Value),Ev (m.with fu) m2-> ¬m2.own c0->cells.length=(len+new.length)*cD->(∀j v,cells[j]?=some v->m2.w.cell? ⟨c0,o0+j,none⟩=some v)->
       Pw (cM (m.with fu).w (m.with fu).own) ((es.drop off).take len++new).flatten cells->len+new.length<=cp->cp<=maxLen->cq m2 (.one (.p (.sl ((es.drop off).take len++new)))) (.slice (some ⟨c0,o0,none⟩) (len+new.length) cp):=by
      intro m2 c0 o0 cp cells eF dR cS hce fv h1 h2;refine nA ?_;rw[<-Eh];refine .sl c0 o0 cp cD (fun j=>cells.getD j undef) (fun _=>dR) (by rw[Eh];exact h1) h2 FN (fun j x hj=>?_) (fun j x hj=>?_)
      .have nQ:j<cells.length:=by rw[cS,<-afe];exact(aT.1 hj).1
       rw[dC,rS nQ];exact hce j _ (rS nQ)
      have nQ:j<cells.length:=by rw[cS,<-afe];exact(aT.1 hj).1
      rw[dC,rS nQ];exact(fv.2 j x _ hj (rS nQ)).ev eF.zero
     by_cases hfit:len+new.length<=cap
     · -- in its own block
      have Cb:off*cD+len*i.size+news.length<=cur.size:=by rw[j9,hs,dA,<-gY,<-gY];exact mV _ (by have f3':off+cap=m.κ id:=f3;show _<=m.κ id;omega)
      have kh:=avd (P:=P) m.w t o.type kB i ht hi (m.σ id) (off*cD) len cap cur hh ⟨b,bo,none⟩ new.length cx news j9 (fun j v hj=>by rw[Addr.add_lit];exact zC j v hj) (aiw pS) hfit Cb;generalize hW:m.w.setRow (m.σ id) (cur.toList.take (off*cD+len*i.size)++news++cur.toList.drop (off*cD+len*i.size+news.length)).toArray=W at kh;have hWh:W.heap[m.σ id]?=some (.cells (cur.toList.take (off*cD+len*i.size)++news++cur.toList.drop (off*cD+len*i.size+news.length)).toArray kB (0,0)):=by rw[<-hW];exact Ps hh
      have k1:W.os=m.w.os:=by rw[<-hW];rfl
      have k2:W.tape=m.w.tape:=by rw[<-hW];rfl
      have k3:W.output=m.w.output:=by rw[<-hW];rfl
      have k4:W.heap.size=m.w.heap.size:=by rw[<-hW];exact setRow_size m.w _ _
      have k5:∀x,x≠m.σ id->W.heap[x]?=m.w.heap[x]? :=fun x hx=>by rw[<-hW];exact setRow_other m.w (m.σ id) x _ hx
      have X6:Ok w0 {(m.with fu).iI id with w:=W}:=ai0 (m:=(m.with fu).iI id) XG (.inr rfl) eL k1 k2 k3 k4 k5;have ap0:Ev (m.with fu) {(m.with fu).iI id with w:=W}:=acG bK rfl k1 k2 k3 k4 k5;have R5:=YH (A2:=m.fr) X6 (fun c hc=>.inl hc);have NZ:Ev (m.with fu) ({({(m.with fu).iI id with w:=W}:Mem)with fr:=m.fr}:Mem):=ap0.trans (Sv fun c hc=>.inl hc);refine⟨_,({({(m.with fu).iI id with w:=W}:Mem)with fr:=m.fr}:Mem),.inl (run _ _ (by rw[Bd,yz];exact kh)),R5,w7.trans NZ,rfl,by rw[xm];rfl,?_⟩;refine val _ (m.σ id) (off*cD) cap ((cur.toList.drop (off*cD)).take (len*cD)++news) NZ ?_ (by rw[fS,Bl,j9,hs,gY]) ?_ Yb hfit KE
      .rintro (h|h)
       .exact hnf h
       exact XV h
      intro j v hj;have cS:({({(m.with fu).iI id with w:=W}:Mem)with fr:=m.fr}:Mem).w.cell? ⟨m.σ id,off*cD+j,none⟩=(cur.toList.take (off*cD+len*i.size)++news++cur.toList.drop (off*cD+len*i.size+news.length)).toArray[off*cD+j]? :=Fk hWh;rw[cS];have nQ:=(aT.1 hj).1;rw[fS,Bl]at nQ;have KN:(cur.toList.take (off*cD+len*i.size)).length=off*cD+len*i.size:=by rw[iz,PK];omega
      rw[List.getElem?_toArray,wH];by_cases HN:j<len*i.size
      .rw[xM (by rw[KN];omega),mA,aD aa];rw[xM (by rw[Bl];exact HN),mA,aD (by rw[<-hs];exact HN),Ar]at hj;exact hj
      rw[Aq (by rw[KN];omega),KN,xM aa];rw[Aq (by rw[Bl];omega),Bl]at hj;rw[show off*cD+j-(off*cD+len*i.size)=j-len*i.size by omega];exact hj
     · -- a new block
      have hnlb:len+new.length<=(len+new.length)*bytes:=PZ _ HB;have kh:=run_append_grow (P:=P) m.w t o.type kB i zv ht hi yt ⟨m.σ id,off*cD,none⟩ len cap ((cur.toList.drop (off*cD)).take (len*cD)) Bl (fun j v hj=>by
        rw[Addr.add_lit];have:(m.w.cell? ⟨m.σ id,off*cD+j,none⟩)=cur[off*cD+j]? :=Fk hh;rw[this];rw[mA]at hj;split at hj
        .rw[Ar]at hj
         simpa using hj
        cases hj) ⟨b,bo,none⟩ new.length cx news j9 (fun j v hj=>by rw[Addr.add_lit];exact zC j v hj) aa aa (growslice_fits aa (by rw[hb];omega))
      have Ei:len+new.length<=maxLen:=by simp only[maxLen];omega
      have Kw:=grownCap_ge m.w (len+new.length) cap kB;have Kx:=grownCap_le_maxLen m.w (len+new.length) cap kB Ei;generalize uQ:grownCap m.w (len+new.length) cap kB=cc at kh Kw Kx;generalize hW:m.w.drew.alloc (.cells (((cur.toList.drop (off*cD)).take (len*cD)).toArray++news.toArray++Builtin.zeroCells zv.cells (cc-(len+new.length))) kB)=W at kh;have Ow:=YH (A2:=m.fr) XG (fun c hc=>.inl hc);have XI:Ev (m.with fu) {(m.with fu).iI id with fr:=m.fr}:=apV.trans (Sv (fun c hc=>.inl hc));have Ec:fU ({(m.with fu).iI id with fr:=m.fr}:Mem).w W:=by rw[<-hW];exact(fU.drew _).trans (fU.alloc _ _)
      have R5:=OW (X:=fun _=>False) Ow Ec (fun c hc=>hc.elim);have NZ:=XI.trans (K4 (X:=fun _=>False) Ec (fun c hc=>hc.elim));have HT:W.heap[m.w.heap.size]?=some (.cells (((cur.toList.drop (off*cD)).take (len*cD)).toArray++news.toArray++Builtin.zeroCells zv.cells (cc-(len+new.length))) kB (0,0)):=by rw[<-hW];exact heap_alloc_new m.w.drew _
      refine⟨_,({(m.with fu).iI id with fr:=m.fr}:Mem).later W (fun _=>False),.inl (run _ _ (by rw[Bd,yz];exact kh)),R5,w7.trans NZ,?_,by rw[xm];rfl,?_⟩
      .funext x;simp only[Mem.later];exact propext ⟨fun h=>h.elim (fun h=>h) (fun h=>h.elim),.inl⟩
      refine val _ m.w.heap.size 0 cc ((cur.toList.drop (off*cD)).take (len*cD)++news) NZ ?_ (by rw[fS,Bl,j9,hs,gY]) ?_ Yb Kw Kx
      .have aqs:¬(m.with fu).own m.w.heap.size:=by
        rintro(h|⟨j,o',h1,h2,h3⟩)
        .exact Nat.lt_irrefl _ (oO.frlt _ h)
        have:=(oO.obj j o' h1).lt;rw[h3]at this;exact Nat.lt_irrefl _ this
       rintro((h|h)|⟨j,o',h1,h2,h3⟩)
       .exact aqs (.inl h)
       .exact h
       have:=(R5.obj j o' h1).lt;have h4:=(Ow.obj j o' h1).lt;have rD:m.σ j=m.w.heap.size:=h3;have vG:m.σ j<m.w.heap.size:=h4;omega
      intro j v hj;have cS:W.cell? ⟨m.w.heap.size,0+j,none⟩=_:=Fk HT;show W.cell? ⟨m.w.heap.size,0+j,none⟩=some v;rw[cS,jx];have nQ:=(aT.1 hj).1;rw[<-IX,PL,PL,xM (by simpa using nQ)];exact hj
   cases hv
  cases hv
 cases hv
end
end Go.Abs
