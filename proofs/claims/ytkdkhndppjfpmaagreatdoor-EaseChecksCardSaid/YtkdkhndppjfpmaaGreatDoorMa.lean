/-
  An abstract machine for the code of the model.
-/
import Derived.KernelRfl
import Derived.Calls
import Derived.WalkKit
set_option linter.all false
open List renaming length->I
namespace Go.Abs
variable{f n g ln D N h:Nat}{x:Operand}{L:World}{Dq FY:Nat->Prop}{E us:List Value}{F:Array Value}{H:TypeId}{Y:Nat×Nat}{place:Nat->Option (Nat×Nat)}
abbrev dS:=List Bool
abbrev dd:=List Int
abbrev aF:=List Nat
abbrev eC:=Option Nat
abbrev rV:=List (Nat×Nat)
abbrev yf:=List (Int×Int)
theorem J{p:Prop}(h:p:=by omega):p:=h
theorem U{p:Prop}(h:p:=by decide):p:=h
theorem aP{p:Prop}(h:p:=by simp):p:=h
theorem ah{p:Prop}(h:p:=by kernel_rfl):p:=h
def aC:=@if_neg.{1}
def aD:=@if_pos.{1}
def bR:=@List.mem_of_getElem?.{0}
def cn:=@List.getElem?_eq_some_iff.{0}
def cG:=@Nat.zero_le
def cY:=@List.length_map.{0,0}
def c6:=@Bool.and_eq_true
def c3:=@Nat.le_refl
def dk:=@beq_iff_eq.{0}
def dr:=@List.mem_cons.{0}
def dC:=@List.getD_eq_getElem?_getD.{0}
def dW:=@List.length_cons.{0}
def dY:=@List.mem_map.{0,0}
def eI:=@Bool.false_eq_true
def eJ:=@List.map_cons.{0,0}
def e_:=@Option.map_eq_some_iff.{0,0}
def fx:=@List.take_of_length_le.{0}
def fk:=@Nat.mod_lt
def fU:=@List.length_nil.{0}
def gN:=@List.mem_range
def gT:=@List.length_append.{0}
def gX:=@List.length_take.{0}
def ic:=@List.not_mem_nil.{0}
def ig:=@List.getElem?_map.{0,0}
def iS:=@Option.some.injEq.{0}
def iI:=@decide_eq_true_eq
def iW:=@List.mem_append.{0}
def iY:=@of_decide_eq_false
def iZ:=@List.nil_append.{0}
def jc:=@Nat.le_of_ble_eq_true
def jf:=@Bool.not_eq_true'
def jh:=@Nat.mod_eq_of_lt
def jl:=@List.length_reverse.{0}
def jo:=@List.length_set.{0}
def jH:=@List.length_pos_iff.{0}
def jT:=@List.take_add_one.{0}
def j9:=@List.getElem?_of_mem.{0}
def kr:=@List.all_eq_true.{0}
def kP:=@List.map_append.{0,0}
def kG:=@Nat.add_mul
def kV:=@List.length_drop.{0}
def kZ:=@Option.getD_some.{0}
def lr:=@List.map_nil.{0,0}
def lA:=@List.take_length.{0}
def lq:=@Nat.zero_add
def mO:=@List.flatten_cons.{0}
def mT:=@List.getElem?_set.{0}
def mQ:=@Nat.lt_succ_iff_lt_or_eq
def mY:=@Prod.mk.injEq.{0,0}
def nu:=@List.take_append_drop.{0}
def ny:=@Nat.le_trans
def nr:=@decide_eq_false
def nP:=@Int.toNat_natCast
def nE:=@List.getElem?_take.{0}
def nU:=@List.map_map.{0,0,0}
def nR:=@List.nodup_cons.{0}
def ot:=@List.pairwise_cons.{0}
def o_:=@Int.eq_ofNat_of_zero_le
def pJ:=@of_decide_eq_true
def pB:=@Bool.or_eq_true
def pF:=@List.getElem?_eq_none.{0}
def pP:=@Nat.mul_le_mul_right
def pG:=@Nat.not_lt_zero
def pA:=@decide_eq_true
def pS:=@Bool.eq_iff_iff
def qF:=@List.nodup_nil.{0}
def rz:=@Option.some.inj.{0}
def qI:=@List.getElem?_range
def rb:=@List.mem_singleton.{0}
def rm:=@Option.map_some.{0,0}
def rT:=@List.append_nil.{0}
def rY:=@List.mem_filter.{0}
def rN:=@List.range_succ
def sf:=@Bool.true_and
def sn:=@List.append_assoc.{0}
def sh:=@List.foldl_cons.{0,0}
def sa:=@Option.map_none.{0,0}
def sK:=@beq_eq_false_iff_ne.{0}
def tA:=@List.countP_cons.{0}
def tj:=@List.getElem_cons_drop.{0}
def tD:=@Nat.mod_two_eq_zero_or_one
def um:=@List.countP_append.{0}
def ue:=@List.getElem?_eq_getElem.{0}
def vg:=@List.all_cons.{0}
def vj:=@List.length_eq_zero_iff.{0}
def u_:=@List.map_drop.{0,0}
def uJ:=@List.map_take.{0,0}
def vu:=@Nat.add_zero
def vm:=@Nat.min_eq_left
def v7:=@List.mem_of_mem_drop.{0}
def wu:=@List.mem_of_mem_take.{0}
def v8:=@Nat.add_mod_right
def xS:=@List.ext_getElem.{0}
def wY:=@List.getElem?_append_right.{0}
def xi:=@List.length_range
def xx:=@List.map_congr_left.{0,0}
def wZ:=@List.map_set.{0,0}
def yc:=@List.mem_cons_of_mem.{0}
def yF:=@List.all_nil.{0}
def yV:=@List.ext_getElem?.{0}
def zl:=@List.getElem?_append_left.{0}
def BY:=@List.getElem?_drop.{0}
def zk:=@List.pairwise_map.{0,0}
def DR:=@Nat.eq_of_beq_eq_true
def zL:=@beq_self_eq_true.{0}
def za:=@not_or
def AH:=@Bool.and_true
def zq:=@Bool.false_and
def At:=@List.countP_pos_iff.{0}
def Aw:=@List.mem_append_right.{0}
def zu:=@Nat.mod_self
def zB:=@Nat.sub_self
def zC:=@Nat.zero_mul
def Di:=@Bool.false_or
def BS:=@Bool.not_true
def Bv:=@List.cons_append.{0}
def BN:=@List.foldl_append.{0,0}
def BC:=@List.mem_filterMap.{0,0}
def Dh:=@Array.getD_eq_getD_getElem?.{0}
def C6:=@List.getElem_map.{0,0}
def Cg:=@List.mem_of_find?_eq_some.{0}
def Cc:=@List.nodup_append.{0}
def Cq:=@List.nodup_range
def Dx:=@Nat.lt_of_lt_of_le
def EP:=@List.flatten_append.{0}
def EG:=@List.mem_cons_self.{0}
def EE:=@List.mem_flatten.{0}
def E3:=@Nat.le_of_eq
def E6:=@List.any_eq_false.{0}
def G_:=@List.any_eq_true.{0}
def GN:=@List.contains_iff_mem.{0}
def Fz:=@List.countP_map.{0,0}
def G9:=@List.find?_eq_none.{0}
def Ha:=@List.perm_middle.{0}
def Fo:=@List.take_succ_cons.{0}
def GZ:=@List.take_take.{0}
def FN:=@Nat.add_assoc
def Gp:=@Nat.le_max_left
def H_:=@Array.getElem?_toList.{0}
def HG:=@Bool.not_false
def MK:=@Bool.not_not
def II:=@Bool.or_eq_false_iff
def Ho:=@List.countP_eq_zero.{0}
def HA:=@List.find?_some.{0}
def IV:=@List.foldl_nil.{0,0}
def Hq:=@List.getElem_range
def I6:=@List.getElem_set.{0}
def IM:=@List.pairwise_singleton.{0}
def IZ:=@List.set_append_right.{0}
def H4:=@Nat.add_sub_cancel
def IP:=@Nat.le_max_right
def I9:=@Nat.lt_or_ge
def I0:=@Nat.one_mul
def MP:=@Bool.and_assoc
def OX:=@Bool.and_self
def Lz:=@List.cons.injEq.{0}
def OC:=@List.contains_eq_mem.{0}
def LM:=@List.countP_congr.{0}
def Kz:=@List.drop_eq_getElem_cons.{0}
def K7:=@List.drop_length.{0}
def Lm:=@List.drop_zero.{0}
def Js:=@List.filter_append.{0}
def Jm:=@List.flatMap_cons.{0,0}
def J5:=@List.getElem?_reverse.{0}
def MB:=@List.idxOf_lt_length_iff.{0}
def LS:=@List.length_pos_of_mem.{0}
def Lj:=@List.mem_flatMap.{0,0}
def Ju:=@List.pairwise_append.{0}
def KX:=@List.perm_append_comm.{0}
def LC:=@List.take_append.{0}
def Kq:=@List.take_left.{0}
def LX:=@Nat.lt_trichotomy
def N5:=@Array.getElem?_eq_some_iff.{0}
def QJ:=@Array.getElem?_push.{0}
def OE:=@Array.getElem?_setIfInBounds.{0}
def Sx:=@Bool.or_false
def OM:=@List.all_eq_false.{0}
def P4:=@List.countP_eq_length_filter.{0}
def Nr:=@List.countP_le_length.{0}
def Nd:=@List.drop_of_length_le.{0}
def QE:=@List.eq_of_mem_replicate.{0}
def PQ:=@List.filterMap_append.{0,0}
def O9:=@List.find?_cons.{0}
def No:=@List.length_erase_of_mem.{0}
def Qu:=@List.mem_append_left.{0}
def QL:=@List.mem_erase_of_ne.{0}
def P8:=@List.mem_or_eq_of_mem_set.{0}
def M3:=@List.pairwise_iff_getElem.{0}
def Ow:=@List.sum_cons.{0}
def QF:=@List.take_append_of_le_length.{0}
def Od:=@List.take_zero.{0}
def N3:=@Nat.add_comm
def Nl:=@Nat.mul_comm
def Pc:=@Nat.one_ne_zero
def OZ:=@Option.bind_eq_some_iff.{0,0}
def Uw:=@Array.length_toList.{0}
def RL:=@Int.toNat_of_nonneg
def Ua:=@List.Pairwise.imp_of_mem.{0}
def VY:=@List.Perm.append_right.{0}
def Q1:=@List.any_cons.{0}
def UQ:=@List.any_nil.{0}
def R3:=@List.countP_nil.{0}
def UZ:=@List.drop_drop.{0}
def UM:=@List.drop_left.{0}
def VA:=@List.filter_cons_of_neg.{0}
def UG:=@List.flatten_nil.{0}
def R0:=@List.getElem_idxOf.{0}
def UK:=@List.idxOf_cons.{0}
def TH:=@List.length_replicate.{0}
def Rm:=@List.mem_reverse.{0}
def Vx:=@List.set_cons_zero.{0}
def Sa:=@List.set_eq_of_length_le.{0}
def Ve:=@List.set_getElem_self.{0}
def SF:=@Nat.beq_refl
def VP:=@Nat.le_mul_of_pos_right
def Uv:=@Nat.mul_le_mul
def Wv:=@Array.foldl_toList.{0,0}
def adp:=@Array.getElem?_append.{0}
def aa0:=@Bool.eq_false_iff
def abd:=@Int.tdiv_eq_ediv_of_nonneg
def Y9:=@List.Pairwise.imp.{0}
def adu:=@List.countP_singleton.{0}
def Wo:=@List.drop_append.{0}
def abA:=@List.drop_append_of_le_length.{0}
def abu:=@List.find?_append.{0}
def WD:=@List.findIdx_getElem.{0}
def aao:=@List.idxOf_append.{0}
def Xg:=@List.range_eq_range'
def ac9:=@List.take_append_getElem.{0}
def WE:=@List.take_succ_eq_append_getElem.{0}
def We:=@Nat.div_add_mod
def acf:=@Nat.le_antisymm
def Wb:=@Nat.le_of_not_lt
def aaV:=@Nat.lt_or_gt_of_ne
def aaw:=@Nat.mod_eq_sub_mod
def agz:=@List.eq_nil_of_length_eq_zero.{0}
def amZ:=@List.findIdx_lt_length_of_exists.{0}
inductive PV where
 |bool (b:Bool)
 |int (k:IntKind) (n:Int)
 |str (s:ByteArray)
 |vp|nils|tQ|yZ|nili|ifc|zs
 |box (cs:List PV)
 |sl (es:List (List PV))
 |mp (ag:Bool) (es:List (PV×List PV))
 |fn (f:Nat) (first cap:List PV)
 deriving Inhabited
abbrev b_:=List PV
variable{M z:b_}
abbrev yJ:=List (PV×b_)
abbrev q_:=List b_
variable{j:q_}
inductive dI where
 |p (v:PV)
 |bm (id g off:Nat)
 |eh (id g i off:Nat)
 |hsl (id g sz off len:Nat)
 |nL (id g:Nat)
 |hfn (f:Nat) (first cap:List dI)
 deriving Inhabited
abbrev eE:=List dI
variable{B:eE}{rs:List (Nat×eE)}
inductive V where
 |undef
 |one (c:dI)
 |agg (cs:eE)
 |tup (vs:List V)
 deriving Inhabited
variable{v:V}
abbrev dT:=List V
variable{Z:dT}
inductive f_ where
 |var (cs:eE)
 |arr (ty sz:Nat) (es:q_)
 |lN (ty sz:Nat) (es:List eE)
 |map (ag:Bool) (es:yJ)
 |fvar (cs:b_)
 |qW (ty sz:Nat) (es:q_)
 |fmap (ag:Bool) (es:yJ)
 deriving Inhabited
abbrev ct:=Nat->V
variable{A:ct}
abbrev aN:=Nat->Nat×Option f_
def dx{α:Type}(f:Nat->α)(a:Nat)(x:α):Nat->α:=λi=>if i=a then x else f i
theorem cD{α:Type}(f:Nat->α)(a b:Nat)(x:α):dx f a x b=if b=a then x else f b:=rfl
inductive fu where
 |t (n:Nat)
 |i (n:Int)
 |b (x:Bool)
 |k (v:V)
variable{y c' X y' i':fu}{Gu CO:Option fu}{qs:List (Nat×Nat×fu)}
abbrev uv:=List fu
inductive yq where
 |bool|ptr|slc|map|fnc|ifc
 |str (ks:dS)
inductive sR where
 |rl (x:fu)
 |pick (c a b:fu)
 |alloc (site:Nat) (z:b_)
 |box (site:Nat) (x:fu)
 |build (z:b_) (parts:List (Nat×Nat×fu))
 |Oo (site ty sz:Nat) (parts:uv)
 |load (k:eC) (x:fu)
 |store (n:Nat) (a x:fu)
 |QM (x:fu)
 |bin (op:BinOp) (x y:fu)
 |eqc (k:yq) (neg:Bool) (x y:fu)
 |un (op:UnOp) (x:fu)
 |conv (k:IntKind) (x:fu)
 |bstr (x:fu)
 |mkfn (f:Nat) (first cap:uv)
 |mkmap (site:Nat) (ag:Bool)
 |QH (site ty sz bytes:Nat) (z:b_) (len cap:fu)
 |slice (sz:Nat) (x:fu) (lo hi:Option fu)
 |sslice (x:fu) (lo hi:Option fu)
 |Ef (off:Nat) (x:fu)
 |Qn (sz:Nat) (x i:fu)
 |Oa (len sz:Nat) (x i:fu)
 |fld (off:Nat) (k:eC) (x:fu)
 |aidx (len sz:Nat) (k:eC) (x i:fu)
 |sidx (x i:fu)
 |lookup (kd:Nat) (z:b_) (agg ok:Bool) (x k:fu)
 |mupd (kd:Nat) (ag:Bool) (m k v:fu)
 |bad
 |extract (x:fu) (i:Nat)
 |call (site:Nat) (f:fu) (args:uv)
 |slen (x:fu)
 |Ur (x:fu)
 |mlen (x:fu)
 |append (site ty sz bytes:Nat) (s x:fu)
 |max (x y:fu)
 |min (x y:fu)
 |clear (z:b_) (x:fu)
structure mh where
 dst:eC
 op:sR
 guard:Option (Nat×Bool)
 anc:Nat
abbrev fI:=List mh
variable{ops:fI}
inductive aS where
 |skip
 |region (draw:Bool) (ops:fI)
 |seq (a b:aS)
 |cond (x:fu) (a b:aS)
 |block (id:Nat) (c:aS)
 |loop (c:aS)
 |exit (id:Nat)
 |ret
 |bad
structure aX where
 ntmps:Nat
 results:List (Nat×Option eC)
 body:aS
def ev (A:ct):fu->V
 | .t n=>A n
 | .i n=>.one (.p (.int .i64 n))
 | .b x=>.one (.p (.bool x))
 | .k v=>v
abbrev agQ:=Nat×(Nat×Option f_)
abbrev mF:=List agQ
variable{u:mF}
def app:mF->aN->aN
 |[],b=>b
 |(i,o)::r,b=>app r (dx b i o)
def PV.norm:PV->PV
 | .nils=>.sl []
 | .zs=>.sl []
 |v=>v
def T4:dI->Option PV
 | .p v=>some v.norm
 |_=>none
def D3:eE->Option b_
 |[]=>some []
 |c::r=>match T4 c,D3 r with
  |some v,some E=>some (v::E)
  |_,_=>none
def uM:V->Option eE
 | .one c=>some [c]
 | .agg B=>some B
 |_=>none
def iD{α β:Type}(f:α->Option (β×aF)):List α->Option (List β×aF)
 |[]=>some ([],[])
 |a::r=>match f a,iD f r with
  |some (b,x),some (B,y)=>some (b::B,x++y)
  |_,_=>none
def snap(aj:aN):Nat->dI->Option (PV×aF)
 |0,_=>none
 |n+1,c=>match c with
  | .p v=>some (v.norm,[])
  | .bm id g D=>match aj id with
   |(h,some (.var B))=>if h=g then
     match iD (snap aj n) B with
     |some (ps,r)=>some (.box (ps.drop D),id::r)
     |none=>none
    else none
   |(h,some (.fvar ps))=>if h=g then some (.box (ps.drop D),[id])else none
   |_=>none
  | .eh id g i D=>match aj id with
   |(h,some (.arr _ _ j))=>if h=g then(j[i]?).map λe=>(.box (e.drop D),[id])else none
   |(h,some (.qW _ _ j))=>if h=g then(j[i]?).map λe=>(.box (e.drop D),[id])else none
   |_=>none
  | .hsl id g z D len=>match aj id with
   |(h,some (.arr _ _ j))=>if h=g/\D+len<=I j then some (.sl ((j.drop D).take len),[id])else none
   |(h,some (.qW _ _ j))=>if h=g/\D+len<=I j then some (.sl ((j.drop D).take len),[id])else none
   |(h,some (.lN _ _ j))=>if h=g/\D+len<=I j then
     match iD (iD (snap aj n)) ((j.drop D).take len)with
     |some (ps,r)=>some (.sl ps,id::r)
     |none=>none
    else none
   |_=>none
  | .nL id g=>match aj id with
   |(h,some (.map A j))=>if h=g then some (.mp A j,[id])else none
   |(h,some (.fmap A j))=>if h=g then some (.mp A j,[id])else none
   |_=>none
  | .hfn f a b=>match iD (snap aj n) a,iD (snap aj n) b with
   |some (x,r),some (y,s)=>some (.fn f x y,r++s)
   |_,_=>none
def fA:Nat:=6
def qz(aj:aN):V->Option (V×aF)
 | .one c=>(snap aj fA c).map λ(v,r)=>(.one (.p v),r)
 | .agg B=>(iD (snap aj fA) B).map λ(E,r)=>(.agg (E.map .p),r)
 |_=>none
def y8(aj:aN)(all:aF)(id:Nat):Option mF:=
 match aj id with
 |(f,some (.var B))=>match iD (snap aj fA) B with
  |some (ps,r)=>if r.all all.contains then some [(id,(f,some (.fvar ps)))]else none
  |none=>none
 |(f,some (.arr H g j))=>some [(id,(f,some (.qW H g j)))]
 |(f,some (.lN H g j))=>match iD (iD (snap aj fA)) j with
  |some (ps,r)=>if r.all all.contains then some [(id,(f,some (.qW H g ps)))]else none
  |none=>none
 |(f,some (.map A j))=>some [(id,(f,some (.fmap A j)))]
 |(_,none)=>none
 |_=>some []
def uO(aj:aN)(all:aF):aF->Option mF
 |[]=>some []
 |i::r=>match y8 aj all i,uO aj all r with
  |some a,some b=>some (a++b)
  |_,_=>none
def vq(aj:aN)(ids:aF):Option mF:=uO aj ids ids
inductive nO where
 |p (v:PV)
 |own (ty sz:Nat) (es:q_)
 deriving Inhabited
abbrev pD:=List nO
inductive RV where
 |one (c:nO)
 |agg (cs:pD)
 |tup (vs:List RV)
 deriving Inhabited
def nO.pure:nO->nO
 | .p v=>.p v
 | .own _ _ j=>.p (.sl j)
def RV.Kt:RV->RV
 | .one c=>.one c.pure
 | .agg B=>.agg (B.map nO.pure)
 | .tup E=>.tup E
def RV.pure:RV->RV
 | .tup E=>.tup (E.map RV.Kt)
 |v=>v.Kt
def RV.fR(b:Bool)(r:RV):RV:=match b with
 |true=>r.pure
 |false=>r
def PV.scalar:PV->Bool
 | .bool _| .int _ _| .str _| .vp| .nils| .tQ| .yZ| .nili| .ifc| .zs=>true
 |_=>false
def nO.alone:nO->Bool
 | .p v=>v.scalar
 | .own _ _ j=>j.all λe=>e.all PV.scalar
def ij(aj:aN)(c:dI):Option (nO×aF×aF):=
 match c with
 | .p v=>some (.p v,[],[])
 | .hsl id h z 0 len=>match aj id with
  |(f,some (.arr H g j))=>if f=h/\len<=I j then some (.own H g (j.take len),[id],[])else none
  |_=>(snap aj fA c).map λ(v,r)=>(.p v,[],r)
 |_=>(snap aj fA c).map λ(v,r)=>(.p v,[],r)
def kS(aj:aN):eE->Option (pD×aF×aF)
 |[]=>some ([],[],[])
 |c::r=>match ij aj c,kS aj r with
  |some (x,o,q),some (M,os,qs)=>some (x::M,o++os,q++qs)
  |_,_=>none
def lX:V->Option eE
 | .one c=>some [c]
 | .agg B=>some B
 |_=>none
def vE:dT->Option eE
 |[]=>some []
 |v::r=>match lX v,vE r with
  |some a,some b=>some (a++b)
  |_,_=>none
def n_:V->Option eE
 | .tup E=>vE E
 |v=>lX v
def oh:V->pD->RV×pD
 | .one _,r::rs=>(.one r,rs)
 | .agg B,rs=>(.agg (rs.take (I B)),rs.drop (I B))
 |_,rs=>(.agg [],rs)
def EL:dT->pD->List RV
 |[],_=>[]
 |v::r,rs=>(oh v rs).1::EL r (oh v rs).2
def pK:V->pD->RV
 | .tup E,rs=>.tup (EL E rs)
 |v,rs=>(oh v rs).1
def mg:aF->aF->Bool
 |[],_=>true
 |i::r,q=> !r.contains i&& !q.contains i&&mg r q
def iR(aj:aN)(v:V):Option RV:=
 match n_ v with
 |some B=>match kS aj B with
  |some (x,o,q)=>if mg o q then some (pK v x)else none
  |none=>none
 |none=>none
def fC(aj:aN)(f:Nat):nO->dI×mF
 | .p v=>(.p v,[])
 | .own H g j=>(.hsl f ((aj f).1+1) g 0 (I j),[(f,((aj f).1+1,some (.arr H g j)))])
def nk(aj:aN)(f:Nat):pD->eE×mF
 |[]=>([],[])
 |c::r=>((fC aj f c).1::(nk aj (f+1) r).1,(fC aj f c).2++(nk aj (f+1) r).2)
def m_:RV->pD
 | .one c=>[c]
 | .agg B=>B
 | .tup _=>[]
def tz:List RV->pD
 |[]=>[]
 |v::r=>m_ v++tz r
def mz:RV->pD
 | .tup E=>tz E
 |v=>m_ v
def rF:RV->eE->V×eE
 | .one _,c::B=>(.one c,B)
 | .agg rs,B=>(.agg (B.take (I rs)),B.drop (I rs))
 |_,B=>(.undef,B)
def vG:List RV->eE->dT
 |[],_=>[]
 |v::r,B=>(rF v B).1::vG r (rF v B).2
def vO:RV->eE->V
 | .tup E,B=>.tup (vG E B)
 |v,B=>(rF v B).1
def RV.alone(r:RV):Bool:=(mz r).all nO.alone
def jq(aj:aN)(f:Nat)(r:RV):V×mF:=(vO r (nk aj f (mz r)).1,(nk aj f (mz r)).2)
inductive Dl where
 |fail
 |done (v:V) (u:mF) (rd:aF)
 |pc (f:Nat) (args:dT) (rd:aF) (site:Nat)
 |sc (f:Nat) (args:dT)
def D_(aj:aN):V->Option (eE×aF)
 | .one (.p (.box B))=>some (B.map .p,[])
 | .one (.bm id g D)=>match aj id with
  |(f,some (.var B))=>if f=g then some (B.drop D,[id])else none
  |(f,some (.fvar B))=>if f=g then some ((B.drop D).map .p,[id])else none
  |_=>none
 | .one (.eh id g i D)=>match aj id with
  |(f,some (.arr _ _ j))=>if f=g then(j[i]?).map λe=>((e.drop D).map .p,[id])else none
  |(f,some (.qW _ _ j))=>if f=g then(j[i]?).map λe=>((e.drop D).map .p,[id])else none
  |(f,some (.lN _ _ j))=>if f=g then(j[i]?).map λe=>(e.drop D,[id])else none
  |_=>none
 |_=>none
def tF(k:eC)(B:eE):Option V:=
 match k with
 |none=>match B with
  |c::_=>some (.one c)
  |[]=>none
 |some n=>if n<=I B then some (.agg (B.take n))else none
def gn{α:Type}(B:List α)(D:Nat)(M:List α):List α:=B.take D++M++B.drop (D+I M)
def Dw(aj:aN)(a:V)(n:Nat)(M:eE):Dl:=
 if I M≠n then .fail else
 match a with
 | .one (.bm id h D)=>match aj id with
  |(f,some (.var B))=>if f=h/\D+n<=I B then .done .undef [(id,(h,some (.var (gn B D M))))] [id]else .fail
  |_=>.fail
 | .one (.eh id h i D)=>match aj id with
  |(f,some (.arr H g j))=>match j[i]?,D3 M with
   |some e,some ps=>if f=h/\D+n<=I e then .done .undef [(id,(h,some (.arr H g (j.set i (gn e D ps)))))] [id]else .fail
   |_,_=>.fail
  |_=>.fail
 |_=>.fail
def js(aj:aN):V->Option (q_×aF×aF)
 | .one (.p .nils)=>some ([],[],[])
 | .one (.p (.sl j))=>some (j,[],[])
 | .one (.hsl id g z D len)=>match aj id with
  |(f,some (.arr _ _ j))=>if f=g/\D+len<=I j then some ((j.drop D).take len,[id],[])else none
  |(f,some (.qW _ _ j))=>if f=g/\D+len<=I j then some ((j.drop D).take len,[id],[])else none
  |(f,some (.lN _ _ j))=>if f=g/\D+len<=I j then
    match iD (iD (snap aj fA)) ((j.drop D).take len)with
    |some (ps,r)=>some (ps,[id],r)
    |none=>none
   else none
  |_=>if len=0 then some ([],[id],[])else none
 |_=>none
def ao(g:Nat)(j:q_):Bool:=j.all λe=>I e==g
def rZ:V->eC
 | .one (.hsl _ _ z _ _)=>some z
 |_=>none
def pV:Nat:=140737488355328
def af(aj:aN)(f H g bytes:Nat)(s x:V):Dl:=
 match js aj x with
 |none=>.fail
 |some (new,rd,fr)=>
  if¬(rZ x=some g\/ao g new)then .fail else
  match vq aj fr with
  |none=>.fail
  |some F=>
   match s with
   | .one (.p .nils)=>
    if I new=0 then .done (.one (.p .nils)) F (rd++fr)else
    if I new*bytes<=pV then
     .done (.one (.hsl f ((aj f).1+1) g 0 (I new))) (F++[(f,((aj f).1+1,some (.arr H g new)))]) (f::rd++fr)
    else .fail
   | .one (.p .zs)=>
    if I new=0 then .fail else
    if I new*bytes<=pV then
     .done (.one (.hsl f ((aj f).1+1) g 0 (I new))) (F++[(f,((aj f).1+1,some (.arr H g new)))]) (f::rd++fr)
    else .fail
   | .one (.hsl id n z 0 len)=>match aj id with
    |(h,some (.arr u m j))=>
     if h=n/\u=H/\m=g/\len<=I j/\(len+I new)*bytes<=pV/\fr.contains id=false then
      .done (.one (.hsl f ((aj f).1+1) g 0 (len+I new)))
       (F++[(id,(n,none)),(f,((aj f).1+1,some (.arr H g (j.take len++new))))]) (f::id::rd++fr)
     else .fail
    |_=>.fail
   |_=>.fail
def tg:V->eC
 | .one (.p (.int _ n))=>if 0<=n then some n.toNat else none
 |_=>none
def vh(A:ct)(d:Nat):Option fu->eC
 |none=>some d
 |some a=>tg (ev A a)
def Gs(x:V)(g lo h:Nat):Dl:=
 if¬lo<=h then .fail else
 match x with
 | .one (.p .nils)=>if h=0 then .done (.one (.p .nils)) [] []else .fail
 | .one (.p (.sl j))=>if h<=I j/\ao g j=true then .done (.one (.p (.sl ((j.drop lo).take (h-lo))))) [] []else .fail
 | .one (.hsl id f z D len)=>if h<=len/\z=g then .done (.one (.hsl id f z (D+lo) (h-lo))) [] []else .fail
 |_=>.fail
def B7:V->eC
 | .one (.p .nils)=>some 0
 | .one (.p (.sl j))=>some (I j)
 | .one (.hsl _ _ _ _ len)=>some len
 |_=>none
def qk(aj:aN):V->Option (Nat×aF)
 | .one (.p .tQ)=>some (0,[])
 | .one (.p (.mp _ j))=>some (I j,[])
 | .one (.nL id g)=>match aj id with
  |(f,some (.map _ j))=>if f=g then some (I j,[id])else none
  |(f,some (.fmap _ j))=>if f=g then some (I j,[id])else none
  |_=>none
 |_=>none
def nq(aj:aN)(A:Bool):V->Option (yJ×aF)
 | .one (.p .tQ)=>some ([],[])
 | .one (.p (.mp v j))=>if v=A then some (j,[])else none
 | .one (.nL id g)=>match aj id with
  |(f,some (.map v j))=>if f=g/\v=A then some (j,[id])else none
  |(f,some (.fmap v j))=>if f=g/\v=A then some (j,[id])else none
  |_=>none
 |_=>none
def Ed:PV->PV->Option Bool
 | .int k a,.int f b=>if k=f then some (a==b)else none
 | .str a,.str b=>some (a==b)
 | .bool a,.bool b=>some (a==b)
 |_,_=>none
def kD:PV->Nat
 | .int _ _=>0
 | .str _=>1
 | .bool _=>2
 |_=>3
def nc:Bool->b_->Option V
 |true,B=>some (.agg (B.map .p))
 |false,[c]=>some (.one (.p c))
 |false,_=>none
def xY(k:PV):yJ->Nat->Option (Option (Nat×b_))
 |[],_=>some none
 |(a,v)::r,i=>match Ed k a with
  |some true=>some (some (i,v))
  |some false=>xY k r (i+1)
  |none=>none
def sH:Bool->V->Option eE
 |false,.one c=>some [c]
 |true,.agg B=>some B
 |_,_=>none
def Je(op:BinOp)(k:IntKind)(a b:Int):Option PV:=
 match op with
 | .add=>some (.int k (k.wrap (a+b)))
 | .sub=>some (.int k (k.wrap (a-b)))
 | .mul=>some (.int k (k.wrap (a*b)))
 | .quo=>if b=0 then none else some (.int k (k.wrap (a.tdiv b)))
 | .rem=>if b=0 then none else some (.int k (a.tmod b))
 | .eql=>some (.bool (a==b))
 | .neq=>some (.bool (a !=b))
 | .lss=>some (.bool (decide (a<b)))
 | .leq=>some (.bool (decide (a<=b)))
 | .gtr=>some (.bool (decide (b<a)))
 | .geq=>some (.bool (decide (b<=a)))
 | .and=>some (.int k (k.wrap (BitVec.ofInt k.bits a&&& BitVec.ofInt k.bits b).toNat))
 | .shl=>if b<0 then none else some (.int k (k.wrap (a*2 ^ min b.toNat k.bits)))
 | .shr=>if b<0 then none else some (.int k (a.fdiv (2 ^ min b.toNat k.bits)))
 |_=>none
def E9(op:BinOp)(a b:ByteArray):Option PV:=
 match op with
 | .add=>if a.size+b.size<=9223372036854775807 then some (.str (a++b))else none
 | .eql=>some (.bool (a.toList==b.toList))
 | .neq=>some (.bool (!(a.toList==b.toList)))
 |_=>none
def Rl(op:BinOp):V->V->Option V
 | .one (.p (.int k a)),.one (.p (.int f b))=>if k=f\/op=.shl\/op=.shr then(Je op k a b).map λv=>.one (.p v)else none
 | .one (.p (.str a)),.one (.p (.str b))=>(E9 op a b).map λv=>.one (.p v)
 |_,_=>none
def uq:Bool->PV->PV->Option Bool
 |true,.int k a,.int f b=>if k=f then some (a==b)else none
 |false,.bool a,.bool b=>some (a==b)
 |_,_,_=>none
def tv:dS->eE->eE->Option Bool
 |[],[],[]=>some true
 |k::f,.p a::r,.p b::s=>match uq k a b with
  |some true=>tv f r s
  |some false=>some false
  |none=>none
 |_,_,_=>none
def Hr:yq->V->Option Bool
 | .ptr,.one (.p .vp)=>some true
 | .ptr,.one (.p (.box _))=>some false
 | .ptr,.one (.bm _ _ _)=>some false
 | .ptr,.one (.eh _ _ _ _)=>some false
 | .slc,.one (.p .nils)=>some true
 | .slc,.one (.p (.sl (_::_)))=>some false
 | .slc,.one (.hsl _ _ _ _ _)=>some false
 | .map,.one (.p .tQ)=>some true
 | .map,.one (.p (.mp _ _))=>some false
 | .map,.one (.nL _ _)=>some false
 | .fnc,.one (.p .yZ)=>some true
 | .fnc,.one (.p (.fn _ _ _))=>some false
 | .fnc,.one (.hfn _ _ _)=>some false
 | .ifc,.one (.p .nili)=>some true
 | .ifc,.one (.p .ifc)=>some false
 |_,_=>none
def FA:yq->V->V->Option Bool
 | .bool,.one (.p (.bool a)),.one (.p (.bool b))=>some (a==b)
 | .str f,.agg a,.agg b=>tv f a b
 | .bool,_,_=>none
 | .str _,_,_=>none
 |k,a,b=>if Hr k b=some true then Hr k a else if Hr k a=some true then Hr k b else none
def Fx(B:eE):List (Nat×eE)->eE
 |[]=>B
 |(D,M)::r=>Fx (gn B D M) r
def BE(A:ct):List (Nat×Nat×fu)->Option (List (Nat×eE))
 |[]=>some []
 |(D,n,a)::r=>match uM (ev A a),BE A r with
  |some B,some q=>if I B=n then some ((D,B)::q)else none
  |_,_=>none
def DC(A:ct)(g:Nat):uv->Option (List eE)
 |[]=>some []
 |a::r=>match uM (ev A a),DC A g r with
  |some B,some q=>if I B=g then some (B::q)else none
  |_,_=>none
def F4:List eE->Option q_
 |[]=>some []
 |c::r=>match D3 c,F4 r with
  |some v,some E=>some (v::E)
  |_,_=>none
def IY(A:ct)(a:fu):Option (Nat×eE×eE):=
 match ev A a with
 | .one (.p (.fn f x y))=>some (f,x.map .p,y.map .p)
 | .one (.hfn f x y)=>some (f,x,y)
 |_=>none
def E0(aj:aN):dT->Option (dT×aF):=iD (qz aj)
def KY:q_->Option (List UInt8)
 |[]=>some []
 |[.int .u8 n]::r=>(KY r).map (UInt8.ofNat n.toNat:: ·)
 |_::_=>none
def AM(A:ct):uv->Option eE
 |[]=>some []
 |a::r=>match ev A a,AM A r with
  | .one c,some q=>some (c::q)
  |_,_=>none
def c5(shared:Nat->Bool)(A:ct)(aj:aN):sR->Dl
 | .rl x=>.done (ev A x) [] []
 | .pick c a b=>match ev A c with
  | .one (.p (.bool t))=>.done (if t then ev A a else ev A b) [] []
  |_=>.fail
 | .alloc s z=>.done (.one (.bm s ((aj s).1+1) 0)) [(s,((aj s).1+1,some (.var (z.map .p))))] [s]
 | .box s x=>match uM (ev A x)with
  |some B=>.done (.one (.bm s ((aj s).1+1) 0)) [(s,((aj s).1+1,some (.var B)))] [s]
  |none=>.fail
 | .build z ps=>match BE A ps with
  |some q=>.done (.agg (Fx (z.map .p) q)) [] []
  |none=>.fail
 | .Oo s H g ps=>match DC A g ps with
  |some j=>match F4 j with
   |some qs=>.done (.one (.hsl s ((aj s).1+1) g 0 (I j))) [(s,((aj s).1+1,some (.arr H g qs)))] [s]
   |none=>.done (.one (.hsl s ((aj s).1+1) g 0 (I j))) [(s,((aj s).1+1,some (.lN H g j)))] [s]
  |none=>.fail
 | .load k x=>match D_ aj (ev A x)with
  |some (B,r)=>match tF k B with
   |some v=>.done v [] r
   |none=>.fail
  |none=>.fail
 | .store n a x=>match uM (ev A x)with
  |some M=>Dw aj (ev A a) n M
  |none=>.fail
 | .QM x=>match ev A x with
  | .one (.bm id u o)=>.done (.one (.bm id u o)) [] []
  | .one (.eh id u i o)=>.done (.one (.eh id u i o)) [] []
  | .one (.p (.box B))=>.done (.one (.p (.box B))) [] []
  | .one (.hfn f a b)=>.done (.one (.hfn f a b)) [] []
  | .one (.p (.fn f a b))=>.done (.one (.p (.fn f a b))) [] []
  |_=>.fail
 | .bin op x y=>match Rl op (ev A x) (ev A y)with
  |some v=>.done v [] []
  |none=>.fail
 | .eqc k Q x y=>match FA k (ev A x) (ev A y)with
  |some b=>.done (.one (.p (.bool (if Q then !b else b)))) [] []
  |none=>.fail
 | .un op x=>match op,ev A x with
  | .not,.one (.p (.bool b))=>.done (.one (.p (.bool (!b)))) [] []
  | .neg,.one (.p (.int k n))=>.done (.one (.p (.int k (k.wrap (0-n))))) [] []
  |_,_=>.fail
 | .conv k x=>match ev A x with
  | .one (.p (.int _ n))=>.done (.one (.p (.int k (k.wrap n)))) [] []
  |_=>.fail
 | .bstr x=>match js aj (ev A x)with
  |some (j,r,[])=>match KY j with
   |some T=>.done (.one (.p (.str ⟨T.toArray⟩))) [] r
   |none=>.fail
  |_=>.fail
 | .mkfn f a b=>match AM A a,AM A b with
  |some x,some y=>.done (.one (.hfn f x y)) [] []
  |_,_=>.fail
 | .mkmap s F=>.done (.one (.nL s ((aj s).1+1))) [(s,((aj s).1+1,some (.map F [])))] [s]
 | .QH s H g bytes z l c=>match tg (ev A l),tg (ev A c)with
  |some n,some m=>if n=m/\n*bytes<=pV then
    .done (.one (.hsl s ((aj s).1+1) g 0 n)) [(s,((aj s).1+1,some (.arr H g (List.replicate n z))))] [s]
   else .fail
  |_,_=>.fail
 | .slice g x lo N=>match B7 (ev A x)with
  |some n=>match vh A 0 lo,vh A n N with
   |some l,some h=>Gs (ev A x) g l h
   |_,_=>.fail
  |none=>.fail
 | .sslice x lo N=>match ev A x with
  | .one (.p (.str s))=>match vh A 0 lo,vh A s.size N with
   |some l,some h=>if l<=h/\h<=s.size then .done (.one (.p (.str (s.extract l h)))) [] []else .fail
   |_,_=>.fail
  |_=>.fail
 | .Ef D x=>match ev A x with
  | .one (.bm id u o)=>.done (.one (.bm id u (o+D))) [] []
  | .one (.eh id u i o)=>.done (.one (.eh id u i (o+D))) [] []
  | .one (.p (.box B))=>.done (.one (.p (.box (B.drop D)))) [] []
  |_=>.fail
 | .Qn g x i=>match tg (ev A i),ev A x with
  |some n,.one (.p (.sl j))=>match j[n]? with
   |some e=>if I e=g then .done (.one (.p (.box e))) [] []else .fail
   |none=>.fail
  |some n,.one (.hsl id u z D len)=>if n<len/\z=g then .done (.one (.eh id u (D+n) 0)) [] []else .fail
  |_,_=>.fail
 | .Oa len g x i=>match tg (ev A i),ev A x with
  |some n,.one (.bm id u o)=>if n<len then .done (.one (.bm id u (o+n*g))) [] []else .fail
  |some n,.one (.eh id u X o)=>if n<len then .done (.one (.eh id u X (o+n*g))) [] []else .fail
  |some n,.one (.p (.box B))=>if n<len then .done (.one (.p (.box (B.drop (n*g))))) [] []else .fail
  |_,_=>.fail
 | .fld D k x=>match ev A x with
  | .agg B=>match tF k (B.drop D)with
   |some v=>.done v [] []
   |none=>.fail
  |_=>.fail
 | .aidx len g k x i=>match tg (ev A i),ev A x with
  |some n,.agg B=>if n<len then
    match tF k (B.drop (n*g))with
    |some v=>.done v [] []
    |none=>.fail
   else .fail
  |_,_=>.fail
 | .sidx x i=>match tg (ev A i),ev A x with
  |some n,.one (.p (.str s))=>match s[n]? with
   |some b=>.done (.one (.p (.int .u8 b.toNat))) [] []
   |none=>.fail
  |_,_=>.fail
 | .lookup O z agg ok x k=>match nq aj agg (ev A x),ev A k with
  |some (j,r),.one (.p q)=>if kD q≠O then .fail else match xY q j 0 with
   |some f=>match nc agg ((f.map (·.2)).getD z)with
    |some w=>.done (if ok then .tup [w,.one (.p (.bool f.isSome))]else w) [] r
    |none=>.fail
   |none=>.fail
  |_,_=>.fail
 | .bad=>.fail
 | .mupd O F m k v=>match ev A m,ev A k,sH F (ev A v)with
  | .one (.nL id u),.one (.p q),some B=>match aj id,D3 B with
   |(L,some (.map R j)),some ps=>if L=u/\R=F/\kD q=O then
     match xY q j 0 with
     |some (some (i,_))=>.done .undef [(id,(u,some (.map F (j.set i (q,ps)))))] [id]
     |some none=>.done .undef [(id,(u,some (.map F (j++[(q,ps)]))))] [id]
     |none=>.fail
    else .fail
   |_,_=>.fail
  |_,_,_=>.fail
 | .extract x i=>match ev A x with
  | .tup E=>match E[i]? with
   |some v=>.done v [] []
   |none=>.fail
  |_=>.fail
 | .call s f as=>match IY A f with
  |some (u,a,b)=>
   if shared u then .sc u (a.map .one++as.map (ev A)++b.map .one)
   else match E0 aj (a.map .one++as.map (ev A)++b.map .one)with
    |some (E,r)=>.pc u E r s
    |none=>.fail
  |none=>.fail
 | .slen x=>match ev A x with
  | .one (.p (.str s))=>.done (.one (.p (.int .i64 s.size))) [] []
  |_=>.fail
 | .Ur x=>match B7 (ev A x)with
  |some n=>.done (.one (.p (.int .i64 n))) [] []
  |none=>.fail
 | .mlen x=>match qk aj (ev A x)with
  |some (n,r)=>.done (.one (.p (.int .i64 n))) [] r
  |none=>.fail
 | .append s H g bytes d x=>af aj s H g bytes (ev A d) (ev A x)
 | .max x y=>match ev A x,ev A y with
  | .one (.p (.int k a)),.one (.p (.int _ b))=>.done (.one (.p (.int k (if b>a then b else a)))) [] []
  |_,_=>.fail
 | .min x y=>match ev A x,ev A y with
  | .one (.p (.int k a)),.one (.p (.int _ b))=>.done (.one (.p (.int k (if b<a then b else a)))) [] []
  |_,_=>.fail
 | .clear z x=>match ev A x with
  | .one (.p .nils)=>.done (.tup []) [] []
  | .one (.p (.sl []))=>.done (.tup []) [] []
  | .one (.hsl id u _ D len)=>if len=0 then .done (.tup []) [] []else match aj id with
   |(L,some (.arr H g j))=>if L=u/\g=I z/\D+len<=I j then .done (.tup []) [(id,(u,some (.arr H g (gn j D (List.replicate len z)))))] [id]else .fail
   |_=>.fail
  |_=>.fail
structure je where
 rd:aF
 wr:aF
 fs:aF
abbrev gr:=List je
variable{R:ct->aN->gr->Prop}
structure cT where
 any:Bool
 ids:aF
 fs:aF
def cT.all:cT:=⟨true,[],[]⟩
def kW(id:Nat):Nat:=id/64000000
def cT.ok(a:cT)(id:Nat):Bool:=a.any||a.ids.contains id||a.fs.contains (kW id)
def cT.iA(a:cT)(l:aF):Bool:=l.all a.ok
def cT.holds(a b:cT):Bool:=a.any||(a.iA b.ids&&b.fs.all a.fs.contains)
structure nT where
 shared:Nat->Bool
 sites:Nat->aF
 lone:Nat->Bool
 al:cT
def o6(aj:aN):Nat->dI->aF
 |0,_=>[]
 |n+1,c=>match c with
  | .p _=>[]
  | .bm id _ _=>id::match aj id with
   |(_,some (.var B))=>(B.map (o6 aj n)).flatten
   |_=>[]
  | .eh id _ _ _=>id::match aj id with
   |(_,some (.lN _ _ j))=>(j.flatten.map (o6 aj n)).flatten
   |_=>[]
  | .hsl id _ _ _ _=>id::match aj id with
   |(_,some (.lN _ _ j))=>(j.flatten.map (o6 aj n)).flatten
   |_=>[]
  | .nL id _=>[id]
  | .hfn _ a b=>(a.map (o6 aj n)).flatten++(b.map (o6 aj n)).flatten
def lH(aj:aN):V->aF
 | .one c=>o6 aj fA c
 | .agg B=>(B.map (o6 aj fA)).flatten
 |_=>[]
def iB(T:nT)(f:Nat)(E:dT)(aj:aN):cT:=⟨false,(E.map (lH aj)).flatten,T.sites f⟩
def dP(A:ct)(d:eC)(v:V):ct:=
 match d with
 |some t=>dx A t v
 |none=>A
abbrev mf:=Nat->dT->Option RV
abbrev sA:=Nat->dT->cT->aN->Option (V×aN)
def fg(aj:aN)(rd:aF)(f:Nat)(r:RV):Option (V×mF):=
 if rd=[]\/r.alone then some (jq aj f r)
 else match vq aj rd with
  |some u=>some ((jq aj f r).1,u++(jq aj f r).2)
  |none=>none
def s9(A:ct):Option (Nat×Bool)->Option Bool
 |none=>some true
 |some (t,f)=>match A t with
  | .one (.p (.bool b))=>some (b==f)
  | .undef=>some false
  |_=>none
def nv(T:nT)(cp:mf)(B:sA)(o:mh)(A:ct)(aj:aN):Option (ct×aN×je):=
 match s9 A o.guard with
 |none=>none
 |some false=>some (dP A o.dst .undef,aj,⟨[],[],[]⟩)
 |some true=>match c5 T.shared A aj o.op with
  | .fail=>none
  | .done v u r=>if T.al.iA (r++u.map (·.1))then some (dP A o.dst v,app u aj,⟨r,u.map (·.1),[]⟩)else none
  | .pc f E r s=>match cp f E with
   |some x=>match fg aj r s (x.fR (T.lone s))with
    |some (v,u)=>if T.al.iA (r++u.map (·.1))then some (dP A o.dst v,app u aj,⟨r++u.map (·.1),u.map (·.1),[]⟩)else none
    |none=>none
   |none=>none
  | .sc f E=>if T.al.holds (iB T f E aj)then
    match B f E (iB T f E aj) aj with
    |some (v,g)=>some (dP A o.dst v,g,⟨(iB T f E aj).ids,(iB T f E aj).ids,(iB T f E aj).fs⟩)
    |none=>none
   else none
def jV(T:nT)(cp:mf)(B:sA):fI->ct->aN->Option (ct×aN×gr)
 |[],A,aj=>some (A,aj,[])
 |o::r,A,aj=>match nv T cp B o A aj with
  |some (f,g,e)=>match jV T cp B r f g with
   |some (O,L,j)=>some (O,L,e::j)
   |none=>none
  |none=>none
def rJ(a b:aF):Bool:=a.any λi=>b.contains i
def xy(fs ids:aF):Bool:=ids.any λi=>fs.contains (kW i)
def xG(a b:je):Bool:=rJ a.wr b.rd||rJ a.wr b.wr||rJ a.rd b.wr||rJ a.fs b.fs||xy a.fs (b.rd++b.wr)||xy b.fs (a.rd++a.wr)
def A3(anc:Nat)(e:je):Nat->gr->Bool
 |_,[]=>true
 |j,x::r=>(anc.testBit j|| !xG x e)&&A3 anc e (j+1) r
def ql:fI->gr->gr->Bool
 |o::os,f,e::j=>A3 o.anc e 0 f&&ql os (f++[e]) j
 |_,_,_=>true
inductive qm where
 |normal
 |exit (id:Nat)
 |ret
def n9(f:ct->aN->Option (qm×ct×aN)):Nat->ct->aN->Option (qm×ct×aN)
 |0,_,_=>none
 |n+1,A,aj=>match f A aj with
  |some (.normal,g,h)=>n9 f n g h
  |r=>r
def dR(T:nT)(cp:mf)(B:sA)(n:Nat):aS->ct->aN->Option (qm×ct×aN)
 | .skip,A,aj=>some (.normal,A,aj)
 | .region d ops,A,aj=>match jV T cp B ops A aj with
  |some (f,g,j)=>if d then(if ql ops [] j then some (.normal,f,g)else none)else some (.normal,f,g)
  |none=>none
 | .seq a b,A,aj=>match dR T cp B n a A aj with
  |some (.normal,f,g)=>dR T cp B n b f g
  |r=>r
 | .cond x a b,A,aj=>match ev A x with
  | .one (.p (.bool t))=>if t then dR T cp B n a A aj else dR T cp B n b A aj
  |_=>none
 | .block id c,A,aj=>match dR T cp B n c A aj with
  |some (.exit i,f,g)=>if i=id then some (.normal,f,g)else some (.exit i,f,g)
  |r=>r
 | .loop c,A,aj=>n9 (dR T cp B n c) n A aj
 | .exit id,A,aj=>some (.exit id,A,aj)
 | .ret,A,aj=>some (.ret,A,aj)
 | .bad,_,_=>none
def s_(Z:dT):ct:=λi=>Z.getD i .undef
def RT:V->Option V
 | .tup _=>none
 |v=>some v
def qJ(al:cT)(A:ct)(aj:aN):List (Nat×Option eC)->Option dT
 |[]=>some []
 |(t,none)::r=>match RT (A t),qJ al A aj r with
  |some v,some q=>some (v::q)
  |_,_=>none
 |(t,some k)::r=>match D_ aj (A t),qJ al A aj r with
  |some (B,rd),some q=>if al.iA rd then(tF k B).map (· ::q)else none
  |_,_=>none
def By:dT->V
 |[v]=>v
 |E=>.tup E
def BT:aN:=λ_=>(0,none)
def sP(T:nT)(cp:mf)(B:sA)(n:Nat)(fn:aX)(Z:dT)(aj:aN):Option (V×aN):=
 match dR T cp B n fn.body (s_ Z) aj with
 |some (.normal,A,f)=>(qJ T.al A f fn.results).map λE=>(By E,f)
 |some (.ret,A,f)=>(qJ T.al A f fn.results).map λE=>(By E,f)
 |_=>none
def IS(T:nT)(cp:mf)(B:sA)(n:Nat)(fn:aX)(Z:dT):Option RV:=
 match sP T cp B n fn Z BT with
 |some (v,aj)=>iR aj v
 |none=>none
structure Sys where
 P:Program
 shared:Nat->Bool
 sites:Nat->aF
 lone:Nat->Bool
 fns:Nat->Option aX
 prim:Nat->dT->Option (Option RV)
 trig:Nat->dT->Bool:=λ_ _=>false
 primS:Nat->dT->cT->aN->Option (V×mF):=λ_ _ _ _=>none
def Sys.ctx(S:Sys)(a:cT):nT:=⟨S.shared,S.sites,S.lone,a⟩
mutual
def jO(S:Sys):Nat->mf
 |0,_,_=>none
 |n+1,f,Z=>match S.prim f Z with
  |some r=>r
  |none=>match S.fns f with
   |some fn=>if I Z<=fn.ntmps then IS (S.ctx .all) (jO S n) (jJ S n) n fn Z else none
   |none=>none
def jJ(S:Sys):Nat->sA
 |0,_,_,_,_=>none
 |n+1,f,Z,al,aj=>if S.trig f Z=true then(S.primS f Z al aj).map (λr=>(r.1,app r.2 aj))else match S.fns f with
  |some fn=>if I Z<=fn.ntmps then sP (S.ctx al) (jO S n) (jJ S n) n fn Z aj else none
  |none=>none
end
def aK(S:Sys)(f:Nat)(Z:dT)(r:RV):Prop:= ∃n,jO S n f Z=some r
def lK(S:Sys)(f:Nat)(Z:dT)(al:cT)(aj:aN)(v:V)(A:aN):Prop:= ∃n,jJ S n f Z al aj=some (v,A)
abbrev hs:=qm->ct->aN->Prop
def ch (S:Sys)(al:cT)(c:aS)(Q:hs)(A:ct)(aj:aN):Prop:=∃n e g f,dR (S.ctx al) (jO S n) (jJ S n) n c A aj=some (e,g,f)/\Q e g f
def r5 (S:Sys)(al:cT)(ops:fI)(Q:ct->aN->gr->Prop)(A:ct)(aj:aN)(tr:gr):Prop:=∃n f g j,jV (S.ctx al) (jO S n) (jJ S n) ops A aj=some (f,g,j)/\Q f g (tr++j)
section
variable{m n:Nat}
def J7(a b:mf):Prop:=∀f x r,a f x=some r->b f x=some r
def Rb(a b:sA):Prop:=∀f x l k r,a f x l k=some r->b f x l k=some r
section
variable {T:nT} {cp qT:mf} {B Hu:sA} (hp:J7 cp qT) (ae:Rb B Hu)
include hp ae
theorem ajB{o:mh}{aj:aN}{r:ct×aN×je}(h:nv T cp B o A aj=some r):nv T qT Hu o A aj=some r:=by
 unfold nv at h |-;cases j:s9 A o.guard with
 |none=>simp[j]at h
 |some b=>
  cases b with
  |false=>simpa [j]using h
  |true=>
   simp only[j]at h |-;cases g:c5 T.shared A aj o.op with
   |fail=>simp[g]at h
   |done v u rd=>simpa [g]using h
   |pc f E rd s=>
    simp only[g]at h |-;cases H:cp f E with
    |none=>simp[H]at h
    |some x=>rw[hp _ _ _ H];simpa [H]using h
   |sc f E=>
    simp only[g]at h |-;split at h
    .rename_i m;rw[aD m];cases H:B f E (iB T f E aj) aj with
     |none=>simp[H]at h
     |some x=>rw[ae _ _ _ _ _ H];simpa [H]using h
    cases h
theorem afQ:∀ {ops:fI}{A:ct}{aj:aN}{r:ct×aN×gr},jV T cp B ops A aj=some r->jV T qT Hu ops A aj=some r:=by
 intro ops
 induction ops with
 |nil=>intro A aj r h;simpa [jV]using h
 |cons o os j=>
  intro A aj r h;simp only[jV]at h |-;cases f:nv T cp B o A aj with
  |none=>simp[f]at h
  |some x=>
   obtain⟨E,g,F⟩:=x;rw[ajB hp ae f];simp only[f]at h |-;cases H:jV T cp B os E g with
   |none=>simp[H]at h
   |some y=>rw[j H];simpa [H]using h
omit hp ae in
theorem aob{f g:ct->aN->Option (qm×ct×aN)}(y:∀e b r,f e b=some r->g e b=some r):
  ∀ {n m:Nat}{A:ct}{aj:aN}{r:qm×ct×aN},n<=m->n9 f n A aj=some r->n9 g m A aj=some r:=by
 intro n
 induction n with
 |zero=>intro m A aj r _ h;simp[n9]at h
 |succ n j=>
  intro m A aj r hm h;obtain⟨m,rfl⟩:∃k,m=k+1:=⟨m-1,J⟩;simp only[n9]at h |-;cases H:f A aj with
  |none=>simp[H]at h
  |some x=>
   obtain⟨e,E,B⟩:=x;rw[y _ _ _ H];cases e with
   |normal=>simp only[H]at h |-;exact j J h
   |exit i=>simpa [H]using h
   |ret=>simpa [H]using h
theorem ahS(v:n<=m):∀ {c:aS}{A:ct}{aj:aN}{r:qm×ct×aN},dR T cp B n c A aj=some r->dR T qT Hu m c A aj=some r:=by
 intro c
 induction c with
 |skip=>intro A aj r h;simpa [dR]using h
 |region d ops=>
  intro A aj r h;simp only[dR]at h |-;cases H:jV T cp B ops A aj with
  |none=>simp[H]at h
  |some x=>rw[afQ hp ae H];simpa [H]using h
 |seq a b f g=>
  intro A aj r h;simp only[dR]at h |-;cases H:dR T cp B n a A aj with
  |none=>simp[H]at h
  |some x=>
   obtain⟨e,E,y⟩:=x;rw[f H];cases e with
   |normal=>simp only[H]at h |-;exact g h
   |exit i=>simpa [H]using h
   |ret=>simpa [H]using h
 |cond x a b f g=>
  intro A aj r h;simp only[dR]at h |-;split at h
  .split at h
   .rename_i j;simp only[j,if_true];exact f h
   rename_i j;simp only[j];exact g h
  cases h
 |block id c u=>
  intro A aj r h;simp only[dR]at h |-;cases H:dR T cp B n c A aj with
  |none=>simp[H]at h
  |some x=>rw[u H];simpa [H]using h
 |loop c u=>intro A aj r h;simp only[dR]at h |-;exact aob (λ_ _ _ h=>u h) v h
 |exit id=>intro A aj r h;simpa [dR]using h
 |ret=>intro A aj r h;simpa [dR]using h
 |bad=>intro A aj r h;simp[dR]at h
theorem UA(j:n<=m){fn:aX}{aj:aN}{r:V×aN}(h:sP T cp B n fn Z aj=some r):sP T qT Hu m fn Z aj=some r:=by
 unfold sP at h |-;cases H:dR T cp B n fn.body (s_ Z) aj with
 |none=>simp[H]at h
 |some x=>rw[ahS hp ae j H];simpa [H]using h
theorem afp(j:n<=m){fn:aX}{r:RV}(h:IS T cp B n fn Z=some r):IS T qT Hu m fn Z=some r:=by
 unfold IS at h |-;cases H:sP T cp B n fn Z BT with
 |none=>simp[H]at h
 |some x=>rw[UA hp ae j H];simpa [H]using h
end
theorem agN(S:Sys):∀n,J7 (jO S n) (jO S (n+1))/\Rb (jJ S n) (jJ S (n+1)):=by
 intro n
 induction n with
 |zero=>exact⟨λf x r h=>by simp[jO]at h,λf x l k r h=>by simp[jJ]at h⟩
 |succ n g=>
  refine⟨λf x r h=>?_,λf x l k r h=>?_⟩
  .rw[jO]at h |-;cases hp:S.prim f x with
   |some R=>simpa [hp]using h
   |none=>
    simp only[hp]at h |-;cases H:S.fns f with
    |none=>simp[H]at h
    |some fn=>
     simp only[H]at h |-;split at h
     .rename_i hl;rw[aD hl];exact afp g.1 g.2 J h
     cases h
  rw[jJ]at h |-;by_cases j:S.trig f x
  .rw[aD j]at h |-;exact h
  rw[aC j]at h |-;cases H:S.fns f with
  |none=>simp[H]at h
  |some fn=>
   simp only[H]at h |-;split at h
   .rename_i hl;rw[aD hl];exact UA g.1 g.2 J h
   cases h
theorem Fp(S:Sys)(h:n<=m):J7 (jO S n) (jO S m):=by
 induction h with
 |refl=>exactλ_ _ _ h=>h
 |step _ g=>exactλf x r hr=>(agN S _).1 f x r (g f x r hr)
theorem M_(S:Sys)(h:n<=m):Rb (jJ S n) (jJ S m):=by
 induction h with
 |refl=>exactλ_ _ _ _ _ h=>h
 |step _ g=>exactλf x l k r hr=>(agN S _).2 f x l k r (g f x l k r hr)
theorem aK.Cn{S:Sys}{r R:RV}(h:aK S f Z r)(H:aK S f Z R):r=R:=by obtain⟨n,g⟩:=h;obtain⟨m,hm⟩:=H;have a:=Fp S (Gp n m) _ _ _ g;have b:=Fp S (IP n m) _ _ _ hm;rw[a]at b;exact rz b
theorem IK(S:Sys){al:cT}(h:n<=m){c:aS}{aj:aN}{r:qm×ct×aN}(hr:dR (S.ctx al) (jO S n) (jJ S n) n c A aj=some r):
  dR (S.ctx al) (jO S m) (jJ S m) m c A aj=some r:=ahS (Fp S h) (M_ S h) h hr
theorem axc(S:Sys){al:cT}(h:n<=m){aj:aN}{r:ct×aN×gr}(hr:jV (S.ctx al) (jO S n) (jJ S n) ops A aj=some r):
  jV (S.ctx al) (jO S m) (jJ S m) ops A aj=some r:=afQ (Fp S h) (M_ S h) hr
variable {S:Sys} {al:cT} {Q:hs} {A:ct} {aj:aN}
theorem ch.mono{c:aS}{f:hs}(h:ch S al c Q A aj)(H:∀e A aj,Q e A aj->f e A aj):ch S al c f A aj:=by obtain⟨n,e,j,g,u,m⟩:=h;exact⟨n,e,j,g,u,H _ _ _ m⟩
theorem aoA(h:Q .normal A aj):ch S al .skip Q A aj:=⟨0,_,_,_,rfl,h⟩
theorem asW{id:Nat}(h:Q (.exit id) A aj):ch S al (.exit id) Q A aj:=⟨0,_,_,_,rfl,h⟩
theorem axr(h:Q .ret A aj):ch S al .ret Q A aj:=⟨0,_,_,_,rfl,h⟩
def Ol(next:ct->aN->Prop)(Q:hs):hs
 | .normal,A,aj=>next A aj
 |e,A,aj=>Q e A aj
theorem awc{a b:aS}(h:ch S al a (Ol (ch S al b Q) Q) A aj):ch S al (.seq a b) Q A aj:=by
 obtain⟨n,e,v,u,f,H⟩:=h;cases e with
 |normal=>obtain⟨m,e,D,B,j,g⟩:=H;refine⟨max n m,e,D,B,?_,g⟩;simp only[dR];rw[IK S (Gp n m) f];exact IK S (IP n m) j
 |exit i=>exact⟨n,_,_,_,by simp[dR,f],H⟩
 |ret=>exact⟨n,_,_,_,by simp[dR,f],H⟩
theorem aqu{x:fu}{a b:aS}{t:Bool}(m:ev A x=.one (.p (.bool t)))(h:if t=true then ch S al a Q A aj else ch S al b Q A aj):ch S al (.cond x a b) Q A aj:=by
 cases t with
 |true=>obtain⟨n,e,g,f,j,H⟩:=h;exact⟨n,e,g,f,by simp[dR,m,j],H⟩
 |false=>obtain⟨n,e,g,f,j,H⟩:=(by simpa using h:ch S al b Q A aj);exact⟨n,e,g,f,by simp[dR,m,j],H⟩
def oR(id:Nat)(Q:hs):hs
 | .exit i,A,aj=>if i=id then Q .normal A aj else Q (.exit i) A aj
 |e,A,aj=>Q e A aj
theorem ayu{id:Nat}{c:aS}(h:ch S al c (oR id Q) A aj):ch S al (.block id c) Q A aj:=by
 obtain⟨n,e,m,j,f,H⟩:=h;cases e with
 |normal=>exact⟨n,_,_,_,by simp[dR,f],H⟩
 |ret=>exact⟨n,_,_,_,by simp[dR,f],H⟩
 |exit i=>
  simp only[oR]at H;by_cases g:i=id
  .simp only[g,if_true]at H;exact⟨n,_,_,_,by simp[dR,f,g],H⟩
  simp only[g,if_false]at H;exact⟨n,_,_,_,by simp[dR,f,g],H⟩
theorem acC(S:Sys){c:aS}{k l:Nat}(h:n<=m)(H:k<=l){r:qm×ct×aN}(hr:n9 (dR (S.ctx al) (jO S n) (jJ S n) n c) k A aj=some r):
  n9 (dR (S.ctx al) (jO S m) (jJ S m) m c) l A aj=some r:=aob (λ_ _ _ f=>IK S h f) H hr
theorem aBP{c:aS}(D:Nat->ct->aN->Prop)(u N:Nat)(Z:u<=N)(E:D u A aj)
  (R:∀k A aj,k<=N->D k A aj->ch S al c (Ol (λf g=>k<N/\D (k+1) f g) Q) A aj):ch S al (.loop c) Q A aj:=by
 have x:∀j k A aj,k+j=N->D k A aj->∃n l e f g,n9 (dR (S.ctx al) (jO S n) (jJ S n) n c) l A aj=some (e,f,g)/\Q e f g:=by
  intro j
  induction j with
  |zero=>
   intro k A aj M y;obtain⟨n,e,z,B,H,h⟩:=R k A aj J y;cases e with
   |normal=>obtain⟨Y,_⟩:=h;omega
   |exit i=>exact⟨n,1,_,_,_,by simp[n9,H],h⟩
   |ret=>exact⟨n,1,_,_,_,by simp[n9,H],h⟩
  |succ j X=>
   intro k A aj M y;obtain⟨n,e,z,B,H,h⟩:=R k A aj J y;cases e with
   |normal=>obtain⟨_,v⟩:=h;obtain⟨m,l,e,F,T,O,L⟩:=X (k+1) z B J v;refine⟨max n m,l+1,e,F,T,?_,L⟩;simp only[n9];rw[IK S (Gp n m) H];exact acC S (IP n m) (c3 _) O
   |exit i=>exact⟨n,1,_,_,_,by simp[n9,H],h⟩
   |ret=>exact⟨n,1,_,_,_,by simp[n9,H],h⟩
 obtain⟨n,l,e,f,g,H,h⟩:=x (N-u) u A aj J E;refine⟨max n l,e,f,g,?_,h⟩;simp only[dR];exact acC S (Gp n l) (IP n l) H
theorem azG{d:Bool}(h:r5 S al ops (λA aj j=>(d->ql ops [] j)/\Q .normal A aj) A aj []):ch S al (.region d ops) Q A aj:=by
 obtain⟨n,f,g,j,m,H,u⟩:=h;refine⟨n,.normal,f,g,?_,u⟩;simp only[dR,m];cases d with
 |false=>simp
 |true=>simpa using H
theorem aBR{tr:gr}(h:R A aj tr):r5 S al [] R A aj tr:=⟨0,A,aj,[],rfl,by simpa using h⟩
theorem Ue{o:mh}{os:fI}{tr:gr}{n:Nat}{g:ct}{B:aN}{e:je}
  (v:nv (S.ctx al) (jO S n) (jJ S n) o A aj=some (g,B,e)) (h:r5 S al os R g B (tr++[e])):r5 S al (o::os) R A aj tr:=by
 obtain⟨m,f,u,j,H,x⟩:=h;refine⟨max n m,f,u,e::j,?_,by simpa using x⟩;simp only[jV];rw[ajB (Fp S (Gp n m)) (M_ S (Gp n m)) v];simp[axc S (IP n m) H]
def I1(S:Sys)(al:cT)(p:Dl)(d:eC)(A:ct)(aj:aN)(tr:gr)(bY:ct->aN->gr->Prop):Prop:=
 match p with
 | .fail=>False
 | .done v u r=>al.iA (r++u.map (·.1))=true/\bY (dP A d v) (app u aj) (tr++[⟨r,u.map (·.1),[]⟩])
 | .pc f E r s=>∃x,aK S f E x/\match fg aj r s (x.fR (S.lone s))with
  |some (v,u)=>al.iA (r++u.map (·.1))=true/\bY (dP A d v) (app u aj) (tr++[⟨r++u.map (·.1),u.map (·.1),[]⟩])
  |none=>False
 | .sc f E=>al.holds (iB (S.ctx al) f E aj)=true/\ ∃v g,lK S f E (iB (S.ctx al) f E aj) aj v g/\
   bY (dP A d v) g (tr++[⟨(iB (S.ctx al) f E aj).ids,(iB (S.ctx al) f E aj).ids,(iB (S.ctx al) f E aj).fs⟩])
def GQ(S:Sys)(al:cT)(w:Option Bool)(o:mh)(A:ct)(aj:aN)(tr:gr)(bY:ct->aN->gr->Prop):Prop:=
 match w with
 |none=>False
 |some false=>bY (dP A o.dst .undef) aj (tr++[⟨[],[],[]⟩])
 |some true=>I1 S al (c5 S.shared A aj o.op) o.dst A aj tr bY
@[simp] theorem cT.Hi (l:aF):cT.all.iA l:=by simp[cT.iA,cT.ok,cT.all]
@[simp] theorem cT.azR (b:cT):cT.all.holds b:=rfl
theorem aym{o:mh}{os:fI}{tr:gr}
  (h:GQ S al (s9 A o.guard) o A aj tr (r5 S al os R)):r5 S al (o::os) R A aj tr:=by
 cases H:s9 A o.guard with
 |none=>simp[H,GQ]at h
 |some b=>
  cases b with
  |false=>rw[H]at h;exact Ue (n:=0) (by simp[nv,H]) h
  |true=>
   rw[H]at h;simp only[GQ]at h;have z:(S.ctx al).shared=S.shared:=rfl;have m:(S.ctx al).al=al:=rfl;have D:(S.ctx al).lone=S.lone:=rfl;cases B:c5 S.shared A aj o.op with
   |fail=>simp[B,I1]at h
   |done v u r=>rw[B]at h;obtain⟨g,h⟩:=h;exact Ue (n:=0) (by simp only[nv,H,z,m,B,g,if_true]) h
   |pc f E r s=>
    rw[B]at h;obtain⟨x,⟨n,j⟩,h⟩:=h;cases hl:fg aj r s (x.fR (S.lone s))with
    |none=>simp[hl]at h
    |some y=>obtain⟨v,u⟩:=y;simp only[hl]at h;obtain⟨g,h⟩:=h;exact Ue (n:=n) (by simp only[nv,H,z,m,D,B,j,hl,g,if_true]) h
   |sc f E=>rw[B]at h;obtain⟨g,v,F,⟨n,j⟩,h⟩:=h;exact Ue (n:=n) (by simp only[nv,H,z,m,B,g,if_true,j]) h
end
variable {S:Sys} {al:cT}
def sO(al:cT)(f:List (Nat×Option eC))(R:V->aN->Prop):hs
 | .exit _,_,_=>False
 |_,A,aj=>match qJ al A aj f with
  |some E=>R (By E) aj
  |none=>False
theorem Z8{fn:aX}{aj:aN}{R:V->aN->Prop}(h:ch S al fn.body (sO al fn.results R) (s_ Z) aj):
  ∃n v A,sP (S.ctx al) (jO S n) (jJ S n) n fn Z aj=some (v,A)/\R v A:=by
 obtain⟨n,e,j,A,g,H⟩:=h;refine⟨n,?_⟩;unfold sP;rw[g];cases e with
 |exit i=>exact H.elim
 |normal=>
  simp only[sO]at H;split at H
  .rename_i E f;exact⟨_,_,by simp only[show(S.ctx al).al=al from rfl,f,rm],H⟩
  exact H.elim
 |ret=>
  simp only[sO]at H;split at H
  .rename_i E f;exact⟨_,_,by simp only[show(S.ctx al).al=al from rfl,f,rm],H⟩
  exact H.elim
theorem atj{fn:aX}{r:RV}(hp:S.prim f Z=none)(H:S.fns f=some fn)(hl:I Z<=fn.ntmps)
  (h:ch S .all fn.body (sO .all fn.results λv aj=>iR aj v=some r) (s_ Z) BT):aK S f Z r:=by
 obtain⟨n,v,A,j,g⟩:=Z8 h;refine⟨n+1,?_⟩;rw[jO];simp only[hp,H,hl,if_true];unfold IS;rw[j];exact g
theorem qK{fn:aX}{aj:aN}{R:V->aN->Prop}(H:S.fns f=some fn)(hl:I Z<=fn.ntmps)
  (h:ch S al fn.body (sO al fn.results R) (s_ Z) aj) (m:S.trig f Z=false:=by rfl):∃v A,lK S f Z al aj v A/\R v A:=by
 obtain⟨n,v,A,j,g⟩:=Z8 h;refine⟨v,A,⟨n+1,?_⟩,g⟩;rw[jJ];simp only[m,eI,if_false,H,hl,if_true];exact j
variable {S:Sys} {al:cT} {Q:hs} {A:ct} {aj:aN}
theorem awM:ch S al .skip Q A aj↔Q .normal A aj:=⟨λ⟨_,_,_,_,h,q⟩=>by simp[dR]at h;obtain⟨rfl,rfl,rfl⟩:=h;exact q,aoA⟩
theorem aBN{id:Nat}:ch S al (.exit id) Q A aj↔Q (.exit id) A aj:=⟨λ⟨_,_,_,_,h,q⟩=>by simp[dR]at h;obtain⟨rfl,rfl,rfl⟩:=h;exact q,asW⟩
theorem asY:ch S al .ret Q A aj↔Q .ret A aj:=⟨λ⟨_,_,_,_,h,q⟩=>by simp[dR]at h;obtain⟨rfl,rfl,rfl⟩:=h;exact q,axr⟩
theorem aDn{a b:aS}:ch S al (.seq a b) Q A aj↔ch S al a (Ol (ch S al b Q) Q) A aj:=by
 refine⟨?_,awc⟩;rintro⟨n,e,g,f,h,q⟩
 simp only[dR]at h;cases H:dR (S.ctx al) (jO S n) (jJ S n) n a A aj with
 |none=>simp[H]at h
 |some x=>
  obtain⟨E,j,B⟩:=x;refine⟨n,E,j,B,H,?_⟩;cases E with
  |normal=>simp only[H]at h;exact⟨n,e,g,f,h,q⟩
  |exit i=>simp[H]at h;obtain⟨rfl,rfl,rfl⟩:=h;exact q
  |ret=>simp[H]at h;obtain⟨rfl,rfl,rfl⟩:=h;exact q
def KK(v:V)(A B:Prop):Prop:=
 match v with
 | .one (.p (.bool t))=>if t=true then A else B
 |_=>False
theorem aCJ{x:fu}{a b:aS}:ch S al (.cond x a b) Q A aj↔KK (ev A x) (ch S al a Q A aj) (ch S al b Q A aj):=by
 constructor
 .rintro ⟨n,e,g,f,h,q⟩
  simp only[dR]at h;split at h
  .rename_i t H;rw[H];simp only[KK];cases t with
   |true=>exact⟨n,e,g,f,by simpa using h,q⟩
   |false=>exact⟨n,e,g,f,by simpa using h,q⟩
  cases h
 intro h;unfold KK at h;split at h
 .rename_i t H;exact aqu H h
 exact h.elim
theorem aoq{id:Nat}{c:aS}:ch S al (.block id c) Q A aj↔ch S al c (oR id Q) A aj:=by
 refine⟨?_,ayu⟩;rintro⟨n,e,m,j,h,q⟩
 simp only[dR]at h;cases H:dR (S.ctx al) (jO S n) (jJ S n) n c A aj with
 |none=>simp[H]at h
 |some x=>
  obtain⟨E,g,B⟩:=x;refine⟨n,E,g,B,H,?_⟩;cases E with
  |normal=>simp[H]at h;obtain⟨rfl,rfl,rfl⟩:=h;exact q
  |ret=>simp[H]at h;obtain⟨rfl,rfl,rfl⟩:=h;exact q
  |exit i=>
   simp only[H]at h;simp only[oR];split at h
   .rename_i f;simp at h;obtain⟨rfl,rfl,rfl⟩:=h;rw[aD f];exact q
   rename_i f;simp at h;obtain⟨rfl,rfl,rfl⟩:=h;rw[aC f];exact q
theorem WJ{tr:gr}:r5 S al [] R A aj tr↔R A aj tr:=by
 refine⟨?_,aBR⟩;rintro⟨n,f,g,j,h,q⟩
 simp[jV]at h;obtain⟨rfl,rfl,rfl⟩:=h
 simpa using q
theorem UP{o:mh}{os:fI}{tr:gr}:
  r5 S al (o::os) R A aj tr↔GQ S al (s9 A o.guard) o A aj tr (r5 S al os R):=by
 refine⟨?_,aym⟩;rintro⟨n,X,Y,j,h,q⟩
 simp only[jV]at h;cases H:nv (S.ctx al) (jO S n) (jJ S n) o A aj with
 |none=>simp[H]at h
 |some x=>
  obtain⟨M,L,e⟩:=x;simp only[H]at h;cases z:jV (S.ctx al) (jO S n) (jJ S n) os M L with
  |none=>simp[z]at h
  |some y=>
   obtain⟨T,Z,F⟩:=y;simp[z]at h;obtain⟨rfl,rfl,rfl⟩:=h;have m:r5 S al os R M L (tr++[e]):=⟨n,_,_,F,z,by simpa using q⟩;unfold nv at H;cases D:s9 A o.guard with
   |none=>simp[D]at H
   |some b=>
    cases b with
    |false=>simp[D]at H;obtain⟨rfl,rfl,rfl⟩:=H;exact m
    |true=>
     simp only[D]at H;simp only[GQ];have Q:(S.ctx al).shared=S.shared:=rfl;have N:(S.ctx al).al=al:=rfl;have O:(S.ctx al).lone=S.lone:=rfl;simp only[Q,N,O]at H;cases B:c5 S.shared A aj o.op with
     |fail=>simp[B]at H
     |done v u r=>
      simp only[B]at H;split at H
      .rename_i aG;cases H;exact⟨aG,m⟩
      cases H
     |pc f E r s=>
      simp only[B]at H;cases g:jO S n f E with
      |none=>simp[g]at H
      |some x=>
       simp only[g]at H;refine⟨x,⟨n,g⟩,?_⟩;cases hl:fg aj r s (x.fR (S.lone s))with
       |none=>simp[hl]at H
       |some y=>
        obtain⟨v,u⟩:=y;simp only[hl]at H;split at H
        .rename_i aG;cases H;exact⟨aG,m⟩
        cases H
     |sc f E=>
      simp only[B]at H;split at H
      .rename_i aG;cases g:jJ S n f E (iB (S.ctx al) f E aj) aj with
       |none=>simp[g]at H
       |some x=>obtain⟨v,b⟩:=x;simp only[g]at H;cases H;exact⟨aG,v,_,⟨n,g⟩,m⟩
      cases H
theorem aei{d:Bool}:ch S al (.region d ops) Q A aj↔r5 S al ops (λA aj j=>(d->ql ops [] j)/\Q .normal A aj) A aj []:=by
 refine⟨?_,azG⟩;rintro⟨n,e,m,g,h,q⟩
 simp only[dR]at h;cases H:jV (S.ctx al) (jO S n) (jJ S n) ops A aj with
 |none=>simp[H]at h
 |some x=>
  obtain⟨u,B,j⟩:=x;simp only[H]at h;cases d with
  |false=>simp at h;obtain⟨rfl,rfl,rfl⟩:=h;exact⟨n,_,_,j,H,aP,q⟩
  |true=>simp at h;obtain⟨f,rfl,rfl,rfl⟩:=h;exact⟨n,_,_,j,H,λ_=>by simpa using f,q⟩
section
variable{v:Value}
inductive dn (w:World) (own:Nat->Prop):PV->Value->Prop where
 |bool (b:Bool):dn w own (.bool b) (.bool b)
 |int (k:IntKind) (n:Int):dn w own (.int k n) (.int k n)
 |str (s:ByteArray):dn w own (.str s) (.string s)
 |vp:dn w own .vp (.pointer none)
 |nils:dn w own .nils (.slice none 0 0)
 |tQ:dn w own .tQ (.map none)
 |yZ:dn w own .yZ .nilFunc
 |nili:dn w own .nili .nilIface
 |ifc (d:TypeId) (x:Value):dn w own .ifc (.iface d x)
 |zs (a:Option Addr):dn w own .zs (.slice a 0 0)
 |box {cs:b_} (b o:Nat) (f:Nat->Value) (ho:cs≠[]-> ¬own b)
   (hc:∀(j:Nat) (x:PV),cs[j]?=some x->w.cell? ⟨b,o+j,none⟩=some (f j))
   (hr:∀(j:Nat) (x:PV),cs[j]?=some x->dn w own x (f j)):dn w own (.box cs) (.pointer (some ⟨b,o,none⟩))
 |BO (a:Option Addr) (cap:Nat) (hn:a=none->cap=0) (hm:cap<=maxLen):dn w own (.sl []) (.slice a 0 cap)
 |sl {es:q_} (b o cap sz:Nat) (f:Nat->Value) (ho:es.flatten≠[]-> ¬own b) (hl:I es<=cap) (hm:cap<=maxLen) (dj:∀e∈es,I e=sz)
   (hc:∀(j:Nat) (x:PV),es.flatten[j]?=some x->w.cell? ⟨b,o+j,none⟩=some (f j))
   (hr:∀(j:Nat) (x:PV),es.flatten[j]?=some x->dn w own x (f j)):dn w own (.sl es) (.slice (some ⟨b,o,none⟩) (I es) cap)
 |mp {ag:Bool}{es:yJ} (r:Nat) (ents:Array MapEntry) (clock:Nat) (g:Nat->Array Value) (ho:¬own r) (hb:w.heap[r]?=some (.map ents clock)) (hl:ents.size=I es)
   (hk:∀(i:Nat) (q:PV) (v:b_) (e:MapEntry),es[i]?=some (q,v)->ents[i]?=some e->dn w own q e.key)
   (hv:∀(i:Nat) (q:PV) (v:b_) (e:MapEntry),es[i]?=some (q,v)->ents[i]?=some e->(g i).size=I v/\(ag->e.val=.agg (g i))/\(ag=false-> #[e.val]=g i))
   (hr:∀(i:Nat) (q:PV) (v:b_) (j:Nat) (x:PV) (u:Value),es[i]?=some (q,v)->v[j]?=some x->(g i)[j]?=some u->dn w own x u):dn w own (.mp ag es) (.map (some r))
 |fn {f:Nat}{a b:b_} (A B:Array Value) (ha:A.size=I a) (hb:B.size=I b)
   (yP:∀(j:Nat) (x:PV) (u:Value),a[j]?=some x->A[j]?=some u->dn w own x u)
   (qY:∀(j:Nat) (x:PV) (u:Value),b[j]?=some x->B[j]?=some u->dn w own x u):dn w own (.fn f a b) (.func (.func f) A B)
theorem dn.QT{w:World}{own:Nat->Prop}{x:PV}(h:dn w own x v):v.oneCell':=by cases h<;>rfl
theorem dn.cells{w:World}{own:Nat->Prop}{x:PV}(h:dn w own x v):v.cells= #[v]:=by cases h<;>rfl
theorem aeO{w:World}{b o:Nat}(h:w.cell? ⟨b,o,none⟩=some v):b<w.heap.size:=World.block_lt_of_cell? w ⟨b,o,none⟩ h
theorem yI{w:World}{b:Nat}{o:Obj}(h:w.heap[b]?=some o):b<w.heap.size:=(N5.1 h).1
theorem dn.mono{w:World}{own:Nat->Prop}(y:∀c,c<w.heap.size-> ¬own c->L.heap[c]?=w.heap[c]? /\ ¬Dq c){x:PV}{v:Value}
  (h:dn w own x v):dn L Dq x v:=by
 induction h with
 |bool b=>exact .bool b
 |int k n=>exact .int k n
 |str s=>exact .str s
 |vp=>exact .vp
 |nils=>exact .nils
 |tQ=>exact .tQ
 |yZ=>exact .yZ
 |nili=>exact .nili
 |ifc d x=>exact .ifc d x
 |zs a=>exact .zs a
 | @box B b o f ho D _ T=>
  cases B with
  |nil=>exact .box b o f (λh=>(h rfl).elim) (λF x h=>by simp at h) (λF x h=>by simp at h)
  |cons c r=>have H:=aeO (D 0 c rfl);have u:=ho aP;refine .box b o f (λ_=>(y b H u).2) (λF x h=>?_) T;rw[World.cell?_of_block (y b H u).1];exact D F x h
 |BO a N u hm=>exact .BO a N u hm
 | @sl j b o N g f ho hl hm X D _ T=>
  cases z:j.flatten with
  |nil=>exact .sl b o N g f (λh=>(h z).elim) hl hm X (λF x h=>by simp[z]at h) (λF x h=>by simp[z]at h)
  |cons c r=>have H:=aeO (D 0 c (by simp[z]));have u:=ho (by simp[z]);refine .sl b o N g f (λ_=>(y b H u).2) hl hm X (λF x h=>?_) T;rw[World.cell?_of_block (y b H u).1];exact D F x h
 | @mp ag j r E m ac ho H hl _ Y _ Q R=>exact .mp r E m ac (y r (yI H) ho).2 ((y r (yI H) ho).1.trans H) hl Q Y R
 |fn A ab Z H _ _ M O=>exact .fn A ab Z H M O
structure bJ where
 w:World
 aj:aN
 σ:Nat->Nat
 κ:Nat->Nat
 fr:Nat->Prop
def f_.iz:f_->Bool
 | .var _| .arr _ _ _| .lN _ _ _| .map _ _=>true
 |_=>false
def nH:Nat×Option f_->eC
 |(_,some (.arr _ g _))=>some g
 |(_,some (.lN _ g _))=>some g
 |(_,some (.qW _ g _))=>some g
 |_=>none
def bJ.iz(m:bJ)(c:Nat):Prop:= ∃id o,(m.aj id).2=some o/\o.iz/\m.σ id=c
def bJ.own(m:bJ)(c:Nat):Prop:=m.fr c\/m.iz c
inductive dU (m:bJ):dI->Value->Prop where
 |p {x:PV}{v:Value} (h:dn m.w m.own x v):dU m (.p x) v
 |bm {id g off:Nat} (a:Addr) (hg:g<=(m.aj id).1) (h:(m.aj id).1=g->(m.aj id).2.isSome->a=⟨m.σ id,off,none⟩):dU m (.bm id g off) (.pointer (some a))
 |eh {id g i off:Nat} (a:Addr) (hg:g<=(m.aj id).1) (h:∀sz,(m.aj id).1=g->nH (m.aj id)=some sz->a=⟨m.σ id,i*sz+off,none⟩):dU m (.eh id g i off) (.pointer (some a))
 |hsl {id g z off len:Nat} (a:Addr) (cap:Nat) (hg:g<=(m.aj id).1) (hl:len<=cap) (hm:cap<=maxLen)
   (h:∀sz,(m.aj id).1=g->nH (m.aj id)=some sz->sz=z/\(off=0\/0<len->a=⟨m.σ id,off*sz,none⟩)/\off+cap=m.κ id):
   dU m (.hsl id g z off len) (.slice (some a) len cap)
 |nL {id g:Nat} (r:Nat) (hg:g<=(m.aj id).1) (h:(m.aj id).1=g->(m.aj id).2.isSome->r=m.σ id):dU m (.nL id g) (.map (some r))
 |hfn {f:Nat}{a b:eE} (A B:Array Value) (ha:A.size=I a) (hb:B.size=I b)
   (yP:∀(j:Nat) (x:dI) (u:Value),a[j]?=some x->A[j]?=some u->dU m x u)
   (qY:∀(j:Nat) (x:dI) (u:Value),b[j]?=some x->B[j]?=some u->dU m x u):dU m (.hfn f a b) (.func (.func f) A B)
theorem dU.QT{m:bJ}{x:dI}(h:dU m x v):v.oneCell':=by
 cases h with
 |p h=>exact h.QT
 |_=>rfl
theorem dU.cells{m:bJ}{x:dI}(h:dU m x v):v.cells= #[v]:=by
 cases h with
 |p h=>exact h.cells
 |_=>rfl
def eD(m:bJ)(B:eE)(E:List Value):Prop:=I E=I B/\ ∀(j:Nat) (x:dI) (u:Value),B[j]?=some x->E[j]?=some u->dU m x u
def eK(w:World)(own:Nat->Prop)(B:b_)(E:List Value):Prop:=I E=I B/\ ∀(j:Nat) (x:PV) (u:Value),B[j]?=some x->E[j]?=some u->dn w own x u
def qP(m:bJ):V->Value->Prop
 | .undef,v=>v=undef
 | .one c,v=>dU m c v
 | .agg B,v=>∃arr,v=.agg arr/\eD m B arr.toList
 | .tup _,_=>False
def df(m:bJ):V->Value->Prop
 | .tup E,v=>∃arr,v=.tuple arr/\arr.size=I E/\ ∀(j:Nat) (x:V) (u:Value),E[j]?=some x->arr[j]?=some u->qP m x u
 |x,v=>qP m x v
def uF(m:bJ)(id:Nat):f_->Prop
 | .var B=>∃F H,m.w.heap[m.σ id]?=some (.cells F H (0,0))/\eD m B F.toList
 | .fvar B=>∃F H Y,m.w.heap[m.σ id]?=some (.cells F H Y)/\eK m.w m.own B F.toList/\ ¬m.own (m.σ id)
 | .arr H g j=>∃F,m.w.heap[m.σ id]?=some (.cells F H (0,0))/\0<g/\(∀e∈j,I e=g)/\I j<=m.κ id/\m.κ id<=maxLen/\F.size=m.κ id*g/\
   eK m.w m.own j.flatten (F.toList.take (I j*g))
 | .qW H g j=>∃F Y,m.w.heap[m.σ id]?=some (.cells F H Y)/\0<g/\(∀e∈j,I e=g)/\I j<=m.κ id/\m.κ id<=maxLen/\F.size=m.κ id*g/\
   eK m.w m.own j.flatten (F.toList.take (I j*g))/\ ¬m.own (m.σ id)
 | .lN H g j=>∃F,m.w.heap[m.σ id]?=some (.cells F H (0,0))/\0<g/\(∀e∈j,I e=g)/\I j<=m.κ id/\m.κ id<=maxLen/\F.size=m.κ id*g/\
   eD m j.flatten (F.toList.take (I j*g))
 | .map A j=>∃E f,m.w.heap[m.σ id]?=some (.map E f)/\E.size=I j/\
   ∀(i:Nat) (q:PV) (v:b_) (e:MapEntry),j[i]?=some (q,v)->E[i]?=some e->dn m.w m.own q e.key/\ ∃h:Array Value,(A->e.val=.agg h)/\(A=false-> #[e.val]=h)/\eK m.w m.own v h.toList
 | .fmap A j=>∃E f,m.w.heap[m.σ id]?=some (.map E f)/\E.size=I j/\
   (∀(i:Nat) (q:PV) (v:b_) (e:MapEntry),j[i]?=some (q,v)->E[i]?=some e->dn m.w m.own q e.key/\ ∃h:Array Value,(A->e.val=.agg h)/\(A=false-> #[e.val]=h)/\eK m.w m.own v h.toList)/\ ¬m.own (m.σ id)
structure dZ (w0:World) (m:bJ):Prop where
 os:m.w.os=w0.os
 tape:m.w.tape=w0.tape
 output:m.w.output=w0.output
 size:w0.heap.size<=m.w.heap.size
 base:∀c,c<w0.heap.size->m.w.heap[c]?=w0.heap[c]?
 obj:∀id o,(m.aj id).2=some o->uF m id o
 eF:∀id o,(m.aj id).2=some o->o.iz->w0.heap.size<=m.σ id/\ ¬m.fr (m.σ id)
 frlt:∀c,m.fr c->c<m.w.heap.size
 inj:∀id gi o o',(m.aj id).2=some o->o.iz->(m.aj gi).2=some o'->o'.iz->m.σ id=m.σ gi->id=gi
structure h_ (m m':bJ):Prop where
 os:m'.w.os=m.w.os
 tape:m'.w.tape=m.w.tape
 output:m'.w.output=m.w.output
 size:m.w.heap.size<=m'.w.heap.size
 keep:∀c,c<m.w.heap.size-> ¬m.iz c->m'.w.heap[c]?=m.w.heap[c]?
 iz:∀c,c<m.w.heap.size->m'.iz c->m.iz c
 less:∀c,c<m.w.heap.size-> ¬m.own c-> ¬m'.own c
 gen:∀id,(m.aj id).1<=(m'.aj id).1
 ref:∀id,(m'.aj id).1=(m.aj id).1->(m'.aj id).2.isSome->(m.aj id).2.isSome/\m'.σ id=m.σ id/\m'.κ id=m.κ id/\nH (m'.aj id)=nH (m.aj id)
theorem h_.refl(m:bJ):h_ m m:=⟨rfl,rfl,rfl,c3 _,λ_ _ _=>rfl,λ_ _ h=>h,λ_ _ h=>h,λ_=>c3 _,λ_ _ h=>⟨h,rfl,rfl,rfl⟩⟩
theorem h_.trans{a b c:bJ}(h:h_ a b)(k:h_ b c):h_ a c where
 os:=k.os.trans h.os
 tape:=k.tape.trans h.tape
 output:=k.output.trans h.output
 size:=ny h.size k.size
 keep x H hm:=(k.keep x (Dx H h.size) λg=>hm (h.iz x H g)).trans (h.keep x H hm)
 iz x H hm:=h.iz x H (k.iz x (Dx H h.size) hm)
 less x H j:=k.less x (Dx H h.size) (h.less x H j)
 gen id:=ny (h.gen id) (k.gen id)
 ref id A ae:=by have B:=h.gen id;have z:=k.gen id;obtain⟨f,E,y,m⟩:=k.ref id J ae;obtain⟨u,n,F,v⟩:=h.ref id J f;exact⟨u,E.trans n,y.trans F,m.trans v⟩
theorem h_.own{m M:bJ}(h:h_ m M):∀c,c<m.w.heap.size-> ¬m.own c->M.w.heap[c]?=m.w.heap[c]? /\ ¬M.own c:=λc H f=>⟨h.keep c H λhm=>f (.inr hm),h.less c H f⟩
theorem agI{x:Nat×Option f_}(h:nH x=some g):x.2.isSome:=by
 obtain⟨f,o⟩:=x;cases o with
 |none=>simp[nH]at h
 |some o=>rfl
structure vK (m m':bJ):Prop where
 own:∀c,c<m.w.heap.size-> ¬m.own c->m'.w.heap[c]?=m.w.heap[c]? /\ ¬m'.own c
 gen:∀id,(m.aj id).1<=(m'.aj id).1
 ref:∀id,(m'.aj id).1=(m.aj id).1->(m'.aj id).2.isSome->(m.aj id).2.isSome/\m'.σ id=m.σ id/\m'.κ id=m.κ id/\nH (m'.aj id)=nH (m.aj id)
theorem h_.zero{m M:bJ}(h:h_ m M):vK m M:=⟨h.own,h.gen,h.ref⟩
theorem dn.ev{m m':bJ}(h:vK m m'){x:PV}(hr:dn m.w m.own x v):dn m'.w m'.own x v:=hr.mono h.own
theorem dU.ev{m m':bJ}(h:vK m m'){x:dI}(hr:dU m x v):dU m' x v:=by
 induction hr with
 |p hp=>exact .p (hp.ev h)
 | @bm id L D a hg H=>have f:=h.gen id;refine .bm a J λj ae=>?_;obtain⟨s,E,_,_⟩:=h.ref id J ae;rw[E];exact H J s
 | @eh id L i D a hg H=>have f:=h.gen id;refine .eh a J λg j ae=>?_;obtain⟨s,E,_,y⟩:=h.ref id J (agI ae);rw[E];exact H g J (y▸ae)
 | @hsl id L z D len a N hg hl hm H=>have f:=h.gen id;refine .hsl a N J hl hm λg j ae=>?_;obtain⟨s,E,M,y⟩:=h.ref id J (agI ae);rw[E,M];exact H g J (y▸ae)
 | @nL id L r hg hr=>have f:=h.gen id;refine .nL r J λj ae=>?_;obtain⟨s,E,_,_⟩:=h.ref id J ae;rw[E];exact hr J s
 |hfn A B H F _ _ n u=>exact .hfn A B H F n u
theorem eD.ev{m m':bJ}(h:vK m m')(hr:eD m B E):eD m' B E:=⟨hr.1,λj x u a b=>(hr.2 j x u a b).ev h⟩
theorem eK.mono{w:World}{own:Nat->Prop}(h:∀c,c<w.heap.size-> ¬own c->L.heap[c]?=w.heap[c]? /\ ¬Dq c){B:b_}
  (hr:eK w own B E):eK L Dq B E:=⟨hr.1,λj x u a b=>(hr.2 j x u a b).mono h⟩
theorem eK.ev{m m':bJ}(h:vK m m'){B:b_}(hr:eK m.w m.own B E):eK m'.w m'.own B E:=hr.mono h.own
theorem qP.ev{m m':bJ}(h:vK m m'){x:V}(hr:qP m x v):qP m' x v:=by
 cases x with
 |undef=>exact hr
 |one c=>exact dU.ev h hr
 |agg B=>obtain⟨arr,e,H⟩:=hr;exact⟨arr,e,H.ev h⟩
 |tup E=>exact hr.elim
theorem df.ev{m m':bJ}(h:vK m m'){x:V}(hr:df m x v):df m' x v:=by
 cases x with
 |tup E=>obtain⟨arr,e,ae,H⟩:=hr;exact⟨arr,e,ae,λj x u a b=>(H j x u a b).ev h⟩
 |undef=>exact qP.ev (x:=.undef) h hr
 |one c=>exact qP.ev (x:=.one c) h hr
 |agg B=>exact qP.ev (x:=.agg B) h hr
theorem uF.ev{m m':bJ}(h:vK m m'){id:Nat}{o:f_}(ae:m'.σ id=m.σ id)(u:m'.κ id=m.κ id)(z:m'.w.heap[m.σ id]?=m.w.heap[m.σ id]?)
  (hr:uF m id o):uF m' id o:=by
 cases o with
 |var B=>obtain⟨F,H,a,b⟩:=hr;exact⟨F,H,by rw[ae,z];exact a,b.ev h⟩
 |fvar B=>obtain⟨F,H,Y,a,b,c⟩:=hr;exact⟨F,H,Y,by rw[ae,z];exact a,b.ev h,by rw[ae];exact(h.own _ (yI a) c).2⟩
 |arr H g j=>obtain⟨F,a,b,c,d,e,f,A⟩:=hr;exact⟨F,by rw[ae,z];exact a,b,c,by rw[u];exact d,by rw[u];exact e,by rw[u];exact f,A.ev h⟩
 |qW H g j=>obtain⟨F,Y,a,b,c,d,e,f,A,i⟩:=hr;exact⟨F,Y,by rw[ae,z];exact a,b,c,by rw[u];exact d,by rw[u];exact e,by rw[u];exact f,A.ev h,by rw[ae];exact(h.own _ (yI a) i).2⟩
 |lN H g j=>obtain⟨F,a,b,c,d,e,f,A⟩:=hr;exact⟨F,by rw[ae,z];exact a,b,c,by rw[u];exact d,by rw[u];exact e,by rw[u];exact f,A.ev h⟩
 |map D j=>obtain⟨E,n,a,b,c⟩:=hr;exact⟨E,n,by rw[ae,z];exact a,b,λi q v e x y=>let ⟨p,A,g1,g2,g3⟩:=c i q v e x y;⟨p.ev h,A,g1,g2,g3.ev h⟩⟩
 |fmap D j=>obtain⟨E,n,a,b,c,d⟩:=hr;exact⟨E,n,by rw[ae,z];exact a,b,λi q v e x y=>let ⟨p,A,g1,g2,g3⟩:=c i q v e x y;⟨p.ev h,A,g1,g2,g3.ev h⟩,by rw[ae];exact(h.own _ (yI a) d).2⟩
theorem uF.lt{m:bJ}{id:Nat}{o:f_}(hr:uF m id o):m.σ id<m.w.heap.size:=by
 cases o with
 |var B=>obtain⟨F,H,a,_⟩:=hr;exact yI a
 |fvar B=>obtain⟨F,H,Y,a,_⟩:=hr;exact yI a
 |arr H g j=>obtain⟨F,a,_⟩:=hr;exact yI a
 |qW H g j=>obtain⟨F,Y,a,_⟩:=hr;exact yI a
 |lN H g j=>obtain⟨F,a,_⟩:=hr;exact yI a
 |map A j=>obtain⟨E,f,a,_⟩:=hr;exact yI a
 |fmap A j=>obtain⟨E,f,a,_⟩:=hr;exact yI a
theorem uF.calm{m:bJ}{id:Nat}{o:f_}(hr:uF m id o)(ho:o.iz=false):¬m.own (m.σ id):=by
 cases o with
 |fvar B=>obtain⟨F,H,Y,_,_,c⟩:=hr;exact c
 |qW H g j=>obtain⟨F,Y,_,_,_,_,_,_,_,c⟩:=hr;exact c
 |fmap A j=>obtain⟨_,_,_,_,_,c⟩:=hr;exact c
 |_=>simp[f_.iz]at ho
end
variable{m:bJ}
variable {O:World}
section
variable{m:bJ}
structure jP (w w':World):Prop where
 os:w'.os=w.os
 tape:w'.tape=w.tape
 output:w'.output=w.output
 size:w.heap.size<=w'.heap.size
 keep:∀c,c<w.heap.size->w'.heap[c]?=w.heap[c]?
theorem jP.refl(w:World):jP w w:=⟨rfl,rfl,rfl,c3 _,λ_ _=>rfl⟩
theorem jP.trans{a b c:World}(h:jP a b)(k:jP b c):jP a c:=
 ⟨k.os.trans h.os,k.tape.trans h.tape,k.output.trans h.output,ny h.size k.size,λx H=>(k.keep x (Dx H h.size)).trans (h.keep x H)⟩
theorem jP.alloc(w:World)(o:Obj):jP w (w.alloc o):=⟨rfl,rfl,rfl,aP,λ_ h=>heap_alloc_old w o h⟩
theorem jP.drew(w:World):jP w w.drew:=⟨rfl,rfl,rfl,c3 _,λ_ _=>rfl⟩
def bJ.later(m:bJ)(L:World)(X:Nat->Prop):bJ:={m with w:=L,fr:=λc=>m.fr c\/X c}
theorem akt{X:Nat->Prop}{c:Nat}:(m.later L X).own c↔m.own c\/X c:=by
 unfold bJ.own bJ.iz bJ.later;constructor
 .rintro ((h|h)|h)
  .exact .inl (.inl h)
  .exact .inr h
  exact .inl (.inr h)
 rintro((h|h)|h)
 .exact .inl (.inl h)
 .exact .inr h
 exact .inl (.inr h)
theorem OG{L:World}{X:Nat->Prop}(hg:jP m.w L)(f:∀c,X c->m.w.heap.size<=c):h_ m (m.later L X) where
 os:=hg.os
 tape:=hg.tape
 output:=hg.output
 size:=hg.size
 keep c H _:=hg.keep c H
 iz c _ h:=h
 less c H g h:=by
  rcases akt.1 h with h|h
  .exact g h
  have:=f c h;omega
 gen _:=c3 _
 ref _ _ ae:=⟨ae,rfl,rfl,rfl⟩
theorem Q9{L:World}{X:Nat->Prop}(h:dZ O m)(hg:jP m.w L)(g:∀c,X c->m.w.heap.size<=c/\c<L.heap.size):dZ O (m.later L X) where
 os:=hg.os.trans h.os
 tape:=hg.tape.trans h.tape
 output:=hg.output.trans h.output
 size:=ny h.size hg.size
 base c H:=(hg.keep c (Dx H h.size)).trans (h.base c H)
 obj id o ho:=(h.obj id o ho).ev (OG hg λc H=>(g c H).1).zero rfl rfl (hg.keep _ (h.obj id o ho).lt)
 eF id o ho hm:=by
  refine⟨(h.eF id o ho hm).1,?_⟩;rintro(f|j)
  .exact(h.eF id o ho hm).2 f
  have n:=(g _ j).1;have u:=(h.obj id o ho).lt;simp only[bJ.later]at n;omega
 frlt c H:=by
  rcases H with f|j
  .exact Dx (h.frlt c f) hg.size
  exact(g c j).2
 inj:=h.inj
def bJ.install(m:bJ)(s c k:Nat)(o:f_):bJ:=⟨m.w,dx m.aj s ((m.aj s).1+1,some o),dx m.σ s c,dx m.κ s k,λx=>m.fr x/\x≠c⟩
theorem afd{s c k:Nat}{o:f_}{x:Nat}(h:(m.install s c k o).iz x):x=c\/m.iz x:=by
 obtain⟨id,O,ho,hm,f⟩:=h;simp only[bJ.install,cD]at ho f;by_cases H:id=s
 .simp only[H,if_true]at f;exact .inl f.symm
 simp only[H,if_false]at ho f;exact .inr ⟨id,O,ho,hm,f⟩
theorem Uf{s c k:Nat}{o:f_}(H:m.fr c){x:Nat}(h:(m.install s c k o).own x):m.own x:=by
 rcases h with h|h
 .exact .inl h.1
 rcases afd h with rfl|h
 .exact .inl H
 exact .inr h
theorem RN{M:bJ}{s c k:Nat}{o:f_}(h:h_ m M)(n:M.fr c)(f:m.w.heap.size<=c\/m.iz c):h_ m (M.install s c k o) where
 os:=h.os
 tape:=h.tape
 output:=h.output
 size:=h.size
 keep:=h.keep
 iz x j hm:=by
  rcases afd hm with rfl|hm
  .rcases f with f|f
   .omega
   exact f
  exact h.iz x j hm
 less x j D hm:=h.less x j D (Uf n hm)
 gen id:=by
  simp only[bJ.install,cD];have:=h.gen id;split
  .rename_i e;subst e;simp only;omega
  exact this
 ref id g ae:=by
  have hg:=h.gen id;simp only[bJ.install,cD]at g ae |-;by_cases H:id=s
  .subst H;simp only[if_true]at g;omega
  simp only[H,if_false]at g ae |-;exact h.ref id g ae
theorem Sw{s c k:Nat}{o:f_}(h:dZ O m)(y:m.fr c)(F:O.heap.size<=c)(ho:uF (m.install s c k o) s o):dZ O (m.install s c k o):=by
 have E:∀x,x<m.w.heap.size-> ¬m.own x->(m.install s c k o).w.heap[x]?=m.w.heap[x]? /\ ¬(m.install s c k o).own x:=λx _ R=>⟨rfl,λh=>R (Uf y h)⟩
 have N:vK m (m.install s c k o):=by
  refine⟨E,λid=>?_,λid f ae=>?_⟩
  .simp only[bJ.install,cD];split
   .rename_i e;subst e;simp only;omega
   exact c3 _
  simp only[bJ.install,cD]at f ae |-;by_cases H:id=s
  .subst H;simp only[if_true]at f;omega
  simp only[H,if_false]at f ae |-;exact⟨ae,trivial,trivial,trivial⟩
 exact{
  os:=h.os
  tape:=h.tape
  output:=h.output
  size:=h.size
  base:=h.base
  obj:=by
   intro id u n;by_cases H:id=s
   .subst H;simp only[bJ.install,cD,if_true,iS]at n;exact n▸ho
   have ae:(m.install s c k o).σ id=m.σ id:=by simp[bJ.install,cD,H]
   have Y:(m.install s c k o).κ id=m.κ id:=by simp[bJ.install,cD,H]
   simp only[bJ.install,cD,H,if_false]at n;exact(h.obj id u n).ev N ae Y rfl
  eF:=by
   intro id u n hm;by_cases H:id=s
   .subst H;simp only[bJ.install,cD,if_true];exact⟨F,λh=>h.2 rfl⟩
   simp only[bJ.install,cD,H,if_false]at n |-;exact⟨(h.eF id u n hm).1,λL=>(h.eF id u n hm).2 L.1⟩
  frlt:=λx Q=>h.frlt x Q.1
  inj:=by
   intro id z B A j D g M f;by_cases H:id=s<;>by_cases v:z=s
   .rw[H,v]
   .subst H;simp only[bJ.install,cD,v,if_true,if_false]at g f;exact((h.eF z A g M).2 (f▸y)).elim
   .subst v;simp only[bJ.install,cD,H,if_true,if_false]at j f;exact((h.eF id B j D).2 (f.symm▸y)).elim
   simp only[bJ.install,cD,H,v,if_false]at j g f;exact h.inj id z B A j D g M f}
def bJ.qV(m:bJ)(id:Nat):bJ:=⟨m.w,dx m.aj id ((m.aj id).1,none),m.σ,m.κ,λc=>m.fr c\/c=m.σ id⟩
theorem ar7{id:Nat}{o:f_}(ho:(m.aj id).2=some o)(hm:o.iz){x:Nat}(h:(m.qV id).own x):m.own x:=by
 rcases h with(h|h)|⟨j,O,f,n,g⟩
 .exact .inl h
 .exact .inr ⟨id,o,ho,hm,h.symm⟩
 simp only[bJ.qV,cD]at f g;by_cases H:j=id
 .simp[H]at f
 simp only[H,if_false]at f;exact .inr ⟨j,O,f,n,g⟩
theorem Jk{id:Nat}{o:f_}(ho:(m.aj id).2=some o)(hm:o.iz):h_ m (m.qV id) where
 os:=rfl
 tape:=rfl
 output:=rfl
 size:=c3 _
 keep _ _ _:=rfl
 iz x _ h:=by
  obtain⟨g,O,f,u,n⟩:=h;simp only[bJ.qV,cD]at f n;by_cases H:g=id
  .simp[H]at f
  simp only[H,if_false]at f;exact⟨g,O,f,u,n⟩
 less x _ v h:=v (ar7 ho hm h)
 gen g:=by
  simp only[bJ.qV,cD];split
  .rename_i e;subst e;exact c3 _
  exact c3 _
 ref g j ae:=by
  simp only[bJ.qV,cD]at j ae |-;by_cases H:g=id
  .simp[H]at ae
  simp only[H,if_false]at j ae |-;exact⟨ae,trivial,trivial,trivial⟩
theorem amH{id:Nat}{o:f_}(h:dZ O m)(ho:(m.aj id).2=some o)(hm:o.iz):dZ O (m.qV id) where
 os:=h.os
 tape:=h.tape
 output:=h.output
 size:=h.size
 base:=h.base
 obj j u f:=by
  simp only[bJ.qV,cD]at f;by_cases H:j=id
  .simp[H]at f
  simp only[H,if_false]at f;exact(h.obj j u f).ev (Jk ho hm).zero rfl rfl rfl
 eF j u f g:=by
  simp only[bJ.qV,cD]at f |-;by_cases H:j=id
  .simp[H]at f
  simp only[H,if_false]at f;refine⟨(h.eF j u f g).1,?_⟩;rintro(n|n)
  .exact(h.eF j u f g).2 n
  exact H (h.inj j id u o f g ho hm n)
 frlt c D:=by
  rcases D with n|rfl
  .exact h.frlt c n
  exact(h.obj id o ho).lt
 inj M x E B f A g z y:=by
  simp only[bJ.qV,cD]at f g y;by_cases H:M=id
  .simp[H]at f
  by_cases v:x=id
  .simp[v]at g
  simp only[H,v,if_false]at f g;exact h.inj M x E B f A g z y
def bJ.mR(m:bJ)(L:World)(id:Nat)(o:f_):bJ:=⟨L,dx m.aj id ((m.aj id).1,some o),m.σ,m.κ,m.fr⟩
section
variable {m:bJ} {L:World} {id:Nat} {o old:f_} (ho:(m.aj id).2=some old) (hm:old.iz)
include ho hm
theorem awB{x:Nat}(h:(m.mR L id o).own x):m.own x:=by
 rcases h with h|⟨j,O,f,n,g⟩
 .exact .inl h
 simp only[bJ.mR,cD]at f g;by_cases H:j=id
 .exact .inr ⟨id,old,ho,hm,H▸g⟩
 simp only[H,if_false]at f;exact .inr ⟨j,O,f,n,g⟩
theorem Ny(D:nH ((m.aj id).1,some o)=nH ((m.aj id).1,some old))(E:L.os=m.w.os)(z:L.tape=m.w.tape)(A:L.output=m.w.output)(ae:L.heap.size=m.w.heap.size)
  (B:∀c,c≠m.σ id->L.heap[c]?=m.w.heap[c]?):h_ m (m.mR L id o) where
 os:=E
 tape:=z
 output:=A
 size:=E3 ae.symm
 keep c _ n:=B c λe=>n ⟨id,old,ho,hm,e.symm⟩
 iz x _ h:=by
  obtain⟨g,O,u,y,j⟩:=h;simp only[bJ.mR,cD]at u j;by_cases H:g=id
  .exact⟨id,old,ho,hm,H▸j⟩
  simp only[H,if_false]at u;exact⟨g,O,u,y,j⟩
 less x _ n h:=n (awB ho hm h)
 gen g:=by
  simp only[bJ.mR,cD];split
  .rename_i e;subst e;exact c3 _
  exact c3 _
 ref g v f:=by
  simp only[bJ.mR,cD]at v f |-;by_cases H:g=id
  .subst H;refine⟨by simp[ho],trivial,trivial,?_⟩;simp only[if_true];rw[D,<-ho]
  simp only[H,if_false]at v f |-;exact⟨f,trivial,trivial,trivial⟩
theorem UU(h:dZ O m)(X:nH ((m.aj id).1,some o)=nH ((m.aj id).1,some old))(Q:L.os=m.w.os)(B:L.tape=m.w.tape)(F:L.output=m.w.output)(ae:L.heap.size=m.w.heap.size)
  (y:∀c,c≠m.σ id->L.heap[c]?=m.w.heap[c]?) (T:uF (m.mR L id o) id o):dZ O (m.mR L id o) where
 os:=Q.trans h.os
 tape:=B.trans h.tape
 output:=F.trans h.output
 size:=ny h.size (E3 ae.symm)
 base c z:=by have:=(h.eF id old ho hm).1;exact(y c J).trans (h.base c z)
 obj g n f:=by
  simp only[bJ.mR,cD]at f;by_cases H:g=id
  .subst H;simp only[if_true,iS]at f;exact f▸T
  simp only[H,if_false]at f;refine(h.obj g n f).ev (Ny ho hm X Q B F ae y).zero rfl rfl (y _ λe=>?_);cases E:n.iz with
  |true=>exact H (h.inj g id n old f E ho hm e)
  |false=>exact(h.obj g n f).calm E (.inr ⟨id,old,ho,hm,e.symm⟩)
 eF g n f j:=by
  simp only[bJ.mR,cD]at f |-;by_cases H:g=id
  .subst H;exact h.eF g old ho hm
  simp only[H,if_false]at f;exact h.eF g n f j
 frlt c z:=by rw[show(m.mR L id o).w.heap.size=m.w.heap.size from ae];exact h.frlt c z
 inj M x R N f D j A u:=by
  simp only[bJ.mR,cD]at f j u;by_cases H:M=id<;>by_cases v:x=id
  .rw[H,v]
  .simp only[v,if_false]at j;exact H▸h.inj id x old N ho hm j A (H▸u)
  .simp only[H,if_false]at f;exact v▸h.inj M id R old f D ho hm (v▸u)
  simp only[H,v,if_false]at f j;exact h.inj M x R N f D j A u
end
end
def P6:Value->Option PV
 | .bool b=>some (.bool b)
 | .int k n=>some (.int k n)
 | .string s=>some (.str s)
 | .pointer none=>some .vp
 | .slice none 0 0=>some .nils
 | .map none=>some .tQ
 | .nilFunc=>some .yZ
 | .nilIface=>some .nili
 |_=>none
def KS:List Value->Option b_
 |[]=>some []
 |v::r=>match P6 v,KS r with
  |some x,some M=>some (x::M)
  |_,_=>none
def Wa:Value->Option V
 | .agg B=>(KS B.toList).map λl=>.agg (l.map .p)
 |v=>(P6 v).map λx=>.one (.p x)
def dA:Operand->Option fu
 | .tmp t=>some (.t t)
 | .const (.int .i64 n)=>some (.i n)
 | .const (.bool b)=>some (.b b)
 | .const v=>(Wa v).map .k
 | .func f=>some (.k (.one (.p (.fn f [] []))))
 | .global _=>none
def r8:List Operand->Option uv
 |[]=>some []
 |a::r=>match dA a,r8 r with
  |some x,some M=>some (x::M)
  |_,_=>none
def AL:Option Operand->Option (Option fu)
 |none=>some none
 |some a=>(dA a).map some
def BM(P:Program)(t:TypeId):Option b_:=
 match P.info? t with
 |some i=>match i.zero with
  |some (.agg B)=>if B.size=i.size then KS B.toList else none
  |some v=>if i.size=1 then(P6 v).map λx=>[x]else none
  |none=>none
 |none=>none
def tN(P:Program)(t:TypeId):Option eC:=
 match P.underlying t,P.info? t with
 |some (.struct _),some i=>some (some i.size)
 |some (.array _ _),some i=>some (some i.size)
 |some _,some i=>if i.size=1 then some none else none
 |_,_=>none
def yx(P:Program)(t:TypeId):eC:=(P.info? t).map (·.size)
def EU(place:Nat->Option (Nat×Nat))(z:Nat):List (Nat×Operand)->Option (List (Nat×Nat×fu))
 |[]=>some []
 |(i,x)::r=>match place i,dA x,EU place z r with
  |some (D,n),some a,some q=>if D+n<=z then some ((D,n,a)::q)else none
  |_,_,_=>none
def Kg:Nat->List (Nat×Operand)->Option uv
 |_,[]=>some []
 |k,(i,x)::r=>match dA x,Kg (k+1) r with
  |some a,some q=>if i=k then some (a::q)else none
  |_,_=>none
def Vk(P:Program)(t:TypeId):Option Bool:=
 match P.underlying t with
 |some (.int _)=>some true
 |some .bool=>some false
 |_=>none
def LB(P:Program):Nat->List Field->Option dS
 |_,[]=>some []
 |k,f::r=>match Vk P f.type,LB P (k+1) r with
  |some b,some B=>if f.offset=k/\f.name≠ "_" then some (b::B)else none
  |_,_=>none
def Km:Operand->Bool
 | .const .nilIface=>true
 |_=>false
def Pd(P:Program)(t:TypeId)(x y:Operand):Option yq:=
 match P.underlying t with
 |some (.interface _)=>if Km x||Km y then some .ifc else none
 |some .bool=>some .bool
 |some (.pointer _)=>some .ptr
 |some (.slice _)=>some .slc
 |some (.map _ _)=>some .map
 |some (.func _ _ _)=>some .fnc
 |some (.struct fs)=>if !P.stoodInHeld t&& !P.eqGuardType P.depth t then(LB P 0 fs.toList).map .str else none
 |_=>none
def DA(P:Program)(t:TypeId):Option (TypeId×Nat×Nat×b_):=
 match P.underlying t with
 |some (.slice e)=>match P.info? e,BM P e with
  |some i,some z=>if 0<i.size/\0<i.bytes then some (e,i.size,i.bytes,z)else none
  |_,_=>none
 |_=>none
def keyOf(P:Program)(k:TypeId):eC:=
 match P.underlying k with
 |some (.int _)=>some 0
 |some .string=>some 1
 |some .bool=>some 2
 |_=>none
def T9(P:Program)(t:TypeId):Bool:=
 match P.info? t with
 |some i=>match i.zero with
  |some (.agg _)=>true
  |_=>false
 |none=>false
def Iw(P:Program)(j:Nat)(o:Oper):Option sR:=
 match o.op with
 | .move x=>(dA x).map .rl
 | .assign x=>(dA x).map .rl
 | .pick c a b=>match dA c,dA a,dA b with
  |some c,some a,some b=>some (.pick c a b)
  |_,_,_=>none
 | .alloc t=>(BM P t).map (.alloc j)
 | .box _ x=>(dA x).map (.box j)
 | .build t ps=>match P.underlying t,BM P t with
  |some (.struct fs),some z=>if fs.all λf=>(P.info? f.type).isSome then
    (EU (λi=>(fs[i]?).map λf=>(f.offset,P.cellsOf f.type)) (I z) ps.toList).map (.build z)
   else none
  |some (.array _ e),some z=>match P.info? e with
   |some i=>(EU (λk=>some (k*i.size,i.size)) (I z) ps.toList).map (.build z)
   |none=>none
  |_,_=>none
 | .buildSlice t n ps=>match DA P t,Kg 0 ps.toList with
  |some (e,g,_,_),some as=>if I as=n/\n*g<=16777216 then some (.Oo j e g as)else none
  |_,_=>none
 | .load t a=>match tN P t,dA a with
  |some k,some a=>some (.load k a)
  |_,_=>none
 | .store t a x=>match yx P t,dA a,dA x with
  |some n,some a,some x=>some (.store n a x)
  |_,_,_=>none
 | .nilCheck x=>(dA x).map .QM
 | .binOp op t x y _=>match dA x,dA y with
  |some a,some b=>match P.underlying t with
   |some (.int _)=>some (.bin op a b)
   |some .string=>some (.bin op a b)
   |_=>match op,Pd P t x y with
    | .eql,some k=>some (.eqc k false a b)
    | .neq,some k=>some (.eqc k true a b)
    |_,_=>none
  |_,_=>none
 | .unOp op _ x=>match op with
  | .not=>(dA x).map (.un .not)
  | .neg=>(dA x).map (.un .neg)
  |_=>none
 | .convert s d x=>match P.underlying s,P.underlying d,dA x with
  |some (.int _),some (.int k),some a=>some (.conv k a)
  |some (.slice e),some .string,some a=>match P.underlying e with
   |some (.int .u8)=>some (.bstr a)
   |_=>none
  |_,_,_=>none
 | .makeFunc (.func f) a b=>match r8 a.toList,r8 b.toList with
  |some x,some y=>some (.mkfn f x y)
  |_,_=>none
 | .makeMap t none=>match P.underlying t with
  |some (.map _ e)=>(tN P e).map λk=>.mkmap j k.isSome
  |_=>none
 | .makeSlice t l c=>match DA P t,dA l,dA c with
  |some (e,g,bytes,z),some l,some c=>some (.QH j e g bytes z l c)
  |_,_,_=>none
 | .slice t x lo H none=>match dA x,AL lo,AL H with
  |some a,some l,some h=>match P.underlying t with
   |some (.slice e)=>(yx P e).map λg=>.slice g a l h
   |some .string=>some (.sslice a l h)
   |_=>none
  |_,_,_=>none
 | .fieldAddr s x f=>match P.underlying s,dA x with
  |some (.struct fs),some a=>match fs[f]? with
   |some d=>if P.cellsOf d.type≠0 then some (.Ef d.offset a)else none
   |none=>none
  |_,_=>none
 | .field t x f=>match P.underlying t,dA x with
  |some (.struct fs),some a=>match fs[f]? with
   |some d=>(tN P d.type).map λk=>.fld d.offset k a
   |none=>none
  |_,_=>none
 | .indexAddr t x i=>match dA x,dA i with
  |some a,some b=>match P.underlying t with
   |some (.slice e)=>(yx P e).map λg=>.Qn g a b
   |some (.array n e)=>(yx P e).map λg=>.Oa n g a b
   |_=>none
  |_,_=>none
 | .index t x i=>match dA x,dA i with
  |some a,some b=>match P.underlying t with
   |some (.array n e)=>match yx P e,tN P e with
    |some g,some k=>some (.aidx n g k a b)
    |_,_=>none
   |some .string=>some (.sidx a b)
   |_=>none
  |_,_=>none
 | .lookup t x k ok=>match P.underlying t,dA x,dA k with
  |some (.map B e),some a,some b=>match BM P e,tN P e with
   |some z,some q=>match keyOf P B with
    |some A=>if T9 P e=q.isSome then some (.lookup A z q.isSome ok a b)else none
    |none=>none
   |_,_=>none
  |_,_,_=>none
 | .mapUpdate t m k v=>match P.underlying t,dA m,dA k,dA v with
  |some (.map B e),some a,some b,some c=>match tN P e with
   |some q=>(keyOf P B).map λA=>.mupd A q.isSome a b c
   |none=>none
  |_,_,_,_=>none
 | .insert t m k v=>match P.underlying t,dA m,dA k,dA v with
  |some (.map B e),some a,some b,some c=>match tN P e with
   |some q=>(keyOf P B).map λA=>.mupd A q.isSome a b c
   |none=>none
  |_,_,_,_=>none
 | .extract x i=>(dA x).map λa=>.extract a i
 | .call c=>match c.callee,r8 c.args.toList with
  | .value f,some as=>(dA f).map λD=>.call j D as
  | .builtin .len,some [a]=>match c.argTypes[0]? with
   |some t=>match P.underlying t with
    |some .string=>some (.slen a)
    |some (.slice _)=>some (.Ur a)
    |some (.map _ _)=>some (.mlen a)
    |_=>none
   |none=>none
  | .builtin .append,some [a,b]=>match c.argTypes[0]?,c.argTypes[1]? with
   |some t,some u=>match DA P t with
    |some (e,g,bytes,_)=>if t=u/\c.argTypes.size=2 then some (.append j e g bytes a b)else none
    |none=>none
   |_,_=>none
  | .builtin .max,some [a,b]=>some (.max a b)
  | .builtin .min,some [a,b]=>some (.min a b)
  | .builtin .clear,some [a]=>match c.argTypes[0]? with
   |some t=>(DA P t).map λq=>.clear q.2.2.2 a
   |none=>none
  |_,_=>none
 |_=>none
def fu.tmps:fu->aF
 | .t n=>[n]
 |_=>[]
def Gy:uv->aF
 |[]=>[]
 |a::r=>a.tmps++Gy r
def aa4:Option fu->aF
 |some a=>a.tmps
 |none=>[]
def Xb:List (Nat×Nat×fu)->aF
 |[]=>[]
 |(_,_,a)::r=>a.tmps++Xb r
def sR.tmps:sR->aF
 | .rl x| .box _ x| .load _ x| .QM x| .un _ x| .conv _ x| .bstr x| .Ef _ x| .fld _ _ x| .extract x _| .slen x| .Ur x| .mlen x| .clear _ x=>x.tmps
 | .pick c a b=>c.tmps++a.tmps++b.tmps
 | .alloc _ _| .mkmap _ _| .bad=>[]
 | .build _ ps=>Xb ps
 | .Oo _ _ _ ps=>Gy ps
 | .store _ a x| .bin _ a x| .eqc _ _ a x| .Qn _ a x| .Oa _ _ a x| .aidx _ _ _ a x| .sidx a x| .lookup _ _ _ _ a x| .append _ _ _ _ a x| .max a x| .min a x=>a.tmps++x.tmps
 | .mkfn _ a b=>Gy a++Gy b
 | .QH _ _ _ _ _ a b=>a.tmps++b.tmps
 | .slice _ x a b| .sslice x a b=>x.tmps++aa4 a++aa4 b
 | .mupd _ _ a b c=>a.tmps++b.tmps++c.tmps
 | .call _ f as=>f.tmps++Gy as
def mh.KE(o:mh):aF:=
 o.op.tmps++match o.guard with
  |some (t,_)=>[t]
  |none=>[]
def Im(a b:mh):Bool:=
 (match a.dst with
  |some d=> !b.KE.contains d&&b.dst !=some d
  |none=>true)&&
 (match b.dst with
  |some d=> !a.KE.contains d
  |none=>true)
def R6(o:mh):Nat->fI->Bool
 |_,[]=>true
 |j,x::r=>(o.anc.testBit j||Im x o)&&R6 o (j+1) r
def Qp:fI->fI->Bool
 |[],_=>true
 |o::os,f=>R6 o 0 f&&Qp os (f++[o])
def Lq(P:Program)(f:Nat)(o:Oper):sR:=(Iw P f o).getD .bad
def anB(n:Nat):eC->Bool
 |some d=>decide (d<n)
 |none=>true
def acr(dst:Nat->eC):Option (Nat×Bool)->Option (Option (Nat×Bool))
 |none=>some none
 |some (j,w)=>(dst j).map λt=>some (t,w)
def GR(P:Program)(dst:Nat->eC)(base n:Nat)(anc:Nat)(o:Oper):Option mh:=if anB n o.dst then(acr dst o.guard).map λg=>⟨o.dst,Lq P base o,g,anc⟩else none
def yS(P:Program)(dst anc:Nat->eC)(base n:Nat):Nat->List Oper->Option fI
 |_,[]=>some []
 |i,o::r=>match GR P dst ((base+i)*64) n ((anc i).getD 0) o,yS P dst anc base n (i+1) r with
  |some x,some M=>some (x::M)
  |_,_=>none
def JC(ops:Array Oper):Bool:=(List.range ops.size).all λi=>match ops[i]? with
 |some o=>o.after.toList.all λe=> !Region.binds .any e||decide (e.on<i)
 |none=>true
def rD(P:Program)(f n:Nat):Code->Option aS
 | .skip=>some .skip
 | .region id ops D=>
  let b:=if D then Region.before ops else #[]
  match yS P (λj=>(ops[j]?).bind (·.dst)) (λi=>b[i]?) ((f*1000+id)*1000) n 0 ops.toList with
  |some M=>if D then(if JC ops&&Qp M []then some (.region true M)else none)else some (.region false M)
  |none=>none
 | .seq a b=>match rD P f n a,rD P f n b with
  |some x,some y=>some (.seq x y)
  |_,_=>none
 | .cond c a b=>match dA c,rD P f n a,rD P f n b with
  |some c,some x,some y=>some (.cond c x y)
  |_,_,_=>none
 | .block id c=>(rD P f n c).map (.block id)
 | .loop c=>(rD P f n c).map .loop
 | .exit id=>some (.exit id)
 | .scope c=>rD P f n c
 | .label _=>some .skip
 | .ret=>some .ret
 |_=>some .bad
def Cy(P:Program):List ResultVar->Option (List (Nat×Option eC))
 |[]=>some []
 | .tmp t::r=>(Cy P r).map ((t,none):: ·)
 | .cell t H::r=>match tN P H,Cy P r with
  |some k,some q=>some ((t,some k)::q)
  |_,_=>none
def FH(P:Program)(f:Nat):Option aX:=
 match P.funcs[f]? with
 |none=>none
 |some fn=>match fn.body with
  |none=>none
  |some c=>if fn.name== "runtime.NumGoroutine" then none else
   match rD P f fn.ntmps c,Cy P fn.results.toList with
   |some b,some r=>some ⟨fn.ntmps,r,b⟩
   |_,_=>none
variable {P:Program} {O:World}
section
variable{m:bJ}{v:Value}
def lI(m:bJ)(A:ct)(tmps:Array Value):Prop:=∀t,df m (A t) (tmps.getD t undef)
theorem lI.ev{m':bJ}(h:h_ m m'){A:ct}{tmps:Array Value}(hr:lI m A tmps):lI m' A tmps:=λt=>(hr t).ev h.zero
theorem df.one{c:dI}:df m (.one c) v↔dU m c v:=Iff.rfl
theorem df.agg:df m (.agg B) v↔ ∃arr,v=.agg arr/\eD m B arr.toList:=Iff.rfl
theorem df.of1{x:V}(h:qP m x v):df m x v:=by
 cases x with
 |tup E=>exact h.elim
 |_=>exact h
theorem aaH{w:World}{own:Nat->Prop}{x:PV}(h:P6 v=some x):dn w own x v:=by
 unfold P6 at h;split at h<;>first
  |(cases h;constructor;done)
  |cases h
theorem aj3{w:World}{own:Nat->Prop}:∀ {E:List Value}{M:b_},KS E=some M->eK w own M E:=by
 intro E
 induction E with
 |nil=>intro M h;simp[KS]at h;subst h;exact⟨rfl,λj x u a _=>by simp at a⟩
 |cons v r f=>
  intro M h;simp only[KS]at h;split at h
  .rename_i x y g H;cases h;obtain⟨hl,hr⟩:=f H;refine⟨by simp[hl],λj z u a b=>?_⟩;cases j with
   |zero=>simp at a b;subst a b;exact aaH g
   |succ j=>simp at a b;exact hr j z u a b
  cases h
theorem eK.GP(h:eK m.w m.own M E):eD m (M.map .p) E:=by refine⟨by simp[h.1],λj x u a b=>?_⟩;simp only[ig,e_]at a;obtain⟨y,H,rfl⟩:=a;exact .p (h.2 j y u H b)
theorem aA3{x:V}(h:Wa v=some x):df m x v:=by
 unfold Wa at h;split at h
 .simp only[e_]at h;obtain⟨M,H,rfl⟩:=h;exact df.agg.2 ⟨_,rfl,(aj3 H).GP⟩
 simp only[e_]at h;obtain⟨y,H,rfl⟩:=h;exact df.one.2 (.p (aaH H))
theorem gv{A:ct}{a:Act}(h:dA x=some y)(hr:lI m A a.tmps):df m (ev A y) (a.eval x):=by
 unfold dA at h;split at h
 .cases h;exact hr _
 .cases h;exact df.one.2 (.p (.int _ _))
 .cases h;exact df.one.2 (.p (.bool _))
 .simp only[e_]at h;obtain⟨v,H,rfl⟩:=h;exact aA3 H
 .cases h;exact df.one.2 (.p (.fn #[] #[] rfl rfl (λj x u a=>by simp at a) (λj x u a=>by simp at a)))
 cases h
def aBI(P:Program)(ρ:Operand->Value)(o:Oper)(w:World)(x:Value)(L:World):Prop:=
 (execOp ρ o).run P w=.ok (.value x) L\/((execOp ρ o).run P w=.ok .skip L/\x=undef)
def iP(P:Program)(O:World)(ρ:Operand->Value)(o:Oper)(m:bJ)(v:V)(u:mF):Prop:=∃x M,aBI P ρ o m.w x M.w/\dZ O M/\h_ m M/\M.fr=m.fr/\M.aj=app u m.aj/\df M v x
theorem iP.calm{ρ:Operand->Value}{o:Oper}{v:V}{x:Value}(h:dZ O m)(f:(execOp ρ o).run P m.w=.ok (.value x) m.w)(H:df m v x):iP P O ρ o m v []:=
 ⟨x,m,.inl f,h,h_.refl m,rfl,rfl,H⟩
section
variable {m:bJ} {A:ct} {a:Act} {o:Oper} (aG:dZ O m) (hr:lI m A a.tmps)
include aG hr
theorem anJ(ho:o.op=.move x\/o.op=.assign x)(h:dA x=some y):iP P O a.eval o m (ev A y) []:=
 .calm aG (by rcases ho with ho|ho<;>simp[execOp,ho]) (gv h hr)
theorem asD{c y:Operand}{t:Bool}(ho:o.op=.pick c x y)(j:dA c=some c')(n:dA x=some X)(H:dA y=some y')
  (f:ev A c'=.one (.p (.bool t))):iP P O a.eval o m (if t then ev A X else ev A y') []:=by
 have h:=gv j hr;rw[f]at h;obtain⟨⟩:dU m (.p (.bool t)) _:=h;rename_i hp;generalize g:a.eval c=b at hp;cases hp;refine .calm (x:=if t then a.eval x else a.eval y) aG ?_ ?_
 .simp[execOp,ho,g,asBool]
 cases t
 .exact gv H hr
 exact gv n hr
end
theorem GH{b:Bool}(h:df m (.one (.p (.bool b))) v):v=.bool b:=by obtain⟨hp⟩:dU m _ v:=h;cases hp;rfl
theorem EI{k:IntKind}{n:Int}(h:df m (.one (.p (.int k n))) v):v=.int k n:=by obtain⟨hp⟩:dU m _ v:=h;cases hp;rfl
theorem N8{s:ByteArray}(h:df m (.one (.p (.str s))) v):v=.string s:=by obtain⟨hp⟩:dU m _ v:=h;cases hp;rfl
theorem TX(h:df m (.one (.p .nils)) v):v=.slice none 0 0:=by obtain⟨hp⟩:dU m _ v:=h;cases hp;rfl
theorem aAj(h:df m (.one (.p .zs)) v):∃a,v=.slice a 0 0:=by obtain⟨hp⟩:dU m _ v:=h;cases hp;exact⟨_,rfl⟩
theorem afs(h:df m (.one (.p .tQ)) v):v=.map none:=by obtain⟨hp⟩:dU m _ v:=h;cases hp;rfl
theorem p_{x:PV}(h:dn m.w m.own x v):df m (.one (.p x)) v:=df.one.2 (.p h)
def bJ.fresh(m:bJ)(O:Obj)(s k:Nat)(o:f_):bJ:=(m.later (m.w.alloc O) (· =m.w.heap.size)).install s m.w.heap.size k o
theorem aaX(aG:dZ O m)(f:Obj)(s k:Nat)(o:f_):(m.fresh f s k o).fr=m.fr:=by
 funext c;simp only[bJ.fresh,bJ.install,bJ.later];apply propext;constructor
 .rintro ⟨h|h,H⟩
  .exact h
  exact(H h).elim
 intro h;exact⟨.inl h,λe=>by have:=aG.frlt c h;omega⟩
theorem RQ(O:Obj)(s k:Nat)(o:f_):h_ m (m.fresh O s k o):=RN (OG (jP.alloc m.w O) λc h=>E3 h.symm) (.inr rfl) (.inl (c3 _))
theorem ai3(O:Obj)(s k:Nat)(o:f_):(m.fresh O s k o).w.heap[(m.fresh O s k o).σ s]?=some O:=by
 have:(m.fresh O s k o).σ s=m.w.heap.size:=by simp[bJ.fresh,bJ.install,cD]
 rw[this];exact heap_alloc_new m.w O
theorem ahw(aG:dZ O m)(f:Obj)(s k:Nat)(o:f_)(ho:uF (m.fresh f s k o) s o):dZ O (m.fresh f s k o):=Sw (Q9 aG (jP.alloc m.w f) λc h=>by subst h;exact⟨c3 _,aP⟩) (.inr rfl) aG.size ho
theorem ace(m:bJ)(O:Obj)(s k:Nat)(o:f_):(m.fresh O s k o).aj=app [(s,((m.aj s).1+1,some o))] m.aj:=rfl
theorem ahb(aG:dZ O m)(s:Nat)(t:TypeId)(B:eE)(arr:Array Value)(h:eD m B arr.toList):
  dZ O (m.fresh (.cells arr t) s 0 (.var B))/\df (m.fresh (.cells arr t) s 0 (.var B)) (.one (.bm s ((m.aj s).1+1) 0)) (.pointer (some ⟨m.w.heap.size,0,none⟩)):=by
 refine⟨ahw aG _ s 0 _ ⟨arr,t,ai3 _ s 0 _,h.ev (RQ _ s 0 _).zero⟩,df.one.2 (.bm _ ?_ λ_ _=>?_)⟩
 .simp[bJ.fresh,bJ.install,bJ.later,cD]
 simp[bJ.fresh,bJ.install,cD]
theorem On{t:TypeId}(h:BM P t=some z):∃v i,P.info? t=some i/\i.zero=some v/\v.cells.size=i.size/\I z=i.size/\ ∀w own,eK w own z v.cells.toList:=by
 unfold BM at h;split at h
 .rename_i i H;split at h
  .rename_i B g;split at h
   .rename_i ae;have hr:=λw own=>aj3 (w:=w) (own:=own) h;refine⟨_,i,H,g,by simpa [Value.cells]using ae,?_,λw own=>by simpa [Value.cells]using hr w own⟩;have:=(hr default (λ_=>False)).1;simp at this;omega
   cases h
  .rename_i v g n;split at h
   .rename_i ae;simp only[e_]at h;obtain⟨x,m,rfl⟩:=h;have hr:=λw own=>aaH (w:=w) (own:=own) m;have f:=(hr default (λ_=>False)).cells;refine⟨v,i,H,n,by simp[f,ae],by simp[ae],λw own=>?_⟩;rw[f];refine⟨rfl,λj y u a b=>?_⟩;cases j with
    |zero=>simp at a b;subst a b;exact hr w own
    |succ j=>simp at a
   cases h
  cases h
 cases h
section
variable {m:bJ} {A:ct} {a:Act} {o:Oper} (aG:dZ O m) (hr:lI m A a.tmps)
include aG
theorem axj{t:TypeId}{s:Nat}(ho:o.op=.alloc t)(j:BM P t=some z):
  iP P O a.eval o m (.one (.bm s ((m.aj s).1+1) 0)) [(s,((m.aj s).1+1,some (.var (z.map .p))))]:=by
 obtain⟨v,i,g,h,ae,hl,D⟩:=On j;obtain⟨f,H⟩:=ahb aG s t (z.map .p) v.cells (D m.w m.own).GP;refine⟨_,_,.inl ?_,f,RQ _ s 0 _,aaX aG _ s 0 _,ace _ _ s 0 _,H⟩;simp[execOp,ho,Instr.alloc,zeroValue,typeInfo,g,h,newVar,newRow];rfl
include hr
theorem aoU{t:TypeId}{s:Nat}(ho:o.op=.box t x)(n:dA x=some y)(H:uM (ev A y)=some B):
  iP P O a.eval o m (.one (.bm s ((m.aj s).1+1) 0)) [(s,((m.aj s).1+1,some (.var B)))]:=by
 have f:=gv n hr;have D:eD m B (a.eval x).cells.toList:=by
  generalize ev A y=w at H f;cases w with
  |undef=>simp[uM]at H
  |tup E=>simp[uM]at H
  |one c=>
   simp[uM]at H;subst H;rw[(df.one.1 f).cells];refine⟨rfl,λj y u p q=>?_⟩;cases j with
   |zero=>simp at p q;subst p q;exact f
   |succ j=>simp at p
  |agg z=>simp[uM]at H;subst H;obtain⟨arr,e,h⟩:=df.agg.1 f;rw[e];exact h
 obtain⟨v,g⟩:=ahb aG s t B _ D;refine⟨_,_,.inl ?_,v,RQ _ s 0 _,aaX aG _ s 0 _,ace _ _ s 0 _,g⟩;simp[execOp,ho,Instr.box,newVar,newRow];rfl
end
end
theorem MC{α:Type}:∀ {j:List (List α)},(∀e∈j,I e=g)->I j.flatten=I j*g:=by
 intro j
 induction j with
 |nil=>intro _;simp
 |cons e r f=>intro h;have m:=h e aP;have H:=f λx n=>h x (by simp[n]);simp only[mO,gT,dW,m,H,kG,I0];omega
theorem Jc{α:Type}:∀ {j:List (List α)},(∀e∈j,I e=g)->∀ {i:Nat}{e:List α},j[i]?=some e->∀ {m:Nat},m<g->j.flatten[i*g+m]?=e[m]? :=by
 intro j
 induction j with
 |nil=>intro _ i e h;simp at h
 |cons x r z=>
  intro h i e H m v;have f:=h x aP;cases i with
  |zero=>simp at H;subst H;simp only[mO,zC,lq];rw[zl J]
  |succ i=>simp at H;have n:=z (λy u=>h y (by simp[u])) H v;simp only[mO];rw[wY (by rw[f,kG];omega),<-n];congr 1;rw[f,kG];omega
theorem MW{α:Type}{j:List (List α)}(h:∀e∈j,I e=g){i:Nat}{e:List α}(H:j[i]?=some e):I e=g:=h e (bR H)
theorem PL{w:World}{b k:Nat}(h:w.heap[b]?=some (.cells F H Y)):w.cell? ⟨b,k,none⟩=F[k]? :=cell_of_row w b k F H Y h
def D5 (m:bJ)(v:Value)(B:eE):Prop:=∃b o E,v=.pointer (some ⟨b,o,none⟩)/\eD m B E/\ ∀(j:Nat) (u:Value),E[j]?=some u->m.w.cell? ⟨b,o+j,none⟩=some u
theorem D5.row{b o:Nat}(h:m.w.heap[b]?=some (.cells F H Y))(hl:o+I B<=F.size)
  (f:∀(j:Nat) (x:dI) (u:Value),B[j]?=some x->F[o+j]?=some u->dU m x u):D5 m (.pointer (some ⟨b,o,none⟩)) B:=by
 refine⟨b,o,(F.toList.drop o).take (I B),rfl,⟨by simp;omega,λj x u p q=>?_⟩,λj u q=>?_⟩
 .rw[nE]at q;split at q
  .exact f j x u p (by simpa using q)
  cases q
 rw[nE]at q;split at q
 .rw[PL h];simpa using q
 cases q
theorem ael(aG:dZ O m){x:V}{v:Value}{rd:aF}(h:D_ m.aj x=some (B,rd))(R:df m x v):D5 m v B:=by
 unfold D_ at h;split at h
 .rename_i ps;simp only[iS,mY]at h;obtain⟨rfl,rfl⟩:=h;obtain⟨hp⟩:dU m _ v:=R;cases hp with
  |box b o f ho hc hr=>
   refine⟨b,o,(List.range (I ps)).map f,rfl,⟨aP,λA x u p q=>?_⟩,λA u q=>?_⟩
   .simp only[ig,e_]at p q;obtain⟨y,X,rfl⟩:=p;obtain⟨k,T,rfl⟩:=q;have u6:k=A:=by
     rw[qI (by have:=cn.1 X;obtain⟨h,_⟩:=this;exact h)]at T
     simpa using T.symm
    subst u6;exact .p (hr k y X)
   simp only[ig,e_]at q;obtain⟨k,T,rfl⟩:=q;have aw:A<I ps:=by have:=cn.1 T;obtain⟨h,_⟩:=this;simpa using h
   rw[qI aw]at T;simp at T;subst T;exact hc A _ (ue aw)
 .rename_i id ag D;have R:dU m _ v:=R;cases R with
  |bm a hg M=>
   split at h
   .rename_i g' Ck n;split at h
    .rename_i Q;simp only[iS,mY]at h;obtain⟨rfl,rfl⟩:=h;have L:(m.aj id).2=some (.var Ck):=by rw[n]
     have M:=M (by rw[n];exact Q) (by rw[L];rfl);subst M;obtain⟨F,H,z,hl,hc⟩:=aG.obj id _ L;simp at hl;by_cases ho:D<=I Ck
     .exact D5.row z (by simp;omega) λA x u p q=>hc (D+A) x u (by simpa using p) (by simpa using q)
     exact⟨_,_,[],rfl,⟨by simp;omega,λA x u p q=>by simp at q⟩,λA u q=>by simp at q⟩
    cases h
   .rename_i g' Ck n;split at h
    .rename_i Q;simp only[iS,mY]at h;obtain⟨rfl,rfl⟩:=h;have L:(m.aj id).2=some (.fvar Ck):=by rw[n]
     have M:=M (by rw[n];exact Q) (by rw[L];rfl);subst M;obtain⟨F,H,Y,z,hp,_⟩:=aG.obj id _ L;have hl:=hp.1;simp at hl;by_cases ho:D<=I Ck
     .refine D5.row z (by simp;omega) λA x u p q=>?_;simp only[ig,e_]at p;obtain⟨y,X,rfl⟩:=p;exact .p (hp.2 (D+A) y u (by simpa using X) (by simpa using q))
     exact⟨_,_,[],rfl,⟨by simp;omega,λA x u p q=>by simp at q⟩,λA u q=>by simp at q⟩
    cases h
   cases h
 .rename_i id ag i D;have R:dU m _ v:=R;cases R with
  |eh a hg M=>
   have ab:∀(g:Nat) (e:eE) (F:Array Value) (H:TypeId) (Y:Nat×Nat),m.w.heap[m.σ id]?=some (.cells F H Y)->I e=g->(i+1)*g<=F.size->
     a=⟨m.σ id,i*g+D,none⟩->(∀(A:Nat) (x:dI) (u:Value),e[A]?=some x->F[i*g+A]?=some u->dU m x u)->D5 m (.pointer (some a)) (e.drop D):=by
    intro g e F H Y z E aw zT hc;subst zT;rw[kG,I0]at aw;by_cases ho:D<=I e
    .exact D5.row z (by simp;omega) λA x u p q=>hc (D+A) x u (by simpa using p) (by rw[<-FN];exact q)
    exact⟨_,_,[],rfl,⟨by simp;omega,λA x u p q=>by simp at q⟩,λA u q=>by simp at q⟩
   have pure:∀(H g:Nat) (j:q_) (e:b_) (F:Array Value) (Y:Nat×Nat),m.w.heap[m.σ id]?=some (.cells F H Y)->(∀e∈j,I e=g)->I j*g<=F.size->
     eK m.w m.own j.flatten (F.toList.take (I j*g))->j[i]?=some e->a=⟨m.σ id,i*g+D,none⟩->D5 m (.pointer (some a)) ((e.drop D).map .p):=by
    intro H g j e F Y z N ac Z E zT;have eh:=MW N E;have hi:i<I j:=(cn.1 E).1;have lZ:(i+1)*g<=I j*g:=pP _ hi;rw[u_];refine ab g (e.map .p) F H Y z (by simpa using eh) J zT λA x u p q=>?_;simp only[ig,e_]at p;obtain⟨y,X,rfl⟩:=p;have hj:A<g:=by have:=(cn.1 X).1;omega
    refine .p (Z.2 (i*g+A) y u (by rw[Jc N E hj];exact X) ?_);rw[kG]at lZ;rw[nE,aD J]
    simpa using q
   split at h
   .rename_i g' H g j n;split at h
    .rename_i Q;simp only[e_,mY]at h;obtain⟨e,E,rfl,rfl⟩:=h;have L:(m.aj id).2=some (.arr H g j):=by rw[n]
     obtain⟨F,z,sC,N,hl,hm,dQ,Z⟩:=aG.obj id _ L;exact pure H g j e F _ z N (by rw[dQ];exact pP _ hl) Z E (M g (by rw[n];exact Q) (by rw[n];rfl))
    cases h
   .rename_i g' H g j n;split at h
    .rename_i Q;simp only[e_,mY]at h;obtain⟨e,E,rfl,rfl⟩:=h;have L:(m.aj id).2=some (.qW H g j):=by rw[n]
     obtain⟨F,Y,z,sC,N,hl,hm,dQ,Z,_⟩:=aG.obj id _ L;exact pure H g j e F _ z N (by rw[dQ];exact pP _ hl) Z E (M g (by rw[n];exact Q) (by rw[n];rfl))
    cases h
   .rename_i g' H g j n;split at h
    .rename_i Q;simp only[e_,mY]at h;obtain⟨e,E,rfl,rfl⟩:=h;have L:(m.aj id).2=some (.lN H g j):=by rw[n]
     obtain⟨F,z,sC,N,hl,hm,dQ,Z⟩:=aG.obj id _ L;have eh:=MW N E;have hi:i<I j:=(cn.1 E).1;have lZ:(i+1)*g<=I j*g:=pP _ hi;have ad:I j*g<=m.κ id*g:=pP _ hl;refine ab g e F H _ z eh J (M g (by rw[n];exact Q) (by rw[n];rfl)) λA x u p q=>?_;have hj:A<g:=by have:=(cn.1 p).1;omega
     refine Z.2 (i*g+A) x u (by rw[Jc N E hj];exact p) ?_;rw[kG]at lZ;rw[nE,aD J]
     simpa using q
    cases h
   cases h
 cases h
theorem atk{t:TypeId}(h:tN P t=some (some n)):∃d i,P.underlying t=some d/\P.info? t=some i/\i.size=n/\((∃fs,d=.struct fs)\/ ∃k e,d=.array k e):=by
 unfold tN at h;split at h
 .rename_i fs i f H;simp at h;exact⟨_,i,f,H,h,.inl ⟨fs,rfl⟩⟩
 .rename_i k e i f H;simp at h;exact⟨_,i,f,H,h,.inr ⟨k,e,rfl⟩⟩
 .split at h<;>simp at h
 cases h
theorem avM{t:TypeId}(h:tN P t=some none):∃d i,P.underlying t=some d/\P.info? t=some i/\i.size=1/\(∀fs,d≠ .struct fs)/\ ∀k e,d≠ .array k e:=by
 unfold tN at h;split at h
 .simp at h
 .simp at h
 .rename_i d i n N f H;split at h
  .rename_i ae;exact⟨_,_,f,H,ae,λfs e=>n fs e,λk E e=>N k E e⟩
  cases h
 cases h
theorem akZ{t:TypeId}(h:tN P t=some (some n))(w:World):(isAgg t).run P w=.ok true w/\(sizeOf t).run P w=.ok n w:=by
 obtain⟨d,i,g,H,j,f⟩:=atk h;constructor
 .rcases f with⟨fs,rfl⟩|⟨k,e,rfl⟩<;>simp[isAgg,run_underlying g]
 simp[sizeOf,typeInfo,H,j]
theorem als{t:TypeId}(h:tN P t=some none)(w:World):(isAgg t).run P w=.ok false w/\(sizeOf t).run P w=.ok 1 w:=by
 obtain⟨d,i,g,H,m,f,j⟩:=avM h;constructor
 .cases d<;>first
   |exact(f _ rfl).elim
   |exact(j _ _ rfl).elim
   |simp[isAgg,run_underlying g]
 simp[sizeOf,typeInfo,H,m]
theorem ame{t:TypeId}{k:eC}(D:tN P t=some k){v:Value}(h:D5 m v B){x:V}(H:tF k B=some x):
  ∃a y,v=.pointer (some a)/\(loadVar t a).run P m.w=.ok y m.w/\df m x y:=by
 obtain⟨b,o,E,rfl,F,O⟩:=h;cases k with
 |none=>
  obtain⟨g,z⟩:=als D m.w;cases B with
  |nil=>simp[tF]at H
  |cons c r=>
   simp[tF]at H;subst H;obtain⟨hl,hr⟩:=F;cases E with
   |nil=>simp at hl
   |cons u us=>have A:=O 0 u rfl;refine⟨_,u,rfl,?_,df.one.2 (hr 0 c u rfl rfl)⟩;rw[vu]at A;simp[loadVar,g,A]
 |some n=>
  obtain⟨g,z⟩:=akZ D m.w;simp only[tF]at H;split at H
  .rename_i M;cases H;obtain⟨hl,hr⟩:=F;refine⟨_,.agg (E.take n).toArray,rfl,?_,df.agg.2 ⟨_,rfl,by simp;omega,λj x u p q=>?_⟩⟩
   .have f:I (E.take n)=n:=by simp;omega
    have:=run_loadCells_list (P:=P) m.w ⟨b,o,none⟩ (E.take n) (λj u q=>by
     rw[Addr.add_lit];rw[nE]at q;split at q
     .exact O j u q
     cases q)
    rw[f]at this;simp[loadVar,g,z,this]
   rw[nE]at p;simp only[nE]at q;split at p
   .rename_i L;simp only[L,if_true]at q;exact hr j x u p q
   cases p
  cases H
section
variable {m:bJ} {A:ct} {a:Act} {o:Oper} (aG:dZ O m) (hr:lI m A a.tmps)
include aG hr
theorem aB0{t:TypeId}{k:eC}{rd:aF}(ho:o.op=.load t x)(h:tN P t=some k)(u:dA x=some y)
  (n:D_ m.aj (ev A y)=some (B,rd)) (H:tF k B=some v):iP P O a.eval o m v []:=by
 obtain⟨z,y',g,f,j⟩:=ame h (ael aG n (gv u hr)) H;exact .calm aG (by simp[execOp,ho,g,Instr.loadAt,Instr.sureAddr,f]) j
theorem aDr(ho:o.op=.nilCheck x)(u:dA x=some y)(n:c5 (λ_=>false) A m.aj (.QM y)=.done v [] []):iP P O a.eval o m v []:=by
 have F:=gv u hr;simp only[c5]at n;split at n
 .rename_i j;rw[j]at F;cases n;have H:dU m _ (a.eval x):=F;generalize g:a.eval x=b at H F;cases H with
  |bm E hg h=>exact .calm aG (by simp[execOp,ho,g]) F
 .rename_i j;rw[j]at F;cases n;have H:dU m _ (a.eval x):=F;generalize g:a.eval x=b at H F;cases H with
  |eh E hg h=>exact .calm aG (by simp[execOp,ho,g]) F
 .rename_i j;rw[j]at F;cases n;have H:dU m _ (a.eval x):=F;generalize g:a.eval x=b at H F;cases H with
  |p hp=>cases hp with
   |box M T f R N X=>exact .calm aG (by simp[execOp,ho,g]) F
 .rename_i j;rw[j]at F;cases n;have H:dU m _ (a.eval x):=F;generalize g:a.eval x=b at H F;cases H with
  |hfn L B D z Y Q=>exact .calm aG (by simp[execOp,ho,g]) F
 .rename_i j;rw[j]at F;cases n;have H:dU m _ (a.eval x):=F;generalize g:a.eval x=b at H F;cases H with
  |p hp=>cases hp with
   |fn L B D z Y Q=>exact .calm aG (by simp[execOp,ho,g]) F
 cases n
end
section
variable{E:List Value}{D:Nat}
theorem dn.norm{w:World}{own:Nat->Prop}{x:PV}{v:Value}(h:dn w own x v):dn w own x.norm v:=by
 cases h<;>first
  |exact .BO none 0 (λ_=>rfl) (cG _)
  |exact .BO _ 0 (λ_=>rfl) (cG _)
  |(simp only[PV.norm];constructor<;>assumption)
theorem ao6{c:dI}{x:PV}{v:Value}(h:T4 c=some x)(hr:dU m c v):dn m.w m.own x v:=by
 cases hr<;>simp[T4]at h
 rename_i hp;subst h;exact hp.norm
theorem Nb:∀ {B:eE}{M:b_}{E:List Value},D3 B=some M->eD m B E->eK m.w m.own M E:=by
 intro B
 induction B with
 |nil=>intro M E h hr;simp[D3]at h;subst h;exact⟨hr.1,λj x u a=>by simp at a⟩
 |cons c r f=>
  intro M E h hr;simp only[D3]at h;split at h
  .rename_i x y n H;cases h;cases E with
   |nil=>simp[eD]at hr
   |cons v us=>
    obtain⟨hl,g⟩:=f (E:=us) H ⟨by simpa using hr.1,λj x u a b=>hr.2 (j+1) x u (by simpa using a) (by simpa using b)⟩;refine⟨by simp[hl],λj z u a b=>?_⟩;cases j with
    |zero=>simp at a b;subst a b;exact ao6 n (hr.2 0 c v rfl rfl)
    |succ j=>simp at a b;exact g j z u a b
  cases h
def Pw {α:Type}(R:α->Value->Prop)(M:List α)(E:List Value):Prop:=I E=I M/\ ∀(j:Nat) (x:α) (u:Value),M[j]?=some x->E[j]?=some u->R x u
theorem Pw.take{α:Type}{R:α->Value->Prop}{M:List α}(h:Pw R M E)(n:Nat):Pw R (M.take n) (E.take n):=by
 refine⟨by simp[h.1],λj x u a b=>?_⟩;rw[nE]at a b;split at a
 .rename_i H;rw[aD H]at b;exact h.2 j x u a b
 cases a
theorem Pw.drop{α:Type}{R:α->Value->Prop}{M:List α}(h:Pw R M E)(n:Nat):Pw R (M.drop n) (E.drop n):=
 ⟨by simp[h.1],λj x u a b=>h.2 (n+j) x u (by simpa using a) (by simpa using b)⟩
theorem Pw.append{α:Type}{R:α->Value->Prop}{M y:List α}(h:Pw R M E)(k:Pw R y us):Pw R (M++y) (E++us):=by
 refine⟨by simp[h.1,k.1],λj x u a b=>?_⟩;by_cases H:j<I M
 .rw[zl H]at a;rw[zl (by rw[h.1];exact H)]at b;exact h.2 j x u a b
 rw[wY J]at a;rw[wY (by rw[h.1];omega),h.1]at b;exact k.2 _ x u a b
theorem Pw.gn{α:Type}{R:α->Value->Prop}{M y:List α}(h:Pw R M E)(k:Pw R y us)(D:Nat):Pw R (gn M D y) (gn E D us):=by unfold Abs.gn;rw[k.1];exact((h.take D).append k).append (h.drop _)
theorem RP{α:Type}{B M:List α}(h:D+I M<=I B):I (gn B D M)=I B:=by simp[gn];omega
theorem ann{α:Type}{B M:List α}(h:D+I M<=n)(H:n<=I B):(gn B D M).take n=gn (B.take n) D M:=by unfold gn;rw[LC,LC,GZ,List.drop_take];simp only[gT,gX];rw[vm (by omega:D<=I B),GZ,vm (by omega:D<=n),Nat.min_eq_right (by omega:D<=n)];have e:n-(D+I M)=n-(D+I M):=rfl;rw[fx (by omega:I M<=n-D)]
theorem auE{α:Type}{a B M:List α}:gn (a++B) (I a+D) M=a++gn B D M:=by unfold gn;rw[LC,Wo];simp only[sn];rw[fx (by omega:I a<=I a+D),Nd (by omega:I a<=I a+D+I M)];simp only[iZ];have E:I a+D-I a=D:=J;have f:I a+D+I M-I a=D+I M:=J;rw[E,f]
theorem aua{α:Type}{a B M:List α}(h:D+I M<=I a):gn (a++B) D M=gn a D M++B:=by unfold gn;rw[QF J,abA J];simp
theorem aBL{α:Type}{ps:List α}:∀ {j:List (List α)},(∀e∈j,I e=g)->∀ {i:Nat}{e:List α},j[i]?=some e->D+I ps<=g->
  (j.set i (gn e D ps)).flatten=gn j.flatten (i*g+D) ps:=by
 intro j
 induction j with
 |nil=>intro _ i e h;simp at h
 |cons x r n=>
  intro h i e H hl;have u:=h x aP;cases i with
  |zero=>simp at H;subst H;simp only[Vx,mO,zC,lq];rw[aua J]
  |succ i=>
   simp at H;simp only[List.set_cons_succ,mO];rw[n (λy f=>h y (by simp[f])) H hl];have m:(i+1)*g+D=I x+(i*g+D):=by rw[u,kG];omega
   rw[m,auE]
theorem Q8{w:World}{g:Nat}{new:Array Value}(h:w.heap[g]?=some (.cells F H Y)):(w.setRow g new).heap[g]?=some (.cells new H Y):=setRow_heap w g F new H Y h
theorem eD.pw:eD m B E↔Pw (dU m) B E:=Iff.rfl
theorem eK.pw{w:World}{own:Nat->Prop}{B:b_}:eK w own B E↔Pw (dn w own) B E:=Iff.rfl
theorem eD.one(h:eD m B E):∀v∈E,v.oneCell':=by
 intro v f;obtain⟨j,H⟩:=j9 f;have A:j<I B:=by rw[<-h.1];exact(cn.1 H).1
 exact(h.2 j _ v (ue A) H).QT
theorem abv{x:V}{v:Value}(h:uM x=some B)(hr:df m x v):eD m B v.cells.toList:=by
 cases x with
 |undef=>simp[uM]at h
 |tup E=>simp[uM]at h
 |one c=>
  simp[uM]at h;subst h;rw[(df.one.1 hr).cells];refine⟨rfl,λj y u p q=>?_⟩;cases j with
  |zero=>simp at p q;subst p q;exact hr
  |succ j=>simp at p
 |agg D=>simp[uM]at h;subst h;obtain⟨arr,e,h⟩:=df.agg.1 hr;rw[e];exact h
section
variable {m:bJ} {A:ct} {a:Act} {o:Oper} (aG:dZ O m) (hr:lI m A a.tmps)
include aG hr
theorem aC3{t:TypeId}{v:Operand}{v':fu}{r:V}{rd:aF}(ho:o.op=.store t x v)(hn:yx P t=some n)(hx:dA x=some X)(hv:dA v=some v')
  (hc:uM (ev A v')=some B) (y:Dw m.aj (ev A X) n B=.done r u rd):iP P O a.eval o m r u:=by
 have Y:=abv hc (gv hv hr);have N:=gv hx hr;unfold yx at hn;simp only[e_]at hn;obtain⟨i,hi,nK⟩:=hn;have dj:(a.eval v).cells.toList.length=I B:=Y.1;simp only[Uw]at dj;unfold Dw at y;split at y
 .cases y
 rename_i z;have z:I B=n:=by simpa using z
 have TW:=Y.one;split at y
 .rename_i id aq D he;rw[he]at N;have N:dU m _ (a.eval x):=N;generalize hb:a.eval x=b at N;cases N with
  |bm ad hg Q=>
   split at y
   .rename_i g' Z M;split at y
    .rename_i CG;obtain⟨lB,ab⟩:=CG;cases y;have E:(m.aj id).2=some (.var Z):=by rw[M]
     have Q:=Q (by rw[M];exact lB) (by rw[E];rfl);subst Q;obtain⟨F,H,hh,dX⟩:=aG.obj id _ E;have cS:=dX.1;simp at cS;have HQ:D+0+(a.eval v).cells.toList.length<=F.size:=by simp;omega
     have R:=run_storeCells_at P (m.σ id) D H (a.eval v).cells.toList 0 F m.w hh HQ TW;simp only[vu]at R;generalize f:m.w.setRow (m.σ id) (F.toList.take D++(a.eval v).cells.toList++F.toList.drop (D+(a.eval v).cells.toList.length)).toArray=ch at R;have HL:ch.heap.size=m.w.heap.size:=by rw[<-f];simp
     have HK:∀c,c≠m.σ id->ch.heap[c]?=m.w.heap[c]? :=λc hc=>by rw[<-f];exact setRow_other m.w (m.σ id) c _ hc
     have T:=Ny (L:=ch) (o:=.var (gn Z D B)) E rfl (by simp[nH]) (by rw[<-f];rfl) (by rw[<-f];rfl) (by rw[<-f];rfl) HL HK;have Gj:uF (m.mR ch id (.var (gn Z D B))) id (.var (gn Z D B)):=by
      refine⟨_,H,by rw[<-f];exact Q8 hh,?_⟩;have:=eD.pw.2 ((eD.pw.1 (dX.ev T.zero)).gn (eD.pw.1 (Y.ev T.zero)) D)
      simpa [gn]using this
     refine⟨undef,m.mR ch id (.var (gn Z D B)),.inr ⟨?_,rfl⟩,UU E rfl aG (by simp[nH]) (by rw[<-f];rfl) (by rw[<-f];rfl) (by rw[<-f];rfl) HL HK Gj,T,rfl,?_,rfl⟩
     .simp only[execOp,ho,hb,Instr.storeAt,Instr.sureAddr,storeVar,sizeOf,typeInfo];simp[hi,dj,z,nK,R,bJ.mR]
     simp[bJ.mR,app,M,lB]
    cases y
   cases y
 .rename_i id aq i' D he;rw[he]at N;have N:dU m _ (a.eval x):=N;generalize hb:a.eval x=b at N;cases N with
  |eh ad hg Q=>
   split at y
   .rename_i g' H g j M;split at y
    .rename_i e ps Bg TY;split at y
     .rename_i CG;obtain⟨lB,ab⟩:=CG;cases y;have E:(m.aj id).2=some (.arr H g j):=by rw[M]
      have Q:=Q g (by rw[M];exact lB) (by rw[M];rfl);subst Q;obtain⟨F,hh,sC,vX,hl,hm,ap,dX⟩:=aG.obj id _ E;have eh:=MW vX Bg;have ac:i'<I j:=(cn.1 Bg).1;have lZ:(i'+1)*g<=I j*g:=pP _ ac;have am:I j*g<=m.κ id*g:=pP _ hl;rw[kG,I0]at lZ;have ag:I ps=I B:=by rw[<-Y.1];exact(Nb TY Y).1.symm
      have HQ:i'*g+D+0+(a.eval v).cells.toList.length<=F.size:=by simp;omega
      have R:=run_storeCells_at P (m.σ id) (i'*g+D) H (a.eval v).cells.toList 0 F m.w hh HQ TW;simp only[vu]at R;generalize f:m.w.setRow (m.σ id) (F.toList.take (i'*g+D)++(a.eval v).cells.toList++F.toList.drop (i'*g+D+(a.eval v).cells.toList.length)).toArray=ch at R;have HL:ch.heap.size=m.w.heap.size:=by rw[<-f];simp
      have HK:∀c,c≠m.σ id->ch.heap[c]?=m.w.heap[c]? :=λc hc=>by rw[<-f];exact setRow_other m.w (m.σ id) c _ hc
      have T:=Ny (L:=ch) (o:=.arr H g (j.set i' (gn e D ps))) E rfl (by simp[nH]) (by rw[<-f];rfl) (by rw[<-f];rfl) (by rw[<-f];rfl) HL HK;have Gj:uF (m.mR ch id (.arr H g (j.set i' (gn e D ps)))) id (.arr H g (j.set i' (gn e D ps))):=by
       refine⟨_,by rw[<-f];exact Q8 hh,sC,?_,by rw[jo];exact hl,hm,?_,?_⟩
       .intro e' qA;rcases P8 qA with h|h
        .exact vX e' h
        rw[h,RP J];exact eh
       .simp[bJ.mR];omega
       rw[jo,aBL vX Bg J];have h1:=(eK.pw.1 (dX.ev T.zero)).gn (eK.pw.1 ((Nb TY Y).ev T.zero)) (i'*g+D);rw[<-ann (by simp;omega) (by simp;omega)]at h1;have h1:=eK.pw.2 h1
       simpa [gn]using h1
      refine⟨undef,m.mR ch id (.arr H g (j.set i' (gn e D ps))),.inr ⟨?_,rfl⟩,UU E rfl aG (by simp[nH]) (by rw[<-f];rfl) (by rw[<-f];rfl) (by rw[<-f];rfl) HL HK Gj,T,rfl,?_,rfl⟩
      .simp only[execOp,ho,hb,Instr.storeAt,Instr.sureAddr,storeVar,sizeOf,typeInfo];simp[hi,dj,z,nK,R,bJ.mR]
      simp[bJ.mR,app,M,lB]
     cases y
    cases y
   cases y
 cases y
end
end
theorem AW{x:V}{v:Value}(h:tg x=some n)(hr:df m x v):∃k,v=.int k (n:Int):=by
 unfold tg at h;split at h
 .rename_i k z;split at h
  .rename_i H;cases h;exact⟨k,by rw[EI hr,RL H]⟩
  cases h
 cases h
theorem Sd{t:TypeId}(h:yx P t=some n)(w:World):(sizeOf t).run P w=.ok n w:=by unfold yx at h;simp only[e_]at h;obtain⟨i,H,rfl⟩:=h;simp[sizeOf,typeInfo,H]
section
variable {m:bJ} {A:ct} {a:Act} {o:Oper} (aG:dZ O m) (hr:lI m A a.tmps)
include aG hr
theorem arN{s:TypeId}{fs:Array Field}{d:Field}(ho:o.op=.fieldAddr s x f)(ae:P.underlying s=some (.struct fs))(Z:fs[f]?=some d)
  (R:P.cellsOf d.type≠0) (hx:dA x=some y) (u:c5 (λ_=>false) A m.aj (.Ef d.offset y)=.done v [] []):iP P O a.eval o m v []:=by
 have F:=gv hx hr;have dj:∃n,(sizeOf d.type).run P m.w=.ok n m.w/\n≠0:=by
  unfold Program.cellsOf at R;cases T:P.info? d.type with
  |none=>simp[T]at R
  |some i=>exact⟨i.size,by simp[sizeOf,typeInfo,T],by simpa [T]using R⟩
 obtain⟨n,hn,gO⟩:=dj;have run:∀L,a.eval x=.pointer (some L)->(execOp a.eval o).run P m.w=.ok (.value (.pointer (some (L.add d.offset)))) m.w:=by intro L X;simp[execOp,ho,X,Instr.fieldAt,run_underlying ae,Z,Instr.sureAddr,fieldPlace,hn,gO]
 simp only[c5]at u;split at u
 .rename_i id ab D M;rw[M]at F;cases u;have H:dU m _ (a.eval x):=F;generalize E:a.eval x=b at H;cases H with
  |bm L hg h=>exact .calm aG (run _ E) (df.one.2 (.bm _ hg λQ N=>by rw[h Q N,Addr.add_lit]))
 .rename_i id ab i D M;rw[M]at F;cases u;have H:dU m _ (a.eval x):=F;generalize E:a.eval x=b at H;cases H with
  |eh L hg h=>exact .calm aG (run _ E) (df.one.2 (.eh _ hg λg Q N=>by rw[h g Q N,Addr.add_lit,FN]))
 .rename_i B M;rw[M]at F;cases u;have H:dU m _ (a.eval x):=F;generalize E:a.eval x=b at H;cases H with
  |p hp=>cases hp with
   |box Y o' f' nX nJ vW=>refine .calm aG (run _ E) (p_ ?_);rw[Addr.add_lit];refine .box Y (o'+d.offset) (λj=>f' (d.offset+j)) (λh=>nX λe=>h (by simp[e])) (λj z h=>?_) λj z h=>vW _ z (by simpa using h);rw[FN];exact nJ _ z (by simpa using h)
 cases u
theorem aBn{t e:TypeId}{i:Operand}(ho:o.op=.indexAddr t x i)(ht:P.underlying t=some (.slice e))(ae:yx P e=some g)
  (hx:dA x=some X) (hi:dA i=some i') (u:c5 (λ_=>false) A m.aj (.Qn g X i')=.done v [] []):iP P O a.eval o m v []:=by
 have M:=gv hx hr;have Mo:=gv hi hr;have run:∀E len N k (n:Nat),a.eval x=.slice (some E) len N->a.eval i=.int k (n:Int)->n<len->(execOp a.eval o).run P m.w=.ok (.value (.pointer (some (E.add (n*g))))) m.w:=by intro E len N k n Y Q h3;simp[execOp,ho,Y,Q,Instr.indexAt,asIntOf,run_underlying ht,Sd ae,h3]
 simp only[c5]at u;split at u
 .rename_i n j hn he;obtain⟨k,T⟩:=AW hn Mo;rw[he]at M;split at u
  .rename_i el eh;split at u
   .rename_i H;cases u;have y:dU m _ (a.eval x):=M;generalize R:a.eval x=b at y;cases y with
    |p hp=>
     generalize jC:(PV.sl j)=pv at hp;cases hp<;>first
      |cases jC
      |skip
     .simp at eh
     rename_i b' o' N F f xO nX yM L qy Gm;have B:n<I j:=(cn.1 eh).1;have Z:F=g:=by rw[<-MW L eh];exact H
     subst Z;refine .calm aG (run _ _ _ k n R T B) (p_ ?_);rw[Addr.add_lit];refine .box b' (o'+n*F) (λab=>f (n*F+ab)) (λh=>nX ?_) (λab z h=>?_) λab z h=>?_
     .intro e0;cases el with
      |nil=>exact h rfl
      |cons c r=>have:=Jc L eh (m:=0) (by rw[<-H];simp);rw[e0]at this;simp at this
     .have hj:ab<F:=by rw[<-H];exact(cn.1 h).1
      rw[FN];exact qy _ z (by rw[Jc L eh hj];exact h)
     have hj:ab<F:=by rw[<-H];exact(cn.1 h).1
     exact Gm _ z (by rw[Jc L eh hj];exact h)
   cases u
  cases u
 .rename_i n id ac z D len hn he;obtain⟨k,T⟩:=AW hn Mo;rw[he]at M;split at u
  .rename_i B;cases u;have y:dU m _ (a.eval x):=M;generalize R:a.eval x=b at y;cases y with
   |hsl E N hg hl hm h=>refine .calm aG (run _ _ _ k n R T B.1) (df.one.2 (.eh _ hg λs Y Q=>?_));obtain⟨e1,e2,_⟩:=h s Y Q;rw[e2 (.inr J),Addr.add_lit,e1,B.2];simp[kG]
  cases u
 cases u
theorem awf{t e:TypeId}{i:Operand}(ho:o.op=.indexAddr t x i)(Y:P.underlying t=some (.array ln e))(ae:yx P e=some g)
  (hx:dA x=some X) (hi:dA i=some i') (H:c5 (λ_=>false) A m.aj (.Oa ln g X i')=.done v [] []):iP P O a.eval o m v []:=by
 have F:=gv hx hr;have T:=gv hi hr;have run:∀N k (n:Nat),a.eval x=.pointer (some N)->a.eval i=.int k (n:Int)->n<ln->(execOp a.eval o).run P m.w=.ok (.value (.pointer (some (N.add (n*g))))) m.w:=by intro N k n M u h3;simp[execOp,ho,M,u,Instr.indexAt,asIntOf,run_underlying Y,Sd ae,h3,Instr.sureAddr]
 simp only[c5]at H;split at H
 .rename_i n id ab D Q R;obtain⟨k,L⟩:=AW Q T;rw[R]at F;split at H
  .rename_i E;cases H;have f:dU m _ (a.eval x):=F;generalize y:a.eval x=b at f;cases f with
   |bm N hg h=>exact .calm aG (run _ k n y L E) (df.one.2 (.bm _ hg λM u=>by rw[h M u,Addr.add_lit]))
  cases H
 .rename_i n id ab j D Q R;obtain⟨k,L⟩:=AW Q T;rw[R]at F;split at H
  .rename_i E;cases H;have f:dU m _ (a.eval x):=F;generalize y:a.eval x=b at f;cases f with
   |eh N hg h=>exact .calm aG (run _ k n y L E) (df.one.2 (.eh _ hg λs M u=>by rw[h s M u,Addr.add_lit,FN]))
  cases H
 .rename_i n B Q R;obtain⟨k,L⟩:=AW Q T;rw[R]at F;split at H
  .rename_i E;cases H;have f:dU m _ (a.eval x):=F;generalize y:a.eval x=b at f;cases f with
   |p hp=>cases hp with
    |box Z o' f' nX nJ vW=>refine .calm aG (run _ k n y L E) (p_ ?_);rw[Addr.add_lit];refine .box Z (o'+n*g) (λj=>f' (n*g+j)) (λh=>nX λe=>h (by simp[e])) (λj z h=>?_) λj z h=>vW _ z (by simpa using h);rw[FN];exact nJ _ z (by simpa using h)
  cases H
 cases H
theorem akS{t:TypeId}{k:eC}(z:tN P t=some k){arr:Array Value}(g:eD m B arr.toList){x:V}(h:tF k (B.drop D)=some x):
  ∃y,(part t arr D).run P m.w=.ok y m.w/\df m x y:=by
 have O:=aG;have L:=hr;have hl:=g.1;simp at hl;cases k with
 |none=>
  obtain⟨f,v⟩:=als z m.w;cases H:B.drop D with
  |nil=>simp[H,tF]at h
  |cons c r=>
   simp[H,tF]at h;subst h;have E:B[D]?=some c:=by
    have:=congrArg (·[0]?) H
    simpa using this
   have A:D<arr.size:=by rw[hl];exact(cn.1 E).1
   refine⟨arr[D],by simp[part,f,A],df.one.2 (g.2 D c _ E (by simp[A]))⟩
 |some n=>
  obtain⟨f,v⟩:=akZ z m.w;simp only[tF]at h;split at h
  .rename_i F;cases h;simp at F;refine⟨.agg (arr.extract D (D+n)),by simp[part,f,v],df.agg.2 ⟨_,rfl,by simp;omega,λj x u p q=>?_⟩⟩;rw[nE]at p;split at p
   .rename_i N;simp at p;refine g.2 (D+j) x u p ?_;have A:D+j<I B:=(cn.1 p).1;have M:(arr.extract D (D+n)).toList=(arr.toList.drop D).take n:=aP;rw[M,nE,aD N,BY]at q;exact q
   cases p
  cases h
theorem avm{t:TypeId}{fs:Array Field}{d:Field}{k:eC}(ho:o.op=.field t x f)(ae:P.underlying t=some (.struct fs))(h:fs[f]?=some d)
  (n:tN P d.type=some k) (j:dA x=some y) (H:ev A y=.agg B) (u:tF k (B.drop d.offset)=some v):iP P O a.eval o m v []:=by
 have F:=gv j hr;rw[H]at F;obtain⟨arr,e,E⟩:=df.agg.1 F;obtain⟨z,D,g⟩:=akS (aG:=aG) (hr:=hr) n E u;exact .calm aG (by simp[execOp,ho,e,Instr.field,run_underlying ae,h,asAgg,D]) g
theorem aon{t e:TypeId}{i:Operand}{k:eC}(ho:o.op=.index t x i)(j:P.underlying t=some (.array ln e))(ae:yx P e=some g)
  (L:tN P e=some k) (E:dA x=some X) (D:dA i=some i') (F:tg (ev A i')=some n) (u:n<ln) (h:ev A X=.agg B) (M:tF k (B.drop (n*g))=some v):iP P O a.eval o m v []:=by
 have f:=gv E hr;obtain⟨T,y⟩:=AW F (gv D hr);rw[h]at f;obtain⟨arr,Q,R⟩:=df.agg.1 f;obtain⟨z,N,H⟩:=akS (aG:=aG) (hr:=hr) L R M;exact .calm aG (by simp[execOp,ho,Q,y,Instr.index,asIntOf,run_underlying j,Sd ae,u,N]) H
theorem aBe{t:TypeId}{i:Operand}{s:ByteArray}{b:UInt8}(ho:o.op=.index t x i)(H:P.underlying t=some .string)
  (u:dA x=some X) (j:dA i=some i') (v:tg (ev A i')=some n) (h:ev A X=.one (.p (.str s))) (g:s[n]?=some b):iP P O a.eval o m (.one (.p (.int .u8 b.toNat))) []:=by
 have f:=gv u hr;obtain⟨z,y⟩:=AW v (gv j hr);rw[h]at f;exact .calm aG (by simp[execOp,ho,N8 f,y,Instr.index,asIntOf,run_underlying H,g]) (p_ (.int _ _))
end
theorem awL{op:BinOp}{t:TypeId}{k f:IntKind}{x y:Int}{v:PV}(w:World)(g:k=f\/op=.shl\/op=.shr)(h:Je op k x y=some v):
  ∃u,(binOp op t (.int k x) (.int f y)).run P w=.ok u w/\ ∀own,dn w own v u:=by
 by_cases ae:op=.shl\/op=.shr
 .rcases ae with rfl|rfl
  .simp only[Je]at h;split at h
   .cases h
   rename_i H;cases h;exact⟨_,by simp[binOp,Op.shift,H],λown=>.int _ _⟩
  simp only[Je]at h;split at h
  .cases h
  rename_i H;cases h;exact⟨_,by simp[binOp,Op.shift,H],λown=>.int _ _⟩
 have Y:k=f:=by
  rcases g with h|h
  .exact h
  exact(ae h).elim
 subst Y;cases op<;>simp only[Je]at h<;>first
  |cases h
  |skip
 all_goals first
  |exact(ae (.inl rfl)).elim
  |exact(ae (.inr rfl)).elim
  |(exact⟨_,by simp[binOp,Op.intArith,Op.intCmp,Op.intBits],λown=>.int _ _⟩)
  |(exact⟨_,by simp[binOp,Op.intArith,Op.intCmp],λown=>.bool _⟩)
  |(split at h
    .cases h
    rename_i H;cases h;exact⟨_,by simp[binOp,Op.intDiv,H],λown=>.int _ _⟩)
theorem aqi{op:BinOp}{t:TypeId}{x y:ByteArray}{v:PV}(w:World)(h:E9 op x y=some v):
  ∃u,(binOp op t (.string x) (.string y)).run P w=.ok u w/\ ∀own,dn w own v u:=by
 cases op<;>simp only[E9]at h<;>first
  |cases h
  |skip
 all_goals first
  |exact⟨_,by simp[binOp,Op.stringOp],λown=>.bool _⟩
  |(split at h
    .rename_i hl;cases h;refine⟨.string (x++y),?_,λown=>.str _⟩;have:¬((x.size:Int)+(y.size:Int)>9223372036854775807):=J;simp[binOp,Op.stringOp,this]
    cases h)
section
variable {m:bJ} {A:ct} {a:Act} {o:Oper} (aG:dZ O m) (hr:lI m A a.tmps)
include aG hr
theorem avH{op:BinOp}{t:TypeId}{y:Operand}(ho:o.op=.binOp op t x y H)(F:dA x=some X)(D:dA y=some y')
  (h:Rl op (ev A X) (ev A y')=some v):iP P O a.eval o m v []:=by
 have g:=gv F hr;have f:=gv D hr;unfold Rl at h;split at h
 .rename_i k p N q E n;rw[E]at g;rw[n]at f;split at h
  .rename_i L;simp only[e_]at h;obtain⟨u,j,rfl⟩:=h;obtain⟨z,B,M⟩:=awL (P:=P) (t:=t) m.w L j;refine .calm aG ?_ (p_ (M _));have hg:(eqGuard op t x y (.int k p) (.int N q)).run P m.w=.ok () m.w:=by cases op<;>simp[eqGuard]
   simp[execOp,ho,EI g,EI f,hg,B]
  cases h
 .rename_i p q E n;rw[E]at g;rw[n]at f;simp only[e_]at h;obtain⟨u,j,rfl⟩:=h;obtain⟨z,B,M⟩:=aqi (P:=P) (t:=t) m.w j;refine .calm aG ?_ (p_ (M _));have hg:(eqGuard op t x y (.string p) (.string q)).run P m.w=.ok () m.w:=by cases op<;>simp[eqGuard]
  simp[execOp,ho,N8 g,N8 f,hg,B]
 cases h
theorem apQ{t:TypeId}{b:Bool}(ho:o.op=.unOp .not t x)(f:dA x=some X)(H:ev A X=.one (.p (.bool b))):iP P O a.eval o m (.one (.p (.bool (!b)))) []:=by have h:=gv f hr;rw[H]at h;exact .calm aG (by simp[execOp,ho,GH h,Op.unary]) (p_ (.bool _))
theorem ayl{t:TypeId}{k:IntKind}{n:Int}(ho:o.op=.unOp .neg t x)(f:dA x=some X)(H:ev A X=.one (.p (.int k n))):iP P O a.eval o m (.one (.p (.int k (k.wrap (0-n))))) []:=by have h:=gv f hr;rw[H]at h;exact .calm aG (by simp[execOp,ho,EI h,Op.unary,Op.intArith]) (p_ (.int _ _))
theorem ar6{s d:TypeId}{g k f:IntKind}{n:Int}(ho:o.op=.convert s d x)(ae:P.underlying s=some (.int g))(H:P.underlying d=some (.int k))(u:dA x=some X)
  (j:ev A X=.one (.p (.int f n))):iP P O a.eval o m (.one (.p (.int k (k.wrap n)))) []:=by
 have h:=gv u hr;rw[j]at h;exact .calm aG (by simp[execOp,ho,EI h,convert,run_underlying ae,run_underlying H,Conv.intToInt]) (p_ (.int _ _))
theorem ahe:∀ {M:List Operand}{Y:uv}{B:eE},r8 M=some Y->AM A Y=some B->eD m B (M.map a.eval):=by
 have F:=aG;intro M
 induction M with
 |nil=>intro Y B H h;simp[r8]at H;subst H;simp[AM]at h;subst h;exact⟨rfl,λj x u p=>by simp at p⟩
 |cons x r v=>
  intro Y B H h;simp only[r8]at H;split at H
  .rename_i y f E L;cases H;simp only[AM]at h;split at h
   .rename_i c q n D;cases h;obtain⟨hl,g⟩:=v L D;refine⟨by simpa using hl,λj z u p q=>?_⟩;cases j with
    |zero=>simp at p q;subst p q;have:=gv E hr;rw[n]at this;exact this
    |succ j=>simp at p q;exact g j z u p (by simpa using q)
   cases h
  cases H
theorem aw2{f:FuncId}{x y:Array Operand}{X y':uv}{D:eE}(ho:o.op=.makeFunc (.func f) x y)(v:r8 x.toList=some X)(n:r8 y.toList=some y')
  (E:AM A X=some B) (g:AM A y'=some D):iP P O a.eval o m (.one (.hfn f B D)) []:=by
 have H:=ahe (aG:=aG) (hr:=hr) v E;have h:=ahe (aG:=aG) (hr:=hr) n g;refine .calm (x:=.func (.func f) (x.map a.eval) (y.map a.eval)) aG (by simp[execOp,ho,Instr.makeFunc]) (df.one.2 (.hfn _ _ ?_ ?_ ?_ ?_))
 .have:=H.1;simpa using this
 .have:=h.1;simpa using this
 .intro j z u p q;exact H.2 j z u p (by rw[<-Array.toList_map,H_];exact q)
 intro j z u p q;exact h.2 j z u p (by rw[<-Array.toList_map,H_];exact q)
theorem apo{i:Nat}{E:dT}(ho:o.op=.extract x i)(n:dA x=some X)(g:ev A X=.tup E)(h:E[i]?=some v):iP P O a.eval o m v []:=by
 have H:=gv n hr;rw[g]at H;obtain⟨arr,e,hl,j⟩:=H;have f:i<arr.size:=by rw[hl];exact(cn.1 h).1
 exact .calm (x:=arr[i]) aG (by simp[execOp,ho,e,Instr.extract,f]) (.of1 (j i v _ h (by simp[f])))
theorem ajU{x:V}{v:Value}(h:B7 x=some n)(H:df m x v):∃A N,v=.slice A n N/\n<=N/\N<=maxLen:=by
 have g:=aG;have f:=hr;unfold B7 at h;split at h
 .cases h;exact⟨none,0,TX H,c3 _,cG _⟩
 .cases h;obtain⟨hp⟩:dU m _ v:=H;rename_i j;generalize y:(PV.sl j)=z at hp;cases hp<;>cases y
  .exact⟨_,_,rfl,cG _,by assumption⟩
  exact⟨_,_,rfl,by assumption,by assumption⟩
 .cases h;have u:dU m _ v:=H;cases u with
  |hsl A N hg hl hm h=>exact⟨_,_,rfl,hl,hm⟩
 cases h
theorem arI{c:Call}{t e:TypeId}(ho:o.op=.call c)(j:c.callee=.builtin .len)(h:c.args= #[x])(g:c.argTypes[0]?=some t)(f:P.underlying t=some (.slice e))
  (u:dA x=some X) (v:B7 (ev A X)=some n):iP P O a.eval o m (.one (.p (.int .i64 n))) []:=by
 obtain⟨y,N,H,_,_⟩:=ajU (aG:=aG) (hr:=hr) v (gv u hr);refine .calm aG ?_ (p_ (.int _ _));simp[execOp,ho,resolve,j,h,invoke,builtin,Builtin.len_,g,H,run_underlying f,goInt]
theorem azT{c:Call}{t:TypeId}{s:ByteArray}(ho:o.op=.call c)(j:c.callee=.builtin .len)(h:c.args= #[x])(g:c.argTypes[0]?=some t)(f:P.underlying t=some .string)
  (n:dA x=some X) (u:ev A X=.one (.p (.str s))):iP P O a.eval o m (.one (.p (.int .i64 s.size))) []:=by
 have H:=gv n hr;rw[u]at H;refine .calm aG ?_ (p_ (.int _ _));simp[execOp,ho,resolve,j,h,invoke,builtin,Builtin.len_,g,N8 H,run_underlying f,goInt]
theorem ayZ{c:Call}{y:Operand}{k u:IntKind}{p q:Int}(ho:o.op=.call c)(n:c.callee=.builtin .max)(h:c.args= #[x,y])
  (v:dA x=some X) (H:dA y=some y') (j:ev A X=.one (.p (.int k p))) (f:ev A y'=.one (.p (.int u q))):iP P O a.eval o m (.one (.p (.int k (if q>p then q else p)))) []:=by
 have g1:=gv v hr;have g:=gv H hr;rw[j]at g1;rw[f]at g;refine .calm aG ?_ (p_ (.int _ _));simp[execOp,ho,resolve,n,h,invoke,builtin,Builtin.max_,Builtin.max2,EI g1,EI g]
theorem ay1{c:Call}{y:Operand}{k u:IntKind}{p q:Int}(ho:o.op=.call c)(n:c.callee=.builtin .min)(h:c.args= #[x,y])
  (v:dA x=some X) (H:dA y=some y') (j:ev A X=.one (.p (.int k p))) (f:ev A y'=.one (.p (.int u q))):iP P O a.eval o m (.one (.p (.int k (if q<p then q else p)))) []:=by
 have g1:=gv v hr;have g:=gv H hr;rw[j]at g1;rw[f]at g;refine .calm aG ?_ (p_ (.int _ _));simp[execOp,ho,resolve,n,h,invoke,builtin,Builtin.min_,Builtin.min2,EI g1,EI g]
end
section
variable{g:Nat}
theorem azS:∀(u:mF) (aj:aN) (id:Nat),(app u aj id=aj id/\ ∀e∈u,e.1≠id)\/ ∃e∈u,e.1=id/\app u aj id=e.2:=by
 intro u
 induction u with
 |nil=>intro aj id;exact .inl ⟨rfl,λe h=>by simp at h⟩
 |cons x r m=>
  intro aj id;obtain⟨i,o⟩:=x;simp only[app];rcases m (dx aj i o) id with⟨g,j⟩|⟨e,H,g,j⟩
  .by_cases f:id=i
   .exact .inr ⟨(i,o),aP,f.symm,by rw[g];simp[cD,f]⟩
   refine .inl ⟨by rw[g];simp[cD,f],λe H=>?_⟩;rcases dr.1 H with rfl|H
   .exact λh=>f h.symm
   exact j e H
  exact .inr ⟨e,by simp[H],g,j⟩
theorem KF{α β γ:Type}{f:α->Option (β×aF)}{R:α->γ->Prop}{T:β->γ->Prop}{fG:aF->Prop}(A:∀a b,fG (a++b)->fG a/\fG b)
  (H:∀a b r v,f a=some (b,r)->R a v->fG r->T b v):∀ {M:List α}{y:List β}{r:aF}{E:List γ},iD f M=some (y,r)->fG r->
  (I E=I M/\ ∀(j:Nat) (x:α) (u:γ),M[j]?=some x->E[j]?=some u->R x u)->(I E=I y/\ ∀(j:Nat) (x:β) (u:γ),y[j]?=some x->E[j]?=some u->T x u):=by
 intro M
 induction M with
 |nil=>intro y r E h _ hr;simp[iD]at h;obtain⟨rfl,rfl⟩:=h;exact⟨hr.1,λj x u a=>by simp at a⟩
 |cons x t D=>
  intro y r E h hg hr;simp only[iD]at h;split at h
  .rename_i b p F q B m;cases h;obtain⟨g1,g⟩:=A _ _ hg;cases E with
   |nil=>simp at hr
   |cons v us=>
    obtain⟨hl,n⟩:=D (E:=us) m g ⟨by simpa using hr.1,λj x u a b=>hr.2 (j+1) x u (by simpa using a) (by simpa using b)⟩;refine⟨by simp[hl],λj z u a b=>?_⟩;cases j with
    |zero=>simp at a b;subst a b;exact H _ _ _ _ B (hr.2 0 x v rfl rfl) g1
    |succ j=>simp at a b;exact n j z u a b
  cases h
def r_(m:bJ)(own:Nat->Prop)(r:aF):Prop:=(∀b,own b->m.own b)/\ ∀id∈r,¬own (m.σ id)
theorem r_.app{own:Nat->Prop}{a b:aF}(h:r_ m own (a++b)):r_ m own a/\r_ m own b:=
 ⟨⟨h.1,λid H=>h.2 id (by simp[H])⟩,⟨h.1,λid H=>h.2 id (by simp[H])⟩⟩
theorem dn.less{w:World}{own:Nat->Prop}(h:∀b,Dq b->own b){x:PV}{v:Value}(hr:dn w own x v):dn w Dq x v:=hr.mono λc _ H=>⟨rfl,λho=>H (h c ho)⟩
theorem eK.less{w:World}{own:Nat->Prop}(h:∀b,Dq b->own b){x:b_}{v:List Value}(hr:eK w own x v):eK w Dq x v:=⟨hr.1,λj x u a b=>(hr.2 j x u a b).less h⟩
theorem anW{α:Type}{M:List α}{R:α->Value->Prop}(h:Pw R M E):∃f:Nat->Value,∀(j:Nat) (x:α),M[j]?=some x->E[j]?=some (f j)/\R x (f j):=by
 refine⟨λj=>E.getD j undef,λj x H=>?_⟩;have A:j<I E:=by rw[h.1];exact(cn.1 H).1
 have:E[j]?=some (E.getD j undef):=by simp[List.getD,ue A]
 exact⟨this,h.2 j x _ H this⟩
theorem abV{w:World}{own:Nat->Prop}{b o:Nat}{ps:b_}(n:w.heap[b]?=some (.cells F H Y))(hp:Pw (dn w own) ps (F.toList.drop o |>.take (I ps)))
  (ho:ps≠[]-> ¬own b):dn w own (.box ps) (.pointer (some ⟨b,o,none⟩)):=by
 obtain⟨f,m⟩:=anW hp;refine .box b o f ho (λj x g=>?_) λj x g=>(m j x g).2;have h:=(m j x g).1;rw[nE]at h;split at h
 .rw[PL n];simpa using h
 cases h
theorem afA{w:World}{own:Nat->Prop}{b o g:Nat}(u:w.heap[b]?=some (.cells F H Y))(D:∀e∈j,I e=g)
  (hl:I j<=N) (hm:N<=maxLen) (hp:Pw (dn w own) j.flatten ((F.toList.drop o).take (I j*g))) (ho:¬own b):dn w own (.sl j) (.slice (some ⟨b,o,none⟩) (I j) N):=by
 obtain⟨f,n⟩:=anW hp;refine .sl b o N g f (λ_=>ho) hl hm D (λv x m=>?_) λv x m=>(n v x m).2;have h:=(n v x m).1;rw[nE]at h;split at h
 .rw[PL u];simpa using h
 cases h
theorem Sy{α:Type}:∀ {j:List (List α)},(∀e∈j,I e=g)->∀(n:Nat),(j.drop n).flatten=j.flatten.drop (n*g):=by
 intro j
 induction j with
 |nil=>intro _ n;simp
 |cons e r f=>
  intro h n;cases n with
  |zero=>simp
  |succ n=>simp only[List.drop_succ_cons,mO];have H:=h e aP;rw[f (λx m=>h x (by simp[m])),Wo,Nd (by rw[H,kG];omega:I e<=(n+1)*g),iZ];congr 1;rw[H,kG];omega
theorem Jl{α:Type}:∀ {j:List (List α)},(∀e∈j,I e=g)->∀(n:Nat),(j.take n).flatten=j.flatten.take (n*g):=by
 intro j
 induction j with
 |nil=>intro _ n;simp
 |cons e r f=>
  intro h n;cases n with
  |zero=>simp
  |succ n=>simp only[Fo,mO];have H:=h e aP;rw[f (λx m=>h x (by simp[m])),LC,fx (by rw[H,kG];omega:I e<=(n+1)*g)];congr 1;congr 1;rw[H,kG];omega
theorem H7{α:Type}{R:α->Value->Prop}{len:Nat}{j:List (List α)}{F:List Value}(n:∀e∈j,I e=g)(h:Pw R j.flatten (F.take (I j*g)))(H:D+len<=I j):
  Pw R ((j.drop D).take len).flatten ((F.drop (D*g)).take (I ((j.drop D).take len)*g)):=by
 have Q:∀e∈j.drop D,I e=g:=λe u=>n e (v7 u);have f:I ((j.drop D).take len)=len:=by simp;omega
 rw[f,Jl Q,Sy n];have m:=(h.drop (D*g)).take (len*g);have v:((F.take (I j*g)).drop (D*g)).take (len*g)=(F.drop (D*g)).take (len*g):=by
  rw[List.drop_take,GZ];congr 1;have:D*g+len*g<=I j*g:=by rw[<-kG];exact pP _ H
  omega
 rw[v]at m;exact m
theorem abK{α:Type}{R:α->Value->Prop}:∀ {ps:List (List α)}{F:List Value},(∀e∈ps,I e=g)->I ps*g<=I F->
  (∀(j:Nat) (e:List α),ps[j]?=some e->Pw R e ((F.drop (j*g)).take g))->Pw R ps.flatten (F.take (I ps*g)):=by
 intro ps
 induction ps with
 |nil=>intro F _ _ _;exact⟨aP,λj x u a=>by simp at a⟩
 |cons e r v=>
  intro F h hl hp;simp only[dW,kG,I0]at hl;have m:=hp 0 e rfl;rw[zC,Lm]at m;have y:=v (F:=F.drop g) (λx H=>h x (by simp[H])) (by simp;omega) λj x H=>by have:=hp (j+1) x (by simpa using H);rw[kG,I0]at this;rw[UZ,N3 g];exact this
  have f:=m.append y;have n:F.take g++(F.drop g).take (I r*g)=F.take (I (e::r)*g):=by rw[dW,kG,I0,N3,List.take_add]
  rw[n]at f;exact f
theorem adC{α:Type}{R:α->Value->Prop}{i:Nat}{j:List (List α)}{e:List α}{F:List Value}(m:∀e∈j,I e=g)(h:Pw R j.flatten (F.take (I j*g)))(H:j[i]?=some e):
  Pw R e ((F.drop (i*g)).take g):=by
 have u:i<I j:=(cn.1 H).1;have f:=H7 (D:=i) (len:=1) m h J;have n:((j.drop i).take 1)=[e]:=by rw[Kz u];have:=(cn.1 H).2;simp[this]
 rw[n]at f
 simpa using f
theorem acj{α β:Type}{f:α->Option (β×aF)}:∀ {M:List α}{y:List β}{r:aF},iD f M=some (y,r)->I y=I M:=by
 intro M
 induction M with
 |nil=>intro y r h;simp[iD]at h;rw[h.1];rfl
 |cons x t g=>
  intro y r h;simp only[iD]at h;split at h
  .rename_i b p B q j E;cases h;simp[g E]
  cases h
theorem aa5{α β:Type}{f:α->Option (β×aF)}:∀ {M:List α}{Y:List β}{r:aF},iD f M=some (Y,r)->∀ {j:Nat}{y:β},Y[j]?=some y->∃x q,M[j]?=some x/\f x=some (y,q)/\ ∀i∈q,i∈r:=by
 intro M
 induction M with
 |nil=>intro Y r h j y H;simp[iD]at h;rw[h.1]at H;simp at H
 |cons x t u=>
  intro Y r h j y H;simp only[iD]at h;split at h
  .rename_i b p B q E z;cases h;cases j with
   |zero=>simp at H;subst H;exact⟨x,p,rfl,E,λi g=>by simp[g]⟩
   |succ j=>simp at H;obtain⟨X,Q,v,m,n⟩:=u z H;exact⟨X,Q,by simpa using v,m,λi g=>by simp[n i g]⟩
  cases h
theorem Jt(aG:dZ O m){own:Nat->Prop}:∀(n:Nat) {c:dI}{x:PV}{r:aF}{v:Value},snap m.aj n c=some (x,r)->dU m c v->r_ m own r->dn m.w own x v:=by
 intro n
 induction n with
 |zero=>intro c x r v h;simp[snap]at h
 |succ n ih=>
  intro c x r v h hr ae;have TE:∀ {B:eE}{ps:b_}{q:aF}{E:List Value},iD (snap m.aj n) B=some (ps,q)->r_ m own q->Pw (dU m) B E->Pw (dn m.w own) ps E:=λX Z h3=>KF (R:=dU m) (T:=dn m.w own) (fG:=r_ m own) (λa b h=>h.app) (λa b r v e1 e2 e3=>ih e1 e2 e3) X Z h3
  have TN:∀ {ps:b_}{E:List Value},eK m.w m.own ps E->Pw (dn m.w own) ps E:=λh=>eK.pw.1 (h.less ae.1);unfold snap at h;cases c with
  |p y=>simp at h;obtain⟨rfl,rfl⟩:=h;obtain⟨hp⟩:=hr;exact hp.norm.less ae.1
  |bm id aq D=>
   cases hr with
   |bm a hg ha=>
    simp only at h;split at h
    .rename_i g' B M;split at h
     .rename_i lB;split at h
      .rename_i ps q hq;cases h;have aW:(m.aj id).2=some (.var B):=by rw[M]
       have ha:=ha (by rw[M];exact lB) (by rw[aW];rfl);subst ha;obtain⟨F,H,hh,hc⟩:=aG.obj id _ aW;have hp:=TE hq ⟨ae.1,λi hi=>ae.2 i (by simp[hi])⟩ (eD.pw.1 hc);refine abV hh ?_ λ_=>ae.2 id aP;have X:=hp.drop D;have Z:(F.toList.drop D).take (I (ps.drop D))=F.toList.drop D:=fx (by have:=X.1;omega);rw[Z];exact X
      cases h
     cases h
    .rename_i g' ps M;split at h
     .rename_i lB;cases h;have aW:(m.aj id).2=some (.fvar ps):=by rw[M]
      have ha:=ha (by rw[M];exact lB) (by rw[aW];rfl);subst ha;obtain⟨F,H,Y,hh,hc,_⟩:=aG.obj id _ aW;refine abV hh ?_ λ_=>ae.2 id aP;have X:=(TN hc).drop D;have Z:(F.toList.drop D).take (I (ps.drop D))=F.toList.drop D:=fx (by have:=X.1;omega);rw[Z];exact X
     cases h
    cases h
  |eh id aq i D=>
   cases hr with
   |eh a hg ha=>
    have ab:∀(H g:Nat) (j:q_) (e:b_) (F:Array Value) (Y:Nat×Nat),m.w.heap[m.σ id]?=some (.cells F H Y)->(∀e∈j,I e=g)->I j*g<=F.size->
      eK m.w m.own j.flatten (F.toList.take (I j*g))->j[i]?=some e->a=⟨m.σ id,i*g+D,none⟩-> ¬own (m.σ id)->dn m.w own (.box (e.drop D)) (.pointer (some a)):=by
     intro H g j e F Y hh dj ac dX he zT dM;subst zT;have eh:=MW dj he;have hi:i<I j:=(cn.1 he).1;have lZ:(i+1)*g<=I j*g:=pP _ hi;have X:=(H7 (D:=i) (len:=1) dj (TN dX) J).drop D;have h0:((j.drop i).take 1)=[e]:=by rw[Kz hi];have:=(cn.1 he).2;simp[this]
     rw[h0]at X;simp only[mO,UG,rT,dW,fU,lq,I0]at X;refine abV hh ?_ λ_=>dM;have Z:(F.toList.drop (i*g+D)).take (I (e.drop D))=(((F.toList.drop (i*g)).take g).drop D):=by rw[List.drop_take,UZ,kV,eh]
     rw[Z];exact X
    simp only at h;split at h
    .rename_i g' H g j M;split at h
     .rename_i lB;simp only[e_,mY]at h;obtain⟨e,he,rfl,rfl⟩:=h;have aW:(m.aj id).2=some (.arr H g j):=by rw[M]
      obtain⟨F,hh,sC,dj,hl,hm,dQ,dX⟩:=aG.obj id _ aW;exact ab H g j e F _ hh dj (by rw[dQ];exact pP _ hl) dX he (ha g (by rw[M];exact lB) (by rw[M];rfl)) (ae.2 id aP)
     cases h
    .rename_i g' H g j M;split at h
     .rename_i lB;simp only[e_,mY]at h;obtain⟨e,he,rfl,rfl⟩:=h;have aW:(m.aj id).2=some (.qW H g j):=by rw[M]
      obtain⟨F,Y,hh,sC,dj,hl,hm,dQ,dX,_⟩:=aG.obj id _ aW;exact ab H g j e F _ hh dj (by rw[dQ];exact pP _ hl) dX he (ha g (by rw[M];exact lB) (by rw[M];rfl)) (ae.2 id aP)
     cases h
    cases h
  |hsl id aq z D len=>
   cases hr with
   |hsl a N hg hl hm ha=>
    have ab:∀(H g:Nat) (j:q_) (F:Array Value) (Y:Nat×Nat),m.w.heap[m.σ id]?=some (.cells F H Y)->(∀e∈j,I e=g)->Pw (dn m.w own) j.flatten (F.toList.take (I j*g))->
      D+len<=I j->(D=0\/0<len->a=⟨m.σ id,D*g,none⟩)-> ¬own (m.σ id)->dn m.w own (.sl ((j.drop D).take len)) (.slice (some a) len N):=by
     intro H g j F Y hh dj dX ap zT dM;by_cases ac:len=0
     .subst ac;simp only[Od];exact .BO _ _ (λh=>by cases h) hm
     have:=zT (.inr J);subst this;have am:I ((j.drop D).take len)=len:=by simp;omega
     have X:=afA (N:=N) (own:=own) (o:=D*g) (j:=(j.drop D).take len) hh (g:=g) (λe he=>dj e (v7 (wu he))) J hm (H7 dj dX ap) dM;rw[am]at X;exact X
    simp only at h;split at h
    .rename_i g' H g j M;split at h
     .rename_i hc;cases h;have aW:(m.aj id).2=some (.arr H g j):=by rw[M]
      obtain⟨F,hh,sC,dj,yM,xO,dQ,dX⟩:=aG.obj id _ aW;exact ab H g j F _ hh dj (TN dX) hc.2 (by obtain⟨_,Z,_⟩:=ha g (by rw[M];exact hc.1) (by rw[M];rfl);rename_i e1 _;exact e1▸Z) (ae.2 id aP)
     cases h
    .rename_i g' H g j M;split at h
     .rename_i hc;cases h;have aW:(m.aj id).2=some (.qW H g j):=by rw[M]
      obtain⟨F,Y,hh,sC,dj,yM,xO,dQ,dX,_⟩:=aG.obj id _ aW;exact ab H g j F _ hh dj (TN dX) hc.2 (by obtain⟨_,Z,_⟩:=ha g (by rw[M];exact hc.1) (by rw[M];rfl);exact Z) (ae.2 id aP)
     cases h
    .rename_i g' H g j M;split at h
     .rename_i hc;split at h
      .rename_i ps q hq;cases h;have aW:(m.aj id).2=some (.lN H g j):=by rw[M]
       obtain⟨F,hh,sC,dj,yM,xO,dQ,dX⟩:=aG.obj id _ aW;have ar:=H7 dj (eD.pw.1 dX) hc.2;have Qg:∀e∈(j.drop D).take len,I e=g:=λe he=>dj e (v7 (wu he));have am:I ((j.drop D).take len)=len:=by simp;omega
       have bk:I ps=len:=by rw[acj hq,am]
       have sv:len*g<=I (F.toList.drop (D*g)):=by
        simp;have X:D*g+len*g<=I j*g:=by rw[<-kG];exact pP _ hc.2
        have Z:I j*g<=m.κ id*g:=pP _ yM;omega
       have qX:∀(ad:Nat) (e:b_),ps[ad]?=some e->Pw (dn m.w own) e (((F.toList.drop (D*g)).drop (ad*g)).take g):=by intro ad e he;obtain⟨x,q',X,Z,h3⟩:=aa5 hq he;exact TE Z ⟨ae.1,λi hi=>ae.2 i (by simp[h3 i hi])⟩ (adC Qg ar X)
       have Ic:∀e∈ps,I e=g:=by
        intro e he;obtain⟨ad,hj⟩:=j9 he;have:=(qX ad e hj).1;have u5:ad<len:=by rw[<-bk];exact(cn.1 hj).1
        have X:(ad+1)*g<=len*g:=pP _ u5;rw[kG]at X;simp at this sv;omega
       by_cases ac:len=0
       .have:ps=[]:=agz J;subst this;subst ac;exact .BO _ _ (λh=>by cases h) hm
       obtain⟨_,Z,_⟩:=ha g (by rw[M];exact hc.1) (by rw[M];rfl);rename_i e1 _;have zT:=Z (.inr J);subst zT;have vP:=afA (N:=N) (own:=own) (o:=D*g) hh Ic J hm (abK Ic (by rw[bk];exact sv) qX) (ae.2 id aP);rw[bk]at vP;exact vP
      cases h
     cases h
    cases h
  |nL id aq=>
   cases hr with
   |nL r' hg ha=>
    have ab:∀(ag:Bool) (j:yJ) (L:Array MapEntry) (Q:Nat),m.w.heap[m.σ id]?=some (.map L Q)->L.size=I j->
      (∀(i:Nat) (q:PV) (v:b_) (e:MapEntry),j[i]?=some (q,v)->L[i]?=some e->dn m.w m.own q e.key/\ ∃aq:Array Value,(ag->e.val=.agg aq)/\(ag=false-> #[e.val]=aq)/\eK m.w m.own v aq.toList)->
      ¬own (m.σ id)->dn m.w own (.mp ag j) (.map (some (m.σ id))):=by
     intro ag j L Q hh hl hc dM;have av:∃G:Nat->Array Value,∀(i:Nat) (q:PV) (v:b_) (e:MapEntry),j[i]?=some (q,v)->L[i]?=some e->(ag->e.val=.agg (G i))/\(ag=false-> #[e.val]=G i)/\eK m.w m.own v (G i).toList:=by
      refine⟨λi=>match L[i]? with|some e=>(match e.val with| .agg aq=>if ag then aq else #[e.val]|v=> #[v])|none=> #[],λi q v e X Z=>?_⟩;obtain⟨_,aq,g1,g2,g3⟩:=hc i q v e X Z;simp only[Z];cases ag with
      |true=>have:=g1 rfl;simp[this];exact g3
      |false=>
       have:=g2 rfl;subst this;refine⟨(λh=>by cases h),(λ_=>?_),?_⟩
       .cases e.val<;>rfl
       cases hv:e.val<;>simp only[hv]at g3<;>exact g3
     obtain⟨G,hG⟩:=av;refine .mp (m.σ id) L Q G dM hh hl (λi q v e X Z=>((hc i q v e X Z).1).less ae.1) (λi q v e X Z=>?_) λi q v ad x u X Z h3=>?_
     .obtain⟨a1,a2,a3⟩:=hG i q v e X Z;exact⟨by have:=a3.1;simpa using this,a1,a2⟩
     have aw:i<L.size:=by rw[hl];exact(cn.1 X).1
     obtain⟨a1,a2,a3⟩:=hG i q v _ X (Array.getElem?_eq_getElem aw);exact(a3.2 ad x u Z (by rw[H_];exact h3)).less ae.1
    simp only at h;split at h
    .rename_i g' ag j M;split at h
     .rename_i lB;cases h;have aW:(m.aj id).2=some (.map ag j):=by rw[M]
      have ha:=ha (by rw[M];exact lB) (by rw[aW];rfl);subst ha;obtain⟨L,Q,hh,hl,hc⟩:=aG.obj id _ aW;exact ab ag j L Q hh hl hc (ae.2 id aP)
     cases h
    .rename_i g' ag j M;split at h
     .rename_i lB;cases h;have aW:(m.aj id).2=some (.fmap ag j):=by rw[M]
      have ha:=ha (by rw[M];exact lB) (by rw[aW];rfl);subst ha;obtain⟨L,Q,hh,hl,hc,_⟩:=aG.obj id _ aW;exact ab ag j L Q hh hl hc (ae.2 id aP)
     cases h
    cases h
  |hfn f a b=>
   cases hr with
   |hfn A az hA hB yP qY=>
    simp only at h;split at h
    .rename_i xa ra xb cO X Z;cases h;obtain⟨s1,s2⟩:=ae.app;have p1:=TE (E:=A.toList) X s1 ⟨by simpa using hA,λad x u p q=>yP ad x u p (by rw[<-H_];exact q)⟩;have p2:=TE (E:=az.toList) Z s2 ⟨by simpa using hB,λad x u p q=>qY ad x u p (by rw[<-H_];exact q)⟩;exact .fn A az (by have:=p1.1;simpa using this) (by have:=p2.1;simpa using this) (λad x u p q=>p1.2 ad x u p (by rw[H_];exact q)) λad x u p q=>p2.2 ad x u p (by rw[H_];exact q)
    cases h
end
theorem asp{aj:aN}{all:aF}:∀ {l:aF}{u:mF},uO aj all l=some u->
  (∀e∈u,e.1∈l/\ ∃x,y8 aj all e.1=some x/\e∈x)/\ ∀id∈l,∃x,y8 aj all id=some x/\ ∀e∈x,e∈u:=by
 intro l
 induction l with
 |nil=>intro u h;simp[uO]at h;subst h;exact⟨λe h=>by simp at h,λid h=>by simp at h⟩
 |cons i r y=>
  intro u h;simp only[uO]at h;split at h
  .rename_i a b f n;cases h;obtain⟨g1,v⟩:=y n;have A:∀e∈a,e.1=i:=by
    intro e H;unfold y8 at f;split at f<;>first
     |(cases f;simp at H;subst H;rfl)
     |(split at f
       .split at f
        .cases f;simp at H;subst H;rfl
        cases f
       cases f)
     |(cases f;simp at H)
     |cases f
   refine⟨λe H=>?_,λid g=>?_⟩
   .rcases iW.1 H with H|H
    .exact⟨by simp[A e H],a,by rw[A e H];exact f,H⟩
    obtain⟨j,m⟩:=g1 e H;exact⟨by simp[j],m⟩
   rcases dr.1 g with rfl|g
   .exact⟨a,f,λe H=>by simp[H]⟩
   obtain⟨x,j,m⟩:=v id g;exact⟨x,j,λe H=>by simp[m e H]⟩
  cases h
def LJ(aj:aN)(all:aF):f_->f_->Prop
 | .var B,.fvar ps=>∃r,iD (snap aj fA) B=some (ps,r)/\ ∀i∈r,i∈all
 | .arr H g j,.qW u f O=>u=H/\f=g/\O=j
 | .lN H g j,.qW u f ps=>u=H/\f=g/\ ∃r,iD (iD (snap aj fA)) j=some (ps,r)/\ ∀i∈r,i∈all
 | .map A j,.fmap v O=>v=A/\O=j
 |_,_=>False
theorem LJ.facts{aj:aN}{all:aF}{o O:f_}(h:LJ aj all o O)(g:Nat):o.iz/\O.iz=false/\nH (g,some O)=nH (g,some o):=by
 cases o<;>cases O<;>simp only[LJ]at h<;>first
  |exact h.elim
  |exact⟨rfl,rfl,rfl⟩
  |exact⟨rfl,rfl,by simp[nH,h.2.1]⟩
theorem aev{aj:aN}{all:aF}{id:Nat}{x:mF}(h:y8 aj all id=some x):
  (∃o,(aj id).2=some o/\o.iz=false/\x=[])\/ ∃o O,(aj id).2=some o/\LJ aj all o O/\x=[(id,((aj id).1,some O))]:=by
 unfold y8 at h;split at h
 .rename_i m B f;split at h
  .rename_i ps r u;split at h
   .rename_i E;cases h;refine .inr ⟨.var B,.fvar ps,by rw[f],⟨r,u,λi n=>?_⟩,by rw[f]⟩;have:=kr.1 E i n
    simpa using this
   cases h
  cases h
 .rename_i m H g j f;cases h;exact .inr ⟨.arr H g j,.qW H g j,by rw[f],⟨rfl,rfl,rfl⟩,by rw[f]⟩
 .rename_i m H g j f;split at h
  .rename_i ps r u;split at h
   .rename_i E;cases h;refine .inr ⟨.lN H g j,.qW H g ps,by rw[f],⟨rfl,rfl,r,u,λi n=>?_⟩,by rw[f]⟩;have:=kr.1 E i n
    simpa using this
   cases h
  cases h
 .rename_i m A j f;cases h;exact .inr ⟨.map A j,.fmap A j,by rw[f],⟨rfl,rfl⟩,by rw[f]⟩
 .cases h
 rename_i y D F v z N;cases h;cases f:aj id with
 |mk m o=>
  cases o with
  |none=>exact(N m f).elim
  |some o=>
   refine .inl ⟨o,rfl,?_,rfl⟩;cases o with
   |var B=>exact(D m B f).elim
   |arr H g j=>exact(F m H g j f).elim
   |lN H g j=>exact(v m H g j f).elim
   |map A j=>exact(z m A j f).elim
   |_=>rfl
def bJ.with(m:bJ)(u:mF):bJ:={m with aj:=app u m.aj}
theorem zo{ids:aF}(h:vq m.aj ids=some u)(id:Nat):
  ((m.with u).aj id=m.aj id/\(id∈ids->∃o,(m.aj id).2=some o/\o.iz=false))\/
  (id∈ids/\ ∃o O,(m.aj id).2=some o/\LJ m.aj ids o O/\(m.with u).aj id=((m.aj id).1,some O)):=by
 obtain⟨B,y⟩:=asp h;rcases azS u m.aj id with⟨E,j⟩|⟨e,A,E,j⟩
 .refine .inl ⟨E,λg=>?_⟩;obtain⟨x,z,H⟩:=y id g;rcases aev z with⟨o,a,b,_⟩|⟨o,O,a,b,c⟩
  .exact⟨o,a,b⟩
  exact(j (id,(m.aj id).fst,some O) (H _ (by rw[c];simp)) rfl).elim
 obtain⟨n,x,v,f⟩:=B e A;rw[E]at n v;rcases aev v with⟨o,a,b,c⟩|⟨o,O,a,b,c⟩
 .rw[c]at f;simp at f
 rw[c]at f;simp at f;refine .inr ⟨n,o,O,a,b,?_⟩;simp only[bJ.with];rw[j,f]
theorem adq{ids:aF}(h:vq m.aj ids=some u){c:Nat}(g:(m.with u).own c):m.own c:=by
 rcases g with g|⟨id,o,H,f,j⟩
 .exact .inl g
 rcases zo h id with⟨e,_⟩|⟨_,p,q,a,b,e⟩
 .rw[e]at H;exact .inr ⟨id,o,H,f,j⟩
 rw[e]at H;cases H;rw[(b.facts 0).2.1]at f;cases f
theorem aaF(aG:dZ O m){ids:aF}(h:vq m.aj ids=some u):r_ m (m.with u).own ids:=by
 refine⟨λb y=>adq h y,λid j g=>?_⟩;rcases zo h id with⟨e,z⟩|⟨_,o,A,a,b,e⟩
 .obtain⟨o,ho,hm⟩:=z j;exact(aG.obj id o ho).calm hm (adq h g)
 rcases g with g|⟨n,q,H,f,x⟩
 .exact(aG.eF id o a (b.facts 0).1).2 g
 by_cases v:n=id
 .subst v;rw[e]at H;cases H;rw[(b.facts 0).2.1]at f;cases f
 rcases zo h n with⟨E,_⟩|⟨_,F,Q,D,B,E⟩
 .rw[E]at H;exact v (aG.inj n id q o H f a (b.facts 0).1 x)
 rw[E]at H;cases H;rw[(B.facts 0).2.1]at f;cases f
theorem aa3{m:bJ}{ids:aF}{u:mF}(h:vq m.aj ids=some u):h_ m (m.with u) where
 os:=rfl
 tape:=rfl
 output:=rfl
 size:=c3 _
 keep _ _ _:=rfl
 iz c _ g:=by
  obtain⟨id,o,H,f,j⟩:=g;rcases zo h id with⟨e,_⟩|⟨_,p,q,a,b,e⟩
  .rw[e]at H;exact⟨id,o,H,f,j⟩
  rw[e]at H;cases H;rw[(b.facts 0).2.1]at f;cases f
 less c _ n g:=n (adq h g)
 gen id:=by rcases zo h id with⟨e,_⟩|⟨_,p,q,a,b,e⟩<;>rw[e]<;>exact c3 _
 ref id v ae:=by
  rcases zo h id with⟨e,_⟩|⟨_,p,q,a,b,e⟩
  .rw[e]at ae |-;exact⟨ae,rfl,rfl,rfl⟩
  rw[e]at ae |-;refine⟨by rw[a];rfl,rfl,rfl,?_⟩;have H:m.aj id=((m.aj id).1,some p):=by rw[<-a]
  rw[(b.facts (m.aj id).1).2.2,<-H]
theorem akm{m:bJ}(aG:dZ O m){ids:aF}{u:mF}(h:vq m.aj ids=some u):dZ O (m.with u) where
 os:=aG.os
 tape:=aG.tape
 output:=aG.output
 size:=aG.size
 base:=aG.base
 obj id o ho:=by
  have ez:=aa3 h;have A:=aaF aG h;rcases zo h id with⟨e,_⟩|⟨ab,p,q,a,b,e⟩
  .rw[e]at ho;exact(aG.obj id o ho).ev ez.zero rfl rfl rfl
  rw[e]at ho;cases ho;have M:=A.2 id ab;have T0:∀r:aF,(∀i∈r,i∈ids)->r_ m (m.with u).own r:=λr hr=>⟨A.1,λi Z=>A.2 i (hr i Z)⟩;have N:=aG.obj id p a;cases p<;>cases o<;>simp only[LJ]at b<;>first
   |exact b.elim
   |skip
  .obtain⟨r,B,hr⟩:=b;obtain⟨F,H,z,D⟩:=N;exact⟨F,H,(0,0),z,eK.pw.2 (KF (R:=dU m) (T:=dn m.w (m.with u).own) (fG:=r_ m (m.with u).own) (λa b h=>h.app) (λa b r v e1 X e3=>Jt aG _ e1 X e3) B (T0 r hr) (eD.pw.1 D)),M⟩
  .obtain⟨rfl,rfl,rfl⟩:=b;obtain⟨F,z,sC,dj,hl,hm,D,dX⟩:=N;exact⟨F,(0,0),z,sC,dj,hl,hm,D,dX.less A.1,M⟩
  .obtain⟨rfl,rfl,r,B,hr⟩:=b;obtain⟨F,z,sC,dj,hl,hm,D,dX⟩:=N;rename_i j _ g ps;have bk:I ps=I j:=acj B;have sv:I ps*g<=I F.toList:=by
    have n:I j*g<=m.κ id*g:=pP _ hl;simp;rw[bk];omega
   have qX:∀(Q:Nat) (e:b_),ps[Q]?=some e->Pw (dn m.w (m.with u).own) e ((F.toList.drop (Q*g)).take g):=by intro Q e E;obtain⟨x,q',f,n,h3⟩:=aa5 B E;exact KF (R:=dU m) (T:=dn m.w (m.with u).own) (fG:=r_ m (m.with u).own) (λa b h=>h.app) (λa b r v e1 X e3=>Jt aG _ e1 X e3) n (T0 q' λi Z=>hr i (h3 i Z)) (adC dj (eD.pw.1 dX) f)
   have Ic:∀e∈ps,I e=g:=by intro e E;obtain⟨Q,hj⟩:=j9 E;have:=(qX Q e hj).1;have u5:Q<I ps:=(cn.1 hj).1;have f:(Q+1)*g<=I ps*g:=pP _ u5;rw[kG]at f;simp at this sv;omega
   exact⟨F,(0,0),z,sC,Ic,by rw[bk];exact hl,hm,D,eK.pw.2 (abK Ic sv qX),M⟩
  obtain⟨rfl,rfl⟩:=b;obtain⟨L,y,z,hl,B⟩:=N;exact⟨L,y,z,hl,λi q v e f n=>let ⟨p,g,g1,g2,g3⟩:=B i q v e f n;⟨p.less A.1,g,g1,g2,g3.less A.1⟩,M⟩
 eF id o ho hm:=by
  rcases zo h id with⟨e,_⟩|⟨_,p,q,a,b,e⟩
  .rw[e]at ho;exact aG.eF id o ho hm
  rw[e]at ho;cases ho;rw[(b.facts 0).2.1]at hm;cases hm
 frlt:=aG.frlt
 inj id gi o o' f Y n m2 E:=by
  rcases zo h id with⟨e,_⟩|⟨_,p,q,a,b,e⟩
  .rcases zo h gi with⟨e',_⟩|⟨_,p',q',a',b',e'⟩
   .rw[e]at f;rw[e']at n;exact aG.inj id gi o o' f Y n m2 E
   rw[e']at n;cases n;rw[(b'.facts 0).2.1]at m2;cases m2
  rw[e]at f;cases f;rw[(b.facts 0).2.1]at Y;cases Y
section
variable{L:World}
def bJ.pL(m:bJ)(L:World)(s c k:Nat)(o:f_):bJ:=(m.later L (· =c)).install s c k o
section
variable {m:bJ} {L:World} {s c k:Nat} {o:f_} (hg:jP m.w L) (lQ:m.w.heap.size<=c) (lz:c<L.heap.size)
theorem T3(aG:dZ O m)(lQ:m.w.heap.size<=c):(m.pL L s c k o).fr=m.fr:=by
 funext x;simp only[bJ.pL,bJ.install,bJ.later];apply propext;constructor
 .rintro ⟨h|h,H⟩
  .exact h
  exact(H h).elim
 intro h;exact⟨.inl h,λe=>by have:=aG.frlt x h;omega⟩
include hg lQ
theorem RH:h_ m (m.pL L s c k o):=RN (OG hg λx h=>by subst h;exact lQ) (.inr rfl) (.inl lQ)
include lz
theorem Rn(aG:dZ O m)(ho:uF (m.pL L s c k o) s o):dZ O (m.pL L s c k o):=Sw (Q9 aG hg λx h=>by subst h;exact⟨lQ,lz⟩) (.inr rfl) (ny aG.size lQ) ho
end
theorem Lo{s c k:Nat}{o:f_}:(m.pL L s c k o).σ s=c:=by simp[bJ.pL,bJ.install,cD]
theorem xT{s c k:Nat}{o:f_}:(m.pL L s c k o).κ s=k:=by simp[bJ.pL,bJ.install,cD]
theorem aCo{s c k:Nat}{o:f_}:(m.pL L s c k o).aj=app [(s,((m.aj s).1+1,some o))] m.aj:=rfl
theorem az4{s c k:Nat}{o:f_}:(m.pL L s c k o).w=L:=rfl
theorem ab1{s c H:Nat}(f:n<=N)(hm:N<=maxLen):
  df (m.pL L s c N (.arr H g j)) (.one (.hsl s ((m.aj s).1+1) g 0 n)) (.slice (some ⟨c,0,none⟩) n N):=by
 refine df.one.2 (.hsl _ _ ?_ f hm λz u h=>?_)
 .simp[bJ.pL,bJ.install,bJ.later,cD]
 have:nH ((m.pL L s c N (.arr H g j)).aj s)=some g:=by simp[bJ.pL,bJ.install,cD,nH]
 rw[this]at h;cases h;refine⟨rfl,λ_=>?_,by rw[lq];exact xT.symm⟩;rw[Lo,zC]
theorem avg{s c H:Nat}{j:List eE}(f:n<=N)(hm:N<=maxLen):
  df (m.pL L s c N (.lN H g j)) (.one (.hsl s ((m.aj s).1+1) g 0 n)) (.slice (some ⟨c,0,none⟩) n N):=by
 refine df.one.2 (.hsl _ _ ?_ f hm λz u h=>?_)
 .simp[bJ.pL,bJ.install,bJ.later,cD]
 have:nH ((m.pL L s c N (.lN H g j)).aj s)=some g:=by simp[bJ.pL,bJ.install,cD,nH]
 rw[this]at h;cases h;refine⟨rfl,λ_=>?_,by rw[lq];exact xT.symm⟩;rw[Lo,zC]
theorem RB{t e:TypeId}{bytes:Nat}(h:DA P t=some (e,g,bytes,z)):
  ∃i v,P.underlying t=some (.slice e)/\P.info? e=some i/\i.size=g/\i.bytes=bytes/\(0<g/\0<bytes)/\i.zero=some v/\v.cells.size=g/\I z=g/\ ∀w own,eK w own z v.cells.toList:=by
 unfold DA at h;split at h
 .rename_i E m;split at h
  .rename_i i Z H A;split at h
   .rename_i n;cases h;obtain⟨v,i',f,j,u,x,y⟩:=On A;rw[H]at f;cases f;exact⟨i,v,m,H,rfl,rfl,n,j,u,x,y⟩
   cases h
  cases h
 cases h
theorem ark{R:PV->Value->Prop}{v:Array Value}(B:Pw R z v.toList)(L:v.size=g)(m:0<g):
  Pw R (List.replicate n z).flatten ((madeCells v (n*g)).toList.take (n*g)):=by
 have D:I z=g:=by have:=B.1;simp at this;omega
 have E:∀e∈List.replicate n z,I e=g:=λe f=>by rw[QE f];exact D
 have H:(madeCells v (n*g)).toList.length=n*g:=by simp[size_madeCells]
 rw[fx J];refine⟨by rw[H,MC E];simp,λj x u p q=>?_⟩;have y:j<n*g:=by have:=(cn.1 q).1;omega
 have h:j/g<n:=by rw[Nat.div_lt_iff_lt_mul m];exact y
 have T:j%g<g:=fk _ m;have f:(List.replicate n z)[j/g]?=some z:=by simp[h]
 have A:=Jc E f T;rw[show j/g*g+j%g=j by rw[Nl];exact We j g]at A;rw[A]at p;have F:(madeCells v (n*g)).toList[j]?=some v[j%g]! :=by unfold madeCells;simp[y,L]
 rw[F]at q;cases q;refine B.2 (j%g) x _ p ?_;have:j%g<v.size:=J;simp[this]
section
variable {m:bJ} {A:ct} {a:Act} {o:Oper} (aG:dZ O m) (hr:lI m A a.tmps)
include aG hr
theorem azV{t e:TypeId}{l c:Operand}{L:fu}{s bytes:Nat}(ho:o.op=.makeSlice t l c)(he:DA P t=some (e,g,bytes,z))(hl:dA l=some L)(hc:dA c=some c')
  (Z:tg (ev A L)=some n) (hm:tg (ev A c')=some n) (N:n*bytes<=pV):
  iP P O a.eval o m (.one (.hsl s ((m.aj s).1+1) g 0 n)) [(s,((m.aj s).1+1,some (.arr e g (List.replicate n z))))]:=by
 obtain⟨i,v,D,X,ae,E,⟨u,Pr⟩,R,ve,B,dX⟩:=RB he;obtain⟨y,Q⟩:=AW Z (gv hl hr);obtain⟨k2,H⟩:=AW hm (gv hc hr);unfold pV at N;have f:n<=maxLen:=by have:n<=n*bytes:=VP _ Pr;simp only[maxLen];omega
 have h:(n:Int)<=9223372036854775807:=by simp[maxLen]at f;omega
 have F8:(i.bytes:Int)*(n:Int)<=281474976710656:=by
  have:((i.bytes*n:Nat):Int)<=281474976710656:=by rw[E,Nl];omega
  rwa[Int.natCast_mul]at this
 have j:=run_make (P:=P) m.w t e i v D X R y k2 n n J (Int.le_refl _) F8 h;simp only[nP,ae]at j
 let M:=m.pL (m.w.alloc (.cells (madeCells v.cells (n*g)) e)) s m.w.heap.size n (.arr e g (List.replicate n z))
 have T:h_ m M:=RH (jP.alloc _ _) (c3 _);have F:uF M s (.arr e g (List.replicate n z)):=by
  refine⟨_,by rw[Lo];exact heap_alloc_new m.w _,u,λx Y=>?_,?_,?_,?_,?_⟩
  .rw[QE Y];exact B
  .rw[xT];simp
  .rw[xT];exact f
  .rw[xT,size_madeCells]
  rw[TH];exact eK.pw.2 (ark (eK.pw.1 (dX _ _)) ve u)
 refine⟨_,M,.inl ?_,Rn (jP.alloc _ _) (c3 _) aP aG F,T,T3 aG (c3 _),rfl,ab1 (c3 _) f⟩;simp[execOp,ho,Q,H,j];rfl
theorem an4{lo H:Option Operand}{l:Nat}{b:Bool}(f:AL lo=some Gu)(g:AL H=some CO)(hl:vh A 0 Gu=some l)(B:vh A n CO=some h)
  (F:l<=h) (D:h<=N):(Instr.sliceBounds b n N (lo.map a.eval) (H.map a.eval) none).run P m.w=.ok (l,h,N) m.w:=by
 have M:=aG;have R:(match H.map a.eval with|some v=>∃k,v=Value.int k (h:Int)|none=>h=n):=by
  cases H with
  |none=>simp[AL]at g;subst g;simp[vh]at B;simpa using B.symm
  |some x=>simp only[AL,e_]at g;obtain⟨y,z,rfl⟩:=g;exact AW B (gv z hr)
 have j:(match lo.map a.eval with|some v=>∃k,v=Value.int k (l:Int)|none=>l=0):=by
  cases lo with
  |none=>simp[AL]at f;subst f;simp[vh]at hl;simpa using hl.symm
  |some x=>simp only[AL,e_]at f;obtain⟨y,z,rfl⟩:=f;exact AW hl (gv z hr)
 generalize lo.map a.eval=L at j;generalize H.map a.eval=E at R;have lQ:(h:Int)<=(N:Int):=J;have lz:(l:Int)<=(h:Int):=J;cases L with
 |none=>
  simp only at j;subst j;cases E with
  |none=>simp only at R;subst R;simp[Instr.sliceBounds]
  |some v=>obtain⟨k,rfl⟩:=R;simp[Instr.sliceBounds,Instr.sliceBound,asIntOf,D]
 |some u=>
  obtain⟨k,rfl⟩:=j;cases E with
  |none=>simp only at R;subst R;simp[Instr.sliceBounds,Instr.sliceBound,asIntOf,F]
  |some v=>obtain⟨O,rfl⟩:=R;simp[Instr.sliceBounds,Instr.sliceBound,asIntOf,D,F]
theorem aAy{t:TypeId}{lo f:Option Operand}{s:ByteArray}{l:Nat}(ho:o.op=.slice t x lo f none)(u:P.underlying t=some .string)
  (B:dA x=some X) (y:AL lo=some Gu) (g:AL f=some CO) (ae:ev A X=.one (.p (.str s))) (hl:vh A 0 Gu=some l) (j:vh A s.size CO=some h) (z:l<=h) (n:h<=s.size):
  iP P O a.eval o m (.one (.p (.str (s.extract l h)))) []:=by
 have H:=gv B hr;rw[ae]at H;have v:=an4 (P:=P) (O:=O) (aG:=aG) (hr:=hr) (b:=false) y g hl j z n;refine .calm aG ?_ (p_ (.str _));simp[execOp,ho,N8 H,Instr.sliceAt,Instr.slice,run_underlying u,v]
theorem aAY{t e:TypeId}{lo hi:Option Operand}{l:Nat}(ho:o.op=.slice t x lo hi none)(ht:P.underlying t=some (.slice e))(dj:yx P e=some g)
  (hx:dA x=some X) (ik:AL lo=some Gu) (HU:AL hi=some CO) (M:B7 (ev A X)=some n) (hl:vh A 0 Gu=some l) (hh:vh A n CO=some h)
  (H:Gs (ev A X) g l h=.done v [] []):iP P O a.eval o m v []:=by
 have L:=gv hx hr;unfold Gs at H;split at H
 .cases H
 rename_i HX;have HX:l<=h:=by simpa using HX
 have run:∀(u:Option Addr) (N:Nat),a.eval x=.slice u n N->h<=N->(execOp a.eval o).run P m.w=.ok (.value (.slice (if N=l then u else u.map (·.add (l*g))) (h-l) (N-l))) m.w:=by intro u N kK sv;have Q:=an4 (P:=P) (O:=O) (aG:=aG) (hr:=hr) (b:=true) ik HU hl hh HX sv;simp[execOp,ho,kK,Instr.sliceAt,Instr.slice,run_underlying ht,Q,Sd dj]
 obtain⟨ar,ap,hsl,ab,oY⟩:=ajU (aG:=aG) (hr:=hr) M L;split at H
 .rename_i y;split at H
  .rename_i h0;cases H;rw[y]at L;have:=TX L;subst h0;have R:l=0:=J;subst R;rw[this]at hsl;cases hsl;refine .calm aG (run none 0 this (c3 _)) ?_;simp;exact p_ .nils
  cases H
 .rename_i j y;split at H
  .rename_i Y;cases H;rw[y]at L M;simp[B7]at M;subst M;obtain⟨hp⟩:dU m _ (a.eval x):=L;generalize Q:a.eval x=b at hp;generalize jC:(PV.sl j)=pv at hp;cases hp<;>cases jC
   .rename_i u N Ml hm;simp at Y;have ac:h=0:=J;subst ac;have R:l=0:=J;subst R;refine .calm aG (run u N Q (cG _)) (p_ ?_);simp only[List.drop_nil,List.take_nil,Nat.sub_zero];refine .BO _ _ (λh=>?_) hm;split at h
    .exact Ml h
    cases u with
    |none=>exact Ml rfl
    |some u=>simp at h
   rename_i b' o' N Z f hm nX yM F qy Gm;refine .calm aG (run _ N Q J) (p_ ?_);by_cases aw:l=h
   .subst aw;simp only[zB,Od];refine .BO _ _ (λh=>?_) J;split at h<;>simp at h
   have T:I ((j.drop l).take (h-l))=h-l:=by simp;omega
   have mv:j≠[]:=λe=>by subst e;simp at Y;omega
   have ag:Z=g:=by obtain⟨e0,r0,rfl⟩:=List.exists_cons_of_ne_nil mv;have g1:=F e0 aP;have g2:=Y.2;simp[ao]at g2;omega
   subst ag;rw[aC J];simp only[rm,Addr.add_lit];have jv:=dn.sl (w:=m.w) (own:=m.own) (es:=(j.drop l).take (h-l)) b' (o'+l*Z) (N-l) Z (λaq=>f (l*Z+aq)) (λaO=>nX λe0=>aO ?_) J J (λe y=>F e (v7 (wu y))) ?_ ?_
   .rw[T]at jv;exact jv
   .apply agz;rw[Jl (λe y=>F e (v7 y)),Sy F,e0];simp
   .intro aq z B;rw[Jl (λe y=>F e (v7 y)),Sy F,nE]at B;split at B
    .rw[BY]at B;rw[FN];exact qy _ z B
    cases B
   intro aq z B;rw[Jl (λe y=>F e (v7 y)),Sy F,nE]at B;split at B
   .rw[BY]at B;exact Gm _ z B
   cases B
  cases H
 .rename_i id av z D len y;split at H
  .rename_i Y;cases H;rw[y]at L M;simp[B7]at M;subst M;have fi:dU m _ (a.eval x):=L;generalize Q:a.eval x=b at fi;cases fi with
   |hsl u N hg Ab hm PH=>
    refine .calm aG (run _ N Q J) ?_;have am:∃E,(if N=l then some u else(some u).map (·.add (l*g)))=some E/\(N≠l->E=u.add (l*g))/\(l=0->E=u):=by
     by_cases cS:N=l
     .exact⟨u,by simp[cS],λh=>(h cS).elim,λ_=>rfl⟩
     exact⟨u.add (l*g),by simp[cS],λ_=>rfl,λh=>by subst h;simp[Addr.add]⟩
    obtain⟨E,e1,e2,e3⟩:=am;rw[e1];refine df.one.2 (.hsl _ _ hg J J λs g1 g2=>?_);obtain⟨f1,f2,f3⟩:=PH s g1 g2;refine⟨f1,λEA=>?_,?_⟩
    .by_cases R:l=0
     .subst R;rw[e3 rfl,vu];refine f2 ?_;rcases EA with h|h
      .exact .inl J
      exact .inr J
     have:0<h-l:=by rcases EA with h|h<;>omega
     rw[e2 J,f2 (.inr J),Addr.add_lit,f1,Y.2,kG]
    omega
  cases H
 cases H
end
end
theorem aAJ(D:Nat):∀(E:List Value) (i:Nat) (cells:Array Value),D+i+I E<=cells.size->
  ((E.zipIdx i).foldl (λB (x:Value×Nat)=>B.setIfInBounds (D+x.2) x.1) cells).toList=gn cells.toList (D+i) E:=by
 intro E
 induction E with
 |nil=>intro i cells _;simp[gn]
 |cons v r g=>
  intro i cells h;simp only[dW]at h;simp only[List.zipIdx_cons,sh];rw[g (i+1) _ (by simp;omega)];unfold gn;rw[Array.toList_setIfInBounds];have A:D+i<I cells.toList:=by simp;omega
  have f:(cells.toList.set (D+i) v).take (D+(i+1))=cells.toList.take (D+i)++[v]:=by rw[show D+(i+1)=(D+i)+1 by omega,WE (by simpa using A),List.take_set,Sa (by simp;omega)];simp
  have j:(cells.toList.set (D+i) v).drop (D+(i+1)+I r)=cells.toList.drop (D+(i+1)+I r):=by rw[List.drop_set_of_lt J]
  rw[f,j];simp only[dW,sn,List.singleton_append];congr 3;omega
theorem an9{i:Nat}{v:Value}{R:List (Nat×Value)}{cells:Array Value}(hp:place i=some (D,n))(H:v.cells.size=n)(h:D+n<=cells.size):
  ∃m,Instr.fill place cells ((i,v)::R)=Instr.fill place m R/\m.toList=gn cells.toList D v.cells.toList:=by
 refine⟨v.cells.zipIdx.foldl (λB (x:Value×Nat)=>B.setIfInBounds (D+x.2) x.1) cells,?_,?_⟩
 .simp only[Instr.fill,hp];rw[aC (by simp[H];omega)]
 rw[<-Wv,Array.toList_zipIdx,aAJ D v.cells.toList 0 cells (by simp;omega)];simp
theorem aiS{A:ct}{a:Act}(hr:lI m A a.tmps){z:Nat}:∀ {ps:List (Nat×Operand)}{qs:List (Nat×Nat×fu)}{rs:List (Nat×eE)}{B:eE}{cells:Array Value},
  EU place z ps=some qs->BE A qs=some rs->eD m B cells.toList->I B=z->
  ∃M,Instr.fill place cells (ps.map λx=>(x.1,a.eval x.2))=some M/\eD m (Fx B rs) M.toList:=by
 intro ps
 induction ps with
 |nil=>intro qs rs B cells H h f hl;simp[EU]at H;subst H;simp[BE]at h;subst h;exact⟨cells,by simp[Instr.fill],by simpa [Fx]using f⟩
 |cons p t Q=>
  intro qs rs B cells H h f hl;obtain⟨i,x⟩:=p;simp only[EU]at H;split at H
  .rename_i D n X q T N E;split at H
   .rename_i j;cases H;simp only[BE]at h;split at h
    .rename_i Hu Y v L;split at h
     .rename_i g;cases h;have u:=abv v (gv N hr);have R:(a.eval x).cells.size=n:=by have:=u.1;simp at this;omega
      have y:=f.1;simp at y;obtain⟨M,O,F⟩:=an9 (R:=t.map λx=>(x.1,a.eval x.2)) T R (by omega:D+n<=cells.size);simp only[eJ,Fx];rw[O];refine Q E L ?_ (by rw[RP J];exact hl);rw[F];exact eD.pw.2 ((eD.pw.1 f).gn (eD.pw.1 u) D)
     cases h
    cases h
   cases H
  cases H
theorem awl{α β:Type}{f:α->Sem β}{g:α->β}{w:World}:∀ {l:List α},(∀x∈l,(f x).run P w=.ok (g x) w)->(l.mapM f).run P w=.ok (l.map g) w:=by
 intro l
 induction l with
 |nil=>intro _;simp
 |cons x r j=>intro h;simp[List.mapM_cons,h x aP,j λy H=>h y (by simp[H])]
theorem aru{A:ct}{a:Act}(hr:lI m A a.tmps)(y:∀k,place k=some (k*g,g)):∀ {ps:List (Nat×Operand)}{as:uv}{j:List eE}{k:Nat}{done:List Value}{cells:Array Value},
  Kg k ps=some as->DC A g as=some j->I done=k*g->cells.toList.take (k*g)=done->cells.size=(k+I as)*g->
  ∃M,Instr.fill place cells (ps.map λx=>(x.1,a.eval x.2))=some M/\ ∃E,M.toList=done++E/\eD m j.flatten E/\(∀e∈j,I e=g)/\I j=I as:=by
 intro ps
 induction ps with
 |nil=>intro as j k done cells H h v z ae;simp[Kg]at H;subst H;simp[DC]at h;subst h;refine⟨cells,by simp[Instr.fill],[],?_,⟨aP,λab x u p=>by simp at p⟩,λe n=>by simp at n,rfl⟩;rw[<-z,rT,fx (by simp at ae |-;omega)]
 |cons p t ih=>
  intro as j k done cells H h v z ae;obtain⟨i,x⟩:=p;simp only[Kg]at H;split at H
  .rename_i a' q hx R;split at H
   .rename_i B;cases H;subst B;simp only[DC]at h;split at h
    .rename_i Hu q' Q Z;split at h
     .rename_i f;cases h;have O:=abv Q (gv hx hr);have D:(a.eval x).cells.size=g:=by have:=O.1;simp at this;omega
      simp only[dW]at ae;have X:cells.size=i*g+g+I q*g:=by rw[ae,kG,kG];omega
      obtain⟨M,e1,L⟩:=an9 (R:=t.map λx=>(x.1,a.eval x.2)) (y i) D (by omega:i*g+g<=cells.size);have N:I M.toList=cells.size:=by rw[L,RP (by simp;omega)];simp
      obtain⟨F,T,E,f2,f3,f4,Y⟩:=ih (k:=i+1) (done:=done++(a.eval x).cells.toList) (cells:=M) R Z (by simp[v,D,kG]) (by rw[L];unfold gn;rw[z,QF (by simp[v,D,kG])];rw[fx (by simp[v,D,kG])]) (by simp at N;rw[N,X,kG,kG];omega)
      simp only[eJ];rw[e1];refine⟨F,T,(a.eval x).cells.toList++E,by rw[f2,sn],?_,?_,by simp[Y]⟩
      .simp only[mO];exact eD.pw.2 ((eD.pw.1 O).append (eD.pw.1 f3))
      intro e n;rcases dr.1 n with rfl|n
      .exact f
      exact f4 e n
     cases h
    cases h
   cases H
  cases H
theorem aCv:∀ {j:List eE}{qs:q_}{E:List Value}{g:Nat},F4 j=some qs->(∀e∈j,I e=g)->eD m j.flatten E->eK m.w m.own qs.flatten E/\(∀e∈qs,I e=g)/\I qs=I j:=by
 intro j
 induction j with
 |nil=>intro qs E g h _ H;simp[F4]at h;subst h;exact⟨⟨H.1,λX x u p=>by simp at p⟩,λe M=>by simp at M,rfl⟩
 |cons e r N=>
  intro qs E g h D H;simp only[F4]at h;split at h
  .rename_i v T B n;cases h;simp only[mO]at H;have eh:=D e aP;have lQ:=(eD.pw.1 H).take (I e);have lz:=(eD.pw.1 H).drop (I e);simp only[Kq,UM]at lQ lz;have g1:=Nb B (eD.pw.2 lQ);obtain⟨A,O,F⟩:=N n (λx L=>D x (by simp[L])) (eD.pw.2 lz);have z:I v=g:=by
    have Q:=g1.1;have R:=lQ.1;omega
   refine⟨?_,?_,by simp[F]⟩
   .have:=(eK.pw.1 g1).append (eK.pw.1 A);rw[nu]at this;exact eK.pw.2 this
   intro y f;rcases dr.1 f with rfl|f
   .exact z
   exact O y f
  cases h
section
variable {m:bJ} {A:ct} {a:Act} {o:Oper} (aG:dZ O m) (hr:lI m A a.tmps)
include aG hr
theorem aAp{t:TypeId}{ps:Array (Nat×Operand)}{fs:Array Field}(ho:o.op=.build t ps)(n:P.underlying t=some (.struct fs))(Q:BM P t=some z)
  (E:fs.all (λf=>(P.info? f.type).isSome)) (hp:EU (λi=>(fs[i]?).map λf=>(f.offset,P.cellsOf f.type)) (I z) ps.toList=some qs) (D:BE A qs=some rs):
  iP P O a.eval o m (.agg (Fx (z.map .p) rs)) []:=by
 obtain⟨v,i,B,h,ae,hl,L⟩:=On Q;obtain⟨M,F,j⟩:=aiS hr hp D (L m.w m.own).GP aP;refine .calm (x:=.agg M) aG ?_ (df.agg.2 ⟨_,rfl,j⟩);have u:(fs.mapM (λf=>do pure (f.offset,<-sizeOf f.type):Field->Sem (Nat×Nat))).run P m.w=.ok (fs.map λf=>(f.offset,P.cellsOf f.type)) m.w:=by
  rw[Array.mapM_eq_mapM_toList];have:=awl (P:=P) (f:=(λf=>do pure (f.offset,<-sizeOf f.type):Field->Sem (Nat×Nat))) (g:=λf=>(f.offset,P.cellsOf f.type)) (w:=m.w) (l:=fs.toList) (λf H=>by
   have:=Array.all_eq_true_iff_forall_mem.1 E f (by simpa using H);cases y:P.info? f.type with
   |none=>rw[y]at this;cases this
   |some i=>simp[sizeOf,typeInfo,y,Program.cellsOf])
  rw[Sem.run_map,this];simp only[Result.andThen_ok];congr 1;apply Array.ext';simp
 have N:Instr.fill (λx=>(fs.map λf=>(f.offset,P.cellsOf f.type))[x]?) v.cells (ps.map λx=>(x.1,a.eval x.2)).toList=some M:=by simpa using F
 simp only[execOp,ho,Instr.build,zeroValue,typeInfo,Sem.run_bind,run_program,Result.andThen_ok,B,h,Sem.run_pure,run_underlying n,u,N]
theorem azE{t e:TypeId}{ps:Array (Nat×Operand)}{i:TypeInfo}(ho:o.op=.build t ps)(g:P.underlying t=some (.array n e))(E:BM P t=some z)
  (H:P.info? e=some i) (hp:EU (λk=>some (k*i.size,i.size)) (I z) ps.toList=some qs) (u:BE A qs=some rs):
  iP P O a.eval o m (.agg (Fx (z.map .p) rs)) []:=by
 obtain⟨v,i',j,h,ae,hl,D⟩:=On E;obtain⟨M,y,f⟩:=aiS hr hp u (D m.w m.own).GP aP;refine .calm (x:=.agg M) aG ?_ (df.agg.2 ⟨_,rfl,f⟩);have B:Instr.fill (λk=>some (k*i.size,i.size)) v.cells (ps.map λx=>(x.1,a.eval x.2)).toList=some M:=by simpa using y
 simp only[execOp,ho,Instr.build,zeroValue,sizeOf,typeInfo,Sem.run_bind,run_program,Result.andThen_ok,j,H,h,Sem.run_pure,run_underlying g,B]
theorem aDB{t e:TypeId}{bytes s:Nat}{ps:Array (Nat×Operand)}{as:uv}{j:List eE}(ho:o.op=.buildSlice t n ps)(he:DA P t=some (e,g,bytes,z))(hp:Kg 0 ps.toList=some as)
  (hn:I as=n) (ab:n*g<=16777216) (hv:DC A g as=some j):
  (∀qs,F4 j=some qs->iP P O a.eval o m (.one (.hsl s ((m.aj s).1+1) g 0 (I j))) [(s,((m.aj s).1+1,some (.arr e g qs)))])/\
  iP P O a.eval o m (.one (.hsl s ((m.aj s).1+1) g 0 (I j))) [(s,((m.aj s).1+1,some (.lN e g j)))]:=by
 obtain⟨i,v,T,Y,ae,hb,⟨D,_⟩,CQ,ve,s8,dX⟩:=RB he;subst hn;obtain⟨M,f1,E,L,Q,N,F⟩:=aru (place:=λk=>some (k*g,g)) (done:=[]) (cells:=(Array.range (I as*g)).map ((if I as*g=0 then #[]else v.cells)[· %(if I as*g=0 then #[]else v.cells).size]!)) hr (λ_=>rfl) hp hv aP aP aP;have X:(execOp a.eval o).run P m.w=.ok (.value (.slice (some ⟨m.w.heap.size,0,none⟩) (I j) (I j))) (m.w.alloc (.cells M e)):=by
  have B:Instr.fill (λk=>some (k*g,g)) ((Array.range (I as*g)).map ((if I as*g=0 then #[]else v.cells)[· %(if I as*g=0 then #[]else v.cells).size]!)) (ps.map λx=>(x.1,a.eval x.2)).toList=some M:=by simpa using f1
  have ac:¬(16777216<I as*g):=J;have f:¬(I as*g>2 ^ 24):=J;by_cases H:I as*g=0
  .simp only[aD H]at B;simp only[execOp,ho,Instr.buildSlice,Sem.run_bind,run_underlying T,Result.andThen_ok,sizeOf,typeInfo,run_program,Y,Sem.run_pure,ae,aC f,aD H,B,newRow,run_newObj,F];rfl
  simp only[aC H]at B;simp only[execOp,ho,Instr.buildSlice,Sem.run_bind,run_underlying T,Result.andThen_ok,sizeOf,typeInfo,run_program,Y,Sem.run_pure,ae,aC f,aC H,zeroValue,CQ,B,newRow,run_newObj,F];rfl
 simp at L;have R:M.size=I j*g:=by
  have h1:=Q.1;rw[MC N]at h1;have:I M.toList=I E:=by rw[L]
  simp at this;omega
 have y:I j<=maxLen:=by have:I j<=I j*g:=VP _ D;simp only[maxLen];rw[F]at this |-;omega
 have u:M.toList.take (I j*g)=E:=by rw[fx (by simp;omega),L]
 constructor
 .intro qs hq;have h:h_ m (m.pL (m.w.alloc (.cells M e)) s m.w.heap.size (I j) (.arr e g qs)):=RH (jP.alloc _ _) (c3 _);obtain⟨g1,g2,Z⟩:=aCv hq N (Q.ev h.zero);refine⟨_,m.pL (m.w.alloc (.cells M e)) s m.w.heap.size (I j) (.arr e g qs),.inl X,Rn (jP.alloc _ _) (c3 _) aP aG ?_,h,T3 aG (c3 _),rfl,ab1 (c3 _) y⟩;exact⟨M,by rw[Lo];exact heap_alloc_new m.w _,D,g2,by rw[xT,Z];exact c3 _,by rw[xT];exact y,by rw[xT,R],by rw[Z,u];exact g1⟩
 have h:h_ m (m.pL (m.w.alloc (.cells M e)) s m.w.heap.size (I j) (.lN e g j)):=RH (jP.alloc _ _) (c3 _);refine⟨_,m.pL (m.w.alloc (.cells M e)) s m.w.heap.size (I j) (.lN e g j),.inl X,Rn (jP.alloc _ _) (c3 _) aP aG ?_,h,T3 aG (c3 _),rfl,avg (c3 _) y⟩;exact⟨M,by rw[Lo];exact heap_alloc_new m.w _,D,N,by rw[xT];exact c3 _,by rw[xT];exact y,by rw[xT,R],by rw[u];exact Q.ev h.zero⟩
end
theorem R9(a b:mF)(aj:aN):app (a++b) aj=app b (app a aj):=by
 induction a generalizing aj with
 |nil=>rfl
 |cons x r f=>obtain⟨i,o⟩:=x;simp only[Bv,app];exact f _
theorem apc(H:∀c,FY c->m.fr c){c:Nat}(h:({m with fr:=FY}:bJ).own c):m.own c:=by
 rcases h with h|h
 .exact .inl (H c h)
 exact .inr h
theorem ahI(H:∀c,FY c->m.fr c):h_ m {m with fr:=FY}:=
 ⟨rfl,rfl,rfl,c3 _,λ_ _ _=>rfl,λ_ _ h=>h,λ_ _ f h=>f (apc H h),λ_=>c3 _,λ_ _ h=>⟨h,rfl,rfl,rfl⟩⟩
theorem asx{m:bJ}{FY:Nat->Prop}(h:dZ O m)(H:∀c,FY c->m.fr c):dZ O {m with fr:=FY} where
 os:=h.os
 tape:=h.tape
 output:=h.output
 size:=h.size
 base:=h.base
 obj id o ho:=(h.obj id o ho).ev (ahI H).zero rfl rfl rfl
 eF id o ho hm:=⟨(h.eF id o ho hm).1,λf=>(h.eF id o ho hm).2 (H _ f)⟩
 frlt c f:=h.frlt c (H c f)
 inj:=h.inj
theorem arY{m:bJ}{L:World}{c:Nat}(h:dZ O m)(g:m.fr c)(y:O.heap.size<=c)(v:L.os=m.w.os)(n:L.tape=m.w.tape)(u:L.output=m.w.output)(ae:L.heap.size=m.w.heap.size)
  (f:∀x,x≠c->L.heap[x]?=m.w.heap[x]?):dZ O {m with w:=L} where
 os:=v.trans h.os
 tape:=n.trans h.tape
 output:=u.trans h.output
 size:=ny h.size (E3 ae.symm)
 base x H:=(f x J).trans (h.base x H)
 obj id o ho:=by
  have A:m.σ id≠c:=by
   intro e;cases hm:o.iz with
   |true=>exact(h.eF id o ho hm).2 (e▸g)
   |false=>exact(h.obj id o ho).calm hm (.inl (e▸g))
  exact(h.obj id o ho).ev (m':={m with w:=L}) ⟨λx _ j=>⟨f x λe=>j (.inl (e▸g)),j⟩,λ_=>c3 _,λ_ _ h=>⟨h,rfl,rfl,rfl⟩⟩ rfl rfl (f _ A)
 eF:=h.eF
 frlt x H:=by rw[show({m with w:=L}:bJ).w.heap.size=m.w.heap.size from ae];exact h.frlt x H
 inj:=h.inj
theorem aex(aG:dZ O m){own:Nat->Prop}{x:V}{v:Value}{new:q_}{rd fr:aF}(h:js m.aj x=some (new,rd,fr))(hv:df m x v)(ae:r_ m own fr):
  ∃ax cx,v=.slice ax (I new) cx/\(∀z,rZ x=some z->∀e∈new,I e=z)/\
   (new≠[]->∃b o A,ax=some ⟨b,o,none⟩/\Pw (dn m.w own) new.flatten A/\ ∀(Q:Nat) (u:Value),A[Q]?=some u->m.w.cell? ⟨b,o+Q,none⟩=some u):=by
 have row:∀(c D g len:Nat) (F:Array Value) (H:TypeId) (Y:Nat×Nat) (ps:q_),m.w.heap[c]?=some (.cells F H Y)->Pw (dn m.w own) ps.flatten ((F.toList.drop (D*g)).take (I ps*g))->
   ∃b o A,some (⟨c,D*g,none⟩:Addr)=some ⟨b,o,none⟩/\Pw (dn m.w own) ps.flatten A/\ ∀(Q:Nat) (u:Value),A[Q]?=some u->m.w.cell? ⟨b,o+Q,none⟩=some u:=by
  intro c D g len F H Y ps hh hp;refine⟨c,D*g,_,rfl,hp,λQ u E=>?_⟩;rw[nE]at E;split at E
  .rw[PL hh];simpa using E
  cases E
 unfold js at h;split at h
 .cases h;exact⟨none,0,TX hv,λz hz=>by simp[rZ]at hz,λh=>(h rfl).elim⟩
 .rename_i j;cases h;obtain⟨hp⟩:dU m _ v:=hv;generalize jC:(PV.sl new)=pv at hp;cases hp<;>cases jC
  .exact⟨_,_,rfl,λz hz=>by simp[rZ]at hz,λh=>(h rfl).elim⟩
  rename_i b o N g f hm ho hl Z qy Gm;refine⟨_,_,rfl,λz hz=>by simp[rZ]at hz,λ_=>⟨b,o,(List.range (I new.flatten)).map f,rfl,⟨aP,λQ y u p q=>?_⟩,λQ u q=>?_⟩⟩
  .have E:Q<I new.flatten:=(cn.1 p).1;rw[ig,qI E]at q;simp at q;subst q;exact(Gm Q y p).less ae.1
  have E:Q<I new.flatten:=by have:=(cn.1 q).1;simpa using this
  rw[ig,qI E]at q;simp at q;subst q;exact qy Q _ (ue E)
 .rename_i id ag z D len;have fi:dU m _ v:=hv;cases fi with
  |hsl ad N hg hl hm PH=>
   split at h
   .rename_i g' H g j L;split at h
    .rename_i X;cases h;have aW:(m.aj id).2=some (.arr H g j):=by rw[L]
     obtain⟨F,hh,sC,Z,jY,sx,dQ,dX⟩:=aG.obj id _ aW;obtain⟨e1,e2,e3⟩:=PH g (by rw[L];exact X.1) (by rw[L];rfl);have M:I ((j.drop D).take len)=len:=by simp;omega
     refine⟨some ad,N,by rw[M],λz' vZ e B=>?_,λaO=>?_⟩
     .simp[rZ]at vZ;subst vZ;rw[<-e1];exact Z e (v7 (wu B))
     have:0<len:=by
      cases len with
      |zero=>simp at aO
      |succ n=>omega
     rw[e2 (.inr this)];exact row (m.σ id) D g len F H _ _ hh (H7 Z (eK.pw.1 (dX.less ae.1)) X.2)
    cases h
   .rename_i g' H g j L;split at h
    .rename_i X;cases h;have aW:(m.aj id).2=some (.qW H g j):=by rw[L]
     obtain⟨F,Y,hh,sC,Z,jY,sx,dQ,dX,_⟩:=aG.obj id _ aW;obtain⟨e1,e2,e3⟩:=PH g (by rw[L];exact X.1) (by rw[L];rfl);have M:I ((j.drop D).take len)=len:=by simp;omega
     refine⟨some ad,N,by rw[M],λz' vZ e B=>?_,λaO=>?_⟩
     .simp[rZ]at vZ;subst vZ;rw[<-e1];exact Z e (v7 (wu B))
     have:0<len:=by
      cases len with
      |zero=>simp at aO
      |succ n=>omega
     rw[e2 (.inr this)];exact row (m.σ id) D g len F H _ _ hh (H7 Z (eK.pw.1 (dX.less ae.1)) X.2)
    cases h
   .rename_i g' H g j L;split at h
    .rename_i X;split at h
     .rename_i ps q hq;cases h;have aW:(m.aj id).2=some (.lN H g j):=by rw[L]
      obtain⟨F,hh,sC,Z,jY,sx,dQ,dX⟩:=aG.obj id _ aW;obtain⟨e1,e2,e3⟩:=PH g (by rw[L];exact X.1) (by rw[L];rfl);have ac:I ((j.drop D).take len)=len:=by simp;omega
      have bk:I new=len:=by rw[acj hq,ac]
      have ab:=H7 Z (eD.pw.1 dX) X.2;have Qg:∀e∈(j.drop D).take len,I e=g:=λe B=>Z e (v7 (wu B));have sv:len*g<=I (F.toList.drop (D*g)):=by
       simp;have h1:D*g+len*g<=I j*g:=by rw[<-kG];exact pP _ X.2
       have h2:I j*g<=m.κ id*g:=pP _ jY;omega
      have qX:∀(Q:Nat) (e:b_),new[Q]?=some e->Pw (dn m.w own) e (((F.toList.drop (D*g)).drop (Q*g)).take g):=by intro Q e B;obtain⟨x,q',h1,h2,h3⟩:=aa5 hq B;exact KF (R:=dU m) (T:=dn m.w own) (fG:=r_ m own) (λa b h=>h.app) (λa b r v e1 e2 e3=>Jt aG _ e1 e2 e3) h2 ⟨ae.1,λi hi=>ae.2 i (h3 i hi)⟩ (adC Qg ab h1)
      have Ic:∀e∈new,I e=g:=by
       intro e B;obtain⟨Q,E⟩:=j9 B;have:=(qX Q e E).1;have u5:Q<len:=by rw[<-bk];exact(cn.1 E).1
       have h1:(Q+1)*g<=len*g:=pP _ u5;rw[kG]at h1;simp at this sv;omega
      refine⟨some ad,N,by rw[bk],λz' vZ e B=>?_,λaO=>?_⟩
      .simp[rZ]at vZ;subst vZ;rw[<-e1];exact Ic e B
      have:0<len:=by rw[<-bk];exact jH.2 aO
      rw[e2 (.inr this)];refine row (m.σ id) D g len F H _ _ hh ?_;rw[bk];have:=abK Ic (by rw[bk];exact sv) qX;rw[bk]at this;exact this
     cases h
    cases h
   split at h
   .rename_i vS;cases h;exact⟨some ad,N,by rw[vS];rfl,λz' _ e B=>by simp at B,λh=>(h rfl).elim⟩
   cases h
 cases h
theorem ayR{w:World}{own:Nat->Prop}(h:Pw (dn w own) M E):∀u∈E,u.oneCell':=by
 intro v f;obtain⟨j,H⟩:=j9 f;have A:j<I M:=by rw[<-h.1];exact(cn.1 H).1
 exact(h.2 j _ v (ue A) H).QT
theorem QO{ids:aF}(h:vq m.aj ids=some u)(id:Nat):(app u m.aj id).1=(m.aj id).1:=by
 rcases zo h id with⟨e,_⟩|⟨_,p,q,a,b,e⟩
 .exact congrArg Prod.fst e
 have:=congrArg Prod.fst e;exact this
theorem ayM{m:bJ}{id:Nat}{o:f_}{L:World}(ho:(m.aj id).2=some o)(hm:o.iz)(g:L.os=m.w.os)(H:L.tape=m.w.tape)(f:L.output=m.w.output)(ae:L.heap.size=m.w.heap.size)
  (h:∀x,x≠m.σ id->L.heap[x]?=m.w.heap[x]?):h_ m {m.qV id with w:=L} where
 os:=g
 tape:=H
 output:=f
 size:=E3 ae.symm
 keep c _ j:=h c λe=>j ⟨id,o,ho,hm,e.symm⟩
 iz:=(Jk ho hm).iz
 less:=(Jk ho hm).less
 gen:=(Jk ho hm).gen
 ref:=(Jk ho hm).ref
theorem aCX{m:bJ}(aG:dZ O m){id s:Nat}{n:f_}{F:Array Value}{H:Nat}{f:q_}(ho:(m.aj id).2=some n)(hm:n.iz)(Z:0<g)(T:L.os=m.w.os)(B:L.tape=m.w.tape)(D:L.output=m.w.output)(ae:L.heap.size=m.w.heap.size)
  (N:∀x,x≠m.σ id->L.heap[x]?=m.w.heap[x]?) (Y:L.heap[m.σ id]?=some (.cells F H (0,0))) (dj:∀e∈f,I e=g) (hl:I f<=m.κ id) (y:m.κ id<=maxLen) (X:F.size=m.κ id*g)
  (hp:Pw (dn m.w m.own) f.flatten (F.toList.take (I f*g))):
  ∃M,M.w=L/\dZ O M/\h_ m M/\M.fr=m.fr/\M.aj=dx (dx m.aj id ((m.aj id).1,none)) s ((m.aj s).1+1,some (.arr H g f))/\
   df M (.one (.hsl s ((m.aj s).1+1) g 0 (I f))) (.slice (some ⟨m.σ id,0,none⟩) (I f) (m.κ id)):=by
 have TL:=ayM ho hm T B D ae N;have Q:=(aG.eF id n ho hm).1;have A:dZ O {m.qV id with w:=L}:=arY (m:=m.qV id) (amH aG ho hm) (.inr rfl) Q T B D ae N;have R:h_ m ((({m.qV id with w:=L}:bJ)).install s (m.σ id) (m.κ id) (.arr H g f)):=RN TL (.inr rfl) (.inr ⟨id,n,ho,hm,rfl⟩);have E:((({m.qV id with w:=L}:bJ)).aj s).1=(m.aj s).1:=by
  simp only[bJ.qV,cD];split
  .rename_i e;subst e;rfl
  rfl
 have u:((({m.qV id with w:=L}:bJ)).install s (m.σ id) (m.κ id) (.arr H g f)).σ s=m.σ id:=by simp[bJ.install,cD]
 have j:((({m.qV id with w:=L}:bJ)).install s (m.σ id) (m.κ id) (.arr H g f)).κ s=m.κ id:=by simp[bJ.install,cD]
 refine⟨_,rfl,Sw A (.inr rfl) Q ?_,R,?_,?_,?_⟩
 .exact⟨F,by rw[u];exact Y,Z,dj,by rw[j];exact hl,by rw[j];exact y,by rw[j];exact X,eK.ev R.zero (eK.pw.2 hp)⟩
 .funext x;simp only[bJ.install,bJ.qV];apply propext;constructor
  .rintro ⟨h|h,v⟩
   .exact h
   exact(v h).elim
  intro h;exact⟨.inl h,λe=>(aG.eF id n ho hm).2 (e▸h)⟩
 .simp only[bJ.install];rw[E];rfl
 refine df.one.2 (.hsl _ _ ?_ hl y λz h1 v=>?_)
 .simp only[bJ.install,cD,if_true];rw[E];exact c3 _
 have:nH (((({m.qV id with w:=L}:bJ)).install s (m.σ id) (m.κ id) (.arr H g f)).aj s)=some g:=by simp[bJ.install,cD,nH]
 rw[this]at v;cases v;exact⟨rfl,λ_=>by rw[u,zC],by rw[lq];exact j.symm⟩
theorem aAS{P:Program}(w:World)(t H e:TypeId)(i:TypeInfo)(z:Value)(m:P.underlying t=some (.slice e))(x:P.info? e=some i)(B:i.zero=some z)
  (A:Option Addr) (a:Addr) (n c:Nat) (N:List Value) (hl:I N=n*i.size) (g:∀j v,N[j]?=some v->w.cell? (a.add j)=some v)
  (u:0<n) (f:(n:Int)<=9223372036854775807) (y:n*i.bytes<=281474976710656):
  (Builtin.append_ #[t,t] H #[.slice A 0 0,.slice (some a) n c]).run P w=
   .ok (.slice (some ⟨w.heap.size,0,none⟩) n (grownCap w n 0 e)) (w.drew.alloc (.cells (N.toArray++Builtin.zeroCells z.cells (grownCap w n 0 e-n)) e)):=by
 cases A with
 |none=>exact run_append_nil w t H e i z m x B a n c N hl g u f y
 |some b=>have h:=run_append_grow (P:=P) w t H e i z m x B b 0 0 [] aP (λj v h=>by simp at h) a n c N hl g J (by simpa using f) (by rw[lq,nextslicecap_zero u];exact y);rw[lq]at h;rw[h];simp
theorem akh{n M:bJ}{a:Act}{o:Oper}{B:mF}{s e f:Nat}{cells:List Value}{Z:Value}{ch:World}
  (F:(execOp a.eval o).run P m.w=.ok (.value (.slice (some ⟨M.w.heap.size,0,none⟩) (I j) f)) ch)
  (u:M.w.drew.alloc (.cells (cells.toArray++Builtin.zeroCells Z.cells (f-I j)) e)=ch)
  (A:dZ O M) (N:h_ m M) (Q:M.fr=m.fr) (X:0<g) (Kc:Z.cells.size=g) (D:∀x∈j,I x=g) (z:I cells=I j*g)
  (he:h_ n M) (R:Pw (dn n.w n.own) j.flatten cells) (h:I j<=f) (v:f<=maxLen) (E:(M.aj s).1=(m.aj s).1) (Y:app B m.aj=M.aj):
  iP P O a.eval o m (.one (.hsl s ((m.aj s).1+1) g 0 (I j))) (B++[(s,((m.aj s).1+1,some (.arr e g j)))]):=by
 have hg:jP M.w ch:=by rw[<-u];exact(jP.drew _).trans (jP.alloc _ _)
 have T:h_ M (M.pL ch s M.w.heap.size f (.arr e g j)):=RH hg (c3 _);have y:=ab1 (m:=M) (L:=ch) (s:=s) (c:=M.w.heap.size) (H:=e) (g:=g) (j:=j) h v;rw[E]at y;refine⟨_,M.pL ch s M.w.heap.size f (.arr e g j),.inl F,Rn hg (c3 _) (by rw[<-u];simp) A ⟨_,by rw[Lo,az4,<-u];exact heap_alloc_new M.w.drew _,X,D,by rw[xT];exact h,by rw[xT];exact v,?_,?_⟩,N.trans T,(T3 A (c3 _)).trans Q,by rw[R9,aCo,Y,E],y⟩
 .rw[xT,Array.size_append,List.size_toArray,size_zeroCells,Kc,z,<-kG];congr 1;omega
 rw[Array.toList_append,List.toList_toArray,<-z,Kq];exact eK.ev (he.trans T).zero (eK.pw.2 R)
section
variable {m:bJ} {A:ct} {a:Act} {o:Oper} (aG:dZ O m) (hr:lI m A a.tmps)
include aG hr
theorem axy{c:Call}{d:Operand}{d':fu}{t e:TypeId}{s bytes:Nat}{rd:aF}(ho:o.op=.call c)(hc:c.callee=.builtin .append)(a8:c.args= #[d,x])(oU:c.argTypes= #[t,t])
  (he:DA P t=some (e,g,bytes,z)) (hd:dA d=some d') (Z:dA x=some X) (H:af m.aj s e g bytes (ev A d') (ev A X)=.done v u rd):iP P O a.eval o m v u:=by
 obtain⟨i,zv,ht,hi,ae,hb,⟨jS,Pr⟩,CQ,Kc,s8,dX⟩:=RB he;have uB:=gv hd hr;have nZ:=gv Z hr;have run:∀(y:Value) (L:World),(Builtin.append_ #[t,t] o.type #[a.eval d,a.eval x]).run P m.w=.ok y L->(execOp a.eval o).run P m.w=.ok (.value y) L:=by intro y L h;simp[execOp,ho,resolve,hc,a8,oU,invoke,builtin,h]
 unfold af at H;split at H
 .cases H
 rename_i new be fr eh;split at H
 .cases H
 rename_i a1;split at H
 .cases H
 rename_i E uZ;have yO:=akm aG uZ;have CI:=aa3 uZ;have rO:=aaF aG uZ;obtain⟨ax,cx,EC,a4,H0⟩:=aex aG eh nZ rO;have ef:∀e∈new,I e=g:=by
  have:rZ (ev A X)=some g\/ao g new:=Classical.not_not.1 a1;rcases this with h|h
  .exact a4 g h
  intro e he;have:=kr.1 h e he
  simpa using this
 have ac:I new.flatten=I new*g:=MC ef;have nz:∀ {az},a.eval d=.slice az 0 0-> ¬I new=0->I new*bytes<=pV->iP P O a.eval o m (.one (.hsl s ((m.aj s).1+1) g 0 (I new))) (E++[(s,((m.aj s).1+1,some (.arr e g new)))]):=by
  intro az R M nY;have aO:new≠[]:=λh=>M (by simp[h]);obtain⟨b,D,n,rfl,Y,JA⟩:=H0 aO;unfold pV at nY;have uA:I n=I new*i.size:=by rw[Y.1,ac,ae]
  have TR:I new<=maxLen/\(I new:Int)<=9223372036854775807:=by have:I new<=I new*bytes:=VP _ Pr;simp only[maxLen];omega
  have sB:=aAS (P:=P) m.w t o.type e i zv ht hi CQ az ⟨b,D,none⟩ (I new) cx n uA (λav v T=>by rw[Addr.add_lit];exact JA av v T) J TR.2 (by rw[hb];omega);exact akh (M:=m.with E) (run _ _ (by rw[R,EC];exact sB)) rfl yO CI rfl jS Kc ef (uA.trans (by rw[ae])) (h_.refl _) Y (grownCap_ge m.w (I new) 0 e) (grownCap_le_maxLen m.w (I new) 0 e TR.1) (QO uZ s) rfl
 split at H
 ·
  rename_i Px;rw[Px]at uB;have R:=TX uB;split at H
  .rename_i M;cases H;refine⟨.slice none 0 0,m.with u,.inl (run _ _ ?_),yO,CI,rfl,rfl,p_ .nils⟩;rw[R,EC,M];cases ax<;>simp[Builtin.append_,run_underlying ht,sizeOf,typeInfo,hi,Builtin.lenOf,Builtin.firstCells,loadCells,loadCellsFrom,bJ.with]
  rename_i M;split at H
  .rename_i nY;cases H;exact nz R M nY
  cases H
 ·
  rename_i Px;rw[Px]at uB;obtain⟨az,R⟩:=aAj uB;split at H
  .cases H
  rename_i M;split at H
  .rename_i nY;cases H;exact nz R M nY
  cases H
 .rename_i id bd NW len Px;rw[Px]at uB;split at H
  .rename_i g' Q f j nI;split at H
   .rename_i uW;obtain⟨lB,rfl,rfl,ag,nY,a5⟩:=uW;cases H;have aL:id∉fr:=by simpa using a5
    have ba:(m.with E).aj id=m.aj id:=by
     rcases zo uZ id with⟨e,_⟩|⟨nK,_⟩
     .exact e
     exact(aL nK).elim
    have aW:((m.with E).aj id).2=some (.arr Q f j):=by rw[ba,nI]
    obtain⟨F,hh,_,dj,hl,u7,dQ,a7⟩:=yO.obj id _ aW;have Mb:dU m _ (a.eval d):=uB;generalize R:a.eval d=dv at Mb;cases Mb with
    |hsl ad N hg Ab JM PI=>
     obtain⟨f1,f2,f3⟩:=PI f (by rw[nI];exact lB) (by rw[nI];rfl);have sv:N=m.κ id:=by rw[<-f3,lq]
     have ss:=f2 (.inl rfl);rw[zC]at ss;subst ss;unfold pV at nY;have Eo:=QO uZ s;have bc:=QO uZ id;have JK:len*f<=I j*f:=pP _ ag;have jY:I j*f<=m.κ id*f:=pP _ hl;have ab:Pw (dn (m.with E).w (m.with E).own) (j.take len).flatten (F.toList.take (len*f)):=by rw[Jl dj];have h1:=(eK.pw.1 a7).take (len*f);rw[GZ,vm JK]at h1;exact h1
     have a6:I (j.take len)=len:=by simp;omega
     have aq:∀x∈j.take len++new,I x=f:=by
      intro x Z;rcases iW.1 Z with Z|Z
      .exact dj x (wu Z)
      exact ef x Z
     have a9:len+I new<=(len+I new)*bytes:=VP _ Pr;have yU:∀q:agQ,app (E++[(id,(bd,none)),q]) m.aj=dx (dx (m.with E).aj id (((m.with E).aj id).1,none)) q.1 q.2:=by intro q;rw[R9];simp only[app];rw[ba,nI,lB];rfl
     have HW:I (j.take len++new)=len+I new:=by rw[gT,a6]
     by_cases B:len+I new<=N
     ·
      have ar:∀(L:World) (FI:Array Value),(execOp a.eval o).run P m.w=.ok (.value (.slice (some ⟨m.σ id,0,none⟩) (len+I new) N)) L->L.os=m.w.os->L.tape=m.w.tape->L.output=m.w.output->L.heap.size=m.w.heap.size->
        (∀x,x≠m.σ id->L.heap[x]?=m.w.heap[x]?)->L.heap[m.σ id]?=some (.cells FI Q (0,0))->FI.size=F.size->Pw (dn (m.with E).w (m.with E).own) (j.take len++new).flatten (FI.toList.take ((len+I new)*f))->
        iP P O a.eval o m (.one (.hsl s ((m.aj s).1+1) f 0 (len+I new))) (E++[(id,(bd,none)),(s,((m.aj s).1+1,some (.arr Q f (j.take len++new))))]):=by
       intro L FI sB q1 q2 q3 q4 q5 q6 q7 q8;obtain⟨m',e1,e2,e3,e4,e5,e6⟩:=aCX (s:=s) yO aW rfl jS q1 q2 q3 q4 q5 q6 aq (by rw[HW];rw[sv]at B;exact B) u7 (by rw[q7];exact dQ) (by rw[HW];exact q8);rw[HW]at e6;have aw:((m.with E).aj s).1=(m.aj s).1:=Eo;rw[aw]at e6 e5;refine⟨_,m',.inl (by rw[e1];exact sB),e2,CI.trans e3,e4,by rw[e5,yU],?_⟩;rw[sv];exact e6
      by_cases M:new=[]
      .subst M;have aM:(execOp a.eval o).run P m.w=.ok (.value (.slice (some ⟨m.σ id,0,none⟩) (len+I ([]:q_)) N)) m.w:=by
        apply run;rw[R,EC];have a2:len<=N:=Ab;cases ax<;>simp[Builtin.append_,run_underlying ht,sizeOf,typeInfo,hi,Builtin.lenOf,Builtin.firstCells,loadCells,loadCellsFrom,a2,storeCells]
       exact ar m.w F aM rfl rfl rfl rfl (λ_ _=>rfl) hh rfl (by simpa using ab)
      obtain⟨b,D,n,rfl,Y,JA⟩:=H0 M;have uA:I n=I new*i.size:=by rw[Y.1,ac,ae]
      have HQ:len*i.size+I n<=F.size:=by rw[uA,ae,dQ,<-kG];rw[sv]at B;exact pP _ B
      have sB:=run_append_room (P:=P) m.w t o.type Q i ht hi (m.σ id) len N F hh ⟨b,D,none⟩ (I new) cx n uA (λav v T=>by rw[Addr.add_lit];exact JA av v T) (ayR Y) B HQ;have a3:(execOp a.eval o).run P m.w=.ok (.value (.slice (some ⟨m.σ id,0,none⟩) (len+I new) N)) _:=run _ _ (by rw[R,EC];exact sB);have a0:len*i.size<=F.size:=ny (Nat.le_add_right _ _) HQ;refine ar _ _ a3 ?_ ?_ ?_ ?_ (λx Z=>setRow_other m.w (m.σ id) x _ Z) (Q8 hh) ?_ ?_
      .rfl
      .rfl
      .rfl
      .exact setRow_size m.w _ _
      .rw[List.size_toArray,gT,gT,gX,kV,Uw];omega
      have h1:=ab.append Y;rw[<-EP]at h1;have:(F.toList.take (len*i.size)++n++F.toList.drop (len*i.size+I n)).take ((len+I new)*f)=F.toList.take (len*f)++n:=by
       rw[ae];have cS:I (F.toList.take (len*f))=len*f:=by rw[gX,Uw];rw[ae]at a0;omega
       have TD:I (F.toList.take (len*f)++n)=(len+I new)*f:=by rw[gT,cS,uA,ae,kG]
       rw[QF (E3 TD.symm)];exact fx (E3 TD)
      simp only[List.toList_toArray]at this |-;rw[this];exact h1
     ·
      have M:new≠[]:=λe=>by subst e;simp at B;omega
      obtain⟨b,D,n,rfl,Y,JA⟩:=H0 M;have uA:I n=I new*i.size:=by rw[Y.1,ac,ae]
      have am:I (F.toList.take (len*f))=len*i.size:=by rw[ae,gX,Uw];have bb:F.size=m.κ id*f:=dQ;omega
      have sB:=run_append_grow (P:=P) m.w t o.type Q i zv ht hi CQ ⟨m.σ id,0,none⟩ len N (F.toList.take (len*f)) am (λav v T=>by
        rw[Addr.add_lit,lq];have:(m.w.cell? ⟨m.σ id,av,none⟩)=F[av]? :=PL hh;rw[this];rw[nE]at T;split at T
        .simpa using T
        cases T) ⟨b,D,none⟩ (I new) cx n uA (λav v T=>by rw[Addr.add_lit];exact JA av v T) J J (growslice_fits J (by rw[hb];omega))
      have TR:len+I new<=maxLen:=by simp only[maxLen];omega
      have h1:=ab.append Y;rw[<-EP]at h1;have ap:h_ (m.with E) {(m.with E).qV id with fr:=m.fr}:=(Jk aW rfl).trans (ahI (λc hc=>.inl hc));have bY:=akh (P:=P) (O:=O) (a:=a) (o:=o) (B:=E++[(id,(bd,none))]) (s:=s) (e:=Q) (m:=m) (M:={(m.with E).qV id with fr:=m.fr}) (j:=j.take len++new) (Z:=zv) (cells:=F.toList.take (len*f)++n) (f:=grownCap m.w (len+I new) N Q) (ch:=m.w.drew.alloc (.cells ((F.toList.take (len*f)++n).toArray++Builtin.zeroCells zv.cells (grownCap m.w (len+I new) N Q-(len+I new))) Q))
       (by rw[HW,<-List.append_toArray];exact run _ _ (by rw[R,EC];exact sB)) (by rw[HW];rfl) (asx (FY:=m.fr) (amH yO aW rfl) (λc hc=>.inl hc)) (CI.trans ap) rfl jS Kc aq (by rw[gT,am,uA,ae,HW,kG]) ap h1 (by rw[HW];exact grownCap_ge m.w (len+I new) N Q) (grownCap_le_maxLen m.w (len+I new) N Q TR)
       (by simp only[bJ.qV,cD];split<;>first|exact Eo|(rename_i e';subst e';exact Eo)) (by rw[R9];show dx _ id (bd,none)=dx _ id (((m.with E).aj id).1,none);rw[ba,nI,lB];rfl)
      rw[HW,sn]at bY;exact bY
   cases H
  cases H
 cases H
end
end Go.Abs
