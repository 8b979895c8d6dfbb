/-
  An abstract machine for the code of the model.
-/
import Derived.KernelRfl
import Derived.Calls
import Derived.WalkKit
set_option linter.all false
open List renaming length->I
namespace Go.Abs
variable{f n j ln E O h:Nat}{x:Operand}{M:World}{CR FK:Nat->Prop}{F us:List Value}{H:Array Value}{L:TypeId}{Y:Nat×Nat}
abbrev BX:=List UInt8
abbrev gD:=List Bool
abbrev cL:=List Int
abbrev aG:=List Nat
abbrev eT:=Option Nat
abbrev qO:=List (Nat×Nat)
abbrev jd:=List (Int×Int)
theorem J{p:Prop}(h:p:=by omega):p:=h
theorem aa{p:Prop}(h:p:=by decide):p:=h
theorem aE{p:Prop}(h:p:=by simp):p:=h
theorem ah{p:Prop}(h:p:=by kernel_rfl):p:=h
def aC:=@if_neg.{1}
def aD:=@if_pos.{1}
def a7:=@List.mem_of_getElem?.{0}
def bt:=@List.getElem?_eq_some_iff.{0}
def bZ:=@Nat.zero_le
theorem cg:type_of% @List.length_map.{0,0}:=@List.length_map.{0,0}
def ch:=@List.mem_map.{0,0}
def cJ:=@Nat.le_refl
def cP:=@Bool.and_eq_true
theorem cT:type_of% @Nat.mod_lt:=@Nat.mod_lt
def c7:=@List.mem_cons.{0}
def c8:=@beq_iff_eq.{0}
def dD:=@List.getD_eq_getElem?_getD.{0}
def eD:=@List.not_mem_nil.{0}
theorem eJ:type_of% @Nat.mod_eq_of_lt:=@Nat.mod_eq_of_lt
def eZ:=@List.map_cons.{0,0}
def fz:=@List.getElem?_map.{0,0}
def fB:=@List.nil_append.{0}
def fE:=@Bool.false_eq_true
def fK:=@List.getElem?_of_mem.{0}
theorem fP:type_of% @List.length_cons.{0}:=@List.length_cons.{0}
def fL:=@List.map_append.{0,0}
def gb:=@List.length_append.{0}
theorem ga:type_of% @List.length_nil.{0}:=@List.length_nil.{0}
theorem f_:type_of% @List.take_of_length_le.{0}:=@List.take_of_length_le.{0}
def gn:=@List.mem_append.{0}
def gy:=@List.length_pos_iff.{0}
def gA:=@List.mem_range
theorem gv:type_of% @Option.map_eq_some_iff.{0,0}:=@Option.map_eq_some_iff.{0,0}
def ic:=@List.append_nil.{0}
def h_:=@List.map_map.{0,0,0}
def iW:=@Option.some.injEq.{0}
def iJ:=@decide_eq_true_eq
theorem iN:type_of% @List.pairwise_cons.{0}:=@List.pairwise_cons.{0}
def js:=@Int.toNat_natCast
def ju:=@Nat.le_of_ble_eq_true
def jO:=@List.length_take.{0}
def jN:=@Nat.zero_add
theorem jS:type_of% @List.take_append_drop.{0}:=@List.take_append_drop.{0}
theorem kA:type_of% @Option.some.inj.{0}:=@Option.some.inj.{0}
def j4:=@List.all_eq_true.{0}
def j7:=@List.length_set.{0}
def jZ:=@List.take_length.{0}
theorem ke:type_of% @Bool.not_eq_true':=@Bool.not_eq_true'
theorem ld:type_of% @Nat.add_mul:=@Nat.add_mul
def lf:=@List.append_assoc.{0}
def k_:=@List.take_add_one.{0}
theorem lg:type_of% @Nat.add_mod_right:=@Nat.add_mod_right
theorem lq:type_of% @List.map_congr_left.{0,0}:=@List.map_congr_left.{0,0}
def lS:=@List.getElem?_eq_none.{0}
def mj:=@List.mem_singleton.{0}
def mM:=@beq_eq_false_iff_ne.{0}
def m_:=@List.map_nil.{0,0}
def nh:=@Prod.mk.injEq.{0,0}
def ns:=@Int.eq_ofNat_of_zero_le
def nr:=@List.length_reverse.{0}
def nJ:=@List.range_succ
def nM:=@Option.getD_some.{0}
def nR:=@Nat.mul_le_mul_right
def oO:=@Nat.le_trans
def pk:=@List.ext_getElem?.{0}
def o6:=@Nat.not_lt_zero
def qz:=@List.cons_append.{0}
theorem qg:type_of% @List.countP_map.{0,0}:=@List.countP_map.{0,0}
def pJ:=@List.getElem?_set.{0}
def p_:=@List.getElem?_take.{0}
def pK:=@List.mem_flatMap.{0,0}
def qQ:=@List.getElem?_append_right.{0}
def qK:=@List.nodup_nil.{0}
def qL:=@Nat.mod_two_eq_zero_or_one
def rG:=@List.length_drop.{0}
def r4:=@List.mem_filter.{0}
def rR:=@List.nodup_cons.{0}
def rH:=@Nat.lt_succ_iff_lt_or_eq
def sv:=@beq_self_eq_true.{0}
def sC:=@List.map_take.{0,0}
def s8:=@List.getElem?_append_left.{0}
def tH:=@List.getElem?_eq_getElem.{0}
def tU:=@Nat.mod_add_mod
def tV:=@decide_eq_true
def uu:=@List.countP_append.{0}
def tX:=@List.getElem?_range
theorem ux:type_of% @List.getElem_cons_drop.{0}:=@List.getElem_cons_drop.{0}
theorem yZ:type_of% @Nat.eq_of_beq_eq_true:=@Nat.eq_of_beq_eq_true
def uW:=@Bool.or_eq_true
def vv:=@List.map_drop.{0,0}
def uX:=@List.mem_append_right.{0}
def uz:=@Nat.add_zero
def vg:=@decide_eq_false
def wE:=@List.all_cons.{0}
theorem wI:type_of% @List.length_range:=@List.length_range
def vO:=@List.pairwise_map.{0,0}
theorem w_:type_of% @Nat.mod_self:=@Nat.mod_self
def wy:=@Option.map_some.{0,0}
def yI:=@Bool.not_not
def xR:=@List.ext_getElem.{0}
def xK:=@List.filter_append.{0}
def xX:=@List.flatten_cons.{0}
def xt:=@Nat.sub_self
def xP:=@of_decide_eq_false
def zK:=@Bool.and_self
def zY:=@List.mem_cons_of_mem.{0}
def yP:=@List.mem_of_mem_drop.{0}
def za:=@List.mem_of_mem_take.{0}
def yO:=@Nat.min_eq_left
def Ac:=@Bool.not_true
def zO:=@List.all_nil.{0}
def zr:=@List.any_eq_true.{0}
theorem zp:type_of% @List.countP_pos_iff.{0}:=@List.countP_pos_iff.{0}
def zJ:=@List.mem_reverse.{0}
theorem A5:type_of% @List.countP_congr.{0}:=@List.countP_congr.{0}
def AW:=@List.find?_some.{0}
def A8:=@List.foldl_append.{0,0}
def AH:=@Nat.add_assoc
def AR:=@Option.map_none.{0,0}
def A4:=@not_or
def DC:=@Bool.false_or
def B6:=@List.find?_eq_none.{0}
def CM:=@List.foldl_cons.{0,0}
def Cf:=@Nat.lt_of_lt_of_le
def Dp:=@of_decide_eq_true
def CW:=@List.Perm.refl.{0}
def Dr:=@List.contains_iff_mem.{0}
def Di:=@List.countP_cons.{0}
def Eh:=@List.eq_nil_of_length_eq_zero.{0}
def Dd:=@List.filter_cons_of_neg.{0}
def D4:=@List.head?_eq_getElem?.{0}
def Ew:=@List.map_set.{0,0}
def CY:=@List.mem_filterMap.{0,0}
theorem DS:type_of% @List.mem_flatten.{0}:=@List.mem_flatten.{0}
def CU:=@List.mem_of_find?_eq_some.{0}
def D8:=@List.nodup_range
def Dn:=@List.take_take.{0}
def Dj:=@Nat.add_mod_mod
def D_:=@Nat.le_of_eq
def DE:=@Nat.zero_mul
def EM:=@Array.getD_eq_getD_getElem?.{0}
def Ey:=@Bool.and_true
def E5:=@Bool.not_false
def EG:=@Bool.true_and
def FM:=@List.any_eq_false.{0}
def Fw:=@List.getElem?_drop.{0}
def EE:=@List.getElem?_reverse.{0}
def Fh:=@List.getElem_map.{0,0}
def Fy:=@List.mem_append_left.{0}
def Ex:=@List.pairwise_singleton.{0}
def F1:=@List.perm_middle.{0}
def FI:=@Nat.lt_or_gt_of_ne
def G_:=@List.flatten_append.{0}
def Of:=@List.getElem_range
def G5:=@List.length_eq_zero_iff.{0}
def He:=@List.pairwise_append.{0}
def G4:=@List.perm_append_comm.{0}
theorem Ii:type_of% @List.take_append.{0}:=@List.take_append.{0}
def Is:=@Nat.add_sub_cancel
def GD:=@Nat.le_max_left
def IF:=@Array.getElem?_toList.{0}
def KG:=@Bool.eq_iff_iff
def IM:=@Bool.false_and
theorem IW:type_of% @List.countP_eq_zero.{0}:=@List.countP_eq_zero.{0}
theorem KS:type_of% @List.drop_drop.{0}:=@List.drop_drop.{0}
def Lx:=@List.drop_length.{0}
def La:=@List.idxOf_lt_length_iff.{0}
def Lz:=@List.mem_cons_self.{0}
def LA:=@List.pairwise_iff_getElem.{0}
def Lu:=@List.perm_ext_iff_of_nodup.{0}
def Kn:=@List.take_left.{0}
def Lt:=@Nat.le_max_right
def LB:=@Nat.lt_or_ge
def Jl:=@Nat.lt_trichotomy
def IX:=@Nat.one_mul
def NP:=@Array.getElem?_setIfInBounds.{0}
def NK:=@Array.length_toList.{0}
def OY:=@List.cons.injEq.{0}
def NY:=@List.countP_le_length.{0}
def PS:=@List.drop_of_length_le.{0}
def NJ:=@List.drop_zero.{0}
def Nb:=@List.foldl_nil.{0,0}
def NN:=@List.getElem?_set_self.{0}
def Ns:=@List.length_pos_of_mem.{0}
def Ph:=@List.length_replicate.{0}
def N3:=@List.map_eq_nil_iff.{0,0}
def OS:=@List.map_reverse.{0,0}
def Oe:=@List.set_append_right.{0}
def Mc:=@List.take_append_of_le_length.{0}
theorem PF:type_of% @Nat.beq_refl:=@Nat.beq_refl
def Nj:=@Nat.mod_eq_sub_mod
def O0:=@Nat.mul_le_mul
def N7:=@Nat.one_ne_zero
def OO:=@Nat.sub_zero
def Pl:=@Option.bind_eq_some_iff.{0,0}
def Me:=@Option.isSome_iff_exists.{0}
def Sk:=@Array.eq_empty_of_size_eq_zero.{0}
def VI:=@Array.getElem?_push.{0}
def Q6:=@Bool.and_false
def aar:=@Bool.or_false
def Qn:=@Int.toNat_of_nonneg
def RA:=@List.Pairwise.imp_of_mem.{0}
def Ug:=@List.Perm.append_right.{0}
def UM:=@List.countP_eq_length_filter.{0}
def R0:=@List.countP_nil.{0}
def Q1:=@List.drop_left.{0}
def Ui:=@List.filter_map.{0,0}
def UP:=@List.flatten_nil.{0}
def Rd:=@List.getElem?_set_ne.{0}
def Vb:=@List.mem_erase_of_ne.{0}
def SZ:=@List.nodup_append.{0}
theorem Qo:type_of% @List.set_eq_of_length_le.{0}:=@List.set_eq_of_length_le.{0}
def QY:=@List.take_add.{0}
theorem Tg:type_of% @List.take_reverse.{0}:=@List.take_reverse.{0}
def RZ:=@List.take_succ_cons.{0}
def QW:=@Nat.add_comm
def SF:=@Nat.le_mul_of_pos_right
def Rk:=@Nat.lt_succ_self
def TF:=@Nat.mul_comm
def acm:=@Array.foldl_toList.{0,0}
def W8:=@Array.getElem?_eq_getElem.{0}
def acb:=@Array.toList_inj.{0}
def Wv:=@Int.tdiv_eq_ediv_of_nonneg
def aaQ:=@List.Pairwise.imp.{0}
def VT:=@List.all_eq_false.{0}
def aaW:=@List.append_eq_append_iff.{0}
def alI:=@List.contains_eq_mem.{0}
def aaA:=@List.countP_singleton.{0}
def aau:=@List.drop_append.{0}
def YN:=@List.drop_eq_getElem_cons.{0}
def acC:=@List.eq_of_mem_replicate.{0}
def abZ:=@List.exists_cons_of_ne_nil.{0}
def acB:=@List.filterMap_append.{0,0}
def aca:=@List.filter_eq_self.{0}
def Z3:=@List.find?_append.{0}
def Wu:=@List.getElem_idxOf.{0}
def ZV:=@List.getElem_mem.{0}
def abQ:=@List.idxOf_append.{0}
def Xc:=@List.length_filter_le.{0}
def abx:=@List.map_eq_append_iff.{0,0}
def abz:=@List.range_eq_range'
def Xm:=@List.reverse_cons.{0}
def XH:=@List.set_cons_zero.{0}
def Z_:=@List.set_getElem_self.{0}
def acx:=@List.size_toArray.{0}
def Zd:=@List.take_set_of_le.{0}
theorem Yz:type_of% @List.take_succ_eq_append_getElem.{0}:=@List.take_succ_eq_append_getElem.{0}
def abV:=@Nat.ble_eq_true_of_le
def V_:=@Nat.div_add_mod
def ah9:=@Int.tmod_eq_emod_of_nonneg
def ajO:=@List.drop_append_of_le_length.{0}
def ajr:=@List.findIdx_lt_length_of_exists.{0}
inductive PV where
 |bool (b:Bool)
 |int (k:IntKind) (n:Int)
 |str (s:ByteArray)
 |AP|nils|tO|zD|nili|ifc|zs
 |box (cs:List PV)
 |sl (es:List (List PV))
 |mp (ag:Bool) (es:List (PV×List PV))
 |fn (f:Nat) (first cap:List PV)
 deriving Inhabited
abbrev dW:=List PV
variable{N z:dW}
abbrev yF:=List (PV×dW)
abbrev dI:=List dW
variable{A:dI}
inductive bd where
 |p (v:PV)
 |bR (id g off:Nat)
 |dR (id g i off:Nat)
 |hsl (id g sz off len:Nat)
 |nV (id g:Nat)
 |hfn (f:Nat) (first cap:List bd)
 deriving Inhabited
abbrev eO:=List bd
variable{D:eO}{rs:List (Nat×eO)}
inductive V where
 |undef
 |one (c:bd)
 |agg (cs:eO)
 |tup (vs:List V)
 deriving Inhabited
variable{v:V}
abbrev dZ:=List V
variable{args:dZ}
inductive gP where
 |var (cs:eO)
 |arr (ty sz:Nat) (es:dI)
 |lh (ty sz:Nat) (es:List eO)
 |map (ag:Bool) (es:yF)
 |fvar (cs:dW)
 |sL (ty sz:Nat) (es:dI)
 |fmap (ag:Bool) (es:yF)
 deriving Inhabited
abbrev bJ:=Nat->V
variable{B:bJ}
abbrev aJ:=Nat->Nat×Option gP
def dV{α:Type}(f:Nat->α)(a:Nat)(x:α):Nat->α:=λi=>if i=a then x else f i
theorem bG{α:Type}(f:Nat->α)(a b:Nat)(x:α):dV f a x b=if b=a then x else f b:=rfl
inductive fk where
 |t (n:Nat)
 |i (n:Int)
 |b (x:Bool)
 |k (v:V)
variable{y c' Z y' i':fk}{Gi zk:Option fk}{qs:List (Nat×Nat×fk)}
abbrev uw:=List fk
inductive yS where
 |bool|ptr|slc|map|fnc|ifc
 |str (ks:gD)
inductive sJ where
 |Ra (x:fk)
 |pick (c a b:fk)
 |alloc (site:Nat) (z:dW)
 |box (site:Nat) (x:fk)
 |build (z:dW) (parts:List (Nat×Nat×fk))
 |OJ (site ty sz:Nat) (parts:uw)
 |load (k:eT) (x:fk)
 |store (n:Nat) (a x:fk)
 |Rm (x:fk)
 |bin (op:BinOp) (x y:fk)
 |eqc (k:yS) (neg:Bool) (x y:fk)
 |un (op:UnOp) (x:fk)
 |conv (k:IntKind) (x:fk)
 |bstr (x:fk)
 |mkfn (f:Nat) (first cap:uw)
 |mkmap (site:Nat) (ag:Bool)
 |Q9 (site ty sz bytes:Nat) (z:dW) (len cap:fk)
 |slice (sz:Nat) (x:fk) (lo hi:Option fk)
 |sslice (x:fk) (lo hi:Option fk)
 |Pn (off:Nat) (x:fk)
 |QQ (sz:Nat) (x i:fk)
 |Oq (len sz:Nat) (x i:fk)
 |fld (off:Nat) (k:eT) (x:fk)
 |aidx (len sz:Nat) (k:eT) (x i:fk)
 |sidx (x i:fk)
 |lookup (kd:Nat) (z:dW) (agg ok:Bool) (x k:fk)
 |mupd (kd:Nat) (ag:Bool) (m k v:fk)
 |bad
 |extract (x:fk) (i:Nat)
 |call (site:Nat) (f:fk) (args:uw)
 |slen (x:fk)
 |U9 (x:fk)
 |mlen (x:fk)
 |append (site ty sz bytes:Nat) (s x:fk)
 |max (x y:fk)
 |min (x y:fk)
 |clear (z:dW) (x:fk)
structure lI where
 dst:eT
 op:sJ
 guard:Option (Nat×Bool)
 anc:Nat
abbrev fV:=List lI
variable{ops:fV}
inductive aR where
 |skip
 |region (draw:Bool) (ops:fV)
 |seq (a b:aR)
 |cond (x:fk) (a b:aR)
 |block (id:Nat) (c:aR)
 |loop (c:aR)
 |exit (id:Nat)
 |ret
 |bad
structure aZ where
 ntmps:Nat
 results:List (Nat×Option eT)
 body:aR
def ev (B:bJ):fk->V
 | .t n=>B n
 | .i n=>.one (.p (.int .i64 n))
 | .b x=>.one (.p (.bool x))
 | .k v=>v
abbrev ahH:=Nat×(Nat×Option gP)
abbrev kR:=List ahH
variable{u:kR}
def app:kR->aJ->aJ
 |[],b=>b
 |(i,o)::r,b=>app r (dV b i o)
def PV.norm:PV->PV
 | .nils=>.sl []
 | .zs=>.sl []
 |v=>v
def Tb:bd->Option PV
 | .p v=>some v.norm
 |_=>none
def D2:eO->Option dW
 |[]=>some []
 |c::r=>match Tb c,D2 r with
  |some v,some F=>some (v::F)
  |_,_=>none
def vb:V->Option eO
 | .one c=>some [c]
 | .agg D=>some D
 |_=>none
def iB{α β:Type}(f:α->Option (β×aG)):List α->Option (List β×aG)
 |[]=>some ([],[])
 |a::r=>match f a,iB f r with
  |some (b,x),some (B,y)=>some (b::B,x++y)
  |_,_=>none
def snap(blk:aJ):Nat->bd->Option (PV×aG)
 |0,_=>none
 |n+1,c=>match c with
  | .p v=>some (v.norm,[])
  | .bR id g E=>match blk id with
   |(g',some (.var D))=>if g'=g then
     match iB (snap blk n) D with
     |some (ps,r)=>some (.box (ps.drop E),id::r)
     |none=>none
    else none
   |(g',some (.fvar ps))=>if g'=g then some (.box (ps.drop E),[id])else none
   |_=>none
  | .dR id g i E=>match blk id with
   |(g',some (.arr _ _ A))=>if g'=g then(A[i]?).map λe=>(.box (e.drop E),[id])else none
   |(g',some (.sL _ _ A))=>if g'=g then(A[i]?).map λe=>(.box (e.drop E),[id])else none
   |_=>none
  | .hsl id g z E len=>match blk id with
   |(g',some (.arr _ _ A))=>if g'=g/\E+len<=I A then some (.sl ((A.drop E).take len),[id])else none
   |(g',some (.sL _ _ A))=>if g'=g/\E+len<=I A then some (.sl ((A.drop E).take len),[id])else none
   |(g',some (.lh _ _ A))=>if g'=g/\E+len<=I A then
     match iB (iB (snap blk n)) ((A.drop E).take len)with
     |some (ps,r)=>some (.sl ps,id::r)
     |none=>none
    else none
   |_=>none
  | .nV id g=>match blk id with
   |(g',some (.map h A))=>if g'=g then some (.mp h A,[id])else none
   |(g',some (.fmap h A))=>if g'=g then some (.mp h A,[id])else none
   |_=>none
  | .hfn f a b=>match iB (snap blk n) a,iB (snap blk n) b with
   |some (x,r),some (y,s)=>some (.fn f x y,r++s)
   |_,_=>none
def jl:Nat:=6
def qD(blk:aJ):V->Option (V×aG)
 | .one c=>(snap blk jl c).map λ(v,r)=>(.one (.p v),r)
 | .agg D=>(iB (snap blk jl) D).map λ(F,r)=>(.agg (F.map .p),r)
 |_=>none
def xI(blk:aJ)(all:aG)(id:Nat):Option kR:=
 match blk id with
 |(g,some (.var D))=>match iB (snap blk jl) D with
  |some (ps,r)=>if r.all all.contains then some [(id,(g,some (.fvar ps)))]else none
  |none=>none
 |(g,some (.arr L j A))=>some [(id,(g,some (.sL L j A)))]
 |(g,some (.lh L j A))=>match iB (iB (snap blk jl)) A with
  |some (ps,r)=>if r.all all.contains then some [(id,(g,some (.sL L j ps)))]else none
  |none=>none
 |(g,some (.map f A))=>some [(id,(g,some (.fmap f A)))]
 |(_,none)=>none
 |_=>some []
def tY(blk:aJ)(all:aG):aG->Option kR
 |[]=>some []
 |i::r=>match xI blk all i,tY blk all r with
  |some a,some b=>some (a++b)
  |_,_=>none
def tJ(blk:aJ)(ids:aG):Option kR:=tY blk ids ids
inductive nm where
 |p (v:PV)
 |own (ty sz:Nat) (es:dI)
 deriving Inhabited
abbrev oh:=List nm
inductive RV where
 |one (c:nm)
 |agg (cs:oh)
 |tup (vs:List RV)
 deriving Inhabited
def nm.pure:nm->nm
 | .p v=>.p v
 | .own _ _ A=>.p (.sl A)
def RV.KF:RV->RV
 | .one c=>.one c.pure
 | .agg D=>.agg (D.map nm.pure)
 | .tup F=>.tup F
def RV.pure:RV->RV
 | .tup F=>.tup (F.map RV.KF)
 |v=>v.KF
def RV.iA(b:Bool)(r:RV):RV:=match b with
 |true=>r.pure
 |false=>r
def PV.scalar:PV->Bool
 | .bool _| .int _ _| .str _| .AP| .nils| .tO| .zD| .nili| .ifc| .zs=>true
 |_=>false
def nm.alone:nm->Bool
 | .p v=>v.scalar
 | .own _ _ A=>A.all λe=>e.all PV.scalar
def mH(blk:aJ)(c:bd):Option (nm×aG×aG):=
 match c with
 | .p v=>some (.p v,[],[])
 | .hsl id g z 0 len=>match blk id with
  |(g',some (.arr L j A))=>if g'=g/\len<=I A then some (.own L j (A.take len),[id],[])else none
  |_=>(snap blk jl c).map λ(v,r)=>(.p v,[],r)
 |_=>(snap blk jl c).map λ(v,r)=>(.p v,[],r)
def oV(blk:aJ):eO->Option (oh×aG×aG)
 |[]=>some ([],[],[])
 |c::r=>match mH blk c,oV blk r with
  |some (x,o,q),some (N,os,qs)=>some (x::N,o++os,q++qs)
  |_,_=>none
def qG:V->Option eO
 | .one c=>some [c]
 | .agg D=>some D
 |_=>none
def yX:dZ->Option eO
 |[]=>some []
 |v::r=>match qG v,yX r with
  |some a,some b=>some (a++b)
  |_,_=>none
def v_:V->Option eO
 | .tup F=>yX F
 |v=>qG v
def vf:V->oh->RV×oh
 | .one _,r::rs=>(.one r,rs)
 | .agg D,rs=>(.agg (rs.take (I D)),rs.drop (I D))
 |_,rs=>(.agg [],rs)
def D7:dZ->oh->List RV
 |[],_=>[]
 |v::r,rs=>(vf v rs).1::D7 r (vf v rs).2
def zl:V->oh->RV
 | .tup F,rs=>.tup (D7 F rs)
 |v,rs=>(vf v rs).1
def qf:aG->aG->Bool
 |[],_=>true
 |i::r,q=> !r.contains i&& !q.contains i&&qf r q
def lM(blk:aJ)(v:V):Option RV:=
 match v_ v with
 |some D=>match oV blk D with
  |some (x,o,q)=>if qf o q then some (zl v x)else none
  |none=>none
 |none=>none
def iC(blk:aJ)(f:Nat):nm->bd×kR
 | .p v=>(.p v,[])
 | .own L j A=>(.hsl f ((blk f).1+1) j 0 (I A),[(f,((blk f).1+1,some (.arr L j A)))])
def lR(blk:aJ)(f:Nat):oh->eO×kR
 |[]=>([],[])
 |c::r=>((iC blk f c).1::(lR blk (f+1) r).1,(iC blk f c).2++(lR blk (f+1) r).2)
def mD:RV->oh
 | .one c=>[c]
 | .agg D=>D
 | .tup _=>[]
def tu:List RV->oh
 |[]=>[]
 |v::r=>mD v++tu r
def lU:RV->oh
 | .tup F=>tu F
 |v=>mD v
def ru:RV->eO->V×eO
 | .one _,c::D=>(.one c,D)
 | .agg rs,D=>(.agg (D.take (I rs)),D.drop (I rs))
 |_,D=>(.undef,D)
def vN:List RV->eO->dZ
 |[],_=>[]
 |v::r,D=>(ru v D).1::vN r (ru v D).2
def xg:RV->eO->V
 | .tup F,D=>.tup (vN F D)
 |v,D=>(ru v D).1
def RV.alone(r:RV):Bool:=(lU r).all nm.alone
def lk(blk:aJ)(f:Nat)(r:RV):V×kR:=(xg r (lR blk f (lU r)).1,(lR blk f (lU r)).2)
inductive AT where
 |fail
 |done (v:V) (u:kR) (rd:aG)
 |pc (f:Nat) (args:dZ) (rd:aG) (site:Nat)
 |sc (f:Nat) (args:dZ)
def Er(blk:aJ):V->Option (eO×aG)
 | .one (.p (.box D))=>some (D.map .p,[])
 | .one (.bR id g E)=>match blk id with
  |(g',some (.var D))=>if g'=g then some (D.drop E,[id])else none
  |(g',some (.fvar D))=>if g'=g then some ((D.drop E).map .p,[id])else none
  |_=>none
 | .one (.dR id g i E)=>match blk id with
  |(g',some (.arr _ _ A))=>if g'=g then(A[i]?).map λe=>((e.drop E).map .p,[id])else none
  |(g',some (.sL _ _ A))=>if g'=g then(A[i]?).map λe=>((e.drop E).map .p,[id])else none
  |(g',some (.lh _ _ A))=>if g'=g then(A[i]?).map λe=>(e.drop E,[id])else none
  |_=>none
 |_=>none
def tc(k:eT)(D:eO):Option V:=
 match k with
 |none=>match D with
  |c::_=>some (.one c)
  |[]=>none
 |some n=>if n<=I D then some (.agg (D.take n))else none
def gM{α:Type}(D:List α)(E:Nat)(N:List α):List α:=D.take E++N++D.drop (E+I N)
def CD(blk:aJ)(a:V)(n:Nat)(N:eO):AT:=
 if I N≠n then .fail else
 match a with
 | .one (.bR id g E)=>match blk id with
  |(g',some (.var D))=>if g'=g/\E+n<=I D then .done .undef [(id,(g,some (.var (gM D E N))))] [id]else .fail
  |_=>.fail
 | .one (.dR id g i E)=>match blk id with
  |(g',some (.arr L j A))=>match A[i]?,D2 N with
   |some e,some ps=>if g'=g/\E+n<=I e then .done .undef [(id,(g,some (.arr L j (A.set i (gM e E ps)))))] [id]else .fail
   |_,_=>.fail
  |_=>.fail
 |_=>.fail
def hU(blk:aJ):V->Option (dI×aG×aG)
 | .one (.p .nils)=>some ([],[],[])
 | .one (.p (.sl A))=>some (A,[],[])
 | .one (.hsl id g z E len)=>match blk id with
  |(g',some (.arr _ _ A))=>if g'=g/\E+len<=I A then some ((A.drop E).take len,[id],[])else none
  |(g',some (.sL _ _ A))=>if g'=g/\E+len<=I A then some ((A.drop E).take len,[id],[])else none
  |(g',some (.lh _ _ A))=>if g'=g/\E+len<=I A then
    match iB (iB (snap blk jl)) ((A.drop E).take len)with
    |some (ps,r)=>some (ps,[id],r)
    |none=>none
   else none
  |_=>if len=0 then some ([],[id],[])else none
 |_=>none
def aB(j:Nat)(A:dI):Bool:=A.all λe=>I e==j
def pW:V->eT
 | .one (.hsl _ _ z _ _)=>some z
 |_=>none
def mN:Nat:=140737488355328
def ai(blk:aJ)(f L j bytes:Nat)(s x:V):AT:=
 match hU blk x with
 |none=>.fail
 |some (new,rd,fr)=>
  if¬(pW x=some j\/aB j new)then .fail else
  match tJ blk fr with
  |none=>.fail
  |some F=>
   match s with
   | .one (.p .nils)=>
    if I new=0 then .done (.one (.p .nils)) F (rd++fr)else
    if I new*bytes<=mN then
     .done (.one (.hsl f ((blk f).1+1) j 0 (I new))) (F++[(f,((blk f).1+1,some (.arr L j new)))]) (f::rd++fr)
    else .fail
   | .one (.p .zs)=>
    if I new=0 then .fail else
    if I new*bytes<=mN then
     .done (.one (.hsl f ((blk f).1+1) j 0 (I new))) (F++[(f,((blk f).1+1,some (.arr L j new)))]) (f::rd++fr)
    else .fail
   | .one (.hsl id g z 0 len)=>match blk id with
    |(g',some (.arr u h A))=>
     if g'=g/\u=L/\h=j/\len<=I A/\(len+I new)*bytes<=mN/\fr.contains id=false then
      .done (.one (.hsl f ((blk f).1+1) j 0 (len+I new)))
       (F++[(id,(g,none)),(f,((blk f).1+1,some (.arr L j (A.take len++new))))]) (f::id::rd++fr)
     else .fail
    |_=>.fail
   |_=>.fail
def tE:V->eT
 | .one (.p (.int _ n))=>if 0<=n then some n.toNat else none
 |_=>none
def uJ(B:bJ)(d:Nat):Option fk->eT
 |none=>some d
 |some a=>tE (ev B a)
def FA(x:V)(j lo h:Nat):AT:=
 if¬lo<=h then .fail else
 match x with
 | .one (.p .nils)=>if h=0 then .done (.one (.p .nils)) [] []else .fail
 | .one (.p (.sl A))=>if h<=I A/\aB j A=true then .done (.one (.p (.sl ((A.drop lo).take (h-lo))))) [] []else .fail
 | .one (.hsl id g z E len)=>if h<=len/\z=j then .done (.one (.hsl id g z (E+lo) (h-lo))) [] []else .fail
 |_=>.fail
def Bs:V->eT
 | .one (.p .nils)=>some 0
 | .one (.p (.sl A))=>some (I A)
 | .one (.hsl _ _ _ _ len)=>some len
 |_=>none
def ti(blk:aJ):V->Option (Nat×aG)
 | .one (.p .tO)=>some (0,[])
 | .one (.p (.mp _ A))=>some (I A,[])
 | .one (.nV id g)=>match blk id with
  |(g',some (.map _ A))=>if g'=g then some (I A,[id])else none
  |(g',some (.fmap _ A))=>if g'=g then some (I A,[id])else none
  |_=>none
 |_=>none
def tW(blk:aJ)(h:Bool):V->Option (yF×aG)
 | .one (.p .tO)=>some ([],[])
 | .one (.p (.mp f A))=>if f=h then some (A,[])else none
 | .one (.nV id g)=>match blk id with
  |(g',some (.map f A))=>if g'=g/\f=h then some (A,[id])else none
  |(g',some (.fmap f A))=>if g'=g/\f=h then some (A,[id])else none
  |_=>none
 |_=>none
def DB:PV->PV->Option Bool
 | .int k a,.int f b=>if k=f then some (a==b)else none
 | .str a,.str b=>some (a==b)
 | .bool a,.bool b=>some (a==b)
 |_,_=>none
def nO:PV->Nat
 | .int _ _=>0
 | .str _=>1
 | .bool _=>2
 |_=>3
def s9:Bool->dW->Option V
 |true,D=>some (.agg (D.map .p))
 |false,[c]=>some (.one (.p c))
 |false,_=>none
def xz(k:PV):yF->Nat->Option (Option (Nat×dW))
 |[],_=>some none
 |(a,v)::r,i=>match DB k a with
  |some true=>some (some (i,v))
  |some false=>xz k r (i+1)
  |none=>none
def xQ:Bool->V->Option eO
 |false,.one c=>some [c]
 |true,.agg D=>some D
 |_,_=>none
def IG(op:BinOp)(k:IntKind)(a b:Int):Option PV:=
 match op with
 | .add=>some (.int k (k.wrap (a+b)))
 | .sub=>some (.int k (k.wrap (a-b)))
 | .mul=>some (.int k (k.wrap (a*b)))
 | .quo=>if b=0 then none else some (.int k (k.wrap (a.tdiv b)))
 | .rem=>if b=0 then none else some (.int k (a.tmod b))
 | .eql=>some (.bool (a==b))
 | .neq=>some (.bool (a !=b))
 | .lss=>some (.bool (decide (a<b)))
 | .leq=>some (.bool (decide (a<=b)))
 | .gtr=>some (.bool (decide (b<a)))
 | .geq=>some (.bool (decide (b<=a)))
 | .and=>some (.int k (k.wrap (BitVec.ofInt k.bits a&&& BitVec.ofInt k.bits b).toNat))
 | .shl=>if b<0 then none else some (.int k (k.wrap (a*2 ^ min b.toNat k.bits)))
 | .shr=>if b<0 then none else some (.int k (a.fdiv (2 ^ min b.toNat k.bits)))
 |_=>none
def XZ(op:BinOp)(a b:ByteArray):Option PV:=
 match op with
 | .add=>if a.size+b.size<=9223372036854775807 then some (.str (a++b))else none
 | .eql=>some (.bool (a.toList==b.toList))
 | .neq=>some (.bool (!(a.toList==b.toList)))
 |_=>none
def Uc(op:BinOp):V->V->Option V
 | .one (.p (.int k a)),.one (.p (.int f b))=>if k=f\/op=.shl\/op=.shr then(IG op k a b).map λv=>.one (.p v)else none
 | .one (.p (.str a)),.one (.p (.str b))=>(XZ op a b).map λv=>.one (.p v)
 |_,_=>none
def pg:Bool->PV->PV->Option Bool
 |true,.int k a,.int f b=>if k=f then some (a==b)else none
 |false,.bool a,.bool b=>some (a==b)
 |_,_,_=>none
def oU:gD->eO->eO->Option Bool
 |[],[],[]=>some true
 |k::f,.p a::r,.p b::s=>match pg k a b with
  |some true=>oU f r s
  |some false=>some false
  |none=>none
 |_,_,_=>none
def GK:yS->V->Option Bool
 | .ptr,.one (.p .AP)=>some true
 | .ptr,.one (.p (.box _))=>some false
 | .ptr,.one (.bR _ _ _)=>some false
 | .ptr,.one (.dR _ _ _ _)=>some false
 | .slc,.one (.p .nils)=>some true
 | .slc,.one (.p (.sl (_::_)))=>some false
 | .slc,.one (.hsl _ _ _ _ _)=>some false
 | .map,.one (.p .tO)=>some true
 | .map,.one (.p (.mp _ _))=>some false
 | .map,.one (.nV _ _)=>some false
 | .fnc,.one (.p .zD)=>some true
 | .fnc,.one (.p (.fn _ _ _))=>some false
 | .fnc,.one (.hfn _ _ _)=>some false
 | .ifc,.one (.p .nili)=>some true
 | .ifc,.one (.p .ifc)=>some false
 |_,_=>none
def E2:yS->V->V->Option Bool
 | .bool,.one (.p (.bool a)),.one (.p (.bool b))=>some (a==b)
 | .str f,.agg a,.agg b=>oU f a b
 | .bool,_,_=>none
 | .str _,_,_=>none
 |k,a,b=>if GK k b=some true then GK k a else if GK k a=some true then GK k b else none
def EY(D:eO):List (Nat×eO)->eO
 |[]=>D
 |(E,N)::r=>EY (gM D E N) r
def A2(B:bJ):List (Nat×Nat×fk)->Option (List (Nat×eO))
 |[]=>some []
 |(E,n,a)::r=>match vb (ev B a),A2 B r with
  |some D,some q=>if I D=n then some ((E,D)::q)else none
  |_,_=>none
def Bu(B:bJ)(j:Nat):uw->Option (List eO)
 |[]=>some []
 |a::r=>match vb (ev B a),Bu B j r with
  |some D,some q=>if I D=j then some (D::q)else none
  |_,_=>none
def Dk:List eO->Option dI
 |[]=>some []
 |c::r=>match D2 c,Dk r with
  |some v,some F=>some (v::F)
  |_,_=>none
def IB(B:bJ)(a:fk):Option (Nat×eO×eO):=
 match ev B a with
 | .one (.p (.fn f x y))=>some (f,x.map .p,y.map .p)
 | .one (.hfn f x y)=>some (f,x,y)
 |_=>none
def Da(blk:aJ):dZ->Option (dZ×aG):=iB (qD blk)
def Kq:dI->Option BX
 |[]=>some []
 |[.int .u8 n]::r=>(Kq r).map (UInt8.ofNat n.toNat:: ·)
 |_::_=>none
def z_(B:bJ):uw->Option eO
 |[]=>some []
 |a::r=>match ev B a,z_ B r with
  | .one c,some q=>some (c::q)
  |_,_=>none
def cZ(shared:Nat->Bool)(B:bJ)(blk:aJ):sJ->AT
 | .Ra x=>.done (ev B x) [] []
 | .pick c a b=>match ev B c with
  | .one (.p (.bool t))=>.done (if t then ev B a else ev B b) [] []
  |_=>.fail
 | .alloc s z=>.done (.one (.bR s ((blk s).1+1) 0)) [(s,((blk s).1+1,some (.var (z.map .p))))] [s]
 | .box s x=>match vb (ev B x)with
  |some D=>.done (.one (.bR s ((blk s).1+1) 0)) [(s,((blk s).1+1,some (.var D)))] [s]
  |none=>.fail
 | .build z ps=>match A2 B ps with
  |some q=>.done (.agg (EY (z.map .p) q)) [] []
  |none=>.fail
 | .OJ s L j ps=>match Bu B j ps with
  |some A=>match Dk A with
   |some qs=>.done (.one (.hsl s ((blk s).1+1) j 0 (I A))) [(s,((blk s).1+1,some (.arr L j qs)))] [s]
   |none=>.done (.one (.hsl s ((blk s).1+1) j 0 (I A))) [(s,((blk s).1+1,some (.lh L j A)))] [s]
  |none=>.fail
 | .load k x=>match Er blk (ev B x)with
  |some (D,r)=>match tc k D with
   |some v=>.done v [] r
   |none=>.fail
  |none=>.fail
 | .store n a x=>match vb (ev B x)with
  |some N=>CD blk (ev B a) n N
  |none=>.fail
 | .Rm x=>match ev B x with
  | .one (.bR id g o)=>.done (.one (.bR id g o)) [] []
  | .one (.dR id g i o)=>.done (.one (.dR id g i o)) [] []
  | .one (.p (.box D))=>.done (.one (.p (.box D))) [] []
  | .one (.hfn f a b)=>.done (.one (.hfn f a b)) [] []
  | .one (.p (.fn f a b))=>.done (.one (.p (.fn f a b))) [] []
  |_=>.fail
 | .bin op x y=>match Uc op (ev B x) (ev B y)with
  |some v=>.done v [] []
  |none=>.fail
 | .eqc k M x y=>match E2 k (ev B x) (ev B y)with
  |some b=>.done (.one (.p (.bool (if M then !b else b)))) [] []
  |none=>.fail
 | .un op x=>match op,ev B x with
  | .not,.one (.p (.bool b))=>.done (.one (.p (.bool (!b)))) [] []
  | .neg,.one (.p (.int k n))=>.done (.one (.p (.int k (k.wrap (0-n))))) [] []
  |_,_=>.fail
 | .conv k x=>match ev B x with
  | .one (.p (.int _ n))=>.done (.one (.p (.int k (k.wrap n)))) [] []
  |_=>.fail
 | .bstr x=>match hU blk (ev B x)with
  |some (A,r,[])=>match Kq A with
   |some Q=>.done (.one (.p (.str ⟨Q.toArray⟩))) [] r
   |none=>.fail
  |_=>.fail
 | .mkfn f a b=>match z_ B a,z_ B b with
  |some x,some y=>.done (.one (.hfn f x y)) [] []
  |_,_=>.fail
 | .mkmap s u=>.done (.one (.nV s ((blk s).1+1))) [(s,((blk s).1+1,some (.map u [])))] [s]
 | .Q9 s L j bytes z l c=>match tE (ev B l),tE (ev B c)with
  |some n,some m=>if n=m/\n*bytes<=mN then
    .done (.one (.hsl s ((blk s).1+1) j 0 n)) [(s,((blk s).1+1,some (.arr L j (List.replicate n z))))] [s]
   else .fail
  |_,_=>.fail
 | .slice j x lo H=>match Bs (ev B x)with
  |some n=>match uJ B 0 lo,uJ B n H with
   |some l,some h=>FA (ev B x) j l h
   |_,_=>.fail
  |none=>.fail
 | .sslice x lo H=>match ev B x with
  | .one (.p (.str s))=>match uJ B 0 lo,uJ B s.size H with
   |some l,some h=>if l<=h/\h<=s.size then .done (.one (.p (.str (s.extract l h)))) [] []else .fail
   |_,_=>.fail
  |_=>.fail
 | .Pn E x=>match ev B x with
  | .one (.bR id g o)=>.done (.one (.bR id g (o+E))) [] []
  | .one (.dR id g i o)=>.done (.one (.dR id g i (o+E))) [] []
  | .one (.p (.box D))=>.done (.one (.p (.box (D.drop E)))) [] []
  |_=>.fail
 | .QQ j x i=>match tE (ev B i),ev B x with
  |some n,.one (.p (.sl A))=>match A[n]? with
   |some e=>if I e=j then .done (.one (.p (.box e))) [] []else .fail
   |none=>.fail
  |some n,.one (.hsl id g z E len)=>if n<len/\z=j then .done (.one (.dR id g (E+n) 0)) [] []else .fail
  |_,_=>.fail
 | .Oq len j x i=>match tE (ev B i),ev B x with
  |some n,.one (.bR id g o)=>if n<len then .done (.one (.bR id g (o+n*j))) [] []else .fail
  |some n,.one (.dR id g R o)=>if n<len then .done (.one (.dR id g R (o+n*j))) [] []else .fail
  |some n,.one (.p (.box D))=>if n<len then .done (.one (.p (.box (D.drop (n*j))))) [] []else .fail
  |_,_=>.fail
 | .fld E k x=>match ev B x with
  | .agg D=>match tc k (D.drop E)with
   |some v=>.done v [] []
   |none=>.fail
  |_=>.fail
 | .aidx len j k x i=>match tE (ev B i),ev B x with
  |some n,.agg D=>if n<len then
    match tc k (D.drop (n*j))with
    |some v=>.done v [] []
    |none=>.fail
   else .fail
  |_,_=>.fail
 | .sidx x i=>match tE (ev B i),ev B x with
  |some n,.one (.p (.str s))=>match s[n]? with
   |some b=>.done (.one (.p (.int .u8 b.toNat))) [] []
   |none=>.fail
  |_,_=>.fail
 | .lookup kd z agg ok x k=>match tW blk agg (ev B x),ev B k with
  |some (A,r),.one (.p q)=>if nO q≠kd then .fail else match xz q A 0 with
   |some f=>match s9 agg ((f.map (·.2)).getD z)with
    |some w=>.done (if ok then .tup [w,.one (.p (.bool f.isSome))]else w) [] r
    |none=>.fail
   |none=>.fail
  |_,_=>.fail
 | .bad=>.fail
 | .mupd kd u m k v=>match ev B m,ev B k,xQ u (ev B v)with
  | .one (.nV id g),.one (.p q),some D=>match blk id,D2 D with
   |(g',some (.map O A)),some ps=>if g'=g/\O=u/\nO q=kd then
     match xz q A 0 with
     |some (some (i,_))=>.done .undef [(id,(g,some (.map u (A.set i (q,ps)))))] [id]
     |some none=>.done .undef [(id,(g,some (.map u (A++[(q,ps)]))))] [id]
     |none=>.fail
    else .fail
   |_,_=>.fail
  |_,_,_=>.fail
 | .extract x i=>match ev B x with
  | .tup F=>match F[i]? with
   |some v=>.done v [] []
   |none=>.fail
  |_=>.fail
 | .call s f as=>match IB B f with
  |some (g,a,b)=>
   if shared g then .sc g (a.map .one++as.map (ev B)++b.map .one)
   else match Da blk (a.map .one++as.map (ev B)++b.map .one)with
    |some (F,r)=>.pc g F r s
    |none=>.fail
  |none=>.fail
 | .slen x=>match ev B x with
  | .one (.p (.str s))=>.done (.one (.p (.int .i64 s.size))) [] []
  |_=>.fail
 | .U9 x=>match Bs (ev B x)with
  |some n=>.done (.one (.p (.int .i64 n))) [] []
  |none=>.fail
 | .mlen x=>match ti blk (ev B x)with
  |some (n,r)=>.done (.one (.p (.int .i64 n))) [] r
  |none=>.fail
 | .append s L j bytes d x=>ai blk s L j bytes (ev B d) (ev B x)
 | .max x y=>match ev B x,ev B y with
  | .one (.p (.int k a)),.one (.p (.int _ b))=>.done (.one (.p (.int k (if b>a then b else a)))) [] []
  |_,_=>.fail
 | .min x y=>match ev B x,ev B y with
  | .one (.p (.int k a)),.one (.p (.int _ b))=>.done (.one (.p (.int k (if b<a then b else a)))) [] []
  |_,_=>.fail
 | .clear z x=>match ev B x with
  | .one (.p .nils)=>.done (.tup []) [] []
  | .one (.p (.sl []))=>.done (.tup []) [] []
  | .one (.hsl id g _ E len)=>if len=0 then .done (.tup []) [] []else match blk id with
   |(g',some (.arr L j A))=>if g'=g/\j=I z/\E+len<=I A then .done (.tup []) [(id,(g,some (.arr L j (gM A E (List.replicate len z)))))] [id]else .fail
   |_=>.fail
  |_=>.fail
structure iV where
 rd:aG
 wr:aG
 fs:aG
abbrev gG:=List iV
variable{R:bJ->aJ->gG->Prop}
structure cF where
 any:Bool
 ids:aG
 fs:aG
def cF.all:cF:=⟨true,[],[]⟩
def rh(id:Nat):Nat:=id/64000000
def cF.ok(a:cF)(id:Nat):Bool:=a.any||a.ids.contains id||a.fs.contains (rh id)
def cF.jk(a:cF)(l:aG):Bool:=l.all a.ok
def cF.holds(a b:cF):Bool:=a.any||(a.jk b.ids&&b.fs.all a.fs.contains)
structure mF where
 shared:Nat->Bool
 sites:Nat->aG
 lone:Nat->Bool
 al:cF
def oH(blk:aJ):Nat->bd->aG
 |0,_=>[]
 |n+1,c=>match c with
  | .p _=>[]
  | .bR id _ _=>id::match blk id with
   |(_,some (.var D))=>(D.map (oH blk n)).flatten
   |_=>[]
  | .dR id _ _ _=>id::match blk id with
   |(_,some (.lh _ _ A))=>(A.flatten.map (oH blk n)).flatten
   |_=>[]
  | .hsl id _ _ _ _=>id::match blk id with
   |(_,some (.lh _ _ A))=>(A.flatten.map (oH blk n)).flatten
   |_=>[]
  | .nV id _=>[id]
  | .hfn _ a b=>(a.map (oH blk n)).flatten++(b.map (oH blk n)).flatten
def qd(blk:aJ):V->aG
 | .one c=>oH blk jl c
 | .agg D=>(D.map (oH blk jl)).flatten
 |_=>[]
def jm(X:mF)(f:Nat)(F:dZ)(blk:aJ):cF:=⟨false,(F.map (qd blk)).flatten,X.sites f⟩
def eQ(B:bJ)(d:eT)(v:V):bJ:=
 match d with
 |some t=>dV B t v
 |none=>B
abbrev kV:=Nat->dZ->Option RV
abbrev rq:=Nat->dZ->cF->aJ->Option (V×aJ)
def fR(blk:aJ)(rd:aG)(f:Nat)(r:RV):Option (V×kR):=
 if rd=[]\/r.alone then some (lk blk f r)
 else match tJ blk rd with
  |some u=>some ((lk blk f r).1,u++(lk blk f r).2)
  |none=>none
def sF(B:bJ):Option (Nat×Bool)->Option Bool
 |none=>some true
 |some (t,f)=>match B t with
  | .one (.p (.bool b))=>some (b==f)
  | .undef=>some false
  |_=>none
def mh(X:mF)(cp:kV)(D:rq)(o:lI)(B:bJ)(blk:aJ):Option (bJ×aJ×iV):=
 match sF B o.guard with
 |none=>none
 |some false=>some (eQ B o.dst .undef,blk,⟨[],[],[]⟩)
 |some true=>match cZ X.shared B blk o.op with
  | .fail=>none
  | .done v u r=>if X.al.jk (r++u.map (·.1))then some (eQ B o.dst v,app u blk,⟨r,u.map (·.1),[]⟩)else none
  | .pc f F r s=>match cp f F with
   |some x=>match fR blk r s (x.iA (X.lone s))with
    |some (v,u)=>if X.al.jk (r++u.map (·.1))then some (eQ B o.dst v,app u blk,⟨r++u.map (·.1),u.map (·.1),[]⟩)else none
    |none=>none
   |none=>none
  | .sc f F=>if X.al.holds (jm X f F blk)then
    match D f F (jm X f F blk) blk with
    |some (v,A)=>some (eQ B o.dst v,A,⟨(jm X f F blk).ids,(jm X f F blk).ids,(jm X f F blk).fs⟩)
    |none=>none
   else none
def jz(X:mF)(cp:kV)(D:rq):fV->bJ->aJ->Option (bJ×aJ×gG)
 |[],B,blk=>some (B,blk,[])
 |o::r,B,blk=>match mh X cp D o B blk with
  |some (h,f,e)=>match jz X cp D r h f with
   |some (u,F,A)=>some (u,F,e::A)
   |none=>none
  |none=>none
def xF(a b:aG):Bool:=a.any λi=>b.contains i
def HT(fs ids:aG):Bool:=ids.any λi=>fs.contains (rh i)
def HW(a b:iV):Bool:=xF a.wr b.rd||xF a.wr b.wr||xF a.rd b.wr||xF a.fs b.fs||HT a.fs (b.rd++b.wr)||HT b.fs (a.rd++a.wr)
def Vp(anc:Nat)(e:iV):Nat->gG->Bool
 |_,[]=>true
 |j,x::r=>(anc.testBit j|| !HW x e)&&Vp anc e (j+1) r
def vi:fV->gG->gG->Bool
 |o::os,f,e::A=>Vp o.anc e 0 f&&vi os (f++[e]) A
 |_,_,_=>true
inductive oK where
 |normal
 |exit (id:Nat)
 |ret
def mK(f:bJ->aJ->Option (oK×bJ×aJ)):Nat->bJ->aJ->Option (oK×bJ×aJ)
 |0,_,_=>none
 |n+1,B,blk=>match f B blk with
  |some (.normal,h,A)=>mK f n h A
  |r=>r
def dT(X:mF)(cp:kV)(D:rq)(n:Nat):aR->bJ->aJ->Option (oK×bJ×aJ)
 | .skip,B,blk=>some (.normal,B,blk)
 | .region d ops,B,blk=>match jz X cp D ops B blk with
  |some (h,f,A)=>if d then(if vi ops [] A then some (.normal,h,f)else none)else some (.normal,h,f)
  |none=>none
 | .seq a b,B,blk=>match dT X cp D n a B blk with
  |some (.normal,h,f)=>dT X cp D n b h f
  |r=>r
 | .cond x a b,B,blk=>match ev B x with
  | .one (.p (.bool t))=>if t then dT X cp D n a B blk else dT X cp D n b B blk
  |_=>none
 | .block id c,B,blk=>match dT X cp D n c B blk with
  |some (.exit i,h,f)=>if i=id then some (.normal,h,f)else some (.exit i,h,f)
  |r=>r
 | .loop c,B,blk=>mK (dT X cp D n c) n B blk
 | .exit id,B,blk=>some (.exit id,B,blk)
 | .ret,B,blk=>some (.ret,B,blk)
 | .bad,_,_=>none
def tl(args:dZ):bJ:=λi=>args.getD i .undef
def Uy:V->Option V
 | .tup _=>none
 |v=>some v
def r7(al:cF)(B:bJ)(blk:aJ):List (Nat×Option eT)->Option dZ
 |[]=>some []
 |(t,none)::r=>match Uy (B t),r7 al B blk r with
  |some v,some q=>some (v::q)
  |_,_=>none
 |(t,some k)::r=>match Er blk (B t),r7 al B blk r with
  |some (D,rd),some q=>if al.jk rd then(tc k D).map (· ::q)else none
  |_,_=>none
def Bn:dZ->V
 |[v]=>v
 |F=>.tup F
def Bc:aJ:=λ_=>(0,none)
def sd(X:mF)(cp:kV)(D:rq)(n:Nat)(fn:aZ)(args:dZ)(blk:aJ):Option (V×aJ):=
 match dT X cp D n fn.body (tl args) blk with
 |some (.normal,B,A)=>(r7 X.al B A fn.results).map λF=>(Bn F,A)
 |some (.ret,B,A)=>(r7 X.al B A fn.results).map λF=>(Bn F,A)
 |_=>none
def EO(X:mF)(cp:kV)(D:rq)(n:Nat)(fn:aZ)(args:dZ):Option RV:=
 match sd X cp D n fn args Bc with
 |some (v,blk)=>lM blk v
 |none=>none
structure Sys where
 P:Program
 shared:Nat->Bool
 sites:Nat->aG
 lone:Nat->Bool
 fns:Nat->Option aZ
 prim:Nat->dZ->Option (Option RV)
 trig:Nat->dZ->Bool:=λ_ _=>false
 primS:Nat->dZ->cF->aJ->Option (V×kR):=λ_ _ _ _=>none
def Sys.ctx(S:Sys)(a:cF):mF:=⟨S.shared,S.sites,S.lone,a⟩
mutual
def kB(S:Sys):Nat->kV
 |0,_,_=>none
 |n+1,f,args=>match S.prim f args with
  |some r=>r
  |none=>match S.fns f with
   |some fn=>if I args<=fn.ntmps then EO (S.ctx .all) (kB S n) (jw S n) n fn args else none
   |none=>none
def jw(S:Sys):Nat->rq
 |0,_,_,_,_=>none
 |n+1,f,args,al,blk=>if S.trig f args=true then(S.primS f args al blk).map (λr=>(r.1,app r.2 blk))else match S.fns f with
  |some fn=>if I args<=fn.ntmps then sd (S.ctx al) (kB S n) (jw S n) n fn args blk else none
  |none=>none
end
def aL(S:Sys)(f:Nat)(args:dZ)(r:RV):Prop:= ∃n,kB S n f args=some r
def jQ(S:Sys)(f:Nat)(args:dZ)(al:cF)(blk:aJ)(v:V)(A:aJ):Prop:= ∃n,jw S n f args al blk=some (v,A)
abbrev iw:=oK->bJ->aJ->Prop
def W (S:Sys)(al:cF)(c:aR)(Q:iw)(B:bJ)(blk:aJ):Prop:=∃n e f A,dT (S.ctx al) (kB S n) (jw S n) n c B blk=some (e,f,A)/\Q e f A
def rl (S:Sys)(al:cF)(ops:fV)(Q:bJ->aJ->gG->Prop)(B:bJ)(blk:aJ)(tr:gG):Prop:=∃n h f A,jz (S.ctx al) (kB S n) (jw S n) ops B blk=some (h,f,A)/\Q h f (tr++A)
section
variable{m n:Nat}
def Nc(a b:kV):Prop:=∀f x r,a f x=some r->b f x=some r
def WC(a b:rq):Prop:=∀f x l k r,a f x l k=some r->b f x l k=some r
section
variable {X:mF} {cp oj:kV} {D G0:rq} (hp:Nc cp oj) (ae:WC D G0)
include hp ae
theorem aid{o:lI}{blk:aJ}{r:bJ×aJ×iV}(h:mh X cp D o B blk=some r):mh X oj G0 o B blk=some r:=by
 unfold mh at h |-;cases j:sF B o.guard with
 |none=>simp[j]at h
 |some b=>
  cases b with
  |false=>simpa [j]using h
  |true=>
   simp only[j]at h |-;cases A:cZ X.shared B blk o.op with
   |fail=>simp[A]at h
   |done v u rd=>simpa [A]using h
   |pc f F rd s=>
    simp only[A]at h |-;cases H:cp f F with
    |none=>simp[H]at h
    |some x=>rw[hp _ _ _ H];simpa [H]using h
   |sc f F=>
    simp only[A]at h |-;split at h
    .rename_i m;rw[aD m];cases H:D f F (jm X f F blk) blk with
     |none=>simp[H]at h
     |some x=>rw[ae _ _ _ _ _ H];simpa [H]using h
    cases h
theorem akf:∀ {ops:fV}{B:bJ}{blk:aJ}{r:bJ×aJ×gG},jz X cp D ops B blk=some r->jz X oj G0 ops B blk=some r:=by
 intro ops
 induction ops with
 |nil=>intro B blk r h;simpa [jz]using h
 |cons o os m=>
  intro B blk r h;simp only[jz]at h |-;cases f:mh X cp D o B blk with
  |none=>simp[f]at h
  |some x=>
   obtain⟨E,j,F⟩:=x;rw[aid hp ae f];simp only[f]at h |-;cases H:jz X cp D os E j with
   |none=>simp[H]at h
   |some y=>rw[m H];simpa [H]using h
omit hp ae in
theorem am6{f g:bJ->aJ->Option (oK×bJ×aJ)}(Q:∀e b r,f e b=some r->g e b=some r):
  ∀ {n m:Nat}{B:bJ}{blk:aJ}{r:oK×bJ×aJ},n<=m->mK f n B blk=some r->mK g m B blk=some r:=by
 intro n
 induction n with
 |zero=>intro m B blk r _ h;simp[mK]at h
 |succ n j=>
  intro m B blk r hm h;obtain⟨m,rfl⟩:∃k,m=k+1:=⟨m-1,J⟩;simp only[mK]at h |-;cases hf:f B blk with
  |none=>simp[hf]at h
  |some x=>
   obtain⟨e,E,u⟩:=x;rw[Q _ _ _ hf];cases e with
   |normal=>simp only[hf]at h |-;exact j J h
   |exit i=>simpa [hf]using h
   |ret=>simpa [hf]using h
theorem adC(y:n<=m):∀ {c:aR}{B:bJ}{blk:aJ}{r:oK×bJ×aJ},dT X cp D n c B blk=some r->dT X oj G0 m c B blk=some r:=by
 intro c
 induction c with
 |skip=>intro B blk r h;simpa [dT]using h
 |region d ops=>
  intro B blk r h;simp only[dT]at h |-;cases H:jz X cp D ops B blk with
  |none=>simp[H]at h
  |some x=>rw[akf hp ae H];simpa [H]using h
 |seq a b f j=>
  intro B blk r h;simp only[dT]at h |-;cases H:dT X cp D n a B blk with
  |none=>simp[H]at h
  |some x=>
   obtain⟨e,E,z⟩:=x;rw[f H];cases e with
   |normal=>simp only[H]at h |-;exact j h
   |exit i=>simpa [H]using h
   |ret=>simpa [H]using h
 |cond x a b f j=>
  intro B blk r h;simp only[dT]at h |-;split at h
  .split at h
   .rename_i u;simp only[u,if_true];exact f h
   rename_i u;simp only[u];exact j h
  cases h
 |block id c v=>
  intro B blk r h;simp only[dT]at h |-;cases H:dT X cp D n c B blk with
  |none=>simp[H]at h
  |some x=>rw[v H];simpa [H]using h
 |loop c v=>intro B blk r h;simp only[dT]at h |-;exact am6 (λ_ _ _ h=>v h) y h
 |exit id=>intro B blk r h;simpa [dT]using h
 |ret=>intro B blk r h;simpa [dT]using h
 |bad=>intro B blk r h;simp[dT]at h
theorem Z4(j:n<=m){fn:aZ}{blk:aJ}{r:V×aJ}(h:sd X cp D n fn args blk=some r):sd X oj G0 m fn args blk=some r:=by
 unfold sd at h |-;cases H:dT X cp D n fn.body (tl args) blk with
 |none=>simp[H]at h
 |some x=>rw[adC hp ae j H];simpa [H]using h
theorem ayK(j:n<=m){fn:aZ}{r:RV}(h:EO X cp D n fn args=some r):EO X oj G0 m fn args=some r:=by
 unfold EO at h |-;cases H:sd X cp D n fn args Bc with
 |none=>simp[H]at h
 |some x=>rw[Z4 hp ae j H];simpa [H]using h
end
theorem ac7(S:Sys):∀n,Nc (kB S n) (kB S (n+1))/\WC (jw S n) (jw S (n+1)):=by
 intro n
 induction n with
 |zero=>exact⟨λf x r h=>by simp[kB]at h,λf x l k r h=>by simp[jw]at h⟩
 |succ n j=>
  refine⟨λf x r h=>?_,λf x l k r h=>?_⟩
  .rw[kB]at h |-;cases hp:S.prim f x with
   |some R=>simpa [hp]using h
   |none=>
    simp only[hp]at h |-;cases hf:S.fns f with
    |none=>simp[hf]at h
    |some fn=>
     simp only[hf]at h |-;split at h
     .rename_i hl;rw[aD hl];exact ayK j.1 j.2 J h
     cases h
  rw[jw]at h |-;by_cases H:S.trig f x
  .rw[aD H]at h |-;exact h
  rw[aC H]at h |-;cases hf:S.fns f with
  |none=>simp[hf]at h
  |some fn=>
   simp only[hf]at h |-;split at h
   .rename_i hl;rw[aD hl];exact Z4 j.1 j.2 J h
   cases h
theorem OU(S:Sys)(h:n<=m):Nc (kB S n) (kB S m):=by
 induction h with
 |refl=>exactλ_ _ _ h=>h
 |step _ j=>exactλf x r hr=>(ac7 S _).1 f x r (j f x r hr)
theorem Oo(S:Sys)(h:n<=m):WC (jw S n) (jw S m):=by
 induction h with
 |refl=>exactλ_ _ _ _ _ h=>h
 |step _ j=>exactλf x l k r hr=>(ac7 S _).2 f x l k r (j f x l k r hr)
theorem aL.det{S:Sys}{r R:RV}(h:aL S f args r)(H:aL S f args R):r=R:=by obtain⟨n,j⟩:=h;obtain⟨m,hm⟩:=H;have a:=OU S (GD n m) _ _ _ j;have b:=OU S (Lt n m) _ _ _ hm;rw[a]at b;exact kA b
theorem H9(S:Sys){al:cF}(h:n<=m){c:aR}{blk:aJ}{r:oK×bJ×aJ}(hr:dT (S.ctx al) (kB S n) (jw S n) n c B blk=some r):
  dT (S.ctx al) (kB S m) (jw S m) m c B blk=some r:=adC (OU S h) (Oo S h) h hr
theorem avP(S:Sys){al:cF}(h:n<=m){blk:aJ}{r:bJ×aJ×gG}(hr:jz (S.ctx al) (kB S n) (jw S n) ops B blk=some r):
  jz (S.ctx al) (kB S m) (jw S m) ops B blk=some r:=akf (OU S h) (Oo S h) hr
variable {S:Sys} {al:cF} {Q:iw} {B:bJ} {blk:aJ}
theorem W.mono{c:aR}{f:iw}(h:W S al c Q B blk)(H:∀e B blk,Q e B blk->f e B blk):W S al c f B blk:=by obtain⟨n,e,m,A,u,j⟩:=h;exact⟨n,e,m,A,u,H _ _ _ j⟩
theorem ap2(h:Q .normal B blk):W S al .skip Q B blk:=⟨0,_,_,_,rfl,h⟩
theorem an5{id:Nat}(h:Q (.exit id) B blk):W S al (.exit id) Q B blk:=⟨0,_,_,_,rfl,h⟩
theorem aqL(h:Q .ret B blk):W S al .ret Q B blk:=⟨0,_,_,_,rfl,h⟩
def Pd(next:bJ->aJ->Prop)(Q:iw):iw
 | .normal,B,blk=>next B blk
 |e,B,blk=>Q e B blk
theorem aqy{a b:aR}(h:W S al a (Pd (W S al b Q) Q) B blk):W S al (.seq a b) Q B blk:=by
 obtain⟨n,e,x,A,f,H⟩:=h;cases e with
 |normal=>obtain⟨m,e,D,v,u,j⟩:=H;refine⟨max n m,e,D,v,?_,j⟩;simp only[dT];rw[H9 S (GD n m) f];exact H9 S (Lt n m) u
 |exit i=>exact⟨n,_,_,_,by simp[dT,f],H⟩
 |ret=>exact⟨n,_,_,_,by simp[dT,f],H⟩
theorem anj{x:fk}{a b:aR}{t:Bool}(m:ev B x=.one (.p (.bool t)))(h:if t=true then W S al a Q B blk else W S al b Q B blk):W S al (.cond x a b) Q B blk:=by
 cases t with
 |true=>obtain⟨n,e,f,A,j,H⟩:=h;exact⟨n,e,f,A,by simp[dT,m,j],H⟩
 |false=>obtain⟨n,e,f,A,j,H⟩:=(by simpa using h:W S al b Q B blk);exact⟨n,e,f,A,by simp[dT,m,j],H⟩
def rM(id:Nat)(Q:iw):iw
 | .exit i,B,blk=>if i=id then Q .normal B blk else Q (.exit i) B blk
 |e,B,blk=>Q e B blk
theorem an8{id:Nat}{c:aR}(h:W S al c (rM id Q) B blk):W S al (.block id c) Q B blk:=by
 obtain⟨n,e,m,A,f,H⟩:=h;cases e with
 |normal=>exact⟨n,_,_,_,by simp[dT,f],H⟩
 |ret=>exact⟨n,_,_,_,by simp[dT,f],H⟩
 |exit i=>
  simp only[rM]at H;by_cases j:i=id
  .simp only[j,if_true]at H;exact⟨n,_,_,_,by simp[dT,f,j],H⟩
  simp only[j,if_false]at H;exact⟨n,_,_,_,by simp[dT,f,j],H⟩
theorem abH(S:Sys){c:aR}{k l:Nat}(h:n<=m)(H:k<=l){r:oK×bJ×aJ}(hr:mK (dT (S.ctx al) (kB S n) (jw S n) n c) k B blk=some r):
  mK (dT (S.ctx al) (kB S m) (jw S m) m c) l B blk=some r:=am6 (λ_ _ _ f=>H9 S h f) H hr
theorem an1{c:aR}(E:Nat->bJ->aJ->Prop)(u N:Nat)(hk:u<=N)(L:E u B blk)
  (R:∀k B blk,k<=N->E k B blk->W S al c (Pd (λf A=>k<N/\E (k+1) f A) Q) B blk):W S al (.loop c) Q B blk:=by
 have x:∀j k B blk,k+j=N->E k B blk->∃n l e f A,mK (dT (S.ctx al) (kB S n) (jw S n) n c) l B blk=some (e,f,A)/\Q e f A:=by
  intro j
  induction j with
  |zero=>
   intro k B blk F y;obtain⟨n,e,z,D,H,h⟩:=R k B blk J y;cases e with
   |normal=>obtain⟨Z,_⟩:=h;omega
   |exit i=>exact⟨n,1,_,_,_,by simp[mK,H],h⟩
   |ret=>exact⟨n,1,_,_,_,by simp[mK,H],h⟩
  |succ j Y=>
   intro k B blk F y;obtain⟨n,e,z,D,H,h⟩:=R k B blk J y;cases e with
   |normal=>obtain⟨_,v⟩:=h;obtain⟨m,l,e,T,O,X,M⟩:=Y (k+1) z D J v;refine⟨max n m,l+1,e,T,O,?_,M⟩;simp only[mK];rw[H9 S (GD n m) H];exact abH S (Lt n m) (cJ _) X
   |exit i=>exact⟨n,1,_,_,_,by simp[mK,H],h⟩
   |ret=>exact⟨n,1,_,_,_,by simp[mK,H],h⟩
 obtain⟨n,l,e,f,A,H,h⟩:=x (N-u) u B blk J L;refine⟨max n l,e,f,A,?_,h⟩;simp only[dT];exact abH S (GD n l) (Lt n l) H
theorem aqb{d:Bool}(h:rl S al ops (λB blk A=>(d->vi ops [] A)/\Q .normal B blk) B blk []):W S al (.region d ops) Q B blk:=by
 obtain⟨n,j,f,A,m,H,u⟩:=h;refine⟨n,.normal,j,f,?_,u⟩;simp only[dT,m];cases d with
 |false=>simp
 |true=>simpa using H
theorem avB{tr:gG}(h:R B blk tr):rl S al [] R B blk tr:=⟨0,B,blk,[],rfl,by simpa using h⟩
theorem UY{o:lI}{os:fV}{tr:gG}{n:Nat}{j:bJ}{D:aJ}{e:iV}
  (v:mh (S.ctx al) (kB S n) (jw S n) o B blk=some (j,D,e)) (h:rl S al os R j D (tr++[e])):rl S al (o::os) R B blk tr:=by
 obtain⟨m,u,f,A,H,x⟩:=h;refine⟨max n m,u,f,e::A,?_,by simpa using x⟩;simp only[jz];rw[aid (OU S (GD n m)) (Oo S (GD n m)) v];simp[avP S (Lt n m) H]
def Ir(S:Sys)(al:cF)(p:AT)(d:eT)(B:bJ)(blk:aJ)(tr:gG)(ba:bJ->aJ->gG->Prop):Prop:=
 match p with
 | .fail=>False
 | .done v u r=>al.jk (r++u.map (·.1))=true/\ba (eQ B d v) (app u blk) (tr++[⟨r,u.map (·.1),[]⟩])
 | .pc f F r s=>∃x,aL S f F x/\match fR blk r s (x.iA (S.lone s))with
  |some (v,u)=>al.jk (r++u.map (·.1))=true/\ba (eQ B d v) (app u blk) (tr++[⟨r++u.map (·.1),u.map (·.1),[]⟩])
  |none=>False
 | .sc f F=>al.holds (jm (S.ctx al) f F blk)=true/\ ∃v A,jQ S f F (jm (S.ctx al) f F blk) blk v A/\
   ba (eQ B d v) A (tr++[⟨(jm (S.ctx al) f F blk).ids,(jm (S.ctx al) f F blk).ids,(jm (S.ctx al) f F blk).fs⟩])
def FJ(S:Sys)(al:cF)(w:Option Bool)(o:lI)(B:bJ)(blk:aJ)(tr:gG)(ba:bJ->aJ->gG->Prop):Prop:=
 match w with
 |none=>False
 |some false=>ba (eQ B o.dst .undef) blk (tr++[⟨[],[],[]⟩])
 |some true=>Ir S al (cZ S.shared B blk o.op) o.dst B blk tr ba
@[simp] theorem cF.IS (l:aG):cF.all.jk l:=by simp[cF.jk,cF.ok,cF.all]
@[simp] theorem cF.azo (b:cF):cF.all.holds b:=rfl
theorem ay4{o:lI}{os:fV}{tr:gG}
  (h:FJ S al (sF B o.guard) o B blk tr (rl S al os R)):rl S al (o::os) R B blk tr:=by
 cases H:sF B o.guard with
 |none=>simp[H,FJ]at h
 |some b=>
  cases b with
  |false=>rw[H]at h;exact UY (n:=0) (by simp[mh,H]) h
  |true=>
   rw[H]at h;simp only[FJ]at h;have m:(S.ctx al).shared=S.shared:=rfl;have z:(S.ctx al).al=al:=rfl;have E:(S.ctx al).lone=S.lone:=rfl;cases A:cZ S.shared B blk o.op with
   |fail=>simp[A,Ir]at h
   |done v u r=>rw[A]at h;obtain⟨j,h⟩:=h;exact UY (n:=0) (by simp only[mh,H,m,z,A,j,if_true]) h
   |pc f F r s=>
    rw[A]at h;obtain⟨x,⟨n,D⟩,h⟩:=h;cases hl:fR blk r s (x.iA (S.lone s))with
    |none=>simp[hl]at h
    |some y=>obtain⟨v,u⟩:=y;simp only[hl]at h;obtain⟨j,h⟩:=h;exact UY (n:=n) (by simp only[mh,H,m,z,E,A,D,hl,j,if_true]) h
   |sc f F=>rw[A]at h;obtain⟨j,v,L,⟨n,D⟩,h⟩:=h;exact UY (n:=n) (by simp only[mh,H,m,z,A,j,if_true,D]) h
end
variable {S:Sys} {al:cF}
def sW(al:cF)(f:List (Nat×Option eT))(R:V->aJ->Prop):iw
 | .exit _,_,_=>False
 |_,B,blk=>match r7 al B blk f with
  |some F=>R (Bn F) blk
  |none=>False
theorem Xi{fn:aZ}{blk:aJ}{R:V->aJ->Prop}(h:W S al fn.body (sW al fn.results R) (tl args) blk):
  ∃n v A,sd (S.ctx al) (kB S n) (jw S n) n fn args blk=some (v,A)/\R v A:=by
 obtain⟨n,e,m,A,j,H⟩:=h;refine⟨n,?_⟩;unfold sd;rw[j];cases e with
 |exit i=>exact H.elim
 |normal=>
  simp[sW]at H;split at H
  .rename_i F f;exact⟨_,_,by simp[show(S.ctx al).al=al from rfl,f,wy],H⟩
  exact H.elim
 |ret=>
  simp[sW]at H;split at H
  .rename_i F f;exact⟨_,_,by simp only[show(S.ctx al).al=al from rfl,f,wy],H⟩
  exact H.elim
theorem azv{fn:aZ}{r:RV}(hp:S.prim f args=none)(hf:S.fns f=some fn)(hl:I args<=fn.ntmps)
  (h:W S .all fn.body (sW .all fn.results λv blk=>lM blk v=some r) (tl args) Bc):aL S f args r:=by
 obtain⟨n,v,A,j,H⟩:=Xi h;refine⟨n+1,?_⟩;rw[kB];simp[hp,hf,hl,if_true];unfold EO;rw[j];exact H
theorem oZ{fn:aZ}{blk:aJ}{R:V->aJ->Prop}(hf:S.fns f=some fn)(hl:I args<=fn.ntmps)
  (h:W S al fn.body (sW al fn.results R) (tl args) blk) (m:S.trig f args=false:=by rfl):∃v A,jQ S f args al blk v A/\R v A:=by
 obtain⟨n,v,A,j,H⟩:=Xi h;refine⟨v,A,⟨n+1,?_⟩,H⟩;rw[jw]
 grind
variable {S:Sys} {al:cF} {Q:iw} {B:bJ} {blk:aJ}
theorem aBR:W S al .skip Q B blk↔Q .normal B blk:=⟨λ⟨_,_,_,_,h,q⟩=>by simp[dT]at h;obtain⟨rfl,rfl,rfl⟩:=h;exact q,ap2⟩
theorem atf{id:Nat}:W S al (.exit id) Q B blk↔Q (.exit id) B blk:=⟨λ⟨_,_,_,_,h,q⟩=>by simp[dT]at h;obtain⟨rfl,rfl,rfl⟩:=h;exact q,an5⟩
theorem av5:W S al .ret Q B blk↔Q .ret B blk:=⟨λ⟨_,_,_,_,h,q⟩=>by simp[dT]at h;obtain⟨rfl,rfl,rfl⟩:=h;exact q,aqL⟩
theorem azK{a b:aR}:W S al (.seq a b) Q B blk↔W S al a (Pd (W S al b Q) Q) B blk:=by
 refine⟨?_,aqy⟩;rintro⟨n,e,f,A,h,q⟩
 simp[dT]at h;cases H:dT (S.ctx al) (kB S n) (jw S n) n a B blk with
 |none=>simp[H]at h
 |some x=>
  obtain⟨E,j,D⟩:=x;refine⟨n,E,j,D,H,?_⟩;cases E with
  |normal=>simp[H]at h;exact⟨n,e,f,A,h,q⟩
  |exit i=>simp[H]at h;obtain⟨rfl,rfl,rfl⟩:=h;exact q
  |ret=>simp[H]at h;obtain⟨rfl,rfl,rfl⟩:=h;exact q
def Pu(v:V)(A B:Prop):Prop:=
 match v with
 | .one (.p (.bool t))=>if t=true then A else B
 |_=>False
theorem aoS{x:fk}{a b:aR}:W S al (.cond x a b) Q B blk↔Pu (ev B x) (W S al a Q B blk) (W S al b Q B blk):=by
 constructor
 .rintro ⟨n,e,f,A,h,q⟩
  simp[dT]at h;split at h
  .rename_i t H;rw[H];cases t with
   |true=>exact⟨n,e,f,A,by simpa using h,q⟩
   |false=>exact⟨n,e,f,A,by simpa using h,q⟩
  cases h
 intro h;unfold Pu at h;split at h
 .rename_i t H;exact anj H h
 exact h.elim
theorem azU{id:Nat}{c:aR}:W S al (.block id c) Q B blk↔W S al c (rM id Q) B blk:=by
 refine⟨?_,an8⟩;rintro⟨n,e,f,A,h,q⟩
 simp[dT]at h;cases H:dT (S.ctx al) (kB S n) (jw S n) n c B blk with
 |none=>simp[H]at h
 |some x=>
  obtain⟨E,j,D⟩:=x;refine⟨n,E,j,D,H,?_⟩;cases E with
  |normal=>simp[H]at h;obtain⟨rfl,rfl,rfl⟩:=h;exact q
  |ret=>simp[H]at h;obtain⟨rfl,rfl,rfl⟩:=h;exact q
  |exit i=>
   simp[rM]
   grind
theorem aab{tr:gG}:rl S al [] R B blk tr↔R B blk tr:=by
 refine⟨?_,avB⟩;rintro⟨n,j,f,A,h,q⟩
 simp[jz]at h
 grind
theorem SP{o:lI}{os:fV}{tr:gG}:
  rl S al (o::os) R B blk tr↔FJ S al (sF B o.guard) o B blk tr (rl S al os R):=by
 refine⟨?_,ay4⟩;rintro⟨n,aH,X,A,h,q⟩
 simp only[jz]at h;cases H:mh (S.ctx al) (kB S n) (jw S n) o B blk with
 |none=>simp[H]at h
 |some x=>
  obtain⟨N,M,e⟩:=x;simp only[H]at h;cases z:jz (S.ctx al) (kB S n) (jw S n) os N M with
  |none=>simp[z]at h
  |some y=>
   obtain⟨Y,Z,L⟩:=y;simp[z]at h;obtain⟨rfl,rfl,rfl⟩:=h;have D:rl S al os R N M (tr++[e]):=⟨n,_,_,L,z,by simpa using q⟩;unfold mh at H;cases E:sF B o.guard with
   |none=>simp[E]at H
   |some b=>
    cases b with
    |false=>simp[E]at H;obtain⟨rfl,rfl,rfl⟩:=H;exact D
    |true=>
     simp only[E]at H;simp only[FJ];have Q:(S.ctx al).shared=S.shared:=rfl;have O:(S.ctx al).al=al:=rfl;have T:(S.ctx al).lone=S.lone:=rfl;simp only[Q,O,T]at H;cases m:cZ S.shared B blk o.op with
     |fail=>simp[m]at H
     |done v u r=>
      simp only[m]at H;split at H
      .rename_i aF;cases H;exact⟨aF,D⟩
      cases H
     |pc f F r s=>
      simp only[m]at H;cases j:kB S n f F with
      |none=>simp[j]at H
      |some x=>
       refine⟨x,⟨n,j⟩,?_⟩
       grind
     |sc f F=>
      simp only[m]at H;split at H
      .rename_i aF;cases j:jw S n f F (jm (S.ctx al) f F blk) blk with
       |none=>simp[j]at H
       |some x=>obtain⟨v,b⟩:=x;simp only[j]at H;cases H;exact⟨aF,v,_,⟨n,j⟩,D⟩
      cases H
theorem alr{d:Bool}:W S al (.region d ops) Q B blk↔rl S al ops (λB blk A=>(d->vi ops [] A)/\Q .normal B blk) B blk []:=by
 refine⟨?_,aqb⟩;rintro⟨n,e,m,j,h,q⟩
 simp[dT]at h;cases H:jz (S.ctx al) (kB S n) (jw S n) ops B blk with
 |none=>simp[H]at h
 |some x=>
  obtain⟨u,D,A⟩:=x;simp[H]at h;cases d with
  |false=>simp at h;obtain⟨rfl,rfl,rfl⟩:=h;exact⟨n,_,_,A,H,aE,q⟩
  |true=>simp at h;obtain⟨f,rfl,rfl,rfl⟩:=h;exact⟨n,_,_,A,H,λ_=>by simpa using f,q⟩
section
variable{v:Value}
inductive dh (w:World) (own:Nat->Prop):PV->Value->Prop where
 |bool (b:Bool):dh w own (.bool b) (.bool b)
 |int (k:IntKind) (n:Int):dh w own (.int k n) (.int k n)
 |str (s:ByteArray):dh w own (.str s) (.string s)
 |AP:dh w own .AP (.pointer none)
 |nils:dh w own .nils (.slice none 0 0)
 |tO:dh w own .tO (.map none)
 |zD:dh w own .zD .nilFunc
 |nili:dh w own .nili .nilIface
 |ifc (d:TypeId) (x:Value):dh w own .ifc (.iface d x)
 |zs (a:Option Addr):dh w own .zs (.slice a 0 0)
 |box {cs:dW} (b o:Nat) (f:Nat->Value) (ho:cs≠[]-> ¬own b)
   (hc:∀(j:Nat) (x:PV),cs[j]?=some x->w.cell? ⟨b,o+j,none⟩=some (f j))
   (hr:∀(j:Nat) (x:PV),cs[j]?=some x->dh w own x (f j)):dh w own (.box cs) (.pointer (some ⟨b,o,none⟩))
 |A3 (a:Option Addr) (cap:Nat) (hn:a=none->cap=0) (hm:cap<=maxLen):dh w own (.sl []) (.slice a 0 cap)
 |sl {es:dI} (b o cap sz:Nat) (f:Nat->Value) (ho:es.flatten≠[]-> ¬own b) (hl:I es<=cap) (hm:cap<=maxLen) (hsz:∀e∈es,I e=sz)
   (hc:∀(j:Nat) (x:PV),es.flatten[j]?=some x->w.cell? ⟨b,o+j,none⟩=some (f j))
   (hr:∀(j:Nat) (x:PV),es.flatten[j]?=some x->dh w own x (f j)):dh w own (.sl es) (.slice (some ⟨b,o,none⟩) (I es) cap)
 |mp {ag:Bool}{es:yF} (r:Nat) (ents:Array MapEntry) (clock:Nat) (g:Nat->Array Value) (ho:¬own r) (hb:w.heap[r]?=some (.map ents clock)) (hl:ents.size=I es)
   (hk:∀(i:Nat) (q:PV) (v:dW) (e:MapEntry),es[i]?=some (q,v)->ents[i]?=some e->dh w own q e.key)
   (hv:∀(i:Nat) (q:PV) (v:dW) (e:MapEntry),es[i]?=some (q,v)->ents[i]?=some e->(g i).size=I v/\(ag->e.val=.agg (g i))/\(ag=false-> #[e.val]=g i))
   (hr:∀(i:Nat) (q:PV) (v:dW) (j:Nat) (x:PV) (u:Value),es[i]?=some (q,v)->v[j]?=some x->(g i)[j]?=some u->dh w own x u):dh w own (.mp ag es) (.map (some r))
 |fn {f:Nat}{a b:dW} (A B:Array Value) (ha:A.size=I a) (hb:B.size=I b)
   (zt:∀(j:Nat) (x:PV) (u:Value),a[j]?=some x->A[j]?=some u->dh w own x u)
   (qB:∀(j:Nat) (x:PV) (u:Value),b[j]?=some x->B[j]?=some u->dh w own x u):dh w own (.fn f a b) (.func (.func f) A B)
theorem dh.Rq{w:World}{own:Nat->Prop}{x:PV}(h:dh w own x v):v.oneCell':=by cases h<;>rfl
theorem dh.cells{w:World}{own:Nat->Prop}{x:PV}(h:dh w own x v):v.cells= #[v]:=by cases h<;>rfl
theorem WS{w:World}{b o:Nat}(h:w.cell? ⟨b,o,none⟩=some v):b<w.heap.size:=World.block_lt_of_cell? w ⟨b,o,none⟩ h
theorem yg{w:World}{b:Nat}{o:Obj}(h:w.heap[b]?=some o):b<w.heap.size:=(Array.getElem?_eq_some_iff.1 h).1
theorem dh.mono{w:World}{own:Nat->Prop}(y:∀c,c<w.heap.size-> ¬own c->M.heap[c]?=w.heap[c]? /\ ¬CR c){x:PV}{v:Value}
  (h:dh w own x v):dh M CR x v:=by
 induction h with
 |bool b=>exact .bool b
 |int k n=>exact .int k n
 |str s=>exact .str s
 |AP=>exact .AP
 |nils=>exact .nils
 |tO=>exact .tO
 |zD=>exact .zD
 |nili=>exact .nili
 |ifc d x=>exact .ifc d x
 |zs a=>exact .zs a
 | @box D b o f ho F _ X=>
  cases D with
  |nil=>exact .box b o f (λh=>(h rfl).elim) (λL x h=>by simp at h) (λL x h=>by simp at h)
  |cons c r=>have H:=WS (F 0 c rfl);have u:=ho aE;refine .box b o f (λ_=>(y b H u).2) (λL x h=>?_) X;rw[World.cell?_of_block (y b H u).1];exact F L x h
 |A3 a O u hm=>exact .A3 a O u hm
 | @sl A b o O j f ho hl hm z F _ X=>
  cases hf:A.flatten with
  |nil=>exact .sl b o O j f (λh=>(h hf).elim) hl hm z (λL x h=>by simp[hf]at h) (λL x h=>by simp[hf]at h)
  |cons c r=>have H:=WS (F 0 c (by simp[hf]));have u:=ho (by simp[hf]);refine .sl b o O j f (λ_=>(y b H u).2) hl hm z (λL x h=>?_) X;rw[World.cell?_of_block (y b H u).1];exact F L x h
 | @mp ag A r E m g ho H hl _ Y _ R T=>exact .mp r E m g (y r (yg H) ho).2 ((y r (yg H) ho).1.trans H) hl R Y T
 |fn ab B Z H _ _ N Q=>exact .fn ab B Z H N Q
structure a_ where
 w:World
 blk:aJ
 σ:Nat->Nat
 κ:Nat->Nat
 fr:Nat->Prop
def gP.iM:gP->Bool
 | .var _| .arr _ _ _| .lh _ _ _| .map _ _=>true
 |_=>false
def lW:Nat×Option gP->eT
 |(_,some (.arr _ j _))=>some j
 |(_,some (.lh _ j _))=>some j
 |(_,some (.sL _ j _))=>some j
 |_=>none
def a_.iM(m:a_)(c:Nat):Prop:= ∃id o,(m.blk id).2=some o/\o.iM/\m.σ id=c
def a_.own(m:a_)(c:Nat):Prop:=m.fr c\/m.iM c
inductive gh (m:a_):bd->Value->Prop where
 |p {x:PV}{v:Value} (h:dh m.w m.own x v):gh m (.p x) v
 |bR {id g off:Nat} (a:Addr) (hg:g<=(m.blk id).1) (h:(m.blk id).1=g->(m.blk id).2.isSome->a=⟨m.σ id,off,none⟩):gh m (.bR id g off) (.pointer (some a))
 |dR {id g i off:Nat} (a:Addr) (hg:g<=(m.blk id).1) (h:∀sz,(m.blk id).1=g->lW (m.blk id)=some sz->a=⟨m.σ id,i*sz+off,none⟩):gh m (.dR id g i off) (.pointer (some a))
 |hsl {id g z off len:Nat} (a:Addr) (cap:Nat) (hg:g<=(m.blk id).1) (hl:len<=cap) (hm:cap<=maxLen)
   (h:∀sz,(m.blk id).1=g->lW (m.blk id)=some sz->sz=z/\(off=0\/0<len->a=⟨m.σ id,off*sz,none⟩)/\off+cap=m.κ id):
   gh m (.hsl id g z off len) (.slice (some a) len cap)
 |nV {id g:Nat} (r:Nat) (hg:g<=(m.blk id).1) (h:(m.blk id).1=g->(m.blk id).2.isSome->r=m.σ id):gh m (.nV id g) (.map (some r))
 |hfn {f:Nat}{a b:eO} (A B:Array Value) (ha:A.size=I a) (hb:B.size=I b)
   (zt:∀(j:Nat) (x:bd) (u:Value),a[j]?=some x->A[j]?=some u->gh m x u)
   (qB:∀(j:Nat) (x:bd) (u:Value),b[j]?=some x->B[j]?=some u->gh m x u):gh m (.hfn f a b) (.func (.func f) A B)
theorem gh.Rq{m:a_}{x:bd}(h:gh m x v):v.oneCell':=by
 cases h with
 |p h=>exact h.Rq
 |_=>rfl
theorem gh.cells{m:a_}{x:bd}(h:gh m x v):v.cells= #[v]:=by
 cases h with
 |p h=>exact h.cells
 |_=>rfl
def eH(m:a_)(D:eO)(F:List Value):Prop:=I F=I D/\ ∀(j:Nat) (x:bd) (u:Value),D[j]?=some x->F[j]?=some u->gh m x u
def eL(w:World)(own:Nat->Prop)(D:dW)(F:List Value):Prop:=I F=I D/\ ∀(j:Nat) (x:PV) (u:Value),D[j]?=some x->F[j]?=some u->dh w own x u
def pS(m:a_):V->Value->Prop
 | .undef,v=>v=undef
 | .one c,v=>gh m c v
 | .agg D,v=>∃arr,v=.agg arr/\eH m D arr.toList
 | .tup _,_=>False
def df(m:a_):V->Value->Prop
 | .tup F,v=>∃arr,v=.tuple arr/\arr.size=I F/\ ∀(j:Nat) (x:V) (u:Value),F[j]?=some x->arr[j]?=some u->pS m x u
 |x,v=>pS m x v
def uy(m:a_)(id:Nat):gP->Prop
 | .var D=>∃H L,m.w.heap[m.σ id]?=some (.cells H L (0,0))/\eH m D H.toList
 | .fvar D=>∃H L Y,m.w.heap[m.σ id]?=some (.cells H L Y)/\eL m.w m.own D H.toList/\ ¬m.own (m.σ id)
 | .arr L j A=>∃H,m.w.heap[m.σ id]?=some (.cells H L (0,0))/\0<j/\(∀e∈A,I e=j)/\I A<=m.κ id/\m.κ id<=maxLen/\H.size=m.κ id*j/\
   eL m.w m.own A.flatten (H.toList.take (I A*j))
 | .sL L j A=>∃H Y,m.w.heap[m.σ id]?=some (.cells H L Y)/\0<j/\(∀e∈A,I e=j)/\I A<=m.κ id/\m.κ id<=maxLen/\H.size=m.κ id*j/\
   eL m.w m.own A.flatten (H.toList.take (I A*j))/\ ¬m.own (m.σ id)
 | .lh L j A=>∃H,m.w.heap[m.σ id]?=some (.cells H L (0,0))/\0<j/\(∀e∈A,I e=j)/\I A<=m.κ id/\m.κ id<=maxLen/\H.size=m.κ id*j/\
   eH m A.flatten (H.toList.take (I A*j))
 | .map h A=>∃E f,m.w.heap[m.σ id]?=some (.map E f)/\E.size=I A/\
   ∀(i:Nat) (q:PV) (v:dW) (e:MapEntry),A[i]?=some (q,v)->E[i]?=some e->dh m.w m.own q e.key/\ ∃g:Array Value,(h->e.val=.agg g)/\(h=false-> #[e.val]=g)/\eL m.w m.own v g.toList
 | .fmap h A=>∃E f,m.w.heap[m.σ id]?=some (.map E f)/\E.size=I A/\
   (∀(i:Nat) (q:PV) (v:dW) (e:MapEntry),A[i]?=some (q,v)->E[i]?=some e->dh m.w m.own q e.key/\ ∃g:Array Value,(h->e.val=.agg g)/\(h=false-> #[e.val]=g)/\eL m.w m.own v g.toList)/\ ¬m.own (m.σ id)
structure ez (w0:World) (m:a_):Prop where
 os:m.w.os=w0.os
 tape:m.w.tape=w0.tape
 output:m.w.output=w0.output
 size:w0.heap.size<=m.w.heap.size
 base:∀c,c<w0.heap.size->m.w.heap[c]?=w0.heap[c]?
 obj:∀id o,(m.blk id).2=some o->uy m id o
 gT:∀id o,(m.blk id).2=some o->o.iM->w0.heap.size<=m.σ id/\ ¬m.fr (m.σ id)
 frlt:∀c,m.fr c->c<m.w.heap.size
 inj:∀id gI o o',(m.blk id).2=some o->o.iM->(m.blk gI).2=some o'->o'.iM->m.σ id=m.σ gI->id=gI
structure hs (m m':a_):Prop where
 os:m'.w.os=m.w.os
 tape:m'.w.tape=m.w.tape
 output:m'.w.output=m.w.output
 size:m.w.heap.size<=m'.w.heap.size
 keep:∀c,c<m.w.heap.size-> ¬m.iM c->m'.w.heap[c]?=m.w.heap[c]?
 iM:∀c,c<m.w.heap.size->m'.iM c->m.iM c
 less:∀c,c<m.w.heap.size-> ¬m.own c-> ¬m'.own c
 gen:∀id,(m.blk id).1<=(m'.blk id).1
 ref:∀id,(m'.blk id).1=(m.blk id).1->(m'.blk id).2.isSome->(m.blk id).2.isSome/\m'.σ id=m.σ id/\m'.κ id=m.κ id/\lW (m'.blk id)=lW (m.blk id)
theorem hs.refl(m:a_):hs m m:=⟨rfl,rfl,rfl,cJ _,λ_ _ _=>rfl,λ_ _ h=>h,λ_ _ h=>h,λ_=>cJ _,λ_ _ h=>⟨h,rfl,rfl,rfl⟩⟩
theorem hs.trans{a b c:a_}(h:hs a b)(k:hs b c):hs a c where
 os:=k.os.trans h.os
 tape:=k.tape.trans h.tape
 output:=k.output.trans h.output
 size:=oO h.size k.size
 keep x H hm:=(k.keep x (Cf H h.size) λj=>hm (h.iM x H j)).trans (h.keep x H hm)
 iM x H hm:=h.iM x H (k.iM x (Cf H h.size) hm)
 less x H m:=k.less x (Cf H h.size) (h.less x H m)
 gen id:=oO (h.gen id) (k.gen id)
 ref id v ae:=by
  have y:=h.gen id;have n:=k.gen id;obtain⟨f,E,z,u⟩:=k.ref id J ae;obtain _:=h.ref id J f
  grind
theorem hs.own{m M:a_}(h:hs m M):∀c,c<m.w.heap.size-> ¬m.own c->M.w.heap[c]?=m.w.heap[c]? /\ ¬M.own c:=λc H f=>⟨h.keep c H λhm=>f (.inr hm),h.less c H f⟩
theorem afY{x:Nat×Option gP}(h:lW x=some j):x.2.isSome:=by
 obtain⟨g,o⟩:=x;cases o with
 |none=>simp[lW]at h
 |some o=>rfl
structure wh (m m':a_):Prop where
 own:∀c,c<m.w.heap.size-> ¬m.own c->m'.w.heap[c]?=m.w.heap[c]? /\ ¬m'.own c
 gen:∀id,(m.blk id).1<=(m'.blk id).1
 ref:∀id,(m'.blk id).1=(m.blk id).1->(m'.blk id).2.isSome->(m.blk id).2.isSome/\m'.σ id=m.σ id/\m'.κ id=m.κ id/\lW (m'.blk id)=lW (m.blk id)
theorem hs.zero{m M:a_}(h:hs m M):wh m M:=⟨h.own,h.gen,h.ref⟩
theorem dh.ev{m m':a_}(h:wh m m'){x:PV}(hr:dh m.w m.own x v):dh m'.w m'.own x v:=hr.mono h.own
theorem gh.ev{m m':a_}(h:wh m m'){x:bd}(hr:gh m x v):gh m' x v:=by
 induction hr with
 |p hp=>exact .p (hp.ev h)
 | @bR id g E a hg H=>
  have Z:=h.gen id;refine .bR a J λn ae=>?_;obtain _:=h.ref id J ae
  grind
 | @dR id g i E a hg H=>
  have Z:=h.gen id;refine .dR a J λj n ae=>?_;obtain _:=h.ref id J (afY ae)
  grind
 | @hsl id g z E len a O hg hl hm H=>
  have Z:=h.gen id;refine .hsl a O J hl hm λj n ae=>?_;obtain _:=h.ref id J (afY ae)
  grind
 | @nV id g r hg hr=>
  have Z:=h.gen id;refine .nV r J λn ae=>?_;obtain _:=h.ref id J ae
  grind
 |hfn A B H y _ _ u f=>exact .hfn A B H y u f
theorem eH.ev{m m':a_}(h:wh m m')(hr:eH m D F):eH m' D F:=⟨hr.1,λj x u a b=>(hr.2 j x u a b).ev h⟩
theorem eL.mono{w:World}{own:Nat->Prop}(h:∀c,c<w.heap.size-> ¬own c->M.heap[c]?=w.heap[c]? /\ ¬CR c){D:dW}
  (hr:eL w own D F):eL M CR D F:=⟨hr.1,λj x u a b=>(hr.2 j x u a b).mono h⟩
theorem eL.ev{m m':a_}(h:wh m m'){D:dW}(hr:eL m.w m.own D F):eL m'.w m'.own D F:=hr.mono h.own
theorem pS.ev{m m':a_}(h:wh m m'){x:V}(hr:pS m x v):pS m' x v:=by
 cases x with
 |undef=>exact hr
 |one c=>exact gh.ev h hr
 |agg D=>obtain⟨arr,e,H⟩:=hr;exact⟨arr,e,H.ev h⟩
 |tup F=>exact hr.elim
theorem df.ev{m m':a_}(h:wh m m'){x:V}(hr:df m x v):df m' x v:=by
 cases x with
 |tup F=>obtain⟨arr,e,ae,H⟩:=hr;exact⟨arr,e,ae,λj x u a b=>(H j x u a b).ev h⟩
 |undef=>exact pS.ev (x:=.undef) h hr
 |one c=>exact pS.ev (x:=.one c) h hr
 |agg D=>exact pS.ev (x:=.agg D) h hr
theorem uy.ev{m m':a_}(h:wh m m'){id:Nat}{o:gP}(ae:m'.σ id=m.σ id)(u:m'.κ id=m.κ id)(z:m'.w.heap[m.σ id]?=m.w.heap[m.σ id]?)
  (hr:uy m id o):uy m' id o:=by
 cases o with
 |var D=>obtain⟨H,L,a,b⟩:=hr;exact⟨H,L,by rw[ae,z];exact a,b.ev h⟩
 |fvar D=>obtain⟨H,L,Y,a,b,c⟩:=hr;exact⟨H,L,Y,by rw[ae,z];exact a,b.ev h,by rw[ae];exact(h.own _ (yg a) c).2⟩
 |arr L j A=>obtain⟨H,a,b,c,d,e,f,g⟩:=hr;exact⟨H,by rw[ae,z];exact a,b,c,by rw[u];exact d,by rw[u];exact e,by rw[u];exact f,g.ev h⟩
 |sL L j A=>obtain⟨H,Y,a,b,c,d,e,f,g,i⟩:=hr;exact⟨H,Y,by rw[ae,z];exact a,b,c,by rw[u];exact d,by rw[u];exact e,by rw[u];exact f,g.ev h,by rw[ae];exact(h.own _ (yg a) i).2⟩
 |lh L j A=>obtain⟨H,a,b,c,d,e,f,g⟩:=hr;exact⟨H,by rw[ae,z];exact a,b,c,by rw[u];exact d,by rw[u];exact e,by rw[u];exact f,g.ev h⟩
 |map B A=>obtain⟨E,n,a,b,c⟩:=hr;exact⟨E,n,by rw[ae,z];exact a,b,λi q v e x y=>let ⟨p,g,g1,g2,g3⟩:=c i q v e x y;⟨p.ev h,g,g1,g2,g3.ev h⟩⟩
 |fmap B A=>obtain⟨E,n,a,b,c,d⟩:=hr;exact⟨E,n,by rw[ae,z];exact a,b,λi q v e x y=>let ⟨p,g,g1,g2,g3⟩:=c i q v e x y;⟨p.ev h,g,g1,g2,g3.ev h⟩,by rw[ae];exact(h.own _ (yg a) d).2⟩
theorem uy.lt{m:a_}{id:Nat}{o:gP}(hr:uy m id o):m.σ id<m.w.heap.size:=by
 cases o with
 |var D=>obtain⟨H,L,a,_⟩:=hr;exact yg a
 |fvar D=>obtain⟨H,L,Y,a,_⟩:=hr;exact yg a
 |arr L j A=>obtain⟨H,a,_⟩:=hr;exact yg a
 |sL L j A=>obtain⟨H,Y,a,_⟩:=hr;exact yg a
 |lh L j A=>obtain⟨H,a,_⟩:=hr;exact yg a
 |map h A=>obtain⟨E,f,a,_⟩:=hr;exact yg a
 |fmap h A=>obtain⟨E,f,a,_⟩:=hr;exact yg a
theorem uy.calm{m:a_}{id:Nat}{o:gP}(hr:uy m id o)(ho:o.iM=false):¬m.own (m.σ id):=by
 cases o with
 |fvar D=>obtain⟨H,L,Y,_,_,c⟩:=hr;exact c
 |sL L j A=>obtain⟨H,Y,_,_,_,_,_,_,_,c⟩:=hr;exact c
 |fmap f A=>obtain⟨_,_,_,_,_,c⟩:=hr;exact c
 |_=>simp[gP.iM]at ho
end
variable{m:a_}
variable {T:World}
section
variable{m:a_}
structure jv (w w':World):Prop where
 os:w'.os=w.os
 tape:w'.tape=w.tape
 output:w'.output=w.output
 size:w.heap.size<=w'.heap.size
 keep:∀c,c<w.heap.size->w'.heap[c]?=w.heap[c]?
theorem jv.refl(w:World):jv w w:=⟨rfl,rfl,rfl,cJ _,λ_ _=>rfl⟩
theorem jv.trans{a b c:World}(h:jv a b)(k:jv b c):jv a c:=
 ⟨k.os.trans h.os,k.tape.trans h.tape,k.output.trans h.output,oO h.size k.size,λx H=>(k.keep x (Cf H h.size)).trans (h.keep x H)⟩
theorem jv.alloc(w:World)(o:Obj):jv w (w.alloc o):=⟨rfl,rfl,rfl,aE,λ_ h=>heap_alloc_old w o h⟩
theorem jv.drew(w:World):jv w w.drew:=⟨rfl,rfl,rfl,cJ _,λ_ _=>rfl⟩
def a_.later(m:a_)(M:World)(X:Nat->Prop):a_:={m with w:=M,fr:=λc=>m.fr c\/X c}
theorem amk{X:Nat->Prop}{c:Nat}:(m.later M X).own c↔m.own c\/X c:=by
 unfold a_.own a_.iM a_.later
 grind
theorem K6{M:World}{X:Nat->Prop}(hg:jv m.w M)(f:∀c,X c->m.w.heap.size<=c):hs m (m.later M X) where
 os:=hg.os
 tape:=hg.tape
 output:=hg.output
 size:=hg.size
 keep c H _:=hg.keep c H
 iM c _ h:=h
 less c H j h:=by
  rcases amk.1 h with h|h
  .exact j h
  have:=f c h;omega
 gen _:=cJ _
 ref _ _ ae:=⟨ae,rfl,rfl,rfl⟩
theorem NH{M:World}{X:Nat->Prop}(h:ez T m)(hg:jv m.w M)(f:∀c,X c->m.w.heap.size<=c/\c<M.heap.size):ez T (m.later M X) where
 os:=hg.os.trans h.os
 tape:=hg.tape.trans h.tape
 output:=hg.output.trans h.output
 size:=oO h.size hg.size
 base c H:=(hg.keep c (Cf H h.size)).trans (h.base c H)
 obj id o ho:=(h.obj id o ho).ev (K6 hg λc H=>(f c H).1).zero rfl rfl (hg.keep _ (h.obj id o ho).lt)
 gT id o ho hm:=by
  refine⟨(h.gT id o ho hm).1,?_⟩;rintro(hf|j)
  .exact(h.gT id o ho hm).2 hf
  have n:=(f _ j).1;have u:=(h.obj id o ho).lt;simp[a_.later]at n;omega
 frlt c H:=by
  rcases H with hf|j
  .exact Cf (h.frlt c hf) hg.size
  exact(f c j).2
 inj:=h.inj
def a_.install(m:a_)(s c k:Nat)(o:gP):a_:=⟨m.w,dV m.blk s ((m.blk s).1+1,some o),dV m.σ s c,dV m.κ s k,λx=>m.fr x/\x≠c⟩
theorem alC{s c k:Nat}{o:gP}{x:Nat}(h:(m.install s c k o).iM x):x=c\/m.iM x:=by
 obtain⟨id,O,ho,hm,f⟩:=h;simp[a_.install,bG]at ho f;by_cases H:id=s
 .grind
 simp[H,if_false]at ho f;exact .inr ⟨id,O,ho,hm,f⟩
theorem SY{s c k:Nat}{o:gP}(H:m.fr c){x:Nat}(h:(m.install s c k o).own x):m.own x:=by
 rcases h with h|h
 .exact .inl h.1
 rcases alC h with rfl|h
 .exact .inl H
 exact .inr h
theorem Q3{M:a_}{s c k:Nat}{o:gP}(h:hs m M)(n:M.fr c)(u:m.w.heap.size<=c\/m.iM c):hs m (M.install s c k o) where
 os:=h.os
 tape:=h.tape
 output:=h.output
 size:=h.size
 keep:=h.keep
 iM x H hm:=by
  rcases alC hm with rfl|hm
  .grind
  exact h.iM x H hm
 less x H E hm:=h.less x H E (SY n hm)
 gen id:=by
  simp[a_.install,bG];have:=h.gen id
  grind
 ref id f ae:=by
  have hg:=h.gen id;simp[a_.install,bG]at f ae |-;by_cases j:id=s
  .grind
  simp[j,if_false]at f ae |-;exact h.ref id f ae
theorem Ry{s c k:Nat}{o:gP}(h:ez T m)(y:m.fr c)(E:T.heap.size<=c)(ho:uy (m.install s c k o) s o):ez T (m.install s c k o):=by
 have D:∀x,x<m.w.heap.size-> ¬m.own x->(m.install s c k o).w.heap[x]?=m.w.heap[x]? /\ ¬(m.install s c k o).own x:=λx _ N=>⟨rfl,λh=>N (SY y h)⟩
 have F:wh m (m.install s c k o):=by
  refine⟨D,λid=>?_,λid f ae=>?_⟩
  .simp only[a_.install,bG]
   grind
  simp only[a_.install,bG]at f ae |-
  grind
 exact{
  os:=h.os
  tape:=h.tape
  output:=h.output
  size:=h.size
  base:=h.base
  obj:=by
   intro id O Q;by_cases H:id=s
   .subst H;simp only[a_.install,bG,if_true,iW]at Q;exact Q▸ho
   simp only[a_.install,bG,H,if_false]at Q;exact(h.obj id O Q).ev F (by simp[a_.install,bG,H]) (by simp[a_.install,bG,H]) rfl
  gT:=by
   intro id O Q hm;by_cases H:id=s
   .subst H;simp only[a_.install,bG,if_true];exact⟨E,λh=>h.2 rfl⟩
   simp only[a_.install,bG,H,if_false]at Q |-;exact⟨(h.gT id O Q hm).1,λhf=>(h.gT id O Q hm).2 hf.1⟩
  frlt:=λx L=>h.frlt x L.1
  inj:=by
   intro id v A z n B j M f;by_cases H:id=s<;>by_cases u:v=s
   .rw[H,u]
   .subst H;simp only[a_.install,bG,u,if_true,if_false]at j f;exact((h.gT v z j M).2 (f▸y)).elim
   .subst u;simp only[a_.install,bG,H,if_true,if_false]at n f;exact((h.gT id A n B).2 (f.symm▸y)).elim
   simp only[a_.install,bG,H,u,if_false]at n j f;exact h.inj id v A z n B j M f}
def a_.rO(m:a_)(id:Nat):a_:=⟨m.w,dV m.blk id ((m.blk id).1,none),m.σ,m.κ,λc=>m.fr c\/c=m.σ id⟩
theorem ayp{id:Nat}{o:gP}(ho:(m.blk id).2=some o)(hm:o.iM){x:Nat}(h:(m.rO id).own x):m.own x:=by
 rcases h with(h|h)|⟨j,O,f,u,n⟩
 .exact .inl h
 .exact .inr ⟨id,o,ho,hm,h.symm⟩
 simp[a_.rO,bG]at f n;by_cases H:j=id
 .simp[H]at f
 simp[H,if_false]at f;exact .inr ⟨j,O,f,u,n⟩
theorem K4{id:Nat}{o:gP}(ho:(m.blk id).2=some o)(hm:o.iM):hs m (m.rO id) where
 os:=rfl
 tape:=rfl
 output:=rfl
 size:=cJ _
 keep _ _ _:=rfl
 iM x _ h:=by
  obtain⟨f,O,j,v,n⟩:=h;simp[a_.rO,bG]at j n;by_cases H:f=id
  .simp[H]at j
  simp[H,if_false]at j;exact⟨f,O,j,v,n⟩
 less x _ y h:=y (ayp ho hm h)
 gen f:=by
  simp[a_.rO,bG]
  grind
 ref f u ae:=by
  simp[a_.rO,bG]at u ae |-
  grind
theorem amN{id:Nat}{o:gP}(h:ez T m)(ho:(m.blk id).2=some o)(hm:o.iM):ez T (m.rO id) where
 os:=h.os
 tape:=h.tape
 output:=h.output
 size:=h.size
 base:=h.base
 obj n O f:=by
  simp[a_.rO,bG]at f;by_cases H:n=id
  .simp[H]at f
  simp[H,if_false]at f;exact(h.obj n O f).ev (K4 ho hm).zero rfl rfl rfl
 gT n O f j:=by
  simp only[a_.rO,bG]at f |-;by_cases H:n=id
  .simp[H]at f
  simp[H,if_false]at f;refine⟨(h.gT n O f j).1,?_⟩;rintro(hf|hf)
  .exact(h.gT n O f j).2 hf
  exact H (h.inj n id O o f j ho hm hf)
 frlt c y:=by
  rcases y with hf|rfl
  .exact h.frlt c hf
  exact(h.obj id o ho).lt
 inj AL BO z x f v j M u:=by
  simp[a_.rO,bG]at f j u;by_cases H:AL=id
  .simp[H]at f
  by_cases Q:BO=id
  .simp[Q]at j
  simp[H,Q,if_false]at f j;exact h.inj AL BO z x f v j M u
def a_.kD(m:a_)(M:World)(id:Nat)(o:gP):a_:=⟨M,dV m.blk id ((m.blk id).1,some o),m.σ,m.κ,m.fr⟩
section
variable {m:a_} {M:World} {id:Nat} {o old:gP} (ho:(m.blk id).2=some old) (hm:old.iM)
include ho hm
theorem aq0{x:Nat}(h:(m.kD M id o).own x):m.own x:=by
 rcases h with h|⟨n,O,f,u,j⟩
 .exact .inl h
 simp[a_.kD,bG]at f j;by_cases H:n=id
 .exact .inr ⟨id,old,ho,hm,H▸j⟩
 simp[H,if_false]at f;exact .inr ⟨n,O,f,u,j⟩
theorem Ly(E:lW ((m.blk id).1,some o)=lW ((m.blk id).1,some old))(z:M.os=m.w.os)(y:M.tape=m.w.tape)(Q:M.output=m.w.output)(ae:M.heap.size=m.w.heap.size)
  (A:∀c,c≠m.σ id->M.heap[c]?=m.w.heap[c]?):hs m (m.kD M id o) where
 os:=z
 tape:=y
 output:=Q
 size:=D_ ae.symm
 keep c _ n:=A c λe=>n ⟨id,old,ho,hm,e.symm⟩
 iM x _ h:=by
  obtain⟨f,O,u,v,j⟩:=h;simp[a_.kD,bG]at u j;by_cases H:f=id
  .exact⟨id,old,ho,hm,H▸j⟩
  simp[H,if_false]at u;exact⟨f,O,u,v,j⟩
 less x _ n h:=n (aq0 ho hm h)
 gen f:=by
  simp[a_.kD,bG]
  grind
 ref f B D:=by
  simp[a_.kD,bG]at B D |-
  grind
theorem Ob(h:ez T m)(y:lW ((m.blk id).1,some o)=lW ((m.blk id).1,some old))(z:M.os=m.w.os)(B:M.tape=m.w.tape)(E:M.output=m.w.output)(ae:M.heap.size=m.w.heap.size)
  (v:∀c,c≠m.σ id->M.heap[c]?=m.w.heap[c]?) (R:uy (m.kD M id o) id o):ez T (m.kD M id o) where
 os:=z.trans h.os
 tape:=B.trans h.tape
 output:=E.trans h.output
 size:=oO h.size (D_ ae.symm)
 base c x:=by have:=(h.gT id old ho hm).1;exact(v c J).trans (h.base c x)
 obj j O f:=by
  simp[a_.kD,bG]at f;by_cases H:j=id
  .grind
  simp[H,if_false]at f;refine(h.obj j O f).ev (Ly ho hm y z B E ae v).zero rfl rfl (v _ λe=>?_);cases N:O.iM with
  |true=>exact H (h.inj j id O old f N ho hm e)
  |false=>exact(h.obj j O f).calm N (.inr ⟨id,old,ho,hm,e.symm⟩)
 gT j O f n:=by
  simp[a_.kD,bG]at f |-;by_cases H:j=id
  .subst H;exact h.gT j old ho hm
  simp[H,if_false]at f;exact h.gT j O f n
 frlt c x:=by rw[show(m.kD M id o).w.heap.size=m.w.heap.size from ae];exact h.frlt c x
 inj AL BO L F f D n A u:=by
  simp[a_.kD,bG]at f n u;by_cases H:AL=id<;>by_cases Q:BO=id
  .rw[H,Q]
  .simp[Q,if_false]at n;exact H▸h.inj id BO old F ho hm n A (H▸u)
  .simp[H,if_false]at f;exact Q▸h.inj AL id L old f D ho hm (Q▸u)
  simp[H,Q,if_false]at f n;exact h.inj AL BO L F f D n A u
end
end
def Pm:Value->Option PV
 | .bool b=>some (.bool b)
 | .int k n=>some (.int k n)
 | .string s=>some (.str s)
 | .pointer none=>some .AP
 | .slice none 0 0=>some .nils
 | .map none=>some .tO
 | .nilFunc=>some .zD
 | .nilIface=>some .nili
 |_=>none
def KL:List Value->Option dW
 |[]=>some []
 |v::r=>match Pm v,KL r with
  |some x,some N=>some (x::N)
  |_,_=>none
def abu:Value->Option V
 | .agg D=>(KL D.toList).map λl=>.agg (l.map .p)
 |v=>(Pm v).map λx=>.one (.p x)
def dA:Operand->Option fk
 | .tmp t=>some (.t t)
 | .const (.int .i64 n)=>some (.i n)
 | .const (.bool b)=>some (.b b)
 | .const v=>(abu v).map .k
 | .func f=>some (.k (.one (.p (.fn f [] []))))
 | .global _=>none
def rj:List Operand->Option uw
 |[]=>some []
 |a::r=>match dA a,rj r with
  |some x,some N=>some (x::N)
  |_,_=>none
def zR:Option Operand->Option (Option fk)
 |none=>some none
 |some a=>(dA a).map some
def AS(P:Program)(t:TypeId):Option dW:=
 match P.info? t with
 |some i=>match i.zero with
  |some (.agg D)=>if D.size=i.size then KL D.toList else none
  |some v=>if i.size=1 then(Pm v).map λx=>[x]else none
  |none=>none
 |none=>none
def tN(P:Program)(t:TypeId):Option eT:=
 match P.underlying t,P.info? t with
 |some (.struct _),some i=>some (some i.size)
 |some (.array _ _),some i=>some (some i.size)
 |some _,some i=>if i.size=1 then some none else none
 |_,_=>none
def ze(P:Program)(t:TypeId):eT:=(P.info? t).map (·.size)
def DI(place:Nat->Option (Nat×Nat))(z:Nat):List (Nat×Operand)->Option (List (Nat×Nat×fk))
 |[]=>some []
 |(i,x)::r=>match place i,dA x,DI place z r with
  |some (E,n),some a,some q=>if E+n<=z then some ((E,n,a)::q)else none
  |_,_,_=>none
def Lk:Nat->List (Nat×Operand)->Option uw
 |_,[]=>some []
 |k,(i,x)::r=>match dA x,Lk (k+1) r with
  |some a,some q=>if i=k then some (a::q)else none
  |_,_=>none
def Sj(P:Program)(t:TypeId):Option Bool:=
 match P.underlying t with
 |some (.int _)=>some true
 |some .bool=>some false
 |_=>none
def KI(P:Program):Nat->List Field->Option gD
 |_,[]=>some []
 |k,f::r=>match Sj P f.type,KI P (k+1) r with
  |some b,some B=>if f.offset=k/\f.name≠ "_" then some (b::B)else none
  |_,_=>none
def Lp:Operand->Bool
 | .const .nilIface=>true
 |_=>false
def ME(P:Program)(t:TypeId)(x y:Operand):Option yS:=
 match P.underlying t with
 |some (.interface _)=>if Lp x||Lp y then some .ifc else none
 |some .bool=>some .bool
 |some (.pointer _)=>some .ptr
 |some (.slice _)=>some .slc
 |some (.map _ _)=>some .map
 |some (.func _ _ _)=>some .fnc
 |some (.struct fs)=>if !P.stoodInHeld t&& !P.eqGuardType P.depth t then(KI P 0 fs.toList).map .str else none
 |_=>none
def CP(P:Program)(t:TypeId):Option (TypeId×Nat×Nat×dW):=
 match P.underlying t with
 |some (.slice e)=>match P.info? e,AS P e with
  |some i,some z=>if 0<i.size/\0<i.bytes then some (e,i.size,i.bytes,z)else none
  |_,_=>none
 |_=>none
def keyOf(P:Program)(k:TypeId):eT:=
 match P.underlying k with
 |some (.int _)=>some 0
 |some .string=>some 1
 |some .bool=>some 2
 |_=>none
def R6(P:Program)(t:TypeId):Bool:=
 match P.info? t with
 |some i=>match i.zero with
  |some (.agg _)=>true
  |_=>false
 |none=>false
def GH(P:Program)(A:Nat)(o:Oper):Option sJ:=
 match o.op with
 | .move x=>(dA x).map .Ra
 | .assign x=>(dA x).map .Ra
 | .pick c a b=>match dA c,dA a,dA b with
  |some c,some a,some b=>some (.pick c a b)
  |_,_,_=>none
 | .alloc t=>(AS P t).map (.alloc A)
 | .box _ x=>(dA x).map (.box A)
 | .build t ps=>match P.underlying t,AS P t with
  |some (.struct fs),some z=>if fs.all λf=>(P.info? f.type).isSome then
    (DI (λi=>(fs[i]?).map λf=>(f.offset,P.cellsOf f.type)) (I z) ps.toList).map (.build z)
   else none
  |some (.array _ e),some z=>match P.info? e with
   |some i=>(DI (λk=>some (k*i.size,i.size)) (I z) ps.toList).map (.build z)
   |none=>none
  |_,_=>none
 | .buildSlice t n ps=>match CP P t,Lk 0 ps.toList with
  |some (e,j,_,_),some as=>if I as=n/\n*j<=16777216 then some (.OJ A e j as)else none
  |_,_=>none
 | .load t a=>match tN P t,dA a with
  |some k,some a=>some (.load k a)
  |_,_=>none
 | .store t a x=>match ze P t,dA a,dA x with
  |some n,some a,some x=>some (.store n a x)
  |_,_,_=>none
 | .nilCheck x=>(dA x).map .Rm
 | .binOp op t x y _=>match dA x,dA y with
  |some a,some b=>match P.underlying t with
   |some (.int _)=>some (.bin op a b)
   |some .string=>some (.bin op a b)
   |_=>match op,ME P t x y with
    | .eql,some k=>some (.eqc k false a b)
    | .neq,some k=>some (.eqc k true a b)
    |_,_=>none
  |_,_=>none
 | .unOp op _ x=>match op with
  | .not=>(dA x).map (.un .not)
  | .neg=>(dA x).map (.un .neg)
  |_=>none
 | .convert s d x=>match P.underlying s,P.underlying d,dA x with
  |some (.int _),some (.int k),some a=>some (.conv k a)
  |some (.slice e),some .string,some a=>match P.underlying e with
   |some (.int .u8)=>some (.bstr a)
   |_=>none
  |_,_,_=>none
 | .makeFunc (.func f) a b=>match rj a.toList,rj b.toList with
  |some x,some y=>some (.mkfn f x y)
  |_,_=>none
 | .makeMap t none=>match P.underlying t with
  |some (.map _ e)=>(tN P e).map λk=>.mkmap A k.isSome
  |_=>none
 | .makeSlice t l c=>match CP P t,dA l,dA c with
  |some (e,j,bytes,z),some l,some c=>some (.Q9 A e j bytes z l c)
  |_,_,_=>none
 | .slice t x lo H none=>match dA x,zR lo,zR H with
  |some a,some l,some h=>match P.underlying t with
   |some (.slice e)=>(ze P e).map λj=>.slice j a l h
   |some .string=>some (.sslice a l h)
   |_=>none
  |_,_,_=>none
 | .fieldAddr s x f=>match P.underlying s,dA x with
  |some (.struct fs),some a=>match fs[f]? with
   |some d=>if P.cellsOf d.type≠0 then some (.Pn d.offset a)else none
   |none=>none
  |_,_=>none
 | .field t x f=>match P.underlying t,dA x with
  |some (.struct fs),some a=>match fs[f]? with
   |some d=>(tN P d.type).map λk=>.fld d.offset k a
   |none=>none
  |_,_=>none
 | .indexAddr t x i=>match dA x,dA i with
  |some a,some b=>match P.underlying t with
   |some (.slice e)=>(ze P e).map λj=>.QQ j a b
   |some (.array n e)=>(ze P e).map λj=>.Oq n j a b
   |_=>none
  |_,_=>none
 | .index t x i=>match dA x,dA i with
  |some a,some b=>match P.underlying t with
   |some (.array n e)=>match ze P e,tN P e with
    |some j,some k=>some (.aidx n j k a b)
    |_,_=>none
   |some .string=>some (.sidx a b)
   |_=>none
  |_,_=>none
 | .lookup t x k ok=>match P.underlying t,dA x,dA k with
  |some (.map B e),some a,some b=>match AS P e,tN P e with
   |some z,some q=>match keyOf P B with
    |some kd=>if R6 P e=q.isSome then some (.lookup kd z q.isSome ok a b)else none
    |none=>none
   |_,_=>none
  |_,_,_=>none
 | .mapUpdate t m k v=>match P.underlying t,dA m,dA k,dA v with
  |some (.map B e),some a,some b,some c=>match tN P e with
   |some q=>(keyOf P B).map λkd=>.mupd kd q.isSome a b c
   |none=>none
  |_,_,_,_=>none
 | .insert t m k v=>match P.underlying t,dA m,dA k,dA v with
  |some (.map B e),some a,some b,some c=>match tN P e with
   |some q=>(keyOf P B).map λkd=>.mupd kd q.isSome a b c
   |none=>none
  |_,_,_,_=>none
 | .extract x i=>(dA x).map λa=>.extract a i
 | .call c=>match c.callee,rj c.args.toList with
  | .value f,some as=>(dA f).map λg=>.call A g as
  | .builtin .len,some [a]=>match c.argTypes[0]? with
   |some t=>match P.underlying t with
    |some .string=>some (.slen a)
    |some (.slice _)=>some (.U9 a)
    |some (.map _ _)=>some (.mlen a)
    |_=>none
   |none=>none
  | .builtin .append,some [a,b]=>match c.argTypes[0]?,c.argTypes[1]? with
   |some t,some u=>match CP P t with
    |some (e,j,bytes,_)=>if t=u/\c.argTypes.size=2 then some (.append A e j bytes a b)else none
    |none=>none
   |_,_=>none
  | .builtin .max,some [a,b]=>some (.max a b)
  | .builtin .min,some [a,b]=>some (.min a b)
  | .builtin .clear,some [a]=>match c.argTypes[0]? with
   |some t=>(CP P t).map λq=>.clear q.2.2.2 a
   |none=>none
  |_,_=>none
 |_=>none
def fk.tmps:fk->aG
 | .t n=>[n]
 |_=>[]
def Fp:uw->aG
 |[]=>[]
 |a::r=>a.tmps++Fp r
def V0:Option fk->aG
 |some a=>a.tmps
 |none=>[]
def acj:List (Nat×Nat×fk)->aG
 |[]=>[]
 |(_,_,a)::r=>a.tmps++acj r
def sJ.tmps:sJ->aG
 | .Ra x| .box _ x| .load _ x| .Rm x| .un _ x| .conv _ x| .bstr x| .Pn _ x| .fld _ _ x| .extract x _| .slen x| .U9 x| .mlen x| .clear _ x=>x.tmps
 | .pick c a b=>c.tmps++a.tmps++b.tmps
 | .alloc _ _| .mkmap _ _| .bad=>[]
 | .build _ ps=>acj ps
 | .OJ _ _ _ ps=>Fp ps
 | .store _ a x| .bin _ a x| .eqc _ _ a x| .QQ _ a x| .Oq _ _ a x| .aidx _ _ _ a x| .sidx a x| .lookup _ _ _ _ a x| .append _ _ _ _ a x| .max a x| .min a x=>a.tmps++x.tmps
 | .mkfn _ a b=>Fp a++Fp b
 | .Q9 _ _ _ _ _ a b=>a.tmps++b.tmps
 | .slice _ x a b| .sslice x a b=>x.tmps++V0 a++V0 b
 | .mupd _ _ a b c=>a.tmps++b.tmps++c.tmps
 | .call _ f as=>f.tmps++Fp as
def lI.KT(o:lI):aG:=
 o.op.tmps++match o.guard with
  |some (t,_)=>[t]
  |none=>[]
def G6(a b:lI):Bool:=
 (match a.dst with
  |some d=> !b.KT.contains d&&b.dst !=some d
  |none=>true)&&
 (match b.dst with
  |some d=> !a.KT.contains d
  |none=>true)
def RM(o:lI):Nat->fV->Bool
 |_,[]=>true
 |j,x::r=>(o.anc.testBit j||G6 x o)&&RM o (j+1) r
def Qa:fV->fV->Bool
 |[],_=>true
 |o::os,f=>RM o 0 f&&Qa os (f++[o])
def IH(P:Program)(f:Nat)(o:Oper):sJ:=(GH P f o).getD .bad
def alW(n:Nat):eT->Bool
 |some d=>decide (d<n)
 |none=>true
def XI(dst:Nat->eT):Option (Nat×Bool)->Option (Option (Nat×Bool))
 |none=>some none
 |some (j,w)=>(dst j).map λt=>some (t,w)
def FB(P:Program)(dst:Nat->eT)(base n:Nat)(anc:Nat)(o:Oper):Option lI:=if alW n o.dst then(XI dst o.guard).map λg=>⟨o.dst,IH P base o,g,anc⟩else none
def y8(P:Program)(dst anc:Nat->eT)(base n:Nat):Nat->List Oper->Option fV
 |_,[]=>some []
 |i,o::r=>match FB P dst ((base+i)*64) n ((anc i).getD 0) o,y8 P dst anc base n (i+1) r with
  |some x,some N=>some (x::N)
  |_,_=>none
def LL(ops:Array Oper):Bool:=(List.range ops.size).all λi=>match ops[i]? with
 |some o=>o.after.toList.all λe=> !Region.binds .any e||decide (e.on<i)
 |none=>true
def qF(P:Program)(f n:Nat):Code->Option aR
 | .skip=>some .skip
 | .region id ops D=>
  let b:=if D then Region.before ops else #[]
  match y8 P (λj=>(ops[j]?).bind (·.dst)) (λi=>b[i]?) ((f*1000+id)*1000) n 0 ops.toList with
  |some N=>if D then(if LL ops&&Qa N []then some (.region true N)else none)else some (.region false N)
  |none=>none
 | .seq a b=>match qF P f n a,qF P f n b with
  |some x,some y=>some (.seq x y)
  |_,_=>none
 | .cond c a b=>match dA c,qF P f n a,qF P f n b with
  |some c,some x,some y=>some (.cond c x y)
  |_,_,_=>none
 | .block id c=>(qF P f n c).map (.block id)
 | .loop c=>(qF P f n c).map .loop
 | .exit id=>some (.exit id)
 | .scope c=>qF P f n c
 | .label _=>some .skip
 | .ret=>some .ret
 |_=>some .bad
def Ce(P:Program):List ResultVar->Option (List (Nat×Option eT))
 |[]=>some []
 | .tmp t::r=>(Ce P r).map ((t,none):: ·)
 | .cell t L::r=>match tN P L,Ce P r with
  |some k,some q=>some ((t,some k)::q)
  |_,_=>none
def Fq(P:Program)(f:Nat):Option aZ:=
 match P.funcs[f]? with
 |none=>none
 |some fn=>match fn.body with
  |none=>none
  |some c=>if fn.name== "runtime.NumGoroutine" then none else
   match qF P f fn.ntmps c,Ce P fn.results.toList with
   |some b,some r=>some ⟨fn.ntmps,r,b⟩
   |_,_=>none
variable {P:Program} {T:World}
section
variable{m:a_}{v:Value}
def kI(m:a_)(B:bJ)(tmps:Array Value):Prop:=∀t,df m (B t) (tmps.getD t undef)
theorem kI.ev{m':a_}(h:hs m m'){B:bJ}{tmps:Array Value}(hr:kI m B tmps):kI m' B tmps:=λt=>(hr t).ev h.zero
theorem df.one{c:bd}:df m (.one c) v↔gh m c v:=Iff.rfl
theorem df.agg:df m (.agg D) v↔ ∃arr,v=.agg arr/\eH m D arr.toList:=Iff.rfl
theorem df.of1{x:V}(h:pS m x v):df m x v:=by
 cases x with
 |tup F=>exact h.elim
 |_=>exact h
theorem aaI{w:World}{own:Nat->Prop}{x:PV}(h:Pm v=some x):dh w own x v:=by
 unfold Pm at h;split at h<;>first
  |(cases h;constructor;done)
  |cases h
theorem amr{w:World}{own:Nat->Prop}:∀ {F:List Value}{N:dW},KL F=some N->eL w own N F:=by
 intro F
 induction F with
 |nil=>intro N h;simp[KL]at h;subst h;exact⟨rfl,λj x u a _=>by simp at a⟩
 |cons v r f=>
  intro N h;simp[KL]at h;split at h
  .rename_i x y m H;cases h;obtain⟨hl,hr⟩:=f H;refine⟨by simp[hl],λj z u a b=>?_⟩;cases j with
   |zero=>simp at a b;subst a b;exact aaI m
   |succ j=>simp at a b;exact hr j z u a b
  cases h
theorem eL.GC(h:eL m.w m.own N F):eH m (N.map .p) F:=by refine⟨by simp[h.1],λj x u a b=>?_⟩;simp at a;obtain⟨y,H,rfl⟩:=a;exact .p (h.2 j y u H b)
theorem atx{x:V}(h:abu v=some x):df m x v:=by
 unfold abu at h;split at h
 .simp at h;obtain⟨N,H,rfl⟩:=h;exact df.agg.2 ⟨_,rfl,(amr H).GC⟩
 simp at h;obtain⟨y,H,rfl⟩:=h;exact df.one.2 (.p (aaI H))
theorem gk{B:bJ}{a:Act}(h:dA x=some y)(hr:kI m B a.tmps):df m (ev B y) (a.eval x):=by
 unfold dA at h;split at h
 .cases h;exact hr _
 .cases h;exact df.one.2 (.p (.int _ _))
 .cases h;exact df.one.2 (.p (.bool _))
 .simp at h;obtain⟨v,H,rfl⟩:=h;exact atx H
 .cases h;exact df.one.2 (.p (.fn #[] #[] rfl rfl (λj x u a=>by simp at a) (λj x u a=>by simp at a)))
 cases h
def aAH(P:Program)(ρ:Operand->Value)(o:Oper)(w:World)(x:Value)(M:World):Prop:=
 (execOp ρ o).run P w=.ok (.value x) M\/((execOp ρ o).run P w=.ok .skip M/\x=undef)
def iz(P:Program)(T:World)(ρ:Operand->Value)(o:Oper)(m:a_)(v:V)(u:kR):Prop:=∃x M,aAH P ρ o m.w x M.w/\ez T M/\hs m M/\M.fr=m.fr/\M.blk=app u m.blk/\df M v x
theorem iz.calm{ρ:Operand->Value}{o:Oper}{v:V}{x:Value}(h:ez T m)(R:(execOp ρ o).run P m.w=.ok (.value x) m.w)(H:df m v x):iz P T ρ o m v []:=
 ⟨x,m,.inl R,h,hs.refl m,rfl,rfl,H⟩
section
variable {m:a_} {B:bJ} {a:Act} {o:Oper} (aF:ez T m) (hr:kI m B a.tmps)
include aF hr
theorem ae5(ho:o.op=.move x\/o.op=.assign x)(h:dA x=some y):iz P T a.eval o m (ev B y) []:=
 .calm aF (by rcases ho with ho|ho<;>simp[execOp,ho]) (gk h hr)
theorem aAG{c y:Operand}{t:Bool}(ho:o.op=.pick c x y)(n:dA c=some c')(u:dA x=some Z)(H:dA y=some y')
  (f:ev B c'=.one (.p (.bool t))):iz P T a.eval o m (if t then ev B Z else ev B y') []:=by
 have h:=gk n hr;rw[f]at h;obtain⟨⟩:gh m _ _:=h;rename_i hp;generalize j:a.eval c=b at hp;cases hp;refine .calm (x:=if t then a.eval x else a.eval y) aF ?_ ?_
 .simp[execOp,ho,j,asBool]
 cases t
 .exact gk H hr
 exact gk u hr
end
theorem Gj{b:Bool}(h:df m (.one (.p (.bool b))) v):v=.bool b:=by obtain⟨hp⟩:gh m _ v:=h;cases hp;rfl
theorem DA{k:IntKind}{n:Int}(h:df m (.one (.p (.int k n))) v):v=.int k n:=by obtain⟨hp⟩:gh m _ v:=h;cases hp;rfl
theorem Ov{s:ByteArray}(h:df m (.one (.p (.str s))) v):v=.string s:=by obtain⟨hp⟩:gh m _ v:=h;cases hp;rfl
theorem QX(h:df m (.one (.p .nils)) v):v=.slice none 0 0:=by obtain⟨hp⟩:gh m _ v:=h;cases hp;rfl
theorem atU(h:df m (.one (.p .zs)) v):∃a,v=.slice a 0 0:=by obtain⟨hp⟩:gh m _ v:=h;cases hp;exact⟨_,rfl⟩
theorem akZ(h:df m (.one (.p .tO)) v):v=.map none:=by obtain⟨hp⟩:gh m _ v:=h;cases hp;rfl
theorem oN{x:PV}(h:dh m.w m.own x v):df m (.one (.p x)) v:=df.one.2 (.p h)
def a_.fresh(m:a_)(O:Obj)(s k:Nat)(o:gP):a_:=(m.later (m.w.alloc O) (· =m.w.heap.size)).install s m.w.heap.size k o
theorem ab5(aF:ez T m)(O:Obj)(s k:Nat)(o:gP):(m.fresh O s k o).fr=m.fr:=by
 funext c;simp only[a_.fresh,a_.install,a_.later];apply propext;constructor
 .grind
 intro h;exact⟨.inl h,λe=>by have:=aF.frlt c h;omega⟩
theorem QS(O:Obj)(s k:Nat)(o:gP):hs m (m.fresh O s k o):=Q3 (K6 (jv.alloc m.w O) λc h=>D_ h.symm) (.inr rfl) (.inl (cJ _))
theorem agY(O:Obj)(s k:Nat)(o:gP):(m.fresh O s k o).w.heap[(m.fresh O s k o).σ s]?=some O:=by
 have:(m.fresh O s k o).σ s=m.w.heap.size:=by simp[a_.fresh,a_.install,bG]
 rw[this];exact heap_alloc_new m.w O
theorem ak3(aF:ez T m)(O:Obj)(s k:Nat)(o:gP)(ho:uy (m.fresh O s k o) s o):ez T (m.fresh O s k o):=Ry (NH aF (jv.alloc m.w O) λc h=>by subst h;exact⟨cJ _,aE⟩) (.inr rfl) aF.size ho
theorem YA(m:a_)(O:Obj)(s k:Nat)(o:gP):(m.fresh O s k o).blk=app [(s,((m.blk s).1+1,some o))] m.blk:=rfl
theorem ag4(aF:ez T m)(s:Nat)(t:TypeId)(D:eO)(arr:Array Value)(h:eH m D arr.toList):
  ez T (m.fresh (.cells arr t) s 0 (.var D))/\df (m.fresh (.cells arr t) s 0 (.var D)) (.one (.bR s ((m.blk s).1+1) 0)) (.pointer (some ⟨m.w.heap.size,0,none⟩)):=by
 refine⟨ak3 aF _ s 0 _ ⟨arr,t,agY _ s 0 _,h.ev (QS _ s 0 _).zero⟩,df.one.2 (.bR _ ?_ λ_ _=>?_)⟩
 .simp[a_.fresh,a_.install,a_.later,bG]
 simp[a_.fresh,a_.install,bG]
theorem LO{t:TypeId}(h:AS P t=some z):∃v i,P.info? t=some i/\i.zero=some v/\v.cells.size=i.size/\I z=i.size/\ ∀w own,eL w own z v.cells.toList:=by
 unfold AS at h;split at h
 .rename_i i H;split at h
  .rename_i D m;split at h
   .rename_i ae;have hr:=λw own=>amr (w:=w) (own:=own) h;refine⟨_,i,H,m,by simpa [Value.cells]using ae,?_,λw own=>by simpa [Value.cells]using hr w own⟩;have:=(hr default (λ_=>False)).1;simp at this;omega
   cases h
  .rename_i v m A;split at h
   .rename_i ae;simp at h;obtain⟨x,n,rfl⟩:=h;have hr:=λw own=>aaI (w:=w) (own:=own) n;have f:=(hr default (λ_=>False)).cells;refine⟨v,i,H,A,by simp[f,ae],by simp[ae],λw own=>?_⟩;rw[f];refine⟨rfl,λj y u a b=>?_⟩
    grind
   cases h
  cases h
 cases h
section
variable {m:a_} {B:bJ} {a:Act} {o:Oper} (aF:ez T m) (hr:kI m B a.tmps)
include aF
theorem auS{t:TypeId}{s:Nat}(ho:o.op=.alloc t)(n:AS P t=some z):
  iz P T a.eval o m (.one (.bR s ((m.blk s).1+1) 0)) [(s,((m.blk s).1+1,some (.var (z.map .p))))]:=by
 obtain⟨v,i,j,h,ae,hl,E⟩:=LO n;obtain⟨f,H⟩:=ag4 aF s t _ v.cells (E m.w m.own).GC;refine⟨_,_,.inl ?_,f,QS _ s 0 _,ab5 aF _ s 0 _,YA _ _ s 0 _,H⟩;simp[execOp,ho,Instr.alloc,zeroValue,typeInfo,j,h,newVar,newRow];rfl
include hr
theorem aAr{t:TypeId}{s:Nat}(ho:o.op=.box t x)(v:dA x=some y)(H:vb (ev B y)=some D):
  iz P T a.eval o m (.one (.bR s ((m.blk s).1+1) 0)) [(s,((m.blk s).1+1,some (.var D)))]:=by
 have f:=gk v hr;have E:eH m D (a.eval x).cells.toList:=by
  generalize ev B y=w at H f;cases w with
  |undef=>simp[vb]at H
  |tup F=>simp[vb]at H
  |one c=>
   simp[vb]at H;subst H;rw[(df.one.1 f).cells];refine⟨rfl,λj y u p q=>?_⟩;cases j with
   |zero=>simp at p q;subst p q;exact f
   |succ j=>simp at p
  |agg A=>simp[vb]at H;subst H;obtain⟨arr,e,h⟩:=df.agg.1 f;rw[e];exact h
 obtain⟨z,n⟩:=ag4 aF s t D _ E;refine⟨_,_,.inl ?_,z,QS _ s 0 _,ab5 aF _ s 0 _,YA _ _ s 0 _,n⟩;simp[execOp,ho,Instr.box,newVar,newRow];rfl
end
end
theorem Kv{α:Type}:∀ {A:List (List α)},(∀e∈A,I e=j)->I A.flatten=I A*j:=by
 intro A
 induction A with
 |nil=>intro _;simp
 |cons e r f=>grind
theorem Ip{α:Type}:∀ {A:List (List α)},(∀e∈A,I e=j)->∀ {i:Nat}{e:List α},A[i]?=some e->∀ {m:Nat},m<j->A.flatten[i*j+m]?=e[m]? :=by
 intro A
 induction A with
 |nil=>intro _ i e h;simp at h
 |cons x r v=>
  intro h i e H m u;have f:=h x aE;cases i with
  |zero=>grind
  |succ i=>simp at H;simp only[xX];rw[qQ (by rw[f,ld];omega),<- (v (λy n=>h y (by simp[n])) H u)];congr 1;rw[f,ld];omega
theorem Nd{α:Type}{A:List (List α)}(h:∀e∈A,I e=j){i:Nat}{e:List α}(H:A[i]?=some e):I e=j:=h e (a7 H)
theorem I2{w:World}{b k:Nat}(h:w.heap[b]?=some (.cells H L Y)):w.cell? ⟨b,k,none⟩=H[k]? :=cell_of_row w b k H L Y h
def De (m:a_)(v:Value)(D:eO):Prop:=∃b o F,v=.pointer (some ⟨b,o,none⟩)/\eH m D F/\ ∀(j:Nat) (u:Value),F[j]?=some u->m.w.cell? ⟨b,o+j,none⟩=some u
theorem De.row{b o:Nat}(h:m.w.heap[b]?=some (.cells H L Y))(hl:o+I D<=H.size)
  (f:∀(j:Nat) (x:bd) (u:Value),D[j]?=some x->H[o+j]?=some u->gh m x u):De m (.pointer (some ⟨b,o,none⟩)) D:=by
 refine⟨b,o,(H.toList.drop o).take (I D),rfl,⟨by simp;omega,λj x u p q=>?_⟩,λj u q=>?_⟩
 .grind
 rw[p_]at q;split at q
 .rw[I2 h];simpa using q
 cases q
theorem afa(aF:ez T m){x:V}{v:Value}{rd:aG}(h:Er m.blk x=some (D,rd))(hv:df m x v):De m v D:=by
 unfold Er at h;split at h
 .rename_i ps;simp only[iW,nh]at h;obtain⟨rfl,rfl⟩:=h;obtain⟨hp⟩:gh m _ v:=hv;cases hp with
  |box b o f ho hc hr=>
   refine⟨b,o,(List.range (I ps)).map f,rfl,⟨aE,λF x u p q=>?_⟩,λF u q=>?_⟩
   .simp only[fz,gv]at p q;obtain⟨y,X,rfl⟩:=p;obtain⟨k,Q,rfl⟩:=q;have rV:k=F:=by
     rw[tX (by have:=bt.1 X;obtain⟨h,_⟩:=this;exact h)]at Q
     simpa using Q.symm
    subst rV;exact .p (hr k y X)
   simp only[fz,gv]at q;obtain⟨k,Q,rfl⟩:=q;have aw:F<I ps:=by have:=bt.1 Q;obtain⟨h,_⟩:=this;simpa using h
   rw[tX aw]at Q;simp at Q;subst Q;exact hc F _ (tH aw)
 .rename_i id g E;cases hv with
  |bR a hg N=>
   split at h
   .rename_i g' Z z;split at h
    .rename_i O;simp only[iW,nh]at h;obtain⟨rfl,rfl⟩:=h;have cV:(m.blk id).2=some (.var Z):=by rw[z]
     have N:=N (by rw[z];exact O) (by rw[cV];rfl);subst N;obtain⟨H,L,B,hl,hc⟩:=aF.obj id _ cV;simp at hl;by_cases ho:E<=I Z
     .exact De.row B (by simp;omega) λF x u p q=>hc (E+F) x u (by simpa using p) (by simpa using q)
     exact⟨_,_,[],rfl,⟨by simp;omega,λF x u p q=>by simp at q⟩,λF u q=>by simp at q⟩
    cases h
   .rename_i g' Z z;split at h
    .rename_i O;simp only[iW,nh]at h;obtain⟨rfl,rfl⟩:=h;have cV:(m.blk id).2=some (.fvar Z):=by rw[z]
     have N:=N (by rw[z];exact O) (by rw[cV];rfl);subst N;obtain⟨H,L,Y,B,hp,_⟩:=aF.obj id _ cV;have hl:=hp.1;simp at hl;by_cases ho:E<=I Z
     .refine De.row B (by simp;omega) λF x u p q=>?_;simp only[fz,gv]at p;obtain⟨y,X,rfl⟩:=p;exact .p (hp.2 (E+F) y u (by simpa using X) (by simpa using q))
     exact⟨_,_,[],rfl,⟨by simp;omega,λF x u p q=>by simp at q⟩,λF u q=>by simp at q⟩
    cases h
   cases h
 .rename_i id g i E;cases hv with
  |dR a hg N=>
   have ab:∀(j:Nat) (e:eO) (H:Array Value) (L:TypeId) (Y:Nat×Nat),m.w.heap[m.σ id]?=some (.cells H L Y)->I e=j->(i+1)*j<=H.size->
     a=⟨m.σ id,i*j+E,none⟩->(∀(F:Nat) (x:bd) (u:Value),e[F]?=some x->H[i*j+F]?=some u->gh m x u)->De m (.pointer (some a)) (e.drop E):=by
    intro j e H L Y B M aw Cp hc;subst Cp;rw[ld,IX]at aw;by_cases ho:E<=I e
    .exact De.row B (by simp;omega) λF x u p q=>hc (E+F) x u (by simpa using p) (by rw[<-AH];exact q)
    exact⟨_,_,[],rfl,⟨by simp;omega,λF x u p q=>by simp at q⟩,λF u q=>by simp at q⟩
   have pure:∀(L j:Nat) (A:dI) (e:dW) (H:Array Value) (Y:Nat×Nat),m.w.heap[m.σ id]?=some (.cells H L Y)->(∀e∈A,I e=j)->I A*j<=H.size->
     eL m.w m.own A.flatten (H.toList.take (I A*j))->A[i]?=some e->a=⟨m.σ id,i*j+E,none⟩->De m (.pointer (some a)) ((e.drop E).map .p):=by
    intro L j A e H Y B n ac R M Cp;have dR:=Nd n M;have qo:(i+1)*j<=I A*j:=nR _ ((bt.1 M).1);rw[vv];refine ab j (e.map .p) H L Y B (by simpa using dR) J Cp λF x u p q=>?_;simp only[fz,gv]at p;obtain⟨y,X,rfl⟩:=p;have hj:F<j:=by have:=(bt.1 X).1;omega
    refine .p (R.2 (i*j+F) y u (by rw[Ip n M hj];exact X) ?_);rw[ld]at qo;rw[p_,aD J]
    simpa using q
   split at h
   .rename_i g' L j A z;split at h
    .rename_i O;simp only[gv,nh]at h;obtain⟨e,M,rfl,rfl⟩:=h;obtain⟨H,B,mB,n,hl,hm,eh,R⟩:=aF.obj id _ (by rw[z]);exact pure L j A e H _ B n (by rw[eh];exact nR _ hl) R M (N j (by rw[z];exact O) (by rw[z];rfl))
    cases h
   .rename_i g' L j A z;split at h
    .rename_i O;simp only[gv,nh]at h;obtain⟨e,M,rfl,rfl⟩:=h;obtain⟨H,Y,B,mB,n,hl,hm,eh,R,_⟩:=aF.obj id _ (by rw[z]);exact pure L j A e H _ B n (by rw[eh];exact nR _ hl) R M (N j (by rw[z];exact O) (by rw[z];rfl))
    cases h
   .rename_i g' L j A z;split at h
    .rename_i O;simp only[gv,nh]at h;obtain⟨e,M,rfl,rfl⟩:=h;obtain⟨H,B,mB,n,hl,hm,eh,R⟩:=aF.obj id _ (by rw[z]);have dR:=Nd n M;have qo:(i+1)*j<=I A*j:=nR _ ((bt.1 M).1);have ad:I A*j<=m.κ id*j:=nR _ hl;refine ab j e H L _ B dR J (N j (by rw[z];exact O) (by rw[z];rfl)) λF x u p q=>?_;have hj:F<j:=by have:=(bt.1 p).1;omega
     refine R.2 (i*j+F) x u (by rw[Ip n M hj];exact p) ?_;rw[ld]at qo;rw[p_,aD J]
     simpa using q
    cases h
   cases h
 cases h
theorem azN{t:TypeId}(h:tN P t=some (some n)):∃d i,P.underlying t=some d/\P.info? t=some i/\i.size=n/\((∃fs,d=.struct fs)\/ ∃k e,d=.array k e):=by
 unfold tN at h
 grind
theorem avK{t:TypeId}(h:tN P t=some none):∃d i,P.underlying t=some d/\P.info? t=some i/\i.size=1/\(∀fs,d≠ .struct fs)/\ ∀k e,d≠ .array k e:=by
 unfold tN at h
 grind
theorem adR{t:TypeId}(h:tN P t=some (some n))(w:World):(isAgg t).run P w=.ok true w/\(sizeOf t).run P w=.ok n w:=by
 obtain⟨d,i,j,H,m,f⟩:=azN h;constructor
 .rcases f with⟨fs,rfl⟩|⟨k,e,rfl⟩<;>simp[isAgg,run_underlying j]
 simp[sizeOf,typeInfo,H,m]
theorem ad2{t:TypeId}(h:tN P t=some none)(w:World):(isAgg t).run P w=.ok false w/\(sizeOf t).run P w=.ok 1 w:=by
 obtain⟨d,i,j,H,n,f,m⟩:=avK h;constructor
 .cases d<;>first
   |exact(f _ rfl).elim
   |exact(m _ _ rfl).elim
   |simp[isAgg,run_underlying j]
 simp[sizeOf,typeInfo,H,n]
theorem ad3{t:TypeId}{k:eT}(E:tN P t=some k){v:Value}(h:De m v D){x:V}(H:tc k D=some x):
  ∃a y,v=.pointer (some a)/\(loadVar t a).run P m.w=.ok y m.w/\df m x y:=by
 obtain⟨b,o,F,rfl,L,M⟩:=h;cases k with
 |none=>
  obtain⟨z,A⟩:=ad2 E m.w;cases D with
  |nil=>simp[tc]at H
  |cons c r=>
   simp[tc]at H;subst H;obtain⟨hl,hr⟩:=L;cases F with
   |nil=>simp at hl
   |cons u us=>have B:=M 0 u rfl;refine⟨_,u,rfl,?_,df.one.2 (hr 0 c u rfl rfl)⟩;rw[uz]at B;simp[loadVar,z,B]
 |some n=>
  obtain⟨z,A⟩:=adR E m.w;simp only[tc]at H;split at H
  .rename_i N;cases H;obtain⟨hl,hr⟩:=L;refine⟨_,.agg (F.take n).toArray,rfl,?_,df.agg.2 ⟨_,rfl,by simp;omega,λj x u p q=>?_⟩⟩
   .have f:I (F.take n)=n:=by simp;omega
    have:=run_loadCells_list (P:=P) m.w _ (F.take n) (λj u q=>by
     rw[Addr.add_lit];rw[p_]at q;split at q
     .exact M j u q
     cases q)
    rw[f]at this;simp[loadVar,z,A,this]
   grind
  cases H
section
variable {m:a_} {B:bJ} {a:Act} {o:Oper} (aF:ez T m) (hr:kI m B a.tmps)
include aF hr
theorem aov{t:TypeId}{k:eT}{rd:aG}(ho:o.op=.load t x)(h:tN P t=some k)(z:dA x=some y)
  (u:Er m.blk (ev B y)=some (D,rd)) (H:tc k D=some v):iz P T a.eval o m v []:=by
 obtain⟨A,y',j,f,n⟩:=ad3 h (afa aF u (gk z hr)) H;exact .calm aF (by simp[execOp,ho,j,Instr.loadAt,Instr.sureAddr,f]) n
theorem apf(ho:o.op=.nilCheck x)(z:dA x=some y)(u:cZ (λ_=>false) B m.blk (.Rm y)=.done v [] []):iz P T a.eval o m v []:=by
 have F:=gk z hr;simp[cZ]at u;split at u
 .rename_i n;rw[n]at F;cases u;have H:=F;generalize j:a.eval x=b at H F;cases H with
  |bR E hg h=>exact .calm aF (by simp[execOp,ho,j]) F
 .rename_i n;rw[n]at F;cases u;have H:=F;generalize j:a.eval x=b at H F;cases H with
  |dR E hg h=>exact .calm aF (by simp[execOp,ho,j]) F
 .rename_i n;rw[n]at F;cases u;have H:=F;generalize j:a.eval x=b at H F;cases H with
  |p hp=>cases hp with
   |box N X f L R Y=>exact .calm aF (by simp[execOp,ho,j]) F
 .rename_i n;rw[n]at F;cases u;have H:=F;generalize j:a.eval x=b at H F;cases H with
  |hfn A M D O Z Q=>exact .calm aF (by simp[execOp,ho,j]) F
 .rename_i n;rw[n]at F;cases u;have H:=F;generalize j:a.eval x=b at H F;cases H with
  |p hp=>cases hp with
   |fn A M D O Z Q=>exact .calm aF (by simp[execOp,ho,j]) F
 cases u
end
section
variable{F:List Value}{E:Nat}
theorem dh.norm{w:World}{own:Nat->Prop}{x:PV}{v:Value}(h:dh w own x v):dh w own x.norm v:=by
 cases h<;>first
  |exact .A3 none 0 (λ_=>rfl) _
  |exact .A3 _ 0 (λ_=>rfl) (bZ _)
  |(simp[PV.norm];constructor<;>assumption)
theorem awb{c:bd}{x:PV}{v:Value}(h:Tb c=some x)(hr:gh m c v):dh m.w m.own x v:=by
 cases hr<;>simp[Tb]at h
 rename_i hp;subst h;exact hp.norm
theorem Oz:∀ {D:eO}{N:dW}{F:List Value},D2 D=some N->eH m D F->eL m.w m.own N F:=by
 intro D
 induction D with
 |nil=>intro N F h hr;simp[D2]at h;subst h;exact⟨hr.1,λj x u a=>by simp at a⟩
 |cons c r f=>
  intro N F h hr;simp[D2]at h;split at h
  .rename_i x Y y H;cases h;cases F with
   |nil=>simp[eH]at hr
   |cons v us=>
    obtain⟨hl,n⟩:=f H ⟨by simpa using hr.1,λj x u a b=>hr.2 (j+1) x u (by grind) (by grind)⟩;refine⟨by simp[hl],λj z u a b=>?_⟩;cases j with
    |zero=>simp at a b;subst a b;exact awb y (hr.2 0 c v rfl rfl)
    |succ j=>simp at a b;exact n j z u a b
  cases h
def Pw {α:Type}(R:α->Value->Prop)(N:List α)(F:List Value):Prop:=I F=I N/\ ∀(j:Nat) (x:α) (u:Value),N[j]?=some x->F[j]?=some u->R x u
theorem Pw.take{α:Type}{R:α->Value->Prop}{N:List α}(h:Pw R N F)(n:Nat):Pw R (N.take n) (F.take n):=by
 refine⟨by simp[h.1],λj x u a b=>?_⟩;rw[p_]at a b;split at a
 .rename_i H;rw[aD H]at b;exact h.2 j x u a b
 cases a
theorem Pw.drop{α:Type}{R:α->Value->Prop}{N:List α}(h:Pw R N F)(n:Nat):Pw R (N.drop n) (F.drop n):=
 ⟨by simp[h.1],λj x u a b=>h.2 (n+j) x u (by grind) (by grind)⟩
theorem Pw.append{α:Type}{R:α->Value->Prop}{N y:List α}(h:Pw R N F)(k:Pw R y us):Pw R (N++y) (F++us):=by
 refine⟨by simp[h.1,k.1],λj x u a b=>?_⟩;by_cases H:j<I N
 .rw[s8 H]at a;rw[s8 (by rw[h.1];exact H)]at b;exact h.2 j x u a b
 rw[qQ J]at a;rw[qQ (by rw[h.1];omega),h.1]at b;exact k.2 _ x u a b
theorem Pw.gM{α:Type}{R:α->Value->Prop}{N y:List α}(h:Pw R N F)(k:Pw R y us)(E:Nat):Pw R (gM N E y) (gM F E us):=by unfold Abs.gM;rw[k.1];exact((h.take E).append k).append (h.drop _)
theorem RF{α:Type}{D N:List α}(h:E+I N<=I D):I (gM D E N)=I D:=by simp[gM];omega
theorem ajv{α:Type}{D N:List α}(h:E+I N<=n)(H:n<=I D):(gM D E N).take n=gM (D.take n) E N:=by
 unfold gM;rw[Ii,Ii,Dn,List.drop_take];simp;rw[yO (by omega:E<=I D),Dn,yO (by omega:E<=n),Nat.min_eq_right J]
 grind [f_]
theorem ayY{α:Type}{a D N:List α}:gM (a++D) (I a+E) N=a++gM D E N:=by
 unfold gM;rw[Ii,aau];rw[f_ (by omega:I a<=I a+E),PS J]
 grind
theorem aBW{α:Type}{a D N:List α}(h:E+I N<=I a):gM (a++D) E N=gM a E N++D:=by
 unfold gM
 grind
theorem apb{α:Type}{ps:List α}:∀ {A:List (List α)},(∀e∈A,I e=j)->∀ {i:Nat}{e:List α},A[i]?=some e->E+I ps<=j->
  (A.set i (gM e E ps)).flatten=gM A.flatten (i*j+E) ps:=by
 intro A
 induction A with
 |nil=>intro _ i e h;simp at h
 |cons x r n=>
  intro h i e H hl;have u:=h x aE;cases i with
  |zero=>simp at H;subst H;simp;rw[aBW J]
  |succ i=>
   simp at H;simp;rw[n (λy f=>h y (by simp[f])) H hl];have m:(i+1)*j+E=I x+(i*j+E):=by rw[u,ld];omega
   rw[m,ayY]
theorem Su{w:World}{g:Nat}{new:Array Value}(h:w.heap[g]?=some (.cells H L Y)):(w.setRow g new).heap[g]?=some (.cells new L Y):=setRow_heap w g H new L Y h
theorem eH.pw:eH m D F↔Pw (gh m) D F:=Iff.rfl
theorem eL.pw{w:World}{own:Nat->Prop}{D:dW}:eL w own D F↔Pw (dh w own) D F:=Iff.rfl
theorem eH.one(h:eH m D F):∀v∈F,v.oneCell':=by intro v f;obtain⟨j,H⟩:=fK f;exact(h.2 j _ v (tH (by rw[<-h.1];exact(bt.1 H).1)) H).Rq
theorem aaO{x:V}{v:Value}(h:vb x=some D)(hr:df m x v):eH m D v.cells.toList:=by
 cases x with
 |undef=>simp[vb]at h
 |tup F=>simp[vb]at h
 |one c=>
  simp[vb]at h;subst h;rw[(df.one.1 hr).cells];refine⟨rfl,λj y u p q=>?_⟩;cases j with
  |zero=>simp at p q;subst p q;exact hr
  |succ j=>simp at p
 |agg f=>simp[vb]at h;subst h;obtain⟨arr,e,h⟩:=df.agg.1 hr;rw[e];exact h
section
variable {m:a_} {B:bJ} {a:Act} {o:Oper} (aF:ez T m) (hr:kI m B a.tmps)
include aF hr
theorem azO{t:TypeId}{v:Operand}{v':fk}{r:V}{rd:aG}(ho:o.op=.store t x v)(hn:ze P t=some n)(hx:dA x=some Z)(hv:dA v=some v')
  (hc:vb (ev B v')=some D) (y:CD m.blk (ev B Z) n D=.done r u rd):iz P T a.eval o m r u:=by
 have eh:=aaO hc (gk hv hr);have N:=gk hx hr;unfold ze at hn;simp only[gv]at hn;obtain⟨i,hi,gY⟩:=hn;have Q:=eh.1;simp only[NK]at Q;unfold CD at y;split at y
 .cases y
 rename_i F;have F:I D=n:=by simpa using F
 have UF:=eh.one;split at y
 .rename_i id g E he;rw[he]at N;have N:=N;generalize hb:a.eval x=b at N;cases N with
  |bR ad hg X=>
   split at y
   .rename_i g' Ck z;split at y
    .rename_i P9;obtain⟨jV,ab⟩:=P9;cases y;have M:(m.blk id).2=some (.var Ck):=by rw[z]
     have X:=X (by rw[z];exact jV) (by rw[M];rfl);subst X;obtain⟨H,L,hh,eE⟩:=aF.obj id _ M;have dF:=eE.1;simp at dF;have R:=run_storeCells_at P (m.σ id) E L (a.eval v).cells.toList 0 H m.w hh (by simp;omega) UF;simp only[uz]at R;generalize f:m.w.setRow (m.σ id) (H.toList.take E++(a.eval v).cells.toList++H.toList.drop (E+(a.eval v).cells.toList.length)).toArray=W at R;have Hj:W.heap.size=m.w.heap.size:=by rw[<-f];simp
     have Hi:∀c,c≠m.σ id->W.heap[c]?=m.w.heap[c]? :=λc hc=>by rw[<-f];exact setRow_other m.w (m.σ id) c _ hc
     have O:=Ly (o:=.var (gM Ck E D)) M rfl (by simp[lW]) (by rw[<-f];rfl) (by rw[<-f];rfl) (by rw[<-f];rfl) Hj Hi;have F4:uy (m.kD W id (.var (gM Ck E D))) id (.var (gM Ck E D)):=by
      refine⟨_,L,by rw[<-f];exact Su hh,?_⟩;have:=eH.pw.2 ((eH.pw.1 (eE.ev O.zero)).gM (eH.pw.1 (eh.ev O.zero)) E)
      simpa [gM]using this
     refine⟨undef,m.kD W id (.var (gM Ck E D)),.inr ⟨?_,rfl⟩,Ob M rfl aF (by simp[lW]) (by rw[<-f];rfl) (by rw[<-f];rfl) (by rw[<-f];rfl) Hj Hi F4,O,rfl,?_,rfl⟩
     .simp only[execOp,ho,hb,Instr.storeAt,Instr.sureAddr,storeVar,sizeOf,typeInfo];simp[hi,Q,F,gY,R,a_.kD]
     simp[a_.kD,app,z,jV]
    cases y
   cases y
 .rename_i id g i' E he;rw[he]at N;have N:=N;generalize hb:a.eval x=b at N;cases N with
  |dR ad hg X=>
   split at y
   .rename_i g' L j A z;split at y
    .rename_i e ps Y BH;split at y
     .rename_i P9;obtain⟨jV,ab⟩:=P9;cases y;have M:(m.blk id).2=some (.arr L j A):=by rw[z]
      have X:=X j (by rw[z];exact jV) (by rw[z];rfl);subst X;obtain⟨H,hh,mB,vI,hl,hm,JD,eE⟩:=aF.obj id _ M;have dR:=Nd vI Y;have qo:(i'+1)*j<=I A*j:=nR _ ((bt.1 Y).1);have ag:I A*j<=m.κ id*j:=nR _ hl;rw[ld,IX]at qo;have ac:I ps=I D:=by rw[<-eh.1];exact(Oz BH eh).1.symm
      have R:=run_storeCells_at P (m.σ id) (i'*j+E) L (a.eval v).cells.toList 0 H m.w hh (by simp;omega) UF;simp only[uz]at R;generalize f:m.w.setRow (m.σ id) (H.toList.take (i'*j+E)++(a.eval v).cells.toList++H.toList.drop (i'*j+E+(a.eval v).cells.toList.length)).toArray=W at R;have Hj:W.heap.size=m.w.heap.size:=by rw[<-f];simp
      have Hi:∀c,c≠m.σ id->W.heap[c]?=m.w.heap[c]? :=λc hc=>by rw[<-f];exact setRow_other m.w (m.σ id) c _ hc
      have O:=Ly (o:=.arr L j (A.set i' (gM e E ps))) M rfl (by simp[lW]) (by rw[<-f];rfl) (by rw[<-f];rfl) (by rw[<-f];rfl) Hj Hi;have F4:uy (m.kD W id (.arr L j (A.set i' (gM e E ps)))) id (.arr L j (A.set i' (gM e E ps))):=by
       refine⟨_,by rw[<-f];exact Su hh,mB,?_,by rw[j7];exact hl,hm,?_,?_⟩
       .intro e' Am;rcases List.mem_or_eq_of_mem_set Am with h|h
        .exact vI e' h
        rw[h,RF J];exact dR
       .simp[a_.kD];omega
       rw[j7,apb vI Y J];have h1:=(eL.pw.1 (eE.ev O.zero)).gM (eL.pw.1 ((Oz BH eh).ev O.zero)) (i'*j+E);rw[<-ajv (by simp;omega) (by simp;omega)]at h1
       simpa [gM]using(eL.pw.2 h1)
      refine⟨undef,m.kD W id (.arr L j (A.set i' (gM e E ps))),.inr ⟨?_,rfl⟩,Ob M rfl aF (by simp[lW]) (by rw[<-f];rfl) (by rw[<-f];rfl) (by rw[<-f];rfl) Hj Hi F4,O,rfl,?_,rfl⟩
      .simp only[execOp,ho,hb,Instr.storeAt,Instr.sureAddr,storeVar,sizeOf,typeInfo];simp[hi,Q,F,gY,R,a_.kD]
      simp[a_.kD,app,z,jV]
     cases y
    cases y
   cases y
 cases y
end
end
theorem AO{x:V}{v:Value}(h:tE x=some n)(hr:df m x v):∃k,v=.int k (n:Int):=by
 unfold tE at h;split at h
 .rename_i k z;split at h
  .rename_i H;cases h;exact⟨k,by rw[DA hr,Qn H]⟩
  cases h
 cases h
theorem RH{t:TypeId}(h:ze P t=some n)(w:World):(sizeOf t).run P w=.ok n w:=by unfold ze at h;simp at h;obtain⟨i,H,rfl⟩:=h;simp[sizeOf,typeInfo,H]
section
variable {m:a_} {B:bJ} {a:Act} {o:Oper} (aF:ez T m) (hr:kI m B a.tmps)
include aF hr
theorem aqS{s:TypeId}{fs:Array Field}{d:Field}(ho:o.op=.fieldAddr s x f)(ae:P.underlying s=some (.struct fs))(hf:fs[f]?=some d)
  (R:P.cellsOf d.type≠0) (hx:dA x=some y) (u:cZ (λ_=>false) B m.blk (.Pn d.offset y)=.done v [] []):iz P T a.eval o m v []:=by
 have F:=gk hx hr;have Q:∃n,(sizeOf d.type).run P m.w=.ok n m.w/\n≠0:=by
  unfold Program.cellsOf at R;cases X:P.info? d.type with
  |none=>simp[X]at R
  |some i=>exact⟨i.size,by simp[sizeOf,typeInfo,X],by simpa [X]using R⟩
 obtain⟨n,hn,Z⟩:=Q;have run:∀L,a.eval x=.pointer (some L)->(execOp a.eval o).run P m.w=.ok (.value (.pointer (some (L.add d.offset)))) m.w:=by intro L rS;simp[execOp,ho,rS,Instr.fieldAt,run_underlying ae,hf,Instr.sureAddr,fieldPlace,hn,Z]
 simp only[cZ]at u;split at u
 .rename_i id g E M;rw[M]at F;cases u;have H:=F;generalize A:a.eval x=b at H;cases H with
  |bR L hg h=>exact .calm aF (run _ A) (df.one.2 (.bR _ hg λO N=>by rw[h O N,Addr.add_lit]))
 .rename_i id g i E M;rw[M]at F;cases u;have H:=F;generalize A:a.eval x=b at H;cases H with
  |dR L hg h=>exact .calm aF (run _ A) (df.one.2 (.dR _ hg λj O N=>by rw[h j O N,Addr.add_lit,AH]))
 .rename_i D M;rw[M]at F;cases u;have H:=F;generalize A:a.eval x=b at H;cases H with
  |p hp=>cases hp with
   |box Y o' f' qx mT nA=>
    refine .calm aF (run _ A) (oN ?_);rw[Addr.add_lit];refine .box Y (o'+d.offset) (λab=>f' (d.offset+ab)) (λh=>qx λe=>h (by simp[e])) (λab z h=>?_) λab z h=>nA _ z (by simpa using h)
    grind
 cases u
theorem aqv{t e:TypeId}{i:Operand}(ho:o.op=.indexAddr t x i)(ht:P.underlying t=some (.slice e))(ae:ze P e=some j)
  (hx:dA x=some Z) (hi:dA i=some i') (u:cZ (λ_=>false) B m.blk (.QQ j Z i')=.done v [] []):iz P T a.eval o m v []:=by
 have F:=gk hx hr;have MI:=gk hi hr;have run:∀L len O k (n:Nat),a.eval x=.slice (some L) len O->a.eval i=.int k (n:Int)->n<len->(execOp a.eval o).run P m.w=.ok (.value (.pointer (some (L.add (n*j))))) m.w:=by intro L len O k n R M h3;simp[execOp,ho,R,M,Instr.indexAt,asIntOf,run_underlying ht,RH ae,h3]
 simp only[cZ]at u;split at u
 .rename_i n A X Y;obtain⟨k,Q⟩:=AO X MI;rw[Y]at F;split at u
  .rename_i el dR;split at u
   .rename_i H;cases u;have D:=F;generalize N:a.eval x=b at D;cases D with
    |p hp=>
     generalize mY:(PV.sl A)=pv at hp;cases hp<;>first
      |cases mY
      |skip
     .simp at dR
     rename_i b' o' O fQ f mW qx jW y wO F6;have ZK:fQ=j:=by rw[<-Nd y dR];exact H
     subst ZK;refine .calm aF (run _ _ _ k n N Q ((bt.1 dR).1)) (oN ?_);rw[Addr.add_lit];refine .box b' (o'+n*fQ) (λab=>f (n*fQ+ab)) (λh=>qx ?_) (λab z h=>?_) λab z h=>?_
     .intro e0;cases el with
      |nil=>exact h rfl
      |cons c r=>have:=Ip y dR (m:=0) (by rw[<-H];simp);rw[e0]at this;simp at this
     .rw[AH];exact wO _ z (by rw[Ip y dR (by rw[<-H];exact(bt.1 h).1)];exact h)
     exact F6 _ z (by rw[Ip y dR (by rw[<-H];exact(bt.1 h).1)];exact h)
   cases u
  cases u
 .rename_i n id g z E len X Y;obtain⟨k,Q⟩:=AO X MI;rw[Y]at F;split at u
  .rename_i aw;cases u;have D:=F;generalize N:a.eval x=b at D;cases D with
   |hsl L O hg hl hm h=>refine .calm aF (run _ _ _ k n N Q aw.1) (df.one.2 (.dR _ hg λs R M=>?_));obtain⟨e1,e2,_⟩:=h s R M;rw[e2 (.inr J),Addr.add_lit,e1,aw.2];simp[ld]
  cases u
 cases u
theorem aBX{t e:TypeId}{i:Operand}(ho:o.op=.indexAddr t x i)(Y:P.underlying t=some (.array ln e))(ae:ze P e=some j)
  (hx:dA x=some Z) (hi:dA i=some i') (H:cZ (λ_=>false) B m.blk (.Oq ln j Z i')=.done v [] []):iz P T a.eval o m v []:=by
 have F:=gk hx hr;have R:=gk hi hr;have run:∀N k (n:Nat),a.eval x=.pointer (some N)->a.eval i=.int k (n:Int)->n<ln->(execOp a.eval o).run P m.w=.ok (.value (.pointer (some (N.add (n*j))))) m.w:=by intro N k n M u h3;simp[execOp,ho,M,u,Instr.indexAt,asIntOf,run_underlying Y,RH ae,h3,Instr.sureAddr]
 simp only[cZ]at H;split at H
 .rename_i n id g E O Q;obtain⟨k,L⟩:=AO O R;rw[Q]at F;split at H
  .rename_i A;cases H;have f:=F;generalize y:a.eval x=b at f;cases f with
   |bR N hg h=>exact .calm aF (run _ k n y L A) (df.one.2 (.bR _ hg λM u=>by rw[h M u,Addr.add_lit]))
  cases H
 .rename_i n id g X E O Q;obtain⟨k,L⟩:=AO O R;rw[Q]at F;split at H
  .rename_i A;cases H;have f:=F;generalize y:a.eval x=b at f;cases f with
   |dR N hg h=>exact .calm aF (run _ k n y L A) (df.one.2 (.dR _ hg λs M u=>by rw[h s M u,Addr.add_lit,AH]))
  cases H
 .rename_i n D O Q;obtain⟨k,L⟩:=AO O R;rw[Q]at F;split at H
  .rename_i A;cases H;have f:=F;generalize y:a.eval x=b at f;cases f with
   |p hp=>cases hp with
    |box b' o' f' qx mT nA=>refine .calm aF (run _ k n y L A) (oN ?_);rw[Addr.add_lit];refine .box b' (o'+n*j) (λX=>f' (n*j+X)) (λh=>qx λe=>h (by simp[e])) (λX z h=>?_) λX z h=>nA _ z (by simpa using h);rw[AH];exact mT _ z (by simpa using h)
  cases H
 cases H
theorem aiV{t:TypeId}{k:eT}(B:tN P t=some k){arr:Array Value}(v:eH m D arr.toList){x:V}(h:tc k (D.drop E)=some x):
  ∃y,(part t arr E).run P m.w=.ok y m.w/\df m x y:=by
 have N:=aF;have M:=hr;have hl:=v.1;simp at hl;cases k with
 |none=>
  obtain⟨f,z⟩:=ad2 B m.w;cases H:D.drop E with
  |nil=>simp[H,tc]at h
  |cons c r=>
   simp[H,tc]at h;subst h;have F:D[E]?=some c:=by
    have:=congrArg (·[0]?) H
    simpa using this
   have A:E<arr.size:=by rw[hl];exact(bt.1 F).1
   refine⟨arr[E],by simp[part,f,A],df.one.2 (v.2 E c _ F (by simp[A]))⟩
 |some n=>
  obtain⟨f,z⟩:=adR B m.w;simp only[tc]at h;split at h
  .rename_i L;cases h;simp at L;refine⟨.agg (arr.extract E (E+n)),by simp[part,f,z],df.agg.2 ⟨_,rfl,by simp;omega,λj x u p q=>?_⟩⟩;rw[p_]at p;split at p
   .rename_i O;simp at p;refine v.2 (E+j) x u p ?_
    grind
   cases p
  cases h
theorem aw6{t:TypeId}{fs:Array Field}{d:Field}{k:eT}(ho:o.op=.field t x f)(ae:P.underlying t=some (.struct fs))(hf:fs[f]?=some d)
  (n:tN P d.type=some k) (j:dA x=some y) (h:ev B y=.agg D) (u:tc k (D.drop d.offset)=some v):iz P T a.eval o m v []:=by
 have F:=gk j hr;rw[h]at F;obtain⟨arr,e,E⟩:=df.agg.1 F;obtain⟨z,A,H⟩:=aiV (aF:=aF) (hr:=hr) n E u;exact .calm aF (by simp[execOp,ho,e,Instr.field,run_underlying ae,hf,asAgg,A]) H
theorem aqe{t e:TypeId}{i:Operand}{k:eT}(ho:o.op=.index t x i)(u:P.underlying t=some (.array ln e))(ae:ze P e=some j)
  (L:tN P e=some k) (E:dA x=some Z) (y:dA i=some i') (F:tE (ev B i')=some n) (A:n<ln) (h:ev B Z=.agg D) (M:tc k (D.drop (n*j))=some v):iz P T a.eval o m v []:=by
 have f:=gk E hr;obtain⟨X,Q⟩:=AO F (gk y hr);rw[h]at f;obtain⟨arr,O,R⟩:=df.agg.1 f;obtain⟨z,N,H⟩:=aiV (aF:=aF) (hr:=hr) L R M;exact .calm aF (by simp[execOp,ho,O,Q,Instr.index,asIntOf,run_underlying u,RH ae,A,N]) H
theorem aqN{t:TypeId}{i:Operand}{s:ByteArray}{b:UInt8}(ho:o.op=.index t x i)(H:P.underlying t=some .string)
  (v:dA x=some Z) (u:dA i=some i') (y:tE (ev B i')=some n) (h:ev B Z=.one (.p (.str s))) (j:s[n]?=some b):iz P T a.eval o m (.one (.p (.int .u8 b.toNat))) []:=by
 have f:=gk v hr;obtain⟨z,Q⟩:=AO y (gk u hr);rw[h]at f;exact .calm aF (by simp[execOp,ho,Ov f,Q,Instr.index,asIntOf,run_underlying H,j]) (oN (.int _ _))
end
theorem aBY{op:BinOp}{t:TypeId}{k f:IntKind}{x y:Int}{v:PV}(w:World)(j:k=f\/op=.shl\/op=.shr)(h:IG op k x y=some v):
  ∃u,(binOp op t (.int k x) (.int f y)).run P w=.ok u w/\ ∀own,dh w own v u:=by
 by_cases ae:op=.shl\/op=.shr
 .rcases ae with rfl|rfl
  .simp only[IG]at h;split at h
   .cases h
   rename_i H;cases h;exact⟨_,by simp[binOp,Op.shift,H],λown=>.int _ _⟩
  simp only[IG]at h;split at h
  .cases h
  rename_i H;cases h;exact⟨_,by simp[binOp,Op.shift,H],λown=>.int _ _⟩
 have Q:k=f:=by grind
 subst Q;cases op<;>simp only[IG]at h<;>first
  |cases h
  |skip
 all_goals first
  |exact(ae (.inl rfl)).elim
  |exact(ae (.inr rfl)).elim
  |(exact⟨_,by simp[binOp,Op.intArith,Op.intCmp,Op.intBits],λown=>.int _ _⟩)
  |(exact⟨_,by simp[binOp,Op.intArith,Op.intCmp],λown=>.bool _⟩)
  |(split at h
    .cases h
    rename_i H;cases h;exact⟨_,by simp[binOp,Op.intDiv,H],λown=>.int _ _⟩)
theorem ap1{op:BinOp}{t:TypeId}{x y:ByteArray}{v:PV}(w:World)(h:XZ op x y=some v):
  ∃u,(binOp op t (.string x) (.string y)).run P w=.ok u w/\ ∀own,dh w own v u:=by
 cases op<;>simp only[XZ]at h<;>first
  |cases h
  |skip
 all_goals first
  |exact⟨_,by simp[binOp,Op.stringOp],λown=>.bool _⟩
  |(split at h
    .rename_i hl;cases h;refine⟨.string _,?_,λown=>.str _⟩;have:¬((x.size:Int)+(y.size:Int)>9223372036854775807):=J;simp[binOp,Op.stringOp,this]
    cases h)
section
variable {m:a_} {B:bJ} {a:Act} {o:Oper} (aF:ez T m) (hr:kI m B a.tmps)
include aF hr
theorem awG{op:BinOp}{t:TypeId}{y:Operand}(ho:o.op=.binOp op t x y L)(F:dA x=some Z)(D:dA y=some y')
  (h:Uc op (ev B Z) (ev B y')=some v):iz P T a.eval o m v []:=by
 have f:=gk F hr;have H:=gk D hr;unfold Uc at h;split at h
 .rename_i k p O q E n;rw[E]at f;rw[n]at H;split at h
  .rename_i N;simp at h;obtain⟨u,j,rfl⟩:=h;obtain⟨z,A,M⟩:=aBY (P:=P) (t:=t) m.w N j;refine .calm aF ?_ (oN (M _));have hg:(eqGuard op t x y (.int k p) (.int O q)).run P m.w=.ok () m.w:=by cases op<;>simp[eqGuard]
   simp[execOp,ho,DA f,DA H,hg,A]
  cases h
 .rename_i p q E n;rw[E]at f;rw[n]at H;simp at h;obtain⟨u,j,rfl⟩:=h;obtain⟨z,A,M⟩:=ap1 (P:=P) (t:=t) m.w j;refine .calm aF ?_ (oN (M _));have hg:(eqGuard op t x y (.string p) (.string q)).run P m.w=.ok () m.w:=by cases op<;>simp[eqGuard]
  simp[execOp,ho,Ov f,Ov H,hg,A]
 cases h
theorem anN{t:TypeId}{b:Bool}(ho:o.op=.unOp .not t x)(f:dA x=some Z)(H:ev B Z=.one (.p (.bool b))):iz P T a.eval o m (.one (.p (.bool (!b)))) []:=by have h:=gk f hr;rw[H]at h;exact .calm aF (by simp[execOp,ho,Gj h,Op.unary]) (oN (.bool _))
theorem avp{t:TypeId}{k:IntKind}{n:Int}(ho:o.op=.unOp .neg t x)(f:dA x=some Z)(H:ev B Z=.one (.p (.int k n))):iz P T a.eval o m (.one (.p (.int k (k.wrap (0-n))))) []:=by have h:=gk f hr;rw[H]at h;exact .calm aF (by simp[execOp,ho,DA h,Op.unary,Op.intArith]) (oN (.int _ _))
theorem ay6{s d:TypeId}{j k f:IntKind}{n:Int}(ho:o.op=.convert s d x)(ae:P.underlying s=some (.int j))(H:P.underlying d=some (.int k))(v:dA x=some Z)
  (u:ev B Z=.one (.p (.int f n))):iz P T a.eval o m (.one (.p (.int k (k.wrap n)))) []:=by
 have h:=gk v hr;rw[u]at h;exact .calm aF (by simp[execOp,ho,DA h,convert,run_underlying ae,run_underlying H,Conv.intToInt]) (oN (.int _ _))
theorem al5:∀ {N:List Operand}{Y:uw}{D:eO},rj N=some Y->z_ B Y=some D->eH m D (N.map a.eval):=by
 intro N
 induction N with
 |nil=>intro Y D H h;simp[rj]at H;subst H;simp[z_]at h;subst h;exact⟨rfl,λj x u p=>by simp at p⟩
 |cons x r v=>
  intro Y D H h;simp[rj]at H;split at H
  .rename_i y f E L;cases H;simp[z_]at h;split at h
   .rename_i c q n A;cases h;obtain⟨hl,F⟩:=v L A;refine⟨by simpa using hl,λj z u p q=>?_⟩;cases j with
    |zero=>simp at p q;subst p q;have:=gk E hr;rwa[n]at this
    |succ j=>simp at p q;exact F j z u p (by grind)
   cases h
  cases H
theorem aCb{f:FuncId}{x y:Array Operand}{Z y':uw}{n:eO}(ho:o.op=.makeFunc (.func f) x y)(E:rj x.toList=some Z)(A:rj y.toList=some y')
  (F:z_ B Z=some D) (v:z_ B y'=some n):iz P T a.eval o m (.one (.hfn f D n)) []:=by
 have H:=al5 (aF:=aF) (hr:=hr) E F;have h:=al5 (aF:=aF) (hr:=hr) A v;refine .calm (x:=.func _ (x.map a.eval) (y.map a.eval)) aF (by simp[execOp,ho,Instr.makeFunc]) (df.one.2 (.hfn _ _ ?_ ?_ ?_ ?_))
 .have:=H.1;simpa using this
 .have:=h.1;simpa using this
 .intro j z u p q;exact H.2 j z u p (by grind)
 intro j z u p q;exact h.2 j z u p (by grind)
theorem awk{i:Nat}{F:dZ}(ho:o.op=.extract x i)(n:dA x=some Z)(f:ev B Z=.tup F)(h:F[i]?=some v):iz P T a.eval o m v []:=by
 have H:=gk n hr;rw[f]at H;obtain⟨arr,e,hl,j⟩:=H;have A:i<arr.size:=by rw[hl];exact(bt.1 h).1
 exact .calm (x:=arr[i]) aF (by simp[execOp,ho,e,Instr.extract,A]) (.of1 (j i v _ h (by simp[A])))
theorem ahX{x:V}{v:Value}(h:Bs x=some n)(H:df m x v):∃f O,v=.slice f n O/\n<=O/\O<=maxLen:=by
 unfold Bs at h;split at h
 .cases h;exact⟨none,0,QX H,cJ _,bZ _⟩
 .cases h;obtain⟨hp⟩:gh m _ v:=H;rename_i A;generalize M:(PV.sl A)=pv at hp;cases hp<;>cases M
  .exact⟨_,_,rfl,bZ _,by assumption⟩
  grind
 .cases h;cases H with
  |hsl f O hg hl hm h=>exact⟨_,_,rfl,hl,hm⟩
 cases h
theorem aou{c:Call}{t e:TypeId}(ho:o.op=.call c)(j:c.callee=.builtin .len)(h:c.args= #[x])(y:c.argTypes[0]?=some t)(f:P.underlying t=some (.slice e))
  (u:dA x=some Z) (v:Bs (ev B Z)=some n):iz P T a.eval o m (.one (.p (.int .i64 n))) []:=by
 obtain⟨A,O,H,_⟩:=ahX (aF:=aF) (hr:=hr) v (gk u hr);refine .calm aF ?_ (oN (.int _ _));simp[execOp,ho,resolve,j,h,invoke,builtin,Builtin.len_,y,H,run_underlying f,goInt]
theorem asB{c:Call}{t:TypeId}{s:ByteArray}(ho:o.op=.call c)(j:c.callee=.builtin .len)(h:c.args= #[x])(v:c.argTypes[0]?=some t)(f:P.underlying t=some .string)
  (n:dA x=some Z) (u:ev B Z=.one (.p (.str s))):iz P T a.eval o m (.one (.p (.int .i64 s.size))) []:=by
 have H:=gk n hr;rw[u]at H;refine .calm aF ?_ (oN (.int _ _));simp[execOp,ho,resolve,j,h,invoke,builtin,Builtin.len_,v,Ov H,run_underlying f,goInt]
theorem aCr{c:Call}{y:Operand}{k v:IntKind}{p q:Int}(ho:o.op=.call c)(u:c.callee=.builtin .max)(h:c.args= #[x,y])
  (z:dA x=some Z) (H:dA y=some y') (n:ev B Z=.one (.p (.int k p))) (j:ev B y'=.one (.p (.int v q))):iz P T a.eval o m (.one (.p (.int k (if q>p then q else p)))) []:=by
 have g1:=gk z hr;have f:=gk H hr;rw[n]at g1;rw[j]at f;refine .calm aF ?_ (oN (.int _ _));simp[execOp,ho,resolve,u,h,invoke,builtin,Builtin.max_,Builtin.max2,DA g1,DA f]
theorem ayd{c:Call}{y:Operand}{k v:IntKind}{p q:Int}(ho:o.op=.call c)(u:c.callee=.builtin .min)(h:c.args= #[x,y])
  (z:dA x=some Z) (H:dA y=some y') (n:ev B Z=.one (.p (.int k p))) (j:ev B y'=.one (.p (.int v q))):iz P T a.eval o m (.one (.p (.int k (if q<p then q else p)))) []:=by
 have g1:=gk z hr;have f:=gk H hr;rw[n]at g1;rw[j]at f;refine .calm aF ?_ (oN (.int _ _));simp[execOp,ho,resolve,u,h,invoke,builtin,Builtin.min_,Builtin.min2,DA g1,DA f]
end
section
variable{j:Nat}
theorem aBD:∀(u:kR) (blk:aJ) (id:Nat),(app u blk id=blk id/\ ∀e∈u,e.1≠id)\/ ∃e∈u,e.1=id/\app u blk id=e.2:=by
 intro u
 induction u with
 |nil=>intro blk id;exact .inl ⟨rfl,λe h=>by simp at h⟩
 |cons x r n=>
  intro blk id;obtain⟨i,o⟩:=x;simp only[app];rcases n _ id with⟨f,j⟩|⟨e,m,f,j⟩
  .by_cases H:id=i
   .exact .inr ⟨(i,o),aE,H.symm,by rw[f];simp[bG,H]⟩
   refine .inl ⟨by rw[f];simp[bG,H],λe m=>?_⟩
   grind
  grind
theorem Ll{α β γ:Type}{f:α->Option (β×aG)}{R:α->γ->Prop}{T:β->γ->Prop}{fA:aG->Prop}(Q:∀a b,fA (a++b)->fA a/\fA b)
  (hf:∀a b r v,f a=some (b,r)->R a v->fA r->T b v):∀ {N:List α}{y:List β}{r:aG}{F:List γ},iB f N=some (y,r)->fA r->
  (I F=I N/\ ∀(j:Nat) (x:α) (u:γ),N[j]?=some x->F[j]?=some u->R x u)->(I F=I y/\ ∀(j:Nat) (x:β) (u:γ),y[j]?=some x->F[j]?=some u->T x u):=by
 intro N
 induction N with
 |nil=>
  intro y r F h _ hr;simp[iB]at h
  grind
 |cons x t A=>
  intro y r F h hg hr;simp[iB]at h;split at h
  .rename_i b p B q n E;cases h;obtain⟨g1,m⟩:=Q _ _ hg;cases F with
   |nil=>simp at hr
   |cons v us=>
    obtain⟨hl,H⟩:=A E m ⟨by simpa using hr.1,λj x u a b=>hr.2 (j+1) x u (by grind) (by simpa using b)⟩;refine⟨by simp[hl],λj z u a b=>?_⟩;cases j with
    |zero=>simp at a b;subst a b;exact hf _ _ _ _ n (hr.2 0 x v rfl rfl) g1
    |succ j=>simp at a b;exact H j z u a b
  cases h
def xJ(m:a_)(own:Nat->Prop)(r:aG):Prop:=(∀b,own b->m.own b)/\ ∀id∈r,¬own (m.σ id)
theorem xJ.app{own:Nat->Prop}{a b:aG}(h:xJ m own (a++b)):xJ m own a/\xJ m own b:=
 ⟨⟨h.1,λid H=>h.2 id (by simp[H])⟩,⟨h.1,λid H=>h.2 id (by simp[H])⟩⟩
theorem dh.less{w:World}{own:Nat->Prop}(h:∀b,CR b->own b){x:PV}{v:Value}(hr:dh w own x v):dh w CR x v:=hr.mono λc _ H=>⟨rfl,λho=>H (h c ho)⟩
theorem eL.less{w:World}{own:Nat->Prop}(h:∀b,CR b->own b){x:dW}{v:List Value}(hr:eL w own x v):eL w CR x v:=⟨hr.1,λj x u a b=>(hr.2 j x u a b).less h⟩
theorem amA{α:Type}{N:List α}{R:α->Value->Prop}(h:Pw R N F):∃f:Nat->Value,∀(j:Nat) (x:α),N[j]?=some x->F[j]?=some (f j)/\R x (f j):=by
 refine⟨λj=>F.getD j undef,λj x H=>?_⟩;have:F[j]?=some (F.getD j undef):=by simp[List.getD,tH (by rw[h.1];exact(bt.1 H).1)]
 exact⟨this,h.2 j x _ H this⟩
theorem V8{w:World}{own:Nat->Prop}{b o:Nat}{ps:dW}(n:w.heap[b]?=some (.cells H L Y))(hp:Pw (dh w own) ps (H.toList.drop o |>.take (I ps)))
  (ho:ps≠[]-> ¬own b):dh w own (.box ps) (.pointer (some ⟨b,o,none⟩)):=by
 obtain⟨f,hf⟩:=amA hp;refine .box b o f ho (λj x m=>?_) λj x m=>(hf j x m).2;have h:=(hf j x m).1;rw[p_]at h;split at h
 .rw[I2 n];simpa using h
 cases h
theorem ahI{w:World}{own:Nat->Prop}{b o j:Nat}(u:w.heap[b]?=some (.cells H L Y))(n:∀e∈A,I e=j)
  (hl:I A<=O) (hm:O<=maxLen) (hp:Pw (dh w own) A.flatten ((H.toList.drop o).take (I A*j))) (ho:¬own b):dh w own (.sl A) (.slice (some ⟨b,o,none⟩) (I A) O):=by
 obtain⟨f,hf⟩:=amA hp;refine .sl b o O j f (λ_=>ho) hl hm n (λv x m=>?_) λv x m=>(hf v x m).2;have h:=(hf v x m).1;rw[p_]at h;split at h
 .rw[I2 u];simpa using h
 cases h
theorem SU{α:Type}:∀ {A:List (List α)},(∀e∈A,I e=j)->∀(n:Nat),(A.drop n).flatten=A.flatten.drop (n*j):=by
 intro A
 induction A with
 |nil=>intro _ n;simp
 |cons e r f=>
  intro h n;cases n with
  |zero=>simp
  |succ n=>
   simp;rw[f (λx H=>h x (by simp[H])),aau,PS (by rw[h e aE,ld];omega:I e<=(n+1)*j),fB]
   grind
theorem IQ{α:Type}:∀ {A:List (List α)},(∀e∈A,I e=j)->∀(n:Nat),(A.take n).flatten=A.flatten.take (n*j):=by
 intro A
 induction A with
 |nil=>intro _ n;simp
 |cons e r f=>
  intro h n;cases n with
  |zero=>simp
  |succ n=>
   simp;have H:=h e aE;rw[f (λx m=>h x (by simp[m])),Ii,f_ (by rw[H,ld];omega:I e<=(n+1)*j)]
   grind
theorem GS{α:Type}{R:α->Value->Prop}{len:Nat}{A:List (List α)}{H:List Value}(n:∀e∈A,I e=j)(h:Pw R A.flatten (H.take (I A*j)))(f:E+len<=I A):
  Pw R ((A.drop E).take len).flatten ((H.drop (E*j)).take (I ((A.drop E).take len)*j)):=by
 have m:I ((A.drop E).take len)=len:=by simp;omega
 rw[m,IQ (λe u=>n e (yP u)),SU n];have x:=(h.drop (E*j)).take (len*j);have v:((H.take (I A*j)).drop (E*j)).take (len*j)=(H.drop (E*j)).take (len*j):=by
  rw[List.drop_take,Dn];congr 1;have:E*j+len*j<=I A*j:=by rw[<-ld];exact nR _ f
  omega
 rwa[v]at x
theorem aaR{α:Type}{R:α->Value->Prop}:∀ {ps:List (List α)}{H:List Value},(∀e∈ps,I e=j)->I ps*j<=I H->
  (∀(m:Nat) (e:List α),ps[m]?=some e->Pw R e ((H.drop (m*j)).take j))->Pw R ps.flatten (H.take (I ps*j)):=by
 intro ps
 induction ps with
 |nil=>intro H _ _ _;exact⟨aE,λm x u a=>by simp at a⟩
 |cons e r z=>
  intro H h hl hp;simp[fP,ld,IX]at hl;have f:=hp 0 e rfl;rw[DE,NJ]at f;have A:=z (H:=H.drop j) (λx n=>h x (by simp[n])) (by grind) λm x n=>by have:=hp (m+1) x (by grind);rw[ld,IX]at this;rw[KS,QW j];exact this
  have v:=f.append A;have y:H.take j++(H.drop j).take (I r*j)=H.take (I (e::r)*j):=by rw[fP,ld,IX,QW,QY]
  rwa[y]at v
theorem acp{α:Type}{R:α->Value->Prop}{i:Nat}{A:List (List α)}{e:List α}{H:List Value}(f:∀e∈A,I e=j)(h:Pw R A.flatten (H.take (I A*j)))(m:A[i]?=some e):
  Pw R e ((H.drop (i*j)).take j):=by
 have n:=(bt.1 m).1;have u:=GS (E:=i) (len:=1) f h J;have v:((A.drop i).take 1)=[e]:=by
  rw[YN n]
  grind
 grind
theorem Wk{α β:Type}{f:α->Option (β×aG)}:∀ {N:List α}{y:List β}{r:aG},iB f N=some (y,r)->I y=I N:=by
 intro N
 induction N with
 |nil=>intro y r h;simp[iB]at h;rw[h.1];rfl
 |cons x t j=>
  intro y r h;simp[iB]at h
  grind
theorem V1{α β:Type}{f:α->Option (β×aG)}:∀ {N:List α}{Y:List β}{r:aG},iB f N=some (Y,r)->∀ {j:Nat}{y:β},Y[j]?=some y->∃x q,N[j]?=some x/\f x=some (y,q)/\ ∀i∈q,i∈r:=by
 intro N
 induction N with
 |nil=>intro Y r h j y H;simp[iB]at h;rw[h.1]at H;simp at H
 |cons x t m=>
  intro Y r h j y H;simp[iB]at h
  grind
theorem Jd(aF:ez T m){own:Nat->Prop}:∀(n:Nat) {c:bd}{x:PV}{r:aG}{v:Value},snap m.blk n c=some (x,r)->gh m c v->xJ m own r->dh m.w own x v:=by
 intro n
 induction n with
 |zero=>intro c x r v h;simp[snap]at h
 |succ n ih=>
  intro c x r v h hr ae;have Uq:∀ {D:eO}{ps:dW}{q:aG}{F:List Value},iB (snap m.blk n) D=some (ps,q)->xJ m own q->Pw (gh m) D F->Pw (dh m.w own) ps F:=λX Z h3=>Ll (T:=dh m.w own) (λa b h=>h.app) (λa b r v e1 e2 e3=>ih e1 e2 e3) X Z h3
  have UA:∀ {ps:dW}{F:List Value},eL m.w m.own ps F->Pw (dh m.w own) ps F:=λh=>eL.pw.1 (h.less ae.1);unfold snap at h;cases c with
  |p y=>simp at h;obtain⟨rfl,rfl⟩:=h;obtain⟨hp⟩:=hr;exact hp.norm.less ae.1
  |bR id g E=>
   cases hr with
   |bR a hg ha=>
    simp only at h;split at h
    .rename_i g' D Q;split at h
     .rename_i jV;split at h
      .rename_i ps q hq;cases h;have cV:(m.blk id).2=some (.var D):=by rw[Q]
       have ha:=ha (by rw[Q];exact jV) (by rw[cV];rfl);subst ha;obtain⟨H,L,hh,hc⟩:=aF.obj id _ cV;refine V8 hh ?_ λ_=>ae.2 id aE;have X:=(Uq hq ⟨ae.1,λi hi=>ae.2 i (by simp[hi])⟩ (eH.pw.1 hc)).drop E;rw[f_ (by have:=X.1;omega)];exact X
      cases h
     cases h
    .rename_i g' ps Q;split at h
     .rename_i jV;cases h;have cV:(m.blk id).2=some (.fvar ps):=by rw[Q]
      have ha:=ha (by rw[Q];exact jV) (by rw[cV];rfl);subst ha;obtain⟨H,L,Y,hh,hc,_⟩:=aF.obj id _ cV;refine V8 hh ?_ λ_=>ae.2 id aE;have X:=(UA hc).drop E;rw[f_ (by have:=X.1;omega)];exact X
     cases h
    cases h
  |dR id g i E=>
   cases hr with
   |dR a hg ha=>
    have ab:∀(L j:Nat) (A:dI) (e:dW) (H:Array Value) (Y:Nat×Nat),m.w.heap[m.σ id]?=some (.cells H L Y)->(∀e∈A,I e=j)->I A*j<=H.size->
      eL m.w m.own A.flatten (H.toList.take (I A*j))->A[i]?=some e->a=⟨m.σ id,i*j+E,none⟩-> ¬own (m.σ id)->dh m.w own (.box (e.drop E)) (.pointer (some a)):=by
     intro L j A e H Y hh N ac eE he Cp eI;subst Cp;have hi:=(bt.1 he).1;have qo:(i+1)*j<=I A*j:=nR _ hi;have X:=(GS (E:=i) (len:=1) N (UA eE) J).drop E;have h0:((A.drop i).take 1)=[e]:=by rw[YN hi];have:=(bt.1 he).2;simp[this]
     rw[h0]at X;simp only[xX,UP,ic,fP,ga,jN,IX]at X;refine V8 hh ?_ λ_=>eI;have Z:(H.toList.drop (i*j+E)).take (I (e.drop E))=(((H.toList.drop (i*j)).take j).drop E):=by rw[List.drop_take,KS,rG,Nd N he]
     rw[Z];exact X
    simp only at h;split at h
    .rename_i g' L j A Q;split at h
     .rename_i jV;simp only[gv,nh]at h;obtain⟨e,he,rfl,rfl⟩:=h;obtain⟨H,hh,mB,N,hl,hm,eh,eE⟩:=aF.obj id _ (by rw[Q]);exact ab L j A e H _ hh N (by rw[eh];exact nR _ hl) eE he (ha j (by rw[Q];exact jV) (by rw[Q];rfl)) (ae.2 id aE)
     cases h
    .rename_i g' L j A Q;split at h
     .rename_i jV;simp only[gv,nh]at h;obtain⟨e,he,rfl,rfl⟩:=h;obtain⟨H,Y,hh,mB,N,hl,hm,eh,eE,_⟩:=aF.obj id _ (by rw[Q]);exact ab L j A e H _ hh N (by rw[eh];exact nR _ hl) eE he (ha j (by rw[Q];exact jV) (by rw[Q];rfl)) (ae.2 id aE)
     cases h
    cases h
  |hsl id g z E len=>
   cases hr with
   |hsl a O hg hl hm ha=>
    have ab:∀(L j:Nat) (A:dI) (H:Array Value) (Y:Nat×Nat),m.w.heap[m.σ id]?=some (.cells H L Y)->(∀e∈A,I e=j)->Pw (dh m.w own) A.flatten (H.toList.take (I A*j))->
      E+len<=I A->(E=0\/0<len->a=⟨m.σ id,E*j,none⟩)-> ¬own (m.σ id)->dh m.w own (.sl ((A.drop E).take len)) (.slice (some a) len O):=by
     intro L j A H Y hh N eE ap Cp eI;by_cases ac:len=0
     .subst ac;simp only[List.take_zero];exact .A3 _ _ (λh=>by cases h) hm
     have:=Cp (.inr J);subst this;have ao:I ((A.drop E).take len)=len:=by simp;omega
     have X:=ahI hh (λe he=>N e (yP (za he))) J hm (GS N eE ap) eI;rwa[ao]at X
    simp only at h;split at h
    .rename_i g' L j A Q;split at h
     .rename_i hc;cases h;obtain⟨H,hh,mB,N,jW,mW,eh,eE⟩:=aF.obj id _ (by rw[Q]);exact ab L j A H _ hh N (UA eE) hc.2 (by obtain⟨_,Z,_⟩:=ha j (by rw[Q];exact hc.1) (by rw[Q];rfl);rename_i e1 _;exact e1▸Z) (ae.2 id aE)
     cases h
    .rename_i g' L j A Q;split at h
     .rename_i hc;cases h;obtain⟨H,Y,hh,mB,N,jW,mW,eh,eE,_⟩:=aF.obj id _ (by rw[Q]);exact ab L j A H _ hh N (UA eE) hc.2 (by obtain⟨_,Z,_⟩:=ha j (by rw[Q];exact hc.1) (by rw[Q];rfl);exact Z) (ae.2 id aE)
     cases h
    .rename_i g' L j A Q;split at h
     .rename_i hc;split at h
      .rename_i ps q hq;cases h;obtain⟨H,hh,mB,N,jW,mW,eh,eE⟩:=aF.obj id _ (by rw[Q]);have av:=GS N (eH.pw.1 eE) hc.2;have ao:I ((A.drop E).take len)=len:=by simp;omega
       have aX:I ps=len:=by rw[Wk hq,ao]
       have ad:len*j<=I (H.toList.drop (E*j)):=by
        simp;have X:E*j+len*j<=I A*j:=by rw[<-ld];exact nR _ hc.2
        have Z:I A*j<=m.κ id*j:=nR _ jW;omega
       have l5:∀(am:Nat) (e:dW),ps[am]?=some e->Pw (dh m.w own) e (((H.toList.drop (E*j)).drop (am*j)).take j):=by intro am e he;obtain⟨x,q',X,Z,h3⟩:=V1 hq he;exact Uq Z ⟨ae.1,λi hi=>ae.2 i (by simp[h3 i hi])⟩ (acp (λe he=>N e (yP (za he))) av X)
       have HD:∀e∈ps,I e=j:=by intro e he;obtain⟨am,hj⟩:=fK he;have:=(l5 am e hj).1;have X:(am+1)*j<=len*j:=nR _ (by rw[<-aX];exact(bt.1 hj).1);rw[ld]at X;simp at this ad;omega
       by_cases ac:len=0
       .have:ps=[]:=Eh J;subst this;subst ac;exact .A3 _ _ (λh=>by cases h) hm
       obtain⟨_,Z,_⟩:=ha j (by rw[Q];exact hc.1) (by rw[Q];rfl);rename_i e1 _;have Cp:=Z (.inr J);subst Cp;have uK:=ahI hh HD J hm (aaR HD (by rw[aX];exact ad) l5) (ae.2 id aE);rwa[aX]at uK
      cases h
     cases h
    cases h
  |nV id g=>
   cases hr with
   |nV r' hg ha=>
    have ab:∀(ag:Bool) (A:yF) (M:Array MapEntry) (R:Nat),m.w.heap[m.σ id]?=some (.map M R)->M.size=I A->
      (∀(i:Nat) (q:PV) (v:dW) (e:MapEntry),A[i]?=some (q,v)->M[i]?=some e->dh m.w m.own q e.key/\ ∃g:Array Value,(ag->e.val=.agg g)/\(ag=false-> #[e.val]=g)/\eL m.w m.own v g.toList)->
      ¬own (m.σ id)->dh m.w own (.mp ag A) (.map (some (m.σ id))):=by
     intro ag A M R hh hl hc eI;have ar:∃G:Nat->Array Value,∀(i:Nat) (q:PV) (v:dW) (e:MapEntry),A[i]?=some (q,v)->M[i]?=some e->(ag->e.val=.agg (G i))/\(ag=false-> #[e.val]=G i)/\eL m.w m.own v (G i).toList:=by
      refine⟨λi=>match M[i]? with|some e=>(match e.val with| .agg g=>if ag then g else #[e.val]|v=> #[v])|none=> #[],λi q v e X Z=>?_⟩;obtain⟨_,g,g1,g2,g3⟩:=hc i q v e X Z;simp only[Z];cases ag with
      |true=>have:=g1 rfl;simp[this];exact g3
      |false=>
       have:=g2 rfl;subst this;refine⟨(λh=>by cases h),(λ_=>?_),?_⟩
       .cases e.val<;>rfl
       cases hv:e.val<;>simp only[hv]at g3<;>exact g3
     obtain⟨G,hG⟩:=ar;refine .mp (m.σ id) M R G eI hh hl (λi q v e X Z=>((hc i q v e X Z).1).less ae.1) (λi q v e X Z=>?_) λi q v am x u X Z h3=>?_
     .obtain⟨a1,a2,a3⟩:=hG i q v e X Z;exact⟨by have:=a3.1;simpa using this,a1,a2⟩
     obtain⟨a1,a2,a3⟩:=hG i q v _ X (W8 (by rw[hl];exact(bt.1 X).1));exact(a3.2 am x u Z (by rw[IF];exact h3)).less ae.1
    simp only at h;split at h
    .rename_i g' ag A Q;split at h
     .rename_i jV;cases h;have cV:(m.blk id).2=some (.map ag A):=by rw[Q]
      have ha:=ha (by rw[Q];exact jV) (by rw[cV];rfl);subst ha;obtain⟨M,R,hh,hl,hc⟩:=aF.obj id _ cV;exact ab ag A M R hh hl hc (ae.2 id aE)
     cases h
    .rename_i g' ag A Q;split at h
     .rename_i jV;cases h;have cV:(m.blk id).2=some (.fmap ag A):=by rw[Q]
      have ha:=ha (by rw[Q];exact jV) (by rw[cV];rfl);subst ha;obtain⟨M,R,hh,hl,hc,_⟩:=aF.obj id _ cV;exact ab ag A M R hh hl hc (ae.2 id aE)
     cases h
    cases h
  |hfn f a b=>
   cases hr with
   |hfn aw B hA hB zt qB=>
    simp only at h;split at h
    .rename_i xa ra xb fv X Z;cases h;obtain⟨s1,s2⟩:=ae.app;have p1:=Uq (F:=aw.toList) X s1 ⟨by simpa using hA,λam x u p q=>zt am x u p (by rw[<-IF];exact q)⟩;have p2:=Uq (F:=B.toList) Z s2 ⟨by simpa using hB,λam x u p q=>qB am x u p (by rw[<-IF];exact q)⟩;exact .fn aw B (by have:=p1.1;simpa using this) (by have:=p2.1;simpa using this) (λam x u p q=>p1.2 am x u p (by rw[IF];exact q)) λam x u p q=>p2.2 am x u p (by rw[IF];exact q)
    cases h
end
theorem azI{blk:aJ}{all:aG}:∀ {l:aG}{u:kR},tY blk all l=some u->
  (∀e∈u,e.1∈l/\ ∃x,xI blk all e.1=some x/\e∈x)/\ ∀id∈l,∃x,xI blk all id=some x/\ ∀e∈x,e∈u:=by
 intro l
 induction l with
 |nil=>intro u h;simp[tY]at h;subst h;exact⟨λe h=>by simp at h,λid h=>by simp at h⟩
 |cons i r j=>
  intro u h;simp[tY]at h;split at h
  .rename_i a b m f;cases h;obtain _:=j f;have H:∀e∈a,e.1=i:=by
    intro e n;unfold xI at m
    grind
   grind
  cases h
def Kw(blk:aJ)(all:aG):gP->gP->Prop
 | .var D,.fvar ps=>∃r,iB (snap blk jl) D=some (ps,r)/\ ∀i∈r,i∈all
 | .arr L j A,.sL u f h=>u=L/\f=j/\h=A
 | .lh L j A,.sL u f ps=>u=L/\f=j/\ ∃r,iB (iB (snap blk jl)) A=some (ps,r)/\ ∀i∈r,i∈all
 | .map m A,.fmap n h=>n=m/\h=A
 |_,_=>False
theorem Kw.facts{blk:aJ}{all:aG}{o O:gP}(h:Kw blk all o O)(g:Nat):o.iM/\O.iM=false/\lW (g,some O)=lW (g,some o):=by
 cases o<;>cases O<;>simp[Kw]at h<;>first
  |exact h.elim
  |exact⟨rfl,rfl,rfl⟩
  |exact⟨rfl,rfl,by simp[lW,h.2.1]⟩
theorem ag0{blk:aJ}{all:aG}{id:Nat}{x:kR}(h:xI blk all id=some x):
  (∃o,(blk id).2=some o/\o.iM=false/\x=[])\/ ∃o O,(blk id).2=some o/\Kw blk all o O/\x=[(id,((blk id).1,some O))]:=by
 unfold xI at h;split at h
 .rename_i g D H;split at h
  .rename_i ps r m;split at h
   .rename_i E;cases h;refine .inr ⟨.var D,.fvar ps,by rw[H],⟨r,m,λi u=>?_⟩,by rw[H]⟩
    grind
   cases h
  cases h
 .rename_i g L j A H;cases h;exact .inr ⟨.arr L j A,.sL L j A,by rw[H],⟨rfl,rfl,rfl⟩,by rw[H]⟩
 .rename_i g L j A H;split at h
  .rename_i ps r m;split at h
   .rename_i E;cases h;refine .inr ⟨.lh L j A,.sL L j ps,by rw[H],⟨rfl,rfl,r,m,λi u=>?_⟩,by rw[H]⟩
    grind
   cases h
  cases h
 .rename_i g f A H;cases h;exact .inr ⟨.map f A,.fmap f A,by rw[H],⟨rfl,rfl⟩,by rw[H]⟩
 .cases h
 rename_i y z B N v n;cases h;cases H:blk id with
 |mk g o=>
  cases o with
  |none=>exact(n g H).elim
  |some o=>
   refine .inl ⟨o,rfl,?_,rfl⟩;cases o with
   |var D=>exact(z g D H).elim
   |arr L j A=>exact(B g L j A H).elim
   |lh L j A=>exact(N g L j A H).elim
   |map f A=>exact(v g f A H).elim
   |_=>rfl
def a_.with(m:a_)(u:kR):a_:={m with blk:=app u m.blk}
theorem zE{ids:aG}(h:tJ m.blk ids=some u)(id:Nat):
  ((m.with u).blk id=m.blk id/\(id∈ids->∃o,(m.blk id).2=some o/\o.iM=false))\/
  (id∈ids/\ ∃o O,(m.blk id).2=some o/\Kw m.blk ids o O/\(m.with u).blk id=((m.blk id).1,some O)):=by
 obtain⟨z,j⟩:=azI h;rcases aBD u m.blk id with⟨E,f⟩|⟨e,y,E,f⟩
 .refine .inl ⟨E,λH=>?_⟩;obtain⟨x,v,n⟩:=j id H;rcases ag0 v with⟨o,a,b,_⟩|⟨o,O,a,b,c⟩
  .exact⟨o,a,b⟩
  exact(f (id,(m.blk id).fst,some O) (n _ (by grind)) rfl).elim
 obtain⟨k1,x,k2,k3⟩:=z e y;rw[E]at k1 k2;rcases ag0 k2 with _|⟨o,O,a,b,c⟩
 .grind
 rw[c]at k3;simp at k3;refine .inr ⟨k1,o,O,a,b,?_⟩;simp[a_.with];rw[f,k3]
theorem Xd{ids:aG}(h:tJ m.blk ids=some u){c:Nat}(j:(m.with u).own c):m.own c:=by
 rcases j with j|⟨id,o,H,f,n⟩
 .exact .inl j
 rcases zE h id with⟨e,_⟩|⟨_,p,q,a,b,e⟩
 .rw[e]at H;exact .inr ⟨id,o,H,f,n⟩
 rw[e]at H;cases H;rw[(b.facts 0).2.1]at f;cases f
theorem YB(aF:ez T m){ids:aG}(h:tJ m.blk ids=some u):xJ m (m.with u).own ids:=by
 refine⟨λb z=>Xd h z,λid v j=>?_⟩;rcases zE h id with⟨e,A⟩|⟨_,o,O,a,b,e⟩
 .obtain⟨o,ho,hm⟩:=A v;exact(aF.obj id o ho).calm hm (Xd h j)
 rcases j with j|⟨n,q,H,f,y⟩
 .exact(aF.gT id o a (b.facts 0).1).2 j
 by_cases x:n=id
 .subst x;rw[e]at H;cases H;rw[(b.facts 0).2.1]at f;cases f
 rcases zE h n with⟨E,_⟩|⟨_,F,Q,D,B,E⟩
 .rw[E]at H;exact x (aF.inj n id q o H f a (b.facts 0).1 y)
 rw[E]at H;cases H;rw[(B.facts 0).2.1]at f;cases f
theorem ZQ{m:a_}{ids:aG}{u:kR}(h:tJ m.blk ids=some u):hs m (m.with u) where
 os:=rfl
 tape:=rfl
 output:=rfl
 size:=cJ _
 keep _ _ _:=rfl
 iM c _ j:=by
  obtain⟨id,o,H,f,n⟩:=j;rcases zE h id with⟨e,_⟩|⟨_,p,q,a,b,e⟩
  .rw[e]at H;exact⟨id,o,H,f,n⟩
  rw[e]at H;cases H;rw[(b.facts 0).2.1]at f;cases f
 less c _ v j:=v (Xd h j)
 gen id:=by rcases zE h id with⟨e,_⟩|⟨_,p,q,a,b,e⟩<;>rw[e]<;>exact cJ _
 ref id x ae:=by
  rcases zE h id with⟨e,_⟩|⟨_,p,q,a,b,e⟩
  .rw[e]at ae |-;exact⟨ae,rfl,rfl,rfl⟩
  rw[e]at ae |-;refine⟨by rw[a];rfl,rfl,rfl,?_⟩;have H:m.blk id=((m.blk id).1,some p):=by rw[<-a]
  rw[(b.facts (m.blk id).1).2.2,<-H]
theorem adl{m:a_}(aF:ez T m){ids:aG}{u:kR}(h:tJ m.blk ids=some u):ez T (m.with u) where
 os:=aF.os
 tape:=aF.tape
 output:=aF.output
 size:=aF.size
 base:=aF.base
 obj id o ho:=by
  have ff:=ZQ h;have Q:=YB aF h;rcases zE h id with⟨e,_⟩|⟨ab,p,q,a,b,e⟩
  .rw[e]at ho;exact(aF.obj id o ho).ev ff.zero rfl rfl rfl
  rw[e]at ho;cases ho;have R:=Q.2 id ab;have UI:∀r:aG,(∀i∈r,i∈ids)->xJ m (m.with u).own r:=λr hr=>⟨Q.1,λi hi=>Q.2 i (hr i hi)⟩;have O:=aF.obj id p a;cases p<;>cases o<;>simp only[Kw]at b<;>first
   |exact b.elim
   |skip
  .obtain⟨r,D,hr⟩:=b;obtain⟨H,L,B,F⟩:=O;exact⟨H,L,(0,0),B,eL.pw.2 (Ll (T:=dh m.w (m.with u).own) (λa b h=>h.app) (λa b r v e1 Z e3=>Jd aF _ e1 Z e3) D (UI r hr) (eH.pw.1 F)),R⟩
  .obtain⟨rfl,rfl,rfl⟩:=b;obtain⟨H,B,X,y,hl,hm,F,Y⟩:=O;exact⟨H,(0,0),B,X,y,hl,hm,F,Y.less Q.1,R⟩
  .obtain⟨rfl,rfl,r,D,hr⟩:=b;obtain⟨H,B,X,y,hl,hm,F,Y⟩:=O;rename_i A _ j ps;have aX:=Wk D;have E:I ps*j<=I H.toList:=by
    have f:I A*j<=m.κ id*j:=nR _ hl;simp;rw[aX];omega
   have l5:∀(ac:Nat) (e:dW),ps[ac]?=some e->Pw (dh m.w (m.with u).own) e ((H.toList.drop (ac*j)).take j):=by intro ac e M;obtain⟨x,q',n,f,h3⟩:=V1 D M;exact Ll (T:=dh m.w (m.with u).own) (λa b h=>h.app) (λa b r v e1 Z e3=>Jd aF _ e1 Z e3) f (UI q' λi hi=>hr i (h3 i hi)) (acp y (eH.pw.1 Y) n)
   have HD:∀e∈ps,I e=j:=by
    intro e M;obtain⟨ac,hj⟩:=fK M;have:=(l5 ac e hj).1;have n:(ac+1)*j<=I ps*j:=nR _ ((bt.1 hj).1)
    grind
   exact⟨H,(0,0),B,X,HD,by rw[aX];exact hl,hm,F,eL.pw.2 (aaR HD E l5),R⟩
  obtain⟨rfl,rfl⟩:=b;obtain⟨N,z,B,hl,D⟩:=O;exact⟨N,z,B,hl,λi q v e n f=>let ⟨p,g,g1,g2,g3⟩:=D i q v e n f;⟨p.less Q.1,g,g1,g2,g3.less Q.1⟩,R⟩
 gT id o ho hm:=by
  rcases zE h id with⟨e,_⟩|⟨_,p,q,a,b,e⟩
  .rw[e]at ho;exact aF.gT id o ho hm
  rw[e]at ho;cases ho;rw[(b.facts 0).2.1]at hm;cases hm
 frlt:=aF.frlt
 inj id gI o o' n m1 f m2 M:=by
  rcases zE h id with⟨e,_⟩|⟨_,p,q,a,b,e⟩
  .rcases zE h gI with⟨e',_⟩|⟨_,p',q',a',b',e'⟩
   .rw[e]at n;rw[e']at f;exact aF.inj id gI o o' n m1 f m2 M
   rw[e']at f;cases f;rw[(b'.facts 0).2.1]at m2;cases m2
  rw[e]at n;cases n;rw[(b.facts 0).2.1]at m1;cases m1
section
variable{M:World}
def a_.oq(m:a_)(M:World)(s c k:Nat)(o:gP):a_:=(m.later M (· =c)).install s c k o
section
variable {m:a_} {M:World} {s c k:Nat} {o:gP} (hg:jv m.w M) (ib:m.w.heap.size<=c) (jB:c<M.heap.size)
theorem T1(aF:ez T m)(ib:m.w.heap.size<=c):(m.oq M s c k o).fr=m.fr:=by
 funext x;simp only[a_.oq,a_.install,a_.later];apply propext;constructor
 .grind
 intro h;exact⟨.inl h,λe=>by have:=aF.frlt x h;omega⟩
include hg ib
theorem Sr:hs m (m.oq M s c k o):=Q3 (K6 hg λx h=>by subst h;exact ib) (.inr rfl) (.inl ib)
include jB
theorem S7(aF:ez T m)(ho:uy (m.oq M s c k o) s o):ez T (m.oq M s c k o):=Ry (NH aF hg λx h=>by subst h;exact⟨ib,jB⟩) (.inr rfl) (oO aF.size ib) ho
end
theorem KP{s c k:Nat}{o:gP}:(m.oq M s c k o).σ s=c:=by simp[a_.oq,a_.install,bG]
theorem yk{s c k:Nat}{o:gP}:(m.oq M s c k o).κ s=k:=by simp[a_.oq,a_.install,bG]
theorem aqi{s c k:Nat}{o:gP}:(m.oq M s c k o).blk=app [(s,((m.blk s).1+1,some o))] m.blk:=rfl
theorem apu{s c k:Nat}{o:gP}:(m.oq M s c k o).w=M:=rfl
theorem Xz{s c L:Nat}(H:n<=O)(hm:O<=maxLen):
  df (m.oq M s c O (.arr L j A)) (.one (.hsl s ((m.blk s).1+1) j 0 n)) (.slice (some ⟨c,0,none⟩) n O):=by
 refine df.one.2 (.hsl _ _ ?_ H hm λz f h=>?_)
 .simp[a_.oq,a_.install,a_.later,bG]
 have:lW ((m.oq M s c O (.arr L j A)).blk s)=some j:=by simp[a_.oq,a_.install,bG,lW]
 rw[this]at h;cases h;refine⟨rfl,λ_=>?_,by rw[jN];exact yk.symm⟩;rw[KP,DE]
theorem aw0{s c L:Nat}{A:List eO}(H:n<=O)(hm:O<=maxLen):
  df (m.oq M s c O (.lh L j A)) (.one (.hsl s ((m.blk s).1+1) j 0 n)) (.slice (some ⟨c,0,none⟩) n O):=by
 refine df.one.2 (.hsl _ _ ?_ H hm λz f h=>?_)
 .simp[a_.oq,a_.install,a_.later,bG]
 have:lW ((m.oq M s c O (.lh L j A)).blk s)=some j:=by simp[a_.oq,a_.install,bG,lW]
 rw[this]at h;cases h;refine⟨rfl,λ_=>?_,by rw[jN];exact yk.symm⟩;rw[KP,DE]
theorem Vd{t e:TypeId}{bytes:Nat}(h:CP P t=some (e,j,bytes,z)):
  ∃i v,P.underlying t=some (.slice e)/\P.info? e=some i/\i.size=j/\i.bytes=bytes/\(0<j/\0<bytes)/\i.zero=some v/\v.cells.size=j/\I z=j/\ ∀w own,eL w own z v.cells.toList:=by
 unfold CP at h;split at h
 .rename_i E f;split at h
  .rename_i i Z m H;split at h
   .rename_i n;cases h;obtain _:=LO H
    grind
   cases h
  cases h
 cases h
theorem aq9{R:PV->Value->Prop}{v:Array Value}(F:Pw R z v.toList)(y:v.size=j)(B:0<j):
  Pw R (List.replicate n z).flatten ((madeCells v (n*j)).toList.take (n*j)):=by
 have A:∀e∈List.replicate n z,I e=j:=λe m=>by rw[acC m];exact by have:=F.1;simp at this;omega
 have H:(madeCells v (n*j)).toList.length=n*j:=by simp[size_madeCells]
 rw[f_ J];refine⟨by rw[H,Kv A];simp,λf x u p q=>?_⟩;have D:f<n*j:=by have:=(bt.1 q).1;omega
 have h:f/j<n:=by rw[Nat.div_lt_iff_lt_mul B];exact D
 have L:f%j<j:=cT _ B;have m:(List.replicate n z)[f/j]?=some z:=by simp[h]
 have E:=Ip A m L;rw[show f/j*j+f%j=f by rw[TF];exact V_ f j]at E;rw[E]at p;have M:(madeCells v (n*j)).toList[f]?=some v[f%j]! :=by unfold madeCells;simp[D,y]
 rw[M]at q;cases q;refine F.2 _ x _ p ?_
 grind
section
variable {m:a_} {B:bJ} {a:Act} {o:Oper} (aF:ez T m) (hr:kI m B a.tmps)
include aF hr
theorem ayD{t e:TypeId}{l c:Operand}{L:fk}{s bytes:Nat}(ho:o.op=.makeSlice t l c)(Y:CP P t=some (e,j,bytes,z))(hl:dA l=some L)(hc:dA c=some c')
  (X:tE (ev B L)=some n) (hm:tE (ev B c')=some n) (N:n*bytes<=mN):
  iz P T a.eval o m (.one (.hsl s ((m.blk s).1+1) j 0 n)) [(s,((m.blk s).1+1,some (.arr e j (List.replicate n z))))]:=by
 obtain⟨i,v,H,Q,ae,hb,⟨f,u⟩,D,O,l9,E⟩:=Vd Y;obtain⟨k1,A⟩:=AO X (gk hl hr);obtain⟨k2,h⟩:=AO hm (gk hc hr);unfold mN at N;have Z:n<=maxLen:=by have:n<=n*bytes:=SF _ u;simp[maxLen];omega
 have y:(i.bytes:Int)*(n:Int)<=281474976710656:=by grind
 have R:=run_make m.w t e i v H Q D k1 k2 n n J (Int.le_refl _) y (by simp[maxLen]at Z;omega);simp[js,ae]at R
 let M:=m.oq (m.w.alloc (.cells (madeCells v.cells (n*j)) e)) s m.w.heap.size n (.arr e j (List.replicate n z))
 have F:uy M s (.arr e j (List.replicate n z)):=by
  refine⟨_,by rw[KP];exact heap_alloc_new m.w _,f,λx hx=>?_,?_,?_,?_,?_⟩
  .grind
  .rw[yk];simp
  .rw[yk];exact Z
  .rw[yk,size_madeCells]
  rw[Ph];exact eL.pw.2 (aq9 (eL.pw.1 (E _ _)) O f)
 refine⟨_,M,.inl ?_,S7 (jv.alloc _ _) (cJ _) aE aF F,Sr (jv.alloc _ _) (cJ _),T1 aF (cJ _),rfl,Xz (cJ _) Z⟩;simp[execOp,ho,A,h,R];rfl
theorem ajY{lo f:Option Operand}{l:Nat}{b:Bool}(j:zR lo=some Gi)(z:zR f=some zk)(hl:uJ B 0 Gi=some l)(D:uJ B n zk=some h)
  (M:l<=h) (H:h<=O):(Instr.sliceBounds b n O (lo.map a.eval) (f.map a.eval) none).run P m.w=.ok (l,h,O) m.w:=by
 have Q:(match f.map a.eval with|some v=>∃k,v=Value.int k (h:Int)|none=>h=n):=by
  cases f with
  |none=>simp[zR]at z;subst z;simp[uJ]at D;simpa using D.symm
  |some x=>simp[zR,gv]at z;obtain⟨y,A,rfl⟩:=z;exact AO D (gk A hr)
 have E:(match lo.map a.eval with|some v=>∃k,v=Value.int k (l:Int)|none=>l=0):=by
  cases lo with
  |none=>simp[zR]at j;subst j;simp[uJ]at hl;simpa using hl.symm
  |some x=>simp[zR,gv]at j;obtain⟨y,A,rfl⟩:=j;exact AO hl (gk A hr)
 generalize lo.map a.eval=L at E;generalize f.map a.eval=F at Q;cases L with
 |none=>
  subst E;cases F with
  |none=>simp only at Q;subst Q;simp[Instr.sliceBounds]
  |some v=>obtain⟨k,rfl⟩:=Q;simp[Instr.sliceBounds,Instr.sliceBound,asIntOf,H]
 |some u=>
  obtain⟨k,rfl⟩:=E;cases F with
  |none=>simp only at Q;subst Q;simp[Instr.sliceBounds,Instr.sliceBound,asIntOf,M]
  |some v=>obtain⟨N,rfl⟩:=Q;simp[Instr.sliceBounds,Instr.sliceBound,asIntOf,H,M]
theorem ar3{t:TypeId}{lo j:Option Operand}{s:ByteArray}{l:Nat}(ho:o.op=.slice t x lo j none)(v:P.underlying t=some .string)
  (z:dA x=some Z) (y:zR lo=some Gi) (u:zR j=some zk) (ae:ev B Z=.one (.p (.str s))) (hl:uJ B 0 Gi=some l) (n:uJ B s.size zk=some h) (M:l<=h) (H:h<=s.size):
  iz P T a.eval o m (.one (.p (.str (s.extract l h)))) []:=by
 have f:=gk z hr;rw[ae]at f;refine .calm aF ?_ (oN (.str _));simp[execOp,ho,Ov f,Instr.sliceAt,Instr.slice,run_underlying v,ajY (aF:=aF) (hr:=hr) y u hl n M H]
theorem awX{t e:TypeId}{lo hi:Option Operand}{l:Nat}(ho:o.op=.slice t x lo hi none)(ht:P.underlying t=some (.slice e))(ab:ze P e=some j)
  (hx:dA x=some Z) (jf:zR lo=some Gi) (Hp:zR hi=some zk) (N:Bs (ev B Z)=some n) (hl:uJ B 0 Gi=some l) (hh:uJ B n zk=some h)
  (H:FA (ev B Z) j l h=.done v [] []):iz P T a.eval o m v []:=by
 have M:=gk hx hr;unfold FA at H;split at H
 .cases H
 rename_i My;have run:∀(u:Option Addr) (O:Nat),a.eval x=.slice u n O->h<=O->(execOp a.eval o).run P m.w=.ok (.value (.slice (if O=l then u else u.map (·.add (l*j))) (h-l) (O-l))) m.w:=by intro u O lY Q;simp[execOp,ho,lY,Instr.sliceAt,Instr.slice,run_underlying ht,ajY (P:=P) (aF:=aF) (hr:=hr) (b:=true) jf Hp hl hh (by simpa using My) Q,RH ab]
 obtain⟨ap,am,hsl,ac,qR⟩:=ahX (aF:=aF) (hr:=hr) N M;split at H
 .rename_i y;split at H
  .rename_i h0;cases H;rw[y]at M;have:=QX M;subst h0;have X:l=0:=J;subst X;rw[this]at hsl;cases hsl;refine .calm aF (run none 0 this (cJ _)) ?_;simp;exact oN .nils
  cases H
 .rename_i A y;split at H
  .rename_i Y;cases H;rw[y]at M N;simp[Bs]at N;subst N;obtain⟨hp⟩:gh m _ (a.eval x):=M;generalize hb:a.eval x=b at hp;generalize mY:(PV.sl A)=pv at hp;cases hp<;>cases mY
   .rename_i u O Au hm;simp at Y;have ag:h=0:=J;subst ag;have X:l=0:=J;subst X;refine .calm aF (run u O hb (bZ _)) (oN ?_);simp only[List.drop_nil,List.take_nil,OO];refine .A3 _ _ (λh=>?_) hm;split at h
    .exact Au h
    cases u with
    |none=>exact Au rfl
    |some u=>simp at h
   rename_i b' o' O fQ f hm qx jW L wO F6;refine .calm aF (run _ O hb J) (oN ?_);by_cases aw:l=h
   .subst aw;simp only[xt,List.take_zero];refine .A3 _ _ (λh=>?_) J;split at h<;>simp at h
   have R:I ((A.drop l).take (h-l))=h-l:=by simp;omega
   have fi:A≠[]:=λe=>by subst e;simp at Y;omega
   have ZK:fQ=j:=by obtain⟨e0,r0,rfl⟩:=abZ fi;have g1:=L e0 aE;have g2:=Y.2;simp[aB]at g2;omega
   subst ZK;rw[aC J];simp only[wy,Addr.add_lit];have Ea:=dh.sl (w:=m.w) (es:=(A.drop l).take (h-l)) b' (o'+l*fQ) (O-l) fQ (λao=>f (l*fQ+ao)) (λaO=>qx λe0=>aO ?_) J J (λe y=>L e (yP (za y))) ?_ ?_
   .rw[R]at Ea;exact Ea
   .apply Eh;rw[IQ (λe y=>L e (yP y)),SU L,e0];simp
   .intro ao z D;rw[IQ (λe y=>L e (yP y)),SU L,p_]at D;split at D
    .rw[Fw]at D;rw[AH];exact wO _ z D
    cases D
   intro ao z D;rw[IQ (λe y=>L e (yP y)),SU L,p_]at D;split at D
   .rw[Fw]at D;exact F6 _ z D
   cases D
  cases H
 .rename_i id g z E len y;split at H
  .rename_i Y;cases H;rw[y]at M N;simp[Bs]at N;subst N;have eS:=M;generalize hb:a.eval x=b at eS;cases eS with
   |hsl u O hg qt hm Qi=>
    refine .calm aF (run _ O hb J) ?_;have ZI:∃F,(if O=l then some u else(some u).map (·.add (l*j)))=some F/\(O≠l->F=u.add (l*j))/\(l=0->F=u):=by
     by_cases dF:O=l
     .exact⟨u,by simp[dF],λh=>(h dF).elim,λ_=>rfl⟩
     exact⟨u.add (l*j),by simp[dF],λ_=>rfl,λh=>by subst h;simp[Addr.add]⟩
    obtain⟨F,e1,e2,e3⟩:=ZI;rw[e1];refine df.one.2 (.hsl _ _ hg J J λs g1 g2=>?_);obtain⟨f1,f2,f3⟩:=Qi s g1 g2;refine⟨f1,λDY=>?_,?_⟩
    .by_cases X:l=0
     .subst X;rw[e3 rfl,uz];refine f2 ?_;rcases DY with h|h
      .exact .inl J
      exact .inr J
     have:0<h-l:=by rcases DY with h|h<;>omega
     rw[e2 J,f2 (.inr J),Addr.add_lit,f1,Y.2,ld]
    omega
  cases H
 cases H
end
end
theorem an3(E:Nat):∀(F:List Value) (i:Nat) (cells:Array Value),E+i+I F<=cells.size->
  ((F.zipIdx i).foldl (λD (x:Value×Nat)=>D.setIfInBounds (E+x.2) x.1) cells).toList=gM cells.toList (E+i) F:=by
 intro F
 induction F with
 |nil=>intro i cells _;simp[gM]
 |cons v r j=>
  intro i cells h;simp only[fP]at h;simp only[List.zipIdx_cons,CM];rw[j (i+1) _ (by simp;omega)];unfold gM;rw[Array.toList_setIfInBounds];have A:E+i<I cells.toList:=by simp;omega
  have f:(cells.toList.set (E+i) v).take (E+(i+1))=cells.toList.take (E+i)++[v]:=by grind [Yz,List.take_set,Qo]
  have m:(cells.toList.set (E+i) v).drop (E+(i+1)+I r)=cells.toList.drop (E+(i+1)+I r):=by rw[List.drop_set_of_lt J]
  rw[f,m];simp only[fP,lf,List.singleton_append];congr 3;omega
theorem akI{place:Nat->Option (Nat×Nat)}{i:Nat}{v:Value}{R:List (Nat×Value)}{cells:Array Value}(hp:place i=some (E,n))(H:v.cells.size=n)(h:E+n<=cells.size):
  ∃N,Instr.fill place cells ((i,v)::R)=Instr.fill place N R/\N.toList=gM cells.toList E v.cells.toList:=by
 refine⟨v.cells.zipIdx.foldl (λD (x:Value×Nat)=>D.setIfInBounds (E+x.2) x.1) cells,?_,?_⟩
 .simp[Instr.fill,hp]
  grind
 rw[<-acm,Array.toList_zipIdx,an3 E v.cells.toList 0 cells (by grind)];simp
theorem aju{B:bJ}{a:Act}(hr:kI m B a.tmps){place:Nat->Option (Nat×Nat)}{Z:Nat}:∀ {ps:List (Nat×Operand)}{qs:List (Nat×Nat×fk)}{rs:List (Nat×eO)}{D:eO}{cells:Array Value},
  DI place Z ps=some qs->A2 B qs=some rs->eH m D cells.toList->I D=Z->
  ∃N,Instr.fill place cells (ps.map λx=>(x.1,a.eval x.2))=some N/\eH m (EY D rs) N.toList:=by
 intro ps
 induction ps with
 |nil=>intro qs rs D cells H h f hl;simp[DI]at H;subst H;simp[A2]at h;subst h;exact⟨cells,by simp[Instr.fill],by simpa [EY]using f⟩
 |cons p t R=>
  intro qs rs D cells H h f hl;obtain⟨i,x⟩:=p;simp only[DI]at H;split at H
  .rename_i E n X q O M A;split at H
   .rename_i y;cases H;simp only[A2]at h;split at h
    .rename_i G0 Y u T;split at h
     .rename_i v;cases h;have z:=aaO u (gk M hr);have j:(a.eval x).cells.size=n:=by have:=z.1;simp at this;omega
      have L:=f.1;simp at L;obtain⟨N,Q,F⟩:=akI O j (by omega:E+n<=cells.size);simp only[eZ,EY];rw[Q];refine R A T ?_ (by rw[RF J];exact hl);rw[F];exact eH.pw.2 ((eH.pw.1 f).gM (eH.pw.1 z) E)
     cases h
    cases h
   cases H
  cases H
theorem au5{α β:Type}{f:α->Sem β}{g:α->β}{w:World}:∀ {l:List α},(∀x∈l,(f x).run P w=.ok (g x) w)->(l.mapM f).run P w=.ok (l.map g) w:=by
 intro l
 induction l with
 |nil=>intro _;simp
 |cons x r h=>simp_all
theorem aA8{B:bJ}{a:Act}(hr:kI m B a.tmps){place:Nat->Option (Nat×Nat)}(E:∀k,place k=some (k*j,j)):∀ {ps:List (Nat×Operand)}{as:uw}{A:List eO}{k:Nat}{done:List Value}{cells:Array Value},
  Lk k ps=some as->Bu B j as=some A->I done=k*j->cells.toList.take (k*j)=done->cells.size=(k+I as)*j->
  ∃N,Instr.fill place cells (ps.map λx=>(x.1,a.eval x.2))=some N/\ ∃F,N.toList=done++F/\eH m A.flatten F/\(∀e∈A,I e=j)/\I A=I as:=by
 intro ps
 induction ps with
 |nil=>intro as A k done cells H h y z ae;simp[Lk]at H;subst H;simp[Bu]at h;subst h;refine⟨cells,by simp[Instr.fill],[],?_,⟨aE,λab x u p=>by simp at p⟩,λe v=>by simp at v,rfl⟩;rw[<-z,ic,f_ (by simp at ae |-;omega)]
 |cons p t ih=>
  intro as A k done cells H h y z ae;obtain⟨i,x⟩:=p;simp only[Lk]at H;split at H
  .rename_i a' q hx X;split at H
   .rename_i D;cases H;subst D;simp only[Bu]at h;split at h
    .rename_i G0 q' M lG;split at h
     .rename_i n;cases h;have R:=aaO M (gk hx hr);have f:(a.eval x).cells.size=j:=by have:=R.1;simp at this;omega
      simp only[fP]at ae;have T:cells.size=i*j+j+I q*j:=by rw[ae,ld,ld];omega
      obtain⟨N,e1,Q⟩:=akI (E i) f (by omega:i*j+j<=cells.size);have O:I N.toList=cells.size:=by rw[Q,RF (by simp;omega)];simp
      obtain⟨L,Y,F,f2,f3,f4,Z⟩:=ih (done:=done++(a.eval x).cells.toList) X lG (by simp[y,f,ld]) (by rw[Q];unfold gM;rw[z,Mc (by simp[y,f,ld])];rw[f_ (by simp[y,f,ld])]) (by simp at O;rw[O,T,ld,ld];omega)
      simp only[eZ];rw[e1];refine⟨L,Y,(a.eval x).cells.toList++F,by rw[f2,lf],?_,?_,by simp[Z]⟩
      .simp only[xX];exact eH.pw.2 ((eH.pw.1 R).append (eH.pw.1 f3))
      intro e v;rcases c7.1 v with rfl|v
      .exact n
      exact f4 e v
     cases h
    cases h
   cases H
  cases H
theorem awu:∀ {A:List eO}{qs:dI}{F:List Value}{j:Nat},Dk A=some qs->(∀e∈A,I e=j)->eH m A.flatten F->eL m.w m.own qs.flatten F/\(∀e∈qs,I e=j)/\I qs=I A:=by
 intro A
 induction A with
 |nil=>intro qs F j h _ f;simp[Dk]at h;subst h;exact⟨⟨f.1,λT x u p=>by simp at p⟩,λe E=>by simp at E,rfl⟩
 |cons e r L=>
  intro qs F j h H f;simp only[Dk]at h;split at h
  .rename_i v Q z n;cases h;simp only[xX]at f;have dR:=H e aE;have ib:=(eH.pw.1 f).take (I e);have jB:=(eH.pw.1 f).drop (I e);simp only[Kn,Q1]at ib jB;have g1:=Oz z (eH.pw.2 ib);obtain⟨y,R,B⟩:=L n (λx D=>H x (by simp[D])) (eH.pw.2 jB);have M:I v=j:=by
    have N:=g1.1;have O:=ib.1;omega
   refine⟨?_,?_,by simp[B]⟩
   .have:=(eL.pw.1 g1).append (eL.pw.1 y);rw[jS]at this;exact eL.pw.2 this
   grind
  cases h
section
variable {m:a_} {B:bJ} {a:Act} {o:Oper} (aF:ez T m) (hr:kI m B a.tmps)
include aF hr
theorem aAa{t:TypeId}{ps:Array (Nat×Operand)}{fs:Array Field}(ho:o.op=.build t ps)(j:P.underlying t=some (.struct fs))(L:AS P t=some z)
  (F:fs.all (λf=>(P.info? f.type).isSome)) (hp:DI (λi=>(fs[i]?).map λf=>(f.offset,P.cellsOf f.type)) (I z) ps.toList=some qs) (y:A2 B qs=some rs):
  iz P T a.eval o m (.agg (EY (z.map .p) rs)) []:=by
 obtain⟨v,i,n,h,ae,hl,E⟩:=LO L;obtain⟨N,A,H⟩:=aju hr hp y (E m.w m.own).GC aE;refine .calm aF ?_ (df.agg.2 ⟨_,rfl,H⟩);have M:(fs.mapM (λf=>do pure (f.offset,<-sizeOf f.type):Field->Sem _)).run P m.w=.ok (fs.map λf=>(f.offset,P.cellsOf f.type)) m.w:=by
  rw[Array.mapM_eq_mapM_toList];have:=au5 (P:=P) (f:=(λf=>do pure (f.offset,<-sizeOf f.type):Field->Sem (Nat×Nat))) (g:=λf=>(f.offset,P.cellsOf f.type)) (w:=m.w) (l:=fs.toList) (λf hf=>by
   have:=Array.all_eq_true_iff_forall_mem.1 F f (by grind);cases D:P.info? f.type with
   |none=>rw[D]at this;cases this
   |some i=>simp[sizeOf,typeInfo,D,Program.cellsOf])
  rw[Sem.run_map,this];simp only[Result.andThen_ok];congr 1;apply Array.ext';simp
 have u:Instr.fill (λx=>(fs.map λf=>(f.offset,P.cellsOf f.type))[x]?) v.cells (ps.map λx=>(x.1,a.eval x.2)).toList=some N:=by simpa using A
 simp only[execOp,ho,Instr.build,zeroValue,typeInfo,Sem.run_bind,run_program,Result.andThen_ok,n,h,Sem.run_pure,run_underlying j,M,u]
theorem avx{t e:TypeId}{ps:Array (Nat×Operand)}{i:TypeInfo}(ho:o.op=.build t ps)(j:P.underlying t=some (.array n e))(F:AS P t=some z)
  (H:P.info? e=some i) (hp:DI (λk=>some (k*i.size,i.size)) (I z) ps.toList=some qs) (A:A2 B qs=some rs):
  iz P T a.eval o m (.agg (EY (z.map .p) rs)) []:=by
 obtain⟨v,i',u,h,ae,hl,E⟩:=LO F;obtain⟨N,D,f⟩:=aju hr hp A (E m.w m.own).GC aE;refine .calm aF ?_ (df.agg.2 ⟨_,rfl,f⟩);have y:Instr.fill (λk=>some (k*i.size,i.size)) v.cells (ps.map λx=>(x.1,a.eval x.2)).toList=some N:=by simpa using D
 simp only[execOp,ho,Instr.build,zeroValue,sizeOf,typeInfo,Sem.run_bind,run_program,Result.andThen_ok,u,H,h,Sem.run_pure,run_underlying j,y]
theorem aum{t e:TypeId}{bytes s:Nat}{ps:Array (Nat×Operand)}{as:uw}{A:List eO}(ho:o.op=.buildSlice t n ps)(he:CP P t=some (e,j,bytes,z))(hp:Lk 0 ps.toList=some as)
  (hn:I as=n) (ab:n*j<=16777216) (hv:Bu B j as=some A):
  (∀qs,Dk A=some qs->iz P T a.eval o m (.one (.hsl s ((m.blk s).1+1) j 0 (I A))) [(s,((m.blk s).1+1,some (.arr e j qs)))])/\
  iz P T a.eval o m (.one (.hsl s ((m.blk s).1+1) j 0 (I A))) [(s,((m.blk s).1+1,some (.lh e j A)))]:=by
 obtain⟨i,v,X,Z,ae,hb,⟨E,_⟩,CA,tL,l9,eE⟩:=Vd he;subst hn;obtain⟨N,f1,F,L,O,M,D⟩:=aA8 (done:=[]) (cells:=(Array.range (I as*j)).map ((if I as*j=0 then #[]else v.cells)[· %(if I as*j=0 then #[]else v.cells).size]!)) hr (λ_=>rfl) hp hv aE aE aE;have R:(execOp a.eval o).run P m.w=.ok (.value (.slice (some ⟨m.w.heap.size,0,none⟩) (I A) (I A))) (m.w.alloc (.cells N e)):=by
  have y:Instr.fill (λk=>some (k*j,j)) ((Array.range (I as*j)).map ((if I as*j=0 then #[]else v.cells)[· %(if I as*j=0 then #[]else v.cells).size]!)) (ps.map λx=>(x.1,a.eval x.2)).toList=some N:=by simpa using f1
  have ac:¬(16777216<I as*j):=J;have h:¬(I as*j>2 ^ 24):=J;by_cases H:I as*j=0
  .simp only[aD H]at y;simp only[execOp,ho,Instr.buildSlice,Sem.run_bind,run_underlying X,Result.andThen_ok,sizeOf,typeInfo,run_program,Z,Sem.run_pure,ae,aC h,aD H,y,newRow,run_newObj,D];rfl
  simp only[aC H]at y;simp only[execOp,ho,Instr.buildSlice,Sem.run_bind,run_underlying X,Result.andThen_ok,sizeOf,typeInfo,run_program,Z,Sem.run_pure,ae,aC h,aC H,zeroValue,CA,y,newRow,run_newObj,D];rfl
 simp at L;have Y:N.size=I A*j:=by
  have h1:=O.1;rw[Kv M]at h1;have:I N.toList=I F:=by rw[L]
  simp at this;omega
 have Q:I A<=maxLen:=by have:I A<=I A*j:=SF _ E;simp only[maxLen];rw[D]at this |-;omega
 have u:N.toList.take (I A*j)=F:=by rw[f_ (by simp;omega),L]
 constructor
 .intro qs hq;have f:hs m (m.oq (m.w.alloc (.cells N e)) s m.w.heap.size (I A) (.arr e j qs)):=Sr (jv.alloc _ _) (cJ _);obtain⟨g1,g2,g3⟩:=awu hq M (O.ev f.zero);refine⟨_,m.oq (m.w.alloc (.cells N e)) s m.w.heap.size (I A) (.arr e j qs),.inl R,S7 (jv.alloc _ _) (cJ _) aE aF ?_,f,T1 aF (cJ _),rfl,Xz (cJ _) Q⟩;exact⟨N,by rw[KP];exact heap_alloc_new m.w _,E,g2,by rw[yk,g3];exact cJ _,by rw[yk];exact Q,by rw[yk,Y],by rw[g3,u];exact g1⟩
 have f:hs m (m.oq (m.w.alloc (.cells N e)) s m.w.heap.size (I A) (.lh e j A)):=Sr (jv.alloc _ _) (cJ _);refine⟨_,m.oq (m.w.alloc (.cells N e)) s m.w.heap.size (I A) (.lh e j A),.inl R,S7 (jv.alloc _ _) (cJ _) aE aF ?_,f,T1 aF (cJ _),rfl,aw0 (cJ _) Q⟩;exact⟨N,by rw[KP];exact heap_alloc_new m.w _,E,M,by rw[yk];exact cJ _,by rw[yk];exact Q,by rw[yk,Y],by rw[u];exact O.ev f.zero⟩
end
theorem SL(a b:kR)(blk:aJ):app (a++b) blk=app b (app a blk):=by
 induction a generalizing blk with
 |nil=>rfl
 |cons x r f=>obtain _:=x;simp;exact f _
theorem azQ(hf:∀c,FK c->m.fr c){c:Nat}(h:({m with fr:=FK}:a_).own c):m.own c:=by
 rcases h with h|h
 .exact .inl (hf c h)
 exact .inr h
theorem akk(hf:∀c,FK c->m.fr c):hs m {m with fr:=FK}:=
 ⟨rfl,rfl,rfl,cJ _,λ_ _ _=>rfl,λ_ _ h=>h,λ_ _ H h=>H (azQ hf h),λ_=>cJ _,λ_ _ h=>⟨h,rfl,rfl,rfl⟩⟩
theorem aqa{m:a_}{FK:Nat->Prop}(h:ez T m)(hf:∀c,FK c->m.fr c):ez T {m with fr:=FK} where
 os:=h.os
 tape:=h.tape
 output:=h.output
 size:=h.size
 base:=h.base
 obj id o ho:=(h.obj id o ho).ev (akk hf).zero rfl rfl rfl
 gT id o ho hm:=⟨(h.gT id o ho hm).1,λH=>(h.gT id o ho hm).2 (hf _ H)⟩
 frlt c H:=h.frlt c (hf c H)
 inj:=h.inj
theorem asS{m:a_}{M:World}{c:Nat}(h:ez T m)(j:m.fr c)(v:T.heap.size<=c)(z:M.os=m.w.os)(u:M.tape=m.w.tape)(Q:M.output=m.w.output)(ae:M.heap.size=m.w.heap.size)
  (f:∀x,x≠c->M.heap[x]?=m.w.heap[x]?):ez T {m with w:=M} where
 os:=z.trans h.os
 tape:=u.trans h.tape
 output:=Q.trans h.output
 size:=oO h.size (D_ ae.symm)
 base x H:=(f x J).trans (h.base x H)
 obj id o ho:=by
  have A:m.σ id≠c:=by
   intro e;cases hm:o.iM with
   |true=>exact(h.gT id o ho hm).2 (e▸j)
   |false=>exact(h.obj id o ho).calm hm (.inl (e▸j))
  exact(h.obj id o ho).ev (m':={m with w:=M}) ⟨λx _ n=>⟨f x λe=>n (.inl (e▸j)),n⟩,λ_=>cJ _,λ_ _ h=>⟨h,rfl,rfl,rfl⟩⟩ rfl rfl (f _ A)
 gT:=h.gT
 frlt x H:=by rw[show({m with w:=M}:a_).w.heap.size=m.w.heap.size from ae];exact h.frlt x H
 inj:=h.inj
theorem ajp(aF:ez T m){own:Nat->Prop}{x:V}{v:Value}{new:dI}{rd fr:aG}(h:hU m.blk x=some (new,rd,fr))(hv:df m x v)(ae:xJ m own fr):
  ∃ax cx,v=.slice ax (I new) cx/\(∀z,pW x=some z->∀e∈new,I e=z)/\
   (new≠[]->∃b o N,ax=some ⟨b,o,none⟩/\Pw (dh m.w own) new.flatten N/\ ∀(X:Nat) (u:Value),N[X]?=some u->m.w.cell? ⟨b,o+X,none⟩=some u):=by
 have row:∀(c E j len:Nat) (H:Array Value) (L:TypeId) (Y:Nat×Nat) (ps:dI),m.w.heap[c]?=some (.cells H L Y)->Pw (dh m.w own) ps.flatten ((H.toList.drop (E*j)).take (I ps*j))->
   ∃b o N,some (⟨c,E*j,none⟩:Addr)=some ⟨b,o,none⟩/\Pw (dh m.w own) ps.flatten N/\ ∀(X:Nat) (u:Value),N[X]?=some u->m.w.cell? ⟨b,o+X,none⟩=some u:=by
  intro c E j len H L Y ps hh hp;refine⟨c,E*j,_,rfl,hp,λX u Q=>?_⟩;rw[p_]at Q;split at Q
  .rw[I2 hh];simpa using Q
  cases Q
 unfold hU at h;split at h
 .cases h;exact⟨none,0,QX hv,λz hz=>by simp[pW]at hz,λh=>(h rfl).elim⟩
 .rename_i A;cases h;obtain⟨hp⟩:gh m _ v:=hv;generalize mY:(PV.sl new)=pv at hp;cases hp<;>cases mY
  .exact⟨_,_,rfl,λz hz=>by simp[pW]at hz,λh=>(h rfl).elim⟩
  rename_i b o O j f hm ho hl B wO F6;refine⟨_,_,rfl,λz hz=>by simp[pW]at hz,λ_=>⟨b,o,(List.range (I new.flatten)).map f,rfl,⟨aE,λX y u p q=>?_⟩,λX u q=>?_⟩⟩
  .rw[fz,tX ((bt.1 p).1)]at q;simp at q;subst q;exact(F6 X y p).less ae.1
  have Q:X<I new.flatten:=by have:=(bt.1 q).1;simpa using this
  rw[fz,tX Q]at q;simp at q;subst q;exact wO X _ (tH Q)
 .rename_i id g z E len;cases hv with
  |hsl ad O hg hl hm Qi=>
   split at h
   .rename_i g' L j A F;split at h
    .rename_i R;cases h;obtain⟨H,hh,mB,B,mz,qu,eh,eE⟩:=aF.obj id _ (by rw[F]);obtain⟨e1,e2,e3⟩:=Qi j (by rw[F];exact R.1) (by rw[F];rfl);have M:I ((A.drop E).take len)=len:=by simp;omega
     refine⟨some ad,O,by rw[M],λz' sU e D=>?_,λaO=>?_⟩
     .simp[pW]at sU;subst sU;rw[<-e1];exact B e (yP (za D))
     have:0<len:=by
      cases len with
      |zero=>simp at aO
      |succ n=>omega
     rw[e2 (.inr this)];exact row (m.σ id) E j len H L _ _ hh (GS B (eL.pw.1 (eE.less ae.1)) R.2)
    cases h
   .rename_i g' L j A F;split at h
    .rename_i R;cases h;obtain⟨H,Y,hh,mB,B,mz,qu,eh,eE,_⟩:=aF.obj id _ (by rw[F]);obtain⟨e1,e2,e3⟩:=Qi j (by rw[F];exact R.1) (by rw[F];rfl);have M:I ((A.drop E).take len)=len:=by simp;omega
     refine⟨some ad,O,by rw[M],λz' sU e D=>?_,λaO=>?_⟩
     .simp[pW]at sU;subst sU;rw[<-e1];exact B e (yP (za D))
     have:0<len:=by
      cases len with
      |zero=>simp at aO
      |succ n=>omega
     rw[e2 (.inr this)];exact row (m.σ id) E j len H L _ _ hh (GS B (eL.pw.1 (eE.less ae.1)) R.2)
    cases h
   .rename_i g' L j A F;split at h
    .rename_i R;split at h
     .rename_i ps q hq;cases h;obtain⟨H,hh,mB,B,mz,qu,eh,eE⟩:=aF.obj id _ (by rw[F]);obtain⟨e1,e2,e3⟩:=Qi j (by rw[F];exact R.1) (by rw[F];rfl);have ab:I ((A.drop E).take len)=len:=by simp;omega
      have aX:I new=len:=by rw[Wk hq,ab]
      have Z:len*j<=I (H.toList.drop (E*j)):=by
       simp;have h1:E*j+len*j<=I A*j:=by rw[<-ld];exact nR _ R.2
       have h2:I A*j<=m.κ id*j:=nR _ mz;omega
      have l5:∀(X:Nat) (e:dW),new[X]?=some e->Pw (dh m.w own) e (((H.toList.drop (E*j)).drop (X*j)).take j):=by intro X e D;obtain⟨x,q',h1,h2,h3⟩:=V1 hq D;exact Ll (T:=dh m.w own) (λa b h=>h.app) (λa b r v e1 e2 e3=>Jd aF _ e1 e2 e3) h2 ⟨ae.1,λi hi=>ae.2 i (h3 i hi)⟩ (acp (λe D=>B e (yP (za D))) (GS B (eH.pw.1 eE) R.2) h1)
      have HD:∀e∈new,I e=j:=by intro e D;obtain⟨X,Q⟩:=fK D;have:=(l5 X e Q).1;have h1:(X+1)*j<=len*j:=nR _ (by rw[<-aX];exact(bt.1 Q).1);rw[ld]at h1;simp at this Z;omega
      refine⟨some ad,O,by rw[aX],λz' sU e D=>?_,λaO=>?_⟩
      .simp[pW]at sU;subst sU;rw[<-e1];exact HD e D
      have:0<len:=by rw[<-aX];exact gy.2 aO
      rw[e2 (.inr this)];refine row (m.σ id) E j len H L _ _ hh ?_;rw[aX];have:=aaR HD (by rw[aX];exact Z) l5;rwa[aX]at this
     cases h
    cases h
   split at h
   .rename_i sQ;cases h;exact⟨some ad,O,by rw[sQ];rfl,λz' _ e D=>by simp at D,λh=>(h rfl).elim⟩
   cases h
 cases h
theorem aAC{w:World}{own:Nat->Prop}(h:Pw (dh w own) N F):∀u∈F,u.oneCell':=by intro v f;obtain⟨j,H⟩:=fK f;exact(h.2 j _ v (tH (by rw[<-h.1];exact(bt.1 H).1)) H).Rq
theorem RD{ids:aG}(h:tJ m.blk ids=some u)(id:Nat):(app u m.blk id).1=(m.blk id).1:=by
 rcases zE h id with⟨e,_⟩|⟨_,p,q,a,b,e⟩
 .exact congrArg Prod.fst e
 have:=congrArg Prod.fst e;exact this
theorem atb{m:a_}{id:Nat}{o:gP}{M:World}(ho:(m.blk id).2=some o)(hm:o.iM)(z:M.os=m.w.os)(H:M.tape=m.w.tape)(Q:M.output=m.w.output)(ae:M.heap.size=m.w.heap.size)
  (h:∀x,x≠m.σ id->M.heap[x]?=m.w.heap[x]?):hs m {m.rO id with w:=M} where
 os:=z
 tape:=H
 output:=Q
 size:=D_ ae.symm
 keep c _ f:=h c λe=>f ⟨id,o,ho,hm,e.symm⟩
 iM:=(K4 ho hm).iM
 less:=(K4 ho hm).less
 gen:=(K4 ho hm).gen
 ref:=(K4 ho hm).ref
theorem awY{m:a_}(aF:ez T m){id s:Nat}{O:gP}{X:Array Value}{L:Nat}{f:dI}(ho:(m.blk id).2=some O)(hm:O.iM)(Y:0<j)(Z:M.os=m.w.os)(y:M.tape=m.w.tape)(E:M.output=m.w.output)(ae:M.heap.size=m.w.heap.size)
  (A:∀x,x≠m.σ id->M.heap[x]?=m.w.heap[x]?) (R:M.heap[m.σ id]?=some (.cells X L (0,0))) (u:∀e∈f,I e=j) (hl:I f<=m.κ id) (Q:m.κ id<=maxLen) (N:X.size=m.κ id*j)
  (hp:Pw (dh m.w m.own) f.flatten (X.toList.take (I f*j))):
  ∃n,n.w=M/\ez T n/\hs m n/\n.fr=m.fr/\n.blk=dV (dV m.blk id ((m.blk id).1,none)) s ((m.blk s).1+1,some (.arr L j f))/\
   df n (.one (.hsl s ((m.blk s).1+1) j 0 (I f))) (.slice (some ⟨m.σ id,0,none⟩) (I f) (m.κ id)):=by
 have B:=(aF.gT id O ho hm).1;have F:hs m ((({m.rO id with w:=M}:a_)).install s (m.σ id) (m.κ id) (.arr L j f)):=Q3 (atb ho hm Z y E ae A) (.inr rfl) (.inr ⟨id,O,ho,hm,rfl⟩);have D:((({m.rO id with w:=M}:a_)).blk s).1=(m.blk s).1:=by
  simp[a_.rO,bG]
  grind
 have v:((({m.rO id with w:=M}:a_)).install s (m.σ id) (m.κ id) (.arr L j f)).σ s=m.σ id:=by simp[a_.install,bG]
 have H:((({m.rO id with w:=M}:a_)).install s (m.σ id) (m.κ id) (.arr L j f)).κ s=m.κ id:=by simp[a_.install,bG]
 refine⟨_,rfl,Ry (asS (amN aF ho hm) (.inr rfl) B Z y E ae A) (.inr rfl) B ?_,F,?_,?_,?_⟩
 .exact⟨X,by rw[v];exact R,Y,u,by rw[H];exact hl,by rw[H];exact Q,by rw[H];exact N,eL.ev F.zero (eL.pw.2 hp)⟩
 .funext x;simp only[a_.install,a_.rO];apply propext;constructor
  .grind
  intro h;exact⟨.inl h,λe=>(aF.gT id O ho hm).2 (e▸h)⟩
 .simp[a_.install];rw[D];rfl
 refine df.one.2 (.hsl _ _ ?_ hl Q λz h1 h2=>?_)
 .simp[a_.install,bG,if_true];rw[D];exact cJ _
 have:lW (((({m.rO id with w:=M}:a_)).install s (m.σ id) (m.κ id) (.arr L j f)).blk s)=some j:=by simp[a_.install,bG,lW]
 grind
theorem aBf{P:Program}(w:World)(t L e:TypeId)(i:TypeInfo)(z:Value)(u:P.underlying t=some (.slice e))(y:P.info? e=some i)(B:i.zero=some z)
  (A:Option Addr) (a:Addr) (n c:Nat) (N:List Value) (hl:I N=n*i.size) (m:∀j v,N[j]?=some v->w.cell? (a.add j)=some v)
  (x:0<n) (H:(n:Int)<=9223372036854775807) (f:n*i.bytes<=281474976710656):
  (Builtin.append_ #[t,t] L #[.slice A 0 0,.slice (some a) n c]).run P w=
   .ok (.slice (some ⟨w.heap.size,0,none⟩) n (grownCap w n 0 e)) (w.drew.alloc (.cells (N.toArray++Builtin.zeroCells z.cells (grownCap w n 0 e-n)) e)):=by
 cases A with
 |none=>exact run_append_nil w t L e i z u y B a n c N hl m x H f
 |some b=>
  have h:=run_append_grow w t L e i z u y B b 0 0 [] aE (λj v h=>by simp at h) a n c N hl m J J (by rw[jN,nextslicecap_zero x];exact f)
  grind
theorem agX{y f:a_}{a:Act}{o:Oper}{F:kR}{s e h:Nat}{cells:List Value}{Z:Value}{W:World}
  (R:(execOp a.eval o).run P m.w=.ok (.value (.slice (some ⟨f.w.heap.size,0,none⟩) (I A) h)) W)
  (z:f.w.drew.alloc (.cells (cells.toArray++Builtin.zeroCells Z.cells (h-I A)) e)=W)
  (n:ez T f) (ff:hs m f) (Q:f.fr=m.fr) (Y:0<j) (O:Z.cells.size=j) (N:∀x∈A,I x=j) (D:I cells=I A*j)
  (he:hs y f) (qA:Pw (dh y.w y.own) A.flatten cells) (u:I A<=h) (H:h<=maxLen) (E:(f.blk s).1=(m.blk s).1) (X:app F m.blk=f.blk):
  iz P T a.eval o m (.one (.hsl s ((m.blk s).1+1) j 0 (I A))) (F++[(s,((m.blk s).1+1,some (.arr e j A)))]):=by
 have hg:jv f.w W:=by rw[<-z];exact(jv.drew _).trans (jv.alloc _ _)
 have v:hs f (f.oq W s f.w.heap.size h (.arr e j A)):=Sr hg (cJ _);have B:=Xz (m:=f) (M:=W) (s:=s) (c:=f.w.heap.size) (L:=e) (j:=j) (A:=A) u H;rw[E]at B;refine⟨_,f.oq W s f.w.heap.size h (.arr e j A),.inl R,S7 hg (cJ _) (by rw[<-z];simp) n ⟨_,by rw[KP,apu,<-z];exact heap_alloc_new f.w.drew _,Y,N,by rw[yk];exact u,by rw[yk];exact H,?_,?_⟩,ff.trans v,(T1 n (cJ _)).trans Q,by rw[SL,aqi,X,E],B⟩
 .rw[yk,Array.size_append,acx,size_zeroCells,O,D,<-ld];congr 1;omega
 rw[Array.toList_append,List.toList_toArray,<-D,Kn];exact eL.ev (he.trans v).zero (eL.pw.2 qA)
section
variable {m:a_} {B:bJ} {a:Act} {o:Oper} (aF:ez T m) (hr:kI m B a.tmps)
include aF hr
theorem avW{c:Call}{d:Operand}{d':fk}{t e:TypeId}{s bytes:Nat}{rd:aG}(ho:o.op=.call c)(hc:c.callee=.builtin .append)(bb:c.args= #[d,x])(jU:c.argTypes= #[t,t])
  (he:CP P t=some (e,j,bytes,z)) (hd:dA d=some d') (hx:dA x=some Z) (f:ai m.blk s e j bytes (ev B d') (ev B Z)=.done v u rd):iz P T a.eval o m v u:=by
 obtain⟨i,zv,ht,hi,ae,hb,⟨jD,PZ⟩,CA,Km,l9,eE⟩:=Vd he;have wX:=gk hd hr;have nH:=gk hx hr;have run:∀(y:Value) (M:World),(Builtin.append_ #[t,t] o.type #[a.eval d,a.eval x]).run P m.w=.ok y M->(execOp a.eval o).run P m.w=.ok (.value y) M:=by intro y M h;simp[execOp,ho,resolve,hc,bb,jU,invoke,builtin,h]
 unfold ai at f;split at f
 .cases f
 rename_i new bg fr dR;split at f
 .cases f
 rename_i aH;split at f
 .cases f
 rename_i L vz;have DW:=adl aF vz;have JI:=ZQ vz;have qV:=YB aF vz;obtain⟨ax,cx,Ef,a0,Hz⟩:=ajp aF dR nH qV;have jI:∀e∈new,I e=j:=by
  have:pW (ev B Z)=some j\/aB j new:=Classical.not_not.1 aH;rcases this with h|h
  .exact a0 j h
  intro e he;have:=j4.1 h e he
  simpa using this
 have Za:I new.flatten=I new*j:=Kv jI;have nz:∀ {az},a.eval d=.slice az 0 0-> ¬I new=0->I new*bytes<=mN->iz P T a.eval o m (.one (.hsl s ((m.blk s).1+1) j 0 (I new))) (L++[(s,((m.blk s).1+1,some (.arr e j new)))]):=by
  intro az wR N nE;have aO:new≠[]:=λh=>N (by simp[h]);obtain⟨b,E,n,rfl,qA,JC⟩:=Hz aO;unfold mN at nE;have nW:I n=I new*i.size:=by rw[qA.1,Za,ae]
  have UC:I new<=maxLen/\(I new:Int)<=9223372036854775807:=by have:I new<=I new*bytes:=SF _ PZ;simp only[maxLen];omega
  have rY:=aBf (P:=P) m.w t o.type e i zv ht hi CA az ⟨b,E,none⟩ (I new) cx n nW (λaw v Y=>by rw[Addr.add_lit];exact JC aw v Y) J UC.2 (by rw[hb];omega);exact agX (f:=m.with L) (run _ _ (by rw[wR,Ef];exact rY)) rfl DW JI rfl jD Km jI (nW.trans (by rw[ae])) (hs.refl _) qA (grownCap_ge m.w (I new) 0 e) (grownCap_le_maxLen m.w (I new) 0 e UC.1) (RD vz s) rfl
 split at f
 ·
  rename_i Qb;rw[Qb]at wX;have wR:=QX wX;split at f
  .rename_i N;cases f;refine⟨.slice none 0 0,m.with u,.inl (run _ _ ?_),DW,JI,rfl,rfl,oN .nils⟩;rw[wR,Ef,N];cases ax<;>simp[Builtin.append_,run_underlying ht,sizeOf,typeInfo,hi,Builtin.lenOf,Builtin.firstCells,loadCells,loadCellsFrom,a_.with]
  rename_i N;split at f
  .rename_i nE;cases f;exact nz wR N nE
  cases f
 ·
  rename_i Qb;rw[Qb]at wX;obtain⟨az,wR⟩:=atU wX;split at f
  .cases f
  rename_i N;split at f
  .rename_i nE;cases f;exact nz wR N nE
  cases f
 .rename_i id g we len Qb;rw[Qb]at wX;split at f
  .rename_i g' R F A X;split at f
   .rename_i vt;obtain⟨jV,rfl,rfl,ab,nE,a9⟩:=vt;cases f;have a6:id∉fr:=by simpa using a9
    have dB:(m.with L).blk id=m.blk id:=by
     rcases zE vz id with⟨e,_⟩|⟨gY,_⟩
     .exact e
     exact(a6 gY).elim
    have cV:((m.with L).blk id).2=some (.arr R F A):=by rw[dB,X]
    obtain⟨H,hh,_,ag,hl,qT,eh,a4⟩:=DW.obj id _ cV;have ap:gh m _ (a.eval d):=wX;generalize wR:a.eval d=dv at ap;cases ap with
    |hsl ad O hg qt bi a3=>
     obtain⟨f1,f2,f3⟩:=a3 F (by rw[X];exact jV) (by rw[X];rfl);have Q:O=m.κ id:=by rw[<-f3,jN]
     have rS:=f2 (.inl rfl);rw[DE]at rS;subst rS;unfold mN at nE;have DO:=RD vz s;have bf:=RD vz id;have Mx:len*F<=I A*F:=nR _ ab;have mz:I A*F<=m.κ id*F:=nR _ hl;have Zx:Pw (dh (m.with L).w (m.with L).own) (A.take len).flatten (H.toList.take (len*F)):=by rw[IQ ag];have h1:=(eL.pw.1 a4).take (len*F);rw[Dn,yO Mx]at h1;exact h1
     have MM:I (A.take len)=len:=by simp;omega
     have ac:∀x∈A.take len++new,I x=F:=by
      intro x hx;rcases gn.1 hx with hx|hx
      .exact ag x (za hx)
      exact jI x hx
     have bc:len+I new<=(len+I new)*bytes:=SF _ PZ;have zx:∀q:ahH,app (L++[(id,(g,none)),q]) m.blk=dV (dV (m.with L).blk id (((m.with L).blk id).1,none)) q.1 q.2:=by intro q;rw[SL];simp only[app];rw[dB,X,jV];rfl
     have Hv:I (A.take len++new)=len+I new:=by rw[gb,MM]
     by_cases D:len+I new<=O
     ·
      have av:∀(M:World) (xS:Array Value),(execOp a.eval o).run P m.w=.ok (.value (.slice (some ⟨m.σ id,0,none⟩) (len+I new) O)) M->M.os=m.w.os->M.tape=m.w.tape->M.output=m.w.output->M.heap.size=m.w.heap.size->
        (∀x,x≠m.σ id->M.heap[x]?=m.w.heap[x]?)->M.heap[m.σ id]?=some (.cells xS R (0,0))->xS.size=H.size->Pw (dh (m.with L).w (m.with L).own) (A.take len++new).flatten (xS.toList.take ((len+I new)*F))->
        iz P T a.eval o m (.one (.hsl s ((m.blk s).1+1) F 0 (len+I new))) (L++[(id,(g,none)),(s,((m.blk s).1+1,some (.arr R F (A.take len++new))))]):=by
       intro M xS rY q1 q2 q3 q4 q5 q6 q7 q8;obtain⟨m',e1,e2,e3,e4,e5,e6⟩:=awY (s:=s) DW cV rfl jD q1 q2 q3 q4 q5 q6 ac (by rw[Hv];rw[Q]at D;exact D) qT (by rw[q7];exact eh) (by rw[Hv];exact q8);rw[Hv]at e6;have a5:((m.with L).blk s).1=(m.blk s).1:=DO;rw[a5]at e6 e5;refine⟨_,m',.inl (by rw[e1];exact rY),e2,JI.trans e3,e4,by rw[e5,zx],?_⟩;rw[Q];exact e6
      by_cases N:new=[]
      .subst N;have aX:(execOp a.eval o).run P m.w=.ok (.value (.slice (some ⟨m.σ id,0,none⟩) (len+I ([]:dI)) O)) m.w:=by
        apply run;rw[wR,Ef];have aM:len<=O:=qt;cases ax<;>simp[Builtin.append_,run_underlying ht,sizeOf,typeInfo,hi,Builtin.lenOf,Builtin.firstCells,loadCells,loadCellsFrom,aM,storeCells]
       exact av m.w H aX rfl rfl rfl rfl (λ_ _=>rfl) hh rfl (by simpa using Zx)
      obtain⟨b,E,n,rfl,qA,JC⟩:=Hz N;have nW:I n=I new*i.size:=by rw[qA.1,Za,ae]
      have ao:len*i.size+I n<=H.size:=by rw[nW,ae,eh,<-ld];rw[Q]at D;exact nR _ D
      have rY:=run_append_room (P:=P) m.w t o.type R i ht hi (m.σ id) len O H hh ⟨b,E,none⟩ (I new) cx n nW (λaw v Y=>by rw[Addr.add_lit];exact JC aw v Y) (aAC qA) D ao;have a2:(execOp a.eval o).run P m.w=.ok (.value (.slice (some ⟨m.σ id,0,none⟩) (len+I new) O)) _:=run _ _ (by rw[wR,Ef];exact rY);have a1:len*i.size<=H.size:=oO (Nat.le_add_right _ _) ao;refine av _ _ a2 ?_ ?_ ?_ ?_ (λx hx=>setRow_other m.w (m.σ id) x _ hx) (Su hh) ?_ ?_
      .rfl
      .rfl
      .rfl
      .exact setRow_size m.w _ _
      .rw[acx,gb,gb,jO,rG,NK];omega
      have h1:=Zx.append qA;rw[<-G_]at h1;have:(H.toList.take (len*i.size)++n++H.toList.drop (len*i.size+I n)).take ((len+I new)*F)=H.toList.take (len*F)++n:=by
       rw[ae];have dF:I (H.toList.take (len*F))=len*F:=by rw[jO,NK];rw[ae]at a1;omega
       have Up:I (H.toList.take (len*F)++n)=(len+I new)*F:=by rw[gb,dF,nW,ae,ld]
       rw[Mc (D_ Up.symm)];exact f_ (D_ Up)
      simp only[List.toList_toArray]at this |-;rw[this];exact h1
     ·
      have N:new≠[]:=λe=>by subst e;simp at D;omega
      obtain⟨b,E,n,rfl,qA,JC⟩:=Hz N;have nW:I n=I new*i.size:=by rw[qA.1,Za,ae]
      have ar:I (H.toList.take (len*F))=len*i.size:=by rw[ae,jO,NK];have be:H.size=m.κ id*F:=eh;omega
      have rY:=run_append_grow (P:=P) m.w t o.type R i zv ht hi CA ⟨m.σ id,0,none⟩ len O (H.toList.take (len*F)) ar (λaw v Y=>by
        rw[Addr.add_lit,jN];have:(m.w.cell? ⟨m.σ id,aw,none⟩)=H[aw]? :=I2 hh;rw[this];rw[p_]at Y;split at Y
        .simpa using Y
        cases Y) ⟨b,E,none⟩ (I new) cx n nW (λaw v Y=>by rw[Addr.add_lit];exact JC aw v Y) J J (growslice_fits J (by rw[hb];omega))
      have UC:len+I new<=maxLen:=by simp only[maxLen];omega
      have h1:=Zx.append qA;rw[<-G_]at h1;have am:hs (m.with L) {(m.with L).rO id with fr:=m.fr}:=(K4 cV rfl).trans (akk (λc hc=>.inl hc));have ba:=agX (P:=P) (T:=T) (a:=a) (o:=o) (F:=L++[(id,(g,none))]) (s:=s) (e:=R) (m:=m) (f:={(m.with L).rO id with fr:=m.fr}) (A:=A.take len++new) (Z:=zv) (cells:=H.toList.take (len*F)++n) (h:=grownCap m.w (len+I new) O R) (W:=m.w.drew.alloc (.cells ((H.toList.take (len*F)++n).toArray++Builtin.zeroCells zv.cells (grownCap m.w (len+I new) O R-(len+I new))) R))
       (by rw[Hv,<-List.append_toArray];exact run _ _ (by rw[wR,Ef];exact rY)) (by rw[Hv];rfl) (aqa (FK:=m.fr) (amN DW cV rfl) (λc hc=>.inl hc)) (JI.trans am) rfl jD Km ac (by rw[gb,ar,nW,ae,Hv,ld]) am h1 (by rw[Hv];exact grownCap_ge m.w (len+I new) O R) (grownCap_le_maxLen m.w (len+I new) O R UC)
       (by simp only[a_.rO,bG];split<;>first|exact DO|(rename_i e';subst e';exact DO)) (by rw[SL];show dV _ id (g,none)=dV _ id (((m.with L).blk id).1,none);rw[dB,X,jV];rfl)
      rw[Hv,lf]at ba;exact ba
   cases f
  cases f
 cases f
end
end Go.Abs
