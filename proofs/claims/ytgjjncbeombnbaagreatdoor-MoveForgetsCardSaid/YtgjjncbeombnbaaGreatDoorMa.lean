/-
  An abstract machine for the code of the model.
-/
import Derived.KernelRfl
import Derived.Calls
import Derived.WalkKit
set_option linter.all false
open List renaming length->I
namespace Go.Abs
variable{f n j ln E O h:Nat}{x:Operand}{M:World}{Bq DP:Nat->Prop}{F us:List Value}{H:Array Value}{L:TypeId}{Y:Nat×Nat}
abbrev AA:=List UInt8
abbrev fT:=List Bool
abbrev bQ:=List Int
abbrev aC:=List Nat
abbrev dZ:=Option Nat
abbrev pB:=List (Nat×Nat)
abbrev ji:=List (Int×Int)
theorem J{p:Prop}(h:p:=by omega):p:=h
theorem aa{p:Prop}(h:p:=by decide):p:=h
theorem aH{p:Prop}(h:p:=by simp):p:=h
theorem ah{p:Prop}(h:p:=by kernel_rfl):p:=h
def ai:=@if_neg.{1}
def an:=@if_pos.{1}
def aX:=@List.mem_of_getElem?.{0}
def bd:=@List.getElem?_eq_some_iff.{0}
theorem bG:type_of% @List.length_map.{0,0}:=@List.length_map.{0,0}
def bN:=@Nat.zero_le
def ct:=@Nat.le_refl
def cD:=@List.mem_map.{0,0}
def cN:=@Bool.and_eq_true
theorem cJ:type_of% @Nat.mod_lt:=@Nat.mod_lt
def cW:=@beq_iff_eq.{0}
def dt:=@List.mem_cons.{0}
def dy:=@List.getElem?_map.{0,0}
def dz:=@List.getD_eq_getElem?_getD.{0}
def eQ:=@List.map_cons.{0,0}
theorem eN:type_of% @Nat.mod_eq_of_lt:=@Nat.mod_eq_of_lt
def fz:=@List.nil_append.{0}
def fA:=@List.mem_range
theorem fG:type_of% @List.length_cons.{0}:=@List.length_cons.{0}
def fE:=@List.map_append.{0,0}
theorem fH:type_of% @Option.map_eq_some_iff.{0,0}:=@Option.map_eq_some_iff.{0,0}
theorem fL:type_of% @List.take_of_length_le.{0}:=@List.take_of_length_le.{0}
def fU:=@List.length_append.{0}
def fX:=@List.getElem?_of_mem.{0}
def gi:=@List.map_map.{0,0,0}
theorem gk:type_of% @List.length_nil.{0}:=@List.length_nil.{0}
def gA:=@List.length_pos_iff.{0}
def gH:=@List.not_mem_nil.{0}
def gJ:=@Bool.false_eq_true
def gW:=@Option.some.injEq.{0}
def iR:=@List.mem_append.{0}
def i_:=@List.append_nil.{0}
def jn:=@decide_eq_true_eq
def js:=@Int.toNat_natCast
def jw:=@List.length_take.{0}
theorem jy:type_of% @List.pairwise_cons.{0}:=@List.pairwise_cons.{0}
def jx:=@Nat.le_of_ble_eq_true
def jB:=@List.take_add_one.{0}
theorem jC:type_of% @List.take_append_drop.{0}:=@List.take_append_drop.{0}
def jz:=@List.take_length.{0}
def jO:=@Nat.zero_add
theorem ke:type_of% @Bool.not_eq_true':=@Bool.not_eq_true'
def ko:=@List.cons_append.{0}
theorem j9:type_of% @Nat.add_mul:=@Nat.add_mul
theorem ld:type_of% @Option.some.inj.{0}:=@Option.some.inj.{0}
def kr:=@List.append_assoc.{0}
def kQ:=@List.getElem?_eq_none.{0}
theorem kD:type_of% @List.map_congr_left.{0,0}:=@List.map_congr_left.{0,0}
def lB:=@Int.eq_ofNat_of_zero_le
def me:=@Prod.mk.injEq.{0,0}
def mB:=@List.all_eq_true.{0}
def mD:=@List.range_succ
theorem mT:type_of% @Nat.add_mod_right:=@Nat.add_mod_right
def mV:=@Nat.mul_le_mul_right
def nm:=@Option.getD_some.{0}
def mE:=@beq_eq_false_iff_ne.{0}
def nj:=@List.ext_getElem?.{0}
def nA:=@Nat.le_trans
def nJ:=@Nat.not_lt_zero
def nY:=@List.mem_singleton.{0}
def oO:=@List.map_nil.{0,0}
def oH:=@Nat.mod_two_eq_zero_or_one
def o_:=@List.getElem?_append_right.{0}
def pA:=@List.getElem?_set.{0}
def pg:=@List.mem_filter.{0}
def pR:=@List.getElem?_take.{0}
def pS:=@List.length_drop.{0}
def qZ:=@Bool.or_eq_true
def re:=@List.getElem?_eq_getElem.{0}
def qB:=@List.length_reverse.{0}
def q_:=@List.length_set.{0}
def qH:=@List.nodup_cons.{0}
def qX:=@List.nodup_nil.{0}
theorem rY:type_of% @List.length_range:=@List.length_range
def sC:=@List.getElem?_append_left.{0}
def sy:=@List.getElem?_range
def sh:=@List.map_take.{0,0}
def sY:=@List.mem_flatMap.{0,0}
theorem xC:type_of% @Nat.eq_of_beq_eq_true:=@Nat.eq_of_beq_eq_true
theorem uA:type_of% @List.getElem_cons_drop.{0}:=@List.getElem_cons_drop.{0}
def uy:=@List.map_drop.{0,0}
def vd:=@List.map_set.{0,0}
def uX:=@Nat.add_zero
def v_:=@List.all_cons.{0}
def vz:=@List.countP_append.{0}
def wh:=@List.ext_getElem.{0}
def vo:=@List.flatten_cons.{0}
def vx:=@List.mem_append_right.{0}
def vT:=@Nat.mod_add_mod
theorem vv:type_of% @Nat.mod_self:=@Nat.mod_self
def vp:=@Option.map_some.{0,0}
theorem xt:type_of% @List.countP_map.{0,0}:=@List.countP_map.{0,0}
def wE:=@List.pairwise_map.{0,0}
def wT:=@Nat.lt_succ_iff_lt_or_eq
def v7:=@Nat.min_eq_left
def xf:=@Nat.sub_self
def xq:=@decide_eq_true
def xA:=@of_decide_eq_false
def zj:=@List.mem_cons_of_mem.{0}
def yQ:=@Nat.add_assoc
def AB:=@Bool.not_not
def zB:=@Bool.true_and
def zo:=@List.all_nil.{0}
theorem zm:type_of% @List.countP_pos_iff.{0}:=@List.countP_pos_iff.{0}
def zx:=@List.foldl_append.{0,0}
def zg:=@List.foldl_cons.{0,0}
def yW:=@List.mem_reverse.{0}
def yV:=@Nat.le_of_eq
def zc:=@decide_eq_false
theorem Aa:type_of% @List.countP_congr.{0}:=@List.countP_congr.{0}
def zZ:=@List.mem_of_mem_drop.{0}
def Ai:=@Nat.lt_of_lt_of_le
def CT:=@beq_self_eq_true.{0}
def AX:=@not_or
def Dq:=@Bool.and_self
def CW:=@Bool.not_true
def Cz:=@List.any_eq_false.{0}
def CY:=@List.countP_cons.{0}
def BF:=@List.filter_append.{0}
def CR:=@List.find?_eq_none.{0}
def CO:=@List.find?_some.{0}
def BX:=@List.head?_eq_getElem?.{0}
theorem BH:type_of% @List.mem_flatten.{0}:=@List.mem_flatten.{0}
def Cv:=@List.mem_of_find?_eq_some.{0}
def BS:=@List.mem_of_mem_take.{0}
def B0:=@List.nodup_range
def CD:=@Nat.zero_mul
def D1:=@of_decide_eq_true
def IS:=@Array.getD_eq_getD_getElem?.{0}
def IT:=@List.contains_iff_mem.{0}
def C0:=@List.getElem?_drop.{0}
def D2:=@List.getElem_map.{0,0}
def EH:=@List.mem_filterMap.{0,0}
def ED:=@List.pairwise_singleton.{0}
def Ev:=@List.perm_middle.{0}
def Ds:=@List.sum_cons.{0}
def D5:=@List.take_take.{0}
def GH:=@Bool.and_true
def JU:=@Bool.false_or
def ET:=@Int.add_zero
def FI:=@List.Perm.refl.{0}
def Fv:=@List.any_eq_true.{0}
def Gx:=@List.flatten_append.{0}
def Gb:=@List.getElem?_reverse.{0}
def EM:=@List.getElem_range
def FL:=@List.pairwise_append.{0}
def F_:=@List.pairwise_iff_getElem.{0}
def Fe:=@List.perm_append_comm.{0}
def F7:=@Nat.add_mod_mod
def Fw:=@Nat.add_sub_cancel
def E7:=@Nat.le_max_left
def EV:=@Nat.lt_trichotomy
def Jn:=@Array.getElem?_toList.{0}
def Ik:=@Bool.eq_iff_iff
def JX:=@Bool.not_false
def IU:=@List.countP_le_length.{0}
def Ho:=@List.length_eq_zero_iff.{0}
def Jv:=@List.mem_append_left.{0}
def I1:=@List.mem_cons_self.{0}
theorem Ii:type_of% @List.take_append.{0}:=@List.take_append.{0}
def Hf:=@List.take_left.{0}
def Hm:=@Nat.le_max_right
def Hs:=@Nat.lt_or_gt_of_ne
def G_:=@Nat.one_mul
def LL:=@Array.getElem?_setIfInBounds.{0}
def J2:=@Array.length_toList.{0}
def NU:=@Int.le_refl
def Mm:=@List.cons.injEq.{0}
def LJ:=@List.countP_eq_length_filter.{0}
theorem MV:type_of% @List.drop_drop.{0}:=@List.drop_drop.{0}
def L5:=@List.drop_eq_getElem_cons.{0}
def KT:=@List.drop_length.{0}
def Kh:=@List.drop_zero.{0}
def LV:=@List.foldl_nil.{0,0}
def Mj:=@List.idxOf_lt_length_iff.{0}
def K4:=@List.length_pos_of_mem.{0}
def K7:=@List.length_replicate.{0}
def LF:=@List.map_reverse.{0,0}
def Mi:=@List.set_append_right.{0}
theorem L2:type_of% @List.set_eq_of_length_le.{0}:=@List.set_eq_of_length_le.{0}
theorem J6:type_of% @Nat.beq_refl:=@Nat.beq_refl
def KZ:=@Nat.lt_or_ge
def Mk:=@Nat.mod_eq_sub_mod
def Lb:=@Nat.mul_le_mul
def LA:=@Nat.sub_zero
def M5:=@Option.bind_eq_some_iff.{0,0}
def K6:=@Option.isSome_iff_exists.{0}
def PY:=@Array.eq_empty_of_size_eq_zero.{0}
def S2:=@Array.getElem?_push.{0}
def X2:=@Bool.or_false
def QO:=@Int.tmod_eq_emod_of_nonneg
def Ta:=@Int.toNat_of_nonneg
def P2:=@List.Pairwise.imp_of_mem.{0}
def Px:=@List.Perm.append_right.{0}
def Rl:=@List.cons.inj.{0}
theorem QZ:type_of% @List.countP_eq_zero.{0}:=@List.countP_eq_zero.{0}
def Ov:=@List.countP_nil.{0}
def PH:=@List.drop_left.{0}
def Ra:=@List.eq_nil_of_length_eq_zero.{0}
def PL:=@List.filter_cons.{0}
def Ql:=@List.filter_cons_of_neg.{0}
def O4:=@List.filter_map.{0,0}
def Sw:=@List.flatten_nil.{0}
def So:=@List.length_filter_le.{0}
def O_:=@List.mem_erase_of_ne.{0}
def S6:=@List.nodup_append.{0}
def SY:=@List.set_cons_zero.{0}
def Se:=@List.set_getElem_self.{0}
def Qs:=@List.set_set.{0}
def QX:=@List.takeWhile_cons.{0}
def Sb:=@List.take_append_of_le_length.{0}
theorem Og:type_of% @List.take_reverse.{0}:=@List.take_reverse.{0}
def RX:=@List.take_succ_cons.{0}
def S1:=@Nat.add_comm
def O7:=@Nat.le_mul_of_pos_right
def SL:=@Nat.le_of_lt
def Pc:=@Nat.mul_comm
def XD:=@Array.foldl_toList.{0,0}
def Zr:=@Array.getElem?_eq_getElem.{0}
def Ug:=@Array.toList_inj.{0}
def VW:=@Int.tdiv_eq_ediv_of_nonneg
def T_:=@List.Pairwise.imp.{0}
def Wo:=@List.all_eq_false.{0}
def Yr:=@List.append_eq_append_iff.{0}
def aeB:=@List.contains_eq_mem.{0}
def YT:=@List.countP_singleton.{0}
def Te:=@List.drop_append.{0}
def Vh:=@List.drop_of_length_le.{0}
def Vr:=@List.eq_of_mem_replicate.{0}
def XF:=@List.filter_congr.{0}
def YW:=@List.find?_append.{0}
def T4:=@List.getElem?_replicate.{0}
def TR:=@List.getElem?_set_self.{0}
def XK:=@List.getElem_mem.{0}
def Zg:=@List.length_dropLast.{0}
def Xk:=@List.range_eq_range'
def Xe:=@List.reverse_cons.{0}
def Vz:=@List.size_toArray.{0}
def U8:=@List.take_set_of_le.{0}
theorem Vj:type_of% @List.take_succ_eq_append_getElem.{0}:=@List.take_succ_eq_append_getElem.{0}
def W7:=@Nat.ble_eq_true_of_le
def Tc:=@Nat.div_add_mod
def agB:=@List.drop_append_of_le_length.{0}
def aau:=@List.findIdx_lt_length_of_exists.{0}
inductive PV where
 |bool (b:Bool)
 |int (k:IntKind) (n:Int)
 |str (s:ByteArray)
 |yH|nils|rU|xx|nili|ifc|zs
 |box (cs:List PV)
 |sl (es:List (List PV))
 |mp (ag:Bool) (es:List (PV×List PV))
 |fn (f:Nat) (first cap:List PV)
 deriving Inhabited
abbrev dF:=List PV
variable{N z:dF}
abbrev yK:=List (PV×dF)
abbrev dh:=List dF
variable{A:dh}
inductive a7 where
 |p (v:PV)
 |bh (id g off:Nat)
 |dV (id g i off:Nat)
 |hsl (id g sz off len:Nat)
 |mN (id g:Nat)
 |hfn (f:Nat) (first cap:List a7)
 deriving Inhabited
abbrev dY:=List a7
variable{D:dY}{rs:List (Nat×dY)}
inductive V where
 |undef
 |one (c:a7)
 |agg (cs:dY)
 |tup (vs:List V)
 deriving Inhabited
variable{v:V}
abbrev dC:=List V
variable{args:dC}
inductive fZ where
 |var (cs:dY)
 |arr (ty sz:Nat) (es:dh)
 |kG (ty sz:Nat) (es:List dY)
 |map (ag:Bool) (es:yK)
 |fvar (cs:dF)
 |sE (ty sz:Nat) (es:dh)
 |fmap (ag:Bool) (es:yK)
 deriving Inhabited
abbrev bj:=Nat->V
variable{B:bj}
abbrev aG:=Nat->Nat×Option fZ
def dN{α:Type}(f:Nat->α)(a:Nat)(x:α):Nat->α:=λi=>if i=a then x else f i
theorem ba{α:Type}(f:Nat->α)(a b:Nat)(x:α):dN f a x b=if b=a then x else f b:=rfl
inductive eX where
 |t (n:Nat)
 |i (n:Int)
 |b (x:Bool)
 |k (v:V)
variable{y c' Z y' i':eX}{Ew w7:Option eX}{qs:List (Nat×Nat×eX)}
abbrev sG:=List eX
inductive xF where
 |bool|ptr|slc|map|fnc|ifc
 |str (ks:fT)
inductive r_ where
 |OX (x:eX)
 |pick (c a b:eX)
 |alloc (site:Nat) (z:dF)
 |box (site:Nat) (x:eX)
 |build (z:dF) (parts:List (Nat×Nat×eX))
 |MK (site ty sz:Nat) (parts:sG)
 |load (k:dZ) (x:eX)
 |store (n:Nat) (a x:eX)
 |O1 (x:eX)
 |bin (op:BinOp) (x y:eX)
 |eqc (k:xF) (neg:Bool) (x y:eX)
 |un (op:UnOp) (x:eX)
 |conv (k:IntKind) (x:eX)
 |bstr (x:eX)
 |mkfn (f:Nat) (first cap:sG)
 |mkmap (site:Nat) (ag:Bool)
 |OW (site ty sz bytes:Nat) (z:dF) (len cap:eX)
 |slice (sz:Nat) (x:eX) (lo hi:Option eX)
 |sslice (x:eX) (lo hi:Option eX)
 |Nf (off:Nat) (x:eX)
 |OC (sz:Nat) (x i:eX)
 |Mx (len sz:Nat) (x i:eX)
 |fld (off:Nat) (k:dZ) (x:eX)
 |aidx (len sz:Nat) (k:dZ) (x i:eX)
 |sidx (x i:eX)
 |lookup (kd:Nat) (z:dF) (agg ok:Bool) (x k:eX)
 |mupd (kd:Nat) (ag:Bool) (m k v:eX)
 |bad
 |extract (x:eX) (i:Nat)
 |call (site:Nat) (f:eX) (args:sG)
 |slen (x:eX)
 |Sx (x:eX)
 |mlen (x:eX)
 |append (site ty sz bytes:Nat) (s x:eX)
 |max (x y:eX)
 |min (x y:eX)
 |clear (z:dF) (x:eX)
structure kE where
 dst:dZ
 op:r_
 guard:Option (Nat×Bool)
 anc:Nat
abbrev fm:=List kE
variable{ops:fm}
inductive aQ where
 |skip
 |region (draw:Bool) (ops:fm)
 |seq (a b:aQ)
 |cond (x:eX) (a b:aQ)
 |block (id:Nat) (c:aQ)
 |loop (c:aQ)
 |exit (id:Nat)
 |ret
 |bad
structure aV where
 ntmps:Nat
 results:List (Nat×Option dZ)
 body:aQ
def ev (B:bj):eX->V
 | .t n=>B n
 | .i n=>.one (.p (.int .i64 n))
 | .b x=>.one (.p (.bool x))
 | .k v=>v
abbrev ae4:=Nat×(Nat×Option fZ)
abbrev jU:=List ae4
variable{u:jU}
def app:jU->aG->aG
 |[],b=>b
 |(i,o)::r,b=>app r (dN b i o)
def PV.norm:PV->PV
 | .nils=>.sl []
 | .zs=>.sl []
 |v=>v
def Q_:a7->Option PV
 | .p v=>some v.norm
 |_=>none
def CG:dY->Option dF
 |[]=>some []
 |c::r=>match Q_ c,CG r with
  |some v,some F=>some (v::F)
  |_,_=>none
def uf:V->Option dY
 | .one c=>some [c]
 | .agg D=>some D
 |_=>none
def gO{α β:Type}(f:α->Option (β×aC)):List α->Option (List β×aC)
 |[]=>some ([],[])
 |a::r=>match f a,gO f r with
  |some (b,x),some (B,y)=>some (b::B,x++y)
  |_,_=>none
def snap(blk:aG):Nat->a7->Option (PV×aC)
 |0,_=>none
 |n+1,c=>match c with
  | .p v=>some (v.norm,[])
  | .bh id g E=>match blk id with
   |(g',some (.var D))=>if g'=g then
     match gO (snap blk n) D with
     |some (ps,r)=>some (.box (ps.drop E),id::r)
     |none=>none
    else none
   |(g',some (.fvar ps))=>if g'=g then some (.box (ps.drop E),[id])else none
   |_=>none
  | .dV id g i E=>match blk id with
   |(g',some (.arr _ _ A))=>if g'=g then(A[i]?).map λe=>(.box (e.drop E),[id])else none
   |(g',some (.sE _ _ A))=>if g'=g then(A[i]?).map λe=>(.box (e.drop E),[id])else none
   |_=>none
  | .hsl id g z E len=>match blk id with
   |(g',some (.arr _ _ A))=>if g'=g/\E+len<=I A then some (.sl ((A.drop E).take len),[id])else none
   |(g',some (.sE _ _ A))=>if g'=g/\E+len<=I A then some (.sl ((A.drop E).take len),[id])else none
   |(g',some (.kG _ _ A))=>if g'=g/\E+len<=I A then
     match gO (gO (snap blk n)) ((A.drop E).take len)with
     |some (ps,r)=>some (.sl ps,id::r)
     |none=>none
    else none
   |_=>none
  | .mN id g=>match blk id with
   |(g',some (.map h A))=>if g'=g then some (.mp h A,[id])else none
   |(g',some (.fmap h A))=>if g'=g then some (.mp h A,[id])else none
   |_=>none
  | .hfn f a b=>match gO (snap blk n) a,gO (snap blk n) b with
   |some (x,r),some (y,s)=>some (.fn f x y,r++s)
   |_,_=>none
def iC:Nat:=6
def pO(blk:aG):V->Option (V×aC)
 | .one c=>(snap blk iC c).map λ(v,r)=>(.one (.p v),r)
 | .agg D=>(gO (snap blk iC) D).map λ(F,r)=>(.agg (F.map .p),r)
 |_=>none
def xy(blk:aG)(all:aC)(id:Nat):Option jU:=
 match blk id with
 |(g,some (.var D))=>match gO (snap blk iC) D with
  |some (ps,r)=>if r.all all.contains then some [(id,(g,some (.fvar ps)))]else none
  |none=>none
 |(g,some (.arr L j A))=>some [(id,(g,some (.sE L j A)))]
 |(g,some (.kG L j A))=>match gO (gO (snap blk iC)) A with
  |some (ps,r)=>if r.all all.contains then some [(id,(g,some (.sE L j ps)))]else none
  |none=>none
 |(g,some (.map f A))=>some [(id,(g,some (.fmap f A)))]
 |(_,none)=>none
 |_=>some []
def tL(blk:aG)(all:aC):aC->Option jU
 |[]=>some []
 |i::r=>match xy blk all i,tL blk all r with
  |some a,some b=>some (a++b)
  |_,_=>none
def sT(blk:aG)(ids:aC):Option jU:=tL blk ids ids
inductive l6 where
 |p (v:PV)
 |own (ty sz:Nat) (es:dh)
 deriving Inhabited
abbrev ns:=List l6
inductive RV where
 |one (c:l6)
 |agg (cs:ns)
 |tup (vs:List RV)
 deriving Inhabited
def l6.pure:l6->l6
 | .p v=>.p v
 | .own _ _ A=>.p (.sl A)
def RV.IB:RV->RV
 | .one c=>.one c.pure
 | .agg D=>.agg (D.map l6.pure)
 | .tup F=>.tup F
def RV.pure:RV->RV
 | .tup F=>.tup (F.map RV.IB)
 |v=>v.IB
def RV.ib(b:Bool)(r:RV):RV:=match b with
 |true=>r.pure
 |false=>r
def PV.scalar:PV->Bool
 | .bool _| .int _ _| .str _| .yH| .nils| .rU| .xx| .nili| .ifc| .zs=>true
 |_=>false
def l6.alone:l6->Bool
 | .p v=>v.scalar
 | .own _ _ A=>A.all λe=>e.all PV.scalar
def l7(blk:aG)(c:a7):Option (l6×aC×aC):=
 match c with
 | .p v=>some (.p v,[],[])
 | .hsl id g z 0 len=>match blk id with
  |(g',some (.arr L j A))=>if g'=g/\len<=I A then some (.own L j (A.take len),[id],[])else none
  |_=>(snap blk iC c).map λ(v,r)=>(.p v,[],r)
 |_=>(snap blk iC c).map λ(v,r)=>(.p v,[],r)
def nE(blk:aG):dY->Option (ns×aC×aC)
 |[]=>some ([],[],[])
 |c::r=>match l7 blk c,nE blk r with
  |some (x,o,q),some (N,os,qs)=>some (x::N,o++os,q++qs)
  |_,_=>none
def oN:V->Option dY
 | .one c=>some [c]
 | .agg D=>some D
 |_=>none
def wI:dC->Option dY
 |[]=>some []
 |v::r=>match oN v,wI r with
  |some a,some b=>some (a++b)
  |_,_=>none
def tq:V->Option dY
 | .tup F=>wI F
 |v=>oN v
def sX:V->ns->RV×ns
 | .one _,r::rs=>(.one r,rs)
 | .agg D,rs=>(.agg (rs.take (I D)),rs.drop (I D))
 |_,rs=>(.agg [],rs)
def CF:dC->ns->List RV
 |[],_=>[]
 |v::r,rs=>(sX v rs).1::CF r (sX v rs).2
def vt:V->ns->RV
 | .tup F,rs=>.tup (CF F rs)
 |v,rs=>(sX v rs).1
def n9:aC->aC->Bool
 |[],_=>true
 |i::r,q=> !r.contains i&& !q.contains i&&n9 r q
def lr(blk:aG)(v:V):Option RV:=
 match tq v with
 |some D=>match nE blk D with
  |some (x,o,q)=>if n9 o q then some (vt v x)else none
  |none=>none
 |none=>none
def hs(blk:aG)(f:Nat):l6->a7×jU
 | .p v=>(.p v,[])
 | .own L j A=>(.hsl f ((blk f).1+1) j 0 (I A),[(f,((blk f).1+1,some (.arr L j A)))])
def kY(blk:aG)(f:Nat):ns->dY×jU
 |[]=>([],[])
 |c::r=>((hs blk f c).1::(kY blk (f+1) r).1,(hs blk f c).2++(kY blk (f+1) r).2)
def mf:RV->ns
 | .one c=>[c]
 | .agg D=>D
 | .tup _=>[]
def rm:List RV->ns
 |[]=>[]
 |v::r=>mf v++rm r
def ll:RV->ns
 | .tup F=>rm F
 |v=>mf v
def pW:RV->dY->V×dY
 | .one _,c::D=>(.one c,D)
 | .agg rs,D=>(.agg (D.take (I rs)),D.drop (I rs))
 |_,D=>(.undef,D)
def uj:List RV->dY->dC
 |[],_=>[]
 |v::r,D=>(pW v D).1::uj r (pW v D).2
def uD:RV->dY->V
 | .tup F,D=>.tup (uj F D)
 |v,D=>(pW v D).1
def RV.alone(r:RV):Bool:=(ll r).all l6.alone
def kV(blk:aG)(f:Nat)(r:RV):V×jU:=(uD r (kY blk f (ll r)).1,(kY blk f (ll r)).2)
inductive zr where
 |fail
 |done (v:V) (u:jU) (rd:aC)
 |pc (f:Nat) (args:dC) (rd:aC) (site:Nat)
 |sc (f:Nat) (args:dC)
def Cn(blk:aG):V->Option (dY×aC)
 | .one (.p (.box D))=>some (D.map .p,[])
 | .one (.bh id g E)=>match blk id with
  |(g',some (.var D))=>if g'=g then some (D.drop E,[id])else none
  |(g',some (.fvar D))=>if g'=g then some ((D.drop E).map .p,[id])else none
  |_=>none
 | .one (.dV id g i E)=>match blk id with
  |(g',some (.arr _ _ A))=>if g'=g then(A[i]?).map λe=>((e.drop E).map .p,[id])else none
  |(g',some (.sE _ _ A))=>if g'=g then(A[i]?).map λe=>((e.drop E).map .p,[id])else none
  |(g',some (.kG _ _ A))=>if g'=g then(A[i]?).map λe=>(e.drop E,[id])else none
  |_=>none
 |_=>none
def sf(k:dZ)(D:dY):Option V:=
 match k with
 |none=>match D with
  |c::_=>some (.one c)
  |[]=>none
 |some n=>if n<=I D then some (.agg (D.take n))else none
def fM{α:Type}(D:List α)(E:Nat)(N:List α):List α:=D.take E++N++D.drop (E+I N)
def Ar(blk:aG)(a:V)(n:Nat)(N:dY):zr:=
 if I N≠n then .fail else
 match a with
 | .one (.bh id g E)=>match blk id with
  |(g',some (.var D))=>if g'=g/\E+n<=I D then .done .undef [(id,(g,some (.var (fM D E N))))] [id]else .fail
  |_=>.fail
 | .one (.dV id g i E)=>match blk id with
  |(g',some (.arr L j A))=>match A[i]?,CG N with
   |some e,some ps=>if g'=g/\E+n<=I e then .done .undef [(id,(g,some (.arr L j (A.set i (fM e E ps)))))] [id]else .fail
   |_,_=>.fail
  |_=>.fail
 |_=>.fail
def gP(blk:aG):V->Option (dh×aC×aC)
 | .one (.p .nils)=>some ([],[],[])
 | .one (.p (.sl A))=>some (A,[],[])
 | .one (.hsl id g z E len)=>match blk id with
  |(g',some (.arr _ _ A))=>if g'=g/\E+len<=I A then some ((A.drop E).take len,[id],[])else none
  |(g',some (.sE _ _ A))=>if g'=g/\E+len<=I A then some ((A.drop E).take len,[id],[])else none
  |(g',some (.kG _ _ A))=>if g'=g/\E+len<=I A then
    match gO (gO (snap blk iC)) ((A.drop E).take len)with
    |some (ps,r)=>some (ps,[id],r)
    |none=>none
   else none
  |_=>if len=0 then some ([],[id],[])else none
 |_=>none
def jq(j:Nat)(A:dh):Bool:=A.all λe=>I e==j
def oa:V->dZ
 | .one (.hsl _ _ z _ _)=>some z
 |_=>none
def lS:Nat:=140737488355328
def iQ(blk:aG)(f L j bytes:Nat)(s x:V):zr:=
 match gP blk x with
 |none=>.fail
 |some (new,rd,fr)=>
  if¬(oa x=some j\/jq j new)then .fail else
  match sT blk fr with
  |none=>.fail
  |some F=>
   match s with
   | .one (.p .nils)=>
    if I new=0 then .done (.one (.p .nils)) F (rd++fr)else
    if I new*bytes<=lS then
     .done (.one (.hsl f ((blk f).1+1) j 0 (I new))) (F++[(f,((blk f).1+1,some (.arr L j new)))]) (f::rd++fr)
    else .fail
   | .one (.p .zs)=>
    if I new=0 then .fail else
    if I new*bytes<=lS then
     .done (.one (.hsl f ((blk f).1+1) j 0 (I new))) (F++[(f,((blk f).1+1,some (.arr L j new)))]) (f::rd++fr)
    else .fail
   | .one (.hsl id g z 0 len)=>match blk id with
    |(g',some (.arr T h A))=>
     if g'=g/\T=L/\h=j/\len<=I A/\(len+I new)*bytes<=lS/\fr.contains id=false then
      .done (.one (.hsl f ((blk f).1+1) j 0 (len+I new)))
       (F++[(id,(g,none)),(f,((blk f).1+1,some (.arr L j (A.take len++new))))]) (f::id::rd++fr)
     else .fail
    |_=>.fail
   |_=>.fail
def rF:V->dZ
 | .one (.p (.int _ n))=>if 0<=n then some n.toNat else none
 |_=>none
def s_(B:bj)(d:Nat):Option eX->dZ
 |none=>some d
 |some a=>rF (ev B a)
def EC(x:V)(j lo h:Nat):zr:=
 if¬lo<=h then .fail else
 match x with
 | .one (.p .nils)=>if h=0 then .done (.one (.p .nils)) [] []else .fail
 | .one (.p (.sl A))=>if h<=I A/\jq j A=true then .done (.one (.p (.sl ((A.drop lo).take (h-lo))))) [] []else .fail
 | .one (.hsl id g z E len)=>if h<=len/\z=j then .done (.one (.hsl id g z (E+lo) (h-lo))) [] []else .fail
 |_=>.fail
def Av:V->dZ
 | .one (.p .nils)=>some 0
 | .one (.p (.sl A))=>some (I A)
 | .one (.hsl _ _ _ _ len)=>some len
 |_=>none
def B2(blk:aG):V->Option (Nat×aC)
 | .one (.p .rU)=>some (0,[])
 | .one (.p (.mp _ A))=>some (I A,[])
 | .one (.mN id g)=>match blk id with
  |(g',some (.map _ A))=>if g'=g then some (I A,[id])else none
  |(g',some (.fmap _ A))=>if g'=g then some (I A,[id])else none
  |_=>none
 |_=>none
def u9(blk:aG)(f:Bool):V->Option (yK×aC)
 | .one (.p .rU)=>some ([],[])
 | .one (.p (.mp u A))=>if u=f then some (A,[])else none
 | .one (.mN id g)=>match blk id with
  |(g',some (.map u A))=>if g'=g/\u=f then some (A,[id])else none
  |(g',some (.fmap u A))=>if g'=g/\u=f then some (A,[id])else none
  |_=>none
 |_=>none
def FN:PV->PV->Option Bool
 | .int k a,.int f b=>if k=f then some (a==b)else none
 | .str a,.str b=>some (a==b)
 | .bool a,.bool b=>some (a==b)
 |_,_=>none
def oj:PV->Nat
 | .int _ _=>0
 | .str _=>1
 | .bool _=>2
 |_=>3
def uz:Bool->dF->Option V
 |true,D=>some (.agg (D.map .p))
 |false,[c]=>some (.one (.p c))
 |false,_=>none
def zl(k:PV):yK->Nat->Option (Option (Nat×dF))
 |[],_=>some none
 |(a,v)::r,i=>match FN k a with
  |some true=>some (some (i,v))
  |some false=>zl k r (i+1)
  |none=>none
def Gk:Bool->V->Option dY
 |false,.one c=>some [c]
 |true,.agg D=>some D
 |_,_=>none
def JO(op:BinOp)(k:IntKind)(a b:Int):Option PV:=
 match op with
 | .add=>some (.int k (k.wrap (a+b)))
 | .sub=>some (.int k (k.wrap (a-b)))
 | .mul=>some (.int k (k.wrap (a*b)))
 | .quo=>if b=0 then none else some (.int k (k.wrap (a.tdiv b)))
 | .rem=>if b=0 then none else some (.int k (a.tmod b))
 | .eql=>some (.bool (a==b))
 | .neq=>some (.bool (a !=b))
 | .lss=>some (.bool (decide (a<b)))
 | .leq=>some (.bool (decide (a<=b)))
 | .gtr=>some (.bool (decide (b<a)))
 | .geq=>some (.bool (decide (b<=a)))
 | .and=>some (.int k (k.wrap (BitVec.ofInt k.bits a&&& BitVec.ofInt k.bits b).toNat))
 | .shl=>if b<0 then none else some (.int k (k.wrap (a*2 ^ min b.toNat k.bits)))
 | .shr=>if b<0 then none else some (.int k (a.fdiv (2 ^ min b.toNat k.bits)))
 |_=>none
def WV(op:BinOp)(a b:ByteArray):Option PV:=
 match op with
 | .add=>if a.size+b.size<=9223372036854775807 then some (.str (a++b))else none
 | .eql=>some (.bool (a.toList==b.toList))
 | .neq=>some (.bool (!(a.toList==b.toList)))
 |_=>none
def O0(op:BinOp):V->V->Option V
 | .one (.p (.int k a)),.one (.p (.int f b))=>if k=f\/op=.shl\/op=.shr then(JO op k a b).map λv=>.one (.p v)else none
 | .one (.p (.str a)),.one (.p (.str b))=>(WV op a b).map λv=>.one (.p v)
 |_,_=>none
def nZ:Bool->PV->PV->Option Bool
 |true,.int k a,.int f b=>if k=f then some (a==b)else none
 |false,.bool a,.bool b=>some (a==b)
 |_,_,_=>none
def nT:fT->dY->dY->Option Bool
 |[],[],[]=>some true
 |k::f,.p a::r,.p b::s=>match nZ k a b with
  |some true=>nT f r s
  |some false=>some false
  |none=>none
 |_,_,_=>none
def Gl:xF->V->Option Bool
 | .ptr,.one (.p .yH)=>some true
 | .ptr,.one (.p (.box _))=>some false
 | .ptr,.one (.bh _ _ _)=>some false
 | .ptr,.one (.dV _ _ _ _)=>some false
 | .slc,.one (.p .nils)=>some true
 | .slc,.one (.p (.sl (_::_)))=>some false
 | .slc,.one (.hsl _ _ _ _ _)=>some false
 | .map,.one (.p .rU)=>some true
 | .map,.one (.p (.mp _ _))=>some false
 | .map,.one (.mN _ _)=>some false
 | .fnc,.one (.p .xx)=>some true
 | .fnc,.one (.p (.fn _ _ _))=>some false
 | .fnc,.one (.hfn _ _ _)=>some false
 | .ifc,.one (.p .nili)=>some true
 | .ifc,.one (.p .ifc)=>some false
 |_,_=>none
def Di:xF->V->V->Option Bool
 | .bool,.one (.p (.bool a)),.one (.p (.bool b))=>some (a==b)
 | .str f,.agg a,.agg b=>nT f a b
 | .bool,_,_=>none
 | .str _,_,_=>none
 |k,a,b=>if Gl k b=some true then Gl k a else if Gl k a=some true then Gl k b else none
def Df(D:dY):List (Nat×dY)->dY
 |[]=>D
 |(E,N)::r=>Df (fM D E N) r
def zq(B:bj):List (Nat×Nat×eX)->Option (List (Nat×dY))
 |[]=>some []
 |(E,n,a)::r=>match uf (ev B a),zq B r with
  |some D,some q=>if I D=n then some ((E,D)::q)else none
  |_,_=>none
def Au(B:bj)(j:Nat):sG->Option (List dY)
 |[]=>some []
 |a::r=>match uf (ev B a),Au B j r with
  |some D,some q=>if I D=j then some (D::q)else none
  |_,_=>none
def BA:List dY->Option dh
 |[]=>some []
 |c::r=>match CG c,BA r with
  |some v,some F=>some (v::F)
  |_,_=>none
def E_(B:bj)(a:eX):Option (Nat×dY×dY):=
 match ev B a with
 | .one (.p (.fn f x y))=>some (f,x.map .p,y.map .p)
 | .one (.hfn f x y)=>some (f,x,y)
 |_=>none
def Bu(blk:aG):dC->Option (dC×aC):=gO (pO blk)
def IF:dh->Option AA
 |[]=>some []
 |[.int .u8 n]::r=>(IF r).map (UInt8.ofNat n.toNat:: ·)
 |_::_=>none
def xO(B:bj):sG->Option dY
 |[]=>some []
 |a::r=>match ev B a,xO B r with
  | .one c,some q=>some (c::q)
  |_,_=>none
def cH(shared:Nat->Bool)(B:bj)(blk:aG):r_->zr
 | .OX x=>.done (ev B x) [] []
 | .pick c a b=>match ev B c with
  | .one (.p (.bool t))=>.done (if t then ev B a else ev B b) [] []
  |_=>.fail
 | .alloc s z=>.done (.one (.bh s ((blk s).1+1) 0)) [(s,((blk s).1+1,some (.var (z.map .p))))] [s]
 | .box s x=>match uf (ev B x)with
  |some D=>.done (.one (.bh s ((blk s).1+1) 0)) [(s,((blk s).1+1,some (.var D)))] [s]
  |none=>.fail
 | .build z ps=>match zq B ps with
  |some q=>.done (.agg (Df (z.map .p) q)) [] []
  |none=>.fail
 | .MK s L j ps=>match Au B j ps with
  |some A=>match BA A with
   |some qs=>.done (.one (.hsl s ((blk s).1+1) j 0 (I A))) [(s,((blk s).1+1,some (.arr L j qs)))] [s]
   |none=>.done (.one (.hsl s ((blk s).1+1) j 0 (I A))) [(s,((blk s).1+1,some (.kG L j A)))] [s]
  |none=>.fail
 | .load k x=>match Cn blk (ev B x)with
  |some (D,r)=>match sf k D with
   |some v=>.done v [] r
   |none=>.fail
  |none=>.fail
 | .store n a x=>match uf (ev B x)with
  |some N=>Ar blk (ev B a) n N
  |none=>.fail
 | .O1 x=>match ev B x with
  | .one (.bh id g o)=>.done (.one (.bh id g o)) [] []
  | .one (.dV id g i o)=>.done (.one (.dV id g i o)) [] []
  | .one (.p (.box D))=>.done (.one (.p (.box D))) [] []
  | .one (.hfn f a b)=>.done (.one (.hfn f a b)) [] []
  | .one (.p (.fn f a b))=>.done (.one (.p (.fn f a b))) [] []
  |_=>.fail
 | .bin op x y=>match O0 op (ev B x) (ev B y)with
  |some v=>.done v [] []
  |none=>.fail
 | .eqc k M x y=>match Di k (ev B x) (ev B y)with
  |some b=>.done (.one (.p (.bool (if M then !b else b)))) [] []
  |none=>.fail
 | .un op x=>match op,ev B x with
  | .not,.one (.p (.bool b))=>.done (.one (.p (.bool (!b)))) [] []
  | .neg,.one (.p (.int k n))=>.done (.one (.p (.int k (k.wrap (0-n))))) [] []
  |_,_=>.fail
 | .conv k x=>match ev B x with
  | .one (.p (.int _ n))=>.done (.one (.p (.int k (k.wrap n)))) [] []
  |_=>.fail
 | .bstr x=>match gP blk (ev B x)with
  |some (A,r,[])=>match IF A with
   |some O=>.done (.one (.p (.str ⟨O.toArray⟩))) [] r
   |none=>.fail
  |_=>.fail
 | .mkfn f a b=>match xO B a,xO B b with
  |some x,some y=>.done (.one (.hfn f x y)) [] []
  |_,_=>.fail
 | .mkmap s u=>.done (.one (.mN s ((blk s).1+1))) [(s,((blk s).1+1,some (.map u [])))] [s]
 | .OW s L j bytes z l c=>match rF (ev B l),rF (ev B c)with
  |some n,some m=>if n=m/\n*bytes<=lS then
    .done (.one (.hsl s ((blk s).1+1) j 0 n)) [(s,((blk s).1+1,some (.arr L j (List.replicate n z))))] [s]
   else .fail
  |_,_=>.fail
 | .slice j x lo H=>match Av (ev B x)with
  |some n=>match s_ B 0 lo,s_ B n H with
   |some l,some h=>EC (ev B x) j l h
   |_,_=>.fail
  |none=>.fail
 | .sslice x lo H=>match ev B x with
  | .one (.p (.str s))=>match s_ B 0 lo,s_ B s.size H with
   |some l,some h=>if l<=h/\h<=s.size then .done (.one (.p (.str (s.extract l h)))) [] []else .fail
   |_,_=>.fail
  |_=>.fail
 | .Nf E x=>match ev B x with
  | .one (.bh id g o)=>.done (.one (.bh id g (o+E))) [] []
  | .one (.dV id g i o)=>.done (.one (.dV id g i (o+E))) [] []
  | .one (.p (.box D))=>.done (.one (.p (.box (D.drop E)))) [] []
  |_=>.fail
 | .OC j x i=>match rF (ev B i),ev B x with
  |some n,.one (.p (.sl A))=>match A[n]? with
   |some e=>if I e=j then .done (.one (.p (.box e))) [] []else .fail
   |none=>.fail
  |some n,.one (.hsl id g z E len)=>if n<len/\z=j then .done (.one (.dV id g (E+n) 0)) [] []else .fail
  |_,_=>.fail
 | .Mx len j x i=>match rF (ev B i),ev B x with
  |some n,.one (.bh id g o)=>if n<len then .done (.one (.bh id g (o+n*j))) [] []else .fail
  |some n,.one (.dV id g R o)=>if n<len then .done (.one (.dV id g R (o+n*j))) [] []else .fail
  |some n,.one (.p (.box D))=>if n<len then .done (.one (.p (.box (D.drop (n*j))))) [] []else .fail
  |_,_=>.fail
 | .fld E k x=>match ev B x with
  | .agg D=>match sf k (D.drop E)with
   |some v=>.done v [] []
   |none=>.fail
  |_=>.fail
 | .aidx len j k x i=>match rF (ev B i),ev B x with
  |some n,.agg D=>if n<len then
    match sf k (D.drop (n*j))with
    |some v=>.done v [] []
    |none=>.fail
   else .fail
  |_,_=>.fail
 | .sidx x i=>match rF (ev B i),ev B x with
  |some n,.one (.p (.str s))=>match s[n]? with
   |some b=>.done (.one (.p (.int .u8 b.toNat))) [] []
   |none=>.fail
  |_,_=>.fail
 | .lookup kd z agg ok x k=>match u9 blk agg (ev B x),ev B k with
  |some (A,r),.one (.p q)=>if oj q≠kd then .fail else match zl q A 0 with
   |some f=>match uz agg ((f.map (·.2)).getD z)with
    |some w=>.done (if ok then .tup [w,.one (.p (.bool f.isSome))]else w) [] r
    |none=>.fail
   |none=>.fail
  |_,_=>.fail
 | .bad=>.fail
 | .mupd kd u m k v=>match ev B m,ev B k,Gk u (ev B v)with
  | .one (.mN id g),.one (.p q),some D=>match blk id,CG D with
   |(g',some (.map Q A)),some ps=>if g'=g/\Q=u/\oj q=kd then
     match zl q A 0 with
     |some (some (i,_))=>.done .undef [(id,(g,some (.map u (A.set i (q,ps)))))] [id]
     |some none=>.done .undef [(id,(g,some (.map u (A++[(q,ps)]))))] [id]
     |none=>.fail
    else .fail
   |_,_=>.fail
  |_,_,_=>.fail
 | .extract x i=>match ev B x with
  | .tup F=>match F[i]? with
   |some v=>.done v [] []
   |none=>.fail
  |_=>.fail
 | .call s f as=>match E_ B f with
  |some (g,a,b)=>
   if shared g then .sc g (a.map .one++as.map (ev B)++b.map .one)
   else match Bu blk (a.map .one++as.map (ev B)++b.map .one)with
    |some (F,r)=>.pc g F r s
    |none=>.fail
  |none=>.fail
 | .slen x=>match ev B x with
  | .one (.p (.str s))=>.done (.one (.p (.int .i64 s.size))) [] []
  |_=>.fail
 | .Sx x=>match Av (ev B x)with
  |some n=>.done (.one (.p (.int .i64 n))) [] []
  |none=>.fail
 | .mlen x=>match B2 blk (ev B x)with
  |some (n,r)=>.done (.one (.p (.int .i64 n))) [] r
  |none=>.fail
 | .append s L j bytes d x=>iQ blk s L j bytes (ev B d) (ev B x)
 | .max x y=>match ev B x,ev B y with
  | .one (.p (.int k a)),.one (.p (.int _ b))=>.done (.one (.p (.int k (if b>a then b else a)))) [] []
  |_,_=>.fail
 | .min x y=>match ev B x,ev B y with
  | .one (.p (.int k a)),.one (.p (.int _ b))=>.done (.one (.p (.int k (if b<a then b else a)))) [] []
  |_,_=>.fail
 | .clear z x=>match ev B x with
  | .one (.p .nils)=>.done (.tup []) [] []
  | .one (.p (.sl []))=>.done (.tup []) [] []
  | .one (.hsl id g _ E len)=>if len=0 then .done (.tup []) [] []else match blk id with
   |(g',some (.arr L j A))=>if g'=g/\j=I z/\E+len<=I A then .done (.tup []) [(id,(g,some (.arr L j (fM A E (List.replicate len z)))))] [id]else .fail
   |_=>.fail
  |_=>.fail
structure ic where
 rd:aC
 wr:aC
 fs:aC
abbrev fW:=List ic
variable{R:bj->aG->fW->Prop}
structure bU where
 any:Bool
 ids:aC
 fs:aC
def bU.all:bU:=⟨true,[],[]⟩
def oY(id:Nat):Nat:=id/64000000
def bU.ok(a:bU)(id:Nat):Bool:=a.any||a.ids.contains id||a.fs.contains (oY id)
def bU.iJ(a:bU)(l:aC):Bool:=l.all a.ok
def bU.holds(a b:bU):Bool:=a.any||(a.iJ b.ids&&b.fs.all a.fs.contains)
structure lD where
 shared:Nat->Bool
 sites:Nat->aC
 lone:Nat->Bool
 al:bU
def nc(blk:aG):Nat->a7->aC
 |0,_=>[]
 |n+1,c=>match c with
  | .p _=>[]
  | .bh id _ _=>id::match blk id with
   |(_,some (.var D))=>(D.map (nc blk n)).flatten
   |_=>[]
  | .dV id _ _ _=>id::match blk id with
   |(_,some (.kG _ _ A))=>(A.flatten.map (nc blk n)).flatten
   |_=>[]
  | .hsl id _ _ _ _=>id::match blk id with
   |(_,some (.kG _ _ A))=>(A.flatten.map (nc blk n)).flatten
   |_=>[]
  | .mN id _=>[id]
  | .hfn _ a b=>(a.map (nc blk n)).flatten++(b.map (nc blk n)).flatten
def pk(blk:aG):V->aC
 | .one c=>nc blk iC c
 | .agg D=>(D.map (nc blk iC)).flatten
 |_=>[]
def iH(X:lD)(f:Nat)(F:dC)(blk:aG):bU:=⟨false,(F.map (pk blk)).flatten,X.sites f⟩
def ef(B:bj)(d:dZ)(v:V):bj:=
 match d with
 |some t=>dN B t v
 |none=>B
abbrev jW:=Nat->dC->Option RV
abbrev qu:=Nat->dC->bU->aG->Option (V×aG)
def fR(blk:aG)(rd:aC)(f:Nat)(r:RV):Option (V×jU):=
 if rd=[]\/r.alone then some (kV blk f r)
 else match sT blk rd with
  |some u=>some ((kV blk f r).1,u++(kV blk f r).2)
  |none=>none
def rj(B:bj):Option (Nat×Bool)->Option Bool
 |none=>some true
 |some (t,f)=>match B t with
  | .one (.p (.bool b))=>some (b==f)
  | .undef=>some false
  |_=>none
def lq(X:lD)(cp:jW)(D:qu)(o:kE)(B:bj)(blk:aG):Option (bj×aG×ic):=
 match rj B o.guard with
 |none=>none
 |some false=>some (ef B o.dst .undef,blk,⟨[],[],[]⟩)
 |some true=>match cH X.shared B blk o.op with
  | .fail=>none
  | .done v u r=>if X.al.iJ (r++u.map (·.1))then some (ef B o.dst v,app u blk,⟨r,u.map (·.1),[]⟩)else none
  | .pc f F r s=>match cp f F with
   |some x=>match fR blk r s (x.ib (X.lone s))with
    |some (v,u)=>if X.al.iJ (r++u.map (·.1))then some (ef B o.dst v,app u blk,⟨r++u.map (·.1),u.map (·.1),[]⟩)else none
    |none=>none
   |none=>none
  | .sc f F=>if X.al.holds (iH X f F blk)then
    match D f F (iH X f F blk) blk with
    |some (v,A)=>some (ef B o.dst v,A,⟨(iH X f F blk).ids,(iH X f F blk).ids,(iH X f F blk).fs⟩)
    |none=>none
   else none
def je(X:lD)(cp:jW)(D:qu):fm->bj->aG->Option (bj×aG×fW)
 |[],B,blk=>some (B,blk,[])
 |o::r,B,blk=>match lq X cp D o B blk with
  |some (f,m,e)=>match je X cp D r f m with
   |some (j,h,A)=>some (j,h,e::A)
   |none=>none
  |none=>none
def vr(a b:aC):Bool:=a.any λi=>b.contains i
def Fg(fs ids:aC):Bool:=ids.any λi=>fs.contains (oY i)
def E2(a b:ic):Bool:=vr a.wr b.rd||vr a.wr b.wr||vr a.rd b.wr||vr a.fs b.fs||Fg a.fs (b.rd++b.wr)||Fg b.fs (a.rd++a.wr)
def P6(anc:Nat)(e:ic):Nat->fW->Bool
 |_,[]=>true
 |j,x::r=>(anc.testBit j|| !E2 x e)&&P6 anc e (j+1) r
def td:fm->fW->fW->Bool
 |o::os,f,e::A=>P6 o.anc e 0 f&&td os (f++[e]) A
 |_,_,_=>true
inductive nI where
 |normal
 |exit (id:Nat)
 |ret
def lG(f:bj->aG->Option (nI×bj×aG)):Nat->bj->aG->Option (nI×bj×aG)
 |0,_,_=>none
 |n+1,B,blk=>match f B blk with
  |some (.normal,A,h)=>lG f n A h
  |r=>r
def dq(X:lD)(cp:jW)(D:qu)(n:Nat):aQ->bj->aG->Option (nI×bj×aG)
 | .skip,B,blk=>some (.normal,B,blk)
 | .region d ops,B,blk=>match je X cp D ops B blk with
  |some (f,h,A)=>if d then(if td ops [] A then some (.normal,f,h)else none)else some (.normal,f,h)
  |none=>none
 | .seq a b,B,blk=>match dq X cp D n a B blk with
  |some (.normal,f,h)=>dq X cp D n b f h
  |r=>r
 | .cond x a b,B,blk=>match ev B x with
  | .one (.p (.bool t))=>if t then dq X cp D n a B blk else dq X cp D n b B blk
  |_=>none
 | .block id c,B,blk=>match dq X cp D n c B blk with
  |some (.exit i,f,h)=>if i=id then some (.normal,f,h)else some (.exit i,f,h)
  |r=>r
 | .loop c,B,blk=>lG (dq X cp D n c) n B blk
 | .exit id,B,blk=>some (.exit id,B,blk)
 | .ret,B,blk=>some (.ret,B,blk)
 | .bad,_,_=>none
def rl(args:dC):bj:=λi=>args.getD i .undef
def QE:V->Option V
 | .tup _=>none
 |v=>some v
def qd(al:bU)(B:bj)(blk:aG):List (Nat×Option dZ)->Option dC
 |[]=>some []
 |(t,none)::r=>match QE (B t),qd al B blk r with
  |some v,some q=>some (v::q)
  |_,_=>none
 |(t,some k)::r=>match Cn blk (B t),qd al B blk r with
  |some (D,rd),some q=>if al.iJ rd then(sf k D).map (· ::q)else none
  |_,_=>none
def Ac:dC->V
 |[v]=>v
 |F=>.tup F
def zV:aG:=λ_=>(0,none)
def qC(X:lD)(cp:jW)(D:qu)(n:Nat)(fn:aV)(args:dC)(blk:aG):Option (V×aG):=
 match dq X cp D n fn.body (rl args) blk with
 |some (.normal,B,A)=>(qd X.al B A fn.results).map λF=>(Ac F,A)
 |some (.ret,B,A)=>(qd X.al B A fn.results).map λF=>(Ac F,A)
 |_=>none
def Dx(X:lD)(cp:jW)(D:qu)(n:Nat)(fn:aV)(args:dC):Option RV:=
 match qC X cp D n fn args zV with
 |some (v,blk)=>lr blk v
 |none=>none
structure Sys where
 P:Program
 shared:Nat->Bool
 sites:Nat->aC
 lone:Nat->Bool
 fns:Nat->Option aV
 prim:Nat->dC->Option (Option RV)
 trig:Nat->dC->Bool:=λ_ _=>false
 primS:Nat->dC->bU->aG->Option (V×jU):=λ_ _ _ _=>none
def Sys.ctx(S:Sys)(a:bU):lD:=⟨S.shared,S.sites,S.lone,a⟩
mutual
def jR(S:Sys):Nat->jW
 |0,_,_=>none
 |n+1,f,args=>match S.prim f args with
  |some r=>r
  |none=>match S.fns f with
   |some fn=>if I args<=fn.ntmps then Dx (S.ctx .all) (jR S n) (jf S n) n fn args else none
   |none=>none
def jf(S:Sys):Nat->qu
 |0,_,_,_,_=>none
 |n+1,f,args,al,blk=>if S.trig f args=true then(S.primS f args al blk).map (λr=>(r.1,app r.2 blk))else match S.fns f with
  |some fn=>if I args<=fn.ntmps then qC (S.ctx al) (jR S n) (jf S n) n fn args blk else none
  |none=>none
end
def aI(S:Sys)(f:Nat)(args:dC)(r:RV):Prop:= ∃n,jR S n f args=some r
def jG(S:Sys)(f:Nat)(args:dC)(al:bU)(blk:aG)(v:V)(A:aG):Prop:= ∃n,jf S n f args al blk=some (v,A)
abbrev gX:=nI->bj->aG->Prop
def W (S:Sys)(al:bU)(c:aQ)(Q:gX)(B:bj)(blk:aG):Prop:=∃n e A f,dq (S.ctx al) (jR S n) (jf S n) n c B blk=some (e,A,f)/\Q e A f
def pP (S:Sys)(al:bU)(ops:fm)(Q:bj->aG->fW->Prop)(B:bj)(blk:aG)(tr:fW):Prop:=∃n f h A,je (S.ctx al) (jR S n) (jf S n) ops B blk=some (f,h,A)/\Q f h (tr++A)
section
variable{m n:Nat}
def K_(a b:jW):Prop:=∀f x r,a f x=some r->b f x=some r
def TT(a b:qu):Prop:=∀f x l k r,a f x l k=some r->b f x l k=some r
section
variable {X:lD} {cp pz:jW} {D Fs:qu} (hp:K_ cp pz) (ae:TT D Fs)
include hp ae
theorem ahV{o:kE}{blk:aG}{r:bj×aG×ic}(h:lq X cp D o B blk=some r):lq X pz Fs o B blk=some r:=by
 unfold lq at h |-;cases m:rj B o.guard with
 |none=>simp[m]at h
 |some b=>
  cases b with
  |false=>simpa [m]using h
  |true=>
   simp only[m]at h |-;cases j:cH X.shared B blk o.op with
   |fail=>simp[j]at h
   |done v u rd=>simpa [j]using h
   |pc f F rd s=>
    simp only[j]at h |-;cases H:cp f F with
    |none=>simp[H]at h
    |some x=>rw[hp _ _ _ H];simpa [H]using h
   |sc f F=>
    simp only[j]at h |-;split at h
    .rename_i n;rw[an n];cases H:D f F (iH X f F blk) blk with
     |none=>simp[H]at h
     |some x=>rw[ae _ _ _ _ _ H];simpa [H]using h
    cases h
theorem agV:∀ {ops:fm}{B:bj}{blk:aG}{r:bj×aG×fW},je X cp D ops B blk=some r->je X pz Fs ops B blk=some r:=by
 intro ops
 induction ops with
 |nil=>intro B blk r h;simpa [je]using h
 |cons o os m=>
  intro B blk r h;simp only[je]at h |-;cases f:lq X cp D o B blk with
  |none=>simp[f]at h
  |some x=>
   obtain⟨E,j,F⟩:=x;rw[ahV hp ae f];simp only[f]at h |-;cases H:je X cp D os E j with
   |none=>simp[H]at h
   |some y=>rw[m H];simpa [H]using h
omit hp ae in
theorem acY{f g:bj->aG->Option (nI×bj×aG)}(H:∀e b r,f e b=some r->g e b=some r):
  ∀ {n m:Nat}{B:bj}{blk:aG}{r:nI×bj×aG},n<=m->lG f n B blk=some r->lG g m B blk=some r:=by
 intro n
 induction n with
 |zero=>intro m B blk r _ h;simp[lG]at h
 |succ n j=>
  intro m B blk r hm h;obtain⟨m,rfl⟩:∃k,m=k+1:=⟨m-1,J⟩;simp only[lG]at h |-;cases hf:f B blk with
  |none=>simp[hf]at h
  |some x=>
   obtain⟨e,E,u⟩:=x;rw[H _ _ _ hf];cases e with
   |normal=>simp only[hf]at h |-;exact j J h
   |exit i=>simpa [hf]using h
   |ret=>simpa [hf]using h
theorem aav(y:n<=m):∀ {c:aQ}{B:bj}{blk:aG}{r:nI×bj×aG},dq X cp D n c B blk=some r->dq X pz Fs m c B blk=some r:=by
 intro c
 induction c with
 |skip=>intro B blk r h;simpa [dq]using h
 |region d ops=>
  intro B blk r h;simp only[dq]at h |-;cases H:je X cp D ops B blk with
  |none=>simp[H]at h
  |some x=>rw[agV hp ae H];simpa [H]using h
 |seq a b f j=>
  intro B blk r h;simp only[dq]at h |-;cases H:dq X cp D n a B blk with
  |none=>simp[H]at h
  |some x=>
   obtain⟨e,E,z⟩:=x;rw[f H];cases e with
   |normal=>simp only[H]at h |-;exact j h
   |exit i=>simpa [H]using h
   |ret=>simpa [H]using h
 |cond x a b f j=>
  intro B blk r h;simp only[dq]at h |-;split at h
  .split at h
   .rename_i u;simp only[u,if_true];exact f h
   rename_i u;simp only[u];exact j h
  cases h
 |block id c v=>
  intro B blk r h;simp only[dq]at h |-;cases H:dq X cp D n c B blk with
  |none=>simp[H]at h
  |some x=>rw[v H];simpa [H]using h
 |loop c v=>intro B blk r h;simp only[dq]at h |-;exact acY (λ_ _ _ h=>v h) y h
 |exit id=>intro B blk r h;simpa [dq]using h
 |ret=>intro B blk r h;simpa [dq]using h
 |bad=>intro B blk r h;simp[dq]at h
theorem UE(f:n<=m){fn:aV}{blk:aG}{r:V×aG}(h:qC X cp D n fn args blk=some r):qC X pz Fs m fn args blk=some r:=by
 unfold qC at h |-;cases H:dq X cp D n fn.body (rl args) blk with
 |none=>simp[H]at h
 |some x=>rw[aav hp ae f H];simpa [H]using h
theorem arE(f:n<=m){fn:aV}{r:RV}(h:Dx X cp D n fn args=some r):Dx X pz Fs m fn args=some r:=by
 unfold Dx at h |-;cases H:qC X cp D n fn args zV with
 |none=>simp[H]at h
 |some x=>rw[UE hp ae f H];simpa [H]using h
end
theorem agy(S:Sys):∀n,K_ (jR S n) (jR S (n+1))/\TT (jf S n) (jf S (n+1)):=by
 intro n
 induction n with
 |zero=>exact⟨λf x r h=>by simp[jR]at h,λf x l k r h=>by simp[jf]at h⟩
 |succ n j=>
  refine⟨λf x r h=>?_,λf x l k r h=>?_⟩
  .rw[jR]at h |-;cases hp:S.prim f x with
   |some R=>simpa [hp]using h
   |none=>
    simp only[hp]at h |-;cases hf:S.fns f with
    |none=>simp[hf]at h
    |some fn=>
     simp only[hf]at h |-;split at h
     .rename_i hl;rw[an hl];exact arE j.1 j.2 J h
     cases h
  rw[jf]at h |-;by_cases H:S.trig f x
  .rw[an H]at h |-;exact h
  rw[ai H]at h |-;cases hf:S.fns f with
  |none=>simp[hf]at h
  |some fn=>
   simp only[hf]at h |-;split at h
   .rename_i hl;rw[an hl];exact UE j.1 j.2 J h
   cases h
theorem Nq(S:Sys)(h:n<=m):K_ (jR S n) (jR S m):=by
 induction h with
 |refl=>exactλ_ _ _ h=>h
 |step _ j=>exactλf x r hr=>(agy S _).1 f x r (j f x r hr)
theorem Lh(S:Sys)(h:n<=m):TT (jf S n) (jf S m):=by
 induction h with
 |refl=>exactλ_ _ _ _ _ h=>h
 |step _ j=>exactλf x l k r hr=>(agy S _).2 f x l k r (j f x l k r hr)
theorem aI.det{S:Sys}{r R:RV}(h:aI S f args r)(H:aI S f args R):r=R:=by obtain⟨n,j⟩:=h;obtain⟨m,hm⟩:=H;have a:=Nq S (E7 n m) _ _ _ j;have b:=Nq S (Hm n m) _ _ _ hm;rw[a]at b;exact ld b
theorem Fa(S:Sys){al:bU}(h:n<=m){c:aQ}{blk:aG}{r:nI×bj×aG}(hr:dq (S.ctx al) (jR S n) (jf S n) n c B blk=some r):
  dq (S.ctx al) (jR S m) (jf S m) m c B blk=some r:=aav (Nq S h) (Lh S h) h hr
theorem axI(S:Sys){al:bU}(h:n<=m){blk:aG}{r:bj×aG×fW}(hr:je (S.ctx al) (jR S n) (jf S n) ops B blk=some r):
  je (S.ctx al) (jR S m) (jf S m) ops B blk=some r:=agV (Nq S h) (Lh S h) hr
variable {S:Sys} {al:bU} {Q:gX} {B:bj} {blk:aG}
theorem W.mono{c:aQ}{f:gX}(h:W S al c Q B blk)(H:∀e B blk,Q e B blk->f e B blk):W S al c f B blk:=by obtain⟨n,e,A,u,m,j⟩:=h;exact⟨n,e,A,u,m,H _ _ _ j⟩
theorem az6(h:Q .normal B blk):W S al .skip Q B blk:=⟨0,_,_,_,rfl,h⟩
theorem ay3{id:Nat}(h:Q (.exit id) B blk):W S al (.exit id) Q B blk:=⟨0,_,_,_,rfl,h⟩
theorem avj(h:Q .ret B blk):W S al .ret Q B blk:=⟨0,_,_,_,rfl,h⟩
def Kk(next:bj->aG->Prop)(Q:gX):gX
 | .normal,B,blk=>next B blk
 |e,B,blk=>Q e B blk
theorem aum{a b:aQ}(h:W S al a (Kk (W S al b Q) Q) B blk):W S al (.seq a b) Q B blk:=by
 obtain⟨n,e,v,x,f,H⟩:=h;cases e with
 |normal=>obtain⟨m,e,D,A,u,j⟩:=H;refine⟨max n m,e,D,A,?_,j⟩;simp only[dq];rw[Fa S (E7 n m) f];exact Fa S (Hm n m) u
 |exit i=>exact⟨n,_,_,_,by simp[dq,f],H⟩
 |ret=>exact⟨n,_,_,_,by simp[dq,f],H⟩
theorem ake{x:eX}{a b:aQ}{t:Bool}(m:ev B x=.one (.p (.bool t)))(h:if t=true then W S al a Q B blk else W S al b Q B blk):W S al (.cond x a b) Q B blk:=by
 cases t with
 |true=>obtain⟨n,e,A,f,j,H⟩:=h;exact⟨n,e,A,f,by simp[dq,m,j],H⟩
 |false=>obtain⟨n,e,A,f,j,H⟩:=(by simpa using h:W S al b Q B blk);exact⟨n,e,A,f,by simp[dq,m,j],H⟩
def se(id:Nat)(Q:gX):gX
 | .exit i,B,blk=>if i=id then Q .normal B blk else Q (.exit i) B blk
 |e,B,blk=>Q e B blk
theorem at7{id:Nat}{c:aQ}(h:W S al c (se id Q) B blk):W S al (.block id c) Q B blk:=by
 obtain⟨n,e,m,A,f,H⟩:=h;cases e with
 |normal=>exact⟨n,_,_,_,by simp[dq,f],H⟩
 |ret=>exact⟨n,_,_,_,by simp[dq,f],H⟩
 |exit i=>
  simp only[se]at H;by_cases j:i=id
  .simp only[j,if_true]at H;exact⟨n,_,_,_,by simp[dq,f,j],H⟩
  simp only[j,if_false]at H;exact⟨n,_,_,_,by simp[dq,f,j],H⟩
theorem Yl(S:Sys){c:aQ}{k l:Nat}(h:n<=m)(H:k<=l){r:nI×bj×aG}(hr:lG (dq (S.ctx al) (jR S n) (jf S n) n c) k B blk=some r):
  lG (dq (S.ctx al) (jR S m) (jf S m) m c) l B blk=some r:=acY (λ_ _ _ f=>Fa S h f) H hr
theorem amI{c:aQ}(E:Nat->bj->aG->Prop)(u N:Nat)(Z:u<=N)(F:E u B blk)
  (R:∀k B blk,k<=N->E k B blk->W S al c (Kk (λA f=>k<N/\E (k+1) A f) Q) B blk):W S al (.loop c) Q B blk:=by
 have x:∀j k B blk,k+j=N->E k B blk->∃n l e A f,lG (dq (S.ctx al) (jR S n) (jf S n) n c) l B blk=some (e,A,f)/\Q e A f:=by
  intro j
  induction j with
  |zero=>
   intro k B blk M y;obtain⟨n,e,D,z,H,h⟩:=R k B blk J y;cases e with
   |normal=>obtain⟨aB,_⟩:=h;omega
   |exit i=>exact⟨n,1,_,_,_,by simp[lG,H],h⟩
   |ret=>exact⟨n,1,_,_,_,by simp[lG,H],h⟩
  |succ j Y=>
   intro k B blk M y;obtain⟨n,e,D,z,H,h⟩:=R k B blk J y;cases e with
   |normal=>obtain⟨_,v⟩:=h;obtain⟨m,l,e,O,X,T,L⟩:=Y (k+1) D z J v;refine⟨max n m,l+1,e,O,X,?_,L⟩;simp only[lG];rw[Fa S (E7 n m) H];exact Yl S (Hm n m) (ct _) T
   |exit i=>exact⟨n,1,_,_,_,by simp[lG,H],h⟩
   |ret=>exact⟨n,1,_,_,_,by simp[lG,H],h⟩
 obtain⟨n,l,e,A,f,H,h⟩:=x (N-u) u B blk J F;refine⟨max n l,e,A,f,?_,h⟩;simp only[dq];exact Yl S (E7 n l) (Hm n l) H
theorem ape{d:Bool}(h:pP S al ops (λB blk A=>(d->td ops [] A)/\Q .normal B blk) B blk []):W S al (.region d ops) Q B blk:=by
 obtain⟨n,f,u,A,j,H,m⟩:=h;refine⟨n,.normal,f,u,?_,m⟩;simp only[dq,j];cases d with
 |false=>simp
 |true=>simpa using H
theorem atp{tr:fW}(h:R B blk tr):pP S al [] R B blk tr:=⟨0,B,blk,[],rfl,by simpa using h⟩
theorem O2{o:kE}{os:fm}{tr:fW}{n:Nat}{j:bj}{f:aG}{e:ic}
  (v:lq (S.ctx al) (jR S n) (jf S n) o B blk=some (j,f,e)) (h:pP S al os R j f (tr++[e])):pP S al (o::os) R B blk tr:=by
 obtain⟨m,u,y,A,H,x⟩:=h;refine⟨max n m,u,y,e::A,?_,by simpa using x⟩;simp only[je];rw[ahV (Nq S (E7 n m)) (Lh S (E7 n m)) v];simp[axI S (Hm n m) H]
def Gv(S:Sys)(al:bU)(p:zr)(d:dZ)(B:bj)(blk:aG)(tr:fW)(aY:bj->aG->fW->Prop):Prop:=
 match p with
 | .fail=>False
 | .done v u r=>al.iJ (r++u.map (·.1))=true/\aY (ef B d v) (app u blk) (tr++[⟨r,u.map (·.1),[]⟩])
 | .pc f F r s=>∃x,aI S f F x/\match fR blk r s (x.ib (S.lone s))with
  |some (v,u)=>al.iJ (r++u.map (·.1))=true/\aY (ef B d v) (app u blk) (tr++[⟨r++u.map (·.1),u.map (·.1),[]⟩])
  |none=>False
 | .sc f F=>al.holds (iH (S.ctx al) f F blk)=true/\ ∃v A,jG S f F (iH (S.ctx al) f F blk) blk v A/\
   aY (ef B d v) A (tr++[⟨(iH (S.ctx al) f F blk).ids,(iH (S.ctx al) f F blk).ids,(iH (S.ctx al) f F blk).fs⟩])
def Eu(S:Sys)(al:bU)(w:Option Bool)(o:kE)(B:bj)(blk:aG)(tr:fW)(aY:bj->aG->fW->Prop):Prop:=
 match w with
 |none=>False
 |some false=>aY (ef B o.dst .undef) blk (tr++[⟨[],[],[]⟩])
 |some true=>Gv S al (cH S.shared B blk o.op) o.dst B blk tr aY
@[simp] theorem bU.GM (l:aC):bU.all.iJ l:=by simp[bU.iJ,bU.ok,bU.all]
@[simp] theorem bU.ayc (b:bU):bU.all.holds b:=rfl
theorem ay7{o:kE}{os:fm}{tr:fW}
  (h:Eu S al (rj B o.guard) o B blk tr (pP S al os R)):pP S al (o::os) R B blk tr:=by
 cases H:rj B o.guard with
 |none=>simp[H,Eu]at h
 |some b=>
  cases b with
  |false=>rw[H]at h;exact O2 (n:=0) (by simp[lq,H]) h
  |true=>
   rw[H]at h;simp only[Eu]at h;have A:(S.ctx al).shared=S.shared:=rfl;have D:(S.ctx al).al=al:=rfl;have E:(S.ctx al).lone=S.lone:=rfl;cases j:cH S.shared B blk o.op with
   |fail=>simp[j,Gv]at h
   |done v u r=>rw[j]at h;obtain⟨m,h⟩:=h;exact O2 (n:=0) (by simp only[lq,H,A,D,j,m,if_true]) h
   |pc f F r s=>
    rw[j]at h;obtain⟨x,⟨n,z⟩,h⟩:=h;cases hl:fR blk r s (x.ib (S.lone s))with
    |none=>simp[hl]at h
    |some y=>obtain⟨v,u⟩:=y;simp only[hl]at h;obtain⟨m,h⟩:=h;exact O2 (n:=n) (by simp only[lq,H,A,D,E,j,z,hl,m,if_true]) h
   |sc f F=>rw[j]at h;obtain⟨m,v,L,⟨n,z⟩,h⟩:=h;exact O2 (n:=n) (by simp only[lq,H,A,D,j,m,if_true,z]) h
end
variable {S:Sys} {al:bU}
def tU(al:bU)(f:List (Nat×Option dZ))(R:V->aG->Prop):gX
 | .exit _,_,_=>False
 |_,B,blk=>match qd al B blk f with
  |some F=>R (Ac F) blk
  |none=>False
theorem XV{fn:aV}{blk:aG}{R:V->aG->Prop}(h:W S al fn.body (tU al fn.results R) (rl args) blk):
  ∃n v A,qC (S.ctx al) (jR S n) (jf S n) n fn args blk=some (v,A)/\R v A:=by
 obtain⟨n,e,m,A,j,H⟩:=h;refine⟨n,?_⟩;unfold qC;rw[j];cases e with
 |exit i=>exact H.elim
 |normal=>
  simp[tU]at H;split at H
  .rename_i F f;exact⟨_,_,by simp[show(S.ctx al).al=al from rfl,f,vp],H⟩
  exact H.elim
 |ret=>
  simp[tU]at H;split at H
  .rename_i F f;exact⟨_,_,by simp only[show(S.ctx al).al=al from rfl,f,vp],H⟩
  exact H.elim
theorem aqS{fn:aV}{r:RV}(hp:S.prim f args=none)(hf:S.fns f=some fn)(hl:I args<=fn.ntmps)
  (h:W S .all fn.body (tU .all fn.results λv blk=>lr blk v=some r) (rl args) zV):aI S f args r:=by
 obtain⟨n,v,A,j,H⟩:=XV h;refine⟨n+1,?_⟩;rw[jR];simp[hp,hf,hl,if_true];unfold Dx;rw[j];exact H
theorem oX{fn:aV}{blk:aG}{R:V->aG->Prop}(hf:S.fns f=some fn)(hl:I args<=fn.ntmps)
  (h:W S al fn.body (tU al fn.results R) (rl args) blk) (m:S.trig f args=false:=by rfl):∃v A,jG S f args al blk v A/\R v A:=by
 obtain⟨n,v,A,j,H⟩:=XV h;refine⟨v,A,⟨n+1,?_⟩,H⟩;rw[jf]
 grind
variable {S:Sys} {al:bU} {Q:gX} {B:bj} {blk:aG}
theorem az3:W S al .skip Q B blk↔Q .normal B blk:=⟨λ⟨_,_,_,_,h,q⟩=>by simp[dq]at h;obtain⟨rfl,rfl,rfl⟩:=h;exact q,az6⟩
theorem apw{id:Nat}:W S al (.exit id) Q B blk↔Q (.exit id) B blk:=⟨λ⟨_,_,_,_,h,q⟩=>by simp[dq]at h;obtain⟨rfl,rfl,rfl⟩:=h;exact q,ay3⟩
theorem arv:W S al .ret Q B blk↔Q .ret B blk:=⟨λ⟨_,_,_,_,h,q⟩=>by simp[dq]at h;obtain⟨rfl,rfl,rfl⟩:=h;exact q,avj⟩
theorem akI{a b:aQ}:W S al (.seq a b) Q B blk↔W S al a (Kk (W S al b Q) Q) B blk:=by
 refine⟨?_,aum⟩;rintro⟨n,e,A,j,h,q⟩
 simp[dq]at h;cases H:dq (S.ctx al) (jR S n) (jf S n) n a B blk with
 |none=>simp[H]at h
 |some x=>
  obtain⟨E,m,f⟩:=x;refine⟨n,E,m,f,H,?_⟩;cases E with
  |normal=>simp[H]at h;exact⟨n,e,A,j,h,q⟩
  |exit i=>simp[H]at h;obtain⟨rfl,rfl,rfl⟩:=h;exact q
  |ret=>simp[H]at h;obtain⟨rfl,rfl,rfl⟩:=h;exact q
def LH(v:V)(A B:Prop):Prop:=
 match v with
 | .one (.p (.bool t))=>if t=true then A else B
 |_=>False
theorem ap6{x:eX}{a b:aQ}:W S al (.cond x a b) Q B blk↔LH (ev B x) (W S al a Q B blk) (W S al b Q B blk):=by
 constructor
 .rintro ⟨n,e,A,f,h,q⟩
  simp[dq]at h;split at h
  .rename_i t H;rw[H];cases t with
   |true=>exact⟨n,e,A,f,by simpa using h,q⟩
   |false=>exact⟨n,e,A,f,by simpa using h,q⟩
  cases h
 intro h;unfold LH at h;split at h
 .rename_i t H;exact ake H h
 exact h.elim
theorem ayn{id:Nat}{c:aQ}:W S al (.block id c) Q B blk↔W S al c (se id Q) B blk:=by
 refine⟨?_,at7⟩;rintro⟨n,e,A,m,h,q⟩
 simp[dq]at h;cases H:dq (S.ctx al) (jR S n) (jf S n) n c B blk with
 |none=>simp[H]at h
 |some x=>
  obtain⟨E,j,f⟩:=x;refine⟨n,E,j,f,H,?_⟩;cases E with
  |normal=>simp[H]at h;obtain⟨rfl,rfl,rfl⟩:=h;exact q
  |ret=>simp[H]at h;obtain⟨rfl,rfl,rfl⟩:=h;exact q
  |exit i=>
   simp[se]
   grind
theorem Ue{tr:fW}:pP S al [] R B blk tr↔R B blk tr:=by
 refine⟨?_,atp⟩;rintro⟨n,f,j,A,h,q⟩
 simp[je]at h
 grind
theorem SB{o:kE}{os:fm}{tr:fW}:
  pP S al (o::os) R B blk tr↔Eu S al (rj B o.guard) o B blk tr (pP S al os R):=by
 refine⟨?_,ay7⟩;rintro⟨n,X,Z,A,h,q⟩
 simp only[je]at h;cases H:lq (S.ctx al) (jR S n) (jf S n) o B blk with
 |none=>simp[H]at h
 |some x=>
  obtain⟨N,M,e⟩:=x;simp only[H]at h;cases z:je (S.ctx al) (jR S n) (jf S n) os N M with
  |none=>simp[z]at h
  |some y=>
   obtain⟨Y,aZ,L⟩:=y;simp[z]at h;obtain⟨rfl,rfl,rfl⟩:=h;have D:pP S al os R N M (tr++[e]):=⟨n,_,_,L,z,by simpa using q⟩;unfold lq at H;cases E:rj B o.guard with
   |none=>simp[E]at H
   |some b=>
    cases b with
    |false=>simp[E]at H;obtain⟨rfl,rfl,rfl⟩:=H;exact D
    |true=>
     simp only[E]at H;simp only[Eu];have O:(S.ctx al).shared=S.shared:=rfl;have T:(S.ctx al).al=al:=rfl;have Q:(S.ctx al).lone=S.lone:=rfl;simp only[O,T,Q]at H;cases m:cH S.shared B blk o.op with
     |fail=>simp[m]at H
     |done v u r=>
      simp only[m]at H;split at H
      .rename_i aD;cases H;exact⟨aD,D⟩
      cases H
     |pc f F r s=>
      simp only[m]at H;cases j:jR S n f F with
      |none=>simp[j]at H
      |some x=>
       refine⟨x,⟨n,j⟩,?_⟩
       grind
     |sc f F=>
      simp only[m]at H;split at H
      .rename_i aD;cases j:jf S n f F (iH (S.ctx al) f F blk) blk with
       |none=>simp[j]at H
       |some x=>obtain⟨v,b⟩:=x;simp only[j]at H;cases H;exact⟨aD,v,_,⟨n,j⟩,D⟩
      cases H
theorem abB{d:Bool}:W S al (.region d ops) Q B blk↔pP S al ops (λB blk A=>(d->td ops [] A)/\Q .normal B blk) B blk []:=by
 refine⟨?_,ape⟩;rintro⟨n,e,j,u,h,q⟩
 simp[dq]at h;cases H:je (S.ctx al) (jR S n) (jf S n) ops B blk with
 |none=>simp[H]at h
 |some x=>
  obtain⟨v,m,A⟩:=x;simp[H]at h;cases d with
  |false=>simp at h;obtain⟨rfl,rfl,rfl⟩:=h;exact⟨n,_,_,A,H,aH,q⟩
  |true=>simp at h;obtain⟨f,rfl,rfl,rfl⟩:=h;exact⟨n,_,_,A,H,λ_=>by simpa using f,q⟩
section
variable{v:Value}
inductive cU (w:World) (own:Nat->Prop):PV->Value->Prop where
 |bool (b:Bool):cU w own (.bool b) (.bool b)
 |int (k:IntKind) (n:Int):cU w own (.int k n) (.int k n)
 |str (s:ByteArray):cU w own (.str s) (.string s)
 |yH:cU w own .yH (.pointer none)
 |nils:cU w own .nils (.slice none 0 0)
 |rU:cU w own .rU (.map none)
 |xx:cU w own .xx .nilFunc
 |nili:cU w own .nili .nilIface
 |ifc (d:TypeId) (x:Value):cU w own .ifc (.iface d x)
 |zs (a:Option Addr):cU w own .zs (.slice a 0 0)
 |box {cs:dF} (b o:Nat) (f:Nat->Value) (ho:cs≠[]-> ¬own b)
   (hc:∀(j:Nat) (x:PV),cs[j]?=some x->w.cell? ⟨b,o+j,none⟩=some (f j))
   (hr:∀(j:Nat) (x:PV),cs[j]?=some x->cU w own x (f j)):cU w own (.box cs) (.pointer (some ⟨b,o,none⟩))
 |yS (a:Option Addr) (cap:Nat) (hn:a=none->cap=0) (hm:cap<=maxLen):cU w own (.sl []) (.slice a 0 cap)
 |sl {es:dh} (b o cap sz:Nat) (f:Nat->Value) (ho:es.flatten≠[]-> ¬own b) (hl:I es<=cap) (hm:cap<=maxLen) (hsz:∀e∈es,I e=sz)
   (hc:∀(j:Nat) (x:PV),es.flatten[j]?=some x->w.cell? ⟨b,o+j,none⟩=some (f j))
   (hr:∀(j:Nat) (x:PV),es.flatten[j]?=some x->cU w own x (f j)):cU w own (.sl es) (.slice (some ⟨b,o,none⟩) (I es) cap)
 |mp {ag:Bool}{es:yK} (r:Nat) (ents:Array MapEntry) (clock:Nat) (g:Nat->Array Value) (ho:¬own r) (hb:w.heap[r]?=some (.map ents clock)) (hl:ents.size=I es)
   (hk:∀(i:Nat) (q:PV) (v:dF) (e:MapEntry),es[i]?=some (q,v)->ents[i]?=some e->cU w own q e.key)
   (hv:∀(i:Nat) (q:PV) (v:dF) (e:MapEntry),es[i]?=some (q,v)->ents[i]?=some e->(g i).size=I v/\(ag->e.val=.agg (g i))/\(ag=false-> #[e.val]=g i))
   (hr:∀(i:Nat) (q:PV) (v:dF) (j:Nat) (x:PV) (u:Value),es[i]?=some (q,v)->v[j]?=some x->(g i)[j]?=some u->cU w own x u):cU w own (.mp ag es) (.map (some r))
 |fn {f:Nat}{a b:dF} (A B:Array Value) (ha:A.size=I a) (hb:B.size=I b)
   (w9:∀(j:Nat) (x:PV) (u:Value),a[j]?=some x->A[j]?=some u->cU w own x u)
   (oF:∀(j:Nat) (x:PV) (u:Value),b[j]?=some x->B[j]?=some u->cU w own x u):cU w own (.fn f a b) (.func (.func f) A B)
theorem cU.O6{w:World}{own:Nat->Prop}{x:PV}(h:cU w own x v):v.oneCell':=by cases h<;>rfl
theorem cU.cells{w:World}{own:Nat->Prop}{x:PV}(h:cU w own x v):v.cells= #[v]:=by cases h<;>rfl
theorem Xs{w:World}{b o:Nat}(h:w.cell? ⟨b,o,none⟩=some v):b<w.heap.size:=World.block_lt_of_cell? w ⟨b,o,none⟩ h
theorem vR{w:World}{b:Nat}{o:Obj}(h:w.heap[b]?=some o):b<w.heap.size:=(Array.getElem?_eq_some_iff.1 h).1
theorem cU.mono{w:World}{own:Nat->Prop}(y:∀c,c<w.heap.size-> ¬own c->M.heap[c]?=w.heap[c]? /\ ¬Bq c){x:PV}{v:Value}
  (h:cU w own x v):cU M Bq x v:=by
 induction h with
 |bool b=>exact .bool b
 |int k n=>exact .int k n
 |str s=>exact .str s
 |yH=>exact .yH
 |nils=>exact .nils
 |rU=>exact .rU
 |xx=>exact .xx
 |nili=>exact .nili
 |ifc d x=>exact .ifc d x
 |zs a=>exact .zs a
 | @box D b o f ho F _ X=>
  cases D with
  |nil=>exact .box b o f (λh=>(h rfl).elim) (λL x h=>by simp at h) (λL x h=>by simp at h)
  |cons c r=>have H:=Xs (F 0 c rfl);have u:=ho aH;refine .box b o f (λ_=>(y b H u).2) (λL x h=>?_) X;rw[World.cell?_of_block (y b H u).1];exact F L x h
 |yS a O u hm=>exact .yS a O u hm
 | @sl A b o O j f ho hl hm z F _ X=>
  cases hf:A.flatten with
  |nil=>exact .sl b o O j f (λh=>(h hf).elim) hl hm z (λL x h=>by simp[hf]at h) (λL x h=>by simp[hf]at h)
  |cons c r=>have H:=Xs (F 0 c (by simp[hf]));have u:=ho (by simp[hf]);refine .sl b o O j f (λ_=>(y b H u).2) hl hm z (λL x h=>?_) X;rw[World.cell?_of_block (y b H u).1];exact F L x h
 | @mp ag A r E m g ho H hl _ Y _ R T=>exact .mp r E m g (y r (vR H) ho).2 ((y r (vR H) ho).1.trans H) hl R Y T
 |fn ab B Z H _ _ N Q=>exact .fn ab B Z H N Q
structure aW where
 w:World
 blk:aG
 σ:Nat->Nat
 κ:Nat->Nat
 fr:Nat->Prop
def fZ.gT:fZ->Bool
 | .var _| .arr _ _ _| .kG _ _ _| .map _ _=>true
 |_=>false
def kZ:Nat×Option fZ->dZ
 |(_,some (.arr _ j _))=>some j
 |(_,some (.kG _ j _))=>some j
 |(_,some (.sE _ j _))=>some j
 |_=>none
def aW.gT(m:aW)(c:Nat):Prop:= ∃id o,(m.blk id).2=some o/\o.gT/\m.σ id=c
def aW.own(m:aW)(c:Nat):Prop:=m.fr c\/m.gT c
inductive fC (m:aW):a7->Value->Prop where
 |p {x:PV}{v:Value} (h:cU m.w m.own x v):fC m (.p x) v
 |bh {id g off:Nat} (a:Addr) (hg:g<=(m.blk id).1) (h:(m.blk id).1=g->(m.blk id).2.isSome->a=⟨m.σ id,off,none⟩):fC m (.bh id g off) (.pointer (some a))
 |dV {id g i off:Nat} (a:Addr) (hg:g<=(m.blk id).1) (h:∀sz,(m.blk id).1=g->kZ (m.blk id)=some sz->a=⟨m.σ id,i*sz+off,none⟩):fC m (.dV id g i off) (.pointer (some a))
 |hsl {id g z off len:Nat} (a:Addr) (cap:Nat) (hg:g<=(m.blk id).1) (hl:len<=cap) (hm:cap<=maxLen)
   (h:∀sz,(m.blk id).1=g->kZ (m.blk id)=some sz->sz=z/\(off=0\/0<len->a=⟨m.σ id,off*sz,none⟩)/\off+cap=m.κ id):
   fC m (.hsl id g z off len) (.slice (some a) len cap)
 |mN {id g:Nat} (r:Nat) (hg:g<=(m.blk id).1) (h:(m.blk id).1=g->(m.blk id).2.isSome->r=m.σ id):fC m (.mN id g) (.map (some r))
 |hfn {f:Nat}{a b:dY} (A B:Array Value) (ha:A.size=I a) (hb:B.size=I b)
   (w9:∀(j:Nat) (x:a7) (u:Value),a[j]?=some x->A[j]?=some u->fC m x u)
   (oF:∀(j:Nat) (x:a7) (u:Value),b[j]?=some x->B[j]?=some u->fC m x u):fC m (.hfn f a b) (.func (.func f) A B)
theorem fC.O6{m:aW}{x:a7}(h:fC m x v):v.oneCell':=by
 cases h with
 |p h=>exact h.O6
 |_=>rfl
theorem fC.cells{m:aW}{x:a7}(h:fC m x v):v.cells= #[v]:=by
 cases h with
 |p h=>exact h.cells
 |_=>rfl
def dU(m:aW)(D:dY)(F:List Value):Prop:=I F=I D/\ ∀(j:Nat) (x:a7) (u:Value),D[j]?=some x->F[j]?=some u->fC m x u
def dX(w:World)(own:Nat->Prop)(D:dF)(F:List Value):Prop:=I F=I D/\ ∀(j:Nat) (x:PV) (u:Value),D[j]?=some x->F[j]?=some u->cU w own x u
def oT(m:aW):V->Value->Prop
 | .undef,v=>v=undef
 | .one c,v=>fC m c v
 | .agg D,v=>∃arr,v=.agg arr/\dU m D arr.toList
 | .tup _,_=>False
def cS(m:aW):V->Value->Prop
 | .tup F,v=>∃arr,v=.tuple arr/\arr.size=I F/\ ∀(j:Nat) (x:V) (u:Value),F[j]?=some x->arr[j]?=some u->oT m x u
 |x,v=>oT m x v
def tF(m:aW)(id:Nat):fZ->Prop
 | .var D=>∃H L,m.w.heap[m.σ id]?=some (.cells H L (0,0))/\dU m D H.toList
 | .fvar D=>∃H L Y,m.w.heap[m.σ id]?=some (.cells H L Y)/\dX m.w m.own D H.toList/\ ¬m.own (m.σ id)
 | .arr L j A=>∃H,m.w.heap[m.σ id]?=some (.cells H L (0,0))/\0<j/\(∀e∈A,I e=j)/\I A<=m.κ id/\m.κ id<=maxLen/\H.size=m.κ id*j/\
   dX m.w m.own A.flatten (H.toList.take (I A*j))
 | .sE L j A=>∃H Y,m.w.heap[m.σ id]?=some (.cells H L Y)/\0<j/\(∀e∈A,I e=j)/\I A<=m.κ id/\m.κ id<=maxLen/\H.size=m.κ id*j/\
   dX m.w m.own A.flatten (H.toList.take (I A*j))/\ ¬m.own (m.σ id)
 | .kG L j A=>∃H,m.w.heap[m.σ id]?=some (.cells H L (0,0))/\0<j/\(∀e∈A,I e=j)/\I A<=m.κ id/\m.κ id<=maxLen/\H.size=m.κ id*j/\
   dU m A.flatten (H.toList.take (I A*j))
 | .map h A=>∃E f,m.w.heap[m.σ id]?=some (.map E f)/\E.size=I A/\
   ∀(i:Nat) (q:PV) (v:dF) (e:MapEntry),A[i]?=some (q,v)->E[i]?=some e->cU m.w m.own q e.key/\ ∃g:Array Value,(h->e.val=.agg g)/\(h=false-> #[e.val]=g)/\dX m.w m.own v g.toList
 | .fmap h A=>∃E f,m.w.heap[m.σ id]?=some (.map E f)/\E.size=I A/\
   (∀(i:Nat) (q:PV) (v:dF) (e:MapEntry),A[i]?=some (q,v)->E[i]?=some e->cU m.w m.own q e.key/\ ∃g:Array Value,(h->e.val=.agg g)/\(h=false-> #[e.val]=g)/\dX m.w m.own v g.toList)/\ ¬m.own (m.σ id)
structure dP (w0:World) (m:aW):Prop where
 os:m.w.os=w0.os
 tape:m.w.tape=w0.tape
 output:m.w.output=w0.output
 size:w0.heap.size<=m.w.heap.size
 base:∀c,c<w0.heap.size->m.w.heap[c]?=w0.heap[c]?
 obj:∀id o,(m.blk id).2=some o->tF m id o
 gh:∀id o,(m.blk id).2=some o->o.gT->w0.heap.size<=m.σ id/\ ¬m.fr (m.σ id)
 frlt:∀c,m.fr c->c<m.w.heap.size
 inj:∀id fV o o',(m.blk id).2=some o->o.gT->(m.blk fV).2=some o'->o'.gT->m.σ id=m.σ fV->id=fV
structure gy (m m':aW):Prop where
 os:m'.w.os=m.w.os
 tape:m'.w.tape=m.w.tape
 output:m'.w.output=m.w.output
 size:m.w.heap.size<=m'.w.heap.size
 keep:∀c,c<m.w.heap.size-> ¬m.gT c->m'.w.heap[c]?=m.w.heap[c]?
 gT:∀c,c<m.w.heap.size->m'.gT c->m.gT c
 less:∀c,c<m.w.heap.size-> ¬m.own c-> ¬m'.own c
 gen:∀id,(m.blk id).1<=(m'.blk id).1
 ref:∀id,(m'.blk id).1=(m.blk id).1->(m'.blk id).2.isSome->(m.blk id).2.isSome/\m'.σ id=m.σ id/\m'.κ id=m.κ id/\kZ (m'.blk id)=kZ (m.blk id)
theorem gy.refl(m:aW):gy m m:=⟨rfl,rfl,rfl,ct _,λ_ _ _=>rfl,λ_ _ h=>h,λ_ _ h=>h,λ_=>ct _,λ_ _ h=>⟨h,rfl,rfl,rfl⟩⟩
theorem gy.trans{a b c:aW}(h:gy a b)(k:gy b c):gy a c where
 os:=k.os.trans h.os
 tape:=k.tape.trans h.tape
 output:=k.output.trans h.output
 size:=nA h.size k.size
 keep x H hm:=(k.keep x (Ai H h.size) λj=>hm (h.gT x H j)).trans (h.keep x H hm)
 gT x H hm:=h.gT x H (k.gT x (Ai H h.size) hm)
 less x H m:=k.less x (Ai H h.size) (h.less x H m)
 gen id:=nA (h.gen id) (k.gen id)
 ref id v ae:=by
  have y:=h.gen id;have n:=k.gen id;obtain⟨f,E,z,u⟩:=k.ref id J ae;obtain _:=h.ref id J f
  grind
theorem gy.own{m M:aW}(h:gy m M):∀c,c<m.w.heap.size-> ¬m.own c->M.w.heap[c]?=m.w.heap[c]? /\ ¬M.own c:=λc H f=>⟨h.keep c H λhm=>f (.inr hm),h.less c H f⟩
theorem acG{x:Nat×Option fZ}(h:kZ x=some j):x.2.isSome:=by
 obtain⟨g,o⟩:=x;cases o with
 |none=>simp[kZ]at h
 |some o=>rfl
structure ux (m m':aW):Prop where
 own:∀c,c<m.w.heap.size-> ¬m.own c->m'.w.heap[c]?=m.w.heap[c]? /\ ¬m'.own c
 gen:∀id,(m.blk id).1<=(m'.blk id).1
 ref:∀id,(m'.blk id).1=(m.blk id).1->(m'.blk id).2.isSome->(m.blk id).2.isSome/\m'.σ id=m.σ id/\m'.κ id=m.κ id/\kZ (m'.blk id)=kZ (m.blk id)
theorem gy.zero{m M:aW}(h:gy m M):ux m M:=⟨h.own,h.gen,h.ref⟩
theorem cU.ev{m m':aW}(h:ux m m'){x:PV}(hr:cU m.w m.own x v):cU m'.w m'.own x v:=hr.mono h.own
theorem fC.ev{m m':aW}(h:ux m m'){x:a7}(hr:fC m x v):fC m' x v:=by
 induction hr with
 |p hp=>exact .p (hp.ev h)
 | @bh id g E a hg H=>
  have n:=h.gen id;refine .bh a J λD ae=>?_;obtain _:=h.ref id J ae
  grind
 | @dV id g i E a hg H=>
  have n:=h.gen id;refine .dV a J λj D ae=>?_;obtain _:=h.ref id J (acG ae)
  grind
 | @hsl id g z E len a O hg hl hm H=>
  have n:=h.gen id;refine .hsl a O J hl hm λj D ae=>?_;obtain _:=h.ref id J (acG ae)
  grind
 | @mN id g r hg hr=>
  have n:=h.gen id;refine .mN r J λD ae=>?_;obtain _:=h.ref id J ae
  grind
 |hfn A B H y _ _ u f=>exact .hfn A B H y u f
theorem dU.ev{m m':aW}(h:ux m m')(hr:dU m D F):dU m' D F:=⟨hr.1,λj x u a b=>(hr.2 j x u a b).ev h⟩
theorem dX.mono{w:World}{own:Nat->Prop}(h:∀c,c<w.heap.size-> ¬own c->M.heap[c]?=w.heap[c]? /\ ¬Bq c){D:dF}
  (hr:dX w own D F):dX M Bq D F:=⟨hr.1,λj x u a b=>(hr.2 j x u a b).mono h⟩
theorem dX.ev{m m':aW}(h:ux m m'){D:dF}(hr:dX m.w m.own D F):dX m'.w m'.own D F:=hr.mono h.own
theorem oT.ev{m m':aW}(h:ux m m'){x:V}(hr:oT m x v):oT m' x v:=by
 cases x with
 |undef=>exact hr
 |one c=>exact fC.ev h hr
 |agg D=>obtain⟨arr,e,H⟩:=hr;exact⟨arr,e,H.ev h⟩
 |tup F=>exact hr.elim
theorem cS.ev{m m':aW}(h:ux m m'){x:V}(hr:cS m x v):cS m' x v:=by
 cases x with
 |tup F=>obtain⟨arr,e,ae,H⟩:=hr;exact⟨arr,e,ae,λj x u a b=>(H j x u a b).ev h⟩
 |undef=>exact oT.ev (x:=.undef) h hr
 |one c=>exact oT.ev (x:=.one c) h hr
 |agg D=>exact oT.ev (x:=.agg D) h hr
theorem tF.ev{m m':aW}(h:ux m m'){id:Nat}{o:fZ}(ae:m'.σ id=m.σ id)(u:m'.κ id=m.κ id)(z:m'.w.heap[m.σ id]?=m.w.heap[m.σ id]?)
  (hr:tF m id o):tF m' id o:=by
 cases o with
 |var D=>obtain⟨H,L,a,b⟩:=hr;exact⟨H,L,by rw[ae,z];exact a,b.ev h⟩
 |fvar D=>obtain⟨H,L,Y,a,b,c⟩:=hr;exact⟨H,L,Y,by rw[ae,z];exact a,b.ev h,by rw[ae];exact(h.own _ (vR a) c).2⟩
 |arr L j A=>obtain⟨H,a,b,c,d,e,f,g⟩:=hr;exact⟨H,by rw[ae,z];exact a,b,c,by rw[u];exact d,by rw[u];exact e,by rw[u];exact f,g.ev h⟩
 |sE L j A=>obtain⟨H,Y,a,b,c,d,e,f,g,i⟩:=hr;exact⟨H,Y,by rw[ae,z];exact a,b,c,by rw[u];exact d,by rw[u];exact e,by rw[u];exact f,g.ev h,by rw[ae];exact(h.own _ (vR a) i).2⟩
 |kG L j A=>obtain⟨H,a,b,c,d,e,f,g⟩:=hr;exact⟨H,by rw[ae,z];exact a,b,c,by rw[u];exact d,by rw[u];exact e,by rw[u];exact f,g.ev h⟩
 |map B A=>obtain⟨E,n,a,b,c⟩:=hr;exact⟨E,n,by rw[ae,z];exact a,b,λi q v e x y=>let ⟨p,g,g1,g2,g3⟩:=c i q v e x y;⟨p.ev h,g,g1,g2,g3.ev h⟩⟩
 |fmap B A=>obtain⟨E,n,a,b,c,d⟩:=hr;exact⟨E,n,by rw[ae,z];exact a,b,λi q v e x y=>let ⟨p,g,g1,g2,g3⟩:=c i q v e x y;⟨p.ev h,g,g1,g2,g3.ev h⟩,by rw[ae];exact(h.own _ (vR a) d).2⟩
theorem tF.lt{m:aW}{id:Nat}{o:fZ}(hr:tF m id o):m.σ id<m.w.heap.size:=by
 cases o with
 |var D=>obtain⟨H,L,a,_⟩:=hr;exact vR a
 |fvar D=>obtain⟨H,L,Y,a,_⟩:=hr;exact vR a
 |arr L j A=>obtain⟨H,a,_⟩:=hr;exact vR a
 |sE L j A=>obtain⟨H,Y,a,_⟩:=hr;exact vR a
 |kG L j A=>obtain⟨H,a,_⟩:=hr;exact vR a
 |map h A=>obtain⟨E,f,a,_⟩:=hr;exact vR a
 |fmap h A=>obtain⟨E,f,a,_⟩:=hr;exact vR a
theorem tF.calm{m:aW}{id:Nat}{o:fZ}(hr:tF m id o)(ho:o.gT=false):¬m.own (m.σ id):=by
 cases o with
 |fvar D=>obtain⟨H,L,Y,_,_,c⟩:=hr;exact c
 |sE L j A=>obtain⟨H,Y,_,_,_,_,_,_,_,c⟩:=hr;exact c
 |fmap f A=>obtain⟨_,_,_,_,_,c⟩:=hr;exact c
 |_=>simp[fZ.gT]at ho
end
variable{m:aW}
variable {T:World}
section
variable{m:aW}
structure iX (w w':World):Prop where
 os:w'.os=w.os
 tape:w'.tape=w.tape
 output:w'.output=w.output
 size:w.heap.size<=w'.heap.size
 keep:∀c,c<w.heap.size->w'.heap[c]?=w.heap[c]?
theorem iX.refl(w:World):iX w w:=⟨rfl,rfl,rfl,ct _,λ_ _=>rfl⟩
theorem iX.trans{a b c:World}(h:iX a b)(k:iX b c):iX a c:=
 ⟨k.os.trans h.os,k.tape.trans h.tape,k.output.trans h.output,nA h.size k.size,λx H=>(k.keep x (Ai H h.size)).trans (h.keep x H)⟩
theorem iX.alloc(w:World)(o:Obj):iX w (w.alloc o):=⟨rfl,rfl,rfl,aH,λ_ h=>heap_alloc_old w o h⟩
theorem iX.drew(w:World):iX w w.drew:=⟨rfl,rfl,rfl,ct _,λ_ _=>rfl⟩
def aW.later(m:aW)(M:World)(X:Nat->Prop):aW:={m with w:=M,fr:=λc=>m.fr c\/X c}
theorem aiA{X:Nat->Prop}{c:Nat}:(m.later M X).own c↔m.own c\/X c:=by
 unfold aW.own aW.gT aW.later
 grind
theorem GK{M:World}{X:Nat->Prop}(hg:iX m.w M)(f:∀c,X c->m.w.heap.size<=c):gy m (m.later M X) where
 os:=hg.os
 tape:=hg.tape
 output:=hg.output
 size:=hg.size
 keep c H _:=hg.keep c H
 gT c _ h:=h
 less c H j h:=by
  rcases aiA.1 h with h|h
  .exact j h
  have:=f c h;omega
 gen _:=ct _
 ref _ _ ae:=⟨ae,rfl,rfl,rfl⟩
theorem Lo{M:World}{X:Nat->Prop}(h:dP T m)(hg:iX m.w M)(f:∀c,X c->m.w.heap.size<=c/\c<M.heap.size):dP T (m.later M X) where
 os:=hg.os.trans h.os
 tape:=hg.tape.trans h.tape
 output:=hg.output.trans h.output
 size:=nA h.size hg.size
 base c H:=(hg.keep c (Ai H h.size)).trans (h.base c H)
 obj id o ho:=(h.obj id o ho).ev (GK hg λc H=>(f c H).1).zero rfl rfl (hg.keep _ (h.obj id o ho).lt)
 gh id o ho hm:=by
  refine⟨(h.gh id o ho hm).1,?_⟩;rintro(hf|j)
  .exact(h.gh id o ho hm).2 hf
  have n:=(f _ j).1;have u:=(h.obj id o ho).lt;simp[aW.later]at n;omega
 frlt c H:=by
  rcases H with hf|j
  .exact Ai (h.frlt c hf) hg.size
  exact(f c j).2
 inj:=h.inj
def aW.install(m:aW)(s c k:Nat)(o:fZ):aW:=⟨m.w,dN m.blk s ((m.blk s).1+1,some o),dN m.σ s c,dN m.κ s k,λx=>m.fr x/\x≠c⟩
theorem af3{s c k:Nat}{o:fZ}{x:Nat}(h:(m.install s c k o).gT x):x=c\/m.gT x:=by
 obtain⟨id,O,ho,hm,f⟩:=h;simp[aW.install,ba]at ho f;by_cases H:id=s
 .grind
 simp[H,if_false]at ho f;exact .inr ⟨id,O,ho,hm,f⟩
theorem PO{s c k:Nat}{o:fZ}(H:m.fr c){x:Nat}(h:(m.install s c k o).own x):m.own x:=by
 rcases h with h|h
 .exact .inl h.1
 rcases af3 h with rfl|h
 .exact .inl H
 exact .inr h
theorem OY{M:aW}{s c k:Nat}{o:fZ}(h:gy m M)(n:M.fr c)(u:m.w.heap.size<=c\/m.gT c):gy m (M.install s c k o) where
 os:=h.os
 tape:=h.tape
 output:=h.output
 size:=h.size
 keep:=h.keep
 gT x H hm:=by
  rcases af3 hm with rfl|hm
  .grind
  exact h.gT x H hm
 less x H E hm:=h.less x H E (PO n hm)
 gen id:=by
  simp[aW.install,ba];have:=h.gen id
  grind
 ref id f ae:=by
  have hg:=h.gen id;simp[aW.install,ba]at f ae |-;by_cases j:id=s
  .grind
  simp[j,if_false]at f ae |-;exact h.ref id f ae
theorem R1{s c k:Nat}{o:fZ}(h:dP T m)(v:m.fr c)(D:T.heap.size<=c)(ho:tF (m.install s c k o) s o):dP T (m.install s c k o):=by
 have B:∀x,x<m.w.heap.size-> ¬m.own x->(m.install s c k o).w.heap[x]?=m.w.heap[x]? /\ ¬(m.install s c k o).own x:=λx _ N=>⟨rfl,λh=>N (PO v h)⟩
 have E:ux m (m.install s c k o):=by
  refine⟨B,λid=>?_,λid f ae=>?_⟩
  .simp only[aW.install,ba]
   grind
  simp only[aW.install,ba]at f ae |-
  grind
 exact{
  os:=h.os
  tape:=h.tape
  output:=h.output
  size:=h.size
  base:=h.base
  obj:=by
   intro id u O;by_cases H:id=s
   .subst H;simp only[aW.install,ba,if_true,gW]at O;exact O▸ho
   simp only[aW.install,ba,H,if_false]at O;exact(h.obj id u O).ev E (by simp[aW.install,ba,H]) (by simp[aW.install,ba,H]) rfl
  gh:=by
   intro id u O hm;by_cases H:id=s
   .subst H;simp only[aW.install,ba,if_true];exact⟨D,λh=>h.2 rfl⟩
   simp only[aW.install,ba,H,if_false]at O |-;exact⟨(h.gh id u O hm).1,λhf=>(h.gh id u O hm).2 hf.1⟩
  frlt:=λx L=>h.frlt x L.1
  inj:=by
   intro id F z y n A j M f;by_cases H:id=s<;>by_cases Q:F=s
   .rw[H,Q]
   .subst H;simp only[aW.install,ba,Q,if_true,if_false]at j f;exact((h.gh F y j M).2 (f▸v)).elim
   .subst Q;simp only[aW.install,ba,H,if_true,if_false]at n f;exact((h.gh id z n A).2 (f.symm▸v)).elim
   simp only[aW.install,ba,H,Q,if_false]at n j f;exact h.inj id F z y n A j M f}
def aW.qf(m:aW)(id:Nat):aW:=⟨m.w,dN m.blk id ((m.blk id).1,none),m.σ,m.κ,λc=>m.fr c\/c=m.σ id⟩
theorem avC{id:Nat}{o:fZ}(ho:(m.blk id).2=some o)(hm:o.gT){x:Nat}(h:(m.qf id).own x):m.own x:=by
 rcases h with(h|h)|⟨F,O,f,n,j⟩
 .exact .inl h
 .exact .inr ⟨id,o,ho,hm,h.symm⟩
 simp[aW.qf,ba]at f j;by_cases H:F=id
 .simp[H]at f
 simp[H,if_false]at f;exact .inr ⟨F,O,f,n,j⟩
theorem JR{id:Nat}{o:fZ}(ho:(m.blk id).2=some o)(hm:o.gT):gy m (m.qf id) where
 os:=rfl
 tape:=rfl
 output:=rfl
 size:=ct _
 keep _ _ _:=rfl
 gT x _ h:=by
  obtain⟨f,O,j,v,n⟩:=h;simp[aW.qf,ba]at j n;by_cases H:f=id
  .simp[H]at j
  simp[H,if_false]at j;exact⟨f,O,j,v,n⟩
 less x _ y h:=y (avC ho hm h)
 gen f:=by
  simp[aW.qf,ba]
  grind
 ref f u ae:=by
  simp[aW.qf,ba]at u ae |-
  grind
theorem abM{id:Nat}{o:fZ}(h:dP T m)(ho:(m.blk id).2=some o)(hm:o.gT):dP T (m.qf id) where
 os:=h.os
 tape:=h.tape
 output:=h.output
 size:=h.size
 base:=h.base
 obj F O f:=by
  simp[aW.qf,ba]at f;by_cases H:F=id
  .simp[H]at f
  simp[H,if_false]at f;exact(h.obj F O f).ev (JR ho hm).zero rfl rfl rfl
 gh F O f j:=by
  simp only[aW.qf,ba]at f |-;by_cases H:F=id
  .simp[H]at f
  simp[H,if_false]at f;refine⟨(h.gh F O f j).1,?_⟩;rintro(hf|hf)
  .exact(h.gh F O f j).2 hf
  exact H (h.inj F id O o f j ho hm hf)
 frlt c x:=by
  rcases x with hf|rfl
  .exact h.frlt c hf
  exact(h.obj id o ho).lt
 inj xl yD y v f u j M n:=by
  simp[aW.qf,ba]at f j n;by_cases H:xl=id
  .simp[H]at f
  by_cases Q:yD=id
  .simp[Q]at j
  simp[H,Q,if_false]at f j;exact h.inj xl yD y v f u j M n
def aW.jE(m:aW)(M:World)(id:Nat)(o:fZ):aW:=⟨M,dN m.blk id ((m.blk id).1,some o),m.σ,m.κ,m.fr⟩
section
variable {m:aW} {M:World} {id:Nat} {o old:fZ} (ho:(m.blk id).2=some old) (hm:old.gT)
include ho hm
theorem auS{x:Nat}(h:(m.jE M id o).own x):m.own x:=by
 rcases h with h|⟨F,O,f,n,j⟩
 .exact .inl h
 simp[aW.jE,ba]at f j;by_cases H:F=id
 .exact .inr ⟨id,old,ho,hm,H▸j⟩
 simp[H,if_false]at f;exact .inr ⟨F,O,f,n,j⟩
theorem GS(F:kZ ((m.blk id).1,some o)=kZ ((m.blk id).1,some old))(A:M.os=m.w.os)(y:M.tape=m.w.tape)(O:M.output=m.w.output)(ae:M.heap.size=m.w.heap.size)
  (B:∀c,c≠m.σ id->M.heap[c]?=m.w.heap[c]?):gy m (m.jE M id o) where
 os:=A
 tape:=y
 output:=O
 size:=yV ae.symm
 keep c _ n:=B c λe=>n ⟨id,old,ho,hm,e.symm⟩
 gT x _ h:=by
  obtain⟨f,z,u,v,j⟩:=h;simp[aW.jE,ba]at u j;by_cases H:f=id
  .exact⟨id,old,ho,hm,H▸j⟩
  simp[H,if_false]at u;exact⟨f,z,u,v,j⟩
 less x _ n h:=n (auS ho hm h)
 gen f:=by
  simp[aW.jE,ba]
  grind
 ref f D E:=by
  simp[aW.jE,ba]at D E |-
  grind
theorem LQ(h:dP T m)(x:kZ ((m.blk id).1,some o)=kZ ((m.blk id).1,some old))(E:M.os=m.w.os)(B:M.tape=m.w.tape)(y:M.output=m.w.output)(ae:M.heap.size=m.w.heap.size)
  (u:∀c,c≠m.σ id->M.heap[c]?=m.w.heap[c]?) (R:tF (m.jE M id o) id o):dP T (m.jE M id o) where
 os:=E.trans h.os
 tape:=B.trans h.tape
 output:=y.trans h.output
 size:=nA h.size (yV ae.symm)
 base c v:=by have:=(h.gh id old ho hm).1;exact(u c J).trans (h.base c v)
 obj F O f:=by
  simp[aW.jE,ba]at f;by_cases H:F=id
  .grind
  simp[H,if_false]at f;refine(h.obj F O f).ev (GS ho hm x E B y ae u).zero rfl rfl (u _ λe=>?_);cases z:O.gT with
  |true=>exact H (h.inj F id O old f z ho hm e)
  |false=>exact(h.obj F O f).calm z (.inr ⟨id,old,ho,hm,e.symm⟩)
 gh F O f j:=by
  simp[aW.jE,ba]at f |-;by_cases H:F=id
  .subst H;exact h.gh F old ho hm
  simp[H,if_false]at f;exact h.gh F O f j
 frlt c v:=by rw[show(m.jE M id o).w.heap.size=m.w.heap.size from ae];exact h.frlt c v
 inj xl yD N L f D j A n:=by
  simp[aW.jE,ba]at f j n;by_cases H:xl=id<;>by_cases Q:yD=id
  .rw[H,Q]
  .simp[Q,if_false]at j;exact H▸h.inj id yD old L ho hm j A (H▸n)
  .simp[H,if_false]at f;exact Q▸h.inj xl id N old f D ho hm (Q▸n)
  simp[H,Q,if_false]at f j;exact h.inj xl yD N L f D j A n
end
end
def K0:Value->Option PV
 | .bool b=>some (.bool b)
 | .int k n=>some (.int k n)
 | .string s=>some (.str s)
 | .pointer none=>some .yH
 | .slice none 0 0=>some .nils
 | .map none=>some .rU
 | .nilFunc=>some .xx
 | .nilIface=>some .nili
 |_=>none
def Jw:List Value->Option dF
 |[]=>some []
 |v::r=>match K0 v,Jw r with
  |some x,some N=>some (x::N)
  |_,_=>none
def ZC:Value->Option V
 | .agg D=>(Jw D.toList).map λl=>.agg (l.map .p)
 |v=>(K0 v).map λx=>.one (.p x)
def c8:Operand->Option eX
 | .tmp t=>some (.t t)
 | .const (.int .i64 n)=>some (.i n)
 | .const (.bool b)=>some (.b b)
 | .const v=>(ZC v).map .k
 | .func f=>some (.k (.one (.p (.fn f [] []))))
 | .global _=>none
def qk:List Operand->Option sG
 |[]=>some []
 |a::r=>match c8 a,qk r with
  |some x,some N=>some (x::N)
  |_,_=>none
def xH:Option Operand->Option (Option eX)
 |none=>some none
 |some a=>(c8 a).map some
def zp(P:Program)(t:TypeId):Option dF:=
 match P.info? t with
 |some i=>match i.zero with
  |some (.agg D)=>if D.size=i.size then Jw D.toList else none
  |some v=>if i.size=1 then(K0 v).map λx=>[x]else none
  |none=>none
 |none=>none
def qW(P:Program)(t:TypeId):Option dZ:=
 match P.underlying t,P.info? t with
 |some (.struct _),some i=>some (some i.size)
 |some (.array _ _),some i=>some (some i.size)
 |some _,some i=>if i.size=1 then some none else none
 |_,_=>none
def wP(P:Program)(t:TypeId):dZ:=(P.info? t).map (·.size)
def Cs(place:Nat->Option (Nat×Nat))(z:Nat):List (Nat×Operand)->Option (List (Nat×Nat×eX))
 |[]=>some []
 |(i,x)::r=>match place i,c8 x,Cs place z r with
  |some (E,n),some a,some q=>if E+n<=z then some ((E,n,a)::q)else none
  |_,_,_=>none
def JS:Nat->List (Nat×Operand)->Option sG
 |_,[]=>some []
 |k,(i,x)::r=>match c8 x,JS (k+1) r with
  |some a,some q=>if i=k then some (a::q)else none
  |_,_=>none
def Qz(P:Program)(t:TypeId):Option Bool:=
 match P.underlying t with
 |some (.int _)=>some true
 |some .bool=>some false
 |_=>none
def JK(P:Program):Nat->List Field->Option fT
 |_,[]=>some []
 |k,f::r=>match Qz P f.type,JK P (k+1) r with
  |some b,some B=>if f.offset=k/\f.name≠ "_" then some (b::B)else none
  |_,_=>none
def IH:Operand->Bool
 | .const .nilIface=>true
 |_=>false
def MO(P:Program)(t:TypeId)(x y:Operand):Option xF:=
 match P.underlying t with
 |some (.interface _)=>if IH x||IH y then some .ifc else none
 |some .bool=>some .bool
 |some (.pointer _)=>some .ptr
 |some (.slice _)=>some .slc
 |some (.map _ _)=>some .map
 |some (.func _ _ _)=>some .fnc
 |some (.struct fs)=>if !P.stoodInHeld t&& !P.eqGuardType P.depth t then(JK P 0 fs.toList).map .str else none
 |_=>none
def AG(P:Program)(t:TypeId):Option (TypeId×Nat×Nat×dF):=
 match P.underlying t with
 |some (.slice e)=>match P.info? e,zp P e with
  |some i,some z=>if 0<i.size/\0<i.bytes then some (e,i.size,i.bytes,z)else none
  |_,_=>none
 |_=>none
def keyOf(P:Program)(k:TypeId):dZ:=
 match P.underlying k with
 |some (.int _)=>some 0
 |some .string=>some 1
 |some .bool=>some 2
 |_=>none
def Qr(P:Program)(t:TypeId):Bool:=
 match P.info? t with
 |some i=>match i.zero with
  |some (.agg _)=>true
  |_=>false
 |none=>false
def Gq(P:Program)(A:Nat)(o:Oper):Option r_:=
 match o.op with
 | .move x=>(c8 x).map .OX
 | .assign x=>(c8 x).map .OX
 | .pick c a b=>match c8 c,c8 a,c8 b with
  |some c,some a,some b=>some (.pick c a b)
  |_,_,_=>none
 | .alloc t=>(zp P t).map (.alloc A)
 | .box _ x=>(c8 x).map (.box A)
 | .build t ps=>match P.underlying t,zp P t with
  |some (.struct fs),some z=>if fs.all λf=>(P.info? f.type).isSome then
    (Cs (λi=>(fs[i]?).map λf=>(f.offset,P.cellsOf f.type)) (I z) ps.toList).map (.build z)
   else none
  |some (.array _ e),some z=>match P.info? e with
   |some i=>(Cs (λk=>some (k*i.size,i.size)) (I z) ps.toList).map (.build z)
   |none=>none
  |_,_=>none
 | .buildSlice t n ps=>match AG P t,JS 0 ps.toList with
  |some (e,j,_,_),some as=>if I as=n/\n*j<=16777216 then some (.MK A e j as)else none
  |_,_=>none
 | .load t a=>match qW P t,c8 a with
  |some k,some a=>some (.load k a)
  |_,_=>none
 | .store t a x=>match wP P t,c8 a,c8 x with
  |some n,some a,some x=>some (.store n a x)
  |_,_,_=>none
 | .nilCheck x=>(c8 x).map .O1
 | .binOp op t x y _=>match c8 x,c8 y with
  |some a,some b=>match P.underlying t with
   |some (.int _)=>some (.bin op a b)
   |some .string=>some (.bin op a b)
   |_=>match op,MO P t x y with
    | .eql,some k=>some (.eqc k false a b)
    | .neq,some k=>some (.eqc k true a b)
    |_,_=>none
  |_,_=>none
 | .unOp op _ x=>match op with
  | .not=>(c8 x).map (.un .not)
  | .neg=>(c8 x).map (.un .neg)
  |_=>none
 | .convert s d x=>match P.underlying s,P.underlying d,c8 x with
  |some (.int _),some (.int k),some a=>some (.conv k a)
  |some (.slice e),some .string,some a=>match P.underlying e with
   |some (.int .u8)=>some (.bstr a)
   |_=>none
  |_,_,_=>none
 | .makeFunc (.func f) a b=>match qk a.toList,qk b.toList with
  |some x,some y=>some (.mkfn f x y)
  |_,_=>none
 | .makeMap t none=>match P.underlying t with
  |some (.map _ e)=>(qW P e).map λk=>.mkmap A k.isSome
  |_=>none
 | .makeSlice t l c=>match AG P t,c8 l,c8 c with
  |some (e,j,bytes,z),some l,some c=>some (.OW A e j bytes z l c)
  |_,_,_=>none
 | .slice t x lo H none=>match c8 x,xH lo,xH H with
  |some a,some l,some h=>match P.underlying t with
   |some (.slice e)=>(wP P e).map λj=>.slice j a l h
   |some .string=>some (.sslice a l h)
   |_=>none
  |_,_,_=>none
 | .fieldAddr s x f=>match P.underlying s,c8 x with
  |some (.struct fs),some a=>match fs[f]? with
   |some d=>if P.cellsOf d.type≠0 then some (.Nf d.offset a)else none
   |none=>none
  |_,_=>none
 | .field t x f=>match P.underlying t,c8 x with
  |some (.struct fs),some a=>match fs[f]? with
   |some d=>(qW P d.type).map λk=>.fld d.offset k a
   |none=>none
  |_,_=>none
 | .indexAddr t x i=>match c8 x,c8 i with
  |some a,some b=>match P.underlying t with
   |some (.slice e)=>(wP P e).map λj=>.OC j a b
   |some (.array n e)=>(wP P e).map λj=>.Mx n j a b
   |_=>none
  |_,_=>none
 | .index t x i=>match c8 x,c8 i with
  |some a,some b=>match P.underlying t with
   |some (.array n e)=>match wP P e,qW P e with
    |some j,some k=>some (.aidx n j k a b)
    |_,_=>none
   |some .string=>some (.sidx a b)
   |_=>none
  |_,_=>none
 | .lookup t x k ok=>match P.underlying t,c8 x,c8 k with
  |some (.map B e),some a,some b=>match zp P e,qW P e with
   |some z,some q=>match keyOf P B with
    |some kd=>if Qr P e=q.isSome then some (.lookup kd z q.isSome ok a b)else none
    |none=>none
   |_,_=>none
  |_,_,_=>none
 | .mapUpdate t m k v=>match P.underlying t,c8 m,c8 k,c8 v with
  |some (.map B e),some a,some b,some c=>match qW P e with
   |some q=>(keyOf P B).map λkd=>.mupd kd q.isSome a b c
   |none=>none
  |_,_,_,_=>none
 | .insert t m k v=>match P.underlying t,c8 m,c8 k,c8 v with
  |some (.map B e),some a,some b,some c=>match qW P e with
   |some q=>(keyOf P B).map λkd=>.mupd kd q.isSome a b c
   |none=>none
  |_,_,_,_=>none
 | .extract x i=>(c8 x).map λa=>.extract a i
 | .call c=>match c.callee,qk c.args.toList with
  | .value f,some as=>(c8 f).map λg=>.call A g as
  | .builtin .len,some [a]=>match c.argTypes[0]? with
   |some t=>match P.underlying t with
    |some .string=>some (.slen a)
    |some (.slice _)=>some (.Sx a)
    |some (.map _ _)=>some (.mlen a)
    |_=>none
   |none=>none
  | .builtin .append,some [a,b]=>match c.argTypes[0]?,c.argTypes[1]? with
   |some t,some u=>match AG P t with
    |some (e,j,bytes,_)=>if t=u/\c.argTypes.size=2 then some (.append A e j bytes a b)else none
    |none=>none
   |_,_=>none
  | .builtin .max,some [a,b]=>some (.max a b)
  | .builtin .min,some [a,b]=>some (.min a b)
  | .builtin .clear,some [a]=>match c.argTypes[0]? with
   |some t=>(AG P t).map λq=>.clear q.2.2.2 a
   |none=>none
  |_,_=>none
 |_=>none
def eX.tmps:eX->aC
 | .t n=>[n]
 |_=>[]
def Es:sG->aC
 |[]=>[]
 |a::r=>a.tmps++Es r
def XN:Option eX->aC
 |some a=>a.tmps
 |none=>[]
def YY:List (Nat×Nat×eX)->aC
 |[]=>[]
 |(_,_,a)::r=>a.tmps++YY r
def r_.tmps:r_->aC
 | .OX x| .box _ x| .load _ x| .O1 x| .un _ x| .conv _ x| .bstr x| .Nf _ x| .fld _ _ x| .extract x _| .slen x| .Sx x| .mlen x| .clear _ x=>x.tmps
 | .pick c a b=>c.tmps++a.tmps++b.tmps
 | .alloc _ _| .mkmap _ _| .bad=>[]
 | .build _ ps=>YY ps
 | .MK _ _ _ ps=>Es ps
 | .store _ a x| .bin _ a x| .eqc _ _ a x| .OC _ a x| .Mx _ _ a x| .aidx _ _ _ a x| .sidx a x| .lookup _ _ _ _ a x| .append _ _ _ _ a x| .max a x| .min a x=>a.tmps++x.tmps
 | .mkfn _ a b=>Es a++Es b
 | .OW _ _ _ _ _ a b=>a.tmps++b.tmps
 | .slice _ x a b| .sslice x a b=>x.tmps++XN a++XN b
 | .mupd _ _ a b c=>a.tmps++b.tmps++c.tmps
 | .call _ f as=>f.tmps++Es as
def kE.IK(o:kE):aC:=
 o.op.tmps++match o.guard with
  |some (t,_)=>[t]
  |none=>[]
def E5(a b:kE):Bool:=
 (match a.dst with
  |some d=> !b.IK.contains d&&b.dst !=some d
  |none=>true)&&
 (match b.dst with
  |some d=> !a.IK.contains d
  |none=>true)
def R7(o:kE):Nat->fm->Bool
 |_,[]=>true
 |j,x::r=>(o.anc.testBit j||E5 x o)&&R7 o (j+1) r
def LG:fm->fm->Bool
 |[],_=>true
 |o::os,f=>R7 o 0 f&&LG os (f++[o])
def JY(P:Program)(f:Nat)(o:Oper):r_:=(Gq P f o).getD .bad
def ahk(n:Nat):dZ->Bool
 |some d=>decide (d<n)
 |none=>true
def XB(dst:Nat->dZ):Option (Nat×Bool)->Option (Option (Nat×Bool))
 |none=>some none
 |some (j,w)=>(dst j).map λt=>some (t,w)
def D6(P:Program)(dst:Nat->dZ)(base n:Nat)(anc:Nat)(o:Oper):Option kE:=if ahk n o.dst then(XB dst o.guard).map λg=>⟨o.dst,JY P base o,g,anc⟩else none
def xk(P:Program)(dst anc:Nat->dZ)(base n:Nat):Nat->List Oper->Option fm
 |_,[]=>some []
 |i,o::r=>match D6 P dst ((base+i)*64) n ((anc i).getD 0) o,xk P dst anc base n (i+1) r with
  |some x,some N=>some (x::N)
  |_,_=>none
def G5(ops:Array Oper):Bool:=(List.range ops.size).all λi=>match ops[i]? with
 |some o=>o.after.toList.all λe=> !Region.binds .any e||decide (e.on<i)
 |none=>true
def pI(P:Program)(f n:Nat):Code->Option aQ
 | .skip=>some .skip
 | .region id ops D=>
  let b:=if D then Region.before ops else #[]
  match xk P (λj=>(ops[j]?).bind (·.dst)) (λi=>b[i]?) ((f*1000+id)*1000) n 0 ops.toList with
  |some N=>if D then(if G5 ops&&LG N []then some (.region true N)else none)else some (.region false N)
  |none=>none
 | .seq a b=>match pI P f n a,pI P f n b with
  |some x,some y=>some (.seq x y)
  |_,_=>none
 | .cond c a b=>match c8 c,pI P f n a,pI P f n b with
  |some c,some x,some y=>some (.cond c x y)
  |_,_,_=>none
 | .block id c=>(pI P f n c).map (.block id)
 | .loop c=>(pI P f n c).map .loop
 | .exit id=>some (.exit id)
 | .scope c=>pI P f n c
 | .label _=>some .skip
 | .ret=>some .ret
 |_=>some .bad
def A8(P:Program):List ResultVar->Option (List (Nat×Option dZ))
 |[]=>some []
 | .tmp t::r=>(A8 P r).map ((t,none):: ·)
 | .cell t L::r=>match qW P L,A8 P r with
  |some k,some q=>some ((t,some k)::q)
  |_,_=>none
def DF(P:Program)(f:Nat):Option aV:=
 match P.funcs[f]? with
 |none=>none
 |some fn=>match fn.body with
  |none=>none
  |some c=>if fn.name== "runtime.NumGoroutine" then none else
   match pI P f fn.ntmps c,A8 P fn.results.toList with
   |some b,some r=>some ⟨fn.ntmps,r,b⟩
   |_,_=>none
variable {P:Program} {T:World}
section
variable{m:aW}{v:Value}
def jN(m:aW)(B:bj)(tmps:Array Value):Prop:=∀t,cS m (B t) (tmps.getD t undef)
theorem jN.ev{m':aW}(h:gy m m'){B:bj}{tmps:Array Value}(hr:jN m B tmps):jN m' B tmps:=λt=>(hr t).ev h.zero
theorem cS.one{c:a7}:cS m (.one c) v↔fC m c v:=Iff.rfl
theorem cS.agg:cS m (.agg D) v↔ ∃arr,v=.agg arr/\dU m D arr.toList:=Iff.rfl
theorem cS.of1{x:V}(h:oT m x v):cS m x v:=by
 cases x with
 |tup F=>exact h.elim
 |_=>exact h
theorem X0{w:World}{own:Nat->Prop}{x:PV}(h:K0 v=some x):cU w own x v:=by
 unfold K0 at h;split at h<;>first
  |(cases h;constructor;done)
  |cases h
theorem afz{w:World}{own:Nat->Prop}:∀ {F:List Value}{N:dF},Jw F=some N->dX w own N F:=by
 intro F
 induction F with
 |nil=>intro N h;simp[Jw]at h;subst h;exact⟨rfl,λj x u a _=>by simp at a⟩
 |cons v r f=>
  intro N h;simp[Jw]at h;split at h
  .rename_i x y m H;cases h;obtain⟨hl,hr⟩:=f H;refine⟨by simp[hl],λj z u a b=>?_⟩;cases j with
   |zero=>simp at a b;subst a b;exact X0 m
   |succ j=>simp at a b;exact hr j z u a b
  cases h
theorem dX.ER(h:dX m.w m.own N F):dU m (N.map .p) F:=by refine⟨by simp[h.1],λj x u a b=>?_⟩;simp at a;obtain⟨y,H,rfl⟩:=a;exact .p (h.2 j y u H b)
theorem awl{x:V}(h:ZC v=some x):cS m x v:=by
 unfold ZC at h;split at h
 .simp at h;obtain⟨N,H,rfl⟩:=h;exact cS.agg.2 ⟨_,rfl,(afz H).ER⟩
 simp at h;obtain⟨y,H,rfl⟩:=h;exact cS.one.2 (.p (X0 H))
theorem fD{B:bj}{a:Act}(h:c8 x=some y)(hr:jN m B a.tmps):cS m (ev B y) (a.eval x):=by
 unfold c8 at h;split at h
 .cases h;exact hr _
 .cases h;exact cS.one.2 (.p (.int _ _))
 .cases h;exact cS.one.2 (.p (.bool _))
 .simp at h;obtain⟨v,H,rfl⟩:=h;exact awl H
 .cases h;exact cS.one.2 (.p (.fn #[] #[] rfl rfl (λj x u a=>by simp at a) (λj x u a=>by simp at a)))
 cases h
def ayi(P:Program)(ρ:Operand->Value)(o:Oper)(w:World)(x:Value)(M:World):Prop:=
 (execOp ρ o).run P w=.ok (.value x) M\/((execOp ρ o).run P w=.ok .skip M/\x=undef)
def gN(P:Program)(T:World)(ρ:Operand->Value)(o:Oper)(m:aW)(v:V)(u:jU):Prop:=∃x M,ayi P ρ o m.w x M.w/\dP T M/\gy m M/\M.fr=m.fr/\M.blk=app u m.blk/\cS M v x
theorem gN.calm{ρ:Operand->Value}{o:Oper}{v:V}{x:Value}(h:dP T m)(Q:(execOp ρ o).run P m.w=.ok (.value x) m.w)(H:cS m v x):gN P T ρ o m v []:=
 ⟨x,m,.inl Q,h,gy.refl m,rfl,rfl,H⟩
section
variable {m:aW} {B:bj} {a:Act} {o:Oper} (aD:dP T m) (hr:jN m B a.tmps)
include aD hr
theorem abi(ho:o.op=.move x\/o.op=.assign x)(h:c8 x=some y):gN P T a.eval o m (ev B y) []:=
 .calm aD (by rcases ho with ho|ho<;>simp[execOp,ho]) (fD h hr)
theorem apx{c y:Operand}{t:Bool}(ho:o.op=.pick c x y)(n:c8 c=some c')(u:c8 x=some Z)(H:c8 y=some y')
  (f:ev B c'=.one (.p (.bool t))):gN P T a.eval o m (if t then ev B Z else ev B y') []:=by
 have h:=fD n hr;rw[f]at h;obtain⟨⟩:fC m _ _:=h;rename_i hp;generalize j:a.eval c=b at hp;cases hp;refine .calm (x:=if t then a.eval x else a.eval y) aD ?_ ?_
 .simp[execOp,ho,j,asBool]
 cases t
 .exact fD H hr
 exact fD u hr
end
theorem Dp{b:Bool}(h:cS m (.one (.p (.bool b))) v):v=.bool b:=by obtain⟨hp⟩:fC m _ v:=h;cases hp;rfl
theorem Bm{k:IntKind}{n:Int}(h:cS m (.one (.p (.int k n))) v):v=.int k n:=by obtain⟨hp⟩:fC m _ v:=h;cases hp;rfl
theorem Ku{s:ByteArray}(h:cS m (.one (.p (.str s))) v):v=.string s:=by obtain⟨hp⟩:fC m _ v:=h;cases hp;rfl
theorem SC(h:cS m (.one (.p .nils)) v):v=.slice none 0 0:=by obtain⟨hp⟩:fC m _ v:=h;cases hp;rfl
theorem awE(h:cS m (.one (.p .zs)) v):∃a,v=.slice a 0 0:=by obtain⟨hp⟩:fC m _ v:=h;cases hp;exact⟨_,rfl⟩
theorem afs(h:cS m (.one (.p .rU)) v):v=.map none:=by obtain⟨hp⟩:fC m _ v:=h;cases hp;rfl
theorem nM{x:PV}(h:cU m.w m.own x v):cS m (.one (.p x)) v:=cS.one.2 (.p h)
def aW.fresh(m:aW)(O:Obj)(s k:Nat)(o:fZ):aW:=(m.later (m.w.alloc O) (· =m.w.heap.size)).install s m.w.heap.size k o
theorem Zi(aD:dP T m)(O:Obj)(s k:Nat)(o:fZ):(m.fresh O s k o).fr=m.fr:=by
 funext c;simp only[aW.fresh,aW.install,aW.later];apply propext;constructor
 .grind
 intro h;exact⟨.inl h,λe=>by have:=aD.frlt c h;omega⟩
theorem Pz(O:Obj)(s k:Nat)(o:fZ):gy m (m.fresh O s k o):=OY (GK (iX.alloc m.w O) λc h=>yV h.symm) (.inr rfl) (.inl (ct _))
theorem agj(O:Obj)(s k:Nat)(o:fZ):(m.fresh O s k o).w.heap[(m.fresh O s k o).σ s]?=some O:=by
 have:(m.fresh O s k o).σ s=m.w.heap.size:=by simp[aW.fresh,aW.install,ba]
 rw[this];exact heap_alloc_new m.w O
theorem Z1(aD:dP T m)(O:Obj)(s k:Nat)(o:fZ)(ho:tF (m.fresh O s k o) s o):dP T (m.fresh O s k o):=R1 (Lo aD (iX.alloc m.w O) λc h=>by subst h;exact⟨ct _,aH⟩) (.inr rfl) aD.size ho
theorem Ud(m:aW)(O:Obj)(s k:Nat)(o:fZ):(m.fresh O s k o).blk=app [(s,((m.blk s).1+1,some o))] m.blk:=rfl
theorem ZK(aD:dP T m)(s:Nat)(t:TypeId)(D:dY)(arr:Array Value)(h:dU m D arr.toList):
  dP T (m.fresh (.cells arr t) s 0 (.var D))/\cS (m.fresh (.cells arr t) s 0 (.var D)) (.one (.bh s ((m.blk s).1+1) 0)) (.pointer (some ⟨m.w.heap.size,0,none⟩)):=by
 refine⟨Z1 aD _ s 0 _ ⟨arr,t,agj _ s 0 _,h.ev (Pz _ s 0 _).zero⟩,cS.one.2 (.bh _ ?_ λ_ _=>?_)⟩
 .simp[aW.fresh,aW.install,aW.later,ba]
 simp[aW.fresh,aW.install,ba]
theorem L6{t:TypeId}(h:zp P t=some z):∃v i,P.info? t=some i/\i.zero=some v/\v.cells.size=i.size/\I z=i.size/\ ∀w own,dX w own z v.cells.toList:=by
 unfold zp at h;split at h
 .rename_i i H;split at h
  .rename_i D m;split at h
   .rename_i ae;have hr:=λw own=>afz (w:=w) (own:=own) h;refine⟨_,i,H,m,by simpa [Value.cells]using ae,?_,λw own=>by simpa [Value.cells]using hr w own⟩;have:=(hr default (λ_=>False)).1;simp at this;omega
   cases h
  .rename_i v m A;split at h
   .rename_i ae;simp at h;obtain⟨x,n,rfl⟩:=h;have hr:=λw own=>X0 (w:=w) (own:=own) n;have f:=(hr default (λ_=>False)).cells;refine⟨v,i,H,A,by simp[f,ae],by simp[ae],λw own=>?_⟩;rw[f];refine⟨rfl,λj y u a b=>?_⟩
    grind
   cases h
  cases h
 cases h
section
variable {m:aW} {B:bj} {a:Act} {o:Oper} (aD:dP T m) (hr:jN m B a.tmps)
include aD
theorem akK{t:TypeId}{s:Nat}(ho:o.op=.alloc t)(n:zp P t=some z):
  gN P T a.eval o m (.one (.bh s ((m.blk s).1+1) 0)) [(s,((m.blk s).1+1,some (.var (z.map .p))))]:=by
 obtain⟨v,i,j,h,ae,hl,D⟩:=L6 n;obtain⟨f,H⟩:=ZK aD s t _ v.cells (D m.w m.own).ER;refine⟨_,_,.inl ?_,f,Pz _ s 0 _,Zi aD _ s 0 _,Ud _ _ s 0 _,H⟩;simp[execOp,ho,Instr.alloc,zeroValue,typeInfo,j,h,newVar,newRow];rfl
include hr
theorem avc{t:TypeId}{s:Nat}(ho:o.op=.box t x)(z:c8 x=some y)(H:uf (ev B y)=some D):
  gN P T a.eval o m (.one (.bh s ((m.blk s).1+1) 0)) [(s,((m.blk s).1+1,some (.var D)))]:=by
 have f:=fD z hr;have v:dU m D (a.eval x).cells.toList:=by
  generalize ev B y=w at H f;cases w with
  |undef=>simp[uf]at H
  |tup F=>simp[uf]at H
  |one c=>
   simp[uf]at H;subst H;rw[(cS.one.1 f).cells];refine⟨rfl,λj y u p q=>?_⟩;cases j with
   |zero=>simp at p q;subst p q;exact f
   |succ j=>simp at p
  |agg E=>simp[uf]at H;subst H;obtain⟨arr,e,h⟩:=cS.agg.1 f;rw[e];exact h
 obtain⟨A,n⟩:=ZK aD s t D _ v;refine⟨_,_,.inl ?_,A,Pz _ s 0 _,Zi aD _ s 0 _,Ud _ _ s 0 _,n⟩;simp[execOp,ho,Instr.box,newVar,newRow];rfl
end
end
theorem IE{α:Type}:∀ {A:List (List α)},(∀e∈A,I e=j)->I A.flatten=I A*j:=by
 intro A
 induction A with
 |nil=>intro _;simp
 |cons e r f=>grind
theorem GF{α:Type}:∀ {A:List (List α)},(∀e∈A,I e=j)->∀ {i:Nat}{e:List α},A[i]?=some e->∀ {m:Nat},m<j->A.flatten[i*j+m]?=e[m]? :=by
 intro A
 induction A with
 |nil=>intro _ i e h;simp at h
 |cons x r v=>
  intro h i e H m u;have f:=h x aH;cases i with
  |zero=>grind
  |succ i=>simp at H;simp only[vo];rw[o_ (by rw[f,j9];omega),<- (v (λy n=>h y (by simp[n])) H u)];congr 1;rw[f,j9];omega
theorem Mt{α:Type}{A:List (List α)}(h:∀e∈A,I e=j){i:Nat}{e:List α}(H:A[i]?=some e):I e=j:=h e (aX H)
theorem IC{w:World}{b k:Nat}(h:w.heap[b]?=some (.cells H L Y)):w.cell? ⟨b,k,none⟩=H[k]? :=cell_of_row w b k H L Y h
def BK (m:aW)(v:Value)(D:dY):Prop:=∃b o F,v=.pointer (some ⟨b,o,none⟩)/\dU m D F/\ ∀(j:Nat) (u:Value),F[j]?=some u->m.w.cell? ⟨b,o+j,none⟩=some u
theorem BK.row{b o:Nat}(h:m.w.heap[b]?=some (.cells H L Y))(hl:o+I D<=H.size)
  (f:∀(j:Nat) (x:a7) (u:Value),D[j]?=some x->H[o+j]?=some u->fC m x u):BK m (.pointer (some ⟨b,o,none⟩)) D:=by
 refine⟨b,o,(H.toList.drop o).take (I D),rfl,⟨by simp;omega,λj x u p q=>?_⟩,λj u q=>?_⟩
 .grind
 rw[pR]at q;split at q
 .rw[IC h];simpa using q
 cases q
theorem ajz(aD:dP T m){x:V}{v:Value}{rd:aC}(h:Cn m.blk x=some (D,rd))(hv:cS m x v):BK m v D:=by
 unfold Cn at h;split at h
 .rename_i ps;simp only[gW,me]at h;obtain⟨rfl,rfl⟩:=h;obtain⟨hp⟩:fC m _ v:=hv;cases hp with
  |box b o f ho hc hr=>
   refine⟨b,o,(List.range (I ps)).map f,rfl,⟨aH,λF x u p q=>?_⟩,λF u q=>?_⟩
   .simp only[dy,fH]at p q;obtain⟨y,R,rfl⟩:=p;obtain⟨k,Q,rfl⟩:=q;have ql:k=F:=by
     rw[sy (by have:=bd.1 R;obtain⟨h,_⟩:=this;exact h)]at Q
     simpa using Q.symm
    subst ql;exact .p (hr k y R)
   simp only[dy,fH]at q;obtain⟨k,Q,rfl⟩:=q;have aB:F<I ps:=by have:=bd.1 Q;obtain⟨h,_⟩:=this;simpa using h
   rw[sy aB]at Q;simp at Q;subst Q;exact hc F _ (re aB)
 .rename_i id g E;cases hv with
  |bh a hg N=>
   split at h
   .rename_i g' AM z;split at h
    .rename_i O;simp only[gW,me]at h;obtain⟨rfl,rfl⟩:=h;have Z:(m.blk id).2=some (.var AM):=by rw[z]
     have N:=N (by rw[z];exact O) (by rw[Z];rfl);subst N;obtain⟨H,L,B,hl,hc⟩:=aD.obj id _ Z;simp at hl;by_cases ho:E<=I AM
     .exact BK.row B (by simp;omega) λF x u p q=>hc (E+F) x u (by simpa using p) (by simpa using q)
     exact⟨_,_,[],rfl,⟨by simp;omega,λF x u p q=>by simp at q⟩,λF u q=>by simp at q⟩
    cases h
   .rename_i g' AM z;split at h
    .rename_i O;simp only[gW,me]at h;obtain⟨rfl,rfl⟩:=h;have Z:(m.blk id).2=some (.fvar AM):=by rw[z]
     have N:=N (by rw[z];exact O) (by rw[Z];rfl);subst N;obtain⟨H,L,Y,B,hp,_⟩:=aD.obj id _ Z;have hl:=hp.1;simp at hl;by_cases ho:E<=I AM
     .refine BK.row B (by simp;omega) λF x u p q=>?_;simp only[dy,fH]at p;obtain⟨y,R,rfl⟩:=p;exact .p (hp.2 (E+F) y u (by simpa using R) (by simpa using q))
     exact⟨_,_,[],rfl,⟨by simp;omega,λF x u p q=>by simp at q⟩,λF u q=>by simp at q⟩
    cases h
   cases h
 .rename_i id g i E;cases hv with
  |dV a hg N=>
   have ab:∀(j:Nat) (e:dY) (H:Array Value) (L:TypeId) (Y:Nat×Nat),m.w.heap[m.σ id]?=some (.cells H L Y)->I e=j->(i+1)*j<=H.size->
     a=⟨m.σ id,i*j+E,none⟩->(∀(F:Nat) (x:a7) (u:Value),e[F]?=some x->H[i*j+F]?=some u->fC m x u)->BK m (.pointer (some a)) (e.drop E):=by
    intro j e H L Y B M aB A2 hc;subst A2;rw[j9,G_]at aB;by_cases ho:E<=I e
    .exact BK.row B (by simp;omega) λF x u p q=>hc (E+F) x u (by simpa using p) (by rw[<-yQ];exact q)
    exact⟨_,_,[],rfl,⟨by simp;omega,λF x u p q=>by simp at q⟩,λF u q=>by simp at q⟩
   have pure:∀(L j:Nat) (A:dh) (e:dF) (H:Array Value) (Y:Nat×Nat),m.w.heap[m.σ id]?=some (.cells H L Y)->(∀e∈A,I e=j)->I A*j<=H.size->
     dX m.w m.own A.flatten (H.toList.take (I A*j))->A[i]?=some e->a=⟨m.σ id,i*j+E,none⟩->BK m (.pointer (some a)) ((e.drop E).map .p):=by
    intro L j A e H Y B n ac X M A2;have dV:=Mt n M;have pJ:(i+1)*j<=I A*j:=mV _ ((bd.1 M).1);rw[uy];refine ab j (e.map .p) H L Y B (by simpa using dV) J A2 λF x u p q=>?_;simp only[dy,fH]at p;obtain⟨y,R,rfl⟩:=p;have hj:F<j:=by have:=(bd.1 R).1;omega
    refine .p (X.2 (i*j+F) y u (by rw[GF n M hj];exact R) ?_);rw[j9]at pJ;rw[pR,an J]
    simpa using q
   split at h
   .rename_i g' L j A z;split at h
    .rename_i O;simp only[fH,me]at h;obtain⟨e,M,rfl,rfl⟩:=h;obtain⟨H,B,ng,n,hl,hm,dK,X⟩:=aD.obj id _ (by rw[z]);exact pure L j A e H _ B n (by rw[dK];exact mV _ hl) X M (N j (by rw[z];exact O) (by rw[z];rfl))
    cases h
   .rename_i g' L j A z;split at h
    .rename_i O;simp only[fH,me]at h;obtain⟨e,M,rfl,rfl⟩:=h;obtain⟨H,Y,B,ng,n,hl,hm,dK,X,_⟩:=aD.obj id _ (by rw[z]);exact pure L j A e H _ B n (by rw[dK];exact mV _ hl) X M (N j (by rw[z];exact O) (by rw[z];rfl))
    cases h
   .rename_i g' L j A z;split at h
    .rename_i O;simp only[fH,me]at h;obtain⟨e,M,rfl,rfl⟩:=h;obtain⟨H,B,ng,n,hl,hm,dK,X⟩:=aD.obj id _ (by rw[z]);have dV:=Mt n M;have pJ:(i+1)*j<=I A*j:=mV _ ((bd.1 M).1);have ad:I A*j<=m.κ id*j:=mV _ hl;refine ab j e H L _ B dV J (N j (by rw[z];exact O) (by rw[z];rfl)) λF x u p q=>?_;have hj:F<j:=by have:=(bd.1 p).1;omega
     refine X.2 (i*j+F) x u (by rw[GF n M hj];exact p) ?_;rw[j9]at pJ;rw[pR,an J]
     simpa using q
    cases h
   cases h
 cases h
theorem aym{t:TypeId}(h:qW P t=some (some n)):∃d i,P.underlying t=some d/\P.info? t=some i/\i.size=n/\((∃fs,d=.struct fs)\/ ∃k e,d=.array k e):=by
 unfold qW at h
 grind
theorem aqH{t:TypeId}(h:qW P t=some none):∃d i,P.underlying t=some d/\P.info? t=some i/\i.size=1/\(∀fs,d≠ .struct fs)/\ ∀k e,d≠ .array k e:=by
 unfold qW at h
 grind
theorem ais{t:TypeId}(h:qW P t=some (some n))(w:World):(isAgg t).run P w=.ok true w/\(sizeOf t).run P w=.ok n w:=by
 obtain⟨d,i,j,H,m,f⟩:=aym h;constructor
 .rcases f with⟨fs,rfl⟩|⟨k,e,rfl⟩<;>simp[isAgg,run_underlying j]
 simp[sizeOf,typeInfo,H,m]
theorem acm{t:TypeId}(h:qW P t=some none)(w:World):(isAgg t).run P w=.ok false w/\(sizeOf t).run P w=.ok 1 w:=by
 obtain⟨d,i,j,H,n,f,m⟩:=aqH h;constructor
 .cases d<;>first
   |exact(f _ rfl).elim
   |exact(m _ _ rfl).elim
   |simp[isAgg,run_underlying j]
 simp[sizeOf,typeInfo,H,n]
theorem adY{t:TypeId}{k:dZ}(M:qW P t=some k){v:Value}(h:BK m v D){x:V}(H:sf k D=some x):
  ∃a y,v=.pointer (some a)/\(loadVar t a).run P m.w=.ok y m.w/\cS m x y:=by
 obtain⟨b,o,F,rfl,L,B⟩:=h;cases k with
 |none=>
  obtain⟨z,A⟩:=acm M m.w;cases D with
  |nil=>simp[sf]at H
  |cons c r=>
   simp[sf]at H;subst H;obtain⟨hl,hr⟩:=L;cases F with
   |nil=>simp at hl
   |cons u us=>have E:=B 0 u rfl;refine⟨_,u,rfl,?_,cS.one.2 (hr 0 c u rfl rfl)⟩;rw[uX]at E;simp[loadVar,z,E]
 |some n=>
  obtain⟨z,A⟩:=ais M m.w;simp only[sf]at H;split at H
  .rename_i N;cases H;obtain⟨hl,hr⟩:=L;refine⟨_,.agg (F.take n).toArray,rfl,?_,cS.agg.2 ⟨_,rfl,by simp;omega,λj x u p q=>?_⟩⟩
   .have f:I (F.take n)=n:=by simp;omega
    have:=run_loadCells_list (P:=P) m.w _ (F.take n) (λj u q=>by
     rw[Addr.add_lit];rw[pR]at q;split at q
     .exact B j u q
     cases q)
    rw[f]at this;simp[loadVar,z,A,this]
   grind
  cases H
section
variable {m:aW} {B:bj} {a:Act} {o:Oper} (aD:dP T m) (hr:jN m B a.tmps)
include aD hr
theorem ao2{t:TypeId}{k:dZ}{rd:aC}(ho:o.op=.load t x)(h:qW P t=some k)(z:c8 x=some y)
  (u:Cn m.blk (ev B y)=some (D,rd)) (H:sf k D=some v):gN P T a.eval o m v []:=by
 obtain⟨A,y',j,f,n⟩:=adY h (ajz aD u (fD z hr)) H;exact .calm aD (by simp[execOp,ho,j,Instr.loadAt,Instr.sureAddr,f]) n
theorem ass(ho:o.op=.nilCheck x)(z:c8 x=some y)(u:cH (λ_=>false) B m.blk (.O1 y)=.done v [] []):gN P T a.eval o m v []:=by
 have E:=fD z hr;simp[cH]at u;split at u
 .rename_i n;rw[n]at E;cases u;have H:=E;generalize j:a.eval x=b at H E;cases H with
  |bh L hg h=>exact .calm aD (by simp[execOp,ho,j]) E
 .rename_i n;rw[n]at E;cases u;have H:=E;generalize j:a.eval x=b at H E;cases H with
  |dV L hg h=>exact .calm aD (by simp[execOp,ho,j]) E
 .rename_i n;rw[n]at E;cases u;have H:=E;generalize j:a.eval x=b at H E;cases H with
  |p hp=>cases hp with
   |box R X f Y M Z=>exact .calm aD (by simp[execOp,ho,j]) E
 .rename_i n;rw[n]at E;cases u;have H:=E;generalize j:a.eval x=b at H E;cases H with
  |hfn A N D Q F O=>exact .calm aD (by simp[execOp,ho,j]) E
 .rename_i n;rw[n]at E;cases u;have H:=E;generalize j:a.eval x=b at H E;cases H with
  |p hp=>cases hp with
   |fn A N D Q F O=>exact .calm aD (by simp[execOp,ho,j]) E
 cases u
end
section
variable{F:List Value}{E:Nat}
theorem cU.norm{w:World}{own:Nat->Prop}{x:PV}{v:Value}(h:cU w own x v):cU w own x.norm v:=by
 cases h<;>first
  |exact .yS none 0 (λ_=>rfl) _
  |exact .yS _ 0 (λ_=>rfl) (bN _)
  |(simp[PV.norm];constructor<;>assumption)
theorem aru{c:a7}{x:PV}{v:Value}(h:Q_ c=some x)(hr:fC m c v):cU m.w m.own x v:=by
 cases hr<;>simp[Q_]at h
 rename_i hp;subst h;exact hp.norm
theorem M3:∀ {D:dY}{N:dF}{F:List Value},CG D=some N->dU m D F->dX m.w m.own N F:=by
 intro D
 induction D with
 |nil=>intro N F h hr;simp[CG]at h;subst h;exact⟨hr.1,λj x u a=>by simp at a⟩
 |cons c r f=>
  intro N F h hr;simp[CG]at h;split at h
  .rename_i x y n H;cases h;cases F with
   |nil=>simp[dU]at hr
   |cons v us=>
    obtain⟨hl,E⟩:=f H ⟨by simpa using hr.1,λj x u a b=>hr.2 (j+1) x u (by grind) (by grind)⟩;refine⟨by simp[hl],λj z u a b=>?_⟩;cases j with
    |zero=>simp at a b;subst a b;exact aru n (hr.2 0 c v rfl rfl)
    |succ j=>simp at a b;exact E j z u a b
  cases h
def Pw {α:Type}(R:α->Value->Prop)(N:List α)(F:List Value):Prop:=I F=I N/\ ∀(j:Nat) (x:α) (u:Value),N[j]?=some x->F[j]?=some u->R x u
theorem Pw.take{α:Type}{R:α->Value->Prop}{N:List α}(h:Pw R N F)(n:Nat):Pw R (N.take n) (F.take n):=by
 refine⟨by simp[h.1],λj x u a b=>?_⟩;rw[pR]at a b;split at a
 .rename_i H;rw[an H]at b;exact h.2 j x u a b
 cases a
theorem Pw.drop{α:Type}{R:α->Value->Prop}{N:List α}(h:Pw R N F)(n:Nat):Pw R (N.drop n) (F.drop n):=
 ⟨by simp[h.1],λj x u a b=>h.2 (n+j) x u (by grind) (by grind)⟩
theorem Pw.append{α:Type}{R:α->Value->Prop}{N y:List α}(h:Pw R N F)(k:Pw R y us):Pw R (N++y) (F++us):=by
 refine⟨by simp[h.1,k.1],λj x u a b=>?_⟩;by_cases H:j<I N
 .rw[sC H]at a;rw[sC (by rw[h.1];exact H)]at b;exact h.2 j x u a b
 rw[o_ J]at a;rw[o_ (by rw[h.1];omega),h.1]at b;exact k.2 _ x u a b
theorem Pw.fM{α:Type}{R:α->Value->Prop}{N y:List α}(h:Pw R N F)(k:Pw R y us)(E:Nat):Pw R (fM N E y) (fM F E us):=by unfold Abs.fM;rw[k.1];exact((h.take E).append k).append (h.drop _)
theorem N_{α:Type}{D N:List α}(h:E+I N<=I D):I (fM D E N)=I D:=by simp[fM];omega
theorem abk{α:Type}{D N:List α}(h:E+I N<=n)(H:n<=I D):(fM D E N).take n=fM (D.take n) E N:=by
 unfold fM;rw[Ii,Ii,D5,List.drop_take];simp;rw[v7 (by omega:E<=I D),D5,v7 (by omega:E<=n),Nat.min_eq_right J]
 grind [fL]
theorem aqb{α:Type}{a D N:List α}:fM (a++D) (I a+E) N=a++fM D E N:=by
 unfold fM;rw[Ii,Te];rw[fL (by omega:I a<=I a+E),Vh J]
 grind
theorem au1{α:Type}{a D N:List α}(h:E+I N<=I a):fM (a++D) E N=fM a E N++D:=by
 unfold fM
 grind
theorem apI{α:Type}{ps:List α}:∀ {A:List (List α)},(∀e∈A,I e=j)->∀ {i:Nat}{e:List α},A[i]?=some e->E+I ps<=j->
  (A.set i (fM e E ps)).flatten=fM A.flatten (i*j+E) ps:=by
 intro A
 induction A with
 |nil=>intro _ i e h;simp at h
 |cons x r n=>
  intro h i e H hl;have u:=h x aH;cases i with
  |zero=>simp at H;subst H;simp;rw[au1 J]
  |succ i=>
   simp at H;simp;rw[n (λy f=>h y (by simp[f])) H hl];have m:(i+1)*j+E=I x+(i*j+E):=by rw[u,j9];omega
   rw[m,aqb]
theorem Qp{w:World}{g:Nat}{new:Array Value}(h:w.heap[g]?=some (.cells H L Y)):(w.setRow g new).heap[g]?=some (.cells new L Y):=setRow_heap w g H new L Y h
theorem dU.pw:dU m D F↔Pw (fC m) D F:=Iff.rfl
theorem dX.pw{w:World}{own:Nat->Prop}{D:dF}:dX w own D F↔Pw (cU w own) D F:=Iff.rfl
theorem dU.one(h:dU m D F):∀v∈F,v.oneCell':=by intro v f;obtain⟨j,H⟩:=fX f;exact(h.2 j _ v (re (by rw[<-h.1];exact(bd.1 H).1)) H).O6
theorem W_{x:V}{v:Value}(h:uf x=some D)(hr:cS m x v):dU m D v.cells.toList:=by
 cases x with
 |undef=>simp[uf]at h
 |tup F=>simp[uf]at h
 |one c=>
  simp[uf]at h;subst h;rw[(cS.one.1 hr).cells];refine⟨rfl,λj y u p q=>?_⟩;cases j with
  |zero=>simp at p q;subst p q;exact hr
  |succ j=>simp at p
 |agg f=>simp[uf]at h;subst h;obtain⟨arr,e,h⟩:=cS.agg.1 hr;rw[e];exact h
section
variable {m:aW} {B:bj} {a:Act} {o:Oper} (aD:dP T m) (hr:jN m B a.tmps)
include aD hr
theorem aqM{t:TypeId}{v:Operand}{v':eX}{r:V}{rd:aC}(ho:o.op=.store t x v)(hn:wP P t=some n)(hx:c8 x=some Z)(hv:c8 v=some v')
  (hc:uf (ev B v')=some D) (y:Ar m.blk (ev B Z) n D=.done r u rd):gN P T a.eval o m r u:=by
 have dK:=W_ hc (fD hv hr);have M:=fD hx hr;unfold wP at hn;simp only[fH]at hn;obtain⟨i,hi,ia⟩:=hn;have R:=dK.1;simp only[J2]at R;unfold Ar at y;split at y
 .cases y
 rename_i F;have F:I D=n:=by simpa using F
 have RZ:=dK.one;split at y
 .rename_i id g E he;rw[he]at M;have M:=M;generalize hb:a.eval x=b at M;cases M with
  |bh ad hg X=>
   split at y
   .rename_i g' AM z;split at y
    .rename_i NL;obtain⟨jt,ab⟩:=NL;cases y;have N:(m.blk id).2=some (.var AM):=by rw[z]
     have X:=X (by rw[z];exact jt) (by rw[N];rfl);subst X;obtain⟨H,L,hh,dT⟩:=aD.obj id _ N;have dS:=dT.1;simp at dS;have O:=run_storeCells_at P (m.σ id) E L (a.eval v).cells.toList 0 H m.w hh (by simp;omega) RZ;simp only[uX]at O;generalize f:m.w.setRow (m.σ id) (H.toList.take E++(a.eval v).cells.toList++H.toList.drop (E+(a.eval v).cells.toList.length)).toArray=W at O;have FD:W.heap.size=m.w.heap.size:=by rw[<-f];simp
     have FC:∀c,c≠m.σ id->W.heap[c]?=m.w.heap[c]? :=λc hc=>by rw[<-f];exact setRow_other m.w (m.σ id) c _ hc
     have Q:=GS (o:=.var (fM AM E D)) N rfl (by simp[kZ]) (by rw[<-f];rfl) (by rw[<-f];rfl) (by rw[<-f];rfl) FD FC;have FV:tF (m.jE W id (.var (fM AM E D))) id (.var (fM AM E D)):=by
      refine⟨_,L,by rw[<-f];exact Qp hh,?_⟩;have:=dU.pw.2 ((dU.pw.1 (dT.ev Q.zero)).fM (dU.pw.1 (dK.ev Q.zero)) E)
      simpa [fM]using this
     refine⟨undef,m.jE W id (.var (fM AM E D)),.inr ⟨?_,rfl⟩,LQ N rfl aD (by simp[kZ]) (by rw[<-f];rfl) (by rw[<-f];rfl) (by rw[<-f];rfl) FD FC FV,Q,rfl,?_,rfl⟩
     .simp only[execOp,ho,hb,Instr.storeAt,Instr.sureAddr,storeVar,sizeOf,typeInfo];simp[hi,R,F,ia,O,aW.jE]
     simp[aW.jE,app,z,jt]
    cases y
   cases y
 .rename_i id g i' E he;rw[he]at M;have M:=M;generalize hb:a.eval x=b at M;cases M with
  |dV ad hg X=>
   split at y
   .rename_i g' L j A z;split at y
    .rename_i e ps Y zP;split at y
     .rename_i NL;obtain⟨jt,ab⟩:=NL;cases y;have N:(m.blk id).2=some (.arr L j A):=by rw[z]
      have X:=X j (by rw[z];exact jt) (by rw[z];rfl);subst X;obtain⟨H,hh,ng,ub,hl,hm,Hx,dT⟩:=aD.obj id _ N;have dV:=Mt ub Y;have pJ:(i'+1)*j<=I A*j:=mV _ ((bd.1 Y).1);have ag:I A*j<=m.κ id*j:=mV _ hl;rw[j9,G_]at pJ;have ac:I ps=I D:=by rw[<-dK.1];exact(M3 zP dK).1.symm
      have O:=run_storeCells_at P (m.σ id) (i'*j+E) L (a.eval v).cells.toList 0 H m.w hh (by simp;omega) RZ;simp only[uX]at O;generalize f:m.w.setRow (m.σ id) (H.toList.take (i'*j+E)++(a.eval v).cells.toList++H.toList.drop (i'*j+E+(a.eval v).cells.toList.length)).toArray=W at O;have FD:W.heap.size=m.w.heap.size:=by rw[<-f];simp
      have FC:∀c,c≠m.σ id->W.heap[c]?=m.w.heap[c]? :=λc hc=>by rw[<-f];exact setRow_other m.w (m.σ id) c _ hc
      have Q:=GS (o:=.arr L j (A.set i' (fM e E ps))) N rfl (by simp[kZ]) (by rw[<-f];rfl) (by rw[<-f];rfl) (by rw[<-f];rfl) FD FC;have FV:tF (m.jE W id (.arr L j (A.set i' (fM e E ps)))) id (.arr L j (A.set i' (fM e E ps))):=by
       refine⟨_,by rw[<-f];exact Qp hh,ng,?_,by rw[q_];exact hl,hm,?_,?_⟩
       .intro e' B6;rcases List.mem_or_eq_of_mem_set B6 with h|h
        .exact ub e' h
        rw[h,N_ J];exact dV
       .simp[aW.jE];omega
       rw[q_,apI ub Y J];have h1:=(dX.pw.1 (dT.ev Q.zero)).fM (dX.pw.1 ((M3 zP dK).ev Q.zero)) (i'*j+E);rw[<-abk (by simp;omega) (by simp;omega)]at h1
       simpa [fM]using(dX.pw.2 h1)
      refine⟨undef,m.jE W id (.arr L j (A.set i' (fM e E ps))),.inr ⟨?_,rfl⟩,LQ N rfl aD (by simp[kZ]) (by rw[<-f];rfl) (by rw[<-f];rfl) (by rw[<-f];rfl) FD FC FV,Q,rfl,?_,rfl⟩
      .simp only[execOp,ho,hb,Instr.storeAt,Instr.sureAddr,storeVar,sizeOf,typeInfo];simp[hi,R,F,ia,O,aW.jE]
      simp[aW.jE,app,z,jt]
     cases y
    cases y
   cases y
 cases y
end
end
theorem zd{x:V}{v:Value}(h:rF x=some n)(hr:cS m x v):∃k,v=.int k (n:Int):=by
 unfold rF at h;split at h
 .rename_i k z;split at h
  .rename_i H;cases h;exact⟨k,by rw[Bm hr,Ta H]⟩
  cases h
 cases h
theorem RM{t:TypeId}(h:wP P t=some n)(w:World):(sizeOf t).run P w=.ok n w:=by unfold wP at h;simp at h;obtain⟨i,H,rfl⟩:=h;simp[sizeOf,typeInfo,H]
section
variable {m:aW} {B:bj} {a:Act} {o:Oper} (aD:dP T m) (hr:jN m B a.tmps)
include aD hr
theorem atO{s:TypeId}{fs:Array Field}{d:Field}(ho:o.op=.fieldAddr s x f)(ae:P.underlying s=some (.struct fs))(hf:fs[f]?=some d)
  (R:P.cellsOf d.type≠0) (hx:c8 x=some y) (A:cH (λ_=>false) B m.blk (.Nf d.offset y)=.done v [] []):gN P T a.eval o m v []:=by
 have u:=fD hx hr;have Q:∃n,(sizeOf d.type).run P m.w=.ok n m.w/\n≠0:=by
  unfold Program.cellsOf at R;cases X:P.info? d.type with
  |none=>simp[X]at R
  |some i=>exact⟨i.size,by simp[sizeOf,typeInfo,X],by simpa [X]using R⟩
 obtain⟨n,hn,Y⟩:=Q;have run:∀L,a.eval x=.pointer (some L)->(execOp a.eval o).run P m.w=.ok (.value (.pointer (some (L.add d.offset)))) m.w:=by intro L qh;simp[execOp,ho,qh,Instr.fieldAt,run_underlying ae,hf,Instr.sureAddr,fieldPlace,hn,Y]
 simp only[cH]at A;split at A
 .rename_i id g E M;rw[M]at u;cases A;have H:=u;generalize F:a.eval x=b at H;cases H with
  |bh L hg h=>exact .calm aD (run _ F) (cS.one.2 (.bh _ hg λO N=>by rw[h O N,Addr.add_lit]))
 .rename_i id g i E M;rw[M]at u;cases A;have H:=u;generalize F:a.eval x=b at H;cases H with
  |dV L hg h=>exact .calm aD (run _ F) (cS.one.2 (.dV _ hg λj O N=>by rw[h j O N,Addr.add_lit,yQ]))
 .rename_i D M;rw[M]at u;cases A;have H:=u;generalize F:a.eval x=b at H;cases H with
  |p hp=>cases hp with
   |box Z o' f' oD lU lY=>
    refine .calm aD (run _ F) (nM ?_);rw[Addr.add_lit];refine .box Z (o'+d.offset) (λab=>f' (d.offset+ab)) (λh=>oD λe=>h (by simp[e])) (λab z h=>?_) λab z h=>lY _ z (by simpa using h)
    grind
 cases A
theorem aye{t e:TypeId}{i:Operand}(ho:o.op=.indexAddr t x i)(ht:P.underlying t=some (.slice e))(ae:wP P e=some j)
  (hx:c8 x=some Z) (hi:c8 i=some i') (u:cH (λ_=>false) B m.blk (.OC j Z i')=.done v [] []):gN P T a.eval o m v []:=by
 have F:=fD hx hr;have KD:=fD hi hr;have run:∀L len O k (n:Nat),a.eval x=.slice (some L) len O->a.eval i=.int k (n:Int)->n<len->(execOp a.eval o).run P m.w=.ok (.value (.pointer (some (L.add (n*j))))) m.w:=by intro L len O k n X M h3;simp[execOp,ho,X,M,Instr.indexAt,asIntOf,run_underlying ht,RM ae,h3]
 simp only[cH]at u;split at u
 .rename_i n A Y he;obtain⟨k,Q⟩:=zd Y KD;rw[he]at F;split at u
  .rename_i el dV;split at u
   .rename_i H;cases u;have D:=F;generalize N:a.eval x=b at D;cases D with
    |p hp=>
     generalize sQ:(PV.sl A)=pv at hp;cases hp<;>first
      |cases sQ
      |skip
     .simp at dV
     rename_i b' o' O R f rL oD lI y wW Ek;have WT:R=j:=by rw[<-Mt y dV];exact H
     subst WT;refine .calm aD (run _ _ _ k n N Q ((bd.1 dV).1)) (nM ?_);rw[Addr.add_lit];refine .box b' (o'+n*R) (λab=>f (n*R+ab)) (λh=>oD ?_) (λab z h=>?_) λab z h=>?_
     .intro e0;cases el with
      |nil=>exact h rfl
      |cons c r=>have:=GF y dV (m:=0) (by rw[<-H];simp);rw[e0]at this;simp at this
     .rw[yQ];exact wW _ z (by rw[GF y dV (by rw[<-H];exact(bd.1 h).1)];exact h)
     exact Ek _ z (by rw[GF y dV (by rw[<-H];exact(bd.1 h).1)];exact h)
   cases u
  cases u
 .rename_i n id g z E len Y he;obtain⟨k,Q⟩:=zd Y KD;rw[he]at F;split at u
  .rename_i aB;cases u;have D:=F;generalize N:a.eval x=b at D;cases D with
   |hsl L O hg hl hm h=>refine .calm aD (run _ _ _ k n N Q aB.1) (cS.one.2 (.dV _ hg λs X M=>?_));obtain⟨e1,e2,_⟩:=h s X M;rw[e2 (.inr J),Addr.add_lit,e1,aB.2];simp[j9]
  cases u
 cases u
theorem an4{t e:TypeId}{i:Operand}(ho:o.op=.indexAddr t x i)(Y:P.underlying t=some (.array ln e))(ae:wP P e=some j)
  (hx:c8 x=some Z) (hi:c8 i=some i') (H:cH (λ_=>false) B m.blk (.Mx ln j Z i')=.done v [] []):gN P T a.eval o m v []:=by
 have u:=fD hx hr;have R:=fD hi hr;have run:∀N k (n:Nat),a.eval x=.pointer (some N)->a.eval i=.int k (n:Int)->n<ln->(execOp a.eval o).run P m.w=.ok (.value (.pointer (some (N.add (n*j))))) m.w:=by intro N k n L y h3;simp[execOp,ho,L,y,Instr.indexAt,asIntOf,run_underlying Y,RM ae,h3,Instr.sureAddr]
 simp only[cH]at H;split at H
 .rename_i n id g E O Q;obtain⟨k,F⟩:=zd O R;rw[Q]at u;split at H
  .rename_i M;cases H;have f:=u;generalize A:a.eval x=b at f;cases f with
   |bh N hg h=>exact .calm aD (run _ k n A F M) (cS.one.2 (.bh _ hg λL y=>by rw[h L y,Addr.add_lit]))
  cases H
 .rename_i n id g X E O Q;obtain⟨k,F⟩:=zd O R;rw[Q]at u;split at H
  .rename_i M;cases H;have f:=u;generalize A:a.eval x=b at f;cases f with
   |dV N hg h=>exact .calm aD (run _ k n A F M) (cS.one.2 (.dV _ hg λs L y=>by rw[h s L y,Addr.add_lit,yQ]))
  cases H
 .rename_i n D O Q;obtain⟨k,F⟩:=zd O R;rw[Q]at u;split at H
  .rename_i M;cases H;have f:=u;generalize A:a.eval x=b at f;cases f with
   |p hp=>cases hp with
    |box b' o' f' oD lU lY=>refine .calm aD (run _ k n A F M) (nM ?_);rw[Addr.add_lit];refine .box b' (o'+n*j) (λX=>f' (n*j+X)) (λh=>oD λe=>h (by simp[e])) (λX z h=>?_) λX z h=>lY _ z (by simpa using h);rw[yQ];exact lU _ z (by simpa using h)
  cases H
 cases H
theorem aht{t:TypeId}{k:dZ}(B:qW P t=some k){arr:Array Value}(v:dU m D arr.toList){x:V}(h:sf k (D.drop E)=some x):
  ∃y,(part t arr E).run P m.w=.ok y m.w/\cS m x y:=by
 have N:=aD;have M:=hr;have hl:=v.1;simp at hl;cases k with
 |none=>
  obtain⟨f,z⟩:=acm B m.w;cases H:D.drop E with
  |nil=>simp[H,sf]at h
  |cons c r=>
   simp[H,sf]at h;subst h;have A:D[E]?=some c:=by
    have:=congrArg (·[0]?) H
    simpa using this
   have F:E<arr.size:=by rw[hl];exact(bd.1 A).1
   refine⟨arr[E],by simp[part,f,F],cS.one.2 (v.2 E c _ A (by simp[F]))⟩
 |some n=>
  obtain⟨f,z⟩:=ais B m.w;simp only[sf]at h;split at h
  .rename_i L;cases h;simp at L;refine⟨.agg (arr.extract E (E+n)),by simp[part,f,z],cS.agg.2 ⟨_,rfl,by simp;omega,λj x u p q=>?_⟩⟩;rw[pR]at p;split at p
   .rename_i O;simp at p;refine v.2 (E+j) x u p ?_
    grind
   cases p
  cases h
theorem az7{t:TypeId}{fs:Array Field}{d:Field}{k:dZ}(ho:o.op=.field t x f)(ae:P.underlying t=some (.struct fs))(hf:fs[f]?=some d)
  (n:qW P d.type=some k) (j:c8 x=some y) (h:ev B y=.agg D) (u:sf k (D.drop d.offset)=some v):gN P T a.eval o m v []:=by
 have E:=fD j hr;rw[h]at E;obtain⟨arr,e,F⟩:=cS.agg.1 E;obtain⟨z,A,H⟩:=aht (aD:=aD) (hr:=hr) n F u;exact .calm aD (by simp[execOp,ho,e,Instr.field,run_underlying ae,hf,asAgg,A]) H
theorem auI{t e:TypeId}{i:Operand}{k:dZ}(ho:o.op=.index t x i)(f:P.underlying t=some (.array ln e))(ae:wP P e=some j)
  (L:qW P e=some k) (y:c8 x=some Z) (u:c8 i=some i') (A:rF (ev B i')=some n) (F:n<ln) (h:ev B Z=.agg D) (N:sf k (D.drop (n*j))=some v):gN P T a.eval o m v []:=by
 have E:=fD y hr;obtain⟨X,M⟩:=zd A (fD u hr);rw[h]at E;obtain⟨arr,Q,R⟩:=cS.agg.1 E;obtain⟨z,O,H⟩:=aht (aD:=aD) (hr:=hr) L R N;exact .calm aD (by simp[execOp,ho,Q,M,Instr.index,asIntOf,run_underlying f,RM ae,F,O]) H
theorem ava{t:TypeId}{i:Operand}{s:ByteArray}{b:UInt8}(ho:o.op=.index t x i)(H:P.underlying t=some .string)
  (v:c8 x=some Z) (j:c8 i=some i') (y:rF (ev B i')=some n) (h:ev B Z=.one (.p (.str s))) (f:s[n]?=some b):gN P T a.eval o m (.one (.p (.int .u8 b.toNat))) []:=by
 have E:=fD v hr;obtain⟨z,u⟩:=zd y (fD j hr);rw[h]at E;exact .calm aD (by simp[execOp,ho,Ku E,u,Instr.index,asIntOf,run_underlying H,f]) (nM (.int _ _))
end
theorem avR{op:BinOp}{t:TypeId}{k f:IntKind}{x y:Int}{v:PV}(w:World)(m:k=f\/op=.shl\/op=.shr)(h:JO op k x y=some v):
  ∃u,(binOp op t (.int k x) (.int f y)).run P w=.ok u w/\ ∀own,cU w own v u:=by
 by_cases ae:op=.shl\/op=.shr
 .rcases ae with rfl|rfl
  .simp only[JO]at h;split at h
   .cases h
   rename_i H;cases h;exact⟨_,by simp[binOp,Op.shift,H],λown=>.int _ _⟩
  simp only[JO]at h;split at h
  .cases h
  rename_i H;cases h;exact⟨_,by simp[binOp,Op.shift,H],λown=>.int _ _⟩
 have j:k=f:=by grind
 subst j;cases op<;>simp only[JO]at h<;>first
  |cases h
  |skip
 all_goals first
  |exact(ae (.inl rfl)).elim
  |exact(ae (.inr rfl)).elim
  |(exact⟨_,by simp[binOp,Op.intArith,Op.intCmp,Op.intBits],λown=>.int _ _⟩)
  |(exact⟨_,by simp[binOp,Op.intArith,Op.intCmp],λown=>.bool _⟩)
  |(split at h
    .cases h
    rename_i H;cases h;exact⟨_,by simp[binOp,Op.intDiv,H],λown=>.int _ _⟩)
theorem azL{op:BinOp}{t:TypeId}{x y:ByteArray}{v:PV}(w:World)(h:WV op x y=some v):
  ∃u,(binOp op t (.string x) (.string y)).run P w=.ok u w/\ ∀own,cU w own v u:=by
 cases op<;>simp only[WV]at h<;>first
  |cases h
  |skip
 all_goals first
  |exact⟨_,by simp[binOp,Op.stringOp],λown=>.bool _⟩
  |(split at h
    .rename_i hl;cases h;refine⟨.string _,?_,λown=>.str _⟩;have:¬((x.size:Int)+(y.size:Int)>9223372036854775807):=J;simp[binOp,Op.stringOp,this]
    cases h)
section
variable {m:aW} {B:bj} {a:Act} {o:Oper} (aD:dP T m) (hr:jN m B a.tmps)
include aD hr
theorem akC{op:BinOp}{t:TypeId}{y:Operand}(ho:o.op=.binOp op t x y L)(M:c8 x=some Z)(F:c8 y=some y')
  (h:O0 op (ev B Z) (ev B y')=some v):gN P T a.eval o m v []:=by
 have f:=fD M hr;have H:=fD F hr;unfold O0 at h;split at h
 .rename_i k p O q E A;rw[E]at f;rw[A]at H;split at h
  .rename_i N;simp at h;obtain⟨u,n,rfl⟩:=h;obtain⟨z,D,j⟩:=avR (P:=P) (t:=t) m.w N n;refine .calm aD ?_ (nM (j _));have hg:(eqGuard op t x y (.int k p) (.int O q)).run P m.w=.ok () m.w:=by cases op<;>simp[eqGuard]
   simp[execOp,ho,Bm f,Bm H,hg,D]
  cases h
 .rename_i p q E A;rw[E]at f;rw[A]at H;simp at h;obtain⟨u,n,rfl⟩:=h;obtain⟨z,D,j⟩:=azL (P:=P) (t:=t) m.w n;refine .calm aD ?_ (nM (j _));have hg:(eqGuard op t x y (.string p) (.string q)).run P m.w=.ok () m.w:=by cases op<;>simp[eqGuard]
  simp[execOp,ho,Ku f,Ku H,hg,D]
 cases h
theorem aqF{t:TypeId}{b:Bool}(ho:o.op=.unOp .not t x)(f:c8 x=some Z)(H:ev B Z=.one (.p (.bool b))):gN P T a.eval o m (.one (.p (.bool (!b)))) []:=by have h:=fD f hr;rw[H]at h;exact .calm aD (by simp[execOp,ho,Dp h,Op.unary]) (nM (.bool _))
theorem ax8{t:TypeId}{k:IntKind}{n:Int}(ho:o.op=.unOp .neg t x)(f:c8 x=some Z)(H:ev B Z=.one (.p (.int k n))):gN P T a.eval o m (.one (.p (.int k (k.wrap (0-n))))) []:=by have h:=fD f hr;rw[H]at h;exact .calm aD (by simp[execOp,ho,Bm h,Op.unary,Op.intArith]) (nM (.int _ _))
theorem auf{s d:TypeId}{j k f:IntKind}{n:Int}(ho:o.op=.convert s d x)(ae:P.underlying s=some (.int j))(H:P.underlying d=some (.int k))(v:c8 x=some Z)
  (u:ev B Z=.one (.p (.int f n))):gN P T a.eval o m (.one (.p (.int k (k.wrap n)))) []:=by
 have h:=fD v hr;rw[u]at h;exact .calm aD (by simp[execOp,ho,Bm h,convert,run_underlying ae,run_underlying H,Conv.intToInt]) (nM (.int _ _))
theorem aeb:∀ {N:List Operand}{Y:sG}{D:dY},qk N=some Y->xO B Y=some D->dU m D (N.map a.eval):=by
 intro N
 induction N with
 |nil=>intro Y D H h;simp[qk]at H;subst H;simp[xO]at h;subst h;exact⟨rfl,λj x u p=>by simp at p⟩
 |cons x r A=>
  intro Y D H h;simp[qk]at H;split at H
  .rename_i y f n L;cases H;simp[xO]at h;split at h
   .rename_i c q v F;cases h;obtain⟨hl,E⟩:=A L F;refine⟨by simpa using hl,λj z u p q=>?_⟩;cases j with
    |zero=>simp at p q;subst p q;have:=fD n hr;rwa[v]at this
    |succ j=>simp at p q;exact E j z u p (by grind)
   cases h
  cases H
theorem aqk{f:FuncId}{x y:Array Operand}{Z y':sG}{n:dY}(ho:o.op=.makeFunc (.func f) x y)(E:qk x.toList=some Z)(A:qk y.toList=some y')
  (F:xO B Z=some D) (v:xO B y'=some n):gN P T a.eval o m (.one (.hfn f D n)) []:=by
 have H:=aeb (aD:=aD) (hr:=hr) E F;have h:=aeb (aD:=aD) (hr:=hr) A v;refine .calm (x:=.func _ (x.map a.eval) (y.map a.eval)) aD (by simp[execOp,ho,Instr.makeFunc]) (cS.one.2 (.hfn _ _ ?_ ?_ ?_ ?_))
 .have:=H.1;simpa using this
 .have:=h.1;simpa using this
 .intro j z u p q;exact H.2 j z u p (by grind)
 intro j z u p q;exact h.2 j z u p (by grind)
theorem alf{i:Nat}{F:dC}(ho:o.op=.extract x i)(n:c8 x=some Z)(f:ev B Z=.tup F)(h:F[i]?=some v):gN P T a.eval o m v []:=by
 have H:=fD n hr;rw[f]at H;obtain⟨arr,e,hl,j⟩:=H;have A:i<arr.size:=by rw[hl];exact(bd.1 h).1
 exact .calm (x:=arr[i]) aD (by simp[execOp,ho,e,Instr.extract,A]) (.of1 (j i v _ h (by simp[A])))
theorem aaC{x:V}{v:Value}(h:Av x=some n)(H:cS m x v):∃f O,v=.slice f n O/\n<=O/\O<=maxLen:=by
 unfold Av at h;split at h
 .cases h;exact⟨none,0,SC H,ct _,bN _⟩
 .cases h;obtain⟨hp⟩:fC m _ v:=H;rename_i A;generalize j:(PV.sl A)=pv at hp;cases hp<;>cases j
  .exact⟨_,_,rfl,bN _,by assumption⟩
  grind
 .cases h;cases H with
  |hsl f O hg hl hm h=>exact⟨_,_,rfl,hl,hm⟩
 cases h
theorem aAi{c:Call}{t e:TypeId}(ho:o.op=.call c)(u:c.callee=.builtin .len)(h:c.args= #[x])(j:c.argTypes[0]?=some t)(f:P.underlying t=some (.slice e))
  (v:c8 x=some Z) (y:Av (ev B Z)=some n):gN P T a.eval o m (.one (.p (.int .i64 n))) []:=by
 obtain⟨A,O,H,_⟩:=aaC (aD:=aD) (hr:=hr) y (fD v hr);refine .calm aD ?_ (nM (.int _ _));simp[execOp,ho,resolve,u,h,invoke,builtin,Builtin.len_,j,H,run_underlying f,goInt]
theorem avr{c:Call}{t:TypeId}{s:ByteArray}(ho:o.op=.call c)(n:c.callee=.builtin .len)(h:c.args= #[x])(j:c.argTypes[0]?=some t)(f:P.underlying t=some .string)
  (u:c8 x=some Z) (v:ev B Z=.one (.p (.str s))):gN P T a.eval o m (.one (.p (.int .i64 s.size))) []:=by
 have H:=fD u hr;rw[v]at H;refine .calm aD ?_ (nM (.int _ _));simp[execOp,ho,resolve,n,h,invoke,builtin,Builtin.len_,j,Ku H,run_underlying f,goInt]
theorem akB{c:Call}{y:Operand}{k v:IntKind}{p q:Int}(ho:o.op=.call c)(u:c.callee=.builtin .max)(h:c.args= #[x,y])
  (z:c8 x=some Z) (H:c8 y=some y') (n:ev B Z=.one (.p (.int k p))) (j:ev B y'=.one (.p (.int v q))):gN P T a.eval o m (.one (.p (.int k (if q>p then q else p)))) []:=by
 have g1:=fD z hr;have f:=fD H hr;rw[n]at g1;rw[j]at f;refine .calm aD ?_ (nM (.int _ _));simp[execOp,ho,resolve,u,h,invoke,builtin,Builtin.max_,Builtin.max2,Bm g1,Bm f]
theorem apC{c:Call}{y:Operand}{k v:IntKind}{p q:Int}(ho:o.op=.call c)(u:c.callee=.builtin .min)(h:c.args= #[x,y])
  (z:c8 x=some Z) (H:c8 y=some y') (n:ev B Z=.one (.p (.int k p))) (j:ev B y'=.one (.p (.int v q))):gN P T a.eval o m (.one (.p (.int k (if q<p then q else p)))) []:=by
 have g1:=fD z hr;have f:=fD H hr;rw[n]at g1;rw[j]at f;refine .calm aD ?_ (nM (.int _ _));simp[execOp,ho,resolve,u,h,invoke,builtin,Builtin.min_,Builtin.min2,Bm g1,Bm f]
end
section
variable{j:Nat}
theorem amY:∀(u:jU) (blk:aG) (id:Nat),(app u blk id=blk id/\ ∀e∈u,e.1≠id)\/ ∃e∈u,e.1=id/\app u blk id=e.2:=by
 intro u
 induction u with
 |nil=>intro blk id;exact .inl ⟨rfl,λe h=>by simp at h⟩
 |cons x r n=>
  intro blk id;obtain⟨i,o⟩:=x;simp only[app];rcases n _ id with⟨f,j⟩|⟨e,m,f,j⟩
  .by_cases H:id=i
   .exact .inr ⟨(i,o),aH,H.symm,by rw[f];simp[ba,H]⟩
   refine .inl ⟨by rw[f];simp[ba,H],λe m=>?_⟩
   grind
  grind
theorem Jh{α β γ:Type}{f:α->Option (β×aC)}{R:α->γ->Prop}{T:β->γ->Prop}{eO:aC->Prop}(n:∀a b,eO (a++b)->eO a/\eO b)
  (hf:∀a b r v,f a=some (b,r)->R a v->eO r->T b v):∀ {N:List α}{y:List β}{r:aC}{F:List γ},gO f N=some (y,r)->eO r->
  (I F=I N/\ ∀(j:Nat) (x:α) (u:γ),N[j]?=some x->F[j]?=some u->R x u)->(I F=I y/\ ∀(j:Nat) (x:β) (u:γ),y[j]?=some x->F[j]?=some u->T x u):=by
 intro N
 induction N with
 |nil=>
  intro y r F h _ hr;simp[gO]at h
  grind
 |cons x t B=>
  intro y r F h hg hr;simp[gO]at h;split at h
  .rename_i b p D q A E;cases h;obtain⟨g1,m⟩:=n _ _ hg;cases F with
   |nil=>simp at hr
   |cons v us=>
    obtain⟨hl,H⟩:=B E m ⟨by simpa using hr.1,λj x u a b=>hr.2 (j+1) x u (by grind) (by simpa using b)⟩;refine⟨by simp[hl],λj z u a b=>?_⟩;cases j with
    |zero=>simp at a b;subst a b;exact hf _ _ _ _ A (hr.2 0 x v rfl rfl) g1
    |succ j=>simp at a b;exact H j z u a b
  cases h
def vM(m:aW)(own:Nat->Prop)(r:aC):Prop:=(∀b,own b->m.own b)/\ ∀id∈r,¬own (m.σ id)
theorem vM.app{own:Nat->Prop}{a b:aC}(h:vM m own (a++b)):vM m own a/\vM m own b:=
 ⟨⟨h.1,λid H=>h.2 id (by simp[H])⟩,⟨h.1,λid H=>h.2 id (by simp[H])⟩⟩
theorem cU.less{w:World}{own:Nat->Prop}(h:∀b,Bq b->own b){x:PV}{v:Value}(hr:cU w own x v):cU w Bq x v:=hr.mono λc _ H=>⟨rfl,λho=>H (h c ho)⟩
theorem dX.less{w:World}{own:Nat->Prop}(h:∀b,Bq b->own b){x:dF}{v:List Value}(hr:dX w own x v):dX w Bq x v:=⟨hr.1,λj x u a b=>(hr.2 j x u a b).less h⟩
theorem aix{α:Type}{N:List α}{R:α->Value->Prop}(h:Pw R N F):∃f:Nat->Value,∀(j:Nat) (x:α),N[j]?=some x->F[j]?=some (f j)/\R x (f j):=by
 refine⟨λj=>F.getD j undef,λj x H=>?_⟩;have:F[j]?=some (F.getD j undef):=by simp[List.getD,re (by rw[h.1];exact(bd.1 H).1)]
 exact⟨this,h.2 j x _ H this⟩
theorem XZ{w:World}{own:Nat->Prop}{b o:Nat}{ps:dF}(n:w.heap[b]?=some (.cells H L Y))(hp:Pw (cU w own) ps (H.toList.drop o |>.take (I ps)))
  (ho:ps≠[]-> ¬own b):cU w own (.box ps) (.pointer (some ⟨b,o,none⟩)):=by
 obtain⟨f,hf⟩:=aix hp;refine .box b o f ho (λj x m=>?_) λj x m=>(hf j x m).2;have h:=(hf j x m).1;rw[pR]at h;split at h
 .rw[IC n];simpa using h
 cases h
theorem aaE{w:World}{own:Nat->Prop}{b o j:Nat}(u:w.heap[b]?=some (.cells H L Y))(n:∀e∈A,I e=j)
  (hl:I A<=O) (hm:O<=maxLen) (hp:Pw (cU w own) A.flatten ((H.toList.drop o).take (I A*j))) (ho:¬own b):cU w own (.sl A) (.slice (some ⟨b,o,none⟩) (I A) O):=by
 obtain⟨f,hf⟩:=aix hp;refine .sl b o O j f (λ_=>ho) hl hm n (λv x m=>?_) λv x m=>(hf v x m).2;have h:=(hf v x m).1;rw[pR]at h;split at h
 .rw[IC u];simpa using h
 cases h
theorem Sf{α:Type}:∀ {A:List (List α)},(∀e∈A,I e=j)->∀(n:Nat),(A.drop n).flatten=A.flatten.drop (n*j):=by
 intro A
 induction A with
 |nil=>intro _ n;simp
 |cons e r f=>
  intro h n;cases n with
  |zero=>simp
  |succ n=>
   simp;rw[f (λx H=>h x (by simp[H])),Te,Vh (by rw[h e aH,j9];omega:I e<=(n+1)*j),fz]
   grind
theorem HP{α:Type}:∀ {A:List (List α)},(∀e∈A,I e=j)->∀(n:Nat),(A.take n).flatten=A.flatten.take (n*j):=by
 intro A
 induction A with
 |nil=>intro _ n;simp
 |cons e r f=>
  intro h n;cases n with
  |zero=>simp
  |succ n=>
   simp;have H:=h e aH;rw[f (λx m=>h x (by simp[m])),Ii,fL (by rw[H,j9];omega:I e<=(n+1)*j)]
   grind
theorem EU{α:Type}{R:α->Value->Prop}{len:Nat}{A:List (List α)}{H:List Value}(n:∀e∈A,I e=j)(h:Pw R A.flatten (H.take (I A*j)))(f:E+len<=I A):
  Pw R ((A.drop E).take len).flatten ((H.drop (E*j)).take (I ((A.drop E).take len)*j)):=by
 have m:I ((A.drop E).take len)=len:=by simp;omega
 rw[m,HP (λe u=>n e (zZ u)),Sf n];have x:=(h.drop (E*j)).take (len*j);have v:((H.take (I A*j)).drop (E*j)).take (len*j)=(H.drop (E*j)).take (len*j):=by
  rw[List.drop_take,D5];congr 1;have:E*j+len*j<=I A*j:=by rw[<-j9];exact mV _ f
  omega
 rwa[v]at x
theorem XG{α:Type}{R:α->Value->Prop}:∀ {ps:List (List α)}{H:List Value},(∀e∈ps,I e=j)->I ps*j<=I H->
  (∀(m:Nat) (e:List α),ps[m]?=some e->Pw R e ((H.drop (m*j)).take j))->Pw R ps.flatten (H.take (I ps*j)):=by
 intro ps
 induction ps with
 |nil=>intro H _ _ _;exact⟨aH,λm x u a=>by simp at a⟩
 |cons e r z=>
  intro H h hl hp;simp[fG,j9,G_]at hl;have f:=hp 0 e rfl;rw[CD,Kh]at f;have A:=z (H:=H.drop j) (λx n=>h x (by simp[n])) (by grind) λm x n=>by have:=hp (m+1) x (by grind);rw[j9,G_]at this;rw[MV,S1 j];exact this
  have v:=f.append A;have y:H.take j++(H.drop j).take (I r*j)=H.take (I (e::r)*j):=by rw[fG,j9,G_,S1,List.take_add]
  rwa[y]at v
theorem Xd{α:Type}{R:α->Value->Prop}{i:Nat}{A:List (List α)}{e:List α}{H:List Value}(f:∀e∈A,I e=j)(h:Pw R A.flatten (H.take (I A*j)))(m:A[i]?=some e):
  Pw R e ((H.drop (i*j)).take j):=by
 have n:=(bd.1 m).1;have u:=EU (E:=i) (len:=1) f h J;have v:((A.drop i).take 1)=[e]:=by
  rw[L5 n]
  grind
 grind
theorem Zm{α β:Type}{f:α->Option (β×aC)}:∀ {N:List α}{y:List β}{r:aC},gO f N=some (y,r)->I y=I N:=by
 intro N
 induction N with
 |nil=>intro y r h;simp[gO]at h;rw[h.1];rfl
 |cons x t j=>
  intro y r h;simp[gO]at h
  grind
theorem Uv{α β:Type}{f:α->Option (β×aC)}:∀ {N:List α}{Y:List β}{r:aC},gO f N=some (Y,r)->∀ {j:Nat}{y:β},Y[j]?=some y->∃x q,N[j]?=some x/\f x=some (y,q)/\ ∀i∈q,i∈r:=by
 intro N
 induction N with
 |nil=>intro Y r h j y H;simp[gO]at h;rw[h.1]at H;simp at H
 |cons x t m=>
  intro Y r h j y H;simp[gO]at h
  grind
theorem Je(aD:dP T m){own:Nat->Prop}:∀(n:Nat) {c:a7}{x:PV}{r:aC}{v:Value},snap m.blk n c=some (x,r)->fC m c v->vM m own r->cU m.w own x v:=by
 intro n
 induction n with
 |zero=>intro c x r v h;simp[snap]at h
 |succ n ih=>
  intro c x r v h hr ae;have Rr:∀ {D:dY}{ps:dF}{q:aC}{F:List Value},gO (snap m.blk n) D=some (ps,q)->vM m own q->Pw (fC m) D F->Pw (cU m.w own) ps F:=λX Z h3=>Jh (T:=cU m.w own) (λa b h=>h.app) (λa b r v e1 e2 e3=>ih e1 e2 e3) X Z h3
  have RQ:∀ {ps:dF}{F:List Value},dX m.w m.own ps F->Pw (cU m.w own) ps F:=λh=>dX.pw.1 (h.less ae.1);unfold snap at h;cases c with
  |p y=>simp at h;obtain⟨rfl,rfl⟩:=h;obtain⟨hp⟩:=hr;exact hp.norm.less ae.1
  |bh id g E=>
   cases hr with
   |bh a hg ha=>
    simp only at h;split at h
    .rename_i g' D Q;split at h
     .rename_i jt;split at h
      .rename_i ps q hq;cases h;have bZ:(m.blk id).2=some (.var D):=by rw[Q]
       have ha:=ha (by rw[Q];exact jt) (by rw[bZ];rfl);subst ha;obtain⟨H,L,hh,hc⟩:=aD.obj id _ bZ;refine XZ hh ?_ λ_=>ae.2 id aH;have X:=(Rr hq ⟨ae.1,λi hi=>ae.2 i (by simp[hi])⟩ (dU.pw.1 hc)).drop E;rw[fL (by have:=X.1;omega)];exact X
      cases h
     cases h
    .rename_i g' ps Q;split at h
     .rename_i jt;cases h;have bZ:(m.blk id).2=some (.fvar ps):=by rw[Q]
      have ha:=ha (by rw[Q];exact jt) (by rw[bZ];rfl);subst ha;obtain⟨H,L,Y,hh,hc,_⟩:=aD.obj id _ bZ;refine XZ hh ?_ λ_=>ae.2 id aH;have X:=(RQ hc).drop E;rw[fL (by have:=X.1;omega)];exact X
     cases h
    cases h
  |dV id g i E=>
   cases hr with
   |dV a hg ha=>
    have ab:∀(L j:Nat) (A:dh) (e:dF) (H:Array Value) (Y:Nat×Nat),m.w.heap[m.σ id]?=some (.cells H L Y)->(∀e∈A,I e=j)->I A*j<=H.size->
      dX m.w m.own A.flatten (H.toList.take (I A*j))->A[i]?=some e->a=⟨m.σ id,i*j+E,none⟩-> ¬own (m.σ id)->cU m.w own (.box (e.drop E)) (.pointer (some a)):=by
     intro L j A e H Y hh N ac dT he A2 eI;subst A2;have hi:=(bd.1 he).1;have pJ:(i+1)*j<=I A*j:=mV _ hi;have X:=(EU (E:=i) (len:=1) N (RQ dT) J).drop E;have h0:((A.drop i).take 1)=[e]:=by rw[L5 hi];have:=(bd.1 he).2;simp[this]
     rw[h0]at X;simp only[vo,Sw,i_,fG,gk,jO,G_]at X;refine XZ hh ?_ λ_=>eI;have Z:(H.toList.drop (i*j+E)).take (I (e.drop E))=(((H.toList.drop (i*j)).take j).drop E):=by rw[List.drop_take,MV,pS,Mt N he]
     rw[Z];exact X
    simp only at h;split at h
    .rename_i g' L j A Q;split at h
     .rename_i jt;simp only[fH,me]at h;obtain⟨e,he,rfl,rfl⟩:=h;obtain⟨H,hh,ng,N,hl,hm,dK,dT⟩:=aD.obj id _ (by rw[Q]);exact ab L j A e H _ hh N (by rw[dK];exact mV _ hl) dT he (ha j (by rw[Q];exact jt) (by rw[Q];rfl)) (ae.2 id aH)
     cases h
    .rename_i g' L j A Q;split at h
     .rename_i jt;simp only[fH,me]at h;obtain⟨e,he,rfl,rfl⟩:=h;obtain⟨H,Y,hh,ng,N,hl,hm,dK,dT,_⟩:=aD.obj id _ (by rw[Q]);exact ab L j A e H _ hh N (by rw[dK];exact mV _ hl) dT he (ha j (by rw[Q];exact jt) (by rw[Q];rfl)) (ae.2 id aH)
     cases h
    cases h
  |hsl id g z E len=>
   cases hr with
   |hsl a O hg hl hm ha=>
    have ab:∀(L j:Nat) (A:dh) (H:Array Value) (Y:Nat×Nat),m.w.heap[m.σ id]?=some (.cells H L Y)->(∀e∈A,I e=j)->Pw (cU m.w own) A.flatten (H.toList.take (I A*j))->
      E+len<=I A->(E=0\/0<len->a=⟨m.σ id,E*j,none⟩)-> ¬own (m.σ id)->cU m.w own (.sl ((A.drop E).take len)) (.slice (some a) len O):=by
     intro L j A H Y hh N dT ap A2 eI;by_cases ac:len=0
     .subst ac;simp only[List.take_zero];exact .yS _ _ (λh=>by cases h) hm
     have:=A2 (.inr J);subst this;have am:I ((A.drop E).take len)=len:=by simp;omega
     have X:=aaE hh (λe he=>N e (zZ (BS he))) J hm (EU N dT ap) eI;rwa[am]at X
    simp only at h;split at h
    .rename_i g' L j A Q;split at h
     .rename_i hc;cases h;obtain⟨H,hh,ng,N,lI,rL,dK,dT⟩:=aD.obj id _ (by rw[Q]);exact ab L j A H _ hh N (RQ dT) hc.2 (by obtain⟨_,Z,_⟩:=ha j (by rw[Q];exact hc.1) (by rw[Q];rfl);rename_i e1 _;exact e1▸Z) (ae.2 id aH)
     cases h
    .rename_i g' L j A Q;split at h
     .rename_i hc;cases h;obtain⟨H,Y,hh,ng,N,lI,rL,dK,dT,_⟩:=aD.obj id _ (by rw[Q]);exact ab L j A H _ hh N (RQ dT) hc.2 (by obtain⟨_,Z,_⟩:=ha j (by rw[Q];exact hc.1) (by rw[Q];rfl);exact Z) (ae.2 id aH)
     cases h
    .rename_i g' L j A Q;split at h
     .rename_i hc;split at h
      .rename_i ps q hq;cases h;obtain⟨H,hh,ng,N,lI,rL,dK,dT⟩:=aD.obj id _ (by rw[Q]);have av:=EU N (dU.pw.1 dT) hc.2;have am:I ((A.drop E).take len)=len:=by simp;omega
       have cA:I ps=len:=by rw[Zm hq,am]
       have ad:len*j<=I (H.toList.drop (E*j)):=by
        simp;have X:E*j+len*j<=I A*j:=by rw[<-j9];exact mV _ hc.2
        have Z:I A*j<=m.κ id*j:=mV _ lI;omega
       have lV:∀(ak:Nat) (e:dF),ps[ak]?=some e->Pw (cU m.w own) e (((H.toList.drop (E*j)).drop (ak*j)).take j):=by intro ak e he;obtain⟨x,q',X,Z,h3⟩:=Uv hq he;exact Rr Z ⟨ae.1,λi hi=>ae.2 i (by simp[h3 i hi])⟩ (Xd (λe he=>N e (zZ (BS he))) av X)
       have FY:∀e∈ps,I e=j:=by intro e he;obtain⟨ak,hj⟩:=fX he;have:=(lV ak e hj).1;have X:(ak+1)*j<=len*j:=mV _ (by rw[<-cA];exact(bd.1 hj).1);rw[j9]at X;simp at this ad;omega
       by_cases ac:len=0
       .have:ps=[]:=Ra J;subst this;subst ac;exact .yS _ _ (λh=>by cases h) hm
       obtain⟨_,Z,_⟩:=ha j (by rw[Q];exact hc.1) (by rw[Q];rfl);rename_i e1 _;have A2:=Z (.inr J);subst A2;have sM:=aaE hh FY J hm (XG FY (by rw[cA];exact ad) lV) (ae.2 id aH);rwa[cA]at sM
      cases h
     cases h
    cases h
  |mN id g=>
   cases hr with
   |mN r' hg ha=>
    have ab:∀(ag:Bool) (A:yK) (M:Array MapEntry) (R:Nat),m.w.heap[m.σ id]?=some (.map M R)->M.size=I A->
      (∀(i:Nat) (q:PV) (v:dF) (e:MapEntry),A[i]?=some (q,v)->M[i]?=some e->cU m.w m.own q e.key/\ ∃g:Array Value,(ag->e.val=.agg g)/\(ag=false-> #[e.val]=g)/\dX m.w m.own v g.toList)->
      ¬own (m.σ id)->cU m.w own (.mp ag A) (.map (some (m.σ id))):=by
     intro ag A M R hh hl hc eI;have ar:∃G:Nat->Array Value,∀(i:Nat) (q:PV) (v:dF) (e:MapEntry),A[i]?=some (q,v)->M[i]?=some e->(ag->e.val=.agg (G i))/\(ag=false-> #[e.val]=G i)/\dX m.w m.own v (G i).toList:=by
      refine⟨λi=>match M[i]? with|some e=>(match e.val with| .agg g=>if ag then g else #[e.val]|v=> #[v])|none=> #[],λi q v e X Z=>?_⟩;obtain⟨_,g,g1,g2,g3⟩:=hc i q v e X Z;simp only[Z];cases ag with
      |true=>have:=g1 rfl;simp[this];exact g3
      |false=>
       have:=g2 rfl;subst this;refine⟨(λh=>by cases h),(λ_=>?_),?_⟩
       .cases e.val<;>rfl
       cases hv:e.val<;>simp only[hv]at g3<;>exact g3
     obtain⟨G,hG⟩:=ar;refine .mp (m.σ id) M R G eI hh hl (λi q v e X Z=>((hc i q v e X Z).1).less ae.1) (λi q v e X Z=>?_) λi q v ak x u X Z h3=>?_
     .obtain⟨a1,a2,a3⟩:=hG i q v e X Z;exact⟨by have:=a3.1;simpa using this,a1,a2⟩
     obtain⟨a1,a2,a3⟩:=hG i q v _ X (Zr (by rw[hl];exact(bd.1 X).1));exact(a3.2 ak x u Z (by rw[Jn];exact h3)).less ae.1
    simp only at h;split at h
    .rename_i g' ag A Q;split at h
     .rename_i jt;cases h;have bZ:(m.blk id).2=some (.map ag A):=by rw[Q]
      have ha:=ha (by rw[Q];exact jt) (by rw[bZ];rfl);subst ha;obtain⟨M,R,hh,hl,hc⟩:=aD.obj id _ bZ;exact ab ag A M R hh hl hc (ae.2 id aH)
     cases h
    .rename_i g' ag A Q;split at h
     .rename_i jt;cases h;have bZ:(m.blk id).2=some (.fmap ag A):=by rw[Q]
      have ha:=ha (by rw[Q];exact jt) (by rw[bZ];rfl);subst ha;obtain⟨M,R,hh,hl,hc,_⟩:=aD.obj id _ bZ;exact ab ag A M R hh hl hc (ae.2 id aH)
     cases h
    cases h
  |hfn f a b=>
   cases hr with
   |hfn az B hA hB w9 oF=>
    simp only at h;split at h
    .rename_i xa ra xb eh X Z;cases h;obtain⟨s1,s2⟩:=ae.app;have p1:=Rr (F:=az.toList) X s1 ⟨by simpa using hA,λak x u p q=>w9 ak x u p (by rw[<-Jn];exact q)⟩;have p2:=Rr (F:=B.toList) Z s2 ⟨by simpa using hB,λak x u p q=>oF ak x u p (by rw[<-Jn];exact q)⟩;exact .fn az B (by have:=p1.1;simpa using this) (by have:=p2.1;simpa using this) (λak x u p q=>p1.2 ak x u p (by rw[Jn];exact q)) λak x u p q=>p2.2 ak x u p (by rw[Jn];exact q)
    cases h
end
theorem awW{blk:aG}{all:aC}:∀ {l:aC}{u:jU},tL blk all l=some u->
  (∀e∈u,e.1∈l/\ ∃x,xy blk all e.1=some x/\e∈x)/\ ∀id∈l,∃x,xy blk all id=some x/\ ∀e∈x,e∈u:=by
 intro l
 induction l with
 |nil=>intro u h;simp[tL]at h;subst h;exact⟨λe h=>by simp at h,λid h=>by simp at h⟩
 |cons i r j=>
  intro u h;simp[tL]at h;split at h
  .rename_i a b m f;cases h;obtain _:=j f;have H:∀e∈a,e.1=i:=by
    intro e n;unfold xy at m
    grind
   grind
  cases h
def JT(blk:aG)(all:aC):fZ->fZ->Prop
 | .var D,.fvar ps=>∃r,gO (snap blk iC) D=some (ps,r)/\ ∀i∈r,i∈all
 | .arr L j A,.sE T F f=>T=L/\F=j/\f=A
 | .kG L j A,.sE T F ps=>T=L/\F=j/\ ∃r,gO (gO (snap blk iC)) A=some (ps,r)/\ ∀i∈r,i∈all
 | .map h A,.fmap u f=>u=h/\f=A
 |_,_=>False
theorem JT.facts{blk:aG}{all:aC}{o O:fZ}(h:JT blk all o O)(g:Nat):o.gT/\O.gT=false/\kZ (g,some O)=kZ (g,some o):=by
 cases o<;>cases O<;>simp[JT]at h<;>first
  |exact h.elim
  |exact⟨rfl,rfl,rfl⟩
  |exact⟨rfl,rfl,by simp[kZ,h.2.1]⟩
theorem Z0{blk:aG}{all:aC}{id:Nat}{x:jU}(h:xy blk all id=some x):
  (∃o,(blk id).2=some o/\o.gT=false/\x=[])\/ ∃o O,(blk id).2=some o/\JT blk all o O/\x=[(id,((blk id).1,some O))]:=by
 unfold xy at h;split at h
 .rename_i g D H;split at h
  .rename_i ps r m;split at h
   .rename_i u;cases h;refine .inr ⟨.var D,.fvar ps,by rw[H],⟨r,m,λi v=>?_⟩,by rw[H]⟩
    grind
   cases h
  cases h
 .rename_i g L j A H;cases h;exact .inr ⟨.arr L j A,.sE L j A,by rw[H],⟨rfl,rfl,rfl⟩,by rw[H]⟩
 .rename_i g L j A H;split at h
  .rename_i ps r m;split at h
   .rename_i u;cases h;refine .inr ⟨.kG L j A,.sE L j ps,by rw[H],⟨rfl,rfl,r,m,λi v=>?_⟩,by rw[H]⟩
    grind
   cases h
  cases h
 .rename_i g f A H;cases h;exact .inr ⟨.map f A,.fmap f A,by rw[H],⟨rfl,rfl⟩,by rw[H]⟩
 .cases h
 rename_i y B E N z n;cases h;cases H:blk id with
 |mk g o=>
  cases o with
  |none=>exact(n g H).elim
  |some o=>
   refine .inl ⟨o,rfl,?_,rfl⟩;cases o with
   |var D=>exact(B g D H).elim
   |arr L j A=>exact(E g L j A H).elim
   |kG L j A=>exact(N g L j A H).elim
   |map f A=>exact(z g f A H).elim
   |_=>rfl
def aW.with(m:aW)(u:jU):aW:={m with blk:=app u m.blk}
theorem xL{ids:aC}(h:sT m.blk ids=some u)(id:Nat):
  ((m.with u).blk id=m.blk id/\(id∈ids->∃o,(m.blk id).2=some o/\o.gT=false))\/
  (id∈ids/\ ∃o O,(m.blk id).2=some o/\JT m.blk ids o O/\(m.with u).blk id=((m.blk id).1,some O)):=by
 obtain⟨z,j⟩:=awW h;rcases amY u m.blk id with⟨E,f⟩|⟨e,y,E,f⟩
 .refine .inl ⟨E,λH=>?_⟩;obtain⟨x,n,v⟩:=j id H;rcases Z0 n with⟨o,a,b,_⟩|⟨o,O,a,b,c⟩
  .exact⟨o,a,b⟩
  exact(f (id,(m.blk id).fst,some O) (v _ (by grind)) rfl).elim
 obtain⟨k1,x,k2,k3⟩:=z e y;rw[E]at k1 k2;rcases Z0 k2 with _|⟨o,O,a,b,c⟩
 .grind
 rw[c]at k3;simp at k3;refine .inr ⟨k1,o,O,a,b,?_⟩;simp[aW.with];rw[f,k3]
theorem TA{ids:aC}(h:sT m.blk ids=some u){c:Nat}(j:(m.with u).own c):m.own c:=by
 rcases j with j|⟨id,o,H,f,n⟩
 .exact .inl j
 rcases xL h id with⟨e,_⟩|⟨_,p,q,a,b,e⟩
 .rw[e]at H;exact .inr ⟨id,o,H,f,n⟩
 rw[e]at H;cases H;rw[(b.facts 0).2.1]at f;cases f
theorem Zd(aD:dP T m){ids:aC}(h:sT m.blk ids=some u):vM m (m.with u).own ids:=by
 refine⟨λb y=>TA h y,λid n j=>?_⟩;rcases xL h id with⟨e,z⟩|⟨_,o,O,a,b,e⟩
 .obtain⟨o,ho,hm⟩:=z n;exact(aD.obj id o ho).calm hm (TA h j)
 rcases j with j|⟨F,q,H,f,x⟩
 .exact(aD.gh id o a (b.facts 0).1).2 j
 by_cases v:F=id
 .subst v;rw[e]at H;cases H;rw[(b.facts 0).2.1]at f;cases f
 rcases xL h F with⟨E,_⟩|⟨_,D,Q,A,B,E⟩
 .rw[E]at H;exact v (aD.inj F id q o H f a (b.facts 0).1 x)
 rw[E]at H;cases H;rw[(B.facts 0).2.1]at f;cases f
theorem XC{m:aW}{ids:aC}{u:jU}(h:sT m.blk ids=some u):gy m (m.with u) where
 os:=rfl
 tape:=rfl
 output:=rfl
 size:=ct _
 keep _ _ _:=rfl
 gT c _ j:=by
  obtain⟨id,o,H,f,n⟩:=j;rcases xL h id with⟨e,_⟩|⟨_,p,q,a,b,e⟩
  .rw[e]at H;exact⟨id,o,H,f,n⟩
  rw[e]at H;cases H;rw[(b.facts 0).2.1]at f;cases f
 less c _ v j:=v (TA h j)
 gen id:=by rcases xL h id with⟨e,_⟩|⟨_,p,q,a,b,e⟩<;>rw[e]<;>exact ct _
 ref id x ae:=by
  rcases xL h id with⟨e,_⟩|⟨_,p,q,a,b,e⟩
  .rw[e]at ae |-;exact⟨ae,rfl,rfl,rfl⟩
  rw[e]at ae |-;refine⟨by rw[a];rfl,rfl,rfl,?_⟩;have H:m.blk id=((m.blk id).1,some p):=by rw[<-a]
  rw[(b.facts (m.blk id).1).2.2,<-H]
theorem aeF{m:aW}(aD:dP T m){ids:aC}{u:jU}(h:sT m.blk ids=some u):dP T (m.with u) where
 os:=aD.os
 tape:=aD.tape
 output:=aD.output
 size:=aD.size
 base:=aD.base
 obj id o ho:=by
  have eD:=XC h;have E:=Zd aD h;rcases xL h id with⟨e,_⟩|⟨ab,p,q,a,b,e⟩
  .rw[e]at ho;exact(aD.obj id o ho).ev eD.zero rfl rfl rfl
  rw[e]at ho;cases ho;have Q:=E.2 id ab;have R5:∀r:aC,(∀i∈r,i∈ids)->vM m (m.with u).own r:=λr hr=>⟨E.1,λi Z=>E.2 i (hr i Z)⟩;have R:=aD.obj id p a;cases p<;>cases o<;>simp only[JT]at b<;>first
   |exact b.elim
   |skip
  .obtain⟨r,D,hr⟩:=b;obtain⟨H,L,B,N⟩:=R;exact⟨H,L,(0,0),B,dX.pw.2 (Jh (T:=cU m.w (m.with u).own) (λa b h=>h.app) (λa b r v e1 X e3=>Je aD _ e1 X e3) D (R5 r hr) (dU.pw.1 N)),Q⟩
  .obtain⟨rfl,rfl,rfl⟩:=b;obtain⟨H,B,ng,y,hl,hm,N,dT⟩:=R;exact⟨H,(0,0),B,ng,y,hl,hm,N,dT.less E.1,Q⟩
  .obtain⟨rfl,rfl,r,D,hr⟩:=b;obtain⟨H,B,ng,y,hl,hm,N,dT⟩:=R;rename_i A _ j ps;have cA:=Zm D;have F:I ps*j<=I H.toList:=by
    have f:I A*j<=m.κ id*j:=mV _ hl;simp;rw[cA];omega
   have lV:∀(ac:Nat) (e:dF),ps[ac]?=some e->Pw (cU m.w (m.with u).own) e ((H.toList.drop (ac*j)).take j):=by intro ac e M;obtain⟨x,q',n,f,h3⟩:=Uv D M;exact Jh (T:=cU m.w (m.with u).own) (λa b h=>h.app) (λa b r v e1 X e3=>Je aD _ e1 X e3) f (R5 q' λi Z=>hr i (h3 i Z)) (Xd y (dU.pw.1 dT) n)
   have FY:∀e∈ps,I e=j:=by
    intro e M;obtain⟨ac,hj⟩:=fX M;have:=(lV ac e hj).1;have n:(ac+1)*j<=I ps*j:=mV _ ((bd.1 hj).1)
    grind
   exact⟨H,(0,0),B,ng,FY,by rw[cA];exact hl,hm,N,dX.pw.2 (XG FY F lV),Q⟩
  obtain⟨rfl,rfl⟩:=b;obtain⟨O,z,B,hl,D⟩:=R;exact⟨O,z,B,hl,λi q v e n f=>let ⟨p,g,g1,g2,g3⟩:=D i q v e n f;⟨p.less E.1,g,g1,g2,g3.less E.1⟩,Q⟩
 gh id o ho hm:=by
  rcases xL h id with⟨e,_⟩|⟨_,p,q,a,b,e⟩
  .rw[e]at ho;exact aD.gh id o ho hm
  rw[e]at ho;cases ho;rw[(b.facts 0).2.1]at hm;cases hm
 frlt:=aD.frlt
 inj id fV o o' n Y f m2 M:=by
  rcases xL h id with⟨e,_⟩|⟨_,p,q,a,b,e⟩
  .rcases xL h fV with⟨e',_⟩|⟨_,p',q',a',b',e'⟩
   .rw[e]at n;rw[e']at f;exact aD.inj id fV o o' n Y f m2 M
   rw[e']at f;cases f;rw[(b'.facts 0).2.1]at m2;cases m2
  rw[e]at n;cases n;rw[(b.facts 0).2.1]at Y;cases Y
section
variable{M:World}
def aW.mJ(m:aW)(M:World)(s c k:Nat)(o:fZ):aW:=(m.later M (· =c)).install s c k o
section
variable {m:aW} {M:World} {s c k:Nat} {o:fZ} (hg:iX m.w M) (iT:m.w.heap.size<=c) (pG:c<M.heap.size)
theorem Pl(aD:dP T m)(iT:m.w.heap.size<=c):(m.mJ M s c k o).fr=m.fr:=by
 funext x;simp only[aW.mJ,aW.install,aW.later];apply propext;constructor
 .grind
 intro h;exact⟨.inl h,λe=>by have:=aD.frlt x h;omega⟩
include hg iT
theorem OS:gy m (m.mJ M s c k o):=OY (GK hg λx h=>by subst h;exact iT) (.inr rfl) (.inl iT)
include pG
theorem SA(aD:dP T m)(ho:tF (m.mJ M s c k o) s o):dP T (m.mJ M s c k o):=R1 (Lo aD hg λx h=>by subst h;exact⟨iT,pG⟩) (.inr rfl) (nA aD.size iT) ho
end
theorem Hb{s c k:Nat}{o:fZ}:(m.mJ M s c k o).σ s=c:=by simp[aW.mJ,aW.install,ba]
theorem vg{s c k:Nat}{o:fZ}:(m.mJ M s c k o).κ s=k:=by simp[aW.mJ,aW.install,ba]
theorem apA{s c k:Nat}{o:fZ}:(m.mJ M s c k o).blk=app [(s,((m.blk s).1+1,some o))] m.blk:=rfl
theorem anW{s c k:Nat}{o:fZ}:(m.mJ M s c k o).w=M:=rfl
theorem Ux{s c L:Nat}(H:n<=O)(hm:O<=maxLen):
  cS (m.mJ M s c O (.arr L j A)) (.one (.hsl s ((m.blk s).1+1) j 0 n)) (.slice (some ⟨c,0,none⟩) n O):=by
 refine cS.one.2 (.hsl _ _ ?_ H hm λz f h=>?_)
 .simp[aW.mJ,aW.install,aW.later,ba]
 have:kZ ((m.mJ M s c O (.arr L j A)).blk s)=some j:=by simp[aW.mJ,aW.install,ba,kZ]
 rw[this]at h;cases h;refine⟨rfl,λ_=>?_,by rw[jO];exact vg.symm⟩;rw[Hb,CD]
theorem ar0{s c L:Nat}{A:List dY}(H:n<=O)(hm:O<=maxLen):
  cS (m.mJ M s c O (.kG L j A)) (.one (.hsl s ((m.blk s).1+1) j 0 n)) (.slice (some ⟨c,0,none⟩) n O):=by
 refine cS.one.2 (.hsl _ _ ?_ H hm λz f h=>?_)
 .simp[aW.mJ,aW.install,aW.later,ba]
 have:kZ ((m.mJ M s c O (.kG L j A)).blk s)=some j:=by simp[aW.mJ,aW.install,ba,kZ]
 rw[this]at h;cases h;refine⟨rfl,λ_=>?_,by rw[jO];exact vg.symm⟩;rw[Hb,CD]
theorem SP{t e:TypeId}{bytes:Nat}(h:AG P t=some (e,j,bytes,z)):
  ∃i v,P.underlying t=some (.slice e)/\P.info? e=some i/\i.size=j/\i.bytes=bytes/\(0<j/\0<bytes)/\i.zero=some v/\v.cells.size=j/\I z=j/\ ∀w own,dX w own z v.cells.toList:=by
 unfold AG at h;split at h
 .rename_i E m;split at h
  .rename_i i Z n H;split at h
   .rename_i f;cases h;obtain _:=L6 H
    grind
   cases h
  cases h
 cases h
theorem as5{R:PV->Value->Prop}{v:Array Value}(F:Pw R z v.toList)(y:v.size=j)(A:0<j):
  Pw R (List.replicate n z).flatten ((madeCells v (n*j)).toList.take (n*j)):=by
 have B:∀e∈List.replicate n z,I e=j:=λe m=>by rw[Vr m];exact by have:=F.1;simp at this;omega
 have H:(madeCells v (n*j)).toList.length=n*j:=by simp[size_madeCells]
 rw[fL J];refine⟨by rw[H,IE B];simp,λf x u p q=>?_⟩;have D:f<n*j:=by have:=(bd.1 q).1;omega
 have h:f/j<n:=by rw[Nat.div_lt_iff_lt_mul A];exact D
 have M:f%j<j:=cJ _ A;have m:(List.replicate n z)[f/j]?=some z:=by simp[h]
 have E:=GF B m M;rw[show f/j*j+f%j=f by rw[Pc];exact Tc f j]at E;rw[E]at p;have L:(madeCells v (n*j)).toList[f]?=some v[f%j]! :=by unfold madeCells;simp[D,y]
 rw[L]at q;cases q;refine F.2 _ x _ p ?_
 grind
section
variable {m:aW} {B:bj} {a:Act} {o:Oper} (aD:dP T m) (hr:jN m B a.tmps)
include aD hr
theorem aob{t e:TypeId}{l c:Operand}{L:eX}{s bytes:Nat}(ho:o.op=.makeSlice t l c)(Y:AG P t=some (e,j,bytes,z))(hl:c8 l=some L)(hc:c8 c=some c')
  (O:rF (ev B L)=some n) (hm:rF (ev B c')=some n) (y:n*bytes<=lS):
  gN P T a.eval o m (.one (.hsl s ((m.blk s).1+1) j 0 n)) [(s,((m.blk s).1+1,some (.arr e j (List.replicate n z))))]:=by
 obtain⟨i,v,u,F,ae,hb,⟨h,N⟩,E,R,mR,X⟩:=SP Y;obtain⟨k1,D⟩:=zd O (fD hl hr);obtain⟨k2,H⟩:=zd hm (fD hc hr);unfold lS at y;have f:n<=maxLen:=by have:n<=n*bytes:=O7 _ N;simp[maxLen];omega
 have A:(i.bytes:Int)*(n:Int)<=281474976710656:=by grind
 have Q:=run_make m.w t e i v u F E k1 k2 n n J (NU _) A (by simp[maxLen]at f;omega);simp[js,ae]at Q
 let M:=m.mJ (m.w.alloc (.cells (madeCells v.cells (n*j)) e)) s m.w.heap.size n (.arr e j (List.replicate n z))
 have Z:tF M s (.arr e j (List.replicate n z)):=by
  refine⟨_,by rw[Hb];exact heap_alloc_new m.w _,h,λx hx=>?_,?_,?_,?_,?_⟩
  .grind
  .rw[vg];simp
  .rw[vg];exact f
  .rw[vg,size_madeCells]
  rw[K7];exact dX.pw.2 (as5 (dX.pw.1 (X _ _)) R h)
 refine⟨_,M,.inl ?_,SA (iX.alloc _ _) (ct _) aH aD Z,OS (iX.alloc _ _) (ct _),Pl aD (ct _),rfl,Ux (ct _) f⟩;simp[execOp,ho,D,H,Q];rfl
theorem acD{lo j:Option Operand}{l:Nat}{b:Bool}(z:xH lo=some Ew)(F:xH j=some w7)(hl:s_ B 0 Ew=some l)(D:s_ B n w7=some h)
  (L:l<=h) (H:h<=O):(Instr.sliceBounds b n O (lo.map a.eval) (j.map a.eval) none).run P m.w=.ok (l,h,O) m.w:=by
 have f:(match j.map a.eval with|some v=>∃k,v=Value.int k (h:Int)|none=>h=n):=by
  cases j with
  |none=>simp[xH]at F;subst F;simp[s_]at D;simpa using D.symm
  |some x=>simp[xH,fH]at F;obtain⟨y,A,rfl⟩:=F;exact zd D (fD A hr)
 have E:(match lo.map a.eval with|some v=>∃k,v=Value.int k (l:Int)|none=>l=0):=by
  cases lo with
  |none=>simp[xH]at z;subst z;simp[s_]at hl;simpa using hl.symm
  |some x=>simp[xH,fH]at z;obtain⟨y,A,rfl⟩:=z;exact zd hl (fD A hr)
 generalize lo.map a.eval=N at E;generalize j.map a.eval=M at f;cases N with
 |none=>
  subst E;cases M with
  |none=>simp only at f;subst f;simp[Instr.sliceBounds]
  |some v=>obtain⟨k,rfl⟩:=f;simp[Instr.sliceBounds,Instr.sliceBound,asIntOf,H]
 |some u=>
  obtain⟨k,rfl⟩:=E;cases M with
  |none=>simp only at f;subst f;simp[Instr.sliceBounds,Instr.sliceBound,asIntOf,L]
  |some v=>obtain⟨Q,rfl⟩:=f;simp[Instr.sliceBounds,Instr.sliceBound,asIntOf,H,L]
theorem ala{t:TypeId}{lo j:Option Operand}{s:ByteArray}{l:Nat}(ho:o.op=.slice t x lo j none)(y:P.underlying t=some .string)
  (z:c8 x=some Z) (n:xH lo=some Ew) (F:xH j=some w7) (ae:ev B Z=.one (.p (.str s))) (hl:s_ B 0 Ew=some l) (v:s_ B s.size w7=some h) (u:l<=h) (H:h<=s.size):
  gN P T a.eval o m (.one (.p (.str (s.extract l h)))) []:=by
 have f:=fD z hr;rw[ae]at f;refine .calm aD ?_ (nM (.str _));simp[execOp,ho,Ku f,Instr.sliceAt,Instr.slice,run_underlying y,acD (aD:=aD) (hr:=hr) n F hl v u H]
theorem awe{t e:TypeId}{lo hi:Option Operand}{l:Nat}(ho:o.op=.slice t x lo hi none)(ht:P.underlying t=some (.slice e))(ab:wP P e=some j)
  (hx:c8 x=some Z) (iE:xH lo=some Ew) (FK:xH hi=some w7) (N:Av (ev B Z)=some n) (hl:s_ B 0 Ew=some l) (hh:s_ B n w7=some h)
  (H:EC (ev B Z) j l h=.done v [] []):gN P T a.eval o m v []:=by
 have M:=fD hx hr;unfold EC at H;split at H
 .cases H
 rename_i Kx;have run:∀(u:Option Addr) (O:Nat),a.eval x=.slice u n O->h<=O->(execOp a.eval o).run P m.w=.ok (.value (.slice (if O=l then u else u.map (·.add (l*j))) (h-l) (O-l))) m.w:=by intro u O kI R;simp[execOp,ho,kI,Instr.sliceAt,Instr.slice,run_underlying ht,acD (P:=P) (aD:=aD) (hr:=hr) (b:=true) iE FK hl hh (by simpa using Kx) R,RM ab]
 obtain⟨ap,ak,hsl,ac,qR⟩:=aaC (aD:=aD) (hr:=hr) N M;split at H
 .rename_i y;split at H
  .rename_i h0;cases H;rw[y]at M;have:=SC M;subst h0;have Q:l=0:=J;subst Q;rw[this]at hsl;cases hsl;refine .calm aD (run none 0 this (ct _)) ?_;simp;exact nM .nils
  cases H
 .rename_i A y;split at H
  .rename_i Y;cases H;rw[y]at M N;simp[Av]at N;subst N;obtain⟨hp⟩:fC m _ (a.eval x):=M;generalize hb:a.eval x=b at hp;generalize sQ:(PV.sl A)=pv at hp;cases hp<;>cases sQ
   .rename_i u O yz hm;simp at Y;have ag:h=0:=J;subst ag;have Q:l=0:=J;subst Q;refine .calm aD (run u O hb (bN _)) (nM ?_);simp only[List.drop_nil,List.take_nil,LA];refine .yS _ _ (λh=>?_) hm;split at h
    .exact yz h
    cases u with
    |none=>exact yz rfl
    |some u=>simp at h
   rename_i b' o' O fe f hm oD lI L wW Ek;refine .calm aD (run _ O hb J) (nM ?_);by_cases aB:l=h
   .subst aB;simp only[xf,List.take_zero];refine .yS _ _ (λh=>?_) J;split at h<;>simp at h
   have X:I ((A.drop l).take (h-l))=h-l:=by simp;omega
   have jk:A≠[]:=λe=>by subst e;simp at Y;omega
   have WT:fe=j:=by obtain⟨e0,r0,rfl⟩:=List.exists_cons_of_ne_nil jk;have g1:=L e0 aH;have g2:=Y.2;simp[jq]at g2;omega
   subst WT;rw[ai J];simp only[vp,Addr.add_lit];have Cj:=cU.sl (w:=m.w) (es:=(A.drop l).take (h-l)) b' (o'+l*fe) (O-l) fe (λam=>f (l*fe+am)) (λaN=>oD λe0=>aN ?_) J J (λe y=>L e (zZ (BS y))) ?_ ?_
   .rw[X]at Cj;exact Cj
   .apply Ra;rw[HP (λe y=>L e (zZ y)),Sf L,e0];simp
   .intro am z D;rw[HP (λe y=>L e (zZ y)),Sf L,pR]at D;split at D
    .rw[C0]at D;rw[yQ];exact wW _ z D
    cases D
   intro am z D;rw[HP (λe y=>L e (zZ y)),Sf L,pR]at D;split at D
   .rw[C0]at D;exact Ek _ z D
   cases D
  cases H
 .rename_i id g z E len y;split at H
  .rename_i Y;cases H;rw[y]at M N;simp[Av]at N;subst N;have fj:=M;generalize hb:a.eval x=b at fj;cases fj with
   |hsl u O hg Cb hm NS=>
    refine .calm aD (run _ O hb J) ?_;have WR:∃F,(if O=l then some u else(some u).map (·.add (l*j)))=some F/\(O≠l->F=u.add (l*j))/\(l=0->F=u):=by
     by_cases dS:O=l
     .exact⟨u,by simp[dS],λh=>(h dS).elim,λ_=>rfl⟩
     exact⟨u.add (l*j),by simp[dS],λ_=>rfl,λh=>by subst h;simp[Addr.add]⟩
    obtain⟨F,e1,e2,e3⟩:=WR;rw[e1];refine cS.one.2 (.hsl _ _ hg J J λs g1 g2=>?_);obtain⟨f1,f2,f3⟩:=NS s g1 g2;refine⟨f1,λCh=>?_,?_⟩
    .by_cases Q:l=0
     .subst Q;rw[e3 rfl,uX];refine f2 ?_;rcases Ch with h|h
      .exact .inl J
      exact .inr J
     have:0<h-l:=by rcases Ch with h|h<;>omega
     rw[e2 J,f2 (.inr J),Addr.add_lit,f1,Y.2,j9]
    omega
  cases H
 cases H
end
end
theorem axk(E:Nat):∀(F:List Value) (i:Nat) (cells:Array Value),E+i+I F<=cells.size->
  ((F.zipIdx i).foldl (λD (x:Value×Nat)=>D.setIfInBounds (E+x.2) x.1) cells).toList=fM cells.toList (E+i) F:=by
 intro F
 induction F with
 |nil=>intro i cells _;simp[fM]
 |cons v r j=>
  intro i cells h;simp only[fG]at h;simp only[List.zipIdx_cons,zg];rw[j (i+1) _ (by simp;omega)];unfold fM;rw[Array.toList_setIfInBounds];have A:E+i<I cells.toList:=by simp;omega
  have f:(cells.toList.set (E+i) v).take (E+(i+1))=cells.toList.take (E+i)++[v]:=by grind [Vj,List.take_set,L2]
  have m:(cells.toList.set (E+i) v).drop (E+(i+1)+I r)=cells.toList.drop (E+(i+1)+I r):=by rw[List.drop_set_of_lt J]
  rw[f,m];simp only[fG,kr,List.singleton_append];congr 3;omega
theorem ag0{place:Nat->Option (Nat×Nat)}{i:Nat}{v:Value}{R:List (Nat×Value)}{cells:Array Value}(hp:place i=some (E,n))(H:v.cells.size=n)(h:E+n<=cells.size):
  ∃m,Instr.fill place cells ((i,v)::R)=Instr.fill place m R/\m.toList=fM cells.toList E v.cells.toList:=by
 refine⟨v.cells.zipIdx.foldl (λD (x:Value×Nat)=>D.setIfInBounds (E+x.2) x.1) cells,?_,?_⟩
 .simp[Instr.fill,hp]
  grind
 rw[<-XD,Array.toList_zipIdx,axk E v.cells.toList 0 cells (by grind)];simp
theorem ajj{B:bj}{a:Act}(hr:jN m B a.tmps){place:Nat->Option (Nat×Nat)}{Z:Nat}:∀ {ps:List (Nat×Operand)}{qs:List (Nat×Nat×eX)}{rs:List (Nat×dY)}{D:dY}{cells:Array Value},
  Cs place Z ps=some qs->zq B qs=some rs->dU m D cells.toList->I D=Z->
  ∃M,Instr.fill place cells (ps.map λx=>(x.1,a.eval x.2))=some M/\dU m (Df D rs) M.toList:=by
 intro ps
 induction ps with
 |nil=>intro qs rs D cells H h f hl;simp[Cs]at H;subst H;simp[zq]at h;subst h;exact⟨cells,by simp[Instr.fill],by simpa [Df]using f⟩
 |cons p t T=>
  intro qs rs D cells H h f hl;obtain⟨i,x⟩:=p;simp only[Cs]at H;split at H
  .rename_i E n X q F Q A;split at H
   .rename_i y;cases H;simp only[zq]at h;split at h
    .rename_i Fs Y u L;split at h
     .rename_i v;cases h;have z:=W_ u (fD Q hr);have j:(a.eval x).cells.size=n:=by have:=z.1;simp at this;omega
      have O:=f.1;simp at O;obtain⟨M,R,N⟩:=ag0 F j (by omega:E+n<=cells.size);simp only[eQ,Df];rw[R];refine T A L ?_ (by rw[N_ J];exact hl);rw[N];exact dU.pw.2 ((dU.pw.1 f).fM (dU.pw.1 z) E)
     cases h
    cases h
   cases H
  cases H
theorem arP{α β:Type}{f:α->Sem β}{g:α->β}{w:World}:∀ {l:List α},(∀x∈l,(f x).run P w=.ok (g x) w)->(l.mapM f).run P w=.ok (l.map g) w:=by
 intro l
 induction l with
 |nil=>intro _;simp
 |cons x r h=>simp_all
theorem aAj{B:bj}{a:Act}(hr:jN m B a.tmps){place:Nat->Option (Nat×Nat)}(z:∀k,place k=some (k*j,j)):∀ {ps:List (Nat×Operand)}{as:sG}{A:List dY}{k:Nat}{done:List Value}{cells:Array Value},
  JS k ps=some as->Au B j as=some A->I done=k*j->cells.toList.take (k*j)=done->cells.size=(k+I as)*j->
  ∃M,Instr.fill place cells (ps.map λx=>(x.1,a.eval x.2))=some M/\ ∃F,M.toList=done++F/\dU m A.flatten F/\(∀e∈A,I e=j)/\I A=I as:=by
 intro ps
 induction ps with
 |nil=>intro as A k done cells H h y E ae;simp[JS]at H;subst H;simp[Au]at h;subst h;refine⟨cells,by simp[Instr.fill],[],?_,⟨aH,λab x u p=>by simp at p⟩,λe v=>by simp at v,rfl⟩;rw[<-E,i_,fL (by simp at ae |-;omega)]
 |cons p t ih=>
  intro as A k done cells H h y E ae;obtain⟨i,x⟩:=p;simp only[JS]at H;split at H
  .rename_i a' q hx T;split at H
   .rename_i L;cases H;subst L;simp only[Au]at h;split at h
    .rename_i Fs q' N Z;split at h
     .rename_i n;cases h;have R:=W_ N (fD hx hr);have f:(a.eval x).cells.size=j:=by have:=R.1;simp at this;omega
      simp only[fG]at ae;have Y:cells.size=i*j+j+I q*j:=by rw[ae,j9,j9];omega
      obtain⟨M,e1,O⟩:=ag0 (z i) f (by omega:i*j+j<=cells.size);have Q:I M.toList=cells.size:=by rw[O,N_ (by simp;omega)];simp
      obtain⟨D,X,F,f2,f3,f4,f5⟩:=ih (done:=done++(a.eval x).cells.toList) T Z (by simp[y,f,j9]) (by rw[O];unfold fM;rw[E,Sb (by simp[y,f,j9])];rw[fL (by simp[y,f,j9])]) (by simp at Q;rw[Q,Y,j9,j9];omega)
      simp only[eQ];rw[e1];refine⟨D,X,(a.eval x).cells.toList++F,by rw[f2,kr],?_,?_,by simp[f5]⟩
      .simp only[vo];exact dU.pw.2 ((dU.pw.1 R).append (dU.pw.1 f3))
      intro e v;rcases dt.1 v with rfl|v
      .exact n
      exact f4 e v
     cases h
    cases h
   cases H
  cases H
theorem azT:∀ {A:List dY}{qs:dh}{F:List Value}{j:Nat},BA A=some qs->(∀e∈A,I e=j)->dU m A.flatten F->dX m.w m.own qs.flatten F/\(∀e∈qs,I e=j)/\I qs=I A:=by
 intro A
 induction A with
 |nil=>intro qs F j h _ f;simp[BA]at h;subst h;exact⟨⟨f.1,λT x u p=>by simp at p⟩,λe E=>by simp at E,rfl⟩
 |cons e r L=>
  intro qs F j h H f;simp only[BA]at h;split at h
  .rename_i v O z n;cases h;simp only[vo]at f;have dV:=H e aH;have iT:=(dU.pw.1 f).take (I e);have pG:=(dU.pw.1 f).drop (I e);simp only[Hf,PH]at iT pG;have g1:=M3 z (dU.pw.2 iT);obtain⟨y,R,B⟩:=L n (λx D=>H x (by simp[D])) (dU.pw.2 pG);have M:I v=j:=by
    have N:=g1.1;have Q:=iT.1;omega
   refine⟨?_,?_,by simp[B]⟩
   .have:=(dX.pw.1 g1).append (dX.pw.1 y);rw[jC]at this;exact dX.pw.2 this
   grind
  cases h
section
variable {m:aW} {B:bj} {a:Act} {o:Oper} (aD:dP T m) (hr:jN m B a.tmps)
include aD hr
theorem alO{t:TypeId}{ps:Array (Nat×Operand)}{fs:Array Field}(ho:o.op=.build t ps)(j:P.underlying t=some (.struct fs))(N:zp P t=some z)
  (n:fs.all (λf=>(P.info? f.type).isSome)) (hp:Cs (λi=>(fs[i]?).map λf=>(f.offset,P.cellsOf f.type)) (I z) ps.toList=some qs) (y:zq B qs=some rs):
  gN P T a.eval o m (.agg (Df (z.map .p) rs)) []:=by
 obtain⟨v,i,u,h,ae,hl,D⟩:=L6 N;obtain⟨M,E,H⟩:=ajj hr hp y (D m.w m.own).ER aH;refine .calm aD ?_ (cS.agg.2 ⟨_,rfl,H⟩);have L:(fs.mapM (λf=>do pure (f.offset,<-sizeOf f.type):Field->Sem _)).run P m.w=.ok (fs.map λf=>(f.offset,P.cellsOf f.type)) m.w:=by
  rw[Array.mapM_eq_mapM_toList];have:=arP (P:=P) (f:=(λf=>do pure (f.offset,<-sizeOf f.type):Field->Sem (Nat×Nat))) (g:=λf=>(f.offset,P.cellsOf f.type)) (w:=m.w) (l:=fs.toList) (λf hf=>by
   have:=Array.all_eq_true_iff_forall_mem.1 n f (by grind);cases A:P.info? f.type with
   |none=>rw[A]at this;cases this
   |some i=>simp[sizeOf,typeInfo,A,Program.cellsOf])
  rw[Sem.run_map,this];simp only[Result.andThen_ok];congr 1;apply Array.ext';simp
 have F:Instr.fill (λx=>(fs.map λf=>(f.offset,P.cellsOf f.type))[x]?) v.cells (ps.map λx=>(x.1,a.eval x.2)).toList=some M:=by simpa using E
 simp only[execOp,ho,Instr.build,zeroValue,typeInfo,Sem.run_bind,run_program,Result.andThen_ok,u,h,Sem.run_pure,run_underlying j,L,F]
theorem azv{t e:TypeId}{ps:Array (Nat×Operand)}{i:TypeInfo}(ho:o.op=.build t ps)(j:P.underlying t=some (.array n e))(E:zp P t=some z)
  (H:P.info? e=some i) (hp:Cs (λk=>some (k*i.size,i.size)) (I z) ps.toList=some qs) (y:zq B qs=some rs):
  gN P T a.eval o m (.agg (Df (z.map .p) rs)) []:=by
 obtain⟨v,i',u,h,ae,hl,D⟩:=L6 E;obtain⟨M,A,f⟩:=ajj hr hp y (D m.w m.own).ER aH;refine .calm aD ?_ (cS.agg.2 ⟨_,rfl,f⟩);have F:Instr.fill (λk=>some (k*i.size,i.size)) v.cells (ps.map λx=>(x.1,a.eval x.2)).toList=some M:=by simpa using A
 simp only[execOp,ho,Instr.build,zeroValue,sizeOf,typeInfo,Sem.run_bind,run_program,Result.andThen_ok,u,H,h,Sem.run_pure,run_underlying j,F]
theorem awX{t e:TypeId}{bytes s:Nat}{ps:Array (Nat×Operand)}{as:sG}{A:List dY}(ho:o.op=.buildSlice t n ps)(he:AG P t=some (e,j,bytes,z))(hp:JS 0 ps.toList=some as)
  (hn:I as=n) (ac:n*j<=16777216) (hv:Au B j as=some A):
  (∀qs,BA A=some qs->gN P T a.eval o m (.one (.hsl s ((m.blk s).1+1) j 0 (I A))) [(s,((m.blk s).1+1,some (.arr e j qs)))])/\
  gN P T a.eval o m (.one (.hsl s ((m.blk s).1+1) j 0 (I A))) [(s,((m.blk s).1+1,some (.kG e j A)))]:=by
 obtain⟨i,v,R,Z,ae,hb,⟨y,_⟩,Bc,rR,mR,dT⟩:=SP he;subst hn;obtain⟨M,f1,F,L,Q,O,D⟩:=aAj (done:=[]) (cells:=(Array.range (I as*j)).map ((if I as*j=0 then #[]else v.cells)[· %(if I as*j=0 then #[]else v.cells).size]!)) hr (λ_=>rfl) hp hv aH aH aH;have X:(execOp a.eval o).run P m.w=.ok (.value (.slice (some ⟨m.w.heap.size,0,none⟩) (I A) (I A))) (m.w.alloc (.cells M e)):=by
  have u:Instr.fill (λk=>some (k*j,j)) ((Array.range (I as*j)).map ((if I as*j=0 then #[]else v.cells)[· %(if I as*j=0 then #[]else v.cells).size]!)) (ps.map λx=>(x.1,a.eval x.2)).toList=some M:=by simpa using f1
  have ab:¬(16777216<I as*j):=J;have f:¬(I as*j>2 ^ 24):=J;by_cases H:I as*j=0
  .simp only[an H]at u;simp only[execOp,ho,Instr.buildSlice,Sem.run_bind,run_underlying R,Result.andThen_ok,sizeOf,typeInfo,run_program,Z,Sem.run_pure,ae,ai f,an H,u,newRow,run_newObj,D];rfl
  simp only[ai H]at u;simp only[execOp,ho,Instr.buildSlice,Sem.run_bind,run_underlying R,Result.andThen_ok,sizeOf,typeInfo,run_program,Z,Sem.run_pure,ae,ai f,ai H,zeroValue,Bc,u,newRow,run_newObj,D];rfl
 simp at L;have Y:M.size=I A*j:=by
  have h1:=Q.1;rw[IE O]at h1;have:I M.toList=I F:=by rw[L]
  simp at this;omega
 have N:I A<=maxLen:=by have:I A<=I A*j:=O7 _ y;simp only[maxLen];rw[D]at this |-;omega
 have h:M.toList.take (I A*j)=F:=by rw[fL (by simp;omega),L]
 constructor
 .intro qs hq;have E:gy m (m.mJ (m.w.alloc (.cells M e)) s m.w.heap.size (I A) (.arr e j qs)):=OS (iX.alloc _ _) (ct _);obtain⟨g1,g2,g3⟩:=azT hq O (Q.ev E.zero);refine⟨_,m.mJ (m.w.alloc (.cells M e)) s m.w.heap.size (I A) (.arr e j qs),.inl X,SA (iX.alloc _ _) (ct _) aH aD ?_,E,Pl aD (ct _),rfl,Ux (ct _) N⟩;exact⟨M,by rw[Hb];exact heap_alloc_new m.w _,y,g2,by rw[vg,g3];exact ct _,by rw[vg];exact N,by rw[vg,Y],by rw[g3,h];exact g1⟩
 have E:gy m (m.mJ (m.w.alloc (.cells M e)) s m.w.heap.size (I A) (.kG e j A)):=OS (iX.alloc _ _) (ct _);refine⟨_,m.mJ (m.w.alloc (.cells M e)) s m.w.heap.size (I A) (.kG e j A),.inl X,SA (iX.alloc _ _) (ct _) aH aD ?_,E,Pl aD (ct _),rfl,ar0 (ct _) N⟩;exact⟨M,by rw[Hb];exact heap_alloc_new m.w _,y,O,by rw[vg];exact ct _,by rw[vg];exact N,by rw[vg,Y],by rw[h];exact Q.ev E.zero⟩
end
theorem Qo(a b:jU)(blk:aG):app (a++b) blk=app b (app a blk):=by
 induction a generalizing blk with
 |nil=>rfl
 |cons x r f=>obtain _:=x;simp;exact f _
theorem asC(hf:∀c,DP c->m.fr c){c:Nat}(h:({m with fr:=DP}:aW).own c):m.own c:=by
 rcases h with h|h
 .exact .inl (hf c h)
 exact .inr h
theorem af2(hf:∀c,DP c->m.fr c):gy m {m with fr:=DP}:=
 ⟨rfl,rfl,rfl,ct _,λ_ _ _=>rfl,λ_ _ h=>h,λ_ _ H h=>H (asC hf h),λ_=>ct _,λ_ _ h=>⟨h,rfl,rfl,rfl⟩⟩
theorem akU{m:aW}{DP:Nat->Prop}(h:dP T m)(hf:∀c,DP c->m.fr c):dP T {m with fr:=DP} where
 os:=h.os
 tape:=h.tape
 output:=h.output
 size:=h.size
 base:=h.base
 obj id o ho:=(h.obj id o ho).ev (af2 hf).zero rfl rfl rfl
 gh id o ho hm:=⟨(h.gh id o ho hm).1,λH=>(h.gh id o ho hm).2 (hf _ H)⟩
 frlt c H:=h.frlt c (hf c H)
 inj:=h.inj
theorem atM{m:aW}{M:World}{c:Nat}(h:dP T m)(j:m.fr c)(y:T.heap.size<=c)(v:M.os=m.w.os)(u:M.tape=m.w.tape)(O:M.output=m.w.output)(ae:M.heap.size=m.w.heap.size)
  (f:∀x,x≠c->M.heap[x]?=m.w.heap[x]?):dP T {m with w:=M} where
 os:=v.trans h.os
 tape:=u.trans h.tape
 output:=O.trans h.output
 size:=nA h.size (yV ae.symm)
 base x H:=(f x J).trans (h.base x H)
 obj id o ho:=by
  have A:m.σ id≠c:=by
   intro e;cases hm:o.gT with
   |true=>exact(h.gh id o ho hm).2 (e▸j)
   |false=>exact(h.obj id o ho).calm hm (.inl (e▸j))
  exact(h.obj id o ho).ev (m':={m with w:=M}) ⟨λx _ n=>⟨f x λe=>n (.inl (e▸j)),n⟩,λ_=>ct _,λ_ _ h=>⟨h,rfl,rfl,rfl⟩⟩ rfl rfl (f _ A)
 gh:=h.gh
 frlt x H:=by rw[show({m with w:=M}:aW).w.heap.size=m.w.heap.size from ae];exact h.frlt x H
 inj:=h.inj
theorem aeR(aD:dP T m){own:Nat->Prop}{x:V}{v:Value}{new:dh}{rd fr:aC}(h:gP m.blk x=some (new,rd,fr))(hv:cS m x v)(ae:vM m own fr):
  ∃ax cx,v=.slice ax (I new) cx/\(∀z,oa x=some z->∀e∈new,I e=z)/\
   (new≠[]->∃b o N,ax=some ⟨b,o,none⟩/\Pw (cU m.w own) new.flatten N/\ ∀(X:Nat) (u:Value),N[X]?=some u->m.w.cell? ⟨b,o+X,none⟩=some u):=by
 have row:∀(c E j len:Nat) (H:Array Value) (L:TypeId) (Y:Nat×Nat) (ps:dh),m.w.heap[c]?=some (.cells H L Y)->Pw (cU m.w own) ps.flatten ((H.toList.drop (E*j)).take (I ps*j))->
   ∃b o N,some (⟨c,E*j,none⟩:Addr)=some ⟨b,o,none⟩/\Pw (cU m.w own) ps.flatten N/\ ∀(X:Nat) (u:Value),N[X]?=some u->m.w.cell? ⟨b,o+X,none⟩=some u:=by
  intro c E j len H L Y ps hh hp;refine⟨c,E*j,_,rfl,hp,λX u Q=>?_⟩;rw[pR]at Q;split at Q
  .rw[IC hh];simpa using Q
  cases Q
 unfold gP at h;split at h
 .cases h;exact⟨none,0,SC hv,λz hz=>by simp[oa]at hz,λh=>(h rfl).elim⟩
 .rename_i A;cases h;obtain⟨hp⟩:fC m _ v:=hv;generalize sQ:(PV.sl new)=pv at hp;cases hp<;>cases sQ
  .exact⟨_,_,rfl,λz hz=>by simp[oa]at hz,λh=>(h rfl).elim⟩
  rename_i b o O j f hm ho hl B wW Ek;refine⟨_,_,rfl,λz hz=>by simp[oa]at hz,λ_=>⟨b,o,(List.range (I new.flatten)).map f,rfl,⟨aH,λX y u p q=>?_⟩,λX u q=>?_⟩⟩
  .rw[dy,sy ((bd.1 p).1)]at q;simp at q;subst q;exact(Ek X y p).less ae.1
  have Q:X<I new.flatten:=by have:=(bd.1 q).1;simpa using this
  rw[dy,sy Q]at q;simp at q;subst q;exact wW X _ (re Q)
 .rename_i id g z E len;cases hv with
  |hsl ad O hg hl hm NS=>
   split at h
   .rename_i g' L j A F;split at h
    .rename_i R;cases h;obtain⟨H,hh,ng,B,nN,qp,dK,dT⟩:=aD.obj id _ (by rw[F]);obtain⟨e1,e2,e3⟩:=NS j (by rw[F];exact R.1) (by rw[F];rfl);have M:I ((A.drop E).take len)=len:=by simp;omega
     refine⟨some ad,O,by rw[M],λz' qV e D=>?_,λaN=>?_⟩
     .simp[oa]at qV;subst qV;rw[<-e1];exact B e (zZ (BS D))
     have:0<len:=by
      cases len with
      |zero=>simp at aN
      |succ n=>omega
     rw[e2 (.inr this)];exact row (m.σ id) E j len H L _ _ hh (EU B (dX.pw.1 (dT.less ae.1)) R.2)
    cases h
   .rename_i g' L j A F;split at h
    .rename_i R;cases h;obtain⟨H,Y,hh,ng,B,nN,qp,dK,dT,_⟩:=aD.obj id _ (by rw[F]);obtain⟨e1,e2,e3⟩:=NS j (by rw[F];exact R.1) (by rw[F];rfl);have M:I ((A.drop E).take len)=len:=by simp;omega
     refine⟨some ad,O,by rw[M],λz' qV e D=>?_,λaN=>?_⟩
     .simp[oa]at qV;subst qV;rw[<-e1];exact B e (zZ (BS D))
     have:0<len:=by
      cases len with
      |zero=>simp at aN
      |succ n=>omega
     rw[e2 (.inr this)];exact row (m.σ id) E j len H L _ _ hh (EU B (dX.pw.1 (dT.less ae.1)) R.2)
    cases h
   .rename_i g' L j A F;split at h
    .rename_i R;split at h
     .rename_i ps q hq;cases h;obtain⟨H,hh,ng,B,nN,qp,dK,dT⟩:=aD.obj id _ (by rw[F]);obtain⟨e1,e2,e3⟩:=NS j (by rw[F];exact R.1) (by rw[F];rfl);have ab:I ((A.drop E).take len)=len:=by simp;omega
      have cA:I new=len:=by rw[Zm hq,ab]
      have Z:len*j<=I (H.toList.drop (E*j)):=by
       simp;have h1:E*j+len*j<=I A*j:=by rw[<-j9];exact mV _ R.2
       have h2:I A*j<=m.κ id*j:=mV _ nN;omega
      have lV:∀(X:Nat) (e:dF),new[X]?=some e->Pw (cU m.w own) e (((H.toList.drop (E*j)).drop (X*j)).take j):=by intro X e D;obtain⟨x,q',h1,h2,h3⟩:=Uv hq D;exact Jh (T:=cU m.w own) (λa b h=>h.app) (λa b r v e1 e2 e3=>Je aD _ e1 e2 e3) h2 ⟨ae.1,λi hi=>ae.2 i (h3 i hi)⟩ (Xd (λe D=>B e (zZ (BS D))) (EU B (dU.pw.1 dT) R.2) h1)
      have FY:∀e∈new,I e=j:=by intro e D;obtain⟨X,Q⟩:=fX D;have:=(lV X e Q).1;have h1:(X+1)*j<=len*j:=mV _ (by rw[<-cA];exact(bd.1 Q).1);rw[j9]at h1;simp at this Z;omega
      refine⟨some ad,O,by rw[cA],λz' qV e D=>?_,λaN=>?_⟩
      .simp[oa]at qV;subst qV;rw[<-e1];exact FY e D
      have:0<len:=by rw[<-cA];exact gA.2 aN
      rw[e2 (.inr this)];refine row (m.σ id) E j len H L _ _ hh ?_;rw[cA];have:=XG FY (by rw[cA];exact Z) lV;rwa[cA]at this
     cases h
    cases h
   split at h
   .rename_i qP;cases h;exact⟨some ad,O,by rw[qP];rfl,λz' _ e D=>by simp at D,λh=>(h rfl).elim⟩
   cases h
 cases h
theorem au8{w:World}{own:Nat->Prop}(h:Pw (cU w own) N F):∀u∈F,u.oneCell':=by intro v f;obtain⟨j,H⟩:=fX f;exact(h.2 j _ v (re (by rw[<-h.1];exact(bd.1 H).1)) H).O6
theorem OP{ids:aC}(h:sT m.blk ids=some u)(id:Nat):(app u m.blk id).1=(m.blk id).1:=by
 rcases xL h id with⟨e,_⟩|⟨_,p,q,a,b,e⟩
 .exact congrArg Prod.fst e
 have:=congrArg Prod.fst e;exact this
theorem akD{m:aW}{id:Nat}{o:fZ}{M:World}(ho:(m.blk id).2=some o)(hm:o.gT)(f:M.os=m.w.os)(H:M.tape=m.w.tape)(O:M.output=m.w.output)(ae:M.heap.size=m.w.heap.size)
  (h:∀x,x≠m.σ id->M.heap[x]?=m.w.heap[x]?):gy m {m.qf id with w:=M} where
 os:=f
 tape:=H
 output:=O
 size:=yV ae.symm
 keep c _ j:=h c λe=>j ⟨id,o,ho,hm,e.symm⟩
 gT:=(JR ho hm).gT
 less:=(JR ho hm).less
 gen:=(JR ho hm).gen
 ref:=(JR ho hm).ref
theorem azF{m:aW}(aD:dP T m){id s:Nat}{O:fZ}{v:Array Value}{L:Nat}{f:dh}(ho:(m.blk id).2=some O)(hm:O.gT)(Y:0<j)(R:M.os=m.w.os)(D:M.tape=m.w.tape)(A:M.output=m.w.output)(ae:M.heap.size=m.w.heap.size)
  (N:∀x,x≠m.σ id->M.heap[x]?=m.w.heap[x]?) (Z:M.heap[m.σ id]?=some (.cells v L (0,0))) (u:∀e∈f,I e=j) (hl:I f<=m.κ id) (B:m.κ id<=maxLen) (X:v.size=m.κ id*j)
  (hp:Pw (cU m.w m.own) f.flatten (v.toList.take (I f*j))):
  ∃n,n.w=M/\dP T n/\gy m n/\n.fr=m.fr/\n.blk=dN (dN m.blk id ((m.blk id).1,none)) s ((m.blk s).1+1,some (.arr L j f))/\
   cS n (.one (.hsl s ((m.blk s).1+1) j 0 (I f))) (.slice (some ⟨m.σ id,0,none⟩) (I f) (m.κ id)):=by
 have Q:=(aD.gh id O ho hm).1;have E:gy m ((({m.qf id with w:=M}:aW)).install s (m.σ id) (m.κ id) (.arr L j f)):=OY (akD ho hm R D A ae N) (.inr rfl) (.inr ⟨id,O,ho,hm,rfl⟩);have F:((({m.qf id with w:=M}:aW)).blk s).1=(m.blk s).1:=by
  simp[aW.qf,ba]
  grind
 have y:((({m.qf id with w:=M}:aW)).install s (m.σ id) (m.κ id) (.arr L j f)).σ s=m.σ id:=by simp[aW.install,ba]
 have H:((({m.qf id with w:=M}:aW)).install s (m.σ id) (m.κ id) (.arr L j f)).κ s=m.κ id:=by simp[aW.install,ba]
 refine⟨_,rfl,R1 (atM (abM aD ho hm) (.inr rfl) Q R D A ae N) (.inr rfl) Q ?_,E,?_,?_,?_⟩
 .exact⟨v,by rw[y];exact Z,Y,u,by rw[H];exact hl,by rw[H];exact B,by rw[H];exact X,dX.ev E.zero (dX.pw.2 hp)⟩
 .funext x;simp only[aW.install,aW.qf];apply propext;constructor
  .grind
  intro h;exact⟨.inl h,λe=>(aD.gh id O ho hm).2 (e▸h)⟩
 .simp[aW.install];rw[F];rfl
 refine cS.one.2 (.hsl _ _ ?_ hl B λz h1 h2=>?_)
 .simp[aW.install,ba,if_true];rw[F];exact ct _
 have:kZ (((({m.qf id with w:=M}:aW)).install s (m.σ id) (m.κ id) (.arr L j f)).blk s)=some j:=by simp[aW.install,ba,kZ]
 grind
theorem axx{P:Program}(w:World)(t L e:TypeId)(i:TypeInfo)(z:Value)(m:P.underlying t=some (.slice e))(x:P.info? e=some i)(y:i.zero=some z)
  (A:Option Addr) (a:Addr) (n c:Nat) (N:List Value) (hl:I N=n*i.size) (F:∀j v,N[j]?=some v->w.cell? (a.add j)=some v)
  (u:0<n) (H:(n:Int)<=9223372036854775807) (f:n*i.bytes<=281474976710656):
  (Builtin.append_ #[t,t] L #[.slice A 0 0,.slice (some a) n c]).run P w=
   .ok (.slice (some ⟨w.heap.size,0,none⟩) n (grownCap w n 0 e)) (w.drew.alloc (.cells (N.toArray++Builtin.zeroCells z.cells (grownCap w n 0 e-n)) e)):=by
 cases A with
 |none=>exact run_append_nil w t L e i z m x y a n c N hl F u H f
 |some b=>
  have h:=run_append_grow w t L e i z m x y b 0 0 [] aH (λj v h=>by simp at h) a n c N hl F J J (by rw[jO,nextslicecap_zero u];exact f)
  grind
theorem aam{v f:aW}{a:Act}{o:Oper}{F:jU}{s e h:Nat}{cells:List Value}{Z:Value}{W:World}
  (Q:(execOp a.eval o).run P m.w=.ok (.value (.slice (some ⟨f.w.heap.size,0,none⟩) (I A) h)) W)
  (y:f.w.drew.alloc (.cells (cells.toArray++Builtin.zeroCells Z.cells (h-I A)) e)=W)
  (u:dP T f) (Y:gy m f) (tV:f.fr=m.fr) (N:0<j) (R:Z.cells.size=j) (O:∀x∈A,I x=j) (D:I cells=I A*j)
  (he:gy v f) (tY:Pw (cU v.w v.own) A.flatten cells) (H:I A<=h) (B:h<=maxLen) (E:(f.blk s).1=(m.blk s).1) (X:app F m.blk=f.blk):
  gN P T a.eval o m (.one (.hsl s ((m.blk s).1+1) j 0 (I A))) (F++[(s,((m.blk s).1+1,some (.arr e j A)))]):=by
 have hg:iX f.w W:=by rw[<-y];exact(iX.drew _).trans (iX.alloc _ _)
 have n:gy f (f.mJ W s f.w.heap.size h (.arr e j A)):=OS hg (ct _);have z:=Ux (m:=f) (M:=W) (s:=s) (c:=f.w.heap.size) (L:=e) (j:=j) (A:=A) H B;rw[E]at z;refine⟨_,f.mJ W s f.w.heap.size h (.arr e j A),.inl Q,SA hg (ct _) (by rw[<-y];simp) u ⟨_,by rw[Hb,anW,<-y];exact heap_alloc_new f.w.drew _,N,O,by rw[vg];exact H,by rw[vg];exact B,?_,?_⟩,Y.trans n,(Pl u (ct _)).trans tV,by rw[Qo,apA,X,E],z⟩
 .rw[vg,Array.size_append,Vz,size_zeroCells,R,D,<-j9];congr 1;omega
 rw[Array.toList_append,List.toList_toArray,<-D,Hf];exact dX.ev (he.trans n).zero (dX.pw.2 tY)
section
variable {m:aW} {B:bj} {a:Act} {o:Oper} (aD:dP T m) (hr:jN m B a.tmps)
include aD hr
theorem aoH{c:Call}{d:Operand}{d':eX}{t e:TypeId}{s bytes:Nat}{rd:aC}(ho:o.op=.call c)(hc:c.callee=.builtin .append)(bc:c.args= #[d,x])(ja:c.argTypes= #[t,t])
  (he:AG P t=some (e,j,bytes,z)) (hd:c8 d=some d') (hx:c8 x=some Z) (f:iQ m.blk s e j bytes (ev B d') (ev B Z)=.done v u rd):gN P T a.eval o m v u:=by
 obtain⟨i,zv,ht,hi,ae,hb,⟨jd,NI⟩,Bc,Ie,mR,dT⟩:=SP he;have tZ:=fD hd hr;have l5:=fD hx hr;have run:∀(y:Value) (M:World),(Builtin.append_ #[t,t] o.type #[a.eval d,a.eval x]).run P m.w=.ok y M->(execOp a.eval o).run P m.w=.ok (.value y) M:=by intro y M h;simp[execOp,ho,resolve,hc,bc,ja,invoke,builtin,h]
 unfold iQ at f;split at f
 .cases f
 rename_i new bi fr dV;split at f
 .cases f
 rename_i a0;split at f
 .cases f
 rename_i L tW;have Cg:=aeF aD tW;have HA:=XC tW;have pK:=Zd aD tW;obtain⟨ax,cx,Cl,bb,FR⟩:=aeR aD dV l5 pK;have iS:∀e∈new,I e=j:=by
  have:oa (ev B Z)=some j\/jq j new:=Classical.not_not.1 a0;rcases this with h|h
  .exact bb j h
  intro e he;have:=mB.1 h e he
  simpa using this
 have Wn:I new.flatten=I new*j:=IE iS;have nz:∀ {az},a.eval d=.slice az 0 0-> ¬I new=0->I new*bytes<=lS->gN P T a.eval o m (.one (.hsl s ((m.blk s).1+1) j 0 (I new))) (L++[(s,((m.blk s).1+1,some (.arr e j new)))]):=by
  intro az uN N lZ;have aN:new≠[]:=λh=>N (by simp[h]);obtain⟨b,E,n,rfl,tY,Hw⟩:=FR aN;unfold lS at lZ;have mu:I n=I new*i.size:=by rw[tY.1,Wn,ae]
  have RW:I new<=maxLen/\(I new:Int)<=9223372036854775807:=by have:I new<=I new*bytes:=O7 _ NI;simp only[maxLen];omega
  have qq:=axx (P:=P) m.w t o.type e i zv ht hi Bc az ⟨b,E,none⟩ (I new) cx n mu (λaB v Y=>by rw[Addr.add_lit];exact Hw aB v Y) J RW.2 (by rw[hb];omega);exact aam (f:=m.with L) (run _ _ (by rw[uN,Cl];exact qq)) rfl Cg HA rfl jd Ie iS (mu.trans (by rw[ae])) (gy.refl _) tY (grownCap_ge m.w (I new) 0 e) (grownCap_le_maxLen m.w (I new) 0 e RW.1) (OP tW s) rfl
 split at f
 ·
  rename_i NN;rw[NN]at tZ;have uN:=SC tZ;split at f
  .rename_i N;cases f;refine⟨.slice none 0 0,m.with u,.inl (run _ _ ?_),Cg,HA,rfl,rfl,nM .nils⟩;rw[uN,Cl,N];cases ax<;>simp[Builtin.append_,run_underlying ht,sizeOf,typeInfo,hi,Builtin.lenOf,Builtin.firstCells,loadCells,loadCellsFrom,aW.with]
  rename_i N;split at f
  .rename_i lZ;cases f;exact nz uN N lZ
  cases f
 ·
  rename_i NN;rw[NN]at tZ;obtain⟨az,uN⟩:=awE tZ;split at f
  .cases f
  rename_i N;split at f
  .rename_i lZ;cases f;exact nz uN N lZ
  cases f
 .rename_i id g BJ len NN;rw[NN]at tZ;split at f
  .rename_i g' R F A X;split at f
   .rename_i tR;obtain⟨jt,rfl,rfl,ab,lZ,a4⟩:=tR;cases f;have a3:id∉fr:=by simpa using a4
    have de:(m.with L).blk id=m.blk id:=by
     rcases xL tW id with⟨e,_⟩|⟨ia,_⟩
     .exact e
     exact(a3 ia).elim
    have bZ:((m.with L).blk id).2=some (.arr R F A):=by rw[de,X]
    obtain⟨H,hh,_,ac,hl,mZ,dK,aL⟩:=Cg.obj id _ bZ;have ap:fC m _ (a.eval d):=tZ;generalize uN:a.eval d=dv at ap;cases ap with
    |hsl ad O hg Cb bk a5=>
     obtain⟨f1,f2,f3⟩:=a5 F (by rw[X];exact jt) (by rw[X];rfl);have Q:O=m.κ id:=by rw[<-f3,jO]
     have qh:=f2 (.inl rfl);rw[CD]at qh;subst qh;unfold lS at lZ;have vU:=OP tW s;have bg:=OP tW id;have NZ:len*F<=I A*F:=mV _ ab;have nN:I A*F<=m.κ id*F:=mV _ hl;have WE:Pw (cU (m.with L).w (m.with L).own) (A.take len).flatten (H.toList.take (len*F)):=by rw[HP ac];have h1:=(dX.pw.1 aL).take (len*F);rw[D5,v7 NZ]at h1;exact h1
     have a9:I (A.take len)=len:=by simp;omega
     have ag:∀x∈A.take len++new,I x=F:=by
      intro x hx;rcases iR.1 hx with hx|hx
      .exact ac x (BS hx)
      exact iS x hx
     have be:len+I new<=(len+I new)*bytes:=O7 _ NI;have xg:∀q:ae4,app (L++[(id,(g,none)),q]) m.blk=dN (dN (m.with L).blk id (((m.with L).blk id).1,none)) q.1 q.2:=by intro q;rw[Qo];simp only[app];rw[de,X,jt];rfl
     have FO:I (A.take len++new)=len+I new:=by rw[fU,a9]
     by_cases D:len+I new<=O
     ·
      have av:∀(M:World) (vH:Array Value),(execOp a.eval o).run P m.w=.ok (.value (.slice (some ⟨m.σ id,0,none⟩) (len+I new) O)) M->M.os=m.w.os->M.tape=m.w.tape->M.output=m.w.output->M.heap.size=m.w.heap.size->
        (∀x,x≠m.σ id->M.heap[x]?=m.w.heap[x]?)->M.heap[m.σ id]?=some (.cells vH R (0,0))->vH.size=H.size->Pw (cU (m.with L).w (m.with L).own) (A.take len++new).flatten (vH.toList.take ((len+I new)*F))->
        gN P T a.eval o m (.one (.hsl s ((m.blk s).1+1) F 0 (len+I new))) (L++[(id,(g,none)),(s,((m.blk s).1+1,some (.arr R F (A.take len++new))))]):=by
       intro M vH qq q1 q2 q3 q4 q5 q6 q7 q8;obtain⟨m',e1,e2,e3,e4,e5,e6⟩:=azF (s:=s) Cg bZ rfl jd q1 q2 q3 q4 q5 q6 ag (by rw[FO];rw[Q]at D;exact D) mZ (by rw[q7];exact dK) (by rw[FO];exact q8);rw[FO]at e6;have a1:((m.with L).blk s).1=(m.blk s).1:=vU;rw[a1]at e6 e5;refine⟨_,m',.inl (by rw[e1];exact qq),e2,HA.trans e3,e4,by rw[e5,xg],?_⟩;rw[Q];exact e6
      by_cases N:new=[]
      .subst N;have a2:(execOp a.eval o).run P m.w=.ok (.value (.slice (some ⟨m.σ id,0,none⟩) (len+I ([]:dh)) O)) m.w:=by
        apply run;rw[uN,Cl];have aF:len<=O:=Cb;cases ax<;>simp[Builtin.append_,run_underlying ht,sizeOf,typeInfo,hi,Builtin.lenOf,Builtin.firstCells,loadCells,loadCellsFrom,aF,storeCells]
       exact av m.w H a2 rfl rfl rfl rfl (λ_ _=>rfl) hh rfl (by simpa using WE)
      obtain⟨b,E,n,rfl,tY,Hw⟩:=FR N;have mu:I n=I new*i.size:=by rw[tY.1,Wn,ae]
      have ak:len*i.size+I n<=H.size:=by rw[mu,ae,dK,<-j9];rw[Q]at D;exact mV _ D
      have qq:=run_append_room (P:=P) m.w t o.type R i ht hi (m.σ id) len O H hh ⟨b,E,none⟩ (I new) cx n mu (λaB v Y=>by rw[Addr.add_lit];exact Hw aB v Y) (au8 tY) D ak;have a6:(execOp a.eval o).run P m.w=.ok (.value (.slice (some ⟨m.σ id,0,none⟩) (len+I new) O)) _:=run _ _ (by rw[uN,Cl];exact qq);have aZ:len*i.size<=H.size:=nA (Nat.le_add_right _ _) ak;refine av _ _ a6 ?_ ?_ ?_ ?_ (λx hx=>setRow_other m.w (m.σ id) x _ hx) (Qp hh) ?_ ?_
      .rfl
      .rfl
      .rfl
      .exact setRow_size m.w _ _
      .rw[Vz,fU,fU,jw,pS,J2];omega
      have h1:=WE.append tY;rw[<-Gx]at h1;have:(H.toList.take (len*i.size)++n++H.toList.drop (len*i.size+I n)).take ((len+I new)*F)=H.toList.take (len*F)++n:=by
       rw[ae];have dS:I (H.toList.take (len*F))=len*F:=by rw[jw,J2];rw[ae]at aZ;omega
       have Rq:I (H.toList.take (len*F)++n)=(len+I new)*F:=by rw[fU,dS,mu,ae,j9]
       rw[Sb (yV Rq.symm)];exact fL (yV Rq)
      simp only[List.toList_toArray]at this |-;rw[this];exact h1
     ·
      have N:new≠[]:=λe=>by subst e;simp at D;omega
      obtain⟨b,E,n,rfl,tY,Hw⟩:=FR N;have mu:I n=I new*i.size:=by rw[tY.1,Wn,ae]
      have ar:I (H.toList.take (len*F))=len*i.size:=by rw[ae,jw,J2];have bf:H.size=m.κ id*F:=dK;omega
      have qq:=run_append_grow (P:=P) m.w t o.type R i zv ht hi Bc ⟨m.σ id,0,none⟩ len O (H.toList.take (len*F)) ar (λaB v Y=>by
        rw[Addr.add_lit,jO];have:(m.w.cell? ⟨m.σ id,aB,none⟩)=H[aB]? :=IC hh;rw[this];rw[pR]at Y;split at Y
        .simpa using Y
        cases Y) ⟨b,E,none⟩ (I new) cx n mu (λaB v Y=>by rw[Addr.add_lit];exact Hw aB v Y) J J (growslice_fits J (by rw[hb];omega))
      have RW:len+I new<=maxLen:=by simp only[maxLen];omega
      have h1:=WE.append tY;rw[<-Gx]at h1;have am:gy (m.with L) {(m.with L).qf id with fr:=m.fr}:=(JR bZ rfl).trans (af2 (λc hc=>.inl hc));have aY:=aam (P:=P) (T:=T) (a:=a) (o:=o) (F:=L++[(id,(g,none))]) (s:=s) (e:=R) (m:=m) (f:={(m.with L).qf id with fr:=m.fr}) (A:=A.take len++new) (Z:=zv) (cells:=H.toList.take (len*F)++n) (h:=grownCap m.w (len+I new) O R) (W:=m.w.drew.alloc (.cells ((H.toList.take (len*F)++n).toArray++Builtin.zeroCells zv.cells (grownCap m.w (len+I new) O R-(len+I new))) R))
       (by rw[FO,<-List.append_toArray];exact run _ _ (by rw[uN,Cl];exact qq)) (by rw[FO];rfl) (akU (DP:=m.fr) (abM Cg bZ rfl) (λc hc=>.inl hc)) (HA.trans am) rfl jd Ie ag (by rw[fU,ar,mu,ae,FO,j9]) am h1 (by rw[FO];exact grownCap_ge m.w (len+I new) O R) (grownCap_le_maxLen m.w (len+I new) O R RW)
       (by simp only[aW.qf,ba];split<;>first|exact vU|(rename_i e';subst e';exact vU)) (by rw[Qo];show dN _ id (g,none)=dN _ id (((m.with L).blk id).1,none);rw[de,X,jt];rfl)
      rw[FO,kr]at aY;exact aY
   cases f
  cases f
 cases f
end
end Go.Abs
