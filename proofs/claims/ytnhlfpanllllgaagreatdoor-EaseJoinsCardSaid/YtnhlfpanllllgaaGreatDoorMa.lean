/-
  An abstract machine for the code of the model.
-/
import Derived.KernelRfl
import Derived.Calls
import Derived.WalkKit
set_option linter.all false
open List renaming length->I
namespace Go.Abs
variable{f g ln D N h:Nat}{x:Operand}{L:World}{CY FA:Nat->Prop}{E us:List Value}{F:Array Value}{H:TypeId}{Y:Nat×Nat}{place:Nat->Option (Nat×Nat)}
abbrev wV:=List UInt8
abbrev eH:=List Bool
abbrev cV:=List Int
abbrev aG:=List Nat
abbrev eh:=Option Nat
abbrev tK:=List (Nat×Nat)
abbrev sK:=List (Int×Int)
theorem J{p:Prop}(h:p:=by omega):p:=h
theorem U{p:Prop}(h:p:=by decide):p:=h
theorem aQ{p:Prop}(h:p:=by simp):p:=h
theorem ah{p:Prop}(h:p:=by kernel_rfl):p:=h
def aw:=@if_neg.{1}
def aH:=@if_pos.{1}
def ch:=@List.mem_of_getElem?.{0}
def cD:=@List.getElem?_eq_some_iff.{0}
def cE:=@Nat.zero_le
def cT:=@Nat.le_refl
def cH:=@List.length_map.{0,0}
def dj:=@Bool.and_eq_true
def dk:=@List.mem_cons.{0}
def dw:=@List.length_cons.{0}
def dI:=@beq_iff_eq.{0}
def dS:=@List.getD_eq_getElem?_getD.{0}
def eg:=@List.mem_map.{0,0}
def eK:=@List.length_nil.{0}
def eR:=@List.map_cons.{0,0}
def eU:=@Option.map_eq_some_iff.{0,0}
def eX:=@Bool.false_eq_true
def e_:=@List.take_of_length_le.{0}
def fc:=@List.mem_append.{0}
def fv:=@List.length_append.{0}
def fC:=@Nat.mod_lt
def fY:=@List.getElem?_map.{0,0}
def fN:=@List.nil_append.{0}
def gI:=@List.mem_range
def gU:=@of_decide_eq_false
def iu:=@List.not_mem_nil.{0}
def iL:=@Option.some.injEq.{0}
def iM:=@List.length_take.{0}
def iJ:=@List.take_add_one.{0}
def jr:=@List.length_pos_iff.{0}
def jn:=@Nat.le_of_ble_eq_true
def jv:=@Nat.mod_eq_of_lt
def jL:=@List.getElem?_of_mem.{0}
def jP:=@List.all_eq_true.{0}
def jN:=@List.take_length.{0}
def jS:=@List.map_nil.{0,0}
def jW:=@Nat.add_mul
def kA:=@Nat.zero_add
def kI:=@List.length_set.{0}
def kV:=@List.mem_singleton.{0}
def kB:=@decide_eq_true_eq
def lg:=@List.append_nil.{0}
def lI:=@List.flatten_cons.{0}
def l8:=@List.length_drop.{0}
def lK:=@List.length_reverse.{0}
def lU:=@List.map_append.{0,0}
def lX:=@Nat.le_trans
def mj:=@Prod.mk.injEq.{0,0}
def mN:=@List.all_cons.{0}
def mA:=@List.getElem?_set.{0}
def mO:=@Option.getD_some.{0}
def mP:=@Bool.not_eq_true'
def m_:=@Nat.lt_succ_iff_lt_or_eq
def mX:=@Nat.not_lt_zero
def ng:=@beq_eq_false_iff_ne.{0}
def lp:=@of_decide_eq_true
def nA:=@List.cons_append.{0}
def nN:=@List.getElem?_take.{0}
def oc:=@List.all_nil.{0}
def oG:=@Bool.or_eq_true
def oF:=@List.getElem?_eq_none.{0}
def ot:=@List.take_append_drop.{0}
def oH:=@Nat.mul_le_mul_right
def o9:=@List.map_map.{0,0,0}
def o0:=@List.nodup_cons.{0}
def qx:=@List.getElem?_range
def lq:=@Option.some.inj.{0}
def qX:=@Int.eq_ofNat_of_zero_le
def r5:=@Bool.and_true
def r9:=@List.range_succ
def sH:=@Bool.eq_iff_iff
def sT:=@List.getElem?_eq_getElem.{0}
def sQ:=@List.getElem_cons_drop.{0}
def se:=@Option.map_some.{0,0}
def tg:=@Bool.true_and
def s9:=@Int.toNat_natCast
def s5:=@List.append_assoc.{0}
def tA:=@List.nodup_nil.{0}
def tD:=@List.pairwise_cons.{0}
def tJ:=@decide_eq_false
def uE:=@List.length_eq_zero_iff.{0}
def vh:=@List.countP_cons.{0}
def vi:=@List.foldl_cons.{0,0}
def uQ:=@List.mem_filter.{0}
def wX:=@Bool.and_self
def vN:=@List.cons.injEq.{0}
def vH:=@List.countP_append.{0}
def vI:=@List.getElem?_append_right.{0}
def vW:=@not_or
def xk:=@List.countP_pos_iff.{0}
def v_:=@List.ext_getElem.{0}
def xf:=@List.map_set.{0,0}
def xo:=@List.mem_cons_of_mem.{0}
def wx:=@List.mem_of_mem_drop.{0}
def vX:=@Nat.add_zero
def wS:=@Nat.min_eq_left
def w6:=@Nat.mod_two_eq_zero_or_one
def xi:=@decide_eq_true
def xv:=@List.getElem?_append_left.{0}
def yt:=@List.getElem?_drop.{0}
def yk:=@List.mem_of_mem_take.{0}
def yK:=@List.pairwise_map.{0,0}
def yq:=@Nat.add_mod_right
def Dw:=@Nat.eq_of_beq_eq_true
def zl:=@Bool.not_true
def y_:=@List.ext_getElem?.{0}
def za:=@List.foldl_append.{0,0}
def zt:=@List.mem_append_right.{0}
def ze:=@Nat.sub_self
def zg:=@Nat.zero_mul
def Ak:=@List.drop_length.{0}
def Ax:=@List.map_congr_left.{0,0}
def AI:=@List.mem_append_left.{0}
def Ae:=@List.mem_filterMap.{0,0}
def Ac:=@List.pairwise_append.{0}
def Am:=@Nat.mod_self
def CD:=@beq_self_eq_true.{0}
def CH:=@Array.getD_eq_getD_getElem?.{0}
def DJ:=@Bool.false_or
def CJ:=@List.countP_map.{0,0}
def Bw:=@List.flatMap_cons.{0,0}
def CC:=@List.getElem_map.{0,0}
def Cq:=@List.length_range
def BI:=@List.nodup_append.{0}
def Bz:=@Nat.lt_of_lt_of_le
def CQ:=@List.any_eq_true.{0}
def D1:=@List.contains_iff_mem.{0}
def C6:=@List.flatten_append.{0}
def D5:=@List.nodup_range
def DB:=@Nat.le_max_left
def DE:=@Nat.le_of_eq
def E5:=@List.any_eq_false.{0}
def FJ:=@List.cons.inj.{0}
def Fo:=@List.flatten_nil.{0}
def E_:=@List.map_drop.{0,0}
def Ex:=@List.map_take.{0,0}
def EX:=@List.mem_flatten.{0}
def Eo:=@List.mem_of_find?_eq_some.{0}
def Es:=@List.take_succ_cons.{0}
def EU:=@List.take_take.{0}
def F7:=@Nat.add_assoc
def ES:=@Nat.le_max_right
def GH:=@Array.getElem?_toList.{0}
def GD:=@Bool.not_false
def HG:=@Bool.or_eq_false_iff
def Hi:=@List.countP_eq_zero.{0}
def Hn:=@List.countP_le_length.{0}
def Ih:=@List.drop_zero.{0}
def GU:=@List.find?_eq_none.{0}
def GQ:=@List.getElem_range
def Gx:=@List.getElem_set.{0}
def Ij:=@List.length_pos_of_mem.{0}
def HU:=@List.mem_cons_self.{0}
def Gf:=@List.pairwise_iff_getElem.{0}
def Gn:=@List.take_left.{0}
def H4:=@Nat.le_succ
def Gg:=@Nat.one_mul
def Ie:=@Nat.succ_mul
def HX:=@Option.map_none.{0,0}
def KX:=@Bool.and_assoc
def N9:=@Bool.not_not
def O_:=@List.contains_eq_mem.{0}
def Ka:=@List.countP_congr.{0}
def Kv:=@List.drop_eq_getElem_cons.{0}
def KN:=@List.filter_append.{0}
def IK:=@List.find?_some.{0}
def IH:=@List.foldl_nil.{0,0}
def IW:=@List.getElem?_reverse.{0}
def Kq:=@List.idxOf_lt_length_iff.{0}
def K_:=@List.mem_flatMap.{0,0}
def J3:=@List.set_append_right.{0}
def Lo:=@List.take_append.{0}
def J8:=@List.take_append_of_le_length.{0}
def IL:=@Nat.add_comm
def LB:=@Nat.lt_or_ge
def Kw:=@Nat.lt_trichotomy
def N3:=@Array.getElem?_eq_some_iff.{0}
def Pj:=@Array.getElem?_push.{0}
def OB:=@Array.getElem?_setIfInBounds.{0}
def SJ:=@Bool.or_false
def QH:=@List.any_cons.{0}
def Oi:=@List.countP_eq_length_filter.{0}
def NQ:=@List.drop_of_length_le.{0}
def Ou:=@List.eq_of_mem_replicate.{0}
def Pu:=@List.filterMap_append.{0,0}
def Nf:=@List.find?_cons.{0}
def M5:=@List.length_erase_of_mem.{0}
def QE:=@List.map_eq_nil_iff.{0,0}
def O9:=@List.mem_erase_of_ne.{0}
def OD:=@List.mem_or_eq_of_mem_set.{0}
def Nc:=@List.sum_cons.{0}
def Qh:=@List.take_zero.{0}
def QK:=@Nat.mul_comm
def PR:=@Nat.mul_le_mul
def MM:=@Nat.one_ne_zero
def NZ:=@Option.bind_eq_some_iff.{0,0}
def VD:=@Array.length_toList.{0}
def Ts:=@Bool.false_and
def V9:=@List.Pairwise.imp_of_mem.{0}
def US:=@List.all_eq_false.{0}
def Sc:=@List.any_nil.{0}
def R8:=@List.countP_singleton.{0}
def Q5:=@List.drop_drop.{0}
def VO:=@List.drop_left.{0}
def Uf:=@List.filter_cons_of_neg.{0}
def UH:=@List.getElem_idxOf.{0}
def UI:=@List.getElem_mem.{0}
def Wc:=@List.idxOf_cons.{0}
def Tq:=@List.length_replicate.{0}
def U6:=@List.ne_nil_of_mem.{0}
def SI:=@List.perm_middle.{0}
def Vt:=@List.set_cons_zero.{0}
def Ra:=@List.set_getElem_self.{0}
def Tz:=@Nat.add_sub_cancel
def UP:=@Nat.beq_refl
def U2:=@Nat.ble_eq_true_of_le
def Q1:=@Nat.le_mul_of_pos_right
def ab7:=@Array.foldl_toList.{0,0}
def Wp:=@Array.getElem?_append.{0}
def aem:=@Bool.and_eq_false_iff
def Wg:=@Int.tdiv_eq_ediv_of_nonneg
def aeg:=@Int.toNat_of_nonneg
def acu:=@List.Pairwise.imp.{0}
def acx:=@List.drop_append.{0}
def Xb:=@List.drop_append_of_le_length.{0}
def aev:=@List.eq_nil_iff_forall_not_mem.{0}
def Y4:=@List.find?_append.{0}
def aal:=@List.findIdx_getElem.{0}
def aec:=@List.idxOf_append.{0}
def ac7:=@List.mem_reverse.{0}
def ab4:=@List.pairwise_flatMap.{0,0}
def abr:=@List.pairwise_singleton.{0}
def aeL:=@List.range_eq_range'
def Xc:=@List.set_eq_of_length_le.{0}
def Wj:=@List.size_toArray.{0}
def aa2:=@List.take_succ_eq_append_getElem.{0}
def WH:=@Nat.div_add_mod
def aaY:=@Nat.le_antisymm
def ac6:=@Nat.le_of_not_lt
def aaU:=@Nat.lt_or_gt_of_ne
def acJ:=@Nat.mod_eq_sub_mod
def Y7:=@Nat.zero_lt_succ
def ajW:=@List.eq_nil_of_length_eq_zero.{0}
def amv:=@List.findIdx_lt_length_of_exists.{0}
inductive PV where
 |bool (b:Bool)
 |int (k:IntKind) (n:Int)
 |str (s:ByteArray)
 |xQ|nils|um|Bm|nili|ifc|zs
 |box (cs:List PV)
 |sl (es:List (List PV))
 |mp (ag:Bool) (es:List (PV×List PV))
 |fn (f:Nat) (first cap:List PV)
 deriving Inhabited
abbrev b_:=List PV
variable{M z:b_}
abbrev w_:=List (PV×b_)
abbrev s_:=List b_
variable{j:s_}
inductive c6 where
 |p (v:PV)
 |bh (id g off:Nat)
 |dY (id g i off:Nat)
 |hsl (id g sz off len:Nat)
 |mS (id g:Nat)
 |hfn (f:Nat) (first cap:List c6)
 deriving Inhabited
abbrev eG:=List c6
variable{B:eG}{rs:List (Nat×eG)}
inductive V where
 |undef
 |one (c:c6)
 |agg (cs:eG)
 |tup (vs:List V)
 deriving Inhabited
abbrev dN:=List V
variable{Z:dN}
inductive fZ where
 |var (cs:eG)
 |arr (ty sz:Nat) (es:s_)
 |jw (ty sz:Nat) (es:List eG)
 |map (ag:Bool) (es:w_)
 |fvar (cs:b_)
 |sk (ty sz:Nat) (es:s_)
 |fmap (ag:Bool) (es:w_)
 deriving Inhabited
abbrev bn:=Nat->V
variable{A:bn}
abbrev aB:=Nat->Nat×Option fZ
def dE{α:Type}(f:Nat->α)(a:Nat)(x:α):Nat->α:=λi=>if i=a then x else f i
theorem aT{α:Type}(f:Nat->α)(a b:Nat)(x:α):dE f a x b=if b=a then x else f b:=rfl
inductive fu where
 |t (n:Nat)
 |i (n:Int)
 |b (x:Bool)
 |k (v:V)
variable{y c' X y' i':fu}{F6 Co:Option fu}{qs:List (Nat×Nat×fu)}
abbrev sM:=List fu
inductive xN where
 |bool|ptr|slc|map|fnc|ifc
 |str (ks:eH)
inductive rK where
 |nv (x:fu)
 |pick (c a b:fu)
 |alloc (site:Nat) (z:b_)
 |box (site:Nat) (x:fu)
 |build (z:b_) (parts:List (Nat×Nat×fu))
 |Iv (site ty sz:Nat) (parts:sM)
 |load (k:eh) (x:fu)
 |store (n:Nat) (a x:fu)
 |QG (x:fu)
 |bin (op:BinOp) (x y:fu)
 |eqc (k:xN) (neg:Bool) (x y:fu)
 |un (op:UnOp) (x:fu)
 |conv (k:IntKind) (x:fu)
 |bstr (x:fu)
 |mkfn (f:Nat) (first cap:sM)
 |mkmap (site:Nat) (ag:Bool)
 |QC (site ty sz bytes:Nat) (z:b_) (len cap:fu)
 |slice (sz:Nat) (x:fu) (lo hi:Option fu)
 |sslice (x:fu) (lo hi:Option fu)
 |Ca (off:Nat) (x:fu)
 |Ql (sz:Nat) (x i:fu)
 |N5 (len sz:Nat) (x i:fu)
 |fld (off:Nat) (k:eh) (x:fu)
 |aidx (len sz:Nat) (k:eh) (x i:fu)
 |sidx (x i:fu)
 |lookup (kd:Nat) (z:b_) (agg ok:Bool) (x k:fu)
 |mupd (kd:Nat) (ag:Bool) (m k v:fu)
 |bad
 |extract (x:fu) (i:Nat)
 |call (site:Nat) (f:fu) (args:sM)
 |slen (x:fu)
 |Qu (x:fu)
 |mlen (x:fu)
 |append (site ty sz bytes:Nat) (s x:fu)
 |max (x y:fu)
 |min (x y:fu)
 |clear (z:b_) (x:fu)
structure iP where
 dst:eh
 op:rK
 guard:Option (Nat×Bool)
 anc:Nat
abbrev eZ:=List iP
variable{ops:eZ}
inductive aP where
 |skip
 |region (draw:Bool) (ops:eZ)
 |seq (a b:aP)
 |cond (x:fu) (a b:aP)
 |block (id:Nat) (c:aP)
 |loop (c:aP)
 |exit (id:Nat)
 |ret
 |bad
structure aV where
 ntmps:Nat
 results:List (Nat×Option eh)
 body:aP
def ev (A:bn):fu->V
 | .t n=>A n
 | .i n=>.one (.p (.int .i64 n))
 | .b x=>.one (.p (.bool x))
 | .k v=>v
abbrev aol:=Nat×(Nat×Option fZ)
abbrev lA:=List aol
variable{u:lA}
def app:lA->aB->aB
 |[],b=>b
 |(i,o)::r,b=>app r (dE b i o)
def PV.norm:PV->PV
 | .nils=>.sl []
 | .zs=>.sl []
 |v=>v
def Um:c6->Option PV
 | .p v=>some v.norm
 |_=>none
def Dv:eG->Option b_
 |[]=>some []
 |c::r=>match Um c,Dv r with
  |some v,some E=>some (v::E)
  |_,_=>none
def vl:V->Option eG
 | .one c=>some [c]
 | .agg B=>some B
 |_=>none
def ic{α β:Type}(f:α->Option (β×aG)):List α->Option (List β×aG)
 |[]=>some ([],[])
 |a::r=>match f a,ic f r with
  |some (b,x),some (bs,y)=>some (b::bs,x++y)
  |_,_=>none
def snap(aj:aB):Nat->c6->Option (PV×aG)
 |0,_=>none
 |n+1,c=>match c with
  | .p v=>some (v.norm,[])
  | .bh id g D=>match aj id with
   |(h,some (.var B))=>if h=g then
     match ic (snap aj n) B with
     |some (ps,r)=>some (.box (ps.drop D),id::r)
     |none=>none
    else none
   |(h,some (.fvar ps))=>if h=g then some (.box (ps.drop D),[id])else none
   |_=>none
  | .dY id g i D=>match aj id with
   |(h,some (.arr _ _ j))=>if h=g then(j[i]?).map λe=>(.box (e.drop D),[id])else none
   |(h,some (.sk _ _ j))=>if h=g then(j[i]?).map λe=>(.box (e.drop D),[id])else none
   |_=>none
  | .hsl id g z D len=>match aj id with
   |(h,some (.arr _ _ j))=>if h=g/\D+len<=I j then some (.sl ((j.drop D).take len),[id])else none
   |(h,some (.sk _ _ j))=>if h=g/\D+len<=I j then some (.sl ((j.drop D).take len),[id])else none
   |(h,some (.jw _ _ j))=>if h=g/\D+len<=I j then
     match ic (ic (snap aj n)) ((j.drop D).take len)with
     |some (ps,r)=>some (.sl ps,id::r)
     |none=>none
    else none
   |_=>none
  | .mS id g=>match aj id with
   |(h,some (.map A j))=>if h=g then some (.mp A j,[id])else none
   |(h,some (.fmap A j))=>if h=g then some (.mp A j,[id])else none
   |_=>none
  | .hfn f a b=>match ic (snap aj n) a,ic (snap aj n) b with
   |some (x,r),some (y,s)=>some (.fn f x y,r++s)
   |_,_=>none
def ia:Nat:=6
def pX(aj:aB):V->Option (V×aG)
 | .one c=>(snap aj ia c).map λ(v,r)=>(.one (.p v),r)
 | .agg B=>(ic (snap aj ia) B).map λ(E,r)=>(.agg (E.map .p),r)
 |_=>none
def zC(aj:aB)(all:aG)(id:Nat):Option lA:=
 match aj id with
 |(f,some (.var B))=>match ic (snap aj ia) B with
  |some (ps,r)=>if r.all all.contains then some [(id,(f,some (.fvar ps)))]else none
  |none=>none
 |(f,some (.arr H g j))=>some [(id,(f,some (.sk H g j)))]
 |(f,some (.jw H g j))=>match ic (ic (snap aj ia)) j with
  |some (ps,r)=>if r.all all.contains then some [(id,(f,some (.sk H g ps)))]else none
  |none=>none
 |(f,some (.map A j))=>some [(id,(f,some (.fmap A j)))]
 |(_,none)=>none
 |_=>some []
def vV(aj:aB)(all:aG):aG->Option lA
 |[]=>some []
 |i::r=>match zC aj all i,vV aj all r with
  |some a,some b=>some (a++b)
  |_,_=>none
def t_(aj:aB)(ids:aG):Option lA:=vV aj ids ids
inductive kJ where
 |p (v:PV)
 |own (ty sz:Nat) (es:s_)
 deriving Inhabited
abbrev oI:=List kJ
inductive RV where
 |one (c:kJ)
 |agg (cs:oI)
 |tup (vs:List RV)
 deriving Inhabited
def kJ.pure:kJ->kJ
 | .p v=>.p v
 | .own _ _ j=>.p (.sl j)
def RV.JQ:RV->RV
 | .one c=>.one c.pure
 | .agg B=>.agg (B.map kJ.pure)
 | .tup E=>.tup E
def RV.pure:RV->RV
 | .tup E=>.tup (E.map RV.JQ)
 |v=>v.JQ
def RV.fi(b:Bool)(r:RV):RV:=match b with
 |true=>r.pure
 |false=>r
def PV.scalar:PV->Bool
 | .bool _| .int _ _| .str _| .xQ| .nils| .um| .Bm| .nili| .ifc| .zs=>true
 |_=>false
def kJ.alone:kJ->Bool
 | .p v=>v.scalar
 | .own _ _ j=>j.all λe=>e.all PV.scalar
def gR(aj:aB)(c:c6):Option (kJ×aG×aG):=
 match c with
 | .p v=>some (.p v,[],[])
 | .hsl id h z 0 len=>match aj id with
  |(f,some (.arr H g j))=>if f=h/\len<=I j then some (.own H g (j.take len),[id],[])else none
  |_=>(snap aj ia c).map λ(v,r)=>(.p v,[],r)
 |_=>(snap aj ia c).map λ(v,r)=>(.p v,[],r)
def kj(aj:aB):eG->Option (oI×aG×aG)
 |[]=>some ([],[],[])
 |c::r=>match gR aj c,kj aj r with
  |some (x,o,q),some (M,os,qs)=>some (x::M,o++os,q++qs)
  |_,_=>none
def k5:V->Option eG
 | .one c=>some [c]
 | .agg B=>some B
 |_=>none
def tH:dN->Option eG
 |[]=>some []
 |v::r=>match k5 v,tH r with
  |some a,some b=>some (a++b)
  |_,_=>none
def nx:V->Option eG
 | .tup E=>tH E
 |v=>k5 v
def nD:V->oI->RV×oI
 | .one _,r::rs=>(.one r,rs)
 | .agg B,rs=>(.agg (rs.take (I B)),rs.drop (I B))
 |_,rs=>(.agg [],rs)
def zu:dN->oI->List RV
 |[],_=>[]
 |v::r,rs=>(nD v rs).1::zu r (nD v rs).2
def pB:V->oI->RV
 | .tup E,rs=>.tup (zu E rs)
 |v,rs=>(nD v rs).1
def lG:aG->aG->Bool
 |[],_=>true
 |i::r,q=> !r.contains i&& !q.contains i&&lG r q
def gr(aj:aB)(v:V):Option RV:=
 match nx v with
 |some B=>match kj aj B with
  |some (x,o,q)=>if lG o q then some (pB v x)else none
  |none=>none
 |none=>none
def d_(aj:aB)(f:Nat):kJ->c6×lA
 | .p v=>(.p v,[])
 | .own H g j=>(.hsl f ((aj f).1+1) g 0 (I j),[(f,((aj f).1+1,some (.arr H g j)))])
def kC(aj:aB)(f:Nat):oI->eG×lA
 |[]=>([],[])
 |c::r=>((d_ aj f c).1::(kC aj (f+1) r).1,(d_ aj f c).2++(kC aj (f+1) r).2)
def ja:RV->oI
 | .one c=>[c]
 | .agg B=>B
 | .tup _=>[]
def oL:List RV->oI
 |[]=>[]
 |v::r=>ja v++oL r
def iV:RV->oI
 | .tup E=>oL E
 |v=>ja v
def ox:RV->eG->V×eG
 | .one _,c::B=>(.one c,B)
 | .agg rs,B=>(.agg (B.take (I rs)),B.drop (I rs))
 |_,B=>(.undef,B)
def ti:List RV->eG->dN
 |[],_=>[]
 |v::r,B=>(ox v B).1::ti r (ox v B).2
def sJ:RV->eG->V
 | .tup E,B=>.tup (ti E B)
 |v,B=>(ox v B).1
def RV.alone(r:RV):Bool:=(iV r).all kJ.alone
def jf(aj:aB)(f:Nat)(r:RV):V×lA:=(sJ r (kC aj f (iV r)).1,(kC aj f (iV r)).2)
inductive A_ where
 |fail
 |done (v:V) (u:lA) (rd:aG)
 |pc (f:Nat) (args:dN) (rd:aG) (site:Nat)
 |sc (f:Nat) (args:dN)
def Dk(aj:aB):V->Option (eG×aG)
 | .one (.p (.box B))=>some (B.map .p,[])
 | .one (.bh id g D)=>match aj id with
  |(f,some (.var B))=>if f=g then some (B.drop D,[id])else none
  |(f,some (.fvar B))=>if f=g then some ((B.drop D).map .p,[id])else none
  |_=>none
 | .one (.dY id g i D)=>match aj id with
  |(f,some (.arr _ _ j))=>if f=g then(j[i]?).map λe=>((e.drop D).map .p,[id])else none
  |(f,some (.sk _ _ j))=>if f=g then(j[i]?).map λe=>((e.drop D).map .p,[id])else none
  |(f,some (.jw _ _ j))=>if f=g then(j[i]?).map λe=>(e.drop D,[id])else none
  |_=>none
 |_=>none
def te(k:eh)(B:eG):Option V:=
 match k with
 |none=>match B with
  |c::_=>some (.one c)
  |[]=>none
 |some n=>if n<=I B then some (.agg (B.take n))else none
def fX{α:Type}(B:List α)(D:Nat)(M:List α):List α:=B.take D++M++B.drop (D+I M)
def Cc(aj:aB)(a:V)(n:Nat)(M:eG):A_:=
 if I M≠n then .fail else
 match a with
 | .one (.bh id h D)=>match aj id with
  |(f,some (.var B))=>if f=h/\D+n<=I B then .done .undef [(id,(h,some (.var (fX B D M))))] [id]else .fail
  |_=>.fail
 | .one (.dY id h i D)=>match aj id with
  |(f,some (.arr H g j))=>match j[i]?,Dv M with
   |some e,some ps=>if f=h/\D+n<=I e then .done .undef [(id,(h,some (.arr H g (j.set i (fX e D ps)))))] [id]else .fail
   |_,_=>.fail
  |_=>.fail
 |_=>.fail
def fz(aj:aB):V->Option (s_×aG×aG)
 | .one (.p .nils)=>some ([],[],[])
 | .one (.p (.sl j))=>some (j,[],[])
 | .one (.hsl id g z D len)=>match aj id with
  |(f,some (.arr _ _ j))=>if f=g/\D+len<=I j then some ((j.drop D).take len,[id],[])else none
  |(f,some (.sk _ _ j))=>if f=g/\D+len<=I j then some ((j.drop D).take len,[id],[])else none
  |(f,some (.jw _ _ j))=>if f=g/\D+len<=I j then
    match ic (ic (snap aj ia)) ((j.drop D).take len)with
    |some (ps,r)=>some (ps,[id],r)
    |none=>none
   else none
  |_=>if len=0 then some ([],[id],[])else none
 |_=>none
def au(g:Nat)(j:s_):Bool:=j.all λe=>I e==g
def qc:V->eh
 | .one (.hsl _ _ z _ _)=>some z
 |_=>none
def mi:Nat:=140737488355328
def af(aj:aB)(f H g bytes:Nat)(s x:V):A_:=
 match fz aj x with
 |none=>.fail
 |some (new,rd,fr)=>
  if¬(qc x=some g\/au g new)then .fail else
  match t_ aj fr with
  |none=>.fail
  |some F=>
   match s with
   | .one (.p .nils)=>
    if I new=0 then .done (.one (.p .nils)) F (rd++fr)else
    if I new*bytes<=mi then
     .done (.one (.hsl f ((aj f).1+1) g 0 (I new))) (F++[(f,((aj f).1+1,some (.arr H g new)))]) (f::rd++fr)
    else .fail
   | .one (.p .zs)=>
    if I new=0 then .fail else
    if I new*bytes<=mi then
     .done (.one (.hsl f ((aj f).1+1) g 0 (I new))) (F++[(f,((aj f).1+1,some (.arr H g new)))]) (f::rd++fr)
    else .fail
   | .one (.hsl id m z 0 len)=>match aj id with
    |(h,some (.arr u E j))=>
     if h=m/\u=H/\E=g/\len<=I j/\(len+I new)*bytes<=mi/\fr.contains id=false then
      .done (.one (.hsl f ((aj f).1+1) g 0 (len+I new)))
       (F++[(id,(m,none)),(f,((aj f).1+1,some (.arr H g (j.take len++new))))]) (f::id::rd++fr)
     else .fail
    |_=>.fail
   |_=>.fail
def tM:V->eh
 | .one (.p (.int _ n))=>if 0<=n then some n.toNat else none
 |_=>none
def u_(A:bn)(d:Nat):Option fu->eh
 |none=>some d
 |some a=>tM (ev A a)
def F3(x:V)(g lo h:Nat):A_:=
 if¬lo<=h then .fail else
 match x with
 | .one (.p .nils)=>if h=0 then .done (.one (.p .nils)) [] []else .fail
 | .one (.p (.sl j))=>if h<=I j/\au g j=true then .done (.one (.p (.sl ((j.drop lo).take (h-lo))))) [] []else .fail
 | .one (.hsl id f z D len)=>if h<=len/\z=g then .done (.one (.hsl id f z (D+lo) (h-lo))) [] []else .fail
 |_=>.fail
def BP:V->eh
 | .one (.p .nils)=>some 0
 | .one (.p (.sl j))=>some (I j)
 | .one (.hsl _ _ _ _ len)=>some len
 |_=>none
def AT(aj:aB):V->Option (Nat×aG)
 | .one (.p .um)=>some (0,[])
 | .one (.p (.mp _ j))=>some (I j,[])
 | .one (.mS id g)=>match aj id with
  |(f,some (.map _ j))=>if f=g then some (I j,[id])else none
  |(f,some (.fmap _ j))=>if f=g then some (I j,[id])else none
  |_=>none
 |_=>none
def ni(aj:aB)(A:Bool):V->Option (w_×aG)
 | .one (.p .um)=>some ([],[])
 | .one (.p (.mp f j))=>if f=A then some (j,[])else none
 | .one (.mS id g)=>match aj id with
  |(h,some (.map f j))=>if h=g/\f=A then some (j,[id])else none
  |(h,some (.fmap f j))=>if h=g/\f=A then some (j,[id])else none
  |_=>none
 |_=>none
def Dq:PV->PV->Option Bool
 | .int k a,.int f b=>if k=f then some (a==b)else none
 | .str a,.str b=>some (a==b)
 | .bool a,.bool b=>some (a==b)
 |_,_=>none
def j4:PV->Nat
 | .int _ _=>0
 | .str _=>1
 | .bool _=>2
 |_=>3
def mW:Bool->b_->Option V
 |true,B=>some (.agg (B.map .p))
 |false,[c]=>some (.one (.p c))
 |false,_=>none
def sZ(k:PV):w_->Nat->Option (Option (Nat×b_))
 |[],_=>some none
 |(a,v)::r,i=>match Dq k a with
  |some true=>some (some (i,v))
  |some false=>sZ k r (i+1)
  |none=>none
def zd:Bool->V->Option eG
 |false,.one c=>some [c]
 |true,.agg B=>some B
 |_,_=>none
def Mq(op:BinOp)(k:IntKind)(a b:Int):Option PV:=
 match op with
 | .add=>some (.int k (k.wrap (a+b)))
 | .sub=>some (.int k (k.wrap (a-b)))
 | .mul=>some (.int k (k.wrap (a*b)))
 | .quo=>if b=0 then none else some (.int k (k.wrap (a.tdiv b)))
 | .rem=>if b=0 then none else some (.int k (a.tmod b))
 | .eql=>some (.bool (a==b))
 | .neq=>some (.bool (a !=b))
 | .lss=>some (.bool (decide (a<b)))
 | .leq=>some (.bool (decide (a<=b)))
 | .gtr=>some (.bool (decide (b<a)))
 | .geq=>some (.bool (decide (b<=a)))
 | .and=>some (.int k (k.wrap (BitVec.ofInt k.bits a&&& BitVec.ofInt k.bits b).toNat))
 | .shl=>if b<0 then none else some (.int k (k.wrap (a*2 ^ min b.toNat k.bits)))
 | .shr=>if b<0 then none else some (.int k (a.fdiv (2 ^ min b.toNat k.bits)))
 |_=>none
def C_(op:BinOp)(a b:ByteArray):Option PV:=
 match op with
 | .add=>if a.size+b.size<=9223372036854775807 then some (.str (a++b))else none
 | .eql=>some (.bool (a.toList==b.toList))
 | .neq=>some (.bool (!(a.toList==b.toList)))
 |_=>none
def T_(op:BinOp):V->V->Option V
 | .one (.p (.int k a)),.one (.p (.int f b))=>if k=f\/op=.shl\/op=.shr then(Mq op k a b).map λv=>.one (.p v)else none
 | .one (.p (.str a)),.one (.p (.str b))=>(C_ op a b).map λv=>.one (.p v)
 |_,_=>none
def uF:Bool->PV->PV->Option Bool
 |true,.int k a,.int f b=>if k=f then some (a==b)else none
 |false,.bool a,.bool b=>some (a==b)
 |_,_,_=>none
def vD:eH->eG->eG->Option Bool
 |[],[],[]=>some true
 |k::f,.p a::r,.p b::s=>match uF k a b with
  |some true=>vD f r s
  |some false=>some false
  |none=>none
 |_,_,_=>none
def Ip:xN->V->Option Bool
 | .ptr,.one (.p .xQ)=>some true
 | .ptr,.one (.p (.box _))=>some false
 | .ptr,.one (.bh _ _ _)=>some false
 | .ptr,.one (.dY _ _ _ _)=>some false
 | .slc,.one (.p .nils)=>some true
 | .slc,.one (.p (.sl (_::_)))=>some false
 | .slc,.one (.hsl _ _ _ _ _)=>some false
 | .map,.one (.p .um)=>some true
 | .map,.one (.p (.mp _ _))=>some false
 | .map,.one (.mS _ _)=>some false
 | .fnc,.one (.p .Bm)=>some true
 | .fnc,.one (.p (.fn _ _ _))=>some false
 | .fnc,.one (.hfn _ _ _)=>some false
 | .ifc,.one (.p .nili)=>some true
 | .ifc,.one (.p .ifc)=>some false
 |_,_=>none
def EI:xN->V->V->Option Bool
 | .bool,.one (.p (.bool a)),.one (.p (.bool b))=>some (a==b)
 | .str f,.agg a,.agg b=>vD f a b
 | .bool,_,_=>none
 | .str _,_,_=>none
 |k,a,b=>if Ip k b=some true then Ip k a else if Ip k a=some true then Ip k b else none
def EF(B:eG):List (Nat×eG)->eG
 |[]=>B
 |(D,M)::r=>EF (fX B D M) r
def A7(A:bn):List (Nat×Nat×fu)->Option (List (Nat×eG))
 |[]=>some []
 |(D,n,a)::r=>match vl (ev A a),A7 A r with
  |some B,some q=>if I B=n then some ((D,B)::q)else none
  |_,_=>none
def Bx(A:bn)(g:Nat):sM->Option (List eG)
 |[]=>some []
 |a::r=>match vl (ev A a),Bx A g r with
  |some B,some q=>if I B=g then some (B::q)else none
  |_,_=>none
def Ce:List eG->Option s_
 |[]=>some []
 |c::r=>match Dv c,Ce r with
  |some v,some E=>some (v::E)
  |_,_=>none
def GO(A:bn)(a:fu):Option (Nat×eG×eG):=
 match ev A a with
 | .one (.p (.fn f x y))=>some (f,x.map .p,y.map .p)
 | .one (.hfn f x y)=>some (f,x,y)
 |_=>none
def Dj(aj:aB):dN->Option (dN×aG):=ic (pX aj)
def Ks:s_->Option wV
 |[]=>some []
 |[.int .u8 n]::r=>(Ks r).map (UInt8.ofNat n.toNat:: ·)
 |_::_=>none
def zj(A:bn):sM->Option eG
 |[]=>some []
 |a::r=>match ev A a,zj A r with
  | .one c,some q=>some (c::q)
  |_,_=>none
def cZ(shared:Nat->Bool)(A:bn)(aj:aB):rK->A_
 | .nv x=>.done (ev A x) [] []
 | .pick c a b=>match ev A c with
  | .one (.p (.bool t))=>.done (if t then ev A a else ev A b) [] []
  |_=>.fail
 | .alloc s z=>.done (.one (.bh s ((aj s).1+1) 0)) [(s,((aj s).1+1,some (.var (z.map .p))))] [s]
 | .box s x=>match vl (ev A x)with
  |some B=>.done (.one (.bh s ((aj s).1+1) 0)) [(s,((aj s).1+1,some (.var B)))] [s]
  |none=>.fail
 | .build z ps=>match A7 A ps with
  |some q=>.done (.agg (EF (z.map .p) q)) [] []
  |none=>.fail
 | .Iv s H g ps=>match Bx A g ps with
  |some j=>match Ce j with
   |some qs=>.done (.one (.hsl s ((aj s).1+1) g 0 (I j))) [(s,((aj s).1+1,some (.arr H g qs)))] [s]
   |none=>.done (.one (.hsl s ((aj s).1+1) g 0 (I j))) [(s,((aj s).1+1,some (.jw H g j)))] [s]
  |none=>.fail
 | .load k x=>match Dk aj (ev A x)with
  |some (B,r)=>match te k B with
   |some v=>.done v [] r
   |none=>.fail
  |none=>.fail
 | .store n a x=>match vl (ev A x)with
  |some M=>Cc aj (ev A a) n M
  |none=>.fail
 | .QG x=>match ev A x with
  | .one (.bh id u o)=>.done (.one (.bh id u o)) [] []
  | .one (.dY id u i o)=>.done (.one (.dY id u i o)) [] []
  | .one (.p (.box B))=>.done (.one (.p (.box B))) [] []
  | .one (.hfn f a b)=>.done (.one (.hfn f a b)) [] []
  | .one (.p (.fn f a b))=>.done (.one (.p (.fn f a b))) [] []
  |_=>.fail
 | .bin op x y=>match T_ op (ev A x) (ev A y)with
  |some v=>.done v [] []
  |none=>.fail
 | .eqc k Q x y=>match EI k (ev A x) (ev A y)with
  |some b=>.done (.one (.p (.bool (if Q then !b else b)))) [] []
  |none=>.fail
 | .un op x=>match op,ev A x with
  | .not,.one (.p (.bool b))=>.done (.one (.p (.bool (!b)))) [] []
  | .neg,.one (.p (.int k n))=>.done (.one (.p (.int k (k.wrap (0-n))))) [] []
  |_,_=>.fail
 | .conv k x=>match ev A x with
  | .one (.p (.int _ n))=>.done (.one (.p (.int k (k.wrap n)))) [] []
  |_=>.fail
 | .bstr x=>match fz aj (ev A x)with
  |some (j,r,[])=>match Ks j with
   |some bs=>.done (.one (.p (.str ⟨bs.toArray⟩))) [] r
   |none=>.fail
  |_=>.fail
 | .mkfn f a b=>match zj A a,zj A b with
  |some x,some y=>.done (.one (.hfn f x y)) [] []
  |_,_=>.fail
 | .mkmap s F=>.done (.one (.mS s ((aj s).1+1))) [(s,((aj s).1+1,some (.map F [])))] [s]
 | .QC s H g bytes z l c=>match tM (ev A l),tM (ev A c)with
  |some n,some m=>if n=m/\n*bytes<=mi then
    .done (.one (.hsl s ((aj s).1+1) g 0 n)) [(s,((aj s).1+1,some (.arr H g (List.replicate n z))))] [s]
   else .fail
  |_,_=>.fail
 | .slice g x lo N=>match BP (ev A x)with
  |some n=>match u_ A 0 lo,u_ A n N with
   |some l,some h=>F3 (ev A x) g l h
   |_,_=>.fail
  |none=>.fail
 | .sslice x lo N=>match ev A x with
  | .one (.p (.str s))=>match u_ A 0 lo,u_ A s.size N with
   |some l,some h=>if l<=h/\h<=s.size then .done (.one (.p (.str (s.extract l h)))) [] []else .fail
   |_,_=>.fail
  |_=>.fail
 | .Ca D x=>match ev A x with
  | .one (.bh id u o)=>.done (.one (.bh id u (o+D))) [] []
  | .one (.dY id u i o)=>.done (.one (.dY id u i (o+D))) [] []
  | .one (.p (.box B))=>.done (.one (.p (.box (B.drop D)))) [] []
  |_=>.fail
 | .Ql g x i=>match tM (ev A i),ev A x with
  |some n,.one (.p (.sl j))=>match j[n]? with
   |some e=>if I e=g then .done (.one (.p (.box e))) [] []else .fail
   |none=>.fail
  |some n,.one (.hsl id u z D len)=>if n<len/\z=g then .done (.one (.dY id u (D+n) 0)) [] []else .fail
  |_,_=>.fail
 | .N5 len g x i=>match tM (ev A i),ev A x with
  |some n,.one (.bh id u o)=>if n<len then .done (.one (.bh id u (o+n*g))) [] []else .fail
  |some n,.one (.dY id u T o)=>if n<len then .done (.one (.dY id u T (o+n*g))) [] []else .fail
  |some n,.one (.p (.box B))=>if n<len then .done (.one (.p (.box (B.drop (n*g))))) [] []else .fail
  |_,_=>.fail
 | .fld D k x=>match ev A x with
  | .agg B=>match te k (B.drop D)with
   |some v=>.done v [] []
   |none=>.fail
  |_=>.fail
 | .aidx len g k x i=>match tM (ev A i),ev A x with
  |some n,.agg B=>if n<len then
    match te k (B.drop (n*g))with
    |some v=>.done v [] []
    |none=>.fail
   else .fail
  |_,_=>.fail
 | .sidx x i=>match tM (ev A i),ev A x with
  |some n,.one (.p (.str s))=>match s[n]? with
   |some b=>.done (.one (.p (.int .u8 b.toNat))) [] []
   |none=>.fail
  |_,_=>.fail
 | .lookup O z agg ok x k=>match ni aj agg (ev A x),ev A k with
  |some (j,r),.one (.p q)=>if j4 q≠O then .fail else match sZ q j 0 with
   |some f=>match mW agg ((f.map (·.2)).getD z)with
    |some w=>.done (if ok then .tup [w,.one (.p (.bool f.isSome))]else w) [] r
    |none=>.fail
   |none=>.fail
  |_,_=>.fail
 | .bad=>.fail
 | .mupd O F m k v=>match ev A m,ev A k,zd F (ev A v)with
  | .one (.mS id u),.one (.p q),some B=>match aj id,Dv B with
   |(L,some (.map R j)),some ps=>if L=u/\R=F/\j4 q=O then
     match sZ q j 0 with
     |some (some (i,_))=>.done .undef [(id,(u,some (.map F (j.set i (q,ps)))))] [id]
     |some none=>.done .undef [(id,(u,some (.map F (j++[(q,ps)]))))] [id]
     |none=>.fail
    else .fail
   |_,_=>.fail
  |_,_,_=>.fail
 | .extract x i=>match ev A x with
  | .tup E=>match E[i]? with
   |some v=>.done v [] []
   |none=>.fail
  |_=>.fail
 | .call s f as=>match GO A f with
  |some (u,a,b)=>
   if shared u then .sc u (a.map .one++as.map (ev A)++b.map .one)
   else match Dj aj (a.map .one++as.map (ev A)++b.map .one)with
    |some (E,r)=>.pc u E r s
    |none=>.fail
  |none=>.fail
 | .slen x=>match ev A x with
  | .one (.p (.str s))=>.done (.one (.p (.int .i64 s.size))) [] []
  |_=>.fail
 | .Qu x=>match BP (ev A x)with
  |some n=>.done (.one (.p (.int .i64 n))) [] []
  |none=>.fail
 | .mlen x=>match AT aj (ev A x)with
  |some (n,r)=>.done (.one (.p (.int .i64 n))) [] r
  |none=>.fail
 | .append s H g bytes d x=>af aj s H g bytes (ev A d) (ev A x)
 | .max x y=>match ev A x,ev A y with
  | .one (.p (.int k a)),.one (.p (.int _ b))=>.done (.one (.p (.int k (if b>a then b else a)))) [] []
  |_,_=>.fail
 | .min x y=>match ev A x,ev A y with
  | .one (.p (.int k a)),.one (.p (.int _ b))=>.done (.one (.p (.int k (if b<a then b else a)))) [] []
  |_,_=>.fail
 | .clear z x=>match ev A x with
  | .one (.p .nils)=>.done (.tup []) [] []
  | .one (.p (.sl []))=>.done (.tup []) [] []
  | .one (.hsl id u _ D len)=>if len=0 then .done (.tup []) [] []else match aj id with
   |(L,some (.arr H g j))=>if L=u/\g=I z/\D+len<=I j then .done (.tup []) [(id,(u,some (.arr H g (fX j D (List.replicate len z)))))] [id]else .fail
   |_=>.fail
  |_=>.fail
structure iT where
 rd:aG
 wr:aG
 fs:aG
abbrev fU:=List iT
variable{R:bn->aB->fU->Prop}
structure cG where
 any:Bool
 ids:aG
 fs:aG
def cG.all:cG:=⟨true,[],[]⟩
def kO(id:Nat):Nat:=id/64000000
def cG.ok(a:cG)(id:Nat):Bool:=a.any||a.ids.contains id||a.fs.contains (kO id)
def cG.gH(a:cG)(l:aG):Bool:=l.all a.ok
def cG.holds(a b:cG):Bool:=a.any||(a.gH b.ids&&b.fs.all a.fs.contains)
structure mL where
 shared:Nat->Bool
 sites:Nat->aG
 lone:Nat->Bool
 al:cG
def l7(aj:aB):Nat->c6->aG
 |0,_=>[]
 |n+1,c=>match c with
  | .p _=>[]
  | .bh id _ _=>id::match aj id with
   |(_,some (.var B))=>(B.map (l7 aj n)).flatten
   |_=>[]
  | .dY id _ _ _=>id::match aj id with
   |(_,some (.jw _ _ j))=>(j.flatten.map (l7 aj n)).flatten
   |_=>[]
  | .hsl id _ _ _ _=>id::match aj id with
   |(_,some (.jw _ _ j))=>(j.flatten.map (l7 aj n)).flatten
   |_=>[]
  | .mS id _=>[id]
  | .hfn _ a b=>(a.map (l7 aj n)).flatten++(b.map (l7 aj n)).flatten
def jA(aj:aB):V->aG
 | .one c=>l7 aj ia c
 | .agg B=>(B.map (l7 aj ia)).flatten
 |_=>[]
def f_(T:mL)(f:Nat)(E:dN)(aj:aB):cG:=⟨false,(E.map (jA aj)).flatten,T.sites f⟩
def dF(A:bn)(d:eh)(v:V):bn:=
 match d with
 |some t=>dE A t v
 |none=>A
abbrev kS:=Nat->dN->Option RV
abbrev qM:=Nat->dN->cG->aB->Option (V×aB)
def eF(aj:aB)(rd:aG)(f:Nat)(r:RV):Option (V×lA):=
 if rd=[]\/r.alone then some (jf aj f r)
 else match t_ aj rd with
  |some u=>some ((jf aj f r).1,u++(jf aj f r).2)
  |none=>none
def s3(A:bn):Option (Nat×Bool)->Option Bool
 |none=>some true
 |some (t,f)=>match A t with
  | .one (.p (.bool b))=>some (b==f)
  | .undef=>some false
  |_=>none
def mM(T:mL)(cp:kS)(B:qM)(o:iP)(A:bn)(aj:aB):Option (bn×aB×iT):=
 match s3 A o.guard with
 |none=>none
 |some false=>some (dF A o.dst .undef,aj,⟨[],[],[]⟩)
 |some true=>match cZ T.shared A aj o.op with
  | .fail=>none
  | .done v u r=>if T.al.gH (r++u.map (·.1))then some (dF A o.dst v,app u aj,⟨r,u.map (·.1),[]⟩)else none
  | .pc f E r s=>match cp f E with
   |some x=>match eF aj r s (x.fi (T.lone s))with
    |some (v,u)=>if T.al.gH (r++u.map (·.1))then some (dF A o.dst v,app u aj,⟨r++u.map (·.1),u.map (·.1),[]⟩)else none
    |none=>none
   |none=>none
  | .sc f E=>if T.al.holds (f_ T f E aj)then
    match B f E (f_ T f E aj) aj with
    |some (v,g)=>some (dF A o.dst v,g,⟨(f_ T f E aj).ids,(f_ T f E aj).ids,(f_ T f E aj).fs⟩)
    |none=>none
   else none
def ju(T:mL)(cp:kS)(B:qM):eZ->bn->aB->Option (bn×aB×fU)
 |[],A,aj=>some (A,aj,[])
 |o::r,A,aj=>match mM T cp B o A aj with
  |some (h,f,e)=>match ju T cp B r h f with
   |some (O,g,j)=>some (O,g,e::j)
   |none=>none
  |none=>none
def rQ(a b:aG):Bool:=a.any λi=>b.contains i
def yg(fs ids:aG):Bool:=ids.any λi=>fs.contains (kO i)
def xZ(a b:iT):Bool:=rQ a.wr b.rd||rQ a.wr b.wr||rQ a.rd b.wr||rQ a.fs b.fs||yg a.fs (b.rd++b.wr)||yg b.fs (a.rd++a.wr)
def BC(anc:Nat)(e:iT):Nat->fU->Bool
 |_,[]=>true
 |j,x::r=>(anc.testBit j|| !xZ x e)&&BC anc e (j+1) r
def pK:eZ->fU->fU->Bool
 |o::os,f,e::j=>BC o.anc e 0 f&&pK os (f++[e]) j
 |_,_,_=>true
inductive oh where
 |normal
 |exit (id:Nat)
 |ret
def lY(f:bn->aB->Option (oh×bn×aB)):Nat->bn->aB->Option (oh×bn×aB)
 |0,_,_=>none
 |n+1,A,aj=>match f A aj with
  |some (.normal,h,g)=>lY f n h g
  |r=>r
def dJ(T:mL)(cp:kS)(B:qM)(n:Nat):aP->bn->aB->Option (oh×bn×aB)
 | .skip,A,aj=>some (.normal,A,aj)
 | .region d ops,A,aj=>match ju T cp B ops A aj with
  |some (f,g,j)=>if d then(if pK ops [] j then some (.normal,f,g)else none)else some (.normal,f,g)
  |none=>none
 | .seq a b,A,aj=>match dJ T cp B n a A aj with
  |some (.normal,f,g)=>dJ T cp B n b f g
  |r=>r
 | .cond x a b,A,aj=>match ev A x with
  | .one (.p (.bool t))=>if t then dJ T cp B n a A aj else dJ T cp B n b A aj
  |_=>none
 | .block id c,A,aj=>match dJ T cp B n c A aj with
  |some (.exit i,f,g)=>if i=id then some (.normal,f,g)else some (.exit i,f,g)
  |r=>r
 | .loop c,A,aj=>lY (dJ T cp B n c) n A aj
 | .exit id,A,aj=>some (.exit id,A,aj)
 | .ret,A,aj=>some (.ret,A,aj)
 | .bad,_,_=>none
def tp(Z:dN):bn:=λi=>Z.getD i .undef
def V_:V->Option V
 | .tup _=>none
 |v=>some v
def qD(al:cG)(A:bn)(aj:aB):List (Nat×Option eh)->Option dN
 |[]=>some []
 |(t,none)::r=>match V_ (A t),qD al A aj r with
  |some v,some q=>some (v::q)
  |_,_=>none
 |(t,some k)::r=>match Dk aj (A t),qD al A aj r with
  |some (B,rd),some q=>if al.gH rd then(te k B).map (· ::q)else none
  |_,_=>none
def zY:dN->V
 |[v]=>v
 |E=>.tup E
def AE:aB:=λ_=>(0,none)
def sN(T:mL)(cp:kS)(B:qM)(n:Nat)(fn:aV)(Z:dN)(aj:aB):Option (V×aB):=
 match dJ T cp B n fn.body (tp Z) aj with
 |some (.normal,A,f)=>(qD T.al A f fn.results).map λE=>(zY E,f)
 |some (.ret,A,f)=>(qD T.al A f fn.results).map λE=>(zY E,f)
 |_=>none
def EJ(T:mL)(cp:kS)(B:qM)(n:Nat)(fn:aV)(Z:dN):Option RV:=
 match sN T cp B n fn Z AE with
 |some (v,aj)=>gr aj v
 |none=>none
structure Sys where
 P:Program
 shared:Nat->Bool
 sites:Nat->aG
 lone:Nat->Bool
 fns:Nat->Option aV
 prim:Nat->dN->Option (Option RV)
 trig:Nat->dN->Bool:=λ_ _=>false
 primS:Nat->dN->cG->aB->Option (V×lA):=λ_ _ _ _=>none
def Sys.ctx(S:Sys)(a:cG):mL:=⟨S.shared,S.sites,S.lone,a⟩
mutual
def jd(S:Sys):Nat->kS
 |0,_,_=>none
 |n+1,f,Z=>match S.prim f Z with
  |some r=>r
  |none=>match S.fns f with
   |some fn=>if I Z<=fn.ntmps then EJ (S.ctx .all) (jd S n) (jc S n) n fn Z else none
   |none=>none
def jc(S:Sys):Nat->qM
 |0,_,_,_,_=>none
 |n+1,f,Z,al,aj=>if S.trig f Z=true then(S.primS f Z al aj).map (λr=>(r.1,app r.2 aj))else match S.fns f with
  |some fn=>if I Z<=fn.ntmps then sN (S.ctx al) (jd S n) (jc S n) n fn Z aj else none
  |none=>none
end
def aJ(S:Sys)(f:Nat)(Z:dN)(r:RV):Prop:= ∃n,jd S n f Z=some r
def je(S:Sys)(f:Nat)(Z:dN)(al:cG)(aj:aB)(v:V)(A:aB):Prop:= ∃n,jc S n f Z al aj=some (v,A)
abbrev fM:=oh->bn->aB->Prop
def bP (S:Sys)(al:cG)(c:aP)(Q:fM)(A:bn)(aj:aB):Prop:=∃n e g f,dJ (S.ctx al) (jd S n) (jc S n) n c A aj=some (e,g,f)/\Q e g f
def rz (S:Sys)(al:cG)(ops:eZ)(Q:bn->aB->fU->Prop)(A:bn)(aj:aB)(tr:fU):Prop:=∃n g f j,ju (S.ctx al) (jd S n) (jc S n) ops A aj=some (g,f,j)/\Q g f (tr++j)
section
variable{m:Nat}
def JO(a b:kS):Prop:=∀f x r,a f x=some r->b f x=some r
def Rn(a b:qM):Prop:=∀f x l k r,a f x l k=some r->b f x l k=some r
section
variable {T:mL} {cp qN:kS} {B GR:qM} (hp:JO cp qN) (hs:Rn B GR)
include hp hs
theorem ahw{o:iP}{aj:aB}{r:bn×aB×iT}(h:mM T cp B o A aj=some r):mM T qN GR o A aj=some r:=by
 unfold mM at h |-;cases j:s3 A o.guard with
 |none=>simp[j]at h
 |some b=>
  cases b with
  |false=>simpa [j]using h
  |true=>
   simp only[j]at h |-;cases g:cZ T.shared A aj o.op with
   |fail=>simp[g]at h
   |done v u rd=>simpa [g]using h
   |pc f E rd s=>
    simp only[g]at h |-;cases H:cp f E with
    |none=>simp[H]at h
    |some x=>rw[hp _ _ _ H];simpa [H]using h
   |sc f E=>
    simp only[g]at h |-;split at h
    .rename_i m;rw[aH m];cases H:B f E (f_ T f E aj) aj with
     |none=>simp[H]at h
     |some x=>rw[hs _ _ _ _ _ H];simpa [H]using h
    cases h
theorem aqe:∀ {ops:eZ}{A:bn}{aj:aB}{r:bn×aB×fU},ju T cp B ops A aj=some r->ju T qN GR ops A aj=some r:=by
 intro ops
 induction ops with
 |nil=>intro A aj r h;simpa [ju]using h
 |cons o os j=>
  intro A aj r h;simp only[ju]at h |-;cases f:mM T cp B o A aj with
  |none=>simp[f]at h
  |some x=>
   obtain⟨e1,g,F⟩:=x;rw[ahw hp hs f];simp only[f]at h |-;cases H:ju T cp B os e1 g with
   |none=>simp[H]at h
   |some y=>rw[j H];simpa [H]using h
omit hp hs in
theorem aiu{f g:bn->aB->Option (oh×bn×aB)}(j:∀e b r,f e b=some r->g e b=some r):
  ∀ {n m:Nat}{A:bn}{aj:aB}{r:oh×bn×aB},n<=m->lY f n A aj=some r->lY g m A aj=some r:=by
 intro n
 induction n with
 |zero=>intro m A aj r _ h;simp[lY]at h
 |succ n u=>
  intro m A aj r hm h;obtain⟨m,rfl⟩:∃k,m=k+1:=⟨m-1,J⟩;simp only[lY]at h |-;cases H:f A aj with
  |none=>simp[H]at h
  |some x=>
   obtain⟨e,e1,B⟩:=x;rw[j _ _ _ H];cases e with
   |normal=>simp only[H]at h |-;exact u J h
   |exit i=>simpa [H]using h
   |ret=>simpa [H]using h
theorem ae6{n:Nat}(y:n<=m):∀ {c:aP}{A:bn}{aj:aB}{r:oh×bn×aB},dJ T cp B n c A aj=some r->dJ T qN GR m c A aj=some r:=by
 intro c
 induction c with
 |skip=>intro A aj r h;simpa [dJ]using h
 |region d ops=>
  intro A aj r h;simp only[dJ]at h |-;cases H:ju T cp B ops A aj with
  |none=>simp[H]at h
  |some x=>rw[aqe hp hs H];simpa [H]using h
 |seq a b f g=>
  intro A aj r h;simp only[dJ]at h |-;cases H:dJ T cp B n a A aj with
  |none=>simp[H]at h
  |some x=>
   obtain⟨e,e1,z⟩:=x;rw[f H];cases e with
   |normal=>simp only[H]at h |-;exact g h
   |exit i=>simpa [H]using h
   |ret=>simpa [H]using h
 |cond x a b f g=>
  intro A aj r h;simp only[dJ]at h |-;split at h
  .split at h
   .rename_i j;simp only[j,if_true];exact f h
   rename_i j;simp only[j];exact g h
  cases h
 |block id c u=>
  intro A aj r h;simp only[dJ]at h |-;cases H:dJ T cp B n c A aj with
  |none=>simp[H]at h
  |some x=>rw[u H];simpa [H]using h
 |loop c u=>intro A aj r h;simp only[dJ]at h |-;exact aiu (λ_ _ _ h=>u h) y h
 |exit id=>intro A aj r h;simpa [dJ]using h
 |ret=>intro A aj r h;simpa [dJ]using h
 |bad=>intro A aj r h;simp[dJ]at h
theorem V0{n:Nat}(u:n<=m){fn:aV}{aj:aB}{r:V×aB}(h:sN T cp B n fn Z aj=some r):sN T qN GR m fn Z aj=some r:=by
 unfold sN at h |-;cases H:dJ T cp B n fn.body (tp Z) aj with
 |none=>simp[H]at h
 |some x=>rw[ae6 hp hs u H];simpa [H]using h
theorem ae4{n:Nat}(u:n<=m){fn:aV}{r:RV}(h:EJ T cp B n fn Z=some r):EJ T qN GR m fn Z=some r:=by
 unfold EJ at h |-;cases H:sN T cp B n fn Z AE with
 |none=>simp[H]at h
 |some x=>rw[V0 hp hs u H];simpa [H]using h
end
theorem akE(S:Sys):∀n,JO (jd S n) (jd S (n+1))/\Rn (jc S n) (jc S (n+1)):=by
 intro n
 induction n with
 |zero=>exact⟨λf x r h=>by simp[jd]at h,λf x l k r h=>by simp[jc]at h⟩
 |succ n g=>
  refine⟨λf x r h=>?_,λf x l k r h=>?_⟩
  .rw[jd]at h |-;cases hp:S.prim f x with
   |some R=>simpa [hp]using h
   |none=>
    simp only[hp]at h |-;cases H:S.fns f with
    |none=>simp[H]at h
    |some fn=>
     simp only[H]at h |-;split at h
     .rename_i hl;rw[aH hl];exact ae4 g.1 g.2 J h
     cases h
  rw[jc]at h |-;by_cases j:S.trig f x
  .rw[aH j]at h |-;exact h
  rw[aw j]at h |-;cases H:S.fns f with
  |none=>simp[H]at h
  |some fn=>
   simp only[H]at h |-;split at h
   .rename_i hl;rw[aH hl];exact V0 g.1 g.2 J h
   cases h
theorem Fa(S:Sys){n:Nat}(h:n<=m):JO (jd S n) (jd S m):=by
 induction h with
 |refl=>exactλ_ _ _ h=>h
 |step _ g=>exactλf x r hr=>(akE S _).1 f x r (g f x r hr)
theorem ML(S:Sys){n:Nat}(h:n<=m):Rn (jc S n) (jc S m):=by
 induction h with
 |refl=>exactλ_ _ _ _ _ h=>h
 |step _ g=>exactλf x l k r hr=>(akE S _).2 f x l k r (g f x l k r hr)
theorem aJ.yv{S:Sys}{r R:RV}(h:aJ S f Z r)(H:aJ S f Z R):r=R:=by obtain⟨n,g⟩:=h;obtain⟨m,hm⟩:=H;have a:=Fa S (DB n m) _ _ _ g;have b:=Fa S (ES n m) _ _ _ hm;rw[a]at b;exact lq b
theorem AK(S:Sys){al:cG}{n:Nat}(h:n<=m){c:aP}{aj:aB}{r:oh×bn×aB}(hr:dJ (S.ctx al) (jd S n) (jc S n) n c A aj=some r):
  dJ (S.ctx al) (jd S m) (jc S m) m c A aj=some r:=ae6 (Fa S h) (ML S h) h hr
theorem asK(S:Sys){al:cG}{n:Nat}(h:n<=m){aj:aB}{r:bn×aB×fU}(hr:ju (S.ctx al) (jd S n) (jc S n) ops A aj=some r):
  ju (S.ctx al) (jd S m) (jc S m) ops A aj=some r:=aqe (Fa S h) (ML S h) hr
variable {S:Sys} {al:cG} {Q:fM} {A:bn} {aj:aB}
theorem bP.mono{c:aP}{f:fM}(h:bP S al c Q A aj)(H:∀e A aj,Q e A aj->f e A aj):bP S al c f A aj:=by obtain⟨n,e,j,g,u,m⟩:=h;exact⟨n,e,j,g,u,H _ _ _ m⟩
theorem avc(h:Q .normal A aj):bP S al .skip Q A aj:=⟨0,_,_,_,rfl,h⟩
theorem aGb{id:Nat}(h:Q (.exit id) A aj):bP S al (.exit id) Q A aj:=⟨0,_,_,_,rfl,h⟩
theorem aBG(h:Q .ret A aj):bP S al .ret Q A aj:=⟨0,_,_,_,rfl,h⟩
def Mu(next:bn->aB->Prop)(Q:fM):fM
 | .normal,A,aj=>next A aj
 |e,A,aj=>Q e A aj
theorem aHd{a b:aP}(h:bP S al a (Mu (bP S al b Q) Q) A aj):bP S al (.seq a b) Q A aj:=by
 obtain⟨n,e,x,u,f,H⟩:=h;cases e with
 |normal=>obtain⟨m,e,D,B,j,g⟩:=H;refine⟨max n m,e,D,B,?_,g⟩;simp only[dJ];rw[AK S (DB n m) f];exact AK S (ES n m) j
 |exit i=>exact⟨n,_,_,_,by simp[dJ,f],H⟩
 |ret=>exact⟨n,_,_,_,by simp[dJ,f],H⟩
theorem aAC{x:fu}{a b:aP}{t:Bool}(m:ev A x=.one (.p (.bool t)))(h:if t=true then bP S al a Q A aj else bP S al b Q A aj):bP S al (.cond x a b) Q A aj:=by
 cases t with
 |true=>obtain⟨n,e,f,g,j,H⟩:=h;exact⟨n,e,f,g,by simp[dJ,m,j],H⟩
 |false=>obtain⟨n,e,f,g,j,H⟩:=(by simpa using h:bP S al b Q A aj);exact⟨n,e,f,g,by simp[dJ,m,j],H⟩
def ld(id:Nat)(Q:fM):fM
 | .exit i,A,aj=>if i=id then Q .normal A aj else Q (.exit i) A aj
 |e,A,aj=>Q e A aj
theorem aCP{id:Nat}{c:aP}(h:bP S al c (ld id Q) A aj):bP S al (.block id c) Q A aj:=by
 obtain⟨n,e,m,j,f,H⟩:=h;cases e with
 |normal=>exact⟨n,_,_,_,by simp[dJ,f],H⟩
 |ret=>exact⟨n,_,_,_,by simp[dJ,f],H⟩
 |exit i=>
  simp only[ld]at H;by_cases g:i=id
  .simp only[g,if_true]at H;exact⟨n,_,_,_,by simp[dJ,f,g],H⟩
  simp only[g,if_false]at H;exact⟨n,_,_,_,by simp[dJ,f,g],H⟩
theorem Vj(S:Sys){c:aP}{n k l:Nat}(h:n<=m)(H:k<=l){r:oh×bn×aB}(hr:lY (dJ (S.ctx al) (jd S n) (jc S n) n c) k A aj=some r):
  lY (dJ (S.ctx al) (jd S m) (jc S m) m c) l A aj=some r:=aiu (λ_ _ _ f=>AK S h f) H hr
theorem aE1{c:aP}(D:Nat->bn->aB->Prop)(u N:Nat)(Y:u<=N)(F:D u A aj)
  (round:∀k A aj,k<=N->D k A aj->bP S al c (Mu (λf g=>k<N/\D (k+1) f g) Q) A aj):bP S al (.loop c) Q A aj:=by
 have key:∀j k A aj,k+j=N->D k A aj->∃n l e f g,lY (dJ (S.ctx al) (jd S n) (jc S n) n c) l A aj=some (e,f,g)/\Q e f g:=by
  intro j
  induction j with
  |zero=>
   intro k A aj E y;obtain⟨n,e,z,B,H,h⟩:=round k A aj J y;cases e with
   |normal=>obtain⟨X,_⟩:=h;omega
   |exit i=>exact⟨n,1,_,_,_,by simp[lY,H],h⟩
   |ret=>exact⟨n,1,_,_,_,by simp[lY,H],h⟩
  |succ j T=>
   intro k A aj E y;obtain⟨n,e,z,B,H,h⟩:=round k A aj J y;cases e with
   |normal=>obtain⟨_,x⟩:=h;obtain⟨m,l,e,M,R,O,L⟩:=T (k+1) z B J x;refine⟨max n m,l+1,e,M,R,?_,L⟩;simp only[lY];rw[AK S (DB n m) H];exact Vj S (ES n m) (cT _) O
   |exit i=>exact⟨n,1,_,_,_,by simp[lY,H],h⟩
   |ret=>exact⟨n,1,_,_,_,by simp[lY,H],h⟩
 obtain⟨n,l,e,f,g,H,h⟩:=key (N-u) u A aj J F;refine⟨max n l,e,f,g,?_,h⟩;simp only[dJ];exact Vj S (DB n l) (ES n l) H
theorem arA{d:Bool}(h:rz S al ops (λA aj j=>(d->pK ops [] j)/\Q .normal A aj) A aj []):bP S al (.region d ops) Q A aj:=by
 obtain⟨n,g,f,j,m,H,u⟩:=h;refine⟨n,.normal,g,f,?_,u⟩;simp only[dJ,m];cases d with
 |false=>simp
 |true=>simpa using H
theorem aq0{tr:fU}(h:R A aj tr):rz S al [] R A aj tr:=⟨0,A,aj,[],rfl,by simpa using h⟩
theorem UQ{o:iP}{os:eZ}{tr:fU}{n:Nat}{g:bn}{B:aB}{e:iT}
  (x:mM (S.ctx al) (jd S n) (jc S n) o A aj=some (g,B,e)) (h:rz S al os R g B (tr++[e])):rz S al (o::os) R A aj tr:=by
 obtain⟨m,u,f,j,H,y⟩:=h;refine⟨max n m,u,f,e::j,?_,by simpa using y⟩;simp only[ju];rw[ahw (Fa S (DB n m)) (ML S (DB n m)) x];simp[asK S (ES n m) H]
def H8(S:Sys)(al:cG)(p:A_)(d:eh)(A:bn)(aj:aB)(tr:fU)(bK:bn->aB->fU->Prop):Prop:=
 match p with
 | .fail=>False
 | .done v u r=>al.gH (r++u.map (·.1))=true/\bK (dF A d v) (app u aj) (tr++[⟨r,u.map (·.1),[]⟩])
 | .pc f E r s=>∃x,aJ S f E x/\match eF aj r s (x.fi (S.lone s))with
  |some (v,u)=>al.gH (r++u.map (·.1))=true/\bK (dF A d v) (app u aj) (tr++[⟨r++u.map (·.1),u.map (·.1),[]⟩])
  |none=>False
 | .sc f E=>al.holds (f_ (S.ctx al) f E aj)=true/\ ∃v g,je S f E (f_ (S.ctx al) f E aj) aj v g/\
   bK (dF A d v) g (tr++[⟨(f_ (S.ctx al) f E aj).ids,(f_ (S.ctx al) f E aj).ids,(f_ (S.ctx al) f E aj).fs⟩])
def Fq(S:Sys)(al:cG)(w:Option Bool)(o:iP)(A:bn)(aj:aB)(tr:fU)(bK:bn->aB->fU->Prop):Prop:=
 match w with
 |none=>False
 |some false=>bK (dF A o.dst .undef) aj (tr++[⟨[],[],[]⟩])
 |some true=>H8 S al (cZ S.shared A aj o.op) o.dst A aj tr bK
@[simp] theorem cG.GJ (l:aG):cG.all.gH l:=by simp[cG.gH,cG.ok,cG.all]
@[simp] theorem cG.aBI (b:cG):cG.all.holds b:=rfl
theorem as0{o:iP}{os:eZ}{tr:fU}
  (h:Fq S al (s3 A o.guard) o A aj tr (rz S al os R)):rz S al (o::os) R A aj tr:=by
 cases H:s3 A o.guard with
 |none=>simp[H,Fq]at h
 |some b=>
  cases b with
  |false=>rw[H]at h;exact UQ (n:=0) (by simp[mM,H]) h
  |true=>
   rw[H]at h;simp only[Fq]at h;have j:(S.ctx al).shared=S.shared:=rfl;have m:(S.ctx al).al=al:=rfl;have F:(S.ctx al).lone=S.lone:=rfl;cases B:cZ S.shared A aj o.op with
   |fail=>simp[B,H8]at h
   |done v u r=>rw[B]at h;obtain⟨g,h⟩:=h;exact UQ (n:=0) (by simp only[mM,H,j,m,B,g,if_true]) h
   |pc f E r s=>
    rw[B]at h;obtain⟨x,⟨n,z⟩,h⟩:=h;cases hl:eF aj r s (x.fi (S.lone s))with
    |none=>simp[hl]at h
    |some y=>obtain⟨v,u⟩:=y;simp only[hl]at h;obtain⟨g,h⟩:=h;exact UQ (n:=n) (by simp only[mM,H,j,m,F,B,z,hl,g,if_true]) h
   |sc f E=>rw[B]at h;obtain⟨g,v,D,⟨n,z⟩,h⟩:=h;exact UQ (n:=n) (by simp only[mM,H,j,m,B,g,if_true,z]) h
end
variable {S:Sys} {al:cG}
def ns(al:cG)(f:List (Nat×Option eh))(R:V->aB->Prop):fM
 | .exit _,_,_=>False
 |_,A,aj=>match qD al A aj f with
  |some E=>R (zY E) aj
  |none=>False
theorem aaa{fn:aV}{aj:aB}{R:V->aB->Prop}(h:bP S al fn.body (ns al fn.results R) (tp Z) aj):
  ∃n v A,sN (S.ctx al) (jd S n) (jc S n) n fn Z aj=some (v,A)/\R v A:=by
 obtain⟨n,e,j,A,g,H⟩:=h;refine⟨n,?_⟩;unfold sN;rw[g];cases e with
 |exit i=>exact H.elim
 |normal=>
  simp only[ns]at H;split at H
  .rename_i E f;exact⟨_,_,by simp only[show(S.ctx al).al=al from rfl,f,se],H⟩
  exact H.elim
 |ret=>
  simp only[ns]at H;split at H
  .rename_i E f;exact⟨_,_,by simp only[show(S.ctx al).al=al from rfl,f,se],H⟩
  exact H.elim
theorem azj{fn:aV}{r:RV}(hp:S.prim f Z=none)(H:S.fns f=some fn)(hl:I Z<=fn.ntmps)
  (h:bP S .all fn.body (ns .all fn.results λv aj=>gr aj v=some r) (tp Z) AE):aJ S f Z r:=by
 obtain⟨n,v,A,j,g⟩:=aaa h;refine⟨n+1,?_⟩;rw[jd];simp only[hp,H,hl,if_true];unfold EJ;rw[j];exact g
theorem nc{fn:aV}{aj:aB}{R:V->aB->Prop}(H:S.fns f=some fn)(hl:I Z<=fn.ntmps)
  (h:bP S al fn.body (ns al fn.results R) (tp Z) aj) (m:S.trig f Z=false:=by rfl):∃v A,je S f Z al aj v A/\R v A:=by
 obtain⟨n,v,A,j,g⟩:=aaa h;refine⟨v,A,⟨n+1,?_⟩,g⟩;rw[jc];simp only[m,eX,if_false,H,hl,if_true];exact j
variable {S:Sys} {al:cG} {Q:fM} {A:bn} {aj:aB}
theorem aHi:bP S al .skip Q A aj↔Q .normal A aj:=⟨λ⟨_,_,_,_,h,q⟩=>by simp[dJ]at h;obtain⟨rfl,rfl,rfl⟩:=h;exact q,avc⟩
theorem aFJ{id:Nat}:bP S al (.exit id) Q A aj↔Q (.exit id) A aj:=⟨λ⟨_,_,_,_,h,q⟩=>by simp[dJ]at h;obtain⟨rfl,rfl,rfl⟩:=h;exact q,aGb⟩
theorem aB6:bP S al .ret Q A aj↔Q .ret A aj:=⟨λ⟨_,_,_,_,h,q⟩=>by simp[dJ]at h;obtain⟨rfl,rfl,rfl⟩:=h;exact q,aBG⟩
theorem axg{a b:aP}:bP S al (.seq a b) Q A aj↔bP S al a (Mu (bP S al b Q) Q) A aj:=by
 refine⟨?_,aHd⟩;rintro⟨n,e,f,j,h,q⟩
 simp only[dJ]at h;cases H:dJ (S.ctx al) (jd S n) (jc S n) n a A aj with
 |none=>simp[H]at h
 |some x=>
  obtain⟨e1,g,B⟩:=x;refine⟨n,e1,g,B,H,?_⟩;cases e1 with
  |normal=>simp only[H]at h;exact⟨n,e,f,j,h,q⟩
  |exit i=>simp[H]at h;obtain⟨rfl,rfl,rfl⟩:=h;exact q
  |ret=>simp[H]at h;obtain⟨rfl,rfl,rfl⟩:=h;exact q
def Le(v:V)(A B:Prop):Prop:=
 match v with
 | .one (.p (.bool t))=>if t=true then A else B
 |_=>False
theorem ax7{x:fu}{a b:aP}:bP S al (.cond x a b) Q A aj↔Le (ev A x) (bP S al a Q A aj) (bP S al b Q A aj):=by
 constructor
 .rintro ⟨n,e,g,f,h,q⟩
  simp only[dJ]at h;split at h
  .rename_i t H;rw[H];simp only[Le];cases t with
   |true=>exact⟨n,e,g,f,by simpa using h,q⟩
   |false=>exact⟨n,e,g,f,by simpa using h,q⟩
  cases h
 intro h;unfold Le at h;split at h
 .rename_i t H;exact aAC H h
 exact h.elim
theorem aFN{id:Nat}{c:aP}:bP S al (.block id c) Q A aj↔bP S al c (ld id Q) A aj:=by
 refine⟨?_,aCP⟩;rintro⟨n,e,j,m,h,q⟩
 simp only[dJ]at h;cases H:dJ (S.ctx al) (jd S n) (jc S n) n c A aj with
 |none=>simp[H]at h
 |some x=>
  obtain⟨e1,g,B⟩:=x;refine⟨n,e1,g,B,H,?_⟩;cases e1 with
  |normal=>simp[H]at h;obtain⟨rfl,rfl,rfl⟩:=h;exact q
  |ret=>simp[H]at h;obtain⟨rfl,rfl,rfl⟩:=h;exact q
  |exit i=>
   simp only[H]at h;simp only[ld];split at h
   .rename_i f;simp at h;obtain⟨rfl,rfl,rfl⟩:=h;rw[aH f];exact q
   rename_i f;simp at h;obtain⟨rfl,rfl,rfl⟩:=h;rw[aw f];exact q
theorem acf{tr:fU}:rz S al [] R A aj tr↔R A aj tr:=by
 refine⟨?_,aq0⟩;rintro⟨n,g,f,j,h,q⟩
 simp[ju]at h;obtain⟨rfl,rfl,rfl⟩:=h
 simpa using q
theorem RG{o:iP}{os:eZ}{tr:fU}:
  rz S al (o::os) R A aj tr↔Fq S al (s3 A o.guard) o A aj tr (rz S al os R):=by
 refine⟨?_,as0⟩;rintro⟨n,T,X,j,h,q⟩
 simp only[ju]at h;cases H:mM (S.ctx al) (jd S n) (jc S n) o A aj with
 |none=>simp[H]at h
 |some x=>
  obtain⟨L,M,e⟩:=x;simp only[H]at h;cases z:ju (S.ctx al) (jd S n) (jc S n) os L M with
  |none=>simp[z]at h
  |some y=>
   obtain⟨Y,Z,F⟩:=y;simp[z]at h;obtain⟨rfl,rfl,rfl⟩:=h;have m:rz S al os R L M (tr++[e]):=⟨n,_,_,F,z,by simpa using q⟩;unfold mM at H;cases D:s3 A o.guard with
   |none=>simp[D]at H
   |some b=>
    cases b with
    |false=>simp[D]at H;obtain⟨rfl,rfl,rfl⟩:=H;exact m
    |true=>
     simp only[D]at H;simp only[Fq];have N:(S.ctx al).shared=S.shared:=rfl;have O:(S.ctx al).al=al:=rfl;have Q:(S.ctx al).lone=S.lone:=rfl;simp only[N,O,Q]at H;cases B:cZ S.shared A aj o.op with
     |fail=>simp[B]at H
     |done v u r=>
      simp only[B]at H;split at H
      .rename_i aA;cases H;exact⟨aA,m⟩
      cases H
     |pc f E r s=>
      simp only[B]at H;cases g:jd S n f E with
      |none=>simp[g]at H
      |some x=>
       simp only[g]at H;refine⟨x,⟨n,g⟩,?_⟩;cases hl:eF aj r s (x.fi (S.lone s))with
       |none=>simp[hl]at H
       |some y=>
        obtain⟨v,u⟩:=y;simp only[hl]at H;split at H
        .rename_i aA;cases H;exact⟨aA,m⟩
        cases H
     |sc f E=>
      simp only[B]at H;split at H
      .rename_i aA;cases g:jc S n f E (f_ (S.ctx al) f E aj) aj with
       |none=>simp[g]at H
       |some x=>obtain⟨v,b⟩:=x;simp only[g]at H;cases H;exact⟨aA,v,_,⟨n,g⟩,m⟩
      cases H
theorem ama{d:Bool}:bP S al (.region d ops) Q A aj↔rz S al ops (λA aj j=>(d->pK ops [] j)/\Q .normal A aj) A aj []:=by
 refine⟨?_,arA⟩;rintro⟨n,e,g,u,h,q⟩
 simp only[dJ]at h;cases H:ju (S.ctx al) (jd S n) (jc S n) ops A aj with
 |none=>simp[H]at h
 |some x=>
  obtain⟨m,B,j⟩:=x;simp only[H]at h;cases d with
  |false=>simp at h;obtain⟨rfl,rfl,rfl⟩:=h;exact⟨n,_,_,j,H,aQ,q⟩
  |true=>simp at h;obtain⟨f,rfl,rfl,rfl⟩:=h;exact⟨n,_,_,j,H,λ_=>by simpa using f,q⟩
inductive dq (w:World) (own:Nat->Prop):PV->Value->Prop where
 |bool (b:Bool):dq w own (.bool b) (.bool b)
 |int (k:IntKind) (n:Int):dq w own (.int k n) (.int k n)
 |str (s:ByteArray):dq w own (.str s) (.string s)
 |xQ:dq w own .xQ (.pointer none)
 |nils:dq w own .nils (.slice none 0 0)
 |um:dq w own .um (.map none)
 |Bm:dq w own .Bm .nilFunc
 |nili:dq w own .nili .nilIface
 |ifc (d:TypeId) (x:Value):dq w own .ifc (.iface d x)
 |zs (a:Option Addr):dq w own .zs (.slice a 0 0)
 |box {cs:b_} (b o:Nat) (f:Nat->Value) (ho:cs≠[]-> ¬own b)
   (hc:∀(j:Nat) (x:PV),cs[j]?=some x->w.cell? ⟨b,o+j,none⟩=some (f j))
   (hr:∀(j:Nat) (x:PV),cs[j]?=some x->dq w own x (f j)):dq w own (.box cs) (.pointer (some ⟨b,o,none⟩))
 |Bu (a:Option Addr) (cap:Nat) (hn:a=none->cap=0) (hm:cap<=maxLen):dq w own (.sl []) (.slice a 0 cap)
 |sl {es:s_} (b o cap sz:Nat) (f:Nat->Value) (ho:es.flatten≠[]-> ¬own b) (hl:I es<=cap) (hm:cap<=maxLen) (de:∀e∈es,I e=sz)
   (hc:∀(j:Nat) (x:PV),es.flatten[j]?=some x->w.cell? ⟨b,o+j,none⟩=some (f j))
   (hr:∀(j:Nat) (x:PV),es.flatten[j]?=some x->dq w own x (f j)):dq w own (.sl es) (.slice (some ⟨b,o,none⟩) (I es) cap)
 |mp {ag:Bool}{es:w_} (r:Nat) (ents:Array MapEntry) (clock:Nat) (g:Nat->Array Value) (ho:¬own r) (hb:w.heap[r]?=some (.map ents clock)) (hl:ents.size=I es)
   (hk:∀(i:Nat) (q:PV) (v:b_) (e:MapEntry),es[i]?=some (q,v)->ents[i]?=some e->dq w own q e.key)
   (hv:∀(i:Nat) (q:PV) (v:b_) (e:MapEntry),es[i]?=some (q,v)->ents[i]?=some e->(g i).size=I v/\(ag->e.val=.agg (g i))/\(ag=false-> #[e.val]=g i))
   (hr:∀(i:Nat) (q:PV) (v:b_) (j:Nat) (x:PV) (u:Value),es[i]?=some (q,v)->v[j]?=some x->(g i)[j]?=some u->dq w own x u):dq w own (.mp ag es) (.map (some r))
 |fn {f:Nat}{a b:b_} (A B:Array Value) (ha:A.size=I a) (hb:B.size=I b)
   (yL:∀(j:Nat) (x:PV) (u:Value),a[j]?=some x->A[j]?=some u->dq w own x u)
   (rH:∀(j:Nat) (x:PV) (u:Value),b[j]?=some x->B[j]?=some u->dq w own x u):dq w own (.fn f a b) (.func (.func f) A B)
theorem dq.QR{w:World}{own:Nat->Prop}{x:PV}{v:Value}(h:dq w own x v):v.oneCell':=by cases h<;>rfl
theorem dq.cells{w:World}{own:Nat->Prop}{x:PV}{v:Value}(h:dq w own x v):v.cells= #[v]:=by cases h<;>rfl
theorem ajB{w:World}{b o:Nat}{v:Value}(h:w.cell? ⟨b,o,none⟩=some v):b<w.heap.size:=World.block_lt_of_cell? w ⟨b,o,none⟩ h
theorem yE{w:World}{b:Nat}{o:Obj}(h:w.heap[b]?=some o):b<w.heap.size:=(N3.1 h).1
theorem dq.mono{w:World}{own:Nat->Prop}(y:∀c,c<w.heap.size-> ¬own c->L.heap[c]?=w.heap[c]? /\ ¬CY c){x:PV}{v:Value}
  (h:dq w own x v):dq L CY x v:=by
 induction h with
 |bool b=>exact .bool b
 |int k n=>exact .int k n
 |str s=>exact .str s
 |xQ=>exact .xQ
 |nils=>exact .nils
 |um=>exact .um
 |Bm=>exact .Bm
 |nili=>exact .nili
 |ifc d x=>exact .ifc d x
 |zs a=>exact .zs a
 | @box B b o f ho D _ T=>
  cases B with
  |nil=>exact .box b o f (λh=>(h rfl).elim) (λF x h=>by simp at h) (λF x h=>by simp at h)
  |cons c r=>have H:=ajB (D 0 c rfl);have u:=ho aQ;refine .box b o f (λ_=>(y b H u).2) (λF x h=>?_) T;rw[World.cell?_of_block (y b H u).1];exact D F x h
 |Bu a N u hm=>exact .Bu a N u hm
 | @sl j b o N g f ho hl hm X D _ T=>
  cases z:j.flatten with
  |nil=>exact .sl b o N g f (λh=>(h z).elim) hl hm X (λF x h=>by simp[z]at h) (λF x h=>by simp[z]at h)
  |cons c r=>have H:=ajB (D 0 c (by simp[z]));have u:=ho (by simp[z]);refine .sl b o N g f (λ_=>(y b H u).2) hl hm X (λF x h=>?_) T;rw[World.cell?_of_block (y b H u).1];exact D F x h
 | @mp ag j r E m ac ho H hl _ Y _ Q R=>exact .mp r E m ac (y r (yE H) ho).2 ((y r (yE H) ho).1.trans H) hl Q Y R
 |fn A ab Z H _ _ M O=>exact .fn A ab Z H M O
structure bR where
 w:World
 aj:aB
 σ:Nat->Nat
 κ:Nat->Nat
 fr:Nat->Prop
variable{m m':bR}
def fZ.ij:fZ->Bool
 | .var _| .arr _ _ _| .jw _ _ _| .map _ _=>true
 |_=>false
def mZ:Nat×Option fZ->eh
 |(_,some (.arr _ g _))=>some g
 |(_,some (.jw _ g _))=>some g
 |(_,some (.sk _ g _))=>some g
 |_=>none
def bR.ij(m:bR)(c:Nat):Prop:= ∃id o,(m.aj id).2=some o/\o.ij/\m.σ id=c
def bR.own(m:bR)(c:Nat):Prop:=m.fr c\/m.ij c
inductive dX (m:bR):c6->Value->Prop where
 |p {x:PV}{v:Value} (h:dq m.w m.own x v):dX m (.p x) v
 |bh {id g off:Nat} (a:Addr) (hg:g<=(m.aj id).1) (h:(m.aj id).1=g->(m.aj id).2.isSome->a=⟨m.σ id,off,none⟩):dX m (.bh id g off) (.pointer (some a))
 |dY {id g i off:Nat} (a:Addr) (hg:g<=(m.aj id).1) (h:∀sz,(m.aj id).1=g->mZ (m.aj id)=some sz->a=⟨m.σ id,i*sz+off,none⟩):dX m (.dY id g i off) (.pointer (some a))
 |hsl {id g z off len:Nat} (a:Addr) (cap:Nat) (hg:g<=(m.aj id).1) (hl:len<=cap) (hm:cap<=maxLen)
   (h:∀sz,(m.aj id).1=g->mZ (m.aj id)=some sz->sz=z/\(off=0\/0<len->a=⟨m.σ id,off*sz,none⟩)/\off+cap=m.κ id):
   dX m (.hsl id g z off len) (.slice (some a) len cap)
 |mS {id g:Nat} (r:Nat) (hg:g<=(m.aj id).1) (h:(m.aj id).1=g->(m.aj id).2.isSome->r=m.σ id):dX m (.mS id g) (.map (some r))
 |hfn {f:Nat}{a b:eG} (A B:Array Value) (ha:A.size=I a) (hb:B.size=I b)
   (yL:∀(j:Nat) (x:c6) (u:Value),a[j]?=some x->A[j]?=some u->dX m x u)
   (rH:∀(j:Nat) (x:c6) (u:Value),b[j]?=some x->B[j]?=some u->dX m x u):dX m (.hfn f a b) (.func (.func f) A B)
theorem dX.QR{x:c6}{v:Value}(h:dX m x v):v.oneCell':=by
 cases h with
 |p h=>exact h.QR
 |_=>rfl
theorem dX.cells{x:c6}{v:Value}(h:dX m x v):v.cells= #[v]:=by
 cases h with
 |p h=>exact h.cells
 |_=>rfl
def eE(m:bR)(B:eG)(E:List Value):Prop:=I E=I B/\ ∀(j:Nat) (x:c6) (u:Value),B[j]?=some x->E[j]?=some u->dX m x u
def eI(w:World)(own:Nat->Prop)(B:b_)(E:List Value):Prop:=I E=I B/\ ∀(j:Nat) (x:PV) (u:Value),B[j]?=some x->E[j]?=some u->dq w own x u
def qB(m:bR):V->Value->Prop
 | .undef,v=>v=undef
 | .one c,v=>dX m c v
 | .agg B,v=>∃arr,v=.agg arr/\eE m B arr.toList
 | .tup _,_=>False
def dm(m:bR):V->Value->Prop
 | .tup E,v=>∃arr,v=.tuple arr/\arr.size=I E/\ ∀(j:Nat) (x:V) (u:Value),E[j]?=some x->arr[j]?=some u->qB m x u
 |x,v=>qB m x v
def uL(m:bR)(id:Nat):fZ->Prop
 | .var B=>∃F H,m.w.heap[m.σ id]?=some (.cells F H (0,0))/\eE m B F.toList
 | .fvar B=>∃F H Y,m.w.heap[m.σ id]?=some (.cells F H Y)/\eI m.w m.own B F.toList/\ ¬m.own (m.σ id)
 | .arr H g j=>∃F,m.w.heap[m.σ id]?=some (.cells F H (0,0))/\0<g/\(∀e∈j,I e=g)/\I j<=m.κ id/\m.κ id<=maxLen/\F.size=m.κ id*g/\
   eI m.w m.own j.flatten (F.toList.take (I j*g))
 | .sk H g j=>∃F Y,m.w.heap[m.σ id]?=some (.cells F H Y)/\0<g/\(∀e∈j,I e=g)/\I j<=m.κ id/\m.κ id<=maxLen/\F.size=m.κ id*g/\
   eI m.w m.own j.flatten (F.toList.take (I j*g))/\ ¬m.own (m.σ id)
 | .jw H g j=>∃F,m.w.heap[m.σ id]?=some (.cells F H (0,0))/\0<g/\(∀e∈j,I e=g)/\I j<=m.κ id/\m.κ id<=maxLen/\F.size=m.κ id*g/\
   eE m j.flatten (F.toList.take (I j*g))
 | .map A j=>∃E f,m.w.heap[m.σ id]?=some (.map E f)/\E.size=I j/\
   ∀(i:Nat) (q:PV) (v:b_) (e:MapEntry),j[i]?=some (q,v)->E[i]?=some e->dq m.w m.own q e.key/\ ∃h:Array Value,(A->e.val=.agg h)/\(A=false-> #[e.val]=h)/\eI m.w m.own v h.toList
 | .fmap A j=>∃E f,m.w.heap[m.σ id]?=some (.map E f)/\E.size=I j/\
   (∀(i:Nat) (q:PV) (v:b_) (e:MapEntry),j[i]?=some (q,v)->E[i]?=some e->dq m.w m.own q e.key/\ ∃h:Array Value,(A->e.val=.agg h)/\(A=false-> #[e.val]=h)/\eI m.w m.own v h.toList)/\ ¬m.own (m.σ id)
structure eo (w0:World) (m:bR):Prop where
 os:m.w.os=w0.os
 tape:m.w.tape=w0.tape
 output:m.w.output=w0.output
 size:w0.heap.size<=m.w.heap.size
 base:∀c,c<w0.heap.size->m.w.heap[c]?=w0.heap[c]?
 obj:∀id o,(m.aj id).2=some o->uL m id o
 gZ:∀id o,(m.aj id).2=some o->o.ij->w0.heap.size<=m.σ id/\ ¬m.fr (m.σ id)
 frlt:∀c,m.fr c->c<m.w.heap.size
 inj:∀id fR o o',(m.aj id).2=some o->o.ij->(m.aj fR).2=some o'->o'.ij->m.σ id=m.σ fR->id=fR
structure g_ (m m':bR):Prop where
 os:m'.w.os=m.w.os
 tape:m'.w.tape=m.w.tape
 output:m'.w.output=m.w.output
 size:m.w.heap.size<=m'.w.heap.size
 keep:∀c,c<m.w.heap.size-> ¬m.ij c->m'.w.heap[c]?=m.w.heap[c]?
 ij:∀c,c<m.w.heap.size->m'.ij c->m.ij c
 less:∀c,c<m.w.heap.size-> ¬m.own c-> ¬m'.own c
 gen:∀id,(m.aj id).1<=(m'.aj id).1
 ref:∀id,(m'.aj id).1=(m.aj id).1->(m'.aj id).2.isSome->(m.aj id).2.isSome/\m'.σ id=m.σ id/\m'.κ id=m.κ id/\mZ (m'.aj id)=mZ (m.aj id)
theorem g_.refl(m:bR):g_ m m:=⟨rfl,rfl,rfl,cT _,λ_ _ _=>rfl,λ_ _ h=>h,λ_ _ h=>h,λ_=>cT _,λ_ _ h=>⟨h,rfl,rfl,rfl⟩⟩
theorem g_.trans{a b c:bR}(h:g_ a b)(k:g_ b c):g_ a c where
 os:=k.os.trans h.os
 tape:=k.tape.trans h.tape
 output:=k.output.trans h.output
 size:=lX h.size k.size
 keep x H hm:=(k.keep x (Bz H h.size) λg=>hm (h.ij x H g)).trans (h.keep x H hm)
 ij x H hm:=h.ij x H (k.ij x (Bz H h.size) hm)
 less x H j:=k.less x (Bz H h.size) (h.less x H j)
 gen id:=lX (h.gen id) (k.gen id)
 ref id A hs:=by have B:=h.gen id;have z:=k.gen id;obtain⟨f,e1,e2,E⟩:=k.ref id J hs;obtain⟨u,m,F,y⟩:=h.ref id J f;exact⟨u,e1.trans m,e2.trans F,E.trans y⟩
theorem g_.own(h:g_ m m'):∀c,c<m.w.heap.size-> ¬m.own c->m'.w.heap[c]?=m.w.heap[c]? /\ ¬m'.own c:=λc H f=>⟨h.keep c H λhm=>f (.inr hm),h.less c H f⟩
theorem agf{x:Nat×Option fZ}(h:mZ x=some g):x.2.isSome:=by
 obtain⟨f,o⟩:=x;cases o with
 |none=>simp[mZ]at h
 |some o=>rfl
structure vO (m m':bR):Prop where
 own:∀c,c<m.w.heap.size-> ¬m.own c->m'.w.heap[c]?=m.w.heap[c]? /\ ¬m'.own c
 gen:∀id,(m.aj id).1<=(m'.aj id).1
 ref:∀id,(m'.aj id).1=(m.aj id).1->(m'.aj id).2.isSome->(m.aj id).2.isSome/\m'.σ id=m.σ id/\m'.κ id=m.κ id/\mZ (m'.aj id)=mZ (m.aj id)
theorem g_.zero(h:g_ m m'):vO m m':=⟨h.own,h.gen,h.ref⟩
theorem dq.ev(h:vO m m'){x:PV}{v:Value}(hr:dq m.w m.own x v):dq m'.w m'.own x v:=hr.mono h.own
theorem dX.ev(h:vO m m'){x:c6}{v:Value}(hr:dX m x v):dX m' x v:=by
 induction hr with
 |p hp=>exact .p (hp.ev h)
 | @bh id L D a hg H=>have f:=h.gen id;refine .bh a J λF hs=>?_;obtain⟨s,e1,_,_⟩:=h.ref id J hs;rw[e1];exact H J s
 | @dY id L i D a hg H=>have f:=h.gen id;refine .dY a J λg F hs=>?_;obtain⟨s,e1,_,E⟩:=h.ref id J (agf hs);rw[e1];exact H g J (E▸hs)
 | @hsl id L z D len a N hg hl hm H=>have f:=h.gen id;refine .hsl a N J hl hm λg F hs=>?_;obtain⟨s,e1,e2,E⟩:=h.ref id J (agf hs);rw[e1,e2];exact H g J (E▸hs)
 | @mS id L r hg hr=>have f:=h.gen id;refine .mS r J λF hs=>?_;obtain⟨s,e1,_,_⟩:=h.ref id J hs;rw[e1];exact hr J s
 |hfn A B H y _ _ j u=>exact .hfn A B H y j u
theorem eE.ev(h:vO m m')(hr:eE m B E):eE m' B E:=⟨hr.1,λj x u a b=>(hr.2 j x u a b).ev h⟩
theorem eI.mono{w:World}{own:Nat->Prop}(h:∀c,c<w.heap.size-> ¬own c->L.heap[c]?=w.heap[c]? /\ ¬CY c){B:b_}
  (hr:eI w own B E):eI L CY B E:=⟨hr.1,λj x u a b=>(hr.2 j x u a b).mono h⟩
theorem eI.ev(h:vO m m'){B:b_}(hr:eI m.w m.own B E):eI m'.w m'.own B E:=hr.mono h.own
theorem qB.ev(h:vO m m'){x:V}{v:Value}(hr:qB m x v):qB m' x v:=by
 cases x with
 |undef=>exact hr
 |one c=>exact dX.ev h hr
 |agg B=>obtain⟨arr,e,H⟩:=hr;exact⟨arr,e,H.ev h⟩
 |tup E=>exact hr.elim
theorem dm.ev(h:vO m m'){x:V}{v:Value}(hr:dm m x v):dm m' x v:=by
 cases x with
 |tup E=>obtain⟨arr,e,hs,H⟩:=hr;exact⟨arr,e,hs,λj x u a b=>(H j x u a b).ev h⟩
 |undef=>exact qB.ev (x:=.undef) h hr
 |one c=>exact qB.ev (x:=.one c) h hr
 |agg B=>exact qB.ev (x:=.agg B) h hr
theorem uL.ev(h:vO m m'){id:Nat}{o:fZ}(hs:m'.σ id=m.σ id)(z:m'.κ id=m.κ id)(A:m'.w.heap[m.σ id]?=m.w.heap[m.σ id]?)
  (hr:uL m id o):uL m' id o:=by
 cases o with
 |var B=>obtain⟨F,H,a,b⟩:=hr;exact⟨F,H,by rw[hs,A];exact a,b.ev h⟩
 |fvar B=>obtain⟨F,H,Y,a,b,c⟩:=hr;exact⟨F,H,Y,by rw[hs,A];exact a,b.ev h,by rw[hs];exact(h.own _ (yE a) c).2⟩
 |arr H g j=>obtain⟨F,a,b,c,d,e,f,D⟩:=hr;exact⟨F,by rw[hs,A];exact a,b,c,by rw[z];exact d,by rw[z];exact e,by rw[z];exact f,D.ev h⟩
 |sk H g j=>obtain⟨F,Y,a,b,c,d,e,f,D,i⟩:=hr;exact⟨F,Y,by rw[hs,A];exact a,b,c,by rw[z];exact d,by rw[z];exact e,by rw[z];exact f,D.ev h,by rw[hs];exact(h.own _ (yE a) i).2⟩
 |jw H g j=>obtain⟨F,a,b,c,d,e,f,D⟩:=hr;exact⟨F,by rw[hs,A];exact a,b,c,by rw[z];exact d,by rw[z];exact e,by rw[z];exact f,D.ev h⟩
 |map L j=>obtain⟨E,u,a,b,c⟩:=hr;exact⟨E,u,by rw[hs,A];exact a,b,λi q v e x y=>let ⟨p,D,g1,g2,g3⟩:=c i q v e x y;⟨p.ev h,D,g1,g2,g3.ev h⟩⟩
 |fmap L j=>obtain⟨E,u,a,b,c,d⟩:=hr;exact⟨E,u,by rw[hs,A];exact a,b,λi q v e x y=>let ⟨p,D,g1,g2,g3⟩:=c i q v e x y;⟨p.ev h,D,g1,g2,g3.ev h⟩,by rw[hs];exact(h.own _ (yE a) d).2⟩
theorem uL.lt{id:Nat}{o:fZ}(hr:uL m id o):m.σ id<m.w.heap.size:=by
 cases o with
 |var B=>obtain⟨F,H,a,_⟩:=hr;exact yE a
 |fvar B=>obtain⟨F,H,Y,a,_⟩:=hr;exact yE a
 |arr H g j=>obtain⟨F,a,_⟩:=hr;exact yE a
 |sk H g j=>obtain⟨F,Y,a,_⟩:=hr;exact yE a
 |jw H g j=>obtain⟨F,a,_⟩:=hr;exact yE a
 |map A j=>obtain⟨E,f,a,_⟩:=hr;exact yE a
 |fmap A j=>obtain⟨E,f,a,_⟩:=hr;exact yE a
theorem uL.calm{id:Nat}{o:fZ}(hr:uL m id o)(ho:o.ij=false):¬m.own (m.σ id):=by
 cases o with
 |fvar B=>obtain⟨F,H,Y,_,_,c⟩:=hr;exact c
 |sk H g j=>obtain⟨F,Y,_,_,_,_,_,_,_,c⟩:=hr;exact c
 |fmap A j=>obtain⟨_,_,_,_,_,c⟩:=hr;exact c
 |_=>simp[fZ.ij]at ho
variable {O:World}
section
variable{m:bR}
structure jo (w w':World):Prop where
 os:w'.os=w.os
 tape:w'.tape=w.tape
 output:w'.output=w.output
 size:w.heap.size<=w'.heap.size
 keep:∀c,c<w.heap.size->w'.heap[c]?=w.heap[c]?
theorem jo.refl(w:World):jo w w:=⟨rfl,rfl,rfl,cT _,λ_ _=>rfl⟩
theorem jo.trans{a b c:World}(h:jo a b)(k:jo b c):jo a c:=
 ⟨k.os.trans h.os,k.tape.trans h.tape,k.output.trans h.output,lX h.size k.size,λx H=>(k.keep x (Bz H h.size)).trans (h.keep x H)⟩
theorem jo.alloc(w:World)(o:Obj):jo w (w.alloc o):=⟨rfl,rfl,rfl,aQ,λ_ h=>heap_alloc_old w o h⟩
theorem jo.drew(w:World):jo w w.drew:=⟨rfl,rfl,rfl,cT _,λ_ _=>rfl⟩
def bR.later(m:bR)(L:World)(X:Nat->Prop):bR:={m with w:=L,fr:=λc=>m.fr c\/X c}
theorem agZ{X:Nat->Prop}{c:Nat}:(m.later L X).own c↔m.own c\/X c:=by
 unfold bR.own bR.ij bR.later;constructor
 .rintro ((h|h)|h)
  .exact .inl (.inl h)
  .exact .inr h
  exact .inl (.inr h)
 rintro((h|h)|h)
 .exact .inl (.inl h)
 .exact .inr h
 exact .inl (.inr h)
theorem M4{L:World}{X:Nat->Prop}(hg:jo m.w L)(f:∀c,X c->m.w.heap.size<=c):g_ m (m.later L X) where
 os:=hg.os
 tape:=hg.tape
 output:=hg.output
 size:=hg.size
 keep c H _:=hg.keep c H
 ij c _ h:=h
 less c H g h:=by
  rcases agZ.1 h with h|h
  .exact g h
  have:=f c h;omega
 gen _:=cT _
 ref _ _ hs:=⟨hs,rfl,rfl,rfl⟩
theorem TD{L:World}{X:Nat->Prop}(h:eo O m)(hg:jo m.w L)(g:∀c,X c->m.w.heap.size<=c/\c<L.heap.size):eo O (m.later L X) where
 os:=hg.os.trans h.os
 tape:=hg.tape.trans h.tape
 output:=hg.output.trans h.output
 size:=lX h.size hg.size
 base c H:=(hg.keep c (Bz H h.size)).trans (h.base c H)
 obj id o ho:=(h.obj id o ho).ev (M4 hg λc H=>(g c H).1).zero rfl rfl (hg.keep _ (h.obj id o ho).lt)
 gZ id o ho hm:=by
  refine⟨(h.gZ id o ho hm).1,?_⟩;rintro(f|j)
  .exact(h.gZ id o ho hm).2 f
  have u:=(g _ j).1;have x:=(h.obj id o ho).lt;simp only[bR.later]at u;omega
 frlt c H:=by
  rcases H with f|j
  .exact Bz (h.frlt c f) hg.size
  exact(g c j).2
 inj:=h.inj
def bR.install(m:bR)(s c k:Nat)(o:fZ):bR:=⟨m.w,dE m.aj s ((m.aj s).1+1,some o),dE m.σ s c,dE m.κ s k,λx=>m.fr x/\x≠c⟩
theorem afN{s c k:Nat}{o:fZ}{x:Nat}(h:(m.install s c k o).ij x):x=c\/m.ij x:=by
 obtain⟨id,O,ho,hm,f⟩:=h;simp only[bR.install,aT]at ho f;by_cases H:id=s
 .simp only[H,if_true]at f;exact .inl f.symm
 simp only[H,if_false]at ho f;exact .inr ⟨id,O,ho,hm,f⟩
theorem SF{s c k:Nat}{o:fZ}(H:m.fr c){x:Nat}(h:(m.install s c k o).own x):m.own x:=by
 rcases h with h|h
 .exact .inl h.1
 rcases afN h with rfl|h
 .exact .inl H
 exact .inr h
theorem UC{M:bR}{s c k:Nat}{o:fZ}(h:g_ m M)(u:M.fr c)(f:m.w.heap.size<=c\/m.ij c):g_ m (M.install s c k o) where
 os:=h.os
 tape:=h.tape
 output:=h.output
 size:=h.size
 keep:=h.keep
 ij x j hm:=by
  rcases afN hm with rfl|hm
  .rcases f with f|f
   .omega
   exact f
  exact h.ij x j hm
 less x j D hm:=h.less x j D (SF u hm)
 gen id:=by
  simp only[bR.install,aT];have:=h.gen id;split
  .rename_i e;subst e;simp only;omega
  exact this
 ref id g hs:=by
  have hg:=h.gen id;simp only[bR.install,aT]at g hs |-;by_cases H:id=s
  .subst H;simp only[if_true]at g;omega
  simp only[H,if_false]at g hs |-;exact h.ref id g hs
theorem Sa{s c k:Nat}{o:fZ}(h:eo O m)(z:m.fr c)(X:O.heap.size<=c)(ho:uL (m.install s c k o) s o):eo O (m.install s c k o):=by
 have E:∀x,x<m.w.heap.size-> ¬m.own x->(m.install s c k o).w.heap[x]?=m.w.heap[x]? /\ ¬(m.install s c k o).own x:=λx _ T=>⟨rfl,λh=>T (SF z h)⟩
 have Q:vO m (m.install s c k o):=by
  refine⟨E,λid=>?_,λid f hs=>?_⟩
  .simp only[bR.install,aT];split
   .rename_i e;subst e;simp only;omega
   exact cT _
  simp only[bR.install,aT]at f hs |-;by_cases H:id=s
  .subst H;simp only[if_true]at f;omega
  simp only[H,if_false]at f hs |-;exact⟨hs,trivial,trivial,trivial⟩
 exact{
  os:=h.os
  tape:=h.tape
  output:=h.output
  size:=h.size
  base:=h.base
  obj:=by
   intro id u N;by_cases H:id=s
   .subst H;simp only[bR.install,aT,if_true,iL]at N;exact N▸ho
   have hs:(m.install s c k o).σ id=m.σ id:=by simp[bR.install,aT,H]
   have Y:(m.install s c k o).κ id=m.κ id:=by simp[bR.install,aT,H]
   simp only[bR.install,aT,H,if_false]at N;exact(h.obj id u N).ev Q hs Y rfl
  gZ:=by
   intro id u N hm;by_cases H:id=s
   .subst H;simp only[bR.install,aT,if_true];exact⟨X,λh=>h.2 rfl⟩
   simp only[bR.install,aT,H,if_false]at N |-;exact⟨(h.gZ id u N hm).1,λL=>(h.gZ id u N hm).2 L.1⟩
  frlt:=λx R=>h.frlt x R.1
  inj:=by
   intro id F B A j D g M f;by_cases H:id=s<;>by_cases y:F=s
   .rw[H,y]
   .subst H;simp only[bR.install,aT,y,if_true,if_false]at g f;exact((h.gZ F A g M).2 (f▸z)).elim
   .subst y;simp only[bR.install,aT,H,if_true,if_false]at j f;exact((h.gZ id B j D).2 (f.symm▸z)).elim
   simp only[bR.install,aT,H,y,if_false]at j g f;exact h.inj id F B A j D g M f}
def bR.qO(m:bR)(id:Nat):bR:=⟨m.w,dE m.aj id ((m.aj id).1,none),m.σ,m.κ,λc=>m.fr c\/c=m.σ id⟩
theorem aAA{id:Nat}{o:fZ}(ho:(m.aj id).2=some o)(hm:o.ij){x:Nat}(h:(m.qO id).own x):m.own x:=by
 rcases h with(h|h)|⟨F,O,f,j,g⟩
 .exact .inl h
 .exact .inr ⟨id,o,ho,hm,h.symm⟩
 simp only[bR.qO,aT]at f g;by_cases H:F=id
 .simp[H]at f
 simp only[H,if_false]at f;exact .inr ⟨F,O,f,j,g⟩
theorem KE{id:Nat}{o:fZ}(ho:(m.aj id).2=some o)(hm:o.ij):g_ m (m.qO id) where
 os:=rfl
 tape:=rfl
 output:=rfl
 size:=cT _
 keep _ _ _:=rfl
 ij x _ h:=by
  obtain⟨f,O,g,y,u⟩:=h;simp only[bR.qO,aT]at g u;by_cases H:f=id
  .simp[H]at g
  simp only[H,if_false]at g;exact⟨f,O,g,y,u⟩
 less x _ z h:=z (aAA ho hm h)
 gen f:=by
  simp only[bR.qO,aT];split
  .rename_i e;subst e;exact cT _
  exact cT _
 ref f j hs:=by
  simp only[bR.qO,aT]at j hs |-;by_cases H:f=id
  .simp[H]at hs
  simp only[H,if_false]at j hs |-;exact⟨hs,trivial,trivial,trivial⟩
theorem agC{id:Nat}{o:fZ}(h:eo O m)(ho:(m.aj id).2=some o)(hm:o.ij):eo O (m.qO id) where
 os:=h.os
 tape:=h.tape
 output:=h.output
 size:=h.size
 base:=h.base
 obj F u f:=by
  simp only[bR.qO,aT]at f;by_cases H:F=id
  .simp[H]at f
  simp only[H,if_false]at f;exact(h.obj F u f).ev (KE ho hm).zero rfl rfl rfl
 gZ F u f g:=by
  simp only[bR.qO,aT]at f |-;by_cases H:F=id
  .simp[H]at f
  simp only[H,if_false]at f;refine⟨(h.gZ F u f g).1,?_⟩;rintro(j|j)
  .exact(h.gZ F u f g).2 j
  exact H (h.inj F id u o f g ho hm j)
 frlt c E:=by
  rcases E with j|rfl
  .exact h.frlt c j
  exact(h.obj id o ho).lt
 inj x M L D f B g A y:=by
  simp only[bR.qO,aT]at f g y;by_cases H:x=id
  .simp[H]at f
  by_cases z:M=id
  .simp[z]at g
  simp only[H,z,if_false]at f g;exact h.inj x M L D f B g A y
def bR.mh(m:bR)(L:World)(id:Nat)(o:fZ):bR:=⟨L,dE m.aj id ((m.aj id).1,some o),m.σ,m.κ,m.fr⟩
section
variable {m:bR} {L:World} {id:Nat} {o old:fZ} (ho:(m.aj id).2=some old) (hm:old.ij)
include ho hm
theorem ayf{x:Nat}(h:(m.mh L id o).own x):m.own x:=by
 rcases h with h|⟨F,O,f,j,g⟩
 .exact .inl h
 simp only[bR.mh,aT]at f g;by_cases H:F=id
 .exact .inr ⟨id,old,ho,hm,H▸g⟩
 simp only[H,if_false]at f;exact .inr ⟨F,O,f,j,g⟩
theorem NL(E:mZ ((m.aj id).1,some o)=mZ ((m.aj id).1,some old))(M:L.os=m.w.os)(B:L.tape=m.w.tape)(z:L.output=m.w.output)(hs:L.heap.size=m.w.heap.size)
  (D:∀c,c≠m.σ id->L.heap[c]?=m.w.heap[c]?):g_ m (m.mh L id o) where
 os:=M
 tape:=B
 output:=z
 size:=DE hs.symm
 keep c _ j:=D c λe=>j ⟨id,old,ho,hm,e.symm⟩
 ij x _ h:=by
  obtain⟨F,O,u,A,g⟩:=h;simp only[bR.mh,aT]at u g;by_cases H:F=id
  .exact⟨id,old,ho,hm,H▸g⟩
  simp only[H,if_false]at u;exact⟨F,O,u,A,g⟩
 less x _ j h:=j (ayf ho hm h)
 gen F:=by
  simp only[bR.mh,aT];split
  .rename_i e;subst e;exact cT _
  exact cT _
 ref F y f:=by
  simp only[bR.mh,aT]at y f |-;by_cases H:F=id
  .subst H;refine⟨by simp[ho],trivial,trivial,?_⟩;simp only[if_true];rw[E,<-ho]
  simp only[H,if_false]at y f |-;exact⟨f,trivial,trivial,trivial⟩
theorem VR(h:eo O m)(Y:mZ ((m.aj id).1,some o)=mZ ((m.aj id).1,some old))(T:L.os=m.w.os)(E:L.tape=m.w.tape)(B:L.output=m.w.output)(hs:L.heap.size=m.w.heap.size)
  (z:∀c,c≠m.σ id->L.heap[c]?=m.w.heap[c]?) (Z:uL (m.mh L id o) id o):eo O (m.mh L id o) where
 os:=T.trans h.os
 tape:=E.trans h.tape
 output:=B.trans h.output
 size:=lX h.size (DE hs.symm)
 base c A:=by have:=(h.gZ id old ho hm).1;exact(z c J).trans (h.base c A)
 obj F j f:=by
  simp only[bR.mh,aT]at f;by_cases H:F=id
  .subst H;simp only[if_true,iL]at f;exact f▸Z
  simp only[H,if_false]at f;refine(h.obj F j f).ev (NL ho hm Y T E B hs z).zero rfl rfl (z _ λe=>?_);cases Q:j.ij with
  |true=>exact H (h.inj F id j old f Q ho hm e)
  |false=>exact(h.obj F j f).calm Q (.inr ⟨id,old,ho,hm,e.symm⟩)
 gZ F j f g:=by
  simp only[bR.mh,aT]at f |-;by_cases H:F=id
  .subst H;exact h.gZ F old ho hm
  simp only[H,if_false]at f;exact h.gZ F j f g
 frlt c A:=by rw[show(m.mh L id o).w.heap.size=m.w.heap.size from hs];exact h.frlt c A
 inj y M X R f N g D x:=by
  simp only[bR.mh,aT]at f g x;by_cases H:y=id<;>by_cases u:M=id
  .rw[H,u]
  .simp only[u,if_false]at g;exact H▸h.inj id M old R ho hm g D (H▸x)
  .simp only[H,if_false]at f;exact u▸h.inj y id X old f N ho hm (u▸x)
  simp only[H,u,if_false]at f g;exact h.inj y M X R f N g D x
end
end
def Ov:Value->Option PV
 | .bool b=>some (.bool b)
 | .int k n=>some (.int k n)
 | .string s=>some (.str s)
 | .pointer none=>some .xQ
 | .slice none 0 0=>some .nils
 | .map none=>some .um
 | .nilFunc=>some .Bm
 | .nilIface=>some .nili
 |_=>none
def Lf:List Value->Option b_
 |[]=>some []
 |v::r=>match Ov v,Lf r with
  |some x,some M=>some (x::M)
  |_,_=>none
def Wo:Value->Option V
 | .agg B=>(Lf B.toList).map λl=>.agg (l.map .p)
 |v=>(Ov v).map λx=>.one (.p x)
def dy:Operand->Option fu
 | .tmp t=>some (.t t)
 | .const (.int .i64 n)=>some (.i n)
 | .const (.bool b)=>some (.b b)
 | .const v=>(Wo v).map .k
 | .func f=>some (.k (.one (.p (.fn f [] []))))
 | .global _=>none
def rU:List Operand->Option sM
 |[]=>some []
 |a::r=>match dy a,rU r with
  |some x,some M=>some (x::M)
  |_,_=>none
def yU:Option Operand->Option (Option fu)
 |none=>some none
 |some a=>(dy a).map some
def wv(P:Program)(t:TypeId):Option b_:=
 match P.info? t with
 |some i=>match i.zero with
  |some (.agg B)=>if B.size=i.size then Lf B.toList else none
  |some v=>if i.size=1 then(Ov v).map λx=>[x]else none
  |none=>none
 |none=>none
def sf(P:Program)(t:TypeId):Option eh:=
 match P.underlying t,P.info? t with
 |some (.struct _),some i=>some (some i.size)
 |some (.array _ _),some i=>some (some i.size)
 |some _,some i=>if i.size=1 then some none else none
 |_,_=>none
def xS(P:Program)(t:TypeId):eh:=(P.info? t).map (·.size)
def CW(place:Nat->Option (Nat×Nat))(z:Nat):List (Nat×Operand)->Option (List (Nat×Nat×fu))
 |[]=>some []
 |(i,x)::r=>match place i,dy x,CW place z r with
  |some (D,n),some a,some q=>if D+n<=z then some ((D,n,a)::q)else none
  |_,_,_=>none
def KO:Nat->List (Nat×Operand)->Option sM
 |_,[]=>some []
 |k,(i,x)::r=>match dy x,KO (k+1) r with
  |some a,some q=>if i=k then some (a::q)else none
  |_,_=>none
def UW(P:Program)(t:TypeId):Option Bool:=
 match P.underlying t with
 |some (.int _)=>some true
 |some .bool=>some false
 |_=>none
def Jx(P:Program):Nat->List Field->Option eH
 |_,[]=>some []
 |k,f::r=>match UW P f.type,Jx P (k+1) r with
  |some b,some bs=>if f.offset=k/\f.name≠ "_" then some (b::bs)else none
  |_,_=>none
def Mr:Operand->Bool
 | .const .nilIface=>true
 |_=>false
def OG(P:Program)(t:TypeId)(x y:Operand):Option xN:=
 match P.underlying t with
 |some (.interface _)=>if Mr x||Mr y then some .ifc else none
 |some .bool=>some .bool
 |some (.pointer _)=>some .ptr
 |some (.slice _)=>some .slc
 |some (.map _ _)=>some .map
 |some (.func _ _ _)=>some .fnc
 |some (.struct fs)=>if !P.stoodInHeld t&& !P.eqGuardType P.depth t then(Jx P 0 fs.toList).map .str else none
 |_=>none
def BD(P:Program)(t:TypeId):Option (TypeId×Nat×Nat×b_):=
 match P.underlying t with
 |some (.slice e)=>match P.info? e,wv P e with
  |some i,some z=>if 0<i.size/\0<i.bytes then some (e,i.size,i.bytes,z)else none
  |_,_=>none
 |_=>none
def keyOf(P:Program)(k:TypeId):eh:=
 match P.underlying k with
 |some (.int _)=>some 0
 |some .string=>some 1
 |some .bool=>some 2
 |_=>none
def RH(P:Program)(t:TypeId):Bool:=
 match P.info? t with
 |some i=>match i.zero with
  |some (.agg _)=>true
  |_=>false
 |none=>false
def GL(P:Program)(j:Nat)(o:Oper):Option rK:=
 match o.op with
 | .move x=>(dy x).map .nv
 | .assign x=>(dy x).map .nv
 | .pick c a b=>match dy c,dy a,dy b with
  |some c,some a,some b=>some (.pick c a b)
  |_,_,_=>none
 | .alloc t=>(wv P t).map (.alloc j)
 | .box _ x=>(dy x).map (.box j)
 | .build t ps=>match P.underlying t,wv P t with
  |some (.struct fs),some z=>if fs.all λf=>(P.info? f.type).isSome then
    (CW (λi=>(fs[i]?).map λf=>(f.offset,P.cellsOf f.type)) (I z) ps.toList).map (.build z)
   else none
  |some (.array _ e),some z=>match P.info? e with
   |some i=>(CW (λk=>some (k*i.size,i.size)) (I z) ps.toList).map (.build z)
   |none=>none
  |_,_=>none
 | .buildSlice t n ps=>match BD P t,KO 0 ps.toList with
  |some (e,g,_,_),some as=>if I as=n/\n*g<=16777216 then some (.Iv j e g as)else none
  |_,_=>none
 | .load t a=>match sf P t,dy a with
  |some k,some a=>some (.load k a)
  |_,_=>none
 | .store t a x=>match xS P t,dy a,dy x with
  |some n,some a,some x=>some (.store n a x)
  |_,_,_=>none
 | .nilCheck x=>(dy x).map .QG
 | .binOp op t x y _=>match dy x,dy y with
  |some a,some b=>match P.underlying t with
   |some (.int _)=>some (.bin op a b)
   |some .string=>some (.bin op a b)
   |_=>match op,OG P t x y with
    | .eql,some k=>some (.eqc k false a b)
    | .neq,some k=>some (.eqc k true a b)
    |_,_=>none
  |_,_=>none
 | .unOp op _ x=>match op with
  | .not=>(dy x).map (.un .not)
  | .neg=>(dy x).map (.un .neg)
  |_=>none
 | .convert s d x=>match P.underlying s,P.underlying d,dy x with
  |some (.int _),some (.int k),some a=>some (.conv k a)
  |some (.slice e),some .string,some a=>match P.underlying e with
   |some (.int .u8)=>some (.bstr a)
   |_=>none
  |_,_,_=>none
 | .makeFunc (.func f) a b=>match rU a.toList,rU b.toList with
  |some x,some y=>some (.mkfn f x y)
  |_,_=>none
 | .makeMap t none=>match P.underlying t with
  |some (.map _ e)=>(sf P e).map λk=>.mkmap j k.isSome
  |_=>none
 | .makeSlice t l c=>match BD P t,dy l,dy c with
  |some (e,g,bytes,z),some l,some c=>some (.QC j e g bytes z l c)
  |_,_,_=>none
 | .slice t x lo H none=>match dy x,yU lo,yU H with
  |some a,some l,some h=>match P.underlying t with
   |some (.slice e)=>(xS P e).map λg=>.slice g a l h
   |some .string=>some (.sslice a l h)
   |_=>none
  |_,_,_=>none
 | .fieldAddr s x f=>match P.underlying s,dy x with
  |some (.struct fs),some a=>match fs[f]? with
   |some d=>if P.cellsOf d.type≠0 then some (.Ca d.offset a)else none
   |none=>none
  |_,_=>none
 | .field t x f=>match P.underlying t,dy x with
  |some (.struct fs),some a=>match fs[f]? with
   |some d=>(sf P d.type).map λk=>.fld d.offset k a
   |none=>none
  |_,_=>none
 | .indexAddr t x i=>match dy x,dy i with
  |some a,some b=>match P.underlying t with
   |some (.slice e)=>(xS P e).map λg=>.Ql g a b
   |some (.array n e)=>(xS P e).map λg=>.N5 n g a b
   |_=>none
  |_,_=>none
 | .index t x i=>match dy x,dy i with
  |some a,some b=>match P.underlying t with
   |some (.array n e)=>match xS P e,sf P e with
    |some g,some k=>some (.aidx n g k a b)
    |_,_=>none
   |some .string=>some (.sidx a b)
   |_=>none
  |_,_=>none
 | .lookup t x k ok=>match P.underlying t,dy x,dy k with
  |some (.map B e),some a,some b=>match wv P e,sf P e with
   |some z,some q=>match keyOf P B with
    |some A=>if RH P e=q.isSome then some (.lookup A z q.isSome ok a b)else none
    |none=>none
   |_,_=>none
  |_,_,_=>none
 | .mapUpdate t m k v=>match P.underlying t,dy m,dy k,dy v with
  |some (.map B e),some a,some b,some c=>match sf P e with
   |some q=>(keyOf P B).map λA=>.mupd A q.isSome a b c
   |none=>none
  |_,_,_,_=>none
 | .insert t m k v=>match P.underlying t,dy m,dy k,dy v with
  |some (.map B e),some a,some b,some c=>match sf P e with
   |some q=>(keyOf P B).map λA=>.mupd A q.isSome a b c
   |none=>none
  |_,_,_,_=>none
 | .extract x i=>(dy x).map λa=>.extract a i
 | .call c=>match c.callee,rU c.args.toList with
  | .value f,some as=>(dy f).map λD=>.call j D as
  | .builtin .len,some [a]=>match c.argTypes[0]? with
   |some t=>match P.underlying t with
    |some .string=>some (.slen a)
    |some (.slice _)=>some (.Qu a)
    |some (.map _ _)=>some (.mlen a)
    |_=>none
   |none=>none
  | .builtin .append,some [a,b]=>match c.argTypes[0]?,c.argTypes[1]? with
   |some t,some u=>match BD P t with
    |some (e,g,bytes,_)=>if t=u/\c.argTypes.size=2 then some (.append j e g bytes a b)else none
    |none=>none
   |_,_=>none
  | .builtin .max,some [a,b]=>some (.max a b)
  | .builtin .min,some [a,b]=>some (.min a b)
  | .builtin .clear,some [a]=>match c.argTypes[0]? with
   |some t=>(BD P t).map λq=>.clear q.2.2.2 a
   |none=>none
  |_,_=>none
 |_=>none
def fu.tmps:fu->aG
 | .t n=>[n]
 |_=>[]
def Fv:sM->aG
 |[]=>[]
 |a::r=>a.tmps++Fv r
def WY:Option fu->aG
 |some a=>a.tmps
 |none=>[]
def aep:List (Nat×Nat×fu)->aG
 |[]=>[]
 |(_,_,a)::r=>a.tmps++aep r
def rK.tmps:rK->aG
 | .nv x| .box _ x| .load _ x| .QG x| .un _ x| .conv _ x| .bstr x| .Ca _ x| .fld _ _ x| .extract x _| .slen x| .Qu x| .mlen x| .clear _ x=>x.tmps
 | .pick c a b=>c.tmps++a.tmps++b.tmps
 | .alloc _ _| .mkmap _ _| .bad=>[]
 | .build _ ps=>aep ps
 | .Iv _ _ _ ps=>Fv ps
 | .store _ a x| .bin _ a x| .eqc _ _ a x| .Ql _ a x| .N5 _ _ a x| .aidx _ _ _ a x| .sidx a x| .lookup _ _ _ _ a x| .append _ _ _ _ a x| .max a x| .min a x=>a.tmps++x.tmps
 | .mkfn _ a b=>Fv a++Fv b
 | .QC _ _ _ _ _ a b=>a.tmps++b.tmps
 | .slice _ x a b| .sslice x a b=>x.tmps++WY a++WY b
 | .mupd _ _ a b c=>a.tmps++b.tmps++c.tmps
 | .call _ f as=>f.tmps++Fv as
def iP.Kb(o:iP):aG:=
 o.op.tmps++match o.guard with
  |some (t,_)=>[t]
  |none=>[]
def GN(a b:iP):Bool:=
 (match a.dst with
  |some d=> !b.Kb.contains d&&b.dst !=some d
  |none=>true)&&
 (match b.dst with
  |some d=> !a.Kb.contains d
  |none=>true)
def VC(o:iP):Nat->eZ->Bool
 |_,[]=>true
 |j,x::r=>(o.anc.testBit j||GN x o)&&VC o (j+1) r
def OC:eZ->eZ->Bool
 |[],_=>true
 |o::os,f=>VC o 0 f&&OC os (f++[o])
def Ko(P:Program)(f:Nat)(o:Oper):rK:=(GL P f o).getD .bad
def akC(N:Nat):eh->Bool
 |some d=>decide (d<N)
 |none=>true
def abF(dst:Nat->eh):Option (Nat×Bool)->Option (Option (Nat×Bool))
 |none=>some none
 |some (j,w)=>(dst j).map λt=>some (t,w)
def EM(P:Program)(dst:Nat->eh)(base N:Nat)(anc:Nat)(o:Oper):Option iP:=if akC N o.dst then(abF dst o.guard).map λg=>⟨o.dst,Ko P base o,g,anc⟩else none
def x_(P:Program)(dst anc:Nat->eh)(base N:Nat):Nat->List Oper->Option eZ
 |_,[]=>some []
 |i,o::r=>match EM P dst ((base+i)*64) N ((anc i).getD 0) o,x_ P dst anc base N (i+1) r with
  |some x,some M=>some (x::M)
  |_,_=>none
def JL(ops:Array Oper):Bool:=(List.range ops.size).all λi=>match ops[i]? with
 |some o=>o.after.toList.all λe=> !Region.binds .any e||decide (e.on<i)
 |none=>true
def qY(P:Program)(f N:Nat):Code->Option aP
 | .skip=>some .skip
 | .region id ops D=>
  let b:=if D then Region.before ops else #[]
  match x_ P (λj=>(ops[j]?).bind (·.dst)) (λi=>b[i]?) ((f*1000+id)*1000) N 0 ops.toList with
  |some M=>if D then(if JL ops&&OC M []then some (.region true M)else none)else some (.region false M)
  |none=>none
 | .seq a b=>match qY P f N a,qY P f N b with
  |some x,some y=>some (.seq x y)
  |_,_=>none
 | .cond c a b=>match dy c,qY P f N a,qY P f N b with
  |some c,some x,some y=>some (.cond c x y)
  |_,_,_=>none
 | .block id c=>(qY P f N c).map (.block id)
 | .loop c=>(qY P f N c).map .loop
 | .exit id=>some (.exit id)
 | .scope c=>qY P f N c
 | .label _=>some .skip
 | .ret=>some .ret
 |_=>some .bad
def BN(P:Program):List ResultVar->Option (List (Nat×Option eh))
 |[]=>some []
 | .tmp t::r=>(BN P r).map ((t,none):: ·)
 | .cell t H::r=>match sf P H,BN P r with
  |some k,some q=>some ((t,some k)::q)
  |_,_=>none
def Fs(P:Program)(f:Nat):Option aV:=
 match P.funcs[f]? with
 |none=>none
 |some fn=>match fn.body with
  |none=>none
  |some c=>if fn.name== "runtime.NumGoroutine" then none else
   match qY P f fn.ntmps c,BN P fn.results.toList with
   |some b,some r=>some ⟨fn.ntmps,r,b⟩
   |_,_=>none
variable {P:Program} {O:World}
section
variable{m:bR}
def kK(m:bR)(A:bn)(tmps:Array Value):Prop:=∀t,dm m (A t) (tmps.getD t undef)
theorem kK.ev(h:g_ m m'){A:bn}{tmps:Array Value}(hr:kK m A tmps):kK m' A tmps:=λt=>(hr t).ev h.zero
theorem dm.one{c:c6}{v:Value}:dm m (.one c) v↔dX m c v:=Iff.rfl
theorem dm.agg{v:Value}:dm m (.agg B) v↔ ∃arr,v=.agg arr/\eE m B arr.toList:=Iff.rfl
theorem dm.of1{x:V}{v:Value}(h:qB m x v):dm m x v:=by
 cases x with
 |tup E=>exact h.elim
 |_=>exact h
theorem abi{w:World}{own:Nat->Prop}{v:Value}{x:PV}(h:Ov v=some x):dq w own x v:=by
 unfold Ov at h;split at h<;>first
  |(cases h;constructor;done)
  |cases h
theorem afn{w:World}{own:Nat->Prop}:∀ {E:List Value}{M:b_},Lf E=some M->eI w own M E:=by
 intro E
 induction E with
 |nil=>intro M h;simp[Lf]at h;subst h;exact⟨rfl,λj x u a _=>by simp at a⟩
 |cons v r f=>
  intro M h;simp only[Lf]at h;split at h
  .rename_i x y g H;cases h;obtain⟨hl,hr⟩:=f H;refine⟨by simp[hl],λj z u a b=>?_⟩;cases j with
   |zero=>simp at a b;subst a b;exact abi g
   |succ j=>simp at a b;exact hr j z u a b
  cases h
theorem eI.Gp(h:eI m.w m.own M E):eE m (M.map .p) E:=by refine⟨by simp[h.1],λj x u a b=>?_⟩;simp only[fY,eU]at a;obtain⟨y,H,rfl⟩:=a;exact .p (h.2 j y u H b)
theorem ard{v:Value}{x:V}(h:Wo v=some x):dm m x v:=by
 unfold Wo at h;split at h
 .simp only[eU]at h;obtain⟨M,H,rfl⟩:=h;exact dm.agg.2 ⟨_,rfl,(afn H).Gp⟩
 simp only[eU]at h;obtain⟨y,H,rfl⟩:=h;exact dm.one.2 (.p (abi H))
theorem gb{A:bn}{a:Act}(h:dy x=some y)(hr:kK m A a.tmps):dm m (ev A y) (a.eval x):=by
 unfold dy at h;split at h
 .cases h;exact hr _
 .cases h;exact dm.one.2 (.p (.int _ _))
 .cases h;exact dm.one.2 (.p (.bool _))
 .simp only[eU]at h;obtain⟨v,H,rfl⟩:=h;exact ard H
 .cases h;exact dm.one.2 (.p (.fn #[] #[] rfl rfl (λj x u a=>by simp at a) (λj x u a=>by simp at a)))
 cases h
def aFo(P:Program)(ρ:Operand->Value)(o:Oper)(w:World)(x:Value)(L:World):Prop:=
 (execOp ρ o).run P w=.ok (.value x) L\/((execOp ρ o).run P w=.ok .skip L/\x=undef)
def iF(P:Program)(O:World)(ρ:Operand->Value)(o:Oper)(m:bR)(v:V)(u:lA):Prop:=∃x m',aFo P ρ o m.w x m'.w/\eo O m'/\g_ m m'/\m'.fr=m.fr/\m'.aj=app u m.aj/\dm m' v x
theorem iF.calm{ρ:Operand->Value}{o:Oper}{v:V}{x:Value}(h:eo O m)(f:(execOp ρ o).run P m.w=.ok (.value x) m.w)(H:dm m v x):iF P O ρ o m v []:=
 ⟨x,m,.inl f,h,g_.refl m,rfl,rfl,H⟩
section
variable {m:bR} {A:bn} {a:Act} {o:Oper} (aA:eo O m) (hr:kK m A a.tmps)
include aA hr
theorem aoA(ho:o.op=.move x\/o.op=.assign x)(h:dy x=some y):iF P O a.eval o m (ev A y) []:=
 .calm aA (by rcases ho with ho|ho<;>simp[execOp,ho]) (gb h hr)
theorem atq{c y:Operand}{t:Bool}(ho:o.op=.pick c x y)(j:dy c=some c')(u:dy x=some X)(H:dy y=some y')
  (f:ev A c'=.one (.p (.bool t))):iF P O a.eval o m (if t then ev A X else ev A y') []:=by
 have h:=gb j hr;rw[f]at h;obtain⟨⟩:dX m (.p (.bool t)) _:=h;rename_i hp;generalize g:a.eval c=b at hp;cases hp;refine .calm (x:=if t then a.eval x else a.eval y) aA ?_ ?_
 .simp[execOp,ho,g,asBool]
 cases t
 .exact gb H hr
 exact gb u hr
end
theorem Fl{b:Bool}{v:Value}(h:dm m (.one (.p (.bool b))) v):v=.bool b:=by obtain⟨hp⟩:dX m _ v:=h;cases hp;rfl
theorem Dh{k:IntKind}{n:Int}{v:Value}(h:dm m (.one (.p (.int k n))) v):v=.int k n:=by obtain⟨hp⟩:dX m _ v:=h;cases hp;rfl
theorem NS{s:ByteArray}{v:Value}(h:dm m (.one (.p (.str s))) v):v=.string s:=by obtain⟨hp⟩:dX m _ v:=h;cases hp;rfl
theorem VK{v:Value}(h:dm m (.one (.p .nils)) v):v=.slice none 0 0:=by obtain⟨hp⟩:dX m _ v:=h;cases hp;rfl
theorem aDj{v:Value}(h:dm m (.one (.p .zs)) v):∃a,v=.slice a 0 0:=by obtain⟨hp⟩:dX m _ v:=h;cases hp;exact⟨_,rfl⟩
theorem ap2{v:Value}(h:dm m (.one (.p .um)) v):v=.map none:=by obtain⟨hp⟩:dX m _ v:=h;cases hp;rfl
theorem pD{x:PV}{v:Value}(h:dq m.w m.own x v):dm m (.one (.p x)) v:=dm.one.2 (.p h)
def bR.fresh(m:bR)(O:Obj)(s k:Nat)(o:fZ):bR:=(m.later (m.w.alloc O) (· =m.w.heap.size)).install s m.w.heap.size k o
theorem abg(aA:eo O m)(f:Obj)(s k:Nat)(o:fZ):(m.fresh f s k o).fr=m.fr:=by
 funext c;simp only[bR.fresh,bR.install,bR.later];apply propext;constructor
 .rintro ⟨h|h,H⟩
  .exact h
  exact(H h).elim
 intro h;exact⟨.inl h,λe=>by have:=aA.frlt c h;omega⟩
theorem Ud(O:Obj)(s k:Nat)(o:fZ):g_ m (m.fresh O s k o):=UC (M4 (jo.alloc m.w O) λc h=>DE h.symm) (.inr rfl) (.inl (cT _))
theorem amC(O:Obj)(s k:Nat)(o:fZ):(m.fresh O s k o).w.heap[(m.fresh O s k o).σ s]?=some O:=by
 have:(m.fresh O s k o).σ s=m.w.heap.size:=by simp[bR.fresh,bR.install,aT]
 rw[this];exact heap_alloc_new m.w O
theorem ag1(aA:eo O m)(f:Obj)(s k:Nat)(o:fZ)(ho:uL (m.fresh f s k o) s o):eo O (m.fresh f s k o):=Sa (TD aA (jo.alloc m.w f) λc h=>by subst h;exact⟨cT _,aQ⟩) (.inr rfl) aA.size ho
theorem aes(m:bR)(O:Obj)(s k:Nat)(o:fZ):(m.fresh O s k o).aj=app [(s,((m.aj s).1+1,some o))] m.aj:=rfl
theorem akk(aA:eo O m)(s:Nat)(t:TypeId)(B:eG)(arr:Array Value)(h:eE m B arr.toList):
  eo O (m.fresh (.cells arr t) s 0 (.var B))/\dm (m.fresh (.cells arr t) s 0 (.var B)) (.one (.bh s ((m.aj s).1+1) 0)) (.pointer (some ⟨m.w.heap.size,0,none⟩)):=by
 refine⟨ag1 aA _ s 0 _ ⟨arr,t,amC _ s 0 _,h.ev (Ud _ s 0 _).zero⟩,dm.one.2 (.bh _ ?_ λ_ _=>?_)⟩
 .simp[bR.fresh,bR.install,bR.later,aT]
 simp[bR.fresh,bR.install,aT]
theorem OA{t:TypeId}(h:wv P t=some z):∃v i,P.info? t=some i/\i.zero=some v/\v.cells.size=i.size/\I z=i.size/\ ∀w own,eI w own z v.cells.toList:=by
 unfold wv at h;split at h
 .rename_i i H;split at h
  .rename_i B g;split at h
   .rename_i hs;have hr:=λw own=>afn (w:=w) (own:=own) h;refine⟨_,i,H,g,by simpa [Value.cells]using hs,?_,λw own=>by simpa [Value.cells]using hr w own⟩;have:=(hr default (λ_=>False)).1;simp at this;omega
   cases h
  .rename_i v g A;split at h
   .rename_i hs;simp only[eU]at h;obtain⟨x,m,rfl⟩:=h;have hr:=λw own=>abi (w:=w) (own:=own) m;have f:=(hr default (λ_=>False)).cells;refine⟨v,i,H,A,by simp[f,hs],by simp[hs],λw own=>?_⟩;rw[f];refine⟨rfl,λj y u a b=>?_⟩;cases j with
    |zero=>simp at a b;subst a b;exact hr w own
    |succ j=>simp at a
   cases h
  cases h
 cases h
section
variable {m:bR} {A:bn} {a:Act} {o:Oper} (aA:eo O m) (hr:kK m A a.tmps)
include aA
theorem aAZ{t:TypeId}{s:Nat}(ho:o.op=.alloc t)(j:wv P t=some z):
  iF P O a.eval o m (.one (.bh s ((m.aj s).1+1) 0)) [(s,((m.aj s).1+1,some (.var (z.map .p))))]:=by
 obtain⟨v,i,g,h,hs,hl,D⟩:=OA j;obtain⟨f,H⟩:=akk aA s t (z.map .p) v.cells (D m.w m.own).Gp;refine⟨_,_,.inl ?_,f,Ud _ s 0 _,abg aA _ s 0 _,aes _ _ s 0 _,H⟩;simp[execOp,ho,Instr.alloc,zeroValue,typeInfo,g,h,newVar,newRow];rfl
include hr
theorem avY{t:TypeId}{s:Nat}(ho:o.op=.box t x)(z:dy x=some y)(H:vl (ev A y)=some B):
  iF P O a.eval o m (.one (.bh s ((m.aj s).1+1) 0)) [(s,((m.aj s).1+1,some (.var B)))]:=by
 have f:=gb z hr;have D:eE m B (a.eval x).cells.toList:=by
  generalize ev A y=w at H f;cases w with
  |undef=>simp[vl]at H
  |tup E=>simp[vl]at H
  |one c=>
   simp[vl]at H;subst H;rw[(dm.one.1 f).cells];refine⟨rfl,λj y u p q=>?_⟩;cases j with
   |zero=>simp at p q;subst p q;exact f
   |succ j=>simp at p
  |agg L=>simp[vl]at H;subst H;obtain⟨arr,e,h⟩:=dm.agg.1 f;rw[e];exact h
 obtain⟨F,g⟩:=akk aA s t B _ D;refine⟨_,_,.inl ?_,F,Ud _ s 0 _,abg aA _ s 0 _,aes _ _ s 0 _,g⟩;simp[execOp,ho,Instr.box,newVar,newRow];rfl
end
end
theorem Ml{α:Type}:∀ {j:List (List α)},(∀e∈j,I e=g)->I j.flatten=I j*g:=by
 intro j
 induction j with
 |nil=>intro _;simp
 |cons e r f=>intro h;have m:=h e aQ;have H:=f λx u=>h x (by simp[u]);simp only[lI,fv,dw,m,H,jW,Gg];omega
theorem HR{α:Type}:∀ {j:List (List α)},(∀e∈j,I e=g)->∀ {i:Nat}{e:List α},j[i]?=some e->∀ {m:Nat},m<g->j.flatten[i*g+m]?=e[m]? :=by
 intro j
 induction j with
 |nil=>intro _ i e h;simp at h
 |cons x r B=>
  intro h i e H m A;have f:=h x aQ;cases i with
  |zero=>simp at H;subst H;simp only[lI,zg,kA];rw[xv J]
  |succ i=>simp at H;have u:=B (λy z=>h y (by simp[z])) H A;simp only[lI];rw[vI (by rw[f,jW];omega),<-u];congr 1;rw[f,jW];omega
theorem Oo{α:Type}{j:List (List α)}(h:∀e∈j,I e=g){i:Nat}{e:List α}(H:j[i]?=some e):I e=g:=h e (ch H)
theorem Ni{w:World}{b k:Nat}(h:w.heap[b]?=some (.cells F H Y)):w.cell? ⟨b,k,none⟩=F[k]? :=cell_of_row w b k F H Y h
def C9 (m:bR)(v:Value)(B:eG):Prop:=∃b o E,v=.pointer (some ⟨b,o,none⟩)/\eE m B E/\ ∀(j:Nat) (u:Value),E[j]?=some u->m.w.cell? ⟨b,o+j,none⟩=some u
theorem C9.row{b o:Nat}(h:m.w.heap[b]?=some (.cells F H Y))(hl:o+I B<=F.size)
  (f:∀(j:Nat) (x:c6) (u:Value),B[j]?=some x->F[o+j]?=some u->dX m x u):C9 m (.pointer (some ⟨b,o,none⟩)) B:=by
 refine⟨b,o,(F.toList.drop o).take (I B),rfl,⟨by simp;omega,λj x u p q=>?_⟩,λj u q=>?_⟩
 .rw[nN]at q;split at q
  .exact f j x u p (by simpa using q)
  cases q
 rw[nN]at q;split at q
 .rw[Ni h];simpa using q
 cases q
theorem ao6(aA:eo O m){x:V}{v:Value}{rd:aG}(h:Dk m.aj x=some (B,rd))(X:dm m x v):C9 m v B:=by
 unfold Dk at h;split at h
 .rename_i ps;simp only[iL,mj]at h;obtain⟨rfl,rfl⟩:=h;obtain⟨hp⟩:dX m _ v:=X;cases hp with
  |box b o f ho hc hr=>
   refine⟨b,o,(List.range (I ps)).map f,rfl,⟨aQ,λE x u p q=>?_⟩,λE u q=>?_⟩
   .simp only[fY,eU]at p q;obtain⟨y,hy,rfl⟩:=p;obtain⟨k,Z,rfl⟩:=q;have vx:k=E:=by
     rw[qx (by have:=cD.1 hy;obtain⟨h,_⟩:=this;exact h)]at Z
     simpa using Z.symm
    subst vx;exact .p (hr k y hy)
   simp only[fY,eU]at q;obtain⟨k,Z,rfl⟩:=q;have aq:E<I ps:=by have:=cD.1 Z;obtain⟨h,_⟩:=this;simpa using h
   rw[qx aq]at Z;simp at Z;subst Z;exact hc E _ (sT aq)
 .rename_i id ad D;have X:dX m _ v:=X;cases X with
  |bh a hg N=>
   split at h
   .rename_i g' BY z;split at h
    .rename_i R;simp only[iL,mj]at h;obtain⟨rfl,rfl⟩:=h;have M:(m.aj id).2=some (.var BY):=by rw[z]
     have N:=N (by rw[z];exact R) (by rw[M];rfl);subst N;obtain⟨F,H,A,hl,hc⟩:=aA.obj id _ M;simp at hl;by_cases ho:D<=I BY
     .exact C9.row A (by simp;omega) λE x u p q=>hc (D+E) x u (by simpa using p) (by simpa using q)
     exact⟨_,_,[],rfl,⟨by simp;omega,λE x u p q=>by simp at q⟩,λE u q=>by simp at q⟩
    cases h
   .rename_i g' BY z;split at h
    .rename_i R;simp only[iL,mj]at h;obtain⟨rfl,rfl⟩:=h;have M:(m.aj id).2=some (.fvar BY):=by rw[z]
     have N:=N (by rw[z];exact R) (by rw[M];rfl);subst N;obtain⟨F,H,Y,A,hp,_⟩:=aA.obj id _ M;have hl:=hp.1;simp at hl;by_cases ho:D<=I BY
     .refine C9.row A (by simp;omega) λE x u p q=>?_;simp only[fY,eU]at p;obtain⟨y,hy,rfl⟩:=p;exact .p (hp.2 (D+E) y u (by simpa using hy) (by simpa using q))
     exact⟨_,_,[],rfl,⟨by simp;omega,λE x u p q=>by simp at q⟩,λE u q=>by simp at q⟩
    cases h
   cases h
 .rename_i id ad i D;have X:dX m _ v:=X;cases X with
  |dY a hg N=>
   have key:∀(g:Nat) (e:eG) (F:Array Value) (H:TypeId) (Y:Nat×Nat),m.w.heap[m.σ id]?=some (.cells F H Y)->I e=g->(i+1)*g<=F.size->
     a=⟨m.σ id,i*g+D,none⟩->(∀(E:Nat) (x:c6) (u:Value),e[E]?=some x->F[i*g+E]?=some u->dX m x u)->C9 m (.pointer (some a)) (e.drop D):=by
    intro g e F H Y A L aq zI hc;subst zI;rw[jW,Gg]at aq;by_cases ho:D<=I e
    .exact C9.row A (by simp;omega) λE x u p q=>hc (D+E) x u (by simpa using p) (by rw[<-F7];exact q)
    exact⟨_,_,[],rfl,⟨by simp;omega,λE x u p q=>by simp at q⟩,λE u q=>by simp at q⟩
   have pure:∀(H g:Nat) (j:s_) (e:b_) (F:Array Value) (Y:Nat×Nat),m.w.heap[m.σ id]?=some (.cells F H Y)->(∀e∈j,I e=g)->I j*g<=F.size->
     eI m.w m.own j.flatten (F.toList.take (I j*g))->j[i]?=some e->a=⟨m.σ id,i*g+D,none⟩->C9 m (.pointer (some a)) ((e.drop D).map .p):=by
    intro H g j e F Y A Q ab T L zI;have dY:=Oo Q L;have hi:i<I j:=(cD.1 L).1;have mR:(i+1)*g<=I j*g:=oH _ hi;rw[E_];refine key g (e.map .p) F H Y A (by simpa using dY) J zI λE x u p q=>?_;simp only[fY,eU]at p;obtain⟨y,hy,rfl⟩:=p;have hj:E<g:=by have:=(cD.1 hy).1;omega
    refine .p (T.2 (i*g+E) y u (by rw[HR Q L hj];exact hy) ?_);rw[jW]at mR;rw[nN,aH J]
    simpa using q
   split at h
   .rename_i g' H g j z;split at h
    .rename_i R;simp only[eU,mj]at h;obtain⟨e,L,rfl,rfl⟩:=h;have M:(m.aj id).2=some (.arr H g j):=by rw[z]
     obtain⟨F,A,sG,Q,hl,hm,dK,T⟩:=aA.obj id _ M;exact pure H g j e F _ A Q (by rw[dK];exact oH _ hl) T L (N g (by rw[z];exact R) (by rw[z];rfl))
    cases h
   .rename_i g' H g j z;split at h
    .rename_i R;simp only[eU,mj]at h;obtain⟨e,L,rfl,rfl⟩:=h;have M:(m.aj id).2=some (.sk H g j):=by rw[z]
     obtain⟨F,Y,A,sG,Q,hl,hm,dK,T,_⟩:=aA.obj id _ M;exact pure H g j e F _ A Q (by rw[dK];exact oH _ hl) T L (N g (by rw[z];exact R) (by rw[z];rfl))
    cases h
   .rename_i g' H g j z;split at h
    .rename_i R;simp only[eU,mj]at h;obtain⟨e,L,rfl,rfl⟩:=h;have M:(m.aj id).2=some (.jw H g j):=by rw[z]
     obtain⟨F,A,sG,Q,hl,hm,dK,T⟩:=aA.obj id _ M;have dY:=Oo Q L;have hi:i<I j:=(cD.1 L).1;have mR:(i+1)*g<=I j*g:=oH _ hi;have ac:I j*g<=m.κ id*g:=oH _ hl;refine key g e F H _ A dY J (N g (by rw[z];exact R) (by rw[z];rfl)) λE x u p q=>?_;have hj:E<g:=by have:=(cD.1 p).1;omega
     refine T.2 (i*g+E) x u (by rw[HR Q L hj];exact p) ?_;rw[jW]at mR;rw[nN,aH J]
     simpa using q
    cases h
   cases h
 cases h
theorem ass{t:TypeId}{n:Nat}(h:sf P t=some (some n)):∃d i,P.underlying t=some d/\P.info? t=some i/\i.size=n/\((∃fs,d=.struct fs)\/ ∃k e,d=.array k e):=by
 unfold sf at h;split at h
 .rename_i fs i f H;simp at h;exact⟨_,i,f,H,h,.inl ⟨fs,rfl⟩⟩
 .rename_i k e i f H;simp at h;exact⟨_,i,f,H,h,.inr ⟨k,e,rfl⟩⟩
 .split at h<;>simp at h
 cases h
theorem aDz{t:TypeId}(h:sf P t=some none):∃d i,P.underlying t=some d/\P.info? t=some i/\i.size=1/\(∀fs,d≠ .struct fs)/\ ∀k e,d≠ .array k e:=by
 unfold sf at h;split at h
 .simp at h
 .simp at h
 .rename_i d i N g f H;split at h
  .rename_i hs;exact⟨_,_,f,H,hs,λfs e=>N fs e,λk E e=>g k E e⟩
  cases h
 cases h
theorem amD{t:TypeId}{n:Nat}(h:sf P t=some (some n))(w:World):(isAgg t).run P w=.ok true w/\(sizeOf t).run P w=.ok n w:=by
 obtain⟨d,i,g,H,j,f⟩:=ass h;constructor
 .rcases f with⟨fs,rfl⟩|⟨k,e,rfl⟩<;>simp[isAgg,run_underlying g]
 simp[sizeOf,typeInfo,H,j]
theorem aoX{t:TypeId}(h:sf P t=some none)(w:World):(isAgg t).run P w=.ok false w/\(sizeOf t).run P w=.ok 1 w:=by
 obtain⟨d,i,g,H,m,f,j⟩:=aDz h;constructor
 .cases d<;>first
   |exact(f _ rfl).elim
   |exact(j _ _ rfl).elim
   |simp[isAgg,run_underlying g]
 simp[sizeOf,typeInfo,H,m]
theorem amw{t:TypeId}{k:eh}(L:sf P t=some k){v:Value}(h:C9 m v B){x:V}(H:te k B=some x):
  ∃a y,v=.pointer (some a)/\(loadVar t a).run P m.w=.ok y m.w/\dm m x y:=by
 obtain⟨b,o,E,rfl,F,A⟩:=h;cases k with
 |none=>
  obtain⟨g,z⟩:=aoX L m.w;cases B with
  |nil=>simp[te]at H
  |cons c r=>
   simp[te]at H;subst H;obtain⟨hl,hr⟩:=F;cases E with
   |nil=>simp at hl
   |cons u us=>have D:=A 0 u rfl;refine⟨_,u,rfl,?_,dm.one.2 (hr 0 c u rfl rfl)⟩;rw[vX]at D;simp[loadVar,g,D]
 |some n=>
  obtain⟨g,z⟩:=amD L m.w;simp only[te]at H;split at H
  .rename_i N;cases H;obtain⟨hl,hr⟩:=F;refine⟨_,.agg (E.take n).toArray,rfl,?_,dm.agg.2 ⟨_,rfl,by simp;omega,λj x u p q=>?_⟩⟩
   .have f:I (E.take n)=n:=by simp;omega
    have:=run_loadCells_list (P:=P) m.w ⟨b,o,none⟩ (E.take n) (λj u q=>by
     rw[Addr.add_lit];rw[nN]at q;split at q
     .exact A j u q
     cases q)
    rw[f]at this;simp[loadVar,g,z,this]
   rw[nN]at p;simp only[nN]at q;split at p
   .rename_i M;simp only[M,if_true]at q;exact hr j x u p q
   cases p
  cases H
section
variable {m:bR} {A:bn} {a:Act} {o:Oper} (aA:eo O m) (hr:kK m A a.tmps)
include aA hr
theorem aua{t:TypeId}{k:eh}{rd:aG}{v:V}(ho:o.op=.load t x)(h:sf P t=some k)(z:dy x=some y)
  (u:Dk m.aj (ev A y)=some (B,rd)) (H:te k B=some v):iF P O a.eval o m v []:=by
 obtain⟨D,y',g,f,j⟩:=amw h (ao6 aA u (gb z hr)) H;exact .calm aA (by simp[execOp,ho,g,Instr.loadAt,Instr.sureAddr,f]) j
theorem aEp{v:V}(ho:o.op=.nilCheck x)(z:dy x=some y)(u:cZ (λ_=>false) A m.aj (.QG y)=.done v [] []):iF P O a.eval o m v []:=by
 have F:=gb z hr;simp only[cZ]at u;split at u
 .rename_i j;rw[j]at F;cases u;have H:dX m _ (a.eval x):=F;generalize g:a.eval x=b at H F;cases H with
  |bh E hg h=>exact .calm aA (by simp[execOp,ho,g]) F
 .rename_i j;rw[j]at F;cases u;have H:dX m _ (a.eval x):=F;generalize g:a.eval x=b at H F;cases H with
  |dY E hg h=>exact .calm aA (by simp[execOp,ho,g]) F
 .rename_i j;rw[j]at F;cases u;have H:dX m _ (a.eval x):=F;generalize g:a.eval x=b at H F;cases H with
  |p hp=>cases hp with
   |box M N f Z T X=>exact .calm aA (by simp[execOp,ho,g]) F
 .rename_i j;rw[j]at F;cases u;have H:dX m _ (a.eval x):=F;generalize g:a.eval x=b at H F;cases H with
  |hfn L B D Q Y R=>exact .calm aA (by simp[execOp,ho,g]) F
 .rename_i j;rw[j]at F;cases u;have H:dX m _ (a.eval x):=F;generalize g:a.eval x=b at H F;cases H with
  |p hp=>cases hp with
   |fn L B D Q Y R=>exact .calm aA (by simp[execOp,ho,g]) F
 cases u
end
section
variable{E:List Value}{D:Nat}
theorem dq.norm{w:World}{own:Nat->Prop}{x:PV}{v:Value}(h:dq w own x v):dq w own x.norm v:=by
 cases h<;>first
  |exact .Bu none 0 (λ_=>rfl) (cE _)
  |exact .Bu _ 0 (λ_=>rfl) (cE _)
  |(simp only[PV.norm];constructor<;>assumption)
theorem aqF{c:c6}{x:PV}{v:Value}(h:Um c=some x)(hr:dX m c v):dq m.w m.own x v:=by
 cases hr<;>simp[Um]at h
 rename_i hp;subst h;exact hp.norm
theorem MR:∀ {B:eG}{M:b_}{E:List Value},Dv B=some M->eE m B E->eI m.w m.own M E:=by
 intro B
 induction B with
 |nil=>intro M E h hr;simp[Dv]at h;subst h;exact⟨hr.1,λj x u a=>by simp at a⟩
 |cons c r f=>
  intro M E h hr;simp only[Dv]at h;split at h
  .rename_i x y g H;cases h;cases E with
   |nil=>simp[eE]at hr
   |cons v us=>
    obtain⟨hl,F⟩:=f (E:=us) H ⟨by simpa using hr.1,λj x u a b=>hr.2 (j+1) x u (by simpa using a) (by simpa using b)⟩;refine⟨by simp[hl],λj z u a b=>?_⟩;cases j with
    |zero=>simp at a b;subst a b;exact aqF g (hr.2 0 c v rfl rfl)
    |succ j=>simp at a b;exact F j z u a b
  cases h
def Pw {α:Type}(R:α->Value->Prop)(M:List α)(E:List Value):Prop:=I E=I M/\ ∀(j:Nat) (x:α) (u:Value),M[j]?=some x->E[j]?=some u->R x u
theorem Pw.take{α:Type}{R:α->Value->Prop}{M:List α}(h:Pw R M E)(n:Nat):Pw R (M.take n) (E.take n):=by
 refine⟨by simp[h.1],λj x u a b=>?_⟩;rw[nN]at a b;split at a
 .rename_i H;rw[aH H]at b;exact h.2 j x u a b
 cases a
theorem Pw.drop{α:Type}{R:α->Value->Prop}{M:List α}(h:Pw R M E)(n:Nat):Pw R (M.drop n) (E.drop n):=
 ⟨by simp[h.1],λj x u a b=>h.2 (n+j) x u (by simpa using a) (by simpa using b)⟩
theorem Pw.append{α:Type}{R:α->Value->Prop}{M y:List α}(h:Pw R M E)(k:Pw R y us):Pw R (M++y) (E++us):=by
 refine⟨by simp[h.1,k.1],λj x u a b=>?_⟩;by_cases H:j<I M
 .rw[xv H]at a;rw[xv (by rw[h.1];exact H)]at b;exact h.2 j x u a b
 rw[vI J]at a;rw[vI (by rw[h.1];omega),h.1]at b;exact k.2 _ x u a b
theorem Pw.fX{α:Type}{R:α->Value->Prop}{M y:List α}(h:Pw R M E)(k:Pw R y us)(D:Nat):Pw R (fX M D y) (fX E D us):=by unfold Abs.fX;rw[k.1];exact((h.take D).append k).append (h.drop _)
theorem VH{α:Type}{B M:List α}(h:D+I M<=I B):I (fX B D M)=I B:=by simp[fX];omega
theorem ahG{α:Type}{B M:List α}{n:Nat}(h:D+I M<=n)(H:n<=I B):(fX B D M).take n=fX (B.take n) D M:=by unfold fX;rw[Lo,Lo,EU,List.drop_take];simp only[fv,iM];rw[wS (by omega:D<=I B),EU,wS (by omega:D<=n),Nat.min_eq_right (by omega:D<=n)];have e:n-(D+I M)=n-(D+I M):=rfl;rw[e_ (by omega:I M<=n-D)]
theorem as2{α:Type}{a B M:List α}:fX (a++B) (I a+D) M=a++fX B D M:=by unfold fX;rw[Lo,acx];simp only[s5];rw[e_ (by omega:I a<=I a+D),NQ (by omega:I a<=I a+D+I M)];simp only[fN];have e1:I a+D-I a=D:=J;have e2:I a+D+I M-I a=D+I M:=J;rw[e1,e2]
theorem aq4{α:Type}{a B M:List α}(h:D+I M<=I a):fX (a++B) D M=fX a D M++B:=by unfold fX;rw[J8 J,Xb J];simp
theorem auf{α:Type}{ps:List α}:∀ {j:List (List α)},(∀e∈j,I e=g)->∀ {i:Nat}{e:List α},j[i]?=some e->D+I ps<=g->
  (j.set i (fX e D ps)).flatten=fX j.flatten (i*g+D) ps:=by
 intro j
 induction j with
 |nil=>intro _ i e h;simp at h
 |cons x r u=>
  intro h i e H hl;have z:=h x aQ;cases i with
  |zero=>simp at H;subst H;simp only[Vt,lI,zg,kA];rw[aq4 J]
  |succ i=>
   simp at H;simp only[List.set_cons_succ,lI];rw[u (λy f=>h y (by simp[f])) H hl];have m:(i+1)*g+D=I x+(i*g+D):=by rw[z,jW];omega
   rw[m,as2]
theorem Tx{w:World}{g:Nat}{new:Array Value}(h:w.heap[g]?=some (.cells F H Y)):(w.setRow g new).heap[g]?=some (.cells new H Y):=setRow_heap w g F new H Y h
theorem eE.pw:eE m B E↔Pw (dX m) B E:=Iff.rfl
theorem eI.pw{w:World}{own:Nat->Prop}{B:b_}:eI w own B E↔Pw (dq w own) B E:=Iff.rfl
theorem eE.one(h:eE m B E):∀v∈E,v.oneCell':=by
 intro v f;obtain⟨j,H⟩:=jL f;have A:j<I B:=by rw[<-h.1];exact(cD.1 H).1
 exact(h.2 j _ v (sT A) H).QR
theorem W1{x:V}{v:Value}(h:vl x=some B)(hr:dm m x v):eE m B v.cells.toList:=by
 cases x with
 |undef=>simp[vl]at h
 |tup E=>simp[vl]at h
 |one c=>
  simp[vl]at h;subst h;rw[(dm.one.1 hr).cells];refine⟨rfl,λj y u p q=>?_⟩;cases j with
  |zero=>simp at p q;subst p q;exact hr
  |succ j=>simp at p
 |agg D=>simp[vl]at h;subst h;obtain⟨arr,e,h⟩:=dm.agg.1 hr;rw[e];exact h
section
variable {m:bR} {A:bn} {a:Act} {o:Oper} (aA:eo O m) (hr:kK m A a.tmps)
include aA hr
theorem aGt{t:TypeId}{v:Operand}{v':fu}{n:Nat}{r:V}{rd:aG}(ho:o.op=.store t x v)(hn:xS P t=some n)(hx:dy x=some X)(hv:dy v=some v')
  (hc:vl (ev A v')=some B) (y:Cc m.aj (ev A X) n B=.done r u rd):iF P O a.eval o m r u:=by
 have Y:=W1 hc (gb hv hr);have N:=gb hx hr;unfold xS at hn;simp only[eU]at hn;obtain⟨i,hi,lf⟩:=hn;have de:(a.eval v).cells.toList.length=I B:=Y.1;simp only[VD]at de;unfold Cc at y;split at y
 .cases y
 rename_i z;have z:I B=n:=by simpa using z
 have T4:=Y.one;split at y
 .rename_i id ap D he;rw[he]at N;have N:dX m _ (a.eval x):=N;generalize hb:a.eval x=b at N;cases N with
  |bh ad hg R=>
   split at y
   .rename_i g' Z M;split at y
    .rename_i Ci;obtain⟨j9,ab⟩:=Ci;cases y;have E:(m.aj id).2=some (.var Z):=by rw[M]
     have R:=R (by rw[M];exact j9) (by rw[E];rfl);subst R;obtain⟨F,H,hh,dT⟩:=aA.obj id _ E;have cN:=dT.1;simp at cN;have Hl:D+0+(a.eval v).cells.toList.length<=F.size:=by simp;omega
     have Q:=run_storeCells_at P (m.σ id) D H (a.eval v).cells.toList 0 F m.w hh Hl T4;simp only[vX]at Q;generalize f:m.w.setRow (m.σ id) (F.toList.take D++(a.eval v).cells.toList++F.toList.drop (D+(a.eval v).cells.toList.length)).toArray=bP at Q;have Hc:bP.heap.size=m.w.heap.size:=by rw[<-f];simp
     have Hb:∀c,c≠m.σ id->bP.heap[c]?=m.w.heap[c]? :=λc hc=>by rw[<-f];exact setRow_other m.w (m.σ id) c _ hc
     have T:=NL (L:=bP) (o:=.var (fX Z D B)) E rfl (by simp[mZ]) (by rw[<-f];rfl) (by rw[<-f];rfl) (by rw[<-f];rfl) Hc Hb;have FV:uL (m.mh bP id (.var (fX Z D B))) id (.var (fX Z D B)):=by
      refine⟨_,H,by rw[<-f];exact Tx hh,?_⟩;have:=eE.pw.2 ((eE.pw.1 (dT.ev T.zero)).fX (eE.pw.1 (Y.ev T.zero)) D)
      simpa [fX]using this
     refine⟨undef,m.mh bP id (.var (fX Z D B)),.inr ⟨?_,rfl⟩,VR E rfl aA (by simp[mZ]) (by rw[<-f];rfl) (by rw[<-f];rfl) (by rw[<-f];rfl) Hc Hb FV,T,rfl,?_,rfl⟩
     .simp only[execOp,ho,hb,Instr.storeAt,Instr.sureAddr,storeVar,sizeOf,typeInfo];simp[hi,de,z,lf,Q,bR.mh]
     simp[bR.mh,app,M,j9]
    cases y
   cases y
 .rename_i id ap i' D he;rw[he]at N;have N:dX m _ (a.eval x):=N;generalize hb:a.eval x=b at N;cases N with
  |dY ad hg R=>
   split at y
   .rename_i g' H g j M;split at y
    .rename_i e ps A2 T6;split at y
     .rename_i Ci;obtain⟨j9,ab⟩:=Ci;cases y;have E:(m.aj id).2=some (.arr H g j):=by rw[M]
      have R:=R g (by rw[M];exact j9) (by rw[M];rfl);subst R;obtain⟨F,hh,sG,wO,hl,hm,ao,dT⟩:=aA.obj id _ E;have dY:=Oo wO A2;have ac:i'<I j:=(cD.1 A2).1;have mR:(i'+1)*g<=I j*g:=oH _ ac;have an:I j*g<=m.κ id*g:=oH _ hl;rw[jW,Gg]at mR;have ag:I ps=I B:=by rw[<-Y.1];exact(MR T6 Y).1.symm
      have Hl:i'*g+D+0+(a.eval v).cells.toList.length<=F.size:=by simp;omega
      have Q:=run_storeCells_at P (m.σ id) (i'*g+D) H (a.eval v).cells.toList 0 F m.w hh Hl T4;simp only[vX]at Q;generalize f:m.w.setRow (m.σ id) (F.toList.take (i'*g+D)++(a.eval v).cells.toList++F.toList.drop (i'*g+D+(a.eval v).cells.toList.length)).toArray=bP at Q;have Hc:bP.heap.size=m.w.heap.size:=by rw[<-f];simp
      have Hb:∀c,c≠m.σ id->bP.heap[c]?=m.w.heap[c]? :=λc hc=>by rw[<-f];exact setRow_other m.w (m.σ id) c _ hc
      have T:=NL (L:=bP) (o:=.arr H g (j.set i' (fX e D ps))) E rfl (by simp[mZ]) (by rw[<-f];rfl) (by rw[<-f];rfl) (by rw[<-f];rfl) Hc Hb;have FV:uL (m.mh bP id (.arr H g (j.set i' (fX e D ps)))) id (.arr H g (j.set i' (fX e D ps))):=by
       refine⟨_,by rw[<-f];exact Tx hh,sG,?_,by rw[kI];exact hl,hm,?_,?_⟩
       .intro e' I1;rcases OD I1 with h|h
        .exact wO e' h
        rw[h,VH J];exact dY
       .simp[bR.mh];omega
       rw[kI,auf wO A2 J];have h1:=(eI.pw.1 (dT.ev T.zero)).fX (eI.pw.1 ((MR T6 Y).ev T.zero)) (i'*g+D);rw[<-ahG (by simp;omega) (by simp;omega)]at h1;have h1:=eI.pw.2 h1
       simpa [fX]using h1
      refine⟨undef,m.mh bP id (.arr H g (j.set i' (fX e D ps))),.inr ⟨?_,rfl⟩,VR E rfl aA (by simp[mZ]) (by rw[<-f];rfl) (by rw[<-f];rfl) (by rw[<-f];rfl) Hc Hb FV,T,rfl,?_,rfl⟩
      .simp only[execOp,ho,hb,Instr.storeAt,Instr.sureAddr,storeVar,sizeOf,typeInfo];simp[hi,de,z,lf,Q,bR.mh]
      simp[bR.mh,app,M,j9]
     cases y
    cases y
   cases y
 cases y
end
end
theorem AH{x:V}{v:Value}{n:Nat}(h:tM x=some n)(hr:dm m x v):∃k,v=.int k (n:Int):=by
 unfold tM at h;split at h
 .rename_i k z;split at h
  .rename_i H;cases h;exact⟨k,by rw[Dh hr,aeg H]⟩
  cases h
 cases h
theorem Ri{t:TypeId}{n:Nat}(h:xS P t=some n)(w:World):(sizeOf t).run P w=.ok n w:=by unfold xS at h;simp only[eU]at h;obtain⟨i,H,rfl⟩:=h;simp[sizeOf,typeInfo,H]
section
variable {m:bR} {A:bn} {a:Act} {o:Oper} (aA:eo O m) (hr:kK m A a.tmps)
include aA hr
theorem aF1{s:TypeId}{fs:Array Field}{d:Field}{v:V}(ho:o.op=.fieldAddr s x f)(hs:P.underlying s=some (.struct fs))(Z:fs[f]?=some d)
  (R:P.cellsOf d.type≠0) (hx:dy x=some y) (u:cZ (λ_=>false) A m.aj (.Ca d.offset y)=.done v [] []):iF P O a.eval o m v []:=by
 have F:=gb hx hr;have de:∃n,(sizeOf d.type).run P m.w=.ok n m.w/\n≠0:=by
  unfold Program.cellsOf at R;cases T:P.info? d.type with
  |none=>simp[T]at R
  |some i=>exact⟨i.size,by simp[sizeOf,typeInfo,T],by simpa [T]using R⟩
 obtain⟨n,hn,gh⟩:=de;have run:∀L,a.eval x=.pointer (some L)->(execOp a.eval o).run P m.w=.ok (.value (.pointer (some (L.add d.offset)))) m.w:=by intro L sv;simp[execOp,ho,sv,Instr.fieldAt,run_underlying hs,Z,Instr.sureAddr,fieldPlace,hn,gh]
 simp only[cZ]at u;split at u
 .rename_i id ab D M;rw[M]at F;cases u;have H:dX m _ (a.eval x):=F;generalize E:a.eval x=b at H;cases H with
  |bh L hg h=>exact .calm aA (run _ E) (dm.one.2 (.bh _ hg λQ N=>by rw[h Q N,Addr.add_lit]))
 .rename_i id ab i D M;rw[M]at F;cases u;have H:dX m _ (a.eval x):=F;generalize E:a.eval x=b at H;cases H with
  |dY L hg h=>exact .calm aA (run _ E) (dm.one.2 (.dY _ hg λg Q N=>by rw[h g Q N,Addr.add_lit,F7]))
 .rename_i B M;rw[M]at F;cases u;have H:dX m _ (a.eval x):=F;generalize E:a.eval x=b at H;cases H with
  |p hp=>cases hp with
   |box X o' f' nj Y tn=>refine .calm aA (run _ E) (pD ?_);rw[Addr.add_lit];refine .box X (o'+d.offset) (λj=>f' (d.offset+j)) (λh=>nj λe=>h (by simp[e])) (λj z h=>?_) λj z h=>tn _ z (by simpa using h);rw[F7];exact Y _ z (by simpa using h)
 cases u
theorem aEU{t e:TypeId}{i:Operand}{v:V}(ho:o.op=.indexAddr t x i)(ht:P.underlying t=some (.slice e))(hs:xS P e=some g)
  (hx:dy x=some X) (hi:dy i=some i') (u:cZ (λ_=>false) A m.aj (.Ql g X i')=.done v [] []):iF P O a.eval o m v []:=by
 have F:=gb hx hr;have L7:=gb hi hr;have run:∀L len N k (n:Nat),a.eval x=.slice (some L) len N->a.eval i=.int k (n:Int)->n<len->(execOp a.eval o).run P m.w=.ok (.value (.pointer (some (L.add (n*g))))) m.w:=by intro L len N k n Y Q h3;simp[execOp,ho,Y,Q,Instr.indexAt,asIntOf,run_underlying ht,Ri hs,h3]
 simp only[cZ]at u;split at u
 .rename_i n j hn he;obtain⟨k,T⟩:=AH hn L7;rw[he]at F;split at u
  .rename_i el dY;split at u
   .rename_i H;cases u;have y:dX m _ (a.eval x):=F;generalize R:a.eval x=b at y;cases y with
    |p hp=>
     generalize iW:(PV.sl j)=pv at hp;cases hp<;>first
      |cases iW
      |skip
     .simp at dY
     rename_i b' o' N E f nT nj yG M wD FY;have B:n<I j:=(cD.1 dY).1;have Z:E=g:=by rw[<-Oo M dY];exact H
     subst Z;refine .calm aA (run _ _ _ k n R T B) (pD ?_);rw[Addr.add_lit];refine .box b' (o'+n*E) (λab=>f (n*E+ab)) (λh=>nj ?_) (λab z h=>?_) λab z h=>?_
     .intro e0;cases el with
      |nil=>exact h rfl
      |cons c r=>have:=HR M dY (m:=0) (by rw[<-H];simp);rw[e0]at this;simp at this
     .have hj:ab<E:=by rw[<-H];exact(cD.1 h).1
      rw[F7];exact wD _ z (by rw[HR M dY hj];exact h)
     have hj:ab<E:=by rw[<-H];exact(cD.1 h).1
     exact FY _ z (by rw[HR M dY hj];exact h)
   cases u
  cases u
 .rename_i n id ac z D len hn he;obtain⟨k,T⟩:=AH hn L7;rw[he]at F;split at u
  .rename_i B;cases u;have y:dX m _ (a.eval x):=F;generalize R:a.eval x=b at y;cases y with
   |hsl L N hg hl hm h=>refine .calm aA (run _ _ _ k n R T B.1) (dm.one.2 (.dY _ hg λs Y Q=>?_));obtain⟨e1,e2,_⟩:=h s Y Q;rw[e2 (.inr J),Addr.add_lit,e1,B.2];simp[jW]
  cases u
 cases u
theorem axF{t e:TypeId}{i:Operand}{v:V}(ho:o.op=.indexAddr t x i)(Y:P.underlying t=some (.array ln e))(hs:xS P e=some g)
  (hx:dy x=some X) (hi:dy i=some i') (H:cZ (λ_=>false) A m.aj (.N5 ln g X i')=.done v [] []):iF P O a.eval o m v []:=by
 have F:=gb hx hr;have T:=gb hi hr;have run:∀N k (n:Nat),a.eval x=.pointer (some N)->a.eval i=.int k (n:Int)->n<ln->(execOp a.eval o).run P m.w=.ok (.value (.pointer (some (N.add (n*g))))) m.w:=by intro N k n M u h3;simp[execOp,ho,M,u,Instr.indexAt,asIntOf,run_underlying Y,Ri hs,h3,Instr.sureAddr]
 simp only[cZ]at H;split at H
 .rename_i n id ab D Q R;obtain⟨k,L⟩:=AH Q T;rw[R]at F;split at H
  .rename_i E;cases H;have f:dX m _ (a.eval x):=F;generalize y:a.eval x=b at f;cases f with
   |bh N hg h=>exact .calm aA (run _ k n y L E) (dm.one.2 (.bh _ hg λM u=>by rw[h M u,Addr.add_lit]))
  cases H
 .rename_i n id ab j D Q R;obtain⟨k,L⟩:=AH Q T;rw[R]at F;split at H
  .rename_i E;cases H;have f:dX m _ (a.eval x):=F;generalize y:a.eval x=b at f;cases f with
   |dY N hg h=>exact .calm aA (run _ k n y L E) (dm.one.2 (.dY _ hg λs M u=>by rw[h s M u,Addr.add_lit,F7]))
  cases H
 .rename_i n B Q R;obtain⟨k,L⟩:=AH Q T;rw[R]at F;split at H
  .rename_i E;cases H;have f:dX m _ (a.eval x):=F;generalize y:a.eval x=b at f;cases f with
   |p hp=>cases hp with
    |box Z o' f' nj kZ tn=>refine .calm aA (run _ k n y L E) (pD ?_);rw[Addr.add_lit];refine .box Z (o'+n*g) (λj=>f' (n*g+j)) (λh=>nj λe=>h (by simp[e])) (λj z h=>?_) λj z h=>tn _ z (by simpa using h);rw[F7];exact kZ _ z (by simpa using h)
  cases H
 cases H
theorem ap6{t:TypeId}{k:eh}(F:sf P t=some k){arr:Array Value}(g:eE m B arr.toList){x:V}(h:te k (B.drop D)=some x):
  ∃y,(part t arr D).run P m.w=.ok y m.w/\dm m x y:=by
 have Q:=aA;have M:=hr;have hl:=g.1;simp at hl;cases k with
 |none=>
  obtain⟨f,z⟩:=aoX F m.w;cases H:B.drop D with
  |nil=>simp[H,te]at h
  |cons c r=>
   simp[H,te]at h;subst h;have E:B[D]?=some c:=by
    have:=congrArg (·[0]?) H
    simpa using this
   have A:D<arr.size:=by rw[hl];exact(cD.1 E).1
   refine⟨arr[D],by simp[part,f,A],dm.one.2 (g.2 D c _ E (by simp[A]))⟩
 |some n=>
  obtain⟨f,z⟩:=amD F m.w;simp only[te]at h;split at h
  .rename_i L;cases h;simp at L;refine⟨.agg (arr.extract D (D+n)),by simp[part,f,z],dm.agg.2 ⟨_,rfl,by simp;omega,λj x u p q=>?_⟩⟩;rw[nN]at p;split at p
   .rename_i O;simp at p;refine g.2 (D+j) x u p ?_;have A:D+j<I B:=(cD.1 p).1;have N:(arr.extract D (D+n)).toList=(arr.toList.drop D).take n:=aQ;rw[N,nN,aH O,yt]at q;exact q
   cases p
  cases h
theorem aBx{t:TypeId}{fs:Array Field}{d:Field}{k:eh}{v:V}(ho:o.op=.field t x f)(hs:P.underlying t=some (.struct fs))(h:fs[f]?=some d)
  (u:sf P d.type=some k) (j:dy x=some y) (H:ev A y=.agg B) (D:te k (B.drop d.offset)=some v):iF P O a.eval o m v []:=by
 have F:=gb j hr;rw[H]at F;obtain⟨arr,e,L⟩:=dm.agg.1 F;obtain⟨z,E,g⟩:=ap6 (aA:=aA) (hr:=hr) u L D;exact .calm aA (by simp[execOp,ho,e,Instr.field,run_underlying hs,h,asAgg,E]) g
theorem aDI{t e:TypeId}{i:Operand}{k:eh}{n:Nat}{v:V}(ho:o.op=.index t x i)(j:P.underlying t=some (.array ln e))(hs:xS P e=some g)
  (F:sf P e=some k) (y:dy x=some X) (u:dy i=some i') (D:tM (ev A i')=some n) (E:n<ln) (h:ev A X=.agg B) (L:te k (B.drop (n*g))=some v):iF P O a.eval o m v []:=by
 have f:=gb y hr;obtain⟨T,R⟩:=AH D (gb u hr);rw[h]at f;obtain⟨arr,N,Q⟩:=dm.agg.1 f;obtain⟨z,M,H⟩:=ap6 (aA:=aA) (hr:=hr) F Q L;exact .calm aA (by simp[execOp,ho,N,R,Instr.index,asIntOf,run_underlying j,Ri hs,E,M]) H
theorem aw8{t:TypeId}{i:Operand}{n:Nat}{s:ByteArray}{b:UInt8}(ho:o.op=.index t x i)(H:P.underlying t=some .string)
  (y:dy x=some X) (u:dy i=some i') (z:tM (ev A i')=some n) (h:ev A X=.one (.p (.str s))) (j:s[n]?=some b):iF P O a.eval o m (.one (.p (.int .u8 b.toNat))) []:=by
 have f:=gb y hr;obtain⟨B,g⟩:=AH z (gb u hr);rw[h]at f;exact .calm aA (by simp[execOp,ho,NS f,g,Instr.index,asIntOf,run_underlying H,j]) (pD (.int _ _))
end
theorem ayk{op:BinOp}{t:TypeId}{k f:IntKind}{x y:Int}{v:PV}(w:World)(g:k=f\/op=.shl\/op=.shr)(h:Mq op k x y=some v):
  ∃u,(binOp op t (.int k x) (.int f y)).run P w=.ok u w/\ ∀own,dq w own v u:=by
 by_cases hs:op=.shl\/op=.shr
 .rcases hs with rfl|rfl
  .simp only[Mq]at h;split at h
   .cases h
   rename_i H;cases h;exact⟨_,by simp[binOp,Op.shift,H],λown=>.int _ _⟩
  simp only[Mq]at h;split at h
  .cases h
  rename_i H;cases h;exact⟨_,by simp[binOp,Op.shift,H],λown=>.int _ _⟩
 have j:k=f:=by
  rcases g with h|h
  .exact h
  exact(hs h).elim
 subst j;cases op<;>simp only[Mq]at h<;>first
  |cases h
  |skip
 all_goals first
  |exact(hs (.inl rfl)).elim
  |exact(hs (.inr rfl)).elim
  |(exact⟨_,by simp[binOp,Op.intArith,Op.intCmp,Op.intBits],λown=>.int _ _⟩)
  |(exact⟨_,by simp[binOp,Op.intArith,Op.intCmp],λown=>.bool _⟩)
  |(split at h
    .cases h
    rename_i H;cases h;exact⟨_,by simp[binOp,Op.intDiv,H],λown=>.int _ _⟩)
theorem aDR{op:BinOp}{t:TypeId}{x y:ByteArray}{v:PV}(w:World)(h:C_ op x y=some v):
  ∃u,(binOp op t (.string x) (.string y)).run P w=.ok u w/\ ∀own,dq w own v u:=by
 cases op<;>simp only[C_]at h<;>first
  |cases h
  |skip
 all_goals first
  |exact⟨_,by simp[binOp,Op.stringOp],λown=>.bool _⟩
  |(split at h
    .rename_i hl;cases h;refine⟨.string (x++y),?_,λown=>.str _⟩;have:¬((x.size:Int)+(y.size:Int)>9223372036854775807):=J;simp[binOp,Op.stringOp,this]
    cases h)
section
variable {m:bR} {A:bn} {a:Act} {o:Oper} (aA:eo O m) (hr:kK m A a.tmps)
include aA hr
theorem arS{op:BinOp}{t:TypeId}{y:Operand}{v:V}(ho:o.op=.binOp op t x y H)(E:dy x=some X)(D:dy y=some y')
  (h:T_ op (ev A X) (ev A y')=some v):iF P O a.eval o m v []:=by
 have g:=gb E hr;have f:=gb D hr;unfold T_ at h;split at h
 .rename_i k p L q e1 e2;rw[e1]at g;rw[e2]at f;split at h
  .rename_i F;simp only[eU]at h;obtain⟨u,j,rfl⟩:=h;obtain⟨z,B,M⟩:=ayk (P:=P) (t:=t) m.w F j;refine .calm aA ?_ (pD (M _));have hg:(eqGuard op t x y (.int k p) (.int L q)).run P m.w=.ok () m.w:=by cases op<;>simp[eqGuard]
   simp[execOp,ho,Dh g,Dh f,hg,B]
  cases h
 .rename_i p q e1 e2;rw[e1]at g;rw[e2]at f;simp only[eU]at h;obtain⟨u,j,rfl⟩:=h;obtain⟨z,B,M⟩:=aDR (P:=P) (t:=t) m.w j;refine .calm aA ?_ (pD (M _));have hg:(eqGuard op t x y (.string p) (.string q)).run P m.w=.ok () m.w:=by cases op<;>simp[eqGuard]
  simp[execOp,ho,NS g,NS f,hg,B]
 cases h
theorem asR{t:TypeId}{b:Bool}(ho:o.op=.unOp .not t x)(f:dy x=some X)(H:ev A X=.one (.p (.bool b))):iF P O a.eval o m (.one (.p (.bool (!b)))) []:=by have h:=gb f hr;rw[H]at h;exact .calm aA (by simp[execOp,ho,Fl h,Op.unary]) (pD (.bool _))
theorem aAi{t:TypeId}{k:IntKind}{n:Int}(ho:o.op=.unOp .neg t x)(f:dy x=some X)(H:ev A X=.one (.p (.int k n))):iF P O a.eval o m (.one (.p (.int k (k.wrap (0-n))))) []:=by have h:=gb f hr;rw[H]at h;exact .calm aA (by simp[execOp,ho,Dh h,Op.unary,Op.intArith]) (pD (.int _ _))
theorem atc{s d:TypeId}{g k f:IntKind}{n:Int}(ho:o.op=.convert s d x)(hs:P.underlying s=some (.int g))(H:P.underlying d=some (.int k))(u:dy x=some X)
  (j:ev A X=.one (.p (.int f n))):iF P O a.eval o m (.one (.p (.int k (k.wrap n)))) []:=by
 have h:=gb u hr;rw[j]at h;exact .calm aA (by simp[execOp,ho,Dh h,convert,run_underlying hs,run_underlying H,Conv.intToInt]) (pD (.int _ _))
theorem akr:∀ {M:List Operand}{Y:sM}{B:eG},rU M=some Y->zj A Y=some B->eE m B (M.map a.eval):=by
 have D:=aA;intro M
 induction M with
 |nil=>intro Y B H h;simp[rU]at H;subst H;simp[zj]at h;subst h;exact⟨rfl,λj x u p=>by simp at p⟩
 |cons x r g=>
  intro Y B H h;simp only[rU]at H;split at H
  .rename_i y f e1 e2;cases H;simp only[zj]at h;split at h
   .rename_i c q E e4;cases h;obtain⟨hl,F⟩:=g e2 e4;refine⟨by simpa using hl,λj z u p q=>?_⟩;cases j with
    |zero=>simp at p q;subst p q;have:=gb e1 hr;rw[E]at this;exact this
    |succ j=>simp at p q;exact F j z u p (by simpa using q)
   cases h
  cases H
theorem azl{f:FuncId}{x y:Array Operand}{X y':sM}{D:eG}(ho:o.op=.makeFunc (.func f) x y)(F:rU x.toList=some X)(E:rU y.toList=some y')
  (L:zj A X=some B) (g:zj A y'=some D):iF P O a.eval o m (.one (.hfn f B D)) []:=by
 have H:=akr (aA:=aA) (hr:=hr) F L;have h:=akr (aA:=aA) (hr:=hr) E g;refine .calm (x:=.func (.func f) (x.map a.eval) (y.map a.eval)) aA (by simp[execOp,ho,Instr.makeFunc]) (dm.one.2 (.hfn _ _ ?_ ?_ ?_ ?_))
 .have:=H.1;simpa using this
 .have:=h.1;simpa using this
 .intro j z u p q;exact H.2 j z u p (by rw[<-Array.toList_map,GH];exact q)
 intro j z u p q;exact h.2 j z u p (by rw[<-Array.toList_map,GH];exact q)
theorem asG{i:Nat}{E:dN}{v:V}(ho:o.op=.extract x i)(u:dy x=some X)(g:ev A X=.tup E)(h:E[i]?=some v):iF P O a.eval o m v []:=by
 have H:=gb u hr;rw[g]at H;obtain⟨arr,e,hl,j⟩:=H;have f:i<arr.size:=by rw[hl];exact(cD.1 h).1
 exact .calm (x:=arr[i]) aA (by simp[execOp,ho,e,Instr.extract,f]) (.of1 (j i v _ h (by simp[f])))
theorem ae2{x:V}{v:Value}{n:Nat}(h:BP x=some n)(H:dm m x v):∃A N,v=.slice A n N/\n<=N/\N<=maxLen:=by
 have u:=aA;have f:=hr;unfold BP at h;split at h
 .cases h;exact⟨none,0,VK H,cT _,cE _⟩
 .cases h;obtain⟨hp⟩:dX m _ v:=H;rename_i j;generalize g:(PV.sl j)=z at hp;cases hp<;>cases g
  .exact⟨_,_,rfl,cE _,by assumption⟩
  exact⟨_,_,rfl,by assumption,by assumption⟩
 .cases h;have y:dX m _ v:=H;cases y with
  |hsl A N hg hl hm h=>exact⟨_,_,rfl,hl,hm⟩
 cases h
theorem axn{c:Call}{t e:TypeId}{n:Nat}(ho:o.op=.call c)(g:c.callee=.builtin .len)(h:c.args= #[x])(j:c.argTypes[0]?=some t)(f:P.underlying t=some (.slice e))
  (u:dy x=some X) (y:BP (ev A X)=some n):iF P O a.eval o m (.one (.p (.int .i64 n))) []:=by
 obtain⟨z,N,H,_,_⟩:=ae2 (aA:=aA) (hr:=hr) y (gb u hr);refine .calm aA ?_ (pD (.int _ _));simp[execOp,ho,resolve,g,h,invoke,builtin,Builtin.len_,j,H,run_underlying f,goInt]
theorem aEI{c:Call}{t:TypeId}{s:ByteArray}(ho:o.op=.call c)(g:c.callee=.builtin .len)(h:c.args= #[x])(j:c.argTypes[0]?=some t)(f:P.underlying t=some .string)
  (u:dy x=some X) (y:ev A X=.one (.p (.str s))):iF P O a.eval o m (.one (.p (.int .i64 s.size))) []:=by
 have H:=gb u hr;rw[y]at H;refine .calm aA ?_ (pD (.int _ _));simp[execOp,ho,resolve,g,h,invoke,builtin,Builtin.len_,j,NS H,run_underlying f,goInt]
theorem avm{c:Call}{y:Operand}{k z:IntKind}{p q:Int}(ho:o.op=.call c)(u:c.callee=.builtin .max)(h:c.args= #[x,y])
  (B:dy x=some X) (H:dy y=some y') (j:ev A X=.one (.p (.int k p))) (f:ev A y'=.one (.p (.int z q))):iF P O a.eval o m (.one (.p (.int k (if q>p then q else p)))) []:=by
 have g1:=gb B hr;have g:=gb H hr;rw[j]at g1;rw[f]at g;refine .calm aA ?_ (pD (.int _ _));simp[execOp,ho,resolve,u,h,invoke,builtin,Builtin.max_,Builtin.max2,Dh g1,Dh g]
theorem azZ{c:Call}{y:Operand}{k z:IntKind}{p q:Int}(ho:o.op=.call c)(u:c.callee=.builtin .min)(h:c.args= #[x,y])
  (B:dy x=some X) (H:dy y=some y') (j:ev A X=.one (.p (.int k p))) (f:ev A y'=.one (.p (.int z q))):iF P O a.eval o m (.one (.p (.int k (if q<p then q else p)))) []:=by
 have g1:=gb B hr;have g:=gb H hr;rw[j]at g1;rw[f]at g;refine .calm aA ?_ (pD (.int _ _));simp[execOp,ho,resolve,u,h,invoke,builtin,Builtin.min_,Builtin.min2,Dh g1,Dh g]
end
section
variable{g:Nat}
theorem aEs:∀(u:lA) (aj:aB) (id:Nat),(app u aj id=aj id/\ ∀e∈u,e.1≠id)\/ ∃e∈u,e.1=id/\app u aj id=e.2:=by
 intro u
 induction u with
 |nil=>intro aj id;exact .inl ⟨rfl,λe h=>by simp at h⟩
 |cons x r m=>
  intro aj id;obtain⟨i,o⟩:=x;simp only[app];rcases m (dE aj i o) id with⟨g,j⟩|⟨e,H,g,j⟩
  .by_cases f:id=i
   .exact .inr ⟨(i,o),aQ,f.symm,by rw[g];simp[aT,f]⟩
   refine .inl ⟨by rw[g];simp[aT,f],λe H=>?_⟩;rcases dk.1 H with rfl|H
   .exact λh=>f h.symm
   exact j e H
  exact .inr ⟨e,by simp[H],g,j⟩
theorem J9{α β γ:Type}{f:α->Option (β×aG)}{R:α->γ->Prop}{T:β->γ->Prop}{fK:aG->Prop}(m:∀a b,fK (a++b)->fK a/\fK b)
  (H:∀a b r v,f a=some (b,r)->R a v->fK r->T b v):∀ {M:List α}{y:List β}{r:aG}{E:List γ},ic f M=some (y,r)->fK r->
  (I E=I M/\ ∀(j:Nat) (x:α) (u:γ),M[j]?=some x->E[j]?=some u->R x u)->(I E=I y/\ ∀(j:Nat) (x:β) (u:γ),y[j]?=some x->E[j]?=some u->T x u):=by
 intro M
 induction M with
 |nil=>intro y r E h _ hr;simp[ic]at h;obtain⟨rfl,rfl⟩:=h;exact⟨hr.1,λj x u a=>by simp at a⟩
 |cons x t B=>
  intro y r E h hg hr;simp only[ic]at h;split at h
  .rename_i b p bs q e1 e2;cases h;obtain⟨g1,g⟩:=m _ _ hg;cases E with
   |nil=>simp at hr
   |cons v us=>
    obtain⟨hl,A⟩:=B (E:=us) e2 g ⟨by simpa using hr.1,λj x u a b=>hr.2 (j+1) x u (by simpa using a) (by simpa using b)⟩;refine⟨by simp[hl],λj z u a b=>?_⟩;cases j with
    |zero=>simp at a b;subst a b;exact H _ _ _ _ e1 (hr.2 0 x v rfl rfl) g1
    |succ j=>simp at a b;exact A j z u a b
  cases h
def rl(m:bR)(own:Nat->Prop)(r:aG):Prop:=(∀b,own b->m.own b)/\ ∀id∈r,¬own (m.σ id)
theorem rl.app{own:Nat->Prop}{a b:aG}(h:rl m own (a++b)):rl m own a/\rl m own b:=
 ⟨⟨h.1,λid H=>h.2 id (by simp[H])⟩,⟨h.1,λid H=>h.2 id (by simp[H])⟩⟩
theorem dq.less{w:World}{own:Nat->Prop}(h:∀b,CY b->own b){x:PV}{v:Value}(hr:dq w own x v):dq w CY x v:=hr.mono λc _ H=>⟨rfl,λho=>H (h c ho)⟩
theorem eI.less{w:World}{own:Nat->Prop}(h:∀b,CY b->own b){x:b_}{v:List Value}(hr:eI w own x v):eI w CY x v:=⟨hr.1,λj x u a b=>(hr.2 j x u a b).less h⟩
theorem alW{α:Type}{M:List α}{R:α->Value->Prop}(h:Pw R M E):∃f:Nat->Value,∀(j:Nat) (x:α),M[j]?=some x->E[j]?=some (f j)/\R x (f j):=by
 refine⟨λj=>E.getD j undef,λj x H=>?_⟩;have A:j<I E:=by rw[h.1];exact(cD.1 H).1
 have:E[j]?=some (E.getD j undef):=by simp[List.getD,sT A]
 exact⟨this,h.2 j x _ H this⟩
theorem aaT{w:World}{own:Nat->Prop}{b o:Nat}{ps:b_}(u:w.heap[b]?=some (.cells F H Y))(hp:Pw (dq w own) ps (F.toList.drop o |>.take (I ps)))
  (ho:ps≠[]-> ¬own b):dq w own (.box ps) (.pointer (some ⟨b,o,none⟩)):=by
 obtain⟨f,m⟩:=alW hp;refine .box b o f ho (λj x g=>?_) λj x g=>(m j x g).2;have h:=(m j x g).1;rw[nN]at h;split at h
 .rw[Ni u];simpa using h
 cases h
theorem apf{w:World}{own:Nat->Prop}{b o g:Nat}(y:w.heap[b]?=some (.cells F H Y))(D:∀e∈j,I e=g)
  (hl:I j<=N) (hm:N<=maxLen) (hp:Pw (dq w own) j.flatten ((F.toList.drop o).take (I j*g))) (ho:¬own b):dq w own (.sl j) (.slice (some ⟨b,o,none⟩) (I j) N):=by
 obtain⟨f,u⟩:=alW hp;refine .sl b o N g f (λ_=>ho) hl hm D (λz x m=>?_) λz x m=>(u z x m).2;have h:=(u z x m).1;rw[nN]at h;split at h
 .rw[Ni y];simpa using h
 cases h
theorem R9{α:Type}:∀ {j:List (List α)},(∀e∈j,I e=g)->∀(n:Nat),(j.drop n).flatten=j.flatten.drop (n*g):=by
 intro j
 induction j with
 |nil=>intro _ n;simp
 |cons e r f=>
  intro h n;cases n with
  |zero=>simp
  |succ n=>simp only[List.drop_succ_cons,lI];have H:=h e aQ;rw[f (λx m=>h x (by simp[m])),acx,NQ (by rw[H,jW];omega:I e<=(n+1)*g),fN];congr 1;rw[H,jW];omega
theorem LF{α:Type}:∀ {j:List (List α)},(∀e∈j,I e=g)->∀(n:Nat),(j.take n).flatten=j.flatten.take (n*g):=by
 intro j
 induction j with
 |nil=>intro _ n;simp
 |cons e r f=>
  intro h n;cases n with
  |zero=>simp
  |succ n=>simp only[Es,lI];have H:=h e aQ;rw[f (λx m=>h x (by simp[m])),Lo,e_ (by rw[H,jW];omega:I e<=(n+1)*g)];congr 1;congr 1;rw[H,jW];omega
theorem F9{α:Type}{R:α->Value->Prop}{len:Nat}{j:List (List α)}{F:List Value}(m:∀e∈j,I e=g)(h:Pw R j.flatten (F.take (I j*g)))(H:D+len<=I j):
  Pw R ((j.drop D).take len).flatten ((F.drop (D*g)).take (I ((j.drop D).take len)*g)):=by
 have Q:∀e∈j.drop D,I e=g:=λe x=>m e (wx x);have f:I ((j.drop D).take len)=len:=by simp;omega
 rw[f,LF Q,R9 m];have u:=(h.drop (D*g)).take (len*g);have y:((F.take (I j*g)).drop (D*g)).take (len*g)=(F.drop (D*g)).take (len*g):=by
  rw[List.drop_take,EU];congr 1;have:D*g+len*g<=I j*g:=by rw[<-jW];exact oH _ H
  omega
 rw[y]at u;exact u
theorem acb{α:Type}{R:α->Value->Prop}:∀ {ps:List (List α)}{F:List Value},(∀e∈ps,I e=g)->I ps*g<=I F->
  (∀(j:Nat) (e:List α),ps[j]?=some e->Pw R e ((F.drop (j*g)).take g))->Pw R ps.flatten (F.take (I ps*g)):=by
 intro ps
 induction ps with
 |nil=>intro F _ _ _;exact⟨aQ,λj x u a=>by simp at a⟩
 |cons e r z=>
  intro F h hl hp;simp only[dw,jW,Gg]at hl;have m:=hp 0 e rfl;rw[zg,Ih]at m;have A:=z (F:=F.drop g) (λx H=>h x (by simp[H])) (by simp;omega) λj x H=>by have:=hp (j+1) x (by simpa using H);rw[jW,Gg]at this;rw[Q5,IL g];exact this
  have f:=m.append A;have y:F.take g++(F.drop g).take (I r*g)=F.take (I (e::r)*g):=by rw[dw,jW,Gg,IL,List.take_add]
  rw[y]at f;exact f
theorem acP{α:Type}{R:α->Value->Prop}{i:Nat}{j:List (List α)}{e:List α}{F:List Value}(m:∀e∈j,I e=g)(h:Pw R j.flatten (F.take (I j*g)))(H:j[i]?=some e):
  Pw R e ((F.drop (i*g)).take g):=by
 have x:i<I j:=(cD.1 H).1;have f:=F9 (D:=i) (len:=1) m h J;have u:((j.drop i).take 1)=[e]:=by rw[Kv x];have:=(cD.1 H).2;simp[this]
 rw[u]at f
 simpa using f
theorem adg{α β:Type}{f:α->Option (β×aG)}:∀ {M:List α}{y:List β}{r:aG},ic f M=some (y,r)->I y=I M:=by
 intro M
 induction M with
 |nil=>intro y r h;simp[ic]at h;rw[h.1];rfl
 |cons x t g=>
  intro y r h;simp only[ic]at h;split at h
  .rename_i b p bs q e1 e2;cases h;simp[g e2]
  cases h
theorem abI{α β:Type}{f:α->Option (β×aG)}:∀ {M:List α}{Y:List β}{r:aG},ic f M=some (Y,r)->∀ {j:Nat}{y:β},Y[j]?=some y->∃x q,M[j]?=some x/\f x=some (y,q)/\ ∀i∈q,i∈r:=by
 intro M
 induction M with
 |nil=>intro Y r h j y H;simp[ic]at h;rw[h.1]at H;simp at H
 |cons x t z=>
  intro Y r h j y H;simp only[ic]at h;split at h
  .rename_i b p bs q e1 e2;cases h;cases j with
   |zero=>simp at H;subst H;exact⟨x,p,rfl,e1,λi g=>by simp[g]⟩
   |succ j=>simp at H;obtain⟨X,Q,A,m,u⟩:=z e2 H;exact⟨X,Q,by simpa using A,m,λi g=>by simp[u i g]⟩
  cases h
theorem KW(aA:eo O m){own:Nat->Prop}:∀(n:Nat) {c:c6}{x:PV}{r:aG}{v:Value},snap m.aj n c=some (x,r)->dX m c v->rl m own r->dq m.w own x v:=by
 intro n
 induction n with
 |zero=>intro c x r v h;simp[snap]at h
 |succ n ih=>
  intro c x r v h hr hs;have TM:∀ {B:eG}{ps:b_}{q:aG}{E:List Value},ic (snap m.aj n) B=some (ps,q)->rl m own q->Pw (dX m) B E->Pw (dq m.w own) ps E:=λX Z h3=>J9 (R:=dX m) (T:=dq m.w own) (fK:=rl m own) (λa b h=>h.app) (λa b r v e1 e2 e3=>ih e1 e2 e3) X Z h3
  have TT:∀ {ps:b_}{E:List Value},eI m.w m.own ps E->Pw (dq m.w own) ps E:=λh=>eI.pw.1 (h.less hs.1);unfold snap at h;cases c with
  |p y=>simp at h;obtain⟨rfl,rfl⟩:=h;obtain⟨hp⟩:=hr;exact hp.norm.less hs.1
  |bh id ao D=>
   cases hr with
   |bh a hg ha=>
    simp only at h;split at h
    .rename_i g' B M;split at h
     .rename_i j9;split at h
      .rename_i ps q hq;cases h;have bl:(m.aj id).2=some (.var B):=by rw[M]
       have ha:=ha (by rw[M];exact j9) (by rw[bl];rfl);subst ha;obtain⟨F,H,hh,hc⟩:=aA.obj id _ bl;have hp:=TM hq ⟨hs.1,λi hi=>hs.2 i (by simp[hi])⟩ (eE.pw.1 hc);refine aaT hh ?_ λ_=>hs.2 id aQ;have X:=hp.drop D;have Z:(F.toList.drop D).take (I (ps.drop D))=F.toList.drop D:=e_ (by have:=X.1;omega);rw[Z];exact X
      cases h
     cases h
    .rename_i g' ps M;split at h
     .rename_i j9;cases h;have bl:(m.aj id).2=some (.fvar ps):=by rw[M]
      have ha:=ha (by rw[M];exact j9) (by rw[bl];rfl);subst ha;obtain⟨F,H,Y,hh,hc,_⟩:=aA.obj id _ bl;refine aaT hh ?_ λ_=>hs.2 id aQ;have X:=(TT hc).drop D;have Z:(F.toList.drop D).take (I (ps.drop D))=F.toList.drop D:=e_ (by have:=X.1;omega);rw[Z];exact X
     cases h
    cases h
  |dY id ao i D=>
   cases hr with
   |dY a hg ha=>
    have key:∀(H g:Nat) (j:s_) (e:b_) (F:Array Value) (Y:Nat×Nat),m.w.heap[m.σ id]?=some (.cells F H Y)->(∀e∈j,I e=g)->I j*g<=F.size->
      eI m.w m.own j.flatten (F.toList.take (I j*g))->j[i]?=some e->a=⟨m.σ id,i*g+D,none⟩-> ¬own (m.σ id)->dq m.w own (.box (e.drop D)) (.pointer (some a)):=by
     intro H g j e F Y hh de ab dT he zI dL;subst zI;have dY:=Oo de he;have hi:i<I j:=(cD.1 he).1;have mR:(i+1)*g<=I j*g:=oH _ hi;have X:=(F9 (D:=i) (len:=1) de (TT dT) J).drop D;have h0:((j.drop i).take 1)=[e]:=by rw[Kv hi];have:=(cD.1 he).2;simp[this]
     rw[h0]at X;simp only[lI,Fo,lg,dw,eK,kA,Gg]at X;refine aaT hh ?_ λ_=>dL;have Z:(F.toList.drop (i*g+D)).take (I (e.drop D))=(((F.toList.drop (i*g)).take g).drop D):=by rw[List.drop_take,Q5,l8,dY]
     rw[Z];exact X
    simp only at h;split at h
    .rename_i g' H g j M;split at h
     .rename_i j9;simp only[eU,mj]at h;obtain⟨e,he,rfl,rfl⟩:=h;have bl:(m.aj id).2=some (.arr H g j):=by rw[M]
      obtain⟨F,hh,sG,de,hl,hm,dK,dT⟩:=aA.obj id _ bl;exact key H g j e F _ hh de (by rw[dK];exact oH _ hl) dT he (ha g (by rw[M];exact j9) (by rw[M];rfl)) (hs.2 id aQ)
     cases h
    .rename_i g' H g j M;split at h
     .rename_i j9;simp only[eU,mj]at h;obtain⟨e,he,rfl,rfl⟩:=h;have bl:(m.aj id).2=some (.sk H g j):=by rw[M]
      obtain⟨F,Y,hh,sG,de,hl,hm,dK,dT,_⟩:=aA.obj id _ bl;exact key H g j e F _ hh de (by rw[dK];exact oH _ hl) dT he (ha g (by rw[M];exact j9) (by rw[M];rfl)) (hs.2 id aQ)
     cases h
    cases h
  |hsl id ao z D len=>
   cases hr with
   |hsl a N hg hl hm ha=>
    have key:∀(H g:Nat) (j:s_) (F:Array Value) (Y:Nat×Nat),m.w.heap[m.σ id]?=some (.cells F H Y)->(∀e∈j,I e=g)->Pw (dq m.w own) j.flatten (F.toList.take (I j*g))->
      D+len<=I j->(D=0\/0<len->a=⟨m.σ id,D*g,none⟩)-> ¬own (m.σ id)->dq m.w own (.sl ((j.drop D).take len)) (.slice (some a) len N):=by
     intro H g j F Y hh de dT an zI dL;by_cases ab:len=0
     .subst ab;simp only[Qh];exact .Bu _ _ (λh=>by cases h) hm
     have:=zI (.inr J);subst this;have ad:I ((j.drop D).take len)=len:=by simp;omega
     have X:=apf (N:=N) (own:=own) (o:=D*g) (j:=(j.drop D).take len) hh (g:=g) (λe he=>de e (wx (yk he))) J hm (F9 de dT an) dL;rw[ad]at X;exact X
    simp only at h;split at h
    .rename_i g' H g j M;split at h
     .rename_i hc;cases h;have bl:(m.aj id).2=some (.arr H g j):=by rw[M]
      obtain⟨F,hh,sG,de,yG,nT,dK,dT⟩:=aA.obj id _ bl;exact key H g j F _ hh de (TT dT) hc.2 (by obtain⟨_,Z,_⟩:=ha g (by rw[M];exact hc.1) (by rw[M];rfl);rename_i e1 _;exact e1▸Z) (hs.2 id aQ)
     cases h
    .rename_i g' H g j M;split at h
     .rename_i hc;cases h;have bl:(m.aj id).2=some (.sk H g j):=by rw[M]
      obtain⟨F,Y,hh,sG,de,yG,nT,dK,dT,_⟩:=aA.obj id _ bl;exact key H g j F _ hh de (TT dT) hc.2 (by obtain⟨_,Z,_⟩:=ha g (by rw[M];exact hc.1) (by rw[M];rfl);exact Z) (hs.2 id aQ)
     cases h
    .rename_i g' H g j M;split at h
     .rename_i hc;split at h
      .rename_i ps q hq;cases h;have bl:(m.aj id).2=some (.jw H g j):=by rw[M]
       obtain⟨F,hh,sG,de,yG,nT,dK,dT⟩:=aA.obj id _ bl;have ap:=F9 de (eE.pw.1 dT) hc.2;have Qe:∀e∈(j.drop D).take len,I e=g:=λe he=>de e (wx (yk he));have ad:I ((j.drop D).take len)=len:=by simp;omega
       have bN:I ps=len:=by rw[adg hq,ad]
       have sA:len*g<=I (F.toList.drop (D*g)):=by
        simp;have X:D*g+len*g<=I j*g:=by rw[<-jW];exact oH _ hc.2
        have Z:I j*g<=m.κ id*g:=oH _ yG;omega
       have rG:∀(ac:Nat) (e:b_),ps[ac]?=some e->Pw (dq m.w own) e (((F.toList.drop (D*g)).drop (ac*g)).take g):=by intro ac e he;obtain⟨x,q',X,Z,h3⟩:=abI hq he;exact TM Z ⟨hs.1,λi hi=>hs.2 i (by simp[h3 i hi])⟩ (acP Qe ap X)
       have Hz:∀e∈ps,I e=g:=by
        intro e he;obtain⟨ac,hj⟩:=jL he;have:=(rG ac e hj).1;have wG:ac<len:=by rw[<-bN];exact(cD.1 hj).1
        have X:(ac+1)*g<=len*g:=oH _ wG;rw[jW]at X;simp at this sA;omega
       by_cases ab:len=0
       .have:ps=[]:=ajW J;subst this;subst ab;exact .Bu _ _ (λh=>by cases h) hm
       obtain⟨_,Z,_⟩:=ha g (by rw[M];exact hc.1) (by rw[M];rfl);rename_i e1 _;have zI:=Z (.inr J);subst zI;have Cl:=apf (N:=N) (own:=own) (o:=D*g) hh Hz J hm (acb Hz (by rw[bN];exact sA) rG) (hs.2 id aQ);rw[bN]at Cl;exact Cl
      cases h
     cases h
    cases h
  |mS id ao=>
   cases hr with
   |mS r' hg ha=>
    have key:∀(ag:Bool) (j:w_) (L:Array MapEntry) (Q:Nat),m.w.heap[m.σ id]?=some (.map L Q)->L.size=I j->
      (∀(i:Nat) (q:PV) (v:b_) (e:MapEntry),j[i]?=some (q,v)->L[i]?=some e->dq m.w m.own q e.key/\ ∃ao:Array Value,(ag->e.val=.agg ao)/\(ag=false-> #[e.val]=ao)/\eI m.w m.own v ao.toList)->
      ¬own (m.σ id)->dq m.w own (.mp ag j) (.map (some (m.σ id))):=by
     intro ag j L Q hh hl hc dL;have ar:∃G:Nat->Array Value,∀(i:Nat) (q:PV) (v:b_) (e:MapEntry),j[i]?=some (q,v)->L[i]?=some e->(ag->e.val=.agg (G i))/\(ag=false-> #[e.val]=G i)/\eI m.w m.own v (G i).toList:=by
      refine⟨λi=>match L[i]? with|some e=>(match e.val with| .agg ao=>if ag then ao else #[e.val]|v=> #[v])|none=> #[],λi q v e X Z=>?_⟩;obtain⟨_,ao,g1,g2,g3⟩:=hc i q v e X Z;simp only[Z];cases ag with
      |true=>have:=g1 rfl;simp[this];exact g3
      |false=>
       have:=g2 rfl;subst this;refine⟨(λh=>by cases h),(λ_=>?_),?_⟩
       .cases e.val<;>rfl
       cases hv:e.val<;>simp only[hv]at g3<;>exact g3
     obtain⟨G,hG⟩:=ar;refine .mp (m.σ id) L Q G dL hh hl (λi q v e X Z=>((hc i q v e X Z).1).less hs.1) (λi q v e X Z=>?_) λi q v ac x u X Z h3=>?_
     .obtain⟨a1,a2,a3⟩:=hG i q v e X Z;exact⟨by have:=a3.1;simpa using this,a1,a2⟩
     have aq:i<L.size:=by rw[hl];exact(cD.1 X).1
     obtain⟨a1,a2,a3⟩:=hG i q v _ X (Array.getElem?_eq_getElem aq);exact(a3.2 ac x u Z (by rw[GH];exact h3)).less hs.1
    simp only at h;split at h
    .rename_i g' ag j M;split at h
     .rename_i j9;cases h;have bl:(m.aj id).2=some (.map ag j):=by rw[M]
      have ha:=ha (by rw[M];exact j9) (by rw[bl];rfl);subst ha;obtain⟨L,Q,hh,hl,hc⟩:=aA.obj id _ bl;exact key ag j L Q hh hl hc (hs.2 id aQ)
     cases h
    .rename_i g' ag j M;split at h
     .rename_i j9;cases h;have bl:(m.aj id).2=some (.fmap ag j):=by rw[M]
      have ha:=ha (by rw[M];exact j9) (by rw[bl];rfl);subst ha;obtain⟨L,Q,hh,hl,hc,_⟩:=aA.obj id _ bl;exact key ag j L Q hh hl hc (hs.2 id aQ)
     cases h
    cases h
  |hfn f a b=>
   cases hr with
   |hfn A av hA hB yL rH=>
    simp only at h;split at h
    .rename_i xa ra xb dn X Z;cases h;obtain⟨s1,s2⟩:=hs.app;have p1:=TM (E:=A.toList) X s1 ⟨by simpa using hA,λac x u p q=>yL ac x u p (by rw[<-GH];exact q)⟩;have p2:=TM (E:=av.toList) Z s2 ⟨by simpa using hB,λac x u p q=>rH ac x u p (by rw[<-GH];exact q)⟩;exact .fn A av (by have:=p1.1;simpa using this) (by have:=p2.1;simpa using this) (λac x u p q=>p1.2 ac x u p (by rw[GH];exact q)) λac x u p q=>p2.2 ac x u p (by rw[GH];exact q)
    cases h
end
theorem aDT{aj:aB}{all:aG}:∀ {l:aG}{u:lA},vV aj all l=some u->
  (∀e∈u,e.1∈l/\ ∃x,zC aj all e.1=some x/\e∈x)/\ ∀id∈l,∃x,zC aj all id=some x/\ ∀e∈x,e∈u:=by
 intro l
 induction l with
 |nil=>intro u h;simp[vV]at h;subst h;exact⟨λe h=>by simp at h,λid h=>by simp at h⟩
 |cons i r B=>
  intro u h;simp only[vV]at h;split at h
  .rename_i a b f y;cases h;obtain⟨g1,z⟩:=B y;have A:∀e∈a,e.1=i:=by
    intro e H;unfold zC at f;split at f<;>first
     |(cases f;simp at H;subst H;rfl)
     |(split at f
       .split at f
        .cases f;simp at H;subst H;rfl
        cases f
       cases f)
     |(cases f;simp at H)
     |cases f
   refine⟨λe H=>?_,λid g=>?_⟩
   .rcases fc.1 H with H|H
    .exact⟨by simp[A e H],a,by rw[A e H];exact f,H⟩
    obtain⟨j,m⟩:=g1 e H;exact⟨by simp[j],m⟩
   rcases dk.1 g with rfl|g
   .exact⟨a,f,λe H=>by simp[H]⟩
   obtain⟨x,j,m⟩:=z id g;exact⟨x,j,λe H=>by simp[m e H]⟩
  cases h
def J6(aj:aB)(all:aG):fZ->fZ->Prop
 | .var B,.fvar ps=>∃r,ic (snap aj ia) B=some (ps,r)/\ ∀i∈r,i∈all
 | .arr H g j,.sk u E N=>u=H/\E=g/\N=j
 | .jw H g j,.sk u E ps=>u=H/\E=g/\ ∃r,ic (ic (snap aj ia)) j=some (ps,r)/\ ∀i∈r,i∈all
 | .map A j,.fmap f N=>f=A/\N=j
 |_,_=>False
theorem J6.facts{aj:aB}{all:aG}{o O:fZ}(h:J6 aj all o O)(g:Nat):o.ij/\O.ij=false/\mZ (g,some O)=mZ (g,some o):=by
 cases o<;>cases O<;>simp only[J6]at h<;>first
  |exact h.elim
  |exact⟨rfl,rfl,rfl⟩
  |exact⟨rfl,rfl,by simp[mZ,h.2.1]⟩
theorem aoo{aj:aB}{all:aG}{id:Nat}{x:lA}(h:zC aj all id=some x):
  (∃o,(aj id).2=some o/\o.ij=false/\x=[])\/ ∃o O,(aj id).2=some o/\J6 aj all o O/\x=[(id,((aj id).1,some O))]:=by
 unfold zC at h;split at h
 .rename_i m B f;split at h
  .rename_i ps r z;split at h
   .rename_i D;cases h;refine .inr ⟨.var B,.fvar ps,by rw[f],⟨r,z,λi u=>?_⟩,by rw[f]⟩;have:=jP.1 D i u
    simpa using this
   cases h
  cases h
 .rename_i m H g j f;cases h;exact .inr ⟨.arr H g j,.sk H g j,by rw[f],⟨rfl,rfl,rfl⟩,by rw[f]⟩
 .rename_i m H g j f;split at h
  .rename_i ps r z;split at h
   .rename_i D;cases h;refine .inr ⟨.jw H g j,.sk H g ps,by rw[f],⟨rfl,rfl,r,z,λi u=>?_⟩,by rw[f]⟩;have:=jP.1 D i u
    simpa using this
   cases h
  cases h
 .rename_i m A j f;cases h;exact .inr ⟨.map A j,.fmap A j,by rw[f],⟨rfl,rfl⟩,by rw[f]⟩
 .cases h
 rename_i y L M E F N;cases h;cases f:aj id with
 |mk m o=>
  cases o with
  |none=>exact(N m f).elim
  |some o=>
   refine .inl ⟨o,rfl,?_,rfl⟩;cases o with
   |var B=>exact(L m B f).elim
   |arr H g j=>exact(M m H g j f).elim
   |jw H g j=>exact(E m H g j f).elim
   |map A j=>exact(F m A j f).elim
   |_=>rfl
def bR.with(m:bR)(u:lA):bR:={m with aj:=app u m.aj}
theorem yY{ids:aG}(h:t_ m.aj ids=some u)(id:Nat):
  ((m.with u).aj id=m.aj id/\(id∈ids->∃o,(m.aj id).2=some o/\o.ij=false))\/
  (id∈ids/\ ∃o O,(m.aj id).2=some o/\J6 m.aj ids o O/\(m.with u).aj id=((m.aj id).1,some O)):=by
 obtain⟨D,z⟩:=aDT h;rcases aEs u m.aj id with⟨e1,e2⟩|⟨e,B,e1,e2⟩
 .refine .inl ⟨e1,λg=>?_⟩;obtain⟨x,A,H⟩:=z id g;rcases aoo A with⟨o,a,b,_⟩|⟨o,O,a,b,c⟩
  .exact⟨o,a,b⟩
  exact(e2 (id,(m.aj id).fst,some O) (H _ (by rw[c];simp)) rfl).elim
 obtain⟨j,x,y,f⟩:=D e B;rw[e1]at j y;rcases aoo y with⟨o,a,b,c⟩|⟨o,O,a,b,c⟩
 .rw[c]at f;simp at f
 rw[c]at f;simp at f;refine .inr ⟨j,o,O,a,b,?_⟩;simp only[bR.with];rw[e2,f]
theorem ad7{ids:aG}(h:t_ m.aj ids=some u){c:Nat}(g:(m.with u).own c):m.own c:=by
 rcases g with g|⟨id,o,H,f,j⟩
 .exact .inl g
 rcases yY h id with⟨e,_⟩|⟨_,p,q,a,b,e⟩
 .rw[e]at H;exact .inr ⟨id,o,H,f,j⟩
 rw[e]at H;cases H;rw[(b.facts 0).2.1]at f;cases f
theorem WC(aA:eo O m){ids:aG}(h:t_ m.aj ids=some u):rl m (m.with u).own ids:=by
 refine⟨λb z=>ad7 h z,λid j g=>?_⟩;rcases yY h id with⟨e,A⟩|⟨_,o,D,a,b,e⟩
 .obtain⟨o,ho,hm⟩:=A j;exact(aA.obj id o ho).calm hm (ad7 h g)
 rcases g with g|⟨F,q,H,f,y⟩
 .exact(aA.gZ id o a (b.facts 0).1).2 g
 by_cases x:F=id
 .subst x;rw[e]at H;cases H;rw[(b.facts 0).2.1]at f;cases f
 rcases yY h F with⟨E,_⟩|⟨_,M,Q,L,B,E⟩
 .rw[E]at H;exact x (aA.inj F id q o H f a (b.facts 0).1 y)
 rw[E]at H;cases H;rw[(B.facts 0).2.1]at f;cases f
theorem adu{m:bR}{ids:aG}{u:lA}(h:t_ m.aj ids=some u):g_ m (m.with u) where
 os:=rfl
 tape:=rfl
 output:=rfl
 size:=cT _
 keep _ _ _:=rfl
 ij c _ g:=by
  obtain⟨id,o,H,f,j⟩:=g;rcases yY h id with⟨e,_⟩|⟨_,p,q,a,b,e⟩
  .rw[e]at H;exact⟨id,o,H,f,j⟩
  rw[e]at H;cases H;rw[(b.facts 0).2.1]at f;cases f
 less c _ x g:=x (ad7 h g)
 gen id:=by rcases yY h id with⟨e,_⟩|⟨_,p,q,a,b,e⟩<;>rw[e]<;>exact cT _
 ref id y hs:=by
  rcases yY h id with⟨e,_⟩|⟨_,p,q,a,b,e⟩
  .rw[e]at hs |-;exact⟨hs,rfl,rfl,rfl⟩
  rw[e]at hs |-;refine⟨by rw[a];rfl,rfl,rfl,?_⟩;have H:m.aj id=((m.aj id).1,some p):=by rw[<-a]
  rw[(b.facts (m.aj id).1).2.2,<-H]
theorem anM{m:bR}(aA:eo O m){ids:aG}{u:lA}(h:t_ m.aj ids=some u):eo O (m.with u) where
 os:=aA.os
 tape:=aA.tape
 output:=aA.output
 size:=aA.size
 base:=aA.base
 obj id o ho:=by
  have eB:=adu h;have D:=WC aA h;rcases yY h id with⟨e,_⟩|⟨ab,p,q,a,b,e⟩
  .rw[e]at ho;exact(aA.obj id o ho).ev eB.zero rfl rfl rfl
  rw[e]at ho;cases ho;have N:=D.2 id ab;have T9:∀r:aG,(∀i∈r,i∈ids)->rl m (m.with u).own r:=λr hr=>⟨D.1,λi Z=>D.2 i (hr i Z)⟩;have Q:=aA.obj id p a;cases p<;>cases o<;>simp only[J6]at b<;>first
   |exact b.elim
   |skip
  .obtain⟨r,B,hr⟩:=b;obtain⟨F,H,A,L⟩:=Q;exact⟨F,H,(0,0),A,eI.pw.2 (J9 (R:=dX m) (T:=dq m.w (m.with u).own) (fK:=rl m (m.with u).own) (λa b h=>h.app) (λa b r v e1 e2 e3=>KW aA _ e1 e2 e3) B (T9 r hr) (eE.pw.1 L)),N⟩
  .obtain⟨rfl,rfl,rfl⟩:=b;obtain⟨F,A,sG,de,hl,hm,L,dT⟩:=Q;exact⟨F,(0,0),A,sG,de,hl,hm,L,dT.less D.1,N⟩
  .obtain⟨rfl,rfl,r,B,hr⟩:=b;obtain⟨F,A,sG,de,hl,hm,L,dT⟩:=Q;rename_i j _ g ps;have bN:I ps=I j:=adg B;have sA:I ps*g<=I F.toList:=by
    have y:I j*g<=m.κ id*g:=oH _ hl;simp;rw[bN];omega
   have rG:∀(X:Nat) (e:b_),ps[X]?=some e->Pw (dq m.w (m.with u).own) e ((F.toList.drop (X*g)).take g):=by intro X e E;obtain⟨x,q',f,y,h3⟩:=abI B E;exact J9 (R:=dX m) (T:=dq m.w (m.with u).own) (fK:=rl m (m.with u).own) (λa b h=>h.app) (λa b r v e1 e2 e3=>KW aA _ e1 e2 e3) y (T9 q' λi Z=>hr i (h3 i Z)) (acP de (eE.pw.1 dT) f)
   have Hz:∀e∈ps,I e=g:=by intro e E;obtain⟨X,hj⟩:=jL E;have:=(rG X e hj).1;have wG:X<I ps:=(cD.1 hj).1;have f:(X+1)*g<=I ps*g:=oH _ wG;rw[jW]at f;simp at this sA;omega
   exact⟨F,(0,0),A,sG,Hz,by rw[bN];exact hl,hm,L,eI.pw.2 (acb Hz sA rG),N⟩
  obtain⟨rfl,rfl⟩:=b;obtain⟨M,z,A,hl,B⟩:=Q;exact⟨M,z,A,hl,λi q v e f y=>let ⟨p,g,g1,g2,g3⟩:=B i q v e f y;⟨p.less D.1,g,g1,g2,g3.less D.1⟩,N⟩
 gZ id o ho hm:=by
  rcases yY h id with⟨e,_⟩|⟨_,p,q,a,b,e⟩
  .rw[e]at ho;exact aA.gZ id o ho hm
  rw[e]at ho;cases ho;rw[(b.facts 0).2.1]at hm;cases hm
 frlt:=aA.frlt
 inj id fR o o' f Y y m2 E:=by
  rcases yY h id with⟨e,_⟩|⟨_,p,q,a,b,e⟩
  .rcases yY h fR with⟨e',_⟩|⟨_,p',q',a',b',e'⟩
   .rw[e]at f;rw[e']at y;exact aA.inj id fR o o' f Y y m2 E
   rw[e']at y;cases y;rw[(b'.facts 0).2.1]at m2;cases m2
  rw[e]at f;cases f;rw[(b.facts 0).2.1]at Y;cases Y
section
variable{L:World}
def bR.oN(m:bR)(L:World)(s c k:Nat)(o:fZ):bR:=(m.later L (· =c)).install s c k o
section
variable {m:bR} {L:World} {s c k:Nat} {o:fZ} (hg:jo m.w L) (ji:m.w.heap.size<=c) (l9:c<L.heap.size)
theorem Wa(aA:eo O m)(ji:m.w.heap.size<=c):(m.oN L s c k o).fr=m.fr:=by
 funext x;simp only[bR.oN,bR.install,bR.later];apply propext;constructor
 .rintro ⟨h|h,H⟩
  .exact h
  exact(H h).elim
 intro h;exact⟨.inl h,λe=>by have:=aA.frlt x h;omega⟩
include hg ji
theorem U5:g_ m (m.oN L s c k o):=UC (M4 hg λx h=>by subst h;exact ji) (.inr rfl) (.inl ji)
include l9
theorem UB(aA:eo O m)(ho:uL (m.oN L s c k o) s o):eo O (m.oN L s c k o):=Sa (TD aA hg λx h=>by subst h;exact⟨ji,l9⟩) (.inr rfl) (lX aA.size ji) ho
end
theorem MB{s c k:Nat}{o:fZ}:(m.oN L s c k o).σ s=c:=by simp[bR.oN,bR.install,aT]
theorem wZ{s c k:Nat}{o:fZ}:(m.oN L s c k o).κ s=k:=by simp[bR.oN,bR.install,aT]
theorem aHh{s c k:Nat}{o:fZ}:(m.oN L s c k o).aj=app [(s,((m.aj s).1+1,some o))] m.aj:=rfl
theorem az8{s c k:Nat}{o:fZ}:(m.oN L s c k o).w=L:=rfl
theorem abG{s c H:Nat}{n:Nat}(f:n<=N)(hm:N<=maxLen):
  dm (m.oN L s c N (.arr H g j)) (.one (.hsl s ((m.aj s).1+1) g 0 n)) (.slice (some ⟨c,0,none⟩) n N):=by
 refine dm.one.2 (.hsl _ _ ?_ f hm λz u h=>?_)
 .simp[bR.oN,bR.install,bR.later,aT]
 have:mZ ((m.oN L s c N (.arr H g j)).aj s)=some g:=by simp[bR.oN,bR.install,aT,mZ]
 rw[this]at h;cases h;refine⟨rfl,λ_=>?_,by rw[kA];exact wZ.symm⟩;rw[MB,zg]
theorem arc{s c H:Nat}{j:List eG}{n:Nat}(f:n<=N)(hm:N<=maxLen):
  dm (m.oN L s c N (.jw H g j)) (.one (.hsl s ((m.aj s).1+1) g 0 n)) (.slice (some ⟨c,0,none⟩) n N):=by
 refine dm.one.2 (.hsl _ _ ?_ f hm λz u h=>?_)
 .simp[bR.oN,bR.install,bR.later,aT]
 have:mZ ((m.oN L s c N (.jw H g j)).aj s)=some g:=by simp[bR.oN,bR.install,aT,mZ]
 rw[this]at h;cases h;refine⟨rfl,λ_=>?_,by rw[kA];exact wZ.symm⟩;rw[MB,zg]
theorem R6{t e:TypeId}{bytes:Nat}(h:BD P t=some (e,g,bytes,z)):
  ∃i v,P.underlying t=some (.slice e)/\P.info? e=some i/\i.size=g/\i.bytes=bytes/\(0<g/\0<bytes)/\i.zero=some v/\v.cells.size=g/\I z=g/\ ∀w own,eI w own z v.cells.toList:=by
 unfold BD at h;split at h
 .rename_i E u;split at h
  .rename_i i Z H B;split at h
   .rename_i j;cases h;obtain⟨v,i',f,m,x,y,A⟩:=OA B;rw[H]at f;cases f;exact⟨i,v,u,H,rfl,rfl,j,m,x,y,A⟩
   cases h
  cases h
 cases h
theorem aBs{R:PV->Value->Prop}{v:Array Value}{n:Nat}(B:Pw R z v.toList)(L:v.size=g)(m:0<g):
  Pw R (List.replicate n z).flatten ((madeCells v (n*g)).toList.take (n*g)):=by
 have F:I z=g:=by have:=B.1;simp at this;omega
 have D:∀e∈List.replicate n z,I e=g:=λe f=>by rw[Ou f];exact F
 have H:(madeCells v (n*g)).toList.length=n*g:=by simp[size_madeCells]
 rw[e_ J];refine⟨by rw[H,Ml D];simp,λj x u p q=>?_⟩;have y:j<n*g:=by have:=(cD.1 q).1;omega
 have h:j/g<n:=by rw[Nat.div_lt_iff_lt_mul m];exact y
 have T:j%g<g:=fC _ m;have f:(List.replicate n z)[j/g]?=some z:=by simp[h]
 have A:=HR D f T;rw[show j/g*g+j%g=j by rw[QK];exact WH j g]at A;rw[A]at p;have E:(madeCells v (n*g)).toList[j]?=some v[j%g]! :=by unfold madeCells;simp[y,L]
 rw[E]at q;cases q;refine B.2 (j%g) x _ p ?_;have:j%g<v.size:=J;simp[this]
section
variable {m:bR} {A:bn} {a:Act} {o:Oper} (aA:eo O m) (hr:kK m A a.tmps)
include aA hr
theorem aDi{t e:TypeId}{l c:Operand}{L:fu}{s bytes n:Nat}(ho:o.op=.makeSlice t l c)(he:BD P t=some (e,g,bytes,z))(hl:dy l=some L)(hc:dy c=some c')
  (hn:tM (ev A L)=some n) (hm:tM (ev A c')=some n) (T:n*bytes<=mi):
  iF P O a.eval o m (.one (.hsl s ((m.aj s).1+1) g 0 n)) [(s,((m.aj s).1+1,some (.arr e g (List.replicate n z))))]:=by
 obtain⟨i,v,B,Y,hs,D,⟨j,N⟩,M,E,Q,dT⟩:=R6 he;obtain⟨y,F⟩:=AH hn (gb hl hr);obtain⟨k2,H⟩:=AH hm (gb hc hr);unfold mi at T;have f:n<=maxLen:=by have:n<=n*bytes:=Q1 _ N;simp only[maxLen];omega
 have h:(n:Int)<=9223372036854775807:=by simp[maxLen]at f;omega
 have X:(i.bytes:Int)*(n:Int)<=281474976710656:=by
  have:((i.bytes*n:Nat):Int)<=281474976710656:=by rw[D,QK];omega
  rwa[Int.natCast_mul]at this
 have u:=run_make (P:=P) m.w t e i v B Y M y k2 n n J (Int.le_refl _) X h;simp only[s9,hs]at u
 let m':=m.oN (m.w.alloc (.cells (madeCells v.cells (n*g)) e)) s m.w.heap.size n (.arr e g (List.replicate n z))
 have R:g_ m m':=U5 (jo.alloc _ _) (cT _);have FV:uL m' s (.arr e g (List.replicate n z)):=by
  refine⟨_,by rw[MB];exact heap_alloc_new m.w _,j,λx Z=>?_,?_,?_,?_,?_⟩
  .rw[Ou Z];exact Q
  .rw[wZ];simp
  .rw[wZ];exact f
  .rw[wZ,size_madeCells]
  rw[Tq];exact eI.pw.2 (aBs (eI.pw.1 (dT _ _)) E j)
 refine⟨_,m',.inl ?_,UB (jo.alloc _ _) (cT _) aQ aA FV,R,Wa aA (cT _),rfl,abG (cT _) f⟩;simp[execOp,ho,F,H,u];rfl
theorem agi{lo H:Option Operand}{n l:Nat}{b:Bool}(F:yU lo=some F6)(f:yU H=some Co)(hl:u_ A 0 F6=some l)(z:u_ A n Co=some h)
  (B:l<=h) (D:h<=N):(Instr.sliceBounds b n N (lo.map a.eval) (H.map a.eval) none).run P m.w=.ok (l,h,N) m.w:=by
 have M:=aA;have R:(match H.map a.eval with|some v=>∃k,v=Value.int k (h:Int)|none=>h=n):=by
  cases H with
  |none=>simp[yU]at f;subst f;simp[u_]at z;simpa using z.symm
  |some x=>simp only[yU,eU]at f;obtain⟨y,j,rfl⟩:=f;exact AH z (gb j hr)
 have g:(match lo.map a.eval with|some v=>∃k,v=Value.int k (l:Int)|none=>l=0):=by
  cases lo with
  |none=>simp[yU]at F;subst F;simp[u_]at hl;simpa using hl.symm
  |some x=>simp only[yU,eU]at F;obtain⟨y,j,rfl⟩:=F;exact AH hl (gb j hr)
 generalize lo.map a.eval=L at g;generalize H.map a.eval=E at R;have ji:(h:Int)<=(N:Int):=J;have l9:(l:Int)<=(h:Int):=J;cases L with
 |none=>
  simp only at g;subst g;cases E with
  |none=>simp only at R;subst R;simp[Instr.sliceBounds]
  |some v=>obtain⟨k,rfl⟩:=R;simp[Instr.sliceBounds,Instr.sliceBound,asIntOf,D]
 |some u=>
  obtain⟨k,rfl⟩:=g;cases E with
  |none=>simp only at R;subst R;simp[Instr.sliceBounds,Instr.sliceBound,asIntOf,B]
  |some v=>obtain⟨O,rfl⟩:=R;simp[Instr.sliceBounds,Instr.sliceBound,asIntOf,D,B]
theorem aEA{t:TypeId}{lo f:Option Operand}{s:ByteArray}{l:Nat}(ho:o.op=.slice t x lo f none)(y:P.underlying t=some .string)
  (D:dy x=some X) (F:yU lo=some F6) (g:yU f=some Co) (hs:ev A X=.one (.p (.str s))) (hl:u_ A 0 F6=some l) (j:u_ A s.size Co=some h) (B:l<=h) (u:h<=s.size):
  iF P O a.eval o m (.one (.p (.str (s.extract l h)))) []:=by
 have H:=gb D hr;rw[hs]at H;have z:=agi (P:=P) (O:=O) (aA:=aA) (hr:=hr) (b:=false) F g hl j B u;refine .calm aA ?_ (pD (.str _));simp[execOp,ho,NS H,Instr.sliceAt,Instr.slice,run_underlying y,z]
theorem aF4{t e:TypeId}{lo hi:Option Operand}{n l:Nat}{v:V}(ho:o.op=.slice t x lo hi none)(ht:P.underlying t=some (.slice e))(de:xS P e=some g)
  (hx:dy x=some X) (fq:yU lo=some F6) (Ho:yU hi=some Co) (M:BP (ev A X)=some n) (hl:u_ A 0 F6=some l) (hh:u_ A n Co=some h)
  (H:F3 (ev A X) g l h=.done v [] []):iF P O a.eval o m v []:=by
 have L:=gb hx hr;unfold F3 at H;split at H
 .cases H
 rename_i Hs;have Hs:l<=h:=by simpa using Hs
 have run:∀(u:Option Addr) (N:Nat),a.eval x=.slice u n N->h<=N->(execOp a.eval o).run P m.w=.ok (.value (.slice (if N=l then u else u.map (·.add (l*g))) (h-l) (N-l))) m.w:=by intro u N lN sA;have Q:=agi (P:=P) (O:=O) (aA:=aA) (hr:=hr) (b:=true) fq Ho hl hh Hs sA;simp[execOp,ho,lN,Instr.sliceAt,Instr.slice,run_underlying ht,Q,Ri de]
 obtain⟨ar,ao,hsl,ab,lO⟩:=ae2 (aA:=aA) (hr:=hr) M L;split at H
 .rename_i y;split at H
  .rename_i h0;cases H;rw[y]at L;have:=VK L;subst h0;have Y:l=0:=J;subst Y;rw[this]at hsl;cases hsl;refine .calm aA (run none 0 this (cT _)) ?_;simp;exact pD .nils
  cases H
 .rename_i j y;split at H
  .rename_i T;cases H;rw[y]at L M;simp[BP]at M;subst M;obtain⟨hp⟩:dX m _ (a.eval x):=L;generalize Q:a.eval x=b at hp;generalize iW:(PV.sl j)=pv at hp;cases hp<;>cases iW
   .rename_i u N xH hm;simp at T;have ac:h=0:=J;subst ac;have Y:l=0:=J;subst Y;refine .calm aA (run u N Q (cE _)) (pD ?_);simp only[List.drop_nil,List.take_nil,Nat.sub_zero];refine .Bu _ _ (λh=>?_) hm;split at h
    .exact xH h
    cases u with
    |none=>exact xH rfl
    |some u=>simp at h
   rename_i b' o' N Z f hm nj yG F wD FY;refine .calm aA (run _ N Q J) (pD ?_);by_cases aq:l=h
   .subst aq;simp only[ze,Qh];refine .Bu _ _ (λh=>?_) J;split at h<;>simp at h
   have R:I ((j.drop l).take (h-l))=h-l:=by simp;omega
   have mQ:j≠[]:=λe=>by subst e;simp at T;omega
   have ag:Z=g:=by obtain⟨e0,r0,rfl⟩:=List.exists_cons_of_ne_nil mQ;have g1:=F e0 aQ;have g2:=T.2;simp[au]at g2;omega
   subst ag;rw[aw J];simp only[se,Addr.add_lit];have Ec:=dq.sl (w:=m.w) (own:=m.own) (es:=(j.drop l).take (h-l)) b' (o'+l*Z) (N-l) Z (λap=>f (l*Z+ap)) (λaN=>nj λe0=>aN ?_) J J (λe y=>F e (wx (yk y))) ?_ ?_
   .rw[R]at Ec;exact Ec
   .apply ajW;rw[LF (λe y=>F e (wx y)),R9 F,e0];simp
   .intro ap z B;rw[LF (λe y=>F e (wx y)),R9 F,nN]at B;split at B
    .rw[yt]at B;rw[F7];exact wD _ z B
    cases B
   intro ap z B;rw[LF (λe y=>F e (wx y)),R9 F,nN]at B;split at B
   .rw[yt]at B;exact FY _ z B
   cases B
  cases H
 .rename_i id av z D len y;split at H
  .rename_i T;cases H;rw[y]at L M;simp[BP]at M;subst M;have hU:dX m _ (a.eval x):=L;generalize Q:a.eval x=b at hU;cases hU with
   |hsl u N hg vA hm Py=>
    refine .calm aA (run _ N Q J) ?_;have an:∃E,(if N=l then some u else(some u).map (·.add (l*g)))=some E/\(N≠l->E=u.add (l*g))/\(l=0->E=u):=by
     by_cases cN:N=l
     .exact⟨u,by simp[cN],λh=>(h cN).elim,λ_=>rfl⟩
     exact⟨u.add (l*g),by simp[cN],λ_=>rfl,λh=>by subst h;simp[Addr.add]⟩
    obtain⟨E,e1,e2,e3⟩:=an;rw[e1];refine dm.one.2 (.hsl _ _ hg J J λs g1 g2=>?_);obtain⟨f1,f2,f3⟩:=Py s g1 g2;refine⟨f1,λEb=>?_,?_⟩
    .by_cases Y:l=0
     .subst Y;rw[e3 rfl,vX];refine f2 ?_;rcases Eb with h|h
      .exact .inl J
      exact .inr J
     have:0<h-l:=by rcases Eb with h|h<;>omega
     rw[e2 J,f2 (.inr J),Addr.add_lit,f1,T.2,jW]
    omega
  cases H
 cases H
end
end
theorem aFP(D:Nat):∀(E:List Value) (i:Nat) (cells:Array Value),D+i+I E<=cells.size->
  ((E.zipIdx i).foldl (λB (x:Value×Nat)=>B.setIfInBounds (D+x.2) x.1) cells).toList=fX cells.toList (D+i) E:=by
 intro E
 induction E with
 |nil=>intro i cells _;simp[fX]
 |cons v r f=>
  intro i cells h;simp only[dw]at h;simp only[List.zipIdx_cons,vi];rw[f (i+1) _ (by simp;omega)];unfold fX;rw[Array.toList_setIfInBounds];have A:D+i<I cells.toList:=by simp;omega
  have e1:(cells.toList.set (D+i) v).take (D+(i+1))=cells.toList.take (D+i)++[v]:=by rw[show D+(i+1)=(D+i)+1 by omega,aa2 (by simpa using A),List.take_set,Xc (by simp;omega)];simp
  have e2:(cells.toList.set (D+i) v).drop (D+(i+1)+I r)=cells.toList.drop (D+(i+1)+I r):=by rw[List.drop_set_of_lt J]
  rw[e1,e2];simp only[dw,s5,List.singleton_append];congr 3;omega
theorem aml{i n:Nat}{v:Value}{R:List (Nat×Value)}{cells:Array Value}(hp:place i=some (D,n))(H:v.cells.size=n)(h:D+n<=cells.size):
  ∃m,Instr.fill place cells ((i,v)::R)=Instr.fill place m R/\m.toList=fX cells.toList D v.cells.toList:=by
 refine⟨v.cells.zipIdx.foldl (λB (x:Value×Nat)=>B.setIfInBounds (D+x.2) x.1) cells,?_,?_⟩
 .simp only[Instr.fill,hp];rw[aw (by simp[H];omega)]
 rw[<-ab7,Array.toList_zipIdx,aFP D v.cells.toList 0 cells (by simp;omega)];simp
theorem afA{A:bn}{a:Act}(hr:kK m A a.tmps){z:Nat}:∀ {ps:List (Nat×Operand)}{qs:List (Nat×Nat×fu)}{rs:List (Nat×eG)}{B:eG}{cells:Array Value},
  CW place z ps=some qs->A7 A qs=some rs->eE m B cells.toList->I B=z->
  ∃M,Instr.fill place cells (ps.map λx=>(x.1,a.eval x.2))=some M/\eE m (EF B rs) M.toList:=by
 intro ps
 induction ps with
 |nil=>intro qs rs B cells H h f hl;simp[CW]at H;subst H;simp[A7]at h;subst h;exact⟨cells,by simp[Instr.fill],by simpa [EF]using f⟩
 |cons p t R=>
  intro qs rs B cells H h f hl;obtain⟨i,x⟩:=p;simp only[CW]at H;split at H
  .rename_i D n T q N O F;split at H
   .rename_i u;cases H;simp only[A7]at h;split at h
    .rename_i GR X g L;split at h
     .rename_i j;cases h;have y:=W1 g (gb O hr);have Q:(a.eval x).cells.size=n:=by have:=y.1;simp at this;omega
      have E:=f.1;simp at E;obtain⟨M,e1,e2⟩:=aml (R:=t.map λx=>(x.1,a.eval x.2)) N Q (by omega:D+n<=cells.size);simp only[eR,EF];rw[e1];refine R F L ?_ (by rw[VH J];exact hl);rw[e2];exact eE.pw.2 ((eE.pw.1 f).fX (eE.pw.1 y) D)
     cases h
    cases h
   cases H
  cases H
theorem azm{α β:Type}{f:α->Sem β}{g:α->β}{w:World}:∀ {l:List α},(∀x∈l,(f x).run P w=.ok (g x) w)->(l.mapM f).run P w=.ok (l.map g) w:=by
 intro l
 induction l with
 |nil=>intro _;simp
 |cons x r j=>intro h;simp[List.mapM_cons,h x aQ,j λy H=>h y (by simp[H])]
theorem awN{A:bn}{a:Act}(hr:kK m A a.tmps)(F:∀k,place k=some (k*g,g)):∀ {ps:List (Nat×Operand)}{as:sM}{j:List eG}{k:Nat}{done:List Value}{cells:Array Value},
  KO k ps=some as->Bx A g as=some j->I done=k*g->cells.toList.take (k*g)=done->cells.size=(k+I as)*g->
  ∃M,Instr.fill place cells (ps.map λx=>(x.1,a.eval x.2))=some M/\ ∃E,M.toList=done++E/\eE m j.flatten E/\(∀e∈j,I e=g)/\I j=I as:=by
 intro ps
 induction ps with
 |nil=>intro as j k done cells H h z L hs;simp[KO]at H;subst H;simp[Bx]at h;subst h;refine⟨cells,by simp[Instr.fill],[],?_,⟨aQ,λab x u p=>by simp at p⟩,λe y=>by simp at y,rfl⟩;rw[<-L,lg,e_ (by simp at hs |-;omega)]
 |cons p t ih=>
  intro as j k done cells H h z L hs;obtain⟨i,x⟩:=p;simp only[KO]at H;split at H
  .rename_i a' q hx X;split at H
   .rename_i N;cases H;subst N;simp only[Bx]at h;split at h
    .rename_i GR q' O Y;split at h
     .rename_i f;cases h;have R:=W1 O (gb hx hr);have D:(a.eval x).cells.size=g:=by have:=R.1;simp at this;omega
      simp only[dw]at hs;have T:cells.size=i*g+g+I q*g:=by rw[hs,jW,jW];omega
      obtain⟨M,e1,e2⟩:=aml (R:=t.map λx=>(x.1,a.eval x.2)) (F i) D (by omega:i*g+g<=cells.size);have Q:I M.toList=cells.size:=by rw[e2,VH (by simp;omega)];simp
      obtain⟨B,Z,E,f2,f3,f4,f5⟩:=ih (k:=i+1) (done:=done++(a.eval x).cells.toList) (cells:=M) X Y (by simp[z,D,jW]) (by rw[e2];unfold fX;rw[L,J8 (by simp[z,D,jW])];rw[e_ (by simp[z,D,jW])]) (by simp at Q;rw[Q,T,jW,jW];omega)
      simp only[eR];rw[e1];refine⟨B,Z,(a.eval x).cells.toList++E,by rw[f2,s5],?_,?_,by simp[f5]⟩
      .simp only[lI];exact eE.pw.2 ((eE.pw.1 R).append (eE.pw.1 f3))
      intro e y;rcases dk.1 y with rfl|y
      .exact f
      exact f4 e y
     cases h
    cases h
   cases H
  cases H
theorem aBF:∀ {j:List eG}{qs:s_}{E:List Value}{g:Nat},Ce j=some qs->(∀e∈j,I e=g)->eE m j.flatten E->eI m.w m.own qs.flatten E/\(∀e∈qs,I e=g)/\I qs=I j:=by
 intro j
 induction j with
 |nil=>intro qs E g h _ H;simp[Ce]at h;subst h;exact⟨⟨H.1,λY x u p=>by simp at p⟩,λe N=>by simp at N,rfl⟩
 |cons e r O=>
  intro qs E g h D H;simp only[Ce]at h;split at h
  .rename_i v R B z;cases h;simp only[lI]at H;have dY:=D e aQ;have ji:=(eE.pw.1 H).take (I e);have l9:=(eE.pw.1 H).drop (I e);simp only[Gn,VO]at ji l9;have g1:=MR B (eE.pw.2 ji);obtain⟨A,Q,F⟩:=O z (λx L=>D x (by simp[L])) (eE.pw.2 l9);have M:I v=g:=by
    have T:=g1.1;have X:=ji.1;omega
   refine⟨?_,?_,by simp[F]⟩
   .have:=(eI.pw.1 g1).append (eI.pw.1 A);rw[ot]at this;exact eI.pw.2 this
   intro y f;rcases dk.1 f with rfl|f
   .exact M
   exact Q y f
  cases h
section
variable {m:bR} {A:bn} {a:Act} {o:Oper} (aA:eo O m) (hr:kK m A a.tmps)
include aA hr
theorem aAy{t:TypeId}{ps:Array (Nat×Operand)}{fs:Array Field}(ho:o.op=.build t ps)(B:P.underlying t=some (.struct fs))(R:wv P t=some z)
  (L:fs.all (λf=>(P.info? f.type).isSome)) (hp:CW (λi=>(fs[i]?).map λf=>(f.offset,P.cellsOf f.type)) (I z) ps.toList=some qs) (F:A7 A qs=some rs):
  iF P O a.eval o m (.agg (EF (z.map .p) rs)) []:=by
 obtain⟨v,i,D,h,hs,hl,E⟩:=OA R;obtain⟨M,Q,u⟩:=afA hr hp F (E m.w m.own).Gp aQ;refine .calm (x:=.agg M) aA ?_ (dm.agg.2 ⟨_,rfl,u⟩);have y:(fs.mapM (λf=>do pure (f.offset,<-sizeOf f.type):Field->Sem (Nat×Nat))).run P m.w=.ok (fs.map λf=>(f.offset,P.cellsOf f.type)) m.w:=by
  rw[Array.mapM_eq_mapM_toList];have:=azm (P:=P) (f:=(λf=>do pure (f.offset,<-sizeOf f.type):Field->Sem (Nat×Nat))) (g:=λf=>(f.offset,P.cellsOf f.type)) (w:=m.w) (l:=fs.toList) (λf H=>by
   have:=Array.all_eq_true_iff_forall_mem.1 L f (by simpa using H);cases j:P.info? f.type with
   |none=>rw[j]at this;cases this
   |some i=>simp[sizeOf,typeInfo,j,Program.cellsOf])
  rw[Sem.run_map,this];simp only[Result.andThen_ok];congr 1;apply Array.ext';simp
 have N:Instr.fill (λx=>(fs.map λf=>(f.offset,P.cellsOf f.type))[x]?) v.cells (ps.map λx=>(x.1,a.eval x.2)).toList=some M:=by simpa using Q
 simp only[execOp,ho,Instr.build,zeroValue,typeInfo,Sem.run_bind,run_program,Result.andThen_ok,D,h,Sem.run_pure,run_underlying B,y,N]
theorem awx{t e:TypeId}{n:Nat}{ps:Array (Nat×Operand)}{i:TypeInfo}(ho:o.op=.build t ps)(g:P.underlying t=some (.array n e))(E:wv P t=some z)
  (H:P.info? e=some i) (hp:CW (λk=>some (k*i.size,i.size)) (I z) ps.toList=some qs) (u:A7 A qs=some rs):
  iF P O a.eval o m (.agg (EF (z.map .p) rs)) []:=by
 obtain⟨v,i',j,h,hs,hl,D⟩:=OA E;obtain⟨M,y,f⟩:=afA hr hp u (D m.w m.own).Gp aQ;refine .calm (x:=.agg M) aA ?_ (dm.agg.2 ⟨_,rfl,f⟩);have B:Instr.fill (λk=>some (k*i.size,i.size)) v.cells (ps.map λx=>(x.1,a.eval x.2)).toList=some M:=by simpa using y
 simp only[execOp,ho,Instr.build,zeroValue,sizeOf,typeInfo,Sem.run_bind,run_program,Result.andThen_ok,j,H,h,Sem.run_pure,run_underlying g,B]
theorem atm{t e:TypeId}{n bytes s:Nat}{ps:Array (Nat×Operand)}{as:sM}{j:List eG}(ho:o.op=.buildSlice t n ps)(he:BD P t=some (e,g,bytes,z))(hp:KO 0 ps.toList=some as)
  (hn:I as=n) (ac:n*g<=16777216) (hv:Bx A g as=some j):
  (∀qs,Ce j=some qs->iF P O a.eval o m (.one (.hsl s ((m.aj s).1+1) g 0 (I j))) [(s,((m.aj s).1+1,some (.arr e g qs)))])/\
  iF P O a.eval o m (.one (.hsl s ((m.aj s).1+1) g 0 (I j))) [(s,((m.aj s).1+1,some (.jw e g j)))]:=by
 obtain⟨i,v,R,Y,hs,hb,⟨D,_⟩,Cr,uf,pW,dT⟩:=R6 he;subst hn;obtain⟨M,f1,E,L,Q,N,F⟩:=awN (place:=λk=>some (k*g,g)) (done:=[]) (cells:=(Array.range (I as*g)).map ((if I as*g=0 then #[]else v.cells)[· %(if I as*g=0 then #[]else v.cells).size]!)) hr (λ_=>rfl) hp hv aQ aQ aQ;have X:(execOp a.eval o).run P m.w=.ok (.value (.slice (some ⟨m.w.heap.size,0,none⟩) (I j) (I j))) (m.w.alloc (.cells M e)):=by
  have B:Instr.fill (λk=>some (k*g,g)) ((Array.range (I as*g)).map ((if I as*g=0 then #[]else v.cells)[· %(if I as*g=0 then #[]else v.cells).size]!)) (ps.map λx=>(x.1,a.eval x.2)).toList=some M:=by simpa using f1
  have ab:¬(16777216<I as*g):=J;have f:¬(I as*g>2 ^ 24):=J;by_cases H:I as*g=0
  .simp only[aH H]at B;simp only[execOp,ho,Instr.buildSlice,Sem.run_bind,run_underlying R,Result.andThen_ok,sizeOf,typeInfo,run_program,Y,Sem.run_pure,hs,aw f,aH H,B,newRow,run_newObj,F];rfl
  simp only[aw H]at B;simp only[execOp,ho,Instr.buildSlice,Sem.run_bind,run_underlying R,Result.andThen_ok,sizeOf,typeInfo,run_program,Y,Sem.run_pure,hs,aw f,aw H,zeroValue,Cr,B,newRow,run_newObj,F];rfl
 simp at L;have T:M.size=I j*g:=by
  have h1:=Q.1;rw[Ml N]at h1;have:I M.toList=I E:=by rw[L]
  simp at this;omega
 have y:I j<=maxLen:=by have:I j<=I j*g:=Q1 _ D;simp only[maxLen];rw[F]at this |-;omega
 have h:M.toList.take (I j*g)=E:=by rw[e_ (by simp;omega),L]
 constructor
 .intro qs hq;have u:g_ m (m.oN (m.w.alloc (.cells M e)) s m.w.heap.size (I j) (.arr e g qs)):=U5 (jo.alloc _ _) (cT _);obtain⟨g1,g2,Z⟩:=aBF hq N (Q.ev u.zero);refine⟨_,m.oN (m.w.alloc (.cells M e)) s m.w.heap.size (I j) (.arr e g qs),.inl X,UB (jo.alloc _ _) (cT _) aQ aA ?_,u,Wa aA (cT _),rfl,abG (cT _) y⟩;exact⟨M,by rw[MB];exact heap_alloc_new m.w _,D,g2,by rw[wZ,Z];exact cT _,by rw[wZ];exact y,by rw[wZ,T],by rw[Z,h];exact g1⟩
 have u:g_ m (m.oN (m.w.alloc (.cells M e)) s m.w.heap.size (I j) (.jw e g j)):=U5 (jo.alloc _ _) (cT _);refine⟨_,m.oN (m.w.alloc (.cells M e)) s m.w.heap.size (I j) (.jw e g j),.inl X,UB (jo.alloc _ _) (cT _) aQ aA ?_,u,Wa aA (cT _),rfl,arc (cT _) y⟩;exact⟨M,by rw[MB];exact heap_alloc_new m.w _,D,N,by rw[wZ];exact cT _,by rw[wZ];exact y,by rw[wZ,T],by rw[h];exact Q.ev u.zero⟩
end
theorem QX(a b:lA)(aj:aB):app (a++b) aj=app b (app a aj):=by
 induction a generalizing aj with
 |nil=>rfl
 |cons x r f=>obtain⟨i,o⟩:=x;simp only[nA,app];exact f _
theorem aFW(H:∀c,FA c->m.fr c){c:Nat}(h:({m with fr:=FA}:bR).own c):m.own c:=by
 rcases h with h|h
 .exact .inl (H c h)
 exact .inr h
theorem aj8(H:∀c,FA c->m.fr c):g_ m {m with fr:=FA}:=
 ⟨rfl,rfl,rfl,cT _,λ_ _ _=>rfl,λ_ _ h=>h,λ_ _ f h=>f (aFW H h),λ_=>cT _,λ_ _ h=>⟨h,rfl,rfl,rfl⟩⟩
theorem asa{m:bR}{FA:Nat->Prop}(h:eo O m)(H:∀c,FA c->m.fr c):eo O {m with fr:=FA} where
 os:=h.os
 tape:=h.tape
 output:=h.output
 size:=h.size
 base:=h.base
 obj id o ho:=(h.obj id o ho).ev (aj8 H).zero rfl rfl rfl
 gZ id o ho hm:=⟨(h.gZ id o ho hm).1,λf=>(h.gZ id o ho hm).2 (H _ f)⟩
 frlt c f:=h.frlt c (H c f)
 inj:=h.inj
theorem aqH{m:bR}{L:World}{c:Nat}(h:eo O m)(g:m.fr c)(F:O.heap.size<=c)(z:L.os=m.w.os)(y:L.tape=m.w.tape)(u:L.output=m.w.output)(hs:L.heap.size=m.w.heap.size)
  (f:∀x,x≠c->L.heap[x]?=m.w.heap[x]?):eo O {m with w:=L} where
 os:=z.trans h.os
 tape:=y.trans h.tape
 output:=u.trans h.output
 size:=lX h.size (DE hs.symm)
 base x H:=(f x J).trans (h.base x H)
 obj id o ho:=by
  have A:m.σ id≠c:=by
   intro e;cases hm:o.ij with
   |true=>exact(h.gZ id o ho hm).2 (e▸g)
   |false=>exact(h.obj id o ho).calm hm (.inl (e▸g))
  exact(h.obj id o ho).ev (m':={m with w:=L}) ⟨λx _ j=>⟨f x λe=>j (.inl (e▸g)),j⟩,λ_=>cT _,λ_ _ h=>⟨h,rfl,rfl,rfl⟩⟩ rfl rfl (f _ A)
 gZ:=h.gZ
 frlt x H:=by rw[show({m with w:=L}:bR).w.heap.size=m.w.heap.size from hs];exact h.frlt x H
 inj:=h.inj
theorem aqg(aA:eo O m){own:Nat->Prop}{x:V}{v:Value}{new:s_}{rd fr:aG}(h:fz m.aj x=some (new,rd,fr))(hv:dm m x v)(hs:rl m own fr):
  ∃ax cx,v=.slice ax (I new) cx/\(∀z,qc x=some z->∀e∈new,I e=z)/\
   (new≠[]->∃b o A,ax=some ⟨b,o,none⟩/\Pw (dq m.w own) new.flatten A/\ ∀(Q:Nat) (u:Value),A[Q]?=some u->m.w.cell? ⟨b,o+Q,none⟩=some u):=by
 have row:∀(c D g len:Nat) (F:Array Value) (H:TypeId) (Y:Nat×Nat) (ps:s_),m.w.heap[c]?=some (.cells F H Y)->Pw (dq m.w own) ps.flatten ((F.toList.drop (D*g)).take (I ps*g))->
   ∃b o A,some (⟨c,D*g,none⟩:Addr)=some ⟨b,o,none⟩/\Pw (dq m.w own) ps.flatten A/\ ∀(Q:Nat) (u:Value),A[Q]?=some u->m.w.cell? ⟨b,o+Q,none⟩=some u:=by
  intro c D g len F H Y ps hh hp;refine⟨c,D*g,_,rfl,hp,λQ u E=>?_⟩;rw[nN]at E;split at E
  .rw[Ni hh];simpa using E
  cases E
 unfold fz at h;split at h
 .cases h;exact⟨none,0,VK hv,λz hz=>by simp[qc]at hz,λh=>(h rfl).elim⟩
 .rename_i j;cases h;obtain⟨hp⟩:dX m _ v:=hv;generalize iW:(PV.sl new)=pv at hp;cases hp<;>cases iW
  .exact⟨_,_,rfl,λz hz=>by simp[qc]at hz,λh=>(h rfl).elim⟩
  rename_i b o N g f hm ho hl X wD FY;refine⟨_,_,rfl,λz hz=>by simp[qc]at hz,λ_=>⟨b,o,(List.range (I new.flatten)).map f,rfl,⟨aQ,λQ y u p q=>?_⟩,λQ u q=>?_⟩⟩
  .have E:Q<I new.flatten:=(cD.1 p).1;rw[fY,qx E]at q;simp at q;subst q;exact(FY Q y p).less hs.1
  have E:Q<I new.flatten:=by have:=(cD.1 q).1;simpa using this
  rw[fY,qx E]at q;simp at q;subst q;exact wD Q _ (sT E)
 .rename_i id ag z D len;have hU:dX m _ v:=hv;cases hU with
  |hsl ad N hg hl hm Py=>
   split at h
   .rename_i g' H g j L;split at h
    .rename_i Z;cases h;have bl:(m.aj id).2=some (.arr H g j):=by rw[L]
     obtain⟨F,hh,sG,X,kL,xG,dK,dT⟩:=aA.obj id _ bl;obtain⟨e1,e2,e3⟩:=Py g (by rw[L];exact Z.1) (by rw[L];rfl);have M:I ((j.drop D).take len)=len:=by simp;omega
     refine⟨some ad,N,by rw[M],λz' tz e B=>?_,λaN=>?_⟩
     .simp[qc]at tz;subst tz;rw[<-e1];exact X e (wx (yk B))
     have:0<len:=by
      cases len with
      |zero=>simp at aN
      |succ n=>omega
     rw[e2 (.inr this)];exact row (m.σ id) D g len F H _ _ hh (F9 X (eI.pw.1 (dT.less hs.1)) Z.2)
    cases h
   .rename_i g' H g j L;split at h
    .rename_i Z;cases h;have bl:(m.aj id).2=some (.sk H g j):=by rw[L]
     obtain⟨F,Y,hh,sG,X,kL,xG,dK,dT,_⟩:=aA.obj id _ bl;obtain⟨e1,e2,e3⟩:=Py g (by rw[L];exact Z.1) (by rw[L];rfl);have M:I ((j.drop D).take len)=len:=by simp;omega
     refine⟨some ad,N,by rw[M],λz' tz e B=>?_,λaN=>?_⟩
     .simp[qc]at tz;subst tz;rw[<-e1];exact X e (wx (yk B))
     have:0<len:=by
      cases len with
      |zero=>simp at aN
      |succ n=>omega
     rw[e2 (.inr this)];exact row (m.σ id) D g len F H _ _ hh (F9 X (eI.pw.1 (dT.less hs.1)) Z.2)
    cases h
   .rename_i g' H g j L;split at h
    .rename_i Z;split at h
     .rename_i ps q hq;cases h;have bl:(m.aj id).2=some (.jw H g j):=by rw[L]
      obtain⟨F,hh,sG,X,kL,xG,dK,dT⟩:=aA.obj id _ bl;obtain⟨e1,e2,e3⟩:=Py g (by rw[L];exact Z.1) (by rw[L];rfl);have ac:I ((j.drop D).take len)=len:=by simp;omega
      have bN:I new=len:=by rw[adg hq,ac]
      have ab:=F9 X (eE.pw.1 dT) Z.2;have Qe:∀e∈(j.drop D).take len,I e=g:=λe B=>X e (wx (yk B));have sA:len*g<=I (F.toList.drop (D*g)):=by
       simp;have h1:D*g+len*g<=I j*g:=by rw[<-jW];exact oH _ Z.2
       have h2:I j*g<=m.κ id*g:=oH _ kL;omega
      have rG:∀(Q:Nat) (e:b_),new[Q]?=some e->Pw (dq m.w own) e (((F.toList.drop (D*g)).drop (Q*g)).take g):=by intro Q e B;obtain⟨x,q',h1,h2,h3⟩:=abI hq B;exact J9 (R:=dX m) (T:=dq m.w own) (fK:=rl m own) (λa b h=>h.app) (λa b r v e1 e2 e3=>KW aA _ e1 e2 e3) h2 ⟨hs.1,λi hi=>hs.2 i (h3 i hi)⟩ (acP Qe ab h1)
      have Hz:∀e∈new,I e=g:=by
       intro e B;obtain⟨Q,E⟩:=jL B;have:=(rG Q e E).1;have wG:Q<len:=by rw[<-bN];exact(cD.1 E).1
       have h1:(Q+1)*g<=len*g:=oH _ wG;rw[jW]at h1;simp at this sA;omega
      refine⟨some ad,N,by rw[bN],λz' tz e B=>?_,λaN=>?_⟩
      .simp[qc]at tz;subst tz;rw[<-e1];exact Hz e B
      have:0<len:=by rw[<-bN];exact jr.2 aN
      rw[e2 (.inr this)];refine row (m.σ id) D g len F H _ _ hh ?_;rw[bN];have:=acb Hz (by rw[bN];exact sA) rG;rw[bN]at this;exact this
     cases h
    cases h
   split at h
   .rename_i yH;cases h;exact⟨some ad,N,by rw[yH];rfl,λz' _ e B=>by simp at B,λh=>(h rfl).elim⟩
   cases h
 cases h
theorem aGH{w:World}{own:Nat->Prop}(h:Pw (dq w own) M E):∀u∈E,u.oneCell':=by
 intro v f;obtain⟨j,H⟩:=jL f;have A:j<I M:=by rw[<-h.1];exact(cD.1 H).1
 exact(h.2 j _ v (sT A) H).QR
theorem Vw{ids:aG}(h:t_ m.aj ids=some u)(id:Nat):(app u m.aj id).1=(m.aj id).1:=by
 rcases yY h id with⟨e,_⟩|⟨_,p,q,a,b,e⟩
 .exact congrArg Prod.fst e
 have:=congrArg Prod.fst e;exact this
theorem au2{m:bR}{id:Nat}{o:fZ}{L:World}(ho:(m.aj id).2=some o)(hm:o.ij)(g:L.os=m.w.os)(H:L.tape=m.w.tape)(f:L.output=m.w.output)(hs:L.heap.size=m.w.heap.size)
  (h:∀x,x≠m.σ id->L.heap[x]?=m.w.heap[x]?):g_ m {m.qO id with w:=L} where
 os:=g
 tape:=H
 output:=f
 size:=DE hs.symm
 keep c _ j:=h c λe=>j ⟨id,o,ho,hm,e.symm⟩
 ij:=(KE ho hm).ij
 less:=(KE ho hm).less
 gen:=(KE ho hm).gen
 ref:=(KE ho hm).ref
theorem aDQ{m:bR}(aA:eo O m){id s:Nat}{j:fZ}{F:Array Value}{H:Nat}{N:s_}(ho:(m.aj id).2=some j)(hm:j.ij)(Z:0<g)(X:L.os=m.w.os)(B:L.tape=m.w.tape)(M:L.output=m.w.output)(hs:L.heap.size=m.w.heap.size)
  (D:∀x,x≠m.σ id->L.heap[x]?=m.w.heap[x]?) (hh:L.heap[m.σ id]?=some (.cells F H (0,0))) (de:∀e∈N,I e=g) (hl:I N<=m.κ id) (E:m.κ id<=maxLen) (Y:F.size=m.κ id*g)
  (hp:Pw (dq m.w m.own) N.flatten (F.toList.take (I N*g))):
  ∃m',m'.w=L/\eo O m'/\g_ m m'/\m'.fr=m.fr/\m'.aj=dE (dE m.aj id ((m.aj id).1,none)) s ((m.aj s).1+1,some (.arr H g N))/\
   dm m' (.one (.hsl s ((m.aj s).1+1) g 0 (I N))) (.slice (some ⟨m.σ id,0,none⟩) (I N) (m.κ id)):=by
 have TR:=au2 ho hm X B M hs D;have R:=(aA.gZ id j ho hm).1;have A:eo O {m.qO id with w:=L}:=aqH (m:=m.qO id) (agC aA ho hm) (.inr rfl) R X B M hs D;have Q:g_ m ((({m.qO id with w:=L}:bR)).install s (m.σ id) (m.κ id) (.arr H g N)):=UC TR (.inr rfl) (.inr ⟨id,j,ho,hm,rfl⟩);have T:((({m.qO id with w:=L}:bR)).aj s).1=(m.aj s).1:=by
  simp only[bR.qO,aT];split
  .rename_i e;subst e;rfl
  rfl
 have u:((({m.qO id with w:=L}:bR)).install s (m.σ id) (m.κ id) (.arr H g N)).σ s=m.σ id:=by simp[bR.install,aT]
 have f:((({m.qO id with w:=L}:bR)).install s (m.σ id) (m.κ id) (.arr H g N)).κ s=m.κ id:=by simp[bR.install,aT]
 refine⟨_,rfl,Sa A (.inr rfl) R ?_,Q,?_,?_,?_⟩
 .exact⟨F,by rw[u];exact hh,Z,de,by rw[f];exact hl,by rw[f];exact E,by rw[f];exact Y,eI.ev Q.zero (eI.pw.2 hp)⟩
 .funext x;simp only[bR.install,bR.qO];apply propext;constructor
  .rintro ⟨h|h,y⟩
   .exact h
   exact(y h).elim
  intro h;exact⟨.inl h,λe=>(aA.gZ id j ho hm).2 (e▸h)⟩
 .simp only[bR.install];rw[T];rfl
 refine dm.one.2 (.hsl _ _ ?_ hl E λz h1 y=>?_)
 .simp only[bR.install,aT,if_true];rw[T];exact cT _
 have:mZ (((({m.qO id with w:=L}:bR)).install s (m.σ id) (m.κ id) (.arr H g N)).aj s)=some g:=by simp[bR.install,aT,mZ]
 rw[this]at y;cases y;exact⟨rfl,λ_=>by rw[u,zg],by rw[kA];exact f.symm⟩
theorem aBJ{P:Program}(w:World)(t H e:TypeId)(i:TypeInfo)(z:Value)(m:P.underlying t=some (.slice e))(x:P.info? e=some i)(y:i.zero=some z)
  (A:Option Addr) (a:Addr) (n c:Nat) (N:List Value) (hl:I N=n*i.size) (g:∀j v,N[j]?=some v->w.cell? (a.add j)=some v)
  (u:0<n) (f:(n:Int)<=9223372036854775807) (zD:n*i.bytes<=281474976710656):
  (Builtin.append_ #[t,t] H #[.slice A 0 0,.slice (some a) n c]).run P w=
   .ok (.slice (some ⟨w.heap.size,0,none⟩) n (grownCap w n 0 e)) (w.drew.alloc (.cells (N.toArray++Builtin.zeroCells z.cells (grownCap w n 0 e-n)) e)):=by
 cases A with
 |none=>exact run_append_nil w t H e i z m x y a n c N hl g u f zD
 |some b=>have h:=run_append_grow (P:=P) w t H e i z m x y b 0 0 [] aQ (λj v h=>by simp at h) a n c N hl g J (by simpa using f) (by rw[kA,nextslicecap_zero u];exact zD);rw[kA]at h;rw[h];simp
theorem aoD{u M:bR}{a:Act}{o:Oper}{D:lA}{s e f:Nat}{cells:List Value}{Z:Value}{bP:World}
  (R:(execOp a.eval o).run P m.w=.ok (.value (.slice (some ⟨M.w.heap.size,0,none⟩) (I j) f)) bP)
  (y:M.w.drew.alloc (.cells (cells.toArray++Builtin.zeroCells Z.cells (f-I j)) e)=bP)
  (A:eo O M) (X:g_ m M) (N:M.fr=m.fr) (Q:0<g) (Jq:Z.cells.size=g) (dp:∀x∈j,I x=g) (B:I cells=I j*g)
  (he:g_ u M) (mE:Pw (dq u.w u.own) j.flatten cells) (h:I j<=f) (F:f<=maxLen) (E:(M.aj s).1=(m.aj s).1) (Y:app D m.aj=M.aj):
  iF P O a.eval o m (.one (.hsl s ((m.aj s).1+1) g 0 (I j))) (D++[(s,((m.aj s).1+1,some (.arr e g j)))]):=by
 have hg:jo M.w bP:=by rw[<-y];exact(jo.drew _).trans (jo.alloc _ _)
 have T:g_ M (M.oN bP s M.w.heap.size f (.arr e g j)):=U5 hg (cT _);have z:=abG (m:=M) (L:=bP) (s:=s) (c:=M.w.heap.size) (H:=e) (g:=g) (j:=j) h F;rw[E]at z;refine⟨_,M.oN bP s M.w.heap.size f (.arr e g j),.inl R,UB hg (cT _) (by rw[<-y];simp) A ⟨_,by rw[MB,az8,<-y];exact heap_alloc_new M.w.drew _,Q,dp,by rw[wZ];exact h,by rw[wZ];exact F,?_,?_⟩,X.trans T,(Wa A (cT _)).trans N,by rw[QX,aHh,Y,E],z⟩
 .rw[wZ,Array.size_append,Wj,size_zeroCells,Jq,B,<-jW];congr 1;omega
 rw[Array.toList_append,List.toList_toArray,<-B,Gn];exact eI.ev (he.trans T).zero (eI.pw.2 mE)
section
variable {m:bR} {A:bn} {a:Act} {o:Oper} (aA:eo O m) (hr:kK m A a.tmps)
include aA hr
theorem aFB{c:Call}{d:Operand}{d':fu}{t e:TypeId}{s bytes:Nat}{v:V}{rd:aG}(ho:o.op=.call c)(hc:c.callee=.builtin .append)(a8:c.args= #[d,x])(jR:c.argTypes= #[t,t])
  (he:BD P t=some (e,g,bytes,z)) (hd:dy d=some d') (hx:dy x=some X) (H:af m.aj s e g bytes (ev A d') (ev A X)=.done v u rd):iF P O a.eval o m v u:=by
 obtain⟨i,zv,ht,hi,hs,hb,⟨jT,Pk⟩,Cr,Jq,pW,dT⟩:=R6 he;have tq:=gb hd hr;have nu:=gb hx hr;have run:∀(y:Value) (L:World),(Builtin.append_ #[t,t] o.type #[a.eval d,a.eval x]).run P m.w=.ok y L->(execOp a.eval o).run P m.w=.ok (.value y) L:=by intro y L h;simp[execOp,ho,resolve,hc,a8,jR,invoke,builtin,h]
 unfold af at H;split at H
 .cases H
 rename_i new bd fr dY;split at H
 .cases H
 rename_i aO;split at H
 .cases H
 rename_i M vv;have yJ:=anM aA vv;have Ck:=adu vv;have rI:=WC aA vv;obtain⟨ax,cx,Eh,a5,Hv⟩:=aqg aA dY nu rI;have dp:∀e∈new,I e=g:=by
  have:qc (ev A X)=some g\/au g new:=Classical.not_not.1 aO;rcases this with h|h
  .exact a5 g h
  intro e he;have:=jP.1 h e he
  simpa using this
 have ab:I new.flatten=I new*g:=Ml dp;have nz:∀ {az},a.eval d=.slice az 0 0-> ¬I new=0->I new*bytes<=mi->iF P O a.eval o m (.one (.hsl s ((m.aj s).1+1) g 0 (I new))) (M++[(s,((m.aj s).1+1,some (.arr e g new)))]):=by
  intro az Y Q nk;have aN:new≠[]:=λh=>Q (by simp[h]);obtain⟨b,D,f,rfl,Z,IY⟩:=Hv aN;unfold mi at nk;have ke:I f=I new*i.size:=by rw[Z.1,ab,hs]
  have TY:I new<=maxLen/\(I new:Int)<=9223372036854775807:=by have:I new<=I new*bytes:=Q1 _ Pk;simp only[maxLen];omega
  have sF:=aBJ (P:=P) m.w t o.type e i zv ht hi Cr az ⟨b,D,none⟩ (I new) cx f ke (λar v T=>by rw[Addr.add_lit];exact IY ar v T) J TY.2 (by rw[hb];omega);exact aoD (M:=m.with M) (run _ _ (by rw[Y,Eh];exact sF)) rfl yJ Ck rfl jT Jq dp (ke.trans (by rw[hs])) (g_.refl _) Z (grownCap_ge m.w (I new) 0 e) (grownCap_le_maxLen m.w (I new) 0 e TY.1) (Vw vv s) rfl
 split at H
 ·
  rename_i Pp;rw[Pp]at tq;have Y:=VK tq;split at H
  .rename_i Q;cases H;refine⟨.slice none 0 0,m.with u,.inl (run _ _ ?_),yJ,Ck,rfl,rfl,pD .nils⟩;rw[Y,Eh,Q];cases ax<;>simp[Builtin.append_,run_underlying ht,sizeOf,typeInfo,hi,Builtin.lenOf,Builtin.firstCells,loadCells,loadCellsFrom,bR.with]
  rename_i Q;split at H
  .rename_i nk;cases H;exact nz Y Q nk
  cases H
 ·
  rename_i Pp;rw[Pp]at tq;obtain⟨az,Y⟩:=aDj tq;split at H
  .cases H
  rename_i Q;split at H
  .rename_i nk;cases H;exact nz Y Q nk
  cases H
 .rename_i id bc C8 len Pp;rw[Pp]at tq;split at H
  .rename_i g' R E j jH;split at H
   .rename_i vr;obtain⟨j9,rfl,rfl,ag,nk,av⟩:=vr;cases H;have a3:id∉fr:=by simpa using av
    have cF:(m.with M).aj id=m.aj id:=by
     rcases yY vv id with⟨e,_⟩|⟨lf,_⟩
     .exact e
     exact(a3 lf).elim
    have bl:((m.with M).aj id).2=some (.arr R E j):=by rw[cF,jH]
    obtain⟨F,hh,_,de,hl,vB,dK,aE⟩:=yJ.obj id _ bl;have aq:dX m _ (a.eval d):=tq;generalize Y:a.eval d=dv at aq;cases aq with
    |hsl ad N hg vA L1 Pz=>
     obtain⟨f1,f2,f3⟩:=Pz E (by rw[jH];exact j9) (by rw[jH];rfl);have sA:N=m.κ id:=by rw[<-f3,kA]
     have sv:=f2 (.inl rfl);rw[zg]at sv;subst sv;unfold mi at nk;have DV:=Vw vv s;have bb:=Vw vv id;have LW:len*E<=I j*E:=oH _ ag;have kL:I j*E<=m.κ id*E:=oH _ hl;have ac:Pw (dq (m.with M).w (m.with M).own) (j.take len).flatten (F.toList.take (len*E)):=by rw[LF de];have h1:=(eI.pw.1 aE).take (len*E);rw[EU,wS LW]at h1;exact h1
     have a6:I (j.take len)=len:=by simp;omega
     have an:∀x∈j.take len++new,I x=E:=by
      intro x hx;rcases fc.1 hx with hx|hx
      .exact de x (yk hx)
      exact dp x hx
     have a9:len+I new<=(len+I new)*bytes:=Q1 _ Pk;have Ef:∀q:aol,app (M++[(id,(bc,none)),q]) m.aj=dE (dE (m.with M).aj id (((m.with M).aj id).1,none)) q.1 q.2:=by intro q;rw[QX];simp only[app];rw[cF,jH,j9];rfl
     have Hr:I (j.take len++new)=len+I new:=by rw[fv,a6]
     by_cases B:len+I new<=N
     ·
      have key:∀(L:World) (Ft:Array Value),(execOp a.eval o).run P m.w=.ok (.value (.slice (some ⟨m.σ id,0,none⟩) (len+I new) N)) L->L.os=m.w.os->L.tape=m.w.tape->L.output=m.w.output->L.heap.size=m.w.heap.size->
        (∀x,x≠m.σ id->L.heap[x]?=m.w.heap[x]?)->L.heap[m.σ id]?=some (.cells Ft R (0,0))->Ft.size=F.size->Pw (dq (m.with M).w (m.with M).own) (j.take len++new).flatten (Ft.toList.take ((len+I new)*E))->
        iF P O a.eval o m (.one (.hsl s ((m.aj s).1+1) E 0 (len+I new))) (M++[(id,(bc,none)),(s,((m.aj s).1+1,some (.arr R E (j.take len++new))))]):=by
       intro L Ft sF q1 q2 q3 q4 q5 q6 q7 q8;obtain⟨m',e1,e2,e3,e4,e5,e6⟩:=aDQ (s:=s) yJ bl rfl jT q1 q2 q3 q4 q5 q6 an (by rw[Hr];rw[sA]at B;exact B) vB (by rw[q7];exact dK) (by rw[Hr];exact q8);rw[Hr]at e6;have a1:((m.with M).aj s).1=(m.aj s).1:=DV;rw[a1]at e6 e5;refine⟨_,m',.inl (by rw[e1];exact sF),e2,Ck.trans e3,e4,by rw[e5,Ef],?_⟩;rw[sA];exact e6
      by_cases Q:new=[]
      .subst Q;have a0:(execOp a.eval o).run P m.w=.ok (.value (.slice (some ⟨m.σ id,0,none⟩) (len+I ([]:s_)) N)) m.w:=by
        apply run;rw[Y,Eh];have a4:len<=N:=vA;cases ax<;>simp[Builtin.append_,run_underlying ht,sizeOf,typeInfo,hi,Builtin.lenOf,Builtin.firstCells,loadCells,loadCellsFrom,a4,storeCells]
       exact key m.w F a0 rfl rfl rfl rfl (λ_ _=>rfl) hh rfl (by simpa using ac)
      obtain⟨b,D,f,rfl,Z,IY⟩:=Hv Q;have ke:I f=I new*i.size:=by rw[Z.1,ab,hs]
      have Hl:len*i.size+I f<=F.size:=by rw[ke,hs,dK,<-jW];rw[sA]at B;exact oH _ B
      have sF:=run_append_room (P:=P) m.w t o.type R i ht hi (m.σ id) len N F hh ⟨b,D,none⟩ (I new) cx f ke (λar v T=>by rw[Addr.add_lit];exact IY ar v T) (aGH Z) B Hl;have a2:(execOp a.eval o).run P m.w=.ok (.value (.slice (some ⟨m.σ id,0,none⟩) (len+I new) N)) _:=run _ _ (by rw[Y,Eh];exact sF);have a7:len*i.size<=F.size:=lX (Nat.le_add_right _ _) Hl;refine key _ _ a2 ?_ ?_ ?_ ?_ (λx hx=>setRow_other m.w (m.σ id) x _ hx) (Tx hh) ?_ ?_
      .rfl
      .rfl
      .rfl
      .exact setRow_size m.w _ _
      .rw[Wj,fv,fv,iM,l8,VD];omega
      have h1:=ac.append Z;rw[<-C6]at h1;have:(F.toList.take (len*i.size)++f++F.toList.drop (len*i.size+I f)).take ((len+I new)*E)=F.toList.take (len*E)++f:=by
       rw[hs];have cN:I (F.toList.take (len*E))=len*E:=by rw[iM,VD];rw[hs]at a7;omega
       have IZ:I (F.toList.take (len*E)++f)=(len+I new)*E:=by rw[fv,cN,ke,hs,jW]
       rw[J8 (DE IZ.symm)];exact e_ (DE IZ)
      simp only[List.toList_toArray]at this |-;rw[this];exact h1
     ·
      have Q:new≠[]:=λe=>by subst e;simp at B;omega
      obtain⟨b,D,f,rfl,Z,IY⟩:=Hv Q;have ke:I f=I new*i.size:=by rw[Z.1,ab,hs]
      have ap:I (F.toList.take (len*E))=len*i.size:=by rw[hs,iM,VD];have DQ:F.size=m.κ id*E:=dK;omega
      have sF:=run_append_grow (P:=P) m.w t o.type R i zv ht hi Cr ⟨m.σ id,0,none⟩ len N (F.toList.take (len*E)) ap (λar v T=>by
        rw[Addr.add_lit,kA];have:(m.w.cell? ⟨m.σ id,ar,none⟩)=F[ar]? :=Ni hh;rw[this];rw[nN]at T;split at T
        .simpa using T
        cases T) ⟨b,D,none⟩ (I new) cx f ke (λar v T=>by rw[Addr.add_lit];exact IY ar v T) J J (growslice_fits J (by rw[hb];omega))
      have TY:len+I new<=maxLen:=by simp only[maxLen];omega
      have h1:=ac.append Z;rw[<-C6]at h1;have ao:g_ (m.with M) {(m.with M).qO id with fr:=m.fr}:=(KE bl rfl).trans (aj8 (λc hc=>.inl hc));have bK:=aoD (P:=P) (O:=O) (a:=a) (o:=o) (D:=M++[(id,(bc,none))]) (s:=s) (e:=R) (m:=m) (M:={(m.with M).qO id with fr:=m.fr}) (j:=j.take len++new) (Z:=zv) (cells:=F.toList.take (len*E)++f) (f:=grownCap m.w (len+I new) N R) (bP:=m.w.drew.alloc (.cells ((F.toList.take (len*E)++f).toArray++Builtin.zeroCells zv.cells (grownCap m.w (len+I new) N R-(len+I new))) R))
       (by rw[Hr,<-List.append_toArray];exact run _ _ (by rw[Y,Eh];exact sF)) (by rw[Hr];rfl) (asa (FA:=m.fr) (agC yJ bl rfl) (λc hc=>.inl hc)) (Ck.trans ao) rfl jT Jq an (by rw[fv,ap,ke,hs,Hr,jW]) ao h1 (by rw[Hr];exact grownCap_ge m.w (len+I new) N R) (grownCap_le_maxLen m.w (len+I new) N R TY)
       (by simp only[bR.qO,aT];split<;>first|exact DV|(rename_i e';subst e';exact DV)) (by rw[QX];show dE _ id (bc,none)=dE _ id (((m.with M).aj id).1,none);rw[cF,jH,j9];rfl)
      rw[Hr,s5]at bK;exact bK
   cases H
  cases H
 cases H
end
end Go.Abs
