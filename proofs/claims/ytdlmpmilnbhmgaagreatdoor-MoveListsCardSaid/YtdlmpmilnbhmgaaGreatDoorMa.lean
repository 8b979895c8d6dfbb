/-
  An abstract machine for the code of the model.
-/
import Derived.KernelRfl
import Derived.Calls
import Derived.WalkKit
set_option linter.all false
open List renaming length->I
namespace Go.Abs
variable{f n g ln B N h:Nat}{x:Operand}{L:World}{wV zg:Nat->Prop}{D us:List Value}{E:Array Value}{F:TypeId}{Y:Nat×Nat}{lo H:Option Operand}{place:Nat->Option (Nat×Nat)}
abbrev oU:=List UInt8
abbrev eo:=List Bool
abbrev cS:=List Int
abbrev aA:=List Nat
abbrev my:=Option Nat
abbrev gN:=List (Nat×Nat)
abbrev tE:=List (Int×Int)
theorem J{p:Prop}(h:p:=by omega):p:=h
theorem U{p:Prop}(h:p:=by decide):p:=h
theorem aG{p:Prop}(h:p:=by simp):p:=h
theorem ah{p:Prop}(h:p:=by kernel_rfl):p:=h
def aD:=@if_neg.{1}
def aM:=@if_pos.{1}
def bC:=@Nat.zero_le
def bY:=@List.mem_of_getElem?.{0}
def cq:=@Bool.and_eq_true
def ct:=@List.getElem?_eq_some_iff.{0}
def cH:=@Nat.le_refl
def cT:=@List.length_map.{0,0}
def c6:=@beq_iff_eq.{0}
def dE:=@List.length_cons.{0}
def dL:=@List.mem_cons.{0}
def dM:=@Option.map_eq_some_iff.{0,0}
def dT:=@List.getD_eq_getElem?_getD.{0}
def ep:=@List.length_append.{0}
def ew:=@List.map_cons.{0,0}
def eJ:=@List.mem_map.{0,0}
def eR:=@List.length_nil.{0}
def eW:=@List.take_of_length_le.{0}
def fu:=@Option.some.injEq.{0}
def fH:=@decide_eq_true_eq
def fB:=@List.mem_append.{0}
def fO:=@Nat.mod_lt
def fJ:=@of_decide_eq_false
def f_:=@List.mem_range
def gL:=@List.all_eq_true.{0}
def gR:=@Nat.add_mul
def gU:=@Nat.le_of_ble_eq_true
def hY:=@Bool.not_eq_true'
def gZ:=@List.getElem?_map.{0,0}
def ib:=@Bool.false_eq_true
def iA:=@List.getElem?_of_mem.{0}
def iU:=@List.length_take.{0}
def iV:=@List.take_length.{0}
def jc:=@List.length_set.{0}
def jn:=@List.map_nil.{0,0}
def jC:=@Bool.or_eq_true
def jL:=@List.append_assoc.{0}
def jE:=@List.append_nil.{0}
def jN:=@List.take_add_one.{0}
def jO:=@Nat.le_trans
def jG:=@Nat.lt_succ_iff_lt_or_eq
def jV:=@Option.getD_some.{0}
def j0:=@List.range_succ
def jU:=@Prod.mk.injEq.{0,0}
def j5:=@List.length_reverse.{0}
def j6:=@Nat.mul_le_mul_right
def ka:=@Nat.zero_add
def kS:=@Bool.eq_iff_iff
def kT:=@List.flatten_cons.{0}
def lM:=@Int.eq_ofNat_of_zero_le
def lC:=@List.getElem?_set.{0}
def lT:=@List.getElem?_take.{0}
def mV:=@List.not_mem_nil.{0}
def l_:=@Nat.not_lt_zero
def mX:=@of_decide_eq_true
def nA:=@List.length_pos_iff.{0}
def nY:=@Int.toNat_natCast
def nH:=@List.getElem?_range
def oO:=@List.getElem?_eq_getElem.{0}
def n9:=@List.nodup_cons.{0}
def oG:=@Option.map_some.{0,0}
def oQ:=@List.all_cons.{0}
def o6:=@List.getElem?_eq_none.{0}
def pA:=@List.mem_singleton.{0}
def sF:=@Nat.eq_of_beq_eq_true
def o_:=@Nat.mod_eq_of_lt
def pQ:=@beq_eq_false_iff_ne.{0}
def pR:=@List.mem_flatMap.{0,0}
def pW:=@List.pairwise_cons.{0}
def qF:=@List.all_nil.{0}
def qG:=@List.foldl_cons.{0,0}
def q_:=@List.map_append.{0,0}
def rj:=@List.mem_of_mem_drop.{0}
def qM:=@List.mem_of_mem_take.{0}
def rT:=@List.ext_getElem.{0}
def s4:=@List.mem_cons_of_mem.{0}
def r3:=@decide_eq_false
def sO:=@List.countP_cons.{0}
def sN:=@decide_eq_true
def tk:=@Bool.and_true
def tI:=@Bool.true_and
def tK:=@List.map_set.{0,0}
def tx:=@List.mem_filter.{0}
def tz:=@List.nil_append.{0}
def tt:=@Nat.zero_mul
def u9:=@List.map_map.{0,0,0}
def um:=@List.nodup_nil.{0}
def xH:=@Option.some.inj.{0}
def v8:=@Array.getD_eq_getD_getElem?.{0}
def wL:=@Bool.false_or
def vA:=@List.getElem_map.{0,0}
def uO:=@List.mem_cons_self.{0}
def vF:=@Nat.lt_of_lt_of_le
def wQ:=@Array.getElem?_toList.{0}
def xM:=@List.any_eq_false.{0}
def xz:=@List.countP_pos_iff.{0}
def xn:=@List.flatMap_cons.{0,0}
def wU:=@List.flatten_append.{0}
def wM:=@List.getElem?_append_right.{0}
def xh:=@List.nodup_append.{0}
def w4:=@Nat.add_zero
def x8:=@Option.map_none.{0,0}
def Ba:=@Bool.and_self
def Aj:=@Bool.or_eq_false_iff
def Ad:=@List.any_eq_true.{0}
def Ai:=@List.ext_getElem?.{0}
def zf:=@List.find?_eq_none.{0}
def yq:=@List.foldl_append.{0,0}
def zV:=@List.getElem?_append_left.{0}
def yC:=@List.map_congr_left.{0,0}
def zt:=@Nat.add_assoc
def yD:=@Nat.le_max_left
def y_:=@Nat.min_eq_left
def zw:=@Prod.ext.{0,0}
def By:=@Bool.not_true
def B4:=@List.countP_eq_zero.{0}
def BD:=@List.getElem?_drop.{0}
def BE:=@List.getElem_range
def Cd:=@List.getElem_set.{0}
def BO:=@List.length_drop.{0}
def Bv:=@List.pairwise_append.{0}
def Cb:=@List.take_append_drop.{0}
def B8:=@Nat.le_of_eq
def Bs:=@Nat.mod_two_eq_zero_or_one
def A_:=@Nat.mul_le_mul
def A2:=@Nat.one_mul
def Cy:=@Bool.and_assoc
def D0:=@Int.toNat_of_nonneg
def Ei:=@List.cons_append.{0}
def GD:=@List.contains_eq_mem.{0}
def DV:=@List.countP_congr.{0}
def EG:=@List.find?_some.{0}
def Er:=@List.mem_of_find?_eq_some.{0}
def D8:=@List.take_take.{0}
def CI:=@Nat.le_max_right
def DE:=@Nat.lt_or_ge
def Ct:=@Nat.lt_trichotomy
def FV:=@Array.getElem?_eq_some_iff.{0}
def HO:=@Array.getElem?_push.{0}
def G9:=@Array.getElem?_setIfInBounds.{0}
def Fp:=@Array.length_toList.{0}
def JK:=@Bool.or_false
def Hq:=@List.countP_append.{0}
def Fu:=@List.countP_le_length.{0}
def HA:=@List.eq_of_mem_replicate.{0}
def Hb:=@List.find?_cons.{0}
def Hu:=@List.foldl_nil.{0,0}
def Ge:=@List.length_filter_le.{0}
def Ff:=@List.length_range
def GB:=@List.length_replicate.{0}
def GN:=@List.map_take.{0,0}
def Ho:=@List.mem_flatten.{0}
def Hc:=@List.mem_or_eq_of_mem_set.{0}
def HR:=@List.sum_cons.{0}
def Hv:=@Nat.beq_refl
def GC:=@Nat.mod_self
def E4:=@Nat.mul_comm
def HP:=@Option.bind_eq_some_iff.{0,0}
def Lt:=@Array.eq_empty_of_size_eq_zero.{0}
def Lz:=@Array.getElem?_eq_getElem.{0}
def I9:=@List.all_eq_false.{0}
def Nq:=@List.any_cons.{0}
def LJ:=@List.any_nil.{0}
def Ly:=@List.drop_eq_getElem_cons.{0}
def Jn:=@List.drop_of_length_le.{0}
def KD:=@List.filter_cons.{0}
def Nt:=@List.filter_nil.{0}
def Js:=@List.flatten_nil.{0}
def J5:=@List.getElem_mem.{0}
def Md:=@List.length_pos_of_mem.{0}
def Lq:=@List.map_drop.{0,0}
def Iv:=@List.pairwise_map.{0,0}
def MF:=@List.take_append.{0}
def JP:=@List.take_left.{0}
def M_:=@List.take_succ_cons.{0}
def Mn:=@List.take_zero.{0}
def Jg:=@Nat.add_mod_right
def L8:=@Nat.le_mul_of_pos_right
def Nw:=@Nat.lt_succ_self
def M1:=@Nat.sub_self
def Tn:=@Array.foldl_toList.{0,0}
def Tk:=@Array.getElem?_append.{0}
def Pc:=@Array.getElem?_modify.{0}
def SF:=@Array.toList_inj.{0}
def Og:=@Int.tdiv_eq_ediv_of_nonneg
def NU:=@List.Pairwise.imp.{0}
def Oi:=@List.filter_append.{0}
def NR:=@List.filter_flatMap.{0,0}
def Su:=@List.find?_append.{0}
def T3:=@List.findIdx_getElem.{0}
def NM:=@List.getElem?_reverse.{0}
def Us:=@List.getElem?_set_ne.{0}
def Q3:=@List.getElem?_take_of_lt.{0}
def UC:=@List.idxOf_lt_length_iff.{0}
def SD:=@List.length_erase_of_mem.{0}
def U6:=@List.mem_erase_of_ne.{0}
def N6:=@List.mem_filterMap.{0,0}
def Um:=@List.nodup_range
def UP:=@List.pairwise_flatMap.{0,0}
def OE:=@List.pairwise_singleton.{0}
def Tr:=@List.set_cons_zero.{0}
def TX:=@List.set_getElem_self.{0}
def Sn:=@List.size_toArray.{0}
def On:=@List.take_append_of_le_length.{0}
def T9:=@List.take_set_of_le.{0}
def Ua:=@List.take_succ_eq_append_getElem.{0}
def Ui:=@Nat.ble_eq_true_of_le
def RT:=@Nat.div_add_mod
def Vm:=@Nat.le_of_not_lt
def Oq:=@Nat.lt_succ_of_lt
def acA:=@beq_self_eq_true.{0}
def V0:=@List.countP_eq_length_filter.{0}
def VR:=@List.eq_nil_of_length_eq_zero.{0}
def aaf:=@List.findIdx_lt_length_of_exists.{0}
inductive PV where
 |bool (b:Bool)
 |int (k:IntKind) (n:Int)
 |str (s:ByteArray)
 |uu|nils|oE|tj|nili|ifc|zs
 |box (cs:List PV)
 |sl (es:List (List PV))
 |mp (ag:Bool) (es:List (PV×List PV))
 |fn (f:Nat) (first cap:List PV)
 deriving Inhabited
abbrev c_:=List PV
variable{M z:c_}
abbrev cL:=List (PV×c_)
abbrev dC:=List c_
variable{j:dC}
inductive b_ where
 |p (v:PV)
 |bg (id g off:Nat)
 |dr (id g i off:Nat)
 |hsl (id g sz off len:Nat)
 |km (id g:Nat)
 |hfn (f:Nat) (first cap:List b_)
 deriving Inhabited
abbrev dk:=List b_
variable{A:dk}{rs:List (Nat×dk)}
inductive V where
 |undef
 |one (c:b_)
 |agg (cs:dk)
 |tup (vs:List V)
 deriving Inhabited
variable{v:V}
abbrev c7:=List V
variable{Z:c7}
inductive eN where
 |var (cs:dk)
 |arr (ty sz:Nat) (es:dC)
 |gT (ty sz:Nat) (es:List dk)
 |map (ag:Bool) (es:cL)
 |fvar (cs:c_)
 |lW (ty sz:Nat) (es:dC)
 |fmap (ag:Bool) (es:cL)
 deriving Inhabited
abbrev bD:=Nat->V
variable{q:bD}
abbrev aB:=Nat->Nat×Option eN
def cQ{α:Type}(f:Nat->α)(a:Nat)(x:α):Nat->α:=λi=>if i=a then x else f i
theorem bj{α:Type}(f:Nat->α)(a b:Nat)(x:α):cQ f a x b=if b=a then x else f b:=rfl
inductive dR where
 |t (n:Nat)
 |i (n:Int)
 |b (x:Bool)
 |k (v:V)
variable{y c' X y' i':dR}{zQ v7:Option dR}{qs:List (Nat×Nat×dR)}
abbrev kH:=List dR
inductive r_ where
 |bool|ptr|slc|map|fnc|ifc
 |str (ks:eo)
inductive nK where
 |mj (x:dR)
 |pick (c a b:dR)
 |alloc (site:Nat) (z:c_)
 |box (site:Nat) (x:dR)
 |build (z:c_) (parts:List (Nat×Nat×dR))
 |Hr (site ty sz:Nat) (parts:kH)
 |load (k:my) (x:dR)
 |store (n:Nat) (a x:dR)
 |Jw (x:dR)
 |bin (op:BinOp) (x y:dR)
 |eqc (k:r_) (neg:Bool) (x y:dR)
 |un (op:UnOp) (x:dR)
 |conv (k:IntKind) (x:dR)
 |bstr (x:dR)
 |mkfn (f:Nat) (first cap:kH)
 |mkmap (site:Nat) (ag:Bool)
 |Jq (site ty sz bytes:Nat) (z:c_) (len cap:dR)
 |slice (sz:Nat) (x:dR) (lo hi:Option dR)
 |sslice (x:dR) (lo hi:Option dR)
 |xK (off:Nat) (x:dR)
 |Jc (sz:Nat) (x i:dR)
 |G0 (len sz:Nat) (x i:dR)
 |fld (off:Nat) (k:my) (x:dR)
 |aidx (len sz:Nat) (k:my) (x i:dR)
 |sidx (x i:dR)
 |lookup (kd:Nat) (z:c_) (agg ok:Bool) (x k:dR)
 |mupd (kd:Nat) (ag:Bool) (m k v:dR)
 |bad
 |extract (x:dR) (i:Nat)
 |call (site:Nat) (f:dR) (args:kH)
 |slen (x:dR)
 |Mh (x:dR)
 |mlen (x:dR)
 |append (site ty sz bytes:Nat) (s x:dR)
 |max (x y:dR)
 |min (x y:dR)
 |clear (z:c_) (x:dR)
structure iC where
 dst:my
 op:nK
 guard:Option (Nat×Bool)
 anc:Nat
abbrev en:=List iC
variable{ops:en}
inductive aO where
 |skip
 |region (draw:Bool) (ops:en)
 |seq (a b:aO)
 |cond (x:dR) (a b:aO)
 |block (id:Nat) (c:aO)
 |loop (c:aO)
 |exit (id:Nat)
 |ret
 |bad
structure aU where
 ntmps:Nat
 results:List (Nat×Option my)
 body:aO
def ev (q:bD):dR->V
 | .t n=>q n
 | .i n=>.one (.p (.int .i64 n))
 | .b x=>.one (.p (.bool x))
 | .k v=>v
abbrev abY:=Nat×(Nat×Option eN)
abbrev iB:=List abY
variable{u:iB}
def app:iB->aB->aB
 |[],b=>b
 |(i,o)::r,b=>app r (cQ b i o)
def PV.norm:PV->PV
 | .nils=>.sl []
 | .zs=>.sl []
 |v=>v
def LG:b_->Option PV
 | .p v=>some v.norm
 |_=>none
def xc:dk->Option c_
 |[]=>some []
 |c::r=>match LG c,xc r with
  |some v,some D=>some (v::D)
  |_,_=>none
def qp:V->Option dk
 | .one c=>some [c]
 | .agg A=>some A
 |_=>none
def fk{α β:Type}(f:α->Option (β×aA)):List α->Option (List β×aA)
 |[]=>some ([],[])
 |a::r=>match f a,fk f r with
  |some (b,x),some (B,y)=>some (b::B,x++y)
  |_,_=>none
def snap(blk:aB):Nat->b_->Option (PV×aA)
 |0,_=>none
 |n+1,c=>match c with
  | .p v=>some (v.norm,[])
  | .bg id g B=>match blk id with
   |(h,some (.var A))=>if h=g then
     match fk (snap blk n) A with
     |some (ps,r)=>some (.box (ps.drop B),id::r)
     |none=>none
    else none
   |(h,some (.fvar ps))=>if h=g then some (.box (ps.drop B),[id])else none
   |_=>none
  | .dr id g i B=>match blk id with
   |(h,some (.arr _ _ j))=>if h=g then(j[i]?).map λe=>(.box (e.drop B),[id])else none
   |(h,some (.lW _ _ j))=>if h=g then(j[i]?).map λe=>(.box (e.drop B),[id])else none
   |_=>none
  | .hsl id g z B len=>match blk id with
   |(h,some (.arr _ _ j))=>if h=g/\B+len<=I j then some (.sl ((j.drop B).take len),[id])else none
   |(h,some (.lW _ _ j))=>if h=g/\B+len<=I j then some (.sl ((j.drop B).take len),[id])else none
   |(h,some (.gT _ _ j))=>if h=g/\B+len<=I j then
     match fk (fk (snap blk n)) ((j.drop B).take len)with
     |some (ps,r)=>some (.sl ps,id::r)
     |none=>none
    else none
   |_=>none
  | .km id g=>match blk id with
   |(h,some (.map m j))=>if h=g then some (.mp m j,[id])else none
   |(h,some (.fmap m j))=>if h=g then some (.mp m j,[id])else none
   |_=>none
  | .hfn f a b=>match fk (snap blk n) a,fk (snap blk n) b with
   |some (x,r),some (y,s)=>some (.fn f x y,r++s)
   |_,_=>none
def dS:Nat:=6
def lI(blk:aB):V->Option (V×aA)
 | .one c=>(snap blk dS c).map λ(v,r)=>(.one (.p v),r)
 | .agg A=>(fk (snap blk dS) A).map λ(D,r)=>(.agg (D.map .p),r)
 |_=>none
def sR(blk:aB)(all:aA)(id:Nat):Option iB:=
 match blk id with
 |(f,some (.var A))=>match fk (snap blk dS) A with
  |some (ps,r)=>if r.all all.contains then some [(id,(f,some (.fvar ps)))]else none
  |none=>none
 |(f,some (.arr F g j))=>some [(id,(f,some (.lW F g j)))]
 |(f,some (.gT F g j))=>match fk (fk (snap blk dS)) j with
  |some (ps,r)=>if r.all all.contains then some [(id,(f,some (.lW F g ps)))]else none
  |none=>none
 |(f,some (.map h j))=>some [(id,(f,some (.fmap h j)))]
 |(_,none)=>none
 |_=>some []
def pT(blk:aB)(all:aA):aA->Option iB
 |[]=>some []
 |i::r=>match sR blk all i,pT blk all r with
  |some a,some b=>some (a++b)
  |_,_=>none
def oa(blk:aB)(ids:aA):Option iB:=pT blk ids ids
inductive kj where
 |p (v:PV)
 |own (ty sz:Nat) (es:dC)
 deriving Inhabited
abbrev lD:=List kj
inductive RV where
 |one (c:kj)
 |agg (cs:lD)
 |tup (vs:List RV)
 deriving Inhabited
variable{r:RV}
def kj.pure:kj->kj
 | .p v=>.p v
 | .own _ _ j=>.p (.sl j)
def RV.DJ:RV->RV
 | .one c=>.one c.pure
 | .agg A=>.agg (A.map kj.pure)
 | .tup D=>.tup D
def RV.pure:RV->RV
 | .tup D=>.tup (D.map RV.DJ)
 |v=>v.DJ
def RV.eU(b:Bool)(r:RV):RV:=match b with
 |true=>r.pure
 |false=>r
def PV.scalar:PV->Bool
 | .bool _| .int _ _| .str _| .uu| .nils| .oE| .tj| .nili| .ifc| .zs=>true
 |_=>false
def kj.alone:kj->Bool
 | .p v=>v.scalar
 | .own _ _ j=>j.all λe=>e.all PV.scalar
def iZ(blk:aB)(c:b_):Option (kj×aA×aA):=
 match c with
 | .p v=>some (.p v,[],[])
 | .hsl id h z 0 len=>match blk id with
  |(f,some (.arr F g j))=>if f=h/\len<=I j then some (.own F g (j.take len),[id],[])else none
  |_=>(snap blk dS c).map λ(v,r)=>(.p v,[],r)
 |_=>(snap blk dS c).map λ(v,r)=>(.p v,[],r)
def kQ(blk:aB):dk->Option (lD×aA×aA)
 |[]=>some ([],[],[])
 |c::r=>match iZ blk c,kQ blk r with
  |some (x,o,q),some (M,os,qs)=>some (x::M,o++os,q++qs)
  |_,_=>none
def lJ:V->Option dk
 | .one c=>some [c]
 | .agg A=>some A
 |_=>none
def rl:c7->Option dk
 |[]=>some []
 |v::r=>match lJ v,rl r with
  |some a,some b=>some (a++b)
  |_,_=>none
def pn:V->Option dk
 | .tup D=>rl D
 |v=>lJ v
def qf:V->lD->RV×lD
 | .one _,r::rs=>(.one r,rs)
 | .agg A,rs=>(.agg (rs.take (I A)),rs.drop (I A))
 |_,rs=>(.agg [],rs)
def BY:c7->lD->List RV
 |[],_=>[]
 |v::r,rs=>(qf v rs).1::BY r (qf v rs).2
def sr:V->lD->RV
 | .tup D,rs=>.tup (BY D rs)
 |v,rs=>(qf v rs).1
def pE:aA->aA->Bool
 |[],_=>true
 |i::r,q=> !r.contains i&& !q.contains i&&pE r q
def hJ(blk:aB)(v:V):Option RV:=
 match pn v with
 |some A=>match kQ blk A with
  |some (x,o,q)=>if pE o q then some (sr v x)else none
  |none=>none
 |none=>none
def ej(blk:aB)(f:Nat):kj->b_×iB
 | .p v=>(.p v,[])
 | .own F g j=>(.hsl f ((blk f).1+1) g 0 (I j),[(f,((blk f).1+1,some (.arr F g j)))])
def jo(blk:aB)(f:Nat):lD->dk×iB
 |[]=>([],[])
 |c::r=>((ej blk f c).1::(jo blk (f+1) r).1,(ej blk f c).2++(jo blk (f+1) r).2)
def jW:RV->lD
 | .one c=>[c]
 | .agg A=>A
 | .tup _=>[]
def pO:List RV->lD
 |[]=>[]
 |v::r=>jW v++pO r
def js:RV->lD
 | .tup D=>pO D
 |v=>jW v
def m_:RV->dk->V×dk
 | .one _,c::A=>(.one c,A)
 | .agg rs,A=>(.agg (A.take (I rs)),A.drop (I rs))
 |_,A=>(.undef,A)
def rr:List RV->dk->c7
 |[],_=>[]
 |v::r,A=>(m_ v A).1::rr r (m_ v A).2
def rF:RV->dk->V
 | .tup D,A=>.tup (rr D A)
 |v,A=>(m_ v A).1
def RV.alone(r:RV):Bool:=(js r).all kj.alone
def gX(blk:aB)(f:Nat)(r:RV):V×iB:=(rF r (jo blk f (js r)).1,(jo blk f (js r)).2)
inductive vv where
 |fail
 |done (v:V) (u:iB) (rd:aA)
 |pc (f:Nat) (args:c7) (rd:aA) (site:Nat)
 |sc (f:Nat) (args:c7)
def x_(blk:aB):V->Option (dk×aA)
 | .one (.p (.box A))=>some (A.map .p,[])
 | .one (.bg id g B)=>match blk id with
  |(f,some (.var A))=>if f=g then some (A.drop B,[id])else none
  |(f,some (.fvar A))=>if f=g then some ((A.drop B).map .p,[id])else none
  |_=>none
 | .one (.dr id g i B)=>match blk id with
  |(f,some (.arr _ _ j))=>if f=g then(j[i]?).map λe=>((e.drop B).map .p,[id])else none
  |(f,some (.lW _ _ j))=>if f=g then(j[i]?).map λe=>((e.drop B).map .p,[id])else none
  |(f,some (.gT _ _ j))=>if f=g then(j[i]?).map λe=>(e.drop B,[id])else none
  |_=>none
 |_=>none
def ob(k:my)(A:dk):Option V:=
 match k with
 |none=>match A with
  |c::_=>some (.one c)
  |[]=>none
 |some n=>if n<=I A then some (.agg (A.take n))else none
def ez{α:Type}(A:List α)(B:Nat)(M:List α):List α:=A.take B++M++A.drop (B+I M)
def vH(blk:aB)(a:V)(n:Nat)(M:dk):vv:=
 if I M≠n then .fail else
 match a with
 | .one (.bg id h B)=>match blk id with
  |(f,some (.var A))=>if f=h/\B+n<=I A then .done .undef [(id,(h,some (.var (ez A B M))))] [id]else .fail
  |_=>.fail
 | .one (.dr id h i B)=>match blk id with
  |(f,some (.arr F g j))=>match j[i]?,xc M with
   |some e,some ps=>if f=h/\B+n<=I e then .done .undef [(id,(h,some (.arr F g (j.set i (ez e B ps)))))] [id]else .fail
   |_,_=>.fail
  |_=>.fail
 |_=>.fail
def eO(blk:aB):V->Option (dC×aA×aA)
 | .one (.p .nils)=>some ([],[],[])
 | .one (.p (.sl j))=>some (j,[],[])
 | .one (.hsl id g z B len)=>match blk id with
  |(f,some (.arr _ _ j))=>if f=g/\B+len<=I j then some ((j.drop B).take len,[id],[])else none
  |(f,some (.lW _ _ j))=>if f=g/\B+len<=I j then some ((j.drop B).take len,[id],[])else none
  |(f,some (.gT _ _ j))=>if f=g/\B+len<=I j then
    match fk (fk (snap blk dS)) ((j.drop B).take len)with
    |some (ps,r)=>some (ps,[id],r)
    |none=>none
   else none
  |_=>if len=0 then some ([],[id],[])else none
 |_=>none
def ao(g:Nat)(j:dC):Bool:=j.all λe=>I e==g
def lK:V->my
 | .one (.hsl _ _ z _ _)=>some z
 |_=>none
def kK:Nat:=140737488355328
def ae(blk:aB)(f F g bytes:Nat)(s x:V):vv:=
 match eO blk x with
 |none=>.fail
 |some (new,rd,fr)=>
  if¬(lK x=some g\/ao g new)then .fail else
  match oa blk fr with
  |none=>.fail
  |some h=>
   match s with
   | .one (.p .nils)=>
    if I new=0 then .done (.one (.p .nils)) h (rd++fr)else
    if I new*bytes<=kK then
     .done (.one (.hsl f ((blk f).1+1) g 0 (I new))) (h++[(f,((blk f).1+1,some (.arr F g new)))]) (f::rd++fr)
    else .fail
   | .one (.p .zs)=>
    if I new=0 then .fail else
    if I new*bytes<=kK then
     .done (.one (.hsl f ((blk f).1+1) g 0 (I new))) (h++[(f,((blk f).1+1,some (.arr F g new)))]) (f::rd++fr)
    else .fail
   | .one (.hsl id q z 0 len)=>match blk id with
    |(n,some (.arr m D j))=>
     if n=q/\m=F/\D=g/\len<=I j/\(len+I new)*bytes<=kK/\fr.contains id=false then
      .done (.one (.hsl f ((blk f).1+1) g 0 (len+I new)))
       (h++[(id,(q,none)),(f,((blk f).1+1,some (.arr F g (j.take len++new))))]) (f::id::rd++fr)
     else .fail
    |_=>.fail
   |_=>.fail
def oF:V->my
 | .one (.p (.int _ n))=>if 0<=n then some n.toNat else none
 |_=>none
def qB(q:bD)(d:Nat):Option dR->my
 |none=>some d
 |some a=>oF (ev q a)
def yP(x:V)(g lo H:Nat):vv:=
 if¬lo<=H then .fail else
 match x with
 | .one (.p .nils)=>if H=0 then .done (.one (.p .nils)) [] []else .fail
 | .one (.p (.sl j))=>if H<=I j/\ao g j=true then .done (.one (.p (.sl ((j.drop lo).take (H-lo))))) [] []else .fail
 | .one (.hsl id f z B len)=>if H<=len/\z=g then .done (.one (.hsl id f z (B+lo) (H-lo))) [] []else .fail
 |_=>.fail
def vO:V->my
 | .one (.p .nils)=>some 0
 | .one (.p (.sl j))=>some (I j)
 | .one (.hsl _ _ _ _ len)=>some len
 |_=>none
def pM(blk:aB):V->Option (Nat×aA)
 | .one (.p .oE)=>some (0,[])
 | .one (.p (.mp _ j))=>some (I j,[])
 | .one (.km id g)=>match blk id with
  |(f,some (.map _ j))=>if f=g then some (I j,[id])else none
  |(f,some (.fmap _ j))=>if f=g then some (I j,[id])else none
  |_=>none
 |_=>none
def lh(blk:aB)(A:Bool):V->Option (cL×aA)
 | .one (.p .oE)=>some ([],[])
 | .one (.p (.mp q j))=>if q=A then some (j,[])else none
 | .one (.km id g)=>match blk id with
  |(f,some (.map q j))=>if f=g/\q=A then some (j,[id])else none
  |(f,some (.fmap q j))=>if f=g/\q=A then some (j,[id])else none
  |_=>none
 |_=>none
def BB:PV->PV->Option Bool
 | .int k a,.int f b=>if k=f then some (a==b)else none
 | .str a,.str b=>some (a==b)
 | .bool a,.bool b=>some (a==b)
 |_,_=>none
def jd:PV->Nat
 | .int _ _=>0
 | .str _=>1
 | .bool _=>2
 |_=>3
def lf:Bool->c_->Option V
 |true,A=>some (.agg (A.map .p))
 |false,[c]=>some (.one (.p c))
 |false,_=>none
def uN(k:PV):cL->Nat->Option (Option (Nat×c_))
 |[],_=>some none
 |(a,v)::r,i=>match BB k a with
  |some true=>some (some (i,v))
  |some false=>uN k r (i+1)
  |none=>none
def sI:Bool->V->Option dk
 |false,.one c=>some [c]
 |true,.agg A=>some A
 |_,_=>none
def EN(op:BinOp)(k:IntKind)(a b:Int):Option PV:=
 match op with
 | .add=>some (.int k (k.wrap (a+b)))
 | .sub=>some (.int k (k.wrap (a-b)))
 | .mul=>some (.int k (k.wrap (a*b)))
 | .quo=>if b=0 then none else some (.int k (k.wrap (a.tdiv b)))
 | .rem=>if b=0 then none else some (.int k (a.tmod b))
 | .eql=>some (.bool (a==b))
 | .neq=>some (.bool (a !=b))
 | .lss=>some (.bool (decide (a<b)))
 | .leq=>some (.bool (decide (a<=b)))
 | .gtr=>some (.bool (decide (b<a)))
 | .geq=>some (.bool (decide (b<=a)))
 | .and=>some (.int k (k.wrap (BitVec.ofInt k.bits a&&& BitVec.ofInt k.bits b).toNat))
 | .shl=>if b<0 then none else some (.int k (k.wrap (a*2 ^ min b.toNat k.bits)))
 | .shr=>if b<0 then none else some (.int k (a.fdiv (2 ^ min b.toNat k.bits)))
 |_=>none
def xf(op:BinOp)(a b:ByteArray):Option PV:=
 match op with
 | .add=>if a.size+b.size<=9223372036854775807 then some (.str (a++b))else none
 | .eql=>some (.bool (a.toList==b.toList))
 | .neq=>some (.bool (!(a.toList==b.toList)))
 |_=>none
def Ls(op:BinOp):V->V->Option V
 | .one (.p (.int k a)),.one (.p (.int f b))=>if k=f\/op=.shl\/op=.shr then(EN op k a b).map λv=>.one (.p v)else none
 | .one (.p (.str a)),.one (.p (.str b))=>(xf op a b).map λv=>.one (.p v)
 |_,_=>none
def k_:Bool->PV->PV->Option Bool
 |true,.int k a,.int f b=>if k=f then some (a==b)else none
 |false,.bool a,.bool b=>some (a==b)
 |_,_,_=>none
def kV:eo->dk->dk->Option Bool
 |[],[],[]=>some true
 |k::f,.p a::r,.p b::s=>match k_ k a b with
  |some true=>kV f r s
  |some false=>some false
  |none=>none
 |_,_,_=>none
def BJ:r_->V->Option Bool
 | .ptr,.one (.p .uu)=>some true
 | .ptr,.one (.p (.box _))=>some false
 | .ptr,.one (.bg _ _ _)=>some false
 | .ptr,.one (.dr _ _ _ _)=>some false
 | .slc,.one (.p .nils)=>some true
 | .slc,.one (.p (.sl (_::_)))=>some false
 | .slc,.one (.hsl _ _ _ _ _)=>some false
 | .map,.one (.p .oE)=>some true
 | .map,.one (.p (.mp _ _))=>some false
 | .map,.one (.km _ _)=>some false
 | .fnc,.one (.p .tj)=>some true
 | .fnc,.one (.p (.fn _ _ _))=>some false
 | .fnc,.one (.hfn _ _ _)=>some false
 | .ifc,.one (.p .nili)=>some true
 | .ifc,.one (.p .ifc)=>some false
 |_,_=>none
def Ae:r_->V->V->Option Bool
 | .bool,.one (.p (.bool a)),.one (.p (.bool b))=>some (a==b)
 | .str f,.agg a,.agg b=>kV f a b
 | .bool,_,_=>none
 | .str _,_,_=>none
 |k,a,b=>if BJ k b=some true then BJ k a else if BJ k a=some true then BJ k b else none
def yK(A:dk):List (Nat×dk)->dk
 |[]=>A
 |(B,M)::r=>yK (ez A B M) r
def vi(q:bD):List (Nat×Nat×dR)->Option (List (Nat×dk))
 |[]=>some []
 |(B,n,a)::r=>match qp (ev q a),vi q r with
  |some A,some Q=>if I A=n then some ((B,A)::Q)else none
  |_,_=>none
def wI(q:bD)(g:Nat):kH->Option (List dk)
 |[]=>some []
 |a::r=>match qp (ev q a),wI q g r with
  |some A,some Q=>if I A=g then some (A::Q)else none
  |_,_=>none
def w5:List dk->Option dC
 |[]=>some []
 |c::r=>match xc c,w5 r with
  |some v,some D=>some (v::D)
  |_,_=>none
def AG(q:bD)(a:dR):Option (Nat×dk×dk):=
 match ev q a with
 | .one (.p (.fn f x y))=>some (f,x.map .p,y.map .p)
 | .one (.hfn f x y)=>some (f,x,y)
 |_=>none
def xR(blk:aB):c7->Option (c7×aA):=fk (lI blk)
def DX:dC->Option oU
 |[]=>some []
 |[.int .u8 n]::r=>(DX r).map (UInt8.ofNat n.toNat:: ·)
 |_::_=>none
def tp(q:bD):kH->Option dk
 |[]=>some []
 |a::r=>match ev q a,tp q r with
  | .one c,some Q=>some (c::Q)
  |_,_=>none
def bU(shared:Nat->Bool)(q:bD)(blk:aB):nK->vv
 | .mj x=>.done (ev q x) [] []
 | .pick c a b=>match ev q c with
  | .one (.p (.bool t))=>.done (if t then ev q a else ev q b) [] []
  |_=>.fail
 | .alloc s z=>.done (.one (.bg s ((blk s).1+1) 0)) [(s,((blk s).1+1,some (.var (z.map .p))))] [s]
 | .box s x=>match qp (ev q x)with
  |some A=>.done (.one (.bg s ((blk s).1+1) 0)) [(s,((blk s).1+1,some (.var A)))] [s]
  |none=>.fail
 | .build z ps=>match vi q ps with
  |some Q=>.done (.agg (yK (z.map .p) Q)) [] []
  |none=>.fail
 | .Hr s F g ps=>match wI q g ps with
  |some j=>match w5 j with
   |some qs=>.done (.one (.hsl s ((blk s).1+1) g 0 (I j))) [(s,((blk s).1+1,some (.arr F g qs)))] [s]
   |none=>.done (.one (.hsl s ((blk s).1+1) g 0 (I j))) [(s,((blk s).1+1,some (.gT F g j)))] [s]
  |none=>.fail
 | .load k x=>match x_ blk (ev q x)with
  |some (A,r)=>match ob k A with
   |some v=>.done v [] r
   |none=>.fail
  |none=>.fail
 | .store n a x=>match qp (ev q x)with
  |some M=>vH blk (ev q a) n M
  |none=>.fail
 | .Jw x=>match ev q x with
  | .one (.bg id u o)=>.done (.one (.bg id u o)) [] []
  | .one (.dr id u i o)=>.done (.one (.dr id u i o)) [] []
  | .one (.p (.box A))=>.done (.one (.p (.box A))) [] []
  | .one (.hfn f a b)=>.done (.one (.hfn f a b)) [] []
  | .one (.p (.fn f a b))=>.done (.one (.p (.fn f a b))) [] []
  |_=>.fail
 | .bin op x y=>match Ls op (ev q x) (ev q y)with
  |some v=>.done v [] []
  |none=>.fail
 | .eqc k O x y=>match Ae k (ev q x) (ev q y)with
  |some b=>.done (.one (.p (.bool (if O then !b else b)))) [] []
  |none=>.fail
 | .un op x=>match op,ev q x with
  | .not,.one (.p (.bool b))=>.done (.one (.p (.bool (!b)))) [] []
  | .neg,.one (.p (.int k n))=>.done (.one (.p (.int k (k.wrap (0-n))))) [] []
  |_,_=>.fail
 | .conv k x=>match ev q x with
  | .one (.p (.int _ n))=>.done (.one (.p (.int k (k.wrap n)))) [] []
  |_=>.fail
 | .bstr x=>match eO blk (ev q x)with
  |some (j,r,[])=>match DX j with
   |some T=>.done (.one (.p (.str ⟨T.toArray⟩))) [] r
   |none=>.fail
  |_=>.fail
 | .mkfn f a b=>match tp q a,tp q b with
  |some x,some y=>.done (.one (.hfn f x y)) [] []
  |_,_=>.fail
 | .mkmap s E=>.done (.one (.km s ((blk s).1+1))) [(s,((blk s).1+1,some (.map E [])))] [s]
 | .Jq s F g bytes z l c=>match oF (ev q l),oF (ev q c)with
  |some n,some m=>if n=m/\n*bytes<=kK then
    .done (.one (.hsl s ((blk s).1+1) g 0 n)) [(s,((blk s).1+1,some (.arr F g (List.replicate n z))))] [s]
   else .fail
  |_,_=>.fail
 | .slice g x lo H=>match vO (ev q x)with
  |some n=>match qB q 0 lo,qB q n H with
   |some l,some h=>yP (ev q x) g l h
   |_,_=>.fail
  |none=>.fail
 | .sslice x lo H=>match ev q x with
  | .one (.p (.str s))=>match qB q 0 lo,qB q s.size H with
   |some l,some h=>if l<=h/\h<=s.size then .done (.one (.p (.str (s.extract l h)))) [] []else .fail
   |_,_=>.fail
  |_=>.fail
 | .xK B x=>match ev q x with
  | .one (.bg id u o)=>.done (.one (.bg id u (o+B))) [] []
  | .one (.dr id u i o)=>.done (.one (.dr id u i (o+B))) [] []
  | .one (.p (.box A))=>.done (.one (.p (.box (A.drop B)))) [] []
  |_=>.fail
 | .Jc g x i=>match oF (ev q i),ev q x with
  |some n,.one (.p (.sl j))=>match j[n]? with
   |some e=>if I e=g then .done (.one (.p (.box e))) [] []else .fail
   |none=>.fail
  |some n,.one (.hsl id u z B len)=>if n<len/\z=g then .done (.one (.dr id u (B+n) 0)) [] []else .fail
  |_,_=>.fail
 | .G0 len g x i=>match oF (ev q i),ev q x with
  |some n,.one (.bg id u o)=>if n<len then .done (.one (.bg id u (o+n*g))) [] []else .fail
  |some n,.one (.dr id u X o)=>if n<len then .done (.one (.dr id u X (o+n*g))) [] []else .fail
  |some n,.one (.p (.box A))=>if n<len then .done (.one (.p (.box (A.drop (n*g))))) [] []else .fail
  |_,_=>.fail
 | .fld B k x=>match ev q x with
  | .agg A=>match ob k (A.drop B)with
   |some v=>.done v [] []
   |none=>.fail
  |_=>.fail
 | .aidx len g k x i=>match oF (ev q i),ev q x with
  |some n,.agg A=>if n<len then
    match ob k (A.drop (n*g))with
    |some v=>.done v [] []
    |none=>.fail
   else .fail
  |_,_=>.fail
 | .sidx x i=>match oF (ev q i),ev q x with
  |some n,.one (.p (.str s))=>match s[n]? with
   |some b=>.done (.one (.p (.int .u8 b.toNat))) [] []
   |none=>.fail
  |_,_=>.fail
 | .lookup N z agg ok x k=>match lh blk agg (ev q x),ev q k with
  |some (j,r),.one (.p Q)=>if jd Q≠N then .fail else match uN Q j 0 with
   |some f=>match lf agg ((f.map (·.2)).getD z)with
    |some w=>.done (if ok then .tup [w,.one (.p (.bool f.isSome))]else w) [] r
    |none=>.fail
   |none=>.fail
  |_,_=>.fail
 | .bad=>.fail
 | .mupd N E m k v=>match ev q m,ev q k,sI E (ev q v)with
  | .one (.km id u),.one (.p Q),some A=>match blk id,xc A with
   |(L,some (.map R j)),some ps=>if L=u/\R=E/\jd Q=N then
     match uN Q j 0 with
     |some (some (i,_))=>.done .undef [(id,(u,some (.map E (j.set i (Q,ps)))))] [id]
     |some none=>.done .undef [(id,(u,some (.map E (j++[(Q,ps)]))))] [id]
     |none=>.fail
    else .fail
   |_,_=>.fail
  |_,_,_=>.fail
 | .extract x i=>match ev q x with
  | .tup D=>match D[i]? with
   |some v=>.done v [] []
   |none=>.fail
  |_=>.fail
 | .call s f as=>match AG q f with
  |some (u,a,b)=>
   if shared u then .sc u (a.map .one++as.map (ev q)++b.map .one)
   else match xR blk (a.map .one++as.map (ev q)++b.map .one)with
    |some (D,r)=>.pc u D r s
    |none=>.fail
  |none=>.fail
 | .slen x=>match ev q x with
  | .one (.p (.str s))=>.done (.one (.p (.int .i64 s.size))) [] []
  |_=>.fail
 | .Mh x=>match vO (ev q x)with
  |some n=>.done (.one (.p (.int .i64 n))) [] []
  |none=>.fail
 | .mlen x=>match pM blk (ev q x)with
  |some (n,r)=>.done (.one (.p (.int .i64 n))) [] r
  |none=>.fail
 | .append s F g bytes d x=>ae blk s F g bytes (ev q d) (ev q x)
 | .max x y=>match ev q x,ev q y with
  | .one (.p (.int k a)),.one (.p (.int _ b))=>.done (.one (.p (.int k (if b>a then b else a)))) [] []
  |_,_=>.fail
 | .min x y=>match ev q x,ev q y with
  | .one (.p (.int k a)),.one (.p (.int _ b))=>.done (.one (.p (.int k (if b<a then b else a)))) [] []
  |_,_=>.fail
 | .clear z x=>match ev q x with
  | .one (.p .nils)=>.done (.tup []) [] []
  | .one (.p (.sl []))=>.done (.tup []) [] []
  | .one (.hsl id u _ B len)=>if len=0 then .done (.tup []) [] []else match blk id with
   |(L,some (.arr F g j))=>if L=u/\g=I z/\B+len<=I j then .done (.tup []) [(id,(u,some (.arr F g (ez j B (List.replicate len z)))))] [id]else .fail
   |_=>.fail
  |_=>.fail
structure fP where
 rd:aA
 wr:aA
 fs:aA
abbrev eI:=List fP
variable{R:bD->aB->eI->Prop}
structure bP where
 any:Bool
 ids:aA
 fs:aA
def bP.all:bP:=⟨true,[],[]⟩
def lG(id:Nat):Nat:=id/64000000
def bP.ok(a:bP)(id:Nat):Bool:=a.any||a.ids.contains id||a.fs.contains (lG id)
def bP.fG(a:bP)(l:aA):Bool:=l.all a.ok
def bP.holds(a b:bP):Bool:=a.any||(a.fG b.ids&&b.fs.all a.fs.contains)
structure jH where
 shared:Nat->Bool
 sites:Nat->aA
 lone:Nat->Bool
 al:bP
def kP(blk:aB):Nat->b_->aA
 |0,_=>[]
 |n+1,c=>match c with
  | .p _=>[]
  | .bg id _ _=>id::match blk id with
   |(_,some (.var A))=>(A.map (kP blk n)).flatten
   |_=>[]
  | .dr id _ _ _=>id::match blk id with
   |(_,some (.gT _ _ j))=>(j.flatten.map (kP blk n)).flatten
   |_=>[]
  | .hsl id _ _ _ _=>id::match blk id with
   |(_,some (.gT _ _ j))=>(j.flatten.map (kP blk n)).flatten
   |_=>[]
  | .km id _=>[id]
  | .hfn _ a b=>(a.map (kP blk n)).flatten++(b.map (kP blk n)).flatten
def kr(blk:aB):V->aA
 | .one c=>kP blk dS c
 | .agg A=>(A.map (kP blk dS)).flatten
 |_=>[]
def gr(T:jH)(f:Nat)(D:c7)(blk:aB):bP:=⟨false,(D.map (kr blk)).flatten,T.sites f⟩
def dx(q:bD)(d:my)(v:V):bD:=
 match d with
 |some t=>cQ q t v
 |none=>q
abbrev iH:=Nat->c7->Option RV
abbrev nn:=Nat->c7->bP->aB->Option (V×aB)
def d_(blk:aB)(rd:aA)(f:Nat)(r:RV):Option (V×iB):=
 if rd=[]\/r.alone then some (gX blk f r)
 else match oa blk rd with
  |some u=>some ((gX blk f r).1,u++(gX blk f r).2)
  |none=>none
def n0(q:bD):Option (Nat×Bool)->Option Bool
 |none=>some true
 |some (t,f)=>match q t with
  | .one (.p (.bool b))=>some (b==f)
  | .undef=>some false
  |_=>none
def jy(T:jH)(cp:iH)(A:nn)(o:iC)(q:bD)(blk:aB):Option (bD×aB×fP):=
 match n0 q o.guard with
 |none=>none
 |some false=>some (dx q o.dst .undef,blk,⟨[],[],[]⟩)
 |some true=>match bU T.shared q blk o.op with
  | .fail=>none
  | .done v u r=>if T.al.fG (r++u.map (·.1))then some (dx q o.dst v,app u blk,⟨r,u.map (·.1),[]⟩)else none
  | .pc f D r s=>match cp f D with
   |some x=>match d_ blk r s (x.eU (T.lone s))with
    |some (v,u)=>if T.al.fG (r++u.map (·.1))then some (dx q o.dst v,app u blk,⟨r++u.map (·.1),u.map (·.1),[]⟩)else none
    |none=>none
   |none=>none
  | .sc f D=>if T.al.holds (gr T f D blk)then
    match A f D (gr T f D blk) blk with
    |some (v,g)=>some (dx q o.dst v,g,⟨(gr T f D blk).ids,(gr T f D blk).ids,(gr T f D blk).fs⟩)
    |none=>none
   else none
def gw(T:jH)(cp:iH)(A:nn):en->bD->aB->Option (bD×aB×eI)
 |[],q,blk=>some (q,blk,[])
 |o::r,q,blk=>match jy T cp A o q blk with
  |some (f,g,e)=>match gw T cp A r f g with
   |some (O,y,j)=>some (O,y,e::j)
   |none=>none
  |none=>none
def rH(a b:aA):Bool:=a.any λi=>b.contains i
def AO(fs ids:aA):Bool:=ids.any λi=>fs.contains (lG i)
def BN(a b:fP):Bool:=rH a.wr b.rd||rH a.wr b.wr||rH a.rd b.wr||rH a.fs b.fs||AO a.fs (b.rd++b.wr)||AO b.fs (a.rd++a.wr)
def JF(anc:Nat)(e:fP):Nat->eI->Bool
 |_,[]=>true
 |j,x::r=>(anc.testBit j|| !BN x e)&&JF anc e (j+1) r
def o7:en->eI->eI->Bool
 |o::os,f,e::j=>JF o.anc e 0 f&&o7 os (f++[e]) j
 |_,_,_=>true
inductive lg where
 |normal
 |exit (id:Nat)
 |ret
def jM(f:bD->aB->Option (lg×bD×aB)):Nat->bD->aB->Option (lg×bD×aB)
 |0,_,_=>none
 |n+1,q,blk=>match f q blk with
  |some (.normal,A,g)=>jM f n A g
  |r=>r
def c3(T:jH)(cp:iH)(A:nn)(n:Nat):aO->bD->aB->Option (lg×bD×aB)
 | .skip,q,blk=>some (.normal,q,blk)
 | .region d ops,q,blk=>match gw T cp A ops q blk with
  |some (f,g,j)=>if d then(if o7 ops [] j then some (.normal,f,g)else none)else some (.normal,f,g)
  |none=>none
 | .seq a b,q,blk=>match c3 T cp A n a q blk with
  |some (.normal,f,g)=>c3 T cp A n b f g
  |r=>r
 | .cond x a b,q,blk=>match ev q x with
  | .one (.p (.bool t))=>if t then c3 T cp A n a q blk else c3 T cp A n b q blk
  |_=>none
 | .block id c,q,blk=>match c3 T cp A n c q blk with
  |some (.exit i,f,g)=>if i=id then some (.normal,f,g)else some (.exit i,f,g)
  |r=>r
 | .loop c,q,blk=>jM (c3 T cp A n c) n q blk
 | .exit id,q,blk=>some (.exit id,q,blk)
 | .ret,q,blk=>some (.ret,q,blk)
 | .bad,_,_=>none
def oh(Z:c7):bD:=λi=>Z.getD i .undef
def LD:V->Option V
 | .tup _=>none
 |v=>some v
def mq(al:bP)(q:bD)(blk:aB):List (Nat×Option my)->Option c7
 |[]=>some []
 |(t,none)::r=>match LD (q t),mq al q blk r with
  |some v,some Q=>some (v::Q)
  |_,_=>none
 |(t,some k)::r=>match x_ blk (q t),mq al q blk r with
  |some (A,rd),some Q=>if al.fG rd then(ob k A).map (· ::Q)else none
  |_,_=>none
def uE:c7->V
 |[v]=>v
 |D=>.tup D
def vQ:aB:=λ_=>(0,none)
def nL(T:jH)(cp:iH)(A:nn)(n:Nat)(fn:aU)(Z:c7)(blk:aB):Option (V×aB):=
 match c3 T cp A n fn.body (oh Z) blk with
 |some (.normal,q,f)=>(mq T.al q f fn.results).map λD=>(uE D,f)
 |some (.ret,q,f)=>(mq T.al q f fn.results).map λD=>(uE D,f)
 |_=>none
def zN(T:jH)(cp:iH)(A:nn)(n:Nat)(fn:aU)(Z:c7):Option RV:=
 match nL T cp A n fn Z vQ with
 |some (v,blk)=>hJ blk v
 |none=>none
structure Sys where
 P:Program
 shared:Nat->Bool
 sites:Nat->aA
 lone:Nat->Bool
 fns:Nat->Option aU
 prim:Nat->c7->Option (Option RV)
 trig:Nat->c7->Bool:=λ_ _=>false
 primS:Nat->c7->bP->aB->Option (V×iB):=λ_ _ _ _=>none
def Sys.ctx(S:Sys)(a:bP):jH:=⟨S.shared,S.sites,S.lone,a⟩
mutual
def iu(S:Sys):Nat->iH
 |0,_,_=>none
 |n+1,f,Z=>match S.prim f Z with
  |some r=>r
  |none=>match S.fns f with
   |some fn=>if I Z<=fn.ntmps then zN (S.ctx .all) (iu S n) (gG S n) n fn Z else none
   |none=>none
def gG(S:Sys):Nat->nn
 |0,_,_,_,_=>none
 |n+1,f,Z,al,blk=>if S.trig f Z=true then(S.primS f Z al blk).map (λr=>(r.1,app r.2 blk))else match S.fns f with
  |some fn=>if I Z<=fn.ntmps then nL (S.ctx al) (iu S n) (gG S n) n fn Z blk else none
  |none=>none
end
def aC(S:Sys)(f:Nat)(Z:c7)(r:RV):Prop:= ∃n,iu S n f Z=some r
def ia(S:Sys)(f:Nat)(Z:c7)(al:bP)(blk:aB)(v:V)(A:aB):Prop:= ∃n,gG S n f Z al blk=some (v,A)
abbrev fp:=lg->bD->aB->Prop
def W (S:Sys)(al:bP)(c:aO)(Q:fp)(q:bD)(blk:aB):Prop:=∃n e A f,c3 (S.ctx al) (iu S n) (gG S n) n c q blk=some (e,A,f)/\Q e A f
def mW (S:Sys)(al:bP)(ops:en)(Q:bD->aB->eI->Prop)(q:bD)(blk:aB)(tr:eI):Prop:=∃n A f j,gw (S.ctx al) (iu S n) (gG S n) ops q blk=some (A,f,j)/\Q A f (tr++j)
section
variable{m n:Nat}
def G1(a b:iH):Prop:=∀f x r,a f x=some r->b f x=some r
def N2(a b:nn):Prop:=∀f x l k r,a f x l k=some r->b f x l k=some r
section
variable {T:jH} {cp lS:iH} {A AM:nn} (hp:G1 cp lS) (aa:N2 A AM)
include hp aa
theorem aai{o:iC}{blk:aB}{r:bD×aB×fP}(h:jy T cp A o q blk=some r):jy T lS AM o q blk=some r:=by
 unfold jy at h |-;cases g:n0 q o.guard with
 |none=>simp[g]at h
 |some b=>
  cases b with
  |false=>simpa [g]using h
  |true=>
   simp only[g]at h |-;cases B:bU T.shared q blk o.op with
   |fail=>simp[B]at h
   |done v u rd=>simpa [B]using h
   |pc f D rd s=>
    simp only[B]at h |-;cases H:cp f D with
    |none=>simp[H]at h
    |some x=>rw[hp _ _ _ H];simpa [H]using h
   |sc f D=>
    simp only[B]at h |-;split at h
    .rename_i j;rw[aM j];cases H:A f D (gr T f D blk) blk with
     |none=>simp[H]at h
     |some x=>rw[aa _ _ _ _ _ H];simpa [H]using h
    cases h
theorem abp:∀ {ops:en}{q:bD}{blk:aB}{r:bD×aB×eI},gw T cp A ops q blk=some r->gw T lS AM ops q blk=some r:=by
 intro ops
 induction ops with
 |nil=>intro q blk r h;simpa [gw]using h
 |cons o os g=>
  intro q blk r h;simp only[gw]at h |-;cases f:jy T cp A o q blk with
  |none=>simp[f]at h
  |some x=>
   obtain⟨E,B,F⟩:=x;rw[aai hp aa f];simp only[f]at h |-;cases H:gw T cp A os E B with
   |none=>simp[H]at h
   |some y=>rw[g H];simpa [H]using h
omit hp aa in
theorem aaQ{f g:bD->aB->Option (lg×bD×aB)}(j:∀e b r,f e b=some r->g e b=some r):
  ∀ {n m:Nat}{q:bD}{blk:aB}{r:lg×bD×aB},n<=m->jM f n q blk=some r->jM g m q blk=some r:=by
 intro n
 induction n with
 |zero=>intro m q blk r _ h;simp[jM]at h
 |succ n u=>
  intro m q blk r hm h;obtain⟨m,rfl⟩:∃k,m=k+1:=⟨m-1,J⟩;simp only[jM]at h |-;cases H:f q blk with
  |none=>simp[H]at h
  |some x=>
   obtain⟨e,E,B⟩:=x;rw[j _ _ _ H];cases e with
   |normal=>simp only[H]at h |-;exact u J h
   |exit i=>simpa [H]using h
   |ret=>simpa [H]using h
theorem ZG(v:n<=m):∀ {c:aO}{q:bD}{blk:aB}{r:lg×bD×aB},c3 T cp A n c q blk=some r->c3 T lS AM m c q blk=some r:=by
 intro c
 induction c with
 |skip=>intro q blk r h;simpa [c3]using h
 |region d ops=>
  intro q blk r h;simp only[c3]at h |-;cases H:gw T cp A ops q blk with
  |none=>simp[H]at h
  |some x=>rw[abp hp aa H];simpa [H]using h
 |seq a b f g=>
  intro q blk r h;simp only[c3]at h |-;cases H:c3 T cp A n a q blk with
  |none=>simp[H]at h
  |some x=>
   obtain⟨e,E,B⟩:=x;rw[f H];cases e with
   |normal=>simp only[H]at h |-;exact g h
   |exit i=>simpa [H]using h
   |ret=>simpa [H]using h
 |cond x a b f g=>
  intro q blk r h;simp only[c3]at h |-;split at h
  .split at h
   .rename_i j;simp only[j,if_true];exact f h
   rename_i j;simp only[j];exact g h
  cases h
 |block id c u=>
  intro q blk r h;simp only[c3]at h |-;cases H:c3 T cp A n c q blk with
  |none=>simp[H]at h
  |some x=>rw[u H];simpa [H]using h
 |loop c u=>intro q blk r h;simp only[c3]at h |-;exact aaQ (λ_ _ _ h=>u h) v h
 |exit id=>intro q blk r h;simpa [c3]using h
 |ret=>intro q blk r h;simpa [c3]using h
 |bad=>intro q blk r h;simp[c3]at h
theorem TC(f:n<=m){fn:aU}{blk:aB}{r:V×aB}(h:nL T cp A n fn Z blk=some r):nL T lS AM m fn Z blk=some r:=by
 unfold nL at h |-;cases H:c3 T cp A n fn.body (oh Z) blk with
 |none=>simp[H]at h
 |some x=>rw[ZG hp aa f H];simpa [H]using h
theorem agM(f:n<=m){fn:aU}(h:zN T cp A n fn Z=some r):zN T lS AM m fn Z=some r:=by
 unfold zN at h |-;cases H:nL T cp A n fn Z vQ with
 |none=>simp[H]at h
 |some x=>rw[TC hp aa f H];simpa [H]using h
end
theorem abF(S:Sys):∀n,G1 (iu S n) (iu S (n+1))/\N2 (gG S n) (gG S (n+1)):=by
 intro n
 induction n with
 |zero=>exact⟨λf x r h=>by simp[iu]at h,λf x l k r h=>by simp[gG]at h⟩
 |succ n g=>
  refine⟨λf x r h=>?_,λf x l k r h=>?_⟩
  .rw[iu]at h |-;cases hp:S.prim f x with
   |some R=>simpa [hp]using h
   |none=>
    simp only[hp]at h |-;cases H:S.fns f with
    |none=>simp[H]at h
    |some fn=>
     simp only[H]at h |-;split at h
     .rename_i hl;rw[aM hl];exact agM g.1 g.2 J h
     cases h
  rw[gG]at h |-;by_cases j:S.trig f x
  .rw[aM j]at h |-;exact h
  rw[aD j]at h |-;cases H:S.fns f with
  |none=>simp[H]at h
  |some fn=>
   simp only[H]at h |-;split at h
   .rename_i hl;rw[aM hl];exact TC g.1 g.2 J h
   cases h
theorem Ga(S:Sys)(h:n<=m):G1 (iu S n) (iu S m):=by
 induction h with
 |refl=>exactλ_ _ _ h=>h
 |step _ g=>exactλf x r hr=>(abF S _).1 f x r (g f x r hr)
theorem Ha(S:Sys)(h:n<=m):N2 (gG S n) (gG S m):=by
 induction h with
 |refl=>exactλ_ _ _ _ _ h=>h
 |step _ g=>exactλf x l k r hr=>(abF S _).2 f x l k r (g f x l k r hr)
theorem aC.xF{S:Sys}{R:RV}(h:aC S f Z r)(H:aC S f Z R):r=R:=by obtain⟨n,g⟩:=h;obtain⟨m,hm⟩:=H;have a:=Ga S (yD n m) _ _ _ g;have b:=Ga S (CI n m) _ _ _ hm;rw[a]at b;exact xH b
theorem AB(S:Sys){al:bP}(h:n<=m){c:aO}{blk:aB}{r:lg×bD×aB}(hr:c3 (S.ctx al) (iu S n) (gG S n) n c q blk=some r):
  c3 (S.ctx al) (iu S m) (gG S m) m c q blk=some r:=ZG (Ga S h) (Ha S h) h hr
theorem aeU(S:Sys){al:bP}(h:n<=m){blk:aB}{r:bD×aB×eI}(hr:gw (S.ctx al) (iu S n) (gG S n) ops q blk=some r):
  gw (S.ctx al) (iu S m) (gG S m) ops q blk=some r:=abp (Ga S h) (Ha S h) hr
variable {S:Sys} {al:bP} {Q:fp} {q:bD} {blk:aB}
theorem W.mono{c:aO}{f:fp}(h:W S al c Q q blk)(H:∀e q blk,Q e q blk->f e q blk):W S al c f q blk:=by obtain⟨n,e,A,m,j,g⟩:=h;exact⟨n,e,A,m,j,H _ _ _ g⟩
theorem ah5(h:Q .normal q blk):W S al .skip Q q blk:=⟨0,_,_,_,rfl,h⟩
theorem aft{id:Nat}(h:Q (.exit id) q blk):W S al (.exit id) Q q blk:=⟨0,_,_,_,rfl,h⟩
theorem apF(h:Q .ret q blk):W S al .ret Q q blk:=⟨0,_,_,_,rfl,h⟩
def E2(next:bD->aB->Prop)(Q:fp):fp
 | .normal,q,blk=>next q blk
 |e,q,blk=>Q e q blk
theorem aoU{a b:aO}(h:W S al a (E2 (W S al b Q) Q) q blk):W S al (.seq a b) Q q blk:=by
 obtain⟨n,e,u,v,f,H⟩:=h;cases e with
 |normal=>obtain⟨m,e,j,A,r,g⟩:=H;refine⟨max n m,e,j,A,?_,g⟩;simp only[c3];rw[AB S (yD n m) f];exact AB S (CI n m) r
 |exit i=>exact⟨n,_,_,_,by simp[c3,f],H⟩
 |ret=>exact⟨n,_,_,_,by simp[c3,f],H⟩
theorem aht{x:dR}{a b:aO}{t:Bool}(j:ev q x=.one (.p (.bool t)))(h:if t=true then W S al a Q q blk else W S al b Q q blk):W S al (.cond x a b) Q q blk:=by
 cases t with
 |true=>obtain⟨n,e,A,f,g,H⟩:=h;exact⟨n,e,A,f,by simp[c3,j,g],H⟩
 |false=>obtain⟨n,e,A,f,g,H⟩:=(by simpa using h:W S al b Q q blk);exact⟨n,e,A,f,by simp[c3,j,g],H⟩
def kZ(id:Nat)(Q:fp):fp
 | .exit i,q,blk=>if i=id then Q .normal q blk else Q (.exit i) q blk
 |e,q,blk=>Q e q blk
theorem anU{id:Nat}{c:aO}(h:W S al c (kZ id Q) q blk):W S al (.block id c) Q q blk:=by
 obtain⟨n,e,j,A,g,f⟩:=h;cases e with
 |normal=>exact⟨n,_,_,_,by simp[c3,g],f⟩
 |ret=>exact⟨n,_,_,_,by simp[c3,g],f⟩
 |exit i=>
  simp only[kZ]at f;by_cases H:i=id
  .simp only[H,if_true]at f;exact⟨n,_,_,_,by simp[c3,g,H],f⟩
  simp only[H,if_false]at f;exact⟨n,_,_,_,by simp[c3,g,H],f⟩
theorem O1(S:Sys){c:aO}{k l:Nat}(h:n<=m)(H:k<=l){r:lg×bD×aB}(hr:jM (c3 (S.ctx al) (iu S n) (gG S n) n c) k q blk=some r):
  jM (c3 (S.ctx al) (iu S m) (gG S m) m c) l q blk=some r:=aaQ (λ_ _ _ f=>AB S h f) H hr
theorem ao7{c:aO}(y:Nat->bD->aB->Prop)(g N:Nat)(T:g<=N)(D:y g q blk)
  (r:∀k q blk,k<=N->y k q blk->W S al c (E2 (λA f=>k<N/\y (k+1) A f) Q) q blk):W S al (.loop c) Q q blk:=by
 have v:∀j k q blk,k+j=N->y k q blk->∃n l e A f,jM (c3 (S.ctx al) (iu S n) (gG S n) n c) l q blk=some (e,A,f)/\Q e A f:=by
  intro j
  induction j with
  |zero=>
   intro k q blk R x;obtain⟨n,e,E,B,H,h⟩:=r k q blk J x;cases e with
   |normal=>obtain⟨X,_⟩:=h;omega
   |exit i=>exact⟨n,1,_,_,_,by simp[jM,H],h⟩
   |ret=>exact⟨n,1,_,_,_,by simp[jM,H],h⟩
  |succ j O=>
   intro k q blk R x;obtain⟨n,e,E,B,H,h⟩:=r k q blk J x;cases e with
   |normal=>obtain⟨_,u⟩:=h;obtain⟨m,l,e,z,F,M,L⟩:=O (k+1) E B J u;refine⟨max n m,l+1,e,z,F,?_,L⟩;simp only[jM];rw[AB S (yD n m) H];exact O1 S (CI n m) (cH _) M
   |exit i=>exact⟨n,1,_,_,_,by simp[jM,H],h⟩
   |ret=>exact⟨n,1,_,_,_,by simp[jM,H],h⟩
 obtain⟨n,l,e,A,f,H,h⟩:=v (N-g) g q blk J D;refine⟨max n l,e,A,f,?_,h⟩;simp only[c3];exact O1 S (yD n l) (CI n l) H
theorem aib{d:Bool}(h:mW S al ops (λq blk j=>(d->o7 ops [] j)/\Q .normal q blk) q blk []):W S al (.region d ops) Q q blk:=by
 obtain⟨n,A,m,j,f,H,g⟩:=h;refine⟨n,.normal,A,m,?_,g⟩;simp only[c3,f];cases d with
 |false=>simp
 |true=>simpa using H
theorem apO{tr:eI}(h:R q blk tr):mW S al [] R q blk tr:=⟨0,q,blk,[],rfl,by simpa using h⟩
theorem Kj{o:iC}{os:en}{tr:eI}{n:Nat}{E:bD}{B:aB}{e:fP}
  (f:jy (S.ctx al) (iu S n) (gG S n) o q blk=some (E,B,e)) (h:mW S al os R E B (tr++[e])):mW S al (o::os) R q blk tr:=by
 obtain⟨m,A,r,j,H,g⟩:=h;refine⟨max n m,A,r,e::j,?_,by simpa using g⟩;simp only[gw];rw[aai (Ga S (yD n m)) (Ha S (yD n m)) f];simp[aeU S (CI n m) H]
def Bw(S:Sys)(al:bP)(p:vv)(d:my)(q:bD)(blk:aB)(tr:eI)(bN:bD->aB->eI->Prop):Prop:=
 match p with
 | .fail=>False
 | .done v u r=>al.fG (r++u.map (·.1))=true/\bN (dx q d v) (app u blk) (tr++[⟨r,u.map (·.1),[]⟩])
 | .pc f D r s=>∃x,aC S f D x/\match d_ blk r s (x.eU (S.lone s))with
  |some (v,u)=>al.fG (r++u.map (·.1))=true/\bN (dx q d v) (app u blk) (tr++[⟨r++u.map (·.1),u.map (·.1),[]⟩])
  |none=>False
 | .sc f D=>al.holds (gr (S.ctx al) f D blk)=true/\ ∃v A,ia S f D (gr (S.ctx al) f D blk) blk v A/\
   bN (dx q d v) A (tr++[⟨(gr (S.ctx al) f D blk).ids,(gr (S.ctx al) f D blk).ids,(gr (S.ctx al) f D blk).fs⟩])
def Ap(S:Sys)(al:bP)(w:Option Bool)(o:iC)(q:bD)(blk:aB)(tr:eI)(bN:bD->aB->eI->Prop):Prop:=
 match w with
 |none=>False
 |some false=>bN (dx q o.dst .undef) blk (tr++[⟨[],[],[]⟩])
 |some true=>Bw S al (bU S.shared q blk o.op) o.dst q blk tr bN
@[simp] theorem bP.Au (l:aA):bP.all.fG l:=by simp[bP.fG,bP.ok,bP.all]
@[simp] theorem bP.aoT (b:bP):bP.all.holds b:=rfl
theorem ap7{o:iC}{os:en}{tr:eI}
  (h:Ap S al (n0 q o.guard) o q blk tr (mW S al os R)):mW S al (o::os) R q blk tr:=by
 cases H:n0 q o.guard with
 |none=>simp[H,Ap]at h
 |some b=>
  cases b with
  |false=>rw[H]at h;exact Kj (n:=0) (by simp[jy,H]) h
  |true=>
   rw[H]at h;simp only[Ap]at h;have j:(S.ctx al).shared=S.shared:=rfl;have F:(S.ctx al).al=al:=rfl;have z:(S.ctx al).lone=S.lone:=rfl;cases B:bU S.shared q blk o.op with
   |fail=>simp[B,Bw]at h
   |done v u r=>rw[B]at h;obtain⟨g,h⟩:=h;exact Kj (n:=0) (by simp only[jy,H,j,F,B,g,if_true]) h
   |pc f D r s=>
    rw[B]at h;obtain⟨x,⟨n,m⟩,h⟩:=h;cases hl:d_ blk r s (x.eU (S.lone s))with
    |none=>simp[hl]at h
    |some y=>obtain⟨v,u⟩:=y;simp only[hl]at h;obtain⟨g,h⟩:=h;exact Kj (n:=n) (by simp only[jy,H,j,F,z,B,m,hl,g,if_true]) h
   |sc f D=>rw[B]at h;obtain⟨g,v,A,⟨n,m⟩,h⟩:=h;exact Kj (n:=n) (by simp only[jy,H,j,F,B,g,if_true,m]) h
end
variable {S:Sys} {al:bP}
def nk(al:bP)(r:List (Nat×Option my))(R:V->aB->Prop):fp
 | .exit _,_,_=>False
 |_,q,blk=>match mq al q blk r with
  |some D=>R (uE D) blk
  |none=>False
theorem TV{fn:aU}{blk:aB}{R:V->aB->Prop}(h:W S al fn.body (nk al fn.results R) (oh Z) blk):
  ∃n v A,nL (S.ctx al) (iu S n) (gG S n) n fn Z blk=some (v,A)/\R v A:=by
 obtain⟨n,e,j,A,g,H⟩:=h;refine⟨n,?_⟩;unfold nL;rw[g];cases e with
 |exit i=>exact H.elim
 |normal=>
  simp only[nk]at H;split at H
  .rename_i D f;exact⟨_,_,by simp only[show(S.ctx al).al=al from rfl,f,oG],H⟩
  exact H.elim
 |ret=>
  simp only[nk]at H;split at H
  .rename_i D f;exact⟨_,_,by simp only[show(S.ctx al).al=al from rfl,f,oG],H⟩
  exact H.elim
theorem ahV{fn:aU}(hp:S.prim f Z=none)(H:S.fns f=some fn)(hl:I Z<=fn.ntmps)
  (h:W S .all fn.body (nk .all fn.results λv blk=>hJ blk v=some r) (oh Z) vQ):aC S f Z r:=by
 obtain⟨n,v,A,j,g⟩:=TV h;refine⟨n+1,?_⟩;rw[iu];simp only[hp,H,hl,if_true];unfold zN;rw[j];exact g
theorem mU{fn:aU}{blk:aB}{R:V->aB->Prop}(H:S.fns f=some fn)(hl:I Z<=fn.ntmps)
  (h:W S al fn.body (nk al fn.results R) (oh Z) blk) (m:S.trig f Z=false:=by rfl):∃v A,ia S f Z al blk v A/\R v A:=by
 obtain⟨n,v,A,j,g⟩:=TV h;refine⟨v,A,⟨n+1,?_⟩,g⟩;rw[gG];simp only[m,ib,if_false,H,hl,if_true];exact j
variable {S:Sys} {al:bP} {Q:fp} {q:bD} {blk:aB}
theorem af9:W S al .skip Q q blk↔Q .normal q blk:=⟨λ⟨_,_,_,_,h,f⟩=>by simp[c3]at h;obtain⟨rfl,rfl,rfl⟩:=h;exact f,ah5⟩
theorem alk{id:Nat}:W S al (.exit id) Q q blk↔Q (.exit id) q blk:=⟨λ⟨_,_,_,_,h,f⟩=>by simp[c3]at h;obtain⟨rfl,rfl,rfl⟩:=h;exact f,aft⟩
theorem aqK:W S al .ret Q q blk↔Q .ret q blk:=⟨λ⟨_,_,_,_,h,f⟩=>by simp[c3]at h;obtain⟨rfl,rfl,rfl⟩:=h;exact f,apF⟩
theorem arH{a b:aO}:W S al (.seq a b) Q q blk↔W S al a (E2 (W S al b Q) Q) q blk:=by
 refine⟨?_,aoU⟩;rintro⟨n,e,A,f,h,g⟩
 simp only[c3]at h;cases H:c3 (S.ctx al) (iu S n) (gG S n) n a q blk with
 |none=>simp[H]at h
 |some x=>
  obtain⟨E,j,B⟩:=x;refine⟨n,E,j,B,H,?_⟩;cases E with
  |normal=>simp only[H]at h;exact⟨n,e,A,f,h,g⟩
  |exit i=>simp[H]at h;obtain⟨rfl,rfl,rfl⟩:=h;exact g
  |ret=>simp[H]at h;obtain⟨rfl,rfl,rfl⟩:=h;exact g
def Ew(v:V)(A B:Prop):Prop:=
 match v with
 | .one (.p (.bool t))=>if t=true then A else B
 |_=>False
theorem amH{x:dR}{a b:aO}:W S al (.cond x a b) Q q blk↔Ew (ev q x) (W S al a Q q blk) (W S al b Q q blk):=by
 constructor
 .rintro ⟨n,e,A,f,h,g⟩
  simp only[c3]at h;split at h
  .rename_i t H;rw[H];simp only[Ew];cases t with
   |true=>exact⟨n,e,A,f,by simpa using h,g⟩
   |false=>exact⟨n,e,A,f,by simpa using h,g⟩
  cases h
 intro h;unfold Ew at h;split at h
 .rename_i t H;exact aht H h
 exact h.elim
theorem aqy{id:Nat}{c:aO}:W S al (.block id c) Q q blk↔W S al c (kZ id Q) q blk:=by
 refine⟨?_,anU⟩;rintro⟨n,e,A,m,h,g⟩
 simp only[c3]at h;cases f:c3 (S.ctx al) (iu S n) (gG S n) n c q blk with
 |none=>simp[f]at h
 |some x=>
  obtain⟨E,j,B⟩:=x;refine⟨n,E,j,B,f,?_⟩;cases E with
  |normal=>simp[f]at h;obtain⟨rfl,rfl,rfl⟩:=h;exact g
  |ret=>simp[f]at h;obtain⟨rfl,rfl,rfl⟩:=h;exact g
  |exit i=>
   simp only[f]at h;simp only[kZ];split at h
   .rename_i H;simp at h;obtain⟨rfl,rfl,rfl⟩:=h;rw[aM H];exact g
   rename_i H;simp at h;obtain⟨rfl,rfl,rfl⟩:=h;rw[aD H];exact g
theorem OO{tr:eI}:mW S al [] R q blk tr↔R q blk tr:=by
 refine⟨?_,apO⟩;rintro⟨n,f,A,j,h,Q⟩
 simp[gw]at h;obtain⟨rfl,rfl,rfl⟩:=h
 simpa using Q
theorem H_{o:iC}{os:en}{tr:eI}:
  mW S al (o::os) R q blk tr↔Ap S al (n0 q o.guard) o q blk tr (mW S al os R):=by
 refine⟨?_,ap7⟩;rintro⟨n,Q,Y,j,h,Z⟩
 simp only[gw]at h;cases H:jy (S.ctx al) (iu S n) (gG S n) o q blk with
 |none=>simp[H]at h
 |some x=>
  obtain⟨L,F,e⟩:=x;simp only[H]at h;cases z:gw (S.ctx al) (iu S n) (gG S n) os L F with
  |none=>simp[z]at h
  |some y=>
   obtain⟨T,X,E⟩:=y;simp[z]at h;obtain⟨rfl,rfl,rfl⟩:=h;have m:mW S al os R L F (tr++[e]):=⟨n,_,_,E,z,by simpa using Z⟩;unfold jy at H;cases A:n0 q o.guard with
   |none=>simp[A]at H
   |some b=>
    cases b with
    |false=>simp[A]at H;obtain⟨rfl,rfl,rfl⟩:=H;exact m
    |true=>
     simp only[A]at H;simp only[Ap];have M:(S.ctx al).shared=S.shared:=rfl;have N:(S.ctx al).al=al:=rfl;have O:(S.ctx al).lone=S.lone:=rfl;simp only[M,N,O]at H;cases B:bU S.shared q blk o.op with
     |fail=>simp[B]at H
     |done v u r=>
      simp only[B]at H;split at H
      .rename_i ay;cases H;exact⟨ay,m⟩
      cases H
     |pc f D r s=>
      simp only[B]at H;cases g:iu S n f D with
      |none=>simp[g]at H
      |some x=>
       simp only[g]at H;refine⟨x,⟨n,g⟩,?_⟩;cases hl:d_ blk r s (x.eU (S.lone s))with
       |none=>simp[hl]at H
       |some y=>
        obtain⟨v,u⟩:=y;simp only[hl]at H;split at H
        .rename_i ay;cases H;exact⟨ay,m⟩
        cases H
     |sc f D=>
      simp only[B]at H;split at H
      .rename_i ay;cases g:gG S n f D (gr (S.ctx al) f D blk) blk with
       |none=>simp[g]at H
       |some x=>obtain⟨v,b⟩:=x;simp only[g]at H;cases H;exact⟨ay,v,_,⟨n,g⟩,m⟩
      cases H
theorem ZX{d:Bool}:W S al (.region d ops) Q q blk↔mW S al ops (λq blk j=>(d->o7 ops [] j)/\Q .normal q blk) q blk []:=by
 refine⟨?_,aib⟩;rintro⟨n,e,A,m,h,g⟩
 simp only[c3]at h;cases H:gw (S.ctx al) (iu S n) (gG S n) ops q blk with
 |none=>simp[H]at h
 |some x=>
  obtain⟨E,B,j⟩:=x;simp only[H]at h;cases d with
  |false=>simp at h;obtain⟨rfl,rfl,rfl⟩:=h;exact⟨n,_,_,j,H,aG,g⟩
  |true=>simp at h;obtain⟨f,rfl,rfl,rfl⟩:=h;exact⟨n,_,_,j,H,λ_=>by simpa using f,g⟩
section
variable{v:Value}
inductive cl (w:World) (own:Nat->Prop):PV->Value->Prop where
 |bool (b:Bool):cl w own (.bool b) (.bool b)
 |int (k:IntKind) (n:Int):cl w own (.int k n) (.int k n)
 |str (s:ByteArray):cl w own (.str s) (.string s)
 |uu:cl w own .uu (.pointer none)
 |nils:cl w own .nils (.slice none 0 0)
 |oE:cl w own .oE (.map none)
 |tj:cl w own .tj .nilFunc
 |nili:cl w own .nili .nilIface
 |ifc (d:TypeId) (x:Value):cl w own .ifc (.iface d x)
 |zs (a:Option Addr):cl w own .zs (.slice a 0 0)
 |box {cs:c_} (b o:Nat) (f:Nat->Value) (ho:cs≠[]-> ¬own b)
   (hc:∀(j:Nat) (x:PV),cs[j]?=some x->w.cell? ⟨b,o+j,none⟩=some (f j))
   (hr:∀(j:Nat) (x:PV),cs[j]?=some x->cl w own x (f j)):cl w own (.box cs) (.pointer (some ⟨b,o,none⟩))
 |uB (a:Option Addr) (cap:Nat) (hn:a=none->cap=0) (hm:cap<=maxLen):cl w own (.sl []) (.slice a 0 cap)
 |sl {es:dC} (b o cap sz:Nat) (f:Nat->Value) (ho:es.flatten≠[]-> ¬own b) (hl:I es<=cap) (hm:cap<=maxLen) (hsz:∀e∈es,I e=sz)
   (hc:∀(j:Nat) (x:PV),es.flatten[j]?=some x->w.cell? ⟨b,o+j,none⟩=some (f j))
   (hr:∀(j:Nat) (x:PV),es.flatten[j]?=some x->cl w own x (f j)):cl w own (.sl es) (.slice (some ⟨b,o,none⟩) (I es) cap)
 |mp {ag:Bool}{es:cL} (r:Nat) (ents:Array MapEntry) (clock:Nat) (g:Nat->Array Value) (ho:¬own r) (hb:w.heap[r]?=some (.map ents clock)) (hl:ents.size=I es)
   (hk:∀(i:Nat) (q:PV) (v:c_) (e:MapEntry),es[i]?=some (q,v)->ents[i]?=some e->cl w own q e.key)
   (hv:∀(i:Nat) (q:PV) (v:c_) (e:MapEntry),es[i]?=some (q,v)->ents[i]?=some e->(g i).size=I v/\(ag->e.val=.agg (g i))/\(ag=false-> #[e.val]=g i))
   (hr:∀(i:Nat) (q:PV) (v:c_) (j:Nat) (x:PV) (u:Value),es[i]?=some (q,v)->v[j]?=some x->(g i)[j]?=some u->cl w own x u):cl w own (.mp ag es) (.map (some r))
 |fn {f:Nat}{a b:c_} (A B:Array Value) (ha:A.size=I a) (hb:B.size=I b)
   (tc:∀(j:Nat) (x:PV) (u:Value),a[j]?=some x->A[j]?=some u->cl w own x u)
   (mf:∀(j:Nat) (x:PV) (u:Value),b[j]?=some x->B[j]?=some u->cl w own x u):cl w own (.fn f a b) (.func (.func f) A B)
theorem cl.JB{w:World}{own:Nat->Prop}{x:PV}(h:cl w own x v):v.oneCell':=by cases h<;>rfl
theorem cl.cells{w:World}{own:Nat->Prop}{x:PV}(h:cl w own x v):v.cells= #[v]:=by cases h<;>rfl
theorem UD{w:World}{b o:Nat}(h:w.cell? ⟨b,o,none⟩=some v):b<w.heap.size:=World.block_lt_of_cell? w ⟨b,o,none⟩ h
theorem rY{w:World}{b:Nat}{o:Obj}(h:w.heap[b]?=some o):b<w.heap.size:=(FV.1 h).1
theorem cl.mono{w:World}{own:Nat->Prop}(u:∀c,c<w.heap.size-> ¬own c->L.heap[c]?=w.heap[c]? /\ ¬wV c){x:PV}{v:Value}
  (h:cl w own x v):cl L wV x v:=by
 induction h with
 |bool b=>exact .bool b
 |int k n=>exact .int k n
 |str s=>exact .str s
 |uu=>exact .uu
 |nils=>exact .nils
 |oE=>exact .oE
 |tj=>exact .tj
 |nili=>exact .nili
 |ifc d x=>exact .ifc d x
 |zs a=>exact .zs a
 | @box A b o f ho D _ T=>
  cases A with
  |nil=>exact .box b o f (λh=>(h rfl).elim) (λF x h=>by simp at h) (λF x h=>by simp at h)
  |cons c r=>have H:=UD (D 0 c rfl);have q:=ho aG;refine .box b o f (λ_=>(u b H q).2) (λF x h=>?_) T;rw[World.cell?_of_block (u b H q).1];exact D F x h
 |uB a N q hm=>exact .uB a N q hm
 | @sl j b o N g f ho hl hm y D _ T=>
  cases z:j.flatten with
  |nil=>exact .sl b o N g f (λh=>(h z).elim) hl hm y (λF x h=>by simp[z]at h) (λF x h=>by simp[z]at h)
  |cons c r=>have H:=UD (D 0 c (by simp[z]));have q:=ho (by simp[z]);refine .sl b o N g f (λ_=>(u b H q).2) hl hm y (λF x h=>?_) T;rw[World.cell?_of_block (u b H q).1];exact D F x h
 | @mp ag j r E m ab ho H hl _ X _ Q R=>exact .mp r E m ab (u r (rY H) ho).2 ((u r (rY H) ho).1.trans H) hl Q X R
 |fn Z B Y H _ _ M O=>exact .fn Z B Y H M O
structure aX where
 w:World
 blk:aB
 σ:Nat->Nat
 κ:Nat->Nat
 fr:Nat->Prop
def eN.eV:eN->Bool
 | .var _| .arr _ _ _| .gT _ _ _| .map _ _=>true
 |_=>false
def jl:Nat×Option eN->my
 |(_,some (.arr _ g _))=>some g
 |(_,some (.gT _ g _))=>some g
 |(_,some (.lW _ g _))=>some g
 |_=>none
def aX.eV(m:aX)(c:Nat):Prop:= ∃id o,(m.blk id).2=some o/\o.eV/\m.σ id=c
def aX.own(m:aX)(c:Nat):Prop:=m.fr c\/m.eV c
inductive cY (m:aX):b_->Value->Prop where
 |p {x:PV}{v:Value} (h:cl m.w m.own x v):cY m (.p x) v
 |bg {id g off:Nat} (a:Addr) (hg:g<=(m.blk id).1) (h:(m.blk id).1=g->(m.blk id).2.isSome->a=⟨m.σ id,off,none⟩):cY m (.bg id g off) (.pointer (some a))
 |dr {id g i off:Nat} (a:Addr) (hg:g<=(m.blk id).1) (h:∀sz,(m.blk id).1=g->jl (m.blk id)=some sz->a=⟨m.σ id,i*sz+off,none⟩):cY m (.dr id g i off) (.pointer (some a))
 |hsl {id g z off len:Nat} (a:Addr) (cap:Nat) (hg:g<=(m.blk id).1) (hl:len<=cap) (hm:cap<=maxLen)
   (h:∀sz,(m.blk id).1=g->jl (m.blk id)=some sz->sz=z/\(off=0\/0<len->a=⟨m.σ id,off*sz,none⟩)/\off+cap=m.κ id):
   cY m (.hsl id g z off len) (.slice (some a) len cap)
 |km {id g:Nat} (r:Nat) (hg:g<=(m.blk id).1) (h:(m.blk id).1=g->(m.blk id).2.isSome->r=m.σ id):cY m (.km id g) (.map (some r))
 |hfn {f:Nat}{a b:dk} (A B:Array Value) (ha:A.size=I a) (hb:B.size=I b)
   (tc:∀(j:Nat) (x:b_) (u:Value),a[j]?=some x->A[j]?=some u->cY m x u)
   (mf:∀(j:Nat) (x:b_) (u:Value),b[j]?=some x->B[j]?=some u->cY m x u):cY m (.hfn f a b) (.func (.func f) A B)
theorem cY.JB{m:aX}{x:b_}(h:cY m x v):v.oneCell':=by
 cases h with
 |p h=>exact h.JB
 |_=>rfl
theorem cY.cells{m:aX}{x:b_}(h:cY m x v):v.cells= #[v]:=by
 cases h with
 |p h=>exact h.cells
 |_=>rfl
def dn(m:aX)(A:dk)(D:List Value):Prop:=I D=I A/\ ∀(j:Nat) (x:b_) (u:Value),A[j]?=some x->D[j]?=some u->cY m x u
def dw(w:World)(own:Nat->Prop)(A:c_)(D:List Value):Prop:=I D=I A/\ ∀(j:Nat) (x:PV) (u:Value),A[j]?=some x->D[j]?=some u->cl w own x u
def mz(m:aX):V->Value->Prop
 | .undef,v=>v=undef
 | .one c,v=>cY m c v
 | .agg A,v=>∃arr,v=.agg arr/\dn m A arr.toList
 | .tup _,_=>False
def cg(m:aX):V->Value->Prop
 | .tup D,v=>∃arr,v=.tuple arr/\arr.size=I D/\ ∀(j:Nat) (x:V) (u:Value),D[j]?=some x->arr[j]?=some u->mz m x u
 |x,v=>mz m x v
def o5(m:aX)(id:Nat):eN->Prop
 | .var A=>∃E F,m.w.heap[m.σ id]?=some (.cells E F (0,0))/\dn m A E.toList
 | .fvar A=>∃E F Y,m.w.heap[m.σ id]?=some (.cells E F Y)/\dw m.w m.own A E.toList/\ ¬m.own (m.σ id)
 | .arr F g j=>∃E,m.w.heap[m.σ id]?=some (.cells E F (0,0))/\0<g/\(∀e∈j,I e=g)/\I j<=m.κ id/\m.κ id<=maxLen/\E.size=m.κ id*g/\
   dw m.w m.own j.flatten (E.toList.take (I j*g))
 | .lW F g j=>∃E Y,m.w.heap[m.σ id]?=some (.cells E F Y)/\0<g/\(∀e∈j,I e=g)/\I j<=m.κ id/\m.κ id<=maxLen/\E.size=m.κ id*g/\
   dw m.w m.own j.flatten (E.toList.take (I j*g))/\ ¬m.own (m.σ id)
 | .gT F g j=>∃E,m.w.heap[m.σ id]?=some (.cells E F (0,0))/\0<g/\(∀e∈j,I e=g)/\I j<=m.κ id/\m.κ id<=maxLen/\E.size=m.κ id*g/\
   dn m j.flatten (E.toList.take (I j*g))
 | .map n j=>∃f h,m.w.heap[m.σ id]?=some (.map f h)/\f.size=I j/\
   ∀(i:Nat) (q:PV) (v:c_) (e:MapEntry),j[i]?=some (q,v)->f[i]?=some e->cl m.w m.own q e.key/\ ∃r:Array Value,(n->e.val=.agg r)/\(n=false-> #[e.val]=r)/\dw m.w m.own v r.toList
 | .fmap n j=>∃f h,m.w.heap[m.σ id]?=some (.map f h)/\f.size=I j/\
   (∀(i:Nat) (q:PV) (v:c_) (e:MapEntry),j[i]?=some (q,v)->f[i]?=some e->cl m.w m.own q e.key/\ ∃r:Array Value,(n->e.val=.agg r)/\(n=false-> #[e.val]=r)/\dw m.w m.own v r.toList)/\ ¬m.own (m.σ id)
structure c9 (w0:World) (m:aX):Prop where
 os:m.w.os=w0.os
 tape:m.w.tape=w0.tape
 output:m.w.output=w0.output
 size:w0.heap.size<=m.w.heap.size
 base:∀c,c<w0.heap.size->m.w.heap[c]?=w0.heap[c]?
 obj:∀id o,(m.blk id).2=some o->o5 m id o
 dA:∀id o,(m.blk id).2=some o->o.eV->w0.heap.size<=m.σ id/\ ¬m.fr (m.σ id)
 frlt:∀c,m.fr c->c<m.w.heap.size
 inj:∀id et o o',(m.blk id).2=some o->o.eV->(m.blk et).2=some o'->o'.eV->m.σ id=m.σ et->id=et
structure eY (m m':aX):Prop where
 os:m'.w.os=m.w.os
 tape:m'.w.tape=m.w.tape
 output:m'.w.output=m.w.output
 size:m.w.heap.size<=m'.w.heap.size
 keep:∀c,c<m.w.heap.size-> ¬m.eV c->m'.w.heap[c]?=m.w.heap[c]?
 eV:∀c,c<m.w.heap.size->m'.eV c->m.eV c
 less:∀c,c<m.w.heap.size-> ¬m.own c-> ¬m'.own c
 gen:∀id,(m.blk id).1<=(m'.blk id).1
 ref:∀id,(m'.blk id).1=(m.blk id).1->(m'.blk id).2.isSome->(m.blk id).2.isSome/\m'.σ id=m.σ id/\m'.κ id=m.κ id/\jl (m'.blk id)=jl (m.blk id)
theorem eY.refl(m:aX):eY m m:=⟨rfl,rfl,rfl,cH _,λ_ _ _=>rfl,λ_ _ h=>h,λ_ _ h=>h,λ_=>cH _,λ_ _ h=>⟨h,rfl,rfl,rfl⟩⟩
theorem eY.trans{a b c:aX}(h:eY a b)(k:eY b c):eY a c where
 os:=k.os.trans h.os
 tape:=k.tape.trans h.tape
 output:=k.output.trans h.output
 size:=jO h.size k.size
 keep x H hm:=(k.keep x (vF H h.size) λg=>hm (h.eV x H g)).trans (h.keep x H hm)
 eV x H hm:=h.eV x H (k.eV x (vF H h.size) hm)
 less x H j:=k.less x (vF H h.size) (h.less x H j)
 gen id:=jO (h.gen id) (k.gen id)
 ref id y aa:=by have z:=h.gen id;have v:=k.gen id;obtain⟨f,E,u,m⟩:=k.ref id J aa;obtain⟨q,n,F,r⟩:=h.ref id J f;exact⟨q,E.trans n,u.trans F,m.trans r⟩
theorem eY.own{m M:aX}(h:eY m M):∀c,c<m.w.heap.size-> ¬m.own c->M.w.heap[c]?=m.w.heap[c]? /\ ¬M.own c:=λc H f=>⟨h.keep c H λhm=>f (.inr hm),h.less c H f⟩
theorem Y2{x:Nat×Option eN}(h:jl x=some g):x.2.isSome:=by
 obtain⟨f,o⟩:=x;cases o with
 |none=>simp[jl]at h
 |some o=>rfl
structure re (m m':aX):Prop where
 own:∀c,c<m.w.heap.size-> ¬m.own c->m'.w.heap[c]?=m.w.heap[c]? /\ ¬m'.own c
 gen:∀id,(m.blk id).1<=(m'.blk id).1
 ref:∀id,(m'.blk id).1=(m.blk id).1->(m'.blk id).2.isSome->(m.blk id).2.isSome/\m'.σ id=m.σ id/\m'.κ id=m.κ id/\jl (m'.blk id)=jl (m.blk id)
theorem eY.zero{m M:aX}(h:eY m M):re m M:=⟨h.own,h.gen,h.ref⟩
theorem cl.ev{m m':aX}(h:re m m'){x:PV}(hr:cl m.w m.own x v):cl m'.w m'.own x v:=hr.mono h.own
theorem cY.ev{m m':aX}(h:re m m'){x:b_}(hr:cY m x v):cY m' x v:=by
 induction hr with
 |p hp=>exact .p (hp.ev h)
 | @bg id D B a hg f=>have n:=h.gen id;refine .bg a J λH aa=>?_;obtain⟨s,E,_,_⟩:=h.ref id J aa;rw[E];exact f J s
 | @dr id D i B a hg f=>have n:=h.gen id;refine .dr a J λg H aa=>?_;obtain⟨s,E,_,u⟩:=h.ref id J (Y2 aa);rw[E];exact f g J (u▸aa)
 | @hsl id D z B len a N hg hl hm f=>have n:=h.gen id;refine .hsl a N J hl hm λg H aa=>?_;obtain⟨s,E,F,u⟩:=h.ref id J (Y2 aa);rw[E,F];exact f g J (u▸aa)
 | @km id D r hg hr=>have n:=h.gen id;refine .km r J λH aa=>?_;obtain⟨s,E,_,_⟩:=h.ref id J aa;rw[E];exact hr J s
 |hfn A L f y _ _ j q=>exact .hfn A L f y j q
theorem dn.ev{m m':aX}(h:re m m')(hr:dn m A D):dn m' A D:=⟨hr.1,λj x u a b=>(hr.2 j x u a b).ev h⟩
theorem dw.mono{w:World}{own:Nat->Prop}(h:∀c,c<w.heap.size-> ¬own c->L.heap[c]?=w.heap[c]? /\ ¬wV c){A:c_}
  (hr:dw w own A D):dw L wV A D:=⟨hr.1,λj x u a b=>(hr.2 j x u a b).mono h⟩
theorem dw.ev{m m':aX}(h:re m m'){A:c_}(hr:dw m.w m.own A D):dw m'.w m'.own A D:=hr.mono h.own
theorem mz.ev{m m':aX}(h:re m m'){x:V}(hr:mz m x v):mz m' x v:=by
 cases x with
 |undef=>exact hr
 |one c=>exact cY.ev h hr
 |agg A=>obtain⟨arr,e,H⟩:=hr;exact⟨arr,e,H.ev h⟩
 |tup D=>exact hr.elim
theorem cg.ev{m m':aX}(h:re m m'){x:V}(hr:cg m x v):cg m' x v:=by
 cases x with
 |tup D=>obtain⟨arr,e,aa,H⟩:=hr;exact⟨arr,e,aa,λj x u a b=>(H j x u a b).ev h⟩
 |undef=>exact mz.ev (x:=.undef) h hr
 |one c=>exact mz.ev (x:=.one c) h hr
 |agg A=>exact mz.ev (x:=.agg A) h hr
theorem o5.ev{m m':aX}(h:re m m'){id:Nat}{o:eN}(aa:m'.σ id=m.σ id)(H:m'.κ id=m.κ id)(u:m'.w.heap[m.σ id]?=m.w.heap[m.σ id]?)
  (hr:o5 m id o):o5 m' id o:=by
 cases o with
 |var A=>obtain⟨E,F,a,b⟩:=hr;exact⟨E,F,by rw[aa,u];exact a,b.ev h⟩
 |fvar A=>obtain⟨E,F,Y,a,b,c⟩:=hr;exact⟨E,F,Y,by rw[aa,u];exact a,b.ev h,by rw[aa];exact(h.own _ (rY a) c).2⟩
 |arr F g j=>obtain⟨E,a,b,c,d,e,f,z⟩:=hr;exact⟨E,by rw[aa,u];exact a,b,c,by rw[H];exact d,by rw[H];exact e,by rw[H];exact f,z.ev h⟩
 |lW F g j=>obtain⟨E,Y,a,b,c,d,e,f,z,i⟩:=hr;exact⟨E,Y,by rw[aa,u];exact a,b,c,by rw[H];exact d,by rw[H];exact e,by rw[H];exact f,z.ev h,by rw[aa];exact(h.own _ (rY a) i).2⟩
 |gT F g j=>obtain⟨E,a,b,c,d,e,f,z⟩:=hr;exact⟨E,by rw[aa,u];exact a,b,c,by rw[H];exact d,by rw[H];exact e,by rw[H];exact f,z.ev h⟩
 |map B j=>obtain⟨r,n,a,b,c⟩:=hr;exact⟨r,n,by rw[aa,u];exact a,b,λi q v e x y=>let ⟨p,z,g1,g2,g3⟩:=c i q v e x y;⟨p.ev h,z,g1,g2,g3.ev h⟩⟩
 |fmap B j=>obtain⟨r,n,a,b,c,d⟩:=hr;exact⟨r,n,by rw[aa,u];exact a,b,λi q v e x y=>let ⟨p,z,g1,g2,g3⟩:=c i q v e x y;⟨p.ev h,z,g1,g2,g3.ev h⟩,by rw[aa];exact(h.own _ (rY a) d).2⟩
theorem o5.lt{m:aX}{id:Nat}{o:eN}(hr:o5 m id o):m.σ id<m.w.heap.size:=by
 cases o with
 |var A=>obtain⟨E,F,a,_⟩:=hr;exact rY a
 |fvar A=>obtain⟨E,F,Y,a,_⟩:=hr;exact rY a
 |arr F g j=>obtain⟨E,a,_⟩:=hr;exact rY a
 |lW F g j=>obtain⟨E,Y,a,_⟩:=hr;exact rY a
 |gT F g j=>obtain⟨E,a,_⟩:=hr;exact rY a
 |map n j=>obtain⟨h,f,a,_⟩:=hr;exact rY a
 |fmap n j=>obtain⟨h,f,a,_⟩:=hr;exact rY a
theorem o5.calm{m:aX}{id:Nat}{o:eN}(hr:o5 m id o)(ho:o.eV=false):¬m.own (m.σ id):=by
 cases o with
 |fvar A=>obtain⟨E,F,Y,_,_,c⟩:=hr;exact c
 |lW F g j=>obtain⟨E,Y,_,_,_,_,_,_,_,c⟩:=hr;exact c
 |fmap f j=>obtain⟨_,_,_,_,_,c⟩:=hr;exact c
 |_=>simp[eN.eV]at ho
end
variable{m:aX}
variable {O:World}
section
variable{m:aX}
structure gD (w w':World):Prop where
 os:w'.os=w.os
 tape:w'.tape=w.tape
 output:w'.output=w.output
 size:w.heap.size<=w'.heap.size
 keep:∀c,c<w.heap.size->w'.heap[c]?=w.heap[c]?
theorem gD.refl(w:World):gD w w:=⟨rfl,rfl,rfl,cH _,λ_ _=>rfl⟩
theorem gD.trans{a b c:World}(h:gD a b)(k:gD b c):gD a c:=
 ⟨k.os.trans h.os,k.tape.trans h.tape,k.output.trans h.output,jO h.size k.size,λx H=>(k.keep x (vF H h.size)).trans (h.keep x H)⟩
theorem gD.alloc(w:World)(o:Obj):gD w (w.alloc o):=⟨rfl,rfl,rfl,aG,λ_ h=>heap_alloc_old w o h⟩
theorem gD.drew(w:World):gD w w.drew:=⟨rfl,rfl,rfl,cH _,λ_ _=>rfl⟩
def aX.later(m:aX)(L:World)(X:Nat->Prop):aX:={m with w:=L,fr:=λc=>m.fr c\/X c}
theorem VG{X:Nat->Prop}{c:Nat}:(m.later L X).own c↔m.own c\/X c:=by
 unfold aX.own aX.eV aX.later;constructor
 .rintro ((h|h)|h)
  .exact .inl (.inl h)
  .exact .inr h
  exact .inl (.inr h)
 rintro((h|h)|h)
 .exact .inl (.inl h)
 .exact .inr h
 exact .inl (.inr h)
theorem DO{L:World}{X:Nat->Prop}(hg:gD m.w L)(f:∀c,X c->m.w.heap.size<=c):eY m (m.later L X) where
 os:=hg.os
 tape:=hg.tape
 output:=hg.output
 size:=hg.size
 keep c H _:=hg.keep c H
 eV c _ h:=h
 less c H g h:=by
  rcases VG.1 h with h|h
  .exact g h
  have:=f c h;omega
 gen _:=cH _
 ref _ _ aa:=⟨aa,rfl,rfl,rfl⟩
theorem GX{L:World}{X:Nat->Prop}(h:c9 O m)(hg:gD m.w L)(g:∀c,X c->m.w.heap.size<=c/\c<L.heap.size):c9 O (m.later L X) where
 os:=hg.os.trans h.os
 tape:=hg.tape.trans h.tape
 output:=hg.output.trans h.output
 size:=jO h.size hg.size
 base c H:=(hg.keep c (vF H h.size)).trans (h.base c H)
 obj id o ho:=(h.obj id o ho).ev (DO hg λc H=>(g c H).1).zero rfl rfl (hg.keep _ (h.obj id o ho).lt)
 dA id o ho hm:=by
  refine⟨(h.dA id o ho hm).1,?_⟩;rintro(f|j)
  .exact(h.dA id o ho hm).2 f
  have n:=(g _ j).1;have q:=(h.obj id o ho).lt;simp only[aX.later]at n;omega
 frlt c H:=by
  rcases H with f|j
  .exact vF (h.frlt c f) hg.size
  exact(g c j).2
 inj:=h.inj
def aX.install(m:aX)(s c k:Nat)(o:eN):aX:=⟨m.w,cQ m.blk s ((m.blk s).1+1,some o),cQ m.σ s c,cQ m.κ s k,λx=>m.fr x/\x≠c⟩
theorem abw{s c k:Nat}{o:eN}{x:Nat}(h:(m.install s c k o).eV x):x=c\/m.eV x:=by
 obtain⟨id,O,ho,hm,f⟩:=h;simp only[aX.install,bj]at ho f;by_cases H:id=s
 .simp only[H,if_true]at f;exact .inl f.symm
 simp only[H,if_false]at ho f;exact .inr ⟨id,O,ho,hm,f⟩
theorem LA{s c k:Nat}{o:eN}(H:m.fr c){x:Nat}(h:(m.install s c k o).own x):m.own x:=by
 rcases h with h|h
 .exact .inl h.1
 rcases abw h with rfl|h
 .exact .inl H
 exact .inr h
theorem LM{M:aX}{s c k:Nat}{o:eN}(h:eY m M)(n:M.fr c)(f:m.w.heap.size<=c\/m.eV c):eY m (M.install s c k o) where
 os:=h.os
 tape:=h.tape
 output:=h.output
 size:=h.size
 keep:=h.keep
 eV x j hm:=by
  rcases abw hm with rfl|hm
  .rcases f with f|f
   .omega
   exact f
  exact h.eV x j hm
 less x j D hm:=h.less x j D (LA n hm)
 gen id:=by
  simp only[aX.install,bj];have:=h.gen id;split
  .rename_i e;subst e;simp only;omega
  exact this
 ref id g aa:=by
  have hg:=h.gen id;simp only[aX.install,bj]at g aa |-;by_cases H:id=s
  .subst H;simp only[if_true]at g;omega
  simp only[H,if_false]at g aa |-;exact h.ref id g aa
theorem KN{s c k:Nat}{o:eN}(h:c9 O m)(r:m.fr c)(N:O.heap.size<=c)(ho:o5 (m.install s c k o) s o):c9 O (m.install s c k o):=by
 have A:∀x,x<m.w.heap.size-> ¬m.own x->(m.install s c k o).w.heap[x]?=m.w.heap[x]? /\ ¬(m.install s c k o).own x:=λx _ L=>⟨rfl,λh=>L (LA r h)⟩
 have F:re m (m.install s c k o):=by
  refine⟨A,λid=>?_,λid f aa=>?_⟩
  .simp only[aX.install,bj];split
   .rename_i e;subst e;simp only;omega
   exact cH _
  simp only[aX.install,bj]at f aa |-;by_cases H:id=s
  .subst H;simp only[if_true]at f;omega
  simp only[H,if_false]at f aa |-;exact⟨aa,trivial,trivial,trivial⟩
 exact{
  os:=h.os
  tape:=h.tape
  output:=h.output
  size:=h.size
  base:=h.base
  obj:=by
   intro id q j;by_cases H:id=s
   .subst H;simp only[aX.install,bj,if_true,fu]at j;exact j▸ho
   have aa:(m.install s c k o).σ id=m.σ id:=by simp[aX.install,bj,H]
   have Q:(m.install s c k o).κ id=m.κ id:=by simp[aX.install,bj,H]
   simp only[aX.install,bj,H,if_false]at j;exact(h.obj id q j).ev F aa Q rfl
  dA:=by
   intro id q j hm;by_cases H:id=s
   .subst H;simp only[aX.install,bj,if_true];exact⟨N,λh=>h.2 rfl⟩
   simp only[aX.install,bj,H,if_false]at j |-;exact⟨(h.dA id q j hm).1,λB=>(h.dA id q j hm).2 B.1⟩
  frlt:=λx D=>h.frlt x D.1
  inj:=by
   intro id E y v n z g M f;by_cases H:id=s<;>by_cases u:E=s
   .rw[H,u]
   .subst H;simp only[aX.install,bj,u,if_true,if_false]at g f;exact((h.dA E v g M).2 (f▸r)).elim
   .subst u;simp only[aX.install,bj,H,if_true,if_false]at n f;exact((h.dA id y n z).2 (f.symm▸r)).elim
   simp only[aX.install,bj,H,u,if_false]at n g f;exact h.inj id E y v n z g M f}
def aX.lV(m:aX)(id:Nat):aX:=⟨m.w,cQ m.blk id ((m.blk id).1,none),m.σ,m.κ,λc=>m.fr c\/c=m.σ id⟩
theorem aff{id:Nat}{o:eN}(ho:(m.blk id).2=some o)(hm:o.eV){x:Nat}(h:(m.lV id).own x):m.own x:=by
 rcases h with(h|h)|⟨E,O,f,j,g⟩
 .exact .inl h
 .exact .inr ⟨id,o,ho,hm,h.symm⟩
 simp only[aX.lV,bj]at f g;by_cases H:E=id
 .simp[H]at f
 simp only[H,if_false]at f;exact .inr ⟨E,O,f,j,g⟩
theorem Es{id:Nat}{o:eN}(ho:(m.blk id).2=some o)(hm:o.eV):eY m (m.lV id) where
 os:=rfl
 tape:=rfl
 output:=rfl
 size:=cH _
 keep _ _ _:=rfl
 eV x _ h:=by
  obtain⟨E,O,f,n,j⟩:=h;simp only[aX.lV,bj]at f j;by_cases H:E=id
  .simp[H]at f
  simp only[H,if_false]at f;exact⟨E,O,f,n,j⟩
 less x _ q h:=q (aff ho hm h)
 gen E:=by
  simp only[aX.lV,bj];split
  .rename_i e;subst e;exact cH _
  exact cH _
 ref E g aa:=by
  simp only[aX.lV,bj]at g aa |-;by_cases H:E=id
  .simp[H]at aa
  simp only[H,if_false]at g aa |-;exact⟨aa,trivial,trivial,trivial⟩
theorem Yd{id:Nat}{o:eN}(h:c9 O m)(ho:(m.blk id).2=some o)(hm:o.eV):c9 O (m.lV id) where
 os:=h.os
 tape:=h.tape
 output:=h.output
 size:=h.size
 base:=h.base
 obj E n f:=by
  simp only[aX.lV,bj]at f;by_cases H:E=id
  .simp[H]at f
  simp only[H,if_false]at f;exact(h.obj E n f).ev (Es ho hm).zero rfl rfl rfl
 dA E n f g:=by
  simp only[aX.lV,bj]at f |-;by_cases H:E=id
  .simp[H]at f
  simp only[H,if_false]at f;refine⟨(h.dA E n f g).1,?_⟩;rintro(j|j)
  .exact(h.dA E n f g).2 j
  exact H (h.inj E id n o f g ho hm j)
 frlt c y:=by
  rcases y with j|rfl
  .exact h.frlt c j
  exact(h.obj id o ho).lt
 inj r F z x f v g M q:=by
  simp only[aX.lV,bj]at f g q;by_cases H:r=id
  .simp[H]at f
  by_cases u:F=id
  .simp[u]at g
  simp only[H,u,if_false]at f g;exact h.inj r F z x f v g M q
def aX.hU(m:aX)(L:World)(id:Nat)(o:eN):aX:=⟨L,cQ m.blk id ((m.blk id).1,some o),m.σ,m.κ,m.fr⟩
section
variable {m:aX} {L:World} {id:Nat} {o old:eN} (ho:(m.blk id).2=some old) (hm:old.eV)
include ho hm
theorem aqN{x:Nat}(h:(m.hU L id o).own x):m.own x:=by
 rcases h with h|⟨E,O,f,j,g⟩
 .exact .inl h
 simp only[aX.hU,bj]at f g;by_cases H:E=id
 .exact .inr ⟨id,old,ho,hm,H▸g⟩
 simp only[H,if_false]at f;exact .inr ⟨E,O,f,j,g⟩
theorem D5(n:jl ((m.blk id).1,some o)=jl ((m.blk id).1,some old))(T:L.os=m.w.os)(u:L.tape=m.w.tape)(y:L.output=m.w.output)(aa:L.heap.size=m.w.heap.size)
  (v:∀c,c≠m.σ id->L.heap[c]?=m.w.heap[c]?):eY m (m.hU L id o) where
 os:=T
 tape:=u
 output:=y
 size:=B8 aa.symm
 keep c _ g:=v c λe=>g ⟨id,old,ho,hm,e.symm⟩
 eV x _ h:=by
  obtain⟨E,O,j,r,f⟩:=h;simp only[aX.hU,bj]at j f;by_cases H:E=id
  .exact⟨id,old,ho,hm,H▸f⟩
  simp only[H,if_false]at j;exact⟨E,O,j,r,f⟩
 less x _ g h:=g (aqN ho hm h)
 gen E:=by
  simp only[aX.hU,bj];split
  .rename_i e;subst e;exact cH _
  exact cH _
 ref E q D:=by
  simp only[aX.hU,bj]at q D |-;by_cases H:E=id
  .subst H;refine⟨by simp[ho],trivial,trivial,?_⟩;simp only[if_true];rw[n,<-ho]
  simp only[H,if_false]at q D |-;exact⟨D,trivial,trivial,trivial⟩
theorem F0(h:c9 O m)(x:jl ((m.blk id).1,some o)=jl ((m.blk id).1,some old))(T:L.os=m.w.os)(z:L.tape=m.w.tape)(N:L.output=m.w.output)(aa:L.heap.size=m.w.heap.size)
  (q:∀c,c≠m.σ id->L.heap[c]?=m.w.heap[c]?) (Q:o5 (m.hU L id o) id o):c9 O (m.hU L id o) where
 os:=T.trans h.os
 tape:=z.trans h.tape
 output:=N.trans h.output
 size:=jO h.size (B8 aa.symm)
 base c v:=by have:=(h.dA id old ho hm).1;exact(q c J).trans (h.base c v)
 obj E j f:=by
  simp only[aX.hU,bj]at f;by_cases H:E=id
  .subst H;simp only[if_true,fu]at f;exact f▸Q
  simp only[H,if_false]at f;refine(h.obj E j f).ev (D5 ho hm x T z N aa q).zero rfl rfl (q _ λe=>?_);cases y:j.eV with
  |true=>exact H (h.inj E id j old f y ho hm e)
  |false=>exact(h.obj E j f).calm y (.inr ⟨id,old,ho,hm,e.symm⟩)
 dA E j f g:=by
  simp only[aX.hU,bj]at f |-;by_cases H:E=id
  .subst H;exact h.dA E old ho hm
  simp only[H,if_false]at f;exact h.dA E j f g
 frlt c v:=by rw[show(m.hU L id o).w.heap.size=m.w.heap.size from aa];exact h.frlt c v
 inj r F D B f A g M n:=by
  simp only[aX.hU,bj]at f g n;by_cases H:r=id<;>by_cases u:F=id
  .rw[H,u]
  .simp only[u,if_false]at g;exact H▸h.inj id F old B ho hm g M (H▸n)
  .simp only[H,if_false]at f;exact u▸h.inj r id D old f A ho hm (u▸n)
  simp only[H,u,if_false]at f g;exact h.inj r F D B f A g M n
end
end
def Gy:Value->Option PV
 | .bool b=>some (.bool b)
 | .int k n=>some (.int k n)
 | .string s=>some (.str s)
 | .pointer none=>some .uu
 | .slice none 0 0=>some .nils
 | .map none=>some .oE
 | .nilFunc=>some .tj
 | .nilIface=>some .nili
 |_=>none
def CS:List Value->Option c_
 |[]=>some []
 |v::r=>match Gy v,CS r with
  |some x,some M=>some (x::M)
  |_,_=>none
def TK:Value->Option V
 | .agg A=>(CS A.toList).map λl=>.agg (l.map .p)
 |v=>(Gy v).map λx=>.one (.p x)
def cE:Operand->Option dR
 | .tmp t=>some (.t t)
 | .const (.int .i64 n)=>some (.i n)
 | .const (.bool b)=>some (.b b)
 | .const v=>(TK v).map .k
 | .func f=>some (.k (.one (.p (.fn f [] []))))
 | .global _=>none
def ns:List Operand->Option kH
 |[]=>some []
 |a::r=>match cE a,ns r with
  |some x,some M=>some (x::M)
  |_,_=>none
def tS:Option Operand->Option (Option dR)
 |none=>some none
 |some a=>(cE a).map some
def uy(P:Program)(t:TypeId):Option c_:=
 match P.info? t with
 |some i=>match i.zero with
  |some (.agg A)=>if A.size=i.size then CS A.toList else none
  |some v=>if i.size=1 then(Gy v).map λx=>[x]else none
  |none=>none
 |none=>none
def nX(P:Program)(t:TypeId):Option my:=
 match P.underlying t,P.info? t with
 |some (.struct _),some i=>some (some i.size)
 |some (.array _ _),some i=>some (some i.size)
 |some _,some i=>if i.size=1 then some none else none
 |_,_=>none
def sL(P:Program)(t:TypeId):my:=(P.info? t).map (·.size)
def w_(place:Nat->Option (Nat×Nat))(z:Nat):List (Nat×Operand)->Option (List (Nat×Nat×dR))
 |[]=>some []
 |(i,x)::r=>match place i,cE x,w_ place z r with
  |some (B,n),some a,some q=>if B+n<=z then some ((B,n,a)::q)else none
  |_,_,_=>none
def Ez:Nat->List (Nat×Operand)->Option kH
 |_,[]=>some []
 |k,(i,x)::r=>match cE x,Ez (k+1) r with
  |some a,some q=>if i=k then some (a::q)else none
  |_,_=>none
def Mt(P:Program)(t:TypeId):Option Bool:=
 match P.underlying t with
 |some (.int _)=>some true
 |some .bool=>some false
 |_=>none
def DH(P:Program):Nat->List Field->Option eo
 |_,[]=>some []
 |k,f::r=>match Mt P f.type,DH P (k+1) r with
  |some b,some B=>if f.offset=k/\f.name≠ "_" then some (b::B)else none
  |_,_=>none
def EL:Operand->Bool
 | .const .nilIface=>true
 |_=>false
def Gm(P:Program)(t:TypeId)(x y:Operand):Option r_:=
 match P.underlying t with
 |some (.interface _)=>if EL x||EL y then some .ifc else none
 |some .bool=>some .bool
 |some (.pointer _)=>some .ptr
 |some (.slice _)=>some .slc
 |some (.map _ _)=>some .map
 |some (.func _ _ _)=>some .fnc
 |some (.struct fs)=>if !P.stoodInHeld t&& !P.eqGuardType P.depth t then(DH P 0 fs.toList).map .str else none
 |_=>none
def vj(P:Program)(t:TypeId):Option (TypeId×Nat×Nat×c_):=
 match P.underlying t with
 |some (.slice e)=>match P.info? e,uy P e with
  |some i,some z=>if 0<i.size/\0<i.bytes then some (e,i.size,i.bytes,z)else none
  |_,_=>none
 |_=>none
def keyOf(P:Program)(k:TypeId):my:=
 match P.underlying k with
 |some (.int _)=>some 0
 |some .string=>some 1
 |some .bool=>some 2
 |_=>none
def KH(P:Program)(t:TypeId):Bool:=
 match P.info? t with
 |some i=>match i.zero with
  |some (.agg _)=>true
  |_=>false
 |none=>false
def Ay(P:Program)(j:Nat)(o:Oper):Option nK:=
 match o.op with
 | .move x=>(cE x).map .mj
 | .assign x=>(cE x).map .mj
 | .pick c a b=>match cE c,cE a,cE b with
  |some c,some a,some b=>some (.pick c a b)
  |_,_,_=>none
 | .alloc t=>(uy P t).map (.alloc j)
 | .box _ x=>(cE x).map (.box j)
 | .build t ps=>match P.underlying t,uy P t with
  |some (.struct fs),some z=>if fs.all λf=>(P.info? f.type).isSome then
    (w_ (λi=>(fs[i]?).map λf=>(f.offset,P.cellsOf f.type)) (I z) ps.toList).map (.build z)
   else none
  |some (.array _ e),some z=>match P.info? e with
   |some i=>(w_ (λk=>some (k*i.size,i.size)) (I z) ps.toList).map (.build z)
   |none=>none
  |_,_=>none
 | .buildSlice t n ps=>match vj P t,Ez 0 ps.toList with
  |some (e,g,_,_),some as=>if I as=n/\n*g<=16777216 then some (.Hr j e g as)else none
  |_,_=>none
 | .load t a=>match nX P t,cE a with
  |some k,some a=>some (.load k a)
  |_,_=>none
 | .store t a x=>match sL P t,cE a,cE x with
  |some n,some a,some x=>some (.store n a x)
  |_,_,_=>none
 | .nilCheck x=>(cE x).map .Jw
 | .binOp op t x y _=>match cE x,cE y with
  |some a,some b=>match P.underlying t with
   |some (.int _)=>some (.bin op a b)
   |some .string=>some (.bin op a b)
   |_=>match op,Gm P t x y with
    | .eql,some k=>some (.eqc k false a b)
    | .neq,some k=>some (.eqc k true a b)
    |_,_=>none
  |_,_=>none
 | .unOp op _ x=>match op with
  | .not=>(cE x).map (.un .not)
  | .neg=>(cE x).map (.un .neg)
  |_=>none
 | .convert s d x=>match P.underlying s,P.underlying d,cE x with
  |some (.int _),some (.int k),some a=>some (.conv k a)
  |some (.slice e),some .string,some a=>match P.underlying e with
   |some (.int .u8)=>some (.bstr a)
   |_=>none
  |_,_,_=>none
 | .makeFunc (.func f) a b=>match ns a.toList,ns b.toList with
  |some x,some y=>some (.mkfn f x y)
  |_,_=>none
 | .makeMap t none=>match P.underlying t with
  |some (.map _ e)=>(nX P e).map λk=>.mkmap j k.isSome
  |_=>none
 | .makeSlice t l c=>match vj P t,cE l,cE c with
  |some (e,g,bytes,z),some l,some c=>some (.Jq j e g bytes z l c)
  |_,_,_=>none
 | .slice t x lo H none=>match cE x,tS lo,tS H with
  |some a,some l,some h=>match P.underlying t with
   |some (.slice e)=>(sL P e).map λg=>.slice g a l h
   |some .string=>some (.sslice a l h)
   |_=>none
  |_,_,_=>none
 | .fieldAddr s x f=>match P.underlying s,cE x with
  |some (.struct fs),some a=>match fs[f]? with
   |some d=>if P.cellsOf d.type≠0 then some (.xK d.offset a)else none
   |none=>none
  |_,_=>none
 | .field t x f=>match P.underlying t,cE x with
  |some (.struct fs),some a=>match fs[f]? with
   |some d=>(nX P d.type).map λk=>.fld d.offset k a
   |none=>none
  |_,_=>none
 | .indexAddr t x i=>match cE x,cE i with
  |some a,some b=>match P.underlying t with
   |some (.slice e)=>(sL P e).map λg=>.Jc g a b
   |some (.array n e)=>(sL P e).map λg=>.G0 n g a b
   |_=>none
  |_,_=>none
 | .index t x i=>match cE x,cE i with
  |some a,some b=>match P.underlying t with
   |some (.array n e)=>match sL P e,nX P e with
    |some g,some k=>some (.aidx n g k a b)
    |_,_=>none
   |some .string=>some (.sidx a b)
   |_=>none
  |_,_=>none
 | .lookup t x k ok=>match P.underlying t,cE x,cE k with
  |some (.map A e),some a,some b=>match uy P e,nX P e with
   |some z,some q=>match keyOf P A with
    |some r=>if KH P e=q.isSome then some (.lookup r z q.isSome ok a b)else none
    |none=>none
   |_,_=>none
  |_,_,_=>none
 | .mapUpdate t m k v=>match P.underlying t,cE m,cE k,cE v with
  |some (.map A e),some a,some b,some c=>match nX P e with
   |some q=>(keyOf P A).map λr=>.mupd r q.isSome a b c
   |none=>none
  |_,_,_,_=>none
 | .insert t m k v=>match P.underlying t,cE m,cE k,cE v with
  |some (.map A e),some a,some b,some c=>match nX P e with
   |some q=>(keyOf P A).map λr=>.mupd r q.isSome a b c
   |none=>none
  |_,_,_,_=>none
 | .extract x i=>(cE x).map λa=>.extract a i
 | .call c=>match c.callee,ns c.args.toList with
  | .value f,some as=>(cE f).map λB=>.call j B as
  | .builtin .len,some [a]=>match c.argTypes[0]? with
   |some t=>match P.underlying t with
    |some .string=>some (.slen a)
    |some (.slice _)=>some (.Mh a)
    |some (.map _ _)=>some (.mlen a)
    |_=>none
   |none=>none
  | .builtin .append,some [a,b]=>match c.argTypes[0]?,c.argTypes[1]? with
   |some t,some u=>match vj P t with
    |some (e,g,bytes,_)=>if t=u/\c.argTypes.size=2 then some (.append j e g bytes a b)else none
    |none=>none
   |_,_=>none
  | .builtin .max,some [a,b]=>some (.max a b)
  | .builtin .min,some [a,b]=>some (.min a b)
  | .builtin .clear,some [a]=>match c.argTypes[0]? with
   |some t=>(vj P t).map λq=>.clear q.2.2.2 a
   |none=>none
  |_,_=>none
 |_=>none
def dR.tmps:dR->aA
 | .t n=>[n]
 |_=>[]
def zR:kH->aA
 |[]=>[]
 |a::r=>a.tmps++zR r
def Uq:Option dR->aA
 |some a=>a.tmps
 |none=>[]
def Vf:List (Nat×Nat×dR)->aA
 |[]=>[]
 |(_,_,a)::r=>a.tmps++Vf r
def nK.tmps:nK->aA
 | .mj x| .box _ x| .load _ x| .Jw x| .un _ x| .conv _ x| .bstr x| .xK _ x| .fld _ _ x| .extract x _| .slen x| .Mh x| .mlen x| .clear _ x=>x.tmps
 | .pick c a b=>c.tmps++a.tmps++b.tmps
 | .alloc _ _| .mkmap _ _| .bad=>[]
 | .build _ ps=>Vf ps
 | .Hr _ _ _ ps=>zR ps
 | .store _ a x| .bin _ a x| .eqc _ _ a x| .Jc _ a x| .G0 _ _ a x| .aidx _ _ _ a x| .sidx a x| .lookup _ _ _ _ a x| .append _ _ _ _ a x| .max a x| .min a x=>a.tmps++x.tmps
 | .mkfn _ a b=>zR a++zR b
 | .Jq _ _ _ _ _ a b=>a.tmps++b.tmps
 | .slice _ x a b| .sslice x a b=>x.tmps++Uq a++Uq b
 | .mupd _ _ a b c=>a.tmps++b.tmps++c.tmps
 | .call _ f as=>f.tmps++zR as
def iC.DW(o:iC):aA:=
 o.op.tmps++match o.guard with
  |some (t,_)=>[t]
  |none=>[]
def BI(a b:iC):Bool:=
 (match a.dst with
  |some d=> !b.DW.contains d&&b.dst !=some d
  |none=>true)&&
 (match b.dst with
  |some d=> !a.DW.contains d
  |none=>true)
def Ib(o:iC):Nat->en->Bool
 |_,[]=>true
 |j,x::r=>(o.anc.testBit j||BI x o)&&Ib o (j+1) r
def GK:en->en->Bool
 |[],_=>true
 |o::os,f=>Ib o 0 f&&GK os (f++[o])
def Cl(P:Program)(f:Nat)(o:Oper):nK:=(Ay P f o).getD .bad
def acV(n:Nat):my->Bool
 |some d=>decide (d<n)
 |none=>true
def U5(dst:Nat->my):Option (Nat×Bool)->Option (Option (Nat×Bool))
 |none=>some none
 |some (j,w)=>(dst j).map λt=>some (t,w)
def yQ(P:Program)(dst:Nat->my)(base n:Nat)(anc:Nat)(o:Oper):Option iC:=if acV n o.dst then(U5 dst o.guard).map λg=>⟨o.dst,Cl P base o,g,anc⟩else none
def tN(P:Program)(dst anc:Nat->my)(base n:Nat):Nat->List Oper->Option en
 |_,[]=>some []
 |i,o::r=>match yQ P dst ((base+i)*64) n ((anc i).getD 0) o,tN P dst anc base n (i+1) r with
  |some x,some M=>some (x::M)
  |_,_=>none
def Ep(ops:Array Oper):Bool:=(List.range ops.size).all λi=>match ops[i]? with
 |some o=>o.after.toList.all λe=> !Region.binds .any e||decide (e.on<i)
 |none=>true
def mQ(P:Program)(f n:Nat):Code->Option aO
 | .skip=>some .skip
 | .region id ops D=>
  let b:=if D then Region.before ops else #[]
  match tN P (λj=>(ops[j]?).bind (·.dst)) (λi=>b[i]?) ((f*1000+id)*1000) n 0 ops.toList with
  |some M=>if D then(if Ep ops&&GK M []then some (.region true M)else none)else some (.region false M)
  |none=>none
 | .seq a b=>match mQ P f n a,mQ P f n b with
  |some x,some y=>some (.seq x y)
  |_,_=>none
 | .cond c a b=>match cE c,mQ P f n a,mQ P f n b with
  |some c,some x,some y=>some (.cond c x y)
  |_,_,_=>none
 | .block id c=>(mQ P f n c).map (.block id)
 | .loop c=>(mQ P f n c).map .loop
 | .exit id=>some (.exit id)
 | .scope c=>mQ P f n c
 | .label _=>some .skip
 | .ret=>some .ret
 |_=>some .bad
def wz(P:Program):List ResultVar->Option (List (Nat×Option my))
 |[]=>some []
 | .tmp t::r=>(wz P r).map ((t,none):: ·)
 | .cell t F::r=>match nX P F,wz P r with
  |some k,some q=>some ((t,some k)::q)
  |_,_=>none
def y8(P:Program)(f:Nat):Option aU:=
 match P.funcs[f]? with
 |none=>none
 |some fn=>match fn.body with
  |none=>none
  |some c=>if fn.name== "runtime.NumGoroutine" then none else
   match mQ P f fn.ntmps c,wz P fn.results.toList with
   |some b,some r=>some ⟨fn.ntmps,r,b⟩
   |_,_=>none
variable {P:Program} {O:World}
section
variable{m:aX}{v:Value}
def iw(m:aX)(q:bD)(tmps:Array Value):Prop:=∀t,cg m (q t) (tmps.getD t undef)
theorem iw.ev{m':aX}(h:eY m m'){q:bD}{tmps:Array Value}(hr:iw m q tmps):iw m' q tmps:=λt=>(hr t).ev h.zero
theorem cg.one{c:b_}:cg m (.one c) v↔cY m c v:=Iff.rfl
theorem cg.agg:cg m (.agg A) v↔ ∃arr,v=.agg arr/\dn m A arr.toList:=Iff.rfl
theorem cg.of1{x:V}(h:mz m x v):cg m x v:=by
 cases x with
 |tup D=>exact h.elim
 |_=>exact h
theorem Uy{w:World}{own:Nat->Prop}{x:PV}(h:Gy v=some x):cl w own x v:=by
 unfold Gy at h;split at h<;>first
  |(cases h;constructor;done)
  |cases h
theorem abI{w:World}{own:Nat->Prop}:∀ {D:List Value}{M:c_},CS D=some M->dw w own M D:=by
 intro D
 induction D with
 |nil=>intro M h;simp[CS]at h;subst h;exact⟨rfl,λj x u a _=>by simp at a⟩
 |cons v r f=>
  intro M h;simp only[CS]at h;split at h
  .rename_i x y g H;cases h;obtain⟨hl,hr⟩:=f H;refine⟨by simp[hl],λj z u a b=>?_⟩;cases j with
   |zero=>simp at a b;subst a b;exact Uy g
   |succ j=>simp at a b;exact hr j z u a b
  cases h
theorem dw.Ac(h:dw m.w m.own M D):dn m (M.map .p) D:=by refine⟨by simp[h.1],λj x u a b=>?_⟩;simp only[gZ,dM]at a;obtain⟨y,H,rfl⟩:=a;exact .p (h.2 j y u H b)
theorem ahb{x:V}(h:TK v=some x):cg m x v:=by
 unfold TK at h;split at h
 .simp only[dM]at h;obtain⟨M,H,rfl⟩:=h;exact cg.agg.2 ⟨_,rfl,(abI H).Ac⟩
 simp only[dM]at h;obtain⟨y,H,rfl⟩:=h;exact cg.one.2 (.p (Uy H))
theorem eC{q:bD}{a:Act}(h:cE x=some y)(hr:iw m q a.tmps):cg m (ev q y) (a.eval x):=by
 unfold cE at h;split at h
 .cases h;exact hr _
 .cases h;exact cg.one.2 (.p (.int _ _))
 .cases h;exact cg.one.2 (.p (.bool _))
 .simp only[dM]at h;obtain⟨v,H,rfl⟩:=h;exact ahb H
 .cases h;exact cg.one.2 (.p (.fn #[] #[] rfl rfl (λj x u a=>by simp at a) (λj x u a=>by simp at a)))
 cases h
def aqs(P:Program)(ρ:Operand->Value)(o:Oper)(w:World)(x:Value)(L:World):Prop:=
 (execOp ρ o).run P w=.ok (.value x) L\/((execOp ρ o).run P w=.ok .skip L/\x=undef)
def ft(P:Program)(O:World)(ρ:Operand->Value)(o:Oper)(m:aX)(v:V)(u:iB):Prop:=∃x M,aqs P ρ o m.w x M.w/\c9 O M/\eY m M/\M.fr=m.fr/\M.blk=app u m.blk/\cg M v x
theorem ft.calm{ρ:Operand->Value}{o:Oper}{v:V}{x:Value}(h:c9 O m)(n:(execOp ρ o).run P m.w=.ok (.value x) m.w)(H:cg m v x):ft P O ρ o m v []:=
 ⟨x,m,.inl n,h,eY.refl m,rfl,rfl,H⟩
section
variable {m:aX} {q:bD} {a:Act} {o:Oper} (ay:c9 O m) (hr:iw m q a.tmps)
include ay hr
theorem aa0(ho:o.op=.move x\/o.op=.assign x)(h:cE x=some y):ft P O a.eval o m (ev q y) []:=
 .calm ay (by rcases ho with ho|ho<;>simp[execOp,ho]) (eC h hr)
theorem alq{c y:Operand}{t:Bool}(ho:o.op=.pick c x y)(j:cE c=some c')(n:cE x=some X)(H:cE y=some y')
  (f:ev q c'=.one (.p (.bool t))):ft P O a.eval o m (if t then ev q X else ev q y') []:=by
 have h:=eC j hr;rw[f]at h;obtain⟨⟩:cY m (.p (.bool t)) _:=h;rename_i hp;generalize g:a.eval c=b at hp;cases hp;refine .calm (x:=if t then a.eval x else a.eval y) ay ?_ ?_
 .simp[execOp,ho,g,asBool]
 cases t
 .exact eC H hr
 exact eC n hr
end
theorem zS{b:Bool}(h:cg m (.one (.p (.bool b))) v):v=.bool b:=by obtain⟨hp⟩:cY m _ v:=h;cases hp;rfl
theorem xX{k:IntKind}{n:Int}(h:cg m (.one (.p (.int k n))) v):v=.int k n:=by obtain⟨hp⟩:cY m _ v:=h;cases hp;rfl
theorem Fb{s:ByteArray}(h:cg m (.one (.p (.str s))) v):v=.string s:=by obtain⟨hp⟩:cY m _ v:=h;cases hp;rfl
theorem Ji(h:cg m (.one (.p .nils)) v):v=.slice none 0 0:=by obtain⟨hp⟩:cY m _ v:=h;cases hp;rfl
theorem akQ(h:cg m (.one (.p .zs)) v):∃a,v=.slice a 0 0:=by obtain⟨hp⟩:cY m _ v:=h;cases hp;exact⟨_,rfl⟩
theorem aaG(h:cg m (.one (.p .oE)) v):v=.map none:=by obtain⟨hp⟩:cY m _ v:=h;cases hp;rfl
theorem k9{x:PV}(h:cl m.w m.own x v):cg m (.one (.p x)) v:=cg.one.2 (.p h)
def aX.fresh(m:aX)(O:Obj)(s k:Nat)(o:eN):aX:=(m.later (m.w.alloc O) (· =m.w.heap.size)).install s m.w.heap.size k o
theorem To(ay:c9 O m)(f:Obj)(s k:Nat)(o:eN):(m.fresh f s k o).fr=m.fr:=by
 funext c;simp only[aX.fresh,aX.install,aX.later];apply propext;constructor
 .rintro ⟨h|h,H⟩
  .exact h
  exact(H h).elim
 intro h;exact⟨.inl h,λe=>by have:=ay.frlt c h;omega⟩
theorem J4(O:Obj)(s k:Nat)(o:eN):eY m (m.fresh O s k o):=LM (DO (gD.alloc m.w O) λc h=>B8 h.symm) (.inr rfl) (.inl (cH _))
theorem aaU(O:Obj)(s k:Nat)(o:eN):(m.fresh O s k o).w.heap[(m.fresh O s k o).σ s]?=some O:=by
 have:(m.fresh O s k o).σ s=m.w.heap.size:=by simp[aX.fresh,aX.install,bj]
 rw[this];exact heap_alloc_new m.w O
theorem aaL(ay:c9 O m)(f:Obj)(s k:Nat)(o:eN)(ho:o5 (m.fresh f s k o) s o):c9 O (m.fresh f s k o):=KN (GX ay (gD.alloc m.w f) λc h=>by subst h;exact⟨cH _,aG⟩) (.inr rfl) ay.size ho
theorem ND(m:aX)(O:Obj)(s k:Nat)(o:eN):(m.fresh O s k o).blk=app [(s,((m.blk s).1+1,some o))] m.blk:=rfl
theorem XG(ay:c9 O m)(s:Nat)(t:TypeId)(A:dk)(arr:Array Value)(h:dn m A arr.toList):
  c9 O (m.fresh (.cells arr t) s 0 (.var A))/\cg (m.fresh (.cells arr t) s 0 (.var A)) (.one (.bg s ((m.blk s).1+1) 0)) (.pointer (some ⟨m.w.heap.size,0,none⟩)):=by
 refine⟨aaL ay _ s 0 _ ⟨arr,t,aaU _ s 0 _,h.ev (J4 _ s 0 _).zero⟩,cg.one.2 (.bg _ ?_ λ_ _=>?_)⟩
 .simp[aX.fresh,aX.install,aX.later,bj]
 simp[aX.fresh,aX.install,bj]
theorem Gk{t:TypeId}(h:uy P t=some z):∃v i,P.info? t=some i/\i.zero=some v/\v.cells.size=i.size/\I z=i.size/\ ∀w own,dw w own z v.cells.toList:=by
 unfold uy at h;split at h
 .rename_i i H;split at h
  .rename_i A g;split at h
   .rename_i aa;have hr:=λw own=>abI (w:=w) (own:=own) h;refine⟨_,i,H,g,by simpa [Value.cells]using aa,?_,λw own=>by simpa [Value.cells]using hr w own⟩;have:=(hr default (λ_=>False)).1;simp at this;omega
   cases h
  .rename_i v g n;split at h
   .rename_i aa;simp only[dM]at h;obtain⟨x,m,rfl⟩:=h;have hr:=λw own=>Uy (w:=w) (own:=own) m;have f:=(hr default (λ_=>False)).cells;refine⟨v,i,H,n,by simp[f,aa],by simp[aa],λw own=>?_⟩;rw[f];refine⟨rfl,λj y u a b=>?_⟩;cases j with
    |zero=>simp at a b;subst a b;exact hr w own
    |succ j=>simp at a
   cases h
  cases h
 cases h
section
variable {m:aX} {q:bD} {a:Act} {o:Oper} (ay:c9 O m) (hr:iw m q a.tmps)
include ay
theorem alL{t:TypeId}{s:Nat}(ho:o.op=.alloc t)(j:uy P t=some z):
  ft P O a.eval o m (.one (.bg s ((m.blk s).1+1) 0)) [(s,((m.blk s).1+1,some (.var (z.map .p))))]:=by
 obtain⟨v,i,H,h,aa,hl,D⟩:=Gk j;obtain⟨g,f⟩:=XG ay s t (z.map .p) v.cells (D m.w m.own).Ac;refine⟨_,_,.inl ?_,g,J4 _ s 0 _,To ay _ s 0 _,ND _ _ s 0 _,f⟩;simp[execOp,ho,Instr.alloc,zeroValue,typeInfo,H,h,newVar,newRow];rfl
include hr
theorem apW{t:TypeId}{s:Nat}(ho:o.op=.box t x)(r:cE x=some y)(H:qp (ev q y)=some A):
  ft P O a.eval o m (.one (.bg s ((m.blk s).1+1) 0)) [(s,((m.blk s).1+1,some (.var A)))]:=by
 have f:=eC r hr;have n:dn m A (a.eval x).cells.toList:=by
  generalize ev q y=w at H f;cases w with
  |undef=>simp[qp]at H
  |tup D=>simp[qp]at H
  |one c=>
   simp[qp]at H;subst H;rw[(cg.one.1 f).cells];refine⟨rfl,λj y u p Q=>?_⟩;cases j with
   |zero=>simp at p Q;subst p Q;exact f
   |succ j=>simp at p
  |agg z=>simp[qp]at H;subst H;obtain⟨arr,e,h⟩:=cg.agg.1 f;rw[e];exact h
 obtain⟨v,g⟩:=XG ay s t A _ n;refine⟨_,_,.inl ?_,v,J4 _ s 0 _,To ay _ s 0 _,ND _ _ s 0 _,g⟩;simp[execOp,ho,Instr.box,newVar,newRow];rfl
end
end
theorem Cz{α:Type}:∀ {j:List (List α)},(∀e∈j,I e=g)->I j.flatten=I j*g:=by
 intro j
 induction j with
 |nil=>intro _;simp
 |cons e r f=>intro h;have m:=h e aG;have H:=f λx n=>h x (by simp[n]);simp only[kT,ep,dE,m,H,gR,A2];omega
theorem B2{α:Type}:∀ {j:List (List α)},(∀e∈j,I e=g)->∀ {i:Nat}{e:List α},j[i]?=some e->∀ {m:Nat},m<g->j.flatten[i*g+m]?=e[m]? :=by
 intro j
 induction j with
 |nil=>intro _ i e h;simp at h
 |cons x r v=>
  intro h i e H m u;have f:=h x aG;cases i with
  |zero=>simp at H;subst H;simp only[kT,tt,ka];rw[zV J]
  |succ i=>simp at H;have n:=v (λy q=>h y (by simp[q])) H u;simp only[kT];rw[wM (by rw[f,gR];omega),<-n];congr 1;rw[f,gR];omega
theorem Gl{α:Type}{j:List (List α)}(h:∀e∈j,I e=g){i:Nat}{e:List α}(H:j[i]?=some e):I e=g:=h e (bY H)
theorem CR{w:World}{b k:Nat}(h:w.heap[b]?=some (.cells E F Y)):w.cell? ⟨b,k,none⟩=E[k]? :=cell_of_row w b k E F Y h
def w9 (m:aX)(v:Value)(A:dk):Prop:=∃b o D,v=.pointer (some ⟨b,o,none⟩)/\dn m A D/\ ∀(j:Nat) (u:Value),D[j]?=some u->m.w.cell? ⟨b,o+j,none⟩=some u
theorem w9.row{b o:Nat}(h:m.w.heap[b]?=some (.cells E F Y))(hl:o+I A<=E.size)
  (H:∀(j:Nat) (x:b_) (u:Value),A[j]?=some x->E[o+j]?=some u->cY m x u):w9 m (.pointer (some ⟨b,o,none⟩)) A:=by
 refine⟨b,o,(E.toList.drop o).take (I A),rfl,⟨by simp;omega,λj x u p q=>?_⟩,λj u q=>?_⟩
 .rw[lT]at q;split at q
  .exact H j x u p (by simpa using q)
  cases q
 rw[lT]at q;split at q
 .rw[CR h];simpa using q
 cases q
theorem adw(ay:c9 O m){x:V}{v:Value}{rd:aA}(h:x_ m.blk x=some (A,rd))(R:cg m x v):w9 m v A:=by
 unfold x_ at h;split at h
 .rename_i ps;simp only[fu,jU]at h;obtain⟨rfl,rfl⟩:=h;obtain⟨hp⟩:cY m _ v:=R;cases hp with
  |box b o f ho hc hr=>
   refine⟨b,o,(List.range (I ps)).map f,rfl,⟨aG,λD x u p q=>?_⟩,λD u q=>?_⟩
   .simp only[gZ,dM]at p q;obtain⟨y,X,rfl⟩:=p;obtain⟨k,T,rfl⟩:=q;have ad:k=D:=by
     rw[nH (by have:=ct.1 X;obtain⟨h,_⟩:=this;exact h)]at T
     simpa using T.symm
    subst ad;exact .p (hr k y X)
   simp only[gZ,dM]at q;obtain⟨k,T,rfl⟩:=q;have au:D<I ps:=by have:=ct.1 T;obtain⟨h,_⟩:=this;simpa using h
   rw[nH au]at T;simp at T;subst T;exact hc D _ (oO au)
 .rename_i id ak B;have R:cY m _ v:=R;cases R with
  |bg a hg N=>
   split at h
   .rename_i g' vR r;split at h
    .rename_i Q;simp only[fu,jU]at h;obtain⟨rfl,rfl⟩:=h;have M:(m.blk id).2=some (.var vR):=by rw[r]
     have N:=N (by rw[r];exact Q) (by rw[M];rfl);subst N;obtain⟨E,F,z,hl,hc⟩:=ay.obj id _ M;simp at hl;by_cases ho:B<=I vR
     .exact w9.row z (by simp;omega) λD x u p q=>hc (B+D) x u (by simpa using p) (by simpa using q)
     exact⟨_,_,[],rfl,⟨by simp;omega,λD x u p q=>by simp at q⟩,λD u q=>by simp at q⟩
    cases h
   .rename_i g' vR r;split at h
    .rename_i Q;simp only[fu,jU]at h;obtain⟨rfl,rfl⟩:=h;have M:(m.blk id).2=some (.fvar vR):=by rw[r]
     have N:=N (by rw[r];exact Q) (by rw[M];rfl);subst N;obtain⟨E,F,Y,z,hp,_⟩:=ay.obj id _ M;have hl:=hp.1;simp at hl;by_cases ho:B<=I vR
     .refine w9.row z (by simp;omega) λD x u p q=>?_;simp only[gZ,dM]at p;obtain⟨y,X,rfl⟩:=p;exact .p (hp.2 (B+D) y u (by simpa using X) (by simpa using q))
     exact⟨_,_,[],rfl,⟨by simp;omega,λD x u p q=>by simp at q⟩,λD u q=>by simp at q⟩
    cases h
   cases h
 .rename_i id ak i B;have R:cY m _ v:=R;cases R with
  |dr a hg N=>
   have ab:∀(g:Nat) (e:dk) (E:Array Value) (F:TypeId) (Y:Nat×Nat),m.w.heap[m.σ id]?=some (.cells E F Y)->I e=g->(i+1)*g<=E.size->
     a=⟨m.σ id,i*g+B,none⟩->(∀(D:Nat) (x:b_) (u:Value),e[D]?=some x->E[i*g+D]?=some u->cY m x u)->w9 m (.pointer (some a)) (e.drop B):=by
    intro g e E F Y z L au tZ hc;subst tZ;rw[gR,A2]at au;by_cases ho:B<=I e
    .exact w9.row z (by simp;omega) λD x u p q=>hc (B+D) x u (by simpa using p) (by rw[<-zt];exact q)
    exact⟨_,_,[],rfl,⟨by simp;omega,λD x u p q=>by simp at q⟩,λD u q=>by simp at q⟩
   have pure:∀(F g:Nat) (j:dC) (e:c_) (E:Array Value) (Y:Nat×Nat),m.w.heap[m.σ id]?=some (.cells E F Y)->(∀e∈j,I e=g)->I j*g<=E.size->
     dw m.w m.own j.flatten (E.toList.take (I j*g))->j[i]?=some e->a=⟨m.σ id,i*g+B,none⟩->w9 m (.pointer (some a)) ((e.drop B).map .p):=by
    intro F g j e E Y z n ag Z L tZ;have dr:=Gl n L;have H:i<I j:=(ct.1 L).1;have dV:(i+1)*g<=I j*g:=j6 _ H;rw[Lq];refine ab g (e.map .p) E F Y z (by simpa using dr) J tZ λD x u p q=>?_;simp only[gZ,dM]at p;obtain⟨y,X,rfl⟩:=p;have hj:D<g:=by have:=(ct.1 X).1;omega
    refine .p (Z.2 (i*g+D) y u (by rw[B2 n L hj];exact X) ?_);rw[gR]at dV;rw[lT,aM J]
    simpa using q
   split at h
   .rename_i g' F g j r;split at h
    .rename_i Q;simp only[dM,jU]at h;obtain⟨e,L,rfl,rfl⟩:=h;have M:(m.blk id).2=some (.arr F g j):=by rw[r]
     obtain⟨E,z,kX,n,hl,hm,cX,Z⟩:=ay.obj id _ M;exact pure F g j e E _ z n (by rw[cX];exact j6 _ hl) Z L (N g (by rw[r];exact Q) (by rw[r];rfl))
    cases h
   .rename_i g' F g j r;split at h
    .rename_i Q;simp only[dM,jU]at h;obtain⟨e,L,rfl,rfl⟩:=h;have M:(m.blk id).2=some (.lW F g j):=by rw[r]
     obtain⟨E,Y,z,kX,n,hl,hm,cX,Z,_⟩:=ay.obj id _ M;exact pure F g j e E _ z n (by rw[cX];exact j6 _ hl) Z L (N g (by rw[r];exact Q) (by rw[r];rfl))
    cases h
   .rename_i g' F g j r;split at h
    .rename_i Q;simp only[dM,jU]at h;obtain⟨e,L,rfl,rfl⟩:=h;have M:(m.blk id).2=some (.gT F g j):=by rw[r]
     obtain⟨E,z,kX,n,hl,hm,cX,Z⟩:=ay.obj id _ M;have dr:=Gl n L;have H:i<I j:=(ct.1 L).1;have dV:(i+1)*g<=I j*g:=j6 _ H;have Yy:I j*g<=m.κ id*g:=j6 _ hl;refine ab g e E F _ z dr J (N g (by rw[r];exact Q) (by rw[r];rfl)) λD x u p q=>?_;have hj:D<g:=by have:=(ct.1 p).1;omega
     refine Z.2 (i*g+D) x u (by rw[B2 n L hj];exact p) ?_;rw[gR]at dV;rw[lT,aM J]
     simpa using q
    cases h
   cases h
 cases h
theorem amA{t:TypeId}(h:nX P t=some (some n)):∃d i,P.underlying t=some d/\P.info? t=some i/\i.size=n/\((∃fs,d=.struct fs)\/ ∃k e,d=.array k e):=by
 unfold nX at h;split at h
 .rename_i fs i f H;simp at h;exact⟨_,i,f,H,h,.inl ⟨fs,rfl⟩⟩
 .rename_i k e i f H;simp at h;exact⟨_,i,f,H,h,.inr ⟨k,e,rfl⟩⟩
 .split at h<;>simp at h
 cases h
theorem aoh{t:TypeId}(h:nX P t=some none):∃d i,P.underlying t=some d/\P.info? t=some i/\i.size=1/\(∀fs,d≠ .struct fs)/\ ∀k e,d≠ .array k e:=by
 unfold nX at h;split at h
 .simp at h
 .simp at h
 .rename_i d i n N f H;split at h
  .rename_i aa;exact⟨_,_,f,H,aa,λfs e=>n fs e,λk E e=>N k E e⟩
  cases h
 cases h
theorem abR{t:TypeId}(h:nX P t=some (some n))(w:World):(isAgg t).run P w=.ok true w/\(sizeOf t).run P w=.ok n w:=by
 obtain⟨d,i,g,H,j,f⟩:=amA h;constructor
 .rcases f with⟨fs,rfl⟩|⟨k,e,rfl⟩<;>simp[isAgg,run_underlying g]
 simp[sizeOf,typeInfo,H,j]
theorem aaZ{t:TypeId}(h:nX P t=some none)(w:World):(isAgg t).run P w=.ok false w/\(sizeOf t).run P w=.ok 1 w:=by
 obtain⟨d,i,g,H,m,f,j⟩:=aoh h;constructor
 .cases d<;>first
   |exact(f _ rfl).elim
   |exact(j _ _ rfl).elim
   |simp[isAgg,run_underlying g]
 simp[sizeOf,typeInfo,H,m]
theorem ady{t:TypeId}{k:my}(L:nX P t=some k){v:Value}(h:w9 m v A){x:V}(H:ob k A=some x):
  ∃a y,v=.pointer (some a)/\(loadVar t a).run P m.w=.ok y m.w/\cg m x y:=by
 obtain⟨b,o,D,rfl,E,z⟩:=h;cases k with
 |none=>
  obtain⟨g,B⟩:=aaZ L m.w;cases A with
  |nil=>simp[ob]at H
  |cons c r=>
   simp[ob]at H;subst H;obtain⟨hl,hr⟩:=E;cases D with
   |nil=>simp at hl
   |cons u us=>have F:=z 0 u rfl;refine⟨_,u,rfl,?_,cg.one.2 (hr 0 c u rfl rfl)⟩;rw[w4]at F;simp[loadVar,g,F]
 |some n=>
  obtain⟨g,B⟩:=abR L m.w;simp only[ob]at H;split at H
  .rename_i N;cases H;obtain⟨hl,hr⟩:=E;refine⟨_,.agg (D.take n).toArray,rfl,?_,cg.agg.2 ⟨_,rfl,by simp;omega,λj x u p q=>?_⟩⟩
   .have f:I (D.take n)=n:=by simp;omega
    have:=run_loadCells_list (P:=P) m.w ⟨b,o,none⟩ (D.take n) (λj u q=>by
     rw[Addr.add_lit];rw[lT]at q;split at q
     .exact z j u q
     cases q)
    rw[f]at this;simp[loadVar,g,B,this]
   rw[lT]at p;simp only[lT]at q;split at p
   .rename_i M;simp only[M,if_true]at q;exact hr j x u p q
   cases p
  cases H
section
variable {m:aX} {q:bD} {a:Act} {o:Oper} (ay:c9 O m) (hr:iw m q a.tmps)
include ay hr
theorem ape{t:TypeId}{k:my}{rd:aA}(ho:o.op=.load t x)(h:nX P t=some k)(r:cE x=some y)
  (n:x_ m.blk (ev q y)=some (A,rd)) (H:ob k A=some v):ft P O a.eval o m v []:=by
 obtain⟨u,y',g,f,j⟩:=ady h (adw ay n (eC r hr)) H;exact .calm ay (by simp[execOp,ho,g,Instr.loadAt,Instr.sureAddr,f]) j
theorem akr(ho:o.op=.nilCheck x)(r:cE x=some y)(n:bU (λ_=>false) q m.blk (.Jw y)=.done v [] []):ft P O a.eval o m v []:=by
 have D:=eC r hr;simp only[bU]at n;split at n
 .rename_i j;rw[j]at D;cases n;have H:cY m _ (a.eval x):=D;generalize g:a.eval x=b at H D;cases H with
  |bg z hg h=>exact .calm ay (by simp[execOp,ho,g]) D
 .rename_i j;rw[j]at D;cases n;have H:cY m _ (a.eval x):=D;generalize g:a.eval x=b at H D;cases H with
  |dr z hg h=>exact .calm ay (by simp[execOp,ho,g]) D
 .rename_i j;rw[j]at D;cases n;have H:cY m _ (a.eval x):=D;generalize g:a.eval x=b at H D;cases H with
  |p hp=>cases hp with
   |box F Q f E R N=>exact .calm ay (by simp[execOp,ho,g]) D
 .rename_i j;rw[j]at D;cases n;have H:cY m _ (a.eval x):=D;generalize g:a.eval x=b at H D;cases H with
  |hfn A B u L T M=>exact .calm ay (by simp[execOp,ho,g]) D
 .rename_i j;rw[j]at D;cases n;have H:cY m _ (a.eval x):=D;generalize g:a.eval x=b at H D;cases H with
  |p hp=>cases hp with
   |fn A B u L T M=>exact .calm ay (by simp[execOp,ho,g]) D
 cases n
end
section
variable{D:List Value}{B:Nat}
theorem cl.norm{w:World}{own:Nat->Prop}{x:PV}{v:Value}(h:cl w own x v):cl w own x.norm v:=by
 cases h<;>first
  |exact .uB none 0 (λ_=>rfl) (bC _)
  |exact .uB _ 0 (λ_=>rfl) (bC _)
  |(simp only[PV.norm];constructor<;>assumption)
theorem amU{c:b_}{x:PV}{v:Value}(h:LG c=some x)(hr:cY m c v):cl m.w m.own x v:=by
 cases hr<;>simp[LG]at h
 rename_i hp;subst h;exact hp.norm
theorem EZ:∀ {A:dk}{M:c_}{D:List Value},xc A=some M->dn m A D->dw m.w m.own M D:=by
 intro A
 induction A with
 |nil=>intro M D h hr;simp[xc]at h;subst h;exact⟨hr.1,λj x u a=>by simp at a⟩
 |cons c r f=>
  intro M D h hr;simp only[xc]at h;split at h
  .rename_i x y g H;cases h;cases D with
   |nil=>simp[dn]at hr
   |cons v us=>
    obtain⟨hl,Z⟩:=f (D:=us) H ⟨by simpa using hr.1,λj x u a b=>hr.2 (j+1) x u (by simpa using a) (by simpa using b)⟩;refine⟨by simp[hl],λj z u a b=>?_⟩;cases j with
    |zero=>simp at a b;subst a b;exact amU g (hr.2 0 c v rfl rfl)
    |succ j=>simp at a b;exact Z j z u a b
  cases h
def Pw {α:Type}(R:α->Value->Prop)(M:List α)(D:List Value):Prop:=I D=I M/\ ∀(j:Nat) (x:α) (u:Value),M[j]?=some x->D[j]?=some u->R x u
theorem Pw.take{α:Type}{R:α->Value->Prop}{M:List α}(h:Pw R M D)(n:Nat):Pw R (M.take n) (D.take n):=by
 refine⟨by simp[h.1],λj x u a b=>?_⟩;rw[lT]at a b;split at a
 .rename_i H;rw[aM H]at b;exact h.2 j x u a b
 cases a
theorem Pw.drop{α:Type}{R:α->Value->Prop}{M:List α}(h:Pw R M D)(n:Nat):Pw R (M.drop n) (D.drop n):=
 ⟨by simp[h.1],λj x u a b=>h.2 (n+j) x u (by simpa using a) (by simpa using b)⟩
theorem Pw.append{α:Type}{R:α->Value->Prop}{M y:List α}(h:Pw R M D)(k:Pw R y us):Pw R (M++y) (D++us):=by
 refine⟨by simp[h.1,k.1],λj x u a b=>?_⟩;by_cases H:j<I M
 .rw[zV H]at a;rw[zV (by rw[h.1];exact H)]at b;exact h.2 j x u a b
 rw[wM J]at a;rw[wM (by rw[h.1];omega),h.1]at b;exact k.2 _ x u a b
theorem Pw.ez{α:Type}{R:α->Value->Prop}{M y:List α}(h:Pw R M D)(k:Pw R y us)(B:Nat):Pw R (ez M B y) (ez D B us):=by unfold Abs.ez;rw[k.1];exact((h.take B).append k).append (h.drop _)
theorem No{α:Type}{A M:List α}(h:B+I M<=I A):I (ez A B M)=I A:=by simp[ez];omega
theorem adz{α:Type}{A M:List α}(h:B+I M<=n)(H:n<=I A):(ez A B M).take n=ez (A.take n) B M:=by unfold ez;rw[MF,MF,D8,List.drop_take];simp only[ep,iU];rw[y_ (by omega:B<=I A),D8,y_ (by omega:B<=n),Nat.min_eq_right (by omega:B<=n)];have e:n-(B+I M)=n-(B+I M):=rfl;rw[eW (by omega:I M<=n-B)]
theorem aoa{α:Type}{a A M:List α}:ez (a++A) (I a+B) M=a++ez A B M:=by unfold ez;rw[MF,List.drop_append];simp only[jL];rw[eW (by omega:I a<=I a+B),Jn (by omega:I a<=I a+B+I M)];simp only[tz];have E:I a+B-I a=B:=J;have f:I a+B+I M-I a=B+I M:=J;rw[E,f]
theorem ae4{α:Type}{a A M:List α}(h:B+I M<=I a):ez (a++A) B M=ez a B M++A:=by unfold ez;rw[On J,List.drop_append_of_le_length J];simp
theorem anH{α:Type}{ps:List α}:∀ {j:List (List α)},(∀e∈j,I e=g)->∀ {i:Nat}{e:List α},j[i]?=some e->B+I ps<=g->
  (j.set i (ez e B ps)).flatten=ez j.flatten (i*g+B) ps:=by
 intro j
 induction j with
 |nil=>intro _ i e h;simp at h
 |cons x r n=>
  intro h i e H hl;have q:=h x aG;cases i with
  |zero=>simp at H;subst H;simp only[Tr,kT,tt,ka];rw[ae4 J]
  |succ i=>
   simp at H;simp only[List.set_cons_succ,kT];rw[n (λy f=>h y (by simp[f])) H hl];have m:(i+1)*g+B=I x+(i*g+B):=by rw[q,gR];omega
   rw[m,aoa]
theorem Na{w:World}{g:Nat}{new:Array Value}(h:w.heap[g]?=some (.cells E F Y)):(w.setRow g new).heap[g]?=some (.cells new F Y):=setRow_heap w g E new F Y h
theorem dn.pw:dn m A D↔Pw (cY m) A D:=Iff.rfl
theorem dw.pw{w:World}{own:Nat->Prop}{A:c_}:dw w own A D↔Pw (cl w own) A D:=Iff.rfl
theorem dn.one(h:dn m A D):∀v∈D,v.oneCell':=by
 intro v f;obtain⟨j,H⟩:=iA f;have g:j<I A:=by rw[<-h.1];exact(ct.1 H).1
 exact(h.2 j _ v (oO g) H).JB
theorem Sp{x:V}{v:Value}(h:qp x=some A)(hr:cg m x v):dn m A v.cells.toList:=by
 cases x with
 |undef=>simp[qp]at h
 |tup D=>simp[qp]at h
 |one c=>
  simp[qp]at h;subst h;rw[(cg.one.1 hr).cells];refine⟨rfl,λj y u p q=>?_⟩;cases j with
  |zero=>simp at p q;subst p q;exact hr
  |succ j=>simp at p
 |agg f=>simp[qp]at h;subst h;obtain⟨arr,e,h⟩:=cg.agg.1 hr;rw[e];exact h
section
variable {m:aX} {q:bD} {a:Act} {o:Oper} (ay:c9 O m) (hr:iw m q a.tmps)
include ay hr
theorem alO{t:TypeId}{v:Operand}{v':dR}{r:V}{rd:aA}(ho:o.op=.store t x v)(hn:sL P t=some n)(hx:cE x=some X)(hv:cE v=some v')
  (hc:qp (ev q v')=some A) (y:vH m.blk (ev q X) n A=.done r u rd):ft P O a.eval o m r u:=by
 have Z:=Sp hc (eC hv hr);have M:=eC hx hr;unfold sL at hn;simp only[dM]at hn;obtain⟨i,H,o9⟩:=hn;have T:(a.eval v).cells.toList.length=I A:=Z.1;simp only[Fp]at T;unfold vH at y;split at y
 .cases y
 rename_i D;have D:I A=n:=by simpa using D
 have L1:=Z.one;split at y
 .rename_i id am B he;rw[he]at M;have M:cY m _ (a.eval x):=M;generalize hb:a.eval x=b at M;cases M with
  |bg ad hg Q=>
   split at y
   .rename_i g' vR z;split at y
    .rename_i vW;obtain⟨ir,ab⟩:=vW;cases y;have N:(m.blk id).2=some (.var vR):=by rw[z]
     have Q:=Q (by rw[z];exact ir) (by rw[N];rfl);subst Q;obtain⟨E,F,hh,dd⟩:=ay.obj id _ N;have dt:=dd.1;simp at dt;have A5:B+0+(a.eval v).cells.toList.length<=E.size:=by simp;omega
     have R:=run_storeCells_at P (m.σ id) B F (a.eval v).cells.toList 0 E m.w hh A5 L1;simp only[w4]at R;generalize f:m.w.setRow (m.σ id) (E.toList.take B++(a.eval v).cells.toList++E.toList.drop (B+(a.eval v).cells.toList.length)).toArray=W at R;have AZ:W.heap.size=m.w.heap.size:=by rw[<-f];simp
     have AY:∀c,c≠m.σ id->W.heap[c]?=m.w.heap[c]? :=λc hc=>by rw[<-f];exact setRow_other m.w (m.σ id) c _ hc
     have Y:=D5 (L:=W) (o:=.var (ez vR B A)) N rfl (by simp[jl]) (by rw[<-f];rfl) (by rw[<-f];rfl) (by rw[<-f];rfl) AZ AY;have wA:o5 (m.hU W id (.var (ez vR B A))) id (.var (ez vR B A)):=by
      refine⟨_,F,by rw[<-f];exact Na hh,?_⟩;have:=dn.pw.2 ((dn.pw.1 (dd.ev Y.zero)).ez (dn.pw.1 (Z.ev Y.zero)) B)
      simpa [ez]using this
     refine⟨undef,m.hU W id (.var (ez vR B A)),.inr ⟨?_,rfl⟩,F0 N rfl ay (by simp[jl]) (by rw[<-f];rfl) (by rw[<-f];rfl) (by rw[<-f];rfl) AZ AY wA,Y,rfl,?_,rfl⟩
     .simp only[execOp,ho,hb,Instr.storeAt,Instr.sureAddr,storeVar,sizeOf,typeInfo];simp[H,T,D,o9,R,aX.hU]
     simp[aX.hU,app,z,ir]
    cases y
   cases y
 .rename_i id am i' B he;rw[he]at M;have M:cY m _ (a.eval x):=M;generalize hb:a.eval x=b at M;cases M with
  |dr ad hg Q=>
   split at y
   .rename_i g' F g j z;split at y
    .rename_i e ps u7 ve;split at y
     .rename_i vW;obtain⟨ir,ab⟩:=vW;cases y;have N:(m.blk id).2=some (.arr F g j):=by rw[z]
      have Q:=Q g (by rw[z];exact ir) (by rw[z];rfl);subst Q;obtain⟨E,hh,kX,ow,hl,hm,A1,dd⟩:=ay.obj id _ N;have dr:=Gl ow u7;have ag:i'<I j:=(ct.1 u7).1;have dV:(i'+1)*g<=I j*g:=j6 _ ag;have Yy:I j*g<=m.κ id*g:=j6 _ hl;rw[gR,A2]at dV;have ak:I ps=I A:=by rw[<-Z.1];exact(EZ ve Z).1.symm
      have A5:i'*g+B+0+(a.eval v).cells.toList.length<=E.size:=by simp;omega
      have R:=run_storeCells_at P (m.σ id) (i'*g+B) F (a.eval v).cells.toList 0 E m.w hh A5 L1;simp only[w4]at R;generalize f:m.w.setRow (m.σ id) (E.toList.take (i'*g+B)++(a.eval v).cells.toList++E.toList.drop (i'*g+B+(a.eval v).cells.toList.length)).toArray=W at R;have AZ:W.heap.size=m.w.heap.size:=by rw[<-f];simp
      have AY:∀c,c≠m.σ id->W.heap[c]?=m.w.heap[c]? :=λc hc=>by rw[<-f];exact setRow_other m.w (m.σ id) c _ hc
      have Y:=D5 (L:=W) (o:=.arr F g (j.set i' (ez e B ps))) N rfl (by simp[jl]) (by rw[<-f];rfl) (by rw[<-f];rfl) (by rw[<-f];rfl) AZ AY;have wA:o5 (m.hU W id (.arr F g (j.set i' (ez e B ps)))) id (.arr F g (j.set i' (ez e B ps))):=by
       refine⟨_,by rw[<-f];exact Na hh,kX,?_,by rw[jc];exact hl,hm,?_,?_⟩
       .intro e' CO;rcases Hc CO with h|h
        .exact ow e' h
        rw[h,No J];exact dr
       .simp[aX.hU];omega
       rw[jc,anH ow u7 J];have h1:=(dw.pw.1 (dd.ev Y.zero)).ez (dw.pw.1 ((EZ ve Z).ev Y.zero)) (i'*g+B);rw[<-adz (by simp;omega) (by simp;omega)]at h1;have h1:=dw.pw.2 h1
       simpa [ez]using h1
      refine⟨undef,m.hU W id (.arr F g (j.set i' (ez e B ps))),.inr ⟨?_,rfl⟩,F0 N rfl ay (by simp[jl]) (by rw[<-f];rfl) (by rw[<-f];rfl) (by rw[<-f];rfl) AZ AY wA,Y,rfl,?_,rfl⟩
      .simp only[execOp,ho,hb,Instr.storeAt,Instr.sureAddr,storeVar,sizeOf,typeInfo];simp[H,T,D,o9,R,aX.hU]
      simp[aX.hU,app,z,ir]
     cases y
    cases y
   cases y
 cases y
end
end
theorem uT{x:V}{v:Value}(h:oF x=some n)(hr:cg m x v):∃k,v=.int k (n:Int):=by
 unfold oF at h;split at h
 .rename_i k z;split at h
  .rename_i H;cases h;exact⟨k,by rw[xX hr,D0 H]⟩
  cases h
 cases h
theorem Jt{t:TypeId}(h:sL P t=some n)(w:World):(sizeOf t).run P w=.ok n w:=by unfold sL at h;simp only[dM]at h;obtain⟨i,H,rfl⟩:=h;simp[sizeOf,typeInfo,H]
section
variable {m:aX} {q:bD} {a:Act} {o:Oper} (ay:c9 O m) (hr:iw m q a.tmps)
include ay hr
theorem ak1{s:TypeId}{fs:Array Field}{d:Field}(ho:o.op=.fieldAddr s x f)(aa:P.underlying s=some (.struct fs))(hf:fs[f]?=some d)
  (R:P.cellsOf d.type≠0) (hx:cE x=some y) (u:bU (λ_=>false) q m.blk (.xK d.offset y)=.done v [] []):ft P O a.eval o m v []:=by
 have D:=eC hx hr;have Q:∃n,(sizeOf d.type).run P m.w=.ok n m.w/\n≠0:=by
  unfold Program.cellsOf at R;cases H:P.info? d.type with
  |none=>simp[H]at R
  |some i=>exact⟨i.size,by simp[sizeOf,typeInfo,H],by simpa [H]using R⟩
 obtain⟨n,hn,Y⟩:=Q;have run:∀F,a.eval x=.pointer (some F)->(execOp a.eval o).run P m.w=.ok (.value (.pointer (some (F.add d.offset)))) m.w:=by intro F X;simp[execOp,ho,X,Instr.fieldAt,run_underlying aa,hf,Instr.sureAddr,fieldPlace,hn,Y]
 simp only[bU]at u;split at u
 .rename_i id ab B L;rw[L]at D;cases u;have r:cY m _ (a.eval x):=D;generalize E:a.eval x=b at r;cases r with
  |bg F hg h=>exact .calm ay (run _ E) (cg.one.2 (.bg _ hg λN M=>by rw[h N M,Addr.add_lit]))
 .rename_i id ab i B L;rw[L]at D;cases u;have r:cY m _ (a.eval x):=D;generalize E:a.eval x=b at r;cases r with
  |dr F hg h=>exact .calm ay (run _ E) (cg.one.2 (.dr _ hg λg N M=>by rw[h g N M,Addr.add_lit,zt]))
 .rename_i A L;rw[L]at D;cases u;have r:cY m _ (a.eval x):=D;generalize E:a.eval x=b at r;cases r with
  |p hp=>cases hp with
   |box Z o' f' jP j9 T=>refine .calm ay (run _ E) (k9 ?_);rw[Addr.add_lit];refine .box Z (o'+d.offset) (λj=>f' (d.offset+j)) (λh=>jP λe=>h (by simp[e])) (λj z h=>?_) λj z h=>T _ z (by simpa using h);rw[zt];exact j9 _ z (by simpa using h)
 cases u
theorem aqg{t e:TypeId}{i:Operand}(ho:o.op=.indexAddr t x i)(ht:P.underlying t=some (.slice e))(aa:sL P e=some g)
  (hx:cE x=some X) (H:cE i=some i') (y:bU (λ_=>false) q m.blk (.Jc g X i')=.done v [] []):ft P O a.eval o m v []:=by
 have F:=eC hx hr;have Fy:=eC H hr;have run:∀L len N k (n:Nat),a.eval x=.slice (some L) len N->a.eval i=.int k (n:Int)->n<len->(execOp a.eval o).run P m.w=.ok (.value (.pointer (some (L.add (n*g))))) m.w:=by intro L len N k n Y Q h3;simp[execOp,ho,Y,Q,Instr.indexAt,asIntOf,run_underlying ht,Jt aa,h3]
 simp only[bU]at y;split at y
 .rename_i n j Z he;obtain⟨k,T⟩:=uT Z Fy;rw[he]at F;split at y
  .rename_i el dr;split at y
   .rename_i u;cases y;have E:cY m _ (a.eval x):=F;generalize R:a.eval x=b at E;cases E with
    |p hp=>
     generalize ee:(PV.sl j)=pv at hp;cases hp<;>first
      |cases ee
      |skip
     .simp at dr
     rename_i b' o' N D f wh jP qT A ng zL;have M:n<I j:=(ct.1 dr).1;have Tf:D=g:=by rw[<-Gl A dr];exact u
     subst Tf;refine .calm ay (run _ _ _ k n R T M) (k9 ?_);rw[Addr.add_lit];refine .box b' (o'+n*D) (λab=>f (n*D+ab)) (λh=>jP ?_) (λab z h=>?_) λab z h=>?_
     .intro e0;cases el with
      |nil=>exact h rfl
      |cons c r=>have:=B2 A dr (m:=0) (by rw[<-u];simp);rw[e0]at this;simp at this
     .have hj:ab<D:=by rw[<-u];exact(ct.1 h).1
      rw[zt];exact ng _ z (by rw[B2 A dr hj];exact h)
     have hj:ab<D:=by rw[<-u];exact(ct.1 h).1
     exact zL _ z (by rw[B2 A dr hj];exact h)
   cases y
  cases y
 .rename_i n id ag z B len Z he;obtain⟨k,T⟩:=uT Z Fy;rw[he]at F;split at y
  .rename_i M;cases y;have E:cY m _ (a.eval x):=F;generalize R:a.eval x=b at E;cases E with
   |hsl L N hg hl hm h=>refine .calm ay (run _ _ _ k n R T M.1) (cg.one.2 (.dr _ hg λs Y Q=>?_));obtain⟨e1,e2,_⟩:=h s Y Q;rw[e2 (.inr J),Addr.add_lit,e1,M.2];simp[gR]
  cases y
 cases y
theorem asj{t e:TypeId}{i:Operand}(ho:o.op=.indexAddr t x i)(Y:P.underlying t=some (.array ln e))(aa:sL P e=some g)
  (hx:cE x=some X) (H:cE i=some i') (f:bU (λ_=>false) q m.blk (.G0 ln g X i')=.done v [] []):ft P O a.eval o m v []:=by
 have D:=eC hx hr;have R:=eC H hr;have run:∀L k (n:Nat),a.eval x=.pointer (some L)->a.eval i=.int k (n:Int)->n<ln->(execOp a.eval o).run P m.w=.ok (.value (.pointer (some (L.add (n*g))))) m.w:=by intro L k n F u h3;simp[execOp,ho,F,u,Instr.indexAt,asIntOf,run_underlying Y,Jt aa,h3,Instr.sureAddr]
 simp only[bU]at f;split at f
 .rename_i n id ab B M N;obtain⟨k,E⟩:=uT M R;rw[N]at D;split at f
  .rename_i Q;cases f;have r:cY m _ (a.eval x):=D;generalize y:a.eval x=b at r;cases r with
   |bg L hg h=>exact .calm ay (run _ k n y E Q) (cg.one.2 (.bg _ hg λF u=>by rw[h F u,Addr.add_lit]))
  cases f
 .rename_i n id ab j B M N;obtain⟨k,E⟩:=uT M R;rw[N]at D;split at f
  .rename_i Q;cases f;have r:cY m _ (a.eval x):=D;generalize y:a.eval x=b at r;cases r with
   |dr L hg h=>exact .calm ay (run _ k n y E Q) (cg.one.2 (.dr _ hg λs F u=>by rw[h s F u,Addr.add_lit,zt]))
  cases f
 .rename_i n A M N;obtain⟨k,E⟩:=uT M R;rw[N]at D;split at f
  .rename_i Q;cases f;have r:cY m _ (a.eval x):=D;generalize y:a.eval x=b at r;cases r with
   |p hp=>cases hp with
    |box Z o' f' jP j9 T=>refine .calm ay (run _ k n y E Q) (k9 ?_);rw[Addr.add_lit];refine .box Z (o'+n*g) (λj=>f' (n*g+j)) (λh=>jP λe=>h (by simp[e])) (λj z h=>?_) λj z h=>T _ z (by simpa using h);rw[zt];exact j9 _ z (by simpa using h)
  cases f
 cases f
theorem abW{t:TypeId}{k:my}(D:nX P t=some k){arr:Array Value}(g:dn m A arr.toList){x:V}(h:ob k (A.drop B)=some x):
  ∃y,(part t arr B).run P m.w=.ok y m.w/\cg m x y:=by
 have O:=ay;have L:=hr;have hl:=g.1;simp at hl;cases k with
 |none=>
  obtain⟨f,z⟩:=aaZ D m.w;cases H:A.drop B with
  |nil=>simp[H,ob]at h
  |cons c r=>
   simp[H,ob]at h;subst h;have E:A[B]?=some c:=by
    have:=congrArg (·[0]?) H
    simpa using this
   have v:B<arr.size:=by rw[hl];exact(ct.1 E).1
   refine⟨arr[B],by simp[part,f,v],cg.one.2 (g.2 B c _ E (by simp[v]))⟩
 |some n=>
  obtain⟨f,z⟩:=abR D m.w;simp only[ob]at h;split at h
  .rename_i F;cases h;simp at F;refine⟨.agg (arr.extract B (B+n)),by simp[part,f,z],cg.agg.2 ⟨_,rfl,by simp;omega,λj x u p q=>?_⟩⟩;rw[lT]at p;split at p
   .rename_i N;simp at p;refine g.2 (B+j) x u p ?_;have v:B+j<I A:=(ct.1 p).1;have M:(arr.extract B (B+n)).toList=(arr.toList.drop B).take n:=aG;rw[M,lT,aM N,BD]at q;exact q
   cases p
  cases h
theorem ajB{t:TypeId}{fs:Array Field}{d:Field}{k:my}(ho:o.op=.field t x f)(aa:P.underlying t=some (.struct fs))(h:fs[f]?=some d)
  (n:nX P d.type=some k) (j:cE x=some y) (H:ev q y=.agg A) (r:ob k (A.drop d.offset)=some v):ft P O a.eval o m v []:=by
 have D:=eC j hr;rw[H]at D;obtain⟨arr,e,B⟩:=cg.agg.1 D;obtain⟨z,u,g⟩:=abW (ay:=ay) (hr:=hr) n B r;exact .calm ay (by simp[execOp,ho,e,Instr.field,run_underlying aa,h,asAgg,u]) g
theorem arf{t e:TypeId}{i:Operand}{k:my}(ho:o.op=.index t x i)(j:P.underlying t=some (.array ln e))(aa:sL P e=some g)
  (y:nX P e=some k) (r:cE x=some X) (H:cE i=some i') (u:oF (ev q i')=some n) (M:n<ln) (h:ev q X=.agg A) (B:ob k (A.drop (n*g))=some v):ft P O a.eval o m v []:=by
 have D:=eC r hr;obtain⟨N,Q⟩:=uT u (eC H hr);rw[h]at D;obtain⟨arr,F,L⟩:=cg.agg.1 D;obtain⟨z,E,f⟩:=abW (ay:=ay) (hr:=hr) y L B;exact .calm ay (by simp[execOp,ho,F,Q,Instr.index,asIntOf,run_underlying j,Jt aa,M,E]) f
theorem aoE{t:TypeId}{i:Operand}{s:ByteArray}{b:UInt8}(ho:o.op=.index t x i)(f:P.underlying t=some .string)
  (j:cE x=some X) (H:cE i=some i') (r:oF (ev q i')=some n) (h:ev q X=.one (.p (.str s))) (g:s[n]?=some b):ft P O a.eval o m (.one (.p (.int .u8 b.toNat))) []:=by
 have D:=eC j hr;obtain⟨u,Q⟩:=uT r (eC H hr);rw[h]at D;exact .calm ay (by simp[execOp,ho,Fb D,Q,Instr.index,asIntOf,run_underlying f,g]) (k9 (.int _ _))
end
theorem ar9{op:BinOp}{t:TypeId}{k f:IntKind}{x y:Int}{v:PV}(w:World)(g:k=f\/op=.shl\/op=.shr)(h:EN op k x y=some v):
  ∃u,(binOp op t (.int k x) (.int f y)).run P w=.ok u w/\ ∀own,cl w own v u:=by
 by_cases aa:op=.shl\/op=.shr
 .rcases aa with rfl|rfl
  .simp only[EN]at h;split at h
   .cases h
   rename_i H;cases h;exact⟨_,by simp[binOp,Op.shift,H],λown=>.int _ _⟩
  simp only[EN]at h;split at h
  .cases h
  rename_i H;cases h;exact⟨_,by simp[binOp,Op.shift,H],λown=>.int _ _⟩
 have q:k=f:=by
  rcases g with h|h
  .exact h
  exact(aa h).elim
 subst q;cases op<;>simp only[EN]at h<;>first
  |cases h
  |skip
 all_goals first
  |exact(aa (.inl rfl)).elim
  |exact(aa (.inr rfl)).elim
  |(exact⟨_,by simp[binOp,Op.intArith,Op.intCmp,Op.intBits],λown=>.int _ _⟩)
  |(exact⟨_,by simp[binOp,Op.intArith,Op.intCmp],λown=>.bool _⟩)
  |(split at h
    .cases h
    rename_i H;cases h;exact⟨_,by simp[binOp,Op.intDiv,H],λown=>.int _ _⟩)
theorem agw{op:BinOp}{t:TypeId}{x y:ByteArray}{v:PV}(w:World)(h:xf op x y=some v):
  ∃u,(binOp op t (.string x) (.string y)).run P w=.ok u w/\ ∀own,cl w own v u:=by
 cases op<;>simp only[xf]at h<;>first
  |cases h
  |skip
 all_goals first
  |exact⟨_,by simp[binOp,Op.stringOp],λown=>.bool _⟩
  |(split at h
    .rename_i hl;cases h;refine⟨.string (x++y),?_,λown=>.str _⟩;have:¬((x.size:Int)+(y.size:Int)>9223372036854775807):=J;simp[binOp,Op.stringOp,this]
    cases h)
section
variable {m:aX} {q:bD} {a:Act} {o:Oper} (ay:c9 O m) (hr:iw m q a.tmps)
include ay hr
theorem alx{op:BinOp}{t:TypeId}{y:Operand}(ho:o.op=.binOp op t x y F)(B:cE x=some X)(A:cE y=some y')
  (h:Ls op (ev q X) (ev q y')=some v):ft P O a.eval o m v []:=by
 have f:=eC B hr;have H:=eC A hr;unfold Ls at h;split at h
 .rename_i k p L Q E n;rw[E]at f;rw[n]at H;split at h
  .rename_i D;simp only[dM]at h;obtain⟨u,j,rfl⟩:=h;obtain⟨z,r,g⟩:=ar9 (P:=P) (t:=t) m.w D j;refine .calm ay ?_ (k9 (g _));have hg:(eqGuard op t x y (.int k p) (.int L Q)).run P m.w=.ok () m.w:=by cases op<;>simp[eqGuard]
   simp[execOp,ho,xX f,xX H,hg,r]
  cases h
 .rename_i p Q E n;rw[E]at f;rw[n]at H;simp only[dM]at h;obtain⟨u,j,rfl⟩:=h;obtain⟨z,r,g⟩:=agw (P:=P) (t:=t) m.w j;refine .calm ay ?_ (k9 (g _));have hg:(eqGuard op t x y (.string p) (.string Q)).run P m.w=.ok () m.w:=by cases op<;>simp[eqGuard]
  simp[execOp,ho,Fb f,Fb H,hg,r]
 cases h
theorem aon{t:TypeId}{b:Bool}(ho:o.op=.unOp .not t x)(f:cE x=some X)(H:ev q X=.one (.p (.bool b))):ft P O a.eval o m (.one (.p (.bool (!b)))) []:=by have h:=eC f hr;rw[H]at h;exact .calm ay (by simp[execOp,ho,zS h,Op.unary]) (k9 (.bool _))
theorem aec{t:TypeId}{k:IntKind}{n:Int}(ho:o.op=.unOp .neg t x)(f:cE x=some X)(H:ev q X=.one (.p (.int k n))):ft P O a.eval o m (.one (.p (.int k (k.wrap (0-n))))) []:=by have h:=eC f hr;rw[H]at h;exact .calm ay (by simp[execOp,ho,xX h,Op.unary,Op.intArith]) (k9 (.int _ _))
theorem al1{s d:TypeId}{g k f:IntKind}{n:Int}(ho:o.op=.convert s d x)(aa:P.underlying s=some (.int g))(H:P.underlying d=some (.int k))(r:cE x=some X)
  (j:ev q X=.one (.p (.int f n))):ft P O a.eval o m (.one (.p (.int k (k.wrap n)))) []:=by
 have h:=eC r hr;rw[j]at h;exact .calm ay (by simp[execOp,ho,xX h,convert,run_underlying aa,run_underlying H,Conv.intToInt]) (k9 (.int _ _))
theorem acN:∀ {M:List Operand}{Y:kH}{A:dk},ns M=some Y->tp q Y=some A->dn m A (M.map a.eval):=by
 have B:=ay;intro M
 induction M with
 |nil=>intro Y A H h;simp[ns]at H;subst H;simp[tp]at h;subst h;exact⟨rfl,λj x u p=>by simp at p⟩
 |cons x r n=>
  intro Y A H h;simp only[ns]at H;split at H
  .rename_i y f E D;cases H;simp only[tp]at h;split at h
   .rename_i c Q g v;cases h;obtain⟨hl,Z⟩:=n D v;refine⟨by simpa using hl,λj z u p Q=>?_⟩;cases j with
    |zero=>simp at p Q;subst p Q;have:=eC E hr;rw[g]at this;exact this
    |succ j=>simp at p Q;exact Z j z u p (by simpa using Q)
   cases h
  cases H
theorem afF{f:FuncId}{x y:Array Operand}{X y':kH}{D:dk}(ho:o.op=.makeFunc (.func f) x y)(r:ns x.toList=some X)(n:ns y.toList=some y')
  (v:tp q X=some A) (g:tp q y'=some D):ft P O a.eval o m (.one (.hfn f A D)) []:=by
 have H:=acN (ay:=ay) (hr:=hr) r v;have h:=acN (ay:=ay) (hr:=hr) n g;refine .calm (x:=.func (.func f) (x.map a.eval) (y.map a.eval)) ay (by simp[execOp,ho,Instr.makeFunc]) (cg.one.2 (.hfn _ _ ?_ ?_ ?_ ?_))
 .have:=H.1;simpa using this
 .have:=h.1;simpa using this
 .intro j z u p Q;exact H.2 j z u p (by rw[<-Array.toList_map,wQ];exact Q)
 intro j z u p Q;exact h.2 j z u p (by rw[<-Array.toList_map,wQ];exact Q)
theorem ar7{i:Nat}{D:c7}(ho:o.op=.extract x i)(j:cE x=some X)(f:ev q X=.tup D)(h:D[i]?=some v):ft P O a.eval o m v []:=by
 have H:=eC j hr;rw[f]at H;obtain⟨arr,e,hl,g⟩:=H;have A:i<arr.size:=by rw[hl];exact(ct.1 h).1
 exact .calm (x:=arr[i]) ay (by simp[execOp,ho,e,Instr.extract,A]) (.of1 (g i v _ h (by simp[A])))
theorem Xf{x:V}{v:Value}(h:vO x=some n)(H:cg m x v):∃A N,v=.slice A n N/\n<=N/\N<=maxLen:=by
 have g:=ay;have f:=hr;unfold vO at h;split at h
 .cases h;exact⟨none,0,Ji H,cH _,bC _⟩
 .cases h;obtain⟨hp⟩:cY m _ v:=H;rename_i j;generalize E:(PV.sl j)=r at hp;cases hp<;>cases E
  .exact⟨_,_,rfl,bC _,by assumption⟩
  exact⟨_,_,rfl,by assumption,by assumption⟩
 .cases h;have q:cY m _ v:=H;cases q with
  |hsl A N hg hl hm h=>exact⟨_,_,rfl,hl,hm⟩
 cases h
theorem ae5{c:Call}{t e:TypeId}(ho:o.op=.call c)(j:c.callee=.builtin .len)(h:c.args= #[x])(g:c.argTypes[0]?=some t)(f:P.underlying t=some (.slice e))
  (r:cE x=some X) (u:vO (ev q X)=some n):ft P O a.eval o m (.one (.p (.int .i64 n))) []:=by
 obtain⟨A,N,H,_,_⟩:=Xf (ay:=ay) (hr:=hr) u (eC r hr);refine .calm ay ?_ (k9 (.int _ _));simp[execOp,ho,resolve,j,h,invoke,builtin,Builtin.len_,g,H,run_underlying f,goInt]
theorem afh{c:Call}{t:TypeId}{s:ByteArray}(ho:o.op=.call c)(j:c.callee=.builtin .len)(h:c.args= #[x])(g:c.argTypes[0]?=some t)(f:P.underlying t=some .string)
  (n:cE x=some X) (r:ev q X=.one (.p (.str s))):ft P O a.eval o m (.one (.p (.int .i64 s.size))) []:=by
 have H:=eC n hr;rw[r]at H;refine .calm ay ?_ (k9 (.int _ _));simp[execOp,ho,resolve,j,h,invoke,builtin,Builtin.len_,g,Fb H,run_underlying f,goInt]
theorem aoF{c:Call}{y:Operand}{k r:IntKind}{p Q:Int}(ho:o.op=.call c)(n:c.callee=.builtin .max)(h:c.args= #[x,y])
  (u:cE x=some X) (H:cE y=some y') (j:ev q X=.one (.p (.int k p))) (f:ev q y'=.one (.p (.int r Q))):ft P O a.eval o m (.one (.p (.int k (if Q>p then Q else p)))) []:=by
 have g1:=eC u hr;have g:=eC H hr;rw[j]at g1;rw[f]at g;refine .calm ay ?_ (k9 (.int _ _));simp[execOp,ho,resolve,n,h,invoke,builtin,Builtin.max_,Builtin.max2,xX g1,xX g]
theorem ah7{c:Call}{y:Operand}{k r:IntKind}{p Q:Int}(ho:o.op=.call c)(n:c.callee=.builtin .min)(h:c.args= #[x,y])
  (u:cE x=some X) (H:cE y=some y') (j:ev q X=.one (.p (.int k p))) (f:ev q y'=.one (.p (.int r Q))):ft P O a.eval o m (.one (.p (.int k (if Q<p then Q else p)))) []:=by
 have g1:=eC u hr;have g:=eC H hr;rw[j]at g1;rw[f]at g;refine .calm ay ?_ (k9 (.int _ _));simp[execOp,ho,resolve,n,h,invoke,builtin,Builtin.min_,Builtin.min2,xX g1,xX g]
end
section
variable{g:Nat}
theorem asw:∀(u:iB) (blk:aB) (id:Nat),(app u blk id=blk id/\ ∀e∈u,e.1≠id)\/ ∃e∈u,e.1=id/\app u blk id=e.2:=by
 intro u
 induction u with
 |nil=>intro blk id;exact .inl ⟨rfl,λe h=>by simp at h⟩
 |cons x r m=>
  intro blk id;obtain⟨i,o⟩:=x;simp only[app];rcases m (cQ blk i o) id with⟨g,j⟩|⟨e,f,g,j⟩
  .by_cases H:id=i
   .exact .inr ⟨(i,o),aG,H.symm,by rw[g];simp[bj,H]⟩
   refine .inl ⟨by rw[g];simp[bj,H],λe f=>?_⟩;rcases dL.1 f with rfl|f
   .exact λh=>H h.symm
   exact j e f
  exact .inr ⟨e,by simp[f],g,j⟩
theorem D2{α β γ:Type}{f:α->Option (β×aA)}{R:α->γ->Prop}{T:β->γ->Prop}{good:aA->Prop}(m:∀a b,good (a++b)->good a/\good b)
  (H:∀a b r v,f a=some (b,r)->R a v->good r->T b v):∀ {M:List α}{y:List β}{r:aA}{D:List γ},fk f M=some (y,r)->good r->
  (I D=I M/\ ∀(j:Nat) (x:α) (u:γ),M[j]?=some x->D[j]?=some u->R x u)->(I D=I y/\ ∀(j:Nat) (x:β) (u:γ),y[j]?=some x->D[j]?=some u->T x u):=by
 intro M
 induction M with
 |nil=>intro y r D h _ hr;simp[fk]at h;obtain⟨rfl,rfl⟩:=h;exact⟨hr.1,λj x u a=>by simp at a⟩
 |cons x t B=>
  intro y r D h hg hr;simp only[fk]at h;split at h
  .rename_i b p F q A E;cases h;obtain⟨g1,g⟩:=m _ _ hg;cases D with
   |nil=>simp at hr
   |cons v us=>
    obtain⟨hl,n⟩:=B (D:=us) E g ⟨by simpa using hr.1,λj x u a b=>hr.2 (j+1) x u (by simpa using a) (by simpa using b)⟩;refine⟨by simp[hl],λj z u a b=>?_⟩;cases j with
    |zero=>simp at a b;subst a b;exact H _ _ _ _ A (hr.2 0 x v rfl rfl) g1
    |succ j=>simp at a b;exact n j z u a b
  cases h
def ny(m:aX)(own:Nat->Prop)(r:aA):Prop:=(∀b,own b->m.own b)/\ ∀id∈r,¬own (m.σ id)
theorem ny.app{own:Nat->Prop}{a b:aA}(h:ny m own (a++b)):ny m own a/\ny m own b:=
 ⟨⟨h.1,λid H=>h.2 id (by simp[H])⟩,⟨h.1,λid H=>h.2 id (by simp[H])⟩⟩
theorem cl.less{w:World}{own:Nat->Prop}(h:∀b,wV b->own b){x:PV}{v:Value}(hr:cl w own x v):cl w wV x v:=hr.mono λc _ H=>⟨rfl,λho=>H (h c ho)⟩
theorem dw.less{w:World}{own:Nat->Prop}(h:∀b,wV b->own b){x:c_}{v:List Value}(hr:dw w own x v):dw w wV x v:=⟨hr.1,λj x u a b=>(hr.2 j x u a b).less h⟩
theorem WD{α:Type}{M:List α}{R:α->Value->Prop}(h:Pw R M D):∃f:Nat->Value,∀(j:Nat) (x:α),M[j]?=some x->D[j]?=some (f j)/\R x (f j):=by
 refine⟨λj=>D.getD j undef,λj x H=>?_⟩;have A:j<I D:=by rw[h.1];exact(ct.1 H).1
 have:D[j]?=some (D.getD j undef):=by simp[List.getD,oO A]
 exact⟨this,h.2 j x _ H this⟩
theorem NS{w:World}{own:Nat->Prop}{b o:Nat}{ps:c_}(m:w.heap[b]?=some (.cells E F Y))(hp:Pw (cl w own) ps (E.toList.drop o |>.take (I ps)))
  (ho:ps≠[]-> ¬own b):cl w own (.box ps) (.pointer (some ⟨b,o,none⟩)):=by
 obtain⟨f,g⟩:=WD hp;refine .box b o f ho (λj x H=>?_) λj x H=>(g j x H).2;have h:=(g j x H).1;rw[lT]at h;split at h
 .rw[CR m];simpa using h
 cases h
theorem aaV{w:World}{own:Nat->Prop}{b o g:Nat}(q:w.heap[b]?=some (.cells E F Y))(m:∀e∈j,I e=g)
  (hl:I j<=N) (hm:N<=maxLen) (hp:Pw (cl w own) j.flatten ((E.toList.drop o).take (I j*g))) (ho:¬own b):cl w own (.sl j) (.slice (some ⟨b,o,none⟩) (I j) N):=by
 obtain⟨f,n⟩:=WD hp;refine .sl b o N g f (λ_=>ho) hl hm m (λr x H=>?_) λr x H=>(n r x H).2;have h:=(n r x H).1;rw[lT]at h;split at h
 .rw[CR q];simpa using h
 cases h
theorem Mf{α:Type}:∀ {j:List (List α)},(∀e∈j,I e=g)->∀(n:Nat),(j.drop n).flatten=j.flatten.drop (n*g):=by
 intro j
 induction j with
 |nil=>intro _ n;simp
 |cons e r f=>
  intro h n;cases n with
  |zero=>simp
  |succ n=>simp only[List.drop_succ_cons,kT];have H:=h e aG;rw[f (λx m=>h x (by simp[m])),List.drop_append,Jn (by rw[H,gR];omega:I e<=(n+1)*g),tz];congr 1;rw[H,gR];omega
theorem C7{α:Type}:∀ {j:List (List α)},(∀e∈j,I e=g)->∀(n:Nat),(j.take n).flatten=j.flatten.take (n*g):=by
 intro j
 induction j with
 |nil=>intro _ n;simp
 |cons e r f=>
  intro h n;cases n with
  |zero=>simp
  |succ n=>simp only[M_,kT];have H:=h e aG;rw[f (λx m=>h x (by simp[m])),MF,eW (by rw[H,gR];omega:I e<=(n+1)*g)];congr 1;congr 1;rw[H,gR];omega
theorem AL{α:Type}{R:α->Value->Prop}{len:Nat}{j:List (List α)}{E:List Value}(m:∀e∈j,I e=g)(h:Pw R j.flatten (E.take (I j*g)))(H:B+len<=I j):
  Pw R ((j.drop B).take len).flatten ((E.drop (B*g)).take (I ((j.drop B).take len)*g)):=by
 have u:∀e∈j.drop B,I e=g:=λe q=>m e (rj q);have f:I ((j.drop B).take len)=len:=by simp;omega
 rw[f,C7 u,Mf m];have n:=(h.drop (B*g)).take (len*g);have r:((E.take (I j*g)).drop (B*g)).take (len*g)=(E.drop (B*g)).take (len*g):=by
  rw[List.drop_take,D8];congr 1;have:B*g+len*g<=I j*g:=by rw[<-gR];exact j6 _ H
  omega
 rw[r]at n;exact n
theorem Oa{α:Type}{R:α->Value->Prop}:∀ {ps:List (List α)}{E:List Value},(∀e∈ps,I e=g)->I ps*g<=I E->
  (∀(j:Nat) (e:List α),ps[j]?=some e->Pw R e ((E.drop (j*g)).take g))->Pw R ps.flatten (E.take (I ps*g)):=by
 intro ps
 induction ps with
 |nil=>intro E _ _ _;exact⟨aG,λj x u a=>by simp at a⟩
 |cons e r q=>
  intro E h hl hp;simp only[dE,gR,A2]at hl;have m:=hp 0 e rfl;rw[tt,List.drop_zero]at m;have v:=q (E:=E.drop g) (λx H=>h x (by simp[H])) (by simp;omega) λj x H=>by have:=hp (j+1) x (by simpa using H);rw[gR,A2]at this;rw[List.drop_drop,Nat.add_comm g];exact this
  have f:=m.append v;have n:E.take g++(E.drop g).take (I r*g)=E.take (I (e::r)*g):=by rw[dE,gR,A2,Nat.add_comm,List.take_add]
  rw[n]at f;exact f
theorem PS{α:Type}{R:α->Value->Prop}{i:Nat}{j:List (List α)}{e:List α}{E:List Value}(f:∀e∈j,I e=g)(h:Pw R j.flatten (E.take (I j*g)))(m:j[i]?=some e):
  Pw R e ((E.drop (i*g)).take g):=by
 have H:i<I j:=(ct.1 m).1;have n:=AL (B:=i) (len:=1) f h J;have q:((j.drop i).take 1)=[e]:=by rw[Ly H];have:=(ct.1 m).2;simp[this]
 rw[q]at n
 simpa using n
theorem Tx{α β:Type}{f:α->Option (β×aA)}:∀ {M:List α}{y:List β}{r:aA},fk f M=some (y,r)->I y=I M:=by
 intro M
 induction M with
 |nil=>intro y r h;simp[fk]at h;rw[h.1];rfl
 |cons x t g=>
  intro y r h;simp only[fk]at h;split at h
  .rename_i b p B q j E;cases h;simp[g E]
  cases h
theorem Sb{α β:Type}{f:α->Option (β×aA)}:∀ {M:List α}{Y:List β}{r:aA},fk f M=some (Y,r)->∀ {j:Nat}{y:β},Y[j]?=some y->∃x q,M[j]?=some x/\f x=some (y,q)/\ ∀i∈q,i∈r:=by
 intro M
 induction M with
 |nil=>intro Y r h j y g;simp[fk]at h;rw[h.1]at g;simp at g
 |cons x t u=>
  intro Y r h j y g;simp only[fk]at h;split at h
  .rename_i b p B q E z;cases h;cases j with
   |zero=>simp at g;subst g;exact⟨x,p,rfl,E,λi H=>by simp[H]⟩
   |succ j=>simp at g;obtain⟨X,Q,v,m,n⟩:=u z g;exact⟨X,Q,by simpa using v,m,λi H=>by simp[n i H]⟩
  cases h
theorem Df(ay:c9 O m){own:Nat->Prop}:∀(n:Nat) {c:b_}{x:PV}{r:aA}{v:Value},snap m.blk n c=some (x,r)->cY m c v->ny m own r->cl m.w own x v:=by
 intro n
 induction n with
 |zero=>intro c x r v h;simp[snap]at h
 |succ n ih=>
  intro c x r v h hr aa;have LP:∀ {A:dk}{ps:c_}{q:aA}{D:List Value},fk (snap m.blk n) A=some (ps,q)->ny m own q->Pw (cY m) A D->Pw (cl m.w own) ps D:=λZ h2 h3=>D2 (R:=cY m) (T:=cl m.w own) (good:=ny m own) (λa b h=>h.app) (λa b r v e1 e2 e3=>ih e1 e2 e3) Z h2 h3
  have LW:∀ {ps:c_}{D:List Value},dw m.w m.own ps D->Pw (cl m.w own) ps D:=λh=>dw.pw.1 (h.less aa.1);unfold snap at h;cases c with
  |p y=>simp at h;obtain⟨rfl,rfl⟩:=h;obtain⟨hp⟩:=hr;exact hp.norm.less aa.1
  |bg id ar B=>
   cases hr with
   |bg a hg ha=>
    simp only at h;split at h
    .rename_i g' A Q;split at h
     .rename_i ir;split at h
      .rename_i ps q hq;cases h;have bc:(m.blk id).2=some (.var A):=by rw[Q]
       have ha:=ha (by rw[Q];exact ir) (by rw[bc];rfl);subst ha;obtain⟨E,F,hh,hc⟩:=ay.obj id _ bc;have hp:=LP hq ⟨aa.1,λi H=>aa.2 i (by simp[H])⟩ (dn.pw.1 hc);refine NS hh ?_ λ_=>aa.2 id aG;have Z:=hp.drop B;have h2:(E.toList.drop B).take (I (ps.drop B))=E.toList.drop B:=eW (by have:=Z.1;omega);rw[h2];exact Z
      cases h
     cases h
    .rename_i g' ps Q;split at h
     .rename_i ir;cases h;have bc:(m.blk id).2=some (.fvar ps):=by rw[Q]
      have ha:=ha (by rw[Q];exact ir) (by rw[bc];rfl);subst ha;obtain⟨E,F,Y,hh,hc,_⟩:=ay.obj id _ bc;refine NS hh ?_ λ_=>aa.2 id aG;have Z:=(LW hc).drop B;have h2:(E.toList.drop B).take (I (ps.drop B))=E.toList.drop B:=eW (by have:=Z.1;omega);rw[h2];exact Z
     cases h
    cases h
  |dr id ar i B=>
   cases hr with
   |dr a hg ha=>
    have ab:∀(F g:Nat) (j:dC) (e:c_) (E:Array Value) (Y:Nat×Nat),m.w.heap[m.σ id]?=some (.cells E F Y)->(∀e∈j,I e=g)->I j*g<=E.size->
      dw m.w m.own j.flatten (E.toList.take (I j*g))->j[i]?=some e->a=⟨m.σ id,i*g+B,none⟩-> ¬own (m.σ id)->cl m.w own (.box (e.drop B)) (.pointer (some a)):=by
     intro F g j e E Y hh M ad dd he tZ dh;subst tZ;have dr:=Gl M he;have H:i<I j:=(ct.1 he).1;have dV:(i+1)*g<=I j*g:=j6 _ H;have Z:=(AL (B:=i) (len:=1) M (LW dd) J).drop B;have h0:((j.drop i).take 1)=[e]:=by rw[Ly H];have:=(ct.1 he).2;simp[this]
     rw[h0]at Z;simp only[kT,Js,jE,dE,eR,ka,A2]at Z;refine NS hh ?_ λ_=>dh;have h2:(E.toList.drop (i*g+B)).take (I (e.drop B))=(((E.toList.drop (i*g)).take g).drop B):=by rw[List.drop_take,List.drop_drop,BO,dr]
     rw[h2];exact Z
    simp only at h;split at h
    .rename_i g' F g j Q;split at h
     .rename_i ir;simp only[dM,jU]at h;obtain⟨e,he,rfl,rfl⟩:=h;have bc:(m.blk id).2=some (.arr F g j):=by rw[Q]
      obtain⟨E,hh,kX,M,hl,hm,cX,dd⟩:=ay.obj id _ bc;exact ab F g j e E _ hh M (by rw[cX];exact j6 _ hl) dd he (ha g (by rw[Q];exact ir) (by rw[Q];rfl)) (aa.2 id aG)
     cases h
    .rename_i g' F g j Q;split at h
     .rename_i ir;simp only[dM,jU]at h;obtain⟨e,he,rfl,rfl⟩:=h;have bc:(m.blk id).2=some (.lW F g j):=by rw[Q]
      obtain⟨E,Y,hh,kX,M,hl,hm,cX,dd,_⟩:=ay.obj id _ bc;exact ab F g j e E _ hh M (by rw[cX];exact j6 _ hl) dd he (ha g (by rw[Q];exact ir) (by rw[Q];rfl)) (aa.2 id aG)
     cases h
    cases h
  |hsl id ar z B len=>
   cases hr with
   |hsl a N hg hl hm ha=>
    have ab:∀(F g:Nat) (j:dC) (E:Array Value) (Y:Nat×Nat),m.w.heap[m.σ id]?=some (.cells E F Y)->(∀e∈j,I e=g)->Pw (cl m.w own) j.flatten (E.toList.take (I j*g))->
      B+len<=I j->(B=0\/0<len->a=⟨m.σ id,B*g,none⟩)-> ¬own (m.σ id)->cl m.w own (.sl ((j.drop B).take len)) (.slice (some a) len N):=by
     intro F g j E Y hh M dd ap tZ dh;by_cases ad:len=0
     .subst ad;simp only[Mn];exact .uB _ _ (λh=>by cases h) hm
     have:=tZ (.inr J);subst this;have an:I ((j.drop B).take len)=len:=by simp;omega
     have Z:=aaV (N:=N) (own:=own) (o:=B*g) (j:=(j.drop B).take len) hh (g:=g) (λe he=>M e (rj (qM he))) J hm (AL M dd ap) dh;rw[an]at Z;exact Z
    simp only at h;split at h
    .rename_i g' F g j Q;split at h
     .rename_i hc;cases h;have bc:(m.blk id).2=some (.arr F g j):=by rw[Q]
      obtain⟨E,hh,kX,M,qT,wh,cX,dd⟩:=ay.obj id _ bc;exact ab F g j E _ hh M (LW dd) hc.2 (by obtain⟨_,h2,_⟩:=ha g (by rw[Q];exact hc.1) (by rw[Q];rfl);rename_i e1 _;exact e1▸h2) (aa.2 id aG)
     cases h
    .rename_i g' F g j Q;split at h
     .rename_i hc;cases h;have bc:(m.blk id).2=some (.lW F g j):=by rw[Q]
      obtain⟨E,Y,hh,kX,M,qT,wh,cX,dd,_⟩:=ay.obj id _ bc;exact ab F g j E _ hh M (LW dd) hc.2 (by obtain⟨_,h2,_⟩:=ha g (by rw[Q];exact hc.1) (by rw[Q];rfl);exact h2) (aa.2 id aG)
     cases h
    .rename_i g' F g j Q;split at h
     .rename_i hc;split at h
      .rename_i ps q hq;cases h;have bc:(m.blk id).2=some (.gT F g j):=by rw[Q]
       obtain⟨E,hh,kX,M,qT,wh,cX,dd⟩:=ay.obj id _ bc;have Td:=AL M (dn.pw.1 dd) hc.2;have I6:∀e∈(j.drop B).take len,I e=g:=λe he=>M e (rj (qM he));have an:I ((j.drop B).take len)=len:=by simp;omega
       have bd:I ps=len:=by rw[Tx hq,an]
       have am:len*g<=I (E.toList.drop (B*g)):=by
        simp;have Z:B*g+len*g<=I j*g:=by rw[<-gR];exact j6 _ hc.2
        have h2:I j*g<=m.κ id*g:=j6 _ qT;omega
       have me:∀(ak:Nat) (e:c_),ps[ak]?=some e->Pw (cl m.w own) e (((E.toList.drop (B*g)).drop (ak*g)).take g):=by intro ak e he;obtain⟨x,q',Z,h2,h3⟩:=Sb hq he;exact LP h2 ⟨aa.1,λi H=>aa.2 i (by simp[h3 i H])⟩ (PS I6 Td Z)
       have Bm:∀e∈ps,I e=g:=by
        intro e he;obtain⟨ak,hj⟩:=iA he;have:=(me ak e hj).1;have jm:ak<len:=by rw[<-bd];exact(ct.1 hj).1
        have Z:(ak+1)*g<=len*g:=j6 _ jm;rw[gR]at Z;simp at this am;omega
       by_cases ad:len=0
       .have:ps=[]:=VR J;subst this;subst ad;exact .uB _ _ (λh=>by cases h) hm
       obtain⟨_,h2,_⟩:=ha g (by rw[Q];exact hc.1) (by rw[Q];rfl);rename_i e1 _;have tZ:=h2 (.inr J);subst tZ;have qR:=aaV (N:=N) (own:=own) (o:=B*g) hh Bm J hm (Oa Bm (by rw[bd];exact am) me) (aa.2 id aG);rw[bd]at qR;exact qR
      cases h
     cases h
    cases h
  |km id ar=>
   cases hr with
   |km r' hg ha=>
    have ab:∀(ag:Bool) (j:cL) (L:Array MapEntry) (X:Nat),m.w.heap[m.σ id]?=some (.map L X)->L.size=I j->
      (∀(i:Nat) (q:PV) (v:c_) (e:MapEntry),j[i]?=some (q,v)->L[i]?=some e->cl m.w m.own q e.key/\ ∃ar:Array Value,(ag->e.val=.agg ar)/\(ag=false-> #[e.val]=ar)/\dw m.w m.own v ar.toList)->
      ¬own (m.σ id)->cl m.w own (.mp ag j) (.map (some (m.σ id))):=by
     intro ag j L X hh hl hc dh;have av:∃G:Nat->Array Value,∀(i:Nat) (q:PV) (v:c_) (e:MapEntry),j[i]?=some (q,v)->L[i]?=some e->(ag->e.val=.agg (G i))/\(ag=false-> #[e.val]=G i)/\dw m.w m.own v (G i).toList:=by
      refine⟨λi=>match L[i]? with|some e=>(match e.val with| .agg ar=>if ag then ar else #[e.val]|v=> #[v])|none=> #[],λi q v e Z h2=>?_⟩;obtain⟨_,ar,g1,g2,g3⟩:=hc i q v e Z h2;simp only[h2];cases ag with
      |true=>have:=g1 rfl;simp[this];exact g3
      |false=>
       have:=g2 rfl;subst this;refine⟨(λh=>by cases h),(λ_=>?_),?_⟩
       .cases e.val<;>rfl
       cases hv:e.val<;>simp only[hv]at g3<;>exact g3
     obtain⟨G,hG⟩:=av;refine .mp (m.σ id) L X G dh hh hl (λi q v e Z h2=>((hc i q v e Z h2).1).less aa.1) (λi q v e Z h2=>?_) λi q v ak x u Z h2 h3=>?_
     .obtain⟨a1,a2,a3⟩:=hG i q v e Z h2;exact⟨by have:=a3.1;simpa using this,a1,a2⟩
     have au:i<L.size:=by rw[hl];exact(ct.1 Z).1
     obtain⟨a1,a2,a3⟩:=hG i q v _ Z (Lz au);exact(a3.2 ak x u h2 (by rw[wQ];exact h3)).less aa.1
    simp only at h;split at h
    .rename_i g' ag j Q;split at h
     .rename_i ir;cases h;have bc:(m.blk id).2=some (.map ag j):=by rw[Q]
      have ha:=ha (by rw[Q];exact ir) (by rw[bc];rfl);subst ha;obtain⟨L,X,hh,hl,hc⟩:=ay.obj id _ bc;exact ab ag j L X hh hl hc (aa.2 id aG)
     cases h
    .rename_i g' ag j Q;split at h
     .rename_i ir;cases h;have bc:(m.blk id).2=some (.fmap ag j):=by rw[Q]
      have ha:=ha (by rw[Q];exact ir) (by rw[bc];rfl);subst ha;obtain⟨L,X,hh,hl,hc,_⟩:=ay.obj id _ bc;exact ab ag j L X hh hl hc (aa.2 id aG)
     cases h
    cases h
  |hfn f a b=>
   cases hr with
   |hfn az aE hA hB tc mf=>
    simp only at h;split at h
    .rename_i xa ra xb bK Z h2;cases h;obtain⟨s1,s2⟩:=aa.app;have p1:=LP (D:=az.toList) Z s1 ⟨by simpa using hA,λak x u p q=>tc ak x u p (by rw[<-wQ];exact q)⟩;have p2:=LP (D:=aE.toList) h2 s2 ⟨by simpa using hB,λak x u p q=>mf ak x u p (by rw[<-wQ];exact q)⟩;exact .fn az aE (by have:=p1.1;simpa using this) (by have:=p2.1;simpa using this) (λak x u p q=>p1.2 ak x u p (by rw[wQ];exact q)) λak x u p q=>p2.2 ak x u p (by rw[wQ];exact q)
    cases h
end
theorem aoQ{blk:aB}{all:aA}:∀ {l:aA}{u:iB},pT blk all l=some u->
  (∀e∈u,e.1∈l/\ ∃x,sR blk all e.1=some x/\e∈x)/\ ∀id∈l,∃x,sR blk all id=some x/\ ∀e∈x,e∈u:=by
 intro l
 induction l with
 |nil=>intro u h;simp[pT]at h;subst h;exact⟨λe h=>by simp at h,λid h=>by simp at h⟩
 |cons i r v=>
  intro u h;simp only[pT]at h;split at h
  .rename_i a b f n;cases h;obtain⟨g1,q⟩:=v n;have Y:∀e∈a,e.1=i:=by
    intro e H;unfold sR at f;split at f<;>first
     |(cases f;simp at H;subst H;rfl)
     |(split at f
       .split at f
        .cases f;simp at H;subst H;rfl
        cases f
       cases f)
     |(cases f;simp at H)
     |cases f
   refine⟨λe H=>?_,λid g=>?_⟩
   .rcases fB.1 H with H|H
    .exact⟨by simp[Y e H],a,by rw[Y e H];exact f,H⟩
    obtain⟨j,m⟩:=g1 e H;exact⟨by simp[j],m⟩
   rcases dL.1 g with rfl|g
   .exact⟨a,f,λe H=>by simp[H]⟩
   obtain⟨x,j,m⟩:=q id g;exact⟨x,j,λe H=>by simp[m e H]⟩
  cases h
def D3(blk:aB)(all:aA):eN->eN->Prop
 | .var A,.fvar ps=>∃r,fk (snap blk dS) A=some (ps,r)/\ ∀i∈r,i∈all
 | .arr F g j,.lW h D f=>h=F/\D=g/\f=j
 | .gT F g j,.lW h D ps=>h=F/\D=g/\ ∃r,fk (fk (snap blk dS)) j=some (ps,r)/\ ∀i∈r,i∈all
 | .map m j,.fmap q f=>q=m/\f=j
 |_,_=>False
theorem D3.facts{blk:aB}{all:aA}{o O:eN}(h:D3 blk all o O)(g:Nat):o.eV/\O.eV=false/\jl (g,some O)=jl (g,some o):=by
 cases o<;>cases O<;>simp only[D3]at h<;>first
  |exact h.elim
  |exact⟨rfl,rfl,rfl⟩
  |exact⟨rfl,rfl,by simp[jl,h.2.1]⟩
theorem abc{blk:aB}{all:aA}{id:Nat}{x:iB}(h:sR blk all id=some x):
  (∃o,(blk id).2=some o/\o.eV=false/\x=[])\/ ∃o O,(blk id).2=some o/\D3 blk all o O/\x=[(id,((blk id).1,some O))]:=by
 unfold sR at h;split at h
 .rename_i m A f;split at h
  .rename_i ps r q;split at h
   .rename_i D;cases h;refine .inr ⟨.var A,.fvar ps,by rw[f],⟨r,q,λi H=>?_⟩,by rw[f]⟩;have:=gL.1 D i H
    simpa using this
   cases h
  cases h
 .rename_i m F g j f;cases h;exact .inr ⟨.arr F g j,.lW F g j,by rw[f],⟨rfl,rfl,rfl⟩,by rw[f]⟩
 .rename_i m F g j f;split at h
  .rename_i ps r q;split at h
   .rename_i D;cases h;refine .inr ⟨.gT F g j,.lW F g ps,by rw[f],⟨rfl,rfl,r,q,λi H=>?_⟩,by rw[f]⟩;have:=gL.1 D i H
    simpa using this
   cases h
  cases h
 .rename_i m n j f;cases h;exact .inr ⟨.map n j,.fmap n j,by rw[f],⟨rfl,rfl⟩,by rw[f]⟩
 .cases h
 rename_i y z B u v N;cases h;cases f:blk id with
 |mk m o=>
  cases o with
  |none=>exact(N m f).elim
  |some o=>
   refine .inl ⟨o,rfl,?_,rfl⟩;cases o with
   |var A=>exact(z m A f).elim
   |arr F g j=>exact(B m F g j f).elim
   |gT F g j=>exact(u m F g j f).elim
   |map n j=>exact(v m n j f).elim
   |_=>rfl
def aX.with(m:aX)(u:iB):aX:={m with blk:=app u m.blk}
theorem td{ids:aA}(h:oa m.blk ids=some u)(id:Nat):
  ((m.with u).blk id=m.blk id/\(id∈ids->∃o,(m.blk id).2=some o/\o.eV=false))\/
  (id∈ids/\ ∃o O,(m.blk id).2=some o/\D3 m.blk ids o O/\(m.with u).blk id=((m.blk id).1,some O)):=by
 obtain⟨z,r⟩:=aoQ h;rcases asw u m.blk id with⟨E,j⟩|⟨e,y,E,j⟩
 .refine .inl ⟨E,λg=>?_⟩;obtain⟨x,v,H⟩:=r id g;rcases abc v with⟨o,a,b,_⟩|⟨o,O,a,b,c⟩
  .exact⟨o,a,b⟩
  exact(j (id,(m.blk id).fst,some O) (H _ (by rw[c];simp)) rfl).elim
 obtain⟨n,x,q,f⟩:=z e y;rw[E]at n q;rcases abc q with⟨o,a,b,c⟩|⟨o,O,a,b,c⟩
 .rw[c]at f;simp at f
 rw[c]at f;simp at f;refine .inr ⟨n,o,O,a,b,?_⟩;simp only[aX.with];rw[j,f]
theorem Oc{ids:aA}(h:oa m.blk ids=some u){c:Nat}(g:(m.with u).own c):m.own c:=by
 rcases g with g|⟨id,o,H,f,j⟩
 .exact .inl g
 rcases td h id with⟨e,_⟩|⟨_,p,q,a,b,e⟩
 .rw[e]at H;exact .inr ⟨id,o,H,f,j⟩
 rw[e]at H;cases H;rw[(b.facts 0).2.1]at f;cases f
theorem Ud(ay:c9 O m){ids:aA}(h:oa m.blk ids=some u):ny m (m.with u).own ids:=by
 refine⟨λb v=>Oc h v,λid n j=>?_⟩;rcases td h id with⟨e,y⟩|⟨_,o,z,a,b,e⟩
 .obtain⟨o,ho,hm⟩:=y n;exact(ay.obj id o ho).calm hm (Oc h j)
 rcases j with j|⟨r,q,f,g,x⟩
 .exact(ay.dA id o a (b.facts 0).1).2 j
 by_cases H:r=id
 .subst H;rw[e]at f;cases f;rw[(b.facts 0).2.1]at g;cases g
 rcases td h r with⟨E,_⟩|⟨_,D,Q,A,B,E⟩
 .rw[E]at f;exact H (ay.inj r id q o f g a (b.facts 0).1 x)
 rw[E]at f;cases f;rw[(B.facts 0).2.1]at g;cases g
theorem NW{m:aX}{ids:aA}{u:iB}(h:oa m.blk ids=some u):eY m (m.with u) where
 os:=rfl
 tape:=rfl
 output:=rfl
 size:=cH _
 keep _ _ _:=rfl
 eV c _ g:=by
  obtain⟨id,o,H,f,j⟩:=g;rcases td h id with⟨e,_⟩|⟨_,p,q,a,b,e⟩
  .rw[e]at H;exact⟨id,o,H,f,j⟩
  rw[e]at H;cases H;rw[(b.facts 0).2.1]at f;cases f
 less c _ n g:=n (Oc h g)
 gen id:=by rcases td h id with⟨e,_⟩|⟨_,p,q,a,b,e⟩<;>rw[e]<;>exact cH _
 ref id r aa:=by
  rcases td h id with⟨e,_⟩|⟨_,p,q,a,b,e⟩
  .rw[e]at aa |-;exact⟨aa,rfl,rfl,rfl⟩
  rw[e]at aa |-;refine⟨by rw[a];rfl,rfl,rfl,?_⟩;have H:m.blk id=((m.blk id).1,some p):=by rw[<-a]
  rw[(b.facts (m.blk id).1).2.2,<-H]
theorem adL{m:aX}(ay:c9 O m){ids:aA}{u:iB}(h:oa m.blk ids=some u):c9 O (m.with u) where
 os:=ay.os
 tape:=ay.tape
 output:=ay.output
 size:=ay.size
 base:=ay.base
 obj id o ho:=by
  have ed:=NW h;have M:=Ud ay h;rcases td h id with⟨e,_⟩|⟨ab,p,q,a,b,e⟩
  .rw[e]at ho;exact(ay.obj id o ho).ev ed.zero rfl rfl rfl
  rw[e]at ho;cases ho;have X:=M.2 id ab;have YR:∀r:aA,(∀i∈r,i∈ids)->ny m (m.with u).own r:=λr hr=>⟨M.1,λi H=>M.2 i (hr i H)⟩;have Y:=ay.obj id p a;cases p<;>cases o<;>simp only[D3]at b<;>first
   |exact b.elim
   |skip
  .obtain⟨r,D,hr⟩:=b;obtain⟨E,F,B,Q⟩:=Y;exact⟨E,F,(0,0),B,dw.pw.2 (D2 (R:=cY m) (T:=cl m.w (m.with u).own) (good:=ny m (m.with u).own) (λa b h=>h.app) (λa b r v e1 e2 e3=>Df ay _ e1 e2 e3) D (YR r hr) (dn.pw.1 Q)),X⟩
  .obtain⟨rfl,rfl,rfl⟩:=b;obtain⟨E,B,kX,z,hl,hm,Q,dd⟩:=Y;exact⟨E,(0,0),B,kX,z,hl,hm,Q,dd.less M.1,X⟩
  .obtain⟨rfl,rfl,r,D,hr⟩:=b;obtain⟨E,B,kX,z,hl,hm,Q,dd⟩:=Y;rename_i j _ g ps;have bd:I ps=I j:=Tx D;have y:I ps*g<=I E.toList:=by
    have n:I j*g<=m.κ id*g:=j6 _ hl;simp;rw[bd];omega
   have me:∀(Z:Nat) (e:c_),ps[Z]?=some e->Pw (cl m.w (m.with u).own) e ((E.toList.drop (Z*g)).take g):=by intro Z e L;obtain⟨x,q',f,n,h3⟩:=Sb D L;exact D2 (R:=cY m) (T:=cl m.w (m.with u).own) (good:=ny m (m.with u).own) (λa b h=>h.app) (λa b r v e1 e2 e3=>Df ay _ e1 e2 e3) n (YR q' λi H=>hr i (h3 i H)) (PS z (dn.pw.1 dd) f)
   have Bm:∀e∈ps,I e=g:=by intro e L;obtain⟨Z,hj⟩:=iA L;have:=(me Z e hj).1;have jm:Z<I ps:=(ct.1 hj).1;have f:(Z+1)*g<=I ps*g:=j6 _ jm;rw[gR]at f;simp at this y;omega
   exact⟨E,(0,0),B,kX,Bm,by rw[bd];exact hl,hm,Q,dw.pw.2 (Oa Bm y me),X⟩
  obtain⟨rfl,rfl⟩:=b;obtain⟨N,A,B,hl,D⟩:=Y;exact⟨N,A,B,hl,λi q v e f n=>let ⟨p,g,g1,g2,g3⟩:=D i q v e f n;⟨p.less M.1,g,g1,g2,g3.less M.1⟩,X⟩
 dA id o ho hm:=by
  rcases td h id with⟨e,_⟩|⟨_,p,q,a,b,e⟩
  .rw[e]at ho;exact ay.dA id o ho hm
  rw[e]at ho;cases ho;rw[(b.facts 0).2.1]at hm;cases hm
 frlt:=ay.frlt
 inj id et o o' f m1 n m2 L:=by
  rcases td h id with⟨e,_⟩|⟨_,p,q,a,b,e⟩
  .rcases td h et with⟨e',_⟩|⟨_,p',q',a',b',e'⟩
   .rw[e]at f;rw[e']at n;exact ay.inj id et o o' f m1 n m2 L
   rw[e']at n;cases n;rw[(b'.facts 0).2.1]at m2;cases m2
  rw[e]at f;cases f;rw[(b.facts 0).2.1]at m1;cases m1
section
variable{L:World}
def aX.kA(m:aX)(L:World)(s c k:Nat)(o:eN):aX:=(m.later L (· =c)).install s c k o
section
variable {m:aX} {L:World} {s c k:Nat} {o:eN} (hg:gD m.w L) (fA:m.w.heap.size<=c) (lv:c<L.heap.size)
theorem JX(ay:c9 O m)(fA:m.w.heap.size<=c):(m.kA L s c k o).fr=m.fr:=by
 funext x;simp only[aX.kA,aX.install,aX.later];apply propext;constructor
 .rintro ⟨h|h,H⟩
  .exact h
  exact(H h).elim
 intro h;exact⟨.inl h,λe=>by have:=ay.frlt x h;omega⟩
include hg fA
theorem Ix:eY m (m.kA L s c k o):=LM (DO hg λx h=>by subst h;exact fA) (.inr rfl) (.inl fA)
include lv
theorem LC(ay:c9 O m)(ho:o5 (m.kA L s c k o) s o):c9 O (m.kA L s c k o):=KN (GX ay hg λx h=>by subst h;exact⟨fA,lv⟩) (.inr rfl) (jO ay.size fA) ho
end
theorem EM{s c k:Nat}{o:eN}:(m.kA L s c k o).σ s=c:=by simp[aX.kA,aX.install,bj]
theorem rK{s c k:Nat}{o:eN}:(m.kA L s c k o).κ s=k:=by simp[aX.kA,aX.install,bj]
theorem am2{s c k:Nat}{o:eN}:(m.kA L s c k o).blk=app [(s,((m.blk s).1+1,some o))] m.blk:=rfl
theorem anR{s c k:Nat}{o:eN}:(m.kA L s c k o).w=L:=rfl
theorem Nx{s c F:Nat}(H:n<=N)(hm:N<=maxLen):
  cg (m.kA L s c N (.arr F g j)) (.one (.hsl s ((m.blk s).1+1) g 0 n)) (.slice (some ⟨c,0,none⟩) n N):=by
 refine cg.one.2 (.hsl _ _ ?_ H hm λz f h=>?_)
 .simp[aX.kA,aX.install,aX.later,bj]
 have:jl ((m.kA L s c N (.arr F g j)).blk s)=some g:=by simp[aX.kA,aX.install,bj,jl]
 rw[this]at h;cases h;refine⟨rfl,λ_=>?_,by rw[ka];exact rK.symm⟩;rw[EM,tt]
theorem ajz{s c F:Nat}{j:List dk}(H:n<=N)(hm:N<=maxLen):
  cg (m.kA L s c N (.gT F g j)) (.one (.hsl s ((m.blk s).1+1) g 0 n)) (.slice (some ⟨c,0,none⟩) n N):=by
 refine cg.one.2 (.hsl _ _ ?_ H hm λz f h=>?_)
 .simp[aX.kA,aX.install,aX.later,bj]
 have:jl ((m.kA L s c N (.gT F g j)).blk s)=some g:=by simp[aX.kA,aX.install,bj,jl]
 rw[this]at h;cases h;refine⟨rfl,λ_=>?_,by rw[ka];exact rK.symm⟩;rw[EM,tt]
theorem Kl{t e:TypeId}{bytes:Nat}(h:vj P t=some (e,g,bytes,z)):
  ∃i v,P.underlying t=some (.slice e)/\P.info? e=some i/\i.size=g/\i.bytes=bytes/\(0<g/\0<bytes)/\i.zero=some v/\v.cells.size=g/\I z=g/\ ∀w own,dw w own z v.cells.toList:=by
 unfold vj at h;split at h
 .rename_i E n;split at h
  .rename_i i Z H x;split at h
   .rename_i j;cases h;obtain⟨v,i',f,m,q,r,u⟩:=Gk x;rw[H]at f;cases f;exact⟨i,v,n,H,rfl,rfl,j,m,q,r,u⟩
   cases h
  cases h
 cases h
theorem ajq{R:PV->Value->Prop}{v:Array Value}(B:Pw R z v.toList)(m:v.size=g)(r:0<g):
  Pw R (List.replicate n z).flatten ((madeCells v (n*g)).toList.take (n*g)):=by
 have M:I z=g:=by have:=B.1;simp at this;omega
 have D:∀e∈List.replicate n z,I e=g:=λe f=>by rw[HA f];exact M
 have H:(madeCells v (n*g)).toList.length=n*g:=by simp[size_madeCells]
 rw[eW J];refine⟨by rw[H,Cz D];simp,λj x u p q=>?_⟩;have y:j<n*g:=by have:=(ct.1 q).1;omega
 have h:j/g<n:=by rw[Nat.div_lt_iff_lt_mul r];exact y
 have L:j%g<g:=fO _ r;have f:(List.replicate n z)[j/g]?=some z:=by simp[h]
 have A:=B2 D f L;rw[show j/g*g+j%g=j by rw[E4];exact RT j g]at A;rw[A]at p;have E:(madeCells v (n*g)).toList[j]?=some v[j%g]! :=by unfold madeCells;simp[y,m]
 rw[E]at q;cases q;refine B.2 (j%g) x _ p ?_;have:j%g<v.size:=J;simp[this]
section
variable {m:aX} {q:bD} {a:Act} {o:Oper} (ay:c9 O m) (hr:iw m q a.tmps)
include ay hr
theorem ahL{t e:TypeId}{l c:Operand}{L:dR}{s bytes:Nat}(ho:o.op=.makeSlice t l c)(he:vj P t=some (e,g,bytes,z))(hl:cE l=some L)(hc:cE c=some c')
  (Z:oF (ev q L)=some n) (hm:oF (ev q c')=some n) (E:n*bytes<=kK):
  ft P O a.eval o m (.one (.hsl s ((m.blk s).1+1) g 0 n)) [(s,((m.blk s).1+1,some (.arr e g (List.replicate n z))))]:=by
 obtain⟨i,v,B,H,aa,D,⟨h,T⟩,Q,R,r,dd⟩:=Kl he;obtain⟨j,F⟩:=uT Z (eC hl hr);obtain⟨k2,y⟩:=uT hm (eC hc hr);unfold kK at E;have f:n<=maxLen:=by have:n<=n*bytes:=L8 _ T;simp only[maxLen];omega
 have A:(n:Int)<=9223372036854775807:=by simp[maxLen]at f;omega
 have rW:(i.bytes:Int)*(n:Int)<=281474976710656:=by
  have:((i.bytes*n:Nat):Int)<=281474976710656:=by rw[D,E4];omega
  rwa[Int.natCast_mul]at this
 have N:=run_make (P:=P) m.w t e i v B H Q j k2 n n J (Int.le_refl _) rW A;simp only[nY,aa]at N
 let M:=m.kA (m.w.alloc (.cells (madeCells v.cells (n*g)) e)) s m.w.heap.size n (.arr e g (List.replicate n z))
 have X:eY m M:=Ix (gD.alloc _ _) (cH _);have u:o5 M s (.arr e g (List.replicate n z)):=by
  refine⟨_,by rw[EM];exact heap_alloc_new m.w _,h,λx Y=>?_,?_,?_,?_,?_⟩
  .rw[HA Y];exact r
  .rw[rK];simp
  .rw[rK];exact f
  .rw[rK,size_madeCells]
  rw[GB];exact dw.pw.2 (ajq (dw.pw.1 (dd _ _)) R h)
 refine⟨_,M,.inl ?_,LC (gD.alloc _ _) (cH _) aG ay u,X,JX ay (cH _),rfl,Nx (cH _) f⟩;simp[execOp,ho,F,y,N];rfl
theorem Zl{l:Nat}{b:Bool}(F:tS lo=some zQ)(A:tS H=some v7)(hl:qB q 0 zQ=some l)(r:qB q n v7=some h)
  (B:l<=h) (f:h<=N):(Instr.sliceBounds b n N (lo.map a.eval) (H.map a.eval) none).run P m.w=.ok (l,h,N) m.w:=by
 have E:=ay;have g:(match H.map a.eval with|some v=>∃k,v=Value.int k (h:Int)|none=>h=n):=by
  cases H with
  |none=>simp[tS]at A;subst A;simp[qB]at r;simpa using r.symm
  |some x=>simp only[tS,dM]at A;obtain⟨y,j,rfl⟩:=A;exact uT r (eC j hr)
 have L:(match lo.map a.eval with|some v=>∃k,v=Value.int k (l:Int)|none=>l=0):=by
  cases lo with
  |none=>simp[tS]at F;subst F;simp[qB]at hl;simpa using hl.symm
  |some x=>simp only[tS,dM]at F;obtain⟨y,j,rfl⟩:=F;exact uT hl (eC j hr)
 generalize lo.map a.eval=D at L;generalize H.map a.eval=z at g;have fA:(h:Int)<=(N:Int):=J;have lv:(l:Int)<=(h:Int):=J;cases D with
 |none=>
  simp only at L;subst L;cases z with
  |none=>simp only at g;subst g;simp[Instr.sliceBounds]
  |some v=>obtain⟨k,rfl⟩:=g;simp[Instr.sliceBounds,Instr.sliceBound,asIntOf,f]
 |some u=>
  obtain⟨k,rfl⟩:=L;cases z with
  |none=>simp only at g;subst g;simp[Instr.sliceBounds,Instr.sliceBound,asIntOf,B]
  |some v=>obtain⟨M,rfl⟩:=g;simp[Instr.sliceBounds,Instr.sliceBound,asIntOf,f,B]
theorem afV{t:TypeId}{s:ByteArray}{l:Nat}(ho:o.op=.slice t x lo H none)(n:P.underlying t=some .string)
  (u:cE x=some X) (F:tS lo=some zQ) (A:tS H=some v7) (aa:ev q X=.one (.p (.str s))) (hl:qB q 0 zQ=some l) (j:qB q s.size v7=some h) (B:l<=h) (f:h<=s.size):
  ft P O a.eval o m (.one (.p (.str (s.extract l h)))) []:=by
 have g:=eC u hr;rw[aa]at g;have r:=Zl (P:=P) (O:=O) (ay:=ay) (hr:=hr) (b:=false) F A hl j B f;refine .calm ay ?_ (k9 (.str _));simp[execOp,ho,Fb g,Instr.sliceAt,Instr.slice,run_underlying n,r]
theorem aek{t e:TypeId}{l:Nat}(ho:o.op=.slice t x lo H none)(ht:P.underlying t=some (.slice e))(ab:sL P e=some g)
  (hx:cE x=some X) (fi:tS lo=some zQ) (A9:tS H=some v7) (L:vO (ev q X)=some n) (hl:qB q 0 zQ=some l) (hh:qB q n v7=some h)
  (r:yP (ev q X) g l h=.done v [] []):ft P O a.eval o m v []:=by
 have F:=eC hx hr;unfold yP at r;split at r
 .cases r
 rename_i Be;have Be:l<=h:=by simpa using Be
 have run:∀(A:Option Addr) (N:Nat),a.eval x=.slice A n N->h<=N->(execOp a.eval o).run P m.w=.ok (.value (.slice (if N=l then A else A.map (·.add (l*g))) (h-l) (N-l))) m.w:=by intro A N iD Q;have M:=Zl (P:=P) (O:=O) (ay:=ay) (hr:=hr) (b:=true) fi A9 hl hh Be Q;simp[execOp,ho,iD,Instr.sliceAt,Instr.slice,run_underlying ht,M,Jt ab]
 obtain⟨ap,am,hsl,ag,kh⟩:=Xf (ay:=ay) (hr:=hr) L F;split at r
 .rename_i u;split at r
  .rename_i h0;cases r;rw[u]at F;have:=Ji F;subst h0;have T:l=0:=J;subst T;rw[this]at hsl;cases hsl;refine .calm ay (run none 0 this (cH _)) ?_;simp;exact k9 .nils
  cases r
 .rename_i j u;split at r
  .rename_i Y;cases r;rw[u]at F L;simp[vO]at L;subst L;obtain⟨hp⟩:cY m _ (a.eval x):=F;generalize M:a.eval x=b at hp;generalize ee:(PV.sl j)=pv at hp;cases hp<;>cases ee
   .rename_i A N sY hm;simp at Y;have ak:h=0:=J;subst ak;have T:l=0:=J;subst T;refine .calm ay (run A N M (bC _)) (k9 ?_);simp only[List.drop_nil,List.take_nil,Nat.sub_zero];refine .uB _ _ (λh=>?_) hm;split at h
    .exact sY h
    cases A with
    |none=>exact sY rfl
    |some A=>simp at h
   rename_i b' o' N Z f hm jP qT E ng zL;refine .calm ay (run _ N M J) (k9 ?_);by_cases au:l=h
   .subst au;simp only[M1,Mn];refine .uB _ _ (λh=>?_) J;split at h<;>simp at h
   have R:I ((j.drop l).take (h-l))=h-l:=by simp;omega
   have gI:j≠[]:=λe=>by subst e;simp at Y;omega
   have Tf:Z=g:=by obtain⟨e0,r0,rfl⟩:=List.exists_cons_of_ne_nil gI;have g1:=E e0 aG;have g2:=Y.2;simp[ao]at g2;omega
   subst Tf;rw[aD J];simp only[oG,Addr.add_lit];have fM:=cl.sl (w:=m.w) (own:=m.own) (es:=(j.drop l).take (h-l)) b' (o'+l*Z) (N-l) Z (λan=>f (l*Z+an)) (λaY=>jP λe0=>aY ?_) J J (λe u=>E e (rj (qM u))) ?_ ?_
   .rw[R]at fM;exact fM
   .apply VR;rw[C7 (λe u=>E e (rj u)),Mf E,e0];simp
   .intro an z y;rw[C7 (λe u=>E e (rj u)),Mf E,lT]at y;split at y
    .rw[BD]at y;rw[zt];exact ng _ z y
    cases y
   intro an z y;rw[C7 (λe u=>E e (rj u)),Mf E,lT]at y;split at y
   .rw[BD]at y;exact zL _ z y
   cases y
  cases r
 .rename_i id ar z B len u;split at r
  .rename_i Y;cases r;rw[u]at F L;simp[vO]at L;subst L;have fY:cY m _ (a.eval x):=F;generalize M:a.eval x=b at fY;cases fY with
   |hsl A N hg pz hm IA=>
    refine .calm ay (run _ N M J) ?_;have Te:∃D,(if N=l then some A else(some A).map (·.add (l*g)))=some D/\(N≠l->D=A.add (l*g))/\(l=0->D=A):=by
     by_cases dt:N=l
     .exact⟨A,by simp[dt],λh=>(h dt).elim,λ_=>rfl⟩
     exact⟨A.add (l*g),by simp[dt],λ_=>rfl,λh=>by subst h;simp[Addr.add]⟩
    obtain⟨D,e1,e2,e3⟩:=Te;rw[e1];refine cg.one.2 (.hsl _ _ hg J J λs g1 g2=>?_);obtain⟨f1,f2,f3⟩:=IA s g1 g2;refine⟨f1,λyc=>?_,?_⟩
    .by_cases T:l=0
     .subst T;rw[e3 rfl,w4];refine f2 ?_;rcases yc with h|h
      .exact .inl J
      exact .inr J
     have:0<h-l:=by rcases yc with h|h<;>omega
     rw[e2 J,f2 (.inr J),Addr.add_lit,f1,Y.2,gR]
    omega
  cases r
 cases r
end
end
theorem aob(B:Nat):∀(D:List Value) (i:Nat) (cells:Array Value),B+i+I D<=cells.size->
  ((D.zipIdx i).foldl (λA (x:Value×Nat)=>A.setIfInBounds (B+x.2) x.1) cells).toList=ez cells.toList (B+i) D:=by
 intro D
 induction D with
 |nil=>intro i cells _;simp[ez]
 |cons v r f=>
  intro i cells h;simp only[dE]at h;simp only[List.zipIdx_cons,qG];rw[f (i+1) _ (by simp;omega)];unfold ez;rw[Array.toList_setIfInBounds];have j:B+i<I cells.toList:=by simp;omega
  have E:(cells.toList.set (B+i) v).take (B+(i+1))=cells.toList.take (B+i)++[v]:=by rw[show B+(i+1)=(B+i)+1 by omega,Ua (by simpa using j),List.take_set,List.set_eq_of_length_le (by simp;omega)];simp
  have g:(cells.toList.set (B+i) v).drop (B+(i+1)+I r)=cells.toList.drop (B+(i+1)+I r):=by rw[List.drop_set_of_lt J]
  rw[E,g];simp only[dE,jL,List.singleton_append];congr 3;omega
theorem abq{i:Nat}{v:Value}{r:List (Nat×Value)}{cells:Array Value}(hp:place i=some (B,n))(H:v.cells.size=n)(h:B+n<=cells.size):
  ∃j,Instr.fill place cells ((i,v)::r)=Instr.fill place j r/\j.toList=ez cells.toList B v.cells.toList:=by
 refine⟨v.cells.zipIdx.foldl (λA (x:Value×Nat)=>A.setIfInBounds (B+x.2) x.1) cells,?_,?_⟩
 .simp only[Instr.fill,hp];rw[aD (by simp[H];omega)]
 rw[<-Tn,Array.toList_zipIdx,aob B v.cells.toList 0 cells (by simp;omega)];simp
theorem ace{q:bD}{a:Act}(hr:iw m q a.tmps){z:Nat}:∀ {ps:List (Nat×Operand)}{qs:List (Nat×Nat×dR)}{rs:List (Nat×dk)}{A:dk}{cells:Array Value},
  w_ place z ps=some qs->vi q qs=some rs->dn m A cells.toList->I A=z->
  ∃j,Instr.fill place cells (ps.map λx=>(x.1,a.eval x.2))=some j/\dn m (yK A rs) j.toList:=by
 intro ps
 induction ps with
 |nil=>intro qs rs A cells H h f hl;simp[w_]at H;subst H;simp[vi]at h;subst h;exact⟨cells,by simp[Instr.fill],by simpa [yK]using f⟩
 |cons p t Q=>
  intro qs rs A cells H h f hl;obtain⟨i,x⟩:=p;simp only[w_]at H;split at H
  .rename_i B n R X L M y;split at H
   .rename_i u;cases H;simp only[vi]at h;split at h
    .rename_i AM T N D;split at h
     .rename_i r;cases h;have v:=Sp N (eC M hr);have g:(a.eval x).cells.size=n:=by have:=v.1;simp at this;omega
      have F:=f.1;simp at F;obtain⟨j,O,E⟩:=abq (r:=t.map λx=>(x.1,a.eval x.2)) L g (by omega:B+n<=cells.size);simp only[ew,yK];rw[O];refine Q y D ?_ (by rw[No J];exact hl);rw[E];exact dn.pw.2 ((dn.pw.1 f).ez (dn.pw.1 v) B)
     cases h
    cases h
   cases H
  cases H
theorem akX{α β:Type}{f:α->Sem β}{g:α->β}{w:World}:∀ {l:List α},(∀x∈l,(f x).run P w=.ok (g x) w)->(l.mapM f).run P w=.ok (l.map g) w:=by
 intro l
 induction l with
 |nil=>intro _;simp
 |cons x r j=>intro h;simp[List.mapM_cons,h x aG,j λy H=>h y (by simp[H])]
theorem alG{q:bD}{a:Act}(hr:iw m q a.tmps)(A:∀k,place k=some (k*g,g)):∀ {ps:List (Nat×Operand)}{as:kH}{j:List dk}{k:Nat}{done:List Value}{cells:Array Value},
  Ez k ps=some as->wI q g as=some j->I done=k*g->cells.toList.take (k*g)=done->cells.size=(k+I as)*g->
  ∃n,Instr.fill place cells (ps.map λx=>(x.1,a.eval x.2))=some n/\ ∃D,n.toList=done++D/\dn m j.flatten D/\(∀e∈j,I e=g)/\I j=I as:=by
 intro ps
 induction ps with
 |nil=>intro as j k done cells H h y z aa;simp[Ez]at H;subst H;simp[wI]at h;subst h;refine⟨cells,by simp[Instr.fill],[],?_,⟨aG,λad x u p=>by simp at p⟩,λe v=>by simp at v,rfl⟩;rw[<-z,jE,eW (by simp at aa |-;omega)]
 |cons p t ih=>
  intro as j k done cells H h y z aa;obtain⟨i,x⟩:=p;simp only[Ez]at H;split at H
  .rename_i a' ab X O;split at H
   .rename_i B;cases H;subst B;simp only[wI]at h;split at h
    .rename_i AM q' Z N;split at h
     .rename_i r;cases h;have M:=Sp Z (eC X hr);have f:(a.eval x).cells.size=g:=by have:=M.1;simp at this;omega
      simp only[dE]at aa;have R:cells.size=i*g+g+I ab*g:=by rw[aa,gR,gR];omega
      obtain⟨n,e1,F⟩:=abq (r:=t.map λx=>(x.1,a.eval x.2)) (A i) f (by omega:i*g+g<=cells.size);have L:I n.toList=cells.size:=by rw[F,No (by simp;omega)];simp
      obtain⟨E,Q,D,Y,f3,f4,T⟩:=ih (k:=i+1) (done:=done++(a.eval x).cells.toList) (cells:=n) O N (by simp[y,f,gR]) (by rw[F];unfold ez;rw[z,On (by simp[y,f,gR])];rw[eW (by simp[y,f,gR])]) (by simp at L;rw[L,R,gR,gR];omega)
      simp only[ew];rw[e1];refine⟨E,Q,(a.eval x).cells.toList++D,by rw[Y,jL],?_,?_,by simp[T]⟩
      .simp only[kT];exact dn.pw.2 ((dn.pw.1 M).append (dn.pw.1 f3))
      intro e v;rcases dL.1 v with rfl|v
      .exact r
      exact f4 e v
     cases h
    cases h
   cases H
  cases H
theorem ahZ:∀ {j:List dk}{qs:dC}{D:List Value}{g:Nat},w5 j=some qs->(∀e∈j,I e=g)->dn m j.flatten D->dw m.w m.own qs.flatten D/\(∀e∈qs,I e=g)/\I qs=I j:=by
 intro j
 induction j with
 |nil=>intro qs D g h _ f;simp[w5]at h;subst h;exact⟨⟨f.1,λT x u p=>by simp at p⟩,λe L=>by simp at L,rfl⟩
 |cons e r M=>
  intro qs D g h H f;simp only[w5]at h;split at h
  .rename_i v O B q;cases h;simp only[kT]at f;have dr:=H e aG;have fA:=(dn.pw.1 f).take (I e);have lv:=(dn.pw.1 f).drop (I e);simp only[JP,List.drop_left]at fA lv;have g1:=EZ B (dn.pw.2 fA);obtain⟨A,N,E⟩:=M q (λx F=>H x (by simp[F])) (dn.pw.2 lv);have z:I v=g:=by
    have Q:=g1.1;have R:=fA.1;omega
   refine⟨?_,?_,by simp[E]⟩
   .have:=(dw.pw.1 g1).append (dw.pw.1 A);rw[Cb]at this;exact dw.pw.2 this
   intro y n;rcases dL.1 n with rfl|n
   .exact z
   exact N y n
  cases h
section
variable {m:aX} {q:bD} {a:Act} {o:Oper} (ay:c9 O m) (hr:iw m q a.tmps)
include ay hr
theorem ahx{t:TypeId}{ps:Array (Nat×Operand)}{fs:Array Field}(ho:o.op=.build t ps)(u:P.underlying t=some (.struct fs))(L:uy P t=some z)
  (D:fs.all (λf=>(P.info? f.type).isSome)) (hp:w_ (λi=>(fs[i]?).map λf=>(f.offset,P.cellsOf f.type)) (I z) ps.toList=some qs) (E:vi q qs=some rs):
  ft P O a.eval o m (.agg (yK (z.map .p) rs)) []:=by
 obtain⟨v,i,H,h,aa,hl,B⟩:=Gk L;obtain⟨j,F,r⟩:=ace hr hp E (B m.w m.own).Ac aG;refine .calm (x:=.agg j) ay ?_ (cg.agg.2 ⟨_,rfl,r⟩);have y:(fs.mapM (λf=>do pure (f.offset,<-sizeOf f.type):Field->Sem (Nat×Nat))).run P m.w=.ok (fs.map λf=>(f.offset,P.cellsOf f.type)) m.w:=by
  rw[Array.mapM_eq_mapM_toList];have:=akX (P:=P) (f:=(λf=>do pure (f.offset,<-sizeOf f.type):Field->Sem (Nat×Nat))) (g:=λf=>(f.offset,P.cellsOf f.type)) (w:=m.w) (l:=fs.toList) (λf n=>by
   have:=Array.all_eq_true_iff_forall_mem.1 D f (by simpa using n);cases Z:P.info? f.type with
   |none=>rw[Z]at this;cases this
   |some i=>simp[sizeOf,typeInfo,Z,Program.cellsOf])
  rw[Sem.run_map,this];simp only[Result.andThen_ok];congr 1;apply Array.ext';simp
 have A:Instr.fill (λx=>(fs.map λf=>(f.offset,P.cellsOf f.type))[x]?) v.cells (ps.map λx=>(x.1,a.eval x.2)).toList=some j:=by simpa using F
 simp only[execOp,ho,Instr.build,zeroValue,typeInfo,Sem.run_bind,run_program,Result.andThen_ok,H,h,Sem.run_pure,run_underlying u,y,A]
theorem apt{t e:TypeId}{ps:Array (Nat×Operand)}{i:TypeInfo}(ho:o.op=.build t ps)(r:P.underlying t=some (.array n e))(B:uy P t=some z)
  (f:P.info? e=some i) (hp:w_ (λk=>some (k*i.size,i.size)) (I z) ps.toList=some qs) (u:vi q qs=some rs):
  ft P O a.eval o m (.agg (yK (z.map .p) rs)) []:=by
 obtain⟨v,i',H,h,aa,hl,D⟩:=Gk B;obtain⟨j,y,g⟩:=ace hr hp u (D m.w m.own).Ac aG;refine .calm (x:=.agg j) ay ?_ (cg.agg.2 ⟨_,rfl,g⟩);have A:Instr.fill (λk=>some (k*i.size,i.size)) v.cells (ps.map λx=>(x.1,a.eval x.2)).toList=some j:=by simpa using y
 simp only[execOp,ho,Instr.build,zeroValue,sizeOf,typeInfo,Sem.run_bind,run_program,Result.andThen_ok,H,f,h,Sem.run_pure,run_underlying r,A]
theorem ag8{t e:TypeId}{bytes s:Nat}{ps:Array (Nat×Operand)}{as:kH}{j:List dk}(ho:o.op=.buildSlice t n ps)(he:vj P t=some (e,g,bytes,z))(hp:Ez 0 ps.toList=some as)
  (hn:I as=n) (Ys:n*g<=16777216) (hv:wI q g as=some j):
  (∀qs,w5 j=some qs->ft P O a.eval o m (.one (.hsl s ((m.blk s).1+1) g 0 (I j))) [(s,((m.blk s).1+1,some (.arr e g qs)))])/\
  ft P O a.eval o m (.one (.hsl s ((m.blk s).1+1) g 0 (I j))) [(s,((m.blk s).1+1,some (.gT e g j)))]:=by
 obtain⟨i,v,M,H,aa,hb,⟨u,_⟩,X,ox,mI,dd⟩:=Kl he;subst hn;obtain⟨f,f1,D,y,L,B,F⟩:=alG (place:=λk=>some (k*g,g)) (done:=[]) (cells:=(Array.range (I as*g)).map ((if I as*g=0 then #[]else v.cells)[· %(if I as*g=0 then #[]else v.cells).size]!)) hr (λ_=>rfl) hp hv aG aG aG;have Q:(execOp a.eval o).run P m.w=.ok (.value (.slice (some ⟨m.w.heap.size,0,none⟩) (I j) (I j))) (m.w.alloc (.cells f e)):=by
  have A:Instr.fill (λk=>some (k*g,g)) ((Array.range (I as*g)).map ((if I as*g=0 then #[]else v.cells)[· %(if I as*g=0 then #[]else v.cells).size]!)) (ps.map λx=>(x.1,a.eval x.2)).toList=some f:=by simpa using f1
  have ab:¬(16777216<I as*g):=J;have T:¬(I as*g>2 ^ 24):=J;by_cases h:I as*g=0
  .simp only[aM h]at A;simp only[execOp,ho,Instr.buildSlice,Sem.run_bind,run_underlying M,Result.andThen_ok,sizeOf,typeInfo,run_program,H,Sem.run_pure,aa,aD T,aM h,A,newRow,run_newObj,F];rfl
  simp only[aD h]at A;simp only[execOp,ho,Instr.buildSlice,Sem.run_bind,run_underlying M,Result.andThen_ok,sizeOf,typeInfo,run_program,H,Sem.run_pure,aa,aD T,aD h,zeroValue,X,A,newRow,run_newObj,F];rfl
 simp at y;have R:f.size=I j*g:=by
  have h1:=L.1;rw[Cz B]at h1;have:I f.toList=I D:=by rw[y]
  simp at this;omega
 have r:I j<=maxLen:=by have:I j<=I j*g:=L8 _ u;simp only[maxLen];rw[F]at this |-;omega
 have Y:f.toList.take (I j*g)=D:=by rw[eW (by simp;omega),y]
 constructor
 .intro qs hq;have E:eY m (m.kA (m.w.alloc (.cells f e)) s m.w.heap.size (I j) (.arr e g qs)):=Ix (gD.alloc _ _) (cH _);obtain⟨g1,Z,N⟩:=ahZ hq B (L.ev E.zero);refine⟨_,m.kA (m.w.alloc (.cells f e)) s m.w.heap.size (I j) (.arr e g qs),.inl Q,LC (gD.alloc _ _) (cH _) aG ay ?_,E,JX ay (cH _),rfl,Nx (cH _) r⟩;exact⟨f,by rw[EM];exact heap_alloc_new m.w _,u,Z,by rw[rK,N];exact cH _,by rw[rK];exact r,by rw[rK,R],by rw[N,Y];exact g1⟩
 have E:eY m (m.kA (m.w.alloc (.cells f e)) s m.w.heap.size (I j) (.gT e g j)):=Ix (gD.alloc _ _) (cH _);refine⟨_,m.kA (m.w.alloc (.cells f e)) s m.w.heap.size (I j) (.gT e g j),.inl Q,LC (gD.alloc _ _) (cH _) aG ay ?_,E,JX ay (cH _),rfl,ajz (cH _) r⟩;exact⟨f,by rw[EM];exact heap_alloc_new m.w _,u,B,by rw[rK];exact cH _,by rw[rK];exact r,by rw[rK,R],by rw[Y];exact L.ev E.zero⟩
end
theorem MI(a b:iB)(blk:aB):app (a++b) blk=app b (app a blk):=by
 induction a generalizing blk with
 |nil=>rfl
 |cons x r f=>obtain⟨i,o⟩:=x;simp only[Ei,app];exact f _
theorem agK(H:∀c,zg c->m.fr c){c:Nat}(h:({m with fr:=zg}:aX).own c):m.own c:=by
 rcases h with h|h
 .exact .inl (H c h)
 exact .inr h
theorem adM(H:∀c,zg c->m.fr c):eY m {m with fr:=zg}:=
 ⟨rfl,rfl,rfl,cH _,λ_ _ _=>rfl,λ_ _ h=>h,λ_ _ f h=>f (agK H h),λ_=>cH _,λ_ _ h=>⟨h,rfl,rfl,rfl⟩⟩
theorem asv{m:aX}{zg:Nat->Prop}(h:c9 O m)(H:∀c,zg c->m.fr c):c9 O {m with fr:=zg} where
 os:=h.os
 tape:=h.tape
 output:=h.output
 size:=h.size
 base:=h.base
 obj id o ho:=(h.obj id o ho).ev (adM H).zero rfl rfl rfl
 dA id o ho hm:=⟨(h.dA id o ho hm).1,λf=>(h.dA id o ho hm).2 (H _ f)⟩
 frlt c f:=h.frlt c (H c f)
 inj:=h.inj
theorem aer{m:aX}{L:World}{c:Nat}(h:c9 O m)(g:m.fr c)(F:O.heap.size<=c)(T:L.os=m.w.os)(n:L.tape=m.w.tape)(q:L.output=m.w.output)(aa:L.heap.size=m.w.heap.size)
  (f:∀x,x≠c->L.heap[x]?=m.w.heap[x]?):c9 O {m with w:=L} where
 os:=T.trans h.os
 tape:=n.trans h.tape
 output:=q.trans h.output
 size:=jO h.size (B8 aa.symm)
 base x H:=(f x J).trans (h.base x H)
 obj id o ho:=by
  have A:m.σ id≠c:=by
   intro e;cases hm:o.eV with
   |true=>exact(h.dA id o ho hm).2 (e▸g)
   |false=>exact(h.obj id o ho).calm hm (.inl (e▸g))
  exact(h.obj id o ho).ev (m':={m with w:=L}) ⟨λx _ j=>⟨f x λe=>j (.inl (e▸g)),j⟩,λ_=>cH _,λ_ _ h=>⟨h,rfl,rfl,rfl⟩⟩ rfl rfl (f _ A)
 dA:=h.dA
 frlt x H:=by rw[show({m with w:=L}:aX).w.heap.size=m.w.heap.size from aa];exact h.frlt x H
 inj:=h.inj
theorem Yx(ay:c9 O m){own:Nat->Prop}{x:V}{v:Value}{new:dC}{rd fr:aA}(h:eO m.blk x=some (new,rd,fr))(hv:cg m x v)(aa:ny m own fr):
  ∃ax cx,v=.slice ax (I new) cx/\(∀z,lK x=some z->∀e∈new,I e=z)/\
   (new≠[]->∃b o D,ax=some ⟨b,o,none⟩/\Pw (cl m.w own) new.flatten D/\ ∀(Z:Nat) (u:Value),D[Z]?=some u->m.w.cell? ⟨b,o+Z,none⟩=some u):=by
 have row:∀(c B g len:Nat) (E:Array Value) (F:TypeId) (Y:Nat×Nat) (ps:dC),m.w.heap[c]?=some (.cells E F Y)->Pw (cl m.w own) ps.flatten ((E.toList.drop (B*g)).take (I ps*g))->
   ∃b o D,some (⟨c,B*g,none⟩:Addr)=some ⟨b,o,none⟩/\Pw (cl m.w own) ps.flatten D/\ ∀(Z:Nat) (u:Value),D[Z]?=some u->m.w.cell? ⟨b,o+Z,none⟩=some u:=by
  intro c B g len E F Y ps hh hp;refine⟨c,B*g,_,rfl,hp,λZ u M=>?_⟩;rw[lT]at M;split at M
  .rw[CR hh];simpa using M
  cases M
 unfold eO at h;split at h
 .cases h;exact⟨none,0,Ji hv,λz hz=>by simp[lK]at hz,λh=>(h rfl).elim⟩
 .rename_i j;cases h;obtain⟨hp⟩:cY m _ v:=hv;generalize ee:(PV.sl new)=pv at hp;cases hp<;>cases ee
  .exact⟨_,_,rfl,λz hz=>by simp[lK]at hz,λh=>(h rfl).elim⟩
  rename_i b o N g f hm ho hl A ng zL;refine⟨_,_,rfl,λz hz=>by simp[lK]at hz,λ_=>⟨b,o,(List.range (I new.flatten)).map f,rfl,⟨aG,λZ y u p q=>?_⟩,λZ u q=>?_⟩⟩
  .have M:Z<I new.flatten:=(ct.1 p).1;rw[gZ,nH M]at q;simp at q;subst q;exact(zL Z y p).less aa.1
  have M:Z<I new.flatten:=by have:=(ct.1 q).1;simpa using this
  rw[gZ,nH M]at q;simp at q;subst q;exact ng Z _ (oO M)
 .rename_i id ak z B len;have fY:cY m _ v:=hv;cases fY with
  |hsl ad N hg hl hm IA=>
   split at h
   .rename_i g' F g j Q;split at h
    .rename_i hc;cases h;have bc:(m.blk id).2=some (.arr F g j):=by rw[Q]
     obtain⟨E,hh,kX,A,iT,l9,cX,dd⟩:=ay.obj id _ bc;obtain⟨e1,e2,e3⟩:=IA g (by rw[Q];exact hc.1) (by rw[Q];rfl);have X:I ((j.drop B).take len)=len:=by simp;omega
     refine⟨some ad,N,by rw[X],λz' nU e L=>?_,λaY=>?_⟩
     .simp[lK]at nU;subst nU;rw[<-e1];exact A e (rj (qM L))
     have:0<len:=by
      cases len with
      |zero=>simp at aY
      |succ n=>omega
     rw[e2 (.inr this)];exact row (m.σ id) B g len E F _ _ hh (AL A (dw.pw.1 (dd.less aa.1)) hc.2)
    cases h
   .rename_i g' F g j Q;split at h
    .rename_i hc;cases h;have bc:(m.blk id).2=some (.lW F g j):=by rw[Q]
     obtain⟨E,Y,hh,kX,A,iT,l9,cX,dd,_⟩:=ay.obj id _ bc;obtain⟨e1,e2,e3⟩:=IA g (by rw[Q];exact hc.1) (by rw[Q];rfl);have X:I ((j.drop B).take len)=len:=by simp;omega
     refine⟨some ad,N,by rw[X],λz' nU e L=>?_,λaY=>?_⟩
     .simp[lK]at nU;subst nU;rw[<-e1];exact A e (rj (qM L))
     have:0<len:=by
      cases len with
      |zero=>simp at aY
      |succ n=>omega
     rw[e2 (.inr this)];exact row (m.σ id) B g len E F _ _ hh (AL A (dw.pw.1 (dd.less aa.1)) hc.2)
    cases h
   .rename_i g' F g j Q;split at h
    .rename_i hc;split at h
     .rename_i ps q hq;cases h;have bc:(m.blk id).2=some (.gT F g j):=by rw[Q]
      obtain⟨E,hh,kX,A,iT,l9,cX,dd⟩:=ay.obj id _ bc;obtain⟨e1,e2,e3⟩:=IA g (by rw[Q];exact hc.1) (by rw[Q];rfl);have ag:I ((j.drop B).take len)=len:=by simp;omega
      have bd:I new=len:=by rw[Tx hq,ag]
      have Td:=AL A (dn.pw.1 dd) hc.2;have I6:∀e∈(j.drop B).take len,I e=g:=λe L=>A e (rj (qM L));have ab:len*g<=I (E.toList.drop (B*g)):=by
       simp;have h1:B*g+len*g<=I j*g:=by rw[<-gR];exact j6 _ hc.2
       have h2:I j*g<=m.κ id*g:=j6 _ iT;omega
      have me:∀(Z:Nat) (e:c_),new[Z]?=some e->Pw (cl m.w own) e (((E.toList.drop (B*g)).drop (Z*g)).take g):=by intro Z e L;obtain⟨x,q',h1,h2,h3⟩:=Sb hq L;exact D2 (R:=cY m) (T:=cl m.w own) (good:=ny m own) (λa b h=>h.app) (λa b r v e1 e2 e3=>Df ay _ e1 e2 e3) h2 ⟨aa.1,λi H=>aa.2 i (h3 i H)⟩ (PS I6 Td h1)
      have Bm:∀e∈new,I e=g:=by
       intro e L;obtain⟨Z,M⟩:=iA L;have:=(me Z e M).1;have jm:Z<len:=by rw[<-bd];exact(ct.1 M).1
       have h1:(Z+1)*g<=len*g:=j6 _ jm;rw[gR]at h1;simp at this ab;omega
      refine⟨some ad,N,by rw[bd],λz' nU e L=>?_,λaY=>?_⟩
      .simp[lK]at nU;subst nU;rw[<-e1];exact Bm e L
      have:0<len:=by rw[<-bd];exact nA.2 aY
      rw[e2 (.inr this)];refine row (m.σ id) B g len E F _ _ hh ?_;rw[bd];have:=Oa Bm (by rw[bd];exact ab) me;rw[bd]at this;exact this
     cases h
    cases h
   split at h
   .rename_i mF;cases h;exact⟨some ad,N,by rw[mF];rfl,λz' _ e L=>by simp at L,λh=>(h rfl).elim⟩
   cases h
 cases h
theorem alm{w:World}{own:Nat->Prop}(h:Pw (cl w own) M D):∀u∈D,u.oneCell':=by
 intro v f;obtain⟨j,H⟩:=iA f;have A:j<I M:=by rw[<-h.1];exact(ct.1 H).1
 exact(h.2 j _ v (oO A) H).JB
theorem JA{ids:aA}(h:oa m.blk ids=some u)(id:Nat):(app u m.blk id).1=(m.blk id).1:=by
 rcases td h id with⟨e,_⟩|⟨_,p,q,a,b,e⟩
 .exact congrArg Prod.fst e
 have:=congrArg Prod.fst e;exact this
theorem afa{m:aX}{id:Nat}{o:eN}{L:World}(ho:(m.blk id).2=some o)(hm:o.eV)(T:L.os=m.w.os)(H:L.tape=m.w.tape)(f:L.output=m.w.output)(aa:L.heap.size=m.w.heap.size)
  (h:∀x,x≠m.σ id->L.heap[x]?=m.w.heap[x]?):eY m {m.lV id with w:=L} where
 os:=T
 tape:=H
 output:=f
 size:=B8 aa.symm
 keep c _ g:=h c λe=>g ⟨id,o,ho,hm,e.symm⟩
 eV:=(Es ho hm).eV
 less:=(Es ho hm).less
 gen:=(Es ho hm).gen
 ref:=(Es ho hm).ref
theorem akD{m:aX}(ay:c9 O m){id s:Nat}{j:eN}{r:Array Value}{F:Nat}{f:dC}(ho:(m.blk id).2=some j)(hm:j.eV)(Y:0<g)(T:L.os=m.w.os)(v:L.tape=m.w.tape)(B:L.output=m.w.output)(aa:L.heap.size=m.w.heap.size)
  (y:∀x,x≠m.σ id->L.heap[x]?=m.w.heap[x]?) (Z:L.heap[m.σ id]?=some (.cells r F (0,0))) (u:∀e∈f,I e=g) (hl:I f<=m.κ id) (R:m.κ id<=maxLen) (Q:r.size=m.κ id*g)
  (hp:Pw (cl m.w m.own) f.flatten (r.toList.take (I f*g))):
  ∃M,M.w=L/\c9 O M/\eY m M/\M.fr=m.fr/\M.blk=cQ (cQ m.blk id ((m.blk id).1,none)) s ((m.blk s).1+1,some (.arr F g f))/\
   cg M (.one (.hsl s ((m.blk s).1+1) g 0 (I f))) (.slice (some ⟨m.σ id,0,none⟩) (I f) (m.κ id)):=by
 have N:=afa ho hm T v B aa y;have D:=(ay.dA id j ho hm).1;have A:c9 O {m.lV id with w:=L}:=aer (m:=m.lV id) (Yd ay ho hm) (.inr rfl) D T v B aa y;have E:eY m ((({m.lV id with w:=L}:aX)).install s (m.σ id) (m.κ id) (.arr F g f)):=LM N (.inr rfl) (.inr ⟨id,j,ho,hm,rfl⟩);have X:((({m.lV id with w:=L}:aX)).blk s).1=(m.blk s).1:=by
  simp only[aX.lV,bj];split
  .rename_i e;subst e;rfl
  rfl
 have n:((({m.lV id with w:=L}:aX)).install s (m.σ id) (m.κ id) (.arr F g f)).σ s=m.σ id:=by simp[aX.install,bj]
 have H:((({m.lV id with w:=L}:aX)).install s (m.σ id) (m.κ id) (.arr F g f)).κ s=m.κ id:=by simp[aX.install,bj]
 refine⟨_,rfl,KN A (.inr rfl) D ?_,E,?_,?_,?_⟩
 .exact⟨r,by rw[n];exact Z,Y,u,by rw[H];exact hl,by rw[H];exact R,by rw[H];exact Q,dw.ev E.zero (dw.pw.2 hp)⟩
 .funext x;simp only[aX.install,aX.lV];apply propext;constructor
  .rintro ⟨h|h,q⟩
   .exact h
   exact(q h).elim
  intro h;exact⟨.inl h,λe=>(ay.dA id j ho hm).2 (e▸h)⟩
 .simp only[aX.install];rw[X];rfl
 refine cg.one.2 (.hsl _ _ ?_ hl R λz h1 q=>?_)
 .simp only[aX.install,bj,if_true];rw[X];exact cH _
 have:jl (((({m.lV id with w:=L}:aX)).install s (m.σ id) (m.κ id) (.arr F g f)).blk s)=some g:=by simp[aX.install,bj,jl]
 rw[this]at q;cases q;exact⟨rfl,λ_=>by rw[n,tt],by rw[ka];exact H.symm⟩
theorem ary{P:Program}(w:World)(t F e:TypeId)(i:TypeInfo)(z:Value)(g:P.underlying t=some (.slice e))(H:P.info? e=some i)(r:i.zero=some z)
  (A:Option Addr) (a:Addr) (n c:Nat) (N:List Value) (hl:I N=n*i.size) (B:∀j v,N[j]?=some v->w.cell? (a.add j)=some v)
  (m:0<n) (f:(n:Int)<=9223372036854775807) (q:n*i.bytes<=281474976710656):
  (Builtin.append_ #[t,t] F #[.slice A 0 0,.slice (some a) n c]).run P w=
   .ok (.slice (some ⟨w.heap.size,0,none⟩) n (grownCap w n 0 e)) (w.drew.alloc (.cells (N.toArray++Builtin.zeroCells z.cells (grownCap w n 0 e-n)) e)):=by
 cases A with
 |none=>exact run_append_nil w t F e i z g H r a n c N hl B m f q
 |some b=>have h:=run_append_grow (P:=P) w t F e i z g H r b 0 0 [] aG (λj v h=>by simp at h) a n c N hl B J (by simpa using f) (by rw[ka,nextslicecap_zero m];exact q);rw[ka]at h;rw[h];simp
theorem YY{n M:aX}{a:Act}{o:Oper}{y:iB}{s e f:Nat}{cells:List Value}{z:Value}{W:World}
  (T:(execOp a.eval o).run P m.w=.ok (.value (.slice (some ⟨M.w.heap.size,0,none⟩) (I j) f)) W)
  (H:M.w.drew.alloc (.cells (cells.toArray++Builtin.zeroCells z.cells (f-I j)) e)=W)
  (v:c9 O M) (N:eY m M) (Q:M.fr=m.fr) (B:0<g) (Y:z.cells.size=g) (A:∀x∈j,I x=g) (D:I cells=I j*g)
  (R:eY n M) (Z:Pw (cl n.w n.own) j.flatten cells) (h:I j<=f) (q:f<=maxLen) (X:(M.blk s).1=(m.blk s).1) (E:app y m.blk=M.blk):
  ft P O a.eval o m (.one (.hsl s ((m.blk s).1+1) g 0 (I j))) (y++[(s,((m.blk s).1+1,some (.arr e g j)))]):=by
 have hg:gD M.w W:=by rw[<-H];exact(gD.drew _).trans (gD.alloc _ _)
 have u:eY M (M.kA W s M.w.heap.size f (.arr e g j)):=Ix hg (cH _);have r:=Nx (m:=M) (L:=W) (s:=s) (c:=M.w.heap.size) (F:=e) (g:=g) (j:=j) h q;rw[X]at r;refine⟨_,M.kA W s M.w.heap.size f (.arr e g j),.inl T,LC hg (cH _) (by rw[<-H];simp) v ⟨_,by rw[EM,anR,<-H];exact heap_alloc_new M.w.drew _,B,A,by rw[rK];exact h,by rw[rK];exact q,?_,?_⟩,N.trans u,(JX v (cH _)).trans Q,by rw[MI,am2,E,X],r⟩
 .rw[rK,Array.size_append,Sn,size_zeroCells,Y,D,<-gR];congr 1;omega
 rw[Array.toList_append,List.toList_toArray,<-D,JP];exact dw.ev (R.trans u).zero (dw.pw.2 Z)
section
variable {m:aX} {q:bD} {a:Act} {o:Oper} (ay:c9 O m) (hr:iw m q a.tmps)
include ay hr
theorem afK{c:Call}{d:Operand}{d':dR}{t e:TypeId}{s bytes:Nat}{rd:aA}(ho:o.op=.call c)(hc:c.callee=.builtin .append)(a4:c.args= #[d,x])(ik:c.argTypes= #[t,t])
  (he:vj P t=some (e,g,bytes,z)) (hd:cE d=some d') (Z:cE x=some X) (f:ae m.blk s e g bytes (ev q d') (ev q X)=.done v u rd):ft P O a.eval o m v u:=by
 obtain⟨i,zv,ht,H,aa,hb,⟨iE,Ik⟩,wc,Dq,mI,dd⟩:=Kl he;have qU:=eC hd hr;have jR:=eC Z hr;have run:∀(y:Value) (L:World),(Builtin.append_ #[t,t] o.type #[a.eval d,a.eval x]).run P m.w=.ok y L->(execOp a.eval o).run P m.w=.ok (.value y) L:=by intro y L h;simp[execOp,ho,resolve,hc,a4,ik,invoke,builtin,h]
 unfold ae at f;split at f
 .cases f
 rename_i new bb fr dr;split at f
 .cases f
 rename_i a3;split at f
 .cases f
 rename_i F ql;have sZ:=adL ay ql;have vX:=NW ql;have mg:=Ud ay ql;obtain⟨ax,cx,yi,av,Bi⟩:=Yx ay dr jR mg;have di:∀e∈new,I e=g:=by
  have:lK (ev q X)=some g\/ao g new:=Classical.not_not.1 a3;rcases this with h|h
  .exact av g h
  intro e he;have:=gL.1 h e he
  simpa using this
 have SR:I new.flatten=I new*g:=Cz di;have nz:∀ {az},a.eval d=.slice az 0 0-> ¬I new=0->I new*bytes<=kK->ft P O a.eval o m (.one (.hsl s ((m.blk s).1+1) g 0 (I new))) (F++[(s,((m.blk s).1+1,some (.arr e g new)))]):=by
  intro az Y A jQ;have aY:new≠[]:=λh=>A (by simp[h]);obtain⟨b,B,n,rfl,ot,CL⟩:=Bi aY;unfold kK at jQ;have iI:I n=I new*i.size:=by rw[ot.1,SR,aa]
  have LX:I new<=maxLen/\(I new:Int)<=9223372036854775807:=by have:I new<=I new*bytes:=L8 _ Ik;simp only[maxLen];omega
  have nh:=ary (P:=P) m.w t o.type e i zv ht H wc az ⟨b,B,none⟩ (I new) cx n iI (λan v T=>by rw[Addr.add_lit];exact CL an v T) J LX.2 (by rw[hb];omega);exact YY (M:=m.with F) (run _ _ (by rw[Y,yi];exact nh)) rfl sZ vX rfl iE Dq di (iI.trans (by rw[aa])) (eY.refl _) ot (grownCap_ge m.w (I new) 0 e) (grownCap_le_maxLen m.w (I new) 0 e LX.1) (JA ql s) rfl
 split at f
 ·
  rename_i Iq;rw[Iq]at qU;have Y:=Ji qU;split at f
  .rename_i A;cases f;refine⟨.slice none 0 0,m.with u,.inl (run _ _ ?_),sZ,vX,rfl,rfl,k9 .nils⟩;rw[Y,yi,A];cases ax<;>simp[Builtin.append_,run_underlying ht,sizeOf,typeInfo,H,Builtin.lenOf,Builtin.firstCells,loadCells,loadCellsFrom,aX.with]
  rename_i A;split at f
  .rename_i jQ;cases f;exact nz Y A jQ
  cases f
 ·
  rename_i Iq;rw[Iq]at qU;obtain⟨az,Y⟩:=akQ qU;split at f
  .cases f
  rename_i A;split at f
  .rename_i jQ;cases f;exact nz Y A jQ
  cases f
 .rename_i id a8 yT len Iq;rw[Iq]at qU;split at f
  .rename_i g' Q D j R;split at f
   .rename_i qj;obtain⟨ir,rfl,rfl,ab,jQ,au⟩:=qj;cases f;have aV:id∉fr:=by simpa using au
    have ba:(m.with F).blk id=m.blk id:=by
     rcases td ql id with⟨e,_⟩|⟨o9,_⟩
     .exact e
     exact(aV o9).elim
    have bc:((m.with F).blk id).2=some (.arr Q D j):=by rw[ba,R]
    obtain⟨E,hh,_,ag,hl,r7,cX,ap⟩:=sZ.obj id _ bc;have Fq:cY m _ (a.eval d):=qU;generalize Y:a.eval d=dv at Fq;cases Fq with
    |hsl ad N hg pz bd IB=>
     obtain⟨f1,f2,f3⟩:=IB D (by rw[R];exact ir) (by rw[R];rfl);have M:N=m.κ id:=by rw[<-f3,ka]
     have mZ:=f2 (.inl rfl);rw[tt]at mZ;subst mZ;unfold kK at jQ;have xW:=JA ql s;have a7:=JA ql id;have Fv:len*D<=I j*D:=j6 _ ab;have iT:I j*D<=m.κ id*D:=j6 _ hl;have S6:Pw (cl (m.with F).w (m.with F).own) (j.take len).flatten (E.toList.take (len*D)):=by rw[C7 ag];have h1:=(dw.pw.1 ap).take (len*D);rw[D8,y_ Fv]at h1;exact h1
     have a2:I (j.take len)=len:=by simp;omega
     have Ym:∀x∈j.take len++new,I x=D:=by
      intro x Z;rcases fB.1 Z with Z|Z
      .exact ag x (qM Z)
      exact di x Z
     have a5:len+I new<=(len+I new)*bytes:=L8 _ Ik;have yf:∀a9:abY,app (F++[(id,(a8,none)),a9]) m.blk=cQ (cQ (m.with F).blk id (((m.with F).blk id).1,none)) a9.1 a9.2:=by intro a9;rw[MI];simp only[app];rw[ba,R,ir];rfl
     have Bd:I (j.take len++new)=len+I new:=by rw[ep,a2]
     by_cases r:len+I new<=N
     ·
      have am:∀(L:World) (rO:Array Value),(execOp a.eval o).run P m.w=.ok (.value (.slice (some ⟨m.σ id,0,none⟩) (len+I new) N)) L->L.os=m.w.os->L.tape=m.w.tape->L.output=m.w.output->L.heap.size=m.w.heap.size->
        (∀x,x≠m.σ id->L.heap[x]?=m.w.heap[x]?)->L.heap[m.σ id]?=some (.cells rO Q (0,0))->rO.size=E.size->Pw (cl (m.with F).w (m.with F).own) (j.take len++new).flatten (rO.toList.take ((len+I new)*D))->
        ft P O a.eval o m (.one (.hsl s ((m.blk s).1+1) D 0 (len+I new))) (F++[(id,(a8,none)),(s,((m.blk s).1+1,some (.arr Q D (j.take len++new))))]):=by
       intro L rO nh q1 q2 q3 q4 q5 q6 q7 q8;obtain⟨m',e1,e2,e3,e4,e5,e6⟩:=akD (s:=s) sZ bc rfl iE q1 q2 q3 q4 q5 q6 Ym (by rw[Bd];rw[M]at r;exact r) r7 (by rw[q7];exact cX) (by rw[Bd];exact q8);rw[Bd]at e6;have ar:((m.with F).blk s).1=(m.blk s).1:=xW;rw[ar]at e6 e5;refine⟨_,m',.inl (by rw[e1];exact nh),e2,vX.trans e3,e4,by rw[e5,yf],?_⟩;rw[M];exact e6
      by_cases A:new=[]
      .subst A;have a1:(execOp a.eval o).run P m.w=.ok (.value (.slice (some ⟨m.σ id,0,none⟩) (len+I ([]:dC)) N)) m.w:=by
        apply run;rw[Y,yi];have a0:len<=N:=pz;cases ax<;>simp[Builtin.append_,run_underlying ht,sizeOf,typeInfo,H,Builtin.lenOf,Builtin.firstCells,loadCells,loadCellsFrom,a0,storeCells]
       exact am m.w E a1 rfl rfl rfl rfl (λ_ _=>rfl) hh rfl (by simpa using S6)
      obtain⟨b,B,n,rfl,ot,CL⟩:=Bi A;have iI:I n=I new*i.size:=by rw[ot.1,SR,aa]
      have A5:len*i.size+I n<=E.size:=by rw[iI,aa,cX,<-gR];rw[M]at r;exact j6 _ r
      have nh:=run_append_room (P:=P) m.w t o.type Q i ht H (m.σ id) len N E hh ⟨b,B,none⟩ (I new) cx n iI (λan v T=>by rw[Addr.add_lit];exact CL an v T) (alm ot) r A5;have aL:(execOp a.eval o).run P m.w=.ok (.value (.slice (some ⟨m.σ id,0,none⟩) (len+I new) N)) _:=run _ _ (by rw[Y,yi];exact nh);have aE:len*i.size<=E.size:=jO (Nat.le_add_right _ _) A5;refine am _ _ aL ?_ ?_ ?_ ?_ (λx Z=>setRow_other m.w (m.σ id) x _ Z) (Na hh) ?_ ?_
      .rfl
      .rfl
      .rfl
      .exact setRow_size m.w _ _
      .rw[Sn,ep,ep,iU,BO,Fp];omega
      have h1:=S6.append ot;rw[<-wU]at h1;have:(E.toList.take (len*i.size)++n++E.toList.drop (len*i.size+I n)).take ((len+I new)*D)=E.toList.take (len*D)++n:=by
       rw[aa];have dt:I (E.toList.take (len*D))=len*D:=by rw[iU,Fp];rw[aa]at aE;omega
       have Il:I (E.toList.take (len*D)++n)=(len+I new)*D:=by rw[ep,dt,iI,aa,gR]
       rw[On (B8 Il.symm)];exact eW (B8 Il)
      simp only[List.toList_toArray]at this |-;rw[this];exact h1
     ·
      have A:new≠[]:=λe=>by subst e;simp at r;omega
      obtain⟨b,B,n,rfl,ot,CL⟩:=Bi A;have iI:I n=I new*i.size:=by rw[ot.1,SR,aa]
      have YK:I (E.toList.take (len*D))=len*i.size:=by rw[aa,iU,Fp];have a6:E.size=m.κ id*D:=cX;omega
      have nh:=run_append_grow (P:=P) m.w t o.type Q i zv ht H wc ⟨m.σ id,0,none⟩ len N (E.toList.take (len*D)) YK (λan v T=>by
        rw[Addr.add_lit,ka];have:(m.w.cell? ⟨m.σ id,an,none⟩)=E[an]? :=CR hh;rw[this];rw[lT]at T;split at T
        .simpa using T
        cases T) ⟨b,B,none⟩ (I new) cx n iI (λan v T=>by rw[Addr.add_lit];exact CL an v T) J J (growslice_fits J (by rw[hb];omega))
      have LX:len+I new<=maxLen:=by simp only[maxLen];omega
      have h1:=S6.append ot;rw[<-wU]at h1;have ak:eY (m.with F) {(m.with F).lV id with fr:=m.fr}:=(Es bc rfl).trans (adM (λc hc=>.inl hc));have bN:=YY (P:=P) (O:=O) (a:=a) (o:=o) (y:=F++[(id,(a8,none))]) (s:=s) (e:=Q) (m:=m) (M:={(m.with F).lV id with fr:=m.fr}) (j:=j.take len++new) (z:=zv) (cells:=E.toList.take (len*D)++n) (f:=grownCap m.w (len+I new) N Q) (W:=m.w.drew.alloc (.cells ((E.toList.take (len*D)++n).toArray++Builtin.zeroCells zv.cells (grownCap m.w (len+I new) N Q-(len+I new))) Q))
       (by rw[Bd,<-List.append_toArray];exact run _ _ (by rw[Y,yi];exact nh)) (by rw[Bd];rfl) (asv (zg:=m.fr) (Yd sZ bc rfl) (λc hc=>.inl hc)) (vX.trans ak) rfl iE Dq Ym (by rw[ep,YK,iI,aa,Bd,gR]) ak h1 (by rw[Bd];exact grownCap_ge m.w (len+I new) N Q) (grownCap_le_maxLen m.w (len+I new) N Q LX)
       (by simp only[aX.lV,bj];split<;>first|exact xW|(rename_i e';subst e';exact xW)) (by rw[MI];show cQ _ id (a8,none)=cQ _ id (((m.with F).blk id).1,none);rw[ba,R,ir];rfl)
      rw[Bd,jL]at bN;exact bN
   cases f
  cases f
 cases f
end
end Go.Abs
