/-
  An abstract machine for the code of the model.
-/
import Derived.Calls
import Derived.WalkKit
set_option linter.unusedSimpArgs false
set_option linter.unusedVariables false
set_option linter.unusedSectionVars false
namespace Go.Abs
inductive PV where
 |bool (b:Bool)
 |int (k:IntKind) (n:Int)
 |str (s:ByteArray)
 |nilp|nils|nilm|nilf|nili|ifc
 |box (cs:List PV)
 |sl (es:List (List PV))
 |mp (ag:Bool) (es:List (PV × List PV))
 |fn (f:Nat) (first cap:List PV)
 deriving Inhabited
inductive C where
 |p (v:PV)
 |href (id g off:Nat)
 |hel (id g i off:Nat)
 |hsl (id g sz off len:Nat)
 |hmap (id g:Nat)
 |hfn (f:Nat) (first cap:List C)
 deriving Inhabited
inductive V where
 |undef
 |one (c:C)
 |agg (cs:List C)
 |tup (vs:List V)
 deriving Inhabited
inductive Ob where
 |var (cs:List C)
 |arr (ty sz:Nat) (es:List (List PV))
 |carr (ty sz:Nat) (es:List (List C))
 |map (ag:Bool) (es:List (PV × List PV))
 |fvar (cs:List PV)
 |farr (ty sz:Nat) (es:List (List PV))
 |fmap (ag:Bool) (es:List (PV × List PV))
 deriving Inhabited
abbrev Env:=Nat→V
abbrev Blk:=Nat→Nat × Option Ob
def upd{α:Type}(f:Nat→α)(a:Nat)(x:α):Nat→α:=fun i=>if i=a then x else f i
theorem upd_apply{α:Type}(f:Nat→α)(a b:Nat)(x:α):upd f a x b=if b=a then x else f b:=rfl
inductive IArg where
 |t (n:Nat)
 |i (n:Int)
 |b (x:Bool)
 |k (v:V)
inductive EqK where
 |bool|ptr|slc|map|fnc|ifc
 |str (ks:List Bool)
inductive IOp where
 |mov (x:IArg)
 |pick (c a b:IArg)
 |alloc (site:Nat) (z:List PV)
 |box (site:Nat) (x:IArg)
 |build (z:List PV) (parts:List (Nat × Nat × IArg))
 |bslice (site ty sz:Nat) (parts:List IArg)
 |load (k:Option Nat) (x:IArg)
 |store (n:Nat) (a x:IArg)
 |nilchk (x:IArg)
 |bin (op:BinOp) (x y:IArg)
 |eqc (k:EqK) (neg:Bool) (x y:IArg)
 |un (op:UnOp) (x:IArg)
 |conv (k:IntKind) (x:IArg)
 |bstr (x:IArg)
 |mkfn (f:Nat) (first cap:List IArg)
 |mkmap (site:Nat) (ag:Bool)
 |mkslice (site ty sz bytes:Nat) (z:List PV) (len cap:IArg)
 |slice (sz:Nat) (x:IArg) (lo hi:Option IArg)
 |sslice (x:IArg) (lo hi:Option IArg)
 |faddr (off:Nat) (x:IArg)
 |iaddr (sz:Nat) (x i:IArg)
 |aaddr (len sz:Nat) (x i:IArg)
 |fld (off:Nat) (k:Option Nat) (x:IArg)
 |aidx (len sz:Nat) (k:Option Nat) (x i:IArg)
 |sidx (x i:IArg)
 |lookup (kd:Nat) (z:List PV) (agg ok:Bool) (x k:IArg)
 |mupd (kd:Nat) (ag:Bool) (m k v:IArg)
 |bad
 |extract (x:IArg) (i:Nat)
 |call (site:Nat) (f:IArg) (args:List IArg)
 |slen (x:IArg)
 |llen (x:IArg)
 |mlen (x:IArg)
 |append (site ty sz bytes:Nat) (s x:IArg)
 |max (x y:IArg)
 |min (x y:IArg)
 |clear (z:List PV) (x:IArg)
structure IOper where
 dst:Option Nat
 op:IOp
 guard:Option (Nat × Bool)
 anc:Nat
inductive ICode where
 |skip
 |region (draw:Bool) (ops:List IOper)
 |seq (a b:ICode)
 |cond (x:IArg) (a b:ICode)
 |block (id:Nat) (c:ICode)
 |loop (c:ICode)
 |exit (id:Nat)
 |ret
 |bad
structure IFn where
 ntmps:Nat
 results:List (Nat × Option (Option Nat))
 body:ICode
def ev (env:Env):IArg→V
 | .t n=>env n
 | .i n=> .one (.p (.int .i64 n))
 | .b x=> .one (.p (.bool x))
 | .k v=>v
abbrev Upd:=Nat × (Nat × Option Ob)
def app:List Upd→Blk→Blk
 |[],b=>b
 |(i,o)::r,b=>app r (upd b i o)
def PV.norm:PV→PV
 | .nils=> .sl []
 |v=>v
def toP:C→Option PV
 | .p v=>some v.norm
 |_=>none
def toPs:List C→Option (List PV)
 |[]=>some []
 |c::r=>match toP c,toPs r with
  |some v,some vs=>some (v::vs)
  |_,_=>none
def cellsV:V→Option (List C)
 | .one c=>some [c]
 | .agg cs=>some cs
 |_=>none
def collect{α β:Type}(f:α→Option (β × List Nat)):List α→Option (List β × List Nat)
 |[]=>some ([],[])
 |a::r=>match f a,collect f r with
  |some (b,x),some (bs,y)=>some (b::bs,x++y)
  |_,_=>none
def snap(blk:Blk):Nat→C→Option (PV × List Nat)
 |0,_=>none
 |n+1,c=>match c with
  | .p v=>some (v.norm,[])
  | .href id g off=>match blk id with
   |(g',some (.var cs))=>if g'=g then
     match collect (snap blk n) cs with
     |some (ps,r)=>some (.box (ps.drop off),id::r)
     |none=>none
    else none
   |(g',some (.fvar ps))=>if g'=g then some (.box (ps.drop off),[id]) else none
   |_=>none
  | .hel id g i off=>match blk id with
   |(g',some (.arr _ _ es))=>if g'=g then (es[i]?).map fun e=>(.box (e.drop off),[id]) else none
   |(g',some (.farr _ _ es))=>if g'=g then (es[i]?).map fun e=>(.box (e.drop off),[id]) else none
   |_=>none
  | .hsl id g z off len=>match blk id with
   |(g',some (.arr _ _ es))=>if g'=g∧off+len≤es.length then some (.sl ((es.drop off).take len),[id]) else none
   |(g',some (.farr _ _ es))=>if g'=g∧off+len≤es.length then some (.sl ((es.drop off).take len),[id]) else none
   |(g',some (.carr _ _ es))=>if g'=g∧off+len≤es.length then
     match collect (collect (snap blk n)) ((es.drop off).take len) with
     |some (ps,r)=>some (.sl ps,id::r)
     |none=>none
    else none
   |_=>none
  | .hmap id g=>match blk id with
   |(g',some (.map ag es))=>if g'=g then some (.mp ag es,[id]) else none
   |(g',some (.fmap ag es))=>if g'=g then some (.mp ag es,[id]) else none
   |_=>none
  | .hfn f a b=>match collect (snap blk n) a,collect (snap blk n) b with
   |some (x,r),some (y,s)=>some (.fn f x y,r++s)
   |_,_=>none
def snapN:Nat:=6
def snapV(blk:Blk):V→Option (V × List Nat)
 | .one c=>(snap blk snapN c).map fun(v,r)=>(.one (.p v),r)
 | .agg cs=>(collect (snap blk snapN) cs).map fun(vs,r)=>(.agg (vs.map .p),r)
 |_=>none
def frz1(blk:Blk)(all:List Nat)(id:Nat):Option (List Upd):=
 match blk id with
 |(g,some (.var cs))=>match collect (snap blk snapN) cs with
  |some (ps,r)=>if r.all all.contains then some [(id,(g,some (.fvar ps)))] else none
  |none=>none
 |(g,some (.arr ty sz es))=>some [(id,(g,some (.farr ty sz es)))]
 |(g,some (.carr ty sz es))=>match collect (collect (snap blk snapN)) es with
  |some (ps,r)=>if r.all all.contains then some [(id,(g,some (.farr ty sz ps)))] else none
  |none=>none
 |(g,some (.map ag es))=>some [(id,(g,some (.fmap ag es)))]
 |(_,none)=>none
 |_=>some []
def frzL(blk:Blk)(all:List Nat):List Nat→Option (List Upd)
 |[]=>some []
 |i::r=>match frz1 blk all i,frzL blk all r with
  |some a,some b=>some (a++b)
  |_,_=>none
def frz(blk:Blk)(ids:List Nat):Option (List Upd):=frzL blk ids ids
inductive RC where
 |p (v:PV)
 |own (ty sz:Nat) (es:List (List PV))
 deriving Inhabited
inductive RV where
 |one (c:RC)
 |agg (cs:List RC)
 |tup (vs:List RV)
 deriving Inhabited
def RC.pure:RC→RC
 | .p v=> .p v
 | .own _ _ es=> .p (.sl es)
def RV.pure1:RV→RV
 | .one c=> .one c.pure
 | .agg cs=> .agg (cs.map RC.pure)
 | .tup vs=> .tup vs
def RV.pure:RV→RV
 | .tup vs=> .tup (vs.map RV.pure1)
 |v=>v.pure1
def RV.pureIf(b:Bool)(r:RV):RV:=match b with
 |true=>r.pure
 |false=>r
def PV.scalar:PV→Bool
 | .bool _| .int _ _| .str _| .nilp| .nils| .nilm| .nilf| .nili| .ifc=>true
 |_=>false
def RC.alone:RC→Bool
 | .p v=>v.scalar
 | .own _ _ es=>es.all fun e=>e.all PV.scalar
def outC(blk:Blk)(c:C):Option (RC × List Nat × List Nat):=
 match c with
 | .p v=>some (.p v,[],[])
 | .hsl id g z 0 len=>match blk id with
  |(g',some (.arr ty sz es))=>if g'=g∧len≤es.length then some (.own ty sz (es.take len),[id],[]) else none
  |_=>(snap blk snapN c).map fun(v,r)=>(.p v,[],r)
 |_=>(snap blk snapN c).map fun(v,r)=>(.p v,[],r)
def outCs(blk:Blk):List C→Option (List RC × List Nat × List Nat)
 |[]=>some ([],[],[])
 |c::r=>match outC blk c,outCs blk r with
  |some (x,o,q),some (xs,os,qs)=>some (x::xs,o++os,q++qs)
  |_,_=>none
def flatV1:V→Option (List C)
 | .one c=>some [c]
 | .agg cs=>some cs
 |_=>none
def flatVs:List V→Option (List C)
 |[]=>some []
 |v::r=>match flatV1 v,flatVs r with
  |some a,some b=>some (a++b)
  |_,_=>none
def flatV:V→Option (List C)
 | .tup vs=>flatVs vs
 |v=>flatV1 v
def reshR1:V→List RC→RV × List RC
 | .one _,r::rs=>(.one r,rs)
 | .agg cs,rs=>(.agg (rs.take cs.length),rs.drop cs.length)
 |_,rs=>(.agg [],rs)
def reshRs:List V→List RC→List RV
 |[],_=>[]
 |v::r,rs=>(reshR1 v rs).1::reshRs r (reshR1 v rs).2
def reshR:V→List RC→RV
 | .tup vs,rs=> .tup (reshRs vs rs)
 |v,rs=>(reshR1 v rs).1
def apart:List Nat→List Nat→Bool
 |[],_=>true
 |i::r,q=> !r.contains i&& !q.contains i&&apart r q
def outV(blk:Blk)(v:V):Option RV:=
 match flatV v with
 |some cs=>match outCs blk cs with
  |some (x,o,q)=>if apart o q then some (reshR v x) else none
  |none=>none
 |none=>none
def inC(blk:Blk)(site:Nat):RC→C × List Upd
 | .p v=>(.p v,[])
 | .own ty sz es=>(.hsl site ((blk site).1+1) sz 0 es.length,[(site,((blk site).1+1,some (.arr ty sz es)))])
def inCs(blk:Blk)(site:Nat):List RC→List C × List Upd
 |[]=>([],[])
 |c::r=>((inC blk site c).1::(inCs blk (site+1) r).1,(inC blk site c).2++(inCs blk (site+1) r).2)
def flatR1:RV→List RC
 | .one c=>[c]
 | .agg cs=>cs
 | .tup _=>[]
def flatRs:List RV→List RC
 |[]=>[]
 |v::r=>flatR1 v++flatRs r
def flatR:RV→List RC
 | .tup vs=>flatRs vs
 |v=>flatR1 v
def reshV1:RV→List C→V × List C
 | .one _,c::cs=>(.one c,cs)
 | .agg rs,cs=>(.agg (cs.take rs.length),cs.drop rs.length)
 |_,cs=>(.undef,cs)
def reshVs:List RV→List C→List V
 |[],_=>[]
 |v::r,cs=>(reshV1 v cs).1::reshVs r (reshV1 v cs).2
def reshV:RV→List C→V
 | .tup vs,cs=> .tup (reshVs vs cs)
 |v,cs=>(reshV1 v cs).1
def RV.alone(r:RV):Bool:=(flatR r).all RC.alone
def inV(blk:Blk)(site:Nat)(r:RV):V × List Upd:=(reshV r (inCs blk site (flatR r)).1,(inCs blk site (flatR r)).2)
inductive Plan where
 |fail
 |done (v:V) (u:List Upd) (rd:List Nat)
 |pc (f:Nat) (args:List V) (rd:List Nat) (site:Nat)
 |sc (f:Nat) (args:List V)
def rdAt(blk:Blk):V→Option (List C × List Nat)
 | .one (.p (.box cs))=>some (cs.map .p,[])
 | .one (.href id g off)=>match blk id with
  |(g',some (.var cs))=>if g'=g then some (cs.drop off,[id]) else none
  |(g',some (.fvar cs))=>if g'=g then some ((cs.drop off).map .p,[id]) else none
  |_=>none
 | .one (.hel id g i off)=>match blk id with
  |(g',some (.arr _ _ es))=>if g'=g then (es[i]?).map fun e=>((e.drop off).map .p,[id]) else none
  |(g',some (.farr _ _ es))=>if g'=g then (es[i]?).map fun e=>((e.drop off).map .p,[id]) else none
  |(g',some (.carr _ _ es))=>if g'=g then (es[i]?).map fun e=>(e.drop off,[id]) else none
  |_=>none
 |_=>none
def takeV(k:Option Nat)(cs:List C):Option V:=
 match k with
 |none=>match cs with
  |c::_=>some (.one c)
  |[]=>none
 |some n=>if n≤cs.length then some (.agg (cs.take n)) else none
def splice{α:Type}(cs:List α)(off:Nat)(xs:List α):List α:=cs.take off++xs++cs.drop (off+xs.length)
def wrAt(blk:Blk)(a:V)(n:Nat)(xs:List C):Plan:=
 if xs.length≠n then .fail else
 match a with
 | .one (.href id g off)=>match blk id with
  |(g',some (.var cs))=>if g'=g∧off+n≤cs.length then .done .undef [(id,(g,some (.var (splice cs off xs))))] [id] else .fail
  |_=> .fail
 | .one (.hel id g i off)=>match blk id with
  |(g',some (.arr ty sz es))=>match es[i]?,toPs xs with
   |some e,some ps=>if g'=g∧off+n≤e.length then .done .undef [(id,(g,some (.arr ty sz (es.set i (splice e off ps)))))] [id] else .fail
   |_,_=> .fail
  |_=> .fail
 |_=> .fail
def elemsOf(blk:Blk):V→Option (List (List PV) × List Nat × List Nat)
 | .one (.p .nils)=>some ([],[],[])
 | .one (.p (.sl es))=>some (es,[],[])
 | .one (.hsl id g z off len)=>match blk id with
  |(g',some (.arr _ _ es))=>if g'=g∧off+len≤es.length then some ((es.drop off).take len,[id],[]) else none
  |(g',some (.farr _ _ es))=>if g'=g∧off+len≤es.length then some ((es.drop off).take len,[id],[]) else none
  |(g',some (.carr _ _ es))=>if g'=g∧off+len≤es.length then
    match collect (collect (snap blk snapN)) ((es.drop off).take len) with
    |some (ps,r)=>some (ps,[id],r)
    |none=>none
   else none
  |_=>if len=0 then some ([],[id],[]) else none
 |_=>none
def szOK(sz:Nat)(es:List (List PV)):Bool:=es.all fun e=>e.length==sz
def szOf:V→Option Nat
 | .one (.hsl _ _ z _ _)=>some z
 |_=>none
def room:Nat:=140737488355328
def planAppend(blk:Blk)(site ty sz bytes:Nat)(s x:V):Plan:=
 match elemsOf blk x with
 |none=> .fail
 |some (new,rd,fr)=>
  if ¬ (szOf x=some sz∨szOK sz new=true) then .fail else
  match frz blk fr with
  |none=> .fail
  |some fu=>
   match s with
   | .one (.p .nils)=>
    if new.length=0 then .done (.one (.p .nils)) fu (rd++fr) else
    if new.length*bytes≤room then
     .done (.one (.hsl site ((blk site).1+1) sz 0 new.length)) (fu++[(site,((blk site).1+1,some (.arr ty sz new)))]) (site::rd++fr)
    else .fail
   | .one (.hsl id g z 0 len)=>match blk id with
    |(g',some (.arr ty' sz' es))=>
     if g'=g∧ty'=ty∧sz'=sz∧len≤es.length∧(len+new.length)*bytes≤room∧fr.contains id=false then
      .done (.one (.hsl site ((blk site).1+1) sz 0 (len+new.length)))
       (fu++[(id,(g,none)),(site,((blk site).1+1,some (.arr ty sz (es.take len++new))))]) (site::id::rd++fr)
     else .fail
    |_=> .fail
   |_=> .fail
def asN:V→Option Nat
 | .one (.p (.int _ n))=>if 0≤n then some n.toNat else none
 |_=>none
def boundOf(env:Env)(d:Nat):Option IArg→Option Nat
 |none=>some d
 |some a=>asN (ev env a)
def planSlice(x:V)(sz lo hi:Nat):Plan:=
 if ¬ lo≤hi then .fail else
 match x with
 | .one (.p .nils)=>if hi=0 then .done (.one (.p .nils)) [] [] else .fail
 | .one (.p (.sl es))=>if hi≤es.length∧szOK sz es=true then .done (.one (.p (.sl ((es.drop lo).take (hi - lo))))) [] [] else .fail
 | .one (.hsl id g z off len)=>if hi≤len∧z=sz then .done (.one (.hsl id g z (off+lo) (hi - lo))) [] [] else .fail
 |_=> .fail
def lenL:V→Option Nat
 | .one (.p .nils)=>some 0
 | .one (.p (.sl es))=>some es.length
 | .one (.hsl _ _ _ _ len)=>some len
 |_=>none
def lenM(blk:Blk):V→Option (Nat × List Nat)
 | .one (.p .nilm)=>some (0,[])
 | .one (.p (.mp _ es))=>some (es.length,[])
 | .one (.hmap id g)=>match blk id with
  |(g',some (.map _ es))=>if g'=g then some (es.length,[id]) else none
  |(g',some (.fmap _ es))=>if g'=g then some (es.length,[id]) else none
  |_=>none
 |_=>none
def mapOf(blk:Blk)(ag:Bool):V→Option (List (PV × List PV) × List Nat)
 | .one (.p .nilm)=>some ([],[])
 | .one (.p (.mp ag' es))=>if ag'=ag then some (es,[]) else none
 | .one (.hmap id g)=>match blk id with
  |(g',some (.map ag' es))=>if g'=g∧ag'=ag then some (es,[id]) else none
  |(g',some (.fmap ag' es))=>if g'=g∧ag'=ag then some (es,[id]) else none
  |_=>none
 |_=>none
def sameKey:PV→PV→Option Bool
 | .int k a, .int k' b=>if k=k' then some (a==b) else none
 | .str a, .str b=>some (a==b)
 | .bool a, .bool b=>some (a==b)
 |_,_=>none
def keyKd:PV→Nat
 | .int _ _=>0
 | .str _=>1
 | .bool _=>2
 |_=>3
def mapVal:Bool→List PV→Option V
 |true,cs=>some (.agg (cs.map .p))
 |false,[c]=>some (.one (.p c))
 |false,_=>none
def findK(k:PV):List (PV × List PV)→Nat→Option (Option (Nat × List PV))
 |[],_=>some none
 |(a,v)::r,i=>match sameKey k a with
  |some true=>some (some (i,v))
  |some false=>findK k r (i+1)
  |none=>none
def cellsAg:Bool→V→Option (List C)
 |false, .one c=>some [c]
 |true, .agg cs=>some cs
 |_,_=>none
def binInt(op:BinOp)(k:IntKind)(a b:Int):Option PV:=
 match op with
 | .add=>some (.int k (k.wrap (a+b)))
 | .sub=>some (.int k (k.wrap (a - b)))
 | .mul=>some (.int k (k.wrap (a*b)))
 | .quo=>if b=0 then none else some (.int k (k.wrap (a.tdiv b)))
 | .rem=>if b=0 then none else some (.int k (a.tmod b))
 | .eql=>some (.bool (a==b))
 | .neq=>some (.bool (a !=b))
 | .lss=>some (.bool (decide (a<b)))
 | .leq=>some (.bool (decide (a≤b)))
 | .gtr=>some (.bool (decide (b<a)))
 | .geq=>some (.bool (decide (b≤a)))
 | .and=>some (.int k (k.wrap (BitVec.ofInt k.bits a&&& BitVec.ofInt k.bits b).toNat))
 | .shl=>if b<0 then none else some (.int k (k.wrap (a*2 ^ min b.toNat k.bits)))
 | .shr=>if b<0 then none else some (.int k (a.fdiv (2 ^ min b.toNat k.bits)))
 |_=>none
def binStr(op:BinOp)(a b:ByteArray):Option PV:=
 match op with
 | .add=>if a.size+b.size≤9223372036854775807 then some (.str (a++b)) else none
 | .eql=>some (.bool (a.toList==b.toList))
 | .neq=>some (.bool (!(a.toList==b.toList)))
 |_=>none
def binV(op:BinOp):V→V→Option V
 | .one (.p (.int k a)), .one (.p (.int k' b))=>
  if k=k'∨op= .shl∨op= .shr then (binInt op k a b).map fun v=> .one (.p v) else none
 | .one (.p (.str a)), .one (.p (.str b))=>(binStr op a b).map fun v=> .one (.p v)
 |_,_=>none
def eqC:Bool→PV→PV→Option Bool
 |true, .int k a, .int k' b=>if k=k' then some (a==b) else none
 |false, .bool a, .bool b=>some (a==b)
 |_,_,_=>none
def eqCs:List Bool→List C→List C→Option Bool
 |[],[],[]=>some true
 |k::ks, .p a::r, .p b::s=>match eqC k a b with
  |some true=>eqCs ks r s
  |some false=>some false
  |none=>none
 |_,_,_=>none
def isNilV:EqK→V→Option Bool
 | .ptr, .one (.p .nilp)=>some true
 | .ptr, .one (.p (.box _))=>some false
 | .ptr, .one (.href _ _ _)=>some false
 | .ptr, .one (.hel _ _ _ _)=>some false
 | .slc, .one (.p .nils)=>some true
 | .slc, .one (.p (.sl (_::_)))=>some false
 | .slc, .one (.hsl _ _ _ _ _)=>some false
 | .map, .one (.p .nilm)=>some true
 | .map, .one (.p (.mp _ _))=>some false
 | .map, .one (.hmap _ _)=>some false
 | .fnc, .one (.p .nilf)=>some true
 | .fnc, .one (.p (.fn _ _ _))=>some false
 | .fnc, .one (.hfn _ _ _)=>some false
 | .ifc, .one (.p .nili)=>some true
 | .ifc, .one (.p .ifc)=>some false
 |_,_=>none
def eqV:EqK→V→V→Option Bool
 | .bool, .one (.p (.bool a)), .one (.p (.bool b))=>some (a==b)
 | .str ks, .agg a, .agg b=>eqCs ks a b
 | .bool,_,_=>none
 | .str _,_,_=>none
 |k,a,b=>if isNilV k b=some true then isNilV k a else if isNilV k a=some true then isNilV k b else none
def fill(cs:List C):List (Nat × List C)→List C
 |[]=>cs
 |(off,xs)::r=>fill (splice cs off xs) r
def partsV(env:Env):List (Nat × Nat × IArg)→Option (List (Nat × List C))
 |[]=>some []
 |(off,n,a)::r=>match cellsV (ev env a),partsV env r with
  |some cs,some q=>if cs.length=n then some ((off,cs)::q) else none
  |_,_=>none
def elemsV(env:Env)(sz:Nat):List IArg→Option (List (List C))
 |[]=>some []
 |a::r=>match cellsV (ev env a),elemsV env sz r with
  |some cs,some q=>if cs.length=sz then some (cs::q) else none
  |_,_=>none
def toPss:List (List C)→Option (List (List PV))
 |[]=>some []
 |c::r=>match toPs c,toPss r with
  |some v,some vs=>some (v::vs)
  |_,_=>none
def fnOf(env:Env)(a:IArg):Option (Nat × List C × List C):=
 match ev env a with
 | .one (.p (.fn f x y))=>some (f,x.map .p,y.map .p)
 | .one (.hfn f x y)=>some (f,x,y)
 |_=>none
def snapVs(blk:Blk):List V→Option (List V × List Nat):=collect (snapV blk)
def bytesOf:List (List PV)→Option (List UInt8)
 |[]=>some []
 |[.int .u8 n]::r=>(bytesOf r).map (UInt8.ofNat n.toNat:: ·)
 |_::_=>none
structure Sys where
 P:Program
 shared:Nat→Bool
 sites:Nat→List Nat
 lone:Nat→Bool
 fns:Nat→Option IFn
 prim:Nat→List V→Option (Option RV)
def onesC(env:Env):List IArg→Option (List C)
 |[]=>some []
 |a::r=>match ev env a,onesC env r with
  | .one c,some q=>some (c::q)
  |_,_=>none
def plan(shared:Nat→Bool)(env:Env)(blk:Blk):IOp→Plan
 | .mov x=> .done (ev env x) [] []
 | .pick c a b=>match ev env c with
  | .one (.p (.bool t))=> .done (if t then ev env a else ev env b) [] []
  |_=> .fail
 | .alloc s z=> .done (.one (.href s ((blk s).1+1) 0)) [(s,((blk s).1+1,some (.var (z.map .p))))] [s]
 | .box s x=>match cellsV (ev env x) with
  |some cs=> .done (.one (.href s ((blk s).1+1) 0)) [(s,((blk s).1+1,some (.var cs)))] [s]
  |none=> .fail
 | .build z ps=>match partsV env ps with
  |some q=> .done (.agg (fill (z.map .p) q)) [] []
  |none=> .fail
 | .bslice s ty sz ps=>match elemsV env sz ps with
  |some es=>match toPss es with
   |some qs=> .done (.one (.hsl s ((blk s).1+1) sz 0 es.length)) [(s,((blk s).1+1,some (.arr ty sz qs)))] [s]
   |none=> .done (.one (.hsl s ((blk s).1+1) sz 0 es.length)) [(s,((blk s).1+1,some (.carr ty sz es)))] [s]
  |none=> .fail
 | .load k x=>match rdAt blk (ev env x) with
  |some (cs,r)=>match takeV k cs with
   |some v=> .done v [] r
   |none=> .fail
  |none=> .fail
 | .store n a x=>match cellsV (ev env x) with
  |some xs=>wrAt blk (ev env a) n xs
  |none=> .fail
 | .nilchk x=>match ev env x with
  | .one (.href id g o)=> .done (.one (.href id g o)) [] []
  | .one (.hel id g i o)=> .done (.one (.hel id g i o)) [] []
  | .one (.p (.box cs))=> .done (.one (.p (.box cs))) [] []
  | .one (.hfn f a b)=> .done (.one (.hfn f a b)) [] []
  | .one (.p (.fn f a b))=> .done (.one (.p (.fn f a b))) [] []
  |_=> .fail
 | .bin op x y=>match binV op (ev env x) (ev env y) with
  |some v=> .done v [] []
  |none=> .fail
 | .eqc k neg x y=>match eqV k (ev env x) (ev env y) with
  |some b=> .done (.one (.p (.bool (if neg then !b else b)))) [] []
  |none=> .fail
 | .un op x=>match op,ev env x with
  | .not, .one (.p (.bool b))=> .done (.one (.p (.bool (!b)))) [] []
  | .neg, .one (.p (.int k n))=> .done (.one (.p (.int k (k.wrap (0 - n))))) [] []
  |_,_=> .fail
 | .conv k x=>match ev env x with
  | .one (.p (.int _ n))=> .done (.one (.p (.int k (k.wrap n)))) [] []
  |_=> .fail
 | .bstr x=>match elemsOf blk (ev env x) with
  |some (es,r,[])=>match bytesOf es with
   |some bs=> .done (.one (.p (.str ⟨bs.toArray⟩))) [] r
   |none=> .fail
  |_=> .fail
 | .mkfn f a b=>match onesC env a,onesC env b with
  |some x,some y=> .done (.one (.hfn f x y)) [] []
  |_,_=> .fail
 | .mkmap s ag=> .done (.one (.hmap s ((blk s).1+1))) [(s,((blk s).1+1,some (.map ag [])))] [s]
 | .mkslice s ty sz bytes z l c=>match asN (ev env l),asN (ev env c) with
  |some n,some m=>if n=m∧n*bytes≤room then
    .done (.one (.hsl s ((blk s).1+1) sz 0 n)) [(s,((blk s).1+1,some (.arr ty sz (List.replicate n z))))] [s]
   else .fail
  |_,_=> .fail
 | .slice sz x lo hi=>match lenL (ev env x) with
  |some n=>match boundOf env 0 lo,boundOf env n hi with
   |some l,some h=>planSlice (ev env x) sz l h
   |_,_=> .fail
  |none=> .fail
 | .sslice x lo hi=>match ev env x with
  | .one (.p (.str s))=>match boundOf env 0 lo,boundOf env s.size hi with
   |some l,some h=>if l≤h∧h≤s.size then .done (.one (.p (.str (s.extract l h)))) [] [] else .fail
   |_,_=> .fail
  |_=> .fail
 | .faddr off x=>match ev env x with
  | .one (.href id g o)=> .done (.one (.href id g (o+off))) [] []
  | .one (.hel id g i o)=> .done (.one (.hel id g i (o+off))) [] []
  | .one (.p (.box cs))=> .done (.one (.p (.box (cs.drop off)))) [] []
  |_=> .fail
 | .iaddr sz x i=>match asN (ev env i),ev env x with
  |some n, .one (.p (.sl es))=>match es[n]? with
   |some e=>if e.length=sz then .done (.one (.p (.box e))) [] [] else .fail
   |none=> .fail
  |some n, .one (.hsl id g z off len)=>if n<len∧z=sz then .done (.one (.hel id g (off+n) 0)) [] [] else .fail
  |_,_=> .fail
 | .aaddr len sz x i=>match asN (ev env i),ev env x with
  |some n, .one (.href id g o)=>if n<len then .done (.one (.href id g (o+n*sz))) [] [] else .fail
  |some n, .one (.hel id g j o)=>if n<len then .done (.one (.hel id g j (o+n*sz))) [] [] else .fail
  |some n, .one (.p (.box cs))=>if n<len then .done (.one (.p (.box (cs.drop (n*sz))))) [] [] else .fail
  |_,_=> .fail
 | .fld off k x=>match ev env x with
  | .agg cs=>match takeV k (cs.drop off) with
   |some v=> .done v [] []
   |none=> .fail
  |_=> .fail
 | .aidx len sz k x i=>match asN (ev env i),ev env x with
  |some n, .agg cs=>if n<len then
    match takeV k (cs.drop (n*sz)) with
    |some v=> .done v [] []
    |none=> .fail
   else .fail
  |_,_=> .fail
 | .sidx x i=>match asN (ev env i),ev env x with
  |some n, .one (.p (.str s))=>match s[n]? with
   |some b=> .done (.one (.p (.int .u8 b.toNat))) [] []
   |none=> .fail
  |_,_=> .fail
 | .lookup kd z agg ok x k=>match mapOf blk agg (ev env x),ev env k with
  |some (es,r), .one (.p q)=>if keyKd q≠kd then .fail else match findK q es 0 with
   |some f=>match mapVal agg ((f.map (·.2)).getD z) with
    |some w=> .done (if ok then .tup [w, .one (.p (.bool f.isSome))] else w) [] r
    |none=> .fail
   |none=> .fail
  |_,_=> .fail
 | .bad=> .fail
 | .mupd kd ag m k v=>match ev env m,ev env k,cellsAg ag (ev env v) with
  | .one (.hmap id g), .one (.p q),some cs=>match blk id,toPs cs with
   |(g',some (.map ag' es)),some ps=>if g'=g∧ag'=ag∧keyKd q=kd then
     match findK q es 0 with
     |some (some (i,_))=> .done .undef [(id,(g,some (.map ag (es.set i (q,ps)))))] [id]
     |some none=> .done .undef [(id,(g,some (.map ag (es++[(q,ps)]))))] [id]
     |none=> .fail
    else .fail
   |_,_=> .fail
  |_,_,_=> .fail
 | .extract x i=>match ev env x with
  | .tup vs=>match vs[i]? with
   |some v=> .done v [] []
   |none=> .fail
  |_=> .fail
 | .call s f as=>match fnOf env f with
  |some (g,a,b)=>
   if shared g then .sc g (a.map .one++as.map (ev env)++b.map .one)
   else match snapVs blk (a.map .one++as.map (ev env)++b.map .one) with
    |some (vs,r)=> .pc g vs r s
    |none=> .fail
  |none=> .fail
 | .slen x=>match ev env x with
  | .one (.p (.str s))=> .done (.one (.p (.int .i64 s.size))) [] []
  |_=> .fail
 | .llen x=>match lenL (ev env x) with
  |some n=> .done (.one (.p (.int .i64 n))) [] []
  |none=> .fail
 | .mlen x=>match lenM blk (ev env x) with
  |some (n,r)=> .done (.one (.p (.int .i64 n))) [] r
  |none=> .fail
 | .append s ty sz bytes d x=>planAppend blk s ty sz bytes (ev env d) (ev env x)
 | .max x y=>match ev env x,ev env y with
  | .one (.p (.int k a)), .one (.p (.int _ b))=> .done (.one (.p (.int k (if b>a then b else a)))) [] []
  |_,_=> .fail
 | .min x y=>match ev env x,ev env y with
  | .one (.p (.int k a)), .one (.p (.int _ b))=> .done (.one (.p (.int k (if b<a then b else a)))) [] []
  |_,_=> .fail
 | .clear z x=>match ev env x with
  | .one (.p .nils)=> .done (.tup []) [] []
  | .one (.p (.sl []))=> .done (.tup []) [] []
  | .one (.hsl id g _ off len)=>if len=0 then .done (.tup []) [] [] else match blk id with
   |(g',some (.arr ty sz es))=>if g'=g∧sz=z.length∧off+len≤es.length then .done (.tup []) [(id,(g,some (.arr ty sz (splice es off (List.replicate len z)))))] [id] else .fail
   |_=> .fail
  |_=> .fail
structure Eff where
 rd:List Nat
 wr:List Nat
 fs:List Nat
structure Al where
 any:Bool
 ids:List Nat
 fs:List Nat
def Al.all:Al:=⟨true,[],[]⟩
def siteFn(id:Nat):Nat:=id/64000000
def Al.ok(a:Al)(id:Nat):Bool:=a.any||a.ids.contains id||a.fs.contains (siteFn id)
def Al.oks(a:Al)(l:List Nat):Bool:=l.all a.ok
def Al.holds(a b:Al):Bool:=a.any||(a.oks b.ids&&b.fs.all a.fs.contains)
structure Ctx where
 shared:Nat→Bool
 sites:Nat→List Nat
 lone:Nat→Bool
 al:Al
def reachC(blk:Blk):Nat→C→List Nat
 |0,_=>[]
 |n+1,c=>match c with
  | .p _=>[]
  | .href id _ _=>id::match blk id with
   |(_,some (.var cs))=>(cs.map (reachC blk n)).flatten
   |_=>[]
  | .hel id _ _ _=>id::match blk id with
   |(_,some (.carr _ _ es))=>(es.flatten.map (reachC blk n)).flatten
   |_=>[]
  | .hsl id _ _ _ _=>id::match blk id with
   |(_,some (.carr _ _ es))=>(es.flatten.map (reachC blk n)).flatten
   |_=>[]
  | .hmap id _=>[id]
  | .hfn _ a b=>(a.map (reachC blk n)).flatten++(b.map (reachC blk n)).flatten
def reachV(blk:Blk):V→List Nat
 | .one c=>reachC blk snapN c
 | .agg cs=>(cs.map (reachC blk snapN)).flatten
 |_=>[]
def allow(sh:Ctx)(f:Nat)(vs:List V)(blk:Blk):Al:=⟨false,(vs.map (reachV blk)).flatten,sh.sites f⟩
def put(env:Env)(d:Option Nat)(v:V):Env:=
 match d with
 |some t=>upd env t v
 |none=>env
abbrev PCall:=Nat→List V→Option RV
abbrev SCall:=Nat→List V→Al→Blk→Option (V × Blk)
def land(blk:Blk)(rd:List Nat)(site:Nat)(r:RV):Option (V × List Upd):=
 if rd=[]∨r.alone then some (inV blk site r)
 else match frz blk rd with
  |some u=>some ((inV blk site r).1,u++(inV blk site r).2)
  |none=>none
def wanted(env:Env):Option (Nat × Bool)→Option Bool
 |none=>some true
 |some (t,want)=>match env t with
  | .one (.p (.bool b))=>some (b==want)
  | .undef=>some false
  |_=>none
def step1(sh:Ctx)(cp:PCall)(cs:SCall)(o:IOper)(env:Env)(blk:Blk):Option (Env × Blk × Eff):=
 match wanted env o.guard with
 |none=>none
 |some false=>some (put env o.dst .undef,blk,⟨[],[],[]⟩)
 |some true=>match plan sh.shared env blk o.op with
  | .fail=>none
  | .done v u r=>if sh.al.oks (r++u.map (·.1)) then some (put env o.dst v,app u blk,⟨r,u.map (·.1),[]⟩) else none
  | .pc f vs r s=>match cp f vs with
   |some x=>match land blk r s (x.pureIf (sh.lone s)) with
    |some (v,u)=>if sh.al.oks (r++u.map (·.1)) then some (put env o.dst v,app u blk,⟨r++u.map (·.1),u.map (·.1),[]⟩) else none
    |none=>none
   |none=>none
  | .sc f vs=>if sh.al.holds (allow sh f vs blk) then
    match cs f vs (allow sh f vs blk) blk with
    |some (v,blk')=>some (put env o.dst v,blk',⟨(allow sh f vs blk).ids,(allow sh f vs blk).ids,(allow sh f vs blk).fs⟩)
    |none=>none
   else none
def steps(sh:Ctx)(cp:PCall)(cs:SCall):List IOper→Env→Blk→Option (Env × Blk × List Eff)
 |[],env,blk=>some (env,blk,[])
 |o::r,env,blk=>match step1 sh cp cs o env blk with
  |some (env',blk',e)=>match steps sh cp cs r env' blk' with
   |some (env'',blk'',es)=>some (env'',blk'',e::es)
   |none=>none
  |none=>none
def meets(a b:List Nat):Bool:=a.any fun i=>b.contains i
def inFs(fs ids:List Nat):Bool:=ids.any fun i=>fs.contains (siteFn i)
def clash(a b:Eff):Bool:=
 meets a.wr b.rd||meets a.wr b.wr||meets a.rd b.wr||meets a.fs b.fs||inFs a.fs (b.rd++b.wr)||inFs b.fs (a.rd++a.wr)
def okAt(anc:Nat)(e:Eff):Nat→List Eff→Bool
 |_,[]=>true
 |j,x::r=>(anc.testBit j|| !clash x e)&&okAt anc e (j+1) r
def okDraw:List IOper→List Eff→List Eff→Bool
 |o::os,past,e::es=>okAt o.anc e 0 past&&okDraw os (past++[e]) es
 |_,_,_=>true
inductive AExit where
 |normal
 |exit (id:Nat)
 |ret
def iter(f:Env→Blk→Option (AExit × Env × Blk)):Nat→Env→Blk→Option (AExit × Env × Blk)
 |0,_,_=>none
 |n+1,env,blk=>match f env blk with
  |some (.normal,env',blk')=>iter f n env' blk'
  |r=>r
def exec(sh:Ctx)(cp:PCall)(cs:SCall)(n:Nat):ICode→Env→Blk→Option (AExit × Env × Blk)
 | .skip,env,blk=>some (.normal,env,blk)
 | .region d ops,env,blk=>match steps sh cp cs ops env blk with
  |some (env',blk',es)=>if d then (if okDraw ops [] es then some (.normal,env',blk') else none) else some (.normal,env',blk')
  |none=>none
 | .seq a b,env,blk=>match exec sh cp cs n a env blk with
  |some (.normal,env',blk')=>exec sh cp cs n b env' blk'
  |r=>r
 | .cond x a b,env,blk=>match ev env x with
  | .one (.p (.bool t))=>if t then exec sh cp cs n a env blk else exec sh cp cs n b env blk
  |_=>none
 | .block id c,env,blk=>match exec sh cp cs n c env blk with
  |some (.exit i,env',blk')=>if i=id then some (.normal,env',blk') else some (.exit i,env',blk')
  |r=>r
 | .loop c,env,blk=>iter (exec sh cp cs n c) n env blk
 | .exit id,env,blk=>some (.exit id,env,blk)
 | .ret,env,blk=>some (.ret,env,blk)
 | .bad,_,_=>none
def ienv(args:List V):Env:=fun i=>args.getD i .undef
def noTup:V→Option V
 | .tup _=>none
 |v=>some v
def resultsV(al:Al)(env:Env)(blk:Blk):List (Nat × Option (Option Nat))→Option (List V)
 |[]=>some []
 |(t,none)::r=>match noTup (env t),resultsV al env blk r with
  |some v,some q=>some (v::q)
  |_,_=>none
 |(t,some k)::r=>match rdAt blk (env t),resultsV al env blk r with
  |some (cs,rd),some q=>if al.oks rd then (takeV k cs).map (· ::q) else none
  |_,_=>none
def tupV:List V→V
 |[v]=>v
 |vs=> .tup vs
def noBlk:Blk:=fun _=>(0,none)
def runS(sh:Ctx)(cp:PCall)(cs:SCall)(n:Nat)(fn:IFn)(args:List V)(blk:Blk):Option (V × Blk):=
 match exec sh cp cs n fn.body (ienv args) blk with
 |some (.normal,env,blk')=>(resultsV sh.al env blk' fn.results).map fun vs=>(tupV vs,blk')
 |some (.ret,env,blk')=>(resultsV sh.al env blk' fn.results).map fun vs=>(tupV vs,blk')
 |_=>none
def runP(sh:Ctx)(cp:PCall)(cs:SCall)(n:Nat)(fn:IFn)(args:List V):Option RV:=
 match runS sh cp cs n fn args noBlk with
 |some (v,blk)=>outV blk v
 |none=>none
def Sys.ctx(S:Sys)(a:Al):Ctx:=⟨S.shared,S.sites,S.lone,a⟩
mutual
def callP(S:Sys):Nat→PCall
 |0,_,_=>none
 |n+1,f,args=>match S.prim f args with
  |some r=>r
  |none=>match S.fns f with
   |some fn=>if args.length≤fn.ntmps then runP (S.ctx .all) (callP S n) (callS S n) n fn args else none
   |none=>none
def callS(S:Sys):Nat→SCall
 |0,_,_,_,_=>none
 |n+1,f,args,al,blk=>match S.fns f with
  |some fn=>if args.length≤fn.ntmps then runS (S.ctx al) (callP S n) (callS S n) n fn args blk else none
  |none=>none
end
def PEv(S:Sys)(f:Nat)(args:List V)(r:RV):Prop:= ∃ n,callP S n f args=some r
def SEv(S:Sys)(f:Nat)(args:List V)(al:Al)(blk:Blk)(v:V)(blk':Blk):Prop:= ∃ n,callS S n f args al blk=some (v,blk')
abbrev Post:=AExit→Env→Blk→Prop
def W (S:Sys)(al:Al)(c:ICode)(Q:Post)(env:Env)(blk:Blk):Prop:=
 ∃ n e env' blk',exec (S.ctx al) (callP S n) (callS S n) n c env blk=some (e,env',blk')∧Q e env' blk'
def WO (S:Sys)(al:Al)(ops:List IOper)(Q:Env→Blk→List Eff→Prop)(env:Env)(blk:Blk)(tr:List Eff):Prop:=
 ∃ n env' blk' es,steps (S.ctx al) (callP S n) (callS S n) ops env blk=some (env',blk',es)∧Q env' blk' (tr++es)
end Go.Abs
namespace Go.Abs
def PLe(a b:PCall):Prop:= ∀ f x r,a f x=some r→b f x=some r
def SLe(a b:SCall):Prop:= ∀ f x l k r,a f x l k=some r→b f x l k=some r
section
variable {sh:Ctx} {cp cp':PCall} {cs cs':SCall} (hp:PLe cp cp') (hs:SLe cs cs')
include hp hs
theorem step1_mono{o:IOper}{env:Env}{blk:Blk}{r:Env × Blk × Eff}(h:step1 sh cp cs o env blk=some r):step1 sh cp' cs' o env blk=some r:=by
 unfold step1 at h ⊢;cases hw:wanted env o.guard with
 |none=>simp[hw] at h
 |some b=>
  cases b with
  |false=>simpa [hw] using h
  |true=>
   simp only[hw] at h ⊢;cases hpl:plan sh.shared env blk o.op with
   |fail=>simp[hpl] at h
   |done v u rd=>simpa [hpl] using h
   |pc f vs rd s=>
    simp only[hpl] at h ⊢;cases hc:cp f vs with
    |none=>simp[hc] at h
    |some x=>rw[hp _ _ _ hc];simpa [hc] using h
   |sc f vs=>
    simp only[hpl] at h ⊢;split at h
    ·rename_i ha;rw[if_pos ha];cases hc:cs f vs (allow sh f vs blk) blk with
     |none=>simp[hc] at h
     |some x=>rw[hs _ _ _ _ _ hc];simpa [hc] using h
    ·cases h
theorem steps_mono: ∀ {ops:List IOper} {env:Env} {blk:Blk} {r:Env × Blk × List Eff},steps sh cp cs ops env blk=some r→steps sh cp' cs' ops env blk=some r:=by
 intro ops
 induction ops with
 |nil=>intro env blk r h;simpa [steps] using h
 |cons o os ih=>
  intro env blk r h;simp only[steps] at h ⊢;cases h1:step1 sh cp cs o env blk with
  |none=>simp[h1] at h
  |some x=>
   obtain⟨e1,b1,f1⟩:=x;rw[step1_mono hp hs h1];simp only[h1] at h ⊢;cases h2:steps sh cp cs os e1 b1 with
   |none=>simp[h2] at h
   |some y=>rw[ih h2];simpa [h2] using h
omit hp hs in
theorem iter_mono{f g:Env→Blk→Option (AExit × Env × Blk)}(hfg: ∀ e b r,f e b=some r→g e b=some r):
  ∀ {n m:Nat} {env:Env} {blk:Blk} {r:AExit × Env × Blk},n≤m→iter f n env blk=some r→iter g m env blk=some r:=by
 intro n
 induction n with
 |zero=>intro m env blk r _ h;simp[iter] at h
 |succ n ih=>
  intro m env blk r hm h;obtain⟨m,rfl⟩: ∃ k,m=k+1:=⟨m - 1,by omega⟩;simp only[iter] at h ⊢;cases hf:f env blk with
  |none=>simp[hf] at h
  |some x=>
   obtain⟨e,e1,b1⟩:=x;rw[hfg _ _ _ hf];cases e with
   |normal=>simp only[hf] at h ⊢;exact ih (by omega) h
   |exit i=>simpa [hf] using h
   |ret=>simpa [hf] using h
theorem exec_mono{n m:Nat}(hnm:n≤m): ∀ {c:ICode} {env:Env} {blk:Blk} {r:AExit × Env × Blk},exec sh cp cs n c env blk=some r→exec sh cp' cs' m c env blk=some r:=by
 intro c
 induction c with
 |skip=>intro env blk r h;simpa [exec] using h
 |region d ops=>
  intro env blk r h;simp only[exec] at h ⊢;cases h1:steps sh cp cs ops env blk with
  |none=>simp[h1] at h
  |some x=>rw[steps_mono hp hs h1];simpa [h1] using h
 |seq a b iha ihb=>
  intro env blk r h;simp only[exec] at h ⊢;cases h1:exec sh cp cs n a env blk with
  |none=>simp[h1] at h
  |some x=>
   obtain⟨e,e1,b1⟩:=x;rw[iha h1];cases e with
   |normal=>simp only[h1] at h ⊢;exact ihb h
   |exit i=>simpa [h1] using h
   |ret=>simpa [h1] using h
 |cond x a b iha ihb=>
  intro env blk r h;simp only[exec] at h ⊢;split at h
  ·split at h
   ·rename_i ht;simp only[ht,if_true];exact iha h
   ·rename_i ht;simp only[ht];exact ihb h
  ·cases h
 |block id c ih=>
  intro env blk r h;simp only[exec] at h ⊢;cases h1:exec sh cp cs n c env blk with
  |none=>simp[h1] at h
  |some x=>rw[ih h1];simpa [h1] using h
 |loop c ih=>
  intro env blk r h;simp only[exec] at h ⊢;exact iter_mono (fun _ _ _ h=>ih h) hnm h
 |exit id=>intro env blk r h;simpa [exec] using h
 |ret=>intro env blk r h;simpa [exec] using h
 |bad=>intro env blk r h;simp[exec] at h
theorem runS_mono{n m:Nat}(hnm:n≤m){fn:IFn}{args:List V}{blk:Blk}{r:V × Blk}(h:runS sh cp cs n fn args blk=some r):runS sh cp' cs' m fn args blk=some r:=by
 unfold runS at h ⊢;cases h1:exec sh cp cs n fn.body (ienv args) blk with
 |none=>simp[h1] at h
 |some x=>rw[exec_mono hp hs hnm h1];simpa [h1] using h
theorem runP_mono{n m:Nat}(hnm:n≤m){fn:IFn}{args:List V}{r:RV}(h:runP sh cp cs n fn args=some r):runP sh cp' cs' m fn args=some r:=by
 unfold runP at h ⊢;cases h1:runS sh cp cs n fn args noBlk with
 |none=>simp[h1] at h
 |some x=>rw[runS_mono hp hs hnm h1];simpa [h1] using h
end
theorem call_mono(S:Sys): ∀ n,PLe (callP S n) (callP S (n+1))∧SLe (callS S n) (callS S (n+1)):=by
 intro n
 induction n with
 |zero=>exact⟨fun f x r h=>by simp[callP] at h,fun f x l k r h=>by simp[callS] at h⟩
 |succ n ih=>
  refine⟨fun f x r h=> ?_,fun f x l k r h=> ?_⟩
  ·rw[callP] at h ⊢;cases hp:S.prim f x with
   |some r'=>simpa [hp] using h
   |none=>
    simp only[hp] at h ⊢;cases hf:S.fns f with
    |none=>simp[hf] at h
    |some fn=>
     simp only[hf] at h ⊢;split at h
     ·rename_i hl;rw[if_pos hl];exact runP_mono ih.1 ih.2 (by omega) h
     ·cases h
  ·rw[callS] at h ⊢;cases hf:S.fns f with
   |none=>simp[hf] at h
   |some fn=>
    simp only[hf] at h ⊢;split at h
    ·rename_i hl;rw[if_pos hl];exact runS_mono ih.1 ih.2 (by omega) h
    ·cases h
theorem callP_le(S:Sys){n m:Nat}(h:n≤m):PLe (callP S n) (callP S m):=by
 induction h with
 |refl=>exact fun _ _ _ h=>h
 |step _ ih=>exact fun f x r hr=>(call_mono S _).1 f x r (ih f x r hr)
theorem callS_le(S:Sys){n m:Nat}(h:n≤m):SLe (callS S n) (callS S m):=by
 induction h with
 |refl=>exact fun _ _ _ _ _ h=>h
 |step _ ih=>exact fun f x l k r hr=>(call_mono S _).2 f x l k r (ih f x l k r hr)
theorem PEv.det{S:Sys}{f:Nat}{args:List V}{r r':RV}(h:PEv S f args r)(h':PEv S f args r'):r=r':=by
 obtain⟨n,hn⟩:=h;obtain⟨m,hm⟩:=h';have a:=callP_le S (Nat.le_max_left n m) _ _ _ hn;have b:=callP_le S (Nat.le_max_right n m) _ _ _ hm;rw[a] at b;exact Option.some.inj b
theorem exec_le(S:Sys){al:Al}{n m:Nat}(h:n≤m){c:ICode}{env:Env}{blk:Blk}{r:AExit × Env × Blk}(hr:exec (S.ctx al) (callP S n) (callS S n) n c env blk=some r):
  exec (S.ctx al) (callP S m) (callS S m) m c env blk=some r:=exec_mono (callP_le S h) (callS_le S h) h hr
theorem steps_le(S:Sys){al:Al}{n m:Nat}(h:n≤m){ops:List IOper}{env:Env}{blk:Blk}{r:Env × Blk × List Eff}(hr:steps (S.ctx al) (callP S n) (callS S n) ops env blk=some r):
  steps (S.ctx al) (callP S m) (callS S m) ops env blk=some r:=steps_mono (callP_le S h) (callS_le S h) hr
variable {S:Sys} {al:Al} {Q:Post} {env:Env} {blk:Blk}
theorem W.mono{c:ICode}{Q':Post}(h:W S al c Q env blk)(hq: ∀ e env blk,Q e env blk→Q' e env blk):W S al c Q' env blk:=by
 obtain⟨n,e,env',blk',h1,h2⟩:=h;exact⟨n,e,env',blk',h1,hq _ _ _ h2⟩
theorem W_skip(h:Q .normal env blk):W S al .skip Q env blk:=⟨0,_,_,_,rfl,h⟩
theorem W_exit{id:Nat}(h:Q (.exit id) env blk):W S al (.exit id) Q env blk:=⟨0,_,_,_,rfl,h⟩
theorem W_ret(h:Q .ret env blk):W S al .ret Q env blk:=⟨0,_,_,_,rfl,h⟩
def thenQ(next:Env→Blk→Prop)(Q:Post):Post
 | .normal,env,blk=>next env blk
 |e,env,blk=>Q e env blk
theorem W_seq{a b:ICode}(h:W S al a (thenQ (W S al b Q) Q) env blk):W S al (.seq a b) Q env blk:=by
 obtain⟨n,e,env',blk',h1,h2⟩:=h;cases e with
 |normal=>
  obtain⟨m,e,env2,blk2,h3,h4⟩:=h2;refine⟨max n m,e,env2,blk2,?_,h4⟩;simp only[exec];rw[exec_le S (Nat.le_max_left n m) h1];exact exec_le S (Nat.le_max_right n m) h3
 |exit i=>exact⟨n,_,_,_,by simp[exec,h1],h2⟩
 |ret=>exact⟨n,_,_,_,by simp[exec,h1],h2⟩
theorem W_cond{x:IArg}{a b:ICode}{t:Bool}(hx:ev env x= .one (.p (.bool t)))(h:if t=true then W S al a Q env blk else W S al b Q env blk):W S al (.cond x a b) Q env blk:=by
 cases t with
 |true=>obtain⟨n,e,env',blk',h1,h2⟩:=h;exact⟨n,e,env',blk',by simp[exec,hx,h1],h2⟩
 |false=>obtain⟨n,e,env',blk',h1,h2⟩:=(by simpa using h:W S al b Q env blk);exact⟨n,e,env',blk',by simp[exec,hx,h1],h2⟩
def blockQ(id:Nat)(Q:Post):Post
 | .exit i,env,blk=>if i=id then Q .normal env blk else Q (.exit i) env blk
 |e,env,blk=>Q e env blk
theorem W_block{id:Nat}{c:ICode}(h:W S al c (blockQ id Q) env blk):W S al (.block id c) Q env blk:=by
 obtain⟨n,e,env',blk',h1,h2⟩:=h;cases e with
 |normal=>exact⟨n,_,_,_,by simp[exec,h1],h2⟩
 |ret=>exact⟨n,_,_,_,by simp[exec,h1],h2⟩
 |exit i=>
  simp only[blockQ] at h2;by_cases hi:i=id
  ·simp only[hi,if_true] at h2;exact⟨n,_,_,_,by simp[exec,h1,hi],h2⟩
  ·simp only[hi,if_false] at h2;exact⟨n,_,_,_,by simp[exec,h1,hi],h2⟩
theorem iter_le(S:Sys){c:ICode}{n m k l:Nat}(h:n≤m)(hk:k≤l){r:AExit × Env × Blk}(hr:iter (exec (S.ctx al) (callP S n) (callS S n) n c) k env blk=some r):
  iter (exec (S.ctx al) (callP S m) (callS S m) m c) l env blk=some r:=iter_mono (fun _ _ _ h'=>exec_le S h h') hk hr
theorem W_for{c:ICode}(I:Nat→Env→Blk→Prop)(k0 N:Nat)(hk:k0≤N)(h0:I k0 env blk)
  (round: ∀ k env blk,k≤N→I k env blk→W S al c (thenQ (fun env' blk'=>k<N∧I (k+1) env' blk') Q) env blk):W S al (.loop c) Q env blk:=by
 have key: ∀ j k env blk,k+j=N→I k env blk→ ∃ n l e env' blk',iter (exec (S.ctx al) (callP S n) (callS S n) n c) l env blk=some (e,env',blk')∧Q e env' blk':=by
  intro j
  induction j with
  |zero=>
   intro k env blk hkj hI;obtain⟨n,e,env1,blk1,h1,h2⟩:=round k env blk (by omega) hI;cases e with
   |normal=>obtain⟨hlt,_⟩:=h2;omega
   |exit i=>exact⟨n,1,_,_,_,by simp[iter,h1],h2⟩
   |ret=>exact⟨n,1,_,_,_,by simp[iter,h1],h2⟩
  |succ j ih=>
   intro k env blk hkj hI;obtain⟨n,e,env1,blk1,h1,h2⟩:=round k env blk (by omega) hI;cases e with
   |normal=>
    obtain⟨_,hI1⟩:=h2;obtain⟨m,l,e,env2,blk2,h3,h4⟩:=ih (k+1) env1 blk1 (by omega) hI1;refine⟨max n m,l+1,e,env2,blk2,?_,h4⟩;simp only[iter];rw[exec_le S (Nat.le_max_left n m) h1];exact iter_le S (Nat.le_max_right n m) (Nat.le_refl _) h3
   |exit i=>exact⟨n,1,_,_,_,by simp[iter,h1],h2⟩
   |ret=>exact⟨n,1,_,_,_,by simp[iter,h1],h2⟩
 obtain⟨n,l,e,env',blk',h1,h2⟩:=key (N - k0) k0 env blk (by omega) h0;refine⟨max n l,e,env',blk',?_,h2⟩;simp only[exec];exact iter_le S (Nat.le_max_left n l) (Nat.le_max_right n l) h1
theorem W_region{d:Bool}{ops:List IOper}(h:WO S al ops (fun env blk es=>(d=true→okDraw ops [] es=true)∧Q .normal env blk) env blk []):W S al (.region d ops) Q env blk:=by
 obtain⟨n,env',blk',es,h1,h2,h3⟩:=h;refine⟨n, .normal,env',blk',?_,h3⟩;simp only[exec,h1];cases d with
 |false=>simp
 |true=>simpa using h2
theorem WO_nil{R:Env→Blk→List Eff→Prop}{tr:List Eff}(h:R env blk tr):WO S al [] R env blk tr:=⟨0,env,blk,[],rfl,by simpa using h⟩
theorem WO_cons{o:IOper}{os:List IOper}{R:Env→Blk→List Eff→Prop}{tr:List Eff}{n:Nat}{env1:Env}{blk1:Blk}{e:Eff}
  (h1:step1 (S.ctx al) (callP S n) (callS S n) o env blk=some (env1,blk1,e)) (h:WO S al os R env1 blk1 (tr++[e])):WO S al (o::os) R env blk tr:=by
 obtain⟨m,env',blk',es,h2,h3⟩:=h;refine⟨max n m,env',blk',e::es,?_,by simpa using h3⟩;simp only[steps];rw[step1_mono (callP_le S (Nat.le_max_left n m)) (callS_le S (Nat.le_max_left n m)) h1];simp[steps_le S (Nat.le_max_right n m) h2]
def goP(S:Sys)(al:Al)(p:Plan)(d:Option Nat)(env:Env)(blk:Blk)(tr:List Eff)(K:Env→Blk→List Eff→Prop):Prop:=
 match p with
 | .fail=>False
 | .done v u r=>al.oks (r++u.map (·.1))=true∧K (put env d v) (app u blk) (tr++[⟨r,u.map (·.1),[]⟩])
 | .pc f vs r s=> ∃ x,PEv S f vs x∧match land blk r s (x.pureIf (S.lone s)) with
  |some (v,u)=>al.oks (r++u.map (·.1))=true∧K (put env d v) (app u blk) (tr++[⟨r++u.map (·.1),u.map (·.1),[]⟩])
  |none=>False
 | .sc f vs=>al.holds (allow (S.ctx al) f vs blk)=true∧ ∃ v blk',SEv S f vs (allow (S.ctx al) f vs blk) blk v blk'∧
   K (put env d v) blk' (tr++[⟨(allow (S.ctx al) f vs blk).ids,(allow (S.ctx al) f vs blk).ids,(allow (S.ctx al) f vs blk).fs⟩])
def goW(S:Sys)(al:Al)(w:Option Bool)(o:IOper)(env:Env)(blk:Blk)(tr:List Eff)(K:Env→Blk→List Eff→Prop):Prop:=
 match w with
 |none=>False
 |some false=>K (put env o.dst .undef) blk (tr++[⟨[],[],[]⟩])
 |some true=>goP S al (plan S.shared env blk o.op) o.dst env blk tr K
@[simp] theorem Al.all_oks (l:List Nat):Al.all.oks l=true:=by simp[Al.oks,Al.ok,Al.all]
@[simp] theorem Al.all_holds (b:Al):Al.all.holds b=true:=rfl
theorem WO_step{o:IOper}{os:List IOper}{R:Env→Blk→List Eff→Prop}{tr:List Eff}
  (h:goW S al (wanted env o.guard) o env blk tr (WO S al os R)):WO S al (o::os) R env blk tr:=by
 cases hw:wanted env o.guard with
 |none=>simp[hw,goW] at h
 |some b=>
  cases b with
  |false=>rw[hw] at h;exact WO_cons (n:=0) (by simp[step1,hw]) h
  |true=>
   rw[hw] at h;simp only[goW] at h;have hsh:(S.ctx al).shared=S.shared:=rfl;have hal:(S.ctx al).al=al:=rfl;have hlo:(S.ctx al).lone=S.lone:=rfl;cases hpl:plan S.shared env blk o.op with
   |fail=>simp[hpl,goP] at h
   |done v u r=>
    rw[hpl] at h;obtain⟨h1,h⟩:=h;exact WO_cons (n:=0) (by simp only[step1,hw,hsh,hal,hpl,h1,if_true]) h
   |pc f vs r s=>
    rw[hpl] at h;obtain⟨x,⟨n,hx⟩,h⟩:=h;cases hl:land blk r s (x.pureIf (S.lone s)) with
    |none=>simp[hl] at h
    |some y=>
     obtain⟨v,u⟩:=y;simp only[hl] at h;obtain⟨h1,h⟩:=h;exact WO_cons (n:=n) (by simp only[step1,hw,hsh,hal,hlo,hpl,hx,hl,h1,if_true]) h
   |sc f vs=>
    rw[hpl] at h;obtain⟨h1,v,blk',⟨n,hx⟩,h⟩:=h;exact WO_cons (n:=n) (by simp only[step1,hw,hsh,hal,hpl,h1,if_true,hx]) h
end Go.Abs
namespace Go.Abs
variable {S:Sys} {al:Al}
def endQ(al:Al)(res:List (Nat × Option (Option Nat)))(R:V→Blk→Prop):Post
 | .exit _,_,_=>False
 |_,env,blk=>match resultsV al env blk res with
  |some vs=>R (tupV vs) blk
  |none=>False
theorem W_run{fn:IFn}{args:List V}{blk:Blk}{R:V→Blk→Prop}(h:W S al fn.body (endQ al fn.results R) (ienv args) blk):
  ∃ n v blk',runS (S.ctx al) (callP S n) (callS S n) n fn args blk=some (v,blk')∧R v blk':=by
 obtain⟨n,e,env',blk',h1,h2⟩:=h;refine⟨n,?_⟩;unfold runS;rw[h1];cases e with
 |exit i=>exact h2.elim
 |normal=>
  simp only[endQ] at h2;split at h2
  ·rename_i vs hv;exact⟨_,_,by simp only[show(S.ctx al).al=al from rfl,hv,Option.map_some],h2⟩
  ·exact h2.elim
 |ret=>
  simp only[endQ] at h2;split at h2
  ·rename_i vs hv;exact⟨_,_,by simp only[show(S.ctx al).al=al from rfl,hv,Option.map_some],h2⟩
  ·exact h2.elim
theorem PEv_fn{f:Nat}{fn:IFn}{args:List V}{r:RV}(hp:S.prim f args=none)(hf:S.fns f=some fn)(hl:args.length≤fn.ntmps)
  (h:W S .all fn.body (endQ .all fn.results fun v blk=>outV blk v=some r) (ienv args) noBlk):PEv S f args r:=by
 obtain⟨n,v,blk',h1,h2⟩:=W_run h;refine⟨n+1,?_⟩;rw[callP];simp only[hp,hf,hl,if_true];unfold runP;rw[h1];exact h2
theorem SEv_fn{f:Nat}{fn:IFn}{args:List V}{blk:Blk}{R:V→Blk→Prop}(hf:S.fns f=some fn)(hl:args.length≤fn.ntmps)
  (h:W S al fn.body (endQ al fn.results R) (ienv args) blk): ∃ v blk',SEv S f args al blk v blk'∧R v blk':=by
 obtain⟨n,v,blk',h1,h2⟩:=W_run h;refine⟨v,blk',⟨n+1,?_⟩,h2⟩;rw[callS];simp only[hf,hl,if_true];exact h1
end Go.Abs
namespace Go.Abs
variable {S:Sys} {al:Al} {Q:Post} {env:Env} {blk:Blk}
theorem W_skip_iff:W S al .skip Q env blk↔Q .normal env blk:=⟨fun⟨_,_,_,_,h,q⟩=>by simp[exec] at h;obtain⟨rfl,rfl,rfl⟩:=h;exact q,W_skip⟩
theorem W_exit_iff{id:Nat}:W S al (.exit id) Q env blk↔Q (.exit id) env blk:=⟨fun⟨_,_,_,_,h,q⟩=>by simp[exec] at h;obtain⟨rfl,rfl,rfl⟩:=h;exact q,W_exit⟩
theorem W_ret_iff:W S al .ret Q env blk↔Q .ret env blk:=⟨fun⟨_,_,_,_,h,q⟩=>by simp[exec] at h;obtain⟨rfl,rfl,rfl⟩:=h;exact q,W_ret⟩
theorem W_seq_iff{a b:ICode}:W S al (.seq a b) Q env blk↔W S al a (thenQ (W S al b Q) Q) env blk:=by
 refine⟨?_,W_seq⟩;rintro ⟨n,e,env',blk',h,q⟩
 simp only[exec] at h;cases h1:exec (S.ctx al) (callP S n) (callS S n) n a env blk with
 |none=>simp[h1] at h
 |some x=>
  obtain⟨e1,env1,blk1⟩:=x;refine⟨n,e1,env1,blk1,h1,?_⟩;cases e1 with
  |normal=>simp only[h1] at h;exact⟨n,e,env',blk',h,q⟩
  |exit i=>simp[h1] at h;obtain⟨rfl,rfl,rfl⟩:=h;exact q
  |ret=>simp[h1] at h;obtain⟨rfl,rfl,rfl⟩:=h;exact q
def condW(v:V)(A B:Prop):Prop:=
 match v with
 | .one (.p (.bool t))=>if t=true then A else B
 |_=>False
theorem W_cond_iff{x:IArg}{a b:ICode}:W S al (.cond x a b) Q env blk↔condW (ev env x) (W S al a Q env blk) (W S al b Q env blk):=by
 constructor
 ·rintro ⟨n,e,env',blk',h,q⟩
  simp only[exec] at h;split at h
  ·rename_i t ht;rw[ht];simp only[condW];cases t with
   |true=>exact⟨n,e,env',blk',by simpa using h,q⟩
   |false=>exact⟨n,e,env',blk',by simpa using h,q⟩
  ·cases h
 ·intro h;unfold condW at h;split at h
  ·rename_i t ht;exact W_cond ht h
  ·exact h.elim
theorem W_block_iff{id:Nat}{c:ICode}:W S al (.block id c) Q env blk↔W S al c (blockQ id Q) env blk:=by
 refine⟨?_,W_block⟩;rintro ⟨n,e,env',blk',h,q⟩
 simp only[exec] at h;cases h1:exec (S.ctx al) (callP S n) (callS S n) n c env blk with
 |none=>simp[h1] at h
 |some x=>
  obtain⟨e1,env1,blk1⟩:=x;refine⟨n,e1,env1,blk1,h1,?_⟩;cases e1 with
  |normal=>simp[h1] at h;obtain⟨rfl,rfl,rfl⟩:=h;exact q
  |ret=>simp[h1] at h;obtain⟨rfl,rfl,rfl⟩:=h;exact q
  |exit i=>
   simp only[h1] at h;simp only[blockQ];split at h
   ·rename_i hi;simp at h;obtain⟨rfl,rfl,rfl⟩:=h;rw[if_pos hi];exact q
   ·rename_i hi;simp at h;obtain⟨rfl,rfl,rfl⟩:=h;rw[if_neg hi];exact q
theorem WO_nil_iff{R:Env→Blk→List Eff→Prop}{tr:List Eff}:WO S al [] R env blk tr↔R env blk tr:=by
 refine⟨?_,WO_nil⟩;rintro ⟨n,env',blk',es,h,q⟩
 simp[steps] at h;obtain⟨rfl,rfl,rfl⟩:=h
 simpa using q
theorem WO_cons_iff{o:IOper}{os:List IOper}{R:Env→Blk→List Eff→Prop}{tr:List Eff}:
  WO S al (o::os) R env blk tr↔goW S al (wanted env o.guard) o env blk tr (WO S al os R):=by
 refine⟨?_,WO_step⟩;rintro ⟨n,env',blk',es,h,q⟩
 simp only[steps] at h;cases h1:step1 (S.ctx al) (callP S n) (callS S n) o env blk with
 |none=>simp[h1] at h
 |some x=>
  obtain⟨env1,blk1,e⟩:=x;simp only[h1] at h;cases h2:steps (S.ctx al) (callP S n) (callS S n) os env1 blk1 with
  |none=>simp[h2] at h
  |some y=>
   obtain⟨env2,blk2,es2⟩:=y;simp[h2] at h;obtain⟨rfl,rfl,rfl⟩:=h;have hk:WO S al os R env1 blk1 (tr++[e]):=⟨n,_,_,es2,h2,by simpa using q⟩;unfold step1 at h1;cases hw:wanted env o.guard with
   |none=>simp[hw] at h1
   |some b=>
    cases b with
    |false=>simp[hw] at h1;obtain⟨rfl,rfl,rfl⟩:=h1;exact hk
    |true=>
     simp only[hw] at h1;simp only[goW];have hsh:(S.ctx al).shared=S.shared:=rfl;have hal:(S.ctx al).al=al:=rfl;have hlo:(S.ctx al).lone=S.lone:=rfl;simp only[hsh,hal,hlo] at h1;cases hpl:plan S.shared env blk o.op with
     |fail=>simp[hpl] at h1
     |done v u r=>
      simp only[hpl] at h1;split at h1
      ·rename_i hok;cases h1;exact⟨hok,hk⟩
      ·cases h1
     |pc f vs r s=>
      simp only[hpl] at h1;cases hc:callP S n f vs with
      |none=>simp[hc] at h1
      |some x=>
       simp only[hc] at h1;refine⟨x,⟨n,hc⟩,?_⟩;cases hl:land blk r s (x.pureIf (S.lone s)) with
       |none=>simp[hl] at h1
       |some y=>
        obtain⟨v,u⟩:=y;simp only[hl] at h1;split at h1
        ·rename_i hok;cases h1;exact⟨hok,hk⟩
        ·cases h1
     |sc f vs=>
      simp only[hpl] at h1;split at h1
      ·rename_i hok;cases hc:callS S n f vs (allow (S.ctx al) f vs blk) blk with
       |none=>simp[hc] at h1
       |some x=>obtain⟨v,b⟩:=x;simp only[hc] at h1;cases h1;exact⟨hok,v,_,⟨n,hc⟩,hk⟩
      ·cases h1
theorem W_region_iff{d:Bool}{ops:List IOper}:W S al (.region d ops) Q env blk↔WO S al ops (fun env blk es=>(d=true→okDraw ops [] es=true)∧Q .normal env blk) env blk []:=by
 refine⟨?_,W_region⟩;rintro ⟨n,e,env',blk',h,q⟩
 simp only[exec] at h;cases h1:steps (S.ctx al) (callP S n) (callS S n) ops env blk with
 |none=>simp[h1] at h
 |some x=>
  obtain⟨env1,blk1,es⟩:=x;simp only[h1] at h;cases d with
  |false=>simp at h;obtain⟨rfl,rfl,rfl⟩:=h;exact⟨n,_,_,es,h1,by simp,q⟩
  |true=>
   simp at h;obtain⟨hd,rfl,rfl,rfl⟩:=h;exact⟨n,_,_,es,h1,fun _=>by simpa using hd,q⟩
end Go.Abs
namespace Go.Abs
inductive PRel (w:World) (own:Nat→Prop):PV→Value→Prop where
 |bool (b:Bool):PRel w own (.bool b) (.bool b)
 |int (k:IntKind) (n:Int):PRel w own (.int k n) (.int k n)
 |str (s:ByteArray):PRel w own (.str s) (.string s)
 |nilp:PRel w own .nilp (.pointer none)
 |nils:PRel w own .nils (.slice none 0 0)
 |nilm:PRel w own .nilm (.map none)
 |nilf:PRel w own .nilf .nilFunc
 |nili:PRel w own .nili .nilIface
 |ifc (d:TypeId) (x:Value):PRel w own .ifc (.iface d x)
 |box {cs:List PV} (b o:Nat) (f:Nat→Value) (ho:cs≠[]→ ¬ own b)
   (hc: ∀ (j:Nat) (x:PV),cs[j]? =some x→w.cell? ⟨b,o+j,none⟩=some (f j))
   (hr: ∀ (j:Nat) (x:PV),cs[j]? =some x→PRel w own x (f j)):PRel w own (.box cs) (.pointer (some ⟨b,o,none⟩))
 |sl0 (a:Option Addr) (cap:Nat) (hn:a=none→cap=0) (hm:cap≤maxLen):PRel w own (.sl []) (.slice a 0 cap)
 |sl {es:List (List PV)} (b o cap sz:Nat) (f:Nat→Value) (ho:es.flatten≠[]→ ¬ own b) (hl:es.length≤cap) (hm:cap≤maxLen) (hsz: ∀ e∈es,e.length=sz)
   (hc: ∀ (j:Nat) (x:PV),es.flatten[j]? =some x→w.cell? ⟨b,o+j,none⟩=some (f j))
   (hr: ∀ (j:Nat) (x:PV),es.flatten[j]? =some x→PRel w own x (f j)):PRel w own (.sl es) (.slice (some ⟨b,o,none⟩) es.length cap)
 |mp {ag:Bool} {es:List (PV × List PV)} (r:Nat) (ents:Array MapEntry) (clock:Nat) (g:Nat→Array Value) (ho: ¬ own r) (hb:w.heap[r]? =some (.map ents clock)) (hl:ents.size=es.length)
   (hk: ∀ (i:Nat) (q:PV) (v:List PV) (e:MapEntry),es[i]? =some (q,v)→ents[i]? =some e→PRel w own q e.key)
   (hv: ∀ (i:Nat) (q:PV) (v:List PV) (e:MapEntry),es[i]? =some (q,v)→ents[i]? =some e→(g i).size=v.length∧(ag=true→e.val= .agg (g i))∧(ag=false→ #[e.val]=g i))
   (hr: ∀ (i:Nat) (q:PV) (v:List PV) (j:Nat) (x:PV) (u:Value),es[i]? =some (q,v)→v[j]? =some x→(g i)[j]? =some u→PRel w own x u):PRel w own (.mp ag es) (.map (some r))
 |fn {f:Nat} {a b:List PV} (A B:Array Value) (ha:A.size=a.length) (hb:B.size=b.length)
   (hra: ∀ (j:Nat) (x:PV) (u:Value),a[j]? =some x→A[j]? =some u→PRel w own x u)
   (hrb: ∀ (j:Nat) (x:PV) (u:Value),b[j]? =some x→B[j]? =some u→PRel w own x u):PRel w own (.fn f a b) (.func (.func f) A B)
theorem PRel.oneCell{w:World}{own:Nat→Prop}{x:PV}{v:Value}(h:PRel w own x v):v.oneCell'=true:=by cases h<;>rfl
theorem PRel.cells{w:World}{own:Nat→Prop}{x:PV}{v:Value}(h:PRel w own x v):v.cells= #[v]:=by cases h<;>rfl
theorem cell_lt{w:World}{b o:Nat}{v:Value}(h:w.cell? ⟨b,o,none⟩=some v):b<w.heap.size:=World.block_lt_of_cell? w ⟨b,o,none⟩ h
theorem heap_lt{w:World}{b:Nat}{o:Obj}(h:w.heap[b]? =some o):b<w.heap.size:=(Array.getElem?_eq_some_iff.1 h).1
theorem PRel.mono{w w':World}{own own':Nat→Prop}(hk: ∀ c,c<w.heap.size→ ¬ own c→w'.heap[c]? =w.heap[c]? ∧ ¬ own' c){x:PV}{v:Value}
  (h:PRel w own x v):PRel w' own' x v:=by
 induction h with
 |bool b=>exact .bool b
 |int k n=>exact .int k n
 |str s=>exact .str s
 |nilp=>exact .nilp
 |nils=>exact .nils
 |nilm=>exact .nilm
 |nilf=>exact .nilf
 |nili=>exact .nili
 |ifc d x=>exact .ifc d x
 | @box cs b o f ho hc _ ih=>
  cases cs with
  |nil=>exact .box b o f (fun h=>(h rfl).elim) (fun j x h=>by simp at h) (fun j x h=>by simp at h)
  |cons c r=>
   have hb:=cell_lt (hc 0 c rfl);have hn:=ho (by simp);refine .box b o f (fun _=>(hk b hb hn).2) (fun j x h=> ?_) ih;rw[World.cell?_of_block (hk b hb hn).1];exact hc j x h
 |sl0 a cap hn hm=>exact .sl0 a cap hn hm
 | @sl es b o cap sz f ho hl hm hsz hc _ ih=>
  cases hf:es.flatten with
  |nil=>exact .sl b o cap sz f (fun h=>(h hf).elim) hl hm hsz (fun j x h=>by simp[hf] at h) (fun j x h=>by simp[hf] at h)
  |cons c r=>
   have hb:=cell_lt (hc 0 c (by simp[hf]));have hn:=ho (by simp[hf]);refine .sl b o cap sz f (fun _=>(hk b hb hn).2) hl hm hsz (fun j x h=> ?_) ih;rw[World.cell?_of_block (hk b hb hn).1];exact hc j x h
 | @mp ag es r ents clock g ho hb hl _ hv _ ihk ihr=>exact .mp r ents clock g (hk r (heap_lt hb) ho).2 ((hk r (heap_lt hb) ho).1.trans hb) hl ihk hv ihr
 |fn A B ha hb _ _ iha ihb=>exact .fn A B ha hb iha ihb
structure Mem where
 w:World
 blk:Blk
 σ:Nat→Nat
 κ:Nat→Nat
 fr:Nat→Prop
def Ob.mine:Ob→Bool
 | .var _| .arr _ _ _| .carr _ _ _| .map _ _=>true
 |_=>false
def szAt:Nat × Option Ob→Option Nat
 |(_,some (.arr _ sz _))=>some sz
 |(_,some (.carr _ sz _))=>some sz
 |(_,some (.farr _ sz _))=>some sz
 |_=>none
def Mem.mine(m:Mem)(c:Nat):Prop:= ∃ id o,(m.blk id).2=some o∧o.mine=true∧m.σ id=c
def Mem.own(m:Mem)(c:Nat):Prop:=m.fr c∨m.mine c
inductive CRel (m:Mem):C→Value→Prop where
 |p {x:PV} {v:Value} (h:PRel m.w m.own x v):CRel m (.p x) v
 |href {id g off:Nat} (a:Addr) (hg:g≤(m.blk id).1) (h:(m.blk id).1=g→(m.blk id).2.isSome=true→a=⟨m.σ id,off,none⟩):CRel m (.href id g off) (.pointer (some a))
 |hel {id g i off:Nat} (a:Addr) (hg:g≤(m.blk id).1) (h: ∀ sz,(m.blk id).1=g→szAt (m.blk id)=some sz→a=⟨m.σ id,i*sz+off,none⟩):CRel m (.hel id g i off) (.pointer (some a))
 |hsl {id g z off len:Nat} (a:Addr) (cap:Nat) (hg:g≤(m.blk id).1) (hl:len≤cap) (hm:cap≤maxLen)
   (h: ∀ sz,(m.blk id).1=g→szAt (m.blk id)=some sz→sz=z∧(off=0∨0<len→a=⟨m.σ id,off*sz,none⟩)∧(off=0→cap=m.κ id)):
   CRel m (.hsl id g z off len) (.slice (some a) len cap)
 |hmap {id g:Nat} (r:Nat) (hg:g≤(m.blk id).1) (h:(m.blk id).1=g→(m.blk id).2.isSome=true→r=m.σ id):CRel m (.hmap id g) (.map (some r))
 |hfn {f:Nat} {a b:List C} (A B:Array Value) (ha:A.size=a.length) (hb:B.size=b.length)
   (hra: ∀ (j:Nat) (x:C) (u:Value),a[j]? =some x→A[j]? =some u→CRel m x u)
   (hrb: ∀ (j:Nat) (x:C) (u:Value),b[j]? =some x→B[j]? =some u→CRel m x u):CRel m (.hfn f a b) (.func (.func f) A B)
theorem CRel.oneCell{m:Mem}{x:C}{v:Value}(h:CRel m x v):v.oneCell'=true:=by
 cases h with
 |p h=>exact h.oneCell
 |_=>rfl
theorem CRel.cells{m:Mem}{x:C}{v:Value}(h:CRel m x v):v.cells= #[v]:=by
 cases h with
 |p h=>exact h.cells
 |_=>rfl
def CsRel(m:Mem)(cs:List C)(vs:List Value):Prop:=vs.length=cs.length∧ ∀ (j:Nat) (x:C) (u:Value),cs[j]? =some x→vs[j]? =some u→CRel m x u
def PsRel(w:World)(own:Nat→Prop)(cs:List PV)(vs:List Value):Prop:=vs.length=cs.length∧ ∀ (j:Nat) (x:PV) (u:Value),cs[j]? =some x→vs[j]? =some u→PRel w own x u
def VRel1(m:Mem):V→Value→Prop
 | .undef,v=>v=undef
 | .one c,v=>CRel m c v
 | .agg cs,v=> ∃ arr,v= .agg arr∧CsRel m cs arr.toList
 | .tup _,_=>False
def VRel(m:Mem):V→Value→Prop
 | .tup vs,v=> ∃ arr,v= .tuple arr∧arr.size=vs.length∧ ∀ (j:Nat) (x:V) (u:Value),vs[j]? =some x→arr[j]? =some u→VRel1 m x u
 |x,v=>VRel1 m x v
def ORel(m:Mem)(id:Nat):Ob→Prop
 | .var cs=> ∃ cur ty,m.w.heap[m.σ id]? =some (.cells cur ty (0,0))∧CsRel m cs cur.toList
 | .fvar cs=> ∃ cur ty fz,m.w.heap[m.σ id]? =some (.cells cur ty fz)∧PsRel m.w m.own cs cur.toList∧ ¬ m.own (m.σ id)
 | .arr ty sz es=> ∃ cur,m.w.heap[m.σ id]? =some (.cells cur ty (0,0))∧0<sz∧(∀ e∈es,e.length=sz)∧es.length≤m.κ id∧m.κ id≤maxLen∧cur.size=m.κ id*sz∧
   PsRel m.w m.own es.flatten (cur.toList.take (es.length*sz))
 | .farr ty sz es=> ∃ cur fz,m.w.heap[m.σ id]? =some (.cells cur ty fz)∧0<sz∧(∀ e∈es,e.length=sz)∧es.length≤m.κ id∧m.κ id≤maxLen∧cur.size=m.κ id*sz∧
   PsRel m.w m.own es.flatten (cur.toList.take (es.length*sz))∧ ¬ m.own (m.σ id)
 | .carr ty sz es=> ∃ cur,m.w.heap[m.σ id]? =some (.cells cur ty (0,0))∧0<sz∧(∀ e∈es,e.length=sz)∧es.length≤m.κ id∧m.κ id≤maxLen∧cur.size=m.κ id*sz∧
   CsRel m es.flatten (cur.toList.take (es.length*sz))
 | .map ag es=> ∃ ents clock,m.w.heap[m.σ id]? =some (.map ents clock)∧ents.size=es.length∧
   ∀ (i:Nat) (q:PV) (v:List PV) (e:MapEntry),es[i]? =some (q,v)→ents[i]? =some e→PRel m.w m.own q e.key∧ ∃ g:Array Value,(ag=true→e.val= .agg g)∧(ag=false→ #[e.val]=g)∧PsRel m.w m.own v g.toList
 | .fmap ag es=> ∃ ents clock,m.w.heap[m.σ id]? =some (.map ents clock)∧ents.size=es.length∧
   (∀ (i:Nat) (q:PV) (v:List PV) (e:MapEntry),es[i]? =some (q,v)→ents[i]? =some e→PRel m.w m.own q e.key∧ ∃ g:Array Value,(ag=true→e.val= .agg g)∧(ag=false→ #[e.val]=g)∧PsRel m.w m.own v g.toList)∧ ¬ m.own (m.σ id)
structure Ok (w0:World) (m:Mem):Prop where
 os:m.w.os=w0.os
 tape:m.w.tape=w0.tape
 output:m.w.output=w0.output
 size:w0.heap.size≤m.w.heap.size
 base: ∀ c,c<w0.heap.size→m.w.heap[c]? =w0.heap[c]?
 obj: ∀ id o,(m.blk id).2=some o→ORel m id o
 above: ∀ id o,(m.blk id).2=some o→o.mine=true→w0.heap.size≤m.σ id∧ ¬ m.fr (m.σ id)
 frlt: ∀ c,m.fr c→c<m.w.heap.size
 inj: ∀ id id' o o',(m.blk id).2=some o→o.mine=true→(m.blk id').2=some o'→o'.mine=true→m.σ id=m.σ id'→id=id'
structure Ev (m m':Mem):Prop where
 os:m'.w.os=m.w.os
 tape:m'.w.tape=m.w.tape
 output:m'.w.output=m.w.output
 size:m.w.heap.size≤m'.w.heap.size
 keep: ∀ c,c<m.w.heap.size→ ¬ m.mine c→m'.w.heap[c]? =m.w.heap[c]?
 mine: ∀ c,c<m.w.heap.size→m'.mine c→m.mine c
 less: ∀ c,c<m.w.heap.size→ ¬ m.own c→ ¬ m'.own c
 gen: ∀ id,(m.blk id).1≤(m'.blk id).1
 ref: ∀ id,(m'.blk id).1=(m.blk id).1→(m'.blk id).2.isSome=true→(m.blk id).2.isSome=true∧m'.σ id=m.σ id∧m'.κ id=m.κ id∧szAt (m'.blk id)=szAt (m.blk id)
theorem Ev.refl(m:Mem):Ev m m:=⟨rfl,rfl,rfl,Nat.le_refl _,fun _ _ _=>rfl,fun _ _ h=>h,fun _ _ h=>h,fun _=>Nat.le_refl _,fun _ _ h=>⟨h,rfl,rfl,rfl⟩⟩
theorem Ev.trans{a b c:Mem}(h:Ev a b)(k:Ev b c):Ev a c where
 os:=k.os.trans h.os
 tape:=k.tape.trans h.tape
 output:=k.output.trans h.output
 size:=Nat.le_trans h.size k.size
 keep x hx hm:=(k.keep x (Nat.lt_of_lt_of_le hx h.size) fun hb=>hm (h.mine x hx hb)).trans (h.keep x hx hm)
 mine x hx hm:=h.mine x hx (k.mine x (Nat.lt_of_lt_of_le hx h.size) hm)
 less x hx hn:=k.less x (Nat.lt_of_lt_of_le hx h.size) (h.less x hx hn)
 gen id:=Nat.le_trans (h.gen id) (k.gen id)
 ref id he hs:=by
  have h1:=h.gen id;have h2:=k.gen id;obtain⟨s1,e1,e2,e3⟩:=k.ref id (by omega) hs;obtain⟨s2,f1,f2,f3⟩:=h.ref id (by omega) s1;exact⟨s2,e1.trans f1,e2.trans f2,e3.trans f3⟩
theorem Ev.own{m m':Mem}(h:Ev m m'): ∀ c,c<m.w.heap.size→ ¬ m.own c→m'.w.heap[c]? =m.w.heap[c]? ∧ ¬ m'.own c:=
 fun c hc hn=>⟨h.keep c hc fun hm=>hn (.inr hm),h.less c hc hn⟩
theorem szAt_some{x:Nat × Option Ob}{sz:Nat}(h:szAt x=some sz):x.2.isSome=true:=by
 obtain⟨g,o⟩:=x;cases o with
 |none=>simp[szAt] at h
 |some o=>rfl
structure Ev0 (m m':Mem):Prop where
 own: ∀ c,c<m.w.heap.size→ ¬ m.own c→m'.w.heap[c]? =m.w.heap[c]? ∧ ¬ m'.own c
 gen: ∀ id,(m.blk id).1≤(m'.blk id).1
 ref: ∀ id,(m'.blk id).1=(m.blk id).1→(m'.blk id).2.isSome=true→(m.blk id).2.isSome=true∧m'.σ id=m.σ id∧m'.κ id=m.κ id∧szAt (m'.blk id)=szAt (m.blk id)
theorem Ev.zero{m m':Mem}(h:Ev m m'):Ev0 m m':=⟨h.own,h.gen,h.ref⟩
theorem PRel.ev{m m':Mem}(h:Ev0 m m'){x:PV}{v:Value}(hr:PRel m.w m.own x v):PRel m'.w m'.own x v:=hr.mono h.own
theorem CRel.ev{m m':Mem}(h:Ev0 m m'){x:C}{v:Value}(hr:CRel m x v):CRel m' x v:=by
 induction hr with
 |p hp=>exact .p (hp.ev h)
 | @href id g off a hg ha=>
  have hgen:=h.gen id;refine .href a (by omega) fun hg' hs=> ?_
  obtain⟨s,e1,_,_⟩:=h.ref id (by omega) hs;rw[e1];exact ha (by omega) s
 | @hel id g i off a hg ha=>
  have hgen:=h.gen id;refine .hel a (by omega) fun sz hg' hs=> ?_
  obtain⟨s,e1,_,e3⟩:=h.ref id (by omega) (szAt_some hs);rw[e1];exact ha sz (by omega) (e3▸hs)
 | @hsl id g z off len a cap hg hl hm ha=>
  have hgen:=h.gen id;refine .hsl a cap (by omega) hl hm fun sz hg' hs=> ?_
  obtain⟨s,e1,e2,e3⟩:=h.ref id (by omega) (szAt_some hs);rw[e1,e2];exact ha sz (by omega) (e3▸hs)
 | @hmap id g r hg hr=>
  have hgen:=h.gen id;refine .hmap r (by omega) fun hg' hs=> ?_
  obtain⟨s,e1,_,_⟩:=h.ref id (by omega) hs;rw[e1];exact hr (by omega) s
 |hfn A B ha hb _ _ iha ihb=>exact .hfn A B ha hb iha ihb
theorem CsRel.ev{m m':Mem}(h:Ev0 m m'){cs:List C}{vs:List Value}(hr:CsRel m cs vs):CsRel m' cs vs:=⟨hr.1,fun j x u a b=>(hr.2 j x u a b).ev h⟩
theorem PsRel.mono{w w':World}{own own':Nat→Prop}(hk: ∀ c,c<w.heap.size→ ¬ own c→w'.heap[c]? =w.heap[c]? ∧ ¬ own' c){cs:List PV}{vs:List Value}
  (hr:PsRel w own cs vs):PsRel w' own' cs vs:=⟨hr.1,fun j x u a b=>(hr.2 j x u a b).mono hk⟩
theorem PsRel.ev{m m':Mem}(h:Ev0 m m'){cs:List PV}{vs:List Value}(hr:PsRel m.w m.own cs vs):PsRel m'.w m'.own cs vs:=hr.mono h.own
theorem VRel1.ev{m m':Mem}(h:Ev0 m m'){x:V}{v:Value}(hr:VRel1 m x v):VRel1 m' x v:=by
 cases x with
 |undef=>exact hr
 |one c=>exact CRel.ev h hr
 |agg cs=>obtain⟨arr,e,hc⟩:=hr;exact⟨arr,e,hc.ev h⟩
 |tup vs=>exact hr.elim
theorem VRel.ev{m m':Mem}(h:Ev0 m m'){x:V}{v:Value}(hr:VRel m x v):VRel m' x v:=by
 cases x with
 |tup vs=>obtain⟨arr,e,hs,hc⟩:=hr;exact⟨arr,e,hs,fun j x u a b=>(hc j x u a b).ev h⟩
 |undef=>exact VRel1.ev (x:= .undef) h hr
 |one c=>exact VRel1.ev (x:= .one c) h hr
 |agg cs=>exact VRel1.ev (x:= .agg cs) h hr
theorem ORel.ev{m m':Mem}(h:Ev0 m m'){id:Nat}{o:Ob}(hs:m'.σ id=m.σ id)(hk:m'.κ id=m.κ id)(hh:m'.w.heap[m.σ id]? =m.w.heap[m.σ id]?)
  (hr:ORel m id o):ORel m' id o:=by
 cases o with
 |var cs=>obtain⟨cur,ty,a,b⟩:=hr;exact⟨cur,ty,by rw[hs,hh];exact a,b.ev h⟩
 |fvar cs=>obtain⟨cur,ty,fz,a,b,c⟩:=hr;exact⟨cur,ty,fz,by rw[hs,hh];exact a,b.ev h,by rw[hs];exact(h.own _ (heap_lt a) c).2⟩
 |arr ty sz es=>obtain⟨cur,a,b,c,d,e,f,g⟩:=hr;exact⟨cur,by rw[hs,hh];exact a,b,c,by rw[hk];exact d,by rw[hk];exact e,by rw[hk];exact f,g.ev h⟩
 |farr ty sz es=>obtain⟨cur,fz,a,b,c,d,e,f,g,i⟩:=hr;exact⟨cur,fz,by rw[hs,hh];exact a,b,c,by rw[hk];exact d,by rw[hk];exact e,by rw[hk];exact f,g.ev h,by rw[hs];exact(h.own _ (heap_lt a) i).2⟩
 |carr ty sz es=>obtain⟨cur,a,b,c,d,e,f,g⟩:=hr;exact⟨cur,by rw[hs,hh];exact a,b,c,by rw[hk];exact d,by rw[hk];exact e,by rw[hk];exact f,g.ev h⟩
 |map ag es=>
  obtain⟨ents,clock,a,b,c⟩:=hr;exact⟨ents,clock,by rw[hs,hh];exact a,b,fun i q v e x y=>let ⟨p,g,g1,g2,g3⟩:=c i q v e x y;⟨p.ev h,g,g1,g2,g3.ev h⟩⟩
 |fmap ag es=>
  obtain⟨ents,clock,a,b,c,d⟩:=hr;exact⟨ents,clock,by rw[hs,hh];exact a,b,fun i q v e x y=>let ⟨p,g,g1,g2,g3⟩:=c i q v e x y;⟨p.ev h,g,g1,g2,g3.ev h⟩,by rw[hs];exact(h.own _ (heap_lt a) d).2⟩
theorem ORel.lt{m:Mem}{id:Nat}{o:Ob}(hr:ORel m id o):m.σ id<m.w.heap.size:=by
 cases o with
 |var cs=>obtain⟨cur,ty,a,_⟩:=hr;exact heap_lt a
 |fvar cs=>obtain⟨cur,ty,fz,a,_⟩:=hr;exact heap_lt a
 |arr ty sz es=>obtain⟨cur,a,_⟩:=hr;exact heap_lt a
 |farr ty sz es=>obtain⟨cur,fz,a,_⟩:=hr;exact heap_lt a
 |carr ty sz es=>obtain⟨cur,a,_⟩:=hr;exact heap_lt a
 |map ag es=>obtain⟨ents,clock,a,_⟩:=hr;exact heap_lt a
 |fmap ag es=>obtain⟨ents,clock,a,_⟩:=hr;exact heap_lt a
theorem ORel.calm{m:Mem}{id:Nat}{o:Ob}(hr:ORel m id o)(ho:o.mine=false): ¬ m.own (m.σ id):=by
 cases o with
 |fvar cs=>obtain⟨cur,ty,fz,_,_,c⟩:=hr;exact c
 |farr ty sz es=>obtain⟨cur,fz,_,_,_,_,_,_,_,c⟩:=hr;exact c
 |fmap ag es=>obtain⟨_,_,_,_,_,c⟩:=hr;exact c
 |_=>simp[Ob.mine] at ho
end Go.Abs
namespace Go.Abs
variable {w0:World}
structure Grew (w w':World):Prop where
 os:w'.os=w.os
 tape:w'.tape=w.tape
 output:w'.output=w.output
 size:w.heap.size≤w'.heap.size
 keep: ∀ c,c<w.heap.size→w'.heap[c]? =w.heap[c]?
theorem Grew.refl(w:World):Grew w w:=⟨rfl,rfl,rfl,Nat.le_refl _,fun _ _=>rfl⟩
theorem Grew.trans{a b c:World}(h:Grew a b)(k:Grew b c):Grew a c:=
 ⟨k.os.trans h.os,k.tape.trans h.tape,k.output.trans h.output,Nat.le_trans h.size k.size,fun x hx=>(k.keep x (Nat.lt_of_lt_of_le hx h.size)).trans (h.keep x hx)⟩
theorem Grew.alloc(w:World)(o:Obj):Grew w (w.alloc o):=⟨rfl,rfl,rfl,by simp,fun _ hc=>heap_alloc_old w o hc⟩
theorem Grew.drew(w:World):Grew w w.drew:=⟨rfl,rfl,rfl,Nat.le_refl _,fun _ _=>rfl⟩
def Mem.later(m:Mem)(w':World)(X:Nat→Prop):Mem:={m with w:=w',fr:=fun c=>m.fr c∨X c}
theorem later_own{m:Mem}{w':World}{X:Nat→Prop}{c:Nat}:(m.later w' X).own c↔m.own c∨X c:=by
 unfold Mem.own Mem.mine Mem.later;constructor
 ·rintro ((h|h)|h)
  ·exact .inl (.inl h)
  ·exact .inr h
  ·exact .inl (.inr h)
 ·rintro ((h|h)|h)
  ·exact .inl (.inl h)
  ·exact .inr h
  ·exact .inl (.inr h)
theorem later_ev{m:Mem}{w':World}{X:Nat→Prop}(hg:Grew m.w w')(hX: ∀ c,X c→m.w.heap.size≤c):Ev m (m.later w' X) where
 os:=hg.os
 tape:=hg.tape
 output:=hg.output
 size:=hg.size
 keep c hc _:=hg.keep c hc
 mine c _ h:=h
 less c hc hn h:=by
  rcases later_own.1 h with h|h
  ·exact hn h
  ·have:=hX c h;omega
 gen _:=Nat.le_refl _
 ref _ _ hs:=⟨hs,rfl,rfl,rfl⟩
theorem later_ok{m:Mem}{w':World}{X:Nat→Prop}(h:Ok w0 m)(hg:Grew m.w w')(hX: ∀ c,X c→m.w.heap.size≤c∧c<w'.heap.size):Ok w0 (m.later w' X) where
 os:=hg.os.trans h.os
 tape:=hg.tape.trans h.tape
 output:=hg.output.trans h.output
 size:=Nat.le_trans h.size hg.size
 base c hc:=(hg.keep c (Nat.lt_of_lt_of_le hc h.size)).trans (h.base c hc)
 obj id o ho:=(h.obj id o ho).ev (later_ev hg fun c hc=>(hX c hc).1).zero rfl rfl (hg.keep _ (h.obj id o ho).lt)
 above id o ho hm:=by
  refine⟨(h.above id o ho hm).1,?_⟩;rintro (hf|hx)
  ·exact(h.above id o ho hm).2 hf
  ·have h1:=(hX _ hx).1;have h2:=(h.obj id o ho).lt;simp only[Mem.later] at h1;omega
 frlt c hc:=by
  rcases hc with hf|hx
  ·exact Nat.lt_of_lt_of_le (h.frlt c hf) hg.size
  ·exact(hX c hx).2
 inj:=h.inj
def Mem.install(m:Mem)(s c k:Nat)(o:Ob):Mem:=⟨m.w,upd m.blk s ((m.blk s).1+1,some o),upd m.σ s c,upd m.κ s k,fun x=>m.fr x∧x≠c⟩
theorem install_mine{m:Mem}{s c k:Nat}{o:Ob}{x:Nat}(h:(m.install s c k o).mine x):x=c∨m.mine x:=by
 obtain⟨id,o',ho,hm,hx⟩:=h;simp only[Mem.install,upd_apply] at ho hx;by_cases hid:id=s
 ·simp only[hid,if_true] at hx;exact .inl hx.symm
 ·simp only[hid,if_false] at ho hx;exact .inr ⟨id,o',ho,hm,hx⟩
theorem install_own{m:Mem}{s c k:Nat}{o:Ob}(hc:m.fr c){x:Nat}(h:(m.install s c k o).own x):m.own x:=by
 rcases h with h|h
 ·exact .inl h.1
 ·rcases install_mine h with rfl|h
  ·exact .inl hc
  ·exact .inr h
theorem install_ev{m m1:Mem}{s c k:Nat}{o:Ob}(h:Ev m m1)(hc:m1.fr c)(hn:m.w.heap.size≤c∨m.mine c):Ev m (m1.install s c k o) where
 os:=h.os
 tape:=h.tape
 output:=h.output
 size:=h.size
 keep:=h.keep
 mine x hx hm:=by
  rcases install_mine hm with rfl|hm
  ·rcases hn with hn|hn
   ·omega
   ·exact hn
  ·exact h.mine x hx hm
 less x hx hno hm:=h.less x hx hno (install_own hc hm)
 gen id:=by
  simp only[Mem.install,upd_apply];have:=h.gen id;split
  ·rename_i e;subst e;simp only;omega
  ·exact this
 ref id he hs:=by
  have hg:=h.gen id;simp only[Mem.install,upd_apply] at he hs ⊢;by_cases hid:id=s
  ·subst hid;simp only[if_true] at he;omega
  ·simp only[hid,if_false] at he hs ⊢;exact h.ref id he hs
theorem install_ok{m:Mem}{s c k:Nat}{o:Ob}(h:Ok w0 m)(hc:m.fr c)(hlo:w0.heap.size≤c)(ho:ORel (m.install s c k o) s o):Ok w0 (m.install s c k o):=by
 have hk: ∀ x,x<m.w.heap.size→ ¬ m.own x→(m.install s c k o).w.heap[x]? =m.w.heap[x]? ∧ ¬ (m.install s c k o).own x:=
  fun x _ hn=>⟨rfl,fun h=>hn (install_own hc h)⟩
 have hev:Ev0 m (m.install s c k o):=by
  refine⟨hk,fun id=> ?_,fun id he hs=> ?_⟩
  ·simp only[Mem.install,upd_apply];split
   ·rename_i e;subst e;simp only;omega
   ·exact Nat.le_refl _
  ·simp only[Mem.install,upd_apply] at he hs ⊢;by_cases hid:id=s
   ·subst hid;simp only[if_true] at he;omega
   ·simp only[hid,if_false] at he hs ⊢;exact⟨hs,trivial,trivial,trivial⟩
 exact {
  os:=h.os
  tape:=h.tape
  output:=h.output
  size:=h.size
  base:=h.base
  obj:=by
   intro id o' ho';by_cases hid:id=s
   ·subst hid;simp only[Mem.install,upd_apply,if_true,Option.some.injEq] at ho';exact ho'▸ho
   ·have hs:(m.install s c k o).σ id=m.σ id:=by simp[Mem.install,upd_apply,hid]
    have hkk:(m.install s c k o).κ id=m.κ id:=by simp[Mem.install,upd_apply,hid]
    simp only[Mem.install,upd_apply,hid,if_false] at ho';exact(h.obj id o' ho').ev hev hs hkk rfl
  above:=by
   intro id o' ho' hm;by_cases hid:id=s
   ·subst hid;simp only[Mem.install,upd_apply,if_true];exact⟨hlo,fun h=>h.2 rfl⟩
   ·simp only[Mem.install,upd_apply,hid,if_false] at ho' ⊢;exact⟨(h.above id o' ho' hm).1,fun hf=>(h.above id o' ho' hm).2 hf.1⟩
  frlt:=fun x hx=>h.frlt x hx.1
  inj:=by
   intro id id' o1 o2 h1 m1 h2 m2 he;by_cases hid:id=s<;>by_cases hid':id'=s
   ·rw[hid,hid']
   ·subst hid;simp only[Mem.install,upd_apply,hid',if_true,if_false] at h2 he;exact((h.above id' o2 h2 m2).2 (he▸hc)).elim
   ·subst hid';simp only[Mem.install,upd_apply,hid,if_true,if_false] at h1 he;exact((h.above id o1 h1 m1).2 (he.symm▸hc)).elim
   ·simp only[Mem.install,upd_apply,hid,hid',if_false] at h1 h2 he;exact h.inj id id' o1 o2 h1 m1 h2 m2 he}
def Mem.dropB(m:Mem)(id:Nat):Mem:=⟨m.w,upd m.blk id ((m.blk id).1,none),m.σ,m.κ,fun c=>m.fr c∨c=m.σ id⟩
theorem dropB_own{m:Mem}{id:Nat}{o:Ob}(ho:(m.blk id).2=some o)(hm:o.mine=true){x:Nat}(h:(m.dropB id).own x):m.own x:=by
 rcases h with (h|h)|⟨id',o',h1,h2,h3⟩
 ·exact .inl h
 ·exact .inr ⟨id,o,ho,hm,h.symm⟩
 ·simp only[Mem.dropB,upd_apply] at h1 h3;by_cases hid:id'=id
  ·simp[hid] at h1
  ·simp only[hid,if_false] at h1;exact .inr ⟨id',o',h1,h2,h3⟩
theorem dropB_ev{m:Mem}{id:Nat}{o:Ob}(ho:(m.blk id).2=some o)(hm:o.mine=true):Ev m (m.dropB id) where
 os:=rfl
 tape:=rfl
 output:=rfl
 size:=Nat.le_refl _
 keep _ _ _:=rfl
 mine x _ h:=by
  obtain⟨id',o',h1,h2,h3⟩:=h;simp only[Mem.dropB,upd_apply] at h1 h3;by_cases hid:id'=id
  ·simp[hid] at h1
  ·simp only[hid,if_false] at h1;exact⟨id',o',h1,h2,h3⟩
 less x _ hn h:=hn (dropB_own ho hm h)
 gen id':=by
  simp only[Mem.dropB,upd_apply];split
  ·rename_i e;subst e;exact Nat.le_refl _
  ·exact Nat.le_refl _
 ref id' he hs:=by
  simp only[Mem.dropB,upd_apply] at he hs ⊢;by_cases hid:id'=id
  ·simp[hid] at hs
  ·simp only[hid,if_false] at he hs ⊢;exact⟨hs,trivial,trivial,trivial⟩
theorem dropB_ok{m:Mem}{id:Nat}{o:Ob}(h:Ok w0 m)(ho:(m.blk id).2=some o)(hm:o.mine=true):Ok w0 (m.dropB id) where
 os:=h.os
 tape:=h.tape
 output:=h.output
 size:=h.size
 base:=h.base
 obj id' o' h1:=by
  simp only[Mem.dropB,upd_apply] at h1;by_cases hid:id'=id
  ·simp[hid] at h1
  ·simp only[hid,if_false] at h1;exact(h.obj id' o' h1).ev (dropB_ev ho hm).zero rfl rfl rfl
 above id' o' h1 h2:=by
  simp only[Mem.dropB,upd_apply] at h1 ⊢;by_cases hid:id'=id
  ·simp[hid] at h1
  ·simp only[hid,if_false] at h1;refine⟨(h.above id' o' h1 h2).1,?_⟩;rintro (hf|hf)
   ·exact(h.above id' o' h1 h2).2 hf
   ·exact hid (h.inj id' id o' o h1 h2 ho hm hf)
 frlt c hc:=by
  rcases hc with hf|rfl
  ·exact h.frlt c hf
  ·exact(h.obj id o ho).lt
 inj id1 id2 o1 o2 h1 m1 h2 m2 he:=by
  simp only[Mem.dropB,upd_apply] at h1 h2 he;by_cases hid:id1=id
  ·simp[hid] at h1
  ·by_cases hid':id2=id
   ·simp[hid'] at h2
   ·simp only[hid,hid',if_false] at h1 h2;exact h.inj id1 id2 o1 o2 h1 m1 h2 m2 he
def Mem.setB(m:Mem)(w':World)(id:Nat)(o:Ob):Mem:=⟨w',upd m.blk id ((m.blk id).1,some o),m.σ,m.κ,m.fr⟩
section
variable {m:Mem} {w':World} {id:Nat} {o old:Ob} (ho:(m.blk id).2=some old) (hm:old.mine=true)
include ho hm
theorem setB_own{x:Nat}(h:(m.setB w' id o).own x):m.own x:=by
 rcases h with h|⟨id',o',h1,h2,h3⟩
 ·exact .inl h
 ·simp only[Mem.setB,upd_apply] at h1 h3;by_cases hid:id'=id
  ·exact .inr ⟨id,old,ho,hm,hid▸h3⟩
  ·simp only[hid,if_false] at h1;exact .inr ⟨id',o',h1,h2,h3⟩
theorem setB_ev(hsz:szAt ((m.blk id).1,some o)=szAt ((m.blk id).1,some old))(hos:w'.os=m.w.os)(ht:w'.tape=m.w.tape)(hout:w'.output=m.w.output)(hs:w'.heap.size=m.w.heap.size)
  (hk: ∀ c,c≠m.σ id→w'.heap[c]? =m.w.heap[c]?):Ev m (m.setB w' id o) where
 os:=hos
 tape:=ht
 output:=hout
 size:=Nat.le_of_eq hs.symm
 keep c _ hn:=hk c fun e=>hn ⟨id,old,ho,hm,e.symm⟩
 mine x _ h:=by
  obtain⟨id',o',h1,h2,h3⟩:=h;simp only[Mem.setB,upd_apply] at h1 h3;by_cases hid:id'=id
  ·exact⟨id,old,ho,hm,hid▸h3⟩
  ·simp only[hid,if_false] at h1;exact⟨id',o',h1,h2,h3⟩
 less x _ hn h:=hn (setB_own ho hm h)
 gen id':=by
  simp only[Mem.setB,upd_apply];split
  ·rename_i e;subst e;exact Nat.le_refl _
  ·exact Nat.le_refl _
 ref id' he hss:=by
  simp only[Mem.setB,upd_apply] at he hss ⊢;by_cases hid:id'=id
  ·subst hid;refine⟨by simp[ho],trivial,trivial,?_⟩;simp only[if_true];rw[hsz,← ho]
  ·simp only[hid,if_false] at he hss ⊢;exact⟨hss,trivial,trivial,trivial⟩
theorem setB_ok(h:Ok w0 m)(hsz:szAt ((m.blk id).1,some o)=szAt ((m.blk id).1,some old))(hos:w'.os=m.w.os)(ht:w'.tape=m.w.tape)(hout:w'.output=m.w.output)(hs:w'.heap.size=m.w.heap.size)
  (hk: ∀ c,c≠m.σ id→w'.heap[c]? =m.w.heap[c]?) (hobj:ORel (m.setB w' id o) id o):Ok w0 (m.setB w' id o) where
 os:=hos.trans h.os
 tape:=ht.trans h.tape
 output:=hout.trans h.output
 size:=Nat.le_trans h.size (Nat.le_of_eq hs.symm)
 base c hc:=by
  have:=(h.above id old ho hm).1;exact(hk c (by omega)).trans (h.base c hc)
 obj id' o' h1:=by
  simp only[Mem.setB,upd_apply] at h1;by_cases hid:id'=id
  ·subst hid;simp only[if_true,Option.some.injEq] at h1;exact h1▸hobj
  ·simp only[hid,if_false] at h1;refine(h.obj id' o' h1).ev (setB_ev ho hm hsz hos ht hout hs hk).zero rfl rfl (hk _ fun e=> ?_);cases hmo:o'.mine with
   |true=>exact hid (h.inj id' id o' old h1 hmo ho hm e)
   |false=>exact(h.obj id' o' h1).calm hmo (.inr ⟨id,old,ho,hm,e.symm⟩)
 above id' o' h1 h2:=by
  simp only[Mem.setB,upd_apply] at h1 ⊢;by_cases hid:id'=id
  ·subst hid;exact h.above id' old ho hm
  ·simp only[hid,if_false] at h1;exact h.above id' o' h1 h2
 frlt c hc:=by rw[show(m.setB w' id o).w.heap.size=m.w.heap.size from hs];exact h.frlt c hc
 inj id1 id2 o1 o2 h1 m1 h2 m2 he:=by
  simp only[Mem.setB,upd_apply] at h1 h2 he;by_cases hid:id1=id<;>by_cases hid':id2=id
  ·rw[hid,hid']
  ·simp only[hid',if_false] at h2;exact hid▸h.inj id id2 old o2 ho hm h2 m2 (hid▸he)
  ·simp only[hid,if_false] at h1;exact hid'▸h.inj id1 id o1 old h1 m1 ho hm (hid'▸he)
  ·simp only[hid,hid',if_false] at h1 h2;exact h.inj id1 id2 o1 o2 h1 m1 h2 m2 he
end
end Go.Abs
namespace Go.Abs
def constP:Value→Option PV
 | .bool b=>some (.bool b)
 | .int k n=>some (.int k n)
 | .string s=>some (.str s)
 | .pointer none=>some .nilp
 | .slice none 0 0=>some .nils
 | .map none=>some .nilm
 | .nilFunc=>some .nilf
 | .nilIface=>some .nili
 |_=>none
def constsP:List Value→Option (List PV)
 |[]=>some []
 |v::r=>match constP v,constsP r with
  |some x,some xs=>some (x::xs)
  |_,_=>none
def constV:Value→Option V
 | .agg cs=>(constsP cs.toList).map fun l=> .agg (l.map .p)
 |v=>(constP v).map fun x=> .one (.p x)
def argC:Operand→Option IArg
 | .tmp t=>some (.t t)
 | .const (.int .i64 n)=>some (.i n)
 | .const (.bool b)=>some (.b b)
 | .const v=>(constV v).map .k
 | .func f=>some (.k (.one (.p (.fn f [] []))))
 | .global _=>none
def argsC:List Operand→Option (List IArg)
 |[]=>some []
 |a::r=>match argC a,argsC r with
  |some x,some xs=>some (x::xs)
  |_,_=>none
def argO:Option Operand→Option (Option IArg)
 |none=>some none
 |some a=>(argC a).map some
def zeroC(P:Program)(t:TypeId):Option (List PV):=
 match P.info? t with
 |some i=>match i.zero with
  |some (.agg cs)=>if cs.size=i.size then constsP cs.toList else none
  |some v=>if i.size=1 then (constP v).map fun x=>[x] else none
  |none=>none
 |none=>none
def kOf(P:Program)(t:TypeId):Option (Option Nat):=
 match P.underlying t,P.info? t with
 |some (.struct _),some i=>some (some i.size)
 |some (.array _ _),some i=>some (some i.size)
 |some _,some i=>if i.size=1 then some none else none
 |_,_=>none
def sizeC(P:Program)(t:TypeId):Option Nat:=(P.info? t).map (·.size)
def partsC(place:Nat→Option (Nat × Nat))(zl:Nat):List (Nat × Operand)→Option (List (Nat × Nat × IArg))
 |[]=>some []
 |(i,x)::r=>match place i,argC x,partsC place zl r with
  |some (off,n),some a,some q=>if off+n≤zl then some ((off,n,a)::q) else none
  |_,_,_=>none
def elemsC:Nat→List (Nat × Operand)→Option (List IArg)
 |_,[]=>some []
 |k,(i,x)::r=>match argC x,elemsC (k+1) r with
  |some a,some q=>if i=k then some (a::q) else none
  |_,_=>none
def scalarK(P:Program)(t:TypeId):Option Bool:=
 match P.underlying t with
 |some (.int _)=>some true
 |some .bool=>some false
 |_=>none
def scalarF(P:Program):Nat→List Field→Option (List Bool)
 |_,[]=>some []
 |k,f::r=>match scalarK P f.type,scalarF P (k+1) r with
  |some b,some bs=>if f.offset=k∧f.name≠ "_" then some (b::bs) else none
  |_,_=>none
def nilConst:Operand→Bool
 | .const .nilIface=>true
 |_=>false
def eqKind(P:Program)(t:TypeId)(x y:Operand):Option EqK:=
 match P.underlying t with
 |some (.interface _)=>if nilConst x||nilConst y then some .ifc else none
 |some .bool=>some .bool
 |some (.pointer _)=>some .ptr
 |some (.slice _)=>some .slc
 |some (.map _ _)=>some .map
 |some (.func _ _ _)=>some .fnc
 |some (.struct fs)=>if !P.stoodInHeld t&& !P.eqGuardType P.depth t then (scalarF P 0 fs.toList).map .str else none
 |_=>none
def elemC(P:Program)(t:TypeId):Option (TypeId × Nat × Nat × List PV):=
 match P.underlying t with
 |some (.slice e)=>match P.info? e,zeroC P e with
  |some i,some z=>if 0<i.size∧0<i.bytes then some (e,i.size,i.bytes,z) else none
  |_,_=>none
 |_=>none
def keyOf(P:Program)(k:TypeId):Option Nat:=
 match P.underlying k with
 |some (.int _)=>some 0
 |some .string=>some 1
 |some .bool=>some 2
 |_=>none
def zAgg(P:Program)(t:TypeId):Bool:=
 match P.info? t with
 |some i=>match i.zero with
  |some (.agg _)=>true
  |_=>false
 |none=>false
def compOp(P:Program)(site:Nat)(o:Oper):Option IOp:=
 match o.op with
 | .move x=>(argC x).map .mov
 | .assign x=>(argC x).map .mov
 | .pick c a b=>match argC c,argC a,argC b with
  |some c,some a,some b=>some (.pick c a b)
  |_,_,_=>none
 | .alloc t=>(zeroC P t).map (.alloc site)
 | .box _ x=>(argC x).map (.box site)
 | .build t ps=>match P.underlying t,zeroC P t with
  |some (.struct fs),some z=>if fs.all fun f=>(P.info? f.type).isSome then
    (partsC (fun i=>(fs[i]?).map fun f=>(f.offset,P.cellsOf f.type)) z.length ps.toList).map (.build z)
   else none
  |some (.array _ e),some z=>match P.info? e with
   |some i=>(partsC (fun k=>some (k*i.size,i.size)) z.length ps.toList).map (.build z)
   |none=>none
  |_,_=>none
 | .buildSlice t n ps=>match elemC P t,elemsC 0 ps.toList with
  |some (e,sz,_,_),some as=>if as.length=n∧n*sz≤16777216 then some (.bslice site e sz as) else none
  |_,_=>none
 | .load t a=>match kOf P t,argC a with
  |some k,some a=>some (.load k a)
  |_,_=>none
 | .store t a x=>match sizeC P t,argC a,argC x with
  |some n,some a,some x=>some (.store n a x)
  |_,_,_=>none
 | .nilCheck x=>(argC x).map .nilchk
 | .binOp op t x y _=>match argC x,argC y with
  |some a,some b=>match P.underlying t with
   |some (.int _)=>some (.bin op a b)
   |some .string=>some (.bin op a b)
   |_=>match op,eqKind P t x y with
    | .eql,some k=>some (.eqc k false a b)
    | .neq,some k=>some (.eqc k true a b)
    |_,_=>none
  |_,_=>none
 | .unOp op _ x=>match op with
  | .not=>(argC x).map (.un .not)
  | .neg=>(argC x).map (.un .neg)
  |_=>none
 | .convert s d x=>match P.underlying s,P.underlying d,argC x with
  |some (.int _),some (.int k),some a=>some (.conv k a)
  |some (.slice e),some .string,some a=>match P.underlying e with
   |some (.int .u8)=>some (.bstr a)
   |_=>none
  |_,_,_=>none
 | .makeFunc (.func f) a b=>match argsC a.toList,argsC b.toList with
  |some x,some y=>some (.mkfn f x y)
  |_,_=>none
 | .makeMap t none=>match P.underlying t with
  |some (.map _ e)=>(kOf P e).map fun k=> .mkmap site k.isSome
  |_=>none
 | .makeSlice t l c=>match elemC P t,argC l,argC c with
  |some (e,sz,bytes,z),some l,some c=>some (.mkslice site e sz bytes z l c)
  |_,_,_=>none
 | .slice t x lo hi none=>match argC x,argO lo,argO hi with
  |some a,some l,some h=>match P.underlying t with
   |some (.slice e)=>(sizeC P e).map fun sz=> .slice sz a l h
   |some .string=>some (.sslice a l h)
   |_=>none
  |_,_,_=>none
 | .fieldAddr s x f=>match P.underlying s,argC x with
  |some (.struct fs),some a=>match fs[f]? with
   |some d=>if P.cellsOf d.type≠0 then some (.faddr d.offset a) else none
   |none=>none
  |_,_=>none
 | .field t x f=>match P.underlying t,argC x with
  |some (.struct fs),some a=>match fs[f]? with
   |some d=>(kOf P d.type).map fun k=> .fld d.offset k a
   |none=>none
  |_,_=>none
 | .indexAddr t x i=>match argC x,argC i with
  |some a,some b=>match P.underlying t with
   |some (.slice e)=>(sizeC P e).map fun sz=> .iaddr sz a b
   |some (.array n e)=>(sizeC P e).map fun sz=> .aaddr n sz a b
   |_=>none
  |_,_=>none
 | .index t x i=>match argC x,argC i with
  |some a,some b=>match P.underlying t with
   |some (.array n e)=>match sizeC P e,kOf P e with
    |some sz,some k=>some (.aidx n sz k a b)
    |_,_=>none
   |some .string=>some (.sidx a b)
   |_=>none
  |_,_=>none
 | .lookup t x k ok=>match P.underlying t,argC x,argC k with
  |some (.map kt e),some a,some b=>match zeroC P e,kOf P e with
   |some z,some q=>match keyOf P kt with
    |some kd=>if zAgg P e=q.isSome then some (.lookup kd z q.isSome ok a b) else none
    |none=>none
   |_,_=>none
  |_,_,_=>none
 | .mapUpdate t m k v=>match P.underlying t,argC m,argC k,argC v with
  |some (.map kt e),some a,some b,some c=>match kOf P e with
   |some q=>(keyOf P kt).map fun kd=> .mupd kd q.isSome a b c
   |none=>none
  |_,_,_,_=>none
 | .insert t m k v=>match P.underlying t,argC m,argC k,argC v with
  |some (.map kt e),some a,some b,some c=>match kOf P e with
   |some q=>(keyOf P kt).map fun kd=> .mupd kd q.isSome a b c
   |none=>none
  |_,_,_,_=>none
 | .extract x i=>(argC x).map fun a=> .extract a i
 | .call c=>match c.callee,argsC c.args.toList with
  | .value f,some as=>(argC f).map fun g=> .call site g as
  | .builtin .len,some [a]=>match c.argTypes[0]? with
   |some t=>match P.underlying t with
    |some .string=>some (.slen a)
    |some (.slice _)=>some (.llen a)
    |some (.map _ _)=>some (.mlen a)
    |_=>none
   |none=>none
  | .builtin .append,some [a,b]=>match c.argTypes[0]?,c.argTypes[1]? with
   |some t,some u=>match elemC P t with
    |some (e,sz,bytes,_)=>if t=u∧c.argTypes.size=2 then some (.append site e sz bytes a b) else none
    |none=>none
   |_,_=>none
  | .builtin .max,some [a,b]=>some (.max a b)
  | .builtin .min,some [a,b]=>some (.min a b)
  | .builtin .clear,some [a]=>match c.argTypes[0]? with
   |some t=>(elemC P t).map fun q=> .clear q.2.2.2 a
   |none=>none
  |_,_=>none
 |_=>none
def IArg.tmps:IArg→List Nat
 | .t n=>[n]
 |_=>[]
def tmpsL:List IArg→List Nat
 |[]=>[]
 |a::r=>a.tmps++tmpsL r
def tmpsO:Option IArg→List Nat
 |some a=>a.tmps
 |none=>[]
def tmpsP:List (Nat × Nat × IArg)→List Nat
 |[]=>[]
 |(_,_,a)::r=>a.tmps++tmpsP r
def IOp.tmps:IOp→List Nat
 | .mov x| .box _ x| .load _ x| .nilchk x| .un _ x| .conv _ x| .bstr x| .faddr _ x| .fld _ _ x| .extract x _| .slen x| .llen x| .mlen x| .clear _ x=>x.tmps
 | .pick c a b=>c.tmps++a.tmps++b.tmps
 | .alloc _ _| .mkmap _ _| .bad=>[]
 | .build _ ps=>tmpsP ps
 | .bslice _ _ _ ps=>tmpsL ps
 | .store _ a x| .bin _ a x| .eqc _ _ a x| .iaddr _ a x| .aaddr _ _ a x| .aidx _ _ _ a x| .sidx a x| .lookup _ _ _ _ a x| .append _ _ _ _ a x| .max a x| .min a x=>a.tmps++x.tmps
 | .mkfn _ a b=>tmpsL a++tmpsL b
 | .mkslice _ _ _ _ _ a b=>a.tmps++b.tmps
 | .slice _ x a b| .sslice x a b=>x.tmps++tmpsO a++tmpsO b
 | .mupd _ _ a b c=>a.tmps++b.tmps++c.tmps
 | .call _ f as=>f.tmps++tmpsL as
def IOper.uses(o:IOper):List Nat:=
 o.op.tmps++match o.guard with
  |some (t,_)=>[t]
  |none=>[]
def free2(a b:IOper):Bool:=
 (match a.dst with
  |some d=> !b.uses.contains d&&b.dst !=some d
  |none=>true)&&
 (match b.dst with
  |some d=> !a.uses.contains d
  |none=>true)
def freeAt(o:IOper):Nat→List IOper→Bool
 |_,[]=>true
 |j,x::r=>(o.anc.testBit j||free2 x o)&&freeAt o (j+1) r
def freeAll:List IOper→List IOper→Bool
 |[],_=>true
 |o::os,past=>freeAt o 0 past&&freeAll os (past++[o])
def compOpB(P:Program)(site:Nat)(o:Oper):IOp:=(compOp P site o).getD .bad
def dstOk(nt:Nat):Option Nat→Bool
 |some d=>decide (d<nt)
 |none=>true
def guardC(dst:Nat→Option Nat):Option (Nat × Bool)→Option (Option (Nat × Bool))
 |none=>some none
 |some (j,w)=>(dst j).map fun t=>some (t,w)
def compOper(P:Program)(dst:Nat→Option Nat)(base nt:Nat)(anc:Nat)(o:Oper):Option IOper:=
 if dstOk nt o.dst then (guardC dst o.guard).map fun g=>⟨o.dst,compOpB P base o,g,anc⟩ else none
def compOps(P:Program)(dst anc:Nat→Option Nat)(base nt:Nat):Nat→List Oper→Option (List IOper)
 |_,[]=>some []
 |i,o::r=>match compOper P dst ((base+i)*64) nt ((anc i).getD 0) o,compOps P dst anc base nt (i+1) r with
  |some x,some xs=>some (x::xs)
  |_,_=>none
def afterOk(ops:Array Oper):Bool:=(List.range ops.size).all fun i=>match ops[i]? with
 |some o=>o.after.all fun e=> !Region.binds .any e||decide (e.on<i)
 |none=>true
def compC(P:Program)(f nt:Nat):Code→Option ICode
 | .skip=>some .skip
 | .region id ops draw=>
  let b:=if draw then Region.before ops else #[]
  match compOps P (fun j=>(ops[j]?).bind (·.dst)) (fun i=>b[i]?) ((f*1000+id)*1000) nt 0 ops.toList with
  |some xs=>if draw then (if afterOk ops&&freeAll xs [] then some (.region true xs) else none) else some (.region false xs)
  |none=>none
 | .seq a b=>match compC P f nt a,compC P f nt b with
  |some x,some y=>some (.seq x y)
  |_,_=>none
 | .cond c a b=>match argC c,compC P f nt a,compC P f nt b with
  |some c,some x,some y=>some (.cond c x y)
  |_,_,_=>none
 | .block id c=>(compC P f nt c).map (.block id)
 | .loop c=>(compC P f nt c).map .loop
 | .exit id=>some (.exit id)
 | .scope c=>compC P f nt c
 | .label _=>some .skip
 | .ret=>some .ret
 |_=>some .bad
def resC(P:Program):List ResultVar→Option (List (Nat × Option (Option Nat)))
 |[]=>some []
 | .tmp t::r=>(resC P r).map ((t,none):: ·)
 | .cell t ty::r=>match kOf P ty,resC P r with
  |some k,some q=>some ((t,some k)::q)
  |_,_=>none
def compF(P:Program)(f:Nat):Option IFn:=
 match P.funcs[f]? with
 |none=>none
 |some fn=>match fn.body with
  |none=>none
  |some c=>if fn.name== "runtime.NumGoroutine" then none else
   match compC P f fn.ntmps c,resC P fn.results.toList with
   |some b,some r=>some ⟨fn.ntmps,r,b⟩
   |_,_=>none
end Go.Abs
