/-
  Each operation of the abstract machine is what the program does; the machine is sound in any order that a region draws; a quick evaluator; library functions.
-/
import Derived.Test.YtfhejdojdajpmaaGreatDoorMa
import Derived.Laws.BytesString
import Derived.LoopN
import Derived.Scope
import Derived.Orders
import Derived.ChangeReads
import Derived.ChangeStays
import Derived.DataReads
import Derived.Below
import Derived.Sort.Grow
import Derived.Deep.Draws
import Derived.Lib.ItoaNum
import Derived.Lib.Join
import Derived.Lib.BitFns
import Derived.Lib.LaidTab
import Derived.ChangeSame
import Derived.ProofKit
import Derived.OpenShut
set_option linter.all false
namespace Go.Abs
variable {P:Program} {w0:World}
section
variable{ag:Bool}
def Mk(w:World)(own:Nat->Prop)(ag:Bool)(es:List (PV×List PV))(ents:Array MapEntry):Prop:=ents.size=es.length/\ ∀(i:Nat) (q:PV) (v:List PV) (e:MapEntry),es[i]?=some (q,v)->ents[i]?=some e->bX w own q e.key/\ ∃g:Array Value,(ag=true->e.val=.agg g)/\(ag=false-> #[e.val]=g)/\cV w own v g.toList
theorem JS{w:World}{r:Nat}{es:Array MapEntry}{clock:Nat}(hb:w.heap[r]?=some (.map es clock)):(getObj r).run P w=.ok (.map es clock) w:=by simp[getObj,Sem.run,hb]
theorem aeu{w:World}{r:Nat}{es:Array MapEntry}{clock:Nat}{ob:Obj}(hb:w.heap[r]?=some (.map es clock)):(setObj r ob).run P w=.ok () {w with heap:=w.heap.setIfInBounds r ob}:=by simp[setObj,Sem.run,hb]
theorem acX{w:World}{own:Nat->Prop}{es:List (PV×List PV)}{v:Value}(h:bX w own (.mp ag es) v):
  ∃r ents clock,v=.map (some r)/\w.heap[r]?=some (.map ents clock)/\Mk w own ag es ents:=by
 cases h with
 |mp r ents clock g ho hb hl hk hv hr=>
  refine⟨r,ents,clock,rfl,hb,hl,fun i q v e h1 h2=>⟨hk i q v e h1 h2,g i,(hv i q v e h1 h2).2.1,(hv i q v e h1 h2).2.2,?_,fun j x u a b=>?_⟩⟩
  .simpa using (hv i q v e h1 h2).1
  exact hr i q v j x u h1 a (by simpa using b)
theorem KF{m:Mem}(aq:Ok w0 m){id g:Nat}{v:Value}(h:bJ m (.one (.jP id g)) v){es:List (PV×List PV)}(hb:m.aj id=(g,some (.map ag es))\/m.aj id=(g,some (.fmap ag es))):
  ∃r ents clock,v=.map (some r)/\r=m.σ id/\m.w.heap[r]?=some (.map ents clock)/\Mk m.w m.own ag es ents:=by
 have h:cN m (.jP id g) v:=h;cases h with
 |jP r hg hr=>
  rcases hb with hb|hb
  .obtain⟨ents,clock,h1,h2,h3⟩:=aq.obj id _ (congrArg Prod.snd hb);have:=hr (by rw[hb]) (by rw[hb];rfl);subst this;exact⟨_,ents,clock,rfl,rfl,h1,h2,h3⟩
  obtain⟨ents,clock,h1,h2,h3,_⟩:=aq.obj id _ (congrArg Prod.snd hb);have:=hr (by rw[hb]) (by rw[hb];rfl);subst this;exact⟨_,ents,clock,rfl,rfl,h1,h2,h3⟩
theorem amT{m:Mem}(aq:Ok w0 m){x:V}{v:Value}{es:List (PV×List PV)}{r:List Nat}(h:mapOf m.aj ag x=some (es,r))(hv:bJ m x v):
  ∃ents:Array MapEntry,((v=.map none/\ents= #[])\/ ∃ref clock,v=.map (some ref)/\m.w.heap[ref]?=some (.map ents clock))/\Mk m.w m.own ag es ents:=by
 unfold mapOf at h;split at h
 .cases h;exact⟨#[],.inl ⟨abl hv,rfl⟩,rfl,fun i q v e h=>by simp at h⟩
 .rename_i qm jZ;split at h
  .rename_i e;subst e;cases h;obtain⟨hp⟩:cN m _ v:=hv;obtain⟨r,ents,clock,h1,h2,h3⟩:=acX hp;exact⟨ents,.inr ⟨r,clock,h1,h2⟩,h3⟩
  cases h
 .rename_i id g;split at h
  .rename_i g' qm jZ hb;split at h
   .rename_i hc;obtain⟨rfl,rfl⟩:=hc;cases h;obtain⟨r,ents,clock,h1,_,h2,h3⟩:=KF aq hv (.inl hb);exact⟨ents,.inr ⟨r,clock,h1,h2⟩,h3⟩
   cases h
  .rename_i g' qm jZ hb;split at h
   .rename_i hc;obtain⟨rfl,rfl⟩:=hc;cases h;obtain⟨r,ents,clock,h1,_,h2,h3⟩:=KF aq hv (.inr hb);exact⟨ents,.inr ⟨r,clock,h1,h2⟩,h3⟩
   cases h
  cases h
 cases h
theorem amv{m:Mem}(aq:Ok w0 m){x:V}{v:Value}{n:Nat}{r:List Nat}(h:zt m.aj x=some (n,r))(hv:bJ m x v):
  (v=.map none/\n=0)\/ ∃ref ents clock,v=.map (some ref)/\m.w.heap[ref]?=some (.map ents clock)/\ents.size=n:=by
 unfold zt at h;split at h
 .cases h;exact .inl ⟨abl hv,rfl⟩
 .cases h;obtain⟨hp⟩:cN m _ v:=hv;obtain⟨r,ents,clock,h1,h2,h3⟩:=acX hp;exact .inr ⟨r,ents,clock,h1,h2,h3.1⟩
 .rename_i id g;split at h
  .rename_i g' qm jZ hb;split at h
   .rename_i hc;subst hc;cases h;obtain⟨r,ents,clock,h1,_,h2,h3⟩:=KF aq hv (.inl hb);exact .inr ⟨r,ents,clock,h1,h2,h3.1⟩
   cases h
  .rename_i g' qm jZ hb;split at h
   .rename_i hc;subst hc;cases h;obtain⟨r,ents,clock,h1,_,h2,h3⟩:=KF aq hv (.inr hb);exact .inr ⟨r,ents,clock,h1,h2,h3.1⟩
   cases h
  cases h
 cases h
def BS(kind:TypeDesc)(kd:Nat):Prop:=(kd=0/\ ∃k,kind=.int k)\/(kd=1/\kind=.string)\/(kd=2/\kind=.bool)
theorem acf{t:TypeId}{kd:Nat}(h:keyOf P t=some kd):∃kind,P.underlying t=some kind/\BS kind kd:=by
 unfold keyOf at h;split at h
 .rename_i k hk;cases h;exact⟨_,hk,.inl ⟨rfl,_,rfl⟩⟩
 .rename_i hk;cases h;exact⟨_,hk,.inr (.inl ⟨rfl,rfl⟩)⟩
 .rename_i hk;cases h;exact⟨_,hk,.inr (.inr ⟨rfl,rfl⟩)⟩
 cases h
theorem Vt{w:World}{own:Nat->Prop}{k q:PV}{kv qv:Value}{kind:TypeDesc}{b:Bool}(hk:BS kind (iK k))(h:sameKey k q=some b)(h1:bX w own k kv)(h2:bX w own q qv):Instr.sameNow kind kv qv=some b:=by
 unfold sameKey at h;split at h
 .rename_i a b' c d;split at h
  .rename_i e;subst e;cases h;rcases hk with ⟨_,x,rfl⟩|⟨e,_⟩|⟨e,_⟩
   .cases h1;cases h2;simp[Instr.sameNow]
   .simp[iK] at e
   simp[iK] at e
  cases h
 .cases h;rcases hk with ⟨e,_⟩|⟨_,rfl⟩|⟨e,_⟩
  .simp[iK] at e
  .cases h1;cases h2;simp[Instr.sameNow]
  simp[iK] at e
 .cases h;rcases hk with ⟨e,_⟩|⟨e,_⟩|⟨_,rfl⟩
  .simp[iK] at e
  .simp[iK] at e
  cases h1;cases h2;simp[Instr.sameNow]
 cases h
theorem sameKey_eq{w:World}{own:Nat->Prop}{k q:PV}{kv qv:Value}(h:sameKey k q=some true)(h1:bX w own k kv)(h2:bX w own q qv):qv=kv:=by
 unfold sameKey at h;split at h
 .split at h
  .rename_i e;subst e;simp at h;subst h;cases h1;cases h2;rfl
  cases h
 .rename_i a b;have e:(a==b)=true:=by simpa using h
  rw[beq_toListBytes] at e;have e:a=b:=by
   have e:a.toList=b.toList:=by simpa using e
   rw[ByteArray.toList_eq,ByteArray.toList_eq] at e;exact ByteArray.ext (Array.toList_inj.1 e)
  subst e;cases h1;cases h2;rfl
 .simp at h;subst h;cases h1;cases h2;rfl
 cases h
theorem ZN{w:World}{own:Nat->Prop}{k:PV}{kv:Value}{kind:TypeDesc}(hk:BS kind (iK k))(h1:bX w own k kv):∀ {es:List (PV×List PV)} {l:List MapEntry} {i:Nat} {f:Option (Nat×List PV)},
  l.length=es.length->(∀(j:Nat) (q:PV) (v:List PV) (e:MapEntry),es[j]?=some (q,v)->l[j]?=some e->bX w own q e.key)->uP k es i=some f->
  (f=none/\Instr.findNow kind kv l i=some none)\/ ∃j q v e,f=some (i+j,v)/\es[j]?=some (q,v)/\l[j]?=some e/\sameKey k q=some true/\Instr.findNow kind kv l i=some (some (i+j,e.val)):=by
 intro es
 induction es with
 |nil=>
  intro l i f hl _ hf;simp[uP] at hf;cases l with
  |nil=>exact .inl ⟨hf.symm,rfl⟩
  |cons _ _=>simp at hl
 |cons p r ih=>
  intro l i f hl hq hf;obtain⟨a,v⟩:=p;cases l with
  |nil=>simp at hl
  |cons e l=>
   have mL:=hq 0 a v e rfl rfl;simp only[uP] at hf;split at hf
   .rename_i hs;cases hf;exact .inr ⟨0,a,v,e,rfl,rfl,rfl,hs,by simp[Instr.findNow,Vt hk hs h1 mL]⟩
   .rename_i hs;rcases ih (l:=l) (i:=i+1) (f:=f) (by simpa using hl) (fun j q v e a b=>hq (j+1) q v e (by simpa using a) (by simpa using b)) hf with ⟨e1,e2⟩|⟨j,q,v',e',e1,e2,e3,e4,e5⟩
    .exact .inl ⟨e1,by simp[Instr.findNow,Vt hk hs h1 mL,e2]⟩
    refine .inr ⟨j+1,q,v',e',by rw[e1];congr 2;omega,by simpa using e2,by simpa using e3,e4,?_⟩;simp only[Instr.findNow,Vt hk hs h1 mL,e5];congr 3;omega
   cases hf
theorem ahQ{t:TypeId}{kind:TypeDesc}{kd:Nat}{b:Bool}{v:Value}(w:World)(h:P.underlying t=some kind)(hk:BS kind kd)(n:Nat):(Instr.checkKey b (n+1) t v).run P w=.ok () w:=by rcases hk with ⟨_,k,rfl⟩|⟨_,rfl⟩|⟨_,rfl⟩<;>simp[Instr.checkKey,run_underlying h]
theorem Jm{t:TypeId}{kind:TypeDesc}{kd:Nat}{b:Bool}{v:Value}(w:World)(h:P.underlying t=some kind)(hk:BS kind kd):(Instr.checkKey b 10000 t v).run P w=.ok () w:=ahQ w h hk 9999
theorem apr{w:World}{own:Nat->Prop}{k:PV}{kv:Value}{kind:TypeDesc}(hk:BS kind (iK k))(h:bX w own k kv)(n:Nat):Instr.sameBits n kv kv=true:=by
 cases h<;>first
  |(simp[iK,BS] at hk;done)
  |(simp[Instr.sameBits];done)
  |(simp[Instr.sameBits,beq_toListBytes];done)
theorem al5{w0 w:World}{own:Nat->Prop}{k:PV}{kv:Value}{kind:TypeDesc}(hk:BS kind (iK k))(h:bX w0 own k kv):(Instr.keyThatStays kv kv).run P w=.ok kv w:=by rw[Instr.keyThatStays,apr hk h,aE rfl];rfl
theorem Na{t:TypeId}{kind:TypeDesc}{v:Value}{l:List MapEntry}{r:Option (Nat×Value)}(w:World)(h:P.underlying t=some kind)(hf:Instr.findNow kind v l 0=some r):(Instr.findKey t v l).run P w=.ok r w:=by simp[Instr.findKey,run_underlying h,hf]
theorem acT{m:Mem}{v:List PV}{x:V}{val:Value}{g:Array Value}(h:mapVal ag v=some x)(h1:ag=true->val=.agg g)(h2:ag=false-> #[val]=g)(hp:cV m.w m.own v g.toList):bJ m x val/\mA m x val:=by
 cases ag with
 |true=>simp only[mapVal,fe] at h;subst h;exact⟨bJ.agg.2 ⟨g,h1 rfl,hp.By⟩,⟨g,h1 rfl,hp.By⟩⟩
 |false=>
  have h2:=h2 rfl;subst h2;cases v with
  |nil=>simp[mapVal] at h
  |cons c r=>
   cases r with
   |nil=>simp only[mapVal,fe] at h;subst h;have:=hp.2 0 c val rfl rfl;exact⟨kO this,cN.p this⟩
   |cons _ _=>simp[mapVal] at h
section
variable {m:Mem} {ak:Env} {a:Act} {o:Oper} (aq:Ok w0 m) (hr:im m ak a.tmps)
include aq
theorem ap1{t kt e:TypeId}{s:Nat}(ho:o.op=.makeMap t none):
  ff P w0 a.eval o m (.one (.jP s ((m.aj s).1+1))) [(s,((m.aj s).1+1,some (.map ag [])))]:=by
 refine⟨.map (some m.w.heap.size),m.fresh (.map #[] 0) s 0 (.map ag []),.inl ?_,Z1 aq _ s 0 _ ⟨#[],0,Z0 _ s 0 _,rfl,fun i q v e h=>by simp at h⟩,Ng _ s 0 _,Te aq _ s 0 _,Td _ _ s 0 _,bJ.one.2 (.jP _ ?_ fun _ _=>?_)⟩
 .simp[execOp,ho,Instr.makeMap];rfl
 .simp[Mem.fresh,Mem.install,Mem.later,aS]
 simp[Mem.fresh,Mem.install,aS]
include hr
theorem ap3{c:Call}{x:Operand}{x':aQ}{t k e:TypeId}{n:Nat}{r:List Nat}(ho:o.op=.call c)(hc:c.callee=.builtin .len)(has:c.args= #[x])(jz:c.argTypes[0]?=some t)(ht:P.underlying t=some (.map k e))
  (hx:cF x=some x') (hv:zt m.aj (ev ak x')=some (n,r)):ff P w0 a.eval o m (.one (.p (.int .i64 n))) []:=by
 refine .calm aq ?_ (kO (.int _ _));have h0:(#[a.eval x]:Array Value)[0]?=some (a.eval x):=rfl;rcases amv aq hv (dQ hx hr) with ⟨h1,rfl⟩|⟨ref,ents,clock,h1,h2,rfl⟩
 .simp[execOp,ho,resolve,hc,has,jz,invoke,builtin,Builtin.len_,run_underlying ht,h1,goInt]
 simp[execOp,ho,resolve,hc,has,jz,invoke,builtin,Builtin.len_,run_underlying ht,h1,goInt,JS h2]
theorem apX{t kt e:TypeId}{x k:Operand}{x' k':aQ}{ok:Bool}{z:List PV}{q:Option Nat}{kd:Nat}{es:List (PV×List PV)}{r:List Nat}{key:PV}{f:Option (Nat×List PV)}{w:V}(ho:o.op=.lookup t x k ok)(ht:P.underlying t=some (.map kt e))
  (hz:yC P e=some z) (y7:keyOf P kt=some kd) (vT:Pk P e=q.isSome) (hx:cF x=some x') (hk:cF k=some k') (hm:mapOf m.aj q.isSome (ev ak x')=some (es,r)) (hke:ev ak k'=.one (.p key)) (tV:iK key=kd)
  (hf:uP key es 0=some f) (hw:mapVal q.isSome ((f.map (·.2)).getD z)=some w):ff P w0 a.eval o m (if ok then .tup [w,.one (.p (.bool f.isSome))] else w) []:=by
 obtain⟨kind,xY,Ba⟩:=acf y7;obtain⟨ents,Nr,hl,dO⟩:=amT aq hm (dQ hx hr);have KC:=dQ hk hr;rw[hke] at KC;obtain⟨cT⟩:cN m _ _:=KC;have mf:(∃ref clock,a.eval x=.map (some ref)/\m.w.heap[ref]?=some (.map ents clock))\/a.eval x=.map none/\ents= #[]:=by
  rcases Nr with h|h
  .exact .inr h
  exact .inl h
 have key:∀(val:Value) (b:Bool),bJ m w val->mA m w val->f.isSome=b->(Instr.lookup t (a.eval x) (a.eval k) ok).run P m.w=.ok (if ok then .tuple #[val,.bool b] else val) m.w->ff P w0 a.eval o m (if ok then .tup [w,.one (.p (.bool f.isSome))] else w) []:=by
  intro val b h1 jK h2 h3;refine .calm aq (x:=if ok then .tuple #[val,.bool b] else val) ?_ ?_
  .simp[execOp,ho,h3]
  cases ok
  .exact h1
  refine⟨_,rfl,rfl,fun j y u p q=>?_⟩;rcases j with _|_|j
  .simp at p q;subst p q;exact jK
  .simp at p q;subst p q;rw[h2];exact cN.p (.bool _)
  simp at p
 rcases ZN (kind:=kind) (by rw[tV];exact Ba) cT (l:=ents.toList) (by simpa using hl) (fun j q v e h1 h2=>(dO j q v e h1 (by simpa using h2)).1) hf with ⟨rfl,hn⟩|⟨j,q',v,e',rfl,h2,h3,_,hn⟩
 .obtain⟨zv,i,hi,u6,Hs,kN,dj⟩:=L2 hz;obtain⟨v1,v2⟩:=acT (m:=m) (val:=zv) (g:=zv.cells) hw (fun hq=>by
    rw[hq] at vT;unfold Pk at vT;rw[hi] at vT;simp only[u6] at vT;cases zv<;>simp[Value.cells] at vT ⊢) (fun hq=>by
    rw[hq] at vT;unfold Pk at vT;rw[hi] at vT;simp only[u6] at vT;cases zv<;>simp[Value.cells] at vT ⊢) (dj m.w m.own)
  refine key zv false v1 v2 rfl ?_;have Cu:=Na (P:=P) m.w xY hn;rcases mf with ⟨ref,clock,h1,h2⟩|⟨h1,h2⟩
  .cases ok<;>simp[Instr.lookup,run_underlying ht,h1,JS h2,Jm m.w xY Ba,Cu,zeroValue,typeInfo,hi,u6]
  subst h2;cases ok<;>simp[Instr.lookup,run_underlying ht,h1,Jm m.w xY Ba,Instr.findKey,run_underlying xY,Instr.findNow,zeroValue,typeInfo,hi,u6]
 obtain⟨hqk,g,A6,A7,dj⟩:=dO j q' v e' h2 (by simpa using h3);obtain⟨v1,v2⟩:=acT hw A6 A7 dj;refine key e'.val true v1 v2 rfl ?_;have Cu:=Na (P:=P) m.w xY hn;rcases mf with ⟨ref,clock,h1,h2⟩|⟨h1,h2⟩
 .cases ok<;>simp[Instr.lookup,run_underlying ht,h1,JS h2,Jm m.w xY Ba,Cu]
 subst h2;simp at h3
theorem aez{t kt e:TypeId}{x k y:Operand}{x' k' y':aQ}{kd:Nat}{ag:Bool}{id g:Nat}{es:List (PV×List PV)}{key:PV}{cs:List C}{ps:List PV}{f:Option (Nat×List PV)}(ho:o.op=.mapUpdate t x k y\/o.op=.insert t x k y)(ht:P.underlying t=some (.map kt e))
  (y7:keyOf P kt=some kd) (hx:cF x=some x') (hk:cF k=some k') (hy:cF y=some y') (hm:ev ak x'=.one (.jP id g)) (hb:m.aj id=(g,some (.map ag es))) (hke:ev ak k'=.one (.p key)) (tV:iK key=kd)
  (cX:Ap ag (ev ak y')=some cs) (dj:zP cs=some ps) (hf:uP key es 0=some f):
  ff P w0 a.eval o m .undef [(id,(g,some (.map ag (match f with|some (i,_)=>es.set i (key,ps)|none=>es++[(key,ps)]))))]:=by
 obtain⟨kind,xY,Ba⟩:=acf y7;have hxr:=dQ hx hr;rw[hm] at hxr;have hid:=congrArg Prod.snd hb;have hg:=congrArg Prod.fst hb;obtain⟨ref,ents,clock,vf,ba,hh,hl,dO⟩:=KF aq hxr (.inl hb);subst ba;have KC:=dQ hk hr;rw[hke] at KC;obtain⟨cT⟩:cN m _ _:=KC;have hyr:=dQ hy hr
 -- the value's cells
 have hval:∃gv:Array Value,(ag=true->a.eval y=.agg gv)/\(ag=false-> #[a.eval y]=gv)/\cV m.w m.own ps gv.toList:=by
  generalize ev ak y'=vy at cX hyr;cases ag with
  |true=>
   cases vy<;>simp[Ap] at cX
   subst cX;obtain⟨arr,h1,h2⟩:=bJ.agg.1 hyr;exact⟨arr,fun _=>h1,fun h=>(by cases h),LU dj h2⟩
  |false=>
   cases vy<;>simp[Ap] at cX
   subst cX;refine⟨#[a.eval y],fun h=>(by cases h),fun _=>rfl,LU dj ⟨rfl,fun j x u p q=>?_⟩⟩;rcases j with _|j
   .simp at p q;subst p q;exact hyr
   simp at p
 obtain⟨gv,wC,oG,hvp⟩:=hval;have au:=tR hh;have ace:∀(Az:Array MapEntry) (B6:Nat) (jZ:List (PV×List PV)),(execOp a.eval o).run P m.w=.ok .skip {m.w with heap:=m.w.heap.setIfInBounds (m.σ id) (.map Az B6)}->Mk m.w m.own ag jZ Az->
   ff P w0 a.eval o m .undef [(id,(g,some (.map ag jZ)))]:=by
  intro Az B6 jZ iW Nr;have hs:(m.w.heap.setIfInBounds (m.σ id) (.map Az B6)).size=m.w.heap.size:=af;have hko:∀c,c≠m.σ id->(m.w.heap.setIfInBounds (m.σ id) (.map Az B6))[c]?=m.w.heap[c]? :=fun c hc=>by rw[Po];rw[aD (fun e=>hc e.symm)]
  have dA:Ev m (m.js {m.w with heap:=m.w.heap.setIfInBounds (m.σ id) (.map Az B6)} id (.map ag jZ)):=LG hid rfl rfl rfl rfl rfl hs hko;refine⟨_,m.js {m.w with heap:=m.w.heap.setIfInBounds (m.σ id) (.map Az B6)} id (.map ag jZ),.inr ⟨iW,rfl⟩,OP hid rfl aq rfl rfl rfl rfl hs hko ?_,dA,rfl,?_,rfl⟩
  .refine⟨Az,B6,?_,Nr.1,fun i q v e h1 h2=>?_⟩
   .show(m.w.heap.setIfInBounds (m.σ id) (.map Az B6))[m.σ id]?=_;rw[Po,aE rfl,aE au]
   obtain⟨p1,gg,p2,p3,p4⟩:=Nr.2 i q v e h1 h2;exact⟨p1.ev dA.zero,gg,p2,p3,p4.ev dA.zero⟩
  simp only[Mem.js,app,hg]
 rcases ZN (kind:=kind) (by rw[tV];exact Ba) cT (l:=ents.toList) (by simpa using hl) (fun j q v e h1 h2=>(dO j q v e h1 (by simpa using h2)).1) hf with ⟨rfl,hn⟩|⟨j,q',v,e',rfl,h2,h3,h4,hn⟩
 .refine ace (ents.push {key:=a.eval k,val:=a.eval y,born:=clock}) (clock+1) _ ?_ ?_
  .have Cu:=Na (P:=P) m.w xY hn;rcases ho with ho|ho<;>simp[execOp,ho,Instr.mapUpdate,run_underlying ht,vf,JS hh,Jm m.w xY Ba,Cu,aeu hh]
  refine⟨by simp[hl],fun i q v e h1 h2=>?_⟩;by_cases hi:i<es.length
  .rw[uz hi] at h1;rw[Pn,aD aa] at h2;exact dO i q v e h1 h2
  rw[vz aa] at h1;have:i=es.length:=by
   by_cases h:i-es.length=0
   .omega
   have:=(aY.1 h1).1;simp at this;omega
  subst this;simp at h1;obtain⟨rfl,rfl⟩:=h1;rw[Pn,aE hl.symm] at h2;cases h2;exact⟨cT,gv,wC,oG,hvp⟩
 have qV:ents[j]?=some e':=by simpa using h3
 have hqe:e'.key=a.eval k:=sameKey_eq h4 cT (dO j q' v e' h2 qV).1;refine ace (ents.modify j fun e=>{e with key:=a.eval k,val:=a.eval y}) clock _ ?_ ?_
 .have Cu:=Na (P:=P) m.w xY hn;rw[jt] at Cu;have hks:(Instr.keyThatStays e'.key (a.eval k)).run P m.w=.ok (a.eval k) m.w:=by rw[hqe];exact al5 (kind:=kind) (by rw[tV];exact Ba) cT
  rcases ho with ho|ho<;>simp[execOp,ho,Instr.mapUpdate,run_underlying ht,vf,JS hh,Jm m.w xY Ba,Cu,aeu hh,qV,hks]
 simp only[jt];refine⟨by simp[hl],fun i q v e h1 h2=>?_⟩;rw[nW] at h1;rw[Array.getElem?_modify] at h2;by_cases eT:j=i
 .subst eT;rw[aE rfl] at h1;split at h1
  .cases h1;simp[qV] at h2;subst h2;exact⟨cT,gv,wC,oG,hvp⟩
  cases h1
 rw[aD eT] at h1;rw[aD eT] at h2;exact dO i q v e h1 h2
end
end
end Go.Abs
namespace Go.Abs
variable {P:Program} {w0:World}
theorem aep{t:TypeId}{b:Bool}(h:OO P t=some b):(b=true/\ ∃k,P.underlying t=some (.int k))\/(b=false/\P.underlying t=some .bool):=by
 unfold OO at h;split at h
 .rename_i k hk;cases h;exact .inl ⟨rfl,_,hk⟩
 .rename_i hk;cases h;exact .inr ⟨rfl,hk⟩
 cases h
theorem aiQ{a b:PV}{r:Bool}(h:rQ true a b=some r):∃k x y,a=.int k x/\b=.int k y/\r=(x==y):=by
 cases a<;>cases b<;>simp[rQ] at h
 exact⟨_,_,_,rfl,by rw[h.1],h.2.symm⟩
theorem aiP{a b:PV}{r:Bool}(h:rQ false a b=some r):∃x y,a=.bool x/\b=.bool y/\r=(x==y):=by
 cases a<;>cases b<;>simp[rQ] at h
 exact⟨_,_,rfl,rfl,h.symm⟩
theorem aiS{as bs:List C}{r:Bool}(h:sQ [] as bs=some r):r=true:=by
 cases as<;>cases bs<;>simp[sQ] at h
 exact h
theorem aiR{k:Bool}{ks:List Bool}{as bs:List C}{r:Bool}(h:sQ (k::ks) as bs=some r):
  ∃a ar b br r0,as=.p a::ar/\bs=.p b::br/\rQ k a b=some r0/\(r0=true->sQ ks ar br=some r)/\(r0=false->r=false):=by
 cases as with
 |nil=>simp[sQ] at h
 |cons x ar=>
  cases bs with
  |nil=>cases x<;>simp[sQ] at h
  |cons y br=>
   cases x<;>cases y<;>simp only[sQ] at h<;>try cases h
   rename_i a b;cases he:rQ k a b with
   |none=>simp[he] at h
   |some r0=>
    refine⟨a,ar,b,br,r0,rfl,rfl,he,fun e=>?_,fun e=>?_⟩
    .subst e;simpa [he] using h
    subst e;simp[he] at h;exact h
theorem aiT{w:World}{m:Mem}(d:Nat){A B:Array Value}:∀ {fs:List Field} {ks:List Bool} {k:Nat} {as bs:List C} {r:Bool},Ic P k fs=some ks->sQ ks as bs=some r->
  (∀(j:Nat) (x:C),as[j]?=some x->∃v,A[k+j]?=some v/\cN m x v)->(∀(j:Nat) (x:C),bs[j]?=some x->∃v,B[k+j]?=some v/\cN m x v)->
  (Op.eqFields (d+1) A B fs).run P w=.ok r w:=by
 intro fs
 induction fs with
 |nil=>intro ks k as bs r hf he _ _;simp[Ic] at hf;subst hf;rw[aiS he];simp[Op.eqFields,Sem.run_pure]
 |cons f fs ih=>
  intro ks k as bs r hf he ha hb;simp only[Ic] at hf;split at hf
  .rename_i b Ao h1 h2;split at hf
   .rename_i hc;obtain⟨TU,akU⟩:=hc;cases hf;obtain⟨x,ar,y,br,r0,rfl,rfl,h0,ht,hf⟩:=aiR he;obtain⟨va,hva,uc⟩:=ha 0 (.p x) rfl;obtain⟨vb,hvb,pQ⟩:=hb 0 (.p y) rfl;obtain⟨uc⟩:=uc;obtain⟨pQ⟩:=pQ;rw[vD] at hva hvb;have KN:∀(X:Array Value) (v:Value),X[k]?=some v->(part f.type X f.offset).run P w=.ok v w:=by
     intro X v hX;have vT:(isAgg f.type).run P w=.ok false w:=by rcases aep h1 with ⟨_,kk,hu⟩|⟨_,hu⟩<;>simp[isAgg,run_underlying hu]
     rw[TU];simp[part,vT,hX]
    have akB:(Op.equalIn (d+1) f.type va vb).run P w=.ok r0 w:=by
     rcases aep h1 with ⟨rfl,kk,hu⟩|⟨rfl,hu⟩
     .obtain⟨k',p,q,rfl,rfl,rfl⟩:=aiQ h0;cases uc;cases pQ;simp[Op.equalIn,run_underlying hu]
     obtain⟨p,q,rfl,rfl,rfl⟩:=aiP h0;cases uc;cases pQ;simp[Op.equalIn,run_underlying hu]
    simp only[Op.eqFields,aE akU,Sem.run_bind,KN A va hva,KN B vb hvb,akB,Result.andThen_ok];cases r0 with
    |false=>rw[hf rfl];simp[Sem.run_pure]
    |true=>simp only[zV,eH,if_false];exact ih h2 (ht rfl) (fun j x hx=>by have:=ha (j+1) x (by simpa using hx);rwa[show k+(j+1)=k+1+j by omega] at this) (fun j x hx=>by have:=hb (j+1) x (by simpa using hx);rwa[show k+(j+1)=k+1+j by omega] at this)
   cases hf
  cases hf
def Ac:tA->Value->Bool->Prop
 | .ptr,v,b=>∃a,v=.pointer a/\a.isNone=b
 | .slc,v,b=>∃a l c,v=.slice a l c/\a.isNone=b
 | .map,v,b=>∃r,v=.map r/\r.isNone=b
 | .fnc,v,b=>(v=.nilFunc/\b=true)\/ ∃f x y,v=.func f x y/\b=false
 | .ifc,v,b=>(v=.nilIface/\b=true)\/ ∃d x,v=.iface d x/\b=false
 |_,_,_=>False
theorem wH{m:Mem}{k:tA}{x:V}{v:Value}{b:Bool}(h:EN k x=some b)(hr:bJ m x v):Ac k v b:=by
 unfold EN at h;split at h<;>cases h
 all_goals first
  |(obtain⟨hp⟩:cN m _ v:=hr;cases hp;first
    |exact⟨_,rfl,rfl⟩
    |exact⟨_,_,_,rfl,rfl⟩
    |exact .inl ⟨rfl,rfl⟩
    |exact .inr ⟨_,_,_,rfl,rfl⟩
    |exact .inr ⟨_,_,rfl,rfl⟩)
  |(have hc:cN m _ v:=hr;cases hc;first
    |exact⟨_,rfl,rfl⟩
    |exact⟨_,_,_,rfl,rfl⟩
    |exact .inr ⟨_,_,_,rfl,rfl⟩)
def PJ(P:Program)(t:TypeId):tA->Prop
 | .bool=>P.underlying t=some .bool
 | .ptr=>∃e,P.underlying t=some (.pointer e)
 | .slc=>∃e,P.underlying t=some (.slice e)
 | .map=>∃a b,P.underlying t=some (.map a b)
 | .fnc=>∃a b c,P.underlying t=some (.func a b c)
 | .ifc=>∃a,P.underlying t=some (.interface a)
 | .str ks=>∃fs,P.underlying t=some (.struct fs)/\P.stoodInHeld t=false/\P.eqGuardType P.depth t=false/\Ic P 0 fs.toList=some ks
theorem Yt{t:TypeId}{x y:Operand}{k:tA}(h:JB P t x y=some k):PJ P t k/\(k=.ifc->HK x=true\/HK y=true):=by
 unfold JB at h;split at h
 .rename_i a ha;split at h
  .rename_i hc;cases h;exact⟨⟨_,ha⟩,fun _=>by simpa using hc⟩
  cases h
 .rename_i ha;cases h;exact⟨ha,fun e=>by cases e⟩
 .rename_i ha;cases h;exact⟨⟨_,ha⟩,fun e=>by cases e⟩
 .rename_i ha;cases h;exact⟨⟨_,ha⟩,fun e=>by cases e⟩
 .rename_i ha;cases h;exact⟨⟨_,_,ha⟩,fun e=>by cases e⟩
 .rename_i ha;cases h;exact⟨⟨_,_,_,ha⟩,fun e=>by cases e⟩
 .rename_i fs ha;split at h
  .rename_i hc;simp only[dq] at h;obtain⟨ks,h1,rfl⟩:=h;simp at hc;exact⟨⟨fs,ha,hc.1,hc.2,h1⟩,fun e=>by cases e⟩
  cases h
 cases h
theorem Yu{t:TypeId}{k:tA}{v u:Value}{a b:Bool}(w:World)(hk:PJ P t k)(h1:Ac k v a)(h2:Ac k u b)(ef:a=true\/b=true)(d:Nat):(Op.equalIn (d+1) t v u).run P w=.ok (a&&b) w:=by
 cases k with
 |bool=>exact h1.elim
 |str n=>exact h1.elim
 |ptr=>obtain⟨e,hu⟩:=hk;obtain⟨x,rfl,rfl⟩:=h1;obtain⟨y,rfl,rfl⟩:=h2;cases x<;>cases y<;>simp at ef<;>simp[Op.equalIn,run_underlying hu]
 |slc=>obtain⟨e,hu⟩:=hk;obtain⟨x,_,_,rfl,rfl⟩:=h1;obtain⟨y,_,_,rfl,rfl⟩:=h2;cases x<;>cases y<;>simp at ef<;>simp[Op.equalIn,run_underlying hu]
 |map=>obtain⟨e,e',hu⟩:=hk;obtain⟨x,rfl,rfl⟩:=h1;obtain⟨y,rfl,rfl⟩:=h2;cases x<;>cases y<;>simp at ef<;>simp[Op.equalIn,run_underlying hu]
 |fnc=>obtain⟨e,e',e'',hu⟩:=hk;rcases h1 with ⟨rfl,rfl⟩|⟨_,_,_,rfl,rfl⟩<;>rcases h2 with ⟨rfl,rfl⟩|⟨_,_,_,rfl,rfl⟩<;>simp at ef<;>simp[Op.equalIn,run_underlying hu]
 |ifc=>obtain⟨e,hu⟩:=hk;rcases h1 with ⟨rfl,rfl⟩|⟨_,_,rfl,rfl⟩<;>rcases h2 with ⟨rfl,rfl⟩|⟨_,_,rfl,rfl⟩<;>simp at ef<;>simp[Op.equalIn,run_underlying hu]
section
variable {m:Mem} {ak:Env} {a:Act} {o:Oper} (aq:Ok w0 m) (hr:im m ak a.tmps)
include aq hr
theorem aiX{t:TypeId}{k:tA}{x y:V}{v u:Value}{b:Bool}(hk:PJ P t k)(h:AL k x y=some b)(hx:bJ m x v)(hy:bJ m y u)(d:Nat):(Op.equalIn (d+2) t v u).run P m.w=.ok b m.w:=by
 have _u0:=aq;have _u1:=hr;unfold AL at h;split at h
 .cases h;rw[CW hx,CW hy];have hk:P.underlying t=some .bool:=hk;simp only[Op.equalIn,Sem.run_bind,run_underlying hk,Result.andThen_ok,Sem.run_pure]
 .obtain⟨A,rfl,hA⟩:=bJ.agg.1 hx;obtain⟨B,rfl,hB⟩:=bJ.agg.1 hy;obtain⟨fs,hu,hs,_,hf⟩:=hk;have xT:P.fieldsOf t=fs:=by simp[Program.fieldsOf,hu]
  rw[run_equalIn_agg m.w (d+1) t A B (by rw[xT];exact hu) hs,xT];refine aiT (w:=m.w) (m:=m) d hf h (fun j x hx=>?_) (fun j x hx=>?_)
  .have au:j<A.size:=by have:=hA.1;simp at this;rw[this];exact(aY.1 hx).1
   exact⟨A[j],by simp[au],hA.2 j x _ hx (by simp[au])⟩
  have au:j<B.size:=by have:=hB.1;simp at this;rw[this];exact(aY.1 hx).1
  exact⟨B[j],by simp[au],hB.2 j x _ hx (by simp[au])⟩
 .cases h
 .cases h
 split at h
 .rename_i hb;have:=Yu (P:=P) m.w hk (wH h hx) (wH hb hy) (.inr rfl) (d+1)
  simpa using this
 split at h
 .rename_i ha;have:=Yu (P:=P) m.w hk (wH ha hx) (wH h hy) (.inl rfl) (d+1)
  simpa using this
 cases h
theorem aiU{op:BinOp}{t:TypeId}{k:tA}{x y:Operand}{x' y':aQ}{b:Bool}(hk:JB P t x y=some k)(hx:cF x=some x')(hy:cF y=some y')(h:AL k (ev ak x') (ev ak y')=some b):
  (eqGuard op t x y (a.eval x) (a.eval y)).run P m.w=.ok () m.w:=by
 have _u0:=aq;obtain⟨cH,nz⟩:=Yt hk;have h1:=dQ hx hr;have h2:=dQ hy hr;by_cases hop:op=.eql\/op=.neq
 .unfold AL at h;split at h
  .rename_i e1 e2;rw[e1] at h1;rw[CW h1,eqGuard_at_bool];rfl
  .rename_i e1 e2;rw[e1] at h1;rw[e2] at h2;obtain⟨A,e3,_⟩:=bJ.agg.1 h1;obtain⟨B,e4,_⟩:=bJ.agg.1 h2;obtain⟨fs,_,_,hg,_⟩:=cH;rw[e3,e4];exact run_eqGuard_agg m.w op t x y A B hg
  .cases h
  .cases h
  rename_i k q1 q2 q3 q4 q5 q6 q7;have hn:∃b1 b2,Ac k (a.eval x) b1/\Ac k (a.eval y) b2:=by
   split at h
   .rename_i hb;exact⟨_,_,wH h h1,wH hb h2⟩
   split at h
   .rename_i ha;exact⟨_,_,wH ha h1,wH h h2⟩
   cases h
  obtain⟨b1,b2,n1,n2⟩:=hn;cases k with
  |bool=>exact n1.elim
  |str n=>exact n1.elim
  |ptr=>obtain⟨q,e,_⟩:=n1;rw[e,eqGuard_at_pointer];rfl
  |slc=>obtain⟨q,_,_,e,_⟩:=n1;rw[e,eqGuard_at_slice];rfl
  |map=>obtain⟨q,e,_⟩:=n1;rw[e,eqGuard_at_map];rfl
  |fnc=>
   rcases n1 with ⟨e,_⟩|⟨_,_,_,e,_⟩
   .rw[e,eqGuard_at_nilFunc];rfl
   rw[e,eqGuard_at_func];rfl
  |ifc=>
   rcases n1 with ⟨e,_⟩|⟨_,_,e,_⟩
   .rcases n2 with ⟨e',_⟩|⟨_,_,e',_⟩
    .rw[e,e'];have hc:(∃c,x=.const c)\/ ∃c,y=.const c:=by
      rcases nz rfl with hc|hc
      .cases x<;>simp[HK] at hc
       exact .inl ⟨_,rfl⟩
      cases y<;>simp[HK] at hc
      exact .inr ⟨_,rfl⟩
     rcases hc with ⟨c,rfl⟩|⟨c,rfl⟩
     .rw[eqGuard_nil_constL];rfl
     rw[eqGuard_nil_constR];rfl
    rw[e,e',eqGuard_nil_iface];rfl
   rw[e,eqGuard_at_iface];rfl
 have:eqGuard op t x y (a.eval x) (a.eval y)=pure ():=by
  cases op<;>first
   |rfl
   |exact(hop (.inl rfl)).elim
   |exact(hop (.inr rfl)).elim
 rw[this];rfl
theorem ahq{t:TypeId}{k:tA}{v u:Value}{b1:Bool}(hs:(∃p q,v=.bool p/\u=.bool q)\/(∃p q,v=.agg p/\u=.agg q)\/ ∃p q,Ac k v p/\Ac k u q)(h:(Op.equalIn (9998+2) t v u).run P m.w=.ok b1 m.w):
  (binOp .eql t v u).run P m.w=.ok (.bool b1) m.w/\(binOp .neq t v u).run P m.w=.ok (.bool (!b1)) m.w:=by
 have _u0:=aq;have _u1:=hr;have he:Op.equal t v u=Op.equalIn (9998+2) t v u:=rfl;have key:binOp .eql t v u=(do pure (.bool (<- Op.equal t v u)))/\binOp .neq t v u=(do pure (.bool (!(<- Op.equal t v u)))):=by
  rcases hs with ⟨p,q,rfl,rfl⟩|⟨p,q,rfl,rfl⟩|⟨p,q,h1,h2⟩
  .exact⟨rfl,rfl⟩
  .exact⟨rfl,rfl⟩
  cases k with
  |bool=>exact h1.elim
  |str n=>exact h1.elim
  |ptr=>obtain⟨_,rfl,_⟩:=h1;obtain⟨_,rfl,_⟩:=h2;exact⟨rfl,rfl⟩
  |slc=>obtain⟨_,_,_,rfl,_⟩:=h1;obtain⟨_,_,_,rfl,_⟩:=h2;exact⟨rfl,rfl⟩
  |map=>obtain⟨_,rfl,_⟩:=h1;obtain⟨_,rfl,_⟩:=h2;exact⟨rfl,rfl⟩
  |fnc=>rcases h1 with ⟨rfl,_⟩|⟨_,_,_,rfl,_⟩<;>rcases h2 with ⟨rfl,_⟩|⟨_,_,_,rfl,_⟩<;>exact⟨rfl,rfl⟩
  |ifc=>rcases h1 with ⟨rfl,_⟩|⟨_,_,rfl,_⟩<;>rcases h2 with ⟨rfl,_⟩|⟨_,_,rfl,_⟩<;>exact⟨rfl,rfl⟩
 rw[key.1,key.2,he];simp only[Sem.run_bind,h,Result.andThen_ok,Sem.run_pure,and_self]
theorem aex{op:BinOp}{t ty:TypeId}{x y:Operand}{x' y':aQ}{k:tA}{neg b:Bool}(ho:o.op=.binOp op t x y ty)(hop:(op=.eql/\neg=false)\/(op=.neq/\neg=true))(hk:JB P t x y=some k)(hx:cF x=some x')(hy:cF y=some y')
  (hv:AL k (ev ak x') (ev ak y')=some b):ff P w0 a.eval o m (.one (.p (.bool (if neg then !b else b)))) []:=by
 have h1:=dQ hx hr;have h2:=dQ hy hr;have hg:=aiU aq hr (op:=op) hk hx hy hv;have he:=aiX aq hr (Yt hk).1 hv h1 h2 9998;have hs:(∃p q,a.eval x=.bool p/\a.eval y=.bool q)\/(∃p q,a.eval x=.agg p/\a.eval y=.agg q)\/ ∃p q,Ac k (a.eval x) p/\Ac k (a.eval y) q:=by
  unfold AL at hv;split at hv
  .rename_i e1 e2;rw[e1] at h1;rw[e2] at h2;exact .inl ⟨_,_,CW h1,CW h2⟩
  .rename_i e1 e2;rw[e1] at h1;rw[e2] at h2;obtain⟨A,e3,_⟩:=bJ.agg.1 h1;obtain⟨B,e4,_⟩:=bJ.agg.1 h2;exact .inr (.inl ⟨A,B,e3,e4⟩)
  .cases hv
  .cases hv
  split at hv
  .rename_i hb;exact .inr (.inr ⟨_,_,wH hv h1,wH hb h2⟩)
  split at hv
  .rename_i ha;exact .inr (.inr ⟨_,_,wH ha h1,wH hv h2⟩)
  cases hv
 obtain⟨r1,r2⟩:=ahq aq hr hs he;rcases hop with ⟨rfl,rfl⟩|⟨rfl,rfl⟩
 .exact .calm aq (by simp[execOp,ho,hg,r1]) (kO (.bool _))
 exact .calm aq (by simp[execOp,ho,hg,r2]) (kO (.bool _))
end
end Go.Abs
namespace Go.Abs
variable {P:Program} {w0:World}
theorem ahv:∀ {es:List (List PV)} {bs:List UInt8},bytesOf es=some bs->∃ns:List Int,es.flatten=ns.map (PV.int .u8)/\bs=ns.map (fun n=>UInt8.ofNat n.toNat)/\ns.length=es.length:=by
 intro es
 induction es with
 |nil=>intro bs h;simp[bytesOf] at h;exact⟨[],rfl,h,rfl⟩
 |cons e r ih=>
  intro bs h;unfold bytesOf at h;split at h
  .rename_i e';cases e'
  .rename_i n r' e';cases e';simp only[dq] at h;obtain⟨q,hq,rfl⟩:=h;obtain⟨ns,h1,h2,h3⟩:=ih hq;exact⟨n::ns,by simp[h1],by simp[h2],by simp[h3]⟩
  cases h
theorem aoK{w:World}{own:Nat->Prop}:∀ {ns:List Int} {vs:List Value},Pw (bX w own) (ns.map (PV.int .u8)) vs->vs=ns.map (Value.int .u8):=by
 intro ns
 induction ns with
 |nil=>intro vs h;have:=h.1;simp at this;simp[this]
 |cons n ns ih=>
  intro vs h;cases vs with
  |nil=>have:=h.1;simp at this
  |cons v vs=>have h0:=h.2 0 _ v rfl rfl;cases h0;rw[ih (vs:=vs) ⟨by have:=h.1;simpa using this,fun j x u a b=>h.2 (j+1) x u (by simpa using a) (by simpa using b)⟩];rfl
theorem aoF:∀(ns:List Int) (s:ByteArray),ns.foldl (fun r n=>r.push (UInt8.ofNat n.toNat)) s=⟨s.data++(ns.map (fun n=>UInt8.ofNat n.toNat)).toArray⟩:=by
 intro ns
 induction ns with
 |nil=>intro s;cases s;simp
 |cons n ns ih=>intro s;simp only[BH,eE];rw[ih];cases s;simp[ByteArray.push]
section
variable {m:Mem} {ak:Env} {a:Act} {o:Oper} (aq:Ok w0 m) (hr:im m ak a.tmps)
include aq hr
theorem apL{s d e:TypeId}{x:Operand}{x':aQ}{es:List (List PV)}{r:List Nat}{bs:List UInt8}(ho:o.op=.convert s d x)(hs:P.underlying s=some (.slice e))(he:P.underlying e=some (.int .u8))(hd:P.underlying d=some .string)
  (hx:cF x=some x') (di:eN m.aj (ev ak x')=some (es,r,[])) (hb:bytesOf es=some bs):ff P w0 a.eval o m (.one (.p (.str ⟨bs.toArray⟩))) []:=by
 obtain⟨ns,h1,h2,h3⟩:=ahv hb;obtain⟨ax,cx,vf,_,wy⟩:=Ym (own:=m.own) aq di (dQ hx hr) ⟨fun _ h=>h,fun _ h=>by simp at h⟩;refine .calm aq (x:=.string ⟨bs.toArray⟩) ?_ (kO (.str _));have key:(Conv.bytesToString (.slice ax es.length cx)).run P m.w=.ok (.string ⟨bs.toArray⟩) m.w:=by
  by_cases aM:es=[]
  .subst aM;have:ns=[]:=by simpa using h3
   subst this;have r4:bs=[]:=by simpa using h2
   subst r4;cases ax with
   |none=>simp[Conv.bytesToString,Sem.run_pure];rfl
   |some ad=>have:=run_bytesToString (P:=P) m.w ad 0 cx [] (by simp[loadCells,loadCellsFrom,Sem.run_pure]);exact this
  obtain⟨b,off,news,rfl,ji,vW⟩:=wy aM;rw[h1] at ji;have hn:=aoK ji;have hl:news.length=es.length:=by rw[hn];simpa using h3
  have akP:(loadCells ⟨b,off,none⟩ es.length).run P m.w=.ok (ns.map (Value.int .u8)).toArray m.w:=by rw[<- hl,<- hn];exact run_loadCells_list m.w ⟨b,off,none⟩ news fun j v hj=>by rw[Addr.add_lit];exact vW j v hj
  rw[run_bytesToString m.w _ _ cx ns akP,aoF,h2];simp[ByteArray.empty,ByteArray.emptyWithCapacity];rfl
 simp only[execOp,ho,vf,Sem.run_bind,run_convert_bytes_string m.w s d e ax es.length cx hs he hd,key,Result.andThen_ok,Sem.run_pure]
end
end Go.Abs
namespace Go.Abs
variable {P:Program} {w0:World}
theorem Qe{xs:Array Operand}{a:aQ}(h:nZ xs.toList=some [a]):∃x,xs= #[x]/\cF x=some a:=by
 obtain⟨xs⟩:=xs;cases xs with
 |nil=>simp[nZ] at h
 |cons x r=>
  simp only[nZ] at h;split at h
  .rename_i y ys e1 e2;cases h;cases r with
   |nil=>exact⟨x,rfl,e1⟩
   |cons z r=>simp only[nZ] at e2;split at e2<;>simp at e2
  cases h
theorem Qf{xs:Array Operand}{a b:aQ}(h:nZ xs.toList=some [a,b]):∃x y,xs= #[x,y]/\cF x=some a/\cF y=some b:=by
 obtain⟨xs⟩:=xs;cases xs with
 |nil=>simp[nZ] at h
 |cons x r=>
  simp only[nZ] at h;split at h
  .rename_i y ys e1 e2;cases h;obtain⟨z,hz,EL⟩:=Qe (xs:=r.toArray) (by simpa using e2);have:r=[z]:=by simpa using congrArg Array.toList hz
   subst this;exact⟨x,z,rfl,e1,EL⟩
  cases h
theorem arz{xs:Array TypeId}{t u:TypeId}(h1:xs[0]?=some t)(h2:xs[1]?=some u)(hs:xs.size=2):xs= #[t,u]:=by
 obtain⟨xs⟩:=xs
 match xs,hs with
 |[a,b],_=>simp at h1 h2;subst h1 h2;rfl
theorem ajJ{α:Type}{sz:Nat}{es ys:List (List α)}{off:Nat}(h:∀e∈es,e.length=sz)(hy:∀e∈ys,e.length=sz)(hl:off+ys.length<=es.length):(eh es off ys).flatten=eh es.flatten (off*sz) ys.flatten:=by
 have ht:∀k,k<=es.length->(es.take k).flatten.length=k*sz:=fun k hk=>by rw[Eb fun e he=>h e (vC he),iF,zZ hk]
 have e1:es.flatten=(es.take off).flatten++(es.drop off).flatten:=by rw[<- BG,tz]
 have e2:es.flatten=(es.take (off+ys.length)).flatten++(es.drop (off+ys.length)).flatten:=by rw[<- BG,tz]
 unfold eh;rw[BG,BG,Eb hy];congr 1
 .congr 1
  conv=>rhs;rw[e1]
  rw[List.take_left' (ht off aa)]
 rw[<- fA]
 conv=>rhs;rw[e2]
 rw[List.drop_left' (ht _ hl)]
theorem ar3{R:PV->Value->Prop}{z:List PV}{v:Array Value}{n:Nat}(hz:Pw R z v.toList):Pw R (List.replicate n z).flatten (Builtin.zeroCells v n).toList:=by
 have kN:z.length=v.size:=by have:=hz.1;simp at this;omega
 have dx:∀e∈List.replicate n z,e.length=v.size:=fun e he=>by rw[Pu he];exact kN
 have hlen:(Builtin.zeroCells v n).toList.length=n*v.size:=by simp[size_zeroCells]
 refine⟨by rw[hlen,Eb dx];simp,fun j x u p q=>?_⟩;have hj:j<n*v.size:=by have:=(aY.1 q).1;omega
 have iI:0<v.size:=by
  rcases Nat.eq_zero_or_pos v.size with h|h
  .rw[h] at hj;omega
  exact h
 have hdiv:j/v.size<n:=by rw[Nat.div_lt_iff_lt_mul iI];exact hj
 have Nz:j%v.size<v.size:=dK _ iI;have he:(List.replicate n z)[j/v.size]?=some z:=by simp[hdiv]
 have h1:=Ea dx he Nz;rw[show j/v.size*v.size+j%v.size=j by rw[PD];exact afU j v.size] at h1;rw[h1] at p;have h2:(Builtin.zeroCells v n).toList[j]?=some v[j%v.size]! :=by unfold Builtin.zeroCells;simp[hj]
 rw[h2] at q;cases q;refine hz.2 (j%v.size) x _ p ?_;simp[Nz]
section
variable {m:Mem} {ak:Env} {a:Act} {o:Oper} (aq:Ok w0 m) (hr:im m ak a.tmps)
include aq hr
theorem apP{c:Call}{x:Operand}{x':aQ}{t e:TypeId}{sz bytes:Nat}{z:List PV}{sh:Nat->Bool}{v:V}{u:List dY}{rd:List Nat}(ho:o.op=.call c)(hc:c.callee=.builtin .clear)(has:c.args= #[x])(jz:c.argTypes[0]?=some t)
  (he:yN P t=some (e,sz,bytes,z)) (hx:cF x=some x') (hp:bl sh ak m.aj (.clear z x')=.done v u rd):ff P w0 a.eval o m v u:=by
 obtain⟨i,zv,ht,hi,hs,hb,⟨iI,Ej⟩,u6,Hs,kN,dj⟩:=MJ he;have jU:=dQ hx hr;have run:∀(y:Value) (w':World),(Builtin.clear_ c.argTypes o.type #[a.eval x]).run P m.w=.ok y w'->(execOp a.eval o).run P m.w=.ok (.value y) w':=by intro y w' h;simp[execOp,ho,resolve,hc,has,invoke,builtin,h]
 have quiet:(Builtin.clear_ c.argTypes o.type #[a.eval x]).run P m.w=.ok (.tuple #[]) m.w->ff P w0 a.eval o m (.tup []) []:=fun h=>
  ⟨.tuple #[],m,.inl (run _ _ h),aq,Ev.refl _,rfl,rfl,(⟨#[],rfl,rfl,fun j x u h=>by simp at h⟩:bJ m (.tup []) _)⟩
 simp only[bl] at hp;split at hp
 .rename_i hv;cases hp;rw[hv] at jU;have jU:cN m _ (a.eval x):=jU;generalize sU:a.eval x=b at jU;rw[sU] at quiet;apply quiet;cases jU with
  |p h=>cases h;simp[Builtin.clear_,jz,run_underlying ht]
 .rename_i hv;cases hp;rw[hv] at jU;have jU:cN m _ (a.eval x):=jU;generalize sU:a.eval x=b at jU;rw[sU] at quiet;apply quiet;cases jU with
  |p h=>
   cases h with
   |wR a cap hn hm=>cases a<;>simp[Builtin.clear_,jz,run_underlying ht]
   |sl b o cap sz f h1 h2 h3 h4=>simp[Builtin.clear_,jz,run_underlying ht]
 .rename_i id g w off len hv;rw[hv] at jU;have jU:cN m _ (a.eval x):=jU;generalize sU:a.eval x=b at jU;rw[sU] at quiet run;cases jU with
  |hsl ad cap hg hl hm l9=>
   split at hp
   .rename_i h0;cases hp;subst h0;apply quiet;simp[Builtin.clear_,jz,run_underlying ht]
   rename_i h0;split at hp
   .rename_i g' ty bN es jM;split at hp
    .rename_i A1;obtain⟨gT,bU,hfit⟩:=A1;cases hp;have aZ:(m.aj id).2=some (.arr ty bN es):=by rw[jM]
     obtain⟨_,l9,_⟩:=l9 bN (by rw[jM];exact gT) (by rw[jM];rfl);have l9:=l9 (.inr aa);subst l9;obtain⟨cur,hh,nH,r7,mJ,sZ,aaJ,NF⟩:=aq.obj id _ aZ;have Hq:∀e∈List.replicate len z,e.length=bN:=fun e he=>by rw[Pu he];exact bU.symm
     have alq:zv.cells.size=bN:=by rw[Hs,<- kN,bU]
     have Hr:(List.replicate len z).length=len:=Wm;have tU:=ajJ (off:=off) r7 Hq (by rw[Hr];exact hfit);have ny:(off+len)*bN<=es.length*bN:=kD _ hfit;have aaR:es.length*bN<=m.κ id*bN:=kD _ mJ;rw[fA] at ny;generalize hZ:(Builtin.zeroCells zv.cells len).toList=Z;have hZl:Z.length=len*bN:=by rw[<- hZ];simp[size_zeroCells,alq]
     have hZp:∀w own,cV w own (List.replicate len z).flatten Z:=fun w own=>cV.pw.2 (by rw[<- hZ];exact ar3 (cV.pw.1 (dj w own)));have NC:∀v∈Z,v.oneCell'=true:=fun v hv=>by
      obtain⟨j,hj⟩:=gH hv;have au:j<(List.replicate len z).flatten.length:=by rw[<- (hZp m.w m.own).1];exact(aY.1 hj).1
      exact((hZp m.w m.own).2 j _ v (nU au) hj).Ln
     have yV:off*bN+0+Z.length<=cur.size:=by rw[hZl,aaJ];omega
     have cJ:=run_storeCells_at P (m.σ id) (off*bN) ty Z 0 cur m.w hh yV NC;simp only[vD] at cJ;generalize hW:m.w.setRow (m.σ id) (cur.toList.take (off*bN)++Z++cur.toList.drop (off*bN+Z.length)).toArray=W at cJ;have Co:W.heap.size=m.w.heap.size:=by rw[<- hW];simp
     have Cn:∀c,c≠m.σ id->W.heap[c]?=m.w.heap[c]? :=fun c hc=>by rw[<- hW];exact setRow_other m.w (m.σ id) c _ hc
     have aa8:(eh es off (List.replicate len z)).length=es.length:=O0 (by rw[Hr];exact hfit);have dA:=LG (w':=W) (o:=.arr ty bN (eh es off (List.replicate len z))) aZ rfl (by simp[jR]) (by rw[<- hW];rfl) (by rw[<- hW];rfl) (by rw[<- hW];rfl) Co Cn;have Bf:rJ (m.js W id (.arr ty bN (eh es off (List.replicate len z)))) id (.arr ty bN (eh es off (List.replicate len z))):=by
      refine⟨_,by rw[<- hW];exact LH hh,nH,?_,by rw[aa8];exact mJ,sZ,?_,?_⟩
      .intro e' En;unfold eh at En;simp only[fi] at En;rcases En with (h|h)|h
       .exact r7 e' (vC h)
       .exact Hq e' h
       exact r7 e' (uB h)
      .simp[Mem.js];omega
      rw[aa8,tU];have h1:=(cV.pw.1 (NF.ev dA.zero)).eh (cV.pw.1 (hZp (m.js W id (.arr ty bN (eh es off (List.replicate len z)))).w (m.js W id (.arr ty bN (eh es off (List.replicate len z)))).own)) (off*bN);rw[<- aeR aa (by simp;omega)] at h1;have h1:=cV.pw.2 h1
      simpa [eh] using h1
     refine⟨.tuple #[],m.js W id (.arr ty bN (eh es off (List.replicate len z))),.inl (run _ _ ?_),OP aZ rfl aq (by simp[jR]) (by rw[<- hW];rfl) (by rw[<- hW];rfl) (by rw[<- hW];rfl) Co Cn Bf,dA,rfl,?_,(⟨#[],rfl,rfl,fun j x u h=>by simp at h⟩:bJ _ (.tup []) _)⟩
     .obtain⟨k,rfl⟩:∃k,len=k+1:=⟨len-1,aa⟩;simp[Builtin.clear_,jz,run_underlying ht,zeroValue,typeInfo,hi,u6,hZ,cJ,Mem.js]
     simp[Mem.js,app,jM,gT]
    cases hp
   cases hp
 cases hp
end
section
variable {m:Mem} {ak:Env} {a:Act} {o:Oper} (aq:Ok w0 m) (hr:im m ak a.tmps)
include aq hr
theorem ac0{t kt e:TypeId}{x k y:Operand}{x' k' y':aQ}{kd:Nat}{ag:Bool}{sh:Nat->Bool}{v:V}{u:List dY}{rd:List Nat}(ho:o.op=.mapUpdate t x k y\/o.op=.insert t x k y)(ht:P.underlying t=some (.map kt e))
  (y7:keyOf P kt=some kd) (hx:cF x=some x') (hk:cF k=some k') (hy:cF y=some y') (hp:bl sh ak m.aj (.mupd kd ag x' k' y')=.done v u rd):ff P w0 a.eval o m v u:=by
 simp only[bl] at hp;split at hp
 .rename_i id g q cs e1 e2 e3;split at hp
  .rename_i g' qm es ps e4 e5;split at hp
   .rename_i pK;obtain⟨rfl,rfl,hq⟩:=pK;split at hp
    .rename_i i w hf;cases hp;exact aez aq hr ho ht y7 hx hk hy e1 e4 e2 hq e3 e5 hf
    .rename_i hf;cases hp;exact aez aq hr ho ht y7 hx hk hy e1 e4 e2 hq e3 e5 hf
    cases hp
   cases hp
  cases hp
 cases hp
theorem anm{site:Nat}{sh:Nat->Bool}{p:my}{v:V}{u:List dY}{rd:List Nat}(hc:DT P site o=some p)(hp:bl sh ak m.aj p=.done v u rd):ff P w0 a.eval o m v u:=by
 unfold DT at hc;split at hc
 · -- move
  rename_i x ho;simp only[dq] at hc;obtain⟨y,h1,rfl⟩:=hc;cases hp;exact aey aq hr (.inl ho) h1
 · -- assign
  rename_i x ho;simp only[dq] at hc;obtain⟨y,h1,rfl⟩:=hc;cases hp;exact aey aq hr (.inr ho) h1
 · -- pick
  rename_i c x y ho;split at hc
  .rename_i c' x' y' h1 h2 h3;cases hc;simp only[bl] at hp;split at hp
   .rename_i t ht;cases hp;exact ap7 aq hr ho h1 h2 h3 ht
   cases hp
  cases hc
 · -- alloc
  rename_i t ho;simp only[dq] at hc;obtain⟨z,h1,rfl⟩:=hc;cases hp;exact apG aq ho h1
 · -- box
  rename_i t x ho;simp only[dq] at hc;obtain⟨z,h1,rfl⟩:=hc;simp only[bl] at hp;split at hp
  .rename_i cs cX;cases hp;exact apJ aq hr ho h1 cX
  cases hp
 · -- build
  rename_i t ps ho;split at hc
  .rename_i fs z h1 h2;split at hc
   .rename_i dx;simp only[dq] at hc;obtain⟨qs,h3,rfl⟩:=hc;simp only[bl] at hp;split at hp
    .rename_i rs hrs;cases hp;exact apN aq hr ho h1 h2 dx h3 hrs
    cases hp
   cases hc
  .rename_i n e z h1 h2;split at hc
   .rename_i i hi;simp only[dq] at hc;obtain⟨qs,h3,rfl⟩:=hc;simp only[bl] at hp;split at hp
    .rename_i rs hrs;cases hp;exact apM aq hr ho h1 h2 hi h3 hrs
    cases hp
   cases hc
  cases hc
 · -- buildSlice
  rename_i t n ps ho;split at hc
  .rename_i e sz bytes z as h1 h2;split at hc
   .rename_i pK;cases hc;simp only[bl] at hp;split at hp
    .rename_i es mf;obtain⟨g1,g2⟩:=apK (s:=site) aq hr ho h1 h2 pK.1 pK.2 mf;split at hp
     .rename_i qs hqs;cases hp;exact g1 qs hqs
     cases hp;exact g2
    cases hp
   cases hc
  cases hc
 · -- load
  rename_i t x ho;split at hc
  .rename_i k y h1 h2;cases hc;simp only[bl] at hp;split at hp
   .rename_i cs r cX;split at hp
    .rename_i v' hv;cases hp;exact apW aq hr ho h1 h2 cX hv
    cases hp
   cases hp
  cases hc
 · -- store
  rename_i t x y ho;split at hc
  .rename_i n x' y' h1 h2 h3;cases hc;simp only[bl] at hp;split at hp
   .rename_i cs cX;exact aqc aq hr ho h1 h2 h3 cX hp
   cases hp
  cases hc
 · -- nilCheck
  rename_i x ho;simp only[dq] at hc;obtain⟨y,h1,rfl⟩:=hc;have hu:u=[]/\rd=[]:=by simp only[bl] at hp;split at hp<;>cases hp<;>exact⟨rfl,rfl⟩
  obtain⟨rfl,rfl⟩:=hu;exact ap5 aq hr ho h1 hp
 · -- binOp
  rename_i op t x y ty ho;split at hc
  .rename_i x' y' h1 h2;have aaF:∀(op':BinOp),p=.bin op' x' y'->op'=op->ff P w0 a.eval o m v u:=by
    intro op' e1 e2;subst e1 e2;simp only[bl] at hp;split at hp
    .rename_i v' hv;cases hp;exact apI aq hr ho h1 h2 hv
    cases hp
   split at hc
   .cases hc;exact aaF _ rfl rfl
   .cases hc;exact aaF _ rfl rfl
   split at hc
   .rename_i k hk;cases hc;simp only[bl] at hp;split at hp
    .rename_i b hb;cases hp;exact aex aq hr (neg:=false) ho (.inl ⟨rfl,rfl⟩) hk h1 h2 hb
    cases hp
   .rename_i k hk;cases hc;simp only[bl] at hp;split at hp
    .rename_i b hb;cases hp;exact aex aq hr (neg:=true) ho (.inr ⟨rfl,rfl⟩) hk h1 h2 hb
    cases hp
   cases hc
  cases hc
 · -- unOp
  rename_i op t x ho;split at hc
  .simp only[dq] at hc;obtain⟨y,h1,rfl⟩:=hc;simp only[bl] at hp;split at hp
   .rename_i b e1 e2;cases hp;exact ap6 aq hr ho h1 e2
   .rename_i e1 e2;cases e1
   cases hp
  .simp only[dq] at hc;obtain⟨y,h1,rfl⟩:=hc;simp only[bl] at hp;split at hp
   .rename_i e1 e2;cases e1
   .rename_i k n e1 e2;cases hp;exact ap4 aq hr ho h1 e2
   cases hp
  cases hc
 · -- convert
  rename_i s d x ho;split at hc
  .rename_i ks k y h1 h2 h3;cases hc;simp only[bl] at hp;split at hp
   .rename_i k0 n hn;cases hp;exact apQ aq hr ho h1 h2 h3 hn
   cases hp
  .rename_i e y h1 h2 h3;split at hc
   .rename_i he;cases hc;simp only[bl] at hp;split at hp
    .rename_i es r mf;split at hp
     .rename_i bs oq;cases hp;exact apL aq hr ho h1 he h2 h3 mf oq
     cases hp
    cases hp
   cases hc
  cases hc
 · -- makeFunc
  rename_i f x y ho;split at hc
  .rename_i x' y' h1 h2;cases hc;simp only[bl] at hp;split at hp
   .rename_i cs ds e1 e2;cases hp;exact ap0 aq hr ho h1 h2 e1 e2
   cases hp
  cases hc
 · -- makeMap
  rename_i t ho;split at hc
  .simp only[dq] at hc;obtain⟨k,h1,rfl⟩:=hc;cases hp;exact ap1 (kt:=t) (t:=t) (e:=t) aq ho
  cases hc
 · -- makeSlice
  rename_i t l c ho;split at hc
  .rename_i e sz bytes z l' c' h1 h2 h3;cases hc;simp only[bl] at hp;split at hp
   .rename_i n n' e1 e2;split at hp
    .rename_i pK;obtain⟨rfl,jC⟩:=pK;cases hp;exact ap2 aq hr ho h1 h2 h3 e1 e2 jC
    cases hp
   cases hp
  cases hc
 · -- slice
  rename_i t x lo hi ho;split at hc
  .rename_i x' Bl xW h1 h2 h3;split at hc
   .rename_i e ht;simp only[dq] at hc;obtain⟨sz,h4,rfl⟩:=hc;simp only[bl] at hp;split at hp
    .rename_i n hn;split at hp
     .rename_i l h e1 e2;have hu:u=[]/\rd=[]:=by
       unfold Bq at hp;repeat' split at hp
       all_goals first
        |cases hp
        |skip
       all_goals exact⟨rfl,rfl⟩
      obtain⟨rfl,rfl⟩:=hu;exact aqa aq hr ho ht h4 h1 h2 h3 hn e1 e2 hp
     cases hp
    cases hp
   .rename_i ht;cases hc;simp only[bl] at hp;split at hp
    .rename_i s hs;split at hp
     .rename_i l h e1 e2;split at hp
      .rename_i pK;cases hp;exact aqb aq hr ho ht h1 h2 h3 hs e1 e2 pK.1 pK.2
      cases hp
     cases hp
    cases hp
   cases hc
  cases hc
 · -- fieldAddr
  rename_i s x f ho;split at hc
  .rename_i fs y h1 h2;split at hc
   .rename_i d hd;split at hc
    .rename_i hz;cases hc;have hu:u=[]/\rd=[]:=by
      simp only[bl] at hp;split at hp<;>cases hp<;>exact⟨rfl,rfl⟩
     obtain⟨rfl,rfl⟩:=hu;exact apS aq hr ho h1 hd hz h2 hp
    cases hc
   cases hc
  cases hc
 · -- field
  rename_i t x f ho;split at hc
  .rename_i fs y h1 h2;split at hc
   .rename_i d hd;simp only[dq] at hc;obtain⟨k,h3,rfl⟩:=hc;simp only[bl] at hp;split at hp
    .rename_i cs cX;split at hp
     .rename_i v' hv;cases hp;exact apT aq hr ho h1 hd h3 h2 cX hv
     cases hp
    cases hp
   cases hc
  cases hc
 · -- indexAddr
  rename_i t x i ho;split at hc
  .rename_i x' i' h1 h2;split at hc
   .rename_i e ht;simp only[dq] at hc;obtain⟨sz,h3,rfl⟩:=hc;have hu:u=[]/\rd=[]:=by
     simp only[bl] at hp;repeat' split at hp
     all_goals first
      |cases hp
      |skip
     all_goals exact⟨rfl,rfl⟩
    obtain⟨rfl,rfl⟩:=hu;exact apU aq hr ho ht h3 h1 h2 hp
   .rename_i n e ht;simp only[dq] at hc;obtain⟨sz,h3,rfl⟩:=hc;have hu:u=[]/\rd=[]:=by
     simp only[bl] at hp;repeat' split at hp
     all_goals first
      |cases hp
      |skip
     all_goals exact⟨rfl,rfl⟩
    obtain⟨rfl,rfl⟩:=hu;exact apE aq hr ho ht h3 h1 h2 hp
   cases hc
  cases hc
 · -- index
  rename_i t x i ho;split at hc
  .rename_i x' i' h1 h2;split at hc
   .rename_i n e ht;split at hc
    .rename_i sz k h3 h4;cases hc;simp only[bl] at hp;split at hp
     .rename_i n' cs e1 e2;split at hp
      .rename_i au;split at hp
       .rename_i v' hv;cases hp;exact apF aq hr ho ht h3 h4 h1 h2 e1 au e2 hv
       cases hp
      cases hp
     cases hp
    cases hc
   .rename_i ht;cases hc;simp only[bl] at hp;split at hp
    .rename_i n s e1 e2;split at hp
     .rename_i b hb;cases hp;exact ap8 aq hr ho ht h1 h2 e1 e2 hb
     cases hp
    cases hp
   cases hc
  cases hc
 · -- lookup
  rename_i t x k ok ho;split at hc
  .rename_i kt e x' k' h1 h2 h3;split at hc
   .rename_i z q h4 h5;split at hc
    .rename_i kd h6;split at hc
     .rename_i h7;cases hc;simp only[bl] at hp;split at hp
      .rename_i es r key e1 e2;split at hp
       .cases hp
       rename_i y7;split at hp
       .rename_i f hf;split at hp
        .rename_i w hw;cases hp;exact apX aq hr ho h1 h4 h6 h7 h2 h3 e1 e2 (Classical.not_not.1 y7) hf hw
        cases hp
       cases hp
      cases hp
     cases hc
    cases hc
   cases hc
  cases hc
 · -- mapUpdate
  rename_i t x k y ho;split at hc
  .rename_i kt e x' k' y' h1 h2 h3 h4;split at hc
   .rename_i q h5;simp only[dq] at hc;obtain⟨kd,h6,rfl⟩:=hc;exact ac0 aq hr (.inl ho) h1 h6 h2 h3 h4 hp
   cases hc
  cases hc
 · -- insert
  rename_i t x k y ho;split at hc
  .rename_i kt e x' k' y' h1 h2 h3 h4;split at hc
   .rename_i q h5;simp only[dq] at hc;obtain⟨kd,h6,rfl⟩:=hc;exact ac0 aq hr (.inr ho) h1 h6 h2 h3 h4 hp
   cases hc
  cases hc
 · -- extract
  rename_i x i ho;simp only[dq] at hc;obtain⟨y,h1,rfl⟩:=hc;simp only[bl] at hp;split at hp
  .rename_i vs pR;split at hp
   .rename_i v' hv;cases hp;exact apR aq hr ho h1 pR hv
   cases hp
  cases hp
 · -- call
  rename_i c ho;split at hc
  .rename_i f as h1 h2;simp only[dq] at hc;obtain⟨y,h3,rfl⟩:=hc;simp only[bl] at hp;repeat' split at hp
   all_goals cases hp
  .rename_i x h1 h2;obtain⟨x0,ml,pS⟩:=Qe h2;split at hc
   .rename_i t ht;split at hc
    .rename_i hu;cases hc;simp only[bl] at hp;split at hp
     .rename_i s hs;cases hp;exact ap9 aq hr ho h1 ml ht hu pS hs
     cases hp
    .rename_i e hu;cases hc;simp only[bl] at hp;split at hp
     .rename_i n hn;cases hp;exact apV aq hr ho h1 ml ht hu pS hn
     cases hp
    .rename_i k e hu;cases hc;simp only[bl] at hp;split at hp
     .rename_i n r hn;cases hp;exact ap3 aq hr ho h1 ml ht hu pS hn
     cases hp
    cases hc
   cases hc
  .rename_i x y h1 h2;obtain⟨x0,y0,ml,pS,tc⟩:=Qf h2;split at hc
   .rename_i t u' ht hu;split at hc
    .rename_i e sz bytes z he;split at hc
     .rename_i pK;cases hc;obtain⟨rfl,bU⟩:=pK;exact apH aq hr ho h1 ml (arz ht hu bU) he pS tc hp
     cases hc
    cases hc
   cases hc
  .rename_i x y h1 h2;obtain⟨x0,y0,ml,pS,tc⟩:=Qf h2;cases hc;simp only[bl] at hp;split at hp
   .rename_i k p k' q e1 e2;cases hp;exact apY aq hr ho h1 ml pS tc e1 e2
   cases hp
  .rename_i x y h1 h2;obtain⟨x0,y0,ml,pS,tc⟩:=Qf h2;cases hc;simp only[bl] at hp;split at hp
   .rename_i k p k' q e1 e2;cases hp;exact apZ aq hr ho h1 ml pS tc e1 e2
   cases hp
  .rename_i x h1 h2;obtain⟨x0,ml,pS⟩:=Qe h2;split at hc
   .rename_i t ht;simp only[dq] at hc;obtain⟨⟨e,sz,bytes,z⟩,h3,rfl⟩:=hc;exact apP aq hr ho h1 ml ht h3 pS hp
   cases hc
  cases hc
 cases hc
end
end Go.Abs
namespace Go.Abs
variable {P:Program} {w0:World}
section
variable{m:Mem}{cs:List C}
def af3(w:World)(Q:Nat->Prop)(ty sz:Nat)(es:List (List PV))(c:Nat)(v:Value):Prop:=∃cap cur,v=.slice (some ⟨c,0,none⟩) es.length cap/\w.heap[c]?=some (.cells cur ty (0,0))/\0<sz/\(∀e∈es,e.length=sz)/\es.length<=cap/\cap<=maxLen/\cur.size=cap*sz/\cV w Q es.flatten (cur.toList.take (es.length*sz))
def ql(w:World)(Q:Nat->Prop):List RC->List Value->List Nat->Prop
 |[],vs,bs=>vs=[]/\bs=[]
 | .p x::r,vs,bs=>∃v lR,vs=v::lR/\bX w Q x v/\ql w Q r lR bs
 | .own ty sz es::r,vs,bs=>∃v lR c Ao,vs=v::lR/\bs=c::Ao/\af3 w Q ty sz es c v/\ql w Q r lR Ao
theorem ql.mono{w w':World}{Q Q':Nat->Prop}(hk:∀c,c<w.heap.size-> ¬Q c->w'.heap[c]?=w.heap[c]? /\ ¬Q' c):∀ {rs:List RC} {vs:List Value} {bs:List Nat},(∀c∈bs,w'.heap[c]?=w.heap[c]?)->ql w Q rs vs bs->ql w' Q' rs vs bs:=by
 intro rs
 induction rs with
 |nil=>intro vs bs _ h;exact h
 |cons r rs ih=>
  intro vs bs hb h;cases r with
  |p x=>obtain⟨v,lR,rfl,h1,h2⟩:=h;exact⟨v,lR,rfl,h1.mono hk,ih hb h2⟩
  |own ty sz es=>obtain⟨v,lR,c,Ao,rfl,rfl,⟨cap,cur,e1,e2,e3,e4,e5,e6,e7,e8⟩,h2⟩:=h;exact⟨v,lR,c,Ao,rfl,rfl,⟨cap,cur,e1,by rw[hb c af];exact e2,e3,e4,e5,e6,e7,e8.mono hk⟩,ih (fun c hc=>hb c (by simp[hc])) h2⟩
theorem ql.less{w:World}{Q Q':Nat->Prop}(h:∀b,Q' b->Q b){rs:List RC}{vs:List Value}{bs:List Nat}(hr:ql w Q rs vs bs):ql w Q' rs vs bs:=hr.mono (fun c _ hn=>⟨rfl,fun hq=>hn (h c hq)⟩) (fun _ _=>rfl)
theorem aqo(aq:Ok w0 m){Q:Nat->Prop}(hQ:∀b,Q b->m.own b){c:C}{x:PV}{q:List Nat}{v:Value}(h:snap m.aj fM c=some (x,q))(hr:cN m c v)(hs:∀id∈q,¬Q (m.σ id)):bX m.w Q x v:=Ii aq fM h hr ⟨hQ,hs⟩
theorem adt(aq:Ok w0 m){Q:Nat->Prop}(hQ:∀b,Q b->m.own b):∀ {cs:List C} {rs:List RC} {o q:List Nat} {vs:List Value},iY m.aj cs=some (rs,o,q)->cZ m cs vs->(∀id∈q,¬Q (m.σ id))->
  ql m.w Q rs vs (o.map m.σ)/\ ∀id∈o,∃ob,(m.aj id).2=some ob/\ob.fc=true:=by
 intro cs
 induction cs with
 |nil=>
  intro rs o q vs h hr _;simp only[iY,fe,jG] at h;obtain⟨rfl,rfl,rfl⟩:=h;have:vs=[]:=by have:=hr.1;simpa using this
  exact⟨⟨this,rfl⟩,fun id h=>by simp at h⟩
 |cons c cs ih=>
  intro rs o q vs h hr hq;simp only[iY] at h;split at h
  .rename_i x o1 q1 xs os qs h1 h2;cases h;cases vs with
   |nil=>simp[cZ] at hr
   |cons v vs=>
    obtain⟨i1,i2⟩:=ih (vs:=vs) h2 ⟨by have:=hr.1;simpa using this,fun j x u a b=>hr.2 (j+1) x u (by simpa using a) (by simpa using b)⟩ (fun id hid=>hq id (by simp[hid]));have hc:cN m c v:=hr.2 0 c v rfl rfl;have snapcase:∀ {y:PV},(snap m.aj fM c).map (fun(v,r)=>((.p v:RC),([]:List Nat),r))=some (x,o1,q1)->ql m.w Q (x::xs) (v::vs) ((o1++os).map m.σ)/\ ∀id∈o1++os,∃ob,(m.aj id).2=some ob/\ob.fc=true:=by intro _ h1;simp only[dq] at h1;obtain⟨⟨y,r⟩,h3,h4⟩:=h1;cases h4;exact⟨⟨v,vs,rfl,aqo aq hQ h3 hc (fun id hid=>hq id (by simp[hid])),i1⟩,i2⟩
    unfold fm at h1;split at h1
    .rename_i y;cases h1;have hy:bX m.w m.own y v:=by cases hc with|p h=>exact h
     exact⟨⟨v,vs,rfl,hy.less hQ,i1⟩,i2⟩
    .rename_i id g z len;split at h1
     .rename_i g' ty sz es hb;split at h1
      .rename_i pK;obtain⟨rfl,hlen⟩:=pK;cases h1;have hbo:(m.aj id).2=some (.arr ty sz es):=by rw[hb]
       obtain⟨cur,hh,iI,bU,hl,qE,cX,dj⟩:=aq.obj id _ hbo;cases hc with
       |hsl ad cap hg CB CF Es=>
        obtain⟨f1,f2,f3⟩:=Es sz (by rw[hb]) (by rw[hb];rfl);have l9:=f2 (.inl rfl);have j4:cap=m.κ id:=by rw[<- f3,jt]
        rw[yF] at l9;subst l9;subst j4;have au:(es.take len).length=len:=by simp;omega
        refine⟨⟨_,vs,m.σ id,os.map m.σ,rfl,rfl,⟨m.κ id,cur,by rw[au],hh,iI,fun e he=>bU e (vC he),by rw[au];exact CB,qE,cX,?_⟩,i1⟩,?_⟩
        .rw[au,Gw bU];have h1:=(cV.pw.1 dj).take (len*sz);rw[Mf,zZ (kD _ hlen)] at h1;exact(cV.pw.2 h1).less hQ
        intro j hj;simp only[DD,gi,dh] at hj;rcases hj with rfl|hj
        .exact⟨_,hbo,rfl⟩
        exact i2 j hj
      cases h1
     exact snapcase (y:=.th) h1
    exact snapcase (y:=.th) h1
  cases h
theorem abh:∀(rs:List RC) (site:Nat) (b b':aA),(∀s,site<=s->(b s).1=(b' s).1)->iX b site rs=iX b' site rs:=by
 intro rs
 induction rs with
 |nil=>intro site b b' _;rfl
 |cons r rs ih=>
  intro site b b' h;have h1:dd b site r=dd b' site r:=by
   cases r with
   |p x=>rfl
   |own ty sz es=>simp only[dd,h site (cA _)]
  simp only[iX,h1,ih (site+1) b b' (fun s hs=>h s aa)]
theorem alS{s c k:Nat}{o:Ob}(hc:m.fr c):sJ m (m.install s c k o) where
 own x _ hn:=⟨rfl,fun h=>hn (NP hc h)⟩
 gen id:=by
  simp only[Mem.install,aS];split
  .rename_i e;subst e;exact Nat.le_succ _
  exact cA _
 ref id hg hs:=by
  simp only[Mem.install,aS] at hg hs ⊢;split at hg
  .rename_i e;subst e;simp at hg
  rename_i e;simp only[aD e] at hs ⊢;exact⟨hs,trivial,trivial,trivial⟩
theorem sJ.trans{a b c:Mem}(h:sJ a b)(hs:a.w.heap.size<=b.w.heap.size)(k:sJ b c):sJ a c where
 own x hx hn:=by have h1:=h.own x hx hn;have h2:=k.own x (BO hx hs) h1.2;exact⟨h2.1.trans h1.1,h2.2⟩
 gen id:=lf (h.gen id) (k.gen id)
 ref id he hs':=by have h1:=h.gen id;have h2:=k.gen id;obtain⟨s1,e1,e2,e3⟩:=k.ref id aa hs';obtain⟨s2,f1,f2,f3⟩:=h.ref id aa s1;exact⟨s2,e1.trans f1,e2.trans f2,e3.trans f3⟩
theorem alD{Ld:Mem}:∀ {rs:List RC} {vs:List Value} {bs:List Nat} {site:Nat} {m:Mem},Ok w0 m->ql m.w m.own rs vs bs->bs.Nodup->(∀c∈bs,m.fr c/\w0.heap.size<=c)->Ev Ld m->(∀c∈bs,Ld.w.heap.size<=c\/Ld.fc c)->
  ∃m',m'.w=m.w/\Ok w0 m'/\Ev Ld m'/\sJ m m'/\(∀c,m'.fr c↔m.fr c/\c∉bs)/\m'.aj=app (iX m.aj site rs).2 m.aj/\cZ m' (iX m.aj site rs).1 vs:=by
 intro rs
 induction rs with
 |nil=>intro vs bs site m aq h _ _ dA _;obtain⟨rfl,rfl⟩:=h;exact⟨m,rfl,aq,dA,⟨fun c _ h=>⟨rfl,h⟩,fun _=>cA _,fun _ _ h=>⟨h,rfl,rfl,rfl⟩⟩,fun c=>af,rfl,rfl,fun j x u h=>by simp[iX] at h⟩
 |cons r rs ih=>
  intro vs bs site m aq h eV oq dA KI;have cons:∀ {m':Mem} {x:C} {xs:List C} {v:Value} {vs:List Value},cN m' x v->cZ m' xs vs->cZ m' (x::xs) (v::vs):=by
   intro m' x xs v vs h1 h2;refine⟨by simp[h2.1],fun j y u a b=>?_⟩;cases j with
   |zero=>simp at a b;subst a b;exact h1
   |succ j=>simp at a b;exact h2.2 j y u a b
  cases r with
  |p x=>obtain⟨v,lR,rfl,h1,h2⟩:=h;obtain⟨m',e1,e2,e3,e4,e5,e6,e7⟩:=ih (site:=site+1) aq h2 eV oq dA KI;exact⟨m',e1,e2,e3,e4,e5,by simpa [iX,dd] using e6,by simpa [iX,dd] using cons (cN.p (h1.ev e4)) e7⟩
  |own ty sz es=>
   obtain⟨v,lR,c,Ao,rfl,rfl,⟨cap,cur,q1,q2,q3,q4,q5,q6,q7,q8⟩,h2⟩:=h;have hfc:=(oq c af).1;have h0:=alS (s:=site) (k:=cap) (o:=.arr ty sz es) hfc;have hσ:(m.install site c cap (.arr ty sz es)).σ site=c:=by simp[Mem.install,aS]
   have hκ:(m.install site c cap (.arr ty sz es)).κ site=cap:=by simp[Mem.install,aS]
   have mg:Ok w0 (m.install site c cap (.arr ty sz es)):=NO aq hfc (oq c af).2
    ⟨cur,by rw[hσ];exact q2,q3,q4,by rw[hκ];exact q5,by rw[hκ];exact q6,by rw[hκ];exact q7,cV.ev h0 q8⟩
   have aa4:=qj.1 eV;obtain⟨m',e1,e2,e3,e4,e5,e6,e7⟩:=ih (site:=site+1) (m:=m.install site c cap (.arr ty sz es)) mg (h2.less fun b hb=>NP hfc hb) aa4.2
    (fun d hd=>⟨⟨(oq d (by simp[hd])).1,fun e=>aa4.1 (e▸hd)⟩,(oq d (by simp[hd])).2⟩) (NN dA hfc (KI c af)) (fun d hd=>KI d (by simp[hd]))
   have Tw:iX (m.install site c cap (.arr ty sz es)).aj (site+1) rs=iX m.aj (site+1) rs:=abh _ _ _ _ fun s hs=>by simp only[Mem.install,aS];rw[aD aa]
   rw[Tw] at e6 e7;refine⟨m',e1,e2,e3,h0.trans (cA _) e4,fun d=>?_,?_,?_⟩
   .rw[e5 d];simp only[Mem.install,dh,Ab];exact⟨fun⟨⟨a,b⟩,c⟩=>⟨a,b,c⟩,fun⟨a,b,c⟩=>⟨⟨a,b⟩,c⟩⟩
   .rw[e6];rfl
   refine cons ?_ e7;have:cN (m.install site c cap (.arr ty sz es)) (.hsl site ((m.aj site).1+1) sz 0 es.length) v:=by
    rw[q1];refine .hsl _ _ ?_ q5 q6 fun z h1 h2=>?_
    .simp[Mem.install,aS]
    have hz:jR ((m.install site c cap (.arr ty sz es)).aj site)=some sz:=by simp[Mem.install,aS,jR]
    rw[hz] at h2;cases h2;exact⟨rfl,fun _=>by rw[hσ,yF],by rw[jt];exact hκ.symm⟩
   exact this.ev e4
def vE:RV->Value->List Value->Prop
 | .one _,v,vs=>vs=[v]
 | .agg l,v,vs=>v=.agg vs.toArray/\vs.length=l.length
 | .tup _,_,_=>False
def BR:List RV->List Value->List Value->Prop
 |[],us,vs=>us=[]/\vs=[]
 |r::rs,us,vs=>∃u LX a b,us=u::LX/\vs=a++b/\vE r u a/\BR rs LX b
def DH:RV->Value->List Value->Prop
 | .tup rs,v,vs=>∃arr,v=.tuple arr/\BR rs arr.toList vs
 |r,v,vs=>vE r v vs
theorem cZ.take{vs:List Value}(h:cZ m cs vs)(n:Nat):cZ m (cs.take n) (vs.take n):=cZ.pw.2 ((cZ.pw.1 h).take n)
theorem cZ.drop{vs:List Value}(h:cZ m cs vs)(n:Nat):cZ m (cs.drop n) (vs.drop n):=cZ.pw.2 ((cZ.pw.1 h).drop n)
theorem cZ.append{ds:List C}{vs us:List Value}(h:cZ m cs vs)(k:cZ m ds us):cZ m (cs++ds) (vs++us):=cZ.pw.2 ((cZ.pw.1 h).append (cZ.pw.1 k))
theorem cZ.single{c:C}{v:Value}(h:cN m c v):cZ m [c] [v]:=⟨rfl,fun j x u a b=>by
 rcases j with _|j
 .simp at a b;subst a b;exact h
 simp at a⟩
theorem ZU{v:V}{val:Value}(h:jx v=some cs)(hr:mA m v val):
  ∃vs,cZ m cs vs/\ ∀(rs tl:List RC),rs.length=cs.length->(mq v (rs++tl)).2=tl/\gZ (mq v (rs++tl)).1=rs/\vE (mq v (rs++tl)).1 val vs:=by
 cases v with
 |undef=>simp[jx] at h
 |tup vs=>simp[jx] at h
 |one c=>
  simp only[jx,fe] at h;subst h;refine⟨[val],cZ.single hr,fun rs tl hl=>?_⟩
  match rs,hl with
  |[r],_=>exact⟨rfl,rfl,rfl⟩
 |agg ds=>
  simp only[jx,fe] at h;subst h;obtain⟨arr,rfl,hc⟩:=hr;refine⟨arr.toList,hc,fun rs tl hl=>?_⟩;have h1:(rs++tl).take ds.length=rs:=by rw[<- hl];exact Me
  have h2:(rs++tl).drop ds.length=tl:=by rw[<- hl];exact List.drop_left
  simp only[mq,gZ,vE,h1,h2,true_and];rw[hc.1,hl]
theorem ajG:∀ {ws:List V} {cs:List C} {vals:List Value},qU ws=some cs->Pw (mA m) ws vals->
  ∃vs,cZ m cs vs/\ ∀(rs:List RC),rs.length=cs.length->nu (yw ws rs)=rs/\BR (yw ws rs) vals vs:=by
 intro ws
 induction ws with
 |nil=>
  intro cs vals h hr;simp only[qU,fe] at h;subst h;have hv:vals=[]:=by have:=hr.1;simpa using this
  subst hv;refine⟨[],⟨rfl,fun j x u a=>by simp at a⟩,fun rs hl=>?_⟩;have:rs=[]:=by simpa using hl
  subst this;exact⟨rfl,rfl,rfl⟩
 |cons w ws ih=>
  intro cs vals h hr;simp only[qU] at h;split at h
  .rename_i a b h1 h2;cases h;cases vals with
   |nil=>have:=hr.1;simp at this
   |cons val vals=>
    obtain⟨vs1,gK,jk⟩:=ZU h1 (hr.2 0 w val rfl rfl);obtain⟨vs2,jO,eW⟩:=ih (vals:=vals) h2 ⟨by have:=hr.1;simpa using this,fun j x u p q=>hr.2 (j+1) x u (by simpa using p) (by simpa using q)⟩;refine⟨vs1++vs2,gK.append jO,fun rs hl=>?_⟩;have tW:rs.length=a.length+b.length:=by simpa using hl
    obtain⟨p1,p2,p3⟩:=jk (rs.take a.length) (rs.drop a.length) (by simp;omega);rw[tz] at p1 p2 p3;obtain⟨q1,q2⟩:=eW (rs.drop a.length) (by simp;omega);simp only[yw,nu,p1,p2,q1,BR];exact⟨tz _ _,val,vals,vs1,vs2,rfl,rfl,p3,q2⟩
  cases h
theorem ajF{v:V}{val:Value}(h:ll v=some cs)(hr:bJ m v val):
  ∃vs,cZ m cs vs/\ ∀(rs:List RC),rs.length=cs.length->gJ (oQ v rs)=rs/\DH (oQ v rs) val vs:=by
 have one:∀ {v:V},jx v=some cs->mA m v val->(∀rs,oQ v rs=(mq v rs).1)->∃vs,cZ m cs vs/\ ∀(rs:List RC),rs.length=cs.length->gJ (oQ v rs)=rs/\DH (oQ v rs) val vs:=by
  intro v h hr he;obtain⟨vs,h1,h2⟩:=ZU h hr;refine⟨vs,h1,fun rs hl=>?_⟩;obtain⟨_,p2,p3⟩:=h2 rs [] hl;rw[qh] at p2 p3;rw[he];generalize (mq v rs).1=y at p2 p3;cases y with
  |tup _=>exact p3.elim
  |one c=>exact⟨p2,p3⟩
  |agg c=>exact⟨p2,p3⟩
 cases v with
 |tup ws=>obtain⟨arr,rfl,hs,hc⟩:=hr;obtain⟨vs,h1,h2⟩:=ajG (m:=m) (vals:=arr.toList) h ⟨by simpa using hs,fun j x u a b=>hc j x u a (by simpa using b)⟩;exact⟨vs,h1,fun rs hl=>⟨(h2 rs hl).1,arr,rfl,(h2 rs hl).2⟩⟩
 |undef=>simp[ll,jx] at h
 |one c=>exact one h hr fun _=>rfl
 |agg c=>exact one h hr fun _=>rfl
theorem Vp{r:RV}{val:Value}{a b:List Value}(hf:vE r val a)(hc:cZ m cs (a++b)):mA m (mU r cs).1 val/\cZ m (mU r cs).2 b:=by
 cases r with
 |tup _=>exact hf.elim
 |one c=>
  have hf:a=[val]:=hf;subst hf;cases cs with
  |nil=>have:=hc.1;simp at this
  |cons x xs=>exact⟨hc.2 0 x val rfl rfl,by have:=hc.drop 1;simpa [mU] using this⟩
 |agg l=>
  obtain⟨rfl,hl⟩:=hf;refine⟨⟨_,rfl,?_⟩,?_⟩
  .have:=hc.take l.length;rw[<- hl,Me] at this
   simpa [mU,hl] using this
  have:=hc.drop l.length;rw[<- hl,List.drop_left] at this
  simpa [mU,hl] using this
theorem ao2:∀ {rs:List RV} {cs:List C} {us vs:List Value},BR rs us vs->cZ m cs vs->Pw (mA m) (sE rs cs) us:=by
 intro rs
 induction rs with
 |nil=>intro cs us vs h _;obtain⟨rfl,rfl⟩:=h;exact⟨rfl,fun j x u a=>by simp[sE] at a⟩
 |cons r rs ih=>
  intro cs us vs h hc;obtain⟨u,LX,a,b,rfl,rfl,h1,h2⟩:=h;obtain⟨p1,p2⟩:=Vp h1 hc;have p3:=ih h2 p2;refine⟨by simp[sE,p3.1],fun j x v q1 q2=>?_⟩;cases j with
  |zero=>simp[sE] at q1 q2;subst q1 q2;exact p1
  |succ j=>simp[sE] at q1 q2;exact p3.2 j x v q1 q2
theorem ao1{r:RV}{val:Value}{vs:List Value}(hf:DH r val vs)(hc:cZ m cs vs):bJ m (sD r cs) val:=by
 cases r with
 |tup rs=>obtain⟨arr,rfl,h⟩:=hf;have:=ao2 h hc;exact⟨arr,rfl,by simpa using this.1,fun j x u a b=>this.2 j x u a (by simpa using b)⟩
 |one c=>have:=(Vp (b:=[]) (show vE (.one c) val vs from hf) (by simpa using hc)).1;exact bJ.of1 this
 |agg c=>have:=(Vp (b:=[]) (show vE (.agg c) val vs from hf) (by simpa using hc)).1;exact bJ.of1 this
end
end Go.Abs
namespace Go.Abs
section
variable{b':aA}{site:Nat}{v:V}{cs:jh}{sh:Ctx}{ak:Env}{cp:fp}
def ik(ids:List Nat)(b b':aA):Prop:=∀id∈ids,b' id=b id
def qO(ts:List Nat)(e e':Env):Prop:=∀t∈ts,e' t=e t
theorem ik.left{x y:List Nat}{b:aA}(h:ik (x++y) b b'):ik x b b':=fun i hi=>h i (by simp[hi])
theorem ik.right{x y:List Nat}{b:aA}(h:ik (x++y) b b'):ik y b b':=fun i hi=>h i (by simp[hi])
theorem qO.left{x y:List Nat}{b b':Env}(h:qO (x++y) b b'):qO x b b':=fun i hi=>h i (by simp[hi])
theorem qO.right{x y:List Nat}{b b':Env}(h:qO (x++y) b b'):qO y b b':=fun i hi=>h i (by simp[hi])
section
variable {e e':Env}
theorem eF{a:aQ}(h:qO a.tmps e e'):ev e' a=ev e a:=by
 cases a with
 |t n=>exact h n (by simp[aQ.tmps])
 |_=>rfl
theorem ai3:∀ {as:List aQ},qO (Dx as) e e'->as.map (ev e')=as.map (ev e):=by
 intro as
 induction as with
 |nil=>intro _;rfl
 |cons a r ih=>intro h;simp only[eE];rw[eF h.left,ih h.right]
theorem adq:∀ {as:List aQ},qO (Dx as) e e'->uj e' as=uj e as:=by
 intro as
 induction as with
 |nil=>intro _;rfl
 |cons a r ih=>intro h;simp only[uj];rw[eF h.left,ih h.right]
theorem aiM{sz:Nat}:∀ {as:List aQ},qO (Dx as) e e'->xD e' sz as=xD e sz as:=by
 intro as
 induction as with
 |nil=>intro _;rfl
 |cons a r ih=>intro h;simp only[xD];rw[eF h.left,ih h.right]
theorem anD:∀ {as:List (Nat×Nat×aQ)},qO (VM as) e e'->wO e' as=wO e as:=by
 intro as
 induction as with
 |nil=>intro _;rfl
 |cons a r ih=>intro h;obtain⟨x,y,a⟩:=a;simp only[wO];rw[eF h.left,ih h.right]
theorem MA{d:Nat}{a:Option aQ}(h:qO (VL a) e e'):qp e' d a=qp e d a:=by
 cases a with
 |none=>rfl
 |some a=>simp only[qp];rw[eF h]
theorem ajK{a:aQ}(h:qO a.tmps e e'):Cf e' a=Cf e a:=by unfold Cf;rw[eF h]
theorem Vd{sh:Nat->Bool}{aj:aA}{p:my}(h:qO p.tmps e e'):bl sh e' aj p=bl sh e aj p:=by
 cases p with
 |jE x=>simp only[bl,eF (a:=x) h]
 |pick c a b=>simp only[bl,eF (a:=c) h.left.left,eF (a:=a) h.left.right,eF (a:=b) h.right]
 |alloc s z=>rfl
 |box s x=>simp only[bl,eF (a:=x) h]
 |build z ps=>simp only[bl,anD (as:=ps) h]
 |F8 s ty sz ps=>simp only[bl,aiM (as:=ps) h]
 |load k x=>simp only[bl,eF (a:=x) h]
 |store n a x=>simp only[bl,eF (a:=a) h.left,eF (a:=x) h.right]
 |HL x=>simp only[bl,eF (a:=x) h]
 |bin op x y=>simp only[bl,eF (a:=x) h.left,eF (a:=y) h.right]
 |eqc k n x y=>simp only[bl,eF (a:=x) h.left,eF (a:=y) h.right]
 |un op x=>simp only[bl,eF (a:=x) h]
 |conv k x=>simp only[bl,eF (a:=x) h]
 |bstr x=>simp only[bl,eF (a:=x) h]
 |mkfn f a b=>simp only[bl,adq (as:=a) h.left,adq (as:=b) h.right]
 |mkmap s ag=>rfl
 |HF s ty sz bytes z l c=>simp only[bl,eF (a:=l) h.left,eF (a:=c) h.right]
 |slice sz x lo hi=>simp only[bl,eF (a:=x) h.left.left,MA (a:=lo) h.left.right,MA (a:=hi) h.right]
 |sslice x lo hi=>simp only[bl,eF (a:=x) h.left.left,MA (a:=lo) h.left.right,MA (a:=hi) h.right]
 |lZ off x=>simp only[bl,eF (a:=x) h]
 |Hu sz x i=>simp only[bl,eF (a:=x) h.left,eF (a:=i) h.right]
 |FW l sz x i=>simp only[bl,eF (a:=x) h.left,eF (a:=i) h.right]
 |fld off k x=>simp only[bl,eF (a:=x) h]
 |aidx l sz k x i=>simp only[bl,eF (a:=x) h.left,eF (a:=i) h.right]
 |sidx x i=>simp only[bl,eF (a:=x) h.left,eF (a:=i) h.right]
 |lookup kd z ag ok x k=>simp only[bl,eF (a:=x) h.left,eF (a:=k) h.right]
 |mupd kd ag m k v=>simp only[bl,eF (a:=m) h.left.left,eF (a:=k) h.left.right,eF (a:=v) h.right]
 |bad=>rfl
 |extract x i=>simp only[bl,eF (a:=x) h]
 |call s f as=>simp only[bl,ajK (a:=f) h.left,ai3 (as:=as) h.right]
 |slen x=>simp only[bl,eF (a:=x) h]
 |La x=>simp only[bl,eF (a:=x) h]
 |mlen x=>simp only[bl,eF (a:=x) h]
 |append s ty sz b x y=>simp only[bl,eF (a:=x) h.left,eF (a:=y) h.right]
 |max x y=>simp only[bl,eF (a:=x) h.left,eF (a:=y) h.right]
 |min x y=>simp only[bl,eF (a:=x) h.left,eF (a:=y) h.right]
 |clear z x=>simp only[bl,eF (a:=x) h]
end
section
variable {b b':aA}
theorem vI{α β:Type}{f g:α->Option (β×List Nat)}(hf:∀x y r,f x=some (y,r)->ik r b b'->g x=some (y,r)):∀ {xs:List α} {ys:List β} {r:List Nat},collect f xs=some (ys,r)->ik r b b'->collect g xs=some (ys,r):=by
 intro xs
 induction xs with
 |nil=>intro ys r h _;exact h
 |cons x xs ih=>
  intro ys r h ha;simp only[collect] at h ⊢;split at h
  .rename_i y p bs q e1 e2;cases h;rw[hf _ _ _ e1 ha.left,ih e2 ha.right]
  cases h
theorem LJ:∀(n:Nat) (c:C) (x:PV) (r:List Nat),snap b n c=some (x,r)->ik r b b'->snap b' n c=some (x,r):=by
 intro n
 induction n with
 |zero=>intro c x r h;simp[snap] at h
 |succ n ih=>
  intro c x r h ha;cases c with
  |p v=>exact h
  |ba id g off=>
   have hid:id∈r:=by
    simp only[snap] at h
    (repeat' split at h)<;>first
     |cases h
     |skip
    all_goals simp
   have hb:=ha id hid;simp only[snap] at h ⊢;rw[hb];split at h
   .split at h
    .rename_i hg;rw[aE hg];split at h
     .rename_i hc;cases h;rw[vI ih hc (fun i hi=>ha i (by simp[hi]))]
     cases h
    cases h
   .exact h
   cases h
  |di id g i off=>
   have hid:id∈r:=by
    simp only[snap,dq] at h
    (repeat' split at h)<;>first
     |cases h
     |skip
    all_goals(simp only[dq] at h;obtain⟨e,_,h⟩:=h;cases h;simp)
   have hb:=ha id hid;simp only[snap] at h ⊢;rw[hb];exact h
  |hsl id g z off len=>
   have hid:id∈r:=by
    simp only[snap] at h
    (repeat' split at h)<;>first
     |cases h
     |skip
    all_goals simp
   have hb:=ha id hid;simp only[snap] at h ⊢;rw[hb];split at h
   .exact h
   .exact h
   .split at h
    .rename_i hg;rw[aE hg];split at h
     .rename_i hc;cases h;rw[vI (fun _ _ _ p q=>vI ih p q) hc (fun i hi=>ha i (by simp[hi]))]
     cases h
    cases h
   cases h
  |jP id g=>
   have hid:id∈r:=by
    simp only[snap] at h
    (repeat' split at h)<;>first
     |cases h
     |skip
    all_goals simp
   have hb:=ha id hid;simp only[snap] at h ⊢;rw[hb];exact h
  |hfn f x y=>
   simp only[snap] at h ⊢;split at h
   .rename_i h1 h2;cases h;rw[vI ih h1 ha.left,vI ih h2 ha.right]
   cases h
theorem aqq(x y:V)(r:List Nat)(h:mu b x=some (y,r))(ha:ik r b b'):mu b' x=some (y,r):=by
 cases x with
 |undef=>simp[mu] at h
 |tup _=>simp[mu] at h
 |one c=>simp only[mu,dq] at h ⊢;obtain⟨⟨p,q⟩,h1,h2⟩:=h;cases h2;exact⟨_,LJ _ _ _ _ h1 ha,rfl⟩
 |agg cs=>simp only[mu,dq] at h ⊢;obtain⟨⟨p,q⟩,h1,h2⟩:=h;cases h2;exact⟨_,vI (LJ _) h1 ha,rfl⟩
theorem aqs{xs ys:List V}{r:List Nat}(h:zO b xs=some (ys,r))(ha:ik r b b'):zO b' xs=some (ys,r):=vI aqq h ha
theorem ajQ{all:List Nat}{id:Nat}{u:List dY}(h:uR b all id=some u)(hid:id∈all)(ha:ik all b b'):uR b' all id=some u:=by
 have hb:=ha id hid;unfold uR at h ⊢;rw[hb];split at h
 .split at h
  .rename_i ps r hc;split at h
   .rename_i hr;have oE:ik r b b':=fun i hi=>ha i (by have:=ij.1 hr i hi;simpa using this);rw[vI (LJ _) hc oE];simp only;rw[aE hr];exact h
   cases h
  cases h
 .exact h
 .split at h
  .rename_i ps r hc;split at h
   .rename_i hr;have oE:ik r b b':=fun i hi=>ha i (by have:=ij.1 hr i hi;simpa using this);rw[vI (fun _ _ _ p q=>vI (LJ _) p q) hc oE];simp only;rw[aE hr];exact h
   cases h
  cases h
 .exact h
 .cases h
 exact h
theorem ajR{all:List Nat}(ha:ik all b b'):∀ {ids:List Nat} {u:List dY},(∀i∈ids,i∈all)->rU b all ids=some u->rU b' all ids=some u:=by
 intro ids
 induction ids with
 |nil=>intro u _ h;exact h
 |cons i r ih=>
  intro u hs h;simp only[rU] at h ⊢;split at h
  .rename_i x y h1 h2;cases h;rw[ajQ h1 (hs i af) ha,ih (fun j hj=>hs j (by simp[hj])) h2]
  cases h
theorem GA{ids:List Nat}{u:List dY}(h:qx b ids=some u)(ha:ik ids b b'):qx b' ids=some u:=ajR ha (fun _ h=>h) h
theorem alz{r:RC}(h:ik ((dd b site r).2.map (·.1)) b b'):dd b' site r=dd b site r:=by
 cases r with
 |p x=>rfl
 |own ty sz es=>simp only[dd];rw[h site (by simp[dd])]
theorem alA:∀ {rs:List RC} {site:Nat},ik ((iX b site rs).2.map (·.1)) b b'->iX b' site rs=iX b site rs:=by
 intro rs
 induction rs with
 |nil=>intro site _;rfl
 |cons r rs ih=>intro site h;simp only[iX,km] at h ⊢;rw[alz h.left,ih h.right]
theorem abi{r:RV}(h:ik ((gk b site r).2.map (·.1)) b b'):gk b' site r=gk b site r:=by unfold gk at h ⊢;simp only at h;rw[alA h]
theorem amf{rd:List Nat}{r:RV}{u:List dY}(h:land b rd site r=some (v,u))(ha:ik rd b b')(hu:ik (u.map (·.1)) b b'):land b' rd site r=some (v,u):=by
 unfold land at h ⊢;split at h
 .rename_i hc;rw[aE hc];cases h;rw[abi hu];rfl
 rename_i hc;rw[aD hc];split at h
 .rename_i fu hf;cases h;rw[GA hf ha];simp only;rw[km] at hu;rw[abi hu.right]
 cases h
theorem ad4{x:V}{cs:List C}{r:List Nat}(h:zI b x=some (cs,r))(ha:ik r b b'):zI b' x=some (cs,r):=by
 have key:∀id,(id∈r->b' id=b id):=fun id hid=>ha id hid;unfold zI at h ⊢;split at h
 .exact h
 .rename_i id g off;have hid:id∈r:=by
   (repeat' split at h)<;>first
    |cases h
    |skip
   all_goals simp
  simp only[key id hid];exact h
 .rename_i id g i off;have hid:id∈r:=by
   (repeat' split at h)<;>first
    |cases h
    |skip
   all_goals(simp only[dq] at h;obtain⟨e,_,h⟩:=h;cases h;simp)
  simp only[key id hid];exact h
 cases h
theorem amu{x:V}{n:Nat}{r:List Nat}(h:zt b x=some (n,r))(ha:ik r b b'):zt b' x=some (n,r):=by
 have key:∀id,(id∈r->b' id=b id):=fun id hid=>ha id hid;unfold zt at h ⊢;split at h
 .exact h
 .exact h
 .rename_i id g;have hid:id∈r:=by
   (repeat' split at h)<;>first
    |cases h
    |skip
   all_goals simp
  simp only[key id hid];exact h
 cases h
theorem amS{ag:Bool}{x:V}{es:List (PV×List PV)}{r:List Nat}(h:mapOf b ag x=some (es,r))(ha:ik r b b'):mapOf b' ag x=some (es,r):=by
 have key:∀id,(id∈r->b' id=b id):=fun id hid=>ha id hid;unfold mapOf at h ⊢;split at h
 .exact h
 .exact h
 .rename_i id g;have hid:id∈r:=by
   (repeat' split at h)<;>first
    |cases h
    |skip
   all_goals simp
  simp only[key id hid];exact h
 cases h
theorem Gs{x:V}{es:List (List PV)}{r fr:List Nat}(h:eN b x=some (es,r,fr))(ha:ik r b b')(hf:ik fr b b'):eN b' x=some (es,r,fr):=by
 have key:∀id,(id∈r->b' id=b id):=fun id hid=>ha id hid;unfold eN at h ⊢;split at h
 .exact h
 .exact h
 .rename_i id g z off len;have hid:id∈r:=by
   (repeat' split at h)<;>first
    |cases h
    |skip
   all_goals simp
  simp only[key id hid];split at h
  .exact h
  .exact h
  .split at h
   .rename_i hc;rw[aE hc];split at h
    .rename_i h1;cases h;rw[vI (fun _ _ _ p q=>vI (LJ _) p q) h1 hf]
    cases h
   cases h
  exact h
 cases h
theorem arY{a:V}{n:Nat}{xs:List C}{u:List dY}{r:List Nat}(h:yB b a n xs=.done v u r)(ha:ik r b b'):yB b' a n xs=.done v u r:=by
 have key:∀id,(id∈r->b' id=b id):=fun id hid=>ha id hid;unfold yB at h ⊢;split at h
 .cases h
 rename_i hn;rw[aD hn];split at h
 .rename_i id g off;have hid:id∈r:=by
   (repeat' split at h)<;>first
    |cases h
    |skip
   all_goals simp
  simp only[key id hid];exact h
 .rename_i id g i off;have hid:id∈r:=by
   (repeat' split at h)<;>first
    |cases h
    |skip
   all_goals simp
  simp only[key id hid];exact h
 cases h
theorem agL{ty sz bytes:Nat}{s x:V}{u:List dY}{r:List Nat}(h:eO b site ty sz bytes s x=.done v u r)(ha:ik r b b'):eO b' site ty sz bytes s x=.done v u r:=by
 unfold eO at h ⊢;split at h
 .cases h
 rename_i new rd fr di;split at h
 .cases h
 rename_i bU;split at h
 .cases h
 rename_i fu ow;have sub:∀ {l:List Nat},(∀i∈l,i∈r)->ik l b b':=fun hl i hi=>ha i (hl i hi);split at h
 .split at h
  .rename_i hn;cases h;rw[Gs di ha.left ha.right];simp only;rw[aD bU,GA ow ha.right];simp only;rw[aE hn]
  rename_i hn;split at h
  .rename_i hr;cases h;rw[Gs di (sub fun i hi=>by simp[hi]) (sub fun i hi=>by simp[hi])];simp only;rw[aD bU,GA ow (sub fun i hi=>by simp[hi])];simp only;rw[aD hn,aE hr,ha site af]
  cases h
 .split at h
  .cases h
  rename_i hn;split at h
  .rename_i hr;cases h;rw[Gs di (sub fun i hi=>by simp[hi]) (sub fun i hi=>by simp[hi])];simp only;rw[aD bU,GA ow (sub fun i hi=>by simp[hi])];simp only;rw[aD hn,aE hr,ha site af]
  cases h
 .rename_i id g z len;split at h
  .rename_i g' je bN es hb;split at h
   .rename_i hr;cases h;rw[Gs di (sub fun i hi=>by simp[hi]) (sub fun i hi=>by simp[hi])];simp only;rw[aD bU,GA ow (sub fun i hi=>by simp[hi])];simp only;have h1:=ha id af;rw[hb] at h1;simp only[h1];rw[aE hr,ha site af]
   cases h
  cases h
 .rename_i id g z off len aM;cases off with
  |zero=>exact(aM rfl).elim
  |succ off=>
  split at h
  .rename_i g' je bN es hb;split at h
   .rename_i hr;cases h;rw[Gs di (sub fun i hi=>by simp[hi]) (sub fun i hi=>by simp[hi])];simp only;rw[aD bU,GA ow (sub fun i hi=>by simp[hi])];simp only;have h1:=ha id af;rw[hb] at h1;simp only[h1];rw[aE hr]
   cases h
  cases h
 cases h
end
theorem an9{sh:Nat->Bool}{e:Env}{b:aA}{p:my}{u:List dY}{r:List Nat}(h:bl sh e b p=.done v u r)(ha:ik r b b'):bl sh e b' p=.done v u r:=by
 cases p with
 |alloc s z=>simp only[bl,eQ.done.injEq] at h ⊢;obtain⟨h1,h2,h3⟩:=h;rw[ha s (by rw[<- h3];simp)];exact⟨h1,h2,h3⟩
 |mkmap s ag=>simp only[bl,eQ.done.injEq] at h ⊢;obtain⟨h1,h2,h3⟩:=h;rw[ha s (by rw[<- h3];simp)];exact⟨h1,h2,h3⟩
 |box s x=>
  simp only[bl] at h ⊢;split at h
  .cases h;rw[ha s af]
  cases h
 |F8 s ty sz ps=>
  simp only[bl] at h ⊢;split at h
  .split at h
   .cases h;rw[ha s af]
   cases h;rw[ha s af]
  cases h
 |HF s ty sz bytes z l c=>
  simp only[bl] at h ⊢;split at h
  .split at h
   .rename_i hc;cases h;rw[aE hc,ha s af]
   cases h
  cases h
 |load k x=>
  simp only[bl] at h ⊢;split at h
  .rename_i cs q hq;split at h
   .rename_i v' hv;cases h;rw[ad4 hq ha];simp only[hv]
   cases h
  cases h
 |store n a x=>
  simp only[bl] at h ⊢;split at h
  .exact arY h ha
  cases h
 |bstr x=>
  simp only[bl] at h ⊢;split at h
  .rename_i es q hq;split at h
   .rename_i bs hb;cases h;rw[Gs hq ha (fun i hi=>by simp at hi)];simp only[hb]
   cases h
  cases h
 |lookup kd z ag ok x k=>
  simp only[bl] at h ⊢;split at h
  .rename_i es q key hm hk;split at h
   .cases h
   rename_i y7;split at h
   .rename_i f hf;split at h
    .rename_i w hw;cases h;rw[amS hm ha,hk];simp only;rw[aD y7];simp only[hf,hw]
    cases h
   cases h
  cases h
 |clear z x=>
  simp only[bl] at h ⊢;split at h
  .cases h;rfl
  .cases h;rfl
  .rename_i id g w off len e;split at h
   .rename_i h0;cases h;simp only[h0,if_true]
   rename_i h0;split at h
   .rename_i g' ty sz es h4;split at h
    .rename_i hc;cases h;have hb:=ha id af;rw[h4] at hb;rw[aD h0];simp only[hb];rw[aE hc]
    cases h
   cases h
  cases h
 |mupd kd ag m k v=>
  simp only[bl] at h ⊢;split at h
  .rename_i id g q cs h1 h2 h3;split at h
   .rename_i g' qm es ps h4 h5;split at h
    .rename_i hc;split at h
     .rename_i i w hf;cases h;have hb:=ha id af;rw[h4] at hb;simp only[hb,h5];rw[aE hc];simp only[hf]
     .rename_i hf;cases h;have hb:=ha id af;rw[h4] at hb;simp only[hb,h5];rw[aE hc];simp only[hf]
     cases h
    cases h
   cases h
  cases h
 |mlen x=>
  simp only[bl] at h ⊢;split at h
  .rename_i n q hq;cases h;rw[amu hq ha]
  cases h
 |append s ty sz bytes x y=>exact agL h ha
 |call s f as=>
  simp only[bl] at h
  (repeat' split at h)<;>cases h
 |_=>exact h
theorem aoq{sh:Nat->Bool}{e:Env}{b:aA}{p:my}{f s:Nat}{vs:List V}{r:List Nat}(h:bl sh e b p=.pc f vs r s)(ha:ik r b b'):bl sh e b' p=.pc f vs r s:=by
 cases p with
 |call s f as=>
  simp only[bl] at h ⊢;split at h
  .split at h
   .cases h
   rename_i iu;rw[aD iu];split at h
   .rename_i hs;cases h;rw[aqs hs ha]
   cases h
  cases h
 |_=>
  (simp only[bl,yB,eO,Bq,reduceCtorEq] at h)<;>(repeat' split at h)<;>cases h
theorem aos{sh:Nat->Bool}{e:Env}{b:aA}{p:my}{f:Nat}{vs:List V}(h:bl sh e b p=.sc f vs):bl sh e b' p=.sc f vs:=by
 cases p with
 |call s f as=>
  simp only[bl] at h ⊢;split at h
  .split at h
   .rename_i iu;rw[aE iu];exact h
   split at h<;>cases h
  cases h
 |_=>
  (simp only[bl,yB,eO,Bq,reduceCtorEq] at h)<;>(repeat' split at h)<;>cases h
theorem agJ:∀(u:List dY) (b b':aA) (id:Nat),id∈u.map (·.1)->app u b id=app u b' id:=by
 intro u
 induction u with
 |nil=>intro b b' id h;simp at h
 |cons x u ih=>
  intro b b' id h;obtain⟨i,o⟩:=x;simp only[app];by_cases hu:id∈u.map (·.1)
  .exact ih _ _ _ hu
  have hi:id=i:=by simpa [hu] using h
  have key:∀(u:List dY) (b:aA),id∉u.map (·.1)->app u b id=b id:=by
   intro u
   induction u with
   |nil=>intro b _;rfl
   |cons x u ih=>intro b h;obtain⟨j,o⟩:=x;simp only[eE,dh,Ab] at h;simp only[app];rw[ih _ h.2,aS,aD h.1]
  rw[key u _ hu,key u _ hu,aS,aS,aE hi,aE hi]
theorem Qd:∀(u:List dY) (b:aA) (id:Nat),id∉u.map (·.1)->app u b id=b id:=by
 intro u
 induction u with
 |nil=>intro b id _;rfl
 |cons x u ih=>intro b id h;obtain⟨j,o⟩:=x;simp only[eE,dh,Ab] at h;simp only[app];rw[ih _ _ h.2,aS,aD h.1]
theorem arS{e e':Env}{g:Option (Nat×Bool)}(h:∀t w,g=some (t,w)->e' t=e t):wanted e' g=wanted e g:=by
 cases g with
 |none=>rfl
 |some q=>obtain⟨t,w⟩:=q;simp only[wanted,h t w rfl]
def cn.writes(f:cn)(id:Nat):Bool:=f.wr.contains id||f.fs.contains (mr id)
def cn.sG(f:cn)(id:Nat):Bool:=f.rd.contains id||f.writes id
theorem ad6{b:aA}:∀(n:Nat) (c:C),ik (kU b n c) b b'->kU b' n c=kU b n c:=by
 intro n
 induction n with
 |zero=>intro c _;rfl
 |succ n ih=>
  have many:∀(cs:List C),ik (cs.map (kU b n)).flatten b b'->(cs.map (kU b' n)).flatten=(cs.map (kU b n)).flatten:=by
   intro cs
   induction cs with
   |nil=>intro _;rfl
   |cons c cs ihc=>intro h;simp only[eE,kX] at h ⊢;rw[ih c h.left,ihc h.right]
  intro c h;cases c with
  |p v=>rfl
  |ba id g off=>
   simp only[kU] at h ⊢;have hb:=h id af;rw[hb];split
   .rename_i cs Ke;rw[Ke] at h;rw[many cs (fun i hi=>h i (by simp only[dh];exact .inr hi))]
   rfl
  |di id g i off=>
   simp only[kU] at h ⊢;have hb:=h id af;rw[hb];split
   .rename_i cs Ke;rw[Ke] at h;rw[many _ (fun i hi=>h i (by simp only[dh];exact .inr hi))]
   rfl
  |hsl id g z off len=>
   simp only[kU] at h ⊢;have hb:=h id af;rw[hb];split
   .rename_i cs Ke;rw[Ke] at h;rw[many _ (fun i hi=>h i (by simp only[dh];exact .inr hi))]
   rfl
  |jP id g=>rfl
  |hfn f x y=>simp only[kU] at h ⊢;rw[many x h.left,many y h.right]
theorem aoP{b:aA}(v:V)(h:ik (jr b v) b b'):jr b' v=jr b v:=by
 cases v with
 |undef=>rfl
 |tup _=>rfl
 |one c=>exact ad6 _ _ h
 |agg cs=>
  simp only[jr] at h ⊢
  induction cs with
  |nil=>rfl
  |cons c cs ih=>simp only[eE,kX] at h ⊢;rw[ad6 _ c h.left,ih h.right]
theorem agz{f:Nat}{vs:List V}{b:aA}(h:ik (allow sh f vs b).ids b b'):allow sh f vs b'=allow sh f vs b:=by
 have:(vs.map (jr b')).flatten=(vs.map (jr b)).flatten:=by
  unfold allow at h;simp only at h
  induction vs with
  |nil=>rfl
  |cons v vs ih=>simp only[eE,kX] at h ⊢;rw[aoP v h.left,ih h.right]
 unfold allow;rw[this]
def yH(cs:jh):Prop:=∀f vs al aj v ao,cs f vs al aj=some (v,ao)->(∀id,al.ok id=false->ao id=aj id)/\
 ∀bd,(∀id,al.ok id=true->bd id=aj id)->∃kI,cs f vs al bd=some (v,kI)/\ ∀id,kI id=if al.ok id then ao id else bd id
theorem Og{al:Al}{l:List Nat}(h:al.fE l=true){id:Nat}(hid:id∈l):al.ok id=true:=ij.1 h id hid
theorem ak3{a b:Al}(hb:b.any=false)(h:a.holds b=true){id:Nat}(hid:b.ok id=true):a.ok id=true:=by
 unfold Al.holds at h;simp only[oY,cE] at h;rcases h with h|⟨h1,h2⟩
 .simp[Al.ok,h]
 simp only[Al.ok,hb,DC,oY] at hid;rcases hid with hid|hid
 .exact Og h1 (by simpa using hid)
 have:=ij.1 h2 (mr id) (by simpa using hid);simp only[Al.ok,oY];exact .inr this
theorem VH(cX:yH cs){o:bR}{aI:Env}{aj ao:aA}{f:cn}(h:step1 sh cp cs o ak aj=some (aI,ao,f)):
  ∃v,aI=put ak o.dst v/\(∀id,f.writes id=false->ao id=aj id)/\(∀id,f.sG id=true->sh.al.ok id=true)/\
   ∀(cP:Env) (bd:aA),qO o.Fo ak cP->(∀id,f.sG id=true->bd id=aj id)->
    ∃kI,step1 sh cp cs o cP bd=some (put cP o.dst v,kI,f)/\ ∀id,kI id=if f.writes id then ao id else bd id:=by
 have EH:∀(cP:Env),qO o.Fo ak cP->qO o.op.tmps ak cP/\wanted cP o.guard=wanted ak o.guard:=by intro cP h;unfold bR.Fo at h;exact⟨h.left,arS fun t w hg=>h.right t (by rw[hg];simp)⟩
 have hwr:∀(r w:List Nat) (id:Nat),(⟨r,w,[]⟩:cn).writes id=w.contains id:=by intro r w id;simp[cn.writes]
 have CO:∀(r w:List Nat) (id:Nat),(⟨r,w,[]⟩:cn).sG id=true↔id∈r\/id∈w:=by intro r w id;simp[cn.sG,cn.writes]
 have aba:∀(u:List dY) (b b2:aA) (r:List Nat) (id:Nat),app u b2 id=if (⟨r,u.map (·.1),[]⟩:cn).writes id then app u b id else b2 id:=by
  intro u b b2 r id;rw[hwr];by_cases hid:id∈u.map (·.1)
  .rw[aE (by simpa using hid)];exact agJ _ _ _ _ hid
  rw[aD (by simpa using hid)];exact Qd _ _ _ hid
 unfold step1 at h;split at h
 .cases h
 .rename_i hw;cases h;refine⟨.undef,rfl,fun _ _=>rfl,fun id hid=>by simp[cn.sG,cn.writes] at hid,fun cP bd he hb=>⟨bd,?_,fun id=>by simp[cn.writes]⟩⟩;unfold step1;rw[(EH cP he).2,hw]
 rename_i hw;split at h
 .cases h
 .rename_i v u r hp;split at h
  .rename_i aq;cases h;refine⟨v,rfl,fun id hid=>Qd _ _ _ (by rw[hwr] at hid;simpa using hid),fun id hid=>Og aq (by have:=(CO _ _ _).1 hid;simpa using this),fun cP bd he hb=>⟨app u bd,?_,fun id=>aba _ _ _ _ _⟩⟩;unfold step1;rw[(EH cP he).2,hw];simp only;rw[Vd (EH cP he).1,an9 hp fun id hid=>hb id ((CO _ _ _).2 (.inl hid))];simp only;rw[aE aq]
  cases h
 .rename_i g vs r s hp;split at h
  .rename_i x hx;split at h
   .rename_i v u hl;split at h
    .rename_i aq;cases h;refine⟨v,rfl,fun id hid=>Qd _ _ _ (by rw[hwr] at hid;simpa using hid),fun id hid=>Og aq (by have:=(CO _ _ _).1 hid;simp at this ⊢;rcases this with h|h<;>simp[h]),fun cP bd he hb=>⟨app u bd,?_,fun id=>aba _ _ _ _ _⟩⟩;unfold step1;rw[(EH cP he).2,hw];simp only;rw[Vd (EH cP he).1,aoq hp fun id hid=>hb id ((CO _ _ _).2 (.inl (by simp[hid])))];simp only[hx];rw[amf hl (fun id hid=>hb id ((CO _ _ _).2 (.inl (by simp[hid])))) fun id hid=>hb id ((CO _ _ _).2 (.inr hid))];simp only;rw[aE aq]
    cases h
   cases h
  cases h
 rename_i g vs hp;split at h
 .rename_i aq;split at h
  .rename_i v b1 hx;cases h;have fO:∀id,(⟨(allow sh g vs aj).ids,(allow sh g vs aj).ids,(allow sh g vs aj).fs⟩:cn).writes id=(allow sh g vs aj).ok id:=by
    intro id;simp[cn.writes,Al.ok,allow]
   have Tp:∀id,(⟨(allow sh g vs aj).ids,(allow sh g vs aj).ids,(allow sh g vs aj).fs⟩:cn).sG id=(allow sh g vs aj).ok id:=by intro id;simp only[cn.sG,fO];simp only[Al.ok];cases (allow sh g vs aj).ids.contains id<;>simp
   obtain⟨l1,l2⟩:=cX _ _ _ _ _ _ hx;refine⟨v,rfl,fun id hid=>l1 id (by rw[<- fO];exact hid),fun id hid=>ak3 rfl aq (by rw[<- Tp];exact hid),fun cP bd he hb=>?_⟩;obtain⟨kI,g1,g2⟩:=l2 bd fun id hid=>hb id (by rw[Tp];exact hid);have akQ:allow sh g vs bd=allow sh g vs aj:=agz fun id hid=>hb id (by rw[Tp];simp[Al.ok,hid]);refine⟨kI,?_,fun id=>by rw[fO];exact g2 id⟩;unfold step1;rw[(EH cP he).2,hw];simp only;rw[Vd (EH cP he).1,aos hp];simp only[akQ];rw[aE aq];simp only[g1]
  cases h
 cases h
theorem aoH(ak:Env){d d':Option Nat}(v v':V)(h:∀t,d=some t->d'≠some t):put (put ak d v) d' v'=put (put ak d' v') d v:=by
 cases d with
 |none=>rfl
 |some t=>
  cases d' with
  |none=>rfl
  |some t'=>
   have aM:t'≠t:=fun e=>h t rfl (by rw[e]);funext x;simp only[put,aS];by_cases h1:x=t
   .subst h1;rw[aE rfl,aD (fun e=>aM e.symm),aE rfl]
   rw[aD h1,aD h1]
theorem adW{d:Option Nat}{t:Nat}(h:d≠some t):put ak d v t=ak t:=by
 cases d with
 |none=>rfl
 |some x=>simp only[put,aS];rw[aD (fun e=>h (by rw[e]))]
theorem N5{a b:List Nat}(h:meets a b=false){i:Nat}(ha:i∈a):i∉b:=by
 intro hb;have:meets a b=true:=by simp only[meets,IK];exact⟨i,ha,by simpa using hb⟩
 rw[h] at this;cases this
theorem Ub{fs ids:List Nat}(h:yk fs ids=false){i:Nat}(hi:i∈ids):mr i∉fs:=by
 intro hf;have:yk fs ids=true:=by simp only[yk,IK];exact⟨i,hi,by simpa using hf⟩
 rw[h] at this;cases this
theorem ahU{a b:cn}(h:xu a b=false)(id:Nat):(a.writes id=true->b.sG id=false)/\(b.writes id=true->a.sG id=false):=by
 simp only[xu,L7] at h;obtain⟨⟨⟨⟨⟨c1,c2⟩,c3⟩,c4⟩,c5⟩,c6⟩:=h;have sw:∀ {x y:List Nat},meets x y=false->meets y x=false:=by
  intro x y h;cases he:meets y x with
  |false=>rfl
  |true=>simp only[meets,IK] at he;obtain⟨i,h1,h2⟩:=he;exact absurd h1 (N5 h (by simpa using h2))
 have one:∀ {a b:cn},meets a.wr b.rd=false->meets a.wr b.wr=false->meets a.fs b.fs=false->yk a.fs (b.rd++b.wr)=false->yk b.fs (a.rd++a.wr)=false->a.writes id=true->b.sG id=false:=by
  intro a b c1 c2 c4 c5 c6 hw;simp only[cn.writes,oY] at hw;simp only[cn.sG,cn.writes,L7];rcases hw with hw|hw
  .have hw:id∈a.wr:=by simpa using hw
   exact⟨by simpa using N5 c1 hw,by simpa using N5 c2 hw,by simpa using Ub c6 (i:=id) (by simp[hw])⟩
  have hw:mr id∈a.fs:=by simpa using hw
  refine⟨?_,?_,?_⟩
  .cases he:b.rd.contains id with
   |false=>rfl
   |true=>exact absurd hw (Ub c5 (i:=id) (by simp at he;simp[he]))
  .cases he:b.wr.contains id with
   |false=>rfl
   |true=>exact absurd hw (Ub c5 (i:=id) (by simp at he;simp[he]))
  simpa using N5 c4 hw
 exact⟨one c1 c2 c4 c5 c6,one (sw c3) (sw c2) (sw c4) c6 c5⟩
theorem swap{sh:Ctx}{cp:fp}{cs:jh}(cX:yH cs){x y:bR}{ak eS cP:Env}{aj bt bd:aA}{e1 e2:cn}(hx:step1 sh cp cs x ak aj=some (eS,bt,e1))(hy:step1 sh cp cs y eS bt=some (cP,bd,e2))
  (hf:Ec x y=true) (hc:xu e1 e2=false):∃envy blky,step1 sh cp cs y ak aj=some (envy,blky,e2)/\step1 sh cp cs x envy blky=some (cP,bd,e1):=by
 obtain⟨v1,rfl,fr1,_,amH⟩:=VH cX hx;obtain⟨v2,rfl,fr2,_,amI⟩:=VH cX hy;have GR:∀t,x.dst=some t->t∉y.Fo/\y.dst≠some t:=by intro t ht;simp only[Ec,ht,cE] at hf;have h1:=hf.1;simp at h1;exact⟨by simpa using h1.1,h1.2⟩
 have we:∀t,y.dst=some t->t∉x.Fo:=by
  intro t ht;simp only[Ec,ht,cE] at hf;have h1:=hf.2
  simpa using h1
 have dM:=ahU hc;have nw:∀ {a b:cn} {id:Nat},(a.writes id=true->b.sG id=false)->b.sG id=true->a.writes id=false:=by
  intro a b id h1 h2;cases h:a.writes id with
  |false=>rfl
  |true=>rw[h1 h] at h2;cases h2
 have wt:∀ {a:cn} {id:Nat},a.writes id=true->a.sG id=true:=by intro a id h;simp[cn.sG,h]
 obtain⟨blky,hy2,yb⟩:=amI ak aj (fun t ht=>(adW fun e=>(GR t e).1 ht).symm) (fun id hid=>(fr1 id (nw (dM id).1 hid)).symm);obtain⟨blkx,tc,xb⟩:=amH (put ak y.dst v2) blky (fun t ht=>adW fun e=>we t e ht) (fun id hid=>by rw[yb id,nw (dM id).2 hid];rfl)
 refine⟨_,blky,hy2,?_⟩;rw[tc,aoH ak v1 v2 fun t ht=>(GR t ht).2];have:blkx=bd:=by
  funext id;rw[xb id,yb id];cases h1:e1.writes id with
  |true=>have h2:e2.writes id=false:=nw (dM id).2 (wt h1);exact(fr2 id h2).symm
  |false=>
   cases h2:e2.writes id with
   |true=>rfl
   |false=>simp only[eH,if_false];rw[fr2 id h2,fr1 id h1]
 rw[this]
structure It where
 i:Nat
 io:bR
 e:cn
def Ms(x y:It):Prop:=Ec x.io y.io=true/\xu x.e y.e=false
theorem aeV{o:bR}{r:List bR}{aI:Env}{aj ao:aA}{e:cn}{es:List cn}(h:steps sh cp cs (o::r) ak aj=some (aI,ao,e::es)):
  ∃eS bt,step1 sh cp cs o ak aj=some (eS,bt,e)/\steps sh cp cs r eS bt=some (aI,ao,es):=by
 simp only[steps] at h;split at h
 .rename_i eS bt e1 h1;split at h
  .rename_i cP bd es2 h2;cases h;exact⟨eS,bt,h1,h2⟩
  cases h
 cases h
theorem aqW{o:bR}{r:List bR}{eS aI:Env}{aj bt ao:aA}{e:cn}{es:List cn}(h1:step1 sh cp cs o ak aj=some (eS,bt,e))(h2:steps sh cp cs r eS bt=some (aI,ao,es)):
  steps sh cp cs (o::r) ak aj=some (aI,ao,e::es):=by
 simp only[steps,h1,h2]
theorem ari(cX:yH cs){y:It}{l2:List It}:∀ {l1:List It} {ak aI:Env} {aj ao:aA},steps sh cp cs ((l1++y::l2).map (·.io)) ak aj=some (aI,ao,(l1++y::l2).map (·.e))->(∀x∈l1,Ms x y)->
  ∃eS bt,step1 sh cp cs y.io ak aj=some (eS,bt,y.e)/\steps sh cp cs ((l1++l2).map (·.io)) eS bt=some (aI,ao,(l1++l2).map (·.e)):=by
 intro l1
 induction l1 with
 |nil=>intro ak aI aj ao h _;exact aeV h
 |cons x l1 ih=>intro ak aI aj ao h vU;obtain⟨envx,blkx,h1,h2⟩:=aeV h;obtain⟨envy,blky,h3,h4⟩:=ih h2 fun z hz=>vU z (by simp[hz]);obtain⟨en1,bl1,h5,h6⟩:=swap cX h1 h3 (vU x af).1 (vU x af).2;exact⟨en1,bl1,h5,aqW h6 h4⟩
def BQ(al:Al)(b b2:aA):Prop:=∀id,al.ok id=true->b2 id=b id
def tB(al:Al)(b' b2 DR:aA):Prop:=∀id,DR id=if al.ok id then b' id else b2 id
def Frame(al:Al)(b b':aA):Prop:=∀id,al.ok id=false->b' id=b id
theorem tB.agree{al:Al}{b2 DR:aA}(h:tB al b' b2 DR):BQ al b' DR:=fun id hid=>by rw[h id,hid];rfl
theorem tB.trans{al:Al}{b2 DR b'' Xk:aA}(h:tB al b' b2 DR)(k:tB al b'' DR Xk):tB al b'' b2 Xk:=fun id=>by rw[k id,h id];cases al.ok id<;>rfl
theorem tB.refl{al:Al}{b b2:aA}(h:BQ al b b2):tB al b b2 b2:=fun id=>by
 cases hid:al.ok id with
 |true=>exact h id hid
 |false=>rfl
theorem Frame.trans{al:Al}{b b'':aA}(h:Frame al b b')(k:Frame al b' b''):Frame al b b'':=fun id hid=>(k id hid).trans (h id hid)
section
variable {sh:Ctx} {cp:fp} {cs:jh} (cX:yH cs)
include cX
theorem aqT:∀ {ops:List bR} {ak aI:Env} {aj ao:aA} {es:List cn},steps sh cp cs ops ak aj=some (aI,ao,es)->Frame sh.al aj ao/\
  ∀bd,BQ sh.al aj bd->∃kI,steps sh cp cs ops ak bd=some (aI,kI,es)/\tB sh.al ao bd kI:=by
 intro ops
 induction ops with
 |nil=>intro ak aI aj ao es h;simp only[steps,fe,jG] at h;obtain⟨rfl,rfl,rfl⟩:=h;exact⟨fun _ _=>rfl,fun bd ha=>⟨bd,rfl,.refl ha⟩⟩
 |cons o ops ih=>
  intro ak aI aj ao es h;simp only[steps] at h;split at h
  .rename_i eS bt e h1;split at h
   .rename_i cP bd jZ h2;cases h;obtain⟨v,rfl,fr,tw,loc⟩:=VH cX h1;obtain⟨f2,g2⟩:=ih h2;have hw:∀id,sh.al.ok id=false->e.writes id=false:=by
     intro id hid;cases hh:e.writes id with
     |false=>rfl
     |true=>have:=tw id (by simp[cn.sG,hh]);rw[hid] at this;cases this
    refine⟨Frame.trans (fun id hid=>fr id (hw id hid)) f2,fun b2 ha=>?_⟩;obtain⟨b1,s1,m1⟩:=loc ak b2 (fun _ _=>rfl) (fun id hid=>ha id (tw id hid));have lG:tB sh.al bt b2 b1:=by
     intro id;rw[m1 id];cases hid:sh.al.ok id with
     |true=>
      cases hh:e.writes id with
      |true=>rfl
      |false=>simp only[eH,if_false,if_true];rw[ha id hid,fr id hh]
     |false=>rw[hw id hid]
    obtain⟨b3,s2,m2⟩:=g2 b1 lG.agree;exact⟨b3,by simp only[steps,s1,s2],lG.trans m2⟩
   cases h
  cases h
theorem alX{c:Env->aA->Option (lk×Env×aA)}(hc:∀ {ak aI aj ao e},c ak aj=some (e,aI,ao)->Frame sh.al aj ao/\ ∀bd,BQ sh.al aj bd->∃kI,c ak bd=some (e,aI,kI)/\tB sh.al ao bd kI):
  ∀(k:Nat) {ak aI:Env} {aj ao:aA} {e:lk},iter c k ak aj=some (e,aI,ao)->Frame sh.al aj ao/\ ∀bd,BQ sh.al aj bd->∃kI,iter c k ak bd=some (e,aI,kI)/\tB sh.al ao bd kI:=by
 have _u0:=cX;intro k
 induction k with
 |zero=>intro ak aI aj ao e h;simp[iter] at h
 |succ k ih=>
  intro ak aI aj ao e h;simp only[iter] at h;split at h
  .rename_i eS bt h1;obtain⟨f1,g1⟩:=hc h1;obtain⟨f2,g2⟩:=ih h;refine⟨f1.trans f2,fun b2 ha=>?_⟩;obtain⟨b1,s1,m1⟩:=g1 b2 ha;obtain⟨b3,s2,m2⟩:=g2 b1 m1.agree;exact⟨b3,by simp only[iter,s1,s2],m1.trans m2⟩
  rename_i aM;obtain⟨f1,g1⟩:=hc h;refine⟨f1,fun b2 ha=>?_⟩;obtain⟨b1,s1,m1⟩:=g1 b2 ha;refine⟨b1,?_,m1⟩;cases e with
  |normal=>exact(aM _ _ h).elim
  |exit i=>simp only[iter,s1]
  |ret=>simp only[iter,s1]
theorem YB{n:Nat}:∀(c:aK) {ak aI:Env} {aj ao:aA} {e:lk},exec sh cp cs n c ak aj=some (e,aI,ao)->Frame sh.al aj ao/\
  ∀bd,BQ sh.al aj bd->∃kI,exec sh cp cs n c ak bd=some (e,aI,kI)/\tB sh.al ao bd kI:=by
 intro c
 induction c with
 |skip=>intro ak aI aj ao e h;simp only[exec,fe,jG] at h;obtain⟨rfl,rfl,rfl⟩:=h;exact⟨fun _ _=>rfl,fun b2 ha=>⟨b2,rfl,.refl ha⟩⟩
 |exit id=>intro ak aI aj ao e h;simp only[exec,fe,jG] at h;obtain⟨rfl,rfl,rfl⟩:=h;exact⟨fun _ _=>rfl,fun b2 ha=>⟨b2,rfl,.refl ha⟩⟩
 |ret=>intro ak aI aj ao e h;simp only[exec,fe,jG] at h;obtain⟨rfl,rfl,rfl⟩:=h;exact⟨fun _ _=>rfl,fun b2 ha=>⟨b2,rfl,.refl ha⟩⟩
 |bad=>intro ak aI aj ao e h;simp[exec] at h
 |region d ops=>
  intro ak aI aj ao e h;simp only[exec] at h;split at h
  .rename_i eS bt es h1;obtain⟨f1,g1⟩:=aqT cX h1;have he:(e,aI,ao)=(lk.normal,eS,bt)/\(d=true->nM ops [] es=true):=by
    cases d with
    |false=>simp at h;exact⟨by simp[h],fun h=>by cases h⟩
    |true=>
     simp only[if_true] at h;split at h
     .rename_i hd;cases h;exact⟨rfl,fun _=>hd⟩
     cases h
   obtain⟨he,hd⟩:=he;cases he;refine⟨f1,fun b2 ha=>?_⟩;obtain⟨b1,s1,m1⟩:=g1 b2 ha;refine⟨b1,?_,m1⟩;simp only[exec,s1];cases d with
   |false=>simp
   |true=>simp[hd rfl]
  cases h
 |seq a b iha ihb=>
  intro ak aI aj ao e h;simp only[exec] at h;split at h
  .rename_i eS bt h1;obtain⟨f1,g1⟩:=iha h1;obtain⟨f2,g2⟩:=ihb h;refine⟨f1.trans f2,fun b2 ha=>?_⟩;obtain⟨b1,s1,m1⟩:=g1 b2 ha;obtain⟨b3,s2,m2⟩:=g2 b1 m1.agree;exact⟨b3,by simp only[exec,s1,s2],m1.trans m2⟩
  rename_i aM;obtain⟨f1,g1⟩:=iha h;refine⟨f1,fun b2 ha=>?_⟩;obtain⟨b1,s1,m1⟩:=g1 b2 ha;refine⟨b1,?_,m1⟩;cases e with
  |normal=>exact(aM _ _ h).elim
  |exit i=>simp only[exec,s1]
  |ret=>simp only[exec,s1]
 |cond x a b iha ihb=>
  intro ak aI aj ao e h;simp only[exec] at h ⊢;split at h
  .rename_i t ht;cases t with
   |true=>exact iha h
   |false=>exact ihb h
  cases h
 |block id c ih=>
  intro ak aI aj ao e h;simp only[exec] at h;split at h
  .rename_i i eS bt h1;obtain⟨f1,g1⟩:=ih h1;have hb:ao=bt:=by split at h<;>cases h<;>rfl
   subst hb;refine⟨f1,fun b2 ha=>?_⟩;obtain⟨b1,s1,m1⟩:=g1 b2 ha;refine⟨b1,?_,m1⟩;simp only[exec,s1];split at h
   .rename_i hi;cases h;rw[aE hi]
   rename_i hi;cases h;rw[aD hi]
  rename_i aM;obtain⟨f1,g1⟩:=ih h;refine⟨f1,fun b2 ha=>?_⟩;obtain⟨b1,s1,m1⟩:=g1 b2 ha;refine⟨b1,?_,m1⟩;cases e with
  |normal=>simp only[exec,s1]
  |exit i=>exact(aM _ _ _ h).elim
  |ret=>simp only[exec,s1]
 |loop c ih=>intro ak aI aj ao e h;simp only[exec] at h ⊢;exact alX cX (fun h=>ih h) n h
end
theorem aea{al:Al}{aj bd:aA}(ha:BQ al aj bd):∀ {rs:List (Nat×Option (Option Nat))} {vs:List V},mV al ak aj rs=some vs->mV al ak bd rs=some vs:=by
 intro rs
 induction rs with
 |nil=>intro vs h;exact h
 |cons r rs ih=>
  obtain⟨t,k⟩:=r;cases k with
  |none=>
   intro vs h;simp only[mV] at h ⊢;split at h
   .rename_i v q h1 h2;cases h;simp only[h1,ih h2]
   cases h
  |some k=>
   intro vs h;simp only[mV] at h ⊢;split at h
   .rename_i cs rd q h1 h2;split at h
    .rename_i aq;rw[ad4 h1 (fun id hid=>ha id (Og aq hid)),ih h2];simp only[aq,if_true];exact h
    cases h
   cases h
theorem apl(cX:yH cs){n:Nat}{fn:aX}{args:List V}{aj ao:aA}(h:qd sh cp cs n fn args aj=some (v,ao)):Frame sh.al aj ao/\
  ∀bd,BQ sh.al aj bd->∃kI,qd sh cp cs n fn args bd=some (v,kI)/\tB sh.al ao bd kI:=by
 unfold qd at h;split at h
 .rename_i ak b hx;simp only[dq] at h;obtain⟨vs,h1,h2⟩:=h;cases h2;obtain⟨f1,g1⟩:=YB cX _ hx;refine⟨f1,fun b2 ha=>?_⟩;obtain⟨b3,s1,m1⟩:=g1 b2 ha;exact⟨b3,by unfold qd;rw[s1];simp only[aea m1.agree h1,mw],m1⟩
 .rename_i ak b hx;simp only[dq] at h;obtain⟨vs,h1,h2⟩:=h;cases h2;obtain⟨f1,g1⟩:=YB cX _ hx;refine⟨f1,fun b2 ha=>?_⟩;obtain⟨b3,s1,m1⟩:=g1 b2 ha;exact⟨b3,by unfold qd;rw[s1];simp only[aea m1.agree h1,mw],m1⟩
 cases h
end
end Go.Abs
namespace Go.Abs
variable {P:Program} {w0:World}
def qN(w:World)(O:Nat->Prop):V->Value->Prop
 | .one (.p x),v=>bX w O x v
 | .agg cs,v=>∃arr ps,v=.agg arr/\cs=ps.map .p/\cV w O ps arr.toList
 |_,_=>False
def Enters(P:Program)(f:Nat):Prop:= ∃fn c,P.funcs[f]?=some fn/\fn.body=some c/\(fn.name== "runtime.NumGoroutine")=false
def Mm(w:World)(Q:Nat->Prop)(r:RV)(val:Value)(bs:List Nat):Prop:= ∃vs,DH r val vs/\ql w Q (gJ r) vs bs
def tC(w:World)(O:Nat->Prop)(r:RV):Ending->World->Prop:=fun e w'=>∃val bs,e=.returned val/\eZ w w'/\bs.Nodup/\(∀c∈bs,w.heap.size<=c/\c<w'.heap.size)/\Mm w' (fun c=>O c\/c∈bs) r val bs
def Good(G:World->Prop)(w:World):Prop:=G w/\ ∀w w',eZ w w'->G w->G w'
theorem Ok.aau{m:Mem}(h:Ok w0 m):eZ w0 m.w:=⟨h.os,h.tape,h.output,h.size,h.base⟩
theorem ql.pure{w:World}{Q Q':Nat->Prop}(h:∀b,Q' b->Q b):∀ {rs:List RC} {vs:List Value} {bs:List Nat},(∀c∈bs,¬Q' c)->ql w Q rs vs bs->ql w Q' (rs.map RC.pure) vs []:=by
 intro rs
 induction rs with
 |nil=>intro vs bs _ hr;exact⟨hr.1,rfl⟩
 |cons r rs ih=>
  intro vs bs hb hr;have less:∀ {x:PV} {v:Value},bX w Q x v->bX w Q' x v:=fun hp=>hp.mono fun c _ hn=>⟨rfl,fun hq=>hn (h c hq)⟩;cases r with
  |p x=>obtain⟨v,lR,rfl,h1,h2⟩:=hr;exact⟨v,lR,rfl,less h1,ih hb h2⟩
  |own ty sz es=>
   obtain⟨v,lR,c,Ao,rfl,rfl,⟨cap,cur,e1,e2,e3,e4,e5,e6,e7,e8⟩,h2⟩:=hr;refine⟨v,lR,rfl,?_,ih (fun c hc=>hb c (by simp[hc])) h2⟩;subst e1;refine bX.sl c 0 cap sz (fun j=>cur.toList.getD j undef) (fun _=>hb c af) e5 e6 e4 (fun j x hx=>?_) (fun j x hx=>?_)
   .have hj:j<(cur.toList.take (es.length*sz)).length:=by rw[e8.1];exact(aY.1 hx).1
    have lD:j<cur.size:=by simp at hj;omega
    rw[World.cell?];simp[e2,lD,List.getD,jt]
   have hj:j<(cur.toList.take (es.length*sz)).length:=by rw[e8.1];exact(aY.1 hx).1
   have lD:j<cur.size:=by simp at hj;omega
   refine less (e8.2 j x _ hx ?_);rw[List.getElem?_take_of_lt (by simp at hj;omega)];simp[lD,List.getD]
theorem vE.pure{r:RV}{v:Value}{vs:List Value}(h:vE r v vs):vE r.Fh v vs/\gZ r.Fh=(gZ r).map RC.pure:=by
 cases r with
 |one c=>exact⟨h,rfl⟩
 |agg cs=>exact⟨⟨h.1,by simpa [RV.Fh] using h.2⟩,rfl⟩
 |tup _=>exact h.elim
theorem BR.pure:∀ {rs:List RV} {us vs:List Value},BR rs us vs->BR (rs.map RV.Fh) us vs/\nu (rs.map RV.Fh)=(nu rs).map RC.pure:=by
 intro rs
 induction rs with
 |nil=>intro us vs h;exact⟨h,rfl⟩
 |cons r rs ih=>
  rintro us vs ⟨u,LX,a,b,rfl,rfl,h1,h2⟩
  obtain⟨p1,p2⟩:=h1.pure;obtain⟨q1,q2⟩:=ih h2;exact⟨⟨u,LX,a,b,rfl,rfl,p1,q1⟩,by simp[nu,p2,q2]⟩
theorem DH.pure{r:RV}{v:Value}{vs:List Value}(h:DH r v vs):DH r.pure v vs/\gJ r.pure=(gJ r).map RC.pure:=by
 cases r with
 |one c=>exact vE.pure (r:=.one c) h
 |agg cs=>exact vE.pure (r:=.agg cs) h
 |tup rs=>obtain⟨arr,rfl,h2⟩:=h;obtain⟨q1,q2⟩:=h2.pure;exact⟨⟨arr,rfl,q1⟩,q2⟩
theorem tC.eG{w w':World}{O:Nat->Prop}{r:RV}{e:Ending}(b:Bool)(hO:∀c,O c->c<w.heap.size)(h:tC w O r e w'):tC w O (r.eG b) e w':=by
 cases b with
 |false=>exact h
 |true=>
  obtain⟨val,bs,rfl,hg,eV,oq,vs,h1,h2⟩:=h;obtain⟨p1,p2⟩:=h1.pure;refine⟨val,[],rfl,hg,w8,fun c hc=>by simp at hc,vs,p1,?_⟩;simp only[RV.eG];rw[p2];refine ql.pure (fun b hb=>?_) (fun c hc hn=>?_) h2
  .rcases hb with hb|hb
   .exact .inl hb
   simp at hb
  rcases hn with hn|hn
  .have:=hO c hn;have:=(oq c hc).1;omega
  simp at hn
def BU(P:Program)(G:World->Prop)(cp:fp):Prop:=∀f vs r,cp f vs=some r->Enters P f/\ ∀(w:World) (O:Nat->Prop) (args:Array Value),Good G w->(∀c,O c->c<w.heap.size)->Pw (qN w O) vs args.toList->Calls P f args w (tC w O r)
def FN(w0:World)(m:Mem)(v:V)(ao:aA):Ending->World->Prop:=fun e w'=>∃val m',e=.returned val/\m'.w=w'/\Ok w0 m'/\Ev m m'/\m'.fr=m.fr/\m'.aj=ao/\bJ m' v val
def DI(P:Program)(G:World->Prop)(cs:jh):Prop:=∀f vs al aj v ao,cs f vs al aj=some (v,ao)->Enters P f/\ ∀(w0:World) (m:Mem) (args:Array Value),Good G w0->Ok w0 m->m.aj=aj->Pw (bJ m) vs args.toList->Calls P f args m.w (FN w0 m v ao)
theorem aqr{m:Mem}(aq:Ok w0 m){O:Nat->Prop}{x y:V}{r:List Nat}{v:Value}(h:mu m.aj x=some (y,r))(hr:bJ m x v)(hs:nY m O r):qN m.w O y v:=by
 cases x with
 |undef=>simp[mu] at h
 |tup vs=>simp[mu] at h
 |one c=>simp only[mu,dq] at h;obtain⟨⟨p,r'⟩,h1,h2⟩:=h;cases h2;exact Ii aq fM h1 hr hs
 |agg cs=>simp only[mu,dq] at h;obtain⟨⟨ps,r'⟩,h1,h2⟩:=h;cases h2;obtain⟨arr,rfl,hc⟩:=bJ.agg.1 hr;refine⟨arr,ps,rfl,rfl,?_⟩;exact Gb (R:=cN m) (T:=bX m.w O) (eJ:=nY m O) (fun _ _=>nY.app) (fun _ _ _ _ h1 h2 h3=>Ii aq fM h1 h2 h3) h1 hs hc
theorem aeK{m:Mem}(aq:Ok w0 m){O:Nat->Prop}{xs ys:List V}{r:List Nat}{vs:List Value}(h:zO m.aj xs=some (ys,r))(hr:Pw (bJ m) xs vs)(hs:nY m O r):Pw (qN m.w O) ys vs:=Gb (R:=bJ m) (T:=qN m.w O) (eJ:=nY m O) (fun _ _=>nY.app) (fun _ _ _ _ h1 h2 h3=>aqr aq h1 h2 h3) h hs hr
theorem adx{m:Mem}(aq:Ok w0 m){c:Nat}(h:m.own c):c<m.w.heap.size:=by
 rcases h with h|⟨id,o,ho,_,rfl⟩
 .exact aq.frlt c h
 exact(aq.obj id o ho).lt
theorem aeq{w:World}{Q Q':Nat->Prop}{x:PV}{v:Value}(hs:x.scalar=true)(h:bX w Q x v):bX w Q' x v:=by
 cases h<;>first
  |(simp[PV.scalar] at hs;done)
  |constructor
theorem agA{w:World}{Q Q':Nat->Prop}:∀ {rs:List RC} {vs:List Value} {bs:List Nat},rs.all RC.alone=true->ql w Q rs vs bs->ql w Q' rs vs bs:=by
 intro rs
 induction rs with
 |nil=>intro vs bs _ h;exact h
 |cons r rs ih=>
  intro vs bs ha h;simp only[qM,cE] at ha;cases r with
  |p x=>obtain⟨v,lR,rfl,h1,h2⟩:=h;exact⟨v,lR,rfl,aeq ha.1 h1,ih ha.2 h2⟩
  |own ty sz es=>obtain⟨v,lR,c,Ao,rfl,rfl,⟨cap,cur,e1,e2,e3,e4,e5,e6,e7,e8⟩,h2⟩:=h;refine⟨v,lR,c,Ao,rfl,rfl,⟨cap,cur,e1,e2,e3,e4,e5,e6,e7,e8.1,fun j x u a b=>?_⟩,ih ha.2 h2⟩;refine aeq ?_ (e8.2 j x u a b);have hx:=aW a;obtain⟨e,he,hxe⟩:=FC.1 hx;have h1:=ha.1;simp only[RC.alone] at h1;exact ij.1 (ij.1 h1 e he) x hxe
theorem acj{m:Mem}{w':World}{x:RV}{val:Value}{bs:List Nat}{site:Nat}(aq:Ok w0 m)(hg:eZ m.w w')(eV:bs.Nodup)(oq:∀c∈bs,m.w.heap.size<=c/\c<w'.heap.size)(hr:Mm w' (fun c=>m.own c\/c∈bs) x val bs):
  ∃m',m'.w=w'/\Ok w0 m'/\Ev m m'/\m'.fr=m.fr/\m'.aj=app (gk m.aj site x).2 m.aj/\bJ m' (gk m.aj site x).1 val:=by
 obtain⟨vs,h1,h2⟩:=hr;have mg:Ok w0 (m.later w' (· ∈bs)):=K9 aq hg oq;have tS:Ev m (m.later w' (· ∈bs)):=HD hg fun c hc=>(oq c hc).1;obtain⟨m',e1,e2,e3,_,e5,e6,e7⟩:=alD (Ld:=m) (site:=site) mg (h2.less fun b hb=>acn.1 hb) eV (fun c hc=>⟨.inr hc,lf aq.size (oq c hc).1⟩) tS (fun c hc=>.inl (oq c hc).1);refine⟨m',e1,e2,e3,?_,e6,ao1 h1 e7⟩;funext c;apply propext;rw[e5 c];constructor
 .rintro ⟨h|h,h2⟩
  .exact h
  exact(h2 h).elim
 intro h;refine⟨.inl h,fun hc=>?_⟩;have h1:=aq.frlt c h;have h2:=(oq c hc).1;omega
theorem alE{b b':aA}(h:∀s,(b s).1=(b' s).1)(site:Nat)(x:RV):gk b site x=gk b' site x:=by unfold gk;rw[abh _ site b b' fun s _=>h s]
theorem anJ{G:World->Prop}{cp:fp}(yS:BU P G cp)(hG:Good G w0){m:Mem}(aq:Ok w0 m){f:Nat}{xs vs:List V}{rd:List Nat}{x:RV}{site:Nat}{v:V}{u:List dY}{args:Array Value}(hc:cp f vs=some x)(hs:zO m.aj xs=some (vs,rd))(AW:Pw (bJ m) xs args.toList)
  {pb:Bool} (hl:land m.aj rd site (x.eG pb)=some (v,u)):Calls P f args m.w (FN w0 m v (app u m.aj)):=by
 have A0:∀(w:World) (O:Nat->Prop) (args:Array Value),Good G w->(∀c,O c->c<w.heap.size)->Pw (qN w O) vs args.toList->Calls P f args w (tC w O (x.eG pb)):=fun w O args h1 h2 h3=>((yS f vs x hc).2 w O args h1 h2 h3).mono fun e w' h=>h.eG pb h2
 generalize x.eG pb=x at hl A0;unfold land at hl;split at hl
 .rename_i pK;cases hl;have key:∀(O:Nat->Prop),(∀c,O c->c<m.w.heap.size)->nY m O rd->(∀w' bs val,Mm w' (fun c=>O c\/c∈bs) x val bs->Mm w' (fun c=>m.own c\/c∈bs) x val bs)->Calls P f args m.w (FN w0 m (gk m.aj site x).1 (app (gk m.aj site x).2 m.aj)):=by
   intro O hO mM ue;refine(A0 m.w O args ⟨hG.2 _ _ aq.aau hG.1,hG.2⟩ hO (aeK aq hs AW mM)).mono ?_;rintro e w' ⟨val,bs,rfl,hg,eV,oq,hr⟩
   obtain⟨m',e1,e2,e3,e4,e5,e6⟩:=acj (site:=site) aq hg eV oq (ue w' bs val hr);exact⟨val,m',rfl,e1,e2,e3,e4,e5,e6⟩
  rcases pK with rfl|fO
  .exact key m.own (fun c hc=>adx aq hc) ⟨fun _ h=>h,fun _ h=>by simp at h⟩ fun _ _ _ h=>h
  refine key (fun _=>False) (fun c h=>h.elim) ⟨fun _ h=>h.elim,fun _ _ h=>h⟩ fun w' bs val h=>?_;obtain⟨lR,h1,h2⟩:=h;exact⟨lR,h1,agA fO h2⟩
 split at hl
 .rename_i fu ow;cases hl;have mg:=Z6 aq ow;have tS:=Tf ow;have mM:=Th aq ow;refine(A0 m.w (m.with fu).own args ⟨hG.2 _ _ aq.aau hG.1,hG.2⟩ (fun c hc=>adx mg hc) (aeK aq hs AW mM)).mono ?_;rintro e w' ⟨val,bs,rfl,hg,eV,oq,hr⟩
  obtain⟨m',e1,e2,e3,e4,e5,e6⟩:=acj (m:=m.with fu) (site:=site) mg hg eV oq hr;have Tw:gk (m.with fu).aj site x=gk m.aj site x:=alE (fun s=>JN ow s) site x;rw[Tw] at e5 e6;refine⟨val,m',rfl,e1,e2,tS.trans e3,e4,?_,e6⟩;rw[e5,I5];rfl
 cases hl
end Go.Abs
namespace Go.Abs
variable {P:Program} {w0:World}
theorem OF{m m':Mem}(dA:Ev m m'){ak:Env}{a:Act}{dst:Option Nat}{v:V}{x:Value}(hr:im m ak a.tmps)(hv:bJ m' v x)(hd:∀d,dst=some d->d<a.tmps.size):im m' (put ak dst v) (a.put dst x).tmps:=by
 cases dst with
 |none=>exact hr.ev dA
 |some d=>
  intro t;have au:=hd d rfl;simp only[put,Act.put,aS];by_cases ht:t=d
  .subst ht;rw[aE rfl];have:(a.tmps.setIfInBounds t x).getD t undef=x:=by simp[au]
   rw[this];exact hv
  rw[aD ht];have:(a.tmps.setIfInBounds d x).getD t undef=a.tmps.getD t undef:=by simp only[BD];rw[Array.getElem?_setIfInBounds_ne (fun e=>ht e.symm)]
  rw[this];exact(hr t).ev dA.zero
theorem OG(a:Act)(dst:Option Nat)(x:Value):(a.put dst x).tmps.size=a.tmps.size:=by cases dst<;>simp[Act.put]
theorem put_defers(a:Act)(dst:Option Nat)(x:Value):(a.put dst x).defers=a.defers:=by cases dst<;>simp[Act.put]
theorem afr{m:Mem}{ak:Env}{tmps:Array Value}(hr:im m ak tmps){ops:Array Oper}{o:Oper}{g:Option (Nat×Bool)}{b:Bool}
  (hg:match o.guard with|none=>g=none|some (j,w)=>∃t,(ops[j]?).bind (·.dst)=some t/\g=some (t,w)) (h:wanted ak g=some b):Region.wanted o (yielded ops tmps)=b:=by
 unfold Region.wanted;cases ho:o.guard with
 |none=>rw[ho] at hg;subst hg;simp only[wanted,fe] at h;exact h
 |some q=>
  obtain⟨j,w⟩:=q;rw[ho] at hg;obtain⟨t,h1,rfl⟩:=hg;have hrt:=hr t;simp only[wanted] at h;simp only[yielded,h1,Option.bind_some];split at h
  .rename_i b' hb;rw[hb] at hrt;have hv:=CW hrt;cases h;have:tmps[t]?=some (.bool b'):=by
    rw[BD] at hv;cases he:tmps[t]? with
    |none=>rw[he] at hv;simp[undef] at hv
    |some y=>rw[he] at hv;simp at hv;rw[hv]
   rw[this];rfl
  .rename_i hb;rw[hb] at hrt;cases h;have hv:tmps.getD t undef=undef:=hrt;rw[BD] at hv;cases he:tmps[t]? with
   |none=>rfl
   |some y=>rw[he] at hv;simp at hv;rw[hv];rfl
  cases h
theorem ZW{m:Mem}{ak:Env}{f:aQ}{v:Value}{g:Nat}{a b:List C}(h:Cf ak f=some (g,a,b))(hr:bJ m (ev ak f) v):∃A B:Array Value,v=.func (.func g) A B/\cZ m a A.toList/\cZ m b B.toList:=by
 unfold Cf at h;split at h
 .rename_i g' x y he;cases h;rw[he] at hr;obtain⟨hp⟩:cN m _ v:=hr;cases hp with
  |fn A B ha hb uc pQ=>exact⟨A,B,rfl,cV.By ⟨by simpa using ha,fun j x u p q=>uc j x u p (by simpa using q)⟩,cV.By ⟨by simpa using hb,fun j x u p q=>pQ j x u p (by simpa using q)⟩⟩
 .rename_i g' x y he;cases h;rw[he] at hr;have hc:cN m _ v:=hr;cases hc with
  |hfn A B ha hb uc pQ=>exact⟨A,B,rfl,⟨by simpa using ha,fun j x u p q=>uc j x u p (by simpa using q)⟩,⟨by simpa using hb,fun j x u p q=>pQ j x u p (by simpa using q)⟩⟩
 cases h
theorem Xa{m:Mem}{ak:Env}{a:Act}(hr:im m ak a.tmps):∀ {xs:List Operand} {ys:List aQ},nZ xs=some ys->Pw (bJ m) (ys.map (ev ak)) (xs.map a.eval):=by
 intro xs
 induction xs with
 |nil=>intro ys h;simp[nZ] at h;subst h;exact⟨rfl,fun j x u p=>by simp at p⟩
 |cons x xs ih=>
  intro ys h;simp only[nZ] at h;split at h
  .rename_i y ys' h1 h2;cases h;obtain⟨i1,i2⟩:=ih h2;refine⟨by simpa using i1,fun j z u p q=>?_⟩;cases j with
   |zero=>simp at p q;subst p q;exact dQ h1 hr
   |succ j=>exact i2 j z u (by simpa using p) (by simpa using q)
  cases h
theorem Oh{m:Mem}{cs:List C}{vs:List Value}(h:cZ m cs vs):Pw (bJ m) (cs.map .one) vs:=by refine⟨by simpa using h.1,fun j x u p q=>?_⟩;simp only[gh,dq] at p;obtain⟨c,hc,rfl⟩:=p;exact bJ.one.2 (h.2 j c u hc q)
theorem ahw{f:Nat}(h:Enters P f)(args:Array Value)(w:World):(callFunc f args).run P w=.ok (.enter f args) w:=by
 obtain⟨fn,c,h1,h2,h3⟩:=h;have h4:¬fn.name= "runtime.NumGoroutine" :=by simpa using h3
 simp[callFunc,run_program,h1,h2,h4]
theorem Xy{o:Oper}{c:Call}{fo:Operand}{a:Act}{g:Nat}{A B:Array Value}{w:World}(ho:o.op=.call c)(hc:c.callee=.value fo)(hv:a.eval fo=.func (.func g) A B)(he:Enters P g):
  (execOp a.eval o).run P w=.ok (.enter g (A++c.args.map a.eval++B)) w:=by
 simp[execOp,ho,resolve,hc,hv,Deferred.ofValue,invoke,ahw he]
theorem adk{site:Nat}{o:Oper}{p:my}(h:DT P site o=some p)(hp:∀s f as,p≠ .call s f as){sh:Nat->Bool}{ak:Env}{aj:aA}:(∀f vs r s,bl sh ak aj p≠ .pc f vs r s)/\ ∀f vs,bl sh ak aj p≠ .sc f vs:=by
 cases p<;>first
  |exact(hp _ _ _ rfl).elim
  |(simp only[bl]
    constructor<;>intros<;>intro h<;>(repeat' split at h)<;>first
     |cases h
     |(simp only[yB,Bq,eO] at h;(repeat' split at h)<;>cases h))
theorem XK{site:Nat}{o:Oper}{s:Nat}{f:aQ}{as:List aQ}(h:DT P site o=some (.call s f as)):∃c fo,o.op=.call c/\c.callee=.value fo/\cF fo=some f/\nZ c.args.toList=some as:=by
 unfold DT at h;split at h
 case h_26 c ho=>
  split at h
  .rename_i f' as' h1 h2;simp only[dq] at h;obtain⟨y,h3,h4⟩:=h;cases h4;exact⟨c,f',ho,h1,h3,h2⟩
  all_goals((repeat' split at h)<;>first
   |cases h
   |(simp at h;done))
 all_goals((repeat' split at h)<;>first
  |cases h
  |(simp at h;done))
def DK(w0:World)(m:Mem)(a:Act)(nt:Nat)(aI:Env)(ao:aA)(K:Act->World->Prop):Prop:=∀(a':Act) (m':Mem),Ok w0 m'->Ev m m'->m'.fr=m.fr->m'.aj=ao->im m' aI a'.tmps->a'.tmps.size=nt->a'.defers=a.defers->K a' m'.w
theorem aft{o:Oper}{a:Act}{f:Nat}{args:Array Value}{w:World}{K:Act->World->Prop}{Q:Exit->Act->World->Prop}{R:Ending->World->Prop}(iW:(execOp a.eval o).run P w=.ok (.enter f args) w)(hc:Calls P f args w R)
  (hR:∀e w',R e w'->∃v,e=.returned v/\K (a.put o.dst v) w'):o.wp P a w K Q:=by
 unfold Oper.wp;rw[iW,Oper.upon_enter];refine hc.mono ?_;intro e w' he;obtain⟨v,rfl,hk⟩:=hR e w' he;exact hk
theorem aeU{G:World->Prop}(hG:Good G w0){cp:fp}{cs:jh}(hP:BU P G cp)(hS:DI P G cs){sh:Ctx}{ops:Array Oper}{base nt anc:Nat}{o:Oper}{io:bR}{m:Mem}{ak aI:Env}{ao:aA}{eff:cn}{a:Act}{K:Act->World->Prop}{Q:Exit->Act->World->Prop}
  (ho:B8 P (fun j=>(ops[j]?).bind (·.dst)) base nt anc o=some io) (cJ:step1 sh cp cs io ak m.aj=some (aI,ao,eff)) (aq:Ok w0 m) (hr:im m ak a.tmps) (fq:a.tmps.size=nt) (hK:DK w0 m a nt aI ao K):
  if Region.wanted o (yielded ops a.tmps) then o.wp P a m.w K Q else K (a.put o.dst undef) m.w:=by
 have hio:io.dst=o.dst/\io.op=Gc P base o/\(∀d,o.dst=some d->d<nt)/\(match o.guard with|none=>io.guard=none|some (j,w)=>∃t,(ops[j]?).bind (·.dst)=some t/\io.guard=some (t,w)):=by
  unfold B8 at ho;split at ho
  .rename_i hd;simp only[dq] at ho;obtain⟨g,hg,rfl⟩:=ho;refine⟨rfl,rfl,fun d he=>?_,?_⟩
   .rw[he] at hd
    simpa [Yl] using hd
   cases hgo:o.guard with
   |none=>rw[hgo] at hg;simp[Tm] at hg;exact hg.symm
   |some q=>obtain⟨j,w⟩:=q;rw[hgo] at hg;simp only[Tm,dq] at hg;obtain⟨t,ht,rfl⟩:=hg;exact⟨t,ht,rfl⟩
  cases ho
 obtain⟨h1,h2,h3,h4⟩:=hio;have hd:∀d,o.dst=some d->d<a.tmps.size:=by rw[fq];exact h3
 unfold step1 at cJ;split at cJ
 .cases cJ
 .rename_i hw;cases cJ;rw[afr hr h4 hw];simp only[eH,if_false];rw[h1] at hK;exact hK _ m aq (Ev.refl m) rfl rfl (OF (Ev.refl m) hr (show bJ m .undef undef from rfl) hd) (by rw[OG,fq]) (put_defers _ _ _)
 rename_i hw;rw[afr hr h4 hw];simp only[if_true];rw[h2] at cJ;unfold Gc at cJ;cases xO:DT P base o with
 |none=>rw[xO] at cJ;simp[bl] at cJ
 |some p=>
  rw[xO] at cJ;simp only[kE] at cJ;split at cJ
  .cases cJ
  .rename_i v u r hp;split at cJ
   case isFalse=>cases cJ
   cases cJ;obtain⟨x,m',akA,e2,e3,e4,e5,e6⟩:=anm aq hr xO hp;rw[h1] at hK;have hk:=fun x (hx:bJ m' v x)=>hK (a.put o.dst x) m' e2 e3 e4 e5 (OF e3 hr hx hd) (by rw[OG,fq]) (put_defers _ _ _);unfold Oper.wp;rcases akA with hd|⟨hd,rfl⟩
   .rw[hd,Oper.upon_value];exact hk x e6
   rw[hd,Oper.upon_skip];exact hk undef e6
  .rename_i f vs r s hp;by_cases A0:∃s f as,p=.call s f as
   .obtain⟨s',f',as,rfl⟩:=A0;obtain⟨c,fo,g1,g2,g3,g4⟩:=XK xO;simp only[bl] at hp;split at hp
    .rename_i g A B hfn;obtain⟨AV,BV,e1,e2,e3⟩:=ZW hfn (dQ g3 hr);split at hp
     .cases hp
     split at hp
     .rename_i ws rd lI;cases hp;split at cJ
      .rename_i x hx;split at cJ
       .rename_i v u hl;split at cJ
        case isFalse=>cases cJ
        cases cJ;have AW:Pw (bJ m) (A.map .one++as.map (ev ak)++B.map .one) (AV++c.args.map a.eval++BV).toList:=by
         have:=((Oh e2).append (Xa hr g4)).append (Oh e3)
         simpa using this
        refine aft (Xy g1 g2 e1 (hP _ _ _ hx).1) (anJ hP hG aq hx lI AW hl) ?_;rintro e w' ⟨val,m',rfl,rfl,q1,q2,q3,q4,q5⟩
        rw[h1] at hK;exact⟨val,rfl,hK _ m' q1 q2 q3 q4 (OF q2 hr q5 hd) (by rw[OG,fq]) (put_defers _ _ _)⟩
       cases cJ
      cases cJ
     cases hp
    cases hp
   exact((adk xO (fun s f as e=>A0 ⟨s,f,as,e⟩)).1 _ _ _ _ hp).elim
  rename_i f vs hp;by_cases A0:∃s f as,p=.call s f as
  .obtain⟨s',f',as,rfl⟩:=A0;obtain⟨c,fo,g1,g2,g3,g4⟩:=XK xO;simp only[bl] at hp;split at hp
   .rename_i g A B hfn;obtain⟨AV,BV,e1,e2,e3⟩:=ZW hfn (dQ g3 hr);split at hp
    .cases hp;split at cJ
     case isFalse=>cases cJ
     split at cJ
     .rename_i v F5 hx;cases cJ;have AW:Pw (bJ m) (A.map .one++as.map (ev ak)++B.map .one) (AV++c.args.map a.eval++BV).toList:=by
       have:=((Oh e2).append (Xa hr g4)).append (Oh e3)
       simpa using this
      refine aft (Xy g1 g2 e1 (hS _ _ _ _ _ _ hx).1) ((hS _ _ _ _ _ _ hx).2 w0 m _ hG aq rfl AW) ?_;rintro e w' ⟨val,m',rfl,rfl,q1,q2,q3,q4,q5⟩
      rw[h1] at hK;exact⟨val,rfl,hK _ m' q1 q2 q3 q4 (OF q2 hr q5 hd) (by rw[OG,fq]) (put_defers _ _ _)⟩
     cases cJ
    split at hp<;>cases hp
   cases hp
  exact((adk xO (fun s f as e=>A0 ⟨s,f,as,e⟩)).2 _ _ hp).elim
end Go.Abs
namespace Go.Abs
variable {P:Program} {w0:World}
theorem Qt{dst anc:Nat->Option Nat}{base nt i:Nat}{o:Oper}{r:List Oper}{l:List bR}(h:uK P dst anc base nt i (o::r)=some l):
  ∃x xs,l=x::xs/\B8 P dst ((base+i)*64) nt ((anc i).getD 0) o=some x/\uK P dst anc base nt (i+1) r=some xs:=by
 simp only[uK] at h;split at h
 .rename_i x xs h1 h2;cases h;exact⟨x,xs,rfl,h1,h2⟩
 cases h
section
variable {G:World->Prop} (hG:Good G w0) {cp:fp} {cs:jh} (hP:BU P G cp) (hS:DI P G cs) {sh:Ctx}
include hG hP hS
theorem anq{ops:Array Oper}{anc:Nat->Option Nat}{base nt:Nat}{Q:Exit->Act->World->Prop}:∀(r:List Oper) {l:List bR} {i:Nat} {ak aI:Env} {m:Mem} {ao:aA} {es:List cn} {a:Act},(∀j,ops[i+j]?=r[j]?)->uK P (fun j=>(ops[j]?).bind (·.dst)) anc base nt i r=some l->
  steps sh cp cs l ak m.aj=some (aI,ao,es)->Ok w0 m->im m ak a.tmps->a.tmps.size=nt->DK w0 m a nt aI ao (fun a' w'=>Q .normal a' w')->wpOps P ops Q (List.range' i r.length) a m.w:=by
 intro r
 induction r with
 |nil=>intro l i ak aI m ao es a _ hc cJ aq hr fq hK;simp[uK] at hc;subst hc;simp only[steps,fe,jG] at cJ;obtain⟨rfl,rfl,_⟩:=cJ;simp only[eP,List.range'_zero,wpOps];exact hK a m aq (Ev.refl m) rfl rfl hr fq rfl
 |cons o r ih=>
  intro l i ak aI m ao es a KM hc cJ aq hr fq hK;obtain⟨x,xs,rfl,h1,h2⟩:=Qt hc;simp only[steps] at cJ;split at cJ
  .rename_i eS bt e1 jk;split at cJ
   .rename_i cP bd es2 eW;cases cJ;have ho:ops[i]?=some o:=by have:=KM 0;simpa using this
    have key:=aeU (Q:=Q) (K:=wpOps P ops Q (List.range' (i+1) r.length)) hG hP hS h1 jk aq hr fq (fun a1 m1 k1 k2 k3 k4 k5 k6 k7=>by subst k4;refine ih (m:=m1) (fun j=>by have:=KM (j+1);rw[show i+1+j=i+(j+1) by omega];simpa using this) h2 eW k1 k5 k6 ?_;intro a2 m2 p1 p2 p3 p4 p5 p6 p7;exact hK a2 m2 p1 (k2.trans p2) (p3.trans k3) p4 p5 p6 (p7.trans k7))
    simp only[dp,List.range'_succ,wpOps,ho];split at key
    .rename_i hw;rw[aE hw];exact .inl key
    rename_i hw;rw[aD hw];exact key
   cases cJ
  cases cJ
theorem aoV{ops:Array Oper}{anc:Nat->Option Nat}{base nt id:Nat}{Q:Exit->Act->World->Prop}{l:List bR}{ak aI:Env}{m:Mem}{ao:aA}{es:List cn}{a:Act}(hc:uK P (fun j=>(ops[j]?).bind (·.dst)) anc base nt 0 ops.toList=some l)
  (cJ:steps sh cp cs l ak m.aj=some (aI,ao,es)) (aq:Ok w0 m) (hr:im m ak a.tmps) (fq:a.tmps.size=nt) (hK:DK w0 m a nt aI ao (fun a' w'=>Q .normal a' w')):(Code.region id ops false).wp P Q a m.w:=by
 refine wp_region ?_;have:=anq hG hP hS (sh:=sh) (ops:=ops) (Q:=Q) ops.toList (i:=0) (fun j=>af) hc cJ aq hr fq hK;rw[afO]
 simpa using this
end
end Go.Abs
namespace Go.Abs
variable {P:Program} {w0:World}
theorem aoG{α β:Type}(g:Array β->α->β):∀(l:List α) (acc:Array β),(l.foldl (fun acc o=>acc.push (g acc o)) acc).size=acc.size+l.length/\
  (∀j,j<acc.size->(l.foldl (fun acc o=>acc.push (g acc o)) acc)[j]?=acc[j]?)/\
  ∀j o,l[j]?=some o->∃pre:Array β,pre.size=acc.size+j/\(∀k,k<pre.size->(l.foldl (fun acc o=>acc.push (g acc o)) acc)[k]?=pre[k]?)/\(l.foldl (fun acc o=>acc.push (g acc o)) acc)[acc.size+j]?=some (g pre o):=by
 intro l
 induction l with
 |nil=>intro acc;exact⟨rfl,fun _ _=>rfl,fun j o h=>by simp at h⟩
 |cons x l ih=>
  intro acc;obtain⟨h1,h2,h3⟩:=ih (acc.push (g acc x));simp only[BH];refine⟨by rw[h1];simp;omega,fun j hj=>?_,fun j o ho=>?_⟩
  .rw[h2 j (by simp;omega),Pn,aD aa]
  cases j with
  |zero=>
   simp at ho;subst ho;refine⟨acc,aa,fun k hk=>?_,?_⟩
   .rw[h2 k (by simp;omega),Pn,aD aa]
   rw[vD,h2 acc.size af,Pn,aE rfl]
  |succ j=>obtain⟨pre,p1,p2,p3⟩:=h3 j o (by simpa using ho);refine⟨pre,by rw[p1];simp;omega,p2,?_⟩;rw[<- p3];simp only[Array.size_push];congr 1;omega
theorem anr{α:Type}(f:α->Bool)(g:α->Nat)(h:α->Nat):∀(l:List α) (s j:Nat),(l.foldl (fun s e=>if f e then s|||g e|||h e else s) s).testBit j=true->s.testBit j=true\/ ∃e∈l,f e=true/\((g e).testBit j=true\/(h e).testBit j=true):=by
 intro l
 induction l with
 |nil=>intro s j hh;exact .inl hh
 |cons x l ih=>
  intro s j hh;simp only[BH] at hh;rcases ih _ j hh with h1|⟨e,he,h2⟩
  .split at h1
   .rename_i hf;simp only[Nat.testBit_or,oY] at h1;rcases h1 with (h1|h1)|h1
    .exact .inl h1
    .exact .inr ⟨x,af,hf,.inl h1⟩
    exact .inr ⟨x,af,hf,.inr h1⟩
   exact .inl h1
  exact .inr ⟨e,by simp[he],h2⟩
theorem ahi{ops:Array Oper}(Cp:FX ops=true){i:Nat}{o:Oper}(ho:ops[i]?=some o){j:Nat}(hj:(((Region.before ops)[i]?).getD 0).testBit j=true):
  ∃e∈o.after,Region.binds .any e=true/\e.on<i/\(j=e.on\/(((Region.before ops)[e.on]?).getD 0).testBit j=true):=by
 unfold Region.before at hj ⊢;rw[<- afx] at hj ⊢;obtain⟨h1,h2,h3⟩:=aoG (fun(acc:Array Nat) (o:Oper)=>o.after.foldl (fun s e=>if Region.binds .any e then s|||2 ^ e.on|||acc.getD e.on 0 else s) 0) ops.toList #[];obtain⟨pre,p1,p2,p3⟩:=h3 i o (by simpa using ho);simp only[Array.size_empty,jt] at p1 p3;rw[p3] at hj;simp only[kE] at hj;rw[<- afx] at hj;rcases anr (fun e=>Region.binds .any e) (fun e=>2 ^ e.on) (fun e=>pre.getD e.on 0) _ _ _ hj with h|⟨e,he,hb,GM⟩
 .simp at h
 have au:i<ops.size:=(Pm.1 ho).1;have CK:e.on<i:=by unfold FX at Cp;have:=ij.1 Cp i (by simpa using au);rw[ho] at this;rw[ij] at this;have:=this e (by simpa using he);simp only[hb,zV,DC,lh] at this;exact this
 refine⟨e,by simpa using he,hb,CK,?_⟩;rcases GM with GM|GM
 .left;rw[Nat.testBit_two_pow] at GM;have h9:e.on=j:=by simpa using GM
  exact h9.symm
 right;rw[p2 e.on aa]
 simpa [BD] using GM
theorem XL{dst:Nat->Option Nat}{base nt anc:Nat}{o:Oper}{io:bR}(h:B8 P dst base nt anc o=some io):io.anc=anc:=by
 unfold B8 at h;split at h
 .simp only[dq] at h;obtain⟨g,_,rfl⟩:=h;rfl
 cases h
structure af2 (P:Program) (ops:Array Oper) (base nt:Nat) (rem:List It) (listed:Array Bool):Prop where
 pair:rem.Pairwise fun p q=>p.i<q.i/\(q.io.anc.testBit p.i=true\/Ms p q)
 comp:∀p∈rem,∃o,ops[p.i]?=some o/\B8 P (fun j=>(ops[j]?).bind (·.dst)) ((base+p.i)*64) nt (((Region.before ops)[p.i]?).getD 0) o=some p.io
 size:listed.size=ops.size
 free:∀i:Nat,listed[i]?=some false↔ ∃p∈rem,p.i=i
 closed:∀i:Nat,listed[i]?=some true->∀j:Nat,(((Region.before ops)[i]?).getD 0).testBit j=true->listed[j]?=some true
theorem Vn{ops:Array Oper}{listed:Array Bool}{i:Nat}:i∈Region.ready .any ops listed↔i<ops.size/\listed.getD i true=false/\ ∃o,ops[i]?=some o/\ ∀e∈o.after,Region.binds .any e=true->listed.getD e.on false=true:=by
 unfold Region.ready;simp only[uA,fJ,cE,kW];constructor
 .rintro ⟨h1,h2,h3⟩
  refine⟨h1,h2,ops[i],by simp[h1],fun e he hb=>?_⟩;have ho:ops[i]?=some ops[i]:=by simp[h1]
  rw[ho] at h3;simp only[mw,kE,Array.all_eq_true'] at h3;have:=h3 e he;rw[hb] at this
  simpa using this
 rintro ⟨h1,h2,o,ho,h3⟩
 refine⟨h1,h2,?_⟩;rw[ho];simp only[mw,kE,Array.all_eq_true'];intro e he;cases hb:Region.binds .any e with
 |false=>rfl
 |true=>simp[h3 e he hb]
theorem aaq{l:Array Bool}{i:Nat}(h:l.getD i true=false):l[i]?=some false:=by
 rw[BD] at h;cases he:l[i]? with
 |none=>rw[he] at h;simp at h
 |some b=>rw[he] at h;simp at h;rw[h]
theorem aj7{l:Array Bool}{i:Nat}(h:l.getD i false=true):l[i]?=some true:=by
 rw[BD] at h;cases he:l[i]? with
 |none=>rw[he] at h;simp at h
 |some b=>rw[he] at h;simp at h;rw[h]
section
variable {G:World->Prop} (hG:Good G w0) {cp:fp} {cs:jh} (hP:BU P G cp) (hS:DI P G cs) (hL:yH cs) {sh:Ctx}
include hG hP hS hL
theorem agB{ops:Array Oper}(Cp:FX ops=true){base nt:Nat}{Q:Exit->Act->World->Prop}{aI:Env}{ao:aA}:∀(fuel:Nat) {rem:List It} {listed:Array Bool} {ak:Env} {m:Mem} {a:Act},af2 P ops base nt rem listed->rem.length<=fuel->
  steps sh cp cs (rem.map (·.io)) ak m.aj=some (aI,ao,rem.map (·.e))->Ok w0 m->im m ak a.tmps->a.tmps.size=nt->DK w0 m a nt aI ao (fun a' w'=>Q .normal a' w')->wpAny P .any ops Q fuel listed a m.w:=by
 intro fuel
 induction fuel with
 |zero=>
  intro rem listed ak m a hl hlen cJ aq hr fq hK;have ald:rem=[]:=by
   cases rem with
   |nil=>rfl
   |cons _ _=>simp at hlen
  subst ald;simp only[kZ,steps,fe,jG] at cJ;obtain⟨rfl,rfl,_⟩:=cJ;refine⟨?_,hK a m aq (Ev.refl m) rfl rfl hr fq rfl⟩;refine ar4.2 fun i hi=>?_;obtain⟨_,h2,_⟩:=Vn.1 hi;obtain⟨p,hp,_⟩:=(hl.free i).1 (aaq h2);simp at hp
 |succ fuel ih=>
  intro rem listed ak m a hl hlen cJ aq hr fq hK;refine⟨fun akY=>?_,fun i hi=>?_⟩
  .cases rem with
   |nil=>simp only[kZ,steps,fe,jG] at cJ;obtain⟨rfl,rfl,_⟩:=cJ;exact hK a m aq (Ev.refl m) rfl rfl hr fq rfl
   |cons p rest=>
    exfalso;obtain⟨o,ho,_⟩:=hl.comp p af;have au:p.i<ops.size:=(Pm.1 ho).1;have nC:p.i∈Region.ready .any ops listed:=by
     refine Vn.2 ⟨au,?_,o,ho,fun e he hb=>?_⟩
     .rw[BD,(hl.free p.i).2 ⟨p,af,rfl⟩];rfl
     have CK:e.on<p.i:=by unfold FX at Cp;have:=ij.1 Cp p.i (by simpa using au);rw[ho] at this;rw[ij] at this;have:=this e (by simpa using he);simp only[hb,zV,DC,lh] at this;exact this
     have hs:e.on<listed.size:=by rw[hl.size];omega
     rw[BD];cases aZ:listed[e.on] with
     |true=>simp[hs,aZ]
     |false=>
      exfalso;obtain⟨q,hq,CM⟩:=(hl.free e.on).1 (by simp[hs,aZ]);rcases dh.1 hq with rfl|hq
      .omega
      have:=((rG.1 hl.pair).1 q hq).1;omega
    rw[akY] at nC;simp at nC
  obtain⟨h1,h2,o,ho,h3⟩:=Vn.1 hi;obtain⟨p,hp,rfl⟩:=(hl.free i).1 (aaq h2);obtain⟨l1,l2,rfl⟩:=List.append_of_mem hp;obtain⟨o',jS,xO⟩:=hl.comp p hp;rw[ho] at jS;cases jS;have aaA:∀j:Nat,p.io.anc.testBit j=true->listed[j]?=some true:=by
   intro j hj;rw[XL xO] at hj;obtain⟨e,he,hb,_,zc⟩:=ahi Cp ho hj;have CK:=aj7 (h3 e he hb);rcases zc with rfl|zc
   .exact CK
   exact hl.closed _ CK j zc
  have Hd:=BM.1 hl.pair;have akG:∀x∈l1,Ms x p:=by
   intro x hx;rcases(Hd.2.2 x hx p af).2 with h|h
   .have:=aaA _ h;rw[(hl.free x.i).2 ⟨x,by simp[hx],rfl⟩] at this;cases this
   exact h
  obtain⟨eS,bt,jk,eW⟩:=ari hL cJ akG;have key:=aeU (Q:=Q) (K:=wpAny P .any ops Q fuel (listed.setIfInBounds p.i true)) hG hP hS xO jk aq hr fq (fun a1 m1 k1 k2 k3 k4 k5 k6 k7=>by
   subst k4;have au:p.i<listed.size:=by rw[hl.size];exact h1
   refine ih (rem:=l1++l2) ⟨?_,fun q hq=>hl.comp q (by rcases fi.1 hq with h|h<;>simp[h]),by simp[hl.size],fun k=>?_,fun k hk j hj=>?_⟩ (by simp at hlen ⊢;omega) eW k1 k5 k6 ?_
   .refine BM.2 ⟨Hd.1,(rG.1 Hd.2.1).2,fun x hx y hy=>Hd.2.2 x hx y (by simp[hy])⟩
   .rw[Po];by_cases hk:p.i=k
    .subst hk;rw[aE rfl,aE au];constructor
     .intro h;cases h
     rintro ⟨q,hq,CM⟩
     rcases fi.1 hq with h|h
     .have:=(Hd.2.2 q h p af).1;omega
     have:=((rG.1 Hd.2.1).1 q h).1;omega
    rw[aD hk,hl.free k];constructor
    .rintro ⟨q,hq,CM⟩
     rcases fi.1 hq with h|h
     .exact⟨q,by simp[h],CM⟩
     rcases dh.1 h with rfl|h
     .exact(hk CM).elim
     exact⟨q,by simp[h],CM⟩
    rintro ⟨q,hq,CM⟩
    rcases fi.1 hq with h|h
    .exact⟨q,by simp[h],CM⟩
    exact⟨q,by simp[h],CM⟩
   .have ue:∀j:Nat,listed[j]?=some true->(listed.setIfInBounds p.i true)[j]?=some true:=by
     intro j hj;rw[Po];split
     .first
       |rfl
       |(rename_i e;rw[aE au])
     exact hj
    by_cases nz:p.i=k
    .subst nz;refine ue j (aaA j ?_);rw[XL xO];exact hj
    rw[Po,aD nz] at hk;exact ue j (hl.closed k hk j hj)
   intro a2 m2 p1 p2 p3 p4 p5 p6 p7;exact hK a2 m2 p1 (k2.trans p2) (p3.trans k3) p4 p5 p6 (p7.trans k7))
  unfold wpOp;rw[ho];simp only;split at key
  .rename_i hw;rw[aE hw];exact .inl key
  rename_i hw;rw[aD hw];exact key
end
def rn:Nat->List bR->List cn->List It
 |i,x::xs,e::es=>⟨i,x,e⟩::rn (i+1) xs es
 |_,_,_=>[]
theorem am2:∀ {xs:List bR} {es:List cn} (i:Nat),es.length=xs.length->(rn i xs es).map (·.io)=xs/\(rn i xs es).map (·.e)=es:=by
 intro xs
 induction xs with
 |nil=>intro es i h;cases es with
  |nil=>exact⟨rfl,rfl⟩
  |cons _ _=>simp at h
 |cons x xs ih=>intro es i h;cases es with
  |nil=>simp at h
  |cons e es=>obtain⟨h1,h2⟩:=ih (es:=es) (i+1) (by simpa using h);exact⟨by simp[rn,h1],by simp[rn,h2]⟩
theorem ajM{o:bR}:∀ {past:List bR} {j:Nat},Nf o j past=true->∀k x,past[k]?=some x->o.anc.testBit (j+k)=true\/Ec x o=true:=by
 intro past
 induction past with
 |nil=>intro j _ k x h;simp at h
 |cons y past ih=>
  intro j h k x hk;simp only[Nf,cE,oY] at h;cases k with
  |zero=>simp at hk;subst hk;exact h.1
  |succ k=>have:=ih h.2 k x (by simpa using hk);rw[show j+(k+1)=j+1+k by omega];exact this
theorem anh{anc:Nat}{e:cn}:∀ {past:List cn} {j:Nat},Dg anc e j past=true->∀k x,past[k]?=some x->anc.testBit (j+k)=true\/xu x e=false:=by
 intro past
 induction past with
 |nil=>intro j _ k x h;simp at h
 |cons y past ih=>
  intro j h k x hk;simp only[Dg,cE,oY,kW] at h;cases k with
  |zero=>simp at hk;subst hk;exact h.1
  |succ k=>have:=ih h.2 k x (by simpa using hk);rw[show j+(k+1)=j+1+k by omega];exact this
theorem am3:∀ {xs:List bR} {es:List cn} {past:List bR} {pe:List cn},es.length=xs.length->pe.length=past.length->JL xs past=true->nM xs pe es=true->
  (∀(q:It),q∈rn past.length xs es->∀(k:Nat) (x:bR) (e:cn),past[k]?=some x->pe[k]?=some e->q.io.anc.testBit k=true\/(Ec x q.io=true/\xu e q.e=false))/\
  (∀q∈rn past.length xs es,past.length<=q.i)/\(rn past.length xs es).Pairwise fun p q=>p.i<q.i/\(q.io.anc.testBit p.i=true\/Ms p q):=by
 intro xs
 induction xs with
 |nil=>
  intro es past pe _ _ _ _;have:rn past.length [] es=[]:=by cases es<;>rfl
  rw[this];exact⟨fun q h=>by simp at h,fun q h=>by simp at h,.nil⟩
 |cons x xs ih=>
  intro es past pe hl hp hf hd;cases es with
  |nil=>simp at hl
  |cons e es=>
   simp only[JL,cE] at hf;simp only[nM,cE] at hd;obtain⟨i1,i2,i3⟩:=ih (es:=es) (past:=past++[x]) (pe:=pe++[e]) (by simpa using hl) (by simp[hp]) hf.2 hd.2;have hlen:(past++[x]).length=past.length+1:=af;rw[hlen] at i1 i2 i3;simp only[rn];refine⟨?_,?_,rG.2 ⟨?_,i3⟩⟩
   .intro q hq k y f hy Cs;rcases dh.1 hq with rfl|hq
    .have h1:=ajM hf.1 k y hy;have h2:=anh hd.1 k f Cs;rw[jt] at h1 h2;rcases h1 with h1|h1
     .exact .inl h1
     rcases h2 with h2|h2
     .exact .inl h2
     exact .inr ⟨h1,h2⟩
    have hk:k<past.length:=(aY.1 hy).1;exact i1 q hq k y f (by rw[uz hk];exact hy) (by rw[uz aa];exact Cs)
   .intro q hq;rcases dh.1 hq with rfl|hq
    .exact cA _
    have:=i2 q hq;omega
   intro q hq;refine⟨by have:=i2 q hq;simp only;omega,?_⟩;exact i1 q hq past.length x e af (by rw[<- hp];simp)
theorem am1{ops:Array Oper}{anc:Nat->Option Nat}{dst:Nat->Option Nat}{base nt:Nat}:∀ {r:List Oper} {xs:List bR} {es:List cn} {i:Nat},uK P dst anc base nt i r=some xs->es.length=xs.length->(∀j,ops[i+j]?=r[j]?)->
  (∀p∈rn i xs es,∃o,ops[p.i]?=some o/\B8 P dst ((base+p.i)*64) nt ((anc p.i).getD 0) o=some p.io)/\ ∀k,i<=k->k<i+r.length->∃p∈rn i xs es,p.i=k:=by
 intro r
 induction r with
 |nil=>
  intro xs es i h _ _;simp only[uK,fe] at h;subst h;have:rn i [] es=[]:=by cases es<;>rfl
  rw[this];exact⟨fun p h=>by simp at h,fun k h1 h2=>by simp at h2;omega⟩
 |cons o r ih=>
  intro xs es i h hl KM;obtain⟨x,xs',rfl,h1,h2⟩:=Qt h;cases es with
  |nil=>simp at hl
  |cons e es=>
   obtain⟨i1,i2⟩:=ih (es:=es) h2 (by simpa using hl) (fun j=>by have:=KM (j+1);rw[show i+1+j=i+(j+1) by omega];simpa using this);refine⟨fun p hp=>?_,fun k cH nz=>?_⟩
   .rcases dh.1 hp with rfl|hp
    .exact⟨o,by have:=KM 0;simpa using this,h1⟩
    exact i1 p hp
   by_cases hk:k=i
   .exact⟨⟨i,x,e⟩,by simp[rn],hk.symm⟩
   obtain⟨p,hp,fQ⟩:=i2 k aa (by simp at nz;omega);exact⟨p,by simp[rn,hp],fQ⟩
theorem aqV{sh:Ctx}{cp:fp}{cs:jh}:∀ {xs:List bR} {ak aI:Env} {aj ao:aA} {es:List cn},steps sh cp cs xs ak aj=some (aI,ao,es)->es.length=xs.length:=by
 intro xs
 induction xs with
 |nil=>intro ak aI aj ao es h;simp only[steps,fe,jG] at h;rw[<- h.2.2];rfl
 |cons x xs ih=>
  intro ak aI aj ao es h;simp only[steps] at h;split at h
  .split at h
   .rename_i h2;cases h;simp[ih h2]
   cases h
  cases h
theorem ah1{dst anc:Nat->Option Nat}{base nt:Nat}:∀ {r:List Oper} {xs:List bR} {i:Nat},uK P dst anc base nt i r=some xs->xs.length=r.length:=by
 intro r
 induction r with
 |nil=>intro xs i h;simp only[uK,fe] at h;subst h;rfl
 |cons o r ih=>intro xs i h;obtain⟨x,xs',rfl,_,h2⟩:=Qt h;simp[ih h2]
section
variable {G:World->Prop} (hG:Good G w0) {cp:fp} {cs:jh} (hP:BU P G cp) (hS:DI P G cs) (hL:yH cs) {sh:Ctx}
include hG hP hS hL
theorem aiH(xT:P.follows .mixedOrders=true){ops:Array Oper}{base nt id:Nat}{Q:Exit->Act->World->Prop}{l:List bR}{ak aI:Env}{m:Mem}{ao:aA}{es:List cn}{a:Act}(hc:uK P (fun j=>(ops[j]?).bind (·.dst)) (fun i=>(Region.before ops)[i]?) base nt 0 ops.toList=some l)
  (Cp:FX ops=true) (hf:JL l []=true) (cJ:steps sh cp cs l ak m.aj=some (aI,ao,es)) (hd:nM l [] es=true) (aq:Ok w0 m) (hr:im m ak a.tmps) (fq:a.tmps.size=nt) (hK:DK w0 m a nt aI ao (fun a' w'=>Q .normal a' w')):(Code.region id ops true).wp P Q a m.w:=by
 refine wp_region_any xT ?_;have hlen:=aqV cJ;have mJ:l.length=ops.size:=by have:=ah1 hc;simpa using this
 obtain⟨g1,g2⟩:=am2 0 hlen;obtain⟨_,_,hp⟩:=am3 (past:=[]) (pe:=[]) hlen rfl hf hd;obtain⟨c1,c2⟩:=am1 (ops:=ops) hc hlen (fun j=>af);have mg:Ok w0 (m.later m.w.drew fun _=>False):=K9 aq (eZ.drew _) fun _ h=>h.elim;have tS:Ev m (m.later m.w.drew fun _=>False):=HD (eZ.drew _) fun _ h=>h.elim;have r5:(m.later m.w.drew fun _=>False).fr=m.fr:=by funext c;simp[Mem.later]
 refine agB (m:=m.later m.w.drew fun _=>False) hG hP hS hL Cp ops.size (rem:=rn 0 l es) (base:=base) ⟨hp,c1,af,fun i=>?_,fun i hi=>?_⟩ ?_ (by rw[g1,g2];exact cJ) mg (hr.ev tS) fq ?_
 .constructor
  .intro h;have hi:i<ops.size:=by
    have:=(Pm.1 h).1
    simpa using this
   exact c2 i (bn _) (by simpa using hi)
  rintro ⟨p,hp,rfl⟩
  obtain⟨o,ho,_⟩:=c1 p hp;have hi:p.i<ops.size:=(Pm.1 ho).1;simp[hi]
 .rw[Array.getElem?_replicate] at hi;split at hi<;>simp at hi
 .have:(rn 0 l es).length=l.length:=by have:=congrArg List.length g1;simpa using this
  omega
 intro a2 m2 p1 p2 p3 p4 p5 p6 p7;exact hK a2 m2 p1 (tS.trans p2) (p3.trans r5) p4 p5 p6 p7
end
end Go.Abs
namespace Go.Abs
variable {P:Program} {w0:World}
def toE:lk->Exit
 | .normal=>.normal
 | .exit i=>.exit i
 | .ret=>.ret
section
variable {G:World->Prop} (hG:Good G w0) {cp:fp} {cs:jh} (hP:BU P G cp) (hS:DI P G cs) (hL:yH cs) (xT:P.follows .mixedOrders=true) {sh:Ctx}
include hG hP hS hL xT
theorem ajg{n f nt:Nat}:∀(c:Code) {ic:aK} {ak aI:Env} {m:Mem} {ao:aA} {e:lk} {a:Act} {Q:Exit->Act->World->Prop},ni P f nt c=some ic->exec sh cp cs n ic ak m.aj=some (e,aI,ao)->Ok w0 m->im m ak a.tmps->a.tmps.size=nt->
  DK w0 m a nt aI ao (fun a' w'=>Q (toE e) a' w')->c.wp P Q a m.w:=by
 intro c
 induction c with
 |skip=>intro ic ak aI m ao e a Q hc hx aq hr fq hK;simp only[ni,fe] at hc;subst hc;simp only[exec,fe,jG] at hx;obtain⟨rfl,rfl,rfl⟩:=hx;exact wp_skip (hK a m aq (Ev.refl m) rfl rfl hr fq rfl)
 |label l=>intro ic ak aI m ao e a Q hc hx aq hr fq hK;simp only[ni,fe] at hc;subst hc;simp only[exec,fe,jG] at hx;obtain⟨rfl,rfl,rfl⟩:=hx;exact wp_label (hK a m aq (Ev.refl m) rfl rfl hr fq rfl)
 |ret=>intro ic ak aI m ao e a Q hc hx aq hr fq hK;simp only[ni,fe] at hc;subst hc;simp only[exec,fe,jG] at hx;obtain⟨rfl,rfl,rfl⟩:=hx;exact wp_ret (hK a m aq (Ev.refl m) rfl rfl hr fq rfl)
 |exit id=>intro ic ak aI m ao e a Q hc hx aq hr fq hK;simp only[ni,fe] at hc;subst hc;simp only[exec,fe,jG] at hx;obtain⟨rfl,rfl,rfl⟩:=hx;exact wp_exit (hK a m aq (Ev.refl m) rfl rfl hr fq rfl)
 |region id ops draw=>
  intro ic ak aI m ao e a Q hc hx aq hr fq hK;simp only[ni] at hc;split at hc
  .rename_i xs K0;cases draw with
   |false=>
    simp only[eH,if_false,fe] at hc;subst hc;simp only[exec] at hx;split at hx
    .rename_i e1 b1 es cJ;simp only[eH,if_false,fe,jG] at hx;obtain⟨rfl,rfl,rfl⟩:=hx;exact aoV hG hP hS K0 cJ aq hr fq hK
    cases hx
   |true=>
    simp only[if_true] at hc K0;split at hc
    .rename_i wg;simp only[cE] at wg;cases hc;simp only[exec] at hx;split at hx
     .rename_i e1 b1 es cJ;simp only[if_true] at hx;split at hx
      .rename_i hd;cases hx;exact aiH hG hP hS hL xT K0 wg.1 wg.2 cJ hd aq hr fq hK
      cases hx
     cases hx
    cases hc
  cases hc
 |seq x y ihx ihy=>
  intro ic ak aI m ao e a Q hc hx aq hr fq hK;simp only[ni] at hc;split at hc
  .rename_i ix iy h1 h2;cases hc;simp only[exec] at hx;refine wp_seq ?_;split at hx
   .rename_i eS bt pS;refine ihx h1 pS aq hr fq ?_;intro a1 m1 k1 k2 k3 k4 k5 k6 k7;subst k4;refine ihy h2 hx k1 k5 k6 ?_;intro a2 m2 p1 p2 p3 p4 p5 p6 p7;exact hK a2 m2 p1 (k2.trans p2) (p3.trans k3) p4 p5 p6 (p7.trans k7)
   rename_i aM;refine ihx h1 hx aq hr fq ?_;intro a1 m1 k1 k2 k3 k4 k5 k6 k7;have:=hK a1 m1 k1 k2 k3 k4 k5 k6 k7;cases e with
   |normal=>exact(aM aI ao hx).elim
   |exit i=>exact this
   |ret=>exact this
  cases hc
 |cond x p q ihp ihq=>
  intro ic ak aI m ao e a Q hc hx aq hr fq hK;simp only[ni] at hc;split at hc
  .rename_i c' ip iq h1 h2 h3;cases hc;simp only[exec] at hx;split at hx
   .rename_i t ht;have hv:=dQ h1 hr;rw[ht] at hv;refine wp_cond (CW hv) ?_;cases t with
    |true=>simp only[if_true] at hx ⊢;exact ihp h2 hx aq hr fq hK
    |false=>simp only[eH,if_false] at hx ⊢;exact ihq h3 hx aq hr fq hK
   cases hx
  cases hc
 |block id c ih=>
  intro ic ak aI m ao e a Q hc hx aq hr fq hK;simp only[ni,dq] at hc;obtain⟨ic',h1,rfl⟩:=hc;simp only[exec] at hx;refine wp_block ?_;split at hx
  .rename_i i eS bt pS;refine ih h1 pS aq hr fq ?_;intro a1 m1 k1 k2 k3 k4 k5 k6 k7;simp only[toE,Exit.inBlock];split at hx
   .rename_i hi;cases hx;rw[aE hi];exact hK a1 m1 k1 k2 k3 k4 k5 k6 k7
   rename_i hi;cases hx;rw[aD hi];exact hK a1 m1 k1 k2 k3 k4 k5 k6 k7
  rename_i aM;refine ih h1 hx aq hr fq ?_;intro a1 m1 k1 k2 k3 k4 k5 k6 k7;have:=hK a1 m1 k1 k2 k3 k4 k5 k6 k7;cases e with
  |normal=>exact this
  |exit i=>exact(aM i aI ao hx).elim
  |ret=>exact this
 |loop c ih=>
  intro ic ak aI m ao e a Q hc hx aq hr fq hK;simp only[ni,dq] at hc;obtain⟨ic',h1,rfl⟩:=hc;simp only[exec] at hx;refine wp_loop_rounds n ?_;have key:∀(k:Nat) {ak:Env} {m:Mem} {a:Act},iter (exec sh cp cs n ic') k ak m.aj=some (e,aI,ao)->Ok w0 m->im m ak a.tmps->a.tmps.size=nt->DK w0 m a nt aI ao (fun a' w'=>Q (toE e) a' w')->Code.rounds P c Q k a m.w:=by
   intro k
   induction k with
   |zero=>intro ak m a hx;simp[iter] at hx
   |succ k ihk=>
    intro ak m a hx aq hr fq hK;rw[rounds_succ];simp only[iter] at hx;split at hx
    .rename_i eS bt pS;refine ih h1 pS aq hr fq ?_;intro a1 m1 k1 k2 k3 k4 k5 k6 k7;subst k4;refine ihk hx k1 k5 k6 ?_;intro a2 m2 p1 p2 p3 p4 p5 p6 p7;exact hK a2 m2 p1 (k2.trans p2) (p3.trans k3) p4 p5 p6 (p7.trans k7)
    rename_i aM;refine ih h1 hx aq hr fq ?_;intro a1 m1 k1 k2 k3 k4 k5 k6 k7;have:=hK a1 m1 k1 k2 k3 k4 k5 k6 k7;cases e with
    |normal=>exact(aM aI ao hx).elim
    |exit i=>exact this
    |ret=>exact this
  exact key n hx aq hr fq hK
 |scope c ih=>intro ic ak aI m ao e a Q hc hx aq hr fq hK;simp only[ni] at hc;refine wp_scope_straight ?_;refine ih hc hx aq hr fq ?_;intro a1 m1 k1 k2 k3 k4 k5 k6 k7;have:=hK a1 m1 k1 k2 k3 k4 k5 k6 k7;cases e<;>exact this
 |_=>intro ic ak aI m ao e a Q hc hx;simp only[ni,fe] at hc;subst hc;simp[exec] at hx
end
end Go.Abs
namespace Go.Abs
variable {P:Program} {w0:World}
section
variable{m:Mem}
theorem aq3{k:Option Nat}{cs:List C}{v:V}{u:Value}(h:nQ k cs=some v)(hr:bJ m v u):mA m v u:=by
 unfold nQ at h;split at h
 .split at h
  .cases h;exact hr
  cases h
 split at h
 .cases h;exact hr
 cases h
theorem am8{x v:V}{u:Value}(h:Oc x=some v)(hr:bJ m x u):mA m v u:=by cases x<;>simp only[Oc,fe,reduceCtorEq] at h<;>subst h<;>exact hr
theorem acS{α β:Type}{f:α->Sem β}{x:α}{xs:List α}{y:β}{ys:List β}{w:World}(h1:(f x).run P w=.ok y w)(h2:(xs.mapM f).run P w=.ok ys w):((x::xs).mapM f).run P w=.ok (y::ys) w:=by simp only[List.mapM_cons,Sem.run_bind,h1,h2,Result.andThen_ok,Sem.run_pure]
theorem ao3{al:Al}(aq:Ok w0 m){ak:Env}{tmps:Array Value}(hr:im m ak tmps):∀ {rs:List ResultVar} {l:List (Nat×Option (Option Nat))} {vs:List V},zJ P rs=some l->mV al ak m.aj l=some vs->
  ∃ys,(rs.mapM (fun| .tmp t=>pure (tmps.getD t undef)| .cell a t=>do loadVar t (<- asAddr (tmps.getD a undef)):ResultVar->Sem Value)).run P m.w=.ok ys m.w/\Pw (mA m) vs ys:=by
 intro rs
 induction rs with
 |nil=>intro l vs h1 h2;simp only[zJ,fe] at h1;subst h1;simp only[mV,fe] at h2;subst h2;exact⟨[],by simp[Sem.run_pure],rfl,fun j x u p=>by simp at p⟩
 |cons r rs ih=>
  intro l vs h1 h2;have cons:∀ {x:V} {xs:List V} {y:Value} {ys:List Value},mA m x y->Pw (mA m) xs ys->Pw (mA m) (x::xs) (y::ys):=by
   intro x xs y ys p q;refine⟨by simp[q.1],fun j z u a b=>?_⟩;cases j with
   |zero=>simp at a b;subst a b;exact p
   |succ j=>exact q.2 j z u (by simpa using a) (by simpa using b)
  cases r with
  |tmp t=>
   simp only[zJ,dq] at h1;obtain⟨l',h3,rfl⟩:=h1;simp only[mV] at h2;split at h2
   .rename_i v q e1 e2;cases h2;obtain⟨ys,g1,g2⟩:=ih h3 e2;exact⟨_::ys,acS (by simp[Sem.run_pure]) g1,cons (am8 e1 (hr t)) g2⟩
   cases h2
  |cell a t=>
   simp only[zJ] at h1;split at h1
   .rename_i k q e1 e2;cases h1;simp only[mV] at h2;split at h2
    .rename_i cs rd ws e3 e4;split at h2
     case isFalse=>cases h2
     simp only[dq] at h2;obtain⟨v,hv,rfl⟩:=h2;obtain⟨ys,g1,g2⟩:=ih e2 e4;obtain⟨ad,y,p1,p2,p3⟩:=acA e1 (ad5 aq e3 (hr a)) hv;exact⟨y::ys,acS (by simp[p1,asAddr,p2]) g1,cons (aq3 hv p3) g2⟩
    cases h2
   cases h1
theorem ao4{al:Al}(aq:Ok w0 m){ak:Env}{tmps:Array Value}(hr:im m ak tmps){fn:Func}{l:List (Nat×Option (Option Nat))}{vs:List V}(h1:zJ P fn.results.toList=some l)(h2:mV al ak m.aj l=some vs):
  ∃y,(results fn tmps).run P m.w=.ok y m.w/\bJ m (yA vs) y:=by
 obtain⟨ys,g1,g2⟩:=ao3 aq hr h1 h2;have jP:(results fn tmps).run P m.w=.ok (if h:ys.toArray.size=1 then ys.toArray[0] else .tuple ys.toArray) m.w:=by
  unfold results;simp only[Array.mapM_eq_mapM_toList,map_eq_pure_bind,Sem.run_bind,Result.andThen_ok,Sem.run_pure,bind_assoc,pure_bind]
  erw[g1]
  simp only[Result.andThen_ok,Sem.run_pure]
 refine⟨_,jP,?_⟩
 match vs,ys,g2 with
 |[v],[y],g2=>exact bJ.of1 (g2.2 0 v y rfl rfl)
 |[],[],g2=>exact⟨_,rfl,rfl,fun j x u p=>by simp at p⟩
 |v::v'::vs,y::y'::ys,g2=>refine⟨_,rfl,by simpa using g2.1,fun j x u p q=>g2.2 j x u p (by simpa using q)⟩
 |[],y::ys,g2=>exact absurd g2.1 af
 |v::vs,[],g2=>exact absurd g2.1 af
 |[v],y::y'::ys,g2=>exact absurd g2.1 af
 |v::v'::vs,[y],g2=>exact absurd g2.1 af
theorem XJ{f:Nat}{fn:aX}(h:As P f=some fn):∃kf c,P.funcs[f]?=some kf/\kf.body=some c/\(kf.name== "runtime.NumGoroutine")=false/\ni P f kf.ntmps c=some fn.body/\zJ P kf.results.toList=some fn.results/\fn.ntmps=kf.ntmps:=by
 unfold As at h;split at h
 .cases h
 rename_i kf hf;split at h
 .cases h
 rename_i c hc;split at h
 .cases h
 rename_i hn;split at h
 .rename_i b r h1 h2;cases h;exact⟨kf,c,hf,hc,by simpa using hn,h1,h2,rfl⟩
 cases h
def WE(S:Sys)(G:World->Prop):Prop:=∀f vs r,S.prim f vs=some (some r)->Enters S.P f/\ ∀(w:World) (O:Nat->Prop) (args:Array Value),Good G w->(∀c,O c->c<w.heap.size)->Pw (qN w O) vs args.toList->Calls S.P f args w (tC w O r)
def af5(S:Sys)(G:World->Prop):Prop:=∀f vs al aj v ao,S.trig f vs=true->(S.primS f vs al aj).map (fun r=>(r.1,app r.2 aj))=some (v,ao)->
 (Enters S.P f/\ ∀(w0:World) (m:Mem) (args:Array Value),Good G w0->Ok w0 m->m.aj=aj->Pw (bJ m) vs args.toList->Calls S.P f args m.w (FN w0 m v ao))/\
 (∀id,al.ok id=false->ao id=aj id)/\
 ∀bd,(∀id,al.ok id=true->bd id=aj id)->∃kI,(S.primS f vs al bd).map (fun r=>(r.1,app r.2 bd))=some (v,kI)/\ ∀id,kI id=if al.ok id then ao id else bd id
structure FP (S:Sys) (G:World->Prop):Prop where
 follow:S.P.follows .mixedOrders=true
 fns:∀f fn,S.fns f=some fn->As S.P f=some fn
 prim:WE S G
 primS:af5 S G
theorem aqN{vs:List V}{args:Array Value}{nt:Nat}(h:Pw (bJ m) vs args.toList)(hl:vs.length<=nt):im m (qH vs) (args++Array.replicate (nt-args.size) undef)/\(args++Array.replicate (nt-args.size) undef).size=nt:=by
 have hs:args.size=vs.length:=by simpa using h.1
 constructor
 .intro t;by_cases ht:t<vs.length
  .have h1:qH vs t=vs[t]:=by simp[qH,List.getD,ht]
   have h2:(args++Array.replicate (nt-args.size) undef).getD t undef=args[t]:=by simp[BD,afy,hs,ht]
   rw[h1,h2];exact h.2 t _ _ (by simp[ht]) (by simp[hs,ht])
  have h1:qH vs t=.undef:=by simp[qH,List.getD,nV (afV ht)]
  have h2:(args++Array.replicate (nt-args.size) undef).getD t undef=undef:=by simp only[BD,afy,hs,aD ht];rw[Array.getElem?_replicate];split<;>rfl
  rw[h1,h2];rfl
 simp;omega
theorem agF(aq:Ok w0 m):∀ {o q:List Nat},apart o q=true->(∀id∈o,∃ob,(m.aj id).2=some ob/\ob.fc=true)->(o.map m.σ).Nodup/\ ∀id∈q,id∉o:=by
 intro o
 induction o with
 |nil=>intro q _ _;exact⟨af,fun id _ h=>by simp at h⟩
 |cons i o ih=>
  intro q h hm;simp only[apart,cE,kW] at h;obtain⟨⟨h1,h2⟩,h3⟩:=h;obtain⟨i1,i2⟩:=ih h3 (fun id hid=>hm id (by simp[hid]));have jK:i∉o:=by simpa using h1
  have iS:i∉q:=by simpa using h2
  refine⟨?_,fun id hid=>?_⟩
  .rw[eE,qj];refine⟨fun nC=>?_,i1⟩;obtain⟨j,hj,he⟩:=dy.1 nC;obtain⟨ob,a1,a2⟩:=hm i af;obtain⟨ob',b1,b2⟩:=hm j (by simp[hj]);exact jK (aq.inj j i ob' ob b1 b2 a1 a2 he▸hj)
  simp only[dh,Ab];exact⟨fun e=>iS (e▸hid),i2 id hid⟩
theorem anu{aj:aA}:∀ {cs:List C} {rs:List RC} {o q:List Nat},iY aj cs=some (rs,o,q)->rs.length=cs.length:=by
 intro cs
 induction cs with
 |nil=>intro rs o q h;simp only[iY,fe,jG] at h;obtain⟨rfl,_,_⟩:=h;rfl
 |cons c cs ih=>
  intro rs o q h;simp only[iY] at h;split at h
  .rename_i x o1 q1 xs os qs h1 h2;cases h;simp[ih h2]
  cases h
theorem XH{α β:Type}{f:α->Option (β×List Nat)}:∀ {xs:List α} {ys:List β} {r:List Nat},collect f xs=some (ys,r)->∀id∈r,∃x y q,f x=some (y,q)/\id∈q:=by
 intro xs
 induction xs with
 |nil=>intro ys r h id hid;simp[collect] at h;rw[h.2] at hid;simp at hid
 |cons x xs ih=>
  intro ys r h id hid;simp only[collect] at h;split at h
  .rename_i b p bs q e1 e2;cases h;rcases fi.1 hid with hid|hid
   .exact⟨x,b,p,e1,hid⟩
   exact ih e2 id hid
  cases h
theorem aqw{aj:aA}:∀ {n:Nat} {c:C} {x:PV} {r:List Nat},snap aj n c=some (x,r)->∀id∈r,∃ob,(aj id).2=some ob:=by
 intro n
 induction n with
 |zero=>intro c x r h;simp[snap] at h
 |succ n ih=>
  intro c x r h id hid;have one:∀ {i:Nat} {ob:Ob} {g:Nat},aj i=(g,some ob)->id∈[i]->∃ob,(aj id).2=some ob:=by intro i ob g hb hi;simp at hi;subst hi;exact⟨ob,by rw[hb]⟩
  have coll:∀ {cs:List C} {ps:List PV} {r:List Nat},collect (snap aj n) cs=some (ps,r)->id∈r->∃ob,(aj id).2=some ob:=by intro cs ps r h hi;obtain⟨x,y,q,h1,h2⟩:=XH h id hi;exact ih h1 id h2
  unfold snap at h;split at h
  .cases h;simp at hid
  .split at h
   .rename_i hb;split at h
    .split at h
     .rename_i hc;cases h;rcases dh.1 hid with e|hid
      .exact one hb (by simp[e])
      exact coll hc hid
     cases h
    cases h
   .rename_i hb;split at h
    .cases h;exact one hb hid
    cases h
   cases h
  .split at h
   .rename_i hb;split at h
    .simp only[dq] at h;obtain⟨e,_,h2⟩:=h;cases h2;exact one hb hid
    cases h
   .rename_i hb;split at h
    .simp only[dq] at h;obtain⟨e,_,h2⟩:=h;cases h2;exact one hb hid
    cases h
   cases h
  .split at h
   .rename_i hb;split at h
    .cases h;exact one hb hid
    cases h
   .rename_i hb;split at h
    .cases h;exact one hb hid
    cases h
   .rename_i hb;split at h
    .split at h
     .rename_i hc;cases h;rcases dh.1 hid with e|hid
      .exact one hb (by simp[e])
      obtain⟨x,y,q,h1,h2⟩:=XH hc id hid;exact coll h1 h2
     cases h
    cases h
   cases h
  .split at h
   .rename_i hb;split at h
    .cases h;exact one hb hid
    cases h
   .rename_i hb;split at h
    .cases h;exact one hb hid
    cases h
   cases h
  split at h
  .rename_i h1 h2;cases h;rcases fi.1 hid with hid|hid
   .exact coll h1 hid
   exact coll h2 hid
  cases h
theorem anv{aj:aA}:∀ {cs:List C} {rs:List RC} {o q:List Nat},iY aj cs=some (rs,o,q)->∀id∈q,∃ob,(aj id).2=some ob:=by
 intro cs
 induction cs with
 |nil=>intro rs o q h id hid;simp only[iY,fe,jG] at h;rw[<- h.2.2] at hid;simp at hid
 |cons c cs ih=>
  intro rs o q h id hid;simp only[iY] at h;split at h
  .rename_i x o1 q1 xs os qs h1 h2;cases h;rcases fi.1 hid with hid|hid
   .have sn:(snap aj fM c).map (fun(v,r)=>((.p v:RC),([]:List Nat),r))=some (x,o1,q1)->∃ob,(aj id).2=some ob:=by
     intro h1;simp only[dq] at h1;obtain⟨⟨y,r⟩,h3,h4⟩:=h1;cases h4;exact aqw h3 id hid
    unfold fm at h1;split at h1
    .cases h1;simp at hid
    .split at h1
     .split at h1
      .cases h1;simp at hid
      cases h1
     exact sn h1
    exact sn h1
   exact ih h2 id hid
  cases h
theorem anx{w:World}{O:Nat->Prop}{m0:Mem}(aq:Ok w m)(dA:Ev m0 m)(pN:m0.w=w)(TN:∀c,¬m0.fc c)(r5:m.fr=O){v:V}{r:RV}{val:Value}(h:fv m.aj v=some r)(hr:bJ m v val):tC w O r (.returned val) m.w:=by
 unfold fv at h;split at h
 .rename_i cs cX;split at h
  .rename_i rs o q ho;split at h
   .rename_i vU;cases h;obtain⟨vs,hc,iu⟩:=ajF cX hr;obtain⟨g1,g2⟩:=iu rs (anu ho);have hm:=(adt aq (Q:=fun _=>False) (fun _ h=>h.elim) ho hc (fun _ _ h=>h)).2;obtain⟨eV,aky⟩:=agF aq vU hm;have aaz:∀b,(O b\/b∈o.map m.σ)->m.own b:=by
     intro b hb;rcases hb with hb|hb
     .exact .inl (r5▸hb)
     obtain⟨id,hid,rfl⟩:=dy.1 hb;obtain⟨ob,h1,h2⟩:=hm id hid;exact .inr ⟨id,ob,h1,h2,rfl⟩
    have hq:∀id∈q,¬(O (m.σ id)\/m.σ id∈o.map m.σ):=by
     intro id hid hn;obtain⟨ob,hob⟩:=anv ho id hid;by_cases CC:ob.fc=true
     .rcases hn with hn|hn
      .exact(aq.eI id ob hob CC).2 (r5▸hn)
      obtain⟨j,hj,he⟩:=dy.1 hn;obtain⟨ob',b1,b2⟩:=hm j hj;exact aky id hid (aq.inj j id ob' ob b1 b2 hob CC he▸hj)
     have dm:¬m.own (m.σ id):=by
      have zc:=aq.obj id ob hob;cases ob<;>simp[Ob.fc] at CC
      .obtain⟨_,_,_,_,_,dm⟩:=zc;exact dm
      .obtain⟨_,_,_,_,_,_,_,_,_,dm⟩:=zc;exact dm
      obtain⟨_,_,_,_,_,dm⟩:=zc;exact dm
     exact dm (aaz _ hn)
    obtain⟨hrc,_⟩:=adt aq aaz ho hc hq;subst pN;refine⟨val,o.map m.σ,rfl,⟨dA.os,dA.tape,dA.output,dA.size,fun c hc=>dA.keep c hc (TN c)⟩,eV,fun c hc=>?_,vs,g2,by rw[g1];exact hrc⟩;obtain⟨id,hid,rfl⟩:=dy.1 hc;obtain⟨ob,h1,h2⟩:=hm id hid;exact⟨(aq.eI id ob h1 h2).1,(aq.obj id ob h1).lt⟩
   cases h
  cases h
 cases h
theorem qN.vrel{w:World}{O:Nat->Prop}(hw:m.w=w)(ho:m.own=O){x:V}{v:Value}(h:qN w O x v):bJ m x v:=by
 subst hw ho;cases x with
 |undef=>exact h.elim
 |tup _=>exact h.elim
 |one c=>
  cases c with
  |p x=>exact kO h
  |_=>exact h.elim
 |agg cs=>obtain⟨arr,ps,rfl,rfl,hp⟩:=h;exact bJ.agg.2 ⟨arr,rfl,hp.By⟩
theorem apm{sh:Ctx}{cp:fp}{cs:jh}{n:Nat}{fn:aX}{args:List V}{aj ao:aA}{v:V}(h:qd sh cp cs n fn args aj=some (v,ao)):
  ∃e ak vs,exec sh cp cs n fn.body (qH args) aj=some (e,ak,ao)/\(e=.normal\/e=.ret)/\mV sh.al ak ao fn.results=some vs/\v=yA vs:=by
 unfold qd at h;split at h
 .rename_i ak b hx;simp only[dq] at h;obtain⟨vs,h1,h2⟩:=h;cases h2;exact⟨_,ak,vs,hx,.inl rfl,h1,rfl⟩
 .rename_i ak b hx;simp only[dq] at h;obtain⟨vs,h1,h2⟩:=h;cases h2;exact⟨_,ak,vs,hx,.inr rfl,h1,rfl⟩
 cases h
theorem ael{G:World->Prop}(hG:Good G w0){cp:fp}{cs:jh}(hP:BU P G cp)(hS:DI P G cs)(hL:yH cs)(xT:P.follows .mixedOrders=true){sh:Ctx}{n f:Nat}{fn:aX}(hc:As P f=some fn){vs:List V}{m:Mem}{v:V}{ao:aA}{args:Array Value}(h:qd sh cp cs n fn vs m.aj=some (v,ao))
  (hl:vs.length<=fn.ntmps) (aq:Ok w0 m) (ha:Pw (bJ m) vs args.toList):Calls P f args m.w (FN w0 m v ao):=by
 obtain⟨kf,c,h1,h2,h3,h4,h5,h6⟩:=XJ hc;obtain⟨e,ak,rs,hx,he,zg,rfl⟩:=apm h;refine calls_of_wp h1 h2 ?_;obtain⟨s1,s2⟩:=aqN (nt:=kf.ntmps) ha (by rw[<- h6];exact hl);refine ajg hG hP hS hL xT c h4 hx aq s1 s2 ?_;intro a' m' k1 k2 k3 k4 k5 k6 k7;subst k4;obtain⟨y,g1,g2⟩:=ao4 k1 k5 h5 zg;have:bodyPost P kf (FN w0 m (yA rs) m'.aj) .normal a' m'.w:=⟨k7,y,g1,y,m',rfl,rfl,k1,k2,k3,rfl,g2⟩;rcases he with rfl|rfl
 .exact this
 exact this
theorem enters_of{f:Nat}{fn:aX}(hc:As P f=some fn):Enters P f:=by obtain⟨kf,c,h1,h2,h3,_⟩:=XJ hc;exact⟨kf,c,h1,h2,h3⟩
theorem sound{S:Sys}{G:World->Prop}(h:FP S G):∀n,BU S.P G (fL S n)/\DI S.P G (fD S n)/\yH (fD S n):=by
 intro n
 induction n with
 |zero=>exact⟨fun f vs r h=>by simp[fL] at h,fun f vs al aj v ao h=>by simp[fD] at h,fun f vs al aj v ao h=>by simp[fD] at h⟩
 |succ n ih=>
  obtain⟨hP,hS,hL⟩:=ih;refine⟨?_,?_,?_⟩
  .intro f vs r hc;rw[fL] at hc;split at hc
   .rename_i r' hp;subst hc;exact h.prim f vs r hp
   split at hc
   .rename_i fn hfn;have tQ:=h.fns f fn hfn;split at hc
    .rename_i hl;refine⟨enters_of tQ,fun w O args hG hO ha=>?_⟩;unfold Dq at hc;split at hc
     .rename_i v ao hr
      let m0:Mem:=⟨w,zA,fun _=>0,fun _=>0,O⟩
      have ak7:m0.own=O:=by
       funext c;apply propext;constructor
       .rintro (h|⟨id,o,h,_⟩)
        .exact h
        cases h
       exact .inl
      have aq:Ok w m0:=⟨rfl,rfl,rfl,cA _,fun _ _=>rfl,(fun id o h=>by cases h),(fun id o h=>by cases h),hO,(fun id ez o o' h=>by cases h)⟩;have hav:Pw (bJ m0) vs args.toList:=⟨ha.1,fun j x u p q=>(ha.2 j x u p q).vrel rfl ak7⟩;refine(ael hG hP hS hL h.follow tQ (m:=m0) hr hl aq hav).mono ?_;rintro e w' ⟨val,m',rfl,rfl,q1,q2,q3,q4,q5⟩
      subst q4;exact anx (m0:=m0) q1 q2 rfl (fun c ⟨id,o,h,_⟩=>by cases h) q3 hc q5
     cases hc
    cases hc
   cases hc
  .intro f vs al aj v ao hc;rw[fD] at hc;by_cases ht:S.trig f vs=true
   .rw[aE ht] at hc;exact(h.primS f vs al aj v ao ht hc).1
   rw[aD ht] at hc;split at hc
   .rename_i fn hfn;have tQ:=h.fns f fn hfn;split at hc
    .rename_i hl;refine⟨enters_of tQ,fun w0 m args hG aq hb ha=>?_⟩;subst hb;exact ael hG hP hS hL h.follow tQ hc hl aq ha
    cases hc
   cases hc
  intro f vs al aj v ao hc;rw[fD] at hc;by_cases ht:S.trig f vs=true
  .rw[aE ht] at hc;obtain⟨_,l1,l2⟩:=h.primS f vs al aj v ao ht hc;refine⟨l1,fun bd h2=>?_⟩;obtain⟨b3,h3,h4⟩:=l2 bd h2;exact⟨b3,by rw[fD,aE ht];exact h3,h4⟩
  rw[aD ht] at hc;split at hc
  .rename_i fn hfn;split at hc
   .rename_i hl;obtain⟨l1,l2⟩:=apl hL hc;refine⟨l1,fun bd h2=>?_⟩;obtain⟨b3,h3,h4⟩:=l2 bd h2;exact⟨b3,by rw[fD,aD ht];simp only[hfn,hl,if_true];exact h3,h4⟩
   cases hc
  cases hc
theorem aJ.calls{S:Sys}{G:World->Prop}(h:FP S G){f:Nat}{vs:List V}{r:RV}(hc:aJ S f vs r)(w:World)(hG:Good G w)(args:Array Value)(ha:Pw (qN w fun _=>False) vs args.toList):Calls S.P f args w (tC w (fun _=>False) r):=by obtain⟨n,hn⟩:=hc;exact((sound h n).1 f vs r hn).2 w _ args hG (fun c h=>h.elim) ha
end
end Go.Abs
namespace Go.Abs
section
variable{args:List V}{cp:fp}{cs:jh}{sh:Ctx}
def AN(op:BinOp)(a b:Nat)(other:Option V):Option V:=
 match op with
 | .add=>bif Nat.ble (Nat.add a b) 9223372036854775807 then some (.one (.p (.int .i64 (.ofNat (Nat.add a b))))) else other
 | .sub=>bif Nat.ble b a then bif Nat.ble a 9223372036854775807 then some (.one (.p (.int .i64 (.ofNat (Nat.sub a b))))) else other else other
 | .mul=>bif Nat.ble (Nat.mul a b) 9223372036854775807 then some (.one (.p (.int .i64 (.ofNat (Nat.mul a b))))) else other
 | .eql=>some (.one (.p (.bool (Nat.beq a b))))
 | .neq=>some (.one (.p (.bool (!Nat.beq a b))))
 | .lss=>some (.one (.p (.bool (Nat.ble (Nat.succ a) b))))
 | .leq=>some (.one (.p (.bool (Nat.ble a b))))
 | .gtr=>some (.one (.p (.bool (Nat.ble (Nat.succ b) a))))
 | .geq=>some (.one (.p (.bool (Nat.ble b a))))
 | .rem=>bif Nat.beq b 0 then other else some (.one (.p (.int .i64 (.ofNat (Nat.mod a b)))))
 |_=>other
def Qi(op:BinOp)(x y:V):Option V:=
 match x,y with
 | .one (.p (.int .i64 (.ofNat a))),.one (.p (.int .i64 (.ofNat b)))=>AN op a b (pE op x y)
 |_,_=>pE op x y
theorem L0{n:Nat}(h:n<=9223372036854775807):IntKind.i64.wrap (n:Int)=n:=by have e:(2 ^ IntKind.i64.bits:Int)=18446744073709551616:=ae;have e2:(2 ^ (IntKind.i64.bits-1):Int)=9223372036854775808:=ae;unfold IntKind.wrap;simp only[e,e2];have h1:(n:Int)%18446744073709551616=n:=aa;rw[h1];have h2:¬(n:Int)≥9223372036854775808:=aa;simp[h2]
theorem ajs(op:BinOp)(a b:Nat):AN op a b (pE op (.one (.p (.int .i64 (.ofNat a)))) (.one (.p (.int .i64 (.ofNat b)))))=pE op (.one (.p (.int .i64 (.ofNat a)))) (.one (.p (.int .i64 (.ofNat b)))):=by
 have hb:∀ {x:Bool} {u v w:Option V},(x=true->u=w)->v=w->(bif x then u else v)=w:=by
  intro x u v w h1 h2;cases x with
  |false=>exact h2
  |true=>exact h1 rfl
 have ofn:∀n:Nat,(Int.ofNat n:Int)=(n:Int):=fun _=>rfl;have ble:∀ {a b:Nat},Nat.ble a b=decide ((a:Int)<=(b:Int)):=by
  intro a b;cases h:Nat.ble a b with
  |true=>have:=gj h;symm;simp;omega
  |false=>
   symm;simp;have:¬a<=b:=fun hh=>by rw[afT hh] at h;cases h
   omega
 have beq:∀ {a b:Nat},Nat.beq a b=((a:Int)==(b:Int)):=by
  intro a b;by_cases h:a=b
  .subst h;simp
  have h1:Nat.beq a b=false:=by
   cases e:Nat.beq a b with
   |false=>rfl
   |true=>exact(h (uC e)).elim
  rw[h1];symm;simp;omega
 cases op
 case add=>refine hb (fun h=>?_) rfl;have h:a+b<=9223372036854775807:=gj h;have:((a:Int)+(b:Int))=((a+b:Nat):Int):=aa;simp only[pE,rL,true_or,if_true,mw,ofn];rw[this,L0 h];rfl
 case sub=>refine hb (fun h0=>hb (fun h=>?_) rfl) rfl;have h:=gj h;have h0:=gj h0;have:((a:Int)-(b:Int))=((a-b:Nat):Int):=aa;simp only[pE,rL,true_or,if_true,mw,ofn];rw[this,L0 aa];rfl
 case mul=>refine hb (fun h=>?_) rfl;have h:a*b<=9223372036854775807:=gj h;have:((a:Int)*(b:Int))=((a*b:Nat):Int):=af;simp only[pE,rL,true_or,if_true,mw,ofn];rw[this,L0 h];rfl
 case rem=>
  by_cases h0:b=0
  .subst h0;rfl
  have h1:Nat.beq b 0=false:=by
   cases e:Nat.beq b 0 with
   |false=>rfl
   |true=>exact(h0 (uC e)).elim
  have h2:¬(b:Int)=0:=aa;simp only[AN,h1,cond_false,pE,rL,true_or,if_true,mw,ofn,aD h2];rfl
 case eql=>simp only[AN,pE,rL,true_or,if_true,mw,ofn,beq]
 case neq=>simp only[AN,pE,rL,true_or,if_true,mw,ofn,beq];rfl
 case lss=>simp only[AN,pE,rL,true_or,if_true,mw,ofn,ble];congr 4
 case leq=>simp only[AN,pE,rL,true_or,if_true,mw,ofn,ble]
 case gtr=>simp only[AN,pE,rL,true_or,if_true,mw,ofn,ble];congr 4
 case geq=>simp only[AN,pE,rL,true_or,if_true,mw,ofn,ble]
 all_goals rfl
theorem ahs(op:BinOp)(x y:V):Qi op x y=pE op x y:=by
 unfold Qi;split
 .exact ajs _ _ _
 rfl
def Ah(v:V):Option Nat:=
 match v with
 | .one (.p (.int _ (.ofNat n)))=>some n
 |v=>mZ v
theorem Xb(v:V):Ah v=mZ v:=by
 unfold Ah;split
 .simp[mZ]
 rfl
def F7(ak:Env)(d:Nat):Option aQ->Option Nat
 |none=>some d
 |some a=>Ah (ev ak a)
theorem ahu(ak:Env)(d:Nat)(a:Option aQ):F7 ak d a=qp ak d a:=by
 cases a with
 |none=>rfl
 |some a=>simp only[F7,qp,Xb]
def aon(ak:Env)(x:aQ):eQ:=.done (ev ak x) [] []
def aor(ak:Env)(c:aQ)(a:aQ)(b:aQ):eQ:=match ev ak c with
  | .one (.p (.bool t))=>.done (if t then ev ak a else ev ak b) [] []
  |_=>.fail
def anZ(aj:aA)(s:Nat)(z:List PV):eQ:=.done (.one (.ba s ((aj s).1+1) 0)) [(s,((aj s).1+1,some (.var (z.map .p))))] [s]
def an2(ak:Env)(aj:aA)(s:Nat)(x:aQ):eQ:=match qq (ev ak x) with
  |some cs=>.done (.one (.ba s ((aj s).1+1) 0)) [(s,((aj s).1+1,some (.var cs)))] [s]
  |none=>.fail
def an5(ak:Env)(z:List PV)(ps:List (Nat×Nat×aQ)):eQ:=match wO ak ps with
  |some q=>.done (.agg (fill (z.map .p) q)) [] []
  |none=>.fail
def an3(ak:Env)(aj:aA)(s:Nat)(ty:Nat)(sz:Nat)(ps:List aQ):eQ:=match xD ak sz ps with
  |some es=>match zQ es with
   |some qs=>.done (.one (.hsl s ((aj s).1+1) sz 0 es.length)) [(s,((aj s).1+1,some (.arr ty sz qs)))] [s]
   |none=>.done (.one (.hsl s ((aj s).1+1) sz 0 es.length)) [(s,((aj s).1+1,some (.gQ ty sz es)))] [s]
  |none=>.fail
def aof(ak:Env)(aj:aA)(k:Option Nat)(x:aQ):eQ:=match zI aj (ev ak x) with
  |some (cs,r)=>match nQ k cs with
   |some v=>.done v [] r
   |none=>.fail
  |none=>.fail
def aou(ak:Env)(aj:aA)(n:Nat)(a:aQ)(x:aQ):eQ:=match qq (ev ak x) with
  |some xs=>yB aj (ev ak a) n xs
  |none=>.fail
def aop(ak:Env)(x:aQ):eQ:=match ev ak x with
  | .one (.ba id g o)=>.done (.one (.ba id g o)) [] []
  | .one (.di id g i o)=>.done (.one (.di id g i o)) [] []
  | .one (.p (.box cs))=>.done (.one (.p (.box cs))) [] []
  | .one (.hfn f a b)=>.done (.one (.hfn f a b)) [] []
  | .one (.p (.fn f a b))=>.done (.one (.p (.fn f a b))) [] []
  |_=>.fail
def adO(ak:Env)(op:BinOp)(x:aQ)(y:aQ):eQ:=match Qi op (ev ak x) (ev ak y) with
  |some v=>.done v [] []
  |none=>.fail
def aoa(ak:Env)(k:tA)(neg:Bool)(x:aQ)(y:aQ):eQ:=match AL k (ev ak x) (ev ak y) with
  |some b=>.done (.one (.p (.bool (if neg then !b else b)))) [] []
  |none=>.fail
def aov(ak:Env)(op:UnOp)(x:aQ):eQ:=match op,ev ak x with
  | .not,.one (.p (.bool b))=>.done (.one (.p (.bool (!b)))) [] []
  | .neg,.one (.p (.int k n))=>.done (.one (.p (.int k (k.wrap (0-n))))) [] []
  |_,_=>.fail
def an8(ak:Env)(k:IntKind)(x:aQ):eQ:=match ev ak x with
  | .one (.p (.int _ n))=>.done (.one (.p (.int k (k.wrap n)))) [] []
  |_=>.fail
def an4(ak:Env)(aj:aA)(x:aQ):eQ:=match eN aj (ev ak x) with
  |some (es,r,[])=>match bytesOf es with
   |some bs=>.done (.one (.p (.str ⟨bs.toArray⟩))) [] r
   |none=>.fail
  |_=>.fail
def aoj(ak:Env)(f:Nat)(a:List aQ)(b:List aQ):eQ:=match uj ak a,uj ak b with
  |some x,some y=>.done (.one (.hfn f x y)) [] []
  |_,_=>.fail
def aol(aj:aA)(s:Nat)(ag:Bool):eQ:=.done (.one (.jP s ((aj s).1+1))) [(s,((aj s).1+1,some (.map ag [])))] [s]
def adQ(ak:Env)(aj:aA)(s:Nat)(ty:Nat)(sz:Nat)(bytes:Nat)(z:List PV)(l:aQ)(c:aQ):eQ:=match Ah (ev ak l),Ah (ev ak c) with
  |some n,some m=>if n=m/\n*bytes<=room then
    .done (.one (.hsl s ((aj s).1+1) sz 0 n)) [(s,((aj s).1+1,some (.arr ty sz (List.replicate n z))))] [s]
   else .fail
  |_,_=>.fail
def adS(ak:Env)(sz:Nat)(x:aQ)(lo:Option aQ)(hi:Option aQ):eQ:=match wJ (ev ak x) with
  |some n=>match F7 ak 0 lo,F7 ak n hi with
   |some l,some h=>Bq (ev ak x) sz l h
   |_,_=>.fail
  |none=>.fail
def adT(ak:Env)(x:aQ)(lo:Option aQ)(hi:Option aQ):eQ:=match ev ak x with
  | .one (.p (.str s))=>match F7 ak 0 lo,F7 ak s.size hi with
   |some l,some h=>if l<=h/\h<=s.size then .done (.one (.p (.str (s.extract l h)))) [] [] else .fail
   |_,_=>.fail
  |_=>.fail
def aoc(ak:Env)(off:Nat)(x:aQ):eQ:=match ev ak x with
  | .one (.ba id g o)=>.done (.one (.ba id g (o+off))) [] []
  | .one (.di id g i o)=>.done (.one (.di id g i (o+off))) [] []
  | .one (.p (.box cs))=>.done (.one (.p (.box (cs.drop off)))) [] []
  |_=>.fail
def adP(ak:Env)(sz:Nat)(x:aQ)(i:aQ):eQ:=match Ah (ev ak i),ev ak x with
  |some n,.one (.p (.sl es))=>match es[n]? with
   |some e=>if e.length=sz then .done (.one (.p (.box e))) [] [] else .fail
   |none=>.fail
  |some n,.one (.hsl id g z off len)=>if n<len/\z=sz then .done (.one (.di id g (off+n) 0)) [] [] else .fail
  |_,_=>.fail
def adM(ak:Env)(len:Nat)(sz:Nat)(x:aQ)(i:aQ):eQ:=match Ah (ev ak i),ev ak x with
  |some n,.one (.ba id g o)=>if n<len then .done (.one (.ba id g (o+n*sz))) [] [] else .fail
  |some n,.one (.di id g j o)=>if n<len then .done (.one (.di id g j (o+n*sz))) [] [] else .fail
  |some n,.one (.p (.box cs))=>if n<len then .done (.one (.p (.box (cs.drop (n*sz))))) [] [] else .fail
  |_,_=>.fail
def aod(ak:Env)(off:Nat)(k:Option Nat)(x:aQ):eQ:=match ev ak x with
  | .agg cs=>match nQ k (cs.drop off) with
   |some v=>.done v [] []
   |none=>.fail
  |_=>.fail
def adN(ak:Env)(len:Nat)(sz:Nat)(k:Option Nat)(x:aQ)(i:aQ):eQ:=match Ah (ev ak i),ev ak x with
  |some n,.agg cs=>if n<len then
    match nQ k (cs.drop (n*sz)) with
    |some v=>.done v [] []
    |none=>.fail
   else .fail
  |_,_=>.fail
def adR(ak:Env)(x:aQ)(i:aQ):eQ:=match Ah (ev ak i),ev ak x with
  |some n,.one (.p (.str s))=>match s[n]? with
   |some b=>.done (.one (.p (.int .u8 b.toNat))) [] []
   |none=>.fail
  |_,_=>.fail
def aog(ak:Env)(aj:aA)(kd:Nat)(z:List PV)(agg:Bool)(ok:Bool)(x:aQ)(k:aQ):eQ:=match mapOf aj agg (ev ak x),ev ak k with
  |some (es,r),.one (.p q)=>if iK q≠kd then .fail else match uP q es 0 with
   |some f=>match mapVal agg ((f.map (·.2)).getD z) with
    |some w=>.done (if ok then .tup [w,.one (.p (.bool f.isSome))] else w) [] r
    |none=>.fail
   |none=>.fail
  |_,_=>.fail
def an1:eQ:=.fail
def aoo(ak:Env)(aj:aA)(kd:Nat)(ag:Bool)(m:aQ)(k:aQ)(v:aQ):eQ:=match ev ak m,ev ak k,Ap ag (ev ak v) with
  | .one (.jP id g),.one (.p q),some cs=>match aj id,zP cs with
   |(g',some (.map qm es)),some ps=>if g'=g/\qm=ag/\iK q=kd then
     match uP q es 0 with
     |some (some (i,_))=>.done .undef [(id,(g,some (.map ag (es.set i (q,ps)))))] [id]
     |some none=>.done .undef [(id,(g,some (.map ag (es++[(q,ps)]))))] [id]
     |none=>.fail
    else .fail
   |_,_=>.fail
  |_,_,_=>.fail
def aob(ak:Env)(x:aQ)(i:Nat):eQ:=match ev ak x with
  | .tup vs=>match vs[i]? with
   |some v=>.done v [] []
   |none=>.fail
  |_=>.fail
def an6(shared:Nat->Bool)(ak:Env)(aj:aA)(s:Nat)(f:aQ)(as:List aQ):eQ:=match Cf ak f with
  |some (g,a,b)=>
   if shared g then .sc g (a.map .one++as.map (ev ak)++b.map .one)
   else match zO aj (a.map .one++as.map (ev ak)++b.map .one) with
    |some (vs,r)=>.pc g vs r s
    |none=>.fail
  |none=>.fail
def aot(ak:Env)(x:aQ):eQ:=match ev ak x with
  | .one (.p (.str s))=>.done (.one (.p (.int .i64 s.size))) [] []
  |_=>.fail
def aoe(ak:Env)(x:aQ):eQ:=match wJ (ev ak x) with
  |some n=>.done (.one (.p (.int .i64 n))) [] []
  |none=>.fail
def aom(ak:Env)(aj:aA)(x:aQ):eQ:=match zt aj (ev ak x) with
  |some (n,r)=>.done (.one (.p (.int .i64 n))) [] r
  |none=>.fail
def an0(ak:Env)(aj:aA)(s:Nat)(ty:Nat)(sz:Nat)(bytes:Nat)(d:aQ)(x:aQ):eQ:=eO aj s ty sz bytes (ev ak d) (ev ak x)
def aoh(ak:Env)(x:aQ)(y:aQ):eQ:=match ev ak x,ev ak y with
  | .one (.p (.int k a)),.one (.p (.int _ b))=>.done (.one (.p (.int k (if b>a then b else a)))) [] []
  |_,_=>.fail
def aoi(ak:Env)(x:aQ)(y:aQ):eQ:=match ev ak x,ev ak y with
  | .one (.p (.int k a)),.one (.p (.int _ b))=>.done (.one (.p (.int k (if b<a then b else a)))) [] []
  |_,_=>.fail
def an7(ak:Env)(aj:aA)(z:List PV)(x:aQ):eQ:=match ev ak x with
  | .one (.p .nils)=>.done (.tup []) [] []
  | .one (.p (.sl []))=>.done (.tup []) [] []
  | .one (.hsl id g _ off len)=>if len=0 then .done (.tup []) [] [] else match aj id with
   |(g',some (.arr ty sz es))=>if g'=g/\sz=z.length/\off+len<=es.length then .done (.tup []) [(id,(g,some (.arr ty sz (eh es off (List.replicate len z)))))] [id] else .fail
   |_=>.fail
  |_=>.fail
def Vc(shared:Nat->Bool)(ak:Env)(aj:aA):my->eQ
 | .jE x=>aon ak x
 | .pick c a b=>aor ak c a b
 | .alloc s z=>anZ aj s z
 | .box s x=>an2 ak aj s x
 | .build z ps=>an5 ak z ps
 | .F8 s ty sz ps=>an3 ak aj s ty sz ps
 | .load k x=>aof ak aj k x
 | .store n a x=>aou ak aj n a x
 | .HL x=>aop ak x
 | .bin op x y=>adO ak op x y
 | .eqc k neg x y=>aoa ak k neg x y
 | .un op x=>aov ak op x
 | .conv k x=>an8 ak k x
 | .bstr x=>an4 ak aj x
 | .mkfn f a b=>aoj ak f a b
 | .mkmap s ag=>aol aj s ag
 | .HF s ty sz bytes z l c=>adQ ak aj s ty sz bytes z l c
 | .slice sz x lo hi=>adS ak sz x lo hi
 | .sslice x lo hi=>adT ak x lo hi
 | .lZ off x=>aoc ak off x
 | .Hu sz x i=>adP ak sz x i
 | .FW len sz x i=>adM ak len sz x i
 | .fld off k x=>aod ak off k x
 | .aidx len sz k x i=>adN ak len sz k x i
 | .sidx x i=>adR ak x i
 | .lookup kd z agg ok x k=>aog ak aj kd z agg ok x k
 | .bad=>an1
 | .mupd kd ag m k v=>aoo ak aj kd ag m k v
 | .extract x i=>aob ak x i
 | .call s f as=>an6 shared ak aj s f as
 | .slen x=>aot ak x
 | .La x=>aoe ak x
 | .mlen x=>aom ak aj x
 | .append s ty sz bytes d x=>an0 ak aj s ty sz bytes d x
 | .max x y=>aoh ak x y
 | .min x y=>aoi ak x y
 | .clear z x=>an7 ak aj z x
theorem anY(shared:Nat->Bool)(ak:Env)(aj:aA)(o:my):Vc shared ak aj o=bl shared ak aj o:=by
 cases o<;>first
  |rfl
  |simp only[Vc,bl,adO,adQ,adS,adT,adP,adM,adN,adR,ahs,Xb,ahu]<;>rfl
inductive Tr where
 |leaf
 |node (v:V) (l r:Tr)
noncomputable def Tr.get (t:Tr):Nat->V:=Tr.rec (motive:=fun _=>Nat->V) (fun _=>.undef) (fun v _ _ gl gr n=>bif Nat.beq n 0 then v else bif Nat.beq (Nat.mod n 2) 1 then gl (Nat.div n 2) else gr (Nat.sub (Nat.div n 2) 1)) t
noncomputable def Tr.single (k:Nat):Nat->V->Tr:=Nat.rec (motive:=fun _=>Nat->V->Tr) (fun _ _=>.leaf) (fun _ ih n x=>bif Nat.beq n 0 then .node x .leaf .leaf else bif Nat.beq (Nat.mod n 2) 1 then .node .undef (ih (Nat.div n 2) x) .leaf else .node .undef .leaf (ih (Nat.sub (Nat.div n 2) 1) x)) k
noncomputable def Tr.set (t:Tr):Nat->V->Tr:=Tr.rec (motive:=fun _=>Nat->V->Tr) (fun n x=>Tr.single 12 n x) (fun v l r sl sr n x=>bif Nat.beq n 0 then .node x l r else bif Nat.beq (Nat.mod n 2) 1 then .node v (sl (Nat.div n 2) x) r else .node v l (sr (Nat.sub (Nat.div n 2) 1) x)) t
theorem Dd{a b:Nat}(h:a≠b):Nat.beq a b=false:=by
 cases e:Nat.beq a b with
 |false=>rfl
 |true=>exact(h (uC e)).elim
theorem aj8(n:Nat):Tr.leaf.get n=.undef:=rfl
theorem Nn(v:V)(l r:Tr)(n:Nat):(Tr.node v l r).get n=if n=0 then v else if n%2=1 then l.get (n/2) else r.get (n/2-1):=by
 show(bif Nat.beq n 0 then v else bif Nat.beq (n%2) 1 then l.get (n/2) else r.get (n/2-1))=_;by_cases h0:n=0
 .subst h0;rfl
 rw[Dd h0,aD h0];by_cases h1:n%2=1
 .rw[h1];rfl
 rw[Dd h1,aD h1];rfl
theorem aeT(f:Tr->Tr)(g:Tr->Tr)(v:V)(l r:Tr)(n m:Nat)(x:V)(hl:n%2=1->(f l).get (m/2)=if m/2=n/2 then x else l.get (m/2))(hr:n≠0->n%2≠1->(g r).get (m/2-1)=if m/2-1=n/2-1 then x else r.get (m/2-1)):
  (bif Nat.beq n 0 then Tr.node x l r else bif Nat.beq (n%2) 1 then .node v (f l) r else .node v l (g r)).get m=if m=n then x else (Tr.node v l r).get m:=by
 by_cases h0:n=0
 .subst h0;simp only[Wx,cond_true,Nn];by_cases hm:m=0<;>simp[hm]
 rw[Dd h0];by_cases h1:n%2=1
 .rw[h1];simp only[cond_false,Wx,cond_true,Nn];by_cases hm:m=0
  .subst hm;rw[aE rfl,aD (fun e=>h0 e.symm),aE rfl]
  rw[aD hm];by_cases lG:m%2=1
  .rw[aE lG,hl h1];by_cases he:m=n
   .subst he;simp
   rw[aD he,aD aa,aD hm,aE lG]
  rw[aD lG,aD aa,aD hm,aD lG]
 rw[Dd h1];simp only[cond_false,Nn];by_cases hm:m=0
 .subst hm;rw[aE rfl,aD (fun e=>h0 e.symm),aE rfl]
 rw[aD hm];by_cases lG:m%2=1
 .rw[aE lG,aD aa,aD hm,aE lG]
 rw[aD lG,hr h0 h1];by_cases he:m=n
 .subst he;simp
 rw[aD he,aD aa,aD hm,aD lG]
theorem aqd:∀(k n m:Nat) (x:V),n+1<2 ^ k->(Tr.single k n x).get m=if m=n then x else Tr.leaf.get m:=by
 intro k
 induction k with
 |zero=>intro n m x h;simp at h
 |succ k ih=>
  intro n m x h;have hp:2 ^ (k+1)=2*2 ^ k:=by rw[Nat.pow_succ];omega
  have:=aeT (fun _=>Tr.single k (n/2) x) (fun _=>Tr.single k (n/2-1) x) .undef .leaf .leaf n m x (fun _=>ih _ _ _ aa) (fun _ _=>ih _ _ _ aa);have e:(Tr.node .undef .leaf .leaf).get m=Tr.leaf.get m:=by rw[Nn];simp[aj8]
  rw[e] at this;exact this
theorem Tr.aar:∀(t:Tr) (n m:Nat) (x:V),n+1<2 ^ 12->(t.set n x).get m=if m=n then x else t.get m:=by
 intro t
 induction t with
 |leaf=>intro n m x h;exact aqd 12 n m x h
 |node v l r ihl ihr=>intro n m x h;exact aeT (fun l=>l.set (n/2) x) (fun r=>r.set (n/2-1) x) v l r n m x (fun _=>ihl _ _ _ aa) (fun _ _=>ihr _ _ _ aa)
abbrev BL:=List (Nat×(Nat×Option Ob))
noncomputable def GC (b:BL) (n:Nat):Nat×Option Ob:=List.rec (motive:=fun _=>Nat×Option Ob) (0,none) (fun p _ ih=>bif Nat.beq p.1 n then p.2 else ih) b
noncomputable def LF:BL->Nat->Nat×Option Ob->BL
 |[],n,x=>[(n,x)]
 |(i,o)::r,n,x=>bif Nat.beq i n then (i,x)::r else (i,o)::LF r n x
theorem aj6:∀(b:BL) (n:Nat) (x:Nat×Option Ob) (m:Nat),GC (LF b n x) m=if m=n then x else GC b m:=by
 intro b
 induction b with
 |nil=>
  intro n x m;simp only[LF,GC];by_cases h:m=n
  .subst h;simp
  have:Nat.beq n m=false:=Dd fun e=>h e.symm;simp[this,h]
 |cons p b ih=>
  obtain⟨i,o⟩:=p;intro n x m;simp only[LF];by_cases h:i=n
  .subst h;simp only[Wx,cond_true,GC];by_cases hm:m=i
   .subst hm;simp
   have:Nat.beq i m=false:=Dd fun e=>hm e.symm;simp[this,hm]
  have:Nat.beq i n=false:=Dd h;simp only[this,cond_false,GC];by_cases hm:i=m
  .subst hm;simp[h]
  have:Nat.beq i m=false:=Dd hm;simp only[this,cond_false];exact ih n x m
noncomputable def nO (t:Tr):Env:=fun i=>t.get i
noncomputable def jF (b:BL):aA:=fun i=>GC b i
noncomputable def Iq:Nat->List V->Tr->Tr
 |_,[],t=>t
 |i,a::r,t=>Iq (i+1) r (t.set i a)
theorem arj:∀(l:List V) (i:Nat) (t:Tr) (m:Nat),i+l.length<4095->(Iq i l t).get m=if i<=m/\m<i+l.length then l.getD (m-i) .undef else t.get m:=by
 intro l
 induction l with
 |nil=>intro i t m _;simp[Iq];intro h1 h2;omega
 |cons a r ih=>
  intro i t m h;simp only[dp] at h ⊢;rw[Iq,ih (i+1) _ m aa,Tr.aar t i m a aa];by_cases h1:m=i
  .subst h1;rw[aD aa,aE rfl,aE aa];simp
  rw[aD h1];by_cases h2:i+1<=m/\m<i+1+r.length
  .rw[aE h2,aE aa];obtain⟨k,rfl⟩:∃k,m=i+1+k:=⟨m-(i+1),aa⟩;rw[show i+1+k-(i+1)=k by omega,show i+1+k-i=k+1 by omega];simp
  rw[aD h2,aD aa]
theorem ard(h:args.length<4095):nO (Iq 0 args .leaf)=qH args:=by
 funext m;unfold nO qH;rw[arj args 0 .leaf m aa];by_cases hm:m<args.length
 .rw[aE aa];rfl
 rw[aD aa];simp[Tr.get,List.getD,nV (afV hm)]
noncomputable def VZ {α:Type} (n:Nat) (k:Nat->α):α:=match n with
 |0=>k 0
 |m+1=>k (m+1)
noncomputable def VY {α:Type} (z:Int) (k:Int->α):α:=match z with
 | .ofNat n=>VZ n fun n=>k (.ofNat n)
 | .negSucc n=>VZ n fun n=>k (.negSucc n)
noncomputable def V0 {α:Type} (v:V) (k:V->α):α:=match v with
 | .one (.p (.int t z))=>VY z fun z=>k (.one (.p (.int t z)))
 | .one (.p (.bool b))=>match b with
  |true=>k (.one (.p (.bool true)))
  |false=>k (.one (.p (.bool false)))
 |v=>k v
@[simp] theorem asb {α:Type} (n:Nat) (k:Nat->α):VZ n k=k n:=by cases n<;>rfl
@[simp] theorem asa {α:Type} (z:Int) (k:Int->α):VY z k=k z:=by cases z<;>simp[VY]
@[simp] theorem arU {α:Type} (v:V) (k:V->α):V0 v k=k v:=by
 unfold V0;split
 .simp
 .split<;>rfl
 rfl
def Of(al:Al)(l:List Nat):Bool:=bif al.any then true else al.fE l
theorem anj(al:Al)(l:List Nat):Of al l=al.fE l:=by
 unfold Of;cases h:al.any with
 |false=>rfl
 |true=>simp[Al.fE,Al.ok,h]
abbrev mX:=Nat->List V->Al->BL->Option (V×BL)
noncomputable def DP:List dY->BL->BL
 |[],b=>b
 |(i,o)::r,b=>DP r (LF b i o)
theorem VN:∀(u:List dY) (b:BL),jF (DP u b)=app u (jF b):=by
 intro u
 induction u with
 |nil=>intro b;rfl
 |cons x u ih=>obtain⟨i,o⟩:=x;intro b;simp only[DP,app];rw[ih];congr 1;funext m;exact aj6 b i o m
noncomputable def HV (t:Tr) (d:Option Nat) (v:V) (k:Tr->Option (Tr×BL×cn)):Option (Tr×BL×cn):=match d with
 |none=>k t
 |some n=>bif Nat.ble n 4000 then V0 v fun v=>k (t.set n v) else none
noncomputable def O1 (sh:Ctx) (cp:fp) (cs:mX) (o:bR) (t:Tr) (b:BL):Option (Tr×BL×cn):=
 match wanted (nO t) o.guard with
 |none=>none
 |some false=>HV t o.dst .undef fun t'=>some (t',b,⟨[],[],[]⟩)
 |some true=>match Vc sh.shared (nO t) (jF b) o.op with
  | .fail=>none
  | .done v u r=>bif Of sh.al (r++u.map (·.1)) then HV t o.dst v fun t'=>some (t',DP u b,⟨r,u.map (·.1),[]⟩) else none
  | .pc f vs r s=>match cp f vs with
   |some x=>match land (jF b) r s (x.eG (sh.lone s)) with
    |some (v,u)=>bif Of sh.al (r++u.map (·.1)) then HV t o.dst v fun t'=>some (t',DP u b,⟨r++u.map (·.1),u.map (·.1),[]⟩) else none
    |none=>none
   |none=>none
  | .sc f vs=>match allow sh f vs (jF b) with
   |al=>bif sh.al.holds al then
     match cs f vs al b with
     |some (v,b')=>HV t o.dst v fun t'=>some (t',b',⟨al.ids,al.ids,al.fs⟩)
     |none=>none
    else none
noncomputable def FO (cs:jh) (cf:mX):Prop:=∀f vs al b v b',cf f vs al b=some (v,b')->cs f vs al (jF b)=some (v,jF b')
theorem OE{t t':Tr}{d:Option Nat}{v:V}{b b':BL}{e e':cn}(h:HV t d v (fun t'=>some (t',b,e))=some (t',b',e')):put (nO t) d v=nO t'/\b=b'/\e=e':=by
 unfold HV at h;split at h
 .cases h;exact⟨rfl,rfl,rfl⟩
 rename_i n;cases hn:Nat.ble n 4000 with
 |false=>rw[hn] at h;cases h
 |true=>rw[hn] at h;simp only[cond_true,arU] at h;cases h;refine⟨?_,rfl,rfl⟩;have:=gj hn;funext m;unfold nO put;exact(Tr.aar t n m v aa).symm
theorem aqO{cf:mX}(hs:FO cs cf){o:bR}{t t':Tr}{b b':BL}{e:cn}(h:O1 sh cp cf o t b=some (t',b',e)):step1 sh cp cs o (nO t) (jF b)=some (nO t',jF b',e):=by
 unfold O1 at h;simp only[anY,anj] at h;unfold step1;split at h
 .cases h
 .rename_i hw;rw[hw];obtain⟨h1,rfl,rfl⟩:=OE h;simp only[h1]
 rename_i hw;rw[hw];simp only;split at h
 .cases h
 .rename_i v u r hp;cases aq:sh.al.fE (r++u.map (·.1)) with
  |false=>rw[aq] at h;cases h
  |true=>rw[aq] at h;obtain⟨h1,rfl,rfl⟩:=OE h;simp only[hp,aq,if_true,h1,VN]
 .rename_i f vs r s hp;split at h
  .rename_i x hx;split at h
   .rename_i v u hl;cases aq:sh.al.fE (r++u.map (·.1)) with
    |false=>rw[aq] at h;cases h
    |true=>rw[aq] at h;obtain⟨h1,rfl,rfl⟩:=OE h;simp only[hp,hx,hl,aq,if_true,h1,VN]
   cases h
  cases h
 rename_i f vs hp;cases aq:sh.al.holds (allow sh f vs (jF b)) with
 |false=>rw[aq] at h;cases h
 |true=>
  rw[aq] at h;simp only[cond_true] at h;split at h
  .rename_i v b1 hc;obtain⟨h1,rfl,rfl⟩:=OE h;simp only[hp,aq,if_true,hs _ _ _ _ _ _ hc,h1]
  cases h
noncomputable def aqP (sh:Ctx) (cp:fp) (cs:mX) (o:bR) (ih:Tr->BL->Option (Tr×BL×List cn)) (ak:Tr) (aj:BL):Option (Tr×BL×List cn):=
 match O1 sh cp cs o ak aj with
 |some (aI,ao,e)=>match ih aI ao with
  |some (JA,F5,es)=>some (JA,F5,e::es)
  |none=>none
 |none=>none
noncomputable def Ij (sh:Ctx) (cp:fp) (cs:mX) (l:List bR):Tr->BL->Option (Tr×BL×List cn):=List.rec (motive:=fun _=>Tr->BL->Option (Tr×BL×List cn)) (fun ak aj=>some (ak,aj,[])) (fun o _ ih=>aqP sh cp cs o ih) l
theorem aqR(sh:Ctx)(cp:fp)(cs:mX)(ak:Tr)(aj:BL):Ij sh cp cs [] ak aj=some (ak,aj,[]):=rfl
theorem aqQ(sh:Ctx)(cp:fp)(cs:mX)(o:bR)(r:List bR)(ak:Tr)(aj:BL):Ij sh cp cs (o::r) ak aj=match O1 sh cp cs o ak aj with
  |some (aI,ao,e)=>match Ij sh cp cs r aI ao with
   |some (JA,F5,es)=>some (JA,F5,e::es)
   |none=>none
  |none=>none:=rfl
theorem aqS{cf:mX}(hs:FO cs cf):∀ {ops:List bR} {t t':Tr} {b b':BL} {es:List cn},Ij sh cp cf ops t b=some (t',b',es)->steps sh cp cs ops (nO t) (jF b)=some (nO t',jF b',es):=by
 intro ops
 induction ops with
 |nil=>intro t t' b b' es h;simp only[aqR,fe,jG] at h;obtain⟨rfl,rfl,rfl⟩:=h;rfl
 |cons o r ih=>
  intro t t' b b' es h;simp only[aqQ] at h;split at h
  .rename_i t1 b1 e1 h1;split at h
   .rename_i t2 b2 es2 h2;cases h;simp only[steps,aqO hs h1,ih h2]
   cases h
  cases h
noncomputable def K6 (f:Tr->BL->Option (lk×Tr×BL)) (n:Nat):Tr->BL->Option (lk×Tr×BL):=
 Nat.rec (motive:=fun _=>Tr->BL->Option (lk×Tr×BL)) (fun _ _=>none) (fun _ ih ak aj=>match f ak aj with
  |some (.normal,aI,ao)=>ih aI ao
  |r=>r) n
theorem alW(f:Tr->BL->Option (lk×Tr×BL))(n:Nat)(ak:Tr)(aj:BL):K6 f (n+1) ak aj=match f ak aj with
  |some (.normal,aI,ao)=>K6 f n aI ao
  |r=>r:=rfl
abbrev Ex:=Tr->BL->Option (lk×Tr×BL)
noncomputable def ai6 (sh:Ctx) (cp:fp) (cs:mX) (d:Bool) (ops:List bR):Ex:=fun ak aj=>match Ij sh cp cs ops ak aj with
  |some (aI,ao,es)=>bif d then (bif nM ops [] es then some (.normal,aI,ao) else none) else some (.normal,aI,ao)
  |none=>none
noncomputable def ai7 (a b:Ex):Ex:=fun ak aj=>match a ak aj with
  |some (.normal,aI,ao)=>b aI ao
  |r=>r
noncomputable def ai5 (x:aQ) (a b:Ex):Ex:=fun ak aj=>match ev (nO ak) x with
  | .one (.p (.bool t))=>bif t then a ak aj else b ak aj
  |_=>none
noncomputable def ai4 (id:Nat) (c:Ex):Ex:=fun ak aj=>match c ak aj with
  |some (.exit i,aI,ao)=>bif Nat.beq i id then some (.normal,aI,ao) else some (.exit i,aI,ao)
  |r=>r
noncomputable def rR (sh:Ctx) (cp:fp) (cs:mX) (n:Nat) (c:aK):Ex:=
 aK.rec (motive:=fun _=>Ex) (fun ak aj=>some (.normal,ak,aj)) (fun d ops=>ai6 sh cp cs d ops) (fun _ _ a b=>ai7 a b) (fun x _ _ a b=>ai5 x a b)
  (fun id _ c=>ai4 id c) (fun _ c=>K6 c n) (fun id ak aj=>some (.exit id,ak,aj)) (fun ak aj=>some (.ret,ak,aj)) (fun _ _=>none) c
section
variable (sh:Ctx) (cp:fp) (cs:mX) (n:Nat) (ak:Tr) (aj:BL)
theorem ajf:rR sh cp cs n .skip ak aj=some (.normal,ak,aj):=rfl
theorem aja(id:Nat):rR sh cp cs n (.exit id) ak aj=some (.exit id,ak,aj):=rfl
theorem ajd:rR sh cp cs n .ret ak aj=some (.ret,ak,aj):=rfl
theorem ajc(d:Bool)(ops:List bR):rR sh cp cs n (.region d ops) ak aj=match Ij sh cp cs ops ak aj with
  |some (aI,ao,es)=>bif d then (bif nM ops [] es then some (.normal,aI,ao) else none) else some (.normal,aI,ao)
  |none=>none:=rfl
theorem aje(a b:aK):rR sh cp cs n (.seq a b) ak aj=match rR sh cp cs n a ak aj with
  |some (.normal,aI,ao)=>rR sh cp cs n b aI ao
  |r=>r:=rfl
theorem ai9(x:aQ)(a b:aK):rR sh cp cs n (.cond x a b) ak aj=match ev (nO ak) x with
  | .one (.p (.bool t))=>bif t then rR sh cp cs n a ak aj else rR sh cp cs n b ak aj
  |_=>none:=rfl
theorem ai8(id:Nat)(c:aK):rR sh cp cs n (.block id c) ak aj=match rR sh cp cs n c ak aj with
  |some (.exit i,aI,ao)=>bif Nat.beq i id then some (.normal,aI,ao) else some (.exit i,aI,ao)
  |r=>r:=rfl
theorem ajb(c:aK):rR sh cp cs n (.loop c) ak aj=K6 (rR sh cp cs n c) n ak aj:=rfl
end
theorem alV{f:Tr->BL->Option (lk×Tr×BL)}{g:Env->aA->Option (lk×Env×aA)}(hfg:∀t b e t' b',f t b=some (e,t',b')->g (nO t) (jF b)=some (e,nO t',jF b')):
  ∀(n:Nat) {t t':Tr} {b b':BL} {e:lk},K6 f n t b=some (e,t',b')->iter g n (nO t) (jF b)=some (e,nO t',jF b'):=by
 intro n
 induction n with
 |zero=>intro t t' b b' e h;cases h
 |succ n ih=>
  intro t t' b b' e h;simp only[alW] at h;simp only[iter];split at h
  .rename_i t1 b1 h1;rw[hfg _ _ _ _ _ h1];exact ih h
  rename_i aM;rw[hfg _ _ _ _ _ h];cases e with
  |normal=>exact(aM _ _ h).elim
  |exit i=>rfl
  |ret=>rfl
theorem YA{cf:mX}(hs:FO cs cf){n:Nat}:∀(c:aK) {t t':Tr} {b b':BL} {e:lk},rR sh cp cf n c t b=some (e,t',b')->exec sh cp cs n c (nO t) (jF b)=some (e,nO t',jF b'):=by
 intro c
 induction c with
 |skip=>intro t t' b b' e h;simp only[ajf,fe,jG] at h;obtain⟨rfl,rfl,rfl⟩:=h;rfl
 |exit id=>intro t t' b b' e h;simp only[aja,fe,jG] at h;obtain⟨rfl,rfl,rfl⟩:=h;rfl
 |ret=>intro t t' b b' e h;simp only[ajd,fe,jG] at h;obtain⟨rfl,rfl,rfl⟩:=h;rfl
 |bad=>intro t t' b b' e h;cases h
 |region d ops=>
  intro t t' b b' e h;simp only[ajc] at h;simp only[exec];split at h
  .rename_i t1 b1 es h1;rw[aqS hs h1];simp only;cases d with
   |false=>simp only[cond_false] at h;cases h;simp
   |true=>
    simp only[cond_true] at h;cases hd:nM ops [] es with
    |false=>rw[hd] at h;cases h
    |true=>rw[hd] at h;simp only[cond_true] at h;cases h;simp
  cases h
 |seq x y ihx ihy=>
  intro t t' b b' e h;simp only[aje] at h;simp only[exec];split at h
  .rename_i t1 b1 h1;rw[ihx h1];exact ihy h
  rename_i aM;rw[ihx h];cases e with
  |normal=>exact(aM _ _ h).elim
  |exit i=>rfl
  |ret=>rfl
 |cond x p q ihp ihq=>
  intro t t' b b' e h;simp only[ai9] at h;simp only[exec];split at h
  .rename_i tt ht;rw[ht];cases tt with
   |true=>simp only[cond_true] at h;simpa using ihp h
   |false=>simp only[cond_false] at h;simpa using ihq h
  cases h
 |block id c ih=>
  intro t t' b b' e h;simp only[ai8] at h;simp only[exec];split at h
  .rename_i i t1 b1 h1;rw[ih h1];simp only;cases hi:Nat.beq i id with
   |true=>rw[hi] at h;simp only[cond_true] at h;cases h;rw[aE (uC hi)]
   |false=>rw[hi] at h;simp only[cond_false] at h;cases h;rw[aD];intro hh;rw[hh,Wx] at hi;cases hi
  rename_i aM;rw[ih h];cases e with
  |normal=>rfl
  |exit i=>exact(aM _ _ _ h).elim
  |ret=>rfl
 |loop c ih=>intro t t' b b' e h;simp only[ajb] at h;simp only[exec];exact alV (fun _ _ _ _ _ h=>ih h) n h
noncomputable def Fj (sh:Ctx) (cp:fp) (cs:mX) (n:Nat) (fn:aX) (args:List V) (aj:BL):Option (V×BL):=
 bif Nat.ble args.length 4000 then
  match rR sh cp cs n fn.body (Iq 0 args .leaf) aj with
  |some (.normal,ak,ao)=>(mV sh.al (nO ak) (jF ao) fn.results).map fun vs=>(yA vs,ao)
  |some (.ret,ak,ao)=>(mV sh.al (nO ak) (jF ao) fn.results).map fun vs=>(yA vs,ao)
  |_=>none
 else none
theorem apk{cf:mX}(hs:FO cs cf){n:Nat}{fn:aX}{b b':BL}{v:V}(h:Fj sh cp cf n fn args b=some (v,b')):qd sh cp cs n fn args (jF b)=some (v,jF b'):=by
 unfold Fj at h;unfold qd;cases hl:Nat.ble args.length 4000 with
 |false=>rw[hl] at h;cases h
 |true=>
  rw[hl] at h;simp only[cond_true] at h;have:=gj hl;rw[<- ard aa];split at h
  .rename_i ak b1 hx;rw[YA hs _ hx];simp only[dq] at h ⊢;obtain⟨vs,h1,h2⟩:=h;cases h2;exact⟨vs,h1,rfl⟩
  .rename_i ak b1 hx;rw[YA hs _ hx];simp only[dq] at h ⊢;obtain⟨vs,h1,h2⟩:=h;cases h2;exact⟨vs,h1,rfl⟩
  cases h
noncomputable def ahx (S:Sys) (n:Nat) (cp:fp) (cs:mX):fp:=fun f args=>match S.prim f args with
  |some r=>r
  |none=>match S.fns f with
   |some fn=>bif Nat.ble args.length fn.ntmps then
     match Fj (S.ctx .all) cp cs n fn args [] with
     |some (v,b)=>fv (jF b) v
     |none=>none
    else none
   |none=>none
noncomputable def ahz (S:Sys) (n:Nat) (cp:fp) (cs:mX):mX:=fun f args al b=>bif S.trig f args then (S.primS f args al (jF b)).map (fun r=>(r.1,DP r.2 b)) else match S.fns f with
  |some fn=>bif Nat.ble args.length fn.ntmps then Fj (S.ctx al) cp cs n fn args b else none
  |none=>none
noncomputable def Xw (S:Sys) (n:Nat):fp×mX:=Nat.rec (motive:=fun _=>fp×mX) (fun _ _=>none,fun _ _ _ _=>none) (fun n ih=>(ahx S n ih.1 ih.2,ahz S n ih.1 ih.2)) n
noncomputable def B1 (S:Sys) (n:Nat):fp:=(Xw S n).1
noncomputable def yM (S:Sys) (n:Nat):mX:=(Xw S n).2
theorem ahy(S:Sys)(n f:Nat)(args:List V):B1 S (n+1) f args=match S.prim f args with
  |some r=>r
  |none=>match S.fns f with
   |some fn=>bif Nat.ble args.length fn.ntmps then
     match Fj (S.ctx .all) (B1 S n) (yM S n) n fn args [] with
     |some (v,b)=>fv (jF b) v
     |none=>none
    else none
   |none=>none:=rfl
theorem ahA(S:Sys)(n f:Nat)(args:List V)(al:Al)(b:BL):yM S (n+1) f args al b=bif S.trig f args then (S.primS f args al (jF b)).map (fun r=>(r.1,DP r.2 b)) else match S.fns f with
  |some fn=>bif Nat.ble args.length fn.ntmps then Fj (S.ctx al) (B1 S n) (yM S n) n fn args b else none
  |none=>none:=rfl
theorem aei{lX:fp}(hp:FM cp lX){cf:mX}(hs:FO cs cf){n:Nat}{fn:aX}{b b':BL}{v:V}(h:Fj sh cp cf n fn args b=some (v,b')):qd sh lX cs n fn args (jF b)=some (v,jF b'):=OL hp (fun _ _ _ _ _ h=>h) (cA _) (apk hs h)
theorem MB(S:Sys):∀n,FM (B1 S n) (fL S n)/\FO (fD S n) (yM S n):=by
 intro n
 induction n with
 |zero=>have h1:∀f x,B1 S 0 f x=none:=fun _ _=>rfl;have h2:∀f vs al b,yM S 0 f vs al b=none:=fun _ _ _ _=>rfl;exact⟨fun f x r h=>(by rw[h1] at h;cases h),fun f vs al b v b' h=>(by rw[h2] at h;cases h)⟩
 |succ n ih=>
  obtain⟨hp,hs⟩:=ih;refine⟨fun f x r h=>?_,fun f vs al b v b' h=>?_⟩
  .rw[ahy] at h;rw[fL];split at h
   .rename_i r' ub;simp only[ub];exact h
   rename_i ub;simp only[ub];split at h
   .rename_i fn hfn;simp only[hfn];cases hl:Nat.ble x.length fn.ntmps with
    |false=>rw[hl] at h;cases h
    |true=>
     rw[hl] at h;simp only[cond_true] at h;rw[aE (gj hl)];split at h
     .rename_i v b hr;unfold Dq;have:zA=jF []:=rfl;rw[this,aei hp hs hr];exact h
     cases h
   cases h
  rw[ahA] at h;rw[fD];cases ht:S.trig f vs with
  |true=>
   rw[ht] at h;simp only[cond_true] at h;rw[aE rfl];cases hp:S.primS f vs al (jF b) with
   |none=>rw[hp] at h;cases h
   |some r=>rw[hp] at h;cases h;rw[mw,VN]
  |false=>
  rw[ht] at h;simp only[cond_false,eH,if_false] at h ⊢;split at h
  .rename_i fn hfn;simp only[hfn];cases hl:Nat.ble vs.length fn.ntmps with
   |false=>rw[hl] at h;cases h
   |true=>rw[hl] at h;simp only[cond_true] at h;rw[aE (gj hl)];exact aei hp hs h
  cases h
theorem uD(S:Sys)(n:Nat){f:Nat}{r:RV}(h:B1 S n f args=some r):aJ S f args r:=⟨n,(MB S n).1 _ _ _ h⟩
def xk{α:Type}(f:α->α->Bool):List α->List α->Bool
 |[],[]=>true
 |a::r,b::s=>f a b&&xk f r s
 |_,_=>false
theorem DO{α:Type}{f:α->α->Bool}(hf:∀a b,f a b=true->a=b):∀ {l m:List α},xk f l m=true->l=m:=by
 intro l
 induction l with
 |nil=>intro m h;cases m with
  |nil=>rfl
  |cons b m=>cases h
 |cons a l ih=>
  intro m h;cases m with
  |nil=>cases h
  |cons b m=>simp only[xk,cE] at h;rw[hf _ _ h.1,ih h.2]
def QQ:IntKind->IntKind->Bool
 | .i64,.i64=>true
 |a,b=>decide (a=b)
theorem aiV{a b:IntKind}(h:QQ a b=true):a=b:=by
 cases a<;>cases b<;>first
  |rfl
  |(simp[QQ] at h)
def DX:Nat->PV->PV->Bool
 |0,_,_=>false
 |_+1,.int k a,.int k' b=>QQ k k'&&a==b
 |_+1,.bool a,.bool b=>a==b
 |n+1,.sl a,.sl b=>xk (xk (DX n)) a b
 |n+1,.box a,.box b=>xk (DX n) a b
 |n+1,.fn f a b,.fn g c d=>Nat.beq f g&&(xk (DX n) a c&&xk (DX n) b d)
 |_+1,.nils,.nils=>true
 |_+1,.th,.th=>true
 |_+1,_,_=>false
theorem aiW:∀(n:Nat) (x y:PV),DX n x y=true->x=y:=by
 intro n
 induction n with
 |zero=>intro x y h;cases h
 |succ n ih=>
  intro x y h;unfold DX at h;split at h
  .rename_i h0;cases h0
  .rename_i h0;cases h0;simp only[cE,dk] at h;rw[aiV h.1,h.2]
  .rename_i h0;cases h0;simp only[dk] at h;rw[h]
  .rename_i h0;cases h0;rw[DO (fun _ _ h=>DO ih h) h]
  .rename_i h0;cases h0;rw[DO ih h]
  .rename_i h0;cases h0;simp only[cE] at h;rw[uC h.1,DO ih h.2.1,DO ih h.2.2]
  .rfl
  .rfl
  cases h
def MN:C->C->Bool
 | .p a,.p b=>DX 12 a b
 |_,_=>false
theorem Ys{a b:C}(h:MN a b=true):a=b:=by
 unfold MN at h;split at h
 .rw[aiW _ _ _ h]
 cases h
def MO:V->V->Bool
 | .one a,.one b=>MN a b
 | .agg a,.agg b=>xk MN a b
 |_,_=>false
theorem aiY{a b:V}(h:MO a b=true):a=b:=by
 unfold MO at h;split at h
 .rw[Ys h]
 .rw[DO (fun _ _ h=>Ys h) h]
 cases h
abbrev iG:=List (Nat×List V×RV)
def Lc:iG->Nat->List V->Option RV
 |[],_,_=>none
 |(f,a,r)::l,g,b=>bif Nat.beq f g&&xk MO a b then some r else Lc l g b
theorem amK:∀ {l:iG} {f:Nat} {a:List V} {r:RV},Lc l f a=some r->(f,a,r)∈l:=by
 intro l
 induction l with
 |nil=>intro f a r h;cases h
 |cons e l ih=>
  obtain⟨g,b,s⟩:=e;intro f a r h;simp only[Lc] at h;cases hb:(Nat.beq g f&&xk MO b a) with
  |true=>rw[hb] at h;simp only[cond_true,fe] at h;simp only[cE] at hb;rw[uC hb.1,DO (fun _ _ h=>aiY h) hb.2,h];simp
  |false=>rw[hb] at h;exact vB _ (ih h)
def Sys.vl(S:Sys)(l:iG):Sys:={S with prim:=fun f a=>match Lc l f a with
 |some r=>some (some r)
 |none=>S.prim f a}
def iz(S:Sys)(l:iG):Prop:=∀e∈l,aJ S e.1 e.2.1 e.2.2
theorem iz.nil{S:Sys}:iz S []:=fun e h=>by simp at h
theorem iz.cons{S:Sys}{l:iG}{f:Nat}{a:List V}{r:RV}(h:aJ S f a r)(hl:iz S l):iz S ((f,a,r)::l):=fun e he=>by
 rcases dh.1 he with rfl|he
 .exact h
 exact hl e he
theorem iz.bound{S:Sys}:∀ {l:iG},iz S l->∃M,∀e∈l,fL S M e.1 e.2.1=some e.2.2:=by
 intro l
 induction l with
 |nil=>intro _;exact⟨0,fun e h=>by simp at h⟩
 |cons e l ih=>
  intro h;obtain⟨M,hM⟩:=ih fun x hx=>h x (by simp[hx]);obtain⟨n,hn⟩:=h e af;refine⟨max M n,fun x hx=>?_⟩;rcases dh.1 hx with rfl|hx
  .exact B2 S (IV M n) _ _ _ hn
  exact B2 S (FH M n) _ _ _ (hM x hx)
theorem amY{S:Sys}{l:iG}{M:Nat}(hM:∀e∈l,fL S M e.1 e.2.1=some e.2.2):∀n,FM (fL (S.vl l) n) (fL S (n+M))/\SLe (fD (S.vl l) n) (fD S (n+M)):=by
 intro n
 induction n with
 |zero=>exact⟨fun f x r h=>by simp[fL] at h,fun f x l k r h=>by simp[fD] at h⟩
 |succ n ih=>
  have e1:n+1+M=(n+M)+1:=aa;have hc:∀al,(S.vl l).ctx al=S.ctx al:=fun _=>rfl;refine⟨fun f x r h=>?_,fun f x al k r h=>?_⟩
  .rw[fL] at h;cases hl:Lc l f x with
   |some r'=>
    have hp:(S.vl l).prim f x=some (some r'):=by simp only[Sys.vl,hl]
    rw[hp] at h;cases h;exact B2 S aa _ _ _ (hM _ (amK hl))
   |none=>
    have hp:(S.vl l).prim f x=S.prim f x:=by simp only[Sys.vl,hl]
    rw[hp] at h;rw[e1,fL];split at h
    .exact h
    have hfn:(S.vl l).fns f=S.fns f:=rfl;rw[hfn] at h;split at h
    .rename_i fn hf;split at h
     .rename_i hlen;rw[aE hlen];rw[hc] at h;exact aeh ih.1 ih.2 aa h
     cases h
    cases h
  rw[fD] at h;rw[e1,fD];have htr:(S.vl l).trig f x=S.trig f x:=rfl;have dj:(S.vl l).primS f x al k=S.primS f x al k:=rfl;rw[htr,dj] at h;by_cases ht:S.trig f x=true
  .rw[aE ht] at h ⊢;exact h
  rw[aD ht] at h ⊢;have hfn:(S.vl l).fns f=S.fns f:=rfl;rw[hfn] at h;split at h
  .rename_i fn hf;split at h
   .rename_i hlen;rw[aE hlen];rw[hc] at h;exact OL ih.1 ih.2 aa h
   cases h
  cases h
theorem kG{S:Sys}{l:iG}(hl:iz S l)(n:Nat){f:Nat}{r:RV}(h:B1 (S.vl l) n f args=some r):aJ S f args r:=by obtain⟨M,hM⟩:=hl.bound;exact⟨n+M,(amY hM n).1 _ _ _ ((MB (S.vl l) n).1 _ _ _ h)⟩
inductive Fits {H:Type} (N:Nat):DataW H->Prop where
 |str (s:List UInt8) (h:s.length<=N):Fits N (.lit (.string s))
 |lit (l:Lit) (h:∀s,l≠ .string s):Fits N (.lit l)
 |nil:Fits N .nil
 |slice (es sp:List (DataW H)) (h:es.length<=N) (he:∀d∈es,Fits N d):Fits N (.slice es sp)
 |agg (es:List (DataW H)) (he:∀d∈es,Fits N d):Fits N (.agg es)
def jg(P:Program)(N:Nat):Nat->TypeId->List PV->Prop
 |0,_,_=>False
 |n+1,t,ps=>match P.underlying t with
  |some .bool=>∃b,ps=[.bool b]
  |some (.int k)=>∃z,ps=[.int k z]/\(Lit.int k z).wf=true
  |some .string=>∃s:ByteArray,ps=[.str s]/\s.size<=N
  |some (.slice e)=>∃es,ps=[.sl es]/\es.length<=N/\ ∀x∈es,jg P N n e x
  |some (.struct fs)=>∃parts:List (List PV),ps=parts.flatten/\parts.length=fs.toList.length/\ ∀(i:Nat) (f:Field) (x:List PV),fs.toList[i]?=some f->parts[i]?=some x->jg P N n f.type x
  |_=>False
def xw(P:Program):Nat->Nat->List Field->Bool
 |off,total,[]=>Nat.beq off total
 |off,total,f::r=>Nat.beq f.offset off&&xw P (off+P.cellsOf f.type) total r
def jm(P:Program):Nat->TypeId->Bool
 |0,_=>false
 |n+1,t=>match P.underlying t with
  |some .bool|some (.int _)|some .string=>true
  |some (.slice e)=>Nat.blt 0 (P.cellsOf e)&&jm P n e
  |some (.struct fs)=>xw P 0 (P.cellsOf t) fs.toList&&fs.toList.all fun f=>jm P n f.type
  |_=>false
section
variable {H:Type} {enc:TypeId×Value->H} {P:Program} {w:World} {base:Nat} {sp:Nat->Bool} {held:Bool} {N:Nat}
theorem cV.append{w:World}{own:Nat->Prop}{xs ys:List PV}{vs us:List Value}(h:cV w own xs vs)(k:cV w own ys us):cV w own (xs++ys) (vs++us):=Pw.append (R:=bX w own) h k
theorem XA{w:World}{base:Nat}{a:Addr}{n:Nat}{cs:List Value}(h:w.cells? base a n=some cs):cs.length=n/\ ∀i,i<n->a.add i=⟨a.block,a.off+i,none⟩/\w.cell? ⟨a.block,a.off+i,none⟩=cs[i]? :=by
 unfold World.cells? at h;split at h
 .have hl:=mapM_some_length h;simp at hl;refine⟨hl,fun i hi=>?_⟩;have hg:=mapM_some_get h i i (by simp[hi]);have au:i<cs.length:=aa;have hv:cs[i]?=some cs[i]:=by simp[au]
  rw[hv] at hg;have aa9:(a.add i).spot=none:=by
   cases mM:(a.add i).spot with
   |none=>rfl
   |some s=>
    simp only[World.cell?] at hg;split at hg
    .simp[mM] at hg
    cases hg
  have e:a.add i=⟨a.block,a.off+i,none⟩:=by
   unfold Addr.add at aa9 ⊢;split
   .rename_i h0;subst h0;rw[aE rfl] at aa9;cases a
    simp_all
   rfl
  refine⟨e,?_⟩;rw[hv,<- hg,e]
 cases h
theorem ajt{r:TypeId->List Value->Option (DataW H×List MemPlace)}{n:Nat}(ih:∀t cs x,jm P n t=true->r t cs=some x->Fits N x.1->∃pvs,jg P N n t pvs/\cV w (fun _=>False) pvs cs){cs:List Value}{total:Nat}(ht:cs.length=total):
  ∀(fs:List Field) (off:Nat) (xs:List (DataW H×List MemPlace)),xw P off total fs=true->(∀f∈fs,jm P n f.type=true)->
   fs.mapM (fun f=>r f.type ((cs.drop f.offset).take (P.cellsOf f.type)))=some xs->(∀x∈xs,Fits N x.1)->off<=total->(∀f∈fs,∀c x,r f.type c=some x->∀pvs,jg P N n f.type pvs->cV w (fun _=>False) pvs c->True)->
   ∃parts:List (List PV),parts.length=fs.length/\(∀(i:Nat) (f:Field) (x:List PV),fs[i]?=some f->parts[i]?=some x->jg P N n f.type x)/\(cV w (fun _=>False) parts.flatten (cs.drop off)):=by
 intro fs
 induction fs with
 |nil=>
  intro off xs hc _ _ _ hle _;simp only[xw] at hc;have:=uC hc;refine⟨[],rfl,fun i f x h=>by simp at h,?_⟩;have:cs.drop off=[]:=by rw[List.drop_eq_nil_iff];omega
  rw[this];exact⟨rfl,fun j x u h=>by simp at h⟩
 |cons f fs ihf=>
  intro off xs hc ho hm hf hle hT;simp only[xw,cE] at hc;have TU:=uC hc.1;rw[List.mapM_cons] at hm;simp only[Option.bind_eq_bind,PG,Option.pure_def,fe] at hm;obtain⟨x,hx,xs',K0,rfl⟩:=hm;obtain⟨pvs,p1,p2⟩:=ih _ _ _ (ho f af) hx (hf x af);have hlen:=p2.1;by_cases aaX:off+P.cellsOf f.type<=total
  .obtain⟨parts,q1,q2,q3⟩:=ihf (off+P.cellsOf f.type) xs' hc.2 (fun g hg=>ho g (by simp[hg])) K0 (fun y hy=>hf y (by simp[hy])) aaX (fun _ _ _ _ _ _ _ _=>trivial);refine⟨pvs::parts,by simp[q1],fun i g y hi hy=>?_,?_⟩
   .cases i with
    |zero=>simp at hi hy;subst hi hy;exact p1
    |succ i=>exact q2 i g y (by simpa using hi) (by simpa using hy)
   have:cs.drop off=(cs.drop f.offset).take (P.cellsOf f.type)++cs.drop (off+P.cellsOf f.type):=by rw[TU,<- List.drop_drop];exact(tz _ _).symm
   rw[this];simp only[kX];exact cV.append p2 q3
  exfalso;have mono:∀(l:List Field) (o:Nat),xw P o total l=true->o<=total:=by
   intro l
   induction l with
   |nil=>intro o h;simp only[xw] at h;have:=uC h;omega
   |cons g l ihl=>intro o h;simp only[xw,cE] at h;have:=ihl _ h.2;omega
  exact aaX (mono _ _ hc.2)
theorem apj{sz:Nat}{f:Nat->Value}:∀(es:List (List PV)) (rows:List (List Value)) (k:Nat),rows.length=es.length->(∀(i:Nat) (e:List PV) (v:List Value),es[i]?=some e->rows[i]?=some v->cV w (fun _=>False) e v/\v.length=sz/\ ∀j u,v[j]?=some u->f ((k+i)*sz+j)=u)->
  ∀(j:Nat) (x:PV),es.flatten[j]?=some x->bX w (fun _=>False) x (f (k*sz+j)):=by
 intro es
 induction es with
 |nil=>intro rows k _ _ j x h;simp at h
 |cons e es ih=>
  intro rows k hl h j x hx;cases rows with
  |nil=>simp at hl
  |cons v rows=>
   obtain⟨a1,a2,a3⟩:=h 0 e v rfl rfl;have di:e.length=sz:=by rw[<- a2];exact a1.1.symm
   simp only[kX] at hx;by_cases hj:j<e.length
   .rw[uz hj] at hx;have hv:v[j]?=some v[j]:=by simp[show j<v.length by omega]
    have:=a3 j _ hv;simp only[vD] at this;rw[this];exact a1.2 j x _ hx hv
   rw[vz aa] at hx;have:=ih rows (k+1) (by simpa using hl) (fun i e' v' h1 h2=>by have:=h (i+1) e' v' (by simpa using h1) (by simpa using h2);rw[show k+(i+1)=k+1+i by omega] at this;exact this) (j-e.length) x hx
   rw[show k*sz+j=(k+1)*sz+(j-e.length) by rw[fA];omega];exact this
theorem arq:∀(n fuel:Nat) (t:TypeId) (cs:List Value) (x:DataW H×List MemPlace),jm P n t=true->DataW.trod enc P w base sp held fuel t cs=some x->Fits N x.1->
  ∃pvs,jg P N n t pvs/\cV w (fun _=>False) pvs cs:=by
 intro n
 induction n with
 |zero=>intro fuel t cs x h;simp[jm] at h
 |succ n ih=>
  intro fuel t cs x aq h hf;cases fuel with
  |zero=>simp[DataW.trod] at h
  |succ fuel=>
   rw[DataW.trod_step] at h;have one:∀ {p:PV} {v:Value},bX w (fun _=>False) p v->cV w (fun _=>False) [p] [v]:=by
    intro p v hp;refine⟨rfl,fun j x u a b=>?_⟩;cases j with
    |zero=>simp at a b;subst a b;exact hp
    |succ j=>simp at a
   unfold DataW.trodStep at h;unfold jm at aq;split at h
   case h_1 b hu=>exact⟨[.bool b],by simp only[jg,hu];exact⟨b,rfl⟩,one (.bool b)⟩
   case h_2 k k' z hu=>
    split at h
    .rename_i hc;obtain⟨rfl,hwf⟩:=hc;exact⟨[.int k' z],by simp only[jg,hu];exact⟨z,rfl,hwf⟩,one (.int k' z)⟩
    cases h
   case h_4 s hu=>
    split at h
    .cases h;cases hf with
     |str _ hs=>exact⟨[.str s],by simp only[jg,hu];exact⟨s,rfl,by simpa using hs⟩,one (.str s)⟩
     |lit _ hs=>exact(hs _ rfl).elim
    cases h
   case h_7 e hu=>exact⟨[.sl []],by simp only[jg,hu];exact⟨[],rfl,bn _,fun x hx=>by simp at hx⟩,one (.wR none 0 (fun _=>rfl) (bn _))⟩
   case h_8 e a len cap hu=>
    rw[hu] at aq;simp only[cE] at aq;obtain⟨iI,hoe⟩:=aq;have iI:0<P.cellsOf e:=by have:=iI;simp[Nat.blt] at this;omega
    simp only at h;split at h
    .rename_i hc;obtain⟨hb,hlc,vX⟩:=hc;simp only[dq,PG] at h;obtain⟨elems,he,rest,ale,rfl⟩:=h;have hlen:elems.length=len:=by simpa using mapM_some_length he
     cases hf with
     |slice _ _ hl hfe=>
     simp only[cG] at hl;have get:∀i,i<len->∃y row pv,elems[i]?=some y/\w.cells? base (a.add (i*P.cellsOf e)) (P.cellsOf e)=some row/\jg P N n e pv/\cV w (fun _=>False) pv row:=by intro i hi;have hg:=mapM_some_get he i i (by simp[hi]);have au:i<elems.length:=aa;rw[nU au] at hg;simp only[PG] at hg;obtain⟨row,h1,h2⟩:=hg;obtain⟨pv,p1,p2⟩:=ih _ _ _ _ hoe h2 (hfe _ (dy.2 ⟨_,Wk au,rfl⟩));exact⟨_,row,pv,nU au,h1,p1,p2⟩
     cases tX:len with
     |zero=>refine⟨[.sl []],by simp only[jg,hu];exact⟨[],rfl,bn _,fun x hx=>by simp at hx⟩,one (.wR (some a) cap (fun h=>by cases h) vX)⟩
     |succ len'=>
      rw[<- tX];have h0:0<len:=aa;obtain⟨_,row0,_,_,CN,_,_⟩:=get 0 h0;have ha:a=⟨a.block,a.off,none⟩:=by
       have h1:a.add 0=a:=by unfold Addr.add;rw[aE rfl]
       rw[yF,h1] at CN;have:=((XA CN).2 0 iI).1;rw[h1] at this;exact this
      have T3:∀i,i<len->∃row pv,row.length=P.cellsOf e/\(∀j,j<P.cellsOf e->w.cell? ⟨a.block,a.off+(i*P.cellsOf e+j),none⟩=row[j]?)/\jg P N n e pv/\cV w (fun _=>False) pv row:=by
       intro i hi;obtain⟨_,row,pv,_,h1,h2,h3⟩:=get i hi;obtain⟨l1,l2⟩:=XA h1;refine⟨row,pv,l1,fun j hj=>?_,h2,h3⟩;have:=(l2 j hj).2;rw[<- this];have e2:a.add (i*P.cellsOf e)=⟨a.block,a.off+i*P.cellsOf e,none⟩:=by
        rw[ha];unfold Addr.add;split
        .rename_i h9;rw[h9];rfl
        rfl
       rw[e2];simp[FG]
      let row:Nat->List Value:=fun i=>if h:i<len then (T3 i h).choose else []
      let pv:Nat->List PV:=fun i=>if h:i<len then (T3 i h).choose_spec.choose else []
      have KT:∀i,i<len->(row i).length=P.cellsOf e/\(∀j,j<P.cellsOf e->w.cell? ⟨a.block,a.off+(i*P.cellsOf e+j),none⟩=(row i)[j]?)/\jg P N n e (pv i)/\cV w (fun _=>False) (pv i) (row i):=by intro i hi;simp only[row,pv,dif_pos hi];exact(T3 i hi).choose_spec.choose_spec
      let es:=(List.range len).map pv
      have Nt:es.length=len:=by simp[es]
      have A8:∀(i:Nat) (x:List PV),es[i]?=some x->i<len/\x=pv i:=by
       intro i x hx;have hi:i<len:=by rw[<- Nt];exact(aY.1 hx).1
       refine⟨hi,?_⟩;simp only[es,gh,sI hi,mw,fe] at hx;exact hx.symm
      let f:Nat->Value:=fun j=>(w.cell? ⟨a.block,a.off+j,none⟩).getD undef
      refine⟨[.sl es],?_,one ?_⟩
      .simp only[jg,hu];refine⟨es,rfl,aa,fun x hx=>?_⟩;obtain⟨i,hi⟩:=gH hx;obtain⟨h1,rfl⟩:=A8 i x hi;exact(KT i h1).2.2.1
      rw[ha];have bU:∀x∈es,x.length=P.cellsOf e:=by intro x hx;obtain⟨i,hi⟩:=gH hx;obtain⟨h1,rfl⟩:=A8 i x hi;have:=(KT i h1).2.2.2.1;rw[<- this];exact(KT i h1).1
      have dO:=apj (w:=w) (sz:=P.cellsOf e) (f:=f) es ((List.range len).map row) 0 (by simp[Nt]) (fun i x v h1 h2=>by
       obtain⟨hi,rfl⟩:=A8 i x h1;simp only[gh,sI hi,mw,fe] at h2;subst h2;obtain⟨s1,s2,s3,s4⟩:=KT i hi;refine⟨s4,s1,fun j u hu=>?_⟩;have hj:j<P.cellsOf e:=by rw[<- s1];exact(aY.1 hu).1
       simp only[f,jt];rw[s2 j hj,hu];rfl)
      simp only[yF,jt] at dO;have tU:∀(l:List (List PV)),(∀x∈l,x.length=P.cellsOf e)->l.flatten.length=l.length*P.cellsOf e:=by
       intro l
       induction l with
       |nil=>intro _;simp
       |cons x l ihl=>intro hx;simp only[kX,fH,dp];rw[hx x af,ihl (fun y hy=>hx y (by simp[hy])),fA];omega
      refine Nt▸bX.sl a.block a.off cap (P.cellsOf e) f (fun _ h=>h) aa vX bU (fun j x hx=>?_) dO;have hj:j<len*P.cellsOf e:=by have:=(aY.1 hx).1;rw[tU es bU,Nt] at this;exact this
      have hi:j/P.cellsOf e<len:=Nat.div_lt_of_lt_mul (by rw[PD];exact hj);obtain⟨s1,s2,s3,s4⟩:=KT _ hi;have hm:j%P.cellsOf e<P.cellsOf e:=dK _ iI;have:=s2 _ hm;rw[show j/P.cellsOf e*P.cellsOf e+j%P.cellsOf e=j by rw[PD];exact afU j _] at this;have T5:(row (j/P.cellsOf e))[j%P.cellsOf e]?=some (row (j/P.cellsOf e))[j%P.cellsOf e]:=by simp[s1,hm]
      rw[T5] at this;simp only[f,this,kE]
    cases h
   case h_9=>
    rename_i fs hu;rw[hu] at aq;simp only[cE] at aq;split at h
    .rename_i hc;simp only[dq] at h;obtain⟨xs,hx,rfl⟩:=h;cases hf with
     |agg _ hfe=>
     obtain⟨parts,p1,p2,p3⟩:=ajt (r:=DataW.trod enc P w base sp held fuel) (n:=n) (fun t cs x h1 h2 h3=>ih _ _ _ _ h1 h2 h3) hc fs.toList 0 xs aq.1 (fun f hf=>ij.1 aq.2 f hf) hx (fun y hy=>hfe _ (dy.2 ⟨y,hy,rfl⟩)) (bn _) (fun _ _ _ _ _ _ _ _=>trivial);refine⟨parts.flatten,by simp only[jg,hu];exact⟨parts,rfl,p1,p2⟩,?_⟩
     simpa using p3
    cases h
   all_goals(first|(cases h;done)|(simp_all;done)|(exfalso;simp_all;done))
end
end
end Go.Abs
namespace Go.Abs
variable {H:Type} {enc:TypeId×Value->H} {P:Program} {w:World} {N:Nat}
theorem ah6:∀(fs:List Field) (off total:Nat),xw P off total fs=true->total=off+(fs.map fun f=>P.cellsOf f.type).sum/\ ∀(j:Nat) (f:Field),fs[j]?=some f->f.offset=off+((fs.take j).map fun f=>P.cellsOf f.type).sum:=by
 intro fs
 induction fs with
 |nil=>intro off total h;simp only[xw] at h;have:=uC h;exact⟨by simp;omega,fun j f h=>by simp at h⟩
 |cons f fs ih=>
  intro off total h;simp only[xw,cE] at h;have h0:=uC h.1;obtain⟨i1,i2⟩:=ih _ _ h.2;refine⟨by simp;omega,fun j g hg=>?_⟩;cases j with
  |zero=>simp at hg;subst hg;simp;omega
  |succ j=>have:=i2 j g (by simpa using hg);simp only[Wu,eE,PB];omega
theorem al6:Kids P (fun t=>∃n,jm P n t=true):=by
 have un:∀ {t:TypeId},(∃n,jm P n t=true)->∃n,jm P (n+1) t=true:=by
  rintro t ⟨n,h⟩
  cases n with
  |zero=>simp[jm] at h
  |succ n=>exact⟨n,h⟩
 refine⟨fun ht hu=>?_,fun ht hu=>?_,fun ht hu=>?_,fun ht hu=>?_,fun ht hu=>?_⟩
 .obtain⟨n,h⟩:=un ht;simp[jm,hu] at h
 .obtain⟨n,h⟩:=un ht;simp only[jm,hu,cE] at h;exact⟨n,h.2⟩
 .obtain⟨n,h⟩:=un ht;simp[jm,hu] at h
 .obtain⟨n,h⟩:=un ht;simp only[jm,hu,cE] at h;obtain⟨c1,c2⟩:=ah6 _ _ _ h.1;refine⟨fun f hf=>⟨n,ij.1 h.2 f hf⟩,by rw[c1];simp,fun j f hj=>by rw[c2 j f hj];simp⟩
 obtain⟨n,h⟩:=un ht;simp[jm,hu] at h
theorem aro{w':World}{Fk:Nat->Bool}{t:TypeId}{v:Value}{d:DataW H}{ps:List MemPlace}(hk:∃n,jm P n t=true)(h:DataW.Trod enc P w 0 (fun _=>true) true t v d ps)
  (zi:∀p∈ps,w.sameAt w' p) (hs:∀p∈ps,Fk p.block=true):DataW.Trod enc P w' 0 Fk true t v d ps:=by
 obtain⟨fuel,h⟩:=h;refine⟨fuel,DataW.trod_stays (T:=fun t=>∃n,jm P n t=true) al6 ?_ (fun h=>by cases h) hk h zi hs⟩;rintro t e ⟨n,h⟩ hu
 cases n with
 |zero=>simp[jm] at h
 |succ n=>simp only[jm,hu,cE] at h;have:=h.1;simp[Nat.blt] at this;omega
theorem arn{w':World}{Fk:Nat->Bool}:∀ {ts:List TypeId} {vs:List Value} {ds:List (DataW H)} {ps:List MemPlace},(∀t∈ts,∃n,jm P n t=true)->DataW.TrodAll enc P w 0 (fun _=>true) true ts vs ds ps->
  (∀p∈ps,w.sameAt w' p)->(∀p∈ps,Fk p.block=true)->DataW.TrodAll enc P w' 0 Fk true ts vs ds ps:=by
 intro ts
 induction ts with
 |nil=>intro vs ds ps _ h _ _;cases vs<;>cases ds<;>exact h
 |cons t ts ih=>
  intro vs ds ps hk h jk eW;cases vs with
  |nil=>exact h.elim
  |cons v vs=>
   cases ds with
   |nil=>exact h.elim
   |cons d ds=>obtain⟨p,q,h1,h2,rfl⟩:=h;exact⟨p,q,aro (hk t af) h1 (fun x hx=>jk x (by simp[hx])) (fun x hx=>eW x (by simp[hx])),ih (fun t ht=>hk t (by simp[ht])) h2 (fun x hx=>jk x (by simp[hx])) (fun x hx=>eW x (by simp[hx])),rfl⟩
def F0(P:Program)(t:TypeId)(ps:List PV):V:=
 match P.underlying t with
 |some (.struct _)=>.agg (ps.map .p)
 |_=>match ps with
  |[x]=>.one (.p x)
  |_=>.undef
theorem agQ{r:Reach}{b0 n:Nat}{sp:Nat->Bool}{held:Bool}{t:TypeId}{v:Value}{d:DataW H}{ps:List MemPlace}(hk:jm P n t=true)(hval:Value.okWide P w r b0 t v)(h:DataW.Trod enc P w 0 sp held t v d ps)(hf:Fits N d):
  ∃pvs,jg P N n t pvs/\qN w (fun _=>False) (F0 P t pvs) v:=by
 obtain⟨fuel,h⟩:=h;obtain⟨pvs,h1,h2⟩:=arq n fuel t _ _ hk h hf;refine⟨pvs,h1,?_⟩;cases n with
 |zero=>simp[jm] at hk
 |succ n=>
  have one:∀x:PV,pvs=[x]->(∀cs,v≠ .agg cs)->bX w (fun _=>False) x v:=by
   rintro x rfl aM
   have:v.cells.toList=[v]:=by
    cases v<;>first
     |rfl
     |exact(aM _ rfl).elim
   rw[this] at h2;exact h2.2 0 x v rfl rfl
  have nagg:∀ {k:TypeDesc},P.underlying t=some k->(∀fs,k≠ .struct fs)->(∀a b,k≠ .array a b)->∀cs,v≠ .agg cs:=by
   rintro k hu cH nz cs rfl
   unfold Value.okWide at hval;rw[hu] at hval;cases k<;>simp_all[Cell.okWide,Cell.ok]
  simp only[jg] at h1;unfold F0;cases hu:P.underlying t with
  |none=>rw[hu] at h1;exact h1.elim
  |some k=>
   rw[hu] at h1;cases k<;>simp only at h1<;>try exact h1.elim
   case bool=>obtain⟨b,rfl⟩:=h1;exact one _ rfl (nagg hu af af)
   case int k=>obtain⟨b,rfl,_⟩:=h1;exact one _ rfl (nagg hu af af)
   case string=>obtain⟨b,rfl,_⟩:=h1;exact one _ rfl (nagg hu af af)
   case slice e=>obtain⟨es,rfl,_⟩:=h1;exact one _ rfl (nagg hu af af)
   case struct fs=>unfold Value.okWide at hval;rw[hu] at hval;simp only at hval;obtain⟨cs,rfl,bU,_⟩:=hval;exact⟨cs,pvs,rfl,rfl,h2⟩
def Ml(P:Program)(N n:Nat):List TypeId->List (List PV)->Prop
 |[],[]=>True
 |t::ts,p::ps=>jg P N n t p/\Ml P N n ts ps
 |_,_=>False
def Af(P:Program):List TypeId->List (List PV)->List V
 |t::ts,p::ps=>F0 P t p::Af P ts ps
 |_,_=>[]
theorem agW{r:Reach}{b0 n:Nat}{sp:Nat->Bool}{held:Bool}:∀ {ts:List TypeId} {vs:List Value} {ds:List (DataW H)} {ps:List MemPlace},(∀t∈ts,jm P n t=true)->(∀(j:Nat) t v,ts[j]?=some t->vs[j]?=some v->Value.okWide P w r b0 t v)->
  DataW.TrodAll enc P w 0 sp held ts vs ds ps->(∀d∈ds,Fits N d)->∃pvss,Ml P N n ts pvss/\Pw (qN w (fun _=>False)) (Af P ts pvss) vs:=by
 intro ts
 induction ts with
 |nil=>
  intro vs ds ps _ _ h _;cases vs with
  |nil=>exact⟨[],trivial,rfl,fun j x u h=>by simp[Af] at h⟩
  |cons v vs=>cases ds<;>exact h.elim
 |cons t ts ih=>
  intro vs ds ps hk hv h hf;cases vs with
  |nil=>exact h.elim
  |cons v vs=>
   cases ds with
   |nil=>exact h.elim
   |cons d ds=>
    obtain⟨p,q,h1,h2,rfl⟩:=h;obtain⟨x,a1,a2⟩:=agQ (hk t af) (hv 0 t v rfl rfl) h1 (hf d af);obtain⟨xs,b1,b2,b3⟩:=ih (fun t ht=>hk t (by simp[ht])) (fun j t v e1 e2=>hv (j+1) t v (by simpa using e1) (by simpa using e2)) h2 (fun d hd=>hf d (by simp[hd]));refine⟨x::xs,⟨a1,b1⟩,by simpa [Af] using b2,fun j y u e1 e2=>?_⟩;cases j with
    |zero=>simp[Af] at e1 e2;subst e1 e2;exact a2
    |succ j=>exact b3 j y u (by simpa [Af] using e1) (by simpa using e2)
end Go.Abs
namespace Go.Abs
open Go.RowKit
theorem eZ.anf(w:World)(k:Nat)(os:Array Obj):eZ w (Go.Sort.grow (w.drewN k) os):=
 ⟨rfl,rfl,rfl,by simp[Go.Sort.grow,World.drewN],fun c hc=>by simp[Go.Sort.grow,World.drewN,afy,hc]⟩
theorem Lt{w w':World}{O:Nat->Prop}{x:PV}{v:Value}(hg:eZ w w')(h:bX w' O x v):tC w O (.one (.p x)) (.returned v) w':=
 ⟨v,[],rfl,hg,w8,fun c hc=>by simp at hc,[v],rfl,v,[],rfl,h.mono fun c _ hn=>⟨rfl,fun hq=>hn (hq.elim id fun h=>by simp at h)⟩,rfl,rfl⟩
theorem pw1{w:World}{O:Nat->Prop}{x:PV}{args:Array Value}(h:Pw (qN w O) [.one (.p x)] args.toList):∃v,args= #[v]/\bX w O x v:=by
 obtain⟨h1,h2⟩:=h;obtain⟨l⟩:=args
 match l,h1 with
 |[v],_=>exact⟨v,rfl,h2 0 _ v rfl rfl⟩
theorem Yo{w:World}{O:Nat->Prop}{v:Value}(h:bX w O (.sl []) v):∃a cap,v=.slice a 0 cap/\(a=none->cap=0)/\cap<=maxLen:=by
 generalize hx:PV.sl []=x at h;cases h<;>cases hx
 .exact⟨_,_,rfl,by assumption,by assumption⟩
 exact⟨_,_,rfl,fun h=>by simp at h,by assumption⟩
theorem acU{w:World}{O:Nat->Prop}{a:Option Addr}{cap:Nat}(h:a=none->cap=0)(hm:cap<=maxLen):bX w O (.sl []) (.slice a 0 cap):=.wR a cap h hm
def Gp:Nat->Nat->List UInt8->List UInt8
 |0,_,acc=>acc
 |k+1,u,acc=>bif Nat.blt u 10 then UInt8.ofNat (Nat.add 48 u)::acc else Gp k (Nat.div u 10) (UInt8.ofNat (Nat.add 48 (Nat.mod u 10))::acc)
theorem Ye:∀(k u:Nat) (acc:List UInt8),u<10 ^ (k+1)->Gp (k+1) u acc=Lib.decDigits u++acc:=by
 intro k
 induction k with
 |zero=>
  intro u acc h;have h:u<10:=by simpa using h
  unfold Lib.decDigits;have hb:Nat.blt u 10=true:=afT h;simp only[Gp,hb,cond_true,dif_pos h];rfl
 |succ k ih=>
  intro u acc h;rw[Lib.decDigits,Gp];by_cases h0:u<10
  .have hb:Nat.blt u 10=true:=afT h0;simp only[hb,cond_true,dif_pos h0];rfl
  have hb:Nat.blt u 10=false:=by
   cases e:Nat.blt u 10 with
   |false=>rfl
   |true=>exact(h0 (gj e)).elim
  simp only[hb,cond_false,dif_neg h0];have:(Nat.div u 10)<10 ^ (k+1):=by have e:Nat.div u 10=u/10:=rfl;rw[e];have:10 ^ (k+1+1)=10 ^ (k+1)*10:=Nat.pow_succ ..;omega
  rw[ih _ _ this];simp only[wY,List.singleton_append];rfl
def Ue(n:Int):ByteArray:=⟨(match n with| .ofNat u=>Gp 20 u []| .negSucc u=>45::Gp 20 (Nat.succ u) []).toArray⟩
theorem alY(n:Int)(h0: -9223372036854775808<=n)(h1:n<=9223372036854775807):Ue n=⟨(Lib.itoa n).toArray⟩:=by
 unfold Ue Lib.itoa;cases n with
 |ofNat u=>have:¬(Int.ofNat u<0):=af;rw[aD this];simp only;rw[Ye 19 u [] (by simp at h1;omega)];simp
 |negSucc u=>have:Int.negSucc u<0:=Int.negSucc_lt_zero u;rw[aE this];simp only;rw[Ye 19 (Nat.succ u) [] aa];simp[Int.natAbs]
def Vf(args:List V):Option RV:=
 match args with
 |[.one (.p (.int .i64 n))]=>if -9223372036854775808<=n/\n<=9223372036854775807 then some (.one (.p (.str (Ue n)))) else none
 |_=>none
theorem aoD{P:Program}{f:Nat}{nm:String}{G:World->Prop}{args:List V}{r:RV}(hG:∀w,G w->Lib.TabIs P w nm .u64 Lib.pow10Tab)
  (hf:∀(n:Int),-9223372036854775808<=n->n<=9223372036854775807->∀w:World,Lib.TabIs P w nm .u64 Lib.pow10Tab->Calls P f #[.int .i64 n] w fun e w'=>e=.returned (.string ⟨(Lib.itoa n).toArray⟩)/\ ∃k os,w'=Go.Sort.grow (w.drewN k) os)
  (h:Vf args=some r):∀(w:World) (O:Nat->Prop) (as:Array Value),Good G w->Pw (qN w O) args as.toList->Calls P f as w (tC w O r):=by
 intro w O as hg ha;unfold Vf at h;split at h
 .rename_i n;split at h
  .rename_i hr;cases h;obtain⟨v,rfl,hp⟩:=pw1 ha;generalize hx:PV.int .i64 n=x at hp;cases hp<;>cases hx
   refine(hf n hr.1 hr.2 w (hG w hg.1)).mono ?_;rintro e w' ⟨rfl,k,os,rfl⟩
   rw[alY n hr.1 hr.2];exact Lt (eZ.anf _ _ _) (.str _)
  cases h
 cases h
def Lu(args:List V):Option RV:=
 match args with
 |[.one (.p (.int .u64 n))]=>if 0<=n/\n<=18446744073709551615 then some (.one (.p (.int .i64 (Lib.bitLen n.toNat)))) else none
 |_=>none
theorem aoA{P:Program}{f:Nat}{args:List V}{r:RV}(hf:∀(x:Int) (w:World),0<=x->x<=18446744073709551615->Calls P f #[.int .u64 x] w fun e w'=>e=.returned (.int .i64 (Lib.bitLen x.toNat))/\w'=w)
  (h:Lu args=some r):∀(w:World) (O:Nat->Prop) (as:Array Value),Pw (qN w O) args as.toList->Calls P f as w (tC w O r):=by
 intro w O as ha;unfold Lu at h;split at h
 .rename_i n;split at h
  .rename_i hr;cases h;obtain⟨v,rfl,hp⟩:=pw1 ha;generalize hx:PV.int .u64 n=x at hp;cases hp<;>cases hx
   refine(hf n w hr.1 hr.2).mono ?_;rintro e w' ⟨rfl,rfl⟩
   exact Lt (eZ.refl _) (.int _ _)
  cases h
 cases h
def OC(args:List V):Option (Option RV):=
 match args with
 |[.one (.p (.sl []))]=>some (some (.one (.p (.sl []))))
 |_=>none
theorem aoC{S:Sys}{G:World->Prop}(hS:FP S G){f n:Nat}{z i g z':Nat}{fn:aX}{ao:aA}(hfn:S.fns f=some fn)(h1:fL S n f [.one (.p .nils)]=some (.one (.p .nils)))
  (h2:fD S n f [.one (.hsl 0 0 z 0 0)] .all zA=some (.one (.hsl i g z' 0 0),ao)) {args:List V} {r:RV} (h:OC args=some (some r)):
  ∀(w:World) (O:Nat->Prop) (as:Array Value),Good G w->(∀c,O c->c<w.heap.size)->Pw (qN w O) args as.toList->Calls S.P f as w (tC w O r):=by
 intro w O as hg hO ha;unfold OC at h;split at h
 .cases h;obtain⟨v,rfl,hp⟩:=pw1 ha;obtain⟨a,cap,rfl,hn,hm⟩:=Yo hp;cases a with
  |none=>
   obtain rfl:=hn rfl;refine((sound hS n).1 f _ _ h1 |>.2 w O #[.slice none 0 0] hg hO ⟨rfl,fun j x u p q=>?_⟩).mono ?_
   .cases j with
    |zero=>simp at p q;subst p q;exact bX.nils
    |succ j=>simp at p
   rintro e w' ⟨val,bs,rfl,sV,eV,oq,vs,q1,q2⟩
   obtain⟨v0,lR,e1,e2,e3,e4⟩:=q2;have hq1:vs=[val]:=q1;subst hq1;cases e1;subst e4;cases e2;exact Lt sV (acU (fun _=>rfl) (bn _))
  |some a=>
   let m0:Mem:=⟨w,zA,fun _=>0,fun _=>0,O⟩
   have aq:Ok w m0:=⟨rfl,rfl,rfl,cA _,fun _ _=>rfl,(fun id o h=>by cases h),(fun id o h=>by cases h),hO,(fun id ez o o' h=>by cases h)⟩;refine(((sound hS n).2.1 f _ _ _ _ _ h2).2 w m0 #[.slice (some a) 0 cap] hg aq rfl ⟨rfl,fun j x u p q=>?_⟩).mono ?_
   .cases j with
    |zero=>simp at p q;subst p q;exact cN.hsl a cap (bn _) (bn _) hm (fun sz _ h=>by cases h)
    |succ j=>simp at p
   rintro e w' ⟨val,m',rfl,rfl,q1,q2,q3,q4,q5⟩
   have hq:cN m' (.hsl i g z' 0 0) val:=q5;cases hq with
   |hsl a2 cap2 _ _ sZ _=>
    refine Lt ⟨q2.os,q2.tape,q2.output,q2.size,fun c hc=>q2.keep c hc ?_⟩ (acU (fun h=>by cases h) sZ);rintro ⟨id,o,h,_⟩
    cases h
 cases h
def OD(args:List V):Option (Option RV):=
 match args with
 |[.one (.p (.sl []))]=>some (some (.one (.p .zs)))
 |_=>none
theorem aoB{P:Program}{G:World->Prop}{f:Nat}(h1:∀(w:World) (a:Option Addr) (c:Nat),Calls P f #[.slice a 0 c] w fun e w'=>∃b,e=.returned (.slice b 0 0)/\eZ w w'){args:List V}{r:RV}(h:OD args=some (some r)):
  ∀(w:World) (O:Nat->Prop) (as:Array Value),Good G w->(∀c,O c->c<w.heap.size)->Pw (qN w O) args as.toList->Calls P f as w (tC w O r):=by
 intro w O as hg hO ha;unfold OD at h;split at h
 .cases h;obtain⟨v,rfl,hp⟩:=pw1 ha;obtain⟨a,cap,rfl,hn,hm⟩:=Yo hp;refine(h1 w a cap).mono ?_;rintro e w' ⟨b,rfl,sV⟩
  exact Lt sV (bX.zs b)
 cases h
end Go.Abs
namespace Go.Abs
open Go.RowKit Go.WideShapes Go.ChangeShapes
section
variable {H:Type} {enc:TypeId×Value->H} {P:Program} {w:World} {base:Nat} {sp:Nat->Bool} {held:Bool}
theorem arp:∀(n fuel:Nat) (t:TypeId) (cs:List Value) (x:DataW H×List MemPlace),jm P n t=true->DataW.trod enc P w base sp held fuel t cs=some x->Fits maxLen x.1:=by
 intro n
 induction n with
 |zero=>intro fuel t cs x h;simp[jm] at h
 |succ n ih=>
  intro fuel t cs x aq h;cases fuel with
  |zero=>simp[DataW.trod] at h
  |succ fuel=>
   rw[DataW.trod_step] at h;unfold DataW.trodStep at h;unfold jm at aq;split at h
   case h_1=>cases h;exact .lit _ (fun s h=>by cases h)
   case h_2=>
    split at h
    .cases h;exact .lit _ (fun s h=>by cases h)
    cases h
   case h_4=>
    split at h
    .rename_i hs;cases h;exact .str _ (by simpa using hs)
    cases h
   case h_7=>cases h;exact .nil
   case h_8 e a len cap hu=>
    rw[hu] at aq;simp only[cE] at aq;simp only at h;split at h
    .rename_i hc;simp only[dq,PG] at h;obtain⟨elems,he,rest,ale,rfl⟩:=h;have hlen:elems.length=len:=by simpa using mapM_some_length he
     refine .slice _ _ (by simp;omega) (fun d hd=>?_);obtain⟨y,hy,rfl⟩:=dy.1 hd;obtain⟨i,_,hi⟩:=mapM_mem_of he y hy;simp only[PG] at hi;obtain⟨row,_,h2⟩:=hi;exact ih _ _ _ _ aq.2 h2
    cases h
   case h_9=>
    rename_i fs hu;rw[hu] at aq;simp only[cE] at aq;split at h
    .simp only[dq] at h;obtain⟨xs,hx,rfl⟩:=h;refine .agg _ (fun d hd=>?_);obtain⟨y,hy,rfl⟩:=dy.1 hd;obtain⟨f,hf,hi⟩:=mapM_mem_of hx y hy;exact ih _ _ _ _ (ij.1 aq.2 f hf) hi
    cases h
   all_goals(first|(cases h;done)|(simp_all;done)|(exfalso;simp_all;done))
theorem ae8{n:Nat}:∀ {ts:List TypeId} {vs:List Value} {ds:List (DataW H)} {ps:List MemPlace},(∀t∈ts,jm P n t=true)->DataW.TrodAll enc P w base sp held ts vs ds ps->(∀d∈ds,Fits maxLen d)/\ds.length=ts.length:=by
 intro ts
 induction ts with
 |nil=>
  intro vs ds ps _ h;cases vs<;>cases ds<;>first
   |exact h.elim
   |exact⟨fun d hd=>by simp at hd,rfl⟩
 |cons t ts ih=>
  intro vs ds ps hk h;cases vs with
  |nil=>exact h.elim
  |cons v vs=>
   cases ds with
   |nil=>exact h.elim
   |cons d ds=>
    obtain⟨p,q,⟨fuel,h1⟩,h2,rfl⟩:=h;obtain⟨i1,i2⟩:=ih (fun t ht=>hk t (by simp[ht])) h2;refine⟨fun x hx=>?_,by simp[i2]⟩;rcases dh.1 hx with rfl|hx
    .exact arp n fuel t _ _ (hk t af) h1
    exact i1 x hx
end
section
variable {H:Type} {enc:TypeId×Value->H} {P:Program}
theorem aoz{f:Func}{s:ChangeSpec}{apart fresh handsOn again:Bool}{W W':World}{args:Array Value}{v:Value}{ds gs:List (DataW H)}{before pa pv:List MemPlace}
  (hW:DataW.Whole enc P f.params.toList s.vars apart W args.toList ds gs before)
  (zg:∀(b:Nat) (sp:Nat->Bool) (hd:Bool),DataW.TrodAll enc P W' b sp hd f.resultTypes.toList (v.resultList f.resultTypes.size) (s.fn H (ds++gs)).results [])
  (AW:∀sp:Nat->Bool,(∀p∈before,sp p.block=true)->DataW.TrodAll enc P W' 0 sp true f.params.toList args.toList (s.fn H (ds++gs)).args pa)
  (KX:∀sp:Nat->Bool,(∀p∈before,sp p.block=true)->DataW.TrodVars enc P W' sp s.vars (s.fn H (ds++gs)).vars pv)
  (dj:before=pa++pv) (hb:Below W.heap.size W W')
  (aq:∀(j:Nat) (t:TypeId) (r:Value),f.resultTypes[j]?=some t->(v.resultList f.resultTypes.size)[j]?=some r->Value.okWide P W' .any 0 t r):
  s.post enc P f apart fresh handsOn again W args v W':=by
 have au:∀p∈before,p.block<W.heap.size:=fun p hp=>hW.lt p hp;have hold:∀p∈before,(fun b=>decide (b<W.heap.size)) p.block=true:=fun p hp=>by simpa using au p hp
 refine⟨ds,gs,before,[],pa,pv,hW,zg _ _ _,AW _ hold,KX _ hold,World.keptBut_mono (fun p hp=>⟨hp,?_⟩) (hb.frame (· ∈before)),fun _=>?_⟩
 .rw[dj,fi] at hp;exact Or.inr hp
 obtain⟨_,_,_,_,_,hz,hn⟩:=hW;refine⟨aq,_,_,([]++pa)++pv,⟨[]++pa,pv,trodAll_append (AW _ (fun _ _=>rfl)) (zg _ _ _),KX _ (fun _ _=>rfl),rfl,?_,?_⟩,?_⟩
 .intro b off hp;have j7:MemPlace.cell b off∈before:=by rw[dj];simpa using hp
  rw[hb.frozen (au _ j7)];exact hz b off j7
 .intro ha;have:=hn ha;rw[dj] at this
  simpa using this
 intro p hp _;rw[dj]
 simpa using hp
end
theorem GK{P:Program}{N n:Nat}{t:TypeId}{k:IntKind}{p:List PV}(hu:P.underlying t=some (.int k))(h:jg P N (n+1) t p):∃z,p=[.int k z]/\(Lit.int k z).wf=true:=by simp only[jg,hu] at h;exact h
theorem akm{P:Program}{N n:Nat}{t:TypeId}{p:List PV}(hu:P.underlying t=some .bool)(h:jg P N (n+1) t p):∃b,p=[.bool b]:=by simp only[jg,hu] at h;exact h
theorem akn{P:Program}{N n:Nat}{t e:TypeId}{p:List PV}(hu:P.underlying t=some (.slice e))(h:jg P N (n+1) t p):∃es,p=[.sl es]/\es.length<=N/\ ∀x∈es,jg P N n e x:=by simp only[jg,hu] at h;exact h
theorem agO{P:Program}{t:TypeId}{fs:Array Field}{x:List PV}(hu:P.underlying t=some (.struct fs)):F0 P t x=.agg (x.map .p):=by unfold F0;rw[hu]
theorem amh{S:Sys}{G:World->Prop}(hS:FP S G)(Kx:∀w,G w->Good G w){fn:Func}{s:ChangeSpec}{f n N:Nat}{handsOn again fresh apart:Bool}(KX:s.vars=[])
  (hfn:∀(H:Type) (ds:List (DataW H)),ds.length=fn.params.toList.length->s.fn H ds={results:=[.lit (.bool true)],args:=ds}) {tb:TypeId} (zg:fn.resultTypes= #[tb]) (htb:S.P.underlying tb=some .bool)
  (hk:∀t∈fn.params.toList,jm S.P n t=true) (law:∀pvss,Ml S.P N n fn.params.toList pvss->aJ S f (Af S.P fn.params.toList pvss) (.one (.p (.bool true))))
  {H:Type} {enc:TypeId×Value->H} {W:World} {base:Nat} {args:Array Value} {ds gs:List (DataW H)} {before:List MemPlace}
  (hval:∀(j:Nat) t v,fn.params[j]?=some t->args[j]?=some v->Value.okWide S.P W .any base t v)
  (hW:DataW.Whole enc S.P fn.params.toList s.vars apart W args.toList ds gs before) (hG:G W) (hfit:∀d∈ds,Fits N d):
  Calls S.P f args W fun e W'=>∃v,e=.returned v/\s.post enc S.P fn apart fresh handsOn again W args v W':=by
 have hW':=hW;obtain⟨p,q,hA,hV,rfl,hfz,eV⟩:=hW;rw[KX] at hV;obtain⟨rfl,rfl⟩:=trodVars_none hV;obtain⟨_,hlen⟩:=ae8 hk hA;obtain⟨pvss,h1,h2⟩:=agW (r:=.any) (b0:=base) hk (fun j t v a b=>hval j t v (by simpa using a) (by simpa using b)) hA hfit;refine((law pvss h1).calls hS W (Kx W hG) args h2).mono ?_;rintro e W' ⟨val,bs,rfl,hg,_,_,vs,q1,q2⟩
 obtain⟨v0,lR,e1,e2,e3,e4⟩:=q2;have hq1:vs=[val]:=q1;subst hq1;cases e1;have hv:val=.bool true:=by
  generalize hx:PV.bool true=x at e2;cases e2<;>cases hx
  rfl
 subst hv;have hb:Below W.heap.size W W':=⟨hg.os,hg.tape,hg.output,hg.size,hg.keep⟩;have au:∀x∈p++[],x.block<W.heap.size:=fun x hx=>hW'.lt x hx;refine⟨_,rfl,aoz (pa:=p) (pv:=[]) hW' ?_ ?_ ?_ rfl hb ?_⟩
 .intro b sp hd;rw[qh,hfn H ds hlen,zg];exact trodAll_cons_mk (shut_bool htb _) trodAll_mk0
 .intro Fk mM;rw[qh,hfn H ds hlen];exact arn (fun t ht=>⟨n,hk t ht⟩) hA (fun x hx=>hb.same (au x (by simpa using hx))) (fun x hx=>mM x (by simpa using hx))
 .intro Fk mM;rw[qh,hfn H ds hlen,KX];rfl
 exact ok_one zg rfl (okWide_bool_mk htb _)
end Go.Abs
namespace Go.Abs
theorem adX(ak:Env)(t:Nat)(v:V):put ak (some t) v=df ak t v:=rfl
theorem adV(ak:Env)(v:V):put ak none v=ak:=rfl
theorem Yz(ak:Env)(n:Nat):ev ak (.t n)=ak n:=rfl
theorem Yx(ak:Env)(n:Int):ev ak (.i n)=.one (.p (.int .i64 n)):=rfl
theorem Yw(ak:Env)(x:Bool):ev ak (.b x)=.one (.p (.bool x)):=rfl
theorem Yy(ak:Env)(v:V):ev ak (.k v)=v:=rfl
theorem abg(a:V)(l:List V):qH (a::l) 0=a:=rfl
theorem abf(a:V)(l:List V)(n:Nat):qH (a::l) (n+1)=qH l n:=rfl
def Dz(v:V)(want:Bool):Option Bool:=match v with
 | .one (.p (.bool b))=>some (b==want)
 | .undef=>some false
 |_=>none
theorem afp(b want:Bool):Dz (.one (.p (.bool b))) want=some (b==want):=rfl
theorem afq(want:Bool):Dz .undef want=some false:=rfl
section
variable {S:Sys} {al:Al} {o:bR} {ak:Env} {aj:aA} {tr:List cn} {K:Env->aA->List cn->Prop} {d:Option Nat}
theorem Xp{id:Nat}{Q:dS}:pF id Q .normal ak aj=Q .normal ak aj:=rfl
theorem Xq{id:Nat}{Q:dS}:pF id Q .ret ak aj=Q .ret ak aj:=rfl
theorem Xo{id i:Nat}{Q:dS}:pF id Q (.exit i) ak aj=if i=id then Q .normal ak aj else Q (.exit i) ak aj:=rfl
end
def WN (S:Sys)(al:Al)(ops:List bR)(Q:Env->aA->Prop)(ak:Env)(aj:aA):Prop:=∀tr,WO S al ops (fun ak aj _=>Q ak aj) ak aj tr
def GD(S:Sys)(al:Al)(p:eQ)(d:Option Nat)(ak:Env)(aj:aA)(K:Env->aA->Prop):Prop:=
 match p with
 | .fail=>False
 | .done v u r=>al.fE (r++u.map (·.1))=true/\K (put ak d v) (app u aj)
 | .pc f vs r s=>∃x,aJ S f vs x/\match land aj r s (x.eG (S.lone s)) with
  |some (v,u)=>al.fE (r++u.map (·.1))=true/\K (put ak d v) (app u aj)
  |none=>False
 | .sc f vs=>al.holds (allow (S.ctx al) f vs aj)=true/\ ∃v ao,iA S f vs (allow (S.ctx al) f vs aj) aj v ao/\K (put ak d v) ao
def No(S:Sys)(al:Al)(w:Option Bool)(o:bR)(ak:Env)(aj:aA)(K:Env->aA->Prop):Prop:=
 match w with
 |none=>False
 |some false=>K (put ak o.dst .undef) aj
 |some true=>GD S al (bl S.shared ak aj o.op) o.dst ak aj K
section
variable {S:Sys} {al:Al} {ak:Env} {aj:aA}
theorem agc{ops:List bR}{R R':Env->aA->Prop}{tr tr':List cn}(h:WO S al ops (fun ak aj _=>R ak aj) ak aj tr)(hR:∀e b,R e b->R' e b):WO S al ops (fun ak aj _=>R' ak aj) ak aj tr':=by obtain⟨n,e,b,es,h1,h2⟩:=h;exact⟨n,e,b,es,h1,hR _ _ h2⟩
theorem agq{ops:List bR}{Q:dS}:W S al (.region false ops) Q ak aj↔WN S al ops (fun ak aj=>Q .normal ak aj) ak aj:=by
 rw[WY];constructor
 .intro h tr;obtain⟨n,e,b,es,h1,_,h2⟩:=h;exact⟨n,e,b,es,h1,h2⟩
 intro h;obtain⟨n,e,b,es,h1,h2⟩:=h [];exact⟨n,e,b,es,h1,(fun h=>by cases h),h2⟩
theorem agb{R:Env->aA->Prop}:WN S al [] R ak aj↔R ak aj:=⟨fun h=>PK.1 (h []),fun h _=>PK.2 h⟩
theorem aas{o:bR}{os:List bR}{R:Env->aA->Prop}{w:Option Bool}(tr:List cn):Cj S al w o ak aj tr (WO S al os fun e b _=>R e b)↔No S al w o ak aj (WN S al os R):=by
 have k:∀ {e:Env} {b:aA} {t:List cn},WO S al os (fun e b _=>R e b) e b t↔WN S al os R e b:=fun {e b t}=>⟨fun h t'=>agc h fun _ _ h=>h,fun h=>h t⟩;cases w with
 |none=>exact Iff.rfl
 |some w=>
  cases w with
  |false=>exact k (t:=tr++[⟨[],[],[]⟩])
  |true=>
   simp only[Cj,No];cases bl S.shared ak aj o.op with
   |fail=>exact Iff.rfl
   |done v u r=>simp only[Ee,GD,k]
   |pc f vs r s=>
    simp only[Ee,GD];refine exists_congr fun x=>and_congr Iff.rfl ?_;cases land aj r s (x.eG (S.lone s)) with
    |none=>exact Iff.rfl
    |some y=>simp only[k]
   |sc f vs=>simp only[Ee,GD,k]
theorem WV{o:bR}{os:List bR}{R:Env->aA->Prop}:WN S al (o::os) R ak aj↔No S al (wanted ak o.guard) o ak aj (WN S al os R):=by
 constructor
 .intro h;exact(aas []).1 (Mo.1 (h []))
 intro h tr;exact Mo.2 ((aas tr).2 h)
variable {o:bR} {K:Env->aA->Prop} {d:Option Nat}
end
theorem bft:(false==true)=false:=rfl
theorem btf:(true==false)=false:=rfl
theorem bff:(false==false)=true:=rfl
theorem btt:(true==true)=true:=rfl
theorem adu{aj:aA}{x:PV}:fv aj (.one (.p x))=some (.one (.p x)):=rfl
theorem norm_int(k:IntKind)(n:Int):(PV.int k n).norm=.int k n:=rfl
theorem ac8(b:Bool):(PV.bool b).norm=.bool b:=rfl
theorem adj(s:ByteArray):(PV.str s).norm=.str s:=rfl
theorem adh:PV.nils.norm=.sl []:=rfl
theorem adi(es:List (List PV)):(PV.sl es).norm=.sl es:=rfl
theorem ac9(es:List PV):(PV.box es).norm=.box es:=rfl
theorem ada(f:Nat)(a b:List PV):(PV.fn f a b).norm=.fn f a b:=rfl
theorem adg:PV.th.norm=.th:=rfl
theorem ade:PV.wN.norm=.wN:=rfl
theorem adf:PV.pW.norm=.pW:=rfl
theorem adb(a:Bool)(e:List (PV×List PV)):(PV.mp a e).norm=.mp a e:=rfl
theorem aeJ{aj:aA}:zO aj []=some ([],[]):=rfl
def VB(x:Option (V×List Nat))(y:Option (List V×List Nat)):Option (List V×List Nat):=match x,y with
 |some (b,x),some (bs,y)=>some (b::bs,x++y)
 |_,_=>none
theorem aeI{aj:aA}{x:V}{xs:List V}:zO aj (x::xs)=VB (mu aj x) (zO aj xs):=by simp only[zO,VB,collect];cases mu aj x<;>cases collect (mu aj) xs<;>rfl
theorem aeE{b:V}{x:List Nat}{bs:List V}{y:List Nat}:VB (some (b,x)) (some (bs,y))=some (b::bs,x++y):=rfl
theorem aeH{aj:aA}{x:PV}:mu aj (.one (.p x))=some (.one (.p x.norm),[]):=rfl
end Go.Abs
