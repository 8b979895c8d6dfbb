/-
  Each operation of the abstract machine is what the program does; the machine is sound in any order that a region draws; a quick evaluator; library functions.
-/
import Derived.Test.YthcnadmehopfcaaGreatDoorMa
import Derived.Laws.BytesString
import Derived.LoopN
import Derived.Scope
import Derived.Orders
import Derived.ChangeReads
import Derived.ChangeStays
import Derived.DataReads
import Derived.Below
import Derived.Sort.Grow
import Derived.Deep.Draws
import Derived.Lib.ItoaNum
import Derived.Lib.Join
import Derived.Lib.BitFns
import Derived.Lib.LaidTab
import Derived.ChangeSame
import Derived.ProofKit
import Derived.OpenShut
set_option linter.all false
namespace Go.Abs
variable {P:Program} {w0:World}
section
variable{ag:Bool}
def OL(w:World)(own:Nat->Prop)(ag:Bool)(es:List (PV×List PV))(ents:Array MapEntry):Prop:=ents.size=es.length/\ ∀(i:Nat) (q:PV) (v:List PV) (e:MapEntry),es[i]?=some (q,v)->ents[i]?=some e->ch w own q e.key/\ ∃g:Array Value,(ag=true->e.val=.agg g)/\(ag=false-> #[e.val]=g)/\dj w own v g.toList
theorem Mn{w:World}{r:Nat}{es:Array MapEntry}{clock:Nat}(hb:w.heap[r]?=some (.map es clock)):(getObj r).run P w=.ok (.map es clock) w:=by simp[getObj,Sem.run,hb]
theorem ag4{w:World}{r:Nat}{es:Array MapEntry}{clock:Nat}{ob:Obj}(hb:w.heap[r]?=some (.map es clock)):(setObj r ob).run P w=.ok () {w with heap:=w.heap.setIfInBounds r ob}:=by simp[setObj,Sem.run,hb]
theorem afm{w:World}{own:Nat->Prop}{es:List (PV×List PV)}{v:Value}(h:ch w own (.mp ag es) v):
  ∃r ents clock,v=.map (some r)/\w.heap[r]?=some (.map ents clock)/\OL w own ag es ents:=by
 cases h with
 |mp r ents clock g ho hb hl hk hv hr=>
  refine⟨r,ents,clock,rfl,hb,hl,fun i q v e h1 h2=>⟨hk i q v e h1 h2,g i,(hv i q v e h1 h2).2.1,(hv i q v e h1 h2).2.2,?_,fun j x u a b=>?_⟩⟩
  .simpa using (hv i q v e h1 h2).1
  exact hr i q v j x u h1 a (by simpa using b)
theorem M1{m:Mem}(aq:Ok w0 m){id g:Nat}{v:Value}(h:bK m (.one (.jW id g)) v){es:List (PV×List PV)}(hb:m.aj id=(g,some (.map ag es))\/m.aj id=(g,some (.fmap ag es))):
  ∃r ents clock,v=.map (some r)/\r=m.σ id/\m.w.heap[r]?=some (.map ents clock)/\OL m.w m.own ag es ents:=by
 have h:cY m (.jW id g) v:=h;cases h with
 |jW r hg hr=>
  rcases hb with hb|hb
  .obtain⟨ents,clock,h1,h2,h3⟩:=aq.obj id _ (congrArg Prod.snd hb);have:=hr (by rw[hb]) (by rw[hb];rfl);subst this;exact⟨_,ents,clock,rfl,rfl,h1,h2,h3⟩
  obtain⟨ents,clock,h1,h2,h3,_⟩:=aq.obj id _ (congrArg Prod.snd hb);have:=hr (by rw[hb]) (by rw[hb];rfl);subst this;exact⟨_,ents,clock,rfl,rfl,h1,h2,h3⟩
theorem ap5{m:Mem}(aq:Ok w0 m){x:V}{v:Value}{es:List (PV×List PV)}{r:List Nat}(h:mapOf m.aj ag x=some (es,r))(hv:bK m x v):
  ∃ents:Array MapEntry,((v=.map none/\ents= #[])\/ ∃ref clock,v=.map (some ref)/\m.w.heap[ref]?=some (.map ents clock))/\OL m.w m.own ag es ents:=by
 unfold mapOf at h;split at h
 .cases h;exact⟨#[],.inl ⟨adL hv,rfl⟩,rfl,fun i q v e h=>by simp at h⟩
 .rename_i rq kY;split at h
  .rename_i e;subst e;cases h;obtain⟨hp⟩:cY m _ v:=hv;obtain⟨r,ents,clock,h1,h2,h3⟩:=afm hp;exact⟨ents,.inr ⟨r,clock,h1,h2⟩,h3⟩
  cases h
 .rename_i id g;split at h
  .rename_i g' rq kY hb;split at h
   .rename_i hc;obtain⟨rfl,rfl⟩:=hc;cases h;obtain⟨r,ents,clock,h1,_,h2,h3⟩:=M1 aq hv (.inl hb);exact⟨ents,.inr ⟨r,clock,h1,h2⟩,h3⟩
   cases h
  .rename_i g' rq kY hb;split at h
   .rename_i hc;obtain⟨rfl,rfl⟩:=hc;cases h;obtain⟨r,ents,clock,h1,_,h2,h3⟩:=M1 aq hv (.inr hb);exact⟨ents,.inr ⟨r,clock,h1,h2⟩,h3⟩
   cases h
  cases h
 cases h
theorem apw{m:Mem}(aq:Ok w0 m){x:V}{v:Value}{n:Nat}{r:List Nat}(h:zX m.aj x=some (n,r))(hv:bK m x v):
  (v=.map none/\n=0)\/ ∃ref ents clock,v=.map (some ref)/\m.w.heap[ref]?=some (.map ents clock)/\ents.size=n:=by
 unfold zX at h;split at h
 .cases h;exact .inl ⟨adL hv,rfl⟩
 .cases h;obtain⟨hp⟩:cY m _ v:=hv;obtain⟨r,ents,clock,h1,h2,h3⟩:=afm hp;exact .inr ⟨r,ents,clock,h1,h2,h3.1⟩
 .rename_i id g;split at h
  .rename_i g' rq kY hb;split at h
   .rename_i hc;subst hc;cases h;obtain⟨r,ents,clock,h1,_,h2,h3⟩:=M1 aq hv (.inl hb);exact .inr ⟨r,ents,clock,h1,h2,h3.1⟩
   cases h
  .rename_i g' rq kY hb;split at h
   .rename_i hc;subst hc;cases h;obtain⟨r,ents,clock,h1,_,h2,h3⟩:=M1 aq hv (.inr hb);exact .inr ⟨r,ents,clock,h1,h2,h3.1⟩
   cases h
  cases h
 cases h
def DE(kind:TypeDesc)(kd:Nat):Prop:=(kd=0/\ ∃k,kind=.int k)\/(kd=1/\kind=.string)\/(kd=2/\kind=.bool)
theorem aeF{t:TypeId}{kd:Nat}(h:keyOf P t=some kd):∃kind,P.underlying t=some kind/\DE kind kd:=by
 unfold keyOf at h;split at h
 .rename_i k hk;cases h;exact⟨_,hk,.inl ⟨rfl,_,rfl⟩⟩
 .rename_i hk;cases h;exact⟨_,hk,.inr (.inl ⟨rfl,rfl⟩)⟩
 .rename_i hk;cases h;exact⟨_,hk,.inr (.inr ⟨rfl,rfl⟩)⟩
 cases h
theorem XM{w:World}{own:Nat->Prop}{k q:PV}{kv qv:Value}{kind:TypeDesc}{b:Bool}(hk:DE kind (iw k))(h:sameKey k q=some b)(h1:ch w own k kv)(h2:ch w own q qv):Instr.sameNow kind kv qv=some b:=by
 unfold sameKey at h;split at h
 .rename_i a b' c d;split at h
  .rename_i e;subst e;cases h;rcases hk with ⟨_,x,rfl⟩|⟨e,_⟩|⟨e,_⟩
   .cases h1;cases h2;simp[Instr.sameNow]
   .simp[iw] at e
   simp[iw] at e
  cases h
 .cases h;rcases hk with ⟨e,_⟩|⟨_,rfl⟩|⟨e,_⟩
  .simp[iw] at e
  .cases h1;cases h2;simp[Instr.sameNow]
  simp[iw] at e
 .cases h;rcases hk with ⟨e,_⟩|⟨e,_⟩|⟨_,rfl⟩
  .simp[iw] at e
  .simp[iw] at e
  cases h1;cases h2;simp[Instr.sameNow]
 cases h
theorem sameKey_eq{w:World}{own:Nat->Prop}{k q:PV}{kv qv:Value}(h:sameKey k q=some true)(h1:ch w own k kv)(h2:ch w own q qv):qv=kv:=by
 unfold sameKey at h;split at h
 .split at h
  .rename_i e;subst e;simp at h;subst h;cases h1;cases h2;rfl
  cases h
 .rename_i a b;have e:(a==b)=true:=by simpa using h
  rw[beq_toListBytes] at e;have e:a=b:=by
   have e:a.toList=b.toList:=by simpa using e
   rw[ByteArray.toList_eq,ByteArray.toList_eq] at e;exact ByteArray.ext (Array.toList_inj.1 e)
  subst e;cases h1;cases h2;rfl
 .simp at h;subst h;cases h1;cases h2;rfl
 cases h
theorem ab6{w:World}{own:Nat->Prop}{k:PV}{kv:Value}{kind:TypeDesc}(hk:DE kind (iw k))(h1:ch w own k kv):∀ {es:List (PV×List PV)} {l:List MapEntry} {i:Nat} {f:Option (Nat×List PV)},
  l.length=es.length->(∀(j:Nat) (q:PV) (v:List PV) (e:MapEntry),es[j]?=some (q,v)->l[j]?=some e->ch w own q e.key)->oU k es i=some f->
  (f=none/\Instr.findNow kind kv l i=some none)\/ ∃j q v e,f=some (i+j,v)/\es[j]?=some (q,v)/\l[j]?=some e/\sameKey k q=some true/\Instr.findNow kind kv l i=some (some (i+j,e.val)):=by
 intro es
 induction es with
 |nil=>
  intro l i f hl _ hf;simp[oU] at hf;cases l with
  |nil=>exact .inl ⟨hf.symm,rfl⟩
  |cons _ _=>simp at hl
 |cons p r ih=>
  intro l i f hl hq hf;obtain⟨a,v⟩:=p;cases l with
  |nil=>simp at hl
  |cons e l=>
   have nV:=hq 0 a v e rfl rfl;simp only[oU] at hf;split at hf
   .rename_i hs;cases hf;exact .inr ⟨0,a,v,e,rfl,rfl,rfl,hs,by simp[Instr.findNow,XM hk hs h1 nV]⟩
   .rename_i hs;rcases ih (l:=l) (i:=i+1) (f:=f) (by simpa using hl) (fun j q v e a b=>hq (j+1) q v e (by simpa using a) (by simpa using b)) hf with ⟨e1,e2⟩|⟨j,q,v',e',e1,e2,e3,e4,e5⟩
    .exact .inl ⟨e1,by simp[Instr.findNow,XM hk hs h1 nV,e2]⟩
    refine .inr ⟨j+1,q,v',e',by rw[e1];congr 2;omega,by simpa using e2,by simpa using e3,e4,?_⟩;simp only[Instr.findNow,XM hk hs h1 nV,e5];congr 3;omega
   cases hf
theorem akt{t:TypeId}{kind:TypeDesc}{kd:Nat}{b:Bool}{v:Value}(w:World)(h:P.underlying t=some kind)(hk:DE kind kd)(n:Nat):(Instr.checkKey b (n+1) t v).run P w=.ok () w:=by rcases hk with ⟨_,k,rfl⟩|⟨_,rfl⟩|⟨_,rfl⟩<;>simp[Instr.checkKey,run_underlying h]
theorem LJ{t:TypeId}{kind:TypeDesc}{kd:Nat}{b:Bool}{v:Value}(w:World)(h:P.underlying t=some kind)(hk:DE kind kd):(Instr.checkKey b 10000 t v).run P w=.ok () w:=akt w h hk 9999
theorem as1{w:World}{own:Nat->Prop}{k:PV}{kv:Value}{kind:TypeDesc}(hk:DE kind (iw k))(h:ch w own k kv)(n:Nat):Instr.sameBits n kv kv=true:=by
 cases h<;>first
  |(simp[iw,DE] at hk;done)
  |(simp[Instr.sameBits];done)
  |(simp[Instr.sameBits,beq_toListBytes];done)
theorem ao6{w0 w:World}{own:Nat->Prop}{k:PV}{kv:Value}{kind:TypeDesc}(hk:DE kind (iw k))(h:ch w0 own k kv):(Instr.keyThatStays kv kv).run P w=.ok kv w:=by rw[Instr.keyThatStays,as1 hk h,aF rfl];rfl
theorem Pv{t:TypeId}{kind:TypeDesc}{v:Value}{l:List MapEntry}{r:Option (Nat×Value)}(w:World)(h:P.underlying t=some kind)(hf:Instr.findNow kind v l 0=some r):(Instr.findKey t v l).run P w=.ok r w:=by simp[Instr.findKey,run_underlying h,hf]
theorem afe{m:Mem}{v:List PV}{x:V}{val:Value}{g:Array Value}(h:mapVal ag v=some x)(h1:ag=true->val=.agg g)(h2:ag=false-> #[val]=g)(hp:dj m.w m.own v g.toList):bK m x val/\nH m x val:=by
 cases ag with
 |true=>simp only[mapVal,fD] at h;subst h;exact⟨bK.agg.2 ⟨g,h1 rfl,hp.Dn⟩,⟨g,h1 rfl,hp.Dn⟩⟩
 |false=>
  have h2:=h2 rfl;subst h2;cases v with
  |nil=>simp[mapVal] at h
  |cons c r=>
   cases r with
   |nil=>simp only[mapVal,fD] at h;subst h;have:=hp.2 0 c val rfl rfl;exact⟨mh this,cY.p this⟩
   |cons _ _=>simp[mapVal] at h
section
variable {m:Mem} {ak:Env} {a:Act} {o:Oper} (aq:Ok w0 m) (hr:iS m ak a.tmps)
include aq
theorem atz{t kt e:TypeId}{s:Nat}(ho:o.op=.makeMap t none):
  fE P w0 a.eval o m (.one (.jW s ((m.aj s).1+1))) [(s,((m.aj s).1+1,some (.map ag [])))]:=by
 refine⟨.map (some m.w.heap.size),m.fresh (.map #[] 0) s 0 (.map ag []),.inl ?_,aco aq _ s 0 _ ⟨#[],0,acn _ s 0 _,rfl,fun i q v e h=>by simp at h⟩,PB _ s 0 _,VB aq _ s 0 _,VA _ _ s 0 _,bK.one.2 (.jW _ ?_ fun _ _=>?_)⟩
 .simp[execOp,ho,Instr.makeMap];rfl
 .simp[Mem.fresh,Mem.install,Mem.later,aN]
 simp[Mem.fresh,Mem.install,aN]
include hr
theorem atB{c:Call}{x:Operand}{x':aR}{t k e:TypeId}{n:Nat}{r:List Nat}(ho:o.op=.call c)(hc:c.callee=.builtin .len)(has:c.args= #[x])(jC:c.argTypes[0]?=some t)(ht:P.underlying t=some (.map k e))
  (hx:cF x=some x') (hv:zX m.aj (ev ak x')=some (n,r)):fE P w0 a.eval o m (.one (.p (.int .i64 n))) []:=by
 refine .calm aq ?_ (mh (.int _ _));have h0:(#[a.eval x]:Array Value)[0]?=some (a.eval x):=rfl;rcases apw aq hv (eB hx hr) with ⟨h1,rfl⟩|⟨ref,ents,clock,h1,h2,rfl⟩
 .simp[execOp,ho,resolve,hc,has,jC,invoke,builtin,Builtin.len_,run_underlying ht,h1,goInt]
 simp[execOp,ho,resolve,hc,has,jC,invoke,builtin,Builtin.len_,run_underlying ht,h1,goInt,Mn h2]
theorem atv{t kt e:TypeId}{x k:Operand}{x' k':aR}{ok:Bool}{z:List PV}{q:Option Nat}{kd:Nat}{es:List (PV×List PV)}{r:List Nat}{key:PV}{f:Option (Nat×List PV)}{w:V}(ho:o.op=.lookup t x k ok)(ht:P.underlying t=some (.map kt e))
  (hz:Am P e=some z) (A6:keyOf P kt=some kd) (xQ:R7 P e=q.isSome) (hx:cF x=some x') (hk:cF k=some k') (hm:mapOf m.aj q.isSome (ev ak x')=some (es,r)) (CI:ev ak k'=.one (.p key)) (vr:iw key=kd)
  (hf:oU key es 0=some f) (hw:mapVal q.isSome ((f.map (·.2)).getD z)=some w):fE P w0 a.eval o m (if ok then .tup [w,.one (.p (.bool f.isSome))] else w) []:=by
 obtain⟨kind,zM,CJ⟩:=aeF A6;obtain⟨ents,PS,hl,ek⟩:=ap5 aq hm (eB hx hr);have MX:=eB hk hr;rw[CI] at MX;obtain⟨dw⟩:cY m _ _:=MX;have mK:(∃ref clock,a.eval x=.map (some ref)/\m.w.heap[ref]?=some (.map ents clock))\/a.eval x=.map none/\ents= #[]:=by
  rcases PS with h|h
  .exact .inr h
  exact .inl h
 have key:∀(val:Value) (b:Bool),bK m w val->nH m w val->f.isSome=b->(Instr.lookup t (a.eval x) (a.eval k) ok).run P m.w=.ok (if ok then .tuple #[val,.bool b] else val) m.w->fE P w0 a.eval o m (if ok then .tup [w,.one (.p (.bool f.isSome))] else w) []:=by
  intro val b h1 jB h2 h3;refine .calm aq (x:=if ok then .tuple #[val,.bool b] else val) ?_ ?_
  .simp[execOp,ho,h3]
  cases ok
  .exact h1
  refine⟨_,rfl,rfl,fun j y u p q=>?_⟩;rcases j with _|_|j
  .simp at p q;subst p q;exact jB
  .simp at p q;subst p q;rw[h2];exact cY.p (.bool _)
  simp at p
 rcases ab6 (kind:=kind) (by rw[vr];exact CJ) dw (l:=ents.toList) (by simpa using hl) (fun j q v e h1 h2=>(ek j q v e h1 (by simpa using h2)).1) hf with ⟨rfl,hn⟩|⟨j,q',v,e',rfl,h2,h3,_,hn⟩
 .obtain⟨zv,i,hi,wR,JI,mf,dz⟩:=Ox hz;obtain⟨v1,v2⟩:=afe (m:=m) (val:=zv) (g:=zv.cells) hw (fun hq=>by
    rw[hq] at xQ;unfold R7 at xQ;rw[hi] at xQ;simp only[wR] at xQ;cases zv<;>simp[Value.cells] at xQ ⊢) (fun hq=>by
    rw[hq] at xQ;unfold R7 at xQ;rw[hi] at xQ;simp only[wR] at xQ;cases zv<;>simp[Value.cells] at xQ ⊢) (dz m.w m.own)
  refine key zv false v1 v2 rfl ?_;have Em:=Pv (P:=P) m.w zM hn;rcases mK with ⟨ref,clock,h1,h2⟩|⟨h1,h2⟩
  .cases ok<;>simp[Instr.lookup,run_underlying ht,h1,Mn h2,LJ m.w zM CJ,Em,zeroValue,typeInfo,hi,wR]
  subst h2;cases ok<;>simp[Instr.lookup,run_underlying ht,h1,LJ m.w zM CJ,Instr.findKey,run_underlying zM,Instr.findNow,zeroValue,typeInfo,hi,wR]
 obtain⟨hqk,g,Gl,CC,dz⟩:=ek j q' v e' h2 (by simpa using h3);obtain⟨v1,v2⟩:=afe hw Gl CC dz;refine key e'.val true v1 v2 rfl ?_;have Em:=Pv (P:=P) m.w zM hn;rcases mK with ⟨ref,clock,h1,h2⟩|⟨h1,h2⟩
 .cases ok<;>simp[Instr.lookup,run_underlying ht,h1,Mn h2,LJ m.w zM CJ,Em]
 subst h2;simp at h3
theorem ag9{t kt e:TypeId}{x k y:Operand}{x' k' y':aR}{kd:Nat}{ag:Bool}{id g:Nat}{es:List (PV×List PV)}{key:PV}{cs:List C}{ps:List PV}{f:Option (Nat×List PV)}(ho:o.op=.mapUpdate t x k y\/o.op=.insert t x k y)(ht:P.underlying t=some (.map kt e))
  (A6:keyOf P kt=some kd) (hx:cF x=some x') (hk:cF k=some k') (hy:cF y=some y') (hm:ev ak x'=.one (.jW id g)) (hb:m.aj id=(g,some (.map ag es))) (CI:ev ak k'=.one (.p key)) (vr:iw key=kd)
  (de:xD ag (ev ak y')=some cs) (dz:BI cs=some ps) (hf:oU key es 0=some f):
  fE P w0 a.eval o m .undef [(id,(g,some (.map ag (match f with|some (i,_)=>es.set i (key,ps)|none=>es++[(key,ps)]))))]:=by
 obtain⟨kind,zM,CJ⟩:=aeF A6;have hxr:=eB hx hr;rw[hm] at hxr;have hid:=congrArg Prod.snd hb;have hg:=congrArg Prod.fst hb;obtain⟨ref,ents,clock,wV,aY,hh,hl,ek⟩:=M1 aq hxr (.inl hb);subst aY;have MX:=eB hk hr;rw[CI] at MX;obtain⟨dw⟩:cY m _ _:=MX;have hyr:=eB hy hr
 -- the value's cells
 have hval:∃gv:Array Value,(ag=true->a.eval y=.agg gv)/\(ag=false-> #[a.eval y]=gv)/\dj m.w m.own ps gv.toList:=by
  generalize ev ak y'=vy at de hyr;cases ag with
  |true=>
   cases vy<;>simp[xD] at de
   subst de;obtain⟨arr,h1,h2⟩:=bK.agg.1 hyr;exact⟨arr,fun _=>h1,fun h=>(by cases h),Om dz h2⟩
  |false=>
   cases vy<;>simp[xD] at de
   subst de;refine⟨#[a.eval y],fun h=>(by cases h),fun _=>rfl,Om dz ⟨rfl,fun j x u p q=>?_⟩⟩;rcases j with _|j
   .simp at p q;subst p q;exact hyr
   simp at p
 obtain⟨gv,yn,qo,hvp⟩:=hval;have au:=vn hh;have aeE:∀(Cm:Array MapEntry) (DM:Nat) (kY:List (PV×List PV)),(execOp a.eval o).run P m.w=.ok .skip {m.w with heap:=m.w.heap.setIfInBounds (m.σ id) (.map Cm DM)}->OL m.w m.own ag kY Cm->
   fE P w0 a.eval o m .undef [(id,(g,some (.map ag kY)))]:=by
  intro Cm DM kY jF PS;have hs:(m.w.heap.setIfInBounds (m.σ id) (.map Cm DM)).size=m.w.heap.size:=af;have hko:∀c,c≠m.σ id->(m.w.heap.setIfInBounds (m.σ id) (.map Cm DM))[c]?=m.w.heap[c]? :=fun c hc=>by rw[Sa];rw[ay (fun e=>hc e.symm)]
  have dQ:Ev m (m.j4 {m.w with heap:=m.w.heap.setIfInBounds (m.σ id) (.map Cm DM)} id (.map ag kY)):=Og hid rfl rfl rfl rfl rfl hs hko;refine⟨_,m.j4 {m.w with heap:=m.w.heap.setIfInBounds (m.σ id) (.map Cm DM)} id (.map ag kY),.inr ⟨jF,rfl⟩,Rn hid rfl aq rfl rfl rfl rfl hs hko ?_,dQ,rfl,?_,rfl⟩
  .refine⟨Cm,DM,?_,PS.1,fun i q v e h1 h2=>?_⟩
   .show(m.w.heap.setIfInBounds (m.σ id) (.map Cm DM))[m.σ id]?=_;rw[Sa,aF rfl,aF au]
   obtain⟨p1,gg,p2,p3,p4⟩:=PS.2 i q v e h1 h2;exact⟨p1.ev dQ.zero,gg,p2,p3,p4.ev dQ.zero⟩
  simp only[Mem.j4,app,hg]
 rcases ab6 (kind:=kind) (by rw[vr];exact CJ) dw (l:=ents.toList) (by simpa using hl) (fun j q v e h1 h2=>(ek j q v e h1 (by simpa using h2)).1) hf with ⟨rfl,hn⟩|⟨j,q',v,e',rfl,h2,h3,h4,hn⟩
 .refine aeE (ents.push {key:=a.eval k,val:=a.eval y,born:=clock}) (clock+1) _ ?_ ?_
  .have Em:=Pv (P:=P) m.w zM hn;rcases ho with ho|ho<;>simp[execOp,ho,Instr.mapUpdate,run_underlying ht,wV,Mn hh,LJ m.w zM CJ,Em,ag4 hh]
  refine⟨by simp[hl],fun i q v e h1 h2=>?_⟩;by_cases hi:i<es.length
  .rw[uY hi] at h1;rw[R9,ay aa] at h2;exact ek i q v e h1 h2
  rw[v8 aa] at h1;have:i=es.length:=by
   by_cases h:i-es.length=0
   .omega
   have:=(aW.1 h1).1;simp at this;omega
  subst this;simp at h1;obtain⟨rfl,rfl⟩:=h1;rw[R9,aF hl.symm] at h2;cases h2;exact⟨dw,gv,yn,qo,hvp⟩
 have qd:ents[j]?=some e':=by simpa using h3
 have hqe:e'.key=a.eval k:=sameKey_eq h4 dw (ek j q' v e' h2 qd).1;refine aeE (ents.modify j fun e=>{e with key:=a.eval k,val:=a.eval y}) clock _ ?_ ?_
 .have Em:=Pv (P:=P) m.w zM hn;rw[iQ] at Em;have Jq:(Instr.keyThatStays e'.key (a.eval k)).run P m.w=.ok (a.eval k) m.w:=by rw[hqe];exact ao6 (kind:=kind) (by rw[vr];exact CJ) dw
  rcases ho with ho|ho<;>simp[execOp,ho,Instr.mapUpdate,run_underlying ht,wV,Mn hh,LJ m.w zM CJ,Em,ag4 hh,qd,Jq]
 simp only[iQ];refine⟨by simp[hl],fun i q v e h1 h2=>?_⟩;rw[pQ] at h1;rw[Array.getElem?_modify] at h2;by_cases fm:j=i
 .subst fm;rw[aF rfl] at h1;split at h1
  .cases h1;simp[qd] at h2;subst h2;exact⟨dw,gv,yn,qo,hvp⟩
  cases h1
 rw[ay fm] at h1;rw[ay fm] at h2;exact ek i q v e h1 h2
end
end
end Go.Abs
namespace Go.Abs
variable {P:Program} {w0:World}
theorem agW{t:TypeId}{b:Bool}(h:Rm P t=some b):(b=true/\ ∃k,P.underlying t=some (.int k))\/(b=false/\P.underlying t=some .bool):=by
 unfold Rm at h;split at h
 .rename_i k hk;cases h;exact .inl ⟨rfl,_,hk⟩
 .rename_i hk;cases h;exact .inr ⟨rfl,hk⟩
 cases h
theorem alE{a b:PV}{r:Bool}(h:uv true a b=some r):∃k x y,a=.int k x/\b=.int k y/\r=(x==y):=by
 cases a<;>cases b<;>simp[uv] at h
 exact⟨_,_,_,rfl,by rw[h.1],h.2.symm⟩
theorem alD{a b:PV}{r:Bool}(h:uv false a b=some r):∃x y,a=.bool x/\b=.bool y/\r=(x==y):=by
 cases a<;>cases b<;>simp[uv] at h
 exact⟨_,_,rfl,rfl,h.symm⟩
theorem alG{as bs:List C}{r:Bool}(h:vh [] as bs=some r):r=true:=by
 cases as<;>cases bs<;>simp[vh] at h
 exact h
theorem alF{k:Bool}{ks:List Bool}{as bs:List C}{r:Bool}(h:vh (k::ks) as bs=some r):
  ∃a ar b br r0,as=.p a::ar/\bs=.p b::br/\uv k a b=some r0/\(r0=true->vh ks ar br=some r)/\(r0=false->r=false):=by
 cases as with
 |nil=>simp[vh] at h
 |cons x ar=>
  cases bs with
  |nil=>cases x<;>simp[vh] at h
  |cons y br=>
   cases x<;>cases y<;>simp only[vh] at h<;>try cases h
   rename_i a b;cases he:uv k a b with
   |none=>simp[he] at h
   |some r0=>
    refine⟨a,ar,b,br,r0,rfl,rfl,he,fun e=>?_,fun e=>?_⟩
    .subst e;simpa [he] using h
    subst e;simp[he] at h;exact h
theorem alH{w:World}{m:Mem}(d:Nat){A B:Array Value}:∀ {fs:List Field} {ks:List Bool} {k:Nat} {as bs:List C} {r:Bool},KA P k fs=some ks->vh ks as bs=some r->
  (∀(j:Nat) (x:C),as[j]?=some x->∃v,A[k+j]?=some v/\cY m x v)->(∀(j:Nat) (x:C),bs[j]?=some x->∃v,B[k+j]?=some v/\cY m x v)->
  (Op.eqFields (d+1) A B fs).run P w=.ok r w:=by
 intro fs
 induction fs with
 |nil=>intro ks k as bs r hf he _ _;simp[KA] at hf;subst hf;rw[alG he];simp[Op.eqFields,Sem.run_pure]
 |cons f fs ih=>
  intro ks k as bs r hf he ha hb;simp only[KA] at hf;split at hf
  .rename_i b Cc h1 h2;split at hf
   .rename_i hc;obtain⟨wS,an1⟩:=hc;cases hf;obtain⟨x,ar,y,br,r0,rfl,rfl,h0,ht,hf⟩:=alF he;obtain⟨va,Nv,vB⟩:=ha 0 (.p x) rfl;obtain⟨vb,hvb,qQ⟩:=hb 0 (.p y) rfl;obtain⟨vB⟩:=vB;obtain⟨qQ⟩:=qQ;rw[xw] at Nv hvb;have Nj:∀(X:Array Value) (v:Value),X[k]?=some v->(part f.type X f.offset).run P w=.ok v w:=by
     intro X v hX;have xQ:(isAgg f.type).run P w=.ok false w:=by rcases agW h1 with ⟨_,kk,hu⟩|⟨_,hu⟩<;>simp[isAgg,run_underlying hu]
     rw[wS];simp[part,xQ,hX]
    have anH:(Op.equalIn (d+1) f.type va vb).run P w=.ok r0 w:=by
     rcases agW h1 with ⟨rfl,kk,hu⟩|⟨rfl,hu⟩
     .obtain⟨k',p,q,rfl,rfl,rfl⟩:=alE h0;cases vB;cases qQ;simp[Op.equalIn,run_underlying hu]
     obtain⟨p,q,rfl,rfl,rfl⟩:=alD h0;cases vB;cases qQ;simp[Op.equalIn,run_underlying hu]
    simp only[Op.eqFields,aF an1,Sem.run_bind,Nj A va Nv,Nj B vb hvb,anH,Result.andThen_ok];cases r0 with
    |false=>rw[hf rfl];simp[Sem.run_pure]
    |true=>simp only[BQ,dx,if_false];exact ih h2 (ht rfl) (fun j x hx=>by have:=ha (j+1) x (by simpa using hx);rwa[show k+(j+1)=k+1+j by omega] at this) (fun j x hx=>by have:=hb (j+1) x (by simpa using hx);rwa[show k+(j+1)=k+1+j by omega] at this)
   cases hf
  cases hf
def BT:u5->Value->Bool->Prop
 | .ptr,v,b=>∃a,v=.pointer a/\a.isNone=b
 | .slc,v,b=>∃a l c,v=.slice a l c/\a.isNone=b
 | .map,v,b=>∃r,v=.map r/\r.isNone=b
 | .fnc,v,b=>(v=.nilFunc/\b=true)\/ ∃f x y,v=.func f x y/\b=false
 | .ifc,v,b=>(v=.nilIface/\b=true)\/ ∃d x,v=.iface d x/\b=false
 |_,_,_=>False
theorem yt{m:Mem}{k:u5}{x:V}{v:Value}{b:Bool}(h:GH k x=some b)(hr:bK m x v):BT k v b:=by
 unfold GH at h;split at h<;>cases h
 all_goals first
  |(obtain⟨hp⟩:cY m _ v:=hr;cases hp;first
    |exact⟨_,rfl,rfl⟩
    |exact⟨_,_,_,rfl,rfl⟩
    |exact .inl ⟨rfl,rfl⟩
    |exact .inr ⟨_,_,_,rfl,rfl⟩
    |exact .inr ⟨_,_,rfl,rfl⟩)
  |(have hc:cY m _ v:=hr;cases hc;first
    |exact⟨_,rfl,rfl⟩
    |exact⟨_,_,_,rfl,rfl⟩
    |exact .inr ⟨_,_,_,rfl,rfl⟩)
def Ss(P:Program)(t:TypeId):u5->Prop
 | .bool=>P.underlying t=some .bool
 | .ptr=>∃e,P.underlying t=some (.pointer e)
 | .slc=>∃e,P.underlying t=some (.slice e)
 | .map=>∃a b,P.underlying t=some (.map a b)
 | .fnc=>∃a b c,P.underlying t=some (.func a b c)
 | .ifc=>∃a,P.underlying t=some (.interface a)
 | .str ks=>∃fs,P.underlying t=some (.struct fs)/\P.stoodInHeld t=false/\P.eqGuardType P.depth t=false/\KA P 0 fs.toList=some ks
theorem aaP{t:TypeId}{x y:Operand}{k:u5}(h:L6 P t x y=some k):Ss P t k/\(k=.ifc->Ke x=true\/Ke y=true):=by
 unfold L6 at h;split at h
 .rename_i a ha;split at h
  .rename_i hc;cases h;exact⟨⟨_,ha⟩,fun _=>by simpa using hc⟩
  cases h
 .rename_i ha;cases h;exact⟨ha,fun e=>by cases e⟩
 .rename_i ha;cases h;exact⟨⟨_,ha⟩,fun e=>by cases e⟩
 .rename_i ha;cases h;exact⟨⟨_,ha⟩,fun e=>by cases e⟩
 .rename_i ha;cases h;exact⟨⟨_,_,ha⟩,fun e=>by cases e⟩
 .rename_i ha;cases h;exact⟨⟨_,_,_,ha⟩,fun e=>by cases e⟩
 .rename_i fs ha;split at h
  .rename_i hc;simp only[dE] at h;obtain⟨ks,h1,rfl⟩:=h;simp at hc;exact⟨⟨fs,ha,hc.1,hc.2,h1⟩,fun e=>by cases e⟩
  cases h
 cases h
theorem aaQ{t:TypeId}{k:u5}{v u:Value}{a b:Bool}(w:World)(hk:Ss P t k)(h1:BT k v a)(h2:BT k u b)(eH:a=true\/b=true)(d:Nat):(Op.equalIn (d+1) t v u).run P w=.ok (a&&b) w:=by
 cases k with
 |bool=>exact h1.elim
 |str n=>exact h1.elim
 |ptr=>obtain⟨e,hu⟩:=hk;obtain⟨x,rfl,rfl⟩:=h1;obtain⟨y,rfl,rfl⟩:=h2;cases x<;>cases y<;>simp at eH<;>simp[Op.equalIn,run_underlying hu]
 |slc=>obtain⟨e,hu⟩:=hk;obtain⟨x,_,_,rfl,rfl⟩:=h1;obtain⟨y,_,_,rfl,rfl⟩:=h2;cases x<;>cases y<;>simp at eH<;>simp[Op.equalIn,run_underlying hu]
 |map=>obtain⟨e,e',hu⟩:=hk;obtain⟨x,rfl,rfl⟩:=h1;obtain⟨y,rfl,rfl⟩:=h2;cases x<;>cases y<;>simp at eH<;>simp[Op.equalIn,run_underlying hu]
 |fnc=>obtain⟨e,e',e'',hu⟩:=hk;rcases h1 with ⟨rfl,rfl⟩|⟨_,_,_,rfl,rfl⟩<;>rcases h2 with ⟨rfl,rfl⟩|⟨_,_,_,rfl,rfl⟩<;>simp at eH<;>simp[Op.equalIn,run_underlying hu]
 |ifc=>obtain⟨e,hu⟩:=hk;rcases h1 with ⟨rfl,rfl⟩|⟨_,_,rfl,rfl⟩<;>rcases h2 with ⟨rfl,rfl⟩|⟨_,_,rfl,rfl⟩<;>simp at eH<;>simp[Op.equalIn,run_underlying hu]
section
variable {m:Mem} {ak:Env} {a:Act} {o:Oper} (aq:Ok w0 m) (hr:iS m ak a.tmps)
include aq hr
theorem alL{t:TypeId}{k:u5}{x y:V}{v u:Value}{b:Bool}(hk:Ss P t k)(h:Cn k x y=some b)(hx:bK m x v)(hy:bK m y u)(d:Nat):(Op.equalIn (d+2) t v u).run P m.w=.ok b m.w:=by
 have _u0:=aq;have _u1:=hr;unfold Cn at h;split at h
 .cases h;rw[EI hx,EI hy];have hk:P.underlying t=some .bool:=hk;simp only[Op.equalIn,Sem.run_bind,run_underlying hk,Result.andThen_ok,Sem.run_pure]
 .obtain⟨A,rfl,hA⟩:=bK.agg.1 hx;obtain⟨B,rfl,hB⟩:=bK.agg.1 hy;obtain⟨fs,hu,hs,_,hf⟩:=hk;have zH:P.fieldsOf t=fs:=by simp[Program.fieldsOf,hu]
  rw[run_equalIn_agg m.w (d+1) t A B (by rw[zH];exact hu) hs,zH];refine alH (w:=m.w) (m:=m) d hf h (fun j x hx=>?_) (fun j x hx=>?_)
  .have au:j<A.size:=by have:=hA.1;simp at this;rw[this];exact(aW.1 hx).1
   exact⟨A[j],by simp[au],hA.2 j x _ hx (by simp[au])⟩
  have au:j<B.size:=by have:=hB.1;simp at this;rw[this];exact(aW.1 hx).1
  exact⟨B[j],by simp[au],hB.2 j x _ hx (by simp[au])⟩
 .cases h
 .cases h
 split at h
 .rename_i hb;have:=aaQ (P:=P) m.w hk (yt h hx) (yt hb hy) (.inr rfl) (d+1)
  simpa using this
 split at h
 .rename_i ha;have:=aaQ (P:=P) m.w hk (yt ha hx) (yt h hy) (.inl rfl) (d+1)
  simpa using this
 cases h
theorem alI{op:BinOp}{t:TypeId}{k:u5}{x y:Operand}{x' y':aR}{b:Bool}(hk:L6 P t x y=some k)(hx:cF x=some x')(hy:cF y=some y')(h:Cn k (ev ak x') (ev ak y')=some b):
  (eqGuard op t x y (a.eval x) (a.eval y)).run P m.w=.ok () m.w:=by
 have _u0:=aq;obtain⟨cP,jk⟩:=aaP hk;have h1:=eB hx hr;have h2:=eB hy hr;by_cases hop:op=.eql\/op=.neq
 .unfold Cn at h;split at h
  .rename_i e1 e2;rw[e1] at h1;rw[EI h1,eqGuard_at_bool];rfl
  .rename_i e1 e2;rw[e1] at h1;rw[e2] at h2;obtain⟨A,e3,_⟩:=bK.agg.1 h1;obtain⟨B,e4,_⟩:=bK.agg.1 h2;obtain⟨fs,_,_,hg,_⟩:=cP;rw[e3,e4];exact run_eqGuard_agg m.w op t x y A B hg
  .cases h
  .cases h
  rename_i k q1 q2 q3 q4 q5 q6 q7;have hn:∃b1 b2,BT k (a.eval x) b1/\BT k (a.eval y) b2:=by
   split at h
   .rename_i hb;exact⟨_,_,yt h h1,yt hb h2⟩
   split at h
   .rename_i ha;exact⟨_,_,yt ha h1,yt h h2⟩
   cases h
  obtain⟨b1,b2,n1,n2⟩:=hn;cases k with
  |bool=>exact n1.elim
  |str n=>exact n1.elim
  |ptr=>obtain⟨q,e,_⟩:=n1;rw[e,eqGuard_at_pointer];rfl
  |slc=>obtain⟨q,_,_,e,_⟩:=n1;rw[e,eqGuard_at_slice];rfl
  |map=>obtain⟨q,e,_⟩:=n1;rw[e,eqGuard_at_map];rfl
  |fnc=>
   rcases n1 with ⟨e,_⟩|⟨_,_,_,e,_⟩
   .rw[e,eqGuard_at_nilFunc];rfl
   rw[e,eqGuard_at_func];rfl
  |ifc=>
   rcases n1 with ⟨e,_⟩|⟨_,_,e,_⟩
   .rcases n2 with ⟨e',_⟩|⟨_,_,e',_⟩
    .rw[e,e'];have hc:(∃c,x=.const c)\/ ∃c,y=.const c:=by
      rcases jk rfl with hc|hc
      .cases x<;>simp[Ke] at hc
       exact .inl ⟨_,rfl⟩
      cases y<;>simp[Ke] at hc
      exact .inr ⟨_,rfl⟩
     rcases hc with ⟨c,rfl⟩|⟨c,rfl⟩
     .rw[eqGuard_nil_constL];rfl
     rw[eqGuard_nil_constR];rfl
    rw[e,e',eqGuard_nil_iface];rfl
   rw[e,eqGuard_at_iface];rfl
 have:eqGuard op t x y (a.eval x) (a.eval y)=pure ():=by
  cases op<;>first
   |rfl
   |exact(hop (.inl rfl)).elim
   |exact(hop (.inr rfl)).elim
 rw[this];rfl
theorem aj2{t:TypeId}{k:u5}{v u:Value}{b1:Bool}(hs:(∃p q,v=.bool p/\u=.bool q)\/(∃p q,v=.agg p/\u=.agg q)\/ ∃p q,BT k v p/\BT k u q)(h:(Op.equalIn (9998+2) t v u).run P m.w=.ok b1 m.w):
  (binOp .eql t v u).run P m.w=.ok (.bool b1) m.w/\(binOp .neq t v u).run P m.w=.ok (.bool (!b1)) m.w:=by
 have _u0:=aq;have _u1:=hr;have he:Op.equal t v u=Op.equalIn (9998+2) t v u:=rfl;have key:binOp .eql t v u=(do pure (.bool (<- Op.equal t v u)))/\binOp .neq t v u=(do pure (.bool (!(<- Op.equal t v u)))):=by
  rcases hs with ⟨p,q,rfl,rfl⟩|⟨p,q,rfl,rfl⟩|⟨p,q,h1,h2⟩
  .exact⟨rfl,rfl⟩
  .exact⟨rfl,rfl⟩
  cases k with
  |bool=>exact h1.elim
  |str n=>exact h1.elim
  |ptr=>obtain⟨_,rfl,_⟩:=h1;obtain⟨_,rfl,_⟩:=h2;exact⟨rfl,rfl⟩
  |slc=>obtain⟨_,_,_,rfl,_⟩:=h1;obtain⟨_,_,_,rfl,_⟩:=h2;exact⟨rfl,rfl⟩
  |map=>obtain⟨_,rfl,_⟩:=h1;obtain⟨_,rfl,_⟩:=h2;exact⟨rfl,rfl⟩
  |fnc=>rcases h1 with ⟨rfl,_⟩|⟨_,_,_,rfl,_⟩<;>rcases h2 with ⟨rfl,_⟩|⟨_,_,_,rfl,_⟩<;>exact⟨rfl,rfl⟩
  |ifc=>rcases h1 with ⟨rfl,_⟩|⟨_,_,rfl,_⟩<;>rcases h2 with ⟨rfl,_⟩|⟨_,_,rfl,_⟩<;>exact⟨rfl,rfl⟩
 rw[key.1,key.2,he];simp only[Sem.run_bind,h,Result.andThen_ok,Sem.run_pure,and_self]
theorem ag7{op:BinOp}{t ty:TypeId}{x y:Operand}{x' y':aR}{k:u5}{neg b:Bool}(ho:o.op=.binOp op t x y ty)(hop:(op=.eql/\neg=false)\/(op=.neq/\neg=true))(hk:L6 P t x y=some k)(hx:cF x=some x')(hy:cF y=some y')
  (hv:Cn k (ev ak x') (ev ak y')=some b):fE P w0 a.eval o m (.one (.p (.bool (if neg then !b else b)))) []:=by
 have h1:=eB hx hr;have h2:=eB hy hr;have hg:=alI aq hr (op:=op) hk hx hy hv;have he:=alL aq hr (aaP hk).1 hv h1 h2 9998;have hs:(∃p q,a.eval x=.bool p/\a.eval y=.bool q)\/(∃p q,a.eval x=.agg p/\a.eval y=.agg q)\/ ∃p q,BT k (a.eval x) p/\BT k (a.eval y) q:=by
  unfold Cn at hv;split at hv
  .rename_i e1 e2;rw[e1] at h1;rw[e2] at h2;exact .inl ⟨_,_,EI h1,EI h2⟩
  .rename_i e1 e2;rw[e1] at h1;rw[e2] at h2;obtain⟨A,e3,_⟩:=bK.agg.1 h1;obtain⟨B,e4,_⟩:=bK.agg.1 h2;exact .inr (.inl ⟨A,B,e3,e4⟩)
  .cases hv
  .cases hv
  split at hv
  .rename_i hb;exact .inr (.inr ⟨_,_,yt hv h1,yt hb h2⟩)
  split at hv
  .rename_i ha;exact .inr (.inr ⟨_,_,yt ha h1,yt hv h2⟩)
  cases hv
 obtain⟨r1,r2⟩:=aj2 aq hr hs he;rcases hop with ⟨rfl,rfl⟩|⟨rfl,rfl⟩
 .exact .calm aq (by simp[execOp,ho,hg,r1]) (mh (.bool _))
 exact .calm aq (by simp[execOp,ho,hg,r2]) (mh (.bool _))
end
end Go.Abs
namespace Go.Abs
variable {P:Program} {w0:World}
theorem aj6:∀ {es:List (List PV)} {bs:List UInt8},bytesOf es=some bs->∃ns:List Int,es.flatten=ns.map (PV.int .u8)/\bs=ns.map (fun n=>UInt8.ofNat n.toNat)/\ns.length=es.length:=by
 intro es
 induction es with
 |nil=>intro bs h;simp[bytesOf] at h;exact⟨[],rfl,h,rfl⟩
 |cons e r ih=>
  intro bs h;unfold bytesOf at h;split at h
  .rename_i e';cases e'
  .rename_i n r' e';cases e';simp only[dE] at h;obtain⟨q,hq,rfl⟩:=h;obtain⟨ns,h1,h2,h3⟩:=ih hq;exact⟨n::ns,by simp[h1],by simp[h2],by simp[h3]⟩
  cases h
theorem asd{w:World}{own:Nat->Prop}:∀ {ns:List Int} {vs:List Value},Pw (ch w own) (ns.map (PV.int .u8)) vs->vs=ns.map (Value.int .u8):=by
 intro ns
 induction ns with
 |nil=>intro vs h;have:=h.1;simp at this;simp[this]
 |cons n ns ih=>
  intro vs h;cases vs with
  |nil=>have:=h.1;simp at this
  |cons v vs=>have h0:=h.2 0 _ v rfl rfl;cases h0;rw[ih (vs:=vs) ⟨by have:=h.1;simpa using this,fun j x u a b=>h.2 (j+1) x u (by simpa using a) (by simpa using b)⟩];rfl
theorem ar9:∀(ns:List Int) (s:ByteArray),ns.foldl (fun r n=>r.push (UInt8.ofNat n.toNat)) s=⟨s.data++(ns.map (fun n=>UInt8.ofNat n.toNat)).toArray⟩:=by
 intro ns
 induction ns with
 |nil=>intro s;cases s;simp
 |cons n ns ih=>intro s;simp only[Ap,dK];rw[ih];cases s;simp[ByteArray.push]
section
variable {m:Mem} {ak:Env} {a:Act} {o:Oper} (aq:Ok w0 m) (hr:iS m ak a.tmps)
include aq hr
theorem atk{s d e:TypeId}{x:Operand}{x':aR}{es:List (List PV)}{r:List Nat}{bs:List UInt8}(ho:o.op=.convert s d x)(hs:P.underlying s=some (.slice e))(he:P.underlying e=some (.int .u8))(hd:P.underlying d=some .string)
  (hx:cF x=some x') (dB:fh m.aj (ev ak x')=some (es,r,[])) (hb:bytesOf es=some bs):fE P w0 a.eval o m (.one (.p (.str ⟨bs.toArray⟩))) []:=by
 obtain⟨ns,h1,h2,h3⟩:=aj6 hb;obtain⟨ax,cx,wV,_,yh⟩:=aaJ (own:=m.own) aq dB (eB hx hr) ⟨fun _ h=>h,fun _ h=>by simp at h⟩;refine .calm aq (x:=.string ⟨bs.toArray⟩) ?_ (mh (.str _));have key:(Conv.bytesToString (.slice ax es.length cx)).run P m.w=.ok (.string ⟨bs.toArray⟩) m.w:=by
  by_cases aI:es=[]
  .subst aI;have:ns=[]:=by simpa using h3
   subst this;have mJ:bs=[]:=by simpa using h2
   subst mJ;cases ax with
   |none=>simp[Conv.bytesToString,Sem.run_pure];rfl
   |some ad=>have:=run_bytesToString (P:=P) m.w ad 0 cx [] (by simp[loadCells,loadCellsFrom,Sem.run_pure]);exact this
  obtain⟨b,off,news,rfl,l7,xT⟩:=yh aI;rw[h1] at l7;have hn:=asd l7;have hl:news.length=es.length:=by rw[hn];simpa using h3
  have anU:(loadCells ⟨b,off,none⟩ es.length).run P m.w=.ok (ns.map (Value.int .u8)).toArray m.w:=by rw[<- hl,<- hn];exact run_loadCells_list m.w ⟨b,off,none⟩ news fun j v hj=>by rw[Addr.add_lit];exact xT j v hj
  rw[run_bytesToString m.w _ _ cx ns anU,ar9,h2];simp[ByteArray.empty,ByteArray.emptyWithCapacity];rfl
 simp only[execOp,ho,wV,Sem.run_bind,run_convert_bytes_string m.w s d e ax es.length cx hs he hd,key,Result.andThen_ok,Sem.run_pure]
end
end Go.Abs
namespace Go.Abs
variable {P:Program} {w0:World}
theorem SL{xs:Array Operand}{a:aR}(h:pW xs.toList=some [a]):∃x,xs= #[x]/\cF x=some a:=by
 obtain⟨xs⟩:=xs;cases xs with
 |nil=>simp[pW] at h
 |cons x r=>
  simp only[pW] at h;split at h
  .rename_i y ys e1 e2;cases h;cases r with
   |nil=>exact⟨x,rfl,e1⟩
   |cons z r=>simp only[pW] at e2;split at e2<;>simp at e2
  cases h
theorem SM{xs:Array Operand}{a b:aR}(h:pW xs.toList=some [a,b]):∃x y,xs= #[x,y]/\cF x=some a/\cF y=some b:=by
 obtain⟨xs⟩:=xs;cases xs with
 |nil=>simp[pW] at h
 |cons x r=>
  simp only[pW] at h;split at h
  .rename_i y ys e1 e2;cases h;obtain⟨z,hz,GC⟩:=SL (xs:=r.toArray) (by simpa using e2);have:r=[z]:=by simpa using congrArg Array.toList hz
   subst this;exact⟨x,z,rfl,e1,GC⟩
  cases h
theorem ava{xs:Array TypeId}{t u:TypeId}(h1:xs[0]?=some t)(h2:xs[1]?=some u)(hs:xs.size=2):xs= #[t,u]:=by
 obtain⟨xs⟩:=xs
 match xs,hs with
 |[a,b],_=>simp at h1 h2;subst h1 h2;rfl
theorem amA{α:Type}{sz:Nat}{es ys:List (List α)}{off:Nat}(h:∀e∈es,e.length=sz)(hy:∀e∈ys,e.length=sz)(hl:off+ys.length<=es.length):(eO es off ys).flatten=eO es.flatten (off*sz) ys.flatten:=by
 have ht:∀k,k<=es.length->(es.take k).flatten.length=k*sz:=fun k hk=>by rw[F0 fun e he=>h e (xv he),fX,Ar hk]
 have e1:es.flatten=(es.take off).flatten++(es.drop off).flatten:=by rw[<- Dw,nC]
 have e2:es.flatten=(es.take (off+ys.length)).flatten++(es.drop (off+ys.length)).flatten:=by rw[<- Dw,nC]
 unfold eO;rw[Dw,Dw,F0 hy];congr 1
 .congr 1
  conv=>rhs;rw[e1]
  rw[List.take_left' (ht off aa)]
 rw[<- fZ]
 conv=>rhs;rw[e2]
 rw[List.drop_left' (ht _ hl)]
theorem avG{R:PV->Value->Prop}{z:List PV}{v:Array Value}{n:Nat}(hz:Pw R z v.toList):Pw R (List.replicate n z).flatten (Builtin.zeroCells v n).toList:=by
 have mf:z.length=v.size:=by have:=hz.1;simp at this;omega
 have dM:∀e∈List.replicate n z,e.length=v.size:=fun e he=>by rw[Sf he];exact mf
 have hlen:(Builtin.zeroCells v n).toList.length=n*v.size:=by simp[size_zeroCells]
 refine⟨by rw[hlen,F0 dM];simp,fun j x u p q=>?_⟩;have hj:j<n*v.size:=by have:=(aW.1 q).1;omega
 have gE:0<v.size:=by
  rcases Nat.eq_zero_or_pos v.size with h|h
  .rw[h] at hj;omega
  exact h
 have hdiv:j/v.size<n:=by rw[Nat.div_lt_iff_lt_mul gE];exact hj
 have Jt:j%v.size<v.size:=dO _ gE;have he:(List.replicate n z)[j/v.size]?=some z:=by simp[hdiv]
 have h1:=FZ dM he Jt;rw[show j/v.size*v.size+j%v.size=j by rw[Sm];exact aiv j v.size] at h1;rw[h1] at p;have h2:(Builtin.zeroCells v n).toList[j]?=some v[j%v.size]! :=by unfold Builtin.zeroCells;simp[hj]
 rw[h2] at q;cases q;refine hz.2 (j%v.size) x _ p ?_;simp[Jt]
section
variable {m:Mem} {ak:Env} {a:Act} {o:Oper} (aq:Ok w0 m) (hr:iS m ak a.tmps)
include aq hr
theorem atn{c:Call}{x:Operand}{x':aR}{t e:TypeId}{sz bytes:Nat}{z:List PV}{sh:Nat->Bool}{v:V}{u:List eK}{rd:List Nat}(ho:o.op=.call c)(hc:c.callee=.builtin .clear)(has:c.args= #[x])(jC:c.argTypes[0]?=some t)
  (he:AP P t=some (e,sz,bytes,z)) (hx:cF x=some x') (hp:bt sh ak m.aj (.clear z x')=.done v u rd):fE P w0 a.eval o m v u:=by
 obtain⟨i,zv,ht,hi,hs,hb,⟨gE,Gc⟩,wR,JI,mf,dz⟩:=Pa he;have kS:=eB hx hr;have run:∀(y:Value) (w':World),(Builtin.clear_ c.argTypes o.type #[a.eval x]).run P m.w=.ok y w'->(execOp a.eval o).run P m.w=.ok (.value y) w':=by intro y w' h;simp[execOp,ho,resolve,hc,has,invoke,builtin,h]
 have quiet:(Builtin.clear_ c.argTypes o.type #[a.eval x]).run P m.w=.ok (.tuple #[]) m.w->fE P w0 a.eval o m (.tup []) []:=fun h=>
  ⟨.tuple #[],m,.inl (run _ _ h),aq,Ev.refl _,rfl,rfl,(⟨#[],rfl,rfl,fun j x u h=>by simp at h⟩:bK m (.tup []) _)⟩
 simp only[bt] at hp;split at hp
 .rename_i hv;cases hp;rw[hv] at kS;have kS:cY m _ (a.eval x):=kS;generalize uD:a.eval x=b at kS;rw[uD] at quiet;apply quiet;cases kS with
  |p h=>cases h;simp[Builtin.clear_,jC,run_underlying ht]
 .rename_i hv;cases hp;rw[hv] at kS;have kS:cY m _ (a.eval x):=kS;generalize uD:a.eval x=b at kS;rw[uD] at quiet;apply quiet;cases kS with
  |p h=>
   cases h with
   |yE a cap hn hm=>cases a<;>simp[Builtin.clear_,jC,run_underlying ht]
   |sl b o cap sz f h1 h2 h3 h4=>simp[Builtin.clear_,jC,run_underlying ht]
 .rename_i id g w off len hv;rw[hv] at kS;have kS:cY m _ (a.eval x):=kS;generalize uD:a.eval x=b at kS;rw[uD] at quiet run;cases kS with
  |hsl ad cap hg hl hm nh=>
   split at hp
   .rename_i h0;cases hp;subst h0;apply quiet;simp[Builtin.clear_,jC,run_underlying ht]
   rename_i h0;split at hp
   .rename_i g' ty bN es ir;split at hp
    .rename_i MF;obtain⟨iG,cq,hfit⟩:=MF;cases hp;have bn:(m.aj id).2=some (.arr ty bN es):=by rw[ir]
     obtain⟨_,nh,_⟩:=nh bN (by rw[ir];exact iG) (by rw[ir];rfl);have nh:=nh (.inr aa);subst nh;obtain⟨cur,hh,pG,tM,sK,sM,ac0,Qg⟩:=aq.obj id _ bn;have JG:∀e∈List.replicate len z,e.length=bN:=fun e he=>by rw[Sf he];exact cq.symm
     have aox:zv.cells.size=bN:=by rw[JI,<- mf,cq]
     have JH:(List.replicate len z).length=len:=Yx;have xY:=amA (off:=off) tM JG (by rw[JH];exact hfit);have ye:(off+len)*bN<=es.length*bN:=lR _ hfit;have ac8:es.length*bN<=m.κ id*bN:=lR _ sK;rw[fZ] at ye;generalize hZ:(Builtin.zeroCells zv.cells len).toList=Z;have hZl:Z.length=len*bN:=by rw[<- hZ];simp[size_zeroCells,aox]
     have hZp:∀w own,dj w own (List.replicate len z).flatten Z:=fun w own=>dj.pw.2 (by rw[<- hZ];exact avG (dj.pw.1 (dz w own)));have Qe:∀v∈Z,v.oneCell'=true:=fun v hv=>by
      obtain⟨j,hj⟩:=je hv;have au:j<(List.replicate len z).flatten.length:=by rw[<- (hZp m.w m.own).1];exact(aW.1 hj).1
      exact((hZp m.w m.own).2 j _ v (my au) hj).NU
     have A0:off*bN+0+Z.length<=cur.size:=by rw[hZl,ac0];omega
     have cX:=run_storeCells_at P (m.σ id) (off*bN) ty Z 0 cur m.w hh A0 Qe;simp only[xw] at cX;generalize hW:m.w.setRow (m.σ id) (cur.toList.take (off*bN)++Z++cur.toList.drop (off*bN+Z.length)).toArray=W at cX;have Eh:W.heap.size=m.w.heap.size:=by rw[<- hW];simp
     have Eg:∀c,c≠m.σ id->W.heap[c]?=m.w.heap[c]? :=fun c hc=>by rw[<- hW];exact setRow_other m.w (m.σ id) c _ hc
     have adv:(eO es off (List.replicate len z)).length=es.length:=Rz (by rw[JH];exact hfit);have dQ:=Og (w':=W) (o:=.arr ty bN (eO es off (List.replicate len z))) bn rfl (by simp[kI]) (by rw[<- hW];rfl) (by rw[<- hW];rfl) (by rw[<- hW];rfl) Eh Eg;have CO:tn (m.j4 W id (.arr ty bN (eO es off (List.replicate len z)))) id (.arr ty bN (eO es off (List.replicate len z))):=by
      refine⟨_,by rw[<- hW];exact Oh hh,pG,?_,by rw[adv];exact sK,sM,?_,?_⟩
      .intro e' Gg;unfold eO at Gg;simp only[eD] at Gg;rcases Gg with (h|h)|h
       .exact tM e' (xv h)
       .exact JG e' h
       exact tM e' (wa h)
      .simp[Mem.j4];omega
      rw[adv,xY];have h1:=(dj.pw.1 (Qg.ev dQ.zero)).eO (dj.pw.1 (hZp (m.j4 W id (.arr ty bN (eO es off (List.replicate len z)))).w (m.j4 W id (.arr ty bN (eO es off (List.replicate len z)))).own)) (off*bN);rw[<- ahr aa (by simp;omega)] at h1;have h1:=dj.pw.2 h1
      simpa [eO] using h1
     refine⟨.tuple #[],m.j4 W id (.arr ty bN (eO es off (List.replicate len z))),.inl (run _ _ ?_),Rn bn rfl aq (by simp[kI]) (by rw[<- hW];rfl) (by rw[<- hW];rfl) (by rw[<- hW];rfl) Eh Eg CO,dQ,rfl,?_,(⟨#[],rfl,rfl,fun j x u h=>by simp at h⟩:bK _ (.tup []) _)⟩
     .obtain⟨k,rfl⟩:∃k,len=k+1:=⟨len-1,aa⟩;simp[Builtin.clear_,jC,run_underlying ht,zeroValue,typeInfo,hi,wR,hZ,cX,Mem.j4]
     simp[Mem.j4,app,ir,iG]
    cases hp
   cases hp
 cases hp
end
section
variable {m:Mem} {ak:Env} {a:Act} {o:Oper} (aq:Ok w0 m) (hr:iS m ak a.tmps)
include aq hr
theorem afp{t kt e:TypeId}{x k y:Operand}{x' k' y':aR}{kd:Nat}{ag:Bool}{sh:Nat->Bool}{v:V}{u:List eK}{rd:List Nat}(ho:o.op=.mapUpdate t x k y\/o.op=.insert t x k y)(ht:P.underlying t=some (.map kt e))
  (A6:keyOf P kt=some kd) (hx:cF x=some x') (hk:cF k=some k') (hy:cF y=some y') (hp:bt sh ak m.aj (.mupd kd ag x' k' y')=.done v u rd):fE P w0 a.eval o m v u:=by
 simp only[bt] at hp;split at hp
 .rename_i id g q cs e1 e2 e3;split at hp
  .rename_i g' rq es ps e4 e5;split at hp
   .rename_i qM;obtain⟨rfl,rfl,hq⟩:=qM;split at hp
    .rename_i i w hf;cases hp;exact ag9 aq hr ho ht A6 hx hk hy e1 e4 e2 hq e3 e5 hf
    .rename_i hf;cases hp;exact ag9 aq hr ho ht A6 hx hk hy e1 e4 e2 hq e3 e5 hf
    cases hp
   cases hp
  cases hp
 cases hp
theorem aqK{site:Nat}{sh:Nat->Bool}{p:mW}{v:V}{u:List eK}{rd:List Nat}(hc:FN P site o=some p)(hp:bt sh ak m.aj p=.done v u rd):fE P w0 a.eval o m v u:=by
 unfold FN at hc;split at hc
 · -- move
  rename_i x ho;simp only[dE] at hc;obtain⟨y,h1,rfl⟩:=hc;cases hp;exact ag8 aq hr (.inl ho) h1
 · -- assign
  rename_i x ho;simp only[dE] at hc;obtain⟨y,h1,rfl⟩:=hc;cases hp;exact ag8 aq hr (.inr ho) h1
 · -- pick
  rename_i c x y ho;split at hc
  .rename_i c' x' y' h1 h2 h3;cases hc;simp only[bt] at hp;split at hp
   .rename_i t ht;cases hp;exact atF aq hr ho h1 h2 h3 ht
   cases hp
  cases hc
 · -- alloc
  rename_i t ho;simp only[dE] at hc;obtain⟨z,h1,rfl⟩:=hc;cases hp;exact atf aq ho h1
 · -- box
  rename_i t x ho;simp only[dE] at hc;obtain⟨z,h1,rfl⟩:=hc;simp only[bt] at hp;split at hp
  .rename_i cs de;cases hp;exact ati aq hr ho h1 de
  cases hp
 · -- build
  rename_i t ps ho;split at hc
  .rename_i fs z h1 h2;split at hc
   .rename_i dM;simp only[dE] at hc;obtain⟨qs,h3,rfl⟩:=hc;simp only[bt] at hp;split at hp
    .rename_i rs Gy;cases hp;exact atm aq hr ho h1 h2 dM h3 Gy
    cases hp
   cases hc
  .rename_i n e z h1 h2;split at hc
   .rename_i i hi;simp only[dE] at hc;obtain⟨qs,h3,rfl⟩:=hc;simp only[bt] at hp;split at hp
    .rename_i rs Gy;cases hp;exact atl aq hr ho h1 h2 hi h3 Gy
    cases hp
   cases hc
  cases hc
 · -- buildSlice
  rename_i t n ps ho;split at hc
  .rename_i e sz bytes z as h1 h2;split at hc
   .rename_i qM;cases hc;simp only[bt] at hp;split at hp
    .rename_i es mK;obtain⟨g1,g2⟩:=atj (s:=site) aq hr ho h1 h2 qM.1 qM.2 mK;split at hp
     .rename_i qs hqs;cases hp;exact g1 qs hqs
     cases hp;exact g2
    cases hp
   cases hc
  cases hc
 · -- load
  rename_i t x ho;split at hc
  .rename_i k y h1 h2;cases hc;simp only[bt] at hp;split at hp
   .rename_i cs r de;split at hp
    .rename_i v' hv;cases hp;exact atu aq hr ho h1 h2 de hv
    cases hp
   cases hp
  cases hc
 · -- store
  rename_i t x y ho;split at hc
  .rename_i n x' y' h1 h2 h3;cases hc;simp only[bt] at hp;split at hp
   .rename_i cs de;exact atL aq hr ho h1 h2 h3 de hp
   cases hp
  cases hc
 · -- nilCheck
  rename_i x ho;simp only[dE] at hc;obtain⟨y,h1,rfl⟩:=hc;have hu:u=[]/\rd=[]:=by simp only[bt] at hp;split at hp<;>cases hp<;>exact⟨rfl,rfl⟩
  obtain⟨rfl,rfl⟩:=hu;exact atD aq hr ho h1 hp
 · -- binOp
  rename_i op t x y ty ho;split at hc
  .rename_i x' y' h1 h2;have acX:∀(op':BinOp),p=.bin op' x' y'->op'=op->fE P w0 a.eval o m v u:=by
    intro op' e1 e2;subst e1 e2;simp only[bt] at hp;split at hp
    .rename_i v' hv;cases hp;exact ath aq hr ho h1 h2 hv
    cases hp
   split at hc
   .cases hc;exact acX _ rfl rfl
   .cases hc;exact acX _ rfl rfl
   split at hc
   .rename_i k hk;cases hc;simp only[bt] at hp;split at hp
    .rename_i b hb;cases hp;exact ag7 aq hr (neg:=false) ho (.inl ⟨rfl,rfl⟩) hk h1 h2 hb
    cases hp
   .rename_i k hk;cases hc;simp only[bt] at hp;split at hp
    .rename_i b hb;cases hp;exact ag7 aq hr (neg:=true) ho (.inr ⟨rfl,rfl⟩) hk h1 h2 hb
    cases hp
   cases hc
  cases hc
 · -- unOp
  rename_i op t x ho;split at hc
  .simp only[dE] at hc;obtain⟨y,h1,rfl⟩:=hc;simp only[bt] at hp;split at hp
   .rename_i b e1 e2;cases hp;exact atE aq hr ho h1 e2
   .rename_i e1 e2;cases e1
   cases hp
  .simp only[dE] at hc;obtain⟨y,h1,rfl⟩:=hc;simp only[bt] at hp;split at hp
   .rename_i e1 e2;cases e1
   .rename_i k n e1 e2;cases hp;exact atC aq hr ho h1 e2
   cases hp
  cases hc
 · -- convert
  rename_i s d x ho;split at hc
  .rename_i ks k y h1 h2 h3;cases hc;simp only[bt] at hp;split at hp
   .rename_i k0 n hn;cases hp;exact ato aq hr ho h1 h2 h3 hn
   cases hp
  .rename_i e y h1 h2 h3;split at hc
   .rename_i he;cases hc;simp only[bt] at hp;split at hp
    .rename_i es r mK;split at hp
     .rename_i bs lL;cases hp;exact atk aq hr ho h1 he h2 h3 mK lL
     cases hp
    cases hp
   cases hc
  cases hc
 · -- makeFunc
  rename_i f x y ho;split at hc
  .rename_i x' y' h1 h2;cases hc;simp only[bt] at hp;split at hp
   .rename_i cs ds e1 e2;cases hp;exact aty aq hr ho h1 h2 e1 e2
   cases hp
  cases hc
 · -- makeMap
  rename_i t ho;split at hc
  .simp only[dE] at hc;obtain⟨k,h1,rfl⟩:=hc;cases hp;exact atz (kt:=t) (t:=t) (e:=t) aq ho
  cases hc
 · -- makeSlice
  rename_i t l c ho;split at hc
  .rename_i e sz bytes z l' c' h1 h2 h3;cases hc;simp only[bt] at hp;split at hp
   .rename_i n n' e1 e2;split at hp
    .rename_i qM;obtain⟨rfl,kx⟩:=qM;cases hp;exact atA aq hr ho h1 h2 h3 e1 e2 kx
    cases hp
   cases hp
  cases hc
 · -- slice
  rename_i t x lo hi ho;split at hc
  .rename_i x' CZ uE h1 h2 h3;split at hc
   .rename_i e ht;simp only[dE] at hc;obtain⟨sz,h4,rfl⟩:=hc;simp only[bt] at hp;split at hp
    .rename_i n hn;split at hp
     .rename_i l h e1 e2;have hu:u=[]/\rd=[]:=by
       unfold Dh at hp;repeat' split at hp
       all_goals first
        |cases hp
        |skip
       all_goals exact⟨rfl,rfl⟩
      obtain⟨rfl,rfl⟩:=hu;exact atJ aq hr ho ht h4 h1 h2 h3 hn e1 e2 hp
     cases hp
    cases hp
   .rename_i ht;cases hc;simp only[bt] at hp;split at hp
    .rename_i s hs;split at hp
     .rename_i l h e1 e2;split at hp
      .rename_i qM;cases hp;exact atK aq hr ho ht h1 h2 h3 hs e1 e2 qM.1 qM.2
      cases hp
     cases hp
    cases hp
   cases hc
  cases hc
 · -- fieldAddr
  rename_i s x f ho;split at hc
  .rename_i fs y h1 h2;split at hc
   .rename_i d hd;split at hc
    .rename_i hz;cases hc;have hu:u=[]/\rd=[]:=by
      simp only[bt] at hp;split at hp<;>cases hp<;>exact⟨rfl,rfl⟩
     obtain⟨rfl,rfl⟩:=hu;exact atq aq hr ho h1 hd hz h2 hp
    cases hc
   cases hc
  cases hc
 · -- field
  rename_i t x f ho;split at hc
  .rename_i fs y h1 h2;split at hc
   .rename_i d hd;simp only[dE] at hc;obtain⟨k,h3,rfl⟩:=hc;simp only[bt] at hp;split at hp
    .rename_i cs de;split at hp
     .rename_i v' hv;cases hp;exact atr aq hr ho h1 hd h3 h2 de hv
     cases hp
    cases hp
   cases hc
  cases hc
 · -- indexAddr
  rename_i t x i ho;split at hc
  .rename_i x' i' h1 h2;split at hc
   .rename_i e ht;simp only[dE] at hc;obtain⟨sz,h3,rfl⟩:=hc;have hu:u=[]/\rd=[]:=by
     simp only[bt] at hp;repeat' split at hp
     all_goals first
      |cases hp
      |skip
     all_goals exact⟨rfl,rfl⟩
    obtain⟨rfl,rfl⟩:=hu;exact ats aq hr ho ht h3 h1 h2 hp
   .rename_i n e ht;simp only[dE] at hc;obtain⟨sz,h3,rfl⟩:=hc;have hu:u=[]/\rd=[]:=by
     simp only[bt] at hp;repeat' split at hp
     all_goals first
      |cases hp
      |skip
     all_goals exact⟨rfl,rfl⟩
    obtain⟨rfl,rfl⟩:=hu;exact atd aq hr ho ht h3 h1 h2 hp
   cases hc
  cases hc
 · -- index
  rename_i t x i ho;split at hc
  .rename_i x' i' h1 h2;split at hc
   .rename_i n e ht;split at hc
    .rename_i sz k h3 h4;cases hc;simp only[bt] at hp;split at hp
     .rename_i n' cs e1 e2;split at hp
      .rename_i au;split at hp
       .rename_i v' hv;cases hp;exact ate aq hr ho ht h3 h4 h1 h2 e1 au e2 hv
       cases hp
      cases hp
     cases hp
    cases hc
   .rename_i ht;cases hc;simp only[bt] at hp;split at hp
    .rename_i n s e1 e2;split at hp
     .rename_i b hb;cases hp;exact atH aq hr ho ht h1 h2 e1 e2 hb
     cases hp
    cases hp
   cases hc
  cases hc
 · -- lookup
  rename_i t x k ok ho;split at hc
  .rename_i kt e x' k' h1 h2 h3;split at hc
   .rename_i z q h4 h5;split at hc
    .rename_i kd h6;split at hc
     .rename_i h7;cases hc;simp only[bt] at hp;split at hp
      .rename_i es r key e1 e2;split at hp
       .cases hp
       rename_i A6;split at hp
       .rename_i f hf;split at hp
        .rename_i w hw;cases hp;exact atv aq hr ho h1 h4 h6 h7 h2 h3 e1 e2 (Classical.not_not.1 A6) hf hw
        cases hp
       cases hp
      cases hp
     cases hc
    cases hc
   cases hc
  cases hc
 · -- mapUpdate
  rename_i t x k y ho;split at hc
  .rename_i kt e x' k' y' h1 h2 h3 h4;split at hc
   .rename_i q h5;simp only[dE] at hc;obtain⟨kd,h6,rfl⟩:=hc;exact afp aq hr (.inl ho) h1 h6 h2 h3 h4 hp
   cases hc
  cases hc
 · -- insert
  rename_i t x k y ho;split at hc
  .rename_i kt e x' k' y' h1 h2 h3 h4;split at hc
   .rename_i q h5;simp only[dE] at hc;obtain⟨kd,h6,rfl⟩:=hc;exact afp aq hr (.inr ho) h1 h6 h2 h3 h4 hp
   cases hc
  cases hc
 · -- extract
  rename_i x i ho;simp only[dE] at hc;obtain⟨y,h1,rfl⟩:=hc;simp only[bt] at hp;split at hp
  .rename_i vs qR;split at hp
   .rename_i v' hv;cases hp;exact atp aq hr ho h1 qR hv
   cases hp
  cases hp
 · -- call
  rename_i c ho;split at hc
  .rename_i f as h1 h2;simp only[dE] at hc;obtain⟨y,h3,rfl⟩:=hc;simp only[bt] at hp;repeat' split at hp
   all_goals cases hp
  .rename_i x h1 h2;obtain⟨x0,ny,sT⟩:=SL h2;split at hc
   .rename_i t ht;split at hc
    .rename_i hu;cases hc;simp only[bt] at hp;split at hp
     .rename_i s hs;cases hp;exact atI aq hr ho h1 ny ht hu sT hs
     cases hp
    .rename_i e hu;cases hc;simp only[bt] at hp;split at hp
     .rename_i n hn;cases hp;exact att aq hr ho h1 ny ht hu sT hn
     cases hp
    .rename_i k e hu;cases hc;simp only[bt] at hp;split at hp
     .rename_i n r hn;cases hp;exact atB aq hr ho h1 ny ht hu sT hn
     cases hp
    cases hc
   cases hc
  .rename_i x y h1 h2;obtain⟨x0,y0,ny,sT,zV⟩:=SM h2;split at hc
   .rename_i t u' ht hu;split at hc
    .rename_i e sz bytes z he;split at hc
     .rename_i qM;cases hc;obtain⟨rfl,cq⟩:=qM;exact atg aq hr ho h1 ny (ava ht hu cq) he sT zV hp
     cases hc
    cases hc
   cases hc
  .rename_i x y h1 h2;obtain⟨x0,y0,ny,sT,zV⟩:=SM h2;cases hc;simp only[bt] at hp;split at hp
   .rename_i k p k' q e1 e2;cases hp;exact atw aq hr ho h1 ny sT zV e1 e2
   cases hp
  .rename_i x y h1 h2;obtain⟨x0,y0,ny,sT,zV⟩:=SM h2;cases hc;simp only[bt] at hp;split at hp
   .rename_i k p k' q e1 e2;cases hp;exact atx aq hr ho h1 ny sT zV e1 e2
   cases hp
  .rename_i x h1 h2;obtain⟨x0,ny,sT⟩:=SL h2;split at hc
   .rename_i t ht;simp only[dE] at hc;obtain⟨⟨e,sz,bytes,z⟩,h3,rfl⟩:=hc;exact atn aq hr ho h1 ny ht h3 sT hp
   cases hc
  cases hc
 cases hc
end
end Go.Abs
namespace Go.Abs
variable {P:Program} {w0:World}
section
variable{m:Mem}{cs:List C}
def aiC(w:World)(Q:Nat->Prop)(ty sz:Nat)(es:List (List PV))(c:Nat)(v:Value):Prop:=∃cap cur,v=.slice (some ⟨c,0,none⟩) es.length cap/\w.heap[c]?=some (.cells cur ty (0,0))/\0<sz/\(∀e∈es,e.length=sz)/\es.length<=cap/\cap<=maxLen/\cur.size=cap*sz/\dj w Q es.flatten (cur.toList.take (es.length*sz))
def rl(w:World)(Q:Nat->Prop):List RC->List Value->List Nat->Prop
 |[],vs,bs=>vs=[]/\bs=[]
 | .p x::r,vs,bs=>∃v mS,vs=v::mS/\ch w Q x v/\rl w Q r mS bs
 | .own ty sz es::r,vs,bs=>∃v mS c Cc,vs=v::mS/\bs=c::Cc/\aiC w Q ty sz es c v/\rl w Q r mS Cc
theorem rl.mono{w w':World}{Q Q':Nat->Prop}(hk:∀c,c<w.heap.size-> ¬Q c->w'.heap[c]?=w.heap[c]? /\ ¬Q' c):∀ {rs:List RC} {vs:List Value} {bs:List Nat},(∀c∈bs,w'.heap[c]?=w.heap[c]?)->rl w Q rs vs bs->rl w' Q' rs vs bs:=by
 intro rs
 induction rs with
 |nil=>intro vs bs _ h;exact h
 |cons r rs ih=>
  intro vs bs hb h;cases r with
  |p x=>obtain⟨v,mS,rfl,h1,h2⟩:=h;exact⟨v,mS,rfl,h1.mono hk,ih hb h2⟩
  |own ty sz es=>obtain⟨v,mS,c,Cc,rfl,rfl,⟨cap,cur,e1,e2,e3,e4,e5,e6,e7,e8⟩,h2⟩:=h;exact⟨v,mS,c,Cc,rfl,rfl,⟨cap,cur,e1,by rw[hb c af];exact e2,e3,e4,e5,e6,e7,e8.mono hk⟩,ih (fun c hc=>hb c (by simp[hc])) h2⟩
theorem rl.less{w:World}{Q Q':Nat->Prop}(h:∀b,Q' b->Q b){rs:List RC}{vs:List Value}{bs:List Nat}(hr:rl w Q rs vs bs):rl w Q' rs vs bs:=hr.mono (fun c _ hn=>⟨rfl,fun hq=>hn (h c hq)⟩) (fun _ _=>rfl)
theorem atZ(aq:Ok w0 m){Q:Nat->Prop}(hQ:∀b,Q b->m.own b){c:C}{x:PV}{q:List Nat}{v:Value}(h:snap m.aj fM c=some (x,q))(hr:cY m c v)(hs:∀id∈q,¬Q (m.σ id)):ch m.w Q x v:=KE aq fM h hr ⟨hQ,hs⟩
theorem afS(aq:Ok w0 m){Q:Nat->Prop}(hQ:∀b,Q b->m.own b):∀ {cs:List C} {rs:List RC} {o q:List Nat} {vs:List Value},mj m.aj cs=some (rs,o,q)->dq m cs vs->(∀id∈q,¬Q (m.σ id))->
  rl m.w Q rs vs (o.map m.σ)/\ ∀id∈o,∃ob,(m.aj id).2=some ob/\ob.fA=true:=by
 intro cs
 induction cs with
 |nil=>
  intro rs o q vs h hr _;simp only[mj,fD,kB] at h;obtain⟨rfl,rfl,rfl⟩:=h;have:vs=[]:=by have:=hr.1;simpa using this
  exact⟨⟨this,rfl⟩,fun id h=>by simp at h⟩
 |cons c cs ih=>
  intro rs o q vs h hr hq;simp only[mj] at h;split at h
  .rename_i x o1 q1 xs os qs h1 h2;cases h;cases vs with
   |nil=>simp[dq] at hr
   |cons v vs=>
    obtain⟨i1,i2⟩:=ih (vs:=vs) h2 ⟨by have:=hr.1;simpa using this,fun j x u a b=>hr.2 (j+1) x u (by simpa using a) (by simpa using b)⟩ (fun id hid=>hq id (by simp[hid]));have hc:cY m c v:=hr.2 0 c v rfl rfl;have snapcase:∀ {y:PV},(snap m.aj fM c).map (fun(v,r)=>((.p v:RC),([]:List Nat),r))=some (x,o1,q1)->rl m.w Q (x::xs) (v::vs) ((o1++os).map m.σ)/\ ∀id∈o1++os,∃ob,(m.aj id).2=some ob/\ob.fA=true:=by intro _ h1;simp only[dE] at h1;obtain⟨⟨y,r⟩,h3,h4⟩:=h1;cases h4;exact⟨⟨v,vs,rfl,atZ aq hQ h3 hc (fun id hid=>hq id (by simp[hid])),i1⟩,i2⟩
    unfold jv at h1;split at h1
    .rename_i y;cases h1;have hy:ch m.w m.own y v:=by cases hc with|p h=>exact h
     exact⟨⟨v,vs,rfl,hy.less hQ,i1⟩,i2⟩
    .rename_i id g z len;split at h1
     .rename_i g' ty sz es hb;split at h1
      .rename_i qM;obtain⟨rfl,hlen⟩:=qM;cases h1;have hbo:(m.aj id).2=some (.arr ty sz es):=by rw[hb]
       obtain⟨cur,hh,gE,cq,hl,rJ,de,dz⟩:=aq.obj id _ hbo;cases hc with
       |hsl ad cap hg uG CN MU=>
        obtain⟨f1,f2,f3⟩:=MU sz (by rw[hb]) (by rw[hb];rfl);have nh:=f2 (.inl rfl);have k8:cap=m.κ id:=by rw[<- f3,iQ]
        rw[As] at nh;subst nh;subst k8;have au:(es.take len).length=len:=by simp;omega
        refine⟨⟨_,vs,m.σ id,os.map m.σ,rfl,rfl,⟨m.κ id,cur,by rw[au],hh,gE,fun e he=>cq e (xv he),by rw[au];exact uG,rJ,de,?_⟩,i1⟩,?_⟩
        .rw[au,IW cq];have h1:=(dj.pw.1 dz).take (len*sz);rw[HL,Ar (lR _ hlen)] at h1;exact(dj.pw.2 h1).less hQ
        intro j hj;simp only[yM,fY,cM] at hj;rcases hj with rfl|hj
        .exact⟨_,hbo,rfl⟩
        exact i2 j hj
      cases h1
     exact snapcase (y:=.uP) h1
    exact snapcase (y:=.uP) h1
  cases h
theorem adI:∀(rs:List RC) (site:Nat) (b b':aA),(∀s,site<=s->(b s).1=(b' s).1)->iY b site rs=iY b' site rs:=by
 intro rs
 induction rs with
 |nil=>intro site b b' _;rfl
 |cons r rs ih=>
  intro site b b' h;have h1:df b site r=df b' site r:=by
   cases r with
   |p x=>rfl
   |own ty sz es=>simp only[df,h site (bJ _)]
  simp only[iY,h1,ih (site+1) b b' (fun s hs=>h s aa)]
theorem aoS{s c k:Nat}{o:Ob}(hc:m.fr c):uj m (m.install s c k o) where
 own x _ hn:=⟨rfl,fun h=>hn (Qr hc h)⟩
 gen id:=by
  simp only[Mem.install,aN];split
  .rename_i e;subst e;exact Le _
  exact bJ _
 ref id hg hs:=by
  simp only[Mem.install,aN] at hg hs ⊢;split at hg
  .rename_i e;subst e;simp at hg
  rename_i e;simp only[ay e] at hs ⊢;exact⟨hs,trivial,trivial,trivial⟩
theorem uj.trans{a b c:Mem}(h:uj a b)(hs:a.w.heap.size<=b.w.heap.size)(k:uj b c):uj a c where
 own x hx hn:=by have h1:=h.own x hx hn;have h2:=k.own x (DB hx hs) h1.2;exact⟨h2.1.trans h1.1,h2.2⟩
 gen id:=mT (h.gen id) (k.gen id)
 ref id he hs':=by have h1:=h.gen id;have h2:=k.gen id;obtain⟨s1,e1,e2,e3⟩:=k.ref id aa hs';obtain⟨s2,f1,f2,f3⟩:=h.ref id aa s1;exact⟨s2,e1.trans f1,e2.trans f2,e3.trans f3⟩
theorem aoE{NK:Mem}:∀ {rs:List RC} {vs:List Value} {bs:List Nat} {site:Nat} {m:Mem},Ok w0 m->rl m.w m.own rs vs bs->bs.Nodup->(∀c∈bs,m.fr c/\w0.heap.size<=c)->Ev NK m->(∀c∈bs,NK.w.heap.size<=c\/NK.fA c)->
  ∃m',m'.w=m.w/\Ok w0 m'/\Ev NK m'/\uj m m'/\(∀c,m'.fr c↔m.fr c/\c∉bs)/\m'.aj=app (iY m.aj site rs).2 m.aj/\dq m' (iY m.aj site rs).1 vs:=by
 intro rs
 induction rs with
 |nil=>intro vs bs site m aq h _ _ dQ _;obtain⟨rfl,rfl⟩:=h;exact⟨m,rfl,aq,dQ,⟨fun c _ h=>⟨rfl,h⟩,fun _=>bJ _,fun _ _ h=>⟨h,rfl,rfl,rfl⟩⟩,fun c=>af,rfl,rfl,fun j x u h=>by simp[iY] at h⟩
 |cons r rs ih=>
  intro vs bs site m aq h eZ lL dQ M8;have cons:∀ {m':Mem} {x:C} {xs:List C} {v:Value} {vs:List Value},cY m' x v->dq m' xs vs->dq m' (x::xs) (v::vs):=by
   intro m' x xs v vs h1 h2;refine⟨by simp[h2.1],fun j y u a b=>?_⟩;cases j with
   |zero=>simp at a b;subst a b;exact h1
   |succ j=>simp at a b;exact h2.2 j y u a b
  cases r with
  |p x=>obtain⟨v,mS,rfl,h1,h2⟩:=h;obtain⟨m',e1,e2,e3,e4,e5,e6,e7⟩:=ih (site:=site+1) aq h2 eZ lL dQ M8;exact⟨m',e1,e2,e3,e4,e5,by simpa [iY,df] using e6,by simpa [iY,df] using cons (cY.p (h1.ev e4)) e7⟩
  |own ty sz es=>
   obtain⟨v,mS,c,Cc,rfl,rfl,⟨cap,cur,q1,q2,q3,q4,q5,q6,q7,q8⟩,h2⟩:=h;have hfc:=(lL c af).1;have h0:=aoS (s:=site) (k:=cap) (o:=.arr ty sz es) hfc;have hσ:(m.install site c cap (.arr ty sz es)).σ site=c:=by simp[Mem.install,aN]
   have hκ:(m.install site c cap (.arr ty sz es)).κ site=cap:=by simp[Mem.install,aN]
   have nk:Ok w0 (m.install site c cap (.arr ty sz es)):=Qq aq hfc (lL c af).2
    ⟨cur,by rw[hσ];exact q2,q3,q4,by rw[hκ];exact q5,by rw[hκ];exact q6,by rw[hκ];exact q7,dj.ev h0 q8⟩
   have adp:=qy.1 eZ;obtain⟨m',e1,e2,e3,e4,e5,e6,e7⟩:=ih (site:=site+1) (m:=m.install site c cap (.arr ty sz es)) nk (h2.less fun b hb=>Qr hfc hb) adp.2
    (fun d hd=>⟨⟨(lL d (by simp[hd])).1,fun e=>adp.1 (e▸hd)⟩,(lL d (by simp[hd])).2⟩) (Qp dQ hfc (M8 c af)) (fun d hd=>M8 d (by simp[hd]))
   have VU:iY (m.install site c cap (.arr ty sz es)).aj (site+1) rs=iY m.aj (site+1) rs:=adI _ _ _ _ fun s hs=>by simp only[Mem.install,aN];rw[ay aa]
   rw[VU] at e6 e7;refine⟨m',e1,e2,e3,h0.trans (bJ _) e4,fun d=>?_,?_,?_⟩
   .rw[e5 d];simp only[Mem.install,cM,Au];exact⟨fun⟨⟨a,b⟩,c⟩=>⟨a,b,c⟩,fun⟨a,b,c⟩=>⟨⟨a,b⟩,c⟩⟩
   .rw[e6];rfl
   refine cons ?_ e7;have:cY (m.install site c cap (.arr ty sz es)) (.hsl site ((m.aj site).1+1) sz 0 es.length) v:=by
    rw[q1];refine .hsl _ _ ?_ q5 q6 fun z h1 h2=>?_
    .simp[Mem.install,aN]
    have hz:kI ((m.install site c cap (.arr ty sz es)).aj site)=some sz:=by simp[Mem.install,aN,kI]
    rw[hz] at h2;cases h2;exact⟨rfl,fun _=>by rw[hσ,As],by rw[iQ];exact hκ.symm⟩
   exact this.ev e4
def xy:RV->Value->List Value->Prop
 | .one _,v,vs=>vs=[v]
 | .agg l,v,vs=>v=.agg vs.toArray/\vs.length=l.length
 | .tup _,_,_=>False
def DD:List RV->List Value->List Value->Prop
 |[],us,vs=>us=[]/\vs=[]
 |r::rs,us,vs=>∃u Oo a b,us=u::Oo/\vs=a++b/\xy r u a/\DD rs Oo b
def Fq:RV->Value->List Value->Prop
 | .tup rs,v,vs=>∃arr,v=.tuple arr/\DD rs arr.toList vs
 |r,v,vs=>xy r v vs
theorem dq.take{vs:List Value}(h:dq m cs vs)(n:Nat):dq m (cs.take n) (vs.take n):=dq.pw.2 ((dq.pw.1 h).take n)
theorem dq.drop{vs:List Value}(h:dq m cs vs)(n:Nat):dq m (cs.drop n) (vs.drop n):=dq.pw.2 ((dq.pw.1 h).drop n)
theorem dq.append{ds:List C}{vs us:List Value}(h:dq m cs vs)(k:dq m ds us):dq m (cs++ds) (vs++us):=dq.pw.2 ((dq.pw.1 h).append (dq.pw.1 k))
theorem dq.single{c:C}{v:Value}(h:cY m c v):dq m [c] [v]:=⟨rfl,fun j x u a b=>by
 rcases j with _|j
 .simp at a b;subst a b;exact h
 simp at a⟩
theorem ace{v:V}{val:Value}(h:ng v=some cs)(hr:nH m v val):
  ∃vs,dq m cs vs/\ ∀(rs tl:List RC),rs.length=cs.length->(rU v (rs++tl)).2=tl/\im (rU v (rs++tl)).1=rs/\xy (rU v (rs++tl)).1 val vs:=by
 cases v with
 |undef=>simp[ng] at h
 |tup vs=>simp[ng] at h
 |one c=>
  simp only[ng,fD] at h;subst h;refine⟨[val],dq.single hr,fun rs tl hl=>?_⟩
  match rs,hl with
  |[r],_=>exact⟨rfl,rfl,rfl⟩
 |agg ds=>
  simp only[ng,fD] at h;subst h;obtain⟨arr,rfl,hc⟩:=hr;refine⟨arr.toList,hc,fun rs tl hl=>?_⟩;have h1:(rs++tl).take ds.length=rs:=by rw[<- hl];exact Lc
  have h2:(rs++tl).drop ds.length=tl:=by rw[<- hl];exact Ys
  simp only[rU,im,xy,h1,h2,true_and];rw[hc.1,hl]
theorem amx:∀ {ws:List V} {cs:List C} {vals:List Value},ux ws=some cs->Pw (nH m) ws vals->
  ∃vs,dq m cs vs/\ ∀(rs:List RC),rs.length=cs.length->mI (Ag ws rs)=rs/\DD (Ag ws rs) vals vs:=by
 intro ws
 induction ws with
 |nil=>
  intro cs vals h hr;simp only[ux,fD] at h;subst h;have hv:vals=[]:=by have:=hr.1;simpa using this
  subst hv;refine⟨[],⟨rfl,fun j x u a=>by simp at a⟩,fun rs hl=>?_⟩;have:rs=[]:=by simpa using hl
  subst this;exact⟨rfl,rfl,rfl⟩
 |cons w ws ih=>
  intro cs vals h hr;simp only[ux] at h;split at h
  .rename_i a b h1 h2;cases h;cases vals with
   |nil=>have:=hr.1;simp at this
   |cons val vals=>
    obtain⟨vs1,iC,jX⟩:=ace h1 (hr.2 0 w val rfl rfl);obtain⟨vs2,oY,fp⟩:=ih (vals:=vals) h2 ⟨by have:=hr.1;simpa using this,fun j x u p q=>hr.2 (j+1) x u (by simpa using p) (by simpa using q)⟩;refine⟨vs1++vs2,iC.append oY,fun rs hl=>?_⟩;have vt:rs.length=a.length+b.length:=by simpa using hl
    obtain⟨p1,p2,p3⟩:=jX (rs.take a.length) (rs.drop a.length) (by simp;omega);rw[nC] at p1 p2 p3;obtain⟨q1,q2⟩:=fp (rs.drop a.length) (by simp;omega);simp only[Ag,mI,p1,p2,q1,DD];exact⟨nC _ _,val,vals,vs1,vs2,rfl,rfl,p3,q2⟩
  cases h
theorem amw{v:V}{val:Value}(h:sv v=some cs)(hr:bK m v val):
  ∃vs,dq m cs vs/\ ∀(rs:List RC),rs.length=cs.length->gK (uS v rs)=rs/\Fq (uS v rs) val vs:=by
 have one:∀ {v:V},ng v=some cs->nH m v val->(∀rs,uS v rs=(rU v rs).1)->∃vs,dq m cs vs/\ ∀(rs:List RC),rs.length=cs.length->gK (uS v rs)=rs/\Fq (uS v rs) val vs:=by
  intro v h hr he;obtain⟨vs,h1,h2⟩:=ace h hr;refine⟨vs,h1,fun rs hl=>?_⟩;obtain⟨_,p2,p3⟩:=h2 rs [] hl;rw[jP] at p2 p3;rw[he];generalize (rU v rs).1=y at p2 p3;cases y with
  |tup _=>exact p3.elim
  |one c=>exact⟨p2,p3⟩
  |agg c=>exact⟨p2,p3⟩
 cases v with
 |tup ws=>obtain⟨arr,rfl,hs,hc⟩:=hr;obtain⟨vs,h1,h2⟩:=amx (m:=m) (vals:=arr.toList) h ⟨by simpa using hs,fun j x u a b=>hc j x u a (by simpa using b)⟩;exact⟨vs,h1,fun rs hl=>⟨(h2 rs hl).1,arr,rfl,(h2 rs hl).2⟩⟩
 |undef=>simp[sv,ng] at h
 |one c=>exact one h hr fun _=>rfl
 |agg c=>exact one h hr fun _=>rfl
theorem XJ{r:RV}{val:Value}{a b:List Value}(hf:xy r val a)(hc:dq m cs (a++b)):nH m (mq r cs).1 val/\dq m (mq r cs).2 b:=by
 cases r with
 |tup _=>exact hf.elim
 |one c=>
  have hf:a=[val]:=hf;subst hf;cases cs with
  |nil=>have:=hc.1;simp at this
  |cons x xs=>exact⟨hc.2 0 x val rfl rfl,by have:=hc.drop 1;simpa [mq] using this⟩
 |agg l=>
  obtain⟨rfl,hl⟩:=hf;refine⟨⟨_,rfl,?_⟩,?_⟩
  .have:=hc.take l.length;rw[<- hl,Lc] at this
   simpa [mq,hl] using this
  have:=hc.drop l.length;rw[<- hl,Ys] at this
  simpa [mq,hl] using this
theorem asz:∀ {rs:List RV} {cs:List C} {us vs:List Value},DD rs us vs->dq m cs vs->Pw (nH m) (rV rs cs) us:=by
 intro rs
 induction rs with
 |nil=>intro cs us vs h _;obtain⟨rfl,rfl⟩:=h;exact⟨rfl,fun j x u a=>by simp[rV] at a⟩
 |cons r rs ih=>
  intro cs us vs h hc;obtain⟨u,Oo,a,b,rfl,rfl,h1,h2⟩:=h;obtain⟨p1,p2⟩:=XJ h1 hc;have p3:=ih h2 p2;refine⟨by simp[rV,p3.1],fun j x v q1 q2=>?_⟩;cases j with
  |zero=>simp[rV] at q1 q2;subst q1 q2;exact p1
  |succ j=>simp[rV] at q1 q2;exact p3.2 j x v q1 q2
theorem asy{r:RV}{val:Value}{vs:List Value}(hf:Fq r val vs)(hc:dq m cs vs):bK m (qY r cs) val:=by
 cases r with
 |tup rs=>obtain⟨arr,rfl,h⟩:=hf;have:=asz h hc;exact⟨arr,rfl,by simpa using this.1,fun j x u a b=>this.2 j x u a (by simpa using b)⟩
 |one c=>have:=(XJ (b:=[]) (show xy (.one c) val vs from hf) (by simpa using hc)).1;exact bK.of1 this
 |agg c=>have:=(XJ (b:=[]) (show xy (.agg c) val vs from hf) (by simpa using hc)).1;exact bK.of1 this
end
end Go.Abs
namespace Go.Abs
section
variable{b':aA}{site:Nat}{cs:jz}{sh:Ctx}{cp:fH}{ak:Env}
def iR(ids:List Nat)(b b':aA):Prop:=∀id∈ids,b' id=b id
def r5(ts:List Nat)(e e':Env):Prop:=∀t∈ts,e' t=e t
theorem iR.left{x y:List Nat}{b:aA}(h:iR (x++y) b b'):iR x b b':=fun i hi=>h i (by simp[hi])
theorem iR.right{x y:List Nat}{b:aA}(h:iR (x++y) b b'):iR y b b':=fun i hi=>h i (by simp[hi])
theorem r5.left{x y:List Nat}{b b':Env}(h:r5 (x++y) b b'):r5 x b b':=fun i hi=>h i (by simp[hi])
theorem r5.right{x y:List Nat}{b b':Env}(h:r5 (x++y) b b'):r5 y b b':=fun i hi=>h i (by simp[hi])
section
variable {e e':Env}
theorem eY{a:aR}(h:r5 a.tmps e e'):ev e' a=ev e a:=by
 cases a with
 |t n=>exact h n (by simp[aR.tmps])
 |_=>rfl
theorem alR:∀ {as:List aR},r5 (Fg as) e e'->as.map (ev e')=as.map (ev e):=by
 intro as
 induction as with
 |nil=>intro _;rfl
 |cons a r ih=>intro h;simp only[dK];rw[eY h.left,ih h.right]
theorem afO:∀ {as:List aR},r5 (Fg as) e e'->vM e' as=vM e as:=by
 intro as
 induction as with
 |nil=>intro _;rfl
 |cons a r ih=>intro h;simp only[vM];rw[eY h.left,ih h.right]
theorem alx{sz:Nat}:∀ {as:List aR},r5 (Fg as) e e'->zj e' sz as=zj e sz as:=by
 intro as
 induction as with
 |nil=>intro _;rfl
 |cons a r ih=>intro h;simp only[zj];rw[eY h.left,ih h.right]
theorem aq2:∀ {as:List (Nat×Nat×aR)},r5 (X3 as) e e'->yA e' as=yA e as:=by
 intro as
 induction as with
 |nil=>intro _;rfl
 |cons a r ih=>intro h;obtain⟨x,y,a⟩:=a;simp only[yA];rw[eY h.left,ih h.right]
theorem O1{d:Nat}{a:Option aR}(h:r5 (X2 a) e e'):ru e' d a=ru e d a:=by
 cases a with
 |none=>rfl
 |some a=>simp only[ru];rw[eY h]
theorem amB{a:aR}(h:r5 a.tmps e e'):DU e' a=DU e a:=by unfold DU;rw[eY h]
theorem Xz{sh:Nat->Bool}{aj:aA}{p:mW}(h:r5 p.tmps e e'):bt sh e' aj p=bt sh e aj p:=by
 cases p with
 |yy x=>simp only[bt,eY (a:=x) h]
 |pick c a b=>simp only[bt,eY (a:=c) h.left.left,eY (a:=a) h.left.right,eY (a:=b) h.right]
 |alloc s z=>rfl
 |box s x=>simp only[bt,eY (a:=x) h]
 |build z ps=>simp only[bt,aq2 (as:=ps) h]
 |DI s ty sz ps=>simp only[bt,alx (as:=ps) h]
 |load k x=>simp only[bt,eY (a:=x) h]
 |store n a x=>simp only[bt,eY (a:=a) h.left,eY (a:=x) h.right]
 |Kf x=>simp only[bt,eY (a:=x) h]
 |bin op x y=>simp only[bt,eY (a:=x) h.left,eY (a:=y) h.right]
 |eqc k n x y=>simp only[bt,eY (a:=x) h.left,eY (a:=y) h.right]
 |un op x=>simp only[bt,eY (a:=x) h]
 |conv k x=>simp only[bt,eY (a:=x) h]
 |bstr x=>simp only[bt,eY (a:=x) h]
 |mkfn f a b=>simp only[bt,afO (as:=a) h.left,afO (as:=b) h.right]
 |mkmap s ag=>rfl
 |JX s ty sz bytes z l c=>simp only[bt,eY (a:=l) h.left,eY (a:=c) h.right]
 |slice sz x lo hi=>simp only[bt,eY (a:=x) h.left.left,O1 (a:=lo) h.left.right,O1 (a:=hi) h.right]
 |sslice x lo hi=>simp only[bt,eY (a:=x) h.left.left,O1 (a:=lo) h.left.right,O1 (a:=hi) h.right]
 |FY off x=>simp only[bt,eY (a:=x) h]
 |GD sz x i=>simp only[bt,eY (a:=x) h.left,eY (a:=i) h.right]
 |HX l sz x i=>simp only[bt,eY (a:=x) h.left,eY (a:=i) h.right]
 |fld off k x=>simp only[bt,eY (a:=x) h]
 |aidx l sz k x i=>simp only[bt,eY (a:=x) h.left,eY (a:=i) h.right]
 |sidx x i=>simp only[bt,eY (a:=x) h.left,eY (a:=i) h.right]
 |lookup kd z ag ok x k=>simp only[bt,eY (a:=x) h.left,eY (a:=k) h.right]
 |mupd kd ag m k v=>simp only[bt,eY (a:=m) h.left.left,eY (a:=k) h.left.right,eY (a:=v) h.right]
 |bad=>rfl
 |extract x i=>simp only[bt,eY (a:=x) h]
 |call s f as=>simp only[bt,amB (a:=f) h.left,alR (as:=as) h.right]
 |slen x=>simp only[bt,eY (a:=x) h]
 |JU x=>simp only[bt,eY (a:=x) h]
 |mlen x=>simp only[bt,eY (a:=x) h]
 |append s ty sz b x y=>simp only[bt,eY (a:=x) h.left,eY (a:=y) h.right]
 |max x y=>simp only[bt,eY (a:=x) h.left,eY (a:=y) h.right]
 |min x y=>simp only[bt,eY (a:=x) h.left,eY (a:=y) h.right]
 |clear z x=>simp only[bt,eY (a:=x) h]
end
section
variable {b b':aA}
theorem xE{α β:Type}{f g:α->Option (β×List Nat)}(hf:∀x y r,f x=some (y,r)->iR r b b'->g x=some (y,r)):∀ {xs:List α} {ys:List β} {r:List Nat},collect f xs=some (ys,r)->iR r b b'->collect g xs=some (ys,r):=by
 intro xs
 induction xs with
 |nil=>intro ys r h _;exact h
 |cons x xs ih=>
  intro ys r h ha;simp only[collect] at h ⊢;split at h
  .rename_i y p bs q e1 e2;cases h;rw[hf _ _ _ e1 ha.left,ih e2 ha.right]
  cases h
theorem Oj:∀(n:Nat) (c:C) (x:PV) (r:List Nat),snap b n c=some (x,r)->iR r b b'->snap b' n c=some (x,r):=by
 intro n
 induction n with
 |zero=>intro c x r h;simp[snap] at h
 |succ n ih=>
  intro c x r h ha;cases c with
  |p v=>exact h
  |aY id g off=>
   have hid:id∈r:=by
    simp only[snap] at h
    (repeat' split at h)<;>first
     |cases h
     |skip
    all_goals simp
   have hb:=ha id hid;simp only[snap] at h ⊢;rw[hb];split at h
   .split at h
    .rename_i hg;rw[aF hg];split at h
     .rename_i hc;cases h;rw[xE ih hc (fun i hi=>ha i (by simp[hi]))]
     cases h
    cases h
   .exact h
   cases h
  |dB id g i off=>
   have hid:id∈r:=by
    simp only[snap,dE] at h
    (repeat' split at h)<;>first
     |cases h
     |skip
    all_goals(simp only[dE] at h;obtain⟨e,_,h⟩:=h;cases h;simp)
   have hb:=ha id hid;simp only[snap] at h ⊢;rw[hb];exact h
  |hsl id g z off len=>
   have hid:id∈r:=by
    simp only[snap] at h
    (repeat' split at h)<;>first
     |cases h
     |skip
    all_goals simp
   have hb:=ha id hid;simp only[snap] at h ⊢;rw[hb];split at h
   .exact h
   .exact h
   .split at h
    .rename_i hg;rw[aF hg];split at h
     .rename_i hc;cases h;rw[xE (fun _ _ _ p q=>xE ih p q) hc (fun i hi=>ha i (by simp[hi]))]
     cases h
    cases h
   cases h
  |jW id g=>
   have hid:id∈r:=by
    simp only[snap] at h
    (repeat' split at h)<;>first
     |cases h
     |skip
    all_goals simp
   have hb:=ha id hid;simp only[snap] at h ⊢;rw[hb];exact h
  |hfn f x y=>
   simp only[snap] at h ⊢;split at h
   .rename_i h1 h2;cases h;rw[xE ih h1 ha.left,xE ih h2 ha.right]
   cases h
theorem at1(x y:V)(r:List Nat)(h:nA b x=some (y,r))(ha:iR r b b'):nA b' x=some (y,r):=by
 cases x with
 |undef=>simp[nA] at h
 |tup _=>simp[nA] at h
 |one c=>simp only[nA,dE] at h ⊢;obtain⟨⟨p,q⟩,h1,h2⟩:=h;cases h2;exact⟨_,Oj _ _ _ _ h1 ha,rfl⟩
 |agg cs=>simp only[nA,dE] at h ⊢;obtain⟨⟨p,q⟩,h1,h2⟩:=h;cases h2;exact⟨_,xE (Oj _) h1 ha,rfl⟩
theorem at3{xs ys:List V}{r:List Nat}(h:BE b xs=some (ys,r))(ha:iR r b b'):BE b' xs=some (ys,r):=xE at1 h ha
theorem amK{all:List Nat}{id:Nat}{u:List eK}(h:xK b all id=some u)(hid:id∈all)(ha:iR all b b'):xK b' all id=some u:=by
 have hb:=ha id hid;unfold xK at h ⊢;rw[hb];split at h
 .split at h
  .rename_i ps r hc;split at h
   .rename_i hr;have qj:iR r b b':=fun i hi=>ha i (by have:=jd.1 hr i hi;simpa using this);rw[xE (Oj _) hc qj];simp only;rw[aF hr];exact h
   cases h
  cases h
 .exact h
 .split at h
  .rename_i ps r hc;split at h
   .rename_i hr;have qj:iR r b b':=fun i hi=>ha i (by have:=jd.1 hr i hi;simpa using this);rw[xE (fun _ _ _ p q=>xE (Oj _) p q) hc qj];simp only;rw[aF hr];exact h
   cases h
  cases h
 .exact h
 .cases h
 exact h
theorem amL{all:List Nat}(ha:iR all b b'):∀ {ids:List Nat} {u:List eK},(∀i∈ids,i∈all)->uy b all ids=some u->uy b' all ids=some u:=by
 intro ids
 induction ids with
 |nil=>intro u _ h;exact h
 |cons i r ih=>
  intro u hs h;simp only[uy] at h ⊢;split at h
  .rename_i x y h1 h2;cases h;rw[amK h1 (hs i af) ha,ih (fun j hj=>hs j (by simp[hj])) h2]
  cases h
theorem I1{ids:List Nat}{u:List eK}(h:sA b ids=some u)(ha:iR ids b b'):sA b' ids=some u:=amL ha (fun _ h=>h) h
theorem aoC{r:RC}(h:iR ((df b site r).2.map (·.1)) b b'):df b' site r=df b site r:=by
 cases r with
 |p x=>rfl
 |own ty sz es=>simp only[df];rw[h site (by simp[df])]
theorem aoD:∀ {rs:List RC} {site:Nat},iR ((iY b site rs).2.map (·.1)) b b'->iY b' site rs=iY b site rs:=by
 intro rs
 induction rs with
 |nil=>intro site _;rfl
 |cons r rs ih=>intro site h;simp only[iY,j6] at h ⊢;rw[aoC h.left,ih h.right]
theorem adJ{r:RV}(h:iR ((ju b site r).2.map (·.1)) b b'):ju b' site r=ju b site r:=by unfold ju at h ⊢;simp only at h;rw[aoD h]
theorem ape{rd:List Nat}{r:RV}{v:V}{u:List eK}(h:land b rd site r=some (v,u))(ha:iR rd b b')(hu:iR (u.map (·.1)) b b'):land b' rd site r=some (v,u):=by
 unfold land at h ⊢;split at h
 .rename_i hc;rw[aF hc];cases h;rw[adJ hu];rfl
 rename_i hc;rw[ay hc];split at h
 .rename_i fu hf;cases h;rw[I1 hf ha];simp only;rw[j6] at hu;rw[adJ hu.right]
 cases h
theorem ags{x:V}{cs:List C}{r:List Nat}(h:Bz b x=some (cs,r))(ha:iR r b b'):Bz b' x=some (cs,r):=by
 have key:∀id,(id∈r->b' id=b id):=fun id hid=>ha id hid;unfold Bz at h ⊢;split at h
 .exact h
 .rename_i id g off;have hid:id∈r:=by
   (repeat' split at h)<;>first
    |cases h
    |skip
   all_goals simp
  simp only[key id hid];exact h
 .rename_i id g i off;have hid:id∈r:=by
   (repeat' split at h)<;>first
    |cases h
    |skip
   all_goals(simp only[dE] at h;obtain⟨e,_,h⟩:=h;cases h;simp)
  simp only[key id hid];exact h
 cases h
theorem apv{x:V}{n:Nat}{r:List Nat}(h:zX b x=some (n,r))(ha:iR r b b'):zX b' x=some (n,r):=by
 have key:∀id,(id∈r->b' id=b id):=fun id hid=>ha id hid;unfold zX at h ⊢;split at h
 .exact h
 .exact h
 .rename_i id g;have hid:id∈r:=by
   (repeat' split at h)<;>first
    |cases h
    |skip
   all_goals simp
  simp only[key id hid];exact h
 cases h
theorem ap4{ag:Bool}{x:V}{es:List (PV×List PV)}{r:List Nat}(h:mapOf b ag x=some (es,r))(ha:iR r b b'):mapOf b' ag x=some (es,r):=by
 have key:∀id,(id∈r->b' id=b id):=fun id hid=>ha id hid;unfold mapOf at h ⊢;split at h
 .exact h
 .exact h
 .rename_i id g;have hid:id∈r:=by
   (repeat' split at h)<;>first
    |cases h
    |skip
   all_goals simp
  simp only[key id hid];exact h
 cases h
theorem IP{x:V}{es:List (List PV)}{r fr:List Nat}(h:fh b x=some (es,r,fr))(ha:iR r b b')(hf:iR fr b b'):fh b' x=some (es,r,fr):=by
 have key:∀id,(id∈r->b' id=b id):=fun id hid=>ha id hid;unfold fh at h ⊢;split at h
 .exact h
 .exact h
 .rename_i id g z off len;have hid:id∈r:=by
   (repeat' split at h)<;>first
    |cases h
    |skip
   all_goals simp
  simp only[key id hid];split at h
  .exact h
  .exact h
  .split at h
   .rename_i hc;rw[aF hc];split at h
    .rename_i h1;cases h;rw[xE (fun _ _ _ p q=>xE (Oj _) p q) h1 hf]
    cases h
   cases h
  exact h
 cases h
theorem avD{a:V}{n:Nat}{xs:List C}{v:V}{u:List eK}{r:List Nat}(h:Ak b a n xs=.done v u r)(ha:iR r b b'):Ak b' a n xs=.done v u r:=by
 have key:∀id,(id∈r->b' id=b id):=fun id hid=>ha id hid;unfold Ak at h ⊢;split at h
 .cases h
 rename_i hn;rw[ay hn];split at h
 .rename_i id g off;have hid:id∈r:=by
   (repeat' split at h)<;>first
    |cases h
    |skip
   all_goals simp
  simp only[key id hid];exact h
 .rename_i id g i off;have hid:id∈r:=by
   (repeat' split at h)<;>first
    |cases h
    |skip
   all_goals simp
  simp only[key id hid];exact h
 cases h
theorem ajh{ty sz bytes:Nat}{s x v:V}{u:List eK}{r:List Nat}(h:fL b site ty sz bytes s x=.done v u r)(ha:iR r b b'):fL b' site ty sz bytes s x=.done v u r:=by
 unfold fL at h ⊢;split at h
 .cases h
 rename_i new rd fr dB;split at h
 .cases h
 rename_i cq;split at h
 .cases h
 rename_i fu qf;have sub:∀ {l:List Nat},(∀i∈l,i∈r)->iR l b b':=fun hl i hi=>ha i (hl i hi);split at h
 .split at h
  .rename_i hn;cases h;rw[IP dB ha.left ha.right];simp only;rw[ay cq,I1 qf ha.right];simp only;rw[aF hn]
  rename_i hn;split at h
  .rename_i hr;cases h;rw[IP dB (sub fun i hi=>by simp[hi]) (sub fun i hi=>by simp[hi])];simp only;rw[ay cq,I1 qf (sub fun i hi=>by simp[hi])];simp only;rw[ay hn,aF hr,ha site af]
  cases h
 .split at h
  .cases h
  rename_i hn;split at h
  .rename_i hr;cases h;rw[IP dB (sub fun i hi=>by simp[hi]) (sub fun i hi=>by simp[hi])];simp only;rw[ay cq,I1 qf (sub fun i hi=>by simp[hi])];simp only;rw[ay hn,aF hr,ha site af]
  cases h
 .rename_i id g z len;split at h
  .rename_i g' jN bN es hb;split at h
   .rename_i hr;cases h;rw[IP dB (sub fun i hi=>by simp[hi]) (sub fun i hi=>by simp[hi])];simp only;rw[ay cq,I1 qf (sub fun i hi=>by simp[hi])];simp only;have h1:=ha id af;rw[hb] at h1;simp only[h1];rw[aF hr,ha site af]
   cases h
  cases h
 .rename_i id g z off len aI;cases off with
  |zero=>exact(aI rfl).elim
  |succ off=>
  split at h
  .rename_i g' jN bN es hb;split at h
   .rename_i hr;cases h;rw[IP dB (sub fun i hi=>by simp[hi]) (sub fun i hi=>by simp[hi])];simp only;rw[ay cq,I1 qf (sub fun i hi=>by simp[hi])];simp only;have h1:=ha id af;rw[hb] at h1;simp only[h1];rw[aF hr]
   cases h
  cases h
 cases h
end
theorem arE{sh:Nat->Bool}{e:Env}{b:aA}{p:mW}{v:V}{u:List eK}{r:List Nat}(h:bt sh e b p=.done v u r)(ha:iR r b b'):bt sh e b' p=.done v u r:=by
 cases p with
 |alloc s z=>simp only[bt,fg.done.injEq] at h ⊢;obtain⟨h1,h2,h3⟩:=h;rw[ha s (by rw[<- h3];simp)];exact⟨h1,h2,h3⟩
 |mkmap s ag=>simp only[bt,fg.done.injEq] at h ⊢;obtain⟨h1,h2,h3⟩:=h;rw[ha s (by rw[<- h3];simp)];exact⟨h1,h2,h3⟩
 |box s x=>
  simp only[bt] at h ⊢;split at h
  .cases h;rw[ha s af]
  cases h
 |DI s ty sz ps=>
  simp only[bt] at h ⊢;split at h
  .split at h
   .cases h;rw[ha s af]
   cases h;rw[ha s af]
  cases h
 |JX s ty sz bytes z l c=>
  simp only[bt] at h ⊢;split at h
  .split at h
   .rename_i hc;cases h;rw[aF hc,ha s af]
   cases h
  cases h
 |load k x=>
  simp only[bt] at h ⊢;split at h
  .rename_i cs q hq;split at h
   .rename_i v' hv;cases h;rw[ags hq ha];simp only[hv]
   cases h
  cases h
 |store n a x=>
  simp only[bt] at h ⊢;split at h
  .exact avD h ha
  cases h
 |bstr x=>
  simp only[bt] at h ⊢;split at h
  .rename_i es q hq;split at h
   .rename_i bs hb;cases h;rw[IP hq ha (fun i hi=>by simp at hi)];simp only[hb]
   cases h
  cases h
 |lookup kd z ag ok x k=>
  simp only[bt] at h ⊢;split at h
  .rename_i es q key hm hk;split at h
   .cases h
   rename_i A6;split at h
   .rename_i f hf;split at h
    .rename_i w hw;cases h;rw[ap4 hm ha,hk];simp only;rw[ay A6];simp only[hf,hw]
    cases h
   cases h
  cases h
 |clear z x=>
  simp only[bt] at h ⊢;split at h
  .cases h;rfl
  .cases h;rfl
  .rename_i id g w off len e;split at h
   .rename_i h0;cases h;simp only[h0,if_true]
   rename_i h0;split at h
   .rename_i g' ty sz es h4;split at h
    .rename_i hc;cases h;have hb:=ha id af;rw[h4] at hb;rw[ay h0];simp only[hb];rw[aF hc]
    cases h
   cases h
  cases h
 |mupd kd ag m k v=>
  simp only[bt] at h ⊢;split at h
  .rename_i id g q cs h1 h2 h3;split at h
   .rename_i g' rq es ps h4 h5;split at h
    .rename_i hc;split at h
     .rename_i i w hf;cases h;have hb:=ha id af;rw[h4] at hb;simp only[hb,h5];rw[aF hc];simp only[hf]
     .rename_i hf;cases h;have hb:=ha id af;rw[h4] at hb;simp only[hb,h5];rw[aF hc];simp only[hf]
     cases h
    cases h
   cases h
  cases h
 |mlen x=>
  simp only[bt] at h ⊢;split at h
  .rename_i n q hq;cases h;rw[apv hq ha]
  cases h
 |append s ty sz bytes x y=>exact ajh h ha
 |call s f as=>
  simp only[bt] at h
  (repeat' split at h)<;>cases h
 |_=>exact h
theorem arU{sh:Nat->Bool}{e:Env}{b:aA}{p:mW}{f s:Nat}{vs:List V}{r:List Nat}(h:bt sh e b p=.pc f vs r s)(ha:iR r b b'):bt sh e b' p=.pc f vs r s:=by
 cases p with
 |call s f as=>
  simp only[bt] at h ⊢;split at h
  .split at h
   .cases h
   rename_i iv;rw[ay iv];split at h
   .rename_i hs;cases h;rw[at3 hs ha]
   cases h
  cases h
 |_=>
  (simp only[bt,Ak,fL,Dh,reduceCtorEq] at h)<;>(repeat' split at h)<;>cases h
theorem arW{sh:Nat->Bool}{e:Env}{b:aA}{p:mW}{f:Nat}{vs:List V}(h:bt sh e b p=.sc f vs):bt sh e b' p=.sc f vs:=by
 cases p with
 |call s f as=>
  simp only[bt] at h ⊢;split at h
  .split at h
   .rename_i iv;rw[aF iv];exact h
   split at h<;>cases h
  cases h
 |_=>
  (simp only[bt,Ak,fL,Dh,reduceCtorEq] at h)<;>(repeat' split at h)<;>cases h
theorem ajf:∀(u:List eK) (b b':aA) (id:Nat),id∈u.map (·.1)->app u b id=app u b' id:=by
 intro u
 induction u with
 |nil=>intro b b' id h;simp at h
 |cons x u ih=>
  intro b b' id h;obtain⟨i,o⟩:=x;simp only[app];by_cases hu:id∈u.map (·.1)
  .exact ih _ _ _ hu
  have hi:id=i:=by simpa [hu] using h
  have key:∀(u:List eK) (b:aA),id∉u.map (·.1)->app u b id=b id:=by
   intro u
   induction u with
   |nil=>intro b _;rfl
   |cons x u ih=>intro b h;obtain⟨j,o⟩:=x;simp only[dK,cM,Au] at h;simp only[app];rw[ih _ h.2,aN,ay h.1]
  rw[key u _ hu,key u _ hu,aN,aN,aF hi,aF hi]
theorem SK:∀(u:List eK) (b:aA) (id:Nat),id∉u.map (·.1)->app u b id=b id:=by
 intro u
 induction u with
 |nil=>intro b id _;rfl
 |cons x u ih=>intro b id h;obtain⟨j,o⟩:=x;simp only[dK,cM,Au] at h;simp only[app];rw[ih _ _ h.2,aN,ay h.1]
theorem avt{e e':Env}{g:Option (Nat×Bool)}(h:∀t w,g=some (t,w)->e' t=e t):wanted e' g=wanted e g:=by
 cases g with
 |none=>rfl
 |some q=>obtain⟨t,w⟩:=q;simp only[wanted,h t w rfl]
def bY.writes(f:bY)(id:Nat):Bool:=f.wr.contains id||f.fs.contains (iN id)
def bY.uc(f:bY)(id:Nat):Bool:=f.rd.contains id||f.writes id
theorem agv{b:aA}:∀(n:Nat) (c:C),iR (jK b n c) b b'->jK b' n c=jK b n c:=by
 intro n
 induction n with
 |zero=>intro c _;rfl
 |succ n ih=>
  have many:∀(cs:List C),iR (cs.map (jK b n)).flatten b b'->(cs.map (jK b' n)).flatten=(cs.map (jK b n)).flatten:=by
   intro cs
   induction cs with
   |nil=>intro _;rfl
   |cons c cs ihc=>intro h;simp only[dK,lQ] at h ⊢;rw[ih c h.left,ihc h.right]
  intro c h;cases c with
  |p v=>rfl
  |aY id g off=>
   simp only[jK] at h ⊢;have hb:=h id af;rw[hb];split
   .rename_i cs MA;rw[MA] at h;rw[many cs (fun i hi=>h i (by simp only[cM];exact .inr hi))]
   rfl
  |dB id g i off=>
   simp only[jK] at h ⊢;have hb:=h id af;rw[hb];split
   .rename_i cs MA;rw[MA] at h;rw[many _ (fun i hi=>h i (by simp only[cM];exact .inr hi))]
   rfl
  |hsl id g z off len=>
   simp only[jK] at h ⊢;have hb:=h id af;rw[hb];split
   .rename_i cs MA;rw[MA] at h;rw[many _ (fun i hi=>h i (by simp only[cM];exact .inr hi))]
   rfl
  |jW id g=>rfl
  |hfn f x y=>simp only[jK] at h ⊢;rw[many x h.left,many y h.right]
theorem asj{b:aA}(v:V)(h:iR (jc b v) b b'):jc b' v=jc b v:=by
 cases v with
 |undef=>rfl
 |tup _=>rfl
 |one c=>exact agv _ _ h
 |agg cs=>
  simp only[jc] at h ⊢
  induction cs with
  |nil=>rfl
  |cons c cs ih=>simp only[dK,lQ] at h ⊢;rw[agv _ c h.left,ih h.right]
theorem ai8{f:Nat}{vs:List V}{b:aA}(h:iR (allow sh f vs b).ids b b'):allow sh f vs b'=allow sh f vs b:=by
 have:(vs.map (jc b')).flatten=(vs.map (jc b)).flatten:=by
  unfold allow at h;simp only at h
  induction vs with
  |nil=>rfl
  |cons v vs ih=>simp only[dK,lQ] at h ⊢;rw[asj v h.left,ih h.right]
 unfold allow;rw[this]
def Aw(cs:jz):Prop:=∀f vs al aj v ao,cs f vs al aj=some (v,ao)->(∀id,al.ok id=false->ao id=aj id)/\
 ∀bj,(∀id,al.ok id=true->bj id=aj id)->∃lT,cs f vs al bj=some (v,lT)/\ ∀id,lT id=if al.ok id then ao id else bj id
theorem QR{al:Al}{l:List Nat}(h:al.ft l=true){id:Nat}(hid:id∈l):al.ok id=true:=jd.1 h id hid
theorem aof{a b:Al}(hb:b.any=false)(h:a.holds b=true){id:Nat}(hid:b.ok id=true):a.ok id=true:=by
 unfold Al.holds at h;simp only[yJ,cN] at h;rcases h with h|⟨h1,h2⟩
 .simp[Al.ok,h]
 simp only[Al.ok,hb,BP,yJ] at hid;rcases hid with hid|hid
 .exact QR h1 (by simpa using hid)
 have:=jd.1 h2 (iN id) (by simpa using hid);simp only[Al.ok,yJ];exact .inr this
theorem XY(de:Aw cs){o:bG}{aD:Env}{aj ao:aA}{f:bY}(h:step1 sh cp cs o ak aj=some (aD,ao,f)):
  ∃v,aD=put ak o.dst v/\(∀id,f.writes id=false->ao id=aj id)/\(∀id,f.uc id=true->sh.al.ok id=true)/\
   ∀(cZ:Env) (bj:aA),r5 o.Hp ak cZ->(∀id,f.uc id=true->bj id=aj id)->
    ∃lT,step1 sh cp cs o cZ bj=some (put cZ o.dst v,lT,f)/\ ∀id,lT id=if f.writes id then ao id else bj id:=by
 have GA:∀(cZ:Env),r5 o.Hp ak cZ->r5 o.op.tmps ak cZ/\wanted cZ o.guard=wanted ak o.guard:=by intro cZ h;unfold bG.Hp at h;exact⟨h.left,avt fun t w hg=>h.right t (by rw[hg];simp)⟩
 have hwr:∀(r w:List Nat) (id:Nat),(⟨r,w,[]⟩:bY).writes id=w.contains id:=by intro r w id;simp[bY.writes]
 have ED:∀(r w:List Nat) (id:Nat),(⟨r,w,[]⟩:bY).uc id=true↔id∈r\/id∈w:=by intro r w id;simp[bY.uc,bY.writes]
 have adx:∀(u:List eK) (b b2:aA) (r:List Nat) (id:Nat),app u b2 id=if (⟨r,u.map (·.1),[]⟩:bY).writes id then app u b id else b2 id:=by
  intro u b b2 r id;rw[hwr];by_cases hid:id∈u.map (·.1)
  .rw[aF (by simpa using hid)];exact ajf _ _ _ _ hid
  rw[ay (by simpa using hid)];exact SK _ _ _ hid
 unfold step1 at h;split at h
 .cases h
 .rename_i hw;cases h;refine⟨.undef,rfl,fun _ _=>rfl,fun id hid=>by simp[bY.uc,bY.writes] at hid,fun cZ bj he hb=>⟨bj,?_,fun id=>by simp[bY.writes]⟩⟩;unfold step1;rw[(GA cZ he).2,hw]
 rename_i hw;split at h
 .cases h
 .rename_i v u r hp;split at h
  .rename_i aq;cases h;refine⟨v,rfl,fun id hid=>SK _ _ _ (by rw[hwr] at hid;simpa using hid),fun id hid=>QR aq (by have:=(ED _ _ _).1 hid;simpa using this),fun cZ bj he hb=>⟨app u bj,?_,fun id=>adx _ _ _ _ _⟩⟩;unfold step1;rw[(GA cZ he).2,hw];simp only;rw[Xz (GA cZ he).1,arE hp fun id hid=>hb id ((ED _ _ _).2 (.inl hid))];simp only;rw[aF aq]
  cases h
 .rename_i g vs r s hp;split at h
  .rename_i x hx;split at h
   .rename_i v u hl;split at h
    .rename_i aq;cases h;refine⟨v,rfl,fun id hid=>SK _ _ _ (by rw[hwr] at hid;simpa using hid),fun id hid=>QR aq (by have:=(ED _ _ _).1 hid;simp at this ⊢;rcases this with h|h<;>simp[h]),fun cZ bj he hb=>⟨app u bj,?_,fun id=>adx _ _ _ _ _⟩⟩;unfold step1;rw[(GA cZ he).2,hw];simp only;rw[Xz (GA cZ he).1,arU hp fun id hid=>hb id ((ED _ _ _).2 (.inl (by simp[hid])))];simp only[hx];rw[ape hl (fun id hid=>hb id ((ED _ _ _).2 (.inl (by simp[hid])))) fun id hid=>hb id ((ED _ _ _).2 (.inr hid))];simp only;rw[aF aq]
    cases h
   cases h
  cases h
 rename_i g vs hp;split at h
 .rename_i aq;split at h
  .rename_i v b1 hx;cases h;have fi:∀id,(⟨(allow sh g vs aj).ids,(allow sh g vs aj).ids,(allow sh g vs aj).fs⟩:bY).writes id=(allow sh g vs aj).ok id:=by
    intro id;simp[bY.writes,Al.ok,allow]
   have VP:∀id,(⟨(allow sh g vs aj).ids,(allow sh g vs aj).ids,(allow sh g vs aj).fs⟩:bY).uc id=(allow sh g vs aj).ok id:=by intro id;simp only[bY.uc,fi];simp only[Al.ok];cases (allow sh g vs aj).ids.contains id<;>simp
   obtain⟨l1,l2⟩:=de _ _ _ _ _ _ hx;refine⟨v,rfl,fun id hid=>l1 id (by rw[<- fi];exact hid),fun id hid=>aof rfl aq (by rw[<- VP];exact hid),fun cZ bj he hb=>?_⟩;obtain⟨lT,g1,g2⟩:=l2 bj fun id hid=>hb id (by rw[VP];exact hid);have anV:allow sh g vs bj=allow sh g vs aj:=ai8 fun id hid=>hb id (by rw[VP];simp[Al.ok,hid]);refine⟨lT,?_,fun id=>by rw[fi];exact g2 id⟩;unfold step1;rw[(GA cZ he).2,hw];simp only;rw[Xz (GA cZ he).1,arW hp];simp only[anV];rw[aF aq];simp only[g1]
  cases h
 cases h
theorem asb(ak:Env){d d':Option Nat}(v v':V)(h:∀t,d=some t->d'≠some t):put (put ak d v) d' v'=put (put ak d' v') d v:=by
 cases d with
 |none=>rfl
 |some t=>
  cases d' with
  |none=>rfl
  |some t'=>
   have aI:t'≠t:=fun e=>h t rfl (by rw[e]);funext x;simp only[put,aN];by_cases h1:x=t
   .subst h1;rw[aF rfl,ay (fun e=>aI e.symm),aF rfl]
   rw[ay h1,ay h1]
theorem agl{d:Option Nat}{v:V}{t:Nat}(h:d≠some t):put ak d v t=ak t:=by
 cases d with
 |none=>rfl
 |some x=>simp only[put,aN];rw[ay (fun e=>h (by rw[e]))]
theorem QG{a b:List Nat}(h:meets a b=false){i:Nat}(ha:i∈a):i∉b:=by
 intro hb;have:meets a b=true:=by simp only[meets,Yn];exact⟨i,ha,by simpa using hb⟩
 rw[h] at this;cases this
theorem WE{fs ids:List Nat}(h:GG fs ids=false){i:Nat}(hi:i∈ids):iN i∉fs:=by
 intro hf;have:GG fs ids=true:=by simp only[GG,Yn];exact⟨i,hi,by simpa using hf⟩
 rw[h] at this;cases this
theorem aky{a b:bY}(h:FK a b=false)(id:Nat):(a.writes id=true->b.uc id=false)/\(b.writes id=true->a.uc id=false):=by
 simp only[FK,Oz] at h;obtain⟨⟨⟨⟨⟨c1,c2⟩,c3⟩,c4⟩,c5⟩,c6⟩:=h;have sw:∀ {x y:List Nat},meets x y=false->meets y x=false:=by
  intro x y h;cases he:meets y x with
  |false=>rfl
  |true=>simp only[meets,Yn] at he;obtain⟨i,h1,h2⟩:=he;exact absurd h1 (QG h (by simpa using h2))
 have one:∀ {a b:bY},meets a.wr b.rd=false->meets a.wr b.wr=false->meets a.fs b.fs=false->GG a.fs (b.rd++b.wr)=false->GG b.fs (a.rd++a.wr)=false->a.writes id=true->b.uc id=false:=by
  intro a b c1 c2 c4 c5 c6 hw;simp only[bY.writes,yJ] at hw;simp only[bY.uc,bY.writes,Oz];rcases hw with hw|hw
  .have hw:id∈a.wr:=by simpa using hw
   exact⟨by simpa using QG c1 hw,by simpa using QG c2 hw,by simpa using WE c6 (i:=id) (by simp[hw])⟩
  have hw:iN id∈a.fs:=by simpa using hw
  refine⟨?_,?_,?_⟩
  .cases he:b.rd.contains id with
   |false=>rfl
   |true=>exact absurd hw (WE c5 (i:=id) (by simp at he;simp[he]))
  .cases he:b.wr.contains id with
   |false=>rfl
   |true=>exact absurd hw (WE c5 (i:=id) (by simp at he;simp[he]))
  simpa using QG c4 hw
 exact⟨one c1 c2 c4 c5 c6,one (sw c3) (sw c2) (sw c4) c6 c5⟩
theorem swap{sh:Ctx}{cp:fH}{cs:jz}(de:Aw cs){x y:bG}{ak ik cZ:Env}{aj bQ bj:aA}{e1 e2:bY}(hx:step1 sh cp cs x ak aj=some (ik,bQ,e1))(hy:step1 sh cp cs y ik bQ=some (cZ,bj,e2))
  (hf:F1 x y=true) (hc:FK e1 e2=false):∃envy blky,step1 sh cp cs y ak aj=some (envy,blky,e2)/\step1 sh cp cs x envy blky=some (cZ,bj,e1):=by
 obtain⟨v1,rfl,IX,_,apL⟩:=XY de hx;obtain⟨v2,rfl,AR,_,apM⟩:=XY de hy;have Jh:∀t,x.dst=some t->t∉y.Hp/\y.dst≠some t:=by intro t ht;simp only[F1,ht,cN] at hf;have h1:=hf.1;simp at h1;exact⟨by simpa using h1.1,h1.2⟩
 have xX:∀t,y.dst=some t->t∉x.Hp:=by
  intro t ht;simp only[F1,ht,cN] at hf;have h1:=hf.2
  simpa using h1
 have bR:=aky hc;have nw:∀ {a b:bY} {id:Nat},(a.writes id=true->b.uc id=false)->b.uc id=true->a.writes id=false:=by
  intro a b id h1 h2;cases h:a.writes id with
  |false=>rfl
  |true=>rw[h1 h] at h2;cases h2
 have wt:∀ {a:bY} {id:Nat},a.writes id=true->a.uc id=true:=by intro a id h;simp[bY.uc,h]
 obtain⟨blky,Nz,yb⟩:=apM ak aj (fun t ht=>(agl fun e=>(Jh t e).1 ht).symm) (fun id hid=>(IX id (nw (bR id).1 hid)).symm);obtain⟨blkx,zV,xb⟩:=apL (put ak y.dst v2) blky (fun t ht=>agl fun e=>xX t e ht) (fun id hid=>by rw[yb id,nw (bR id).2 hid];rfl)
 refine⟨_,blky,Nz,?_⟩;rw[zV,asb ak v1 v2 fun t ht=>(Jh t ht).2];have:blkx=bj:=by
  funext id;rw[xb id,yb id];cases h1:e1.writes id with
  |true=>have h2:e2.writes id=false:=nw (bR id).2 (wt h1);exact(AR id h2).symm
  |false=>
   cases h2:e2.writes id with
   |true=>rfl
   |false=>simp only[dx,if_false];rw[AR id h2,IX id h1]
 rw[this]
structure It where
 i:Nat
 io:bG
 e:bY
def OT(x y:It):Prop:=F1 x.io y.io=true/\FK x.e y.e=false
theorem ahv{o:bG}{r:List bG}{aD:Env}{aj ao:aA}{e:bY}{es:List bY}(h:steps sh cp cs (o::r) ak aj=some (aD,ao,e::es)):
  ∃ik bQ,step1 sh cp cs o ak aj=some (ik,bQ,e)/\steps sh cp cs r ik bQ=some (aD,ao,es):=by
 simp only[steps] at h;split at h
 .rename_i ik bQ e1 h1;split at h
  .rename_i cZ bj es2 h2;cases h;exact⟨ik,bQ,h1,h2⟩
  cases h
 cases h
theorem auv{o:bG}{r:List bG}{ik aD:Env}{aj bQ ao:aA}{e:bY}{es:List bY}(h1:step1 sh cp cs o ak aj=some (ik,bQ,e))(h2:steps sh cp cs r ik bQ=some (aD,ao,es)):
  steps sh cp cs (o::r) ak aj=some (aD,ao,e::es):=by
 simp only[steps,h1,h2]
theorem auS(de:Aw cs){y:It}{l2:List It}:∀ {l1:List It} {ak aD:Env} {aj ao:aA},steps sh cp cs ((l1++y::l2).map (·.io)) ak aj=some (aD,ao,(l1++y::l2).map (·.e))->(∀x∈l1,OT x y)->
  ∃ik bQ,step1 sh cp cs y.io ak aj=some (ik,bQ,y.e)/\steps sh cp cs ((l1++l2).map (·.io)) ik bQ=some (aD,ao,(l1++l2).map (·.e)):=by
 intro l1
 induction l1 with
 |nil=>intro ak aD aj ao h _;exact ahv h
 |cons x l1 ih=>intro ak aD aj ao h ni;obtain⟨envx,blkx,h1,h2⟩:=ahv h;obtain⟨envy,blky,h3,h4⟩:=ih h2 fun z hz=>ni z (by simp[hz]);obtain⟨en1,bl1,h5,h6⟩:=swap de h1 h3 (ni x af).1 (ni x af).2;exact⟨en1,bl1,h5,auv h6 h4⟩
def DC(al:Al)(b b2:aA):Prop:=∀id,al.ok id=true->b2 id=b id
def u6(al:Al)(b' b2 FC:aA):Prop:=∀id,FC id=if al.ok id then b' id else b2 id
def Frame(al:Al)(b b':aA):Prop:=∀id,al.ok id=false->b' id=b id
theorem u6.agree{al:Al}{b2 FC:aA}(h:u6 al b' b2 FC):DC al b' FC:=fun id hid=>by rw[h id,hid];rfl
theorem u6.trans{al:Al}{b2 FC b'' ZD:aA}(h:u6 al b' b2 FC)(k:u6 al b'' FC ZD):u6 al b'' b2 ZD:=fun id=>by rw[k id,h id];cases al.ok id<;>rfl
theorem u6.refl{al:Al}{b b2:aA}(h:DC al b b2):u6 al b b2 b2:=fun id=>by
 cases hid:al.ok id with
 |true=>exact h id hid
 |false=>rfl
theorem Frame.trans{al:Al}{b b'':aA}(h:Frame al b b')(k:Frame al b' b''):Frame al b b'':=fun id hid=>(k id hid).trans (h id hid)
section
variable {sh:Ctx} {cp:fH} {cs:jz} (de:Aw cs)
include de
theorem aus:∀ {ops:List bG} {ak aD:Env} {aj ao:aA} {es:List bY},steps sh cp cs ops ak aj=some (aD,ao,es)->Frame sh.al aj ao/\
  ∀bj,DC sh.al aj bj->∃lT,steps sh cp cs ops ak bj=some (aD,lT,es)/\u6 sh.al ao bj lT:=by
 intro ops
 induction ops with
 |nil=>intro ak aD aj ao es h;simp only[steps,fD,kB] at h;obtain⟨rfl,rfl,rfl⟩:=h;exact⟨fun _ _=>rfl,fun bj ha=>⟨bj,rfl,.refl ha⟩⟩
 |cons o ops ih=>
  intro ak aD aj ao es h;simp only[steps] at h;split at h
  .rename_i ik bQ e h1;split at h
   .rename_i cZ bj kY h2;cases h;obtain⟨v,rfl,fr,tw,loc⟩:=XY de h1;obtain⟨f2,g2⟩:=ih h2;have hw:∀id,sh.al.ok id=false->e.writes id=false:=by
     intro id hid;cases hh:e.writes id with
     |false=>rfl
     |true=>have:=tw id (by simp[bY.uc,hh]);rw[hid] at this;cases this
    refine⟨Frame.trans (fun id hid=>fr id (hw id hid)) f2,fun b2 ha=>?_⟩;obtain⟨b1,s1,m1⟩:=loc ak b2 (fun _ _=>rfl) (fun id hid=>ha id (tw id hid));have lM:u6 sh.al bQ b2 b1:=by
     intro id;rw[m1 id];cases hid:sh.al.ok id with
     |true=>
      cases hh:e.writes id with
      |true=>rfl
      |false=>simp only[dx,if_false,if_true];rw[ha id hid,fr id hh]
     |false=>rw[hw id hid]
    obtain⟨b3,s2,m2⟩:=g2 b1 lM.agree;exact⟨b3,by simp only[steps,s1,s2],lM.trans m2⟩
   cases h
  cases h
theorem aoY{c:Env->aA->Option (lG×Env×aA)}(hc:∀ {ak aD aj ao e},c ak aj=some (e,aD,ao)->Frame sh.al aj ao/\ ∀bj,DC sh.al aj bj->∃lT,c ak bj=some (e,aD,lT)/\u6 sh.al ao bj lT):
  ∀(k:Nat) {ak aD:Env} {aj ao:aA} {e:lG},iter c k ak aj=some (e,aD,ao)->Frame sh.al aj ao/\ ∀bj,DC sh.al aj bj->∃lT,iter c k ak bj=some (e,aD,lT)/\u6 sh.al ao bj lT:=by
 have _u0:=de;intro k
 induction k with
 |zero=>intro ak aD aj ao e h;simp[iter] at h
 |succ k ih=>
  intro ak aD aj ao e h;simp only[iter] at h;split at h
  .rename_i ik bQ h1;obtain⟨f1,g1⟩:=hc h1;obtain⟨f2,g2⟩:=ih h;refine⟨f1.trans f2,fun b2 ha=>?_⟩;obtain⟨b1,s1,m1⟩:=g1 b2 ha;obtain⟨b3,s2,m2⟩:=g2 b1 m1.agree;exact⟨b3,by simp only[iter,s1,s2],m1.trans m2⟩
  rename_i aI;obtain⟨f1,g1⟩:=hc h;refine⟨f1,fun b2 ha=>?_⟩;obtain⟨b1,s1,m1⟩:=g1 b2 ha;refine⟨b1,?_,m1⟩;cases e with
  |normal=>exact(aI _ _ h).elim
  |exit i=>simp only[iter,s1]
  |ret=>simp only[iter,s1]
theorem aaY{n:Nat}:∀(c:aJ) {ak aD:Env} {aj ao:aA} {e:lG},exec sh cp cs n c ak aj=some (e,aD,ao)->Frame sh.al aj ao/\
  ∀bj,DC sh.al aj bj->∃lT,exec sh cp cs n c ak bj=some (e,aD,lT)/\u6 sh.al ao bj lT:=by
 intro c
 induction c with
 |skip=>intro ak aD aj ao e h;simp only[exec,fD,kB] at h;obtain⟨rfl,rfl,rfl⟩:=h;exact⟨fun _ _=>rfl,fun b2 ha=>⟨b2,rfl,.refl ha⟩⟩
 |exit id=>intro ak aD aj ao e h;simp only[exec,fD,kB] at h;obtain⟨rfl,rfl,rfl⟩:=h;exact⟨fun _ _=>rfl,fun b2 ha=>⟨b2,rfl,.refl ha⟩⟩
 |ret=>intro ak aD aj ao e h;simp only[exec,fD,kB] at h;obtain⟨rfl,rfl,rfl⟩:=h;exact⟨fun _ _=>rfl,fun b2 ha=>⟨b2,rfl,.refl ha⟩⟩
 |bad=>intro ak aD aj ao e h;simp[exec] at h
 |region d ops=>
  intro ak aD aj ao e h;simp only[exec] at h;split at h
  .rename_i ik bQ es h1;obtain⟨f1,g1⟩:=aus de h1;have he:(e,aD,ao)=(lG.normal,ik,bQ)/\(d=true->sZ ops [] es=true):=by
    cases d with
    |false=>simp at h;exact⟨by simp[h],fun h=>by cases h⟩
    |true=>
     simp only[if_true] at h;split at h
     .rename_i hd;cases h;exact⟨rfl,fun _=>hd⟩
     cases h
   obtain⟨he,hd⟩:=he;cases he;refine⟨f1,fun b2 ha=>?_⟩;obtain⟨b1,s1,m1⟩:=g1 b2 ha;refine⟨b1,?_,m1⟩;simp only[exec,s1];cases d with
   |false=>simp
   |true=>simp[hd rfl]
  cases h
 |seq a b iha ihb=>
  intro ak aD aj ao e h;simp only[exec] at h;split at h
  .rename_i ik bQ h1;obtain⟨f1,g1⟩:=iha h1;obtain⟨f2,g2⟩:=ihb h;refine⟨f1.trans f2,fun b2 ha=>?_⟩;obtain⟨b1,s1,m1⟩:=g1 b2 ha;obtain⟨b3,s2,m2⟩:=g2 b1 m1.agree;exact⟨b3,by simp only[exec,s1,s2],m1.trans m2⟩
  rename_i aI;obtain⟨f1,g1⟩:=iha h;refine⟨f1,fun b2 ha=>?_⟩;obtain⟨b1,s1,m1⟩:=g1 b2 ha;refine⟨b1,?_,m1⟩;cases e with
  |normal=>exact(aI _ _ h).elim
  |exit i=>simp only[exec,s1]
  |ret=>simp only[exec,s1]
 |cond x a b iha ihb=>
  intro ak aD aj ao e h;simp only[exec] at h ⊢;split at h
  .rename_i t ht;cases t with
   |true=>exact iha h
   |false=>exact ihb h
  cases h
 |block id c ih=>
  intro ak aD aj ao e h;simp only[exec] at h;split at h
  .rename_i i ik bQ h1;obtain⟨f1,g1⟩:=ih h1;have hb:ao=bQ:=by split at h<;>cases h<;>rfl
   subst hb;refine⟨f1,fun b2 ha=>?_⟩;obtain⟨b1,s1,m1⟩:=g1 b2 ha;refine⟨b1,?_,m1⟩;simp only[exec,s1];split at h
   .rename_i hi;cases h;rw[aF hi]
   rename_i hi;cases h;rw[ay hi]
  rename_i aI;obtain⟨f1,g1⟩:=ih h;refine⟨f1,fun b2 ha=>?_⟩;obtain⟨b1,s1,m1⟩:=g1 b2 ha;refine⟨b1,?_,m1⟩;cases e with
  |normal=>simp only[exec,s1]
  |exit i=>exact(aI _ _ _ h).elim
  |ret=>simp only[exec,s1]
 |loop c ih=>intro ak aD aj ao e h;simp only[exec] at h ⊢;exact aoY de (fun h=>ih h) n h
end
theorem agE{al:Al}{aj bj:aA}(ha:DC al aj bj):∀ {rs:List (Nat×Option (Option Nat))} {vs:List V},oF al ak aj rs=some vs->oF al ak bj rs=some vs:=by
 intro rs
 induction rs with
 |nil=>intro vs h;exact h
 |cons r rs ih=>
  obtain⟨t,k⟩:=r;cases k with
  |none=>
   intro vs h;simp only[oF] at h ⊢;split at h
   .rename_i v q h1 h2;cases h;simp only[h1,ih h2]
   cases h
  |some k=>
   intro vs h;simp only[oF] at h ⊢;split at h
   .rename_i cs rd q h1 h2;split at h
    .rename_i aq;rw[ags h1 (fun id hid=>ha id (QR aq hid)),ih h2];simp only[aq,if_true];exact h
    cases h
   cases h
theorem asV(de:Aw cs){n:Nat}{fn:aV}{args:List V}{aj ao:aA}{v:V}(h:qZ sh cp cs n fn args aj=some (v,ao)):Frame sh.al aj ao/\
  ∀bj,DC sh.al aj bj->∃lT,qZ sh cp cs n fn args bj=some (v,lT)/\u6 sh.al ao bj lT:=by
 unfold qZ at h;split at h
 .rename_i ak b hx;simp only[dE] at h;obtain⟨vs,h1,h2⟩:=h;cases h2;obtain⟨f1,g1⟩:=aaY de _ hx;refine⟨f1,fun b2 ha=>?_⟩;obtain⟨b3,s1,m1⟩:=g1 b2 ha;exact⟨b3,by unfold qZ;rw[s1];simp only[agE m1.agree h1,mz],m1⟩
 .rename_i ak b hx;simp only[dE] at h;obtain⟨vs,h1,h2⟩:=h;cases h2;obtain⟨f1,g1⟩:=aaY de _ hx;refine⟨f1,fun b2 ha=>?_⟩;obtain⟨b3,s1,m1⟩:=g1 b2 ha;exact⟨b3,by unfold qZ;rw[s1];simp only[agE m1.agree h1,mz],m1⟩
 cases h
end
end Go.Abs
namespace Go.Abs
variable {P:Program} {w0:World}
def r4(w:World)(O:Nat->Prop):V->Value->Prop
 | .one (.p x),v=>ch w O x v
 | .agg cs,v=>∃arr ps,v=.agg arr/\cs=ps.map .p/\dj w O ps arr.toList
 |_,_=>False
def Enters(P:Program)(f:Nat):Prop:= ∃fn c,P.funcs[f]?=some fn/\fn.body=some c/\(fn.name== "runtime.NumGoroutine")=false
def OO(w:World)(Q:Nat->Prop)(r:RV)(val:Value)(bs:List Nat):Prop:= ∃vs,Fq r val vs/\rl w Q (gK r) vs bs
def u7(w:World)(O:Nat->Prop)(r:RV):Ending->World->Prop:=fun e w'=>∃val bs,e=.returned val/\fy w w'/\bs.Nodup/\(∀c∈bs,w.heap.size<=c/\c<w'.heap.size)/\OO w' (fun c=>O c\/c∈bs) r val bs
def Good(G:World->Prop)(w:World):Prop:=G w/\ ∀w w',fy w w'->G w->G w'
theorem Ok.acM{m:Mem}(h:Ok w0 m):fy w0 m.w:=⟨h.os,h.tape,h.output,h.size,h.base⟩
theorem rl.pure{w:World}{Q Q':Nat->Prop}(h:∀b,Q' b->Q b):∀ {rs:List RC} {vs:List Value} {bs:List Nat},(∀c∈bs,¬Q' c)->rl w Q rs vs bs->rl w Q' (rs.map RC.pure) vs []:=by
 intro rs
 induction rs with
 |nil=>intro vs bs _ hr;exact⟨hr.1,rfl⟩
 |cons r rs ih=>
  intro vs bs hb hr;have less:∀ {x:PV} {v:Value},ch w Q x v->ch w Q' x v:=fun hp=>hp.mono fun c _ hn=>⟨rfl,fun hq=>hn (h c hq)⟩;cases r with
  |p x=>obtain⟨v,mS,rfl,h1,h2⟩:=hr;exact⟨v,mS,rfl,less h1,ih hb h2⟩
  |own ty sz es=>
   obtain⟨v,mS,c,Cc,rfl,rfl,⟨cap,cur,e1,e2,e3,e4,e5,e6,e7,e8⟩,h2⟩:=hr;refine⟨v,mS,rfl,?_,ih (fun c hc=>hb c (by simp[hc])) h2⟩;subst e1;refine ch.sl c 0 cap sz (fun j=>cur.toList.getD j undef) (fun _=>hb c af) e5 e6 e4 (fun j x hx=>?_) (fun j x hx=>?_)
   .have hj:j<(cur.toList.take (es.length*sz)).length:=by rw[e8.1];exact(aW.1 hx).1
    have mM:j<cur.size:=by simp at hj;omega
    rw[World.cell?];simp[e2,mM,List.getD,iQ]
   have hj:j<(cur.toList.take (es.length*sz)).length:=by rw[e8.1];exact(aW.1 hx).1
   have mM:j<cur.size:=by simp at hj;omega
   refine less (e8.2 j x _ hx ?_);rw[List.getElem?_take_of_lt (by simp at hj;omega)];simp[mM,List.getD]
theorem xy.pure{r:RV}{v:Value}{vs:List Value}(h:xy r v vs):xy r.He v vs/\im r.He=(im r).map RC.pure:=by
 cases r with
 |one c=>exact⟨h,rfl⟩
 |agg cs=>exact⟨⟨h.1,by simpa [RV.He] using h.2⟩,rfl⟩
 |tup _=>exact h.elim
theorem DD.pure:∀ {rs:List RV} {us vs:List Value},DD rs us vs->DD (rs.map RV.He) us vs/\mI (rs.map RV.He)=(mI rs).map RC.pure:=by
 intro rs
 induction rs with
 |nil=>intro us vs h;exact⟨h,rfl⟩
 |cons r rs ih=>
  rintro us vs ⟨u,Oo,a,b,rfl,rfl,h1,h2⟩
  obtain⟨p1,p2⟩:=h1.pure;obtain⟨q1,q2⟩:=ih h2;exact⟨⟨u,Oo,a,b,rfl,rfl,p1,q1⟩,by simp[mI,p2,q2]⟩
theorem Fq.pure{r:RV}{v:Value}{vs:List Value}(h:Fq r v vs):Fq r.pure v vs/\gK r.pure=(gK r).map RC.pure:=by
 cases r with
 |one c=>exact xy.pure (r:=.one c) h
 |agg cs=>exact xy.pure (r:=.agg cs) h
 |tup rs=>obtain⟨arr,rfl,h2⟩:=h;obtain⟨q1,q2⟩:=h2.pure;exact⟨⟨arr,rfl,q1⟩,q2⟩
theorem u7.fP{w w':World}{O:Nat->Prop}{r:RV}{e:Ending}(b:Bool)(hO:∀c,O c->c<w.heap.size)(h:u7 w O r e w'):u7 w O (r.fP b) e w':=by
 cases b with
 |false=>exact h
 |true=>
  obtain⟨val,bs,rfl,hg,eZ,lL,vs,h1,h2⟩:=h;obtain⟨p1,p2⟩:=h1.pure;refine⟨val,[],rfl,hg,uh,fun c hc=>by simp at hc,vs,p1,?_⟩;simp only[RV.fP];rw[p2];refine rl.pure (fun b hb=>?_) (fun c hc hn=>?_) h2
  .rcases hb with hb|hb
   .exact .inl hb
   simp at hb
  rcases hn with hn|hn
  .have:=hO c hn;have:=(lL c hc).1;omega
  simp at hn
def DF(P:Program)(G:World->Prop)(cp:fH):Prop:=∀f vs r,cp f vs=some r->Enters P f/\ ∀(w:World) (O:Nat->Prop) (args:Array Value),Good G w->(∀c,O c->c<w.heap.size)->Pw (r4 w O) vs args.toList->Calls P f args w (u7 w O r)
def HU(w0:World)(m:Mem)(v:V)(ao:aA):Ending->World->Prop:=fun e w'=>∃val m',e=.returned val/\m'.w=w'/\Ok w0 m'/\Ev m m'/\m'.fr=m.fr/\m'.aj=ao/\bK m' v val
def Ft(P:Program)(G:World->Prop)(cs:jz):Prop:=∀f vs al aj v ao,cs f vs al aj=some (v,ao)->Enters P f/\ ∀(w0:World) (m:Mem) (args:Array Value),Good G w0->Ok w0 m->m.aj=aj->Pw (bK m) vs args.toList->Calls P f args m.w (HU w0 m v ao)
theorem at2{m:Mem}(aq:Ok w0 m){O:Nat->Prop}{x y:V}{r:List Nat}{v:Value}(h:nA m.aj x=some (y,r))(hr:bK m x v)(hs:pS m O r):r4 m.w O y v:=by
 cases x with
 |undef=>simp[nA] at h
 |tup vs=>simp[nA] at h
 |one c=>simp only[nA,dE] at h;obtain⟨⟨p,r'⟩,h1,h2⟩:=h;cases h2;exact KE aq fM h1 hr hs
 |agg cs=>simp only[nA,dE] at h;obtain⟨⟨ps,r'⟩,h1,h2⟩:=h;cases h2;obtain⟨arr,rfl,hc⟩:=bK.agg.1 hr;refine⟨arr,ps,rfl,rfl,?_⟩;exact Is (R:=cY m) (T:=ch m.w O) (eF:=pS m O) (fun _ _=>pS.app) (fun _ _ _ _ h1 h2 h3=>KE aq fM h1 h2 h3) h1 hs hc
theorem ahk{m:Mem}(aq:Ok w0 m){O:Nat->Prop}{xs ys:List V}{r:List Nat}{vs:List Value}(h:BE m.aj xs=some (ys,r))(hr:Pw (bK m) xs vs)(hs:pS m O r):Pw (r4 m.w O) ys vs:=Is (R:=bK m) (T:=r4 m.w O) (eF:=pS m O) (fun _ _=>pS.app) (fun _ _ _ _ h1 h2 h3=>at2 aq h1 h2 h3) h hs hr
theorem afV{m:Mem}(aq:Ok w0 m){c:Nat}(h:m.own c):c<m.w.heap.size:=by
 rcases h with h|⟨id,o,ho,_,rfl⟩
 .exact aq.frlt c h
 exact(aq.obj id o ho).lt
theorem agX{w:World}{Q Q':Nat->Prop}{x:PV}{v:Value}(hs:x.scalar=true)(h:ch w Q x v):ch w Q' x v:=by
 cases h<;>first
  |(simp[PV.scalar] at hs;done)
  |constructor
theorem ai9{w:World}{Q Q':Nat->Prop}:∀ {rs:List RC} {vs:List Value} {bs:List Nat},rs.all RC.alone=true->rl w Q rs vs bs->rl w Q' rs vs bs:=by
 intro rs
 induction rs with
 |nil=>intro vs bs _ h;exact h
 |cons r rs ih=>
  intro vs bs ha h;simp only[mw,cN] at ha;cases r with
  |p x=>obtain⟨v,mS,rfl,h1,h2⟩:=h;exact⟨v,mS,rfl,agX ha.1 h1,ih ha.2 h2⟩
  |own ty sz es=>obtain⟨v,mS,c,Cc,rfl,rfl,⟨cap,cur,e1,e2,e3,e4,e5,e6,e7,e8⟩,h2⟩:=h;refine⟨v,mS,c,Cc,rfl,rfl,⟨cap,cur,e1,e2,e3,e4,e5,e6,e7,e8.1,fun j x u a b=>?_⟩,ih ha.2 h2⟩;refine agX ?_ (e8.2 j x u a b);have hx:=aU a;obtain⟨e,he,hxe⟩:=Fm.1 hx;have h1:=ha.1;simp only[RC.alone] at h1;exact jd.1 (jd.1 h1 e he) x hxe
theorem aeH{m:Mem}{w':World}{x:RV}{val:Value}{bs:List Nat}{site:Nat}(aq:Ok w0 m)(hg:fy m.w w')(eZ:bs.Nodup)(lL:∀c∈bs,m.w.heap.size<=c/\c<w'.heap.size)(hr:OO w' (fun c=>m.own c\/c∈bs) x val bs):
  ∃m',m'.w=w'/\Ok w0 m'/\Ev m m'/\m'.fr=m.fr/\m'.aj=app (ju m.aj site x).2 m.aj/\bK m' (ju m.aj site x).1 val:=by
 obtain⟨vs,h1,h2⟩:=hr;have nk:Ok w0 (m.later w' (· ∈bs)):=NH aq hg lL;have vp:Ev m (m.later w' (· ∈bs)):=JQ hg fun c hc=>(lL c hc).1;obtain⟨m',e1,e2,e3,_,e5,e6,e7⟩:=aoE (NK:=m) (site:=site) nk (h2.less fun b hb=>aeL.1 hb) eZ (fun c hc=>⟨.inr hc,mT aq.size (lL c hc).1⟩) vp (fun c hc=>.inl (lL c hc).1);refine⟨m',e1,e2,e3,?_,e6,asy h1 e7⟩;funext c;apply propext;rw[e5 c];constructor
 .rintro ⟨h|h,h2⟩
  .exact h
  exact(h2 h).elim
 intro h;refine⟨.inl h,fun hc=>?_⟩;have h1:=aq.frlt c h;have h2:=(lL c hc).1;omega
theorem aoF{b b':aA}(h:∀s,(b s).1=(b' s).1)(site:Nat)(x:RV):ju b site x=ju b' site x:=by unfold ju;rw[adI _ site b b' fun s _=>h s]
theorem arb{G:World->Prop}{cp:fH}(AX:DF P G cp)(hG:Good G w0){m:Mem}(aq:Ok w0 m){f:Nat}{xs vs:List V}{rd:List Nat}{x:RV}{site:Nat}{v:V}{u:List eK}{args:Array Value}(hc:cp f vs=some x)(hs:BE m.aj xs=some (vs,rd))(Cv:Pw (bK m) xs args.toList)
  {pb:Bool} (hl:land m.aj rd site (x.fP pb)=some (v,u)):Calls P f args m.w (HU w0 m v (app u m.aj)):=by
 have Cx:∀(w:World) (O:Nat->Prop) (args:Array Value),Good G w->(∀c,O c->c<w.heap.size)->Pw (r4 w O) vs args.toList->Calls P f args w (u7 w O (x.fP pb)):=fun w O args h1 h2 h3=>((AX f vs x hc).2 w O args h1 h2 h3).mono fun e w' h=>h.fP pb h2
 generalize x.fP pb=x at hl Cx;unfold land at hl;split at hl
 .rename_i qM;cases hl;have key:∀(O:Nat->Prop),(∀c,O c->c<m.w.heap.size)->pS m O rd->(∀w' bs val,OO w' (fun c=>O c\/c∈bs) x val bs->OO w' (fun c=>m.own c\/c∈bs) x val bs)->Calls P f args m.w (HU w0 m (ju m.aj site x).1 (app (ju m.aj site x).2 m.aj)):=by
   intro O hO nW vF;refine(Cx m.w O args ⟨hG.2 _ _ aq.acM hG.1,hG.2⟩ hO (ahk aq hs Cv nW)).mono ?_;rintro e w' ⟨val,bs,rfl,hg,eZ,lL,hr⟩
   obtain⟨m',e1,e2,e3,e4,e5,e6⟩:=aeH (site:=site) aq hg eZ lL (vF w' bs val hr);exact⟨val,m',rfl,e1,e2,e3,e4,e5,e6⟩
  rcases qM with rfl|fi
  .exact key m.own (fun c hc=>afV aq hc) ⟨fun _ h=>h,fun _ h=>by simp at h⟩ fun _ _ _ h=>h
  refine key (fun _=>False) (fun c h=>h.elim) ⟨fun _ h=>h.elim,fun _ _ h=>h⟩ fun w' bs val h=>?_;obtain⟨mS,h1,h2⟩:=h;exact⟨mS,h1,ai9 fi h2⟩
 split at hl
 .rename_i fu qf;cases hl;have nk:=acr aq qf;have vp:=VC qf;have nW:=VF aq qf;refine(Cx m.w (m.with fu).own args ⟨hG.2 _ _ aq.acM hG.1,hG.2⟩ (fun c hc=>afV nk hc) (ahk aq hs Cv nW)).mono ?_;rintro e w' ⟨val,bs,rfl,hg,eZ,lL,hr⟩
  obtain⟨m',e1,e2,e3,e4,e5,e6⟩:=aeH (m:=m.with fu) (site:=site) nk hg eZ lL hr;have VU:ju (m.with fu).aj site x=ju m.aj site x:=aoF (fun s=>Mh qf s) site x;rw[VU] at e5 e6;refine⟨val,m',rfl,e1,e2,vp.trans e3,e4,?_,e6⟩;rw[e5,Lo];rfl
 cases hl
end Go.Abs
namespace Go.Abs
variable {P:Program} {w0:World}
theorem Ra{m m':Mem}(dQ:Ev m m'){ak:Env}{a:Act}{dst:Option Nat}{v:V}{x:Value}(hr:iS m ak a.tmps)(hv:bK m' v x)(hd:∀d,dst=some d->d<a.tmps.size):iS m' (put ak dst v) (a.put dst x).tmps:=by
 cases dst with
 |none=>exact hr.ev dQ
 |some d=>
  intro t;have au:=hd d rfl;simp only[put,Act.put,aN];by_cases ht:t=d
  .subst ht;rw[aF rfl];have:(a.tmps.setIfInBounds t x).getD t undef=x:=by simp[au]
   rw[this];exact hv
  rw[ay ht];have:(a.tmps.setIfInBounds d x).getD t undef=a.tmps.getD t undef:=by simp only[Dv];rw[Array.getElem?_setIfInBounds_ne (fun e=>ht e.symm)]
  rw[this];exact(hr t).ev dQ.zero
theorem Rc(a:Act)(dst:Option Nat)(x:Value):(a.put dst x).tmps.size=a.tmps.size:=by cases dst<;>simp[Act.put]
theorem put_defers(a:Act)(dst:Option Nat)(x:Value):(a.put dst x).defers=a.defers:=by cases dst<;>simp[Act.put]
theorem ah3{m:Mem}{ak:Env}{tmps:Array Value}(hr:iS m ak tmps){ops:Array Oper}{o:Oper}{g:Option (Nat×Bool)}{b:Bool}
  (hg:match o.guard with|none=>g=none|some (j,w)=>∃t,(ops[j]?).bind (·.dst)=some t/\g=some (t,w)) (h:wanted ak g=some b):Region.wanted o (yielded ops tmps)=b:=by
 unfold Region.wanted;cases ho:o.guard with
 |none=>rw[ho] at hg;subst hg;simp only[wanted,fD] at h;exact h
 |some q=>
  obtain⟨j,w⟩:=q;rw[ho] at hg;obtain⟨t,h1,rfl⟩:=hg;have hrt:=hr t;simp only[wanted] at h;simp only[yielded,h1,Option.bind_some];split at h
  .rename_i b' hb;rw[hb] at hrt;have hv:=EI hrt;cases h;have:tmps[t]?=some (.bool b'):=by
    rw[Dv] at hv;cases he:tmps[t]? with
    |none=>rw[he] at hv;simp[undef] at hv
    |some y=>rw[he] at hv;simp at hv;rw[hv]
   rw[this];rfl
  .rename_i hb;rw[hb] at hrt;cases h;have hv:tmps.getD t undef=undef:=hrt;rw[Dv] at hv;cases he:tmps[t]? with
   |none=>rfl
   |some y=>rw[he] at hv;simp at hv;rw[hv];rfl
  cases h
theorem acg{m:Mem}{ak:Env}{f:aR}{v:Value}{g:Nat}{a b:List C}(h:DU ak f=some (g,a,b))(hr:bK m (ev ak f) v):∃A B:Array Value,v=.func (.func g) A B/\dq m a A.toList/\dq m b B.toList:=by
 unfold DU at h;split at h
 .rename_i g' x y he;cases h;rw[he] at hr;obtain⟨hp⟩:cY m _ v:=hr;cases hp with
  |fn A B ha hb vB qQ=>exact⟨A,B,rfl,dj.Dn ⟨by simpa using ha,fun j x u p q=>vB j x u p (by simpa using q)⟩,dj.Dn ⟨by simpa using hb,fun j x u p q=>qQ j x u p (by simpa using q)⟩⟩
 .rename_i g' x y he;cases h;rw[he] at hr;have hc:cY m _ v:=hr;cases hc with
  |hfn A B ha hb vB qQ=>exact⟨A,B,rfl,⟨by simpa using ha,fun j x u p q=>vB j x u p (by simpa using q)⟩,⟨by simpa using hb,fun j x u p q=>qQ j x u p (by simpa using q)⟩⟩
 cases h
theorem Zs{m:Mem}{ak:Env}{a:Act}(hr:iS m ak a.tmps):∀ {xs:List Operand} {ys:List aR},pW xs=some ys->Pw (bK m) (ys.map (ev ak)) (xs.map a.eval):=by
 intro xs
 induction xs with
 |nil=>intro ys h;simp[pW] at h;subst h;exact⟨rfl,fun j x u p=>by simp at p⟩
 |cons x xs ih=>
  intro ys h;simp only[pW] at h;split at h
  .rename_i y ys' h1 h2;cases h;obtain⟨i1,i2⟩:=ih h2;refine⟨by simpa using i1,fun j z u p q=>?_⟩;cases j with
   |zero=>simp at p q;subst p q;exact eB h1 hr
   |succ j=>exact i2 j z u (by simpa using p) (by simpa using q)
  cases h
theorem QS{m:Mem}{cs:List C}{vs:List Value}(h:dq m cs vs):Pw (bK m) (cs.map .one) vs:=by refine⟨by simpa using h.1,fun j x u p q=>?_⟩;simp only[fQ,dE] at p;obtain⟨c,hc,rfl⟩:=p;exact bK.one.2 (h.2 j c u hc q)
theorem aj8{f:Nat}(h:Enters P f)(args:Array Value)(w:World):(callFunc f args).run P w=.ok (.enter f args) w:=by
 obtain⟨fn,c,h1,h2,h3⟩:=h;have h4:¬fn.name= "runtime.NumGoroutine" :=by simpa using h3
 simp[callFunc,run_program,h1,h2,h4]
theorem ZT{o:Oper}{c:Call}{fo:Operand}{a:Act}{g:Nat}{A B:Array Value}{w:World}(ho:o.op=.call c)(hc:c.callee=.value fo)(hv:a.eval fo=.func (.func g) A B)(he:Enters P g):
  (execOp a.eval o).run P w=.ok (.enter g (A++c.args.map a.eval++B)) w:=by
 simp[execOp,ho,resolve,hc,hv,Deferred.ofValue,invoke,aj8 he]
theorem afH{site:Nat}{o:Oper}{p:mW}(h:FN P site o=some p)(hp:∀s f as,p≠ .call s f as){sh:Nat->Bool}{ak:Env}{aj:aA}:(∀f vs r s,bt sh ak aj p≠ .pc f vs r s)/\ ∀f vs,bt sh ak aj p≠ .sc f vs:=by
 cases p<;>first
  |exact(hp _ _ _ rfl).elim
  |(simp only[bt]
    constructor<;>intros<;>intro h<;>(repeat' split at h)<;>first
     |cases h
     |(simp only[Ak,Dh,fL] at h;(repeat' split at h)<;>cases h))
theorem aac{site:Nat}{o:Oper}{s:Nat}{f:aR}{as:List aR}(h:FN P site o=some (.call s f as)):∃c fo,o.op=.call c/\c.callee=.value fo/\cF fo=some f/\pW c.args.toList=some as:=by
 unfold FN at h;split at h
 case h_26 c ho=>
  split at h
  .rename_i f' as' h1 h2;simp only[dE] at h;obtain⟨y,h3,h4⟩:=h;cases h4;exact⟨c,f',ho,h1,h3,h2⟩
  all_goals((repeat' split at h)<;>first
   |cases h
   |(simp at h;done))
 all_goals((repeat' split at h)<;>first
  |cases h
  |(simp at h;done))
def Fv(w0:World)(m:Mem)(a:Act)(nt:Nat)(aD:Env)(ao:aA)(K:Act->World->Prop):Prop:=∀(a':Act) (m':Mem),Ok w0 m'->Ev m m'->m'.fr=m.fr->m'.aj=ao->iS m' aD a'.tmps->a'.tmps.size=nt->a'.defers=a.defers->K a' m'.w
theorem ah6{o:Oper}{a:Act}{f:Nat}{args:Array Value}{w:World}{K:Act->World->Prop}{Q:Exit->Act->World->Prop}{R:Ending->World->Prop}(jF:(execOp a.eval o).run P w=.ok (.enter f args) w)(hc:Calls P f args w R)
  (hR:∀e w',R e w'->∃v,e=.returned v/\K (a.put o.dst v) w'):o.wp P a w K Q:=by
 unfold Oper.wp;rw[jF,Oper.upon_enter];refine hc.mono ?_;intro e w' he;obtain⟨v,rfl,hk⟩:=hR e w' he;exact hk
theorem ahu{G:World->Prop}(hG:Good G w0){cp:fH}{cs:jz}(hP:DF P G cp)(hS:Ft P G cs){sh:Ctx}{ops:Array Oper}{base nt anc:Nat}{o:Oper}{io:bG}{m:Mem}{ak aD:Env}{ao:aA}{eff:bY}{a:Act}{K:Act->World->Prop}{Q:Exit->Act->World->Prop}
  (ho:DO P (fun j=>(ops[j]?).bind (·.dst)) base nt anc o=some io) (cX:step1 sh cp cs io ak m.aj=some (aD,ao,eff)) (aq:Ok w0 m) (hr:iS m ak a.tmps) (fN:a.tmps.size=nt) (hK:Fv w0 m a nt aD ao K):
  if Region.wanted o (yielded ops a.tmps) then o.wp P a m.w K Q else K (a.put o.dst undef) m.w:=by
 have hio:io.dst=o.dst/\io.op=Iu P base o/\(∀d,o.dst=some d->d<nt)/\(match o.guard with|none=>io.guard=none|some (j,w)=>∃t,(ops[j]?).bind (·.dst)=some t/\io.guard=some (t,w)):=by
  unfold DO at ho;split at ho
  .rename_i hd;simp only[dE] at ho;obtain⟨g,hg,rfl⟩:=ho;refine⟨rfl,rfl,fun d he=>?_,?_⟩
   .rw[he] at hd
    simpa [aaH] using hd
   cases hgo:o.guard with
   |none=>rw[hgo] at hg;simp[VL] at hg;exact hg.symm
   |some q=>obtain⟨j,w⟩:=q;rw[hgo] at hg;simp only[VL,dE] at hg;obtain⟨t,ht,rfl⟩:=hg;exact⟨t,ht,rfl⟩
  cases ho
 obtain⟨h1,h2,h3,h4⟩:=hio;have hd:∀d,o.dst=some d->d<a.tmps.size:=by rw[fN];exact h3
 unfold step1 at cX;split at cX
 .cases cX
 .rename_i hw;cases cX;rw[ah3 hr h4 hw];simp only[dx,if_false];rw[h1] at hK;exact hK _ m aq (Ev.refl m) rfl rfl (Ra (Ev.refl m) hr (show bK m .undef undef from rfl) hd) (by rw[Rc,fN]) (put_defers _ _ _)
 rename_i hw;rw[ah3 hr h4 hw];simp only[if_true];rw[h2] at cX;unfold Iu at cX;cases zy:FN P base o with
 |none=>rw[zy] at cX;simp[bt] at cX
 |some p=>
  rw[zy] at cX;simp only[mV] at cX;split at cX
  .cases cX
  .rename_i v u r hp;split at cX
   case isFalse=>cases cX
   cases cX;obtain⟨x,m',anG,e2,e3,e4,e5,e6⟩:=aqK aq hr zy hp;rw[h1] at hK;have hk:=fun x (hx:bK m' v x)=>hK (a.put o.dst x) m' e2 e3 e4 e5 (Ra e3 hr hx hd) (by rw[Rc,fN]) (put_defers _ _ _);unfold Oper.wp;rcases anG with hd|⟨hd,rfl⟩
   .rw[hd,Oper.upon_value];exact hk x e6
   rw[hd,Oper.upon_skip];exact hk undef e6
  .rename_i f vs r s hp;by_cases Cx:∃s f as,p=.call s f as
   .obtain⟨s',f',as,rfl⟩:=Cx;obtain⟨c,fo,g1,g2,g3,g4⟩:=aac zy;simp only[bt] at hp;split at hp
    .rename_i g A B hfn;obtain⟨AV,BV,e1,e2,e3⟩:=acg hfn (eB g3 hr);split at hp
     .cases hp
     split at hp
     .rename_i ws rd l8;cases hp;split at cX
      .rename_i x hx;split at cX
       .rename_i v u hl;split at cX
        case isFalse=>cases cX
        cases cX;have Cv:Pw (bK m) (A.map .one++as.map (ev ak)++B.map .one) (AV++c.args.map a.eval++BV).toList:=by
         have:=((QS e2).append (Zs hr g4)).append (QS e3)
         simpa using this
        refine ah6 (ZT g1 g2 e1 (hP _ _ _ hx).1) (arb hP hG aq hx l8 Cv hl) ?_;rintro e w' ⟨val,m',rfl,rfl,q1,q2,q3,q4,q5⟩
        rw[h1] at hK;exact⟨val,rfl,hK _ m' q1 q2 q3 q4 (Ra q2 hr q5 hd) (by rw[Rc,fN]) (put_defers _ _ _)⟩
       cases cX
      cases cX
     cases hp
    cases hp
   exact((afH zy (fun s f as e=>Cx ⟨s,f,as,e⟩)).1 _ _ _ _ hp).elim
  rename_i f vs hp;by_cases Cx:∃s f as,p=.call s f as
  .obtain⟨s',f',as,rfl⟩:=Cx;obtain⟨c,fo,g1,g2,g3,g4⟩:=aac zy;simp only[bt] at hp;split at hp
   .rename_i g A B hfn;obtain⟨AV,BV,e1,e2,e3⟩:=acg hfn (eB g3 hr);split at hp
    .cases hp;split at cX
     case isFalse=>cases cX
     split at cX
     .rename_i v Im hx;cases cX;have Cv:Pw (bK m) (A.map .one++as.map (ev ak)++B.map .one) (AV++c.args.map a.eval++BV).toList:=by
       have:=((QS e2).append (Zs hr g4)).append (QS e3)
       simpa using this
      refine ah6 (ZT g1 g2 e1 (hS _ _ _ _ _ _ hx).1) ((hS _ _ _ _ _ _ hx).2 w0 m _ hG aq rfl Cv) ?_;rintro e w' ⟨val,m',rfl,rfl,q1,q2,q3,q4,q5⟩
      rw[h1] at hK;exact⟨val,rfl,hK _ m' q1 q2 q3 q4 (Ra q2 hr q5 hd) (by rw[Rc,fN]) (put_defers _ _ _)⟩
     cases cX
    split at hp<;>cases hp
   cases hp
  exact((afH zy (fun s f as e=>Cx ⟨s,f,as,e⟩)).2 _ _ hp).elim
end Go.Abs
namespace Go.Abs
variable {P:Program} {w0:World}
theorem Ta{dst anc:Nat->Option Nat}{base nt i:Nat}{o:Oper}{r:List Oper}{l:List bG}(h:wD P dst anc base nt i (o::r)=some l):
  ∃x xs,l=x::xs/\DO P dst ((base+i)*64) nt ((anc i).getD 0) o=some x/\wD P dst anc base nt (i+1) r=some xs:=by
 simp only[wD] at h;split at h
 .rename_i x xs h1 h2;cases h;exact⟨x,xs,rfl,h1,h2⟩
 cases h
section
variable {G:World->Prop} (hG:Good G w0) {cp:fH} {cs:jz} (hP:DF P G cp) (hS:Ft P G cs) {sh:Ctx}
include hG hP hS
theorem aqO{ops:Array Oper}{anc:Nat->Option Nat}{base nt:Nat}{Q:Exit->Act->World->Prop}:∀(r:List Oper) {l:List bG} {i:Nat} {ak aD:Env} {m:Mem} {ao:aA} {es:List bY} {a:Act},(∀j,ops[i+j]?=r[j]?)->wD P (fun j=>(ops[j]?).bind (·.dst)) anc base nt i r=some l->
  steps sh cp cs l ak m.aj=some (aD,ao,es)->Ok w0 m->iS m ak a.tmps->a.tmps.size=nt->Fv w0 m a nt aD ao (fun a' w'=>Q .normal a' w')->wpOps P ops Q (List.range' i r.length) a m.w:=by
 intro r
 induction r with
 |nil=>intro l i ak aD m ao es a _ hc cX aq hr fN hK;simp[wD] at hc;subst hc;simp only[steps,fD,kB] at cX;obtain⟨rfl,rfl,_⟩:=cX;simp only[ez,List.range'_zero,wpOps];exact hK a m aq (Ev.refl m) rfl rfl hr fN rfl
 |cons o r ih=>
  intro l i ak aD m ao es a Nh hc cX aq hr fN hK;obtain⟨x,xs,rfl,h1,h2⟩:=Ta hc;simp only[steps] at cX;split at cX
  .rename_i ik bQ e1 jX;split at cX
   .rename_i cZ bj es2 fp;cases cX;have ho:ops[i]?=some o:=by have:=Nh 0;simpa using this
    have key:=ahu (Q:=Q) (K:=wpOps P ops Q (List.range' (i+1) r.length)) hG hP hS h1 jX aq hr fN (fun a1 m1 k1 k2 k3 k4 k5 k6 k7=>by subst k4;refine ih (m:=m1) (fun j=>by have:=Nh (j+1);rw[show i+1+j=i+(j+1) by omega];simpa using this) h2 fp k1 k5 k6 ?_;intro a2 m2 p1 p2 p3 p4 p5 p6 p7;exact hK a2 m2 p1 (k2.trans p2) (p3.trans k3) p4 p5 p6 (p7.trans k7))
    simp only[dh,List.range'_succ,wpOps,ho];split at key
    .rename_i hw;rw[aF hw];exact .inl key
    rename_i hw;rw[ay hw];exact key
   cases cX
  cases cX
theorem ast{ops:Array Oper}{anc:Nat->Option Nat}{base nt id:Nat}{Q:Exit->Act->World->Prop}{l:List bG}{ak aD:Env}{m:Mem}{ao:aA}{es:List bY}{a:Act}(hc:wD P (fun j=>(ops[j]?).bind (·.dst)) anc base nt 0 ops.toList=some l)
  (cX:steps sh cp cs l ak m.aj=some (aD,ao,es)) (aq:Ok w0 m) (hr:iS m ak a.tmps) (fN:a.tmps.size=nt) (hK:Fv w0 m a nt aD ao (fun a' w'=>Q .normal a' w')):(Code.region id ops false).wp P Q a m.w:=by
 refine wp_region ?_;have:=aqO hG hP hS (sh:=sh) (ops:=ops) (Q:=Q) ops.toList (i:=0) (fun j=>af) hc cX aq hr fN hK;rw[aio]
 simpa using this
end
end Go.Abs
namespace Go.Abs
variable {P:Program} {w0:World}
theorem asa{α β:Type}(g:Array β->α->β):∀(l:List α) (acc:Array β),(l.foldl (fun acc o=>acc.push (g acc o)) acc).size=acc.size+l.length/\
  (∀j,j<acc.size->(l.foldl (fun acc o=>acc.push (g acc o)) acc)[j]?=acc[j]?)/\
  ∀j o,l[j]?=some o->∃pre:Array β,pre.size=acc.size+j/\(∀k,k<pre.size->(l.foldl (fun acc o=>acc.push (g acc o)) acc)[k]?=pre[k]?)/\(l.foldl (fun acc o=>acc.push (g acc o)) acc)[acc.size+j]?=some (g pre o):=by
 intro l
 induction l with
 |nil=>intro acc;exact⟨rfl,fun _ _=>rfl,fun j o h=>by simp at h⟩
 |cons x l ih=>
  intro acc;obtain⟨h1,h2,h3⟩:=ih (acc.push (g acc x));simp only[Ap];refine⟨by rw[h1];simp;omega,fun j hj=>?_,fun j o ho=>?_⟩
  .rw[h2 j (by simp;omega),R9,ay aa]
  cases j with
  |zero=>
   simp at ho;subst ho;refine⟨acc,aa,fun k hk=>?_,?_⟩
   .rw[h2 k (by simp;omega),R9,ay aa]
   rw[xw,h2 acc.size af,R9,aF rfl]
  |succ j=>obtain⟨pre,p1,p2,p3⟩:=h3 j o (by simpa using ho);refine⟨pre,by rw[p1];simp;omega,p2,?_⟩;rw[<- p3];simp only[Array.size_push];congr 1;omega
theorem aqP{α:Type}(f:α->Bool)(g:α->Nat)(h:α->Nat):∀(l:List α) (s j:Nat),(l.foldl (fun s e=>if f e then s|||g e|||h e else s) s).testBit j=true->s.testBit j=true\/ ∃e∈l,f e=true/\((g e).testBit j=true\/(h e).testBit j=true):=by
 intro l
 induction l with
 |nil=>intro s j hh;exact .inl hh
 |cons x l ih=>
  intro s j hh;simp only[Ap] at hh;rcases ih _ j hh with h1|⟨e,he,h2⟩
  .split at h1
   .rename_i hf;simp only[Nat.testBit_or,yJ] at h1;rcases h1 with (h1|h1)|h1
    .exact .inl h1
    .exact .inr ⟨x,af,hf,.inl h1⟩
    exact .inr ⟨x,af,hf,.inr h1⟩
   exact .inl h1
  exact .inr ⟨e,by simp[he],h2⟩
theorem ajR{ops:Array Oper}(Ei:HY ops=true){i:Nat}{o:Oper}(ho:ops[i]?=some o){j:Nat}(hj:(((Region.before ops)[i]?).getD 0).testBit j=true):
  ∃e∈o.after,Region.binds .any e=true/\e.on<i/\(j=e.on\/(((Region.before ops)[e.on]?).getD 0).testBit j=true):=by
 unfold Region.before at hj ⊢;rw[<- aia] at hj ⊢;obtain⟨h1,h2,h3⟩:=asa (fun(acc:Array Nat) (o:Oper)=>o.after.foldl (fun s e=>if Region.binds .any e then s|||2 ^ e.on|||acc.getD e.on 0 else s) 0) ops.toList #[];obtain⟨pre,p1,p2,p3⟩:=h3 i o (by simpa using ho);simp only[Array.size_empty,iQ] at p1 p3;rw[p3] at hj;simp only[mV] at hj;rw[<- aia] at hj;rcases aqP (fun e=>Region.binds .any e) (fun e=>2 ^ e.on) (fun e=>pre.getD e.on 0) _ _ _ hj with h|⟨e,he,hb,Jc⟩
 .simp at h
 have au:i<ops.size:=(R8.1 ho).1;have Ng:e.on<i:=by unfold HY at Ei;have:=jd.1 Ei i (by simpa using au);rw[ho] at this;rw[jd] at this;have:=this e (by simpa using he);simp only[hb,BQ,BP,pR] at this;exact this
 refine⟨e,by simpa using he,hb,Ng,?_⟩;rcases Jc with Jc|Jc
 .left;rw[Nat.testBit_two_pow] at Jc;have h9:e.on=j:=by simpa using Jc
  exact h9.symm
 right;rw[p2 e.on aa]
 simpa [Dv] using Jc
theorem aad{dst:Nat->Option Nat}{base nt anc:Nat}{o:Oper}{io:bG}(h:DO P dst base nt anc o=some io):io.anc=anc:=by
 unfold DO at h;split at h
 .simp only[dE] at h;obtain⟨g,_,rfl⟩:=h;rfl
 cases h
structure aiB (P:Program) (ops:Array Oper) (base nt:Nat) (rem:List It) (listed:Array Bool):Prop where
 pair:rem.Pairwise fun p q=>p.i<q.i/\(q.io.anc.testBit p.i=true\/OT p q)
 comp:∀p∈rem,∃o,ops[p.i]?=some o/\DO P (fun j=>(ops[j]?).bind (·.dst)) ((base+p.i)*64) nt (((Region.before ops)[p.i]?).getD 0) o=some p.io
 size:listed.size=ops.size
 free:∀i:Nat,listed[i]?=some false↔ ∃p∈rem,p.i=i
 closed:∀i:Nat,listed[i]?=some true->∀j:Nat,(((Region.before ops)[i]?).getD 0).testBit j=true->listed[j]?=some true
theorem XF{ops:Array Oper}{listed:Array Bool}{i:Nat}:i∈Region.ready .any ops listed↔i<ops.size/\listed.getD i true=false/\ ∃o,ops[i]?=some o/\ ∀e∈o.after,Region.binds .any e=true->listed.getD e.on false=true:=by
 unfold Region.ready;simp only[uZ,gA,cN,mv];constructor
 .rintro ⟨h1,h2,h3⟩
  refine⟨h1,h2,ops[i],by simp[h1],fun e he hb=>?_⟩;have ho:ops[i]?=some ops[i]:=by simp[h1]
  rw[ho] at h3;simp only[mz,mV,Array.all_eq_true'] at h3;have:=h3 e he;rw[hb] at this
  simpa using this
 rintro ⟨h1,h2,o,ho,h3⟩
 refine⟨h1,h2,?_⟩;rw[ho];simp only[mz,mV,Array.all_eq_true'];intro e he;cases hb:Region.binds .any e with
 |false=>rfl
 |true=>simp[h3 e he hb]
theorem acI{l:Array Bool}{i:Nat}(h:l.getD i true=false):l[i]?=some false:=by
 rw[Dv] at h;cases he:l[i]? with
 |none=>rw[he] at h;simp at h
 |some b=>rw[he] at h;simp at h;rw[h]
theorem am6{l:Array Bool}{i:Nat}(h:l.getD i false=true):l[i]?=some true:=by
 rw[Dv] at h;cases he:l[i]? with
 |none=>rw[he] at h;simp at h
 |some b=>rw[he] at h;simp at h;rw[h]
section
variable {G:World->Prop} (hG:Good G w0) {cp:fH} {cs:jz} (hP:DF P G cp) (hS:Ft P G cs) (hL:Aw cs) {sh:Ctx}
include hG hP hS hL
theorem aja{ops:Array Oper}(Ei:HY ops=true){base nt:Nat}{Q:Exit->Act->World->Prop}{aD:Env}{ao:aA}:∀(fuel:Nat) {rem:List It} {listed:Array Bool} {ak:Env} {m:Mem} {a:Act},aiB P ops base nt rem listed->rem.length<=fuel->
  steps sh cp cs (rem.map (·.io)) ak m.aj=some (aD,ao,rem.map (·.e))->Ok w0 m->iS m ak a.tmps->a.tmps.size=nt->Fv w0 m a nt aD ao (fun a' w'=>Q .normal a' w')->wpAny P .any ops Q fuel listed a m.w:=by
 intro fuel
 induction fuel with
 |zero=>
  intro rem listed ak m a hl hlen cX aq hr fN hK;have aoo:rem=[]:=by
   cases rem with
   |nil=>rfl
   |cons _ _=>simp at hlen
  subst aoo;simp only[j7,steps,fD,kB] at cX;obtain⟨rfl,rfl,_⟩:=cX;refine⟨?_,hK a m aq (Ev.refl m) rfl rfl hr fN rfl⟩;refine avI.2 fun i hi=>?_;obtain⟨_,h2,_⟩:=XF.1 hi;obtain⟨p,hp,_⟩:=(hl.free i).1 (acI h2);simp at hp
 |succ fuel ih=>
  intro rem listed ak m a hl hlen cX aq hr fN hK;refine⟨fun an5=>?_,fun i hi=>?_⟩
  .cases rem with
   |nil=>simp only[j7,steps,fD,kB] at cX;obtain⟨rfl,rfl,_⟩:=cX;exact hK a m aq (Ev.refl m) rfl rfl hr fN rfl
   |cons p rest=>
    exfalso;obtain⟨o,ho,_⟩:=hl.comp p af;have au:p.i<ops.size:=(R8.1 ho).1;have o9:p.i∈Region.ready .any ops listed:=by
     refine XF.2 ⟨au,?_,o,ho,fun e he hb=>?_⟩
     .rw[Dv,(hl.free p.i).2 ⟨p,af,rfl⟩];rfl
     have Ng:e.on<p.i:=by unfold HY at Ei;have:=jd.1 Ei p.i (by simpa using au);rw[ho] at this;rw[jd] at this;have:=this e (by simpa using he);simp only[hb,BQ,BP,pR] at this;exact this
     have hs:e.on<listed.size:=by rw[hl.size];omega
     rw[Dv];cases bn:listed[e.on] with
     |true=>simp[hs,bn]
     |false=>
      exfalso;obtain⟨q,hq,EA⟩:=(hl.free e.on).1 (by simp[hs,bn]);rcases cM.1 hq with rfl|hq
      .omega
      have:=((ui.1 hl.pair).1 q hq).1;omega
    rw[an5] at o9;simp at o9
  obtain⟨h1,h2,o,ho,h3⟩:=XF.1 hi;obtain⟨p,hp,rfl⟩:=(hl.free i).1 (acI h2);obtain⟨l1,l2,rfl⟩:=List.append_of_mem hp;obtain⟨o',kQ,zy⟩:=hl.comp p hp;rw[ho] at kQ;cases kQ;have acU:∀j:Nat,p.io.anc.testBit j=true->listed[j]?=some true:=by
   intro j hj;rw[aad zy] at hj;obtain⟨e,he,hb,_,Bb⟩:=ajR Ei ho hj;have Ng:=am6 (h3 e he hb);rcases Bb with rfl|Bb
   .exact Ng
   exact hl.closed _ Ng j Bb
  have Jw:=HJ.1 hl.pair;have anP:∀x∈l1,OT x p:=by
   intro x hx;rcases(Jw.2.2 x hx p af).2 with h|h
   .have:=acU _ h;rw[(hl.free x.i).2 ⟨x,by simp[hx],rfl⟩] at this;cases this
   exact h
  obtain⟨ik,bQ,jX,fp⟩:=auS hL cX anP;have key:=ahu (Q:=Q) (K:=wpAny P .any ops Q fuel (listed.setIfInBounds p.i true)) hG hP hS zy jX aq hr fN (fun a1 m1 k1 k2 k3 k4 k5 k6 k7=>by
   subst k4;have au:p.i<listed.size:=by rw[hl.size];exact h1
   refine ih (rem:=l1++l2) ⟨?_,fun q hq=>hl.comp q (by rcases eD.1 hq with h|h<;>simp[h]),by simp[hl.size],fun k=>?_,fun k hk j hj=>?_⟩ (by simp at hlen ⊢;omega) fp k1 k5 k6 ?_
   .refine HJ.2 ⟨Jw.1,(ui.1 Jw.2.1).2,fun x hx y hy=>Jw.2.2 x hx y (by simp[hy])⟩
   .rw[Sa];by_cases hk:p.i=k
    .subst hk;rw[aF rfl,aF au];constructor
     .intro h;cases h
     rintro ⟨q,hq,EA⟩
     rcases eD.1 hq with h|h
     .have:=(Jw.2.2 q h p af).1;omega
     have:=((ui.1 Jw.2.1).1 q h).1;omega
    rw[ay hk,hl.free k];constructor
    .rintro ⟨q,hq,EA⟩
     rcases eD.1 hq with h|h
     .exact⟨q,by simp[h],EA⟩
     rcases cM.1 h with rfl|h
     .exact(hk EA).elim
     exact⟨q,by simp[h],EA⟩
    rintro ⟨q,hq,EA⟩
    rcases eD.1 hq with h|h
    .exact⟨q,by simp[h],EA⟩
    exact⟨q,by simp[h],EA⟩
   .have vF:∀j:Nat,listed[j]?=some true->(listed.setIfInBounds p.i true)[j]?=some true:=by
     intro j hj;rw[Sa];split
     .first
       |rfl
       |(rename_i e;rw[aF au])
     exact hj
    by_cases jk:p.i=k
    .subst jk;refine vF j (acU j ?_);rw[aad zy];exact hj
    rw[Sa,ay jk] at hk;exact vF j (hl.closed k hk j hj)
   intro a2 m2 p1 p2 p3 p4 p5 p6 p7;exact hK a2 m2 p1 (k2.trans p2) (p3.trans k3) p4 p5 p6 (p7.trans k7))
  unfold wpOp;rw[ho];simp only;split at key
  .rename_i hw;rw[aF hw];exact .inl key
  rename_i hw;rw[ay hw];exact key
end
def sX:Nat->List bG->List bY->List It
 |i,x::xs,e::es=>⟨i,x,e⟩::sX (i+1) xs es
 |_,_,_=>[]
theorem aqh:∀ {xs:List bG} {es:List bY} (i:Nat),es.length=xs.length->(sX i xs es).map (·.io)=xs/\(sX i xs es).map (·.e)=es:=by
 intro xs
 induction xs with
 |nil=>intro es i h;cases es with
  |nil=>exact⟨rfl,rfl⟩
  |cons _ _=>simp at h
 |cons x xs ih=>intro es i h;cases es with
  |nil=>simp at h
  |cons e es=>obtain⟨h1,h2⟩:=ih (es:=es) (i+1) (by simpa using h);exact⟨by simp[sX,h1],by simp[sX,h2]⟩
theorem amG{o:bG}:∀ {past:List bG} {j:Nat},PA o j past=true->∀k x,past[k]?=some x->o.anc.testBit (j+k)=true\/F1 x o=true:=by
 intro past
 induction past with
 |nil=>intro j _ k x h;simp at h
 |cons y past ih=>
  intro j h k x hk;simp only[PA,cN,yJ] at h;cases k with
  |zero=>simp at hk;subst hk;exact h.1
  |succ k=>have:=ih h.2 k x (by simpa using hk);rw[show j+(k+1)=j+1+k by omega];exact this
theorem aqG{anc:Nat}{e:bY}:∀ {past:List bY} {j:Nat},QP anc e j past=true->∀k x,past[k]?=some x->anc.testBit (j+k)=true\/FK x e=false:=by
 intro past
 induction past with
 |nil=>intro j _ k x h;simp at h
 |cons y past ih=>
  intro j h k x hk;simp only[QP,cN,yJ,mv] at h;cases k with
  |zero=>simp at hk;subst hk;exact h.1
  |succ k=>have:=ih h.2 k x (by simpa using hk);rw[show j+(k+1)=j+1+k by omega];exact this
theorem aqi:∀ {xs:List bG} {es:List bY} {past:List bG} {pe:List bY},es.length=xs.length->pe.length=past.length->Mf xs past=true->sZ xs pe es=true->
  (∀(q:It),q∈sX past.length xs es->∀(k:Nat) (x:bG) (e:bY),past[k]?=some x->pe[k]?=some e->q.io.anc.testBit k=true\/(F1 x q.io=true/\FK e q.e=false))/\
  (∀q∈sX past.length xs es,past.length<=q.i)/\(sX past.length xs es).Pairwise fun p q=>p.i<q.i/\(q.io.anc.testBit p.i=true\/OT p q):=by
 intro xs
 induction xs with
 |nil=>
  intro es past pe _ _ _ _;have:sX past.length [] es=[]:=by cases es<;>rfl
  rw[this];exact⟨fun q h=>by simp at h,fun q h=>by simp at h,.nil⟩
 |cons x xs ih=>
  intro es past pe hl hp hf hd;cases es with
  |nil=>simp at hl
  |cons e es=>
   simp only[Mf,cN] at hf;simp only[sZ,cN] at hd;obtain⟨i1,i2,i3⟩:=ih (es:=es) (past:=past++[x]) (pe:=pe++[e]) (by simpa using hl) (by simp[hp]) hf.2 hd.2;have hlen:(past++[x]).length=past.length+1:=af;rw[hlen] at i1 i2 i3;simp only[sX];refine⟨?_,?_,ui.2 ⟨?_,i3⟩⟩
   .intro q hq k y f hy hf';rcases cM.1 hq with rfl|hq
    .have h1:=amG hf.1 k y hy;have h2:=aqG hd.1 k f hf';rw[iQ] at h1 h2;rcases h1 with h1|h1
     .exact .inl h1
     rcases h2 with h2|h2
     .exact .inl h2
     exact .inr ⟨h1,h2⟩
    have hk:k<past.length:=(aW.1 hy).1;exact i1 q hq k y f (by rw[uY hk];exact hy) (by rw[uY aa];exact hf')
   .intro q hq;rcases cM.1 hq with rfl|hq
    .exact bJ _
    have:=i2 q hq;omega
   intro q hq;refine⟨by have:=i2 q hq;simp only;omega,?_⟩;exact i1 q hq past.length x e af (by rw[<- hp];simp)
theorem aqg{ops:Array Oper}{anc:Nat->Option Nat}{dst:Nat->Option Nat}{base nt:Nat}:∀ {r:List Oper} {xs:List bG} {es:List bY} {i:Nat},wD P dst anc base nt i r=some xs->es.length=xs.length->(∀j,ops[i+j]?=r[j]?)->
  (∀p∈sX i xs es,∃o,ops[p.i]?=some o/\DO P dst ((base+p.i)*64) nt ((anc p.i).getD 0) o=some p.io)/\ ∀k,i<=k->k<i+r.length->∃p∈sX i xs es,p.i=k:=by
 intro r
 induction r with
 |nil=>
  intro xs es i h _ _;simp only[wD,fD] at h;subst h;have:sX i [] es=[]:=by cases es<;>rfl
  rw[this];exact⟨fun p h=>by simp at h,fun k h1 h2=>by simp at h2;omega⟩
 |cons o r ih=>
  intro xs es i h hl Nh;obtain⟨x,xs',rfl,h1,h2⟩:=Ta h;cases es with
  |nil=>simp at hl
  |cons e es=>
   obtain⟨i1,i2⟩:=ih (es:=es) h2 (by simpa using hl) (fun j=>by have:=Nh (j+1);rw[show i+1+j=i+(j+1) by omega];simpa using this);refine⟨fun p hp=>?_,fun k cP jk=>?_⟩
   .rcases cM.1 hp with rfl|hp
    .exact⟨o,by have:=Nh 0;simpa using this,h1⟩
    exact i1 p hp
   by_cases hk:k=i
   .exact⟨⟨i,x,e⟩,by simp[sX],hk.symm⟩
   obtain⟨p,hp,gD⟩:=i2 k aa (by simp at jk;omega);exact⟨p,by simp[sX,hp],gD⟩
theorem auu{sh:Ctx}{cp:fH}{cs:jz}:∀ {xs:List bG} {ak aD:Env} {aj ao:aA} {es:List bY},steps sh cp cs xs ak aj=some (aD,ao,es)->es.length=xs.length:=by
 intro xs
 induction xs with
 |nil=>intro ak aD aj ao es h;simp only[steps,fD,kB] at h;rw[<- h.2.2];rfl
 |cons x xs ih=>
  intro ak aD aj ao es h;simp only[steps] at h;split at h
  .split at h
   .rename_i h2;cases h;simp[ih h2]
   cases h
  cases h
theorem akJ{dst anc:Nat->Option Nat}{base nt:Nat}:∀ {r:List Oper} {xs:List bG} {i:Nat},wD P dst anc base nt i r=some xs->xs.length=r.length:=by
 intro r
 induction r with
 |nil=>intro xs i h;simp only[wD,fD] at h;subst h;rfl
 |cons o r ih=>intro xs i h;obtain⟨x,xs',rfl,_,h2⟩:=Ta h;simp[ih h2]
section
variable {G:World->Prop} (hG:Good G w0) {cp:fH} {cs:jz} (hP:DF P G cp) (hS:Ft P G cs) (hL:Aw cs) {sh:Ctx}
include hG hP hS hL
theorem alu(zH:P.follows .mixedOrders=true){ops:Array Oper}{base nt id:Nat}{Q:Exit->Act->World->Prop}{l:List bG}{ak aD:Env}{m:Mem}{ao:aA}{es:List bY}{a:Act}(hc:wD P (fun j=>(ops[j]?).bind (·.dst)) (fun i=>(Region.before ops)[i]?) base nt 0 ops.toList=some l)
  (Ei:HY ops=true) (hf:Mf l []=true) (cX:steps sh cp cs l ak m.aj=some (aD,ao,es)) (hd:sZ l [] es=true) (aq:Ok w0 m) (hr:iS m ak a.tmps) (fN:a.tmps.size=nt) (hK:Fv w0 m a nt aD ao (fun a' w'=>Q .normal a' w')):(Code.region id ops true).wp P Q a m.w:=by
 refine wp_region_any zH ?_;have hlen:=auu cX;have sK:l.length=ops.size:=by have:=akJ hc;simpa using this
 obtain⟨g1,g2⟩:=aqh 0 hlen;obtain⟨_,_,hp⟩:=aqi (past:=[]) (pe:=[]) hlen rfl hf hd;obtain⟨c1,c2⟩:=aqg (ops:=ops) hc hlen (fun j=>af);have nk:Ok w0 (m.later m.w.drew fun _=>False):=NH aq (fy.drew _) fun _ h=>h.elim;have vp:Ev m (m.later m.w.drew fun _=>False):=JQ (fy.drew _) fun _ h=>h.elim;have kO:(m.later m.w.drew fun _=>False).fr=m.fr:=by funext c;simp[Mem.later]
 refine aja (m:=m.later m.w.drew fun _=>False) hG hP hS hL Ei ops.size (rem:=sX 0 l es) (base:=base) ⟨hp,c1,af,fun i=>?_,fun i hi=>?_⟩ ?_ (by rw[g1,g2];exact cX) nk (hr.ev vp) fN ?_
 .constructor
  .intro h;have hi:i<ops.size:=by
    have:=(R8.1 h).1
    simpa using this
   exact c2 i (bl _) (by simpa using hi)
  rintro ⟨p,hp,rfl⟩
  obtain⟨o,ho,_⟩:=c1 p hp;have hi:p.i<ops.size:=(R8.1 ho).1;simp[hi]
 .rw[Array.getElem?_replicate] at hi;split at hi<;>simp at hi
 .have:(sX 0 l es).length=l.length:=by have:=congrArg List.length g1;simpa using this
  omega
 intro a2 m2 p1 p2 p3 p4 p5 p6 p7;exact hK a2 m2 p1 (vp.trans p2) (p3.trans kO) p4 p5 p6 p7
end
end Go.Abs
namespace Go.Abs
variable {P:Program} {w0:World}
def toE:lG->Exit
 | .normal=>.normal
 | .exit i=>.exit i
 | .ret=>.ret
section
variable {G:World->Prop} (hG:Good G w0) {cp:fH} {cs:jz} (hP:DF P G cp) (hS:Ft P G cs) (hL:Aw cs) (zH:P.follows .mixedOrders=true) {sh:Ctx}
include hG hP hS hL zH
theorem al6{n f nt:Nat}:∀(c:Code) {ic:aJ} {ak aD:Env} {m:Mem} {ao:aA} {e:lG} {a:Act} {Q:Exit->Act->World->Prop},oQ P f nt c=some ic->exec sh cp cs n ic ak m.aj=some (e,aD,ao)->Ok w0 m->iS m ak a.tmps->a.tmps.size=nt->
  Fv w0 m a nt aD ao (fun a' w'=>Q (toE e) a' w')->c.wp P Q a m.w:=by
 intro c
 induction c with
 |skip=>intro ic ak aD m ao e a Q hc hx aq hr fN hK;simp only[oQ,fD] at hc;subst hc;simp only[exec,fD,kB] at hx;obtain⟨rfl,rfl,rfl⟩:=hx;exact wp_skip (hK a m aq (Ev.refl m) rfl rfl hr fN rfl)
 |label l=>intro ic ak aD m ao e a Q hc hx aq hr fN hK;simp only[oQ,fD] at hc;subst hc;simp only[exec,fD,kB] at hx;obtain⟨rfl,rfl,rfl⟩:=hx;exact wp_label (hK a m aq (Ev.refl m) rfl rfl hr fN rfl)
 |ret=>intro ic ak aD m ao e a Q hc hx aq hr fN hK;simp only[oQ,fD] at hc;subst hc;simp only[exec,fD,kB] at hx;obtain⟨rfl,rfl,rfl⟩:=hx;exact wp_ret (hK a m aq (Ev.refl m) rfl rfl hr fN rfl)
 |exit id=>intro ic ak aD m ao e a Q hc hx aq hr fN hK;simp only[oQ,fD] at hc;subst hc;simp only[exec,fD,kB] at hx;obtain⟨rfl,rfl,rfl⟩:=hx;exact wp_exit (hK a m aq (Ev.refl m) rfl rfl hr fN rfl)
 |region id ops draw=>
  intro ic ak aD m ao e a Q hc hx aq hr fN hK;simp only[oQ] at hc;split at hc
  .rename_i xs Ny;cases draw with
   |false=>
    simp only[dx,if_false,fD] at hc;subst hc;simp only[exec] at hx;split at hx
    .rename_i e1 b1 es cX;simp only[dx,if_false,fD,kB] at hx;obtain⟨rfl,rfl,rfl⟩:=hx;exact ast hG hP hS Ny cX aq hr fN hK
    cases hx
   |true=>
    simp only[if_true] at hc Ny;split at hc
    .rename_i AZ;simp only[cN] at AZ;cases hc;simp only[exec] at hx;split at hx
     .rename_i e1 b1 es cX;simp only[if_true] at hx;split at hx
      .rename_i hd;cases hx;exact alu hG hP hS hL zH Ny AZ.1 AZ.2 cX hd aq hr fN hK
      cases hx
     cases hx
    cases hc
  cases hc
 |seq x y ihx ihy=>
  intro ic ak aD m ao e a Q hc hx aq hr fN hK;simp only[oQ] at hc;split at hc
  .rename_i ix iy h1 h2;cases hc;simp only[exec] at hx;refine wp_seq ?_;split at hx
   .rename_i ik bQ sT;refine ihx h1 sT aq hr fN ?_;intro a1 m1 k1 k2 k3 k4 k5 k6 k7;subst k4;refine ihy h2 hx k1 k5 k6 ?_;intro a2 m2 p1 p2 p3 p4 p5 p6 p7;exact hK a2 m2 p1 (k2.trans p2) (p3.trans k3) p4 p5 p6 (p7.trans k7)
   rename_i aI;refine ihx h1 hx aq hr fN ?_;intro a1 m1 k1 k2 k3 k4 k5 k6 k7;have:=hK a1 m1 k1 k2 k3 k4 k5 k6 k7;cases e with
   |normal=>exact(aI aD ao hx).elim
   |exit i=>exact this
   |ret=>exact this
  cases hc
 |cond x p q ihp ihq=>
  intro ic ak aD m ao e a Q hc hx aq hr fN hK;simp only[oQ] at hc;split at hc
  .rename_i c' ip iq h1 h2 h3;cases hc;simp only[exec] at hx;split at hx
   .rename_i t ht;have hv:=eB h1 hr;rw[ht] at hv;refine wp_cond (EI hv) ?_;cases t with
    |true=>simp only[if_true] at hx ⊢;exact ihp h2 hx aq hr fN hK
    |false=>simp only[dx,if_false] at hx ⊢;exact ihq h3 hx aq hr fN hK
   cases hx
  cases hc
 |block id c ih=>
  intro ic ak aD m ao e a Q hc hx aq hr fN hK;simp only[oQ,dE] at hc;obtain⟨ic',h1,rfl⟩:=hc;simp only[exec] at hx;refine wp_block ?_;split at hx
  .rename_i i ik bQ sT;refine ih h1 sT aq hr fN ?_;intro a1 m1 k1 k2 k3 k4 k5 k6 k7;simp only[toE,Exit.inBlock];split at hx
   .rename_i hi;cases hx;rw[aF hi];exact hK a1 m1 k1 k2 k3 k4 k5 k6 k7
   rename_i hi;cases hx;rw[ay hi];exact hK a1 m1 k1 k2 k3 k4 k5 k6 k7
  rename_i aI;refine ih h1 hx aq hr fN ?_;intro a1 m1 k1 k2 k3 k4 k5 k6 k7;have:=hK a1 m1 k1 k2 k3 k4 k5 k6 k7;cases e with
  |normal=>exact this
  |exit i=>exact(aI i aD ao hx).elim
  |ret=>exact this
 |loop c ih=>
  intro ic ak aD m ao e a Q hc hx aq hr fN hK;simp only[oQ,dE] at hc;obtain⟨ic',h1,rfl⟩:=hc;simp only[exec] at hx;refine wp_loop_rounds n ?_;have key:∀(k:Nat) {ak:Env} {m:Mem} {a:Act},iter (exec sh cp cs n ic') k ak m.aj=some (e,aD,ao)->Ok w0 m->iS m ak a.tmps->a.tmps.size=nt->Fv w0 m a nt aD ao (fun a' w'=>Q (toE e) a' w')->Code.rounds P c Q k a m.w:=by
   intro k
   induction k with
   |zero=>intro ak m a hx;simp[iter] at hx
   |succ k ihk=>
    intro ak m a hx aq hr fN hK;rw[rounds_succ];simp only[iter] at hx;split at hx
    .rename_i ik bQ sT;refine ih h1 sT aq hr fN ?_;intro a1 m1 k1 k2 k3 k4 k5 k6 k7;subst k4;refine ihk hx k1 k5 k6 ?_;intro a2 m2 p1 p2 p3 p4 p5 p6 p7;exact hK a2 m2 p1 (k2.trans p2) (p3.trans k3) p4 p5 p6 (p7.trans k7)
    rename_i aI;refine ih h1 hx aq hr fN ?_;intro a1 m1 k1 k2 k3 k4 k5 k6 k7;have:=hK a1 m1 k1 k2 k3 k4 k5 k6 k7;cases e with
    |normal=>exact(aI aD ao hx).elim
    |exit i=>exact this
    |ret=>exact this
  exact key n hx aq hr fN hK
 |scope c ih=>intro ic ak aD m ao e a Q hc hx aq hr fN hK;simp only[oQ] at hc;refine wp_scope_straight ?_;refine ih hc hx aq hr fN ?_;intro a1 m1 k1 k2 k3 k4 k5 k6 k7;have:=hK a1 m1 k1 k2 k3 k4 k5 k6 k7;cases e<;>exact this
 |_=>intro ic ak aD m ao e a Q hc hx;simp only[oQ,fD] at hc;subst hc;simp[exec] at hx
end
end Go.Abs
namespace Go.Abs
variable {P:Program} {w0:World}
section
variable{m:Mem}
theorem auE{k:Option Nat}{cs:List C}{v:V}{u:Value}(h:pO k cs=some v)(hr:bK m v u):nH m v u:=by
 unfold pO at h;split at h
 .split at h
  .cases h;exact hr
  cases h
 split at h
 .cases h;exact hr
 cases h
theorem aqy{x v:V}{u:Value}(h:QL x=some v)(hr:bK m x u):nH m v u:=by cases x<;>simp only[QL,fD,reduceCtorEq] at h<;>subst h<;>exact hr
theorem afd{α β:Type}{f:α->Sem β}{x:α}{xs:List α}{y:β}{ys:List β}{w:World}(h1:(f x).run P w=.ok y w)(h2:(xs.mapM f).run P w=.ok ys w):((x::xs).mapM f).run P w=.ok (y::ys) w:=by simp only[List.mapM_cons,Sem.run_bind,h1,h2,Result.andThen_ok,Sem.run_pure]
theorem asA{al:Al}(aq:Ok w0 m){ak:Env}{tmps:Array Value}(hr:iS m ak tmps):∀ {rs:List ResultVar} {l:List (Nat×Option (Option Nat))} {vs:List V},BB P rs=some l->oF al ak m.aj l=some vs->
  ∃ys,(rs.mapM (fun| .tmp t=>pure (tmps.getD t undef)| .cell a t=>do loadVar t (<- asAddr (tmps.getD a undef)):ResultVar->Sem Value)).run P m.w=.ok ys m.w/\Pw (nH m) vs ys:=by
 intro rs
 induction rs with
 |nil=>intro l vs h1 h2;simp only[BB,fD] at h1;subst h1;simp only[oF,fD] at h2;subst h2;exact⟨[],by simp[Sem.run_pure],rfl,fun j x u p=>by simp at p⟩
 |cons r rs ih=>
  intro l vs h1 h2;have cons:∀ {x:V} {xs:List V} {y:Value} {ys:List Value},nH m x y->Pw (nH m) xs ys->Pw (nH m) (x::xs) (y::ys):=by
   intro x xs y ys p q;refine⟨by simp[q.1],fun j z u a b=>?_⟩;cases j with
   |zero=>simp at a b;subst a b;exact p
   |succ j=>exact q.2 j z u (by simpa using a) (by simpa using b)
  cases r with
  |tmp t=>
   simp only[BB,dE] at h1;obtain⟨l',h3,rfl⟩:=h1;simp only[oF] at h2;split at h2
   .rename_i v q e1 e2;cases h2;obtain⟨ys,g1,g2⟩:=ih h3 e2;exact⟨_::ys,afd (by simp[Sem.run_pure]) g1,cons (aqy e1 (hr t)) g2⟩
   cases h2
  |cell a t=>
   simp only[BB] at h1;split at h1
   .rename_i k q e1 e2;cases h1;simp only[oF] at h2;split at h2
    .rename_i cs rd ws e3 e4;split at h2
     case isFalse=>cases h2
     simp only[dE] at h2;obtain⟨v,hv,rfl⟩:=h2;obtain⟨ys,g1,g2⟩:=ih e2 e4;obtain⟨ad,y,p1,p2,p3⟩:=aeW e1 (agt aq e3 (hr a)) hv;exact⟨y::ys,afd (by simp[p1,asAddr,p2]) g1,cons (auE hv p3) g2⟩
    cases h2
   cases h1
theorem asB{al:Al}(aq:Ok w0 m){ak:Env}{tmps:Array Value}(hr:iS m ak tmps){fn:Func}{l:List (Nat×Option (Option Nat))}{vs:List V}(h1:BB P fn.results.toList=some l)(h2:oF al ak m.aj l=some vs):
  ∃y,(results fn tmps).run P m.w=.ok y m.w/\bK m (Ah vs) y:=by
 obtain⟨ys,g1,g2⟩:=asA aq hr h1 h2;have jW:(results fn tmps).run P m.w=.ok (if h:ys.toArray.size=1 then ys.toArray[0] else .tuple ys.toArray) m.w:=by
  unfold results;simp only[Array.mapM_eq_mapM_toList,map_eq_pure_bind,Sem.run_bind,Result.andThen_ok,Sem.run_pure,bind_assoc,pure_bind]
  erw[g1]
  simp only[Result.andThen_ok,Sem.run_pure]
 refine⟨_,jW,?_⟩
 match vs,ys,g2 with
 |[v],[y],g2=>exact bK.of1 (g2.2 0 v y rfl rfl)
 |[],[],g2=>exact⟨_,rfl,rfl,fun j x u p=>by simp at p⟩
 |v::v'::vs,y::y'::ys,g2=>refine⟨_,rfl,by simpa using g2.1,fun j x u p q=>g2.2 j x u p (by simpa using q)⟩
 |[],y::ys,g2=>exact absurd g2.1 af
 |v::vs,[],g2=>exact absurd g2.1 af
 |[v],y::y'::ys,g2=>exact absurd g2.1 af
 |v::v'::vs,[y],g2=>exact absurd g2.1 af
theorem aab{f:Nat}{fn:aV}(h:Ch P f=some fn):∃kf c,P.funcs[f]?=some kf/\kf.body=some c/\(kf.name== "runtime.NumGoroutine")=false/\oQ P f kf.ntmps c=some fn.body/\BB P kf.results.toList=some fn.results/\fn.ntmps=kf.ntmps:=by
 unfold Ch at h;split at h
 .cases h
 rename_i kf hf;split at h
 .cases h
 rename_i c hc;split at h
 .cases h
 rename_i hn;split at h
 .rename_i b r h1 h2;cases h;exact⟨kf,c,hf,hc,by simpa using hn,h1,h2,rfl⟩
 cases h
def YO(S:Sys)(G:World->Prop):Prop:=∀f vs r,S.prim f vs=some (some r)->Enters S.P f/\ ∀(w:World) (O:Nat->Prop) (args:Array Value),Good G w->(∀c,O c->c<w.heap.size)->Pw (r4 w O) vs args.toList->Calls S.P f args w (u7 w O r)
def aiF(S:Sys)(G:World->Prop):Prop:=∀f vs al aj v ao,S.trig f vs=true->(S.primS f vs al aj).map (fun r=>(r.1,app r.2 aj))=some (v,ao)->
 (Enters S.P f/\ ∀(w0:World) (m:Mem) (args:Array Value),Good G w0->Ok w0 m->m.aj=aj->Pw (bK m) vs args.toList->Calls S.P f args m.w (HU w0 m v ao))/\
 (∀id,al.ok id=false->ao id=aj id)/\
 ∀bj,(∀id,al.ok id=true->bj id=aj id)->∃lT,(S.primS f vs al bj).map (fun r=>(r.1,app r.2 bj))=some (v,lT)/\ ∀id,lT id=if al.ok id then ao id else bj id
structure HW (S:Sys) (G:World->Prop):Prop where
 follow:S.P.follows .mixedOrders=true
 fns:∀f fn,S.fns f=some fn->Ch S.P f=some fn
 prim:YO S G
 primS:aiF S G
theorem aum{vs:List V}{args:Array Value}{nt:Nat}(h:Pw (bK m) vs args.toList)(hl:vs.length<=nt):iS m (rM vs) (args++Array.replicate (nt-args.size) undef)/\(args++Array.replicate (nt-args.size) undef).size=nt:=by
 have hs:args.size=vs.length:=by simpa using h.1
 constructor
 .intro t;by_cases ht:t<vs.length
  .have h1:rM vs t=vs[t]:=by simp[rM,List.getD,ht]
   have h2:(args++Array.replicate (nt-args.size) undef).getD t undef=args[t]:=by simp[Dv,aib,hs,ht]
   rw[h1,h2];exact h.2 t _ _ (by simp[ht]) (by simp[hs,ht])
  have h1:rM vs t=.undef:=by simp[rM,List.getD,ti (aiw ht)]
  have h2:(args++Array.replicate (nt-args.size) undef).getD t undef=undef:=by simp only[Dv,aib,hs,ay ht];rw[Array.getElem?_replicate];split<;>rfl
  rw[h1,h2];rfl
 simp;omega
theorem ajc(aq:Ok w0 m):∀ {o q:List Nat},apart o q=true->(∀id∈o,∃ob,(m.aj id).2=some ob/\ob.fA=true)->(o.map m.σ).Nodup/\ ∀id∈q,id∉o:=by
 intro o
 induction o with
 |nil=>intro q _ _;exact⟨af,fun id _ h=>by simp at h⟩
 |cons i o ih=>
  intro q h hm;simp only[apart,cN,mv] at h;obtain⟨⟨h1,h2⟩,h3⟩:=h;obtain⟨i1,i2⟩:=ih h3 (fun id hid=>hm id (by simp[hid]));have jB:i∉o:=by simpa using h1
  have iV:i∉q:=by simpa using h2
  refine⟨?_,fun id hid=>?_⟩
  .rw[dK,qy];refine⟨fun o9=>?_,i1⟩;obtain⟨j,hj,he⟩:=dp.1 o9;obtain⟨ob,a1,a2⟩:=hm i af;obtain⟨ob',b1,b2⟩:=hm j (by simp[hj]);exact jB (aq.inj j i ob' ob b1 b2 a1 a2 he▸hj)
  simp only[cM,Au];exact⟨fun e=>iV (e▸hid),i2 id hid⟩
theorem aqT{aj:aA}:∀ {cs:List C} {rs:List RC} {o q:List Nat},mj aj cs=some (rs,o,q)->rs.length=cs.length:=by
 intro cs
 induction cs with
 |nil=>intro rs o q h;simp only[mj,fD,kB] at h;obtain⟨rfl,_,_⟩:=h;rfl
 |cons c cs ih=>
  intro rs o q h;simp only[mj] at h;split at h
  .rename_i x o1 q1 xs os qs h1 h2;cases h;simp[ih h2]
  cases h
theorem Z9{α β:Type}{f:α->Option (β×List Nat)}:∀ {xs:List α} {ys:List β} {r:List Nat},collect f xs=some (ys,r)->∀id∈r,∃x y q,f x=some (y,q)/\id∈q:=by
 intro xs
 induction xs with
 |nil=>intro ys r h id hid;simp[collect] at h;rw[h.2] at hid;simp at hid
 |cons x xs ih=>
  intro ys r h id hid;simp only[collect] at h;split at h
  .rename_i b p bs q e1 e2;cases h;rcases eD.1 hid with hid|hid
   .exact⟨x,b,p,e1,hid⟩
   exact ih e2 id hid
  cases h
theorem at7{aj:aA}:∀ {n:Nat} {c:C} {x:PV} {r:List Nat},snap aj n c=some (x,r)->∀id∈r,∃ob,(aj id).2=some ob:=by
 intro n
 induction n with
 |zero=>intro c x r h;simp[snap] at h
 |succ n ih=>
  intro c x r h id hid;have one:∀ {i:Nat} {ob:Ob} {g:Nat},aj i=(g,some ob)->id∈[i]->∃ob,(aj id).2=some ob:=by intro i ob g hb hi;simp at hi;subst hi;exact⟨ob,by rw[hb]⟩
  have coll:∀ {cs:List C} {ps:List PV} {r:List Nat},collect (snap aj n) cs=some (ps,r)->id∈r->∃ob,(aj id).2=some ob:=by intro cs ps r h hi;obtain⟨x,y,q,h1,h2⟩:=Z9 h id hi;exact ih h1 id h2
  unfold snap at h;split at h
  .cases h;simp at hid
  .split at h
   .rename_i hb;split at h
    .split at h
     .rename_i hc;cases h;rcases cM.1 hid with e|hid
      .exact one hb (by simp[e])
      exact coll hc hid
     cases h
    cases h
   .rename_i hb;split at h
    .cases h;exact one hb hid
    cases h
   cases h
  .split at h
   .rename_i hb;split at h
    .simp only[dE] at h;obtain⟨e,_,h2⟩:=h;cases h2;exact one hb hid
    cases h
   .rename_i hb;split at h
    .simp only[dE] at h;obtain⟨e,_,h2⟩:=h;cases h2;exact one hb hid
    cases h
   cases h
  .split at h
   .rename_i hb;split at h
    .cases h;exact one hb hid
    cases h
   .rename_i hb;split at h
    .cases h;exact one hb hid
    cases h
   .rename_i hb;split at h
    .split at h
     .rename_i hc;cases h;rcases cM.1 hid with e|hid
      .exact one hb (by simp[e])
      obtain⟨x,y,q,h1,h2⟩:=Z9 hc id hid;exact coll h1 h2
     cases h
    cases h
   cases h
  .split at h
   .rename_i hb;split at h
    .cases h;exact one hb hid
    cases h
   .rename_i hb;split at h
    .cases h;exact one hb hid
    cases h
   cases h
  split at h
  .rename_i h1 h2;cases h;rcases eD.1 hid with hid|hid
   .exact coll h1 hid
   exact coll h2 hid
  cases h
theorem aqU{aj:aA}:∀ {cs:List C} {rs:List RC} {o q:List Nat},mj aj cs=some (rs,o,q)->∀id∈q,∃ob,(aj id).2=some ob:=by
 intro cs
 induction cs with
 |nil=>intro rs o q h id hid;simp only[mj,fD,kB] at h;rw[<- h.2.2] at hid;simp at hid
 |cons c cs ih=>
  intro rs o q h id hid;simp only[mj] at h;split at h
  .rename_i x o1 q1 xs os qs h1 h2;cases h;rcases eD.1 hid with hid|hid
   .have sn:(snap aj fM c).map (fun(v,r)=>((.p v:RC),([]:List Nat),r))=some (x,o1,q1)->∃ob,(aj id).2=some ob:=by
     intro h1;simp only[dE] at h1;obtain⟨⟨y,r⟩,h3,h4⟩:=h1;cases h4;exact at7 h3 id hid
    unfold jv at h1;split at h1
    .cases h1;simp at hid
    .split at h1
     .split at h1
      .cases h1;simp at hid
      cases h1
     exact sn h1
    exact sn h1
   exact ih h2 id hid
  cases h
theorem aqX{w:World}{O:Nat->Prop}{m0:Mem}(aq:Ok w m)(dQ:Ev m0 m)(nT:m0.w=w)(Wd:∀c,¬m0.fA c)(kO:m.fr=O){v:V}{r:RV}{val:Value}(h:iE m.aj v=some r)(hr:bK m v val):u7 w O r (.returned val) m.w:=by
 unfold iE at h;split at h
 .rename_i cs de;split at h
  .rename_i rs o q ho;split at h
   .rename_i ni;cases h;obtain⟨vs,hc,iv⟩:=amw de hr;obtain⟨g1,g2⟩:=iv rs (aqT ho);have hm:=(afS aq (Q:=fun _=>False) (fun _ h=>h.elim) ho hc (fun _ _ h=>h)).2;obtain⟨eZ,anE⟩:=ajc aq ni hm;have acT:∀b,(O b\/b∈o.map m.σ)->m.own b:=by
     intro b hb;rcases hb with hb|hb
     .exact .inl (kO▸hb)
     obtain⟨id,hid,rfl⟩:=dp.1 hb;obtain⟨ob,h1,h2⟩:=hm id hid;exact .inr ⟨id,ob,h1,h2,rfl⟩
    have hq:∀id∈q,¬(O (m.σ id)\/m.σ id∈o.map m.σ):=by
     intro id hid hn;obtain⟨ob,hob⟩:=aqU ho id hid;by_cases Es:ob.fA=true
     .rcases hn with hn|hn
      .exact(aq.gb id ob hob Es).2 (kO▸hn)
      obtain⟨j,hj,he⟩:=dp.1 hn;obtain⟨ob',b1,b2⟩:=hm j hj;exact anE id hid (aq.inj j id ob' ob b1 b2 hob Es he▸hj)
     have dk:¬m.own (m.σ id):=by
      have Bb:=aq.obj id ob hob;cases ob<;>simp[Ob.fA] at Es
      .obtain⟨_,_,_,_,_,dk⟩:=Bb;exact dk
      .obtain⟨_,_,_,_,_,_,_,_,_,dk⟩:=Bb;exact dk
      obtain⟨_,_,_,_,_,dk⟩:=Bb;exact dk
     exact dk (acT _ hn)
    obtain⟨sR,_⟩:=afS aq acT ho hc hq;subst nT;refine⟨val,o.map m.σ,rfl,⟨dQ.os,dQ.tape,dQ.output,dQ.size,fun c hc=>dQ.keep c hc (Wd c)⟩,eZ,fun c hc=>?_,vs,g2,by rw[g1];exact sR⟩;obtain⟨id,hid,rfl⟩:=dp.1 hc;obtain⟨ob,h1,h2⟩:=hm id hid;exact⟨(aq.gb id ob h1 h2).1,(aq.obj id ob h1).lt⟩
   cases h
  cases h
 cases h
theorem r4.vrel{w:World}{O:Nat->Prop}(hw:m.w=w)(ho:m.own=O){x:V}{v:Value}(h:r4 w O x v):bK m x v:=by
 subst hw ho;cases x with
 |undef=>exact h.elim
 |tup _=>exact h.elim
 |one c=>
  cases c with
  |p x=>exact mh h
  |_=>exact h.elim
 |agg cs=>obtain⟨arr,ps,rfl,rfl,hp⟩:=h;exact bK.agg.2 ⟨arr,rfl,hp.Dn⟩
theorem asW{sh:Ctx}{cp:fH}{cs:jz}{n:Nat}{fn:aV}{args:List V}{aj ao:aA}{v:V}(h:qZ sh cp cs n fn args aj=some (v,ao)):
  ∃e ak vs,exec sh cp cs n fn.body (rM args) aj=some (e,ak,ao)/\(e=.normal\/e=.ret)/\oF sh.al ak ao fn.results=some vs/\v=Ah vs:=by
 unfold qZ at h;split at h
 .rename_i ak b hx;simp only[dE] at h;obtain⟨vs,h1,h2⟩:=h;cases h2;exact⟨_,ak,vs,hx,.inl rfl,h1,rfl⟩
 .rename_i ak b hx;simp only[dE] at h;obtain⟨vs,h1,h2⟩:=h;cases h2;exact⟨_,ak,vs,hx,.inr rfl,h1,rfl⟩
 cases h
theorem agQ{G:World->Prop}(hG:Good G w0){cp:fH}{cs:jz}(hP:DF P G cp)(hS:Ft P G cs)(hL:Aw cs)(zH:P.follows .mixedOrders=true){sh:Ctx}{n f:Nat}{fn:aV}(hc:Ch P f=some fn){vs:List V}{m:Mem}{v:V}{ao:aA}{args:Array Value}(h:qZ sh cp cs n fn vs m.aj=some (v,ao))
  (hl:vs.length<=fn.ntmps) (aq:Ok w0 m) (ha:Pw (bK m) vs args.toList):Calls P f args m.w (HU w0 m v ao):=by
 obtain⟨kf,c,h1,h2,h3,h4,h5,h6⟩:=aab hc;obtain⟨e,ak,rs,hx,he,Bc,rfl⟩:=asW h;refine calls_of_wp h1 h2 ?_;obtain⟨s1,s2⟩:=aum (nt:=kf.ntmps) ha (by rw[<- h6];exact hl);refine al6 hG hP hS hL zH c h4 hx aq s1 s2 ?_;intro a' m' k1 k2 k3 k4 k5 k6 k7;subst k4;obtain⟨y,g1,g2⟩:=asB k1 k5 h5 Bc;have:bodyPost P kf (HU w0 m (Ah rs) m'.aj) .normal a' m'.w:=⟨k7,y,g1,y,m',rfl,rfl,k1,k2,k3,rfl,g2⟩;rcases he with rfl|rfl
 .exact this
 exact this
theorem enters_of{f:Nat}{fn:aV}(hc:Ch P f=some fn):Enters P f:=by obtain⟨kf,c,h1,h2,h3,_⟩:=aab hc;exact⟨kf,c,h1,h2,h3⟩
theorem sound{S:Sys}{G:World->Prop}(h:HW S G):∀n,DF S.P G (gh S n)/\Ft S.P G (gj S n)/\Aw (gj S n):=by
 intro n
 induction n with
 |zero=>exact⟨fun f vs r h=>by simp[gh] at h,fun f vs al aj v ao h=>by simp[gj] at h,fun f vs al aj v ao h=>by simp[gj] at h⟩
 |succ n ih=>
  obtain⟨hP,hS,hL⟩:=ih;refine⟨?_,?_,?_⟩
  .intro f vs r hc;rw[gh] at hc;split at hc
   .rename_i r' hp;subst hc;exact h.prim f vs r hp
   split at hc
   .rename_i fn hfn;have vm:=h.fns f fn hfn;split at hc
    .rename_i hl;refine⟨enters_of vm,fun w O args hG hO ha=>?_⟩;unfold E6 at hc;split at hc
     .rename_i v ao hr
      let m0:Mem:=⟨w,Aa,fun _=>0,fun _=>0,O⟩
      have aoj:m0.own=O:=by
       funext c;apply propext;constructor
       .rintro (h|⟨id,o,h,_⟩)
        .exact h
        cases h
       exact .inl
      have aq:Ok w m0:=⟨rfl,rfl,rfl,bJ _,fun _ _=>rfl,(fun id o h=>by cases h),(fun id o h=>by cases h),hO,(fun id eT o o' h=>by cases h)⟩;have hav:Pw (bK m0) vs args.toList:=⟨ha.1,fun j x u p q=>(ha.2 j x u p q).vrel rfl aoj⟩;refine(agQ hG hP hS hL h.follow vm (m:=m0) hr hl aq hav).mono ?_;rintro e w' ⟨val,m',rfl,rfl,q1,q2,q3,q4,q5⟩
      subst q4;exact aqX (m0:=m0) q1 q2 rfl (fun c ⟨id,o,h,_⟩=>by cases h) q3 hc q5
     cases hc
    cases hc
   cases hc
  .intro f vs al aj v ao hc;rw[gj] at hc;by_cases ht:S.trig f vs=true
   .rw[aF ht] at hc;exact(h.primS f vs al aj v ao ht hc).1
   rw[ay ht] at hc;split at hc
   .rename_i fn hfn;have vm:=h.fns f fn hfn;split at hc
    .rename_i hl;refine⟨enters_of vm,fun w0 m args hG aq hb ha=>?_⟩;subst hb;exact agQ hG hP hS hL h.follow vm hc hl aq ha
    cases hc
   cases hc
  intro f vs al aj v ao hc;rw[gj] at hc;by_cases ht:S.trig f vs=true
  .rw[aF ht] at hc;obtain⟨_,l1,l2⟩:=h.primS f vs al aj v ao ht hc;refine⟨l1,fun bj h2=>?_⟩;obtain⟨b3,h3,h4⟩:=l2 bj h2;exact⟨b3,by rw[gj,aF ht];exact h3,h4⟩
  rw[ay ht] at hc;split at hc
  .rename_i fn hfn;split at hc
   .rename_i hl;obtain⟨l1,l2⟩:=asV hL hc;refine⟨l1,fun bj h2=>?_⟩;obtain⟨b3,h3,h4⟩:=l2 bj h2;exact⟨b3,by rw[gj,ay ht];simp only[hfn,hl,if_true];exact h3,h4⟩
   cases hc
  cases hc
theorem aK.calls{S:Sys}{G:World->Prop}(h:HW S G){f:Nat}{vs:List V}{r:RV}(hc:aK S f vs r)(w:World)(hG:Good G w)(args:Array Value)(ha:Pw (r4 w fun _=>False) vs args.toList):Calls S.P f args w (u7 w (fun _=>False) r):=by obtain⟨n,hn⟩:=hc;exact((sound h n).1 f vs r hn).2 w _ args hG (fun c h=>h.elim) ha
end
end Go.Abs
namespace Go.Abs
section
variable{args:List V}{cs:jz}{sh:Ctx}{cp:fH}
def Co(op:BinOp)(a b:Nat)(other:Option V):Option V:=
 match op with
 | .add=>bif Nat.ble (Nat.add a b) 9223372036854775807 then some (.one (.p (.int .i64 (.ofNat (Nat.add a b))))) else other
 | .sub=>bif Nat.ble b a then bif Nat.ble a 9223372036854775807 then some (.one (.p (.int .i64 (.ofNat (Nat.sub a b))))) else other else other
 | .mul=>bif Nat.ble (Nat.mul a b) 9223372036854775807 then some (.one (.p (.int .i64 (.ofNat (Nat.mul a b))))) else other
 | .eql=>some (.one (.p (.bool (Nat.beq a b))))
 | .neq=>some (.one (.p (.bool (!Nat.beq a b))))
 | .lss=>some (.one (.p (.bool (Nat.ble (Nat.succ a) b))))
 | .leq=>some (.one (.p (.bool (Nat.ble a b))))
 | .gtr=>some (.one (.p (.bool (Nat.ble (Nat.succ b) a))))
 | .geq=>some (.one (.p (.bool (Nat.ble b a))))
 | .rem=>bif Nat.beq b 0 then other else some (.one (.p (.int .i64 (.ofNat (Nat.mod a b)))))
 |_=>other
def SP(op:BinOp)(x y:V):Option V:=
 match x,y with
 | .one (.p (.int .i64 (.ofNat a))),.one (.p (.int .i64 (.ofNat b)))=>Co op a b (qF op x y)
 |_,_=>qF op x y
theorem Ou{n:Nat}(h:n<=9223372036854775807):IntKind.i64.wrap (n:Int)=n:=by have e:(2 ^ IntKind.i64.bits:Int)=18446744073709551616:=ae;have e2:(2 ^ (IntKind.i64.bits-1):Int)=9223372036854775808:=ae;unfold IntKind.wrap;simp only[e,e2];have h1:(n:Int)%18446744073709551616=n:=aa;rw[h1];have h2:¬(n:Int)≥9223372036854775808:=aa;simp[h2]
theorem aml(op:BinOp)(a b:Nat):Co op a b (qF op (.one (.p (.int .i64 (.ofNat a)))) (.one (.p (.int .i64 (.ofNat b)))))=qF op (.one (.p (.int .i64 (.ofNat a)))) (.one (.p (.int .i64 (.ofNat b)))):=by
 have hb:∀ {x:Bool} {u v w:Option V},(x=true->u=w)->v=w->(bif x then u else v)=w:=by
  intro x u v w h1 h2;cases x with
  |false=>exact h2
  |true=>exact h1 rfl
 have ofn:∀n:Nat,(Int.ofNat n:Int)=(n:Int):=fun _=>rfl;have ble:∀ {a b:Nat},Nat.ble a b=decide ((a:Int)<=(b:Int)):=by
  intro a b;cases h:Nat.ble a b with
  |true=>have:=ig h;symm;simp;omega
  |false=>
   symm;simp;have:¬a<=b:=fun hh=>by rw[aiu hh] at h;cases h
   omega
 have beq:∀ {a b:Nat},Nat.beq a b=((a:Int)==(b:Int)):=by
  intro a b;by_cases h:a=b
  .subst h;simp
  have h1:Nat.beq a b=false:=by
   cases e:Nat.beq a b with
   |false=>rfl
   |true=>exact(h (wg e)).elim
  rw[h1];symm;simp;omega
 cases op
 case add=>refine hb (fun h=>?_) rfl;have h:a+b<=9223372036854775807:=ig h;have:((a:Int)+(b:Int))=((a+b:Nat):Int):=aa;simp only[qF,tv,true_or,if_true,mz,ofn];rw[this,Ou h];rfl
 case sub=>refine hb (fun h0=>hb (fun h=>?_) rfl) rfl;have h:=ig h;have h0:=ig h0;have:((a:Int)-(b:Int))=((a-b:Nat):Int):=aa;simp only[qF,tv,true_or,if_true,mz,ofn];rw[this,Ou aa];rfl
 case mul=>refine hb (fun h=>?_) rfl;have h:a*b<=9223372036854775807:=ig h;have:((a:Int)*(b:Int))=((a*b:Nat):Int):=af;simp only[qF,tv,true_or,if_true,mz,ofn];rw[this,Ou h];rfl
 case rem=>
  by_cases h0:b=0
  .subst h0;rfl
  have h1:Nat.beq b 0=false:=by
   cases e:Nat.beq b 0 with
   |false=>rfl
   |true=>exact(h0 (wg e)).elim
  have h2:¬(b:Int)=0:=aa;simp only[Co,h1,cond_false,qF,tv,true_or,if_true,mz,ofn,ay h2];rfl
 case eql=>simp only[Co,qF,tv,true_or,if_true,mz,ofn,beq]
 case neq=>simp only[Co,qF,tv,true_or,if_true,mz,ofn,beq];rfl
 case lss=>simp only[Co,qF,tv,true_or,if_true,mz,ofn,ble];congr 4
 case leq=>simp only[Co,qF,tv,true_or,if_true,mz,ofn,ble]
 case gtr=>simp only[Co,qF,tv,true_or,if_true,mz,ofn,ble];congr 4
 case geq=>simp only[Co,qF,tv,true_or,if_true,mz,ofn,ble]
 all_goals rfl
theorem aj4(op:BinOp)(x y:V):SP op x y=qF op x y:=by
 unfold SP;split
 .exact aml _ _ _
 rfl
def BZ(v:V):Option Nat:=
 match v with
 | .one (.p (.int _ (.ofNat n)))=>some n
 |v=>oN v
theorem Zu(v:V):BZ v=oN v:=by
 unfold BZ;split
 .simp[oN]
 rfl
def Ip(ak:Env)(d:Nat):Option aR->Option Nat
 |none=>some d
 |some a=>BZ (ev ak a)
theorem aj5(ak:Env)(d:Nat)(a:Option aR):Ip ak d a=ru ak d a:=by
 cases a with
 |none=>rfl
 |some a=>simp only[Ip,ru,Zu]
def arR(ak:Env)(x:aR):fg:=.done (ev ak x) [] []
def arV(ak:Env)(c:aR)(a:aR)(b:aR):fg:=match ev ak c with
  | .one (.p (.bool t))=>.done (if t then ev ak a else ev ak b) [] []
  |_=>.fail
def aru(aj:aA)(s:Nat)(z:List PV):fg:=.done (.one (.aY s ((aj s).1+1) 0)) [(s,((aj s).1+1,some (.var (z.map .p))))] [s]
def arx(ak:Env)(aj:aA)(s:Nat)(x:aR):fg:=match rz (ev ak x) with
  |some cs=>.done (.one (.aY s ((aj s).1+1) 0)) [(s,((aj s).1+1,some (.var cs)))] [s]
  |none=>.fail
def arA(ak:Env)(z:List PV)(ps:List (Nat×Nat×aR)):fg:=match yA ak ps with
  |some q=>.done (.agg (fill (z.map .p) q)) [] []
  |none=>.fail
def ary(ak:Env)(aj:aA)(s:Nat)(ty:Nat)(sz:Nat)(ps:List aR):fg:=match zj ak sz ps with
  |some es=>match BJ es with
   |some qs=>.done (.one (.hsl s ((aj s).1+1) sz 0 es.length)) [(s,((aj s).1+1,some (.arr ty sz qs)))] [s]
   |none=>.done (.one (.hsl s ((aj s).1+1) sz 0 es.length)) [(s,((aj s).1+1,some (.iI ty sz es)))] [s]
  |none=>.fail
def arK(ak:Env)(aj:aA)(k:Option Nat)(x:aR):fg:=match Bz aj (ev ak x) with
  |some (cs,r)=>match pO k cs with
   |some v=>.done v [] r
   |none=>.fail
  |none=>.fail
def arY(ak:Env)(aj:aA)(n:Nat)(a:aR)(x:aR):fg:=match rz (ev ak x) with
  |some xs=>Ak aj (ev ak a) n xs
  |none=>.fail
def arT(ak:Env)(x:aR):fg:=match ev ak x with
  | .one (.aY id g o)=>.done (.one (.aY id g o)) [] []
  | .one (.dB id g i o)=>.done (.one (.dB id g i o)) [] []
  | .one (.p (.box cs))=>.done (.one (.p (.box cs))) [] []
  | .one (.hfn f a b)=>.done (.one (.hfn f a b)) [] []
  | .one (.p (.fn f a b))=>.done (.one (.p (.fn f a b))) [] []
  |_=>.fail
def aga(ak:Env)(op:BinOp)(x:aR)(y:aR):fg:=match SP op (ev ak x) (ev ak y) with
  |some v=>.done v [] []
  |none=>.fail
def arF(ak:Env)(k:u5)(neg:Bool)(x:aR)(y:aR):fg:=match Cn k (ev ak x) (ev ak y) with
  |some b=>.done (.one (.p (.bool (if neg then !b else b)))) [] []
  |none=>.fail
def arZ(ak:Env)(op:UnOp)(x:aR):fg:=match op,ev ak x with
  | .not,.one (.p (.bool b))=>.done (.one (.p (.bool (!b)))) [] []
  | .neg,.one (.p (.int k n))=>.done (.one (.p (.int k (k.wrap (0-n))))) [] []
  |_,_=>.fail
def arD(ak:Env)(k:IntKind)(x:aR):fg:=match ev ak x with
  | .one (.p (.int _ n))=>.done (.one (.p (.int k (k.wrap n)))) [] []
  |_=>.fail
def arz(ak:Env)(aj:aA)(x:aR):fg:=match fh aj (ev ak x) with
  |some (es,r,[])=>match bytesOf es with
   |some bs=>.done (.one (.p (.str ⟨bs.toArray⟩))) [] r
   |none=>.fail
  |_=>.fail
def arO(ak:Env)(f:Nat)(a:List aR)(b:List aR):fg:=match vM ak a,vM ak b with
  |some x,some y=>.done (.one (.hfn f x y)) [] []
  |_,_=>.fail
def arP(aj:aA)(s:Nat)(ag:Bool):fg:=.done (.one (.jW s ((aj s).1+1))) [(s,((aj s).1+1,some (.map ag [])))] [s]
def agc(ak:Env)(aj:aA)(s:Nat)(ty:Nat)(sz:Nat)(bytes:Nat)(z:List PV)(l:aR)(c:aR):fg:=match BZ (ev ak l),BZ (ev ak c) with
  |some n,some m=>if n=m/\n*bytes<=room then
    .done (.one (.hsl s ((aj s).1+1) sz 0 n)) [(s,((aj s).1+1,some (.arr ty sz (List.replicate n z))))] [s]
   else .fail
  |_,_=>.fail
def age(ak:Env)(sz:Nat)(x:aR)(lo:Option aR)(hi:Option aR):fg:=match yw (ev ak x) with
  |some n=>match Ip ak 0 lo,Ip ak n hi with
   |some l,some h=>Dh (ev ak x) sz l h
   |_,_=>.fail
  |none=>.fail
def agf(ak:Env)(x:aR)(lo:Option aR)(hi:Option aR):fg:=match ev ak x with
  | .one (.p (.str s))=>match Ip ak 0 lo,Ip ak s.size hi with
   |some l,some h=>if l<=h/\h<=s.size then .done (.one (.p (.str (s.extract l h)))) [] [] else .fail
   |_,_=>.fail
  |_=>.fail
def arH(ak:Env)(off:Nat)(x:aR):fg:=match ev ak x with
  | .one (.aY id g o)=>.done (.one (.aY id g (o+off))) [] []
  | .one (.dB id g i o)=>.done (.one (.dB id g i (o+off))) [] []
  | .one (.p (.box cs))=>.done (.one (.p (.box (cs.drop off)))) [] []
  |_=>.fail
def agb(ak:Env)(sz:Nat)(x:aR)(i:aR):fg:=match BZ (ev ak i),ev ak x with
  |some n,.one (.p (.sl es))=>match es[n]? with
   |some e=>if e.length=sz then .done (.one (.p (.box e))) [] [] else .fail
   |none=>.fail
  |some n,.one (.hsl id g z off len)=>if n<len/\z=sz then .done (.one (.dB id g (off+n) 0)) [] [] else .fail
  |_,_=>.fail
def af8(ak:Env)(len:Nat)(sz:Nat)(x:aR)(i:aR):fg:=match BZ (ev ak i),ev ak x with
  |some n,.one (.aY id g o)=>if n<len then .done (.one (.aY id g (o+n*sz))) [] [] else .fail
  |some n,.one (.dB id g j o)=>if n<len then .done (.one (.dB id g j (o+n*sz))) [] [] else .fail
  |some n,.one (.p (.box cs))=>if n<len then .done (.one (.p (.box (cs.drop (n*sz))))) [] [] else .fail
  |_,_=>.fail
def arI(ak:Env)(off:Nat)(k:Option Nat)(x:aR):fg:=match ev ak x with
  | .agg cs=>match pO k (cs.drop off) with
   |some v=>.done v [] []
   |none=>.fail
  |_=>.fail
def af9(ak:Env)(len:Nat)(sz:Nat)(k:Option Nat)(x:aR)(i:aR):fg:=match BZ (ev ak i),ev ak x with
  |some n,.agg cs=>if n<len then
    match pO k (cs.drop (n*sz)) with
    |some v=>.done v [] []
    |none=>.fail
   else .fail
  |_,_=>.fail
def agd(ak:Env)(x:aR)(i:aR):fg:=match BZ (ev ak i),ev ak x with
  |some n,.one (.p (.str s))=>match s[n]? with
   |some b=>.done (.one (.p (.int .u8 b.toNat))) [] []
   |none=>.fail
  |_,_=>.fail
def arL(ak:Env)(aj:aA)(kd:Nat)(z:List PV)(agg:Bool)(ok:Bool)(x:aR)(k:aR):fg:=match mapOf aj agg (ev ak x),ev ak k with
  |some (es,r),.one (.p q)=>if iw q≠kd then .fail else match oU q es 0 with
   |some f=>match mapVal agg ((f.map (·.2)).getD z) with
    |some w=>.done (if ok then .tup [w,.one (.p (.bool f.isSome))] else w) [] r
    |none=>.fail
   |none=>.fail
  |_,_=>.fail
def arw:fg:=.fail
def arS(ak:Env)(aj:aA)(kd:Nat)(ag:Bool)(m:aR)(k:aR)(v:aR):fg:=match ev ak m,ev ak k,xD ag (ev ak v) with
  | .one (.jW id g),.one (.p q),some cs=>match aj id,BI cs with
   |(g',some (.map rq es)),some ps=>if g'=g/\rq=ag/\iw q=kd then
     match oU q es 0 with
     |some (some (i,_))=>.done .undef [(id,(g,some (.map ag (es.set i (q,ps)))))] [id]
     |some none=>.done .undef [(id,(g,some (.map ag (es++[(q,ps)]))))] [id]
     |none=>.fail
    else .fail
   |_,_=>.fail
  |_,_,_=>.fail
def arG(ak:Env)(x:aR)(i:Nat):fg:=match ev ak x with
  | .tup vs=>match vs[i]? with
   |some v=>.done v [] []
   |none=>.fail
  |_=>.fail
def arB(shared:Nat->Bool)(ak:Env)(aj:aA)(s:Nat)(f:aR)(as:List aR):fg:=match DU ak f with
  |some (g,a,b)=>
   if shared g then .sc g (a.map .one++as.map (ev ak)++b.map .one)
   else match BE aj (a.map .one++as.map (ev ak)++b.map .one) with
    |some (vs,r)=>.pc g vs r s
    |none=>.fail
  |none=>.fail
def arX(ak:Env)(x:aR):fg:=match ev ak x with
  | .one (.p (.str s))=>.done (.one (.p (.int .i64 s.size))) [] []
  |_=>.fail
def arJ(ak:Env)(x:aR):fg:=match yw (ev ak x) with
  |some n=>.done (.one (.p (.int .i64 n))) [] []
  |none=>.fail
def arQ(ak:Env)(aj:aA)(x:aR):fg:=match zX aj (ev ak x) with
  |some (n,r)=>.done (.one (.p (.int .i64 n))) [] r
  |none=>.fail
def arv(ak:Env)(aj:aA)(s:Nat)(ty:Nat)(sz:Nat)(bytes:Nat)(d:aR)(x:aR):fg:=fL aj s ty sz bytes (ev ak d) (ev ak x)
def arM(ak:Env)(x:aR)(y:aR):fg:=match ev ak x,ev ak y with
  | .one (.p (.int k a)),.one (.p (.int _ b))=>.done (.one (.p (.int k (if b>a then b else a)))) [] []
  |_,_=>.fail
def arN(ak:Env)(x:aR)(y:aR):fg:=match ev ak x,ev ak y with
  | .one (.p (.int k a)),.one (.p (.int _ b))=>.done (.one (.p (.int k (if b<a then b else a)))) [] []
  |_,_=>.fail
def arC(ak:Env)(aj:aA)(z:List PV)(x:aR):fg:=match ev ak x with
  | .one (.p .nils)=>.done (.tup []) [] []
  | .one (.p (.sl []))=>.done (.tup []) [] []
  | .one (.hsl id g _ off len)=>if len=0 then .done (.tup []) [] [] else match aj id with
   |(g',some (.arr ty sz es))=>if g'=g/\sz=z.length/\off+len<=es.length then .done (.tup []) [(id,(g,some (.arr ty sz (eO es off (List.replicate len z)))))] [id] else .fail
   |_=>.fail
  |_=>.fail
def Xy(shared:Nat->Bool)(ak:Env)(aj:aA):mW->fg
 | .yy x=>arR ak x
 | .pick c a b=>arV ak c a b
 | .alloc s z=>aru aj s z
 | .box s x=>arx ak aj s x
 | .build z ps=>arA ak z ps
 | .DI s ty sz ps=>ary ak aj s ty sz ps
 | .load k x=>arK ak aj k x
 | .store n a x=>arY ak aj n a x
 | .Kf x=>arT ak x
 | .bin op x y=>aga ak op x y
 | .eqc k neg x y=>arF ak k neg x y
 | .un op x=>arZ ak op x
 | .conv k x=>arD ak k x
 | .bstr x=>arz ak aj x
 | .mkfn f a b=>arO ak f a b
 | .mkmap s ag=>arP aj s ag
 | .JX s ty sz bytes z l c=>agc ak aj s ty sz bytes z l c
 | .slice sz x lo hi=>age ak sz x lo hi
 | .sslice x lo hi=>agf ak x lo hi
 | .FY off x=>arH ak off x
 | .GD sz x i=>agb ak sz x i
 | .HX len sz x i=>af8 ak len sz x i
 | .fld off k x=>arI ak off k x
 | .aidx len sz k x i=>af9 ak len sz k x i
 | .sidx x i=>agd ak x i
 | .lookup kd z agg ok x k=>arL ak aj kd z agg ok x k
 | .bad=>arw
 | .mupd kd ag m k v=>arS ak aj kd ag m k v
 | .extract x i=>arG ak x i
 | .call s f as=>arB shared ak aj s f as
 | .slen x=>arX ak x
 | .JU x=>arJ ak x
 | .mlen x=>arQ ak aj x
 | .append s ty sz bytes d x=>arv ak aj s ty sz bytes d x
 | .max x y=>arM ak x y
 | .min x y=>arN ak x y
 | .clear z x=>arC ak aj z x
theorem art(shared:Nat->Bool)(ak:Env)(aj:aA)(o:mW):Xy shared ak aj o=bt shared ak aj o:=by
 cases o<;>first
  |rfl
  |simp only[Xy,bt,aga,agc,age,agf,agb,af8,af9,agd,aj4,Zu,aj5]<;>rfl
inductive Tr where
 |leaf
 |node (v:V) (l r:Tr)
noncomputable def Tr.get (t:Tr):Nat->V:=Tr.rec (motive:=fun _=>Nat->V) (fun _=>.undef) (fun v _ _ gl gr n=>bif Nat.beq n 0 then v else bif Nat.beq (Nat.mod n 2) 1 then gl (Nat.div n 2) else gr (Nat.sub (Nat.div n 2) 1)) t
noncomputable def Tr.single (k:Nat):Nat->V->Tr:=Nat.rec (motive:=fun _=>Nat->V->Tr) (fun _ _=>.leaf) (fun _ ih n x=>bif Nat.beq n 0 then .node x .leaf .leaf else bif Nat.beq (Nat.mod n 2) 1 then .node .undef (ih (Nat.div n 2) x) .leaf else .node .undef .leaf (ih (Nat.sub (Nat.div n 2) 1) x)) k
noncomputable def Tr.set (t:Tr):Nat->V->Tr:=Tr.rec (motive:=fun _=>Nat->V->Tr) (fun n x=>Tr.single 12 n x) (fun v l r sl sr n x=>bif Nat.beq n 0 then .node x l r else bif Nat.beq (Nat.mod n 2) 1 then .node v (sl (Nat.div n 2) x) r else .node v l (sr (Nat.sub (Nat.div n 2) 1) x)) t
theorem ER{a b:Nat}(h:a≠b):Nat.beq a b=false:=by
 cases e:Nat.beq a b with
 |false=>rfl
 |true=>exact(h (wg e)).elim
theorem am7(n:Nat):Tr.leaf.get n=.undef:=rfl
theorem PE(v:V)(l r:Tr)(n:Nat):(Tr.node v l r).get n=if n=0 then v else if n%2=1 then l.get (n/2) else r.get (n/2-1):=by
 show(bif Nat.beq n 0 then v else bif Nat.beq (n%2) 1 then l.get (n/2) else r.get (n/2-1))=_;by_cases h0:n=0
 .subst h0;rfl
 rw[ER h0,ay h0];by_cases h1:n%2=1
 .rw[h1];rfl
 rw[ER h1,ay h1];rfl
theorem aht(f:Tr->Tr)(g:Tr->Tr)(v:V)(l r:Tr)(n m:Nat)(x:V)(hl:n%2=1->(f l).get (m/2)=if m/2=n/2 then x else l.get (m/2))(hr:n≠0->n%2≠1->(g r).get (m/2-1)=if m/2-1=n/2-1 then x else r.get (m/2-1)):
  (bif Nat.beq n 0 then Tr.node x l r else bif Nat.beq (n%2) 1 then .node v (f l) r else .node v l (g r)).get m=if m=n then x else (Tr.node v l r).get m:=by
 by_cases h0:n=0
 .subst h0;simp only[YG,cond_true,PE];by_cases hm:m=0<;>simp[hm]
 rw[ER h0];by_cases h1:n%2=1
 .rw[h1];simp only[cond_false,YG,cond_true,PE];by_cases hm:m=0
  .subst hm;rw[aF rfl,ay (fun e=>h0 e.symm),aF rfl]
  rw[ay hm];by_cases lM:m%2=1
  .rw[aF lM,hl h1];by_cases he:m=n
   .subst he;simp
   rw[ay he,ay aa,ay hm,aF lM]
  rw[ay lM,ay aa,ay hm,ay lM]
 rw[ER h1];simp only[cond_false,PE];by_cases hm:m=0
 .subst hm;rw[aF rfl,ay (fun e=>h0 e.symm),aF rfl]
 rw[ay hm];by_cases lM:m%2=1
 .rw[aF lM,ay aa,ay hm,aF lM]
 rw[ay lM,hr h0 h1];by_cases he:m=n
 .subst he;simp
 rw[ay he,ay aa,ay hm,ay lM]
theorem atM:∀(k n m:Nat) (x:V),n+1<2 ^ k->(Tr.single k n x).get m=if m=n then x else Tr.leaf.get m:=by
 intro k
 induction k with
 |zero=>intro n m x h;simp at h
 |succ k ih=>
  intro n m x h;have hp:2 ^ (k+1)=2*2 ^ k:=by rw[Nat.pow_succ];omega
  have:=aht (fun _=>Tr.single k (n/2) x) (fun _=>Tr.single k (n/2-1) x) .undef .leaf .leaf n m x (fun _=>ih _ _ _ aa) (fun _ _=>ih _ _ _ aa);have e:(Tr.node .undef .leaf .leaf).get m=Tr.leaf.get m:=by rw[PE];simp[am7]
  rw[e] at this;exact this
theorem Tr.acJ:∀(t:Tr) (n m:Nat) (x:V),n+1<2 ^ 12->(t.set n x).get m=if m=n then x else t.get m:=by
 intro t
 induction t with
 |leaf=>intro n m x h;exact atM 12 n m x h
 |node v l r ihl ihr=>intro n m x h;exact aht (fun l=>l.set (n/2) x) (fun r=>r.set (n/2-1) x) v l r n m x (fun _=>ihl _ _ _ aa) (fun _ _=>ihr _ _ _ aa)
abbrev BL:=List (Nat×(Nat×Option Ob))
noncomputable def I3 (b:BL) (n:Nat):Nat×Option Ob:=List.rec (motive:=fun _=>Nat×Option Ob) (0,none) (fun p _ ih=>bif Nat.beq p.1 n then p.2 else ih) b
noncomputable def Of:BL->Nat->Nat×Option Ob->BL
 |[],n,x=>[(n,x)]
 |(i,o)::r,n,x=>bif Nat.beq i n then (i,x)::r else (i,o)::Of r n x
theorem am5:∀(b:BL) (n:Nat) (x:Nat×Option Ob) (m:Nat),I3 (Of b n x) m=if m=n then x else I3 b m:=by
 intro b
 induction b with
 |nil=>
  intro n x m;simp only[Of,I3];by_cases h:m=n
  .subst h;simp
  have:Nat.beq n m=false:=ER fun e=>h e.symm;simp[this,h]
 |cons p b ih=>
  obtain⟨i,o⟩:=p;intro n x m;simp only[Of];by_cases h:i=n
  .subst h;simp only[YG,cond_true,I3];by_cases hm:m=i
   .subst hm;simp
   have:Nat.beq i m=false:=ER fun e=>hm e.symm;simp[this,hm]
  have:Nat.beq i n=false:=ER h;simp only[this,cond_false,I3];by_cases hm:i=m
  .subst hm;simp[h]
  have:Nat.beq i m=false:=ER hm;simp only[this,cond_false];exact ih n x m
noncomputable def pN (t:Tr):Env:=fun i=>t.get i
noncomputable def kA (b:BL):aA:=fun i=>I3 b i
noncomputable def KK:Nat->List V->Tr->Tr
 |_,[],t=>t
 |i,a::r,t=>KK (i+1) r (t.set i a)
theorem auT:∀(l:List V) (i:Nat) (t:Tr) (m:Nat),i+l.length<4095->(KK i l t).get m=if i<=m/\m<i+l.length then l.getD (m-i) .undef else t.get m:=by
 intro l
 induction l with
 |nil=>intro i t m _;simp[KK];intro h1 h2;omega
 |cons a r ih=>
  intro i t m h;simp only[dh] at h ⊢;rw[KK,ih (i+1) _ m aa,Tr.acJ t i m a aa];by_cases h1:m=i
  .subst h1;rw[ay aa,aF rfl,aF aa];simp
  rw[ay h1];by_cases h2:i+1<=m/\m<i+1+r.length
  .rw[aF h2,aF aa];obtain⟨k,rfl⟩:∃k,m=i+1+k:=⟨m-(i+1),aa⟩;rw[show i+1+k-(i+1)=k by omega,show i+1+k-i=k+1 by omega];simp
  rw[ay h2,ay aa]
theorem auP(h:args.length<4095):pN (KK 0 args .leaf)=rM args:=by
 funext m;unfold pN rM;rw[auT args 0 .leaf m aa];by_cases hm:m<args.length
 .rw[aF aa];rfl
 rw[ay aa];simp[Tr.get,List.getD,ti (aiw hm)]
noncomputable def Yh {α:Type} (n:Nat) (k:Nat->α):α:=match n with
 |0=>k 0
 |m+1=>k (m+1)
noncomputable def Yg {α:Type} (z:Int) (k:Int->α):α:=match z with
 | .ofNat n=>Yh n fun n=>k (.ofNat n)
 | .negSucc n=>Yh n fun n=>k (.negSucc n)
noncomputable def Yi {α:Type} (v:V) (k:V->α):α:=match v with
 | .one (.p (.int t z))=>Yg z fun z=>k (.one (.p (.int t z)))
 | .one (.p (.bool b))=>match b with
  |true=>k (.one (.p (.bool true)))
  |false=>k (.one (.p (.bool false)))
 |v=>k v
@[simp] theorem avP {α:Type} (n:Nat) (k:Nat->α):Yh n k=k n:=by cases n<;>rfl
@[simp] theorem avO {α:Type} (z:Int) (k:Int->α):Yg z k=k z:=by cases z<;>simp[Yg]
@[simp] theorem avv {α:Type} (v:V) (k:V->α):Yi v k=k v:=by
 unfold Yi;split
 .simp
 .split<;>rfl
 rfl
def QQ(al:Al)(l:List Nat):Bool:=bif al.any then true else al.ft l
theorem aqI(al:Al)(l:List Nat):QQ al l=al.ft l:=by
 unfold QQ;cases h:al.any with
 |false=>rfl
 |true=>simp[Al.ft,Al.ok,h]
abbrev oI:=Nat->List V->Al->BL->Option (V×BL)
noncomputable def FA:List eK->BL->BL
 |[],b=>b
 |(i,o)::r,b=>FA r (Of b i o)
theorem X5:∀(u:List eK) (b:BL),kA (FA u b)=app u (kA b):=by
 intro u
 induction u with
 |nil=>intro b;rfl
 |cons x u ih=>obtain⟨i,o⟩:=x;intro b;simp only[FA,app];rw[ih];congr 1;funext m;exact am5 b i o m
noncomputable def Kr (t:Tr) (d:Option Nat) (v:V) (k:Tr->Option (Tr×BL×bY)):Option (Tr×BL×bY):=match d with
 |none=>k t
 |some n=>bif Nat.ble n 4000 then Yi v fun v=>k (t.set n v) else none
noncomputable def RO (sh:Ctx) (cp:fH) (cs:oI) (o:bG) (t:Tr) (b:BL):Option (Tr×BL×bY):=
 match wanted (pN t) o.guard with
 |none=>none
 |some false=>Kr t o.dst .undef fun t'=>some (t',b,⟨[],[],[]⟩)
 |some true=>match Xy sh.shared (pN t) (kA b) o.op with
  | .fail=>none
  | .done v u r=>bif QQ sh.al (r++u.map (·.1)) then Kr t o.dst v fun t'=>some (t',FA u b,⟨r,u.map (·.1),[]⟩) else none
  | .pc f vs r s=>match cp f vs with
   |some x=>match land (kA b) r s (x.fP (sh.lone s)) with
    |some (v,u)=>bif QQ sh.al (r++u.map (·.1)) then Kr t o.dst v fun t'=>some (t',FA u b,⟨r++u.map (·.1),u.map (·.1),[]⟩) else none
    |none=>none
   |none=>none
  | .sc f vs=>match allow sh f vs (kA b) with
   |al=>bif sh.al.holds al then
     match cs f vs al b with
     |some (v,b')=>Kr t o.dst v fun t'=>some (t',b',⟨al.ids,al.ids,al.fs⟩)
     |none=>none
    else none
noncomputable def HV (cs:jz) (cf:oI):Prop:=∀f vs al b v b',cf f vs al b=some (v,b')->cs f vs al (kA b)=some (v,kA b')
theorem Q9{t t':Tr}{d:Option Nat}{v:V}{b b':BL}{e e':bY}(h:Kr t d v (fun t'=>some (t',b,e))=some (t',b',e')):put (pN t) d v=pN t'/\b=b'/\e=e':=by
 unfold Kr at h;split at h
 .cases h;exact⟨rfl,rfl,rfl⟩
 rename_i n;cases hn:Nat.ble n 4000 with
 |false=>rw[hn] at h;cases h
 |true=>rw[hn] at h;simp only[cond_true,avv] at h;cases h;refine⟨?_,rfl,rfl⟩;have:=ig hn;funext m;unfold pN put;exact(Tr.acJ t n m v aa).symm
theorem aun{cf:oI}(hs:HV cs cf){o:bG}{t t':Tr}{b b':BL}{e:bY}(h:RO sh cp cf o t b=some (t',b',e)):step1 sh cp cs o (pN t) (kA b)=some (pN t',kA b',e):=by
 unfold RO at h;simp only[art,aqI] at h;unfold step1;split at h
 .cases h
 .rename_i hw;rw[hw];obtain⟨h1,rfl,rfl⟩:=Q9 h;simp only[h1]
 rename_i hw;rw[hw];simp only;split at h
 .cases h
 .rename_i v u r hp;cases aq:sh.al.ft (r++u.map (·.1)) with
  |false=>rw[aq] at h;cases h
  |true=>rw[aq] at h;obtain⟨h1,rfl,rfl⟩:=Q9 h;simp only[hp,aq,if_true,h1,X5]
 .rename_i f vs r s hp;split at h
  .rename_i x hx;split at h
   .rename_i v u hl;cases aq:sh.al.ft (r++u.map (·.1)) with
    |false=>rw[aq] at h;cases h
    |true=>rw[aq] at h;obtain⟨h1,rfl,rfl⟩:=Q9 h;simp only[hp,hx,hl,aq,if_true,h1,X5]
   cases h
  cases h
 rename_i f vs hp;cases aq:sh.al.holds (allow sh f vs (kA b)) with
 |false=>rw[aq] at h;cases h
 |true=>
  rw[aq] at h;simp only[cond_true] at h;split at h
  .rename_i v b1 hc;obtain⟨h1,rfl,rfl⟩:=Q9 h;simp only[hp,aq,if_true,hs _ _ _ _ _ _ hc,h1]
  cases h
noncomputable def auo (sh:Ctx) (cp:fH) (cs:oI) (o:bG) (ih:Tr->BL->Option (Tr×BL×List bY)) (ak:Tr) (aj:BL):Option (Tr×BL×List bY):=
 match RO sh cp cs o ak aj with
 |some (aD,ao,e)=>match ih aD ao with
  |some (L5,Im,es)=>some (L5,Im,e::es)
  |none=>none
 |none=>none
noncomputable def KF (sh:Ctx) (cp:fH) (cs:oI) (l:List bG):Tr->BL->Option (Tr×BL×List bY):=List.rec (motive:=fun _=>Tr->BL->Option (Tr×BL×List bY)) (fun ak aj=>some (ak,aj,[])) (fun o _ ih=>auo sh cp cs o ih) l
theorem auq(sh:Ctx)(cp:fH)(cs:oI)(ak:Tr)(aj:BL):KF sh cp cs [] ak aj=some (ak,aj,[]):=rfl
theorem aup(sh:Ctx)(cp:fH)(cs:oI)(o:bG)(r:List bG)(ak:Tr)(aj:BL):KF sh cp cs (o::r) ak aj=match RO sh cp cs o ak aj with
  |some (aD,ao,e)=>match KF sh cp cs r aD ao with
   |some (L5,Im,es)=>some (L5,Im,e::es)
   |none=>none
  |none=>none:=rfl
theorem aur{cf:oI}(hs:HV cs cf):∀ {ops:List bG} {t t':Tr} {b b':BL} {es:List bY},KF sh cp cf ops t b=some (t',b',es)->steps sh cp cs ops (pN t) (kA b)=some (pN t',kA b',es):=by
 intro ops
 induction ops with
 |nil=>intro t t' b b' es h;simp only[auq,fD,kB] at h;obtain⟨rfl,rfl,rfl⟩:=h;rfl
 |cons o r ih=>
  intro t t' b b' es h;simp only[aup] at h;split at h
  .rename_i t1 b1 e1 h1;split at h
   .rename_i t2 b2 es2 h2;cases h;simp only[steps,aun hs h1,ih h2]
   cases h
  cases h
noncomputable def ND (f:Tr->BL->Option (lG×Tr×BL)) (n:Nat):Tr->BL->Option (lG×Tr×BL):=
 Nat.rec (motive:=fun _=>Tr->BL->Option (lG×Tr×BL)) (fun _ _=>none) (fun _ ih ak aj=>match f ak aj with
  |some (.normal,aD,ao)=>ih aD ao
  |r=>r) n
theorem aoX(f:Tr->BL->Option (lG×Tr×BL))(n:Nat)(ak:Tr)(aj:BL):ND f (n+1) ak aj=match f ak aj with
  |some (.normal,aD,ao)=>ND f n aD ao
  |r=>r:=rfl
abbrev Ex:=Tr->BL->Option (lG×Tr×BL)
noncomputable def alU (sh:Ctx) (cp:fH) (cs:oI) (d:Bool) (ops:List bG):Ex:=fun ak aj=>match KF sh cp cs ops ak aj with
  |some (aD,ao,es)=>bif d then (bif sZ ops [] es then some (.normal,aD,ao) else none) else some (.normal,aD,ao)
  |none=>none
noncomputable def alV (a b:Ex):Ex:=fun ak aj=>match a ak aj with
  |some (.normal,aD,ao)=>b aD ao
  |r=>r
noncomputable def alT (x:aR) (a b:Ex):Ex:=fun ak aj=>match ev (pN ak) x with
  | .one (.p (.bool t))=>bif t then a ak aj else b ak aj
  |_=>none
noncomputable def alS (id:Nat) (c:Ex):Ex:=fun ak aj=>match c ak aj with
  |some (.exit i,aD,ao)=>bif Nat.beq i id then some (.normal,aD,ao) else some (.exit i,aD,ao)
  |r=>r
noncomputable def tB (sh:Ctx) (cp:fH) (cs:oI) (n:Nat) (c:aJ):Ex:=
 aJ.rec (motive:=fun _=>Ex) (fun ak aj=>some (.normal,ak,aj)) (fun d ops=>alU sh cp cs d ops) (fun _ _ a b=>alV a b) (fun x _ _ a b=>alT x a b)
  (fun id _ c=>alS id c) (fun _ c=>ND c n) (fun id ak aj=>some (.exit id,ak,aj)) (fun ak aj=>some (.ret,ak,aj)) (fun _ _=>none) c
section
variable (sh:Ctx) (cp:fH) (cs:oI) (n:Nat) (ak:Tr) (aj:BL)
theorem al4:tB sh cp cs n .skip ak aj=some (.normal,ak,aj):=rfl
theorem alY(id:Nat):tB sh cp cs n (.exit id) ak aj=some (.exit id,ak,aj):=rfl
theorem al1:tB sh cp cs n .ret ak aj=some (.ret,ak,aj):=rfl
theorem al0(d:Bool)(ops:List bG):tB sh cp cs n (.region d ops) ak aj=match KF sh cp cs ops ak aj with
  |some (aD,ao,es)=>bif d then (bif sZ ops [] es then some (.normal,aD,ao) else none) else some (.normal,aD,ao)
  |none=>none:=rfl
theorem al3(a b:aJ):tB sh cp cs n (.seq a b) ak aj=match tB sh cp cs n a ak aj with
  |some (.normal,aD,ao)=>tB sh cp cs n b aD ao
  |r=>r:=rfl
theorem alX(x:aR)(a b:aJ):tB sh cp cs n (.cond x a b) ak aj=match ev (pN ak) x with
  | .one (.p (.bool t))=>bif t then tB sh cp cs n a ak aj else tB sh cp cs n b ak aj
  |_=>none:=rfl
theorem alW(id:Nat)(c:aJ):tB sh cp cs n (.block id c) ak aj=match tB sh cp cs n c ak aj with
  |some (.exit i,aD,ao)=>bif Nat.beq i id then some (.normal,aD,ao) else some (.exit i,aD,ao)
  |r=>r:=rfl
theorem alZ(c:aJ):tB sh cp cs n (.loop c) ak aj=ND (tB sh cp cs n c) n ak aj:=rfl
end
theorem aoW{f:Tr->BL->Option (lG×Tr×BL)}{g:Env->aA->Option (lG×Env×aA)}(hfg:∀t b e t' b',f t b=some (e,t',b')->g (pN t) (kA b)=some (e,pN t',kA b')):
  ∀(n:Nat) {t t':Tr} {b b':BL} {e:lG},ND f n t b=some (e,t',b')->iter g n (pN t) (kA b)=some (e,pN t',kA b'):=by
 intro n
 induction n with
 |zero=>intro t t' b b' e h;cases h
 |succ n ih=>
  intro t t' b b' e h;simp only[aoX] at h;simp only[iter];split at h
  .rename_i t1 b1 h1;rw[hfg _ _ _ _ _ h1];exact ih h
  rename_i aI;rw[hfg _ _ _ _ _ h];cases e with
  |normal=>exact(aI _ _ h).elim
  |exit i=>rfl
  |ret=>rfl
theorem aaX{cf:oI}(hs:HV cs cf){n:Nat}:∀(c:aJ) {t t':Tr} {b b':BL} {e:lG},tB sh cp cf n c t b=some (e,t',b')->exec sh cp cs n c (pN t) (kA b)=some (e,pN t',kA b'):=by
 intro c
 induction c with
 |skip=>intro t t' b b' e h;simp only[al4,fD,kB] at h;obtain⟨rfl,rfl,rfl⟩:=h;rfl
 |exit id=>intro t t' b b' e h;simp only[alY,fD,kB] at h;obtain⟨rfl,rfl,rfl⟩:=h;rfl
 |ret=>intro t t' b b' e h;simp only[al1,fD,kB] at h;obtain⟨rfl,rfl,rfl⟩:=h;rfl
 |bad=>intro t t' b b' e h;cases h
 |region d ops=>
  intro t t' b b' e h;simp only[al0] at h;simp only[exec];split at h
  .rename_i t1 b1 es h1;rw[aur hs h1];simp only;cases d with
   |false=>simp only[cond_false] at h;cases h;simp
   |true=>
    simp only[cond_true] at h;cases hd:sZ ops [] es with
    |false=>rw[hd] at h;cases h
    |true=>rw[hd] at h;simp only[cond_true] at h;cases h;simp
  cases h
 |seq x y ihx ihy=>
  intro t t' b b' e h;simp only[al3] at h;simp only[exec];split at h
  .rename_i t1 b1 h1;rw[ihx h1];exact ihy h
  rename_i aI;rw[ihx h];cases e with
  |normal=>exact(aI _ _ h).elim
  |exit i=>rfl
  |ret=>rfl
 |cond x p q ihp ihq=>
  intro t t' b b' e h;simp only[alX] at h;simp only[exec];split at h
  .rename_i tt ht;rw[ht];cases tt with
   |true=>simp only[cond_true] at h;simpa using ihp h
   |false=>simp only[cond_false] at h;simpa using ihq h
  cases h
 |block id c ih=>
  intro t t' b b' e h;simp only[alW] at h;simp only[exec];split at h
  .rename_i i t1 b1 h1;rw[ih h1];simp only;cases hi:Nat.beq i id with
   |true=>rw[hi] at h;simp only[cond_true] at h;cases h;rw[aF (wg hi)]
   |false=>rw[hi] at h;simp only[cond_false] at h;cases h;rw[ay];intro hh;rw[hh,YG] at hi;cases hi
  rename_i aI;rw[ih h];cases e with
  |normal=>rfl
  |exit i=>exact(aI _ _ _ h).elim
  |ret=>rfl
 |loop c ih=>intro t t' b b' e h;simp only[alZ] at h;simp only[exec];exact aoW (fun _ _ _ _ _ h=>ih h) n h
noncomputable def Hi (sh:Ctx) (cp:fH) (cs:oI) (n:Nat) (fn:aV) (args:List V) (aj:BL):Option (V×BL):=
 bif Nat.ble args.length 4000 then
  match tB sh cp cs n fn.body (KK 0 args .leaf) aj with
  |some (.normal,ak,ao)=>(oF sh.al (pN ak) (kA ao) fn.results).map fun vs=>(Ah vs,ao)
  |some (.ret,ak,ao)=>(oF sh.al (pN ak) (kA ao) fn.results).map fun vs=>(Ah vs,ao)
  |_=>none
 else none
theorem asU{cf:oI}(hs:HV cs cf){n:Nat}{fn:aV}{b b':BL}{v:V}(h:Hi sh cp cf n fn args b=some (v,b')):qZ sh cp cs n fn args (kA b)=some (v,kA b'):=by
 unfold Hi at h;unfold qZ;cases hl:Nat.ble args.length 4000 with
 |false=>rw[hl] at h;cases h
 |true=>
  rw[hl] at h;simp only[cond_true] at h;have:=ig hl;rw[<- auP aa];split at h
  .rename_i ak b1 hx;rw[aaX hs _ hx];simp only[dE] at h ⊢;obtain⟨vs,h1,h2⟩:=h;cases h2;exact⟨vs,h1,rfl⟩
  .rename_i ak b1 hx;rw[aaX hs _ hx];simp only[dE] at h ⊢;obtain⟨vs,h1,h2⟩:=h;cases h2;exact⟨vs,h1,rfl⟩
  cases h
noncomputable def aj9 (S:Sys) (n:Nat) (cp:fH) (cs:oI):fH:=fun f args=>match S.prim f args with
  |some r=>r
  |none=>match S.fns f with
   |some fn=>bif Nat.ble args.length fn.ntmps then
     match Hi (S.ctx .all) cp cs n fn args [] with
     |some (v,b)=>iE (kA b) v
     |none=>none
    else none
   |none=>none
noncomputable def akb (S:Sys) (n:Nat) (cp:fH) (cs:oI):oI:=fun f args al b=>bif S.trig f args then (S.primS f args al (kA b)).map (fun r=>(r.1,FA r.2 b)) else match S.fns f with
  |some fn=>bif Nat.ble args.length fn.ntmps then Hi (S.ctx al) cp cs n fn args b else none
  |none=>none
noncomputable def ZR (S:Sys) (n:Nat):fH×oI:=Nat.rec (motive:=fun _=>fH×oI) (fun _ _=>none,fun _ _ _ _=>none) (fun n ih=>(aj9 S n ih.1 ih.2,akb S n ih.1 ih.2)) n
noncomputable def FH (S:Sys) (n:Nat):fH:=(ZR S n).1
noncomputable def AL (S:Sys) (n:Nat):oI:=(ZR S n).2
theorem aka(S:Sys)(n f:Nat)(args:List V):FH S (n+1) f args=match S.prim f args with
  |some r=>r
  |none=>match S.fns f with
   |some fn=>bif Nat.ble args.length fn.ntmps then
     match Hi (S.ctx .all) (FH S n) (AL S n) n fn args [] with
     |some (v,b)=>iE (kA b) v
     |none=>none
    else none
   |none=>none:=rfl
theorem akc(S:Sys)(n f:Nat)(args:List V)(al:Al)(b:BL):AL S (n+1) f args al b=bif S.trig f args then (S.primS f args al (kA b)).map (fun r=>(r.1,FA r.2 b)) else match S.fns f with
  |some fn=>bif Nat.ble args.length fn.ntmps then Hi (S.ctx al) (FH S n) (AL S n) n fn args b else none
  |none=>none:=rfl
theorem agN{qG:fH}(hp:HT cp qG){cf:oI}(hs:HV cs cf){n:Nat}{fn:aV}{b b':BL}{v:V}(h:Hi sh cp cf n fn args b=some (v,b')):qZ sh qG cs n fn args (kA b)=some (v,kA b'):=Rj hp (fun _ _ _ _ _ h=>h) (bJ _) (asU hs h)
theorem SR(S:Sys):∀n,HT (FH S n) (gh S n)/\HV (gj S n) (AL S n):=by
 intro n
 induction n with
 |zero=>have h1:∀f x,FH S 0 f x=none:=fun _ _=>rfl;have h2:∀f vs al b,AL S 0 f vs al b=none:=fun _ _ _ _=>rfl;exact⟨fun f x r h=>(by rw[h1] at h;cases h),fun f vs al b v b' h=>(by rw[h2] at h;cases h)⟩
 |succ n ih=>
  obtain⟨hp,hs⟩:=ih;refine⟨fun f x r h=>?_,fun f vs al b v b' h=>?_⟩
  .rw[aka] at h;rw[gh];split at h
   .rename_i r' tL;simp only[tL];exact h
   rename_i tL;simp only[tL];split at h
   .rename_i fn hfn;simp only[hfn];cases hl:Nat.ble x.length fn.ntmps with
    |false=>rw[hl] at h;cases h
    |true=>
     rw[hl] at h;simp only[cond_true] at h;rw[aF (ig hl)];split at h
     .rename_i v b hr;unfold E6;have:Aa=kA []:=rfl;rw[this,agN hp hs hr];exact h
     cases h
   cases h
  rw[akc] at h;rw[gj];cases ht:S.trig f vs with
  |true=>
   rw[ht] at h;simp only[cond_true] at h;rw[aF rfl];cases hp:S.primS f vs al (kA b) with
   |none=>rw[hp] at h;cases h
   |some r=>rw[hp] at h;cases h;rw[mz,X5]
  |false=>
  rw[ht] at h;simp only[cond_false,dx,if_false] at h ⊢;split at h
  .rename_i fn hfn;simp only[hfn];cases hl:Nat.ble vs.length fn.ntmps with
   |false=>rw[hl] at h;cases h
   |true=>rw[hl] at h;simp only[cond_true] at h;rw[aF (ig hl)];exact agN hp hs h
  cases h
def yU{α:Type}(f:α->α->Bool):List α->List α->Bool
 |[],[]=>true
 |a::r,b::s=>f a b&&yU f r s
 |_,_=>false
theorem Fx{α:Type}{f:α->α->Bool}(hf:∀a b,f a b=true->a=b):∀ {l m:List α},yU f l m=true->l=m:=by
 intro l
 induction l with
 |nil=>intro m h;cases m with
  |nil=>rfl
  |cons b m=>cases h
 |cons a l ih=>
  intro m h;cases m with
  |nil=>cases h
  |cons b m=>simp only[yU,cN] at h;rw[hf _ _ h.1,ih h.2]
def Ty:IntKind->IntKind->Bool
 | .i64,.i64=>true
 |a,b=>decide (a=b)
theorem alJ{a b:IntKind}(h:Ty a b=true):a=b:=by
 cases a<;>cases b<;>first
  |rfl
  |(simp[Ty] at h)
def FW:Nat->PV->PV->Bool
 |0,_,_=>false
 |_+1,.int k a,.int k' b=>Ty k k'&&a==b
 |_+1,.bool a,.bool b=>a==b
 |n+1,.sl a,.sl b=>yU (yU (FW n)) a b
 |n+1,.box a,.box b=>yU (FW n) a b
 |n+1,.fn f a b,.fn g c d=>Nat.beq f g&&(yU (FW n) a c&&yU (FW n) b d)
 |_+1,.nils,.nils=>true
 |_+1,.uP,.uP=>true
 |_+1,_,_=>false
theorem alK:∀(n:Nat) (x y:PV),FW n x y=true->x=y:=by
 intro n
 induction n with
 |zero=>intro x y h;cases h
 |succ n ih=>
  intro x y h;unfold FW at h;split at h
  .rename_i h0;cases h0
  .rename_i h0;cases h0;simp only[cN,dI] at h;rw[alJ h.1,h.2]
  .rename_i h0;cases h0;simp only[dI] at h;rw[h]
  .rename_i h0;cases h0;rw[Fx (fun _ _ h=>Fx ih h) h]
  .rename_i h0;cases h0;rw[Fx ih h]
  .rename_i h0;cases h0;simp only[cN] at h;rw[wg h.1,Fx ih h.2.1,Fx ih h.2.2]
  .rfl
  .rfl
  cases h
def Pe:C->C->Bool
 | .p a,.p b=>FW 12 a b
 |_,_=>false
theorem aaO{a b:C}(h:Pe a b=true):a=b:=by
 unfold Pe at h;split at h
 .rw[alK _ _ _ h]
 cases h
def Pf:V->V->Bool
 | .one a,.one b=>Pe a b
 | .agg a,.agg b=>yU Pe a b
 |_,_=>false
theorem alM{a b:V}(h:Pf a b=true):a=b:=by
 unfold Pf at h;split at h
 .rw[aaO h]
 .rw[Fx (fun _ _ h=>aaO h) h]
 cases h
abbrev jr:=List (Nat×List V×RV)
def NI:jr->Nat->List V->Option RV
 |[],_,_=>none
 |(f,a,r)::l,g,b=>bif Nat.beq f g&&yU Pf a b then some r else NI l g b
theorem apN:∀ {l:jr} {f:Nat} {a:List V} {r:RV},NI l f a=some r->(f,a,r)∈l:=by
 intro l
 induction l with
 |nil=>intro f a r h;cases h
 |cons e l ih=>
  obtain⟨g,b,s⟩:=e;intro f a r h;simp only[NI] at h;cases hb:(Nat.beq g f&&yU Pf b a) with
  |true=>rw[hb] at h;simp only[cond_true,fD] at h;simp only[cN] at hb;rw[wg hb.1,Fx (fun _ _ h=>alM h) hb.2,h];simp
  |false=>rw[hb] at h;exact ug _ (ih h)
def Sys.w8(S:Sys)(l:jr):Sys:={S with prim:=fun f a=>match NI l f a with
 |some r=>some (some r)
 |none=>S.prim f a}
def jg(S:Sys)(l:jr):Prop:=∀e∈l,aK S e.1 e.2.1 e.2.2
theorem jg.nil{S:Sys}:jg S []:=fun e h=>by simp at h
theorem jg.cons{S:Sys}{l:jr}{f:Nat}{a:List V}{r:RV}(h:aK S f a r)(hl:jg S l):jg S ((f,a,r)::l):=fun e he=>by
 rcases cM.1 he with rfl|he
 .exact h
 exact hl e he
theorem jg.bound{S:Sys}:∀ {l:jr},jg S l->∃M,∀e∈l,gh S M e.1 e.2.1=some e.2.2:=by
 intro l
 induction l with
 |nil=>intro _;exact⟨0,fun e h=>by simp at h⟩
 |cons e l ih=>
  intro h;obtain⟨M,hM⟩:=ih fun x hx=>h x (by simp[hx]);obtain⟨n,hn⟩:=h e af;refine⟨max M n,fun x hx=>?_⟩;rcases cM.1 hx with rfl|hx
  .exact DJ S (HN M n) _ _ _ hn
  exact DJ S (Fo M n) _ _ _ (hM x hx)
theorem aqd{S:Sys}{l:jr}{M:Nat}(hM:∀e∈l,gh S M e.1 e.2.1=some e.2.2):∀n,HT (gh (S.w8 l) n) (gh S (n+M))/\SLe (gj (S.w8 l) n) (gj S (n+M)):=by
 intro n
 induction n with
 |zero=>exact⟨fun f x r h=>by simp[gh] at h,fun f x l k r h=>by simp[gj] at h⟩
 |succ n ih=>
  have e1:n+1+M=(n+M)+1:=aa;have hc:∀al,(S.w8 l).ctx al=S.ctx al:=fun _=>rfl;refine⟨fun f x r h=>?_,fun f x al k r h=>?_⟩
  .rw[gh] at h;cases hl:NI l f x with
   |some r'=>
    have hp:(S.w8 l).prim f x=some (some r'):=by simp only[Sys.w8,hl]
    rw[hp] at h;cases h;exact DJ S aa _ _ _ (hM _ (apN hl))
   |none=>
    have hp:(S.w8 l).prim f x=S.prim f x:=by simp only[Sys.w8,hl]
    rw[hp] at h;rw[e1,gh];split at h
    .exact h
    have hfn:(S.w8 l).fns f=S.fns f:=rfl;rw[hfn] at h;split at h
    .rename_i fn hf;split at h
     .rename_i hlen;rw[aF hlen];rw[hc] at h;exact agM ih.1 ih.2 aa h
     cases h
    cases h
  rw[gj] at h;rw[e1,gj];have htr:(S.w8 l).trig f x=S.trig f x:=rfl;have dz:(S.w8 l).primS f x al k=S.primS f x al k:=rfl;rw[htr,dz] at h;by_cases ht:S.trig f x=true
  .rw[aF ht] at h ⊢;exact h
  rw[ay ht] at h ⊢;have hfn:(S.w8 l).fns f=S.fns f:=rfl;rw[hfn] at h;split at h
  .rename_i fn hf;split at h
   .rename_i hlen;rw[aF hlen];rw[hc] at h;exact Rj ih.1 ih.2 aa h
   cases h
  cases h
theorem lS{S:Sys}{l:jr}(hl:jg S l)(n:Nat){f:Nat}{r:RV}(h:FH (S.w8 l) n f args=some r):aK S f args r:=by obtain⟨M,hM⟩:=hl.bound;exact⟨n+M,(aqd hM n).1 _ _ _ ((SR (S.w8 l) n).1 _ _ _ h)⟩
inductive Fits {H:Type} (N:Nat):DataW H->Prop where
 |str (s:List UInt8) (h:s.length<=N):Fits N (.lit (.string s))
 |lit (l:Lit) (h:∀s,l≠ .string s):Fits N (.lit l)
 |nil:Fits N .nil
 |slice (es sp:List (DataW H)) (h:es.length<=N) (he:∀d∈es,Fits N d):Fits N (.slice es sp)
 |agg (es:List (DataW H)) (he:∀d∈es,Fits N d):Fits N (.agg es)
def jR(P:Program)(N:Nat):Nat->TypeId->List PV->Prop
 |0,_,_=>False
 |n+1,t,ps=>match P.underlying t with
  |some .bool=>∃b,ps=[.bool b]
  |some (.int k)=>∃z,ps=[.int k z]/\(Lit.int k z).wf=true
  |some .string=>∃s:ByteArray,ps=[.str s]/\s.size<=N
  |some (.slice e)=>∃es,ps=[.sl es]/\es.length<=N/\ ∀x∈es,jR P N n e x
  |some (.struct fs)=>∃parts:List (List PV),ps=parts.flatten/\parts.length=fs.toList.length/\ ∀(i:Nat) (f:Field) (x:List PV),fs.toList[i]?=some f->parts[i]?=some x->jR P N n f.type x
  |_=>False
def y8(P:Program):Nat->Nat->List Field->Bool
 |off,total,[]=>Nat.beq off total
 |off,total,f::r=>Nat.beq f.offset off&&y8 P (off+P.cellsOf f.type) total r
def jI(P:Program):Nat->TypeId->Bool
 |0,_=>false
 |n+1,t=>match P.underlying t with
  |some .bool|some (.int _)|some .string=>true
  |some (.slice e)=>Nat.blt 0 (P.cellsOf e)&&jI P n e
  |some (.struct fs)=>y8 P 0 (P.cellsOf t) fs.toList&&fs.toList.all fun f=>jI P n f.type
  |_=>false
section
variable {H:Type} {enc:TypeId×Value->H} {P:Program} {w:World} {base:Nat} {sp:Nat->Bool} {held:Bool} {N:Nat}
theorem dj.append{w:World}{own:Nat->Prop}{xs ys:List PV}{vs us:List Value}(h:dj w own xs vs)(k:dj w own ys us):dj w own (xs++ys) (vs++us):=Pw.append (R:=ch w own) h k
theorem ZW{w:World}{base:Nat}{a:Addr}{n:Nat}{cs:List Value}(h:w.cells? base a n=some cs):cs.length=n/\ ∀i,i<n->a.add i=⟨a.block,a.off+i,none⟩/\w.cell? ⟨a.block,a.off+i,none⟩=cs[i]? :=by
 unfold World.cells? at h;split at h
 .have hl:=mapM_some_length h;simp at hl;refine⟨hl,fun i hi=>?_⟩;have hg:=mapM_some_get h i i (by simp[hi]);have au:i<cs.length:=aa;have hv:cs[i]?=some cs[i]:=by simp[au]
  rw[hv] at hg;have adw:(a.add i).spot=none:=by
   cases nW:(a.add i).spot with
   |none=>rfl
   |some s=>
    simp only[World.cell?] at hg;split at hg
    .simp[nW] at hg
    cases hg
  have e:a.add i=⟨a.block,a.off+i,none⟩:=by
   unfold Addr.add at adw ⊢;split
   .rename_i h0;subst h0;rw[aF rfl] at adw;cases a
    simp_all
   rfl
  refine⟨e,?_⟩;rw[hv,<- hg,e]
 cases h
theorem amm{r:TypeId->List Value->Option (DataW H×List MemPlace)}{n:Nat}(ih:∀t cs x,jI P n t=true->r t cs=some x->Fits N x.1->∃pvs,jR P N n t pvs/\dj w (fun _=>False) pvs cs){cs:List Value}{total:Nat}(ht:cs.length=total):
  ∀(fs:List Field) (off:Nat) (xs:List (DataW H×List MemPlace)),y8 P off total fs=true->(∀f∈fs,jI P n f.type=true)->
   fs.mapM (fun f=>r f.type ((cs.drop f.offset).take (P.cellsOf f.type)))=some xs->(∀x∈xs,Fits N x.1)->off<=total->(∀f∈fs,∀c x,r f.type c=some x->∀pvs,jR P N n f.type pvs->dj w (fun _=>False) pvs c->True)->
   ∃parts:List (List PV),parts.length=fs.length/\(∀(i:Nat) (f:Field) (x:List PV),fs[i]?=some f->parts[i]?=some x->jR P N n f.type x)/\(dj w (fun _=>False) parts.flatten (cs.drop off)):=by
 intro fs
 induction fs with
 |nil=>
  intro off xs hc _ _ _ hle _;simp only[y8] at hc;have:=wg hc;refine⟨[],rfl,fun i f x h=>by simp at h,?_⟩;have:cs.drop off=[]:=by rw[List.drop_eq_nil_iff];omega
  rw[this];exact⟨rfl,fun j x u h=>by simp at h⟩
 |cons f fs ihf=>
  intro off xs hc ho hm hf hle hT;simp only[y8,cN] at hc;have wS:=wg hc.1;rw[List.mapM_cons] at hm;simp only[Option.bind_eq_bind,Sp,Option.pure_def,fD] at hm;obtain⟨x,hx,xs',Ny,rfl⟩:=hm;obtain⟨pvs,p1,p2⟩:=ih _ _ _ (ho f af) hx (hf x af);have hlen:=p2.1;by_cases adi:off+P.cellsOf f.type<=total
  .obtain⟨parts,q1,q2,q3⟩:=ihf (off+P.cellsOf f.type) xs' hc.2 (fun g hg=>ho g (by simp[hg])) Ny (fun y hy=>hf y (by simp[hy])) adi (fun _ _ _ _ _ _ _ _=>trivial);refine⟨pvs::parts,by simp[q1],fun i g y hi hy=>?_,?_⟩
   .cases i with
    |zero=>simp at hi hy;subst hi hy;exact p1
    |succ i=>exact q2 i g y (by simpa using hi) (by simpa using hy)
   have:cs.drop off=(cs.drop f.offset).take (P.cellsOf f.type)++cs.drop (off+P.cellsOf f.type):=by rw[wS,<- Yq];exact(nC _ _).symm
   rw[this];simp only[lQ];exact dj.append p2 q3
  exfalso;have mono:∀(l:List Field) (o:Nat),y8 P o total l=true->o<=total:=by
   intro l
   induction l with
   |nil=>intro o h;simp only[y8] at h;have:=wg h;omega
   |cons g l ihl=>intro o h;simp only[y8,cN] at h;have:=ihl _ h.2;omega
  exact adi (mono _ _ hc.2)
theorem asT{sz:Nat}{f:Nat->Value}:∀(es:List (List PV)) (rows:List (List Value)) (k:Nat),rows.length=es.length->(∀(i:Nat) (e:List PV) (v:List Value),es[i]?=some e->rows[i]?=some v->dj w (fun _=>False) e v/\v.length=sz/\ ∀j u,v[j]?=some u->f ((k+i)*sz+j)=u)->
  ∀(j:Nat) (x:PV),es.flatten[j]?=some x->ch w (fun _=>False) x (f (k*sz+j)):=by
 intro es
 induction es with
 |nil=>intro rows k _ _ j x h;simp at h
 |cons e es ih=>
  intro rows k hl h j x hx;cases rows with
  |nil=>simp at hl
  |cons v rows=>
   obtain⟨a1,a2,a3⟩:=h 0 e v rfl rfl;have dB:e.length=sz:=by rw[<- a2];exact a1.1.symm
   simp only[lQ] at hx;by_cases hj:j<e.length
   .rw[uY hj] at hx;have hv:v[j]?=some v[j]:=by simp[show j<v.length by omega]
    have:=a3 j _ hv;simp only[xw] at this;rw[this];exact a1.2 j x _ hx hv
   rw[v8 aa] at hx;have:=ih rows (k+1) (by simpa using hl) (fun i e' v' h1 h2=>by have:=h (i+1) e' v' (by simpa using h1) (by simpa using h2);rw[show k+(i+1)=k+1+i by omega] at this;exact this) (j-e.length) x hx
   rw[show k*sz+j=(k+1)*sz+(j-e.length) by rw[fZ];omega];exact this
theorem auZ:∀(n fuel:Nat) (t:TypeId) (cs:List Value) (x:DataW H×List MemPlace),jI P n t=true->DataW.trod enc P w base sp held fuel t cs=some x->Fits N x.1->
  ∃pvs,jR P N n t pvs/\dj w (fun _=>False) pvs cs:=by
 intro n
 induction n with
 |zero=>intro fuel t cs x h;simp[jI] at h
 |succ n ih=>
  intro fuel t cs x aq h hf;cases fuel with
  |zero=>simp[DataW.trod] at h
  |succ fuel=>
   rw[DataW.trod_step] at h;have one:∀ {p:PV} {v:Value},ch w (fun _=>False) p v->dj w (fun _=>False) [p] [v]:=by
    intro p v hp;refine⟨rfl,fun j x u a b=>?_⟩;cases j with
    |zero=>simp at a b;subst a b;exact hp
    |succ j=>simp at a
   unfold DataW.trodStep at h;unfold jI at aq;split at h
   case h_1 b hu=>exact⟨[.bool b],by simp only[jR,hu];exact⟨b,rfl⟩,one (.bool b)⟩
   case h_2 k k' z hu=>
    split at h
    .rename_i hc;obtain⟨rfl,hwf⟩:=hc;exact⟨[.int k' z],by simp only[jR,hu];exact⟨z,rfl,hwf⟩,one (.int k' z)⟩
    cases h
   case h_4 s hu=>
    split at h
    .cases h;cases hf with
     |str _ hs=>exact⟨[.str s],by simp only[jR,hu];exact⟨s,rfl,by simpa using hs⟩,one (.str s)⟩
     |lit _ hs=>exact(hs _ rfl).elim
    cases h
   case h_7 e hu=>exact⟨[.sl []],by simp only[jR,hu];exact⟨[],rfl,bl _,fun x hx=>by simp at hx⟩,one (.yE none 0 (fun _=>rfl) (bl _))⟩
   case h_8 e a len cap hu=>
    rw[hu] at aq;simp only[cN] at aq;obtain⟨gE,hoe⟩:=aq;have gE:0<P.cellsOf e:=by have:=gE;simp[Nat.blt] at this;omega
    simp only at h;split at h
    .rename_i hc;obtain⟨hb,hlc,xU⟩:=hc;simp only[dE,Sp] at h;obtain⟨elems,he,rest,aop,rfl⟩:=h;have hlen:elems.length=len:=by simpa using mapM_some_length he
     cases hf with
     |slice _ _ hl hfe=>
     simp only[cD] at hl;have get:∀i,i<len->∃y row pv,elems[i]?=some y/\w.cells? base (a.add (i*P.cellsOf e)) (P.cellsOf e)=some row/\jR P N n e pv/\dj w (fun _=>False) pv row:=by intro i hi;have hg:=mapM_some_get he i i (by simp[hi]);have au:i<elems.length:=aa;rw[my au] at hg;simp only[Sp] at hg;obtain⟨row,h1,h2⟩:=hg;obtain⟨pv,p1,p2⟩:=ih _ _ _ _ hoe h2 (hfe _ (dp.2 ⟨_,Yv au,rfl⟩));exact⟨_,row,pv,my au,h1,p1,p2⟩
     cases tK:len with
     |zero=>refine⟨[.sl []],by simp only[jR,hu];exact⟨[],rfl,bl _,fun x hx=>by simp at hx⟩,one (.yE (some a) cap (fun h=>by cases h) xU)⟩
     |succ len'=>
      rw[<- tK];have h0:0<len:=aa;obtain⟨_,row0,_,_,uI,_,_⟩:=get 0 h0;have ha:a=⟨a.block,a.off,none⟩:=by
       have h1:a.add 0=a:=by unfold Addr.add;rw[aF rfl]
       rw[As,h1] at uI;have:=((ZW uI).2 0 gE).1;rw[h1] at this;exact this
      have Ww:∀i,i<len->∃row pv,row.length=P.cellsOf e/\(∀j,j<P.cellsOf e->w.cell? ⟨a.block,a.off+(i*P.cellsOf e+j),none⟩=row[j]?)/\jR P N n e pv/\dj w (fun _=>False) pv row:=by
       intro i hi;obtain⟨_,row,pv,_,h1,h2,h3⟩:=get i hi;obtain⟨l1,l2⟩:=ZW h1;refine⟨row,pv,l1,fun j hj=>?_,h2,h3⟩;have:=(l2 j hj).2;rw[<- this];have e2:a.add (i*P.cellsOf e)=⟨a.block,a.off+i*P.cellsOf e,none⟩:=by
        rw[ha];unfold Addr.add;split
        .rename_i h9;rw[h9];rfl
        rfl
       rw[e2];simp[HM]
      let row:Nat->List Value:=fun i=>if h:i<len then (Ww i h).choose else []
      let pv:Nat->List PV:=fun i=>if h:i<len then (Ww i h).choose_spec.choose else []
      have Nr:∀i,i<len->(row i).length=P.cellsOf e/\(∀j,j<P.cellsOf e->w.cell? ⟨a.block,a.off+(i*P.cellsOf e+j),none⟩=(row i)[j]?)/\jR P N n e (pv i)/\dj w (fun _=>False) (pv i) (row i):=by intro i hi;simp only[row,pv,dif_pos hi];exact(Ww i hi).choose_spec.choose_spec
      let es:=(List.range len).map pv
      have PU:es.length=len:=by simp[es]
      have CF:∀(i:Nat) (x:List PV),es[i]?=some x->i<len/\x=pv i:=by
       intro i x hx;have hi:i<len:=by rw[<- PU];exact(aW.1 hx).1
       refine⟨hi,?_⟩;simp only[es,fQ,uf hi,mz,fD] at hx;exact hx.symm
      let f:Nat->Value:=fun j=>(w.cell? ⟨a.block,a.off+j,none⟩).getD undef
      refine⟨[.sl es],?_,one ?_⟩
      .simp only[jR,hu];refine⟨es,rfl,aa,fun x hx=>?_⟩;obtain⟨i,hi⟩:=je hx;obtain⟨h1,rfl⟩:=CF i x hi;exact(Nr i h1).2.2.1
      rw[ha];have cq:∀x∈es,x.length=P.cellsOf e:=by intro x hx;obtain⟨i,hi⟩:=je hx;obtain⟨h1,rfl⟩:=CF i x hi;have:=(Nr i h1).2.2.2.1;rw[<- this];exact(Nr i h1).1
      have ek:=asT (w:=w) (sz:=P.cellsOf e) (f:=f) es ((List.range len).map row) 0 (by simp[PU]) (fun i x v h1 h2=>by
       obtain⟨hi,rfl⟩:=CF i x h1;simp only[fQ,uf hi,mz,fD] at h2;subst h2;obtain⟨s1,s2,s3,s4⟩:=Nr i hi;refine⟨s4,s1,fun j u hu=>?_⟩;have hj:j<P.cellsOf e:=by rw[<- s1];exact(aW.1 hu).1
       simp only[f,iQ];rw[s2 j hj,hu];rfl)
      simp only[As,iQ] at ek;have xY:∀(l:List (List PV)),(∀x∈l,x.length=P.cellsOf e)->l.flatten.length=l.length*P.cellsOf e:=by
       intro l
       induction l with
       |nil=>intro _;simp
       |cons x l ihl=>intro hx;simp only[lQ,ff,dh];rw[hx x af,ihl (fun y hy=>hx y (by simp[hy])),fZ];omega
      refine PU▸ch.sl a.block a.off cap (P.cellsOf e) f (fun _ h=>h) aa xU cq (fun j x hx=>?_) ek;have hj:j<len*P.cellsOf e:=by have:=(aW.1 hx).1;rw[xY es cq,PU] at this;exact this
      have hi:j/P.cellsOf e<len:=Nat.div_lt_of_lt_mul (by rw[Sm];exact hj);obtain⟨s1,s2,s3,s4⟩:=Nr _ hi;have hm:j%P.cellsOf e<P.cellsOf e:=dO _ gE;have:=s2 _ hm;rw[show j/P.cellsOf e*P.cellsOf e+j%P.cellsOf e=j by rw[Sm];exact aiv j _] at this;have Wz:(row (j/P.cellsOf e))[j%P.cellsOf e]?=some (row (j/P.cellsOf e))[j%P.cellsOf e]:=by simp[s1,hm]
      rw[Wz] at this;simp only[f,this,mV]
    cases h
   case h_9=>
    rename_i fs hu;rw[hu] at aq;simp only[cN] at aq;split at h
    .rename_i hc;simp only[dE] at h;obtain⟨xs,hx,rfl⟩:=h;cases hf with
     |agg _ hfe=>
     obtain⟨parts,p1,p2,p3⟩:=amm (r:=DataW.trod enc P w base sp held fuel) (n:=n) (fun t cs x h1 h2 h3=>ih _ _ _ _ h1 h2 h3) hc fs.toList 0 xs aq.1 (fun f hf=>jd.1 aq.2 f hf) hx (fun y hy=>hfe _ (dp.2 ⟨y,hy,rfl⟩)) (bl _) (fun _ _ _ _ _ _ _ _=>trivial);refine⟨parts.flatten,by simp only[jR,hu];exact⟨parts,rfl,p1,p2⟩,?_⟩
     simpa using p3
    cases h
   all_goals(first|(cases h;done)|(simp_all;done)|(exfalso;simp_all;done))
end
end
end Go.Abs
namespace Go.Abs
variable {H:Type} {enc:TypeId×Value->H} {P:Program} {w:World} {N:Nat}
theorem akQ:∀(fs:List Field) (off total:Nat),y8 P off total fs=true->total=off+(fs.map fun f=>P.cellsOf f.type).sum/\ ∀(j:Nat) (f:Field),fs[j]?=some f->f.offset=off+((fs.take j).map fun f=>P.cellsOf f.type).sum:=by
 intro fs
 induction fs with
 |nil=>intro off total h;simp only[y8] at h;have:=wg h;exact⟨by simp;omega,fun j f h=>by simp at h⟩
 |cons f fs ih=>
  intro off total h;simp only[y8,cN] at h;have h0:=wg h.1;obtain⟨i1,i2⟩:=ih _ _ h.2;refine⟨by simp;omega,fun j g hg=>?_⟩;cases j with
  |zero=>simp at hg;subst hg;simp;omega
  |succ j=>have:=i2 j g (by simpa using hg);simp only[YE,dK,Sl];omega
theorem ao7:Kids P (fun t=>∃n,jI P n t=true):=by
 have un:∀ {t:TypeId},(∃n,jI P n t=true)->∃n,jI P (n+1) t=true:=by
  rintro t ⟨n,h⟩
  cases n with
  |zero=>simp[jI] at h
  |succ n=>exact⟨n,h⟩
 refine⟨fun ht hu=>?_,fun ht hu=>?_,fun ht hu=>?_,fun ht hu=>?_,fun ht hu=>?_⟩
 .obtain⟨n,h⟩:=un ht;simp[jI,hu] at h
 .obtain⟨n,h⟩:=un ht;simp only[jI,hu,cN] at h;exact⟨n,h.2⟩
 .obtain⟨n,h⟩:=un ht;simp[jI,hu] at h
 .obtain⟨n,h⟩:=un ht;simp only[jI,hu,cN] at h;obtain⟨c1,c2⟩:=akQ _ _ _ h.1;refine⟨fun f hf=>⟨n,jd.1 h.2 f hf⟩,by rw[c1];simp,fun j f hj=>by rw[c2 j f hj];simp⟩
 obtain⟨n,h⟩:=un ht;simp[jI,hu] at h
theorem auX{w':World}{Hk:Nat->Bool}{t:TypeId}{v:Value}{d:DataW H}{ps:List MemPlace}(hk:∃n,jI P n t=true)(h:DataW.Trod enc P w 0 (fun _=>true) true t v d ps)
  (Bd:∀p∈ps,w.sameAt w' p) (hs:∀p∈ps,Hk p.block=true):DataW.Trod enc P w' 0 Hk true t v d ps:=by
 obtain⟨fuel,h⟩:=h;refine⟨fuel,DataW.trod_stays (T:=fun t=>∃n,jI P n t=true) ao7 ?_ (fun h=>by cases h) hk h Bd hs⟩;rintro t e ⟨n,h⟩ hu
 cases n with
 |zero=>simp[jI] at h
 |succ n=>simp only[jI,hu,cN] at h;have:=h.1;simp[Nat.blt] at this;omega
theorem auW{w':World}{Hk:Nat->Bool}:∀ {ts:List TypeId} {vs:List Value} {ds:List (DataW H)} {ps:List MemPlace},(∀t∈ts,∃n,jI P n t=true)->DataW.TrodAll enc P w 0 (fun _=>true) true ts vs ds ps->
  (∀p∈ps,w.sameAt w' p)->(∀p∈ps,Hk p.block=true)->DataW.TrodAll enc P w' 0 Hk true ts vs ds ps:=by
 intro ts
 induction ts with
 |nil=>intro vs ds ps _ h _ _;cases vs<;>cases ds<;>exact h
 |cons t ts ih=>
  intro vs ds ps hk h jX fp;cases vs with
  |nil=>exact h.elim
  |cons v vs=>
   cases ds with
   |nil=>exact h.elim
   |cons d ds=>obtain⟨p,q,h1,h2,rfl⟩:=h;exact⟨p,q,auX (hk t af) h1 (fun x hx=>jX x (by simp[hx])) (fun x hx=>fp x (by simp[hx])),ih (fun t ht=>hk t (by simp[ht])) h2 (fun x hx=>jX x (by simp[hx])) (fun x hx=>fp x (by simp[hx])),rfl⟩
def BX(P:Program)(t:TypeId)(ps:List PV):V:=
 match P.underlying t with
 |some (.struct _)=>.agg (ps.map .p)
 |_=>match ps with
  |[x]=>.one (.p x)
  |_=>.undef
theorem ajn{r:Reach}{b0 n:Nat}{sp:Nat->Bool}{held:Bool}{t:TypeId}{v:Value}{d:DataW H}{ps:List MemPlace}(hk:jI P n t=true)(hval:Value.okWide P w r b0 t v)(h:DataW.Trod enc P w 0 sp held t v d ps)(hf:Fits N d):
  ∃pvs,jR P N n t pvs/\r4 w (fun _=>False) (BX P t pvs) v:=by
 obtain⟨fuel,h⟩:=h;obtain⟨pvs,h1,h2⟩:=auZ n fuel t _ _ hk h hf;refine⟨pvs,h1,?_⟩;cases n with
 |zero=>simp[jI] at hk
 |succ n=>
  have one:∀x:PV,pvs=[x]->(∀cs,v≠ .agg cs)->ch w (fun _=>False) x v:=by
   rintro x rfl aI
   have:v.cells.toList=[v]:=by
    cases v<;>first
     |rfl
     |exact(aI _ rfl).elim
   rw[this] at h2;exact h2.2 0 x v rfl rfl
  have nagg:∀ {k:TypeDesc},P.underlying t=some k->(∀fs,k≠ .struct fs)->(∀a b,k≠ .array a b)->∀cs,v≠ .agg cs:=by
   rintro k hu cP jk cs rfl
   unfold Value.okWide at hval;rw[hu] at hval;cases k<;>simp_all[Cell.okWide,Cell.ok]
  simp only[jR] at h1;unfold BX;cases hu:P.underlying t with
  |none=>rw[hu] at h1;exact h1.elim
  |some k=>
   rw[hu] at h1;cases k<;>simp only at h1<;>try exact h1.elim
   case bool=>obtain⟨b,rfl⟩:=h1;exact one _ rfl (nagg hu af af)
   case int k=>obtain⟨b,rfl,_⟩:=h1;exact one _ rfl (nagg hu af af)
   case string=>obtain⟨b,rfl,_⟩:=h1;exact one _ rfl (nagg hu af af)
   case slice e=>obtain⟨es,rfl,_⟩:=h1;exact one _ rfl (nagg hu af af)
   case struct fs=>unfold Value.okWide at hval;rw[hu] at hval;simp only at hval;obtain⟨cs,rfl,cq,_⟩:=hval;exact⟨cs,pvs,rfl,rfl,h2⟩
def OM(P:Program)(N n:Nat):List TypeId->List (List PV)->Prop
 |[],[]=>True
 |t::ts,p::ps=>jR P N n t p/\OM P N n ts ps
 |_,_=>False
def BY(P:Program):List TypeId->List (List PV)->List V
 |t::ts,p::ps=>BX P t p::BY P ts ps
 |_,_=>[]
theorem ajt{r:Reach}{b0 n:Nat}{sp:Nat->Bool}{held:Bool}:∀ {ts:List TypeId} {vs:List Value} {ds:List (DataW H)} {ps:List MemPlace},(∀t∈ts,jI P n t=true)->(∀(j:Nat) t v,ts[j]?=some t->vs[j]?=some v->Value.okWide P w r b0 t v)->
  DataW.TrodAll enc P w 0 sp held ts vs ds ps->(∀d∈ds,Fits N d)->∃pvss,OM P N n ts pvss/\Pw (r4 w (fun _=>False)) (BY P ts pvss) vs:=by
 intro ts
 induction ts with
 |nil=>
  intro vs ds ps _ _ h _;cases vs with
  |nil=>exact⟨[],trivial,rfl,fun j x u h=>by simp[BY] at h⟩
  |cons v vs=>cases ds<;>exact h.elim
 |cons t ts ih=>
  intro vs ds ps hk hv h hf;cases vs with
  |nil=>exact h.elim
  |cons v vs=>
   cases ds with
   |nil=>exact h.elim
   |cons d ds=>
    obtain⟨p,q,h1,h2,rfl⟩:=h;obtain⟨x,a1,a2⟩:=ajn (hk t af) (hv 0 t v rfl rfl) h1 (hf d af);obtain⟨xs,b1,b2,b3⟩:=ih (fun t ht=>hk t (by simp[ht])) (fun j t v e1 e2=>hv (j+1) t v (by simpa using e1) (by simpa using e2)) h2 (fun d hd=>hf d (by simp[hd]));refine⟨x::xs,⟨a1,b1⟩,by simpa [BY] using b2,fun j y u e1 e2=>?_⟩;cases j with
    |zero=>simp[BY] at e1 e2;subst e1 e2;exact a2
    |succ j=>exact b3 j y u (by simpa [BY] using e1) (by simpa using e2)
end Go.Abs
namespace Go.Abs
open Go.RowKit
theorem fy.aqF(w:World)(k:Nat)(os:Array Obj):fy w (Go.Sort.grow (w.drewN k) os):=
 ⟨rfl,rfl,rfl,by simp[Go.Sort.grow,World.drewN],fun c hc=>by simp[Go.Sort.grow,World.drewN,aib,hc]⟩
theorem N5{w w':World}{O:Nat->Prop}{x:PV}{v:Value}(hg:fy w w')(h:ch w' O x v):u7 w O (.one (.p x)) (.returned v) w':=
 ⟨v,[],rfl,hg,uh,fun c hc=>by simp at hc,[v],rfl,v,[],rfl,h.mono fun c _ hn=>⟨rfl,fun hq=>hn (hq.elim id fun h=>by simp at h)⟩,rfl,rfl⟩
theorem pw1{w:World}{O:Nat->Prop}{x:PV}{args:Array Value}(h:Pw (r4 w O) [.one (.p x)] args.toList):∃v,args= #[v]/\ch w O x v:=by
 obtain⟨h1,h2⟩:=h;obtain⟨l⟩:=args
 match l,h1 with
 |[v],_=>exact⟨v,rfl,h2 0 _ v rfl rfl⟩
theorem aaK{w:World}{O:Nat->Prop}{v:Value}(h:ch w O (.sl []) v):∃a cap,v=.slice a 0 cap/\(a=none->cap=0)/\cap<=maxLen:=by
 generalize hx:PV.sl []=x at h;cases h<;>cases hx
 .exact⟨_,_,rfl,by assumption,by assumption⟩
 exact⟨_,_,rfl,fun h=>by simp at h,by assumption⟩
theorem afi{w:World}{O:Nat->Prop}{a:Option Addr}{cap:Nat}(h:a=none->cap=0)(hm:cap<=maxLen):ch w O (.sl []) (.slice a 0 cap):=.yE a cap h hm
def ze:Nat->Nat->List UInt8->List UInt8
 |0,_,acc=>acc
 |k+1,u,acc=>bif Nat.blt u 10 then UInt8.ofNat (Nat.add 48 u)::acc else ze k (Nat.div u 10) (UInt8.ofNat (Nat.add 48 (Nat.mod u 10))::acc)
theorem aaz:∀(k u:Nat) (acc:List UInt8),u<10 ^ (k+1)->ze (k+1) u acc=Lib.decDigits u++acc:=by
 intro k
 induction k with
 |zero=>
  intro u acc h;have h:u<10:=by simpa using h
  unfold Lib.decDigits;have hb:Nat.blt u 10=true:=aiu h;simp only[ze,hb,cond_true,dif_pos h];rfl
 |succ k ih=>
  intro u acc h;rw[Lib.decDigits,ze];by_cases h0:u<10
  .have hb:Nat.blt u 10=true:=aiu h0;simp only[hb,cond_true,dif_pos h0];rfl
  have hb:Nat.blt u 10=false:=by
   cases e:Nat.blt u 10 with
   |false=>rfl
   |true=>exact(h0 (ig e)).elim
  simp only[hb,cond_false,dif_neg h0];have:(Nat.div u 10)<10 ^ (k+1):=by have e:Nat.div u 10=u/10:=rfl;rw[e];have:10 ^ (k+1+1)=10 ^ (k+1)*10:=Nat.pow_succ ..;omega
  rw[ih _ _ this];simp only[yK,List.singleton_append];rfl
def mg(n:Int):ByteArray:=⟨(match n with| .ofNat u=>ze 20 u []| .negSucc u=>45::ze 20 (Nat.succ u) []).toArray⟩
theorem aoZ(n:Int)(h0: -9223372036854775808<=n)(h1:n<=9223372036854775807):mg n=⟨(Lib.itoa n).toArray⟩:=by
 unfold mg Lib.itoa;cases n with
 |ofNat u=>have:¬(Int.ofNat u<0):=af;rw[ay this];simp only;rw[aaz 19 u [] (by simp at h1;omega)];simp
 |negSucc u=>have:Int.negSucc u<0:=Int.negSucc_lt_zero u;rw[aF this];simp only;rw[aaz 19 (Nat.succ u) [] aa];simp[Int.natAbs]
def Q8(args:List V):Option RV:=
 match args with
 |[.one (.p (.int .i64 n))]=>if -9223372036854775808<=n/\n<=9223372036854775807 then some (.one (.p (.str (mg n)))) else none
 |_=>none
theorem ar6{P:Program}{f:Nat}{nm:String}{G:World->Prop}{args:List V}{r:RV}(hG:∀w,G w->Lib.TabIs P w nm .u64 Lib.pow10Tab)
  (hf:∀(n:Int),-9223372036854775808<=n->n<=9223372036854775807->∀w:World,Lib.TabIs P w nm .u64 Lib.pow10Tab->Calls P f #[.int .i64 n] w fun e w'=>e=.returned (.string ⟨(Lib.itoa n).toArray⟩)/\ ∃k os,w'=Go.Sort.grow (w.drewN k) os)
  (h:Q8 args=some r):∀(w:World) (O:Nat->Prop) (as:Array Value),Good G w->Pw (r4 w O) args as.toList->Calls P f as w (u7 w O r):=by
 intro w O as hg ha;unfold Q8 at h;split at h
 .rename_i n;split at h
  .rename_i hr;cases h;obtain⟨v,rfl,hp⟩:=pw1 ha;generalize hx:PV.int .i64 n=x at hp;cases hp<;>cases hx
   refine(hf n hr.1 hr.2 w (hG w hg.1)).mono ?_;rintro e w' ⟨rfl,k,os,rfl⟩
   rw[aoZ n hr.1 hr.2];exact N5 (fy.aqF _ _ _) (.str _)
  cases h
 cases h
def N6(args:List V):Option RV:=
 match args with
 |[.one (.p (.int .u64 n))]=>if 0<=n/\n<=18446744073709551615 then some (.one (.p (.int .i64 (Lib.bitLen n.toNat)))) else none
 |_=>none
theorem ar3{P:Program}{f:Nat}{args:List V}{r:RV}(hf:∀(x:Int) (w:World),0<=x->x<=18446744073709551615->Calls P f #[.int .u64 x] w fun e w'=>e=.returned (.int .i64 (Lib.bitLen x.toNat))/\w'=w)
  (h:N6 args=some r):∀(w:World) (O:Nat->Prop) (as:Array Value),Pw (r4 w O) args as.toList->Calls P f as w (u7 w O r):=by
 intro w O as ha;unfold N6 at h;split at h
 .rename_i n;split at h
  .rename_i hr;cases h;obtain⟨v,rfl,hp⟩:=pw1 ha;generalize hx:PV.int .u64 n=x at hp;cases hp<;>cases hx
   refine(hf n w hr.1 hr.2).mono ?_;rintro e w' ⟨rfl,rfl⟩
   exact N5 (fy.refl _) (.int _ _)
  cases h
 cases h
def Q6(args:List V):Option (Option RV):=
 match args with
 |[.one (.p (.sl []))]=>some (some (.one (.p (.sl []))))
 |_=>none
theorem ar5{S:Sys}{G:World->Prop}(hS:HW S G){f n:Nat}{z i g z':Nat}{fn:aV}{ao:aA}(hfn:S.fns f=some fn)(h1:gh S n f [.one (.p .nils)]=some (.one (.p .nils)))
  (h2:gj S n f [.one (.hsl 0 0 z 0 0)] .all Aa=some (.one (.hsl i g z' 0 0),ao)) {args:List V} {r:RV} (h:Q6 args=some (some r)):
  ∀(w:World) (O:Nat->Prop) (as:Array Value),Good G w->(∀c,O c->c<w.heap.size)->Pw (r4 w O) args as.toList->Calls S.P f as w (u7 w O r):=by
 intro w O as hg hO ha;unfold Q6 at h;split at h
 .cases h;obtain⟨v,rfl,hp⟩:=pw1 ha;obtain⟨a,cap,rfl,hn,hm⟩:=aaK hp;cases a with
  |none=>
   obtain rfl:=hn rfl;refine((sound hS n).1 f _ _ h1 |>.2 w O #[.slice none 0 0] hg hO ⟨rfl,fun j x u p q=>?_⟩).mono ?_
   .cases j with
    |zero=>simp at p q;subst p q;exact ch.nils
    |succ j=>simp at p
   rintro e w' ⟨val,bs,rfl,rH,eZ,lL,vs,q1,q2⟩
   obtain⟨v0,mS,e1,e2,e3,e4⟩:=q2;have hq1:vs=[val]:=q1;subst hq1;cases e1;subst e4;cases e2;exact N5 rH (afi (fun _=>rfl) (bl _))
  |some a=>
   let m0:Mem:=⟨w,Aa,fun _=>0,fun _=>0,O⟩
   have aq:Ok w m0:=⟨rfl,rfl,rfl,bJ _,fun _ _=>rfl,(fun id o h=>by cases h),(fun id o h=>by cases h),hO,(fun id eT o o' h=>by cases h)⟩;refine(((sound hS n).2.1 f _ _ _ _ _ h2).2 w m0 #[.slice (some a) 0 cap] hg aq rfl ⟨rfl,fun j x u p q=>?_⟩).mono ?_
   .cases j with
    |zero=>simp at p q;subst p q;exact cY.hsl a cap (bl _) (bl _) hm (fun sz _ h=>by cases h)
    |succ j=>simp at p
   rintro e w' ⟨val,m',rfl,rfl,q1,q2,q3,q4,q5⟩
   have hq:cY m' (.hsl i g z' 0 0) val:=q5;cases hq with
   |hsl a2 cap2 _ _ sM _=>
    refine N5 ⟨q2.os,q2.tape,q2.output,q2.size,fun c hc=>q2.keep c hc ?_⟩ (afi (fun h=>by cases h) sM);rintro ⟨id,o,h,_⟩
    cases h
 cases h
def Q7(args:List V):Option (Option RV):=
 match args with
 |[.one (.p (.sl []))]=>some (some (.one (.p .zs)))
 |_=>none
theorem ar4{P:Program}{G:World->Prop}{f:Nat}(h1:∀(w:World) (a:Option Addr) (c:Nat),Calls P f #[.slice a 0 c] w fun e w'=>∃b,e=.returned (.slice b 0 0)/\fy w w'){args:List V}{r:RV}(h:Q7 args=some (some r)):
  ∀(w:World) (O:Nat->Prop) (as:Array Value),Good G w->(∀c,O c->c<w.heap.size)->Pw (r4 w O) args as.toList->Calls P f as w (u7 w O r):=by
 intro w O as hg hO ha;unfold Q7 at h;split at h
 .cases h;obtain⟨v,rfl,hp⟩:=pw1 ha;obtain⟨a,cap,rfl,hn,hm⟩:=aaK hp;refine(h1 w a cap).mono ?_;rintro e w' ⟨b,rfl,rH⟩
  exact N5 rH (ch.zs b)
 cases h
end Go.Abs
namespace Go.Abs
open Go.RowKit Go.WideShapes Go.ChangeShapes
section
variable {H:Type} {enc:TypeId×Value->H} {P:Program} {w:World} {base:Nat} {sp:Nat->Bool} {held:Bool}
theorem auY:∀(n fuel:Nat) (t:TypeId) (cs:List Value) (x:DataW H×List MemPlace),jI P n t=true->DataW.trod enc P w base sp held fuel t cs=some x->Fits maxLen x.1:=by
 intro n
 induction n with
 |zero=>intro fuel t cs x h;simp[jI] at h
 |succ n ih=>
  intro fuel t cs x aq h;cases fuel with
  |zero=>simp[DataW.trod] at h
  |succ fuel=>
   rw[DataW.trod_step] at h;unfold DataW.trodStep at h;unfold jI at aq;split at h
   case h_1=>cases h;exact .lit _ (fun s h=>by cases h)
   case h_2=>
    split at h
    .cases h;exact .lit _ (fun s h=>by cases h)
    cases h
   case h_4=>
    split at h
    .rename_i hs;cases h;exact .str _ (by simpa using hs)
    cases h
   case h_7=>cases h;exact .nil
   case h_8 e a len cap hu=>
    rw[hu] at aq;simp only[cN] at aq;simp only at h;split at h
    .rename_i hc;simp only[dE,Sp] at h;obtain⟨elems,he,rest,aop,rfl⟩:=h;have hlen:elems.length=len:=by simpa using mapM_some_length he
     refine .slice _ _ (by simp;omega) (fun d hd=>?_);obtain⟨y,hy,rfl⟩:=dp.1 hd;obtain⟨i,_,hi⟩:=mapM_mem_of he y hy;simp only[Sp] at hi;obtain⟨row,_,h2⟩:=hi;exact ih _ _ _ _ aq.2 h2
    cases h
   case h_9=>
    rename_i fs hu;rw[hu] at aq;simp only[cN] at aq;split at h
    .simp only[dE] at h;obtain⟨xs,hx,rfl⟩:=h;refine .agg _ (fun d hd=>?_);obtain⟨y,hy,rfl⟩:=dp.1 hd;obtain⟨f,hf,hi⟩:=mapM_mem_of hx y hy;exact ih _ _ _ _ (jd.1 aq.2 f hf) hi
    cases h
   all_goals(first|(cases h;done)|(simp_all;done)|(exfalso;simp_all;done))
theorem ahI{n:Nat}:∀ {ts:List TypeId} {vs:List Value} {ds:List (DataW H)} {ps:List MemPlace},(∀t∈ts,jI P n t=true)->DataW.TrodAll enc P w base sp held ts vs ds ps->(∀d∈ds,Fits maxLen d)/\ds.length=ts.length:=by
 intro ts
 induction ts with
 |nil=>
  intro vs ds ps _ h;cases vs<;>cases ds<;>first
   |exact h.elim
   |exact⟨fun d hd=>by simp at hd,rfl⟩
 |cons t ts ih=>
  intro vs ds ps hk h;cases vs with
  |nil=>exact h.elim
  |cons v vs=>
   cases ds with
   |nil=>exact h.elim
   |cons d ds=>
    obtain⟨p,q,⟨fuel,h1⟩,h2,rfl⟩:=h;obtain⟨i1,i2⟩:=ih (fun t ht=>hk t (by simp[ht])) h2;refine⟨fun x hx=>?_,by simp[i2]⟩;rcases cM.1 hx with rfl|hx
    .exact auY n fuel t _ _ (hk t af) h1
    exact i1 x hx
end
section
variable {H:Type} {enc:TypeId×Value->H} {P:Program}
theorem ar0{f:Func}{s:ChangeSpec}{apart fresh handsOn again:Bool}{W W':World}{args:Array Value}{v:Value}{ds gs:List (DataW H)}{before pa pv:List MemPlace}
  (hW:DataW.Whole enc P f.params.toList s.vars apart W args.toList ds gs before)
  (Bc:∀(b:Nat) (sp:Nat->Bool) (hd:Bool),DataW.TrodAll enc P W' b sp hd f.resultTypes.toList (v.resultList f.resultTypes.size) (s.fn H (ds++gs)).results [])
  (Cv:∀sp:Nat->Bool,(∀p∈before,sp p.block=true)->DataW.TrodAll enc P W' 0 sp true f.params.toList args.toList (s.fn H (ds++gs)).args pa)
  (Nw:∀sp:Nat->Bool,(∀p∈before,sp p.block=true)->DataW.TrodVars enc P W' sp s.vars (s.fn H (ds++gs)).vars pv)
  (dz:before=pa++pv) (hb:Below W.heap.size W W')
  (aq:∀(j:Nat) (t:TypeId) (r:Value),f.resultTypes[j]?=some t->(v.resultList f.resultTypes.size)[j]?=some r->Value.okWide P W' .any 0 t r):
  s.post enc P f apart fresh handsOn again W args v W':=by
 have au:∀p∈before,p.block<W.heap.size:=fun p hp=>hW.lt p hp;have hold:∀p∈before,(fun b=>decide (b<W.heap.size)) p.block=true:=fun p hp=>by simpa using au p hp
 refine⟨ds,gs,before,[],pa,pv,hW,Bc _ _ _,Cv _ hold,Nw _ hold,World.keptBut_mono (fun p hp=>⟨hp,?_⟩) (hb.frame (· ∈before)),fun _=>?_⟩
 .rw[dz,eD] at hp;exact Or.inr hp
 obtain⟨_,_,_,_,_,hz,hn⟩:=hW;refine⟨aq,_,_,([]++pa)++pv,⟨[]++pa,pv,trodAll_append (Cv _ (fun _ _=>rfl)) (Bc _ _ _),Nw _ (fun _ _=>rfl),rfl,?_,?_⟩,?_⟩
 .intro b off hp;have kr:MemPlace.cell b off∈before:=by rw[dz];simpa using hp
  rw[hb.frozen (au _ kr)];exact hz b off kr
 .intro ha;have:=hn ha;rw[dz] at this
  simpa using this
 intro p hp _;rw[dz]
 simpa using hp
end
theorem Gb{P:Program}{N n:Nat}{t:TypeId}{k:IntKind}{p:List PV}(hu:P.underlying t=some (.int k))(h:jR P N (n+1) t p):∃z,p=[.int k z]/\(Lit.int k z).wf=true:=by simp only[jR,hu] at h;exact h
theorem anr{P:Program}{N n:Nat}{t:TypeId}{p:List PV}(hu:P.underlying t=some .bool)(h:jR P N (n+1) t p):∃b,p=[.bool b]:=by simp only[jR,hu] at h;exact h
theorem ans{P:Program}{N n:Nat}{t e:TypeId}{p:List PV}(hu:P.underlying t=some (.slice e))(h:jR P N (n+1) t p):∃es,p=[.sl es]/\es.length<=N/\ ∀x∈es,jR P N n e x:=by simp only[jR,hu] at h;exact h
theorem ajk{P:Program}{t:TypeId}{k:TypeDesc}{x:PV}(hu:P.underlying t=some k)(hk:∀fs,k≠ .struct fs):BX P t [x]=.one (.p x):=by
 unfold BX;rw[hu];cases k<;>first
  |rfl
  |exact(hk _ rfl).elim
theorem ajl{P:Program}{t:TypeId}{fs:Array Field}{x:List PV}(hu:P.underlying t=some (.struct fs)):BX P t x=.agg (x.map .p):=by unfold BX;rw[hu]
theorem apg{S:Sys}{G:World->Prop}(hS:HW S G)(MS:∀w,G w->Good G w){fn:Func}{s:ChangeSpec}{f n N:Nat}{handsOn again fresh apart:Bool}(Nw:s.vars=[])
  (hfn:∀(H:Type) (ds:List (DataW H)),ds.length=fn.params.toList.length->s.fn H ds={results:=[.lit (.bool true)],args:=ds}) {tb:TypeId} (Bc:fn.resultTypes= #[tb]) (htb:S.P.underlying tb=some .bool)
  (hk:∀t∈fn.params.toList,jI S.P n t=true) (law:∀pvss,OM S.P N n fn.params.toList pvss->aK S f (BY S.P fn.params.toList pvss) (.one (.p (.bool true))))
  {H:Type} {enc:TypeId×Value->H} {W:World} {base:Nat} {args:Array Value} {ds gs:List (DataW H)} {before:List MemPlace}
  (hval:∀(j:Nat) t v,fn.params[j]?=some t->args[j]?=some v->Value.okWide S.P W .any base t v)
  (hW:DataW.Whole enc S.P fn.params.toList s.vars apart W args.toList ds gs before) (hG:G W) (hfit:∀d∈ds,Fits N d):
  Calls S.P f args W fun e W'=>∃v,e=.returned v/\s.post enc S.P fn apart fresh handsOn again W args v W':=by
 have hW':=hW;obtain⟨p,q,hA,hV,rfl,hfz,eZ⟩:=hW;rw[Nw] at hV;obtain⟨rfl,rfl⟩:=trodVars_none hV;obtain⟨_,hlen⟩:=ahI hk hA;obtain⟨pvss,h1,h2⟩:=ajt (r:=.any) (b0:=base) hk (fun j t v a b=>hval j t v (by simpa using a) (by simpa using b)) hA hfit;refine((law pvss h1).calls hS W (MS W hG) args h2).mono ?_;rintro e W' ⟨val,bs,rfl,hg,_,_,vs,q1,q2⟩
 obtain⟨v0,mS,e1,e2,e3,e4⟩:=q2;have hq1:vs=[val]:=q1;subst hq1;cases e1;have hv:val=.bool true:=by
  generalize hx:PV.bool true=x at e2;cases e2<;>cases hx
  rfl
 subst hv;have hb:Below W.heap.size W W':=⟨hg.os,hg.tape,hg.output,hg.size,hg.keep⟩;have au:∀x∈p++[],x.block<W.heap.size:=fun x hx=>hW'.lt x hx;refine⟨_,rfl,ar0 (pa:=p) (pv:=[]) hW' ?_ ?_ ?_ rfl hb ?_⟩
 .intro b sp hd;rw[jP,hfn H ds hlen,Bc];exact trodAll_cons_mk (shut_bool htb _) trodAll_mk0
 .intro Hk nW;rw[jP,hfn H ds hlen];exact auW (fun t ht=>⟨n,hk t ht⟩) hA (fun x hx=>hb.same (au x (by simpa using hx))) (fun x hx=>nW x (by simpa using hx))
 .intro Hk nW;rw[jP,hfn H ds hlen,Nw];rfl
 exact ok_one Bc rfl (okWide_bool_mk htb _)
end Go.Abs
namespace Go.Abs
theorem agm(ak:Env)(t:Nat)(v:V):put ak (some t) v=dJ ak t v:=rfl
theorem agk(ak:Env)(v:V):put ak none v=ak:=rfl
theorem aaW(ak:Env)(n:Nat):ev ak (.t n)=ak n:=rfl
theorem aaU(ak:Env)(n:Int):ev ak (.i n)=.one (.p (.int .i64 n)):=rfl
theorem aaT(ak:Env)(x:Bool):ev ak (.b x)=.one (.p (.bool x)):=rfl
theorem aaV(ak:Env)(v:V):ev ak (.k v)=v:=rfl
theorem adH(a:V)(l:List V):rM (a::l) 0=a:=rfl
theorem adG(a:V)(l:List V)(n:Nat):rM (a::l) (n+1)=rM l n:=rfl
def Fh(v:V)(want:Bool):Option Bool:=match v with
 | .one (.p (.bool b))=>some (b==want)
 | .undef=>some false
 |_=>none
theorem ah1(b want:Bool):Fh (.one (.p (.bool b))) want=some (b==want):=rfl
theorem ah2(want:Bool):Fh .undef want=some false:=rfl
section
variable {S:Sys} {al:Al} {o:bG} {ak:Env} {aj:aA} {tr:List bY} {K:Env->aA->List bY->Prop} {d:Option Nat}
theorem ZK{id:Nat}{Q:dD}:lU id Q .normal ak aj=Q .normal ak aj:=rfl
theorem ZL{id:Nat}{Q:dD}:lU id Q .ret ak aj=Q .ret ak aj:=rfl
theorem ZJ{id i:Nat}{Q:dD}:lU id Q (.exit i) ak aj=if i=id then Q .normal ak aj else Q (.exit i) ak aj:=rfl
end
def WN (S:Sys)(al:Al)(ops:List bG)(Q:Env->aA->Prop)(ak:Env)(aj:aA):Prop:=∀tr,WO S al ops (fun ak aj _=>Q ak aj) ak aj tr
def I4(S:Sys)(al:Al)(p:fg)(d:Option Nat)(ak:Env)(aj:aA)(K:Env->aA->Prop):Prop:=
 match p with
 | .fail=>False
 | .done v u r=>al.ft (r++u.map (·.1))=true/\K (put ak d v) (app u aj)
 | .pc f vs r s=>∃x,aK S f vs x/\match land aj r s (x.fP (S.lone s)) with
  |some (v,u)=>al.ft (r++u.map (·.1))=true/\K (put ak d v) (app u aj)
  |none=>False
 | .sc f vs=>al.holds (allow (S.ctx al) f vs aj)=true/\ ∃v ao,iF S f vs (allow (S.ctx al) f vs aj) aj v ao/\K (put ak d v) ao
def PG(S:Sys)(al:Al)(w:Option Bool)(o:bG)(ak:Env)(aj:aA)(K:Env->aA->Prop):Prop:=
 match w with
 |none=>False
 |some false=>K (put ak o.dst .undef) aj
 |some true=>I4 S al (bt S.shared ak aj o.op) o.dst ak aj K
section
variable {S:Sys} {al:Al} {ak:Env} {aj:aA}
theorem aiL{ops:List bG}{R R':Env->aA->Prop}{tr tr':List bY}(h:WO S al ops (fun ak aj _=>R ak aj) ak aj tr)(hR:∀e b,R e b->R' e b):WO S al ops (fun ak aj _=>R' ak aj) ak aj tr':=by obtain⟨n,e,b,es,h1,h2⟩:=h;exact⟨n,e,b,es,h1,hR _ _ h2⟩
theorem aiY{ops:List bG}{Q:dD}:W S al (.region false ops) Q ak aj↔WN S al ops (fun ak aj=>Q .normal ak aj) ak aj:=by
 rw[Zd];constructor
 .intro h tr;obtain⟨n,e,b,es,h1,_,h2⟩:=h;exact⟨n,e,b,es,h1,h2⟩
 intro h;obtain⟨n,e,b,es,h1,h2⟩:=h [];exact⟨n,e,b,es,h1,(fun h=>by cases h),h2⟩
theorem aiK{R:Env->aA->Prop}:WN S al [] R ak aj↔R ak aj:=⟨fun h=>St.1 (h []),fun h _=>St.2 h⟩
theorem acK{o:bG}{os:List bG}{R:Env->aA->Prop}{w:Option Bool}(tr:List bY):Ea S al w o ak aj tr (WO S al os fun e b _=>R e b)↔PG S al w o ak aj (WN S al os R):=by
 have k:∀ {e:Env} {b:aA} {t:List bY},WO S al os (fun e b _=>R e b) e b t↔WN S al os R e b:=fun {e b t}=>⟨fun h t'=>aiL h fun _ _ h=>h,fun h=>h t⟩;cases w with
 |none=>exact Iff.rfl
 |some w=>
  cases w with
  |false=>exact k (t:=tr++[⟨[],[],[]⟩])
  |true=>
   simp only[Ea,PG];cases bt S.shared ak aj o.op with
   |fail=>exact Iff.rfl
   |done v u r=>simp only[F4,I4,k]
   |pc f vs r s=>
    simp only[F4,I4];refine exists_congr fun x=>and_congr Iff.rfl ?_;cases land aj r s (x.fP (S.lone s)) with
    |none=>exact Iff.rfl
    |some y=>simp only[k]
   |sc f vs=>simp only[F4,I4,k]
theorem Y0{o:bG}{os:List bG}{R:Env->aA->Prop}:WN S al (o::os) R ak aj↔PG S al (wanted ak o.guard) o ak aj (WN S al os R):=by
 constructor
 .intro h;exact(acK []).1 (OQ.1 (h []))
 intro h tr;exact OQ.2 ((acK tr).2 h)
variable {o:bG} {K:Env->aA->Prop} {d:Option Nat}
end
theorem bft:(false==true)=false:=rfl
theorem btf:(true==false)=false:=rfl
theorem bff:(false==false)=true:=rfl
theorem btt:(true==true)=true:=rfl
theorem afT{aj:aA}{x:PV}:iE aj (.one (.p x))=some (.one (.p x)):=rfl
theorem norm_int(k:IntKind)(n:Int):(PV.int k n).norm=.int k n:=rfl
theorem afy(b:Bool):(PV.bool b).norm=.bool b:=rfl
theorem afG(s:ByteArray):(PV.str s).norm=.str s:=rfl
theorem afE:PV.nils.norm=.sl []:=rfl
theorem afF(es:List (List PV)):(PV.sl es).norm=.sl es:=rfl
theorem Xi(es:List PV):(PV.box es).norm=.box es:=rfl
theorem afz(f:Nat)(a b:List PV):(PV.fn f a b).norm=.fn f a b:=rfl
theorem afD:PV.uP.norm=.uP:=rfl
theorem afB:PV.yz.norm=.yz:=rfl
theorem afC:PV.qU.norm=.qU:=rfl
theorem afA(a:Bool)(e:List (PV×List PV)):(PV.mp a e).norm=.mp a e:=rfl
theorem ahj{aj:aA}:BE aj []=some ([],[]):=rfl
def XU(x:Option (V×List Nat))(y:Option (List V×List Nat)):Option (List V×List Nat):=match x,y with
 |some (b,x),some (bs,y)=>some (b::bs,x++y)
 |_,_=>none
theorem ahi{aj:aA}{x:V}{xs:List V}:BE aj (x::xs)=XU (nA aj x) (BE aj xs):=by simp only[BE,XU,collect];cases nA aj x<;>cases collect (nA aj) xs<;>rfl
theorem ahe{b:V}{x:List Nat}{bs:List V}{y:List Nat}:XU (some (b,x)) (some (bs,y))=some (b::bs,x++y):=rfl
theorem ahh{aj:aA}{x:PV}:nA aj (.one (.p x))=some (.one (.p x.norm),[]):=rfl
end Go.Abs
