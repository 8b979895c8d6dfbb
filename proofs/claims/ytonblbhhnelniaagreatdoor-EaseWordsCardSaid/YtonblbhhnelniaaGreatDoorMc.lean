/-
  Each operation of the abstract machine is what the program does; the machine is sound in any order that a region draws; a quick evaluator; library functions.
-/
import Derived.Test.YtonblbhhnelniaaGreatDoorMa
import Derived.Laws.BytesString
import Derived.LoopN
import Derived.Scope
import Derived.Orders
import Derived.ChangeReads
import Derived.ChangeStays
import Derived.DataReads
import Derived.Below
import Derived.Sort.Grow
import Derived.Deep.Draws
import Derived.Lib.ItoaNum
import Derived.Lib.Join
import Derived.Lib.BitFns
import Derived.Lib.LaidTab
import Derived.ChangeSame
import Derived.ProofKit
import Derived.OpenShut
set_option linter.all false
namespace Go.Abs
variable {P:Program} {w0:World}
section
variable{ag:Bool}
def NZ(w:World)(own:Nat->Prop)(ag:Bool)(es:List (PV×List PV))(ents:Array MapEntry):Prop:=ents.size=es.length/\ ∀(i:Nat) (q:PV) (v:List PV) (e:MapEntry),es[i]?=some (q,v)->ents[i]?=some e->bU w own q e.key/\ ∃g:Array Value,(ag=true->e.val=.agg g)/\(ag=false-> #[e.val]=g)/\df w own v g.toList
theorem Ln{w:World}{r:Nat}{es:Array MapEntry}{clock:Nat}(hb:w.heap[r]?=some (.map es clock)):(getObj r).run P w=.ok (.map es clock) w:=by simp[getObj,Sem.run,hb]
theorem agh{w:World}{r:Nat}{es:Array MapEntry}{clock:Nat}{ob:Obj}(hb:w.heap[r]?=some (.map es clock)):(setObj r ob).run P w=.ok () {w with heap:=w.heap.setIfInBounds r ob}:=by simp[setObj,Sem.run,hb]
theorem aeB{w:World}{own:Nat->Prop}{es:List (PV×List PV)}{v:Value}(h:bU w own (.mp ag es) v):
  ∃r ents clock,v=.map (some r)/\w.heap[r]?=some (.map ents clock)/\NZ w own ag es ents:=by
 cases h with
 |mp r ents clock g ho hb hl hk hv hr=>
  refine⟨r,ents,clock,rfl,hb,hl,fun i q v e h1 h2=>⟨hk i q v e h1 h2,g i,(hv i q v e h1 h2).2.1,(hv i q v e h1 h2).2.2,?_,fun j x u a b=>?_⟩⟩
  .simpa using (hv i q v e h1 h2).1
  exact hr i q v j x u h1 a (by simpa using b)
theorem Mq{m:Mem}(au:Ok w0 m){id g:Nat}{v:Value}(h:bJ m (.one (.jV id g)) v){es:List (PV×List PV)}(hb:m.aj id=(g,some (.map ag es))\/m.aj id=(g,some (.fmap ag es))):
  ∃r ents clock,v=.map (some r)/\r=m.σ id/\m.w.heap[r]?=some (.map ents clock)/\NZ m.w m.own ag es ents:=by
 have h:cT m (.jV id g) v:=h;cases h with
 |jV r hg hr=>
  rcases hb with hb|hb
  .obtain⟨ents,clock,h1,h2,h3⟩:=au.obj id _ (congrArg Prod.snd hb);have:=hr (by rw[hb]) (by rw[hb];rfl);subst this;exact⟨_,ents,clock,rfl,rfl,h1,h2,h3⟩
  obtain⟨ents,clock,h1,h2,h3,_⟩:=au.obj id _ (congrArg Prod.snd hb);have:=hr (by rw[hb]) (by rw[hb];rfl);subst this;exact⟨_,ents,clock,rfl,rfl,h1,h2,h3⟩
theorem apc{m:Mem}(au:Ok w0 m){x:V}{v:Value}{es:List (PV×List PV)}{r:List Nat}(h:mapOf m.aj ag x=some (es,r))(hv:bJ m x v):
  ∃ents:Array MapEntry,((v=.map none/\ents= #[])\/ ∃ref clock,v=.map (some ref)/\m.w.heap[ref]?=some (.map ents clock))/\NZ m.w m.own ag es ents:=by
 unfold mapOf at h;split at h
 .cases h;exact⟨#[],.inl ⟨acT hv,rfl⟩,rfl,fun i q v e h=>by simp at h⟩
 .rename_i rD kX;split at h
  .rename_i e;subst e;cases h;obtain⟨hp⟩:cT m _ v:=hv;obtain⟨r,ents,clock,h1,h2,h3⟩:=aeB hp;exact⟨ents,.inr ⟨r,clock,h1,h2⟩,h3⟩
  cases h
 .rename_i id g;split at h
  .rename_i g' rD kX hb;split at h
   .rename_i hc;obtain⟨rfl,rfl⟩:=hc;cases h;obtain⟨r,ents,clock,h1,_,h2,h3⟩:=Mq au hv (.inl hb);exact⟨ents,.inr ⟨r,clock,h1,h2⟩,h3⟩
   cases h
  .rename_i g' rD kX hb;split at h
   .rename_i hc;obtain⟨rfl,rfl⟩:=hc;cases h;obtain⟨r,ents,clock,h1,_,h2,h3⟩:=Mq au hv (.inr hb);exact⟨ents,.inr ⟨r,clock,h1,h2⟩,h3⟩
   cases h
  cases h
 cases h
theorem aoF{m:Mem}(au:Ok w0 m){x:V}{v:Value}{n:Nat}{r:List Nat}(h:zN m.aj x=some (n,r))(hv:bJ m x v):
  (v=.map none/\n=0)\/ ∃ref ents clock,v=.map (some ref)/\m.w.heap[ref]?=some (.map ents clock)/\ents.size=n:=by
 unfold zN at h;split at h
 .cases h;exact .inl ⟨acT hv,rfl⟩
 .cases h;obtain⟨hp⟩:cT m _ v:=hv;obtain⟨r,ents,clock,h1,h2,h3⟩:=aeB hp;exact .inr ⟨r,ents,clock,h1,h2,h3.1⟩
 .rename_i id g;split at h
  .rename_i g' rD kX hb;split at h
   .rename_i hc;subst hc;cases h;obtain⟨r,ents,clock,h1,_,h2,h3⟩:=Mq au hv (.inl hb);exact .inr ⟨r,ents,clock,h1,h2,h3.1⟩
   cases h
  .rename_i g' rD kX hb;split at h
   .rename_i hc;subst hc;cases h;obtain⟨r,ents,clock,h1,_,h2,h3⟩:=Mq au hv (.inr hb);exact .inr ⟨r,ents,clock,h1,h2,h3.1⟩
   cases h
  cases h
 cases h
def DB(kind:TypeDesc)(kd:Nat):Prop:=(kd=0/\ ∃k,kind=.int k)\/(kd=1/\kind=.string)\/(kd=2/\kind=.bool)
theorem adO{t:TypeId}{kd:Nat}(h:keyOf P t=some kd):∃kind,P.underlying t=some kind/\DB kind kd:=by
 unfold keyOf at h;split at h
 .rename_i k hk;cases h;exact⟨_,hk,.inl ⟨rfl,_,rfl⟩⟩
 .rename_i hk;cases h;exact⟨_,hk,.inr (.inl ⟨rfl,rfl⟩)⟩
 .rename_i hk;cases h;exact⟨_,hk,.inr (.inr ⟨rfl,rfl⟩)⟩
 cases h
theorem WX{w:World}{own:Nat->Prop}{k q:PV}{kv qv:Value}{kind:TypeDesc}{b:Bool}(hk:DB kind (iz k))(h:sameKey k q=some b)(h1:bU w own k kv)(h2:bU w own q qv):Instr.sameNow kind kv qv=some b:=by
 unfold sameKey at h;split at h
 .rename_i a b' c d;split at h
  .rename_i e;subst e;cases h;rcases hk with ⟨_,x,rfl⟩|⟨e,_⟩|⟨e,_⟩
   .cases h1;cases h2;simp[Instr.sameNow]
   .simp[iz] at e
   simp[iz] at e
  cases h
 .cases h;rcases hk with ⟨e,_⟩|⟨_,rfl⟩|⟨e,_⟩
  .simp[iz] at e
  .cases h1;cases h2;simp[Instr.sameNow]
  simp[iz] at e
 .cases h;rcases hk with ⟨e,_⟩|⟨e,_⟩|⟨_,rfl⟩
  .simp[iz] at e
  .simp[iz] at e
  cases h1;cases h2;simp[Instr.sameNow]
 cases h
theorem sameKey_eq{w:World}{own:Nat->Prop}{k q:PV}{kv qv:Value}(h:sameKey k q=some true)(h1:bU w own k kv)(h2:bU w own q qv):qv=kv:=by
 unfold sameKey at h;split at h
 .split at h
  .rename_i e;subst e;simp at h;subst h;cases h1;cases h2;rfl
  cases h
 .rename_i a b;have e:(a==b)=true:=by simpa using h
  rw[beq_toListBytes] at e;have e:a=b:=by
   have e:a.toList=b.toList:=by simpa using e
   rw[ByteArray.toList_eq,ByteArray.toList_eq] at e;exact ByteArray.ext (Array.toList_inj.1 e)
  subst e;cases h1;cases h2;rfl
 .simp at h;subst h;cases h1;cases h2;rfl
 cases h
theorem abf{w:World}{own:Nat->Prop}{k:PV}{kv:Value}{kind:TypeDesc}(hk:DB kind (iz k))(h1:bU w own k kv):∀ {es:List (PV×List PV)} {l:List MapEntry} {i:Nat} {f:Option (Nat×List PV)},
  l.length=es.length->(∀(j:Nat) (q:PV) (v:List PV) (e:MapEntry),es[j]?=some (q,v)->l[j]?=some e->bU w own q e.key)->oU k es i=some f->
  (f=none/\Instr.findNow kind kv l i=some none)\/ ∃j q v e,f=some (i+j,v)/\es[j]?=some (q,v)/\l[j]?=some e/\sameKey k q=some true/\Instr.findNow kind kv l i=some (some (i+j,e.val)):=by
 intro es
 induction es with
 |nil=>
  intro l i f hl _ hf;simp[oU] at hf;cases l with
  |nil=>exact .inl ⟨hf.symm,rfl⟩
  |cons _ _=>simp at hl
 |cons p r ih=>
  intro l i f hl hq hf;obtain⟨a,v⟩:=p;cases l with
  |nil=>simp at hl
  |cons e l=>
   have sL:=hq 0 a v e rfl rfl;simp only[oU] at hf;split at hf
   .rename_i hs;cases hf;exact .inr ⟨0,a,v,e,rfl,rfl,rfl,hs,by simp[Instr.findNow,WX hk hs h1 sL]⟩
   .rename_i hs;rcases ih (l:=l) (i:=i+1) (f:=f) (by simpa using hl) (fun j q v e a b=>hq (j+1) q v e (by simpa using a) (by simpa using b)) hf with ⟨e1,e2⟩|⟨j,q,v',e',e1,e2,e3,e4,e5⟩
    .exact .inl ⟨e1,by simp[Instr.findNow,WX hk hs h1 sL,e2]⟩
    refine .inr ⟨j+1,q,v',e',by rw[e1];congr 2;omega,by simpa using e2,by simpa using e3,e4,?_⟩;simp only[Instr.findNow,WX hk hs h1 sL,e5];congr 3;omega
   cases hf
theorem ajv{t:TypeId}{kind:TypeDesc}{kd:Nat}{b:Bool}{v:Value}(w:World)(h:P.underlying t=some kind)(hk:DB kind kd)(n:Nat):(Instr.checkKey b (n+1) t v).run P w=.ok () w:=by rcases hk with ⟨_,k,rfl⟩|⟨_,rfl⟩|⟨_,rfl⟩<;>simp[Instr.checkKey,run_underlying h]
theorem KN{t:TypeId}{kind:TypeDesc}{kd:Nat}{b:Bool}{v:Value}(w:World)(h:P.underlying t=some kind)(hk:DB kind kd):(Instr.checkKey b 10000 t v).run P w=.ok () w:=ajv w h hk 9999
theorem ar6{w:World}{own:Nat->Prop}{k:PV}{kv:Value}{kind:TypeDesc}(hk:DB kind (iz k))(h:bU w own k kv)(n:Nat):Instr.sameBits n kv kv=true:=by
 cases h<;>first
  |(simp[iz,DB] at hk;done)
  |(simp[Instr.sameBits];done)
  |(simp[Instr.sameBits,beq_toListBytes];done)
theorem aoe{w0 w:World}{own:Nat->Prop}{k:PV}{kv:Value}{kind:TypeDesc}(hk:DB kind (iz k))(h:bU w0 own k kv):(Instr.keyThatStays kv kv).run P w=.ok kv w:=by rw[Instr.keyThatStays,ar6 hk h,if_pos rfl];rfl
theorem OS{t:TypeId}{kind:TypeDesc}{v:Value}{l:List MapEntry}{r:Option (Nat×Value)}(w:World)(h:P.underlying t=some kind)(hf:Instr.findNow kind v l 0=some r):(Instr.findKey t v l).run P w=.ok r w:=by simp[Instr.findKey,run_underlying h,hf]
theorem aeu{m:Mem}{v:List PV}{x:V}{val:Value}{g:Array Value}(h:mapVal ag v=some x)(h1:ag=true->val=.agg g)(h2:ag=false-> #[val]=g)(hp:df m.w m.own v g.toList):bJ m x val/\nH m x val:=by
 cases ag with
 |true=>simp only[mapVal,fq] at h;subst h;exact⟨bJ.agg.2 ⟨g,h1 rfl,hp.Dl⟩,⟨g,h1 rfl,hp.Dl⟩⟩
 |false=>
  have h2:=h2 rfl;subst h2;cases v with
  |nil=>simp[mapVal] at h
  |cons c r=>
   cases r with
   |nil=>simp only[mapVal,fq] at h;subst h;have:=hp.2 0 c val rfl rfl;exact⟨mg this,cT.p this⟩
   |cons _ _=>simp[mapVal] at h
section
variable {m:Mem} {ak:Env} {a:Act} {o:Oper} (au:Ok w0 m) (hr:iW m ak a.tmps)
include au
theorem asE{t kt e:TypeId}{s:Nat}(ho:o.op=.makeMap t none):
  ft P w0 a.eval o m (.one (.jV s ((m.aj s).1+1))) [(s,((m.aj s).1+1,some (.map ag [])))]:=by
 refine⟨.map (some m.w.heap.size),m.fresh (.map #[] 0) s 0 (.map ag []),.inl ?_,abu au _ s 0 _ ⟨#[],0,abt _ s 0 _,rfl,fun i q v e h=>by simp at h⟩,OX _ s 0 _,UX au _ s 0 _,UW _ _ s 0 _,bJ.one.2 (.jV _ ?_ fun _ _=>?_)⟩
 .simp[execOp,ho,Instr.makeMap];rfl
 .simp[Mem.fresh,Mem.install,Mem.later,aM]
 simp[Mem.fresh,Mem.install,aM]
include hr
theorem asG{c:Call}{x:Operand}{x':aQ}{t k e:TypeId}{n:Nat}{r:List Nat}(ho:o.op=.call c)(hc:c.callee=.builtin .len)(has:c.args= #[x])(hJ:c.argTypes[0]?=some t)(ht:P.underlying t=some (.map k e))
  (hx:cA x=some x') (hv:zN m.aj (ev ak x')=some (n,r)):ft P w0 a.eval o m (.one (.p (.int .i64 n))) []:=by
 refine .calm au ?_ (mg (.int _ _));have h0:(#[a.eval x]:Array Value)[0]?=some (a.eval x):=rfl;rcases aoF au hv (ek hx hr) with ⟨h1,rfl⟩|⟨ref,ents,clock,h1,h2,rfl⟩
 .simp[execOp,ho,resolve,hc,has,hJ,invoke,builtin,Builtin.len_,run_underlying ht,h1,goInt]
 simp[execOp,ho,resolve,hc,has,hJ,invoke,builtin,Builtin.len_,run_underlying ht,h1,goInt,Ln h2]
theorem asA{t kt e:TypeId}{x k:Operand}{x' k':aQ}{ok:Bool}{z:List PV}{q:Option Nat}{kd:Nat}{es:List (PV×List PV)}{r:List Nat}{key:PV}{f:Option (Nat×List PV)}{w:V}(ho:o.op=.lookup t x k ok)(ht:P.underlying t=some (.map kt e))
  (hz:zX P e=some z) (AM:keyOf P kt=some kd) (xI:Rn P e=q.isSome) (hx:cA x=some x') (hk:cA k=some k') (hm:mapOf m.aj q.isSome (ev ak x')=some (es,r)) (CB:ev ak k'=.one (.p key)) (u7:iz key=kd)
  (hf:oU key es 0=some f) (hw:mapVal q.isSome ((f.map (·.2)).getD z)=some w):ft P w0 a.eval o m (if ok then .tup [w,.one (.p (.bool f.isSome))] else w) []:=by
 obtain⟨kind,zC,CC⟩:=adO AM;obtain⟨ents,Pe,hl,ef⟩:=apc au hm (ek hx hr);have Gg:=ek hk hr;rw[CB] at Gg;obtain⟨dd⟩:cT m _ _:=Gg;have mD:(∃ref clock,a.eval x=.map (some ref)/\m.w.heap[ref]?=some (.map ents clock))\/a.eval x=.map none/\ents= #[]:=by
  rcases Pe with h|h
  .exact .inr h
  exact .inl h
 have key:∀(val:Value) (b:Bool),bJ m w val->nH m w val->f.isSome=b->(Instr.lookup t (a.eval x) (a.eval k) ok).run P m.w=.ok (if ok then .tuple #[val,.bool b] else val) m.w->ft P w0 a.eval o m (if ok then .tup [w,.one (.p (.bool f.isSome))] else w) []:=by
  intro val b h1 sF h2 h3;refine .calm au (x:=if ok then .tuple #[val,.bool b] else val) ?_ ?_
  .simp[execOp,ho,h3]
  cases ok
  .exact h1
  refine⟨_,rfl,rfl,fun j y u p q=>?_⟩;rcases j with _|_|j
  .simp at p q;subst p q;exact sF
  .simp at p q;subst p q;rw[h2];exact cT.p (.bool _)
  simp at p
 rcases abf (kind:=kind) (by rw[u7];exact CC) dd (l:=ents.toList) (by simpa using hl) (fun j q v e h1 h2=>(ef j q v e h1 (by simpa using h2)).1) hf with ⟨rfl,hn⟩|⟨j,q',v,e',rfl,h2,h3,_,hn⟩
 .obtain⟨zv,i,hi,wB,I7,l8,dp⟩:=NR hz;obtain⟨v1,v2⟩:=aeu (m:=m) (val:=zv) (g:=zv.cells) hw (fun hq=>by
    rw[hq] at xI;unfold Rn at xI;rw[hi] at xI;simp only[wB] at xI;cases zv<;>simp[Value.cells] at xI ⊢) (fun hq=>by
    rw[hq] at xI;unfold Rn at xI;rw[hi] at xI;simp only[wB] at xI;cases zv<;>simp[Value.cells] at xI ⊢) (dp m.w m.own)
  refine key zv false v1 v2 rfl ?_;have Ej:=OS (P:=P) m.w zC hn;rcases mD with ⟨ref,clock,h1,h2⟩|⟨h1,h2⟩
  .cases ok<;>simp[Instr.lookup,run_underlying ht,h1,Ln h2,KN m.w zC CC,Ej,zeroValue,typeInfo,hi,wB]
  subst h2;cases ok<;>simp[Instr.lookup,run_underlying ht,h1,KN m.w zC CC,Instr.findKey,run_underlying zC,Instr.findNow,zeroValue,typeInfo,hi,wB]
 obtain⟨hqk,g,Ek,Cx,dp⟩:=ef j q' v e' h2 (by simpa using h3);obtain⟨v1,v2⟩:=aeu hw Ek Cx dp;refine key e'.val true v1 v2 rfl ?_;have Ej:=OS (P:=P) m.w zC hn;rcases mD with ⟨ref,clock,h1,h2⟩|⟨h1,h2⟩
 .cases ok<;>simp[Instr.lookup,run_underlying ht,h1,Ln h2,KN m.w zC CC,Ej]
 subst h2;simp at h3
theorem agm{t kt e:TypeId}{x k y:Operand}{x' k' y':aQ}{kd:Nat}{ag:Bool}{id g:Nat}{es:List (PV×List PV)}{key:PV}{cs:List C}{ps:List PV}{f:Option (Nat×List PV)}(ho:o.op=.mapUpdate t x k y\/o.op=.insert t x k y)(ht:P.underlying t=some (.map kt e))
  (AM:keyOf P kt=some kd) (hx:cA x=some x') (hk:cA k=some k') (hy:cA y=some y') (hm:ev ak x'=.one (.jV id g)) (hb:m.aj id=(g,some (.map ag es))) (CB:ev ak k'=.one (.p key)) (u7:iz key=kd)
  (cY:xv ag (ev ak y')=some cs) (dp:Bp cs=some ps) (hf:oU key es 0=some f):
  ft P w0 a.eval o m .undef [(id,(g,some (.map ag (match f with|some (i,_)=>es.set i (key,ps)|none=>es++[(key,ps)]))))]:=by
 obtain⟨kind,zC,CC⟩:=adO AM;have hxr:=ek hx hr;rw[hm] at hxr;have hid:=congrArg Prod.snd hb;have hg:=congrArg Prod.fst hb;obtain⟨ref,ents,clock,wJ,bk,hh,hl,ef⟩:=Mq au hxr (.inl hb);subst bk;have Gg:=ek hk hr;rw[CB] at Gg;obtain⟨dd⟩:cT m _ _:=Gg;have hyr:=ek hy hr
 -- the value's cells
 have hval:∃gv:Array Value,(ag=true->a.eval y=.agg gv)/\(ag=false-> #[a.eval y]=gv)/\df m.w m.own ps gv.toList:=by
  generalize ev ak y'=vy at cY hyr;cases ag with
  |true=>
   cases vy<;>simp[xv] at cY
   subst cY;obtain⟨arr,h1,h2⟩:=bJ.agg.1 hyr;exact⟨arr,fun _=>h1,fun h=>(by cases h),NH dp h2⟩
  |false=>
   cases vy<;>simp[xv] at cY
   subst cY;refine⟨#[a.eval y],fun h=>(by cases h),fun _=>rfl,NH dp ⟨rfl,fun j x u p q=>?_⟩⟩;rcases j with _|j
   .simp at p q;subst p q;exact hyr
   simp at p
 obtain⟨gv,xY,tR,hvp⟩:=hval;have aw:=u4 hh;have adN:∀(Cf:Array MapEntry) (DJ:Nat) (kX:List (PV×List PV)),(execOp a.eval o).run P m.w=.ok .skip {m.w with heap:=m.w.heap.setIfInBounds (m.σ id) (.map Cf DJ)}->NZ m.w m.own ag kX Cf->
   ft P w0 a.eval o m .undef [(id,(g,some (.map ag kX)))]:=by
  intro Cf DJ kX jJ Pe;have hs:(m.w.heap.setIfInBounds (m.σ id) (.map Cf DJ)).size=m.w.heap.size:=af;have hko:∀c,c≠m.σ id->(m.w.heap.setIfInBounds (m.σ id) (.map Cf DJ))[c]?=m.w.heap[c]? :=fun c hc=>by rw[Array.getElem?_setIfInBounds];rw[if_neg (fun e=>hc e.symm)]
  have dL:Ev m (m.jX {m.w with heap:=m.w.heap.setIfInBounds (m.σ id) (.map Cf DJ)} id (.map ag kX)):=NC hid rfl rfl rfl rfl rfl hs hko;refine⟨_,m.jX {m.w with heap:=m.w.heap.setIfInBounds (m.σ id) (.map Cf DJ)} id (.map ag kX),.inr ⟨jJ,rfl⟩,QQ hid rfl au rfl rfl rfl rfl hs hko ?_,dL,rfl,?_,rfl⟩
  .refine⟨Cf,DJ,?_,Pe.1,fun i q v e h1 h2=>?_⟩
   .show(m.w.heap.setIfInBounds (m.σ id) (.map Cf DJ))[m.σ id]?=_;rw[Array.getElem?_setIfInBounds,if_pos rfl,if_pos aw]
   obtain⟨p1,gg,p2,p3,p4⟩:=Pe.2 i q v e h1 h2;exact⟨p1.ev dL.zero,gg,p2,p3,p4.ev dL.zero⟩
  simp only[Mem.jX,app,hg]
 rcases abf (kind:=kind) (by rw[u7];exact CC) dd (l:=ents.toList) (by simpa using hl) (fun j q v e h1 h2=>(ef j q v e h1 (by simpa using h2)).1) hf with ⟨rfl,hn⟩|⟨j,q',v,e',rfl,h2,h3,h4,hn⟩
 .refine adN (ents.push {key:=a.eval k,val:=a.eval y,born:=clock}) (clock+1) _ ?_ ?_
  .have Ej:=OS (P:=P) m.w zC hn;rcases ho with ho|ho<;>simp[execOp,ho,Instr.mapUpdate,run_underlying ht,wJ,Ln hh,KN m.w zC CC,Ej,agh hh]
  refine⟨by simp[hl],fun i q v e h1 h2=>?_⟩;by_cases hi:i<es.length
  .rw[pS hi] at h1;rw[Array.getElem?_push,if_neg aa] at h2;exact ef i q v e h1 h2
  rw[mQ aa] at h1;have:i=es.length:=by
   by_cases h:i-es.length=0
   .omega
   have:=(aS.1 h1).1;simp at this;omega
  subst this;simp at h1;obtain⟨rfl,rfl⟩:=h1;rw[Array.getElem?_push,if_pos hl.symm] at h2;cases h2;exact⟨dd,gv,xY,tR,hvp⟩
 have Aq:ents[j]?=some e':=by simpa using h3
 have hqe:e'.key=a.eval k:=sameKey_eq h4 dd (ef j q' v e' h2 Aq).1;refine adN (ents.modify j fun e=>{e with key:=a.eval k,val:=a.eval y}) clock _ ?_ ?_
 .have Ej:=OS (P:=P) m.w zC hn;rw[iD] at Ej;have Mn:(Instr.keyThatStays e'.key (a.eval k)).run P m.w=.ok (a.eval k) m.w:=by rw[hqe];exact aoe (kind:=kind) (by rw[u7];exact CC) dd
  rcases ho with ho|ho<;>simp[execOp,ho,Instr.mapUpdate,run_underlying ht,wJ,Ln hh,KN m.w zC CC,Ej,agh hh,Aq,Mn]
 simp only[iD];refine⟨by simp[hl],fun i q v e h1 h2=>?_⟩;rw[oI] at h1;rw[Array.getElem?_modify] at h2;by_cases fL:j=i
 .subst fL;rw[if_pos rfl] at h1;split at h1
  .cases h1;simp[Aq] at h2;subst h2;exact⟨dd,gv,xY,tR,hvp⟩
  cases h1
 rw[if_neg fL] at h1;rw[if_neg fL] at h2;exact ef i q v e h1 h2
end
end
end Go.Abs
namespace Go.Abs
variable {P:Program} {w0:World}
theorem af8{t:TypeId}{b:Bool}(h:QP P t=some b):(b=true/\ ∃k,P.underlying t=some (.int k))\/(b=false/\P.underlying t=some .bool):=by
 unfold QP at h;split at h
 .rename_i k hk;cases h;exact .inl ⟨rfl,_,hk⟩
 .rename_i hk;cases h;exact .inr ⟨rfl,hk⟩
 cases h
theorem akH{a b:PV}{r:Bool}(h:uv true a b=some r):∃k x y,a=.int k x/\b=.int k y/\r=(x==y):=by
 cases a<;>cases b<;>simp[uv] at h
 exact⟨_,_,_,rfl,by rw[h.1],h.2.symm⟩
theorem akG{a b:PV}{r:Bool}(h:uv false a b=some r):∃x y,a=.bool x/\b=.bool y/\r=(x==y):=by
 cases a<;>cases b<;>simp[uv] at h
 exact⟨_,_,rfl,rfl,h.symm⟩
theorem akJ{as bs:List C}{r:Bool}(h:uX [] as bs=some r):r=true:=by
 cases as<;>cases bs<;>simp[uX] at h
 exact h
theorem akI{k:Bool}{ks:List Bool}{as bs:List C}{r:Bool}(h:uX (k::ks) as bs=some r):
  ∃a ar b br r0,as=.p a::ar/\bs=.p b::br/\uv k a b=some r0/\(r0=true->uX ks ar br=some r)/\(r0=false->r=false):=by
 cases as with
 |nil=>simp[uX] at h
 |cons x ar=>
  cases bs with
  |nil=>cases x<;>simp[uX] at h
  |cons y br=>
   cases x<;>cases y<;>simp only[uX] at h<;>try cases h
   rename_i a b;cases he:uv k a b with
   |none=>simp[he] at h
   |some r0=>
    refine⟨a,ar,b,br,r0,rfl,rfl,he,fun e=>?_,fun e=>?_⟩
    .subst e;simpa [he] using h
    subst e;simp[he] at h;exact h
theorem akK{w:World}{m:Mem}(d:Nat){A B:Array Value}:∀ {fs:List Field} {ks:List Bool} {k:Nat} {as bs:List C} {r:Bool},JN P k fs=some ks->uX ks as bs=some r->
  (∀(j:Nat) (x:C),as[j]?=some x->∃v,A[k+j]?=some v/\cT m x v)->(∀(j:Nat) (x:C),bs[j]?=some x->∃v,B[k+j]?=some v/\cT m x v)->
  (Op.eqFields (d+1) A B fs).run P w=.ok r w:=by
 intro fs
 induction fs with
 |nil=>intro ks k as bs r hf he _ _;simp[JN] at hf;subst hf;rw[akJ he];simp[Op.eqFields,Sem.run_pure]
 |cons f fs ih=>
  intro ks k as bs r hf he ha hb;simp only[JN] at hf;split at hf
  .rename_i b BU h1 h2;split at hf
   .rename_i hc;obtain⟨VD,am5⟩:=hc;cases hf;obtain⟨x,ar,y,br,r0,rfl,rfl,h0,ht,hf⟩:=akI he;obtain⟨va,hva,uA⟩:=ha 0 (.p x) rfl;obtain⟨vb,hvb,qo⟩:=hb 0 (.p y) rfl;obtain⟨uA⟩:=uA;obtain⟨qo⟩:=qo;rw[se] at hva hvb;have MG:∀(X:Array Value) (v:Value),X[k]?=some v->(part f.type X f.offset).run P w=.ok v w:=by
     intro X v hX;have xI:(isAgg f.type).run P w=.ok false w:=by rcases af8 h1 with ⟨_,kk,hu⟩|⟨_,hu⟩<;>simp[isAgg,run_underlying hu]
     rw[VD];simp[part,xI,hX]
    have amI:(Op.equalIn (d+1) f.type va vb).run P w=.ok r0 w:=by
     rcases af8 h1 with ⟨rfl,kk,hu⟩|⟨rfl,hu⟩
     .obtain⟨k',p,q,rfl,rfl,rfl⟩:=akH h0;cases uA;cases qo;simp[Op.equalIn,run_underlying hu]
     obtain⟨p,q,rfl,rfl,rfl⟩:=akG h0;cases uA;cases qo;simp[Op.equalIn,run_underlying hu]
    simp only[Op.eqFields,if_pos am5,Sem.run_bind,MG A va hva,MG B vb hvb,amI,Result.andThen_ok];cases r0 with
    |false=>rw[hf rfl];simp[Sem.run_pure]
    |true=>simp only[Bx,dx,if_false];exact ih h2 (ht rfl) (fun j x hx=>by have:=ha (j+1) x (by simpa using hx);rwa[show k+(j+1)=k+1+j by omega] at this) (fun j x hx=>by have:=hb (j+1) x (by simpa using hx);rwa[show k+(j+1)=k+1+j by omega] at this)
   cases hf
  cases hf
def BD:uN->Value->Bool->Prop
 | .ptr,v,b=>∃a,v=.pointer a/\a.isNone=b
 | .slc,v,b=>∃a l c,v=.slice a l c/\a.isNone=b
 | .map,v,b=>∃r,v=.map r/\r.isNone=b
 | .fnc,v,b=>(v=.nilFunc/\b=true)\/ ∃f x y,v=.func f x y/\b=false
 | .ifc,v,b=>(v=.nilIface/\b=true)\/ ∃d x,v=.iface d x/\b=false
 |_,_,_=>False
theorem ye{m:Mem}{k:uN}{x:V}{v:Value}{b:Bool}(h:Gx k x=some b)(hr:bJ m x v):BD k v b:=by
 unfold Gx at h;split at h<;>cases h
 all_goals first
  |(obtain⟨hp⟩:cT m _ v:=hr;cases hp;first
    |exact⟨_,rfl,rfl⟩
    |exact⟨_,_,_,rfl,rfl⟩
    |exact .inl ⟨rfl,rfl⟩
    |exact .inr ⟨_,_,_,rfl,rfl⟩
    |exact .inr ⟨_,_,rfl,rfl⟩)
  |(have hc:cT m _ v:=hr;cases hc;first
    |exact⟨_,rfl,rfl⟩
    |exact⟨_,_,_,rfl,rfl⟩
    |exact .inr ⟨_,_,_,rfl,rfl⟩)
def Ry(P:Program)(t:TypeId):uN->Prop
 | .bool=>P.underlying t=some .bool
 | .ptr=>∃e,P.underlying t=some (.pointer e)
 | .slc=>∃e,P.underlying t=some (.slice e)
 | .map=>∃a b,P.underlying t=some (.map a b)
 | .fnc=>∃a b c,P.underlying t=some (.func a b c)
 | .ifc=>∃a,P.underlying t=some (.interface a)
 | .str ks=>∃fs,P.underlying t=some (.struct fs)/\P.stoodInHeld t=false/\P.eqGuardType P.depth t=false/\JN P 0 fs.toList=some ks
theorem ZY{t:TypeId}{x y:Operand}{k:uN}(h:K7 P t x y=some k):Ry P t k/\(k=.ifc->Jp x=true\/Jp y=true):=by
 unfold K7 at h;split at h
 .rename_i a ha;split at h
  .rename_i hc;cases h;exact⟨⟨_,ha⟩,fun _=>by simpa using hc⟩
  cases h
 .rename_i ha;cases h;exact⟨ha,fun e=>by cases e⟩
 .rename_i ha;cases h;exact⟨⟨_,ha⟩,fun e=>by cases e⟩
 .rename_i ha;cases h;exact⟨⟨_,ha⟩,fun e=>by cases e⟩
 .rename_i ha;cases h;exact⟨⟨_,_,ha⟩,fun e=>by cases e⟩
 .rename_i ha;cases h;exact⟨⟨_,_,_,ha⟩,fun e=>by cases e⟩
 .rename_i fs ha;split at h
  .rename_i hc;simp only[dC] at h;obtain⟨ks,h1,rfl⟩:=h;simp at hc;exact⟨⟨fs,ha,hc.1,hc.2,h1⟩,fun e=>by cases e⟩
  cases h
 cases h
theorem Z0{t:TypeId}{k:uN}{v u:Value}{a b:Bool}(w:World)(hk:Ry P t k)(h1:BD k v a)(h2:BD k u b)(iR:a=true\/b=true)(d:Nat):(Op.equalIn (d+1) t v u).run P w=.ok (a&&b) w:=by
 cases k with
 |bool=>exact h1.elim
 |str n=>exact h1.elim
 |ptr=>obtain⟨e,hu⟩:=hk;obtain⟨x,rfl,rfl⟩:=h1;obtain⟨y,rfl,rfl⟩:=h2;cases x<;>cases y<;>simp at iR<;>simp[Op.equalIn,run_underlying hu]
 |slc=>obtain⟨e,hu⟩:=hk;obtain⟨x,_,_,rfl,rfl⟩:=h1;obtain⟨y,_,_,rfl,rfl⟩:=h2;cases x<;>cases y<;>simp at iR<;>simp[Op.equalIn,run_underlying hu]
 |map=>obtain⟨e,e',hu⟩:=hk;obtain⟨x,rfl,rfl⟩:=h1;obtain⟨y,rfl,rfl⟩:=h2;cases x<;>cases y<;>simp at iR<;>simp[Op.equalIn,run_underlying hu]
 |fnc=>obtain⟨e,e',e'',hu⟩:=hk;rcases h1 with ⟨rfl,rfl⟩|⟨_,_,_,rfl,rfl⟩<;>rcases h2 with ⟨rfl,rfl⟩|⟨_,_,_,rfl,rfl⟩<;>simp at iR<;>simp[Op.equalIn,run_underlying hu]
 |ifc=>obtain⟨e,hu⟩:=hk;rcases h1 with ⟨rfl,rfl⟩|⟨_,_,rfl,rfl⟩<;>rcases h2 with ⟨rfl,rfl⟩|⟨_,_,rfl,rfl⟩<;>simp at iR<;>simp[Op.equalIn,run_underlying hu]
section
variable {m:Mem} {ak:Env} {a:Act} {o:Oper} (au:Ok w0 m) (hr:iW m ak a.tmps)
include au hr
theorem akO{t:TypeId}{k:uN}{x y:V}{v u:Value}{b:Bool}(hk:Ry P t k)(h:Cg k x y=some b)(hx:bJ m x v)(hy:bJ m y u)(d:Nat):(Op.equalIn (d+2) t v u).run P m.w=.ok b m.w:=by
 have _u0:=au;have _u1:=hr;unfold Cg at h;split at h
 .cases h;rw[EG hx,EG hy];have hk:P.underlying t=some .bool:=hk;simp only[Op.equalIn,Sem.run_bind,run_underlying hk,Result.andThen_ok,Sem.run_pure]
 .obtain⟨A,rfl,hA⟩:=bJ.agg.1 hx;obtain⟨B,rfl,hB⟩:=bJ.agg.1 hy;obtain⟨fs,hu,hs,_,hf⟩:=hk;have zw:P.fieldsOf t=fs:=by simp[Program.fieldsOf,hu]
  rw[run_equalIn_agg m.w (d+1) t A B (by rw[zw];exact hu) hs,zw];refine akK (w:=m.w) (m:=m) d hf h (fun j x hx=>?_) (fun j x hx=>?_)
  .have aw:j<A.size:=by have:=hA.1;simp at this;rw[this];exact(aS.1 hx).1
   exact⟨A[j],by simp[aw],hA.2 j x _ hx (by simp[aw])⟩
  have aw:j<B.size:=by have:=hB.1;simp at this;rw[this];exact(aS.1 hx).1
  exact⟨B[j],by simp[aw],hB.2 j x _ hx (by simp[aw])⟩
 .cases h
 .cases h
 split at h
 .rename_i hb;have:=Z0 (P:=P) m.w hk (ye h hx) (ye hb hy) (.inr rfl) (d+1)
  simpa using this
 split at h
 .rename_i ha;have:=Z0 (P:=P) m.w hk (ye ha hx) (ye h hy) (.inl rfl) (d+1)
  simpa using this
 cases h
theorem akL{op:BinOp}{t:TypeId}{k:uN}{x y:Operand}{x' y':aQ}{b:Bool}(hk:K7 P t x y=some k)(hx:cA x=some x')(hy:cA y=some y')(h:Cg k (ev ak x') (ev ak y')=some b):
  (eqGuard op t x y (a.eval x) (a.eval y)).run P m.w=.ok () m.w:=by
 have _u0:=au;obtain⟨dV,jH⟩:=ZY hk;have h1:=ek hx hr;have h2:=ek hy hr;by_cases hop:op=.eql\/op=.neq
 .unfold Cg at h;split at h
  .rename_i e1 e2;rw[e1] at h1;rw[EG h1,eqGuard_at_bool];rfl
  .rename_i e1 e2;rw[e1] at h1;rw[e2] at h2;obtain⟨A,e3,_⟩:=bJ.agg.1 h1;obtain⟨B,e4,_⟩:=bJ.agg.1 h2;obtain⟨fs,_,_,hg,_⟩:=dV;rw[e3,e4];exact run_eqGuard_agg m.w op t x y A B hg
  .cases h
  .cases h
  rename_i k q1 q2 q3 q4 q5 q6 q7;have hn:∃b1 b2,BD k (a.eval x) b1/\BD k (a.eval y) b2:=by
   split at h
   .rename_i hb;exact⟨_,_,ye h h1,ye hb h2⟩
   split at h
   .rename_i ha;exact⟨_,_,ye ha h1,ye h h2⟩
   cases h
  obtain⟨b1,b2,n1,n2⟩:=hn;cases k with
  |bool=>exact n1.elim
  |str n=>exact n1.elim
  |ptr=>obtain⟨q,e,_⟩:=n1;rw[e,eqGuard_at_pointer];rfl
  |slc=>obtain⟨q,_,_,e,_⟩:=n1;rw[e,eqGuard_at_slice];rfl
  |map=>obtain⟨q,e,_⟩:=n1;rw[e,eqGuard_at_map];rfl
  |fnc=>
   rcases n1 with ⟨e,_⟩|⟨_,_,_,e,_⟩
   .rw[e,eqGuard_at_nilFunc];rfl
   rw[e,eqGuard_at_func];rfl
  |ifc=>
   rcases n1 with ⟨e,_⟩|⟨_,_,e,_⟩
   .rcases n2 with ⟨e',_⟩|⟨_,_,e',_⟩
    .rw[e,e'];have hc:(∃c,x=.const c)\/ ∃c,y=.const c:=by
      rcases jH rfl with hc|hc
      .cases x<;>simp[Jp] at hc
       exact .inl ⟨_,rfl⟩
      cases y<;>simp[Jp] at hc
      exact .inr ⟨_,rfl⟩
     rcases hc with ⟨c,rfl⟩|⟨c,rfl⟩
     .rw[eqGuard_nil_constL];rfl
     rw[eqGuard_nil_constR];rfl
    rw[e,e',eqGuard_nil_iface];rfl
   rw[e,eqGuard_at_iface];rfl
 have:eqGuard op t x y (a.eval x) (a.eval y)=pure ():=by
  cases op<;>first
   |rfl
   |exact(hop (.inl rfl)).elim
   |exact(hop (.inr rfl)).elim
 rw[this];rfl
theorem aja{t:TypeId}{k:uN}{v u:Value}{b1:Bool}(hs:(∃p q,v=.bool p/\u=.bool q)\/(∃p q,v=.agg p/\u=.agg q)\/ ∃p q,BD k v p/\BD k u q)(h:(Op.equalIn (9998+2) t v u).run P m.w=.ok b1 m.w):
  (binOp .eql t v u).run P m.w=.ok (.bool b1) m.w/\(binOp .neq t v u).run P m.w=.ok (.bool (!b1)) m.w:=by
 have _u0:=au;have _u1:=hr;have he:Op.equal t v u=Op.equalIn (9998+2) t v u:=rfl;have key:binOp .eql t v u=(do pure (.bool (<- Op.equal t v u)))/\binOp .neq t v u=(do pure (.bool (!(<- Op.equal t v u)))):=by
  rcases hs with ⟨p,q,rfl,rfl⟩|⟨p,q,rfl,rfl⟩|⟨p,q,h1,h2⟩
  .exact⟨rfl,rfl⟩
  .exact⟨rfl,rfl⟩
  cases k with
  |bool=>exact h1.elim
  |str n=>exact h1.elim
  |ptr=>obtain⟨_,rfl,_⟩:=h1;obtain⟨_,rfl,_⟩:=h2;exact⟨rfl,rfl⟩
  |slc=>obtain⟨_,_,_,rfl,_⟩:=h1;obtain⟨_,_,_,rfl,_⟩:=h2;exact⟨rfl,rfl⟩
  |map=>obtain⟨_,rfl,_⟩:=h1;obtain⟨_,rfl,_⟩:=h2;exact⟨rfl,rfl⟩
  |fnc=>rcases h1 with ⟨rfl,_⟩|⟨_,_,_,rfl,_⟩<;>rcases h2 with ⟨rfl,_⟩|⟨_,_,_,rfl,_⟩<;>exact⟨rfl,rfl⟩
  |ifc=>rcases h1 with ⟨rfl,_⟩|⟨_,_,rfl,_⟩<;>rcases h2 with ⟨rfl,_⟩|⟨_,_,rfl,_⟩<;>exact⟨rfl,rfl⟩
 rw[key.1,key.2,he];simp only[Sem.run_bind,h,Result.andThen_ok,Sem.run_pure,and_self]
theorem agk{op:BinOp}{t ty:TypeId}{x y:Operand}{x' y':aQ}{k:uN}{neg b:Bool}(ho:o.op=.binOp op t x y ty)(hop:(op=.eql/\neg=false)\/(op=.neq/\neg=true))(hk:K7 P t x y=some k)(hx:cA x=some x')(hy:cA y=some y')
  (hv:Cg k (ev ak x') (ev ak y')=some b):ft P w0 a.eval o m (.one (.p (.bool (if neg then !b else b)))) []:=by
 have h1:=ek hx hr;have h2:=ek hy hr;have hg:=akL au hr (op:=op) hk hx hy hv;have he:=akO au hr (ZY hk).1 hv h1 h2 9998;have hs:(∃p q,a.eval x=.bool p/\a.eval y=.bool q)\/(∃p q,a.eval x=.agg p/\a.eval y=.agg q)\/ ∃p q,BD k (a.eval x) p/\BD k (a.eval y) q:=by
  unfold Cg at hv;split at hv
  .rename_i e1 e2;rw[e1] at h1;rw[e2] at h2;exact .inl ⟨_,_,EG h1,EG h2⟩
  .rename_i e1 e2;rw[e1] at h1;rw[e2] at h2;obtain⟨A,e3,_⟩:=bJ.agg.1 h1;obtain⟨B,e4,_⟩:=bJ.agg.1 h2;exact .inr (.inl ⟨A,B,e3,e4⟩)
  .cases hv
  .cases hv
  split at hv
  .rename_i hb;exact .inr (.inr ⟨_,_,ye hv h1,ye hb h2⟩)
  split at hv
  .rename_i ha;exact .inr (.inr ⟨_,_,ye ha h1,ye hv h2⟩)
  cases hv
 obtain⟨r1,r2⟩:=aja au hr hs he;rcases hop with ⟨rfl,rfl⟩|⟨rfl,rfl⟩
 .exact .calm au (by simp[execOp,ho,hg,r1]) (mg (.bool _))
 exact .calm au (by simp[execOp,ho,hg,r2]) (mg (.bool _))
end
end Go.Abs
namespace Go.Abs
variable {P:Program} {w0:World}
theorem aje:∀ {es:List (List PV)} {bs:List UInt8},bytesOf es=some bs->∃ns:List Int,es.flatten=ns.map (PV.int .u8)/\bs=ns.map (fun n=>UInt8.ofNat n.toNat)/\ns.length=es.length:=by
 intro es
 induction es with
 |nil=>intro bs h;simp[bytesOf] at h;exact⟨[],rfl,h,rfl⟩
 |cons e r ih=>
  intro bs h;unfold bytesOf at h;split at h
  .rename_i e';cases e'
  .rename_i n r' e';cases e';simp only[dC] at h;obtain⟨q,hq,rfl⟩:=h;obtain⟨ns,h1,h2,h3⟩:=ih hq;exact⟨n::ns,by simp[h1],by simp[h2],by simp[h3]⟩
  cases h
theorem arh{w:World}{own:Nat->Prop}:∀ {ns:List Int} {vs:List Value},Pw (bU w own) (ns.map (PV.int .u8)) vs->vs=ns.map (Value.int .u8):=by
 intro ns
 induction ns with
 |nil=>intro vs h;have:=h.1;simp at this;simp[this]
 |cons n ns ih=>
  intro vs h;cases vs with
  |nil=>have:=h.1;simp at this
  |cons v vs=>have h0:=h.2 0 _ v rfl rfl;cases h0;rw[ih (vs:=vs) ⟨by have:=h.1;simpa using this,fun j x u a b=>h.2 (j+1) x u (by simpa using a) (by simpa using b)⟩];rfl
theorem arc:∀(ns:List Int) (s:ByteArray),ns.foldl (fun r n=>r.push (UInt8.ofNat n.toNat)) s=⟨s.data++(ns.map (fun n=>UInt8.ofNat n.toNat)).toArray⟩:=by
 intro ns
 induction ns with
 |nil=>intro s;cases s;simp
 |cons n ns ih=>intro s;simp only[zZ,dG];rw[ih];cases s;simp[ByteArray.push]
section
variable {m:Mem} {ak:Env} {a:Act} {o:Oper} (au:Ok w0 m) (hr:iW m ak a.tmps)
include au hr
theorem asp{s d e:TypeId}{x:Operand}{x':aQ}{es:List (List PV)}{r:List Nat}{bs:List UInt8}(ho:o.op=.convert s d x)(hs:P.underlying s=some (.slice e))(he:P.underlying e=some (.int .u8))(hd:P.underlying d=some .string)
  (hx:cA x=some x') (dw:ez m.aj (ev ak x')=some (es,r,[])) (hb:bytesOf es=some bs):ft P w0 a.eval o m (.one (.p (.str ⟨bs.toArray⟩))) []:=by
 obtain⟨ns,h1,h2,h3⟩:=aje hb;obtain⟨ax,cx,wJ,_,xW⟩:=ZS (own:=m.own) au dw (ek hx hr) ⟨fun _ h=>h,fun _ h=>by simp at h⟩;refine .calm au (x:=.string ⟨bs.toArray⟩) ?_ (mg (.str _));have key:(Conv.bytesToString (.slice ax es.length cx)).run P m.w=.ok (.string ⟨bs.toArray⟩) m.w:=by
  by_cases aF:es=[]
  .subst aF;have:ns=[]:=by simpa using h3
   subst this;have mA:bs=[]:=by simpa using h2
   subst mA;cases ax with
   |none=>simp[Conv.bytesToString,Sem.run_pure];rfl
   |some ad=>have:=run_bytesToString (P:=P) m.w ad 0 cx [] (by simp[loadCells,loadCellsFrom,Sem.run_pure]);exact this
  obtain⟨b,off,news,rfl,qW,xL⟩:=xW aF;rw[h1] at qW;have hn:=arh qW;have hl:news.length=es.length:=by rw[hn];simpa using h3
  have amV:(loadCells ⟨b,off,none⟩ es.length).run P m.w=.ok (ns.map (Value.int .u8)).toArray m.w:=by rw[<- hl,<- hn];exact run_loadCells_list m.w ⟨b,off,none⟩ news fun j v hj=>by rw[Addr.add_lit];exact xL j v hj
  rw[run_bytesToString m.w _ _ cx ns amV,arc,h2];simp[ByteArray.empty,ByteArray.emptyWithCapacity];rfl
 simp only[execOp,ho,wJ,Sem.run_bind,run_convert_bytes_string m.w s d e ax es.length cx hs he hd,key,Result.andThen_ok,Sem.run_pure]
end
end Go.Abs
namespace Go.Abs
variable {P:Program} {w0:World}
theorem Sg{xs:Array Operand}{a:aQ}(h:pZ xs.toList=some [a]):∃x,xs= #[x]/\cA x=some a:=by
 obtain⟨xs⟩:=xs;cases xs with
 |nil=>simp[pZ] at h
 |cons x r=>
  simp only[pZ] at h;split at h
  .rename_i y ys e1 e2;cases h;cases r with
   |nil=>exact⟨x,rfl,e1⟩
   |cons z r=>simp only[pZ] at e2;split at e2<;>simp at e2
  cases h
theorem Sh{xs:Array Operand}{a b:aQ}(h:pZ xs.toList=some [a,b]):∃x y,xs= #[x,y]/\cA x=some a/\cA y=some b:=by
 obtain⟨xs⟩:=xs;cases xs with
 |nil=>simp[pZ] at h
 |cons x r=>
  simp only[pZ] at h;split at h
  .rename_i y ys e1 e2;cases h;obtain⟨z,hz,Gt⟩:=Sg (xs:=r.toArray) (by simpa using e2);have:r=[z]:=by simpa using congrArg Array.toList hz
   subst this;exact⟨x,z,rfl,e1,Gt⟩
  cases h
theorem auj{xs:Array TypeId}{t u:TypeId}(h1:xs[0]?=some t)(h2:xs[1]?=some u)(hs:xs.size=2):xs= #[t,u]:=by
 obtain⟨xs⟩:=xs
 match xs,hs with
 |[a,b],_=>simp at h1 h2;subst h1 h2;rfl
theorem alE{α:Type}{sz:Nat}{es ys:List (List α)}{off:Nat}(h:∀e∈es,e.length=sz)(hy:∀e∈ys,e.length=sz)(hl:off+ys.length<=es.length):(eN es off ys).flatten=eN es.flatten (off*sz) ys.flatten:=by
 have ht:∀k,k<=es.length->(es.take k).flatten.length=k*sz:=fun k hk=>by rw[FR fun e he=>h e (vJ he),eQ,xe hk]
 have e1:es.flatten=(es.take off).flatten++(es.drop off).flatten:=by rw[<- Dv,kG]
 have e2:es.flatten=(es.take (off+ys.length)).flatten++(es.drop (off+ys.length)).flatten:=by rw[<- Dv,kG]
 unfold eN;rw[Dv,Dv,FR hy];congr 1
 .congr 1
  conv=>rhs;rw[e1]
  rw[List.take_left' (ht off aa)]
 rw[<- fY]
 conv=>rhs;rw[e2]
 rw[List.drop_left' (ht _ hl)]
theorem au1{R:PV->Value->Prop}{z:List PV}{v:Array Value}{n:Nat}(hz:Pw R z v.toList):Pw R (List.replicate n z).flatten (Builtin.zeroCells v n).toList:=by
 have l8:z.length=v.size:=by have:=hz.1;simp at this;omega
 have dk:∀e∈List.replicate n z,e.length=v.size:=fun e he=>by rw[Rq he];exact l8
 have hlen:(Builtin.zeroCells v n).toList.length=n*v.size:=by simp[size_zeroCells]
 refine⟨by rw[hlen,FR dk];simp,fun j x u p q=>?_⟩;have hj:j<n*v.size:=by have:=(aS.1 q).1;omega
 have fA:0<v.size:=by
  rcases Nat.eq_zero_or_pos v.size with h|h
  .rw[h] at hj;omega
  exact h
 have hdiv:j/v.size<n:=by rw[Nat.div_lt_iff_lt_mul fA];exact hj
 have Po:j%v.size<v.size:=dQ _ fA;have he:(List.replicate n z)[j/v.size]?=some z:=by simp[hdiv]
 have h1:=FQ dk he Po;rw[show j/v.size*v.size+j%v.size=j by rw[Nat.mul_comm];exact Nat.div_add_mod j v.size] at h1;rw[h1] at p;have h2:(Builtin.zeroCells v n).toList[j]?=some v[j%v.size]! :=by unfold Builtin.zeroCells;simp[hj]
 rw[h2] at q;cases q;refine hz.2 (j%v.size) x _ p ?_;simp[Po]
section
variable {m:Mem} {ak:Env} {a:Act} {o:Oper} (au:Ok w0 m) (hr:iW m ak a.tmps)
include au hr
theorem ass{c:Call}{x:Operand}{x':aQ}{t e:TypeId}{sz bytes:Nat}{z:List PV}{sh:Nat->Bool}{v:V}{u:List eG}{rd:List Nat}(ho:o.op=.call c)(hc:c.callee=.builtin .clear)(has:c.args= #[x])(hJ:c.argTypes[0]?=some t)
  (he:Ah P t=some (e,sz,bytes,z)) (hx:cA x=some x') (hp:bn sh ak m.aj (.clear z x')=.done v u rd):ft P w0 a.eval o m v u:=by
 obtain⟨i,zv,ht,hi,hs,hb,⟨fA,F5⟩,wB,I7,l8,dp⟩:=Oy he;have kO:=ek hx hr;have run:∀(y:Value) (w':World),(Builtin.clear_ c.argTypes o.type #[a.eval x]).run P m.w=.ok y w'->(execOp a.eval o).run P m.w=.ok (.value y) w':=by intro y w' h;simp[execOp,ho,resolve,hc,has,invoke,builtin,h]
 have quiet:(Builtin.clear_ c.argTypes o.type #[a.eval x]).run P m.w=.ok (.tuple #[]) m.w->ft P w0 a.eval o m (.tup []) []:=fun h=>
  ⟨.tuple #[],m,.inl (run _ _ h),au,Ev.refl _,rfl,rfl,(⟨#[],rfl,rfl,fun j x u h=>by simp at h⟩:bJ m (.tup []) _)⟩
 simp only[bn] at hp;split at hp
 .rename_i hv;cases hp;rw[hv] at kO;have kO:cT m _ (a.eval x):=kO;generalize Cr:a.eval x=b at kO;rw[Cr] at quiet;apply quiet;cases kO with
  |p h=>cases h;simp[Builtin.clear_,hJ,run_underlying ht]
 .rename_i hv;cases hp;rw[hv] at kO;have kO:cT m _ (a.eval x):=kO;generalize Cr:a.eval x=b at kO;rw[Cr] at quiet;apply quiet;cases kO with
  |p h=>
   cases h with
   |yA a cap hn hm=>cases a<;>simp[Builtin.clear_,hJ,run_underlying ht]
   |sl b o cap sz f h1 h2 h3 h4=>simp[Builtin.clear_,hJ,run_underlying ht]
 .rename_i id g w off len hv;rw[hv] at kO;have kO:cT m _ (a.eval x):=kO;generalize Cr:a.eval x=b at kO;rw[Cr] at quiet run;cases kO with
  |hsl ad cap hg hl hm nc=>
   split at hp
   .rename_i h0;cases hp;subst h0;apply quiet;simp[Builtin.clear_,hJ,run_underlying ht]
   rename_i h0;split at hp
   .rename_i g' ty bN es iu;split at hp
    .rename_i LU;obtain⟨iL,cn,hfit⟩:=LU;cases hp;have aV:(m.aj id).2=some (.arr ty bN es):=by rw[iu]
     obtain⟨_,nc,_⟩:=nc bN (by rw[iu];exact iL) (by rw[iu];rfl);have nc:=nc (.inr aa);subst nc;obtain⟨cur,hh,j8,tQ,mH,tM,ab7,Pv⟩:=au.obj id _ aV;have hze:∀e∈List.replicate len z,e.length=bN:=fun e he=>by rw[Rq he];exact cn.symm
     have anC:zv.cells.size=bN:=by rw[I7,<- l8,cn]
     have I6:(List.replicate len z).length=len:=List.length_replicate;have rR:=alE (off:=off) tQ hze (by rw[I6];exact hfit);have xS:(off+len)*bN<=es.length*bN:=lT _ hfit;have acg:es.length*bN<=m.κ id*bN:=lT _ mH;rw[fY] at xS;generalize hZ:(Builtin.zeroCells zv.cells len).toList=Z;have hZl:Z.length=len*bN:=by rw[<- hZ];simp[size_zeroCells,anC]
     have hZp:∀w own,df w own (List.replicate len z).flatten Z:=fun w own=>df.pw.2 (by rw[<- hZ];exact au1 (df.pw.1 (dp w own)));have Pt:∀v∈Z,v.oneCell'=true:=fun v hv=>by
      obtain⟨j,hj⟩:=jD hv;have aw:j<(List.replicate len z).flatten.length:=by rw[<- (hZp m.w m.own).1];exact(aS.1 hj).1
      exact((hZp m.w m.own).2 j _ v (nG aw) hj).Nk
     have Aw:off*bN+0+Z.length<=cur.size:=by rw[hZl,ab7];omega
     have cE:=run_storeCells_at P (m.σ id) (off*bN) ty Z 0 cur m.w hh Aw Pt;simp only[se] at cE;generalize hW:m.w.setRow (m.σ id) (cur.toList.take (off*bN)++Z++cur.toList.drop (off*bN+Z.length)).toArray=W at cE;have Ef:W.heap.size=m.w.heap.size:=by rw[<- hW];simp
     have Ee:∀c,c≠m.σ id->W.heap[c]?=m.w.heap[c]? :=fun c hc=>by rw[<- hW];exact setRow_other m.w (m.σ id) c _ hc
     have acD:(eN es off (List.replicate len z)).length=es.length:=Q3 (by rw[I6];exact hfit);have dL:=NC (w':=W) (o:=.arr ty bN (eN es off (List.replicate len z))) aV rfl (by simp[kB]) (by rw[<- hW];rfl) (by rw[<- hW];rfl) (by rw[<- hW];rfl) Ef Ee;have CJ:tj (m.jX W id (.arr ty bN (eN es off (List.replicate len z)))) id (.arr ty bN (eN es off (List.replicate len z))):=by
      refine⟨_,by rw[<- hW];exact ND hh,j8,?_,by rw[acD];exact mH,tM,?_,?_⟩
      .intro e' Ct;unfold eN at Ct;simp only[eF] at Ct;rcases Ct with (h|h)|h
       .exact tQ e' (vJ h)
       .exact hze e' h
       exact tQ e' (vI h)
      .simp[Mem.jX];omega
      rw[acD,rR];have h1:=(df.pw.1 (Pv.ev dL.zero)).eN (df.pw.1 (hZp (m.jX W id (.arr ty bN (eN es off (List.replicate len z)))).w (m.jX W id (.arr ty bN (eN es off (List.replicate len z)))).own)) (off*bN);rw[<- agD aa (by simp;omega)] at h1;have h1:=df.pw.2 h1
      simpa [eN] using h1
     refine⟨.tuple #[],m.jX W id (.arr ty bN (eN es off (List.replicate len z))),.inl (run _ _ ?_),QQ aV rfl au (by simp[kB]) (by rw[<- hW];rfl) (by rw[<- hW];rfl) (by rw[<- hW];rfl) Ef Ee CJ,dL,rfl,?_,(⟨#[],rfl,rfl,fun j x u h=>by simp at h⟩:bJ _ (.tup []) _)⟩
     .obtain⟨k,rfl⟩:∃k,len=k+1:=⟨len-1,aa⟩;simp[Builtin.clear_,hJ,run_underlying ht,zeroValue,typeInfo,hi,wB,hZ,cE,Mem.jX]
     simp[Mem.jX,app,iu,iL]
    cases hp
   cases hp
 cases hp
end
section
variable {m:Mem} {ak:Env} {a:Act} {o:Oper} (au:Ok w0 m) (hr:iW m ak a.tmps)
include au hr
theorem aeE{t kt e:TypeId}{x k y:Operand}{x' k' y':aQ}{kd:Nat}{ag:Bool}{sh:Nat->Bool}{v:V}{u:List eG}{rd:List Nat}(ho:o.op=.mapUpdate t x k y\/o.op=.insert t x k y)(ht:P.underlying t=some (.map kt e))
  (AM:keyOf P kt=some kd) (hx:cA x=some x') (hk:cA k=some k') (hy:cA y=some y') (hp:bn sh ak m.aj (.mupd kd ag x' k' y')=.done v u rd):ft P w0 a.eval o m v u:=by
 simp only[bn] at hp;split at hp
 .rename_i id g q cs e1 e2 e3;split at hp
  .rename_i g' rD es ps e4 e5;split at hp
   .rename_i qR;obtain⟨rfl,rfl,hq⟩:=qR;split at hp
    .rename_i i w hf;cases hp;exact agm au hr ho ht AM hx hk hy e1 e4 e2 hq e3 e5 hf
    .rename_i hf;cases hp;exact agm au hr ho ht AM hx hk hy e1 e4 e2 hq e3 e5 hf
    cases hp
   cases hp
  cases hp
 cases hp
theorem apT{site:Nat}{sh:Nat->Bool}{p:mT}{v:V}{u:List eG}{rd:List Nat}(hc:FH P site o=some p)(hp:bn sh ak m.aj p=.done v u rd):ft P w0 a.eval o m v u:=by
 unfold FH at hc;split at hc
 · -- move
  rename_i x ho;simp only[dC] at hc;obtain⟨y,h1,rfl⟩:=hc;cases hp;exact agl au hr (.inl ho) h1
 · -- assign
  rename_i x ho;simp only[dC] at hc;obtain⟨y,h1,rfl⟩:=hc;cases hp;exact agl au hr (.inr ho) h1
 · -- pick
  rename_i c x y ho;split at hc
  .rename_i c' x' y' h1 h2 h3;cases hc;simp only[bn] at hp;split at hp
   .rename_i t ht;cases hp;exact asK au hr ho h1 h2 h3 ht
   cases hp
  cases hc
 · -- alloc
  rename_i t ho;simp only[dC] at hc;obtain⟨z,h1,rfl⟩:=hc;cases hp;exact asj au ho h1
 · -- box
  rename_i t x ho;simp only[dC] at hc;obtain⟨z,h1,rfl⟩:=hc;simp only[bn] at hp;split at hp
  .rename_i cs cY;cases hp;exact asn au hr ho h1 cY
  cases hp
 · -- build
  rename_i t ps ho;split at hc
  .rename_i fs z h1 h2;split at hc
   .rename_i dk;simp only[dC] at hc;obtain⟨qs,h3,rfl⟩:=hc;simp only[bn] at hp;split at hp
    .rename_i rs Gn;cases hp;exact asr au hr ho h1 h2 dk h3 Gn
    cases hp
   cases hc
  .rename_i n e z h1 h2;split at hc
   .rename_i i hi;simp only[dC] at hc;obtain⟨qs,h3,rfl⟩:=hc;simp only[bn] at hp;split at hp
    .rename_i rs Gn;cases hp;exact asq au hr ho h1 h2 hi h3 Gn
    cases hp
   cases hc
  cases hc
 · -- buildSlice
  rename_i t n ps ho;split at hc
  .rename_i e sz bytes z as h1 h2;split at hc
   .rename_i qR;cases hc;simp only[bn] at hp;split at hp
    .rename_i es mD;obtain⟨g1,g2⟩:=aso (s:=site) au hr ho h1 h2 qR.1 qR.2 mD;split at hp
     .rename_i qs hqs;cases hp;exact g1 qs hqs
     cases hp;exact g2
    cases hp
   cases hc
  cases hc
 · -- load
  rename_i t x ho;split at hc
  .rename_i k y h1 h2;cases hc;simp only[bn] at hp;split at hp
   .rename_i cs r cY;split at hp
    .rename_i v' hv;cases hp;exact asz au hr ho h1 h2 cY hv
    cases hp
   cases hp
  cases hc
 · -- store
  rename_i t x y ho;split at hc
  .rename_i n x' y' h1 h2 h3;cases hc;simp only[bn] at hp;split at hp
   .rename_i cs cY;exact asQ au hr ho h1 h2 h3 cY hp
   cases hp
  cases hc
 · -- nilCheck
  rename_i x ho;simp only[dC] at hc;obtain⟨y,h1,rfl⟩:=hc;have hu:u=[]/\rd=[]:=by simp only[bn] at hp;split at hp<;>cases hp<;>exact⟨rfl,rfl⟩
  obtain⟨rfl,rfl⟩:=hu;exact asI au hr ho h1 hp
 · -- binOp
  rename_i op t x y ty ho;split at hc
  .rename_i x' y' h1 h2;have ab4:∀(op':BinOp),p=.bin op' x' y'->op'=op->ft P w0 a.eval o m v u:=by
    intro op' e1 e2;subst e1 e2;simp only[bn] at hp;split at hp
    .rename_i v' hv;cases hp;exact asm au hr ho h1 h2 hv
    cases hp
   split at hc
   .cases hc;exact ab4 _ rfl rfl
   .cases hc;exact ab4 _ rfl rfl
   split at hc
   .rename_i k hk;cases hc;simp only[bn] at hp;split at hp
    .rename_i b hb;cases hp;exact agk au hr (neg:=false) ho (.inl ⟨rfl,rfl⟩) hk h1 h2 hb
    cases hp
   .rename_i k hk;cases hc;simp only[bn] at hp;split at hp
    .rename_i b hb;cases hp;exact agk au hr (neg:=true) ho (.inr ⟨rfl,rfl⟩) hk h1 h2 hb
    cases hp
   cases hc
  cases hc
 · -- unOp
  rename_i op t x ho;split at hc
  .simp only[dC] at hc;obtain⟨y,h1,rfl⟩:=hc;simp only[bn] at hp;split at hp
   .rename_i b e1 e2;cases hp;exact asJ au hr ho h1 e2
   .rename_i e1 e2;cases e1
   cases hp
  .simp only[dC] at hc;obtain⟨y,h1,rfl⟩:=hc;simp only[bn] at hp;split at hp
   .rename_i e1 e2;cases e1
   .rename_i k n e1 e2;cases hp;exact asH au hr ho h1 e2
   cases hp
  cases hc
 · -- convert
  rename_i s d x ho;split at hc
  .rename_i ks k y h1 h2 h3;cases hc;simp only[bn] at hp;split at hp
   .rename_i k0 n hn;cases hp;exact ast au hr ho h1 h2 h3 hn
   cases hp
  .rename_i e y h1 h2 h3;split at hc
   .rename_i he;cases hc;simp only[bn] at hp;split at hp
    .rename_i es r mD;split at hp
     .rename_i bs mB;cases hp;exact asp au hr ho h1 he h2 h3 mD mB
     cases hp
    cases hp
   cases hc
  cases hc
 · -- makeFunc
  rename_i f x y ho;split at hc
  .rename_i x' y' h1 h2;cases hc;simp only[bn] at hp;split at hp
   .rename_i cs ds e1 e2;cases hp;exact asD au hr ho h1 h2 e1 e2
   cases hp
  cases hc
 · -- makeMap
  rename_i t ho;split at hc
  .simp only[dC] at hc;obtain⟨k,h1,rfl⟩:=hc;cases hp;exact asE (kt:=t) (t:=t) (e:=t) au ho
  cases hc
 · -- makeSlice
  rename_i t l c ho;split at hc
  .rename_i e sz bytes z l' c' h1 h2 h3;cases hc;simp only[bn] at hp;split at hp
   .rename_i n n' e1 e2;split at hp
    .rename_i qR;obtain⟨rfl,qt⟩:=qR;cases hp;exact asF au hr ho h1 h2 h3 e1 e2 qt
    cases hp
   cases hp
  cases hc
 · -- slice
  rename_i t x lo hi ho;split at hc
  .rename_i x' CS zy h1 h2 h3;split at hc
   .rename_i e ht;simp only[dC] at hc;obtain⟨sz,h4,rfl⟩:=hc;simp only[bn] at hp;split at hp
    .rename_i n hn;split at hp
     .rename_i l h e1 e2;have hu:u=[]/\rd=[]:=by
       unfold Dc at hp;repeat' split at hp
       all_goals first
        |cases hp
        |skip
       all_goals exact⟨rfl,rfl⟩
      obtain⟨rfl,rfl⟩:=hu;exact asO au hr ho ht h4 h1 h2 h3 hn e1 e2 hp
     cases hp
    cases hp
   .rename_i ht;cases hc;simp only[bn] at hp;split at hp
    .rename_i s hs;split at hp
     .rename_i l h e1 e2;split at hp
      .rename_i qR;cases hp;exact asP au hr ho ht h1 h2 h3 hs e1 e2 qR.1 qR.2
      cases hp
     cases hp
    cases hp
   cases hc
  cases hc
 · -- fieldAddr
  rename_i s x f ho;split at hc
  .rename_i fs y h1 h2;split at hc
   .rename_i d hd;split at hc
    .rename_i hz;cases hc;have hu:u=[]/\rd=[]:=by
      simp only[bn] at hp;split at hp<;>cases hp<;>exact⟨rfl,rfl⟩
     obtain⟨rfl,rfl⟩:=hu;exact asv au hr ho h1 hd hz h2 hp
    cases hc
   cases hc
  cases hc
 · -- field
  rename_i t x f ho;split at hc
  .rename_i fs y h1 h2;split at hc
   .rename_i d hd;simp only[dC] at hc;obtain⟨k,h3,rfl⟩:=hc;simp only[bn] at hp;split at hp
    .rename_i cs cY;split at hp
     .rename_i v' hv;cases hp;exact asw au hr ho h1 hd h3 h2 cY hv
     cases hp
    cases hp
   cases hc
  cases hc
 · -- indexAddr
  rename_i t x i ho;split at hc
  .rename_i x' i' h1 h2;split at hc
   .rename_i e ht;simp only[dC] at hc;obtain⟨sz,h3,rfl⟩:=hc;have hu:u=[]/\rd=[]:=by
     simp only[bn] at hp;repeat' split at hp
     all_goals first
      |cases hp
      |skip
     all_goals exact⟨rfl,rfl⟩
    obtain⟨rfl,rfl⟩:=hu;exact asx au hr ho ht h3 h1 h2 hp
   .rename_i n e ht;simp only[dC] at hc;obtain⟨sz,h3,rfl⟩:=hc;have hu:u=[]/\rd=[]:=by
     simp only[bn] at hp;repeat' split at hp
     all_goals first
      |cases hp
      |skip
     all_goals exact⟨rfl,rfl⟩
    obtain⟨rfl,rfl⟩:=hu;exact ash au hr ho ht h3 h1 h2 hp
   cases hc
  cases hc
 · -- index
  rename_i t x i ho;split at hc
  .rename_i x' i' h1 h2;split at hc
   .rename_i n e ht;split at hc
    .rename_i sz k h3 h4;cases hc;simp only[bn] at hp;split at hp
     .rename_i n' cs e1 e2;split at hp
      .rename_i aw;split at hp
       .rename_i v' hv;cases hp;exact asi au hr ho ht h3 h4 h1 h2 e1 aw e2 hv
       cases hp
      cases hp
     cases hp
    cases hc
   .rename_i ht;cases hc;simp only[bn] at hp;split at hp
    .rename_i n s e1 e2;split at hp
     .rename_i b hb;cases hp;exact asL au hr ho ht h1 h2 e1 e2 hb
     cases hp
    cases hp
   cases hc
  cases hc
 · -- lookup
  rename_i t x k ok ho;split at hc
  .rename_i kt e x' k' h1 h2 h3;split at hc
   .rename_i z q h4 h5;split at hc
    .rename_i kd h6;split at hc
     .rename_i h7;cases hc;simp only[bn] at hp;split at hp
      .rename_i es r key e1 e2;split at hp
       .cases hp
       rename_i AM;split at hp
       .rename_i f hf;split at hp
        .rename_i w hw;cases hp;exact asA au hr ho h1 h4 h6 h7 h2 h3 e1 e2 (Classical.not_not.1 AM) hf hw
        cases hp
       cases hp
      cases hp
     cases hc
    cases hc
   cases hc
  cases hc
 · -- mapUpdate
  rename_i t x k y ho;split at hc
  .rename_i kt e x' k' y' h1 h2 h3 h4;split at hc
   .rename_i q h5;simp only[dC] at hc;obtain⟨kd,h6,rfl⟩:=hc;exact aeE au hr (.inl ho) h1 h6 h2 h3 h4 hp
   cases hc
  cases hc
 · -- insert
  rename_i t x k y ho;split at hc
  .rename_i kt e x' k' y' h1 h2 h3 h4;split at hc
   .rename_i q h5;simp only[dC] at hc;obtain⟨kd,h6,rfl⟩:=hc;exact aeE au hr (.inr ho) h1 h6 h2 h3 h4 hp
   cases hc
  cases hc
 · -- extract
  rename_i x i ho;simp only[dC] at hc;obtain⟨y,h1,rfl⟩:=hc;simp only[bn] at hp;split at hp
  .rename_i vs qX;split at hp
   .rename_i v' hv;cases hp;exact asu au hr ho h1 qX hv
   cases hp
  cases hp
 · -- call
  rename_i c ho;split at hc
  .rename_i f as h1 h2;simp only[dC] at hc;obtain⟨y,h3,rfl⟩:=hc;simp only[bn] at hp;repeat' split at hp
   all_goals cases hp
  .rename_i x h1 h2;obtain⟨x0,nv,sQ⟩:=Sg h2;split at hc
   .rename_i t ht;split at hc
    .rename_i hu;cases hc;simp only[bn] at hp;split at hp
     .rename_i s hs;cases hp;exact asM au hr ho h1 nv ht hu sQ hs
     cases hp
    .rename_i e hu;cases hc;simp only[bn] at hp;split at hp
     .rename_i n hn;cases hp;exact asy au hr ho h1 nv ht hu sQ hn
     cases hp
    .rename_i k e hu;cases hc;simp only[bn] at hp;split at hp
     .rename_i n r hn;cases hp;exact asG au hr ho h1 nv ht hu sQ hn
     cases hp
    cases hc
   cases hc
  .rename_i x y h1 h2;obtain⟨x0,y0,nv,sQ,zL⟩:=Sh h2;split at hc
   .rename_i t u' ht hu;split at hc
    .rename_i e sz bytes z he;split at hc
     .rename_i qR;cases hc;obtain⟨rfl,cn⟩:=qR;exact asl au hr ho h1 nv (auj ht hu cn) he sQ zL hp
     cases hc
    cases hc
   cases hc
  .rename_i x y h1 h2;obtain⟨x0,y0,nv,sQ,zL⟩:=Sh h2;cases hc;simp only[bn] at hp;split at hp
   .rename_i k p k' q e1 e2;cases hp;exact asB au hr ho h1 nv sQ zL e1 e2
   cases hp
  .rename_i x y h1 h2;obtain⟨x0,y0,nv,sQ,zL⟩:=Sh h2;cases hc;simp only[bn] at hp;split at hp
   .rename_i k p k' q e1 e2;cases hp;exact asC au hr ho h1 nv sQ zL e1 e2
   cases hp
  .rename_i x h1 h2;obtain⟨x0,nv,sQ⟩:=Sg h2;split at hc
   .rename_i t ht;simp only[dC] at hc;obtain⟨⟨e,sz,bytes,z⟩,h3,rfl⟩:=hc;exact ass au hr ho h1 nv ht h3 sQ hp
   cases hc
  cases hc
 cases hc
end
end Go.Abs
namespace Go.Abs
variable {P:Program} {w0:World}
section
variable{m:Mem}{cs:List C}
def ahC(w:World)(Q:Nat->Prop)(ty sz:Nat)(es:List (List PV))(c:Nat)(v:Value):Prop:=∃cap cur,v=.slice (some ⟨c,0,none⟩) es.length cap/\w.heap[c]?=some (.cells cur ty (0,0))/\0<sz/\(∀e∈es,e.length=sz)/\es.length<=cap/\cap<=maxLen/\cur.size=cap*sz/\df w Q es.flatten (cur.toList.take (es.length*sz))
def rC(w:World)(Q:Nat->Prop):List RC->List Value->List Nat->Prop
 |[],vs,bs=>vs=[]/\bs=[]
 | .p x::r,vs,bs=>∃v mO,vs=v::mO/\bU w Q x v/\rC w Q r mO bs
 | .own ty sz es::r,vs,bs=>∃v mO c BU,vs=v::mO/\bs=c::BU/\ahC w Q ty sz es c v/\rC w Q r mO BU
theorem rC.mono{w w':World}{Q Q':Nat->Prop}(hk:∀c,c<w.heap.size-> ¬Q c->w'.heap[c]?=w.heap[c]? /\ ¬Q' c):∀ {rs:List RC} {vs:List Value} {bs:List Nat},(∀c∈bs,w'.heap[c]?=w.heap[c]?)->rC w Q rs vs bs->rC w' Q' rs vs bs:=by
 intro rs
 induction rs with
 |nil=>intro vs bs _ h;exact h
 |cons r rs ih=>
  intro vs bs hb h;cases r with
  |p x=>obtain⟨v,mO,rfl,h1,h2⟩:=h;exact⟨v,mO,rfl,h1.mono hk,ih hb h2⟩
  |own ty sz es=>obtain⟨v,mO,c,BU,rfl,rfl,⟨cap,cur,e1,e2,e3,e4,e5,e6,e7,e8⟩,h2⟩:=h;exact⟨v,mO,c,BU,rfl,rfl,⟨cap,cur,e1,by rw[hb c af];exact e2,e3,e4,e5,e6,e7,e8.mono hk⟩,ih (fun c hc=>hb c (by simp[hc])) h2⟩
theorem rC.less{w:World}{Q Q':Nat->Prop}(h:∀b,Q' b->Q b){rs:List RC}{vs:List Value}{bs:List Nat}(hr:rC w Q rs vs bs):rC w Q' rs vs bs:=hr.mono (fun c _ hn=>⟨rfl,fun hq=>hn (h c hq)⟩) (fun _ _=>rfl)
theorem as6(au:Ok w0 m){Q:Nat->Prop}(hQ:∀b,Q b->m.own b){c:C}{x:PV}{q:List Nat}{v:Value}(h:snap m.aj eL c=some (x,q))(hr:cT m c v)(hs:∀id∈q,¬Q (m.σ id)):bU m.w Q x v:=JQ au eL h hr ⟨hQ,hs⟩
theorem ae9(au:Ok w0 m){Q:Nat->Prop}(hQ:∀b,Q b->m.own b):∀ {cs:List C} {rs:List RC} {o q:List Nat} {vs:List Value},lM m.aj cs=some (rs,o,q)->di m cs vs->(∀id∈q,¬Q (m.σ id))->
  rC m.w Q rs vs (o.map m.σ)/\ ∀id∈o,∃ob,(m.aj id).2=some ob/\ob.fh=true:=by
 intro cs
 induction cs with
 |nil=>
  intro rs o q vs h hr _;simp only[lM,fq,ko] at h;obtain⟨rfl,rfl,rfl⟩:=h;have:vs=[]:=by have:=hr.1;simpa using this
  exact⟨⟨this,rfl⟩,fun id h=>by simp at h⟩
 |cons c cs ih=>
  intro rs o q vs h hr hq;simp only[lM] at h;split at h
  .rename_i x o1 q1 xs os qs h1 h2;cases h;cases vs with
   |nil=>simp[di] at hr
   |cons v vs=>
    obtain⟨i1,i2⟩:=ih (vs:=vs) h2 ⟨by have:=hr.1;simpa using this,fun j x u a b=>hr.2 (j+1) x u (by simpa using a) (by simpa using b)⟩ (fun id hid=>hq id (by simp[hid]));have hc:cT m c v:=hr.2 0 c v rfl rfl;have snapcase:∀ {y:PV},(snap m.aj eL c).map (fun(v,r)=>((.p v:RC),([]:List Nat),r))=some (x,o1,q1)->rC m.w Q (x::xs) (v::vs) ((o1++os).map m.σ)/\ ∀id∈o1++os,∃ob,(m.aj id).2=some ob/\ob.fh=true:=by intro _ h1;simp only[dC] at h1;obtain⟨⟨y,r⟩,h3,h4⟩:=h1;cases h4;exact⟨⟨v,vs,rfl,as6 au hQ h3 hc (fun id hid=>hq id (by simp[hid])),i1⟩,i2⟩
    unfold jc at h1;split at h1
    .rename_i y;cases h1;have hy:bU m.w m.own y v:=by cases hc with|p h=>exact h
     exact⟨⟨v,vs,rfl,hy.less hQ,i1⟩,i2⟩
    .rename_i id g z len;split at h1
     .rename_i g' ty sz es hb;split at h1
      .rename_i qR;obtain⟨rfl,hlen⟩:=qR;cases h1;have hbo:(m.aj id).2=some (.arr ty sz es):=by rw[hb]
       obtain⟨cur,hh,fA,cn,hl,rW,cY,dp⟩:=au.obj id _ hbo;cases hc with
       |hsl ad cap hg rU IQ Ml=>
        obtain⟨f1,f2,f3⟩:=Ml sz (by rw[hb]) (by rw[hb];rfl);have nc:=f2 (.inl rfl);have kZ:cap=m.κ id:=by rw[<- f3,iD]
        rw[Aa] at nc;subst nc;subst kZ;have aw:(es.take len).length=len:=by simp;omega
        refine⟨⟨_,vs,m.σ id,os.map m.σ,rfl,rfl,⟨m.κ id,cur,by rw[aw],hh,fA,fun e he=>cn e (vJ he),by rw[aw];exact rU,rW,cY,?_⟩,i1⟩,?_⟩
        .rw[aw,Ij cn];have h1:=(df.pw.1 dp).take (len*sz);rw[Ho,xe (lT _ hlen)] at h1;exact(df.pw.2 h1).less hQ
        intro j hj;simp only[jg,fp,cM] at hj;rcases hj with rfl|hj
        .exact⟨_,hbo,rfl⟩
        exact i2 j hj
      cases h1
     exact snapcase (y:=.uG) h1
    exact snapcase (y:=.uG) h1
  cases h
theorem acP:∀(rs:List RC) (site:Nat) (b b':aq),(∀s,site<=s->(b s).1=(b' s).1)->iU b site rs=iU b' site rs:=by
 intro rs
 induction rs with
 |nil=>intro site b b' _;rfl
 |cons r rs ih=>
  intro site b b' h;have h1:cD b site r=cD b' site r:=by
   cases r with
   |p x=>rfl
   |own ty sz es=>simp only[cD,h site (aX _)]
  simp only[iU,h1,ih (site+1) b b' (fun s hs=>h s aa)]
theorem anY{s c k:Nat}{o:Ob}(hc:m.fr c):uj m (m.install s c k o) where
 own x _ hn:=⟨rfl,fun h=>hn (PH hc h)⟩
 gen id:=by
  simp only[Mem.install,aM];split
  .rename_i e;subst e;exact Nat.le_succ _
  exact aX _
 ref id hg hs:=by
  simp only[Mem.install,aM] at hg hs ⊢;split at hg
  .rename_i e;subst e;simp at hg
  rename_i e;simp only[if_neg e] at hs ⊢;exact⟨hs,trivial,trivial,trivial⟩
theorem uj.trans{a b c:Mem}(h:uj a b)(hs:a.w.heap.size<=b.w.heap.size)(k:uj b c):uj a c where
 own x hx hn:=by have h1:=h.own x hx hn;have h2:=k.own x (Dy hx hs) h1.2;exact⟨h2.1.trans h1.1,h2.2⟩
 gen id:=ll (h.gen id) (k.gen id)
 ref id he AT:=by have h1:=h.gen id;have h2:=k.gen id;obtain⟨s1,e1,e2,e3⟩:=k.ref id aa AT;obtain⟨s2,f1,f2,f3⟩:=h.ref id aa s1;exact⟨s2,e1.trans f1,e2.trans f2,e3.trans f3⟩
theorem anK{Na:Mem}:∀ {rs:List RC} {vs:List Value} {bs:List Nat} {site:Nat} {m:Mem},Ok w0 m->rC m.w m.own rs vs bs->bs.Nodup->(∀c∈bs,m.fr c/\w0.heap.size<=c)->Ev Na m->(∀c∈bs,Na.w.heap.size<=c\/Na.fh c)->
  ∃m',m'.w=m.w/\Ok w0 m'/\Ev Na m'/\uj m m'/\(∀c,m'.fr c↔m.fr c/\c∉bs)/\m'.aj=app (iU m.aj site rs).2 m.aj/\di m' (iU m.aj site rs).1 vs:=by
 intro rs
 induction rs with
 |nil=>intro vs bs site m au h _ _ dL _;obtain⟨rfl,rfl⟩:=h;exact⟨m,rfl,au,dL,⟨fun c _ h=>⟨rfl,h⟩,fun _=>aX _,fun _ _ h=>⟨h,rfl,rfl,rfl⟩⟩,fun c=>af,rfl,rfl,fun j x u h=>by simp[iU] at h⟩
 |cons r rs ih=>
  intro vs bs site m au h iS mB dL Mu;have cons:∀ {m':Mem} {x:C} {xs:List C} {v:Value} {vs:List Value},cT m' x v->di m' xs vs->di m' (x::xs) (v::vs):=by
   intro m' x xs v vs h1 h2;refine⟨by simp[h2.1],fun j y u a b=>?_⟩;cases j with
   |zero=>simp at a b;subst a b;exact h1
   |succ j=>simp at a b;exact h2.2 j y u a b
  cases r with
  |p x=>obtain⟨v,mO,rfl,h1,h2⟩:=h;obtain⟨m',e1,e2,e3,e4,e5,e6,e7⟩:=ih (site:=site+1) au h2 iS mB dL Mu;exact⟨m',e1,e2,e3,e4,e5,by simpa [iU,cD] using e6,by simpa [iU,cD] using cons (cT.p (h1.ev e4)) e7⟩
  |own ty sz es=>
   obtain⟨v,mO,c,BU,rfl,rfl,⟨cap,cur,q1,q2,q3,q4,q5,q6,q7,q8⟩,h2⟩:=h;have hfc:=(mB c af).1;have h0:=anY (s:=site) (k:=cap) (o:=.arr ty sz es) hfc;have hσ:(m.install site c cap (.arr ty sz es)).σ site=c:=by simp[Mem.install,aM]
   have hκ:(m.install site c cap (.arr ty sz es)).κ site=cap:=by simp[Mem.install,aM]
   have nj:Ok w0 (m.install site c cap (.arr ty sz es)):=PG au hfc (mB c af).2
    ⟨cur,by rw[hσ];exact q2,q3,q4,by rw[hκ];exact q5,by rw[hκ];exact q6,by rw[hκ];exact q7,df.ev h0 q8⟩
   have acx:=sa.1 iS;obtain⟨m',e1,e2,e3,e4,e5,e6,e7⟩:=ih (site:=site+1) (m:=m.install site c cap (.arr ty sz es)) nj (h2.less fun b hb=>PH hfc hb) acx.2
    (fun d hd=>⟨⟨(mB d (by simp[hd])).1,fun e=>acx.1 (e▸hd)⟩,(mB d (by simp[hd])).2⟩) (PE dL hfc (Mu c af)) (fun d hd=>Mu d (by simp[hd]))
   have Vg:iU (m.install site c cap (.arr ty sz es)).aj (site+1) rs=iU m.aj (site+1) rs:=acP _ _ _ _ fun s hs=>by simp only[Mem.install,aM];rw[if_neg aa]
   rw[Vg] at e6 e7;refine⟨m',e1,e2,e3,h0.trans (aX _) e4,fun d=>?_,?_,?_⟩
   .rw[e5 d];simp only[Mem.install,cM,not_or];exact⟨fun⟨⟨a,b⟩,c⟩=>⟨a,b,c⟩,fun⟨a,b,c⟩=>⟨⟨a,b⟩,c⟩⟩
   .rw[e6];rfl
   refine cons ?_ e7;have:cT (m.install site c cap (.arr ty sz es)) (.hsl site ((m.aj site).1+1) sz 0 es.length) v:=by
    rw[q1];refine .hsl _ _ ?_ q5 q6 fun z h1 h2=>?_
    .simp[Mem.install,aM]
    have hz:kB ((m.install site c cap (.arr ty sz es)).aj site)=some sz:=by simp[Mem.install,aM,kB]
    rw[hz] at h2;cases h2;exact⟨rfl,fun _=>by rw[hσ,Aa],by rw[iD];exact hκ.symm⟩
   exact this.ev e4
def xh:RV->Value->List Value->Prop
 | .one _,v,vs=>vs=[v]
 | .agg l,v,vs=>v=.agg vs.toArray/\vs.length=l.length
 | .tup _,_,_=>False
def DA:List RV->List Value->List Value->Prop
 |[],us,vs=>us=[]/\vs=[]
 |r::rs,us,vs=>∃u NL a b,us=u::NL/\vs=a++b/\xh r u a/\DA rs NL b
def Fo:RV->Value->List Value->Prop
 | .tup rs,v,vs=>∃arr,v=.tuple arr/\DA rs arr.toList vs
 |r,v,vs=>xh r v vs
theorem di.take{vs:List Value}(h:di m cs vs)(n:Nat):di m (cs.take n) (vs.take n):=di.pw.2 ((di.pw.1 h).take n)
theorem di.drop{vs:List Value}(h:di m cs vs)(n:Nat):di m (cs.drop n) (vs.drop n):=di.pw.2 ((di.pw.1 h).drop n)
theorem di.append{ds:List C}{vs us:List Value}(h:di m cs vs)(k:di m ds us):di m (cs++ds) (vs++us):=di.pw.2 ((di.pw.1 h).append (di.pw.1 k))
theorem di.single{c:C}{v:Value}(h:cT m c v):di m [c] [v]:=⟨rfl,fun j x u a b=>by
 rcases j with _|j
 .simp at a b;subst a b;exact h
 simp at a⟩
theorem abm{v:V}{val:Value}(h:my v=some cs)(hr:nH m v val):
  ∃vs,di m cs vs/\ ∀(rs tl:List RC),rs.length=cs.length->(rq v (rs++tl)).2=tl/\gI (rq v (rs++tl)).1=rs/\xh (rq v (rs++tl)).1 val vs:=by
 cases v with
 |undef=>simp[my] at h
 |tup vs=>simp[my] at h
 |one c=>
  simp only[my,fq] at h;subst h;refine⟨[val],di.single hr,fun rs tl hl=>?_⟩
  match rs,hl with
  |[r],_=>exact⟨rfl,rfl,rfl⟩
 |agg ds=>
  simp only[my,fq] at h;subst h;obtain⟨arr,rfl,hc⟩:=hr;refine⟨arr.toList,hc,fun rs tl hl=>?_⟩;have h1:(rs++tl).take ds.length=rs:=by rw[<- hl];exact List.take_left
  have h2:(rs++tl).drop ds.length=tl:=by rw[<- hl];exact List.drop_left
  simp only[rq,gI,xh,h1,h2,true_and];rw[hc.1,hl]
theorem alz:∀ {ws:List V} {cs:List C} {vals:List Value},tD ws=some cs->Pw (nH m) ws vals->
  ∃vs,di m cs vs/\ ∀(rs:List RC),rs.length=cs.length->kL (yx ws rs)=rs/\DA (yx ws rs) vals vs:=by
 intro ws
 induction ws with
 |nil=>
  intro cs vals h hr;simp only[tD,fq] at h;subst h;have hv:vals=[]:=by have:=hr.1;simpa using this
  subst hv;refine⟨[],⟨rfl,fun j x u a=>by simp at a⟩,fun rs hl=>?_⟩;have:rs=[]:=by simpa using hl
  subst this;exact⟨rfl,rfl,rfl⟩
 |cons w ws ih=>
  intro cs vals h hr;simp only[tD] at h;split at h
  .rename_i a b h1 h2;cases h;cases vals with
   |nil=>have:=hr.1;simp at this
   |cons val vals=>
    obtain⟨vs1,fH,gQ⟩:=abm h1 (hr.2 0 w val rfl rfl);obtain⟨vs2,qP,eh⟩:=ih (vals:=vals) h2 ⟨by have:=hr.1;simpa using this,fun j x u p q=>hr.2 (j+1) x u (by simpa using p) (by simpa using q)⟩;refine⟨vs1++vs2,fH.append qP,fun rs hl=>?_⟩;have u9:rs.length=a.length+b.length:=by simpa using hl
    obtain⟨p1,p2,p3⟩:=gQ (rs.take a.length) (rs.drop a.length) (by simp;omega);rw[kG] at p1 p2 p3;obtain⟨q1,q2⟩:=eh (rs.drop a.length) (by simp;omega);simp only[yx,kL,p1,p2,q1,DA];exact⟨kG _ _,val,vals,vs1,vs2,rfl,rfl,p3,q2⟩
  cases h
theorem aly{v:V}{val:Value}(h:rK v=some cs)(hr:bJ m v val):
  ∃vs,di m cs vs/\ ∀(rs:List RC),rs.length=cs.length->gk (ud v rs)=rs/\Fo (ud v rs) val vs:=by
 have one:∀ {v:V},my v=some cs->nH m v val->(∀rs,ud v rs=(rq v rs).1)->∃vs,di m cs vs/\ ∀(rs:List RC),rs.length=cs.length->gk (ud v rs)=rs/\Fo (ud v rs) val vs:=by
  intro v h hr he;obtain⟨vs,h1,h2⟩:=abm h hr;refine⟨vs,h1,fun rs hl=>?_⟩;obtain⟨_,p2,p3⟩:=h2 rs [] hl;rw[jR] at p2 p3;rw[he];generalize (rq v rs).1=y at p2 p3;cases y with
  |tup _=>exact p3.elim
  |one c=>exact⟨p2,p3⟩
  |agg c=>exact⟨p2,p3⟩
 cases v with
 |tup ws=>obtain⟨arr,rfl,hs,hc⟩:=hr;obtain⟨vs,h1,h2⟩:=alz (m:=m) (vals:=arr.toList) h ⟨by simpa using hs,fun j x u a b=>hc j x u a (by simpa using b)⟩;exact⟨vs,h1,fun rs hl=>⟨(h2 rs hl).1,arr,rfl,(h2 rs hl).2⟩⟩
 |undef=>simp[rK,my] at h
 |one c=>exact one h hr fun _=>rfl
 |agg c=>exact one h hr fun _=>rfl
theorem WU{r:RV}{val:Value}{a b:List Value}(hf:xh r val a)(hc:di m cs (a++b)):nH m (lN r cs).1 val/\di m (lN r cs).2 b:=by
 cases r with
 |tup _=>exact hf.elim
 |one c=>
  have hf:a=[val]:=hf;subst hf;cases cs with
  |nil=>have:=hc.1;simp at this
  |cons x xs=>exact⟨hc.2 0 x val rfl rfl,by have:=hc.drop 1;simpa [lN] using this⟩
 |agg l=>
  obtain⟨rfl,hl⟩:=hf;refine⟨⟨_,rfl,?_⟩,?_⟩
  .have:=hc.take l.length;rw[<- hl,List.take_left] at this
   simpa [lN,hl] using this
  have:=hc.drop l.length;rw[<- hl,List.drop_left] at this
  simpa [lN,hl] using this
theorem arH:∀ {rs:List RV} {cs:List C} {us vs:List Value},DA rs us vs->di m cs vs->Pw (nH m) (pM rs cs) us:=by
 intro rs
 induction rs with
 |nil=>intro cs us vs h _;obtain⟨rfl,rfl⟩:=h;exact⟨rfl,fun j x u a=>by simp[pM] at a⟩
 |cons r rs ih=>
  intro cs us vs h hc;obtain⟨u,NL,a,b,rfl,rfl,h1,h2⟩:=h;obtain⟨p1,p2⟩:=WU h1 hc;have p3:=ih h2 p2;refine⟨by simp[pM,p3.1],fun j x v q1 q2=>?_⟩;cases j with
  |zero=>simp[pM] at q1 q2;subst q1 q2;exact p1
  |succ j=>simp[pM] at q1 q2;exact p3.2 j x v q1 q2
theorem arG{r:RV}{val:Value}{vs:List Value}(hf:Fo r val vs)(hc:di m cs vs):bJ m (qB r cs) val:=by
 cases r with
 |tup rs=>obtain⟨arr,rfl,h⟩:=hf;have:=arH h hc;exact⟨arr,rfl,by simpa using this.1,fun j x u a b=>this.2 j x u a (by simpa using b)⟩
 |one c=>have:=(WU (b:=[]) (show xh (.one c) val vs from hf) (by simpa using hc)).1;exact bJ.of1 this
 |agg c=>have:=(WU (b:=[]) (show xh (.agg c) val vs from hf) (by simpa using hc)).1;exact bJ.of1 this
end
end Go.Abs
namespace Go.Abs
section
variable{b':aq}{site:Nat}{cs:jF}{sh:Ctx}{ak:Env}{cp:fE}
def iV(ids:List Nat)(b b':aq):Prop:=∀id∈ids,b' id=b id
def ss(ts:List Nat)(e e':Env):Prop:=∀t∈ts,e' t=e t
theorem iV.left{x y:List Nat}{b:aq}(h:iV (x++y) b b'):iV x b b':=fun i hi=>h i (by simp[hi])
theorem iV.right{x y:List Nat}{b:aq}(h:iV (x++y) b b'):iV y b b':=fun i hi=>h i (by simp[hi])
theorem ss.left{x y:List Nat}{b b':Env}(h:ss (x++y) b b'):ss x b b':=fun i hi=>h i (by simp[hi])
theorem ss.right{x y:List Nat}{b b':Env}(h:ss (x++y) b b'):ss y b b':=fun i hi=>h i (by simp[hi])
section
variable {e e':Env}
theorem eT{a:aQ}(h:ss a.tmps e e'):ev e' a=ev e a:=by
 cases a with
 |t n=>exact h n (by simp[aQ.tmps])
 |_=>rfl
theorem akU:∀ {as:List aQ},ss (Fa as) e e'->as.map (ev e')=as.map (ev e):=by
 intro as
 induction as with
 |nil=>intro _;rfl
 |cons a r ih=>intro h;simp only[dG];rw[eT h.left,ih h.right]
theorem ae4:∀ {as:List aQ},ss (Fa as) e e'->vq e' as=vq e as:=by
 intro as
 induction as with
 |nil=>intro _;rfl
 |cons a r ih=>intro h;simp only[vq];rw[eT h.left,ih h.right]
theorem akC{sz:Nat}:∀ {as:List aQ},ss (Fa as) e e'->za e' sz as=za e sz as:=by
 intro as
 induction as with
 |nil=>intro _;rfl
 |cons a r ih=>intro h;simp only[za];rw[eT h.left,ih h.right]
theorem ap9:∀ {as:List (Nat×Nat×aQ)},ss (Xk as) e e'->yr e' as=yr e as:=by
 intro as
 induction as with
 |nil=>intro _;rfl
 |cons a r ih=>intro h;obtain⟨x,y,a⟩:=a;simp only[yr];rw[eT h.left,ih h.right]
theorem Ol{d:Nat}{a:Option aQ}(h:ss (Xj a) e e'):rF e' d a=rF e d a:=by
 cases a with
 |none=>rfl
 |some a=>simp only[rF];rw[eT h]
theorem alF{a:aQ}(h:ss a.tmps e e'):DU e' a=DU e a:=by unfold DU;rw[eT h]
theorem WD{sh:Nat->Bool}{aj:aq}{p:mT}(h:ss p.tmps e e'):bn sh e' aj p=bn sh e aj p:=by
 cases p with
 |ym x=>simp only[bn,eT (a:=x) h]
 |pick c a b=>simp only[bn,eT (a:=c) h.left.left,eT (a:=a) h.left.right,eT (a:=b) h.right]
 |alloc s z=>rfl
 |box s x=>simp only[bn,eT (a:=x) h]
 |build z ps=>simp only[bn,ap9 (as:=ps) h]
 |DE s ty sz ps=>simp only[bn,akC (as:=ps) h]
 |load k x=>simp only[bn,eT (a:=x) h]
 |store n a x=>simp only[bn,eT (a:=a) h.left,eT (a:=x) h.right]
 |Jq x=>simp only[bn,eT (a:=x) h]
 |bin op x y=>simp only[bn,eT (a:=x) h.left,eT (a:=y) h.right]
 |eqc k n x y=>simp only[bn,eT (a:=x) h.left,eT (a:=y) h.right]
 |un op x=>simp only[bn,eT (a:=x) h]
 |conv k x=>simp only[bn,eT (a:=x) h]
 |bstr x=>simp only[bn,eT (a:=x) h]
 |mkfn f a b=>simp only[bn,ae4 (as:=a) h.left,ae4 (as:=b) h.right]
 |mkmap s ag=>rfl
 |Jj s ty sz bytes z l c=>simp only[bn,eT (a:=l) h.left,eT (a:=c) h.right]
 |slice sz x lo hi=>simp only[bn,eT (a:=x) h.left.left,Ol (a:=lo) h.left.right,Ol (a:=hi) h.right]
 |sslice x lo hi=>simp only[bn,eT (a:=x) h.left.left,Ol (a:=lo) h.left.right,Ol (a:=hi) h.right]
 |FP off x=>simp only[bn,eT (a:=x) h]
 |Gu sz x i=>simp only[bn,eT (a:=x) h.left,eT (a:=i) h.right]
 |Hw l sz x i=>simp only[bn,eT (a:=x) h.left,eT (a:=i) h.right]
 |fld off k x=>simp only[bn,eT (a:=x) h]
 |aidx l sz k x i=>simp only[bn,eT (a:=x) h.left,eT (a:=i) h.right]
 |sidx x i=>simp only[bn,eT (a:=x) h.left,eT (a:=i) h.right]
 |lookup kd z ag ok x k=>simp only[bn,eT (a:=x) h.left,eT (a:=k) h.right]
 |mupd kd ag m k v=>simp only[bn,eT (a:=m) h.left.left,eT (a:=k) h.left.right,eT (a:=v) h.right]
 |bad=>rfl
 |extract x i=>simp only[bn,eT (a:=x) h]
 |call s f as=>simp only[bn,alF (a:=f) h.left,akU (as:=as) h.right]
 |slen x=>simp only[bn,eT (a:=x) h]
 |Jh x=>simp only[bn,eT (a:=x) h]
 |mlen x=>simp only[bn,eT (a:=x) h]
 |append s ty sz b x y=>simp only[bn,eT (a:=x) h.left,eT (a:=y) h.right]
 |max x y=>simp only[bn,eT (a:=x) h.left,eT (a:=y) h.right]
 |min x y=>simp only[bn,eT (a:=x) h.left,eT (a:=y) h.right]
 |clear z x=>simp only[bn,eT (a:=x) h]
end
section
variable {b b':aq}
theorem xy{α β:Type}{f g:α->Option (β×List Nat)}(hf:∀x y r,f x=some (y,r)->iV r b b'->g x=some (y,r)):∀ {xs:List α} {ys:List β} {r:List Nat},collect f xs=some (ys,r)->iV r b b'->collect g xs=some (ys,r):=by
 intro xs
 induction xs with
 |nil=>intro ys r h _;exact h
 |cons x xs ih=>
  intro ys r h ha;simp only[collect] at h ⊢;split at h
  .rename_i y p bs q e1 e2;cases h;rw[hf _ _ _ e1 ha.left,ih e2 ha.right]
  cases h
theorem NG:∀(n:Nat) (c:C) (x:PV) (r:List Nat),snap b n c=some (x,r)->iV r b b'->snap b' n c=some (x,r):=by
 intro n
 induction n with
 |zero=>intro c x r h;simp[snap] at h
 |succ n ih=>
  intro c x r h ha;cases c with
  |p v=>exact h
  |bk id g off=>
   have hid:id∈r:=by
    simp only[snap] at h
    (repeat' split at h)<;>first
     |cases h
     |skip
    all_goals simp
   have hb:=ha id hid;simp only[snap] at h ⊢;rw[hb];split at h
   .split at h
    .rename_i hg;rw[if_pos hg];split at h
     .rename_i hc;cases h;rw[xy ih hc (fun i hi=>ha i (by simp[hi]))]
     cases h
    cases h
   .exact h
   cases h
  |dw id g i off=>
   have hid:id∈r:=by
    simp only[snap,dC] at h
    (repeat' split at h)<;>first
     |cases h
     |skip
    all_goals(simp only[dC] at h;obtain⟨e,_,h⟩:=h;cases h;simp)
   have hb:=ha id hid;simp only[snap] at h ⊢;rw[hb];exact h
  |hsl id g z off len=>
   have hid:id∈r:=by
    simp only[snap] at h
    (repeat' split at h)<;>first
     |cases h
     |skip
    all_goals simp
   have hb:=ha id hid;simp only[snap] at h ⊢;rw[hb];split at h
   .exact h
   .exact h
   .split at h
    .rename_i hg;rw[if_pos hg];split at h
     .rename_i hc;cases h;rw[xy (fun _ _ _ p q=>xy ih p q) hc (fun i hi=>ha i (by simp[hi]))]
     cases h
    cases h
   cases h
  |jV id g=>
   have hid:id∈r:=by
    simp only[snap] at h
    (repeat' split at h)<;>first
     |cases h
     |skip
    all_goals simp
   have hb:=ha id hid;simp only[snap] at h ⊢;rw[hb];exact h
  |hfn f x y=>
   simp only[snap] at h ⊢;split at h
   .rename_i h1 h2;cases h;rw[xy ih h1 ha.left,xy ih h2 ha.right]
   cases h
theorem as8(x y:V)(r:List Nat)(h:nA b x=some (y,r))(ha:iV r b b'):nA b' x=some (y,r):=by
 cases x with
 |undef=>simp[nA] at h
 |tup _=>simp[nA] at h
 |one c=>simp only[nA,dC] at h ⊢;obtain⟨⟨p,q⟩,h1,h2⟩:=h;cases h2;exact⟨_,NG _ _ _ _ h1 ha,rfl⟩
 |agg cs=>simp only[nA,dC] at h ⊢;obtain⟨⟨p,q⟩,h1,h2⟩:=h;cases h2;exact⟨_,xy (NG _) h1 ha,rfl⟩
theorem ata{xs ys:List V}{r:List Nat}(h:Bl b xs=some (ys,r))(ha:iV r b b'):Bl b' xs=some (ys,r):=xy as8 h ha
theorem alN{all:List Nat}{id:Nat}{u:List eG}(h:An b all id=some u)(hid:id∈all)(ha:iV all b b'):An b' all id=some u:=by
 have hb:=ha id hid;unfold An at h ⊢;rw[hb];split at h
 .split at h
  .rename_i ps r hc;split at h
   .rename_i hr;have qm:iV r b b':=fun i hi=>ha i (by have:=jf.1 hr i hi;simpa using this);rw[xy (NG _) hc qm];simp only;rw[if_pos hr];exact h
   cases h
  cases h
 .exact h
 .split at h
  .rename_i ps r hc;split at h
   .rename_i hr;have qm:iV r b b':=fun i hi=>ha i (by have:=jf.1 hr i hi;simpa using this);rw[xy (fun _ _ _ p q=>xy (NG _) p q) hc qm];simp only;rw[if_pos hr];exact h
   cases h
  cases h
 .exact h
 .cases h
 exact h
theorem alO{all:List Nat}(ha:iV all b b'):∀ {ids:List Nat} {u:List eG},(∀i∈ids,i∈all)->rL b all ids=some u->rL b' all ids=some u:=by
 intro ids
 induction ids with
 |nil=>intro u _ h;exact h
 |cons i r ih=>
  intro u hs h;simp only[rL] at h ⊢;split at h
  .rename_i x y h1 h2;cases h;rw[alN h1 (hs i af) ha,ih (fun j hj=>hs j (by simp[hj])) h2]
  cases h
theorem Ip{ids:List Nat}{u:List eG}(h:qd b ids=some u)(ha:iV ids b b'):qd b' ids=some u:=alO ha (fun _ h=>h) h
theorem anI{r:RC}(h:iV ((cD b site r).2.map (·.1)) b b'):cD b' site r=cD b site r:=by
 cases r with
 |p x=>rfl
 |own ty sz es=>simp only[cD];rw[h site (by simp[cD])]
theorem anJ:∀ {rs:List RC} {site:Nat},iV ((iU b site rs).2.map (·.1)) b b'->iU b' site rs=iU b site rs:=by
 intro rs
 induction rs with
 |nil=>intro site _;rfl
 |cons r rs ih=>intro site h;simp only[iU,km] at h ⊢;rw[anI h.left,ih h.right]
theorem acQ{r:RV}(h:iV ((jm b site r).2.map (·.1)) b b'):jm b' site r=jm b site r:=by unfold jm at h ⊢;simp only at h;rw[anJ h]
theorem aol{rd:List Nat}{r:RV}{v:V}{u:List eG}(h:land b rd site r=some (v,u))(ha:iV rd b b')(hu:iV (u.map (·.1)) b b'):land b' rd site r=some (v,u):=by
 unfold land at h ⊢;split at h
 .rename_i hc;rw[if_pos hc];cases h;rw[acQ hu];rfl
 rename_i hc;rw[if_neg hc];split at h
 .rename_i fu hf;cases h;rw[Ip hf ha];simp only;rw[km] at hu;rw[acQ hu.right]
 cases h
theorem afE{x:V}{cs:List C}{r:List Nat}(h:Bf b x=some (cs,r))(ha:iV r b b'):Bf b' x=some (cs,r):=by
 have key:∀id,(id∈r->b' id=b id):=fun id hid=>ha id hid;unfold Bf at h ⊢;split at h
 .exact h
 .rename_i id g off;have hid:id∈r:=by
   (repeat' split at h)<;>first
    |cases h
    |skip
   all_goals simp
  simp only[key id hid];exact h
 .rename_i id g i off;have hid:id∈r:=by
   (repeat' split at h)<;>first
    |cases h
    |skip
   all_goals(simp only[dC] at h;obtain⟨e,_,h⟩:=h;cases h;simp)
  simp only[key id hid];exact h
 cases h
theorem aoE{x:V}{n:Nat}{r:List Nat}(h:zN b x=some (n,r))(ha:iV r b b'):zN b' x=some (n,r):=by
 have key:∀id,(id∈r->b' id=b id):=fun id hid=>ha id hid;unfold zN at h ⊢;split at h
 .exact h
 .exact h
 .rename_i id g;have hid:id∈r:=by
   (repeat' split at h)<;>first
    |cases h
    |skip
   all_goals simp
  simp only[key id hid];exact h
 cases h
theorem apb{ag:Bool}{x:V}{es:List (PV×List PV)}{r:List Nat}(h:mapOf b ag x=some (es,r))(ha:iV r b b'):mapOf b' ag x=some (es,r):=by
 have key:∀id,(id∈r->b' id=b id):=fun id hid=>ha id hid;unfold mapOf at h ⊢;split at h
 .exact h
 .exact h
 .rename_i id g;have hid:id∈r:=by
   (repeat' split at h)<;>first
    |cases h
    |skip
   all_goals simp
  simp only[key id hid];exact h
 cases h
theorem Ic{x:V}{es:List (List PV)}{r fr:List Nat}(h:ez b x=some (es,r,fr))(ha:iV r b b')(hf:iV fr b b'):ez b' x=some (es,r,fr):=by
 have key:∀id,(id∈r->b' id=b id):=fun id hid=>ha id hid;unfold ez at h ⊢;split at h
 .exact h
 .exact h
 .rename_i id g z off len;have hid:id∈r:=by
   (repeat' split at h)<;>first
    |cases h
    |skip
   all_goals simp
  simp only[key id hid];split at h
  .exact h
  .exact h
  .split at h
   .rename_i hc;rw[if_pos hc];split at h
    .rename_i h1;cases h;rw[xy (fun _ _ _ p q=>xy (NG _) p q) h1 hf]
    cases h
   cases h
  exact h
 cases h
theorem auX{a:V}{n:Nat}{xs:List C}{v:V}{u:List eG}{r:List Nat}(h:zW b a n xs=.done v u r)(ha:iV r b b'):zW b' a n xs=.done v u r:=by
 have key:∀id,(id∈r->b' id=b id):=fun id hid=>ha id hid;unfold zW at h ⊢;split at h
 .cases h
 rename_i hn;rw[if_neg hn];split at h
 .rename_i id g off;have hid:id∈r:=by
   (repeat' split at h)<;>first
    |cases h
    |skip
   all_goals simp
  simp only[key id hid];exact h
 .rename_i id g i off;have hid:id∈r:=by
   (repeat' split at h)<;>first
    |cases h
    |skip
   all_goals simp
  simp only[key id hid];exact h
 cases h
theorem ail{ty sz bytes:Nat}{s x v:V}{u:List eG}{r:List Nat}(h:fj b site ty sz bytes s x=.done v u r)(ha:iV r b b'):fj b' site ty sz bytes s x=.done v u r:=by
 unfold fj at h ⊢;split at h
 .cases h
 rename_i new rd fr dw;split at h
 .cases h
 rename_i cn;split at h
 .cases h
 rename_i fu qh;have sub:∀ {l:List Nat},(∀i∈l,i∈r)->iV l b b':=fun hl i hi=>ha i (hl i hi);split at h
 .split at h
  .rename_i hn;cases h;rw[Ic dw ha.left ha.right];simp only;rw[if_neg cn,Ip qh ha.right];simp only;rw[if_pos hn]
  rename_i hn;split at h
  .rename_i hr;cases h;rw[Ic dw (sub fun i hi=>by simp[hi]) (sub fun i hi=>by simp[hi])];simp only;rw[if_neg cn,Ip qh (sub fun i hi=>by simp[hi])];simp only;rw[if_neg hn,if_pos hr,ha site af]
  cases h
 .split at h
  .cases h
  rename_i hn;split at h
  .rename_i hr;cases h;rw[Ic dw (sub fun i hi=>by simp[hi]) (sub fun i hi=>by simp[hi])];simp only;rw[if_neg cn,Ip qh (sub fun i hi=>by simp[hi])];simp only;rw[if_neg hn,if_pos hr,ha site af]
  cases h
 .rename_i id g z len;split at h
  .rename_i g' jQ bN es hb;split at h
   .rename_i hr;cases h;rw[Ic dw (sub fun i hi=>by simp[hi]) (sub fun i hi=>by simp[hi])];simp only;rw[if_neg cn,Ip qh (sub fun i hi=>by simp[hi])];simp only;have h1:=ha id af;rw[hb] at h1;simp only[h1];rw[if_pos hr,ha site af]
   cases h
  cases h
 .rename_i id g z off len aF;cases off with
  |zero=>exact(aF rfl).elim
  |succ off=>
  split at h
  .rename_i g' jQ bN es hb;split at h
   .rename_i hr;cases h;rw[Ic dw (sub fun i hi=>by simp[hi]) (sub fun i hi=>by simp[hi])];simp only;rw[if_neg cn,Ip qh (sub fun i hi=>by simp[hi])];simp only;have h1:=ha id af;rw[hb] at h1;simp only[h1];rw[if_pos hr]
   cases h
  cases h
 cases h
end
theorem aqD{sh:Nat->Bool}{e:Env}{b:aq}{p:mT}{v:V}{u:List eG}{r:List Nat}(h:bn sh e b p=.done v u r)(ha:iV r b b'):bn sh e b' p=.done v u r:=by
 cases p with
 |alloc s z=>simp only[bn,eX.done.injEq] at h ⊢;obtain⟨h1,h2,h3⟩:=h;rw[ha s (by rw[<- h3];simp)];exact⟨h1,h2,h3⟩
 |mkmap s ag=>simp only[bn,eX.done.injEq] at h ⊢;obtain⟨h1,h2,h3⟩:=h;rw[ha s (by rw[<- h3];simp)];exact⟨h1,h2,h3⟩
 |box s x=>
  simp only[bn] at h ⊢;split at h
  .cases h;rw[ha s af]
  cases h
 |DE s ty sz ps=>
  simp only[bn] at h ⊢;split at h
  .split at h
   .cases h;rw[ha s af]
   cases h;rw[ha s af]
  cases h
 |Jj s ty sz bytes z l c=>
  simp only[bn] at h ⊢;split at h
  .split at h
   .rename_i hc;cases h;rw[if_pos hc,ha s af]
   cases h
  cases h
 |load k x=>
  simp only[bn] at h ⊢;split at h
  .rename_i cs q hq;split at h
   .rename_i v' hv;cases h;rw[afE hq ha];simp only[hv]
   cases h
  cases h
 |store n a x=>
  simp only[bn] at h ⊢;split at h
  .exact auX h ha
  cases h
 |bstr x=>
  simp only[bn] at h ⊢;split at h
  .rename_i es q hq;split at h
   .rename_i bs hb;cases h;rw[Ic hq ha (fun i hi=>by simp at hi)];simp only[hb]
   cases h
  cases h
 |lookup kd z ag ok x k=>
  simp only[bn] at h ⊢;split at h
  .rename_i es q key hm hk;split at h
   .cases h
   rename_i AM;split at h
   .rename_i f hf;split at h
    .rename_i w hw;cases h;rw[apb hm ha,hk];simp only;rw[if_neg AM];simp only[hf,hw]
    cases h
   cases h
  cases h
 |clear z x=>
  simp only[bn] at h ⊢;split at h
  .cases h;rfl
  .cases h;rfl
  .rename_i id g w off len e;split at h
   .rename_i h0;cases h;simp only[h0,if_true]
   rename_i h0;split at h
   .rename_i g' ty sz es h4;split at h
    .rename_i hc;cases h;have hb:=ha id af;rw[h4] at hb;rw[if_neg h0];simp only[hb];rw[if_pos hc]
    cases h
   cases h
  cases h
 |mupd kd ag m k v=>
  simp only[bn] at h ⊢;split at h
  .rename_i id g q cs h1 h2 h3;split at h
   .rename_i g' rD es ps h4 h5;split at h
    .rename_i hc;split at h
     .rename_i i w hf;cases h;have hb:=ha id af;rw[h4] at hb;simp only[hb,h5];rw[if_pos hc];simp only[hf]
     .rename_i hf;cases h;have hb:=ha id af;rw[h4] at hb;simp only[hb,h5];rw[if_pos hc];simp only[hf]
     cases h
    cases h
   cases h
  cases h
 |mlen x=>
  simp only[bn] at h ⊢;split at h
  .rename_i n q hq;cases h;rw[aoE hq ha]
  cases h
 |append s ty sz bytes x y=>exact ail h ha
 |call s f as=>
  simp only[bn] at h
  (repeat' split at h)<;>cases h
 |_=>exact h
theorem aqT{sh:Nat->Bool}{e:Env}{b:aq}{p:mT}{f s:Nat}{vs:List V}{r:List Nat}(h:bn sh e b p=.pc f vs r s)(ha:iV r b b'):bn sh e b' p=.pc f vs r s:=by
 cases p with
 |call s f as=>
  simp only[bn] at h ⊢;split at h
  .split at h
   .cases h
   rename_i iw;rw[if_neg iw];split at h
   .rename_i hs;cases h;rw[ata hs ha]
   cases h
  cases h
 |_=>
  (simp only[bn,zW,fj,Dc,reduceCtorEq] at h)<;>(repeat' split at h)<;>cases h
theorem aqV{sh:Nat->Bool}{e:Env}{b:aq}{p:mT}{f:Nat}{vs:List V}(h:bn sh e b p=.sc f vs):bn sh e b' p=.sc f vs:=by
 cases p with
 |call s f as=>
  simp only[bn] at h ⊢;split at h
  .split at h
   .rename_i iw;rw[if_pos iw];exact h
   split at h<;>cases h
  cases h
 |_=>
  (simp only[bn,zW,fj,Dc,reduceCtorEq] at h)<;>(repeat' split at h)<;>cases h
theorem aij:∀(u:List eG) (b b':aq) (id:Nat),id∈u.map (·.1)->app u b id=app u b' id:=by
 intro u
 induction u with
 |nil=>intro b b' id h;simp at h
 |cons x u ih=>
  intro b b' id h;obtain⟨i,o⟩:=x;simp only[app];by_cases hu:id∈u.map (·.1)
  .exact ih _ _ _ hu
  have hi:id=i:=by simpa [hu] using h
  have key:∀(u:List eG) (b:aq),id∉u.map (·.1)->app u b id=b id:=by
   intro u
   induction u with
   |nil=>intro b _;rfl
   |cons x u ih=>intro b h;obtain⟨j,o⟩:=x;simp only[dG,cM,not_or] at h;simp only[app];rw[ih _ h.2,aM,if_neg h.1]
  rw[key u _ hu,key u _ hu,aM,aM,if_pos hi,if_pos hi]
theorem Sf:∀(u:List eG) (b:aq) (id:Nat),id∉u.map (·.1)->app u b id=b id:=by
 intro u
 induction u with
 |nil=>intro b id _;rfl
 |cons x u ih=>intro b id h;obtain⟨j,o⟩:=x;simp only[dG,cM,not_or] at h;simp only[app];rw[ih _ _ h.2,aM,if_neg h.1]
theorem auH{e e':Env}{g:Option (Nat×Bool)}(h:∀t w,g=some (t,w)->e' t=e t):wanted e' g=wanted e g:=by
 cases g with
 |none=>rfl
 |some q=>obtain⟨t,w⟩:=q;simp only[wanted,h t w rfl]
def bR.writes(f:bR)(id:Nat):Bool:=f.wr.contains id||f.fs.contains (je id)
def bR.ug(f:bR)(id:Nat):Bool:=f.rd.contains id||f.writes id
theorem afI{b:aq}:∀(n:Nat) (c:C),iV (jO b n c) b b'->jO b' n c=jO b n c:=by
 intro n
 induction n with
 |zero=>intro c _;rfl
 |succ n ih=>
  have many:∀(cs:List C),iV (cs.map (jO b n)).flatten b b'->(cs.map (jO b' n)).flatten=(cs.map (jO b n)).flatten:=by
   intro cs
   induction cs with
   |nil=>intro _;rfl
   |cons c cs ihc=>intro h;simp only[dG,lR] at h ⊢;rw[ih c h.left,ihc h.right]
  intro c h;cases c with
  |p v=>rfl
  |bk id g off=>
   simp only[jO] at h ⊢;have hb:=h id af;rw[hb];split
   .rename_i cs LH;rw[LH] at h;rw[many cs (fun i hi=>h i (by simp only[cM];exact .inr hi))]
   rfl
  |dw id g i off=>
   simp only[jO] at h ⊢;have hb:=h id af;rw[hb];split
   .rename_i cs LH;rw[LH] at h;rw[many _ (fun i hi=>h i (by simp only[cM];exact .inr hi))]
   rfl
  |hsl id g z off len=>
   simp only[jO] at h ⊢;have hb:=h id af;rw[hb];split
   .rename_i cs LH;rw[LH] at h;rw[many _ (fun i hi=>h i (by simp only[cM];exact .inr hi))]
   rfl
  |jV id g=>rfl
  |hfn f x y=>simp only[jO] at h ⊢;rw[many x h.left,many y h.right]
theorem aro{b:aq}(v:V)(h:iV (jd b v) b b'):jd b' v=jd b v:=by
 cases v with
 |undef=>rfl
 |tup _=>rfl
 |one c=>exact afI _ _ h
 |agg cs=>
  simp only[jd] at h ⊢
  induction cs with
  |nil=>rfl
  |cons c cs ih=>simp only[dG,lR] at h ⊢;rw[afI _ c h.left,ih h.right]
theorem ah9{f:Nat}{vs:List V}{b:aq}(h:iV (allow sh f vs b).ids b b'):allow sh f vs b'=allow sh f vs b:=by
 have:(vs.map (jd b')).flatten=(vs.map (jd b)).flatten:=by
  unfold allow at h;simp only at h
  induction vs with
  |nil=>rfl
  |cons v vs ih=>simp only[dG,lR] at h ⊢;rw[aro v h.left,ih h.right]
 unfold allow;rw[this]
def Ab(cs:jF):Prop:=∀f vs al aj v ao,cs f vs al aj=some (v,ao)->(∀id,al.ok id=false->ao id=aj id)/\
 ∀aZ,(∀id,al.ok id=true->aZ id=aj id)->∃lV,cs f vs al aZ=some (v,lV)/\ ∀id,lV id=if al.ok id then ao id else aZ id
theorem Qj{al:Al}{l:List Nat}(h:al.ff l=true){id:Nat}(hid:id∈l):al.ok id=true:=jf.1 h id hid
theorem anl{a b:Al}(hb:b.any=false)(h:a.holds b=true){id:Nat}(hid:b.ok id=true):a.ok id=true:=by
 unfold Al.holds at h;simp only[By,cH] at h;rcases h with h|⟨h1,h2⟩
 .simp[Al.ok,h]
 simp only[Al.ok,hb,Bw,By] at hid;rcases hid with hid|hid
 .exact Qj h1 (by simpa using hid)
 have:=jf.1 h2 (je id) (by simpa using hid);simp only[Al.ok,By];exact .inr this
theorem W9(cY:Ab cs){o:bl}{aD:Env}{aj ao:aq}{f:bR}(h:step1 sh cp cs o ak aj=some (aD,ao,f)):
  ∃v,aD=put ak o.dst v/\(∀id,f.writes id=false->ao id=aj id)/\(∀id,f.ug id=true->sh.al.ok id=true)/\
   ∀(cZ:Env) (aZ:aq),ss o.G0 ak cZ->(∀id,f.ug id=true->aZ id=aj id)->
    ∃lV,step1 sh cp cs o cZ aZ=some (put cZ o.dst v,lV,f)/\ ∀id,lV id=if f.writes id then ao id else aZ id:=by
 have Gr:∀(cZ:Env),ss o.G0 ak cZ->ss o.op.tmps ak cZ/\wanted cZ o.guard=wanted ak o.guard:=by intro cZ h;unfold bl.G0 at h;exact⟨h.left,auH fun t w hg=>h.right t (by rw[hg];simp)⟩
 have hwr:∀(r w:List Nat) (id:Nat),(⟨r,w,[]⟩:bR).writes id=w.contains id:=by intro r w id;simp[bR.writes]
 have I3:∀(r w:List Nat) (id:Nat),(⟨r,w,[]⟩:bR).ug id=true↔id∈r\/id∈w:=by intro r w id;simp[bR.ug,bR.writes]
 have acF:∀(u:List eG) (b b2:aq) (r:List Nat) (id:Nat),app u b2 id=if (⟨r,u.map (·.1),[]⟩:bR).writes id then app u b id else b2 id:=by
  intro u b b2 r id;rw[hwr];by_cases hid:id∈u.map (·.1)
  .rw[if_pos (by simpa using hid)];exact aij _ _ _ _ hid
  rw[if_neg (by simpa using hid)];exact Sf _ _ _ hid
 unfold step1 at h;split at h
 .cases h
 .rename_i hw;cases h;refine⟨.undef,rfl,fun _ _=>rfl,fun id hid=>by simp[bR.ug,bR.writes] at hid,fun cZ aZ he hb=>⟨aZ,?_,fun id=>by simp[bR.writes]⟩⟩;unfold step1;rw[(Gr cZ he).2,hw]
 rename_i hw;split at h
 .cases h
 .rename_i v u r hp;split at h
  .rename_i au;cases h;refine⟨v,rfl,fun id hid=>Sf _ _ _ (by rw[hwr] at hid;simpa using hid),fun id hid=>Qj au (by have:=(I3 _ _ _).1 hid;simpa using this),fun cZ aZ he hb=>⟨app u aZ,?_,fun id=>acF _ _ _ _ _⟩⟩;unfold step1;rw[(Gr cZ he).2,hw];simp only;rw[WD (Gr cZ he).1,aqD hp fun id hid=>hb id ((I3 _ _ _).2 (.inl hid))];simp only;rw[if_pos au]
  cases h
 .rename_i g vs r s hp;split at h
  .rename_i x hx;split at h
   .rename_i v u hl;split at h
    .rename_i au;cases h;refine⟨v,rfl,fun id hid=>Sf _ _ _ (by rw[hwr] at hid;simpa using hid),fun id hid=>Qj au (by have:=(I3 _ _ _).1 hid;simp at this ⊢;rcases this with h|h<;>simp[h]),fun cZ aZ he hb=>⟨app u aZ,?_,fun id=>acF _ _ _ _ _⟩⟩;unfold step1;rw[(Gr cZ he).2,hw];simp only;rw[WD (Gr cZ he).1,aqT hp fun id hid=>hb id ((I3 _ _ _).2 (.inl (by simp[hid])))];simp only[hx];rw[aol hl (fun id hid=>hb id ((I3 _ _ _).2 (.inl (by simp[hid])))) fun id hid=>hb id ((I3 _ _ _).2 (.inr hid))];simp only;rw[if_pos au]
    cases h
   cases h
  cases h
 rename_i g vs hp;split at h
 .rename_i au;split at h
  .rename_i v b1 hx;cases h;have iK:∀id,(⟨(allow sh g vs aj).ids,(allow sh g vs aj).ids,(allow sh g vs aj).fs⟩:bR).writes id=(allow sh g vs aj).ok id:=by
    intro id;simp[bR.writes,Al.ok,allow]
   have Vd:∀id,(⟨(allow sh g vs aj).ids,(allow sh g vs aj).ids,(allow sh g vs aj).fs⟩:bR).ug id=(allow sh g vs aj).ok id:=by intro id;simp only[bR.ug,iK];simp only[Al.ok];cases (allow sh g vs aj).ids.contains id<;>simp
   obtain⟨l1,l2⟩:=cY _ _ _ _ _ _ hx;refine⟨v,rfl,fun id hid=>l1 id (by rw[<- iK];exact hid),fun id hid=>anl rfl au (by rw[<- Vd];exact hid),fun cZ aZ he hb=>?_⟩;obtain⟨lV,g1,g2⟩:=l2 aZ fun id hid=>hb id (by rw[Vd];exact hid);have amW:allow sh g vs aZ=allow sh g vs aj:=ah9 fun id hid=>hb id (by rw[Vd];simp[Al.ok,hid]);refine⟨lV,?_,fun id=>by rw[iK];exact g2 id⟩;unfold step1;rw[(Gr cZ he).2,hw];simp only;rw[WD (Gr cZ he).1,aqV hp];simp only[amW];rw[if_pos au];simp only[g1]
  cases h
 cases h
theorem arf(ak:Env){d d':Option Nat}(v v':V)(h:∀t,d=some t->d'≠some t):put (put ak d v) d' v'=put (put ak d' v') d v:=by
 cases d with
 |none=>rfl
 |some t=>
  cases d' with
  |none=>rfl
  |some t'=>
   have aF:t'≠t:=fun e=>h t rfl (by rw[e]);funext x;simp only[put,aM];by_cases h1:x=t
   .subst h1;rw[if_pos rfl,if_neg (fun e=>aF e.symm),if_pos rfl]
   rw[if_neg h1,if_neg h1]
theorem afB{d:Option Nat}{v:V}{t:Nat}(h:d≠some t):put ak d v t=ak t:=by
 cases d with
 |none=>rfl
 |some x=>simp only[put,aM];rw[if_neg (fun e=>h (by rw[e]))]
theorem P9{a b:List Nat}(h:meets a b=false){i:Nat}(ha:i∈a):i∉b:=by
 intro hb;have:meets a b=true:=by simp only[meets,List.any_eq_true];exact⟨i,ha,by simpa using hb⟩
 rw[h] at this;cases this
theorem VT{fs ids:List Nat}(h:Gw fs ids=false){i:Nat}(hi:i∈ids):je i∉fs:=by
 intro hf;have:Gw fs ids=true:=by simp only[Gw,List.any_eq_true];exact⟨i,hi,by simpa using hf⟩
 rw[h] at this;cases this
theorem ajy{a b:bR}(h:FD a b=false)(id:Nat):(a.writes id=true->b.ug id=false)/\(b.writes id=true->a.ug id=false):=by
 simp only[FD,Rp] at h;obtain⟨⟨⟨⟨⟨c1,c2⟩,c3⟩,c4⟩,c5⟩,c6⟩:=h;have sw:∀ {x y:List Nat},meets x y=false->meets y x=false:=by
  intro x y h;cases he:meets y x with
  |false=>rfl
  |true=>simp only[meets,List.any_eq_true] at he;obtain⟨i,h1,h2⟩:=he;exact absurd h1 (P9 h (by simpa using h2))
 have one:∀ {a b:bR},meets a.wr b.rd=false->meets a.wr b.wr=false->meets a.fs b.fs=false->Gw a.fs (b.rd++b.wr)=false->Gw b.fs (a.rd++a.wr)=false->a.writes id=true->b.ug id=false:=by
  intro a b c1 c2 c4 c5 c6 hw;simp only[bR.writes,By] at hw;simp only[bR.ug,bR.writes,Rp];rcases hw with hw|hw
  .have hw:id∈a.wr:=by simpa using hw
   exact⟨by simpa using P9 c1 hw,by simpa using P9 c2 hw,by simpa using VT c6 (i:=id) (by simp[hw])⟩
  have hw:je id∈a.fs:=by simpa using hw
  refine⟨?_,?_,?_⟩
  .cases he:b.rd.contains id with
   |false=>rfl
   |true=>exact absurd hw (VT c5 (i:=id) (by simp at he;simp[he]))
  .cases he:b.wr.contains id with
   |false=>rfl
   |true=>exact absurd hw (VT c5 (i:=id) (by simp at he;simp[he]))
  simpa using P9 c4 hw
 exact⟨one c1 c2 c4 c5 c6,one (sw c3) (sw c2) (sw c4) c6 c5⟩
theorem swap{sh:Ctx}{cp:fE}{cs:jF}(cY:Ab cs){x y:bl}{ak ir cZ:Env}{aj bG aZ:aq}{e1 e2:bR}(hx:step1 sh cp cs x ak aj=some (ir,bG,e1))(hy:step1 sh cp cs y ir bG=some (cZ,aZ,e2))
  (hf:FT x y=true) (hc:FD e1 e2=false):∃envy blky,step1 sh cp cs y ak aj=some (envy,blky,e2)/\step1 sh cp cs x envy blky=some (cZ,aZ,e1):=by
 obtain⟨v1,rfl,Ik,_,aoT⟩:=W9 cY hx;obtain⟨v2,rfl,Am,_,aoU⟩:=W9 cY hy;have ID:∀t,x.dst=some t->t∉y.G0/\y.dst≠some t:=by intro t ht;simp only[FT,ht,cH] at hf;have h1:=hf.1;simp at h1;exact⟨by simpa using h1.1,h1.2⟩
 have xQ:∀t,y.dst=some t->t∉x.G0:=by
  intro t ht;simp only[FT,ht,cH] at hf;have h1:=hf.2
  simpa using h1
 have bQ:=ajy hc;have nw:∀ {a b:bR} {id:Nat},(a.writes id=true->b.ug id=false)->b.ug id=true->a.writes id=false:=by
  intro a b id h1 h2;cases h:a.writes id with
  |false=>rfl
  |true=>rw[h1 h] at h2;cases h2
 have wt:∀ {a:bR} {id:Nat},a.writes id=true->a.ug id=true:=by intro a id h;simp[bR.ug,h]
 obtain⟨blky,hy2,yb⟩:=aoU ak aj (fun t ht=>(afB fun e=>(ID t e).1 ht).symm) (fun id hid=>(Ik id (nw (bQ id).1 hid)).symm);obtain⟨blkx,zL,xb⟩:=aoT (put ak y.dst v2) blky (fun t ht=>afB fun e=>xQ t e ht) (fun id hid=>by rw[yb id,nw (bQ id).2 hid];rfl)
 refine⟨_,blky,hy2,?_⟩;rw[zL,arf ak v1 v2 fun t ht=>(ID t ht).2];have:blkx=aZ:=by
  funext id;rw[xb id,yb id];cases h1:e1.writes id with
  |true=>have h2:e2.writes id=false:=nw (bQ id).2 (wt h1);exact(Am id h2).symm
  |false=>
   cases h2:e2.writes id with
   |true=>rfl
   |false=>simp only[dx,if_false];rw[Am id h2,Ik id h1]
 rw[this]
structure It where
 i:Nat
 io:bl
 e:bR
def Od(x y:It):Prop:=FT x.io y.io=true/\FD x.e y.e=false
theorem agH{o:bl}{r:List bl}{aD:Env}{aj ao:aq}{e:bR}{es:List bR}(h:steps sh cp cs (o::r) ak aj=some (aD,ao,e::es)):
  ∃ir bG,step1 sh cp cs o ak aj=some (ir,bG,e)/\steps sh cp cs r ir bG=some (aD,ao,es):=by
 simp only[steps] at h;split at h
 .rename_i ir bG e1 h1;split at h
  .rename_i cZ aZ es2 h2;cases h;exact⟨ir,bG,h1,h2⟩
  cases h
 cases h
theorem atz{o:bl}{r:List bl}{ir aD:Env}{aj bG ao:aq}{e:bR}{es:List bR}(h1:step1 sh cp cs o ak aj=some (ir,bG,e))(h2:steps sh cp cs r ir bG=some (aD,ao,es)):
  steps sh cp cs (o::r) ak aj=some (aD,ao,e::es):=by
 simp only[steps,h1,h2]
theorem at2(cY:Ab cs){y:It}{l2:List It}:∀ {l1:List It} {ak aD:Env} {aj ao:aq},steps sh cp cs ((l1++y::l2).map (·.io)) ak aj=some (aD,ao,(l1++y::l2).map (·.e))->(∀x∈l1,Od x y)->
  ∃ir bG,step1 sh cp cs y.io ak aj=some (ir,bG,y.e)/\steps sh cp cs ((l1++l2).map (·.io)) ir bG=some (aD,ao,(l1++l2).map (·.e)):=by
 intro l1
 induction l1 with
 |nil=>intro ak aD aj ao h _;exact agH h
 |cons x l1 ih=>intro ak aD aj ao h oY;obtain⟨envx,blkx,h1,h2⟩:=agH h;obtain⟨envy,blky,h3,h4⟩:=ih h2 fun z hz=>oY z (by simp[hz]);obtain⟨en1,bl1,h5,h6⟩:=swap cY h1 h3 (oY x af).1 (oY x af).2;exact⟨en1,bl1,h5,atz h6 h4⟩
def Dz(al:Al)(b b2:aq):Prop:=∀id,al.ok id=true->b2 id=b id
def uO(al:Al)(b' b2 Fz:aq):Prop:=∀id,Fz id=if al.ok id then b' id else b2 id
def Frame(al:Al)(b b':aq):Prop:=∀id,al.ok id=false->b' id=b id
theorem uO.agree{al:Al}{b2 Fz:aq}(h:uO al b' b2 Fz):Dz al b' Fz:=fun id hid=>by rw[h id,hid];rfl
theorem uO.trans{al:Al}{b2 Fz b'' Yp:aq}(h:uO al b' b2 Fz)(k:uO al b'' Fz Yp):uO al b'' b2 Yp:=fun id=>by rw[k id,h id];cases al.ok id<;>rfl
theorem uO.refl{al:Al}{b b2:aq}(h:Dz al b b2):uO al b b2 b2:=fun id=>by
 cases hid:al.ok id with
 |true=>exact h id hid
 |false=>rfl
theorem Frame.trans{al:Al}{b b'':aq}(h:Frame al b b')(k:Frame al b' b''):Frame al b b'':=fun id hid=>(k id hid).trans (h id hid)
section
variable {sh:Ctx} {cp:fE} {cs:jF} (cY:Ab cs)
include cY
theorem atw:∀ {ops:List bl} {ak aD:Env} {aj ao:aq} {es:List bR},steps sh cp cs ops ak aj=some (aD,ao,es)->Frame sh.al aj ao/\
  ∀aZ,Dz sh.al aj aZ->∃lV,steps sh cp cs ops ak aZ=some (aD,lV,es)/\uO sh.al ao aZ lV:=by
 intro ops
 induction ops with
 |nil=>intro ak aD aj ao es h;simp only[steps,fq,ko] at h;obtain⟨rfl,rfl,rfl⟩:=h;exact⟨fun _ _=>rfl,fun aZ ha=>⟨aZ,rfl,.refl ha⟩⟩
 |cons o ops ih=>
  intro ak aD aj ao es h;simp only[steps] at h;split at h
  .rename_i ir bG e h1;split at h
   .rename_i cZ aZ kX h2;cases h;obtain⟨v,rfl,fr,tw,loc⟩:=W9 cY h1;obtain⟨f2,g2⟩:=ih h2;have hw:∀id,sh.al.ok id=false->e.writes id=false:=by
     intro id hid;cases hh:e.writes id with
     |false=>rfl
     |true=>have:=tw id (by simp[bR.ug,hh]);rw[hid] at this;cases this
    refine⟨Frame.trans (fun id hid=>fr id (hw id hid)) f2,fun b2 ha=>?_⟩;obtain⟨b1,s1,m1⟩:=loc ak b2 (fun _ _=>rfl) (fun id hid=>ha id (tw id hid));have qU:uO sh.al bG b2 b1:=by
     intro id;rw[m1 id];cases hid:sh.al.ok id with
     |true=>
      cases hh:e.writes id with
      |true=>rfl
      |false=>simp only[dx,if_false,if_true];rw[ha id hid,fr id hh]
     |false=>rw[hw id hid]
    obtain⟨b3,s2,m2⟩:=g2 b1 qU.agree;exact⟨b3,by simp only[steps,s1,s2],qU.trans m2⟩
   cases h
  cases h
theorem an3{c:Env->aq->Option (lz×Env×aq)}(hc:∀ {ak aD aj ao e},c ak aj=some (e,aD,ao)->Frame sh.al aj ao/\ ∀aZ,Dz sh.al aj aZ->∃lV,c ak aZ=some (e,aD,lV)/\uO sh.al ao aZ lV):
  ∀(k:Nat) {ak aD:Env} {aj ao:aq} {e:lz},iter c k ak aj=some (e,aD,ao)->Frame sh.al aj ao/\ ∀aZ,Dz sh.al aj aZ->∃lV,iter c k ak aZ=some (e,aD,lV)/\uO sh.al ao aZ lV:=by
 have _u0:=cY;intro k
 induction k with
 |zero=>intro ak aD aj ao e h;simp[iter] at h
 |succ k ih=>
  intro ak aD aj ao e h;simp only[iter] at h;split at h
  .rename_i ir bG h1;obtain⟨f1,g1⟩:=hc h1;obtain⟨f2,g2⟩:=ih h;refine⟨f1.trans f2,fun b2 ha=>?_⟩;obtain⟨b1,s1,m1⟩:=g1 b2 ha;obtain⟨b3,s2,m2⟩:=g2 b1 m1.agree;exact⟨b3,by simp only[iter,s1,s2],m1.trans m2⟩
  rename_i aF;obtain⟨f1,g1⟩:=hc h;refine⟨f1,fun b2 ha=>?_⟩;obtain⟨b1,s1,m1⟩:=g1 b2 ha;refine⟨b1,?_,m1⟩;cases e with
  |normal=>exact(aF _ _ h).elim
  |exit i=>simp only[iter,s1]
  |ret=>simp only[iter,s1]
theorem Z8{n:Nat}:∀(c:aJ) {ak aD:Env} {aj ao:aq} {e:lz},exec sh cp cs n c ak aj=some (e,aD,ao)->Frame sh.al aj ao/\
  ∀aZ,Dz sh.al aj aZ->∃lV,exec sh cp cs n c ak aZ=some (e,aD,lV)/\uO sh.al ao aZ lV:=by
 intro c
 induction c with
 |skip=>intro ak aD aj ao e h;simp only[exec,fq,ko] at h;obtain⟨rfl,rfl,rfl⟩:=h;exact⟨fun _ _=>rfl,fun b2 ha=>⟨b2,rfl,.refl ha⟩⟩
 |exit id=>intro ak aD aj ao e h;simp only[exec,fq,ko] at h;obtain⟨rfl,rfl,rfl⟩:=h;exact⟨fun _ _=>rfl,fun b2 ha=>⟨b2,rfl,.refl ha⟩⟩
 |ret=>intro ak aD aj ao e h;simp only[exec,fq,ko] at h;obtain⟨rfl,rfl,rfl⟩:=h;exact⟨fun _ _=>rfl,fun b2 ha=>⟨b2,rfl,.refl ha⟩⟩
 |bad=>intro ak aD aj ao e h;simp[exec] at h
 |region d ops=>
  intro ak aD aj ao e h;simp only[exec] at h;split at h
  .rename_i ir bG es h1;obtain⟨f1,g1⟩:=atw cY h1;have he:(e,aD,ao)=(lz.normal,ir,bG)/\(d=true->tX ops [] es=true):=by
    cases d with
    |false=>simp at h;exact⟨by simp[h],fun h=>by cases h⟩
    |true=>
     simp only[if_true] at h;split at h
     .rename_i hd;cases h;exact⟨rfl,fun _=>hd⟩
     cases h
   obtain⟨he,hd⟩:=he;cases he;refine⟨f1,fun b2 ha=>?_⟩;obtain⟨b1,s1,m1⟩:=g1 b2 ha;refine⟨b1,?_,m1⟩;simp only[exec,s1];cases d with
   |false=>simp
   |true=>simp[hd rfl]
  cases h
 |seq a b iha ihb=>
  intro ak aD aj ao e h;simp only[exec] at h;split at h
  .rename_i ir bG h1;obtain⟨f1,g1⟩:=iha h1;obtain⟨f2,g2⟩:=ihb h;refine⟨f1.trans f2,fun b2 ha=>?_⟩;obtain⟨b1,s1,m1⟩:=g1 b2 ha;obtain⟨b3,s2,m2⟩:=g2 b1 m1.agree;exact⟨b3,by simp only[exec,s1,s2],m1.trans m2⟩
  rename_i aF;obtain⟨f1,g1⟩:=iha h;refine⟨f1,fun b2 ha=>?_⟩;obtain⟨b1,s1,m1⟩:=g1 b2 ha;refine⟨b1,?_,m1⟩;cases e with
  |normal=>exact(aF _ _ h).elim
  |exit i=>simp only[exec,s1]
  |ret=>simp only[exec,s1]
 |cond x a b iha ihb=>
  intro ak aD aj ao e h;simp only[exec] at h ⊢;split at h
  .rename_i t ht;cases t with
   |true=>exact iha h
   |false=>exact ihb h
  cases h
 |block id c ih=>
  intro ak aD aj ao e h;simp only[exec] at h;split at h
  .rename_i i ir bG h1;obtain⟨f1,g1⟩:=ih h1;have hb:ao=bG:=by split at h<;>cases h<;>rfl
   subst hb;refine⟨f1,fun b2 ha=>?_⟩;obtain⟨b1,s1,m1⟩:=g1 b2 ha;refine⟨b1,?_,m1⟩;simp only[exec,s1];split at h
   .rename_i hi;cases h;rw[if_pos hi]
   rename_i hi;cases h;rw[if_neg hi]
  rename_i aF;obtain⟨f1,g1⟩:=ih h;refine⟨f1,fun b2 ha=>?_⟩;obtain⟨b1,s1,m1⟩:=g1 b2 ha;refine⟨b1,?_,m1⟩;cases e with
  |normal=>simp only[exec,s1]
  |exit i=>exact(aF _ _ _ h).elim
  |ret=>simp only[exec,s1]
 |loop c ih=>intro ak aD aj ao e h;simp only[exec] at h ⊢;exact an3 cY (fun h=>ih h) n h
end
theorem afR{al:Al}{aj aZ:aq}(ha:Dz al aj aZ):∀ {rs:List (Nat×Option (Option Nat))} {vs:List V},oz al ak aj rs=some vs->oz al ak aZ rs=some vs:=by
 intro rs
 induction rs with
 |nil=>intro vs h;exact h
 |cons r rs ih=>
  obtain⟨t,k⟩:=r;cases k with
  |none=>
   intro vs h;simp only[oz] at h ⊢;split at h
   .rename_i v q h1 h2;cases h;simp only[h1,ih h2]
   cases h
  |some k=>
   intro vs h;simp only[oz] at h ⊢;split at h
   .rename_i cs rd q h1 h2;split at h
    .rename_i au;rw[afE h1 (fun id hid=>ha id (Qj au hid)),ih h2];simp only[au,if_true];exact h
    cases h
   cases h
theorem ar1(cY:Ab cs){n:Nat}{fn:aW}{args:List V}{aj ao:aq}{v:V}(h:ru sh cp cs n fn args aj=some (v,ao)):Frame sh.al aj ao/\
  ∀aZ,Dz sh.al aj aZ->∃lV,ru sh cp cs n fn args aZ=some (v,lV)/\uO sh.al ao aZ lV:=by
 unfold ru at h;split at h
 .rename_i ak b hx;simp only[dC] at h;obtain⟨vs,h1,h2⟩:=h;cases h2;obtain⟨f1,g1⟩:=Z8 cY _ hx;refine⟨f1,fun b2 ha=>?_⟩;obtain⟨b3,s1,m1⟩:=g1 b2 ha;exact⟨b3,by unfold ru;rw[s1];simp only[afR m1.agree h1,jZ],m1⟩
 .rename_i ak b hx;simp only[dC] at h;obtain⟨vs,h1,h2⟩:=h;cases h2;obtain⟨f1,g1⟩:=Z8 cY _ hx;refine⟨f1,fun b2 ha=>?_⟩;obtain⟨b3,s1,m1⟩:=g1 b2 ha;exact⟨b3,by unfold ru;rw[s1];simp only[afR m1.agree h1,jZ],m1⟩
 cases h
end
end Go.Abs
namespace Go.Abs
variable {P:Program} {w0:World}
def sk(w:World)(O:Nat->Prop):V->Value->Prop
 | .one (.p x),v=>bU w O x v
 | .agg cs,v=>∃arr ps,v=.agg arr/\cs=ps.map .p/\df w O ps arr.toList
 |_,_=>False
def Enters(P:Program)(f:Nat):Prop:= ∃fn c,P.funcs[f]?=some fn/\fn.body=some c/\(fn.name== "runtime.NumGoroutine")=false
def N5(w:World)(Q:Nat->Prop)(r:RV)(val:Value)(bs:List Nat):Prop:= ∃vs,Fo r val vs/\rC w Q (gk r) vs bs
def uP(w:World)(O:Nat->Prop)(r:RV):Ending->World->Prop:=fun e w'=>∃val bs,e=.returned val/\fg w w'/\bs.Nodup/\(∀c∈bs,w.heap.size<=c/\c<w'.heap.size)/\N5 w' (fun c=>O c\/c∈bs) r val bs
def Good(G:World->Prop)(w:World):Prop:=G w/\ ∀w w',fg w w'->G w->G w'
theorem Ok.abU{m:Mem}(h:Ok w0 m):fg w0 m.w:=⟨h.os,h.tape,h.output,h.size,h.base⟩
theorem rC.pure{w:World}{Q Q':Nat->Prop}(h:∀b,Q' b->Q b):∀ {rs:List RC} {vs:List Value} {bs:List Nat},(∀c∈bs,¬Q' c)->rC w Q rs vs bs->rC w Q' (rs.map RC.pure) vs []:=by
 intro rs
 induction rs with
 |nil=>intro vs bs _ hr;exact⟨hr.1,rfl⟩
 |cons r rs ih=>
  intro vs bs hb hr;have less:∀ {x:PV} {v:Value},bU w Q x v->bU w Q' x v:=fun hp=>hp.mono fun c _ hn=>⟨rfl,fun hq=>hn (h c hq)⟩;cases r with
  |p x=>obtain⟨v,mO,rfl,h1,h2⟩:=hr;exact⟨v,mO,rfl,less h1,ih hb h2⟩
  |own ty sz es=>
   obtain⟨v,mO,c,BU,rfl,rfl,⟨cap,cur,e1,e2,e3,e4,e5,e6,e7,e8⟩,h2⟩:=hr;refine⟨v,mO,rfl,?_,ih (fun c hc=>hb c (by simp[hc])) h2⟩;subst e1;refine bU.sl c 0 cap sz (fun j=>cur.toList.getD j undef) (fun _=>hb c af) e5 e6 e4 (fun j x hx=>?_) (fun j x hx=>?_)
   .have hj:j<(cur.toList.take (es.length*sz)).length:=by rw[e8.1];exact(aS.1 hx).1
    have mE:j<cur.size:=by simp at hj;omega
    rw[World.cell?];simp[e2,mE,List.getD,iD]
   have hj:j<(cur.toList.take (es.length*sz)).length:=by rw[e8.1];exact(aS.1 hx).1
   have mE:j<cur.size:=by simp at hj;omega
   refine less (e8.2 j x _ hx ?_);rw[List.getElem?_take_of_lt (by simp at hj;omega)];simp[mE,List.getD]
theorem xh.pure{r:RV}{v:Value}{vs:List Value}(h:xh r v vs):xh r.GP v vs/\gI r.GP=(gI r).map RC.pure:=by
 cases r with
 |one c=>exact⟨h,rfl⟩
 |agg cs=>exact⟨⟨h.1,by simpa [RV.GP] using h.2⟩,rfl⟩
 |tup _=>exact h.elim
theorem DA.pure:∀ {rs:List RV} {us vs:List Value},DA rs us vs->DA (rs.map RV.GP) us vs/\kL (rs.map RV.GP)=(kL rs).map RC.pure:=by
 intro rs
 induction rs with
 |nil=>intro us vs h;exact⟨h,rfl⟩
 |cons r rs ih=>
  rintro us vs ⟨u,NL,a,b,rfl,rfl,h1,h2⟩
  obtain⟨p1,p2⟩:=h1.pure;obtain⟨q1,q2⟩:=ih h2;exact⟨⟨u,NL,a,b,rfl,rfl,p1,q1⟩,by simp[kL,p2,q2]⟩
theorem Fo.pure{r:RV}{v:Value}{vs:List Value}(h:Fo r v vs):Fo r.pure v vs/\gk r.pure=(gk r).map RC.pure:=by
 cases r with
 |one c=>exact xh.pure (r:=.one c) h
 |agg cs=>exact xh.pure (r:=.agg cs) h
 |tup rs=>obtain⟨arr,rfl,h2⟩:=h;obtain⟨q1,q2⟩:=h2.pure;exact⟨⟨arr,rfl,q1⟩,q2⟩
theorem uP.ig{w w':World}{O:Nat->Prop}{r:RV}{e:Ending}(b:Bool)(hO:∀c,O c->c<w.heap.size)(h:uP w O r e w'):uP w O (r.ig b) e w':=by
 cases b with
 |false=>exact h
 |true=>
  obtain⟨val,bs,rfl,hg,iS,mB,vs,h1,h2⟩:=h;obtain⟨p1,p2⟩:=h1.pure;refine⟨val,[],rfl,hg,w7,fun c hc=>by simp at hc,vs,p1,?_⟩;simp only[RV.ig];rw[p2];refine rC.pure (fun b hb=>?_) (fun c hc hn=>?_) h2
  .rcases hb with hb|hb
   .exact .inl hb
   simp at hb
  rcases hn with hn|hn
  .have:=hO c hn;have:=(mB c hc).1;omega
  simp at hn
def DC(P:Program)(G:World->Prop)(cp:fE):Prop:=∀f vs r,cp f vs=some r->Enters P f/\ ∀(w:World) (O:Nat->Prop) (args:Array Value),Good G w->(∀c,O c->c<w.heap.size)->Pw (sk w O) vs args.toList->Calls P f args w (uP w O r)
def Ht(w0:World)(m:Mem)(v:V)(ao:aq):Ending->World->Prop:=fun e w'=>∃val m',e=.returned val/\m'.w=w'/\Ok w0 m'/\Ev m m'/\m'.fr=m.fr/\m'.aj=ao/\bJ m' v val
def Fq(P:Program)(G:World->Prop)(cs:jF):Prop:=∀f vs al aj v ao,cs f vs al aj=some (v,ao)->Enters P f/\ ∀(w0:World) (m:Mem) (args:Array Value),Good G w0->Ok w0 m->m.aj=aj->Pw (bJ m) vs args.toList->Calls P f args m.w (Ht w0 m v ao)
theorem as9{m:Mem}(au:Ok w0 m){O:Nat->Prop}{x y:V}{r:List Nat}{v:Value}(h:nA m.aj x=some (y,r))(hr:bJ m x v)(hs:pW m O r):sk m.w O y v:=by
 cases x with
 |undef=>simp[nA] at h
 |tup vs=>simp[nA] at h
 |one c=>simp only[nA,dC] at h;obtain⟨⟨p,r'⟩,h1,h2⟩:=h;cases h2;exact JQ au eL h1 hr hs
 |agg cs=>simp only[nA,dC] at h;obtain⟨⟨ps,r'⟩,h1,h2⟩:=h;cases h2;obtain⟨arr,rfl,hc⟩:=bJ.agg.1 hr;refine⟨arr,ps,rfl,rfl,?_⟩;exact HO (R:=cT m) (T:=bU m.w O) (eU:=pW m O) (fun _ _=>pW.app) (fun _ _ _ _ h1 h2 h3=>JQ au eL h1 h2 h3) h1 hs hc
theorem agx{m:Mem}(au:Ok w0 m){O:Nat->Prop}{xs ys:List V}{r:List Nat}{vs:List Value}(h:Bl m.aj xs=some (ys,r))(hr:Pw (bJ m) xs vs)(hs:pW m O r):Pw (sk m.w O) ys vs:=HO (R:=bJ m) (T:=sk m.w O) (eU:=pW m O) (fun _ _=>pW.app) (fun _ _ _ _ h1 h2 h3=>as9 au h1 h2 h3) h hs hr
theorem afc{m:Mem}(au:Ok w0 m){c:Nat}(h:m.own c):c<m.w.heap.size:=by
 rcases h with h|⟨id,o,ho,_,rfl⟩
 .exact au.frlt c h
 exact(au.obj id o ho).lt
theorem af9{w:World}{Q Q':Nat->Prop}{x:PV}{v:Value}(hs:x.scalar=true)(h:bU w Q x v):bU w Q' x v:=by
 cases h<;>first
  |(simp[PV.scalar] at hs;done)
  |constructor
theorem aia{w:World}{Q Q':Nat->Prop}:∀ {rs:List RC} {vs:List Value} {bs:List Nat},rs.all RC.alone=true->rC w Q rs vs bs->rC w Q' rs vs bs:=by
 intro rs
 induction rs with
 |nil=>intro vs bs _ h;exact h
 |cons r rs ih=>
  intro vs bs ha h;simp only[lk,cH] at ha;cases r with
  |p x=>obtain⟨v,mO,rfl,h1,h2⟩:=h;exact⟨v,mO,rfl,af9 ha.1 h1,ih ha.2 h2⟩
  |own ty sz es=>obtain⟨v,mO,c,BU,rfl,rfl,⟨cap,cur,e1,e2,e3,e4,e5,e6,e7,e8⟩,h2⟩:=h;refine⟨v,mO,c,BU,rfl,rfl,⟨cap,cur,e1,e2,e3,e4,e5,e6,e7,e8.1,fun j x u a b=>?_⟩,ih ha.2 h2⟩;refine af9 ?_ (e8.2 j x u a b);have hx:=aU a;obtain⟨e,he,hxe⟩:=Hm.1 hx;have h1:=ha.1;simp only[RC.alone] at h1;exact jf.1 (jf.1 h1 e he) x hxe
theorem adR{m:Mem}{w':World}{x:RV}{val:Value}{bs:List Nat}{site:Nat}(au:Ok w0 m)(hg:fg m.w w')(iS:bs.Nodup)(mB:∀c∈bs,m.w.heap.size<=c/\c<w'.heap.size)(hr:N5 w' (fun c=>m.own c\/c∈bs) x val bs):
  ∃m',m'.w=w'/\Ok w0 m'/\Ev m m'/\m'.fr=m.fr/\m'.aj=app (jm m.aj site x).2 m.aj/\bJ m' (jm m.aj site x).1 val:=by
 obtain⟨vs,h1,h2⟩:=hr;have nj:Ok w0 (m.later w' (· ∈bs)):=M4 au hg mB;have u5:Ev m (m.later w' (· ∈bs)):=Je hg fun c hc=>(mB c hc).1;obtain⟨m',e1,e2,e3,_,e5,e6,e7⟩:=anK (Na:=m) (site:=site) nj (h2.less fun b hb=>adV.1 hb) iS (fun c hc=>⟨.inr hc,ll au.size (mB c hc).1⟩) u5 (fun c hc=>.inl (mB c hc).1);refine⟨m',e1,e2,e3,?_,e6,arG h1 e7⟩;funext c;apply propext;rw[e5 c];constructor
 .rintro ⟨h|h,h2⟩
  .exact h
  exact(h2 h).elim
 intro h;refine⟨.inl h,fun hc=>?_⟩;have h1:=au.frlt c h;have h2:=(mB c hc).1;omega
theorem anL{b b':aq}(h:∀s,(b s).1=(b' s).1)(site:Nat)(x:RV):jm b site x=jm b' site x:=by unfold jm;rw[acP _ site b b' fun s _=>h s]
theorem aqf{G:World->Prop}{cp:fE}(Eh:DC P G cp)(hG:Good G w0){m:Mem}(au:Ok w0 m){f:Nat}{xs vs:List V}{rd:List Nat}{x:RV}{site:Nat}{v:V}{u:List eG}{args:Array Value}(hc:cp f vs=some x)(hs:Bl m.aj xs=some (vs,rd))(Co:Pw (bJ m) xs args.toList)
  {pb:Bool} (hl:land m.aj rd site (x.ig pb)=some (v,u)):Calls P f args m.w (Ht w0 m v (app u m.aj)):=by
 have Cs:∀(w:World) (O:Nat->Prop) (args:Array Value),Good G w->(∀c,O c->c<w.heap.size)->Pw (sk w O) vs args.toList->Calls P f args w (uP w O (x.ig pb)):=fun w O args h1 h2 h3=>((Eh f vs x hc).2 w O args h1 h2 h3).mono fun e w' h=>h.ig pb h2
 generalize x.ig pb=x at hl Cs;unfold land at hl;split at hl
 .rename_i qR;cases hl;have key:∀(O:Nat->Prop),(∀c,O c->c<m.w.heap.size)->pW m O rd->(∀w' bs val,N5 w' (fun c=>O c\/c∈bs) x val bs->N5 w' (fun c=>m.own c\/c∈bs) x val bs)->Calls P f args m.w (Ht w0 m (jm m.aj site x).1 (app (jm m.aj site x).2 m.aj)):=by
   intro O hO nT vj;refine(Cs m.w O args ⟨hG.2 _ _ au.abU hG.1,hG.2⟩ hO (agx au hs Co nT)).mono ?_;rintro e w' ⟨val,bs,rfl,hg,iS,mB,hr⟩
   obtain⟨m',e1,e2,e3,e4,e5,e6⟩:=adR (site:=site) au hg iS mB (vj w' bs val hr);exact⟨val,m',rfl,e1,e2,e3,e4,e5,e6⟩
  rcases qR with rfl|iK
  .exact key m.own (fun c hc=>afc au hc) ⟨fun _ h=>h,fun _ h=>by simp at h⟩ fun _ _ _ h=>h
  refine key (fun _=>False) (fun c h=>h.elim) ⟨fun _ h=>h.elim,fun _ _ h=>h⟩ fun w' bs val h=>?_;obtain⟨mO,h1,h2⟩:=h;exact⟨mO,h1,aia iK h2⟩
 split at hl
 .rename_i fu qh;cases hl;have nj:=abx au qh;have u5:=UY qh;have nT:=U1 au qh;refine(Cs m.w (m.with fu).own args ⟨hG.2 _ _ au.abU hG.1,hG.2⟩ (fun c hc=>afc nj hc) (agx au hs Co nT)).mono ?_;rintro e w' ⟨val,bs,rfl,hg,iS,mB,hr⟩
  obtain⟨m',e1,e2,e3,e4,e5,e6⟩:=adR (m:=m.with fu) (site:=site) nj hg iS mB hr;have Vg:jm (m.with fu).aj site x=jm m.aj site x:=anL (fun s=>Lj qh s) site x;rw[Vg] at e5 e6;refine⟨val,m',rfl,e1,e2,u5.trans e3,e4,?_,e6⟩;rw[e5,KA];rfl
 cases hl
end Go.Abs
namespace Go.Abs
variable {P:Program} {w0:World}
theorem QA{m m':Mem}(dL:Ev m m'){ak:Env}{a:Act}{dst:Option Nat}{v:V}{x:Value}(hr:iW m ak a.tmps)(hv:bJ m' v x)(hd:∀d,dst=some d->d<a.tmps.size):iW m' (put ak dst v) (a.put dst x).tmps:=by
 cases dst with
 |none=>exact hr.ev dL
 |some d=>
  intro t;have aw:=hd d rfl;simp only[put,Act.put,aM];by_cases ht:t=d
  .subst ht;rw[if_pos rfl];have:(a.tmps.setIfInBounds t x).getD t undef=x:=by simp[aw]
   rw[this];exact hv
  rw[if_neg ht];have:(a.tmps.setIfInBounds d x).getD t undef=a.tmps.getD t undef:=by simp only[Array.getD_eq_getD_getElem?];rw[Array.getElem?_setIfInBounds_ne (fun e=>ht e.symm)]
  rw[this];exact(hr t).ev dL.zero
theorem QB(a:Act)(dst:Option Nat)(x:Value):(a.put dst x).tmps.size=a.tmps.size:=by cases dst<;>simp[Act.put]
theorem put_defers(a:Act)(dst:Option Nat)(x:Value):(a.put dst x).defers=a.defers:=by cases dst<;>simp[Act.put]
theorem ahi{m:Mem}{ak:Env}{tmps:Array Value}(hr:iW m ak tmps){ops:Array Oper}{o:Oper}{g:Option (Nat×Bool)}{b:Bool}
  (hg:match o.guard with|none=>g=none|some (j,w)=>∃t,(ops[j]?).bind (·.dst)=some t/\g=some (t,w)) (h:wanted ak g=some b):Region.wanted o (yielded ops tmps)=b:=by
 unfold Region.wanted;cases ho:o.guard with
 |none=>rw[ho] at hg;subst hg;simp only[wanted,fq] at h;exact h
 |some q=>
  obtain⟨j,w⟩:=q;rw[ho] at hg;obtain⟨t,h1,rfl⟩:=hg;have hrt:=hr t;simp only[wanted] at h;simp only[yielded,h1,Option.bind_some];split at h
  .rename_i b' hb;rw[hb] at hrt;have hv:=EG hrt;cases h;have:tmps[t]?=some (.bool b'):=by
    rw[Array.getD_eq_getD_getElem?] at hv;cases he:tmps[t]? with
    |none=>rw[he] at hv;simp[undef] at hv
    |some y=>rw[he] at hv;simp at hv;rw[hv]
   rw[this];rfl
  .rename_i hb;rw[hb] at hrt;cases h;have hv:tmps.getD t undef=undef:=hrt;rw[Array.getD_eq_getD_getElem?] at hv;cases he:tmps[t]? with
   |none=>rfl
   |some y=>rw[he] at hv;simp at hv;rw[hv];rfl
  cases h
theorem abo{m:Mem}{ak:Env}{f:aQ}{v:Value}{g:Nat}{a b:List C}(h:DU ak f=some (g,a,b))(hr:bJ m (ev ak f) v):∃A B:Array Value,v=.func (.func g) A B/\di m a A.toList/\di m b B.toList:=by
 unfold DU at h;split at h
 .rename_i g' x y he;cases h;rw[he] at hr;obtain⟨hp⟩:cT m _ v:=hr;cases hp with
  |fn A B ha hb uA qo=>exact⟨A,B,rfl,df.Dl ⟨by simpa using ha,fun j x u p q=>uA j x u p (by simpa using q)⟩,df.Dl ⟨by simpa using hb,fun j x u p q=>qo j x u p (by simpa using q)⟩⟩
 .rename_i g' x y he;cases h;rw[he] at hr;have hc:cT m _ v:=hr;cases hc with
  |hfn A B ha hb uA qo=>exact⟨A,B,rfl,⟨by simpa using ha,fun j x u p q=>uA j x u p (by simpa using q)⟩,⟨by simpa using hb,fun j x u p q=>qo j x u p (by simpa using q)⟩⟩
 cases h
theorem Yf{m:Mem}{ak:Env}{a:Act}(hr:iW m ak a.tmps):∀ {xs:List Operand} {ys:List aQ},pZ xs=some ys->Pw (bJ m) (ys.map (ev ak)) (xs.map a.eval):=by
 intro xs
 induction xs with
 |nil=>intro ys h;simp[pZ] at h;subst h;exact⟨rfl,fun j x u p=>by simp at p⟩
 |cons x xs ih=>
  intro ys h;simp only[pZ] at h;split at h
  .rename_i y ys' h1 h2;cases h;obtain⟨i1,i2⟩:=ih h2;refine⟨by simpa using i1,fun j z u p q=>?_⟩;cases j with
   |zero=>simp at p q;subst p q;exact ek h1 hr
   |succ j=>exact i2 j z u (by simpa using p) (by simpa using q)
  cases h
theorem Qk{m:Mem}{cs:List C}{vs:List Value}(h:di m cs vs):Pw (bJ m) (cs.map .one) vs:=by refine⟨by simpa using h.1,fun j x u p q=>?_⟩;simp only[fR,dC] at p;obtain⟨c,hc,rfl⟩:=p;exact bJ.one.2 (h.2 j c u hc q)
theorem ajf{f:Nat}(h:Enters P f)(args:Array Value)(w:World):(callFunc f args).run P w=.ok (.enter f args) w:=by
 obtain⟨fn,c,h1,h2,h3⟩:=h;have h4:¬fn.name= "runtime.NumGoroutine" :=by simpa using h3
 simp[callFunc,run_program,h1,h2,h4]
theorem YE{o:Oper}{c:Call}{fo:Operand}{a:Act}{g:Nat}{A B:Array Value}{w:World}(ho:o.op=.call c)(hc:c.callee=.value fo)(hv:a.eval fo=.func (.func g) A B)(he:Enters P g):
  (execOp a.eval o).run P w=.ok (.enter g (A++c.args.map a.eval++B)) w:=by
 simp[execOp,ho,resolve,hc,hv,Deferred.ofValue,invoke,ajf he]
theorem aeX{site:Nat}{o:Oper}{p:mT}(h:FH P site o=some p)(hp:∀s f as,p≠ .call s f as){sh:Nat->Bool}{ak:Env}{aj:aq}:(∀f vs r s,bn sh ak aj p≠ .pc f vs r s)/\ ∀f vs,bn sh ak aj p≠ .sc f vs:=by
 cases p<;>first
  |exact(hp _ _ _ rfl).elim
  |(simp only[bn]
    constructor<;>intros<;>intro h<;>(repeat' split at h)<;>first
     |cases h
     |(simp only[zW,Dc,fj] at h;(repeat' split at h)<;>cases h))
theorem Zf{site:Nat}{o:Oper}{s:Nat}{f:aQ}{as:List aQ}(h:FH P site o=some (.call s f as)):∃c fo,o.op=.call c/\c.callee=.value fo/\cA fo=some f/\pZ c.args.toList=some as:=by
 unfold FH at h;split at h
 case h_26 c ho=>
  split at h
  .rename_i f' as' h1 h2;simp only[dC] at h;obtain⟨y,h3,h4⟩:=h;cases h4;exact⟨c,f',ho,h1,h3,h2⟩
  all_goals((repeat' split at h)<;>first
   |cases h
   |(simp at h;done))
 all_goals((repeat' split at h)<;>first
  |cases h
  |(simp at h;done))
def Ft(w0:World)(m:Mem)(a:Act)(nt:Nat)(aD:Env)(ao:aq)(K:Act->World->Prop):Prop:=∀(a':Act) (m':Mem),Ok w0 m'->Ev m m'->m'.fr=m.fr->m'.aj=ao->iW m' aD a'.tmps->a'.tmps.size=nt->a'.defers=a.defers->K a' m'.w
theorem aht{o:Oper}{a:Act}{f:Nat}{args:Array Value}{w:World}{K:Act->World->Prop}{Q:Exit->Act->World->Prop}{R:Ending->World->Prop}(jJ:(execOp a.eval o).run P w=.ok (.enter f args) w)(hc:Calls P f args w R)
  (hR:∀e w',R e w'->∃v,e=.returned v/\K (a.put o.dst v) w'):o.wp P a w K Q:=by
 unfold Oper.wp;rw[jJ,Oper.upon_enter];refine hc.mono ?_;intro e w' he;obtain⟨v,rfl,hk⟩:=hR e w' he;exact hk
theorem agG{G:World->Prop}(hG:Good G w0){cp:fE}{cs:jF}(hP:DC P G cp)(hS:Fq P G cs){sh:Ctx}{ops:Array Oper}{base nt anc:Nat}{o:Oper}{io:bl}{m:Mem}{ak aD:Env}{ao:aq}{eff:bR}{a:Act}{K:Act->World->Prop}{Q:Exit->Act->World->Prop}
  (ho:DN P (fun j=>(ops[j]?).bind (·.dst)) base nt anc o=some io) (cE:step1 sh cp cs io ak m.aj=some (aD,ao,eff)) (au:Ok w0 m) (hr:iW m ak a.tmps) (fM:a.tmps.size=nt) (hK:Ft w0 m a nt aD ao K):
  if Region.wanted o (yielded ops a.tmps) then o.wp P a m.w K Q else K (a.put o.dst undef) m.w:=by
 have hio:io.dst=o.dst/\io.op=HP P base o/\(∀d,o.dst=some d->d<nt)/\(match o.guard with|none=>io.guard=none|some (j,w)=>∃t,(ops[j]?).bind (·.dst)=some t/\io.guard=some (t,w)):=by
  unfold DN at ho;split at ho
  .rename_i hd;simp only[dC] at ho;obtain⟨g,hg,rfl⟩:=ho;refine⟨rfl,rfl,fun d he=>?_,?_⟩
   .rw[he] at hd
    simpa [ZM] using hd
   cases hgo:o.guard with
   |none=>rw[hgo] at hg;simp[Va] at hg;exact hg.symm
   |some q=>obtain⟨j,w⟩:=q;rw[hgo] at hg;simp only[Va,dC] at hg;obtain⟨t,ht,rfl⟩:=hg;exact⟨t,ht,rfl⟩
  cases ho
 obtain⟨h1,h2,h3,h4⟩:=hio;have hd:∀d,o.dst=some d->d<a.tmps.size:=by rw[fM];exact h3
 unfold step1 at cE;split at cE
 .cases cE
 .rename_i hw;cases cE;rw[ahi hr h4 hw];simp only[dx,if_false];rw[h1] at hK;exact hK _ m au (Ev.refl m) rfl rfl (QA (Ev.refl m) hr (show bJ m .undef undef from rfl) hd) (by rw[QB,fM]) (put_defers _ _ _)
 rename_i hw;rw[ahi hr h4 hw];simp only[if_true];rw[h2] at cE;unfold HP at cE;cases zn:FH P base o with
 |none=>rw[zn] at cE;simp[bn] at cE
 |some p=>
  rw[zn] at cE;simp only[mS] at cE;split at cE
  .cases cE
  .rename_i v u r hp;split at cE
   case isFalse=>cases cE
   cases cE;obtain⟨x,m',amH,e2,e3,e4,e5,e6⟩:=apT au hr zn hp;rw[h1] at hK;have hk:=fun x (hx:bJ m' v x)=>hK (a.put o.dst x) m' e2 e3 e4 e5 (QA e3 hr hx hd) (by rw[QB,fM]) (put_defers _ _ _);unfold Oper.wp;rcases amH with hd|⟨hd,rfl⟩
   .rw[hd,Oper.upon_value];exact hk x e6
   rw[hd,Oper.upon_skip];exact hk undef e6
  .rename_i f vs r s hp;by_cases Cs:∃s f as,p=.call s f as
   .obtain⟨s',f',as,rfl⟩:=Cs;obtain⟨c,fo,g1,g2,g3,g4⟩:=Zf zn;simp only[bn] at hp;split at hp
    .rename_i g A B hfn;obtain⟨AV,BV,e1,e2,e3⟩:=abo hfn (ek g3 hr);split at hp
     .cases hp
     split at hp
     .rename_i ws rd l6;cases hp;split at cE
      .rename_i x hx;split at cE
       .rename_i v u hl;split at cE
        case isFalse=>cases cE
        cases cE;have Co:Pw (bJ m) (A.map .one++as.map (ev ak)++B.map .one) (AV++c.args.map a.eval++BV).toList:=by
         have:=((Qk e2).append (Yf hr g4)).append (Qk e3)
         simpa using this
        refine aht (YE g1 g2 e1 (hP _ _ _ hx).1) (aqf hP hG au hx l6 Co hl) ?_;rintro e w' ⟨val,m',rfl,rfl,q1,q2,q3,q4,q5⟩
        rw[h1] at hK;exact⟨val,rfl,hK _ m' q1 q2 q3 q4 (QA q2 hr q5 hd) (by rw[QB,fM]) (put_defers _ _ _)⟩
       cases cE
      cases cE
     cases hp
    cases hp
   exact((aeX zn (fun s f as e=>Cs ⟨s,f,as,e⟩)).1 _ _ _ _ hp).elim
  rename_i f vs hp;by_cases Cs:∃s f as,p=.call s f as
  .obtain⟨s',f',as,rfl⟩:=Cs;obtain⟨c,fo,g1,g2,g3,g4⟩:=Zf zn;simp only[bn] at hp;split at hp
   .rename_i g A B hfn;obtain⟨AV,BV,e1,e2,e3⟩:=abo hfn (ek g3 hr);split at hp
    .cases hp;split at cE
     case isFalse=>cases cE
     split at cE
     .rename_i v HE hx;cases cE;have Co:Pw (bJ m) (A.map .one++as.map (ev ak)++B.map .one) (AV++c.args.map a.eval++BV).toList:=by
       have:=((Qk e2).append (Yf hr g4)).append (Qk e3)
       simpa using this
      refine aht (YE g1 g2 e1 (hS _ _ _ _ _ _ hx).1) ((hS _ _ _ _ _ _ hx).2 w0 m _ hG au rfl Co) ?_;rintro e w' ⟨val,m',rfl,rfl,q1,q2,q3,q4,q5⟩
      rw[h1] at hK;exact⟨val,rfl,hK _ m' q1 q2 q3 q4 (QA q2 hr q5 hd) (by rw[QB,fM]) (put_defers _ _ _)⟩
     cases cE
    split at hp<;>cases hp
   cases hp
  exact((aeX zn (fun s f as e=>Cs ⟨s,f,as,e⟩)).2 _ _ hp).elim
end Go.Abs
namespace Go.Abs
variable {P:Program} {w0:World}
theorem SC{dst anc:Nat->Option Nat}{base nt i:Nat}{o:Oper}{r:List Oper}{l:List bl}(h:vT P dst anc base nt i (o::r)=some l):
  ∃x xs,l=x::xs/\DN P dst ((base+i)*64) nt ((anc i).getD 0) o=some x/\vT P dst anc base nt (i+1) r=some xs:=by
 simp only[vT] at h;split at h
 .rename_i x xs h1 h2;cases h;exact⟨x,xs,rfl,h1,h2⟩
 cases h
section
variable {G:World->Prop} (hG:Good G w0) {cp:fE} {cs:jF} (hP:DC P G cp) (hS:Fq P G cs) {sh:Ctx}
include hG hP hS
theorem apX{ops:Array Oper}{anc:Nat->Option Nat}{base nt:Nat}{Q:Exit->Act->World->Prop}:∀(r:List Oper) {l:List bl} {i:Nat} {ak aD:Env} {m:Mem} {ao:aq} {es:List bR} {a:Act},(∀j,ops[i+j]?=r[j]?)->vT P (fun j=>(ops[j]?).bind (·.dst)) anc base nt i r=some l->
  steps sh cp cs l ak m.aj=some (aD,ao,es)->Ok w0 m->iW m ak a.tmps->a.tmps.size=nt->Ft w0 m a nt aD ao (fun a' w'=>Q .normal a' w')->wpOps P ops Q (List.range' i r.length) a m.w:=by
 intro r
 induction r with
 |nil=>intro l i ak aD m ao es a _ hc cE au hr fM hK;simp[vT] at hc;subst hc;simp only[steps,fq,ko] at cE;obtain⟨rfl,rfl,_⟩:=cE;simp only[dN,List.range'_zero,wpOps];exact hK a m au (Ev.refl m) rfl rfl hr fM rfl
 |cons o r ih=>
  intro l i ak aD m ao es a ME hc cE au hr fM hK;obtain⟨x,xs,rfl,h1,h2⟩:=SC hc;simp only[steps] at cE;split at cE
  .rename_i ir bG e1 gQ;split at cE
   .rename_i cZ aZ es2 eh;cases cE;have ho:ops[i]?=some o:=by have:=ME 0;simpa using this
    have key:=agG (Q:=Q) (K:=wpOps P ops Q (List.range' (i+1) r.length)) hG hP hS h1 gQ au hr fM (fun a1 m1 k1 k2 k3 k4 k5 k6 k7=>by subst k4;refine ih (m:=m1) (fun j=>by have:=ME (j+1);rw[show i+1+j=i+(j+1) by omega];simpa using this) h2 eh k1 k5 k6 ?_;intro a2 m2 p1 p2 p3 p4 p5 p6 p7;exact hK a2 m2 p1 (k2.trans p2) (p3.trans k3) p4 p5 p6 (p7.trans k7))
    simp only[cq,List.range'_succ,wpOps,ho];split at key
    .rename_i hw;rw[if_pos hw];exact .inl key
    rename_i hw;rw[if_neg hw];exact key
   cases cE
  cases cE
theorem arB{ops:Array Oper}{anc:Nat->Option Nat}{base nt id:Nat}{Q:Exit->Act->World->Prop}{l:List bl}{ak aD:Env}{m:Mem}{ao:aq}{es:List bR}{a:Act}(hc:vT P (fun j=>(ops[j]?).bind (·.dst)) anc base nt 0 ops.toList=some l)
  (cE:steps sh cp cs l ak m.aj=some (aD,ao,es)) (au:Ok w0 m) (hr:iW m ak a.tmps) (fM:a.tmps.size=nt) (hK:Ft w0 m a nt aD ao (fun a' w'=>Q .normal a' w')):(Code.region id ops false).wp P Q a m.w:=by
 refine wp_region ?_;have:=apX hG hP hS (sh:=sh) (ops:=ops) (Q:=Q) ops.toList (i:=0) (fun j=>af) hc cE au hr fM hK;rw[List.range_eq_range']
 simpa using this
end
end Go.Abs
namespace Go.Abs
variable {P:Program} {w0:World}
theorem ard{α β:Type}(g:Array β->α->β):∀(l:List α) (acc:Array β),(l.foldl (fun acc o=>acc.push (g acc o)) acc).size=acc.size+l.length/\
  (∀j,j<acc.size->(l.foldl (fun acc o=>acc.push (g acc o)) acc)[j]?=acc[j]?)/\
  ∀j o,l[j]?=some o->∃pre:Array β,pre.size=acc.size+j/\(∀k,k<pre.size->(l.foldl (fun acc o=>acc.push (g acc o)) acc)[k]?=pre[k]?)/\(l.foldl (fun acc o=>acc.push (g acc o)) acc)[acc.size+j]?=some (g pre o):=by
 intro l
 induction l with
 |nil=>intro acc;exact⟨rfl,fun _ _=>rfl,fun j o h=>by simp at h⟩
 |cons x l ih=>
  intro acc;obtain⟨h1,h2,h3⟩:=ih (acc.push (g acc x));simp only[zZ];refine⟨by rw[h1];simp;omega,fun j hj=>?_,fun j o ho=>?_⟩
  .rw[h2 j (by simp;omega),Array.getElem?_push,if_neg aa]
  cases j with
  |zero=>
   simp at ho;subst ho;refine⟨acc,aa,fun k hk=>?_,?_⟩
   .rw[h2 k (by simp;omega),Array.getElem?_push,if_neg aa]
   rw[se,h2 acc.size af,Array.getElem?_push,if_pos rfl]
  |succ j=>obtain⟨pre,p1,p2,p3⟩:=h3 j o (by simpa using ho);refine⟨pre,by rw[p1];simp;omega,p2,?_⟩;rw[<- p3];simp only[Array.size_push];congr 1;omega
theorem apY{α:Type}(f:α->Bool)(g:α->Nat)(h:α->Nat):∀(l:List α) (s j:Nat),(l.foldl (fun s e=>if f e then s|||g e|||h e else s) s).testBit j=true->s.testBit j=true\/ ∃e∈l,f e=true/\((g e).testBit j=true\/(h e).testBit j=true):=by
 intro l
 induction l with
 |nil=>intro s j hh;exact .inl hh
 |cons x l ih=>
  intro s j hh;simp only[zZ] at hh;rcases ih _ j hh with h1|⟨e,he,h2⟩
  .split at h1
   .rename_i hf;simp only[Nat.testBit_or,By] at h1;rcases h1 with (h1|h1)|h1
    .exact .inl h1
    .exact .inr ⟨x,af,hf,.inl h1⟩
    exact .inr ⟨x,af,hf,.inr h1⟩
   exact .inl h1
  exact .inr ⟨e,by simp[he],h2⟩
theorem aiZ{ops:Array Oper}(Eg:Hx ops=true){i:Nat}{o:Oper}(ho:ops[i]?=some o){j:Nat}(hj:(((Region.before ops)[i]?).getD 0).testBit j=true):
  ∃e∈o.after,Region.binds .any e=true/\e.on<i/\(j=e.on\/(((Region.before ops)[e.on]?).getD 0).testBit j=true):=by
 unfold Region.before at hj ⊢;rw[<- Array.foldl_toList] at hj ⊢;obtain⟨h1,h2,h3⟩:=ard (fun(acc:Array Nat) (o:Oper)=>o.after.foldl (fun s e=>if Region.binds .any e then s|||2 ^ e.on|||acc.getD e.on 0 else s) 0) ops.toList #[];obtain⟨pre,p1,p2,p3⟩:=h3 i o (by simpa using ho);simp only[Array.size_empty,iD] at p1 p3;rw[p3] at hj;simp only[mS] at hj;rw[<- Array.foldl_toList] at hj;rcases apY (fun e=>Region.binds .any e) (fun e=>2 ^ e.on) (fun e=>pre.getD e.on 0) _ _ _ hj with h|⟨e,he,hb,Iz⟩
 .simp at h
 have aw:i<ops.size:=(Array.getElem?_eq_some_iff.1 ho).1;have MD:e.on<i:=by unfold Hx at Eg;have:=jf.1 Eg i (by simpa using aw);rw[ho] at this;rw[jf] at this;have:=this e (by simpa using he);simp only[hb,Bx,Bw,decide_eq_true_eq] at this;exact this
 refine⟨e,by simpa using he,hb,MD,?_⟩;rcases Iz with Iz|Iz
 .left;rw[Nat.testBit_two_pow] at Iz;have h9:e.on=j:=by simpa using Iz
  exact h9.symm
 right;rw[p2 e.on aa]
 simpa [Array.getD_eq_getD_getElem?] using Iz
theorem Zg{dst:Nat->Option Nat}{base nt anc:Nat}{o:Oper}{io:bl}(h:DN P dst base nt anc o=some io):io.anc=anc:=by
 unfold DN at h;split at h
 .simp only[dC] at h;obtain⟨g,_,rfl⟩:=h;rfl
 cases h
structure ahB (P:Program) (ops:Array Oper) (base nt:Nat) (rem:List It) (listed:Array Bool):Prop where
 pair:rem.Pairwise fun p q=>p.i<q.i/\(q.io.anc.testBit p.i=true\/Od p q)
 comp:∀p∈rem,∃o,ops[p.i]?=some o/\DN P (fun j=>(ops[j]?).bind (·.dst)) ((base+p.i)*64) nt (((Region.before ops)[p.i]?).getD 0) o=some p.io
 size:listed.size=ops.size
 free:∀i:Nat,listed[i]?=some false↔ ∃p∈rem,p.i=i
 closed:∀i:Nat,listed[i]?=some true->∀j:Nat,(((Region.before ops)[i]?).getD 0).testBit j=true->listed[j]?=some true
theorem WL{ops:Array Oper}{listed:Array Bool}{i:Nat}:i∈Region.ready .any ops listed↔i<ops.size/\listed.getD i true=false/\ ∃o,ops[i]?=some o/\ ∀e∈o.after,Region.binds .any e=true->listed.getD e.on false=true:=by
 unfold Region.ready;simp only[uM,fm,cH,kV];constructor
 .rintro ⟨h1,h2,h3⟩
  refine⟨h1,h2,ops[i],by simp[h1],fun e he hb=>?_⟩;have ho:ops[i]?=some ops[i]:=by simp[h1]
  rw[ho] at h3;simp only[jZ,mS,Array.all_eq_true'] at h3;have:=h3 e he;rw[hb] at this
  simpa using this
 rintro ⟨h1,h2,o,ho,h3⟩
 refine⟨h1,h2,?_⟩;rw[ho];simp only[jZ,mS,Array.all_eq_true'];intro e he;cases hb:Region.binds .any e with
 |false=>rfl
 |true=>simp[h3 e he hb]
theorem abQ{l:Array Bool}{i:Nat}(h:l.getD i true=false):l[i]?=some false:=by
 rw[Array.getD_eq_getD_getElem?] at h;cases he:l[i]? with
 |none=>rw[he] at h;simp at h
 |some b=>rw[he] at h;simp at h;rw[h]
theorem al9{l:Array Bool}{i:Nat}(h:l.getD i false=true):l[i]?=some true:=by
 rw[Array.getD_eq_getD_getElem?] at h;cases he:l[i]? with
 |none=>rw[he] at h;simp at h
 |some b=>rw[he] at h;simp at h;rw[h]
section
variable {G:World->Prop} (hG:Good G w0) {cp:fE} {cs:jF} (hP:DC P G cp) (hS:Fq P G cs) (hL:Ab cs) {sh:Ctx}
include hG hP hS hL
theorem aid{ops:Array Oper}(Eg:Hx ops=true){base nt:Nat}{Q:Exit->Act->World->Prop}{aD:Env}{ao:aq}:∀(fuel:Nat) {rem:List It} {listed:Array Bool} {ak:Env} {m:Mem} {a:Act},ahB P ops base nt rem listed->rem.length<=fuel->
  steps sh cp cs (rem.map (·.io)) ak m.aj=some (aD,ao,rem.map (·.e))->Ok w0 m->iW m ak a.tmps->a.tmps.size=nt->Ft w0 m a nt aD ao (fun a' w'=>Q .normal a' w')->wpAny P .any ops Q fuel listed a m.w:=by
 intro fuel
 induction fuel with
 |zero=>
  intro rem listed ak m a hl hlen cE au hr fM hK;have ans:rem=[]:=by
   cases rem with
   |nil=>rfl
   |cons _ _=>simp at hlen
  subst ans;simp only[kE,steps,fq,ko] at cE;obtain⟨rfl,rfl,_⟩:=cE;refine⟨?_,hK a m au (Ev.refl m) rfl rfl hr fM rfl⟩;refine List.eq_nil_iff_forall_not_mem.2 fun i hi=>?_;obtain⟨_,h2,_⟩:=WL.1 hi;obtain⟨p,hp,_⟩:=(hl.free i).1 (abQ h2);simp at hp
 |succ fuel ih=>
  intro rem listed ak m a hl hlen cE au hr fM hK;refine⟨fun am9=>?_,fun i hi=>?_⟩
  .cases rem with
   |nil=>simp only[kE,steps,fq,ko] at cE;obtain⟨rfl,rfl,_⟩:=cE;exact hK a m au (Ev.refl m) rfl rfl hr fM rfl
   |cons p rest=>
    exfalso;obtain⟨o,ho,_⟩:=hl.comp p af;have aw:p.i<ops.size:=(Array.getElem?_eq_some_iff.1 ho).1;have oZ:p.i∈Region.ready .any ops listed:=by
     refine WL.2 ⟨aw,?_,o,ho,fun e he hb=>?_⟩
     .rw[Array.getD_eq_getD_getElem?,(hl.free p.i).2 ⟨p,af,rfl⟩];rfl
     have MD:e.on<p.i:=by unfold Hx at Eg;have:=jf.1 Eg p.i (by simpa using aw);rw[ho] at this;rw[jf] at this;have:=this e (by simpa using he);simp only[hb,Bx,Bw,decide_eq_true_eq] at this;exact this
     have hs:e.on<listed.size:=by rw[hl.size];omega
     rw[Array.getD_eq_getD_getElem?];cases aV:listed[e.on] with
     |true=>simp[hs,aV]
     |false=>
      exfalso;obtain⟨q,hq,Ew⟩:=(hl.free e.on).1 (by simp[hs,aV]);rcases cM.1 hq with rfl|hq
      .omega
      have:=((ui.1 hl.pair).1 q hq).1;omega
    rw[am9] at oZ;simp at oZ
  obtain⟨h1,h2,o,ho,h3⟩:=WL.1 hi;obtain⟨p,hp,rfl⟩:=(hl.free i).1 (abQ h2);obtain⟨l1,l2,rfl⟩:=List.append_of_mem hp;obtain⟨o',lG,zn⟩:=hl.comp p hp;rw[ho] at lG;cases lG;have ab0:∀j:Nat,p.io.anc.testBit j=true->listed[j]?=some true:=by
   intro j hj;rw[Zg zn] at hj;obtain⟨e,he,hb,_,AQ⟩:=aiZ Eg ho hj;have MD:=al9 (h3 e he hb);rcases AQ with rfl|AQ
   .exact MD
   exact hl.closed _ MD j AQ
  have IT:=NW.1 hl.pair;have amQ:∀x∈l1,Od x p:=by
   intro x hx;rcases(IT.2.2 x hx p af).2 with h|h
   .have:=ab0 _ h;rw[(hl.free x.i).2 ⟨x,by simp[hx],rfl⟩] at this;cases this
   exact h
  obtain⟨ir,bG,gQ,eh⟩:=at2 hL cE amQ;have key:=agG (Q:=Q) (K:=wpAny P .any ops Q fuel (listed.setIfInBounds p.i true)) hG hP hS zn gQ au hr fM (fun a1 m1 k1 k2 k3 k4 k5 k6 k7=>by
   subst k4;have aw:p.i<listed.size:=by rw[hl.size];exact h1
   refine ih (rem:=l1++l2) ⟨?_,fun q hq=>hl.comp q (by rcases eF.1 hq with h|h<;>simp[h]),by simp[hl.size],fun k=>?_,fun k hk j hj=>?_⟩ (by simp at hlen ⊢;omega) eh k1 k5 k6 ?_
   .refine NW.2 ⟨IT.1,(ui.1 IT.2.1).2,fun x hx y hy=>IT.2.2 x hx y (by simp[hy])⟩
   .rw[Array.getElem?_setIfInBounds];by_cases hk:p.i=k
    .subst hk;rw[if_pos rfl,if_pos aw];constructor
     .intro h;cases h
     rintro ⟨q,hq,Ew⟩
     rcases eF.1 hq with h|h
     .have:=(IT.2.2 q h p af).1;omega
     have:=((ui.1 IT.2.1).1 q h).1;omega
    rw[if_neg hk,hl.free k];constructor
    .rintro ⟨q,hq,Ew⟩
     rcases eF.1 hq with h|h
     .exact⟨q,by simp[h],Ew⟩
     rcases cM.1 h with rfl|h
     .exact(hk Ew).elim
     exact⟨q,by simp[h],Ew⟩
    rintro ⟨q,hq,Ew⟩
    rcases eF.1 hq with h|h
    .exact⟨q,by simp[h],Ew⟩
    exact⟨q,by simp[h],Ew⟩
   .have vj:∀j:Nat,listed[j]?=some true->(listed.setIfInBounds p.i true)[j]?=some true:=by
     intro j hj;rw[Array.getElem?_setIfInBounds];split
     .first
       |rfl
       |(rename_i e;rw[if_pos aw])
     exact hj
    by_cases jH:p.i=k
    .subst jH;refine vj j (ab0 j ?_);rw[Zg zn];exact hj
    rw[Array.getElem?_setIfInBounds,if_neg jH] at hk;exact vj j (hl.closed k hk j hj)
   intro a2 m2 p1 p2 p3 p4 p5 p6 p7;exact hK a2 m2 p1 (k2.trans p2) (p3.trans k3) p4 p5 p6 (p7.trans k7))
  unfold wpOp;rw[ho];simp only;split at key
  .rename_i hw;rw[if_pos hw];exact .inl key
  rename_i hw;rw[if_neg hw];exact key
end
def sR:Nat->List bl->List bR->List It
 |i,x::xs,e::es=>⟨i,x,e⟩::sR (i+1) xs es
 |_,_,_=>[]
theorem apq:∀ {xs:List bl} {es:List bR} (i:Nat),es.length=xs.length->(sR i xs es).map (·.io)=xs/\(sR i xs es).map (·.e)=es:=by
 intro xs
 induction xs with
 |nil=>intro es i h;cases es with
  |nil=>exact⟨rfl,rfl⟩
  |cons _ _=>simp at h
 |cons x xs ih=>intro es i h;cases es with
  |nil=>simp at h
  |cons e es=>obtain⟨h1,h2⟩:=ih (es:=es) (i+1) (by simpa using h);exact⟨by simp[sR,h1],by simp[sR,h2]⟩
theorem alJ{o:bl}:∀ {past:List bl} {j:Nat},OW o j past=true->∀k x,past[k]?=some x->o.anc.testBit (j+k)=true\/FT x o=true:=by
 intro past
 induction past with
 |nil=>intro j _ k x h;simp at h
 |cons y past ih=>
  intro j h k x hk;simp only[OW,cH,By] at h;cases k with
  |zero=>simp at hk;subst hk;exact h.1
  |succ k=>have:=ih h.2 k x (by simpa using hk);rw[show j+(k+1)=j+1+k by omega];exact this
theorem apQ{anc:Nat}{e:bR}:∀ {past:List bR} {j:Nat},Qh anc e j past=true->∀k x,past[k]?=some x->anc.testBit (j+k)=true\/FD x e=false:=by
 intro past
 induction past with
 |nil=>intro j _ k x h;simp at h
 |cons y past ih=>
  intro j h k x hk;simp only[Qh,cH,By,kV] at h;cases k with
  |zero=>simp at hk;subst hk;exact h.1
  |succ k=>have:=ih h.2 k x (by simpa using hk);rw[show j+(k+1)=j+1+k by omega];exact this
theorem apr:∀ {xs:List bl} {es:List bR} {past:List bl} {pe:List bR},es.length=xs.length->pe.length=past.length->Lh xs past=true->tX xs pe es=true->
  (∀(q:It),q∈sR past.length xs es->∀(k:Nat) (x:bl) (e:bR),past[k]?=some x->pe[k]?=some e->q.io.anc.testBit k=true\/(FT x q.io=true/\FD e q.e=false))/\
  (∀q∈sR past.length xs es,past.length<=q.i)/\(sR past.length xs es).Pairwise fun p q=>p.i<q.i/\(q.io.anc.testBit p.i=true\/Od p q):=by
 intro xs
 induction xs with
 |nil=>
  intro es past pe _ _ _ _;have:sR past.length [] es=[]:=by cases es<;>rfl
  rw[this];exact⟨fun q h=>by simp at h,fun q h=>by simp at h,.nil⟩
 |cons x xs ih=>
  intro es past pe hl hp hf hd;cases es with
  |nil=>simp at hl
  |cons e es=>
   simp only[Lh,cH] at hf;simp only[tX,cH] at hd;obtain⟨i1,i2,i3⟩:=ih (es:=es) (past:=past++[x]) (pe:=pe++[e]) (by simpa using hl) (by simp[hp]) hf.2 hd.2;have hlen:(past++[x]).length=past.length+1:=af;rw[hlen] at i1 i2 i3;simp only[sR];refine⟨?_,?_,ui.2 ⟨?_,i3⟩⟩
   .intro q hq k y f hy hf';rcases cM.1 hq with rfl|hq
    .have h1:=alJ hf.1 k y hy;have h2:=apQ hd.1 k f hf';rw[iD] at h1 h2;rcases h1 with h1|h1
     .exact .inl h1
     rcases h2 with h2|h2
     .exact .inl h2
     exact .inr ⟨h1,h2⟩
    have hk:k<past.length:=(aS.1 hy).1;exact i1 q hq k y f (by rw[pS hk];exact hy) (by rw[pS aa];exact hf')
   .intro q hq;rcases cM.1 hq with rfl|hq
    .exact aX _
    have:=i2 q hq;omega
   intro q hq;refine⟨by have:=i2 q hq;simp only;omega,?_⟩;exact i1 q hq past.length x e af (by rw[<- hp];simp)
theorem apo{ops:Array Oper}{anc:Nat->Option Nat}{dst:Nat->Option Nat}{base nt:Nat}:∀ {r:List Oper} {xs:List bl} {es:List bR} {i:Nat},vT P dst anc base nt i r=some xs->es.length=xs.length->(∀j,ops[i+j]?=r[j]?)->
  (∀p∈sR i xs es,∃o,ops[p.i]?=some o/\DN P dst ((base+p.i)*64) nt ((anc p.i).getD 0) o=some p.io)/\ ∀k,i<=k->k<i+r.length->∃p∈sR i xs es,p.i=k:=by
 intro r
 induction r with
 |nil=>
  intro xs es i h _ _;simp only[vT,fq] at h;subst h;have:sR i [] es=[]:=by cases es<;>rfl
  rw[this];exact⟨fun p h=>by simp at h,fun k h1 h2=>by simp at h2;omega⟩
 |cons o r ih=>
  intro xs es i h hl ME;obtain⟨x,xs',rfl,h1,h2⟩:=SC h;cases es with
  |nil=>simp at hl
  |cons e es=>
   obtain⟨i1,i2⟩:=ih (es:=es) h2 (by simpa using hl) (fun j=>by have:=ME (j+1);rw[show i+1+j=i+(j+1) by omega];simpa using this);refine⟨fun p hp=>?_,fun k dV jH=>?_⟩
   .rcases cM.1 hp with rfl|hp
    .exact⟨o,by have:=ME 0;simpa using this,h1⟩
    exact i1 p hp
   by_cases hk:k=i
   .exact⟨⟨i,x,e⟩,by simp[sR],hk.symm⟩
   obtain⟨p,hp,iG⟩:=i2 k aa (by simp at jH;omega);exact⟨p,by simp[sR,hp],iG⟩
theorem aty{sh:Ctx}{cp:fE}{cs:jF}:∀ {xs:List bl} {ak aD:Env} {aj ao:aq} {es:List bR},steps sh cp cs xs ak aj=some (aD,ao,es)->es.length=xs.length:=by
 intro xs
 induction xs with
 |nil=>intro ak aD aj ao es h;simp only[steps,fq,ko] at h;rw[<- h.2.2];rfl
 |cons x xs ih=>
  intro ak aD aj ao es h;simp only[steps] at h;split at h
  .split at h
   .rename_i h2;cases h;simp[ih h2]
   cases h
  cases h
theorem ajL{dst anc:Nat->Option Nat}{base nt:Nat}:∀ {r:List Oper} {xs:List bl} {i:Nat},vT P dst anc base nt i r=some xs->xs.length=r.length:=by
 intro r
 induction r with
 |nil=>intro xs i h;simp only[vT,fq] at h;subst h;rfl
 |cons o r ih=>intro xs i h;obtain⟨x,xs',rfl,_,h2⟩:=SC h;simp[ih h2]
section
variable {G:World->Prop} (hG:Good G w0) {cp:fE} {cs:jF} (hP:DC P G cp) (hS:Fq P G cs) (hL:Ab cs) {sh:Ctx}
include hG hP hS hL
theorem akv(zw:P.follows .mixedOrders=true){ops:Array Oper}{base nt id:Nat}{Q:Exit->Act->World->Prop}{l:List bl}{ak aD:Env}{m:Mem}{ao:aq}{es:List bR}{a:Act}(hc:vT P (fun j=>(ops[j]?).bind (·.dst)) (fun i=>(Region.before ops)[i]?) base nt 0 ops.toList=some l)
  (Eg:Hx ops=true) (hf:Lh l []=true) (cE:steps sh cp cs l ak m.aj=some (aD,ao,es)) (hd:tX l [] es=true) (au:Ok w0 m) (hr:iW m ak a.tmps) (fM:a.tmps.size=nt) (hK:Ft w0 m a nt aD ao (fun a' w'=>Q .normal a' w')):(Code.region id ops true).wp P Q a m.w:=by
 refine wp_region_any zw ?_;have hlen:=aty cE;have mH:l.length=ops.size:=by have:=ajL hc;simpa using this
 obtain⟨g1,g2⟩:=apq 0 hlen;obtain⟨_,_,hp⟩:=apr (past:=[]) (pe:=[]) hlen rfl hf hd;obtain⟨c1,c2⟩:=apo (ops:=ops) hc hlen (fun j=>af);have nj:Ok w0 (m.later m.w.drew fun _=>False):=M4 au (fg.drew _) fun _ h=>h.elim;have u5:Ev m (m.later m.w.drew fun _=>False):=Je (fg.drew _) fun _ h=>h.elim;have kN:(m.later m.w.drew fun _=>False).fr=m.fr:=by funext c;simp[Mem.later]
 refine aid (m:=m.later m.w.drew fun _=>False) hG hP hS hL Eg ops.size (rem:=sR 0 l es) (base:=base) ⟨hp,c1,af,fun i=>?_,fun i hi=>?_⟩ ?_ (by rw[g1,g2];exact cE) nj (hr.ev u5) fM ?_
 .constructor
  .intro h;have hi:i<ops.size:=by
    have:=(Array.getElem?_eq_some_iff.1 h).1
    simpa using this
   exact c2 i (bd _) (by simpa using hi)
  rintro ⟨p,hp,rfl⟩
  obtain⟨o,ho,_⟩:=c1 p hp;have hi:p.i<ops.size:=(Array.getElem?_eq_some_iff.1 ho).1;simp[hi]
 .rw[Array.getElem?_replicate] at hi;split at hi<;>simp at hi
 .have:(sR 0 l es).length=l.length:=by have:=congrArg List.length g1;simpa using this
  omega
 intro a2 m2 p1 p2 p3 p4 p5 p6 p7;exact hK a2 m2 p1 (u5.trans p2) (p3.trans kN) p4 p5 p6 p7
end
end Go.Abs
namespace Go.Abs
variable {P:Program} {w0:World}
def toE:lz->Exit
 | .normal=>.normal
 | .exit i=>.exit i
 | .ret=>.ret
section
variable {G:World->Prop} (hG:Good G w0) {cp:fE} {cs:jF} (hP:DC P G cp) (hS:Fq P G cs) (hL:Ab cs) (zw:P.follows .mixedOrders=true) {sh:Ctx}
include hG hP hS hL zw
theorem ak8{n f nt:Nat}:∀(c:Code) {ic:aJ} {ak aD:Env} {m:Mem} {ao:aq} {e:lz} {a:Act} {Q:Exit->Act->World->Prop},oQ P f nt c=some ic->exec sh cp cs n ic ak m.aj=some (e,aD,ao)->Ok w0 m->iW m ak a.tmps->a.tmps.size=nt->
  Ft w0 m a nt aD ao (fun a' w'=>Q (toE e) a' w')->c.wp P Q a m.w:=by
 intro c
 induction c with
 |skip=>intro ic ak aD m ao e a Q hc hx au hr fM hK;simp only[oQ,fq] at hc;subst hc;simp only[exec,fq,ko] at hx;obtain⟨rfl,rfl,rfl⟩:=hx;exact wp_skip (hK a m au (Ev.refl m) rfl rfl hr fM rfl)
 |label l=>intro ic ak aD m ao e a Q hc hx au hr fM hK;simp only[oQ,fq] at hc;subst hc;simp only[exec,fq,ko] at hx;obtain⟨rfl,rfl,rfl⟩:=hx;exact wp_label (hK a m au (Ev.refl m) rfl rfl hr fM rfl)
 |ret=>intro ic ak aD m ao e a Q hc hx au hr fM hK;simp only[oQ,fq] at hc;subst hc;simp only[exec,fq,ko] at hx;obtain⟨rfl,rfl,rfl⟩:=hx;exact wp_ret (hK a m au (Ev.refl m) rfl rfl hr fM rfl)
 |exit id=>intro ic ak aD m ao e a Q hc hx au hr fM hK;simp only[oQ,fq] at hc;subst hc;simp only[exec,fq,ko] at hx;obtain⟨rfl,rfl,rfl⟩:=hx;exact wp_exit (hK a m au (Ev.refl m) rfl rfl hr fM rfl)
 |region id ops draw=>
  intro ic ak aD m ao e a Q hc hx au hr fM hK;simp only[oQ] at hc;split at hc
  .rename_i xs MT;cases draw with
   |false=>
    simp only[dx,if_false,fq] at hc;subst hc;simp only[exec] at hx;split at hx
    .rename_i e1 b1 es cE;simp only[dx,if_false,fq,ko] at hx;obtain⟨rfl,rfl,rfl⟩:=hx;exact arB hG hP hS MT cE au hr fM hK
    cases hx
   |true=>
    simp only[if_true] at hc MT;split at hc
    .rename_i Av;simp only[cH] at Av;cases hc;simp only[exec] at hx;split at hx
     .rename_i e1 b1 es cE;simp only[if_true] at hx;split at hx
      .rename_i hd;cases hx;exact akv hG hP hS hL zw MT Av.1 Av.2 cE hd au hr fM hK
      cases hx
     cases hx
    cases hc
  cases hc
 |seq x y ihx ihy=>
  intro ic ak aD m ao e a Q hc hx au hr fM hK;simp only[oQ] at hc;split at hc
  .rename_i ix iy h1 h2;cases hc;simp only[exec] at hx;refine wp_seq ?_;split at hx
   .rename_i ir bG sQ;refine ihx h1 sQ au hr fM ?_;intro a1 m1 k1 k2 k3 k4 k5 k6 k7;subst k4;refine ihy h2 hx k1 k5 k6 ?_;intro a2 m2 p1 p2 p3 p4 p5 p6 p7;exact hK a2 m2 p1 (k2.trans p2) (p3.trans k3) p4 p5 p6 (p7.trans k7)
   rename_i aF;refine ihx h1 hx au hr fM ?_;intro a1 m1 k1 k2 k3 k4 k5 k6 k7;have:=hK a1 m1 k1 k2 k3 k4 k5 k6 k7;cases e with
   |normal=>exact(aF aD ao hx).elim
   |exit i=>exact this
   |ret=>exact this
  cases hc
 |cond x p q ihp ihq=>
  intro ic ak aD m ao e a Q hc hx au hr fM hK;simp only[oQ] at hc;split at hc
  .rename_i c' ip iq h1 h2 h3;cases hc;simp only[exec] at hx;split at hx
   .rename_i t ht;have hv:=ek h1 hr;rw[ht] at hv;refine wp_cond (EG hv) ?_;cases t with
    |true=>simp only[if_true] at hx ⊢;exact ihp h2 hx au hr fM hK
    |false=>simp only[dx,if_false] at hx ⊢;exact ihq h3 hx au hr fM hK
   cases hx
  cases hc
 |block id c ih=>
  intro ic ak aD m ao e a Q hc hx au hr fM hK;simp only[oQ,dC] at hc;obtain⟨ic',h1,rfl⟩:=hc;simp only[exec] at hx;refine wp_block ?_;split at hx
  .rename_i i ir bG sQ;refine ih h1 sQ au hr fM ?_;intro a1 m1 k1 k2 k3 k4 k5 k6 k7;simp only[toE,Exit.inBlock];split at hx
   .rename_i hi;cases hx;rw[if_pos hi];exact hK a1 m1 k1 k2 k3 k4 k5 k6 k7
   rename_i hi;cases hx;rw[if_neg hi];exact hK a1 m1 k1 k2 k3 k4 k5 k6 k7
  rename_i aF;refine ih h1 hx au hr fM ?_;intro a1 m1 k1 k2 k3 k4 k5 k6 k7;have:=hK a1 m1 k1 k2 k3 k4 k5 k6 k7;cases e with
  |normal=>exact this
  |exit i=>exact(aF i aD ao hx).elim
  |ret=>exact this
 |loop c ih=>
  intro ic ak aD m ao e a Q hc hx au hr fM hK;simp only[oQ,dC] at hc;obtain⟨ic',h1,rfl⟩:=hc;simp only[exec] at hx;refine wp_loop_rounds n ?_;have key:∀(k:Nat) {ak:Env} {m:Mem} {a:Act},iter (exec sh cp cs n ic') k ak m.aj=some (e,aD,ao)->Ok w0 m->iW m ak a.tmps->a.tmps.size=nt->Ft w0 m a nt aD ao (fun a' w'=>Q (toE e) a' w')->Code.rounds P c Q k a m.w:=by
   intro k
   induction k with
   |zero=>intro ak m a hx;simp[iter] at hx
   |succ k ihk=>
    intro ak m a hx au hr fM hK;rw[rounds_succ];simp only[iter] at hx;split at hx
    .rename_i ir bG sQ;refine ih h1 sQ au hr fM ?_;intro a1 m1 k1 k2 k3 k4 k5 k6 k7;subst k4;refine ihk hx k1 k5 k6 ?_;intro a2 m2 p1 p2 p3 p4 p5 p6 p7;exact hK a2 m2 p1 (k2.trans p2) (p3.trans k3) p4 p5 p6 (p7.trans k7)
    rename_i aF;refine ih h1 hx au hr fM ?_;intro a1 m1 k1 k2 k3 k4 k5 k6 k7;have:=hK a1 m1 k1 k2 k3 k4 k5 k6 k7;cases e with
    |normal=>exact(aF aD ao hx).elim
    |exit i=>exact this
    |ret=>exact this
  exact key n hx au hr fM hK
 |scope c ih=>intro ic ak aD m ao e a Q hc hx au hr fM hK;simp only[oQ] at hc;refine wp_scope_straight ?_;refine ih hc hx au hr fM ?_;intro a1 m1 k1 k2 k3 k4 k5 k6 k7;have:=hK a1 m1 k1 k2 k3 k4 k5 k6 k7;cases e<;>exact this
 |_=>intro ic ak aD m ao e a Q hc hx;simp only[oQ,fq] at hc;subst hc;simp[exec] at hx
end
end Go.Abs
namespace Go.Abs
variable {P:Program} {w0:World}
section
variable{m:Mem}
theorem atQ{k:Option Nat}{cs:List C}{v:V}{u:Value}(h:pP k cs=some v)(hr:bJ m v u):nH m v u:=by
 unfold pP at h;split at h
 .split at h
  .cases h;exact hr
  cases h
 split at h
 .cases h;exact hr
 cases h
theorem apH{x v:V}{u:Value}(h:Qf x=some v)(hr:bJ m x u):nH m v u:=by cases x<;>simp only[Qf,fq,reduceCtorEq] at h<;>subst h<;>exact hr
theorem aet{α β:Type}{f:α->Sem β}{x:α}{xs:List α}{y:β}{ys:List β}{w:World}(h1:(f x).run P w=.ok y w)(h2:(xs.mapM f).run P w=.ok ys w):((x::xs).mapM f).run P w=.ok (y::ys) w:=by simp only[List.mapM_cons,Sem.run_bind,h1,h2,Result.andThen_ok,Sem.run_pure]
theorem arI{al:Al}(au:Ok w0 m){ak:Env}{tmps:Array Value}(hr:iW m ak tmps):∀ {rs:List ResultVar} {l:List (Nat×Option (Option Nat))} {vs:List V},Bg P rs=some l->oz al ak m.aj l=some vs->
  ∃ys,(rs.mapM (fun| .tmp t=>pure (tmps.getD t undef)| .cell a t=>do loadVar t (<- asAddr (tmps.getD a undef)):ResultVar->Sem Value)).run P m.w=.ok ys m.w/\Pw (nH m) vs ys:=by
 intro rs
 induction rs with
 |nil=>intro l vs h1 h2;simp only[Bg,fq] at h1;subst h1;simp only[oz,fq] at h2;subst h2;exact⟨[],by simp[Sem.run_pure],rfl,fun j x u p=>by simp at p⟩
 |cons r rs ih=>
  intro l vs h1 h2;have cons:∀ {x:V} {xs:List V} {y:Value} {ys:List Value},nH m x y->Pw (nH m) xs ys->Pw (nH m) (x::xs) (y::ys):=by
   intro x xs y ys p q;refine⟨by simp[q.1],fun j z u a b=>?_⟩;cases j with
   |zero=>simp at a b;subst a b;exact p
   |succ j=>exact q.2 j z u (by simpa using a) (by simpa using b)
  cases r with
  |tmp t=>
   simp only[Bg,dC] at h1;obtain⟨l',h3,rfl⟩:=h1;simp only[oz] at h2;split at h2
   .rename_i v q e1 e2;cases h2;obtain⟨ys,g1,g2⟩:=ih h3 e2;exact⟨_::ys,aet (by simp[Sem.run_pure]) g1,cons (apH e1 (hr t)) g2⟩
   cases h2
  |cell a t=>
   simp only[Bg] at h1;split at h1
   .rename_i k q e1 e2;cases h1;simp only[oz] at h2;split at h2
    .rename_i cs rd ws e3 e4;split at h2
     case isFalse=>cases h2
     simp only[dC] at h2;obtain⟨v,hv,rfl⟩:=h2;obtain⟨ys,g1,g2⟩:=ih e2 e4;obtain⟨ad,y,p1,p2,p3⟩:=aeb e1 (afF au e3 (hr a)) hv;exact⟨y::ys,aet (by simp[p1,asAddr,p2]) g1,cons (atQ hv p3) g2⟩
    cases h2
   cases h1
theorem arJ{al:Al}(au:Ok w0 m){ak:Env}{tmps:Array Value}(hr:iW m ak tmps){fn:Func}{l:List (Nat×Option (Option Nat))}{vs:List V}(h1:Bg P fn.results.toList=some l)(h2:oz al ak m.aj l=some vs):
  ∃y,(results fn tmps).run P m.w=.ok y m.w/\bJ m (zV vs) y:=by
 obtain⟨ys,g1,g2⟩:=arI au hr h1 h2;have jV:(results fn tmps).run P m.w=.ok (if h:ys.toArray.size=1 then ys.toArray[0] else .tuple ys.toArray) m.w:=by
  unfold results;simp only[Array.mapM_eq_mapM_toList,map_eq_pure_bind,Sem.run_bind,Result.andThen_ok,Sem.run_pure,bind_assoc,pure_bind]
  erw[g1]
  simp only[Result.andThen_ok,Sem.run_pure]
 refine⟨_,jV,?_⟩
 match vs,ys,g2 with
 |[v],[y],g2=>exact bJ.of1 (g2.2 0 v y rfl rfl)
 |[],[],g2=>exact⟨_,rfl,rfl,fun j x u p=>by simp at p⟩
 |v::v'::vs,y::y'::ys,g2=>refine⟨_,rfl,by simpa using g2.1,fun j x u p q=>g2.2 j x u p (by simpa using q)⟩
 |[],y::ys,g2=>exact absurd g2.1 af
 |v::vs,[],g2=>exact absurd g2.1 af
 |[v],y::y'::ys,g2=>exact absurd g2.1 af
 |v::v'::vs,[y],g2=>exact absurd g2.1 af
theorem Ze{f:Nat}{fn:aW}(h:Af P f=some fn):∃kf c,P.funcs[f]?=some kf/\kf.body=some c/\(kf.name== "runtime.NumGoroutine")=false/\oQ P f kf.ntmps c=some fn.body/\Bg P kf.results.toList=some fn.results/\fn.ntmps=kf.ntmps:=by
 unfold Af at h;split at h
 .cases h
 rename_i kf hf;split at h
 .cases h
 rename_i c hc;split at h
 .cases h
 rename_i hn;split at h
 .rename_i b r h1 h2;cases h;exact⟨kf,c,hf,hc,by simpa using hn,h1,h2,rfl⟩
 cases h
def XK(S:Sys)(G:World->Prop):Prop:=∀f vs r,S.prim f vs=some (some r)->Enters S.P f/\ ∀(w:World) (O:Nat->Prop) (args:Array Value),Good G w->(∀c,O c->c<w.heap.size)->Pw (sk w O) vs args.toList->Calls S.P f args w (uP w O r)
def ahE(S:Sys)(G:World->Prop):Prop:=∀f vs al aj v ao,S.trig f vs=true->(S.primS f vs al aj).map (fun r=>(r.1,app r.2 aj))=some (v,ao)->
 (Enters S.P f/\ ∀(w0:World) (m:Mem) (args:Array Value),Good G w0->Ok w0 m->m.aj=aj->Pw (bJ m) vs args.toList->Calls S.P f args m.w (Ht w0 m v ao))/\
 (∀id,al.ok id=false->ao id=aj id)/\
 ∀aZ,(∀id,al.ok id=true->aZ id=aj id)->∃lV,(S.primS f vs al aZ).map (fun r=>(r.1,app r.2 aZ))=some (v,lV)/\ ∀id,lV id=if al.ok id then ao id else aZ id
structure Hv (S:Sys) (G:World->Prop):Prop where
 follow:S.P.follows .mixedOrders=true
 fns:∀f fn,S.fns f=some fn->Af S.P f=some fn
 prim:XK S G
 primS:ahE S G
theorem atq{vs:List V}{args:Array Value}{nt:Nat}(h:Pw (bJ m) vs args.toList)(hl:vs.length<=nt):iW m (rX vs) (args++Array.replicate (nt-args.size) undef)/\(args++Array.replicate (nt-args.size) undef).size=nt:=by
 have hs:args.size=vs.length:=by simpa using h.1
 constructor
 .intro t;by_cases ht:t<vs.length
  .have h1:rX vs t=vs[t]:=by simp[rX,List.getD,ht]
   have h2:(args++Array.replicate (nt-args.size) undef).getD t undef=args[t]:=by simp[Array.getD_eq_getD_getElem?,Array.getElem?_append,hs,ht]
   rw[h1,h2];exact h.2 t _ _ (by simp[ht]) (by simp[hs,ht])
  have h1:rX vs t=.undef:=by simp[rX,List.getD,lS (Nat.le_of_not_lt ht)]
  have h2:(args++Array.replicate (nt-args.size) undef).getD t undef=undef:=by simp only[Array.getD_eq_getD_getElem?,Array.getElem?_append,hs,if_neg ht];rw[Array.getElem?_replicate];split<;>rfl
  rw[h1,h2];rfl
 simp;omega
theorem aih(au:Ok w0 m):∀ {o q:List Nat},apart o q=true->(∀id∈o,∃ob,(m.aj id).2=some ob/\ob.fh=true)->(o.map m.σ).Nodup/\ ∀id∈q,id∉o:=by
 intro o
 induction o with
 |nil=>intro q _ _;exact⟨af,fun id _ h=>by simp at h⟩
 |cons i o ih=>
  intro q h hm;simp only[apart,cH,kV] at h;obtain⟨⟨h1,h2⟩,h3⟩:=h;obtain⟨i1,i2⟩:=ih h3 (fun id hid=>hm id (by simp[hid]));have sF:i∉o:=by simpa using h1
  have mz:i∉q:=by simpa using h2
  refine⟨?_,fun id hid=>?_⟩
  .rw[dG,sa];refine⟨fun oZ=>?_,i1⟩;obtain⟨j,hj,he⟩:=dq.1 oZ;obtain⟨ob,a1,a2⟩:=hm i af;obtain⟨ob',b1,b2⟩:=hm j (by simp[hj]);exact sF (au.inj j i ob' ob b1 b2 a1 a2 he▸hj)
  simp only[cM,not_or];exact⟨fun e=>mz (e▸hid),i2 id hid⟩
theorem ap1{aj:aq}:∀ {cs:List C} {rs:List RC} {o q:List Nat},lM aj cs=some (rs,o,q)->rs.length=cs.length:=by
 intro cs
 induction cs with
 |nil=>intro rs o q h;simp only[lM,fq,ko] at h;obtain⟨rfl,_,_⟩:=h;rfl
 |cons c cs ih=>
  intro rs o q h;simp only[lM] at h;split at h
  .rename_i x o1 q1 xs os qs h1 h2;cases h;simp[ih h2]
  cases h
theorem Zc{α β:Type}{f:α->Option (β×List Nat)}:∀ {xs:List α} {ys:List β} {r:List Nat},collect f xs=some (ys,r)->∀id∈r,∃x y q,f x=some (y,q)/\id∈q:=by
 intro xs
 induction xs with
 |nil=>intro ys r h id hid;simp[collect] at h;rw[h.2] at hid;simp at hid
 |cons x xs ih=>
  intro ys r h id hid;simp only[collect] at h;split at h
  .rename_i b p bs q e1 e2;cases h;rcases eF.1 hid with hid|hid
   .exact⟨x,b,p,e1,hid⟩
   exact ih e2 id hid
  cases h
theorem ate{aj:aq}:∀ {n:Nat} {c:C} {x:PV} {r:List Nat},snap aj n c=some (x,r)->∀id∈r,∃ob,(aj id).2=some ob:=by
 intro n
 induction n with
 |zero=>intro c x r h;simp[snap] at h
 |succ n ih=>
  intro c x r h id hid;have one:∀ {i:Nat} {ob:Ob} {g:Nat},aj i=(g,some ob)->id∈[i]->∃ob,(aj id).2=some ob:=by intro i ob g hb hi;simp at hi;subst hi;exact⟨ob,by rw[hb]⟩
  have coll:∀ {cs:List C} {ps:List PV} {r:List Nat},collect (snap aj n) cs=some (ps,r)->id∈r->∃ob,(aj id).2=some ob:=by intro cs ps r h hi;obtain⟨x,y,q,h1,h2⟩:=Zc h id hi;exact ih h1 id h2
  unfold snap at h;split at h
  .cases h;simp at hid
  .split at h
   .rename_i hb;split at h
    .split at h
     .rename_i hc;cases h;rcases cM.1 hid with e|hid
      .exact one hb (by simp[e])
      exact coll hc hid
     cases h
    cases h
   .rename_i hb;split at h
    .cases h;exact one hb hid
    cases h
   cases h
  .split at h
   .rename_i hb;split at h
    .simp only[dC] at h;obtain⟨e,_,h2⟩:=h;cases h2;exact one hb hid
    cases h
   .rename_i hb;split at h
    .simp only[dC] at h;obtain⟨e,_,h2⟩:=h;cases h2;exact one hb hid
    cases h
   cases h
  .split at h
   .rename_i hb;split at h
    .cases h;exact one hb hid
    cases h
   .rename_i hb;split at h
    .cases h;exact one hb hid
    cases h
   .rename_i hb;split at h
    .split at h
     .rename_i hc;cases h;rcases cM.1 hid with e|hid
      .exact one hb (by simp[e])
      obtain⟨x,y,q,h1,h2⟩:=Zc hc id hid;exact coll h1 h2
     cases h
    cases h
   cases h
  .split at h
   .rename_i hb;split at h
    .cases h;exact one hb hid
    cases h
   .rename_i hb;split at h
    .cases h;exact one hb hid
    cases h
   cases h
  split at h
  .rename_i h1 h2;cases h;rcases eF.1 hid with hid|hid
   .exact coll h1 hid
   exact coll h2 hid
  cases h
theorem ap2{aj:aq}:∀ {cs:List C} {rs:List RC} {o q:List Nat},lM aj cs=some (rs,o,q)->∀id∈q,∃ob,(aj id).2=some ob:=by
 intro cs
 induction cs with
 |nil=>intro rs o q h id hid;simp only[lM,fq,ko] at h;rw[<- h.2.2] at hid;simp at hid
 |cons c cs ih=>
  intro rs o q h id hid;simp only[lM] at h;split at h
  .rename_i x o1 q1 xs os qs h1 h2;cases h;rcases eF.1 hid with hid|hid
   .have sn:(snap aj eL c).map (fun(v,r)=>((.p v:RC),([]:List Nat),r))=some (x,o1,q1)->∃ob,(aj id).2=some ob:=by
     intro h1;simp only[dC] at h1;obtain⟨⟨y,r⟩,h3,h4⟩:=h1;cases h4;exact ate h3 id hid
    unfold jc at h1;split at h1
    .cases h1;simp at hid
    .split at h1
     .split at h1
      .cases h1;simp at hid
      cases h1
     exact sn h1
    exact sn h1
   exact ih h2 id hid
  cases h
theorem ap5{w:World}{O:Nat->Prop}{m0:Mem}(au:Ok w m)(dL:Ev m0 m)(rV:m0.w=w)(Vw:∀c,¬m0.fh c)(kN:m.fr=O){v:V}{r:RV}{val:Value}(h:iA m.aj v=some r)(hr:bJ m v val):uP w O r (.returned val) m.w:=by
 unfold iA at h;split at h
 .rename_i cs cY;split at h
  .rename_i rs o q ho;split at h
   .rename_i oY;cases h;obtain⟨vs,hc,iw⟩:=aly cY hr;obtain⟨g1,g2⟩:=iw rs (ap1 ho);have hm:=(ae9 au (Q:=fun _=>False) (fun _ h=>h.elim) ho hc (fun _ _ h=>h)).2;obtain⟨iS,amF⟩:=aih au oY hm;have abZ:∀b,(O b\/b∈o.map m.σ)->m.own b:=by
     intro b hb;rcases hb with hb|hb
     .exact .inl (kN▸hb)
     obtain⟨id,hid,rfl⟩:=dq.1 hb;obtain⟨ob,h1,h2⟩:=hm id hid;exact .inr ⟨id,ob,h1,h2,rfl⟩
    have hq:∀id∈q,¬(O (m.σ id)\/m.σ id∈o.map m.σ):=by
     intro id hid hn;obtain⟨ob,hob⟩:=ap2 ho id hid;by_cases IP:ob.fh=true
     .rcases hn with hn|hn
      .exact(au.fZ id ob hob IP).2 (kN▸hn)
      obtain⟨j,hj,he⟩:=dq.1 hn;obtain⟨ob',b1,b2⟩:=hm j hj;exact amF id hid (au.inj j id ob' ob b1 b2 hob IP he▸hj)
     have dz:¬m.own (m.σ id):=by
      have AQ:=au.obj id ob hob;cases ob<;>simp[Ob.fh] at IP
      .obtain⟨_,_,_,_,_,dz⟩:=AQ;exact dz
      .obtain⟨_,_,_,_,_,_,_,_,_,dz⟩:=AQ;exact dz
      obtain⟨_,_,_,_,_,dz⟩:=AQ;exact dz
     exact dz (abZ _ hn)
    obtain⟨tP,_⟩:=ae9 au abZ ho hc hq;subst rV;refine⟨val,o.map m.σ,rfl,⟨dL.os,dL.tape,dL.output,dL.size,fun c hc=>dL.keep c hc (Vw c)⟩,iS,fun c hc=>?_,vs,g2,by rw[g1];exact tP⟩;obtain⟨id,hid,rfl⟩:=dq.1 hc;obtain⟨ob,h1,h2⟩:=hm id hid;exact⟨(au.fZ id ob h1 h2).1,(au.obj id ob h1).lt⟩
   cases h
  cases h
 cases h
theorem sk.vrel{w:World}{O:Nat->Prop}(hw:m.w=w)(ho:m.own=O){x:V}{v:Value}(h:sk w O x v):bJ m x v:=by
 subst hw ho;cases x with
 |undef=>exact h.elim
 |tup _=>exact h.elim
 |one c=>
  cases c with
  |p x=>exact mg h
  |_=>exact h.elim
 |agg cs=>obtain⟨arr,ps,rfl,rfl,hp⟩:=h;exact bJ.agg.2 ⟨arr,rfl,hp.Dl⟩
theorem ar2{sh:Ctx}{cp:fE}{cs:jF}{n:Nat}{fn:aW}{args:List V}{aj ao:aq}{v:V}(h:ru sh cp cs n fn args aj=some (v,ao)):
  ∃e ak vs,exec sh cp cs n fn.body (rX args) aj=some (e,ak,ao)/\(e=.normal\/e=.ret)/\oz sh.al ak ao fn.results=some vs/\v=zV vs:=by
 unfold ru at h;split at h
 .rename_i ak b hx;simp only[dC] at h;obtain⟨vs,h1,h2⟩:=h;cases h2;exact⟨_,ak,vs,hx,.inl rfl,h1,rfl⟩
 .rename_i ak b hx;simp only[dC] at h;obtain⟨vs,h1,h2⟩:=h;cases h2;exact⟨_,ak,vs,hx,.inr rfl,h1,rfl⟩
 cases h
theorem af4{G:World->Prop}(hG:Good G w0){cp:fE}{cs:jF}(hP:DC P G cp)(hS:Fq P G cs)(hL:Ab cs)(zw:P.follows .mixedOrders=true){sh:Ctx}{n f:Nat}{fn:aW}(hc:Af P f=some fn){vs:List V}{m:Mem}{v:V}{ao:aq}{args:Array Value}(h:ru sh cp cs n fn vs m.aj=some (v,ao))
  (hl:vs.length<=fn.ntmps) (au:Ok w0 m) (ha:Pw (bJ m) vs args.toList):Calls P f args m.w (Ht w0 m v ao):=by
 obtain⟨kf,c,h1,h2,h3,h4,h5,h6⟩:=Ze hc;obtain⟨e,ak,rs,hx,he,AS,rfl⟩:=ar2 h;refine calls_of_wp h1 h2 ?_;obtain⟨s1,s2⟩:=atq (nt:=kf.ntmps) ha (by rw[<- h6];exact hl);refine ak8 hG hP hS hL zw c h4 hx au s1 s2 ?_;intro a' m' k1 k2 k3 k4 k5 k6 k7;subst k4;obtain⟨y,g1,g2⟩:=arJ k1 k5 h5 AS;have:bodyPost P kf (Ht w0 m (zV rs) m'.aj) .normal a' m'.w:=⟨k7,y,g1,y,m',rfl,rfl,k1,k2,k3,rfl,g2⟩;rcases he with rfl|rfl
 .exact this
 exact this
theorem enters_of{f:Nat}{fn:aW}(hc:Af P f=some fn):Enters P f:=by obtain⟨kf,c,h1,h2,h3,_⟩:=Ze hc;exact⟨kf,c,h1,h2,h3⟩
theorem sound{S:Sys}{G:World->Prop}(h:Hv S G):∀n,DC S.P G (gh S n)/\Fq S.P G (gj S n)/\Ab (gj S n):=by
 intro n
 induction n with
 |zero=>exact⟨fun f vs r h=>by simp[gh] at h,fun f vs al aj v ao h=>by simp[gj] at h,fun f vs al aj v ao h=>by simp[gj] at h⟩
 |succ n ih=>
  obtain⟨hP,hS,hL⟩:=ih;refine⟨?_,?_,?_⟩
  .intro f vs r hc;rw[gh] at hc;split at hc
   .rename_i r' hp;subst hc;exact h.prim f vs r hp
   split at hc
   .rename_i fn hfn;have uY:=h.fns f fn hfn;split at hc
    .rename_i hl;refine⟨enters_of uY,fun w O args hG hO ha=>?_⟩;unfold EU at hc;split at hc
     .rename_i v ao hr
      let m0:Mem:=⟨w,zO,fun _=>0,fun _=>0,O⟩
      have ann:m0.own=O:=by
       funext c;apply propext;constructor
       .rintro (h|⟨id,o,h,_⟩)
        .exact h
        cases h
       exact .inl
      have au:Ok w m0:=⟨rfl,rfl,rfl,aX _,fun _ _=>rfl,(fun id o h=>by cases h),(fun id o h=>by cases h),hO,(fun id eO o o' h=>by cases h)⟩;have hav:Pw (bJ m0) vs args.toList:=⟨ha.1,fun j x u p q=>(ha.2 j x u p q).vrel rfl ann⟩;refine(af4 hG hP hS hL h.follow uY (m:=m0) hr hl au hav).mono ?_;rintro e w' ⟨val,m',rfl,rfl,q1,q2,q3,q4,q5⟩
      subst q4;exact ap5 (m0:=m0) q1 q2 rfl (fun c ⟨id,o,h,_⟩=>by cases h) q3 hc q5
     cases hc
    cases hc
   cases hc
  .intro f vs al aj v ao hc;rw[gj] at hc;by_cases ht:S.trig f vs=true
   .rw[if_pos ht] at hc;exact(h.primS f vs al aj v ao ht hc).1
   rw[if_neg ht] at hc;split at hc
   .rename_i fn hfn;have uY:=h.fns f fn hfn;split at hc
    .rename_i hl;refine⟨enters_of uY,fun w0 m args hG au hb ha=>?_⟩;subst hb;exact af4 hG hP hS hL h.follow uY hc hl au ha
    cases hc
   cases hc
  intro f vs al aj v ao hc;rw[gj] at hc;by_cases ht:S.trig f vs=true
  .rw[if_pos ht] at hc;obtain⟨_,l1,l2⟩:=h.primS f vs al aj v ao ht hc;refine⟨l1,fun aZ h2=>?_⟩;obtain⟨b3,h3,h4⟩:=l2 aZ h2;exact⟨b3,by rw[gj,if_pos ht];exact h3,h4⟩
  rw[if_neg ht] at hc;split at hc
  .rename_i fn hfn;split at hc
   .rename_i hl;obtain⟨l1,l2⟩:=ar1 hL hc;refine⟨l1,fun aZ h2=>?_⟩;obtain⟨b3,h3,h4⟩:=l2 aZ h2;exact⟨b3,by rw[gj,if_neg ht];simp only[hfn,hl,if_true];exact h3,h4⟩
   cases hc
  cases hc
theorem aI.calls{S:Sys}{G:World->Prop}(h:Hv S G){f:Nat}{vs:List V}{r:RV}(hc:aI S f vs r)(w:World)(hG:Good G w)(args:Array Value)(ha:Pw (sk w fun _=>False) vs args.toList):Calls S.P f args w (uP w (fun _=>False) r):=by obtain⟨n,hn⟩:=hc;exact((sound h n).1 f vs r hn).2 w _ args hG (fun c h=>h.elim) ha
end
end Go.Abs
namespace Go.Abs
section
variable{args:List V}{sh:Ctx}{cs:jF}{cp:fE}
def Ci(op:BinOp)(a b:Nat)(other:Option V):Option V:=
 match op with
 | .add=>bif Nat.ble (Nat.add a b) 9223372036854775807 then some (.one (.p (.int .i64 (.ofNat (Nat.add a b))))) else other
 | .sub=>bif Nat.ble b a then bif Nat.ble a 9223372036854775807 then some (.one (.p (.int .i64 (.ofNat (Nat.sub a b))))) else other else other
 | .mul=>bif Nat.ble (Nat.mul a b) 9223372036854775807 then some (.one (.p (.int .i64 (.ofNat (Nat.mul a b))))) else other
 | .eql=>some (.one (.p (.bool (Nat.beq a b))))
 | .neq=>some (.one (.p (.bool (!Nat.beq a b))))
 | .lss=>some (.one (.p (.bool (Nat.ble (Nat.succ a) b))))
 | .leq=>some (.one (.p (.bool (Nat.ble a b))))
 | .gtr=>some (.one (.p (.bool (Nat.ble (Nat.succ b) a))))
 | .geq=>some (.one (.p (.bool (Nat.ble b a))))
 | .rem=>bif Nat.beq b 0 then other else some (.one (.p (.int .i64 (.ofNat (Nat.mod a b)))))
 |_=>other
def Sk(op:BinOp)(x y:V):Option V:=
 match x,y with
 | .one (.p (.int .i64 (.ofNat a))),.one (.p (.int .i64 (.ofNat b)))=>Ci op a b (qI op x y)
 |_,_=>qI op x y
theorem NP{n:Nat}(h:n<=9223372036854775807):IntKind.i64.wrap (n:Int)=n:=by have e:(2 ^ IntKind.i64.bits:Int)=18446744073709551616:=ae;have e2:(2 ^ (IntKind.i64.bits-1):Int)=9223372036854775808:=ae;unfold IntKind.wrap;simp only[e,e2];have h1:(n:Int)%18446744073709551616=n:=aa;rw[h1];have h2:¬(n:Int)≥9223372036854775808:=aa;simp[h2]
theorem ali(op:BinOp)(a b:Nat):Ci op a b (qI op (.one (.p (.int .i64 (.ofNat a)))) (.one (.p (.int .i64 (.ofNat b)))))=qI op (.one (.p (.int .i64 (.ofNat a)))) (.one (.p (.int .i64 (.ofNat b)))):=by
 have hb:∀ {x:Bool} {u v w:Option V},(x=true->u=w)->v=w->(bif x then u else v)=w:=by
  intro x u v w h1 h2;cases x with
  |false=>exact h2
  |true=>exact h1 rfl
 have ofn:∀n:Nat,(Int.ofNat n:Int)=(n:Int):=fun _=>rfl;have ble:∀ {a b:Nat},Nat.ble a b=decide ((a:Int)<=(b:Int)):=by
  intro a b;cases h:Nat.ble a b with
  |true=>have:=gY h;symm;simp;omega
  |false=>
   symm;simp;have:¬a<=b:=fun hh=>by rw[Nat.ble_eq_true_of_le hh] at h;cases h
   omega
 have beq:∀ {a b:Nat},Nat.beq a b=((a:Int)==(b:Int)):=by
  intro a b;by_cases h:a=b
  .subst h;simp
  have h1:Nat.beq a b=false:=by
   cases e:Nat.beq a b with
   |false=>rfl
   |true=>exact(h (vK e)).elim
  rw[h1];symm;simp;omega
 cases op
 case add=>refine hb (fun h=>?_) rfl;have h:a+b<=9223372036854775807:=gY h;have:((a:Int)+(b:Int))=((a+b:Nat):Int):=aa;simp only[qI,tn,true_or,if_true,jZ,ofn];rw[this,NP h];rfl
 case sub=>refine hb (fun h0=>hb (fun h=>?_) rfl) rfl;have h:=gY h;have h0:=gY h0;have:((a:Int)-(b:Int))=((a-b:Nat):Int):=aa;simp only[qI,tn,true_or,if_true,jZ,ofn];rw[this,NP aa];rfl
 case mul=>refine hb (fun h=>?_) rfl;have h:a*b<=9223372036854775807:=gY h;have:((a:Int)*(b:Int))=((a*b:Nat):Int):=af;simp only[qI,tn,true_or,if_true,jZ,ofn];rw[this,NP h];rfl
 case rem=>
  by_cases h0:b=0
  .subst h0;rfl
  have h1:Nat.beq b 0=false:=by
   cases e:Nat.beq b 0 with
   |false=>rfl
   |true=>exact(h0 (vK e)).elim
  have h2:¬(b:Int)=0:=aa;simp only[Ci,h1,cond_false,qI,tn,true_or,if_true,jZ,ofn,if_neg h2];rfl
 case eql=>simp only[Ci,qI,tn,true_or,if_true,jZ,ofn,beq]
 case neq=>simp only[Ci,qI,tn,true_or,if_true,jZ,ofn,beq];rfl
 case lss=>simp only[Ci,qI,tn,true_or,if_true,jZ,ofn,ble];congr 4
 case leq=>simp only[Ci,qI,tn,true_or,if_true,jZ,ofn,ble]
 case gtr=>simp only[Ci,qI,tn,true_or,if_true,jZ,ofn,ble];congr 4
 case geq=>simp only[Ci,qI,tn,true_or,if_true,jZ,ofn,ble]
 all_goals rfl
theorem ajc(op:BinOp)(x y:V):Sk op x y=qI op x y:=by
 unfold Sk;split
 .exact ali _ _ _
 rfl
def BN(v:V):Option Nat:=
 match v with
 | .one (.p (.int _ (.ofNat n)))=>some n
 |v=>oN v
theorem Yg(v:V):BN v=oN v:=by
 unfold BN;split
 .simp[oN]
 rfl
def HH(ak:Env)(d:Nat):Option aQ->Option Nat
 |none=>some d
 |some a=>BN (ev ak a)
theorem ajd(ak:Env)(d:Nat)(a:Option aQ):HH ak d a=rF ak d a:=by
 cases a with
 |none=>rfl
 |some a=>simp only[HH,rF,Yg]
def aqQ(ak:Env)(x:aQ):eX:=.done (ev ak x) [] []
def aqU(ak:Env)(c:aQ)(a:aQ)(b:aQ):eX:=match ev ak c with
  | .one (.p (.bool t))=>.done (if t then ev ak a else ev ak b) [] []
  |_=>.fail
def aqt(aj:aq)(s:Nat)(z:List PV):eX:=.done (.one (.bk s ((aj s).1+1) 0)) [(s,((aj s).1+1,some (.var (z.map .p))))] [s]
def aqw(ak:Env)(aj:aq)(s:Nat)(x:aQ):eX:=match rG (ev ak x) with
  |some cs=>.done (.one (.bk s ((aj s).1+1) 0)) [(s,((aj s).1+1,some (.var cs)))] [s]
  |none=>.fail
def aqz(ak:Env)(z:List PV)(ps:List (Nat×Nat×aQ)):eX:=match yr ak ps with
  |some q=>.done (.agg (fill (z.map .p) q)) [] []
  |none=>.fail
def aqx(ak:Env)(aj:aq)(s:Nat)(ty:Nat)(sz:Nat)(ps:List aQ):eX:=match za ak sz ps with
  |some es=>match Bq es with
   |some qs=>.done (.one (.hsl s ((aj s).1+1) sz 0 es.length)) [(s,((aj s).1+1,some (.arr ty sz qs)))] [s]
   |none=>.done (.one (.hsl s ((aj s).1+1) sz 0 es.length)) [(s,((aj s).1+1,some (.iQ ty sz es)))] [s]
  |none=>.fail
def aqJ(ak:Env)(aj:aq)(k:Option Nat)(x:aQ):eX:=match Bf aj (ev ak x) with
  |some (cs,r)=>match pP k cs with
   |some v=>.done v [] r
   |none=>.fail
  |none=>.fail
def aqX(ak:Env)(aj:aq)(n:Nat)(a:aQ)(x:aQ):eX:=match rG (ev ak x) with
  |some xs=>zW aj (ev ak a) n xs
  |none=>.fail
def aqS(ak:Env)(x:aQ):eX:=match ev ak x with
  | .one (.bk id g o)=>.done (.one (.bk id g o)) [] []
  | .one (.dw id g i o)=>.done (.one (.dw id g i o)) [] []
  | .one (.p (.box cs))=>.done (.one (.p (.box cs))) [] []
  | .one (.hfn f a b)=>.done (.one (.hfn f a b)) [] []
  | .one (.p (.fn f a b))=>.done (.one (.p (.fn f a b))) [] []
  |_=>.fail
def afr(ak:Env)(op:BinOp)(x:aQ)(y:aQ):eX:=match Sk op (ev ak x) (ev ak y) with
  |some v=>.done v [] []
  |none=>.fail
def aqE(ak:Env)(k:uN)(neg:Bool)(x:aQ)(y:aQ):eX:=match Cg k (ev ak x) (ev ak y) with
  |some b=>.done (.one (.p (.bool (if neg then !b else b)))) [] []
  |none=>.fail
def aqY(ak:Env)(op:UnOp)(x:aQ):eX:=match op,ev ak x with
  | .not,.one (.p (.bool b))=>.done (.one (.p (.bool (!b)))) [] []
  | .neg,.one (.p (.int k n))=>.done (.one (.p (.int k (k.wrap (0-n))))) [] []
  |_,_=>.fail
def aqC(ak:Env)(k:IntKind)(x:aQ):eX:=match ev ak x with
  | .one (.p (.int _ n))=>.done (.one (.p (.int k (k.wrap n)))) [] []
  |_=>.fail
def aqy(ak:Env)(aj:aq)(x:aQ):eX:=match ez aj (ev ak x) with
  |some (es,r,[])=>match bytesOf es with
   |some bs=>.done (.one (.p (.str ⟨bs.toArray⟩))) [] r
   |none=>.fail
  |_=>.fail
def aqN(ak:Env)(f:Nat)(a:List aQ)(b:List aQ):eX:=match vq ak a,vq ak b with
  |some x,some y=>.done (.one (.hfn f x y)) [] []
  |_,_=>.fail
def aqO(aj:aq)(s:Nat)(ag:Bool):eX:=.done (.one (.jV s ((aj s).1+1))) [(s,((aj s).1+1,some (.map ag [])))] [s]
def aft(ak:Env)(aj:aq)(s:Nat)(ty:Nat)(sz:Nat)(bytes:Nat)(z:List PV)(l:aQ)(c:aQ):eX:=match BN (ev ak l),BN (ev ak c) with
  |some n,some m=>if n=m/\n*bytes<=room then
    .done (.one (.hsl s ((aj s).1+1) sz 0 n)) [(s,((aj s).1+1,some (.arr ty sz (List.replicate n z))))] [s]
   else .fail
  |_,_=>.fail
def afv(ak:Env)(sz:Nat)(x:aQ)(lo:Option aQ)(hi:Option aQ):eX:=match yh (ev ak x) with
  |some n=>match HH ak 0 lo,HH ak n hi with
   |some l,some h=>Dc (ev ak x) sz l h
   |_,_=>.fail
  |none=>.fail
def afw(ak:Env)(x:aQ)(lo:Option aQ)(hi:Option aQ):eX:=match ev ak x with
  | .one (.p (.str s))=>match HH ak 0 lo,HH ak s.size hi with
   |some l,some h=>if l<=h/\h<=s.size then .done (.one (.p (.str (s.extract l h)))) [] [] else .fail
   |_,_=>.fail
  |_=>.fail
def aqG(ak:Env)(off:Nat)(x:aQ):eX:=match ev ak x with
  | .one (.bk id g o)=>.done (.one (.bk id g (o+off))) [] []
  | .one (.dw id g i o)=>.done (.one (.dw id g i (o+off))) [] []
  | .one (.p (.box cs))=>.done (.one (.p (.box (cs.drop off)))) [] []
  |_=>.fail
def afs(ak:Env)(sz:Nat)(x:aQ)(i:aQ):eX:=match BN (ev ak i),ev ak x with
  |some n,.one (.p (.sl es))=>match es[n]? with
   |some e=>if e.length=sz then .done (.one (.p (.box e))) [] [] else .fail
   |none=>.fail
  |some n,.one (.hsl id g z off len)=>if n<len/\z=sz then .done (.one (.dw id g (off+n) 0)) [] [] else .fail
  |_,_=>.fail
def afp(ak:Env)(len:Nat)(sz:Nat)(x:aQ)(i:aQ):eX:=match BN (ev ak i),ev ak x with
  |some n,.one (.bk id g o)=>if n<len then .done (.one (.bk id g (o+n*sz))) [] [] else .fail
  |some n,.one (.dw id g j o)=>if n<len then .done (.one (.dw id g j (o+n*sz))) [] [] else .fail
  |some n,.one (.p (.box cs))=>if n<len then .done (.one (.p (.box (cs.drop (n*sz))))) [] [] else .fail
  |_,_=>.fail
def aqH(ak:Env)(off:Nat)(k:Option Nat)(x:aQ):eX:=match ev ak x with
  | .agg cs=>match pP k (cs.drop off) with
   |some v=>.done v [] []
   |none=>.fail
  |_=>.fail
def afq(ak:Env)(len:Nat)(sz:Nat)(k:Option Nat)(x:aQ)(i:aQ):eX:=match BN (ev ak i),ev ak x with
  |some n,.agg cs=>if n<len then
    match pP k (cs.drop (n*sz)) with
    |some v=>.done v [] []
    |none=>.fail
   else .fail
  |_,_=>.fail
def afu(ak:Env)(x:aQ)(i:aQ):eX:=match BN (ev ak i),ev ak x with
  |some n,.one (.p (.str s))=>match s[n]? with
   |some b=>.done (.one (.p (.int .u8 b.toNat))) [] []
   |none=>.fail
  |_,_=>.fail
def aqK(ak:Env)(aj:aq)(kd:Nat)(z:List PV)(agg:Bool)(ok:Bool)(x:aQ)(k:aQ):eX:=match mapOf aj agg (ev ak x),ev ak k with
  |some (es,r),.one (.p q)=>if iz q≠kd then .fail else match oU q es 0 with
   |some f=>match mapVal agg ((f.map (·.2)).getD z) with
    |some w=>.done (if ok then .tup [w,.one (.p (.bool f.isSome))] else w) [] r
    |none=>.fail
   |none=>.fail
  |_,_=>.fail
def aqv:eX:=.fail
def aqR(ak:Env)(aj:aq)(kd:Nat)(ag:Bool)(m:aQ)(k:aQ)(v:aQ):eX:=match ev ak m,ev ak k,xv ag (ev ak v) with
  | .one (.jV id g),.one (.p q),some cs=>match aj id,Bp cs with
   |(g',some (.map rD es)),some ps=>if g'=g/\rD=ag/\iz q=kd then
     match oU q es 0 with
     |some (some (i,_))=>.done .undef [(id,(g,some (.map ag (es.set i (q,ps)))))] [id]
     |some none=>.done .undef [(id,(g,some (.map ag (es++[(q,ps)]))))] [id]
     |none=>.fail
    else .fail
   |_,_=>.fail
  |_,_,_=>.fail
def aqF(ak:Env)(x:aQ)(i:Nat):eX:=match ev ak x with
  | .tup vs=>match vs[i]? with
   |some v=>.done v [] []
   |none=>.fail
  |_=>.fail
def aqA(shared:Nat->Bool)(ak:Env)(aj:aq)(s:Nat)(f:aQ)(as:List aQ):eX:=match DU ak f with
  |some (g,a,b)=>
   if shared g then .sc g (a.map .one++as.map (ev ak)++b.map .one)
   else match Bl aj (a.map .one++as.map (ev ak)++b.map .one) with
    |some (vs,r)=>.pc g vs r s
    |none=>.fail
  |none=>.fail
def aqW(ak:Env)(x:aQ):eX:=match ev ak x with
  | .one (.p (.str s))=>.done (.one (.p (.int .i64 s.size))) [] []
  |_=>.fail
def aqI(ak:Env)(x:aQ):eX:=match yh (ev ak x) with
  |some n=>.done (.one (.p (.int .i64 n))) [] []
  |none=>.fail
def aqP(ak:Env)(aj:aq)(x:aQ):eX:=match zN aj (ev ak x) with
  |some (n,r)=>.done (.one (.p (.int .i64 n))) [] r
  |none=>.fail
def aqu(ak:Env)(aj:aq)(s:Nat)(ty:Nat)(sz:Nat)(bytes:Nat)(d:aQ)(x:aQ):eX:=fj aj s ty sz bytes (ev ak d) (ev ak x)
def aqL(ak:Env)(x:aQ)(y:aQ):eX:=match ev ak x,ev ak y with
  | .one (.p (.int k a)),.one (.p (.int _ b))=>.done (.one (.p (.int k (if b>a then b else a)))) [] []
  |_,_=>.fail
def aqM(ak:Env)(x:aQ)(y:aQ):eX:=match ev ak x,ev ak y with
  | .one (.p (.int k a)),.one (.p (.int _ b))=>.done (.one (.p (.int k (if b<a then b else a)))) [] []
  |_,_=>.fail
def aqB(ak:Env)(aj:aq)(z:List PV)(x:aQ):eX:=match ev ak x with
  | .one (.p .nils)=>.done (.tup []) [] []
  | .one (.p (.sl []))=>.done (.tup []) [] []
  | .one (.hsl id g _ off len)=>if len=0 then .done (.tup []) [] [] else match aj id with
   |(g',some (.arr ty sz es))=>if g'=g/\sz=z.length/\off+len<=es.length then .done (.tup []) [(id,(g,some (.arr ty sz (eN es off (List.replicate len z)))))] [id] else .fail
   |_=>.fail
  |_=>.fail
def WC(shared:Nat->Bool)(ak:Env)(aj:aq):mT->eX
 | .ym x=>aqQ ak x
 | .pick c a b=>aqU ak c a b
 | .alloc s z=>aqt aj s z
 | .box s x=>aqw ak aj s x
 | .build z ps=>aqz ak z ps
 | .DE s ty sz ps=>aqx ak aj s ty sz ps
 | .load k x=>aqJ ak aj k x
 | .store n a x=>aqX ak aj n a x
 | .Jq x=>aqS ak x
 | .bin op x y=>afr ak op x y
 | .eqc k neg x y=>aqE ak k neg x y
 | .un op x=>aqY ak op x
 | .conv k x=>aqC ak k x
 | .bstr x=>aqy ak aj x
 | .mkfn f a b=>aqN ak f a b
 | .mkmap s ag=>aqO aj s ag
 | .Jj s ty sz bytes z l c=>aft ak aj s ty sz bytes z l c
 | .slice sz x lo hi=>afv ak sz x lo hi
 | .sslice x lo hi=>afw ak x lo hi
 | .FP off x=>aqG ak off x
 | .Gu sz x i=>afs ak sz x i
 | .Hw len sz x i=>afp ak len sz x i
 | .fld off k x=>aqH ak off k x
 | .aidx len sz k x i=>afq ak len sz k x i
 | .sidx x i=>afu ak x i
 | .lookup kd z agg ok x k=>aqK ak aj kd z agg ok x k
 | .bad=>aqv
 | .mupd kd ag m k v=>aqR ak aj kd ag m k v
 | .extract x i=>aqF ak x i
 | .call s f as=>aqA shared ak aj s f as
 | .slen x=>aqW ak x
 | .Jh x=>aqI ak x
 | .mlen x=>aqP ak aj x
 | .append s ty sz bytes d x=>aqu ak aj s ty sz bytes d x
 | .max x y=>aqL ak x y
 | .min x y=>aqM ak x y
 | .clear z x=>aqB ak aj z x
theorem aqs(shared:Nat->Bool)(ak:Env)(aj:aq)(o:mT):WC shared ak aj o=bn shared ak aj o:=by
 cases o<;>first
  |rfl
  |simp only[WC,bn,afr,aft,afv,afw,afs,afp,afq,afu,ajc,Yg,ajd]<;>rfl
inductive Tr where
 |leaf
 |node (v:V) (l r:Tr)
noncomputable def Tr.get (t:Tr):Nat->V:=Tr.rec (motive:=fun _=>Nat->V) (fun _=>.undef) (fun v _ _ gl gr n=>bif Nat.beq n 0 then v else bif Nat.beq (Nat.mod n 2) 1 then gl (Nat.div n 2) else gr (Nat.sub (Nat.div n 2) 1)) t
noncomputable def Tr.single (k:Nat):Nat->V->Tr:=Nat.rec (motive:=fun _=>Nat->V->Tr) (fun _ _=>.leaf) (fun _ ih n x=>bif Nat.beq n 0 then .node x .leaf .leaf else bif Nat.beq (Nat.mod n 2) 1 then .node .undef (ih (Nat.div n 2) x) .leaf else .node .undef .leaf (ih (Nat.sub (Nat.div n 2) 1) x)) k
noncomputable def Tr.set (t:Tr):Nat->V->Tr:=Tr.rec (motive:=fun _=>Nat->V->Tr) (fun n x=>Tr.single 12 n x) (fun v l r sl sr n x=>bif Nat.beq n 0 then .node x l r else bif Nat.beq (Nat.mod n 2) 1 then .node v (sl (Nat.div n 2) x) r else .node v l (sr (Nat.sub (Nat.div n 2) 1) x)) t
theorem EP{a b:Nat}(h:a≠b):Nat.beq a b=false:=by
 cases e:Nat.beq a b with
 |false=>rfl
 |true=>exact(h (vK e)).elim
theorem ama(n:Nat):Tr.leaf.get n=.undef:=rfl
theorem O3(v:V)(l r:Tr)(n:Nat):(Tr.node v l r).get n=if n=0 then v else if n%2=1 then l.get (n/2) else r.get (n/2-1):=by
 show(bif Nat.beq n 0 then v else bif Nat.beq (n%2) 1 then l.get (n/2) else r.get (n/2-1))=_;by_cases h0:n=0
 .subst h0;rfl
 rw[EP h0,if_neg h0];by_cases h1:n%2=1
 .rw[h1];rfl
 rw[EP h1,if_neg h1];rfl
theorem agF(f:Tr->Tr)(g:Tr->Tr)(v:V)(l r:Tr)(n m:Nat)(x:V)(hl:n%2=1->(f l).get (m/2)=if m/2=n/2 then x else l.get (m/2))(hr:n≠0->n%2≠1->(g r).get (m/2-1)=if m/2-1=n/2-1 then x else r.get (m/2-1)):
  (bif Nat.beq n 0 then Tr.node x l r else bif Nat.beq (n%2) 1 then .node v (f l) r else .node v l (g r)).get m=if m=n then x else (Tr.node v l r).get m:=by
 by_cases h0:n=0
 .subst h0;simp only[Nat.beq_refl,cond_true,O3];by_cases hm:m=0<;>simp[hm]
 rw[EP h0];by_cases h1:n%2=1
 .rw[h1];simp only[cond_false,Nat.beq_refl,cond_true,O3];by_cases hm:m=0
  .subst hm;rw[if_pos rfl,if_neg (fun e=>h0 e.symm),if_pos rfl]
  rw[if_neg hm];by_cases qU:m%2=1
  .rw[if_pos qU,hl h1];by_cases he:m=n
   .subst he;simp
   rw[if_neg he,if_neg aa,if_neg hm,if_pos qU]
  rw[if_neg qU,if_neg aa,if_neg hm,if_neg qU]
 rw[EP h1];simp only[cond_false,O3];by_cases hm:m=0
 .subst hm;rw[if_pos rfl,if_neg (fun e=>h0 e.symm),if_pos rfl]
 rw[if_neg hm];by_cases qU:m%2=1
 .rw[if_pos qU,if_neg aa,if_neg hm,if_pos qU]
 rw[if_neg qU,hr h0 h1];by_cases he:m=n
 .subst he;simp
 rw[if_neg he,if_neg aa,if_neg hm,if_neg qU]
theorem asS:∀(k n m:Nat) (x:V),n+1<2 ^ k->(Tr.single k n x).get m=if m=n then x else Tr.leaf.get m:=by
 intro k
 induction k with
 |zero=>intro n m x h;simp at h
 |succ k ih=>
  intro n m x h;have hp:2 ^ (k+1)=2*2 ^ k:=by rw[Nat.pow_succ];omega
  have:=agF (fun _=>Tr.single k (n/2) x) (fun _=>Tr.single k (n/2-1) x) .undef .leaf .leaf n m x (fun _=>ih _ _ _ aa) (fun _ _=>ih _ _ _ aa);have e:(Tr.node .undef .leaf .leaf).get m=Tr.leaf.get m:=by rw[O3];simp[ama]
  rw[e] at this;exact this
theorem Tr.abS:∀(t:Tr) (n m:Nat) (x:V),n+1<2 ^ 12->(t.set n x).get m=if m=n then x else t.get m:=by
 intro t
 induction t with
 |leaf=>intro n m x h;exact asS 12 n m x h
 |node v l r ihl ihr=>intro n m x h;exact agF (fun l=>l.set (n/2) x) (fun r=>r.set (n/2-1) x) v l r n m x (fun _=>ihl _ _ _ aa) (fun _ _=>ihr _ _ _ aa)
abbrev BL:=List (Nat×(Nat×Option Ob))
noncomputable def Ir (b:BL) (n:Nat):Nat×Option Ob:=List.rec (motive:=fun _=>Nat×Option Ob) (0,none) (fun p _ ih=>bif Nat.beq p.1 n then p.2 else ih) b
noncomputable def NB:BL->Nat->Nat×Option Ob->BL
 |[],n,x=>[(n,x)]
 |(i,o)::r,n,x=>bif Nat.beq i n then (i,x)::r else (i,o)::NB r n x
theorem al8:∀(b:BL) (n:Nat) (x:Nat×Option Ob) (m:Nat),Ir (NB b n x) m=if m=n then x else Ir b m:=by
 intro b
 induction b with
 |nil=>
  intro n x m;simp only[NB,Ir];by_cases h:m=n
  .subst h;simp
  have:Nat.beq n m=false:=EP fun e=>h e.symm;simp[this,h]
 |cons p b ih=>
  obtain⟨i,o⟩:=p;intro n x m;simp only[NB];by_cases h:i=n
  .subst h;simp only[Nat.beq_refl,cond_true,Ir];by_cases hm:m=i
   .subst hm;simp
   have:Nat.beq i m=false:=EP fun e=>hm e.symm;simp[this,hm]
  have:Nat.beq i n=false:=EP h;simp only[this,cond_false,Ir];by_cases hm:i=m
  .subst hm;simp[h]
  have:Nat.beq i m=false:=EP hm;simp only[this,cond_false];exact ih n x m
noncomputable def pO (t:Tr):Env:=fun i=>t.get i
noncomputable def ki (b:BL):aq:=fun i=>Ir b i
noncomputable def JZ:Nat->List V->Tr->Tr
 |_,[],t=>t
 |i,a::r,t=>JZ (i+1) r (t.set i a)
theorem at3:∀(l:List V) (i:Nat) (t:Tr) (m:Nat),i+l.length<4095->(JZ i l t).get m=if i<=m/\m<i+l.length then l.getD (m-i) .undef else t.get m:=by
 intro l
 induction l with
 |nil=>intro i t m _;simp[JZ];intro h1 h2;omega
 |cons a r ih=>
  intro i t m h;simp only[cq] at h ⊢;rw[JZ,ih (i+1) _ m aa,Tr.abS t i m a aa];by_cases h1:m=i
  .subst h1;rw[if_neg aa,if_pos rfl,if_pos aa];simp
  rw[if_neg h1];by_cases h2:i+1<=m/\m<i+1+r.length
  .rw[if_pos h2,if_pos aa];obtain⟨k,rfl⟩:∃k,m=i+1+k:=⟨m-(i+1),aa⟩;rw[show i+1+k-(i+1)=k by omega,show i+1+k-i=k+1 by omega];simp
  rw[if_neg h2,if_neg aa]
theorem atZ(h:args.length<4095):pO (JZ 0 args .leaf)=rX args:=by
 funext m;unfold pO rX;rw[at3 args 0 .leaf m aa];by_cases hm:m<args.length
 .rw[if_pos aa];rfl
 rw[if_neg aa];simp[Tr.get,List.getD,lS (Nat.le_of_not_lt hm)]
noncomputable def Xz {α:Type} (n:Nat) (k:Nat->α):α:=match n with
 |0=>k 0
 |m+1=>k (m+1)
noncomputable def Xy {α:Type} (z:Int) (k:Int->α):α:=match z with
 | .ofNat n=>Xz n fun n=>k (.ofNat n)
 | .negSucc n=>Xz n fun n=>k (.negSucc n)
noncomputable def XA {α:Type} (v:V) (k:V->α):α:=match v with
 | .one (.p (.int t z))=>Xy z fun z=>k (.one (.p (.int t z)))
 | .one (.p (.bool b))=>match b with
  |true=>k (.one (.p (.bool true)))
  |false=>k (.one (.p (.bool false)))
 |v=>k v
@[simp] theorem au6 {α:Type} (n:Nat) (k:Nat->α):Xz n k=k n:=by cases n<;>rfl
@[simp] theorem au5 {α:Type} (z:Int) (k:Int->α):Xy z k=k z:=by cases z<;>simp[Xy]
@[simp] theorem auO {α:Type} (v:V) (k:V->α):XA v k=k v:=by
 unfold XA;split
 .simp
 .split<;>rfl
 rfl
def Qi(al:Al)(l:List Nat):Bool:=bif al.any then true else al.ff l
theorem apR(al:Al)(l:List Nat):Qi al l=al.ff l:=by
 unfold Qi;cases h:al.any with
 |false=>rfl
 |true=>simp[Al.ff,Al.ok,h]
abbrev oJ:=Nat->List V->Al->BL->Option (V×BL)
noncomputable def Fw:List eG->BL->BL
 |[],b=>b
 |(i,o)::r,b=>Fw r (NB b i o)
theorem Xl:∀(u:List eG) (b:BL),ki (Fw u b)=app u (ki b):=by
 intro u
 induction u with
 |nil=>intro b;rfl
 |cons x u ih=>obtain⟨i,o⟩:=x;intro b;simp only[Fw,app];rw[ih];congr 1;funext m;exact al8 b i o m
noncomputable def JD (t:Tr) (d:Option Nat) (v:V) (k:Tr->Option (Tr×BL×bR)):Option (Tr×BL×bR):=match d with
 |none=>k t
 |some n=>bif Nat.ble n 4000 then XA v fun v=>k (t.set n v) else none
noncomputable def Q4 (sh:Ctx) (cp:fE) (cs:oJ) (o:bl) (t:Tr) (b:BL):Option (Tr×BL×bR):=
 match wanted (pO t) o.guard with
 |none=>none
 |some false=>JD t o.dst .undef fun t'=>some (t',b,⟨[],[],[]⟩)
 |some true=>match WC sh.shared (pO t) (ki b) o.op with
  | .fail=>none
  | .done v u r=>bif Qi sh.al (r++u.map (·.1)) then JD t o.dst v fun t'=>some (t',Fw u b,⟨r,u.map (·.1),[]⟩) else none
  | .pc f vs r s=>match cp f vs with
   |some x=>match land (ki b) r s (x.ig (sh.lone s)) with
    |some (v,u)=>bif Qi sh.al (r++u.map (·.1)) then JD t o.dst v fun t'=>some (t',Fw u b,⟨r++u.map (·.1),u.map (·.1),[]⟩) else none
    |none=>none
   |none=>none
  | .sc f vs=>match allow sh f vs (ki b) with
   |al=>bif sh.al.holds al then
     match cs f vs al b with
     |some (v,b')=>JD t o.dst v fun t'=>some (t',b',⟨al.ids,al.ids,al.fs⟩)
     |none=>none
    else none
noncomputable def Hu (cs:jF) (cf:oJ):Prop:=∀f vs al b v b',cf f vs al b=some (v,b')->cs f vs al (ki b)=some (v,ki b')
theorem Qz{t t':Tr}{d:Option Nat}{v:V}{b b':BL}{e e':bR}(h:JD t d v (fun t'=>some (t',b,e))=some (t',b',e')):put (pO t) d v=pO t'/\b=b'/\e=e':=by
 unfold JD at h;split at h
 .cases h;exact⟨rfl,rfl,rfl⟩
 rename_i n;cases hn:Nat.ble n 4000 with
 |false=>rw[hn] at h;cases h
 |true=>rw[hn] at h;simp only[cond_true,auO] at h;cases h;refine⟨?_,rfl,rfl⟩;have:=gY hn;funext m;unfold pO put;exact(Tr.abS t n m v aa).symm
theorem atr{cf:oJ}(hs:Hu cs cf){o:bl}{t t':Tr}{b b':BL}{e:bR}(h:Q4 sh cp cf o t b=some (t',b',e)):step1 sh cp cs o (pO t) (ki b)=some (pO t',ki b',e):=by
 unfold Q4 at h;simp only[aqs,apR] at h;unfold step1;split at h
 .cases h
 .rename_i hw;rw[hw];obtain⟨h1,rfl,rfl⟩:=Qz h;simp only[h1]
 rename_i hw;rw[hw];simp only;split at h
 .cases h
 .rename_i v u r hp;cases au:sh.al.ff (r++u.map (·.1)) with
  |false=>rw[au] at h;cases h
  |true=>rw[au] at h;obtain⟨h1,rfl,rfl⟩:=Qz h;simp only[hp,au,if_true,h1,Xl]
 .rename_i f vs r s hp;split at h
  .rename_i x hx;split at h
   .rename_i v u hl;cases au:sh.al.ff (r++u.map (·.1)) with
    |false=>rw[au] at h;cases h
    |true=>rw[au] at h;obtain⟨h1,rfl,rfl⟩:=Qz h;simp only[hp,hx,hl,au,if_true,h1,Xl]
   cases h
  cases h
 rename_i f vs hp;cases au:sh.al.holds (allow sh f vs (ki b)) with
 |false=>rw[au] at h;cases h
 |true=>
  rw[au] at h;simp only[cond_true] at h;split at h
  .rename_i v b1 hc;obtain⟨h1,rfl,rfl⟩:=Qz h;simp only[hp,au,if_true,hs _ _ _ _ _ _ hc,h1]
  cases h
noncomputable def ats (sh:Ctx) (cp:fE) (cs:oJ) (o:bl) (ih:Tr->BL->Option (Tr×BL×List bR)) (ak:Tr) (aj:BL):Option (Tr×BL×List bR):=
 match Q4 sh cp cs o ak aj with
 |some (aD,ao,e)=>match ih aD ao with
  |some (K6,HE,es)=>some (K6,HE,e::es)
  |none=>none
 |none=>none
noncomputable def JS (sh:Ctx) (cp:fE) (cs:oJ) (l:List bl):Tr->BL->Option (Tr×BL×List bR):=List.rec (motive:=fun _=>Tr->BL->Option (Tr×BL×List bR)) (fun ak aj=>some (ak,aj,[])) (fun o _ ih=>ats sh cp cs o ih) l
theorem atu(sh:Ctx)(cp:fE)(cs:oJ)(ak:Tr)(aj:BL):JS sh cp cs [] ak aj=some (ak,aj,[]):=rfl
theorem att(sh:Ctx)(cp:fE)(cs:oJ)(o:bl)(r:List bl)(ak:Tr)(aj:BL):JS sh cp cs (o::r) ak aj=match Q4 sh cp cs o ak aj with
  |some (aD,ao,e)=>match JS sh cp cs r aD ao with
   |some (K6,HE,es)=>some (K6,HE,e::es)
   |none=>none
  |none=>none:=rfl
theorem atv{cf:oJ}(hs:Hu cs cf):∀ {ops:List bl} {t t':Tr} {b b':BL} {es:List bR},JS sh cp cf ops t b=some (t',b',es)->steps sh cp cs ops (pO t) (ki b)=some (pO t',ki b',es):=by
 intro ops
 induction ops with
 |nil=>intro t t' b b' es h;simp only[atu,fq,ko] at h;obtain⟨rfl,rfl,rfl⟩:=h;rfl
 |cons o r ih=>
  intro t t' b b' es h;simp only[att] at h;split at h
  .rename_i t1 b1 e1 h1;split at h
   .rename_i t2 b2 es2 h2;cases h;simp only[steps,atr hs h1,ih h2]
   cases h
  cases h
noncomputable def MZ (f:Tr->BL->Option (lz×Tr×BL)) (n:Nat):Tr->BL->Option (lz×Tr×BL):=
 Nat.rec (motive:=fun _=>Tr->BL->Option (lz×Tr×BL)) (fun _ _=>none) (fun _ ih ak aj=>match f ak aj with
  |some (.normal,aD,ao)=>ih aD ao
  |r=>r) n
theorem an2(f:Tr->BL->Option (lz×Tr×BL))(n:Nat)(ak:Tr)(aj:BL):MZ f (n+1) ak aj=match f ak aj with
  |some (.normal,aD,ao)=>MZ f n aD ao
  |r=>r:=rfl
abbrev Ex:=Tr->BL->Option (lz×Tr×BL)
noncomputable def akX (sh:Ctx) (cp:fE) (cs:oJ) (d:Bool) (ops:List bl):Ex:=fun ak aj=>match JS sh cp cs ops ak aj with
  |some (aD,ao,es)=>bif d then (bif tX ops [] es then some (.normal,aD,ao) else none) else some (.normal,aD,ao)
  |none=>none
noncomputable def akY (a b:Ex):Ex:=fun ak aj=>match a ak aj with
  |some (.normal,aD,ao)=>b aD ao
  |r=>r
noncomputable def akW (x:aQ) (a b:Ex):Ex:=fun ak aj=>match ev (pO ak) x with
  | .one (.p (.bool t))=>bif t then a ak aj else b ak aj
  |_=>none
noncomputable def akV (id:Nat) (c:Ex):Ex:=fun ak aj=>match c ak aj with
  |some (.exit i,aD,ao)=>bif Nat.beq i id then some (.normal,aD,ao) else some (.exit i,aD,ao)
  |r=>r
noncomputable def tz (sh:Ctx) (cp:fE) (cs:oJ) (n:Nat) (c:aJ):Ex:=
 aJ.rec (motive:=fun _=>Ex) (fun ak aj=>some (.normal,ak,aj)) (fun d ops=>akX sh cp cs d ops) (fun _ _ a b=>akY a b) (fun x _ _ a b=>akW x a b)
  (fun id _ c=>akV id c) (fun _ c=>MZ c n) (fun id ak aj=>some (.exit id,ak,aj)) (fun ak aj=>some (.ret,ak,aj)) (fun _ _=>none) c
section
variable (sh:Ctx) (cp:fE) (cs:oJ) (n:Nat) (ak:Tr) (aj:BL)
theorem ak6:tz sh cp cs n .skip ak aj=some (.normal,ak,aj):=rfl
theorem ak1(id:Nat):tz sh cp cs n (.exit id) ak aj=some (.exit id,ak,aj):=rfl
theorem ak4:tz sh cp cs n .ret ak aj=some (.ret,ak,aj):=rfl
theorem ak3(d:Bool)(ops:List bl):tz sh cp cs n (.region d ops) ak aj=match JS sh cp cs ops ak aj with
  |some (aD,ao,es)=>bif d then (bif tX ops [] es then some (.normal,aD,ao) else none) else some (.normal,aD,ao)
  |none=>none:=rfl
theorem ak5(a b:aJ):tz sh cp cs n (.seq a b) ak aj=match tz sh cp cs n a ak aj with
  |some (.normal,aD,ao)=>tz sh cp cs n b aD ao
  |r=>r:=rfl
theorem ak0(x:aQ)(a b:aJ):tz sh cp cs n (.cond x a b) ak aj=match ev (pO ak) x with
  | .one (.p (.bool t))=>bif t then tz sh cp cs n a ak aj else tz sh cp cs n b ak aj
  |_=>none:=rfl
theorem akZ(id:Nat)(c:aJ):tz sh cp cs n (.block id c) ak aj=match tz sh cp cs n c ak aj with
  |some (.exit i,aD,ao)=>bif Nat.beq i id then some (.normal,aD,ao) else some (.exit i,aD,ao)
  |r=>r:=rfl
theorem ak2(c:aJ):tz sh cp cs n (.loop c) ak aj=MZ (tz sh cp cs n c) n ak aj:=rfl
end
theorem an1{f:Tr->BL->Option (lz×Tr×BL)}{g:Env->aq->Option (lz×Env×aq)}(hfg:∀t b e t' b',f t b=some (e,t',b')->g (pO t) (ki b)=some (e,pO t',ki b')):
  ∀(n:Nat) {t t':Tr} {b b':BL} {e:lz},MZ f n t b=some (e,t',b')->iter g n (pO t) (ki b)=some (e,pO t',ki b'):=by
 intro n
 induction n with
 |zero=>intro t t' b b' e h;cases h
 |succ n ih=>
  intro t t' b b' e h;simp only[an2] at h;simp only[iter];split at h
  .rename_i t1 b1 h1;rw[hfg _ _ _ _ _ h1];exact ih h
  rename_i aF;rw[hfg _ _ _ _ _ h];cases e with
  |normal=>exact(aF _ _ h).elim
  |exit i=>rfl
  |ret=>rfl
theorem Z7{cf:oJ}(hs:Hu cs cf){n:Nat}:∀(c:aJ) {t t':Tr} {b b':BL} {e:lz},tz sh cp cf n c t b=some (e,t',b')->exec sh cp cs n c (pO t) (ki b)=some (e,pO t',ki b'):=by
 intro c
 induction c with
 |skip=>intro t t' b b' e h;simp only[ak6,fq,ko] at h;obtain⟨rfl,rfl,rfl⟩:=h;rfl
 |exit id=>intro t t' b b' e h;simp only[ak1,fq,ko] at h;obtain⟨rfl,rfl,rfl⟩:=h;rfl
 |ret=>intro t t' b b' e h;simp only[ak4,fq,ko] at h;obtain⟨rfl,rfl,rfl⟩:=h;rfl
 |bad=>intro t t' b b' e h;cases h
 |region d ops=>
  intro t t' b b' e h;simp only[ak3] at h;simp only[exec];split at h
  .rename_i t1 b1 es h1;rw[atv hs h1];simp only;cases d with
   |false=>simp only[cond_false] at h;cases h;simp
   |true=>
    simp only[cond_true] at h;cases hd:tX ops [] es with
    |false=>rw[hd] at h;cases h
    |true=>rw[hd] at h;simp only[cond_true] at h;cases h;simp
  cases h
 |seq x y ihx ihy=>
  intro t t' b b' e h;simp only[ak5] at h;simp only[exec];split at h
  .rename_i t1 b1 h1;rw[ihx h1];exact ihy h
  rename_i aF;rw[ihx h];cases e with
  |normal=>exact(aF _ _ h).elim
  |exit i=>rfl
  |ret=>rfl
 |cond x p q ihp ihq=>
  intro t t' b b' e h;simp only[ak0] at h;simp only[exec];split at h
  .rename_i tt ht;rw[ht];cases tt with
   |true=>simp only[cond_true] at h;simpa using ihp h
   |false=>simp only[cond_false] at h;simpa using ihq h
  cases h
 |block id c ih=>
  intro t t' b b' e h;simp only[akZ] at h;simp only[exec];split at h
  .rename_i i t1 b1 h1;rw[ih h1];simp only;cases hi:Nat.beq i id with
   |true=>rw[hi] at h;simp only[cond_true] at h;cases h;rw[if_pos (vK hi)]
   |false=>rw[hi] at h;simp only[cond_false] at h;cases h;rw[if_neg];intro hh;rw[hh,Nat.beq_refl] at hi;cases hi
  rename_i aF;rw[ih h];cases e with
  |normal=>rfl
  |exit i=>exact(aF _ _ _ h).elim
  |ret=>rfl
 |loop c ih=>intro t t' b b' e h;simp only[ak2] at h;simp only[exec];exact an1 (fun _ _ _ _ _ h=>ih h) n h
noncomputable def GU (sh:Ctx) (cp:fE) (cs:oJ) (n:Nat) (fn:aW) (args:List V) (aj:BL):Option (V×BL):=
 bif Nat.ble args.length 4000 then
  match tz sh cp cs n fn.body (JZ 0 args .leaf) aj with
  |some (.normal,ak,ao)=>(oz sh.al (pO ak) (ki ao) fn.results).map fun vs=>(zV vs,ao)
  |some (.ret,ak,ao)=>(oz sh.al (pO ak) (ki ao) fn.results).map fun vs=>(zV vs,ao)
  |_=>none
 else none
theorem ar0{cf:oJ}(hs:Hu cs cf){n:Nat}{fn:aW}{b b':BL}{v:V}(h:GU sh cp cf n fn args b=some (v,b')):ru sh cp cs n fn args (ki b)=some (v,ki b'):=by
 unfold GU at h;unfold ru;cases hl:Nat.ble args.length 4000 with
 |false=>rw[hl] at h;cases h
 |true=>
  rw[hl] at h;simp only[cond_true] at h;have:=gY hl;rw[<- atZ aa];split at h
  .rename_i ak b1 hx;rw[Z7 hs _ hx];simp only[dC] at h ⊢;obtain⟨vs,h1,h2⟩:=h;cases h2;exact⟨vs,h1,rfl⟩
  .rename_i ak b1 hx;rw[Z7 hs _ hx];simp only[dC] at h ⊢;obtain⟨vs,h1,h2⟩:=h;cases h2;exact⟨vs,h1,rfl⟩
  cases h
noncomputable def ajg (S:Sys) (n:Nat) (cp:fE) (cs:oJ):fE:=fun f args=>match S.prim f args with
  |some r=>r
  |none=>match S.fns f with
   |some fn=>bif Nat.ble args.length fn.ntmps then
     match GU (S.ctx .all) cp cs n fn args [] with
     |some (v,b)=>iA (ki b) v
     |none=>none
    else none
   |none=>none
noncomputable def aji (S:Sys) (n:Nat) (cp:fE) (cs:oJ):oJ:=fun f args al b=>bif S.trig f args then (S.primS f args al (ki b)).map (fun r=>(r.1,Fw r.2 b)) else match S.fns f with
  |some fn=>bif Nat.ble args.length fn.ntmps then GU (S.ctx al) cp cs n fn args b else none
  |none=>none
noncomputable def YC (S:Sys) (n:Nat):fE×oJ:=Nat.rec (motive:=fun _=>fE×oJ) (fun _ _=>none,fun _ _ _ _=>none) (fun n ih=>(ajg S n ih.1 ih.2,aji S n ih.1 ih.2)) n
noncomputable def FB (S:Sys) (n:Nat):fE:=(YC S n).1
noncomputable def xu (S:Sys) (n:Nat):oJ:=(YC S n).2
theorem ajh(S:Sys)(n f:Nat)(args:List V):FB S (n+1) f args=match S.prim f args with
  |some r=>r
  |none=>match S.fns f with
   |some fn=>bif Nat.ble args.length fn.ntmps then
     match GU (S.ctx .all) (FB S n) (xu S n) n fn args [] with
     |some (v,b)=>iA (ki b) v
     |none=>none
    else none
   |none=>none:=rfl
theorem ajj(S:Sys)(n f:Nat)(args:List V)(al:Al)(b:BL):xu S (n+1) f args al b=bif S.trig f args then (S.primS f args al (ki b)).map (fun r=>(r.1,Fw r.2 b)) else match S.fns f with
  |some fn=>bif Nat.ble args.length fn.ntmps then GU (S.ctx al) (FB S n) (xu S n) n fn args b else none
  |none=>none:=rfl
theorem af1{mV:fE}(hp:PLe cp mV){cf:oJ}(hs:Hu cs cf){n:Nat}{fn:aW}{b b':BL}{v:V}(h:GU sh cp cf n fn args b=some (v,b')):ru sh mV cs n fn args (ki b)=some (v,ki b'):=QL hp (fun _ _ _ _ _ h=>h) (aX _) (ar0 hs h)
theorem Sn(S:Sys):∀n,PLe (FB S n) (gh S n)/\Hu (gj S n) (xu S n):=by
 intro n
 induction n with
 |zero=>have h1:∀f x,FB S 0 f x=none:=fun _ _=>rfl;have h2:∀f vs al b,xu S 0 f vs al b=none:=fun _ _ _ _=>rfl;exact⟨fun f x r h=>(by rw[h1] at h;cases h),fun f vs al b v b' h=>(by rw[h2] at h;cases h)⟩
 |succ n ih=>
  obtain⟨hp,hs⟩:=ih;refine⟨fun f x r h=>?_,fun f vs al b v b' h=>?_⟩
  .rw[ajh] at h;rw[gh];split at h
   .rename_i r' tO;simp only[tO];exact h
   rename_i tO;simp only[tO];split at h
   .rename_i fn hfn;simp only[hfn];cases hl:Nat.ble x.length fn.ntmps with
    |false=>rw[hl] at h;cases h
    |true=>
     rw[hl] at h;simp only[cond_true] at h;rw[if_pos (gY hl)];split at h
     .rename_i v b hr;unfold EU;have:zO=ki []:=rfl;rw[this,af1 hp hs hr];exact h
     cases h
   cases h
  rw[ajj] at h;rw[gj];cases ht:S.trig f vs with
  |true=>
   rw[ht] at h;simp only[cond_true] at h;rw[if_pos rfl];cases hp:S.primS f vs al (ki b) with
   |none=>rw[hp] at h;cases h
   |some r=>rw[hp] at h;cases h;rw[jZ,Xl]
  |false=>
  rw[ht] at h;simp only[cond_false,dx,if_false] at h ⊢;split at h
  .rename_i fn hfn;simp only[hfn];cases hl:Nat.ble vs.length fn.ntmps with
   |false=>rw[hl] at h;cases h
   |true=>rw[hl] at h;simp only[cond_true] at h;rw[if_pos (gY hl)];exact af1 hp hs h
  cases h
def yL{α:Type}(f:α->α->Bool):List α->List α->Bool
 |[],[]=>true
 |a::r,b::s=>f a b&&yL f r s
 |_,_=>false
theorem Fu{α:Type}{f:α->α->Bool}(hf:∀a b,f a b=true->a=b):∀ {l m:List α},yL f l m=true->l=m:=by
 intro l
 induction l with
 |nil=>intro m h;cases m with
  |nil=>rfl
  |cons b m=>cases h
 |cons a l ih=>
  intro m h;cases m with
  |nil=>cases h
  |cons b m=>simp only[yL,cH] at h;rw[hf _ _ h.1,ih h.2]
def S1:IntKind->IntKind->Bool
 | .i64,.i64=>true
 |a,b=>decide (a=b)
theorem akM{a b:IntKind}(h:S1 a b=true):a=b:=by
 cases a<;>cases b<;>first
  |rfl
  |(simp[S1] at h)
def FN:Nat->PV->PV->Bool
 |0,_,_=>false
 |_+1,.int k a,.int k' b=>S1 k k'&&a==b
 |_+1,.bool a,.bool b=>a==b
 |n+1,.sl a,.sl b=>yL (yL (FN n)) a b
 |n+1,.box a,.box b=>yL (FN n) a b
 |n+1,.fn f a b,.fn g c d=>Nat.beq f g&&(yL (FN n) a c&&yL (FN n) b d)
 |_+1,.nils,.nils=>true
 |_+1,.uG,.uG=>true
 |_+1,_,_=>false
theorem akN:∀(n:Nat) (x y:PV),FN n x y=true->x=y:=by
 intro n
 induction n with
 |zero=>intro x y h;cases h
 |succ n ih=>
  intro x y h;unfold FN at h;split at h
  .rename_i h0;cases h0
  .rename_i h0;cases h0;simp only[cH,beq_iff_eq] at h;rw[akM h.1,h.2]
  .rename_i h0;cases h0;simp only[beq_iff_eq] at h;rw[h]
  .rename_i h0;cases h0;rw[Fu (fun _ _ h=>Fu ih h) h]
  .rename_i h0;cases h0;rw[Fu ih h]
  .rename_i h0;cases h0;simp only[cH] at h;rw[vK h.1,Fu ih h.2.1,Fu ih h.2.2]
  .rfl
  .rfl
  cases h
def OB:C->C->Bool
 | .p a,.p b=>FN 12 a b
 |_,_=>false
theorem ZX{a b:C}(h:OB a b=true):a=b:=by
 unfold OB at h;split at h
 .rw[akN _ _ _ h]
 cases h
def OC:V->V->Bool
 | .one a,.one b=>OB a b
 | .agg a,.agg b=>yL OB a b
 |_,_=>false
theorem akP{a b:V}(h:OC a b=true):a=b:=by
 unfold OC at h;split at h
 .rw[ZX h]
 .rw[Fu (fun _ _ h=>ZX h) h]
 cases h
abbrev ju:=List (Nat×List V×RV)
def M8:ju->Nat->List V->Option RV
 |[],_,_=>none
 |(f,a,r)::l,g,b=>bif Nat.beq f g&&yL OC a b then some r else M8 l g b
theorem aoV:∀ {l:ju} {f:Nat} {a:List V} {r:RV},M8 l f a=some r->(f,a,r)∈l:=by
 intro l
 induction l with
 |nil=>intro f a r h;cases h
 |cons e l ih=>
  obtain⟨g,b,s⟩:=e;intro f a r h;simp only[M8] at h;cases hb:(Nat.beq g f&&yL OC b a) with
  |true=>rw[hb] at h;simp only[cond_true,fq] at h;simp only[cH] at hb;rw[vK hb.1,Fu (fun _ _ h=>akP h) hb.2,h];simp
  |false=>rw[hb] at h;exact w6 _ (ih h)
def Sys.wO(S:Sys)(l:ju):Sys:={S with prim:=fun f a=>match M8 l f a with
 |some r=>some (some r)
 |none=>S.prim f a}
def ji(S:Sys)(l:ju):Prop:=∀e∈l,aI S e.1 e.2.1 e.2.2
theorem ji.nil{S:Sys}:ji S []:=fun e h=>by simp at h
theorem ji.cons{S:Sys}{l:ju}{f:Nat}{a:List V}{r:RV}(h:aI S f a r)(hl:ji S l):ji S ((f,a,r)::l):=fun e he=>by
 rcases cM.1 he with rfl|he
 .exact h
 exact hl e he
theorem ji.bound{S:Sys}:∀ {l:ju},ji S l->∃M,∀e∈l,gh S M e.1 e.2.1=some e.2.2:=by
 intro l
 induction l with
 |nil=>intro _;exact⟨0,fun e h=>by simp at h⟩
 |cons e l ih=>
  intro h;obtain⟨M,hM⟩:=ih fun x hx=>h x (by simp[hx]);obtain⟨n,hn⟩:=h e af;refine⟨max M n,fun x hx=>?_⟩;rcases cM.1 hx with rfl|hx
  .exact DF S (Hp M n) _ _ _ hn
  exact DF S (Fl M n) _ _ _ (hM x hx)
theorem apn{S:Sys}{l:ju}{M:Nat}(hM:∀e∈l,gh S M e.1 e.2.1=some e.2.2):∀n,PLe (gh (S.wO l) n) (gh S (n+M))/\SLe (gj (S.wO l) n) (gj S (n+M)):=by
 intro n
 induction n with
 |zero=>exact⟨fun f x r h=>by simp[gh] at h,fun f x l k r h=>by simp[gj] at h⟩
 |succ n ih=>
  have e1:n+1+M=(n+M)+1:=aa;have hc:∀al,(S.wO l).ctx al=S.ctx al:=fun _=>rfl;refine⟨fun f x r h=>?_,fun f x al k r h=>?_⟩
  .rw[gh] at h;cases hl:M8 l f x with
   |some r'=>
    have hp:(S.wO l).prim f x=some (some r'):=by simp only[Sys.wO,hl]
    rw[hp] at h;cases h;exact DF S aa _ _ _ (hM _ (aoV hl))
   |none=>
    have hp:(S.wO l).prim f x=S.prim f x:=by simp only[Sys.wO,hl]
    rw[hp] at h;rw[e1,gh];split at h
    .exact h
    have hfn:(S.wO l).fns f=S.fns f:=rfl;rw[hfn] at h;split at h
    .rename_i fn hf;split at h
     .rename_i hlen;rw[if_pos hlen];rw[hc] at h;exact af0 ih.1 ih.2 aa h
     cases h
    cases h
  rw[gj] at h;rw[e1,gj];have EA:(S.wO l).trig f x=S.trig f x:=rfl;have dp:(S.wO l).primS f x al k=S.primS f x al k:=rfl;rw[EA,dp] at h;by_cases ht:S.trig f x=true
  .rw[if_pos ht] at h ⊢;exact h
  rw[if_neg ht] at h ⊢;have hfn:(S.wO l).fns f=S.fns f:=rfl;rw[hfn] at h;split at h
  .rename_i fn hf;split at h
   .rename_i hlen;rw[if_pos hlen];rw[hc] at h;exact QL ih.1 ih.2 aa h
   cases h
  cases h
theorem lU{S:Sys}{l:ju}(hl:ji S l)(n:Nat){f:Nat}{r:RV}(h:FB (S.wO l) n f args=some r):aI S f args r:=by obtain⟨M,hM⟩:=hl.bound;exact⟨n+M,(apn hM n).1 _ _ _ ((Sn (S.wO l) n).1 _ _ _ h)⟩
inductive Fits {H:Type} (N:Nat):DataW H->Prop where
 |str (s:List UInt8) (h:s.length<=N):Fits N (.lit (.string s))
 |lit (l:Lit) (h:∀s,l≠ .string s):Fits N (.lit l)
 |nil:Fits N .nil
 |slice (es sp:List (DataW H)) (h:es.length<=N) (he:∀d∈es,Fits N d):Fits N (.slice es sp)
 |agg (es:List (DataW H)) (he:∀d∈es,Fits N d):Fits N (.agg es)
def jS(P:Program)(N:Nat):Nat->TypeId->List PV->Prop
 |0,_,_=>False
 |n+1,t,ps=>match P.underlying t with
  |some .bool=>∃b,ps=[.bool b]
  |some (.int k)=>∃z,ps=[.int k z]/\(Lit.int k z).wf=true
  |some .string=>∃s:ByteArray,ps=[.str s]/\s.size<=N
  |some (.slice e)=>∃es,ps=[.sl es]/\es.length<=N/\ ∀x∈es,jS P N n e x
  |some (.struct fs)=>∃parts:List (List PV),ps=parts.flatten/\parts.length=fs.toList.length/\ ∀(i:Nat) (f:Field) (x:List PV),fs.toList[i]?=some f->parts[i]?=some x->jS P N n f.type x
  |_=>False
def yS(P:Program):Nat->Nat->List Field->Bool
 |off,total,[]=>Nat.beq off total
 |off,total,f::r=>Nat.beq f.offset off&&yS P (off+P.cellsOf f.type) total r
def jM(P:Program):Nat->TypeId->Bool
 |0,_=>false
 |n+1,t=>match P.underlying t with
  |some .bool|some (.int _)|some .string=>true
  |some (.slice e)=>Nat.blt 0 (P.cellsOf e)&&jM P n e
  |some (.struct fs)=>yS P 0 (P.cellsOf t) fs.toList&&fs.toList.all fun f=>jM P n f.type
  |_=>false
section
variable {H:Type} {enc:TypeId×Value->H} {P:Program} {w:World} {base:Nat} {sp:Nat->Bool} {held:Bool} {N:Nat}
theorem df.append{w:World}{own:Nat->Prop}{xs ys:List PV}{vs us:List Value}(h:df w own xs vs)(k:df w own ys us):df w own (xs++ys) (vs++us):=Pw.append (R:=bU w own) h k
theorem YI{w:World}{base:Nat}{a:Addr}{n:Nat}{cs:List Value}(h:w.cells? base a n=some cs):cs.length=n/\ ∀i,i<n->a.add i=⟨a.block,a.off+i,none⟩/\w.cell? ⟨a.block,a.off+i,none⟩=cs[i]? :=by
 unfold World.cells? at h;split at h
 .have hl:=mapM_some_length h;simp at hl;refine⟨hl,fun i hi=>?_⟩;have hg:=mapM_some_get h i i (by simp[hi]);have aw:i<cs.length:=aa;have hv:cs[i]?=some cs[i]:=by simp[aw]
  rw[hv] at hg;have acE:(a.add i).spot=none:=by
   cases nT:(a.add i).spot with
   |none=>rfl
   |some s=>
    simp only[World.cell?] at hg;split at hg
    .simp[nT] at hg
    cases hg
  have e:a.add i=⟨a.block,a.off+i,none⟩:=by
   unfold Addr.add at acE ⊢;split
   .rename_i h0;subst h0;rw[if_pos rfl] at acE;cases a
    simp_all
   rfl
  refine⟨e,?_⟩;rw[hv,<- hg,e]
 cases h
theorem alj{r:TypeId->List Value->Option (DataW H×List MemPlace)}{n:Nat}(ih:∀t cs x,jM P n t=true->r t cs=some x->Fits N x.1->∃pvs,jS P N n t pvs/\df w (fun _=>False) pvs cs){cs:List Value}{total:Nat}(ht:cs.length=total):
  ∀(fs:List Field) (off:Nat) (xs:List (DataW H×List MemPlace)),yS P off total fs=true->(∀f∈fs,jM P n f.type=true)->
   fs.mapM (fun f=>r f.type ((cs.drop f.offset).take (P.cellsOf f.type)))=some xs->(∀x∈xs,Fits N x.1)->off<=total->(∀f∈fs,∀c x,r f.type c=some x->∀pvs,jS P N n f.type pvs->df w (fun _=>False) pvs c->True)->
   ∃parts:List (List PV),parts.length=fs.length/\(∀(i:Nat) (f:Field) (x:List PV),fs[i]?=some f->parts[i]?=some x->jS P N n f.type x)/\(df w (fun _=>False) parts.flatten (cs.drop off)):=by
 intro fs
 induction fs with
 |nil=>
  intro off xs hc _ _ _ hle _;simp only[yS] at hc;have:=vK hc;refine⟨[],rfl,fun i f x h=>by simp at h,?_⟩;have:cs.drop off=[]:=by rw[List.drop_eq_nil_iff];omega
  rw[this];exact⟨rfl,fun j x u h=>by simp at h⟩
 |cons f fs ihf=>
  intro off xs hc ho hm hf hle hT;simp only[yS,cH] at hc;have VD:=vK hc.1;rw[List.mapM_cons] at hm;simp only[Option.bind_eq_bind,Rv,Option.pure_def,fq] at hm;obtain⟨x,hx,xs',MT,rfl⟩:=hm;obtain⟨pvs,p1,p2⟩:=ih _ _ _ (ho f af) hx (hf x af);have hlen:=p2.1;by_cases aco:off+P.cellsOf f.type<=total
  .obtain⟨parts,q1,q2,q3⟩:=ihf (off+P.cellsOf f.type) xs' hc.2 (fun g hg=>ho g (by simp[hg])) MT (fun y hy=>hf y (by simp[hy])) aco (fun _ _ _ _ _ _ _ _=>trivial);refine⟨pvs::parts,by simp[q1],fun i g y hi hy=>?_,?_⟩
   .cases i with
    |zero=>simp at hi hy;subst hi hy;exact p1
    |succ i=>exact q2 i g y (by simpa using hi) (by simpa using hy)
   have:cs.drop off=(cs.drop f.offset).take (P.cellsOf f.type)++cs.drop (off+P.cellsOf f.type):=by rw[VD,<- List.drop_drop];exact(kG _ _).symm
   rw[this];simp only[lR];exact df.append p2 q3
  exfalso;have mono:∀(l:List Field) (o:Nat),yS P o total l=true->o<=total:=by
   intro l
   induction l with
   |nil=>intro o h;simp only[yS] at h;have:=vK h;omega
   |cons g l ihl=>intro o h;simp only[yS,cH] at h;have:=ihl _ h.2;omega
  exact aco (mono _ _ hc.2)
theorem arZ{sz:Nat}{f:Nat->Value}:∀(es:List (List PV)) (rows:List (List Value)) (k:Nat),rows.length=es.length->(∀(i:Nat) (e:List PV) (v:List Value),es[i]?=some e->rows[i]?=some v->df w (fun _=>False) e v/\v.length=sz/\ ∀j u,v[j]?=some u->f ((k+i)*sz+j)=u)->
  ∀(j:Nat) (x:PV),es.flatten[j]?=some x->bU w (fun _=>False) x (f (k*sz+j)):=by
 intro es
 induction es with
 |nil=>intro rows k _ _ j x h;simp at h
 |cons e es ih=>
  intro rows k hl h j x hx;cases rows with
  |nil=>simp at hl
  |cons v rows=>
   obtain⟨a1,a2,a3⟩:=h 0 e v rfl rfl;have dw:e.length=sz:=by rw[<- a2];exact a1.1.symm
   simp only[lR] at hx;by_cases hj:j<e.length
   .rw[pS hj] at hx;have hv:v[j]?=some v[j]:=by simp[show j<v.length by omega]
    have:=a3 j _ hv;simp only[se] at this;rw[this];exact a1.2 j x _ hx hv
   rw[mQ aa] at hx;have:=ih rows (k+1) (by simpa using hl) (fun i e' v' h1 h2=>by have:=h (i+1) e' v' (by simpa using h1) (by simpa using h2);rw[show k+(i+1)=k+1+i by omega] at this;exact this) (j-e.length) x hx
   rw[show k*sz+j=(k+1)*sz+(j-e.length) by rw[fY];omega];exact this
theorem aue:∀(n fuel:Nat) (t:TypeId) (cs:List Value) (x:DataW H×List MemPlace),jM P n t=true->DataW.trod enc P w base sp held fuel t cs=some x->Fits N x.1->
  ∃pvs,jS P N n t pvs/\df w (fun _=>False) pvs cs:=by
 intro n
 induction n with
 |zero=>intro fuel t cs x h;simp[jM] at h
 |succ n ih=>
  intro fuel t cs x au h hf;cases fuel with
  |zero=>simp[DataW.trod] at h
  |succ fuel=>
   rw[DataW.trod_step] at h;have one:∀ {p:PV} {v:Value},bU w (fun _=>False) p v->df w (fun _=>False) [p] [v]:=by
    intro p v hp;refine⟨rfl,fun j x u a b=>?_⟩;cases j with
    |zero=>simp at a b;subst a b;exact hp
    |succ j=>simp at a
   unfold DataW.trodStep at h;unfold jM at au;split at h
   case h_1 b hu=>exact⟨[.bool b],by simp only[jS,hu];exact⟨b,rfl⟩,one (.bool b)⟩
   case h_2 k k' z hu=>
    split at h
    .rename_i hc;obtain⟨rfl,hwf⟩:=hc;exact⟨[.int k' z],by simp only[jS,hu];exact⟨z,rfl,hwf⟩,one (.int k' z)⟩
    cases h
   case h_4 s hu=>
    split at h
    .cases h;cases hf with
     |str _ hs=>exact⟨[.str s],by simp only[jS,hu];exact⟨s,rfl,by simpa using hs⟩,one (.str s)⟩
     |lit _ hs=>exact(hs _ rfl).elim
    cases h
   case h_7 e hu=>exact⟨[.sl []],by simp only[jS,hu];exact⟨[],rfl,bd _,fun x hx=>by simp at hx⟩,one (.yA none 0 (fun _=>rfl) (bd _))⟩
   case h_8 e a len cap hu=>
    rw[hu] at au;simp only[cH] at au;obtain⟨fA,hoe⟩:=au;have fA:0<P.cellsOf e:=by have:=fA;simp[Nat.blt] at this;omega
    simp only at h;split at h
    .rename_i hc;obtain⟨hb,hlc,xM⟩:=hc;simp only[dC,Rv] at h;obtain⟨elems,he,rest,ant,rfl⟩:=h;have hlen:elems.length=len:=by simpa using mapM_some_length he
     cases hf with
     |slice _ _ hl hfe=>
     simp only[cF] at hl;have get:∀i,i<len->∃y row pv,elems[i]?=some y/\w.cells? base (a.add (i*P.cellsOf e)) (P.cellsOf e)=some row/\jS P N n e pv/\df w (fun _=>False) pv row:=by intro i hi;have hg:=mapM_some_get he i i (by simp[hi]);have aw:i<elems.length:=aa;rw[nG aw] at hg;simp only[Rv] at hg;obtain⟨row,h1,h2⟩:=hg;obtain⟨pv,p1,p2⟩:=ih _ _ _ _ hoe h2 (hfe _ (dq.2 ⟨_,List.getElem_mem aw,rfl⟩));exact⟨_,row,pv,nG aw,h1,p1,p2⟩
     cases tL:len with
     |zero=>refine⟨[.sl []],by simp only[jS,hu];exact⟨[],rfl,bd _,fun x hx=>by simp at hx⟩,one (.yA (some a) cap (fun h=>by cases h) xM)⟩
     |succ len'=>
      rw[<- tL];have h0:0<len:=aa;obtain⟨_,row0,_,_,uz,_,_⟩:=get 0 h0;have ha:a=⟨a.block,a.off,none⟩:=by
       have h1:a.add 0=a:=by unfold Addr.add;rw[if_pos rfl]
       rw[Aa,h1] at uz;have:=((YI uz).2 0 fA).1;rw[h1] at this;exact this
      have VN:∀i,i<len->∃row pv,row.length=P.cellsOf e/\(∀j,j<P.cellsOf e->w.cell? ⟨a.block,a.off+(i*P.cellsOf e+j),none⟩=row[j]?)/\jS P N n e pv/\df w (fun _=>False) pv row:=by
       intro i hi;obtain⟨_,row,pv,_,h1,h2,h3⟩:=get i hi;obtain⟨l1,l2⟩:=YI h1;refine⟨row,pv,l1,fun j hj=>?_,h2,h3⟩;have:=(l2 j hj).2;rw[<- this];have e2:a.add (i*P.cellsOf e)=⟨a.block,a.off+i*P.cellsOf e,none⟩:=by
        rw[ha];unfold Addr.add;split
        .rename_i h9;rw[h9];rfl
        rfl
       rw[e2];simp[BB]
      let row:Nat->List Value:=fun i=>if h:i<len then (VN i h).choose else []
      let pv:Nat->List PV:=fun i=>if h:i<len then (VN i h).choose_spec.choose else []
      have MN:∀i,i<len->(row i).length=P.cellsOf e/\(∀j,j<P.cellsOf e->w.cell? ⟨a.block,a.off+(i*P.cellsOf e+j),none⟩=(row i)[j]?)/\jS P N n e (pv i)/\df w (fun _=>False) (pv i) (row i):=by intro i hi;simp only[row,pv,dif_pos hi];exact(VN i hi).choose_spec.choose_spec
      let es:=(List.range len).map pv
      have Pg:es.length=len:=by simp[es]
      have Cy:∀(i:Nat) (x:List PV),es[i]?=some x->i<len/\x=pv i:=by
       intro i x hx;have hi:i<len:=by rw[<- Pg];exact(aS.1 hx).1
       refine⟨hi,?_⟩;simp only[es,fR,te hi,jZ,fq] at hx;exact hx.symm
      let f:Nat->Value:=fun j=>(w.cell? ⟨a.block,a.off+j,none⟩).getD undef
      refine⟨[.sl es],?_,one ?_⟩
      .simp only[jS,hu];refine⟨es,rfl,aa,fun x hx=>?_⟩;obtain⟨i,hi⟩:=jD hx;obtain⟨h1,rfl⟩:=Cy i x hi;exact(MN i h1).2.2.1
      rw[ha];have cn:∀x∈es,x.length=P.cellsOf e:=by intro x hx;obtain⟨i,hi⟩:=jD hx;obtain⟨h1,rfl⟩:=Cy i x hi;have:=(MN i h1).2.2.2.1;rw[<- this];exact(MN i h1).1
      have ef:=arZ (w:=w) (sz:=P.cellsOf e) (f:=f) es ((List.range len).map row) 0 (by simp[Pg]) (fun i x v h1 h2=>by
       obtain⟨hi,rfl⟩:=Cy i x h1;simp only[fR,te hi,jZ,fq] at h2;subst h2;obtain⟨s1,s2,s3,s4⟩:=MN i hi;refine⟨s4,s1,fun j u hu=>?_⟩;have hj:j<P.cellsOf e:=by rw[<- s1];exact(aS.1 hu).1
       simp only[f,iD];rw[s2 j hj,hu];rfl)
      simp only[Aa,iD] at ef;have rR:∀(l:List (List PV)),(∀x∈l,x.length=P.cellsOf e)->l.flatten.length=l.length*P.cellsOf e:=by
       intro l
       induction l with
       |nil=>intro _;simp
       |cons x l ihl=>intro hx;simp only[lR,dX,cq];rw[hx x af,ihl (fun y hy=>hx y (by simp[hy])),fY];omega
      refine Pg▸bU.sl a.block a.off cap (P.cellsOf e) f (fun _ h=>h) aa xM cn (fun j x hx=>?_) ef;have hj:j<len*P.cellsOf e:=by have:=(aS.1 hx).1;rw[rR es cn,Pg] at this;exact this
      have hi:j/P.cellsOf e<len:=Nat.div_lt_of_lt_mul (by rw[Nat.mul_comm];exact hj);obtain⟨s1,s2,s3,s4⟩:=MN _ hi;have hm:j%P.cellsOf e<P.cellsOf e:=dQ _ fA;have:=s2 _ hm;rw[show j/P.cellsOf e*P.cellsOf e+j%P.cellsOf e=j by rw[Nat.mul_comm];exact Nat.div_add_mod j _] at this;have VP:(row (j/P.cellsOf e))[j%P.cellsOf e]?=some (row (j/P.cellsOf e))[j%P.cellsOf e]:=by simp[s1,hm]
      rw[VP] at this;simp only[f,this,mS]
    cases h
   case h_9=>
    rename_i fs hu;rw[hu] at au;simp only[cH] at au;split at h
    .rename_i hc;simp only[dC] at h;obtain⟨xs,hx,rfl⟩:=h;cases hf with
     |agg _ hfe=>
     obtain⟨parts,p1,p2,p3⟩:=alj (r:=DataW.trod enc P w base sp held fuel) (n:=n) (fun t cs x h1 h2 h3=>ih _ _ _ _ h1 h2 h3) hc fs.toList 0 xs au.1 (fun f hf=>jf.1 au.2 f hf) hx (fun y hy=>hfe _ (dq.2 ⟨y,hy,rfl⟩)) (bd _) (fun _ _ _ _ _ _ _ _=>trivial);refine⟨parts.flatten,by simp only[jS,hu];exact⟨parts,rfl,p1,p2⟩,?_⟩
     simpa using p3
    cases h
   all_goals(first|(cases h;done)|(simp_all;done)|(exfalso;simp_all;done))
end
end
end Go.Abs
namespace Go.Abs
variable {H:Type} {enc:TypeId×Value->H} {P:Program} {w:World} {N:Nat}
theorem ajS:∀(fs:List Field) (off total:Nat),yS P off total fs=true->total=off+(fs.map fun f=>P.cellsOf f.type).sum/\ ∀(j:Nat) (f:Field),fs[j]?=some f->f.offset=off+((fs.take j).map fun f=>P.cellsOf f.type).sum:=by
 intro fs
 induction fs with
 |nil=>intro off total h;simp only[yS] at h;have:=vK h;exact⟨by simp;omega,fun j f h=>by simp at h⟩
 |cons f fs ih=>
  intro off total h;simp only[yS,cH] at h;have h0:=vK h.1;obtain⟨i1,i2⟩:=ih _ _ h.2;refine⟨by simp;omega,fun j g hg=>?_⟩;cases j with
  |zero=>simp at hg;subst hg;simp;omega
  |succ j=>have:=i2 j g (by simpa using hg);simp only[List.take_succ_cons,dG,List.sum_cons];omega
theorem aof:Kids P (fun t=>∃n,jM P n t=true):=by
 have un:∀ {t:TypeId},(∃n,jM P n t=true)->∃n,jM P (n+1) t=true:=by
  rintro t ⟨n,h⟩
  cases n with
  |zero=>simp[jM] at h
  |succ n=>exact⟨n,h⟩
 refine⟨fun ht hu=>?_,fun ht hu=>?_,fun ht hu=>?_,fun ht hu=>?_,fun ht hu=>?_⟩
 .obtain⟨n,h⟩:=un ht;simp[jM,hu] at h
 .obtain⟨n,h⟩:=un ht;simp only[jM,hu,cH] at h;exact⟨n,h.2⟩
 .obtain⟨n,h⟩:=un ht;simp[jM,hu] at h
 .obtain⟨n,h⟩:=un ht;simp only[jM,hu,cH] at h;obtain⟨c1,c2⟩:=ajS _ _ _ h.1;refine⟨fun f hf=>⟨n,jf.1 h.2 f hf⟩,by rw[c1];simp,fun j f hj=>by rw[c2 j f hj];simp⟩
 obtain⟨n,h⟩:=un ht;simp[jM,hu] at h
theorem auc{w':World}{GY:Nat->Bool}{t:TypeId}{v:Value}{d:DataW H}{ps:List MemPlace}(hk:∃n,jM P n t=true)(h:DataW.Trod enc P w 0 (fun _=>true) true t v d ps)
  (AU:∀p∈ps,w.sameAt w' p) (hs:∀p∈ps,GY p.block=true):DataW.Trod enc P w' 0 GY true t v d ps:=by
 obtain⟨fuel,h⟩:=h;refine⟨fuel,DataW.trod_stays (T:=fun t=>∃n,jM P n t=true) aof ?_ (fun h=>by cases h) hk h AU hs⟩;rintro t e ⟨n,h⟩ hu
 cases n with
 |zero=>simp[jM] at h
 |succ n=>simp only[jM,hu,cH] at h;have:=h.1;simp[Nat.blt] at this;omega
theorem aub{w':World}{GY:Nat->Bool}:∀ {ts:List TypeId} {vs:List Value} {ds:List (DataW H)} {ps:List MemPlace},(∀t∈ts,∃n,jM P n t=true)->DataW.TrodAll enc P w 0 (fun _=>true) true ts vs ds ps->
  (∀p∈ps,w.sameAt w' p)->(∀p∈ps,GY p.block=true)->DataW.TrodAll enc P w' 0 GY true ts vs ds ps:=by
 intro ts
 induction ts with
 |nil=>intro vs ds ps _ h _ _;cases vs<;>cases ds<;>exact h
 |cons t ts ih=>
  intro vs ds ps hk h gQ eh;cases vs with
  |nil=>exact h.elim
  |cons v vs=>
   cases ds with
   |nil=>exact h.elim
   |cons d ds=>obtain⟨p,q,h1,h2,rfl⟩:=h;exact⟨p,q,auc (hk t af) h1 (fun x hx=>gQ x (by simp[hx])) (fun x hx=>eh x (by simp[hx])),ih (fun t ht=>hk t (by simp[ht])) h2 (fun x hx=>gQ x (by simp[hx])) (fun x hx=>eh x (by simp[hx])),rfl⟩
def BJ(P:Program)(t:TypeId)(ps:List PV):V:=
 match P.underlying t with
 |some (.struct _)=>.agg (ps.map .p)
 |_=>match ps with
  |[x]=>.one (.p x)
  |_=>.undef
theorem aiq{r:Reach}{b0 n:Nat}{sp:Nat->Bool}{held:Bool}{t:TypeId}{v:Value}{d:DataW H}{ps:List MemPlace}(hk:jM P n t=true)(hval:Value.okWide P w r b0 t v)(h:DataW.Trod enc P w 0 sp held t v d ps)(hf:Fits N d):
  ∃pvs,jS P N n t pvs/\sk w (fun _=>False) (BJ P t pvs) v:=by
 obtain⟨fuel,h⟩:=h;obtain⟨pvs,h1,h2⟩:=aue n fuel t _ _ hk h hf;refine⟨pvs,h1,?_⟩;cases n with
 |zero=>simp[jM] at hk
 |succ n=>
  have one:∀x:PV,pvs=[x]->(∀cs,v≠ .agg cs)->bU w (fun _=>False) x v:=by
   rintro x rfl aF
   have:v.cells.toList=[v]:=by
    cases v<;>first
     |rfl
     |exact(aF _ rfl).elim
   rw[this] at h2;exact h2.2 0 x v rfl rfl
  have nagg:∀ {k:TypeDesc},P.underlying t=some k->(∀fs,k≠ .struct fs)->(∀a b,k≠ .array a b)->∀cs,v≠ .agg cs:=by
   rintro k hu dV jH cs rfl
   unfold Value.okWide at hval;rw[hu] at hval;cases k<;>simp_all[Cell.okWide,Cell.ok]
  simp only[jS] at h1;unfold BJ;cases hu:P.underlying t with
  |none=>rw[hu] at h1;exact h1.elim
  |some k=>
   rw[hu] at h1;cases k<;>simp only at h1<;>try exact h1.elim
   case bool=>obtain⟨b,rfl⟩:=h1;exact one _ rfl (nagg hu af af)
   case int k=>obtain⟨b,rfl,_⟩:=h1;exact one _ rfl (nagg hu af af)
   case string=>obtain⟨b,rfl,_⟩:=h1;exact one _ rfl (nagg hu af af)
   case slice e=>obtain⟨es,rfl,_⟩:=h1;exact one _ rfl (nagg hu af af)
   case struct fs=>unfold Value.okWide at hval;rw[hu] at hval;simp only at hval;obtain⟨cs,rfl,cn,_⟩:=hval;exact⟨cs,pvs,rfl,rfl,h2⟩
def N4(P:Program)(N n:Nat):List TypeId->List (List PV)->Prop
 |[],[]=>True
 |t::ts,p::ps=>jS P N n t p/\N4 P N n ts ps
 |_,_=>False
def BK(P:Program):List TypeId->List (List PV)->List V
 |t::ts,p::ps=>BJ P t p::BK P ts ps
 |_,_=>[]
theorem aiC{r:Reach}{b0 n:Nat}{sp:Nat->Bool}{held:Bool}:∀ {ts:List TypeId} {vs:List Value} {ds:List (DataW H)} {ps:List MemPlace},(∀t∈ts,jM P n t=true)->(∀(j:Nat) t v,ts[j]?=some t->vs[j]?=some v->Value.okWide P w r b0 t v)->
  DataW.TrodAll enc P w 0 sp held ts vs ds ps->(∀d∈ds,Fits N d)->∃pvss,N4 P N n ts pvss/\Pw (sk w (fun _=>False)) (BK P ts pvss) vs:=by
 intro ts
 induction ts with
 |nil=>
  intro vs ds ps _ _ h _;cases vs with
  |nil=>exact⟨[],trivial,rfl,fun j x u h=>by simp[BK] at h⟩
  |cons v vs=>cases ds<;>exact h.elim
 |cons t ts ih=>
  intro vs ds ps hk hv h hf;cases vs with
  |nil=>exact h.elim
  |cons v vs=>
   cases ds with
   |nil=>exact h.elim
   |cons d ds=>
    obtain⟨p,q,h1,h2,rfl⟩:=h;obtain⟨x,a1,a2⟩:=aiq (hk t af) (hv 0 t v rfl rfl) h1 (hf d af);obtain⟨xs,b1,b2,b3⟩:=ih (fun t ht=>hk t (by simp[ht])) (fun j t v e1 e2=>hv (j+1) t v (by simpa using e1) (by simpa using e2)) h2 (fun d hd=>hf d (by simp[hd]));refine⟨x::xs,⟨a1,b1⟩,by simpa [BK] using b2,fun j y u e1 e2=>?_⟩;cases j with
    |zero=>simp[BK] at e1 e2;subst e1 e2;exact a2
    |succ j=>exact b3 j y u (by simpa [BK] using e1) (by simpa using e2)
end Go.Abs
namespace Go.Abs
open Go.RowKit
theorem fg.apP(w:World)(k:Nat)(os:Array Obj):fg w (Go.Sort.grow (w.drewN k) os):=
 ⟨rfl,rfl,rfl,by simp[Go.Sort.grow,World.drewN],fun c hc=>by simp[Go.Sort.grow,World.drewN,Array.getElem?_append,hc]⟩
theorem Nt{w w':World}{O:Nat->Prop}{x:PV}{v:Value}(hg:fg w w')(h:bU w' O x v):uP w O (.one (.p x)) (.returned v) w':=
 ⟨v,[],rfl,hg,w7,fun c hc=>by simp at hc,[v],rfl,v,[],rfl,h.mono fun c _ hn=>⟨rfl,fun hq=>hn (hq.elim id fun h=>by simp at h)⟩,rfl,rfl⟩
theorem pw1{w:World}{O:Nat->Prop}{x:PV}{args:Array Value}(h:Pw (sk w O) [.one (.p x)] args.toList):∃v,args= #[v]/\bU w O x v:=by
 obtain⟨h1,h2⟩:=h;obtain⟨l⟩:=args
 match l,h1 with
 |[v],_=>exact⟨v,rfl,h2 0 _ v rfl rfl⟩
theorem ZT{w:World}{O:Nat->Prop}{v:Value}(h:bU w O (.sl []) v):∃a cap,v=.slice a 0 cap/\(a=none->cap=0)/\cap<=maxLen:=by
 generalize hx:PV.sl []=x at h;cases h<;>cases hx
 .exact⟨_,_,rfl,by assumption,by assumption⟩
 exact⟨_,_,rfl,fun h=>by simp at h,by assumption⟩
theorem aex{w:World}{O:Nat->Prop}{a:Option Addr}{cap:Nat}(h:a=none->cap=0)(hm:cap<=maxLen):bU w O (.sl []) (.slice a 0 cap):=.yA a cap h hm
def y7:Nat->Nat->List UInt8->List UInt8
 |0,_,acc=>acc
 |k+1,u,acc=>bif Nat.blt u 10 then UInt8.ofNat (Nat.add 48 u)::acc else y7 k (Nat.div u 10) (UInt8.ofNat (Nat.add 48 (Nat.mod u 10))::acc)
theorem ZD:∀(k u:Nat) (acc:List UInt8),u<10 ^ (k+1)->y7 (k+1) u acc=Lib.decDigits u++acc:=by
 intro k
 induction k with
 |zero=>
  intro u acc h;have h:u<10:=by simpa using h
  unfold Lib.decDigits;have hb:Nat.blt u 10=true:=Nat.ble_eq_true_of_le h;simp only[y7,hb,cond_true,dif_pos h];rfl
 |succ k ih=>
  intro u acc h;rw[Lib.decDigits,y7];by_cases h0:u<10
  .have hb:Nat.blt u 10=true:=Nat.ble_eq_true_of_le h0;simp only[hb,cond_true,dif_pos h0];rfl
  have hb:Nat.blt u 10=false:=by
   cases e:Nat.blt u 10 with
   |false=>rfl
   |true=>exact(h0 (gY e)).elim
  simp only[hb,cond_false,dif_neg h0];have:(Nat.div u 10)<10 ^ (k+1):=by have e:Nat.div u 10=u/10:=rfl;rw[e];have:10 ^ (k+1+1)=10 ^ (k+1)*10:=Nat.pow_succ ..;omega
  rw[ih _ _ this];simp only[tc,List.singleton_append];rfl
def l9(n:Int):ByteArray:=⟨(match n with| .ofNat u=>y7 20 u []| .negSucc u=>45::y7 20 (Nat.succ u) []).toArray⟩
theorem an4(n:Int)(h0: -9223372036854775808<=n)(h1:n<=9223372036854775807):l9 n=⟨(Lib.itoa n).toArray⟩:=by
 unfold l9 Lib.itoa;cases n with
 |ofNat u=>have:¬(Int.ofNat u<0):=af;rw[if_neg this];simp only;rw[ZD 19 u [] (by simp at h1;omega)];simp
 |negSucc u=>have:Int.negSucc u<0:=Int.negSucc_lt_zero u;rw[if_pos this];simp only;rw[ZD 19 (Nat.succ u) [] aa];simp[Int.natAbs]
def Qy(args:List V):Option RV:=
 match args with
 |[.one (.p (.int .i64 n))]=>if -9223372036854775808<=n/\n<=9223372036854775807 then some (.one (.p (.str (l9 n)))) else none
 |_=>none
theorem aq5{P:Program}{f:Nat}{nm:String}{G:World->Prop}{args:List V}{r:RV}(hG:∀w,G w->Lib.TabIs P w nm .u64 Lib.pow10Tab)
  (hf:∀(n:Int),-9223372036854775808<=n->n<=9223372036854775807->∀w:World,Lib.TabIs P w nm .u64 Lib.pow10Tab->Calls P f #[.int .i64 n] w fun e w'=>e=.returned (.string ⟨(Lib.itoa n).toArray⟩)/\ ∃k os,w'=Go.Sort.grow (w.drewN k) os)
  (h:Qy args=some r):∀(w:World) (O:Nat->Prop) (as:Array Value),Good G w->Pw (sk w O) args as.toList->Calls P f as w (uP w O r):=by
 intro w O as hg ha;unfold Qy at h;split at h
 .rename_i n;split at h
  .rename_i hr;cases h;obtain⟨v,rfl,hp⟩:=pw1 ha;generalize hx:PV.int .i64 n=x at hp;cases hp<;>cases hx
   refine(hf n hr.1 hr.2 w (hG w hg.1)).mono ?_;rintro e w' ⟨rfl,k,os,rfl⟩
   rw[an4 n hr.1 hr.2];exact Nt (fg.apP _ _ _) (.str _)
  cases h
 cases h
def Nu(args:List V):Option RV:=
 match args with
 |[.one (.p (.int .u64 n))]=>if 0<=n/\n<=18446744073709551615 then some (.one (.p (.int .i64 (Lib.bitLen n.toNat)))) else none
 |_=>none
theorem aq2{P:Program}{f:Nat}{args:List V}{r:RV}(hf:∀(x:Int) (w:World),0<=x->x<=18446744073709551615->Calls P f #[.int .u64 x] w fun e w'=>e=.returned (.int .i64 (Lib.bitLen x.toNat))/\w'=w)
  (h:Nu args=some r):∀(w:World) (O:Nat->Prop) (as:Array Value),Pw (sk w O) args as.toList->Calls P f as w (uP w O r):=by
 intro w O as ha;unfold Nu at h;split at h
 .rename_i n;split at h
  .rename_i hr;cases h;obtain⟨v,rfl,hp⟩:=pw1 ha;generalize hx:PV.int .u64 n=x at hp;cases hp<;>cases hx
   refine(hf n w hr.1 hr.2).mono ?_;rintro e w' ⟨rfl,rfl⟩
   exact Nt (fg.refl _) (.int _ _)
  cases h
 cases h
def Qw(args:List V):Option (Option RV):=
 match args with
 |[.one (.p (.sl []))]=>some (some (.one (.p (.sl []))))
 |_=>none
theorem aq4{S:Sys}{G:World->Prop}(hS:Hv S G){f n:Nat}{z i g z':Nat}{fn:aW}{ao:aq}(hfn:S.fns f=some fn)(h1:gh S n f [.one (.p .nils)]=some (.one (.p .nils)))
  (h2:gj S n f [.one (.hsl 0 0 z 0 0)] .all zO=some (.one (.hsl i g z' 0 0),ao)) {args:List V} {r:RV} (h:Qw args=some (some r)):
  ∀(w:World) (O:Nat->Prop) (as:Array Value),Good G w->(∀c,O c->c<w.heap.size)->Pw (sk w O) args as.toList->Calls S.P f as w (uP w O r):=by
 intro w O as hg hO ha;unfold Qw at h;split at h
 .cases h;obtain⟨v,rfl,hp⟩:=pw1 ha;obtain⟨a,cap,rfl,hn,hm⟩:=ZT hp;cases a with
  |none=>
   obtain rfl:=hn rfl;refine((sound hS n).1 f _ _ h1 |>.2 w O #[.slice none 0 0] hg hO ⟨rfl,fun j x u p q=>?_⟩).mono ?_
   .cases j with
    |zero=>simp at p q;subst p q;exact bU.nils
    |succ j=>simp at p
   rintro e w' ⟨val,bs,rfl,qj,iS,mB,vs,q1,q2⟩
   obtain⟨v0,mO,e1,e2,e3,e4⟩:=q2;have MH:vs=[val]:=q1;subst MH;cases e1;subst e4;cases e2;exact Nt qj (aex (fun _=>rfl) (bd _))
  |some a=>
   let m0:Mem:=⟨w,zO,fun _=>0,fun _=>0,O⟩
   have au:Ok w m0:=⟨rfl,rfl,rfl,aX _,fun _ _=>rfl,(fun id o h=>by cases h),(fun id o h=>by cases h),hO,(fun id eO o o' h=>by cases h)⟩;refine(((sound hS n).2.1 f _ _ _ _ _ h2).2 w m0 #[.slice (some a) 0 cap] hg au rfl ⟨rfl,fun j x u p q=>?_⟩).mono ?_
   .cases j with
    |zero=>simp at p q;subst p q;exact cT.hsl a cap (bd _) (bd _) hm (fun sz _ h=>by cases h)
    |succ j=>simp at p
   rintro e w' ⟨val,m',rfl,rfl,q1,q2,q3,q4,q5⟩
   have hq:cT m' (.hsl i g z' 0 0) val:=q5;cases hq with
   |hsl a2 cap2 _ _ tM _=>
    refine Nt ⟨q2.os,q2.tape,q2.output,q2.size,fun c hc=>q2.keep c hc ?_⟩ (aex (fun h=>by cases h) tM);rintro ⟨id,o,h,_⟩
    cases h
 cases h
def Qx(args:List V):Option (Option RV):=
 match args with
 |[.one (.p (.sl []))]=>some (some (.one (.p .zs)))
 |_=>none
theorem aq3{P:Program}{G:World->Prop}{f:Nat}(h1:∀(w:World) (a:Option Addr) (c:Nat),Calls P f #[.slice a 0 c] w fun e w'=>∃b,e=.returned (.slice b 0 0)/\fg w w'){args:List V}{r:RV}(h:Qx args=some (some r)):
  ∀(w:World) (O:Nat->Prop) (as:Array Value),Good G w->(∀c,O c->c<w.heap.size)->Pw (sk w O) args as.toList->Calls P f as w (uP w O r):=by
 intro w O as hg hO ha;unfold Qx at h;split at h
 .cases h;obtain⟨v,rfl,hp⟩:=pw1 ha;obtain⟨a,cap,rfl,hn,hm⟩:=ZT hp;refine(h1 w a cap).mono ?_;rintro e w' ⟨b,rfl,qj⟩
  exact Nt qj (bU.zs b)
 cases h
end Go.Abs
namespace Go.Abs
open Go.RowKit Go.WideShapes Go.ChangeShapes
section
variable {H:Type} {enc:TypeId×Value->H} {P:Program} {w:World} {base:Nat} {sp:Nat->Bool} {held:Bool}
theorem aud:∀(n fuel:Nat) (t:TypeId) (cs:List Value) (x:DataW H×List MemPlace),jM P n t=true->DataW.trod enc P w base sp held fuel t cs=some x->Fits maxLen x.1:=by
 intro n
 induction n with
 |zero=>intro fuel t cs x h;simp[jM] at h
 |succ n ih=>
  intro fuel t cs x au h;cases fuel with
  |zero=>simp[DataW.trod] at h
  |succ fuel=>
   rw[DataW.trod_step] at h;unfold DataW.trodStep at h;unfold jM at au;split at h
   case h_1=>cases h;exact .lit _ (fun s h=>by cases h)
   case h_2=>
    split at h
    .cases h;exact .lit _ (fun s h=>by cases h)
    cases h
   case h_4=>
    split at h
    .rename_i hs;cases h;exact .str _ (by simpa using hs)
    cases h
   case h_7=>cases h;exact .nil
   case h_8 e a len cap hu=>
    rw[hu] at au;simp only[cH] at au;simp only at h;split at h
    .rename_i hc;simp only[dC,Rv] at h;obtain⟨elems,he,rest,ant,rfl⟩:=h;have hlen:elems.length=len:=by simpa using mapM_some_length he
     refine .slice _ _ (by simp;omega) (fun d hd=>?_);obtain⟨y,hy,rfl⟩:=dq.1 hd;obtain⟨i,_,hi⟩:=mapM_mem_of he y hy;simp only[Rv] at hi;obtain⟨row,_,h2⟩:=hi;exact ih _ _ _ _ au.2 h2
    cases h
   case h_9=>
    rename_i fs hu;rw[hu] at au;simp only[cH] at au;split at h
    .simp only[dC] at h;obtain⟨xs,hx,rfl⟩:=h;refine .agg _ (fun d hd=>?_);obtain⟨y,hy,rfl⟩:=dq.1 hd;obtain⟨f,hf,hi⟩:=mapM_mem_of hx y hy;exact ih _ _ _ _ (jf.1 au.2 f hf) hi
    cases h
   all_goals(first|(cases h;done)|(simp_all;done)|(exfalso;simp_all;done))
theorem ag1{n:Nat}:∀ {ts:List TypeId} {vs:List Value} {ds:List (DataW H)} {ps:List MemPlace},(∀t∈ts,jM P n t=true)->DataW.TrodAll enc P w base sp held ts vs ds ps->(∀d∈ds,Fits maxLen d)/\ds.length=ts.length:=by
 intro ts
 induction ts with
 |nil=>
  intro vs ds ps _ h;cases vs<;>cases ds<;>first
   |exact h.elim
   |exact⟨fun d hd=>by simp at hd,rfl⟩
 |cons t ts ih=>
  intro vs ds ps hk h;cases vs with
  |nil=>exact h.elim
  |cons v vs=>
   cases ds with
   |nil=>exact h.elim
   |cons d ds=>
    obtain⟨p,q,⟨fuel,h1⟩,h2,rfl⟩:=h;obtain⟨i1,i2⟩:=ih (fun t ht=>hk t (by simp[ht])) h2;refine⟨fun x hx=>?_,by simp[i2]⟩;rcases cM.1 hx with rfl|hx
    .exact aud n fuel t _ _ (hk t af) h1
    exact i1 x hx
end
section
variable {H:Type} {enc:TypeId×Value->H} {P:Program}
theorem aqZ{f:Func}{s:ChangeSpec}{apart fresh handsOn again:Bool}{W W':World}{args:Array Value}{v:Value}{ds gs:List (DataW H)}{before pa pv:List MemPlace}
  (hW:DataW.Whole enc P f.params.toList s.vars apart W args.toList ds gs before)
  (AS:∀(b:Nat) (sp:Nat->Bool) (hd:Bool),DataW.TrodAll enc P W' b sp hd f.resultTypes.toList (v.resultList f.resultTypes.size) (s.fn H (ds++gs)).results [])
  (Co:∀sp:Nat->Bool,(∀p∈before,sp p.block=true)->DataW.TrodAll enc P W' 0 sp true f.params.toList args.toList (s.fn H (ds++gs)).args pa)
  (MR:∀sp:Nat->Bool,(∀p∈before,sp p.block=true)->DataW.TrodVars enc P W' sp s.vars (s.fn H (ds++gs)).vars pv)
  (dp:before=pa++pv) (hb:Below W.heap.size W W')
  (au:∀(j:Nat) (t:TypeId) (r:Value),f.resultTypes[j]?=some t->(v.resultList f.resultTypes.size)[j]?=some r->Value.okWide P W' .any 0 t r):
  s.post enc P f apart fresh handsOn again W args v W':=by
 have aw:∀p∈before,p.block<W.heap.size:=fun p hp=>hW.lt p hp;have hold:∀p∈before,(fun b=>decide (b<W.heap.size)) p.block=true:=fun p hp=>by simpa using aw p hp
 refine⟨ds,gs,before,[],pa,pv,hW,AS _ _ _,Co _ hold,MR _ hold,World.keptBut_mono (fun p hp=>⟨hp,?_⟩) (hb.frame (· ∈before)),fun _=>?_⟩
 .rw[dp,eF] at hp;exact Or.inr hp
 obtain⟨_,_,_,_,_,hz,hn⟩:=hW;refine⟨au,_,_,([]++pa)++pv,⟨[]++pa,pv,trodAll_append (Co _ (fun _ _=>rfl)) (AS _ _ _),MR _ (fun _ _=>rfl),rfl,?_,?_⟩,?_⟩
 .intro b off hp;have nh:MemPlace.cell b off∈before:=by rw[dp];simpa using hp
  rw[hb.frozen (aw _ nh)];exact hz b off nh
 .intro ha;have:=hn ha;rw[dp] at this
  simpa using this
 intro p hp _;rw[dp]
 simpa using hp
end
theorem F4{P:Program}{N n:Nat}{t:TypeId}{k:IntKind}{p:List PV}(hu:P.underlying t=some (.int k))(h:jS P N (n+1) t p):∃z,p=[.int k z]/\(Lit.int k z).wf=true:=by simp only[jS,hu] at h;exact h
theorem amr{P:Program}{N n:Nat}{t:TypeId}{p:List PV}(hu:P.underlying t=some .bool)(h:jS P N (n+1) t p):∃b,p=[.bool b]:=by simp only[jS,hu] at h;exact h
theorem ams{P:Program}{N n:Nat}{t e:TypeId}{p:List PV}(hu:P.underlying t=some (.slice e))(h:jS P N (n+1) t p):∃es,p=[.sl es]/\es.length<=N/\ ∀x∈es,jS P N n e x:=by simp only[jS,hu] at h;exact h
theorem aio{P:Program}{t:TypeId}{k:TypeDesc}{x:PV}(hu:P.underlying t=some k)(hk:∀fs,k≠ .struct fs):BJ P t [x]=.one (.p x):=by
 unfold BJ;rw[hu];cases k<;>first
  |rfl
  |exact(hk _ rfl).elim
theorem aip{P:Program}{t:TypeId}{fs:Array Field}{x:List PV}(hu:P.underlying t=some (.struct fs)):BJ P t x=.agg (x.map .p):=by unfold BJ;rw[hu]
theorem aoo{S:Sys}{G:World->Prop}(hS:Hv S G)(Vn:∀w,G w->Good G w){fn:Func}{s:ChangeSpec}{f n N:Nat}{handsOn again fresh apart:Bool}(MR:s.vars=[])
  (hfn:∀(H:Type) (ds:List (DataW H)),ds.length=fn.params.toList.length->s.fn H ds={results:=[.lit (.bool true)],args:=ds}) {tb:TypeId} (AS:fn.resultTypes= #[tb]) (htb:S.P.underlying tb=some .bool)
  (hk:∀t∈fn.params.toList,jM S.P n t=true) (law:∀pvss,N4 S.P N n fn.params.toList pvss->aI S f (BK S.P fn.params.toList pvss) (.one (.p (.bool true))))
  {H:Type} {enc:TypeId×Value->H} {W:World} {base:Nat} {args:Array Value} {ds gs:List (DataW H)} {before:List MemPlace}
  (hval:∀(j:Nat) t v,fn.params[j]?=some t->args[j]?=some v->Value.okWide S.P W .any base t v)
  (hW:DataW.Whole enc S.P fn.params.toList s.vars apart W args.toList ds gs before) (hG:G W) (hfit:∀d∈ds,Fits N d):
  Calls S.P f args W fun e W'=>∃v,e=.returned v/\s.post enc S.P fn apart fresh handsOn again W args v W':=by
 have hW':=hW;obtain⟨p,q,hA,hV,rfl,hfz,iS⟩:=hW;rw[MR] at hV;obtain⟨rfl,rfl⟩:=trodVars_none hV;obtain⟨_,hlen⟩:=ag1 hk hA;obtain⟨pvss,h1,h2⟩:=aiC (r:=.any) (b0:=base) hk (fun j t v a b=>hval j t v (by simpa using a) (by simpa using b)) hA hfit;refine((law pvss h1).calls hS W (Vn W hG) args h2).mono ?_;rintro e W' ⟨val,bs,rfl,hg,_,_,vs,q1,q2⟩
 obtain⟨v0,mO,e1,e2,e3,e4⟩:=q2;have MH:vs=[val]:=q1;subst MH;cases e1;have hv:val=.bool true:=by
  generalize hx:PV.bool true=x at e2;cases e2<;>cases hx
  rfl
 subst hv;have hb:Below W.heap.size W W':=⟨hg.os,hg.tape,hg.output,hg.size,hg.keep⟩;have aw:∀x∈p++[],x.block<W.heap.size:=fun x hx=>hW'.lt x hx;refine⟨_,rfl,aqZ (pa:=p) (pv:=[]) hW' ?_ ?_ ?_ rfl hb ?_⟩
 .intro b sp hd;rw[jR,hfn H ds hlen,AS];exact trodAll_cons_mk (shut_bool htb _) trodAll_mk0
 .intro GY nT;rw[jR,hfn H ds hlen];exact aub (fun t ht=>⟨n,hk t ht⟩) hA (fun x hx=>hb.same (aw x (by simpa using hx))) (fun x hx=>nT x (by simpa using hx))
 .intro GY nT;rw[jR,hfn H ds hlen,MR];rfl
 exact ok_one AS rfl (okWide_bool_mk htb _)
end Go.Abs
namespace Go.Abs
theorem afC(ak:Env)(t:Nat)(v:V):put ak (some t) v=dB ak t v:=rfl
theorem afA(ak:Env)(v:V):put ak none v=ak:=rfl
theorem Z6(ak:Env)(n:Nat):ev ak (.t n)=ak n:=rfl
theorem Z4(ak:Env)(n:Int):ev ak (.i n)=.one (.p (.int .i64 n)):=rfl
theorem Z3(ak:Env)(x:Bool):ev ak (.b x)=.one (.p (.bool x)):=rfl
theorem Z5(ak:Env)(v:V):ev ak (.k v)=v:=rfl
theorem acO(a:V)(l:List V):rX (a::l) 0=a:=rfl
theorem acN(a:V)(l:List V)(n:Nat):rX (a::l) (n+1)=rX l n:=rfl
def Ff(v:V)(want:Bool):Option Bool:=match v with
 | .one (.p (.bool b))=>some (b==want)
 | .undef=>some false
 |_=>none
theorem ahg(b want:Bool):Ff (.one (.p (.bool b))) want=some (b==want):=rfl
theorem ahh(want:Bool):Ff .undef want=some false:=rfl
section
variable {S:Sys} {al:Al} {o:bl} {ak:Env} {aj:aq} {tr:List bR} {K:Env->aq->List bR->Prop} {d:Option Nat}
theorem Yw{id:Nat}{Q:dy}:nJ id Q .normal ak aj=Q .normal ak aj:=rfl
theorem Yx{id:Nat}{Q:dy}:nJ id Q .ret ak aj=Q .ret ak aj:=rfl
theorem Yv{id i:Nat}{Q:dy}:nJ id Q (.exit i) ak aj=if i=id then Q .normal ak aj else Q (.exit i) ak aj:=rfl
end
def WN (S:Sys)(al:Al)(ops:List bl)(Q:Env->aq->Prop)(ak:Env)(aj:aq):Prop:=∀tr,WO S al ops (fun ak aj _=>Q ak aj) ak aj tr
def Is(S:Sys)(al:Al)(p:eX)(d:Option Nat)(ak:Env)(aj:aq)(K:Env->aq->Prop):Prop:=
 match p with
 | .fail=>False
 | .done v u r=>al.ff (r++u.map (·.1))=true/\K (put ak d v) (app u aj)
 | .pc f vs r s=>∃x,aI S f vs x/\match land aj r s (x.ig (S.lone s)) with
  |some (v,u)=>al.ff (r++u.map (·.1))=true/\K (put ak d v) (app u aj)
  |none=>False
 | .sc f vs=>al.holds (allow (S.ctx al) f vs aj)=true/\ ∃v ao,iJ S f vs (allow (S.ctx al) f vs aj) aj v ao/\K (put ak d v) ao
def O4(S:Sys)(al:Al)(w:Option Bool)(o:bl)(ak:Env)(aj:aq)(K:Env->aq->Prop):Prop:=
 match w with
 |none=>False
 |some false=>K (put ak o.dst .undef) aj
 |some true=>Is S al (bn S.shared ak aj o.op) o.dst ak aj K
section
variable {S:Sys} {al:Al} {ak:Env} {aj:aq}
theorem ahL{ops:List bl}{R R':Env->aq->Prop}{tr tr':List bR}(h:WO S al ops (fun ak aj _=>R ak aj) ak aj tr)(hR:∀e b,R e b->R' e b):WO S al ops (fun ak aj _=>R' ak aj) ak aj tr':=by obtain⟨n,e,b,es,h1,h2⟩:=h;exact⟨n,e,b,es,h1,hR _ _ h2⟩
theorem ahY{ops:List bl}{Q:dy}:W S al (.region false ops) Q ak aj↔WN S al ops (fun ak aj=>Q .normal ak aj) ak aj:=by
 rw[X1];constructor
 .intro h tr;obtain⟨n,e,b,es,h1,_,h2⟩:=h;exact⟨n,e,b,es,h1,h2⟩
 intro h;obtain⟨n,e,b,es,h1,h2⟩:=h [];exact⟨n,e,b,es,h1,(fun h=>by cases h),h2⟩
theorem ahK{R:Env->aq->Prop}:WN S al [] R ak aj↔R ak aj:=⟨fun h=>Rz.1 (h []),fun h _=>Rz.2 h⟩
theorem abT{o:bl}{os:List bl}{R:Env->aq->Prop}{w:Option Bool}(tr:List bR):DZ S al w o ak aj tr (WO S al os fun e b _=>R e b)↔O4 S al w o ak aj (WN S al os R):=by
 have k:∀ {e:Env} {b:aq} {t:List bR},WO S al os (fun e b _=>R e b) e b t↔WN S al os R e b:=fun {e b t}=>⟨fun h t'=>ahL h fun _ _ h=>h,fun h=>h t⟩;cases w with
 |none=>exact Iff.rfl
 |some w=>
  cases w with
  |false=>exact k (t:=tr++[⟨[],[],[]⟩])
  |true=>
   simp only[DZ,O4];cases bn S.shared ak aj o.op with
   |fail=>exact Iff.rfl
   |done v u r=>simp only[FZ,Is,k]
   |pc f vs r s=>
    simp only[FZ,Is];refine exists_congr fun x=>and_congr Iff.rfl ?_;cases land aj r s (x.ig (S.lone s)) with
    |none=>exact Iff.rfl
    |some y=>simp only[k]
   |sc f vs=>simp only[FZ,Is,k]
theorem XX{o:bl}{os:List bl}{R:Env->aq->Prop}:WN S al (o::os) R ak aj↔O4 S al (wanted ak o.guard) o ak aj (WN S al os R):=by
 constructor
 .intro h;exact(abT []).1 (N7.1 (h []))
 intro h tr;exact N7.2 ((abT tr).2 h)
variable {o:bl} {K:Env->aq->Prop} {d:Option Nat}
end
theorem bft:(false==true)=false:=rfl
theorem btf:(true==false)=false:=rfl
theorem bff:(false==false)=true:=rfl
theorem btt:(true==true)=true:=rfl
theorem afa{aj:aq}{x:PV}:iA aj (.one (.p x))=some (.one (.p x)):=rfl
theorem norm_int(k:IntKind)(n:Int):(PV.int k n).norm=.int k n:=rfl
theorem aeN(b:Bool):(PV.bool b).norm=.bool b:=rfl
theorem aeV(s:ByteArray):(PV.str s).norm=.str s:=rfl
theorem aeT:PV.nils.norm=.sl []:=rfl
theorem aeU(es:List (List PV)):(PV.sl es).norm=.sl es:=rfl
theorem Wq(es:List PV):(PV.box es).norm=.box es:=rfl
theorem aeO(f:Nat)(a b:List PV):(PV.fn f a b).norm=.fn f a b:=rfl
theorem aeS:PV.uG.norm=.uG:=rfl
theorem aeQ:PV.yn.norm=.yn:=rfl
theorem aeR:PV.rj.norm=.rj:=rfl
theorem aeP(a:Bool)(e:List (PV×List PV)):(PV.mp a e).norm=.mp a e:=rfl
theorem agw{aj:aq}:Bl aj []=some ([],[]):=rfl
def W5(x:Option (V×List Nat))(y:Option (List V×List Nat)):Option (List V×List Nat):=match x,y with
 |some (b,x),some (bs,y)=>some (b::bs,x++y)
 |_,_=>none
theorem agv{aj:aq}{x:V}{xs:List V}:Bl aj (x::xs)=W5 (nA aj x) (Bl aj xs):=by simp only[Bl,W5,collect];cases nA aj x<;>cases collect (nA aj) xs<;>rfl
theorem agr{b:V}{x:List Nat}{bs:List V}{y:List Nat}:W5 (some (b,x)) (some (bs,y))=some (b::bs,x++y):=rfl
theorem agu{aj:aq}{x:PV}:nA aj (.one (.p x))=some (.one (.p x.norm),[]):=rfl
end Go.Abs
