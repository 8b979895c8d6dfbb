/-
  Each operation of the abstract machine is what the program does; the machine is sound in any order that a region draws; a quick evaluator; library functions.
-/
import Derived.Test.YtanhekelecofdaaGreatDoorMa
import Derived.Laws.BytesString
import Derived.LoopN
import Derived.Scope
import Derived.Orders
import Derived.ChangeReads
import Derived.ChangeStays
import Derived.DataReads
import Derived.Below
import Derived.Sort.Grow
import Derived.Deep.Draws
import Derived.Lib.ItoaNum
import Derived.Lib.Join
import Derived.Lib.BitFns
import Derived.Lib.LaidTab
import Derived.ChangeSame
import Derived.ProofKit
import Derived.OpenShut
set_option linter.all false
namespace Go.Abs
variable {P:Program} {w0:World}
section
variable{ag:Bool}
def PM(w:World)(own:Nat->Prop)(ag:Bool)(es:t_)(ents:Array MapEntry):Prop:=ents.size=es.length/\ ∀(i:Nat) (q:PV) (v:b_) (e:MapEntry),es[i]?=some (q,v)->ents[i]?=some e->cN w own q e.key/\ ∃g:Array Value,(ag=true->e.val=.agg g)/\(ag=false-> #[e.val]=g)/\dM w own v g.toList
theorem Nw{w:World}{r:Nat}{es:Array MapEntry}{clock:Nat}(hb:w.heap[r]?=some (.map es clock)):(getObj r).run P w=.ok (.map es clock) w:=by simp[getObj,Sem.run,hb]
theorem ahE{w:World}{r:Nat}{es:Array MapEntry}{clock:Nat}{ob:Obj}(hb:w.heap[r]?=some (.map es clock)):(setObj r ob).run P w=.ok () {w with heap:=w.heap.setIfInBounds r ob}:=by simp[setObj,Sem.run,hb]
theorem af1{w:World}{own:Nat->Prop}{es:t_}{v:Value}(h:cN w own (.mp ag es) v):
  ∃r ents clock,v=.map (some r)/\w.heap[r]?=some (.map ents clock)/\PM w own ag es ents:=by
 cases h with
 |mp r ents clock g ho hb hl hk hv hr=>
  refine⟨r,ents,clock,rfl,hb,hl,fun i q v e h1 h2=>⟨hk i q v e h1 h2,g i,(hv i q v e h1 h2).2.1,(hv i q v e h1 h2).2.2,?_,fun j x u a b=>?_⟩⟩
  .simpa using (hv i q v e h1 h2).1
  exact hr i q v j x u h1 a (by simpa using b)
theorem Om{m:Mem}(ay:Ok w0 m){id g:Nat}{v:Value}(h:cF m (.one (.kE id g)) v){es:t_}(hb:m.aj id=(g,some (.map ag es))\/m.aj id=(g,some (.fmap ag es))):
  ∃r ents clock,v=.map (some r)/\r=m.σ id/\m.w.heap[r]?=some (.map ents clock)/\PM m.w m.own ag es ents:=by
 have h:dz m (.kE id g) v:=h;cases h with
 |kE r hg hr=>
  rcases hb with hb|hb
  .obtain⟨ents,clock,h1,h2,h3⟩:=ay.obj id _ (congrArg Prod.snd hb);have:=hr (by rw[hb]) (by rw[hb];rfl);subst this;exact⟨_,ents,clock,rfl,rfl,h1,h2,h3⟩
  obtain⟨ents,clock,h1,h2,h3,_⟩:=ay.obj id _ (congrArg Prod.snd hb);have:=hr (by rw[hb]) (by rw[hb];rfl);subst this;exact⟨_,ents,clock,rfl,rfl,h1,h2,h3⟩
theorem aql{m:Mem}(ay:Ok w0 m){x:V}{v:Value}{es:t_}{r:a_}(h:mapOf m.aj ag x=some (es,r))(hv:cF m x v):
  ∃ents:Array MapEntry,((v=.map none/\ents= #[])\/ ∃ref clock,v=.map (some ref)/\m.w.heap[ref]?=some (.map ents clock))/\PM m.w m.own ag es ents:=by
 unfold mapOf at h;split at h
 .cases h;exact⟨#[],.inl ⟨aew hv,rfl⟩,rfl,fun i q v e h=>by simp at h⟩
 .rename_i sK im;split at h
  .rename_i e;subst e;cases h;obtain⟨hp⟩:dz m _ v:=hv;obtain⟨r,ents,clock,h1,h2,h3⟩:=af1 hp;exact⟨ents,.inr ⟨r,clock,h1,h2⟩,h3⟩
  cases h
 .rename_i id g;split at h
  .rename_i g' sK im hb;split at h
   .rename_i hc;obtain⟨rfl,rfl⟩:=hc;cases h;obtain⟨r,ents,clock,h1,_,h2,h3⟩:=Om ay hv (.inl hb);exact⟨ents,.inr ⟨r,clock,h1,h2⟩,h3⟩
   cases h
  .rename_i g' sK im hb;split at h
   .rename_i hc;obtain⟨rfl,rfl⟩:=hc;cases h;obtain⟨r,ents,clock,h1,_,h2,h3⟩:=Om ay hv (.inr hb);exact⟨ents,.inr ⟨r,clock,h1,h2⟩,h3⟩
   cases h
  cases h
 cases h
theorem apP{m:Mem}(ay:Ok w0 m){x:V}{v:Value}{n:Nat}{r:a_}(h:rM m.aj x=some (n,r))(hv:cF m x v):
  (v=.map none/\n=0)\/ ∃ref ents clock,v=.map (some ref)/\m.w.heap[ref]?=some (.map ents clock)/\ents.size=n:=by
 unfold rM at h;split at h
 .cases h;exact .inl ⟨aew hv,rfl⟩
 .cases h;obtain⟨hp⟩:dz m _ v:=hv;obtain⟨r,ents,clock,h1,h2,h3⟩:=af1 hp;exact .inr ⟨r,ents,clock,h1,h2,h3.1⟩
 .rename_i id g;split at h
  .rename_i g' sK im hb;split at h
   .rename_i hc;subst hc;cases h;obtain⟨r,ents,clock,h1,_,h2,h3⟩:=Om ay hv (.inl hb);exact .inr ⟨r,ents,clock,h1,h2,h3.1⟩
   cases h
  .rename_i g' sK im hb;split at h
   .rename_i hc;subst hc;cases h;obtain⟨r,ents,clock,h1,_,h2,h3⟩:=Om ay hv (.inr hb);exact .inr ⟨r,ents,clock,h1,h2,h3.1⟩
   cases h
  cases h
 cases h
def ES(kind:TypeDesc)(kd:Nat):Prop:=(kd=0/\ ∃k,kind=.int k)\/(kd=1/\kind=.string)\/(kd=2/\kind=.bool)
theorem afn{t:TypeId}{kd:Nat}(h:keyOf P t=some kd):∃kind,P.underlying t=some kind/\ES kind kd:=by
 unfold keyOf at h;split at h
 .rename_i k hk;cases h;exact⟨_,hk,.inl ⟨rfl,_,rfl⟩⟩
 .rename_i hk;cases h;exact⟨_,hk,.inr (.inl ⟨rfl,rfl⟩)⟩
 .rename_i hk;cases h;exact⟨_,hk,.inr (.inr ⟨rfl,rfl⟩)⟩
 cases h
theorem ZB{w:World}{own:Nat->Prop}{k q:PV}{kv qv:Value}{kind:TypeDesc}{b:Bool}(hk:ES kind (iK k))(h:sameKey k q=some b)(h1:cN w own k kv)(h2:cN w own q qv):Instr.sameNow kind kv qv=some b:=by
 unfold sameKey at h;split at h
 .rename_i a b' c d;split at h
  .rename_i e;subst e;cases h;rcases hk with ⟨_,x,rfl⟩|⟨e,_⟩|⟨e,_⟩
   .cases h1;cases h2;simp[Instr.sameNow]
   .simp[iK] at e
   simp[iK] at e
  cases h
 .cases h;rcases hk with ⟨e,_⟩|⟨_,rfl⟩|⟨e,_⟩
  .simp[iK] at e
  .cases h1;cases h2;simp[Instr.sameNow]
  simp[iK] at e
 .cases h;rcases hk with ⟨e,_⟩|⟨e,_⟩|⟨_,rfl⟩
  .simp[iK] at e
  .simp[iK] at e
  cases h1;cases h2;simp[Instr.sameNow]
 cases h
theorem sameKey_eq{w:World}{own:Nat->Prop}{k q:PV}{kv qv:Value}(h:sameKey k q=some true)(h1:cN w own k kv)(h2:cN w own q qv):qv=kv:=by
 unfold sameKey at h;split at h
 .split at h
  .rename_i e;subst e;simp at h;subst h;cases h1;cases h2;rfl
  cases h
 .rename_i a b;have e:(a==b)=true:=by simpa using h
  rw[beq_toListBytes] at e;have e:a=b:=by
   have e:a.toList=b.toList:=by simpa using e
   rw[ByteArray.toList_eq,ByteArray.toList_eq] at e;exact ByteArray.ext (Array.toList_inj.1 e)
  subst e;cases h1;cases h2;rfl
 .simp at h;subst h;cases h1;cases h2;rfl
 cases h
theorem acS{w:World}{own:Nat->Prop}{k:PV}{kv:Value}{kind:TypeDesc}(hk:ES kind (iK k))(h1:cN w own k kv):∀ {es:t_} {l:List MapEntry} {i:Nat} {f:Option (Nat×b_)},
  l.length=es.length->(∀(j:Nat) (q:PV) (v:b_) (e:MapEntry),es[j]?=some (q,v)->l[j]?=some e->cN w own q e.key)->qG k es i=some f->
  (f=none/\Instr.findNow kind kv l i=some none)\/ ∃j q v e,f=some (i+j,v)/\es[j]?=some (q,v)/\l[j]?=some e/\sameKey k q=some true/\Instr.findNow kind kv l i=some (some (i+j,e.val)):=by
 intro es
 induction es with
 |nil=>
  intro l i f hl _ hf;simp[qG] at hf;cases l with
  |nil=>exact .inl ⟨hf.symm,rfl⟩
  |cons _ _=>simp at hl
 |cons p r ih=>
  intro l i f hl hq hf;obtain⟨a,v⟩:=p;cases l with
  |nil=>simp at hl
  |cons e l=>
   have pX:=hq 0 a v e rfl rfl;simp only[qG] at hf;split at hf
   .rename_i hs;cases hf;exact .inr ⟨0,a,v,e,rfl,rfl,rfl,hs,by simp[Instr.findNow,ZB hk hs h1 pX]⟩
   .rename_i hs;rcases ih (l:=l) (i:=i+1) (f:=f) (by simpa using hl) (fun j q v e a b=>hq (j+1) q v e (by simpa using a) (by simpa using b)) hf with ⟨e1,e2⟩|⟨j,q,v',e',e1,e2,e3,e4,e5⟩
    .exact .inl ⟨e1,by simp[Instr.findNow,ZB hk hs h1 pX,e2]⟩
    refine .inr ⟨j+1,q,v',e',by rw[e1];congr 2;omega,by simpa using e2,by simpa using e3,e4,?_⟩;simp only[Instr.findNow,ZB hk hs h1 pX,e5];congr 3;omega
   cases hf
theorem akR{t:TypeId}{kind:TypeDesc}{kd:Nat}{b:Bool}{v:Value}(w:World)(h:P.underlying t=some kind)(hk:ES kind kd)(n:Nat):(Instr.checkKey b (n+1) t v).run P w=.ok () w:=by rcases hk with ⟨_,k,rfl⟩|⟨_,rfl⟩|⟨_,rfl⟩<;>simp[Instr.checkKey,run_underlying h]
theorem Mx{t:TypeId}{kind:TypeDesc}{kd:Nat}{b:Bool}{v:Value}(w:World)(h:P.underlying t=some kind)(hk:ES kind kd):(Instr.checkKey b 10000 t v).run P w=.ok () w:=akR w h hk 9999
theorem as5{w:World}{own:Nat->Prop}{k:PV}{kv:Value}{kind:TypeDesc}(hk:ES kind (iK k))(h:cN w own k kv)(n:Nat):Instr.sameBits n kv kv=true:=by
 cases h<;>first
  |(simp[iK,ES] at hk;done)
  |(simp[Instr.sameBits];done)
  |(simp[Instr.sameBits,beq_toListBytes];done)
theorem aps{w0 w:World}{own:Nat->Prop}{k:PV}{kv:Value}{kind:TypeDesc}(hk:ES kind (iK k))(h:cN w0 own k kv):(Instr.keyThatStays kv kv).run P w=.ok kv w:=by rw[Instr.keyThatStays,as5 hk h,aG rfl];rfl
theorem Tx{t:TypeId}{kind:TypeDesc}{v:Value}{l:List MapEntry}{r:Option (Nat×Value)}(w:World)(h:P.underlying t=some kind)(hf:Instr.findNow kind v l 0=some r):(Instr.findKey t v l).run P w=.ok r w:=by simp[Instr.findKey,run_underlying h,hf]
theorem afW{m:Mem}{v:b_}{x:V}{val:Value}{g:Array Value}(h:mapVal ag v=some x)(h1:ag=true->val=.agg g)(h2:ag=false-> #[val]=g)(hp:dM m.w m.own v g.toList):cF m x val/\pE m x val:=by
 cases ag with
 |true=>simp only[mapVal,gn] at h;subst h;exact⟨cF.agg.2 ⟨g,h1 rfl,hp.Ey⟩,⟨g,h1 rfl,hp.Ey⟩⟩
 |false=>
  have h2:=h2 rfl;subst h2;cases v with
  |nil=>simp[mapVal] at h
  |cons c r=>
   cases r with
   |nil=>simp only[mapVal,gn] at h;subst h;have:=hp.2 0 c val rfl rfl;exact⟨nk this,dz.p this⟩
   |cons _ _=>simp[mapVal] at h
section
variable {m:Mem} {ak:Env} {a:Act} {o:Oper} (ay:Ok w0 m) (hr:jt m ak a.tmps)
include ay
theorem atD{t kt e:TypeId}{s:Nat}(ho:o.op=.makeMap t none):
  gC P w0 a.eval o m (.one (.kE s ((m.aj s).1+1))) [(s,((m.aj s).1+1,some (.map ag [])))]:=by
 refine⟨.map (some m.w.heap.size),m.fresh (.map #[] 0) s 0 (.map ag []),.inl ?_,ac7 ay _ s 0 _ ⟨#[],0,ac6 _ s 0 _,rfl,fun i q v e h=>by simp at h⟩,TC _ s 0 _,Xl ay _ s 0 _,Xk _ _ s 0 _,cF.one.2 (.kE _ ?_ fun _ _=>?_)⟩
 .simp[execOp,ho,Instr.makeMap];rfl
 .simp[Mem.fresh,Mem.install,Mem.later,aU]
 simp[Mem.fresh,Mem.install,aU]
include hr
theorem atF{c:Call}{x:Operand}{x':aX}{t k e:TypeId}{n:Nat}{r:a_}(ho:o.op=.call c)(hc:c.callee=.builtin .len)(has:c.args= #[x])(jU:c.argTypes[0]?=some t)(ht:P.underlying t=some (.map k e))
  (hx:de x=some x') (hv:rM m.aj (ev ak x')=some (n,r)):gC P w0 a.eval o m (.one (.p (.int .i64 n))) []:=by
 refine .calm ay ?_ (nk (.int _ _));have h0:(#[a.eval x]:Array Value)[0]?=some (a.eval x):=rfl;rcases apP ay hv (eZ hx hr) with ⟨h1,rfl⟩|⟨ref,ents,clock,h1,h2,rfl⟩
 .simp[execOp,ho,resolve,hc,has,jU,invoke,builtin,Builtin.len_,run_underlying ht,h1,goInt]
 simp[execOp,ho,resolve,hc,has,jU,invoke,builtin,Builtin.len_,run_underlying ht,h1,goInt,Nw h2]
theorem atz{t kt e:TypeId}{x k:Operand}{x' k':aX}{ok:Bool}{z:b_}{q:w_}{kd:Nat}{es:t_}{r:a_}{key:PV}{f:Option (Nat×b_)}{w:V}(ho:o.op=.lookup t x k ok)(ht:P.underlying t=some (.map kt e))
  (hz:Br P e=some z) (BU:keyOf P kt=some kd) (zj:VF P e=q.isSome) (hx:de x=some x') (hk:de k=some k') (hm:mapOf m.aj q.isSome (ev ak x')=some (es,r)) (DM:ev ak k'=.one (.p key)) (wO:iK key=kd)
  (hf:qG key es 0=some f) (hw:mapVal q.isSome ((f.map (·.2)).getD z)=some w):gC P w0 a.eval o m (if ok then .tup [w,.one (.p (.bool f.isSome))] else w) []:=by
 obtain⟨kind,A9,DN⟩:=afn BU;obtain⟨ents,TQ,hl,eY⟩:=aql ay hm (eZ hx hr);have Oj:=eZ hk hr;rw[DM] at Oj;obtain⟨dQ⟩:dz m _ _:=Oj;have gG:(∃ref clock,a.eval x=.map (some ref)/\m.w.heap[ref]?=some (.map ents clock))\/a.eval x=.map none/\ents= #[]:=by
  rcases TQ with h|h
  .exact .inr h
  exact .inl h
 have key:∀(val:Value) (b:Bool),cF m w val->pE m w val->f.isSome=b->(Instr.lookup t (a.eval x) (a.eval k) ok).run P m.w=.ok (if ok then .tuple #[val,.bool b] else val) m.w->gC P w0 a.eval o m (if ok then .tup [w,.one (.p (.bool f.isSome))] else w) []:=by
  intro val b h1 jT h2 h3;refine .calm ay (x:=if ok then .tuple #[val,.bool b] else val) ?_ ?_
  .simp[execOp,ho,h3]
  cases ok
  .exact h1
  refine⟨_,rfl,rfl,fun j y u p q=>?_⟩;rcases j with _|_|j
  .simp at p q;subst p q;exact jT
  .simp at p q;subst p q;rw[h2];exact dz.p (.bool _)
  simp at p
 rcases acS (kind:=kind) (by rw[wO];exact DN) dQ (l:=ents.toList) (by simpa using hl) (fun j q v e h1 h2=>(eY j q v e h1 (by simpa using h2)).1) hf with ⟨rfl,hn⟩|⟨j,q',v,e',rfl,h2,h3,_,hn⟩
 .obtain⟨zv,i,hi,yl,KK,mM,dX⟩:=PE hz;obtain⟨v1,v2⟩:=afW (m:=m) (val:=zv) (g:=zv.cells) hw (fun hq=>by
    rw[hq] at zj;unfold VF at zj;rw[hi] at zj;simp only[yl] at zj;cases zv<;>simp[Value.cells] at zj |-) (fun hq=>by
    rw[hq] at zj;unfold VF at zj;rw[hi] at zj;simp only[yl] at zj;cases zv<;>simp[Value.cells] at zj |-) (dX m.w m.own)
  refine key zv false v1 v2 rfl ?_;have FC:=Tx (P:=P) m.w A9 hn;rcases gG with ⟨ref,clock,h1,h2⟩|⟨h1,h2⟩
  .cases ok<;>simp[Instr.lookup,run_underlying ht,h1,Nw h2,Mx m.w A9 DN,FC,zeroValue,typeInfo,hi,yl]
  subst h2;cases ok<;>simp[Instr.lookup,run_underlying ht,h1,Mx m.w A9 DN,Instr.findKey,run_underlying A9,Instr.findNow,zeroValue,typeInfo,hi,yl]
 obtain⟨hqk,g,Hw,DI,dX⟩:=eY j q' v e' h2 (by simpa using h3);obtain⟨v1,v2⟩:=afW hw Hw DI dX;refine key e'.val true v1 v2 rfl ?_;have FC:=Tx (P:=P) m.w A9 hn;rcases gG with ⟨ref,clock,h1,h2⟩|⟨h1,h2⟩
 .cases ok<;>simp[Instr.lookup,run_underlying ht,h1,Nw h2,Mx m.w A9 DN,FC]
 subst h2;simp at h3
theorem ahK{t kt e:TypeId}{x k y:Operand}{x' k' y':aX}{kd:Nat}{ag:Bool}{id g:Nat}{es:t_}{key:PV}{cs:f_}{ps:b_}{f:Option (Nat×b_)}(ho:o.op=.mapUpdate t x k y\/o.op=.insert t x k y)(ht:P.underlying t=some (.map kt e))
  (BU:keyOf P kt=some kd) (hx:de x=some x') (hk:de k=some k') (hy:de y=some y') (hm:ev ak x'=.one (.kE id g)) (hb:m.aj id=(g,some (.map ag es))) (DM:ev ak k'=.one (.p key)) (wO:iK key=kd)
  (dF:sM ag (ev ak y')=some cs) (dX:CJ cs=some ps) (hf:qG key es 0=some f):
  gC P w0 a.eval o m .undef [(id,(g,some (.map ag (match f with|some (i,_)=>es.set i (key,ps)|none=>es++[(key,ps)]))))]:=by
 obtain⟨kind,A9,DN⟩:=afn BU;have hxr:=eZ hx hr;rw[hm] at hxr;have hid:=congrArg Prod.snd hb;have hg:=congrArg Prod.fst hb;obtain⟨ref,ents,clock,yw,bt,hh,hl,eY⟩:=Om ay hxr (.inl hb);subst bt;have Oj:=eZ hk hr;rw[DM] at Oj;obtain⟨dQ⟩:dz m _ _:=Oj;have hyr:=eZ hy hr
 -- the value's cells
 have hval:∃gv:Array Value,(ag=true->a.eval y=.agg gv)/\(ag=false-> #[a.eval y]=gv)/\dM m.w m.own ps gv.toList:=by
  generalize ev ak y'=vy at dF hyr;cases ag with
  |true=>
   cases vy<;>simp[sM] at dF
   subst dF;obtain⟨arr,h1,h2⟩:=cF.agg.1 hyr;exact⟨arr,fun _=>h1,fun h=>(by cases h),Ps dX h2⟩
  |false=>
   cases vy<;>simp[sM] at dF
   subst dF;refine⟨#[a.eval y],fun h=>(by cases h),fun _=>rfl,Ps dX ⟨rfl,fun j x u p q=>?_⟩⟩;rcases j with _|j
   .simp at p q;subst p q;exact hyr
   simp at p
 obtain⟨gv,zI,qP,hvp⟩:=hval;have aB:=wL hh;have KO:∀(Dt:Array MapEntry) (Fa:Nat) (im:t_),(execOp a.eval o).run P m.w=.ok .skip {m.w with heap:=m.w.heap.setIfInBounds (m.σ id) (.map Dt Fa)}->PM m.w m.own ag im Dt->
   gC P w0 a.eval o m .undef [(id,(g,some (.map ag im)))]:=by
  intro Dt Fa im jX TQ;have hs:(m.w.heap.setIfInBounds (m.σ id) (.map Dt Fa)).size=m.w.heap.size:=af;have hko:∀c,c≠m.σ id->(m.w.heap.setIfInBounds (m.σ id) (.map Dt Fa))[c]?=m.w.heap[c]? :=fun c hc=>by rw[Array.getElem?_setIfInBounds];rw[aC (fun e=>hc e.symm)]
  have eO:Ev m (m.kK {m.w with heap:=m.w.heap.setIfInBounds (m.σ id) (.map Dt Fa)} id (.map ag im)):=Pm hid rfl rfl rfl rfl rfl hs hko;refine⟨_,m.kK {m.w with heap:=m.w.heap.setIfInBounds (m.σ id) (.map Dt Fa)} id (.map ag im),.inr ⟨jX,rfl⟩,Vc hid rfl ay rfl rfl rfl rfl hs hko ?_,eO,rfl,?_,rfl⟩
  .refine⟨Dt,Fa,?_,TQ.1,fun i q v e h1 h2=>?_⟩
   .show(m.w.heap.setIfInBounds (m.σ id) (.map Dt Fa))[m.σ id]?=_;rw[Array.getElem?_setIfInBounds,aG rfl,aG aB]
   obtain⟨p1,gg,p2,p3,p4⟩:=TQ.2 i q v e h1 h2;exact⟨p1.ev eO.zero,gg,p2,p3,p4.ev eO.zero⟩
  simp only[Mem.kK,app,hg]
 rcases acS (kind:=kind) (by rw[wO];exact DN) dQ (l:=ents.toList) (by simpa using hl) (fun j q v e h1 h2=>(eY j q v e h1 (by simpa using h2)).1) hf with ⟨rfl,hn⟩|⟨j,q',v,e',rfl,h2,h3,h4,hn⟩
 .refine KO (ents.push {key:=a.eval k,val:=a.eval y,born:=clock}) (clock+1) _ ?_ ?_
  .have FC:=Tx (P:=P) m.w A9 hn;rcases ho with ho|ho<;>simp[execOp,ho,Instr.mapUpdate,run_underlying ht,yw,Nw hh,Mx m.w A9 DN,FC,ahE hh]
  refine⟨by simp[hl],fun i q v e h1 h2=>?_⟩;by_cases hi:i<es.length
  .rw[xB hi] at h1;rw[Array.getElem?_push,aC aa] at h2;exact eY i q v e h1 h2
  rw[Ag aa] at h1;have:i=es.length:=by
   by_cases h:i-es.length=0
   .omega
   have:=(aW.1 h1).1;simp at this;omega
  subst this;simp at h1;obtain⟨rfl,rfl⟩:=h1;rw[Array.getElem?_push,aG hl.symm] at h2;cases h2;exact⟨dQ,gv,zI,qP,hvp⟩
 have rC:ents[j]?=some e':=by simpa using h3
 have hqe:e'.key=a.eval k:=sameKey_eq h4 dQ (eY j q' v e' h2 rC).1;refine KO (ents.modify j fun e=>{e with key:=a.eval k,val:=a.eval y}) clock _ ?_ ?_
 .have FC:=Tx (P:=P) m.w A9 hn;rw[jr] at FC;have Kp:(Instr.keyThatStays e'.key (a.eval k)).run P m.w=.ok (a.eval k) m.w:=by rw[hqe];exact aps (kind:=kind) (by rw[wO];exact DN) dQ
  rcases ho with ho|ho<;>simp[execOp,ho,Instr.mapUpdate,run_underlying ht,yw,Nw hh,Mx m.w A9 DN,FC,ahE hh,rC,Kp]
 simp only[jr];refine⟨by simp[hl],fun i q v e h1 h2=>?_⟩;rw[rh] at h1;rw[Array.getElem?_modify] at h2;by_cases ir:j=i
 .subst ir;rw[aG rfl] at h1;split at h1
  .cases h1;simp[rC] at h2;subst h2;exact⟨dQ,gv,zI,qP,hvp⟩
  cases h1
 rw[aC ir] at h1;rw[aC ir] at h2;exact eY i q v e h1 h2
end
end
end Go.Abs
namespace Go.Abs
variable {P:Program} {w0:World}
theorem ahw{t:TypeId}{b:Bool}(h:Vb P t=some b):(b=true/\ ∃k,P.underlying t=some (.int k))\/(b=false/\P.underlying t=some .bool):=by
 unfold Vb at h;split at h
 .rename_i k hk;cases h;exact .inl ⟨rfl,_,hk⟩
 .rename_i hk;cases h;exact .inr ⟨rfl,hk⟩
 cases h
theorem al4{a b:PV}{r:Bool}(h:vm true a b=some r):∃k x y,a=.int k x/\b=.int k y/\r=(x==y):=by
 cases a<;>cases b<;>simp[vm] at h
 exact⟨_,_,_,rfl,by rw[h.1],h.2.symm⟩
theorem al3{a b:PV}{r:Bool}(h:vm false a b=some r):∃x y,a=.bool x/\b=.bool y/\r=(x==y):=by
 cases a<;>cases b<;>simp[vm] at h
 exact⟨_,_,rfl,rfl,h.symm⟩
theorem al6{as bs:f_}{r:Bool}(h:wC [] as bs=some r):r=true:=by
 cases as<;>cases bs<;>simp[wC] at h
 exact h
theorem al5{k:Bool}{ks:l_}{as bs:f_}{r:Bool}(h:wC (k::ks) as bs=some r):
  ∃a ar b br r0,as=.p a::ar/\bs=.p b::br/\vm k a b=some r0/\(r0=true->wC ks ar br=some r)/\(r0=false->r=false):=by
 cases as with
 |nil=>simp[wC] at h
 |cons x ar=>
  cases bs with
  |nil=>cases x<;>simp[wC] at h
  |cons y br=>
   cases x<;>cases y<;>simp only[wC] at h<;>try cases h
   rename_i a b;cases he:vm k a b with
   |none=>simp[he] at h
   |some r0=>
    refine⟨a,ar,b,br,r0,rfl,rfl,he,fun e=>?_,fun e=>?_⟩
    .subst e;simpa [he] using h
    subst e;simp[he] at h;exact h
theorem al7{w:World}{m:Mem}(d:Nat){A B:Array Value}:∀ {fs:List Field} {ks:l_} {k:Nat} {as bs:f_} {r:Bool},Lu P k fs=some ks->wC ks as bs=some r->
  (∀(j:Nat) (x:C),as[j]?=some x->∃v,A[k+j]?=some v/\dz m x v)->(∀(j:Nat) (x:C),bs[j]?=some x->∃v,B[k+j]?=some v/\dz m x v)->
  (Op.eqFields (d+1) A B fs).run P w=.ok r w:=by
 intro fs
 induction fs with
 |nil=>intro ks k as bs r hf he _ _;simp[Lu] at hf;subst hf;rw[al6 he];simp[Op.eqFields,Sem.run_pure]
 |cons f fs ih=>
  intro ks k as bs r hf he ha hb;simp only[Lu] at hf;split at hf
  .rename_i b Df h1 h2;split at hf
   .rename_i hc;obtain⟨X6,aok⟩:=hc;cases hf;obtain⟨x,ar,y,br,r0,rfl,rfl,h0,ht,hf⟩:=al5 he;obtain⟨va,hva,wT⟩:=ha 0 (.p x) rfl;obtain⟨vb,hvb,r8⟩:=hb 0 (.p y) rfl;obtain⟨wT⟩:=wT;obtain⟨r8⟩:=r8;rw[u7] at hva hvb;have OD:∀(X:Array Value) (v:Value),X[k]?=some v->(part f.type X f.offset).run P w=.ok v w:=by
     intro X v hX;have zj:(isAgg f.type).run P w=.ok false w:=by rcases ahw h1 with ⟨_,kk,hu⟩|⟨_,hu⟩<;>simp[isAgg,run_underlying hu]
     rw[X6];simp[part,zj,hX]
    have anY:(Op.equalIn (d+1) f.type va vb).run P w=.ok r0 w:=by
     rcases ahw h1 with ⟨rfl,kk,hu⟩|⟨rfl,hu⟩
     .obtain⟨k',p,q,rfl,rfl,rfl⟩:=al4 h0;cases wT;cases r8;simp[Op.equalIn,run_underlying hu]
     obtain⟨p,q,rfl,rfl,rfl⟩:=al3 h0;cases wT;cases r8;simp[Op.equalIn,run_underlying hu]
    simp only[Op.eqFields,aG aok,Sem.run_bind,OD A va hva,OD B vb hvb,anY,Result.andThen_ok];cases r0 with
    |false=>rw[hf rfl];simp[Sem.run_pure]
    |true=>simp only[Ad,dR,if_false];exact ih h2 (ht rfl) (fun j x hx=>by have:=ha (j+1) x (by simpa using hx);rwa[show k+(j+1)=k+1+j by omega] at this) (fun j x hx=>by have:=hb (j+1) x (by simpa using hx);rwa[show k+(j+1)=k+1+j by omega] at this)
   cases hf
  cases hf
def CV:v7->Value->Bool->Prop
 | .ptr,v,b=>∃a,v=.pointer a/\a.isNone=b
 | .slc,v,b=>∃a l c,v=.slice a l c/\a.isNone=b
 | .map,v,b=>∃r,v=.map r/\r.isNone=b
 | .fnc,v,b=>(v=.nilFunc/\b=true)\/ ∃f x y,v=.func f x y/\b=false
 | .ifc,v,b=>(v=.nilIface/\b=true)\/ ∃d x,v=.iface d x/\b=false
 |_,_,_=>False
theorem zL{m:Mem}{k:v7}{x:V}{v:Value}{b:Bool}(h:HR k x=some b)(hr:cF m x v):CV k v b:=by
 unfold HR at h;split at h<;>cases h
 all_goals first
  |(obtain⟨hp⟩:dz m _ v:=hr;cases hp;first
    |exact⟨_,rfl,rfl⟩
    |exact⟨_,_,_,rfl,rfl⟩
    |exact .inl ⟨rfl,rfl⟩
    |exact .inr ⟨_,_,_,rfl,rfl⟩
    |exact .inr ⟨_,_,rfl,rfl⟩)
  |(have hc:dz m _ v:=hr;cases hc;first
    |exact⟨_,rfl,rfl⟩
    |exact⟨_,_,_,rfl,rfl⟩
    |exact .inr ⟨_,_,_,rfl,rfl⟩)
def VP(P:Program)(t:TypeId):v7->Prop
 | .bool=>P.underlying t=some .bool
 | .ptr=>∃e,P.underlying t=some (.pointer e)
 | .slc=>∃e,P.underlying t=some (.slice e)
 | .map=>∃a b,P.underlying t=some (.map a b)
 | .fnc=>∃a b c,P.underlying t=some (.func a b c)
 | .ifc=>∃a,P.underlying t=some (.interface a)
 | .str ks=>∃fs,P.underlying t=some (.struct fs)/\P.stoodInHeld t=false/\P.eqGuardType P.depth t=false/\Lu P 0 fs.toList=some ks
theorem acp{t:TypeId}{x y:Operand}{k:v7}(h:MQ P t x y=some k):VP P t k/\(k=.ifc->K8 x=true\/K8 y=true):=by
 unfold MQ at h;split at h
 .rename_i a ha;split at h
  .rename_i hc;cases h;exact⟨⟨_,ha⟩,fun _=>by simpa using hc⟩
  cases h
 .rename_i ha;cases h;exact⟨ha,fun e=>by cases e⟩
 .rename_i ha;cases h;exact⟨⟨_,ha⟩,fun e=>by cases e⟩
 .rename_i ha;cases h;exact⟨⟨_,ha⟩,fun e=>by cases e⟩
 .rename_i ha;cases h;exact⟨⟨_,_,ha⟩,fun e=>by cases e⟩
 .rename_i ha;cases h;exact⟨⟨_,_,_,ha⟩,fun e=>by cases e⟩
 .rename_i fs ha;split at h
  .rename_i hc;simp only[ef] at h;obtain⟨ks,h1,rfl⟩:=h;simp at hc;exact⟨⟨fs,ha,hc.1,hc.2,h1⟩,fun e=>by cases e⟩
  cases h
 cases h
theorem acq{t:TypeId}{k:v7}{v u:Value}{a b:Bool}(w:World)(hk:VP P t k)(h1:CV k v a)(h2:CV k u b)(dU:a=true\/b=true)(d:Nat):(Op.equalIn (d+1) t v u).run P w=.ok (a&&b) w:=by
 cases k with
 |bool=>exact h1.elim
 |str n=>exact h1.elim
 |ptr=>obtain⟨e,hu⟩:=hk;obtain⟨x,rfl,rfl⟩:=h1;obtain⟨y,rfl,rfl⟩:=h2;cases x<;>cases y<;>simp at dU<;>simp[Op.equalIn,run_underlying hu]
 |slc=>obtain⟨e,hu⟩:=hk;obtain⟨x,_,_,rfl,rfl⟩:=h1;obtain⟨y,_,_,rfl,rfl⟩:=h2;cases x<;>cases y<;>simp at dU<;>simp[Op.equalIn,run_underlying hu]
 |map=>obtain⟨e,e',hu⟩:=hk;obtain⟨x,rfl,rfl⟩:=h1;obtain⟨y,rfl,rfl⟩:=h2;cases x<;>cases y<;>simp at dU<;>simp[Op.equalIn,run_underlying hu]
 |fnc=>obtain⟨e,e',e'',hu⟩:=hk;rcases h1 with ⟨rfl,rfl⟩|⟨_,_,_,rfl,rfl⟩<;>rcases h2 with ⟨rfl,rfl⟩|⟨_,_,_,rfl,rfl⟩<;>simp at dU<;>simp[Op.equalIn,run_underlying hu]
 |ifc=>obtain⟨e,hu⟩:=hk;rcases h1 with ⟨rfl,rfl⟩|⟨_,_,rfl,rfl⟩<;>rcases h2 with ⟨rfl,rfl⟩|⟨_,_,rfl,rfl⟩<;>simp at dU<;>simp[Op.equalIn,run_underlying hu]
section
variable {m:Mem} {ak:Env} {a:Act} {o:Oper} (ay:Ok w0 m) (hr:jt m ak a.tmps)
include ay hr
theorem amb{t:TypeId}{k:v7}{x y:V}{v u:Value}{b:Bool}(hk:VP P t k)(h:Du k x y=some b)(hx:cF m x v)(hy:cF m y u)(d:Nat):(Op.equalIn (d+2) t v u).run P m.w=.ok b m.w:=by
 have _u0:=ay;have _u1:=hr;unfold Du at h;split at h
 .cases h;rw[FY hx,FY hy];have hk:P.underlying t=some .bool:=hk;simp only[Op.equalIn,Sem.run_bind,run_underlying hk,Result.andThen_ok,Sem.run_pure]
 .obtain⟨A,rfl,hA⟩:=cF.agg.1 hx;obtain⟨B,rfl,hB⟩:=cF.agg.1 hy;obtain⟨fs,hu,hs,_,hf⟩:=hk;have A2:P.fieldsOf t=fs:=by simp[Program.fieldsOf,hu]
  rw[run_equalIn_agg m.w (d+1) t A B (by rw[A2];exact hu) hs,A2];refine al7 (w:=m.w) (m:=m) d hf h (fun j x hx=>?_) (fun j x hx=>?_)
  .have aB:j<A.size:=by have:=hA.1;simp at this;rw[this];exact(aW.1 hx).1
   exact⟨A[j],by simp[aB],hA.2 j x _ hx (by simp[aB])⟩
  have aB:j<B.size:=by have:=hB.1;simp at this;rw[this];exact(aW.1 hx).1
  exact⟨B[j],by simp[aB],hB.2 j x _ hx (by simp[aB])⟩
 .cases h
 .cases h
 split at h
 .rename_i hb;have:=acq (P:=P) m.w hk (zL h hx) (zL hb hy) (.inr rfl) (d+1)
  simpa using this
 split at h
 .rename_i ha;have:=acq (P:=P) m.w hk (zL ha hx) (zL h hy) (.inl rfl) (d+1)
  simpa using this
 cases h
theorem al8{op:BinOp}{t:TypeId}{k:v7}{x y:Operand}{x' y':aX}{b:Bool}(hk:MQ P t x y=some k)(hx:de x=some x')(hy:de y=some y')(h:Du k (ev ak x') (ev ak y')=some b):
  (eqGuard op t x y (a.eval x) (a.eval y)).run P m.w=.ok () m.w:=by
 have _u0:=ay;obtain⟨dp,jv⟩:=acp hk;have h1:=eZ hx hr;have h2:=eZ hy hr;by_cases hop:op=.eql\/op=.neq
 .unfold Du at h;split at h
  .rename_i e1 e2;rw[e1] at h1;rw[FY h1,eqGuard_at_bool];rfl
  .rename_i e1 e2;rw[e1] at h1;rw[e2] at h2;obtain⟨A,e3,_⟩:=cF.agg.1 h1;obtain⟨B,e4,_⟩:=cF.agg.1 h2;obtain⟨fs,_,_,hg,_⟩:=dp;rw[e3,e4];exact run_eqGuard_agg m.w op t x y A B hg
  .cases h
  .cases h
  rename_i k q1 q2 q3 q4 q5 q6 q7;have hn:∃b1 b2,CV k (a.eval x) b1/\CV k (a.eval y) b2:=by
   split at h
   .rename_i hb;exact⟨_,_,zL h h1,zL hb h2⟩
   split at h
   .rename_i ha;exact⟨_,_,zL ha h1,zL h h2⟩
   cases h
  obtain⟨b1,b2,n1,n2⟩:=hn;cases k with
  |bool=>exact n1.elim
  |str n=>exact n1.elim
  |ptr=>obtain⟨q,e,_⟩:=n1;rw[e,eqGuard_at_pointer];rfl
  |slc=>obtain⟨q,_,_,e,_⟩:=n1;rw[e,eqGuard_at_slice];rfl
  |map=>obtain⟨q,e,_⟩:=n1;rw[e,eqGuard_at_map];rfl
  |fnc=>
   rcases n1 with ⟨e,_⟩|⟨_,_,_,e,_⟩
   .rw[e,eqGuard_at_nilFunc];rfl
   rw[e,eqGuard_at_func];rfl
  |ifc=>
   rcases n1 with ⟨e,_⟩|⟨_,_,e,_⟩
   .rcases n2 with ⟨e',_⟩|⟨_,_,e',_⟩
    .rw[e,e'];have hc:(∃c,x=.const c)\/ ∃c,y=.const c:=by
      rcases jv rfl with hc|hc
      .cases x<;>simp[K8] at hc
       exact .inl ⟨_,rfl⟩
      cases y<;>simp[K8] at hc
      exact .inr ⟨_,rfl⟩
     rcases hc with ⟨c,rfl⟩|⟨c,rfl⟩
     .rw[eqGuard_nil_constL];rfl
     rw[eqGuard_nil_constR];rfl
    rw[e,e',eqGuard_nil_iface];rfl
   rw[e,eqGuard_at_iface];rfl
 have:eqGuard op t x y (a.eval x) (a.eval y)=pure ():=by
  cases op<;>first
   |rfl
   |exact(hop (.inl rfl)).elim
   |exact(hop (.inr rfl)).elim
 rw[this];rfl
theorem akq{t:TypeId}{k:v7}{v u:Value}{b1:Bool}(hs:(∃p q,v=.bool p/\u=.bool q)\/(∃p q,v=.agg p/\u=.agg q)\/ ∃p q,CV k v p/\CV k u q)(h:(Op.equalIn (9998+2) t v u).run P m.w=.ok b1 m.w):
  (binOp .eql t v u).run P m.w=.ok (.bool b1) m.w/\(binOp .neq t v u).run P m.w=.ok (.bool (!b1)) m.w:=by
 have _u0:=ay;have _u1:=hr;have he:Op.equal t v u=Op.equalIn (9998+2) t v u:=rfl;have key:binOp .eql t v u=(do pure (.bool (<- Op.equal t v u)))/\binOp .neq t v u=(do pure (.bool (!(<- Op.equal t v u)))):=by
  rcases hs with ⟨p,q,rfl,rfl⟩|⟨p,q,rfl,rfl⟩|⟨p,q,h1,h2⟩
  .exact⟨rfl,rfl⟩
  .exact⟨rfl,rfl⟩
  cases k with
  |bool=>exact h1.elim
  |str n=>exact h1.elim
  |ptr=>obtain⟨_,rfl,_⟩:=h1;obtain⟨_,rfl,_⟩:=h2;exact⟨rfl,rfl⟩
  |slc=>obtain⟨_,_,_,rfl,_⟩:=h1;obtain⟨_,_,_,rfl,_⟩:=h2;exact⟨rfl,rfl⟩
  |map=>obtain⟨_,rfl,_⟩:=h1;obtain⟨_,rfl,_⟩:=h2;exact⟨rfl,rfl⟩
  |fnc=>rcases h1 with ⟨rfl,_⟩|⟨_,_,_,rfl,_⟩<;>rcases h2 with ⟨rfl,_⟩|⟨_,_,_,rfl,_⟩<;>exact⟨rfl,rfl⟩
  |ifc=>rcases h1 with ⟨rfl,_⟩|⟨_,_,rfl,_⟩<;>rcases h2 with ⟨rfl,_⟩|⟨_,_,rfl,_⟩<;>exact⟨rfl,rfl⟩
 rw[key.1,key.2,he];simp only[Sem.run_bind,h,Result.andThen_ok,Sem.run_pure,and_self]
theorem ahI{op:BinOp}{t ty:TypeId}{x y:Operand}{x' y':aX}{k:v7}{neg b:Bool}(ho:o.op=.binOp op t x y ty)(hop:(op=.eql/\neg=false)\/(op=.neq/\neg=true))(hk:MQ P t x y=some k)(hx:de x=some x')(hy:de y=some y')
  (hv:Du k (ev ak x') (ev ak y')=some b):gC P w0 a.eval o m (.one (.p (.bool (if neg then !b else b)))) []:=by
 have h1:=eZ hx hr;have h2:=eZ hy hr;have hg:=al8 ay hr (op:=op) hk hx hy hv;have he:=amb ay hr (acp hk).1 hv h1 h2 9998;have hs:(∃p q,a.eval x=.bool p/\a.eval y=.bool q)\/(∃p q,a.eval x=.agg p/\a.eval y=.agg q)\/ ∃p q,CV k (a.eval x) p/\CV k (a.eval y) q:=by
  unfold Du at hv;split at hv
  .rename_i e1 e2;rw[e1] at h1;rw[e2] at h2;exact .inl ⟨_,_,FY h1,FY h2⟩
  .rename_i e1 e2;rw[e1] at h1;rw[e2] at h2;obtain⟨A,e3,_⟩:=cF.agg.1 h1;obtain⟨B,e4,_⟩:=cF.agg.1 h2;exact .inr (.inl ⟨A,B,e3,e4⟩)
  .cases hv
  .cases hv
  split at hv
  .rename_i hb;exact .inr (.inr ⟨_,_,zL hv h1,zL hb h2⟩)
  split at hv
  .rename_i ha;exact .inr (.inr ⟨_,_,zL ha h1,zL hv h2⟩)
  cases hv
 obtain⟨r1,r2⟩:=akq ay hr hs he;rcases hop with ⟨rfl,rfl⟩|⟨rfl,rfl⟩
 .exact .calm ay (by simp[execOp,ho,hg,r1]) (nk (.bool _))
 exact .calm ay (by simp[execOp,ho,hg,r2]) (nk (.bool _))
end
end Go.Abs
namespace Go.Abs
variable {P:Program} {w0:World}
theorem aku:∀ {es:s_} {bs:p_},bytesOf es=some bs->∃ns:d_,es.flatten=ns.map (PV.int .u8)/\bs=ns.map (fun n=>UInt8.ofNat n.toNat)/\ns.length=es.length:=by
 intro es
 induction es with
 |nil=>intro bs h;simp[bytesOf] at h;exact⟨[],rfl,h,rfl⟩
 |cons e r ih=>
  intro bs h;unfold bytesOf at h;split at h
  .rename_i e';cases e'
  .rename_i n r' e';cases e';simp only[ef] at h;obtain⟨q,hq,rfl⟩:=h;obtain⟨ns,h1,h2,h3⟩:=ih hq;exact⟨n::ns,by simp[h1],by simp[h2],by simp[h3]⟩
  cases h
theorem asl{w:World}{own:Nat->Prop}:∀ {ns:d_} {vs:List Value},Pw (cN w own) (ns.map (PV.int .u8)) vs->vs=ns.map (Value.int .u8):=by
 intro ns
 induction ns with
 |nil=>intro vs h;have:=h.1;simp at this;simp[this]
 |cons n ns ih=>
  intro vs h;cases vs with
  |nil=>have:=h.1;simp at this
  |cons v vs=>have h0:=h.2 0 _ v rfl rfl;cases h0;rw[ih (vs:=vs) ⟨by have:=h.1;simpa using this,fun j x u a b=>h.2 (j+1) x u (by simpa using a) (by simpa using b)⟩];rfl
theorem asg:∀(ns:d_) (s:ByteArray),ns.foldl (fun r n=>r.push (UInt8.ofNat n.toNat)) s=⟨s.data++(ns.map (fun n=>UInt8.ofNat n.toNat)).toArray⟩:=by
 intro ns
 induction ns with
 |nil=>intro s;cases s;simp
 |cons n ns ih=>intro s;simp only[Bt,eD];rw[ih];cases s;simp[ByteArray.push]
section
variable {m:Mem} {ak:Env} {a:Act} {o:Oper} (ay:Ok w0 m) (hr:jt m ak a.tmps)
include ay hr
theorem ato{s d e:TypeId}{x:Operand}{x':aX}{es:s_}{r:a_}{bs:p_}(ho:o.op=.convert s d x)(hs:P.underlying s=some (.slice e))(he:P.underlying e=some (.int .u8))(hd:P.underlying d=some .string)
  (hx:de x=some x') (dy:gb m.aj (ev ak x')=some (es,r,[])) (hb:bytesOf es=some bs):gC P w0 a.eval o m (.one (.p (.str ⟨bs.toArray⟩))) []:=by
 obtain⟨ns,h1,h2,h3⟩:=aku hb;obtain⟨ax,cx,yw,_,zE⟩:=aci (own:=m.own) ay dy (eZ hx hr) ⟨fun _ h=>h,fun _ h=>by simp at h⟩;refine .calm ay (x:=.string ⟨bs.toArray⟩) ?_ (nk (.str _));have key:(Conv.bytesToString (.slice ax es.length cx)).run P m.w=.ok (.string ⟨bs.toArray⟩) m.w:=by
  by_cases aK:es=[]
  .subst aK;have:ns=[]:=by simpa using h3
   subst this;have s0:bs=[]:=by simpa using h2
   subst s0;cases ax with
   |none=>simp[Conv.bytesToString,Sem.run_pure];rfl
   |some ad=>have:=run_bytesToString (P:=P) m.w ad 0 cx [] (by simp[loadCells,loadCellsFrom,Sem.run_pure]);exact this
  obtain⟨b,off,news,rfl,pY,zn⟩:=zE aK;rw[h1] at pY;have hn:=asl pY;have hl:news.length=es.length:=by rw[hn];simpa using h3
  have aof:(loadCells ⟨b,off,none⟩ es.length).run P m.w=.ok (ns.map (Value.int .u8)).toArray m.w:=by rw[<- hl,<- hn];exact run_loadCells_list m.w ⟨b,off,none⟩ news fun j v hj=>by rw[Addr.add_lit];exact zn j v hj
  rw[run_bytesToString m.w _ _ cx ns aof,asg,h2];simp[ByteArray.empty,ByteArray.emptyWithCapacity];rfl
 simp only[execOp,ho,yw,Sem.run_bind,run_convert_bytes_string m.w s d e ax es.length cx hs he hd,key,Result.andThen_ok,Sem.run_pure]
end
end Go.Abs
namespace Go.Abs
variable {P:Program} {w0:World}
theorem Wf{xs:Array Operand}{a:aX}(h:rm xs.toList=some [a]):∃x,xs= #[x]/\de x=some a:=by
 obtain⟨xs⟩:=xs;cases xs with
 |nil=>simp[rm] at h
 |cons x r=>
  simp only[rm] at h;split at h
  .rename_i y ys e1 e2;cases h;cases r with
   |nil=>exact⟨x,rfl,e1⟩
   |cons z r=>simp only[rm] at e2;split at e2<;>simp at e2
  cases h
theorem Wg{xs:Array Operand}{a b:aX}(h:rm xs.toList=some [a,b]):∃x y,xs= #[x,y]/\de x=some a/\de y=some b:=by
 obtain⟨xs⟩:=xs;cases xs with
 |nil=>simp[rm] at h
 |cons x r=>
  simp only[rm] at h;split at h
  .rename_i y ys e1 e2;cases h;obtain⟨z,hz,Eb⟩:=Wf (xs:=r.toArray) (by simpa using e2);have:r=[z]:=by simpa using congrArg Array.toList hz
   subst this;exact⟨x,z,rfl,e1,Eb⟩
  cases h
theorem avf{xs:Array TypeId}{t u:TypeId}(h1:xs[0]?=some t)(h2:xs[1]?=some u)(hs:xs.size=2):xs= #[t,u]:=by
 obtain⟨xs⟩:=xs
 match xs,hs with
 |[a,b],_=>simp at h1 h2;subst h1 h2;rfl
theorem amV{α:Type}{sz:Nat}{es ys:List (List α)}{off:Nat}(h:∀e∈es,e.length=sz)(hy:∀e∈ys,e.length=sz)(hl:off+ys.length<=es.length):(ft es off ys).flatten=ft es.flatten (off*sz) ys.flatten:=by
 have ht:∀k,k<=es.length->(es.take k).flatten.length=k*sz:=fun k hk=>by rw[Hb fun e he=>h e (xD he),iH,Aj hk]
 have e1:es.flatten=(es.take off).flatten++(es.drop off).flatten:=by rw[<- EH,mU]
 have e2:es.flatten=(es.take (off+ys.length)).flatten++(es.drop (off+ys.length)).flatten:=by rw[<- EH,mU]
 unfold ft;rw[EH,EH,Hb hy];congr 1
 .congr 1
  conv=>rhs;rw[e1]
  rw[List.take_left' (ht off aa)]
 rw[<- ib]
 conv=>rhs;rw[e2]
 rw[List.drop_left' (ht _ hl)]
theorem avH{R:PV->Value->Prop}{z:b_}{v:Array Value}{n:Nat}(hz:Pw R z v.toList):Pw R (List.replicate n z).flatten (Builtin.zeroCells v n).toList:=by
 have mM:z.length=v.size:=by have:=hz.1;simp at this;omega
 have dV:∀e∈List.replicate n z,e.length=v.size:=fun e he=>by rw[VH he];exact mM
 have hlen:(Builtin.zeroCells v n).toList.length=n*v.size:=by simp[size_zeroCells]
 refine⟨by rw[hlen,Hb dV];simp,fun j x u p q=>?_⟩;have hj:j<n*v.size:=by have:=(aW.1 q).1;omega
 have jE:0<v.size:=by
  rcases Nat.eq_zero_or_pos v.size with h|h
  .rw[h] at hj;omega
  exact h
 have hdiv:j/v.size<n:=by rw[Nat.div_lt_iff_lt_mul jE];exact hj
 have TZ:j%v.size<v.size:=dk _ jE;have he:(List.replicate n z)[j/v.size]?=some z:=by simp[hdiv]
 have h1:=Ha dV he TZ;rw[show j/v.size*v.size+j%v.size=j by rw[Nat.mul_comm];exact Nat.div_add_mod j v.size] at h1;rw[h1] at p;have h2:(Builtin.zeroCells v n).toList[j]?=some v[j%v.size]! :=by unfold Builtin.zeroCells;simp[hj]
 rw[h2] at q;cases q;refine hz.2 (j%v.size) x _ p ?_;simp[TZ]
section
variable {m:Mem} {ak:Env} {a:Act} {o:Oper} (ay:Ok w0 m) (hr:jt m ak a.tmps)
include ay hr
theorem atr{c:Call}{x:Operand}{x':aX}{t e:TypeId}{sz bytes:Nat}{z:b_}{sh:Nat->Bool}{v:V}{u:k_}{rd:a_}(ho:o.op=.call c)(hc:c.callee=.builtin .clear)(has:c.args= #[x])(jU:c.argTypes[0]?=some t)
  (he:BD P t=some (e,sz,bytes,z)) (hx:de x=some x') (hp:bU sh ak m.aj (.clear z x')=.done v u rd):gC P w0 a.eval o m v u:=by
 obtain⟨i,zv,ht,hi,hs,hb,⟨jE,Hm⟩,yl,KK,mM,dX⟩:=Qw he;have lY:=eZ hx hr;have run:∀(y:Value) (w':World),(Builtin.clear_ c.argTypes o.type #[a.eval x]).run P m.w=.ok y w'->(execOp a.eval o).run P m.w=.ok (.value y) w':=by intro y w' h;simp[execOp,ho,resolve,hc,has,invoke,builtin,h]
 have quiet:(Builtin.clear_ c.argTypes o.type #[a.eval x]).run P m.w=.ok (.tuple #[]) m.w->gC P w0 a.eval o m (.tup []) []:=fun h=>
  ⟨.tuple #[],m,.inl (run _ _ h),ay,Ev.refl _,rfl,rfl,(⟨#[],rfl,rfl,fun j x u h=>by simp at h⟩:cF m (.tup []) _)⟩
 simp only[bU] at hp;split at hp
 .rename_i hv;cases hp;rw[hv] at lY;have lY:dz m _ (a.eval x):=lY;generalize xZ:a.eval x=b at lY;rw[xZ] at quiet;apply quiet;cases lY with
  |p h=>cases h;simp[Builtin.clear_,jU,run_underlying ht]
 .rename_i hv;cases hp;rw[hv] at lY;have lY:dz m _ (a.eval x):=lY;generalize xZ:a.eval x=b at lY;rw[xZ] at quiet;apply quiet;cases lY with
  |p h=>
   cases h with
   |zZ a cap hn hm=>cases a<;>simp[Builtin.clear_,jU,run_underlying ht]
   |sl b o cap sz f h1 h2 h3 h4=>simp[Builtin.clear_,jU,run_underlying ht]
 .rename_i id g w off len hv;rw[hv] at lY;have lY:dz m _ (a.eval x):=lY;generalize xZ:a.eval x=b at lY;rw[xZ] at quiet run;cases lY with
  |hsl ad cap hg hl hm oE=>
   split at hp
   .rename_i h0;cases hp;subst h0;apply quiet;simp[Builtin.clear_,jU,run_underlying ht]
   rename_i h0;split at hp
   .rename_i g' ty cH es jL;split at hp
    .rename_i NV;obtain⟨jf,cT,hfit⟩:=NV;cases hp;have bR:(m.aj id).2=some (.arr ty cH es):=by rw[jL]
     obtain⟨_,oE,_⟩:=oE cH (by rw[jL];exact jf) (by rw[jL];rfl);have oE:=oE (.inr aa);subst oE;obtain⟨cur,hh,qO,uO,tj,vC,adL,T5⟩:=ay.obj id _ bR;have KI:∀e∈List.replicate len z,e.length=cH:=fun e he=>by rw[VH he];exact cT.symm
     have aoT:zv.cells.size=cH:=by rw[KK,<- mM,cT]
     have KJ:(List.replicate len z).length=len:=List.length_replicate;have zw:=amV (off:=off) uO KI (by rw[KJ];exact hfit);have zA:(off+len)*cH<=es.length*cH:=mV _ hfit;have adW:es.length*cH<=m.κ id*cH:=mV _ tj;rw[ib] at zA;generalize hZ:(Builtin.zeroCells zv.cells len).toList=Z;have Hk:Z.length=len*cH:=by rw[<- hZ];simp[size_zeroCells,aoT]
     have hZp:∀w own,dM w own (List.replicate len z).flatten Z:=fun w own=>dM.pw.2 (by rw[<- hZ];exact avH (dM.pw.1 (dX w own)));have T3:∀v∈Z,v.oneCell'=true:=fun v hv=>by
      obtain⟨j,hj⟩:=ia hv;have aB:j<(List.replicate len z).flatten.length:=by rw[<- (hZp m.w m.own).1];exact(aW.1 hj).1
      exact((hZp m.w m.own).2 j _ v (rR aB) hj).O6
     have BQ:off*cH+0+Z.length<=cur.size:=by rw[Hk,adL];omega
     have di:=run_storeCells_at P (m.σ id) (off*cH) ty Z 0 cur m.w hh BQ T3;simp only[u7] at di;generalize hW:m.w.setRow (m.σ id) (cur.toList.take (off*cH)++Z++cur.toList.drop (off*cH+Z.length)).toArray=W at di;have Fw:W.heap.size=m.w.heap.size:=by rw[<- hW];simp
     have Fv:∀c,c≠m.σ id->W.heap[c]?=m.w.heap[c]? :=fun c hc=>by rw[<- hW];exact setRow_other m.w (m.σ id) c _ hc
     have aef:(ft es off (List.replicate len z)).length=es.length:=Vn (by rw[KJ];exact hfit);have eO:=Pm (w':=W) (o:=.arr ty cH (ft es off (List.replicate len z))) bR rfl (by simp[lO]) (by rw[<- hW];rfl) (by rw[<- hW];rfl) (by rw[<- hW];rfl) Fw Fv;have DT:ux (m.kK W id (.arr ty cH (ft es off (List.replicate len z)))) id (.arr ty cH (ft es off (List.replicate len z))):=by
      refine⟨_,by rw[<- hW];exact Pn hh,qO,?_,by rw[aef];exact tj,vC,?_,?_⟩
      .intro e' DF;unfold ft at DF;simp only[eX] at DF;rcases DF with (h|h)|h
       .exact uO e' (xD h)
       .exact KI e' h
       exact uO e' (xC h)
      .simp[Mem.kK];omega
      rw[aef,zw];have h1:=(dM.pw.1 (T5.ev eO.zero)).ft (dM.pw.1 (hZp (m.kK W id (.arr ty cH (ft es off (List.replicate len z)))).w (m.kK W id (.arr ty cH (ft es off (List.replicate len z)))).own)) (off*cH);rw[<- ah5 aa (by simp;omega)] at h1;have h1:=dM.pw.2 h1
      simpa [ft] using h1
     refine⟨.tuple #[],m.kK W id (.arr ty cH (ft es off (List.replicate len z))),.inl (run _ _ ?_),Vc bR rfl ay (by simp[lO]) (by rw[<- hW];rfl) (by rw[<- hW];rfl) (by rw[<- hW];rfl) Fw Fv DT,eO,rfl,?_,(⟨#[],rfl,rfl,fun j x u h=>by simp at h⟩:cF _ (.tup []) _)⟩
     .obtain⟨k,rfl⟩:∃k,len=k+1:=⟨len-1,aa⟩;simp[Builtin.clear_,jU,run_underlying ht,zeroValue,typeInfo,hi,yl,hZ,di,Mem.kK]
     simp[Mem.kK,app,jL,jf]
    cases hp
   cases hp
 cases hp
end
section
variable {m:Mem} {ak:Env} {a:Act} {o:Oper} (ay:Ok w0 m) (hr:jt m ak a.tmps)
include ay hr
theorem af4{t kt e:TypeId}{x k y:Operand}{x' k' y':aX}{kd:Nat}{ag:Bool}{sh:Nat->Bool}{v:V}{u:k_}{rd:a_}(ho:o.op=.mapUpdate t x k y\/o.op=.insert t x k y)(ht:P.underlying t=some (.map kt e))
  (BU:keyOf P kt=some kd) (hx:de x=some x') (hk:de k=some k') (hy:de y=some y') (hp:bU sh ak m.aj (.mupd kd ag x' k' y')=.done v u rd):gC P w0 a.eval o m v u:=by
 simp only[bU] at hp;split at hp
 .rename_i id g q cs e1 e2 e3;split at hp
  .rename_i g' sK es ps e4 e5;split at hp
   .rename_i r5;obtain⟨rfl,rfl,hq⟩:=r5;split at hp
    .rename_i i w hf;cases hp;exact ahK ay hr ho ht BU hx hk hy e1 e4 e2 hq e3 e5 hf
    .rename_i hf;cases hp;exact ahK ay hr ho ht BU hx hk hy e1 e4 e2 hq e3 e5 hf
    cases hp
   cases hp
  cases hp
 cases hp
theorem aqT{site:Nat}{sh:Nat->Bool}{p:oz}{v:V}{u:k_}{rd:a_}(hc:GP P site o=some p)(hp:bU sh ak m.aj p=.done v u rd):gC P w0 a.eval o m v u:=by
 unfold GP at hc;split at hc
 · -- move
  rename_i x ho;simp only[ef] at hc;obtain⟨y,h1,rfl⟩:=hc;cases hp;exact ahJ ay hr (.inl ho) h1
 · -- assign
  rename_i x ho;simp only[ef] at hc;obtain⟨y,h1,rfl⟩:=hc;cases hp;exact ahJ ay hr (.inr ho) h1
 · -- pick
  rename_i c x y ho;split at hc
  .rename_i c' x' y' h1 h2 h3;cases hc;simp only[bU] at hp;split at hp
   .rename_i t ht;cases hp;exact atK ay hr ho h1 h2 h3 ht
   cases hp
  cases hc
 · -- alloc
  rename_i t ho;simp only[ef] at hc;obtain⟨z,h1,rfl⟩:=hc;cases hp;exact atj ay ho h1
 · -- box
  rename_i t x ho;simp only[ef] at hc;obtain⟨z,h1,rfl⟩:=hc;simp only[bU] at hp;split at hp
  .rename_i cs dF;cases hp;exact atm ay hr ho h1 dF
  cases hp
 · -- build
  rename_i t ps ho;split at hc
  .rename_i fs z h1 h2;split at hc
   .rename_i dV;simp only[ef] at hc;obtain⟨qs,h3,rfl⟩:=hc;simp only[bU] at hp;split at hp
    .rename_i rs HJ;cases hp;exact atq ay hr ho h1 h2 dV h3 HJ
    cases hp
   cases hc
  .rename_i n e z h1 h2;split at hc
   .rename_i i hi;simp only[ef] at hc;obtain⟨qs,h3,rfl⟩:=hc;simp only[bU] at hp;split at hp
    .rename_i rs HJ;cases hp;exact atp ay hr ho h1 h2 hi h3 HJ
    cases hp
   cases hc
  cases hc
 · -- buildSlice
  rename_i t n ps ho;split at hc
  .rename_i e sz bytes z as h1 h2;split at hc
   .rename_i r5;cases hc;simp only[bU] at hp;split at hp
    .rename_i es gG;obtain⟨g1,g2⟩:=atn (s:=site) ay hr ho h1 h2 r5.1 r5.2 gG;split at hp
     .rename_i qs hqs;cases hp;exact g1 qs hqs
     cases hp;exact g2
    cases hp
   cases hc
  cases hc
 · -- load
  rename_i t x ho;split at hc
  .rename_i k y h1 h2;cases hc;simp only[bU] at hp;split at hp
   .rename_i cs r dF;split at hp
    .rename_i v' hv;cases hp;exact aty ay hr ho h1 h2 dF hv
    cases hp
   cases hp
  cases hc
 · -- store
  rename_i t x y ho;split at hc
  .rename_i n x' y' h1 h2 h3;cases hc;simp only[bU] at hp;split at hp
   .rename_i cs dF;exact atP ay hr ho h1 h2 h3 dF hp
   cases hp
  cases hc
 · -- nilCheck
  rename_i x ho;simp only[ef] at hc;obtain⟨y,h1,rfl⟩:=hc;have hu:u=[]/\rd=[]:=by simp only[bU] at hp;split at hp<;>cases hp<;>exact⟨rfl,rfl⟩
  obtain⟨rfl,rfl⟩:=hu;exact atI ay hr ho h1 hp
 · -- binOp
  rename_i op t x y ty ho;split at hc
  .rename_i x' y' h1 h2;have adH:∀(op':BinOp),p=.bin op' x' y'->op'=op->gC P w0 a.eval o m v u:=by
    intro op' e1 e2;subst e1 e2;simp only[bU] at hp;split at hp
    .rename_i v' hv;cases hp;exact atl ay hr ho h1 h2 hv
    cases hp
   split at hc
   .cases hc;exact adH _ rfl rfl
   .cases hc;exact adH _ rfl rfl
   split at hc
   .rename_i k hk;cases hc;simp only[bU] at hp;split at hp
    .rename_i b hb;cases hp;exact ahI ay hr (neg:=false) ho (.inl ⟨rfl,rfl⟩) hk h1 h2 hb
    cases hp
   .rename_i k hk;cases hc;simp only[bU] at hp;split at hp
    .rename_i b hb;cases hp;exact ahI ay hr (neg:=true) ho (.inr ⟨rfl,rfl⟩) hk h1 h2 hb
    cases hp
   cases hc
  cases hc
 · -- unOp
  rename_i op t x ho;split at hc
  .simp only[ef] at hc;obtain⟨y,h1,rfl⟩:=hc;simp only[bU] at hp;split at hp
   .rename_i b e1 e2;cases hp;exact atJ ay hr ho h1 e2
   .rename_i e1 e2;cases e1
   cases hp
  .simp only[ef] at hc;obtain⟨y,h1,rfl⟩:=hc;simp only[bU] at hp;split at hp
   .rename_i e1 e2;cases e1
   .rename_i k n e1 e2;cases hp;exact atH ay hr ho h1 e2
   cases hp
  cases hc
 · -- convert
  rename_i s d x ho;split at hc
  .rename_i ks k y h1 h2 h3;cases hc;simp only[bU] at hp;split at hp
   .rename_i k0 n hn;cases hp;exact ats ay hr ho h1 h2 h3 hn
   cases hp
  .rename_i e y h1 h2 h3;split at hc
   .rename_i he;cases hc;simp only[bU] at hp;split at hp
    .rename_i es r gG;split at hp
     .rename_i bs pQ;cases hp;exact ato ay hr ho h1 he h2 h3 gG pQ
     cases hp
    cases hp
   cases hc
  cases hc
 · -- makeFunc
  rename_i f x y ho;split at hc
  .rename_i x' y' h1 h2;cases hc;simp only[bU] at hp;split at hp
   .rename_i cs ds e1 e2;cases hp;exact atC ay hr ho h1 h2 e1 e2
   cases hp
  cases hc
 · -- makeMap
  rename_i t ho;split at hc
  .simp only[ef] at hc;obtain⟨k,h1,rfl⟩:=hc;cases hp;exact atD (kt:=t) (t:=t) (e:=t) ay ho
  cases hc
 · -- makeSlice
  rename_i t l c ho;split at hc
  .rename_i e sz bytes z l' c' h1 h2 h3;cases hc;simp only[bU] at hp;split at hp
   .rename_i n n' e1 e2;split at hp
    .rename_i r5;obtain⟨rfl,lf⟩:=r5;cases hp;exact atE ay hr ho h1 h2 h3 e1 e2 lf
    cases hp
   cases hp
  cases hc
 · -- slice
  rename_i t x lo hi ho;split at hc
  .rename_i x' Ee vz h1 h2 h3;split at hc
   .rename_i e ht;simp only[ef] at hc;obtain⟨sz,h4,rfl⟩:=hc;simp only[bU] at hp;split at hp
    .rename_i n hn;split at hp
     .rename_i l h e1 e2;have hu:u=[]/\rd=[]:=by
       unfold Em at hp;repeat' split at hp
       all_goals first
        |cases hp
        |skip
       all_goals exact⟨rfl,rfl⟩
      obtain⟨rfl,rfl⟩:=hu;exact atN ay hr ho ht h4 h1 h2 h3 hn e1 e2 hp
     cases hp
    cases hp
   .rename_i ht;cases hc;simp only[bU] at hp;split at hp
    .rename_i s hs;split at hp
     .rename_i l h e1 e2;split at hp
      .rename_i r5;cases hp;exact atO ay hr ho ht h1 h2 h3 hs e1 e2 r5.1 r5.2
      cases hp
     cases hp
    cases hp
   cases hc
  cases hc
 · -- fieldAddr
  rename_i s x f ho;split at hc
  .rename_i fs y h1 h2;split at hc
   .rename_i d hd;split at hc
    .rename_i hz;cases hc;have hu:u=[]/\rd=[]:=by
      simp only[bU] at hp;split at hp<;>cases hp<;>exact⟨rfl,rfl⟩
     obtain⟨rfl,rfl⟩:=hu;exact atu ay hr ho h1 hd hz h2 hp
    cases hc
   cases hc
  cases hc
 · -- field
  rename_i t x f ho;split at hc
  .rename_i fs y h1 h2;split at hc
   .rename_i d hd;simp only[ef] at hc;obtain⟨k,h3,rfl⟩:=hc;simp only[bU] at hp;split at hp
    .rename_i cs dF;split at hp
     .rename_i v' hv;cases hp;exact atv ay hr ho h1 hd h3 h2 dF hv
     cases hp
    cases hp
   cases hc
  cases hc
 · -- indexAddr
  rename_i t x i ho;split at hc
  .rename_i x' i' h1 h2;split at hc
   .rename_i e ht;simp only[ef] at hc;obtain⟨sz,h3,rfl⟩:=hc;have hu:u=[]/\rd=[]:=by
     simp only[bU] at hp;repeat' split at hp
     all_goals first
      |cases hp
      |skip
     all_goals exact⟨rfl,rfl⟩
    obtain⟨rfl,rfl⟩:=hu;exact atw ay hr ho ht h3 h1 h2 hp
   .rename_i n e ht;simp only[ef] at hc;obtain⟨sz,h3,rfl⟩:=hc;have hu:u=[]/\rd=[]:=by
     simp only[bU] at hp;repeat' split at hp
     all_goals first
      |cases hp
      |skip
     all_goals exact⟨rfl,rfl⟩
    obtain⟨rfl,rfl⟩:=hu;exact ath ay hr ho ht h3 h1 h2 hp
   cases hc
  cases hc
 · -- index
  rename_i t x i ho;split at hc
  .rename_i x' i' h1 h2;split at hc
   .rename_i n e ht;split at hc
    .rename_i sz k h3 h4;cases hc;simp only[bU] at hp;split at hp
     .rename_i n' cs e1 e2;split at hp
      .rename_i aB;split at hp
       .rename_i v' hv;cases hp;exact ati ay hr ho ht h3 h4 h1 h2 e1 aB e2 hv
       cases hp
      cases hp
     cases hp
    cases hc
   .rename_i ht;cases hc;simp only[bU] at hp;split at hp
    .rename_i n s e1 e2;split at hp
     .rename_i b hb;cases hp;exact atL ay hr ho ht h1 h2 e1 e2 hb
     cases hp
    cases hp
   cases hc
  cases hc
 · -- lookup
  rename_i t x k ok ho;split at hc
  .rename_i kt e x' k' h1 h2 h3;split at hc
   .rename_i z q h4 h5;split at hc
    .rename_i kd h6;split at hc
     .rename_i h7;cases hc;simp only[bU] at hp;split at hp
      .rename_i es r key e1 e2;split at hp
       .cases hp
       rename_i BU;split at hp
       .rename_i f hf;split at hp
        .rename_i w hw;cases hp;exact atz ay hr ho h1 h4 h6 h7 h2 h3 e1 e2 (Classical.not_not.1 BU) hf hw
        cases hp
       cases hp
      cases hp
     cases hc
    cases hc
   cases hc
  cases hc
 · -- mapUpdate
  rename_i t x k y ho;split at hc
  .rename_i kt e x' k' y' h1 h2 h3 h4;split at hc
   .rename_i q h5;simp only[ef] at hc;obtain⟨kd,h6,rfl⟩:=hc;exact af4 ay hr (.inl ho) h1 h6 h2 h3 h4 hp
   cases hc
  cases hc
 · -- insert
  rename_i t x k y ho;split at hc
  .rename_i kt e x' k' y' h1 h2 h3 h4;split at hc
   .rename_i q h5;simp only[ef] at hc;obtain⟨kd,h6,rfl⟩:=hc;exact af4 ay hr (.inr ho) h1 h6 h2 h3 h4 hp
   cases hc
  cases hc
 · -- extract
  rename_i x i ho;simp only[ef] at hc;obtain⟨y,h1,rfl⟩:=hc;simp only[bU] at hp;split at hp
  .rename_i vs sa;split at hp
   .rename_i v' hv;cases hp;exact att ay hr ho h1 sa hv
   cases hp
  cases hp
 · -- call
  rename_i c ho;split at hc
  .rename_i f as h1 h2;simp only[ef] at hc;obtain⟨y,h3,rfl⟩:=hc;simp only[bU] at hp;repeat' split at hp
   all_goals cases hp
  .rename_i x h1 h2;obtain⟨x0,oO,tz⟩:=Wf h2;split at hc
   .rename_i t ht;split at hc
    .rename_i hu;cases hc;simp only[bU] at hp;split at hp
     .rename_i s hs;cases hp;exact atM ay hr ho h1 oO ht hu tz hs
     cases hp
    .rename_i e hu;cases hc;simp only[bU] at hp;split at hp
     .rename_i n hn;cases hp;exact atx ay hr ho h1 oO ht hu tz hn
     cases hp
    .rename_i k e hu;cases hc;simp only[bU] at hp;split at hp
     .rename_i n r hn;cases hp;exact atF ay hr ho h1 oO ht hu tz hn
     cases hp
    cases hc
   cases hc
  .rename_i x y h1 h2;obtain⟨x0,y0,oO,tz,yv⟩:=Wg h2;split at hc
   .rename_i t u' ht hu;split at hc
    .rename_i e sz bytes z he;split at hc
     .rename_i r5;cases hc;obtain⟨rfl,cT⟩:=r5;exact atk ay hr ho h1 oO (avf ht hu cT) he tz yv hp
     cases hc
    cases hc
   cases hc
  .rename_i x y h1 h2;obtain⟨x0,y0,oO,tz,yv⟩:=Wg h2;cases hc;simp only[bU] at hp;split at hp
   .rename_i k p k' q e1 e2;cases hp;exact atA ay hr ho h1 oO tz yv e1 e2
   cases hp
  .rename_i x y h1 h2;obtain⟨x0,y0,oO,tz,yv⟩:=Wg h2;cases hc;simp only[bU] at hp;split at hp
   .rename_i k p k' q e1 e2;cases hp;exact atB ay hr ho h1 oO tz yv e1 e2
   cases hp
  .rename_i x h1 h2;obtain⟨x0,oO,tz⟩:=Wf h2;split at hc
   .rename_i t ht;simp only[ef] at hc;obtain⟨⟨e,sz,bytes,z⟩,h3,rfl⟩:=hc;exact atr ay hr ho h1 oO ht h3 tz hp
   cases hc
  cases hc
 cases hc
end
end Go.Abs
namespace Go.Abs
variable {P:Program} {w0:World}
section
variable{m:Mem}{cs:f_}
def aiZ(w:World)(Q:Nat->Prop)(ty sz:Nat)(es:s_)(c:Nat)(v:Value):Prop:=∃cap cur,v=.slice (some ⟨c,0,none⟩) es.length cap/\w.heap[c]?=some (.cells cur ty (0,0))/\0<sz/\(∀e∈es,e.length=sz)/\es.length<=cap/\cap<=maxLen/\cur.size=cap*sz/\dM w Q es.flatten (cur.toList.take (es.length*sz))
def sI(w:World)(Q:Nat->Prop):n_->List Value->a_->Prop
 |[],vs,bs=>vs=[]/\bs=[]
 | .p x::r,vs,bs=>∃v nX,vs=v::nX/\cN w Q x v/\sI w Q r nX bs
 | .own ty sz es::r,vs,bs=>∃v nX c Df,vs=v::nX/\bs=c::Df/\aiZ w Q ty sz es c v/\sI w Q r nX Df
theorem sI.mono{w w':World}{Q Q':Nat->Prop}(hk:∀c,c<w.heap.size-> ¬Q c->w'.heap[c]?=w.heap[c]? /\ ¬Q' c):∀ {rs:n_} {vs:List Value} {bs:a_},(∀c∈bs,w'.heap[c]?=w.heap[c]?)->sI w Q rs vs bs->sI w' Q' rs vs bs:=by
 intro rs
 induction rs with
 |nil=>intro vs bs _ h;exact h
 |cons r rs ih=>
  intro vs bs hb h;cases r with
  |p x=>obtain⟨v,nX,rfl,h1,h2⟩:=h;exact⟨v,nX,rfl,h1.mono hk,ih hb h2⟩
  |own ty sz es=>obtain⟨v,nX,c,Df,rfl,rfl,⟨cap,cur,e1,e2,e3,e4,e5,e6,e7,e8⟩,h2⟩:=h;exact⟨v,nX,c,Df,rfl,rfl,⟨cap,cur,e1,by rw[hb c af];exact e2,e3,e4,e5,e6,e7,e8.mono hk⟩,ih (fun c hc=>hb c (by simp[hc])) h2⟩
theorem sI.less{w:World}{Q Q':Nat->Prop}(h:∀b,Q' b->Q b){rs:n_}{vs:List Value}{bs:a_}(hr:sI w Q rs vs bs):sI w Q' rs vs bs:=hr.mono (fun c _ hn=>⟨rfl,fun hq=>hn (h c hq)⟩) (fun _ _=>rfl)
theorem at3(ay:Ok w0 m){Q:Nat->Prop}(hQ:∀b,Q b->m.own b){c:C}{x:PV}{q:a_}{v:Value}(h:snap m.aj gZ c=some (x,q))(hr:dz m c v)(hs:∀id∈q,¬Q (m.σ id)):cN m.w Q x v:=Ly ay gZ h hr ⟨hQ,hs⟩
theorem agA(ay:Ok w0 m){Q:Nat->Prop}(hQ:∀b,Q b->m.own b):∀ {cs:f_} {rs:n_} {o q:a_} {vs:List Value},nU m.aj cs=some (rs,o,q)->dO m cs vs->(∀id∈q,¬Q (m.σ id))->
  sI m.w Q rs vs (o.map m.σ)/\ ∀id∈o,∃ob,(m.aj id).2=some ob/\ob.gh=true:=by
 intro cs
 induction cs with
 |nil=>
  intro rs o q vs h hr _;simp only[nU,gn,lE] at h;obtain⟨rfl,rfl,rfl⟩:=h;have:vs=[]:=by have:=hr.1;simpa using this
  exact⟨⟨this,rfl⟩,fun id h=>by simp at h⟩
 |cons c cs ih=>
  intro rs o q vs h hr hq;simp only[nU] at h;split at h
  .rename_i x o1 q1 xs os qs h1 h2;cases h;cases vs with
   |nil=>simp[dO] at hr
   |cons v vs=>
    obtain⟨i1,i2⟩:=ih (vs:=vs) h2 ⟨by have:=hr.1;simpa using this,fun j x u a b=>hr.2 (j+1) x u (by simpa using a) (by simpa using b)⟩ (fun id hid=>hq id (by simp[hid]));have hc:dz m c v:=hr.2 0 c v rfl rfl;have snapcase:∀ {y:PV},(snap m.aj gZ c).map (fun(v,r)=>((.p v:RC),([]:a_),r))=some (x,o1,q1)->sI m.w Q (x::xs) (v::vs) ((o1++os).map m.σ)/\ ∀id∈o1++os,∃ob,(m.aj id).2=some ob/\ob.gh=true:=by intro _ h1;simp only[ef] at h1;obtain⟨⟨y,r⟩,h3,h4⟩:=h1;cases h4;exact⟨⟨v,vs,rfl,at3 ay hQ h3 hc (fun id hid=>hq id (by simp[hid])),i1⟩,i2⟩
    unfold kJ at h1;split at h1
    .rename_i y;cases h1;have hy:cN m.w m.own y v:=by cases hc with|p h=>exact h
     exact⟨⟨v,vs,rfl,hy.less hQ,i1⟩,i2⟩
    .rename_i id g z len;split at h1
     .rename_i g' ty sz es hb;split at h1
      .rename_i r5;obtain⟨rfl,hlen⟩:=r5;cases h1;have Hl:(m.aj id).2=some (.arr ty sz es):=by rw[hb]
       obtain⟨cur,hh,jE,cT,hl,tu,dF,dX⟩:=ay.obj id _ Hl;cases hc with
       |hsl ad cap hg wP Ku Og=>
        obtain⟨f1,f2,f3⟩:=Og sz (by rw[hb]) (by rw[hb];rfl);have oE:=f2 (.inl rfl);have mg:cap=m.κ id:=by rw[<- f3,jr]
        rw[Bu] at oE;subst oE;subst mg;have aB:(es.take len).length=len:=by simp;omega
        refine⟨⟨_,vs,m.σ id,os.map m.σ,rfl,rfl,⟨m.κ id,cur,by rw[aB],hh,jE,fun e he=>cT e (xD he),by rw[aB];exact wP,tu,dF,?_⟩,i1⟩,?_⟩
        .rw[aB,JR cT];have h1:=(dM.pw.1 dX).take (len*sz);rw[Gp,Aj (mV _ hlen)] at h1;exact(dM.pw.2 h1).less hQ
        intro j hj;simp only[nY,gR,ch] at hj;rcases hj with rfl|hj
        .exact⟨_,Hl,rfl⟩
        exact i2 j hj
      cases h1
     exact snapcase (y:=.vK) h1
    exact snapcase (y:=.vK) h1
  cases h
theorem aet:∀(rs:n_) (site:Nat) (b b':aE),(∀s,site<=s->(b s).1=(b' s).1)->jF b site rs=jF b' site rs:=by
 intro rs
 induction rs with
 |nil=>intro site b b' _;rfl
 |cons r rs ih=>
  intro site b b' h;have h1:dY b site r=dY b' site r:=by
   cases r with
   |p x=>rfl
   |own ty sz es=>simp only[dY,h site (cD _)]
  simp only[jF,h1,ih (site+1) b b' (fun s hs=>h s aa)]
theorem ape{s c k:Nat}{o:Ob}(hc:m.fr c):vd m (m.install s c k o) where
 own x _ hn:=⟨rfl,fun h=>hn (Uf hc h)⟩
 gen id:=by
  simp only[Mem.install,aU];split
  .rename_i e;subst e;exact Nat.le_succ _
  exact cD _
 ref id hg hs:=by
  simp only[Mem.install,aU] at hg hs |-;split at hg
  .rename_i e;subst e;simp at hg
  rename_i e;simp only[aC e] at hs |-;exact⟨hs,trivial,trivial,trivial⟩
theorem vd.trans{a b c:Mem}(h:vd a b)(hs:a.w.heap.size<=b.w.heap.size)(k:vd b c):vd a c where
 own x hx hn:=by have h1:=h.own x hx hn;have h2:=k.own x (EN hx hs) h1.2;exact⟨h2.1.trans h1.1,h2.2⟩
 gen id:=oZ (h.gen id) (k.gen id)
 ref id he hs':=by have h1:=h.gen id;have h2:=k.gen id;obtain⟨s1,e1,e2,e3⟩:=k.ref id aa hs';obtain⟨s2,f1,f2,f3⟩:=h.ref id aa s1;exact⟨s2,e1.trans f1,e2.trans f2,e3.trans f3⟩
theorem ao1{OZ:Mem}:∀ {rs:n_} {vs:List Value} {bs:a_} {site:Nat} {m:Mem},Ok w0 m->sI m.w m.own rs vs bs->bs.Nodup->(∀c∈bs,m.fr c/\w0.heap.size<=c)->Ev OZ m->(∀c∈bs,OZ.w.heap.size<=c\/OZ.gh c)->
  ∃m',m'.w=m.w/\Ok w0 m'/\Ev OZ m'/\vd m m'/\(∀c,m'.fr c↔m.fr c/\c∉bs)/\m'.aj=app (jF m.aj site rs).2 m.aj/\dO m' (jF m.aj site rs).1 vs:=by
 intro rs
 induction rs with
 |nil=>intro vs bs site m ay h _ _ eO _;obtain⟨rfl,rfl⟩:=h;exact⟨m,rfl,ay,eO,⟨fun c _ h=>⟨rfl,h⟩,fun _=>cD _,fun _ _ h=>⟨h,rfl,rfl,rfl⟩⟩,fun c=>af,rfl,rfl,fun j x u h=>by simp[jF] at h⟩
 |cons r rs ih=>
  intro vs bs site m ay h gH pQ eO HD;have cons:∀ {m':Mem} {x:C} {xs:f_} {v:Value} {vs:List Value},dz m' x v->dO m' xs vs->dO m' (x::xs) (v::vs):=by
   intro m' x xs v vs h1 h2;refine⟨by simp[h2.1],fun j y u a b=>?_⟩;cases j with
   |zero=>simp at a b;subst a b;exact h1
   |succ j=>simp at a b;exact h2.2 j y u a b
  cases r with
  |p x=>obtain⟨v,nX,rfl,h1,h2⟩:=h;obtain⟨m',e1,e2,e3,e4,e5,e6,e7⟩:=ih (site:=site+1) ay h2 gH pQ eO HD;exact⟨m',e1,e2,e3,e4,e5,by simpa [jF,dY] using e6,by simpa [jF,dY] using cons (dz.p (h1.ev e4)) e7⟩
  |own ty sz es=>
   obtain⟨v,nX,c,Df,rfl,rfl,⟨cap,cur,q1,q2,q3,q4,q5,q6,q7,q8⟩,h2⟩:=h;have hfc:=(pQ c af).1;have h0:=ape (s:=site) (k:=cap) (o:=.arr ty sz es) hfc;have hσ:(m.install site c cap (.arr ty sz es)).σ site=c:=by simp[Mem.install,aU]
   have hκ:(m.install site c cap (.arr ty sz es)).κ site=cap:=by simp[Mem.install,aU]
   have oI:Ok w0 (m.install site c cap (.arr ty sz es)):=Ue ay hfc (pQ c af).2
    ⟨cur,by rw[hσ];exact q2,q3,q4,by rw[hκ];exact q5,by rw[hκ];exact q6,by rw[hκ];exact q7,dM.ev h0 q8⟩
   have aea:=rj.1 gH;obtain⟨m',e1,e2,e3,e4,e5,e6,e7⟩:=ih (site:=site+1) (m:=m.install site c cap (.arr ty sz es)) oI (h2.less fun b hb=>Uf hfc hb) aea.2
    (fun d hd=>⟨⟨(pQ d (by simp[hd])).1,fun e=>aea.1 (e▸hd)⟩,(pQ d (by simp[hd])).2⟩) (Ud eO hfc (HD c af)) (fun d hd=>HD d (by simp[hd]))
   have XD:jF (m.install site c cap (.arr ty sz es)).aj (site+1) rs=jF m.aj (site+1) rs:=aet _ _ _ _ fun s hs=>by simp only[Mem.install,aU];rw[aC aa]
   rw[XD] at e6 e7;refine⟨m',e1,e2,e3,h0.trans (cD _) e4,fun d=>?_,?_,?_⟩
   .rw[e5 d];simp only[Mem.install,ch,not_or];exact⟨fun⟨⟨a,b⟩,c⟩=>⟨a,b,c⟩,fun⟨a,b,c⟩=>⟨⟨a,b⟩,c⟩⟩
   .rw[e6];rfl
   refine cons ?_ e7;have:dz (m.install site c cap (.arr ty sz es)) (.hsl site ((m.aj site).1+1) sz 0 es.length) v:=by
    rw[q1];refine .hsl _ _ ?_ q5 q6 fun z h1 h2=>?_
    .simp[Mem.install,aU]
    have hz:lO ((m.install site c cap (.arr ty sz es)).aj site)=some sz:=by simp[Mem.install,aU,lO]
    rw[hz] at h2;cases h2;exact⟨rfl,fun _=>by rw[hσ,Bu],by rw[jr];exact hκ.symm⟩
   exact this.ev e4
def yR:RV->Value->List Value->Prop
 | .one _,v,vs=>vs=[v]
 | .agg l,v,vs=>v=.agg vs.toArray/\vs.length=l.length
 | .tup _,_,_=>False
def ER:List RV->List Value->List Value->Prop
 |[],us,vs=>us=[]/\vs=[]
 |r::rs,us,vs=>∃u Pu a b,us=u::Pu/\vs=a++b/\yR r u a/\ER rs Pu b
def Gr:RV->Value->List Value->Prop
 | .tup rs,v,vs=>∃arr,v=.tuple arr/\ER rs arr.toList vs
 |r,v,vs=>yR r v vs
theorem dO.take{vs:List Value}(h:dO m cs vs)(n:Nat):dO m (cs.take n) (vs.take n):=dO.pw.2 ((dO.pw.1 h).take n)
theorem dO.drop{vs:List Value}(h:dO m cs vs)(n:Nat):dO m (cs.drop n) (vs.drop n):=dO.pw.2 ((dO.pw.1 h).drop n)
theorem dO.append{ds:f_}{vs us:List Value}(h:dO m cs vs)(k:dO m ds us):dO m (cs++ds) (vs++us):=dO.pw.2 ((dO.pw.1 h).append (dO.pw.1 k))
theorem dO.single{c:C}{v:Value}(h:dz m c v):dO m [c] [v]:=⟨rfl,fun j x u a b=>by
 rcases j with _|j
 .simp at a b;subst a b;exact h
 simp at a⟩
theorem acZ{v:V}{val:Value}(h:pO v=some cs)(hr:pE m v val):
  ∃vs,dO m cs vs/\ ∀(rs tl:n_),rs.length=cs.length->(uk v (rs++tl)).2=tl/\jh (uk v (rs++tl)).1=rs/\yR (uk v (rs++tl)).1 val vs:=by
 cases v with
 |undef=>simp[pO] at h
 |tup vs=>simp[pO] at h
 |one c=>
  simp only[pO,gn] at h;subst h;refine⟨[val],dO.single hr,fun rs tl hl=>?_⟩
  match rs,hl with
  |[r],_=>exact⟨rfl,rfl,rfl⟩
 |agg ds=>
  simp only[pO,gn] at h;subst h;obtain⟨arr,rfl,hc⟩:=hr;refine⟨arr.toList,hc,fun rs tl hl=>?_⟩;have h1:(rs++tl).take ds.length=rs:=by rw[<- hl];exact List.take_left
  have h2:(rs++tl).drop ds.length=tl:=by rw[<- hl];exact List.drop_left
  simp only[uk,jh,yR,h1,h2,true_and];rw[hc.1,hl]
theorem amS:∀ {ws:e_} {cs:f_} {vals:List Value},wD ws=some cs->Pw (pE m) ws vals->
  ∃vs,dO m cs vs/\ ∀(rs:n_),rs.length=cs.length->pN (CF ws rs)=rs/\ER (CF ws rs) vals vs:=by
 intro ws
 induction ws with
 |nil=>
  intro cs vals h hr;simp only[wD,gn] at h;subst h;have hv:vals=[]:=by have:=hr.1;simpa using this
  subst hv;refine⟨[],⟨rfl,fun j x u a=>by simp at a⟩,fun rs hl=>?_⟩;have:rs=[]:=by simpa using hl
  subst this;exact⟨rfl,rfl,rfl⟩
 |cons w ws ih=>
  intro cs vals h hr;simp only[wD] at h;split at h
  .rename_i a b h1 h2;cases h;cases vals with
   |nil=>have:=hr.1;simp at this
   |cons val vals=>
    obtain⟨vs1,iZ,kG⟩:=acZ h1 (hr.2 0 w val rfl rfl);obtain⟨vs2,qJ,fR⟩:=ih (vals:=vals) h2 ⟨by have:=hr.1;simpa using this,fun j x u p q=>hr.2 (j+1) x u (by simpa using p) (by simpa using q)⟩;refine⟨vs1++vs2,iZ.append qJ,fun rs hl=>?_⟩;have jV:rs.length=a.length+b.length:=by simpa using hl
    obtain⟨p1,p2,p3⟩:=kG (rs.take a.length) (rs.drop a.length) (by simp;omega);rw[mU] at p1 p2 p3;obtain⟨q1,q2⟩:=fR (rs.drop a.length) (by simp;omega);simp only[CF,pN,p1,p2,q1,ER];exact⟨mU _ _,val,vals,vs1,vs2,rfl,rfl,p3,q2⟩
  cases h
theorem amQ{v:V}{val:Value}(h:uH v=some cs)(hr:cF m v val):
  ∃vs,dO m cs vs/\ ∀(rs:n_),rs.length=cs.length->iY (xn v rs)=rs/\Gr (xn v rs) val vs:=by
 have one:∀ {v:V},pO v=some cs->pE m v val->(∀rs,xn v rs=(uk v rs).1)->∃vs,dO m cs vs/\ ∀(rs:n_),rs.length=cs.length->iY (xn v rs)=rs/\Gr (xn v rs) val vs:=by
  intro v h hr he;obtain⟨vs,h1,h2⟩:=acZ h hr;refine⟨vs,h1,fun rs hl=>?_⟩;obtain⟨_,p2,p3⟩:=h2 rs [] hl;rw[jJ] at p2 p3;rw[he];generalize (uk v rs).1=y at p2 p3;cases y with
  |tup _=>exact p3.elim
  |one c=>exact⟨p2,p3⟩
  |agg c=>exact⟨p2,p3⟩
 cases v with
 |tup ws=>obtain⟨arr,rfl,hs,hc⟩:=hr;obtain⟨vs,h1,h2⟩:=amS (m:=m) (vals:=arr.toList) h ⟨by simpa using hs,fun j x u a b=>hc j x u a (by simpa using b)⟩;exact⟨vs,h1,fun rs hl=>⟨(h2 rs hl).1,arr,rfl,(h2 rs hl).2⟩⟩
 |undef=>simp[uH,pO] at h
 |one c=>exact one h hr fun _=>rfl
 |agg c=>exact one h hr fun _=>rfl
theorem Zx{r:RV}{val:Value}{a b:List Value}(hf:yR r val a)(hc:dO m cs (a++b)):pE m (nW r cs).1 val/\dO m (nW r cs).2 b:=by
 cases r with
 |tup _=>exact hf.elim
 |one c=>
  have hf:a=[val]:=hf;subst hf;cases cs with
  |nil=>have:=hc.1;simp at this
  |cons x xs=>exact⟨hc.2 0 x val rfl rfl,by have:=hc.drop 1;simpa [nW] using this⟩
 |agg l=>
  obtain⟨rfl,hl⟩:=hf;refine⟨⟨_,rfl,?_⟩,?_⟩
  .have:=hc.take l.length;rw[<- hl,List.take_left] at this
   simpa [nW,hl] using this
  have:=hc.drop l.length;rw[<- hl,List.drop_left] at this
  simpa [nW,hl] using this
theorem asE:∀ {rs:List RV} {cs:f_} {us vs:List Value},ER rs us vs->dO m cs vs->Pw (pE m) (um rs cs) us:=by
 intro rs
 induction rs with
 |nil=>intro cs us vs h _;obtain⟨rfl,rfl⟩:=h;exact⟨rfl,fun j x u a=>by simp[um] at a⟩
 |cons r rs ih=>
  intro cs us vs h hc;obtain⟨u,Pu,a,b,rfl,rfl,h1,h2⟩:=h;obtain⟨p1,p2⟩:=Zx h1 hc;have p3:=ih h2 p2;refine⟨by simp[um,p3.1],fun j x v q1 q2=>?_⟩;cases j with
  |zero=>simp[um] at q1 q2;subst q1 q2;exact p1
  |succ j=>simp[um] at q1 q2;exact p3.2 j x v q1 q2
theorem asD{r:RV}{val:Value}{vs:List Value}(hf:Gr r val vs)(hc:dO m cs vs):cF m (tF r cs) val:=by
 cases r with
 |tup rs=>obtain⟨arr,rfl,h⟩:=hf;have:=asE h hc;exact⟨arr,rfl,by simpa using this.1,fun j x u a b=>this.2 j x u a (by simpa using b)⟩
 |one c=>have:=(Zx (b:=[]) (show yR (.one c) val vs from hf) (by simpa using hc)).1;exact cF.of1 this
 |agg c=>have:=(Zx (b:=[]) (show yR (.agg c) val vs from hf) (by simpa using hc)).1;exact cF.of1 this
end
end Go.Abs
namespace Go.Abs
section
variable{b':aE}{site:Nat}{cs:kr}{sh:Ctx}{cp:gU}{ak:Env}
def js(ids:a_)(b b':aE):Prop:=∀id∈ids,b' id=b id
def tO(ts:a_)(e e':Env):Prop:=∀t∈ts,e' t=e t
theorem js.left{x y:a_}{b:aE}(h:js (x++y) b b'):js x b b':=fun i hi=>h i (by simp[hi])
theorem js.right{x y:a_}{b:aE}(h:js (x++y) b b'):js y b b':=fun i hi=>h i (by simp[hi])
theorem tO.left{x y:a_}{b b':Env}(h:tO (x++y) b b'):tO x b b':=fun i hi=>h i (by simp[hi])
theorem tO.right{x y:a_}{b b':Env}(h:tO (x++y) b b'):tO y b b':=fun i hi=>h i (by simp[hi])
section
variable {e e':Env}
theorem fL{a:aX}(h:tO a.tmps e e'):ev e' a=ev e a:=by
 cases a with
 |t n=>exact h n (by simp[aX.tmps])
 |_=>rfl
theorem ami:∀ {as:o_},tO (Ge as) e e'->as.map (ev e')=as.map (ev e):=by
 intro as
 induction as with
 |nil=>intro _;rfl
 |cons a r ih=>intro h;simp only[eD];rw[fL h.left,ih h.right]
theorem agw:∀ {as:o_},tO (Ge as) e e'->xg e' as=xg e as:=by
 intro as
 induction as with
 |nil=>intro _;rfl
 |cons a r ih=>intro h;simp only[xg];rw[fL h.left,ih h.right]
theorem alY{sz:Nat}:∀ {as:o_},tO (Ge as) e e'->AO e' sz as=AO e sz as:=by
 intro as
 induction as with
 |nil=>intro _;rfl
 |cons a r ih=>intro h;simp only[AO];rw[fL h.left,ih h.right]
theorem aq9:∀ {as:List (Nat×Nat×aX)},tO (ZT as) e e'->zS e' as=zS e as:=by
 intro as
 induction as with
 |nil=>intro _;rfl
 |cons a r ih=>intro h;obtain⟨x,y,a⟩:=a;simp only[zS];rw[fL h.left,ih h.right]
theorem Qg{d:Nat}{a:Option aX}(h:tO (ZS a) e e'):sL e' d a=sL e d a:=by
 cases a with
 |none=>rfl
 |some a=>simp only[sL];rw[fL h]
theorem amW{a:aX}(h:tO a.tmps e e'):Fl e' a=Fl e a:=by unfold Fl;rw[fL h]
theorem Zo{sh:Nat->Bool}{aj:aE}{p:oz}(h:tO p.tmps e e'):bU sh e' aj p=bU sh e aj p:=by
 cases p with
 |zQ x=>simp only[bU,fL (a:=x) h]
 |pick c a b=>simp only[bU,fL (a:=c) h.left.left,fL (a:=a) h.left.right,fL (a:=b) h.right]
 |alloc s z=>rfl
 |box s x=>simp only[bU,fL (a:=x) h]
 |build z ps=>simp only[bU,aq9 (as:=ps) h]
 |EY s ty sz ps=>simp only[bU,alY (as:=ps) h]
 |load k x=>simp only[bU,fL (a:=x) h]
 |store n a x=>simp only[bU,fL (a:=a) h.left,fL (a:=x) h.right]
 |K9 x=>simp only[bU,fL (a:=x) h]
 |bin op x y=>simp only[bU,fL (a:=x) h.left,fL (a:=y) h.right]
 |eqc k n x y=>simp only[bU,fL (a:=x) h.left,fL (a:=y) h.right]
 |un op x=>simp only[bU,fL (a:=x) h]
 |conv k x=>simp only[bU,fL (a:=x) h]
 |bstr x=>simp only[bU,fL (a:=x) h]
 |mkfn f a b=>simp only[bU,agw (as:=a) h.left,agw (as:=b) h.right]
 |mkmap s ag=>rfl
 |KY s ty sz bytes z l c=>simp only[bU,fL (a:=l) h.left,fL (a:=c) h.right]
 |slice sz x lo hi=>simp only[bU,fL (a:=x) h.left.left,Qg (a:=lo) h.left.right,Qg (a:=hi) h.right]
 |sslice x lo hi=>simp only[bU,fL (a:=x) h.left.left,Qg (a:=lo) h.left.right,Qg (a:=hi) h.right]
 |G9 off x=>simp only[bU,fL (a:=x) h]
 |HO sz x i=>simp only[bU,fL (a:=x) h.left,fL (a:=i) h.right]
 |IY l sz x i=>simp only[bU,fL (a:=x) h.left,fL (a:=i) h.right]
 |fld off k x=>simp only[bU,fL (a:=x) h]
 |aidx l sz k x i=>simp only[bU,fL (a:=x) h.left,fL (a:=i) h.right]
 |sidx x i=>simp only[bU,fL (a:=x) h.left,fL (a:=i) h.right]
 |lookup kd z ag ok x k=>simp only[bU,fL (a:=x) h.left,fL (a:=k) h.right]
 |mupd kd ag m k v=>simp only[bU,fL (a:=m) h.left.left,fL (a:=k) h.left.right,fL (a:=v) h.right]
 |bad=>rfl
 |extract x i=>simp only[bU,fL (a:=x) h]
 |call s f as=>simp only[bU,amW (a:=f) h.left,ami (as:=as) h.right]
 |slen x=>simp only[bU,fL (a:=x) h]
 |KW x=>simp only[bU,fL (a:=x) h]
 |mlen x=>simp only[bU,fL (a:=x) h]
 |append s ty sz b x y=>simp only[bU,fL (a:=x) h.left,fL (a:=y) h.right]
 |max x y=>simp only[bU,fL (a:=x) h.left,fL (a:=y) h.right]
 |min x y=>simp only[bU,fL (a:=x) h.left,fL (a:=y) h.right]
 |clear z x=>simp only[bU,fL (a:=x) h]
end
section
variable {b b':aE}
theorem yX{α β:Type}{f g:α->Option (β×a_)}(hf:∀x y r,f x=some (y,r)->js r b b'->g x=some (y,r)):∀ {xs:List α} {ys:List β} {r:a_},collect f xs=some (ys,r)->js r b b'->collect g xs=some (ys,r):=by
 intro xs
 induction xs with
 |nil=>intro ys r h _;exact h
 |cons x xs ih=>
  intro ys r h ha;simp only[collect] at h |-;split at h
  .rename_i y p bs q e1 e2;cases h;rw[hf _ _ _ e1 ha.left,ih e2 ha.right]
  cases h
theorem Pp:∀(n:Nat) (c:C) (x:PV) (r:a_),snap b n c=some (x,r)->js r b b'->snap b' n c=some (x,r):=by
 intro n
 induction n with
 |zero=>intro c x r h;simp[snap] at h
 |succ n ih=>
  intro c x r h ha;cases c with
  |p v=>exact h
  |bt id g off=>
   have hid:id∈r:=by
    simp only[snap] at h
    (repeat' split at h)<;>first
     |cases h
     |skip
    all_goals simp
   have hb:=ha id hid;simp only[snap] at h |-;rw[hb];split at h
   .split at h
    .rename_i hg;rw[aG hg];split at h
     .rename_i hc;cases h;rw[yX ih hc (fun i hi=>ha i (by simp[hi]))]
     cases h
    cases h
   .exact h
   cases h
  |dy id g i off=>
   have hid:id∈r:=by
    simp only[snap,ef] at h
    (repeat' split at h)<;>first
     |cases h
     |skip
    all_goals(simp only[ef] at h;obtain⟨e,_,h⟩:=h;cases h;simp)
   have hb:=ha id hid;simp only[snap] at h |-;rw[hb];exact h
  |hsl id g z off len=>
   have hid:id∈r:=by
    simp only[snap] at h
    (repeat' split at h)<;>first
     |cases h
     |skip
    all_goals simp
   have hb:=ha id hid;simp only[snap] at h |-;rw[hb];split at h
   .exact h
   .exact h
   .split at h
    .rename_i hg;rw[aG hg];split at h
     .rename_i hc;cases h;rw[yX (fun _ _ _ p q=>yX ih p q) hc (fun i hi=>ha i (by simp[hi]))]
     cases h
    cases h
   cases h
  |kE id g=>
   have hid:id∈r:=by
    simp only[snap] at h
    (repeat' split at h)<;>first
     |cases h
     |skip
    all_goals simp
   have hb:=ha id hid;simp only[snap] at h |-;rw[hb];exact h
  |hfn f x y=>
   simp only[snap] at h |-;split at h
   .rename_i h1 h2;cases h;rw[yX ih h1 ha.left,yX ih h2 ha.right]
   cases h
theorem at5(x y:V)(r:a_)(h:oX b x=some (y,r))(ha:js r b b'):oX b' x=some (y,r):=by
 cases x with
 |undef=>simp[oX] at h
 |tup _=>simp[oX] at h
 |one c=>simp only[oX,ef] at h |-;obtain⟨⟨p,q⟩,h1,h2⟩:=h;cases h2;exact⟨_,Pp _ _ _ _ h1 ha,rfl⟩
 |agg cs=>simp only[oX,ef] at h |-;obtain⟨⟨p,q⟩,h1,h2⟩:=h;cases h2;exact⟨_,yX (Pp _) h1 ha,rfl⟩
theorem at7{xs ys:e_}{r:a_}(h:CI b xs=some (ys,r))(ha:js r b b'):CI b' xs=some (ys,r):=yX at5 h ha
theorem am3{all:a_}{id:Nat}{u:k_}(h:y8 b all id=some u)(hid:id∈all)(ha:js all b b'):y8 b' all id=some u:=by
 have hb:=ha id hid;unfold y8 at h |-;rw[hb];split at h
 .split at h
  .rename_i ps r hc;split at h
   .rename_i hr;have mL:js r b b':=fun i hi=>ha i (by have:=gj.1 hr i hi;simpa using this);rw[yX (Pp _) hc mL];simp only;rw[aG hr];exact h
   cases h
  cases h
 .exact h
 .split at h
  .rename_i ps r hc;split at h
   .rename_i hr;have mL:js r b b':=fun i hi=>ha i (by have:=gj.1 hr i hi;simpa using this);rw[yX (fun _ _ _ p q=>yX (Pp _) p q) hc mL];simp only;rw[aG hr];exact h
   cases h
  cases h
 .exact h
 .cases h
 exact h
theorem am4{all:a_}(ha:js all b b'):∀ {ids:a_} {u:k_},(∀i∈ids,i∈all)->vp b all ids=some u->vp b' all ids=some u:=by
 intro ids
 induction ids with
 |nil=>intro u _ h;exact h
 |cons i r ih=>
  intro u hs h;simp only[vp] at h |-;split at h
  .rename_i x y h1 h2;cases h;rw[am3 h1 (hs i af) ha,ih (fun j hj=>hs j (by simp[hj])) h2]
  cases h
theorem JW{ids:a_}{u:k_}(h:tY b ids=some u)(ha:js ids b b'):tY b' ids=some u:=am4 ha (fun _ h=>h) h
theorem aoZ{r:RC}(h:js ((dY b site r).2.map (·.1)) b b'):dY b' site r=dY b site r:=by
 cases r with
 |p x=>rfl
 |own ty sz es=>simp only[dY];rw[h site (by simp[dY])]
theorem ao0:∀ {rs:n_} {site:Nat},js ((jF b site rs).2.map (·.1)) b b'->jF b' site rs=jF b site rs:=by
 intro rs
 induction rs with
 |nil=>intro site _;rfl
 |cons r rs ih=>intro site h;simp only[jF,ki] at h |-;rw[aoZ h.left,ih h.right]
theorem aeu{r:RV}(h:js ((jY b site r).2.map (·.1)) b b'):jY b' site r=jY b site r:=by unfold jY at h |-;simp only at h;rw[ao0 h]
theorem apz{rd:a_}{r:RV}{v:V}{u:k_}(h:land b rd site r=some (v,u))(ha:js rd b b')(hu:js (u.map (·.1)) b b'):land b' rd site r=some (v,u):=by
 unfold land at h |-;split at h
 .rename_i hc;rw[aG hc];cases h;rw[aeu hu];rfl
 rename_i hc;rw[aC hc];split at h
 .rename_i fu hf;cases h;rw[JW hf ha];simp only;rw[ki] at hu;rw[aeu hu.right]
 cases h
theorem ag7{x:V}{cs:f_}{r:a_}(h:CB b x=some (cs,r))(ha:js r b b'):CB b' x=some (cs,r):=by
 have key:∀id,(id∈r->b' id=b id):=fun id hid=>ha id hid;unfold CB at h |-;split at h
 .exact h
 .rename_i id g off;have hid:id∈r:=by
   (repeat' split at h)<;>first
    |cases h
    |skip
   all_goals simp
  simp only[key id hid];exact h
 .rename_i id g i off;have hid:id∈r:=by
   (repeat' split at h)<;>first
    |cases h
    |skip
   all_goals(simp only[ef] at h;obtain⟨e,_,h⟩:=h;cases h;simp)
  simp only[key id hid];exact h
 cases h
theorem apO{x:V}{n:Nat}{r:a_}(h:rM b x=some (n,r))(ha:js r b b'):rM b' x=some (n,r):=by
 have key:∀id,(id∈r->b' id=b id):=fun id hid=>ha id hid;unfold rM at h |-;split at h
 .exact h
 .exact h
 .rename_i id g;have hid:id∈r:=by
   (repeat' split at h)<;>first
    |cases h
    |skip
   all_goals simp
  simp only[key id hid];exact h
 cases h
theorem aqk{ag:Bool}{x:V}{es:t_}{r:a_}(h:mapOf b ag x=some (es,r))(ha:js r b b'):mapOf b' ag x=some (es,r):=by
 have key:∀id,(id∈r->b' id=b id):=fun id hid=>ha id hid;unfold mapOf at h |-;split at h
 .exact h
 .exact h
 .rename_i id g;have hid:id∈r:=by
   (repeat' split at h)<;>first
    |cases h
    |skip
   all_goals simp
  simp only[key id hid];exact h
 cases h
theorem JE{x:V}{es:s_}{r fr:a_}(h:gb b x=some (es,r,fr))(ha:js r b b')(hf:js fr b b'):gb b' x=some (es,r,fr):=by
 have key:∀id,(id∈r->b' id=b id):=fun id hid=>ha id hid;unfold gb at h |-;split at h
 .exact h
 .exact h
 .rename_i id g z off len;have hid:id∈r:=by
   (repeat' split at h)<;>first
    |cases h
    |skip
   all_goals simp
  simp only[key id hid];split at h
  .exact h
  .exact h
  .split at h
   .rename_i hc;rw[aG hc];split at h
    .rename_i h1;cases h;rw[yX (fun _ _ _ p q=>yX (Pp _) p q) h1 hf]
    cases h
   cases h
  exact h
 cases h
theorem avF{a:V}{n:Nat}{xs:f_}{v:V}{u:k_}{r:a_}(h:Bq b a n xs=.done v u r)(ha:js r b b'):Bq b' a n xs=.done v u r:=by
 have key:∀id,(id∈r->b' id=b id):=fun id hid=>ha id hid;unfold Bq at h |-;split at h
 .cases h
 rename_i hn;rw[aC hn];split at h
 .rename_i id g off;have hid:id∈r:=by
   (repeat' split at h)<;>first
    |cases h
    |skip
   all_goals simp
  simp only[key id hid];exact h
 .rename_i id g i off;have hid:id∈r:=by
   (repeat' split at h)<;>first
    |cases h
    |skip
   all_goals simp
  simp only[key id hid];exact h
 cases h
theorem ajF{ty sz bytes:Nat}{s x v:V}{u:k_}{r:a_}(h:au b site ty sz bytes s x=.done v u r)(ha:js r b b'):au b' site ty sz bytes s x=.done v u r:=by
 unfold au at h |-;split at h
 .cases h
 rename_i new rd fr dy;split at h
 .cases h
 rename_i cT;split at h
 .cases h
 rename_i fu rF;have sub:∀ {l:a_},(∀i∈l,i∈r)->js l b b':=fun hl i hi=>ha i (hl i hi);split at h
 .split at h
  .rename_i hn;cases h;rw[JE dy ha.left ha.right];simp only;rw[aC cT,JW rF ha.right];simp only;rw[aG hn]
  rename_i hn;split at h
  .rename_i hr;cases h;rw[JE dy (sub fun i hi=>by simp[hi]) (sub fun i hi=>by simp[hi])];simp only;rw[aC cT,JW rF (sub fun i hi=>by simp[hi])];simp only;rw[aC hn,aG hr,ha site af]
  cases h
 .split at h
  .cases h
  rename_i hn;split at h
  .rename_i hr;cases h;rw[JE dy (sub fun i hi=>by simp[hi]) (sub fun i hi=>by simp[hi])];simp only;rw[aC cT,JW rF (sub fun i hi=>by simp[hi])];simp only;rw[aC hn,aG hr,ha site af]
  cases h
 .rename_i id g z len;split at h
  .rename_i g' kh cH es hb;split at h
   .rename_i hr;cases h;rw[JE dy (sub fun i hi=>by simp[hi]) (sub fun i hi=>by simp[hi])];simp only;rw[aC cT,JW rF (sub fun i hi=>by simp[hi])];simp only;have h1:=ha id af;rw[hb] at h1;simp only[h1];rw[aG hr,ha site af]
   cases h
  cases h
 .rename_i id g z off len aK;cases off with
  |zero=>exact(aK rfl).elim
  |succ off=>
  split at h
  .rename_i g' kh cH es hb;split at h
   .rename_i hr;cases h;rw[JE dy (sub fun i hi=>by simp[hi]) (sub fun i hi=>by simp[hi])];simp only;rw[aC cT,JW rF (sub fun i hi=>by simp[hi])];simp only;have h1:=ha id af;rw[hb] at h1;simp only[h1];rw[aG hr]
   cases h
  cases h
 cases h
end
theorem arL{sh:Nat->Bool}{e:Env}{b:aE}{p:oz}{v:V}{u:k_}{r:a_}(h:bU sh e b p=.done v u r)(ha:js r b b'):bU sh e b' p=.done v u r:=by
 cases p with
 |alloc s z=>simp only[bU,fP.done.injEq] at h |-;obtain⟨h1,h2,h3⟩:=h;rw[ha s (by rw[<- h3];simp)];exact⟨h1,h2,h3⟩
 |mkmap s ag=>simp only[bU,fP.done.injEq] at h |-;obtain⟨h1,h2,h3⟩:=h;rw[ha s (by rw[<- h3];simp)];exact⟨h1,h2,h3⟩
 |box s x=>
  simp only[bU] at h |-;split at h
  .cases h;rw[ha s af]
  cases h
 |EY s ty sz ps=>
  simp only[bU] at h |-;split at h
  .split at h
   .cases h;rw[ha s af]
   cases h;rw[ha s af]
  cases h
 |KY s ty sz bytes z l c=>
  simp only[bU] at h |-;split at h
  .split at h
   .rename_i hc;cases h;rw[aG hc,ha s af]
   cases h
  cases h
 |load k x=>
  simp only[bU] at h |-;split at h
  .rename_i cs q hq;split at h
   .rename_i v' hv;cases h;rw[ag7 hq ha];simp only[hv]
   cases h
  cases h
 |store n a x=>
  simp only[bU] at h |-;split at h
  .exact avF h ha
  cases h
 |bstr x=>
  simp only[bU] at h |-;split at h
  .rename_i es q hq;split at h
   .rename_i bs hb;cases h;rw[JE hq ha (fun i hi=>by simp at hi)];simp only[hb]
   cases h
  cases h
 |lookup kd z ag ok x k=>
  simp only[bU] at h |-;split at h
  .rename_i es q key hm hk;split at h
   .cases h
   rename_i BU;split at h
   .rename_i f hf;split at h
    .rename_i w hw;cases h;rw[aqk hm ha,hk];simp only;rw[aC BU];simp only[hf,hw]
    cases h
   cases h
  cases h
 |clear z x=>
  simp only[bU] at h |-;split at h
  .cases h;rfl
  .cases h;rfl
  .rename_i id g w off len e;split at h
   .rename_i h0;cases h;simp only[h0,if_true]
   rename_i h0;split at h
   .rename_i g' ty sz es h4;split at h
    .rename_i hc;cases h;have hb:=ha id af;rw[h4] at hb;rw[aC h0];simp only[hb];rw[aG hc]
    cases h
   cases h
  cases h
 |mupd kd ag m k v=>
  simp only[bU] at h |-;split at h
  .rename_i id g q cs h1 h2 h3;split at h
   .rename_i g' sK es ps h4 h5;split at h
    .rename_i hc;split at h
     .rename_i i w hf;cases h;have hb:=ha id af;rw[h4] at hb;simp only[hb,h5];rw[aG hc];simp only[hf]
     .rename_i hf;cases h;have hb:=ha id af;rw[h4] at hb;simp only[hb,h5];rw[aG hc];simp only[hf]
     cases h
    cases h
   cases h
  cases h
 |mlen x=>
  simp only[bU] at h |-;split at h
  .rename_i n q hq;cases h;rw[apO hq ha]
  cases h
 |append s ty sz bytes x y=>exact ajF h ha
 |call s f as=>
  simp only[bU] at h
  (repeat' split at h)<;>cases h
 |_=>exact h
theorem ar1{sh:Nat->Bool}{e:Env}{b:aE}{p:oz}{f s:Nat}{vs:e_}{r:a_}(h:bU sh e b p=.pc f vs r s)(ha:js r b b'):bU sh e b' p=.pc f vs r s:=by
 cases p with
 |call s f as=>
  simp only[bU] at h |-;split at h
  .split at h
   .cases h
   rename_i jw;rw[aC jw];split at h
   .rename_i hs;cases h;rw[at7 hs ha]
   cases h
  cases h
 |_=>
  (simp only[bU,Bq,au,Em,reduceCtorEq] at h)<;>(repeat' split at h)<;>cases h
theorem ar3{sh:Nat->Bool}{e:Env}{b:aE}{p:oz}{f:Nat}{vs:e_}(h:bU sh e b p=.sc f vs):bU sh e b' p=.sc f vs:=by
 cases p with
 |call s f as=>
  simp only[bU] at h |-;split at h
  .split at h
   .rename_i jw;rw[aG jw];exact h
   split at h<;>cases h
  cases h
 |_=>
  (simp only[bU,Bq,au,Em,reduceCtorEq] at h)<;>(repeat' split at h)<;>cases h
theorem ajD:∀(u:k_) (b b':aE) (id:Nat),id∈u.map (·.1)->app u b id=app u b' id:=by
 intro u
 induction u with
 |nil=>intro b b' id h;simp at h
 |cons x u ih=>
  intro b b' id h;obtain⟨i,o⟩:=x;simp only[app];by_cases hu:id∈u.map (·.1)
  .exact ih _ _ _ hu
  have hi:id=i:=by simpa [hu] using h
  have key:∀(u:k_) (b:aE),id∉u.map (·.1)->app u b id=b id:=by
   intro u
   induction u with
   |nil=>intro b _;rfl
   |cons x u ih=>intro b h;obtain⟨j,o⟩:=x;simp only[eD,ch,not_or] at h;simp only[app];rw[ih _ h.2,aU,aC h.1]
  rw[key u _ hu,key u _ hu,aU,aU,aG hi,aG hi]
theorem We:∀(u:k_) (b:aE) (id:Nat),id∉u.map (·.1)->app u b id=b id:=by
 intro u
 induction u with
 |nil=>intro b id _;rfl
 |cons x u ih=>intro b id h;obtain⟨j,o⟩:=x;simp only[eD,ch,not_or] at h;simp only[app];rw[ih _ _ h.2,aU,aC h.1]
theorem avy{e e':Env}{g:Option (Nat×Bool)}(h:∀t w,g=some (t,w)->e' t=e t):wanted e' g=wanted e g:=by
 cases g with
 |none=>rfl
 |some q=>obtain⟨t,w⟩:=q;simp only[wanted,h t w rfl]
def cM.writes(f:cM)(id:Nat):Bool:=f.wr.contains id||f.fs.contains (jH id)
def cM.uY(f:cM)(id:Nat):Bool:=f.rd.contains id||f.writes id
theorem aha{b:aE}:∀(n:Nat) (c:C),js (j8 b n c) b b'->j8 b' n c=j8 b n c:=by
 intro n
 induction n with
 |zero=>intro c _;rfl
 |succ n ih=>
  have many:∀(cs:f_),js (cs.map (j8 b n)).flatten b b'->(cs.map (j8 b' n)).flatten=(cs.map (j8 b n)).flatten:=by
   intro cs
   induction cs with
   |nil=>intro _;rfl
   |cons c cs ihc=>intro h;simp only[eD,mS] at h |-;rw[ih c h.left,ihc h.right]
  intro c h;cases c with
  |p v=>rfl
  |bt id g off=>
   simp only[j8] at h |-;have hb:=h id af;rw[hb];split
   .rename_i cs NQ;rw[NQ] at h;rw[many cs (fun i hi=>h i (by simp only[ch];exact .inr hi))]
   rfl
  |dy id g i off=>
   simp only[j8] at h |-;have hb:=h id af;rw[hb];split
   .rename_i cs NQ;rw[NQ] at h;rw[many _ (fun i hi=>h i (by simp only[ch];exact .inr hi))]
   rfl
  |hsl id g z off len=>
   simp only[j8] at h |-;have hb:=h id af;rw[hb];split
   .rename_i cs NQ;rw[NQ] at h;rw[many _ (fun i hi=>h i (by simp only[ch];exact .inr hi))]
   rfl
  |kE id g=>rfl
  |hfn f x y=>simp only[j8] at h |-;rw[many x h.left,many y h.right]
theorem ass{b:aE}(v:V)(h:js (jy b v) b b'):jy b' v=jy b v:=by
 cases v with
 |undef=>rfl
 |tup _=>rfl
 |one c=>exact aha _ _ h
 |agg cs=>
  simp only[jy] at h |-
  induction cs with
  |nil=>rfl
  |cons c cs ih=>simp only[eD,mS] at h |-;rw[aha _ c h.left,ih h.right]
theorem ajx{f:Nat}{vs:e_}{b:aE}(h:js (allow sh f vs b).ids b b'):allow sh f vs b'=allow sh f vs b:=by
 have:(vs.map (jy b')).flatten=(vs.map (jy b)).flatten:=by
  unfold allow at h;simp only at h
  induction vs with
  |nil=>rfl
  |cons v vs ih=>simp only[eD,mS] at h |-;rw[ass v h.left,ih h.right]
 unfold allow;rw[this]
def Bw(cs:kr):Prop:=∀f vs al aj v ao,cs f vs al aj=some (v,ao)->(∀id,al.ok id=false->ao id=aj id)/\
 ∀bN,(∀id,al.ok id=true->bN id=aj id)->∃mX,cs f vs al bN=some (v,mX)/\ ∀id,mX id=if al.ok id then ao id else bN id
theorem UB{al:Al}{l:a_}(h:al.fT l=true){id:Nat}(hid:id∈l):al.ok id=true:=gj.1 h id hid
theorem aoy{a b:Al}(hb:b.any=false)(h:a.holds b=true){id:Nat}(hid:b.ok id=true):a.ok id=true:=by
 unfold Al.holds at h;simp only[vU,cJ] at h;rcases h with h|⟨h1,h2⟩
 .simp[Al.ok,h]
 simp only[Al.ok,hb,CO,vU] at hid;rcases hid with hid|hid
 .exact UB h1 (by simpa using hid)
 have:=gj.1 h2 (jH id) (by simpa using hid);simp only[Al.ok,vU];exact .inr this
theorem ZM(dF:Bw cs){o:cq}{aH:Env}{aj ao:aE}{f:cM}(h:step1 sh cp cs o ak aj=some (aH,ao,f)):
  ∃v,aH=put ak o.dst v/\(∀id,f.writes id=false->ao id=aj id)/\(∀id,f.uY id=true->sh.al.ok id=true)/\
   ∀(dE:Env) (bN:aE),tO o.Iy ak dE->(∀id,f.uY id=true->bN id=aj id)->
    ∃mX,step1 sh cp cs o dE bN=some (put dE o.dst v,mX,f)/\ ∀id,mX id=if f.writes id then ao id else bN id:=by
 have HL:∀(dE:Env),tO o.Iy ak dE->tO o.op.tmps ak dE/\wanted dE o.guard=wanted ak o.guard:=by intro dE h;unfold cq.Iy at h;exact⟨h.left,avy fun t w hg=>h.right t (by rw[hg];simp)⟩
 have hwr:∀(r w:a_) (id:Nat),(⟨r,w,[]⟩:cM).writes id=w.contains id:=by intro r w id;simp[cM.writes]
 have FQ:∀(r w:a_) (id:Nat),(⟨r,w,[]⟩:cM).uY id=true↔id∈r\/id∈w:=by intro r w id;simp[cM.uY,cM.writes]
 have aeh:∀(u:k_) (b b2:aE) (r:a_) (id:Nat),app u b2 id=if (⟨r,u.map (·.1),[]⟩:cM).writes id then app u b id else b2 id:=by
  intro u b b2 r id;rw[hwr];by_cases hid:id∈u.map (·.1)
  .rw[aG (by simpa using hid)];exact ajD _ _ _ _ hid
  rw[aC (by simpa using hid)];exact We _ _ _ hid
 unfold step1 at h;split at h
 .cases h
 .rename_i hw;cases h;refine⟨.undef,rfl,fun _ _=>rfl,fun id hid=>by simp[cM.uY,cM.writes] at hid,fun dE bN he hb=>⟨bN,?_,fun id=>by simp[cM.writes]⟩⟩;unfold step1;rw[(HL dE he).2,hw]
 rename_i hw;split at h
 .cases h
 .rename_i v u r hp;split at h
  .rename_i ay;cases h;refine⟨v,rfl,fun id hid=>We _ _ _ (by rw[hwr] at hid;simpa using hid),fun id hid=>UB ay (by have:=(FQ _ _ _).1 hid;simpa using this),fun dE bN he hb=>⟨app u bN,?_,fun id=>aeh _ _ _ _ _⟩⟩;unfold step1;rw[(HL dE he).2,hw];simp only;rw[Zo (HL dE he).1,arL hp fun id hid=>hb id ((FQ _ _ _).2 (.inl hid))];simp only;rw[aG ay]
  cases h
 .rename_i g vs r s hp;split at h
  .rename_i x hx;split at h
   .rename_i v u hl;split at h
    .rename_i ay;cases h;refine⟨v,rfl,fun id hid=>We _ _ _ (by rw[hwr] at hid;simpa using hid),fun id hid=>UB ay (by have:=(FQ _ _ _).1 hid;simp at this |-;rcases this with h|h<;>simp[h]),fun dE bN he hb=>⟨app u bN,?_,fun id=>aeh _ _ _ _ _⟩⟩;unfold step1;rw[(HL dE he).2,hw];simp only;rw[Zo (HL dE he).1,ar1 hp fun id hid=>hb id ((FQ _ _ _).2 (.inl (by simp[hid])))];simp only[hx];rw[apz hl (fun id hid=>hb id ((FQ _ _ _).2 (.inl (by simp[hid])))) fun id hid=>hb id ((FQ _ _ _).2 (.inr hid))];simp only;rw[aG ay]
    cases h
   cases h
  cases h
 rename_i g vs hp;split at h
 .rename_i ay;split at h
  .rename_i v b1 hx;cases h;have iC:∀id,(⟨(allow sh g vs aj).ids,(allow sh g vs aj).ids,(allow sh g vs aj).fs⟩:cM).writes id=(allow sh g vs aj).ok id:=by
    intro id;simp[cM.writes,Al.ok,allow]
   have Xx:∀id,(⟨(allow sh g vs aj).ids,(allow sh g vs aj).ids,(allow sh g vs aj).fs⟩:cM).uY id=(allow sh g vs aj).ok id:=by intro id;simp only[cM.uY,iC];simp only[Al.ok];cases (allow sh g vs aj).ids.contains id<;>simp
   obtain⟨l1,l2⟩:=dF _ _ _ _ _ _ hx;refine⟨v,rfl,fun id hid=>l1 id (by rw[<- iC];exact hid),fun id hid=>aoy rfl ay (by rw[<- Xx];exact hid),fun dE bN he hb=>?_⟩;obtain⟨mX,g1,g2⟩:=l2 bN fun id hid=>hb id (by rw[Xx];exact hid);have aog:allow sh g vs bN=allow sh g vs aj:=ajx fun id hid=>hb id (by rw[Xx];simp[Al.ok,hid]);refine⟨mX,?_,fun id=>by rw[iC];exact g2 id⟩;unfold step1;rw[(HL dE he).2,hw];simp only;rw[Zo (HL dE he).1,ar3 hp];simp only[aog];rw[aG ay];simp only[g1]
  cases h
 cases h
theorem asi(ak:Env){d d':w_}(v v':V)(h:∀t,d=some t->d'≠some t):put (put ak d v) d' v'=put (put ak d' v') d v:=by
 cases d with
 |none=>rfl
 |some t=>
  cases d' with
  |none=>rfl
  |some t'=>
   have aK:t'≠t:=fun e=>h t rfl (by rw[e]);funext x;simp only[put,aU];by_cases h1:x=t
   .subst h1;rw[aG rfl,aC (fun e=>aK e.symm),aG rfl]
   rw[aC h1,aC h1]
theorem ag3{d:w_}{v:V}{t:Nat}(h:d≠some t):put ak d v t=ak t:=by
 cases d with
 |none=>rfl
 |some x=>simp only[put,aU];rw[aC (fun e=>h (by rw[e]))]
theorem Us{a b:a_}(h:meets a b=false){i:Nat}(ha:i∈a):i∉b:=by
 intro hb;have:meets a b=true:=by simp only[meets,u5];exact⟨i,ha,by simpa using hb⟩
 rw[h] at this;cases this
theorem Yp{fs ids:a_}(h:HQ fs ids=false){i:Nat}(hi:i∈ids):jH i∉fs:=by
 intro hf;have:HQ fs ids=true:=by simp only[HQ,u5];exact⟨i,hi,by simpa using hf⟩
 rw[h] at this;cases this
theorem akW{a b:cM}(h:GN a b=false)(id:Nat):(a.writes id=true->b.uY id=false)/\(b.writes id=true->a.uY id=false):=by
 simp only[GN,PG] at h;obtain⟨⟨⟨⟨⟨c1,c2⟩,c3⟩,c4⟩,c5⟩,c6⟩:=h;have sw:∀ {x y:a_},meets x y=false->meets y x=false:=by
  intro x y h;cases he:meets y x with
  |false=>rfl
  |true=>simp only[meets,u5] at he;obtain⟨i,h1,h2⟩:=he;exact absurd h1 (Us h (by simpa using h2))
 have one:∀ {a b:cM},meets a.wr b.rd=false->meets a.wr b.wr=false->meets a.fs b.fs=false->HQ a.fs (b.rd++b.wr)=false->HQ b.fs (a.rd++a.wr)=false->a.writes id=true->b.uY id=false:=by
  intro a b c1 c2 c4 c5 c6 hw;simp only[cM.writes,vU] at hw;simp only[cM.uY,cM.writes,PG];rcases hw with hw|hw
  .have hw:id∈a.wr:=by simpa using hw
   exact⟨by simpa using Us c1 hw,by simpa using Us c2 hw,by simpa using Yp c6 (i:=id) (by simp[hw])⟩
  have hw:jH id∈a.fs:=by simpa using hw
  refine⟨?_,?_,?_⟩
  .cases he:b.rd.contains id with
   |false=>rfl
   |true=>exact absurd hw (Yp c5 (i:=id) (by simp at he;simp[he]))
  .cases he:b.wr.contains id with
   |false=>rfl
   |true=>exact absurd hw (Yp c5 (i:=id) (by simp at he;simp[he]))
  simpa using Us c4 hw
 exact⟨one c1 c2 c4 c5 c6,one (sw c3) (sw c2) (sw c4) c6 c5⟩
theorem swap{sh:Ctx}{cp:gU}{cs:kr}(dF:Bw cs){x y:cq}{ak iR dE:Env}{aj cZ bN:aE}{e1 e2:cM}(hx:step1 sh cp cs x ak aj=some (iR,cZ,e1))(hy:step1 sh cp cs y iR cZ=some (dE,bN,e2))
  (hf:Hc x y=true) (hc:GN e1 e2=false):∃envy blky,step1 sh cp cs y ak aj=some (envy,blky,e2)/\step1 sh cp cs x envy blky=some (dE,bN,e1):=by
 obtain⟨v1,rfl,JS,_,ap5⟩:=ZM dF hx;obtain⟨v2,rfl,BI,_,ap6⟩:=ZM dF hy;have vv:∀t,x.dst=some t->t∉y.Iy/\y.dst≠some t:=by intro t ht;simp only[Hc,ht,cJ] at hf;have h1:=hf.1;simp at h1;exact⟨by simpa using h1.1,h1.2⟩
 have zu:∀t,y.dst=some t->t∉x.Iy:=by
  intro t ht;simp only[Hc,ht,cJ] at hf;have h1:=hf.2
  simpa using h1
 have cK:=akW hc;have nw:∀ {a b:cM} {id:Nat},(a.writes id=true->b.uY id=false)->b.uY id=true->a.writes id=false:=by
  intro a b id h1 h2;cases h:a.writes id with
  |false=>rfl
  |true=>rw[h1 h] at h2;cases h2
 have wt:∀ {a:cM} {id:Nat},a.writes id=true->a.uY id=true:=by intro a id h;simp[cM.uY,h]
 obtain⟨blky,hy2,yb⟩:=ap6 ak aj (fun t ht=>(ag3 fun e=>(vv t e).1 ht).symm) (fun id hid=>(JS id (nw (cK id).1 hid)).symm);obtain⟨blkx,yv,xb⟩:=ap5 (put ak y.dst v2) blky (fun t ht=>ag3 fun e=>zu t e ht) (fun id hid=>by rw[yb id,nw (cK id).2 hid];rfl)
 refine⟨_,blky,hy2,?_⟩;rw[yv,asi ak v1 v2 fun t ht=>(vv t ht).2];have:blkx=bN:=by
  funext id;rw[xb id,yb id];cases h1:e1.writes id with
  |true=>have h2:e2.writes id=false:=nw (cK id).2 (wt h1);exact(BI id h2).symm
  |false=>
   cases h2:e2.writes id with
   |true=>rfl
   |false=>simp only[dR,if_false];rw[BI id h2,JS id h1]
 rw[this]
structure It where
 i:Nat
 io:cq
 e:cM
def PY(x y:It):Prop:=Hc x.io y.io=true/\GN x.e y.e=false
theorem ah9{o:cq}{r:g_}{aH:Env}{aj ao:aE}{e:cM}{es:i_}(h:steps sh cp cs (o::r) ak aj=some (aH,ao,e::es)):
  ∃iR cZ,step1 sh cp cs o ak aj=some (iR,cZ,e)/\steps sh cp cs r iR cZ=some (aH,ao,es):=by
 simp only[steps] at h;split at h
 .rename_i iR cZ e1 h1;split at h
  .rename_i dE bN es2 h2;cases h;exact⟨iR,cZ,h1,h2⟩
  cases h
 cases h
theorem auB{o:cq}{r:g_}{iR aH:Env}{aj cZ ao:aE}{e:cM}{es:i_}(h1:step1 sh cp cs o ak aj=some (iR,cZ,e))(h2:steps sh cp cs r iR cZ=some (aH,ao,es)):
  steps sh cp cs (o::r) ak aj=some (aH,ao,e::es):=by
 simp only[steps,h1,h2]
theorem auZ(dF:Bw cs){y:It}{l2:List It}:∀ {l1:List It} {ak aH:Env} {aj ao:aE},steps sh cp cs ((l1++y::l2).map (·.io)) ak aj=some (aH,ao,(l1++y::l2).map (·.e))->(∀x∈l1,PY x y)->
  ∃iR cZ,step1 sh cp cs y.io ak aj=some (iR,cZ,y.e)/\steps sh cp cs ((l1++l2).map (·.io)) iR cZ=some (aH,ao,(l1++l2).map (·.e)):=by
 intro l1
 induction l1 with
 |nil=>intro ak aH aj ao h _;exact ah9 h
 |cons x l1 ih=>intro ak aH aj ao h qI;obtain⟨envx,blkx,h1,h2⟩:=ah9 h;obtain⟨envy,blky,h3,h4⟩:=ih h2 fun z hz=>qI z (by simp[hz]);obtain⟨en1,bl1,h5,h6⟩:=swap dF h1 h3 (qI x af).1 (qI x af).2;exact⟨en1,bl1,h5,auB h6 h4⟩
def EP(al:Al)(b b2:aE):Prop:=∀id,al.ok id=true->b2 id=b id
def v8(al:Al)(b' b2 GG:aE):Prop:=∀id,GG id=if al.ok id then b' id else b2 id
def Frame(al:Al)(b b':aE):Prop:=∀id,al.ok id=false->b' id=b id
theorem v8.agree{al:Al}{b2 GG:aE}(h:v8 al b' b2 GG):EP al b' GG:=fun id hid=>by rw[h id,hid];rfl
theorem v8.trans{al:Al}{b2 GG b'' aaY:aE}(h:v8 al b' b2 GG)(k:v8 al b'' GG aaY):v8 al b'' b2 aaY:=fun id=>by rw[k id,h id];cases al.ok id<;>rfl
theorem v8.refl{al:Al}{b b2:aE}(h:EP al b b2):v8 al b b2 b2:=fun id=>by
 cases hid:al.ok id with
 |true=>exact h id hid
 |false=>rfl
theorem Frame.trans{al:Al}{b b'':aE}(h:Frame al b b')(k:Frame al b' b''):Frame al b b'':=fun id hid=>(k id hid).trans (h id hid)
section
variable {sh:Ctx} {cp:gU} {cs:kr} (dF:Bw cs)
include dF
theorem auy:∀ {ops:g_} {ak aH:Env} {aj ao:aE} {es:i_},steps sh cp cs ops ak aj=some (aH,ao,es)->Frame sh.al aj ao/\
  ∀bN,EP sh.al aj bN->∃mX,steps sh cp cs ops ak bN=some (aH,mX,es)/\v8 sh.al ao bN mX:=by
 intro ops
 induction ops with
 |nil=>intro ak aH aj ao es h;simp only[steps,gn,lE] at h;obtain⟨rfl,rfl,rfl⟩:=h;exact⟨fun _ _=>rfl,fun bN ha=>⟨bN,rfl,.refl ha⟩⟩
 |cons o ops ih=>
  intro ak aH aj ao es h;simp only[steps] at h;split at h
  .rename_i iR cZ e h1;split at h
   .rename_i dE bN im h2;cases h;obtain⟨v,rfl,fr,tw,loc⟩:=ZM dF h1;obtain⟨f2,g2⟩:=ih h2;have hw:∀id,sh.al.ok id=false->e.writes id=false:=by
     intro id hid;cases hh:e.writes id with
     |false=>rfl
     |true=>have:=tw id (by simp[cM.uY,hh]);rw[hid] at this;cases this
    refine⟨Frame.trans (fun id hid=>fr id (hw id hid)) f2,fun b2 ha=>?_⟩;obtain⟨b1,s1,m1⟩:=loc ak b2 (fun _ _=>rfl) (fun id hid=>ha id (tw id hid));have pW:v8 sh.al cZ b2 b1:=by
     intro id;rw[m1 id];cases hid:sh.al.ok id with
     |true=>
      cases hh:e.writes id with
      |true=>rfl
      |false=>simp only[dR,if_false,if_true];rw[ha id hid,fr id hh]
     |false=>rw[hw id hid]
    obtain⟨b3,s2,m2⟩:=g2 b1 pW.agree;exact⟨b3,by simp only[steps,s1,s2],pW.trans m2⟩
   cases h
  cases h
theorem apj{c:Env->aE->Option (nG×Env×aE)}(hc:∀ {ak aH aj ao e},c ak aj=some (e,aH,ao)->Frame sh.al aj ao/\ ∀bN,EP sh.al aj bN->∃mX,c ak bN=some (e,aH,mX)/\v8 sh.al ao bN mX):
  ∀(k:Nat) {ak aH:Env} {aj ao:aE} {e:nG},iter c k ak aj=some (e,aH,ao)->Frame sh.al aj ao/\ ∀bN,EP sh.al aj bN->∃mX,iter c k ak bN=some (e,aH,mX)/\v8 sh.al ao bN mX:=by
 have _u0:=dF;intro k
 induction k with
 |zero=>intro ak aH aj ao e h;simp[iter] at h
 |succ k ih=>
  intro ak aH aj ao e h;simp only[iter] at h;split at h
  .rename_i iR cZ h1;obtain⟨f1,g1⟩:=hc h1;obtain⟨f2,g2⟩:=ih h;refine⟨f1.trans f2,fun b2 ha=>?_⟩;obtain⟨b1,s1,m1⟩:=g1 b2 ha;obtain⟨b3,s2,m2⟩:=g2 b1 m1.agree;exact⟨b3,by simp only[iter,s1,s2],m1.trans m2⟩
  rename_i aK;obtain⟨f1,g1⟩:=hc h;refine⟨f1,fun b2 ha=>?_⟩;obtain⟨b1,s1,m1⟩:=g1 b2 ha;refine⟨b1,?_,m1⟩;cases e with
  |normal=>exact(aK _ _ h).elim
  |exit i=>simp only[iter,s1]
  |ret=>simp only[iter,s1]
theorem acy{n:Nat}:∀(c:aR) {ak aH:Env} {aj ao:aE} {e:nG},exec sh cp cs n c ak aj=some (e,aH,ao)->Frame sh.al aj ao/\
  ∀bN,EP sh.al aj bN->∃mX,exec sh cp cs n c ak bN=some (e,aH,mX)/\v8 sh.al ao bN mX:=by
 intro c
 induction c with
 |skip=>intro ak aH aj ao e h;simp only[exec,gn,lE] at h;obtain⟨rfl,rfl,rfl⟩:=h;exact⟨fun _ _=>rfl,fun b2 ha=>⟨b2,rfl,.refl ha⟩⟩
 |exit id=>intro ak aH aj ao e h;simp only[exec,gn,lE] at h;obtain⟨rfl,rfl,rfl⟩:=h;exact⟨fun _ _=>rfl,fun b2 ha=>⟨b2,rfl,.refl ha⟩⟩
 |ret=>intro ak aH aj ao e h;simp only[exec,gn,lE] at h;obtain⟨rfl,rfl,rfl⟩:=h;exact⟨fun _ _=>rfl,fun b2 ha=>⟨b2,rfl,.refl ha⟩⟩
 |bad=>intro ak aH aj ao e h;simp[exec] at h
 |region d ops=>
  intro ak aH aj ao e h;simp only[exec] at h;split at h
  .rename_i iR cZ es h1;obtain⟨f1,g1⟩:=auy dF h1;have he:(e,aH,ao)=(nG.normal,iR,cZ)/\(d=true->ui ops [] es=true):=by
    cases d with
    |false=>simp at h;exact⟨by simp[h],fun h=>by cases h⟩
    |true=>
     simp only[if_true] at h;split at h
     .rename_i hd;cases h;exact⟨rfl,fun _=>hd⟩
     cases h
   obtain⟨he,hd⟩:=he;cases he;refine⟨f1,fun b2 ha=>?_⟩;obtain⟨b1,s1,m1⟩:=g1 b2 ha;refine⟨b1,?_,m1⟩;simp only[exec,s1];cases d with
   |false=>simp
   |true=>simp[hd rfl]
  cases h
 |seq a b iha ihb=>
  intro ak aH aj ao e h;simp only[exec] at h;split at h
  .rename_i iR cZ h1;obtain⟨f1,g1⟩:=iha h1;obtain⟨f2,g2⟩:=ihb h;refine⟨f1.trans f2,fun b2 ha=>?_⟩;obtain⟨b1,s1,m1⟩:=g1 b2 ha;obtain⟨b3,s2,m2⟩:=g2 b1 m1.agree;exact⟨b3,by simp only[exec,s1,s2],m1.trans m2⟩
  rename_i aK;obtain⟨f1,g1⟩:=iha h;refine⟨f1,fun b2 ha=>?_⟩;obtain⟨b1,s1,m1⟩:=g1 b2 ha;refine⟨b1,?_,m1⟩;cases e with
  |normal=>exact(aK _ _ h).elim
  |exit i=>simp only[exec,s1]
  |ret=>simp only[exec,s1]
 |cond x a b iha ihb=>
  intro ak aH aj ao e h;simp only[exec] at h |-;split at h
  .rename_i t ht;cases t with
   |true=>exact iha h
   |false=>exact ihb h
  cases h
 |block id c ih=>
  intro ak aH aj ao e h;simp only[exec] at h;split at h
  .rename_i i iR cZ h1;obtain⟨f1,g1⟩:=ih h1;have hb:ao=cZ:=by split at h<;>cases h<;>rfl
   subst hb;refine⟨f1,fun b2 ha=>?_⟩;obtain⟨b1,s1,m1⟩:=g1 b2 ha;refine⟨b1,?_,m1⟩;simp only[exec,s1];split at h
   .rename_i hi;cases h;rw[aG hi]
   rename_i hi;cases h;rw[aC hi]
  rename_i aK;obtain⟨f1,g1⟩:=ih h;refine⟨f1,fun b2 ha=>?_⟩;obtain⟨b1,s1,m1⟩:=g1 b2 ha;refine⟨b1,?_,m1⟩;cases e with
  |normal=>simp only[exec,s1]
  |exit i=>exact(aK _ _ _ h).elim
  |ret=>simp only[exec,s1]
 |loop c ih=>intro ak aH aj ao e h;simp only[exec] at h |-;exact apj dF (fun h=>ih h) n h
end
theorem ahi{al:Al}{aj bN:aE}(ha:EP al aj bN):∀ {rs:List (Nat×Option w_)} {vs:e_},qt al ak aj rs=some vs->qt al ak bN rs=some vs:=by
 intro rs
 induction rs with
 |nil=>intro vs h;exact h
 |cons r rs ih=>
  obtain⟨t,k⟩:=r;cases k with
  |none=>
   intro vs h;simp only[qt] at h |-;split at h
   .rename_i v q h1 h2;cases h;simp only[h1,ih h2]
   cases h
  |some k=>
   intro vs h;simp only[qt] at h |-;split at h
   .rename_i cs rd q h1 h2;split at h
    .rename_i ay;rw[ag7 h1 (fun id hid=>ha id (UB ay hid)),ih h2];simp only[ay,if_true];exact h
    cases h
   cases h
theorem as0(dF:Bw cs){n:Nat}{fn:bG}{args:e_}{aj ao:aE}{v:V}(h:sG sh cp cs n fn args aj=some (v,ao)):Frame sh.al aj ao/\
  ∀bN,EP sh.al aj bN->∃mX,sG sh cp cs n fn args bN=some (v,mX)/\v8 sh.al ao bN mX:=by
 unfold sG at h;split at h
 .rename_i ak b hx;simp only[ef] at h;obtain⟨vs,h1,h2⟩:=h;cases h2;obtain⟨f1,g1⟩:=acy dF _ hx;refine⟨f1,fun b2 ha=>?_⟩;obtain⟨b3,s1,m1⟩:=g1 b2 ha;exact⟨b3,by unfold sG;rw[s1];simp only[ahi m1.agree h1,nE],m1⟩
 .rename_i ak b hx;simp only[ef] at h;obtain⟨vs,h1,h2⟩:=h;cases h2;obtain⟨f1,g1⟩:=acy dF _ hx;refine⟨f1,fun b2 ha=>?_⟩;obtain⟨b3,s1,m1⟩:=g1 b2 ha;exact⟨b3,by unfold sG;rw[s1];simp only[ahi m1.agree h1,nE],m1⟩
 cases h
end
end Go.Abs
namespace Go.Abs
variable {P:Program} {w0:World}
def tN(w:World)(O:Nat->Prop):V->Value->Prop
 | .one (.p x),v=>cN w O x v
 | .agg cs,v=>∃arr ps,v=.agg arr/\cs=ps.map .p/\dM w O ps arr.toList
 |_,_=>False
def Enters(P:Program)(f:Nat):Prop:= ∃fn c,P.funcs[f]?=some fn/\fn.body=some c/\(fn.name== "runtime.NumGoroutine")=false
def PO(w:World)(Q:Nat->Prop)(r:RV)(val:Value)(bs:a_):Prop:= ∃vs,Gr r val vs/\sI w Q (iY r) vs bs
def wa(w:World)(O:Nat->Prop)(r:RV):Ending->World->Prop:=fun e w'=>∃val bs,e=.returned val/\fY w w'/\bs.Nodup/\(∀c∈bs,w.heap.size<=c/\c<w'.heap.size)/\PO w' (fun c=>O c\/c∈bs) r val bs
def Good(G:World->Prop)(w:World):Prop:=G w/\ ∀w w',fY w w'->G w->G w'
theorem Ok.adx{m:Mem}(h:Ok w0 m):fY w0 m.w:=⟨h.os,h.tape,h.output,h.size,h.base⟩
theorem sI.pure{w:World}{Q Q':Nat->Prop}(h:∀b,Q' b->Q b):∀ {rs:n_} {vs:List Value} {bs:a_},(∀c∈bs,¬Q' c)->sI w Q rs vs bs->sI w Q' (rs.map RC.pure) vs []:=by
 intro rs
 induction rs with
 |nil=>intro vs bs _ hr;exact⟨hr.1,rfl⟩
 |cons r rs ih=>
  intro vs bs hb hr;have less:∀ {x:PV} {v:Value},cN w Q x v->cN w Q' x v:=fun hp=>hp.mono fun c _ hn=>⟨rfl,fun hq=>hn (h c hq)⟩;cases r with
  |p x=>obtain⟨v,nX,rfl,h1,h2⟩:=hr;exact⟨v,nX,rfl,less h1,ih hb h2⟩
  |own ty sz es=>
   obtain⟨v,nX,c,Df,rfl,rfl,⟨cap,cur,e1,e2,e3,e4,e5,e6,e7,e8⟩,h2⟩:=hr;refine⟨v,nX,rfl,?_,ih (fun c hc=>hb c (by simp[hc])) h2⟩;subst e1;refine cN.sl c 0 cap sz (fun j=>cur.toList.getD j undef) (fun _=>hb c af) e5 e6 e4 (fun j x hx=>?_) (fun j x hx=>?_)
   .have hj:j<(cur.toList.take (es.length*sz)).length:=by rw[e8.1];exact(aW.1 hx).1
    have nh:j<cur.size:=by simp at hj;omega
    rw[World.cell?];simp[e2,nh,List.getD,jr]
   have hj:j<(cur.toList.take (es.length*sz)).length:=by rw[e8.1];exact(aW.1 hx).1
   have nh:j<cur.size:=by simp at hj;omega
   refine less (e8.2 j x _ hx ?_);rw[List.getElem?_take_of_lt (by simp at hj;omega)];simp[nh,List.getD]
theorem yR.pure{r:RV}{v:Value}{vs:List Value}(h:yR r v vs):yR r.Ir v vs/\jh r.Ir=(jh r).map RC.pure:=by
 cases r with
 |one c=>exact⟨h,rfl⟩
 |agg cs=>exact⟨⟨h.1,by simpa [RV.Ir] using h.2⟩,rfl⟩
 |tup _=>exact h.elim
theorem ER.pure:∀ {rs:List RV} {us vs:List Value},ER rs us vs->ER (rs.map RV.Ir) us vs/\pN (rs.map RV.Ir)=(pN rs).map RC.pure:=by
 intro rs
 induction rs with
 |nil=>intro us vs h;exact⟨h,rfl⟩
 |cons r rs ih=>
  rintro us vs ⟨u,Pu,a,b,rfl,rfl,h1,h2⟩
  obtain⟨p1,p2⟩:=h1.pure;obtain⟨q1,q2⟩:=ih h2;exact⟨⟨u,Pu,a,b,rfl,rfl,p1,q1⟩,by simp[pN,p2,q2]⟩
theorem Gr.pure{r:RV}{v:Value}{vs:List Value}(h:Gr r v vs):Gr r.pure v vs/\iY r.pure=(iY r).map RC.pure:=by
 cases r with
 |one c=>exact yR.pure (r:=.one c) h
 |agg cs=>exact yR.pure (r:=.agg cs) h
 |tup rs=>obtain⟨arr,rfl,h2⟩:=h;obtain⟨q1,q2⟩:=h2.pure;exact⟨⟨arr,rfl,q1⟩,q2⟩
theorem wa.iu{w w':World}{O:Nat->Prop}{r:RV}{e:Ending}(b:Bool)(hO:∀c,O c->c<w.heap.size)(h:wa w O r e w'):wa w O (r.iu b) e w':=by
 cases b with
 |false=>exact h
 |true=>
  obtain⟨val,bs,rfl,hg,gH,pQ,vs,h1,h2⟩:=h;obtain⟨p1,p2⟩:=h1.pure;refine⟨val,[],rfl,hg,xE,fun c hc=>by simp at hc,vs,p1,?_⟩;simp only[RV.iu];rw[p2];refine sI.pure (fun b hb=>?_) (fun c hc hn=>?_) h2
  .rcases hb with hb|hb
   .exact .inl hb
   simp at hb
  rcases hn with hn|hn
  .have:=hO c hn;have:=(pQ c hc).1;omega
  simp at hn
def ET(P:Program)(G:World->Prop)(cp:gU):Prop:=∀f vs r,cp f vs=some r->Enters P f/\ ∀(w:World) (O:Nat->Prop) (args:Array Value),Good G w->(∀c,O c->c<w.heap.size)->Pw (tN w O) vs args.toList->Calls P f args w (wa w O r)
def IU(w0:World)(m:Mem)(v:V)(ao:aE):Ending->World->Prop:=fun e w'=>∃val m',e=.returned val/\m'.w=w'/\Ok w0 m'/\Ev m m'/\m'.fr=m.fr/\m'.aj=ao/\cF m' v val
def Gt(P:Program)(G:World->Prop)(cs:kr):Prop:=∀f vs al aj v ao,cs f vs al aj=some (v,ao)->Enters P f/\ ∀(w0:World) (m:Mem) (args:Array Value),Good G w0->Ok w0 m->m.aj=aj->Pw (cF m) vs args.toList->Calls P f args m.w (IU w0 m v ao)
theorem at6{m:Mem}(ay:Ok w0 m){O:Nat->Prop}{x y:V}{r:a_}{v:Value}(h:oX m.aj x=some (y,r))(hr:cF m x v)(hs:rl m O r):tN m.w O y v:=by
 cases x with
 |undef=>simp[oX] at h
 |tup vs=>simp[oX] at h
 |one c=>simp only[oX,ef] at h;obtain⟨⟨p,r'⟩,h1,h2⟩:=h;cases h2;exact Ly ay gZ h1 hr hs
 |agg cs=>simp only[oX,ef] at h;obtain⟨⟨ps,r'⟩,h1,h2⟩:=h;cases h2;obtain⟨arr,rfl,hc⟩:=cF.agg.1 hr;refine⟨arr,ps,rfl,rfl,?_⟩;exact Jp (R:=dz m) (T:=cN m.w O) (fq:=rl m O) (fun _ _=>rl.app) (fun _ _ _ _ h1 h2 h3=>Ly ay gZ h1 h2 h3) h1 hs hc
theorem ahX{m:Mem}(ay:Ok w0 m){O:Nat->Prop}{xs ys:e_}{r:a_}{vs:List Value}(h:CI m.aj xs=some (ys,r))(hr:Pw (cF m) xs vs)(hs:rl m O r):Pw (tN m.w O) ys vs:=Jp (R:=cF m) (T:=tN m.w O) (fq:=rl m O) (fun _ _=>rl.app) (fun _ _ _ _ h1 h2 h3=>at6 ay h1 h2 h3) h hs hr
theorem agD{m:Mem}(ay:Ok w0 m){c:Nat}(h:m.own c):c<m.w.heap.size:=by
 rcases h with h|⟨id,o,ho,_,rfl⟩
 .exact ay.frlt c h
 exact(ay.obj id o ho).lt
theorem ahx{w:World}{Q Q':Nat->Prop}{x:PV}{v:Value}(hs:x.scalar=true)(h:cN w Q x v):cN w Q' x v:=by
 cases h<;>first
  |(simp[PV.scalar] at hs;done)
  |constructor
theorem ajy{w:World}{Q Q':Nat->Prop}:∀ {rs:n_} {vs:List Value} {bs:a_},rs.all RC.alone=true->sI w Q rs vs bs->sI w Q' rs vs bs:=by
 intro rs
 induction rs with
 |nil=>intro vs bs _ h;exact h
 |cons r rs ih=>
  intro vs bs ha h;simp only[oY,cJ] at ha;cases r with
  |p x=>obtain⟨v,nX,rfl,h1,h2⟩:=h;exact⟨v,nX,rfl,ahx ha.1 h1,ih ha.2 h2⟩
  |own ty sz es=>obtain⟨v,nX,c,Df,rfl,rfl,⟨cap,cur,e1,e2,e3,e4,e5,e6,e7,e8⟩,h2⟩:=h;refine⟨v,nX,c,Df,rfl,rfl,⟨cap,cur,e1,e2,e3,e4,e5,e6,e7,e8.1,fun j x u a b=>?_⟩,ih ha.2 h2⟩;refine ahx ?_ (e8.2 j x u a b);have hx:=aZ a;obtain⟨e,he,hxe⟩:=Gm.1 hx;have h1:=ha.1;simp only[RC.alone] at h1;exact gj.1 (gj.1 h1 e he) x hxe
theorem afq{m:Mem}{w':World}{x:RV}{val:Value}{bs:a_}{site:Nat}(ay:Ok w0 m)(hg:fY m.w w')(gH:bs.Nodup)(pQ:∀c∈bs,m.w.heap.size<=c/\c<w'.heap.size)(hr:PO w' (fun c=>m.own c\/c∈bs) x val bs):
  ∃m',m'.w=w'/\Ok w0 m'/\Ev m m'/\m'.fr=m.fr/\m'.aj=app (jY m.aj site x).2 m.aj/\cF m' (jY m.aj site x).1 val:=by
 obtain⟨vs,h1,h2⟩:=hr;have oI:Ok w0 (m.later w' (· ∈bs)):=OW ay hg pQ;have wM:Ev m (m.later w' (· ∈bs)):=KS hg fun c hc=>(pQ c hc).1;obtain⟨m',e1,e2,e3,_,e5,e6,e7⟩:=ao1 (OZ:=m) (site:=site) oI (h2.less fun b hb=>afu.1 hb) gH (fun c hc=>⟨.inr hc,oZ ay.size (pQ c hc).1⟩) wM (fun c hc=>.inl (pQ c hc).1);refine⟨m',e1,e2,e3,?_,e6,asD h1 e7⟩;funext c;apply propext;rw[e5 c];constructor
 .rintro ⟨h|h,h2⟩
  .exact h
  exact(h2 h).elim
 intro h;refine⟨.inl h,fun hc=>?_⟩;have h1:=ay.frlt c h;have h2:=(pQ c hc).1;omega
theorem ao2{b b':aE}(h:∀s,(b s).1=(b' s).1)(site:Nat)(x:RV):jY b site x=jY b' site x:=by unfold jY;rw[aet _ site b b' fun s _=>h s]
theorem arn{G:World->Prop}{cp:gU}(BO:ET P G cp)(hG:Good G w0){m:Mem}(ay:Ok w0 m){f:Nat}{xs vs:e_}{rd:a_}{x:RV}{site:Nat}{v:V}{u:k_}{args:Array Value}(hc:cp f vs=some x)(hs:CI m.aj xs=some (vs,rd))(DC:Pw (cF m) xs args.toList)
  {pb:Bool} (hl:land m.aj rd site (x.iu pb)=some (v,u)):Calls P f args m.w (IU w0 m v (app u m.aj)):=by
 have DE:∀(w:World) (O:Nat->Prop) (args:Array Value),Good G w->(∀c,O c->c<w.heap.size)->Pw (tN w O) vs args.toList->Calls P f args w (wa w O (x.iu pb)):=fun w O args h1 h2 h3=>((BO f vs x hc).2 w O args h1 h2 h3).mono fun e w' h=>h.iu pb h2
 generalize x.iu pb=x at hl DE;unfold land at hl;split at hl
 .rename_i r5;cases hl;have key:∀(O:Nat->Prop),(∀c,O c->c<m.w.heap.size)->rl m O rd->(∀w' bs val,PO w' (fun c=>O c\/c∈bs) x val bs->PO w' (fun c=>m.own c\/c∈bs) x val bs)->Calls P f args m.w (IU w0 m (jY m.aj site x).1 (app (jY m.aj site x).2 m.aj)):=by
   intro O hO qc wW;refine(DE m.w O args ⟨hG.2 _ _ ay.adx hG.1,hG.2⟩ hO (ahX ay hs DC qc)).mono ?_;rintro e w' ⟨val,bs,rfl,hg,gH,pQ,hr⟩
   obtain⟨m',e1,e2,e3,e4,e5,e6⟩:=afq (site:=site) ay hg gH pQ (wW w' bs val hr);exact⟨val,m',rfl,e1,e2,e3,e4,e5,e6⟩
  rcases r5 with rfl|iC
  .exact key m.own (fun c hc=>agD ay hc) ⟨fun _ h=>h,fun _ h=>by simp at h⟩ fun _ _ _ h=>h
  refine key (fun _=>False) (fun c h=>h.elim) ⟨fun _ h=>h.elim,fun _ _ h=>h⟩ fun w' bs val h=>?_;obtain⟨nX,h1,h2⟩:=h;exact⟨nX,h1,ajy iC h2⟩
 split at hl
 .rename_i fu rF;cases hl;have oI:=ada ay rF;have wM:=Xm rF;have qc:=Xp ay rF;refine(DE m.w (m.with fu).own args ⟨hG.2 _ _ ay.adx hG.1,hG.2⟩ (fun c hc=>agD oI hc) (ahX ay hs DC qc)).mono ?_;rintro e w' ⟨val,bs,rfl,hg,gH,pQ,hr⟩
  obtain⟨m',e1,e2,e3,e4,e5,e6⟩:=afq (m:=m.with fu) (site:=site) oI hg gH pQ hr;have XD:jY (m.with fu).aj site x=jY m.aj site x:=ao2 (fun s=>Nr rF s) site x;rw[XD] at e5 e6;refine⟨val,m',rfl,e1,e2,wM.trans e3,e4,?_,e6⟩;rw[e5,Mh];rfl
 cases hl
end Go.Abs
namespace Go.Abs
variable {P:Program} {w0:World}
theorem UQ{m m':Mem}(eO:Ev m m'){ak:Env}{a:Act}{dst:w_}{v:V}{x:Value}(hr:jt m ak a.tmps)(hv:cF m' v x)(hd:∀d,dst=some d->d<a.tmps.size):jt m' (put ak dst v) (a.put dst x).tmps:=by
 cases dst with
 |none=>exact hr.ev eO
 |some d=>
  intro t;have aB:=hd d rfl;simp only[put,Act.put,aU];by_cases ht:t=d
  .subst ht;rw[aG rfl];have:(a.tmps.setIfInBounds t x).getD t undef=x:=by simp[aB]
   rw[this];exact hv
  rw[aC ht];have:(a.tmps.setIfInBounds d x).getD t undef=a.tmps.getD t undef:=by simp only[Array.getD_eq_getD_getElem?];rw[Array.getElem?_setIfInBounds_ne (fun e=>ht e.symm)]
  rw[this];exact(hr t).ev eO.zero
theorem UR(a:Act)(dst:w_)(x:Value):(a.put dst x).tmps.size=a.tmps.size:=by cases dst<;>simp[Act.put]
theorem put_defers(a:Act)(dst:w_)(x:Value):(a.put dst x).defers=a.defers:=by cases dst<;>simp[Act.put]
theorem aiL{m:Mem}{ak:Env}{tmps:Array Value}(hr:jt m ak tmps){ops:Array Oper}{o:Oper}{g:Option (Nat×Bool)}{b:Bool}
  (hg:match o.guard with|none=>g=none|some (j,w)=>∃t,(ops[j]?).bind (·.dst)=some t/\g=some (t,w)) (h:wanted ak g=some b):Region.wanted o (yielded ops tmps)=b:=by
 unfold Region.wanted;cases ho:o.guard with
 |none=>rw[ho] at hg;subst hg;simp only[wanted,gn] at h;exact h
 |some q=>
  obtain⟨j,w⟩:=q;rw[ho] at hg;obtain⟨t,h1,rfl⟩:=hg;have hrt:=hr t;simp only[wanted] at h;simp only[yielded,h1,Option.bind_some];split at h
  .rename_i b' hb;rw[hb] at hrt;have hv:=FY hrt;cases h;have:tmps[t]?=some (.bool b'):=by
    rw[Array.getD_eq_getD_getElem?] at hv;cases he:tmps[t]? with
    |none=>rw[he] at hv;simp[undef] at hv
    |some y=>rw[he] at hv;simp at hv;rw[hv]
   rw[this];rfl
  .rename_i hb;rw[hb] at hrt;cases h;have hv:tmps.getD t undef=undef:=hrt;rw[Array.getD_eq_getD_getElem?] at hv;cases he:tmps[t]? with
   |none=>rfl
   |some y=>rw[he] at hv;simp at hv;rw[hv];rfl
  cases h
theorem ac1{m:Mem}{ak:Env}{f:aX}{v:Value}{g:Nat}{a b:f_}(h:Fl ak f=some (g,a,b))(hr:cF m (ev ak f) v):∃A B:Array Value,v=.func (.func g) A B/\dO m a A.toList/\dO m b B.toList:=by
 unfold Fl at h;split at h
 .rename_i g' x y he;cases h;rw[he] at hr;obtain⟨hp⟩:dz m _ v:=hr;cases hp with
  |fn A B ha hb wT r8=>exact⟨A,B,rfl,dM.Ey ⟨by simpa using ha,fun j x u p q=>wT j x u p (by simpa using q)⟩,dM.Ey ⟨by simpa using hb,fun j x u p q=>r8 j x u p (by simpa using q)⟩⟩
 .rename_i g' x y he;cases h;rw[he] at hr;have hc:dz m _ v:=hr;cases hc with
  |hfn A B ha hb wT r8=>exact⟨A,B,rfl,⟨by simpa using ha,fun j x u p q=>wT j x u p (by simpa using q)⟩,⟨by simpa using hb,fun j x u p q=>r8 j x u p (by simpa using q)⟩⟩
 cases h
theorem aaQ{m:Mem}{ak:Env}{a:Act}(hr:jt m ak a.tmps):∀ {xs:List Operand} {ys:o_},rm xs=some ys->Pw (cF m) (ys.map (ev ak)) (xs.map a.eval):=by
 intro xs
 induction xs with
 |nil=>intro ys h;simp[rm] at h;subst h;exact⟨rfl,fun j x u p=>by simp at p⟩
 |cons x xs ih=>
  intro ys h;simp only[rm] at h;split at h
  .rename_i y ys' h1 h2;cases h;obtain⟨i1,i2⟩:=ih h2;refine⟨by simpa using i1,fun j z u p q=>?_⟩;cases j with
   |zero=>simp at p q;subst p q;exact eZ h1 hr
   |succ j=>exact i2 j z u (by simpa using p) (by simpa using q)
  cases h
theorem UC{m:Mem}{cs:f_}{vs:List Value}(h:dO m cs vs):Pw (cF m) (cs.map .one) vs:=by refine⟨by simpa using h.1,fun j x u p q=>?_⟩;simp only[gk,ef] at p;obtain⟨c,hc,rfl⟩:=p;exact cF.one.2 (h.2 j c u hc q)
theorem akw{f:Nat}(h:Enters P f)(args:Array Value)(w:World):(callFunc f args).run P w=.ok (.enter f args) w:=by
 obtain⟨fn,c,h1,h2,h3⟩:=h;have h4:¬fn.name= "runtime.NumGoroutine" :=by simpa using h3
 simp[callFunc,run_program,h1,h2,h4]
theorem abg{o:Oper}{c:Call}{fo:Operand}{a:Act}{g:Nat}{A B:Array Value}{w:World}(ho:o.op=.call c)(hc:c.callee=.value fo)(hv:a.eval fo=.func (.func g) A B)(he:Enters P g):
  (execOp a.eval o).run P w=.ok (.enter g (A++c.args.map a.eval++B)) w:=by
 simp[execOp,ho,resolve,hc,hv,Deferred.ofValue,invoke,akw he]
theorem agm{site:Nat}{o:Oper}{p:oz}(h:GP P site o=some p)(hp:∀s f as,p≠ .call s f as){sh:Nat->Bool}{ak:Env}{aj:aE}:(∀f vs r s,bU sh ak aj p≠ .pc f vs r s)/\ ∀f vs,bU sh ak aj p≠ .sc f vs:=by
 cases p<;>first
  |exact(hp _ _ _ rfl).elim
  |(simp only[bU]
    constructor<;>intros<;>intro h<;>(repeat' split at h)<;>first
     |cases h
     |(simp only[Bq,Em,au] at h;(repeat' split at h)<;>cases h))
theorem abz{site:Nat}{o:Oper}{s:Nat}{f:aX}{as:o_}(h:GP P site o=some (.call s f as)):∃c fo,o.op=.call c/\c.callee=.value fo/\de fo=some f/\rm c.args.toList=some as:=by
 unfold GP at h;split at h
 case h_26 c ho=>
  split at h
  .rename_i f' as' h1 h2;simp only[ef] at h;obtain⟨y,h3,h4⟩:=h;cases h4;exact⟨c,f',ho,h1,h3,h2⟩
  all_goals((repeat' split at h)<;>first
   |cases h
   |(simp at h;done))
 all_goals((repeat' split at h)<;>first
  |cases h
  |(simp at h;done))
def Gv(w0:World)(m:Mem)(a:Act)(nt:Nat)(aH:Env)(ao:aE)(K:Act->World->Prop):Prop:=∀(a':Act) (m':Mem),Ok w0 m'->Ev m m'->m'.fr=m.fr->m'.aj=ao->jt m' aH a'.tmps->a'.tmps.size=nt->a'.defers=a.defers->K a' m'.w
theorem aiQ{o:Oper}{a:Act}{f:Nat}{args:Array Value}{w:World}{K:Act->World->Prop}{Q:Exit->Act->World->Prop}{R:Ending->World->Prop}(jX:(execOp a.eval o).run P w=.ok (.enter f args) w)(hc:Calls P f args w R)
  (hR:∀e w',R e w'->∃v,e=.returned v/\K (a.put o.dst v) w'):o.wp P a w K Q:=by
 unfold Oper.wp;rw[jX,Oper.upon_enter];refine hc.mono ?_;intro e w' he;obtain⟨v,rfl,hk⟩:=hR e w' he;exact hk
theorem ah8{G:World->Prop}(hG:Good G w0){cp:gU}{cs:kr}(hP:ET P G cp)(hS:Gt P G cs){sh:Ctx}{ops:Array Oper}{base nt anc:Nat}{o:Oper}{io:cq}{m:Mem}{ak aH:Env}{ao:aE}{eff:cM}{a:Act}{K:Act->World->Prop}{Q:Exit->Act->World->Prop}
  (ho:Fe P (fun j=>(ops[j]?).bind (·.dst)) base nt anc o=some io) (di:step1 sh cp cs io ak m.aj=some (aH,ao,eff)) (ay:Ok w0 m) (hr:jt m ak a.tmps) (gY:a.tmps.size=nt) (hK:Gv w0 m a nt aH ao K):
  if Region.wanted o (yielded ops a.tmps) then o.wp P a m.w K Q else K (a.put o.dst undef) m.w:=by
 have hio:io.dst=o.dst/\io.op=Jq P base o/\(∀d,o.dst=some d->d<nt)/\(match o.guard with|none=>io.guard=none|some (j,w)=>∃t,(ops[j]?).bind (·.dst)=some t/\io.guard=some (t,w)):=by
  unfold Fe at ho;split at ho
  .rename_i hd;simp only[ef] at ho;obtain⟨g,hg,rfl⟩:=ho;refine⟨rfl,rfl,fun d he=>?_,?_⟩
   .rw[he] at hd
    simpa [ach] using hd
   cases hgo:o.guard with
   |none=>rw[hgo] at hg;simp[Xt] at hg;exact hg.symm
   |some q=>obtain⟨j,w⟩:=q;rw[hgo] at hg;simp only[Xt,ef] at hg;obtain⟨t,ht,rfl⟩:=hg;exact⟨t,ht,rfl⟩
  cases ho
 obtain⟨h1,h2,h3,h4⟩:=hio;have hd:∀d,o.dst=some d->d<a.tmps.size:=by rw[gY];exact h3
 unfold step1 at di;split at di
 .cases di
 .rename_i hw;cases di;rw[aiL hr h4 hw];simp only[dR,if_false];rw[h1] at hK;exact hK _ m ay (Ev.refl m) rfl rfl (UQ (Ev.refl m) hr (show cF m .undef undef from rfl) hd) (by rw[UR,gY]) (put_defers _ _ _)
 rename_i hw;rw[aiL hr h4 hw];simp only[if_true];rw[h2] at di;unfold Jq at di;cases AY:GP P base o with
 |none=>rw[AY] at di;simp[bU] at di
 |some p=>
  rw[AY] at di;simp only[ow] at di;split at di
  .cases di
  .rename_i v u r hp;split at di
   case isFalse=>cases di
   cases di;obtain⟨x,m',anX,e2,e3,e4,e5,e6⟩:=aqT ay hr AY hp;rw[h1] at hK;have hk:=fun x (hx:cF m' v x)=>hK (a.put o.dst x) m' e2 e3 e4 e5 (UQ e3 hr hx hd) (by rw[UR,gY]) (put_defers _ _ _);unfold Oper.wp;rcases anX with hd|⟨hd,rfl⟩
   .rw[hd,Oper.upon_value];exact hk x e6
   rw[hd,Oper.upon_skip];exact hk undef e6
  .rename_i f vs r s hp;by_cases DE:∃s f as,p=.call s f as
   .obtain⟨s',f',as,rfl⟩:=DE;obtain⟨c,fo,g1,g2,g3,g4⟩:=abz AY;simp only[bU] at hp;split at hp
    .rename_i g A B hfn;obtain⟨AV,BV,e1,e2,e3⟩:=ac1 hfn (eZ g3 hr);split at hp
     .cases hp
     split at hp
     .rename_i ws rd rI;cases hp;split at di
      .rename_i x hx;split at di
       .rename_i v u hl;split at di
        case isFalse=>cases di
        cases di;have DC:Pw (cF m) (A.map .one++as.map (ev ak)++B.map .one) (AV++c.args.map a.eval++BV).toList:=by
         have:=((UC e2).append (aaQ hr g4)).append (UC e3)
         simpa using this
        refine aiQ (abg g1 g2 e1 (hP _ _ _ hx).1) (arn hP hG ay hx rI DC hl) ?_;rintro e w' ⟨val,m',rfl,rfl,q1,q2,q3,q4,q5⟩
        rw[h1] at hK;exact⟨val,rfl,hK _ m' q1 q2 q3 q4 (UQ q2 hr q5 hd) (by rw[UR,gY]) (put_defers _ _ _)⟩
       cases di
      cases di
     cases hp
    cases hp
   exact((agm AY (fun s f as e=>DE ⟨s,f,as,e⟩)).1 _ _ _ _ hp).elim
  rename_i f vs hp;by_cases DE:∃s f as,p=.call s f as
  .obtain⟨s',f',as,rfl⟩:=DE;obtain⟨c,fo,g1,g2,g3,g4⟩:=abz AY;simp only[bU] at hp;split at hp
   .rename_i g A B hfn;obtain⟨AV,BV,e1,e2,e3⟩:=ac1 hfn (eZ g3 hr);split at hp
    .cases hp;split at di
     case isFalse=>cases di
     split at di
     .rename_i v Ji hx;cases di;have DC:Pw (cF m) (A.map .one++as.map (ev ak)++B.map .one) (AV++c.args.map a.eval++BV).toList:=by
       have:=((UC e2).append (aaQ hr g4)).append (UC e3)
       simpa using this
      refine aiQ (abg g1 g2 e1 (hS _ _ _ _ _ _ hx).1) ((hS _ _ _ _ _ _ hx).2 w0 m _ hG ay rfl DC) ?_;rintro e w' ⟨val,m',rfl,rfl,q1,q2,q3,q4,q5⟩
      rw[h1] at hK;exact⟨val,rfl,hK _ m' q1 q2 q3 q4 (UQ q2 hr q5 hd) (by rw[UR,gY]) (put_defers _ _ _)⟩
     cases di
    split at hp<;>cases hp
   cases hp
  exact((agm AY (fun s f as e=>DE ⟨s,f,as,e⟩)).2 _ _ hp).elim
end Go.Abs
namespace Go.Abs
variable {P:Program} {w0:World}
theorem WB{dst anc:Nat->w_}{base nt i:Nat}{o:Oper}{r:List Oper}{l:g_}(h:xP P dst anc base nt i (o::r)=some l):
  ∃x xs,l=x::xs/\Fe P dst ((base+i)*64) nt ((anc i).getD 0) o=some x/\xP P dst anc base nt (i+1) r=some xs:=by
 simp only[xP] at h;split at h
 .rename_i x xs h1 h2;cases h;exact⟨x,xs,rfl,h1,h2⟩
 cases h
section
variable {G:World->Prop} (hG:Good G w0) {cp:gU} {cs:kr} (hP:ET P G cp) (hS:Gt P G cs) {sh:Ctx}
include hG hP hS
theorem aqX{ops:Array Oper}{anc:Nat->w_}{base nt:Nat}{Q:Exit->Act->World->Prop}:∀(r:List Oper) {l:g_} {i:Nat} {ak aH:Env} {m:Mem} {ao:aE} {es:i_} {a:Act},(∀j,ops[i+j]?=r[j]?)->xP P (fun j=>(ops[j]?).bind (·.dst)) anc base nt i r=some l->
  steps sh cp cs l ak m.aj=some (aH,ao,es)->Ok w0 m->jt m ak a.tmps->a.tmps.size=nt->Gv w0 m a nt aH ao (fun a' w'=>Q .normal a' w')->wpOps P ops Q (List.range' i r.length) a m.w:=by
 intro r
 induction r with
 |nil=>intro l i ak aH m ao es a _ hc di ay hr gY hK;simp[xP] at hc;subst hc;simp only[steps,gn,lE] at di;obtain⟨rfl,rfl,_⟩:=di;simp only[fv,List.range'_zero,wpOps];exact hK a m ay (Ev.refl m) rfl rfl hr gY rfl
 |cons o r ih=>
  intro l i ak aH m ao es a OC hc di ay hr gY hK;obtain⟨x,xs,rfl,h1,h2⟩:=WB hc;simp only[steps] at di;split at di
  .rename_i iR cZ e1 kG;split at di
   .rename_i dE bN es2 fR;cases di;have ho:ops[i]?=some o:=by have:=OC 0;simpa using this
    have key:=ah8 (Q:=Q) (K:=wpOps P ops Q (List.range' (i+1) r.length)) hG hP hS h1 kG ay hr gY (fun a1 m1 k1 k2 k3 k4 k5 k6 k7=>by subst k4;refine ih (m:=m1) (fun j=>by have:=OC (j+1);rw[show i+1+j=i+(j+1) by omega];simpa using this) h2 fR k1 k5 k6 ?_;intro a2 m2 p1 p2 p3 p4 p5 p6 p7;exact hK a2 m2 p1 (k2.trans p2) (p3.trans k3) p4 p5 p6 (p7.trans k7))
    simp only[dL,List.range'_succ,wpOps,ho];split at key
    .rename_i hw;rw[aG hw];exact .inl key
    rename_i hw;rw[aC hw];exact key
   cases di
  cases di
theorem asy{ops:Array Oper}{anc:Nat->w_}{base nt id:Nat}{Q:Exit->Act->World->Prop}{l:g_}{ak aH:Env}{m:Mem}{ao:aE}{es:i_}{a:Act}(hc:xP P (fun j=>(ops[j]?).bind (·.dst)) anc base nt 0 ops.toList=some l)
  (di:steps sh cp cs l ak m.aj=some (aH,ao,es)) (ay:Ok w0 m) (hr:jt m ak a.tmps) (gY:a.tmps.size=nt) (hK:Gv w0 m a nt aH ao (fun a' w'=>Q .normal a' w')):(Code.region id ops false).wp P Q a m.w:=by
 refine wp_region ?_;have:=aqX hG hP hS (sh:=sh) (ops:=ops) (Q:=Q) ops.toList (i:=0) (fun j=>af) hc di ay hr gY hK;rw[List.range_eq_range']
 simpa using this
end
end Go.Abs
namespace Go.Abs
variable {P:Program} {w0:World}
theorem ash{α β:Type}(g:Array β->α->β):∀(l:List α) (acc:Array β),(l.foldl (fun acc o=>acc.push (g acc o)) acc).size=acc.size+l.length/\
  (∀j,j<acc.size->(l.foldl (fun acc o=>acc.push (g acc o)) acc)[j]?=acc[j]?)/\
  ∀j o,l[j]?=some o->∃pre:Array β,pre.size=acc.size+j/\(∀k,k<pre.size->(l.foldl (fun acc o=>acc.push (g acc o)) acc)[k]?=pre[k]?)/\(l.foldl (fun acc o=>acc.push (g acc o)) acc)[acc.size+j]?=some (g pre o):=by
 intro l
 induction l with
 |nil=>intro acc;exact⟨rfl,fun _ _=>rfl,fun j o h=>by simp at h⟩
 |cons x l ih=>
  intro acc;obtain⟨h1,h2,h3⟩:=ih (acc.push (g acc x));simp only[Bt];refine⟨by rw[h1];simp;omega,fun j hj=>?_,fun j o ho=>?_⟩
  .rw[h2 j (by simp;omega),Array.getElem?_push,aC aa]
  cases j with
  |zero=>
   simp at ho;subst ho;refine⟨acc,aa,fun k hk=>?_,?_⟩
   .rw[h2 k (by simp;omega),Array.getElem?_push,aC aa]
   rw[u7,h2 acc.size af,Array.getElem?_push,aG rfl]
  |succ j=>obtain⟨pre,p1,p2,p3⟩:=h3 j o (by simpa using ho);refine⟨pre,by rw[p1];simp;omega,p2,?_⟩;rw[<- p3];simp only[Array.size_push];congr 1;omega
theorem aqY{α:Type}(f:α->Bool)(g:α->Nat)(h:α->Nat):∀(l:List α) (s j:Nat),(l.foldl (fun s e=>if f e then s|||g e|||h e else s) s).testBit j=true->s.testBit j=true\/ ∃e∈l,f e=true/\((g e).testBit j=true\/(h e).testBit j=true):=by
 intro l
 induction l with
 |nil=>intro s j hh;exact .inl hh
 |cons x l ih=>
  intro s j hh;simp only[Bt] at hh;rcases ih _ j hh with h1|⟨e,he,h2⟩
  .split at h1
   .rename_i hf;simp only[Nat.testBit_or,vU] at h1;rcases h1 with (h1|h1)|h1
    .exact .inl h1
    .exact .inr ⟨x,af,hf,.inl h1⟩
    exact .inr ⟨x,af,hf,.inr h1⟩
   exact .inl h1
  exact .inr ⟨e,by simp[he],h2⟩
theorem ake{ops:Array Oper}(Fx:I0 ops=true){i:Nat}{o:Oper}(ho:ops[i]?=some o){j:Nat}(hj:(((Region.before ops)[i]?).getD 0).testBit j=true):
  ∃e∈o.after,Region.binds .any e=true/\e.on<i/\(j=e.on\/(((Region.before ops)[e.on]?).getD 0).testBit j=true):=by
 unfold Region.before at hj |-;rw[<- Array.foldl_toList] at hj |-;obtain⟨h1,h2,h3⟩:=ash (fun(acc:Array Nat) (o:Oper)=>o.after.foldl (fun s e=>if Region.binds .any e then s|||2 ^ e.on|||acc.getD e.on 0 else s) 0) ops.toList #[];obtain⟨pre,p1,p2,p3⟩:=h3 i o (by simpa using ho);simp only[Array.size_empty,jr] at p1 p3;rw[p3] at hj;simp only[ow] at hj;rw[<- Array.foldl_toList] at hj;rcases aqY (fun e=>Region.binds .any e) (fun e=>2 ^ e.on) (fun e=>pre.getD e.on 0) _ _ _ hj with h|⟨e,he,hb,Ke⟩
 .simp at h
 have aB:i<ops.size:=(Array.getElem?_eq_some_iff.1 ho).1;have OB:e.on<i:=by unfold I0 at Fx;have:=gj.1 Fx i (by simpa using aB);rw[ho] at this;rw[gj] at this;have:=this e (by simpa using he);simp only[hb,Ad,CO,l9] at this;exact this
 refine⟨e,by simpa using he,hb,OB,?_⟩;rcases Ke with Ke|Ke
 .left;rw[Nat.testBit_two_pow] at Ke;have h9:e.on=j:=by simpa using Ke
  exact h9.symm
 right;rw[p2 e.on aa]
 simpa [Array.getD_eq_getD_getElem?] using Ke
theorem abA{dst:Nat->w_}{base nt anc:Nat}{o:Oper}{io:cq}(h:Fe P dst base nt anc o=some io):io.anc=anc:=by
 unfold Fe at h;split at h
 .simp only[ef] at h;obtain⟨g,_,rfl⟩:=h;rfl
 cases h
structure aiY (P:Program) (ops:Array Oper) (base nt:Nat) (rem:List It) (listed:Array Bool):Prop where
 pair:rem.Pairwise fun p q=>p.i<q.i/\(q.io.anc.testBit p.i=true\/PY p q)
 comp:∀p∈rem,∃o,ops[p.i]?=some o/\Fe P (fun j=>(ops[j]?).bind (·.dst)) ((base+p.i)*64) nt (((Region.before ops)[p.i]?).getD 0) o=some p.io
 size:listed.size=ops.size
 free:∀i:Nat,listed[i]?=some false↔ ∃p∈rem,p.i=i
 closed:∀i:Nat,listed[i]?=some true->∀j:Nat,(((Region.before ops)[i]?).getD 0).testBit j=true->listed[j]?=some true
theorem Zu{ops:Array Oper}{listed:Array Bool}{i:Nat}:i∈Region.ready .any ops listed↔i<ops.size/\listed.getD i true=false/\ ∃o,ops[i]?=some o/\ ∀e∈o.after,Region.binds .any e=true->listed.getD e.on false=true:=by
 unfold Region.ready;simp only[uv,iv,cJ,l7];constructor
 .rintro ⟨h1,h2,h3⟩
  refine⟨h1,h2,ops[i],by simp[h1],fun e he hb=>?_⟩;have ho:ops[i]?=some ops[i]:=by simp[h1]
  rw[ho] at h3;simp only[nE,ow,Array.all_eq_true'] at h3;have:=h3 e he;rw[hb] at this
  simpa using this
 rintro ⟨h1,h2,o,ho,h3⟩
 refine⟨h1,h2,?_⟩;rw[ho];simp only[nE,ow,Array.all_eq_true'];intro e he;cases hb:Region.binds .any e with
 |false=>rfl
 |true=>simp[h3 e he hb]
theorem adu{l:Array Bool}{i:Nat}(h:l.getD i true=false):l[i]?=some false:=by
 rw[Array.getD_eq_getD_getElem?] at h;cases he:l[i]? with
 |none=>rw[he] at h;simp at h
 |some b=>rw[he] at h;simp at h;rw[h]
theorem ano{l:Array Bool}{i:Nat}(h:l.getD i false=true):l[i]?=some true:=by
 rw[Array.getD_eq_getD_getElem?] at h;cases he:l[i]? with
 |none=>rw[he] at h;simp at h
 |some b=>rw[he] at h;simp at h;rw[h]
section
variable {G:World->Prop} (hG:Good G w0) {cp:gU} {cs:kr} (hP:ET P G cp) (hS:Gt P G cs) (hL:Bw cs) {sh:Ctx}
include hG hP hS hL
theorem ajz{ops:Array Oper}(Fx:I0 ops=true){base nt:Nat}{Q:Exit->Act->World->Prop}{aH:Env}{ao:aE}:∀(fuel:Nat) {rem:List It} {listed:Array Bool} {ak:Env} {m:Mem} {a:Act},aiY P ops base nt rem listed->rem.length<=fuel->
  steps sh cp cs (rem.map (·.io)) ak m.aj=some (aH,ao,rem.map (·.e))->Ok w0 m->jt m ak a.tmps->a.tmps.size=nt->Gv w0 m a nt aH ao (fun a' w'=>Q .normal a' w')->wpAny P .any ops Q fuel listed a m.w:=by
 intro fuel
 induction fuel with
 |zero=>
  intro rem listed ak m a hl hlen di ay hr gY hK;have aoK:rem=[]:=by
   cases rem with
   |nil=>rfl
   |cons _ _=>simp at hlen
  subst aoK;simp only[kL,steps,gn,lE] at di;obtain⟨rfl,rfl,_⟩:=di;refine⟨?_,hK a m ay (Ev.refl m) rfl rfl hr gY rfl⟩;refine List.eq_nil_iff_forall_not_mem.2 fun i hi=>?_;obtain⟨_,h2,_⟩:=Zu.1 hi;obtain⟨p,hp,_⟩:=(hl.free i).1 (adu h2);simp at hp
 |succ fuel ih=>
  intro rem listed ak m a hl hlen di ay hr gY hK;refine⟨fun aon=>?_,fun i hi=>?_⟩
  .cases rem with
   |nil=>simp only[kL,steps,gn,lE] at di;obtain⟨rfl,rfl,_⟩:=di;exact hK a m ay (Ev.refl m) rfl rfl hr gY rfl
   |cons p rest=>
    exfalso;obtain⟨o,ho,_⟩:=hl.comp p af;have aB:p.i<ops.size:=(Array.getElem?_eq_some_iff.1 ho).1;have mj:p.i∈Region.ready .any ops listed:=by
     refine Zu.2 ⟨aB,?_,o,ho,fun e he hb=>?_⟩
     .rw[Array.getD_eq_getD_getElem?,(hl.free p.i).2 ⟨p,af,rfl⟩];rfl
     have OB:e.on<p.i:=by unfold I0 at Fx;have:=gj.1 Fx p.i (by simpa using aB);rw[ho] at this;rw[gj] at this;have:=this e (by simpa using he);simp only[hb,Ad,CO,l9] at this;exact this
     have hs:e.on<listed.size:=by rw[hl.size];omega
     rw[Array.getD_eq_getD_getElem?];cases bR:listed[e.on] with
     |true=>simp[hs,bR]
     |false=>
      exfalso;obtain⟨q,hq,FN⟩:=(hl.free e.on).1 (by simp[hs,bR]);rcases ch.1 hq with rfl|hq
      .omega
      have:=((mB.1 hl.pair).1 q hq).1;omega
    rw[aon] at mj;simp at mj
  obtain⟨h1,h2,o,ho,h3⟩:=Zu.1 hi;obtain⟨p,hp,rfl⟩:=(hl.free i).1 (adu h2);obtain⟨l1,l2,rfl⟩:=List.append_of_mem hp;obtain⟨o',lW,AY⟩:=hl.comp p hp;rw[ho] at lW;cases lW;have adE:∀j:Nat,p.io.anc.testBit j=true->listed[j]?=some true:=by
   intro j hj;rw[abA AY] at hj;obtain⟨e,he,hb,_,B0⟩:=ake Fx ho hj;have OB:=ano (h3 e he hb);rcases B0 with rfl|B0
   .exact OB
   exact hl.closed _ OB j B0
  have Kw:=PJ.1 hl.pair;have an7:∀x∈l1,PY x p:=by
   intro x hx;rcases(Kw.2.2 x hx p af).2 with h|h
   .have:=adE _ h;rw[(hl.free x.i).2 ⟨x,by simp[hx],rfl⟩] at this;cases this
   exact h
  obtain⟨iR,cZ,kG,fR⟩:=auZ hL di an7;have key:=ah8 (Q:=Q) (K:=wpAny P .any ops Q fuel (listed.setIfInBounds p.i true)) hG hP hS AY kG ay hr gY (fun a1 m1 k1 k2 k3 k4 k5 k6 k7=>by
   subst k4;have aB:p.i<listed.size:=by rw[hl.size];exact h1
   refine ih (rem:=l1++l2) ⟨?_,fun q hq=>hl.comp q (by rcases eX.1 hq with h|h<;>simp[h]),by simp[hl.size],fun k=>?_,fun k hk j hj=>?_⟩ (by simp at hlen |-;omega) fR k1 k5 k6 ?_
   .refine PJ.2 ⟨Kw.1,(mB.1 Kw.2.1).2,fun x hx y hy=>Kw.2.2 x hx y (by simp[hy])⟩
   .rw[Array.getElem?_setIfInBounds];by_cases hk:p.i=k
    .subst hk;rw[aG rfl,aG aB];constructor
     .intro h;cases h
     rintro ⟨q,hq,FN⟩
     rcases eX.1 hq with h|h
     .have:=(Kw.2.2 q h p af).1;omega
     have:=((mB.1 Kw.2.1).1 q h).1;omega
    rw[aC hk,hl.free k];constructor
    .rintro ⟨q,hq,FN⟩
     rcases eX.1 hq with h|h
     .exact⟨q,by simp[h],FN⟩
     rcases ch.1 h with rfl|h
     .exact(hk FN).elim
     exact⟨q,by simp[h],FN⟩
    rintro ⟨q,hq,FN⟩
    rcases eX.1 hq with h|h
    .exact⟨q,by simp[h],FN⟩
    exact⟨q,by simp[h],FN⟩
   .have wW:∀j:Nat,listed[j]?=some true->(listed.setIfInBounds p.i true)[j]?=some true:=by
     intro j hj;rw[Array.getElem?_setIfInBounds];split
     .first
       |rfl
       |(rename_i e;rw[aG aB])
     exact hj
    by_cases jv:p.i=k
    .subst jv;refine wW j (adE j ?_);rw[abA AY];exact hj
    rw[Array.getElem?_setIfInBounds,aC jv] at hk;exact wW j (hl.closed k hk j hj)
   intro a2 m2 p1 p2 p3 p4 p5 p6 p7;exact hK a2 m2 p1 (k2.trans p2) (p3.trans k3) p4 p5 p6 (p7.trans k7))
  unfold wpOp;rw[ho];simp only;split at key
  .rename_i hw;rw[aG hw];exact .inl key
  rename_i hw;rw[aC hw];exact key
end
def ug:Nat->g_->i_->List It
 |i,x::xs,e::es=>⟨i,x,e⟩::ug (i+1) xs es
 |_,_,_=>[]
theorem aqw:∀ {xs:g_} {es:i_} (i:Nat),es.length=xs.length->(ug i xs es).map (·.io)=xs/\(ug i xs es).map (·.e)=es:=by
 intro xs
 induction xs with
 |nil=>intro es i h;cases es with
  |nil=>exact⟨rfl,rfl⟩
  |cons _ _=>simp at h
 |cons x xs ih=>intro es i h;cases es with
  |nil=>simp at h
  |cons e es=>obtain⟨h1,h2⟩:=ih (es:=es) (i+1) (by simpa using h);exact⟨by simp[ug,h1],by simp[ug,h2]⟩
theorem amZ{o:cq}:∀ {past:g_} {j:Nat},TB o j past=true->∀k x,past[k]?=some x->o.anc.testBit (j+k)=true\/Hc x o=true:=by
 intro past
 induction past with
 |nil=>intro j _ k x h;simp at h
 |cons y past ih=>
  intro j h k x hk;simp only[TB,cJ,vU] at h;cases k with
  |zero=>simp at hk;subst hk;exact h.1
  |succ k=>have:=ih h.2 k x (by simpa using hk);rw[show j+(k+1)=j+1+k by omega];exact this
theorem aqQ{anc:Nat}{e:cM}:∀ {past:i_} {j:Nat},Uz anc e j past=true->∀k x,past[k]?=some x->anc.testBit (j+k)=true\/GN x e=false:=by
 intro past
 induction past with
 |nil=>intro j _ k x h;simp at h
 |cons y past ih=>
  intro j h k x hk;simp only[Uz,cJ,vU,l7] at h;cases k with
  |zero=>simp at hk;subst hk;exact h.1
  |succ k=>have:=ih h.2 k x (by simpa using hk);rw[show j+(k+1)=j+1+k by omega];exact this
theorem aqx:∀ {xs:g_} {es:i_} {past:g_} {pe:i_},es.length=xs.length->pe.length=past.length->Np xs past=true->ui xs pe es=true->
  (∀(q:It),q∈ug past.length xs es->∀(k:Nat) (x:cq) (e:cM),past[k]?=some x->pe[k]?=some e->q.io.anc.testBit k=true\/(Hc x q.io=true/\GN e q.e=false))/\
  (∀q∈ug past.length xs es,past.length<=q.i)/\(ug past.length xs es).Pairwise fun p q=>p.i<q.i/\(q.io.anc.testBit p.i=true\/PY p q):=by
 intro xs
 induction xs with
 |nil=>
  intro es past pe _ _ _ _;have:ug past.length [] es=[]:=by cases es<;>rfl
  rw[this];exact⟨fun q h=>by simp at h,fun q h=>by simp at h,.nil⟩
 |cons x xs ih=>
  intro es past pe hl hp hf hd;cases es with
  |nil=>simp at hl
  |cons e es=>
   simp only[Np,cJ] at hf;simp only[ui,cJ] at hd;obtain⟨i1,i2,i3⟩:=ih (es:=es) (past:=past++[x]) (pe:=pe++[e]) (by simpa using hl) (by simp[hp]) hf.2 hd.2;have hlen:(past++[x]).length=past.length+1:=af;rw[hlen] at i1 i2 i3;simp only[ug];refine⟨?_,?_,mB.2 ⟨?_,i3⟩⟩
   .intro q hq k y f hy hf';rcases ch.1 hq with rfl|hq
    .have h1:=amZ hf.1 k y hy;have h2:=aqQ hd.1 k f hf';rw[jr] at h1 h2;rcases h1 with h1|h1
     .exact .inl h1
     rcases h2 with h2|h2
     .exact .inl h2
     exact .inr ⟨h1,h2⟩
    have hk:k<past.length:=(aW.1 hy).1;exact i1 q hq k y f (by rw[xB hk];exact hy) (by rw[xB aa];exact hf')
   .intro q hq;rcases ch.1 hq with rfl|hq
    .exact cD _
    have:=i2 q hq;omega
   intro q hq;refine⟨by have:=i2 q hq;simp only;omega,?_⟩;exact i1 q hq past.length x e af (by rw[<- hp];simp)
theorem aqv{ops:Array Oper}{anc:Nat->w_}{dst:Nat->w_}{base nt:Nat}:∀ {r:List Oper} {xs:g_} {es:i_} {i:Nat},xP P dst anc base nt i r=some xs->es.length=xs.length->(∀j,ops[i+j]?=r[j]?)->
  (∀p∈ug i xs es,∃o,ops[p.i]?=some o/\Fe P dst ((base+p.i)*64) nt ((anc p.i).getD 0) o=some p.io)/\ ∀k,i<=k->k<i+r.length->∃p∈ug i xs es,p.i=k:=by
 intro r
 induction r with
 |nil=>
  intro xs es i h _ _;simp only[xP,gn] at h;subst h;have:ug i [] es=[]:=by cases es<;>rfl
  rw[this];exact⟨fun p h=>by simp at h,fun k h1 h2=>by simp at h2;omega⟩
 |cons o r ih=>
  intro xs es i h hl OC;obtain⟨x,xs',rfl,h1,h2⟩:=WB h;cases es with
  |nil=>simp at hl
  |cons e es=>
   obtain⟨i1,i2⟩:=ih (es:=es) h2 (by simpa using hl) (fun j=>by have:=OC (j+1);rw[show i+1+j=i+(j+1) by omega];simpa using this);refine⟨fun p hp=>?_,fun k dp jv=>?_⟩
   .rcases ch.1 hp with rfl|hp
    .exact⟨o,by have:=OC 0;simpa using this,h1⟩
    exact i1 p hp
   by_cases hk:k=i
   .exact⟨⟨i,x,e⟩,by simp[ug],hk.symm⟩
   obtain⟨p,hp,iD⟩:=i2 k aa (by simp at jv;omega);exact⟨p,by simp[ug,hp],iD⟩
theorem auA{sh:Ctx}{cp:gU}{cs:kr}:∀ {xs:g_} {ak aH:Env} {aj ao:aE} {es:i_},steps sh cp cs xs ak aj=some (aH,ao,es)->es.length=xs.length:=by
 intro xs
 induction xs with
 |nil=>intro ak aH aj ao es h;simp only[steps,gn,lE] at h;rw[<- h.2.2];rfl
 |cons x xs ih=>
  intro ak aH aj ao es h;simp only[steps] at h;split at h
  .split at h
   .rename_i h2;cases h;simp[ih h2]
   cases h
  cases h
theorem ald{dst anc:Nat->w_}{base nt:Nat}:∀ {r:List Oper} {xs:g_} {i:Nat},xP P dst anc base nt i r=some xs->xs.length=r.length:=by
 intro r
 induction r with
 |nil=>intro xs i h;simp only[xP,gn] at h;subst h;rfl
 |cons o r ih=>intro xs i h;obtain⟨x,xs',rfl,_,h2⟩:=WB h;simp[ih h2]
section
variable {G:World->Prop} (hG:Good G w0) {cp:gU} {cs:kr} (hP:ET P G cp) (hS:Gt P G cs) (hL:Bw cs) {sh:Ctx}
include hG hP hS hL
theorem alU(A2:P.follows .mixedOrders=true){ops:Array Oper}{base nt id:Nat}{Q:Exit->Act->World->Prop}{l:g_}{ak aH:Env}{m:Mem}{ao:aE}{es:i_}{a:Act}(hc:xP P (fun j=>(ops[j]?).bind (·.dst)) (fun i=>(Region.before ops)[i]?) base nt 0 ops.toList=some l)
  (Fx:I0 ops=true) (hf:Np l []=true) (di:steps sh cp cs l ak m.aj=some (aH,ao,es)) (hd:ui l [] es=true) (ay:Ok w0 m) (hr:jt m ak a.tmps) (gY:a.tmps.size=nt) (hK:Gv w0 m a nt aH ao (fun a' w'=>Q .normal a' w')):(Code.region id ops true).wp P Q a m.w:=by
 refine wp_region_any A2 ?_;have hlen:=auA di;have tj:l.length=ops.size:=by have:=ald hc;simpa using this
 obtain⟨g1,g2⟩:=aqw 0 hlen;obtain⟨_,_,hp⟩:=aqx (past:=[]) (pe:=[]) hlen rfl hf hd;obtain⟨c1,c2⟩:=aqv (ops:=ops) hc hlen (fun j=>af);have oI:Ok w0 (m.later m.w.drew fun _=>False):=OW ay (fY.drew _) fun _ h=>h.elim;have wM:Ev m (m.later m.w.drew fun _=>False):=KS (fY.drew _) fun _ h=>h.elim;have pS:(m.later m.w.drew fun _=>False).fr=m.fr:=by funext c;simp[Mem.later]
 refine ajz (m:=m.later m.w.drew fun _=>False) hG hP hS hL Fx ops.size (rem:=ug 0 l es) (base:=base) ⟨hp,c1,af,fun i=>?_,fun i hi=>?_⟩ ?_ (by rw[g1,g2];exact di) oI (hr.ev wM) gY ?_
 .constructor
  .intro h;have hi:i<ops.size:=by
    have:=(Array.getElem?_eq_some_iff.1 h).1
    simpa using this
   exact c2 i (cA _) (by simpa using hi)
  rintro ⟨p,hp,rfl⟩
  obtain⟨o,ho,_⟩:=c1 p hp;have hi:p.i<ops.size:=(Array.getElem?_eq_some_iff.1 ho).1;simp[hi]
 .rw[Array.getElem?_replicate] at hi;split at hi<;>simp at hi
 .have:(ug 0 l es).length=l.length:=by have:=congrArg List.length g1;simpa using this
  omega
 intro a2 m2 p1 p2 p3 p4 p5 p6 p7;exact hK a2 m2 p1 (wM.trans p2) (p3.trans pS) p4 p5 p6 p7
end
end Go.Abs
namespace Go.Abs
variable {P:Program} {w0:World}
def toE:nG->Exit
 | .normal=>.normal
 | .exit i=>.exit i
 | .ret=>.ret
section
variable {G:World->Prop} (hG:Good G w0) {cp:gU} {cs:kr} (hP:ET P G cp) (hS:Gt P G cs) (hL:Bw cs) (A2:P.follows .mixedOrders=true) {sh:Ctx}
include hG hP hS hL A2
theorem amv{n f nt:Nat}:∀(c:Code) {ic:aR} {ak aH:Env} {m:Mem} {ao:aE} {e:nG} {a:Act} {Q:Exit->Act->World->Prop},qD P f nt c=some ic->exec sh cp cs n ic ak m.aj=some (e,aH,ao)->Ok w0 m->jt m ak a.tmps->a.tmps.size=nt->
  Gv w0 m a nt aH ao (fun a' w'=>Q (toE e) a' w')->c.wp P Q a m.w:=by
 intro c
 induction c with
 |skip=>intro ic ak aH m ao e a Q hc hx ay hr gY hK;simp only[qD,gn] at hc;subst hc;simp only[exec,gn,lE] at hx;obtain⟨rfl,rfl,rfl⟩:=hx;exact wp_skip (hK a m ay (Ev.refl m) rfl rfl hr gY rfl)
 |label l=>intro ic ak aH m ao e a Q hc hx ay hr gY hK;simp only[qD,gn] at hc;subst hc;simp only[exec,gn,lE] at hx;obtain⟨rfl,rfl,rfl⟩:=hx;exact wp_label (hK a m ay (Ev.refl m) rfl rfl hr gY rfl)
 |ret=>intro ic ak aH m ao e a Q hc hx ay hr gY hK;simp only[qD,gn] at hc;subst hc;simp only[exec,gn,lE] at hx;obtain⟨rfl,rfl,rfl⟩:=hx;exact wp_ret (hK a m ay (Ev.refl m) rfl rfl hr gY rfl)
 |exit id=>intro ic ak aH m ao e a Q hc hx ay hr gY hK;simp only[qD,gn] at hc;subst hc;simp only[exec,gn,lE] at hx;obtain⟨rfl,rfl,rfl⟩:=hx;exact wp_exit (hK a m ay (Ev.refl m) rfl rfl hr gY rfl)
 |region id ops draw=>
  intro ic ak aH m ao e a Q hc hx ay hr gY hK;simp only[qD] at hc;split at hc
  .rename_i xs OQ;cases draw with
   |false=>
    simp only[dR,if_false,gn] at hc;subst hc;simp only[exec] at hx;split at hx
    .rename_i e1 b1 es di;simp only[dR,if_false,gn,lE] at hx;obtain⟨rfl,rfl,rfl⟩:=hx;exact asy hG hP hS OQ di ay hr gY hK
    cases hx
   |true=>
    simp only[if_true] at hc OQ;split at hc
    .rename_i BP;simp only[cJ] at BP;cases hc;simp only[exec] at hx;split at hx
     .rename_i e1 b1 es di;simp only[if_true] at hx;split at hx
      .rename_i hd;cases hx;exact alU hG hP hS hL A2 OQ BP.1 BP.2 di hd ay hr gY hK
      cases hx
     cases hx
    cases hc
  cases hc
 |seq x y ihx ihy=>
  intro ic ak aH m ao e a Q hc hx ay hr gY hK;simp only[qD] at hc;split at hc
  .rename_i ix iy h1 h2;cases hc;simp only[exec] at hx;refine wp_seq ?_;split at hx
   .rename_i iR cZ tz;refine ihx h1 tz ay hr gY ?_;intro a1 m1 k1 k2 k3 k4 k5 k6 k7;subst k4;refine ihy h2 hx k1 k5 k6 ?_;intro a2 m2 p1 p2 p3 p4 p5 p6 p7;exact hK a2 m2 p1 (k2.trans p2) (p3.trans k3) p4 p5 p6 (p7.trans k7)
   rename_i aK;refine ihx h1 hx ay hr gY ?_;intro a1 m1 k1 k2 k3 k4 k5 k6 k7;have:=hK a1 m1 k1 k2 k3 k4 k5 k6 k7;cases e with
   |normal=>exact(aK aH ao hx).elim
   |exit i=>exact this
   |ret=>exact this
  cases hc
 |cond x p q ihp ihq=>
  intro ic ak aH m ao e a Q hc hx ay hr gY hK;simp only[qD] at hc;split at hc
  .rename_i c' ip iq h1 h2 h3;cases hc;simp only[exec] at hx;split at hx
   .rename_i t ht;have hv:=eZ h1 hr;rw[ht] at hv;refine wp_cond (FY hv) ?_;cases t with
    |true=>simp only[if_true] at hx |-;exact ihp h2 hx ay hr gY hK
    |false=>simp only[dR,if_false] at hx |-;exact ihq h3 hx ay hr gY hK
   cases hx
  cases hc
 |block id c ih=>
  intro ic ak aH m ao e a Q hc hx ay hr gY hK;simp only[qD,ef] at hc;obtain⟨ic',h1,rfl⟩:=hc;simp only[exec] at hx;refine wp_block ?_;split at hx
  .rename_i i iR cZ tz;refine ih h1 tz ay hr gY ?_;intro a1 m1 k1 k2 k3 k4 k5 k6 k7;simp only[toE,Exit.inBlock];split at hx
   .rename_i hi;cases hx;rw[aG hi];exact hK a1 m1 k1 k2 k3 k4 k5 k6 k7
   rename_i hi;cases hx;rw[aC hi];exact hK a1 m1 k1 k2 k3 k4 k5 k6 k7
  rename_i aK;refine ih h1 hx ay hr gY ?_;intro a1 m1 k1 k2 k3 k4 k5 k6 k7;have:=hK a1 m1 k1 k2 k3 k4 k5 k6 k7;cases e with
  |normal=>exact this
  |exit i=>exact(aK i aH ao hx).elim
  |ret=>exact this
 |loop c ih=>
  intro ic ak aH m ao e a Q hc hx ay hr gY hK;simp only[qD,ef] at hc;obtain⟨ic',h1,rfl⟩:=hc;simp only[exec] at hx;refine wp_loop_rounds n ?_;have key:∀(k:Nat) {ak:Env} {m:Mem} {a:Act},iter (exec sh cp cs n ic') k ak m.aj=some (e,aH,ao)->Ok w0 m->jt m ak a.tmps->a.tmps.size=nt->Gv w0 m a nt aH ao (fun a' w'=>Q (toE e) a' w')->Code.rounds P c Q k a m.w:=by
   intro k
   induction k with
   |zero=>intro ak m a hx;simp[iter] at hx
   |succ k ihk=>
    intro ak m a hx ay hr gY hK;rw[rounds_succ];simp only[iter] at hx;split at hx
    .rename_i iR cZ tz;refine ih h1 tz ay hr gY ?_;intro a1 m1 k1 k2 k3 k4 k5 k6 k7;subst k4;refine ihk hx k1 k5 k6 ?_;intro a2 m2 p1 p2 p3 p4 p5 p6 p7;exact hK a2 m2 p1 (k2.trans p2) (p3.trans k3) p4 p5 p6 (p7.trans k7)
    rename_i aK;refine ih h1 hx ay hr gY ?_;intro a1 m1 k1 k2 k3 k4 k5 k6 k7;have:=hK a1 m1 k1 k2 k3 k4 k5 k6 k7;cases e with
    |normal=>exact(aK aH ao hx).elim
    |exit i=>exact this
    |ret=>exact this
  exact key n hx ay hr gY hK
 |scope c ih=>intro ic ak aH m ao e a Q hc hx ay hr gY hK;simp only[qD] at hc;refine wp_scope_straight ?_;refine ih hc hx ay hr gY ?_;intro a1 m1 k1 k2 k3 k4 k5 k6 k7;have:=hK a1 m1 k1 k2 k3 k4 k5 k6 k7;cases e<;>exact this
 |_=>intro ic ak aH m ao e a Q hc hx;simp only[qD,gn] at hc;subst hc;simp[exec] at hx
end
end Go.Abs
namespace Go.Abs
variable {P:Program} {w0:World}
section
variable{m:Mem}
theorem auL{k:w_}{cs:f_}{v:V}{u:Value}(h:qZ k cs=some v)(hr:cF m v u):pE m v u:=by
 unfold qZ at h;split at h
 .split at h
  .cases h;exact hr
  cases h
 split at h
 .cases h;exact hr
 cases h
theorem aqJ{x v:V}{u:Value}(h:Uy x=some v)(hr:cF m x u):pE m v u:=by cases x<;>simp only[Uy,gn,reduceCtorEq] at h<;>subst h<;>exact hr
theorem afV{α β:Type}{f:α->Sem β}{x:α}{xs:List α}{y:β}{ys:List β}{w:World}(h1:(f x).run P w=.ok y w)(h2:(xs.mapM f).run P w=.ok ys w):((x::xs).mapM f).run P w=.ok (y::ys) w:=by simp only[List.mapM_cons,Sem.run_bind,h1,h2,Result.andThen_ok,Sem.run_pure]
theorem asF{al:Al}(ay:Ok w0 m){ak:Env}{tmps:Array Value}(hr:jt m ak tmps):∀ {rs:List ResultVar} {l:List (Nat×Option w_)} {vs:e_},CC P rs=some l->qt al ak m.aj l=some vs->
  ∃ys,(rs.mapM (fun| .tmp t=>pure (tmps.getD t undef)| .cell a t=>do loadVar t (<- asAddr (tmps.getD a undef)):ResultVar->Sem Value)).run P m.w=.ok ys m.w/\Pw (pE m) vs ys:=by
 intro rs
 induction rs with
 |nil=>intro l vs h1 h2;simp only[CC,gn] at h1;subst h1;simp only[qt,gn] at h2;subst h2;exact⟨[],by simp[Sem.run_pure],rfl,fun j x u p=>by simp at p⟩
 |cons r rs ih=>
  intro l vs h1 h2;have cons:∀ {x:V} {xs:e_} {y:Value} {ys:List Value},pE m x y->Pw (pE m) xs ys->Pw (pE m) (x::xs) (y::ys):=by
   intro x xs y ys p q;refine⟨by simp[q.1],fun j z u a b=>?_⟩;cases j with
   |zero=>simp at a b;subst a b;exact p
   |succ j=>exact q.2 j z u (by simpa using a) (by simpa using b)
  cases r with
  |tmp t=>
   simp only[CC,ef] at h1;obtain⟨l',h3,rfl⟩:=h1;simp only[qt] at h2;split at h2
   .rename_i v q e1 e2;cases h2;obtain⟨ys,g1,g2⟩:=ih h3 e2;exact⟨_::ys,afV (by simp[Sem.run_pure]) g1,cons (aqJ e1 (hr t)) g2⟩
   cases h2
  |cell a t=>
   simp only[CC] at h1;split at h1
   .rename_i k q e1 e2;cases h1;simp only[qt] at h2;split at h2
    .rename_i cs rd ws e3 e4;split at h2
     case isFalse=>cases h2
     simp only[ef] at h2;obtain⟨v,hv,rfl⟩:=h2;obtain⟨ys,g1,g2⟩:=ih e2 e4;obtain⟨ad,y,p1,p2,p3⟩:=afF e1 (ag8 ay e3 (hr a)) hv;exact⟨y::ys,afV (by simp[p1,asAddr,p2]) g1,cons (auL hv p3) g2⟩
    cases h2
   cases h1
theorem asG{al:Al}(ay:Ok w0 m){ak:Env}{tmps:Array Value}(hr:jt m ak tmps){fn:Func}{l:List (Nat×Option w_)}{vs:e_}(h1:CC P fn.results.toList=some l)(h2:qt al ak m.aj l=some vs):
  ∃y,(results fn tmps).run P m.w=.ok y m.w/\cF m (Bo vs) y:=by
 obtain⟨ys,g1,g2⟩:=asF ay hr h1 h2;have kE:(results fn tmps).run P m.w=.ok (if h:ys.toArray.size=1 then ys.toArray[0] else .tuple ys.toArray) m.w:=by
  unfold results;simp only[Array.mapM_eq_mapM_toList,map_eq_pure_bind,Sem.run_bind,Result.andThen_ok,Sem.run_pure,bind_assoc,pure_bind]
  erw[g1]
  simp only[Result.andThen_ok,Sem.run_pure]
 refine⟨_,kE,?_⟩
 match vs,ys,g2 with
 |[v],[y],g2=>exact cF.of1 (g2.2 0 v y rfl rfl)
 |[],[],g2=>exact⟨_,rfl,rfl,fun j x u p=>by simp at p⟩
 |v::v'::vs,y::y'::ys,g2=>refine⟨_,rfl,by simpa using g2.1,fun j x u p q=>g2.2 j x u p (by simpa using q)⟩
 |[],y::ys,g2=>exact absurd g2.1 af
 |v::vs,[],g2=>exact absurd g2.1 af
 |[v],y::y'::ys,g2=>exact absurd g2.1 af
 |v::v'::vs,[y],g2=>exact absurd g2.1 af
theorem aby{f:Nat}{fn:bG}(h:Dk P f=some fn):∃kf c,P.funcs[f]?=some kf/\kf.body=some c/\(kf.name== "runtime.NumGoroutine")=false/\qD P f kf.ntmps c=some fn.body/\CC P kf.results.toList=some fn.results/\fn.ntmps=kf.ntmps:=by
 unfold Dk at h;split at h
 .cases h
 rename_i kf hf;split at h
 .cases h
 rename_i c hc;split at h
 .cases h
 rename_i hn;split at h
 .rename_i b r h1 h2;cases h;exact⟨kf,c,hf,hc,by simpa using hn,h1,h2,rfl⟩
 cases h
def aak(S:Sys)(G:World->Prop):Prop:=∀f vs r,S.prim f vs=some (some r)->Enters S.P f/\ ∀(w:World) (O:Nat->Prop) (args:Array Value),Good G w->(∀c,O c->c<w.heap.size)->Pw (tN w O) vs args.toList->Calls S.P f args w (wa w O r)
def ai1(S:Sys)(G:World->Prop):Prop:=∀f vs al aj v ao,S.trig f vs=true->(S.primS f vs al aj).map (fun r=>(r.1,app r.2 aj))=some (v,ao)->
 (Enters S.P f/\ ∀(w0:World) (m:Mem) (args:Array Value),Good G w0->Ok w0 m->m.aj=aj->Pw (cF m) vs args.toList->Calls S.P f args m.w (IU w0 m v ao))/\
 (∀id,al.ok id=false->ao id=aj id)/\
 ∀bN,(∀id,al.ok id=true->bN id=aj id)->∃mX,(S.primS f vs al bN).map (fun r=>(r.1,app r.2 bN))=some (v,mX)/\ ∀id,mX id=if al.ok id then ao id else bN id
structure IW (S:Sys) (G:World->Prop):Prop where
 follow:S.P.follows .mixedOrders=true
 fns:∀f fn,S.fns f=some fn->Dk S.P f=some fn
 prim:aak S G
 primS:ai1 S G
theorem aur{vs:e_}{args:Array Value}{nt:Nat}(h:Pw (cF m) vs args.toList)(hl:vs.length<=nt):jt m (tA vs) (args++Array.replicate (nt-args.size) undef)/\(args++Array.replicate (nt-args.size) undef).size=nt:=by
 have hs:args.size=vs.length:=by simpa using h.1
 constructor
 .intro t;by_cases ht:t<vs.length
  .have h1:tA vs t=vs[t]:=by simp[tA,List.getD,ht]
   have h2:(args++Array.replicate (nt-args.size) undef).getD t undef=args[t]:=by simp[Array.getD_eq_getD_getElem?,Array.getElem?_append,hs,ht]
   rw[h1,h2];exact h.2 t _ _ (by simp[ht]) (by simp[hs,ht])
  have h1:tA vs t=.undef:=by simp[tA,List.getD,nZ (Nat.le_of_not_lt ht)]
  have h2:(args++Array.replicate (nt-args.size) undef).getD t undef=undef:=by simp only[Array.getD_eq_getD_getElem?,Array.getElem?_append,hs,aC ht];rw[Array.getElem?_replicate];split<;>rfl
  rw[h1,h2];rfl
 simp;omega
theorem ajA(ay:Ok w0 m):∀ {o q:a_},apart o q=true->(∀id∈o,∃ob,(m.aj id).2=some ob/\ob.gh=true)->(o.map m.σ).Nodup/\ ∀id∈q,id∉o:=by
 intro o
 induction o with
 |nil=>intro q _ _;exact⟨af,fun id _ h=>by simp at h⟩
 |cons i o ih=>
  intro q h hm;simp only[apart,cJ,l7] at h;obtain⟨⟨h1,h2⟩,h3⟩:=h;obtain⟨i1,i2⟩:=ih h3 (fun id hid=>hm id (by simp[hid]));have jT:i∉o:=by simpa using h1
  have ju:i∉q:=by simpa using h2
  refine⟨?_,fun id hid=>?_⟩
  .rw[eD,rj];refine⟨fun mj=>?_,i1⟩;obtain⟨j,hj,he⟩:=cV.1 mj;obtain⟨ob,a1,a2⟩:=hm i af;obtain⟨ob',b1,b2⟩:=hm j (by simp[hj]);exact jT (ay.inj j i ob' ob b1 b2 a1 a2 he▸hj)
  simp only[ch,not_or];exact⟨fun e=>ju (e▸hid),i2 id hid⟩
theorem aq1{aj:aE}:∀ {cs:f_} {rs:n_} {o q:a_},nU aj cs=some (rs,o,q)->rs.length=cs.length:=by
 intro cs
 induction cs with
 |nil=>intro rs o q h;simp only[nU,gn,lE] at h;obtain⟨rfl,_,_⟩:=h;rfl
 |cons c cs ih=>
  intro rs o q h;simp only[nU] at h;split at h
  .rename_i x o1 q1 xs os qs h1 h2;cases h;simp[ih h2]
  cases h
theorem abw{α β:Type}{f:α->Option (β×a_)}:∀ {xs:List α} {ys:List β} {r:a_},collect f xs=some (ys,r)->∀id∈r,∃x y q,f x=some (y,q)/\id∈q:=by
 intro xs
 induction xs with
 |nil=>intro ys r h id hid;simp[collect] at h;rw[h.2] at hid;simp at hid
 |cons x xs ih=>
  intro ys r h id hid;simp only[collect] at h;split at h
  .rename_i b p bs q e1 e2;cases h;rcases eX.1 hid with hid|hid
   .exact⟨x,b,p,e1,hid⟩
   exact ih e2 id hid
  cases h
theorem aud{aj:aE}:∀ {n:Nat} {c:C} {x:PV} {r:a_},snap aj n c=some (x,r)->∀id∈r,∃ob,(aj id).2=some ob:=by
 intro n
 induction n with
 |zero=>intro c x r h;simp[snap] at h
 |succ n ih=>
  intro c x r h id hid;have one:∀ {i:Nat} {ob:Ob} {g:Nat},aj i=(g,some ob)->id∈[i]->∃ob,(aj id).2=some ob:=by intro i ob g hb hi;simp at hi;subst hi;exact⟨ob,by rw[hb]⟩
  have coll:∀ {cs:f_} {ps:b_} {r:a_},collect (snap aj n) cs=some (ps,r)->id∈r->∃ob,(aj id).2=some ob:=by intro cs ps r h hi;obtain⟨x,y,q,h1,h2⟩:=abw h id hi;exact ih h1 id h2
  unfold snap at h;split at h
  .cases h;simp at hid
  .split at h
   .rename_i hb;split at h
    .split at h
     .rename_i hc;cases h;rcases ch.1 hid with e|hid
      .exact one hb (by simp[e])
      exact coll hc hid
     cases h
    cases h
   .rename_i hb;split at h
    .cases h;exact one hb hid
    cases h
   cases h
  .split at h
   .rename_i hb;split at h
    .simp only[ef] at h;obtain⟨e,_,h2⟩:=h;cases h2;exact one hb hid
    cases h
   .rename_i hb;split at h
    .simp only[ef] at h;obtain⟨e,_,h2⟩:=h;cases h2;exact one hb hid
    cases h
   cases h
  .split at h
   .rename_i hb;split at h
    .cases h;exact one hb hid
    cases h
   .rename_i hb;split at h
    .cases h;exact one hb hid
    cases h
   .rename_i hb;split at h
    .split at h
     .rename_i hc;cases h;rcases ch.1 hid with e|hid
      .exact one hb (by simp[e])
      obtain⟨x,y,q,h1,h2⟩:=abw hc id hid;exact coll h1 h2
     cases h
    cases h
   cases h
  .split at h
   .rename_i hb;split at h
    .cases h;exact one hb hid
    cases h
   .rename_i hb;split at h
    .cases h;exact one hb hid
    cases h
   cases h
  split at h
  .rename_i h1 h2;cases h;rcases eX.1 hid with hid|hid
   .exact coll h1 hid
   exact coll h2 hid
  cases h
theorem aq2{aj:aE}:∀ {cs:f_} {rs:n_} {o q:a_},nU aj cs=some (rs,o,q)->∀id∈q,∃ob,(aj id).2=some ob:=by
 intro cs
 induction cs with
 |nil=>intro rs o q h id hid;simp only[nU,gn,lE] at h;rw[<- h.2.2] at hid;simp at hid
 |cons c cs ih=>
  intro rs o q h id hid;simp only[nU] at h;split at h
  .rename_i x o1 q1 xs os qs h1 h2;cases h;rcases eX.1 hid with hid|hid
   .have sn:(snap aj gZ c).map (fun(v,r)=>((.p v:RC),([]:a_),r))=some (x,o1,q1)->∃ob,(aj id).2=some ob:=by
     intro h1;simp only[ef] at h1;obtain⟨⟨y,r⟩,h3,h4⟩:=h1;cases h4;exact aud h3 id hid
    unfold kJ at h1;split at h1
    .cases h1;simp at hid
    .split at h1
     .split at h1
      .cases h1;simp at hid
      cases h1
     exact sn h1
    exact sn h1
   exact ih h2 id hid
  cases h
theorem aq4{w:World}{O:Nat->Prop}{m0:Mem}(ay:Ok w m)(eO:Ev m0 m)(qL:m0.w=w)(XW:∀c,¬m0.gh c)(pS:m.fr=O){v:V}{r:RV}{val:Value}(h:j6 m.aj v=some r)(hr:cF m v val):wa w O r (.returned val) m.w:=by
 unfold j6 at h;split at h
 .rename_i cs dF;split at h
  .rename_i rs o q ho;split at h
   .rename_i qI;cases h;obtain⟨vs,hc,jw⟩:=amQ dF hr;obtain⟨g1,g2⟩:=jw rs (aq1 ho);have hm:=(agA ay (Q:=fun _=>False) (fun _ h=>h.elim) ho hc (fun _ _ h=>h)).2;obtain⟨gH,anV⟩:=ajA ay qI hm;have adD:∀b,(O b\/b∈o.map m.σ)->m.own b:=by
     intro b hb;rcases hb with hb|hb
     .exact .inl (pS▸hb)
     obtain⟨id,hid,rfl⟩:=cV.1 hb;obtain⟨ob,h1,h2⟩:=hm id hid;exact .inr ⟨id,ob,h1,h2,rfl⟩
    have hq:∀id∈q,¬(O (m.σ id)\/m.σ id∈o.map m.σ):=by
     intro id hid hn;obtain⟨ob,hob⟩:=aq2 ho id hid;by_cases Kt:ob.gh=true
     .rcases hn with hn|hn
      .exact(ay.ig id ob hob Kt).2 (pS▸hn)
      obtain⟨j,hj,he⟩:=cV.1 hn;obtain⟨ob',b1,b2⟩:=hm j hj;exact anV id hid (ay.inj j id ob' ob b1 b2 hob Kt he▸hj)
     have eh:¬m.own (m.σ id):=by
      have B0:=ay.obj id ob hob;cases ob<;>simp[Ob.gh] at Kt
      .obtain⟨_,_,_,_,_,eh⟩:=B0;exact eh
      .obtain⟨_,_,_,_,_,_,_,_,_,eh⟩:=B0;exact eh
      obtain⟨_,_,_,_,_,eh⟩:=B0;exact eh
     exact eh (adD _ hn)
    obtain⟨yr,_⟩:=agA ay adD ho hc hq;subst qL;refine⟨val,o.map m.σ,rfl,⟨eO.os,eO.tape,eO.output,eO.size,fun c hc=>eO.keep c hc (XW c)⟩,gH,fun c hc=>?_,vs,g2,by rw[g1];exact yr⟩;obtain⟨id,hid,rfl⟩:=cV.1 hc;obtain⟨ob,h1,h2⟩:=hm id hid;exact⟨(ay.ig id ob h1 h2).1,(ay.obj id ob h1).lt⟩
   cases h
  cases h
 cases h
theorem tN.vrel{w:World}{O:Nat->Prop}(hw:m.w=w)(ho:m.own=O){x:V}{v:Value}(h:tN w O x v):cF m x v:=by
 subst hw ho;cases x with
 |undef=>exact h.elim
 |tup _=>exact h.elim
 |one c=>
  cases c with
  |p x=>exact nk h
  |_=>exact h.elim
 |agg cs=>obtain⟨arr,ps,rfl,rfl,hp⟩:=h;exact cF.agg.2 ⟨arr,rfl,hp.Ey⟩
theorem as1{sh:Ctx}{cp:gU}{cs:kr}{n:Nat}{fn:bG}{args:e_}{aj ao:aE}{v:V}(h:sG sh cp cs n fn args aj=some (v,ao)):
  ∃e ak vs,exec sh cp cs n fn.body (tA args) aj=some (e,ak,ao)/\(e=.normal\/e=.ret)/\qt sh.al ak ao fn.results=some vs/\v=Bo vs:=by
 unfold sG at h;split at h
 .rename_i ak b hx;simp only[ef] at h;obtain⟨vs,h1,h2⟩:=h;cases h2;exact⟨_,ak,vs,hx,.inl rfl,h1,rfl⟩
 .rename_i ak b hx;simp only[ef] at h;obtain⟨vs,h1,h2⟩:=h;cases h2;exact⟨_,ak,vs,hx,.inr rfl,h1,rfl⟩
 cases h
theorem ahs{G:World->Prop}(hG:Good G w0){cp:gU}{cs:kr}(hP:ET P G cp)(hS:Gt P G cs)(hL:Bw cs)(A2:P.follows .mixedOrders=true){sh:Ctx}{n f:Nat}{fn:bG}(hc:Dk P f=some fn){vs:e_}{m:Mem}{v:V}{ao:aE}{args:Array Value}(h:sG sh cp cs n fn vs m.aj=some (v,ao))
  (hl:vs.length<=fn.ntmps) (ay:Ok w0 m) (ha:Pw (cF m) vs args.toList):Calls P f args m.w (IU w0 m v ao):=by
 obtain⟨kf,c,h1,h2,h3,h4,h5,h6⟩:=aby hc;obtain⟨e,ak,rs,hx,he,Ca,rfl⟩:=as1 h;refine calls_of_wp h1 h2 ?_;obtain⟨s1,s2⟩:=aur (nt:=kf.ntmps) ha (by rw[<- h6];exact hl);refine amv hG hP hS hL A2 c h4 hx ay s1 s2 ?_;intro a' m' k1 k2 k3 k4 k5 k6 k7;subst k4;obtain⟨y,g1,g2⟩:=asG k1 k5 h5 Ca;have:bodyPost P kf (IU w0 m (Bo rs) m'.aj) .normal a' m'.w:=⟨k7,y,g1,y,m',rfl,rfl,k1,k2,k3,rfl,g2⟩;rcases he with rfl|rfl
 .exact this
 exact this
theorem enters_of{f:Nat}{fn:bG}(hc:Dk P f=some fn):Enters P f:=by obtain⟨kf,c,h1,h2,h3,_⟩:=aby hc;exact⟨kf,c,h1,h2,h3⟩
theorem sound{S:Sys}{G:World->Prop}(h:IW S G):∀n,ET S.P G (ij S n)/\Gt S.P G (ik S n)/\Bw (ik S n):=by
 intro n
 induction n with
 |zero=>exact⟨fun f vs r h=>by simp[ij] at h,fun f vs al aj v ao h=>by simp[ik] at h,fun f vs al aj v ao h=>by simp[ik] at h⟩
 |succ n ih=>
  obtain⟨hP,hS,hL⟩:=ih;refine⟨?_,?_,?_⟩
  .intro f vs r hc;rw[ij] at hc;split at hc
   .rename_i r' hp;subst hc;exact h.prim f vs r hp
   split at hc
   .rename_i fn hfn;have wK:=h.fns f fn hfn;split at hc
    .rename_i hl;refine⟨enters_of wK,fun w O args hG hO ha=>?_⟩;unfold F8 at hc;split at hc
     .rename_i v ao hr
      let m0:Mem:=⟨w,xe,fun _=>0,fun _=>0,O⟩
      have aoC:m0.own=O:=by
       funext c;apply propext;constructor
       .rintro (h|⟨id,o,h,_⟩)
        .exact h
        cases h
       exact .inl
      have ay:Ok w m0:=⟨rfl,rfl,rfl,cD _,fun _ _=>rfl,(fun id o h=>by cases h),(fun id o h=>by cases h),hO,(fun id fH o o' h=>by cases h)⟩;have hav:Pw (cF m0) vs args.toList:=⟨ha.1,fun j x u p q=>(ha.2 j x u p q).vrel rfl aoC⟩;refine(ahs hG hP hS hL h.follow wK (m:=m0) hr hl ay hav).mono ?_;rintro e w' ⟨val,m',rfl,rfl,q1,q2,q3,q4,q5⟩
      subst q4;exact aq4 (m0:=m0) q1 q2 rfl (fun c ⟨id,o,h,_⟩=>by cases h) q3 hc q5
     cases hc
    cases hc
   cases hc
  .intro f vs al aj v ao hc;rw[ik] at hc;by_cases ht:S.trig f vs=true
   .rw[aG ht] at hc;exact(h.primS f vs al aj v ao ht hc).1
   rw[aC ht] at hc;split at hc
   .rename_i fn hfn;have wK:=h.fns f fn hfn;split at hc
    .rename_i hl;refine⟨enters_of wK,fun w0 m args hG ay hb ha=>?_⟩;subst hb;exact ahs hG hP hS hL h.follow wK hc hl ay ha
    cases hc
   cases hc
  intro f vs al aj v ao hc;rw[ik] at hc;by_cases ht:S.trig f vs=true
  .rw[aG ht] at hc;obtain⟨_,l1,l2⟩:=h.primS f vs al aj v ao ht hc;refine⟨l1,fun bN h2=>?_⟩;obtain⟨b3,h3,h4⟩:=l2 bN h2;exact⟨b3,by rw[ik,aG ht];exact h3,h4⟩
  rw[aC ht] at hc;split at hc
  .rename_i fn hfn;split at hc
   .rename_i hl;obtain⟨l1,l2⟩:=as0 hL hc;refine⟨l1,fun bN h2=>?_⟩;obtain⟨b3,h3,h4⟩:=l2 bN h2;exact⟨b3,by rw[ik,aC ht];simp only[hfn,hl,if_true];exact h3,h4⟩
   cases hc
  cases hc
theorem aO.calls{S:Sys}{G:World->Prop}(h:IW S G){f:Nat}{vs:e_}{r:RV}(hc:aO S f vs r)(w:World)(hG:Good G w)(args:Array Value)(ha:Pw (tN w fun _=>False) vs args.toList):Calls S.P f args w (wa w (fun _=>False) r):=by obtain⟨n,hn⟩:=hc;exact((sound h n).1 f vs r hn).2 w _ args hG (fun c h=>h.elim) ha
end
end Go.Abs
namespace Go.Abs
section
variable{args:e_}{cp:gU}{cs:kr}{sh:Ctx}
def Dv(op:BinOp)(a b:Nat)(other:Option V):Option V:=
 match op with
 | .add=>bif Nat.ble (Nat.add a b) 9223372036854775807 then some (.one (.p (.int .i64 (.ofNat (Nat.add a b))))) else other
 | .sub=>bif Nat.ble b a then bif Nat.ble a 9223372036854775807 then some (.one (.p (.int .i64 (.ofNat (Nat.sub a b))))) else other else other
 | .mul=>bif Nat.ble (Nat.mul a b) 9223372036854775807 then some (.one (.p (.int .i64 (.ofNat (Nat.mul a b))))) else other
 | .eql=>some (.one (.p (.bool (Nat.beq a b))))
 | .neq=>some (.one (.p (.bool (!Nat.beq a b))))
 | .lss=>some (.one (.p (.bool (Nat.ble (Nat.succ a) b))))
 | .leq=>some (.one (.p (.bool (Nat.ble a b))))
 | .gtr=>some (.one (.p (.bool (Nat.ble (Nat.succ b) a))))
 | .geq=>some (.one (.p (.bool (Nat.ble b a))))
 | .rem=>bif Nat.beq b 0 then other else some (.one (.p (.int .i64 (.ofNat (Nat.mod a b)))))
 |_=>other
def Wj(op:BinOp)(x y:V):Option V:=
 match x,y with
 | .one (.p (.int .i64 (.ofNat a))),.one (.p (.int .i64 (.ofNat b)))=>Dv op a b (rU op x y)
 |_,_=>rU op x y
theorem PC{n:Nat}(h:n<=9223372036854775807):IntKind.i64.wrap (n:Int)=n:=by have e:(2 ^ IntKind.i64.bits:Int)=18446744073709551616:=ae;have e2:(2 ^ (IntKind.i64.bits-1):Int)=9223372036854775808:=ae;unfold IntKind.wrap;simp only[e,e2];have h1:(n:Int)%18446744073709551616=n:=aa;rw[h1];have h2:¬(n:Int)≥9223372036854775808:=aa;simp[h2]
theorem amE(op:BinOp)(a b:Nat):Dv op a b (rU op (.one (.p (.int .i64 (.ofNat a)))) (.one (.p (.int .i64 (.ofNat b)))))=rU op (.one (.p (.int .i64 (.ofNat a)))) (.one (.p (.int .i64 (.ofNat b)))):=by
 have hb:∀ {x:Bool} {u v w:Option V},(x=true->u=w)->v=w->(bif x then u else v)=w:=by
  intro x u v w h1 h2;cases x with
  |false=>exact h2
  |true=>exact h1 rfl
 have ofn:∀n:Nat,(Int.ofNat n:Int)=(n:Int):=fun _=>rfl;have ble:∀ {a b:Nat},Nat.ble a b=decide ((a:Int)<=(b:Int)):=by
  intro a b;cases h:Nat.ble a b with
  |true=>have:=iI h;symm;simp;omega
  |false=>
   symm;simp;have:¬a<=b:=fun hh=>by rw[Nat.ble_eq_true_of_le hh] at h;cases h
   omega
 have beq:∀ {a b:Nat},Nat.beq a b=((a:Int)==(b:Int)):=by
  intro a b;by_cases h:a=b
  .subst h;simp
  have h1:Nat.beq a b=false:=by
   cases e:Nat.beq a b with
   |false=>rfl
   |true=>exact(h (xF e)).elim
  rw[h1];symm;simp;omega
 cases op
 case add=>refine hb (fun h=>?_) rfl;have h:a+b<=9223372036854775807:=iI h;have:((a:Int)+(b:Int))=((a+b:Nat):Int):=aa;simp only[rU,uA,true_or,if_true,nE,ofn];rw[this,PC h];rfl
 case sub=>refine hb (fun h0=>hb (fun h=>?_) rfl) rfl;have h:=iI h;have h0:=iI h0;have:((a:Int)-(b:Int))=((a-b:Nat):Int):=aa;simp only[rU,uA,true_or,if_true,nE,ofn];rw[this,PC aa];rfl
 case mul=>refine hb (fun h=>?_) rfl;have h:a*b<=9223372036854775807:=iI h;have:((a:Int)*(b:Int))=((a*b:Nat):Int):=af;simp only[rU,uA,true_or,if_true,nE,ofn];rw[this,PC h];rfl
 case rem=>
  by_cases h0:b=0
  .subst h0;rfl
  have h1:Nat.beq b 0=false:=by
   cases e:Nat.beq b 0 with
   |false=>rfl
   |true=>exact(h0 (xF e)).elim
  have h2:¬(b:Int)=0:=aa;simp only[Dv,h1,cond_false,rU,uA,true_or,if_true,nE,ofn,aC h2];rfl
 case eql=>simp only[Dv,rU,uA,true_or,if_true,nE,ofn,beq]
 case neq=>simp only[Dv,rU,uA,true_or,if_true,nE,ofn,beq];rfl
 case lss=>simp only[Dv,rU,uA,true_or,if_true,nE,ofn,ble];congr 4
 case leq=>simp only[Dv,rU,uA,true_or,if_true,nE,ofn,ble]
 case gtr=>simp only[Dv,rU,uA,true_or,if_true,nE,ofn,ble];congr 4
 case geq=>simp only[Dv,rU,uA,true_or,if_true,nE,ofn,ble]
 all_goals rfl
theorem aks(op:BinOp)(x y:V):Wj op x y=rU op x y:=by
 unfold Wj;split
 .exact amE _ _ _
 rfl
def C0(v:V):w_:=
 match v with
 | .one (.p (.int _ (.ofNat n)))=>some n
 |v=>qC v
theorem aaR(v:V):C0 v=qC v:=by
 unfold C0;split
 .simp[qC]
 rfl
def Jk(ak:Env)(d:Nat):Option aX->w_
 |none=>some d
 |some a=>C0 (ev ak a)
theorem akt(ak:Env)(d:Nat)(a:Option aX):Jk ak d a=sL ak d a:=by
 cases a with
 |none=>rfl
 |some a=>simp only[Jk,sL,aaR]
def arY(ak:Env)(x:aX):fP:=.done (ev ak x) [] []
def ar2(ak:Env)(c:aX)(a:aX)(b:aX):fP:=match ev ak c with
  | .one (.p (.bool t))=>.done (if t then ev ak a else ev ak b) [] []
  |_=>.fail
def arB(aj:aE)(s:Nat)(z:b_):fP:=.done (.one (.bt s ((aj s).1+1) 0)) [(s,((aj s).1+1,some (.var (z.map .p))))] [s]
def arE(ak:Env)(aj:aE)(s:Nat)(x:aX):fP:=match sN (ev ak x) with
  |some cs=>.done (.one (.bt s ((aj s).1+1) 0)) [(s,((aj s).1+1,some (.var cs)))] [s]
  |none=>.fail
def arH(ak:Env)(z:b_)(ps:List (Nat×Nat×aX)):fP:=match zS ak ps with
  |some q=>.done (.agg (fill (z.map .p) q)) [] []
  |none=>.fail
def arF(ak:Env)(aj:aE)(s:Nat)(ty:Nat)(sz:Nat)(ps:o_):fP:=match AO ak sz ps with
  |some es=>match CK es with
   |some qs=>.done (.one (.hsl s ((aj s).1+1) sz 0 es.length)) [(s,((aj s).1+1,some (.arr ty sz qs)))] [s]
   |none=>.done (.one (.hsl s ((aj s).1+1) sz 0 es.length)) [(s,((aj s).1+1,some (.jg ty sz es)))] [s]
  |none=>.fail
def arR(ak:Env)(aj:aE)(k:w_)(x:aX):fP:=match CB aj (ev ak x) with
  |some (cs,r)=>match qZ k cs with
   |some v=>.done v [] r
   |none=>.fail
  |none=>.fail
def ar5(ak:Env)(aj:aE)(n:Nat)(a:aX)(x:aX):fP:=match sN (ev ak x) with
  |some xs=>Bq aj (ev ak a) n xs
  |none=>.fail
def ar0(ak:Env)(x:aX):fP:=match ev ak x with
  | .one (.bt id g o)=>.done (.one (.bt id g o)) [] []
  | .one (.dy id g i o)=>.done (.one (.dy id g i o)) [] []
  | .one (.p (.box cs))=>.done (.one (.p (.box cs))) [] []
  | .one (.hfn f a b)=>.done (.one (.hfn f a b)) [] []
  | .one (.p (.fn f a b))=>.done (.one (.p (.fn f a b))) [] []
  |_=>.fail
def agT(ak:Env)(op:BinOp)(x:aX)(y:aX):fP:=match Wj op (ev ak x) (ev ak y) with
  |some v=>.done v [] []
  |none=>.fail
def arM(ak:Env)(k:v7)(neg:Bool)(x:aX)(y:aX):fP:=match Du k (ev ak x) (ev ak y) with
  |some b=>.done (.one (.p (.bool (if neg then !b else b)))) [] []
  |none=>.fail
def ar6(ak:Env)(op:UnOp)(x:aX):fP:=match op,ev ak x with
  | .not,.one (.p (.bool b))=>.done (.one (.p (.bool (!b)))) [] []
  | .neg,.one (.p (.int k n))=>.done (.one (.p (.int k (k.wrap (0-n))))) [] []
  |_,_=>.fail
def arK(ak:Env)(k:IntKind)(x:aX):fP:=match ev ak x with
  | .one (.p (.int _ n))=>.done (.one (.p (.int k (k.wrap n)))) [] []
  |_=>.fail
def arG(ak:Env)(aj:aE)(x:aX):fP:=match gb aj (ev ak x) with
  |some (es,r,[])=>match bytesOf es with
   |some bs=>.done (.one (.p (.str ⟨bs.toArray⟩))) [] r
   |none=>.fail
  |_=>.fail
def arV(ak:Env)(f:Nat)(a:o_)(b:o_):fP:=match xg ak a,xg ak b with
  |some x,some y=>.done (.one (.hfn f x y)) [] []
  |_,_=>.fail
def arW(aj:aE)(s:Nat)(ag:Bool):fP:=.done (.one (.kE s ((aj s).1+1))) [(s,((aj s).1+1,some (.map ag [])))] [s]
def agV(ak:Env)(aj:aE)(s:Nat)(ty:Nat)(sz:Nat)(bytes:Nat)(z:b_)(l:aX)(c:aX):fP:=match C0 (ev ak l),C0 (ev ak c) with
  |some n,some m=>if n=m/\n*bytes<=room then
    .done (.one (.hsl s ((aj s).1+1) sz 0 n)) [(s,((aj s).1+1,some (.arr ty sz (List.replicate n z))))] [s]
   else .fail
  |_,_=>.fail
def agX(ak:Env)(sz:Nat)(x:aX)(lo:Option aX)(hi:Option aX):fP:=match zN (ev ak x) with
  |some n=>match Jk ak 0 lo,Jk ak n hi with
   |some l,some h=>Em (ev ak x) sz l h
   |_,_=>.fail
  |none=>.fail
def agY(ak:Env)(x:aX)(lo:Option aX)(hi:Option aX):fP:=match ev ak x with
  | .one (.p (.str s))=>match Jk ak 0 lo,Jk ak s.size hi with
   |some l,some h=>if l<=h/\h<=s.size then .done (.one (.p (.str (s.extract l h)))) [] [] else .fail
   |_,_=>.fail
  |_=>.fail
def arO(ak:Env)(off:Nat)(x:aX):fP:=match ev ak x with
  | .one (.bt id g o)=>.done (.one (.bt id g (o+off))) [] []
  | .one (.dy id g i o)=>.done (.one (.dy id g i (o+off))) [] []
  | .one (.p (.box cs))=>.done (.one (.p (.box (cs.drop off)))) [] []
  |_=>.fail
def agU(ak:Env)(sz:Nat)(x:aX)(i:aX):fP:=match C0 (ev ak i),ev ak x with
  |some n,.one (.p (.sl es))=>match es[n]? with
   |some e=>if e.length=sz then .done (.one (.p (.box e))) [] [] else .fail
   |none=>.fail
  |some n,.one (.hsl id g z off len)=>if n<len/\z=sz then .done (.one (.dy id g (off+n) 0)) [] [] else .fail
  |_,_=>.fail
def agR(ak:Env)(len:Nat)(sz:Nat)(x:aX)(i:aX):fP:=match C0 (ev ak i),ev ak x with
  |some n,.one (.bt id g o)=>if n<len then .done (.one (.bt id g (o+n*sz))) [] [] else .fail
  |some n,.one (.dy id g j o)=>if n<len then .done (.one (.dy id g j (o+n*sz))) [] [] else .fail
  |some n,.one (.p (.box cs))=>if n<len then .done (.one (.p (.box (cs.drop (n*sz))))) [] [] else .fail
  |_,_=>.fail
def arP(ak:Env)(off:Nat)(k:w_)(x:aX):fP:=match ev ak x with
  | .agg cs=>match qZ k (cs.drop off) with
   |some v=>.done v [] []
   |none=>.fail
  |_=>.fail
def agS(ak:Env)(len:Nat)(sz:Nat)(k:w_)(x:aX)(i:aX):fP:=match C0 (ev ak i),ev ak x with
  |some n,.agg cs=>if n<len then
    match qZ k (cs.drop (n*sz)) with
    |some v=>.done v [] []
    |none=>.fail
   else .fail
  |_,_=>.fail
def agW(ak:Env)(x:aX)(i:aX):fP:=match C0 (ev ak i),ev ak x with
  |some n,.one (.p (.str s))=>match s[n]? with
   |some b=>.done (.one (.p (.int .u8 b.toNat))) [] []
   |none=>.fail
  |_,_=>.fail
def arS(ak:Env)(aj:aE)(kd:Nat)(z:b_)(agg:Bool)(ok:Bool)(x:aX)(k:aX):fP:=match mapOf aj agg (ev ak x),ev ak k with
  |some (es,r),.one (.p q)=>if iK q≠kd then .fail else match qG q es 0 with
   |some f=>match mapVal agg ((f.map (·.2)).getD z) with
    |some w=>.done (if ok then .tup [w,.one (.p (.bool f.isSome))] else w) [] r
    |none=>.fail
   |none=>.fail
  |_,_=>.fail
def arD:fP:=.fail
def arZ(ak:Env)(aj:aE)(kd:Nat)(ag:Bool)(m:aX)(k:aX)(v:aX):fP:=match ev ak m,ev ak k,sM ag (ev ak v) with
  | .one (.kE id g),.one (.p q),some cs=>match aj id,CJ cs with
   |(g',some (.map sK es)),some ps=>if g'=g/\sK=ag/\iK q=kd then
     match qG q es 0 with
     |some (some (i,_))=>.done .undef [(id,(g,some (.map ag (es.set i (q,ps)))))] [id]
     |some none=>.done .undef [(id,(g,some (.map ag (es++[(q,ps)]))))] [id]
     |none=>.fail
    else .fail
   |_,_=>.fail
  |_,_,_=>.fail
def arN(ak:Env)(x:aX)(i:Nat):fP:=match ev ak x with
  | .tup vs=>match vs[i]? with
   |some v=>.done v [] []
   |none=>.fail
  |_=>.fail
def arI(shared:Nat->Bool)(ak:Env)(aj:aE)(s:Nat)(f:aX)(as:o_):fP:=match Fl ak f with
  |some (g,a,b)=>
   if shared g then .sc g (a.map .one++as.map (ev ak)++b.map .one)
   else match CI aj (a.map .one++as.map (ev ak)++b.map .one) with
    |some (vs,r)=>.pc g vs r s
    |none=>.fail
  |none=>.fail
def ar4(ak:Env)(x:aX):fP:=match ev ak x with
  | .one (.p (.str s))=>.done (.one (.p (.int .i64 s.size))) [] []
  |_=>.fail
def arQ(ak:Env)(x:aX):fP:=match zN (ev ak x) with
  |some n=>.done (.one (.p (.int .i64 n))) [] []
  |none=>.fail
def arX(ak:Env)(aj:aE)(x:aX):fP:=match rM aj (ev ak x) with
  |some (n,r)=>.done (.one (.p (.int .i64 n))) [] r
  |none=>.fail
def arC(ak:Env)(aj:aE)(s:Nat)(ty:Nat)(sz:Nat)(bytes:Nat)(d:aX)(x:aX):fP:=au aj s ty sz bytes (ev ak d) (ev ak x)
def arT(ak:Env)(x:aX)(y:aX):fP:=match ev ak x,ev ak y with
  | .one (.p (.int k a)),.one (.p (.int _ b))=>.done (.one (.p (.int k (if b>a then b else a)))) [] []
  |_,_=>.fail
def arU(ak:Env)(x:aX)(y:aX):fP:=match ev ak x,ev ak y with
  | .one (.p (.int k a)),.one (.p (.int _ b))=>.done (.one (.p (.int k (if b<a then b else a)))) [] []
  |_,_=>.fail
def arJ(ak:Env)(aj:aE)(z:b_)(x:aX):fP:=match ev ak x with
  | .one (.p .nils)=>.done (.tup []) [] []
  | .one (.p (.sl []))=>.done (.tup []) [] []
  | .one (.hsl id g _ off len)=>if len=0 then .done (.tup []) [] [] else match aj id with
   |(g',some (.arr ty sz es))=>if g'=g/\sz=z.length/\off+len<=es.length then .done (.tup []) [(id,(g,some (.arr ty sz (ft es off (List.replicate len z)))))] [id] else .fail
   |_=>.fail
  |_=>.fail
def Zn(shared:Nat->Bool)(ak:Env)(aj:aE):oz->fP
 | .zQ x=>arY ak x
 | .pick c a b=>ar2 ak c a b
 | .alloc s z=>arB aj s z
 | .box s x=>arE ak aj s x
 | .build z ps=>arH ak z ps
 | .EY s ty sz ps=>arF ak aj s ty sz ps
 | .load k x=>arR ak aj k x
 | .store n a x=>ar5 ak aj n a x
 | .K9 x=>ar0 ak x
 | .bin op x y=>agT ak op x y
 | .eqc k neg x y=>arM ak k neg x y
 | .un op x=>ar6 ak op x
 | .conv k x=>arK ak k x
 | .bstr x=>arG ak aj x
 | .mkfn f a b=>arV ak f a b
 | .mkmap s ag=>arW aj s ag
 | .KY s ty sz bytes z l c=>agV ak aj s ty sz bytes z l c
 | .slice sz x lo hi=>agX ak sz x lo hi
 | .sslice x lo hi=>agY ak x lo hi
 | .G9 off x=>arO ak off x
 | .HO sz x i=>agU ak sz x i
 | .IY len sz x i=>agR ak len sz x i
 | .fld off k x=>arP ak off k x
 | .aidx len sz k x i=>agS ak len sz k x i
 | .sidx x i=>agW ak x i
 | .lookup kd z agg ok x k=>arS ak aj kd z agg ok x k
 | .bad=>arD
 | .mupd kd ag m k v=>arZ ak aj kd ag m k v
 | .extract x i=>arN ak x i
 | .call s f as=>arI shared ak aj s f as
 | .slen x=>ar4 ak x
 | .KW x=>arQ ak x
 | .mlen x=>arX ak aj x
 | .append s ty sz bytes d x=>arC ak aj s ty sz bytes d x
 | .max x y=>arT ak x y
 | .min x y=>arU ak x y
 | .clear z x=>arJ ak aj z x
theorem arA(shared:Nat->Bool)(ak:Env)(aj:aE)(o:oz):Zn shared ak aj o=bU shared ak aj o:=by
 cases o<;>first
  |rfl
  |simp only[Zn,bU,agT,agV,agX,agY,agU,agR,agS,agW,aks,aaR,akt]<;>rfl
inductive Tr where
 |leaf
 |node (v:V) (l r:Tr)
noncomputable def Tr.get (t:Tr):Nat->V:=Tr.rec (motive:=fun _=>Nat->V) (fun _=>.undef) (fun v _ _ gl gr n=>bif Nat.beq n 0 then v else bif Nat.beq (Nat.mod n 2) 1 then gl (Nat.div n 2) else gr (Nat.sub (Nat.div n 2) 1)) t
noncomputable def Tr.single (k:Nat):Nat->V->Tr:=Nat.rec (motive:=fun _=>Nat->V->Tr) (fun _ _=>.leaf) (fun _ ih n x=>bif Nat.beq n 0 then .node x .leaf .leaf else bif Nat.beq (Nat.mod n 2) 1 then .node .undef (ih (Nat.div n 2) x) .leaf else .node .undef .leaf (ih (Nat.sub (Nat.div n 2) 1) x)) k
noncomputable def Tr.set (t:Tr):Nat->V->Tr:=Tr.rec (motive:=fun _=>Nat->V->Tr) (fun n x=>Tr.single 12 n x) (fun v l r sl sr n x=>bif Nat.beq n 0 then .node x l r else bif Nat.beq (Nat.mod n 2) 1 then .node v (sl (Nat.div n 2) x) r else .node v l (sr (Nat.sub (Nat.div n 2) 1) x)) t
theorem F3{a b:Nat}(h:a≠b):Nat.beq a b=false:=by
 cases e:Nat.beq a b with
 |false=>rfl
 |true=>exact(h (xF e)).elim
theorem anp(n:Nat):Tr.leaf.get n=.undef:=rfl
theorem TH(v:V)(l r:Tr)(n:Nat):(Tr.node v l r).get n=if n=0 then v else if n%2=1 then l.get (n/2) else r.get (n/2-1):=by
 show(bif Nat.beq n 0 then v else bif Nat.beq (n%2) 1 then l.get (n/2) else r.get (n/2-1))=_;by_cases h0:n=0
 .subst h0;rfl
 rw[F3 h0,aC h0];by_cases h1:n%2=1
 .rw[h1];rfl
 rw[F3 h1,aC h1];rfl
theorem ah7(f:Tr->Tr)(g:Tr->Tr)(v:V)(l r:Tr)(n m:Nat)(x:V)(hl:n%2=1->(f l).get (m/2)=if m/2=n/2 then x else l.get (m/2))(hr:n≠0->n%2≠1->(g r).get (m/2-1)=if m/2-1=n/2-1 then x else r.get (m/2-1)):
  (bif Nat.beq n 0 then Tr.node x l r else bif Nat.beq (n%2) 1 then .node v (f l) r else .node v l (g r)).get m=if m=n then x else (Tr.node v l r).get m:=by
 by_cases h0:n=0
 .subst h0;simp only[Nat.beq_refl,cond_true,TH];by_cases hm:m=0<;>simp[hm]
 rw[F3 h0];by_cases h1:n%2=1
 .rw[h1];simp only[cond_false,Nat.beq_refl,cond_true,TH];by_cases hm:m=0
  .subst hm;rw[aG rfl,aC (fun e=>h0 e.symm),aG rfl]
  rw[aC hm];by_cases pW:m%2=1
  .rw[aG pW,hl h1];by_cases he:m=n
   .subst he;simp
   rw[aC he,aC aa,aC hm,aG pW]
  rw[aC pW,aC aa,aC hm,aC pW]
 rw[F3 h1];simp only[cond_false,TH];by_cases hm:m=0
 .subst hm;rw[aG rfl,aC (fun e=>h0 e.symm),aG rfl]
 rw[aC hm];by_cases pW:m%2=1
 .rw[aG pW,aC aa,aC hm,aG pW]
 rw[aC pW,hr h0 h1];by_cases he:m=n
 .subst he;simp
 rw[aC he,aC aa,aC hm,aC pW]
theorem atQ:∀(k n m:Nat) (x:V),n+1<2 ^ k->(Tr.single k n x).get m=if m=n then x else Tr.leaf.get m:=by
 intro k
 induction k with
 |zero=>intro n m x h;simp at h
 |succ k ih=>
  intro n m x h;have hp:2 ^ (k+1)=2*2 ^ k:=by rw[Nat.pow_succ];omega
  have:=ah7 (fun _=>Tr.single k (n/2) x) (fun _=>Tr.single k (n/2-1) x) .undef .leaf .leaf n m x (fun _=>ih _ _ _ aa) (fun _ _=>ih _ _ _ aa);have e:(Tr.node .undef .leaf .leaf).get m=Tr.leaf.get m:=by rw[TH];simp[anp]
  rw[e] at this;exact this
theorem Tr.adv:∀(t:Tr) (n m:Nat) (x:V),n+1<2 ^ 12->(t.set n x).get m=if m=n then x else t.get m:=by
 intro t
 induction t with
 |leaf=>intro n m x h;exact atQ 12 n m x h
 |node v l r ihl ihr=>intro n m x h;exact ah7 (fun l=>l.set (n/2) x) (fun r=>r.set (n/2-1) x) v l r n m x (fun _=>ihl _ _ _ aa) (fun _ _=>ihr _ _ _ aa)
abbrev BL:=List (Nat×(Nat×Option Ob))
noncomputable def Dx (b:BL) (n:Nat):Nat×Option Ob:=List.rec (motive:=fun _=>Nat×Option Ob) (0,none) (fun p _ ih=>bif Nat.beq p.1 n then p.2 else ih) b
noncomputable def Pl:BL->Nat->Nat×Option Ob->BL
 |[],n,x=>[(n,x)]
 |(i,o)::r,n,x=>bif Nat.beq i n then (i,x)::r else (i,o)::Pl r n x
theorem ann:∀(b:BL) (n:Nat) (x:Nat×Option Ob) (m:Nat),Dx (Pl b n x) m=if m=n then x else Dx b m:=by
 intro b
 induction b with
 |nil=>
  intro n x m;simp only[Pl,Dx];by_cases h:m=n
  .subst h;simp
  have:Nat.beq n m=false:=F3 fun e=>h e.symm;simp[this,h]
 |cons p b ih=>
  obtain⟨i,o⟩:=p;intro n x m;simp only[Pl];by_cases h:i=n
  .subst h;simp only[Nat.beq_refl,cond_true,Dx];by_cases hm:m=i
   .subst hm;simp
   have:Nat.beq i m=false:=F3 fun e=>hm e.symm;simp[this,hm]
  have:Nat.beq i n=false:=F3 h;simp only[this,cond_false,Dx];by_cases hm:i=m
  .subst hm;simp[h]
  have:Nat.beq i m=false:=F3 hm;simp only[this,cond_false];exact ih n x m
noncomputable def qY (t:Tr):Env:=fun i=>t.get i
noncomputable def lB (b:BL):aE:=fun i=>Dx b i
noncomputable def LI:Nat->e_->Tr->Tr
 |_,[],t=>t
 |i,a::r,t=>LI (i+1) r (t.set i a)
theorem au0:∀(l:e_) (i:Nat) (t:Tr) (m:Nat),i+l.length<4095->(LI i l t).get m=if i<=m/\m<i+l.length then l.getD (m-i) .undef else t.get m:=by
 intro l
 induction l with
 |nil=>intro i t m _;simp[LI];intro h1 h2;omega
 |cons a r ih=>
  intro i t m h;simp only[dL] at h |-;rw[LI,ih (i+1) _ m aa,Tr.adv t i m a aa];by_cases h1:m=i
  .subst h1;rw[aC aa,aG rfl,aG aa];simp
  rw[aC h1];by_cases h2:i+1<=m/\m<i+1+r.length
  .rw[aG h2,aG aa];obtain⟨k,rfl⟩:∃k,m=i+1+k:=⟨m-(i+1),aa⟩;rw[show i+1+k-(i+1)=k by omega,show i+1+k-i=k+1 by omega];simp
  rw[aC h2,aC aa]
theorem auV(h:args.length<4095):qY (LI 0 args .leaf)=tA args:=by
 funext m;unfold qY tA;rw[au0 args 0 .leaf m aa];by_cases hm:m<args.length
 .rw[aG aa];rfl
 rw[aC aa];simp[Tr.get,List.getD,nZ (Nat.le_of_not_lt hm)]
noncomputable def aaa {α:Type} (n:Nat) (k:Nat->α):α:=match n with
 |0=>k 0
 |m+1=>k (m+1)
noncomputable def Z9 {α:Type} (z:Int) (k:Int->α):α:=match z with
 | .ofNat n=>aaa n fun n=>k (.ofNat n)
 | .negSucc n=>aaa n fun n=>k (.negSucc n)
noncomputable def aab {α:Type} (v:V) (k:V->α):α:=match v with
 | .one (.p (.int t z))=>Z9 z fun z=>k (.one (.p (.int t z)))
 | .one (.p (.bool b))=>match b with
  |true=>k (.one (.p (.bool true)))
  |false=>k (.one (.p (.bool false)))
 |v=>k v
@[simp] theorem avK {α:Type} (n:Nat) (k:Nat->α):aaa n k=k n:=by cases n<;>rfl
@[simp] theorem avJ {α:Type} (z:Int) (k:Int->α):Z9 z k=k z:=by cases z<;>simp[Z9]
@[simp] theorem avA {α:Type} (v:V) (k:V->α):aab v k=k v:=by
 unfold aab;split
 .simp
 .split<;>rfl
 rfl
def UA(al:Al)(l:a_):Bool:=bif al.any then true else al.fT l
theorem aqR(al:Al)(l:a_):UA al l=al.fT l:=by
 unfold UA;cases h:al.any with
 |false=>rfl
 |true=>simp[Al.fT,Al.ok,h]
abbrev qB:=Nat->e_->Al->BL->Option (V×BL)
noncomputable def GB:k_->BL->BL
 |[],b=>b
 |(i,o)::r,b=>GB r (Pl b i o)
theorem ZU:∀(u:k_) (b:BL),lB (GB u b)=app u (lB b):=by
 intro u
 induction u with
 |nil=>intro b;rfl
 |cons x u ih=>obtain⟨i,o⟩:=x;intro b;simp only[GB,app];rw[ih];congr 1;funext m;exact ann b i o m
noncomputable def Ll (t:Tr) (d:w_) (v:V) (k:Tr->Option (Tr×BL×cM)):Option (Tr×BL×cM):=match d with
 |none=>k t
 |some n=>bif Nat.ble n 4000 then aab v fun v=>k (t.set n v) else none
noncomputable def Vo (sh:Ctx) (cp:gU) (cs:qB) (o:cq) (t:Tr) (b:BL):Option (Tr×BL×cM):=
 match wanted (qY t) o.guard with
 |none=>none
 |some false=>Ll t o.dst .undef fun t'=>some (t',b,⟨[],[],[]⟩)
 |some true=>match Zn sh.shared (qY t) (lB b) o.op with
  | .fail=>none
  | .done v u r=>bif UA sh.al (r++u.map (·.1)) then Ll t o.dst v fun t'=>some (t',GB u b,⟨r,u.map (·.1),[]⟩) else none
  | .pc f vs r s=>match cp f vs with
   |some x=>match land (lB b) r s (x.iu (sh.lone s)) with
    |some (v,u)=>bif UA sh.al (r++u.map (·.1)) then Ll t o.dst v fun t'=>some (t',GB u b,⟨r++u.map (·.1),u.map (·.1),[]⟩) else none
    |none=>none
   |none=>none
  | .sc f vs=>match allow sh f vs (lB b) with
   |al=>bif sh.al.holds al then
     match cs f vs al b with
     |some (v,b')=>Ll t o.dst v fun t'=>some (t',b',⟨al.ids,al.ids,al.fs⟩)
     |none=>none
    else none
noncomputable def IV (cs:kr) (cf:qB):Prop:=∀f vs al b v b',cf f vs al b=some (v,b')->cs f vs al (lB b)=some (v,lB b')
theorem UP{t t':Tr}{d:w_}{v:V}{b b':BL}{e e':cM}(h:Ll t d v (fun t'=>some (t',b,e))=some (t',b',e')):put (qY t) d v=qY t'/\b=b'/\e=e':=by
 unfold Ll at h;split at h
 .cases h;exact⟨rfl,rfl,rfl⟩
 rename_i n;cases hn:Nat.ble n 4000 with
 |false=>rw[hn] at h;cases h
 |true=>rw[hn] at h;simp only[cond_true,avA] at h;cases h;refine⟨?_,rfl,rfl⟩;have:=iI hn;funext m;unfold qY put;exact(Tr.adv t n m v aa).symm
theorem aus{cf:qB}(hs:IV cs cf){o:cq}{t t':Tr}{b b':BL}{e:cM}(h:Vo sh cp cf o t b=some (t',b',e)):step1 sh cp cs o (qY t) (lB b)=some (qY t',lB b',e):=by
 unfold Vo at h;simp only[arA,aqR] at h;unfold step1;split at h
 .cases h
 .rename_i hw;rw[hw];obtain⟨h1,rfl,rfl⟩:=UP h;simp only[h1]
 rename_i hw;rw[hw];simp only;split at h
 .cases h
 .rename_i v u r hp;cases ay:sh.al.fT (r++u.map (·.1)) with
  |false=>rw[ay] at h;cases h
  |true=>rw[ay] at h;obtain⟨h1,rfl,rfl⟩:=UP h;simp only[hp,ay,if_true,h1,ZU]
 .rename_i f vs r s hp;split at h
  .rename_i x hx;split at h
   .rename_i v u hl;cases ay:sh.al.fT (r++u.map (·.1)) with
    |false=>rw[ay] at h;cases h
    |true=>rw[ay] at h;obtain⟨h1,rfl,rfl⟩:=UP h;simp only[hp,hx,hl,ay,if_true,h1,ZU]
   cases h
  cases h
 rename_i f vs hp;cases ay:sh.al.holds (allow sh f vs (lB b)) with
 |false=>rw[ay] at h;cases h
 |true=>
  rw[ay] at h;simp only[cond_true] at h;split at h
  .rename_i v b1 hc;obtain⟨h1,rfl,rfl⟩:=UP h;simp only[hp,ay,if_true,hs _ _ _ _ _ _ hc,h1]
  cases h
noncomputable def aut (sh:Ctx) (cp:gU) (cs:qB) (o:cq) (ih:Tr->BL->Option (Tr×BL×i_)) (ak:Tr) (aj:BL):Option (Tr×BL×i_):=
 match Vo sh cp cs o ak aj with
 |some (aH,ao,e)=>match ih aH ao with
  |some (MP,Ji,es)=>some (MP,Ji,e::es)
  |none=>none
 |none=>none
noncomputable def Lz (sh:Ctx) (cp:gU) (cs:qB) (l:g_):Tr->BL->Option (Tr×BL×i_):=List.rec (motive:=fun _=>Tr->BL->Option (Tr×BL×i_)) (fun ak aj=>some (ak,aj,[])) (fun o _ ih=>aut sh cp cs o ih) l
theorem auv(sh:Ctx)(cp:gU)(cs:qB)(ak:Tr)(aj:BL):Lz sh cp cs [] ak aj=some (ak,aj,[]):=rfl
theorem auu(sh:Ctx)(cp:gU)(cs:qB)(o:cq)(r:g_)(ak:Tr)(aj:BL):Lz sh cp cs (o::r) ak aj=match Vo sh cp cs o ak aj with
  |some (aH,ao,e)=>match Lz sh cp cs r aH ao with
   |some (MP,Ji,es)=>some (MP,Ji,e::es)
   |none=>none
  |none=>none:=rfl
theorem auw{cf:qB}(hs:IV cs cf):∀ {ops:g_} {t t':Tr} {b b':BL} {es:i_},Lz sh cp cf ops t b=some (t',b',es)->steps sh cp cs ops (qY t) (lB b)=some (qY t',lB b',es):=by
 intro ops
 induction ops with
 |nil=>intro t t' b b' es h;simp only[auv,gn,lE] at h;obtain⟨rfl,rfl,rfl⟩:=h;rfl
 |cons o r ih=>
  intro t t' b b' es h;simp only[auu] at h;split at h
  .rename_i t1 b1 e1 h1;split at h
   .rename_i t2 b2 es2 h2;cases h;simp only[steps,aus hs h1,ih h2]
   cases h
  cases h
noncomputable def OT (f:Tr->BL->Option (nG×Tr×BL)) (n:Nat):Tr->BL->Option (nG×Tr×BL):=
 Nat.rec (motive:=fun _=>Tr->BL->Option (nG×Tr×BL)) (fun _ _=>none) (fun _ ih ak aj=>match f ak aj with
  |some (.normal,aH,ao)=>ih aH ao
  |r=>r) n
theorem api(f:Tr->BL->Option (nG×Tr×BL))(n:Nat)(ak:Tr)(aj:BL):OT f (n+1) ak aj=match f ak aj with
  |some (.normal,aH,ao)=>OT f n aH ao
  |r=>r:=rfl
abbrev Ex:=Tr->BL->Option (nG×Tr×BL)
noncomputable def aml (sh:Ctx) (cp:gU) (cs:qB) (d:Bool) (ops:g_):Ex:=fun ak aj=>match Lz sh cp cs ops ak aj with
  |some (aH,ao,es)=>bif d then (bif ui ops [] es then some (.normal,aH,ao) else none) else some (.normal,aH,ao)
  |none=>none
noncomputable def amm (a b:Ex):Ex:=fun ak aj=>match a ak aj with
  |some (.normal,aH,ao)=>b aH ao
  |r=>r
noncomputable def amk (x:aX) (a b:Ex):Ex:=fun ak aj=>match ev (qY ak) x with
  | .one (.p (.bool t))=>bif t then a ak aj else b ak aj
  |_=>none
noncomputable def amj (id:Nat) (c:Ex):Ex:=fun ak aj=>match c ak aj with
  |some (.exit i,aH,ao)=>bif Nat.beq i id then some (.normal,aH,ao) else some (.exit i,aH,ao)
  |r=>r
noncomputable def uE (sh:Ctx) (cp:gU) (cs:qB) (n:Nat) (c:aR):Ex:=
 aR.rec (motive:=fun _=>Ex) (fun ak aj=>some (.normal,ak,aj)) (fun d ops=>aml sh cp cs d ops) (fun _ _ a b=>amm a b) (fun x _ _ a b=>amk x a b)
  (fun id _ c=>amj id c) (fun _ c=>OT c n) (fun id ak aj=>some (.exit id,ak,aj)) (fun ak aj=>some (.ret,ak,aj)) (fun _ _=>none) c
section
variable (sh:Ctx) (cp:gU) (cs:qB) (n:Nat) (ak:Tr) (aj:BL)
theorem amu:uE sh cp cs n .skip ak aj=some (.normal,ak,aj):=rfl
theorem amp(id:Nat):uE sh cp cs n (.exit id) ak aj=some (.exit id,ak,aj):=rfl
theorem ams:uE sh cp cs n .ret ak aj=some (.ret,ak,aj):=rfl
theorem amr(d:Bool)(ops:g_):uE sh cp cs n (.region d ops) ak aj=match Lz sh cp cs ops ak aj with
  |some (aH,ao,es)=>bif d then (bif ui ops [] es then some (.normal,aH,ao) else none) else some (.normal,aH,ao)
  |none=>none:=rfl
theorem amt(a b:aR):uE sh cp cs n (.seq a b) ak aj=match uE sh cp cs n a ak aj with
  |some (.normal,aH,ao)=>uE sh cp cs n b aH ao
  |r=>r:=rfl
theorem amo(x:aX)(a b:aR):uE sh cp cs n (.cond x a b) ak aj=match ev (qY ak) x with
  | .one (.p (.bool t))=>bif t then uE sh cp cs n a ak aj else uE sh cp cs n b ak aj
  |_=>none:=rfl
theorem amn(id:Nat)(c:aR):uE sh cp cs n (.block id c) ak aj=match uE sh cp cs n c ak aj with
  |some (.exit i,aH,ao)=>bif Nat.beq i id then some (.normal,aH,ao) else some (.exit i,aH,ao)
  |r=>r:=rfl
theorem amq(c:aR):uE sh cp cs n (.loop c) ak aj=OT (uE sh cp cs n c) n ak aj:=rfl
end
theorem aph{f:Tr->BL->Option (nG×Tr×BL)}{g:Env->aE->Option (nG×Env×aE)}(Ht:∀t b e t' b',f t b=some (e,t',b')->g (qY t) (lB b)=some (e,qY t',lB b')):
  ∀(n:Nat) {t t':Tr} {b b':BL} {e:nG},OT f n t b=some (e,t',b')->iter g n (qY t) (lB b)=some (e,qY t',lB b'):=by
 intro n
 induction n with
 |zero=>intro t t' b b' e h;cases h
 |succ n ih=>
  intro t t' b b' e h;simp only[api] at h;simp only[iter];split at h
  .rename_i t1 b1 h1;rw[Ht _ _ _ _ _ h1];exact ih h
  rename_i aK;rw[Ht _ _ _ _ _ h];cases e with
  |normal=>exact(aK _ _ h).elim
  |exit i=>rfl
  |ret=>rfl
theorem acx{cf:qB}(hs:IV cs cf){n:Nat}:∀(c:aR) {t t':Tr} {b b':BL} {e:nG},uE sh cp cf n c t b=some (e,t',b')->exec sh cp cs n c (qY t) (lB b)=some (e,qY t',lB b'):=by
 intro c
 induction c with
 |skip=>intro t t' b b' e h;simp only[amu,gn,lE] at h;obtain⟨rfl,rfl,rfl⟩:=h;rfl
 |exit id=>intro t t' b b' e h;simp only[amp,gn,lE] at h;obtain⟨rfl,rfl,rfl⟩:=h;rfl
 |ret=>intro t t' b b' e h;simp only[ams,gn,lE] at h;obtain⟨rfl,rfl,rfl⟩:=h;rfl
 |bad=>intro t t' b b' e h;cases h
 |region d ops=>
  intro t t' b b' e h;simp only[amr] at h;simp only[exec];split at h
  .rename_i t1 b1 es h1;rw[auw hs h1];simp only;cases d with
   |false=>simp only[cond_false] at h;cases h;simp
   |true=>
    simp only[cond_true] at h;cases hd:ui ops [] es with
    |false=>rw[hd] at h;cases h
    |true=>rw[hd] at h;simp only[cond_true] at h;cases h;simp
  cases h
 |seq x y ihx ihy=>
  intro t t' b b' e h;simp only[amt] at h;simp only[exec];split at h
  .rename_i t1 b1 h1;rw[ihx h1];exact ihy h
  rename_i aK;rw[ihx h];cases e with
  |normal=>exact(aK _ _ h).elim
  |exit i=>rfl
  |ret=>rfl
 |cond x p q ihp ihq=>
  intro t t' b b' e h;simp only[amo] at h;simp only[exec];split at h
  .rename_i tt ht;rw[ht];cases tt with
   |true=>simp only[cond_true] at h;simpa using ihp h
   |false=>simp only[cond_false] at h;simpa using ihq h
  cases h
 |block id c ih=>
  intro t t' b b' e h;simp only[amn] at h;simp only[exec];split at h
  .rename_i i t1 b1 h1;rw[ih h1];simp only;cases hi:Nat.beq i id with
   |true=>rw[hi] at h;simp only[cond_true] at h;cases h;rw[aG (xF hi)]
   |false=>rw[hi] at h;simp only[cond_false] at h;cases h;rw[aC];intro hh;rw[hh,Nat.beq_refl] at hi;cases hi
  rename_i aK;rw[ih h];cases e with
  |normal=>rfl
  |exit i=>exact(aK _ _ _ h).elim
  |ret=>rfl
 |loop c ih=>intro t t' b b' e h;simp only[amq] at h;simp only[exec];exact aph (fun _ _ _ _ _ h=>ih h) n h
noncomputable def Is (sh:Ctx) (cp:gU) (cs:qB) (n:Nat) (fn:bG) (args:e_) (aj:BL):Option (V×BL):=
 bif Nat.ble args.length 4000 then
  match uE sh cp cs n fn.body (LI 0 args .leaf) aj with
  |some (.normal,ak,ao)=>(qt sh.al (qY ak) (lB ao) fn.results).map fun vs=>(Bo vs,ao)
  |some (.ret,ak,ao)=>(qt sh.al (qY ak) (lB ao) fn.results).map fun vs=>(Bo vs,ao)
  |_=>none
 else none
theorem asZ{cf:qB}(hs:IV cs cf){n:Nat}{fn:bG}{b b':BL}{v:V}(h:Is sh cp cf n fn args b=some (v,b')):sG sh cp cs n fn args (lB b)=some (v,lB b'):=by
 unfold Is at h;unfold sG;cases hl:Nat.ble args.length 4000 with
 |false=>rw[hl] at h;cases h
 |true=>
  rw[hl] at h;simp only[cond_true] at h;have:=iI hl;rw[<- auV aa];split at h
  .rename_i ak b1 hx;rw[acx hs _ hx];simp only[ef] at h |-;obtain⟨vs,h1,h2⟩:=h;cases h2;exact⟨vs,h1,rfl⟩
  .rename_i ak b1 hx;rw[acx hs _ hx];simp only[ef] at h |-;obtain⟨vs,h1,h2⟩:=h;cases h2;exact⟨vs,h1,rfl⟩
  cases h
noncomputable def akx (S:Sys) (n:Nat) (cp:gU) (cs:qB):gU:=fun f args=>match S.prim f args with
  |some r=>r
  |none=>match S.fns f with
   |some fn=>bif Nat.ble args.length fn.ntmps then
     match Is (S.ctx .all) cp cs n fn args [] with
     |some (v,b)=>j6 (lB b) v
     |none=>none
    else none
   |none=>none
noncomputable def akz (S:Sys) (n:Nat) (cp:gU) (cs:qB):qB:=fun f args al b=>bif S.trig f args then (S.primS f args al (lB b)).map (fun r=>(r.1,GB r.2 b)) else match S.fns f with
  |some fn=>bif Nat.ble args.length fn.ntmps then Is (S.ctx al) cp cs n fn args b else none
  |none=>none
noncomputable def abe (S:Sys) (n:Nat):gU×qB:=Nat.rec (motive:=fun _=>gU×qB) (fun _ _=>none,fun _ _ _ _=>none) (fun n ih=>(akx S n ih.1 ih.2,akz S n ih.1 ih.2)) n
noncomputable def GL (S:Sys) (n:Nat):gU:=(abe S n).1
noncomputable def BB (S:Sys) (n:Nat):qB:=(abe S n).2
theorem aky(S:Sys)(n f:Nat)(args:e_):GL S (n+1) f args=match S.prim f args with
  |some r=>r
  |none=>match S.fns f with
   |some fn=>bif Nat.ble args.length fn.ntmps then
     match Is (S.ctx .all) (GL S n) (BB S n) n fn args [] with
     |some (v,b)=>j6 (lB b) v
     |none=>none
    else none
   |none=>none:=rfl
theorem akA(S:Sys)(n f:Nat)(args:e_)(al:Al)(b:BL):BB S (n+1) f args al b=bif S.trig f args then (S.primS f args al (lB b)).map (fun r=>(r.1,GB r.2 b)) else match S.fns f with
  |some fn=>bif Nat.ble args.length fn.ntmps then Is (S.ctx al) (GL S n) (BB S n) n fn args b else none
  |none=>none:=rfl
theorem ahp{mF:gU}(hp:PLe cp mF){cf:qB}(hs:IV cs cf){n:Nat}{fn:bG}{b b':BL}{v:V}(h:Is sh cp cf n fn args b=some (v,b')):sG sh mF cs n fn args (lB b)=some (v,lB b'):=U4 hp (fun _ _ _ _ _ h=>h) (cD _) (asZ hs h)
theorem Wn(S:Sys):∀n,PLe (GL S n) (ij S n)/\IV (ik S n) (BB S n):=by
 intro n
 induction n with
 |zero=>have h1:∀f x,GL S 0 f x=none:=fun _ _=>rfl;have h2:∀f vs al b,BB S 0 f vs al b=none:=fun _ _ _ _=>rfl;exact⟨fun f x r h=>(by rw[h1] at h;cases h),fun f vs al b v b' h=>(by rw[h2] at h;cases h)⟩
 |succ n ih=>
  obtain⟨hp,hs⟩:=ih;refine⟨fun f x r h=>?_,fun f vs al b v b' h=>?_⟩
  .rw[aky] at h;rw[ij];split at h
   .rename_i r' uN;simp only[uN];exact h
   rename_i uN;simp only[uN];split at h
   .rename_i fn hfn;simp only[hfn];cases hl:Nat.ble x.length fn.ntmps with
    |false=>rw[hl] at h;cases h
    |true=>
     rw[hl] at h;simp only[cond_true] at h;rw[aG (iI hl)];split at h
     .rename_i v b hr;unfold F8;have:xe=lB []:=rfl;rw[this,ahp hp hs hr];exact h
     cases h
   cases h
  rw[akA] at h;rw[ik];cases ht:S.trig f vs with
  |true=>
   rw[ht] at h;simp only[cond_true] at h;rw[aG rfl];cases hp:S.primS f vs al (lB b) with
   |none=>rw[hp] at h;cases h
   |some r=>rw[hp] at h;cases h;rw[nE,ZU]
  |false=>
  rw[ht] at h;simp only[cond_false,dR,if_false] at h |-;split at h
  .rename_i fn hfn;simp only[hfn];cases hl:Nat.ble vs.length fn.ntmps with
   |false=>rw[hl] at h;cases h
   |true=>rw[hl] at h;simp only[cond_true] at h;rw[aG (iI hl)];exact ahp hp hs h
  cases h
def Ar{α:Type}(f:α->α->Bool):List α->List α->Bool
 |[],[]=>true
 |a::r,b::s=>f a b&&Ar f r s
 |_,_=>false
theorem Gy{α:Type}{f:α->α->Bool}(hf:∀a b,f a b=true->a=b):∀ {l m:List α},Ar f l m=true->l=m:=by
 intro l
 induction l with
 |nil=>intro m h;cases m with
  |nil=>rfl
  |cons b m=>cases h
 |cons a l ih=>
  intro m h;cases m with
  |nil=>cases h
  |cons b m=>simp only[Ar,cJ] at h;rw[hf _ _ h.1,ih h.2]
def W1:IntKind->IntKind->Bool
 | .i64,.i64=>true
 |a,b=>decide (a=b)
theorem al9{a b:IntKind}(h:W1 a b=true):a=b:=by
 cases a<;>cases b<;>first
  |rfl
  |(simp[W1] at h)
def GY:Nat->PV->PV->Bool
 |0,_,_=>false
 |_+1,.int k a,.int k' b=>W1 k k'&&a==b
 |_+1,.bool a,.bool b=>a==b
 |n+1,.sl a,.sl b=>Ar (Ar (GY n)) a b
 |n+1,.box a,.box b=>Ar (GY n) a b
 |n+1,.fn f a b,.fn g c d=>Nat.beq f g&&(Ar (GY n) a c&&Ar (GY n) b d)
 |_+1,.nils,.nils=>true
 |_+1,.vK,.vK=>true
 |_+1,_,_=>false
theorem ama:∀(n:Nat) (x y:PV),GY n x y=true->x=y:=by
 intro n
 induction n with
 |zero=>intro x y h;cases h
 |succ n ih=>
  intro x y h;unfold GY at h;split at h
  .rename_i h0;cases h0
  .rename_i h0;cases h0;simp only[cJ,dh] at h;rw[al9 h.1,h.2]
  .rename_i h0;cases h0;simp only[dh] at h;rw[h]
  .rename_i h0;cases h0;rw[Gy (fun _ _ h=>Gy ih h) h]
  .rename_i h0;cases h0;rw[Gy ih h]
  .rename_i h0;cases h0;simp only[cJ] at h;rw[xF h.1,Gy ih h.2.1,Gy ih h.2.2]
  .rfl
  .rfl
  cases h
def Qz:C->C->Bool
 | .p a,.p b=>GY 12 a b
 |_,_=>false
theorem aco{a b:C}(h:Qz a b=true):a=b:=by
 unfold Qz at h;split at h
 .rw[ama _ _ _ h]
 cases h
def QA:V->V->Bool
 | .one a,.one b=>Qz a b
 | .agg a,.agg b=>Ar Qz a b
 |_,_=>false
theorem amc{a b:V}(h:QA a b=true):a=b:=by
 unfold QA at h;split at h
 .rw[aco h]
 .rw[Gy (fun _ _ h=>aco h) h]
 cases h
abbrev jK:=List (Nat×e_×RV)
def OX:jK->Nat->e_->Option RV
 |[],_,_=>none
 |(f,a,r)::l,g,b=>bif Nat.beq f g&&Ar QA a b then some r else OX l g b
theorem ap7:∀ {l:jK} {f:Nat} {a:e_} {r:RV},OX l f a=some r->(f,a,r)∈l:=by
 intro l
 induction l with
 |nil=>intro f a r h;cases h
 |cons e l ih=>
  obtain⟨g,b,s⟩:=e;intro f a r h;simp only[OX] at h;cases hb:(Nat.beq g f&&Ar QA b a) with
  |true=>rw[hb] at h;simp only[cond_true,gn] at h;simp only[cJ] at hb;rw[xF hb.1,Gy (fun _ _ h=>amc h) hb.2,h];simp
  |false=>rw[hb] at h;exact u6 _ (ih h)
def Sys.yA(S:Sys)(l:jK):Sys:={S with prim:=fun f a=>match OX l f a with
 |some r=>some (some r)
 |none=>S.prim f a}
def jz(S:Sys)(l:jK):Prop:=∀e∈l,aO S e.1 e.2.1 e.2.2
theorem jz.nil{S:Sys}:jz S []:=fun e h=>by simp at h
theorem jz.cons{S:Sys}{l:jK}{f:Nat}{a:e_}{r:RV}(h:aO S f a r)(hl:jz S l):jz S ((f,a,r)::l):=fun e he=>by
 rcases ch.1 he with rfl|he
 .exact h
 exact hl e he
theorem jz.bound{S:Sys}:∀ {l:jK},jz S l->∃M,∀e∈l,ij S M e.1 e.2.1=some e.2.2:=by
 intro l
 induction l with
 |nil=>intro _;exact⟨0,fun e h=>by simp at h⟩
 |cons e l ih=>
  intro h;obtain⟨M,hM⟩:=ih fun x hx=>h x (by simp[hx]);obtain⟨n,hn⟩:=h e af;refine⟨max M n,fun x hx=>?_⟩;rcases ch.1 hx with rfl|hx
  .exact EZ S (L9 M n) _ _ _ hn
  exact EZ S (IM M n) _ _ _ (hM x hx)
theorem aqt{S:Sys}{l:jK}{M:Nat}(hM:∀e∈l,ij S M e.1 e.2.1=some e.2.2):∀n,PLe (ij (S.yA l) n) (ij S (n+M))/\SLe (ik (S.yA l) n) (ik S (n+M)):=by
 intro n
 induction n with
 |zero=>exact⟨fun f x r h=>by simp[ij] at h,fun f x l k r h=>by simp[ik] at h⟩
 |succ n ih=>
  have e1:n+1+M=(n+M)+1:=aa;have hc:∀al,(S.yA l).ctx al=S.ctx al:=fun _=>rfl;refine⟨fun f x r h=>?_,fun f x al k r h=>?_⟩
  .rw[ij] at h;cases hl:OX l f x with
   |some r'=>
    have hp:(S.yA l).prim f x=some (some r'):=by simp only[Sys.yA,hl]
    rw[hp] at h;cases h;exact EZ S aa _ _ _ (hM _ (ap7 hl))
   |none=>
    have hp:(S.yA l).prim f x=S.prim f x:=by simp only[Sys.yA,hl]
    rw[hp] at h;rw[e1,ij];split at h
    .exact h
    have hfn:(S.yA l).fns f=S.fns f:=rfl;rw[hfn] at h;split at h
    .rename_i fn hf;split at h
     .rename_i hlen;rw[aG hlen];rw[hc] at h;exact aho ih.1 ih.2 aa h
     cases h
    cases h
  rw[ik] at h;rw[e1,ik];have htr:(S.yA l).trig f x=S.trig f x:=rfl;have dX:(S.yA l).primS f x al k=S.primS f x al k:=rfl;rw[htr,dX] at h;by_cases ht:S.trig f x=true
  .rw[aG ht] at h |-;exact h
  rw[aC ht] at h |-;have hfn:(S.yA l).fns f=S.fns f:=rfl;rw[hfn] at h;split at h
  .rename_i fn hf;split at h
   .rename_i hlen;rw[aG hlen];rw[hc] at h;exact U4 ih.1 ih.2 aa h
   cases h
  cases h
theorem mW{S:Sys}{l:jK}(hl:jz S l)(n:Nat){f:Nat}{r:RV}(h:GL (S.yA l) n f args=some r):aO S f args r:=by obtain⟨M,hM⟩:=hl.bound;exact⟨n+M,(aqt hM n).1 _ _ _ ((Wn (S.yA l) n).1 _ _ _ h)⟩
inductive Fits {H:Type} (N:Nat):DataW H->Prop where
 |str (s:p_) (h:s.length<=N):Fits N (.lit (.string s))
 |lit (l:Lit) (h:∀s,l≠ .string s):Fits N (.lit l)
 |nil:Fits N .nil
 |slice (es sp:List (DataW H)) (h:es.length<=N) (he:∀d∈es,Fits N d):Fits N (.slice es sp)
 |agg (es:List (DataW H)) (he:∀d∈es,Fits N d):Fits N (.agg es)
def kn(P:Program)(N:Nat):Nat->TypeId->b_->Prop
 |0,_,_=>False
 |n+1,t,ps=>match P.underlying t with
  |some .bool=>∃b,ps=[.bool b]
  |some (.int k)=>∃z,ps=[.int k z]/\(Lit.int k z).wf=true
  |some .string=>∃s:ByteArray,ps=[.str s]/\s.size<=N
  |some (.slice e)=>∃es,ps=[.sl es]/\es.length<=N/\ ∀x∈es,kn P N n e x
  |some (.struct fs)=>∃parts:s_,ps=parts.flatten/\parts.length=fs.toList.length/\ ∀(i:Nat) (f:Field) (x:b_),fs.toList[i]?=some f->parts[i]?=some x->kn P N n f.type x
  |_=>False
def Aw(P:Program):Nat->Nat->List Field->Bool
 |off,total,[]=>Nat.beq off total
 |off,total,f::r=>Nat.beq f.offset off&&Aw P (off+P.cellsOf f.type) total r
def j5(P:Program):Nat->TypeId->Bool
 |0,_=>false
 |n+1,t=>match P.underlying t with
  |some .bool|some (.int _)|some .string=>true
  |some (.slice e)=>Nat.blt 0 (P.cellsOf e)&&j5 P n e
  |some (.struct fs)=>Aw P 0 (P.cellsOf t) fs.toList&&fs.toList.all fun f=>j5 P n f.type
  |_=>false
section
variable {H:Type} {enc:TypeId×Value->H} {P:Program} {w:World} {base:Nat} {sp:Nat->Bool} {held:Bool} {N:Nat}
theorem dM.append{w:World}{own:Nat->Prop}{xs ys:b_}{vs us:List Value}(h:dM w own xs vs)(k:dM w own ys us):dM w own (xs++ys) (vs++us):=Pw.append (R:=cN w own) h k
theorem abj{w:World}{base:Nat}{a:Addr}{n:Nat}{cs:List Value}(h:w.cells? base a n=some cs):cs.length=n/\ ∀i,i<n->a.add i=⟨a.block,a.off+i,none⟩/\w.cell? ⟨a.block,a.off+i,none⟩=cs[i]? :=by
 unfold World.cells? at h;split at h
 .have hl:=mapM_some_length h;simp at hl;refine⟨hl,fun i hi=>?_⟩;have hg:=mapM_some_get h i i (by simp[hi]);have aB:i<cs.length:=aa;have hv:cs[i]?=some cs[i]:=by simp[aB]
  rw[hv] at hg;have aeg:(a.add i).spot=none:=by
   cases qc:(a.add i).spot with
   |none=>rfl
   |some s=>
    simp only[World.cell?] at hg;split at hg
    .simp[qc] at hg
    cases hg
  have e:a.add i=⟨a.block,a.off+i,none⟩:=by
   unfold Addr.add at aeg |-;split
   .rename_i h0;subst h0;rw[aG rfl] at aeg;cases a
    simp_all
   rfl
  refine⟨e,?_⟩;rw[hv,<- hg,e]
 cases h
theorem amF{r:TypeId->List Value->Option (DataW H×List MemPlace)}{n:Nat}(ih:∀t cs x,j5 P n t=true->r t cs=some x->Fits N x.1->∃pvs,kn P N n t pvs/\dM w (fun _=>False) pvs cs){cs:List Value}{total:Nat}(ht:cs.length=total):
  ∀(fs:List Field) (off:Nat) (xs:List (DataW H×List MemPlace)),Aw P off total fs=true->(∀f∈fs,j5 P n f.type=true)->
   fs.mapM (fun f=>r f.type ((cs.drop f.offset).take (P.cellsOf f.type)))=some xs->(∀x∈xs,Fits N x.1)->off<=total->(∀f∈fs,∀c x,r f.type c=some x->∀pvs,kn P N n f.type pvs->dM w (fun _=>False) pvs c->True)->
   ∃parts:s_,parts.length=fs.length/\(∀(i:Nat) (f:Field) (x:b_),fs[i]?=some f->parts[i]?=some x->kn P N n f.type x)/\(dM w (fun _=>False) parts.flatten (cs.drop off)):=by
 intro fs
 induction fs with
 |nil=>
  intro off xs hc _ _ _ hle _;simp only[Aw] at hc;have:=xF hc;refine⟨[],rfl,fun i f x h=>by simp at h,?_⟩;have:cs.drop off=[]:=by rw[List.drop_eq_nil_iff];omega
  rw[this];exact⟨rfl,fun j x u h=>by simp at h⟩
 |cons f fs ihf=>
  intro off xs hc ho hm hf hle hT;simp only[Aw,cJ] at hc;have X6:=xF hc.1;rw[List.mapM_cons] at hm;simp only[Option.bind_eq_bind,VM,Option.pure_def,gn] at hm;obtain⟨x,hx,xs',OQ,rfl⟩:=hm;obtain⟨pvs,p1,p2⟩:=ih _ _ _ (ho f af) hx (hf x af);have hlen:=p2.1;by_cases ad4:off+P.cellsOf f.type<=total
  .obtain⟨parts,q1,q2,q3⟩:=ihf (off+P.cellsOf f.type) xs' hc.2 (fun g hg=>ho g (by simp[hg])) OQ (fun y hy=>hf y (by simp[hy])) ad4 (fun _ _ _ _ _ _ _ _=>trivial);refine⟨pvs::parts,by simp[q1],fun i g y hi hy=>?_,?_⟩
   .cases i with
    |zero=>simp at hi hy;subst hi hy;exact p1
    |succ i=>exact q2 i g y (by simpa using hi) (by simpa using hy)
   have:cs.drop off=(cs.drop f.offset).take (P.cellsOf f.type)++cs.drop (off+P.cellsOf f.type):=by rw[X6,<- List.drop_drop];exact(mU _ _).symm
   rw[this];simp only[mS];exact dM.append p2 q3
  exfalso;have mono:∀(l:List Field) (o:Nat),Aw P o total l=true->o<=total:=by
   intro l
   induction l with
   |nil=>intro o h;simp only[Aw] at h;have:=xF h;omega
   |cons g l ihl=>intro o h;simp only[Aw,cJ] at h;have:=ihl _ h.2;omega
  exact ad4 (mono _ _ hc.2)
theorem asY{sz:Nat}{f:Nat->Value}:∀(es:s_) (rows:List (List Value)) (k:Nat),rows.length=es.length->(∀(i:Nat) (e:b_) (v:List Value),es[i]?=some e->rows[i]?=some v->dM w (fun _=>False) e v/\v.length=sz/\ ∀j u,v[j]?=some u->f ((k+i)*sz+j)=u)->
  ∀(j:Nat) (x:PV),es.flatten[j]?=some x->cN w (fun _=>False) x (f (k*sz+j)):=by
 intro es
 induction es with
 |nil=>intro rows k _ _ j x h;simp at h
 |cons e es ih=>
  intro rows k hl h j x hx;cases rows with
  |nil=>simp at hl
  |cons v rows=>
   obtain⟨a1,a2,a3⟩:=h 0 e v rfl rfl;have dy:e.length=sz:=by rw[<- a2];exact a1.1.symm
   simp only[mS] at hx;by_cases hj:j<e.length
   .rw[xB hj] at hx;have hv:v[j]?=some v[j]:=by simp[show j<v.length by omega]
    have:=a3 j _ hv;simp only[u7] at this;rw[this];exact a1.2 j x _ hx hv
   rw[Ag aa] at hx;have:=ih rows (k+1) (by simpa using hl) (fun i e' v' h1 h2=>by have:=h (i+1) e' v' (by simpa using h1) (by simpa using h2);rw[show k+(i+1)=k+1+i by omega] at this;exact this) (j-e.length) x hx
   rw[show k*sz+j=(k+1)*sz+(j-e.length) by rw[ib];omega];exact this
theorem au8:∀(n fuel:Nat) (t:TypeId) (cs:List Value) (x:DataW H×List MemPlace),j5 P n t=true->DataW.trod enc P w base sp held fuel t cs=some x->Fits N x.1->
  ∃pvs,kn P N n t pvs/\dM w (fun _=>False) pvs cs:=by
 intro n
 induction n with
 |zero=>intro fuel t cs x h;simp[j5] at h
 |succ n ih=>
  intro fuel t cs x ay h hf;cases fuel with
  |zero=>simp[DataW.trod] at h
  |succ fuel=>
   rw[DataW.trod_step] at h;have one:∀ {p:PV} {v:Value},cN w (fun _=>False) p v->dM w (fun _=>False) [p] [v]:=by
    intro p v hp;refine⟨rfl,fun j x u a b=>?_⟩;cases j with
    |zero=>simp at a b;subst a b;exact hp
    |succ j=>simp at a
   unfold DataW.trodStep at h;unfold j5 at ay;split at h
   case h_1 b hu=>exact⟨[.bool b],by simp only[kn,hu];exact⟨b,rfl⟩,one (.bool b)⟩
   case h_2 k k' z hu=>
    split at h
    .rename_i hc;obtain⟨rfl,hwf⟩:=hc;exact⟨[.int k' z],by simp only[kn,hu];exact⟨z,rfl,hwf⟩,one (.int k' z)⟩
    cases h
   case h_4 s hu=>
    split at h
    .cases h;cases hf with
     |str _ hs=>exact⟨[.str s],by simp only[kn,hu];exact⟨s,rfl,by simpa using hs⟩,one (.str s)⟩
     |lit _ hs=>exact(hs _ rfl).elim
    cases h
   case h_7 e hu=>exact⟨[.sl []],by simp only[kn,hu];exact⟨[],rfl,cA _,fun x hx=>by simp at hx⟩,one (.zZ none 0 (fun _=>rfl) (cA _))⟩
   case h_8 e a len cap hu=>
    rw[hu] at ay;simp only[cJ] at ay;obtain⟨jE,hoe⟩:=ay;have jE:0<P.cellsOf e:=by have:=jE;simp[Nat.blt] at this;omega
    simp only at h;split at h
    .rename_i hc;obtain⟨hb,hlc,tZ⟩:=hc;simp only[ef,VM] at h;obtain⟨elems,he,rest,aoL,rfl⟩:=h;have hlen:elems.length=len:=by simpa using mapM_some_length he
     cases hf with
     |slice _ _ hl hfe=>
     simp only[cU] at hl;have get:∀i,i<len->∃y row pv,elems[i]?=some y/\w.cells? base (a.add (i*P.cellsOf e)) (P.cellsOf e)=some row/\kn P N n e pv/\dM w (fun _=>False) pv row:=by intro i hi;have hg:=mapM_some_get he i i (by simp[hi]);have aB:i<elems.length:=aa;rw[rR aB] at hg;simp only[VM] at hg;obtain⟨row,h1,h2⟩:=hg;obtain⟨pv,p1,p2⟩:=ih _ _ _ _ hoe h2 (hfe _ (cV.2 ⟨_,List.getElem_mem aB,rfl⟩));exact⟨_,row,pv,rR aB,h1,p1,p2⟩
     cases uL:len with
     |zero=>refine⟨[.sl []],by simp only[kn,hu];exact⟨[],rfl,cA _,fun x hx=>by simp at hx⟩,one (.zZ (some a) cap (fun h=>by cases h) tZ)⟩
     |succ len'=>
      rw[<- uL];have h0:0<len:=aa;obtain⟨_,row0,_,_,yq,_,_⟩:=get 0 h0;have ha:a=⟨a.block,a.off,none⟩:=by
       have h1:a.add 0=a:=by unfold Addr.add;rw[aG rfl]
       rw[Bu,h1] at yq;have:=((abj yq).2 0 jE).1;rw[h1] at this;exact this
      have Yg:∀i,i<len->∃row pv,row.length=P.cellsOf e/\(∀j,j<P.cellsOf e->w.cell? ⟨a.block,a.off+(i*P.cellsOf e+j),none⟩=row[j]?)/\kn P N n e pv/\dM w (fun _=>False) pv row:=by
       intro i hi;obtain⟨_,row,pv,_,h1,h2,h3⟩:=get i hi;obtain⟨l1,l2⟩:=abj h1;refine⟨row,pv,l1,fun j hj=>?_,h2,h3⟩;have:=(l2 j hj).2;rw[<- this];have e2:a.add (i*P.cellsOf e)=⟨a.block,a.off+i*P.cellsOf e,none⟩:=by
        rw[ha];unfold Addr.add;split
        .rename_i h9;rw[h9];rfl
        rfl
       rw[e2];simp[EM]
      let row:Nat->List Value:=fun i=>if h:i<len then (Yg i h).choose else []
      let pv:Nat->b_:=fun i=>if h:i<len then (Yg i h).choose_spec.choose else []
      have OJ:∀i,i<len->(row i).length=P.cellsOf e/\(∀j,j<P.cellsOf e->w.cell? ⟨a.block,a.off+(i*P.cellsOf e+j),none⟩=(row i)[j]?)/\kn P N n e (pv i)/\dM w (fun _=>False) (pv i) (row i):=by intro i hi;simp only[row,pv,dif_pos hi];exact(Yg i hi).choose_spec.choose_spec
      let es:=(List.range len).map pv
      have TS:es.length=len:=by simp[es]
      have DJ:∀(i:Nat) (x:b_),es[i]?=some x->i<len/\x=pv i:=by
       intro i x hx;have hi:i<len:=by rw[<- TS];exact(aW.1 hx).1
       refine⟨hi,?_⟩;simp only[es,gk,tM hi,nE,gn] at hx;exact hx.symm
      let f:Nat->Value:=fun j=>(w.cell? ⟨a.block,a.off+j,none⟩).getD undef
      refine⟨[.sl es],?_,one ?_⟩
      .simp only[kn,hu];refine⟨es,rfl,aa,fun x hx=>?_⟩;obtain⟨i,hi⟩:=ia hx;obtain⟨h1,rfl⟩:=DJ i x hi;exact(OJ i h1).2.2.1
      rw[ha];have cT:∀x∈es,x.length=P.cellsOf e:=by intro x hx;obtain⟨i,hi⟩:=ia hx;obtain⟨h1,rfl⟩:=DJ i x hi;have:=(OJ i h1).2.2.2.1;rw[<- this];exact(OJ i h1).1
      have eY:=asY (w:=w) (sz:=P.cellsOf e) (f:=f) es ((List.range len).map row) 0 (by simp[TS]) (fun i x v h1 h2=>by
       obtain⟨hi,rfl⟩:=DJ i x h1;simp only[gk,tM hi,nE,gn] at h2;subst h2;obtain⟨s1,s2,s3,s4⟩:=OJ i hi;refine⟨s4,s1,fun j u hu=>?_⟩;have hj:j<P.cellsOf e:=by rw[<- s1];exact(aW.1 hu).1
       simp only[f,jr];rw[s2 j hj,hu];rfl)
      simp only[Bu,jr] at eY;have zw:∀(l:s_),(∀x∈l,x.length=P.cellsOf e)->l.flatten.length=l.length*P.cellsOf e:=by
       intro l
       induction l with
       |nil=>intro _;simp
       |cons x l ihl=>intro hx;simp only[mS,gJ,dL];rw[hx x af,ihl (fun y hy=>hx y (by simp[hy])),ib];omega
      refine TS▸cN.sl a.block a.off cap (P.cellsOf e) f (fun _ h=>h) aa tZ cT (fun j x hx=>?_) eY;have hj:j<len*P.cellsOf e:=by have:=(aW.1 hx).1;rw[zw es cT,TS] at this;exact this
      have hi:j/P.cellsOf e<len:=Nat.div_lt_of_lt_mul (by rw[Nat.mul_comm];exact hj);obtain⟨s1,s2,s3,s4⟩:=OJ _ hi;have hm:j%P.cellsOf e<P.cellsOf e:=dk _ jE;have:=s2 _ hm;rw[show j/P.cellsOf e*P.cellsOf e+j%P.cellsOf e=j by rw[Nat.mul_comm];exact Nat.div_add_mod j _] at this;have Yj:(row (j/P.cellsOf e))[j%P.cellsOf e]?=some (row (j/P.cellsOf e))[j%P.cellsOf e]:=by simp[s1,hm]
      rw[Yj] at this;simp only[f,this,ow]
    cases h
   case h_9=>
    rename_i fs hu;rw[hu] at ay;simp only[cJ] at ay;split at h
    .rename_i hc;simp only[ef] at h;obtain⟨xs,hx,rfl⟩:=h;cases hf with
     |agg _ hfe=>
     obtain⟨parts,p1,p2,p3⟩:=amF (r:=DataW.trod enc P w base sp held fuel) (n:=n) (fun t cs x h1 h2 h3=>ih _ _ _ _ h1 h2 h3) hc fs.toList 0 xs ay.1 (fun f hf=>gj.1 ay.2 f hf) hx (fun y hy=>hfe _ (cV.2 ⟨y,hy,rfl⟩)) (cA _) (fun _ _ _ _ _ _ _ _=>trivial);refine⟨parts.flatten,by simp only[kn,hu];exact⟨parts,rfl,p1,p2⟩,?_⟩
     simpa using p3
    cases h
   all_goals(first|(cases h;done)|(simp_all;done)|(exfalso;simp_all;done))
end
end
end Go.Abs
namespace Go.Abs
variable {H:Type} {enc:TypeId×Value->H} {P:Program} {w:World} {N:Nat}
theorem ali:∀(fs:List Field) (off total:Nat),Aw P off total fs=true->total=off+(fs.map fun f=>P.cellsOf f.type).sum/\ ∀(j:Nat) (f:Field),fs[j]?=some f->f.offset=off+((fs.take j).map fun f=>P.cellsOf f.type).sum:=by
 intro fs
 induction fs with
 |nil=>intro off total h;simp only[Aw] at h;have:=xF h;exact⟨by simp;omega,fun j f h=>by simp at h⟩
 |cons f fs ih=>
  intro off total h;simp only[Aw,cJ] at h;have h0:=xF h.1;obtain⟨i1,i2⟩:=ih _ _ h.2;refine⟨by simp;omega,fun j g hg=>?_⟩;cases j with
  |zero=>simp at hg;subst hg;simp;omega
  |succ j=>have:=i2 j g (by simpa using hg);simp only[List.take_succ_cons,eD,List.sum_cons];omega
theorem apt:Kids P (fun t=>∃n,j5 P n t=true):=by
 have un:∀ {t:TypeId},(∃n,j5 P n t=true)->∃n,j5 P (n+1) t=true:=by
  rintro t ⟨n,h⟩
  cases n with
  |zero=>simp[j5] at h
  |succ n=>exact⟨n,h⟩
 refine⟨fun ht hu=>?_,fun ht hu=>?_,fun ht hu=>?_,fun ht hu=>?_,fun ht hu=>?_⟩
 .obtain⟨n,h⟩:=un ht;simp[j5,hu] at h
 .obtain⟨n,h⟩:=un ht;simp only[j5,hu,cJ] at h;exact⟨n,h.2⟩
 .obtain⟨n,h⟩:=un ht;simp[j5,hu] at h
 .obtain⟨n,h⟩:=un ht;simp only[j5,hu,cJ] at h;obtain⟨c1,c2⟩:=ali _ _ _ h.1;refine⟨fun f hf=>⟨n,gj.1 h.2 f hf⟩,by rw[c1];simp,fun j f hj=>by rw[c2 j f hj];simp⟩
 obtain⟨n,h⟩:=un ht;simp[j5,hu] at h
theorem au6{w':World}{Iw:Nat->Bool}{t:TypeId}{v:Value}{d:DataW H}{ps:List MemPlace}(hk:∃n,j5 P n t=true)(h:DataW.Trod enc P w 0 (fun _=>true) true t v d ps)
  (Cb:∀p∈ps,w.sameAt w' p) (hs:∀p∈ps,Iw p.block=true):DataW.Trod enc P w' 0 Iw true t v d ps:=by
 obtain⟨fuel,h⟩:=h;refine⟨fuel,DataW.trod_stays (T:=fun t=>∃n,j5 P n t=true) apt ?_ (fun h=>by cases h) hk h Cb hs⟩;rintro t e ⟨n,h⟩ hu
 cases n with
 |zero=>simp[j5] at h
 |succ n=>simp only[j5,hu,cJ] at h;have:=h.1;simp[Nat.blt] at this;omega
theorem au5{w':World}{Iw:Nat->Bool}:∀ {ts:List TypeId} {vs:List Value} {ds:List (DataW H)} {ps:List MemPlace},(∀t∈ts,∃n,j5 P n t=true)->DataW.TrodAll enc P w 0 (fun _=>true) true ts vs ds ps->
  (∀p∈ps,w.sameAt w' p)->(∀p∈ps,Iw p.block=true)->DataW.TrodAll enc P w' 0 Iw true ts vs ds ps:=by
 intro ts
 induction ts with
 |nil=>intro vs ds ps _ h _ _;cases vs<;>cases ds<;>exact h
 |cons t ts ih=>
  intro vs ds ps hk h kG fR;cases vs with
  |nil=>exact h.elim
  |cons v vs=>
   cases ds with
   |nil=>exact h.elim
   |cons d ds=>obtain⟨p,q,h1,h2,rfl⟩:=h;exact⟨p,q,au6 (hk t af) h1 (fun x hx=>kG x (by simp[hx])) (fun x hx=>fR x (by simp[hx])),ih (fun t ht=>hk t (by simp[ht])) h2 (fun x hx=>kG x (by simp[hx])) (fun x hx=>fR x (by simp[hx])),rfl⟩
def CY(P:Program)(t:TypeId)(ps:b_):V:=
 match P.underlying t with
 |some (.struct _)=>.agg (ps.map .p)
 |_=>match ps with
  |[x]=>.one (.p x)
  |_=>.undef
theorem ajJ{r:Reach}{b0 n:Nat}{sp:Nat->Bool}{held:Bool}{t:TypeId}{v:Value}{d:DataW H}{ps:List MemPlace}(hk:j5 P n t=true)(hval:Value.okWide P w r b0 t v)(h:DataW.Trod enc P w 0 sp held t v d ps)(hf:Fits N d):
  ∃pvs,kn P N n t pvs/\tN w (fun _=>False) (CY P t pvs) v:=by
 obtain⟨fuel,h⟩:=h;obtain⟨pvs,h1,h2⟩:=au8 n fuel t _ _ hk h hf;refine⟨pvs,h1,?_⟩;cases n with
 |zero=>simp[j5] at hk
 |succ n=>
  have one:∀x:PV,pvs=[x]->(∀cs,v≠ .agg cs)->cN w (fun _=>False) x v:=by
   rintro x rfl aK
   have:v.cells.toList=[v]:=by
    cases v<;>first
     |rfl
     |exact(aK _ rfl).elim
   rw[this] at h2;exact h2.2 0 x v rfl rfl
  have nagg:∀ {k:TypeDesc},P.underlying t=some k->(∀fs,k≠ .struct fs)->(∀a b,k≠ .array a b)->∀cs,v≠ .agg cs:=by
   rintro k hu dp jv cs rfl
   unfold Value.okWide at hval;rw[hu] at hval;cases k<;>simp_all[Cell.okWide,Cell.ok]
  simp only[kn] at h1;unfold CY;cases hu:P.underlying t with
  |none=>rw[hu] at h1;exact h1.elim
  |some k=>
   rw[hu] at h1;cases k<;>simp only at h1<;>try exact h1.elim
   case bool=>obtain⟨b,rfl⟩:=h1;exact one _ rfl (nagg hu af af)
   case int k=>obtain⟨b,rfl,_⟩:=h1;exact one _ rfl (nagg hu af af)
   case string=>obtain⟨b,rfl,_⟩:=h1;exact one _ rfl (nagg hu af af)
   case slice e=>obtain⟨es,rfl,_⟩:=h1;exact one _ rfl (nagg hu af af)
   case struct fs=>unfold Value.okWide at hval;rw[hu] at hval;simp only at hval;obtain⟨cs,rfl,cT,_⟩:=hval;exact⟨cs,pvs,rfl,rfl,h2⟩
def PN(P:Program)(N n:Nat):List TypeId->s_->Prop
 |[],[]=>True
 |t::ts,p::ps=>kn P N n t p/\PN P N n ts ps
 |_,_=>False
def CZ(P:Program):List TypeId->s_->e_
 |t::ts,p::ps=>CY P t p::CZ P ts ps
 |_,_=>[]
theorem ajP{r:Reach}{b0 n:Nat}{sp:Nat->Bool}{held:Bool}:∀ {ts:List TypeId} {vs:List Value} {ds:List (DataW H)} {ps:List MemPlace},(∀t∈ts,j5 P n t=true)->(∀(j:Nat) t v,ts[j]?=some t->vs[j]?=some v->Value.okWide P w r b0 t v)->
  DataW.TrodAll enc P w 0 sp held ts vs ds ps->(∀d∈ds,Fits N d)->∃pvss,PN P N n ts pvss/\Pw (tN w (fun _=>False)) (CZ P ts pvss) vs:=by
 intro ts
 induction ts with
 |nil=>
  intro vs ds ps _ _ h _;cases vs with
  |nil=>exact⟨[],trivial,rfl,fun j x u h=>by simp[CZ] at h⟩
  |cons v vs=>cases ds<;>exact h.elim
 |cons t ts ih=>
  intro vs ds ps hk hv h hf;cases vs with
  |nil=>exact h.elim
  |cons v vs=>
   cases ds with
   |nil=>exact h.elim
   |cons d ds=>
    obtain⟨p,q,h1,h2,rfl⟩:=h;obtain⟨x,a1,a2⟩:=ajJ (hk t af) (hv 0 t v rfl rfl) h1 (hf d af);obtain⟨xs,b1,b2,b3⟩:=ih (fun t ht=>hk t (by simp[ht])) (fun j t v e1 e2=>hv (j+1) t v (by simpa using e1) (by simpa using e2)) h2 (fun d hd=>hf d (by simp[hd]));refine⟨x::xs,⟨a1,b1⟩,by simpa [CZ] using b2,fun j y u e1 e2=>?_⟩;cases j with
    |zero=>simp[CZ] at e1 e2;subst e1 e2;exact a2
    |succ j=>exact b3 j y u (by simpa [CZ] using e1) (by simpa using e2)
end Go.Abs
namespace Go.Abs
open Go.RowKit
theorem fY.aqP(w:World)(k:Nat)(os:Array Obj):fY w (Go.Sort.grow (w.drewN k) os):=
 ⟨rfl,rfl,rfl,by simp[Go.Sort.grow,World.drewN],fun c hc=>by simp[Go.Sort.grow,World.drewN,Array.getElem?_append,hc]⟩
theorem Pb{w w':World}{O:Nat->Prop}{x:PV}{v:Value}(hg:fY w w')(h:cN w' O x v):wa w O (.one (.p x)) (.returned v) w':=
 ⟨v,[],rfl,hg,xE,fun c hc=>by simp at hc,[v],rfl,v,[],rfl,h.mono fun c _ hn=>⟨rfl,fun hq=>hn (hq.elim id fun h=>by simp at h)⟩,rfl,rfl⟩
theorem pw1{w:World}{O:Nat->Prop}{x:PV}{args:Array Value}(h:Pw (tN w O) [.one (.p x)] args.toList):∃v,args= #[v]/\cN w O x v:=by
 obtain⟨h1,h2⟩:=h;obtain⟨l⟩:=args
 match l,h1 with
 |[v],_=>exact⟨v,rfl,h2 0 _ v rfl rfl⟩
theorem acj{w:World}{O:Nat->Prop}{v:Value}(h:cN w O (.sl []) v):∃a cap,v=.slice a 0 cap/\(a=none->cap=0)/\cap<=maxLen:=by
 generalize hx:PV.sl []=x at h;cases h<;>cases hx
 .exact⟨_,_,rfl,by assumption,by assumption⟩
 exact⟨_,_,rfl,fun h=>by simp at h,by assumption⟩
theorem afY{w:World}{O:Nat->Prop}{a:Option Addr}{cap:Nat}(h:a=none->cap=0)(hm:cap<=maxLen):cN w O (.sl []) (.slice a 0 cap):=.zZ a cap h hm
def sW:Nat->Nat->p_->p_
 |0,_,acc=>acc
 |k+1,u,acc=>bif Nat.blt u 10 then UInt8.ofNat (Nat.add 48 u)::acc else sW k (Nat.div u 10) (UInt8.ofNat (Nat.add 48 (Nat.mod u 10))::acc)
theorem ab2:∀(k u:Nat) (acc:p_),u<10 ^ (k+1)->sW (k+1) u acc=Lib.decDigits u++acc:=by
 intro k
 induction k with
 |zero=>
  intro u acc h;have h:u<10:=by simpa using h
  unfold Lib.decDigits;have hb:Nat.blt u 10=true:=Nat.ble_eq_true_of_le h;simp only[sW,hb,cond_true,dif_pos h];rfl
 |succ k ih=>
  intro u acc h;rw[Lib.decDigits,sW];by_cases h0:u<10
  .have hb:Nat.blt u 10=true:=Nat.ble_eq_true_of_le h0;simp only[hb,cond_true,dif_pos h0];rfl
  have hb:Nat.blt u 10=false:=by
   cases e:Nat.blt u 10 with
   |false=>rfl
   |true=>exact(h0 (iI e)).elim
  simp only[hb,cond_false,dif_neg h0];have:(Nat.div u 10)<10 ^ (k+1):=by have e:Nat.div u 10=u/10:=rfl;rw[e];have:10 ^ (k+1+1)=10 ^ (k+1)*10:=Nat.pow_succ ..;omega
  rw[ih _ _ this];simp only[vW,List.singleton_append];rfl
def lk(n:Int):ByteArray:=⟨(match n with| .ofNat u=>sW 20 u []| .negSucc u=>45::sW 20 (Nat.succ u) []).toArray⟩
theorem apk(n:Int)(h0: -9223372036854775808<=n)(h1:n<=9223372036854775807):lk n=⟨(Lib.itoa n).toArray⟩:=by
 unfold lk Lib.itoa;cases n with
 |ofNat u=>have:¬(Int.ofNat u<0):=af;rw[aC this];simp only;rw[ab2 19 u [] (by simp at h1;omega)];simp
 |negSucc u=>have:Int.negSucc u<0:=Int.negSucc_lt_zero u;rw[aG this];simp only;rw[ab2 19 (Nat.succ u) [] aa];simp[Int.natAbs]
def UO(args:e_):Option RV:=
 match args with
 |[.one (.p (.int .i64 n))]=>if -9223372036854775808<=n/\n<=9223372036854775807 then some (.one (.p (.str (lk n)))) else none
 |_=>none
theorem asc{P:Program}{f:Nat}{nm:String}{G:World->Prop}{args:e_}{r:RV}(hG:∀w,G w->Lib.TabIs P w nm .u64 Lib.pow10Tab)
  (hf:∀(n:Int),-9223372036854775808<=n->n<=9223372036854775807->∀w:World,Lib.TabIs P w nm .u64 Lib.pow10Tab->Calls P f #[.int .i64 n] w fun e w'=>e=.returned (.string ⟨(Lib.itoa n).toArray⟩)/\ ∃k os,w'=Go.Sort.grow (w.drewN k) os)
  (h:UO args=some r):∀(w:World) (O:Nat->Prop) (as:Array Value),Good G w->Pw (tN w O) args as.toList->Calls P f as w (wa w O r):=by
 intro w O as hg ha;unfold UO at h;split at h
 .rename_i n;split at h
  .rename_i hr;cases h;obtain⟨v,rfl,hp⟩:=pw1 ha;generalize hx:PV.int .i64 n=x at hp;cases hp<;>cases hx
   refine(hf n hr.1 hr.2 w (hG w hg.1)).mono ?_;rintro e w' ⟨rfl,k,os,rfl⟩
   rw[apk n hr.1 hr.2];exact Pb (fY.aqP _ _ _) (.str _)
  cases h
 cases h
def Pd(args:e_):Option RV:=
 match args with
 |[.one (.p (.int .u64 n))]=>if 0<=n/\n<=18446744073709551615 then some (.one (.p (.int .i64 (Lib.bitLen n.toNat)))) else none
 |_=>none
theorem ar9{P:Program}{f:Nat}{args:e_}{r:RV}(hf:∀(x:Int) (w:World),0<=x->x<=18446744073709551615->Calls P f #[.int .u64 x] w fun e w'=>e=.returned (.int .i64 (Lib.bitLen x.toNat))/\w'=w)
  (h:Pd args=some r):∀(w:World) (O:Nat->Prop) (as:Array Value),Pw (tN w O) args as.toList->Calls P f as w (wa w O r):=by
 intro w O as ha;unfold Pd at h;split at h
 .rename_i n;split at h
  .rename_i hr;cases h;obtain⟨v,rfl,hp⟩:=pw1 ha;generalize hx:PV.int .u64 n=x at hp;cases hp<;>cases hx
   refine(hf n w hr.1 hr.2).mono ?_;rintro e w' ⟨rfl,rfl⟩
   exact Pb (fY.refl _) (.int _ _)
  cases h
 cases h
def UM(args:e_):Option (Option RV):=
 match args with
 |[.one (.p (.sl []))]=>some (some (.one (.p (.sl []))))
 |_=>none
theorem asb{S:Sys}{G:World->Prop}(hS:IW S G){f n:Nat}{z i g z':Nat}{fn:bG}{ao:aE}(hfn:S.fns f=some fn)(h1:ij S n f [.one (.p .nils)]=some (.one (.p .nils)))
  (h2:ik S n f [.one (.hsl 0 0 z 0 0)] .all xe=some (.one (.hsl i g z' 0 0),ao)) {args:e_} {r:RV} (h:UM args=some (some r)):
  ∀(w:World) (O:Nat->Prop) (as:Array Value),Good G w->(∀c,O c->c<w.heap.size)->Pw (tN w O) args as.toList->Calls S.P f as w (wa w O r):=by
 intro w O as hg hO ha;unfold UM at h;split at h
 .cases h;obtain⟨v,rfl,hp⟩:=pw1 ha;obtain⟨a,cap,rfl,hn,hm⟩:=acj hp;cases a with
  |none=>
   obtain rfl:=hn rfl;refine((sound hS n).1 f _ _ h1 |>.2 w O #[.slice none 0 0] hg hO ⟨rfl,fun j x u p q=>?_⟩).mono ?_
   .cases j with
    |zero=>simp at p q;subst p q;exact cN.nils
    |succ j=>simp at p
   rintro e w' ⟨val,bs,rfl,th,gH,pQ,vs,q1,q2⟩
   obtain⟨v0,nX,e1,e2,e3,e4⟩:=q2;have hq1:vs=[val]:=q1;subst hq1;cases e1;subst e4;cases e2;exact Pb th (afY (fun _=>rfl) (cA _))
  |some a=>
   let m0:Mem:=⟨w,xe,fun _=>0,fun _=>0,O⟩
   have ay:Ok w m0:=⟨rfl,rfl,rfl,cD _,fun _ _=>rfl,(fun id o h=>by cases h),(fun id o h=>by cases h),hO,(fun id fH o o' h=>by cases h)⟩;refine(((sound hS n).2.1 f _ _ _ _ _ h2).2 w m0 #[.slice (some a) 0 cap] hg ay rfl ⟨rfl,fun j x u p q=>?_⟩).mono ?_
   .cases j with
    |zero=>simp at p q;subst p q;exact dz.hsl a cap (cA _) (cA _) hm (fun sz _ h=>by cases h)
    |succ j=>simp at p
   rintro e w' ⟨val,m',rfl,rfl,q1,q2,q3,q4,q5⟩
   have hq:dz m' (.hsl i g z' 0 0) val:=q5;cases hq with
   |hsl a2 cap2 _ _ vC _=>
    refine Pb ⟨q2.os,q2.tape,q2.output,q2.size,fun c hc=>q2.keep c hc ?_⟩ (afY (fun h=>by cases h) vC);rintro ⟨id,o,h,_⟩
    cases h
 cases h
def UN(args:e_):Option (Option RV):=
 match args with
 |[.one (.p (.sl []))]=>some (some (.one (.p .zs)))
 |_=>none
theorem asa{P:Program}{G:World->Prop}{f:Nat}(h1:∀(w:World) (a:Option Addr) (c:Nat),Calls P f #[.slice a 0 c] w fun e w'=>∃b,e=.returned (.slice b 0 0)/\fY w w'){args:e_}{r:RV}(h:UN args=some (some r)):
  ∀(w:World) (O:Nat->Prop) (as:Array Value),Good G w->(∀c,O c->c<w.heap.size)->Pw (tN w O) args as.toList->Calls P f as w (wa w O r):=by
 intro w O as hg hO ha;unfold UN at h;split at h
 .cases h;obtain⟨v,rfl,hp⟩:=pw1 ha;obtain⟨a,cap,rfl,hn,hm⟩:=acj hp;refine(h1 w a cap).mono ?_;rintro e w' ⟨b,rfl,th⟩
  exact Pb th (cN.zs b)
 cases h
end Go.Abs
namespace Go.Abs
open Go.RowKit Go.WideShapes Go.ChangeShapes
section
variable {H:Type} {enc:TypeId×Value->H} {P:Program} {w:World} {base:Nat} {sp:Nat->Bool} {held:Bool}
theorem au7:∀(n fuel:Nat) (t:TypeId) (cs:List Value) (x:DataW H×List MemPlace),j5 P n t=true->DataW.trod enc P w base sp held fuel t cs=some x->Fits maxLen x.1:=by
 intro n
 induction n with
 |zero=>intro fuel t cs x h;simp[j5] at h
 |succ n ih=>
  intro fuel t cs x ay h;cases fuel with
  |zero=>simp[DataW.trod] at h
  |succ fuel=>
   rw[DataW.trod_step] at h;unfold DataW.trodStep at h;unfold j5 at ay;split at h
   case h_1=>cases h;exact .lit _ (fun s h=>by cases h)
   case h_2=>
    split at h
    .cases h;exact .lit _ (fun s h=>by cases h)
    cases h
   case h_4=>
    split at h
    .rename_i hs;cases h;exact .str _ (by simpa using hs)
    cases h
   case h_7=>cases h;exact .nil
   case h_8 e a len cap hu=>
    rw[hu] at ay;simp only[cJ] at ay;simp only at h;split at h
    .rename_i hc;simp only[ef,VM] at h;obtain⟨elems,he,rest,aoL,rfl⟩:=h;have hlen:elems.length=len:=by simpa using mapM_some_length he
     refine .slice _ _ (by simp;omega) (fun d hd=>?_);obtain⟨y,hy,rfl⟩:=cV.1 hd;obtain⟨i,_,hi⟩:=mapM_mem_of he y hy;simp only[VM] at hi;obtain⟨row,_,h2⟩:=hi;exact ih _ _ _ _ ay.2 h2
    cases h
   case h_9=>
    rename_i fs hu;rw[hu] at ay;simp only[cJ] at ay;split at h
    .simp only[ef] at h;obtain⟨xs,hx,rfl⟩:=h;refine .agg _ (fun d hd=>?_);obtain⟨y,hy,rfl⟩:=cV.1 hd;obtain⟨f,hf,hi⟩:=mapM_mem_of hx y hy;exact ih _ _ _ _ (gj.1 ay.2 f hf) hi
    cases h
   all_goals(first|(cases h;done)|(simp_all;done)|(exfalso;simp_all;done))
theorem ait{n:Nat}:∀ {ts:List TypeId} {vs:List Value} {ds:List (DataW H)} {ps:List MemPlace},(∀t∈ts,j5 P n t=true)->DataW.TrodAll enc P w base sp held ts vs ds ps->(∀d∈ds,Fits maxLen d)/\ds.length=ts.length:=by
 intro ts
 induction ts with
 |nil=>
  intro vs ds ps _ h;cases vs<;>cases ds<;>first
   |exact h.elim
   |exact⟨fun d hd=>by simp at hd,rfl⟩
 |cons t ts ih=>
  intro vs ds ps hk h;cases vs with
  |nil=>exact h.elim
  |cons v vs=>
   cases ds with
   |nil=>exact h.elim
   |cons d ds=>
    obtain⟨p,q,⟨fuel,h1⟩,h2,rfl⟩:=h;obtain⟨i1,i2⟩:=ih (fun t ht=>hk t (by simp[ht])) h2;refine⟨fun x hx=>?_,by simp[i2]⟩;rcases ch.1 hx with rfl|hx
    .exact au7 n fuel t _ _ (hk t af) h1
    exact i1 x hx
end
section
variable {H:Type} {enc:TypeId×Value->H} {P:Program}
theorem ar7{f:Func}{s:ChangeSpec}{apart fresh handsOn again:Bool}{W W':World}{args:Array Value}{v:Value}{ds gs:List (DataW H)}{before pa pv:List MemPlace}
  (hW:DataW.Whole enc P f.params.toList s.vars apart W args.toList ds gs before)
  (Ca:∀(b:Nat) (sp:Nat->Bool) (hd:Bool),DataW.TrodAll enc P W' b sp hd f.resultTypes.toList (v.resultList f.resultTypes.size) (s.fn H (ds++gs)).results [])
  (DC:∀sp:Nat->Bool,(∀p∈before,sp p.block=true)->DataW.TrodAll enc P W' 0 sp true f.params.toList args.toList (s.fn H (ds++gs)).args pa)
  (ON:∀sp:Nat->Bool,(∀p∈before,sp p.block=true)->DataW.TrodVars enc P W' sp s.vars (s.fn H (ds++gs)).vars pv)
  (dX:before=pa++pv) (hb:Below W.heap.size W W')
  (ay:∀(j:Nat) (t:TypeId) (r:Value),f.resultTypes[j]?=some t->(v.resultList f.resultTypes.size)[j]?=some r->Value.okWide P W' .any 0 t r):
  s.post enc P f apart fresh handsOn again W args v W':=by
 have aB:∀p∈before,p.block<W.heap.size:=fun p hp=>hW.lt p hp;have hold:∀p∈before,(fun b=>decide (b<W.heap.size)) p.block=true:=fun p hp=>by simpa using aB p hp
 refine⟨ds,gs,before,[],pa,pv,hW,Ca _ _ _,DC _ hold,ON _ hold,World.keptBut_mono (fun p hp=>⟨hp,?_⟩) (hb.frame (· ∈before)),fun _=>?_⟩
 .rw[dX,eX] at hp;exact Or.inr hp
 obtain⟨_,_,_,_,_,hz,hn⟩:=hW;refine⟨ay,_,_,([]++pa)++pv,⟨[]++pa,pv,trodAll_append (DC _ (fun _ _=>rfl)) (Ca _ _ _),ON _ (fun _ _=>rfl),rfl,?_,?_⟩,?_⟩
 .intro b off hp;have jC:MemPlace.cell b off∈before:=by rw[dX];simpa using hp
  rw[hb.frozen (aB _ jC)];exact hz b off jC
 .intro ha;have:=hn ha;rw[dX] at this
  simpa using this
 intro p hp _;rw[dX]
 simpa using hp
end
theorem Fy{P:Program}{N n:Nat}{t:TypeId}{k:IntKind}{p:b_}(hu:P.underlying t=some (.int k))(h:kn P N (n+1) t p):∃z,p=[.int k z]/\(Lit.int k z).wf=true:=by simp only[kn,hu] at h;exact h
theorem anI{P:Program}{N n:Nat}{t:TypeId}{p:b_}(hu:P.underlying t=some .bool)(h:kn P N (n+1) t p):∃b,p=[.bool b]:=by simp only[kn,hu] at h;exact h
theorem anJ{P:Program}{N n:Nat}{t e:TypeId}{p:b_}(hu:P.underlying t=some (.slice e))(h:kn P N (n+1) t p):∃es,p=[.sl es]/\es.length<=N/\ ∀x∈es,kn P N n e x:=by simp only[kn,hu] at h;exact h
theorem ajH{P:Program}{t:TypeId}{k:TypeDesc}{x:PV}(hu:P.underlying t=some k)(hk:∀fs,k≠ .struct fs):CY P t [x]=.one (.p x):=by
 unfold CY;rw[hu];cases k<;>first
  |rfl
  |exact(hk _ rfl).elim
theorem ajI{P:Program}{t:TypeId}{fs:Array Field}{x:b_}(hu:P.underlying t=some (.struct fs)):CY P t x=.agg (x.map .p):=by unfold CY;rw[hu]
theorem apB{S:Sys}{G:World->Prop}(hS:IW S G)(Oe:∀w,G w->Good G w){fn:Func}{s:ChangeSpec}{f n N:Nat}{handsOn again fresh apart:Bool}(ON:s.vars=[])
  (hfn:∀(H:Type) (ds:List (DataW H)),ds.length=fn.params.toList.length->s.fn H ds={results:=[.lit (.bool true)],args:=ds}) {tb:TypeId} (Ca:fn.resultTypes= #[tb]) (htb:S.P.underlying tb=some .bool)
  (hk:∀t∈fn.params.toList,j5 S.P n t=true) (law:∀pvss,PN S.P N n fn.params.toList pvss->aO S f (CZ S.P fn.params.toList pvss) (.one (.p (.bool true))))
  {H:Type} {enc:TypeId×Value->H} {W:World} {base:Nat} {args:Array Value} {ds gs:List (DataW H)} {before:List MemPlace}
  (hval:∀(j:Nat) t v,fn.params[j]?=some t->args[j]?=some v->Value.okWide S.P W .any base t v)
  (hW:DataW.Whole enc S.P fn.params.toList s.vars apart W args.toList ds gs before) (hG:G W) (hfit:∀d∈ds,Fits N d):
  Calls S.P f args W fun e W'=>∃v,e=.returned v/\s.post enc S.P fn apart fresh handsOn again W args v W':=by
 have hW':=hW;obtain⟨p,q,hA,hV,rfl,hfz,gH⟩:=hW;rw[ON] at hV;obtain⟨rfl,rfl⟩:=trodVars_none hV;obtain⟨_,hlen⟩:=ait hk hA;obtain⟨pvss,h1,h2⟩:=ajP (r:=.any) (b0:=base) hk (fun j t v a b=>hval j t v (by simpa using a) (by simpa using b)) hA hfit;refine((law pvss h1).calls hS W (Oe W hG) args h2).mono ?_;rintro e W' ⟨val,bs,rfl,hg,_,_,vs,q1,q2⟩
 obtain⟨v0,nX,e1,e2,e3,e4⟩:=q2;have hq1:vs=[val]:=q1;subst hq1;cases e1;have hv:val=.bool true:=by
  generalize hx:PV.bool true=x at e2;cases e2<;>cases hx
  rfl
 subst hv;have hb:Below W.heap.size W W':=⟨hg.os,hg.tape,hg.output,hg.size,hg.keep⟩;have aB:∀x∈p++[],x.block<W.heap.size:=fun x hx=>hW'.lt x hx;refine⟨_,rfl,ar7 (pa:=p) (pv:=[]) hW' ?_ ?_ ?_ rfl hb ?_⟩
 .intro b sp hd;rw[jJ,hfn H ds hlen,Ca];exact trodAll_cons_mk (shut_bool htb _) trodAll_mk0
 .intro Iw qc;rw[jJ,hfn H ds hlen];exact au5 (fun t ht=>⟨n,hk t ht⟩) hA (fun x hx=>hb.same (aB x (by simpa using hx))) (fun x hx=>qc x (by simpa using hx))
 .intro Iw qc;rw[jJ,hfn H ds hlen,ON];rfl
 exact ok_one Ca rfl (okWide_bool_mk htb _)
end Go.Abs
namespace Go.Abs
theorem ag4(ak:Env)(t:Nat)(v:V):put ak (some t) v=eH ak t v:=rfl
theorem ag2(ak:Env)(v:V):put ak none v=ak:=rfl
theorem acw(ak:Env)(n:Nat):ev ak (.t n)=ak n:=rfl
theorem acu(ak:Env)(n:Int):ev ak (.i n)=.one (.p (.int .i64 n)):=rfl
theorem acs(ak:Env)(x:Bool):ev ak (.b x)=.one (.p (.bool x)):=rfl
theorem acv(ak:Env)(v:V):ev ak (.k v)=v:=rfl
theorem aes(a:V)(l:e_):tA (a::l) 0=a:=rfl
theorem aer(a:V)(l:e_)(n:Nat):tA (a::l) (n+1)=tA l n:=rfl
def Gg(v:V)(want:Bool):Option Bool:=match v with
 | .one (.p (.bool b))=>some (b==want)
 | .undef=>some false
 |_=>none
theorem aiJ(b want:Bool):Gg (.one (.p (.bool b))) want=some (b==want):=rfl
theorem aiK(want:Bool):Gg .undef want=some false:=rfl
section
variable {S:Sys} {al:Al} {o:cq} {ak:Env} {aj:aE} {tr:i_} {K:Env->aE->i_->Prop} {d:w_}
theorem aa8{id:Nat}{Q:eK}:rV id Q .normal ak aj=Q .normal ak aj:=rfl
theorem aa9{id:Nat}{Q:eK}:rV id Q .ret ak aj=Q .ret ak aj:=rfl
theorem aa7{id i:Nat}{Q:eK}:rV id Q (.exit i) ak aj=if i=id then Q .normal ak aj else Q (.exit i) ak aj:=rfl
end
def WN (S:Sys)(al:Al)(ops:g_)(Q:Env->aE->Prop)(ak:Env)(aj:aE):Prop:=∀tr,WO S al ops (fun ak aj _=>Q ak aj) ak aj tr
def JX(S:Sys)(al:Al)(p:fP)(d:w_)(ak:Env)(aj:aE)(K:Env->aE->Prop):Prop:=
 match p with
 | .fail=>False
 | .done v u r=>al.fT (r++u.map (·.1))=true/\K (put ak d v) (app u aj)
 | .pc f vs r s=>∃x,aO S f vs x/\match land aj r s (x.iu (S.lone s)) with
  |some (v,u)=>al.fT (r++u.map (·.1))=true/\K (put ak d v) (app u aj)
  |none=>False
 | .sc f vs=>al.holds (allow (S.ctx al) f vs aj)=true/\ ∃v ao,jd S f vs (allow (S.ctx al) f vs aj) aj v ao/\K (put ak d v) ao
def TI(S:Sys)(al:Al)(w:Option Bool)(o:cq)(ak:Env)(aj:aE)(K:Env->aE->Prop):Prop:=
 match w with
 |none=>False
 |some false=>K (put ak o.dst .undef) aj
 |some true=>JX S al (bU S.shared ak aj o.op) o.dst ak aj K
section
variable {S:Sys} {al:Al} {ak:Env} {aj:aE}
theorem ai6{ops:g_}{R R':Env->aE->Prop}{tr tr':i_}(h:WO S al ops (fun ak aj _=>R ak aj) ak aj tr)(hR:∀e b,R e b->R' e b):WO S al ops (fun ak aj _=>R' ak aj) ak aj tr':=by obtain⟨n,e,b,es,h1,h2⟩:=h;exact⟨n,e,b,es,h1,hR _ _ h2⟩
theorem ajj{ops:g_}{Q:eK}:W S al (.region false ops) Q ak aj↔WN S al ops (fun ak aj=>Q .normal ak aj) ak aj:=by
 rw[aaz];constructor
 .intro h tr;obtain⟨n,e,b,es,h1,_,h2⟩:=h;exact⟨n,e,b,es,h1,h2⟩
 intro h;obtain⟨n,e,b,es,h1,h2⟩:=h [];exact⟨n,e,b,es,h1,(fun h=>by cases h),h2⟩
theorem ai5{R:Env->aE->Prop}:WN S al [] R ak aj↔R ak aj:=⟨fun h=>VR.1 (h []),fun h _=>VR.2 h⟩
theorem adw{o:cq}{os:g_}{R:Env->aE->Prop}{w:Option Bool}(tr:i_):Fs S al w o ak aj tr (WO S al os fun e b _=>R e b)↔TI S al w o ak aj (WN S al os R):=by
 have k:∀ {e:Env} {b:aE} {t:i_},WO S al os (fun e b _=>R e b) e b t↔WN S al os R e b:=fun {e b t}=>⟨fun h t'=>ai6 h fun _ _ h=>h,fun h=>h t⟩;cases w with
 |none=>exact Iff.rfl
 |some w=>
  cases w with
  |false=>exact k (t:=tr++[⟨[],[],[]⟩])
  |true=>
   simp only[Fs,TI];cases bU S.shared ak aj o.op with
   |fail=>exact Iff.rfl
   |done v u r=>simp only[Hf,JX,k]
   |pc f vs r s=>
    simp only[Hf,JX];refine exists_congr fun x=>and_congr Iff.rfl ?_;cases land aj r s (x.iu (S.lone s)) with
    |none=>exact Iff.rfl
    |some y=>simp only[k]
   |sc f vs=>simp only[Hf,JX,k]
theorem aaw{o:cq}{os:g_}{R:Env->aE->Prop}:WN S al (o::os) R ak aj↔TI S al (wanted ak o.guard) o ak aj (WN S al os R):=by
 constructor
 .intro h;exact(adw []).1 (PS.1 (h []))
 intro h tr;exact PS.2 ((adw tr).2 h)
variable {o:cq} {K:Env->aE->Prop} {d:w_}
end
theorem bft:(false==true)=false:=rfl
theorem btf:(true==false)=false:=rfl
theorem bff:(false==false)=true:=rfl
theorem btt:(true==true)=true:=rfl
theorem agB{aj:aE}{x:PV}:j6 aj (.one (.p x))=some (.one (.p x)):=rfl
theorem norm_int(k:IntKind)(n:Int):(PV.int k n).norm=.int k n:=rfl
theorem agb(b:Bool):(PV.bool b).norm=.bool b:=rfl
theorem agk(s:ByteArray):(PV.str s).norm=.str s:=rfl
theorem agi:PV.nils.norm=.sl []:=rfl
theorem agj(es:s_):(PV.sl es).norm=.sl es:=rfl
theorem Za(es:b_):(PV.box es).norm=.box es:=rfl
theorem agc(f:Nat)(a b:b_):(PV.fn f a b).norm=.fn f a b:=rfl
theorem agh:PV.vK.norm=.vK:=rfl
theorem age:PV.zR.norm=.zR:=rfl
theorem agf:PV.sA.norm=.sA:=rfl
theorem agd(a:Bool)(e:t_):(PV.mp a e).norm=.mp a e:=rfl
theorem ahW{aj:aE}:CI aj []=some ([],[]):=rfl
def ZI(x:Option (V×a_))(y:Option (e_×a_)):Option (e_×a_):=match x,y with
 |some (b,x),some (bs,y)=>some (b::bs,x++y)
 |_,_=>none
theorem ahV{aj:aE}{x:V}{xs:e_}:CI aj (x::xs)=ZI (oX aj x) (CI aj xs):=by simp only[CI,ZI,collect];cases oX aj x<;>cases collect (oX aj) xs<;>rfl
theorem ahR{b:V}{x:a_}{bs:e_}{y:a_}:ZI (some (b,x)) (some (bs,y))=some (b::bs,x++y):=rfl
theorem ahU{aj:aE}{x:PV}:oX aj (.one (.p x))=some (.one (.p x.norm),[]):=rfl
end Go.Abs
