/-
  Each operation of the abstract machine is what the program does; the machine is sound in any order that a region draws; a quick evaluator; library functions.
-/
import Derived.Test.YtaajncoljnafjaaGreatDoorMa
import Derived.Laws.BytesString
import Derived.LoopN
import Derived.Scope
import Derived.Orders
import Derived.ChangeReads
import Derived.ChangeStays
import Derived.DataReads
import Derived.Below
import Derived.Sort.Grow
import Derived.Deep.Draws
import Derived.Lib.ItoaNum
import Derived.Lib.Join
import Derived.Lib.BitFns
import Derived.Lib.LaidTab
import Derived.ChangeSame
import Derived.ProofKit
import Derived.OpenShut
set_option linter.all false
namespace Go.Abs
variable {P:Program} {w0:World}
section
variable{ag:Bool}
def Qb(w:World)(own:Nat->Prop)(ag:Bool)(es:t_)(ents:Array MapEntry):Prop:=ents.size=es.length/\ ∀(i:Nat) (q:PV) (v:b_) (e:MapEntry),es[i]?=some (q,v)->ents[i]?=some e->cM w own q e.key/\ ∃g:Array Value,(ag=true->e.val=.agg g)/\(ag=false-> #[e.val]=g)/\dJ w own v g.toList
theorem Nt{w:World}{r:Nat}{es:Array MapEntry}{clock:Nat}(hb:w.heap[r]?=some (.map es clock)):(getObj r).run P w=.ok (.map es clock) w:=by simp[getObj,Sem.run,hb]
theorem ai6{w:World}{r:Nat}{es:Array MapEntry}{clock:Nat}{ob:Obj}(hb:w.heap[r]?=some (.map es clock)):(setObj r ob).run P w=.ok () {w with heap:=w.heap.setIfInBounds r ob}:=by simp[setObj,Sem.run,hb]
theorem ahq{w:World}{own:Nat->Prop}{es:t_}{v:Value}(h:cM w own (.mp ag es) v):
  ∃r ents clock,v=.map (some r)/\w.heap[r]?=some (.map ents clock)/\Qb w own ag es ents:=by
 cases h with
 |mp r ents clock g ho hb hl hk hv hr=>
  refine⟨r,ents,clock,rfl,hb,hl,fun i q v e h1 h2=>⟨hk i q v e h1 h2,g i,(hv i q v e h1 h2).2.1,(hv i q v e h1 h2).2.2,?_,fun j x u a b=>?_⟩⟩
  .simpa using(hv i q v e h1 h2).1
  exact hr i q v j x u h1 a (by simpa using b)
theorem Og{m:Mem}(ay:Ok w0 m){id g:Nat}{v:Value}(h:cq m (.one (.kL id g)) v){es:t_}(hb:m.aj id=(g,some (.map ag es))\/m.aj id=(g,some (.fmap ag es))):
  ∃r ents clock,v=.map (some r)/\r=m.σ id/\m.w.heap[r]?=some (.map ents clock)/\Qb m.w m.own ag es ents:=by
 have h:dq m (.kL id g) v:=h;cases h with
 |kL r hg hr=>
  rcases hb with hb|hb
  .obtain⟨ents,clock,h1,h2,h3⟩:=ay.obj id _ (congrArg Prod.snd hb);have:=hr (by rw[hb]) (by rw[hb];rfl);subst this;exact⟨_,ents,clock,rfl,rfl,h1,h2,h3⟩
  obtain⟨ents,clock,h1,h2,h3,_⟩:=ay.obj id _ (congrArg Prod.snd hb);have:=hr (by rw[hb]) (by rw[hb];rfl);subst this;exact⟨_,ents,clock,rfl,rfl,h1,h2,h3⟩
theorem asw{m:Mem}(ay:Ok w0 m){x:V}{v:Value}{es:t_}{r:a_}(h:mapOf m.aj ag x=some (es,r))(hv:cq m x v):
  ∃ents:Array MapEntry,((v=.map none/\ents= #[])\/ ∃ref clock,v=.map (some ref)/\m.w.heap[ref]?=some (.map ents clock))/\Qb m.w m.own ag es ents:=by
 unfold mapOf at h;split at h
 .cases h;exact⟨#[],.inl ⟨afR hv,rfl⟩,rfl,fun i q v e h=>by simp at h⟩
 .rename_i sL ib;split at h
  .rename_i e;subst e;cases h;obtain⟨hp⟩:dq m _ v:=hv;obtain⟨r,ents,clock,h1,h2,h3⟩:=ahq hp;exact⟨ents,.inr ⟨r,clock,h1,h2⟩,h3⟩
  cases h
 .rename_i id g;split at h
  .rename_i g' sL ib hb;split at h
   .rename_i hc;obtain⟨rfl,rfl⟩:=hc;cases h;obtain⟨r,ents,clock,h1,_,h2,h3⟩:=Og ay hv (.inl hb);exact⟨ents,.inr ⟨r,clock,h1,h2⟩,h3⟩
   cases h
  .rename_i g' sL ib hb;split at h
   .rename_i hc;obtain⟨rfl,rfl⟩:=hc;cases h;obtain⟨r,ents,clock,h1,_,h2,h3⟩:=Og ay hv (.inr hb);exact⟨ents,.inr ⟨r,clock,h1,h2⟩,h3⟩
   cases h
  cases h
 cases h
theorem arX{m:Mem}(ay:Ok w0 m){x:V}{v:Value}{n:Nat}{r:a_}(h:Bp m.aj x=some (n,r))(hv:cq m x v):
  (v=.map none/\n=0)\/ ∃ref ents clock,v=.map (some ref)/\m.w.heap[ref]?=some (.map ents clock)/\ents.size=n:=by
 unfold Bp at h;split at h
 .cases h;exact .inl ⟨afR hv,rfl⟩
 .cases h;obtain⟨hp⟩:dq m _ v:=hv;obtain⟨r,ents,clock,h1,h2,h3⟩:=ahq hp;exact .inr ⟨r,ents,clock,h1,h2,h3.1⟩
 .rename_i id g;split at h
  .rename_i g' sL ib hb;split at h
   .rename_i hc;subst hc;cases h;obtain⟨r,ents,clock,h1,_,h2,h3⟩:=Og ay hv (.inl hb);exact .inr ⟨r,ents,clock,h1,h2,h3.1⟩
   cases h
  .rename_i g' sL ib hb;split at h
   .rename_i hc;subst hc;cases h;obtain⟨r,ents,clock,h1,_,h2,h3⟩:=Og ay hv (.inr hb);exact .inr ⟨r,ents,clock,h1,h2,h3.1⟩
   cases h
  cases h
 cases h
def Fe(kind:TypeDesc)(kd:Nat):Prop:=(kd=0/\ ∃k,kind=.int k)\/(kd=1/\kind=.string)\/(kd=2/\kind=.bool)
theorem agJ{t:TypeId}{kd:Nat}(h:keyOf P t=some kd):∃kind,P.underlying t=some kind/\Fe kind kd:=by
 unfold keyOf at h;split at h
 .rename_i k hk;cases h;exact⟨_,hk,.inl ⟨rfl,_,rfl⟩⟩
 .rename_i hk;cases h;exact⟨_,hk,.inr (.inl ⟨rfl,rfl⟩)⟩
 .rename_i hk;cases h;exact⟨_,hk,.inr (.inr ⟨rfl,rfl⟩)⟩
 cases h
theorem ZI{w:World}{own:Nat->Prop}{k q:PV}{kv qv:Value}{kind:TypeDesc}{b:Bool}(hk:Fe kind (iW k))(h:sameKey k q=some b)(h1:cM w own k kv)(h2:cM w own q qv):Instr.sameNow kind kv qv=some b:=by
 unfold sameKey at h;split at h
 .rename_i a b' c d;split at h
  .rename_i e;subst e;cases h;rcases hk with⟨_,x,rfl⟩|⟨e,_⟩|⟨e,_⟩
   .cases h1;cases h2;simp[Instr.sameNow]
   .simp[iW]at e
   simp[iW]at e
  cases h
 .cases h;rcases hk with⟨e,_⟩|⟨_,rfl⟩|⟨e,_⟩
  .simp[iW]at e
  .cases h1;cases h2;simp[Instr.sameNow]
  simp[iW]at e
 .cases h;rcases hk with⟨e,_⟩|⟨e,_⟩|⟨_,rfl⟩
  .simp[iW]at e
  .simp[iW]at e
  cases h1;cases h2;simp[Instr.sameNow]
 cases h
theorem sameKey_eq{w:World}{own:Nat->Prop}{k q:PV}{kv qv:Value}(h:sameKey k q=some true)(h1:cM w own k kv)(h2:cM w own q qv):qv=kv:=by
 unfold sameKey at h;split at h
 .split at h
  .rename_i e;subst e;simp at h;subst h;cases h1;cases h2;rfl
  cases h
 .rename_i a b;have e:(a==b)=true:=by simpa using h
  rw[beq_toListBytes]at e;have e:a=b:=by
   have e:a.toList=b.toList:=by simpa using e
   rw[ByteArray.toList_eq,ByteArray.toList_eq]at e;exact ByteArray.ext (Array.toList_inj.1 e)
  subst e;cases h1;cases h2;rfl
 .simp at h;subst h;cases h1;cases h2;rfl
 cases h
theorem aeg{w:World}{own:Nat->Prop}{k:PV}{kv:Value}{kind:TypeDesc}(hk:Fe kind (iW k))(h1:cM w own k kv):∀ {es:t_}{l:List MapEntry}{i:Nat}{f:Option (Nat×b_)},
  l.length=es.length->(∀(j:Nat) (q:PV) (v:b_) (e:MapEntry),es[j]?=some (q,v)->l[j]?=some e->cM w own q e.key)->qF k es i=some f->
  (f=none/\Instr.findNow kind kv l i=some none)\/ ∃j q v e,f=some (i+j,v)/\es[j]?=some (q,v)/\l[j]?=some e/\sameKey k q=some true/\Instr.findNow kind kv l i=some (some (i+j,e.val)):=by
 intro es
 induction es with
 |nil=>
  intro l i f hl _ hf;simp[qF]at hf;cases l with
  |nil=>exact .inl ⟨hf.symm,rfl⟩
  |cons _ _=>simp at hl
 |cons p r ih=>
  intro l i f hl hq hf;obtain⟨a,v⟩:=p;cases l with
  |nil=>simp at hl
  |cons e l=>
   have pR:=hq 0 a v e rfl rfl;simp only[qF]at hf;split at hf
   .rename_i hs;cases hf;exact .inr ⟨0,a,v,e,rfl,rfl,rfl,hs,by simp[Instr.findNow,ZI hk hs h1 pR]⟩
   .rename_i hs;rcases ih (l:=l) (i:=i+1) (f:=f) (by simpa using hl) (fun j q v e a b=>hq (j+1) q v e (by simpa using a) (by simpa using b)) hf with⟨e1,e2⟩|⟨j,q,v',e',e1,e2,e3,e4,e5⟩
    .exact .inl ⟨e1,by simp[Instr.findNow,ZI hk hs h1 pR,e2]⟩
    refine .inr ⟨j+1,q,v',e',by rw[e1];congr 2;omega,by simpa using e2,by simpa using e3,e4,?_⟩;simp only[Instr.findNow,ZI hk hs h1 pR,e5];congr 3;omega
   cases hf
theorem amN{t:TypeId}{kind:TypeDesc}{kd:Nat}{b:Bool}{v:Value}(w:World)(h:P.underlying t=some kind)(hk:Fe kind kd)(n:Nat):(Instr.checkKey b (n+1) t v).run P w=.ok () w:=by rcases hk with⟨_,k,rfl⟩|⟨_,rfl⟩|⟨_,rfl⟩<;>simp[Instr.checkKey,run_underlying h]
theorem MP{t:TypeId}{kind:TypeDesc}{kd:Nat}{b:Bool}{v:Value}(w:World)(h:P.underlying t=some kind)(hk:Fe kind kd):(Instr.checkKey b 10000 t v).run P w=.ok () w:=amN w h hk 9999
theorem avg{w:World}{own:Nat->Prop}{k:PV}{kv:Value}{kind:TypeDesc}(hk:Fe kind (iW k))(h:cM w own k kv)(n:Nat):Instr.sameBits n kv kv=true:=by
 cases h<;>first
  |(simp[iW,Fe]at hk;done)
  |(simp[Instr.sameBits];done)
  |(simp[Instr.sameBits,beq_toListBytes];done)
theorem arw{w0 w:World}{own:Nat->Prop}{k:PV}{kv:Value}{kind:TypeDesc}(hk:Fe kind (iW k))(h:cM w0 own k kv):(Instr.keyThatStays kv kv).run P w=.ok kv w:=by rw[Instr.keyThatStays,avg hk h,aD rfl];rfl
theorem Rc{t:TypeId}{kind:TypeDesc}{v:Value}{l:List MapEntry}{r:Option (Nat×Value)}(w:World)(h:P.underlying t=some kind)(hf:Instr.findNow kind v l 0=some r):(Instr.findKey t v l).run P w=.ok r w:=by simp[Instr.findKey,run_underlying h,hf]
theorem ahk{m:Mem}{v:b_}{x:V}{val:Value}{g:Array Value}(h:mapVal ag v=some x)(h1:ag=true->val=.agg g)(h2:ag=false-> #[val]=g)(hp:dJ m.w m.own v g.toList):cq m x val/\pE m x val:=by
 cases ag with
 |true=>simp only[mapVal,fY]at h;subst h;exact⟨cq.agg.2 ⟨g,h1 rfl,hp.EL⟩,⟨g,h1 rfl,hp.EL⟩⟩
 |false=>
  have h2:=h2 rfl;subst h2;cases v with
  |nil=>simp[mapVal]at h
  |cons c r=>
   cases r with
   |nil=>simp only[mapVal,fY]at h;subst h;have:=hp.2 0 c val rfl rfl;exact⟨nA this,dq.p this⟩
   |cons _ _=>simp[mapVal]at h
section
variable {m:Mem} {ak:Env} {a:Act} {o:Oper} (ay:Ok w0 m) (hr:jz m ak a.tmps)
include ay
theorem avQ{t kt e:TypeId}{s:Nat}(ho:o.op=.makeMap t none):
  fZ P w0 a.eval o m (.one (.kL s ((m.aj s).1+1))) [(s,((m.aj s).1+1,some (.map ag [])))]:=by
 refine⟨.map (some m.w.heap.size),m.fresh (.map #[] 0) s 0 (.map ag []),.inl ?_,aew ay _ s 0 _ ⟨#[],0,aev _ s 0 _,rfl,fun i q v e h=>by simp at h⟩,Ri _ s 0 _,Xj ay _ s 0 _,Xi _ _ s 0 _,cq.one.2 (.kL _ ?_ fun _ _=>?_)⟩
 .simp[execOp,ho,Instr.makeMap];rfl
 .simp[Mem.fresh,Mem.install,Mem.later,aP]
 simp[Mem.fresh,Mem.install,aP]
include hr
theorem avS{c:Call}{x:Operand}{x':aU}{t k e:TypeId}{n:Nat}{r:a_}(ho:o.op=.call c)(hc:c.callee=.builtin .len)(has:c.args= #[x])(jI:c.argTypes[0]?=some t)(ht:P.underlying t=some (.map k e))
  (hx:cX x=some x') (hv:Bp m.aj (ev ak x')=some (n,r)):fZ P w0 a.eval o m (.one (.p (.int .i64 n))) []:=by
 refine .calm ay ?_ (nA (.int _ _));have h0:(#[a.eval x]:Array Value)[0]?=some (a.eval x):=rfl;rcases arX ay hv (eU hx hr)with⟨h1,rfl⟩|⟨ref,ents,clock,h1,h2,rfl⟩
 .simp[execOp,ho,resolve,hc,has,jI,invoke,builtin,Builtin.len_,run_underlying ht,h1,goInt]
 simp[execOp,ho,resolve,hc,has,jI,invoke,builtin,Builtin.len_,run_underlying ht,h1,goInt,Nt h2]
theorem avM{t kt e:TypeId}{x k:Operand}{x' k':aU}{ok:Bool}{z:b_}{q:w_}{kd:Nat}{es:t_}{r:a_}{key:PV}{f:Option (Nat×b_)}{w:V}(ho:o.op=.lookup t x k ok)(ht:P.underlying t=some (.map kt e))
  (hz:BC P e=some z) (Ch:keyOf P kt=some kd) (zA:TM P e=q.isSome) (hx:cX x=some x') (hk:cX k=some k') (hm:mapOf m.aj q.isSome (ev ak x')=some (es,r)) (Ef:ev ak k'=.one (.p key)) (w9:iW key=kd)
  (hf:qF key es 0=some f) (hw:mapVal q.isSome ((f.map (·.2)).getD z)=some w):fZ P w0 a.eval o m (if ok then .tup [w,.one (.p (.bool f.isSome))]else w) []:=by
 obtain⟨kind,Bk,Eg⟩:=agJ Ch;obtain⟨ents,Rx,hl,eQ⟩:=asw ay hm (eU hx hr);have Od:=eU hk hr;rw[Ef]at Od;obtain⟨dM⟩:dq m _ _:=Od;have gb:(∃ref clock,a.eval x=.map (some ref)/\m.w.heap[ref]?=some (.map ents clock))\/a.eval x=.map none/\ents= #[]:=by
  rcases Rx with h|h
  .exact .inr h
  exact .inl h
 have key:∀(val:Value) (b:Bool),cq m w val->pE m w val->f.isSome=b->(Instr.lookup t (a.eval x) (a.eval k) ok).run P m.w=.ok (if ok then .tuple #[val,.bool b]else val) m.w->fZ P w0 a.eval o m (if ok then .tup [w,.one (.p (.bool f.isSome))]else w) []:=by
  intro val b h1 j6 h2 h3;refine .calm ay (x:=if ok then .tuple #[val,.bool b]else val) ?_ ?_
  .simp[execOp,ho,h3]
  cases ok
  .exact h1
  refine⟨_,rfl,rfl,fun j y u p q=>?_⟩;rcases j with _|_|j
  .simp at p q;subst p q;exact j6
  .simp at p q;subst p q;rw[h2];exact dq.p (.bool _)
  simp at p
 rcases aeg (kind:=kind) (by rw[w9];exact Eg) dM (l:=ents.toList) (by simpa using hl) (fun j q v e h1 h2=>(eQ j q v e h1 (by simpa using h2)).1) hf with⟨rfl,hn⟩|⟨j,q',v,e',rfl,h2,h3,_,hn⟩
 .obtain⟨zv,i,hi,yt,KT,mN,dS⟩:=PJ hz;obtain⟨v1,v2⟩:=ahk (m:=m) (val:=zv) (g:=zv.cells) hw (fun hq=>by
    rw[hq]at zA;unfold TM at zA;rw[hi]at zA;simp only[yt]at zA;cases zv<;>simp[Value.cells]at zA |-) (fun hq=>by
    rw[hq]at zA;unfold TM at zA;rw[hi]at zA;simp only[yt]at zA;cases zv<;>simp[Value.cells]at zA |-) (dS m.w m.own)
  refine key zv false v1 v2 rfl ?_;have FT:=Rc (P:=P) m.w Bk hn;rcases gb with⟨ref,clock,h1,h2⟩|⟨h1,h2⟩
  .cases ok<;>simp[Instr.lookup,run_underlying ht,h1,Nt h2,MP m.w Bk Eg,FT,zeroValue,typeInfo,hi,yt]
  subst h2;cases ok<;>simp[Instr.lookup,run_underlying ht,h1,MP m.w Bk Eg,Instr.findKey,run_underlying Bk,Instr.findNow,zeroValue,typeInfo,hi,yt]
 obtain⟨hqk,g,HM,Ec,dS⟩:=eQ j q' v e' h2 (by simpa using h3);obtain⟨v1,v2⟩:=ahk hw HM Ec dS;refine key e'.val true v1 v2 rfl ?_;have FT:=Rc (P:=P) m.w Bk hn;rcases gb with⟨ref,clock,h1,h2⟩|⟨h1,h2⟩
 .cases ok<;>simp[Instr.lookup,run_underlying ht,h1,Nt h2,MP m.w Bk Eg,FT]
 subst h2;simp at h3
theorem ajc{t kt e:TypeId}{x k y:Operand}{x' k' y':aU}{kd:Nat}{ag:Bool}{id g:Nat}{es:t_}{key:PV}{cs:f_}{ps:b_}{f:Option (Nat×b_)}(ho:o.op=.mapUpdate t x k y\/o.op=.insert t x k y)(ht:P.underlying t=some (.map kt e))
  (Ch:keyOf P kt=some kd) (hx:cX x=some x') (hk:cX k=some k') (hy:cX y=some y') (hm:ev ak x'=.one (.kL id g)) (hb:m.aj id=(g,some (.map ag es))) (Ef:ev ak k'=.one (.p key)) (w9:iW key=kd)
  (dA:zc ag (ev ak y')=some cs) (dS:C0 cs=some ps) (hf:qF key es 0=some f):
  fZ P w0 a.eval o m .undef [(id,(g,some (.map ag (match f with|some (i,_)=>es.set i (key,ps)|none=>es++[(key,ps)]))))]:=by
 obtain⟨kind,Bk,Eg⟩:=agJ Ch;have hxr:=eU hx hr;rw[hm]at hxr;have hid:=congrArg Prod.snd hb;have hg:=congrArg Prod.fst hb;obtain⟨ref,ents,clock,yz,aZ,hh,hl,eQ⟩:=Og ay hxr (.inl hb);subst aZ;have Od:=eU hk hr;rw[Ef]at Od;obtain⟨dM⟩:dq m _ _:=Od;have hyr:=eU hy hr
 -- the value's cells
 have hval:∃gv:Array Value,(ag=true->a.eval y=.agg gv)/\(ag=false-> #[a.eval y]=gv)/\dJ m.w m.own ps gv.toList:=by
  generalize ev ak y'=vy at dA hyr;cases ag with
  |true=>
   cases vy<;>simp[zc]at dA
   subst dA;obtain⟨arr,h1,h2⟩:=cq.agg.1 hyr;exact⟨arr,fun _=>h1,fun h=>(by cases h),Px dS h2⟩
  |false=>
   cases vy<;>simp[zc]at dA
   subst dA;refine⟨#[a.eval y],fun h=>(by cases h),fun _=>rfl,Px dS ⟨rfl,fun j x u p q=>?_⟩⟩;rcases j with _|j
   .simp at p q;subst p q;exact hyr
   simp at p
 obtain⟨gv,zT,qO,hvp⟩:=hval;have aA:=wZ hh;have KX:∀(DN:Array MapEntry) (Fm:Nat) (ib:t_),(execOp a.eval o).run P m.w=.ok .skip {m.w with heap:=m.w.heap.setIfInBounds (m.σ id) (.map DN Fm)}->Qb m.w m.own ag ib DN->
   fZ P w0 a.eval o m .undef [(id,(g,some (.map ag ib)))]:=by
  intro DN Fm ib kh Rx;have hs:(m.w.heap.setIfInBounds (m.σ id) (.map DN Fm)).size=m.w.heap.size:=af;have hko:∀c,c≠m.σ id->(m.w.heap.setIfInBounds (m.σ id) (.map DN Fm))[c]?=m.w.heap[c]? :=fun c hc=>by rw[TQ];rw[au (fun e=>hc e.symm)]
  have eF:Ev m (m.kO {m.w with heap:=m.w.heap.setIfInBounds (m.σ id) (.map DN Fm)} id (.map ag ib)):=Pq hid rfl rfl rfl rfl rfl hs hko;refine⟨_,m.kO {m.w with heap:=m.w.heap.setIfInBounds (m.σ id) (.map DN Fm)} id (.map ag ib),.inr ⟨kh,rfl⟩,Ti hid rfl ay rfl rfl rfl rfl hs hko ?_,eF,rfl,?_,rfl⟩
  .refine⟨DN,Fm,?_,Rx.1,fun i q v e h1 h2=>?_⟩
   .show(m.w.heap.setIfInBounds (m.σ id) (.map DN Fm))[m.σ id]?=_;rw[TQ,aD rfl,aD aA]
   obtain⟨p1,gg,p2,p3,p4⟩:=Rx.2 i q v e h1 h2;exact⟨p1.ev eF.zero,gg,p2,p3,p4.ev eF.zero⟩
  simp only[Mem.kO,app,hg]
 rcases aeg (kind:=kind) (by rw[w9];exact Eg) dM (l:=ents.toList) (by simpa using hl) (fun j q v e h1 h2=>(eQ j q v e h1 (by simpa using h2)).1) hf with⟨rfl,hn⟩|⟨j,q',v,e',rfl,h2,h3,h4,hn⟩
 .refine KX (ents.push {key:=a.eval k,val:=a.eval y,born:=clock}) (clock+1) _ ?_ ?_
  .have FT:=Rc (P:=P) m.w Bk hn;rcases ho with ho|ho<;>simp[execOp,ho,Instr.mapUpdate,run_underlying ht,yz,Nt hh,MP m.w Bk Eg,FT,ai6 hh]
  refine⟨by simp[hl],fun i q v e h1 h2=>?_⟩;by_cases hi:i<es.length
  .rw[xM hi]at h1;rw[TP,au aa]at h2;exact eQ i q v e h1 h2
  rw[Aq aa]at h1;have:i=es.length:=by
   by_cases h:i-es.length=0
   .omega
   have:=(aT.1 h1).1;simp at this;omega
  subst this;simp at h1;obtain⟨rfl,rfl⟩:=h1;rw[TP,aD hl.symm]at h2;cases h2;exact⟨dM,gv,zT,qO,hvp⟩
 have rD:ents[j]?=some e':=by simpa using h3
 have hqe:e'.key=a.eval k:=sameKey_eq h4 dM (eQ j q' v e' h2 rD).1;refine KX (ents.modify j fun e=>{e with key:=a.eval k,val:=a.eval y}) clock _ ?_ ?_
 .have FT:=Rc (P:=P) m.w Bk hn;rw[jx]at FT;have KB:(Instr.keyThatStays e'.key (a.eval k)).run P m.w=.ok (a.eval k) m.w:=by rw[hqe];exact arw (kind:=kind) (by rw[w9];exact Eg) dM
  rcases ho with ho|ho<;>simp[execOp,ho,Instr.mapUpdate,run_underlying ht,yz,Nt hh,MP m.w Bk Eg,FT,ai6 hh,rD,KB]
 simp only[jx];refine⟨by simp[hl],fun i q v e h1 h2=>?_⟩;rw[qZ]at h1;rw[Array.getElem?_modify]at h2;by_cases ij:j=i
 .subst ij;rw[aD rfl]at h1;split at h1
  .cases h1;simp[rD]at h2;subst h2;exact⟨dM,gv,zT,qO,hvp⟩
  cases h1
 rw[au ij]at h1;rw[au ij]at h2;exact eQ i q v e h1 h2
end
end
end Go.Abs
namespace Go.Abs
variable {P:Program} {w0:World}
theorem aiY{t:TypeId}{b:Bool}(h:Th P t=some b):(b=true/\ ∃k,P.underlying t=some (.int k))\/(b=false/\P.underlying t=some .bool):=by
 unfold Th at h;split at h
 .rename_i k hk;cases h;exact .inl ⟨rfl,_,hk⟩
 .rename_i hk;cases h;exact .inr ⟨rfl,hk⟩
 cases h
theorem an3{a b:PV}{r:Bool}(h:vC true a b=some r):∃k x y,a=.int k x/\b=.int k y/\r=(x==y):=by
 cases a<;>cases b<;>simp[vC]at h
 exact⟨_,_,_,rfl,by rw[h.1],h.2.symm⟩
theorem an2{a b:PV}{r:Bool}(h:vC false a b=some r):∃x y,a=.bool x/\b=.bool y/\r=(x==y):=by
 cases a<;>cases b<;>simp[vC]at h
 exact⟨_,_,rfl,rfl,h.symm⟩
theorem an5{as bs:f_}{r:Bool}(h:wU [] as bs=some r):r=true:=by
 cases as<;>cases bs<;>simp[wU]at h
 exact h
theorem an4{k:Bool}{ks:m_}{as bs:f_}{r:Bool}(h:wU (k::ks) as bs=some r):
  ∃a ar b br r0,as=.p a::ar/\bs=.p b::br/\vC k a b=some r0/\(r0=true->wU ks ar br=some r)/\(r0=false->r=false):=by
 cases as with
 |nil=>simp[wU]at h
 |cons x ar=>
  cases bs with
  |nil=>cases x<;>simp[wU]at h
  |cons y br=>
   cases x<;>cases y<;>simp only[wU]at h<;>try cases h
   rename_i a b;cases he:vC k a b with
   |none=>simp[he]at h
   |some r0=>
    refine⟨a,ar,b,br,r0,rfl,rfl,he,fun e=>?_,fun e=>?_⟩
    .subst e;simpa [he]using h
    subst e;simp[he]at h;exact h
theorem an6{w:World}{m:Mem}(d:Nat){A B:Array Value}:∀ {fs:List Field}{ks:m_}{k:Nat}{as bs:f_}{r:Bool},LI P k fs=some ks->wU ks as bs=some r->
  (∀(j:Nat) (x:C),as[j]?=some x->∃v,A[k+j]?=some v/\dq m x v)->(∀(j:Nat) (x:C),bs[j]?=some x->∃v,B[k+j]?=some v/\dq m x v)->
  (Op.eqFields (d+1) A B fs).run P w=.ok r w:=by
 intro fs
 induction fs with
 |nil=>intro ks k as bs r hf he _ _;simp[LI]at hf;subst hf;rw[an5 he];simp[Op.eqFields,Sem.run_pure]
 |cons f fs ih=>
  intro ks k as bs r hf he ha hb;simp only[LI]at hf;split at hf
  .rename_i b DB h1 h2;split at hf
   .rename_i hc;obtain⟨X5,aqo⟩:=hc;cases hf;obtain⟨x,ar,y,br,r0,rfl,rfl,h0,ht,hf⟩:=an4 he;obtain⟨va,hva,xh⟩:=ha 0 (.p x) rfl;obtain⟨vb,hvb,sa⟩:=hb 0 (.p y) rfl;obtain⟨xh⟩:=xh;obtain⟨sa⟩:=sa;rw[vr]at hva hvb;have OB:∀(X:Array Value) (v:Value),X[k]?=some v->(part f.type X f.offset).run P w=.ok v w:=by
     intro X v hX;have zA:(isAgg f.type).run P w=.ok false w:=by rcases aiY h1 with⟨_,kk,hu⟩|⟨_,hu⟩<;>simp[isAgg,run_underlying hu]
     rw[X5];simp[part,zA,hX]
    have apZ:(Op.equalIn (d+1) f.type va vb).run P w=.ok r0 w:=by
     rcases aiY h1 with⟨rfl,kk,hu⟩|⟨rfl,hu⟩
     .obtain⟨k',p,q,rfl,rfl,rfl⟩:=an3 h0;cases xh;cases sa;simp[Op.equalIn,run_underlying hu]
     obtain⟨p,q,rfl,rfl,rfl⟩:=an2 h0;cases xh;cases sa;simp[Op.equalIn,run_underlying hu]
    simp only[Op.eqFields,aD aqo,Sem.run_bind,OB A va hva,OB B vb hvb,apZ,Result.andThen_ok];cases r0 with
    |false=>rw[hf rfl];simp[Sem.run_pure]
    |true=>simp only[Ao,dN,if_false];exact ih h2 (ht rfl) (fun j x hx=>by have:=ha (j+1) x (by simpa using hx);rwa[show k+(j+1)=k+1+j by omega]at this) (fun j x hx=>by have:=hb (j+1) x (by simpa using hx);rwa[show k+(j+1)=k+1+j by omega]at this)
   cases hf
  cases hf
def Dm:wJ->Value->Bool->Prop
 | .ptr,v,b=>∃a,v=.pointer a/\a.isNone=b
 | .slc,v,b=>∃a l c,v=.slice a l c/\a.isNone=b
 | .map,v,b=>∃r,v=.map r/\r.isNone=b
 | .fnc,v,b=>(v=.nilFunc/\b=true)\/ ∃f x y,v=.func f x y/\b=false
 | .ifc,v,b=>(v=.nilIface/\b=true)\/ ∃d x,v=.iface d x/\b=false
 |_,_,_=>False
theorem zV{m:Mem}{k:wJ}{x:V}{v:Value}{b:Bool}(h:Ii k x=some b)(hr:cq m x v):Dm k v b:=by
 unfold Ii at h;split at h<;>cases h
 all_goals first
  |(obtain⟨hp⟩:dq m _ v:=hr;cases hp;first
    |exact⟨_,rfl,rfl⟩
    |exact⟨_,_,_,rfl,rfl⟩
    |exact .inl ⟨rfl,rfl⟩
    |exact .inr ⟨_,_,_,rfl,rfl⟩
    |exact .inr ⟨_,_,rfl,rfl⟩)
  |(have hc:dq m _ v:=hr;cases hc;first
    |exact⟨_,rfl,rfl⟩
    |exact⟨_,_,_,rfl,rfl⟩
    |exact .inr ⟨_,_,_,rfl,rfl⟩)
def Ua(P:Program)(t:TypeId):wJ->Prop
 | .bool=>P.underlying t=some .bool
 | .ptr=>∃e,P.underlying t=some (.pointer e)
 | .slc=>∃e,P.underlying t=some (.slice e)
 | .map=>∃a b,P.underlying t=some (.map a b)
 | .fnc=>∃a b c,P.underlying t=some (.func a b c)
 | .ifc=>∃a,P.underlying t=some (.interface a)
 | .str ks=>∃fs,P.underlying t=some (.struct fs)/\P.stoodInHeld t=false/\P.eqGuardType P.depth t=false/\LI P 0 fs.toList=some ks
theorem acT{t:TypeId}{x y:Operand}{k:wJ}(h:Nb P t x y=some k):Ua P t k/\(k=.ifc->Li x=true\/Li y=true):=by
 unfold Nb at h;split at h
 .rename_i a ha;split at h
  .rename_i hc;cases h;exact⟨⟨_,ha⟩,fun _=>by simpa using hc⟩
  cases h
 .rename_i ha;cases h;exact⟨ha,fun e=>by cases e⟩
 .rename_i ha;cases h;exact⟨⟨_,ha⟩,fun e=>by cases e⟩
 .rename_i ha;cases h;exact⟨⟨_,ha⟩,fun e=>by cases e⟩
 .rename_i ha;cases h;exact⟨⟨_,_,ha⟩,fun e=>by cases e⟩
 .rename_i ha;cases h;exact⟨⟨_,_,_,ha⟩,fun e=>by cases e⟩
 .rename_i fs ha;split at h
  .rename_i hc;simp only[dT]at h;obtain⟨ks,h1,rfl⟩:=h;simp at hc;exact⟨⟨fs,ha,hc.1,hc.2,h1⟩,fun e=>by cases e⟩
  cases h
 cases h
theorem acU{t:TypeId}{k:wJ}{v u:Value}{a b:Bool}(w:World)(hk:Ua P t k)(h1:Dm k v a)(h2:Dm k u b)(dL:a=true\/b=true)(d:Nat):(Op.equalIn (d+1) t v u).run P w=.ok (a&&b) w:=by
 cases k with
 |bool=>exact h1.elim
 |str n=>exact h1.elim
 |ptr=>obtain⟨e,hu⟩:=hk;obtain⟨x,rfl,rfl⟩:=h1;obtain⟨y,rfl,rfl⟩:=h2;cases x<;>cases y<;>simp at dL<;>simp[Op.equalIn,run_underlying hu]
 |slc=>obtain⟨e,hu⟩:=hk;obtain⟨x,_,_,rfl,rfl⟩:=h1;obtain⟨y,_,_,rfl,rfl⟩:=h2;cases x<;>cases y<;>simp at dL<;>simp[Op.equalIn,run_underlying hu]
 |map=>obtain⟨e,e',hu⟩:=hk;obtain⟨x,rfl,rfl⟩:=h1;obtain⟨y,rfl,rfl⟩:=h2;cases x<;>cases y<;>simp at dL<;>simp[Op.equalIn,run_underlying hu]
 |fnc=>obtain⟨e,e',e'',hu⟩:=hk;rcases h1 with⟨rfl,rfl⟩|⟨_,_,_,rfl,rfl⟩<;>rcases h2 with⟨rfl,rfl⟩|⟨_,_,_,rfl,rfl⟩<;>simp at dL<;>simp[Op.equalIn,run_underlying hu]
 |ifc=>obtain⟨e,hu⟩:=hk;rcases h1 with⟨rfl,rfl⟩|⟨_,_,rfl,rfl⟩<;>rcases h2 with⟨rfl,rfl⟩|⟨_,_,rfl,rfl⟩<;>simp at dL<;>simp[Op.equalIn,run_underlying hu]
section
variable {m:Mem} {ak:Env} {a:Act} {o:Oper} (ay:Ok w0 m) (hr:jz m ak a.tmps)
include ay hr
theorem aoa{t:TypeId}{k:wJ}{x y:V}{v u:Value}{b:Bool}(hk:Ua P t k)(h:DO k x y=some b)(hx:cq m x v)(hy:cq m y u)(d:Nat):(Op.equalIn (d+2) t v u).run P m.w=.ok b m.w:=by
 have _u0:=ay;have _u1:=hr;unfold DO at h;split at h
 .cases h;rw[Gc hx,Gc hy];have hk:P.underlying t=some .bool:=hk;simp only[Op.equalIn,Sem.run_bind,run_underlying hk,Result.andThen_ok,Sem.run_pure]
 .obtain⟨A,rfl,hA⟩:=cq.agg.1 hx;obtain⟨B,rfl,hB⟩:=cq.agg.1 hy;obtain⟨fs,hu,hs,_,hf⟩:=hk;have Be:P.fieldsOf t=fs:=by simp[Program.fieldsOf,hu]
  rw[run_equalIn_agg m.w (d+1) t A B (by rw[Be];exact hu) hs,Be];refine an6 (w:=m.w) (m:=m) d hf h (fun j x hx=>?_) (fun j x hx=>?_)
  .have aA:j<A.size:=by have:=hA.1;simp at this;rw[this];exact(aT.1 hx).1
   exact⟨A[j],by simp[aA],hA.2 j x _ hx (by simp[aA])⟩
  have aA:j<B.size:=by have:=hB.1;simp at this;rw[this];exact(aT.1 hx).1
  exact⟨B[j],by simp[aA],hB.2 j x _ hx (by simp[aA])⟩
 .cases h
 .cases h
 split at h
 .rename_i hb;have:=acU (P:=P) m.w hk (zV h hx) (zV hb hy) (.inr rfl) (d+1)
  simpa using this
 split at h
 .rename_i ha;have:=acU (P:=P) m.w hk (zV ha hx) (zV h hy) (.inl rfl) (d+1)
  simpa using this
 cases h
theorem an7{op:BinOp}{t:TypeId}{k:wJ}{x y:Operand}{x' y':aU}{b:Bool}(hk:Nb P t x y=some k)(hx:cX x=some x')(hy:cX y=some y')(h:DO k (ev ak x') (ev ak y')=some b):
  (eqGuard op t x y (a.eval x) (a.eval y)).run P m.w=.ok () m.w:=by
 have _u0:=ay;obtain⟨df,jr⟩:=acT hk;have h1:=eU hx hr;have h2:=eU hy hr;by_cases hop:op=.eql\/op=.neq
 .unfold DO at h;split at h
  .rename_i e1 e2;rw[e1]at h1;rw[Gc h1,eqGuard_at_bool];rfl
  .rename_i e1 e2;rw[e1]at h1;rw[e2]at h2;obtain⟨A,e3,_⟩:=cq.agg.1 h1;obtain⟨B,e4,_⟩:=cq.agg.1 h2;obtain⟨fs,_,_,hg,_⟩:=df;rw[e3,e4];exact run_eqGuard_agg m.w op t x y A B hg
  .cases h
  .cases h
  rename_i k q1 q2 q3 q4 q5 q6 q7;have hn:∃b1 b2,Dm k (a.eval x) b1/\Dm k (a.eval y) b2:=by
   split at h
   .rename_i hb;exact⟨_,_,zV h h1,zV hb h2⟩
   split at h
   .rename_i ha;exact⟨_,_,zV ha h1,zV h h2⟩
   cases h
  obtain⟨b1,b2,n1,n2⟩:=hn;cases k with
  |bool=>exact n1.elim
  |str n=>exact n1.elim
  |ptr=>obtain⟨q,e,_⟩:=n1;rw[e,eqGuard_at_pointer];rfl
  |slc=>obtain⟨q,_,_,e,_⟩:=n1;rw[e,eqGuard_at_slice];rfl
  |map=>obtain⟨q,e,_⟩:=n1;rw[e,eqGuard_at_map];rfl
  |fnc=>
   rcases n1 with⟨e,_⟩|⟨_,_,_,e,_⟩
   .rw[e,eqGuard_at_nilFunc];rfl
   rw[e,eqGuard_at_func];rfl
  |ifc=>
   rcases n1 with⟨e,_⟩|⟨_,_,e,_⟩
   .rcases n2 with⟨e',_⟩|⟨_,_,e',_⟩
    .rw[e,e'];have hc:(∃c,x=.const c)\/ ∃c,y=.const c:=by
      rcases jr rfl with hc|hc
      .cases x<;>simp[Li]at hc
       exact .inl ⟨_,rfl⟩
      cases y<;>simp[Li]at hc
      exact .inr ⟨_,rfl⟩
     rcases hc with⟨c,rfl⟩|⟨c,rfl⟩
     .rw[eqGuard_nil_constL];rfl
     rw[eqGuard_nil_constR];rfl
    rw[e,e',eqGuard_nil_iface];rfl
   rw[e,eqGuard_at_iface];rfl
 have:eqGuard op t x y (a.eval x) (a.eval y)=pure ():=by
  cases op<;>first
   |rfl
   |exact(hop (.inl rfl)).elim
   |exact(hop (.inr rfl)).elim
 rw[this];rfl
theorem amo{t:TypeId}{k:wJ}{v u:Value}{b1:Bool}(hs:(∃p q,v=.bool p/\u=.bool q)\/(∃p q,v=.agg p/\u=.agg q)\/ ∃p q,Dm k v p/\Dm k u q)(h:(Op.equalIn (9998+2) t v u).run P m.w=.ok b1 m.w):
  (binOp .eql t v u).run P m.w=.ok (.bool b1) m.w/\(binOp .neq t v u).run P m.w=.ok (.bool (!b1)) m.w:=by
 have _u0:=ay;have _u1:=hr;have he:Op.equal t v u=Op.equalIn (9998+2) t v u:=rfl;have key:binOp .eql t v u=(do pure (.bool (<-Op.equal t v u)))/\binOp .neq t v u=(do pure (.bool (!(<-Op.equal t v u)))):=by
  rcases hs with⟨p,q,rfl,rfl⟩|⟨p,q,rfl,rfl⟩|⟨p,q,h1,h2⟩
  .exact⟨rfl,rfl⟩
  .exact⟨rfl,rfl⟩
  cases k with
  |bool=>exact h1.elim
  |str n=>exact h1.elim
  |ptr=>obtain⟨_,rfl,_⟩:=h1;obtain⟨_,rfl,_⟩:=h2;exact⟨rfl,rfl⟩
  |slc=>obtain⟨_,_,_,rfl,_⟩:=h1;obtain⟨_,_,_,rfl,_⟩:=h2;exact⟨rfl,rfl⟩
  |map=>obtain⟨_,rfl,_⟩:=h1;obtain⟨_,rfl,_⟩:=h2;exact⟨rfl,rfl⟩
  |fnc=>rcases h1 with⟨rfl,_⟩|⟨_,_,_,rfl,_⟩<;>rcases h2 with⟨rfl,_⟩|⟨_,_,_,rfl,_⟩<;>exact⟨rfl,rfl⟩
  |ifc=>rcases h1 with⟨rfl,_⟩|⟨_,_,rfl,_⟩<;>rcases h2 with⟨rfl,_⟩|⟨_,_,rfl,_⟩<;>exact⟨rfl,rfl⟩
 rw[key.1,key.2,he];simp only[Sem.run_bind,h,Result.andThen_ok,Sem.run_pure,and_self]
theorem aja{op:BinOp}{t ty:TypeId}{x y:Operand}{x' y':aU}{k:wJ}{neg b:Bool}(ho:o.op=.binOp op t x y ty)(hop:(op=.eql/\neg=false)\/(op=.neq/\neg=true))(hk:Nb P t x y=some k)(hx:cX x=some x')(hy:cX y=some y')
  (hv:DO k (ev ak x') (ev ak y')=some b):fZ P w0 a.eval o m (.one (.p (.bool (if neg then !b else b)))) []:=by
 have h1:=eU hx hr;have h2:=eU hy hr;have hg:=an7 ay hr (op:=op) hk hx hy hv;have he:=aoa ay hr (acT hk).1 hv h1 h2 9998;have hs:(∃p q,a.eval x=.bool p/\a.eval y=.bool q)\/(∃p q,a.eval x=.agg p/\a.eval y=.agg q)\/ ∃p q,Dm k (a.eval x) p/\Dm k (a.eval y) q:=by
  unfold DO at hv;split at hv
  .rename_i e1 e2;rw[e1]at h1;rw[e2]at h2;exact .inl ⟨_,_,Gc h1,Gc h2⟩
  .rename_i e1 e2;rw[e1]at h1;rw[e2]at h2;obtain⟨A,e3,_⟩:=cq.agg.1 h1;obtain⟨B,e4,_⟩:=cq.agg.1 h2;exact .inr (.inl ⟨A,B,e3,e4⟩)
  .cases hv
  .cases hv
  split at hv
  .rename_i hb;exact .inr (.inr ⟨_,_,zV hv h1,zV hb h2⟩)
  split at hv
  .rename_i ha;exact .inr (.inr ⟨_,_,zV ha h1,zV hv h2⟩)
  cases hv
 obtain⟨r1,r2⟩:=amo ay hr hs he;rcases hop with⟨rfl,rfl⟩|⟨rfl,rfl⟩
 .exact .calm ay (by simp[execOp,ho,hg,r1]) (nA (.bool _))
 exact .calm ay (by simp[execOp,ho,hg,r2]) (nA (.bool _))
end
end Go.Abs
namespace Go.Abs
variable {P:Program} {w0:World}
theorem ams:∀ {es:s_}{bs:p_},bytesOf es=some bs->∃ns:d_,es.flatten=ns.map (PV.int .u8)/\bs=ns.map (fun n=>UInt8.ofNat n.toNat)/\ns.length=es.length:=by
 intro es
 induction es with
 |nil=>intro bs h;simp[bytesOf]at h;exact⟨[],rfl,h,rfl⟩
 |cons e r ih=>
  intro bs h;unfold bytesOf at h;split at h
  .rename_i e';cases e'
  .rename_i n r' e';cases e';simp only[dT]at h;obtain⟨q,hq,rfl⟩:=h;obtain⟨ns,h1,h2,h3⟩:=ih hq;exact⟨n::ns,by simp[h1],by simp[h2],by simp[h3]⟩
  cases h
theorem auB{w:World}{own:Nat->Prop}:∀ {ns:d_}{vs:List Value},Pw (cM w own) (ns.map (PV.int .u8)) vs->vs=ns.map (Value.int .u8):=by
 intro ns
 induction ns with
 |nil=>intro vs h;have:=h.1;simp at this;simp[this]
 |cons n ns ih=>
  intro vs h;cases vs with
  |nil=>have:=h.1;simp at this
  |cons v vs=>have h0:=h.2 0 _ v rfl rfl;cases h0;rw[ih (vs:=vs) ⟨by have:=h.1;simpa using this,fun j x u a b=>h.2 (j+1) x u (by simpa using a) (by simpa using b)⟩];rfl
theorem auw:∀(ns:d_) (s:ByteArray),ns.foldl (fun r n=>r.push (UInt8.ofNat n.toNat)) s=⟨s.data++(ns.map (fun n=>UInt8.ofNat n.toNat)).toArray⟩:=by
 intro ns
 induction ns with
 |nil=>intro s;cases s;simp
 |cons n ns ih=>intro s;simp only[BD,ek];rw[ih];cases s;simp[ByteArray.push]
section
variable {m:Mem} {ak:Env} {a:Act} {o:Oper} (ay:Ok w0 m) (hr:jz m ak a.tmps)
include ay hr
theorem avB{s d e:TypeId}{x:Operand}{x':aU}{es:s_}{r:a_}{bs:p_}(ho:o.op=.convert s d x)(hs:P.underlying s=some (.slice e))(he:P.underlying e=some (.int .u8))(hd:P.underlying d=some .string)
  (hx:cX x=some x') (dB:fN m.aj (ev ak x')=some (es,r,[])) (hb:bytesOf es=some bs):fZ P w0 a.eval o m (.one (.p (.str ⟨bs.toArray⟩))) []:=by
 obtain⟨ns,h1,h2,h3⟩:=ams hb;obtain⟨ax,cx,yz,_,zQ⟩:=acM (own:=m.own) ay dB (eU hx hr) ⟨fun _ h=>h,fun _ h=>by simp at h⟩;refine .calm ay (x:=.string ⟨bs.toArray⟩) ?_ (nA (.str _));have key:(Conv.bytesToString (.slice ax es.length cx)).run P m.w=.ok (.string ⟨bs.toArray⟩) m.w:=by
  by_cases aH:es=[]
  .subst aH;have:ns=[]:=by simpa using h3
   subst this;have pM:bs=[]:=by simpa using h2
   subst pM;cases ax with
   |none=>simp[Conv.bytesToString,Sem.run_pure];rfl
   |some ad=>have:=run_bytesToString (P:=P) m.w ad 0 cx [] (by simp[loadCells,loadCellsFrom,Sem.run_pure]);exact this
  obtain⟨b,off,news,rfl,pS,zC⟩:=zQ aH;rw[h1]at pS;have hn:=auB pS;have hl:news.length=es.length:=by rw[hn];simpa using h3
  have aqg:(loadCells ⟨b,off,none⟩ es.length).run P m.w=.ok (ns.map (Value.int .u8)).toArray m.w:=by rw[<-hl,<-hn];exact run_loadCells_list m.w ⟨b,off,none⟩ news fun j v hj=>by rw[Addr.add_lit];exact zC j v hj
  rw[run_bytesToString m.w _ _ cx ns aqg,auw,h2];simp[ByteArray.empty,ByteArray.emptyWithCapacity];rfl
 simp only[execOp,ho,yz,Sem.run_bind,run_convert_bytes_string m.w s d e ax es.length cx hs he hd,key,Result.andThen_ok,Sem.run_pure]
end
end Go.Abs
namespace Go.Abs
variable {P:Program} {w0:World}
theorem Uv{xs:Array Operand}{a:aU}(h:rl xs.toList=some [a]):∃x,xs= #[x]/\cX x=some a:=by
 obtain⟨xs⟩:=xs;cases xs with
 |nil=>simp[rl]at h
 |cons x r=>
  simp only[rl]at h;split at h
  .rename_i y ys e1 e2;cases h;cases r with
   |nil=>exact⟨x,rfl,e1⟩
   |cons z r=>simp only[rl]at e2;split at e2<;>simp at e2
  cases h
theorem Uw{xs:Array Operand}{a b:aU}(h:rl xs.toList=some [a,b]):∃x y,xs= #[x,y]/\cX x=some a/\cX y=some b:=by
 obtain⟨xs⟩:=xs;cases xs with
 |nil=>simp[rl]at h
 |cons x r=>
  simp only[rl]at h;split at h
  .rename_i y ys e1 e2;cases h;obtain⟨z,hz,Ic⟩:=Uv (xs:=r.toArray) (by simpa using e2);have:r=[z]:=by simpa using congrArg Array.toList hz
   subst this;exact⟨x,z,rfl,e1,Ic⟩
  cases h
theorem axo{xs:Array TypeId}{t u:TypeId}(h1:xs[0]?=some t)(h2:xs[1]?=some u)(hs:xs.size=2):xs= #[t,u]:=by
 obtain⟨xs⟩:=xs
 match xs,hs with
 |[a,b],_=>simp at h1 h2;subst h1 h2;rfl
theorem aoV{α:Type}{sz:Nat}{es ys:List (List α)}{off:Nat}(h:∀e∈es,e.length=sz)(hy:∀e∈ys,e.length=sz)(hl:off+ys.length<=es.length):(fj es off ys).flatten=fj es.flatten (off*sz) ys.flatten:=by
 have ht:∀k,k<=es.length->(es.take k).flatten.length=k*sz:=fun k hk=>by rw[Ho fun e he=>h e (yV he),iz,Au hk]
 have e1:es.flatten=(es.take off).flatten++(es.drop off).flatten:=by rw[<-EU,mU]
 have e2:es.flatten=(es.take (off+ys.length)).flatten++(es.drop (off+ys.length)).flatten:=by rw[<-EU,mU]
 unfold fj;rw[EU,EU,Ho hy];congr 1
 .congr 1
  conv=>rhs;rw[e1]
  rw[List.take_left' (ht off aa)]
 rw[<-gY]
 conv=>rhs;rw[e2]
 rw[List.drop_left' (ht _ hl)]
theorem axR{R:PV->Value->Prop}{z:b_}{v:Array Value}{n:Nat}(hz:Pw R z v.toList):Pw R (List.replicate n z).flatten (Builtin.zeroCells v n).toList:=by
 have mN:z.length=v.size:=by have:=hz.1;simp at this;omega
 have dz:∀e∈List.replicate n z,e.length=v.size:=fun e he=>by rw[TU he];exact mN
 have hlen:(Builtin.zeroCells v n).toList.length=n*v.size:=by simp[size_zeroCells]
 refine⟨by rw[hlen,Ho dz];simp,fun j x u p q=>?_⟩;have hj:j<n*v.size:=by have:=(aT.1 q).1;omega
 have jN:0<v.size:=by
  rcases Nat.eq_zero_or_pos v.size with h|h
  .rw[h]at hj;omega
  exact h
 have hdiv:j/v.size<n:=by rw[Nat.div_lt_iff_lt_mul jN];exact hj
 have RY:j%v.size<v.size:=de _ jN;have he:(List.replicate n z)[j/v.size]?=some z:=by simp[hdiv]
 have h1:=Hn dz he RY;rw[show j/v.size*v.size+j%v.size=j by rw[T6];exact akF j v.size]at h1;rw[h1]at p;have h2:(Builtin.zeroCells v n).toList[j]?=some v[j%v.size]! :=by unfold Builtin.zeroCells;simp[hj]
 rw[h2]at q;cases q;refine hz.2 (j%v.size) x _ p ?_;simp[RY]
section
variable {m:Mem} {ak:Env} {a:Act} {o:Oper} (ay:Ok w0 m) (hr:jz m ak a.tmps)
include ay hr
theorem avE{c:Call}{x:Operand}{x':aU}{t e:TypeId}{sz bytes:Nat}{z:b_}{sh:Nat->Bool}{v:V}{u:l_}{rd:a_}(ho:o.op=.call c)(hc:c.callee=.builtin .clear)(has:c.args= #[x])(jI:c.argTypes[0]?=some t)
  (he:BP P t=some (e,sz,bytes,z)) (hx:cX x=some x') (hp:bN sh ak m.aj (.clear z x')=.done v u rd):fZ P w0 a.eval o m v u:=by
 obtain⟨i,zv,ht,hi,hs,hb,⟨jN,HB⟩,yt,KT,mN,dS⟩:=QO he;have lZ:=eU hx hr;have run:∀(y:Value) (w':World),(Builtin.clear_ c.argTypes o.type #[a.eval x]).run P m.w=.ok y w'->(execOp a.eval o).run P m.w=.ok (.value y) w':=by intro y w' h;simp[execOp,ho,resolve,hc,has,invoke,builtin,h]
 have quiet:(Builtin.clear_ c.argTypes o.type #[a.eval x]).run P m.w=.ok (.tuple #[]) m.w->fZ P w0 a.eval o m (.tup []) []:=fun h=>
  ⟨.tuple #[],m,.inl (run _ _ h),ay,Ev.refl _,rfl,rfl,(⟨#[],rfl,rfl,fun j x u h=>by simp at h⟩:cq m (.tup []) _)⟩
 simp only[bN]at hp;split at hp
 .rename_i hv;cases hp;rw[hv]at lZ;have lZ:dq m _ (a.eval x):=lZ;generalize yh:a.eval x=b at lZ;rw[yh]at quiet;apply quiet;cases lZ with
  |p h=>cases h;simp[Builtin.clear_,jI,run_underlying ht]
 .rename_i hv;cases hp;rw[hv]at lZ;have lZ:dq m _ (a.eval x):=lZ;generalize yh:a.eval x=b at lZ;rw[yh]at quiet;apply quiet;cases lZ with
  |p h=>
   cases h with
   |Ah a cap hn hm=>cases a<;>simp[Builtin.clear_,jI,run_underlying ht]
   |sl b o cap sz f h1 h2 h3 h4=>simp[Builtin.clear_,jI,run_underlying ht]
 .rename_i id g w off len hv;rw[hv]at lZ;have lZ:dq m _ (a.eval x):=lZ;generalize yh:a.eval x=b at lZ;rw[yh]at quiet run;cases lZ with
  |hsl ad cap hg hl hm oN=>
   split at hp
   .rename_i h0;cases hp;subst h0;apply quiet;simp[Builtin.clear_,jI,run_underlying ht]
   rename_i h0;split at hp
   .rename_i g' ty cD es jh;split at hp
    .rename_i NO;obtain⟨ji,cT,hfit⟩:=NO;cases hp;have bK:(m.aj id).2=some (.arr ty cD es):=by rw[jh]
     obtain⟨_,oN,_⟩:=oN cD (by rw[jh];exact ji) (by rw[jh];rfl);have oN:=oN (.inr aa);subst oN;obtain⟨cur,hh,qN,uZ,ti,vR,ae7,R9⟩:=ay.obj id _ bK;have KR:∀e∈List.replicate len z,e.length=cD:=fun e he=>by rw[TU he];exact cT.symm
     have aqU:zv.cells.size=cD:=by rw[KT,<-mN,cT]
     have KS:(List.replicate len z).length=len:=aau;have zK:=aoV (off:=off) uZ KR (by rw[KS];exact hfit);have zN:(off+len)*cD<=es.length*cD:=mV _ hfit;have afh:es.length*cD<=m.κ id*cD:=mV _ ti;rw[gY]at zN;generalize hZ:(Builtin.zeroCells zv.cells len).toList=Z;have Hy:Z.length=len*cD:=by rw[<-hZ];simp[size_zeroCells,aqU]
     have hZp:∀w own,dJ w own (List.replicate len z).flatten Z:=fun w own=>dJ.pw.2 (by rw[<-hZ];exact axR (dJ.pw.1 (dS w own)));have R7:∀v∈Z,v.oneCell'=true:=fun v hv=>by
      obtain⟨j,hj⟩:=gV hv;have aA:j<(List.replicate len z).flatten.length:=by rw[<- (hZp m.w m.own).1];exact(aT.1 hj).1
      exact((hZp m.w m.own).2 j _ v (rS aA) hj).O7
     have Cb:off*cD+0+Z.length<=cur.size:=by rw[Hy,ae7];omega
     have cV:=run_storeCells_at P (m.σ id) (off*cD) ty Z 0 cur m.w hh Cb R7;simp only[vr]at cV;generalize hW:m.w.setRow (m.σ id) (cur.toList.take (off*cD)++Z++cur.toList.drop (off*cD+Z.length)).toArray=W at cV;have FL:W.heap.size=m.w.heap.size:=by rw[<-hW];simp
     have FK:∀c,c≠m.σ id->W.heap[c]?=m.w.heap[c]? :=fun c hc=>by rw[<-hW];exact setRow_other m.w (m.σ id) c _ hc
     have afA:(fj es off (List.replicate len z)).length=es.length:=Tu (by rw[KS];exact hfit);have eF:=Pq (w':=W) (o:=.arr ty cD (fj es off (List.replicate len z))) bK rfl (by simp[lR]) (by rw[<-hW];rfl) (by rw[<-hW];rfl) (by rw[<-hW];rfl) FL FK;have Ej:uB (m.kO W id (.arr ty cD (fj es off (List.replicate len z)))) id (.arr ty cD (fj es off (List.replicate len z))):=by
      refine⟨_,by rw[<-hW];exact Ps hh,qN,?_,by rw[afA];exact ti,vR,?_,?_⟩
      .intro e' D0;unfold fj at D0;simp only[eO]at D0;rcases D0 with(h|h)|h
       .exact uZ e' (yV h)
       .exact KR e' h
       exact uZ e' (xN h)
      .simp[Mem.kO];omega
      rw[afA,zK];have h1:=(dJ.pw.1 (R9.ev eF.zero)).fj (dJ.pw.1 (hZp (m.kO W id (.arr ty cD (fj es off (List.replicate len z)))).w (m.kO W id (.arr ty cD (fj es off (List.replicate len z)))).own)) (off*cD);rw[<-ajx aa (by simp;omega)]at h1;have h1:=dJ.pw.2 h1
      simpa [fj]using h1
     refine⟨.tuple #[],m.kO W id (.arr ty cD (fj es off (List.replicate len z))),.inl (run _ _ ?_),Ti bK rfl ay (by simp[lR]) (by rw[<-hW];rfl) (by rw[<-hW];rfl) (by rw[<-hW];rfl) FL FK Ej,eF,rfl,?_,(⟨#[],rfl,rfl,fun j x u h=>by simp at h⟩:cq _ (.tup []) _)⟩
     .obtain⟨k,rfl⟩:∃k,len=k+1:=⟨len-1,aa⟩;simp[Builtin.clear_,jI,run_underlying ht,zeroValue,typeInfo,hi,yt,hZ,cV,Mem.kO]
     simp[Mem.kO,app,jh,ji]
    cases hp
   cases hp
 cases hp
end
section
variable {m:Mem} {ak:Env} {a:Act} {o:Oper} (ay:Ok w0 m) (hr:jz m ak a.tmps)
include ay hr
theorem aht{t kt e:TypeId}{x k y:Operand}{x' k' y':aU}{kd:Nat}{ag:Bool}{sh:Nat->Bool}{v:V}{u:l_}{rd:a_}(ho:o.op=.mapUpdate t x k y\/o.op=.insert t x k y)(ht:P.underlying t=some (.map kt e))
  (Ch:keyOf P kt=some kd) (hx:cX x=some x') (hk:cX k=some k') (hy:cX y=some y') (hp:bN sh ak m.aj (.mupd kd ag x' k' y')=.done v u rd):fZ P w0 a.eval o m v u:=by
 simp only[bN]at hp;split at hp
 .rename_i id g q cs e1 e2 e3;split at hp
  .rename_i g' sL es ps e4 e5;split at hp
   .rename_i r7;obtain⟨rfl,rfl,hq⟩:=r7;split at hp
    .rename_i i w hf;cases hp;exact ajc ay hr ho ht Ch hx hk hy e1 e4 e2 hq e3 e5 hf
    .rename_i hf;cases hp;exact ajc ay hr ho ht Ch hx hk hy e1 e4 e2 hq e3 e5 hf
    cases hp
   cases hp
  cases hp
 cases hp
theorem as9{site:Nat}{sh:Nat->Bool}{p:oF}{v:V}{u:l_}{rd:a_}(hc:Hc P site o=some p)(hp:bN sh ak m.aj p=.done v u rd):fZ P w0 a.eval o m v u:=by
 unfold Hc at hc;split at hc
 · -- move
  rename_i x ho;simp only[dT]at hc;obtain⟨y,h1,rfl⟩:=hc;cases hp;exact ajb ay hr (.inl ho) h1
 · -- assign
  rename_i x ho;simp only[dT]at hc;obtain⟨y,h1,rfl⟩:=hc;cases hp;exact ajb ay hr (.inr ho) h1
 · -- pick
  rename_i c x y ho;split at hc
  .rename_i c' x' y' h1 h2 h3;cases hc;simp only[bN]at hp;split at hp
   .rename_i t ht;cases hp;exact avW ay hr ho h1 h2 h3 ht
   cases hp
  cases hc
 · -- alloc
  rename_i t ho;simp only[dT]at hc;obtain⟨z,h1,rfl⟩:=hc;cases hp;exact avw ay ho h1
 · -- box
  rename_i t x ho;simp only[dT]at hc;obtain⟨z,h1,rfl⟩:=hc;simp only[bN]at hp;split at hp
  .rename_i cs dA;cases hp;exact avz ay hr ho h1 dA
  cases hp
 · -- build
  rename_i t ps ho;split at hc
  .rename_i fs z h1 h2;split at hc
   .rename_i dz;simp only[dT]at hc;obtain⟨qs,h3,rfl⟩:=hc;simp only[bN]at hp;split at hp
    .rename_i rs HY;cases hp;exact avD ay hr ho h1 h2 dz h3 HY
    cases hp
   cases hc
  .rename_i n e z h1 h2;split at hc
   .rename_i i hi;simp only[dT]at hc;obtain⟨qs,h3,rfl⟩:=hc;simp only[bN]at hp;split at hp
    .rename_i rs HY;cases hp;exact avC ay hr ho h1 h2 hi h3 HY
    cases hp
   cases hc
  cases hc
 · -- buildSlice
  rename_i t n ps ho;split at hc
  .rename_i e sz bytes z as h1 h2;split at hc
   .rename_i r7;cases hc;simp only[bN]at hp;split at hp
    .rename_i es gb;obtain⟨g1,g2⟩:=avA (s:=site) ay hr ho h1 h2 r7.1 r7.2 gb;split at hp
     .rename_i qs hqs;cases hp;exact g1 qs hqs
     cases hp;exact g2
    cases hp
   cases hc
  cases hc
 · -- load
  rename_i t x ho;split at hc
  .rename_i k y h1 h2;cases hc;simp only[bN]at hp;split at hp
   .rename_i cs r dA;split at hp
    .rename_i v' hv;cases hp;exact avL ay hr ho h1 h2 dA hv
    cases hp
   cases hp
  cases hc
 · -- store
  rename_i t x y ho;split at hc
  .rename_i n x' y' h1 h2 h3;cases hc;simp only[bN]at hp;split at hp
   .rename_i cs dA;exact av1 ay hr ho h1 h2 h3 dA hp
   cases hp
  cases hc
 · -- nilCheck
  rename_i x ho;simp only[dT]at hc;obtain⟨y,h1,rfl⟩:=hc;have hu:u=[]/\rd=[]:=by simp only[bN]at hp;split at hp<;>cases hp<;>exact⟨rfl,rfl⟩
  obtain⟨rfl,rfl⟩:=hu;exact avU ay hr ho h1 hp
 · -- binOp
  rename_i op t x y ty ho;split at hc
  .rename_i x' y' h1 h2;have ae3:∀(op':BinOp),p=.bin op' x' y'->op'=op->fZ P w0 a.eval o m v u:=by
    intro op' e1 e2;subst e1 e2;simp only[bN]at hp;split at hp
    .rename_i v' hv;cases hp;exact avy ay hr ho h1 h2 hv
    cases hp
   split at hc
   .cases hc;exact ae3 _ rfl rfl
   .cases hc;exact ae3 _ rfl rfl
   split at hc
   .rename_i k hk;cases hc;simp only[bN]at hp;split at hp
    .rename_i b hb;cases hp;exact aja ay hr (neg:=false) ho (.inl ⟨rfl,rfl⟩) hk h1 h2 hb
    cases hp
   .rename_i k hk;cases hc;simp only[bN]at hp;split at hp
    .rename_i b hb;cases hp;exact aja ay hr (neg:=true) ho (.inr ⟨rfl,rfl⟩) hk h1 h2 hb
    cases hp
   cases hc
  cases hc
 · -- unOp
  rename_i op t x ho;split at hc
  .simp only[dT]at hc;obtain⟨y,h1,rfl⟩:=hc;simp only[bN]at hp;split at hp
   .rename_i b e1 e2;cases hp;exact avV ay hr ho h1 e2
   .rename_i e1 e2;cases e1
   cases hp
  .simp only[dT]at hc;obtain⟨y,h1,rfl⟩:=hc;simp only[bN]at hp;split at hp
   .rename_i e1 e2;cases e1
   .rename_i k n e1 e2;cases hp;exact avT ay hr ho h1 e2
   cases hp
  cases hc
 · -- convert
  rename_i s d x ho;split at hc
  .rename_i ks k y h1 h2 h3;cases hc;simp only[bN]at hp;split at hp
   .rename_i k0 n hn;cases hp;exact avF ay hr ho h1 h2 h3 hn
   cases hp
  .rename_i e y h1 h2 h3;split at hc
   .rename_i he;cases hc;simp only[bN]at hp;split at hp
    .rename_i es r gb;split at hp
     .rename_i bs mL;cases hp;exact avB ay hr ho h1 he h2 h3 gb mL
     cases hp
    cases hp
   cases hc
  cases hc
 · -- makeFunc
  rename_i f x y ho;split at hc
  .rename_i x' y' h1 h2;cases hc;simp only[bN]at hp;split at hp
   .rename_i cs ds e1 e2;cases hp;exact avP ay hr ho h1 h2 e1 e2
   cases hp
  cases hc
 · -- makeMap
  rename_i t ho;split at hc
  .simp only[dT]at hc;obtain⟨k,h1,rfl⟩:=hc;cases hp;exact avQ (kt:=t) (t:=t) (e:=t) ay ho
  cases hc
 · -- makeSlice
  rename_i t l c ho;split at hc
  .rename_i e sz bytes z l' c' h1 h2 h3;cases hc;simp only[bN]at hp;split at hp
   .rename_i n n' e1 e2;split at hp
    .rename_i r7;obtain⟨rfl,ll⟩:=r7;cases hp;exact avR ay hr ho h1 h2 h3 e1 e2 ll
    cases hp
   cases hp
  cases hc
 · -- slice
  rename_i t x lo hi ho;split at hc
  .rename_i x' Eu vM h1 h2 h3;split at hc
   .rename_i e ht;simp only[dT]at hc;obtain⟨sz,h4,rfl⟩:=hc;simp only[bN]at hp;split at hp
    .rename_i n hn;split at hp
     .rename_i l h e1 e2;have hu:u=[]/\rd=[]:=by
       unfold EE at hp;repeat' split at hp
       all_goals first
        |cases hp
        |skip
       all_goals exact⟨rfl,rfl⟩
      obtain⟨rfl,rfl⟩:=hu;exact avZ ay hr ho ht h4 h1 h2 h3 hn e1 e2 hp
     cases hp
    cases hp
   .rename_i ht;cases hc;simp only[bN]at hp;split at hp
    .rename_i s hs;split at hp
     .rename_i l h e1 e2;split at hp
      .rename_i r7;cases hp;exact av0 ay hr ho ht h1 h2 h3 hs e1 e2 r7.1 r7.2
      cases hp
     cases hp
    cases hp
   cases hc
  cases hc
 · -- fieldAddr
  rename_i s x f ho;split at hc
  .rename_i fs y h1 h2;split at hc
   .rename_i d hd;split at hc
    .rename_i hz;cases hc;have hu:u=[]/\rd=[]:=by
      simp only[bN]at hp;split at hp<;>cases hp<;>exact⟨rfl,rfl⟩
     obtain⟨rfl,rfl⟩:=hu;exact avH ay hr ho h1 hd hz h2 hp
    cases hc
   cases hc
  cases hc
 · -- field
  rename_i t x f ho;split at hc
  .rename_i fs y h1 h2;split at hc
   .rename_i d hd;simp only[dT]at hc;obtain⟨k,h3,rfl⟩:=hc;simp only[bN]at hp;split at hp
    .rename_i cs dA;split at hp
     .rename_i v' hv;cases hp;exact avI ay hr ho h1 hd h3 h2 dA hv
     cases hp
    cases hp
   cases hc
  cases hc
 · -- indexAddr
  rename_i t x i ho;split at hc
  .rename_i x' i' h1 h2;split at hc
   .rename_i e ht;simp only[dT]at hc;obtain⟨sz,h3,rfl⟩:=hc;have hu:u=[]/\rd=[]:=by
     simp only[bN]at hp;repeat' split at hp
     all_goals first
      |cases hp
      |skip
     all_goals exact⟨rfl,rfl⟩
    obtain⟨rfl,rfl⟩:=hu;exact avJ ay hr ho ht h3 h1 h2 hp
   .rename_i n e ht;simp only[dT]at hc;obtain⟨sz,h3,rfl⟩:=hc;have hu:u=[]/\rd=[]:=by
     simp only[bN]at hp;repeat' split at hp
     all_goals first
      |cases hp
      |skip
     all_goals exact⟨rfl,rfl⟩
    obtain⟨rfl,rfl⟩:=hu;exact avu ay hr ho ht h3 h1 h2 hp
   cases hc
  cases hc
 · -- index
  rename_i t x i ho;split at hc
  .rename_i x' i' h1 h2;split at hc
   .rename_i n e ht;split at hc
    .rename_i sz k h3 h4;cases hc;simp only[bN]at hp;split at hp
     .rename_i n' cs e1 e2;split at hp
      .rename_i aA;split at hp
       .rename_i v' hv;cases hp;exact avv ay hr ho ht h3 h4 h1 h2 e1 aA e2 hv
       cases hp
      cases hp
     cases hp
    cases hc
   .rename_i ht;cases hc;simp only[bN]at hp;split at hp
    .rename_i n s e1 e2;split at hp
     .rename_i b hb;cases hp;exact avX ay hr ho ht h1 h2 e1 e2 hb
     cases hp
    cases hp
   cases hc
  cases hc
 · -- lookup
  rename_i t x k ok ho;split at hc
  .rename_i kt e x' k' h1 h2 h3;split at hc
   .rename_i z q h4 h5;split at hc
    .rename_i kd h6;split at hc
     .rename_i h7;cases hc;simp only[bN]at hp;split at hp
      .rename_i es r key e1 e2;split at hp
       .cases hp
       rename_i Ch;split at hp
       .rename_i f hf;split at hp
        .rename_i w hw;cases hp;exact avM ay hr ho h1 h4 h6 h7 h2 h3 e1 e2 (Classical.not_not.1 Ch) hf hw
        cases hp
       cases hp
      cases hp
     cases hc
    cases hc
   cases hc
  cases hc
 · -- mapUpdate
  rename_i t x k y ho;split at hc
  .rename_i kt e x' k' y' h1 h2 h3 h4;split at hc
   .rename_i q h5;simp only[dT]at hc;obtain⟨kd,h6,rfl⟩:=hc;exact aht ay hr (.inl ho) h1 h6 h2 h3 h4 hp
   cases hc
  cases hc
 · -- insert
  rename_i t x k y ho;split at hc
  .rename_i kt e x' k' y' h1 h2 h3 h4;split at hc
   .rename_i q h5;simp only[dT]at hc;obtain⟨kd,h6,rfl⟩:=hc;exact aht ay hr (.inr ho) h1 h6 h2 h3 h4 hp
   cases hc
  cases hc
 · -- extract
  rename_i x i ho;simp only[dT]at hc;obtain⟨y,h1,rfl⟩:=hc;simp only[bN]at hp;split at hp
  .rename_i vs se;split at hp
   .rename_i v' hv;cases hp;exact avG ay hr ho h1 se hv
   cases hp
  cases hp
 · -- call
  rename_i c ho;split at hc
  .rename_i f as h1 h2;simp only[dT]at hc;obtain⟨y,h3,rfl⟩:=hc;simp only[bN]at hp;repeat' split at hp
   all_goals cases hp
  .rename_i x h1 h2;obtain⟨x0,oU,tu⟩:=Uv h2;split at hc
   .rename_i t ht;split at hc
    .rename_i hu;cases hc;simp only[bN]at hp;split at hp
     .rename_i s hs;cases hp;exact avY ay hr ho h1 oU ht hu tu hs
     cases hp
    .rename_i e hu;cases hc;simp only[bN]at hp;split at hp
     .rename_i n hn;cases hp;exact avK ay hr ho h1 oU ht hu tu hn
     cases hp
    .rename_i k e hu;cases hc;simp only[bN]at hp;split at hp
     .rename_i n r hn;cases hp;exact avS ay hr ho h1 oU ht hu tu hn
     cases hp
    cases hc
   cases hc
  .rename_i x y h1 h2;obtain⟨x0,y0,oU,tu,yy⟩:=Uw h2;split at hc
   .rename_i t u' ht hu;split at hc
    .rename_i e sz bytes z he;split at hc
     .rename_i r7;cases hc;obtain⟨rfl,cT⟩:=r7;exact avx ay hr ho h1 oU (axo ht hu cT) he tu yy hp
     cases hc
    cases hc
   cases hc
  .rename_i x y h1 h2;obtain⟨x0,y0,oU,tu,yy⟩:=Uw h2;cases hc;simp only[bN]at hp;split at hp
   .rename_i k p k' q e1 e2;cases hp;exact avN ay hr ho h1 oU tu yy e1 e2
   cases hp
  .rename_i x y h1 h2;obtain⟨x0,y0,oU,tu,yy⟩:=Uw h2;cases hc;simp only[bN]at hp;split at hp
   .rename_i k p k' q e1 e2;cases hp;exact avO ay hr ho h1 oU tu yy e1 e2
   cases hp
  .rename_i x h1 h2;obtain⟨x0,oU,tu⟩:=Uv h2;split at hc
   .rename_i t ht;simp only[dT]at hc;obtain⟨⟨e,sz,bytes,z⟩,h3,rfl⟩:=hc;exact avE ay hr ho h1 oU ht h3 tu hp
   cases hc
  cases hc
 cases hc
end
end Go.Abs
namespace Go.Abs
variable {P:Program} {w0:World}
section
variable{m:Mem}{cs:f_}
def akO(w:World)(Q:Nat->Prop)(ty sz:Nat)(es:s_)(c:Nat)(v:Value):Prop:=∃cap cur,v=.slice (some ⟨c,0,none⟩) es.length cap/\w.heap[c]?=some (.cells cur ty (0,0))/\0<sz/\(∀e∈es,e.length=sz)/\es.length<=cap/\cap<=maxLen/\cur.size=cap*sz/\dJ w Q es.flatten (cur.toList.take (es.length*sz))
def sJ(w:World)(Q:Nat->Prop):n_->List Value->a_->Prop
 |[],vs,bs=>vs=[]/\bs=[]
 | .p x::r,vs,bs=>∃v nZ,vs=v::nZ/\cM w Q x v/\sJ w Q r nZ bs
 | .own ty sz es::r,vs,bs=>∃v nZ c DB,vs=v::nZ/\bs=c::DB/\akO w Q ty sz es c v/\sJ w Q r nZ DB
theorem sJ.mono{w w':World}{Q Q':Nat->Prop}(hk:∀c,c<w.heap.size-> ¬Q c->w'.heap[c]?=w.heap[c]? /\ ¬Q' c):∀ {rs:n_}{vs:List Value}{bs:a_},(∀c∈bs,w'.heap[c]?=w.heap[c]?)->sJ w Q rs vs bs->sJ w' Q' rs vs bs:=by
 intro rs
 induction rs with
 |nil=>intro vs bs _ h;exact h
 |cons r rs ih=>
  intro vs bs hb h;cases r with
  |p x=>obtain⟨v,nZ,rfl,h1,h2⟩:=h;exact⟨v,nZ,rfl,h1.mono hk,ih hb h2⟩
  |own ty sz es=>obtain⟨v,nZ,c,DB,rfl,rfl,⟨cap,cur,e1,e2,e3,e4,e5,e6,e7,e8⟩,h2⟩:=h;exact⟨v,nZ,c,DB,rfl,rfl,⟨cap,cur,e1,by rw[hb c af];exact e2,e3,e4,e5,e6,e7,e8.mono hk⟩,ih (fun c hc=>hb c (by simp[hc])) h2⟩
theorem sJ.less{w:World}{Q Q':Nat->Prop}(h:∀b,Q' b->Q b){rs:n_}{vs:List Value}{bs:a_}(hr:sJ w Q rs vs bs):sJ w Q' rs vs bs:=hr.mono (fun c _ hn=>⟨rfl,fun hq=>hn (h c hq)⟩) (fun _ _=>rfl)
theorem awe(ay:Ok w0 m){Q:Nat->Prop}(hQ:∀b,Q b->m.own b){c:C}{x:PV}{q:a_}{v:Value}(h:snap m.aj gG c=some (x,q))(hr:dq m c v)(hs:∀id∈q,¬Q (m.σ id)):cM m.w Q x v:=LP ay gG h hr ⟨hQ,hs⟩
theorem ahY(ay:Ok w0 m){Q:Nat->Prop}(hQ:∀b,Q b->m.own b):∀ {cs:f_}{rs:n_}{o q:a_}{vs:List Value},nC m.aj cs=some (rs,o,q)->dK m cs vs->(∀id∈q,¬Q (m.σ id))->
  sJ m.w Q rs vs (o.map m.σ)/\ ∀id∈o,∃ob,(m.aj id).2=some ob/\ob.fX=true:=by
 intro cs
 induction cs with
 |nil=>
  intro rs o q vs h hr _;simp only[nC,fY,lK]at h;obtain⟨rfl,rfl,rfl⟩:=h;have:vs=[]:=by have:=hr.1;simpa using this
  exact⟨⟨this,rfl⟩,fun id h=>by simp at h⟩
 |cons c cs ih=>
  intro rs o q vs h hr hq;simp only[nC]at h;split at h
  .rename_i x o1 q1 xs os qs h1 h2;cases h;cases vs with
   |nil=>simp[dK]at hr
   |cons v vs=>
    obtain⟨i1,i2⟩:=ih (vs:=vs) h2 ⟨by have:=hr.1;simpa using this,fun j x u a b=>hr.2 (j+1) x u (by simpa using a) (by simpa using b)⟩ (fun id hid=>hq id (by simp[hid]));have hc:dq m c v:=hr.2 0 c v rfl rfl;have snapcase:∀ {y:PV},(snap m.aj gG c).map (fun(v,r)=>((.p v:RC),([]:a_),r))=some (x,o1,q1)->sJ m.w Q (x::xs) (v::vs) ((o1++os).map m.σ)/\ ∀id∈o1++os,∃ob,(m.aj id).2=some ob/\ob.fX=true:=by intro _ h1;simp only[dT]at h1;obtain⟨⟨y,r⟩,h3,h4⟩:=h1;cases h4;exact⟨⟨v,vs,rfl,awe ay hQ h3 hc (fun id hid=>hq id (by simp[hid])),i1⟩,i2⟩
    unfold jW at h1;split at h1
    .rename_i y;cases h1;have hy:cM m.w m.own y v:=by cases hc with|p h=>exact h
     exact⟨⟨v,vs,rfl,hy.less hQ,i1⟩,i2⟩
    .rename_i id g z len;split at h1
     .rename_i g' ty sz es hb;split at h1
      .rename_i r7;obtain⟨rfl,hlen⟩:=r7;cases h1;have HA:(m.aj id).2=some (.arr ty sz es):=by rw[hb]
       obtain⟨cur,hh,jN,cT,hl,tm,dA,dS⟩:=ay.obj id _ HA;cases hc with
       |hsl ad cap hg vO KE N9=>
        obtain⟨f1,f2,f3⟩:=N9 sz (by rw[hb]) (by rw[hb];rfl);have oN:=f2 (.inl rfl);have mj:cap=m.κ id:=by rw[<-f3,jx]
        rw[BE]at oN;subst oN;subst mj;have aA:(es.take len).length=len:=by simp;omega
        refine⟨⟨_,vs,m.σ id,os.map m.σ,rfl,rfl,⟨m.κ id,cur,by rw[aA],hh,jN,fun e he=>cT e (yV he),by rw[aA];exact vO,tm,dA,?_⟩,i1⟩,?_⟩
        .rw[aA,Kb cT];have h1:=(dJ.pw.1 dS).take (len*sz);rw[GI,Au (mV _ hlen)]at h1;exact(dJ.pw.2 h1).less hQ
        intro j hj;simp only[nJ,gn,bJ]at hj;rcases hj with rfl|hj
        .exact⟨_,HA,rfl⟩
        exact i2 j hj
      cases h1
     exact snapcase (y:=.wa) h1
    exact snapcase (y:=.wa) h1
  cases h
theorem afO:∀(rs:n_) (site:Nat) (b b':aC),(∀s,site<=s->(b s).1=(b' s).1)->jt b site rs=jt b' site rs:=by
 intro rs
 induction rs with
 |nil=>intro site b b' _;rfl
 |cons r rs ih=>
  intro site b b' h;have h1:dw b site r=dw b' site r:=by
   cases r with
   |p x=>rfl
   |own ty sz es=>simp only[dw,h site (bY _)]
  simp only[jt,h1,ih (site+1) b b' (fun s hs=>h s aa)]
theorem arh{s c k:Nat}{o:Ob}(hc:m.fr c):vu m (m.install s c k o) where
 own x _ hn:=⟨rfl,fun h=>hn (Sl hc h)⟩
 gen id:=by
  simp only[Mem.install,aP];split
  .rename_i e;subst e;exact Mm _
  exact bY _
 ref id hg hs:=by
  simp only[Mem.install,aP]at hg hs |-;split at hg
  .rename_i e;subst e;simp at hg
  rename_i e;simp only[au e]at hs |-;exact⟨hs,trivial,trivial,trivial⟩
theorem vu.trans{a b c:Mem}(h:vu a b)(hs:a.w.heap.size<=b.w.heap.size)(k:vu b c):vu a c where
 own x hx hn:=by have h1:=h.own x hx hn;have h2:=k.own x (EZ hx hs) h1.2;exact⟨h2.1.trans h1.1,h2.2⟩
 gen id:=oz (h.gen id) (k.gen id)
 ref id he hs':=by have h1:=h.gen id;have h2:=k.gen id;obtain⟨s1,e1,e2,e3⟩:=k.ref id aa hs';obtain⟨s2,f1,f2,f3⟩:=h.ref id aa s1;exact⟨s2,e1.trans f1,e2.trans f2,e3.trans f3⟩
theorem aq2{O0:Mem}:∀ {rs:n_}{vs:List Value}{bs:a_}{site:Nat}{m:Mem},Ok w0 m->sJ m.w m.own rs vs bs->bs.Nodup->(∀c∈bs,m.fr c/\w0.heap.size<=c)->Ev O0 m->(∀c∈bs,O0.w.heap.size<=c\/O0.fX c)->
  ∃m',m'.w=m.w/\Ok w0 m'/\Ev O0 m'/\vu m m'/\(∀c,m'.fr c↔m.fr c/\c∉bs)/\m'.aj=app (jt m.aj site rs).2 m.aj/\dK m' (jt m.aj site rs).1 vs:=by
 intro rs
 induction rs with
 |nil=>intro vs bs site m ay h _ _ eF _;obtain⟨rfl,rfl⟩:=h;exact⟨m,rfl,ay,eF,⟨fun c _ h=>⟨rfl,h⟩,fun _=>bY _,fun _ _ h=>⟨h,rfl,rfl,rfl⟩⟩,fun c=>af,rfl,rfl,fun j x u h=>by simp[jt]at h⟩
 |cons r rs ih=>
  intro vs bs site m ay h gI mL eF HT;have cons:∀ {m':Mem}{x:C}{xs:f_}{v:Value}{vs:List Value},dq m' x v->dK m' xs vs->dK m' (x::xs) (v::vs):=by
   intro m' x xs v vs h1 h2;refine⟨by simp[h2.1],fun j y u a b=>?_⟩;cases j with
   |zero=>simp at a b;subst a b;exact h1
   |succ j=>simp at a b;exact h2.2 j y u a b
  cases r with
  |p x=>obtain⟨v,nZ,rfl,h1,h2⟩:=h;obtain⟨m',e1,e2,e3,e4,e5,e6,e7⟩:=ih (site:=site+1) ay h2 gI mL eF HT;exact⟨m',e1,e2,e3,e4,e5,by simpa [jt,dw]using e6,by simpa [jt,dw]using cons (dq.p (h1.ev e4)) e7⟩
  |own ty sz es=>
   obtain⟨v,nZ,c,DB,rfl,rfl,⟨cap,cur,q1,q2,q3,q4,q5,q6,q7,q8⟩,h2⟩:=h;have hfc:=(mL c af).1;have h0:=arh (s:=site) (k:=cap) (o:=.arr ty sz es) hfc;have hσ:(m.install site c cap (.arr ty sz es)).σ site=c:=by simp[Mem.install,aP]
   have hκ:(m.install site c cap (.arr ty sz es)).κ site=cap:=by simp[Mem.install,aP]
   have oO:Ok w0 (m.install site c cap (.arr ty sz es)):=Sk ay hfc (mL c af).2
    ⟨cur,by rw[hσ];exact q2,q3,q4,by rw[hκ];exact q5,by rw[hκ];exact q6,by rw[hκ];exact q7,dJ.ev h0 q8⟩
   have afw:=rh.1 gI;obtain⟨m',e1,e2,e3,e4,e5,e6,e7⟩:=ih (site:=site+1) (m:=m.install site c cap (.arr ty sz es)) oO (h2.less fun b hb=>Sl hfc hb) afw.2
    (fun d hd=>⟨⟨(mL d (by simp[hd])).1,fun e=>afw.1 (e▸hd)⟩,(mL d (by simp[hd])).2⟩) (Sj eF hfc (HT c af)) (fun d hd=>HT d (by simp[hd]))
   have XD:jt (m.install site c cap (.arr ty sz es)).aj (site+1) rs=jt m.aj (site+1) rs:=afO _ _ _ _ fun s hs=>by simp only[Mem.install,aP];rw[au aa]
   rw[XD]at e6 e7;refine⟨m',e1,e2,e3,h0.trans (bY _) e4,fun d=>?_,?_,?_⟩
   .rw[e5 d];simp only[Mem.install,bJ,Aw];exact⟨fun⟨⟨a,b⟩,c⟩=>⟨a,b,c⟩,fun⟨a,b,c⟩=>⟨⟨a,b⟩,c⟩⟩
   .rw[e6];rfl
   refine cons ?_ e7;have:dq (m.install site c cap (.arr ty sz es)) (.hsl site ((m.aj site).1+1) sz 0 es.length) v:=by
    rw[q1];refine .hsl _ _ ?_ q5 q6 fun z h1 h2=>?_
    .simp[Mem.install,aP]
    have hz:lR ((m.install site c cap (.arr ty sz es)).aj site)=some sz:=by simp[Mem.install,aP,lR]
    rw[hz]at h2;cases h2;exact⟨rfl,fun _=>by rw[hσ,BE],by rw[jx];exact hκ.symm⟩
   exact this.ev e4
def yZ:RV->Value->List Value->Prop
 | .one _,v,vs=>vs=[v]
 | .agg l,v,vs=>v=.agg vs.toArray/\vs.length=l.length
 | .tup _,_,_=>False
def Fb:List RV->List Value->List Value->Prop
 |[],us,vs=>us=[]/\vs=[]
 |r::rs,us,vs=>∃u Pz a b,us=u::Pz/\vs=a++b/\yZ r u a/\Fb rs Pz b
def GL:RV->Value->List Value->Prop
 | .tup rs,v,vs=>∃arr,v=.tuple arr/\Fb rs arr.toList vs
 |r,v,vs=>yZ r v vs
theorem dK.take{vs:List Value}(h:dK m cs vs)(n:Nat):dK m (cs.take n) (vs.take n):=dK.pw.2 ((dK.pw.1 h).take n)
theorem dK.drop{vs:List Value}(h:dK m cs vs)(n:Nat):dK m (cs.drop n) (vs.drop n):=dK.pw.2 ((dK.pw.1 h).drop n)
theorem dK.append{ds:f_}{vs us:List Value}(h:dK m cs vs)(k:dK m ds us):dK m (cs++ds) (vs++us):=dK.pw.2 ((dK.pw.1 h).append (dK.pw.1 k))
theorem dK.single{c:C}{v:Value}(h:dq m c v):dK m [c] [v]:=⟨rfl,fun j x u a b=>by
 rcases j with _|j
 .simp at a b;subst a b;exact h
 simp at a⟩
theorem aeo{v:V}{val:Value}(h:oL v=some cs)(hr:pE m v val):
  ∃vs,dK m cs vs/\ ∀(rs tl:n_),rs.length=cs.length->(tE v (rs++tl)).2=tl/\iJ (tE v (rs++tl)).1=rs/\yZ (tE v (rs++tl)).1 val vs:=by
 cases v with
 |undef=>simp[oL]at h
 |tup vs=>simp[oL]at h
 |one c=>
  simp only[oL,fY]at h;subst h;refine⟨[val],dK.single hr,fun rs tl hl=>?_⟩
  match rs,hl with
  |[r],_=>exact⟨rfl,rfl,rfl⟩
 |agg ds=>
  simp only[oL,fY]at h;subst h;obtain⟨arr,rfl,hc⟩:=hr;refine⟨arr.toList,hc,fun rs tl hl=>?_⟩;have h1:(rs++tl).take ds.length=rs:=by rw[<-hl];exact PX
  have h2:(rs++tl).drop ds.length=tl:=by rw[<-hl];exact aar
  simp only[tE,iJ,yZ,h1,h2,true_and];rw[hc.1,hl]
theorem aoS:∀ {ws:e_}{cs:f_}{vals:List Value},vE ws=some cs->Pw (pE m) ws vals->
  ∃vs,dK m cs vs/\ ∀(rs:n_),rs.length=cs.length->ng (Bw ws rs)=rs/\Fb (Bw ws rs) vals vs:=by
 intro ws
 induction ws with
 |nil=>
  intro cs vals h hr;simp only[vE,fY]at h;subst h;have hv:vals=[]:=by have:=hr.1;simpa using this
  subst hv;refine⟨[],⟨rfl,fun j x u a=>by simp at a⟩,fun rs hl=>?_⟩;have:rs=[]:=by simpa using hl
  subst this;exact⟨rfl,rfl,rfl⟩
 |cons w ws ih=>
  intro cs vals h hr;simp only[vE]at h;split at h
  .rename_i a b h1 h2;cases h;cases vals with
   |nil=>have:=hr.1;simp at this
   |cons val vals=>
    obtain⟨vs1,je,kM⟩:=aeo h1 (hr.2 0 w val rfl rfl);obtain⟨vs2,qJ,fO⟩:=ih (vals:=vals) h2 ⟨by have:=hr.1;simpa using this,fun j x u p q=>hr.2 (j+1) x u (by simpa using p) (by simpa using q)⟩;refine⟨vs1++vs2,je.append qJ,fun rs hl=>?_⟩;have j7:rs.length=a.length+b.length:=by simpa using hl
    obtain⟨p1,p2,p3⟩:=kM (rs.take a.length) (rs.drop a.length) (by simp;omega);rw[mU]at p1 p2 p3;obtain⟨q1,q2⟩:=fO (rs.drop a.length) (by simp;omega);simp only[Bw,ng,p1,p2,q1,Fb];exact⟨mU _ _,val,vals,vs1,vs2,rfl,rfl,p3,q2⟩
  cases h
theorem aoR{v:V}{val:Value}(h:tW v=some cs)(hr:cq m v val):
  ∃vs,dK m cs vs/\ ∀(rs:n_),rs.length=cs.length->iu (wx v rs)=rs/\GL (wx v rs) val vs:=by
 have one:∀ {v:V},oL v=some cs->pE m v val->(∀rs,wx v rs=(tE v rs).1)->∃vs,dK m cs vs/\ ∀(rs:n_),rs.length=cs.length->iu (wx v rs)=rs/\GL (wx v rs) val vs:=by
  intro v h hr he;obtain⟨vs,h1,h2⟩:=aeo h hr;refine⟨vs,h1,fun rs hl=>?_⟩;obtain⟨_,p2,p3⟩:=h2 rs [] hl;rw[jG]at p2 p3;rw[he];generalize(tE v rs).1=y at p2 p3;cases y with
  |tup _=>exact p3.elim
  |one c=>exact⟨p2,p3⟩
  |agg c=>exact⟨p2,p3⟩
 cases v with
 |tup ws=>obtain⟨arr,rfl,hs,hc⟩:=hr;obtain⟨vs,h1,h2⟩:=aoS (m:=m) (vals:=arr.toList) h ⟨by simpa using hs,fun j x u a b=>hc j x u a (by simpa using b)⟩;exact⟨vs,h1,fun rs hl=>⟨(h2 rs hl).1,arr,rfl,(h2 rs hl).2⟩⟩
 |undef=>simp[tW,oL]at h
 |one c=>exact one h hr fun _=>rfl
 |agg c=>exact one h hr fun _=>rfl
theorem ZE{r:RV}{val:Value}{a b:List Value}(hf:yZ r val a)(hc:dK m cs (a++b)):pE m (mS r cs).1 val/\dK m (mS r cs).2 b:=by
 cases r with
 |tup _=>exact hf.elim
 |one c=>
  have hf:a=[val]:=hf;subst hf;cases cs with
  |nil=>have:=hc.1;simp at this
  |cons x xs=>exact⟨hc.2 0 x val rfl rfl,by have:=hc.drop 1;simpa [mS]using this⟩
 |agg l=>
  obtain⟨rfl,hl⟩:=hf;refine⟨⟨_,rfl,?_⟩,?_⟩
  .have:=hc.take l.length;rw[<-hl,PX]at this
   simpa [mS,hl]using this
  have:=hc.drop l.length;rw[<-hl,aar]at this
  simpa [mS,hl]using this
theorem auR:∀ {rs:List RV}{cs:f_}{us vs:List Value},Fb rs us vs->dK m cs vs->Pw (pE m) (sH rs cs) us:=by
 intro rs
 induction rs with
 |nil=>intro cs us vs h _;obtain⟨rfl,rfl⟩:=h;exact⟨rfl,fun j x u a=>by simp[sH]at a⟩
 |cons r rs ih=>
  intro cs us vs h hc;obtain⟨u,Pz,a,b,rfl,rfl,h1,h2⟩:=h;obtain⟨p1,p2⟩:=ZE h1 hc;have p3:=ih h2 p2;refine⟨by simp[sH,p3.1],fun j x v q1 q2=>?_⟩;cases j with
  |zero=>simp[sH]at q1 q2;subst q1 q2;exact p1
  |succ j=>simp[sH]at q1 q2;exact p3.2 j x v q1 q2
theorem auQ{r:RV}{val:Value}{vs:List Value}(hf:GL r val vs)(hc:dK m cs vs):cq m (rQ r cs) val:=by
 cases r with
 |tup rs=>obtain⟨arr,rfl,h⟩:=hf;have:=auR h hc;exact⟨arr,rfl,by simpa using this.1,fun j x u a b=>this.2 j x u a (by simpa using b)⟩
 |one c=>have:=(ZE (b:=[]) (show yZ (.one c) val vs from hf) (by simpa using hc)).1;exact cq.of1 this
 |agg c=>have:=(ZE (b:=[]) (show yZ (.agg c) val vs from hf) (by simpa using hc)).1;exact cq.of1 this
end
end Go.Abs
namespace Go.Abs
section
variable{b':aC}{site:Nat}{cs:jZ}{sh:Ctx}{ak:Env}{cp:gC}
def jy(ids:a_)(b b':aC):Prop:=∀id∈ids,b' id=b id
def tL(ts:a_)(e e':Env):Prop:=∀t∈ts,e' t=e t
theorem jy.left{x y:a_}{b:aC}(h:jy (x++y) b b'):jy x b b':=fun i hi=>h i (by simp[hi])
theorem jy.right{x y:a_}{b:aC}(h:jy (x++y) b b'):jy y b b':=fun i hi=>h i (by simp[hi])
theorem tL.left{x y:a_}{b b':Env}(h:tL (x++y) b b'):tL x b b':=fun i hi=>h i (by simp[hi])
theorem tL.right{x y:a_}{b b':Env}(h:tL (x++y) b b'):tL y b b':=fun i hi=>h i (by simp[hi])
section
variable {e e':Env}
theorem fH{a:aU}(h:tL a.tmps e e'):ev e' a=ev e a:=by
 cases a with
 |t n=>exact h n (by simp[aU.tmps])
 |_=>rfl
theorem aoh:∀ {as:o_},tL (Gy as) e e'->as.map (ev e')=as.map (ev e):=by
 intro as
 induction as with
 |nil=>intro _;rfl
 |cons a r ih=>intro h;simp only[ek];rw[fH h.left,ih h.right]
theorem ahR:∀ {as:o_},tL (Gy as) e e'->xz e' as=xz e as:=by
 intro as
 induction as with
 |nil=>intro _;rfl
 |cons a r ih=>intro h;simp only[xz];rw[fH h.left,ih h.right]
theorem anY{sz:Nat}:∀ {as:o_},tL (Gy as) e e'->A0 e' sz as=A0 e sz as:=by
 intro as
 induction as with
 |nil=>intro _;rfl
 |cons a r ih=>intro h;simp only[A0];rw[fH h.left,ih h.right]
theorem atq:∀ {as:List (Nat×Nat×aU)},tL (ZY as) e e'->Ab e' as=Ab e as:=by
 intro as
 induction as with
 |nil=>intro _;rfl
 |cons a r ih=>intro h;obtain⟨x,y,a⟩:=a;simp only[Ab];rw[fH h.left,ih h.right]
theorem Qw{d:Nat}{a:Option aU}(h:tL (ZX a) e e'):sM e' d a=sM e d a:=by
 cases a with
 |none=>rfl
 |some a=>simp only[sM];rw[fH h]
theorem aoW{a:aU}(h:tL a.tmps e e'):Fz e' a=Fz e a:=by unfold Fz;rw[fH h]
theorem Zt{sh:Nat->Bool}{aj:aC}{p:oF}(h:tL p.tmps e e'):bN sh e' aj p=bN sh e aj p:=by
 cases p with
 |zZ x=>simp only[bN,fH (a:=x) h]
 |pick c a b=>simp only[bN,fH (a:=c) h.left.left,fH (a:=a) h.left.right,fH (a:=b) h.right]
 |alloc s z=>rfl
 |box s x=>simp only[bN,fH (a:=x) h]
 |build z ps=>simp only[bN,atq (as:=ps) h]
 |Fi s ty sz ps=>simp only[bN,anY (as:=ps) h]
 |load k x=>simp only[bN,fH (a:=x) h]
 |store n a x=>simp only[bN,fH (a:=a) h.left,fH (a:=x) h.right]
 |Lj x=>simp only[bN,fH (a:=x) h]
 |bin op x y=>simp only[bN,fH (a:=x) h.left,fH (a:=y) h.right]
 |eqc k n x y=>simp only[bN,fH (a:=x) h.left,fH (a:=y) h.right]
 |un op x=>simp only[bN,fH (a:=x) h]
 |conv k x=>simp only[bN,fH (a:=x) h]
 |bstr x=>simp only[bN,fH (a:=x) h]
 |mkfn f a b=>simp only[bN,ahR (as:=a) h.left,ahR (as:=b) h.right]
 |mkmap s ag=>rfl
 |Lc s ty sz bytes z l c=>simp only[bN,fH (a:=l) h.left,fH (a:=c) h.right]
 |slice sz x lo hi=>simp only[bN,fH (a:=x) h.left.left,Qw (a:=lo) h.left.right,Qw (a:=hi) h.right]
 |sslice x lo hi=>simp only[bN,fH (a:=x) h.left.left,Qw (a:=lo) h.left.right,Qw (a:=hi) h.right]
 |Hm off x=>simp only[bN,fH (a:=x) h]
 |Ie sz x i=>simp only[bN,fH (a:=x) h.left,fH (a:=i) h.right]
 |Jp l sz x i=>simp only[bN,fH (a:=x) h.left,fH (a:=i) h.right]
 |fld off k x=>simp only[bN,fH (a:=x) h]
 |aidx l sz k x i=>simp only[bN,fH (a:=x) h.left,fH (a:=i) h.right]
 |sidx x i=>simp only[bN,fH (a:=x) h.left,fH (a:=i) h.right]
 |lookup kd z ag ok x k=>simp only[bN,fH (a:=x) h.left,fH (a:=k) h.right]
 |mupd kd ag m k v=>simp only[bN,fH (a:=m) h.left.left,fH (a:=k) h.left.right,fH (a:=v) h.right]
 |bad=>rfl
 |extract x i=>simp only[bN,fH (a:=x) h]
 |call s f as=>simp only[bN,aoW (a:=f) h.left,aoh (as:=as) h.right]
 |slen x=>simp only[bN,fH (a:=x) h]
 |K9 x=>simp only[bN,fH (a:=x) h]
 |mlen x=>simp only[bN,fH (a:=x) h]
 |append s ty sz b x y=>simp only[bN,fH (a:=x) h.left,fH (a:=y) h.right]
 |max x y=>simp only[bN,fH (a:=x) h.left,fH (a:=y) h.right]
 |min x y=>simp only[bN,fH (a:=x) h.left,fH (a:=y) h.right]
 |clear z x=>simp only[bN,fH (a:=x) h]
end
section
variable {b b':aC}
theorem ze{α β:Type}{f g:α->Option (β×a_)}(hf:∀x y r,f x=some (y,r)->jy r b b'->g x=some (y,r)):∀ {xs:List α}{ys:List β}{r:a_},collect f xs=some (ys,r)->jy r b b'->collect g xs=some (ys,r):=by
 intro xs
 induction xs with
 |nil=>intro ys r h _;exact h
 |cons x xs ih=>
  intro ys r h ha;simp only[collect]at h |-;split at h
  .rename_i y p bs q e1 e2;cases h;rw[hf _ _ _ e1 ha.left,ih e2 ha.right]
  cases h
theorem Pu:∀(n:Nat) (c:C) (x:PV) (r:a_),snap b n c=some (x,r)->jy r b b'->snap b' n c=some (x,r):=by
 intro n
 induction n with
 |zero=>intro c x r h;simp[snap]at h
 |succ n ih=>
  intro c x r h ha;cases c with
  |p v=>exact h
  |aZ id g off=>
   have hid:id∈r:=by
    simp only[snap]at h
    (repeat' split at h)<;>first
     |cases h
     |skip
    all_goals simp
   have hb:=ha id hid;simp only[snap]at h |-;rw[hb];split at h
   .split at h
    .rename_i hg;rw[aD hg];split at h
     .rename_i hc;cases h;rw[ze ih hc (fun i hi=>ha i (by simp[hi]))]
     cases h
    cases h
   .exact h
   cases h
  |dB id g i off=>
   have hid:id∈r:=by
    simp only[snap,dT]at h
    (repeat' split at h)<;>first
     |cases h
     |skip
    all_goals(simp only[dT]at h;obtain⟨e,_,h⟩:=h;cases h;simp)
   have hb:=ha id hid;simp only[snap]at h |-;rw[hb];exact h
  |hsl id g z off len=>
   have hid:id∈r:=by
    simp only[snap]at h
    (repeat' split at h)<;>first
     |cases h
     |skip
    all_goals simp
   have hb:=ha id hid;simp only[snap]at h |-;rw[hb];split at h
   .exact h
   .exact h
   .split at h
    .rename_i hg;rw[aD hg];split at h
     .rename_i hc;cases h;rw[ze (fun _ _ _ p q=>ze ih p q) hc (fun i hi=>ha i (by simp[hi]))]
     cases h
    cases h
   cases h
  |kL id g=>
   have hid:id∈r:=by
    simp only[snap]at h
    (repeat' split at h)<;>first
     |cases h
     |skip
    all_goals simp
   have hb:=ha id hid;simp only[snap]at h |-;rw[hb];exact h
  |hfn f x y=>
   simp only[snap]at h |-;split at h
   .rename_i h1 h2;cases h;rw[ze ih h1 ha.left,ze ih h2 ha.right]
   cases h
theorem awg(x y:V)(r:a_)(h:oY b x=some (y,r))(ha:jy r b b'):oY b' x=some (y,r):=by
 cases x with
 |undef=>simp[oY]at h
 |tup _=>simp[oY]at h
 |one c=>simp only[oY,dT]at h |-;obtain⟨⟨p,q⟩,h1,h2⟩:=h;cases h2;exact⟨_,Pu _ _ _ _ h1 ha,rfl⟩
 |agg cs=>simp only[oY,dT]at h |-;obtain⟨⟨p,q⟩,h1,h2⟩:=h;cases h2;exact⟨_,ze (Pu _) h1 ha,rfl⟩
theorem awi{xs ys:e_}{r:a_}(h:CZ b xs=some (ys,r))(ha:jy r b b'):CZ b' xs=some (ys,r):=ze awg h ha
theorem ao4{all:a_}{id:Nat}{u:l_}(h:xY b all id=some u)(hid:id∈all)(ha:jy all b b'):xY b' all id=some u:=by
 have hb:=ha id hid;unfold xY at h |-;rw[hb];split at h
 .split at h
  .rename_i ps r hc;split at h
   .rename_i hr;have mM:jy r b b':=fun i hi=>ha i (by have:=gk.1 hr i hi;simpa using this);rw[ze (Pu _) hc mM];simp only;rw[aD hr];exact h
   cases h
  cases h
 .exact h
 .split at h
  .rename_i ps r hc;split at h
   .rename_i hr;have mM:jy r b b':=fun i hi=>ha i (by have:=gk.1 hr i hi;simpa using this);rw[ze (fun _ _ _ p q=>ze (Pu _) p q) hc mM];simp only;rw[aD hr];exact h
   cases h
  cases h
 .exact h
 .cases h
 exact h
theorem ao5{all:a_}(ha:jy all b b'):∀ {ids:a_}{u:l_},(∀i∈ids,i∈all)->uN b all ids=some u->uN b' all ids=some u:=by
 intro ids
 induction ids with
 |nil=>intro u _ h;exact h
 |cons i r ih=>
  intro u hs h;simp only[uN]at h |-;split at h
  .rename_i x y h1 h2;cases h;rw[ao4 h1 (hs i af) ha,ih (fun j hj=>hs j (by simp[hj])) h2]
  cases h
theorem Kg{ids:a_}{u:l_}(h:sW b ids=some u)(ha:jy ids b b'):sW b' ids=some u:=ao5 ha (fun _ h=>h) h
theorem aq0{r:RC}(h:jy ((dw b site r).2.map (·.1)) b b'):dw b' site r=dw b site r:=by
 cases r with
 |p x=>rfl
 |own ty sz es=>simp only[dw];rw[h site (by simp[dw])]
theorem aq1:∀ {rs:n_}{site:Nat},jy ((jt b site rs).2.map (·.1)) b b'->jt b' site rs=jt b site rs:=by
 intro rs
 induction rs with
 |nil=>intro site _;rfl
 |cons r rs ih=>intro site h;simp only[jt,kS]at h |-;rw[aq0 h.left,ih h.right]
theorem afP{r:RV}(h:jy ((jO b site r).2.map (·.1)) b b'):jO b' site r=jO b site r:=by unfold jO at h |-;simp only at h;rw[aq1 h]
theorem arE{rd:a_}{r:RV}{v:V}{u:l_}(h:land b rd site r=some (v,u))(ha:jy rd b b')(hu:jy (u.map (·.1)) b b'):land b' rd site r=some (v,u):=by
 unfold land at h |-;split at h
 .rename_i hc;rw[aD hc];cases h;rw[afP hu];rfl
 rename_i hc;rw[au hc];split at h
 .rename_i fu hf;cases h;rw[Kg hf ha];simp only;rw[kS]at hu;rw[afP hu.right]
 cases h
theorem aix{x:V}{cs:f_}{r:a_}(h:CV b x=some (cs,r))(ha:jy r b b'):CV b' x=some (cs,r):=by
 have key:∀id,(id∈r->b' id=b id):=fun id hid=>ha id hid;unfold CV at h |-;split at h
 .exact h
 .rename_i id g off;have hid:id∈r:=by
   (repeat' split at h)<;>first
    |cases h
    |skip
   all_goals simp
  simp only[key id hid];exact h
 .rename_i id g i off;have hid:id∈r:=by
   (repeat' split at h)<;>first
    |cases h
    |skip
   all_goals(simp only[dT]at h;obtain⟨e,_,h⟩:=h;cases h;simp)
  simp only[key id hid];exact h
 cases h
theorem arW{x:V}{n:Nat}{r:a_}(h:Bp b x=some (n,r))(ha:jy r b b'):Bp b' x=some (n,r):=by
 have key:∀id,(id∈r->b' id=b id):=fun id hid=>ha id hid;unfold Bp at h |-;split at h
 .exact h
 .exact h
 .rename_i id g;have hid:id∈r:=by
   (repeat' split at h)<;>first
    |cases h
    |skip
   all_goals simp
  simp only[key id hid];exact h
 cases h
theorem asv{ag:Bool}{x:V}{es:t_}{r:a_}(h:mapOf b ag x=some (es,r))(ha:jy r b b'):mapOf b' ag x=some (es,r):=by
 have key:∀id,(id∈r->b' id=b id):=fun id hid=>ha id hid;unfold mapOf at h |-;split at h
 .exact h
 .exact h
 .rename_i id g;have hid:id∈r:=by
   (repeat' split at h)<;>first
    |cases h
    |skip
   all_goals simp
  simp only[key id hid];exact h
 cases h
theorem JV{x:V}{es:s_}{r fr:a_}(h:fN b x=some (es,r,fr))(ha:jy r b b')(hf:jy fr b b'):fN b' x=some (es,r,fr):=by
 have key:∀id,(id∈r->b' id=b id):=fun id hid=>ha id hid;unfold fN at h |-;split at h
 .exact h
 .exact h
 .rename_i id g z off len;have hid:id∈r:=by
   (repeat' split at h)<;>first
    |cases h
    |skip
   all_goals simp
  simp only[key id hid];split at h
  .exact h
  .exact h
  .split at h
   .rename_i hc;rw[aD hc];split at h
    .rename_i h1;cases h;rw[ze (fun _ _ _ p q=>ze (Pu _) p q) h1 hf]
    cases h
   cases h
  exact h
 cases h
theorem axO{a:V}{n:Nat}{xs:f_}{v:V}{u:l_}{r:a_}(h:BB b a n xs=.done v u r)(ha:jy r b b'):BB b' a n xs=.done v u r:=by
 have key:∀id,(id∈r->b' id=b id):=fun id hid=>ha id hid;unfold BB at h |-;split at h
 .cases h
 rename_i hn;rw[au hn];split at h
 .rename_i id g off;have hid:id∈r:=by
   (repeat' split at h)<;>first
    |cases h
    |skip
   all_goals simp
  simp only[key id hid];exact h
 .rename_i id g i off;have hid:id∈r:=by
   (repeat' split at h)<;>first
    |cases h
    |skip
   all_goals simp
  simp only[key id hid];exact h
 cases h
theorem alz{ty sz bytes:Nat}{s x v:V}{u:l_}{r:a_}(h:gE b site ty sz bytes s x=.done v u r)(ha:jy r b b'):gE b' site ty sz bytes s x=.done v u r:=by
 unfold gE at h |-;split at h
 .cases h
 rename_i new rd fr dB;split at h
 .cases h
 rename_i cT;split at h
 .cases h
 rename_i fu rF;have sub:∀ {l:a_},(∀i∈l,i∈r)->jy l b b':=fun hl i hi=>ha i (hl i hi);split at h
 .split at h
  .rename_i hn;cases h;rw[JV dB ha.left ha.right];simp only;rw[au cT,Kg rF ha.right];simp only;rw[aD hn]
  rename_i hn;split at h
  .rename_i hr;cases h;rw[JV dB (sub fun i hi=>by simp[hi]) (sub fun i hi=>by simp[hi])];simp only;rw[au cT,Kg rF (sub fun i hi=>by simp[hi])];simp only;rw[au hn,aD hr,ha site af]
  cases h
 .split at h
  .cases h
  rename_i hn;split at h
  .rename_i hr;cases h;rw[JV dB (sub fun i hi=>by simp[hi]) (sub fun i hi=>by simp[hi])];simp only;rw[au cT,Kg rF (sub fun i hi=>by simp[hi])];simp only;rw[au hn,aD hr,ha site af]
  cases h
 .rename_i id g z len;split at h
  .rename_i g' kB cD es hb;split at h
   .rename_i hr;cases h;rw[JV dB (sub fun i hi=>by simp[hi]) (sub fun i hi=>by simp[hi])];simp only;rw[au cT,Kg rF (sub fun i hi=>by simp[hi])];simp only;have h1:=ha id af;rw[hb]at h1;simp only[h1];rw[aD hr,ha site af]
   cases h
  cases h
 .rename_i id g z off len aH;cases off with
  |zero=>exact(aH rfl).elim
  |succ off=>
  split at h
  .rename_i g' kB cD es hb;split at h
   .rename_i hr;cases h;rw[JV dB (sub fun i hi=>by simp[hi]) (sub fun i hi=>by simp[hi])];simp only;rw[au cT,Kg rF (sub fun i hi=>by simp[hi])];simp only;have h1:=ha id af;rw[hb]at h1;simp only[h1];rw[aD hr]
   cases h
  cases h
 cases h
end
theorem atY{sh:Nat->Bool}{e:Env}{b:aC}{p:oF}{v:V}{u:l_}{r:a_}(h:bN sh e b p=.done v u r)(ha:jy r b b'):bN sh e b' p=.done v u r:=by
 cases p with
 |alloc s z=>simp only[bN,fL.done.injEq]at h |-;obtain⟨h1,h2,h3⟩:=h;rw[ha s (by rw[<-h3];simp)];exact⟨h1,h2,h3⟩
 |mkmap s ag=>simp only[bN,fL.done.injEq]at h |-;obtain⟨h1,h2,h3⟩:=h;rw[ha s (by rw[<-h3];simp)];exact⟨h1,h2,h3⟩
 |box s x=>
  simp only[bN]at h |-;split at h
  .cases h;rw[ha s af]
  cases h
 |Fi s ty sz ps=>
  simp only[bN]at h |-;split at h
  .split at h
   .cases h;rw[ha s af]
   cases h;rw[ha s af]
  cases h
 |Lc s ty sz bytes z l c=>
  simp only[bN]at h |-;split at h
  .split at h
   .rename_i hc;cases h;rw[aD hc,ha s af]
   cases h
  cases h
 |load k x=>
  simp only[bN]at h |-;split at h
  .rename_i cs q hq;split at h
   .rename_i v' hv;cases h;rw[aix hq ha];simp only[hv]
   cases h
  cases h
 |store n a x=>
  simp only[bN]at h |-;split at h
  .exact axO h ha
  cases h
 |bstr x=>
  simp only[bN]at h |-;split at h
  .rename_i es q hq;split at h
   .rename_i bs hb;cases h;rw[JV hq ha (fun i hi=>by simp at hi)];simp only[hb]
   cases h
  cases h
 |lookup kd z ag ok x k=>
  simp only[bN]at h |-;split at h
  .rename_i es q key hm hk;split at h
   .cases h
   rename_i Ch;split at h
   .rename_i f hf;split at h
    .rename_i w hw;cases h;rw[asv hm ha,hk];simp only;rw[au Ch];simp only[hf,hw]
    cases h
   cases h
  cases h
 |clear z x=>
  simp only[bN]at h |-;split at h
  .cases h;rfl
  .cases h;rfl
  .rename_i id g w off len e;split at h
   .rename_i h0;cases h;simp only[h0,if_true]
   rename_i h0;split at h
   .rename_i g' ty sz es h4;split at h
    .rename_i hc;cases h;have hb:=ha id af;rw[h4]at hb;rw[au h0];simp only[hb];rw[aD hc]
    cases h
   cases h
  cases h
 |mupd kd ag m k v=>
  simp only[bN]at h |-;split at h
  .rename_i id g q cs h1 h2 h3;split at h
   .rename_i g' sL es ps h4 h5;split at h
    .rename_i hc;split at h
     .rename_i i w hf;cases h;have hb:=ha id af;rw[h4]at hb;simp only[hb,h5];rw[aD hc];simp only[hf]
     .rename_i hf;cases h;have hb:=ha id af;rw[h4]at hb;simp only[hb,h5];rw[aD hc];simp only[hf]
     cases h
    cases h
   cases h
  cases h
 |mlen x=>
  simp only[bN]at h |-;split at h
  .rename_i n q hq;cases h;rw[arW hq ha]
  cases h
 |append s ty sz bytes x y=>exact alz h ha
 |call s f as=>
  simp only[bN]at h
  (repeat' split at h)<;>cases h
 |_=>exact h
theorem aug{sh:Nat->Bool}{e:Env}{b:aC}{p:oF}{f s:Nat}{vs:e_}{r:a_}(h:bN sh e b p=.pc f vs r s)(ha:jy r b b'):bN sh e b' p=.pc f vs r s:=by
 cases p with
 |call s f as=>
  simp only[bN]at h |-;split at h
  .split at h
   .cases h
   rename_i jC;rw[au jC];split at h
   .rename_i hs;cases h;rw[awi hs ha]
   cases h
  cases h
 |_=>
  (simp only[bN,BB,gE,EE,reduceCtorEq]at h)<;>(repeat' split at h)<;>cases h
theorem aui{sh:Nat->Bool}{e:Env}{b:aC}{p:oF}{f:Nat}{vs:e_}(h:bN sh e b p=.sc f vs):bN sh e b' p=.sc f vs:=by
 cases p with
 |call s f as=>
  simp only[bN]at h |-;split at h
  .split at h
   .rename_i jC;rw[aD jC];exact h
   split at h<;>cases h
  cases h
 |_=>
  (simp only[bN,BB,gE,EE,reduceCtorEq]at h)<;>(repeat' split at h)<;>cases h
theorem alx:∀(u:l_) (b b':aC) (id:Nat),id∈u.map (·.1)->app u b id=app u b' id:=by
 intro u
 induction u with
 |nil=>intro b b' id h;simp at h
 |cons x u ih=>
  intro b b' id h;obtain⟨i,o⟩:=x;simp only[app];by_cases hu:id∈u.map (·.1)
  .exact ih _ _ _ hu
  have hi:id=i:=by simpa [hu]using h
  have key:∀(u:l_) (b:aC),id∉u.map (·.1)->app u b id=b id:=by
   intro u
   induction u with
   |nil=>intro b _;rfl
   |cons x u ih=>intro b h;obtain⟨j,o⟩:=x;simp only[ek,bJ,Aw]at h;simp only[app];rw[ih _ h.2,aP,au h.1]
  rw[key u _ hu,key u _ hu,aP,aP,aD hi,aD hi]
theorem Uu:∀(u:l_) (b:aC) (id:Nat),id∉u.map (·.1)->app u b id=b id:=by
 intro u
 induction u with
 |nil=>intro b id _;rfl
 |cons x u ih=>intro b id h;obtain⟨j,o⟩:=x;simp only[ek,bJ,Aw]at h;simp only[app];rw[ih _ _ h.2,aP,au h.1]
theorem axH{e e':Env}{g:Option (Nat×Bool)}(h:∀t w,g=some (t,w)->e' t=e t):wanted e' g=wanted e g:=by
 cases g with
 |none=>rfl
 |some q=>obtain⟨t,w⟩:=q;simp only[wanted,h t w rfl]
def cK.writes(f:cK)(id:Nat):Bool:=f.wr.contains id||f.fs.contains (jw id)
def cK.vl(f:cK)(id:Nat):Bool:=f.rd.contains id||f.writes id
theorem aiB{b:aC}:∀(n:Nat) (c:C),jy (kr b n c) b b'->kr b' n c=kr b n c:=by
 intro n
 induction n with
 |zero=>intro c _;rfl
 |succ n ih=>
  have many:∀(cs:f_),jy (cs.map (kr b n)).flatten b b'->(cs.map (kr b' n)).flatten=(cs.map (kr b n)).flatten:=by
   intro cs
   induction cs with
   |nil=>intro _;rfl
   |cons c cs ihc=>intro h;simp only[ek,mT]at h |-;rw[ih c h.left,ihc h.right]
  intro c h;cases c with
  |p v=>rfl
  |aZ id g off=>
   simp only[kr]at h |-;have hb:=h id af;rw[hb];split
   .rename_i cs NJ;rw[NJ]at h;rw[many cs (fun i hi=>h i (by simp only[bJ];exact .inr hi))]
   rfl
  |dB id g i off=>
   simp only[kr]at h |-;have hb:=h id af;rw[hb];split
   .rename_i cs NJ;rw[NJ]at h;rw[many _ (fun i hi=>h i (by simp only[bJ];exact .inr hi))]
   rfl
  |hsl id g z off len=>
   simp only[kr]at h |-;have hb:=h id af;rw[hb];split
   .rename_i cs NJ;rw[NJ]at h;rw[many _ (fun i hi=>h i (by simp only[bJ];exact .inr hi))]
   rfl
  |kL id g=>rfl
  |hfn f x y=>simp only[kr]at h |-;rw[many x h.left,many y h.right]
theorem auG{b:aC}(v:V)(h:jy (jF b v) b b'):jF b' v=jF b v:=by
 cases v with
 |undef=>rfl
 |tup _=>rfl
 |one c=>exact aiB _ _ h
 |agg cs=>
  simp only[jF]at h |-
  induction cs with
  |nil=>rfl
  |cons c cs ih=>simp only[ek,mT]at h |-;rw[aiB _ c h.left,ih h.right]
theorem alq{f:Nat}{vs:e_}{b:aC}(h:jy (allow sh f vs b).ids b b'):allow sh f vs b'=allow sh f vs b:=by
 have:(vs.map (jF b')).flatten=(vs.map (jF b)).flatten:=by
  unfold allow at h;simp only at h
  induction vs with
  |nil=>rfl
  |cons v vs ih=>simp only[ek,mT]at h |-;rw[auG v h.left,ih h.right]
 unfold allow;rw[this]
def BH(cs:jZ):Prop:=∀f vs al aj v ao,cs f vs al aj=some (v,ao)->(∀id,al.ok id=false->ao id=aj id)/\
 ∀bn,(∀id,al.ok id=true->bn id=aj id)->∃mX,cs f vs al bn=some (v,mX)/\ ∀id,mX id=if al.ok id then ao id else bn id
theorem SK{al:Al}{l:a_}(h:al.fQ l=true){id:Nat}(hid:id∈l):al.ok id=true:=gk.1 h id hid
theorem aqB{a b:Al}(hb:b.any=false)(h:a.holds b=true){id:Nat}(hid:b.ok id=true):a.ok id=true:=by
 unfold Al.holds at h;simp only[wE,cH]at h;rcases h with h|⟨h1,h2⟩
 .simp[Al.ok,h]
 simp only[Al.ok,hb,De,wE]at hid;rcases hid with hid|hid
 .exact SK h1 (by simpa using hid)
 have:=gk.1 h2 (jw id) (by simpa using hid);simp only[Al.ok,wE];exact .inr this
theorem ZS(dA:BH cs){o:bQ}{aF:Env}{aj ao:aC}{f:cK}(h:step1 sh cp cs o ak aj=some (aF,ao,f)):
  ∃v,aF=put ak o.dst v/\(∀id,f.writes id=false->ao id=aj id)/\(∀id,f.vl id=true->sh.al.ok id=true)/\
   ∀(dy:Env) (bn:aC),tL o.IM ak dy->(∀id,f.vl id=true->bn id=aj id)->
    ∃mX,step1 sh cp cs o dy bn=some (put dy o.dst v,mX,f)/\ ∀id,mX id=if f.writes id then ao id else bn id:=by
 have H0:∀(dy:Env),tL o.IM ak dy->tL o.op.tmps ak dy/\wanted dy o.guard=wanted ak o.guard:=by intro dy h;unfold bQ.IM at h;exact⟨h.left,axH fun t w hg=>h.right t (by rw[hg];simp)⟩
 have hwr:∀(r w:a_) (id:Nat),(⟨r,w,[]⟩:cK).writes id=w.contains id:=by intro r w id;simp[cK.writes]
 have F5:∀(r w:a_) (id:Nat),(⟨r,w,[]⟩:cK).vl id=true↔id∈r\/id∈w:=by intro r w id;simp[cK.vl,cK.writes]
 have afC:∀(u:l_) (b b2:aC) (r:a_) (id:Nat),app u b2 id=if(⟨r,u.map (·.1),[]⟩:cK).writes id then app u b id else b2 id:=by
  intro u b b2 r id;rw[hwr];by_cases hid:id∈u.map (·.1)
  .rw[aD (by simpa using hid)];exact alx _ _ _ _ hid
  rw[au (by simpa using hid)];exact Uu _ _ _ hid
 unfold step1 at h;split at h
 .cases h
 .rename_i hw;cases h;refine⟨.undef,rfl,fun _ _=>rfl,fun id hid=>by simp[cK.vl,cK.writes]at hid,fun dy bn he hb=>⟨bn,?_,fun id=>by simp[cK.writes]⟩⟩;unfold step1;rw[(H0 dy he).2,hw]
 rename_i hw;split at h
 .cases h
 .rename_i v u r hp;split at h
  .rename_i ay;cases h;refine⟨v,rfl,fun id hid=>Uu _ _ _ (by rw[hwr]at hid;simpa using hid),fun id hid=>SK ay (by have:=(F5 _ _ _).1 hid;simpa using this),fun dy bn he hb=>⟨app u bn,?_,fun id=>afC _ _ _ _ _⟩⟩;unfold step1;rw[(H0 dy he).2,hw];simp only;rw[Zt (H0 dy he).1,atY hp fun id hid=>hb id ((F5 _ _ _).2 (.inl hid))];simp only;rw[aD ay]
  cases h
 .rename_i g vs r s hp;split at h
  .rename_i x hx;split at h
   .rename_i v u hl;split at h
    .rename_i ay;cases h;refine⟨v,rfl,fun id hid=>Uu _ _ _ (by rw[hwr]at hid;simpa using hid),fun id hid=>SK ay (by have:=(F5 _ _ _).1 hid;simp at this |-;rcases this with h|h<;>simp[h]),fun dy bn he hb=>⟨app u bn,?_,fun id=>afC _ _ _ _ _⟩⟩;unfold step1;rw[(H0 dy he).2,hw];simp only;rw[Zt (H0 dy he).1,aug hp fun id hid=>hb id ((F5 _ _ _).2 (.inl (by simp[hid])))];simp only[hx];rw[arE hl (fun id hid=>hb id ((F5 _ _ _).2 (.inl (by simp[hid])))) fun id hid=>hb id ((F5 _ _ _).2 (.inr hid))];simp only;rw[aD ay]
    cases h
   cases h
  cases h
 rename_i g vs hp;split at h
 .rename_i ay;split at h
  .rename_i v b1 hx;cases h;have gT:∀id,(⟨(allow sh g vs aj).ids,(allow sh g vs aj).ids,(allow sh g vs aj).fs⟩:cK).writes id=(allow sh g vs aj).ok id:=by
    intro id;simp[cK.writes,Al.ok,allow]
   have Xx:∀id,(⟨(allow sh g vs aj).ids,(allow sh g vs aj).ids,(allow sh g vs aj).fs⟩:cK).vl id=(allow sh g vs aj).ok id:=by intro id;simp only[cK.vl,gT];simp only[Al.ok];cases(allow sh g vs aj).ids.contains id<;>simp
   obtain⟨l1,l2⟩:=dA _ _ _ _ _ _ hx;refine⟨v,rfl,fun id hid=>l1 id (by rw[<-gT];exact hid),fun id hid=>aqB rfl ay (by rw[<-Xx];exact hid),fun dy bn he hb=>?_⟩;obtain⟨mX,g1,g2⟩:=l2 bn fun id hid=>hb id (by rw[Xx];exact hid);have aqh:allow sh g vs bn=allow sh g vs aj:=alq fun id hid=>hb id (by rw[Xx];simp[Al.ok,hid]);refine⟨mX,?_,fun id=>by rw[gT];exact g2 id⟩;unfold step1;rw[(H0 dy he).2,hw];simp only;rw[Zt (H0 dy he).1,aui hp];simp only[aqh];rw[aD ay];simp only[g1]
  cases h
 cases h
theorem auz(ak:Env){d d':w_}(v v':V)(h:∀t,d=some t->d'≠some t):put (put ak d v) d' v'=put (put ak d' v') d v:=by
 cases d with
 |none=>rfl
 |some t=>
  cases d' with
  |none=>rfl
  |some t'=>
   have aH:t'≠t:=fun e=>h t rfl (by rw[e]);funext x;simp only[put,aP];by_cases h1:x=t
   .subst h1;rw[aD rfl,au (fun e=>aH e.symm),aD rfl]
   rw[au h1,au h1]
theorem ait{d:w_}{v:V}{t:Nat}(h:d≠some t):put ak d v t=ak t:=by
 cases d with
 |none=>rfl
 |some x=>simp only[put,aP];rw[au (fun e=>h (by rw[e]))]
theorem Sz{a b:a_}(h:meets a b=false){i:Nat}(ha:i∈a):i∉b:=by
 intro hb;have:meets a b=true:=by simp only[meets,wG];exact⟨i,ha,by simpa using hb⟩
 rw[h]at this;cases this
theorem Yo{fs ids:a_}(h:Ih fs ids=false){i:Nat}(hi:i∈ids):jw i∉fs:=by
 intro hf;have:Ih fs ids=true:=by simp only[Ih,wG];exact⟨i,hi,by simpa using hf⟩
 rw[h]at this;cases this
theorem amT{a b:cK}(h:Ha a b=false)(id:Nat):(a.writes id=true->b.vl id=false)/\(b.writes id=true->a.vl id=false):=by
 simp only[Ha,TR]at h;obtain⟨⟨⟨⟨⟨c1,c2⟩,c3⟩,c4⟩,c5⟩,c6⟩:=h;have sw:∀ {x y:a_},meets x y=false->meets y x=false:=by
  intro x y h;cases he:meets y x with
  |false=>rfl
  |true=>simp only[meets,wG]at he;obtain⟨i,h1,h2⟩:=he;exact absurd h1 (Sz h (by simpa using h2))
 have one:∀ {a b:cK},meets a.wr b.rd=false->meets a.wr b.wr=false->meets a.fs b.fs=false->Ih a.fs (b.rd++b.wr)=false->Ih b.fs (a.rd++a.wr)=false->a.writes id=true->b.vl id=false:=by
  intro a b c1 c2 c4 c5 c6 hw;simp only[cK.writes,wE]at hw;simp only[cK.vl,cK.writes,TR];rcases hw with hw|hw
  .have hw:id∈a.wr:=by simpa using hw
   exact⟨by simpa using Sz c1 hw,by simpa using Sz c2 hw,by simpa using Yo c6 (i:=id) (by simp[hw])⟩
  have hw:jw id∈a.fs:=by simpa using hw
  refine⟨?_,?_,?_⟩
  .cases he:b.rd.contains id with
   |false=>rfl
   |true=>exact absurd hw (Yo c5 (i:=id) (by simp at he;simp[he]))
  .cases he:b.wr.contains id with
   |false=>rfl
   |true=>exact absurd hw (Yo c5 (i:=id) (by simp at he;simp[he]))
  simpa using Sz c4 hw
 exact⟨one c1 c2 c4 c5 c6,one (sw c3) (sw c2) (sw c4) c6 c5⟩
theorem swap{sh:Ctx}{cp:gC}{cs:jZ}(dA:BH cs){x y:bQ}{ak iT dy:Env}{aj cF bn:aC}{e1 e2:cK}(hx:step1 sh cp cs x ak aj=some (iT,cF,e1))(hy:step1 sh cp cs y iT cF=some (dy,bn,e2))
  (hf:Hp x y=true) (hc:Ha e1 e2=false):∃envy blky,step1 sh cp cs y ak aj=some (envy,blky,e2)/\step1 sh cp cs x envy blky=some (dy,bn,e1):=by
 obtain⟨v1,rfl,Kc,_,asd⟩:=ZS dA hx;obtain⟨v2,rfl,BT,_,ase⟩:=ZS dA hy;have vK:∀t,x.dst=some t->t∉y.IM/\y.dst≠some t:=by intro t ht;simp only[Hp,ht,cH]at hf;have h1:=hf.1;simp at h1;exact⟨by simpa using h1.1,h1.2⟩
 have zJ:∀t,y.dst=some t->t∉x.IM:=by
  intro t ht;simp only[Hp,ht,cH]at hf;have h1:=hf.2
  simpa using h1
 have cS:=amT hc;have nw:∀ {a b:cK}{id:Nat},(a.writes id=true->b.vl id=false)->b.vl id=true->a.writes id=false:=by
  intro a b id h1 h2;cases h:a.writes id with
  |false=>rfl
  |true=>rw[h1 h]at h2;cases h2
 have wt:∀ {a:cK}{id:Nat},a.writes id=true->a.vl id=true:=by intro a id h;simp[cK.vl,h]
 obtain⟨blky,hy2,yb⟩:=ase ak aj (fun t ht=>(ait fun e=>(vK t e).1 ht).symm) (fun id hid=>(Kc id (nw (cS id).1 hid)).symm);obtain⟨blkx,yy,xb⟩:=asd (put ak y.dst v2) blky (fun t ht=>ait fun e=>zJ t e ht) (fun id hid=>by rw[yb id,nw (cS id).2 hid];rfl)
 refine⟨_,blky,hy2,?_⟩;rw[yy,auz ak v1 v2 fun t ht=>(vK t ht).2];have:blkx=bn:=by
  funext id;rw[xb id,yb id];cases h1:e1.writes id with
  |true=>have h2:e2.writes id=false:=nw (cS id).2 (wt h1);exact(BT id h2).symm
  |false=>
   cases h2:e2.writes id with
   |true=>rfl
   |false=>simp only[dN,if_false];rw[BT id h2,Kc id h1]
 rw[this]
structure It where
 i:Nat
 io:bQ
 e:cK
def Ql(x y:It):Prop:=Hp x.io y.io=true/\Ha x.e y.e=false
theorem ajB{o:bQ}{r:h_}{aF:Env}{aj ao:aC}{e:cK}{es:i_}(h:steps sh cp cs (o::r) ak aj=some (aF,ao,e::es)):
  ∃iT cF,step1 sh cp cs o ak aj=some (iT,cF,e)/\steps sh cp cs r iT cF=some (aF,ao,es):=by
 simp only[steps]at h;split at h
 .rename_i iT cF e1 h1;split at h
  .rename_i dy bn es2 h2;cases h;exact⟨iT,cF,h1,h2⟩
  cases h
 cases h
theorem awJ{o:bQ}{r:h_}{iT aF:Env}{aj cF ao:aC}{e:cK}{es:i_}(h1:step1 sh cp cs o ak aj=some (iT,cF,e))(h2:steps sh cp cs r iT cF=some (aF,ao,es)):
  steps sh cp cs (o::r) ak aj=some (aF,ao,e::es):=by
 simp only[steps,h1,h2]
theorem aw7(dA:BH cs){y:It}{l2:List It}:∀ {l1:List It}{ak aF:Env}{aj ao:aC},steps sh cp cs ((l1++y::l2).map (·.io)) ak aj=some (aF,ao,(l1++y::l2).map (·.e))->(∀x∈l1,Ql x y)->
  ∃iT cF,step1 sh cp cs y.io ak aj=some (iT,cF,y.e)/\steps sh cp cs ((l1++l2).map (·.io)) iT cF=some (aF,ao,(l1++l2).map (·.e)):=by
 intro l1
 induction l1 with
 |nil=>intro ak aF aj ao h _;exact ajB h
 |cons x l1 ih=>intro ak aF aj ao h qI;obtain⟨envx,blkx,h1,h2⟩:=ajB h;obtain⟨envy,blky,h3,h4⟩:=ih h2 fun z hz=>qI z (by simp[hz]);obtain⟨en1,bl1,h5,h6⟩:=swap dA h1 h3 (qI x af).1 (qI x af).2;exact⟨en1,bl1,h5,awJ h6 h4⟩
def Fa(al:Al)(b b2:aC):Prop:=∀id,al.ok id=true->b2 id=b id
def wK(al:Al)(b' b2 GW:aC):Prop:=∀id,GW id=if al.ok id then b' id else b2 id
def Frame(al:Al)(b b':aC):Prop:=∀id,al.ok id=false->b' id=b id
theorem wK.agree{al:Al}{b2 GW:aC}(h:wK al b' b2 GW):Fa al b' GW:=fun id hid=>by rw[h id,hid];rfl
theorem wK.trans{al:Al}{b2 GW b'' abo:aC}(h:wK al b' b2 GW)(k:wK al b'' GW abo):wK al b'' b2 abo:=fun id=>by rw[k id,h id];cases al.ok id<;>rfl
theorem wK.refl{al:Al}{b b2:aC}(h:Fa al b b2):wK al b b2 b2:=fun id=>by
 cases hid:al.ok id with
 |true=>exact h id hid
 |false=>rfl
theorem Frame.trans{al:Al}{b b'':aC}(h:Frame al b b')(k:Frame al b' b''):Frame al b b'':=fun id hid=>(k id hid).trans (h id hid)
section
variable {sh:Ctx} {cp:gC} {cs:jZ} (dA:BH cs)
include dA
theorem awG:∀ {ops:h_}{ak aF:Env}{aj ao:aC}{es:i_},steps sh cp cs ops ak aj=some (aF,ao,es)->Frame sh.al aj ao/\
  ∀bn,Fa sh.al aj bn->∃mX,steps sh cp cs ops ak bn=some (aF,mX,es)/\wK sh.al ao bn mX:=by
 intro ops
 induction ops with
 |nil=>intro ak aF aj ao es h;simp only[steps,fY,lK]at h;obtain⟨rfl,rfl,rfl⟩:=h;exact⟨fun _ _=>rfl,fun bn ha=>⟨bn,rfl,.refl ha⟩⟩
 |cons o ops ih=>
  intro ak aF aj ao es h;simp only[steps]at h;split at h
  .rename_i iT cF e h1;split at h
   .rename_i dy bn ib h2;cases h;obtain⟨v,rfl,fr,tw,loc⟩:=ZS dA h1;obtain⟨f2,g2⟩:=ih h2;have hw:∀id,sh.al.ok id=false->e.writes id=false:=by
     intro id hid;cases hh:e.writes id with
     |false=>rfl
     |true=>have:=tw id (by simp[cK.vl,hh]);rw[hid]at this;cases this
    refine⟨Frame.trans (fun id hid=>fr id (hw id hid)) f2,fun b2 ha=>?_⟩;obtain⟨b1,s1,m1⟩:=loc ak b2 (fun _ _=>rfl) (fun id hid=>ha id (tw id hid));have pQ:wK sh.al cF b2 b1:=by
     intro id;rw[m1 id];cases hid:sh.al.ok id with
     |true=>
      cases hh:e.writes id with
      |true=>rfl
      |false=>simp only[dN,if_false,if_true];rw[ha id hid,fr id hh]
     |false=>rw[hw id hid]
    obtain⟨b3,s2,m2⟩:=g2 b1 pQ.agree;exact⟨b3,by simp only[steps,s1,s2],pQ.trans m2⟩
   cases h
  cases h
theorem arn{c:Env->aC->Option (mD×Env×aC)}(hc:∀ {ak aF aj ao e},c ak aj=some (e,aF,ao)->Frame sh.al aj ao/\ ∀bn,Fa sh.al aj bn->∃mX,c ak bn=some (e,aF,mX)/\wK sh.al ao bn mX):
  ∀(k:Nat) {ak aF:Env}{aj ao:aC}{e:mD},iter c k ak aj=some (e,aF,ao)->Frame sh.al aj ao/\ ∀bn,Fa sh.al aj bn->∃mX,iter c k ak bn=some (e,aF,mX)/\wK sh.al ao bn mX:=by
 have _u0:=dA;intro k
 induction k with
 |zero=>intro ak aF aj ao e h;simp[iter]at h
 |succ k ih=>
  intro ak aF aj ao e h;simp only[iter]at h;split at h
  .rename_i iT cF h1;obtain⟨f1,g1⟩:=hc h1;obtain⟨f2,g2⟩:=ih h;refine⟨f1.trans f2,fun b2 ha=>?_⟩;obtain⟨b1,s1,m1⟩:=g1 b2 ha;obtain⟨b3,s2,m2⟩:=g2 b1 m1.agree;exact⟨b3,by simp only[iter,s1,s2],m1.trans m2⟩
  rename_i aH;obtain⟨f1,g1⟩:=hc h;refine⟨f1,fun b2 ha=>?_⟩;obtain⟨b1,s1,m1⟩:=g1 b2 ha;refine⟨b1,?_,m1⟩;cases e with
  |normal=>exact(aH _ _ h).elim
  |exit i=>simp only[iter,s1]
  |ret=>simp only[iter,s1]
theorem ac1{n:Nat}:∀(c:aN) {ak aF:Env}{aj ao:aC}{e:mD},exec sh cp cs n c ak aj=some (e,aF,ao)->Frame sh.al aj ao/\
  ∀bn,Fa sh.al aj bn->∃mX,exec sh cp cs n c ak bn=some (e,aF,mX)/\wK sh.al ao bn mX:=by
 intro c
 induction c with
 |skip=>intro ak aF aj ao e h;simp only[exec,fY,lK]at h;obtain⟨rfl,rfl,rfl⟩:=h;exact⟨fun _ _=>rfl,fun b2 ha=>⟨b2,rfl,.refl ha⟩⟩
 |exit id=>intro ak aF aj ao e h;simp only[exec,fY,lK]at h;obtain⟨rfl,rfl,rfl⟩:=h;exact⟨fun _ _=>rfl,fun b2 ha=>⟨b2,rfl,.refl ha⟩⟩
 |ret=>intro ak aF aj ao e h;simp only[exec,fY,lK]at h;obtain⟨rfl,rfl,rfl⟩:=h;exact⟨fun _ _=>rfl,fun b2 ha=>⟨b2,rfl,.refl ha⟩⟩
 |bad=>intro ak aF aj ao e h;simp[exec]at h
 |region d ops=>
  intro ak aF aj ao e h;simp only[exec]at h;split at h
  .rename_i iT cF es h1;obtain⟨f1,g1⟩:=awG dA h1;have he:(e,aF,ao)=(mD.normal,iT,cF)/\(d=true->um ops [] es=true):=by
    cases d with
    |false=>simp at h;exact⟨by simp[h],fun h=>by cases h⟩
    |true=>
     simp only[if_true]at h;split at h
     .rename_i hd;cases h;exact⟨rfl,fun _=>hd⟩
     cases h
   obtain⟨he,hd⟩:=he;cases he;refine⟨f1,fun b2 ha=>?_⟩;obtain⟨b1,s1,m1⟩:=g1 b2 ha;refine⟨b1,?_,m1⟩;simp only[exec,s1];cases d with
   |false=>simp
   |true=>simp[hd rfl]
  cases h
 |seq a b iha ihb=>
  intro ak aF aj ao e h;simp only[exec]at h;split at h
  .rename_i iT cF h1;obtain⟨f1,g1⟩:=iha h1;obtain⟨f2,g2⟩:=ihb h;refine⟨f1.trans f2,fun b2 ha=>?_⟩;obtain⟨b1,s1,m1⟩:=g1 b2 ha;obtain⟨b3,s2,m2⟩:=g2 b1 m1.agree;exact⟨b3,by simp only[exec,s1,s2],m1.trans m2⟩
  rename_i aH;obtain⟨f1,g1⟩:=iha h;refine⟨f1,fun b2 ha=>?_⟩;obtain⟨b1,s1,m1⟩:=g1 b2 ha;refine⟨b1,?_,m1⟩;cases e with
  |normal=>exact(aH _ _ h).elim
  |exit i=>simp only[exec,s1]
  |ret=>simp only[exec,s1]
 |cond x a b iha ihb=>
  intro ak aF aj ao e h;simp only[exec]at h |-;split at h
  .rename_i t ht;cases t with
   |true=>exact iha h
   |false=>exact ihb h
  cases h
 |block id c ih=>
  intro ak aF aj ao e h;simp only[exec]at h;split at h
  .rename_i i iT cF h1;obtain⟨f1,g1⟩:=ih h1;have hb:ao=cF:=by split at h<;>cases h<;>rfl
   subst hb;refine⟨f1,fun b2 ha=>?_⟩;obtain⟨b1,s1,m1⟩:=g1 b2 ha;refine⟨b1,?_,m1⟩;simp only[exec,s1];split at h
   .rename_i hi;cases h;rw[aD hi]
   rename_i hi;cases h;rw[au hi]
  rename_i aH;obtain⟨f1,g1⟩:=ih h;refine⟨f1,fun b2 ha=>?_⟩;obtain⟨b1,s1,m1⟩:=g1 b2 ha;refine⟨b1,?_,m1⟩;cases e with
  |normal=>simp only[exec,s1]
  |exit i=>exact(aH _ _ _ h).elim
  |ret=>simp only[exec,s1]
 |loop c ih=>intro ak aF aj ao e h;simp only[exec]at h |-;exact arn dA (fun h=>ih h) n h
end
theorem aiK{al:Al}{aj bn:aC}(ha:Fa al aj bn):∀ {rs:List (Nat×Option w_)}{vs:e_},qm al ak aj rs=some vs->qm al ak bn rs=some vs:=by
 intro rs
 induction rs with
 |nil=>intro vs h;exact h
 |cons r rs ih=>
  obtain⟨t,k⟩:=r;cases k with
  |none=>
   intro vs h;simp only[qm]at h |-;split at h
   .rename_i v q h1 h2;cases h;simp only[h1,ih h2]
   cases h
  |some k=>
   intro vs h;simp only[qm]at h |-;split at h
   .rename_i cs rd q h1 h2;split at h
    .rename_i ay;rw[aix h1 (fun id hid=>ha id (SK ay hid)),ih h2];simp only[ay,if_true];exact h
    cases h
   cases h
theorem avb(dA:BH cs){n:Nat}{fn:bd}{args:e_}{aj ao:aC}{v:V}(h:sI sh cp cs n fn args aj=some (v,ao)):Frame sh.al aj ao/\
  ∀bn,Fa sh.al aj bn->∃mX,sI sh cp cs n fn args bn=some (v,mX)/\wK sh.al ao bn mX:=by
 unfold sI at h;split at h
 .rename_i ak b hx;simp only[dT]at h;obtain⟨vs,h1,h2⟩:=h;cases h2;obtain⟨f1,g1⟩:=ac1 dA _ hx;refine⟨f1,fun b2 ha=>?_⟩;obtain⟨b3,s1,m1⟩:=g1 b2 ha;exact⟨b3,by unfold sI;rw[s1];simp only[aiK m1.agree h1,nK],m1⟩
 .rename_i ak b hx;simp only[dT]at h;obtain⟨vs,h1,h2⟩:=h;cases h2;obtain⟨f1,g1⟩:=ac1 dA _ hx;refine⟨f1,fun b2 ha=>?_⟩;obtain⟨b3,s1,m1⟩:=g1 b2 ha;exact⟨b3,by unfold sI;rw[s1];simp only[aiK m1.agree h1,nK],m1⟩
 cases h
end
end Go.Abs
namespace Go.Abs
variable {P:Program} {w0:World}
def tK(w:World)(O:Nat->Prop):V->Value->Prop
 | .one (.p x),v=>cM w O x v
 | .agg cs,v=>∃arr ps,v=.agg arr/\cs=ps.map .p/\dJ w O ps arr.toList
 |_,_=>False
def Enters(P:Program)(f:Nat):Prop:= ∃fn c,P.funcs[f]?=some fn/\fn.body=some c/\(fn.name== "runtime.NumGoroutine")=false
def Qd(w:World)(Q:Nat->Prop)(r:RV)(val:Value)(bs:a_):Prop:= ∃vs,GL r val vs/\sJ w Q (iu r) vs bs
def wL(w:World)(O:Nat->Prop)(r:RV):Ending->World->Prop:=fun e w'=>∃val bs,e=.returned val/\fU w w'/\bs.Nodup/\(∀c∈bs,w.heap.size<=c/\c<w'.heap.size)/\Qd w' (fun c=>O c\/c∈bs) r val bs
def Good(G:World->Prop)(w:World):Prop:=G w/\ ∀w w',fU w w'->G w->G w'
theorem Ok.aeT{m:Mem}(h:Ok w0 m):fU w0 m.w:=⟨h.os,h.tape,h.output,h.size,h.base⟩
theorem sJ.pure{w:World}{Q Q':Nat->Prop}(h:∀b,Q' b->Q b):∀ {rs:n_}{vs:List Value}{bs:a_},(∀c∈bs,¬Q' c)->sJ w Q rs vs bs->sJ w Q' (rs.map RC.pure) vs []:=by
 intro rs
 induction rs with
 |nil=>intro vs bs _ hr;exact⟨hr.1,rfl⟩
 |cons r rs ih=>
  intro vs bs hb hr;have less:∀ {x:PV}{v:Value},cM w Q x v->cM w Q' x v:=fun hp=>hp.mono fun c _ hn=>⟨rfl,fun hq=>hn (h c hq)⟩;cases r with
  |p x=>obtain⟨v,nZ,rfl,h1,h2⟩:=hr;exact⟨v,nZ,rfl,less h1,ih hb h2⟩
  |own ty sz es=>
   obtain⟨v,nZ,c,DB,rfl,rfl,⟨cap,cur,e1,e2,e3,e4,e5,e6,e7,e8⟩,h2⟩:=hr;refine⟨v,nZ,rfl,?_,ih (fun c hc=>hb c (by simp[hc])) h2⟩;subst e1;refine cM.sl c 0 cap sz (fun j=>cur.toList.getD j undef) (fun _=>hb c af) e5 e6 e4 (fun j x hx=>?_) (fun j x hx=>?_)
   .have hj:j<(cur.toList.take (es.length*sz)).length:=by rw[e8.1];exact(aT.1 hx).1
    have nk:j<cur.size:=by simp at hj;omega
    rw[World.cell?];simp[e2,nk,List.getD,jx]
   have hj:j<(cur.toList.take (es.length*sz)).length:=by rw[e8.1];exact(aT.1 hx).1
   have nk:j<cur.size:=by simp at hj;omega
   refine less (e8.2 j x _ hx ?_);rw[List.getElem?_take_of_lt (by simp at hj;omega)];simp[nk,List.getD]
theorem yZ.pure{r:RV}{v:Value}{vs:List Value}(h:yZ r v vs):yZ r.Gm v vs/\iJ r.Gm=(iJ r).map RC.pure:=by
 cases r with
 |one c=>exact⟨h,rfl⟩
 |agg cs=>exact⟨⟨h.1,by simpa [RV.Gm]using h.2⟩,rfl⟩
 |tup _=>exact h.elim
theorem Fb.pure:∀ {rs:List RV}{us vs:List Value},Fb rs us vs->Fb (rs.map RV.Gm) us vs/\ng (rs.map RV.Gm)=(ng rs).map RC.pure:=by
 intro rs
 induction rs with
 |nil=>intro us vs h;exact⟨h,rfl⟩
 |cons r rs ih=>
  rintro us vs ⟨u,Pz,a,b,rfl,rfl,h1,h2⟩
  obtain⟨p1,p2⟩:=h1.pure;obtain⟨q1,q2⟩:=ih h2;exact⟨⟨u,Pz,a,b,rfl,rfl,p1,q1⟩,by simp[ng,p2,q2]⟩
theorem GL.pure{r:RV}{v:Value}{vs:List Value}(h:GL r v vs):GL r.pure v vs/\iu r.pure=(iu r).map RC.pure:=by
 cases r with
 |one c=>exact yZ.pure (r:=.one c) h
 |agg cs=>exact yZ.pure (r:=.agg cs) h
 |tup rs=>obtain⟨arr,rfl,h2⟩:=h;obtain⟨q1,q2⟩:=h2.pure;exact⟨⟨arr,rfl,q1⟩,q2⟩
theorem wL.gj{w w':World}{O:Nat->Prop}{r:RV}{e:Ending}(b:Bool)(hO:∀c,O c->c<w.heap.size)(h:wL w O r e w'):wL w O (r.gj b) e w':=by
 cases b with
 |false=>exact h
 |true=>
  obtain⟨val,bs,rfl,hg,gI,mL,vs,h1,h2⟩:=h;obtain⟨p1,p2⟩:=h1.pure;refine⟨val,[],rfl,hg,xO,fun c hc=>by simp at hc,vs,p1,?_⟩;simp only[RV.gj];rw[p2];refine sJ.pure (fun b hb=>?_) (fun c hc hn=>?_) h2
  .rcases hb with hb|hb
   .exact .inl hb
   simp at hb
  rcases hn with hn|hn
  .have:=hO c hn;have:=(mL c hc).1;omega
  simp at hn
def Ff(P:Program)(G:World->Prop)(cp:gC):Prop:=∀f vs r,cp f vs=some r->Enters P f/\ ∀(w:World) (O:Nat->Prop) (args:Array Value),Good G w->(∀c,O c->c<w.heap.size)->Pw (tK w O) vs args.toList->Calls P f args w (wL w O r)
def Jl(w0:World)(m:Mem)(v:V)(ao:aC):Ending->World->Prop:=fun e w'=>∃val m',e=.returned val/\m'.w=w'/\Ok w0 m'/\Ev m m'/\m'.fr=m.fr/\m'.aj=ao/\cq m' v val
def GM(P:Program)(G:World->Prop)(cs:jZ):Prop:=∀f vs al aj v ao,cs f vs al aj=some (v,ao)->Enters P f/\ ∀(w0:World) (m:Mem) (args:Array Value),Good G w0->Ok w0 m->m.aj=aj->Pw (cq m) vs args.toList->Calls P f args m.w (Jl w0 m v ao)
theorem awh{m:Mem}(ay:Ok w0 m){O:Nat->Prop}{x y:V}{r:a_}{v:Value}(h:oY m.aj x=some (y,r))(hr:cq m x v)(hs:rj m O r):tK m.w O y v:=by
 cases x with
 |undef=>simp[oY]at h
 |tup vs=>simp[oY]at h
 |one c=>simp only[oY,dT]at h;obtain⟨⟨p,r'⟩,h1,h2⟩:=h;cases h2;exact LP ay gG h1 hr hs
 |agg cs=>simp only[oY,dT]at h;obtain⟨⟨ps,r'⟩,h1,h2⟩:=h;cases h2;obtain⟨arr,rfl,hc⟩:=cq.agg.1 hr;refine⟨arr,ps,rfl,rfl,?_⟩;exact JI (R:=dq m) (T:=cM m.w O) (fi:=rj m O) (fun _ _=>rj.app) (fun _ _ _ _ h1 h2 h3=>LP ay gG h1 h2 h3) h1 hs hc
theorem ajp{m:Mem}(ay:Ok w0 m){O:Nat->Prop}{xs ys:e_}{r:a_}{vs:List Value}(h:CZ m.aj xs=some (ys,r))(hr:Pw (cq m) xs vs)(hs:rj m O r):Pw (tK m.w O) ys vs:=JI (R:=cq m) (T:=tK m.w O) (fi:=rj m O) (fun _ _=>rj.app) (fun _ _ _ _ h1 h2 h3=>awh ay h1 h2 h3) h hs hr
theorem ah1{m:Mem}(ay:Ok w0 m){c:Nat}(h:m.own c):c<m.w.heap.size:=by
 rcases h with h|⟨id,o,ho,_,rfl⟩
 .exact ay.frlt c h
 exact(ay.obj id o ho).lt
theorem aiZ{w:World}{Q Q':Nat->Prop}{x:PV}{v:Value}(hs:x.scalar=true)(h:cM w Q x v):cM w Q' x v:=by
 cases h<;>first
  |(simp[PV.scalar]at hs;done)
  |constructor
theorem alr{w:World}{Q Q':Nat->Prop}:∀ {rs:n_}{vs:List Value}{bs:a_},rs.all RC.alone=true->sJ w Q rs vs bs->sJ w Q' rs vs bs:=by
 intro rs
 induction rs with
 |nil=>intro vs bs _ h;exact h
 |cons r rs ih=>
  intro vs bs ha h;simp only[nI,cH]at ha;cases r with
  |p x=>obtain⟨v,nZ,rfl,h1,h2⟩:=h;exact⟨v,nZ,rfl,aiZ ha.1 h1,ih ha.2 h2⟩
  |own ty sz es=>obtain⟨v,nZ,c,DB,rfl,rfl,⟨cap,cur,e1,e2,e3,e4,e5,e6,e7,e8⟩,h2⟩:=h;refine⟨v,nZ,c,DB,rfl,rfl,⟨cap,cur,e1,e2,e3,e4,e5,e6,e7,e8.1,fun j x u a b=>?_⟩,ih ha.2 h2⟩;refine aiZ ?_ (e8.2 j x u a b);have hx:=aV a;obtain⟨e,he,hxe⟩:=GF.1 hx;have h1:=ha.1;simp only[RC.alone]at h1;exact gk.1 (gk.1 h1 e he) x hxe
theorem agL{m:Mem}{w':World}{x:RV}{val:Value}{bs:a_}{site:Nat}(ay:Ok w0 m)(hg:fU m.w w')(gI:bs.Nodup)(mL:∀c∈bs,m.w.heap.size<=c/\c<w'.heap.size)(hr:Qd w' (fun c=>m.own c\/c∈bs) x val bs):
  ∃m',m'.w=w'/\Ok w0 m'/\Ev m m'/\m'.fr=m.fr/\m'.aj=app (jO m.aj site x).2 m.aj/\cq m' (jO m.aj site x).1 val:=by
 obtain⟨vs,h1,h2⟩:=hr;have oO:Ok w0 (m.later w' (· ∈bs)):=OW ay hg mL;have w7:Ev m (m.later w' (· ∈bs)):=K4 hg fun c hc=>(mL c hc).1;obtain⟨m',e1,e2,e3,_,e5,e6,e7⟩:=aq2 (O0:=m) (site:=site) oO (h2.less fun b hb=>agP.1 hb) gI (fun c hc=>⟨.inr hc,oz ay.size (mL c hc).1⟩) w7 (fun c hc=>.inl (mL c hc).1);refine⟨m',e1,e2,e3,?_,e6,auQ h1 e7⟩;funext c;apply propext;rw[e5 c];constructor
 .rintro ⟨h|h,h2⟩
  .exact h
  exact(h2 h).elim
 intro h;refine⟨.inl h,fun hc=>?_⟩;have h1:=ay.frlt c h;have h2:=(mL c hc).1;omega
theorem aq3{b b':aC}(h:∀s,(b s).1=(b' s).1)(site:Nat)(x:RV):jO b site x=jO b' site x:=by unfold jO;rw[afO _ site b b' fun s _=>h s]
theorem atz{G:World->Prop}{cp:gC}(B0:Ff P G cp)(hG:Good G w0){m:Mem}(ay:Ok w0 m){f:Nat}{xs vs:e_}{rd:a_}{x:RV}{site:Nat}{v:V}{u:l_}{args:Array Value}(hc:cp f vs=some x)(hs:CZ m.aj xs=some (vs,rd))(DX:Pw (cq m) xs args.toList)
  {pb:Bool} (hl:land m.aj rd site (x.gj pb)=some (v,u)):Calls P f args m.w (Jl w0 m v (app u m.aj)):=by
 have DZ:∀(w:World) (O:Nat->Prop) (args:Array Value),Good G w->(∀c,O c->c<w.heap.size)->Pw (tK w O) vs args.toList->Calls P f args w (wL w O (x.gj pb)):=fun w O args h1 h2 h3=>((B0 f vs x hc).2 w O args h1 h2 h3).mono fun e w' h=>h.gj pb h2
 generalize x.gj pb=x at hl DZ;unfold land at hl;split at hl
 .rename_i r7;cases hl;have key:∀(O:Nat->Prop),(∀c,O c->c<m.w.heap.size)->rj m O rd->(∀w' bs val,Qd w' (fun c=>O c\/c∈bs) x val bs->Qd w' (fun c=>m.own c\/c∈bs) x val bs)->Calls P f args m.w (Jl w0 m (jO m.aj site x).1 (app (jO m.aj site x).2 m.aj)):=by
   intro O hO pW xm;refine(DZ m.w O args ⟨hG.2 _ _ ay.aeT hG.1,hG.2⟩ hO (ajp ay hs DX pW)).mono ?_;rintro e w' ⟨val,bs,rfl,hg,gI,mL,hr⟩
   obtain⟨m',e1,e2,e3,e4,e5,e6⟩:=agL (site:=site) ay hg gI mL (xm w' bs val hr);exact⟨val,m',rfl,e1,e2,e3,e4,e5,e6⟩
  rcases r7 with rfl|gT
  .exact key m.own (fun c hc=>ah1 ay hc) ⟨fun _ h=>h,fun _ h=>by simp at h⟩ fun _ _ _ h=>h
  refine key (fun _=>False) (fun c h=>h.elim) ⟨fun _ h=>h.elim,fun _ _ h=>h⟩ fun w' bs val h=>?_;obtain⟨nZ,h1,h2⟩:=h;exact⟨nZ,h1,alr gT h2⟩
 split at hl
 .rename_i fu rF;cases hl;have oO:=aez ay rF;have w7:=Xk rF;have pW:=Xn ay rF;refine(DZ m.w (m.with fu).own args ⟨hG.2 _ _ ay.aeT hG.1,hG.2⟩ (fun c hc=>ah1 oO hc) (ajp ay hs DX pW)).mono ?_;rintro e w' ⟨val,bs,rfl,hg,gI,mL,hr⟩
  obtain⟨m',e1,e2,e3,e4,e5,e6⟩:=agL (m:=m.with fu) (site:=site) oO hg gI mL hr;have XD:jO (m.with fu).aj site x=jO m.aj site x:=aq3 (fun s=>No rF s) site x;rw[XD]at e5 e6;refine⟨val,m',rfl,e1,e2,w7.trans e3,e4,?_,e6⟩;rw[e5,Mw];rfl
 cases hl
end Go.Abs
namespace Go.Abs
variable {P:Program} {w0:World}
theorem S3{m m':Mem}(eF:Ev m m'){ak:Env}{a:Act}{dst:w_}{v:V}{x:Value}(hr:jz m ak a.tmps)(hv:cq m' v x)(hd:∀d,dst=some d->d<a.tmps.size):jz m' (put ak dst v) (a.put dst x).tmps:=by
 cases dst with
 |none=>exact hr.ev eF
 |some d=>
  intro t;have aA:=hd d rfl;simp only[put,Act.put,aP];by_cases ht:t=d
  .subst ht;rw[aD rfl];have:(a.tmps.setIfInBounds t x).getD t undef=x:=by simp[aA]
   rw[this];exact hv
  rw[au ht];have:(a.tmps.setIfInBounds d x).getD t undef=a.tmps.getD t undef:=by simp only[ES];rw[Array.getElem?_setIfInBounds_ne (fun e=>ht e.symm)]
  rw[this];exact(hr t).ev eF.zero
theorem S4(a:Act)(dst:w_)(x:Value):(a.put dst x).tmps.size=a.tmps.size:=by cases dst<;>simp[Act.put]
theorem put_defers(a:Act)(dst:w_)(x:Value):(a.put dst x).defers=a.defers:=by cases dst<;>simp[Act.put]
theorem akb{m:Mem}{ak:Env}{tmps:Array Value}(hr:jz m ak tmps){ops:Array Oper}{o:Oper}{g:Option (Nat×Bool)}{b:Bool}
  (hg:match o.guard with|none=>g=none|some (j,w)=>∃t,(ops[j]?).bind (·.dst)=some t/\g=some (t,w)) (h:wanted ak g=some b):Region.wanted o (yielded ops tmps)=b:=by
 unfold Region.wanted;cases ho:o.guard with
 |none=>rw[ho]at hg;subst hg;simp only[wanted,fY]at h;exact h
 |some q=>
  obtain⟨j,w⟩:=q;rw[ho]at hg;obtain⟨t,h1,rfl⟩:=hg;have hrt:=hr t;simp only[wanted]at h;simp only[yielded,h1,Option.bind_some];split at h
  .rename_i b' hb;rw[hb]at hrt;have hv:=Gc hrt;cases h;have:tmps[t]?=some (.bool b'):=by
    rw[ES]at hv;cases he:tmps[t]? with
    |none=>rw[he]at hv;simp[undef]at hv
    |some y=>rw[he]at hv;simp at hv;rw[hv]
   rw[this];rfl
  .rename_i hb;rw[hb]at hrt;cases h;have hv:tmps.getD t undef=undef:=hrt;rw[ES]at hv;cases he:tmps[t]? with
   |none=>rfl
   |some y=>rw[he]at hv;simp at hv;rw[hv];rfl
  cases h
theorem aeq{m:Mem}{ak:Env}{f:aU}{v:Value}{g:Nat}{a b:f_}(h:Fz ak f=some (g,a,b))(hr:cq m (ev ak f) v):∃A B:Array Value,v=.func (.func g) A B/\dK m a A.toList/\dK m b B.toList:=by
 unfold Fz at h;split at h
 .rename_i g' x y he;cases h;rw[he]at hr;obtain⟨hp⟩:dq m _ v:=hr;cases hp with
  |fn A B ha hb xh sa=>exact⟨A,B,rfl,dJ.EL ⟨by simpa using ha,fun j x u p q=>xh j x u p (by simpa using q)⟩,dJ.EL ⟨by simpa using hb,fun j x u p q=>sa j x u p (by simpa using q)⟩⟩
 .rename_i g' x y he;cases h;rw[he]at hr;have hc:dq m _ v:=hr;cases hc with
  |hfn A B ha hb xh sa=>exact⟨A,B,rfl,⟨by simpa using ha,fun j x u p q=>xh j x u p (by simpa using q)⟩,⟨by simpa using hb,fun j x u p q=>sa j x u p (by simpa using q)⟩⟩
 cases h
theorem abg{m:Mem}{ak:Env}{a:Act}(hr:jz m ak a.tmps):∀ {xs:List Operand}{ys:o_},rl xs=some ys->Pw (cq m) (ys.map (ev ak)) (xs.map a.eval):=by
 intro xs
 induction xs with
 |nil=>intro ys h;simp[rl]at h;subst h;exact⟨rfl,fun j x u p=>by simp at p⟩
 |cons x xs ih=>
  intro ys h;simp only[rl]at h;split at h
  .rename_i y ys' h1 h2;cases h;obtain⟨i1,i2⟩:=ih h2;refine⟨by simpa using i1,fun j z u p q=>?_⟩;cases j with
   |zero=>simp at p q;subst p q;exact eU h1 hr
   |succ j=>exact i2 j z u (by simpa using p) (by simpa using q)
  cases h
theorem SL{m:Mem}{cs:f_}{vs:List Value}(h:dK m cs vs):Pw (cq m) (cs.map .one) vs:=by refine⟨by simpa using h.1,fun j x u p q=>?_⟩;simp only[fG,dT]at p;obtain⟨c,hc,rfl⟩:=p;exact cq.one.2 (h.2 j c u hc q)
theorem amu{f:Nat}(h:Enters P f)(args:Array Value)(w:World):(callFunc f args).run P w=.ok (.enter f args) w:=by
 obtain⟨fn,c,h1,h2,h3⟩:=h;have h4:¬fn.name= "runtime.NumGoroutine" :=by simpa using h3
 simp[callFunc,run_program,h1,h2,h4]
theorem abH{o:Oper}{c:Call}{fo:Operand}{a:Act}{g:Nat}{A B:Array Value}{w:World}(ho:o.op=.call c)(hc:c.callee=.value fo)(hv:a.eval fo=.func (.func g) A B)(he:Enters P g):
  (execOp a.eval o).run P w=.ok (.enter g (A++c.args.map a.eval++B)) w:=by
 simp[execOp,ho,resolve,hc,hv,Deferred.ofValue,invoke,amu he]
theorem ahI{site:Nat}{o:Oper}{p:oF}(h:Hc P site o=some p)(hp:∀s f as,p≠ .call s f as){sh:Nat->Bool}{ak:Env}{aj:aC}:(∀f vs r s,bN sh ak aj p≠ .pc f vs r s)/\ ∀f vs,bN sh ak aj p≠ .sc f vs:=by
 cases p<;>first
  |exact(hp _ _ _ rfl).elim
  |(simp only[bN]
    constructor<;>intros<;>intro h<;>(repeat' split at h)<;>first
     |cases h
     |(simp only[BB,EE,gE]at h;(repeat' split at h)<;>cases h))
theorem abY{site:Nat}{o:Oper}{s:Nat}{f:aU}{as:o_}(h:Hc P site o=some (.call s f as)):∃c fo,o.op=.call c/\c.callee=.value fo/\cX fo=some f/\rl c.args.toList=some as:=by
 unfold Hc at h;split at h
 case h_26 c ho=>
  split at h
  .rename_i f' as' h1 h2;simp only[dT]at h;obtain⟨y,h3,h4⟩:=h;cases h4;exact⟨c,f',ho,h1,h3,h2⟩
  all_goals((repeat' split at h)<;>first
   |cases h
   |(simp at h;done))
 all_goals((repeat' split at h)<;>first
  |cases h
  |(simp at h;done))
def GO(w0:World)(m:Mem)(a:Act)(nt:Nat)(aF:Env)(ao:aC)(K:Act->World->Prop):Prop:=∀(a':Act) (m':Mem),Ok w0 m'->Ev m m'->m'.fr=m.fr->m'.aj=ao->jz m' aF a'.tmps->a'.tmps.size=nt->a'.defers=a.defers->K a' m'.w
theorem akg{o:Oper}{a:Act}{f:Nat}{args:Array Value}{w:World}{K:Act->World->Prop}{Q:Exit->Act->World->Prop}{R:Ending->World->Prop}(kh:(execOp a.eval o).run P w=.ok (.enter f args) w)(hc:Calls P f args w R)
  (hR:∀e w',R e w'->∃v,e=.returned v/\K (a.put o.dst v) w'):o.wp P a w K Q:=by
 unfold Oper.wp;rw[kh,Oper.upon_enter];refine hc.mono ?_;intro e w' he;obtain⟨v,rfl,hk⟩:=hR e w' he;exact hk
theorem ajA{G:World->Prop}(hG:Good G w0){cp:gC}{cs:jZ}(hP:Ff P G cp)(hS:GM P G cs){sh:Ctx}{ops:Array Oper}{base nt anc:Nat}{o:Oper}{io:bQ}{m:Mem}{ak aF:Env}{ao:aC}{eff:cK}{a:Act}{K:Act->World->Prop}{Q:Exit->Act->World->Prop}
  (ho:Fp P (fun j=>(ops[j]?).bind (·.dst)) base nt anc o=some io) (cV:step1 sh cp cs io ak m.aj=some (aF,ao,eff)) (ay:Ok w0 m) (hr:jz m ak a.tmps) (gJ:a.tmps.size=nt) (hK:GO w0 m a nt aF ao K):
  if Region.wanted o (yielded ops a.tmps)then o.wp P a m.w K Q else K (a.put o.dst undef) m.w:=by
 have hio:io.dst=o.dst/\io.op=JJ P base o/\(∀d,o.dst=some d->d<nt)/\(match o.guard with|none=>io.guard=none|some (j,w)=>∃t,(ops[j]?).bind (·.dst)=some t/\io.guard=some (t,w)):=by
  unfold Fp at ho;split at ho
  .rename_i hd;simp only[dT]at ho;obtain⟨g,hg,rfl⟩:=ho;refine⟨rfl,rfl,fun d he=>?_,?_⟩
   .rw[he]at hd
    simpa [acK]using hd
   cases hgo:o.guard with
   |none=>rw[hgo]at hg;simp[Xt]at hg;exact hg.symm
   |some q=>obtain⟨j,w⟩:=q;rw[hgo]at hg;simp only[Xt,dT]at hg;obtain⟨t,ht,rfl⟩:=hg;exact⟨t,ht,rfl⟩
  cases ho
 obtain⟨h1,h2,h3,h4⟩:=hio;have hd:∀d,o.dst=some d->d<a.tmps.size:=by rw[gJ];exact h3
 unfold step1 at cV;split at cV
 .cases cV
 .rename_i hw;cases cV;rw[akb hr h4 hw];simp only[dN,if_false];rw[h1]at hK;exact hK _ m ay (Ev.refl m) rfl rfl (S3 (Ev.refl m) hr (show cq m .undef undef from rfl) hd) (by rw[S4,gJ]) (put_defers _ _ _)
 rename_i hw;rw[akb hr h4 hw];simp only[if_true];rw[h2]at cV;unfold JJ at cV;cases Ba:Hc P base o with
 |none=>rw[Ba]at cV;simp[bN]at cV
 |some p=>
  rw[Ba]at cV;simp only[oE]at cV;split at cV
  .cases cV
  .rename_i v u r hp;split at cV
   case isFalse=>cases cV
   cases cV;obtain⟨x,m',apY,e2,e3,e4,e5,e6⟩:=as9 ay hr Ba hp;rw[h1]at hK;have hk:=fun x (hx:cq m' v x)=>hK (a.put o.dst x) m' e2 e3 e4 e5 (S3 e3 hr hx hd) (by rw[S4,gJ]) (put_defers _ _ _);unfold Oper.wp;rcases apY with hd|⟨hd,rfl⟩
   .rw[hd,Oper.upon_value];exact hk x e6
   rw[hd,Oper.upon_skip];exact hk undef e6
  .rename_i f vs r s hp;by_cases DZ:∃s f as,p=.call s f as
   .obtain⟨s',f',as,rfl⟩:=DZ;obtain⟨c,fo,g1,g2,g3,g4⟩:=abY Ba;simp only[bN]at hp;split at hp
    .rename_i g A B hfn;obtain⟨AV,BV,e1,e2,e3⟩:=aeq hfn (eU g3 hr);split at hp
     .cases hp
     split at hp
     .rename_i ws rd nv;cases hp;split at cV
      .rename_i x hx;split at cV
       .rename_i v u hl;split at cV
        case isFalse=>cases cV
        cases cV;have DX:Pw (cq m) (A.map .one++as.map (ev ak)++B.map .one) (AV++c.args.map a.eval++BV).toList:=by
         have:=((SL e2).append (abg hr g4)).append (SL e3)
         simpa using this
        refine akg (abH g1 g2 e1 (hP _ _ _ hx).1) (atz hP hG ay hx nv DX hl) ?_;rintro e w' ⟨val,m',rfl,rfl,q1,q2,q3,q4,q5⟩
        rw[h1]at hK;exact⟨val,rfl,hK _ m' q1 q2 q3 q4 (S3 q2 hr q5 hd) (by rw[S4,gJ]) (put_defers _ _ _)⟩
       cases cV
      cases cV
     cases hp
    cases hp
   exact((ahI Ba (fun s f as e=>DZ ⟨s,f,as,e⟩)).1 _ _ _ _ hp).elim
  rename_i f vs hp;by_cases DZ:∃s f as,p=.call s f as
  .obtain⟨s',f',as,rfl⟩:=DZ;obtain⟨c,fo,g1,g2,g3,g4⟩:=abY Ba;simp only[bN]at hp;split at hp
   .rename_i g A B hfn;obtain⟨AV,BV,e1,e2,e3⟩:=aeq hfn (eU g3 hr);split at hp
    .cases hp;split at cV
     case isFalse=>cases cV
     split at cV
     .rename_i v JC hx;cases cV;have DX:Pw (cq m) (A.map .one++as.map (ev ak)++B.map .one) (AV++c.args.map a.eval++BV).toList:=by
       have:=((SL e2).append (abg hr g4)).append (SL e3)
       simpa using this
      refine akg (abH g1 g2 e1 (hS _ _ _ _ _ _ hx).1) ((hS _ _ _ _ _ _ hx).2 w0 m _ hG ay rfl DX) ?_;rintro e w' ⟨val,m',rfl,rfl,q1,q2,q3,q4,q5⟩
      rw[h1]at hK;exact⟨val,rfl,hK _ m' q1 q2 q3 q4 (S3 q2 hr q5 hd) (by rw[S4,gJ]) (put_defers _ _ _)⟩
     cases cV
    split at hp<;>cases hp
   cases hp
  exact((ahI Ba (fun s f as e=>DZ ⟨s,f,as,e⟩)).2 _ _ hp).elim
end Go.Abs
namespace Go.Abs
variable {P:Program} {w0:World}
theorem UN{dst anc:Nat->w_}{base nt i:Nat}{o:Oper}{r:List Oper}{l:h_}(h:xU P dst anc base nt i (o::r)=some l):
  ∃x xs,l=x::xs/\Fp P dst ((base+i)*64) nt ((anc i).getD 0) o=some x/\xU P dst anc base nt (i+1) r=some xs:=by
 simp only[xU]at h;split at h
 .rename_i x xs h1 h2;cases h;exact⟨x,xs,rfl,h1,h2⟩
 cases h
section
variable {G:World->Prop} (hG:Good G w0) {cp:gC} {cs:jZ} (hP:Ff P G cp) (hS:GM P G cs) {sh:Ctx}
include hG hP hS
theorem atd{ops:Array Oper}{anc:Nat->w_}{base nt:Nat}{Q:Exit->Act->World->Prop}:∀(r:List Oper) {l:h_}{i:Nat}{ak aF:Env}{m:Mem}{ao:aC}{es:i_}{a:Act},(∀j,ops[i+j]?=r[j]?)->xU P (fun j=>(ops[j]?).bind (·.dst)) anc base nt i r=some l->
  steps sh cp cs l ak m.aj=some (aF,ao,es)->Ok w0 m->jz m ak a.tmps->a.tmps.size=nt->GO w0 m a nt aF ao (fun a' w'=>Q .normal a' w')->wpOps P ops Q (List.range' i r.length) a m.w:=by
 intro r
 induction r with
 |nil=>intro l i ak aF m ao es a _ hc cV ay hr gJ hK;simp[xU]at hc;subst hc;simp only[steps,fY,lK]at cV;obtain⟨rfl,rfl,_⟩:=cV;simp only[fe,List.range'_zero,wpOps];exact hK a m ay (Ev.refl m) rfl rfl hr gJ rfl
 |cons o r ih=>
  intro l i ak aF m ao es a Oz hc cV ay hr gJ hK;obtain⟨x,xs,rfl,h1,h2⟩:=UN hc;simp only[steps]at cV;split at cV
  .rename_i iT cF e1 kM;split at cV
   .rename_i dy bn es2 fO;cases cV;have ho:ops[i]?=some o:=by have:=Oz 0;simpa using this
    have key:=ajA (Q:=Q) (K:=wpOps P ops Q (List.range' (i+1) r.length)) hG hP hS h1 kM ay hr gJ (fun a1 m1 k1 k2 k3 k4 k5 k6 k7=>by subst k4;refine ih (m:=m1) (fun j=>by have:=Oz (j+1);rw[show i+1+j=i+(j+1) by omega];simpa using this) h2 fO k1 k5 k6 ?_;intro a2 m2 p1 p2 p3 p4 p5 p6 p7;exact hK a2 m2 p1 (k2.trans p2) (p3.trans k3) p4 p5 p6 (p7.trans k7))
    simp only[dI,List.range'_succ,wpOps,ho];split at key
    .rename_i hw;rw[aD hw];exact .inl key
    rename_i hw;rw[au hw];exact key
   cases cV
  cases cV
theorem auL{ops:Array Oper}{anc:Nat->w_}{base nt id:Nat}{Q:Exit->Act->World->Prop}{l:h_}{ak aF:Env}{m:Mem}{ao:aC}{es:i_}{a:Act}(hc:xU P (fun j=>(ops[j]?).bind (·.dst)) anc base nt 0 ops.toList=some l)
  (cV:steps sh cp cs l ak m.aj=some (aF,ao,es)) (ay:Ok w0 m) (hr:jz m ak a.tmps) (gJ:a.tmps.size=nt) (hK:GO w0 m a nt aF ao (fun a' w'=>Q .normal a' w')):(Code.region id ops false).wp P Q a m.w:=by
 refine wp_region ?_;have:=atd hG hP hS (sh:=sh) (ops:=ops) (Q:=Q) ops.toList (i:=0) (fun j=>af) hc cV ay hr gJ hK;rw[akA]
 simpa using this
end
end Go.Abs
namespace Go.Abs
variable {P:Program} {w0:World}
theorem auy{α β:Type}(g:Array β->α->β):∀(l:List α) (acc:Array β),(l.foldl (fun acc o=>acc.push (g acc o)) acc).size=acc.size+l.length/\
  (∀j,j<acc.size->(l.foldl (fun acc o=>acc.push (g acc o)) acc)[j]?=acc[j]?)/\
  ∀j o,l[j]?=some o->∃pre:Array β,pre.size=acc.size+j/\(∀k,k<pre.size->(l.foldl (fun acc o=>acc.push (g acc o)) acc)[k]?=pre[k]?)/\(l.foldl (fun acc o=>acc.push (g acc o)) acc)[acc.size+j]?=some (g pre o):=by
 intro l
 induction l with
 |nil=>intro acc;exact⟨rfl,fun _ _=>rfl,fun j o h=>by simp at h⟩
 |cons x l ih=>
  intro acc;obtain⟨h1,h2,h3⟩:=ih (acc.push (g acc x));simp only[BD];refine⟨by rw[h1];simp;omega,fun j hj=>?_,fun j o ho=>?_⟩
  .rw[h2 j (by simp;omega),TP,au aa]
  cases j with
  |zero=>
   simp at ho;subst ho;refine⟨acc,aa,fun k hk=>?_,?_⟩
   .rw[h2 k (by simp;omega),TP,au aa]
   rw[vr,h2 acc.size af,TP,aD rfl]
  |succ j=>obtain⟨pre,p1,p2,p3⟩:=h3 j o (by simpa using ho);refine⟨pre,by rw[p1];simp;omega,p2,?_⟩;rw[<-p3];simp only[Array.size_push];congr 1;omega
theorem ate{α:Type}(f:α->Bool)(g:α->Nat)(h:α->Nat):∀(l:List α) (s j:Nat),(l.foldl (fun s e=>if f e then s|||g e|||h e else s) s).testBit j=true->s.testBit j=true\/ ∃e∈l,f e=true/\((g e).testBit j=true\/(h e).testBit j=true):=by
 intro l
 induction l with
 |nil=>intro s j hh;exact .inl hh
 |cons x l ih=>
  intro s j hh;simp only[BD]at hh;rcases ih _ j hh with h1|⟨e,he,h2⟩
  .split at h1
   .rename_i hf;simp only[Nat.testBit_or,wE]at h1;rcases h1 with(h1|h1)|h1
    .exact .inl h1
    .exact .inr ⟨x,af,hf,.inl h1⟩
    exact .inr ⟨x,af,hf,.inr h1⟩
   exact .inl h1
  exact .inr ⟨e,by simp[he],h2⟩
theorem amb{ops:Array Oper}(FO:Jq ops=true){i:Nat}{o:Oper}(ho:ops[i]?=some o){j:Nat}(hj:(((Region.before ops)[i]?).getD 0).testBit j=true):
  ∃e∈o.after,Region.binds .any e=true/\e.on<i/\(j=e.on\/(((Region.before ops)[e.on]?).getD 0).testBit j=true):=by
 unfold Region.before at hj |-;rw[<-akk]at hj |-;obtain⟨h1,h2,h3⟩:=auy (fun(acc:Array Nat) (o:Oper)=>o.after.foldl (fun s e=>if Region.binds .any e then s|||2 ^ e.on|||acc.getD e.on 0 else s) 0) ops.toList #[];obtain⟨pre,p1,p2,p3⟩:=h3 i o (by simpa using ho);simp only[Array.size_empty,jx]at p1 p3;rw[p3]at hj;simp only[oE]at hj;rw[<-akk]at hj;rcases ate (fun e=>Region.binds .any e) (fun e=>2 ^ e.on) (fun e=>pre.getD e.on 0) _ _ _ hj with h|⟨e,he,hb,Kp⟩
 .simp at h
 have aA:i<ops.size:=(TO.1 ho).1;have Oy:e.on<i:=by unfold Jq at FO;have:=gk.1 FO i (by simpa using aA);rw[ho]at this;rw[gk]at this;have:=this e (by simpa using he);simp only[hb,Ao,De,mf]at this;exact this
 refine⟨e,by simpa using he,hb,Oy,?_⟩;rcases Kp with Kp|Kp
 .left;rw[Nat.testBit_two_pow]at Kp;have h9:e.on=j:=by simpa using Kp
  exact h9.symm
 right;rw[p2 e.on aa]
 simpa [ES]using Kp
theorem abZ{dst:Nat->w_}{base nt anc:Nat}{o:Oper}{io:bQ}(h:Fp P dst base nt anc o=some io):io.anc=anc:=by
 unfold Fp at h;split at h
 .simp only[dT]at h;obtain⟨g,_,rfl⟩:=h;rfl
 cases h
structure akN (P:Program) (ops:Array Oper) (base nt:Nat) (rem:List It) (listed:Array Bool):Prop where
 pair:rem.Pairwise fun p q=>p.i<q.i/\(q.io.anc.testBit p.i=true\/Ql p q)
 comp:∀p∈rem,∃o,ops[p.i]?=some o/\Fp P (fun j=>(ops[j]?).bind (·.dst)) ((base+p.i)*64) nt (((Region.before ops)[p.i]?).getD 0) o=some p.io
 size:listed.size=ops.size
 free:∀i:Nat,listed[i]?=some false↔ ∃p∈rem,p.i=i
 closed:∀i:Nat,listed[i]?=some true->∀j:Nat,(((Region.before ops)[i]?).getD 0).testBit j=true->listed[j]?=some true
theorem Zz{ops:Array Oper}{listed:Array Bool}{i:Nat}:i∈Region.ready .any ops listed↔i<ops.size/\listed.getD i true=false/\ ∃o,ops[i]?=some o/\ ∀e∈o.after,Region.binds .any e=true->listed.getD e.on false=true:=by
 unfold Region.ready;simp only[uz,im,cH,l9];constructor
 .rintro ⟨h1,h2,h3⟩
  refine⟨h1,h2,ops[i],by simp[h1],fun e he hb=>?_⟩;have ho:ops[i]?=some ops[i]:=by simp[h1]
  rw[ho]at h3;simp only[nK,oE,Array.all_eq_true']at h3;have:=h3 e he;rw[hb]at this
  simpa using this
 rintro⟨h1,h2,o,ho,h3⟩
 refine⟨h1,h2,?_⟩;rw[ho];simp only[nK,oE,Array.all_eq_true'];intro e he;cases hb:Region.binds .any e with
 |false=>rfl
 |true=>simp[h3 e he hb]
theorem aeQ{l:Array Bool}{i:Nat}(h:l.getD i true=false):l[i]?=some false:=by
 rw[ES]at h;cases he:l[i]? with
 |none=>rw[he]at h;simp at h
 |some b=>rw[he]at h;simp at h;rw[h]
theorem apq{l:Array Bool}{i:Nat}(h:l.getD i false=true):l[i]?=some true:=by
 rw[ES]at h;cases he:l[i]? with
 |none=>rw[he]at h;simp at h
 |some b=>rw[he]at h;simp at h;rw[h]
section
variable {G:World->Prop} (hG:Good G w0) {cp:gC} {cs:jZ} (hP:Ff P G cp) (hS:GM P G cs) (hL:BH cs) {sh:Ctx}
include hG hP hS hL
theorem als{ops:Array Oper}(FO:Jq ops=true){base nt:Nat}{Q:Exit->Act->World->Prop}{aF:Env}{ao:aC}:∀(fuel:Nat) {rem:List It}{listed:Array Bool}{ak:Env}{m:Mem}{a:Act},akN P ops base nt rem listed->rem.length<=fuel->
  steps sh cp cs (rem.map (·.io)) ak m.aj=some (aF,ao,rem.map (·.e))->Ok w0 m->jz m ak a.tmps->a.tmps.size=nt->GO w0 m a nt aF ao (fun a' w'=>Q .normal a' w')->wpAny P .any ops Q fuel listed a m.w:=by
 intro fuel
 induction fuel with
 |zero=>
  intro rem listed ak m a hl hlen cV ay hr gJ hK;have aqL:rem=[]:=by
   cases rem with
   |nil=>rfl
   |cons _ _=>simp at hlen
  subst aqL;simp only[kU,steps,fY,lK]at cV;obtain⟨rfl,rfl,_⟩:=cV;refine⟨?_,hK a m ay (Ev.refl m) rfl rfl hr gJ rfl⟩;refine List.eq_nil_iff_forall_not_mem.2 fun i hi=>?_;obtain⟨_,h2,_⟩:=Zz.1 hi;obtain⟨p,hp,_⟩:=(hl.free i).1 (aeQ h2);simp at hp
 |succ fuel ih=>
  intro rem listed ak m a hl hlen cV ay hr gJ hK;refine⟨fun aqr=>?_,fun i hi=>?_⟩
  .cases rem with
   |nil=>simp only[kU,steps,fY,lK]at cV;obtain⟨rfl,rfl,_⟩:=cV;exact hK a m ay (Ev.refl m) rfl rfl hr gJ rfl
   |cons p rest=>
    exfalso;obtain⟨o,ho,_⟩:=hl.comp p af;have aA:p.i<ops.size:=(TO.1 ho).1;have nT:p.i∈Region.ready .any ops listed:=by
     refine Zz.2 ⟨aA,?_,o,ho,fun e he hb=>?_⟩
     .rw[ES,(hl.free p.i).2 ⟨p,af,rfl⟩];rfl
     have Oy:e.on<p.i:=by unfold Jq at FO;have:=gk.1 FO p.i (by simpa using aA);rw[ho]at this;rw[gk]at this;have:=this e (by simpa using he);simp only[hb,Ao,De,mf]at this;exact this
     have hs:e.on<listed.size:=by rw[hl.size];omega
     rw[ES];cases bK:listed[e.on]with
     |true=>simp[hs,bK]
     |false=>
      exfalso;obtain⟨q,hq,F2⟩:=(hl.free e.on).1 (by simp[hs,bK]);rcases bJ.1 hq with rfl|hq
      .omega
      have:=((mB.1 hl.pair).1 q hq).1;omega
    rw[aqr]at nT;simp at nT
  obtain⟨h1,h2,o,ho,h3⟩:=Zz.1 hi;obtain⟨p,hp,rfl⟩:=(hl.free i).1 (aeQ h2);obtain⟨l1,l2,rfl⟩:=List.append_of_mem hp;obtain⟨o',lX,Ba⟩:=hl.comp p hp;rw[ho]at lX;cases lX;have ae0:∀j:Nat,p.io.anc.testBit j=true->listed[j]?=some true:=by
   intro j hj;rw[abZ Ba]at hj;obtain⟨e,he,hb,_,Cm⟩:=amb FO ho hj;have Oy:=apq (h3 e he hb);rcases Cm with rfl|Cm
   .exact Oy
   exact hl.closed _ Oy j Cm
  have KF:=PU.1 hl.pair;have ap8:∀x∈l1,Ql x p:=by
   intro x hx;rcases(KF.2.2 x hx p af).2 with h|h
   .have:=ae0 _ h;rw[(hl.free x.i).2 ⟨x,by simp[hx],rfl⟩]at this;cases this
   exact h
  obtain⟨iT,cF,kM,fO⟩:=aw7 hL cV ap8;have key:=ajA (Q:=Q) (K:=wpAny P .any ops Q fuel (listed.setIfInBounds p.i true)) hG hP hS Ba kM ay hr gJ (fun a1 m1 k1 k2 k3 k4 k5 k6 k7=>by
   subst k4;have aA:p.i<listed.size:=by rw[hl.size];exact h1
   refine ih (rem:=l1++l2) ⟨?_,fun q hq=>hl.comp q (by rcases eO.1 hq with h|h<;>simp[h]),by simp[hl.size],fun k=>?_,fun k hk j hj=>?_⟩ (by simp at hlen |-;omega) fO k1 k5 k6 ?_
   .refine PU.2 ⟨KF.1,(mB.1 KF.2.1).2,fun x hx y hy=>KF.2.2 x hx y (by simp[hy])⟩
   .rw[TQ];by_cases hk:p.i=k
    .subst hk;rw[aD rfl,aD aA];constructor
     .intro h;cases h
     rintro⟨q,hq,F2⟩
     rcases eO.1 hq with h|h
     .have:=(KF.2.2 q h p af).1;omega
     have:=((mB.1 KF.2.1).1 q h).1;omega
    rw[au hk,hl.free k];constructor
    .rintro ⟨q,hq,F2⟩
     rcases eO.1 hq with h|h
     .exact⟨q,by simp[h],F2⟩
     rcases bJ.1 h with rfl|h
     .exact(hk F2).elim
     exact⟨q,by simp[h],F2⟩
    rintro⟨q,hq,F2⟩
    rcases eO.1 hq with h|h
    .exact⟨q,by simp[h],F2⟩
    exact⟨q,by simp[h],F2⟩
   .have xm:∀j:Nat,listed[j]?=some true->(listed.setIfInBounds p.i true)[j]?=some true:=by
     intro j hj;rw[TQ];split
     .first
       |rfl
       |(rename_i e;rw[aD aA])
     exact hj
    by_cases jr:p.i=k
    .subst jr;refine xm j (ae0 j ?_);rw[abZ Ba];exact hj
    rw[TQ,au jr]at hk;exact xm j (hl.closed k hk j hj)
   intro a2 m2 p1 p2 p3 p4 p5 p6 p7;exact hK a2 m2 p1 (k2.trans p2) (p3.trans k3) p4 p5 p6 (p7.trans k7))
  unfold wpOp;rw[ho];simp only;split at key
  .rename_i hw;rw[aD hw];exact .inl key
  rename_i hw;rw[au hw];exact key
end
def uj:Nat->h_->i_->List It
 |i,x::xs,e::es=>⟨i,x,e⟩::uj (i+1) xs es
 |_,_,_=>[]
theorem asH:∀ {xs:h_}{es:i_} (i:Nat),es.length=xs.length->(uj i xs es).map (·.io)=xs/\(uj i xs es).map (·.e)=es:=by
 intro xs
 induction xs with
 |nil=>intro es i h;cases es with
  |nil=>exact⟨rfl,rfl⟩
  |cons _ _=>simp at h
 |cons x xs ih=>intro es i h;cases es with
  |nil=>simp at h
  |cons e es=>obtain⟨h1,h2⟩:=ih (es:=es) (i+1) (by simpa using h);exact⟨by simp[uj,h1],by simp[uj,h2]⟩
theorem ao0{o:bQ}:∀ {past:h_}{j:Nat},Rh o j past=true->∀k x,past[k]?=some x->o.anc.testBit (j+k)=true\/Hp x o=true:=by
 intro past
 induction past with
 |nil=>intro j _ k x h;simp at h
 |cons y past ih=>
  intro j h k x hk;simp only[Rh,cH,wE]at h;cases k with
  |zero=>simp at hk;subst hk;exact h.1
  |succ k=>have:=ih h.2 k x (by simpa using hk);rw[show j+(k+1)=j+1+k by omega];exact this
theorem as6{anc:Nat}{e:cK}:∀ {past:i_}{j:Nat},SI anc e j past=true->∀k x,past[k]?=some x->anc.testBit (j+k)=true\/Ha x e=false:=by
 intro past
 induction past with
 |nil=>intro j _ k x h;simp at h
 |cons y past ih=>
  intro j h k x hk;simp only[SI,cH,wE,l9]at h;cases k with
  |zero=>simp at hk;subst hk;exact h.1
  |succ k=>have:=ih h.2 k x (by simpa using hk);rw[show j+(k+1)=j+1+k by omega];exact this
theorem asI:∀ {xs:h_}{es:i_}{past:h_}{pe:i_},es.length=xs.length->pe.length=past.length->Nl xs past=true->um xs pe es=true->
  (∀(q:It),q∈uj past.length xs es->∀(k:Nat) (x:bQ) (e:cK),past[k]?=some x->pe[k]?=some e->q.io.anc.testBit k=true\/(Hp x q.io=true/\Ha e q.e=false))/\
  (∀q∈uj past.length xs es,past.length<=q.i)/\(uj past.length xs es).Pairwise fun p q=>p.i<q.i/\(q.io.anc.testBit p.i=true\/Ql p q):=by
 intro xs
 induction xs with
 |nil=>
  intro es past pe _ _ _ _;have:uj past.length [] es=[]:=by cases es<;>rfl
  rw[this];exact⟨fun q h=>by simp at h,fun q h=>by simp at h,.nil⟩
 |cons x xs ih=>
  intro es past pe hl hp hf hd;cases es with
  |nil=>simp at hl
  |cons e es=>
   simp only[Nl,cH]at hf;simp only[um,cH]at hd;obtain⟨i1,i2,i3⟩:=ih (es:=es) (past:=past++[x]) (pe:=pe++[e]) (by simpa using hl) (by simp[hp]) hf.2 hd.2;have hlen:(past++[x]).length=past.length+1:=af;rw[hlen]at i1 i2 i3;simp only[uj];refine⟨?_,?_,mB.2 ⟨?_,i3⟩⟩
   .intro q hq k y f hy hf';rcases bJ.1 hq with rfl|hq
    .have h1:=ao0 hf.1 k y hy;have h2:=as6 hd.1 k f hf';rw[jx]at h1 h2;rcases h1 with h1|h1
     .exact .inl h1
     rcases h2 with h2|h2
     .exact .inl h2
     exact .inr ⟨h1,h2⟩
    have hk:k<past.length:=(aT.1 hy).1;exact i1 q hq k y f (by rw[xM hk];exact hy) (by rw[xM aa];exact hf')
   .intro q hq;rcases bJ.1 hq with rfl|hq
    .exact bY _
    have:=i2 q hq;omega
   intro q hq;refine⟨by have:=i2 q hq;simp only;omega,?_⟩;exact i1 q hq past.length x e af (by rw[<-hp];simp)
theorem asG{ops:Array Oper}{anc:Nat->w_}{dst:Nat->w_}{base nt:Nat}:∀ {r:List Oper}{xs:h_}{es:i_}{i:Nat},xU P dst anc base nt i r=some xs->es.length=xs.length->(∀j,ops[i+j]?=r[j]?)->
  (∀p∈uj i xs es,∃o,ops[p.i]?=some o/\Fp P dst ((base+p.i)*64) nt ((anc p.i).getD 0) o=some p.io)/\ ∀k,i<=k->k<i+r.length->∃p∈uj i xs es,p.i=k:=by
 intro r
 induction r with
 |nil=>
  intro xs es i h _ _;simp only[xU,fY]at h;subst h;have:uj i [] es=[]:=by cases es<;>rfl
  rw[this];exact⟨fun p h=>by simp at h,fun k h1 h2=>by simp at h2;omega⟩
 |cons o r ih=>
  intro xs es i h hl Oz;obtain⟨x,xs',rfl,h1,h2⟩:=UN h;cases es with
  |nil=>simp at hl
  |cons e es=>
   obtain⟨i1,i2⟩:=ih (es:=es) h2 (by simpa using hl) (fun j=>by have:=Oz (j+1);rw[show i+1+j=i+(j+1) by omega];simpa using this);refine⟨fun p hp=>?_,fun k df jr=>?_⟩
   .rcases bJ.1 hp with rfl|hp
    .exact⟨o,by have:=Oz 0;simpa using this,h1⟩
    exact i1 p hp
   by_cases hk:k=i
   .exact⟨⟨i,x,e⟩,by simp[uj],hk.symm⟩
   obtain⟨p,hp,gD⟩:=i2 k aa (by simp at jr;omega);exact⟨p,by simp[uj,hp],gD⟩
theorem awI{sh:Ctx}{cp:gC}{cs:jZ}:∀ {xs:h_}{ak aF:Env}{aj ao:aC}{es:i_},steps sh cp cs xs ak aj=some (aF,ao,es)->es.length=xs.length:=by
 intro xs
 induction xs with
 |nil=>intro ak aF aj ao es h;simp only[steps,fY,lK]at h;rw[<-h.2.2];rfl
 |cons x xs ih=>
  intro ak aF aj ao es h;simp only[steps]at h;split at h
  .split at h
   .rename_i h2;cases h;simp[ih h2]
   cases h
  cases h
theorem ang{dst anc:Nat->w_}{base nt:Nat}:∀ {r:List Oper}{xs:h_}{i:Nat},xU P dst anc base nt i r=some xs->xs.length=r.length:=by
 intro r
 induction r with
 |nil=>intro xs i h;simp only[xU,fY]at h;subst h;rfl
 |cons o r ih=>intro xs i h;obtain⟨x,xs',rfl,_,h2⟩:=UN h;simp[ih h2]
section
variable {G:World->Prop} (hG:Good G w0) {cp:gC} {cs:jZ} (hP:Ff P G cp) (hS:GM P G cs) (hL:BH cs) {sh:Ctx}
include hG hP hS hL
theorem anV(Be:P.follows .mixedOrders=true){ops:Array Oper}{base nt id:Nat}{Q:Exit->Act->World->Prop}{l:h_}{ak aF:Env}{m:Mem}{ao:aC}{es:i_}{a:Act}(hc:xU P (fun j=>(ops[j]?).bind (·.dst)) (fun i=>(Region.before ops)[i]?) base nt 0 ops.toList=some l)
  (FO:Jq ops=true) (hf:Nl l []=true) (cV:steps sh cp cs l ak m.aj=some (aF,ao,es)) (hd:um l [] es=true) (ay:Ok w0 m) (hr:jz m ak a.tmps) (gJ:a.tmps.size=nt) (hK:GO w0 m a nt aF ao (fun a' w'=>Q .normal a' w')):(Code.region id ops true).wp P Q a m.w:=by
 refine wp_region_any Be ?_;have hlen:=awI cV;have ti:l.length=ops.size:=by have:=ang hc;simpa using this
 obtain⟨g1,g2⟩:=asH 0 hlen;obtain⟨_,_,hp⟩:=asI (past:=[]) (pe:=[]) hlen rfl hf hd;obtain⟨c1,c2⟩:=asG (ops:=ops) hc hlen (fun j=>af);have oO:Ok w0 (m.later m.w.drew fun _=>False):=OW ay (fU.drew _) fun _ h=>h.elim;have w7:Ev m (m.later m.w.drew fun _=>False):=K4 (fU.drew _) fun _ h=>h.elim;have lW:(m.later m.w.drew fun _=>False).fr=m.fr:=by funext c;simp[Mem.later]
 refine als (m:=m.later m.w.drew fun _=>False) hG hP hS hL FO ops.size (rem:=uj 0 l es) (base:=base) ⟨hp,c1,af,fun i=>?_,fun i hi=>?_⟩ ?_ (by rw[g1,g2];exact cV) oO (hr.ev w7) gJ ?_
 .constructor
  .intro h;have hi:i<ops.size:=by
    have:=(TO.1 h).1
    simpa using this
   exact c2 i (bR _) (by simpa using hi)
  rintro⟨p,hp,rfl⟩
  obtain⟨o,ho,_⟩:=c1 p hp;have hi:p.i<ops.size:=(TO.1 ho).1;simp[hi]
 .rw[Array.getElem?_replicate]at hi;split at hi<;>simp at hi
 .have:(uj 0 l es).length=l.length:=by have:=congrArg List.length g1;simpa using this
  omega
 intro a2 m2 p1 p2 p3 p4 p5 p6 p7;exact hK a2 m2 p1 (w7.trans p2) (p3.trans lW) p4 p5 p6 p7
end
end Go.Abs
namespace Go.Abs
variable {P:Program} {w0:World}
def toE:mD->Exit
 | .normal=>.normal
 | .exit i=>.exit i
 | .ret=>.ret
section
variable {G:World->Prop} (hG:Good G w0) {cp:gC} {cs:jZ} (hP:Ff P G cp) (hS:GM P G cs) (hL:BH cs) (Be:P.follows .mixedOrders=true) {sh:Ctx}
include hG hP hS hL Be
theorem aov{n f nt:Nat}:∀(c:Code) {ic:aN}{ak aF:Env}{m:Mem}{ao:aC}{e:mD}{a:Act}{Q:Exit->Act->World->Prop},qD P f nt c=some ic->exec sh cp cs n ic ak m.aj=some (e,aF,ao)->Ok w0 m->jz m ak a.tmps->a.tmps.size=nt->
  GO w0 m a nt aF ao (fun a' w'=>Q (toE e) a' w')->c.wp P Q a m.w:=by
 intro c
 induction c with
 |skip=>intro ic ak aF m ao e a Q hc hx ay hr gJ hK;simp only[qD,fY]at hc;subst hc;simp only[exec,fY,lK]at hx;obtain⟨rfl,rfl,rfl⟩:=hx;exact wp_skip (hK a m ay (Ev.refl m) rfl rfl hr gJ rfl)
 |label l=>intro ic ak aF m ao e a Q hc hx ay hr gJ hK;simp only[qD,fY]at hc;subst hc;simp only[exec,fY,lK]at hx;obtain⟨rfl,rfl,rfl⟩:=hx;exact wp_label (hK a m ay (Ev.refl m) rfl rfl hr gJ rfl)
 |ret=>intro ic ak aF m ao e a Q hc hx ay hr gJ hK;simp only[qD,fY]at hc;subst hc;simp only[exec,fY,lK]at hx;obtain⟨rfl,rfl,rfl⟩:=hx;exact wp_ret (hK a m ay (Ev.refl m) rfl rfl hr gJ rfl)
 |exit id=>intro ic ak aF m ao e a Q hc hx ay hr gJ hK;simp only[qD,fY]at hc;subst hc;simp only[exec,fY,lK]at hx;obtain⟨rfl,rfl,rfl⟩:=hx;exact wp_exit (hK a m ay (Ev.refl m) rfl rfl hr gJ rfl)
 |region id ops draw=>
  intro ic ak aF m ao e a Q hc hx ay hr gJ hK;simp only[qD]at hc;split at hc
  .rename_i xs OP;cases draw with
   |false=>
    simp only[dN,if_false,fY]at hc;subst hc;simp only[exec]at hx;split at hx
    .rename_i e1 b1 es cV;simp only[dN,if_false,fY,lK]at hx;obtain⟨rfl,rfl,rfl⟩:=hx;exact auL hG hP hS OP cV ay hr gJ hK
    cases hx
   |true=>
    simp only[if_true]at hc OP;split at hc
    .rename_i Ca;simp only[cH]at Ca;cases hc;simp only[exec]at hx;split at hx
     .rename_i e1 b1 es cV;simp only[if_true]at hx;split at hx
      .rename_i hd;cases hx;exact anV hG hP hS hL Be OP Ca.1 Ca.2 cV hd ay hr gJ hK
      cases hx
     cases hx
    cases hc
  cases hc
 |seq x y ihx ihy=>
  intro ic ak aF m ao e a Q hc hx ay hr gJ hK;simp only[qD]at hc;split at hc
  .rename_i ix iy h1 h2;cases hc;simp only[exec]at hx;refine wp_seq ?_;split at hx
   .rename_i iT cF tu;refine ihx h1 tu ay hr gJ ?_;intro a1 m1 k1 k2 k3 k4 k5 k6 k7;subst k4;refine ihy h2 hx k1 k5 k6 ?_;intro a2 m2 p1 p2 p3 p4 p5 p6 p7;exact hK a2 m2 p1 (k2.trans p2) (p3.trans k3) p4 p5 p6 (p7.trans k7)
   rename_i aH;refine ihx h1 hx ay hr gJ ?_;intro a1 m1 k1 k2 k3 k4 k5 k6 k7;have:=hK a1 m1 k1 k2 k3 k4 k5 k6 k7;cases e with
   |normal=>exact(aH aF ao hx).elim
   |exit i=>exact this
   |ret=>exact this
  cases hc
 |cond x p q ihp ihq=>
  intro ic ak aF m ao e a Q hc hx ay hr gJ hK;simp only[qD]at hc;split at hc
  .rename_i c' ip iq h1 h2 h3;cases hc;simp only[exec]at hx;split at hx
   .rename_i t ht;have hv:=eU h1 hr;rw[ht]at hv;refine wp_cond (Gc hv) ?_;cases t with
    |true=>simp only[if_true]at hx |-;exact ihp h2 hx ay hr gJ hK
    |false=>simp only[dN,if_false]at hx |-;exact ihq h3 hx ay hr gJ hK
   cases hx
  cases hc
 |block id c ih=>
  intro ic ak aF m ao e a Q hc hx ay hr gJ hK;simp only[qD,dT]at hc;obtain⟨ic',h1,rfl⟩:=hc;simp only[exec]at hx;refine wp_block ?_;split at hx
  .rename_i i iT cF tu;refine ih h1 tu ay hr gJ ?_;intro a1 m1 k1 k2 k3 k4 k5 k6 k7;simp only[toE,Exit.inBlock];split at hx
   .rename_i hi;cases hx;rw[aD hi];exact hK a1 m1 k1 k2 k3 k4 k5 k6 k7
   rename_i hi;cases hx;rw[au hi];exact hK a1 m1 k1 k2 k3 k4 k5 k6 k7
  rename_i aH;refine ih h1 hx ay hr gJ ?_;intro a1 m1 k1 k2 k3 k4 k5 k6 k7;have:=hK a1 m1 k1 k2 k3 k4 k5 k6 k7;cases e with
  |normal=>exact this
  |exit i=>exact(aH i aF ao hx).elim
  |ret=>exact this
 |loop c ih=>
  intro ic ak aF m ao e a Q hc hx ay hr gJ hK;simp only[qD,dT]at hc;obtain⟨ic',h1,rfl⟩:=hc;simp only[exec]at hx;refine wp_loop_rounds n ?_;have key:∀(k:Nat) {ak:Env}{m:Mem}{a:Act},iter (exec sh cp cs n ic') k ak m.aj=some (e,aF,ao)->Ok w0 m->jz m ak a.tmps->a.tmps.size=nt->GO w0 m a nt aF ao (fun a' w'=>Q (toE e) a' w')->Code.rounds P c Q k a m.w:=by
   intro k
   induction k with
   |zero=>intro ak m a hx;simp[iter]at hx
   |succ k ihk=>
    intro ak m a hx ay hr gJ hK;rw[rounds_succ];simp only[iter]at hx;split at hx
    .rename_i iT cF tu;refine ih h1 tu ay hr gJ ?_;intro a1 m1 k1 k2 k3 k4 k5 k6 k7;subst k4;refine ihk hx k1 k5 k6 ?_;intro a2 m2 p1 p2 p3 p4 p5 p6 p7;exact hK a2 m2 p1 (k2.trans p2) (p3.trans k3) p4 p5 p6 (p7.trans k7)
    rename_i aH;refine ih h1 hx ay hr gJ ?_;intro a1 m1 k1 k2 k3 k4 k5 k6 k7;have:=hK a1 m1 k1 k2 k3 k4 k5 k6 k7;cases e with
    |normal=>exact(aH aF ao hx).elim
    |exit i=>exact this
    |ret=>exact this
  exact key n hx ay hr gJ hK
 |scope c ih=>intro ic ak aF m ao e a Q hc hx ay hr gJ hK;simp only[qD]at hc;refine wp_scope_straight ?_;refine ih hc hx ay hr gJ ?_;intro a1 m1 k1 k2 k3 k4 k5 k6 k7;have:=hK a1 m1 k1 k2 k3 k4 k5 k6 k7;cases e<;>exact this
 |_=>intro ic ak aF m ao e a Q hc hx;simp only[qD,fY]at hc;subst hc;simp[exec]at hx
end
end Go.Abs
namespace Go.Abs
variable {P:Program} {w0:World}
section
variable{m:Mem}
theorem awU{k:w_}{cs:f_}{v:V}{u:Value}(h:qW k cs=some v)(hr:cq m v u):pE m v u:=by
 unfold qW at h;split at h
 .split at h
  .cases h;exact hr
  cases h
 split at h
 .cases h;exact hr
 cases h
theorem asZ{x v:V}{u:Value}(h:SG x=some v)(hr:cq m x u):pE m v u:=by cases x<;>simp only[SG,fY,reduceCtorEq]at h<;>subst h<;>exact hr
theorem ahj{α β:Type}{f:α->Sem β}{x:α}{xs:List α}{y:β}{ys:List β}{w:World}(h1:(f x).run P w=.ok y w)(h2:(xs.mapM f).run P w=.ok ys w):((x::xs).mapM f).run P w=.ok (y::ys) w:=by simp only[List.mapM_cons,Sem.run_bind,h1,h2,Result.andThen_ok,Sem.run_pure]
theorem auS{al:Al}(ay:Ok w0 m){ak:Env}{tmps:Array Value}(hr:jz m ak tmps):∀ {rs:List ResultVar}{l:List (Nat×Option w_)}{vs:e_},CW P rs=some l->qm al ak m.aj l=some vs->
  ∃ys,(rs.mapM (fun| .tmp t=>pure (tmps.getD t undef)| .cell a t=>do loadVar t (<-asAddr (tmps.getD a undef)):ResultVar->Sem Value)).run P m.w=.ok ys m.w/\Pw (pE m) vs ys:=by
 intro rs
 induction rs with
 |nil=>intro l vs h1 h2;simp only[CW,fY]at h1;subst h1;simp only[qm,fY]at h2;subst h2;exact⟨[],by simp[Sem.run_pure],rfl,fun j x u p=>by simp at p⟩
 |cons r rs ih=>
  intro l vs h1 h2;have cons:∀ {x:V}{xs:e_}{y:Value}{ys:List Value},pE m x y->Pw (pE m) xs ys->Pw (pE m) (x::xs) (y::ys):=by
   intro x xs y ys p q;refine⟨by simp[q.1],fun j z u a b=>?_⟩;cases j with
   |zero=>simp at a b;subst a b;exact p
   |succ j=>exact q.2 j z u (by simpa using a) (by simpa using b)
  cases r with
  |tmp t=>
   simp only[CW,dT]at h1;obtain⟨l',h3,rfl⟩:=h1;simp only[qm]at h2;split at h2
   .rename_i v q e1 e2;cases h2;obtain⟨ys,g1,g2⟩:=ih h3 e2;exact⟨_::ys,ahj (by simp[Sem.run_pure]) g1,cons (asZ e1 (hr t)) g2⟩
   cases h2
  |cell a t=>
   simp only[CW]at h1;split at h1
   .rename_i k q e1 e2;cases h1;simp only[qm]at h2;split at h2
    .rename_i cs rd ws e3 e4;split at h2
     case isFalse=>cases h2
     simp only[dT]at h2;obtain⟨v,hv,rfl⟩:=h2;obtain⟨ys,g1,g2⟩:=ih e2 e4;obtain⟨ad,y,p1,p2,p3⟩:=ag2 e1 (aiy ay e3 (hr a)) hv;exact⟨y::ys,ahj (by simp[p1,asAddr,p2]) g1,cons (awU hv p3) g2⟩
    cases h2
   cases h1
theorem auT{al:Al}(ay:Ok w0 m){ak:Env}{tmps:Array Value}(hr:jz m ak tmps){fn:Func}{l:List (Nat×Option w_)}{vs:e_}(h1:CW P fn.results.toList=some l)(h2:qm al ak m.aj l=some vs):
  ∃y,(results fn tmps).run P m.w=.ok y m.w/\cq m (BA vs) y:=by
 obtain⟨ys,g1,g2⟩:=auS ay hr h1 h2;have kL:(results fn tmps).run P m.w=.ok (if h:ys.toArray.size=1 then ys.toArray[0]else .tuple ys.toArray) m.w:=by
  unfold results;simp only[Array.mapM_eq_mapM_toList,map_eq_pure_bind,Sem.run_bind,Result.andThen_ok,Sem.run_pure,bind_assoc,pure_bind]
  erw[g1]
  simp only[Result.andThen_ok,Sem.run_pure]
 refine⟨_,kL,?_⟩
 match vs,ys,g2 with
 |[v],[y],g2=>exact cq.of1 (g2.2 0 v y rfl rfl)
 |[],[],g2=>exact⟨_,rfl,rfl,fun j x u p=>by simp at p⟩
 |v::v'::vs,y::y'::ys,g2=>refine⟨_,rfl,by simpa using g2.1,fun j x u p q=>g2.2 j x u p (by simpa using q)⟩
 |[],y::ys,g2=>exact absurd g2.1 af
 |v::vs,[],g2=>exact absurd g2.1 af
 |[v],y::y'::ys,g2=>exact absurd g2.1 af
 |v::v'::vs,[y],g2=>exact absurd g2.1 af
theorem abX{f:Nat}{fn:bd}(h:DG P f=some fn):∃kf c,P.funcs[f]?=some kf/\kf.body=some c/\(kf.name== "runtime.NumGoroutine")=false/\qD P f kf.ntmps c=some fn.body/\CW P kf.results.toList=some fn.results/\fn.ntmps=kf.ntmps:=by
 unfold DG at h;split at h
 .cases h
 rename_i kf hf;split at h
 .cases h
 rename_i c hc;split at h
 .cases h
 rename_i hn;split at h
 .rename_i b r h1 h2;cases h;exact⟨kf,c,hf,hc,by simpa using hn,h1,h2,rfl⟩
 cases h
def aaM(S:Sys)(G:World->Prop):Prop:=∀f vs r,S.prim f vs=some (some r)->Enters S.P f/\ ∀(w:World) (O:Nat->Prop) (args:Array Value),Good G w->(∀c,O c->c<w.heap.size)->Pw (tK w O) vs args.toList->Calls S.P f args w (wL w O r)
def akQ(S:Sys)(G:World->Prop):Prop:=∀f vs al aj v ao,S.trig f vs=true->(S.primS f vs al aj).map (fun r=>(r.1,app r.2 aj))=some (v,ao)->
 (Enters S.P f/\ ∀(w0:World) (m:Mem) (args:Array Value),Good G w0->Ok w0 m->m.aj=aj->Pw (cq m) vs args.toList->Calls S.P f args m.w (Jl w0 m v ao))/\
 (∀id,al.ok id=false->ao id=aj id)/\
 ∀bn,(∀id,al.ok id=true->bn id=aj id)->∃mX,(S.primS f vs al bn).map (fun r=>(r.1,app r.2 bn))=some (v,mX)/\ ∀id,mX id=if al.ok id then ao id else bn id
structure Jn (S:Sys) (G:World->Prop):Prop where
 follow:S.P.follows .mixedOrders=true
 fns:∀f fn,S.fns f=some fn->DG S.P f=some fn
 prim:aaM S G
 primS:akQ S G
theorem awA{vs:e_}{args:Array Value}{nt:Nat}(h:Pw (cq m) vs args.toList)(hl:vs.length<=nt):jz m (tv vs) (args++Array.replicate (nt-args.size) undef)/\(args++Array.replicate (nt-args.size) undef).size=nt:=by
 have hs:args.size=vs.length:=by simpa using h.1
 constructor
 .intro t;by_cases ht:t<vs.length
  .have h1:tv vs t=vs[t]:=by simp[tv,List.getD,ht]
   have h2:(args++Array.replicate (nt-args.size) undef).getD t undef=args[t]:=by simp[ES,akl,hs,ht]
   rw[h1,h2];exact h.2 t _ _ (by simp[ht]) (by simp[hs,ht])
  have h1:tv vs t=.undef:=by simp[tv,List.getD,n9 (akG ht)]
  have h2:(args++Array.replicate (nt-args.size) undef).getD t undef=undef:=by simp only[ES,akl,hs,au ht];rw[Array.getElem?_replicate];split<;>rfl
  rw[h1,h2];rfl
 simp;omega
theorem alu(ay:Ok w0 m):∀ {o q:a_},apart o q=true->(∀id∈o,∃ob,(m.aj id).2=some ob/\ob.fX=true)->(o.map m.σ).Nodup/\ ∀id∈q,id∉o:=by
 intro o
 induction o with
 |nil=>intro q _ _;exact⟨af,fun id _ h=>by simp at h⟩
 |cons i o ih=>
  intro q h hm;simp only[apart,cH,l9]at h;obtain⟨⟨h1,h2⟩,h3⟩:=h;obtain⟨i1,i2⟩:=ih h3 (fun id hid=>hm id (by simp[hid]));have j6:i∉o:=by simpa using h1
  have jB:i∉q:=by simpa using h2
  refine⟨?_,fun id hid=>?_⟩
  .rw[ek,rh];refine⟨fun nT=>?_,i1⟩;obtain⟨j,hj,he⟩:=cJ.1 nT;obtain⟨ob,a1,a2⟩:=hm i af;obtain⟨ob',b1,b2⟩:=hm j (by simp[hj]);exact j6 (ay.inj j i ob' ob b1 b2 a1 a2 he▸hj)
  simp only[bJ,Aw];exact⟨fun e=>jB (e▸hid),i2 id hid⟩
theorem ath{aj:aC}:∀ {cs:f_}{rs:n_}{o q:a_},nC aj cs=some (rs,o,q)->rs.length=cs.length:=by
 intro cs
 induction cs with
 |nil=>intro rs o q h;simp only[nC,fY,lK]at h;obtain⟨rfl,_,_⟩:=h;rfl
 |cons c cs ih=>
  intro rs o q h;simp only[nC]at h;split at h
  .rename_i x o1 q1 xs os qs h1 h2;cases h;simp[ih h2]
  cases h
theorem abV{α β:Type}{f:α->Option (β×a_)}:∀ {xs:List α}{ys:List β}{r:a_},collect f xs=some (ys,r)->∀id∈r,∃x y q,f x=some (y,q)/\id∈q:=by
 intro xs
 induction xs with
 |nil=>intro ys r h id hid;simp[collect]at h;rw[h.2]at hid;simp at hid
 |cons x xs ih=>
  intro ys r h id hid;simp only[collect]at h;split at h
  .rename_i b p bs q e1 e2;cases h;rcases eO.1 hid with hid|hid
   .exact⟨x,b,p,e1,hid⟩
   exact ih e2 id hid
  cases h
theorem awm{aj:aC}:∀ {n:Nat}{c:C}{x:PV}{r:a_},snap aj n c=some (x,r)->∀id∈r,∃ob,(aj id).2=some ob:=by
 intro n
 induction n with
 |zero=>intro c x r h;simp[snap]at h
 |succ n ih=>
  intro c x r h id hid;have one:∀ {i:Nat}{ob:Ob}{g:Nat},aj i=(g,some ob)->id∈[i]->∃ob,(aj id).2=some ob:=by intro i ob g hb hi;simp at hi;subst hi;exact⟨ob,by rw[hb]⟩
  have coll:∀ {cs:f_}{ps:b_}{r:a_},collect (snap aj n) cs=some (ps,r)->id∈r->∃ob,(aj id).2=some ob:=by intro cs ps r h hi;obtain⟨x,y,q,h1,h2⟩:=abV h id hi;exact ih h1 id h2
  unfold snap at h;split at h
  .cases h;simp at hid
  .split at h
   .rename_i hb;split at h
    .split at h
     .rename_i hc;cases h;rcases bJ.1 hid with e|hid
      .exact one hb (by simp[e])
      exact coll hc hid
     cases h
    cases h
   .rename_i hb;split at h
    .cases h;exact one hb hid
    cases h
   cases h
  .split at h
   .rename_i hb;split at h
    .simp only[dT]at h;obtain⟨e,_,h2⟩:=h;cases h2;exact one hb hid
    cases h
   .rename_i hb;split at h
    .simp only[dT]at h;obtain⟨e,_,h2⟩:=h;cases h2;exact one hb hid
    cases h
   cases h
  .split at h
   .rename_i hb;split at h
    .cases h;exact one hb hid
    cases h
   .rename_i hb;split at h
    .cases h;exact one hb hid
    cases h
   .rename_i hb;split at h
    .split at h
     .rename_i hc;cases h;rcases bJ.1 hid with e|hid
      .exact one hb (by simp[e])
      obtain⟨x,y,q,h1,h2⟩:=abV hc id hid;exact coll h1 h2
     cases h
    cases h
   cases h
  .split at h
   .rename_i hb;split at h
    .cases h;exact one hb hid
    cases h
   .rename_i hb;split at h
    .cases h;exact one hb hid
    cases h
   cases h
  split at h
  .rename_i h1 h2;cases h;rcases eO.1 hid with hid|hid
   .exact coll h1 hid
   exact coll h2 hid
  cases h
theorem ati{aj:aC}:∀ {cs:f_}{rs:n_}{o q:a_},nC aj cs=some (rs,o,q)->∀id∈q,∃ob,(aj id).2=some ob:=by
 intro cs
 induction cs with
 |nil=>intro rs o q h id hid;simp only[nC,fY,lK]at h;rw[<-h.2.2]at hid;simp at hid
 |cons c cs ih=>
  intro rs o q h id hid;simp only[nC]at h;split at h
  .rename_i x o1 q1 xs os qs h1 h2;cases h;rcases eO.1 hid with hid|hid
   .have sn:(snap aj gG c).map (fun(v,r)=>((.p v:RC),([]:a_),r))=some (x,o1,q1)->∃ob,(aj id).2=some ob:=by
     intro h1;simp only[dT]at h1;obtain⟨⟨y,r⟩,h3,h4⟩:=h1;cases h4;exact awm h3 id hid
    unfold jW at h1;split at h1
    .cases h1;simp at hid
    .split at h1
     .split at h1
      .cases h1;simp at hid
      cases h1
     exact sn h1
    exact sn h1
   exact ih h2 id hid
  cases h
theorem atl{w:World}{O:Nat->Prop}{m0:Mem}(ay:Ok w m)(eF:Ev m0 m)(pP:m0.w=w)(XV:∀c,¬m0.fX c)(lW:m.fr=O){v:V}{r:RV}{val:Value}(h:jk m.aj v=some r)(hr:cq m v val):wL w O r (.returned val) m.w:=by
 unfold jk at h;split at h
 .rename_i cs dA;split at h
  .rename_i rs o q ho;split at h
   .rename_i qI;cases h;obtain⟨vs,hc,jC⟩:=aoR dA hr;obtain⟨g1,g2⟩:=jC rs (ath ho);have hm:=(ahY ay (Q:=fun _=>False) (fun _ h=>h.elim) ho hc (fun _ _ h=>h)).2;obtain⟨gI,apW⟩:=alu ay qI hm;have aeY:∀b,(O b\/b∈o.map m.σ)->m.own b:=by
     intro b hb;rcases hb with hb|hb
     .exact .inl (lW▸hb)
     obtain⟨id,hid,rfl⟩:=cJ.1 hb;obtain⟨ob,h1,h2⟩:=hm id hid;exact .inr ⟨id,ob,h1,h2,rfl⟩
    have hq:∀id∈q,¬(O (m.σ id)\/m.σ id∈o.map m.σ):=by
     intro id hid hn;obtain⟨ob,hob⟩:=ati ho id hid;by_cases KD:ob.fX=true
     .rcases hn with hn|hn
      .exact(ay.hJ id ob hob KD).2 (lW▸hn)
      obtain⟨j,hj,he⟩:=cJ.1 hn;obtain⟨ob',b1,b2⟩:=hm j hj;exact apW id hid (ay.inj j id ob' ob b1 b2 hob KD he▸hj)
     have dR:¬m.own (m.σ id):=by
      have Cm:=ay.obj id ob hob;cases ob<;>simp[Ob.fX]at KD
      .obtain⟨_,_,_,_,_,dR⟩:=Cm;exact dR
      .obtain⟨_,_,_,_,_,_,_,_,_,dR⟩:=Cm;exact dR
      obtain⟨_,_,_,_,_,dR⟩:=Cm;exact dR
     exact dR (aeY _ hn)
    obtain⟨ue,_⟩:=ahY ay aeY ho hc hq;subst pP;refine⟨val,o.map m.σ,rfl,⟨eF.os,eF.tape,eF.output,eF.size,fun c hc=>eF.keep c hc (XV c)⟩,gI,fun c hc=>?_,vs,g2,by rw[g1];exact ue⟩;obtain⟨id,hid,rfl⟩:=cJ.1 hc;obtain⟨ob,h1,h2⟩:=hm id hid;exact⟨(ay.hJ id ob h1 h2).1,(ay.obj id ob h1).lt⟩
   cases h
  cases h
 cases h
theorem tK.vrel{w:World}{O:Nat->Prop}(hw:m.w=w)(ho:m.own=O){x:V}{v:Value}(h:tK w O x v):cq m x v:=by
 subst hw ho;cases x with
 |undef=>exact h.elim
 |tup _=>exact h.elim
 |one c=>
  cases c with
  |p x=>exact nA h
  |_=>exact h.elim
 |agg cs=>obtain⟨arr,ps,rfl,rfl,hp⟩:=h;exact cq.agg.2 ⟨arr,rfl,hp.EL⟩
theorem avc{sh:Ctx}{cp:gC}{cs:jZ}{n:Nat}{fn:bd}{args:e_}{aj ao:aC}{v:V}(h:sI sh cp cs n fn args aj=some (v,ao)):
  ∃e ak vs,exec sh cp cs n fn.body (tv args) aj=some (e,ak,ao)/\(e=.normal\/e=.ret)/\qm sh.al ak ao fn.results=some vs/\v=BA vs:=by
 unfold sI at h;split at h
 .rename_i ak b hx;simp only[dT]at h;obtain⟨vs,h1,h2⟩:=h;cases h2;exact⟨_,ak,vs,hx,.inl rfl,h1,rfl⟩
 .rename_i ak b hx;simp only[dT]at h;obtain⟨vs,h1,h2⟩:=h;cases h2;exact⟨_,ak,vs,hx,.inr rfl,h1,rfl⟩
 cases h
theorem aiU{G:World->Prop}(hG:Good G w0){cp:gC}{cs:jZ}(hP:Ff P G cp)(hS:GM P G cs)(hL:BH cs)(Be:P.follows .mixedOrders=true){sh:Ctx}{n f:Nat}{fn:bd}(hc:DG P f=some fn){vs:e_}{m:Mem}{v:V}{ao:aC}{args:Array Value}(h:sI sh cp cs n fn vs m.aj=some (v,ao))
  (hl:vs.length<=fn.ntmps) (ay:Ok w0 m) (ha:Pw (cq m) vs args.toList):Calls P f args m.w (Jl w0 m v ao):=by
 obtain⟨kf,c,h1,h2,h3,h4,h5,h6⟩:=abX hc;obtain⟨e,ak,rs,hx,he,Cn,rfl⟩:=avc h;refine calls_of_wp h1 h2 ?_;obtain⟨s1,s2⟩:=awA (nt:=kf.ntmps) ha (by rw[<-h6];exact hl);refine aov hG hP hS hL Be c h4 hx ay s1 s2 ?_;intro a' m' k1 k2 k3 k4 k5 k6 k7;subst k4;obtain⟨y,g1,g2⟩:=auT k1 k5 h5 Cn;have:bodyPost P kf (Jl w0 m (BA rs) m'.aj) .normal a' m'.w:=⟨k7,y,g1,y,m',rfl,rfl,k1,k2,k3,rfl,g2⟩;rcases he with rfl|rfl
 .exact this
 exact this
theorem enters_of{f:Nat}{fn:bd}(hc:DG P f=some fn):Enters P f:=by obtain⟨kf,c,h1,h2,h3,_⟩:=abX hc;exact⟨kf,c,h1,h2,h3⟩
theorem sound{S:Sys}{G:World->Prop}(h:Jn S G):∀n,Ff S.P G (hU S n)/\GM S.P G (ia S n)/\BH (ia S n):=by
 intro n
 induction n with
 |zero=>exact⟨fun f vs r h=>by simp[hU]at h,fun f vs al aj v ao h=>by simp[ia]at h,fun f vs al aj v ao h=>by simp[ia]at h⟩
 |succ n ih=>
  obtain⟨hP,hS,hL⟩:=ih;refine⟨?_,?_,?_⟩
  .intro f vs r hc;rw[hU]at hc;split at hc
   .rename_i r' hp;subst hc;exact h.prim f vs r hp
   split at hc
   .rename_i fn hfn;have wY:=h.fns f fn hfn;split at hc
    .rename_i hl;refine⟨enters_of wY,fun w O args hG hO ha=>?_⟩;unfold Gq at hc;split at hc
     .rename_i v ao hr
      let m0:Mem:=⟨w,xx,fun _=>0,fun _=>0,O⟩
      have aqF:m0.own=O:=by
       funext c;apply propext;constructor
       .rintro (h|⟨id,o,h,_⟩)
        .exact h
        cases h
       exact .inl
      have ay:Ok w m0:=⟨rfl,rfl,rfl,bY _,fun _ _=>rfl,(fun id o h=>by cases h),(fun id o h=>by cases h),hO,(fun id fy o o' h=>by cases h)⟩;have hav:Pw (cq m0) vs args.toList:=⟨ha.1,fun j x u p q=>(ha.2 j x u p q).vrel rfl aqF⟩;refine(aiU hG hP hS hL h.follow wY (m:=m0) hr hl ay hav).mono ?_;rintro e w' ⟨val,m',rfl,rfl,q1,q2,q3,q4,q5⟩
      subst q4;exact atl (m0:=m0) q1 q2 rfl (fun c ⟨id,o,h,_⟩=>by cases h) q3 hc q5
     cases hc
    cases hc
   cases hc
  .intro f vs al aj v ao hc;rw[ia]at hc;by_cases ht:S.trig f vs=true
   .rw[aD ht]at hc;exact(h.primS f vs al aj v ao ht hc).1
   rw[au ht]at hc;split at hc
   .rename_i fn hfn;have wY:=h.fns f fn hfn;split at hc
    .rename_i hl;refine⟨enters_of wY,fun w0 m args hG ay hb ha=>?_⟩;subst hb;exact aiU hG hP hS hL h.follow wY hc hl ay ha
    cases hc
   cases hc
  intro f vs al aj v ao hc;rw[ia]at hc;by_cases ht:S.trig f vs=true
  .rw[aD ht]at hc;obtain⟨_,l1,l2⟩:=h.primS f vs al aj v ao ht hc;refine⟨l1,fun bn h2=>?_⟩;obtain⟨b3,h3,h4⟩:=l2 bn h2;exact⟨b3,by rw[ia,aD ht];exact h3,h4⟩
  rw[au ht]at hc;split at hc
  .rename_i fn hfn;split at hc
   .rename_i hl;obtain⟨l1,l2⟩:=avb hL hc;refine⟨l1,fun bn h2=>?_⟩;obtain⟨b3,h3,h4⟩:=l2 bn h2;exact⟨b3,by rw[ia,au ht];simp only[hfn,hl,if_true];exact h3,h4⟩
   cases hc
  cases hc
theorem aK.calls{S:Sys}{G:World->Prop}(h:Jn S G){f:Nat}{vs:e_}{r:RV}(hc:aK S f vs r)(w:World)(hG:Good G w)(args:Array Value)(ha:Pw (tK w fun _=>False) vs args.toList):Calls S.P f args w (wL w (fun _=>False) r):=by obtain⟨n,hn⟩:=hc;exact((sound h n).1 f vs r hn).2 w _ args hG (fun c h=>h.elim) ha
end
end Go.Abs
namespace Go.Abs
section
variable{args:e_}{cp:gC}{cs:jZ}{sh:Ctx}
def DQ(op:BinOp)(a b:Nat)(other:Option V):Option V:=
 match op with
 | .add=>bif Nat.ble (Nat.add a b) 9223372036854775807 then some (.one (.p (.int .i64 (.ofNat (Nat.add a b)))))else other
 | .sub=>bif Nat.ble b a then bif Nat.ble a 9223372036854775807 then some (.one (.p (.int .i64 (.ofNat (Nat.sub a b)))))else other else other
 | .mul=>bif Nat.ble (Nat.mul a b) 9223372036854775807 then some (.one (.p (.int .i64 (.ofNat (Nat.mul a b)))))else other
 | .eql=>some (.one (.p (.bool (Nat.beq a b))))
 | .neq=>some (.one (.p (.bool (!Nat.beq a b))))
 | .lss=>some (.one (.p (.bool (Nat.ble (Nat.succ a) b))))
 | .leq=>some (.one (.p (.bool (Nat.ble a b))))
 | .gtr=>some (.one (.p (.bool (Nat.ble (Nat.succ b) a))))
 | .geq=>some (.one (.p (.bool (Nat.ble b a))))
 | .rem=>bif Nat.beq b 0 then other else some (.one (.p (.int .i64 (.ofNat (Nat.mod a b)))))
 |_=>other
def Uz(op:BinOp)(x y:V):Option V:=
 match x,y with
 | .one (.p (.int .i64 (.ofNat a))),.one (.p (.int .i64 (.ofNat b)))=>DQ op a b (rW op x y)
 |_,_=>rW op x y
theorem PH{n:Nat}(h:n<=9223372036854775807):IntKind.i64.wrap (n:Int)=n:=by have e:(2 ^ IntKind.i64.bits:Int)=18446744073709551616:=ae;have e2:(2 ^ (IntKind.i64.bits-1):Int)=9223372036854775808:=ae;unfold IntKind.wrap;simp only[e,e2];have h1:(n:Int)%18446744073709551616=n:=aa;rw[h1];have h2:¬(n:Int)≥9223372036854775808:=aa;simp[h2]
theorem aoG(op:BinOp)(a b:Nat):DQ op a b (rW op (.one (.p (.int .i64 (.ofNat a)))) (.one (.p (.int .i64 (.ofNat b)))))=rW op (.one (.p (.int .i64 (.ofNat a)))) (.one (.p (.int .i64 (.ofNat b)))):=by
 have hb:∀ {x:Bool}{u v w:Option V},(x=true->u=w)->v=w->(bif x then u else v)=w:=by
  intro x u v w h1 h2;cases x with
  |false=>exact h2
  |true=>exact h1 rfl
 have ofn:∀n:Nat,(Int.ofNat n:Int)=(n:Int):=fun _=>rfl;have ble:∀ {a b:Nat},Nat.ble a b=decide ((a:Int)<=(b:Int)):=by
  intro a b;cases h:Nat.ble a b with
  |true=>have:=iH h;symm;simp;omega
  |false=>
   symm;simp;have:¬a<=b:=fun hh=>by rw[T5 hh]at h;cases h
   omega
 have beq:∀ {a b:Nat},Nat.beq a b=((a:Int)==(b:Int)):=by
  intro a b;by_cases h:a=b
  .subst h;simp
  have h1:Nat.beq a b=false:=by
   cases e:Nat.beq a b with
   |false=>rfl
   |true=>exact(h (xP e)).elim
  rw[h1];symm;simp;omega
 cases op
 case add=>refine hb (fun h=>?_) rfl;have h:a+b<=9223372036854775807:=iH h;have:((a:Int)+(b:Int))=((a+b:Nat):Int):=aa;simp only[rW,uG,true_or,if_true,nK,ofn];rw[this,PH h];rfl
 case sub=>refine hb (fun h0=>hb (fun h=>?_) rfl) rfl;have h:=iH h;have h0:=iH h0;have:((a:Int)-(b:Int))=((a-b:Nat):Int):=aa;simp only[rW,uG,true_or,if_true,nK,ofn];rw[this,PH aa];rfl
 case mul=>refine hb (fun h=>?_) rfl;have h:a*b<=9223372036854775807:=iH h;have:((a:Int)*(b:Int))=((a*b:Nat):Int):=af;simp only[rW,uG,true_or,if_true,nK,ofn];rw[this,PH h];rfl
 case rem=>
  by_cases h0:b=0
  .subst h0;rfl
  have h1:Nat.beq b 0=false:=by
   cases e:Nat.beq b 0 with
   |false=>rfl
   |true=>exact(h0 (xP e)).elim
  have h2:¬(b:Int)=0:=aa;simp only[DQ,h1,cond_false,rW,uG,true_or,if_true,nK,ofn,au h2];rfl
 case eql=>simp only[DQ,rW,uG,true_or,if_true,nK,ofn,beq]
 case neq=>simp only[DQ,rW,uG,true_or,if_true,nK,ofn,beq];rfl
 case lss=>simp only[DQ,rW,uG,true_or,if_true,nK,ofn,ble];congr 4
 case leq=>simp only[DQ,rW,uG,true_or,if_true,nK,ofn,ble]
 case gtr=>simp only[DQ,rW,uG,true_or,if_true,nK,ofn,ble];congr 4
 case geq=>simp only[DQ,rW,uG,true_or,if_true,nK,ofn,ble]
 all_goals rfl
theorem amq(op:BinOp)(x y:V):Uz op x y=rW op x y:=by
 unfold Uz;split
 .exact aoG _ _ _
 rfl
def Dw(v:V):w_:=
 match v with
 | .one (.p (.int _ (.ofNat n)))=>some n
 |v=>qA v
theorem abh(v:V):Dw v=qA v:=by
 unfold Dw;split
 .simp[qA]
 rfl
def JE(ak:Env)(d:Nat):Option aU->w_
 |none=>some d
 |some a=>Dw (ev ak a)
theorem amr(ak:Env)(d:Nat)(a:Option aU):JE ak d a=sM ak d a:=by
 cases a with
 |none=>rfl
 |some a=>simp only[JE,sM,abh]
def aud(ak:Env)(x:aU):fL:=.done (ev ak x) [] []
def auh(ak:Env)(c:aU)(a:aU)(b:aU):fL:=match ev ak c with
  | .one (.p (.bool t))=>.done (if t then ev ak a else ev ak b) [] []
  |_=>.fail
def atN(aj:aC)(s:Nat)(z:b_):fL:=.done (.one (.aZ s ((aj s).1+1) 0)) [(s,((aj s).1+1,some (.var (z.map .p))))] [s]
def atQ(ak:Env)(aj:aC)(s:Nat)(x:aU):fL:=match sP (ev ak x)with
  |some cs=>.done (.one (.aZ s ((aj s).1+1) 0)) [(s,((aj s).1+1,some (.var cs)))] [s]
  |none=>.fail
def atU(ak:Env)(z:b_)(ps:List (Nat×Nat×aU)):fL:=match Ab ak ps with
  |some q=>.done (.agg (fill (z.map .p) q)) [] []
  |none=>.fail
def atS(ak:Env)(aj:aC)(s:Nat)(ty:Nat)(sz:Nat)(ps:o_):fL:=match A0 ak sz ps with
  |some es=>match Da es with
   |some qs=>.done (.one (.hsl s ((aj s).1+1) sz 0 es.length)) [(s,((aj s).1+1,some (.arr ty sz qs)))] [s]
   |none=>.done (.one (.hsl s ((aj s).1+1) sz 0 es.length)) [(s,((aj s).1+1,some (.jo ty sz es)))] [s]
  |none=>.fail
def at4(ak:Env)(aj:aC)(k:w_)(x:aU):fL:=match CV aj (ev ak x)with
  |some (cs,r)=>match qW k cs with
   |some v=>.done v [] r
   |none=>.fail
  |none=>.fail
def auk(ak:Env)(aj:aC)(n:Nat)(a:aU)(x:aU):fL:=match sP (ev ak x)with
  |some xs=>BB aj (ev ak a) n xs
  |none=>.fail
def auf(ak:Env)(x:aU):fL:=match ev ak x with
  | .one (.aZ id g o)=>.done (.one (.aZ id g o)) [] []
  | .one (.dB id g i o)=>.done (.one (.dB id g i o)) [] []
  | .one (.p (.box cs))=>.done (.one (.p (.box cs))) [] []
  | .one (.hfn f a b)=>.done (.one (.hfn f a b)) [] []
  | .one (.p (.fn f a b))=>.done (.one (.p (.fn f a b))) [] []
  |_=>.fail
def aii(ak:Env)(op:BinOp)(x:aU)(y:aU):fL:=match Uz op (ev ak x) (ev ak y)with
  |some v=>.done v [] []
  |none=>.fail
def atZ(ak:Env)(k:wJ)(neg:Bool)(x:aU)(y:aU):fL:=match DO k (ev ak x) (ev ak y)with
  |some b=>.done (.one (.p (.bool (if neg then !b else b)))) [] []
  |none=>.fail
def aul(ak:Env)(op:UnOp)(x:aU):fL:=match op,ev ak x with
  | .not,.one (.p (.bool b))=>.done (.one (.p (.bool (!b)))) [] []
  | .neg,.one (.p (.int k n))=>.done (.one (.p (.int k (k.wrap (0-n))))) [] []
  |_,_=>.fail
def atX(ak:Env)(k:IntKind)(x:aU):fL:=match ev ak x with
  | .one (.p (.int _ n))=>.done (.one (.p (.int k (k.wrap n)))) [] []
  |_=>.fail
def atT(ak:Env)(aj:aC)(x:aU):fL:=match fN aj (ev ak x)with
  |some (es,r,[])=>match bytesOf es with
   |some bs=>.done (.one (.p (.str ⟨bs.toArray⟩))) [] r
   |none=>.fail
  |_=>.fail
def aua(ak:Env)(f:Nat)(a:o_)(b:o_):fL:=match xz ak a,xz ak b with
  |some x,some y=>.done (.one (.hfn f x y)) [] []
  |_,_=>.fail
def aub(aj:aC)(s:Nat)(ag:Bool):fL:=.done (.one (.kL s ((aj s).1+1))) [(s,((aj s).1+1,some (.map ag [])))] [s]
def aik(ak:Env)(aj:aC)(s:Nat)(ty:Nat)(sz:Nat)(bytes:Nat)(z:b_)(l:aU)(c:aU):fL:=match Dw (ev ak l),Dw (ev ak c)with
  |some n,some m=>if n=m/\n*bytes<=room then
    .done (.one (.hsl s ((aj s).1+1) sz 0 n)) [(s,((aj s).1+1,some (.arr ty sz (List.replicate n z))))] [s]
   else .fail
  |_,_=>.fail
def aim(ak:Env)(sz:Nat)(x:aU)(lo:Option aU)(hi:Option aU):fL:=match zX (ev ak x)with
  |some n=>match JE ak 0 lo,JE ak n hi with
   |some l,some h=>EE (ev ak x) sz l h
   |_,_=>.fail
  |none=>.fail
def ain(ak:Env)(x:aU)(lo:Option aU)(hi:Option aU):fL:=match ev ak x with
  | .one (.p (.str s))=>match JE ak 0 lo,JE ak s.size hi with
   |some l,some h=>if l<=h/\h<=s.size then .done (.one (.p (.str (s.extract l h)))) [] []else .fail
   |_,_=>.fail
  |_=>.fail
def at1(ak:Env)(off:Nat)(x:aU):fL:=match ev ak x with
  | .one (.aZ id g o)=>.done (.one (.aZ id g (o+off))) [] []
  | .one (.dB id g i o)=>.done (.one (.dB id g i (o+off))) [] []
  | .one (.p (.box cs))=>.done (.one (.p (.box (cs.drop off)))) [] []
  |_=>.fail
def aij(ak:Env)(sz:Nat)(x:aU)(i:aU):fL:=match Dw (ev ak i),ev ak x with
  |some n,.one (.p (.sl es))=>match es[n]? with
   |some e=>if e.length=sz then .done (.one (.p (.box e))) [] []else .fail
   |none=>.fail
  |some n,.one (.hsl id g z off len)=>if n<len/\z=sz then .done (.one (.dB id g (off+n) 0)) [] []else .fail
  |_,_=>.fail
def aif(ak:Env)(len:Nat)(sz:Nat)(x:aU)(i:aU):fL:=match Dw (ev ak i),ev ak x with
  |some n,.one (.aZ id g o)=>if n<len then .done (.one (.aZ id g (o+n*sz))) [] []else .fail
  |some n,.one (.dB id g j o)=>if n<len then .done (.one (.dB id g j (o+n*sz))) [] []else .fail
  |some n,.one (.p (.box cs))=>if n<len then .done (.one (.p (.box (cs.drop (n*sz))))) [] []else .fail
  |_,_=>.fail
def at2(ak:Env)(off:Nat)(k:w_)(x:aU):fL:=match ev ak x with
  | .agg cs=>match qW k (cs.drop off)with
   |some v=>.done v [] []
   |none=>.fail
  |_=>.fail
def aih(ak:Env)(len:Nat)(sz:Nat)(k:w_)(x:aU)(i:aU):fL:=match Dw (ev ak i),ev ak x with
  |some n,.agg cs=>if n<len then
    match qW k (cs.drop (n*sz))with
    |some v=>.done v [] []
    |none=>.fail
   else .fail
  |_,_=>.fail
def ail(ak:Env)(x:aU)(i:aU):fL:=match Dw (ev ak i),ev ak x with
  |some n,.one (.p (.str s))=>match s[n]? with
   |some b=>.done (.one (.p (.int .u8 b.toNat))) [] []
   |none=>.fail
  |_,_=>.fail
def at5(ak:Env)(aj:aC)(kd:Nat)(z:b_)(agg:Bool)(ok:Bool)(x:aU)(k:aU):fL:=match mapOf aj agg (ev ak x),ev ak k with
  |some (es,r),.one (.p q)=>if iW q≠kd then .fail else match qF q es 0 with
   |some f=>match mapVal agg ((f.map (·.2)).getD z)with
    |some w=>.done (if ok then .tup [w,.one (.p (.bool f.isSome))]else w) [] r
    |none=>.fail
   |none=>.fail
  |_,_=>.fail
def atP:fL:=.fail
def aue(ak:Env)(aj:aC)(kd:Nat)(ag:Bool)(m:aU)(k:aU)(v:aU):fL:=match ev ak m,ev ak k,zc ag (ev ak v)with
  | .one (.kL id g),.one (.p q),some cs=>match aj id,C0 cs with
   |(g',some (.map sL es)),some ps=>if g'=g/\sL=ag/\iW q=kd then
     match qF q es 0 with
     |some (some (i,_))=>.done .undef [(id,(g,some (.map ag (es.set i (q,ps)))))] [id]
     |some none=>.done .undef [(id,(g,some (.map ag (es++[(q,ps)]))))] [id]
     |none=>.fail
    else .fail
   |_,_=>.fail
  |_,_,_=>.fail
def at0(ak:Env)(x:aU)(i:Nat):fL:=match ev ak x with
  | .tup vs=>match vs[i]? with
   |some v=>.done v [] []
   |none=>.fail
  |_=>.fail
def atV(shared:Nat->Bool)(ak:Env)(aj:aC)(s:Nat)(f:aU)(as:o_):fL:=match Fz ak f with
  |some (g,a,b)=>
   if shared g then .sc g (a.map .one++as.map (ev ak)++b.map .one)
   else match CZ aj (a.map .one++as.map (ev ak)++b.map .one)with
    |some (vs,r)=>.pc g vs r s
    |none=>.fail
  |none=>.fail
def auj(ak:Env)(x:aU):fL:=match ev ak x with
  | .one (.p (.str s))=>.done (.one (.p (.int .i64 s.size))) [] []
  |_=>.fail
def at3(ak:Env)(x:aU):fL:=match zX (ev ak x)with
  |some n=>.done (.one (.p (.int .i64 n))) [] []
  |none=>.fail
def auc(ak:Env)(aj:aC)(x:aU):fL:=match Bp aj (ev ak x)with
  |some (n,r)=>.done (.one (.p (.int .i64 n))) [] r
  |none=>.fail
def atO(ak:Env)(aj:aC)(s:Nat)(ty:Nat)(sz:Nat)(bytes:Nat)(d:aU)(x:aU):fL:=gE aj s ty sz bytes (ev ak d) (ev ak x)
def at6(ak:Env)(x:aU)(y:aU):fL:=match ev ak x,ev ak y with
  | .one (.p (.int k a)),.one (.p (.int _ b))=>.done (.one (.p (.int k (if b>a then b else a)))) [] []
  |_,_=>.fail
def at7(ak:Env)(x:aU)(y:aU):fL:=match ev ak x,ev ak y with
  | .one (.p (.int k a)),.one (.p (.int _ b))=>.done (.one (.p (.int k (if b<a then b else a)))) [] []
  |_,_=>.fail
def atW(ak:Env)(aj:aC)(z:b_)(x:aU):fL:=match ev ak x with
  | .one (.p .nils)=>.done (.tup []) [] []
  | .one (.p (.sl []))=>.done (.tup []) [] []
  | .one (.hsl id g _ off len)=>if len=0 then .done (.tup []) [] []else match aj id with
   |(g',some (.arr ty sz es))=>if g'=g/\sz=z.length/\off+len<=es.length then .done (.tup []) [(id,(g,some (.arr ty sz (fj es off (List.replicate len z)))))] [id]else .fail
   |_=>.fail
  |_=>.fail
def Zs(shared:Nat->Bool)(ak:Env)(aj:aC):oF->fL
 | .zZ x=>aud ak x
 | .pick c a b=>auh ak c a b
 | .alloc s z=>atN aj s z
 | .box s x=>atQ ak aj s x
 | .build z ps=>atU ak z ps
 | .Fi s ty sz ps=>atS ak aj s ty sz ps
 | .load k x=>at4 ak aj k x
 | .store n a x=>auk ak aj n a x
 | .Lj x=>auf ak x
 | .bin op x y=>aii ak op x y
 | .eqc k neg x y=>atZ ak k neg x y
 | .un op x=>aul ak op x
 | .conv k x=>atX ak k x
 | .bstr x=>atT ak aj x
 | .mkfn f a b=>aua ak f a b
 | .mkmap s ag=>aub aj s ag
 | .Lc s ty sz bytes z l c=>aik ak aj s ty sz bytes z l c
 | .slice sz x lo hi=>aim ak sz x lo hi
 | .sslice x lo hi=>ain ak x lo hi
 | .Hm off x=>at1 ak off x
 | .Ie sz x i=>aij ak sz x i
 | .Jp len sz x i=>aif ak len sz x i
 | .fld off k x=>at2 ak off k x
 | .aidx len sz k x i=>aih ak len sz k x i
 | .sidx x i=>ail ak x i
 | .lookup kd z agg ok x k=>at5 ak aj kd z agg ok x k
 | .bad=>atP
 | .mupd kd ag m k v=>aue ak aj kd ag m k v
 | .extract x i=>at0 ak x i
 | .call s f as=>atV shared ak aj s f as
 | .slen x=>auj ak x
 | .K9 x=>at3 ak x
 | .mlen x=>auc ak aj x
 | .append s ty sz bytes d x=>atO ak aj s ty sz bytes d x
 | .max x y=>at6 ak x y
 | .min x y=>at7 ak x y
 | .clear z x=>atW ak aj z x
theorem atM(shared:Nat->Bool)(ak:Env)(aj:aC)(o:oF):Zs shared ak aj o=bN shared ak aj o:=by
 cases o<;>first
  |rfl
  |simp only[Zs,bN,aii,aik,aim,ain,aij,aif,aih,ail,amq,abh,amr]<;>rfl
inductive Tr where
 |leaf
 |node (v:V) (l r:Tr)
noncomputable def Tr.get (t:Tr):Nat->V:=Tr.rec (motive:=fun _=>Nat->V) (fun _=>.undef) (fun v _ _ gl gr n=>bif Nat.beq n 0 then v else bif Nat.beq (Nat.mod n 2) 1 then gl (Nat.div n 2)else gr (Nat.sub (Nat.div n 2) 1)) t
noncomputable def Tr.single (k:Nat):Nat->V->Tr:=Nat.rec (motive:=fun _=>Nat->V->Tr) (fun _ _=>.leaf) (fun _ ih n x=>bif Nat.beq n 0 then .node x .leaf .leaf else bif Nat.beq (Nat.mod n 2) 1 then .node .undef (ih (Nat.div n 2) x) .leaf else .node .undef .leaf (ih (Nat.sub (Nat.div n 2) 1) x)) k
noncomputable def Tr.set (t:Tr):Nat->V->Tr:=Tr.rec (motive:=fun _=>Nat->V->Tr) (fun n x=>Tr.single 12 n x) (fun v l r sl sr n x=>bif Nat.beq n 0 then .node x l r else bif Nat.beq (Nat.mod n 2) 1 then .node v (sl (Nat.div n 2) x) r else .node v l (sr (Nat.sub (Nat.div n 2) 1) x)) t
theorem Gi{a b:Nat}(h:a≠b):Nat.beq a b=false:=by
 cases e:Nat.beq a b with
 |false=>rfl
 |true=>exact(h (xP e)).elim
theorem apr(n:Nat):Tr.leaf.get n=.undef:=rfl
theorem Rn(v:V)(l r:Tr)(n:Nat):(Tr.node v l r).get n=if n=0 then v else if n%2=1 then l.get (n/2)else r.get (n/2-1):=by
 show(bif Nat.beq n 0 then v else bif Nat.beq (n%2) 1 then l.get (n/2)else r.get (n/2-1))=_;by_cases h0:n=0
 .subst h0;rfl
 rw[Gi h0,au h0];by_cases h1:n%2=1
 .rw[h1];rfl
 rw[Gi h1,au h1];rfl
theorem ajz(f:Tr->Tr)(g:Tr->Tr)(v:V)(l r:Tr)(n m:Nat)(x:V)(hl:n%2=1->(f l).get (m/2)=if m/2=n/2 then x else l.get (m/2))(hr:n≠0->n%2≠1->(g r).get (m/2-1)=if m/2-1=n/2-1 then x else r.get (m/2-1)):
  (bif Nat.beq n 0 then Tr.node x l r else bif Nat.beq (n%2) 1 then .node v (f l) r else .node v l (g r)).get m=if m=n then x else(Tr.node v l r).get m:=by
 by_cases h0:n=0
 .subst h0;simp only[aaF,cond_true,Rn];by_cases hm:m=0<;>simp[hm]
 rw[Gi h0];by_cases h1:n%2=1
 .rw[h1];simp only[cond_false,aaF,cond_true,Rn];by_cases hm:m=0
  .subst hm;rw[aD rfl,au (fun e=>h0 e.symm),aD rfl]
  rw[au hm];by_cases pQ:m%2=1
  .rw[aD pQ,hl h1];by_cases he:m=n
   .subst he;simp
   rw[au he,au aa,au hm,aD pQ]
  rw[au pQ,au aa,au hm,au pQ]
 rw[Gi h1];simp only[cond_false,Rn];by_cases hm:m=0
 .subst hm;rw[aD rfl,au (fun e=>h0 e.symm),aD rfl]
 rw[au hm];by_cases pQ:m%2=1
 .rw[aD pQ,au aa,au hm,aD pQ]
 rw[au pQ,hr h0 h1];by_cases he:m=n
 .subst he;simp
 rw[au he,au aa,au hm,au pQ]
theorem av2:∀(k n m:Nat) (x:V),n+1<2 ^ k->(Tr.single k n x).get m=if m=n then x else Tr.leaf.get m:=by
 intro k
 induction k with
 |zero=>intro n m x h;simp at h
 |succ k ih=>
  intro n m x h;have hp:2 ^ (k+1)=2*2 ^ k:=by rw[Nat.pow_succ];omega
  have:=ajz (fun _=>Tr.single k (n/2) x) (fun _=>Tr.single k (n/2-1) x) .undef .leaf .leaf n m x (fun _=>ih _ _ _ aa) (fun _ _=>ih _ _ _ aa);have e:(Tr.node .undef .leaf .leaf).get m=Tr.leaf.get m:=by rw[Rn];simp[apr]
  rw[e]at this;exact this
theorem Tr.aeR:∀(t:Tr) (n m:Nat) (x:V),n+1<2 ^ 12->(t.set n x).get m=if m=n then x else t.get m:=by
 intro t
 induction t with
 |leaf=>intro n m x h;exact av2 12 n m x h
 |node v l r ihl ihr=>intro n m x h;exact ajz (fun l=>l.set (n/2) x) (fun r=>r.set (n/2-1) x) v l r n m x (fun _=>ihl _ _ _ aa) (fun _ _=>ihr _ _ _ aa)
abbrev BL:=List (Nat×(Nat×Option Ob))
noncomputable def DS (b:BL) (n:Nat):Nat×Option Ob:=List.rec (motive:=fun _=>Nat×Option Ob) (0,none) (fun p _ ih=>bif Nat.beq p.1 n then p.2 else ih) b
noncomputable def Pp:BL->Nat->Nat×Option Ob->BL
 |[],n,x=>[(n,x)]
 |(i,o)::r,n,x=>bif Nat.beq i n then(i,x)::r else(i,o)::Pp r n x
theorem apo:∀(b:BL) (n:Nat) (x:Nat×Option Ob) (m:Nat),DS (Pp b n x) m=if m=n then x else DS b m:=by
 intro b
 induction b with
 |nil=>
  intro n x m;simp only[Pp,DS];by_cases h:m=n
  .subst h;simp
  have:Nat.beq n m=false:=Gi fun e=>h e.symm;simp[this,h]
 |cons p b ih=>
  obtain⟨i,o⟩:=p;intro n x m;simp only[Pp];by_cases h:i=n
  .subst h;simp only[aaF,cond_true,DS];by_cases hm:m=i
   .subst hm;simp
   have:Nat.beq i m=false:=Gi fun e=>hm e.symm;simp[this,hm]
  have:Nat.beq i n=false:=Gi h;simp only[this,cond_false,DS];by_cases hm:i=m
  .subst hm;simp[h]
  have:Nat.beq i m=false:=Gi hm;simp only[this,cond_false];exact ih n x m
noncomputable def qV (t:Tr):Env:=fun i=>t.get i
noncomputable def lG (b:BL):aC:=fun i=>DS b i
noncomputable def LV:Nat->e_->Tr->Tr
 |_,[],t=>t
 |i,a::r,t=>LV (i+1) r (t.set i a)
theorem aw8:∀(l:e_) (i:Nat) (t:Tr) (m:Nat),i+l.length<4095->(LV i l t).get m=if i<=m/\m<i+l.length then l.getD (m-i) .undef else t.get m:=by
 intro l
 induction l with
 |nil=>intro i t m _;simp[LV];intro h1 h2;omega
 |cons a r ih=>
  intro i t m h;simp only[dI]at h |-;rw[LV,ih (i+1) _ m aa,Tr.aeR t i m a aa];by_cases h1:m=i
  .subst h1;rw[au aa,aD rfl,aD aa];simp
  rw[au h1];by_cases h2:i+1<=m/\m<i+1+r.length
  .rw[aD h2,aD aa];obtain⟨k,rfl⟩:∃k,m=i+1+k:=⟨m-(i+1),aa⟩;rw[show i+1+k-(i+1)=k by omega,show i+1+k-i=k+1 by omega];simp
  rw[au h2,au aa]
theorem aw4(h:args.length<4095):qV (LV 0 args .leaf)=tv args:=by
 funext m;unfold qV tv;rw[aw8 args 0 .leaf m aa];by_cases hm:m<args.length
 .rw[aD aa];rfl
 rw[au aa];simp[Tr.get,List.getD,n9 (akG hm)]
noncomputable def aae {α:Type} (n:Nat) (k:Nat->α):α:=match n with
 |0=>k 0
 |m+1=>k (m+1)
noncomputable def aad {α:Type} (z:Int) (k:Int->α):α:=match z with
 | .ofNat n=>aae n fun n=>k (.ofNat n)
 | .negSucc n=>aae n fun n=>k (.negSucc n)
noncomputable def aaf {α:Type} (v:V) (k:V->α):α:=match v with
 | .one (.p (.int t z))=>aad z fun z=>k (.one (.p (.int t z)))
 | .one (.p (.bool b))=>match b with
  |true=>k (.one (.p (.bool true)))
  |false=>k (.one (.p (.bool false)))
 |v=>k v
@[simp] theorem axX {α:Type} (n:Nat) (k:Nat->α):aae n k=k n:=by cases n<;>rfl
@[simp] theorem axW {α:Type} (z:Int) (k:Int->α):aad z k=k z:=by cases z<;>simp[aad]
@[simp] theorem axJ {α:Type} (v:V) (k:V->α):aaf v k=k v:=by
 unfold aaf;split
 .simp
 .split<;>rfl
 rfl
def SJ(al:Al)(l:a_):Bool:=bif al.any then true else al.fQ l
theorem as7(al:Al)(l:a_):SJ al l=al.fQ l:=by
 unfold SJ;cases h:al.any with
 |false=>rfl
 |true=>simp[Al.fQ,Al.ok,h]
abbrev qy:=Nat->e_->Al->BL->Option (V×BL)
noncomputable def GS:l_->BL->BL
 |[],b=>b
 |(i,o)::r,b=>GS r (Pp b i o)
theorem ZZ:∀(u:l_) (b:BL),lG (GS u b)=app u (lG b):=by
 intro u
 induction u with
 |nil=>intro b;rfl
 |cons x u ih=>obtain⟨i,o⟩:=x;intro b;simp only[GS,app];rw[ih];congr 1;funext m;exact apo b i o m
noncomputable def Lv (t:Tr) (d:w_) (v:V) (k:Tr->Option (Tr×BL×cK)):Option (Tr×BL×cK):=match d with
 |none=>k t
 |some n=>bif Nat.ble n 4000 then aaf v fun v=>k (t.set n v)else none
noncomputable def Tv (sh:Ctx) (cp:gC) (cs:qy) (o:bQ) (t:Tr) (b:BL):Option (Tr×BL×cK):=
 match wanted (qV t) o.guard with
 |none=>none
 |some false=>Lv t o.dst .undef fun t'=>some (t',b,⟨[],[],[]⟩)
 |some true=>match Zs sh.shared (qV t) (lG b) o.op with
  | .fail=>none
  | .done v u r=>bif SJ sh.al (r++u.map (·.1))then Lv t o.dst v fun t'=>some (t',GS u b,⟨r,u.map (·.1),[]⟩)else none
  | .pc f vs r s=>match cp f vs with
   |some x=>match land (lG b) r s (x.gj (sh.lone s))with
    |some (v,u)=>bif SJ sh.al (r++u.map (·.1))then Lv t o.dst v fun t'=>some (t',GS u b,⟨r++u.map (·.1),u.map (·.1),[]⟩)else none
    |none=>none
   |none=>none
  | .sc f vs=>match allow sh f vs (lG b)with
   |al=>bif sh.al.holds al then
     match cs f vs al b with
     |some (v,b')=>Lv t o.dst v fun t'=>some (t',b',⟨al.ids,al.ids,al.fs⟩)
     |none=>none
    else none
noncomputable def Jm (cs:jZ) (cf:qy):Prop:=∀f vs al b v b',cf f vs al b=some (v,b')->cs f vs al (lG b)=some (v,lG b')
theorem S2{t t':Tr}{d:w_}{v:V}{b b':BL}{e e':cK}(h:Lv t d v (fun t'=>some (t',b,e))=some (t',b',e')):put (qV t) d v=qV t'/\b=b'/\e=e':=by
 unfold Lv at h;split at h
 .cases h;exact⟨rfl,rfl,rfl⟩
 rename_i n;cases hn:Nat.ble n 4000 with
 |false=>rw[hn]at h;cases h
 |true=>rw[hn]at h;simp only[cond_true,axJ]at h;cases h;refine⟨?_,rfl,rfl⟩;have:=iH hn;funext m;unfold qV put;exact(Tr.aeR t n m v aa).symm
theorem awB{cf:qy}(hs:Jm cs cf){o:bQ}{t t':Tr}{b b':BL}{e:cK}(h:Tv sh cp cf o t b=some (t',b',e)):step1 sh cp cs o (qV t) (lG b)=some (qV t',lG b',e):=by
 unfold Tv at h;simp only[atM,as7]at h;unfold step1;split at h
 .cases h
 .rename_i hw;rw[hw];obtain⟨h1,rfl,rfl⟩:=S2 h;simp only[h1]
 rename_i hw;rw[hw];simp only;split at h
 .cases h
 .rename_i v u r hp;cases ay:sh.al.fQ (r++u.map (·.1))with
  |false=>rw[ay]at h;cases h
  |true=>rw[ay]at h;obtain⟨h1,rfl,rfl⟩:=S2 h;simp only[hp,ay,if_true,h1,ZZ]
 .rename_i f vs r s hp;split at h
  .rename_i x hx;split at h
   .rename_i v u hl;cases ay:sh.al.fQ (r++u.map (·.1))with
    |false=>rw[ay]at h;cases h
    |true=>rw[ay]at h;obtain⟨h1,rfl,rfl⟩:=S2 h;simp only[hp,hx,hl,ay,if_true,h1,ZZ]
   cases h
  cases h
 rename_i f vs hp;cases ay:sh.al.holds (allow sh f vs (lG b))with
 |false=>rw[ay]at h;cases h
 |true=>
  rw[ay]at h;simp only[cond_true]at h;split at h
  .rename_i v b1 hc;obtain⟨h1,rfl,rfl⟩:=S2 h;simp only[hp,ay,if_true,hs _ _ _ _ _ _ hc,h1]
  cases h
noncomputable def awC (sh:Ctx) (cp:gC) (cs:qy) (o:bQ) (ih:Tr->BL->Option (Tr×BL×i_)) (ak:Tr) (aj:BL):Option (Tr×BL×i_):=
 match Tv sh cp cs o ak aj with
 |some (aF,ao,e)=>match ih aF ao with
  |some (Na,JC,es)=>some (Na,JC,e::es)
  |none=>none
 |none=>none
noncomputable def LQ (sh:Ctx) (cp:gC) (cs:qy) (l:h_):Tr->BL->Option (Tr×BL×i_):=List.rec (motive:=fun _=>Tr->BL->Option (Tr×BL×i_)) (fun ak aj=>some (ak,aj,[])) (fun o _ ih=>awC sh cp cs o ih) l
theorem awE(sh:Ctx)(cp:gC)(cs:qy)(ak:Tr)(aj:BL):LQ sh cp cs [] ak aj=some (ak,aj,[]):=rfl
theorem awD(sh:Ctx)(cp:gC)(cs:qy)(o:bQ)(r:h_)(ak:Tr)(aj:BL):LQ sh cp cs (o::r) ak aj=match Tv sh cp cs o ak aj with
  |some (aF,ao,e)=>match LQ sh cp cs r aF ao with
   |some (Na,JC,es)=>some (Na,JC,e::es)
   |none=>none
  |none=>none:=rfl
theorem awF{cf:qy}(hs:Jm cs cf):∀ {ops:h_}{t t':Tr}{b b':BL}{es:i_},LQ sh cp cf ops t b=some (t',b',es)->steps sh cp cs ops (qV t) (lG b)=some (qV t',lG b',es):=by
 intro ops
 induction ops with
 |nil=>intro t t' b b' es h;simp only[awE,fY,lK]at h;obtain⟨rfl,rfl,rfl⟩:=h;rfl
 |cons o r ih=>
  intro t t' b b' es h;simp only[awD]at h;split at h
  .rename_i t1 b1 e1 h1;split at h
   .rename_i t2 b2 es2 h2;cases h;simp only[steps,awB hs h1,ih h2]
   cases h
  cases h
noncomputable def OT (f:Tr->BL->Option (mD×Tr×BL)) (n:Nat):Tr->BL->Option (mD×Tr×BL):=
 Nat.rec (motive:=fun _=>Tr->BL->Option (mD×Tr×BL)) (fun _ _=>none) (fun _ ih ak aj=>match f ak aj with
  |some (.normal,aF,ao)=>ih aF ao
  |r=>r) n
theorem arl(f:Tr->BL->Option (mD×Tr×BL))(n:Nat)(ak:Tr)(aj:BL):OT f (n+1) ak aj=match f ak aj with
  |some (.normal,aF,ao)=>OT f n aF ao
  |r=>r:=rfl
abbrev Ex:=Tr->BL->Option (mD×Tr×BL)
noncomputable def aok (sh:Ctx) (cp:gC) (cs:qy) (d:Bool) (ops:h_):Ex:=fun ak aj=>match LQ sh cp cs ops ak aj with
  |some (aF,ao,es)=>bif d then(bif um ops [] es then some (.normal,aF,ao)else none)else some (.normal,aF,ao)
  |none=>none
noncomputable def aol (a b:Ex):Ex:=fun ak aj=>match a ak aj with
  |some (.normal,aF,ao)=>b aF ao
  |r=>r
noncomputable def aoj (x:aU) (a b:Ex):Ex:=fun ak aj=>match ev (qV ak) x with
  | .one (.p (.bool t))=>bif t then a ak aj else b ak aj
  |_=>none
noncomputable def aoi (id:Nat) (c:Ex):Ex:=fun ak aj=>match c ak aj with
  |some (.exit i,aF,ao)=>bif Nat.beq i id then some (.normal,aF,ao)else some (.exit i,aF,ao)
  |r=>r
noncomputable def uK (sh:Ctx) (cp:gC) (cs:qy) (n:Nat) (c:aN):Ex:=
 aN.rec (motive:=fun _=>Ex) (fun ak aj=>some (.normal,ak,aj)) (fun d ops=>aok sh cp cs d ops) (fun _ _ a b=>aol a b) (fun x _ _ a b=>aoj x a b)
  (fun id _ c=>aoi id c) (fun _ c=>OT c n) (fun id ak aj=>some (.exit id,ak,aj)) (fun ak aj=>some (.ret,ak,aj)) (fun _ _=>none) c
section
variable (sh:Ctx) (cp:gC) (cs:qy) (n:Nat) (ak:Tr) (aj:BL)
theorem aot:uK sh cp cs n .skip ak aj=some (.normal,ak,aj):=rfl
theorem aoo(id:Nat):uK sh cp cs n (.exit id) ak aj=some (.exit id,ak,aj):=rfl
theorem aor:uK sh cp cs n .ret ak aj=some (.ret,ak,aj):=rfl
theorem aoq(d:Bool)(ops:h_):uK sh cp cs n (.region d ops) ak aj=match LQ sh cp cs ops ak aj with
  |some (aF,ao,es)=>bif d then(bif um ops [] es then some (.normal,aF,ao)else none)else some (.normal,aF,ao)
  |none=>none:=rfl
theorem aos(a b:aN):uK sh cp cs n (.seq a b) ak aj=match uK sh cp cs n a ak aj with
  |some (.normal,aF,ao)=>uK sh cp cs n b aF ao
  |r=>r:=rfl
theorem aon(x:aU)(a b:aN):uK sh cp cs n (.cond x a b) ak aj=match ev (qV ak) x with
  | .one (.p (.bool t))=>bif t then uK sh cp cs n a ak aj else uK sh cp cs n b ak aj
  |_=>none:=rfl
theorem aom(id:Nat)(c:aN):uK sh cp cs n (.block id c) ak aj=match uK sh cp cs n c ak aj with
  |some (.exit i,aF,ao)=>bif Nat.beq i id then some (.normal,aF,ao)else some (.exit i,aF,ao)
  |r=>r:=rfl
theorem aop(c:aN):uK sh cp cs n (.loop c) ak aj=OT (uK sh cp cs n c) n ak aj:=rfl
end
theorem ark{f:Tr->BL->Option (mD×Tr×BL)}{g:Env->aC->Option (mD×Env×aC)}(HJ:∀t b e t' b',f t b=some (e,t',b')->g (qV t) (lG b)=some (e,qV t',lG b')):
  ∀(n:Nat) {t t':Tr}{b b':BL}{e:mD},OT f n t b=some (e,t',b')->iter g n (qV t) (lG b)=some (e,qV t',lG b'):=by
 intro n
 induction n with
 |zero=>intro t t' b b' e h;cases h
 |succ n ih=>
  intro t t' b b' e h;simp only[arl]at h;simp only[iter];split at h
  .rename_i t1 b1 h1;rw[HJ _ _ _ _ _ h1];exact ih h
  rename_i aH;rw[HJ _ _ _ _ _ h];cases e with
  |normal=>exact(aH _ _ h).elim
  |exit i=>rfl
  |ret=>rfl
theorem ac0{cf:qy}(hs:Jm cs cf){n:Nat}:∀(c:aN) {t t':Tr}{b b':BL}{e:mD},uK sh cp cf n c t b=some (e,t',b')->exec sh cp cs n c (qV t) (lG b)=some (e,qV t',lG b'):=by
 intro c
 induction c with
 |skip=>intro t t' b b' e h;simp only[aot,fY,lK]at h;obtain⟨rfl,rfl,rfl⟩:=h;rfl
 |exit id=>intro t t' b b' e h;simp only[aoo,fY,lK]at h;obtain⟨rfl,rfl,rfl⟩:=h;rfl
 |ret=>intro t t' b b' e h;simp only[aor,fY,lK]at h;obtain⟨rfl,rfl,rfl⟩:=h;rfl
 |bad=>intro t t' b b' e h;cases h
 |region d ops=>
  intro t t' b b' e h;simp only[aoq]at h;simp only[exec];split at h
  .rename_i t1 b1 es h1;rw[awF hs h1];simp only;cases d with
   |false=>simp only[cond_false]at h;cases h;simp
   |true=>
    simp only[cond_true]at h;cases hd:um ops [] es with
    |false=>rw[hd]at h;cases h
    |true=>rw[hd]at h;simp only[cond_true]at h;cases h;simp
  cases h
 |seq x y ihx ihy=>
  intro t t' b b' e h;simp only[aos]at h;simp only[exec];split at h
  .rename_i t1 b1 h1;rw[ihx h1];exact ihy h
  rename_i aH;rw[ihx h];cases e with
  |normal=>exact(aH _ _ h).elim
  |exit i=>rfl
  |ret=>rfl
 |cond x p q ihp ihq=>
  intro t t' b b' e h;simp only[aon]at h;simp only[exec];split at h
  .rename_i tt ht;rw[ht];cases tt with
   |true=>simp only[cond_true]at h;simpa using ihp h
   |false=>simp only[cond_false]at h;simpa using ihq h
  cases h
 |block id c ih=>
  intro t t' b b' e h;simp only[aom]at h;simp only[exec];split at h
  .rename_i i t1 b1 h1;rw[ih h1];simp only;cases hi:Nat.beq i id with
   |true=>rw[hi]at h;simp only[cond_true]at h;cases h;rw[aD (xP hi)]
   |false=>rw[hi]at h;simp only[cond_false]at h;cases h;rw[au];intro hh;rw[hh,aaF]at hi;cases hi
  rename_i aH;rw[ih h];cases e with
  |normal=>rfl
  |exit i=>exact(aH _ _ _ h).elim
  |ret=>rfl
 |loop c ih=>intro t t' b b' e h;simp only[aop]at h;simp only[exec];exact ark (fun _ _ _ _ _ h=>ih h) n h
noncomputable def II (sh:Ctx) (cp:gC) (cs:qy) (n:Nat) (fn:bd) (args:e_) (aj:BL):Option (V×BL):=
 bif Nat.ble args.length 4000 then
  match uK sh cp cs n fn.body (LV 0 args .leaf) aj with
  |some (.normal,ak,ao)=>(qm sh.al (qV ak) (lG ao) fn.results).map fun vs=>(BA vs,ao)
  |some (.ret,ak,ao)=>(qm sh.al (qV ak) (lG ao) fn.results).map fun vs=>(BA vs,ao)
  |_=>none
 else none
theorem ava{cf:qy}(hs:Jm cs cf){n:Nat}{fn:bd}{b b':BL}{v:V}(h:II sh cp cf n fn args b=some (v,b')):sI sh cp cs n fn args (lG b)=some (v,lG b'):=by
 unfold II at h;unfold sI;cases hl:Nat.ble args.length 4000 with
 |false=>rw[hl]at h;cases h
 |true=>
  rw[hl]at h;simp only[cond_true]at h;have:=iH hl;rw[<-aw4 aa];split at h
  .rename_i ak b1 hx;rw[ac0 hs _ hx];simp only[dT]at h |-;obtain⟨vs,h1,h2⟩:=h;cases h2;exact⟨vs,h1,rfl⟩
  .rename_i ak b1 hx;rw[ac0 hs _ hx];simp only[dT]at h |-;obtain⟨vs,h1,h2⟩:=h;cases h2;exact⟨vs,h1,rfl⟩
  cases h
noncomputable def amv (S:Sys) (n:Nat) (cp:gC) (cs:qy):gC:=fun f args=>match S.prim f args with
  |some r=>r
  |none=>match S.fns f with
   |some fn=>bif Nat.ble args.length fn.ntmps then
     match II (S.ctx .all) cp cs n fn args []with
     |some (v,b)=>jk (lG b) v
     |none=>none
    else none
   |none=>none
noncomputable def amx (S:Sys) (n:Nat) (cp:gC) (cs:qy):qy:=fun f args al b=>bif S.trig f args then(S.primS f args al (lG b)).map (fun r=>(r.1,GS r.2 b))else match S.fns f with
  |some fn=>bif Nat.ble args.length fn.ntmps then II (S.ctx al) cp cs n fn args b else none
  |none=>none
noncomputable def abF (S:Sys) (n:Nat):gC×qy:=Nat.rec (motive:=fun _=>gC×qy) (fun _ _=>none,fun _ _ _ _=>none) (fun n ih=>(amv S n ih.1 ih.2,amx S n ih.1 ih.2)) n
noncomputable def GZ (S:Sys) (n:Nat):gC:=(abF S n).1
noncomputable def BM (S:Sys) (n:Nat):qy:=(abF S n).2
theorem amw(S:Sys)(n f:Nat)(args:e_):GZ S (n+1) f args=match S.prim f args with
  |some r=>r
  |none=>match S.fns f with
   |some fn=>bif Nat.ble args.length fn.ntmps then
     match II (S.ctx .all) (GZ S n) (BM S n) n fn args []with
     |some (v,b)=>jk (lG b) v
     |none=>none
    else none
   |none=>none:=rfl
theorem amy(S:Sys)(n f:Nat)(args:e_)(al:Al)(b:BL):BM S (n+1) f args al b=bif S.trig f args then(S.primS f args al (lG b)).map (fun r=>(r.1,GS r.2 b))else match S.fns f with
  |some fn=>bif Nat.ble args.length fn.ntmps then II (S.ctx al) (GZ S n) (BM S n) n fn args b else none
  |none=>none:=rfl
theorem aiR{mH:gC}(hp:PLe cp mH){cf:qy}(hs:Jm cs cf){n:Nat}{fn:bd}{b b':BL}{v:V}(h:II sh cp cf n fn args b=some (v,b')):sI sh mH cs n fn args (lG b)=some (v,lG b'):=Te hp (fun _ _ _ _ _ h=>h) (bY _) (ava hs h)
theorem UC(S:Sys):∀n,PLe (GZ S n) (hU S n)/\Jm (ia S n) (BM S n):=by
 intro n
 induction n with
 |zero=>have h1:∀f x,GZ S 0 f x=none:=fun _ _=>rfl;have h2:∀f vs al b,BM S 0 f vs al b=none:=fun _ _ _ _=>rfl;exact⟨fun f x r h=>(by rw[h1]at h;cases h),fun f vs al b v b' h=>(by rw[h2]at h;cases h)⟩
 |succ n ih=>
  obtain⟨hp,hs⟩:=ih;refine⟨fun f x r h=>?_,fun f vs al b v b' h=>?_⟩
  .rw[amw]at h;rw[hU];split at h
   .rename_i r' uX;simp only[uX];exact h
   rename_i uX;simp only[uX];split at h
   .rename_i fn hfn;simp only[hfn];cases hl:Nat.ble x.length fn.ntmps with
    |false=>rw[hl]at h;cases h
    |true=>
     rw[hl]at h;simp only[cond_true]at h;rw[aD (iH hl)];split at h
     .rename_i v b hr;unfold Gq;have:xx=lG []:=rfl;rw[this,aiR hp hs hr];exact h
     cases h
   cases h
  rw[amy]at h;rw[ia];cases ht:S.trig f vs with
  |true=>
   rw[ht]at h;simp only[cond_true]at h;rw[aD rfl];cases hp:S.primS f vs al (lG b)with
   |none=>rw[hp]at h;cases h
   |some r=>rw[hp]at h;cases h;rw[nK,ZZ]
  |false=>
  rw[ht]at h;simp only[cond_false,dN,if_false]at h |-;split at h
  .rename_i fn hfn;simp only[hfn];cases hl:Nat.ble vs.length fn.ntmps with
   |false=>rw[hl]at h;cases h
   |true=>rw[hl]at h;simp only[cond_true]at h;rw[aD (iH hl)];exact aiR hp hs h
  cases h
def AN{α:Type}(f:α->α->Bool):List α->List α->Bool
 |[],[]=>true
 |a::r,b::s=>f a b&&AN f r s
 |_,_=>false
theorem GP{α:Type}{f:α->α->Bool}(hf:∀a b,f a b=true->a=b):∀ {l m:List α},AN f l m=true->l=m:=by
 intro l
 induction l with
 |nil=>intro m h;cases m with
  |nil=>rfl
  |cons b m=>cases h
 |cons a l ih=>
  intro m h;cases m with
  |nil=>cases h
  |cons b m=>simp only[AN,cH]at h;rw[hf _ _ h.1,ih h.2]
def Ve:IntKind->IntKind->Bool
 | .i64,.i64=>true
 |a,b=>decide (a=b)
theorem an8{a b:IntKind}(h:Ve a b=true):a=b:=by
 cases a<;>cases b<;>first
  |rfl
  |(simp[Ve]at h)
def eqP:Nat->PV->PV->Bool
 |0,_,_=>false
 |_+1,.int k a,.int k' b=>Ve k k'&&a==b
 |_+1,.bool a,.bool b=>a==b
 |n+1,.sl a,.sl b=>AN (AN (eqP n)) a b
 |n+1,.box a,.box b=>AN (eqP n) a b
 |n+1,.fn f a b,.fn g c d=>Nat.beq f g&&(AN (eqP n) a c&&AN (eqP n) b d)
 |_+1,.nils,.nils=>true
 |_+1,.wa,.wa=>true
 |_+1,_,_=>false
theorem an9:∀(n:Nat) (x y:PV),eqP n x y=true->x=y:=by
 intro n
 induction n with
 |zero=>intro x y h;cases h
 |succ n ih=>
  intro x y h;unfold eqP at h;split at h
  .rename_i h0;cases h0
  .rename_i h0;cases h0;simp only[cH,cZ]at h;rw[an8 h.1,h.2]
  .rename_i h0;cases h0;simp only[cZ]at h;rw[h]
  .rename_i h0;cases h0;rw[GP (fun _ _ h=>GP ih h) h]
  .rename_i h0;cases h0;rw[GP ih h]
  .rename_i h0;cases h0;simp only[cH]at h;rw[xP h.1,GP ih h.2.1,GP ih h.2.2]
  .rfl
  .rfl
  cases h
def QR:C->C->Bool
 | .p a,.p b=>eqP 12 a b
 |_,_=>false
theorem acS{a b:C}(h:QR a b=true):a=b:=by
 unfold QR at h;split at h
 .rw[an9 _ _ _ h]
 cases h
def QS:V->V->Bool
 | .one a,.one b=>QR a b
 | .agg a,.agg b=>AN QR a b
 |_,_=>false
theorem aob{a b:V}(h:QS a b=true):a=b:=by
 unfold QS at h;split at h
 .rw[acS h]
 .rw[GP (fun _ _ h=>acS h) h]
 cases h
abbrev jR:=List (Nat×e_×RV)
def OY:jR->Nat->e_->Option RV
 |[],_,_=>none
 |(f,a,r)::l,g,b=>bif Nat.beq f g&&AN QS a b then some r else OY l g b
theorem asf:∀ {l:jR}{f:Nat}{a:e_}{r:RV},OY l f a=some r->(f,a,r)∈l:=by
 intro l
 induction l with
 |nil=>intro f a r h;cases h
 |cons e l ih=>
  obtain⟨g,b,s⟩:=e;intro f a r h;simp only[OY]at h;cases hb:(Nat.beq g f&&AN QS b a)with
  |true=>rw[hb]at h;simp only[cond_true,fY]at h;simp only[cH]at hb;rw[xP hb.1,GP (fun _ _ h=>aob h) hb.2,h];simp
  |false=>rw[hb]at h;exact vq _ (ih h)
def Sys.yE(S:Sys)(l:jR):Sys:={S with prim:=fun f a=>match OY l f a with
 |some r=>some (some r)
 |none=>S.prim f a}
def jH(S:Sys)(l:jR):Prop:=∀e∈l,aK S e.1 e.2.1 e.2.2
theorem jH.nil{S:Sys}:jH S []:=fun e h=>by simp at h
theorem jH.cons{S:Sys}{l:jR}{f:Nat}{a:e_}{r:RV}(h:aK S f a r)(hl:jH S l):jH S ((f,a,r)::l):=fun e he=>by
 rcases bJ.1 he with rfl|he
 .exact h
 exact hl e he
theorem jH.bound{S:Sys}:∀ {l:jR},jH S l->∃M,∀e∈l,hU S M e.1 e.2.1=some e.2.2:=by
 intro l
 induction l with
 |nil=>intro _;exact⟨0,fun e h=>by simp at h⟩
 |cons e l ih=>
  intro h;obtain⟨M,hM⟩:=ih fun x hx=>h x (by simp[hx]);obtain⟨n,hn⟩:=h e af;refine⟨max M n,fun x hx=>?_⟩;rcases bJ.1 hx with rfl|hx
  .exact Fj S (Jg M n) _ _ _ hn
  exact Fj S (GJ M n) _ _ _ (hM x hx)
theorem asE{S:Sys}{l:jR}{M:Nat}(hM:∀e∈l,hU S M e.1 e.2.1=some e.2.2):∀n,PLe (hU (S.yE l) n) (hU S (n+M))/\SLe (ia (S.yE l) n) (ia S (n+M)):=by
 intro n
 induction n with
 |zero=>exact⟨fun f x r h=>by simp[hU]at h,fun f x l k r h=>by simp[ia]at h⟩
 |succ n ih=>
  have e1:n+1+M=(n+M)+1:=aa;have hc:∀al,(S.yE l).ctx al=S.ctx al:=fun _=>rfl;refine⟨fun f x r h=>?_,fun f x al k r h=>?_⟩
  .rw[hU]at h;cases hl:OY l f x with
   |some r'=>
    have hp:(S.yE l).prim f x=some (some r'):=by simp only[Sys.yE,hl]
    rw[hp]at h;cases h;exact Fj S aa _ _ _ (hM _ (asf hl))
   |none=>
    have hp:(S.yE l).prim f x=S.prim f x:=by simp only[Sys.yE,hl]
    rw[hp]at h;rw[e1,hU];split at h
    .exact h
    have hfn:(S.yE l).fns f=S.fns f:=rfl;rw[hfn]at h;split at h
    .rename_i fn hf;split at h
     .rename_i hlen;rw[aD hlen];rw[hc]at h;exact aiQ ih.1 ih.2 aa h
     cases h
    cases h
  rw[ia]at h;rw[e1,ia];have htr:(S.yE l).trig f x=S.trig f x:=rfl;have dS:(S.yE l).primS f x al k=S.primS f x al k:=rfl;rw[htr,dS]at h;by_cases ht:S.trig f x=true
  .rw[aD ht]at h |-;exact h
  rw[au ht]at h |-;have hfn:(S.yE l).fns f=S.fns f:=rfl;rw[hfn]at h;split at h
  .rename_i fn hf;split at h
   .rename_i hlen;rw[aD hlen];rw[hc]at h;exact Te ih.1 ih.2 aa h
   cases h
  cases h
theorem mW{S:Sys}{l:jR}(hl:jH S l)(n:Nat){f:Nat}{r:RV}(h:GZ (S.yE l) n f args=some r):aK S f args r:=by obtain⟨M,hM⟩:=hl.bound;exact⟨n+M,(asE hM n).1 _ _ _ ((UC (S.yE l) n).1 _ _ _ h)⟩
inductive Fits {H:Type} (N:Nat):DataW H->Prop where
 |str (s:p_) (h:s.length<=N):Fits N (.lit (.string s))
 |lit (l:Lit) (h:∀s,l≠ .string s):Fits N (.lit l)
 |nil:Fits N .nil
 |slice (es sp:List (DataW H)) (h:es.length<=N) (he:∀d∈es,Fits N d):Fits N (.slice es sp)
 |agg (es:List (DataW H)) (he:∀d∈es,Fits N d):Fits N (.agg es)
def kD(P:Program)(N:Nat):Nat->TypeId->b_->Prop
 |0,_,_=>False
 |n+1,t,ps=>match P.underlying t with
  |some .bool=>∃b,ps=[.bool b]
  |some (.int k)=>∃z,ps=[.int k z]/\(Lit.int k z).wf=true
  |some .string=>∃s:ByteArray,ps=[.str s]/\s.size<=N
  |some (.slice e)=>∃es,ps=[.sl es]/\es.length<=N/\ ∀x∈es,kD P N n e x
  |some (.struct fs)=>∃parts:s_,ps=parts.flatten/\parts.length=fs.toList.length/\ ∀(i:Nat) (f:Field) (x:b_),fs.toList[i]?=some f->parts[i]?=some x->kD P N n f.type x
  |_=>False
def AS(P:Program):Nat->Nat->List Field->Bool
 |off,total,[]=>Nat.beq off total
 |off,total,f::r=>Nat.beq f.offset off&&AS P (off+P.cellsOf f.type) total r
def kn(P:Program):Nat->TypeId->Bool
 |0,_=>false
 |n+1,t=>match P.underlying t with
  |some .bool|some (.int _)|some .string=>true
  |some (.slice e)=>Nat.blt 0 (P.cellsOf e)&&kn P n e
  |some (.struct fs)=>AS P 0 (P.cellsOf t) fs.toList&&fs.toList.all fun f=>kn P n f.type
  |_=>false
section
variable {H:Type} {enc:TypeId×Value->H} {P:Program} {w:World} {base:Nat} {sp:Nat->Bool} {held:Bool} {N:Nat}
theorem dJ.append{w:World}{own:Nat->Prop}{xs ys:b_}{vs us:List Value}(h:dJ w own xs vs)(k:dJ w own ys us):dJ w own (xs++ys) (vs++us):=Pw.append (R:=cM w own) h k
theorem abJ{w:World}{base:Nat}{a:Addr}{n:Nat}{cs:List Value}(h:w.cells? base a n=some cs):cs.length=n/\ ∀i,i<n->a.add i=⟨a.block,a.off+i,none⟩/\w.cell? ⟨a.block,a.off+i,none⟩=cs[i]? :=by
 unfold World.cells? at h;split at h
 .have hl:=mapM_some_length h;simp at hl;refine⟨hl,fun i hi=>?_⟩;have hg:=mapM_some_get h i i (by simp[hi]);have aA:i<cs.length:=aa;have hv:cs[i]?=some cs[i]:=by simp[aA]
  rw[hv]at hg;have afB:(a.add i).spot=none:=by
   cases pW:(a.add i).spot with
   |none=>rfl
   |some s=>
    simp only[World.cell?]at hg;split at hg
    .simp[pW]at hg
    cases hg
  have e:a.add i=⟨a.block,a.off+i,none⟩:=by
   unfold Addr.add at afB |-;split
   .rename_i h0;subst h0;rw[aD rfl]at afB;cases a
    simp_all
   rfl
  refine⟨e,?_⟩;rw[hv,<-hg,e]
 cases h
theorem aoH{r:TypeId->List Value->Option (DataW H×List MemPlace)}{n:Nat}(ih:∀t cs x,kn P n t=true->r t cs=some x->Fits N x.1->∃pvs,kD P N n t pvs/\dJ w (fun _=>False) pvs cs){cs:List Value}{total:Nat}(ht:cs.length=total):
  ∀(fs:List Field) (off:Nat) (xs:List (DataW H×List MemPlace)),AS P off total fs=true->(∀f∈fs,kn P n f.type=true)->
   fs.mapM (fun f=>r f.type ((cs.drop f.offset).take (P.cellsOf f.type)))=some xs->(∀x∈xs,Fits N x.1)->off<=total->(∀f∈fs,∀c x,r f.type c=some x->∀pvs,kD P N n f.type pvs->dJ w (fun _=>False) pvs c->True)->
   ∃parts:s_,parts.length=fs.length/\(∀(i:Nat) (f:Field) (x:b_),fs[i]?=some f->parts[i]?=some x->kD P N n f.type x)/\(dJ w (fun _=>False) parts.flatten (cs.drop off)):=by
 intro fs
 induction fs with
 |nil=>
  intro off xs hc _ _ _ hle _;simp only[AS]at hc;have:=xP hc;refine⟨[],rfl,fun i f x h=>by simp at h,?_⟩;have:cs.drop off=[]:=by rw[List.drop_eq_nil_iff];omega
  rw[this];exact⟨rfl,fun j x u h=>by simp at h⟩
 |cons f fs ihf=>
  intro off xs hc ho hm hf hle hT;simp only[AS,cH]at hc;have X5:=xP hc.1;rw[List.mapM_cons]at hm;simp only[Option.bind_eq_bind,T7,Option.pure_def,fY]at hm;obtain⟨x,hx,xs',OP,rfl⟩:=hm;obtain⟨pvs,p1,p2⟩:=ih _ _ _ (ho f af) hx (hf x af);have hlen:=p2.1;by_cases afp:off+P.cellsOf f.type<=total
  .obtain⟨parts,q1,q2,q3⟩:=ihf (off+P.cellsOf f.type) xs' hc.2 (fun g hg=>ho g (by simp[hg])) OP (fun y hy=>hf y (by simp[hy])) afp (fun _ _ _ _ _ _ _ _=>trivial);refine⟨pvs::parts,by simp[q1],fun i g y hi hy=>?_,?_⟩
   .cases i with
    |zero=>simp at hi hy;subst hi hy;exact p1
    |succ i=>exact q2 i g y (by simpa using hi) (by simpa using hy)
   have:cs.drop off=(cs.drop f.offset).take (P.cellsOf f.type)++cs.drop (off+P.cellsOf f.type):=by rw[X5,<-aap];exact(mU _ _).symm
   rw[this];simp only[mT];exact dJ.append p2 q3
  exfalso;have mono:∀(l:List Field) (o:Nat),AS P o total l=true->o<=total:=by
   intro l
   induction l with
   |nil=>intro o h;simp only[AS]at h;have:=xP h;omega
   |cons g l ihl=>intro o h;simp only[AS,cH]at h;have:=ihl _ h.2;omega
  exact afp (mono _ _ hc.2)
theorem au9{sz:Nat}{f:Nat->Value}:∀(es:s_) (rows:List (List Value)) (k:Nat),rows.length=es.length->(∀(i:Nat) (e:b_) (v:List Value),es[i]?=some e->rows[i]?=some v->dJ w (fun _=>False) e v/\v.length=sz/\ ∀j u,v[j]?=some u->f ((k+i)*sz+j)=u)->
  ∀(j:Nat) (x:PV),es.flatten[j]?=some x->cM w (fun _=>False) x (f (k*sz+j)):=by
 intro es
 induction es with
 |nil=>intro rows k _ _ j x h;simp at h
 |cons e es ih=>
  intro rows k hl h j x hx;cases rows with
  |nil=>simp at hl
  |cons v rows=>
   obtain⟨a1,a2,a3⟩:=h 0 e v rfl rfl;have dB:e.length=sz:=by rw[<-a2];exact a1.1.symm
   simp only[mT]at hx;by_cases hj:j<e.length
   .rw[xM hj]at hx;have hv:v[j]?=some v[j]:=by simp[show j<v.length by omega]
    have:=a3 j _ hv;simp only[vr]at this;rw[this];exact a1.2 j x _ hx hv
   rw[Aq aa]at hx;have:=ih rows (k+1) (by simpa using hl) (fun i e' v' h1 h2=>by have:=h (i+1) e' v' (by simpa using h1) (by simpa using h2);rw[show k+(i+1)=k+1+i by omega]at this;exact this) (j-e.length) x hx
   rw[show k*sz+j=(k+1)*sz+(j-e.length) by rw[gY];omega];exact this
theorem axg:∀(n fuel:Nat) (t:TypeId) (cs:List Value) (x:DataW H×List MemPlace),kn P n t=true->DataW.trod enc P w base sp held fuel t cs=some x->Fits N x.1->
  ∃pvs,kD P N n t pvs/\dJ w (fun _=>False) pvs cs:=by
 intro n
 induction n with
 |zero=>intro fuel t cs x h;simp[kn]at h
 |succ n ih=>
  intro fuel t cs x ay h hf;cases fuel with
  |zero=>simp[DataW.trod]at h
  |succ fuel=>
   rw[DataW.trod_step]at h;have one:∀ {p:PV}{v:Value},cM w (fun _=>False) p v->dJ w (fun _=>False) [p] [v]:=by
    intro p v hp;refine⟨rfl,fun j x u a b=>?_⟩;cases j with
    |zero=>simp at a b;subst a b;exact hp
    |succ j=>simp at a
   unfold DataW.trodStep at h;unfold kn at ay;split at h
   case h_1 b hu=>exact⟨[.bool b],by simp only[kD,hu];exact⟨b,rfl⟩,one (.bool b)⟩
   case h_2 k k' z hu=>
    split at h
    .rename_i hc;obtain⟨rfl,hwf⟩:=hc;exact⟨[.int k' z],by simp only[kD,hu];exact⟨z,rfl,hwf⟩,one (.int k' z)⟩
    cases h
   case h_4 s hu=>
    split at h
    .cases h;cases hf with
     |str _ hs=>exact⟨[.str s],by simp only[kD,hu];exact⟨s,rfl,by simpa using hs⟩,one (.str s)⟩
     |lit _ hs=>exact(hs _ rfl).elim
    cases h
   case h_7 e hu=>exact⟨[.sl []],by simp only[kD,hu];exact⟨[],rfl,bR _,fun x hx=>by simp at hx⟩,one (.Ah none 0 (fun _=>rfl) (bR _))⟩
   case h_8 e a len cap hu=>
    rw[hu]at ay;simp only[cH]at ay;obtain⟨jN,hoe⟩:=ay;have jN:0<P.cellsOf e:=by have:=jN;simp[Nat.blt]at this;omega
    simp only at h;split at h
    .rename_i hc;obtain⟨hb,hlc,zD⟩:=hc;simp only[dT,T7]at h;obtain⟨elems,he,rest,aqM,rfl⟩:=h;have hlen:elems.length=len:=by simpa using mapM_some_length he
     cases hf with
     |slice _ _ hl hfe=>
     simp only[cE]at hl;have get:∀i,i<len->∃y row pv,elems[i]?=some y/\w.cells? base (a.add (i*P.cellsOf e)) (P.cellsOf e)=some row/\kD P N n e pv/\dJ w (fun _=>False) pv row:=by intro i hi;have hg:=mapM_some_get he i i (by simp[hi]);have aA:i<elems.length:=aa;rw[rS aA]at hg;simp only[T7]at hg;obtain⟨row,h1,h2⟩:=hg;obtain⟨pv,p1,p2⟩:=ih _ _ _ _ hoe h2 (hfe _ (cJ.2 ⟨_,List.getElem_mem aA,rfl⟩));exact⟨_,row,pv,rS aA,h1,p1,p2⟩
     cases uT:len with
     |zero=>refine⟨[.sl []],by simp only[kD,hu];exact⟨[],rfl,bR _,fun x hx=>by simp at hx⟩,one (.Ah (some a) cap (fun h=>by cases h) zD)⟩
     |succ len'=>
      rw[<-uT];have h0:0<len:=aa;obtain⟨_,row0,_,_,vT,_,_⟩:=get 0 h0;have ha:a=⟨a.block,a.off,none⟩:=by
       have h1:a.add 0=a:=by unfold Addr.add;rw[aD rfl]
       rw[BE,h1]at vT;have:=((abJ vT).2 0 jN).1;rw[h1]at this;exact this
      have Yf:∀i,i<len->∃row pv,row.length=P.cellsOf e/\(∀j,j<P.cellsOf e->w.cell? ⟨a.block,a.off+(i*P.cellsOf e+j),none⟩=row[j]?)/\kD P N n e pv/\dJ w (fun _=>False) pv row:=by
       intro i hi;obtain⟨_,row,pv,_,h1,h2,h3⟩:=get i hi;obtain⟨l1,l2⟩:=abJ h1;refine⟨row,pv,l1,fun j hj=>?_,h2,h3⟩;have:=(l2 j hj).2;rw[<-this];have e2:a.add (i*P.cellsOf e)=⟨a.block,a.off+i*P.cellsOf e,none⟩:=by
        rw[ha];unfold Addr.add;split
        .rename_i h9;rw[h9];rfl
        rfl
       rw[e2];simp[EY]
      let row:Nat->List Value:=fun i=>if h:i<len then(Yf i h).choose else []
      let pv:Nat->b_:=fun i=>if h:i<len then(Yf i h).choose_spec.choose else []
      have OI:∀i,i<len->(row i).length=P.cellsOf e/\(∀j,j<P.cellsOf e->w.cell? ⟨a.block,a.off+(i*P.cellsOf e+j),none⟩=(row i)[j]?)/\kD P N n e (pv i)/\dJ w (fun _=>False) (pv i) (row i):=by intro i hi;simp only[row,pv,dif_pos hi];exact(Yf i hi).choose_spec.choose_spec
      let es:=(List.range len).map pv
      have Rz:es.length=len:=by simp[es]
      have Ed:∀(i:Nat) (x:b_),es[i]?=some x->i<len/\x=pv i:=by
       intro i x hx;have hi:i<len:=by rw[<-Rz];exact(aT.1 hx).1
       refine⟨hi,?_⟩;simp only[es,fG,vp hi,nK,fY]at hx;exact hx.symm
      let f:Nat->Value:=fun j=>(w.cell? ⟨a.block,a.off+j,none⟩).getD undef
      refine⟨[.sl es],?_,one ?_⟩
      .simp only[kD,hu];refine⟨es,rfl,aa,fun x hx=>?_⟩;obtain⟨i,hi⟩:=gV hx;obtain⟨h1,rfl⟩:=Ed i x hi;exact(OI i h1).2.2.1
      rw[ha];have cT:∀x∈es,x.length=P.cellsOf e:=by intro x hx;obtain⟨i,hi⟩:=gV hx;obtain⟨h1,rfl⟩:=Ed i x hi;have:=(OI i h1).2.2.2.1;rw[<-this];exact(OI i h1).1
      have eQ:=au9 (w:=w) (sz:=P.cellsOf e) (f:=f) es ((List.range len).map row) 0 (by simp[Rz]) (fun i x v h1 h2=>by
       obtain⟨hi,rfl⟩:=Ed i x h1;simp only[fG,vp hi,nK,fY]at h2;subst h2;obtain⟨s1,s2,s3,s4⟩:=OI i hi;refine⟨s4,s1,fun j u hu=>?_⟩;have hj:j<P.cellsOf e:=by rw[<-s1];exact(aT.1 hu).1
       simp only[f,jx];rw[s2 j hj,hu];rfl)
      simp only[BE,jx]at eQ;have zK:∀(l:s_),(∀x∈l,x.length=P.cellsOf e)->l.flatten.length=l.length*P.cellsOf e:=by
       intro l
       induction l with
       |nil=>intro _;simp
       |cons x l ihl=>intro hx;simp only[mT,fS,dI];rw[hx x af,ihl (fun y hy=>hx y (by simp[hy])),gY];omega
      refine Rz▸cM.sl a.block a.off cap (P.cellsOf e) f (fun _ h=>h) aa zD cT (fun j x hx=>?_) eQ;have hj:j<len*P.cellsOf e:=by have:=(aT.1 hx).1;rw[zK es cT,Rz]at this;exact this
      have hi:j/P.cellsOf e<len:=Nat.div_lt_of_lt_mul (by rw[T6];exact hj);obtain⟨s1,s2,s3,s4⟩:=OI _ hi;have hm:j%P.cellsOf e<P.cellsOf e:=de _ jN;have:=s2 _ hm;rw[show j/P.cellsOf e*P.cellsOf e+j%P.cellsOf e=j by rw[T6];exact akF j _]at this;have Yi:(row (j/P.cellsOf e))[j%P.cellsOf e]?=some (row (j/P.cellsOf e))[j%P.cellsOf e]:=by simp[s1,hm]
      rw[Yi]at this;simp only[f,this,oE]
    cases h
   case h_9=>
    rename_i fs hu;rw[hu]at ay;simp only[cH]at ay;split at h
    .rename_i hc;simp only[dT]at h;obtain⟨xs,hx,rfl⟩:=h;cases hf with
     |agg _ hfe=>
     obtain⟨parts,p1,p2,p3⟩:=aoH (r:=DataW.trod enc P w base sp held fuel) (n:=n) (fun t cs x h1 h2 h3=>ih _ _ _ _ h1 h2 h3) hc fs.toList 0 xs ay.1 (fun f hf=>gk.1 ay.2 f hf) hx (fun y hy=>hfe _ (cJ.2 ⟨y,hy,rfl⟩)) (bR _) (fun _ _ _ _ _ _ _ _=>trivial);refine⟨parts.flatten,by simp only[kD,hu];exact⟨parts,rfl,p1,p2⟩,?_⟩
     simpa using p3
    cases h
   all_goals(first|(cases h;done)|(simp_all;done)|(exfalso;simp_all;done))
end
end
end Go.Abs
namespace Go.Abs
variable {H:Type} {enc:TypeId×Value->H} {P:Program} {w:World} {N:Nat}
theorem anm:∀(fs:List Field) (off total:Nat),AS P off total fs=true->total=off+(fs.map fun f=>P.cellsOf f.type).sum/\ ∀(j:Nat) (f:Field),fs[j]?=some f->f.offset=off+((fs.take j).map fun f=>P.cellsOf f.type).sum:=by
 intro fs
 induction fs with
 |nil=>intro off total h;simp only[AS]at h;have:=xP h;exact⟨by simp;omega,fun j f h=>by simp at h⟩
 |cons f fs ih=>
  intro off total h;simp only[AS,cH]at h;have h0:=xP h.1;obtain⟨i1,i2⟩:=ih _ _ h.2;refine⟨by simp;omega,fun j g hg=>?_⟩;cases j with
  |zero=>simp at hg;subst hg;simp;omega
  |succ j=>have:=i2 j g (by simpa using hg);simp only[aaD,ek,Mj];omega
theorem arx:Kids P (fun t=>∃n,kn P n t=true):=by
 have un:∀ {t:TypeId},(∃n,kn P n t=true)->∃n,kn P (n+1) t=true:=by
  rintro t ⟨n,h⟩
  cases n with
  |zero=>simp[kn]at h
  |succ n=>exact⟨n,h⟩
 refine⟨fun ht hu=>?_,fun ht hu=>?_,fun ht hu=>?_,fun ht hu=>?_,fun ht hu=>?_⟩
 .obtain⟨n,h⟩:=un ht;simp[kn,hu]at h
 .obtain⟨n,h⟩:=un ht;simp only[kn,hu,cH]at h;exact⟨n,h.2⟩
 .obtain⟨n,h⟩:=un ht;simp[kn,hu]at h
 .obtain⟨n,h⟩:=un ht;simp only[kn,hu,cH]at h;obtain⟨c1,c2⟩:=anm _ _ _ h.1;refine⟨fun f hf=>⟨n,gk.1 h.2 f hf⟩,by rw[c1];simp,fun j f hj=>by rw[c2 j f hj];simp⟩
 obtain⟨n,h⟩:=un ht;simp[kn,hu]at h
theorem axe{w':World}{IK:Nat->Bool}{t:TypeId}{v:Value}{d:DataW H}{ps:List MemPlace}(hk:∃n,kn P n t=true)(h:DataW.Trod enc P w 0 (fun _=>true) true t v d ps)
  (Co:∀p∈ps,w.sameAt w' p) (hs:∀p∈ps,IK p.block=true):DataW.Trod enc P w' 0 IK true t v d ps:=by
 obtain⟨fuel,h⟩:=h;refine⟨fuel,DataW.trod_stays (T:=fun t=>∃n,kn P n t=true) arx ?_ (fun h=>by cases h) hk h Co hs⟩;rintro t e ⟨n,h⟩ hu
 cases n with
 |zero=>simp[kn]at h
 |succ n=>simp only[kn,hu,cH]at h;have:=h.1;simp[Nat.blt]at this;omega
theorem axd{w':World}{IK:Nat->Bool}:∀ {ts:List TypeId}{vs:List Value}{ds:List (DataW H)}{ps:List MemPlace},(∀t∈ts,∃n,kn P n t=true)->DataW.TrodAll enc P w 0 (fun _=>true) true ts vs ds ps->
  (∀p∈ps,w.sameAt w' p)->(∀p∈ps,IK p.block=true)->DataW.TrodAll enc P w' 0 IK true ts vs ds ps:=by
 intro ts
 induction ts with
 |nil=>intro vs ds ps _ h _ _;cases vs<;>cases ds<;>exact h
 |cons t ts ih=>
  intro vs ds ps hk h kM fO;cases vs with
  |nil=>exact h.elim
  |cons v vs=>
   cases ds with
   |nil=>exact h.elim
   |cons d ds=>obtain⟨p,q,h1,h2,rfl⟩:=h;exact⟨p,q,axe (hk t af) h1 (fun x hx=>kM x (by simp[hx])) (fun x hx=>fO x (by simp[hx])),ih (fun t ht=>hk t (by simp[ht])) h2 (fun x hx=>kM x (by simp[hx])) (fun x hx=>fO x (by simp[hx])),rfl⟩
def Dt(P:Program)(t:TypeId)(ps:b_):V:=
 match P.underlying t with
 |some (.struct _)=>.agg (ps.map .p)
 |_=>match ps with
  |[x]=>.one (.p x)
  |_=>.undef
theorem alF{r:Reach}{b0 n:Nat}{sp:Nat->Bool}{held:Bool}{t:TypeId}{v:Value}{d:DataW H}{ps:List MemPlace}(hk:kn P n t=true)(hval:Value.okWide P w r b0 t v)(h:DataW.Trod enc P w 0 sp held t v d ps)(hf:Fits N d):
  ∃pvs,kD P N n t pvs/\tK w (fun _=>False) (Dt P t pvs) v:=by
 obtain⟨fuel,h⟩:=h;obtain⟨pvs,h1,h2⟩:=axg n fuel t _ _ hk h hf;refine⟨pvs,h1,?_⟩;cases n with
 |zero=>simp[kn]at hk
 |succ n=>
  have one:∀x:PV,pvs=[x]->(∀cs,v≠ .agg cs)->cM w (fun _=>False) x v:=by
   rintro x rfl aH
   have:v.cells.toList=[v]:=by
    cases v<;>first
     |rfl
     |exact(aH _ rfl).elim
   rw[this]at h2;exact h2.2 0 x v rfl rfl
  have nagg:∀ {k:TypeDesc},P.underlying t=some k->(∀fs,k≠ .struct fs)->(∀a b,k≠ .array a b)->∀cs,v≠ .agg cs:=by
   rintro k hu df jr cs rfl
   unfold Value.okWide at hval;rw[hu]at hval;cases k<;>simp_all[Cell.okWide,Cell.ok]
  simp only[kD]at h1;unfold Dt;cases hu:P.underlying t with
  |none=>rw[hu]at h1;exact h1.elim
  |some k=>
   rw[hu]at h1;cases k<;>simp only at h1<;>try exact h1.elim
   case bool=>obtain⟨b,rfl⟩:=h1;exact one _ rfl (nagg hu af af)
   case int k=>obtain⟨b,rfl,_⟩:=h1;exact one _ rfl (nagg hu af af)
   case string=>obtain⟨b,rfl,_⟩:=h1;exact one _ rfl (nagg hu af af)
   case slice e=>obtain⟨es,rfl,_⟩:=h1;exact one _ rfl (nagg hu af af)
   case struct fs=>unfold Value.okWide at hval;rw[hu]at hval;simp only at hval;obtain⟨cs,rfl,cT,_⟩:=hval;exact⟨cs,pvs,rfl,rfl,h2⟩
def Qc(P:Program)(N n:Nat):List TypeId->s_->Prop
 |[],[]=>True
 |t::ts,p::ps=>kD P N n t p/\Qc P N n ts ps
 |_,_=>False
def Du(P:Program):List TypeId->s_->e_
 |t::ts,p::ps=>Dt P t p::Du P ts ps
 |_,_=>[]
theorem alL{r:Reach}{b0 n:Nat}{sp:Nat->Bool}{held:Bool}:∀ {ts:List TypeId}{vs:List Value}{ds:List (DataW H)}{ps:List MemPlace},(∀t∈ts,kn P n t=true)->(∀(j:Nat) t v,ts[j]?=some t->vs[j]?=some v->Value.okWide P w r b0 t v)->
  DataW.TrodAll enc P w 0 sp held ts vs ds ps->(∀d∈ds,Fits N d)->∃pvss,Qc P N n ts pvss/\Pw (tK w (fun _=>False)) (Du P ts pvss) vs:=by
 intro ts
 induction ts with
 |nil=>
  intro vs ds ps _ _ h _;cases vs with
  |nil=>exact⟨[],trivial,rfl,fun j x u h=>by simp[Du]at h⟩
  |cons v vs=>cases ds<;>exact h.elim
 |cons t ts ih=>
  intro vs ds ps hk hv h hf;cases vs with
  |nil=>exact h.elim
  |cons v vs=>
   cases ds with
   |nil=>exact h.elim
   |cons d ds=>
    obtain⟨p,q,h1,h2,rfl⟩:=h;obtain⟨x,a1,a2⟩:=alF (hk t af) (hv 0 t v rfl rfl) h1 (hf d af);obtain⟨xs,b1,b2,b3⟩:=ih (fun t ht=>hk t (by simp[ht])) (fun j t v e1 e2=>hv (j+1) t v (by simpa using e1) (by simpa using e2)) h2 (fun d hd=>hf d (by simp[hd]));refine⟨x::xs,⟨a1,b1⟩,by simpa [Du]using b2,fun j y u e1 e2=>?_⟩;cases j with
    |zero=>simp[Du]at e1 e2;subst e1 e2;exact a2
    |succ j=>exact b3 j y u (by simpa [Du]using e1) (by simpa using e2)
end Go.Abs
namespace Go.Abs
open Go.RowKit
theorem fU.as5(w:World)(k:Nat)(os:Array Obj):fU w (Go.Sort.grow (w.drewN k) os):=
 ⟨rfl,rfl,rfl,by simp[Go.Sort.grow,World.drewN],fun c hc=>by simp[Go.Sort.grow,World.drewN,akl,hc]⟩
theorem Pg{w w':World}{O:Nat->Prop}{x:PV}{v:Value}(hg:fU w w')(h:cM w' O x v):wL w O (.one (.p x)) (.returned v) w':=
 ⟨v,[],rfl,hg,xO,fun c hc=>by simp at hc,[v],rfl,v,[],rfl,h.mono fun c _ hn=>⟨rfl,fun hq=>hn (hq.elim id fun h=>by simp at h)⟩,rfl,rfl⟩
theorem pw1{w:World}{O:Nat->Prop}{x:PV}{args:Array Value}(h:Pw (tK w O) [.one (.p x)] args.toList):∃v,args= #[v]/\cM w O x v:=by
 obtain⟨h1,h2⟩:=h;obtain⟨l⟩:=args
 match l,h1 with
 |[v],_=>exact⟨v,rfl,h2 0 _ v rfl rfl⟩
theorem acN{w:World}{O:Nat->Prop}{v:Value}(h:cM w O (.sl []) v):∃a cap,v=.slice a 0 cap/\(a=none->cap=0)/\cap<=maxLen:=by
 generalize hx:PV.sl []=x at h;cases h<;>cases hx
 .exact⟨_,_,rfl,by assumption,by assumption⟩
 exact⟨_,_,rfl,fun h=>by simp at h,by assumption⟩
theorem ahn{w:World}{O:Nat->Prop}{a:Option Addr}{cap:Nat}(h:a=none->cap=0)(hm:cap<=maxLen):cM w O (.sl []) (.slice a 0 cap):=.Ah a cap h hm
def sV:Nat->Nat->p_->p_
 |0,_,acc=>acc
 |k+1,u,acc=>bif Nat.blt u 10 then UInt8.ofNat (Nat.add 48 u)::acc else sV k (Nat.div u 10) (UInt8.ofNat (Nat.add 48 (Nat.mod u 10))::acc)
theorem acw:∀(k u:Nat) (acc:p_),u<10 ^ (k+1)->sV (k+1) u acc=Lib.decDigits u++acc:=by
 intro k
 induction k with
 |zero=>
  intro u acc h;have h:u<10:=by simpa using h
  unfold Lib.decDigits;have hb:Nat.blt u 10=true:=T5 h;simp only[sV,hb,cond_true,dif_pos h];rfl
 |succ k ih=>
  intro u acc h;rw[Lib.decDigits,sV];by_cases h0:u<10
  .have hb:Nat.blt u 10=true:=T5 h0;simp only[hb,cond_true,dif_pos h0];rfl
  have hb:Nat.blt u 10=false:=by
   cases e:Nat.blt u 10 with
   |false=>rfl
   |true=>exact(h0 (iH e)).elim
  simp only[hb,cond_false,dif_neg h0];have:(Nat.div u 10)<10 ^ (k+1):=by have e:Nat.div u 10=u/10:=rfl;rw[e];have:10 ^ (k+1+1)=10 ^ (k+1)*10:=Nat.pow_succ ..;omega
  rw[ih _ _ this];simp only[wH,List.singleton_append];rfl
def lB(n:Int):ByteArray:=⟨(match n with| .ofNat u=>sV 20 u []| .negSucc u=>45::sV 20 (Nat.succ u) []).toArray⟩
theorem aro(n:Int)(h0: -9223372036854775808<=n)(h1:n<=9223372036854775807):lB n=⟨(Lib.itoa n).toArray⟩:=by
 unfold lB Lib.itoa;cases n with
 |ofNat u=>have:¬(Int.ofNat u<0):=af;rw[au this];simp only;rw[acw 19 u [] (by simp at h1;omega)];simp
 |negSucc u=>have:Int.negSucc u<0:=Int.negSucc_lt_zero u;rw[aD this];simp only;rw[acw 19 (Nat.succ u) [] aa];simp[Int.natAbs]
def S1(args:e_):Option RV:=
 match args with
 |[.one (.p (.int .i64 n))]=>if -9223372036854775808<=n/\n<=9223372036854775807 then some (.one (.p (.str (lB n))))else none
 |_=>none
theorem aus{P:Program}{f:Nat}{nm:String}{G:World->Prop}{args:e_}{r:RV}(hG:∀w,G w->Lib.TabIs P w nm .u64 Lib.pow10Tab)
  (hf:∀(n:Int),-9223372036854775808<=n->n<=9223372036854775807->∀w:World,Lib.TabIs P w nm .u64 Lib.pow10Tab->Calls P f #[.int .i64 n] w fun e w'=>e=.returned (.string ⟨(Lib.itoa n).toArray⟩)/\ ∃k os,w'=Go.Sort.grow (w.drewN k) os)
  (h:S1 args=some r):∀(w:World) (O:Nat->Prop) (as:Array Value),Good G w->Pw (tK w O) args as.toList->Calls P f as w (wL w O r):=by
 intro w O as hg ha;unfold S1 at h;split at h
 .rename_i n;split at h
  .rename_i hr;cases h;obtain⟨v,rfl,hp⟩:=pw1 ha;generalize hx:PV.int .i64 n=x at hp;cases hp<;>cases hx
   refine(hf n hr.1 hr.2 w (hG w hg.1)).mono ?_;rintro e w' ⟨rfl,k,os,rfl⟩
   rw[aro n hr.1 hr.2];exact Pg (fU.as5 _ _ _) (.str _)
  cases h
 cases h
def Ph(args:e_):Option RV:=
 match args with
 |[.one (.p (.int .u64 n))]=>if 0<=n/\n<=18446744073709551615 then some (.one (.p (.int .i64 (Lib.bitLen n.toNat))))else none
 |_=>none
theorem aup{P:Program}{f:Nat}{args:e_}{r:RV}(hf:∀(x:Int) (w:World),0<=x->x<=18446744073709551615->Calls P f #[.int .u64 x] w fun e w'=>e=.returned (.int .i64 (Lib.bitLen x.toNat))/\w'=w)
  (h:Ph args=some r):∀(w:World) (O:Nat->Prop) (as:Array Value),Pw (tK w O) args as.toList->Calls P f as w (wL w O r):=by
 intro w O as ha;unfold Ph at h;split at h
 .rename_i n;split at h
  .rename_i hr;cases h;obtain⟨v,rfl,hp⟩:=pw1 ha;generalize hx:PV.int .u64 n=x at hp;cases hp<;>cases hx
   refine(hf n w hr.1 hr.2).mono ?_;rintro e w' ⟨rfl,rfl⟩
   exact Pg (fU.refl _) (.int _ _)
  cases h
 cases h
def SY(args:e_):Option (Option RV):=
 match args with
 |[.one (.p (.sl []))]=>some (some (.one (.p (.sl []))))
 |_=>none
theorem aur{S:Sys}{G:World->Prop}(hS:Jn S G){f n:Nat}{z i g z':Nat}{fn:bd}{ao:aC}(hfn:S.fns f=some fn)(h1:hU S n f [.one (.p .nils)]=some (.one (.p .nils)))
  (h2:ia S n f [.one (.hsl 0 0 z 0 0)] .all xx=some (.one (.hsl i g z' 0 0),ao)) {args:e_}{r:RV} (h:SY args=some (some r)):
  ∀(w:World) (O:Nat->Prop) (as:Array Value),Good G w->(∀c,O c->c<w.heap.size)->Pw (tK w O) args as.toList->Calls S.P f as w (wL w O r):=by
 intro w O as hg hO ha;unfold SY at h;split at h
 .cases h;obtain⟨v,rfl,hp⟩:=pw1 ha;obtain⟨a,cap,rfl,hn,hm⟩:=acN hp;cases a with
  |none=>
   obtain rfl:=hn rfl;refine((sound hS n).1 f _ _ h1 |>.2 w O #[.slice none 0 0] hg hO ⟨rfl,fun j x u p q=>?_⟩).mono ?_
   .cases j with
    |zero=>simp at p q;subst p q;exact cM.nils
    |succ j=>simp at p
   rintro e w' ⟨val,bs,rfl,te,gI,mL,vs,q1,q2⟩
   obtain⟨v0,nZ,e1,e2,e3,e4⟩:=q2;have hq1:vs=[val]:=q1;subst hq1;cases e1;subst e4;cases e2;exact Pg te (ahn (fun _=>rfl) (bR _))
  |some a=>
   let m0:Mem:=⟨w,xx,fun _=>0,fun _=>0,O⟩
   have ay:Ok w m0:=⟨rfl,rfl,rfl,bY _,fun _ _=>rfl,(fun id o h=>by cases h),(fun id o h=>by cases h),hO,(fun id fy o o' h=>by cases h)⟩;refine(((sound hS n).2.1 f _ _ _ _ _ h2).2 w m0 #[.slice (some a) 0 cap] hg ay rfl ⟨rfl,fun j x u p q=>?_⟩).mono ?_
   .cases j with
    |zero=>simp at p q;subst p q;exact dq.hsl a cap (bR _) (bR _) hm (fun sz _ h=>by cases h)
    |succ j=>simp at p
   rintro e w' ⟨val,m',rfl,rfl,q1,q2,q3,q4,q5⟩
   have hq:dq m' (.hsl i g z' 0 0) val:=q5;cases hq with
   |hsl a2 cap2 _ _ vR _=>
    refine Pg ⟨q2.os,q2.tape,q2.output,q2.size,fun c hc=>q2.keep c hc ?_⟩ (ahn (fun h=>by cases h) vR);rintro⟨id,o,h,_⟩
    cases h
 cases h
def SZ(args:e_):Option (Option RV):=
 match args with
 |[.one (.p (.sl []))]=>some (some (.one (.p .zs)))
 |_=>none
theorem auq{P:Program}{G:World->Prop}{f:Nat}(h1:∀(w:World) (a:Option Addr) (c:Nat),Calls P f #[.slice a 0 c] w fun e w'=>∃b,e=.returned (.slice b 0 0)/\fU w w'){args:e_}{r:RV}(h:SZ args=some (some r)):
  ∀(w:World) (O:Nat->Prop) (as:Array Value),Good G w->(∀c,O c->c<w.heap.size)->Pw (tK w O) args as.toList->Calls P f as w (wL w O r):=by
 intro w O as hg hO ha;unfold SZ at h;split at h
 .cases h;obtain⟨v,rfl,hp⟩:=pw1 ha;obtain⟨a,cap,rfl,hn,hm⟩:=acN hp;refine(h1 w a cap).mono ?_;rintro e w' ⟨b,rfl,te⟩
  exact Pg te (cM.zs b)
 cases h
end Go.Abs
namespace Go.Abs
open Go.RowKit Go.WideShapes Go.ChangeShapes
section
variable {H:Type} {enc:TypeId×Value->H} {P:Program} {w:World} {base:Nat} {sp:Nat->Bool} {held:Bool}
theorem axf:∀(n fuel:Nat) (t:TypeId) (cs:List Value) (x:DataW H×List MemPlace),kn P n t=true->DataW.trod enc P w base sp held fuel t cs=some x->Fits maxLen x.1:=by
 intro n
 induction n with
 |zero=>intro fuel t cs x h;simp[kn]at h
 |succ n ih=>
  intro fuel t cs x ay h;cases fuel with
  |zero=>simp[DataW.trod]at h
  |succ fuel=>
   rw[DataW.trod_step]at h;unfold DataW.trodStep at h;unfold kn at ay;split at h
   case h_1=>cases h;exact .lit _ (fun s h=>by cases h)
   case h_2=>
    split at h
    .cases h;exact .lit _ (fun s h=>by cases h)
    cases h
   case h_4=>
    split at h
    .rename_i hs;cases h;exact .str _ (by simpa using hs)
    cases h
   case h_7=>cases h;exact .nil
   case h_8 e a len cap hu=>
    rw[hu]at ay;simp only[cH]at ay;simp only at h;split at h
    .rename_i hc;simp only[dT,T7]at h;obtain⟨elems,he,rest,aqM,rfl⟩:=h;have hlen:elems.length=len:=by simpa using mapM_some_length he
     refine .slice _ _ (by simp;omega) (fun d hd=>?_);obtain⟨y,hy,rfl⟩:=cJ.1 hd;obtain⟨i,_,hi⟩:=mapM_mem_of he y hy;simp only[T7]at hi;obtain⟨row,_,h2⟩:=hi;exact ih _ _ _ _ ay.2 h2
    cases h
   case h_9=>
    rename_i fs hu;rw[hu]at ay;simp only[cH]at ay;split at h
    .simp only[dT]at h;obtain⟨xs,hx,rfl⟩:=h;refine .agg _ (fun d hd=>?_);obtain⟨y,hy,rfl⟩:=cJ.1 hd;obtain⟨f,hf,hi⟩:=mapM_mem_of hx y hy;exact ih _ _ _ _ (gk.1 ay.2 f hf) hi
    cases h
   all_goals(first|(cases h;done)|(simp_all;done)|(exfalso;simp_all;done))
theorem ajT{n:Nat}:∀ {ts:List TypeId}{vs:List Value}{ds:List (DataW H)}{ps:List MemPlace},(∀t∈ts,kn P n t=true)->DataW.TrodAll enc P w base sp held ts vs ds ps->(∀d∈ds,Fits maxLen d)/\ds.length=ts.length:=by
 intro ts
 induction ts with
 |nil=>
  intro vs ds ps _ h;cases vs<;>cases ds<;>first
   |exact h.elim
   |exact⟨fun d hd=>by simp at hd,rfl⟩
 |cons t ts ih=>
  intro vs ds ps hk h;cases vs with
  |nil=>exact h.elim
  |cons v vs=>
   cases ds with
   |nil=>exact h.elim
   |cons d ds=>
    obtain⟨p,q,⟨fuel,h1⟩,h2,rfl⟩:=h;obtain⟨i1,i2⟩:=ih (fun t ht=>hk t (by simp[ht])) h2;refine⟨fun x hx=>?_,by simp[i2]⟩;rcases bJ.1 hx with rfl|hx
    .exact axf n fuel t _ _ (hk t af) h1
    exact i1 x hx
end
section
variable {H:Type} {enc:TypeId×Value->H} {P:Program}
theorem aum{f:Func}{s:ChangeSpec}{apart fresh handsOn again:Bool}{W W':World}{args:Array Value}{v:Value}{ds gs:List (DataW H)}{before pa pv:List MemPlace}
  (hW:DataW.Whole enc P f.params.toList s.vars apart W args.toList ds gs before)
  (Cn:∀(b:Nat) (sp:Nat->Bool) (hd:Bool),DataW.TrodAll enc P W' b sp hd f.resultTypes.toList (v.resultList f.resultTypes.size) (s.fn H (ds++gs)).results [])
  (DX:∀sp:Nat->Bool,(∀p∈before,sp p.block=true)->DataW.TrodAll enc P W' 0 sp true f.params.toList args.toList (s.fn H (ds++gs)).args pa)
  (OM:∀sp:Nat->Bool,(∀p∈before,sp p.block=true)->DataW.TrodVars enc P W' sp s.vars (s.fn H (ds++gs)).vars pv)
  (dS:before=pa++pv) (hb:Below W.heap.size W W')
  (ay:∀(j:Nat) (t:TypeId) (r:Value),f.resultTypes[j]?=some t->(v.resultList f.resultTypes.size)[j]?=some r->Value.okWide P W' .any 0 t r):
  s.post enc P f apart fresh handsOn again W args v W':=by
 have aA:∀p∈before,p.block<W.heap.size:=fun p hp=>hW.lt p hp;have hold:∀p∈before,(fun b=>decide (b<W.heap.size)) p.block=true:=fun p hp=>by simpa using aA p hp
 refine⟨ds,gs,before,[],pa,pv,hW,Cn _ _ _,DX _ hold,OM _ hold,World.keptBut_mono (fun p hp=>⟨hp,?_⟩) (hb.frame (· ∈before)),fun _=>?_⟩
 .rw[dS,eO]at hp;exact Or.inr hp
 obtain⟨_,_,_,_,_,hz,hn⟩:=hW;refine⟨ay,_,_,([]++pa)++pv,⟨[]++pa,pv,trodAll_append (DX _ (fun _ _=>rfl)) (Cn _ _ _),OM _ (fun _ _=>rfl),rfl,?_,?_⟩,?_⟩
 .intro b off hp;have jL:MemPlace.cell b off∈before:=by rw[dS];simpa using hp
  rw[hb.frozen (aA _ jL)];exact hz b off jL
 .intro ha;have:=hn ha;rw[dS]at this
  simpa using this
 intro p hp _;rw[dS]
 simpa using hp
end
theorem FP{P:Program}{N n:Nat}{t:TypeId}{k:IntKind}{p:b_}(hu:P.underlying t=some (.int k))(h:kD P N (n+1) t p):∃z,p=[.int k z]/\(Lit.int k z).wf=true:=by simp only[kD,hu]at h;exact h
theorem apJ{P:Program}{N n:Nat}{t:TypeId}{p:b_}(hu:P.underlying t=some .bool)(h:kD P N (n+1) t p):∃b,p=[.bool b]:=by simp only[kD,hu]at h;exact h
theorem apK{P:Program}{N n:Nat}{t e:TypeId}{p:b_}(hu:P.underlying t=some (.slice e))(h:kD P N (n+1) t p):∃es,p=[.sl es]/\es.length<=N/\ ∀x∈es,kD P N n e x:=by simp only[kD,hu]at h;exact h
theorem alD{P:Program}{t:TypeId}{k:TypeDesc}{x:PV}(hu:P.underlying t=some k)(hk:∀fs,k≠ .struct fs):Dt P t [x]=.one (.p x):=by
 unfold Dt;rw[hu];cases k<;>first
  |rfl
  |exact(hk _ rfl).elim
theorem alE{P:Program}{t:TypeId}{fs:Array Field}{x:b_}(hu:P.underlying t=some (.struct fs)):Dt P t x=.agg (x.map .p):=by unfold Dt;rw[hu]
theorem arI{S:Sys}{G:World->Prop}(hS:Jn S G)(N7:∀w,G w->Good G w){fn:Func}{s:ChangeSpec}{f n N:Nat}{handsOn again fresh apart:Bool}(OM:s.vars=[])
  (hfn:∀(H:Type) (ds:List (DataW H)),ds.length=fn.params.toList.length->s.fn H ds={results:=[.lit (.bool true)],args:=ds}) {tb:TypeId} (Cn:fn.resultTypes= #[tb]) (htb:S.P.underlying tb=some .bool)
  (hk:∀t∈fn.params.toList,kn S.P n t=true) (law:∀pvss,Qc S.P N n fn.params.toList pvss->aK S f (Du S.P fn.params.toList pvss) (.one (.p (.bool true))))
  {H:Type}{enc:TypeId×Value->H}{W:World}{base:Nat}{args:Array Value}{ds gs:List (DataW H)}{before:List MemPlace}
  (hval:∀(j:Nat) t v,fn.params[j]?=some t->args[j]?=some v->Value.okWide S.P W .any base t v)
  (hW:DataW.Whole enc S.P fn.params.toList s.vars apart W args.toList ds gs before) (hG:G W) (hfit:∀d∈ds,Fits N d):
  Calls S.P f args W fun e W'=>∃v,e=.returned v/\s.post enc S.P fn apart fresh handsOn again W args v W':=by
 have hW':=hW;obtain⟨p,q,hA,hV,rfl,hfz,gI⟩:=hW;rw[OM]at hV;obtain⟨rfl,rfl⟩:=trodVars_none hV;obtain⟨_,hlen⟩:=ajT hk hA;obtain⟨pvss,h1,h2⟩:=alL (r:=.any) (b0:=base) hk (fun j t v a b=>hval j t v (by simpa using a) (by simpa using b)) hA hfit;refine((law pvss h1).calls hS W (N7 W hG) args h2).mono ?_;rintro e W' ⟨val,bs,rfl,hg,_,_,vs,q1,q2⟩
 obtain⟨v0,nZ,e1,e2,e3,e4⟩:=q2;have hq1:vs=[val]:=q1;subst hq1;cases e1;have hv:val=.bool true:=by
  generalize hx:PV.bool true=x at e2;cases e2<;>cases hx
  rfl
 subst hv;have hb:Below W.heap.size W W':=⟨hg.os,hg.tape,hg.output,hg.size,hg.keep⟩;have aA:∀x∈p++[],x.block<W.heap.size:=fun x hx=>hW'.lt x hx;refine⟨_,rfl,aum (pa:=p) (pv:=[]) hW' ?_ ?_ ?_ rfl hb ?_⟩
 .intro b sp hd;rw[jG,hfn H ds hlen,Cn];exact trodAll_cons_mk (shut_bool htb _) trodAll_mk0
 .intro IK pW;rw[jG,hfn H ds hlen];exact axd (fun t ht=>⟨n,hk t ht⟩) hA (fun x hx=>hb.same (aA x (by simpa using hx))) (fun x hx=>pW x (by simpa using hx))
 .intro IK pW;rw[jG,hfn H ds hlen,OM];rfl
 exact ok_one Cn rfl (okWide_bool_mk htb _)
end Go.Abs
namespace Go.Abs
theorem aiu(ak:Env)(t:Nat)(v:V):put ak (some t) v=eh ak t v:=rfl
theorem ais(ak:Env)(v:V):put ak none v=ak:=rfl
theorem acZ(ak:Env)(n:Nat):ev ak (.t n)=ak n:=rfl
theorem acX(ak:Env)(n:Int):ev ak (.i n)=.one (.p (.int .i64 n)):=rfl
theorem acW(ak:Env)(x:Bool):ev ak (.b x)=.one (.p (.bool x)):=rfl
theorem acY(ak:Env)(v:V):ev ak (.k v)=v:=rfl
theorem afN(a:V)(l:e_):tv (a::l) 0=a:=rfl
theorem afM(a:V)(l:e_)(n:Nat):tv (a::l) (n+1)=tv l n:=rfl
def GA(v:V)(want:Bool):Option Bool:=match v with
 | .one (.p (.bool b))=>some (b==want)
 | .undef=>some false
 |_=>none
theorem aj9(b want:Bool):GA (.one (.p (.bool b))) want=some (b==want):=rfl
theorem aka(want:Bool):GA .undef want=some false:=rfl
section
variable {S:Sys} {al:Al} {o:bQ} {ak:Env} {aj:aC} {tr:i_} {K:Env->aC->i_->Prop} {d:w_}
theorem abz{id:Nat}{Q:dX}:mY id Q .normal ak aj=Q .normal ak aj:=rfl
theorem abA{id:Nat}{Q:dX}:mY id Q .ret ak aj=Q .ret ak aj:=rfl
theorem aby{id i:Nat}{Q:dX}:mY id Q (.exit i) ak aj=if i=id then Q .normal ak aj else Q (.exit i) ak aj:=rfl
end
def WN (S:Sys)(al:Al)(ops:h_)(Q:Env->aC->Prop)(ak:Env)(aj:aC):Prop:=∀tr,WO S al ops (fun ak aj _=>Q ak aj) ak aj tr
def Ki(S:Sys)(al:Al)(p:fL)(d:w_)(ak:Env)(aj:aC)(K:Env->aC->Prop):Prop:=
 match p with
 | .fail=>False
 | .done v u r=>al.fQ (r++u.map (·.1))=true/\K (put ak d v) (app u aj)
 | .pc f vs r s=>∃x,aK S f vs x/\match land aj r s (x.gj (S.lone s))with
  |some (v,u)=>al.fQ (r++u.map (·.1))=true/\K (put ak d v) (app u aj)
  |none=>False
 | .sc f vs=>al.holds (allow (S.ctx al) f vs aj)=true/\ ∃v ao,jg S f vs (allow (S.ctx al) f vs aj) aj v ao/\K (put ak d v) ao
def Ro(S:Sys)(al:Al)(w:Option Bool)(o:bQ)(ak:Env)(aj:aC)(K:Env->aC->Prop):Prop:=
 match w with
 |none=>False
 |some false=>K (put ak o.dst .undef) aj
 |some true=>Ki S al (bN S.shared ak aj o.op) o.dst ak aj K
section
variable {S:Sys} {al:Al} {ak:Env} {aj:aC}
theorem akV{ops:h_}{R R':Env->aC->Prop}{tr tr':i_}(h:WO S al ops (fun ak aj _=>R ak aj) ak aj tr)(hR:∀e b,R e b->R' e b):WO S al ops (fun ak aj _=>R' ak aj) ak aj tr':=by obtain⟨n,e,b,es,h1,h2⟩:=h;exact⟨n,e,b,es,h1,hR _ _ h2⟩
theorem ak8{ops:h_}{Q:dX}:W S al (.region false ops) Q ak aj↔WN S al ops (fun ak aj=>Q .normal ak aj) ak aj:=by
 rw[aa2];constructor
 .intro h tr;obtain⟨n,e,b,es,h1,_,h2⟩:=h;exact⟨n,e,b,es,h1,h2⟩
 intro h;obtain⟨n,e,b,es,h1,h2⟩:=h [];exact⟨n,e,b,es,h1,(fun h=>by cases h),h2⟩
theorem akU{R:Env->aC->Prop}:WN S al [] R ak aj↔R ak aj:=⟨fun h=>Ub.1 (h []),fun h _=>Ub.2 h⟩
theorem aeS{o:bQ}{os:h_}{R:Env->aC->Prop}{w:Option Bool}(tr:i_):FG S al w o ak aj tr (WO S al os fun e b _=>R e b)↔Ro S al w o ak aj (WN S al os R):=by
 have k:∀ {e:Env}{b:aC}{t:i_},WO S al os (fun e b _=>R e b) e b t↔WN S al os R e b:=fun{e b t}=>⟨fun h t'=>akV h fun _ _ h=>h,fun h=>h t⟩;cases w with
 |none=>exact uv
 |some w=>
  cases w with
  |false=>exact k (t:=tr++[⟨[],[],[]⟩])
  |true=>
   simp only[FG,Ro];cases bN S.shared ak aj o.op with
   |fail=>exact uv
   |done v u r=>simp only[Hs,Ki,k]
   |pc f vs r s=>
    simp only[Hs,Ki];refine exists_congr fun x=>and_congr uv ?_;cases land aj r s (x.gj (S.lone s))with
    |none=>exact uv
    |some y=>simp only[k]
   |sc f vs=>simp only[Hs,Ki,k]
theorem aaY{o:bQ}{os:h_}{R:Env->aC->Prop}:WN S al (o::os) R ak aj↔Ro S al (wanted ak o.guard) o ak aj (WN S al os R):=by
 constructor
 .intro h;exact(aeS []).1 (Qg.1 (h []))
 intro h tr;exact Qg.2 ((aeS tr).2 h)
variable {o:bQ} {K:Env->aC->Prop} {d:w_}
end
theorem bft:(false==true)=false:=rfl
theorem btf:(true==false)=false:=rfl
theorem bff:(false==false)=true:=rfl
theorem btt:(true==true)=true:=rfl
theorem ahZ{aj:aC}{x:PV}:jk aj (.one (.p x))=some (.one (.p x)):=rfl
theorem norm_int(k:IntKind)(n:Int):(PV.int k n).norm=.int k n:=rfl
theorem ahz(b:Bool):(PV.bool b).norm=.bool b:=rfl
theorem ahH(s:ByteArray):(PV.str s).norm=.str s:=rfl
theorem ahF:PV.nils.norm=.sl []:=rfl
theorem ahG(es:s_):(PV.sl es).norm=.sl es:=rfl
theorem Zb(es:b_):(PV.box es).norm=.box es:=rfl
theorem ahA(f:Nat)(a b:b_):(PV.fn f a b).norm=.fn f a b:=rfl
theorem ahE:PV.wa.norm=.wa:=rfl
theorem ahC:PV.Aa.norm=.Aa:=rfl
theorem ahD:PV.sA.norm=.sA:=rfl
theorem ahB(a:Bool)(e:t_):(PV.mp a e).norm=.mp a e:=rfl
theorem ajo{aj:aC}:CZ aj []=some ([],[]):=rfl
def ZO(x:Option (V×a_))(y:Option (e_×a_)):Option (e_×a_):=match x,y with
 |some (b,x),some (bs,y)=>some (b::bs,x++y)
 |_,_=>none
theorem ajn{aj:aC}{x:V}{xs:e_}:CZ aj (x::xs)=ZO (oY aj x) (CZ aj xs):=by simp only[CZ,ZO,collect];cases oY aj x<;>cases collect (oY aj) xs<;>rfl
theorem ajj{b:V}{x:a_}{bs:e_}{y:a_}:ZO (some (b,x)) (some (bs,y))=some (b::bs,x++y):=rfl
theorem ajm{aj:aC}{x:PV}:oY aj (.one (.p x))=some (.one (.p x.norm),[]):=rfl
end Go.Abs
