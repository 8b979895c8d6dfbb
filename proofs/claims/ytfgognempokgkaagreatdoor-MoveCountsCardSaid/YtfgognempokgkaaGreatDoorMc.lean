/-
  Each operation of the abstract machine is what the program does; the machine is sound in any order that a region draws; a quick evaluator; library functions.
-/
import Derived.Test.YtfgognempokgkaaGreatDoorMa
import Derived.Laws.BytesString
import Derived.LoopN
import Derived.Scope
import Derived.Orders
import Derived.ChangeReads
import Derived.ChangeStays
import Derived.DataReads
import Derived.Below
import Derived.Sort.Grow
import Derived.Deep.Draws
import Derived.Lib.ItoaNum
import Derived.Lib.Join
import Derived.Lib.BitFns
import Derived.Lib.LaidTab
import Derived.ChangeSame
import Derived.ProofKit
import Derived.OpenShut
set_option linter.all false
namespace Go.Abs
variable {P:Program} {w0:World}
section
variable{ag:Bool}
def GY(w:World)(own:Nat->Prop)(ag:Bool)(es:List (PV×List PV))(ents:Array MapEntry):Prop:=ents.size=es.length/\ ∀(i:Nat) (q:PV) (v:List PV) (e:MapEntry),es[i]?=some (q,v)->ents[i]?=some e->bh w own q e.key/\ ∃g:Array Value,(ag=true->e.val=.agg g)/\(ag=false-> #[e.val]=g)/\bQ w own v g.toList
theorem ER{w:World}{r:Nat}{es:Array MapEntry}{clock:Nat}(hb:w.heap[r]?=some (.map es clock)):(getObj r).run P w=.ok (.map es clock) w:=by simp[getObj,Sem.run,hb]
theorem Vo{w:World}{r:Nat}{es:Array MapEntry}{clock:Nat}{ob:Obj}(hb:w.heap[r]?=some (.map es clock)):(setObj r ob).run P w=.ok () {w with heap:=w.heap.setIfInBounds r ob}:=by simp[setObj,Sem.run,hb]
theorem Ub{w:World}{own:Nat->Prop}{es:List (PV×List PV)}{v:Value}(h:bh w own (.mp ag es) v):
  ∃r ents clock,v=.map (some r)/\w.heap[r]?=some (.map ents clock)/\GY w own ag es ents:=by
 cases h with
 |mp r ents clock g ho hb hl hk hv hr=>
  refine⟨r,ents,clock,rfl,hb,hl,fun i q v e h1 h2=>⟨hk i q v e h1 h2,g i,(hv i q v e h1 h2).2.1,(hv i q v e h1 h2).2.2,?_,fun j x u a b=>?_⟩⟩
  .simpa using (hv i q v e h1 h2).1
  exact hr i q v j x u h1 a (by simpa using b)
theorem FM{m:Mem}(aq:Ok w0 m){id g:Nat}{v:Value}(h:aY m (.one (.iS id g)) v){es:List (PV×List PV)}(hb:m.blk id=(g,some (.map ag es))\/m.blk id=(g,some (.fmap ag es))):
  ∃r ents clock,v=.map (some r)/\r=m.σ id/\m.w.heap[r]?=some (.map ents clock)/\GY m.w m.own ag es ents:=by
 have h:bG m (.iS id g) v:=h;cases h with
 |iS r hg hr=>
  rcases hb with hb|hb
  .obtain⟨ents,clock,h1,h2,h3⟩:=aq.obj id _ (congrArg Prod.snd hb);have:=hr (by rw[hb]) (by rw[hb];rfl);subst this;exact⟨_,ents,clock,rfl,rfl,h1,h2,h3⟩
  obtain⟨ents,clock,h1,h2,h3,_⟩:=aq.obj id _ (congrArg Prod.snd hb);have:=hr (by rw[hb]) (by rw[hb];rfl);subst this;exact⟨_,ents,clock,rfl,rfl,h1,h2,h3⟩
theorem acU{m:Mem}(aq:Ok w0 m){x:V}{v:Value}{es:List (PV×List PV)}{r:List Nat}(h:mapOf m.blk ag x=some (es,r))(hv:aY m x v):
  ∃ents:Array MapEntry,((v=.map none/\ents= #[])\/ ∃ref clock,v=.map (some ref)/\m.w.heap[ref]?=some (.map ents clock))/\GY m.w m.own ag es ents:=by
 unfold mapOf at h;split at h
 .cases h;exact⟨#[],.inl ⟨Ty hv,rfl⟩,rfl,fun i q v e h=>by simp at h⟩
 .rename_i mU fB;split at h
  .rename_i e;subst e;cases h;obtain⟨hp⟩:bG m _ v:=hv;obtain⟨r,ents,clock,h1,h2,h3⟩:=Ub hp;exact⟨ents,.inr ⟨r,clock,h1,h2⟩,h3⟩
  cases h
 .rename_i id g;split at h
  .rename_i g' mU fB hb;split at h
   .rename_i hc;obtain⟨rfl,rfl⟩:=hc;cases h;obtain⟨r,ents,clock,h1,_,h2,h3⟩:=FM aq hv (.inl hb);exact⟨ents,.inr ⟨r,clock,h1,h2⟩,h3⟩
   cases h
  .rename_i g' mU fB hb;split at h
   .rename_i hc;obtain⟨rfl,rfl⟩:=hc;cases h;obtain⟨r,ents,clock,h1,_,h2,h3⟩:=FM aq hv (.inr hb);exact⟨ents,.inr ⟨r,clock,h1,h2⟩,h3⟩
   cases h
  cases h
 cases h
theorem acA{m:Mem}(aq:Ok w0 m){x:V}{v:Value}{n:Nat}{r:List Nat}(h:vr m.blk x=some (n,r))(hv:aY m x v):
  (v=.map none/\n=0)\/ ∃ref ents clock,v=.map (some ref)/\m.w.heap[ref]?=some (.map ents clock)/\ents.size=n:=by
 unfold vr at h;split at h
 .cases h;exact .inl ⟨Ty hv,rfl⟩
 .cases h;obtain⟨hp⟩:bG m _ v:=hv;obtain⟨r,ents,clock,h1,h2,h3⟩:=Ub hp;exact .inr ⟨r,ents,clock,h1,h2,h3.1⟩
 .rename_i id g;split at h
  .rename_i g' mU fB hb;split at h
   .rename_i hc;subst hc;cases h;obtain⟨r,ents,clock,h1,_,h2,h3⟩:=FM aq hv (.inl hb);exact .inr ⟨r,ents,clock,h1,h2,h3.1⟩
   cases h
  .rename_i g' mU fB hb;split at h
   .rename_i hc;subst hc;cases h;obtain⟨r,ents,clock,h1,_,h2,h3⟩:=FM aq hv (.inr hb);exact .inr ⟨r,ents,clock,h1,h2,h3.1⟩
   cases h
  cases h
 cases h
def xX(kind:TypeDesc)(kd:Nat):Prop:=(kd=0/\ ∃k,kind=.int k)\/(kd=1/\kind=.string)\/(kd=2/\kind=.bool)
theorem TD{t:TypeId}{kd:Nat}(h:keyOf P t=some kd):∃kind,P.underlying t=some kind/\xX kind kd:=by
 unfold keyOf at h;split at h
 .rename_i k hk;cases h;exact⟨_,hk,.inl ⟨rfl,_,rfl⟩⟩
 .rename_i hk;cases h;exact⟨_,hk,.inr (.inl ⟨rfl,rfl⟩)⟩
 .rename_i hk;cases h;exact⟨_,hk,.inr (.inr ⟨rfl,rfl⟩)⟩
 cases h
theorem NW{w:World}{own:Nat->Prop}{k q:PV}{kv qv:Value}{kind:TypeDesc}{b:Bool}(hk:xX kind (ia k))(h:sameKey k q=some b)(h1:bh w own k kv)(h2:bh w own q qv):Instr.sameNow kind kv qv=some b:=by
 unfold sameKey at h;split at h
 .rename_i a b' c d;split at h
  .rename_i e;subst e;cases h;rcases hk with ⟨_,x,rfl⟩|⟨e,_⟩|⟨e,_⟩
   .cases h1;cases h2;simp[Instr.sameNow]
   .simp[ia] at e
   simp[ia] at e
  cases h
 .cases h;rcases hk with ⟨e,_⟩|⟨_,rfl⟩|⟨e,_⟩
  .simp[ia] at e
  .cases h1;cases h2;simp[Instr.sameNow]
  simp[ia] at e
 .cases h;rcases hk with ⟨e,_⟩|⟨e,_⟩|⟨_,rfl⟩
  .simp[ia] at e
  .simp[ia] at e
  cases h1;cases h2;simp[Instr.sameNow]
 cases h
theorem sameKey_eq{w:World}{own:Nat->Prop}{k q:PV}{kv qv:Value}(h:sameKey k q=some true)(h1:bh w own k kv)(h2:bh w own q qv):qv=kv:=by
 unfold sameKey at h;split at h
 .split at h
  .rename_i e;subst e;simp at h;subst h;cases h1;cases h2;rfl
  cases h
 .rename_i a b;have e:(a==b)=true:=by simpa using h
  rw[beq_toListBytes] at e;have e:a=b:=by
   have e:a.toList=b.toList:=by simpa using e
   rw[ByteArray.toList_eq,ByteArray.toList_eq] at e;exact ByteArray.ext (Array.toList_inj.1 e)
  subst e;cases h1;cases h2;rfl
 .simp at h;subst h;cases h1;cases h2;rfl
 cases h
theorem Sa{w:World}{own:Nat->Prop}{k:PV}{kv:Value}{kind:TypeDesc}(hk:xX kind (ia k))(h1:bh w own k kv):∀ {es:List (PV×List PV)} {l:List MapEntry} {i:Nat} {f:Option (Nat×List PV)},
  l.length=es.length->(∀(j:Nat) (q:PV) (v:List PV) (e:MapEntry),es[j]?=some (q,v)->l[j]?=some e->bh w own q e.key)->rL k es i=some f->
  (f=none/\Instr.findNow kind kv l i=some none)\/ ∃j q v e,f=some (i+j,v)/\es[j]?=some (q,v)/\l[j]?=some e/\sameKey k q=some true/\Instr.findNow kind kv l i=some (some (i+j,e.val)):=by
 intro es
 induction es with
 |nil=>
  intro l i f hl _ hf;simp[rL] at hf;cases l with
  |nil=>exact .inl ⟨hf.symm,rfl⟩
  |cons _ _=>simp at hl
 |cons p r ih=>
  intro l i f hl hq hf;obtain⟨a,v⟩:=p;cases l with
  |nil=>simp at hl
  |cons e l=>
   have nk:=hq 0 a v e rfl rfl;simp only[rL] at hf;split at hf
   .rename_i hs;cases hf;exact .inr ⟨0,a,v,e,rfl,rfl,rfl,hs,by simp[Instr.findNow,NW hk hs h1 nk]⟩
   .rename_i hs;rcases ih (l:=l) (i:=i+1) (f:=f) (by simpa using hl) (fun j q v e a b=>hq (j+1) q v e (by simpa using a) (by simpa using b)) hf with ⟨e1,e2⟩|⟨j,q,v',e',e1,e2,e3,e4,e5⟩
    .exact .inl ⟨e1,by simp[Instr.findNow,NW hk hs h1 nk,e2]⟩
    refine .inr ⟨j+1,q,v',e',by rw[e1];congr 2;omega,by simpa using e2,by simpa using e3,e4,?_⟩;simp only[Instr.findNow,NW hk hs h1 nk,e5];congr 3;omega
   cases hf
theorem Yw{t:TypeId}{kind:TypeDesc}{kd:Nat}{b:Bool}{v:Value}(w:World)(h:P.underlying t=some kind)(hk:xX kind kd)(n:Nat):(Instr.checkKey b (n+1) t v).run P w=.ok () w:=by rcases hk with ⟨_,k,rfl⟩|⟨_,rfl⟩|⟨_,rfl⟩<;>simp[Instr.checkKey,run_underlying h]
theorem Ei{t:TypeId}{kind:TypeDesc}{kd:Nat}{b:Bool}{v:Value}(w:World)(h:P.underlying t=some kind)(hk:xX kind kd):(Instr.checkKey b 10000 t v).run P w=.ok () w:=Yw w h hk 9999
theorem aeS{w:World}{own:Nat->Prop}{k:PV}{kv:Value}{kind:TypeDesc}(hk:xX kind (ia k))(h:bh w own k kv)(n:Nat):Instr.sameBits n kv kv=true:=by
 cases h<;>first
  |(simp[ia,xX] at hk;done)
  |(simp[Instr.sameBits];done)
  |(simp[Instr.sameBits,beq_toListBytes];done)
theorem ab9{w0 w:World}{own:Nat->Prop}{k:PV}{kv:Value}{kind:TypeDesc}(hk:xX kind (ia k))(h:bh w0 own k kv):(Instr.keyThatStays kv kv).run P w=.ok kv w:=by rw[Instr.keyThatStays,aeS hk h,if_pos rfl];rfl
theorem HC{t:TypeId}{kind:TypeDesc}{v:Value}{l:List MapEntry}{r:Option (Nat×Value)}(w:World)(h:P.underlying t=some kind)(hf:Instr.findNow kind v l 0=some r):(Instr.findKey t v l).run P w=.ok r w:=by simp[Instr.findKey,run_underlying h,hf]
theorem T4{m:Mem}{v:List PV}{x:V}{val:Value}{g:Array Value}(h:mapVal ag v=some x)(h1:ag=true->val=.agg g)(h2:ag=false-> #[val]=g)(hp:bQ m.w m.own v g.toList):aY m x val/\kN m x val:=by
 cases ag with
 |true=>simp only[mapVal,dV] at h;subst h;exact⟨aY.agg.2 ⟨g,h1 rfl,hp.xK⟩,⟨g,h1 rfl,hp.xK⟩⟩
 |false=>
  have h2:=h2 rfl;subst h2;cases v with
  |nil=>simp[mapVal] at h
  |cons c r=>
   cases r with
   |nil=>simp only[mapVal,dV] at h;subst h;have:=hp.2 0 c val rfl rfl;exact⟨j6 this,bG.p this⟩
   |cons _ _=>simp[mapVal] at h
section
variable {m:Mem} {aj:Env} {a:Act} {o:Oper} (aq:Ok w0 m) (hr:gi m aj a.tmps)
include aq
theorem afk{t kt e:TypeId}{s:Nat}(ho:o.op=.makeMap t none):
  eB P w0 a.eval o m (.one (.iS s ((m.blk s).1+1))) [(s,((m.blk s).1+1,some (.map ag [])))]:=by
 refine⟨.map (some m.w.heap.size),m.fresh (.map #[] 0) s 0 (.map ag []),.inl ?_,Sm aq _ s 0 _ ⟨#[],0,Sl _ s 0 _,rfl,fun i q v e h=>by simp at h⟩,HF _ s 0 _,Me aq _ s 0 _,Md _ _ s 0 _,aY.one.2 (.iS _ ?_ fun _ _=>?_)⟩
 .simp[execOp,ho,Instr.makeMap];rfl
 .simp[Mem.fresh,Mem.install,Mem.later,aP]
 simp[Mem.fresh,Mem.install,aP]
include hr
theorem afm{c:Call}{x:Operand}{x':aK}{t k e:TypeId}{n:Nat}{r:List Nat}(ho:o.op=.call c)(hc:c.callee=.builtin .len)(has:c.args= #[x])(gJ:c.argTypes[0]?=some t)(ht:P.underlying t=some (.map k e))
  (hx:bp x=some x') (hv:vr m.blk (ev aj x')=some (n,r)):eB P w0 a.eval o m (.one (.p (.int .i64 n))) []:=by
 refine .calm aq ?_ (j6 (.int _ _));have h0:(#[a.eval x]:Array Value)[0]?=some (a.eval x):=rfl;rcases acA aq hv (dy hx hr) with ⟨h1,rfl⟩|⟨ref,ents,clock,h1,h2,rfl⟩
 .simp[execOp,ho,resolve,hc,has,gJ,invoke,builtin,Builtin.len_,run_underlying ht,h1,goInt]
 simp[execOp,ho,resolve,hc,has,gJ,invoke,builtin,Builtin.len_,run_underlying ht,h1,goInt,ER h2]
theorem afg{t kt e:TypeId}{x k:Operand}{x' k':aK}{ok:Bool}{z:List PV}{q:Option Nat}{kd:Nat}{es:List (PV×List PV)}{r:List Nat}{key:PV}{f:Option (Nat×List PV)}{w:V}(ho:o.op=.lookup t x k ok)(ht:P.underlying t=some (.map kt e))
  (hz:vM P e=some z) (vg:keyOf P kt=some kd) (tj:Jk P e=q.isSome) (hx:bp x=some x') (hk:bp k=some k') (hm:mapOf m.blk q.isSome (ev aj x')=some (es,r)) (hke:ev aj k'=.one (.p key)) (qJ:ia key=kd)
  (hf:rL key es 0=some f) (hw:mapVal q.isSome ((f.map (·.2)).getD z)=some w):eB P w0 a.eval o m (if ok then .tup [w,.one (.p (.bool f.isSome))] else w) []:=by
 obtain⟨kind,uz,wY⟩:=TD vg;obtain⟨ents,HP,hl,dh⟩:=acU aq hm (dy hx hr);have FJ:=dy hk hr;rw[hke] at FJ;obtain⟨bJ⟩:bG m _ _:=FJ;have ig:(∃ref clock,a.eval x=.map (some ref)/\m.w.heap[ref]?=some (.map ents clock))\/a.eval x=.map none/\ents= #[]:=by
  rcases HP with h|h
  .exact .inr h
  exact .inl h
 have key:∀(val:Value) (b:Bool),aY m w val->kN m w val->f.isSome=b->(Instr.lookup t (a.eval x) (a.eval k) ok).run P m.w=.ok (if ok then .tuple #[val,.bool b] else val) m.w->eB P w0 a.eval o m (if ok then .tup [w,.one (.p (.bool f.isSome))] else w) []:=by
  intro val b h1 iQ h2 h3;refine .calm aq (x:=if ok then .tuple #[val,.bool b] else val) ?_ ?_
  .simp[execOp,ho,h3]
  cases ok
  .exact h1
  refine⟨_,rfl,rfl,fun j y u p q=>?_⟩;rcases j with _|_|j
  .simp at p q;subst p q;exact iQ
  .simp at p q;subst p q;rw[h2];exact bG.p (.bool _)
  simp at p
 rcases Sa (kind:=kind) (by rw[qJ];exact wY) bJ (l:=ents.toList) (by simpa using hl) (fun j q v e h1 h2=>(dh j q v e h1 (by simpa using h2)).1) hf with ⟨rfl,hn⟩|⟨j,q',v,e',rfl,h2,h3,_,hn⟩
 .obtain⟨zv,i,hi,tz,CF,kT,cn⟩:=GU hz;obtain⟨v1,v2⟩:=T4 (m:=m) (val:=zv) (g:=zv.cells) hw (fun hq=>by
    rw[hq] at tj;unfold Jk at tj;rw[hi] at tj;simp only[tz] at tj;cases zv<;>simp[Value.cells] at tj ⊢) (fun hq=>by
    rw[hq] at tj;unfold Jk at tj;rw[hi] at tj;simp only[tz] at tj;cases zv<;>simp[Value.cells] at tj ⊢) (cn m.w m.own)
  refine key zv false v1 v2 rfl ?_;have yF:=HC (P:=P) m.w uz hn;rcases ig with ⟨ref,clock,h1,h2⟩|⟨h1,h2⟩
  .cases ok<;>simp[Instr.lookup,run_underlying ht,h1,ER h2,Ei m.w uz wY,yF,zeroValue,typeInfo,hi,tz]
  subst h2;cases ok<;>simp[Instr.lookup,run_underlying ht,h1,Ei m.w uz wY,Instr.findKey,run_underlying uz,Instr.findNow,zeroValue,typeInfo,hi,tz]
 obtain⟨hqk,g,Am,Co,cn⟩:=dh j q' v e' h2 (by simpa using h3);obtain⟨v1,v2⟩:=T4 hw Am Co cn;refine key e'.val true v1 v2 rfl ?_;have yF:=HC (P:=P) m.w uz hn;rcases ig with ⟨ref,clock,h1,h2⟩|⟨h1,h2⟩
 .cases ok<;>simp[Instr.lookup,run_underlying ht,h1,ER h2,Ei m.w uz wY,yF]
 subst h2;simp at h3
theorem Vs{t kt e:TypeId}{x k y:Operand}{x' k' y':aK}{kd:Nat}{ag:Bool}{id g:Nat}{es:List (PV×List PV)}{key:PV}{cs:List C}{ps:List PV}{f:Option (Nat×List PV)}(ho:o.op=.mapUpdate t x k y\/o.op=.insert t x k y)(ht:P.underlying t=some (.map kt e))
  (vg:keyOf P kt=some kd) (hx:bp x=some x') (hk:bp k=some k') (hy:bp y=some y') (hm:ev aj x'=.one (.iS id g)) (hb:m.blk id=(g,some (.map ag es))) (hke:ev aj k'=.one (.p key)) (qJ:ia key=kd)
  (bZ:wh ag (ev aj y')=some cs) (cn:vI cs=some ps) (hf:rL key es 0=some f):
  eB P w0 a.eval o m .undef [(id,(g,some (.map ag (match f with|some (i,_)=>es.set i (key,ps)|none=>es++[(key,ps)]))))]:=by
 obtain⟨kind,uz,wY⟩:=TD vg;have hxr:=dy hx hr;rw[hm] at hxr;have hid:=congrArg Prod.snd hb;have hg:=congrArg Prod.fst hb;obtain⟨ref,ents,clock,uF,aZ,hh,hl,dh⟩:=FM aq hxr (.inl hb);subst aZ;have FJ:=dy hk hr;rw[hke] at FJ;obtain⟨bJ⟩:bG m _ _:=FJ;have hyr:=dy hy hr
 -- the value's cells
 have hval:∃gv:Array Value,(ag=true->a.eval y=.agg gv)/\(ag=false-> #[a.eval y]=gv)/\bQ m.w m.own ps gv.toList:=by
  generalize ev aj y'=vy at bZ hyr;cases ag with
  |true=>
   cases vy<;>simp[wh] at bZ
   subst bZ;obtain⟨arr,h1,h2⟩:=aY.agg.1 hyr;exact⟨arr,fun _=>h1,fun h=>(by cases h),GK cn h2⟩
  |false=>
   cases vy<;>simp[wh] at bZ
   subst bZ;refine⟨#[a.eval y],fun h=>(by cases h),fun _=>rfl,GK cn ⟨rfl,fun j x u p q=>?_⟩⟩;rcases j with _|j
   .simp at p q;subst p q;exact hyr
   simp at p
 obtain⟨gv,hv1,qN,hvp⟩:=hval;have au:=qe hh;have TC:∀(wD:Array MapEntry) (yg:Nat) (fB:List (PV×List PV)),(execOp a.eval o).run P m.w=.ok .skip {m.w with heap:=m.w.heap.setIfInBounds (m.σ id) (.map wD yg)}->GY m.w m.own ag fB wD->
   eB P w0 a.eval o m .undef [(id,(g,some (.map ag fB)))]:=by
  intro wD yg fB jQ HP;have hs:(m.w.heap.setIfInBounds (m.σ id) (.map wD yg)).size=m.w.heap.size:=af;have hko:∀c,c≠m.σ id->(m.w.heap.setIfInBounds (m.σ id) (.map wD yg))[c]?=m.w.heap[c]? :=fun c hc=>by rw[Array.getElem?_setIfInBounds];rw[if_neg (fun e=>hc e.symm)]
  have ek:Ev m (m.gb {m.w with heap:=m.w.heap.setIfInBounds (m.σ id) (.map wD yg)} id (.map ag fB)):=Dm hid rfl rfl rfl rfl rfl hs hko;refine⟨_,m.gb {m.w with heap:=m.w.heap.setIfInBounds (m.σ id) (.map wD yg)} id (.map ag fB),.inr ⟨jQ,rfl⟩,GC hid rfl aq rfl rfl rfl rfl hs hko ?_,ek,rfl,?_,rfl⟩
  .refine⟨wD,yg,?_,HP.1,fun i q v e h1 h2=>?_⟩
   .show(m.w.heap.setIfInBounds (m.σ id) (.map wD yg))[m.σ id]?=_;rw[Array.getElem?_setIfInBounds,if_pos rfl,if_pos au]
   obtain⟨p1,gg,p2,p3,p4⟩:=HP.2 i q v e h1 h2;exact⟨p1.ev ek.zero,gg,p2,p3,p4.ev ek.zero⟩
  simp only[Mem.gb,app,hg]
 rcases Sa (kind:=kind) (by rw[qJ];exact wY) bJ (l:=ents.toList) (by simpa using hl) (fun j q v e h1 h2=>(dh j q v e h1 (by simpa using h2)).1) hf with ⟨rfl,hn⟩|⟨j,q',v,e',rfl,h2,h3,h4,hn⟩
 .refine TC (ents.push {key:=a.eval k,val:=a.eval y,born:=clock}) (clock+1) _ ?_ ?_
  .have yF:=HC (P:=P) m.w uz hn;rcases ho with ho|ho<;>simp[execOp,ho,Instr.mapUpdate,run_underlying ht,uF,ER hh,Ei m.w uz wY,yF,Vo hh]
  refine⟨by simp[hl],fun i q v e h1 h2=>?_⟩;by_cases hi:i<es.length
  .rw[Br hi] at h1;rw[Array.getElem?_push,if_neg aa] at h2;exact dh i q v e h1 h2
  rw[zG aa] at h1;have:i=es.length:=by
   by_cases h:i-es.length=0
   .omega
   have:=(bn.1 h1).1;simp at this;omega
  subst this;simp at h1;obtain⟨rfl,rfl⟩:=h1;rw[Array.getElem?_push,if_pos hl.symm] at h2;cases h2;exact⟨bJ,gv,hv1,qN,hvp⟩
 have oY:ents[j]?=some e':=by simpa using h3
 have hqe:e'.key=a.eval k:=sameKey_eq h4 bJ (dh j q' v e' h2 oY).1;refine TC (ents.modify j fun e=>{e with key:=a.eval k,val:=a.eval y}) clock _ ?_ ?_
 .have yF:=HC (P:=P) m.w uz hn;rw[kZ] at yF;have hks:(Instr.keyThatStays e'.key (a.eval k)).run P m.w=.ok (a.eval k) m.w:=by rw[hqe];exact ab9 (kind:=kind) (by rw[qJ];exact wY) bJ
  rcases ho with ho|ho<;>simp[execOp,ho,Instr.mapUpdate,run_underlying ht,uF,ER hh,Ei m.w uz wY,yF,Vo hh,oY,hks]
 simp only[kZ];refine⟨by simp[hl],fun i q v e h1 h2=>?_⟩;rw[ml] at h1;rw[Array.getElem?_modify] at h2;by_cases jX:j=i
 .subst jX;rw[if_pos rfl] at h1;split at h1
  .cases h1;simp[oY] at h2;subst h2;exact⟨bJ,gv,hv1,qN,hvp⟩
  cases h1
 rw[if_neg jX] at h1;rw[if_neg jX] at h2;exact dh i q v e h1 h2
end
end
end Go.Abs
namespace Go.Abs
variable {P:Program} {w0:World}
theorem Vk{t:TypeId}{b:Bool}(h:NX P t=some b):(b=true/\ ∃k,P.underlying t=some (.int k))\/(b=false/\P.underlying t=some .bool):=by
 unfold NX at h;split at h
 .rename_i k hk;cases h;exact .inl ⟨rfl,_,hk⟩
 .rename_i hk;cases h;exact .inr ⟨rfl,hk⟩
 cases h
theorem Zn{a b:PV}{r:Bool}(h:lV true a b=some r):∃k x y,a=.int k x/\b=.int k y/\r=(x==y):=by
 cases a<;>cases b<;>simp[lV] at h
 exact⟨_,_,_,rfl,by rw[h.1],h.2.symm⟩
theorem Zm{a b:PV}{r:Bool}(h:lV false a b=some r):∃x y,a=.bool x/\b=.bool y/\r=(x==y):=by
 cases a<;>cases b<;>simp[lV] at h
 exact⟨_,_,rfl,rfl,h.symm⟩
theorem Zp{as bs:List C}{r:Bool}(h:lq [] as bs=some r):r=true:=by
 cases as<;>cases bs<;>simp[lq] at h
 exact h
theorem Zo{k:Bool}{ks:List Bool}{as bs:List C}{r:Bool}(h:lq (k::ks) as bs=some r):
  ∃a ar b br r0,as=.p a::ar/\bs=.p b::br/\lV k a b=some r0/\(r0=true->lq ks ar br=some r)/\(r0=false->r=false):=by
 cases as with
 |nil=>simp[lq] at h
 |cons x ar=>
  cases bs with
  |nil=>cases x<;>simp[lq] at h
  |cons y br=>
   cases x<;>cases y<;>simp only[lq] at h<;>try cases h
   rename_i a b;cases he:lV k a b with
   |none=>simp[he] at h
   |some r0=>
    refine⟨a,ar,b,br,r0,rfl,rfl,he,fun e=>?_,fun e=>?_⟩
    .subst e;simpa [he] using h
    subst e;simp[he] at h;exact h
theorem Zq{w:World}{m:Mem}(d:Nat){A B:Array Value}:∀ {fs:List Field} {ks:List Bool} {k:Nat} {as bs:List C} {r:Bool},Dk P k fs=some ks->lq ks as bs=some r->
  (∀(j:Nat) (x:C),as[j]?=some x->∃v,A[k+j]?=some v/\bG m x v)->(∀(j:Nat) (x:C),bs[j]?=some x->∃v,B[k+j]?=some v/\bG m x v)->
  (Op.eqFields (d+1) A B fs).run P w=.ok r w:=by
 intro fs
 induction fs with
 |nil=>intro ks k as bs r hf he _ _;simp[Dk] at hf;subst hf;rw[Zp he];simp[Op.eqFields,Sem.run_pure]
 |cons f fs ih=>
  intro ks k as bs r hf he ha hb;simp only[Dk] at hf;split at hf
  .rename_i b we h1 h2;split at hf
   .rename_i hc;obtain⟨MD,aa1⟩:=hc;cases hf;obtain⟨x,ar,y,br,r0,rfl,rfl,h0,ht,hf⟩:=Zo he;obtain⟨va,hva,qL⟩:=ha 0 (.p x) rfl;obtain⟨vb,hvb,kC⟩:=hb 0 (.p y) rfl;obtain⟨qL⟩:=qL;obtain⟨kC⟩:=kC;rw[vP] at hva hvb;have Tc:∀(X:Array Value) (v:Value),X[k]?=some v->(part f.type X f.offset).run P w=.ok v w:=by
     intro X v hX;have tj:(isAgg f.type).run P w=.ok false w:=by rcases Vk h1 with ⟨_,kk,hu⟩|⟨_,hu⟩<;>simp[isAgg,run_underlying hu]
     rw[MD];simp[part,tj,hX]
    have aaO:(Op.equalIn (d+1) f.type va vb).run P w=.ok r0 w:=by
     rcases Vk h1 with ⟨rfl,kk,hu⟩|⟨rfl,hu⟩
     .obtain⟨k',p,q,rfl,rfl,rfl⟩:=Zn h0;cases qL;cases kC;simp[Op.equalIn,run_underlying hu]
     obtain⟨p,q,rfl,rfl,rfl⟩:=Zm h0;cases qL;cases kC;simp[Op.equalIn,run_underlying hu]
    simp only[Op.eqFields,if_pos aa1,Sem.run_bind,Tc A va hva,Tc B vb hvb,aaO,Result.andThen_ok];cases r0 with
    |false=>rw[hf rfl];simp[Sem.run_pure]
    |true=>simp only[Bp,iF,if_false];exact ih h2 (ht rfl) (fun j x hx=>by have:=ha (j+1) x (by simpa using hx);rwa[show k+(j+1)=k+1+j by omega] at this) (fun j x hx=>by have:=hb (j+1) x (by simpa using hx);rwa[show k+(j+1)=k+1+j by omega] at this)
   cases hf
  cases hf
def vQ:qw->Value->Bool->Prop
 | .ptr,v,b=>∃a,v=.pointer a/\a.isNone=b
 | .slc,v,b=>∃a l c,v=.slice a l c/\a.isNone=b
 | .map,v,b=>∃r,v=.map r/\r.isNone=b
 | .fnc,v,b=>(v=.nilFunc/\b=true)\/ ∃f x y,v=.func f x y/\b=false
 | .ifc,v,b=>(v=.nilIface/\b=true)\/ ∃d x,v=.iface d x/\b=false
 |_,_,_=>False
theorem tC{m:Mem}{k:qw}{x:V}{v:Value}{b:Bool}(h:AZ k x=some b)(hr:aY m x v):vQ k v b:=by
 unfold AZ at h;split at h<;>cases h
 all_goals first
  |(obtain⟨hp⟩:bG m _ v:=hr;cases hp;first
    |exact⟨_,rfl,rfl⟩
    |exact⟨_,_,_,rfl,rfl⟩
    |exact .inl ⟨rfl,rfl⟩
    |exact .inr ⟨_,_,_,rfl,rfl⟩
    |exact .inr ⟨_,_,rfl,rfl⟩)
  |(have hc:bG m _ v:=hr;cases hc;first
    |exact⟨_,rfl,rfl⟩
    |exact⟨_,_,_,rfl,rfl⟩
    |exact .inr ⟨_,_,_,rfl,rfl⟩)
def Jr(P:Program)(t:TypeId):qw->Prop
 | .bool=>P.underlying t=some .bool
 | .ptr=>∃e,P.underlying t=some (.pointer e)
 | .slc=>∃e,P.underlying t=some (.slice e)
 | .map=>∃a b,P.underlying t=some (.map a b)
 | .fnc=>∃a b c,P.underlying t=some (.func a b c)
 | .ifc=>∃a,P.underlying t=some (.interface a)
 | .str ks=>∃fs,P.underlying t=some (.struct fs)/\P.stoodInHeld t=false/\P.eqGuardType P.depth t=false/\Dk P 0 fs.toList=some ks
theorem Qy{t:TypeId}{x y:Operand}{k:qw}(h:Et P t x y=some k):Jr P t k/\(k=.ifc->CS x=true\/CS y=true):=by
 unfold Et at h;split at h
 .rename_i a ha;split at h
  .rename_i hc;cases h;exact⟨⟨_,ha⟩,fun _=>by simpa using hc⟩
  cases h
 .rename_i ha;cases h;exact⟨ha,fun e=>by cases e⟩
 .rename_i ha;cases h;exact⟨⟨_,ha⟩,fun e=>by cases e⟩
 .rename_i ha;cases h;exact⟨⟨_,ha⟩,fun e=>by cases e⟩
 .rename_i ha;cases h;exact⟨⟨_,_,ha⟩,fun e=>by cases e⟩
 .rename_i ha;cases h;exact⟨⟨_,_,_,ha⟩,fun e=>by cases e⟩
 .rename_i fs ha;split at h
  .rename_i hc;simp only[cH] at h;obtain⟨ks,h1,rfl⟩:=h;simp at hc;exact⟨⟨fs,ha,hc.1,hc.2,h1⟩,fun e=>by cases e⟩
  cases h
 cases h
theorem Qz{t:TypeId}{k:qw}{v u:Value}{a b:Bool}(w:World)(hk:Jr P t k)(h1:vQ k v a)(h2:vQ k u b)(ur:a=true\/b=true)(d:Nat):(Op.equalIn (d+1) t v u).run P w=.ok (a&&b) w:=by
 cases k with
 |bool=>exact h1.elim
 |str n=>exact h1.elim
 |ptr=>obtain⟨e,hu⟩:=hk;obtain⟨x,rfl,rfl⟩:=h1;obtain⟨y,rfl,rfl⟩:=h2;cases x<;>cases y<;>simp at ur<;>simp[Op.equalIn,run_underlying hu]
 |slc=>obtain⟨e,hu⟩:=hk;obtain⟨x,_,_,rfl,rfl⟩:=h1;obtain⟨y,_,_,rfl,rfl⟩:=h2;cases x<;>cases y<;>simp at ur<;>simp[Op.equalIn,run_underlying hu]
 |map=>obtain⟨e,e',hu⟩:=hk;obtain⟨x,rfl,rfl⟩:=h1;obtain⟨y,rfl,rfl⟩:=h2;cases x<;>cases y<;>simp at ur<;>simp[Op.equalIn,run_underlying hu]
 |fnc=>obtain⟨e,e',e'',hu⟩:=hk;rcases h1 with ⟨rfl,rfl⟩|⟨_,_,_,rfl,rfl⟩<;>rcases h2 with ⟨rfl,rfl⟩|⟨_,_,_,rfl,rfl⟩<;>simp at ur<;>simp[Op.equalIn,run_underlying hu]
 |ifc=>obtain⟨e,hu⟩:=hk;rcases h1 with ⟨rfl,rfl⟩|⟨_,_,rfl,rfl⟩<;>rcases h2 with ⟨rfl,rfl⟩|⟨_,_,rfl,rfl⟩<;>simp at ur<;>simp[Op.equalIn,run_underlying hu]
section
variable {m:Mem} {aj:Env} {a:Act} {o:Oper} (aq:Ok w0 m) (hr:gi m aj a.tmps)
include aq hr
theorem Zs{t:TypeId}{k:qw}{x y:V}{v u:Value}{b:Bool}(hk:Jr P t k)(h:wE k x y=some b)(hx:aY m x v)(hy:aY m y u)(d:Nat):(Op.equalIn (d+2) t v u).run P m.w=.ok b m.w:=by
 have _u0:=aq;have _u1:=hr;unfold wE at h;split at h
 .cases h;rw[yX hx,yX hy];have hk:P.underlying t=some .bool:=hk;simp only[Op.equalIn,Sem.run_bind,run_underlying hk,Result.andThen_ok,Sem.run_pure]
 .obtain⟨A,rfl,hA⟩:=aY.agg.1 hx;obtain⟨B,rfl,hB⟩:=aY.agg.1 hy;obtain⟨fs,hu,hs,_,hf⟩:=hk;have uv:P.fieldsOf t=fs:=by simp[Program.fieldsOf,hu]
  rw[run_equalIn_agg m.w (d+1) t A B (by rw[uv];exact hu) hs,uv];refine Zq (w:=m.w) (m:=m) d hf h (fun j x hx=>?_) (fun j x hx=>?_)
  .have au:j<A.size:=by have:=hA.1;simp at this;rw[this];exact(bn.1 hx).1
   exact⟨A[j],by simp[au],hA.2 j x _ hx (by simp[au])⟩
  have au:j<B.size:=by have:=hB.1;simp at this;rw[this];exact(bn.1 hx).1
  exact⟨B[j],by simp[au],hB.2 j x _ hx (by simp[au])⟩
 .cases h
 .cases h
 split at h
 .rename_i hb;have:=Qz (P:=P) m.w hk (tC h hx) (tC hb hy) (.inr rfl) (d+1)
  simpa using this
 split at h
 .rename_i ha;have:=Qz (P:=P) m.w hk (tC ha hx) (tC h hy) (.inl rfl) (d+1)
  simpa using this
 cases h
theorem Zr{op:BinOp}{t:TypeId}{k:qw}{x y:Operand}{x' y':aK}{b:Bool}(hk:Et P t x y=some k)(hx:bp x=some x')(hy:bp y=some y')(h:wE k (ev aj x') (ev aj y')=some b):
  (eqGuard op t x y (a.eval x) (a.eval y)).run P m.w=.ok () m.w:=by
 have _u0:=aq;obtain⟨bx,nj⟩:=Qy hk;have h1:=dy hx hr;have h2:=dy hy hr;by_cases hop:op=.eql\/op=.neq
 .unfold wE at h;split at h
  .rename_i e1 e2;rw[e1] at h1;rw[yX h1,eqGuard_at_bool];rfl
  .rename_i e1 e2;rw[e1] at h1;rw[e2] at h2;obtain⟨A,e3,_⟩:=aY.agg.1 h1;obtain⟨B,e4,_⟩:=aY.agg.1 h2;obtain⟨fs,_,_,hg,_⟩:=bx;rw[e3,e4];exact run_eqGuard_agg m.w op t x y A B hg
  .cases h
  .cases h
  rename_i k q1 q2 q3 q4 q5 q6 q7;have hn:∃b1 b2,vQ k (a.eval x) b1/\vQ k (a.eval y) b2:=by
   split at h
   .rename_i hb;exact⟨_,_,tC h h1,tC hb h2⟩
   split at h
   .rename_i ha;exact⟨_,_,tC ha h1,tC h h2⟩
   cases h
  obtain⟨b1,b2,n1,n2⟩:=hn;cases k with
  |bool=>exact n1.elim
  |str n=>exact n1.elim
  |ptr=>obtain⟨q,e,_⟩:=n1;rw[e,eqGuard_at_pointer];rfl
  |slc=>obtain⟨q,_,_,e,_⟩:=n1;rw[e,eqGuard_at_slice];rfl
  |map=>obtain⟨q,e,_⟩:=n1;rw[e,eqGuard_at_map];rfl
  |fnc=>
   rcases n1 with ⟨e,_⟩|⟨_,_,_,e,_⟩
   .rw[e,eqGuard_at_nilFunc];rfl
   rw[e,eqGuard_at_func];rfl
  |ifc=>
   rcases n1 with ⟨e,_⟩|⟨_,_,e,_⟩
   .rcases n2 with ⟨e',_⟩|⟨_,_,e',_⟩
    .rw[e,e'];have hc:(∃c,x=.const c)\/ ∃c,y=.const c:=by
      rcases nj rfl with hc|hc
      .cases x<;>simp[CS] at hc
       exact .inl ⟨_,rfl⟩
      cases y<;>simp[CS] at hc
      exact .inr ⟨_,rfl⟩
     rcases hc with ⟨c,rfl⟩|⟨c,rfl⟩
     .rw[eqGuard_nil_constL];rfl
     rw[eqGuard_nil_constR];rfl
    rw[e,e',eqGuard_nil_iface];rfl
   rw[e,eqGuard_at_iface];rfl
 have:eqGuard op t x y (a.eval x) (a.eval y)=pure ():=by
  cases op<;>first
   |rfl
   |exact(hop (.inl rfl)).elim
   |exact(hop (.inr rfl)).elim
 rw[this];rfl
theorem X7{t:TypeId}{k:qw}{v u:Value}{b1:Bool}(hs:(∃p q,v=.bool p/\u=.bool q)\/(∃p q,v=.agg p/\u=.agg q)\/ ∃p q,vQ k v p/\vQ k u q)(h:(Op.equalIn (9998+2) t v u).run P m.w=.ok b1 m.w):
  (binOp .eql t v u).run P m.w=.ok (.bool b1) m.w/\(binOp .neq t v u).run P m.w=.ok (.bool (!b1)) m.w:=by
 have _u0:=aq;have _u1:=hr;have he:Op.equal t v u=Op.equalIn (9998+2) t v u:=rfl;have key:binOp .eql t v u=(do pure (.bool (<- Op.equal t v u)))/\binOp .neq t v u=(do pure (.bool (!(<- Op.equal t v u)))):=by
  rcases hs with ⟨p,q,rfl,rfl⟩|⟨p,q,rfl,rfl⟩|⟨p,q,h1,h2⟩
  .exact⟨rfl,rfl⟩
  .exact⟨rfl,rfl⟩
  cases k with
  |bool=>exact h1.elim
  |str n=>exact h1.elim
  |ptr=>obtain⟨_,rfl,_⟩:=h1;obtain⟨_,rfl,_⟩:=h2;exact⟨rfl,rfl⟩
  |slc=>obtain⟨_,_,_,rfl,_⟩:=h1;obtain⟨_,_,_,rfl,_⟩:=h2;exact⟨rfl,rfl⟩
  |map=>obtain⟨_,rfl,_⟩:=h1;obtain⟨_,rfl,_⟩:=h2;exact⟨rfl,rfl⟩
  |fnc=>rcases h1 with ⟨rfl,_⟩|⟨_,_,_,rfl,_⟩<;>rcases h2 with ⟨rfl,_⟩|⟨_,_,_,rfl,_⟩<;>exact⟨rfl,rfl⟩
  |ifc=>rcases h1 with ⟨rfl,_⟩|⟨_,_,rfl,_⟩<;>rcases h2 with ⟨rfl,_⟩|⟨_,_,rfl,_⟩<;>exact⟨rfl,rfl⟩
 rw[key.1,key.2,he];simp only[Sem.run_bind,h,Result.andThen_ok,Sem.run_pure,and_self]
theorem Vq{op:BinOp}{t ty:TypeId}{x y:Operand}{x' y':aK}{k:qw}{neg b:Bool}(ho:o.op=.binOp op t x y ty)(hop:(op=.eql/\neg=false)\/(op=.neq/\neg=true))(hk:Et P t x y=some k)(hx:bp x=some x')(hy:bp y=some y')
  (hv:wE k (ev aj x') (ev aj y')=some b):eB P w0 a.eval o m (.one (.p (.bool (if neg then !b else b)))) []:=by
 have h1:=dy hx hr;have h2:=dy hy hr;have hg:=Zr aq hr (op:=op) hk hx hy hv;have he:=Zs aq hr (Qy hk).1 hv h1 h2 9998;have hs:(∃p q,a.eval x=.bool p/\a.eval y=.bool q)\/(∃p q,a.eval x=.agg p/\a.eval y=.agg q)\/ ∃p q,vQ k (a.eval x) p/\vQ k (a.eval y) q:=by
  unfold wE at hv;split at hv
  .rename_i e1 e2;rw[e1] at h1;rw[e2] at h2;exact .inl ⟨_,_,yX h1,yX h2⟩
  .rename_i e1 e2;rw[e1] at h1;rw[e2] at h2;obtain⟨A,e3,_⟩:=aY.agg.1 h1;obtain⟨B,e4,_⟩:=aY.agg.1 h2;exact .inr (.inl ⟨A,B,e3,e4⟩)
  .cases hv
  .cases hv
  split at hv
  .rename_i hb;exact .inr (.inr ⟨_,_,tC hv h1,tC hb h2⟩)
  split at hv
  .rename_i ha;exact .inr (.inr ⟨_,_,tC ha h1,tC hv h2⟩)
  cases hv
 obtain⟨r1,r2⟩:=X7 aq hr hs he;rcases hop with ⟨rfl,rfl⟩|⟨rfl,rfl⟩
 .exact .calm aq (by simp[execOp,ho,hg,r1]) (j6 (.bool _))
 exact .calm aq (by simp[execOp,ho,hg,r2]) (j6 (.bool _))
end
end Go.Abs
namespace Go.Abs
variable {P:Program} {w0:World}
theorem Yb:∀ {es:List (List PV)} {bs:List UInt8},bytesOf es=some bs->∃ns:List Int,es.flatten=ns.map (PV.int .u8)/\bs=ns.map (fun n=>UInt8.ofNat n.toNat)/\ns.length=es.length:=by
 intro es
 induction es with
 |nil=>intro bs h;simp[bytesOf] at h;exact⟨[],rfl,h,rfl⟩
 |cons e r ih=>
  intro bs h;unfold bytesOf at h;split at h
  .rename_i e';cases e'
  .rename_i n r' e';cases e';simp only[cH] at h;obtain⟨q,hq,rfl⟩:=h;obtain⟨ns,h1,h2,h3⟩:=ih hq;exact⟨n::ns,by simp[h1],by simp[h2],by simp[h3]⟩
  cases h
theorem aer{w:World}{own:Nat->Prop}:∀ {ns:List Int} {vs:List Value},Pw (bh w own) (ns.map (PV.int .u8)) vs->vs=ns.map (Value.int .u8):=by
 intro ns
 induction ns with
 |nil=>intro vs h;have:=h.1;simp at this;simp[this]
 |cons n ns ih=>
  intro vs h;cases vs with
  |nil=>have:=h.1;simp at this
  |cons v vs=>have h0:=h.2 0 _ v rfl rfl;cases h0;rw[ih (vs:=vs) ⟨by have:=h.1;simpa using this,fun j x u a b=>h.2 (j+1) x u (by simpa using a) (by simpa using b)⟩];rfl
theorem aen:∀(ns:List Int) (s:ByteArray),ns.foldl (fun r n=>r.push (UInt8.ofNat n.toNat)) s=⟨s.data++(ns.map (fun n=>UInt8.ofNat n.toNat)).toArray⟩:=by
 intro ns
 induction ns with
 |nil=>intro s;cases s;simp
 |cons n ns ih=>intro s;simp only[List.foldl_cons,dE];rw[ih];cases s;simp[ByteArray.push]
section
variable {m:Mem} {aj:Env} {a:Act} {o:Oper} (aq:Ok w0 m) (hr:gi m aj a.tmps)
include aq hr
theorem ae5{s d e:TypeId}{x:Operand}{x':aK}{es:List (List PV)}{r:List Nat}{bs:List UInt8}(ho:o.op=.convert s d x)(hs:P.underlying s=some (.slice e))(he:P.underlying e=some (.int .u8))(hd:P.underlying d=some .string)
  (hx:bp x=some x') (cJ:eK m.blk (ev aj x')=some (es,r,[])) (hb:bytesOf es=some bs):eB P w0 a.eval o m (.one (.p (.str ⟨bs.toArray⟩))) []:=by
 obtain⟨ns,h1,h2,h3⟩:=Yb hb;obtain⟨ax,cx,uF,_,xe⟩:=Qr (own:=m.own) aq cJ (dy hx hr) ⟨fun _ h=>h,fun _ h=>by simp at h⟩;refine .calm aq (x:=.string ⟨bs.toArray⟩) ?_ (j6 (.str _));have key:(Conv.bytesToString (.slice ax es.length cx)).run P m.w=.ok (.string ⟨bs.toArray⟩) m.w:=by
  by_cases aR:es=[]
  .subst aR;have:ns=[]:=by simpa using h3
   subst this;have gC:bs=[]:=by simpa using h2
   subst gC;cases ax with
   |none=>simp[Conv.bytesToString,Sem.run_pure];rfl
   |some ad=>have:=run_bytesToString (P:=P) m.w ad 0 cx [] (by simp[loadCells,loadCellsFrom,Sem.run_pure]);exact this
  obtain⟨b,off,news,rfl,qj,wU⟩:=xe aR;rw[h1] at qj;have hn:=aer qj;have hl:news.length=es.length:=by rw[hn];simpa using h3
  have aaX:(loadCells ⟨b,off,none⟩ es.length).run P m.w=.ok (ns.map (Value.int .u8)).toArray m.w:=by rw[<- hl,<- hn];exact run_loadCells_list m.w ⟨b,off,none⟩ news fun j v hj=>by rw[Addr.add_lit];exact wU j v hj
  rw[run_bytesToString m.w _ _ cx ns aaX,aen,h2];simp[ByteArray.empty,ByteArray.emptyWithCapacity];rfl
 simp only[execOp,ho,uF,Sem.run_bind,run_convert_bytes_string m.w s d e ax es.length cx hs he hd,key,Result.andThen_ok,Sem.run_pure]
end
end Go.Abs
namespace Go.Abs
variable {P:Program} {w0:World}
theorem Jx{xs:Array Operand}{a:aK}(h:lU xs.toList=some [a]):∃x,xs= #[x]/\bp x=some a:=by
 obtain⟨xs⟩:=xs;cases xs with
 |nil=>simp[lU] at h
 |cons x r=>
  simp only[lU] at h;split at h
  .rename_i y ys e1 e2;cases h;cases r with
   |nil=>exact⟨x,rfl,e1⟩
   |cons z r=>simp only[lU] at e2;split at e2<;>simp at e2
  cases h
theorem Jy{xs:Array Operand}{a b:aK}(h:lU xs.toList=some [a,b]):∃x y,xs= #[x,y]/\bp x=some a/\bp y=some b:=by
 obtain⟨xs⟩:=xs;cases xs with
 |nil=>simp[lU] at h
 |cons x r=>
  simp only[lU] at h;split at h
  .rename_i y ys e1 e2;cases h;obtain⟨z,hz,hz2⟩:=Jx (xs:=r.toArray) (by simpa using e2);have:r=[z]:=by simpa using congrArg Array.toList hz
   subst this;exact⟨x,z,rfl,e1,hz2⟩
  cases h
theorem agR{xs:Array TypeId}{t u:TypeId}(h1:xs[0]?=some t)(h2:xs[1]?=some u)(hs:xs.size=2):xs= #[t,u]:=by
 obtain⟨xs⟩:=xs
 match xs,hs with
 |[a,b],_=>simp at h1 h2;subst h1 h2;rfl
theorem Z9{α:Type}{sz:Nat}{es ys:List (List α)}{off:Nat}(h:∀e∈es,e.length=sz)(hy:∀e∈ys,e.length=sz)(hl:off+ys.length<=es.length):(dM es off ys).flatten=dM es.flatten (off*sz) ys.flatten:=by
 have ht:∀k,k<=es.length->(es.take k).flatten.length=k*sz:=fun k hk=>by rw[B7 fun e he=>h e (sJ he),jt,Bw hk]
 have e1:es.flatten=(es.take off).flatten++(es.drop off).flatten:=by rw[<- zE,xR]
 have e2:es.flatten=(es.take (off+ys.length)).flatten++(es.drop (off+ys.length)).flatten:=by rw[<- zE,xR]
 unfold dM;rw[zE,zE,B7 hy];congr 1
 .congr 1
  conv=>rhs;rw[e1]
  rw[List.take_left' (ht off aa)]
 rw[<- fH]
 conv=>rhs;rw[e2]
 rw[List.drop_left' (ht _ hl)]
theorem ahe{R:PV->Value->Prop}{z:List PV}{v:Array Value}{n:Nat}(hz:Pw R z v.toList):Pw R (List.replicate n z).flatten (Builtin.zeroCells v n).toList:=by
 have kT:z.length=v.size:=by have:=hz.1;simp at this;omega
 have dI:∀e∈List.replicate n z,e.length=v.size:=fun e he=>by rw[Jm he];exact kT
 have hlen:(Builtin.zeroCells v n).toList.length=n*v.size:=by simp[size_zeroCells]
 refine⟨by rw[hlen,B7 dI];simp,fun j x u p q=>?_⟩;have hj:j<n*v.size:=by have:=(bn.1 q).1;omega
 have gM:0<v.size:=by
  rcases Nat.eq_zero_or_pos v.size with h|h
  .rw[h] at hj;omega
  exact h
 have hdiv:j/v.size<n:=by rw[Nat.div_lt_iff_lt_mul gM];exact hj
 have AL:j%v.size<v.size:=eJ _ gM;have he:(List.replicate n z)[j/v.size]?=some z:=by simp[hdiv]
 have h1:=z7 dI he AL;rw[show j/v.size*v.size+j%v.size=j by rw[Nat.mul_comm];exact Nat.div_add_mod j v.size] at h1;rw[h1] at p;have h2:(Builtin.zeroCells v n).toList[j]?=some v[j%v.size]! :=by unfold Builtin.zeroCells;simp[hj]
 rw[h2] at q;cases q;refine hz.2 (j%v.size) x _ p ?_;simp[AL]
section
variable {m:Mem} {aj:Env} {a:Act} {o:Oper} (aq:Ok w0 m) (hr:gi m aj a.tmps)
include aq hr
theorem ae8{c:Call}{x:Operand}{x':aK}{t e:TypeId}{sz bytes:Nat}{z:List PV}{sh:Nat->Bool}{v:V}{u:List dH}{rd:List Nat}(ho:o.op=.call c)(hc:c.callee=.builtin .clear)(has:c.args= #[x])(gJ:c.argTypes[0]?=some t)
  (he:u4 P t=some (e,sz,bytes,z)) (hx:bp x=some x') (hp:aT sh aj m.blk (.clear z x')=.done v u rd):eB P w0 a.eval o m v u:=by
 obtain⟨i,zv,ht,hi,hs,hb,⟨gM,Cj⟩,tz,CF,kT,cn⟩:=Hm he;have jf:=dy hx hr;have run:∀(y:Value) (w':World),(Builtin.clear_ c.argTypes o.type #[a.eval x]).run P m.w=.ok y w'->(execOp a.eval o).run P m.w=.ok (.value y) w':=by intro y w' h;simp[execOp,ho,resolve,hc,has,invoke,builtin,h]
 have quiet:(Builtin.clear_ c.argTypes o.type #[a.eval x]).run P m.w=.ok (.tuple #[]) m.w->eB P w0 a.eval o m (.tup []) []:=fun h=>
  ⟨.tuple #[],m,.inl (run _ _ h),aq,Ev.refl _,rfl,rfl,(⟨#[],rfl,rfl,fun j x u h=>by simp at h⟩:aY m (.tup []) _)⟩
 simp only[aT] at hp;split at hp
 .rename_i hv;cases hp;rw[hv] at jf;have jf:bG m _ (a.eval x):=jf;generalize wS:a.eval x=b at jf;rw[wS] at quiet;apply quiet;cases jf with
  |p h=>cases h;simp[Builtin.clear_,gJ,run_underlying ht]
 .rename_i hv;cases hp;rw[hv] at jf;have jf:bG m _ (a.eval x):=jf;generalize wS:a.eval x=b at jf;rw[wS] at quiet;apply quiet;cases jf with
  |p h=>
   cases h with
   |sB a cap hn hm=>cases a<;>simp[Builtin.clear_,gJ,run_underlying ht]
   |sl b o cap sz f h1 h2 h3 h4=>simp[Builtin.clear_,gJ,run_underlying ht]
 .rename_i id g w off len hv;rw[hv] at jf;have jf:bG m _ (a.eval x):=jf;generalize wS:a.eval x=b at jf;rw[wS] at quiet run;cases jf with
  |hsl ad cap hg hl hm lz=>
   split at hp
   .rename_i h0;cases hp;subst h0;apply quiet;simp[Builtin.clear_,gJ,run_underlying ht]
   rename_i h0;split at hp
   .rename_i g' ty cQ es hbk;split at hp
    .rename_i Fo;obtain⟨gK,hsz,hfit⟩:=Fo;cases hp;have aS:(m.blk id).2=some (.arr ty cQ es):=by rw[hbk]
     obtain⟨_,lz,_⟩:=lz cQ (by rw[hbk];exact gK) (by rw[hbk];rfl);have lz:=lz (.inr aa);subst lz;obtain⟨cur,hh,jR,mD,n9,kB,yz,vn⟩:=aq.obj id _ aS;have hze:∀e∈List.replicate len z,e.length=cQ:=fun e he=>by rw[Jm he];exact hsz.symm
     have abF:zv.cells.size=cQ:=by rw[CF,<- kT,hsz]
     have CE:(List.replicate len z).length=len:=List.length_replicate;have qH:=Z9 (off:=off) mD hze (by rw[CE];exact hfit);have kQ:(off+len)*cQ<=es.length*cQ:=jJ _ hfit;have SY:es.length*cQ<=m.κ id*cQ:=jJ _ n9;rw[fH] at kQ;generalize hZ:(Builtin.zeroCells zv.cells len).toList=Z;have hZl:Z.length=len*cQ:=by rw[<- hZ];simp[size_zeroCells,abF]
     have hZp:∀w own,bQ w own (List.replicate len z).flatten Z:=fun w own=>bQ.pw.2 (by rw[<- hZ];exact ahe (bQ.pw.1 (cn w own)));have HV:∀v∈Z,v.oneCell'=true:=fun v hv=>by
      obtain⟨j,hj⟩:=iV hv;have au:j<(List.replicate len z).flatten.length:=by rw[<- (hZp m.w m.own).1];exact(bn.1 hj).1
      exact((hZp m.w m.own).2 j _ v (ry au) hj).Gq
     have yE:off*cQ+0+Z.length<=cur.size:=by rw[hZl,yz];omega
     have bU:=run_storeCells_at P (m.σ id) (off*cQ) ty Z 0 cur m.w hh yE HV;simp only[vP] at bU;generalize hW:m.w.setRow (m.σ id) (cur.toList.take (off*cQ)++Z++cur.toList.drop (off*cQ+Z.length)).toArray=W at bU;have yx:W.heap.size=m.w.heap.size:=by rw[<- hW];simp
     have yw:∀c,c≠m.σ id->W.heap[c]?=m.w.heap[c]? :=fun c hc=>by rw[<- hW];exact setRow_other m.w (m.σ id) c _ hc
     have Tf:(dM es off (List.replicate len z)).length=es.length:=I9 (by rw[CE];exact hfit);have ek:=Dm (w':=W) (o:=.arr ty cQ (dM es off (List.replicate len z))) aS rfl (by simp[iE]) (by rw[<- hW];rfl) (by rw[<- hW];rfl) (by rw[<- hW];rfl) yx yw;have uB:nK (m.gb W id (.arr ty cQ (dM es off (List.replicate len z)))) id (.arr ty cQ (dM es off (List.replicate len z))):=by
      refine⟨_,by rw[<- hW];exact IX hh,jR,?_,by rw[Tf];exact n9,kB,?_,?_⟩
      .intro e' Ah;unfold dM at Ah;simp only[fk] at Ah;rcases Ah with (h|h)|h
       .exact mD e' (sJ h)
       .exact hze e' h
       exact mD e' (sI h)
      .simp[Mem.gb];omega
      rw[Tf,qH];have h1:=(bQ.pw.1 (vn.ev ek.zero)).dM (bQ.pw.1 (hZp (m.gb W id (.arr ty cQ (dM es off (List.replicate len z)))).w (m.gb W id (.arr ty cQ (dM es off (List.replicate len z)))).own)) (off*cQ);rw[<- VO aa (by simp;omega)] at h1;have h1:=bQ.pw.2 h1
      simpa [dM] using h1
     refine⟨.tuple #[],m.gb W id (.arr ty cQ (dM es off (List.replicate len z))),.inl (run _ _ ?_),GC aS rfl aq (by simp[iE]) (by rw[<- hW];rfl) (by rw[<- hW];rfl) (by rw[<- hW];rfl) yx yw uB,ek,rfl,?_,(⟨#[],rfl,rfl,fun j x u h=>by simp at h⟩:aY _ (.tup []) _)⟩
     .obtain⟨k,rfl⟩:∃k,len=k+1:=⟨len-1,aa⟩;simp[Builtin.clear_,gJ,run_underlying ht,zeroValue,typeInfo,hi,tz,hZ,bU,Mem.gb]
     simp[Mem.gb,app,hbk,gK]
    cases hp
   cases hp
 cases hp
end
section
variable {m:Mem} {aj:Env} {a:Act} {o:Oper} (aq:Ok w0 m) (hr:gi m aj a.tmps)
include aq hr
theorem Uc{t kt e:TypeId}{x k y:Operand}{x' k' y':aK}{kd:Nat}{ag:Bool}{sh:Nat->Bool}{v:V}{u:List dH}{rd:List Nat}(ho:o.op=.mapUpdate t x k y\/o.op=.insert t x k y)(ht:P.underlying t=some (.map kt e))
  (vg:keyOf P kt=some kd) (hx:bp x=some x') (hk:bp k=some k') (hy:bp y=some y') (hp:aT sh aj m.blk (.mupd kd ag x' k' y')=.done v u rd):eB P w0 a.eval o m v u:=by
 simp only[aT] at hp;split at hp
 .rename_i id g q cs e1 e2 e3;split at hp
  .rename_i g' mU es ps e4 e5;split at hp
   .rename_i nX;obtain⟨rfl,rfl,hq⟩:=nX;split at hp
    .rename_i i w hf;cases hp;exact Vs aq hr ho ht vg hx hk hy e1 e4 e2 hq e3 e5 hf
    .rename_i hf;cases hp;exact Vs aq hr ho ht vg hx hk hy e1 e4 e2 hq e3 e5 hf
    cases hp
   cases hp
  cases hp
 cases hp
theorem ada{site:Nat}{sh:Nat->Bool}{p:jk}{v:V}{u:List dH}{rd:List Nat}(hc:zY P site o=some p)(hp:aT sh aj m.blk p=.done v u rd):eB P w0 a.eval o m v u:=by
 unfold zY at hc;split at hc
 · -- move
  rename_i x ho;simp only[cH] at hc;obtain⟨y,h1,rfl⟩:=hc;cases hp;exact Vr aq hr (.inl ho) h1
 · -- assign
  rename_i x ho;simp only[cH] at hc;obtain⟨y,h1,rfl⟩:=hc;cases hp;exact Vr aq hr (.inr ho) h1
 · -- pick
  rename_i c x y ho;split at hc
  .rename_i c' x' y' h1 h2 h3;cases hc;simp only[aT] at hp;split at hp
   .rename_i t ht;cases hp;exact afq aq hr ho h1 h2 h3 ht
   cases hp
  cases hc
 · -- alloc
  rename_i t ho;simp only[cH] at hc;obtain⟨z,h1,rfl⟩:=hc;cases hp;exact ae0 aq ho h1
 · -- box
  rename_i t x ho;simp only[cH] at hc;obtain⟨z,h1,rfl⟩:=hc;simp only[aT] at hp;split at hp
  .rename_i cs bZ;cases hp;exact ae3 aq hr ho h1 bZ
  cases hp
 · -- build
  rename_i t ps ho;split at hc
  .rename_i fs z h1 h2;split at hc
   .rename_i dI;simp only[cH] at hc;obtain⟨qs,h3,rfl⟩:=hc;simp only[aT] at hp;split at hp
    .rename_i rs hrs;cases hp;exact ae7 aq hr ho h1 h2 dI h3 hrs
    cases hp
   cases hc
  .rename_i n e z h1 h2;split at hc
   .rename_i i hi;simp only[cH] at hc;obtain⟨qs,h3,rfl⟩:=hc;simp only[aT] at hp;split at hp
    .rename_i rs hrs;cases hp;exact ae6 aq hr ho h1 h2 hi h3 hrs
    cases hp
   cases hc
  cases hc
 · -- buildSlice
  rename_i t n ps ho;split at hc
  .rename_i e sz bytes z as h1 h2;split at hc
   .rename_i nX;cases hc;simp only[aT] at hp;split at hp
    .rename_i es ig;obtain⟨g1,g2⟩:=ae4 (s:=site) aq hr ho h1 h2 nX.1 nX.2 ig;split at hp
     .rename_i qs hqs;cases hp;exact g1 qs hqs
     cases hp;exact g2
    cases hp
   cases hc
  cases hc
 · -- load
  rename_i t x ho;split at hc
  .rename_i k y h1 h2;cases hc;simp only[aT] at hp;split at hp
   .rename_i cs r bZ;split at hp
    .rename_i v' hv;cases hp;exact aff aq hr ho h1 h2 bZ hv
    cases hp
   cases hp
  cases hc
 · -- store
  rename_i t x y ho;split at hc
  .rename_i n x' y' h1 h2 h3;cases hc;simp only[aT] at hp;split at hp
   .rename_i cs bZ;exact afv aq hr ho h1 h2 h3 bZ hp
   cases hp
  cases hc
 · -- nilCheck
  rename_i x ho;simp only[cH] at hc;obtain⟨y,h1,rfl⟩:=hc;have hu:u=[]/\rd=[]:=by simp only[aT] at hp;split at hp<;>cases hp<;>exact⟨rfl,rfl⟩
  obtain⟨rfl,rfl⟩:=hu;exact afo aq hr ho h1 hp
 · -- binOp
  rename_i op t x y ty ho;split at hc
  .rename_i x' y' h1 h2;have SR:∀(op':BinOp),p=.bin op' x' y'->op'=op->eB P w0 a.eval o m v u:=by
    intro op' e1 e2;subst e1 e2;simp only[aT] at hp;split at hp
    .rename_i v' hv;cases hp;exact ae2 aq hr ho h1 h2 hv
    cases hp
   split at hc
   .cases hc;exact SR _ rfl rfl
   .cases hc;exact SR _ rfl rfl
   split at hc
   .rename_i k hk;cases hc;simp only[aT] at hp;split at hp
    .rename_i b hb;cases hp;exact Vq aq hr (neg:=false) ho (.inl ⟨rfl,rfl⟩) hk h1 h2 hb
    cases hp
   .rename_i k hk;cases hc;simp only[aT] at hp;split at hp
    .rename_i b hb;cases hp;exact Vq aq hr (neg:=true) ho (.inr ⟨rfl,rfl⟩) hk h1 h2 hb
    cases hp
   cases hc
  cases hc
 · -- unOp
  rename_i op t x ho;split at hc
  .simp only[cH] at hc;obtain⟨y,h1,rfl⟩:=hc;simp only[aT] at hp;split at hp
   .rename_i b e1 e2;cases hp;exact afp aq hr ho h1 e2
   .rename_i e1 e2;cases e1
   cases hp
  .simp only[cH] at hc;obtain⟨y,h1,rfl⟩:=hc;simp only[aT] at hp;split at hp
   .rename_i e1 e2;cases e1
   .rename_i k n e1 e2;cases hp;exact afn aq hr ho h1 e2
   cases hp
  cases hc
 · -- convert
  rename_i s d x ho;split at hc
  .rename_i ks k y h1 h2 h3;cases hc;simp only[aT] at hp;split at hp
   .rename_i k0 n hn;cases hp;exact ae9 aq hr ho h1 h2 h3 hn
   cases hp
  .rename_i e y h1 h2 h3;split at hc
   .rename_i he;cases hc;simp only[aT] at hp;split at hp
    .rename_i es r ig;split at hp
     .rename_i bs l5;cases hp;exact ae5 aq hr ho h1 he h2 h3 ig l5
     cases hp
    cases hp
   cases hc
  cases hc
 · -- makeFunc
  rename_i f x y ho;split at hc
  .rename_i x' y' h1 h2;cases hc;simp only[aT] at hp;split at hp
   .rename_i cs ds e1 e2;cases hp;exact afj aq hr ho h1 h2 e1 e2
   cases hp
  cases hc
 · -- makeMap
  rename_i t ho;split at hc
  .simp only[cH] at hc;obtain⟨k,h1,rfl⟩:=hc;cases hp;exact afk (kt:=t) (t:=t) (e:=t) aq ho
  cases hc
 · -- makeSlice
  rename_i t l c ho;split at hc
  .rename_i e sz bytes z l' c' h1 h2 h3;cases hc;simp only[aT] at hp;split at hp
   .rename_i n n' e1 e2;split at hp
    .rename_i nX;obtain⟨rfl,jE⟩:=nX;cases hp;exact afl aq hr ho h1 h2 h3 e1 e2 jE
    cases hp
   cases hp
  cases hc
 · -- slice
  rename_i t x lo hi ho;split at hc
  .rename_i x' xt ux h1 h2 h3;split at hc
   .rename_i e ht;simp only[cH] at hc;obtain⟨sz,h4,rfl⟩:=hc;simp only[aT] at hp;split at hp
    .rename_i n hn;split at hp
     .rename_i l h e1 e2;have hu:u=[]/\rd=[]:=by
       unfold xA at hp;repeat' split at hp
       all_goals first
        |cases hp
        |skip
       all_goals exact⟨rfl,rfl⟩
      obtain⟨rfl,rfl⟩:=hu;exact aft aq hr ho ht h4 h1 h2 h3 hn e1 e2 hp
     cases hp
    cases hp
   .rename_i ht;cases hc;simp only[aT] at hp;split at hp
    .rename_i s hs;split at hp
     .rename_i l h e1 e2;split at hp
      .rename_i nX;cases hp;exact afu aq hr ho ht h1 h2 h3 hs e1 e2 nX.1 nX.2
      cases hp
     cases hp
    cases hp
   cases hc
  cases hc
 · -- fieldAddr
  rename_i s x f ho;split at hc
  .rename_i fs y h1 h2;split at hc
   .rename_i d hd;split at hc
    .rename_i hz;cases hc;have hu:u=[]/\rd=[]:=by
      simp only[aT] at hp;split at hp<;>cases hp<;>exact⟨rfl,rfl⟩
     obtain⟨rfl,rfl⟩:=hu;exact afb aq hr ho h1 hd hz h2 hp
    cases hc
   cases hc
  cases hc
 · -- field
  rename_i t x f ho;split at hc
  .rename_i fs y h1 h2;split at hc
   .rename_i d hd;simp only[cH] at hc;obtain⟨k,h3,rfl⟩:=hc;simp only[aT] at hp;split at hp
    .rename_i cs bZ;split at hp
     .rename_i v' hv;cases hp;exact afc aq hr ho h1 hd h3 h2 bZ hv
     cases hp
    cases hp
   cases hc
  cases hc
 · -- indexAddr
  rename_i t x i ho;split at hc
  .rename_i x' i' h1 h2;split at hc
   .rename_i e ht;simp only[cH] at hc;obtain⟨sz,h3,rfl⟩:=hc;have hu:u=[]/\rd=[]:=by
     simp only[aT] at hp;repeat' split at hp
     all_goals first
      |cases hp
      |skip
     all_goals exact⟨rfl,rfl⟩
    obtain⟨rfl,rfl⟩:=hu;exact afd aq hr ho ht h3 h1 h2 hp
   .rename_i n e ht;simp only[cH] at hc;obtain⟨sz,h3,rfl⟩:=hc;have hu:u=[]/\rd=[]:=by
     simp only[aT] at hp;repeat' split at hp
     all_goals first
      |cases hp
      |skip
     all_goals exact⟨rfl,rfl⟩
    obtain⟨rfl,rfl⟩:=hu;exact aeY aq hr ho ht h3 h1 h2 hp
   cases hc
  cases hc
 · -- index
  rename_i t x i ho;split at hc
  .rename_i x' i' h1 h2;split at hc
   .rename_i n e ht;split at hc
    .rename_i sz k h3 h4;cases hc;simp only[aT] at hp;split at hp
     .rename_i n' cs e1 e2;split at hp
      .rename_i au;split at hp
       .rename_i v' hv;cases hp;exact aeZ aq hr ho ht h3 h4 h1 h2 e1 au e2 hv
       cases hp
      cases hp
     cases hp
    cases hc
   .rename_i ht;cases hc;simp only[aT] at hp;split at hp
    .rename_i n s e1 e2;split at hp
     .rename_i b hb;cases hp;exact afr aq hr ho ht h1 h2 e1 e2 hb
     cases hp
    cases hp
   cases hc
  cases hc
 · -- lookup
  rename_i t x k ok ho;split at hc
  .rename_i kt e x' k' h1 h2 h3;split at hc
   .rename_i z q h4 h5;split at hc
    .rename_i kd h6;split at hc
     .rename_i h7;cases hc;simp only[aT] at hp;split at hp
      .rename_i es r key e1 e2;split at hp
       .cases hp
       rename_i vg;split at hp
       .rename_i f hf;split at hp
        .rename_i w hw;cases hp;exact afg aq hr ho h1 h4 h6 h7 h2 h3 e1 e2 (Classical.not_not.1 vg) hf hw
        cases hp
       cases hp
      cases hp
     cases hc
    cases hc
   cases hc
  cases hc
 · -- mapUpdate
  rename_i t x k y ho;split at hc
  .rename_i kt e x' k' y' h1 h2 h3 h4;split at hc
   .rename_i q h5;simp only[cH] at hc;obtain⟨kd,h6,rfl⟩:=hc;exact Uc aq hr (.inl ho) h1 h6 h2 h3 h4 hp
   cases hc
  cases hc
 · -- insert
  rename_i t x k y ho;split at hc
  .rename_i kt e x' k' y' h1 h2 h3 h4;split at hc
   .rename_i q h5;simp only[cH] at hc;obtain⟨kd,h6,rfl⟩:=hc;exact Uc aq hr (.inr ho) h1 h6 h2 h3 h4 hp
   cases hc
  cases hc
 · -- extract
  rename_i x i ho;simp only[cH] at hc;obtain⟨y,h1,rfl⟩:=hc;simp only[aT] at hp;split at hp
  .rename_i vs mF;split at hp
   .rename_i v' hv;cases hp;exact afa aq hr ho h1 mF hv
   cases hp
  cases hp
 · -- call
  rename_i c ho;split at hc
  .rename_i f as h1 h2;simp only[cH] at hc;obtain⟨y,h3,rfl⟩:=hc;simp only[aT] at hp;repeat' split at hp
   all_goals cases hp
  .rename_i x h1 h2;obtain⟨x0,mG,lG⟩:=Jx h2;split at hc
   .rename_i t ht;split at hc
    .rename_i hu;cases hc;simp only[aT] at hp;split at hp
     .rename_i s hs;cases hp;exact afs aq hr ho h1 mG ht hu lG hs
     cases hp
    .rename_i e hu;cases hc;simp only[aT] at hp;split at hp
     .rename_i n hn;cases hp;exact afe aq hr ho h1 mG ht hu lG hn
     cases hp
    .rename_i k e hu;cases hc;simp only[aT] at hp;split at hp
     .rename_i n r hn;cases hp;exact afm aq hr ho h1 mG ht hu lG hn
     cases hp
    cases hc
   cases hc
  .rename_i x y h1 h2;obtain⟨x0,y0,mG,lG,uD⟩:=Jy h2;split at hc
   .rename_i t u' ht hu;split at hc
    .rename_i e sz bytes z he;split at hc
     .rename_i nX;cases hc;obtain⟨rfl,hsz⟩:=nX;exact ae1 aq hr ho h1 mG (agR ht hu hsz) he lG uD hp
     cases hc
    cases hc
   cases hc
  .rename_i x y h1 h2;obtain⟨x0,y0,mG,lG,uD⟩:=Jy h2;cases hc;simp only[aT] at hp;split at hp
   .rename_i k p k' q e1 e2;cases hp;exact afh aq hr ho h1 mG lG uD e1 e2
   cases hp
  .rename_i x y h1 h2;obtain⟨x0,y0,mG,lG,uD⟩:=Jy h2;cases hc;simp only[aT] at hp;split at hp
   .rename_i k p k' q e1 e2;cases hp;exact afi aq hr ho h1 mG lG uD e1 e2
   cases hp
  .rename_i x h1 h2;obtain⟨x0,mG,lG⟩:=Jx h2;split at hc
   .rename_i t ht;simp only[cH] at hc;obtain⟨⟨e,sz,bytes,z⟩,h3,rfl⟩:=hc;exact ae8 aq hr ho h1 mG ht h3 lG hp
   cases hc
  cases hc
 cases hc
end
end Go.Abs
namespace Go.Abs
variable {P:Program} {w0:World}
section
variable{m:Mem}{cs:List C}
def WH(w:World)(Q:Nat->Prop)(ty sz:Nat)(es:List (List PV))(c:Nat)(v:Value):Prop:=∃cap cur,v=.slice (some ⟨c,0,none⟩) es.length cap/\w.heap[c]?=some (.cells cur ty (0,0))/\0<sz/\(∀e∈es,e.length=sz)/\es.length<=cap/\cap<=maxLen/\cur.size=cap*sz/\bQ w Q es.flatten (cur.toList.take (es.length*sz))
def mT(w:World)(Q:Nat->Prop):List RC->List Value->List Nat->Prop
 |[],vs,bs=>vs=[]/\bs=[]
 | .p x::r,vs,bs=>∃v ka,vs=v::ka/\bh w Q x v/\mT w Q r ka bs
 | .own ty sz es::r,vs,bs=>∃v ka c we,vs=v::ka/\bs=c::we/\WH w Q ty sz es c v/\mT w Q r ka we
theorem mT.mono{w w':World}{Q Q':Nat->Prop}(hk:∀c,c<w.heap.size-> ¬Q c->w'.heap[c]?=w.heap[c]? /\ ¬Q' c):∀ {rs:List RC} {vs:List Value} {bs:List Nat},(∀c∈bs,w'.heap[c]?=w.heap[c]?)->mT w Q rs vs bs->mT w' Q' rs vs bs:=by
 intro rs
 induction rs with
 |nil=>intro vs bs _ h;exact h
 |cons r rs ih=>
  intro vs bs hb h;cases r with
  |p x=>obtain⟨v,ka,rfl,h1,h2⟩:=h;exact⟨v,ka,rfl,h1.mono hk,ih hb h2⟩
  |own ty sz es=>obtain⟨v,ka,c,we,rfl,rfl,⟨cap,cur,e1,e2,e3,e4,e5,e6,e7,e8⟩,h2⟩:=h;exact⟨v,ka,c,we,rfl,rfl,⟨cap,cur,e1,by rw[hb c af];exact e2,e3,e4,e5,e6,e7,e8.mono hk⟩,ih (fun c hc=>hb c (by simp[hc])) h2⟩
theorem mT.less{w:World}{Q Q':Nat->Prop}(h:∀b,Q' b->Q b){rs:List RC}{vs:List Value}{bs:List Nat}(hr:mT w Q rs vs bs):mT w Q' rs vs bs:=hr.mono (fun c _ hn=>⟨rfl,fun hq=>hn (h c hq)⟩) (fun _ _=>rfl)
theorem afG(aq:Ok w0 m){Q:Nat->Prop}(hQ:∀b,Q b->m.own b){c:C}{x:PV}{q:List Nat}{v:Value}(h:snap m.blk dD c=some (x,q))(hr:bG m c v)(hs:∀id∈q,¬Q (m.σ id)):bh m.w Q x v:=Dq aq dD h hr ⟨hQ,hs⟩
theorem UE(aq:Ok w0 m){Q:Nat->Prop}(hQ:∀b,Q b->m.own b):∀ {cs:List C} {rs:List RC} {o q:List Nat} {vs:List Value},kV m.blk cs=some (rs,o,q)->ch m cs vs->(∀id∈q,¬Q (m.σ id))->
  mT m.w Q rs vs (o.map m.σ)/\ ∀id∈o,∃ob,(m.blk id).2=some ob/\ob.eH=true:=by
 intro cs
 induction cs with
 |nil=>
  intro rs o q vs h hr _;simp only[kV,dV,ju] at h;obtain⟨rfl,rfl,rfl⟩:=h;have:vs=[]:=by have:=hr.1;simpa using this
  exact⟨⟨this,rfl⟩,fun id h=>by simp at h⟩
 |cons c cs ih=>
  intro rs o q vs h hr hq;simp only[kV] at h;split at h
  .rename_i x o1 q1 xs os qs h1 h2;cases h;cases vs with
   |nil=>simp[ch] at hr
   |cons v vs=>
    obtain⟨i1,i2⟩:=ih (vs:=vs) h2 ⟨by have:=hr.1;simpa using this,fun j x u a b=>hr.2 (j+1) x u (by simpa using a) (by simpa using b)⟩ (fun id hid=>hq id (by simp[hid]));have hc:bG m c v:=hr.2 0 c v rfl rfl;have snapcase:∀ {y:PV},(snap m.blk dD c).map (fun(v,r)=>((.p v:RC),([]:List Nat),r))=some (x,o1,q1)->mT m.w Q (x::xs) (v::vs) ((o1++os).map m.σ)/\ ∀id∈o1++os,∃ob,(m.blk id).2=some ob/\ob.eH=true:=by intro _ h1;simp only[cH] at h1;obtain⟨⟨y,r⟩,h3,h4⟩:=h1;cases h4;exact⟨⟨v,vs,rfl,afG aq hQ h3 hc (fun id hid=>hq id (by simp[hid])),i1⟩,i2⟩
    unfold jF at h1;split at h1
    .rename_i y;cases h1;have hy:bh m.w m.own y v:=by cases hc with|p h=>exact h
     exact⟨⟨v,vs,rfl,hy.less hQ,i1⟩,i2⟩
    .rename_i id g z len;split at h1
     .rename_i g' ty sz es hb;split at h1
      .rename_i nX;obtain⟨rfl,hlen⟩:=nX;cases h1;have hbo:(m.blk id).2=some (.arr ty sz es):=by rw[hb]
       obtain⟨cur,hh,gM,hsz,hl,qh,bZ,cn⟩:=aq.obj id _ hbo;cases hc with
       |hsl ad cap hg As hmm hhd=>
        obtain⟨f1,f2,f3⟩:=hhd sz (by rw[hb]) (by rw[hb];rfl);have lz:=f2 (.inl rfl);have hcap:=f3 rfl;rw[uV] at lz;subst lz;subst hcap;have au:(es.take len).length=len:=by simp;omega
        refine⟨⟨_,vs,m.σ id,os.map m.σ,rfl,rfl,⟨m.κ id,cur,by rw[au],hh,gM,fun e he=>hsz e (sJ he),by rw[au];exact As,qh,bZ,?_⟩,i1⟩,?_⟩
        .rw[au,B8 hsz];have h1:=(bQ.pw.1 cn).take (len*sz);rw[List.take_take,Bw (jJ _ hlen)] at h1;exact(bQ.pw.2 h1).less hQ
        intro j hj;simp only[List.cons_append,xQ,dU] at hj;rcases hj with rfl|hj
        .exact⟨_,hbo,rfl⟩
        exact i2 j hj
      cases h1
     exact snapcase (y:=.qU) h1
    exact snapcase (y:=.qU) h1
  cases h
theorem Tt:∀(rs:List RC) (site:Nat) (b b':aw),(∀s,site<=s->(b s).1=(b' s).1)->iJ b site rs=iJ b' site rs:=by
 intro rs
 induction rs with
 |nil=>intro site b b' _;rfl
 |cons r rs ih=>
  intro site b b' h;have h1:cY b site r=cY b' site r:=by
   cases r with
   |p x=>rfl
   |own ty sz es=>simp only[cY,h site (bo _)]
  simp only[iJ,h1,ih (site+1) b b' (fun s hs=>h s aa)]
theorem abY{s c k:Nat}{o:Ob}(hc:m.fr c):pN m (m.install s c k o) where
 own x _ hn:=⟨rfl,fun h=>hn (Ib hc h)⟩
 gen id:=by
  simp only[Mem.install,aP];split
  .rename_i e;subst e;exact Nat.le_succ _
  exact bo _
 ref id hg hs:=by
  simp only[Mem.install,aP] at hg hs ⊢;split at hg
  .rename_i e;subst e;simp at hg
  rename_i e;simp only[if_neg e] at hs ⊢;exact⟨hs,trivial,trivial,trivial⟩
theorem pN.trans{a b c:Mem}(h:pN a b)(hs:a.w.heap.size<=b.w.heap.size)(k:pN b c):pN a c where
 own x hx hn:=by have h1:=h.own x hx hn;have h2:=k.own x (xS hx hs) h1.2;exact⟨h2.1.trans h1.1,h2.2⟩
 gen id:=mm (h.gen id) (k.gen id)
 ref id he hs':=by have h1:=h.gen id;have h2:=k.gen id;obtain⟨s1,e1,e2,e3⟩:=k.ref id aa hs';obtain⟨s2,f1,f2,f3⟩:=h.ref id aa s1;exact⟨s2,e1.trans f1,e2.trans f2,e3.trans f3⟩
theorem abL{Gi:Mem}:∀ {rs:List RC} {vs:List Value} {bs:List Nat} {site:Nat} {m:Mem},Ok w0 m->mT m.w m.own rs vs bs->bs.Nodup->(∀c∈bs,m.fr c/\w0.heap.size<=c)->Ev Gi m->(∀c∈bs,Gi.w.heap.size<=c\/Gi.eH c)->
  ∃m',m'.w=m.w/\Ok w0 m'/\Ev Gi m'/\pN m m'/\(∀c,m'.fr c↔m.fr c/\c∉bs)/\m'.blk=app (iJ m.blk site rs).2 m.blk/\ch m' (iJ m.blk site rs).1 vs:=by
 intro rs
 induction rs with
 |nil=>intro vs bs site m aq h _ _ ek _;obtain⟨rfl,rfl⟩:=h;exact⟨m,rfl,aq,ek,⟨fun c _ h=>⟨rfl,h⟩,fun _=>bo _,fun _ _ h=>⟨h,rfl,rfl,rfl⟩⟩,fun c=>af,rfl,rfl,fun j x u h=>by simp[iJ] at h⟩
 |cons r rs ih=>
  intro vs bs site m aq h jq l5 ek Mz;have cons:∀ {m':Mem} {x:C} {xs:List C} {v:Value} {vs:List Value},bG m' x v->ch m' xs vs->ch m' (x::xs) (v::vs):=by
   intro m' x xs v vs h1 h2;refine⟨by simp[h2.1],fun j y u a b=>?_⟩;cases j with
   |zero=>simp at a b;subst a b;exact h1
   |succ j=>simp at a b;exact h2.2 j y u a b
  cases r with
  |p x=>obtain⟨v,ka,rfl,h1,h2⟩:=h;obtain⟨m',e1,e2,e3,e4,e5,e6,e7⟩:=ih (site:=site+1) aq h2 jq l5 ek Mz;exact⟨m',e1,e2,e3,e4,e5,by simpa [iJ,cY] using e6,by simpa [iJ,cY] using cons (bG.p (h1.ev e4)) e7⟩
  |own ty sz es=>
   obtain⟨v,ka,c,we,rfl,rfl,⟨cap,cur,q1,q2,q3,q4,q5,q6,q7,q8⟩,h2⟩:=h;have hfc:=(l5 c af).1;have h0:=abY (s:=site) (k:=cap) (o:=.arr ty sz es) hfc;have hσ:(m.install site c cap (.arr ty sz es)).σ site=c:=by simp[Mem.install,aP]
   have hκ:(m.install site c cap (.arr ty sz es)).κ site=cap:=by simp[Mem.install,aP]
   have oa:Ok w0 (m.install site c cap (.arr ty sz es)):=Ia aq hfc (l5 c af).2
    ⟨cur,by rw[hσ];exact q2,q3,q4,by rw[hκ];exact q5,by rw[hκ];exact q6,by rw[hκ];exact q7,bQ.ev h0 q8⟩
   have S9:=DK.1 jq;obtain⟨m',e1,e2,e3,e4,e5,e6,e7⟩:=ih (site:=site+1) (m:=m.install site c cap (.arr ty sz es)) oa (h2.less fun b hb=>Ib hfc hb) S9.2
    (fun d hd=>⟨⟨(l5 d (by simp[hd])).1,fun e=>S9.1 (e▸hd)⟩,(l5 d (by simp[hd])).2⟩) (H0 ek hfc (Mz c af)) (fun d hd=>Mz d (by simp[hd]))
   have Mq:iJ (m.install site c cap (.arr ty sz es)).blk (site+1) rs=iJ m.blk (site+1) rs:=Tt _ _ _ _ fun s hs=>by simp only[Mem.install,aP];rw[if_neg aa]
   rw[Mq] at e6 e7;refine⟨m',e1,e2,e3,h0.trans (bo _) e4,fun d=>?_,?_,?_⟩
   .rw[e5 d];simp only[Mem.install,dU,not_or];exact⟨fun⟨⟨a,b⟩,c⟩=>⟨a,b,c⟩,fun⟨a,b,c⟩=>⟨⟨a,b⟩,c⟩⟩
   .rw[e6];rfl
   refine cons ?_ e7;have:bG (m.install site c cap (.arr ty sz es)) (.hsl site ((m.blk site).1+1) sz 0 es.length) v:=by
    rw[q1];refine .hsl _ _ ?_ q5 q6 fun z h1 h2=>?_
    .simp[Mem.install,aP]
    have hz:iE ((m.install site c cap (.arr ty sz es)).blk site)=some sz:=by simp[Mem.install,aP,iE]
    rw[hz] at h2;cases h2;exact⟨rfl,fun _=>by rw[hσ,uV],fun _=>hκ.symm⟩
   exact this.ev e4
def sM:RV->Value->List Value->Prop
 | .one _,v,vs=>vs=[v]
 | .agg l,v,vs=>v=.agg vs.toArray/\vs.length=l.length
 | .tup _,_,_=>False
def xU:List RV->List Value->List Value->Prop
 |[],us,vs=>us=[]/\vs=[]
 |r::rs,us,vs=>∃u GO a b,us=u::GO/\vs=a++b/\sM r u a/\xU rs GO b
def zI:RV->Value->List Value->Prop
 | .tup rs,v,vs=>∃arr,v=.tuple arr/\xU rs arr.toList vs
 |r,v,vs=>sM r v vs
theorem ch.take{vs:List Value}(h:ch m cs vs)(n:Nat):ch m (cs.take n) (vs.take n):=ch.pw.2 ((ch.pw.1 h).take n)
theorem ch.drop{vs:List Value}(h:ch m cs vs)(n:Nat):ch m (cs.drop n) (vs.drop n):=ch.pw.2 ((ch.pw.1 h).drop n)
theorem ch.append{ds:List C}{vs us:List Value}(h:ch m cs vs)(k:ch m ds us):ch m (cs++ds) (vs++us):=ch.pw.2 ((ch.pw.1 h).append (ch.pw.1 k))
theorem ch.single{c:C}{v:Value}(h:bG m c v):ch m [c] [v]:=⟨rfl,fun j x u a b=>by
 rcases j with _|j
 .simp at a b;subst a b;exact h
 simp at a⟩
theorem Sh{v:V}{val:Value}(h:lX v=some cs)(hr:kN m v val):
  ∃vs,ch m cs vs/\ ∀(rs tl:List RC),rs.length=cs.length->(qq v (rs++tl)).2=tl/\jy (qq v (rs++tl)).1=rs/\sM (qq v (rs++tl)).1 val vs:=by
 cases v with
 |undef=>simp[lX] at h
 |tup vs=>simp[lX] at h
 |one c=>
  simp only[lX,dV] at h;subst h;refine⟨[val],ch.single hr,fun rs tl hl=>?_⟩
  match rs,hl with
  |[r],_=>exact⟨rfl,rfl,rfl⟩
 |agg ds=>
  simp only[lX,dV] at h;subst h;obtain⟨arr,rfl,hc⟩:=hr;refine⟨arr.toList,hc,fun rs tl hl=>?_⟩;have h1:(rs++tl).take ds.length=rs:=by rw[<- hl];exact List.take_left
  have h2:(rs++tl).drop ds.length=tl:=by rw[<- hl];exact List.drop_left
  simp only[qq,jy,sM,h1,h2,true_and];rw[hc.1,hl]
theorem Z6:∀ {ws:List V} {cs:List C} {vals:List Value},sX ws=some cs->Pw (kN m) ws vals->
  ∃vs,ch m cs vs/\ ∀(rs:List RC),rs.length=cs.length->oO (zo ws rs)=rs/\xU (zo ws rs) vals vs:=by
 intro ws
 induction ws with
 |nil=>
  intro cs vals h hr;simp only[sX,dV] at h;subst h;have hv:vals=[]:=by have:=hr.1;simpa using this
  subst hv;refine⟨[],⟨rfl,fun j x u a=>by simp at a⟩,fun rs hl=>?_⟩;have:rs=[]:=by simpa using hl
  subst this;exact⟨rfl,rfl,rfl⟩
 |cons w ws ih=>
  intro cs vals h hr;simp only[sX] at h;split at h
  .rename_i a b h1 h2;cases h;cases vals with
   |nil=>have:=hr.1;simp at this
   |cons val vals=>
    obtain⟨vs1,fC,jS⟩:=Sh h1 (hr.2 0 w val rfl rfl);obtain⟨vs2,qE,eP⟩:=ih (vals:=vals) h2 ⟨by have:=hr.1;simpa using this,fun j x u p q=>hr.2 (j+1) x u (by simpa using p) (by simpa using q)⟩;refine⟨vs1++vs2,fC.append qE,fun rs hl=>?_⟩;have vh:rs.length=a.length+b.length:=by simpa using hl
    obtain⟨p1,p2,p3⟩:=jS (rs.take a.length) (rs.drop a.length) (by simp;omega);rw[xR] at p1 p2 p3;obtain⟨q1,q2⟩:=eP (rs.drop a.length) (by simp;omega);simp only[zo,oO,p1,p2,q1,xU];exact⟨xR _ _,val,vals,vs1,vs2,rfl,rfl,p3,q2⟩
  cases h
theorem Z5{v:V}{val:Value}(h:qB v=some cs)(hr:aY m v val):
  ∃vs,ch m cs vs/\ ∀(rs:List RC),rs.length=cs.length->iZ (tM v rs)=rs/\zI (tM v rs) val vs:=by
 have one:∀ {v:V},lX v=some cs->kN m v val->(∀rs,tM v rs=(qq v rs).1)->∃vs,ch m cs vs/\ ∀(rs:List RC),rs.length=cs.length->iZ (tM v rs)=rs/\zI (tM v rs) val vs:=by
  intro v h hr he;obtain⟨vs,h1,h2⟩:=Sh h hr;refine⟨vs,h1,fun rs hl=>?_⟩;obtain⟨_,p2,p3⟩:=h2 rs [] hl;rw[qu] at p2 p3;rw[he];generalize (qq v rs).1=y at p2 p3;cases y with
  |tup _=>exact p3.elim
  |one c=>exact⟨p2,p3⟩
  |agg c=>exact⟨p2,p3⟩
 cases v with
 |tup ws=>obtain⟨arr,rfl,hs,hc⟩:=hr;obtain⟨vs,h1,h2⟩:=Z6 (m:=m) (vals:=arr.toList) h ⟨by simpa using hs,fun j x u a b=>hc j x u a (by simpa using b)⟩;exact⟨vs,h1,fun rs hl=>⟨(h2 rs hl).1,arr,rfl,(h2 rs hl).2⟩⟩
 |undef=>simp[qB,lX] at h
 |one c=>exact one h hr fun _=>rfl
 |agg c=>exact one h hr fun _=>rfl
theorem NU{r:RV}{val:Value}{a b:List Value}(hf:sM r val a)(hc:ch m cs (a++b)):kN m (mg r cs).1 val/\ch m (mg r cs).2 b:=by
 cases r with
 |tup _=>exact hf.elim
 |one c=>
  have hf:a=[val]:=hf;subst hf;cases cs with
  |nil=>have:=hc.1;simp at this
  |cons x xs=>exact⟨hc.2 0 x val rfl rfl,by have:=hc.drop 1;simpa [mg] using this⟩
 |agg l=>
  obtain⟨rfl,hl⟩:=hf;refine⟨⟨_,rfl,?_⟩,?_⟩
  .have:=hc.take l.length;rw[<- hl,List.take_left] at this
   simpa [mg,hl] using this
  have:=hc.drop l.length;rw[<- hl,List.drop_left] at this
  simpa [mg,hl] using this
theorem aeB:∀ {rs:List RV} {cs:List C} {us vs:List Value},xU rs us vs->ch m cs vs->Pw (kN m) (rh rs cs) us:=by
 intro rs
 induction rs with
 |nil=>intro cs us vs h _;obtain⟨rfl,rfl⟩:=h;exact⟨rfl,fun j x u a=>by simp[rh] at a⟩
 |cons r rs ih=>
  intro cs us vs h hc;obtain⟨u,GO,a,b,rfl,rfl,h1,h2⟩:=h;obtain⟨p1,p2⟩:=NU h1 hc;have p3:=ih h2 p2;refine⟨by simp[rh,p3.1],fun j x v q1 q2=>?_⟩;cases j with
  |zero=>simp[rh] at q1 q2;subst q1 q2;exact p1
  |succ j=>simp[rh] at q1 q2;exact p3.2 j x v q1 q2
theorem aeA{r:RV}{val:Value}{vs:List Value}(hf:zI r val vs)(hc:ch m cs vs):aY m (re r cs) val:=by
 cases r with
 |tup rs=>obtain⟨arr,rfl,h⟩:=hf;have:=aeB h hc;exact⟨arr,rfl,by simpa using this.1,fun j x u a b=>this.2 j x u a (by simpa using b)⟩
 |one c=>have:=(NU (b:=[]) (show sM (.one c) val vs from hf) (by simpa using hc)).1;exact aY.of1 this
 |agg c=>have:=(NU (b:=[]) (show sM (.agg c) val vs from hf) (by simpa using hc)).1;exact aY.of1 this
end
end Go.Abs
namespace Go.Abs
section
variable{b':aw}{site:Nat}{v:V}{cs:iv}{sh:Ctx}{cp:eN}{aj:Env}
def gh(ids:List Nat)(b b':aw):Prop:=∀id∈ids,b' id=b id
def nJ(ts:List Nat)(e e':Env):Prop:=∀t∈ts,e' t=e t
theorem gh.left{x y:List Nat}{b:aw}(h:gh (x++y) b b'):gh x b b':=fun i hi=>h i (by simp[hi])
theorem gh.right{x y:List Nat}{b:aw}(h:gh (x++y) b b'):gh y b b':=fun i hi=>h i (by simp[hi])
theorem nJ.left{x y:List Nat}{b b':Env}(h:nJ (x++y) b b'):nJ x b b':=fun i hi=>h i (by simp[hi])
theorem nJ.right{x y:List Nat}{b b':Env}(h:nJ (x++y) b b'):nJ y b b':=fun i hi=>h i (by simp[hi])
section
variable {e e':Env}
theorem dQ{a:aK}(h:nJ a.tmps e e'):ev e' a=ev e a:=by
 cases a with
 |t n=>exact h n (by simp[aK.tmps])
 |_=>rfl
theorem Zu:∀ {as:List aK},nJ (zy as) e e'->as.map (ev e')=as.map (ev e):=by
 intro as
 induction as with
 |nil=>intro _;rfl
 |cons a r ih=>intro h;simp only[dE];rw[dQ h.left,ih h.right]
theorem UA:∀ {as:List aK},nJ (zy as) e e'->qW e' as=qW e as:=by
 intro as
 induction as with
 |nil=>intro _;rfl
 |cons a r ih=>intro h;simp only[qW];rw[dQ h.left,ih h.right]
theorem Zg{sz:Nat}:∀ {as:List aK},nJ (zy as) e e'->uh e' sz as=uh e sz as:=by
 intro as
 induction as with
 |nil=>intro _;rfl
 |cons a r ih=>intro h;simp only[uh];rw[dQ h.left,ih h.right]
theorem adn:∀ {as:List (Nat×Nat×aK)},nJ (Ol as) e e'->tG e' as=tG e as:=by
 intro as
 induction as with
 |nil=>intro _;rfl
 |cons a r ih=>intro h;obtain⟨x,y,a⟩:=a;simp only[tG];rw[dQ h.left,ih h.right]
theorem Hg{d:Nat}{a:Option aK}(h:nJ (Oj a) e e'):mV e' d a=mV e d a:=by
 cases a with
 |none=>rfl
 |some a=>simp only[mV];rw[dQ h]
theorem aaa{a:aK}(h:nJ a.tmps e e'):yn e' a=yn e a:=by unfold yn;rw[dQ h]
theorem NG{sh:Nat->Bool}{blk:aw}{p:jk}(h:nJ p.tmps e e'):aT sh e' blk p=aT sh e blk p:=by
 cases p with
 |jh x=>simp only[aT,dQ (a:=x) h]
 |pick c a b=>simp only[aT,dQ (a:=c) h.left.left,dQ (a:=a) h.left.right,dQ (a:=b) h.right]
 |alloc s z=>rfl
 |box s x=>simp only[aT,dQ (a:=x) h]
 |build z ps=>simp only[aT,adn (as:=ps) h]
 |eW s ty sz ps=>simp only[aT,Zg (as:=ps) h]
 |load k x=>simp only[aT,dQ (a:=x) h]
 |store n a x=>simp only[aT,dQ (a:=a) h.left,dQ (a:=x) h.right]
 |tF x=>simp only[aT,dQ (a:=x) h]
 |bin op x y=>simp only[aT,dQ (a:=x) h.left,dQ (a:=y) h.right]
 |eqc k n x y=>simp only[aT,dQ (a:=x) h.left,dQ (a:=y) h.right]
 |un op x=>simp only[aT,dQ (a:=x) h]
 |conv k x=>simp only[aT,dQ (a:=x) h]
 |bstr x=>simp only[aT,dQ (a:=x) h]
 |mkfn f a b=>simp only[aT,UA (as:=a) h.left,UA (as:=b) h.right]
 |mkmap s ag=>rfl
 |ny s ty sz bytes z l c=>simp only[aT,dQ (a:=l) h.left,dQ (a:=c) h.right]
 |slice sz x lo hi=>simp only[aT,dQ (a:=x) h.left.left,Hg (a:=lo) h.left.right,Hg (a:=hi) h.right]
 |sslice x lo hi=>simp only[aT,dQ (a:=x) h.left.left,Hg (a:=lo) h.left.right,Hg (a:=hi) h.right]
 |sW off x=>simp only[aT,dQ (a:=x) h]
 |mH sz x i=>simp only[aT,dQ (a:=x) h.left,dQ (a:=i) h.right]
 |tX l sz x i=>simp only[aT,dQ (a:=x) h.left,dQ (a:=i) h.right]
 |fld off k x=>simp only[aT,dQ (a:=x) h]
 |aidx l sz k x i=>simp only[aT,dQ (a:=x) h.left,dQ (a:=i) h.right]
 |sidx x i=>simp only[aT,dQ (a:=x) h.left,dQ (a:=i) h.right]
 |lookup kd z ag ok x k=>simp only[aT,dQ (a:=x) h.left,dQ (a:=k) h.right]
 |mupd kd ag m k v=>simp only[aT,dQ (a:=m) h.left.left,dQ (a:=k) h.left.right,dQ (a:=v) h.right]
 |bad=>rfl
 |extract x i=>simp only[aT,dQ (a:=x) h]
 |call s f as=>simp only[aT,aaa (a:=f) h.left,Zu (as:=as) h.right]
 |slen x=>simp only[aT,dQ (a:=x) h]
 |xr x=>simp only[aT,dQ (a:=x) h]
 |mlen x=>simp only[aT,dQ (a:=x) h]
 |append s ty sz b x y=>simp only[aT,dQ (a:=x) h.left,dQ (a:=y) h.right]
 |max x y=>simp only[aT,dQ (a:=x) h.left,dQ (a:=y) h.right]
 |min x y=>simp only[aT,dQ (a:=x) h.left,dQ (a:=y) h.right]
 |clear z x=>simp only[aT,dQ (a:=x) h]
end
section
variable {b b':aw}
theorem sV{α β:Type}{f g:α->Option (β×List Nat)}(hf:∀x y r,f x=some (y,r)->gh r b b'->g x=some (y,r)):∀ {xs:List α} {ys:List β} {r:List Nat},collect f xs=some (ys,r)->gh r b b'->collect g xs=some (ys,r):=by
 intro xs
 induction xs with
 |nil=>intro ys r h _;exact h
 |cons x xs ih=>
  intro ys r h ha;simp only[collect] at h ⊢;split at h
  .rename_i y p bs q e1 e2;cases h;rw[hf _ _ _ e1 ha.left,ih e2 ha.right]
  cases h
theorem GH:∀(n:Nat) (c:C) (x:PV) (r:List Nat),snap b n c=some (x,r)->gh r b b'->snap b' n c=some (x,r):=by
 intro n
 induction n with
 |zero=>intro c x r h;simp[snap] at h
 |succ n ih=>
  intro c x r h ha;cases c with
  |p v=>exact h
  |aZ id g off=>
   have hid:id∈r:=by
    simp only[snap] at h
    (repeat' split at h)<;>first
     |cases h
     |skip
    all_goals simp
   have hb:=ha id hid;simp only[snap] at h ⊢;rw[hb];split at h
   .split at h
    .rename_i hg;rw[if_pos hg];split at h
     .rename_i hc;cases h;rw[sV ih hc (fun i hi=>ha i (by simp[hi]))]
     cases h
    cases h
   .exact h
   cases h
  |cJ id g i off=>
   have hid:id∈r:=by
    simp only[snap,cH] at h
    (repeat' split at h)<;>first
     |cases h
     |skip
    all_goals(simp only[cH] at h;obtain⟨e,_,h⟩:=h;cases h;simp)
   have hb:=ha id hid;simp only[snap] at h ⊢;rw[hb];exact h
  |hsl id g z off len=>
   have hid:id∈r:=by
    simp only[snap] at h
    (repeat' split at h)<;>first
     |cases h
     |skip
    all_goals simp
   have hb:=ha id hid;simp only[snap] at h ⊢;rw[hb];split at h
   .exact h
   .exact h
   .split at h
    .rename_i hg;rw[if_pos hg];split at h
     .rename_i hc;cases h;rw[sV (fun _ _ _ p q=>sV ih p q) hc (fun i hi=>ha i (by simp[hi]))]
     cases h
    cases h
   cases h
  |iS id g=>
   have hid:id∈r:=by
    simp only[snap] at h
    (repeat' split at h)<;>first
     |cases h
     |skip
    all_goals simp
   have hb:=ha id hid;simp only[snap] at h ⊢;rw[hb];exact h
  |hfn f x y=>
   simp only[snap] at h ⊢;split at h
   .rename_i h1 h2;cases h;rw[sV ih h1 ha.left,sV ih h2 ha.right]
   cases h
theorem afI(x y:V)(r:List Nat)(h:kJ b x=some (y,r))(ha:gh r b b'):kJ b' x=some (y,r):=by
 cases x with
 |undef=>simp[kJ] at h
 |tup _=>simp[kJ] at h
 |one c=>simp only[kJ,cH] at h ⊢;obtain⟨⟨p,q⟩,h1,h2⟩:=h;cases h2;exact⟨_,GH _ _ _ _ h1 ha,rfl⟩
 |agg cs=>simp only[kJ,cH] at h ⊢;obtain⟨⟨p,q⟩,h1,h2⟩:=h;cases h2;exact⟨_,sV (GH _) h1 ha,rfl⟩
theorem afK{xs ys:List V}{r:List Nat}(h:vG b xs=some (ys,r))(ha:gh r b b'):vG b' xs=some (ys,r):=sV afI h ha
theorem aaf{all:List Nat}{id:Nat}{u:List dH}(h:sY b all id=some u)(hid:id∈all)(ha:gh all b b'):sY b' all id=some u:=by
 have hb:=ha id hid;unfold sY at h ⊢;rw[hb];split at h
 .split at h
  .rename_i ps r hc;split at h
   .rename_i hr;have l8:gh r b b':=fun i hi=>ha i (by have:=im.1 hr i hi;simpa using this);rw[sV (GH _) hc l8];simp only;rw[if_pos hr];exact h
   cases h
  cases h
 .exact h
 .split at h
  .rename_i ps r hc;split at h
   .rename_i hr;have l8:gh r b b':=fun i hi=>ha i (by have:=im.1 hr i hi;simpa using this);rw[sV (fun _ _ _ p q=>sV (GH _) p q) hc l8];simp only;rw[if_pos hr];exact h
   cases h
  cases h
 .exact h
 .cases h
 exact h
theorem aag{all:List Nat}(ha:gh all b b'):∀ {ids:List Nat} {u:List dH},(∀i∈ids,i∈all)->pZ b all ids=some u->pZ b' all ids=some u:=by
 intro ids
 induction ids with
 |nil=>intro u _ h;exact h
 |cons i r ih=>
  intro u hs h;simp only[pZ] at h ⊢;split at h
  .rename_i x y h1 h2;cases h;rw[aaf h1 (hs i af) ha,ih (fun j hj=>hs j (by simp[hj])) h2]
  cases h
theorem EL{ids:List Nat}{u:List dH}(h:oQ b ids=some u)(ha:gh ids b b'):oQ b' ids=some u:=aag ha (fun _ h=>h) h
theorem abJ{r:RC}(h:gh ((cY b site r).2.map (·.1)) b b'):cY b' site r=cY b site r:=by
 cases r with
 |p x=>rfl
 |own ty sz es=>simp only[cY];rw[h site (by simp[cY])]
theorem abK:∀ {rs:List RC} {site:Nat},gh ((iJ b site rs).2.map (·.1)) b b'->iJ b' site rs=iJ b site rs:=by
 intro rs
 induction rs with
 |nil=>intro site _;rfl
 |cons r rs ih=>intro site h;simp only[iJ,uU] at h ⊢;rw[abJ h.left,ih h.right]
theorem Tu{r:RV}(h:gh ((jg b site r).2.map (·.1)) b b'):jg b' site r=jg b site r:=by unfold jg at h ⊢;simp only at h;rw[abK h]
theorem aci{rd:List Nat}{r:RV}{u:List dH}(h:land b rd site r=some (v,u))(ha:gh rd b b')(hu:gh (u.map (·.1)) b b'):land b' rd site r=some (v,u):=by
 unfold land at h ⊢;split at h
 .rename_i hc;rw[if_pos hc];cases h;rw[Tu hu];rfl
 rename_i hc;rw[if_neg hc];split at h
 .rename_i fu hf;cases h;rw[EL hf ha];simp only;rw[uU] at hu;rw[Tu hu.right]
 cases h
theorem U8{x:V}{cs:List C}{r:List Nat}(h:vF b x=some (cs,r))(ha:gh r b b'):vF b' x=some (cs,r):=by
 have key:∀id,(id∈r->b' id=b id):=fun id hid=>ha id hid;unfold vF at h ⊢;split at h
 .exact h
 .rename_i id g off;have hid:id∈r:=by
   (repeat' split at h)<;>first
    |cases h
    |skip
   all_goals simp
  simp only[key id hid];exact h
 .rename_i id g i off;have hid:id∈r:=by
   (repeat' split at h)<;>first
    |cases h
    |skip
   all_goals(simp only[cH] at h;obtain⟨e,_,h⟩:=h;cases h;simp)
  simp only[key id hid];exact h
 cases h
theorem acz{x:V}{n:Nat}{r:List Nat}(h:vr b x=some (n,r))(ha:gh r b b'):vr b' x=some (n,r):=by
 have key:∀id,(id∈r->b' id=b id):=fun id hid=>ha id hid;unfold vr at h ⊢;split at h
 .exact h
 .exact h
 .rename_i id g;have hid:id∈r:=by
   (repeat' split at h)<;>first
    |cases h
    |skip
   all_goals simp
  simp only[key id hid];exact h
 cases h
theorem acT{ag:Bool}{x:V}{es:List (PV×List PV)}{r:List Nat}(h:mapOf b ag x=some (es,r))(ha:gh r b b'):mapOf b' ag x=some (es,r):=by
 have key:∀id,(id∈r->b' id=b id):=fun id hid=>ha id hid;unfold mapOf at h ⊢;split at h
 .exact h
 .exact h
 .rename_i id g;have hid:id∈r:=by
   (repeat' split at h)<;>first
    |cases h
    |skip
   all_goals simp
  simp only[key id hid];exact h
 cases h
theorem Er{x:V}{es:List (List PV)}{r fr:List Nat}(h:eK b x=some (es,r,fr))(ha:gh r b b')(hf:gh fr b b'):eK b' x=some (es,r,fr):=by
 have key:∀id,(id∈r->b' id=b id):=fun id hid=>ha id hid;unfold eK at h ⊢;split at h
 .exact h
 .exact h
 .rename_i id g z off len;have hid:id∈r:=by
   (repeat' split at h)<;>first
    |cases h
    |skip
   all_goals simp
  simp only[key id hid];split at h
  .exact h
  .exact h
  .split at h
   .rename_i hc;rw[if_pos hc];split at h
    .rename_i h1;cases h;rw[sV (fun _ _ _ p q=>sV (GH _) p q) h1 hf]
    cases h
   cases h
  exact h
 cases h
theorem aha{a:V}{n:Nat}{xs:List C}{u:List dH}{r:List Nat}(h:uS b a n xs=.done v u r)(ha:gh r b b'):uS b' a n xs=.done v u r:=by
 have key:∀id,(id∈r->b' id=b id):=fun id hid=>ha id hid;unfold uS at h ⊢;split at h
 .cases h
 rename_i hn;rw[if_neg hn];split at h
 .rename_i id g off;have hid:id∈r:=by
   (repeat' split at h)<;>first
    |cases h
    |skip
   all_goals simp
  simp only[key id hid];exact h
 .rename_i id g i off;have hid:id∈r:=by
   (repeat' split at h)<;>first
    |cases h
    |skip
   all_goals simp
  simp only[key id hid];exact h
 cases h
theorem Xi{ty sz bytes:Nat}{s x:V}{u:List dH}{r:List Nat}(h:fe b site ty sz bytes s x=.done v u r)(ha:gh r b b'):fe b' site ty sz bytes s x=.done v u r:=by
 unfold fe at h ⊢;split at h
 .cases h
 rename_i new rd fr cJ;split at h
 .cases h
 rename_i hsz;split at h
 .cases h
 rename_i fu nh;have sub:∀ {l:List Nat},(∀i∈l,i∈r)->gh l b b':=fun hl i hi=>ha i (hl i hi);split at h
 .split at h
  .rename_i hn;cases h;rw[Er cJ ha.left ha.right];simp only;rw[if_neg hsz,EL nh ha.right];simp only;rw[if_pos hn]
  rename_i hn;split at h
  .rename_i hr;cases h;rw[Er cJ (sub fun i hi=>by simp[hi]) (sub fun i hi=>by simp[hi])];simp only;rw[if_neg hsz,EL nh (sub fun i hi=>by simp[hi])];simp only;rw[if_neg hn,if_pos hr,ha site af]
  cases h
 .split at h
  .cases h
  rename_i hn;split at h
  .rename_i hr;cases h;rw[Er cJ (sub fun i hi=>by simp[hi]) (sub fun i hi=>by simp[hi])];simp only;rw[if_neg hsz,EL nh (sub fun i hi=>by simp[hi])];simp only;rw[if_neg hn,if_pos hr,ha site af]
  cases h
 .rename_i id g z len;split at h
  .rename_i g' mQ cQ es hb;split at h
   .rename_i hr;cases h;rw[Er cJ (sub fun i hi=>by simp[hi]) (sub fun i hi=>by simp[hi])];simp only;rw[if_neg hsz,EL nh (sub fun i hi=>by simp[hi])];simp only;have h1:=ha id af;rw[hb] at h1;simp only[h1];rw[if_pos hr,ha site af]
   cases h
  cases h
 cases h
end
theorem adU{sh:Nat->Bool}{e:Env}{b:aw}{p:jk}{u:List dH}{r:List Nat}(h:aT sh e b p=.done v u r)(ha:gh r b b'):aT sh e b' p=.done v u r:=by
 cases p with
 |alloc s z=>simp only[aT,ej.done.injEq] at h ⊢;obtain⟨h1,h2,h3⟩:=h;rw[ha s (by rw[<- h3];simp)];exact⟨h1,h2,h3⟩
 |mkmap s ag=>simp only[aT,ej.done.injEq] at h ⊢;obtain⟨h1,h2,h3⟩:=h;rw[ha s (by rw[<- h3];simp)];exact⟨h1,h2,h3⟩
 |box s x=>
  simp only[aT] at h ⊢;split at h
  .cases h;rw[ha s af]
  cases h
 |eW s ty sz ps=>
  simp only[aT] at h ⊢;split at h
  .split at h
   .cases h;rw[ha s af]
   cases h;rw[ha s af]
  cases h
 |ny s ty sz bytes z l c=>
  simp only[aT] at h ⊢;split at h
  .split at h
   .rename_i hc;cases h;rw[if_pos hc,ha s af]
   cases h
  cases h
 |load k x=>
  simp only[aT] at h ⊢;split at h
  .rename_i cs q hq;split at h
   .rename_i v' hv;cases h;rw[U8 hq ha];simp only[hv]
   cases h
  cases h
 |store n a x=>
  simp only[aT] at h ⊢;split at h
  .exact aha h ha
  cases h
 |bstr x=>
  simp only[aT] at h ⊢;split at h
  .rename_i es q hq;split at h
   .rename_i bs hb;cases h;rw[Er hq ha (fun i hi=>by simp at hi)];simp only[hb]
   cases h
  cases h
 |lookup kd z ag ok x k=>
  simp only[aT] at h ⊢;split at h
  .rename_i es q key hm hk;split at h
   .cases h
   rename_i vg;split at h
   .rename_i f hf;split at h
    .rename_i w hw;cases h;rw[acT hm ha,hk];simp only;rw[if_neg vg];simp only[hf,hw]
    cases h
   cases h
  cases h
 |clear z x=>
  simp only[aT] at h ⊢;split at h
  .cases h;rfl
  .cases h;rfl
  .rename_i id g w off len e;split at h
   .rename_i h0;cases h;simp only[h0,if_true]
   rename_i h0;split at h
   .rename_i g' ty sz es h4;split at h
    .rename_i hc;cases h;have hb:=ha id af;rw[h4] at hb;rw[if_neg h0];simp only[hb];rw[if_pos hc]
    cases h
   cases h
  cases h
 |mupd kd ag m k v=>
  simp only[aT] at h ⊢;split at h
  .rename_i id g q cs h1 h2 h3;split at h
   .rename_i g' mU es ps h4 h5;split at h
    .rename_i hc;split at h
     .rename_i i w hf;cases h;have hb:=ha id af;rw[h4] at hb;simp only[hb,h5];rw[if_pos hc];simp only[hf]
     .rename_i hf;cases h;have hb:=ha id af;rw[h4] at hb;simp only[hb,h5];rw[if_pos hc];simp only[hf]
     cases h
    cases h
   cases h
  cases h
 |mlen x=>
  simp only[aT] at h ⊢;split at h
  .rename_i n q hq;cases h;rw[acz hq ha]
  cases h
 |append s ty sz bytes x y=>exact Xi h ha
 |call s f as=>
  simp only[aT] at h
  (repeat' split at h)<;>cases h
 |_=>exact h
theorem aeb{sh:Nat->Bool}{e:Env}{b:aw}{p:jk}{f s:Nat}{vs:List V}{r:List Nat}(h:aT sh e b p=.pc f vs r s)(ha:gh r b b'):aT sh e b' p=.pc f vs r s:=by
 cases p with
 |call s f as=>
  simp only[aT] at h ⊢;split at h
  .split at h
   .cases h
   rename_i dY;rw[if_neg dY];split at h
   .rename_i hs;cases h;rw[afK hs ha]
   cases h
  cases h
 |_=>
  (simp only[aT,uS,fe,xA,reduceCtorEq] at h)<;>(repeat' split at h)<;>cases h
theorem aed{sh:Nat->Bool}{e:Env}{b:aw}{p:jk}{f:Nat}{vs:List V}(h:aT sh e b p=.sc f vs):aT sh e b' p=.sc f vs:=by
 cases p with
 |call s f as=>
  simp only[aT] at h ⊢;split at h
  .split at h
   .rename_i dY;rw[if_pos dY];exact h
   split at h<;>cases h
  cases h
 |_=>
  (simp only[aT,uS,fe,xA,reduceCtorEq] at h)<;>(repeat' split at h)<;>cases h
theorem Xg:∀(u:List dH) (b b':aw) (id:Nat),id∈u.map (·.1)->app u b id=app u b' id:=by
 intro u
 induction u with
 |nil=>intro b b' id h;simp at h
 |cons x u ih=>
  intro b b' id h;obtain⟨i,o⟩:=x;simp only[app];by_cases hu:id∈u.map (·.1)
  .exact ih _ _ _ hu
  have hi:id=i:=by simpa [hu] using h
  have key:∀(u:List dH) (b:aw),id∉u.map (·.1)->app u b id=b id:=by
   intro u
   induction u with
   |nil=>intro b _;rfl
   |cons x u ih=>intro b h;obtain⟨j,o⟩:=x;simp only[dE,dU,not_or] at h;simp only[app];rw[ih _ h.2,aP,if_neg h.1]
  rw[key u _ hu,key u _ hu,aP,aP,if_pos hi,if_pos hi]
theorem Jw:∀(u:List dH) (b:aw) (id:Nat),id∉u.map (·.1)->app u b id=b id:=by
 intro u
 induction u with
 |nil=>intro b id _;rfl
 |cons x u ih=>intro b id h;obtain⟨j,o⟩:=x;simp only[dE,dU,not_or] at h;simp only[app];rw[ih _ _ h.2,aP,if_neg h.1]
theorem ag5{e e':Env}{g:Option (Nat×Bool)}(h:∀t w,g=some (t,w)->e' t=e t):wanted e' g=wanted e g:=by
 cases g with
 |none=>rfl
 |some q=>obtain⟨t,w⟩:=q;simp only[wanted,h t w rfl]
def bl.writes(f:bl)(id:Nat):Bool:=f.wr.contains id||f.fs.contains (kI id)
def bl.pK(f:bl)(id:Nat):Bool:=f.rd.contains id||f.writes id
theorem Va{b:aw}:∀(n:Nat) (c:C),gh (jT b n c) b b'->jT b' n c=jT b n c:=by
 intro n
 induction n with
 |zero=>intro c _;rfl
 |succ n ih=>
  have many:∀(cs:List C),gh (cs.map (jT b n)).flatten b b'->(cs.map (jT b' n)).flatten=(cs.map (jT b n)).flatten:=by
   intro cs
   induction cs with
   |nil=>intro _;rfl
   |cons c cs ihc=>intro h;simp only[dE,kb] at h ⊢;rw[ih c h.left,ihc h.right]
  intro c h;cases c with
  |p v=>rfl
  |aZ id g off=>
   simp only[jT] at h ⊢;have hb:=h id af;rw[hb];split
   .rename_i cs Fg;rw[Fg] at h;rw[many cs (fun i hi=>h i (by simp only[dU];exact .inr hi))]
   rfl
  |cJ id g i off=>
   simp only[jT] at h ⊢;have hb:=h id af;rw[hb];split
   .rename_i cs Fg;rw[Fg] at h;rw[many _ (fun i hi=>h i (by simp only[dU];exact .inr hi))]
   rfl
  |hsl id g z off len=>
   simp only[jT] at h ⊢;have hb:=h id af;rw[hb];split
   .rename_i cs Fg;rw[Fg] at h;rw[many _ (fun i hi=>h i (by simp only[dU];exact .inr hi))]
   rfl
  |iS id g=>rfl
  |hfn f x y=>simp only[jT] at h ⊢;rw[many x h.left,many y h.right]
theorem aew{b:aw}(v:V)(h:gh (jG b v) b b'):jG b' v=jG b v:=by
 cases v with
 |undef=>rfl
 |tup _=>rfl
 |one c=>exact Va _ _ h
 |agg cs=>
  simp only[jG] at h ⊢
  induction cs with
  |nil=>rfl
  |cons c cs ih=>simp only[dE,kb] at h ⊢;rw[Va _ c h.left,ih h.right]
theorem W9{f:Nat}{vs:List V}{b:aw}(h:gh (allow sh f vs b).ids b b'):allow sh f vs b'=allow sh f vs b:=by
 have:(vs.map (jG b')).flatten=(vs.map (jG b)).flatten:=by
  unfold allow at h;simp only at h
  induction vs with
  |nil=>rfl
  |cons v vs ih=>simp only[dE,kb] at h ⊢;rw[aew v h.left,ih h.right]
 unfold allow;rw[this]
def uX(cs:iv):Prop:=∀f vs al blk v ak,cs f vs al blk=some (v,ak)->(∀id,al.ok id=false->ak id=blk id)/\
 ∀aN,(∀id,al.ok id=true->aN id=blk id)->∃jM,cs f vs al aN=some (v,jM)/\ ∀id,jM id=if al.ok id then ak id else aN id
theorem Iz{al:Al}{l:List Nat}(h:al.fi l=true){id:Nat}(hid:id∈l):al.ok id=true:=im.1 h id hid
theorem abl{a b:Al}(hb:b.any=false)(h:a.holds b=true){id:Nat}(hid:b.ok id=true):a.ok id=true:=by
 unfold Al.holds at h;simp only[sG,cA] at h;rcases h with h|⟨h1,h2⟩
 .simp[Al.ok,h]
 simp only[Al.ok,hb,xM,sG] at hid;rcases hid with hid|hid
 .exact Iz h1 (by simpa using hid)
 have:=im.1 h2 (kI id) (by simpa using hid);simp only[Al.ok,sG];exact .inr this
theorem Od(bZ:uX cs){o:aI}{aB:Env}{blk ak:aw}{f:bl}(h:step1 sh cp cs o aj blk=some (aB,ak,f)):
  ∃v,aB=put aj o.dst v/\(∀id,f.writes id=false->ak id=blk id)/\(∀id,f.pK id=true->sh.al.ok id=true)/\
   ∀(bH:Env) (aN:aw),nJ o.Bf aj bH->(∀id,f.pK id=true->aN id=blk id)->
    ∃jM,step1 sh cp cs o bH aN=some (put bH o.dst v,jM,f)/\ ∀id,jM id=if f.writes id then ak id else aN id:=by
 have AW:∀(bH:Env),nJ o.Bf aj bH->nJ o.op.tmps aj bH/\wanted bH o.guard=wanted aj o.guard:=by intro bH h;unfold aI.Bf at h;exact⟨h.left,ag5 fun t w hg=>h.right t (by rw[hg];simp)⟩
 have hwr:∀(r w:List Nat) (id:Nat),(⟨r,w,[]⟩:bl).writes id=w.contains id:=by intro r w id;simp[bl.writes]
 have yU:∀(r w:List Nat) (id:Nat),(⟨r,w,[]⟩:bl).pK id=true↔id∈r\/id∈w:=by intro r w id;simp[bl.pK,bl.writes]
 have Tj:∀(u:List dH) (b b2:aw) (r:List Nat) (id:Nat),app u b2 id=if (⟨r,u.map (·.1),[]⟩:bl).writes id then app u b id else b2 id:=by
  intro u b b2 r id;rw[hwr];by_cases hid:id∈u.map (·.1)
  .rw[if_pos (by simpa using hid)];exact Xg _ _ _ _ hid
  rw[if_neg (by simpa using hid)];exact Jw _ _ _ hid
 unfold step1 at h;split at h
 .cases h
 .rename_i hw;cases h;refine⟨.undef,rfl,fun _ _=>rfl,fun id hid=>by simp[bl.pK,bl.writes] at hid,fun bH aN he hb=>⟨aN,?_,fun id=>by simp[bl.writes]⟩⟩;unfold step1;rw[(AW bH he).2,hw]
 rename_i hw;split at h
 .cases h
 .rename_i v u r hp;split at h
  .rename_i aq;cases h;refine⟨v,rfl,fun id hid=>Jw _ _ _ (by rw[hwr] at hid;simpa using hid),fun id hid=>Iz aq (by have:=(yU _ _ _).1 hid;simpa using this),fun bH aN he hb=>⟨app u aN,?_,fun id=>Tj _ _ _ _ _⟩⟩;unfold step1;rw[(AW bH he).2,hw];simp only;rw[NG (AW bH he).1,adU hp fun id hid=>hb id ((yU _ _ _).2 (.inl hid))];simp only;rw[if_pos aq]
  cases h
 .rename_i g vs r s hp;split at h
  .rename_i x hx;split at h
   .rename_i v u hl;split at h
    .rename_i aq;cases h;refine⟨v,rfl,fun id hid=>Jw _ _ _ (by rw[hwr] at hid;simpa using hid),fun id hid=>Iz aq (by have:=(yU _ _ _).1 hid;simp at this ⊢;rcases this with h|h<;>simp[h]),fun bH aN he hb=>⟨app u aN,?_,fun id=>Tj _ _ _ _ _⟩⟩;unfold step1;rw[(AW bH he).2,hw];simp only;rw[NG (AW bH he).1,aeb hp fun id hid=>hb id ((yU _ _ _).2 (.inl (by simp[hid])))];simp only[hx];rw[aci hl (fun id hid=>hb id ((yU _ _ _).2 (.inl (by simp[hid])))) fun id hid=>hb id ((yU _ _ _).2 (.inr hid))];simp only;rw[if_pos aq]
    cases h
   cases h
  cases h
 rename_i g vs hp;split at h
 .rename_i aq;split at h
  .rename_i v b1 hx;cases h;have gI:∀id,(⟨(allow sh g vs blk).ids,(allow sh g vs blk).ids,(allow sh g vs blk).fs⟩:bl).writes id=(allow sh g vs blk).ok id:=by
    intro id;simp[bl.writes,Al.ok,allow]
   have Mm:∀id,(⟨(allow sh g vs blk).ids,(allow sh g vs blk).ids,(allow sh g vs blk).fs⟩:bl).pK id=(allow sh g vs blk).ok id:=by intro id;simp only[bl.pK,gI];simp only[Al.ok];cases (allow sh g vs blk).ids.contains id<;>simp
   obtain⟨l1,l2⟩:=bZ _ _ _ _ _ _ hx;refine⟨v,rfl,fun id hid=>l1 id (by rw[<- gI];exact hid),fun id hid=>abl rfl aq (by rw[<- Mm];exact hid),fun bH aN he hb=>?_⟩;obtain⟨jM,g1,g2⟩:=l2 aN fun id hid=>hb id (by rw[Mm];exact hid);have aaY:allow sh g vs aN=allow sh g vs blk:=W9 fun id hid=>hb id (by rw[Mm];simp[Al.ok,hid]);refine⟨jM,?_,fun id=>by rw[gI];exact g2 id⟩;unfold step1;rw[(AW bH he).2,hw];simp only;rw[NG (AW bH he).1,aed hp];simp only[aaY];rw[if_pos aq];simp only[g1]
  cases h
 cases h
theorem aep(aj:Env){d d':Option Nat}(v v':V)(h:∀t,d=some t->d'≠some t):put (put aj d v) d' v'=put (put aj d' v') d v:=by
 cases d with
 |none=>rfl
 |some t=>
  cases d' with
  |none=>rfl
  |some t'=>
   have aR:t'≠t:=fun e=>h t rfl (by rw[e]);funext x;simp only[put,aP];by_cases h1:x=t
   .subst h1;rw[if_pos rfl,if_neg (fun e=>aR e.symm),if_pos rfl]
   rw[if_neg h1,if_neg h1]
theorem U2{d:Option Nat}{t:Nat}(h:d≠some t):put aj d v t=aj t:=by
 cases d with
 |none=>rfl
 |some x=>simp only[put,aP];rw[if_neg (fun e=>h (by rw[e]))]
theorem Im{a b:List Nat}(h:meets a b=false){i:Nat}(ha:i∈a):i∉b:=by
 intro hb;have:meets a b=true:=by simp only[meets,List.any_eq_true];exact⟨i,ha,by simpa using hb⟩
 rw[h] at this;cases this
theorem MU{fs ids:List Nat}(h:AY fs ids=false){i:Nat}(hi:i∈ids):kI i∉fs:=by
 intro hf;have:AY fs ids=true:=by simp only[AY,List.any_eq_true];exact⟨i,hi,by simpa using hf⟩
 rw[h] at this;cases this
theorem Yz{a b:bl}(h:zW a b=false)(id:Nat):(a.writes id=true->b.pK id=false)/\(b.writes id=true->a.pK id=false):=by
 simp only[zW,Jl] at h;obtain⟨⟨⟨⟨⟨c1,c2⟩,c3⟩,c4⟩,c5⟩,c6⟩:=h;have sw:∀ {x y:List Nat},meets x y=false->meets y x=false:=by
  intro x y h;cases he:meets y x with
  |false=>rfl
  |true=>simp only[meets,List.any_eq_true] at he;obtain⟨i,h1,h2⟩:=he;exact absurd h1 (Im h (by simpa using h2))
 have one:∀ {a b:bl},meets a.wr b.rd=false->meets a.wr b.wr=false->meets a.fs b.fs=false->AY a.fs (b.rd++b.wr)=false->AY b.fs (a.rd++a.wr)=false->a.writes id=true->b.pK id=false:=by
  intro a b c1 c2 c4 c5 c6 hw;simp only[bl.writes,sG] at hw;simp only[bl.pK,bl.writes,Jl];rcases hw with hw|hw
  .have hw:id∈a.wr:=by simpa using hw
   exact⟨by simpa using Im c1 hw,by simpa using Im c2 hw,by simpa using MU c6 (i:=id) (by simp[hw])⟩
  have hw:kI id∈a.fs:=by simpa using hw
  refine⟨?_,?_,?_⟩
  .cases he:b.rd.contains id with
   |false=>rfl
   |true=>exact absurd hw (MU c5 (i:=id) (by simp at he;simp[he]))
  .cases he:b.wr.contains id with
   |false=>rfl
   |true=>exact absurd hw (MU c5 (i:=id) (by simp at he;simp[he]))
  simpa using Im c4 hw
 exact⟨one c1 c2 c4 c5 c6,one (sw c3) (sw c2) (sw c4) c6 c5⟩
theorem swap{sh:Ctx}{cp:eN}{cs:iv}(bZ:uX cs){x y:aI}{aj fA bH:Env}{blk aW aN:aw}{e1 e2:bl}(hx:step1 sh cp cs x aj blk=some (fA,aW,e1))(hy:step1 sh cp cs y fA aW=some (bH,aN,e2))
  (hf:z8 x y=true) (hc:zW e1 e2=false):∃envy blky,step1 sh cp cs y aj blk=some (envy,blky,e2)/\step1 sh cp cs x envy blky=some (bH,aN,e1):=by
 obtain⟨v1,rfl,fr1,_,acK⟩:=Od bZ hx;obtain⟨v2,rfl,fr2,_,acL⟩:=Od bZ hy;have Cm:∀t,x.dst=some t->t∉y.Bf/\y.dst≠some t:=by intro t ht;simp only[z8,ht,cA] at hf;have h1:=hf.1;simp at h1;exact⟨by simpa using h1.1,h1.2⟩
 have tu:∀t,y.dst=some t->t∉x.Bf:=by
  intro t ht;simp only[z8,ht,cA] at hf;have h1:=hf.2
  simpa using h1
 have ef:=Yz hc;have nw:∀ {a b:bl} {id:Nat},(a.writes id=true->b.pK id=false)->b.pK id=true->a.writes id=false:=by
  intro a b id h1 h2;cases h:a.writes id with
  |false=>rfl
  |true=>rw[h1 h] at h2;cases h2
 have wt:∀ {a:bl} {id:Nat},a.writes id=true->a.pK id=true:=by intro a id h;simp[bl.pK,h]
 obtain⟨blky,hy2,yb⟩:=acL aj blk (fun t ht=>(U2 fun e=>(Cm t e).1 ht).symm) (fun id hid=>(fr1 id (nw (ef id).1 hid)).symm);obtain⟨blkx,uD,xb⟩:=acK (put aj y.dst v2) blky (fun t ht=>U2 fun e=>tu t e ht) (fun id hid=>by rw[yb id,nw (ef id).2 hid];rfl)
 refine⟨_,blky,hy2,?_⟩;rw[uD,aep aj v1 v2 fun t ht=>(Cm t ht).2];have:blkx=aN:=by
  funext id;rw[xb id,yb id];cases h1:e1.writes id with
  |true=>have h2:e2.writes id=false:=nw (ef id).2 (wt h1);exact(fr2 id h2).symm
  |false=>
   cases h2:e2.writes id with
   |true=>rfl
   |false=>simp only[iF,if_false];rw[fr2 id h2,fr1 id h1]
 rw[this]
structure It where
 i:Nat
 io:aI
 e:bl
def Hb(x y:It):Prop:=z8 x.io y.io=true/\zW x.e y.e=false
theorem VU{o:aI}{r:List aI}{aB:Env}{blk ak:aw}{e:bl}{es:List bl}(h:steps sh cp cs (o::r) aj blk=some (aB,ak,e::es)):
  ∃fA aW,step1 sh cp cs o aj blk=some (fA,aW,e)/\steps sh cp cs r fA aW=some (aB,ak,es):=by
 simp only[steps] at h;split at h
 .rename_i fA aW e1 h1;split at h
  .rename_i bH aN es2 h2;cases h;exact⟨fA,aW,h1,h2⟩
  cases h
 cases h
theorem agi{o:aI}{r:List aI}{fA aB:Env}{blk aW ak:aw}{e:bl}{es:List bl}(h1:step1 sh cp cs o aj blk=some (fA,aW,e))(h2:steps sh cp cs r fA aW=some (aB,ak,es)):
  steps sh cp cs (o::r) aj blk=some (aB,ak,e::es):=by
 simp only[steps,h1,h2]
theorem agH(bZ:uX cs){y:It}{l2:List It}:∀ {l1:List It} {aj aB:Env} {blk ak:aw},steps sh cp cs ((l1++y::l2).map (·.io)) aj blk=some (aB,ak,(l1++y::l2).map (·.e))->(∀x∈l1,Hb x y)->
  ∃fA aW,step1 sh cp cs y.io aj blk=some (fA,aW,y.e)/\steps sh cp cs ((l1++l2).map (·.io)) fA aW=some (aB,ak,(l1++l2).map (·.e)):=by
 intro l1
 induction l1 with
 |nil=>intro aj aB blk ak h _;exact VU h
 |cons x l1 ih=>intro aj aB blk ak h tk;obtain⟨envx,blkx,h1,h2⟩:=VU h;obtain⟨envy,blky,h3,h4⟩:=ih h2 fun z hz=>tk z (by simp[hz]);obtain⟨en1,bl1,h5,h6⟩:=swap bZ h1 h3 (tk x af).1 (tk x af).2;exact⟨en1,bl1,h5,agi h6 h4⟩
def xT(al:Al)(b b2:aw):Prop:=∀id,al.ok id=true->b2 id=b id
def qx(al:Al)(b' b2 zU:aw):Prop:=∀id,zU id=if al.ok id then b' id else b2 id
def Frame(al:Al)(b b':aw):Prop:=∀id,al.ok id=false->b' id=b id
theorem qx.agree{al:Al}{b2 zU:aw}(h:qx al b' b2 zU):xT al b' zU:=fun id hid=>by rw[h id,hid];rfl
theorem qx.trans{al:Al}{b2 zU b'' Pf:aw}(h:qx al b' b2 zU)(k:qx al b'' zU Pf):qx al b'' b2 Pf:=fun id=>by rw[k id,h id];cases al.ok id<;>rfl
theorem qx.refl{al:Al}{b b2:aw}(h:xT al b b2):qx al b b2 b2:=fun id=>by
 cases hid:al.ok id with
 |true=>exact h id hid
 |false=>rfl
theorem Frame.trans{al:Al}{b b'':aw}(h:Frame al b b')(k:Frame al b' b''):Frame al b b'':=fun id hid=>(k id hid).trans (h id hid)
section
variable {sh:Ctx} {cp:eN} {cs:iv} (bZ:uX cs)
include bZ
theorem age:∀ {ops:List aI} {aj aB:Env} {blk ak:aw} {es:List bl},steps sh cp cs ops aj blk=some (aB,ak,es)->Frame sh.al blk ak/\
  ∀aN,xT sh.al blk aN->∃jM,steps sh cp cs ops aj aN=some (aB,jM,es)/\qx sh.al ak aN jM:=by
 intro ops
 induction ops with
 |nil=>intro aj aB blk ak es h;simp only[steps,dV,ju] at h;obtain⟨rfl,rfl,rfl⟩:=h;exact⟨fun _ _=>rfl,fun aN ha=>⟨aN,rfl,.refl ha⟩⟩
 |cons o ops ih=>
  intro aj aB blk ak es h;simp only[steps] at h;split at h
  .rename_i fA aW e h1;split at h
   .rename_i bH aN fB h2;cases h;obtain⟨v,rfl,fr,tw,loc⟩:=Od bZ h1;obtain⟨f2,g2⟩:=ih h2;have hw:∀id,sh.al.ok id=false->e.writes id=false:=by
     intro id hid;cases hh:e.writes id with
     |false=>rfl
     |true=>have:=tw id (by simp[bl.pK,hh]);rw[hid] at this;cases this
    refine⟨Frame.trans (fun id hid=>fr id (hw id hid)) f2,fun b2 ha=>?_⟩;obtain⟨b1,s1,m1⟩:=loc aj b2 (fun _ _=>rfl) (fun id hid=>ha id (tw id hid));have mB:qx sh.al aW b2 b1:=by
     intro id;rw[m1 id];cases hid:sh.al.ok id with
     |true=>
      cases hh:e.writes id with
      |true=>rfl
      |false=>simp only[iF,if_false,if_true];rw[ha id hid,fr id hh]
     |false=>rw[hw id hid]
    obtain⟨b3,s2,m2⟩:=g2 b1 mB.agree;exact⟨b3,by simp only[steps,s1,s2],mB.trans m2⟩
   cases h
  cases h
theorem ab5{c:Env->aw->Option (jV×Env×aw)}(hc:∀ {aj aB blk ak e},c aj blk=some (e,aB,ak)->Frame sh.al blk ak/\ ∀aN,xT sh.al blk aN->∃jM,c aj aN=some (e,aB,jM)/\qx sh.al ak aN jM):
  ∀(k:Nat) {aj aB:Env} {blk ak:aw} {e:jV},iter c k aj blk=some (e,aB,ak)->Frame sh.al blk ak/\ ∀aN,xT sh.al blk aN->∃jM,iter c k aj aN=some (e,aB,jM)/\qx sh.al ak aN jM:=by
 have _u0:=bZ;intro k
 induction k with
 |zero=>intro aj aB blk ak e h;simp[iter] at h
 |succ k ih=>
  intro aj aB blk ak e h;simp only[iter] at h;split at h
  .rename_i fA aW h1;obtain⟨f1,g1⟩:=hc h1;obtain⟨f2,g2⟩:=ih h;refine⟨f1.trans f2,fun b2 ha=>?_⟩;obtain⟨b1,s1,m1⟩:=g1 b2 ha;obtain⟨b3,s2,m2⟩:=g2 b1 m1.agree;exact⟨b3,by simp only[iter,s1,s2],m1.trans m2⟩
  rename_i aR;obtain⟨f1,g1⟩:=hc h;refine⟨f1,fun b2 ha=>?_⟩;obtain⟨b1,s1,m1⟩:=g1 b2 ha;refine⟨b1,?_,m1⟩;cases e with
  |normal=>exact(aR _ _ h).elim
  |exit i=>simp only[iter,s1]
  |ret=>simp only[iter,s1]
theorem QF{n:Nat}:∀(c:aH) {aj aB:Env} {blk ak:aw} {e:jV},exec sh cp cs n c aj blk=some (e,aB,ak)->Frame sh.al blk ak/\
  ∀aN,xT sh.al blk aN->∃jM,exec sh cp cs n c aj aN=some (e,aB,jM)/\qx sh.al ak aN jM:=by
 intro c
 induction c with
 |skip=>intro aj aB blk ak e h;simp only[exec,dV,ju] at h;obtain⟨rfl,rfl,rfl⟩:=h;exact⟨fun _ _=>rfl,fun b2 ha=>⟨b2,rfl,.refl ha⟩⟩
 |exit id=>intro aj aB blk ak e h;simp only[exec,dV,ju] at h;obtain⟨rfl,rfl,rfl⟩:=h;exact⟨fun _ _=>rfl,fun b2 ha=>⟨b2,rfl,.refl ha⟩⟩
 |ret=>intro aj aB blk ak e h;simp only[exec,dV,ju] at h;obtain⟨rfl,rfl,rfl⟩:=h;exact⟨fun _ _=>rfl,fun b2 ha=>⟨b2,rfl,.refl ha⟩⟩
 |bad=>intro aj aB blk ak e h;simp[exec] at h
 |region d ops=>
  intro aj aB blk ak e h;simp only[exec] at h;split at h
  .rename_i fA aW es h1;obtain⟨f1,g1⟩:=age bZ h1;have he:(e,aB,ak)=(jV.normal,fA,aW)/\(d=true->ow ops [] es=true):=by
    cases d with
    |false=>simp at h;exact⟨by simp[h],fun h=>by cases h⟩
    |true=>
     simp only[if_true] at h;split at h
     .rename_i hd;cases h;exact⟨rfl,fun _=>hd⟩
     cases h
   obtain⟨he,hd⟩:=he;cases he;refine⟨f1,fun b2 ha=>?_⟩;obtain⟨b1,s1,m1⟩:=g1 b2 ha;refine⟨b1,?_,m1⟩;simp only[exec,s1];cases d with
   |false=>simp
   |true=>simp[hd rfl]
  cases h
 |seq a b iha ihb=>
  intro aj aB blk ak e h;simp only[exec] at h;split at h
  .rename_i fA aW h1;obtain⟨f1,g1⟩:=iha h1;obtain⟨f2,g2⟩:=ihb h;refine⟨f1.trans f2,fun b2 ha=>?_⟩;obtain⟨b1,s1,m1⟩:=g1 b2 ha;obtain⟨b3,s2,m2⟩:=g2 b1 m1.agree;exact⟨b3,by simp only[exec,s1,s2],m1.trans m2⟩
  rename_i aR;obtain⟨f1,g1⟩:=iha h;refine⟨f1,fun b2 ha=>?_⟩;obtain⟨b1,s1,m1⟩:=g1 b2 ha;refine⟨b1,?_,m1⟩;cases e with
  |normal=>exact(aR _ _ h).elim
  |exit i=>simp only[exec,s1]
  |ret=>simp only[exec,s1]
 |cond x a b iha ihb=>
  intro aj aB blk ak e h;simp only[exec] at h ⊢;split at h
  .rename_i t ht;cases t with
   |true=>exact iha h
   |false=>exact ihb h
  cases h
 |block id c ih=>
  intro aj aB blk ak e h;simp only[exec] at h;split at h
  .rename_i i fA aW h1;obtain⟨f1,g1⟩:=ih h1;have hb:ak=aW:=by split at h<;>cases h<;>rfl
   subst hb;refine⟨f1,fun b2 ha=>?_⟩;obtain⟨b1,s1,m1⟩:=g1 b2 ha;refine⟨b1,?_,m1⟩;simp only[exec,s1];split at h
   .rename_i hi;cases h;rw[if_pos hi]
   rename_i hi;cases h;rw[if_neg hi]
  rename_i aR;obtain⟨f1,g1⟩:=ih h;refine⟨f1,fun b2 ha=>?_⟩;obtain⟨b1,s1,m1⟩:=g1 b2 ha;refine⟨b1,?_,m1⟩;cases e with
  |normal=>simp only[exec,s1]
  |exit i=>exact(aR _ _ _ h).elim
  |ret=>simp only[exec,s1]
 |loop c ih=>intro aj aB blk ak e h;simp only[exec] at h ⊢;exact ab5 bZ (fun h=>ih h) n h
end
theorem Vc{al:Al}{blk aN:aw}(ha:xT al blk aN):∀ {rs:List (Nat×Option (Option Nat))} {vs:List V},kW al aj blk rs=some vs->kW al aj aN rs=some vs:=by
 intro rs
 induction rs with
 |nil=>intro vs h;exact h
 |cons r rs ih=>
  obtain⟨t,k⟩:=r;cases k with
  |none=>
   intro vs h;simp only[kW] at h ⊢;split at h
   .rename_i v q h1 h2;cases h;simp only[h1,ih h2]
   cases h
  |some k=>
   intro vs h;simp only[kW] at h ⊢;split at h
   .rename_i cs rd q h1 h2;split at h
    .rename_i aq;rw[U8 h1 (fun id hid=>ha id (Iz aq hid)),ih h2];simp only[aq,if_true];exact h
    cases h
   cases h
theorem aeM(bZ:uX cs){n:Nat}{fn:aU}{args:List V}{blk ak:aw}(h:mN sh cp cs n fn args blk=some (v,ak)):Frame sh.al blk ak/\
  ∀aN,xT sh.al blk aN->∃jM,mN sh cp cs n fn args aN=some (v,jM)/\qx sh.al ak aN jM:=by
 unfold mN at h;split at h
 .rename_i aj b hx;simp only[cH] at h;obtain⟨vs,h1,h2⟩:=h;cases h2;obtain⟨f1,g1⟩:=QF bZ _ hx;refine⟨f1,fun b2 ha=>?_⟩;obtain⟨b3,s1,m1⟩:=g1 b2 ha;exact⟨b3,by unfold mN;rw[s1];simp only[Vc m1.agree h1,kM],m1⟩
 .rename_i aj b hx;simp only[cH] at h;obtain⟨vs,h1,h2⟩:=h;cases h2;obtain⟨f1,g1⟩:=QF bZ _ hx;refine⟨f1,fun b2 ha=>?_⟩;obtain⟨b3,s1,m1⟩:=g1 b2 ha;exact⟨b3,by unfold mN;rw[s1];simp only[Vc m1.agree h1,kM],m1⟩
 cases h
end
end Go.Abs
namespace Go.Abs
variable {P:Program} {w0:World}
def mR(w:World)(O:Nat->Prop):V->Value->Prop
 | .one (.p x),v=>bh w O x v
 | .agg cs,v=>∃arr ps,v=.agg arr/\cs=ps.map .p/\bQ w O ps arr.toList
 |_,_=>False
def Enters(P:Program)(f:Nat):Prop:= ∃fn c,P.funcs[f]?=some fn/\fn.body=some c/\(fn.name== "runtime.NumGoroutine")=false
def G0(w:World)(Q:Nat->Prop)(r:RV)(val:Value)(bs:List Nat):Prop:= ∃vs,zI r val vs/\mT w Q (iZ r) vs bs
def qy(w:World)(O:Nat->Prop)(r:RV):Ending->World->Prop:=fun e w'=>∃val bs,e=.returned val/\ew w w'/\bs.Nodup/\(∀c∈bs,w.heap.size<=c/\c<w'.heap.size)/\G0 w' (fun c=>O c\/c∈bs) r val bs
def Good(G:World->Prop)(w:World):Prop:=G w/\ ∀w w',ew w w'->G w->G w'
theorem Ok.SG{m:Mem}(h:Ok w0 m):ew w0 m.w:=⟨h.os,h.tape,h.output,h.size,h.base⟩
theorem mT.pure{w:World}{Q Q':Nat->Prop}(h:∀b,Q' b->Q b):∀ {rs:List RC} {vs:List Value} {bs:List Nat},(∀c∈bs,¬Q' c)->mT w Q rs vs bs->mT w Q' (rs.map RC.pure) vs []:=by
 intro rs
 induction rs with
 |nil=>intro vs bs _ hr;exact⟨hr.1,rfl⟩
 |cons r rs ih=>
  intro vs bs hb hr;have less:∀ {x:PV} {v:Value},bh w Q x v->bh w Q' x v:=fun hp=>hp.mono fun c _ hn=>⟨rfl,fun hq=>hn (h c hq)⟩;cases r with
  |p x=>obtain⟨v,ka,rfl,h1,h2⟩:=hr;exact⟨v,ka,rfl,less h1,ih hb h2⟩
  |own ty sz es=>
   obtain⟨v,ka,c,we,rfl,rfl,⟨cap,cur,e1,e2,e3,e4,e5,e6,e7,e8⟩,h2⟩:=hr;refine⟨v,ka,rfl,?_,ih (fun c hc=>hb c (by simp[hc])) h2⟩;subst e1;refine bh.sl c 0 cap sz (fun j=>cur.toList.getD j undef) (fun _=>hb c af) e5 e6 e4 (fun j x hx=>?_) (fun j x hx=>?_)
   .have hj:j<(cur.toList.take (es.length*sz)).length:=by rw[e8.1];exact(bn.1 hx).1
    have iR:j<cur.size:=by simp at hj;omega
    rw[World.cell?];simp[e2,iR,List.getD,kZ]
   have hj:j<(cur.toList.take (es.length*sz)).length:=by rw[e8.1];exact(bn.1 hx).1
   have iR:j<cur.size:=by simp at hj;omega
   refine less (e8.2 j x _ hx ?_);rw[List.getElem?_take_of_lt (by simp at hj;omega)];simp[iR,List.getD]
theorem sM.pure{r:RV}{v:Value}{vs:List Value}(h:sM r v vs):sM r.A7 v vs/\jy r.A7=(jy r).map RC.pure:=by
 cases r with
 |one c=>exact⟨h,rfl⟩
 |agg cs=>exact⟨⟨h.1,by simpa [RV.A7] using h.2⟩,rfl⟩
 |tup _=>exact h.elim
theorem xU.pure:∀ {rs:List RV} {us vs:List Value},xU rs us vs->xU (rs.map RV.A7) us vs/\oO (rs.map RV.A7)=(oO rs).map RC.pure:=by
 intro rs
 induction rs with
 |nil=>intro us vs h;exact⟨h,rfl⟩
 |cons r rs ih=>
  rintro us vs ⟨u,GO,a,b,rfl,rfl,h1,h2⟩
  obtain⟨p1,p2⟩:=h1.pure;obtain⟨q1,q2⟩:=ih h2;exact⟨⟨u,GO,a,b,rfl,rfl,p1,q1⟩,by simp[oO,p2,q2]⟩
theorem zI.pure{r:RV}{v:Value}{vs:List Value}(h:zI r v vs):zI r.pure v vs/\iZ r.pure=(iZ r).map RC.pure:=by
 cases r with
 |one c=>exact sM.pure (r:=.one c) h
 |agg cs=>exact sM.pure (r:=.agg cs) h
 |tup rs=>obtain⟨arr,rfl,h2⟩:=h;obtain⟨q1,q2⟩:=h2.pure;exact⟨⟨arr,rfl,q1⟩,q2⟩
theorem qy.fx{w w':World}{O:Nat->Prop}{r:RV}{e:Ending}(b:Bool)(hO:∀c,O c->c<w.heap.size)(h:qy w O r e w'):qy w O (r.fx b) e w':=by
 cases b with
 |false=>exact h
 |true=>
  obtain⟨val,bs,rfl,hg,jq,l5,vs,h1,h2⟩:=h;obtain⟨p1,p2⟩:=h1.pure;refine⟨val,[],rfl,hg,List.nodup_nil,fun c hc=>by simp at hc,vs,p1,?_⟩;simp only[RV.fx];rw[p2];refine mT.pure (fun b hb=>?_) (fun c hc hn=>?_) h2
  .rcases hb with hb|hb
   .exact .inl hb
   simp at hb
  rcases hn with hn|hn
  .have:=hO c hn;have:=(l5 c hc).1;omega
  simp at hn
def x8(P:Program)(G:World->Prop)(cp:eN):Prop:=∀f vs r,cp f vs=some r->Enters P f/\ ∀(w:World) (O:Nat->Prop) (args:Array Value),Good G w->(∀c,O c->c<w.heap.size)->Pw (mR w O) vs args.toList->Calls P f args w (qy w O r)
def vR(w0:World)(m:Mem)(v:V)(ak:aw):Ending->World->Prop:=fun e w'=>∃val m',e=.returned val/\m'.w=w'/\Ok w0 m'/\Ev m m'/\m'.fr=m.fr/\m'.blk=ak/\aY m' v val
def zM(P:Program)(G:World->Prop)(cs:iv):Prop:=∀f vs al blk v ak,cs f vs al blk=some (v,ak)->Enters P f/\ ∀(w0:World) (m:Mem) (args:Array Value),Good G w0->Ok w0 m->m.blk=blk->Pw (aY m) vs args.toList->Calls P f args m.w (vR w0 m v ak)
theorem afJ{m:Mem}(aq:Ok w0 m){O:Nat->Prop}{x y:V}{r:List Nat}{v:Value}(h:kJ m.blk x=some (y,r))(hr:aY m x v)(hs:lT m O r):mR m.w O y v:=by
 cases x with
 |undef=>simp[kJ] at h
 |tup vs=>simp[kJ] at h
 |one c=>simp only[kJ,cH] at h;obtain⟨⟨p,r'⟩,h1,h2⟩:=h;cases h2;exact Dq aq dD h1 hr hs
 |agg cs=>simp only[kJ,cH] at h;obtain⟨⟨ps,r'⟩,h1,h2⟩:=h;cases h2;obtain⟨arr,rfl,hc⟩:=aY.agg.1 hr;refine⟨arr,ps,rfl,rfl,?_⟩;exact BX (R:=bG m) (T:=bh m.w O) (gA:=lT m O) (fun _ _=>lT.app) (fun _ _ _ _ h1 h2 h3=>Dq aq dD h1 h2 h3) h1 hs hc
theorem VF{m:Mem}(aq:Ok w0 m){O:Nat->Prop}{xs ys:List V}{r:List Nat}{vs:List Value}(h:vG m.blk xs=some (ys,r))(hr:Pw (aY m) xs vs)(hs:lT m O r):Pw (mR m.w O) ys vs:=BX (R:=aY m) (T:=mR m.w O) (gA:=lT m O) (fun _ _=>lT.app) (fun _ _ _ _ h1 h2 h3=>afJ aq h1 h2 h3) h hs hr
theorem UG{m:Mem}(aq:Ok w0 m){c:Nat}(h:m.own c):c<m.w.heap.size:=by
 rcases h with h|⟨id,o,ho,_,rfl⟩
 .exact aq.frlt c h
 exact(aq.obj id o ho).lt
theorem Vl{w:World}{Q Q':Nat->Prop}{x:PV}{v:Value}(hs:x.scalar=true)(h:bh w Q x v):bh w Q' x v:=by
 cases h<;>first
  |(simp[PV.scalar] at hs;done)
  |constructor
theorem Xa{w:World}{Q Q':Nat->Prop}:∀ {rs:List RC} {vs:List Value} {bs:List Nat},rs.all RC.alone=true->mT w Q rs vs bs->mT w Q' rs vs bs:=by
 intro rs
 induction rs with
 |nil=>intro vs bs _ h;exact h
 |cons r rs ih=>
  intro vs bs ha h;simp only[tQ,cA] at ha;cases r with
  |p x=>obtain⟨v,ka,rfl,h1,h2⟩:=h;exact⟨v,ka,rfl,Vl ha.1 h1,ih ha.2 h2⟩
  |own ty sz es=>obtain⟨v,ka,c,we,rfl,rfl,⟨cap,cur,e1,e2,e3,e4,e5,e6,e7,e8⟩,h2⟩:=h;refine⟨v,ka,c,we,rfl,rfl,⟨cap,cur,e1,e2,e3,e4,e5,e6,e7,e8.1,fun j x u a b=>?_⟩,ih ha.2 h2⟩;refine Vl ?_ (e8.2 j x u a b);have hx:=ba a;obtain⟨e,he,hxe⟩:=List.mem_flatten.1 hx;have h1:=ha.1;simp only[RC.alone] at h1;exact im.1 (im.1 h1 e he) x hxe
theorem TG{m:Mem}{w':World}{x:RV}{val:Value}{bs:List Nat}{site:Nat}(aq:Ok w0 m)(hg:ew m.w w')(jq:bs.Nodup)(l5:∀c∈bs,m.w.heap.size<=c/\c<w'.heap.size)(hr:G0 w' (fun c=>m.own c\/c∈bs) x val bs):
  ∃m',m'.w=w'/\Ok w0 m'/\Ev m m'/\m'.fr=m.fr/\m'.blk=app (jg m.blk site x).2 m.blk/\aY m' (jg m.blk site x).1 val:=by
 obtain⟨vs,h1,h2⟩:=hr;have oa:Ok w0 (m.later w' (· ∈bs)):=Ge aq hg l5;have tq:Ev m (m.later w' (· ∈bs)):=CM hg fun c hc=>(l5 c hc).1;obtain⟨m',e1,e2,e3,_,e5,e6,e7⟩:=abL (Gi:=m) (site:=site) oa (h2.less fun b hb=>TI.1 hb) jq (fun c hc=>⟨.inr hc,mm aq.size (l5 c hc).1⟩) tq (fun c hc=>.inl (l5 c hc).1);refine⟨m',e1,e2,e3,?_,e6,aeA h1 e7⟩;funext c;apply propext;rw[e5 c];constructor
 .rintro ⟨h|h,h2⟩
  .exact h
  exact(h2 h).elim
 intro h;refine⟨.inl h,fun hc=>?_⟩;have h1:=aq.frlt c h;have h2:=(l5 c hc).1;omega
theorem abM{b b':aw}(h:∀s,(b s).1=(b' s).1)(site:Nat)(x:RV):jg b site x=jg b' site x:=by unfold jg;rw[Tt _ site b b' fun s _=>h s]
theorem adu{G:World->Prop}{cp:eN}(hcp:x8 P G cp)(hG:Good G w0){m:Mem}(aq:Ok w0 m){f:Nat}{xs vs:List V}{rd:List Nat}{x:RV}{site:Nat}{v:V}{u:List dH}{args:Array Value}(hc:cp f vs=some x)(hs:vG m.blk xs=some (vs,rd))(rX:Pw (aY m) xs args.toList)
  {pb:Bool} (hl:land m.blk rd site (x.fx pb)=some (v,u)):Calls P f args m.w (vR w0 m v (app u m.blk)):=by
 have wT:∀(w:World) (O:Nat->Prop) (args:Array Value),Good G w->(∀c,O c->c<w.heap.size)->Pw (mR w O) vs args.toList->Calls P f args w (qy w O (x.fx pb)):=fun w O args h1 h2 h3=>((hcp f vs x hc).2 w O args h1 h2 h3).mono fun e w' h=>h.fx pb h2
 generalize x.fx pb=x at hl wT;unfold land at hl;split at hl
 .rename_i nX;cases hl;have key:∀(O:Nat->Prop),(∀c,O c->c<m.w.heap.size)->lT m O rd->(∀w' bs val,G0 w' (fun c=>O c\/c∈bs) x val bs->G0 w' (fun c=>m.own c\/c∈bs) x val bs)->Calls P f args m.w (vR w0 m (jg m.blk site x).1 (app (jg m.blk site x).2 m.blk)):=by
   intro O hO kD uC;refine(wT m.w O args ⟨hG.2 _ _ aq.SG hG.1,hG.2⟩ hO (VF aq hs rX kD)).mono ?_;rintro e w' ⟨val,bs,rfl,hg,jq,l5,hr⟩
   obtain⟨m',e1,e2,e3,e4,e5,e6⟩:=TG (site:=site) aq hg jq l5 (uC w' bs val hr);exact⟨val,m',rfl,e1,e2,e3,e4,e5,e6⟩
  rcases nX with rfl|gI
  .exact key m.own (fun c hc=>UG aq hc) ⟨fun _ h=>h,fun _ h=>by simp at h⟩ fun _ _ _ h=>h
  refine key (fun _=>False) (fun c h=>h.elim) ⟨fun _ h=>h.elim,fun _ _ h=>h⟩ fun w' bs val h=>?_;obtain⟨ka,h1,h2⟩:=h;exact⟨ka,h1,Xa gI h2⟩
 split at hl
 .rename_i fu nh;cases hl;have oa:=Sr aq nh;have tq:=Mf nh;have kD:=Mh aq nh;refine(wT m.w (m.with fu).own args ⟨hG.2 _ _ aq.SG hG.1,hG.2⟩ (fun c hc=>UG oa hc) (VF aq hs rX kD)).mono ?_;rintro e w' ⟨val,bs,rfl,hg,jq,l5,hr⟩
  obtain⟨m',e1,e2,e3,e4,e5,e6⟩:=TG (m:=m.with fu) (site:=site) oa hg jq l5 hr;have Mq:jg (m.with fu).blk site x=jg m.blk site x:=abM (fun s=>EK nh s) site x;rw[Mq] at e5 e6;refine⟨val,m',rfl,e1,e2,tq.trans e3,e4,?_,e6⟩;rw[e5,Hc];rfl
 cases hl
end Go.Abs
namespace Go.Abs
variable {P:Program} {w0:World}
theorem IL{m m':Mem}(ek:Ev m m'){aj:Env}{a:Act}{dst:Option Nat}{v:V}{x:Value}(hr:gi m aj a.tmps)(hv:aY m' v x)(hd:∀d,dst=some d->d<a.tmps.size):gi m' (put aj dst v) (a.put dst x).tmps:=by
 cases dst with
 |none=>exact hr.ev ek
 |some d=>
  intro t;have au:=hd d rfl;simp only[put,Act.put,aP];by_cases ht:t=d
  .subst ht;rw[if_pos rfl];have:(a.tmps.setIfInBounds t x).getD t undef=x:=by simp[au]
   rw[this];exact hv
  rw[if_neg ht];have:(a.tmps.setIfInBounds d x).getD t undef=a.tmps.getD t undef:=by simp only[Array.getD_eq_getD_getElem?];rw[Array.getElem?_setIfInBounds_ne (fun e=>ht e.symm)]
  rw[this];exact(hr t).ev ek.zero
theorem IM(a:Act)(dst:Option Nat)(x:Value):(a.put dst x).tmps.size=a.tmps.size:=by cases dst<;>simp[Act.put]
theorem put_defers(a:Act)(dst:Option Nat)(x:Value):(a.put dst x).defers=a.defers:=by cases dst<;>simp[Act.put]
theorem Wu{m:Mem}{aj:Env}{tmps:Array Value}(hr:gi m aj tmps){ops:Array Oper}{o:Oper}{g:Option (Nat×Bool)}{b:Bool}
  (hg:match o.guard with|none=>g=none|some (j,w)=>∃t,(ops[j]?).bind (·.dst)=some t/\g=some (t,w)) (h:wanted aj g=some b):Region.wanted o (yielded ops tmps)=b:=by
 unfold Region.wanted;cases ho:o.guard with
 |none=>rw[ho] at hg;subst hg;simp only[wanted,dV] at h;exact h
 |some q=>
  obtain⟨j,w⟩:=q;rw[ho] at hg;obtain⟨t,h1,rfl⟩:=hg;have hrt:=hr t;simp only[wanted] at h;simp only[yielded,h1,Option.bind_some];split at h
  .rename_i b' hb;rw[hb] at hrt;have hv:=yX hrt;cases h;have:tmps[t]?=some (.bool b'):=by
    rw[Array.getD_eq_getD_getElem?] at hv;cases he:tmps[t]? with
    |none=>rw[he] at hv;simp[undef] at hv
    |some y=>rw[he] at hv;simp at hv;rw[hv]
   rw[this];rfl
  .rename_i hb;rw[hb] at hrt;cases h;have hv:tmps.getD t undef=undef:=hrt;rw[Array.getD_eq_getD_getElem?] at hv;cases he:tmps[t]? with
   |none=>rfl
   |some y=>rw[he] at hv;simp at hv;rw[hv];rfl
  cases h
theorem Sj{m:Mem}{aj:Env}{f:aK}{v:Value}{g:Nat}{a b:List C}(h:yn aj f=some (g,a,b))(hr:aY m (ev aj f) v):∃A B:Array Value,v=.func (.func g) A B/\ch m a A.toList/\ch m b B.toList:=by
 unfold yn at h;split at h
 .rename_i g' x y he;cases h;rw[he] at hr;obtain⟨hp⟩:bG m _ v:=hr;cases hp with
  |fn A B ha hb qL kC=>exact⟨A,B,rfl,bQ.xK ⟨by simpa using ha,fun j x u p q=>qL j x u p (by simpa using q)⟩,bQ.xK ⟨by simpa using hb,fun j x u p q=>kC j x u p (by simpa using q)⟩⟩
 .rename_i g' x y he;cases h;rw[he] at hr;have hc:bG m _ v:=hr;cases hc with
  |hfn A B ha hb qL kC=>exact⟨A,B,rfl,⟨by simpa using ha,fun j x u p q=>qL j x u p (by simpa using q)⟩,⟨by simpa using hb,fun j x u p q=>kC j x u p (by simpa using q)⟩⟩
 cases h
theorem O5{m:Mem}{aj:Env}{a:Act}(hr:gi m aj a.tmps):∀ {xs:List Operand} {ys:List aK},lU xs=some ys->Pw (aY m) (ys.map (ev aj)) (xs.map a.eval):=by
 intro xs
 induction xs with
 |nil=>intro ys h;simp[lU] at h;subst h;exact⟨rfl,fun j x u p=>by simp at p⟩
 |cons x xs ih=>
  intro ys h;simp only[lU] at h;split at h
  .rename_i y ys' h1 h2;cases h;obtain⟨i1,i2⟩:=ih h2;refine⟨by simpa using i1,fun j z u p q=>?_⟩;cases j with
   |zero=>simp at p q;subst p q;exact dy h1 hr
   |succ j=>exact i2 j z u (by simpa using p) (by simpa using q)
  cases h
theorem IA{m:Mem}{cs:List C}{vs:List Value}(h:ch m cs vs):Pw (aY m) (cs.map .one) vs:=by refine⟨by simpa using h.1,fun j x u p q=>?_⟩;simp only[js,cH] at p;obtain⟨c,hc,rfl⟩:=p;exact aY.one.2 (h.2 j c u hc q)
theorem Yc{f:Nat}(h:Enters P f)(args:Array Value)(w:World):(callFunc f args).run P w=.ok (.enter f args) w:=by
 obtain⟨fn,c,h1,h2,h3⟩:=h;have h4:¬fn.name= "runtime.NumGoroutine" :=by simpa using h3
 simp[callFunc,run_program,h1,h2,h4]
theorem Ps{o:Oper}{c:Call}{fo:Operand}{a:Act}{g:Nat}{A B:Array Value}{w:World}(ho:o.op=.call c)(hc:c.callee=.value fo)(hv:a.eval fo=.func (.func g) A B)(he:Enters P g):
  (execOp a.eval o).run P w=.ok (.enter g (A++c.args.map a.eval++B)) w:=by
 simp[execOp,ho,resolve,hc,hv,Deferred.ofValue,invoke,Yc he]
theorem Us{site:Nat}{o:Oper}{p:jk}(h:zY P site o=some p)(hp:∀s f as,p≠ .call s f as){sh:Nat->Bool}{aj:Env}{blk:aw}:(∀f vs r s,aT sh aj blk p≠ .pc f vs r s)/\ ∀f vs,aT sh aj blk p≠ .sc f vs:=by
 cases p<;>first
  |exact(hp _ _ _ rfl).elim
  |(simp only[aT]
    constructor<;>intros<;>intro h<;>(repeat' split at h)<;>first
     |cases h
     |(simp only[uS,xA,fe] at h;(repeat' split at h)<;>cases h))
theorem PE{site:Nat}{o:Oper}{s:Nat}{f:aK}{as:List aK}(h:zY P site o=some (.call s f as)):∃c fo,o.op=.call c/\c.callee=.value fo/\bp fo=some f/\lU c.args.toList=some as:=by
 unfold zY at h;split at h
 case h_26 c ho=>
  split at h
  .rename_i f' as' h1 h2;simp only[cH] at h;obtain⟨y,h3,h4⟩:=h;cases h4;exact⟨c,f',ho,h1,h3,h2⟩
  all_goals((repeat' split at h)<;>first
   |cases h
   |(simp at h;done))
 all_goals((repeat' split at h)<;>first
  |cases h
  |(simp at h;done))
def zP(w0:World)(m:Mem)(a:Act)(nt:Nat)(aB:Env)(ak:aw)(K:Act->World->Prop):Prop:=∀(a':Act) (m':Mem),Ok w0 m'->Ev m m'->m'.fr=m.fr->m'.blk=ak->gi m' aB a'.tmps->a'.tmps.size=nt->a'.defers=a.defers->K a' m'.w
theorem Wx{o:Oper}{a:Act}{f:Nat}{args:Array Value}{w:World}{K:Act->World->Prop}{Q:Exit->Act->World->Prop}{R:Ending->World->Prop}(jQ:(execOp a.eval o).run P w=.ok (.enter f args) w)(hc:Calls P f args w R)
  (hR:∀e w',R e w'->∃v,e=.returned v/\K (a.put o.dst v) w'):o.wp P a w K Q:=by
 unfold Oper.wp;rw[jQ,Oper.upon_enter];refine hc.mono ?_;intro e w' he;obtain⟨v,rfl,hk⟩:=hR e w' he;exact hk
theorem VT{G:World->Prop}(hG:Good G w0){cp:eN}{cs:iv}(hP:x8 P G cp)(hS:zM P G cs){sh:Ctx}{ops:Array Oper}{base nt anc:Nat}{o:Oper}{io:aI}{m:Mem}{aj aB:Env}{ak:aw}{eff:bl}{a:Act}{K:Act->World->Prop}{Q:Exit->Act->World->Prop}
  (ho:yi P (fun j=>(ops[j]?).bind (·.dst)) base nt anc o=some io) (bU:step1 sh cp cs io aj m.blk=some (aB,ak,eff)) (aq:Ok w0 m) (hr:gi m aj a.tmps) (eO:a.tmps.size=nt) (hK:zP w0 m a nt aB ak K):
  if Region.wanted o (yielded ops a.tmps) then o.wp P a m.w K Q else K (a.put o.dst undef) m.w:=by
 have hio:io.dst=o.dst/\io.op=JS P base o/\(∀d,o.dst=some d->d<nt)/\(match o.guard with|none=>io.guard=none|some (j,w)=>∃t,(ops[j]?).bind (·.dst)=some t/\io.guard=some (t,w)):=by
  unfold yi at ho;split at ho
  .rename_i hd;simp only[cH] at ho;obtain⟨g,hg,rfl⟩:=ho;refine⟨rfl,rfl,fun d he=>?_,?_⟩
   .rw[he] at hd
    simpa [Qq] using hd
   cases hgo:o.guard with
   |none=>rw[hgo] at hg;simp[Mk] at hg;exact hg.symm
   |some q=>obtain⟨j,w⟩:=q;rw[hgo] at hg;simp only[Mk,cH] at hg;obtain⟨t,ht,rfl⟩:=hg;exact⟨t,ht,rfl⟩
  cases ho
 obtain⟨h1,h2,h3,h4⟩:=hio;have hd:∀d,o.dst=some d->d<a.tmps.size:=by rw[eO];exact h3
 unfold step1 at bU;split at bU
 .cases bU
 .rename_i hw;cases bU;rw[Wu hr h4 hw];simp only[iF,if_false];rw[h1] at hK;exact hK _ m aq (Ev.refl m) rfl rfl (IL (Ev.refl m) hr (show aY m .undef undef from rfl) hd) (by rw[IM,eO]) (put_defers _ _ _)
 rename_i hw;rw[Wu hr h4 hw];simp only[if_true];rw[h2] at bU;unfold JS at bU;cases uu:zY P base o with
 |none=>rw[uu] at bU;simp[aT] at bU
 |some p=>
  rw[uu] at bU;simp only[kL] at bU;split at bU
  .cases bU
  .rename_i v u r hp;split at bU
   case isFalse=>cases bU
   cases bU;obtain⟨x,m',aaN,e2,e3,e4,e5,e6⟩:=ada aq hr uu hp;rw[h1] at hK;have hk:=fun x (hx:aY m' v x)=>hK (a.put o.dst x) m' e2 e3 e4 e5 (IL e3 hr hx hd) (by rw[IM,eO]) (put_defers _ _ _);unfold Oper.wp;rcases aaN with hd|⟨hd,rfl⟩
   .rw[hd,Oper.upon_value];exact hk x e6
   rw[hd,Oper.upon_skip];exact hk undef e6
  .rename_i f vs r s hp;by_cases wT:∃s f as,p=.call s f as
   .obtain⟨s',f',as,rfl⟩:=wT;obtain⟨c,fo,g1,g2,g3,g4⟩:=PE uu;simp only[aT] at hp;split at hp
    .rename_i g A B hfn;obtain⟨AV,BV,e1,e2,e3⟩:=Sj hfn (dy g3 hr);split at hp
     .cases hp
     split at hp
     .rename_i ws rd pC;cases hp;split at bU
      .rename_i x hx;split at bU
       .rename_i v u hl;split at bU
        case isFalse=>cases bU
        cases bU;have rX:Pw (aY m) (A.map .one++as.map (ev aj)++B.map .one) (AV++c.args.map a.eval++BV).toList:=by
         have:=((IA e2).append (O5 hr g4)).append (IA e3)
         simpa using this
        refine Wx (Ps g1 g2 e1 (hP _ _ _ hx).1) (adu hP hG aq hx pC rX hl) ?_;rintro e w' ⟨val,m',rfl,rfl,q1,q2,q3,q4,q5⟩
        rw[h1] at hK;exact⟨val,rfl,hK _ m' q1 q2 q3 q4 (IL q2 hr q5 hd) (by rw[IM,eO]) (put_defers _ _ _)⟩
       cases bU
      cases bU
     cases hp
    cases hp
   exact((Us uu (fun s f as e=>wT ⟨s,f,as,e⟩)).1 _ _ _ _ hp).elim
  rename_i f vs hp;by_cases wT:∃s f as,p=.call s f as
  .obtain⟨s',f',as,rfl⟩:=wT;obtain⟨c,fo,g1,g2,g3,g4⟩:=PE uu;simp only[aT] at hp;split at hp
   .rename_i g A B hfn;obtain⟨AV,BV,e1,e2,e3⟩:=Sj hfn (dy g3 hr);split at hp
    .cases hp;split at bU
     case isFalse=>cases bU
     split at bU
     .rename_i v v7 hx;cases bU;have rX:Pw (aY m) (A.map .one++as.map (ev aj)++B.map .one) (AV++c.args.map a.eval++BV).toList:=by
       have:=((IA e2).append (O5 hr g4)).append (IA e3)
       simpa using this
      refine Wx (Ps g1 g2 e1 (hS _ _ _ _ _ _ hx).1) ((hS _ _ _ _ _ _ hx).2 w0 m _ hG aq rfl rX) ?_;rintro e w' ⟨val,m',rfl,rfl,q1,q2,q3,q4,q5⟩
      rw[h1] at hK;exact⟨val,rfl,hK _ m' q1 q2 q3 q4 (IL q2 hr q5 hd) (by rw[IM,eO]) (put_defers _ _ _)⟩
     cases bU
    split at hp<;>cases hp
   cases hp
  exact((Us uu (fun s f as e=>wT ⟨s,f,as,e⟩)).2 _ _ hp).elim
end Go.Abs
namespace Go.Abs
variable {P:Program} {w0:World}
theorem JT{dst anc:Nat->Option Nat}{base nt i:Nat}{o:Oper}{r:List Oper}{l:List aI}(h:rI P dst anc base nt i (o::r)=some l):
  ∃x xs,l=x::xs/\yi P dst ((base+i)*64) nt ((anc i).getD 0) o=some x/\rI P dst anc base nt (i+1) r=some xs:=by
 simp only[rI] at h;split at h
 .rename_i x xs h1 h2;cases h;exact⟨x,xs,rfl,h1,h2⟩
 cases h
section
variable {G:World->Prop} (hG:Good G w0) {cp:eN} {cs:iv} (hP:x8 P G cp) (hS:zM P G cs) {sh:Ctx}
include hG hP hS
theorem ade{ops:Array Oper}{anc:Nat->Option Nat}{base nt:Nat}{Q:Exit->Act->World->Prop}:∀(r:List Oper) {l:List aI} {i:Nat} {aj aB:Env} {m:Mem} {ak:aw} {es:List bl} {a:Act},(∀j,ops[i+j]?=r[j]?)->rI P (fun j=>(ops[j]?).bind (·.dst)) anc base nt i r=some l->
  steps sh cp cs l aj m.blk=some (aB,ak,es)->Ok w0 m->gi m aj a.tmps->a.tmps.size=nt->zP w0 m a nt aB ak (fun a' w'=>Q .normal a' w')->wpOps P ops Q (List.range' i r.length) a m.w:=by
 intro r
 induction r with
 |nil=>intro l i aj aB m ak es a _ hc bU aq hr eO hK;simp[rI] at hc;subst hc;simp only[steps,dV,ju] at bU;obtain⟨rfl,rfl,_⟩:=bU;simp only[fj,List.range'_zero,wpOps];exact hK a m aq (Ev.refl m) rfl rfl hr eO rfl
 |cons o r ih=>
  intro l i aj aB m ak es a FW hc bU aq hr eO hK;obtain⟨x,xs,rfl,h1,h2⟩:=JT hc;simp only[steps] at bU;split at bU
  .rename_i fA aW e1 jS;split at bU
   .rename_i bH aN es2 eP;cases bU;have ho:ops[i]?=some o:=by have:=FW 0;simpa using this
    have key:=VT (Q:=Q) (K:=wpOps P ops Q (List.range' (i+1) r.length)) hG hP hS h1 jS aq hr eO (fun a1 m1 k1 k2 k3 k4 k5 k6 k7=>by subst k4;refine ih (m:=m1) (fun j=>by have:=FW (j+1);rw[show i+1+j=i+(j+1) by omega];simpa using this) h2 eP k1 k5 k6 ?_;intro a2 m2 p1 p2 p3 p4 p5 p6 p7;exact hK a2 m2 p1 (k2.trans p2) (p3.trans k3) p4 p5 p6 (p7.trans k7))
    simp only[dN,List.range'_succ,wpOps,ho];split at key
    .rename_i hw;rw[if_pos hw];exact .inl key
    rename_i hw;rw[if_neg hw];exact key
   cases bU
  cases bU
theorem aey{ops:Array Oper}{anc:Nat->Option Nat}{base nt id:Nat}{Q:Exit->Act->World->Prop}{l:List aI}{aj aB:Env}{m:Mem}{ak:aw}{es:List bl}{a:Act}(hc:rI P (fun j=>(ops[j]?).bind (·.dst)) anc base nt 0 ops.toList=some l)
  (bU:steps sh cp cs l aj m.blk=some (aB,ak,es)) (aq:Ok w0 m) (hr:gi m aj a.tmps) (eO:a.tmps.size=nt) (hK:zP w0 m a nt aB ak (fun a' w'=>Q .normal a' w')):(Code.region id ops false).wp P Q a m.w:=by
 refine wp_region ?_;have:=ade hG hP hS (sh:=sh) (ops:=ops) (Q:=Q) ops.toList (i:=0) (fun j=>af) hc bU aq hr eO hK;rw[List.range_eq_range']
 simpa using this
end
end Go.Abs
namespace Go.Abs
variable {P:Program} {w0:World}
theorem aeo{α β:Type}(g:Array β->α->β):∀(l:List α) (acc:Array β),(l.foldl (fun acc o=>acc.push (g acc o)) acc).size=acc.size+l.length/\
  (∀j,j<acc.size->(l.foldl (fun acc o=>acc.push (g acc o)) acc)[j]?=acc[j]?)/\
  ∀j o,l[j]?=some o->∃pre:Array β,pre.size=acc.size+j/\(∀k,k<pre.size->(l.foldl (fun acc o=>acc.push (g acc o)) acc)[k]?=pre[k]?)/\(l.foldl (fun acc o=>acc.push (g acc o)) acc)[acc.size+j]?=some (g pre o):=by
 intro l
 induction l with
 |nil=>intro acc;exact⟨rfl,fun _ _=>rfl,fun j o h=>by simp at h⟩
 |cons x l ih=>
  intro acc;obtain⟨h1,h2,h3⟩:=ih (acc.push (g acc x));simp only[List.foldl_cons];refine⟨by rw[h1];simp;omega,fun j hj=>?_,fun j o ho=>?_⟩
  .rw[h2 j (by simp;omega),Array.getElem?_push,if_neg aa]
  cases j with
  |zero=>
   simp at ho;subst ho;refine⟨acc,aa,fun k hk=>?_,?_⟩
   .rw[h2 k (by simp;omega),Array.getElem?_push,if_neg aa]
   rw[vP,h2 acc.size af,Array.getElem?_push,if_pos rfl]
  |succ j=>obtain⟨pre,p1,p2,p3⟩:=h3 j o (by simpa using ho);refine⟨pre,by rw[p1];simp;omega,p2,?_⟩;rw[<- p3];simp only[Array.size_push];congr 1;omega
theorem adf{α:Type}(f:α->Bool)(g:α->Nat)(h:α->Nat):∀(l:List α) (s j:Nat),(l.foldl (fun s e=>if f e then s|||g e|||h e else s) s).testBit j=true->s.testBit j=true\/ ∃e∈l,f e=true/\((g e).testBit j=true\/(h e).testBit j=true):=by
 intro l
 induction l with
 |nil=>intro s j hh;exact .inl hh
 |cons x l ih=>
  intro s j hh;simp only[List.foldl_cons] at hh;rcases ih _ j hh with h1|⟨e,he,h2⟩
  .split at h1
   .rename_i hf;simp only[Nat.testBit_or,sG] at h1;rcases h1 with (h1|h1)|h1
    .exact .inl h1
    .exact .inr ⟨x,af,hf,.inl h1⟩
    exact .inr ⟨x,af,hf,.inr h1⟩
   exact .inl h1
  exact .inr ⟨e,by simp[he],h2⟩
theorem XZ{ops:Array Oper}(yy:BH ops=true){i:Nat}{o:Oper}(ho:ops[i]?=some o){j:Nat}(hj:(((Region.before ops)[i]?).getD 0).testBit j=true):
  ∃e∈o.after,Region.binds .any e=true/\e.on<i/\(j=e.on\/(((Region.before ops)[e.on]?).getD 0).testBit j=true):=by
 unfold Region.before at hj ⊢;rw[<- Array.foldl_toList] at hj ⊢;obtain⟨h1,h2,h3⟩:=aeo (fun(acc:Array Nat) (o:Oper)=>o.after.foldl (fun s e=>if Region.binds .any e then s|||2 ^ e.on|||acc.getD e.on 0 else s) 0) ops.toList #[];obtain⟨pre,p1,p2,p3⟩:=h3 i o (by simpa using ho);simp only[Array.size_empty,kZ] at p1 p3;rw[p3] at hj;simp only[kL] at hj;rw[<- Array.foldl_toList] at hj;rcases adf (fun e=>Region.binds .any e) (fun e=>2 ^ e.on) (fun e=>pre.getD e.on 0) _ _ _ hj with h|⟨e,he,hb,Ci⟩
 .simp at h
 have au:i<ops.size:=(Array.getElem?_eq_some_iff.1 ho).1;have FV:e.on<i:=by unfold BH at yy;have:=im.1 yy i (by simpa using au);rw[ho] at this;simp only[Array.all_eq_true'] at this;have:=this e (by simpa using he);simp only[hb,Bp,xM,decide_eq_true_eq] at this;exact this
 refine⟨e,by simpa using he,hb,FV,?_⟩;rcases Ci with Ci|Ci
 .left;rw[Nat.testBit_two_pow] at Ci;have h9:e.on=j:=by simpa using Ci
  exact h9.symm
 right;rw[p2 e.on aa]
 simpa [Array.getD_eq_getD_getElem?] using Ci
theorem PG{dst:Nat->Option Nat}{base nt anc:Nat}{o:Oper}{io:aI}(h:yi P dst base nt anc o=some io):io.anc=anc:=by
 unfold yi at h;split at h
 .simp only[cH] at h;obtain⟨g,_,rfl⟩:=h;rfl
 cases h
structure WG (P:Program) (ops:Array Oper) (base nt:Nat) (rem:List It) (listed:Array Bool):Prop where
 pair:rem.Pairwise fun p q=>p.i<q.i/\(q.io.anc.testBit p.i=true\/Hb p q)
 comp:∀p∈rem,∃o,ops[p.i]?=some o/\yi P (fun j=>(ops[j]?).bind (·.dst)) ((base+p.i)*64) nt (((Region.before ops)[p.i]?).getD 0) o=some p.io
 size:listed.size=ops.size
 free:∀i:Nat,listed[i]?=some false↔ ∃p∈rem,p.i=i
 closed:∀i:Nat,listed[i]?=some true->∀j:Nat,(((Region.before ops)[i]?).getD 0).testBit j=true->listed[j]?=some true
theorem NT{ops:Array Oper}{listed:Array Bool}{i:Nat}:i∈Region.ready .any ops listed↔i<ops.size/\listed.getD i true=false/\ ∃o,ops[i]?=some o/\ ∀e∈o.after,Region.binds .any e=true->listed.getD e.on false=true:=by
 unfold Region.ready;simp only[xP,iN,cA,jU];constructor
 .rintro ⟨h1,h2,h3⟩
  refine⟨h1,h2,ops[i],by simp[h1],fun e he hb=>?_⟩;have ho:ops[i]?=some ops[i]:=by simp[h1]
  rw[ho] at h3;simp only[kM,kL,Array.all_eq_true'] at h3;have:=h3 e he;rw[hb] at this
  simpa using this
 rintro ⟨h1,h2,o,ho,h3⟩
 refine⟨h1,h2,?_⟩;rw[ho];simp only[kM,kL,Array.all_eq_true'];intro e he;cases hb:Region.binds .any e with
 |false=>rfl
 |true=>simp[h3 e he hb]
theorem SC{l:Array Bool}{i:Nat}(h:l.getD i true=false):l[i]?=some false:=by
 rw[Array.getD_eq_getD_getElem?] at h;cases he:l[i]? with
 |none=>rw[he] at h;simp at h
 |some b=>rw[he] at h;simp at h;rw[h]
theorem aaq{l:Array Bool}{i:Nat}(h:l.getD i false=true):l[i]?=some true:=by
 rw[Array.getD_eq_getD_getElem?] at h;cases he:l[i]? with
 |none=>rw[he] at h;simp at h
 |some b=>rw[he] at h;simp at h;rw[h]
section
variable {G:World->Prop} (hG:Good G w0) {cp:eN} {cs:iv} (hP:x8 P G cp) (hS:zM P G cs) (hL:uX cs) {sh:Ctx}
include hG hP hS hL
theorem Xb{ops:Array Oper}(yy:BH ops=true){base nt:Nat}{Q:Exit->Act->World->Prop}{aB:Env}{ak:aw}:∀(fuel:Nat) {rem:List It} {listed:Array Bool} {aj:Env} {m:Mem} {a:Act},WG P ops base nt rem listed->rem.length<=fuel->
  steps sh cp cs (rem.map (·.io)) aj m.blk=some (aB,ak,rem.map (·.e))->Ok w0 m->gi m aj a.tmps->a.tmps.size=nt->zP w0 m a nt aB ak (fun a' w'=>Q .normal a' w')->wpAny P .any ops Q fuel listed a m.w:=by
 intro fuel
 induction fuel with
 |zero=>
  intro rem listed aj m a hl hlen bU aq hr eO hK;have MK:rem=[]:=by
   cases rem with
   |nil=>rfl
   |cons _ _=>simp at hlen
  subst MK;simp only[jj,steps,dV,ju] at bU;obtain⟨rfl,rfl,_⟩:=bU;refine⟨?_,hK a m aq (Ev.refl m) rfl rfl hr eO rfl⟩;refine List.eq_nil_iff_forall_not_mem.2 fun i hi=>?_;obtain⟨_,h2,_⟩:=NT.1 hi;obtain⟨p,hp,_⟩:=(hl.free i).1 (SC h2);simp at hp
 |succ fuel ih=>
  intro rem listed aj m a hl hlen bU aq hr eO hK;refine⟨fun aa6=>?_,fun i hi=>?_⟩
  .cases rem with
   |nil=>simp only[jj,steps,dV,ju] at bU;obtain⟨rfl,rfl,_⟩:=bU;exact hK a m aq (Ev.refl m) rfl rfl hr eO rfl
   |cons p rest=>
    exfalso;obtain⟨o,ho,_⟩:=hl.comp p af;have au:p.i<ops.size:=(Array.getElem?_eq_some_iff.1 ho).1;have vk:p.i∈Region.ready .any ops listed:=by
     refine NT.2 ⟨au,?_,o,ho,fun e he hb=>?_⟩
     .rw[Array.getD_eq_getD_getElem?,(hl.free p.i).2 ⟨p,af,rfl⟩];rfl
     have FV:e.on<p.i:=by unfold BH at yy;have:=im.1 yy p.i (by simpa using au);rw[ho] at this;simp only[Array.all_eq_true'] at this;have:=this e he;simp only[hb,Bp,xM,decide_eq_true_eq] at this;exact this
     have hs:e.on<listed.size:=by rw[hl.size];omega
     rw[Array.getD_eq_getD_getElem?];cases aS:listed[e.on] with
     |true=>simp[hs,aS]
     |false=>
      exfalso;obtain⟨q,hq,yR⟩:=(hl.free e.on).1 (by simp[hs,aS]);rcases dU.1 hq with rfl|hq
      .omega
      have:=((rA.1 hl.pair).1 q hq).1;omega
    rw[aa6] at vk;simp at vk
  obtain⟨h1,h2,o,ho,h3⟩:=NT.1 hi;obtain⟨p,hp,rfl⟩:=(hl.free i).1 (SC h2);obtain⟨l1,l2,rfl⟩:=List.append_of_mem hp;obtain⟨o',je,uu⟩:=hl.comp p hp;rw[ho] at je;cases je;have SN:∀j:Nat,p.io.anc.testBit j=true->listed[j]?=some true:=by
   intro j hj;rw[PG uu] at hj;obtain⟨e,he,hb,_,vm⟩:=XZ yy ho hj;have FV:=aaq (h3 e he hb);rcases vm with rfl|vm
   .exact FV
   exact hl.closed _ FV j vm
  have Cx:=List.pairwise_append.1 hl.pair;have aaR:∀x∈l1,Hb x p:=by
   intro x hx;rcases(Cx.2.2 x hx p af).2 with h|h
   .have:=SN _ h;rw[(hl.free x.i).2 ⟨x,by simp[hx],rfl⟩] at this;cases this
   exact h
  obtain⟨fA,aW,jS,eP⟩:=agH hL bU aaR;have key:=VT (Q:=Q) (K:=wpAny P .any ops Q fuel (listed.setIfInBounds p.i true)) hG hP hS uu jS aq hr eO (fun a1 m1 k1 k2 k3 k4 k5 k6 k7=>by
   subst k4;have au:p.i<listed.size:=by rw[hl.size];exact h1
   refine ih (rem:=l1++l2) ⟨?_,fun q hq=>hl.comp q (by rcases fk.1 hq with h|h<;>simp[h]),by simp[hl.size],fun k=>?_,fun k hk j hj=>?_⟩ (by simp at hlen ⊢;omega) eP k1 k5 k6 ?_
   .refine List.pairwise_append.2 ⟨Cx.1,(rA.1 Cx.2.1).2,fun x hx y hy=>Cx.2.2 x hx y (by simp[hy])⟩
   .rw[Array.getElem?_setIfInBounds];by_cases hk:p.i=k
    .subst hk;rw[if_pos rfl,if_pos au];constructor
     .intro h;cases h
     rintro ⟨q,hq,yR⟩
     rcases fk.1 hq with h|h
     .have:=(Cx.2.2 q h p af).1;omega
     have:=((rA.1 Cx.2.1).1 q h).1;omega
    rw[if_neg hk,hl.free k];constructor
    .rintro ⟨q,hq,yR⟩
     rcases fk.1 hq with h|h
     .exact⟨q,by simp[h],yR⟩
     rcases dU.1 h with rfl|h
     .exact(hk yR).elim
     exact⟨q,by simp[h],yR⟩
    rintro ⟨q,hq,yR⟩
    rcases fk.1 hq with h|h
    .exact⟨q,by simp[h],yR⟩
    exact⟨q,by simp[h],yR⟩
   .have uC:∀j:Nat,listed[j]?=some true->(listed.setIfInBounds p.i true)[j]?=some true:=by
     intro j hj;rw[Array.getElem?_setIfInBounds];split
     .first
       |rfl
       |(rename_i e;rw[if_pos au])
     exact hj
    by_cases nj:p.i=k
    .subst nj;refine uC j (SN j ?_);rw[PG uu];exact hj
    rw[Array.getElem?_setIfInBounds,if_neg nj] at hk;exact uC j (hl.closed k hk j hj)
   intro a2 m2 p1 p2 p3 p4 p5 p6 p7;exact hK a2 m2 p1 (k2.trans p2) (p3.trans k3) p4 p5 p6 (p7.trans k7))
  unfold wpOp;rw[ho];simp only;split at key
  .rename_i hw;rw[if_pos hw];exact .inl key
  rename_i hw;rw[if_neg hw];exact key
end
def oq:Nat->List aI->List bl->List It
 |i,x::xs,e::es=>⟨i,x,e⟩::oq (i+1) xs es
 |_,_,_=>[]
theorem ac0:∀ {xs:List aI} {es:List bl} (i:Nat),es.length=xs.length->(oq i xs es).map (·.io)=xs/\(oq i xs es).map (·.e)=es:=by
 intro xs
 induction xs with
 |nil=>intro es i h;cases es with
  |nil=>exact⟨rfl,rfl⟩
  |cons _ _=>simp at h
 |cons x xs ih=>intro es i h;cases es with
  |nil=>simp at h
  |cons e es=>obtain⟨h1,h2⟩:=ih (es:=es) (i+1) (by simpa using h);exact⟨by simp[oq,h1],by simp[oq,h2]⟩
theorem aac{o:aI}:∀ {past:List aI} {j:Nat},HE o j past=true->∀k x,past[k]?=some x->o.anc.testBit (j+k)=true\/z8 x o=true:=by
 intro past
 induction past with
 |nil=>intro j _ k x h;simp at h
 |cons y past ih=>
  intro j h k x hk;simp only[HE,cA,sG] at h;cases k with
  |zero=>simp at hk;subst hk;exact h.1
  |succ k=>have:=ih h.2 k x (by simpa using hk);rw[show j+(k+1)=j+1+k by omega];exact this
theorem ac8{anc:Nat}{e:bl}:∀ {past:List bl} {j:Nat},Iw anc e j past=true->∀k x,past[k]?=some x->anc.testBit (j+k)=true\/zW x e=false:=by
 intro past
 induction past with
 |nil=>intro j _ k x h;simp at h
 |cons y past ih=>
  intro j h k x hk;simp only[Iw,cA,sG,jU] at h;cases k with
  |zero=>simp at hk;subst hk;exact h.1
  |succ k=>have:=ih h.2 k x (by simpa using hk);rw[show j+(k+1)=j+1+k by omega];exact this
theorem ac1:∀ {xs:List aI} {es:List bl} {past:List aI} {pe:List bl},es.length=xs.length->pe.length=past.length->EI xs past=true->ow xs pe es=true->
  (∀(q:It),q∈oq past.length xs es->∀(k:Nat) (x:aI) (e:bl),past[k]?=some x->pe[k]?=some e->q.io.anc.testBit k=true\/(z8 x q.io=true/\zW e q.e=false))/\
  (∀q∈oq past.length xs es,past.length<=q.i)/\(oq past.length xs es).Pairwise fun p q=>p.i<q.i/\(q.io.anc.testBit p.i=true\/Hb p q):=by
 intro xs
 induction xs with
 |nil=>
  intro es past pe _ _ _ _;have:oq past.length [] es=[]:=by cases es<;>rfl
  rw[this];exact⟨fun q h=>by simp at h,fun q h=>by simp at h,.nil⟩
 |cons x xs ih=>
  intro es past pe hl hp hf hd;cases es with
  |nil=>simp at hl
  |cons e es=>
   simp only[EI,cA] at hf;simp only[ow,cA] at hd;obtain⟨i1,i2,i3⟩:=ih (es:=es) (past:=past++[x]) (pe:=pe++[e]) (by simpa using hl) (by simp[hp]) hf.2 hd.2;have hlen:(past++[x]).length=past.length+1:=af;rw[hlen] at i1 i2 i3;simp only[oq];refine⟨?_,?_,rA.2 ⟨?_,i3⟩⟩
   .intro q hq k y f hy hf';rcases dU.1 hq with rfl|hq
    .have h1:=aac hf.1 k y hy;have h2:=ac8 hd.1 k f hf';rw[kZ] at h1 h2;rcases h1 with h1|h1
     .exact .inl h1
     rcases h2 with h2|h2
     .exact .inl h2
     exact .inr ⟨h1,h2⟩
    have hk:k<past.length:=(bn.1 hy).1;exact i1 q hq k y f (by rw[Br hk];exact hy) (by rw[Br aa];exact hf')
   .intro q hq;rcases dU.1 hq with rfl|hq
    .exact bo _
    have:=i2 q hq;omega
   intro q hq;refine⟨by have:=i2 q hq;simp only;omega,?_⟩;exact i1 q hq past.length x e af (by rw[<- hp];simp)
theorem acZ{ops:Array Oper}{anc:Nat->Option Nat}{dst:Nat->Option Nat}{base nt:Nat}:∀ {r:List Oper} {xs:List aI} {es:List bl} {i:Nat},rI P dst anc base nt i r=some xs->es.length=xs.length->(∀j,ops[i+j]?=r[j]?)->
  (∀p∈oq i xs es,∃o,ops[p.i]?=some o/\yi P dst ((base+p.i)*64) nt ((anc p.i).getD 0) o=some p.io)/\ ∀k,i<=k->k<i+r.length->∃p∈oq i xs es,p.i=k:=by
 intro r
 induction r with
 |nil=>
  intro xs es i h _ _;simp only[rI,dV] at h;subst h;have:oq i [] es=[]:=by cases es<;>rfl
  rw[this];exact⟨fun p h=>by simp at h,fun k h1 h2=>by simp at h2;omega⟩
 |cons o r ih=>
  intro xs es i h hl FW;obtain⟨x,xs',rfl,h1,h2⟩:=JT h;cases es with
  |nil=>simp at hl
  |cons e es=>
   obtain⟨i1,i2⟩:=ih (es:=es) h2 (by simpa using hl) (fun j=>by have:=FW (j+1);rw[show i+1+j=i+(j+1) by omega];simpa using this);refine⟨fun p hp=>?_,fun k bx nj=>?_⟩
   .rcases dU.1 hp with rfl|hp
    .exact⟨o,by have:=FW 0;simpa using this,h1⟩
    exact i1 p hp
   by_cases hk:k=i
   .exact⟨⟨i,x,e⟩,by simp[oq],hk.symm⟩
   obtain⟨p,hp,fP⟩:=i2 k aa (by simp at nj;omega);exact⟨p,by simp[oq,hp],fP⟩
theorem agh{sh:Ctx}{cp:eN}{cs:iv}:∀ {xs:List aI} {aj aB:Env} {blk ak:aw} {es:List bl},steps sh cp cs xs aj blk=some (aB,ak,es)->es.length=xs.length:=by
 intro xs
 induction xs with
 |nil=>intro aj aB blk ak es h;simp only[steps,dV,ju] at h;rw[<- h.2.2];rfl
 |cons x xs ih=>
  intro aj aB blk ak es h;simp only[steps] at h;split at h
  .split at h
   .rename_i h2;cases h;simp[ih h2]
   cases h
  cases h
theorem YG{dst anc:Nat->Option Nat}{base nt:Nat}:∀ {r:List Oper} {xs:List aI} {i:Nat},rI P dst anc base nt i r=some xs->xs.length=r.length:=by
 intro r
 induction r with
 |nil=>intro xs i h;simp only[rI,dV] at h;subst h;rfl
 |cons o r ih=>intro xs i h;obtain⟨x,xs',rfl,_,h2⟩:=JT h;simp[ih h2]
section
variable {G:World->Prop} (hG:Good G w0) {cp:eN} {cs:iv} (hP:x8 P G cp) (hS:zM P G cs) (hL:uX cs) {sh:Ctx}
include hG hP hS hL
theorem Zc(uv:P.follows .mixedOrders=true){ops:Array Oper}{base nt id:Nat}{Q:Exit->Act->World->Prop}{l:List aI}{aj aB:Env}{m:Mem}{ak:aw}{es:List bl}{a:Act}(hc:rI P (fun j=>(ops[j]?).bind (·.dst)) (fun i=>(Region.before ops)[i]?) base nt 0 ops.toList=some l)
  (yy:BH ops=true) (hf:EI l []=true) (bU:steps sh cp cs l aj m.blk=some (aB,ak,es)) (hd:ow l [] es=true) (aq:Ok w0 m) (hr:gi m aj a.tmps) (eO:a.tmps.size=nt) (hK:zP w0 m a nt aB ak (fun a' w'=>Q .normal a' w')):(Code.region id ops true).wp P Q a m.w:=by
 refine wp_region_any uv ?_;have hlen:=agh bU;have n9:l.length=ops.size:=by have:=YG hc;simpa using this
 obtain⟨g1,g2⟩:=ac0 0 hlen;obtain⟨_,_,hp⟩:=ac1 (past:=[]) (pe:=[]) hlen rfl hf hd;obtain⟨c1,c2⟩:=acZ (ops:=ops) hc hlen (fun j=>af);have oa:Ok w0 (m.later m.w.drew fun _=>False):=Ge aq (ew.drew _) fun _ h=>h.elim;have tq:Ev m (m.later m.w.drew fun _=>False):=CM (ew.drew _) fun _ h=>h.elim;have o9:(m.later m.w.drew fun _=>False).fr=m.fr:=by funext c;simp[Mem.later]
 refine Xb (m:=m.later m.w.drew fun _=>False) hG hP hS hL yy ops.size (rem:=oq 0 l es) (base:=base) ⟨hp,c1,af,fun i=>?_,fun i hi=>?_⟩ ?_ (by rw[g1,g2];exact bU) oa (hr.ev tq) eO ?_
 .constructor
  .intro h;have hi:i<ops.size:=by
    have:=(Array.getElem?_eq_some_iff.1 h).1
    simpa using this
   exact c2 i (bc _) (by simpa using hi)
  rintro ⟨p,hp,rfl⟩
  obtain⟨o,ho,_⟩:=c1 p hp;have hi:p.i<ops.size:=(Array.getElem?_eq_some_iff.1 ho).1;simp[hi]
 .rw[Array.getElem?_replicate] at hi;split at hi<;>simp at hi
 .have:(oq 0 l es).length=l.length:=by have:=congrArg List.length g1;simpa using this
  omega
 intro a2 m2 p1 p2 p3 p4 p5 p6 p7;exact hK a2 m2 p1 (tq.trans p2) (p3.trans o9) p4 p5 p6 p7
end
end Go.Abs
namespace Go.Abs
variable {P:Program} {w0:World}
def toE:jV->Exit
 | .normal=>.normal
 | .exit i=>.exit i
 | .ret=>.ret
section
variable {G:World->Prop} (hG:Good G w0) {cp:eN} {cs:iv} (hP:x8 P G cp) (hS:zM P G cs) (hL:uX cs) (uv:P.follows .mixedOrders=true) {sh:Ctx}
include hG hP hS hL uv
theorem ZH{n f nt:Nat}:∀(c:Code) {ic:aH} {aj aB:Env} {m:Mem} {ak:aw} {e:jV} {a:Act} {Q:Exit->Act->World->Prop},lk P f nt c=some ic->exec sh cp cs n ic aj m.blk=some (e,aB,ak)->Ok w0 m->gi m aj a.tmps->a.tmps.size=nt->
  zP w0 m a nt aB ak (fun a' w'=>Q (toE e) a' w')->c.wp P Q a m.w:=by
 intro c
 induction c with
 |skip=>intro ic aj aB m ak e a Q hc hx aq hr eO hK;simp only[lk,dV] at hc;subst hc;simp only[exec,dV,ju] at hx;obtain⟨rfl,rfl,rfl⟩:=hx;exact wp_skip (hK a m aq (Ev.refl m) rfl rfl hr eO rfl)
 |label l=>intro ic aj aB m ak e a Q hc hx aq hr eO hK;simp only[lk,dV] at hc;subst hc;simp only[exec,dV,ju] at hx;obtain⟨rfl,rfl,rfl⟩:=hx;exact wp_label (hK a m aq (Ev.refl m) rfl rfl hr eO rfl)
 |ret=>intro ic aj aB m ak e a Q hc hx aq hr eO hK;simp only[lk,dV] at hc;subst hc;simp only[exec,dV,ju] at hx;obtain⟨rfl,rfl,rfl⟩:=hx;exact wp_ret (hK a m aq (Ev.refl m) rfl rfl hr eO rfl)
 |exit id=>intro ic aj aB m ak e a Q hc hx aq hr eO hK;simp only[lk,dV] at hc;subst hc;simp only[exec,dV,ju] at hx;obtain⟨rfl,rfl,rfl⟩:=hx;exact wp_exit (hK a m aq (Ev.refl m) rfl rfl hr eO rfl)
 |region id ops draw=>
  intro ic aj aB m ak e a Q hc hx aq hr eO hK;simp only[lk] at hc;split at hc
  .rename_i xs AX;cases draw with
   |false=>
    simp only[iF,if_false,dV] at hc;subst hc;simp only[exec] at hx;split at hx
    .rename_i e1 b1 es bU;simp only[iF,if_false,dV,ju] at hx;obtain⟨rfl,rfl,rfl⟩:=hx;exact aey hG hP hS AX bU aq hr eO hK
    cases hx
   |true=>
    simp only[if_true] at hc AX;split at hc
    .rename_i tv;simp only[cA] at tv;cases hc;simp only[exec] at hx;split at hx
     .rename_i e1 b1 es bU;simp only[if_true] at hx;split at hx
      .rename_i hd;cases hx;exact Zc hG hP hS hL uv AX tv.1 tv.2 bU hd aq hr eO hK
      cases hx
     cases hx
    cases hc
  cases hc
 |seq x y ihx ihy=>
  intro ic aj aB m ak e a Q hc hx aq hr eO hK;simp only[lk] at hc;split at hc
  .rename_i ix iy h1 h2;cases hc;simp only[exec] at hx;refine wp_seq ?_;split at hx
   .rename_i fA aW lG;refine ihx h1 lG aq hr eO ?_;intro a1 m1 k1 k2 k3 k4 k5 k6 k7;subst k4;refine ihy h2 hx k1 k5 k6 ?_;intro a2 m2 p1 p2 p3 p4 p5 p6 p7;exact hK a2 m2 p1 (k2.trans p2) (p3.trans k3) p4 p5 p6 (p7.trans k7)
   rename_i aR;refine ihx h1 hx aq hr eO ?_;intro a1 m1 k1 k2 k3 k4 k5 k6 k7;have:=hK a1 m1 k1 k2 k3 k4 k5 k6 k7;cases e with
   |normal=>exact(aR aB ak hx).elim
   |exit i=>exact this
   |ret=>exact this
  cases hc
 |cond x p q ihp ihq=>
  intro ic aj aB m ak e a Q hc hx aq hr eO hK;simp only[lk] at hc;split at hc
  .rename_i c' ip iq h1 h2 h3;cases hc;simp only[exec] at hx;split at hx
   .rename_i t ht;have hv:=dy h1 hr;rw[ht] at hv;refine wp_cond (yX hv) ?_;cases t with
    |true=>simp only[if_true] at hx ⊢;exact ihp h2 hx aq hr eO hK
    |false=>simp only[iF,if_false] at hx ⊢;exact ihq h3 hx aq hr eO hK
   cases hx
  cases hc
 |block id c ih=>
  intro ic aj aB m ak e a Q hc hx aq hr eO hK;simp only[lk,cH] at hc;obtain⟨ic',h1,rfl⟩:=hc;simp only[exec] at hx;refine wp_block ?_;split at hx
  .rename_i i fA aW lG;refine ih h1 lG aq hr eO ?_;intro a1 m1 k1 k2 k3 k4 k5 k6 k7;simp only[toE,Exit.inBlock];split at hx
   .rename_i hi;cases hx;rw[if_pos hi];exact hK a1 m1 k1 k2 k3 k4 k5 k6 k7
   rename_i hi;cases hx;rw[if_neg hi];exact hK a1 m1 k1 k2 k3 k4 k5 k6 k7
  rename_i aR;refine ih h1 hx aq hr eO ?_;intro a1 m1 k1 k2 k3 k4 k5 k6 k7;have:=hK a1 m1 k1 k2 k3 k4 k5 k6 k7;cases e with
  |normal=>exact this
  |exit i=>exact(aR i aB ak hx).elim
  |ret=>exact this
 |loop c ih=>
  intro ic aj aB m ak e a Q hc hx aq hr eO hK;simp only[lk,cH] at hc;obtain⟨ic',h1,rfl⟩:=hc;simp only[exec] at hx;refine wp_loop_rounds n ?_;have key:∀(k:Nat) {aj:Env} {m:Mem} {a:Act},iter (exec sh cp cs n ic') k aj m.blk=some (e,aB,ak)->Ok w0 m->gi m aj a.tmps->a.tmps.size=nt->zP w0 m a nt aB ak (fun a' w'=>Q (toE e) a' w')->Code.rounds P c Q k a m.w:=by
   intro k
   induction k with
   |zero=>intro aj m a hx;simp[iter] at hx
   |succ k ihk=>
    intro aj m a hx aq hr eO hK;rw[rounds_succ];simp only[iter] at hx;split at hx
    .rename_i fA aW lG;refine ih h1 lG aq hr eO ?_;intro a1 m1 k1 k2 k3 k4 k5 k6 k7;subst k4;refine ihk hx k1 k5 k6 ?_;intro a2 m2 p1 p2 p3 p4 p5 p6 p7;exact hK a2 m2 p1 (k2.trans p2) (p3.trans k3) p4 p5 p6 (p7.trans k7)
    rename_i aR;refine ih h1 hx aq hr eO ?_;intro a1 m1 k1 k2 k3 k4 k5 k6 k7;have:=hK a1 m1 k1 k2 k3 k4 k5 k6 k7;cases e with
    |normal=>exact(aR aB ak hx).elim
    |exit i=>exact this
    |ret=>exact this
  exact key n hx aq hr eO hK
 |scope c ih=>intro ic aj aB m ak e a Q hc hx aq hr eO hK;simp only[lk] at hc;refine wp_scope_straight ?_;refine ih hc hx aq hr eO ?_;intro a1 m1 k1 k2 k3 k4 k5 k6 k7;have:=hK a1 m1 k1 k2 k3 k4 k5 k6 k7;cases e<;>exact this
 |_=>intro ic aj aB m ak e a Q hc hx;simp only[lk,dV] at hc;subst hc;simp[exec] at hx
end
end Go.Abs
namespace Go.Abs
variable {P:Program} {w0:World}
section
variable{m:Mem}
theorem ags{k:Option Nat}{cs:List C}{v:V}{u:Value}(h:lM k cs=some v)(hr:aY m v u):kN m v u:=by
 unfold lM at h;split at h
 .split at h
  .cases h;exact hr
  cases h
 split at h
 .cases h;exact hr
 cases h
theorem ac6{x v:V}{u:Value}(h:Iu x=some v)(hr:aY m x u):kN m v u:=by cases x<;>simp only[Iu,dV,reduceCtorEq] at h<;>subst h<;>exact hr
theorem T3{α β:Type}{f:α->Sem β}{x:α}{xs:List α}{y:β}{ys:List β}{w:World}(h1:(f x).run P w=.ok y w)(h2:(xs.mapM f).run P w=.ok ys w):((x::xs).mapM f).run P w=.ok (y::ys) w:=by simp only[List.mapM_cons,Sem.run_bind,h1,h2,Result.andThen_ok,Sem.run_pure]
theorem aeC{al:Al}(aq:Ok w0 m){aj:Env}{tmps:Array Value}(hr:gi m aj tmps):∀ {rs:List ResultVar} {l:List (Nat×Option (Option Nat))} {vs:List V},xE P rs=some l->kW al aj m.blk l=some vs->
  ∃ys,(rs.mapM (fun| .tmp t=>pure (tmps.getD t undef)| .cell a t=>do loadVar t (<- asAddr (tmps.getD a undef)):ResultVar->Sem Value)).run P m.w=.ok ys m.w/\Pw (kN m) vs ys:=by
 intro rs
 induction rs with
 |nil=>intro l vs h1 h2;simp only[xE,dV] at h1;subst h1;simp only[kW,dV] at h2;subst h2;exact⟨[],by simp[Sem.run_pure],rfl,fun j x u p=>by simp at p⟩
 |cons r rs ih=>
  intro l vs h1 h2;have cons:∀ {x:V} {xs:List V} {y:Value} {ys:List Value},kN m x y->Pw (kN m) xs ys->Pw (kN m) (x::xs) (y::ys):=by
   intro x xs y ys p q;refine⟨by simp[q.1],fun j z u a b=>?_⟩;cases j with
   |zero=>simp at a b;subst a b;exact p
   |succ j=>exact q.2 j z u (by simpa using a) (by simpa using b)
  cases r with
  |tmp t=>
   simp only[xE,cH] at h1;obtain⟨l',h3,rfl⟩:=h1;simp only[kW] at h2;split at h2
   .rename_i v q e1 e2;cases h2;obtain⟨ys,g1,g2⟩:=ih h3 e2;exact⟨_::ys,T3 (by simp[Sem.run_pure]) g1,cons (ac6 e1 (hr t)) g2⟩
   cases h2
  |cell a t=>
   simp only[xE] at h1;split at h1
   .rename_i k q e1 e2;cases h1;simp only[kW] at h2;split at h2
    .rename_i cs rd ws e3 e4;split at h2
     case isFalse=>cases h2
     simp only[cH] at h2;obtain⟨v,hv,rfl⟩:=h2;obtain⟨ys,g1,g2⟩:=ih e2 e4;obtain⟨ad,y,p1,p2,p3⟩:=TT e1 (U9 aq e3 (hr a)) hv;exact⟨y::ys,T3 (by simp[p1,asAddr,p2]) g1,cons (ags hv p3) g2⟩
    cases h2
   cases h1
theorem aeD{al:Al}(aq:Ok w0 m){aj:Env}{tmps:Array Value}(hr:gi m aj tmps){fn:Func}{l:List (Nat×Option (Option Nat))}{vs:List V}(h1:xE P fn.results.toList=some l)(h2:kW al aj m.blk l=some vs):
  ∃y,(results fn tmps).run P m.w=.ok y m.w/\aY m (uQ vs) y:=by
 obtain⟨ys,g1,g2⟩:=aeC aq hr h1 h2;have iS:(results fn tmps).run P m.w=.ok (if h:ys.toArray.size=1 then ys.toArray[0] else .tuple ys.toArray) m.w:=by
  unfold results;simp only[Array.mapM_eq_mapM_toList,map_eq_pure_bind,Sem.run_bind,Result.andThen_ok,Sem.run_pure,bind_assoc,pure_bind]
  erw[g1]
  simp only[Result.andThen_ok,Sem.run_pure]
 refine⟨_,iS,?_⟩
 match vs,ys,g2 with
 |[v],[y],g2=>exact aY.of1 (g2.2 0 v y rfl rfl)
 |[],[],g2=>exact⟨_,rfl,rfl,fun j x u p=>by simp at p⟩
 |v::v'::vs,y::y'::ys,g2=>refine⟨_,rfl,by simpa using g2.1,fun j x u p q=>g2.2 j x u p (by simpa using q)⟩
 |[],y::ys,g2=>exact absurd g2.1 af
 |v::vs,[],g2=>exact absurd g2.1 af
 |[v],y::y'::ys,g2=>exact absurd g2.1 af
 |v::v'::vs,[y],g2=>exact absurd g2.1 af
theorem PD{f:Nat}{fn:aU}(h:wx P f=some fn):∃kf c,P.funcs[f]?=some kf/\kf.body=some c/\(kf.name== "runtime.NumGoroutine")=false/\lk P f kf.ntmps c=some fn.body/\xE P kf.results.toList=some fn.results/\fn.ntmps=kf.ntmps:=by
 unfold wx at h;split at h
 .cases h
 rename_i kf hf;split at h
 .cases h
 rename_i c hc;split at h
 .cases h
 rename_i hn;split at h
 .rename_i b r h1 h2;cases h;exact⟨kf,c,hf,hc,by simpa using hn,h1,h2,rfl⟩
 cases h
def OH(S:Sys)(G:World->Prop):Prop:=∀f vs r,S.prim f vs=some (some r)->Enters S.P f/\ ∀(w:World) (O:Nat->Prop) (args:Array Value),Good G w->(∀c,O c->c<w.heap.size)->Pw (mR w O) vs args.toList->Calls S.P f args w (qy w O r)
def OI(S:Sys)(G:World->Prop):Prop:=∀f vs al blk v ak,S.trig f vs=true->(S.primS f vs al blk).map (fun r=>(r.1,app r.2 blk))=some (v,ak)->
 (Enters S.P f/\ ∀(w0:World) (m:Mem) (args:Array Value),Good G w0->Ok w0 m->m.blk=blk->Pw (aY m) vs args.toList->Calls S.P f args m.w (vR w0 m v ak))/\
 (∀id,al.ok id=false->ak id=blk id)/\
 ∀aN,(∀id,al.ok id=true->aN id=blk id)->∃jM,(S.primS f vs al aN).map (fun r=>(r.1,app r.2 aN))=some (v,jM)/\ ∀id,jM id=if al.ok id then ak id else aN id
structure BE (S:Sys) (G:World->Prop):Prop where
 follow:S.P.follows .mixedOrders=true
 fns:∀f fn,S.fns f=some fn->wx S.P f=some fn
 prim:OH S G
 primS:OI S G
theorem af8{vs:List V}{args:Array Value}{nt:Nat}(h:Pw (aY m) vs args.toList)(hl:vs.length<=nt):gi m (nr vs) (args++Array.replicate (nt-args.size) undef)/\(args++Array.replicate (nt-args.size) undef).size=nt:=by
 have hs:args.size=vs.length:=by simpa using h.1
 constructor
 .intro t;by_cases ht:t<vs.length
  .have h1:nr vs t=vs[t]:=by simp[nr,List.getD,ht]
   have h2:(args++Array.replicate (nt-args.size) undef).getD t undef=args[t]:=by simp[Array.getD_eq_getD_getElem?,Array.getElem?_append,hs,ht]
   rw[h1,h2];exact h.2 t _ _ (by simp[ht]) (by simp[hs,ht])
  have h1:nr vs t=.undef:=by simp[nr,List.getD,uT (Nat.le_of_not_lt ht)]
  have h2:(args++Array.replicate (nt-args.size) undef).getD t undef=undef:=by simp only[Array.getD_eq_getD_getElem?,Array.getElem?_append,hs,if_neg ht];rw[Array.getElem?_replicate];split<;>rfl
  rw[h1,h2];rfl
 simp;omega
theorem Xd(aq:Ok w0 m):∀ {o q:List Nat},apart o q=true->(∀id∈o,∃ob,(m.blk id).2=some ob/\ob.eH=true)->(o.map m.σ).Nodup/\ ∀id∈q,id∉o:=by
 intro o
 induction o with
 |nil=>intro q _ _;exact⟨af,fun id _ h=>by simp at h⟩
 |cons i o ih=>
  intro q h hm;simp only[apart,cA,jU] at h;obtain⟨⟨h1,h2⟩,h3⟩:=h;obtain⟨i1,i2⟩:=ih h3 (fun id hid=>hm id (by simp[hid]));have iQ:i∉o:=by simpa using h1
  have fU:i∉q:=by simpa using h2
  refine⟨?_,fun id hid=>?_⟩
  .rw[dE,DK];refine⟨fun vk=>?_,i1⟩;obtain⟨j,hj,he⟩:=iX.1 vk;obtain⟨ob,a1,a2⟩:=hm i af;obtain⟨ob',b1,b2⟩:=hm j (by simp[hj]);exact iQ (aq.inj j i ob' ob b1 b2 a1 a2 he▸hj)
  simp only[dU,not_or];exact⟨fun e=>fU (e▸hid),i2 id hid⟩
theorem adh{blk:aw}:∀ {cs:List C} {rs:List RC} {o q:List Nat},kV blk cs=some (rs,o,q)->rs.length=cs.length:=by
 intro cs
 induction cs with
 |nil=>intro rs o q h;simp only[kV,dV,ju] at h;obtain⟨rfl,_,_⟩:=h;rfl
 |cons c cs ih=>
  intro rs o q h;simp only[kV] at h;split at h
  .rename_i x o1 q1 xs os qs h1 h2;cases h;simp[ih h2]
  cases h
theorem PB{α β:Type}{f:α->Option (β×List Nat)}:∀ {xs:List α} {ys:List β} {r:List Nat},collect f xs=some (ys,r)->∀id∈r,∃x y q,f x=some (y,q)/\id∈q:=by
 intro xs
 induction xs with
 |nil=>intro ys r h id hid;simp[collect] at h;rw[h.2] at hid;simp at hid
 |cons x xs ih=>
  intro ys r h id hid;simp only[collect] at h;split at h
  .rename_i b p bs q e1 e2;cases h;rcases fk.1 hid with hid|hid
   .exact⟨x,b,p,e1,hid⟩
   exact ih e2 id hid
  cases h
theorem afO{blk:aw}:∀ {n:Nat} {c:C} {x:PV} {r:List Nat},snap blk n c=some (x,r)->∀id∈r,∃ob,(blk id).2=some ob:=by
 intro n
 induction n with
 |zero=>intro c x r h;simp[snap] at h
 |succ n ih=>
  intro c x r h id hid;have one:∀ {i:Nat} {ob:Ob} {g:Nat},blk i=(g,some ob)->id∈[i]->∃ob,(blk id).2=some ob:=by intro i ob g hb hi;simp at hi;subst hi;exact⟨ob,by rw[hb]⟩
  have coll:∀ {cs:List C} {ps:List PV} {r:List Nat},collect (snap blk n) cs=some (ps,r)->id∈r->∃ob,(blk id).2=some ob:=by intro cs ps r h hi;obtain⟨x,y,q,h1,h2⟩:=PB h id hi;exact ih h1 id h2
  unfold snap at h;split at h
  .cases h;simp at hid
  .split at h
   .rename_i hb;split at h
    .split at h
     .rename_i hc;cases h;rcases dU.1 hid with e|hid
      .exact one hb (by simp[e])
      exact coll hc hid
     cases h
    cases h
   .rename_i hb;split at h
    .cases h;exact one hb hid
    cases h
   cases h
  .split at h
   .rename_i hb;split at h
    .simp only[cH] at h;obtain⟨e,_,h2⟩:=h;cases h2;exact one hb hid
    cases h
   .rename_i hb;split at h
    .simp only[cH] at h;obtain⟨e,_,h2⟩:=h;cases h2;exact one hb hid
    cases h
   cases h
  .split at h
   .rename_i hb;split at h
    .cases h;exact one hb hid
    cases h
   .rename_i hb;split at h
    .cases h;exact one hb hid
    cases h
   .rename_i hb;split at h
    .split at h
     .rename_i hc;cases h;rcases dU.1 hid with e|hid
      .exact one hb (by simp[e])
      obtain⟨x,y,q,h1,h2⟩:=PB hc id hid;exact coll h1 h2
     cases h
    cases h
   cases h
  .split at h
   .rename_i hb;split at h
    .cases h;exact one hb hid
    cases h
   .rename_i hb;split at h
    .cases h;exact one hb hid
    cases h
   cases h
  split at h
  .rename_i h1 h2;cases h;rcases fk.1 hid with hid|hid
   .exact coll h1 hid
   exact coll h2 hid
  cases h
theorem adi{blk:aw}:∀ {cs:List C} {rs:List RC} {o q:List Nat},kV blk cs=some (rs,o,q)->∀id∈q,∃ob,(blk id).2=some ob:=by
 intro cs
 induction cs with
 |nil=>intro rs o q h id hid;simp only[kV,dV,ju] at h;rw[<- h.2.2] at hid;simp at hid
 |cons c cs ih=>
  intro rs o q h id hid;simp only[kV] at h;split at h
  .rename_i x o1 q1 xs os qs h1 h2;cases h;rcases fk.1 hid with hid|hid
   .have sn:(snap blk dD c).map (fun(v,r)=>((.p v:RC),([]:List Nat),r))=some (x,o1,q1)->∃ob,(blk id).2=some ob:=by
     intro h1;simp only[cH] at h1;obtain⟨⟨y,r⟩,h3,h4⟩:=h1;cases h4;exact afO h3 id hid
    unfold jF at h1;split at h1
    .cases h1;simp at hid
    .split at h1
     .split at h1
      .cases h1;simp at hid
      cases h1
     exact sn h1
    exact sn h1
   exact ih h2 id hid
  cases h
theorem adj{w:World}{O:Nat->Prop}{m0:Mem}(aq:Ok w m)(ek:Ev m0 m)(lC:m0.w=w)(aaZ:∀c,¬m0.eH c)(o9:m.fr=O){v:V}{r:RV}{val:Value}(h:ji m.blk v=some r)(hr:aY m v val):qy w O r (.returned val) m.w:=by
 unfold ji at h;split at h
 .rename_i cs bZ;split at h
  .rename_i rs o q ho;split at h
   .rename_i tk;cases h;obtain⟨vs,hc,dY⟩:=Z5 bZ hr;obtain⟨g1,g2⟩:=dY rs (adh ho);have hm:=(UE aq (Q:=fun _=>False) (fun _ h=>h.elim) ho hc (fun _ _ h=>h)).2;obtain⟨jq,aaL⟩:=Xd aq tk hm;have SL:∀b,(O b\/b∈o.map m.σ)->m.own b:=by
     intro b hb;rcases hb with hb|hb
     .exact .inl (o9▸hb)
     obtain⟨id,hid,rfl⟩:=iX.1 hb;obtain⟨ob,h1,h2⟩:=hm id hid;exact .inr ⟨id,ob,h1,h2,rfl⟩
    have hq:∀id∈q,¬(O (m.σ id)\/m.σ id∈o.map m.σ):=by
     intro id hid hn;obtain⟨ob,hob⟩:=adi ho id hid;by_cases Cv:ob.eH=true
     .rcases hn with hn|hn
      .exact(aq.eC id ob hob Cv).2 (o9▸hn)
      obtain⟨j,hj,he⟩:=iX.1 hn;obtain⟨ob',b1,b2⟩:=hm j hj;exact aaL id hid (aq.inj j id ob' ob b1 b2 hob Cv he▸hj)
     have dB:¬m.own (m.σ id):=by
      have vm:=aq.obj id ob hob;cases ob<;>simp[Ob.eH] at Cv
      .obtain⟨_,_,_,_,_,dB⟩:=vm;exact dB
      .obtain⟨_,_,_,_,_,_,_,_,_,dB⟩:=vm;exact dB
      obtain⟨_,_,_,_,_,dB⟩:=vm;exact dB
     exact dB (SL _ hn)
    obtain⟨hrc,_⟩:=UE aq SL ho hc hq;subst lC;refine⟨val,o.map m.σ,rfl,⟨ek.os,ek.tape,ek.output,ek.size,fun c hc=>ek.keep c hc (aaZ c)⟩,jq,fun c hc=>?_,vs,g2,by rw[g1];exact hrc⟩;obtain⟨id,hid,rfl⟩:=iX.1 hc;obtain⟨ob,h1,h2⟩:=hm id hid;exact⟨(aq.eC id ob h1 h2).1,(aq.obj id ob h1).lt⟩
   cases h
  cases h
 cases h
theorem mR.vrel{w:World}{O:Nat->Prop}(hw:m.w=w)(ho:m.own=O){x:V}{v:Value}(h:mR w O x v):aY m x v:=by
 subst hw ho;cases x with
 |undef=>exact h.elim
 |tup _=>exact h.elim
 |one c=>
  cases c with
  |p x=>exact j6 h
  |_=>exact h.elim
 |agg cs=>obtain⟨arr,ps,rfl,rfl,hp⟩:=h;exact aY.agg.2 ⟨arr,rfl,hp.xK⟩
theorem aeN{sh:Ctx}{cp:eN}{cs:iv}{n:Nat}{fn:aU}{args:List V}{blk ak:aw}{v:V}(h:mN sh cp cs n fn args blk=some (v,ak)):
  ∃e aj vs,exec sh cp cs n fn.body (nr args) blk=some (e,aj,ak)/\(e=.normal\/e=.ret)/\kW sh.al aj ak fn.results=some vs/\v=uQ vs:=by
 unfold mN at h;split at h
 .rename_i aj b hx;simp only[cH] at h;obtain⟨vs,h1,h2⟩:=h;cases h2;exact⟨_,aj,vs,hx,.inl rfl,h1,rfl⟩
 .rename_i aj b hx;simp only[cH] at h;obtain⟨vs,h1,h2⟩:=h;cases h2;exact⟨_,aj,vs,hx,.inr rfl,h1,rfl⟩
 cases h
theorem Vi{G:World->Prop}(hG:Good G w0){cp:eN}{cs:iv}(hP:x8 P G cp)(hS:zM P G cs)(hL:uX cs)(uv:P.follows .mixedOrders=true){sh:Ctx}{n f:Nat}{fn:aU}(hc:wx P f=some fn){vs:List V}{m:Mem}{v:V}{ak:aw}{args:Array Value}(h:mN sh cp cs n fn vs m.blk=some (v,ak))
  (hl:vs.length<=fn.ntmps) (aq:Ok w0 m) (ha:Pw (aY m) vs args.toList):Calls P f args m.w (vR w0 m v ak):=by
 obtain⟨kf,c,h1,h2,h3,h4,h5,h6⟩:=PD hc;obtain⟨e,aj,rs,hx,he,eZ,rfl⟩:=aeN h;refine calls_of_wp h1 h2 ?_;obtain⟨s1,s2⟩:=af8 (nt:=kf.ntmps) ha (by rw[<- h6];exact hl);refine ZH hG hP hS hL uv c h4 hx aq s1 s2 ?_;intro a' m' k1 k2 k3 k4 k5 k6 k7;subst k4;obtain⟨y,g1,g2⟩:=aeD k1 k5 h5 eZ;have:bodyPost P kf (vR w0 m (uQ rs) m'.blk) .normal a' m'.w:=⟨k7,y,g1,y,m',rfl,rfl,k1,k2,k3,rfl,g2⟩;rcases he with rfl|rfl
 .exact this
 exact this
theorem enters_of{f:Nat}{fn:aU}(hc:wx P f=some fn):Enters P f:=by obtain⟨kf,c,h1,h2,h3,_⟩:=PD hc;exact⟨kf,c,h1,h2,h3⟩
theorem sound{S:Sys}{G:World->Prop}(h:BE S G):∀n,x8 S.P G (gu S n)/\zM S.P G (fm S n)/\uX (fm S n):=by
 intro n
 induction n with
 |zero=>exact⟨fun f vs r h=>by simp[gu] at h,fun f vs al blk v ak h=>by simp[fm] at h,fun f vs al blk v ak h=>by simp[fm] at h⟩
 |succ n ih=>
  obtain⟨hP,hS,hL⟩:=ih;refine⟨?_,?_,?_⟩
  .intro f vs r hc;rw[gu] at hc;split at hc
   .rename_i r' hp;subst hc;exact h.prim f vs r hp
   split at hc
   .rename_i fn hfn;have qF:=h.fns f fn hfn;split at hc
    .rename_i hl;refine⟨enters_of qF,fun w O args hG hO ha=>?_⟩;unfold zu at hc;split at hc
     .rename_i v ak hr
      let m0:Mem:=⟨w,vx,fun _=>0,fun _=>0,O⟩
      have abp:m0.own=O:=by
       funext c;apply propext;constructor
       .rintro (h|⟨id,o,h,_⟩)
        .exact h
        cases h
       exact .inl
      have aq:Ok w m0:=⟨rfl,rfl,rfl,bo _,fun _ _=>rfl,(fun id o h=>by cases h),(fun id o h=>by cases h),hO,(fun id dL o o' h=>by cases h)⟩;have hav:Pw (aY m0) vs args.toList:=⟨ha.1,fun j x u p q=>(ha.2 j x u p q).vrel rfl abp⟩;refine(Vi hG hP hS hL h.follow qF (m:=m0) hr hl aq hav).mono ?_;rintro e w' ⟨val,m',rfl,rfl,q1,q2,q3,q4,q5⟩
      subst q4;exact adj (m0:=m0) q1 q2 rfl (fun c ⟨id,o,h,_⟩=>by cases h) q3 hc q5
     cases hc
    cases hc
   cases hc
  .intro f vs al blk v ak hc;rw[fm] at hc;by_cases ht:S.trig f vs=true
   .rw[if_pos ht] at hc;exact(h.primS f vs al blk v ak ht hc).1
   rw[if_neg ht] at hc;split at hc
   .rename_i fn hfn;have qF:=h.fns f fn hfn;split at hc
    .rename_i hl;refine⟨enters_of qF,fun w0 m args hG aq hb ha=>?_⟩;subst hb;exact Vi hG hP hS hL h.follow qF hc hl aq ha
    cases hc
   cases hc
  intro f vs al blk v ak hc;rw[fm] at hc;by_cases ht:S.trig f vs=true
  .rw[if_pos ht] at hc;obtain⟨_,l1,l2⟩:=h.primS f vs al blk v ak ht hc;refine⟨l1,fun aN h2=>?_⟩;obtain⟨b3,h3,h4⟩:=l2 aN h2;exact⟨b3,by rw[fm,if_pos ht];exact h3,h4⟩
  rw[if_neg ht] at hc;split at hc
  .rename_i fn hfn;split at hc
   .rename_i hl;obtain⟨l1,l2⟩:=aeM hL hc;refine⟨l1,fun aN h2=>?_⟩;obtain⟨b3,h3,h4⟩:=l2 aN h2;exact⟨b3,by rw[fm,if_neg ht];simp only[hfn,hl,if_true];exact h3,h4⟩
   cases hc
  cases hc
theorem aE.calls{S:Sys}{G:World->Prop}(h:BE S G){f:Nat}{vs:List V}{r:RV}(hc:aE S f vs r)(w:World)(hG:Good G w)(args:Array Value)(ha:Pw (mR w fun _=>False) vs args.toList):Calls S.P f args w (qy w (fun _=>False) r):=by obtain⟨n,hn⟩:=hc;exact((sound h n).1 f vs r hn).2 w _ args hG (fun c h=>h.elim) ha
end
end Go.Abs
namespace Go.Abs
section
variable{args:List V}{sh:Ctx}{cs:iv}{cp:eN}
def wI(op:BinOp)(a b:Nat)(other:Option V):Option V:=
 match op with
 | .add=>bif Nat.ble (Nat.add a b) 9223372036854775807 then some (.one (.p (.int .i64 (.ofNat (Nat.add a b))))) else other
 | .sub=>bif Nat.ble b a then bif Nat.ble a 9223372036854775807 then some (.one (.p (.int .i64 (.ofNat (Nat.sub a b))))) else other else other
 | .mul=>bif Nat.ble (Nat.mul a b) 9223372036854775807 then some (.one (.p (.int .i64 (.ofNat (Nat.mul a b))))) else other
 | .eql=>some (.one (.p (.bool (Nat.beq a b))))
 | .neq=>some (.one (.p (.bool (!Nat.beq a b))))
 | .lss=>some (.one (.p (.bool (Nat.ble (Nat.succ a) b))))
 | .leq=>some (.one (.p (.bool (Nat.ble a b))))
 | .gtr=>some (.one (.p (.bool (Nat.ble (Nat.succ b) a))))
 | .geq=>some (.one (.p (.bool (Nat.ble b a))))
 | .rem=>bif Nat.beq b 0 then other else some (.one (.p (.int .i64 (.ofNat (Nat.mod a b)))))
 |_=>other
def JF(op:BinOp)(x y:V):Option V:=
 match x,y with
 | .one (.p (.int .i64 (.ofNat a))),.one (.p (.int .i64 (.ofNat b)))=>wI op a b (mu op x y)
 |_,_=>mu op x y
theorem GS{n:Nat}(h:n<=9223372036854775807):IntKind.i64.wrap (n:Int)=n:=by have e:(2 ^ IntKind.i64.bits:Int)=18446744073709551616:=ae;have e2:(2 ^ (IntKind.i64.bits-1):Int)=9223372036854775808:=ae;unfold IntKind.wrap;simp only[e,e2];have h1:(n:Int)%18446744073709551616=n:=aa;rw[h1];have h2:¬(n:Int)≥9223372036854775808:=aa;simp[h2]
theorem ZR(op:BinOp)(a b:Nat):wI op a b (mu op (.one (.p (.int .i64 (.ofNat a)))) (.one (.p (.int .i64 (.ofNat b)))))=mu op (.one (.p (.int .i64 (.ofNat a)))) (.one (.p (.int .i64 (.ofNat b)))):=by
 have hb:∀ {x:Bool} {u v w:Option V},(x=true->u=w)->v=w->(bif x then u else v)=w:=by
  intro x u v w h1 h2;cases x with
  |false=>exact h2
  |true=>exact h1 rfl
 have ofn:∀n:Nat,(Int.ofNat n:Int)=(n:Int):=fun _=>rfl;have ble:∀ {a b:Nat},Nat.ble a b=decide ((a:Int)<=(b:Int)):=by
  intro a b;cases h:Nat.ble a b with
  |true=>have:=fy h;symm;simp;omega
  |false=>
   symm;simp;have:¬a<=b:=fun hh=>by rw[Nat.ble_eq_true_of_le hh] at h;cases h
   omega
 have beq:∀ {a b:Nat},Nat.beq a b=((a:Int)==(b:Int)):=by
  intro a b;by_cases h:a=b
  .subst h;simp
  have h1:Nat.beq a b=false:=by
   cases e:Nat.beq a b with
   |false=>rfl
   |true=>exact(h (nI e)).elim
  rw[h1];symm;simp;omega
 cases op
 case add=>refine hb (fun h=>?_) rfl;have h:a+b<=9223372036854775807:=fy h;have:((a:Int)+(b:Int))=((a+b:Nat):Int):=aa;simp only[mu,oG,true_or,if_true,kM,ofn];rw[this,GS h];rfl
 case sub=>refine hb (fun h0=>hb (fun h=>?_) rfl) rfl;have h:=fy h;have h0:=fy h0;have:((a:Int)-(b:Int))=((a-b:Nat):Int):=aa;simp only[mu,oG,true_or,if_true,kM,ofn];rw[this,GS aa];rfl
 case mul=>refine hb (fun h=>?_) rfl;have h:a*b<=9223372036854775807:=fy h;have:((a:Int)*(b:Int))=((a*b:Nat):Int):=af;simp only[mu,oG,true_or,if_true,kM,ofn];rw[this,GS h];rfl
 case rem=>
  by_cases h0:b=0
  .subst h0;rfl
  have h1:Nat.beq b 0=false:=by
   cases e:Nat.beq b 0 with
   |false=>rfl
   |true=>exact(h0 (nI e)).elim
  have h2:¬(b:Int)=0:=aa;simp only[wI,h1,cond_false,mu,oG,true_or,if_true,kM,ofn,if_neg h2];rfl
 case eql=>simp only[wI,mu,oG,true_or,if_true,kM,ofn,beq]
 case neq=>simp only[wI,mu,oG,true_or,if_true,kM,ofn,beq];rfl
 case lss=>simp only[wI,mu,oG,true_or,if_true,kM,ofn,ble];congr 4
 case leq=>simp only[wI,mu,oG,true_or,if_true,kM,ofn,ble]
 case gtr=>simp only[wI,mu,oG,true_or,if_true,kM,ofn,ble];congr 4
 case geq=>simp only[wI,mu,oG,true_or,if_true,kM,ofn,ble]
 all_goals rfl
theorem X9(op:BinOp)(x y:V):JF op x y=mu op x y:=by
 unfold JF;split
 .exact ZR _ _ _
 rfl
def vW(v:V):Option Nat:=
 match v with
 | .one (.p (.int _ (.ofNat n)))=>some n
 |v=>lh v
theorem O6(v:V):vW v=lh v:=by
 unfold vW;split
 .simp[lh]
 rfl
def BS(aj:Env)(d:Nat):Option aK->Option Nat
 |none=>some d
 |some a=>vW (ev aj a)
theorem Ya(aj:Env)(d:Nat)(a:Option aK):BS aj d a=mV aj d a:=by
 cases a with
 |none=>rfl
 |some a=>simp only[BS,mV,O6]
def ad8(aj:Env)(x:aK):ej:=.done (ev aj x) [] []
def aec(aj:Env)(c:aK)(a:aK)(b:aK):ej:=match ev aj c with
  | .one (.p (.bool t))=>.done (if t then ev aj a else ev aj b) [] []
  |_=>.fail
def adK(blk:aw)(s:Nat)(z:List PV):ej:=.done (.one (.aZ s ((blk s).1+1) 0)) [(s,((blk s).1+1,some (.var (z.map .p))))] [s]
def adN(aj:Env)(blk:aw)(s:Nat)(x:aK):ej:=match mW (ev aj x) with
  |some cs=>.done (.one (.aZ s ((blk s).1+1) 0)) [(s,((blk s).1+1,some (.var cs)))] [s]
  |none=>.fail
def adQ(aj:Env)(z:List PV)(ps:List (Nat×Nat×aK)):ej:=match tG aj ps with
  |some q=>.done (.agg (fill (z.map .p) q)) [] []
  |none=>.fail
def adO(aj:Env)(blk:aw)(s:Nat)(ty:Nat)(sz:Nat)(ps:List aK):ej:=match uh aj sz ps with
  |some es=>match vJ es with
   |some qs=>.done (.one (.hsl s ((blk s).1+1) sz 0 es.length)) [(s,((blk s).1+1,some (.arr ty sz qs)))] [s]
   |none=>.done (.one (.hsl s ((blk s).1+1) sz 0 es.length)) [(s,((blk s).1+1,some (.fO ty sz es)))] [s]
  |none=>.fail
def ad1(aj:Env)(blk:aw)(k:Option Nat)(x:aK):ej:=match vF blk (ev aj x) with
  |some (cs,r)=>match lM k cs with
   |some v=>.done v [] r
   |none=>.fail
  |none=>.fail
def aef(aj:Env)(blk:aw)(n:Nat)(a:aK)(x:aK):ej:=match mW (ev aj x) with
  |some xs=>uS blk (ev aj a) n xs
  |none=>.fail
def aea(aj:Env)(x:aK):ej:=match ev aj x with
  | .one (.aZ id g o)=>.done (.one (.aZ id g o)) [] []
  | .one (.cJ id g i o)=>.done (.one (.cJ id g i o)) [] []
  | .one (.p (.box cs))=>.done (.one (.p (.box cs))) [] []
  | .one (.hfn f a b)=>.done (.one (.hfn f a b)) [] []
  | .one (.p (.fn f a b))=>.done (.one (.p (.fn f a b))) [] []
  |_=>.fail
def US(aj:Env)(op:BinOp)(x:aK)(y:aK):ej:=match JF op (ev aj x) (ev aj y) with
  |some v=>.done v [] []
  |none=>.fail
def adV(aj:Env)(k:qw)(neg:Bool)(x:aK)(y:aK):ej:=match wE k (ev aj x) (ev aj y) with
  |some b=>.done (.one (.p (.bool (if neg then !b else b)))) [] []
  |none=>.fail
def aeg(aj:Env)(op:UnOp)(x:aK):ej:=match op,ev aj x with
  | .not,.one (.p (.bool b))=>.done (.one (.p (.bool (!b)))) [] []
  | .neg,.one (.p (.int k n))=>.done (.one (.p (.int k (k.wrap (0-n))))) [] []
  |_,_=>.fail
def adT(aj:Env)(k:IntKind)(x:aK):ej:=match ev aj x with
  | .one (.p (.int _ n))=>.done (.one (.p (.int k (k.wrap n)))) [] []
  |_=>.fail
def adP(aj:Env)(blk:aw)(x:aK):ej:=match eK blk (ev aj x) with
  |some (es,r,[])=>match bytesOf es with
   |some bs=>.done (.one (.p (.str ⟨bs.toArray⟩))) [] r
   |none=>.fail
  |_=>.fail
def ad5(aj:Env)(f:Nat)(a:List aK)(b:List aK):ej:=match qW aj a,qW aj b with
  |some x,some y=>.done (.one (.hfn f x y)) [] []
  |_,_=>.fail
def ad6(blk:aw)(s:Nat)(ag:Bool):ej:=.done (.one (.iS s ((blk s).1+1))) [(s,((blk s).1+1,some (.map ag [])))] [s]
def UU(aj:Env)(blk:aw)(s:Nat)(ty:Nat)(sz:Nat)(bytes:Nat)(z:List PV)(l:aK)(c:aK):ej:=match vW (ev aj l),vW (ev aj c) with
  |some n,some m=>if n=m/\n*bytes<=room then
    .done (.one (.hsl s ((blk s).1+1) sz 0 n)) [(s,((blk s).1+1,some (.arr ty sz (List.replicate n z))))] [s]
   else .fail
  |_,_=>.fail
def UX(aj:Env)(sz:Nat)(x:aK)(lo:Option aK)(hi:Option aK):ej:=match tE (ev aj x) with
  |some n=>match BS aj 0 lo,BS aj n hi with
   |some l,some h=>xA (ev aj x) sz l h
   |_,_=>.fail
  |none=>.fail
def UY(aj:Env)(x:aK)(lo:Option aK)(hi:Option aK):ej:=match ev aj x with
  | .one (.p (.str s))=>match BS aj 0 lo,BS aj s.size hi with
   |some l,some h=>if l<=h/\h<=s.size then .done (.one (.p (.str (s.extract l h)))) [] [] else .fail
   |_,_=>.fail
  |_=>.fail
def adX(aj:Env)(off:Nat)(x:aK):ej:=match ev aj x with
  | .one (.aZ id g o)=>.done (.one (.aZ id g (o+off))) [] []
  | .one (.cJ id g i o)=>.done (.one (.cJ id g i (o+off))) [] []
  | .one (.p (.box cs))=>.done (.one (.p (.box (cs.drop off)))) [] []
  |_=>.fail
def UT(aj:Env)(sz:Nat)(x:aK)(i:aK):ej:=match vW (ev aj i),ev aj x with
  |some n,.one (.p (.sl es))=>match es[n]? with
   |some e=>if e.length=sz then .done (.one (.p (.box e))) [] [] else .fail
   |none=>.fail
  |some n,.one (.hsl id g z off len)=>if n<len/\z=sz then .done (.one (.cJ id g (off+n) 0)) [] [] else .fail
  |_,_=>.fail
def UQ(aj:Env)(len:Nat)(sz:Nat)(x:aK)(i:aK):ej:=match vW (ev aj i),ev aj x with
  |some n,.one (.aZ id g o)=>if n<len then .done (.one (.aZ id g (o+n*sz))) [] [] else .fail
  |some n,.one (.cJ id g j o)=>if n<len then .done (.one (.cJ id g j (o+n*sz))) [] [] else .fail
  |some n,.one (.p (.box cs))=>if n<len then .done (.one (.p (.box (cs.drop (n*sz))))) [] [] else .fail
  |_,_=>.fail
def adY(aj:Env)(off:Nat)(k:Option Nat)(x:aK):ej:=match ev aj x with
  | .agg cs=>match lM k (cs.drop off) with
   |some v=>.done v [] []
   |none=>.fail
  |_=>.fail
def UR(aj:Env)(len:Nat)(sz:Nat)(k:Option Nat)(x:aK)(i:aK):ej:=match vW (ev aj i),ev aj x with
  |some n,.agg cs=>if n<len then
    match lM k (cs.drop (n*sz)) with
    |some v=>.done v [] []
    |none=>.fail
   else .fail
  |_,_=>.fail
def UW(aj:Env)(x:aK)(i:aK):ej:=match vW (ev aj i),ev aj x with
  |some n,.one (.p (.str s))=>match s[n]? with
   |some b=>.done (.one (.p (.int .u8 b.toNat))) [] []
   |none=>.fail
  |_,_=>.fail
def ad2(aj:Env)(blk:aw)(kd:Nat)(z:List PV)(agg:Bool)(ok:Bool)(x:aK)(k:aK):ej:=match mapOf blk agg (ev aj x),ev aj k with
  |some (es,r),.one (.p q)=>if ia q≠kd then .fail else match rL q es 0 with
   |some f=>match mapVal agg ((f.map (·.2)).getD z) with
    |some w=>.done (if ok then .tup [w,.one (.p (.bool f.isSome))] else w) [] r
    |none=>.fail
   |none=>.fail
  |_,_=>.fail
def adM:ej:=.fail
def ad9(aj:Env)(blk:aw)(kd:Nat)(ag:Bool)(m:aK)(k:aK)(v:aK):ej:=match ev aj m,ev aj k,wh ag (ev aj v) with
  | .one (.iS id g),.one (.p q),some cs=>match blk id,vI cs with
   |(g',some (.map mU es)),some ps=>if g'=g/\mU=ag/\ia q=kd then
     match rL q es 0 with
     |some (some (i,_))=>.done .undef [(id,(g,some (.map ag (es.set i (q,ps)))))] [id]
     |some none=>.done .undef [(id,(g,some (.map ag (es++[(q,ps)]))))] [id]
     |none=>.fail
    else .fail
   |_,_=>.fail
  |_,_,_=>.fail
def adW(aj:Env)(x:aK)(i:Nat):ej:=match ev aj x with
  | .tup vs=>match vs[i]? with
   |some v=>.done v [] []
   |none=>.fail
  |_=>.fail
def adR(shared:Nat->Bool)(aj:Env)(blk:aw)(s:Nat)(f:aK)(as:List aK):ej:=match yn aj f with
  |some (g,a,b)=>
   if shared g then .sc g (a.map .one++as.map (ev aj)++b.map .one)
   else match vG blk (a.map .one++as.map (ev aj)++b.map .one) with
    |some (vs,r)=>.pc g vs r s
    |none=>.fail
  |none=>.fail
def aee(aj:Env)(x:aK):ej:=match ev aj x with
  | .one (.p (.str s))=>.done (.one (.p (.int .i64 s.size))) [] []
  |_=>.fail
def adZ(aj:Env)(x:aK):ej:=match tE (ev aj x) with
  |some n=>.done (.one (.p (.int .i64 n))) [] []
  |none=>.fail
def ad7(aj:Env)(blk:aw)(x:aK):ej:=match vr blk (ev aj x) with
  |some (n,r)=>.done (.one (.p (.int .i64 n))) [] r
  |none=>.fail
def adL(aj:Env)(blk:aw)(s:Nat)(ty:Nat)(sz:Nat)(bytes:Nat)(d:aK)(x:aK):ej:=fe blk s ty sz bytes (ev aj d) (ev aj x)
def ad3(aj:Env)(x:aK)(y:aK):ej:=match ev aj x,ev aj y with
  | .one (.p (.int k a)),.one (.p (.int _ b))=>.done (.one (.p (.int k (if b>a then b else a)))) [] []
  |_,_=>.fail
def ad4(aj:Env)(x:aK)(y:aK):ej:=match ev aj x,ev aj y with
  | .one (.p (.int k a)),.one (.p (.int _ b))=>.done (.one (.p (.int k (if b<a then b else a)))) [] []
  |_,_=>.fail
def adS(aj:Env)(blk:aw)(z:List PV)(x:aK):ej:=match ev aj x with
  | .one (.p .nils)=>.done (.tup []) [] []
  | .one (.p (.sl []))=>.done (.tup []) [] []
  | .one (.hsl id g _ off len)=>if len=0 then .done (.tup []) [] [] else match blk id with
   |(g',some (.arr ty sz es))=>if g'=g/\sz=z.length/\off+len<=es.length then .done (.tup []) [(id,(g,some (.arr ty sz (dM es off (List.replicate len z)))))] [id] else .fail
   |_=>.fail
  |_=>.fail
def NF(shared:Nat->Bool)(aj:Env)(blk:aw):jk->ej
 | .jh x=>ad8 aj x
 | .pick c a b=>aec aj c a b
 | .alloc s z=>adK blk s z
 | .box s x=>adN aj blk s x
 | .build z ps=>adQ aj z ps
 | .eW s ty sz ps=>adO aj blk s ty sz ps
 | .load k x=>ad1 aj blk k x
 | .store n a x=>aef aj blk n a x
 | .tF x=>aea aj x
 | .bin op x y=>US aj op x y
 | .eqc k neg x y=>adV aj k neg x y
 | .un op x=>aeg aj op x
 | .conv k x=>adT aj k x
 | .bstr x=>adP aj blk x
 | .mkfn f a b=>ad5 aj f a b
 | .mkmap s ag=>ad6 blk s ag
 | .ny s ty sz bytes z l c=>UU aj blk s ty sz bytes z l c
 | .slice sz x lo hi=>UX aj sz x lo hi
 | .sslice x lo hi=>UY aj x lo hi
 | .sW off x=>adX aj off x
 | .mH sz x i=>UT aj sz x i
 | .tX len sz x i=>UQ aj len sz x i
 | .fld off k x=>adY aj off k x
 | .aidx len sz k x i=>UR aj len sz k x i
 | .sidx x i=>UW aj x i
 | .lookup kd z agg ok x k=>ad2 aj blk kd z agg ok x k
 | .bad=>adM
 | .mupd kd ag m k v=>ad9 aj blk kd ag m k v
 | .extract x i=>adW aj x i
 | .call s f as=>adR shared aj blk s f as
 | .slen x=>aee aj x
 | .xr x=>adZ aj x
 | .mlen x=>ad7 aj blk x
 | .append s ty sz bytes d x=>adL aj blk s ty sz bytes d x
 | .max x y=>ad3 aj x y
 | .min x y=>ad4 aj x y
 | .clear z x=>adS aj blk z x
theorem adJ(shared:Nat->Bool)(aj:Env)(blk:aw)(o:jk):NF shared aj blk o=aT shared aj blk o:=by
 cases o<;>first
  |rfl
  |simp only[NF,aT,US,UU,UX,UY,UT,UQ,UR,UW,X9,O6,Ya]<;>rfl
inductive Tr where
 |leaf
 |node (v:V) (l r:Tr)
noncomputable def Tr.get (t:Tr):Nat->V:=Tr.rec (motive:=fun _=>Nat->V) (fun _=>.undef) (fun v _ _ gl gr n=>bif Nat.beq n 0 then v else bif Nat.beq (Nat.mod n 2) 1 then gl (Nat.div n 2) else gr (Nat.sub (Nat.div n 2) 1)) t
noncomputable def Tr.single (k:Nat):Nat->V->Tr:=Nat.rec (motive:=fun _=>Nat->V->Tr) (fun _ _=>.leaf) (fun _ ih n x=>bif Nat.beq n 0 then .node x .leaf .leaf else bif Nat.beq (Nat.mod n 2) 1 then .node .undef (ih (Nat.div n 2) x) .leaf else .node .undef .leaf (ih (Nat.sub (Nat.div n 2) 1) x)) k
noncomputable def Tr.set (t:Tr):Nat->V->Tr:=Tr.rec (motive:=fun _=>Nat->V->Tr) (fun n x=>Tr.single 12 n x) (fun v l r sl sr n x=>bif Nat.beq n 0 then .node x l r else bif Nat.beq (Nat.mod n 2) 1 then .node v (sl (Nat.div n 2) x) r else .node v l (sr (Nat.sub (Nat.div n 2) 1) x)) t
theorem zc{a b:Nat}(h:a≠b):Nat.beq a b=false:=by
 cases e:Nat.beq a b with
 |false=>rfl
 |true=>exact(h (nI e)).elim
theorem aar(n:Nat):Tr.leaf.get n=.undef:=rfl
theorem HJ(v:V)(l r:Tr)(n:Nat):(Tr.node v l r).get n=if n=0 then v else if n%2=1 then l.get (n/2) else r.get (n/2-1):=by
 show(bif Nat.beq n 0 then v else bif Nat.beq (n%2) 1 then l.get (n/2) else r.get (n/2-1))=_;by_cases h0:n=0
 .subst h0;rfl
 rw[zc h0,if_neg h0];by_cases h1:n%2=1
 .rw[h1];rfl
 rw[zc h1,if_neg h1];rfl
theorem VS(f:Tr->Tr)(g:Tr->Tr)(v:V)(l r:Tr)(n m:Nat)(x:V)(hl:n%2=1->(f l).get (m/2)=if m/2=n/2 then x else l.get (m/2))(hr:n≠0->n%2≠1->(g r).get (m/2-1)=if m/2-1=n/2-1 then x else r.get (m/2-1)):
  (bif Nat.beq n 0 then Tr.node x l r else bif Nat.beq (n%2) 1 then .node v (f l) r else .node v l (g r)).get m=if m=n then x else (Tr.node v l r).get m:=by
 by_cases h0:n=0
 .subst h0;simp only[Nat.beq_refl,cond_true,HJ];by_cases hm:m=0<;>simp[hm]
 rw[zc h0];by_cases h1:n%2=1
 .rw[h1];simp only[cond_false,Nat.beq_refl,cond_true,HJ];by_cases hm:m=0
  .subst hm;rw[if_pos rfl,if_neg (fun e=>h0 e.symm),if_pos rfl]
  rw[if_neg hm];by_cases mB:m%2=1
  .rw[if_pos mB,hl h1];by_cases he:m=n
   .subst he;simp
   rw[if_neg he,if_neg aa,if_neg hm,if_pos mB]
  rw[if_neg mB,if_neg aa,if_neg hm,if_neg mB]
 rw[zc h1];simp only[cond_false,HJ];by_cases hm:m=0
 .subst hm;rw[if_pos rfl,if_neg (fun e=>h0 e.symm),if_pos rfl]
 rw[if_neg hm];by_cases mB:m%2=1
 .rw[if_pos mB,if_neg aa,if_neg hm,if_pos mB]
 rw[if_neg mB,hr h0 h1];by_cases he:m=n
 .subst he;simp
 rw[if_neg he,if_neg aa,if_neg hm,if_neg mB]
theorem afw:∀(k n m:Nat) (x:V),n+1<2 ^ k->(Tr.single k n x).get m=if m=n then x else Tr.leaf.get m:=by
 intro k
 induction k with
 |zero=>intro n m x h;simp at h
 |succ k ih=>
  intro n m x h;have hp:2 ^ (k+1)=2*2 ^ k:=by rw[Nat.pow_succ];omega
  have:=VS (fun _=>Tr.single k (n/2) x) (fun _=>Tr.single k (n/2-1) x) .undef .leaf .leaf n m x (fun _=>ih _ _ _ aa) (fun _ _=>ih _ _ _ aa);have e:(Tr.node .undef .leaf .leaf).get m=Tr.leaf.get m:=by rw[HJ];simp[aar]
  rw[e] at this;exact this
theorem Tr.SD:∀(t:Tr) (n m:Nat) (x:V),n+1<2 ^ 12->(t.set n x).get m=if m=n then x else t.get m:=by
 intro t
 induction t with
 |leaf=>intro n m x h;exact afw 12 n m x h
 |node v l r ihl ihr=>intro n m x h;exact VS (fun l=>l.set (n/2) x) (fun r=>r.set (n/2-1) x) v l r n m x (fun _=>ihl _ _ _ aa) (fun _ _=>ihr _ _ _ aa)
abbrev BL:=List (Nat×(Nat×Option Ob))
noncomputable def Ce (b:BL) (n:Nat):Nat×Option Ob:=List.rec (motive:=fun _=>Nat×Option Ob) (0,none) (fun p _ ih=>bif Nat.beq p.1 n then p.2 else ih) b
noncomputable def GB:BL->Nat->Nat×Option Ob->BL
 |[],n,x=>[(n,x)]
 |(i,o)::r,n,x=>bif Nat.beq i n then (i,x)::r else (i,o)::GB r n x
theorem aap:∀(b:BL) (n:Nat) (x:Nat×Option Ob) (m:Nat),Ce (GB b n x) m=if m=n then x else Ce b m:=by
 intro b
 induction b with
 |nil=>
  intro n x m;simp only[GB,Ce];by_cases h:m=n
  .subst h;simp
  have:Nat.beq n m=false:=zc fun e=>h e.symm;simp[this,h]
 |cons p b ih=>
  obtain⟨i,o⟩:=p;intro n x m;simp only[GB];by_cases h:i=n
  .subst h;simp only[Nat.beq_refl,cond_true,Ce];by_cases hm:m=i
   .subst hm;simp
   have:Nat.beq i m=false:=zc fun e=>hm e.symm;simp[this,hm]
  have:Nat.beq i n=false:=zc h;simp only[this,cond_false,Ce];by_cases hm:i=m
  .subst hm;simp[h]
  have:Nat.beq i m=false:=zc hm;simp only[this,cond_false];exact ih n x m
noncomputable def lL (t:Tr):Env:=fun i=>t.get i
noncomputable def iM (b:BL):aw:=fun i=>Ce b i
noncomputable def Dw:Nat->List V->Tr->Tr
 |_,[],t=>t
 |i,a::r,t=>Dw (i+1) r (t.set i a)
theorem agI:∀(l:List V) (i:Nat) (t:Tr) (m:Nat),i+l.length<4095->(Dw i l t).get m=if i<=m/\m<i+l.length then l.getD (m-i) .undef else t.get m:=by
 intro l
 induction l with
 |nil=>intro i t m _;simp[Dw];intro h1 h2;omega
 |cons a r ih=>
  intro i t m h;simp only[dN] at h ⊢;rw[Dw,ih (i+1) _ m aa,Tr.SD t i m a aa];by_cases h1:m=i
  .subst h1;rw[if_neg aa,if_pos rfl,if_pos aa];simp
  rw[if_neg h1];by_cases h2:i+1<=m/\m<i+1+r.length
  .rw[if_pos h2,if_pos aa];obtain⟨k,rfl⟩:∃k,m=i+1+k:=⟨m-(i+1),aa⟩;rw[show i+1+k-(i+1)=k by omega,show i+1+k-i=k+1 by omega];simp
  rw[if_neg h2,if_neg aa]
theorem agC(h:args.length<4095):lL (Dw 0 args .leaf)=nr args:=by
 funext m;unfold lL nr;rw[agI args 0 .leaf m aa];by_cases hm:m<args.length
 .rw[if_pos aa];rfl
 rw[if_neg aa];simp[Tr.get,List.getD,uT (Nat.le_of_not_lt hm)]
noncomputable def Ox {α:Type} (n:Nat) (k:Nat->α):α:=match n with
 |0=>k 0
 |m+1=>k (m+1)
noncomputable def Ow {α:Type} (z:Int) (k:Int->α):α:=match z with
 | .ofNat n=>Ox n fun n=>k (.ofNat n)
 | .negSucc n=>Ox n fun n=>k (.negSucc n)
noncomputable def Oy {α:Type} (v:V) (k:V->α):α:=match v with
 | .one (.p (.int t z))=>Ow z fun z=>k (.one (.p (.int t z)))
 | .one (.p (.bool b))=>match b with
  |true=>k (.one (.p (.bool true)))
  |false=>k (.one (.p (.bool false)))
 |v=>k v
@[simp] theorem ahj {α:Type} (n:Nat) (k:Nat->α):Ox n k=k n:=by cases n<;>rfl
@[simp] theorem ahi {α:Type} (z:Int) (k:Int->α):Ow z k=k z:=by cases z<;>simp[Ow]
@[simp] theorem ag8 {α:Type} (v:V) (k:V->α):Oy v k=k v:=by
 unfold Oy;split
 .simp
 .split<;>rfl
 rfl
def Iy(al:Al)(l:List Nat):Bool:=bif al.any then true else al.fi l
theorem ac9(al:Al)(l:List Nat):Iy al l=al.fi l:=by
 unfold Iy;cases h:al.any with
 |false=>rfl
 |true=>simp[Al.fi,Al.ok,h]
abbrev k9:=Nat->List V->Al->BL->Option (V×BL)
noncomputable def zS:List dH->BL->BL
 |[],b=>b
 |(i,o)::r,b=>zS r (GB b i o)
theorem Om:∀(u:List dH) (b:BL),iM (zS u b)=app u (iM b):=by
 intro u
 induction u with
 |nil=>intro b;rfl
 |cons x u ih=>obtain⟨i,o⟩:=x;intro b;simp only[zS,app];rw[ih];congr 1;funext m;exact aap b i o m
noncomputable def Db (t:Tr) (d:Option Nat) (v:V) (k:Tr->Option (Tr×BL×bl)):Option (Tr×BL×bl):=match d with
 |none=>k t
 |some n=>bif Nat.ble n 4000 then Oy v fun v=>k (t.set n v) else none
noncomputable def Ja (sh:Ctx) (cp:eN) (cs:k9) (o:aI) (t:Tr) (b:BL):Option (Tr×BL×bl):=
 match wanted (lL t) o.guard with
 |none=>none
 |some false=>Db t o.dst .undef fun t'=>some (t',b,⟨[],[],[]⟩)
 |some true=>match NF sh.shared (lL t) (iM b) o.op with
  | .fail=>none
  | .done v u r=>bif Iy sh.al (r++u.map (·.1)) then Db t o.dst v fun t'=>some (t',zS u b,⟨r,u.map (·.1),[]⟩) else none
  | .pc f vs r s=>match cp f vs with
   |some x=>match land (iM b) r s (x.fx (sh.lone s)) with
    |some (v,u)=>bif Iy sh.al (r++u.map (·.1)) then Db t o.dst v fun t'=>some (t',zS u b,⟨r++u.map (·.1),u.map (·.1),[]⟩) else none
    |none=>none
   |none=>none
  | .sc f vs=>match allow sh f vs (iM b) with
   |al=>bif sh.al.holds al then
     match cs f vs al b with
     |some (v,b')=>Db t o.dst v fun t'=>some (t',b',⟨al.ids,al.ids,al.fs⟩)
     |none=>none
    else none
noncomputable def BD (cs:iv) (cf:k9):Prop:=∀f vs al b v b',cf f vs al b=some (v,b')->cs f vs al (iM b)=some (v,iM b')
theorem IK{t t':Tr}{d:Option Nat}{v:V}{b b':BL}{e e':bl}(h:Db t d v (fun t'=>some (t',b,e))=some (t',b',e')):put (lL t) d v=lL t'/\b=b'/\e=e':=by
 unfold Db at h;split at h
 .cases h;exact⟨rfl,rfl,rfl⟩
 rename_i n;cases hn:Nat.ble n 4000 with
 |false=>rw[hn] at h;cases h
 |true=>rw[hn] at h;simp only[cond_true,ag8] at h;cases h;refine⟨?_,rfl,rfl⟩;have:=fy hn;funext m;unfold lL put;exact(Tr.SD t n m v aa).symm
theorem af9{cf:k9}(hs:BD cs cf){o:aI}{t t':Tr}{b b':BL}{e:bl}(h:Ja sh cp cf o t b=some (t',b',e)):step1 sh cp cs o (lL t) (iM b)=some (lL t',iM b',e):=by
 unfold Ja at h;simp only[adJ,ac9] at h;unfold step1;split at h
 .cases h
 .rename_i hw;rw[hw];obtain⟨h1,rfl,rfl⟩:=IK h;simp only[h1]
 rename_i hw;rw[hw];simp only;split at h
 .cases h
 .rename_i v u r hp;cases aq:sh.al.fi (r++u.map (·.1)) with
  |false=>rw[aq] at h;cases h
  |true=>rw[aq] at h;obtain⟨h1,rfl,rfl⟩:=IK h;simp only[hp,aq,if_true,h1,Om]
 .rename_i f vs r s hp;split at h
  .rename_i x hx;split at h
   .rename_i v u hl;cases aq:sh.al.fi (r++u.map (·.1)) with
    |false=>rw[aq] at h;cases h
    |true=>rw[aq] at h;obtain⟨h1,rfl,rfl⟩:=IK h;simp only[hp,hx,hl,aq,if_true,h1,Om]
   cases h
  cases h
 rename_i f vs hp;cases aq:sh.al.holds (allow sh f vs (iM b)) with
 |false=>rw[aq] at h;cases h
 |true=>
  rw[aq] at h;simp only[cond_true] at h;split at h
  .rename_i v b1 hc;obtain⟨h1,rfl,rfl⟩:=IK h;simp only[hp,aq,if_true,hs _ _ _ _ _ _ hc,h1]
  cases h
noncomputable def aga (sh:Ctx) (cp:eN) (cs:k9) (o:aI) (ih:Tr->BL->Option (Tr×BL×List bl)) (aj:Tr) (blk:BL):Option (Tr×BL×List bl):=
 match Ja sh cp cs o aj blk with
 |some (aB,ak,e)=>match ih aB ak with
  |some (nc,v7,es)=>some (nc,v7,e::es)
  |none=>none
 |none=>none
noncomputable def Ds (sh:Ctx) (cp:eN) (cs:k9) (l:List aI):Tr->BL->Option (Tr×BL×List bl):=List.rec (motive:=fun _=>Tr->BL->Option (Tr×BL×List bl)) (fun aj blk=>some (aj,blk,[])) (fun o _ ih=>aga sh cp cs o ih) l
theorem agc(sh:Ctx)(cp:eN)(cs:k9)(aj:Tr)(blk:BL):Ds sh cp cs [] aj blk=some (aj,blk,[]):=rfl
theorem agb(sh:Ctx)(cp:eN)(cs:k9)(o:aI)(r:List aI)(aj:Tr)(blk:BL):Ds sh cp cs (o::r) aj blk=match Ja sh cp cs o aj blk with
  |some (aB,ak,e)=>match Ds sh cp cs r aB ak with
   |some (nc,v7,es)=>some (nc,v7,e::es)
   |none=>none
  |none=>none:=rfl
theorem agd{cf:k9}(hs:BD cs cf):∀ {ops:List aI} {t t':Tr} {b b':BL} {es:List bl},Ds sh cp cf ops t b=some (t',b',es)->steps sh cp cs ops (lL t) (iM b)=some (lL t',iM b',es):=by
 intro ops
 induction ops with
 |nil=>intro t t' b b' es h;simp only[agc,dV,ju] at h;obtain⟨rfl,rfl,rfl⟩:=h;rfl
 |cons o r ih=>
  intro t t' b b' es h;simp only[agb] at h;split at h
  .rename_i t1 b1 e1 h1;split at h
   .rename_i t2 b2 es2 h2;cases h;simp only[steps,af9 hs h1,ih h2]
   cases h
  cases h
noncomputable def Gc (f:Tr->BL->Option (jV×Tr×BL)) (n:Nat):Tr->BL->Option (jV×Tr×BL):=
 Nat.rec (motive:=fun _=>Tr->BL->Option (jV×Tr×BL)) (fun _ _=>none) (fun _ ih aj blk=>match f aj blk with
  |some (.normal,aB,ak)=>ih aB ak
  |r=>r) n
theorem ab4(f:Tr->BL->Option (jV×Tr×BL))(n:Nat)(aj:Tr)(blk:BL):Gc f (n+1) aj blk=match f aj blk with
  |some (.normal,aB,ak)=>Gc f n aB ak
  |r=>r:=rfl
abbrev Ex:=Tr->BL->Option (jV×Tr×BL)
noncomputable def Zx (sh:Ctx) (cp:eN) (cs:k9) (d:Bool) (ops:List aI):Ex:=fun aj blk=>match Ds sh cp cs ops aj blk with
  |some (aB,ak,es)=>bif d then (bif ow ops [] es then some (.normal,aB,ak) else none) else some (.normal,aB,ak)
  |none=>none
noncomputable def Zy (a b:Ex):Ex:=fun aj blk=>match a aj blk with
  |some (.normal,aB,ak)=>b aB ak
  |r=>r
noncomputable def Zw (x:aK) (a b:Ex):Ex:=fun aj blk=>match ev (lL aj) x with
  | .one (.p (.bool t))=>bif t then a aj blk else b aj blk
  |_=>none
noncomputable def Zv (id:Nat) (c:Ex):Ex:=fun aj blk=>match c aj blk with
  |some (.exit i,aB,ak)=>bif Nat.beq i id then some (.normal,aB,ak) else some (.exit i,aB,ak)
  |r=>r
noncomputable def oN (sh:Ctx) (cp:eN) (cs:k9) (n:Nat) (c:aH):Ex:=
 aH.rec (motive:=fun _=>Ex) (fun aj blk=>some (.normal,aj,blk)) (fun d ops=>Zx sh cp cs d ops) (fun _ _ a b=>Zy a b) (fun x _ _ a b=>Zw x a b)
  (fun id _ c=>Zv id c) (fun _ c=>Gc c n) (fun id aj blk=>some (.exit id,aj,blk)) (fun aj blk=>some (.ret,aj,blk)) (fun _ _=>none) c
section
variable (sh:Ctx) (cp:eN) (cs:k9) (n:Nat) (aj:Tr) (blk:BL)
theorem ZG:oN sh cp cs n .skip aj blk=some (.normal,aj,blk):=rfl
theorem ZB(id:Nat):oN sh cp cs n (.exit id) aj blk=some (.exit id,aj,blk):=rfl
theorem ZE:oN sh cp cs n .ret aj blk=some (.ret,aj,blk):=rfl
theorem ZD(d:Bool)(ops:List aI):oN sh cp cs n (.region d ops) aj blk=match Ds sh cp cs ops aj blk with
  |some (aB,ak,es)=>bif d then (bif ow ops [] es then some (.normal,aB,ak) else none) else some (.normal,aB,ak)
  |none=>none:=rfl
theorem ZF(a b:aH):oN sh cp cs n (.seq a b) aj blk=match oN sh cp cs n a aj blk with
  |some (.normal,aB,ak)=>oN sh cp cs n b aB ak
  |r=>r:=rfl
theorem ZA(x:aK)(a b:aH):oN sh cp cs n (.cond x a b) aj blk=match ev (lL aj) x with
  | .one (.p (.bool t))=>bif t then oN sh cp cs n a aj blk else oN sh cp cs n b aj blk
  |_=>none:=rfl
theorem Zz(id:Nat)(c:aH):oN sh cp cs n (.block id c) aj blk=match oN sh cp cs n c aj blk with
  |some (.exit i,aB,ak)=>bif Nat.beq i id then some (.normal,aB,ak) else some (.exit i,aB,ak)
  |r=>r:=rfl
theorem ZC(c:aH):oN sh cp cs n (.loop c) aj blk=Gc (oN sh cp cs n c) n aj blk:=rfl
end
theorem ab3{f:Tr->BL->Option (jV×Tr×BL)}{g:Env->aw->Option (jV×Env×aw)}(hfg:∀t b e t' b',f t b=some (e,t',b')->g (lL t) (iM b)=some (e,lL t',iM b')):
  ∀(n:Nat) {t t':Tr} {b b':BL} {e:jV},Gc f n t b=some (e,t',b')->iter g n (lL t) (iM b)=some (e,lL t',iM b'):=by
 intro n
 induction n with
 |zero=>intro t t' b b' e h;cases h
 |succ n ih=>
  intro t t' b b' e h;simp only[ab4] at h;simp only[iter];split at h
  .rename_i t1 b1 h1;rw[hfg _ _ _ _ _ h1];exact ih h
  rename_i aR;rw[hfg _ _ _ _ _ h];cases e with
  |normal=>exact(aR _ _ h).elim
  |exit i=>rfl
  |ret=>rfl
theorem QE{cf:k9}(hs:BD cs cf){n:Nat}:∀(c:aH) {t t':Tr} {b b':BL} {e:jV},oN sh cp cf n c t b=some (e,t',b')->exec sh cp cs n c (lL t) (iM b)=some (e,lL t',iM b'):=by
 intro c
 induction c with
 |skip=>intro t t' b b' e h;simp only[ZG,dV,ju] at h;obtain⟨rfl,rfl,rfl⟩:=h;rfl
 |exit id=>intro t t' b b' e h;simp only[ZB,dV,ju] at h;obtain⟨rfl,rfl,rfl⟩:=h;rfl
 |ret=>intro t t' b b' e h;simp only[ZE,dV,ju] at h;obtain⟨rfl,rfl,rfl⟩:=h;rfl
 |bad=>intro t t' b b' e h;cases h
 |region d ops=>
  intro t t' b b' e h;simp only[ZD] at h;simp only[exec];split at h
  .rename_i t1 b1 es h1;rw[agd hs h1];simp only;cases d with
   |false=>simp only[cond_false] at h;cases h;simp
   |true=>
    simp only[cond_true] at h;cases hd:ow ops [] es with
    |false=>rw[hd] at h;cases h
    |true=>rw[hd] at h;simp only[cond_true] at h;cases h;simp
  cases h
 |seq x y ihx ihy=>
  intro t t' b b' e h;simp only[ZF] at h;simp only[exec];split at h
  .rename_i t1 b1 h1;rw[ihx h1];exact ihy h
  rename_i aR;rw[ihx h];cases e with
  |normal=>exact(aR _ _ h).elim
  |exit i=>rfl
  |ret=>rfl
 |cond x p q ihp ihq=>
  intro t t' b b' e h;simp only[ZA] at h;simp only[exec];split at h
  .rename_i tt ht;rw[ht];cases tt with
   |true=>simp only[cond_true] at h;simpa using ihp h
   |false=>simp only[cond_false] at h;simpa using ihq h
  cases h
 |block id c ih=>
  intro t t' b b' e h;simp only[Zz] at h;simp only[exec];split at h
  .rename_i i t1 b1 h1;rw[ih h1];simp only;cases hi:Nat.beq i id with
   |true=>rw[hi] at h;simp only[cond_true] at h;cases h;rw[if_pos (nI hi)]
   |false=>rw[hi] at h;simp only[cond_false] at h;cases h;rw[if_neg];intro hh;rw[hh,Nat.beq_refl] at hi;cases hi
  rename_i aR;rw[ih h];cases e with
  |normal=>rfl
  |exit i=>exact(aR _ _ _ h).elim
  |ret=>rfl
 |loop c ih=>intro t t' b b' e h;simp only[ZC] at h;simp only[exec];exact ab3 (fun _ _ _ _ _ h=>ih h) n h
noncomputable def A8 (sh:Ctx) (cp:eN) (cs:k9) (n:Nat) (fn:aU) (args:List V) (blk:BL):Option (V×BL):=
 bif Nat.ble args.length 4000 then
  match oN sh cp cs n fn.body (Dw 0 args .leaf) blk with
  |some (.normal,aj,ak)=>(kW sh.al (lL aj) (iM ak) fn.results).map fun vs=>(uQ vs,ak)
  |some (.ret,aj,ak)=>(kW sh.al (lL aj) (iM ak) fn.results).map fun vs=>(uQ vs,ak)
  |_=>none
 else none
theorem aeL{cf:k9}(hs:BD cs cf){n:Nat}{fn:aU}{b b':BL}{v:V}(h:A8 sh cp cf n fn args b=some (v,b')):mN sh cp cs n fn args (iM b)=some (v,iM b'):=by
 unfold A8 at h;unfold mN;cases hl:Nat.ble args.length 4000 with
 |false=>rw[hl] at h;cases h
 |true=>
  rw[hl] at h;simp only[cond_true] at h;have:=fy hl;rw[<- agC aa];split at h
  .rename_i aj b1 hx;rw[QE hs _ hx];simp only[cH] at h ⊢;obtain⟨vs,h1,h2⟩:=h;cases h2;exact⟨vs,h1,rfl⟩
  .rename_i aj b1 hx;rw[QE hs _ hx];simp only[cH] at h ⊢;obtain⟨vs,h1,h2⟩:=h;cases h2;exact⟨vs,h1,rfl⟩
  cases h
noncomputable def Yd (S:Sys) (n:Nat) (cp:eN) (cs:k9):eN:=fun f args=>match S.prim f args with
  |some r=>r
  |none=>match S.fns f with
   |some fn=>bif Nat.ble args.length fn.ntmps then
     match A8 (S.ctx .all) cp cs n fn args [] with
     |some (v,b)=>ji (iM b) v
     |none=>none
    else none
   |none=>none
noncomputable def Yf (S:Sys) (n:Nat) (cp:eN) (cs:k9):k9:=fun f args al b=>bif S.trig f args then (S.primS f args al (iM b)).map (fun r=>(r.1,zS r.2 b)) else match S.fns f with
  |some fn=>bif Nat.ble args.length fn.ntmps then A8 (S.ctx al) cp cs n fn args b else none
  |none=>none
noncomputable def Pq (S:Sys) (n:Nat):eN×k9:=Nat.rec (motive:=fun _=>eN×k9) (fun _ _=>none,fun _ _ _ _=>none) (fun n ih=>(Yd S n ih.1 ih.2,Yf S n ih.1 ih.2)) n
noncomputable def wg (S:Sys) (n:Nat):eN:=(Pq S n).1
noncomputable def uZ (S:Sys) (n:Nat):k9:=(Pq S n).2
theorem Ye(S:Sys)(n f:Nat)(args:List V):wg S (n+1) f args=match S.prim f args with
  |some r=>r
  |none=>match S.fns f with
   |some fn=>bif Nat.ble args.length fn.ntmps then
     match A8 (S.ctx .all) (wg S n) (uZ S n) n fn args [] with
     |some (v,b)=>ji (iM b) v
     |none=>none
    else none
   |none=>none:=rfl
theorem Yg(S:Sys)(n f:Nat)(args:List V)(al:Al)(b:BL):uZ S (n+1) f args al b=bif S.trig f args then (S.primS f args al (iM b)).map (fun r=>(r.1,zS r.2 b)) else match S.fns f with
  |some fn=>bif Nat.ble args.length fn.ntmps then A8 (S.ctx al) (wg S n) (uZ S n) n fn args b else none
  |none=>none:=rfl
theorem Vf{kj:eN}(hp:DR cp kj){cf:k9}(hs:BD cs cf){n:Nat}{fn:aU}{b b':BL}{v:V}(h:A8 sh cp cf n fn args b=some (v,b')):mN sh kj cs n fn args (iM b)=some (v,iM b'):=NV hp (fun _ _ _ _ _ h=>h) (bo _) (aeL hs h)
theorem JH(S:Sys):∀n,DR (wg S n) (gu S n)/\BD (fm S n) (uZ S n):=by
 intro n
 induction n with
 |zero=>have h1:∀f x,wg S 0 f x=none:=fun _ _=>rfl;have h2:∀f vs al b,uZ S 0 f vs al b=none:=fun _ _ _ _=>rfl;exact⟨fun f x r h=>(by rw[h1] at h;cases h),fun f vs al b v b' h=>(by rw[h2] at h;cases h)⟩
 |succ n ih=>
  obtain⟨hp,hs⟩:=ih;refine⟨fun f x r h=>?_,fun f vs al b v b' h=>?_⟩
  .rw[Ye] at h;rw[gu];split at h
   .rename_i r' FX;simp only[FX];exact h
   rename_i FX;simp only[FX];split at h
   .rename_i fn hfn;simp only[hfn];cases hl:Nat.ble x.length fn.ntmps with
    |false=>rw[hl] at h;cases h
    |true=>
     rw[hl] at h;simp only[cond_true] at h;rw[if_pos (fy hl)];split at h
     .rename_i v b hr;unfold zu;have:vx=iM []:=rfl;rw[this,Vf hp hs hr];exact h
     cases h
   cases h
  rw[Yg] at h;rw[fm];cases ht:S.trig f vs with
  |true=>
   rw[ht] at h;simp only[cond_true] at h;rw[if_pos rfl];cases hp:S.primS f vs al (iM b) with
   |none=>rw[hp] at h;cases h
   |some r=>rw[hp] at h;cases h;rw[kM,Om]
  |false=>
  rw[ht] at h;simp only[cond_false,iF,if_false] at h ⊢;split at h
  .rename_i fn hfn;simp only[hfn];cases hl:Nat.ble vs.length fn.ntmps with
   |false=>rw[hl] at h;cases h
   |true=>rw[hl] at h;simp only[cond_true] at h;rw[if_pos (fy hl)];exact Vf hp hs h
  cases h
theorem OG(S:Sys)(n:Nat){f:Nat}{r:RV}(h:wg S n f args=some r):aE S f args r:=⟨n,(JH S n).1 _ _ _ h⟩
inductive Fits {H:Type} (N:Nat):DataW H->Prop where
 |str (s:List UInt8) (h:s.length<=N):Fits N (.lit (.string s))
 |lit (l:Lit) (h:∀s,l≠ .string s):Fits N (.lit l)
 |nil:Fits N .nil
 |slice (es sp:List (DataW H)) (h:es.length<=N) (he:∀d∈es,Fits N d):Fits N (.slice es sp)
 |agg (es:List (DataW H)) (he:∀d∈es,Fits N d):Fits N (.agg es)
def ir(P:Program)(N:Nat):Nat->TypeId->List PV->Prop
 |0,_,_=>False
 |n+1,t,ps=>match P.underlying t with
  |some .bool=>∃b,ps=[.bool b]
  |some (.int k)=>∃z,ps=[.int k z]/\(Lit.int k z).wf=true
  |some .string=>∃s:ByteArray,ps=[.str s]/\s.size<=N
  |some (.slice e)=>∃es,ps=[.sl es]/\es.length<=N/\ ∀x∈es,ir P N n e x
  |some (.struct fs)=>∃parts:List (List PV),ps=parts.flatten/\parts.length=fs.toList.length/\ ∀(i:Nat) (f:Field) (x:List PV),fs.toList[i]?=some f->parts[i]?=some x->ir P N n f.type x
  |_=>False
def uc(P:Program):Nat->Nat->List Field->Bool
 |off,total,[]=>Nat.beq off total
 |off,total,f::r=>Nat.beq f.offset off&&uc P (off+P.cellsOf f.type) total r
def ik(P:Program):Nat->TypeId->Bool
 |0,_=>false
 |n+1,t=>match P.underlying t with
  |some .bool|some (.int _)|some .string=>true
  |some (.slice e)=>Nat.blt 0 (P.cellsOf e)&&ik P n e
  |some (.struct fs)=>uc P 0 (P.cellsOf t) fs.toList&&fs.toList.all fun f=>ik P n f.type
  |_=>false
section
variable {H:Type} {enc:TypeId×Value->H} {P:Program} {w:World} {base:Nat} {sp:Nat->Bool} {held:Bool} {N:Nat}
theorem bQ.append{w:World}{own:Nat->Prop}{xs ys:List PV}{vs us:List Value}(h:bQ w own xs vs)(k:bQ w own ys us):bQ w own (xs++ys) (vs++us):=Pw.append (R:=bh w own) h k
theorem Pu{w:World}{base:Nat}{a:Addr}{n:Nat}{cs:List Value}(h:w.cells? base a n=some cs):cs.length=n/\ ∀i,i<n->a.add i=⟨a.block,a.off+i,none⟩/\w.cell? ⟨a.block,a.off+i,none⟩=cs[i]? :=by
 unfold World.cells? at h;split at h
 .have hl:=mapM_some_length h;simp at hl;refine⟨hl,fun i hi=>?_⟩;have hg:=mapM_some_get h i i (by simp[hi]);have au:i<cs.length:=aa;have hv:cs[i]?=some cs[i]:=by simp[au]
  rw[hv] at hg;have Tg:(a.add i).spot=none:=by
   cases kD:(a.add i).spot with
   |none=>rfl
   |some s=>
    simp only[World.cell?] at hg;split at hg
    .simp[kD] at hg
    cases hg
  have e:a.add i=⟨a.block,a.off+i,none⟩:=by
   unfold Addr.add at Tg ⊢;split
   .rename_i h0;subst h0;rw[if_pos rfl] at Tg;cases a
    simp_all
   rfl
  refine⟨e,?_⟩;rw[hv,<- hg,e]
 cases h
theorem ZS{r:TypeId->List Value->Option (DataW H×List MemPlace)}{n:Nat}(ih:∀t cs x,ik P n t=true->r t cs=some x->Fits N x.1->∃pvs,ir P N n t pvs/\bQ w (fun _=>False) pvs cs){cs:List Value}{total:Nat}(ht:cs.length=total):
  ∀(fs:List Field) (off:Nat) (xs:List (DataW H×List MemPlace)),uc P off total fs=true->(∀f∈fs,ik P n f.type=true)->
   fs.mapM (fun f=>r f.type ((cs.drop f.offset).take (P.cellsOf f.type)))=some xs->(∀x∈xs,Fits N x.1)->off<=total->(∀f∈fs,∀c x,r f.type c=some x->∀pvs,ir P N n f.type pvs->bQ w (fun _=>False) pvs c->True)->
   ∃parts:List (List PV),parts.length=fs.length/\(∀(i:Nat) (f:Field) (x:List PV),fs[i]?=some f->parts[i]?=some x->ir P N n f.type x)/\(bQ w (fun _=>False) parts.flatten (cs.drop off)):=by
 intro fs
 induction fs with
 |nil=>
  intro off xs hc _ _ _ hle _;simp only[uc] at hc;have:=nI hc;refine⟨[],rfl,fun i f x h=>by simp at h,?_⟩;have:cs.drop off=[]:=by rw[List.drop_eq_nil_iff];omega
  rw[this];exact⟨rfl,fun j x u h=>by simp at h⟩
 |cons f fs ihf=>
  intro off xs hc ho hm hf hle hT;simp only[uc,cA] at hc;have MD:=nI hc.1;rw[List.mapM_cons] at hm;simp only[Option.bind_eq_bind,Jq,Option.pure_def,dV] at hm;obtain⟨x,hx,xs',AX,rfl⟩:=hm;obtain⟨pvs,p1,p2⟩:=ih _ _ _ (ho f af) hx (hf x af);have hlen:=p2.1;by_cases S5:off+P.cellsOf f.type<=total
  .obtain⟨parts,q1,q2,q3⟩:=ihf (off+P.cellsOf f.type) xs' hc.2 (fun g hg=>ho g (by simp[hg])) AX (fun y hy=>hf y (by simp[hy])) S5 (fun _ _ _ _ _ _ _ _=>trivial);refine⟨pvs::parts,by simp[q1],fun i g y hi hy=>?_,?_⟩
   .cases i with
    |zero=>simp at hi hy;subst hi hy;exact p1
    |succ i=>exact q2 i g y (by simpa using hi) (by simpa using hy)
   have:cs.drop off=(cs.drop f.offset).take (P.cellsOf f.type)++cs.drop (off+P.cellsOf f.type):=by rw[MD,<- List.drop_drop];exact(xR _ _).symm
   rw[this];simp only[kb];exact bQ.append p2 q3
  exfalso;have mono:∀(l:List Field) (o:Nat),uc P o total l=true->o<=total:=by
   intro l
   induction l with
   |nil=>intro o h;simp only[uc] at h;have:=nI h;omega
   |cons g l ihl=>intro o h;simp only[uc,cA] at h;have:=ihl _ h.2;omega
  exact S5 (mono _ _ hc.2)
theorem aeJ{sz:Nat}{f:Nat->Value}:∀(es:List (List PV)) (rows:List (List Value)) (k:Nat),rows.length=es.length->(∀(i:Nat) (e:List PV) (v:List Value),es[i]?=some e->rows[i]?=some v->bQ w (fun _=>False) e v/\v.length=sz/\ ∀j u,v[j]?=some u->f ((k+i)*sz+j)=u)->
  ∀(j:Nat) (x:PV),es.flatten[j]?=some x->bh w (fun _=>False) x (f (k*sz+j)):=by
 intro es
 induction es with
 |nil=>intro rows k _ _ j x h;simp at h
 |cons e es ih=>
  intro rows k hl h j x hx;cases rows with
  |nil=>simp at hl
  |cons v rows=>
   obtain⟨a1,a2,a3⟩:=h 0 e v rfl rfl;have cJ:e.length=sz:=by rw[<- a2];exact a1.1.symm
   simp only[kb] at hx;by_cases hj:j<e.length
   .rw[Br hj] at hx;have hv:v[j]?=some v[j]:=by simp[show j<v.length by omega]
    have:=a3 j _ hv;simp only[vP] at this;rw[this];exact a1.2 j x _ hx hv
   rw[zG aa] at hx;have:=ih rows (k+1) (by simpa using hl) (fun i e' v' h1 h2=>by have:=h (i+1) e' v' (by simpa using h1) (by simpa using h2);rw[show k+(i+1)=k+1+i by omega] at this;exact this) (j-e.length) x hx
   rw[show k*sz+j=(k+1)*sz+(j-e.length) by rw[fH];omega];exact this
theorem agN:∀(n fuel:Nat) (t:TypeId) (cs:List Value) (x:DataW H×List MemPlace),ik P n t=true->DataW.trod enc P w base sp held fuel t cs=some x->Fits N x.1->
  ∃pvs,ir P N n t pvs/\bQ w (fun _=>False) pvs cs:=by
 intro n
 induction n with
 |zero=>intro fuel t cs x h;simp[ik] at h
 |succ n ih=>
  intro fuel t cs x aq h hf;cases fuel with
  |zero=>simp[DataW.trod] at h
  |succ fuel=>
   rw[DataW.trod_step] at h;have one:∀ {p:PV} {v:Value},bh w (fun _=>False) p v->bQ w (fun _=>False) [p] [v]:=by
    intro p v hp;refine⟨rfl,fun j x u a b=>?_⟩;cases j with
    |zero=>simp at a b;subst a b;exact hp
    |succ j=>simp at a
   unfold DataW.trodStep at h;unfold ik at aq;split at h
   case h_1 b hu=>exact⟨[.bool b],by simp only[ir,hu];exact⟨b,rfl⟩,one (.bool b)⟩
   case h_2 k k' z hu=>
    split at h
    .rename_i hc;obtain⟨rfl,hwf⟩:=hc;exact⟨[.int k' z],by simp only[ir,hu];exact⟨z,rfl,hwf⟩,one (.int k' z)⟩
    cases h
   case h_4 s hu=>
    split at h
    .cases h;cases hf with
     |str _ hs=>exact⟨[.str s],by simp only[ir,hu];exact⟨s,rfl,by simpa using hs⟩,one (.str s)⟩
     |lit _ hs=>exact(hs _ rfl).elim
    cases h
   case h_7 e hu=>exact⟨[.sl []],by simp only[ir,hu];exact⟨[],rfl,bc _,fun x hx=>by simp at hx⟩,one (.sB none 0 (fun _=>rfl) (bc _))⟩
   case h_8 e a len cap hu=>
    rw[hu] at aq;simp only[cA] at aq;obtain⟨gM,hoe⟩:=aq;have gM:0<P.cellsOf e:=by have:=gM;simp[Nat.blt] at this;omega
    simp only at h;split at h
    .rename_i hc;obtain⟨hb,hlc,tn⟩:=hc;simp only[cH,Jq] at h;obtain⟨elems,he,rest,abx,rfl⟩:=h;have hlen:elems.length=len:=by simpa using mapM_some_length he
     cases hf with
     |slice _ _ hl FA=>
     simp only[cq] at hl;have get:∀i,i<len->∃y row pv,elems[i]?=some y/\w.cells? base (a.add (i*P.cellsOf e)) (P.cellsOf e)=some row/\ir P N n e pv/\bQ w (fun _=>False) pv row:=by intro i hi;have hg:=mapM_some_get he i i (by simp[hi]);have au:i<elems.length:=aa;rw[ry au] at hg;simp only[Jq] at hg;obtain⟨row,h1,h2⟩:=hg;obtain⟨pv,p1,p2⟩:=ih _ _ _ _ hoe h2 (FA _ (iX.2 ⟨_,List.getElem_mem au,rfl⟩));exact⟨_,row,pv,ry au,h1,p1,p2⟩
     cases mA:len with
     |zero=>refine⟨[.sl []],by simp only[ir,hu];exact⟨[],rfl,bc _,fun x hx=>by simp at hx⟩,one (.sB (some a) cap (fun h=>by cases h) tn)⟩
     |succ acy=>
      rw[<- mA];have h0:0<len:=aa;obtain⟨_,row0,_,_,hr0,_,_⟩:=get 0 h0;have ha:a=⟨a.block,a.off,none⟩:=by
       have h1:a.add 0=a:=by unfold Addr.add;rw[if_pos rfl]
       rw[uV,h1] at hr0;have:=((Pu hr0).2 0 gM).1;rw[h1] at this;exact this
      have MM:∀i,i<len->∃row pv,row.length=P.cellsOf e/\(∀j,j<P.cellsOf e->w.cell? ⟨a.block,a.off+(i*P.cellsOf e+j),none⟩=row[j]?)/\ir P N n e pv/\bQ w (fun _=>False) pv row:=by
       intro i hi;obtain⟨_,row,pv,_,h1,h2,h3⟩:=get i hi;obtain⟨l1,l2⟩:=Pu h1;refine⟨row,pv,l1,fun j hj=>?_,h2,h3⟩;have:=(l2 j hj).2;rw[<- this];have e2:a.add (i*P.cellsOf e)=⟨a.block,a.off+i*P.cellsOf e,none⟩:=by
        rw[ha];unfold Addr.add;split
        .rename_i h9;rw[h9];rfl
        rfl
       rw[e2];simp[Bt]
      let row:Nat->List Value:=fun i=>if h:i<len then (MM i h).choose else []
      let pv:Nat->List PV:=fun i=>if h:i<len then (MM i h).choose_spec.choose else []
      have F3:∀i,i<len->(row i).length=P.cellsOf e/\(∀j,j<P.cellsOf e->w.cell? ⟨a.block,a.off+(i*P.cellsOf e+j),none⟩=(row i)[j]?)/\ir P N n e (pv i)/\bQ w (fun _=>False) (pv i) (row i):=by intro i hi;simp only[row,pv,dif_pos hi];exact(MM i hi).choose_spec.choose_spec
      let es:=(List.range len).map pv
      have HR:es.length=len:=by simp[es]
      have wW:∀(i:Nat) (x:List PV),es[i]?=some x->i<len/\x=pv i:=by
       intro i x hx;have hi:i<len:=by rw[<- HR];exact(bn.1 hx).1
       refine⟨hi,?_⟩;simp only[es,js,rz hi,kM,dV] at hx;exact hx.symm
      let f:Nat->Value:=fun j=>(w.cell? ⟨a.block,a.off+j,none⟩).getD undef
      refine⟨[.sl es],?_,one ?_⟩
      .simp only[ir,hu];refine⟨es,rfl,aa,fun x hx=>?_⟩;obtain⟨i,hi⟩:=iV hx;obtain⟨h1,rfl⟩:=wW i x hi;exact(F3 i h1).2.2.1
      rw[ha];have hsz:∀x∈es,x.length=P.cellsOf e:=by intro x hx;obtain⟨i,hi⟩:=iV hx;obtain⟨h1,rfl⟩:=wW i x hi;have:=(F3 i h1).2.2.2.1;rw[<- this];exact(F3 i h1).1
      have dh:=aeJ (w:=w) (sz:=P.cellsOf e) (f:=f) es ((List.range len).map row) 0 (by simp[HR]) (fun i x v h1 h2=>by
       obtain⟨hi,rfl⟩:=wW i x h1;simp only[js,rz hi,kM,dV] at h2;subst h2;obtain⟨s1,s2,s3,s4⟩:=F3 i hi;refine⟨s4,s1,fun j u hu=>?_⟩;have hj:j<P.cellsOf e:=by rw[<- s1];exact(bn.1 hu).1
       simp only[f,kZ];rw[s2 j hj,hu];rfl)
      simp only[uV,kZ] at dh;have qH:∀(l:List (List PV)),(∀x∈l,x.length=P.cellsOf e)->l.flatten.length=l.length*P.cellsOf e:=by
       intro l
       induction l with
       |nil=>intro _;simp
       |cons x l ihl=>intro hx;simp only[kb,iW,dN];rw[hx x af,ihl (fun y hy=>hx y (by simp[hy])),fH];omega
      refine HR▸bh.sl a.block a.off cap (P.cellsOf e) f (fun _ h=>h) aa tn hsz (fun j x hx=>?_) dh;have hj:j<len*P.cellsOf e:=by have:=(bn.1 hx).1;rw[qH es hsz,HR] at this;exact this
      have hi:j/P.cellsOf e<len:=Nat.div_lt_of_lt_mul (by rw[Nat.mul_comm];exact hj);obtain⟨s1,s2,s3,s4⟩:=F3 _ hi;have hm:j%P.cellsOf e<P.cellsOf e:=eJ _ gM;have:=s2 _ hm;rw[show j/P.cellsOf e*P.cellsOf e+j%P.cellsOf e=j by rw[Nat.mul_comm];exact Nat.div_add_mod j _] at this;have MO:(row (j/P.cellsOf e))[j%P.cellsOf e]?=some (row (j/P.cellsOf e))[j%P.cellsOf e]:=by simp[s1,hm]
      rw[MO] at this;simp only[f,this,kL]
    cases h
   case h_9=>
    rename_i fs hu;rw[hu] at aq;simp only[cA] at aq;split at h
    .rename_i hc;simp only[cH] at h;obtain⟨xs,hx,rfl⟩:=h;cases hf with
     |agg _ FA=>
     obtain⟨parts,p1,p2,p3⟩:=ZS (r:=DataW.trod enc P w base sp held fuel) (n:=n) (fun t cs x h1 h2 h3=>ih _ _ _ _ h1 h2 h3) hc fs.toList 0 xs aq.1 (fun f hf=>im.1 aq.2 f hf) hx (fun y hy=>FA _ (iX.2 ⟨y,hy,rfl⟩)) (bc _) (fun _ _ _ _ _ _ _ _=>trivial);refine⟨parts.flatten,by simp only[ir,hu];exact⟨parts,rfl,p1,p2⟩,?_⟩
     simpa using p3
    cases h
   all_goals(first|(cases h;done)|(simp_all;done)|(exfalso;simp_all;done))
end
end
end Go.Abs
namespace Go.Abs
variable {H:Type} {enc:TypeId×Value->H} {P:Program} {w:World} {N:Nat}
theorem YO:∀(fs:List Field) (off total:Nat),uc P off total fs=true->total=off+(fs.map fun f=>P.cellsOf f.type).sum/\ ∀(j:Nat) (f:Field),fs[j]?=some f->f.offset=off+((fs.take j).map fun f=>P.cellsOf f.type).sum:=by
 intro fs
 induction fs with
 |nil=>intro off total h;simp only[uc] at h;have:=nI h;exact⟨by simp;omega,fun j f h=>by simp at h⟩
 |cons f fs ih=>
  intro off total h;simp only[uc,cA] at h;have h0:=nI h.1;obtain⟨i1,i2⟩:=ih _ _ h.2;refine⟨by simp;omega,fun j g hg=>?_⟩;cases j with
  |zero=>simp at hg;subst hg;simp;omega
  |succ j=>have:=i2 j g (by simpa using hg);simp only[List.take_succ_cons,dE,rB];omega
theorem aca:Kids P (fun t=>∃n,ik P n t=true):=by
 have un:∀ {t:TypeId},(∃n,ik P n t=true)->∃n,ik P (n+1) t=true:=by
  rintro t ⟨n,h⟩
  cases n with
  |zero=>simp[ik] at h
  |succ n=>exact⟨n,h⟩
 refine⟨fun ht hu=>?_,fun ht hu=>?_,fun ht hu=>?_,fun ht hu=>?_,fun ht hu=>?_⟩
 .obtain⟨n,h⟩:=un ht;simp[ik,hu] at h
 .obtain⟨n,h⟩:=un ht;simp only[ik,hu,cA] at h;exact⟨n,h.2⟩
 .obtain⟨n,h⟩:=un ht;simp[ik,hu] at h
 .obtain⟨n,h⟩:=un ht;simp only[ik,hu,cA] at h;obtain⟨c1,c2⟩:=YO _ _ _ h.1;refine⟨fun f hf=>⟨n,im.1 h.2 f hf⟩,by rw[c1];simp,fun j f hj=>by rw[c2 j f hj];simp⟩
 obtain⟨n,h⟩:=un ht;simp[ik,hu] at h
theorem agL{w':World}{Bc:Nat->Bool}{t:TypeId}{v:Value}{d:DataW H}{ps:List MemPlace}(hk:∃n,ik P n t=true)(h:DataW.Trod enc P w 0 (fun _=>true) true t v d ps)
  (yT:∀p∈ps,w.sameAt w' p) (hs:∀p∈ps,Bc p.block=true):DataW.Trod enc P w' 0 Bc true t v d ps:=by
 obtain⟨fuel,h⟩:=h;refine⟨fuel,DataW.trod_stays (T:=fun t=>∃n,ik P n t=true) aca ?_ (fun h=>by cases h) hk h yT hs⟩;rintro t e ⟨n,h⟩ hu
 cases n with
 |zero=>simp[ik] at h
 |succ n=>simp only[ik,hu,cA] at h;have:=h.1;simp[Nat.blt] at this;omega
theorem agK{w':World}{Bc:Nat->Bool}:∀ {ts:List TypeId} {vs:List Value} {ds:List (DataW H)} {ps:List MemPlace},(∀t∈ts,∃n,ik P n t=true)->DataW.TrodAll enc P w 0 (fun _=>true) true ts vs ds ps->
  (∀p∈ps,w.sameAt w' p)->(∀p∈ps,Bc p.block=true)->DataW.TrodAll enc P w' 0 Bc true ts vs ds ps:=by
 intro ts
 induction ts with
 |nil=>intro vs ds ps _ h _ _;cases vs<;>cases ds<;>exact h
 |cons t ts ih=>
  intro vs ds ps hk h jS eP;cases vs with
  |nil=>exact h.elim
  |cons v vs=>
   cases ds with
   |nil=>exact h.elim
   |cons d ds=>obtain⟨p,q,h1,h2,rfl⟩:=h;exact⟨p,q,agL (hk t af) h1 (fun x hx=>jS x (by simp[hx])) (fun x hx=>eP x (by simp[hx])),ih (fun t ht=>hk t (by simp[ht])) h2 (fun x hx=>jS x (by simp[hx])) (fun x hx=>eP x (by simp[hx])),rfl⟩
def vU(P:Program)(t:TypeId)(ps:List PV):V:=
 match P.underlying t with
 |some (.struct _)=>.agg (ps.map .p)
 |_=>match ps with
  |[x]=>.one (.p x)
  |_=>.undef
theorem Xq{r:Reach}{b0 n:Nat}{sp:Nat->Bool}{held:Bool}{t:TypeId}{v:Value}{d:DataW H}{ps:List MemPlace}(hk:ik P n t=true)(hval:Value.okWide P w r b0 t v)(h:DataW.Trod enc P w 0 sp held t v d ps)(hf:Fits N d):
  ∃pvs,ir P N n t pvs/\mR w (fun _=>False) (vU P t pvs) v:=by
 obtain⟨fuel,h⟩:=h;obtain⟨pvs,h1,h2⟩:=agN n fuel t _ _ hk h hf;refine⟨pvs,h1,?_⟩;cases n with
 |zero=>simp[ik] at hk
 |succ n=>
  have one:∀x:PV,pvs=[x]->(∀cs,v≠ .agg cs)->bh w (fun _=>False) x v:=by
   rintro x rfl aR
   have:v.cells.toList=[v]:=by
    cases v<;>first
     |rfl
     |exact(aR _ rfl).elim
   rw[this] at h2;exact h2.2 0 x v rfl rfl
  have nagg:∀ {k:TypeDesc},P.underlying t=some k->(∀fs,k≠ .struct fs)->(∀a b,k≠ .array a b)->∀cs,v≠ .agg cs:=by
   rintro k hu bx nj cs rfl
   unfold Value.okWide at hval;rw[hu] at hval;cases k<;>simp_all[Cell.okWide,Cell.ok]
  simp only[ir] at h1;unfold vU;cases hu:P.underlying t with
  |none=>rw[hu] at h1;exact h1.elim
  |some k=>
   rw[hu] at h1;cases k<;>simp only at h1<;>try exact h1.elim
   case bool=>obtain⟨b,rfl⟩:=h1;exact one _ rfl (nagg hu af af)
   case int k=>obtain⟨b,rfl,_⟩:=h1;exact one _ rfl (nagg hu af af)
   case string=>obtain⟨b,rfl,_⟩:=h1;exact one _ rfl (nagg hu af af)
   case slice e=>obtain⟨es,rfl,_⟩:=h1;exact one _ rfl (nagg hu af af)
   case struct fs=>unfold Value.okWide at hval;rw[hu] at hval;simp only at hval;obtain⟨cs,rfl,hsz,_⟩:=hval;exact⟨cs,pvs,rfl,rfl,h2⟩
def GZ(P:Program)(N n:Nat):List TypeId->List (List PV)->Prop
 |[],[]=>True
 |t::ts,p::ps=>ir P N n t p/\GZ P N n ts ps
 |_,_=>False
def vV(P:Program):List TypeId->List (List PV)->List V
 |t::ts,p::ps=>vU P t p::vV P ts ps
 |_,_=>[]
theorem XC{r:Reach}{b0 n:Nat}{sp:Nat->Bool}{held:Bool}:∀ {ts:List TypeId} {vs:List Value} {ds:List (DataW H)} {ps:List MemPlace},(∀t∈ts,ik P n t=true)->(∀(j:Nat) t v,ts[j]?=some t->vs[j]?=some v->Value.okWide P w r b0 t v)->
  DataW.TrodAll enc P w 0 sp held ts vs ds ps->(∀d∈ds,Fits N d)->∃pvss,GZ P N n ts pvss/\Pw (mR w (fun _=>False)) (vV P ts pvss) vs:=by
 intro ts
 induction ts with
 |nil=>
  intro vs ds ps _ _ h _;cases vs with
  |nil=>exact⟨[],trivial,rfl,fun j x u h=>by simp[vV] at h⟩
  |cons v vs=>cases ds<;>exact h.elim
 |cons t ts ih=>
  intro vs ds ps hk hv h hf;cases vs with
  |nil=>exact h.elim
  |cons v vs=>
   cases ds with
   |nil=>exact h.elim
   |cons d ds=>
    obtain⟨p,q,h1,h2,rfl⟩:=h;obtain⟨x,a1,a2⟩:=Xq (hk t af) (hv 0 t v rfl rfl) h1 (hf d af);obtain⟨xs,b1,b2,b3⟩:=ih (fun t ht=>hk t (by simp[ht])) (fun j t v e1 e2=>hv (j+1) t v (by simpa using e1) (by simpa using e2)) h2 (fun d hd=>hf d (by simp[hd]));refine⟨x::xs,⟨a1,b1⟩,by simpa [vV] using b2,fun j y u e1 e2=>?_⟩;cases j with
    |zero=>simp[vV] at e1 e2;subst e1 e2;exact a2
    |succ j=>exact b3 j y u (by simpa [vV] using e1) (by simpa using e2)
end Go.Abs
namespace Go.Abs
open Go.RowKit
theorem ew.ac7{w w':World}(h:Below w.heap.size w w'):ew w w':=⟨h.os,h.tape,h.output,h.size,h.block⟩
theorem ew.Uv(w:World)(k:Nat)(os:Array Obj):ew w (Go.Sort.grow (w.drewN k) os):=
 ⟨rfl,rfl,rfl,by simp[Go.Sort.grow,World.drewN],fun c hc=>by simp[Go.Sort.grow,World.drewN,Array.getElem?_append,hc]⟩
theorem C0{w w':World}{O:Nat->Prop}{x:PV}{v:Value}(hg:ew w w')(h:bh w' O x v):qy w O (.one (.p x)) (.returned v) w':=
 ⟨v,[],rfl,hg,List.nodup_nil,fun c hc=>by simp at hc,[v],rfl,v,[],rfl,h.mono fun c _ hn=>⟨rfl,fun hq=>hn (hq.elim id fun h=>by simp at h)⟩,rfl,rfl⟩
theorem pw1{w:World}{O:Nat->Prop}{x:PV}{args:Array Value}(h:Pw (mR w O) [.one (.p x)] args.toList):∃v,args= #[v]/\bh w O x v:=by
 obtain⟨h1,h2⟩:=h;obtain⟨l⟩:=args
 match l,h1 with
 |[v],_=>exact⟨v,rfl,h2 0 _ v rfl rfl⟩
theorem pw2{w:World}{O:Nat->Prop}{x y:PV}{args:Array Value}(h:Pw (mR w O) [.one (.p x),.one (.p y)] args.toList):∃v u,args= #[v,u]/\bh w O x v/\bh w O y u:=by
 obtain⟨h1,h2⟩:=h;obtain⟨l⟩:=args
 match l,h1 with
 |[v,u],_=>exact⟨v,u,rfl,h2 0 _ v rfl rfl,h2 1 _ u rfl rfl⟩
theorem Qt{w:World}{O:Nat->Prop}{v:Value}(h:bh w O (.sl []) v):∃a cap,v=.slice a 0 cap/\(a=none->cap=0)/\cap<=maxLen:=by
 generalize hx:PV.sl []=x at h;cases h<;>cases hx
 .exact⟨_,_,rfl,by assumption,by assumption⟩
 exact⟨_,_,rfl,fun h=>by simp at h,by assumption⟩
theorem T5{w:World}{O:Nat->Prop}{a:Option Addr}{cap:Nat}(h:a=none->cap=0)(hm:cap<=maxLen):bh w O (.sl []) (.slice a 0 cap):=.sB a cap h hm
def B1:Nat->Nat->List UInt8->List UInt8
 |0,_,acc=>acc
 |k+1,u,acc=>bif Nat.blt u 10 then UInt8.ofNat (Nat.add 48 u)::acc else B1 k (Nat.div u 10) (UInt8.ofNat (Nat.add 48 (Nat.mod u 10))::acc)
theorem Qh:∀(k u:Nat) (acc:List UInt8),u<10 ^ (k+1)->B1 (k+1) u acc=Lib.decDigits u++acc:=by
 intro k
 induction k with
 |zero=>
  intro u acc h;have h:u<10:=by simpa using h
  unfold Lib.decDigits;have hb:Nat.blt u 10=true:=Nat.ble_eq_true_of_le h;simp only[B1,hb,cond_true,dif_pos h];rfl
 |succ k ih=>
  intro u acc h;rw[Lib.decDigits,B1];by_cases h0:u<10
  .have hb:Nat.blt u 10=true:=Nat.ble_eq_true_of_le h0;simp only[hb,cond_true,dif_pos h0];rfl
  have hb:Nat.blt u 10=false:=by
   cases e:Nat.blt u 10 with
   |false=>rfl
   |true=>exact(h0 (fy e)).elim
  simp only[hb,cond_false,dif_neg h0];have:(Nat.div u 10)<10 ^ (k+1):=by have e:Nat.div u 10=u/10:=rfl;rw[e];have:10 ^ (k+1+1)=10 ^ (k+1)*10:=Nat.pow_succ ..;omega
  rw[ih _ _ this];simp only[DD,List.singleton_append];rfl
def MX(n:Int):ByteArray:=⟨(match n with| .ofNat u=>B1 20 u []| .negSucc u=>45::B1 20 (Nat.succ u) []).toArray⟩
theorem ab6(n:Int)(h0: -9223372036854775808<=n)(h1:n<=9223372036854775807):MX n=⟨(Lib.itoa n).toArray⟩:=by
 unfold MX Lib.itoa;cases n with
 |ofNat u=>have:¬(Int.ofNat u<0):=af;rw[if_neg this];simp only;rw[Qh 19 u [] (by simp at h1;omega)];simp
 |negSucc u=>have:Int.negSucc u<0:=Int.negSucc_lt_zero u;rw[if_pos this];simp only;rw[Qh 19 (Nat.succ u) [] aa];simp[Int.natAbs]
def strs:List (List PV)->Option (List ByteArray)
 |[]=>some []
 |[.str s]::r=>(strs r).map (s:: ·)
 |_::_=>none
theorem ago:∀ {es:List (List PV)} {xs:List ByteArray},strs es=some xs->es=xs.map fun s=>[PV.str s]:=by
 intro es
 induction es with
 |nil=>intro xs h;simp[strs] at h;subst h;rfl
 |cons e es ih=>
  intro xs h;unfold strs at h;split at h
  .rename_i h0;cases h0
  .rename_i s r h0;cases h0;simp only[cH] at h;obtain⟨ys,h1,rfl⟩:=h;simp[ih h1]
  cases h
def CJ(sep:List UInt8):List ByteArray->List UInt8
 |[]=>[]
 |[s]=>s.data.toList
 |s::r=>s.data.toList++(sep++CJ sep r)
theorem TB(sep:List UInt8):∀xs:List ByteArray,CJ sep xs=Lib.join (xs.map (·.data.toList)) sep:=by
 intro xs;unfold Lib.join
 induction xs with
 |nil=>rfl
 |cons s r ih=>
  cases r with
  |nil=>simp[CJ,List.intercalate]
  |cons s' r=>simp only[CJ,dE] at ih ⊢;rw[ih];simp[List.intercalate,List.intersperse]
def NI(args:List V):Option RV:=
 match args with
 |[.one (.p (.int .i64 n))]=>if -9223372036854775808<=n/\n<=9223372036854775807 then some (.one (.p (.str (MX n)))) else none
 |_=>none
theorem aek{P:Program}{f:Nat}{nm:String}{G:World->Prop}{args:List V}{r:RV}(hG:∀w,G w->Lib.TabIs P w nm .u64 Lib.pow10Tab)
  (hf:∀(n:Int),-9223372036854775808<=n->n<=9223372036854775807->∀w:World,Lib.TabIs P w nm .u64 Lib.pow10Tab->Calls P f #[.int .i64 n] w fun e w'=>e=.returned (.string ⟨(Lib.itoa n).toArray⟩)/\ ∃k os,w'=Go.Sort.grow (w.drewN k) os)
  (h:NI args=some r):∀(w:World) (O:Nat->Prop) (as:Array Value),Good G w->Pw (mR w O) args as.toList->Calls P f as w (qy w O r):=by
 intro w O as hg ha;unfold NI at h;split at h
 .rename_i n;split at h
  .rename_i hr;cases h;obtain⟨v,rfl,hp⟩:=pw1 ha;generalize hx:PV.int .i64 n=x at hp;cases hp<;>cases hx
   refine(hf n hr.1 hr.2 w (hG w hg.1)).mono ?_;rintro e w' ⟨rfl,k,os,rfl⟩
   rw[ab6 n hr.1 hr.2];exact C0 (ew.Uv _ _ _) (.str _)
  cases h
 cases h
def NJ(args:List V):Option RV:=
 match args with
 |[.one (.p (.sl es)),.one (.p (.str sep))]=>match strs es with
  |some xs=>if xs.length<=140737488355328/\(CJ sep.data.toList xs).length<=140737488355328 then some (.one (.p (.str ⟨(CJ sep.data.toList xs).toArray⟩))) else none
  |none=>none
 |_=>none
theorem ael{P:Program}{f:Nat}{args:List V}{r:RV}
  (h0:∀(a:Option Addr) (c:Nat) (sep:ByteArray) (w:World),Calls P f #[.slice a 0 c,.string sep] w fun e w'=>e=.returned (.string ⟨#[]⟩)/\w'=w)
  (hf:∀(bk o c:Nat) (xs:List ByteArray) (sep:ByteArray) (w:World),(∀(j:Nat) x,xs[j]?=some x->w.cell? ⟨bk,o+j,none⟩=some (.string x))->bk<w.heap.size->xs.length<=140737488355328->xs.length<=c->
   (Lib.join (xs.map (·.data.toList)) sep.data.toList).length<=140737488355328->Calls P f #[.slice (some ⟨bk,o,none⟩) xs.length c,.string sep] w fun e w'=>e=.returned (.string ⟨(Lib.join (xs.map (·.data.toList)) sep.data.toList).toArray⟩)/\Below w.heap.size w w')
  (h:NJ args=some r):∀(w:World) (O:Nat->Prop) (as:Array Value),Pw (mR w O) args as.toList->Calls P f as w (qy w O r):=by
 intro w O as ha;unfold NJ at h;split at h
 .rename_i es sep;split at h
  .rename_i xs AX;split at h
   .rename_i hl;cases h;obtain⟨v,u,rfl,hp,hq⟩:=pw2 ha;have hu:u=.string sep:=by
     generalize hx:PV.str sep=x at hq;cases hq<;>cases hx
     rfl
    subst hu;have ig:=ago AX;cases xs with
    |nil=>
     simp at ig;subst ig;obtain⟨a,cap,rfl,_,_⟩:=Qt hp;refine(h0 a cap sep w).mono ?_;rintro e w' ⟨rfl,rfl⟩
     exact C0 (ew.refl _) (.str _)
    |cons s r=>
     generalize hx:PV.sl es=x at hp;cases hp with
     |sB a cap h1 h2=>cases hx;simp at ig
     | @sl fB b o cap sz g ho hle hm hsz hc hr=>
      cases hx;have qH:es.flatten=(s::r).map PV.str:=by
       rw[ig];have:∀l:List ByteArray,(l.map fun s=>[PV.str s]).flatten=l.map PV.str:=by
        intro l
        induction l with
        |nil=>rfl
        |cons a l ih=>simp[ih]
       exact this _
      have hlen:es.length=(s::r).length:=by rw[ig];simp
      have hcells:∀(j:Nat) x,(s::r)[j]?=some x->w.cell? ⟨b,o+j,none⟩=some (.string x):=by
       intro j x hj;have h1:es.flatten[j]?=some (.str x):=by rw[qH,js,hj];rfl
       have h2:=hr j _ h1;rw[hc j _ h1];generalize hy:PV.str x=y at h2;generalize hgj:g j=gj at h2;cases h2<;>cases hy
       rfl
      rw[hlen] at hle ⊢;refine(hf b o cap (s::r) sep w hcells (JI (hcells 0 s rfl)) hl.1 hle (by rw[<- TB];exact hl.2)).mono ?_;rintro e w' ⟨rfl,hb⟩
      rw[TB];exact C0 (ew.ac7 hb) (.str _)
     |_=>cases hx
   cases h
  cases h
 cases h
def Gv(args:List V):Option RV:=
 match args with
 |[.one (.p (.int .u64 n))]=>if 0<=n/\n<=18446744073709551615 then some (.one (.p (.int .i64 (Lib.bitLen n.toNat)))) else none
 |_=>none
theorem aei{P:Program}{f:Nat}{args:List V}{r:RV}(hf:∀(x:Int) (w:World),0<=x->x<=18446744073709551615->Calls P f #[.int .u64 x] w fun e w'=>e=.returned (.int .i64 (Lib.bitLen x.toNat))/\w'=w)
  (h:Gv args=some r):∀(w:World) (O:Nat->Prop) (as:Array Value),Pw (mR w O) args as.toList->Calls P f as w (qy w O r):=by
 intro w O as ha;unfold Gv at h;split at h
 .rename_i n;split at h
  .rename_i hr;cases h;obtain⟨v,rfl,hp⟩:=pw1 ha;generalize hx:PV.int .u64 n=x at hp;cases hp<;>cases hx
   refine(hf n w hr.1 hr.2).mono ?_;rintro e w' ⟨rfl,rfl⟩
   exact C0 (ew.refl _) (.int _ _)
  cases h
 cases h
def IJ(args:List V):Option (Option RV):=
 match args with
 |[.one (.p (.sl []))]=>some (some (.one (.p (.sl []))))
 |_=>none
theorem aej{S:Sys}{G:World->Prop}(hS:BE S G){f n:Nat}{z i g z':Nat}{fn:aU}{ak:aw}(hfn:S.fns f=some fn)(h1:gu S n f [.one (.p .nils)]=some (.one (.p .nils)))
  (h2:fm S n f [.one (.hsl 0 0 z 0 0)] .all vx=some (.one (.hsl i g z' 0 0),ak)) {args:List V} {r:RV} (h:IJ args=some (some r)):
  ∀(w:World) (O:Nat->Prop) (as:Array Value),Good G w->(∀c,O c->c<w.heap.size)->Pw (mR w O) args as.toList->Calls S.P f as w (qy w O r):=by
 intro w O as hg hO ha;unfold IJ at h;split at h
 .cases h;obtain⟨v,rfl,hp⟩:=pw1 ha;obtain⟨a,cap,rfl,hn,hm⟩:=Qt hp;cases a with
  |none=>
   obtain rfl:=hn rfl;refine((sound hS n).1 f _ _ h1 |>.2 w O #[.slice none 0 0] hg hO ⟨rfl,fun j x u p q=>?_⟩).mono ?_
   .cases j with
    |zero=>simp at p q;subst p q;exact bh.nils
    |succ j=>simp at p
   rintro e w' ⟨val,bs,rfl,yG,jq,l5,vs,q1,q2⟩
   obtain⟨v0,ka,e1,e2,e3,e4⟩:=q2;have FY:vs=[val]:=q1;subst FY;cases e1;subst e4;cases e2;exact C0 yG (T5 (fun _=>rfl) (bc _))
  |some a=>
   let m0:Mem:=⟨w,vx,fun _=>0,fun _=>0,O⟩
   have aq:Ok w m0:=⟨rfl,rfl,rfl,bo _,fun _ _=>rfl,(fun id o h=>by cases h),(fun id o h=>by cases h),hO,(fun id dL o o' h=>by cases h)⟩;refine(((sound hS n).2.1 f _ _ _ _ _ h2).2 w m0 #[.slice (some a) 0 cap] hg aq rfl ⟨rfl,fun j x u p q=>?_⟩).mono ?_
   .cases j with
    |zero=>simp at p q;subst p q;exact bG.hsl a cap (bc _) (bc _) hm (fun sz _ h=>by cases h)
    |succ j=>simp at p
   rintro e w' ⟨val,m',rfl,rfl,q1,q2,q3,q4,q5⟩
   have hq:bG m' (.hsl i g z' 0 0) val:=q5;cases hq with
   |hsl a2 cap2 _ _ kB _=>
    refine C0 ⟨q2.os,q2.tape,q2.output,q2.size,fun c hc=>q2.keep c hc ?_⟩ (T5 (fun h=>by cases h) kB);rintro ⟨id,o,h,_⟩
    cases h
 cases h
end Go.Abs
namespace Go.Abs
open Go.RowKit Go.WideShapes Go.ChangeShapes
section
variable {H:Type} {enc:TypeId×Value->H} {P:Program} {w:World} {base:Nat} {sp:Nat->Bool} {held:Bool}
theorem agM:∀(n fuel:Nat) (t:TypeId) (cs:List Value) (x:DataW H×List MemPlace),ik P n t=true->DataW.trod enc P w base sp held fuel t cs=some x->Fits maxLen x.1:=by
 intro n
 induction n with
 |zero=>intro fuel t cs x h;simp[ik] at h
 |succ n ih=>
  intro fuel t cs x aq h;cases fuel with
  |zero=>simp[DataW.trod] at h
  |succ fuel=>
   rw[DataW.trod_step] at h;unfold DataW.trodStep at h;unfold ik at aq;split at h
   case h_1=>cases h;exact .lit _ (fun s h=>by cases h)
   case h_2=>
    split at h
    .cases h;exact .lit _ (fun s h=>by cases h)
    cases h
   case h_4=>
    split at h
    .rename_i hs;cases h;exact .str _ (by simpa using hs)
    cases h
   case h_7=>cases h;exact .nil
   case h_8 e a len cap hu=>
    rw[hu] at aq;simp only[cA] at aq;simp only at h;split at h
    .rename_i hc;simp only[cH,Jq] at h;obtain⟨elems,he,rest,abx,rfl⟩:=h;have hlen:elems.length=len:=by simpa using mapM_some_length he
     refine .slice _ _ (by simp;omega) (fun d hd=>?_);obtain⟨y,hy,rfl⟩:=iX.1 hd;obtain⟨i,_,hi⟩:=mapM_mem_of he y hy;simp only[Jq] at hi;obtain⟨row,_,h2⟩:=hi;exact ih _ _ _ _ aq.2 h2
    cases h
   case h_9=>
    rename_i fs hu;rw[hu] at aq;simp only[cA] at aq;split at h
    .simp only[cH] at h;obtain⟨xs,hx,rfl⟩:=h;refine .agg _ (fun d hd=>?_);obtain⟨y,hy,rfl⟩:=iX.1 hd;obtain⟨f,hf,hi⟩:=mapM_mem_of hx y hy;exact ih _ _ _ _ (im.1 aq.2 f hf) hi
    cases h
   all_goals(first|(cases h;done)|(simp_all;done)|(exfalso;simp_all;done))
theorem Wd{n:Nat}:∀ {ts:List TypeId} {vs:List Value} {ds:List (DataW H)} {ps:List MemPlace},(∀t∈ts,ik P n t=true)->DataW.TrodAll enc P w base sp held ts vs ds ps->(∀d∈ds,Fits maxLen d)/\ds.length=ts.length:=by
 intro ts
 induction ts with
 |nil=>
  intro vs ds ps _ h;cases vs<;>cases ds<;>first
   |exact h.elim
   |exact⟨fun d hd=>by simp at hd,rfl⟩
 |cons t ts ih=>
  intro vs ds ps hk h;cases vs with
  |nil=>exact h.elim
  |cons v vs=>
   cases ds with
   |nil=>exact h.elim
   |cons d ds=>
    obtain⟨p,q,⟨fuel,h1⟩,h2,rfl⟩:=h;obtain⟨i1,i2⟩:=ih (fun t ht=>hk t (by simp[ht])) h2;refine⟨fun x hx=>?_,by simp[i2]⟩;rcases dU.1 hx with rfl|hx
    .exact agM n fuel t _ _ (hk t af) h1
    exact i1 x hx
end
section
variable {H:Type} {enc:TypeId×Value->H} {P:Program}
theorem aeh{f:Func}{s:ChangeSpec}{apart fresh handsOn again:Bool}{W W':World}{args:Array Value}{v:Value}{ds gs:List (DataW H)}{before pa pv:List MemPlace}
  (hW:DataW.Whole enc P f.params.toList s.vars apart W args.toList ds gs before)
  (eZ:∀(b:Nat) (sp:Nat->Bool) (hd:Bool),DataW.TrodAll enc P W' b sp hd f.resultTypes.toList (v.resultList f.resultTypes.size) (s.fn H (ds++gs)).results [])
  (rX:∀sp:Nat->Bool,(∀p∈before,sp p.block=true)->DataW.TrodAll enc P W' 0 sp true f.params.toList args.toList (s.fn H (ds++gs)).args pa)
  (F6:∀sp:Nat->Bool,(∀p∈before,sp p.block=true)->DataW.TrodVars enc P W' sp s.vars (s.fn H (ds++gs)).vars pv)
  (cn:before=pa++pv) (hb:Below W.heap.size W W')
  (aq:∀(j:Nat) (t:TypeId) (r:Value),f.resultTypes[j]?=some t->(v.resultList f.resultTypes.size)[j]?=some r->Value.okWide P W' .any 0 t r):
  s.post enc P f apart fresh handsOn again W args v W':=by
 have au:∀p∈before,p.block<W.heap.size:=fun p hp=>hW.lt p hp;have hold:∀p∈before,(fun b=>decide (b<W.heap.size)) p.block=true:=fun p hp=>by simpa using au p hp
 refine⟨ds,gs,before,[],pa,pv,hW,eZ _ _ _,rX _ hold,F6 _ hold,World.keptBut_mono (fun p hp=>⟨hp,?_⟩) (hb.frame (· ∈before)),fun _=>?_⟩
 .rw[cn,fk] at hp;exact Or.inr hp
 obtain⟨_,_,_,_,_,hz,hn⟩:=hW;refine⟨aq,_,_,([]++pa)++pv,⟨[]++pa,pv,trodAll_append (rX _ (fun _ _=>rfl)) (eZ _ _ _),F6 _ (fun _ _=>rfl),rfl,?_,?_⟩,?_⟩
 .intro b off hp;have qI:MemPlace.cell b off∈before:=by rw[cn];simpa using hp
  rw[hb.frozen (au _ qI)];exact hz b off qI
 .intro ha;have:=hn ha;rw[cn] at this
  simpa using this
 intro p hp _;rw[cn]
 simpa using hp
end
theorem Ae{P:Program}{N n:Nat}{t:TypeId}{k:IntKind}{p:List PV}(hu:P.underlying t=some (.int k))(h:ir P N (n+1) t p):∃z,p=[.int k z]/\(Lit.int k z).wf=true:=by simp only[ir,hu] at h;exact h
theorem aaB{P:Program}{N n:Nat}{t:TypeId}{p:List PV}(hu:P.underlying t=some .bool)(h:ir P N (n+1) t p):∃b,p=[.bool b]:=by simp only[ir,hu] at h;exact h
theorem aaC{P:Program}{N n:Nat}{t e:TypeId}{p:List PV}(hu:P.underlying t=some (.slice e))(h:ir P N (n+1) t p):∃es,p=[.sl es]/\es.length<=N/\ ∀x∈es,ir P N n e x:=by simp only[ir,hu] at h;exact h
theorem Xo{P:Program}{t:TypeId}{k:TypeDesc}{x:PV}(hu:P.underlying t=some k)(hk:∀fs,k≠ .struct fs):vU P t [x]=.one (.p x):=by
 unfold vU;rw[hu];cases k<;>first
  |rfl
  |exact(hk _ rfl).elim
theorem Xp{P:Program}{t:TypeId}{fs:Array Field}{x:List PV}(hu:P.underlying t=some (.struct fs)):vU P t x=.agg (x.map .p):=by unfold vU;rw[hu]
theorem acj{S:Sys}{G:World->Prop}(hS:BE S G)(FB:∀w,G w->Good G w){fn:Func}{s:ChangeSpec}{f n N:Nat}{handsOn again fresh apart:Bool}(F6:s.vars=[])
  (hfn:∀(H:Type) (ds:List (DataW H)),ds.length=fn.params.toList.length->s.fn H ds={results:=[.lit (.bool true)],args:=ds}) {tb:TypeId} (eZ:fn.resultTypes= #[tb]) (htb:S.P.underlying tb=some .bool)
  (hk:∀t∈fn.params.toList,ik S.P n t=true) (law:∀pvss,GZ S.P N n fn.params.toList pvss->aE S f (vV S.P fn.params.toList pvss) (.one (.p (.bool true))))
  {H:Type} {enc:TypeId×Value->H} {W:World} {base:Nat} {args:Array Value} {ds gs:List (DataW H)} {before:List MemPlace}
  (hval:∀(j:Nat) t v,fn.params[j]?=some t->args[j]?=some v->Value.okWide S.P W .any base t v)
  (hW:DataW.Whole enc S.P fn.params.toList s.vars apart W args.toList ds gs before) (hG:G W) (hfit:∀d∈ds,Fits N d):
  Calls S.P f args W fun e W'=>∃v,e=.returned v/\s.post enc S.P fn apart fresh handsOn again W args v W':=by
 have hW':=hW;obtain⟨p,q,hA,hV,rfl,hfz,jq⟩:=hW;rw[F6] at hV;obtain⟨rfl,rfl⟩:=trodVars_none hV;obtain⟨_,hlen⟩:=Wd hk hA;obtain⟨pvss,h1,h2⟩:=XC (r:=.any) (b0:=base) hk (fun j t v a b=>hval j t v (by simpa using a) (by simpa using b)) hA hfit;refine((law pvss h1).calls hS W (FB W hG) args h2).mono ?_;rintro e W' ⟨val,bs,rfl,hg,_,_,vs,q1,q2⟩
 obtain⟨v0,ka,e1,e2,e3,e4⟩:=q2;have FY:vs=[val]:=q1;subst FY;cases e1;have hv:val=.bool true:=by
  generalize hx:PV.bool true=x at e2;cases e2<;>cases hx
  rfl
 subst hv;have hb:Below W.heap.size W W':=⟨hg.os,hg.tape,hg.output,hg.size,hg.keep⟩;have au:∀x∈p++[],x.block<W.heap.size:=fun x hx=>hW'.lt x hx;refine⟨_,rfl,aeh (pa:=p) (pv:=[]) hW' ?_ ?_ ?_ rfl hb ?_⟩
 .intro b sp hd;rw[qu,hfn H ds hlen,eZ];exact trodAll_cons_mk (shut_bool htb _) trodAll_mk0
 .intro Bc kD;rw[qu,hfn H ds hlen];exact agK (fun t ht=>⟨n,hk t ht⟩) hA (fun x hx=>hb.same (au x (by simpa using hx))) (fun x hx=>kD x (by simpa using hx))
 .intro Bc kD;rw[qu,hfn H ds hlen,F6];rfl
 exact ok_one eZ rfl (okWide_bool_mk htb _)
end Go.Abs
namespace Go.Abs
theorem U3(aj:Env)(t:Nat)(v:V):put aj (some t) v=ca aj t v:=rfl
theorem U1(aj:Env)(v:V):put aj none v=aj:=rfl
theorem QD(aj:Env)(n:Nat):ev aj (.t n)=aj n:=rfl
theorem QB(aj:Env)(n:Int):ev aj (.i n)=.one (.p (.int .i64 n)):=rfl
theorem QA(aj:Env)(x:Bool):ev aj (.b x)=.one (.p (.bool x)):=rfl
theorem QC(aj:Env)(v:V):ev aj (.k v)=v:=rfl
theorem Ts(a:V)(l:List V):nr (a::l) 0=a:=rfl
theorem Tq(a:V)(l:List V)(n:Nat):nr (a::l) (n+1)=nr l n:=rfl
def zA(v:V)(want:Bool):Option Bool:=match v with
 | .one (.p (.bool b))=>some (b==want)
 | .undef=>some false
 |_=>none
theorem Ws(b want:Bool):zA (.one (.p (.bool b))) want=some (b==want):=rfl
theorem Wt(want:Bool):zA .undef want=some false:=rfl
section
variable {S:Sys} {al:Al} {o:aI} {aj:Env} {blk:aw} {tr:List bl} {K:Env->aw->List bl->Prop} {d:Option Nat}
theorem Pk{id:Nat}{Q:dF}:nO id Q .normal aj blk=Q .normal aj blk:=rfl
theorem Pl{id:Nat}{Q:dF}:nO id Q .ret aj blk=Q .ret aj blk:=rfl
theorem Pj{id i:Nat}{Q:dF}:nO id Q (.exit i) aj blk=if i=id then Q .normal aj blk else Q (.exit i) aj blk:=rfl
end
def WN (S:Sys)(al:Al)(ops:List aI)(Q:Env->aw->Prop)(aj:Env)(blk:aw):Prop:=∀tr,WO S al ops (fun aj blk _=>Q aj blk) aj blk tr
def Cg(S:Sys)(al:Al)(p:ej)(d:Option Nat)(aj:Env)(blk:aw)(K:Env->aw->Prop):Prop:=
 match p with
 | .fail=>False
 | .done v u r=>al.fi (r++u.map (·.1))=true/\K (put aj d v) (app u blk)
 | .pc f vs r s=>∃x,aE S f vs x/\match land blk r s (x.fx (S.lone s)) with
  |some (v,u)=>al.fi (r++u.map (·.1))=true/\K (put aj d v) (app u blk)
  |none=>False
 | .sc f vs=>al.holds (allow (S.ctx al) f vs blk)=true/\ ∃v ak,fT S f vs (allow (S.ctx al) f vs blk) blk v ak/\K (put aj d v) ak
def HK(S:Sys)(al:Al)(w:Option Bool)(o:aI)(aj:Env)(blk:aw)(K:Env->aw->Prop):Prop:=
 match w with
 |none=>False
 |some false=>K (put aj o.dst .undef) blk
 |some true=>Cg S al (aT S.shared aj blk o.op) o.dst aj blk K
section
variable {S:Sys} {al:Al} {aj:Env} {blk:aw}
theorem WQ{ops:List aI}{R R':Env->aw->Prop}{tr tr':List bl}(h:WO S al ops (fun aj blk _=>R aj blk) aj blk tr)(hR:∀e b,R e b->R' e b):WO S al ops (fun aj blk _=>R' aj blk) aj blk tr':=by obtain⟨n,e,b,es,h1,h2⟩:=h;exact⟨n,e,b,es,h1,hR _ _ h2⟩
theorem W3{ops:List aI}{Q:dF}:W S al (.region false ops) Q aj blk↔WN S al ops (fun aj blk=>Q .normal aj blk) aj blk:=by
 rw[OX];constructor
 .intro h tr;obtain⟨n,e,b,es,h1,_,h2⟩:=h;exact⟨n,e,b,es,h1,h2⟩
 intro h;obtain⟨n,e,b,es,h1,h2⟩:=h [];exact⟨n,e,b,es,h1,(fun h=>by cases h),h2⟩
theorem WM{R:Env->aw->Prop}:WN S al [] R aj blk↔R aj blk:=⟨fun h=>Js.1 (h []),fun h _=>Js.2 h⟩
theorem SF{o:aI}{os:List aI}{R:Env->aw->Prop}{w:Option Bool}(tr:List bl):yr S al w o aj blk tr (WO S al os fun e b _=>R e b)↔HK S al w o aj blk (WN S al os R):=by
 have k:∀ {e:Env} {b:aw} {t:List bl},WO S al os (fun e b _=>R e b) e b t↔WN S al os R e b:=fun {e b t}=>⟨fun h t'=>WQ h fun _ _ h=>h,fun h=>h t⟩;cases w with
 |none=>exact Iff.rfl
 |some w=>
  cases w with
  |false=>exact k (t:=tr++[⟨[],[],[]⟩])
  |true=>
   simp only[yr,HK];cases aT S.shared aj blk o.op with
   |fail=>exact Iff.rfl
   |done v u r=>simp only[Ac,Cg,k]
   |pc f vs r s=>
    simp only[Ac,Cg];refine exists_congr fun x=>and_congr Iff.rfl ?_;cases land blk r s (x.fx (S.lone s)) with
    |none=>exact Iff.rfl
    |some y=>simp only[k]
   |sc f vs=>simp only[Ac,Cg,k]
theorem OU{o:aI}{os:List aI}{R:Env->aw->Prop}:WN S al (o::os) R aj blk↔HK S al (wanted aj o.guard) o aj blk (WN S al os R):=by
 constructor
 .intro h;exact(SF []).1 (Ha.1 (h []))
 intro h tr;exact Ha.2 ((SF tr).2 h)
variable {o:aI} {K:Env->aw->Prop} {d:Option Nat}
end
theorem bft:(false==true)=false:=rfl
theorem btf:(true==false)=false:=rfl
theorem bff:(false==false)=true:=rfl
theorem btt:(true==true)=true:=rfl
theorem UF{blk:aw}{x:PV}:ji blk (.one (.p x))=some (.one (.p x)):=rfl
theorem norm_int(k:IntKind)(n:Int):(PV.int k n).norm=.int k n:=rfl
theorem Ui(b:Bool):(PV.bool b).norm=.bool b:=rfl
theorem Ur(s:ByteArray):(PV.str s).norm=.str s:=rfl
theorem Up:PV.nils.norm=.sl []:=rfl
theorem Uq(es:List (List PV)):(PV.sl es).norm=.sl es:=rfl
theorem Uj(es:List PV):(PV.box es).norm=.box es:=rfl
theorem Uk(f:Nat)(a b:List PV):(PV.fn f a b).norm=.fn f a b:=rfl
theorem Uo:PV.qU.norm=.qU:=rfl
theorem Um:PV.fX.norm=.fX:=rfl
theorem Un:PV.mf.norm=.mf:=rfl
theorem Ul(a:Bool)(e:List (PV×List PV)):(PV.mp a e).norm=.mp a e:=rfl
theorem VE{blk:aw}:vG blk []=some ([],[]):=rfl
def N8(x:Option (V×List Nat))(y:Option (List V×List Nat)):Option (List V×List Nat):=match x,y with
 |some (b,x),some (bs,y)=>some (b::bs,x++y)
 |_,_=>none
theorem VD{blk:aw}{x:V}{xs:List V}:vG blk (x::xs)=N8 (kJ blk x) (vG blk xs):=by simp only[vG,N8,collect];cases kJ blk x<;>cases collect (kJ blk) xs<;>rfl
theorem Vz{b:V}{x:List Nat}{bs:List V}{y:List Nat}:N8 (some (b,x)) (some (bs,y))=some (b::bs,x++y):=rfl
theorem VC{blk:aw}{x:PV}:kJ blk (.one (.p x))=some (.one (.p x.norm),[]):=rfl
end Go.Abs
