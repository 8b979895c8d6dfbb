/-
  Each operation of the abstract machine is what the program does; the machine is sound in any order that a region draws; a quick evaluator; library functions.
-/
import Derived.Test.YtniibcmpbldbcaaGreatDoorMa
import Derived.Laws.BytesString
import Derived.LoopN
import Derived.Scope
import Derived.Orders
import Derived.ChangeReads
import Derived.ChangeStays
import Derived.DataReads
import Derived.Below
import Derived.Sort.Grow
import Derived.Deep.Draws
import Derived.Lib.ItoaNum
import Derived.Lib.Join
import Derived.Lib.BitFns
import Derived.Lib.LaidTab
import Derived.ChangeSame
import Derived.ProofKit
import Derived.OpenShut
set_option linter.all false
namespace Go.Abs
variable {P:Program} {w0:World}
section
variable{ag:Bool}
def NL(w:World)(own:Nat->Prop)(ag:Bool)(es:List (PV×List PV))(ents:Array MapEntry):Prop:=ents.size=es.length/\ ∀(i:Nat) (q:PV) (v:List PV) (e:MapEntry),es[i]?=some (q,v)->ents[i]?=some e->bU w own q e.key/\ ∃g:Array Value,(ag=true->e.val=.agg g)/\(ag=false-> #[e.val]=g)/\cX w own v g.toList
theorem Lh{w:World}{r:Nat}{es:Array MapEntry}{clock:Nat}(hb:w.heap[r]?=some (.map es clock)):(getObj r).run P w=.ok (.map es clock) w:=by simp[getObj,Sem.run,hb]
theorem ad3{w:World}{r:Nat}{es:Array MapEntry}{clock:Nat}{ob:Obj}(hb:w.heap[r]?=some (.map es clock)):(setObj r ob).run P w=.ok () {w with heap:=w.heap.setIfInBounds r ob}:=by simp[setObj,Sem.run,hb]
theorem acw{w:World}{own:Nat->Prop}{es:List (PV×List PV)}{v:Value}(h:bU w own (.mp ag es) v):
  ∃r ents clock,v=.map (some r)/\w.heap[r]?=some (.map ents clock)/\NL w own ag es ents:=by
 cases h with
 |mp r ents clock g ho hb hl hk hv hr=>
  refine⟨r,ents,clock,rfl,hb,hl,fun i q v e h1 h2=>⟨hk i q v e h1 h2,g i,(hv i q v e h1 h2).2.1,(hv i q v e h1 h2).2.2,?_,fun j x u a b=>?_⟩⟩
  .simpa using (hv i q v e h1 h2).1
  exact hr i q v j x u h1 a (by simpa using b)
theorem Mi{m:Mem}(ao:Ok w0 m){id g:Nat}{v:Value}(h:bN m (.one (.k9 id g)) v){es:List (PV×List PV)}(hb:m.blk id=(g,some (.map ag es))\/m.blk id=(g,some (.fmap ag es))):
  ∃r ents clock,v=.map (some r)/\r=m.σ id/\m.w.heap[r]?=some (.map ents clock)/\NL m.w m.own ag es ents:=by
 have h:cN m (.k9 id g) v:=h;cases h with
 |k9 r hg hr=>
  rcases hb with hb|hb
  .obtain⟨ents,clock,h1,h2,h3⟩:=ao.obj id _ (congrArg Prod.snd hb);have:=hr (by rw[hb]) (by rw[hb];rfl);subst this;exact⟨_,ents,clock,rfl,rfl,h1,h2,h3⟩
  obtain⟨ents,clock,h1,h2,h3,_⟩:=ao.obj id _ (congrArg Prod.snd hb);have:=hr (by rw[hb]) (by rw[hb];rfl);subst this;exact⟨_,ents,clock,rfl,rfl,h1,h2,h3⟩
theorem amF{m:Mem}(ao:Ok w0 m){x:V}{v:Value}{es:List (PV×List PV)}{r:List Nat}(h:mapOf m.blk ag x=some (es,r))(hv:bN m x v):
  ∃ents:Array MapEntry,((v=.map none/\ents= #[])\/ ∃ref clock,v=.map (some ref)/\m.w.heap[ref]?=some (.map ents clock))/\NL m.w m.own ag es ents:=by
 unfold mapOf at h;split at h
 .cases h;exact⟨#[],.inl ⟨abF hv,rfl⟩,rfl,fun i q v e h=>by simp at h⟩
 .rename_i rF iG;split at h
  .rename_i e;subst e;cases h;obtain⟨hp⟩:cN m _ v:=hv;obtain⟨r,ents,clock,h1,h2,h3⟩:=acw hp;exact⟨ents,.inr ⟨r,clock,h1,h2⟩,h3⟩
  cases h
 .rename_i id g;split at h
  .rename_i g' rF iG hb;split at h
   .rename_i hc;obtain⟨rfl,rfl⟩:=hc;cases h;obtain⟨r,ents,clock,h1,_,h2,h3⟩:=Mi ao hv (.inl hb);exact⟨ents,.inr ⟨r,clock,h1,h2⟩,h3⟩
   cases h
  .rename_i g' rF iG hb;split at h
   .rename_i hc;obtain⟨rfl,rfl⟩:=hc;cases h;obtain⟨r,ents,clock,h1,_,h2,h3⟩:=Mi ao hv (.inr hb);exact⟨ents,.inr ⟨r,clock,h1,h2⟩,h3⟩
   cases h
  cases h
 cases h
theorem amj{m:Mem}(ao:Ok w0 m){x:V}{v:Value}{n:Nat}{r:List Nat}(h:AU m.blk x=some (n,r))(hv:bN m x v):
  (v=.map none/\n=0)\/ ∃ref ents clock,v=.map (some ref)/\m.w.heap[ref]?=some (.map ents clock)/\ents.size=n:=by
 unfold AU at h;split at h
 .cases h;exact .inl ⟨abF hv,rfl⟩
 .cases h;obtain⟨hp⟩:cN m _ v:=hv;obtain⟨r,ents,clock,h1,h2,h3⟩:=acw hp;exact .inr ⟨r,ents,clock,h1,h2,h3.1⟩
 .rename_i id g;split at h
  .rename_i g' rF iG hb;split at h
   .rename_i hc;subst hc;cases h;obtain⟨r,ents,clock,h1,_,h2,h3⟩:=Mi ao hv (.inl hb);exact .inr ⟨r,ents,clock,h1,h2,h3.1⟩
   cases h
  .rename_i g' rF iG hb;split at h
   .rename_i hc;subst hc;cases h;obtain⟨r,ents,clock,h1,_,h2,h3⟩:=Mi ao hv (.inr hb);exact .inr ⟨r,ents,clock,h1,h2,h3.1⟩
   cases h
  cases h
 cases h
def Dq(kind:TypeDesc)(kd:Nat):Prop:=(kd=0/\ ∃k,kind=.int k)\/(kd=1/\kind=.string)\/(kd=2/\kind=.bool)
theorem abO{t:TypeId}{kd:Nat}(h:keyOf P t=some kd):∃kind,P.underlying t=some kind/\Dq kind kd:=by
 unfold keyOf at h;split at h
 .rename_i k hk;cases h;exact⟨_,hk,.inl ⟨rfl,_,rfl⟩⟩
 .rename_i hk;cases h;exact⟨_,hk,.inr (.inl ⟨rfl,rfl⟩)⟩
 .rename_i hk;cases h;exact⟨_,hk,.inr (.inr ⟨rfl,rfl⟩)⟩
 cases h
theorem VR{w:World}{own:Nat->Prop}{k q:PV}{kv qv:Value}{kind:TypeDesc}{b:Bool}(hk:Dq kind (jM k))(h:sameKey k q=some b)(h1:bU w own k kv)(h2:bU w own q qv):Instr.sameNow kind kv qv=some b:=by
 unfold sameKey at h;split at h
 .rename_i a b' c d;split at h
  .rename_i e;subst e;cases h;rcases hk with ⟨_,x,rfl⟩|⟨e,_⟩|⟨e,_⟩
   .cases h1;cases h2;simp[Instr.sameNow]
   .simp[jM] at e
   simp[jM] at e
  cases h
 .cases h;rcases hk with ⟨e,_⟩|⟨_,rfl⟩|⟨e,_⟩
  .simp[jM] at e
  .cases h1;cases h2;simp[Instr.sameNow]
  simp[jM] at e
 .cases h;rcases hk with ⟨e,_⟩|⟨e,_⟩|⟨_,rfl⟩
  .simp[jM] at e
  .simp[jM] at e
  cases h1;cases h2;simp[Instr.sameNow]
 cases h
theorem sameKey_eq{w:World}{own:Nat->Prop}{k q:PV}{kv qv:Value}(h:sameKey k q=some true)(h1:bU w own k kv)(h2:bU w own q qv):qv=kv:=by
 unfold sameKey at h;split at h
 .split at h
  .rename_i e;subst e;simp at h;subst h;cases h1;cases h2;rfl
  cases h
 .rename_i a b;have e:(a==b)=true:=by simpa using h
  rw[beq_toListBytes] at e;have e:a=b:=by
   have e:a.toList=b.toList:=by simpa using e
   rw[ByteArray.toList_eq,ByteArray.toList_eq] at e;exact ByteArray.ext (Array.toList_inj.1 e)
  subst e;cases h1;cases h2;rfl
 .simp at h;subst h;cases h1;cases h2;rfl
 cases h
theorem Z3{w:World}{own:Nat->Prop}{k:PV}{kv:Value}{kind:TypeDesc}(hk:Dq kind (jM k))(h1:bU w own k kv):∀ {es:List (PV×List PV)} {l:List MapEntry} {i:Nat} {f:Option (Nat×List PV)},
  l.length=es.length->(∀(j:Nat) (q:PV) (v:List PV) (e:MapEntry),es[j]?=some (q,v)->l[j]?=some e->bU w own q e.key)->wh k es i=some f->
  (f=none/\Instr.findNow kind kv l i=some none)\/ ∃j q v e,f=some (i+j,v)/\es[j]?=some (q,v)/\l[j]?=some e/\sameKey k q=some true/\Instr.findNow kind kv l i=some (some (i+j,e.val)):=by
 intro es
 induction es with
 |nil=>
  intro l i f hl _ hf;simp[wh] at hf;cases l with
  |nil=>exact .inl ⟨hf.symm,rfl⟩
  |cons _ _=>simp at hl
 |cons p r ih=>
  intro l i f hl hq hf;obtain⟨a,v⟩:=p;cases l with
  |nil=>simp at hl
  |cons e l=>
   have nE:=hq 0 a v e rfl rfl;simp only[wh] at hf;split at hf
   .rename_i hs;cases hf;exact .inr ⟨0,a,v,e,rfl,rfl,rfl,hs,by simp[Instr.findNow,VR hk hs h1 nE]⟩
   .rename_i hs;rcases ih (l:=l) (i:=i+1) (f:=f) (by simpa using hl) (fun j q v e a b=>hq (j+1) q v e (by simpa using a) (by simpa using b)) hf with ⟨e1,e2⟩|⟨j,q,v',e',e1,e2,e3,e4,e5⟩
    .exact .inl ⟨e1,by simp[Instr.findNow,VR hk hs h1 nE,e2]⟩
    refine .inr ⟨j+1,q,v',e',by rw[e1];congr 2;omega,by simpa using e2,by simpa using e3,e4,?_⟩;simp only[Instr.findNow,VR hk hs h1 nE,e5];congr 3;omega
   cases hf
theorem ahw{t:TypeId}{kind:TypeDesc}{kd:Nat}{b:Bool}{v:Value}(w:World)(h:P.underlying t=some kind)(hk:Dq kind kd)(n:Nat):(Instr.checkKey b (n+1) t v).run P w=.ok () w:=by rcases hk with ⟨_,k,rfl⟩|⟨_,rfl⟩|⟨_,rfl⟩<;>simp[Instr.checkKey,run_underlying h]
theorem KN{t:TypeId}{kind:TypeDesc}{kd:Nat}{b:Bool}{v:Value}(w:World)(h:P.underlying t=some kind)(hk:Dq kind kd):(Instr.checkKey b 10000 t v).run P w=.ok () w:=ahw w h hk 9999
theorem ao1{w:World}{own:Nat->Prop}{k:PV}{kv:Value}{kind:TypeDesc}(hk:Dq kind (jM k))(h:bU w own k kv)(n:Nat):Instr.sameBits n kv kv=true:=by
 cases h<;>first
  |(simp[jM,Dq] at hk;done)
  |(simp[Instr.sameBits];done)
  |(simp[Instr.sameBits,beq_toListBytes];done)
theorem alP{w0 w:World}{own:Nat->Prop}{k:PV}{kv:Value}{kind:TypeDesc}(hk:Dq kind (jM k))(h:bU w0 own k kv):(Instr.keyThatStays kv kv).run P w=.ok kv w:=by rw[Instr.keyThatStays,ao1 hk h,if_pos rfl];rfl
theorem OA{t:TypeId}{kind:TypeDesc}{v:Value}{l:List MapEntry}{r:Option (Nat×Value)}(w:World)(h:P.underlying t=some kind)(hf:Instr.findNow kind v l 0=some r):(Instr.findKey t v l).run P w=.ok r w:=by simp[Instr.findKey,run_underlying h,hf]
theorem acn{m:Mem}{v:List PV}{x:V}{val:Value}{g:Array Value}(h:mapVal ag v=some x)(h1:ag=true->val=.agg g)(h2:ag=false-> #[val]=g)(hp:cX m.w m.own v g.toList):bN m x val/\n0 m x val:=by
 cases ag with
 |true=>simp only[mapVal,fg] at h;subst h;exact⟨bN.agg.2 ⟨g,h1 rfl,hp.Da⟩,⟨g,h1 rfl,hp.Da⟩⟩
 |false=>
  have h2:=h2 rfl;subst h2;cases v with
  |nil=>simp[mapVal] at h
  |cons c r=>
   cases r with
   |nil=>simp only[mapVal,fg] at h;subst h;have:=hp.2 0 c val rfl rfl;exact⟨mz this,cN.p this⟩
   |cons _ _=>simp[mapVal] at h
section
variable {m:Mem} {aj:Env} {a:Act} {o:Oper} (ao:Ok w0 m) (hr:jr m aj a.tmps)
include ao
theorem apw{t kt e:TypeId}{s:Nat}(ho:o.op=.makeMap t none):
  fE P w0 a.eval o m (.one (.k9 s ((m.blk s).1+1))) [(s,((m.blk s).1+1,some (.map ag [])))]:=by
 refine⟨.map (some m.w.heap.size),m.fresh (.map #[] 0) s 0 (.map ag []),.inl ?_,aak ao _ s 0 _ ⟨#[],0,aaj _ s 0 _,rfl,fun i q v e h=>by simp at h⟩,OF _ s 0 _,TX ao _ s 0 _,TW _ _ s 0 _,bN.one.2 (.k9 _ ?_ fun _ _=>?_)⟩
 .simp[execOp,ho,Instr.makeMap];rfl
 .simp[Mem.fresh,Mem.install,Mem.later,aS]
 simp[Mem.fresh,Mem.install,aS]
include hr
theorem apy{c:Call}{x:Operand}{x':aP}{t k e:TypeId}{n:Nat}{r:List Nat}(ho:o.op=.call c)(hc:c.callee=.builtin .len)(has:c.args= #[x])(gh:c.argTypes[0]?=some t)(ht:P.underlying t=some (.map k e))
  (hx:cn x=some x') (hv:AU m.blk (ev aj x')=some (n,r)):fE P w0 a.eval o m (.one (.p (.int .i64 n))) []:=by
 refine .calm ao ?_ (mz (.int _ _));have h0:(#[a.eval x]:Array Value)[0]?=some (a.eval x):=rfl;rcases amj ao hv (eE hx hr) with ⟨h1,rfl⟩|⟨ref,ents,clock,h1,h2,rfl⟩
 .simp[execOp,ho,resolve,hc,has,gh,invoke,builtin,Builtin.len_,run_underlying ht,h1,goInt]
 simp[execOp,ho,resolve,hc,has,gh,invoke,builtin,Builtin.len_,run_underlying ht,h1,goInt,Lh h2]
theorem aps{t kt e:TypeId}{x k:Operand}{x' k':aP}{ok:Bool}{z:List PV}{q:Option Nat}{kd:Nat}{es:List (PV×List PV)}{r:List Nat}{key:PV}{f:Option (Nat×List PV)}{w:V}(ho:o.op=.lookup t x k ok)(ht:P.underlying t=some (.map kt e))
  (hz:Ac P e=some z) (Aw:keyOf P kt=some kd) (xT:QC P e=q.isSome) (hx:cn x=some x') (hk:cn k=some k') (hm:mapOf m.blk q.isSome (ev aj x')=some (es,r)) (hke:ev aj k'=.one (.p key)) (vg:jM key=kd)
  (hf:wh key es 0=some f) (hw:mapVal q.isSome ((f.map (·.2)).getD z)=some w):fE P w0 a.eval o m (if ok then .tup [w,.one (.p (.bool f.isSome))] else w) []:=by
 obtain⟨kind,zB,Cl⟩:=abO Aw;obtain⟨ents,OQ,hl,dY⟩:=amF ao hm (eE hx hr);have F9:=eE hk hr;rw[hke] at F9;obtain⟨cU⟩:cN m _ _:=F9;have jU:(∃ref clock,a.eval x=.map (some ref)/\m.w.heap[ref]?=some (.map ents clock))\/a.eval x=.map none/\ents= #[]:=by
  rcases OQ with h|h
  .exact .inr h
  exact .inl h
 have key:∀(val:Value) (b:Bool),bN m w val->n0 m w val->f.isSome=b->(Instr.lookup t (a.eval x) (a.eval k) ok).run P m.w=.ok (if ok then .tuple #[val,.bool b] else val) m.w->fE P w0 a.eval o m (if ok then .tup [w,.one (.p (.bool f.isSome))] else w) []:=by
  intro val b h1 jI h2 h3;refine .calm ao (x:=if ok then .tuple #[val,.bool b] else val) ?_ ?_
  .simp[execOp,ho,h3]
  cases ok
  .exact h1
  refine⟨_,rfl,rfl,fun j y u p q=>?_⟩;rcases j with _|_|j
  .simp at p q;subst p q;exact jI
  .simp at p q;subst p q;rw[h2];exact cN.p (.bool _)
  simp at p
 rcases Z3 (kind:=kind) (by rw[vg];exact Cl) cU (l:=ents.toList) (by simpa using hl) (fun j q v e h1 h2=>(dY j q v e h1 (by simpa using h2)).1) hf with ⟨rfl,hn⟩|⟨j,q',v,e',rfl,h2,h3,_,hn⟩
 .obtain⟨zv,i,hi,wR,I8,kM,dh⟩:=NA hz;obtain⟨v1,v2⟩:=acn (m:=m) (val:=zv) (g:=zv.cells) hw (fun hq=>by
    rw[hq] at xT;unfold QC at xT;rw[hi] at xT;simp only[wR] at xT;cases zv<;>simp[Value.cells] at xT ⊢) (fun hq=>by
    rw[hq] at xT;unfold QC at xT;rw[hi] at xT;simp only[wR] at xT;cases zv<;>simp[Value.cells] at xT ⊢) (dh m.w m.own)
  refine key zv false v1 v2 rfl ?_;have Ea:=OA (P:=P) m.w zB hn;rcases jU with ⟨ref,clock,h1,h2⟩|⟨h1,h2⟩
  .cases ok<;>simp[Instr.lookup,run_underlying ht,h1,Lh h2,KN m.w zB Cl,Ea,zeroValue,typeInfo,hi,wR]
  subst h2;cases ok<;>simp[Instr.lookup,run_underlying ht,h1,KN m.w zB Cl,Instr.findKey,run_underlying zB,Instr.findNow,zeroValue,typeInfo,hi,wR]
 obtain⟨hqk,g,Ec,Ci,dh⟩:=dY j q' v e' h2 (by simpa using h3);obtain⟨v1,v2⟩:=acn hw Ec Ci dh;refine key e'.val true v1 v2 rfl ?_;have Ea:=OA (P:=P) m.w zB hn;rcases jU with ⟨ref,clock,h1,h2⟩|⟨h1,h2⟩
 .cases ok<;>simp[Instr.lookup,run_underlying ht,h1,Lh h2,KN m.w zB Cl,Ea]
 subst h2;simp at h3
theorem aea{t kt e:TypeId}{x k y:Operand}{x' k' y':aP}{kd:Nat}{ag:Bool}{id g:Nat}{es:List (PV×List PV)}{key:PV}{cs:List C}{ps:List PV}{f:Option (Nat×List PV)}(ho:o.op=.mapUpdate t x k y\/o.op=.insert t x k y)(ht:P.underlying t=some (.map kt e))
  (Aw:keyOf P kt=some kd) (hx:cn x=some x') (hk:cn k=some k') (hy:cn y=some y') (hm:ev aj x'=.one (.k9 id g)) (hb:m.blk id=(g,some (.map ag es))) (hke:ev aj k'=.one (.p key)) (vg:jM key=kd)
  (cY:BQ ag (ev aj y')=some cs) (dh:Bk cs=some ps) (hf:wh key es 0=some f):
  fE P w0 a.eval o m .undef [(id,(g,some (.map ag (match f with|some (i,_)=>es.set i (key,ps)|none=>es++[(key,ps)]))))]:=by
 obtain⟨kind,zB,Cl⟩:=abO Aw;have hxr:=eE hx hr;rw[hm] at hxr;have hid:=congrArg Prod.snd hb;have hg:=congrArg Prod.fst hb;obtain⟨ref,ents,clock,wY,bt,hh,hl,dY⟩:=Mi ao hxr (.inl hb);subst bt;have F9:=eE hk hr;rw[hke] at F9;obtain⟨cU⟩:cN m _ _:=F9;have hyr:=eE hy hr
 -- the value's cells
 have hval:∃gv:Array Value,(ag=true->a.eval y=.agg gv)/\(ag=false-> #[a.eval y]=gv)/\cX m.w m.own ps gv.toList:=by
  generalize ev aj y'=vy at cY hyr;cases ag with
  |true=>
   cases vy<;>simp[BQ] at cY
   subst cY;obtain⟨arr,h1,h2⟩:=bN.agg.1 hyr;exact⟨arr,fun _=>h1,fun h=>(by cases h),Ns dh h2⟩
  |false=>
   cases vy<;>simp[BQ] at cY
   subst cY;refine⟨#[a.eval y],fun h=>(by cases h),fun _=>rfl,Ns dh ⟨rfl,fun j x u p q=>?_⟩⟩;rcases j with _|j
   .simp at p q;subst p q;exact hyr
   simp at p
 obtain⟨gv,yn,qC,hvp⟩:=hval;have aq:=uI hh;have abN:∀(BX:Array MapEntry) (Dz:Nat) (iG:List (PV×List PV)),(execOp a.eval o).run P m.w=.ok .skip {m.w with heap:=m.w.heap.setIfInBounds (m.σ id) (.map BX Dz)}->NL m.w m.own ag iG BX->
   fE P w0 a.eval o m .undef [(id,(g,some (.map ag iG)))]:=by
  intro BX Dz iG jV OQ;have hs:(m.w.heap.setIfInBounds (m.σ id) (.map BX Dz)).size=m.w.heap.size:=af;have hko:∀c,c≠m.σ id->(m.w.heap.setIfInBounds (m.σ id) (.map BX Dz))[c]?=m.w.heap[c]? :=fun c hc=>by rw[Array.getElem?_setIfInBounds];rw[if_neg (fun e=>hc e.symm)]
  have dD:Ev m (m.jl {m.w with heap:=m.w.heap.setIfInBounds (m.σ id) (.map BX Dz)} id (.map ag iG)):=JR hid rfl rfl rfl rfl rfl hs hko;refine⟨_,m.jl {m.w with heap:=m.w.heap.setIfInBounds (m.σ id) (.map BX Dz)} id (.map ag iG),.inr ⟨jV,rfl⟩,Nh hid rfl ao rfl rfl rfl rfl hs hko ?_,dD,rfl,?_,rfl⟩
  .refine⟨BX,Dz,?_,OQ.1,fun i q v e h1 h2=>?_⟩
   .show(m.w.heap.setIfInBounds (m.σ id) (.map BX Dz))[m.σ id]?=_;rw[Array.getElem?_setIfInBounds,if_pos rfl,if_pos aq]
   obtain⟨p1,gg,p2,p3,p4⟩:=OQ.2 i q v e h1 h2;exact⟨p1.ev dD.zero,gg,p2,p3,p4.ev dD.zero⟩
  simp only[Mem.jl,app,hg]
 rcases Z3 (kind:=kind) (by rw[vg];exact Cl) cU (l:=ents.toList) (by simpa using hl) (fun j q v e h1 h2=>(dY j q v e h1 (by simpa using h2)).1) hf with ⟨rfl,hn⟩|⟨j,q',v,e',rfl,h2,h3,h4,hn⟩
 .refine abN (ents.push {key:=a.eval k,val:=a.eval y,born:=clock}) (clock+1) _ ?_ ?_
  .have Ea:=OA (P:=P) m.w zB hn;rcases ho with ho|ho<;>simp[execOp,ho,Instr.mapUpdate,run_underlying ht,wY,Lh hh,KN m.w zB Cl,Ea,ad3 hh]
  refine⟨by simp[hl],fun i q v e h1 h2=>?_⟩;by_cases hi:i<es.length
  .rw[oO hi] at h1;rw[Array.getElem?_push,if_neg aa] at h2;exact dY i q v e h1 h2
  rw[nV aa] at h1;have:i=es.length:=by
   by_cases h:i-es.length=0
   .omega
   have:=(aV.1 h1).1;simp at this;omega
  subst this;simp at h1;obtain⟨rfl,rfl⟩:=h1;rw[Array.getElem?_push,if_pos hl.symm] at h2;cases h2;exact⟨cU,gv,yn,qC,hvp⟩
 have qo:ents[j]?=some e':=by simpa using h3
 have hqe:e'.key=a.eval k:=sameKey_eq h4 cU (dY j q' v e' h2 qo).1;refine abN (ents.modify j fun e=>{e with key:=a.eval k,val:=a.eval y}) clock _ ?_ ?_
 .have Ea:=OA (P:=P) m.w zB hn;rw[jc] at Ea;have hks:(Instr.keyThatStays e'.key (a.eval k)).run P m.w=.ok (a.eval k) m.w:=by rw[hqe];exact alP (kind:=kind) (by rw[vg];exact Cl) cU
  rcases ho with ho|ho<;>simp[execOp,ho,Instr.mapUpdate,run_underlying ht,wY,Lh hh,KN m.w zB Cl,Ea,ad3 hh,qo,hks]
 simp only[jc];refine⟨by simp[hl],fun i q v e h1 h2=>?_⟩;rw[mT] at h1;rw[Array.getElem?_modify] at h2;by_cases fQ:j=i
 .subst fQ;rw[if_pos rfl] at h1;split at h1
  .cases h1;simp[qo] at h2;subst h2;exact⟨cU,gv,yn,qC,hvp⟩
  cases h1
 rw[if_neg fQ] at h1;rw[if_neg fQ] at h2;exact dY i q v e h1 h2
end
end
end Go.Abs
namespace Go.Abs
variable {P:Program} {w0:World}
theorem adW{t:TypeId}{b:Bool}(h:Qa P t=some b):(b=true/\ ∃k,P.underlying t=some (.int k))\/(b=false/\P.underlying t=some .bool):=by
 unfold Qa at h;split at h
 .rename_i k hk;cases h;exact .inl ⟨rfl,_,hk⟩
 .rename_i hk;cases h;exact .inr ⟨rfl,hk⟩
 cases h
theorem aiF{a b:PV}{r:Bool}(h:qh true a b=some r):∃k x y,a=.int k x/\b=.int k y/\r=(x==y):=by
 cases a<;>cases b<;>simp[qh] at h
 exact⟨_,_,_,rfl,by rw[h.1],h.2.symm⟩
theorem aiE{a b:PV}{r:Bool}(h:qh false a b=some r):∃x y,a=.bool x/\b=.bool y/\r=(x==y):=by
 cases a<;>cases b<;>simp[qh] at h
 exact⟨_,_,rfl,rfl,h.symm⟩
theorem aiH{as bs:List C}{r:Bool}(h:pF [] as bs=some r):r=true:=by
 cases as<;>cases bs<;>simp[pF] at h
 exact h
theorem aiG{k:Bool}{ks:List Bool}{as bs:List C}{r:Bool}(h:pF (k::ks) as bs=some r):
  ∃a ar b br r0,as=.p a::ar/\bs=.p b::br/\qh k a b=some r0/\(r0=true->pF ks ar br=some r)/\(r0=false->r=false):=by
 cases as with
 |nil=>simp[pF] at h
 |cons x ar=>
  cases bs with
  |nil=>cases x<;>simp[pF] at h
  |cons y br=>
   cases x<;>cases y<;>simp only[pF] at h<;>try cases h
   rename_i a b;cases he:qh k a b with
   |none=>simp[he] at h
   |some r0=>
    refine⟨a,ar,b,br,r0,rfl,rfl,he,fun e=>?_,fun e=>?_⟩
    .subst e;simpa [he] using h
    subst e;simp[he] at h;exact h
theorem aiI{w:World}{m:Mem}(d:Nat){A B:Array Value}:∀ {fs:List Field} {ks:List Bool} {k:Nat} {as bs:List C} {r:Bool},JQ P k fs=some ks->pF ks as bs=some r->
  (∀(j:Nat) (x:C),as[j]?=some x->∃v,A[k+j]?=some v/\cN m x v)->(∀(j:Nat) (x:C),bs[j]?=some x->∃v,B[k+j]?=some v/\cN m x v)->
  (Op.eqFields (d+1) A B fs).run P w=.ok r w:=by
 intro fs
 induction fs with
 |nil=>intro ks k as bs r hf he _ _;simp[JQ] at hf;subst hf;rw[aiH he];simp[Op.eqFields,Sem.run_pure]
 |cons f fs ih=>
  intro ks k as bs r hf he ha hb;simp only[JQ] at hf;split at hf
  .rename_i b BN h1 h2;split at hf
   .rename_i hc;obtain⟨Uu,akx⟩:=hc;cases hf;obtain⟨x,ar,y,br,r0,rfl,rfl,h0,ht,hf⟩:=aiG he;obtain⟨va,hva,uL⟩:=ha 0 (.p x) rfl;obtain⟨vb,hvb,mL⟩:=hb 0 (.p y) rfl;obtain⟨uL⟩:=uL;obtain⟨mL⟩:=mL;rw[rA] at hva hvb;have Mt:∀(X:Array Value) (v:Value),X[k]?=some v->(part f.type X f.offset).run P w=.ok v w:=by
     intro X v hX;have xT:(isAgg f.type).run P w=.ok false w:=by rcases adW h1 with ⟨_,kk,hu⟩|⟨_,hu⟩<;>simp[isAgg,run_underlying hu]
     rw[Uu];simp[part,xT,hX]
    have akh:(Op.equalIn (d+1) f.type va vb).run P w=.ok r0 w:=by
     rcases adW h1 with ⟨rfl,kk,hu⟩|⟨rfl,hu⟩
     .obtain⟨k',p,q,rfl,rfl,rfl⟩:=aiF h0;cases uL;cases mL;simp[Op.equalIn,run_underlying hu]
     obtain⟨p,q,rfl,rfl,rfl⟩:=aiE h0;cases uL;cases mL;simp[Op.equalIn,run_underlying hu]
    simp only[Op.eqFields,if_pos akx,Sem.run_bind,Mt A va hva,Mt B vb hvb,akh,Result.andThen_ok];cases r0 with
    |false=>rw[hf rfl];simp[Sem.run_pure]
    |true=>simp only[Dg,eY,if_false];exact ih h2 (ht rfl) (fun j x hx=>by have:=ha (j+1) x (by simpa using hx);rwa[show k+(j+1)=k+1+j by omega] at this) (fun j x hx=>by have:=hb (j+1) x (by simpa using hx);rwa[show k+(j+1)=k+1+j by omega] at this)
   cases hf
  cases hf
def Bv:uY->Value->Bool->Prop
 | .ptr,v,b=>∃a,v=.pointer a/\a.isNone=b
 | .slc,v,b=>∃a l c,v=.slice a l c/\a.isNone=b
 | .map,v,b=>∃r,v=.map r/\r.isNone=b
 | .fnc,v,b=>(v=.nilFunc/\b=true)\/ ∃f x y,v=.func f x y/\b=false
 | .ifc,v,b=>(v=.nilIface/\b=true)\/ ∃d x,v=.iface d x/\b=false
 |_,_,_=>False
theorem yr{m:Mem}{k:uY}{x:V}{v:Value}{b:Bool}(h:Gv k x=some b)(hr:bN m x v):Bv k v b:=by
 unfold Gv at h;split at h<;>cases h
 all_goals first
  |(obtain⟨hp⟩:cN m _ v:=hr;cases hp;first
    |exact⟨_,rfl,rfl⟩
    |exact⟨_,_,_,rfl,rfl⟩
    |exact .inl ⟨rfl,rfl⟩
    |exact .inr ⟨_,_,_,rfl,rfl⟩
    |exact .inr ⟨_,_,rfl,rfl⟩)
  |(have hc:cN m _ v:=hr;cases hc;first
    |exact⟨_,rfl,rfl⟩
    |exact⟨_,_,_,rfl,rfl⟩
    |exact .inr ⟨_,_,_,rfl,rfl⟩)
def QI(P:Program)(t:TypeId):uY->Prop
 | .bool=>P.underlying t=some .bool
 | .ptr=>∃e,P.underlying t=some (.pointer e)
 | .slc=>∃e,P.underlying t=some (.slice e)
 | .map=>∃a b,P.underlying t=some (.map a b)
 | .fnc=>∃a b c,P.underlying t=some (.func a b c)
 | .ifc=>∃a,P.underlying t=some (.interface a)
 | .str ks=>∃fs,P.underlying t=some (.struct fs)/\P.stoodInHeld t=false/\P.eqGuardType P.depth t=false/\JQ P 0 fs.toList=some ks
theorem YR{t:TypeId}{x y:Operand}{k:uY}(h:KV P t x y=some k):QI P t k/\(k=.ifc->Ju x=true\/Ju y=true):=by
 unfold KV at h;split at h
 .rename_i a ha;split at h
  .rename_i hc;cases h;exact⟨⟨_,ha⟩,fun _=>by simpa using hc⟩
  cases h
 .rename_i ha;cases h;exact⟨ha,fun e=>by cases e⟩
 .rename_i ha;cases h;exact⟨⟨_,ha⟩,fun e=>by cases e⟩
 .rename_i ha;cases h;exact⟨⟨_,ha⟩,fun e=>by cases e⟩
 .rename_i ha;cases h;exact⟨⟨_,_,ha⟩,fun e=>by cases e⟩
 .rename_i ha;cases h;exact⟨⟨_,_,_,ha⟩,fun e=>by cases e⟩
 .rename_i fs ha;split at h
  .rename_i hc;simp only[dy] at h;obtain⟨ks,h1,rfl⟩:=h;simp at hc;exact⟨⟨fs,ha,hc.1,hc.2,h1⟩,fun e=>by cases e⟩
  cases h
 cases h
theorem YS{t:TypeId}{k:uY}{v u:Value}{a b:Bool}(w:World)(hk:QI P t k)(h1:Bv k v a)(h2:Bv k u b)(ju:a=true\/b=true)(d:Nat):(Op.equalIn (d+1) t v u).run P w=.ok (a&&b) w:=by
 cases k with
 |bool=>exact h1.elim
 |str n=>exact h1.elim
 |ptr=>obtain⟨e,hu⟩:=hk;obtain⟨x,rfl,rfl⟩:=h1;obtain⟨y,rfl,rfl⟩:=h2;cases x<;>cases y<;>simp at ju<;>simp[Op.equalIn,run_underlying hu]
 |slc=>obtain⟨e,hu⟩:=hk;obtain⟨x,_,_,rfl,rfl⟩:=h1;obtain⟨y,_,_,rfl,rfl⟩:=h2;cases x<;>cases y<;>simp at ju<;>simp[Op.equalIn,run_underlying hu]
 |map=>obtain⟨e,e',hu⟩:=hk;obtain⟨x,rfl,rfl⟩:=h1;obtain⟨y,rfl,rfl⟩:=h2;cases x<;>cases y<;>simp at ju<;>simp[Op.equalIn,run_underlying hu]
 |fnc=>obtain⟨e,e',e'',hu⟩:=hk;rcases h1 with ⟨rfl,rfl⟩|⟨_,_,_,rfl,rfl⟩<;>rcases h2 with ⟨rfl,rfl⟩|⟨_,_,_,rfl,rfl⟩<;>simp at ju<;>simp[Op.equalIn,run_underlying hu]
 |ifc=>obtain⟨e,hu⟩:=hk;rcases h1 with ⟨rfl,rfl⟩|⟨_,_,rfl,rfl⟩<;>rcases h2 with ⟨rfl,rfl⟩|⟨_,_,rfl,rfl⟩<;>simp at ju<;>simp[Op.equalIn,run_underlying hu]
section
variable {m:Mem} {aj:Env} {a:Act} {o:Oper} (ao:Ok w0 m) (hr:jr m aj a.tmps)
include ao hr
theorem aiK{t:TypeId}{k:uY}{x y:V}{v u:Value}{b:Bool}(hk:QI P t k)(h:BY k x y=some b)(hx:bN m x v)(hy:bN m y u)(d:Nat):(Op.equalIn (d+2) t v u).run P m.w=.ok b m.w:=by
 have _u0:=ao;have _u1:=hr;unfold BY at h;split at h
 .cases h;rw[EC hx,EC hy];have hk:P.underlying t=some .bool:=hk;simp only[Op.equalIn,Sem.run_bind,run_underlying hk,Result.andThen_ok,Sem.run_pure]
 .obtain⟨A,rfl,hA⟩:=bN.agg.1 hx;obtain⟨B,rfl,hB⟩:=bN.agg.1 hy;obtain⟨fs,hu,hs,_,hf⟩:=hk;have zu:P.fieldsOf t=fs:=by simp[Program.fieldsOf,hu]
  rw[run_equalIn_agg m.w (d+1) t A B (by rw[zu];exact hu) hs,zu];refine aiI (w:=m.w) (m:=m) d hf h (fun j x hx=>?_) (fun j x hx=>?_)
  .have aq:j<A.size:=by have:=hA.1;simp at this;rw[this];exact(aV.1 hx).1
   exact⟨A[j],by simp[aq],hA.2 j x _ hx (by simp[aq])⟩
  have aq:j<B.size:=by have:=hB.1;simp at this;rw[this];exact(aV.1 hx).1
  exact⟨B[j],by simp[aq],hB.2 j x _ hx (by simp[aq])⟩
 .cases h
 .cases h
 split at h
 .rename_i hb;have:=YS (P:=P) m.w hk (yr h hx) (yr hb hy) (.inr rfl) (d+1)
  simpa using this
 split at h
 .rename_i ha;have:=YS (P:=P) m.w hk (yr ha hx) (yr h hy) (.inl rfl) (d+1)
  simpa using this
 cases h
theorem aiJ{op:BinOp}{t:TypeId}{k:uY}{x y:Operand}{x' y':aP}{b:Bool}(hk:KV P t x y=some k)(hx:cn x=some x')(hy:cn y=some y')(h:BY k (ev aj x') (ev aj y')=some b):
  (eqGuard op t x y (a.eval x) (a.eval y)).run P m.w=.ok () m.w:=by
 have _u0:=ao;obtain⟨cM,r4⟩:=YR hk;have h1:=eE hx hr;have h2:=eE hy hr;by_cases hop:op=.eql\/op=.neq
 .unfold BY at h;split at h
  .rename_i e1 e2;rw[e1] at h1;rw[EC h1,eqGuard_at_bool];rfl
  .rename_i e1 e2;rw[e1] at h1;rw[e2] at h2;obtain⟨A,e3,_⟩:=bN.agg.1 h1;obtain⟨B,e4,_⟩:=bN.agg.1 h2;obtain⟨fs,_,_,hg,_⟩:=cM;rw[e3,e4];exact run_eqGuard_agg m.w op t x y A B hg
  .cases h
  .cases h
  rename_i k q1 q2 q3 q4 q5 q6 q7;have hn:∃b1 b2,Bv k (a.eval x) b1/\Bv k (a.eval y) b2:=by
   split at h
   .rename_i hb;exact⟨_,_,yr h h1,yr hb h2⟩
   split at h
   .rename_i ha;exact⟨_,_,yr ha h1,yr h h2⟩
   cases h
  obtain⟨b1,b2,n1,n2⟩:=hn;cases k with
  |bool=>exact n1.elim
  |str n=>exact n1.elim
  |ptr=>obtain⟨q,e,_⟩:=n1;rw[e,eqGuard_at_pointer];rfl
  |slc=>obtain⟨q,_,_,e,_⟩:=n1;rw[e,eqGuard_at_slice];rfl
  |map=>obtain⟨q,e,_⟩:=n1;rw[e,eqGuard_at_map];rfl
  |fnc=>
   rcases n1 with ⟨e,_⟩|⟨_,_,_,e,_⟩
   .rw[e,eqGuard_at_nilFunc];rfl
   rw[e,eqGuard_at_func];rfl
  |ifc=>
   rcases n1 with ⟨e,_⟩|⟨_,_,e,_⟩
   .rcases n2 with ⟨e',_⟩|⟨_,_,e',_⟩
    .rw[e,e'];have hc:(∃c,x=.const c)\/ ∃c,y=.const c:=by
      rcases r4 rfl with hc|hc
      .cases x<;>simp[Ju] at hc
       exact .inl ⟨_,rfl⟩
      cases y<;>simp[Ju] at hc
      exact .inr ⟨_,rfl⟩
     rcases hc with ⟨c,rfl⟩|⟨c,rfl⟩
     .rw[eqGuard_nil_constL];rfl
     rw[eqGuard_nil_constR];rfl
    rw[e,e',eqGuard_nil_iface];rfl
   rw[e,eqGuard_at_iface];rfl
 have:eqGuard op t x y (a.eval x) (a.eval y)=pure ():=by
  cases op<;>first
   |rfl
   |exact(hop (.inl rfl)).elim
   |exact(hop (.inr rfl)).elim
 rw[this];rfl
theorem ag6{t:TypeId}{k:uY}{v u:Value}{b1:Bool}(hs:(∃p q,v=.bool p/\u=.bool q)\/(∃p q,v=.agg p/\u=.agg q)\/ ∃p q,Bv k v p/\Bv k u q)(h:(Op.equalIn (9998+2) t v u).run P m.w=.ok b1 m.w):
  (binOp .eql t v u).run P m.w=.ok (.bool b1) m.w/\(binOp .neq t v u).run P m.w=.ok (.bool (!b1)) m.w:=by
 have _u0:=ao;have _u1:=hr;have he:Op.equal t v u=Op.equalIn (9998+2) t v u:=rfl;have key:binOp .eql t v u=(do pure (.bool (<- Op.equal t v u)))/\binOp .neq t v u=(do pure (.bool (!(<- Op.equal t v u)))):=by
  rcases hs with ⟨p,q,rfl,rfl⟩|⟨p,q,rfl,rfl⟩|⟨p,q,h1,h2⟩
  .exact⟨rfl,rfl⟩
  .exact⟨rfl,rfl⟩
  cases k with
  |bool=>exact h1.elim
  |str n=>exact h1.elim
  |ptr=>obtain⟨_,rfl,_⟩:=h1;obtain⟨_,rfl,_⟩:=h2;exact⟨rfl,rfl⟩
  |slc=>obtain⟨_,_,_,rfl,_⟩:=h1;obtain⟨_,_,_,rfl,_⟩:=h2;exact⟨rfl,rfl⟩
  |map=>obtain⟨_,rfl,_⟩:=h1;obtain⟨_,rfl,_⟩:=h2;exact⟨rfl,rfl⟩
  |fnc=>rcases h1 with ⟨rfl,_⟩|⟨_,_,_,rfl,_⟩<;>rcases h2 with ⟨rfl,_⟩|⟨_,_,_,rfl,_⟩<;>exact⟨rfl,rfl⟩
  |ifc=>rcases h1 with ⟨rfl,_⟩|⟨_,_,rfl,_⟩<;>rcases h2 with ⟨rfl,_⟩|⟨_,_,rfl,_⟩<;>exact⟨rfl,rfl⟩
 rw[key.1,key.2,he];simp only[Sem.run_bind,h,Result.andThen_ok,Sem.run_pure,and_self]
theorem ad8{op:BinOp}{t ty:TypeId}{x y:Operand}{x' y':aP}{k:uY}{neg b:Bool}(ho:o.op=.binOp op t x y ty)(hop:(op=.eql/\neg=false)\/(op=.neq/\neg=true))(hk:KV P t x y=some k)(hx:cn x=some x')(hy:cn y=some y')
  (hv:BY k (ev aj x') (ev aj y')=some b):fE P w0 a.eval o m (.one (.p (.bool (if neg then !b else b)))) []:=by
 have h1:=eE hx hr;have h2:=eE hy hr;have hg:=aiJ ao hr (op:=op) hk hx hy hv;have he:=aiK ao hr (YR hk).1 hv h1 h2 9998;have hs:(∃p q,a.eval x=.bool p/\a.eval y=.bool q)\/(∃p q,a.eval x=.agg p/\a.eval y=.agg q)\/ ∃p q,Bv k (a.eval x) p/\Bv k (a.eval y) q:=by
  unfold BY at hv;split at hv
  .rename_i e1 e2;rw[e1] at h1;rw[e2] at h2;exact .inl ⟨_,_,EC h1,EC h2⟩
  .rename_i e1 e2;rw[e1] at h1;rw[e2] at h2;obtain⟨A,e3,_⟩:=bN.agg.1 h1;obtain⟨B,e4,_⟩:=bN.agg.1 h2;exact .inr (.inl ⟨A,B,e3,e4⟩)
  .cases hv
  .cases hv
  split at hv
  .rename_i hb;exact .inr (.inr ⟨_,_,yr hv h1,yr hb h2⟩)
  split at hv
  .rename_i ha;exact .inr (.inr ⟨_,_,yr ha h1,yr hv h2⟩)
  cases hv
 obtain⟨r1,r2⟩:=ag6 ao hr hs he;rcases hop with ⟨rfl,rfl⟩|⟨rfl,rfl⟩
 .exact .calm ao (by simp[execOp,ho,hg,r1]) (mz (.bool _))
 exact .calm ao (by simp[execOp,ho,hg,r2]) (mz (.bool _))
end
end Go.Abs
namespace Go.Abs
variable {P:Program} {w0:World}
theorem aha:∀ {es:List (List PV)} {bs:List UInt8},bytesOf es=some bs->∃ns:List Int,es.flatten=ns.map (PV.int .u8)/\bs=ns.map (fun n=>UInt8.ofNat n.toNat)/\ns.length=es.length:=by
 intro es
 induction es with
 |nil=>intro bs h;simp[bytesOf] at h;exact⟨[],rfl,h,rfl⟩
 |cons e r ih=>
  intro bs h;unfold bytesOf at h;split at h
  .rename_i e';cases e'
  .rename_i n r' e';cases e';simp only[dy] at h;obtain⟨q,hq,rfl⟩:=h;obtain⟨ns,h1,h2,h3⟩:=ih hq;exact⟨n::ns,by simp[h1],by simp[h2],by simp[h3]⟩
  cases h
theorem aoo{w:World}{own:Nat->Prop}:∀ {ns:List Int} {vs:List Value},Pw (bU w own) (ns.map (PV.int .u8)) vs->vs=ns.map (Value.int .u8):=by
 intro ns
 induction ns with
 |nil=>intro vs h;have:=h.1;simp at this;simp[this]
 |cons n ns ih=>
  intro vs h;cases vs with
  |nil=>have:=h.1;simp at this
  |cons v vs=>have h0:=h.2 0 _ v rfl rfl;cases h0;rw[ih (vs:=vs) ⟨by have:=h.1;simpa using this,fun j x u a b=>h.2 (j+1) x u (by simpa using a) (by simpa using b)⟩];rfl
theorem aok:∀(ns:List Int) (s:ByteArray),ns.foldl (fun r n=>r.push (UInt8.ofNat n.toNat)) s=⟨s.data++(ns.map (fun n=>UInt8.ofNat n.toNat)).toArray⟩:=by
 intro ns
 induction ns with
 |nil=>intro s;cases s;simp
 |cons n ns ih=>intro s;simp only[uW,dG];rw[ih];cases s;simp[ByteArray.push]
section
variable {m:Mem} {aj:Env} {a:Act} {o:Oper} (ao:Ok w0 m) (hr:jr m aj a.tmps)
include ao hr
theorem apg{s d e:TypeId}{x:Operand}{x':aP}{es:List (List PV)}{r:List Nat}{bs:List UInt8}(ho:o.op=.convert s d x)(hs:P.underlying s=some (.slice e))(he:P.underlying e=some (.int .u8))(hd:P.underlying d=some .string)
  (hx:cn x=some x') (di:eT m.blk (ev aj x')=some (es,r,[])) (hb:bytesOf es=some bs):fE P w0 a.eval o m (.one (.p (.str ⟨bs.toArray⟩))) []:=by
 obtain⟨ns,h1,h2,h3⟩:=aha hb;obtain⟨ax,cx,wY,_,yj⟩:=YK (own:=m.own) ao di (eE hx hr) ⟨fun _ h=>h,fun _ h=>by simp at h⟩;refine .calm ao (x:=.string ⟨bs.toArray⟩) ?_ (mz (.str _));have key:(Conv.bytesToString (.slice ax es.length cx)).run P m.w=.ok (.string ⟨bs.toArray⟩) m.w:=by
  by_cases aK:es=[]
  .subst aK;have:ns=[]:=by simpa using h3
   subst this;have iL:bs=[]:=by simpa using h2
   subst iL;cases ax with
   |none=>simp[Conv.bytesToString,Sem.run_pure];rfl
   |some ad=>have:=run_bytesToString (P:=P) m.w ad 0 cx [] (by simp[loadCells,loadCellsFrom,Sem.run_pure]);exact this
  obtain⟨b,off,news,rfl,qX,xY⟩:=yj aK;rw[h1] at qX;have hn:=aoo qX;have hl:news.length=es.length:=by rw[hn];simpa using h3
  have akt:(loadCells ⟨b,off,none⟩ es.length).run P m.w=.ok (ns.map (Value.int .u8)).toArray m.w:=by rw[<- hl,<- hn];exact run_loadCells_list m.w ⟨b,off,none⟩ news fun j v hj=>by rw[Addr.add_lit];exact xY j v hj
  rw[run_bytesToString m.w _ _ cx ns akt,aok,h2];simp[ByteArray.empty,ByteArray.emptyWithCapacity];rfl
 simp only[execOp,ho,wY,Sem.run_bind,run_convert_bytes_string m.w s d e ax es.length cx hs he hd,key,Result.andThen_ok,Sem.run_pure]
end
end Go.Abs
namespace Go.Abs
variable {P:Program} {w0:World}
theorem QW{xs:Array Operand}{a:aP}(h:qe xs.toList=some [a]):∃x,xs= #[x]/\cn x=some a:=by
 obtain⟨xs⟩:=xs;cases xs with
 |nil=>simp[qe] at h
 |cons x r=>
  simp only[qe] at h;split at h
  .rename_i y ys e1 e2;cases h;cases r with
   |nil=>exact⟨x,rfl,e1⟩
   |cons z r=>simp only[qe] at e2;split at e2<;>simp at e2
  cases h
theorem QX{xs:Array Operand}{a b:aP}(h:qe xs.toList=some [a,b]):∃x y,xs= #[x,y]/\cn x=some a/\cn y=some b:=by
 obtain⟨xs⟩:=xs;cases xs with
 |nil=>simp[qe] at h
 |cons x r=>
  simp only[qe] at h;split at h
  .rename_i y ys e1 e2;cases h;obtain⟨z,hz,Gs⟩:=QW (xs:=r.toArray) (by simpa using e2);have:r=[z]:=by simpa using congrArg Array.toList hz
   subst this;exact⟨x,z,rfl,e1,Gs⟩
  cases h
theorem arq{xs:Array TypeId}{t u:TypeId}(h1:xs[0]?=some t)(h2:xs[1]?=some u)(hs:xs.size=2):xs= #[t,u]:=by
 obtain⟨xs⟩:=xs
 match xs,hs with
 |[a,b],_=>simp at h1 h2;subst h1 h2;rfl
theorem ajs{α:Type}{sz:Nat}{es ys:List (List α)}{off:Nat}(h:∀e∈es,e.length=sz)(hy:∀e∈ys,e.length=sz)(hl:off+ys.length<=es.length):(eX es off ys).flatten=eX es.flatten (off*sz) ys.flatten:=by
 have ht:∀k,k<=es.length->(es.take k).flatten.length=k*sz:=fun k hk=>by rw[FQ fun e he=>h e (vP he),fJ,yK hk]
 have e1:es.flatten=(es.take off).flatten++(es.drop off).flatten:=by rw[<- Di,lX]
 have e2:es.flatten=(es.take (off+ys.length)).flatten++(es.drop (off+ys.length)).flatten:=by rw[<- Di,lX]
 unfold eX;rw[Di,Di,FQ hy];congr 1
 .congr 1
  conv=>rhs;rw[e1]
  rw[List.take_left' (ht off aa)]
 rw[<- gD]
 conv=>rhs;rw[e2]
 rw[List.drop_left' (ht _ hl)]
theorem arZ{R:PV->Value->Prop}{z:List PV}{v:Array Value}{n:Nat}(hz:Pw R z v.toList):Pw R (List.replicate n z).flatten (Builtin.zeroCells v n).toList:=by
 have kM:z.length=v.size:=by have:=hz.1;simp at this;omega
 have eK:∀e∈List.replicate n z,e.length=v.size:=fun e he=>by rw[QE he];exact kM
 have hlen:(Builtin.zeroCells v n).toList.length=n*v.size:=by simp[size_zeroCells]
 refine⟨by rw[hlen,FQ eK];simp,fun j x u p q=>?_⟩;have hj:j<n*v.size:=by have:=(aV.1 q).1;omega
 have ff:0<v.size:=by
  rcases Nat.eq_zero_or_pos v.size with h|h
  .rw[h] at hj;omega
  exact h
 have hdiv:j/v.size<n:=by rw[Nat.div_lt_iff_lt_mul ff];exact hj
 have Gc:j%v.size<v.size:=dw _ ff;have he:(List.replicate n z)[j/v.size]?=some z:=by simp[hdiv]
 have h1:=FP eK he Gc;rw[show j/v.size*v.size+j%v.size=j by rw[Nat.mul_comm];exact Nat.div_add_mod j v.size] at h1;rw[h1] at p;have h2:(Builtin.zeroCells v n).toList[j]?=some v[j%v.size]! :=by unfold Builtin.zeroCells;simp[hj]
 rw[h2] at q;cases q;refine hz.2 (j%v.size) x _ p ?_;simp[Gc]
section
variable {m:Mem} {aj:Env} {a:Act} {o:Oper} (ao:Ok w0 m) (hr:jr m aj a.tmps)
include ao hr
theorem apj{c:Call}{x:Operand}{x':aP}{t e:TypeId}{sz bytes:Nat}{z:List PV}{sh:Nat->Bool}{v:V}{u:List eO}{rd:List Nat}(ho:o.op=.call c)(hc:c.callee=.builtin .clear)(has:c.args= #[x])(gh:c.argTypes[0]?=some t)
  (he:Ak P t=some (e,sz,bytes,z)) (hx:cn x=some x') (hp:bj sh aj m.blk (.clear z x')=.done v u rd):fE P w0 a.eval o m v u:=by
 obtain⟨i,zv,ht,hi,hs,hb,⟨ff,FY⟩,wR,I8,kM,dh⟩:=Oc he;have lE:=eE hx hr;have run:∀(y:Value) (w':World),(Builtin.clear_ c.argTypes o.type #[a.eval x]).run P m.w=.ok y w'->(execOp a.eval o).run P m.w=.ok (.value y) w':=by intro y w' h;simp[execOp,ho,resolve,hc,has,invoke,builtin,h]
 have quiet:(Builtin.clear_ c.argTypes o.type #[a.eval x]).run P m.w=.ok (.tuple #[]) m.w->fE P w0 a.eval o m (.tup []) []:=fun h=>
  ⟨.tuple #[],m,.inl (run _ _ h),ao,Ev.refl _,rfl,rfl,(⟨#[],rfl,rfl,fun j x u h=>by simp at h⟩:bN m (.tup []) _)⟩
 simp only[bj] at hp;split at hp
 .rename_i hv;cases hp;rw[hv] at lE;have lE:cN m _ (a.eval x):=lE;generalize Ca:a.eval x=b at lE;rw[Ca] at quiet;apply quiet;cases lE with
  |p h=>cases h;simp[Builtin.clear_,gh,run_underlying ht]
 .rename_i hv;cases hp;rw[hv] at lE;have lE:cN m _ (a.eval x):=lE;generalize Ca:a.eval x=b at lE;rw[Ca] at quiet;apply quiet;cases lE with
  |p h=>
   cases h with
   |xm a cap hn hm=>cases a<;>simp[Builtin.clear_,gh,run_underlying ht]
   |sl b o cap sz f h1 h2 h3 h4=>simp[Builtin.clear_,gh,run_underlying ht]
 .rename_i id g w off len hv;rw[hv] at lE;have lE:cN m _ (a.eval x):=lE;generalize Ca:a.eval x=b at lE;rw[Ca] at quiet run;cases lE with
  |hsl ad cap hg hl hm nv=>
   split at hp
   .rename_i h0;cases hp;subst h0;apply quiet;simp[Builtin.clear_,gh,run_underlying ht]
   rename_i h0;split at hp
   .rename_i g' ty bR es hbk;split at hp
    .rename_i LK;obtain⟨iM,hsz,hfit⟩:=LK;cases hp;have aU:(m.blk id).2=some (.arr ty bR es):=by rw[hbk]
     obtain⟨_,nv,_⟩:=nv bR (by rw[hbk];exact iM) (by rw[hbk];rfl);have nv:=nv (.inr aa);subst nv;obtain⟨cur,hh,jf,qY,l7,mJ,DX,AO⟩:=ao.obj id _ aU;have hze:∀e∈List.replicate len z,e.length=bR:=fun e he=>by rw[QE he];exact hsz.symm
     have ale:zv.cells.size=bR:=by rw[I8,<- kM,hsz]
     have I7:(List.replicate len z).length=len:=List.length_replicate;have qu:=ajs (off:=off) qY hze (by rw[I7];exact hfit);have oh:(off+len)*bR<=es.length*bR:=lL _ hfit;have aa4:es.length*bR<=m.κ id*bR:=lL _ l7;rw[gD] at oh;generalize hZ:(Builtin.zeroCells zv.cells len).toList=Z;have hZl:Z.length=len*bR:=by rw[<- hZ];simp[size_zeroCells,ale]
     have hZp:∀w own,cX w own (List.replicate len z).flatten Z:=fun w own=>cX.pw.2 (by rw[<- hZ];exact arZ (cX.pw.1 (dh w own)));have OY:∀v∈Z,v.oneCell'=true:=fun v hv=>by
      obtain⟨j,hj⟩:=jy hv;have aq:j<(List.replicate len z).flatten.length:=by rw[<- (hZp m.w m.own).1];exact(aV.1 hj).1
      exact((hZp m.w m.own).2 j _ v (oQ aq) hj).MX
     have Ar:off*bR+0+Z.length<=cur.size:=by rw[hZl,DX];omega
     have cA:=run_storeCells_at P (m.σ id) (off*bR) ty Z 0 cur m.w hh Ar OY;simp only[rA] at cA;generalize hW:m.w.setRow (m.σ id) (cur.toList.take (off*bR)++Z++cur.toList.drop (off*bR+Z.length)).toArray=W at cA;have DU:W.heap.size=m.w.heap.size:=by rw[<- hW];simp
     have DT:∀c,c≠m.σ id->W.heap[c]?=m.w.heap[c]? :=fun c hc=>by rw[<- hW];exact setRow_other m.w (m.σ id) c _ hc
     have abm:(eX es off (List.replicate len z)).length=es.length:=Qo (by rw[I7];exact hfit);have dD:=JR (w':=W) (o:=.arr ty bR (eX es off (List.replicate len z))) aU rfl (by simp[kz]) (by rw[<- hW];rfl) (by rw[<- hW];rfl) (by rw[<- hW];rfl) DU DT;have zE:sJ (m.jl W id (.arr ty bR (eX es off (List.replicate len z)))) id (.arr ty bR (eX es off (List.replicate len z))):=by
      refine⟨_,by rw[<- hW];exact Ni hh,jf,?_,by rw[abm];exact l7,mJ,?_,?_⟩
      .intro e' Ce;unfold eX at Ce;simp only[fq] at Ce;rcases Ce with (h|h)|h
       .exact qY e' (vP h)
       .exact hze e' h
       exact qY e' (vO h)
      .simp[Mem.jl];omega
      rw[abm,qu];have h1:=(cX.pw.1 (AO.ev dD.zero)).eX (cX.pw.1 (hZp (m.jl W id (.arr ty bR (eX es off (List.replicate len z)))).w (m.jl W id (.arr ty bR (eX es off (List.replicate len z)))).own)) (off*bR);rw[<- aex aa (by simp;omega)] at h1;have h1:=cX.pw.2 h1
      simpa [eX] using h1
     refine⟨.tuple #[],m.jl W id (.arr ty bR (eX es off (List.replicate len z))),.inl (run _ _ ?_),Nh aU rfl ao (by simp[kz]) (by rw[<- hW];rfl) (by rw[<- hW];rfl) (by rw[<- hW];rfl) DU DT zE,dD,rfl,?_,(⟨#[],rfl,rfl,fun j x u h=>by simp at h⟩:bN _ (.tup []) _)⟩
     .obtain⟨k,rfl⟩:∃k,len=k+1:=⟨len-1,aa⟩;simp[Builtin.clear_,gh,run_underlying ht,zeroValue,typeInfo,hi,wR,hZ,cA,Mem.jl]
     simp[Mem.jl,app,hbk,iM]
    cases hp
   cases hp
 cases hp
end
section
variable {m:Mem} {aj:Env} {a:Act} {o:Oper} (ao:Ok w0 m) (hr:jr m aj a.tmps)
include ao hr
theorem acz{t kt e:TypeId}{x k y:Operand}{x' k' y':aP}{kd:Nat}{ag:Bool}{sh:Nat->Bool}{v:V}{u:List eO}{rd:List Nat}(ho:o.op=.mapUpdate t x k y\/o.op=.insert t x k y)(ht:P.underlying t=some (.map kt e))
  (Aw:keyOf P kt=some kd) (hx:cn x=some x') (hk:cn k=some k') (hy:cn y=some y') (hp:bj sh aj m.blk (.mupd kd ag x' k' y')=.done v u rd):fE P w0 a.eval o m v u:=by
 simp only[bj] at hp;split at hp
 .rename_i id g q cs e1 e2 e3;split at hp
  .rename_i g' rF es ps e4 e5;split at hp
   .rename_i qR;obtain⟨rfl,rfl,hq⟩:=qR;split at hp
    .rename_i i w hf;cases hp;exact aea ao hr ho ht Aw hx hk hy e1 e4 e2 hq e3 e5 hf
    .rename_i hf;cases hp;exact aea ao hr ho ht Aw hx hk hy e1 e4 e2 hq e3 e5 hf
    cases hp
   cases hp
  cases hp
 cases hp
theorem am3{site:Nat}{sh:Nat->Bool}{p:oR}{v:V}{u:List eO}{rd:List Nat}(hc:FG P site o=some p)(hp:bj sh aj m.blk p=.done v u rd):fE P w0 a.eval o m v u:=by
 unfold FG at hc;split at hc
 · -- move
  rename_i x ho;simp only[dy] at hc;obtain⟨y,h1,rfl⟩:=hc;cases hp;exact ad9 ao hr (.inl ho) h1
 · -- assign
  rename_i x ho;simp only[dy] at hc;obtain⟨y,h1,rfl⟩:=hc;cases hp;exact ad9 ao hr (.inr ho) h1
 · -- pick
  rename_i c x y ho;split at hc
  .rename_i c' x' y' h1 h2 h3;cases hc;simp only[bj] at hp;split at hp
   .rename_i t ht;cases hp;exact apC ao hr ho h1 h2 h3 ht
   cases hp
  cases hc
 · -- alloc
  rename_i t ho;simp only[dy] at hc;obtain⟨z,h1,rfl⟩:=hc;cases hp;exact apb ao ho h1
 · -- box
  rename_i t x ho;simp only[dy] at hc;obtain⟨z,h1,rfl⟩:=hc;simp only[bj] at hp;split at hp
  .rename_i cs cY;cases hp;exact ape ao hr ho h1 cY
  cases hp
 · -- build
  rename_i t ps ho;split at hc
  .rename_i fs z h1 h2;split at hc
   .rename_i eK;simp only[dy] at hc;obtain⟨qs,h3,rfl⟩:=hc;simp only[bj] at hp;split at hp
    .rename_i rs hrs;cases hp;exact api ao hr ho h1 h2 eK h3 hrs
    cases hp
   cases hc
  .rename_i n e z h1 h2;split at hc
   .rename_i i hi;simp only[dy] at hc;obtain⟨qs,h3,rfl⟩:=hc;simp only[bj] at hp;split at hp
    .rename_i rs hrs;cases hp;exact aph ao hr ho h1 h2 hi h3 hrs
    cases hp
   cases hc
  cases hc
 · -- buildSlice
  rename_i t n ps ho;split at hc
  .rename_i e sz bytes z as h1 h2;split at hc
   .rename_i qR;cases hc;simp only[bj] at hp;split at hp
    .rename_i es jU;obtain⟨g1,g2⟩:=apf (s:=site) ao hr ho h1 h2 qR.1 qR.2 jU;split at hp
     .rename_i qs hqs;cases hp;exact g1 qs hqs
     cases hp;exact g2
    cases hp
   cases hc
  cases hc
 · -- load
  rename_i t x ho;split at hc
  .rename_i k y h1 h2;cases hc;simp only[bj] at hp;split at hp
   .rename_i cs r cY;split at hp
    .rename_i v' hv;cases hp;exact apr ao hr ho h1 h2 cY hv
    cases hp
   cases hp
  cases hc
 · -- store
  rename_i t x y ho;split at hc
  .rename_i n x' y' h1 h2 h3;cases hc;simp only[bj] at hp;split at hp
   .rename_i cs cY;exact apH ao hr ho h1 h2 h3 cY hp
   cases hp
  cases hc
 · -- nilCheck
  rename_i x ho;simp only[dy] at hc;obtain⟨y,h1,rfl⟩:=hc;have hu:u=[]/\rd=[]:=by simp only[bj] at hp;split at hp<;>cases hp<;>exact⟨rfl,rfl⟩
  obtain⟨rfl,rfl⟩:=hu;exact apA ao hr ho h1 hp
 · -- binOp
  rename_i op t x y ty ho;split at hc
  .rename_i x' y' h1 h2;have aaV:∀(op':BinOp),p=.bin op' x' y'->op'=op->fE P w0 a.eval o m v u:=by
    intro op' e1 e2;subst e1 e2;simp only[bj] at hp;split at hp
    .rename_i v' hv;cases hp;exact apd ao hr ho h1 h2 hv
    cases hp
   split at hc
   .cases hc;exact aaV _ rfl rfl
   .cases hc;exact aaV _ rfl rfl
   split at hc
   .rename_i k hk;cases hc;simp only[bj] at hp;split at hp
    .rename_i b hb;cases hp;exact ad8 ao hr (neg:=false) ho (.inl ⟨rfl,rfl⟩) hk h1 h2 hb
    cases hp
   .rename_i k hk;cases hc;simp only[bj] at hp;split at hp
    .rename_i b hb;cases hp;exact ad8 ao hr (neg:=true) ho (.inr ⟨rfl,rfl⟩) hk h1 h2 hb
    cases hp
   cases hc
  cases hc
 · -- unOp
  rename_i op t x ho;split at hc
  .simp only[dy] at hc;obtain⟨y,h1,rfl⟩:=hc;simp only[bj] at hp;split at hp
   .rename_i b e1 e2;cases hp;exact apB ao hr ho h1 e2
   .rename_i e1 e2;cases e1
   cases hp
  .simp only[dy] at hc;obtain⟨y,h1,rfl⟩:=hc;simp only[bj] at hp;split at hp
   .rename_i e1 e2;cases e1
   .rename_i k n e1 e2;cases hp;exact apz ao hr ho h1 e2
   cases hp
  cases hc
 · -- convert
  rename_i s d x ho;split at hc
  .rename_i ks k y h1 h2 h3;cases hc;simp only[bj] at hp;split at hp
   .rename_i k0 n hn;cases hp;exact apk ao hr ho h1 h2 h3 hn
   cases hp
  .rename_i e y h1 h2 h3;split at hc
   .rename_i he;cases hc;simp only[bj] at hp;split at hp
    .rename_i es r jU;split at hp
     .rename_i bs qq;cases hp;exact apg ao hr ho h1 he h2 h3 jU qq
     cases hp
    cases hp
   cases hc
  cases hc
 · -- makeFunc
  rename_i f x y ho;split at hc
  .rename_i x' y' h1 h2;cases hc;simp only[bj] at hp;split at hp
   .rename_i cs ds e1 e2;cases hp;exact apv ao hr ho h1 h2 e1 e2
   cases hp
  cases hc
 · -- makeMap
  rename_i t ho;split at hc
  .simp only[dy] at hc;obtain⟨k,h1,rfl⟩:=hc;cases hp;exact apw (kt:=t) (t:=t) (e:=t) ao ho
  cases hc
 · -- makeSlice
  rename_i t l c ho;split at hc
  .rename_i e sz bytes z l' c' h1 h2 h3;cases hc;simp only[bj] at hp;split at hp
   .rename_i n n' e1 e2;split at hp
    .rename_i qR;obtain⟨rfl,kL⟩:=qR;cases hp;exact apx ao hr ho h1 h2 h3 e1 e2 kL
    cases hp
   cases hp
  cases hc
 · -- slice
  rename_i t x lo hi ho;split at hc
  .rename_i x' CF zx h1 h2 h3;split at hc
   .rename_i e ht;simp only[dy] at hc;obtain⟨sz,h4,rfl⟩:=hc;simp only[bj] at hp;split at hp
    .rename_i n hn;split at hp
     .rename_i l h e1 e2;have hu:u=[]/\rd=[]:=by
       unfold CQ at hp;repeat' split at hp
       all_goals first
        |cases hp
        |skip
       all_goals exact⟨rfl,rfl⟩
      obtain⟨rfl,rfl⟩:=hu;exact apF ao hr ho ht h4 h1 h2 h3 hn e1 e2 hp
     cases hp
    cases hp
   .rename_i ht;cases hc;simp only[bj] at hp;split at hp
    .rename_i s hs;split at hp
     .rename_i l h e1 e2;split at hp
      .rename_i qR;cases hp;exact apG ao hr ho ht h1 h2 h3 hs e1 e2 qR.1 qR.2
      cases hp
     cases hp
    cases hp
   cases hc
  cases hc
 · -- fieldAddr
  rename_i s x f ho;split at hc
  .rename_i fs y h1 h2;split at hc
   .rename_i d hd;split at hc
    .rename_i hz;cases hc;have hu:u=[]/\rd=[]:=by
      simp only[bj] at hp;split at hp<;>cases hp<;>exact⟨rfl,rfl⟩
     obtain⟨rfl,rfl⟩:=hu;exact apm ao hr ho h1 hd hz h2 hp
    cases hc
   cases hc
  cases hc
 · -- field
  rename_i t x f ho;split at hc
  .rename_i fs y h1 h2;split at hc
   .rename_i d hd;simp only[dy] at hc;obtain⟨k,h3,rfl⟩:=hc;simp only[bj] at hp;split at hp
    .rename_i cs cY;split at hp
     .rename_i v' hv;cases hp;exact apn ao hr ho h1 hd h3 h2 cY hv
     cases hp
    cases hp
   cases hc
  cases hc
 · -- indexAddr
  rename_i t x i ho;split at hc
  .rename_i x' i' h1 h2;split at hc
   .rename_i e ht;simp only[dy] at hc;obtain⟨sz,h3,rfl⟩:=hc;have hu:u=[]/\rd=[]:=by
     simp only[bj] at hp;repeat' split at hp
     all_goals first
      |cases hp
      |skip
     all_goals exact⟨rfl,rfl⟩
    obtain⟨rfl,rfl⟩:=hu;exact apo ao hr ho ht h3 h1 h2 hp
   .rename_i n e ht;simp only[dy] at hc;obtain⟨sz,h3,rfl⟩:=hc;have hu:u=[]/\rd=[]:=by
     simp only[bj] at hp;repeat' split at hp
     all_goals first
      |cases hp
      |skip
     all_goals exact⟨rfl,rfl⟩
    obtain⟨rfl,rfl⟩:=hu;exact ao9 ao hr ho ht h3 h1 h2 hp
   cases hc
  cases hc
 · -- index
  rename_i t x i ho;split at hc
  .rename_i x' i' h1 h2;split at hc
   .rename_i n e ht;split at hc
    .rename_i sz k h3 h4;cases hc;simp only[bj] at hp;split at hp
     .rename_i n' cs e1 e2;split at hp
      .rename_i aq;split at hp
       .rename_i v' hv;cases hp;exact apa ao hr ho ht h3 h4 h1 h2 e1 aq e2 hv
       cases hp
      cases hp
     cases hp
    cases hc
   .rename_i ht;cases hc;simp only[bj] at hp;split at hp
    .rename_i n s e1 e2;split at hp
     .rename_i b hb;cases hp;exact apD ao hr ho ht h1 h2 e1 e2 hb
     cases hp
    cases hp
   cases hc
  cases hc
 · -- lookup
  rename_i t x k ok ho;split at hc
  .rename_i kt e x' k' h1 h2 h3;split at hc
   .rename_i z q h4 h5;split at hc
    .rename_i kd h6;split at hc
     .rename_i h7;cases hc;simp only[bj] at hp;split at hp
      .rename_i es r key e1 e2;split at hp
       .cases hp
       rename_i Aw;split at hp
       .rename_i f hf;split at hp
        .rename_i w hw;cases hp;exact aps ao hr ho h1 h4 h6 h7 h2 h3 e1 e2 (Classical.not_not.1 Aw) hf hw
        cases hp
       cases hp
      cases hp
     cases hc
    cases hc
   cases hc
  cases hc
 · -- mapUpdate
  rename_i t x k y ho;split at hc
  .rename_i kt e x' k' y' h1 h2 h3 h4;split at hc
   .rename_i q h5;simp only[dy] at hc;obtain⟨kd,h6,rfl⟩:=hc;exact acz ao hr (.inl ho) h1 h6 h2 h3 h4 hp
   cases hc
  cases hc
 · -- insert
  rename_i t x k y ho;split at hc
  .rename_i kt e x' k' y' h1 h2 h3 h4;split at hc
   .rename_i q h5;simp only[dy] at hc;obtain⟨kd,h6,rfl⟩:=hc;exact acz ao hr (.inr ho) h1 h6 h2 h3 h4 hp
   cases hc
  cases hc
 · -- extract
  rename_i x i ho;simp only[dy] at hc;obtain⟨y,h1,rfl⟩:=hc;simp only[bj] at hp;split at hp
  .rename_i vs qZ;split at hp
   .rename_i v' hv;cases hp;exact apl ao hr ho h1 qZ hv
   cases hp
  cases hp
 · -- call
  rename_i c ho;split at hc
  .rename_i f as h1 h2;simp only[dy] at hc;obtain⟨y,h3,rfl⟩:=hc;simp only[bj] at hp;repeat' split at hp
   all_goals cases hp
  .rename_i x h1 h2;obtain⟨x0,nI,pO⟩:=QW h2;split at hc
   .rename_i t ht;split at hc
    .rename_i hu;cases hc;simp only[bj] at hp;split at hp
     .rename_i s hs;cases hp;exact apE ao hr ho h1 nI ht hu pO hs
     cases hp
    .rename_i e hu;cases hc;simp only[bj] at hp;split at hp
     .rename_i n hn;cases hp;exact apq ao hr ho h1 nI ht hu pO hn
     cases hp
    .rename_i k e hu;cases hc;simp only[bj] at hp;split at hp
     .rename_i n r hn;cases hp;exact apy ao hr ho h1 nI ht hu pO hn
     cases hp
    cases hc
   cases hc
  .rename_i x y h1 h2;obtain⟨x0,y0,nI,pO,zJ⟩:=QX h2;split at hc
   .rename_i t u' ht hu;split at hc
    .rename_i e sz bytes z he;split at hc
     .rename_i qR;cases hc;obtain⟨rfl,hsz⟩:=qR;exact apc ao hr ho h1 nI (arq ht hu hsz) he pO zJ hp
     cases hc
    cases hc
   cases hc
  .rename_i x y h1 h2;obtain⟨x0,y0,nI,pO,zJ⟩:=QX h2;cases hc;simp only[bj] at hp;split at hp
   .rename_i k p k' q e1 e2;cases hp;exact apt ao hr ho h1 nI pO zJ e1 e2
   cases hp
  .rename_i x y h1 h2;obtain⟨x0,y0,nI,pO,zJ⟩:=QX h2;cases hc;simp only[bj] at hp;split at hp
   .rename_i k p k' q e1 e2;cases hp;exact apu ao hr ho h1 nI pO zJ e1 e2
   cases hp
  .rename_i x h1 h2;obtain⟨x0,nI,pO⟩:=QW h2;split at hc
   .rename_i t ht;simp only[dy] at hc;obtain⟨⟨e,sz,bytes,z⟩,h3,rfl⟩:=hc;exact apj ao hr ho h1 nI ht h3 pO hp
   cases hc
  cases hc
 cases hc
end
end Go.Abs
namespace Go.Abs
variable {P:Program} {w0:World}
section
variable{m:Mem}{cs:List C}
def afD(w:World)(Q:Nat->Prop)(ty sz:Nat)(es:List (List PV))(c:Nat)(v:Value):Prop:=∃cap cur,v=.slice (some ⟨c,0,none⟩) es.length cap/\w.heap[c]?=some (.cells cur ty (0,0))/\0<sz/\(∀e∈es,e.length=sz)/\es.length<=cap/\cap<=maxLen/\cur.size=cap*sz/\cX w Q es.flatten (cur.toList.take (es.length*sz))
def rD(w:World)(Q:Nat->Prop):List RC->List Value->List Nat->Prop
 |[],vs,bs=>vs=[]/\bs=[]
 | .p x::r,vs,bs=>∃v mQ,vs=v::mQ/\bU w Q x v/\rD w Q r mQ bs
 | .own ty sz es::r,vs,bs=>∃v mQ c BN,vs=v::mQ/\bs=c::BN/\afD w Q ty sz es c v/\rD w Q r mQ BN
theorem rD.mono{w w':World}{Q Q':Nat->Prop}(hk:∀c,c<w.heap.size-> ¬Q c->w'.heap[c]?=w.heap[c]? /\ ¬Q' c):∀ {rs:List RC} {vs:List Value} {bs:List Nat},(∀c∈bs,w'.heap[c]?=w.heap[c]?)->rD w Q rs vs bs->rD w' Q' rs vs bs:=by
 intro rs
 induction rs with
 |nil=>intro vs bs _ h;exact h
 |cons r rs ih=>
  intro vs bs hb h;cases r with
  |p x=>obtain⟨v,mQ,rfl,h1,h2⟩:=h;exact⟨v,mQ,rfl,h1.mono hk,ih hb h2⟩
  |own ty sz es=>obtain⟨v,mQ,c,BN,rfl,rfl,⟨cap,cur,e1,e2,e3,e4,e5,e6,e7,e8⟩,h2⟩:=h;exact⟨v,mQ,c,BN,rfl,rfl,⟨cap,cur,e1,by rw[hb c af];exact e2,e3,e4,e5,e6,e7,e8.mono hk⟩,ih (fun c hc=>hb c (by simp[hc])) h2⟩
theorem rD.less{w:World}{Q Q':Nat->Prop}(h:∀b,Q' b->Q b){rs:List RC}{vs:List Value}{bs:List Nat}(hr:rD w Q rs vs bs):rD w Q' rs vs bs:=hr.mono (fun c _ hn=>⟨rfl,fun hq=>hn (h c hq)⟩) (fun _ _=>rfl)
theorem apV(ao:Ok w0 m){Q:Nat->Prop}(hQ:∀b,Q b->m.own b){c:C}{x:PV}{q:List Nat}{v:Value}(h:snap m.blk dO c=some (x,q))(hr:cN m c v)(hs:∀id∈q,¬Q (m.σ id)):bU m.w Q x v:=JT ao dO h hr ⟨hQ,hs⟩
theorem ac5(ao:Ok w0 m){Q:Nat->Prop}(hQ:∀b,Q b->m.own b):∀ {cs:List C} {rs:List RC} {o q:List Nat} {vs:List Value},mN m.blk cs=some (rs,o,q)->df m cs vs->(∀id∈q,¬Q (m.σ id))->
  rD m.w Q rs vs (o.map m.σ)/\ ∀id∈o,∃ob,(m.blk id).2=some ob/\ob.fD=true:=by
 intro cs
 induction cs with
 |nil=>
  intro rs o q vs h hr _;simp only[mN,fg,kY] at h;obtain⟨rfl,rfl,rfl⟩:=h;have:vs=[]:=by have:=hr.1;simpa using this
  exact⟨⟨this,rfl⟩,fun id h=>by simp at h⟩
 |cons c cs ih=>
  intro rs o q vs h hr hq;simp only[mN] at h;split at h
  .rename_i x o1 q1 xs os qs h1 h2;cases h;cases vs with
   |nil=>simp[df] at hr
   |cons v vs=>
    obtain⟨i1,i2⟩:=ih (vs:=vs) h2 ⟨by have:=hr.1;simpa using this,fun j x u a b=>hr.2 (j+1) x u (by simpa using a) (by simpa using b)⟩ (fun id hid=>hq id (by simp[hid]));have hc:cN m c v:=hr.2 0 c v rfl rfl;have snapcase:∀ {y:PV},(snap m.blk dO c).map (fun(v,r)=>((.p v:RC),([]:List Nat),r))=some (x,o1,q1)->rD m.w Q (x::xs) (v::vs) ((o1++os).map m.σ)/\ ∀id∈o1++os,∃ob,(m.blk id).2=some ob/\ob.fD=true:=by intro _ h1;simp only[dy] at h1;obtain⟨⟨y,r⟩,h3,h4⟩:=h1;cases h4;exact⟨⟨v,vs,rfl,apV ao hQ h3 hc (fun id hid=>hq id (by simp[hid])),i1⟩,i2⟩
    unfold lG at h1;split at h1
    .rename_i y;cases h1;have hy:bU m.w m.own y v:=by cases hc with|p h=>exact h
     exact⟨⟨v,vs,rfl,hy.less hQ,i1⟩,i2⟩
    .rename_i id g z len;split at h1
     .rename_i g' ty sz es hb;split at h1
      .rename_i qR;obtain⟨rfl,hlen⟩:=qR;cases h1;have Ly:(m.blk id).2=some (.arr ty sz es):=by rw[hb]
       obtain⟨cur,hh,ff,hsz,hl,sa,cY,dh⟩:=ao.obj id _ Ly;cases hc with
       |hsl ad cap hg vh IT Md=>
        obtain⟨f1,f2,f3⟩:=Md sz (by rw[hb]) (by rw[hb];rfl);have nv:=f2 (.inl rfl);have hcap:cap=m.κ id:=by rw[<- f3,jc]
        rw[yL] at nv;subst nv;subst hcap;have aq:(es.take len).length=len:=by simp;omega
        refine⟨⟨_,vs,m.σ id,os.map m.σ,rfl,rfl,⟨m.κ id,cur,by rw[aq],hh,ff,fun e he=>hsz e (vP he),by rw[aq];exact vh,sa,cY,?_⟩,i1⟩,?_⟩
        .rw[aq,Im hsz];have h1:=(cX.pw.1 dh).take (len*sz);rw[List.take_take,yK (lL _ hlen)] at h1;exact(cX.pw.2 h1).less hQ
        intro j hj;simp only[mq,gZ,cT] at hj;rcases hj with rfl|hj
        .exact⟨_,Ly,rfl⟩
        exact i2 j hj
      cases h1
     exact snapcase (y:=.xg) h1
    exact snapcase (y:=.xg) h1
  cases h
theorem abz:∀(rs:List RC) (site:Nat) (b b':aB),(∀s,site<=s->(b s).1=(b' s).1)->jW b site rs=jW b' site rs:=by
 intro rs
 induction rs with
 |nil=>intro site b b' _;rfl
 |cons r rs ih=>
  intro site b b' h;have h1:dN b site r=dN b' site r:=by
   cases r with
   |p x=>rfl
   |own ty sz es=>simp only[dN,h site (aZ _)]
  simp only[jW,h1,ih (site+1) b b' (fun s hs=>h s aa)]
theorem alD{s c k:Nat}{o:Ob}(hc:m.fr c):uw m (m.install s c k o) where
 own x _ hn:=⟨rfl,fun h=>hn (Pd hc h)⟩
 gen id:=by
  simp only[Mem.install,aS];split
  .rename_i e;subst e;exact Nat.le_succ _
  exact aZ _
 ref id hg hs:=by
  simp only[Mem.install,aS] at hg hs ⊢;split at hg
  .rename_i e;subst e;simp at hg
  rename_i e;simp only[if_neg e] at hs ⊢;exact⟨hs,trivial,trivial,trivial⟩
theorem uw.trans{a b c:Mem}(h:uw a b)(hs:a.w.heap.size<=b.w.heap.size)(k:uw b c):uw a c where
 own x hx hn:=by have h1:=h.own x hx hn;have h2:=k.own x (Dm hx hs) h1.2;exact⟨h2.1.trans h1.1,h2.2⟩
 gen id:=mU (h.gen id) (k.gen id)
 ref id he AP:=by have h1:=h.gen id;have h2:=k.gen id;obtain⟨s1,e1,e2,e3⟩:=k.ref id aa AP;obtain⟨s2,f1,f2,f3⟩:=h.ref id aa s1;exact⟨s2,e1.trans f1,e2.trans f2,e3.trans f3⟩
theorem alm{MO:Mem}:∀ {rs:List RC} {vs:List Value} {bs:List Nat} {site:Nat} {m:Mem},Ok w0 m->rD m.w m.own rs vs bs->bs.Nodup->(∀c∈bs,m.fr c/\w0.heap.size<=c)->Ev MO m->(∀c∈bs,MO.w.heap.size<=c\/MO.fD c)->
  ∃m',m'.w=m.w/\Ok w0 m'/\Ev MO m'/\uw m m'/\(∀c,m'.fr c↔m.fr c/\c∉bs)/\m'.blk=app (jW m.blk site rs).2 m.blk/\df m' (jW m.blk site rs).1 vs:=by
 intro rs
 induction rs with
 |nil=>intro vs bs site m ao h _ _ dD _;obtain⟨rfl,rfl⟩:=h;exact⟨m,rfl,ao,dD,⟨fun c _ h=>⟨rfl,h⟩,fun _=>aZ _,fun _ _ h=>⟨h,rfl,rfl,rfl⟩⟩,fun c=>af,rfl,rfl,fun j x u h=>by simp[jW] at h⟩
 |cons r rs ih=>
  intro vs bs site m ao h im qq dD Gd;have cons:∀ {m':Mem} {x:C} {xs:List C} {v:Value} {vs:List Value},cN m' x v->df m' xs vs->df m' (x::xs) (v::vs):=by
   intro m' x xs v vs h1 h2;refine⟨by simp[h2.1],fun j y u a b=>?_⟩;cases j with
   |zero=>simp at a b;subst a b;exact h1
   |succ j=>simp at a b;exact h2.2 j y u a b
  cases r with
  |p x=>obtain⟨v,mQ,rfl,h1,h2⟩:=h;obtain⟨m',e1,e2,e3,e4,e5,e6,e7⟩:=ih (site:=site+1) ao h2 im qq dD Gd;exact⟨m',e1,e2,e3,e4,e5,by simpa [jW,dN] using e6,by simpa [jW,dN] using cons (cN.p (h1.ev e4)) e7⟩
  |own ty sz es=>
   obtain⟨v,mQ,c,BN,rfl,rfl,⟨cap,cur,q1,q2,q3,q4,q5,q6,q7,q8⟩,h2⟩:=h;have hfc:=(qq c af).1;have h0:=alD (s:=site) (k:=cap) (o:=.arr ty sz es) hfc;have hσ:(m.install site c cap (.arr ty sz es)).σ site=c:=by simp[Mem.install,aS]
   have hκ:(m.install site c cap (.arr ty sz es)).κ site=cap:=by simp[Mem.install,aS]
   have nA:Ok w0 (m.install site c cap (.arr ty sz es)):=Pb ao hfc (qq c af).2
    ⟨cur,by rw[hσ];exact q2,q3,q4,by rw[hκ];exact q5,by rw[hκ];exact q6,by rw[hκ];exact q7,cX.ev h0 q8⟩
   have abf:=nY.1 im;obtain⟨m',e1,e2,e3,e4,e5,e6,e7⟩:=ih (site:=site+1) (m:=m.install site c cap (.arr ty sz es)) nA (h2.less fun b hb=>Pd hfc hb) abf.2
    (fun d hd=>⟨⟨(qq d (by simp[hd])).1,fun e=>abf.1 (e▸hd)⟩,(qq d (by simp[hd])).2⟩) (Pa dD hfc (Gd c af)) (fun d hd=>Gd d (by simp[hd]))
   have Ua:jW (m.install site c cap (.arr ty sz es)).blk (site+1) rs=jW m.blk (site+1) rs:=abz _ _ _ _ fun s hs=>by simp only[Mem.install,aS];rw[if_neg aa]
   rw[Ua] at e6 e7;refine⟨m',e1,e2,e3,h0.trans (aZ _) e4,fun d=>?_,?_,?_⟩
   .rw[e5 d];simp only[Mem.install,cT,not_or];exact⟨fun⟨⟨a,b⟩,c⟩=>⟨a,b,c⟩,fun⟨a,b,c⟩=>⟨⟨a,b⟩,c⟩⟩
   .rw[e6];rfl
   refine cons ?_ e7;have:cN (m.install site c cap (.arr ty sz es)) (.hsl site ((m.blk site).1+1) sz 0 es.length) v:=by
    rw[q1];refine .hsl _ _ ?_ q5 q6 fun z h1 h2=>?_
    .simp[Mem.install,aS]
    have hz:kz ((m.install site c cap (.arr ty sz es)).blk site)=some sz:=by simp[Mem.install,aS,kz]
    rw[hz] at h2;cases h2;exact⟨rfl,fun _=>by rw[hσ,yL],by rw[jc];exact hκ.symm⟩
   exact this.ev e4
def xA:RV->Value->List Value->Prop
 | .one _,v,vs=>vs=[v]
 | .agg l,v,vs=>v=.agg vs.toArray/\vs.length=l.length
 | .tup _,_,_=>False
def Dp:List RV->List Value->List Value->Prop
 |[],us,vs=>us=[]/\vs=[]
 |r::rs,us,vs=>∃u Nv a b,us=u::Nv/\vs=a++b/\xA r u a/\Dp rs Nv b
def Fo:RV->Value->List Value->Prop
 | .tup rs,v,vs=>∃arr,v=.tuple arr/\Dp rs arr.toList vs
 |r,v,vs=>xA r v vs
theorem df.take{vs:List Value}(h:df m cs vs)(n:Nat):df m (cs.take n) (vs.take n):=df.pw.2 ((df.pw.1 h).take n)
theorem df.drop{vs:List Value}(h:df m cs vs)(n:Nat):df m (cs.drop n) (vs.drop n):=df.pw.2 ((df.pw.1 h).drop n)
theorem df.append{ds:List C}{vs us:List Value}(h:df m cs vs)(k:df m ds us):df m (cs++ds) (vs++us):=df.pw.2 ((df.pw.1 h).append (df.pw.1 k))
theorem df.single{c:C}{v:Value}(h:cN m c v):df m [c] [v]:=⟨rfl,fun j x u a b=>by
 rcases j with _|j
 .simp at a b;subst a b;exact h
 simp at a⟩
theorem aaf{v:V}{val:Value}(h:oa v=some cs)(hr:n0 m v val):
  ∃vs,df m cs vs/\ ∀(rs tl:List RC),rs.length=cs.length->(ti v (rs++tl)).2=tl/\kD (ti v (rs++tl)).1=rs/\xA (ti v (rs++tl)).1 val vs:=by
 cases v with
 |undef=>simp[oa] at h
 |tup vs=>simp[oa] at h
 |one c=>
  simp only[oa,fg] at h;subst h;refine⟨[val],df.single hr,fun rs tl hl=>?_⟩
  match rs,hl with
  |[r],_=>exact⟨rfl,rfl,rfl⟩
 |agg ds=>
  simp only[oa,fg] at h;subst h;obtain⟨arr,rfl,hc⟩:=hr;refine⟨arr.toList,hc,fun rs tl hl=>?_⟩;have h1:(rs++tl).take ds.length=rs:=by rw[<- hl];exact List.take_left
  have h2:(rs++tl).drop ds.length=tl:=by rw[<- hl];exact List.drop_left
  simp only[ti,kD,xA,h1,h2,true_and];rw[hc.1,hl]
theorem ajp:∀ {ws:List V} {cs:List C} {vals:List Value},wA ws=some cs->Pw (n0 m) ws vals->
  ∃vs,df m cs vs/\ ∀(rs:List RC),rs.length=cs.length->rU (CU ws rs)=rs/\Dp (CU ws rs) vals vs:=by
 intro ws
 induction ws with
 |nil=>
  intro cs vals h hr;simp only[wA,fg] at h;subst h;have hv:vals=[]:=by have:=hr.1;simpa using this
  subst hv;refine⟨[],⟨rfl,fun j x u a=>by simp at a⟩,fun rs hl=>?_⟩;have:rs=[]:=by simpa using hl
  subst this;exact⟨rfl,rfl,rfl⟩
 |cons w ws ih=>
  intro cs vals h hr;simp only[wA] at h;split at h
  .rename_i a b h1 h2;cases h;cases vals with
   |nil=>have:=hr.1;simp at this
   |cons val vals=>
    obtain⟨vs1,fG,fL⟩:=aaf h1 (hr.2 0 w val rfl rfl);obtain⟨vs2,qP,eH⟩:=ih (vals:=vals) h2 ⟨by have:=hr.1;simpa using this,fun j x u p q=>hr.2 (j+1) x u (by simpa using p) (by simpa using q)⟩;refine⟨vs1++vs2,fG.append qP,fun rs hl=>?_⟩;have r9:rs.length=a.length+b.length:=by simpa using hl
    obtain⟨p1,p2,p3⟩:=fL (rs.take a.length) (rs.drop a.length) (by simp;omega);rw[lX] at p1 p2 p3;obtain⟨q1,q2⟩:=eH (rs.drop a.length) (by simp;omega);simp only[CU,rU,p1,p2,q1,Dp];exact⟨lX _ _,val,vals,vs1,vs2,rfl,rfl,p3,q2⟩
  cases h
theorem ajo{v:V}{val:Value}(h:tL v=some cs)(hr:bN m v val):
  ∃vs,df m cs vs/\ ∀(rs:List RC),rs.length=cs.length->jS (vE v rs)=rs/\Fo (vE v rs) val vs:=by
 have one:∀ {v:V},oa v=some cs->n0 m v val->(∀rs,vE v rs=(ti v rs).1)->∃vs,df m cs vs/\ ∀(rs:List RC),rs.length=cs.length->jS (vE v rs)=rs/\Fo (vE v rs) val vs:=by
  intro v h hr he;obtain⟨vs,h1,h2⟩:=aaf h hr;refine⟨vs,h1,fun rs hl=>?_⟩;obtain⟨_,p2,p3⟩:=h2 rs [] hl;rw[oN] at p2 p3;rw[he];generalize (ti v rs).1=y at p2 p3;cases y with
  |tup _=>exact p3.elim
  |one c=>exact⟨p2,p3⟩
  |agg c=>exact⟨p2,p3⟩
 cases v with
 |tup ws=>obtain⟨arr,rfl,hs,hc⟩:=hr;obtain⟨vs,h1,h2⟩:=ajp (m:=m) (vals:=arr.toList) h ⟨by simpa using hs,fun j x u a b=>hc j x u a (by simpa using b)⟩;exact⟨vs,h1,fun rs hl=>⟨(h2 rs hl).1,arr,rfl,(h2 rs hl).2⟩⟩
 |undef=>simp[tL,oa] at h
 |one c=>exact one h hr fun _=>rfl
 |agg c=>exact one h hr fun _=>rfl
theorem VN{r:RV}{val:Value}{a b:List Value}(hf:xA r val a)(hc:df m cs (a++b)):n0 m (oE r cs).1 val/\df m (oE r cs).2 b:=by
 cases r with
 |tup _=>exact hf.elim
 |one c=>
  have hf:a=[val]:=hf;subst hf;cases cs with
  |nil=>have:=hc.1;simp at this
  |cons x xs=>exact⟨hc.2 0 x val rfl rfl,by have:=hc.drop 1;simpa [oE] using this⟩
 |agg l=>
  obtain⟨rfl,hl⟩:=hf;refine⟨⟨_,rfl,?_⟩,?_⟩
  .have:=hc.take l.length;rw[<- hl,List.take_left] at this
   simpa [oE,hl] using this
  have:=hc.drop l.length;rw[<- hl,List.drop_left] at this
  simpa [oE,hl] using this
theorem aoD:∀ {rs:List RV} {cs:List C} {us vs:List Value},Dp rs us vs->df m cs vs->Pw (n0 m) (uO rs cs) us:=by
 intro rs
 induction rs with
 |nil=>intro cs us vs h _;obtain⟨rfl,rfl⟩:=h;exact⟨rfl,fun j x u a=>by simp[uO] at a⟩
 |cons r rs ih=>
  intro cs us vs h hc;obtain⟨u,Nv,a,b,rfl,rfl,h1,h2⟩:=h;obtain⟨p1,p2⟩:=VN h1 hc;have p3:=ih h2 p2;refine⟨by simp[uO,p3.1],fun j x v q1 q2=>?_⟩;cases j with
  |zero=>simp[uO] at q1 q2;subst q1 q2;exact p1
  |succ j=>simp[uO] at q1 q2;exact p3.2 j x v q1 q2
theorem aoC{r:RV}{val:Value}{vs:List Value}(hf:Fo r val vs)(hc:df m cs vs):bN m (ue r cs) val:=by
 cases r with
 |tup rs=>obtain⟨arr,rfl,h⟩:=hf;have:=aoD h hc;exact⟨arr,rfl,by simpa using this.1,fun j x u a b=>this.2 j x u a (by simpa using b)⟩
 |one c=>have:=(VN (b:=[]) (show xA (.one c) val vs from hf) (by simpa using hc)).1;exact bN.of1 this
 |agg c=>have:=(VN (b:=[]) (show xA (.agg c) val vs from hf) (by simpa using hc)).1;exact bN.of1 this
end
end Go.Abs
namespace Go.Abs
section
variable{b':aB}{site:Nat}{v:V}{cs:j8}{sh:Ctx}{aj:Env}{cp:fO}
def jq(ids:List Nat)(b b':aB):Prop:=∀id∈ids,b' id=b id
def sI(ts:List Nat)(e e':Env):Prop:=∀t∈ts,e' t=e t
theorem jq.left{x y:List Nat}{b:aB}(h:jq (x++y) b b'):jq x b b':=fun i hi=>h i (by simp[hi])
theorem jq.right{x y:List Nat}{b:aB}(h:jq (x++y) b b'):jq y b b':=fun i hi=>h i (by simp[hi])
theorem sI.left{x y:List Nat}{b b':Env}(h:sI (x++y) b b'):sI x b b':=fun i hi=>h i (by simp[hi])
theorem sI.right{x y:List Nat}{b b':Env}(h:sI (x++y) b b'):sI y b b':=fun i hi=>h i (by simp[hi])
section
variable {e e':Env}
theorem fe{a:aP}(h:sI a.tmps e e'):ev e' a=ev e a:=by
 cases a with
 |t n=>exact h n (by simp[aP.tmps])
 |_=>rfl
theorem aiN:∀ {as:List aP},sI (Ff as) e e'->as.map (ev e')=as.map (ev e):=by
 intro as
 induction as with
 |nil=>intro _;rfl
 |cons a r ih=>intro h;simp only[dG];rw[fe h.left,ih h.right]
theorem ac1:∀ {as:List aP},sI (Ff as) e e'->vB e' as=vB e as:=by
 intro as
 induction as with
 |nil=>intro _;rfl
 |cons a r ih=>intro h;simp only[vB];rw[fe h.left,ih h.right]
theorem aiB{sz:Nat}:∀ {as:List aP},sI (Ff as) e e'->ze e' sz as=ze e sz as:=by
 intro as
 induction as with
 |nil=>intro _;rfl
 |cons a r ih=>intro h;simp only[ze];rw[fe h.left,ih h.right]
theorem anh:∀ {as:List (Nat×Nat×aP)},sI (Wh as) e e'->yv e' as=yv e as:=by
 intro as
 induction as with
 |nil=>intro _;rfl
 |cons a r ih=>intro h;obtain⟨x,y,a⟩:=a;simp only[yv];rw[fe h.left,ih h.right]
theorem NX{d:Nat}{a:Option aP}(h:sI (Wg a) e e'):rH e' d a=rH e d a:=by
 cases a with
 |none=>rfl
 |some a=>simp only[rH];rw[fe h]
theorem ajt{a:aP}(h:sI a.tmps e e'):DJ e' a=DJ e a:=by unfold DJ;rw[fe h]
theorem Vs{sh:Nat->Bool}{blk:aB}{p:oR}(h:sI p.tmps e e'):bj sh e' blk p=bj sh e blk p:=by
 cases p with
 |Jp x=>simp only[bj,fe (a:=x) h]
 |pick c a b=>simp only[bj,fe (a:=c) h.left.left,fe (a:=a) h.left.right,fe (a:=b) h.right]
 |alloc s z=>rfl
 |box s x=>simp only[bj,fe (a:=x) h]
 |build z ps=>simp only[bj,anh (as:=ps) h]
 |HK s ty sz ps=>simp only[bj,aiB (as:=ps) h]
 |load k x=>simp only[bj,fe (a:=x) h]
 |store n a x=>simp only[bj,fe (a:=a) h.left,fe (a:=x) h.right]
 |Jv x=>simp only[bj,fe (a:=x) h]
 |bin op x y=>simp only[bj,fe (a:=x) h.left,fe (a:=y) h.right]
 |eqc k n x y=>simp only[bj,fe (a:=x) h.left,fe (a:=y) h.right]
 |un op x=>simp only[bj,fe (a:=x) h]
 |conv k x=>simp only[bj,fe (a:=x) h]
 |bstr x=>simp only[bj,fe (a:=x) h]
 |mkfn f a b=>simp only[bj,ac1 (as:=a) h.left,ac1 (as:=b) h.right]
 |mkmap s ag=>rfl
 |Jo s ty sz bytes z l c=>simp only[bj,fe (a:=l) h.left,fe (a:=c) h.right]
 |slice sz x lo hi=>simp only[bj,fe (a:=x) h.left.left,NX (a:=lo) h.left.right,NX (a:=hi) h.right]
 |sslice x lo hi=>simp only[bj,fe (a:=x) h.left.left,NX (a:=lo) h.left.right,NX (a:=hi) h.right]
 |Ik off x=>simp only[bj,fe (a:=x) h]
 |Ja sz x i=>simp only[bj,fe (a:=x) h.left,fe (a:=i) h.right]
 |Hw l sz x i=>simp only[bj,fe (a:=x) h.left,fe (a:=i) h.right]
 |fld off k x=>simp only[bj,fe (a:=x) h]
 |aidx l sz k x i=>simp only[bj,fe (a:=x) h.left,fe (a:=i) h.right]
 |sidx x i=>simp only[bj,fe (a:=x) h.left,fe (a:=i) h.right]
 |lookup kd z ag ok x k=>simp only[bj,fe (a:=x) h.left,fe (a:=k) h.right]
 |mupd kd ag m k v=>simp only[bj,fe (a:=m) h.left.left,fe (a:=k) h.left.right,fe (a:=v) h.right]
 |bad=>rfl
 |extract x i=>simp only[bj,fe (a:=x) h]
 |call s f as=>simp only[bj,ajt (a:=f) h.left,aiN (as:=as) h.right]
 |slen x=>simp only[bj,fe (a:=x) h]
 |ML x=>simp only[bj,fe (a:=x) h]
 |mlen x=>simp only[bj,fe (a:=x) h]
 |append s ty sz b x y=>simp only[bj,fe (a:=x) h.left,fe (a:=y) h.right]
 |max x y=>simp only[bj,fe (a:=x) h.left,fe (a:=y) h.right]
 |min x y=>simp only[bj,fe (a:=x) h.left,fe (a:=y) h.right]
 |clear z x=>simp only[bj,fe (a:=x) h]
end
section
variable {b b':aB}
theorem xJ{α β:Type}{f g:α->Option (β×List Nat)}(hf:∀x y r,f x=some (y,r)->jq r b b'->g x=some (y,r)):∀ {xs:List α} {ys:List β} {r:List Nat},collect f xs=some (ys,r)->jq r b b'->collect g xs=some (ys,r):=by
 intro xs
 induction xs with
 |nil=>intro ys r h _;exact h
 |cons x xs ih=>
  intro ys r h ha;simp only[collect] at h ⊢;split at h
  .rename_i y p bs q e1 e2;cases h;rw[hf _ _ _ e1 ha.left,ih e2 ha.right]
  cases h
theorem Nl:∀(n:Nat) (c:C) (x:PV) (r:List Nat),snap b n c=some (x,r)->jq r b b'->snap b' n c=some (x,r):=by
 intro n
 induction n with
 |zero=>intro c x r h;simp[snap] at h
 |succ n ih=>
  intro c x r h ha;cases c with
  |p v=>exact h
  |bt id g off=>
   have hid:id∈r:=by
    simp only[snap] at h
    (repeat' split at h)<;>first
     |cases h
     |skip
    all_goals simp
   have hb:=ha id hid;simp only[snap] at h ⊢;rw[hb];split at h
   .split at h
    .rename_i hg;rw[if_pos hg];split at h
     .rename_i hc;cases h;rw[xJ ih hc (fun i hi=>ha i (by simp[hi]))]
     cases h
    cases h
   .exact h
   cases h
  |di id g i off=>
   have hid:id∈r:=by
    simp only[snap,dy] at h
    (repeat' split at h)<;>first
     |cases h
     |skip
    all_goals(simp only[dy] at h;obtain⟨e,_,h⟩:=h;cases h;simp)
   have hb:=ha id hid;simp only[snap] at h ⊢;rw[hb];exact h
  |hsl id g z off len=>
   have hid:id∈r:=by
    simp only[snap] at h
    (repeat' split at h)<;>first
     |cases h
     |skip
    all_goals simp
   have hb:=ha id hid;simp only[snap] at h ⊢;rw[hb];split at h
   .exact h
   .exact h
   .split at h
    .rename_i hg;rw[if_pos hg];split at h
     .rename_i hc;cases h;rw[xJ (fun _ _ _ p q=>xJ ih p q) hc (fun i hi=>ha i (by simp[hi]))]
     cases h
    cases h
   cases h
  |k9 id g=>
   have hid:id∈r:=by
    simp only[snap] at h
    (repeat' split at h)<;>first
     |cases h
     |skip
    all_goals simp
   have hb:=ha id hid;simp only[snap] at h ⊢;rw[hb];exact h
  |hfn f x y=>
   simp only[snap] at h ⊢;split at h
   .rename_i h1 h2;cases h;rw[xJ ih h1 ha.left,xJ ih h2 ha.right]
   cases h
theorem apX(x y:V)(r:List Nat)(h:nT b x=some (y,r))(ha:jq r b b'):nT b' x=some (y,r):=by
 cases x with
 |undef=>simp[nT] at h
 |tup _=>simp[nT] at h
 |one c=>simp only[nT,dy] at h ⊢;obtain⟨⟨p,q⟩,h1,h2⟩:=h;cases h2;exact⟨_,Nl _ _ _ _ h1 ha,rfl⟩
 |agg cs=>simp only[nT,dy] at h ⊢;obtain⟨⟨p,q⟩,h1,h2⟩:=h;cases h2;exact⟨_,xJ (Nl _) h1 ha,rfl⟩
theorem apZ{xs ys:List V}{r:List Nat}(h:Bg b xs=some (ys,r))(ha:jq r b b'):Bg b' xs=some (ys,r):=xJ apX h ha
theorem ajz{all:List Nat}{id:Nat}{u:List eO}(h:xL b all id=some u)(hid:id∈all)(ha:jq all b b'):xL b' all id=some u:=by
 have hb:=ha id hid;unfold xL at h ⊢;rw[hb];split at h
 .split at h
  .rename_i ps r hc;split at h
   .rename_i hr;have qB:jq r b b':=fun i hi=>ha i (by have:=iC.1 hr i hi;simpa using this);rw[xJ (Nl _) hc qB];simp only;rw[if_pos hr];exact h
   cases h
  cases h
 .exact h
 .split at h
  .rename_i ps r hc;split at h
   .rename_i hr;have qB:jq r b b':=fun i hi=>ha i (by have:=iC.1 hr i hi;simpa using this);rw[xJ (fun _ _ _ p q=>xJ (Nl _) p q) hc qB];simp only;rw[if_pos hr];exact h
   cases h
  cases h
 .exact h
 .cases h
 exact h
theorem ajA{all:List Nat}(ha:jq all b b'):∀ {ids:List Nat} {u:List eO},(∀i∈ids,i∈all)->rV b all ids=some u->rV b' all ids=some u:=by
 intro ids
 induction ids with
 |nil=>intro u _ h;exact h
 |cons i r ih=>
  intro u hs h;simp only[rV] at h ⊢;split at h
  .rename_i x y h1 h2;cases h;rw[ajz h1 (hs i af) ha,ih (fun j hj=>hs j (by simp[hj])) h2]
  cases h
theorem Ir{ids:List Nat}{u:List eO}(h:qN b ids=some u)(ha:jq ids b b'):qN b' ids=some u:=ajA ha (fun _ h=>h) h
theorem alj{r:RC}(h:jq ((dN b site r).2.map (·.1)) b b'):dN b' site r=dN b site r:=by
 cases r with
 |p x=>rfl
 |own ty sz es=>simp only[dN];rw[h site (by simp[dN])]
theorem alk:∀ {rs:List RC} {site:Nat},jq ((jW b site rs).2.map (·.1)) b b'->jW b' site rs=jW b site rs:=by
 intro rs
 induction rs with
 |nil=>intro site _;rfl
 |cons r rs ih=>intro site h;simp only[jW,iS] at h ⊢;rw[alj h.left,ih h.right]
theorem abA{r:RV}(h:jq ((kN b site r).2.map (·.1)) b b'):kN b' site r=kN b site r:=by unfold kN at h ⊢;simp only at h;rw[alk h]
theorem alX{rd:List Nat}{r:RV}{u:List eO}(h:land b rd site r=some (v,u))(ha:jq rd b b')(hu:jq (u.map (·.1)) b b'):land b' rd site r=some (v,u):=by
 unfold land at h ⊢;split at h
 .rename_i hc;rw[if_pos hc];cases h;rw[abA hu];rfl
 rename_i hc;rw[if_neg hc];split at h
 .rename_i fu hf;cases h;rw[Ir hf ha];simp only;rw[iS] at hu;rw[abA hu.right]
 cases h
theorem adD{x:V}{cs:List C}{r:List Nat}(h:Bc b x=some (cs,r))(ha:jq r b b'):Bc b' x=some (cs,r):=by
 have key:∀id,(id∈r->b' id=b id):=fun id hid=>ha id hid;unfold Bc at h ⊢;split at h
 .exact h
 .rename_i id g off;have hid:id∈r:=by
   (repeat' split at h)<;>first
    |cases h
    |skip
   all_goals simp
  simp only[key id hid];exact h
 .rename_i id g i off;have hid:id∈r:=by
   (repeat' split at h)<;>first
    |cases h
    |skip
   all_goals(simp only[dy] at h;obtain⟨e,_,h⟩:=h;cases h;simp)
  simp only[key id hid];exact h
 cases h
theorem ami{x:V}{n:Nat}{r:List Nat}(h:AU b x=some (n,r))(ha:jq r b b'):AU b' x=some (n,r):=by
 have key:∀id,(id∈r->b' id=b id):=fun id hid=>ha id hid;unfold AU at h ⊢;split at h
 .exact h
 .exact h
 .rename_i id g;have hid:id∈r:=by
   (repeat' split at h)<;>first
    |cases h
    |skip
   all_goals simp
  simp only[key id hid];exact h
 cases h
theorem amE{ag:Bool}{x:V}{es:List (PV×List PV)}{r:List Nat}(h:mapOf b ag x=some (es,r))(ha:jq r b b'):mapOf b' ag x=some (es,r):=by
 have key:∀id,(id∈r->b' id=b id):=fun id hid=>ha id hid;unfold mapOf at h ⊢;split at h
 .exact h
 .exact h
 .rename_i id g;have hid:id∈r:=by
   (repeat' split at h)<;>first
    |cases h
    |skip
   all_goals simp
  simp only[key id hid];exact h
 cases h
theorem Ii{x:V}{es:List (List PV)}{r fr:List Nat}(h:eT b x=some (es,r,fr))(ha:jq r b b')(hf:jq fr b b'):eT b' x=some (es,r,fr):=by
 have key:∀id,(id∈r->b' id=b id):=fun id hid=>ha id hid;unfold eT at h ⊢;split at h
 .exact h
 .exact h
 .rename_i id g z off len;have hid:id∈r:=by
   (repeat' split at h)<;>first
    |cases h
    |skip
   all_goals simp
  simp only[key id hid];split at h
  .exact h
  .exact h
  .split at h
   .rename_i hc;rw[if_pos hc];split at h
    .rename_i h1;cases h;rw[xJ (fun _ _ _ p q=>xJ (Nl _) p q) h1 hf]
    cases h
   cases h
  exact h
 cases h
theorem arV{a:V}{n:Nat}{xs:List C}{u:List eO}{r:List Nat}(h:Ab b a n xs=.done v u r)(ha:jq r b b'):Ab b' a n xs=.done v u r:=by
 have key:∀id,(id∈r->b' id=b id):=fun id hid=>ha id hid;unfold Ab at h ⊢;split at h
 .cases h
 rename_i hn;rw[if_neg hn];split at h
 .rename_i id g off;have hid:id∈r:=by
   (repeat' split at h)<;>first
    |cases h
    |skip
   all_goals simp
  simp only[key id hid];exact h
 .rename_i id g i off;have hid:id∈r:=by
   (repeat' split at h)<;>first
    |cases h
    |skip
   all_goals simp
  simp only[key id hid];exact h
 cases h
theorem agj{ty sz bytes:Nat}{s x:V}{u:List eO}{r:List Nat}(h:fj b site ty sz bytes s x=.done v u r)(ha:jq r b b'):fj b' site ty sz bytes s x=.done v u r:=by
 unfold fj at h ⊢;split at h
 .cases h
 rename_i new rd fr di;split at h
 .cases h
 rename_i hsz;split at h
 .cases h
 rename_i fu qw;have sub:∀ {l:List Nat},(∀i∈l,i∈r)->jq l b b':=fun hl i hi=>ha i (hl i hi);split at h
 .split at h
  .rename_i hn;cases h;rw[Ii di ha.left ha.right];simp only;rw[if_neg hsz,Ir qw ha.right];simp only;rw[if_pos hn]
  rename_i hn;split at h
  .rename_i hr;cases h;rw[Ii di (sub fun i hi=>by simp[hi]) (sub fun i hi=>by simp[hi])];simp only;rw[if_neg hsz,Ir qw (sub fun i hi=>by simp[hi])];simp only;rw[if_neg hn,if_pos hr,ha site af]
  cases h
 .split at h
  .cases h
  rename_i hn;split at h
  .rename_i hr;cases h;rw[Ii di (sub fun i hi=>by simp[hi]) (sub fun i hi=>by simp[hi])];simp only;rw[if_neg hsz,Ir qw (sub fun i hi=>by simp[hi])];simp only;rw[if_neg hn,if_pos hr,ha site af]
  cases h
 .rename_i id g z len;split at h
  .rename_i g' j4 bR es hb;split at h
   .rename_i hr;cases h;rw[Ii di (sub fun i hi=>by simp[hi]) (sub fun i hi=>by simp[hi])];simp only;rw[if_neg hsz,Ir qw (sub fun i hi=>by simp[hi])];simp only;have h1:=ha id af;rw[hb] at h1;simp only[h1];rw[if_pos hr,ha site af]
   cases h
  cases h
 .rename_i id g z off len aK;cases off with
  |zero=>exact(aK rfl).elim
  |succ off=>
  split at h
  .rename_i g' j4 bR es hb;split at h
   .rename_i hr;cases h;rw[Ii di (sub fun i hi=>by simp[hi]) (sub fun i hi=>by simp[hi])];simp only;rw[if_neg hsz,Ir qw (sub fun i hi=>by simp[hi])];simp only;have h1:=ha id af;rw[hb] at h1;simp only[h1];rw[if_pos hr]
   cases h
  cases h
 cases h
end
theorem anP{sh:Nat->Bool}{e:Env}{b:aB}{p:oR}{u:List eO}{r:List Nat}(h:bj sh e b p=.done v u r)(ha:jq r b b'):bj sh e b' p=.done v u r:=by
 cases p with
 |alloc s z=>simp only[bj,ft.done.injEq] at h ⊢;obtain⟨h1,h2,h3⟩:=h;rw[ha s (by rw[<- h3];simp)];exact⟨h1,h2,h3⟩
 |mkmap s ag=>simp only[bj,ft.done.injEq] at h ⊢;obtain⟨h1,h2,h3⟩:=h;rw[ha s (by rw[<- h3];simp)];exact⟨h1,h2,h3⟩
 |box s x=>
  simp only[bj] at h ⊢;split at h
  .cases h;rw[ha s af]
  cases h
 |HK s ty sz ps=>
  simp only[bj] at h ⊢;split at h
  .split at h
   .cases h;rw[ha s af]
   cases h;rw[ha s af]
  cases h
 |Jo s ty sz bytes z l c=>
  simp only[bj] at h ⊢;split at h
  .split at h
   .rename_i hc;cases h;rw[if_pos hc,ha s af]
   cases h
  cases h
 |load k x=>
  simp only[bj] at h ⊢;split at h
  .rename_i cs q hq;split at h
   .rename_i v' hv;cases h;rw[adD hq ha];simp only[hv]
   cases h
  cases h
 |store n a x=>
  simp only[bj] at h ⊢;split at h
  .exact arV h ha
  cases h
 |bstr x=>
  simp only[bj] at h ⊢;split at h
  .rename_i es q hq;split at h
   .rename_i bs hb;cases h;rw[Ii hq ha (fun i hi=>by simp at hi)];simp only[hb]
   cases h
  cases h
 |lookup kd z ag ok x k=>
  simp only[bj] at h ⊢;split at h
  .rename_i es q key hm hk;split at h
   .cases h
   rename_i Aw;split at h
   .rename_i f hf;split at h
    .rename_i w hw;cases h;rw[amE hm ha,hk];simp only;rw[if_neg Aw];simp only[hf,hw]
    cases h
   cases h
  cases h
 |clear z x=>
  simp only[bj] at h ⊢;split at h
  .cases h;rfl
  .cases h;rfl
  .rename_i id g w off len e;split at h
   .rename_i h0;cases h;simp only[h0,if_true]
   rename_i h0;split at h
   .rename_i g' ty sz es h4;split at h
    .rename_i hc;cases h;have hb:=ha id af;rw[h4] at hb;rw[if_neg h0];simp only[hb];rw[if_pos hc]
    cases h
   cases h
  cases h
 |mupd kd ag m k v=>
  simp only[bj] at h ⊢;split at h
  .rename_i id g q cs h1 h2 h3;split at h
   .rename_i g' rF es ps h4 h5;split at h
    .rename_i hc;split at h
     .rename_i i w hf;cases h;have hb:=ha id af;rw[h4] at hb;simp only[hb,h5];rw[if_pos hc];simp only[hf]
     .rename_i hf;cases h;have hb:=ha id af;rw[h4] at hb;simp only[hb,h5];rw[if_pos hc];simp only[hf]
     cases h
    cases h
   cases h
  cases h
 |mlen x=>
  simp only[bj] at h ⊢;split at h
  .rename_i n q hq;cases h;rw[ami hq ha]
  cases h
 |append s ty sz bytes x y=>exact agj h ha
 |call s f as=>
  simp only[bj] at h
  (repeat' split at h)<;>cases h
 |_=>exact h
theorem an5{sh:Nat->Bool}{e:Env}{b:aB}{p:oR}{f s:Nat}{vs:List V}{r:List Nat}(h:bj sh e b p=.pc f vs r s)(ha:jq r b b'):bj sh e b' p=.pc f vs r s:=by
 cases p with
 |call s f as=>
  simp only[bj] at h ⊢;split at h
  .split at h
   .cases h
   rename_i eC;rw[if_neg eC];split at h
   .rename_i hs;cases h;rw[apZ hs ha]
   cases h
  cases h
 |_=>
  (simp only[bj,Ab,fj,CQ,reduceCtorEq] at h)<;>(repeat' split at h)<;>cases h
theorem an7{sh:Nat->Bool}{e:Env}{b:aB}{p:oR}{f:Nat}{vs:List V}(h:bj sh e b p=.sc f vs):bj sh e b' p=.sc f vs:=by
 cases p with
 |call s f as=>
  simp only[bj] at h ⊢;split at h
  .split at h
   .rename_i eC;rw[if_pos eC];exact h
   split at h<;>cases h
  cases h
 |_=>
  (simp only[bj,Ab,fj,CQ,reduceCtorEq] at h)<;>(repeat' split at h)<;>cases h
theorem agf:∀(u:List eO) (b b':aB) (id:Nat),id∈u.map (·.1)->app u b id=app u b' id:=by
 intro u
 induction u with
 |nil=>intro b b' id h;simp at h
 |cons x u ih=>
  intro b b' id h;obtain⟨i,o⟩:=x;simp only[app];by_cases hu:id∈u.map (·.1)
  .exact ih _ _ _ hu
  have hi:id=i:=by simpa [hu] using h
  have key:∀(u:List eO) (b:aB),id∉u.map (·.1)->app u b id=b id:=by
   intro u
   induction u with
   |nil=>intro b _;rfl
   |cons x u ih=>intro b h;obtain⟨j,o⟩:=x;simp only[dG,cT,not_or] at h;simp only[app];rw[ih _ h.2,aS,if_neg h.1]
  rw[key u _ hu,key u _ hu,aS,aS,if_pos hi,if_pos hi]
theorem QV:∀(u:List eO) (b:aB) (id:Nat),id∉u.map (·.1)->app u b id=b id:=by
 intro u
 induction u with
 |nil=>intro b id _;rfl
 |cons x u ih=>intro b id h;obtain⟨j,o⟩:=x;simp only[dG,cT,not_or] at h;simp only[app];rw[ih _ _ h.2,aS,if_neg h.1]
theorem arM{e e':Env}{g:Option (Nat×Bool)}(h:∀t w,g=some (t,w)->e' t=e t):wanted e' g=wanted e g:=by
 cases g with
 |none=>rfl
 |some q=>obtain⟨t,w⟩:=q;simp only[wanted,h t w rfl]
def bX.writes(f:bX)(id:Nat):Bool:=f.wr.contains id||f.fs.contains (nQ id)
def bX.uk(f:bX)(id:Nat):Bool:=f.rd.contains id||f.writes id
theorem adH{b:aB}:∀(n:Nat) (c:C),jq (mB b n c) b b'->mB b' n c=mB b n c:=by
 intro n
 induction n with
 |zero=>intro c _;rfl
 |succ n ih=>
  have many:∀(cs:List C),jq (cs.map (mB b n)).flatten b b'->(cs.map (mB b' n)).flatten=(cs.map (mB b n)).flatten:=by
   intro cs
   induction cs with
   |nil=>intro _;rfl
   |cons c cs ihc=>intro h;simp only[dG,mR] at h ⊢;rw[ih c h.left,ihc h.right]
  intro c h;cases c with
  |p v=>rfl
  |bt id g off=>
   simp only[mB] at h ⊢;have hb:=h id af;rw[hb];split
   .rename_i cs Lx;rw[Lx] at h;rw[many cs (fun i hi=>h i (by simp only[cT];exact .inr hi))]
   rfl
  |di id g i off=>
   simp only[mB] at h ⊢;have hb:=h id af;rw[hb];split
   .rename_i cs Lx;rw[Lx] at h;rw[many _ (fun i hi=>h i (by simp only[cT];exact .inr hi))]
   rfl
  |hsl id g z off len=>
   simp only[mB] at h ⊢;have hb:=h id af;rw[hb];split
   .rename_i cs Lx;rw[Lx] at h;rw[many _ (fun i hi=>h i (by simp only[cT];exact .inr hi))]
   rfl
  |k9 id g=>rfl
  |hfn f x y=>simp only[mB] at h ⊢;rw[many x h.left,many y h.right]
theorem aos{b:aB}(v:V)(h:jq (mh b v) b b'):mh b' v=mh b v:=by
 cases v with
 |undef=>rfl
 |tup _=>rfl
 |one c=>exact adH _ _ h
 |agg cs=>
  simp only[mh] at h ⊢
  induction cs with
  |nil=>rfl
  |cons c cs ih=>simp only[dG,mR] at h ⊢;rw[adH _ c h.left,ih h.right]
theorem af8{f:Nat}{vs:List V}{b:aB}(h:jq (allow sh f vs b).ids b b'):allow sh f vs b'=allow sh f vs b:=by
 have:(vs.map (mh b')).flatten=(vs.map (mh b)).flatten:=by
  unfold allow at h;simp only at h
  induction vs with
  |nil=>rfl
  |cons v vs ih=>simp only[dG,mR] at h ⊢;rw[aos v h.left,ih h.right]
 unfold allow;rw[this]
def Ae(cs:j8):Prop:=∀f vs al blk v ak,cs f vs al blk=some (v,ak)->(∀id,al.ok id=false->ak id=blk id)/\
 ∀aT,(∀id,al.ok id=true->aT id=blk id)->∃mr,cs f vs al aT=some (v,mr)/\ ∀id,mr id=if al.ok id then ak id else aT id
theorem Py{al:Al}{l:List Nat}(h:al.gG l=true){id:Nat}(hid:id∈l):al.ok id=true:=iC.1 h id hid
theorem akQ{a b:Al}(hb:b.any=false)(h:a.holds b=true){id:Nat}(hid:b.ok id=true):a.ok id=true:=by
 unfold Al.holds at h;simp only[uq,bQ] at h;rcases h with h|⟨h1,h2⟩
 .simp[Al.ok,h]
 simp only[Al.ok,hb,Df,uq] at hid;rcases hid with hid|hid
 .exact Py h1 (by simpa using hid)
 have:=iC.1 h2 (nQ id) (by simpa using hid);simp only[Al.ok,uq];exact .inr this
theorem V7(cY:Ae cs){o:ch}{aE:Env}{blk ak:aB}{f:bX}(h:step1 sh cp cs o aj blk=some (aE,ak,f)):
  ∃v,aE=put aj o.dst v/\(∀id,f.writes id=false->ak id=blk id)/\(∀id,f.uk id=true->sh.al.ok id=true)/\
   ∀(cS:Env) (aT:aB),sI o.GU aj cS->(∀id,f.uk id=true->aT id=blk id)->
    ∃mr,step1 sh cp cs o cS aT=some (put cS o.dst v,mr,f)/\ ∀id,mr id=if f.writes id then ak id else aT id:=by
 have Gn:∀(cS:Env),sI o.GU aj cS->sI o.op.tmps aj cS/\wanted cS o.guard=wanted aj o.guard:=by intro cS h;unfold ch.GU at h;exact⟨h.left,arM fun t w hg=>h.right t (by rw[hg];simp)⟩
 have hwr:∀(r w:List Nat) (id:Nat),(⟨r,w,[]⟩:bX).writes id=w.contains id:=by intro r w id;simp[bX.writes]
 have Ew:∀(r w:List Nat) (id:Nat),(⟨r,w,[]⟩:bX).uk id=true↔id∈r\/id∈w:=by intro r w id;simp[bX.uk,bX.writes]
 have abo:∀(u:List eO) (b b2:aB) (r:List Nat) (id:Nat),app u b2 id=if (⟨r,u.map (·.1),[]⟩:bX).writes id then app u b id else b2 id:=by
  intro u b b2 r id;rw[hwr];by_cases hid:id∈u.map (·.1)
  .rw[if_pos (by simpa using hid)];exact agf _ _ _ _ hid
  rw[if_neg (by simpa using hid)];exact QV _ _ _ hid
 unfold step1 at h;split at h
 .cases h
 .rename_i hw;cases h;refine⟨.undef,rfl,fun _ _=>rfl,fun id hid=>by simp[bX.uk,bX.writes] at hid,fun cS aT he hb=>⟨aT,?_,fun id=>by simp[bX.writes]⟩⟩;unfold step1;rw[(Gn cS he).2,hw]
 rename_i hw;split at h
 .cases h
 .rename_i v u r hp;split at h
  .rename_i ao;cases h;refine⟨v,rfl,fun id hid=>QV _ _ _ (by rw[hwr] at hid;simpa using hid),fun id hid=>Py ao (by have:=(Ew _ _ _).1 hid;simpa using this),fun cS aT he hb=>⟨app u aT,?_,fun id=>abo _ _ _ _ _⟩⟩;unfold step1;rw[(Gn cS he).2,hw];simp only;rw[Vs (Gn cS he).1,anP hp fun id hid=>hb id ((Ew _ _ _).2 (.inl hid))];simp only;rw[if_pos ao]
  cases h
 .rename_i g vs r s hp;split at h
  .rename_i x hx;split at h
   .rename_i v u hl;split at h
    .rename_i ao;cases h;refine⟨v,rfl,fun id hid=>QV _ _ _ (by rw[hwr] at hid;simpa using hid),fun id hid=>Py ao (by have:=(Ew _ _ _).1 hid;simp at this ⊢;rcases this with h|h<;>simp[h]),fun cS aT he hb=>⟨app u aT,?_,fun id=>abo _ _ _ _ _⟩⟩;unfold step1;rw[(Gn cS he).2,hw];simp only;rw[Vs (Gn cS he).1,an5 hp fun id hid=>hb id ((Ew _ _ _).2 (.inl (by simp[hid])))];simp only[hx];rw[alX hl (fun id hid=>hb id ((Ew _ _ _).2 (.inl (by simp[hid])))) fun id hid=>hb id ((Ew _ _ _).2 (.inr hid))];simp only;rw[if_pos ao]
    cases h
   cases h
  cases h
 rename_i g vs hp;split at h
 .rename_i ao;split at h
  .rename_i v b1 hx;cases h;have iK:∀id,(⟨(allow sh g vs blk).ids,(allow sh g vs blk).ids,(allow sh g vs blk).fs⟩:bX).writes id=(allow sh g vs blk).ok id:=by
    intro id;simp[bX.writes,Al.ok,allow]
   have T5:∀id,(⟨(allow sh g vs blk).ids,(allow sh g vs blk).ids,(allow sh g vs blk).fs⟩:bX).uk id=(allow sh g vs blk).ok id:=by intro id;simp only[bX.uk,iK];simp only[Al.ok];cases (allow sh g vs blk).ids.contains id<;>simp
   obtain⟨l1,l2⟩:=cY _ _ _ _ _ _ hx;refine⟨v,rfl,fun id hid=>l1 id (by rw[<- iK];exact hid),fun id hid=>akQ rfl ao (by rw[<- T5];exact hid),fun cS aT he hb=>?_⟩;obtain⟨mr,g1,g2⟩:=l2 aT fun id hid=>hb id (by rw[T5];exact hid);have aku:allow sh g vs aT=allow sh g vs blk:=af8 fun id hid=>hb id (by rw[T5];simp[Al.ok,hid]);refine⟨mr,?_,fun id=>by rw[iK];exact g2 id⟩;unfold step1;rw[(Gn cS he).2,hw];simp only;rw[Vs (Gn cS he).1,an7 hp];simp only[aku];rw[if_pos ao];simp only[g1]
  cases h
 cases h
theorem aom(aj:Env){d d':Option Nat}(v v':V)(h:∀t,d=some t->d'≠some t):put (put aj d v) d' v'=put (put aj d' v') d v:=by
 cases d with
 |none=>rfl
 |some t=>
  cases d' with
  |none=>rfl
  |some t'=>
   have aK:t'≠t:=fun e=>h t rfl (by rw[e]);funext x;simp only[put,aS];by_cases h1:x=t
   .subst h1;rw[if_pos rfl,if_neg (fun e=>aK e.symm),if_pos rfl]
   rw[if_neg h1,if_neg h1]
theorem ady{d:Option Nat}{t:Nat}(h:d≠some t):put aj d v t=aj t:=by
 cases d with
 |none=>rfl
 |some x=>simp only[put,aS];rw[if_neg (fun e=>h (by rw[e]))]
theorem Po{a b:List Nat}(h:meets a b=false){i:Nat}(ha:i∈a):i∉b:=by
 intro hb;have:meets a b=true:=by simp only[meets,List.any_eq_true];exact⟨i,ha,by simpa using hb⟩
 rw[h] at this;cases this
theorem UL{fs ids:List Nat}(h:Gu fs ids=false){i:Nat}(hi:i∈ids):nQ i∉fs:=by
 intro hf;have:Gu fs ids=true:=by simp only[Gu,List.any_eq_true];exact⟨i,hi,by simpa using hf⟩
 rw[h] at this;cases this
theorem ahD{a b:bX}(h:FC a b=false)(id:Nat):(a.writes id=true->b.uk id=false)/\(b.writes id=true->a.uk id=false):=by
 simp only[FC,QD] at h;obtain⟨⟨⟨⟨⟨c1,c2⟩,c3⟩,c4⟩,c5⟩,c6⟩:=h;have sw:∀ {x y:List Nat},meets x y=false->meets y x=false:=by
  intro x y h;cases he:meets y x with
  |false=>rfl
  |true=>simp only[meets,List.any_eq_true] at he;obtain⟨i,h1,h2⟩:=he;exact absurd h1 (Po h (by simpa using h2))
 have one:∀ {a b:bX},meets a.wr b.rd=false->meets a.wr b.wr=false->meets a.fs b.fs=false->Gu a.fs (b.rd++b.wr)=false->Gu b.fs (a.rd++a.wr)=false->a.writes id=true->b.uk id=false:=by
  intro a b c1 c2 c4 c5 c6 hw;simp only[bX.writes,uq] at hw;simp only[bX.uk,bX.writes,QD];rcases hw with hw|hw
  .have hw:id∈a.wr:=by simpa using hw
   exact⟨by simpa using Po c1 hw,by simpa using Po c2 hw,by simpa using UL c6 (i:=id) (by simp[hw])⟩
  have hw:nQ id∈a.fs:=by simpa using hw
  refine⟨?_,?_,?_⟩
  .cases he:b.rd.contains id with
   |false=>rfl
   |true=>exact absurd hw (UL c5 (i:=id) (by simp at he;simp[he]))
  .cases he:b.wr.contains id with
   |false=>rfl
   |true=>exact absurd hw (UL c5 (i:=id) (by simp at he;simp[he]))
  simpa using Po c4 hw
 exact⟨one c1 c2 c4 c5 c6,one (sw c3) (sw c2) (sw c4) c6 c5⟩
theorem swap{sh:Ctx}{cp:fO}{cs:j8}(cY:Ae cs){x y:ch}{aj iF cS:Env}{blk bc aT:aB}{e1 e2:bX}(hx:step1 sh cp cs x aj blk=some (iF,bc,e1))(hy:step1 sh cp cs y iF bc=some (cS,aT,e2))
  (hf:FR x y=true) (hc:FC e1 e2=false):∃envy blky,step1 sh cp cs y aj blk=some (envy,blky,e2)/\step1 sh cp cs x envy blky=some (cS,aT,e1):=by
 obtain⟨v1,rfl,fr1,_,amu⟩:=V7 cY hx;obtain⟨v2,rfl,fr2,_,amv⟩:=V7 cY hy;have IH:∀t,x.dst=some t->t∉y.GU/\y.dst≠some t:=by intro t ht;simp only[FR,ht,bQ] at hf;have h1:=hf.1;simp at h1;exact⟨by simpa using h1.1,h1.2⟩
 have yc:∀t,y.dst=some t->t∉x.GU:=by
  intro t ht;simp only[FR,ht,bQ] at hf;have h1:=hf.2
  simpa using h1
 have eo:=ahD hc;have nw:∀ {a b:bX} {id:Nat},(a.writes id=true->b.uk id=false)->b.uk id=true->a.writes id=false:=by
  intro a b id h1 h2;cases h:a.writes id with
  |false=>rfl
  |true=>rw[h1 h] at h2;cases h2
 have wt:∀ {a:bX} {id:Nat},a.writes id=true->a.uk id=true:=by intro a id h;simp[bX.uk,h]
 obtain⟨blky,hy2,yb⟩:=amv aj blk (fun t ht=>(ady fun e=>(IH t e).1 ht).symm) (fun id hid=>(fr1 id (nw (eo id).1 hid)).symm);obtain⟨blkx,zJ,xb⟩:=amu (put aj y.dst v2) blky (fun t ht=>ady fun e=>yc t e ht) (fun id hid=>by rw[yb id,nw (eo id).2 hid];rfl)
 refine⟨_,blky,hy2,?_⟩;rw[zJ,aom aj v1 v2 fun t ht=>(IH t ht).2];have:blkx=aT:=by
  funext id;rw[xb id,yb id];cases h1:e1.writes id with
  |true=>have h2:e2.writes id=false:=nw (eo id).2 (wt h1);exact(fr2 id h2).symm
  |false=>
   cases h2:e2.writes id with
   |true=>rfl
   |false=>simp only[eY,if_false];rw[fr2 id h2,fr1 id h1]
 rw[this]
structure It where
 i:Nat
 io:ch
 e:bX
def NT(x y:It):Prop:=FR x.io y.io=true/\FC x.e y.e=false
theorem aeF{o:ch}{r:List ch}{aE:Env}{blk ak:aB}{e:bX}{es:List bX}(h:steps sh cp cs (o::r) aj blk=some (aE,ak,e::es)):
  ∃iF bc,step1 sh cp cs o aj blk=some (iF,bc,e)/\steps sh cp cs r iF bc=some (aE,ak,es):=by
 simp only[steps] at h;split at h
 .rename_i iF bc e1 h1;split at h
  .rename_i cS aT es2 h2;cases h;exact⟨iF,bc,h1,h2⟩
  cases h
 cases h
theorem aqz{o:ch}{r:List ch}{iF aE:Env}{blk bc ak:aB}{e:bX}{es:List bX}(h1:step1 sh cp cs o aj blk=some (iF,bc,e))(h2:steps sh cp cs r iF bc=some (aE,ak,es)):
  steps sh cp cs (o::r) aj blk=some (aE,ak,e::es):=by
 simp only[steps,h1,h2]
theorem aq4(cY:Ae cs){y:It}{l2:List It}:∀ {l1:List It} {aj aE:Env} {blk ak:aB},steps sh cp cs ((l1++y::l2).map (·.io)) aj blk=some (aE,ak,(l1++y::l2).map (·.e))->(∀x∈l1,NT x y)->
  ∃iF bc,step1 sh cp cs y.io aj blk=some (iF,bc,y.e)/\steps sh cp cs ((l1++l2).map (·.io)) iF bc=some (aE,ak,(l1++l2).map (·.e)):=by
 intro l1
 induction l1 with
 |nil=>intro aj aE blk ak h _;exact aeF h
 |cons x l1 ih=>intro aj aE blk ak h xU;obtain⟨envx,blkx,h1,h2⟩:=aeF h;obtain⟨envy,blky,h3,h4⟩:=ih h2 fun z hz=>xU z (by simp[hz]);obtain⟨en1,bl1,h5,h6⟩:=swap cY h1 h3 (xU x af).1 (xU x af).2;exact⟨en1,bl1,h5,aqz h6 h4⟩
def Dn(al:Al)(b b2:aB):Prop:=∀id,al.ok id=true->b2 id=b id
def uZ(al:Al)(b' b2 FA:aB):Prop:=∀id,FA id=if al.ok id then b' id else b2 id
def Frame(al:Al)(b b':aB):Prop:=∀id,al.ok id=false->b' id=b id
theorem uZ.agree{al:Al}{b2 FA:aB}(h:uZ al b' b2 FA):Dn al b' FA:=fun id hid=>by rw[h id,hid];rfl
theorem uZ.trans{al:Al}{b2 FA b'' Xv:aB}(h:uZ al b' b2 FA)(k:uZ al b'' FA Xv):uZ al b'' b2 Xv:=fun id=>by rw[k id,h id];cases al.ok id<;>rfl
theorem uZ.refl{al:Al}{b b2:aB}(h:Dn al b b2):uZ al b b2 b2:=fun id=>by
 cases hid:al.ok id with
 |true=>exact h id hid
 |false=>rfl
theorem Frame.trans{al:Al}{b b'':aB}(h:Frame al b b')(k:Frame al b' b''):Frame al b b'':=fun id hid=>(k id hid).trans (h id hid)
section
variable {sh:Ctx} {cp:fO} {cs:j8} (cY:Ae cs)
include cY
theorem aqw:∀ {ops:List ch} {aj aE:Env} {blk ak:aB} {es:List bX},steps sh cp cs ops aj blk=some (aE,ak,es)->Frame sh.al blk ak/\
  ∀aT,Dn sh.al blk aT->∃mr,steps sh cp cs ops aj aT=some (aE,mr,es)/\uZ sh.al ak aT mr:=by
 intro ops
 induction ops with
 |nil=>intro aj aE blk ak es h;simp only[steps,fg,kY] at h;obtain⟨rfl,rfl,rfl⟩:=h;exact⟨fun _ _=>rfl,fun aT ha=>⟨aT,rfl,.refl ha⟩⟩
 |cons o ops ih=>
  intro aj aE blk ak es h;simp only[steps] at h;split at h
  .rename_i iF bc e h1;split at h
   .rename_i cS aT iG h2;cases h;obtain⟨v,rfl,fr,tw,loc⟩:=V7 cY h1;obtain⟨f2,g2⟩:=ih h2;have hw:∀id,sh.al.ok id=false->e.writes id=false:=by
     intro id hid;cases hh:e.writes id with
     |false=>rfl
     |true=>have:=tw id (by simp[bX.uk,hh]);rw[hid] at this;cases this
    refine⟨Frame.trans (fun id hid=>fr id (hw id hid)) f2,fun b2 ha=>?_⟩;obtain⟨b1,s1,m1⟩:=loc aj b2 (fun _ _=>rfl) (fun id hid=>ha id (tw id hid));have nz:uZ sh.al bc b2 b1:=by
     intro id;rw[m1 id];cases hid:sh.al.ok id with
     |true=>
      cases hh:e.writes id with
      |true=>rfl
      |false=>simp only[eY,if_false,if_true];rw[ha id hid,fr id hh]
     |false=>rw[hw id hid]
    obtain⟨b3,s2,m2⟩:=g2 b1 nz.agree;exact⟨b3,by simp only[steps,s1,s2],nz.trans m2⟩
   cases h
  cases h
theorem alJ{c:Env->aB->Option (mD×Env×aB)}(hc:∀ {aj aE blk ak e},c aj blk=some (e,aE,ak)->Frame sh.al blk ak/\ ∀aT,Dn sh.al blk aT->∃mr,c aj aT=some (e,aE,mr)/\uZ sh.al ak aT mr):
  ∀(k:Nat) {aj aE:Env} {blk ak:aB} {e:mD},iter c k aj blk=some (e,aE,ak)->Frame sh.al blk ak/\ ∀aT,Dn sh.al blk aT->∃mr,iter c k aj aT=some (e,aE,mr)/\uZ sh.al ak aT mr:=by
 have _u0:=cY;intro k
 induction k with
 |zero=>intro aj aE blk ak e h;simp[iter] at h
 |succ k ih=>
  intro aj aE blk ak e h;simp only[iter] at h;split at h
  .rename_i iF bc h1;obtain⟨f1,g1⟩:=hc h1;obtain⟨f2,g2⟩:=ih h;refine⟨f1.trans f2,fun b2 ha=>?_⟩;obtain⟨b1,s1,m1⟩:=g1 b2 ha;obtain⟨b3,s2,m2⟩:=g2 b1 m1.agree;exact⟨b3,by simp only[iter,s1,s2],m1.trans m2⟩
  rename_i aK;obtain⟨f1,g1⟩:=hc h;refine⟨f1,fun b2 ha=>?_⟩;obtain⟨b1,s1,m1⟩:=g1 b2 ha;refine⟨b1,?_,m1⟩;cases e with
  |normal=>exact(aK _ _ h).elim
  |exit i=>simp only[iter,s1]
  |ret=>simp only[iter,s1]
theorem YZ{n:Nat}:∀(c:aL) {aj aE:Env} {blk ak:aB} {e:mD},exec sh cp cs n c aj blk=some (e,aE,ak)->Frame sh.al blk ak/\
  ∀aT,Dn sh.al blk aT->∃mr,exec sh cp cs n c aj aT=some (e,aE,mr)/\uZ sh.al ak aT mr:=by
 intro c
 induction c with
 |skip=>intro aj aE blk ak e h;simp only[exec,fg,kY] at h;obtain⟨rfl,rfl,rfl⟩:=h;exact⟨fun _ _=>rfl,fun b2 ha=>⟨b2,rfl,.refl ha⟩⟩
 |exit id=>intro aj aE blk ak e h;simp only[exec,fg,kY] at h;obtain⟨rfl,rfl,rfl⟩:=h;exact⟨fun _ _=>rfl,fun b2 ha=>⟨b2,rfl,.refl ha⟩⟩
 |ret=>intro aj aE blk ak e h;simp only[exec,fg,kY] at h;obtain⟨rfl,rfl,rfl⟩:=h;exact⟨fun _ _=>rfl,fun b2 ha=>⟨b2,rfl,.refl ha⟩⟩
 |bad=>intro aj aE blk ak e h;simp[exec] at h
 |region d ops=>
  intro aj aE blk ak e h;simp only[exec] at h;split at h
  .rename_i iF bc es h1;obtain⟨f1,g1⟩:=aqw cY h1;have he:(e,aE,ak)=(mD.normal,iF,bc)/\(d=true->te ops [] es=true):=by
    cases d with
    |false=>simp at h;exact⟨by simp[h],fun h=>by cases h⟩
    |true=>
     simp only[if_true] at h;split at h
     .rename_i hd;cases h;exact⟨rfl,fun _=>hd⟩
     cases h
   obtain⟨he,hd⟩:=he;cases he;refine⟨f1,fun b2 ha=>?_⟩;obtain⟨b1,s1,m1⟩:=g1 b2 ha;refine⟨b1,?_,m1⟩;simp only[exec,s1];cases d with
   |false=>simp
   |true=>simp[hd rfl]
  cases h
 |seq a b iha ihb=>
  intro aj aE blk ak e h;simp only[exec] at h;split at h
  .rename_i iF bc h1;obtain⟨f1,g1⟩:=iha h1;obtain⟨f2,g2⟩:=ihb h;refine⟨f1.trans f2,fun b2 ha=>?_⟩;obtain⟨b1,s1,m1⟩:=g1 b2 ha;obtain⟨b3,s2,m2⟩:=g2 b1 m1.agree;exact⟨b3,by simp only[exec,s1,s2],m1.trans m2⟩
  rename_i aK;obtain⟨f1,g1⟩:=iha h;refine⟨f1,fun b2 ha=>?_⟩;obtain⟨b1,s1,m1⟩:=g1 b2 ha;refine⟨b1,?_,m1⟩;cases e with
  |normal=>exact(aK _ _ h).elim
  |exit i=>simp only[exec,s1]
  |ret=>simp only[exec,s1]
 |cond x a b iha ihb=>
  intro aj aE blk ak e h;simp only[exec] at h ⊢;split at h
  .rename_i t ht;cases t with
   |true=>exact iha h
   |false=>exact ihb h
  cases h
 |block id c ih=>
  intro aj aE blk ak e h;simp only[exec] at h;split at h
  .rename_i i iF bc h1;obtain⟨f1,g1⟩:=ih h1;have hb:ak=bc:=by split at h<;>cases h<;>rfl
   subst hb;refine⟨f1,fun b2 ha=>?_⟩;obtain⟨b1,s1,m1⟩:=g1 b2 ha;refine⟨b1,?_,m1⟩;simp only[exec,s1];split at h
   .rename_i hi;cases h;rw[if_pos hi]
   rename_i hi;cases h;rw[if_neg hi]
  rename_i aK;obtain⟨f1,g1⟩:=ih h;refine⟨f1,fun b2 ha=>?_⟩;obtain⟨b1,s1,m1⟩:=g1 b2 ha;refine⟨b1,?_,m1⟩;cases e with
  |normal=>simp only[exec,s1]
  |exit i=>exact(aK _ _ _ h).elim
  |ret=>simp only[exec,s1]
 |loop c ih=>intro aj aE blk ak e h;simp only[exec] at h ⊢;exact alJ cY (fun h=>ih h) n h
end
theorem adJ{al:Al}{blk aT:aB}(ha:Dn al blk aT):∀ {rs:List (Nat×Option (Option Nat))} {vs:List V},oF al aj blk rs=some vs->oF al aj aT rs=some vs:=by
 intro rs
 induction rs with
 |nil=>intro vs h;exact h
 |cons r rs ih=>
  obtain⟨t,k⟩:=r;cases k with
  |none=>
   intro vs h;simp only[oF] at h ⊢;split at h
   .rename_i v q h1 h2;cases h;simp only[h1,ih h2]
   cases h
  |some k=>
   intro vs h;simp only[oF] at h ⊢;split at h
   .rename_i cs rd q h1 h2;split at h
    .rename_i ao;rw[adD h1 (fun id hid=>ha id (Py ao hid)),ih h2];simp only[ao,if_true];exact h
    cases h
   cases h
theorem aoW(cY:Ae cs){n:Nat}{fn:aX}{args:List V}{blk ak:aB}(h:rq sh cp cs n fn args blk=some (v,ak)):Frame sh.al blk ak/\
  ∀aT,Dn sh.al blk aT->∃mr,rq sh cp cs n fn args aT=some (v,mr)/\uZ sh.al ak aT mr:=by
 unfold rq at h;split at h
 .rename_i aj b hx;simp only[dy] at h;obtain⟨vs,h1,h2⟩:=h;cases h2;obtain⟨f1,g1⟩:=YZ cY _ hx;refine⟨f1,fun b2 ha=>?_⟩;obtain⟨b3,s1,m1⟩:=g1 b2 ha;exact⟨b3,by unfold rq;rw[s1];simp only[adJ m1.agree h1,kX],m1⟩
 .rename_i aj b hx;simp only[dy] at h;obtain⟨vs,h1,h2⟩:=h;cases h2;obtain⟨f1,g1⟩:=YZ cY _ hx;refine⟨f1,fun b2 ha=>?_⟩;obtain⟨b3,s1,m1⟩:=g1 b2 ha;exact⟨b3,by unfold rq;rw[s1];simp only[adJ m1.agree h1,kX],m1⟩
 cases h
end
end Go.Abs
namespace Go.Abs
variable {P:Program} {w0:World}
def rC(w:World)(O:Nat->Prop):V->Value->Prop
 | .one (.p x),v=>bU w O x v
 | .agg cs,v=>∃arr ps,v=.agg arr/\cs=ps.map .p/\cX w O ps arr.toList
 |_,_=>False
def Enters(P:Program)(f:Nat):Prop:= ∃fn c,P.funcs[f]?=some fn/\fn.body=some c/\(fn.name== "runtime.NumGoroutine")=false
def NO(w:World)(Q:Nat->Prop)(r:RV)(val:Value)(bs:List Nat):Prop:= ∃vs,Fo r val vs/\rD w Q (jS r) vs bs
def u0(w:World)(O:Nat->Prop)(r:RV):Ending->World->Prop:=fun e w'=>∃val bs,e=.returned val/\fm w w'/\bs.Nodup/\(∀c∈bs,w.heap.size<=c/\c<w'.heap.size)/\NO w' (fun c=>O c\/c∈bs) r val bs
def Good(G:World->Prop)(w:World):Prop:=G w/\ ∀w w',fm w w'->G w->G w'
theorem Ok.aaJ{m:Mem}(h:Ok w0 m):fm w0 m.w:=⟨h.os,h.tape,h.output,h.size,h.base⟩
theorem rD.pure{w:World}{Q Q':Nat->Prop}(h:∀b,Q' b->Q b):∀ {rs:List RC} {vs:List Value} {bs:List Nat},(∀c∈bs,¬Q' c)->rD w Q rs vs bs->rD w Q' (rs.map RC.pure) vs []:=by
 intro rs
 induction rs with
 |nil=>intro vs bs _ hr;exact⟨hr.1,rfl⟩
 |cons r rs ih=>
  intro vs bs hb hr;have less:∀ {x:PV} {v:Value},bU w Q x v->bU w Q' x v:=fun hp=>hp.mono fun c _ hn=>⟨rfl,fun hq=>hn (h c hq)⟩;cases r with
  |p x=>obtain⟨v,mQ,rfl,h1,h2⟩:=hr;exact⟨v,mQ,rfl,less h1,ih hb h2⟩
  |own ty sz es=>
   obtain⟨v,mQ,c,BN,rfl,rfl,⟨cap,cur,e1,e2,e3,e4,e5,e6,e7,e8⟩,h2⟩:=hr;refine⟨v,mQ,rfl,?_,ih (fun c hc=>hb c (by simp[hc])) h2⟩;subst e1;refine bU.sl c 0 cap sz (fun j=>cur.toList.getD j undef) (fun _=>hb c af) e5 e6 e4 (fun j x hx=>?_) (fun j x hx=>?_)
   .have hj:j<(cur.toList.take (es.length*sz)).length:=by rw[e8.1];exact(aV.1 hx).1
    have jK:j<cur.size:=by simp at hj;omega
    rw[World.cell?];simp[e2,jK,List.getD,jc]
   have hj:j<(cur.toList.take (es.length*sz)).length:=by rw[e8.1];exact(aV.1 hx).1
   have jK:j<cur.size:=by simp at hj;omega
   refine less (e8.2 j x _ hx ?_);rw[List.getElem?_take_of_lt (by simp at hj;omega)];simp[jK,List.getD]
theorem xA.pure{r:RV}{v:Value}{vs:List Value}(h:xA r v vs):xA r.GK v vs/\kD r.GK=(kD r).map RC.pure:=by
 cases r with
 |one c=>exact⟨h,rfl⟩
 |agg cs=>exact⟨⟨h.1,by simpa [RV.GK] using h.2⟩,rfl⟩
 |tup _=>exact h.elim
theorem Dp.pure:∀ {rs:List RV} {us vs:List Value},Dp rs us vs->Dp (rs.map RV.GK) us vs/\rU (rs.map RV.GK)=(rU rs).map RC.pure:=by
 intro rs
 induction rs with
 |nil=>intro us vs h;exact⟨h,rfl⟩
 |cons r rs ih=>
  rintro us vs ⟨u,Nv,a,b,rfl,rfl,h1,h2⟩
  obtain⟨p1,p2⟩:=h1.pure;obtain⟨q1,q2⟩:=ih h2;exact⟨⟨u,Nv,a,b,rfl,rfl,p1,q1⟩,by simp[rU,p2,q2]⟩
theorem Fo.pure{r:RV}{v:Value}{vs:List Value}(h:Fo r v vs):Fo r.pure v vs/\jS r.pure=(jS r).map RC.pure:=by
 cases r with
 |one c=>exact xA.pure (r:=.one c) h
 |agg cs=>exact xA.pure (r:=.agg cs) h
 |tup rs=>obtain⟨arr,rfl,h2⟩:=h;obtain⟨q1,q2⟩:=h2.pure;exact⟨⟨arr,rfl,q1⟩,q2⟩
theorem u0.gV{w w':World}{O:Nat->Prop}{r:RV}{e:Ending}(b:Bool)(hO:∀c,O c->c<w.heap.size)(h:u0 w O r e w'):u0 w O (r.gV b) e w':=by
 cases b with
 |false=>exact h
 |true=>
  obtain⟨val,bs,rfl,hg,im,qq,vs,h1,h2⟩:=h;obtain⟨p1,p2⟩:=h1.pure;refine⟨val,[],rfl,hg,tz,fun c hc=>by simp at hc,vs,p1,?_⟩;simp only[RV.gV];rw[p2];refine rD.pure (fun b hb=>?_) (fun c hc hn=>?_) h2
  .rcases hb with hb|hb
   .exact .inl hb
   simp at hb
  rcases hn with hn|hn
  .have:=hO c hn;have:=(qq c hc).1;omega
  simp at hn
def Ds(P:Program)(G:World->Prop)(cp:fO):Prop:=∀f vs r,cp f vs=some r->Enters P f/\ ∀(w:World) (O:Nat->Prop) (args:Array Value),Good G w->(∀c,O c->c<w.heap.size)->Pw (rC w O) vs args.toList->Calls P f args w (u0 w O r)
def Bx(w0:World)(m:Mem)(v:V)(ak:aB):Ending->World->Prop:=fun e w'=>∃val m',e=.returned val/\m'.w=w'/\Ok w0 m'/\Ev m m'/\m'.fr=m.fr/\m'.blk=ak/\bN m' v val
def Fp(P:Program)(G:World->Prop)(cs:j8):Prop:=∀f vs al blk v ak,cs f vs al blk=some (v,ak)->Enters P f/\ ∀(w0:World) (m:Mem) (args:Array Value),Good G w0->Ok w0 m->m.blk=blk->Pw (bN m) vs args.toList->Calls P f args m.w (Bx w0 m v ak)
theorem apY{m:Mem}(ao:Ok w0 m){O:Nat->Prop}{x y:V}{r:List Nat}{v:Value}(h:nT m.blk x=some (y,r))(hr:bN m x v)(hs:qd m O r):rC m.w O y v:=by
 cases x with
 |undef=>simp[nT] at h
 |tup vs=>simp[nT] at h
 |one c=>simp only[nT,dy] at h;obtain⟨⟨p,r'⟩,h1,h2⟩:=h;cases h2;exact JT ao dO h1 hr hs
 |agg cs=>simp only[nT,dy] at h;obtain⟨⟨ps,r'⟩,h1,h2⟩:=h;cases h2;obtain⟨arr,rfl,hc⟩:=bN.agg.1 hr;refine⟨arr,ps,rfl,rfl,?_⟩;exact HQ (R:=cN m) (T:=bU m.w O) (eQ:=qd m O) (fun _ _=>qd.app) (fun _ _ _ _ h1 h2 h3=>JT ao dO h1 h2 h3) h1 hs hc
theorem aeo{m:Mem}(ao:Ok w0 m){O:Nat->Prop}{xs ys:List V}{r:List Nat}{vs:List Value}(h:Bg m.blk xs=some (ys,r))(hr:Pw (bN m) xs vs)(hs:qd m O r):Pw (rC m.w O) ys vs:=HQ (R:=bN m) (T:=rC m.w O) (eQ:=qd m O) (fun _ _=>qd.app) (fun _ _ _ _ h1 h2 h3=>apY ao h1 h2 h3) h hs hr
theorem ac7{m:Mem}(ao:Ok w0 m){c:Nat}(h:m.own c):c<m.w.heap.size:=by
 rcases h with h|⟨id,o,ho,_,rfl⟩
 .exact ao.frlt c h
 exact(ao.obj id o ho).lt
theorem adX{w:World}{Q Q':Nat->Prop}{x:PV}{v:Value}(hs:x.scalar=true)(h:bU w Q x v):bU w Q' x v:=by
 cases h<;>first
  |(simp[PV.scalar] at hs;done)
  |constructor
theorem af9{w:World}{Q Q':Nat->Prop}:∀ {rs:List RC} {vs:List Value} {bs:List Nat},rs.all RC.alone=true->rD w Q rs vs bs->rD w Q' rs vs bs:=by
 intro rs
 induction rs with
 |nil=>intro vs bs _ h;exact h
 |cons r rs ih=>
  intro vs bs ha h;simp only[uT,bQ] at ha;cases r with
  |p x=>obtain⟨v,mQ,rfl,h1,h2⟩:=h;exact⟨v,mQ,rfl,adX ha.1 h1,ih ha.2 h2⟩
  |own ty sz es=>obtain⟨v,mQ,c,BN,rfl,rfl,⟨cap,cur,e1,e2,e3,e4,e5,e6,e7,e8⟩,h2⟩:=h;refine⟨v,mQ,c,BN,rfl,rfl,⟨cap,cur,e1,e2,e3,e4,e5,e6,e7,e8.1,fun j x u a b=>?_⟩,ih ha.2 h2⟩;refine adX ?_ (e8.2 j x u a b);have hx:=aQ a;obtain⟨e,he,hxe⟩:=Fm.1 hx;have h1:=ha.1;simp only[RC.alone] at h1;exact iC.1 (iC.1 h1 e he) x hxe
theorem abQ{m:Mem}{w':World}{x:RV}{val:Value}{bs:List Nat}{site:Nat}(ao:Ok w0 m)(hg:fm m.w w')(im:bs.Nodup)(qq:∀c∈bs,m.w.heap.size<=c/\c<w'.heap.size)(hr:NO w' (fun c=>m.own c\/c∈bs) x val bs):
  ∃m',m'.w=w'/\Ok w0 m'/\Ev m m'/\m'.fr=m.fr/\m'.blk=app (kN m.blk site x).2 m.blk/\bN m' (kN m.blk site x).1 val:=by
 obtain⟨vs,h1,h2⟩:=hr;have nA:Ok w0 (m.later w' (· ∈bs)):=Jl ao hg qq;have ve:Ev m (m.later w' (· ∈bs)):=Gy hg fun c hc=>(qq c hc).1;obtain⟨m',e1,e2,e3,_,e5,e6,e7⟩:=alm (MO:=m) (site:=site) nA (h2.less fun b hb=>abS.1 hb) im (fun c hc=>⟨.inr hc,mU ao.size (qq c hc).1⟩) ve (fun c hc=>.inl (qq c hc).1);refine⟨m',e1,e2,e3,?_,e6,aoC h1 e7⟩;funext c;apply propext;rw[e5 c];constructor
 .rintro ⟨h|h,h2⟩
  .exact h
  exact(h2 h).elim
 intro h;refine⟨.inl h,fun hc=>?_⟩;have h1:=ao.frlt c h;have h2:=(qq c hc).1;omega
theorem aln{b b':aB}(h:∀s,(b s).1=(b' s).1)(site:Nat)(x:RV):kN b site x=kN b' site x:=by unfold kN;rw[abz _ site b b' fun s _=>h s]
theorem ann{G:World->Prop}{cp:fO}(DW:Ds P G cp)(hG:Good G w0){m:Mem}(ao:Ok w0 m){f:Nat}{xs vs:List V}{rd:List Nat}{x:RV}{site:Nat}{v:V}{u:List eO}{args:Array Value}(hc:cp f vs=some x)(hs:Bg m.blk xs=some (vs,rd))(wL:Pw (bN m) xs args.toList)
  {pb:Bool} (hl:land m.blk rd site (x.gV pb)=some (v,u)):Calls P f args m.w (Bx w0 m v (app u m.blk)):=by
 have Cb:∀(w:World) (O:Nat->Prop) (args:Array Value),Good G w->(∀c,O c->c<w.heap.size)->Pw (rC w O) vs args.toList->Calls P f args w (u0 w O (x.gV pb)):=fun w O args h1 h2 h3=>((DW f vs x hc).2 w O args h1 h2 h3).mono fun e w' h=>h.gV pb h2
 generalize x.gV pb=x at hl Cb;unfold land at hl;split at hl
 .rename_i qR;cases hl;have key:∀(O:Nat->Prop),(∀c,O c->c<m.w.heap.size)->qd m O rd->(∀w' bs val,NO w' (fun c=>O c\/c∈bs) x val bs->NO w' (fun c=>m.own c\/c∈bs) x val bs)->Calls P f args m.w (Bx w0 m (kN m.blk site x).1 (app (kN m.blk site x).2 m.blk)):=by
   intro O hO mw sk;refine(Cb m.w O args ⟨hG.2 _ _ ao.aaJ hG.1,hG.2⟩ hO (aeo ao hs wL mw)).mono ?_;rintro e w' ⟨val,bs,rfl,hg,im,qq,hr⟩
   obtain⟨m',e1,e2,e3,e4,e5,e6⟩:=abQ (site:=site) ao hg im qq (sk w' bs val hr);exact⟨val,m',rfl,e1,e2,e3,e4,e5,e6⟩
  rcases qR with rfl|iK
  .exact key m.own (fun c hc=>ac7 ao hc) ⟨fun _ h=>h,fun _ h=>by simp at h⟩ fun _ _ _ h=>h
  refine key (fun _=>False) (fun c h=>h.elim) ⟨fun _ h=>h.elim,fun _ _ h=>h⟩ fun w' bs val h=>?_;obtain⟨mQ,h1,h2⟩:=h;exact⟨mQ,h1,af9 iK h2⟩
 split at hl
 .rename_i fu qw;cases hl;have nA:=aao ao qw;have ve:=TY qw;have mw:=T0 ao qw;refine(Cb m.w (m.with fu).own args ⟨hG.2 _ _ ao.aaJ hG.1,hG.2⟩ (fun c hc=>ac7 nA hc) (aeo ao hs wL mw)).mono ?_;rintro e w' ⟨val,bs,rfl,hg,im,qq,hr⟩
  obtain⟨m',e1,e2,e3,e4,e5,e6⟩:=abQ (m:=m.with fu) (site:=site) nA hg im qq hr;have Ua:kN (m.with fu).blk site x=kN m.blk site x:=aln (fun s=>Lc qw s) site x;rw[Ua] at e5 e6;refine⟨val,m',rfl,e1,e2,ve.trans e3,e4,?_,e6⟩;rw[e5,Kx];rfl
 cases hl
end Go.Abs
namespace Go.Abs
variable {P:Program} {w0:World}
theorem PN{m m':Mem}(dD:Ev m m'){aj:Env}{a:Act}{dst:Option Nat}{v:V}{x:Value}(hr:jr m aj a.tmps)(hv:bN m' v x)(hd:∀d,dst=some d->d<a.tmps.size):jr m' (put aj dst v) (a.put dst x).tmps:=by
 cases dst with
 |none=>exact hr.ev dD
 |some d=>
  intro t;have aq:=hd d rfl;simp only[put,Act.put,aS];by_cases ht:t=d
  .subst ht;rw[if_pos rfl];have:(a.tmps.setIfInBounds t x).getD t undef=x:=by simp[aq]
   rw[this];exact hv
  rw[if_neg ht];have:(a.tmps.setIfInBounds d x).getD t undef=a.tmps.getD t undef:=by simp only[Array.getD_eq_getD_getElem?];rw[Array.getElem?_setIfInBounds_ne (fun e=>ht e.symm)]
  rw[this];exact(hr t).ev dD.zero
theorem PO(a:Act)(dst:Option Nat)(x:Value):(a.put dst x).tmps.size=a.tmps.size:=by cases dst<;>simp[Act.put]
theorem put_defers(a:Act)(dst:Option Nat)(x:Value):(a.put dst x).defers=a.defers:=by cases dst<;>simp[Act.put]
theorem afk{m:Mem}{aj:Env}{tmps:Array Value}(hr:jr m aj tmps){ops:Array Oper}{o:Oper}{g:Option (Nat×Bool)}{b:Bool}
  (hg:match o.guard with|none=>g=none|some (j,w)=>∃t,(ops[j]?).bind (·.dst)=some t/\g=some (t,w)) (h:wanted aj g=some b):Region.wanted o (yielded ops tmps)=b:=by
 unfold Region.wanted;cases ho:o.guard with
 |none=>rw[ho] at hg;subst hg;simp only[wanted,fg] at h;exact h
 |some q=>
  obtain⟨j,w⟩:=q;rw[ho] at hg;obtain⟨t,h1,rfl⟩:=hg;have hrt:=hr t;simp only[wanted] at h;simp only[yielded,h1,Option.bind_some];split at h
  .rename_i b' hb;rw[hb] at hrt;have hv:=EC hrt;cases h;have:tmps[t]?=some (.bool b'):=by
    rw[Array.getD_eq_getD_getElem?] at hv;cases he:tmps[t]? with
    |none=>rw[he] at hv;simp[undef] at hv
    |some y=>rw[he] at hv;simp at hv;rw[hv]
   rw[this];rfl
  .rename_i hb;rw[hb] at hrt;cases h;have hv:tmps.getD t undef=undef:=hrt;rw[Array.getD_eq_getD_getElem?] at hv;cases he:tmps[t]? with
   |none=>rfl
   |some y=>rw[he] at hv;simp at hv;rw[hv];rfl
  cases h
theorem aah{m:Mem}{aj:Env}{f:aP}{v:Value}{g:Nat}{a b:List C}(h:DJ aj f=some (g,a,b))(hr:bN m (ev aj f) v):∃A B:Array Value,v=.func (.func g) A B/\df m a A.toList/\df m b B.toList:=by
 unfold DJ at h;split at h
 .rename_i g' x y he;cases h;rw[he] at hr;obtain⟨hp⟩:cN m _ v:=hr;cases hp with
  |fn A B ha hb uL mL=>exact⟨A,B,rfl,cX.Da ⟨by simpa using ha,fun j x u p q=>uL j x u p (by simpa using q)⟩,cX.Da ⟨by simpa using hb,fun j x u p q=>mL j x u p (by simpa using q)⟩⟩
 .rename_i g' x y he;cases h;rw[he] at hr;have hc:cN m _ v:=hr;cases hc with
  |hfn A B ha hb uL mL=>exact⟨A,B,rfl,⟨by simpa using ha,fun j x u p q=>uL j x u p (by simpa using q)⟩,⟨by simpa using hb,fun j x u p q=>mL j x u p (by simpa using q)⟩⟩
 cases h
theorem Xl{m:Mem}{aj:Env}{a:Act}(hr:jr m aj a.tmps):∀ {xs:List Operand} {ys:List aP},qe xs=some ys->Pw (bN m) (ys.map (ev aj)) (xs.map a.eval):=by
 intro xs
 induction xs with
 |nil=>intro ys h;simp[qe] at h;subst h;exact⟨rfl,fun j x u p=>by simp at p⟩
 |cons x xs ih=>
  intro ys h;simp only[qe] at h;split at h
  .rename_i y ys' h1 h2;cases h;obtain⟨i1,i2⟩:=ih h2;refine⟨by simpa using i1,fun j z u p q=>?_⟩;cases j with
   |zero=>simp at p q;subst p q;exact eE h1 hr
   |succ j=>exact i2 j z u (by simpa using p) (by simpa using q)
  cases h
theorem Pz{m:Mem}{cs:List C}{vs:List Value}(h:df m cs vs):Pw (bN m) (cs.map .one) vs:=by refine⟨by simpa using h.1,fun j x u p q=>?_⟩;simp only[fX,dy] at p;obtain⟨c,hc,rfl⟩:=p;exact bN.one.2 (h.2 j c u hc q)
theorem ahb{f:Nat}(h:Enters P f)(args:Array Value)(w:World):(callFunc f args).run P w=.ok (.enter f args) w:=by
 obtain⟨fn,c,h1,h2,h3⟩:=h;have h4:¬fn.name= "runtime.NumGoroutine" :=by simpa using h3
 simp[callFunc,run_program,h1,h2,h4]
theorem XJ{o:Oper}{c:Call}{fo:Operand}{a:Act}{g:Nat}{A B:Array Value}{w:World}(ho:o.op=.call c)(hc:c.callee=.value fo)(hv:a.eval fo=.func (.func g) A B)(he:Enters P g):
  (execOp a.eval o).run P w=.ok (.enter g (A++c.args.map a.eval++B)) w:=by
 simp[execOp,ho,resolve,hc,hv,Deferred.ofValue,invoke,ahb he]
theorem acT{site:Nat}{o:Oper}{p:oR}(h:FG P site o=some p)(hp:∀s f as,p≠ .call s f as){sh:Nat->Bool}{aj:Env}{blk:aB}:(∀f vs r s,bj sh aj blk p≠ .pc f vs r s)/\ ∀f vs,bj sh aj blk p≠ .sc f vs:=by
 cases p<;>first
  |exact(hp _ _ _ rfl).elim
  |(simp only[bj]
    constructor<;>intros<;>intro h<;>(repeat' split at h)<;>first
     |cases h
     |(simp only[Ab,CQ,fj] at h;(repeat' split at h)<;>cases h))
theorem X7{site:Nat}{o:Oper}{s:Nat}{f:aP}{as:List aP}(h:FG P site o=some (.call s f as)):∃c fo,o.op=.call c/\c.callee=.value fo/\cn fo=some f/\qe c.args.toList=some as:=by
 unfold FG at h;split at h
 case h_26 c ho=>
  split at h
  .rename_i f' as' h1 h2;simp only[dy] at h;obtain⟨y,h3,h4⟩:=h;cases h4;exact⟨c,f',ho,h1,h3,h2⟩
  all_goals((repeat' split at h)<;>first
   |cases h
   |(simp at h;done))
 all_goals((repeat' split at h)<;>first
  |cases h
  |(simp at h;done))
def Fq(w0:World)(m:Mem)(a:Act)(nt:Nat)(aE:Env)(ak:aB)(K:Act->World->Prop):Prop:=∀(a':Act) (m':Mem),Ok w0 m'->Ev m m'->m'.fr=m.fr->m'.blk=ak->jr m' aE a'.tmps->a'.tmps.size=nt->a'.defers=a.defers->K a' m'.w
theorem afs{o:Oper}{a:Act}{f:Nat}{args:Array Value}{w:World}{K:Act->World->Prop}{Q:Exit->Act->World->Prop}{R:Ending->World->Prop}(jV:(execOp a.eval o).run P w=.ok (.enter f args) w)(hc:Calls P f args w R)
  (hR:∀e w',R e w'->∃v,e=.returned v/\K (a.put o.dst v) w'):o.wp P a w K Q:=by
 unfold Oper.wp;rw[jV,Oper.upon_enter];refine hc.mono ?_;intro e w' he;obtain⟨v,rfl,hk⟩:=hR e w' he;exact hk
theorem aeE{G:World->Prop}(hG:Good G w0){cp:fO}{cs:j8}(hP:Ds P G cp)(hS:Fp P G cs){sh:Ctx}{ops:Array Oper}{base nt anc:Nat}{o:Oper}{io:ch}{m:Mem}{aj aE:Env}{ak:aB}{eff:bX}{a:Act}{K:Act->World->Prop}{Q:Exit->Act->World->Prop}
  (ho:DB P (fun j=>(ops[j]?).bind (·.dst)) base nt anc o=some io) (cA:step1 sh cp cs io aj m.blk=some (aE,ak,eff)) (ao:Ok w0 m) (hr:jr m aj a.tmps) (fS:a.tmps.size=nt) (hK:Fq w0 m a nt aE ak K):
  if Region.wanted o (yielded ops a.tmps) then o.wp P a m.w K Q else K (a.put o.dst undef) m.w:=by
 have hio:io.dst=o.dst/\io.op=HR P base o/\(∀d,o.dst=some d->d<nt)/\(match o.guard with|none=>io.guard=none|some (j,w)=>∃t,(ops[j]?).bind (·.dst)=some t/\io.guard=some (t,w)):=by
  unfold DB at ho;split at ho
  .rename_i hd;simp only[dy] at ho;obtain⟨g,hg,rfl⟩:=ho;refine⟨rfl,rfl,fun d he=>?_,?_⟩
   .rw[he] at hd
    simpa [YD] using hd
   cases hgo:o.guard with
   |none=>rw[hgo] at hg;simp[T3] at hg;exact hg.symm
   |some q=>obtain⟨j,w⟩:=q;rw[hgo] at hg;simp only[T3,dy] at hg;obtain⟨t,ht,rfl⟩:=hg;exact⟨t,ht,rfl⟩
  cases ho
 obtain⟨h1,h2,h3,h4⟩:=hio;have hd:∀d,o.dst=some d->d<a.tmps.size:=by rw[fS];exact h3
 unfold step1 at cA;split at cA
 .cases cA
 .rename_i hw;cases cA;rw[afk hr h4 hw];simp only[eY,if_false];rw[h1] at hK;exact hK _ m ao (Ev.refl m) rfl rfl (PN (Ev.refl m) hr (show bN m .undef undef from rfl) hd) (by rw[PO,fS]) (put_defers _ _ _)
 rename_i hw;rw[afk hr h4 hw];simp only[if_true];rw[h2] at cA;unfold HR at cA;cases zt:FG P base o with
 |none=>rw[zt] at cA;simp[bj] at cA
 |some p=>
  rw[zt] at cA;simp only[kA] at cA;split at cA
  .cases cA
  .rename_i v u r hp;split at cA
   case isFalse=>cases cA
   cases cA;obtain⟨x,m',akg,e2,e3,e4,e5,e6⟩:=am3 ao hr zt hp;rw[h1] at hK;have hk:=fun x (hx:bN m' v x)=>hK (a.put o.dst x) m' e2 e3 e4 e5 (PN e3 hr hx hd) (by rw[PO,fS]) (put_defers _ _ _);unfold Oper.wp;rcases akg with hd|⟨hd,rfl⟩
   .rw[hd,Oper.upon_value];exact hk x e6
   rw[hd,Oper.upon_skip];exact hk undef e6
  .rename_i f vs r s hp;by_cases Cb:∃s f as,p=.call s f as
   .obtain⟨s',f',as,rfl⟩:=Cb;obtain⟨c,fo,g1,g2,g3,g4⟩:=X7 zt;simp only[bj] at hp;split at hp
    .rename_i g A B hfn;obtain⟨AV,BV,e1,e2,e3⟩:=aah hfn (eE g3 hr);split at hp
     .cases hp
     split at hp
     .rename_i ws rd se;cases hp;split at cA
      .rename_i x hx;split at cA
       .rename_i v u hl;split at cA
        case isFalse=>cases cA
        cases cA;have wL:Pw (bN m) (A.map .one++as.map (ev aj)++B.map .one) (AV++c.args.map a.eval++BV).toList:=by
         have:=((Pz e2).append (Xl hr g4)).append (Pz e3)
         simpa using this
        refine afs (XJ g1 g2 e1 (hP _ _ _ hx).1) (ann hP hG ao hx se wL hl) ?_;rintro e w' ⟨val,m',rfl,rfl,q1,q2,q3,q4,q5⟩
        rw[h1] at hK;exact⟨val,rfl,hK _ m' q1 q2 q3 q4 (PN q2 hr q5 hd) (by rw[PO,fS]) (put_defers _ _ _)⟩
       cases cA
      cases cA
     cases hp
    cases hp
   exact((acT zt (fun s f as e=>Cb ⟨s,f,as,e⟩)).1 _ _ _ _ hp).elim
  rename_i f vs hp;by_cases Cb:∃s f as,p=.call s f as
  .obtain⟨s',f',as,rfl⟩:=Cb;obtain⟨c,fo,g1,g2,g3,g4⟩:=X7 zt;simp only[bj] at hp;split at hp
   .rename_i g A B hfn;obtain⟨AV,BV,e1,e2,e3⟩:=aah hfn (eE g3 hr);split at hp
    .cases hp;split at cA
     case isFalse=>cases cA
     split at cA
     .rename_i v BK hx;cases cA;have wL:Pw (bN m) (A.map .one++as.map (ev aj)++B.map .one) (AV++c.args.map a.eval++BV).toList:=by
       have:=((Pz e2).append (Xl hr g4)).append (Pz e3)
       simpa using this
      refine afs (XJ g1 g2 e1 (hS _ _ _ _ _ _ hx).1) ((hS _ _ _ _ _ _ hx).2 w0 m _ hG ao rfl wL) ?_;rintro e w' ⟨val,m',rfl,rfl,q1,q2,q3,q4,q5⟩
      rw[h1] at hK;exact⟨val,rfl,hK _ m' q1 q2 q3 q4 (PN q2 hr q5 hd) (by rw[PO,fS]) (put_defers _ _ _)⟩
     cases cA
    split at hp<;>cases hp
   cases hp
  exact((acT zt (fun s f as e=>Cb ⟨s,f,as,e⟩)).2 _ _ hp).elim
end Go.Abs
namespace Go.Abs
variable {P:Program} {w0:World}
theorem Rg{dst anc:Nat->Option Nat}{base nt i:Nat}{o:Oper}{r:List Oper}{l:List ch}(h:vZ P dst anc base nt i (o::r)=some l):
  ∃x xs,l=x::xs/\DB P dst ((base+i)*64) nt ((anc i).getD 0) o=some x/\vZ P dst anc base nt (i+1) r=some xs:=by
 simp only[vZ] at h;split at h
 .rename_i x xs h1 h2;cases h;exact⟨x,xs,rfl,h1,h2⟩
 cases h
section
variable {G:World->Prop} (hG:Good G w0) {cp:fO} {cs:j8} (hP:Ds P G cp) (hS:Fp P G cs) {sh:Ctx}
include hG hP hS
theorem am5{ops:Array Oper}{anc:Nat->Option Nat}{base nt:Nat}{Q:Exit->Act->World->Prop}:∀(r:List Oper) {l:List ch} {i:Nat} {aj aE:Env} {m:Mem} {ak:aB} {es:List bX} {a:Act},(∀j,ops[i+j]?=r[j]?)->vZ P (fun j=>(ops[j]?).bind (·.dst)) anc base nt i r=some l->
  steps sh cp cs l aj m.blk=some (aE,ak,es)->Ok w0 m->jr m aj a.tmps->a.tmps.size=nt->Fq w0 m a nt aE ak (fun a' w'=>Q .normal a' w')->wpOps P ops Q (List.range' i r.length) a m.w:=by
 intro r
 induction r with
 |nil=>intro l i aj aE m ak es a _ hc cA ao hr fS hK;simp[vZ] at hc;subst hc;simp only[steps,fg,kY] at cA;obtain⟨rfl,rfl,_⟩:=cA;simp only[dQ,List.range'_zero,wpOps];exact hK a m ao (Ev.refl m) rfl rfl hr fS rfl
 |cons o r ih=>
  intro l i aj aE m ak es a Ms hc cA ao hr fS hK;obtain⟨x,xs,rfl,h1,h2⟩:=Rg hc;simp only[steps] at cA;split at cA
  .rename_i iF bc e1 fL;split at cA
   .rename_i cS aT es2 eH;cases cA;have ho:ops[i]?=some o:=by have:=Ms 0;simpa using this
    have key:=aeE (Q:=Q) (K:=wpOps P ops Q (List.range' (i+1) r.length)) hG hP hS h1 fL ao hr fS (fun a1 m1 k1 k2 k3 k4 k5 k6 k7=>by subst k4;refine ih (m:=m1) (fun j=>by have:=Ms (j+1);rw[show i+1+j=i+(j+1) by omega];simpa using this) h2 eH k1 k5 k6 ?_;intro a2 m2 p1 p2 p3 p4 p5 p6 p7;exact hK a2 m2 p1 (k2.trans p2) (p3.trans k3) p4 p5 p6 (p7.trans k7))
    simp only[cE,List.range'_succ,wpOps,ho];split at key
    .rename_i hw;rw[if_pos hw];exact .inl key
    rename_i hw;rw[if_neg hw];exact key
   cases cA
  cases cA
theorem aoA{ops:Array Oper}{anc:Nat->Option Nat}{base nt id:Nat}{Q:Exit->Act->World->Prop}{l:List ch}{aj aE:Env}{m:Mem}{ak:aB}{es:List bX}{a:Act}(hc:vZ P (fun j=>(ops[j]?).bind (·.dst)) anc base nt 0 ops.toList=some l)
  (cA:steps sh cp cs l aj m.blk=some (aE,ak,es)) (ao:Ok w0 m) (hr:jr m aj a.tmps) (fS:a.tmps.size=nt) (hK:Fq w0 m a nt aE ak (fun a' w'=>Q .normal a' w')):(Code.region id ops false).wp P Q a m.w:=by
 refine wp_region ?_;have:=am5 hG hP hS (sh:=sh) (ops:=ops) (Q:=Q) ops.toList (i:=0) (fun j=>af) hc cA ao hr fS hK;rw[List.range_eq_range']
 simpa using this
end
end Go.Abs
namespace Go.Abs
variable {P:Program} {w0:World}
theorem aol{α β:Type}(g:Array β->α->β):∀(l:List α) (acc:Array β),(l.foldl (fun acc o=>acc.push (g acc o)) acc).size=acc.size+l.length/\
  (∀j,j<acc.size->(l.foldl (fun acc o=>acc.push (g acc o)) acc)[j]?=acc[j]?)/\
  ∀j o,l[j]?=some o->∃pre:Array β,pre.size=acc.size+j/\(∀k,k<pre.size->(l.foldl (fun acc o=>acc.push (g acc o)) acc)[k]?=pre[k]?)/\(l.foldl (fun acc o=>acc.push (g acc o)) acc)[acc.size+j]?=some (g pre o):=by
 intro l
 induction l with
 |nil=>intro acc;exact⟨rfl,fun _ _=>rfl,fun j o h=>by simp at h⟩
 |cons x l ih=>
  intro acc;obtain⟨h1,h2,h3⟩:=ih (acc.push (g acc x));simp only[uW];refine⟨by rw[h1];simp;omega,fun j hj=>?_,fun j o ho=>?_⟩
  .rw[h2 j (by simp;omega),Array.getElem?_push,if_neg aa]
  cases j with
  |zero=>
   simp at ho;subst ho;refine⟨acc,aa,fun k hk=>?_,?_⟩
   .rw[h2 k (by simp;omega),Array.getElem?_push,if_neg aa]
   rw[rA,h2 acc.size af,Array.getElem?_push,if_pos rfl]
  |succ j=>obtain⟨pre,p1,p2,p3⟩:=h3 j o (by simpa using ho);refine⟨pre,by rw[p1];simp;omega,p2,?_⟩;rw[<- p3];simp only[Array.size_push];congr 1;omega
theorem am6{α:Type}(f:α->Bool)(g:α->Nat)(h:α->Nat):∀(l:List α) (s j:Nat),(l.foldl (fun s e=>if f e then s|||g e|||h e else s) s).testBit j=true->s.testBit j=true\/ ∃e∈l,f e=true/\((g e).testBit j=true\/(h e).testBit j=true):=by
 intro l
 induction l with
 |nil=>intro s j hh;exact .inl hh
 |cons x l ih=>
  intro s j hh;simp only[uW] at hh;rcases ih _ j hh with h1|⟨e,he,h2⟩
  .split at h1
   .rename_i hf;simp only[Nat.testBit_or,uq] at h1;rcases h1 with (h1|h1)|h1
    .exact .inl h1
    .exact .inr ⟨x,af,hf,.inl h1⟩
    exact .inr ⟨x,af,hf,.inr h1⟩
   exact .inl h1
  exact .inr ⟨e,by simp[he],h2⟩
theorem agZ{ops:Array Oper}(DV:Hx ops=true){i:Nat}{o:Oper}(ho:ops[i]?=some o){j:Nat}(hj:(((Region.before ops)[i]?).getD 0).testBit j=true):
  ∃e∈o.after,Region.binds .any e=true/\e.on<i/\(j=e.on\/(((Region.before ops)[e.on]?).getD 0).testBit j=true):=by
 unfold Region.before at hj ⊢;rw[<- Array.foldl_toList] at hj ⊢;obtain⟨h1,h2,h3⟩:=aol (fun(acc:Array Nat) (o:Oper)=>o.after.foldl (fun s e=>if Region.binds .any e then s|||2 ^ e.on|||acc.getD e.on 0 else s) 0) ops.toList #[];obtain⟨pre,p1,p2,p3⟩:=h3 i o (by simpa using ho);simp only[Array.size_empty,jc] at p1 p3;rw[p3] at hj;simp only[kA] at hj;rw[<- Array.foldl_toList] at hj;rcases am6 (fun e=>Region.binds .any e) (fun e=>2 ^ e.on) (fun e=>pre.getD e.on 0) _ _ _ hj with h|⟨e,he,hb,IC⟩
 .simp at h
 have aq:i<ops.size:=(Array.getElem?_eq_some_iff.1 ho).1;have Mr:e.on<i:=by unfold Hx at DV;have:=iC.1 DV i (by simpa using aq);rw[ho] at this;rw[iC] at this;have:=this e (by simpa using he);simp only[hb,Dg,Df,decide_eq_true_eq] at this;exact this
 refine⟨e,by simpa using he,hb,Mr,?_⟩;rcases IC with IC|IC
 .left;rw[Nat.testBit_two_pow] at IC;have h9:e.on=j:=by simpa using IC
  exact h9.symm
 right;rw[p2 e.on aa]
 simpa [Array.getD_eq_getD_getElem?] using IC
theorem X8{dst:Nat->Option Nat}{base nt anc:Nat}{o:Oper}{io:ch}(h:DB P dst base nt anc o=some io):io.anc=anc:=by
 unfold DB at h;split at h
 .simp only[dy] at h;obtain⟨g,_,rfl⟩:=h;rfl
 cases h
structure afC (P:Program) (ops:Array Oper) (base nt:Nat) (rem:List It) (listed:Array Bool):Prop where
 pair:rem.Pairwise fun p q=>p.i<q.i/\(q.io.anc.testBit p.i=true\/NT p q)
 comp:∀p∈rem,∃o,ops[p.i]?=some o/\DB P (fun j=>(ops[j]?).bind (·.dst)) ((base+p.i)*64) nt (((Region.before ops)[p.i]?).getD 0) o=some p.io
 size:listed.size=ops.size
 free:∀i:Nat,listed[i]?=some false↔ ∃p∈rem,p.i=i
 closed:∀i:Nat,listed[i]?=some true->∀j:Nat,(((Region.before ops)[i]?).getD 0).testBit j=true->listed[j]?=some true
theorem VJ{ops:Array Oper}{listed:Array Bool}{i:Nat}:i∈Region.ready .any ops listed↔i<ops.size/\listed.getD i true=false/\ ∃o,ops[i]?=some o/\ ∀e∈o.after,Region.binds .any e=true->listed.getD e.on false=true:=by
 unfold Region.ready;simp only[tv,fk,bQ,gH];constructor
 .rintro ⟨h1,h2,h3⟩
  refine⟨h1,h2,ops[i],by simp[h1],fun e he hb=>?_⟩;have ho:ops[i]?=some ops[i]:=by simp[h1]
  rw[ho] at h3;simp only[kX,kA,Array.all_eq_true'] at h3;have:=h3 e he;rw[hb] at this
  simpa using this
 rintro ⟨h1,h2,o,ho,h3⟩
 refine⟨h1,h2,?_⟩;rw[ho];simp only[kX,kA,Array.all_eq_true'];intro e he;cases hb:Region.binds .any e with
 |false=>rfl
 |true=>simp[h3 e he hb]
theorem aaF{l:Array Bool}{i:Nat}(h:l.getD i true=false):l[i]?=some false:=by
 rw[Array.getD_eq_getD_getElem?] at h;cases he:l[i]? with
 |none=>rw[he] at h;simp at h
 |some b=>rw[he] at h;simp at h;rw[h]
theorem ajO{l:Array Bool}{i:Nat}(h:l.getD i false=true):l[i]?=some true:=by
 rw[Array.getD_eq_getD_getElem?] at h;cases he:l[i]? with
 |none=>rw[he] at h;simp at h
 |some b=>rw[he] at h;simp at h;rw[h]
section
variable {G:World->Prop} (hG:Good G w0) {cp:fO} {cs:j8} (hP:Ds P G cp) (hS:Fp P G cs) (hL:Ae cs) {sh:Ctx}
include hG hP hS hL
theorem agb{ops:Array Oper}(DV:Hx ops=true){base nt:Nat}{Q:Exit->Act->World->Prop}{aE:Env}{ak:aB}:∀(fuel:Nat) {rem:List It} {listed:Array Bool} {aj:Env} {m:Mem} {a:Act},afC P ops base nt rem listed->rem.length<=fuel->
  steps sh cp cs (rem.map (·.io)) aj m.blk=some (aE,ak,rem.map (·.e))->Ok w0 m->jr m aj a.tmps->a.tmps.size=nt->Fq w0 m a nt aE ak (fun a' w'=>Q .normal a' w')->wpAny P .any ops Q fuel listed a m.w:=by
 intro fuel
 induction fuel with
 |zero=>
  intro rem listed aj m a hl hlen cA ao hr fS hK;have UE:rem=[]:=by
   cases rem with
   |nil=>rfl
   |cons _ _=>simp at hlen
  subst UE;simp only[lK,steps,fg,kY] at cA;obtain⟨rfl,rfl,_⟩:=cA;refine⟨?_,hK a m ao (Ev.refl m) rfl rfl hr fS rfl⟩;refine List.eq_nil_iff_forall_not_mem.2 fun i hi=>?_;obtain⟨_,h2,_⟩:=VJ.1 hi;obtain⟨p,hp,_⟩:=(hl.free i).1 (aaF h2);simp at hp
 |succ fuel ih=>
  intro rem listed aj m a hl hlen cA ao hr fS hK;refine⟨fun akB=>?_,fun i hi=>?_⟩
  .cases rem with
   |nil=>simp only[lK,steps,fg,kY] at cA;obtain⟨rfl,rfl,_⟩:=cA;exact hK a m ao (Ev.refl m) rfl rfl hr fS rfl
   |cons p rest=>
    exfalso;obtain⟨o,ho,_⟩:=hl.comp p af;have aq:p.i<ops.size:=(Array.getElem?_eq_some_iff.1 ho).1;have wS:p.i∈Region.ready .any ops listed:=by
     refine VJ.2 ⟨aq,?_,o,ho,fun e he hb=>?_⟩
     .rw[Array.getD_eq_getD_getElem?,(hl.free p.i).2 ⟨p,af,rfl⟩];rfl
     have Mr:e.on<p.i:=by unfold Hx at DV;have:=iC.1 DV p.i (by simpa using aq);rw[ho] at this;rw[iC] at this;have:=this e (by simpa using he);simp only[hb,Dg,Df,decide_eq_true_eq] at this;exact this
     have hs:e.on<listed.size:=by rw[hl.size];omega
     rw[Array.getD_eq_getD_getElem?];cases aU:listed[e.on] with
     |true=>simp[hs,aU]
     |false=>
      exfalso;obtain⟨q,hq,Es⟩:=(hl.free e.on).1 (by simp[hs,aU]);rcases cT.1 hq with rfl|hq
      .omega
      have:=((jP.1 hl.pair).1 q hq).1;omega
    rw[akB] at wS;simp at wS
  obtain⟨h1,h2,o,ho,h3⟩:=VJ.1 hi;obtain⟨p,hp,rfl⟩:=(hl.free i).1 (aaF h2);obtain⟨l1,l2,rfl⟩:=List.append_of_mem hp;obtain⟨o',lD,zt⟩:=hl.comp p hp;rw[ho] at lD;cases lD;have aaO:∀j:Nat,p.io.anc.testBit j=true->listed[j]?=some true:=by
   intro j hj;rw[X8 zt] at hj;obtain⟨e,he,hb,_,AM⟩:=agZ DV ho hj;have Mr:=ajO (h3 e he hb);rcases AM with rfl|AM
   .exact Mr
   exact hl.closed _ Mr j AM
  have IW:=NG.1 hl.pair;have akl:∀x∈l1,NT x p:=by
   intro x hx;rcases(IW.2.2 x hx p af).2 with h|h
   .have:=aaO _ h;rw[(hl.free x.i).2 ⟨x,by simp[hx],rfl⟩] at this;cases this
   exact h
  obtain⟨iF,bc,fL,eH⟩:=aq4 hL cA akl;have key:=aeE (Q:=Q) (K:=wpAny P .any ops Q fuel (listed.setIfInBounds p.i true)) hG hP hS zt fL ao hr fS (fun a1 m1 k1 k2 k3 k4 k5 k6 k7=>by
   subst k4;have aq:p.i<listed.size:=by rw[hl.size];exact h1
   refine ih (rem:=l1++l2) ⟨?_,fun q hq=>hl.comp q (by rcases fq.1 hq with h|h<;>simp[h]),by simp[hl.size],fun k=>?_,fun k hk j hj=>?_⟩ (by simp at hlen ⊢;omega) eH k1 k5 k6 ?_
   .refine NG.2 ⟨IW.1,(jP.1 IW.2.1).2,fun x hx y hy=>IW.2.2 x hx y (by simp[hy])⟩
   .rw[Array.getElem?_setIfInBounds];by_cases hk:p.i=k
    .subst hk;rw[if_pos rfl,if_pos aq];constructor
     .intro h;cases h
     rintro ⟨q,hq,Es⟩
     rcases fq.1 hq with h|h
     .have:=(IW.2.2 q h p af).1;omega
     have:=((jP.1 IW.2.1).1 q h).1;omega
    rw[if_neg hk,hl.free k];constructor
    .rintro ⟨q,hq,Es⟩
     rcases fq.1 hq with h|h
     .exact⟨q,by simp[h],Es⟩
     rcases cT.1 h with rfl|h
     .exact(hk Es).elim
     exact⟨q,by simp[h],Es⟩
    rintro ⟨q,hq,Es⟩
    rcases fq.1 hq with h|h
    .exact⟨q,by simp[h],Es⟩
    exact⟨q,by simp[h],Es⟩
   .have sk:∀j:Nat,listed[j]?=some true->(listed.setIfInBounds p.i true)[j]?=some true:=by
     intro j hj;rw[Array.getElem?_setIfInBounds];split
     .first
       |rfl
       |(rename_i e;rw[if_pos aq])
     exact hj
    by_cases r4:p.i=k
    .subst r4;refine sk j (aaO j ?_);rw[X8 zt];exact hj
    rw[Array.getElem?_setIfInBounds,if_neg r4] at hk;exact sk j (hl.closed k hk j hj)
   intro a2 m2 p1 p2 p3 p4 p5 p6 p7;exact hK a2 m2 p1 (k2.trans p2) (p3.trans k3) p4 p5 p6 (p7.trans k7))
  unfold wpOp;rw[ho];simp only;split at key
  .rename_i hw;rw[if_pos hw];exact .inl key
  rename_i hw;rw[if_neg hw];exact key
end
def tc:Nat->List ch->List bX->List It
 |i,x::xs,e::es=>⟨i,x,e⟩::tc (i+1) xs es
 |_,_,_=>[]
theorem amM:∀ {xs:List ch} {es:List bX} (i:Nat),es.length=xs.length->(tc i xs es).map (·.io)=xs/\(tc i xs es).map (·.e)=es:=by
 intro xs
 induction xs with
 |nil=>intro es i h;cases es with
  |nil=>exact⟨rfl,rfl⟩
  |cons _ _=>simp at h
 |cons x xs ih=>intro es i h;cases es with
  |nil=>simp at h
  |cons e es=>obtain⟨h1,h2⟩:=ih (es:=es) (i+1) (by simpa using h);exact⟨by simp[tc,h1],by simp[tc,h2]⟩
theorem ajv{o:ch}:∀ {past:List ch} {j:Nat},OE o j past=true->∀k x,past[k]?=some x->o.anc.testBit (j+k)=true\/FR x o=true:=by
 intro past
 induction past with
 |nil=>intro j _ k x h;simp at h
 |cons y past ih=>
  intro j h k x hk;simp only[OE,bQ,uq] at h;cases k with
  |zero=>simp at hk;subst hk;exact h.1
  |succ k=>have:=ih h.2 k x (by simpa using hk);rw[show j+(k+1)=j+1+k by omega];exact this
theorem am0{anc:Nat}{e:bX}:∀ {past:List bX} {j:Nat},Pv anc e j past=true->∀k x,past[k]?=some x->anc.testBit (j+k)=true\/FC x e=false:=by
 intro past
 induction past with
 |nil=>intro j _ k x h;simp at h
 |cons y past ih=>
  intro j h k x hk;simp only[Pv,bQ,uq,gH] at h;cases k with
  |zero=>simp at hk;subst hk;exact h.1
  |succ k=>have:=ih h.2 k x (by simpa using hk);rw[show j+(k+1)=j+1+k by omega];exact this
theorem amN:∀ {xs:List ch} {es:List bX} {past:List ch} {pe:List bX},es.length=xs.length->pe.length=past.length->La xs past=true->te xs pe es=true->
  (∀(q:It),q∈tc past.length xs es->∀(k:Nat) (x:ch) (e:bX),past[k]?=some x->pe[k]?=some e->q.io.anc.testBit k=true\/(FR x q.io=true/\FC e q.e=false))/\
  (∀q∈tc past.length xs es,past.length<=q.i)/\(tc past.length xs es).Pairwise fun p q=>p.i<q.i/\(q.io.anc.testBit p.i=true\/NT p q):=by
 intro xs
 induction xs with
 |nil=>
  intro es past pe _ _ _ _;have:tc past.length [] es=[]:=by cases es<;>rfl
  rw[this];exact⟨fun q h=>by simp at h,fun q h=>by simp at h,.nil⟩
 |cons x xs ih=>
  intro es past pe hl hp hf hd;cases es with
  |nil=>simp at hl
  |cons e es=>
   simp only[La,bQ] at hf;simp only[te,bQ] at hd;obtain⟨i1,i2,i3⟩:=ih (es:=es) (past:=past++[x]) (pe:=pe++[e]) (by simpa using hl) (by simp[hp]) hf.2 hd.2;have hlen:(past++[x]).length=past.length+1:=af;rw[hlen] at i1 i2 i3;simp only[tc];refine⟨?_,?_,jP.2 ⟨?_,i3⟩⟩
   .intro q hq k y f hy hf';rcases cT.1 hq with rfl|hq
    .have h1:=ajv hf.1 k y hy;have h2:=am0 hd.1 k f hf';rw[jc] at h1 h2;rcases h1 with h1|h1
     .exact .inl h1
     rcases h2 with h2|h2
     .exact .inl h2
     exact .inr ⟨h1,h2⟩
    have hk:k<past.length:=(aV.1 hy).1;exact i1 q hq k y f (by rw[oO hk];exact hy) (by rw[oO aa];exact hf')
   .intro q hq;rcases cT.1 hq with rfl|hq
    .exact aZ _
    have:=i2 q hq;omega
   intro q hq;refine⟨by have:=i2 q hq;simp only;omega,?_⟩;exact i1 q hq past.length x e af (by rw[<- hp];simp)
theorem amL{ops:Array Oper}{anc:Nat->Option Nat}{dst:Nat->Option Nat}{base nt:Nat}:∀ {r:List Oper} {xs:List ch} {es:List bX} {i:Nat},vZ P dst anc base nt i r=some xs->es.length=xs.length->(∀j,ops[i+j]?=r[j]?)->
  (∀p∈tc i xs es,∃o,ops[p.i]?=some o/\DB P dst ((base+p.i)*64) nt ((anc p.i).getD 0) o=some p.io)/\ ∀k,i<=k->k<i+r.length->∃p∈tc i xs es,p.i=k:=by
 intro r
 induction r with
 |nil=>
  intro xs es i h _ _;simp only[vZ,fg] at h;subst h;have:tc i [] es=[]:=by cases es<;>rfl
  rw[this];exact⟨fun p h=>by simp at h,fun k h1 h2=>by simp at h2;omega⟩
 |cons o r ih=>
  intro xs es i h hl Ms;obtain⟨x,xs',rfl,h1,h2⟩:=Rg h;cases es with
  |nil=>simp at hl
  |cons e es=>
   obtain⟨i1,i2⟩:=ih (es:=es) h2 (by simpa using hl) (fun j=>by have:=Ms (j+1);rw[show i+1+j=i+(j+1) by omega];simpa using this);refine⟨fun p hp=>?_,fun k cM r4=>?_⟩
   .rcases cT.1 hp with rfl|hp
    .exact⟨o,by have:=Ms 0;simpa using this,h1⟩
    exact i1 p hp
   by_cases hk:k=i
   .exact⟨⟨i,x,e⟩,by simp[tc],hk.symm⟩
   obtain⟨p,hp,iw⟩:=i2 k aa (by simp at r4;omega);exact⟨p,by simp[tc,hp],iw⟩
theorem aqy{sh:Ctx}{cp:fO}{cs:j8}:∀ {xs:List ch} {aj aE:Env} {blk ak:aB} {es:List bX},steps sh cp cs xs aj blk=some (aE,ak,es)->es.length=xs.length:=by
 intro xs
 induction xs with
 |nil=>intro aj aE blk ak es h;simp only[steps,fg,kY] at h;rw[<- h.2.2];rfl
 |cons x xs ih=>
  intro aj aE blk ak es h;simp only[steps] at h;split at h
  .split at h
   .rename_i h2;cases h;simp[ih h2]
   cases h
  cases h
theorem ahM{dst anc:Nat->Option Nat}{base nt:Nat}:∀ {r:List Oper} {xs:List ch} {i:Nat},vZ P dst anc base nt i r=some xs->xs.length=r.length:=by
 intro r
 induction r with
 |nil=>intro xs i h;simp only[vZ,fg] at h;subst h;rfl
 |cons o r ih=>intro xs i h;obtain⟨x,xs',rfl,_,h2⟩:=Rg h;simp[ih h2]
section
variable {G:World->Prop} (hG:Good G w0) {cp:fO} {cs:j8} (hP:Ds P G cp) (hS:Fp P G cs) (hL:Ae cs) {sh:Ctx}
include hG hP hS hL
theorem aiv(zu:P.follows .mixedOrders=true){ops:Array Oper}{base nt id:Nat}{Q:Exit->Act->World->Prop}{l:List ch}{aj aE:Env}{m:Mem}{ak:aB}{es:List bX}{a:Act}(hc:vZ P (fun j=>(ops[j]?).bind (·.dst)) (fun i=>(Region.before ops)[i]?) base nt 0 ops.toList=some l)
  (DV:Hx ops=true) (hf:La l []=true) (cA:steps sh cp cs l aj m.blk=some (aE,ak,es)) (hd:te l [] es=true) (ao:Ok w0 m) (hr:jr m aj a.tmps) (fS:a.tmps.size=nt) (hK:Fq w0 m a nt aE ak (fun a' w'=>Q .normal a' w')):(Code.region id ops true).wp P Q a m.w:=by
 refine wp_region_any zu ?_;have hlen:=aqy cA;have l7:l.length=ops.size:=by have:=ahM hc;simpa using this
 obtain⟨g1,g2⟩:=amM 0 hlen;obtain⟨_,_,hp⟩:=amN (past:=[]) (pe:=[]) hlen rfl hf hd;obtain⟨c1,c2⟩:=amL (ops:=ops) hc hlen (fun j=>af);have nA:Ok w0 (m.later m.w.drew fun _=>False):=Jl ao (fm.drew _) fun _ h=>h.elim;have ve:Ev m (m.later m.w.drew fun _=>False):=Gy (fm.drew _) fun _ h=>h.elim;have tR:(m.later m.w.drew fun _=>False).fr=m.fr:=by funext c;simp[Mem.later]
 refine agb (m:=m.later m.w.drew fun _=>False) hG hP hS hL DV ops.size (rem:=tc 0 l es) (base:=base) ⟨hp,c1,af,fun i=>?_,fun i hi=>?_⟩ ?_ (by rw[g1,g2];exact cA) nA (hr.ev ve) fS ?_
 .constructor
  .intro h;have hi:i<ops.size:=by
    have:=(Array.getElem?_eq_some_iff.1 h).1
    simpa using this
   exact c2 i (aY _) (by simpa using hi)
  rintro ⟨p,hp,rfl⟩
  obtain⟨o,ho,_⟩:=c1 p hp;have hi:p.i<ops.size:=(Array.getElem?_eq_some_iff.1 ho).1;simp[hi]
 .rw[Array.getElem?_replicate] at hi;split at hi<;>simp at hi
 .have:(tc 0 l es).length=l.length:=by have:=congrArg List.length g1;simpa using this
  omega
 intro a2 m2 p1 p2 p3 p4 p5 p6 p7;exact hK a2 m2 p1 (ve.trans p2) (p3.trans tR) p4 p5 p6 p7
end
end Go.Abs
namespace Go.Abs
variable {P:Program} {w0:World}
def toE:mD->Exit
 | .normal=>.normal
 | .exit i=>.exit i
 | .ret=>.ret
section
variable {G:World->Prop} (hG:Good G w0) {cp:fO} {cs:j8} (hP:Ds P G cp) (hS:Fp P G cs) (hL:Ae cs) (zu:P.follows .mixedOrders=true) {sh:Ctx}
include hG hP hS hL zu
theorem ai0{n f nt:Nat}:∀(c:Code) {ic:aL} {aj aE:Env} {m:Mem} {ak:aB} {e:mD} {a:Act} {Q:Exit->Act->World->Prop},pz P f nt c=some ic->exec sh cp cs n ic aj m.blk=some (e,aE,ak)->Ok w0 m->jr m aj a.tmps->a.tmps.size=nt->
  Fq w0 m a nt aE ak (fun a' w'=>Q (toE e) a' w')->c.wp P Q a m.w:=by
 intro c
 induction c with
 |skip=>intro ic aj aE m ak e a Q hc hx ao hr fS hK;simp only[pz,fg] at hc;subst hc;simp only[exec,fg,kY] at hx;obtain⟨rfl,rfl,rfl⟩:=hx;exact wp_skip (hK a m ao (Ev.refl m) rfl rfl hr fS rfl)
 |label l=>intro ic aj aE m ak e a Q hc hx ao hr fS hK;simp only[pz,fg] at hc;subst hc;simp only[exec,fg,kY] at hx;obtain⟨rfl,rfl,rfl⟩:=hx;exact wp_label (hK a m ao (Ev.refl m) rfl rfl hr fS rfl)
 |ret=>intro ic aj aE m ak e a Q hc hx ao hr fS hK;simp only[pz,fg] at hc;subst hc;simp only[exec,fg,kY] at hx;obtain⟨rfl,rfl,rfl⟩:=hx;exact wp_ret (hK a m ao (Ev.refl m) rfl rfl hr fS rfl)
 |exit id=>intro ic aj aE m ak e a Q hc hx ao hr fS hK;simp only[pz,fg] at hc;subst hc;simp only[exec,fg,kY] at hx;obtain⟨rfl,rfl,rfl⟩:=hx;exact wp_exit (hK a m ao (Ev.refl m) rfl rfl hr fS rfl)
 |region id ops draw=>
  intro ic aj aE m ak e a Q hc hx ao hr fS hK;simp only[pz] at hc;split at hc
  .rename_i xs Gr;cases draw with
   |false=>
    simp only[eY,if_false,fg] at hc;subst hc;simp only[exec] at hx;split at hx
    .rename_i e1 b1 es cA;simp only[eY,if_false,fg,kY] at hx;obtain⟨rfl,rfl,rfl⟩:=hx;exact aoA hG hP hS Gr cA ao hr fS hK
    cases hx
   |true=>
    simp only[if_true] at hc Gr;split at hc
    .rename_i ye;simp only[bQ] at ye;cases hc;simp only[exec] at hx;split at hx
     .rename_i e1 b1 es cA;simp only[if_true] at hx;split at hx
      .rename_i hd;cases hx;exact aiv hG hP hS hL zu Gr ye.1 ye.2 cA hd ao hr fS hK
      cases hx
     cases hx
    cases hc
  cases hc
 |seq x y ihx ihy=>
  intro ic aj aE m ak e a Q hc hx ao hr fS hK;simp only[pz] at hc;split at hc
  .rename_i ix iy h1 h2;cases hc;simp only[exec] at hx;refine wp_seq ?_;split at hx
   .rename_i iF bc pO;refine ihx h1 pO ao hr fS ?_;intro a1 m1 k1 k2 k3 k4 k5 k6 k7;subst k4;refine ihy h2 hx k1 k5 k6 ?_;intro a2 m2 p1 p2 p3 p4 p5 p6 p7;exact hK a2 m2 p1 (k2.trans p2) (p3.trans k3) p4 p5 p6 (p7.trans k7)
   rename_i aK;refine ihx h1 hx ao hr fS ?_;intro a1 m1 k1 k2 k3 k4 k5 k6 k7;have:=hK a1 m1 k1 k2 k3 k4 k5 k6 k7;cases e with
   |normal=>exact(aK aE ak hx).elim
   |exit i=>exact this
   |ret=>exact this
  cases hc
 |cond x p q ihp ihq=>
  intro ic aj aE m ak e a Q hc hx ao hr fS hK;simp only[pz] at hc;split at hc
  .rename_i c' ip iq h1 h2 h3;cases hc;simp only[exec] at hx;split at hx
   .rename_i t ht;have hv:=eE h1 hr;rw[ht] at hv;refine wp_cond (EC hv) ?_;cases t with
    |true=>simp only[if_true] at hx ⊢;exact ihp h2 hx ao hr fS hK
    |false=>simp only[eY,if_false] at hx ⊢;exact ihq h3 hx ao hr fS hK
   cases hx
  cases hc
 |block id c ih=>
  intro ic aj aE m ak e a Q hc hx ao hr fS hK;simp only[pz,dy] at hc;obtain⟨ic',h1,rfl⟩:=hc;simp only[exec] at hx;refine wp_block ?_;split at hx
  .rename_i i iF bc pO;refine ih h1 pO ao hr fS ?_;intro a1 m1 k1 k2 k3 k4 k5 k6 k7;simp only[toE,Exit.inBlock];split at hx
   .rename_i hi;cases hx;rw[if_pos hi];exact hK a1 m1 k1 k2 k3 k4 k5 k6 k7
   rename_i hi;cases hx;rw[if_neg hi];exact hK a1 m1 k1 k2 k3 k4 k5 k6 k7
  rename_i aK;refine ih h1 hx ao hr fS ?_;intro a1 m1 k1 k2 k3 k4 k5 k6 k7;have:=hK a1 m1 k1 k2 k3 k4 k5 k6 k7;cases e with
  |normal=>exact this
  |exit i=>exact(aK i aE ak hx).elim
  |ret=>exact this
 |loop c ih=>
  intro ic aj aE m ak e a Q hc hx ao hr fS hK;simp only[pz,dy] at hc;obtain⟨ic',h1,rfl⟩:=hc;simp only[exec] at hx;refine wp_loop_rounds n ?_;have key:∀(k:Nat) {aj:Env} {m:Mem} {a:Act},iter (exec sh cp cs n ic') k aj m.blk=some (e,aE,ak)->Ok w0 m->jr m aj a.tmps->a.tmps.size=nt->Fq w0 m a nt aE ak (fun a' w'=>Q (toE e) a' w')->Code.rounds P c Q k a m.w:=by
   intro k
   induction k with
   |zero=>intro aj m a hx;simp[iter] at hx
   |succ k ihk=>
    intro aj m a hx ao hr fS hK;rw[rounds_succ];simp only[iter] at hx;split at hx
    .rename_i iF bc pO;refine ih h1 pO ao hr fS ?_;intro a1 m1 k1 k2 k3 k4 k5 k6 k7;subst k4;refine ihk hx k1 k5 k6 ?_;intro a2 m2 p1 p2 p3 p4 p5 p6 p7;exact hK a2 m2 p1 (k2.trans p2) (p3.trans k3) p4 p5 p6 (p7.trans k7)
    rename_i aK;refine ih h1 hx ao hr fS ?_;intro a1 m1 k1 k2 k3 k4 k5 k6 k7;have:=hK a1 m1 k1 k2 k3 k4 k5 k6 k7;cases e with
    |normal=>exact(aK aE ak hx).elim
    |exit i=>exact this
    |ret=>exact this
  exact key n hx ao hr fS hK
 |scope c ih=>intro ic aj aE m ak e a Q hc hx ao hr fS hK;simp only[pz] at hc;refine wp_scope_straight ?_;refine ih hc hx ao hr fS ?_;intro a1 m1 k1 k2 k3 k4 k5 k6 k7;have:=hK a1 m1 k1 k2 k3 k4 k5 k6 k7;cases e<;>exact this
 |_=>intro ic aj aE m ak e a Q hc hx;simp only[pz,fg] at hc;subst hc;simp[exec] at hx
end
end Go.Abs
namespace Go.Abs
variable {P:Program} {w0:World}
section
variable{m:Mem}
theorem aqO{k:Option Nat}{cs:List C}{v:V}{u:Value}(h:pZ k cs=some v)(hr:bN m v u):n0 m v u:=by
 unfold pZ at h;split at h
 .split at h
  .cases h;exact hr
  cases h
 split at h
 .cases h;exact hr
 cases h
theorem amU{x v:V}{u:Value}(h:Pu x=some v)(hr:bN m x u):n0 m v u:=by cases x<;>simp only[Pu,fg,reduceCtorEq] at h<;>subst h<;>exact hr
theorem acm{α β:Type}{f:α->Sem β}{x:α}{xs:List α}{y:β}{ys:List β}{w:World}(h1:(f x).run P w=.ok y w)(h2:(xs.mapM f).run P w=.ok ys w):((x::xs).mapM f).run P w=.ok (y::ys) w:=by simp only[List.mapM_cons,Sem.run_bind,h1,h2,Result.andThen_ok,Sem.run_pure]
theorem aoE{al:Al}(ao:Ok w0 m){aj:Env}{tmps:Array Value}(hr:jr m aj tmps):∀ {rs:List ResultVar} {l:List (Nat×Option (Option Nat))} {vs:List V},Bd P rs=some l->oF al aj m.blk l=some vs->
  ∃ys,(rs.mapM (fun| .tmp t=>pure (tmps.getD t undef)| .cell a t=>do loadVar t (<- asAddr (tmps.getD a undef)):ResultVar->Sem Value)).run P m.w=.ok ys m.w/\Pw (n0 m) vs ys:=by
 intro rs
 induction rs with
 |nil=>intro l vs h1 h2;simp only[Bd,fg] at h1;subst h1;simp only[oF,fg] at h2;subst h2;exact⟨[],by simp[Sem.run_pure],rfl,fun j x u p=>by simp at p⟩
 |cons r rs ih=>
  intro l vs h1 h2;have cons:∀ {x:V} {xs:List V} {y:Value} {ys:List Value},n0 m x y->Pw (n0 m) xs ys->Pw (n0 m) (x::xs) (y::ys):=by
   intro x xs y ys p q;refine⟨by simp[q.1],fun j z u a b=>?_⟩;cases j with
   |zero=>simp at a b;subst a b;exact p
   |succ j=>exact q.2 j z u (by simpa using a) (by simpa using b)
  cases r with
  |tmp t=>
   simp only[Bd,dy] at h1;obtain⟨l',h3,rfl⟩:=h1;simp only[oF] at h2;split at h2
   .rename_i v q e1 e2;cases h2;obtain⟨ys,g1,g2⟩:=ih h3 e2;exact⟨_::ys,acm (by simp[Sem.run_pure]) g1,cons (amU e1 (hr t)) g2⟩
   cases h2
  |cell a t=>
   simp only[Bd] at h1;split at h1
   .rename_i k q e1 e2;cases h1;simp only[oF] at h2;split at h2
    .rename_i cs rd ws e3 e4;split at h2
     case isFalse=>cases h2
     simp only[dy] at h2;obtain⟨v,hv,rfl⟩:=h2;obtain⟨ys,g1,g2⟩:=ih e2 e4;obtain⟨ad,y,p1,p2,p3⟩:=ab7 e1 (adE ao e3 (hr a)) hv;exact⟨y::ys,acm (by simp[p1,asAddr,p2]) g1,cons (aqO hv p3) g2⟩
    cases h2
   cases h1
theorem aoF{al:Al}(ao:Ok w0 m){aj:Env}{tmps:Array Value}(hr:jr m aj tmps){fn:Func}{l:List (Nat×Option (Option Nat))}{vs:List V}(h1:Bd P fn.results.toList=some l)(h2:oF al aj m.blk l=some vs):
  ∃y,(results fn tmps).run P m.w=.ok y m.w/\bN m (zY vs) y:=by
 obtain⟨ys,g1,g2⟩:=aoE ao hr h1 h2;have k9:(results fn tmps).run P m.w=.ok (if h:ys.toArray.size=1 then ys.toArray[0] else .tuple ys.toArray) m.w:=by
  unfold results;simp only[Array.mapM_eq_mapM_toList,map_eq_pure_bind,Sem.run_bind,Result.andThen_ok,Sem.run_pure,bind_assoc,pure_bind]
  erw[g1]
  simp only[Result.andThen_ok,Sem.run_pure]
 refine⟨_,k9,?_⟩
 match vs,ys,g2 with
 |[v],[y],g2=>exact bN.of1 (g2.2 0 v y rfl rfl)
 |[],[],g2=>exact⟨_,rfl,rfl,fun j x u p=>by simp at p⟩
 |v::v'::vs,y::y'::ys,g2=>refine⟨_,rfl,by simpa using g2.1,fun j x u p q=>g2.2 j x u p (by simpa using q)⟩
 |[],y::ys,g2=>exact absurd g2.1 af
 |v::vs,[],g2=>exact absurd g2.1 af
 |[v],y::y'::ys,g2=>exact absurd g2.1 af
 |v::v'::vs,[y],g2=>exact absurd g2.1 af
theorem X6{f:Nat}{fn:aX}(h:Ai P f=some fn):∃kf c,P.funcs[f]?=some kf/\kf.body=some c/\(kf.name== "runtime.NumGoroutine")=false/\pz P f kf.ntmps c=some fn.body/\Bd P kf.results.toList=some fn.results/\fn.ntmps=kf.ntmps:=by
 unfold Ai at h;split at h
 .cases h
 rename_i kf hf;split at h
 .cases h
 rename_i c hc;split at h
 .cases h
 rename_i hn;split at h
 .rename_i b r h1 h2;cases h;exact⟨kf,c,hf,hc,by simpa using hn,h1,h2,rfl⟩
 cases h
def WJ(S:Sys)(G:World->Prop):Prop:=∀f vs r,S.prim f vs=some (some r)->Enters S.P f/\ ∀(w:World) (O:Nat->Prop) (args:Array Value),Good G w->(∀c,O c->c<w.heap.size)->Pw (rC w O) vs args.toList->Calls S.P f args w (u0 w O r)
def WK(S:Sys)(G:World->Prop):Prop:=∀f vs al blk v ak,S.trig f vs=true->(S.primS f vs al blk).map (fun r=>(r.1,app r.2 blk))=some (v,ak)->
 (Enters S.P f/\ ∀(w0:World) (m:Mem) (args:Array Value),Good G w0->Ok w0 m->m.blk=blk->Pw (bN m) vs args.toList->Calls S.P f args m.w (Bx w0 m v ak))/\
 (∀id,al.ok id=false->ak id=blk id)/\
 ∀aT,(∀id,al.ok id=true->aT id=blk id)->∃mr,(S.primS f vs al aT).map (fun r=>(r.1,app r.2 aT))=some (v,mr)/\ ∀id,mr id=if al.ok id then ak id else aT id
structure Hr (S:Sys) (G:World->Prop):Prop where
 follow:S.P.follows .mixedOrders=true
 fns:∀f fn,S.fns f=some fn->Ai S.P f=some fn
 prim:WJ S G
 primS:WK S G
theorem aqq{vs:List V}{args:Array Value}{nt:Nat}(h:Pw (bN m) vs args.toList)(hl:vs.length<=nt):jr m (sv vs) (args++Array.replicate (nt-args.size) undef)/\(args++Array.replicate (nt-args.size) undef).size=nt:=by
 have hs:args.size=vs.length:=by simpa using h.1
 constructor
 .intro t;by_cases ht:t<vs.length
  .have h1:sv vs t=vs[t]:=by simp[sv,List.getD,ht]
   have h2:(args++Array.replicate (nt-args.size) undef).getD t undef=args[t]:=by simp[Array.getD_eq_getD_getElem?,Array.getElem?_append,hs,ht]
   rw[h1,h2];exact h.2 t _ _ (by simp[ht]) (by simp[hs,ht])
  have h1:sv vs t=.undef:=by simp[sv,List.getD,mS (Nat.le_of_not_lt ht)]
  have h2:(args++Array.replicate (nt-args.size) undef).getD t undef=undef:=by simp only[Array.getD_eq_getD_getElem?,Array.getElem?_append,hs,if_neg ht];rw[Array.getElem?_replicate];split<;>rfl
  rw[h1,h2];rfl
 simp;omega
theorem agc(ao:Ok w0 m):∀ {o q:List Nat},apart o q=true->(∀id∈o,∃ob,(m.blk id).2=some ob/\ob.fD=true)->(o.map m.σ).Nodup/\ ∀id∈q,id∉o:=by
 intro o
 induction o with
 |nil=>intro q _ _;exact⟨af,fun id _ h=>by simp at h⟩
 |cons i o ih=>
  intro q h hm;simp only[apart,bQ,gH] at h;obtain⟨⟨h1,h2⟩,h3⟩:=h;obtain⟨i1,i2⟩:=ih h3 (fun id hid=>hm id (by simp[hid]));have jI:i∉o:=by simpa using h1
  have ij:i∉q:=by simpa using h2
  refine⟨?_,fun id hid=>?_⟩
  .rw[dG,nY];refine⟨fun wS=>?_,i1⟩;obtain⟨j,hj,he⟩:=dr.1 wS;obtain⟨ob,a1,a2⟩:=hm i af;obtain⟨ob',b1,b2⟩:=hm j (by simp[hj]);exact jI (ao.inj j i ob' ob b1 b2 a1 a2 he▸hj)
  simp only[cT,not_or];exact⟨fun e=>ij (e▸hid),i2 id hid⟩
theorem am9{blk:aB}:∀ {cs:List C} {rs:List RC} {o q:List Nat},mN blk cs=some (rs,o,q)->rs.length=cs.length:=by
 intro cs
 induction cs with
 |nil=>intro rs o q h;simp only[mN,fg,kY] at h;obtain⟨rfl,_,_⟩:=h;rfl
 |cons c cs ih=>
  intro rs o q h;simp only[mN] at h;split at h
  .rename_i x o1 q1 xs os qs h1 h2;cases h;simp[ih h2]
  cases h
theorem X3{α β:Type}{f:α->Option (β×List Nat)}:∀ {xs:List α} {ys:List β} {r:List Nat},collect f xs=some (ys,r)->∀id∈r,∃x y q,f x=some (y,q)/\id∈q:=by
 intro xs
 induction xs with
 |nil=>intro ys r h id hid;simp[collect] at h;rw[h.2] at hid;simp at hid
 |cons x xs ih=>
  intro ys r h id hid;simp only[collect] at h;split at h
  .rename_i b p bs q e1 e2;cases h;rcases fq.1 hid with hid|hid
   .exact⟨x,b,p,e1,hid⟩
   exact ih e2 id hid
  cases h
theorem ap3{blk:aB}:∀ {n:Nat} {c:C} {x:PV} {r:List Nat},snap blk n c=some (x,r)->∀id∈r,∃ob,(blk id).2=some ob:=by
 intro n
 induction n with
 |zero=>intro c x r h;simp[snap] at h
 |succ n ih=>
  intro c x r h id hid;have one:∀ {i:Nat} {ob:Ob} {g:Nat},blk i=(g,some ob)->id∈[i]->∃ob,(blk id).2=some ob:=by intro i ob g hb hi;simp at hi;subst hi;exact⟨ob,by rw[hb]⟩
  have coll:∀ {cs:List C} {ps:List PV} {r:List Nat},collect (snap blk n) cs=some (ps,r)->id∈r->∃ob,(blk id).2=some ob:=by intro cs ps r h hi;obtain⟨x,y,q,h1,h2⟩:=X3 h id hi;exact ih h1 id h2
  unfold snap at h;split at h
  .cases h;simp at hid
  .split at h
   .rename_i hb;split at h
    .split at h
     .rename_i hc;cases h;rcases cT.1 hid with e|hid
      .exact one hb (by simp[e])
      exact coll hc hid
     cases h
    cases h
   .rename_i hb;split at h
    .cases h;exact one hb hid
    cases h
   cases h
  .split at h
   .rename_i hb;split at h
    .simp only[dy] at h;obtain⟨e,_,h2⟩:=h;cases h2;exact one hb hid
    cases h
   .rename_i hb;split at h
    .simp only[dy] at h;obtain⟨e,_,h2⟩:=h;cases h2;exact one hb hid
    cases h
   cases h
  .split at h
   .rename_i hb;split at h
    .cases h;exact one hb hid
    cases h
   .rename_i hb;split at h
    .cases h;exact one hb hid
    cases h
   .rename_i hb;split at h
    .split at h
     .rename_i hc;cases h;rcases cT.1 hid with e|hid
      .exact one hb (by simp[e])
      obtain⟨x,y,q,h1,h2⟩:=X3 hc id hid;exact coll h1 h2
     cases h
    cases h
   cases h
  .split at h
   .rename_i hb;split at h
    .cases h;exact one hb hid
    cases h
   .rename_i hb;split at h
    .cases h;exact one hb hid
    cases h
   cases h
  split at h
  .rename_i h1 h2;cases h;rcases fq.1 hid with hid|hid
   .exact coll h1 hid
   exact coll h2 hid
  cases h
theorem ana{blk:aB}:∀ {cs:List C} {rs:List RC} {o q:List Nat},mN blk cs=some (rs,o,q)->∀id∈q,∃ob,(blk id).2=some ob:=by
 intro cs
 induction cs with
 |nil=>intro rs o q h id hid;simp only[mN,fg,kY] at h;rw[<- h.2.2] at hid;simp at hid
 |cons c cs ih=>
  intro rs o q h id hid;simp only[mN] at h;split at h
  .rename_i x o1 q1 xs os qs h1 h2;cases h;rcases fq.1 hid with hid|hid
   .have sn:(snap blk dO c).map (fun(v,r)=>((.p v:RC),([]:List Nat),r))=some (x,o1,q1)->∃ob,(blk id).2=some ob:=by
     intro h1;simp only[dy] at h1;obtain⟨⟨y,r⟩,h3,h4⟩:=h1;cases h4;exact ap3 h3 id hid
    unfold lG at h1;split at h1
    .cases h1;simp at hid
    .split at h1
     .split at h1
      .cases h1;simp at hid
      cases h1
     exact sn h1
    exact sn h1
   exact ih h2 id hid
  cases h
theorem anb{w:World}{O:Nat->Prop}{m0:Mem}(ao:Ok w m)(dD:Ev m0 m)(pK:m0.w=w)(Um:∀c,¬m0.fD c)(tR:m.fr=O){v:V}{r:RV}{val:Value}(h:kx m.blk v=some r)(hr:bN m v val):u0 w O r (.returned val) m.w:=by
 unfold kx at h;split at h
 .rename_i cs cY;split at h
  .rename_i rs o q ho;split at h
   .rename_i xU;cases h;obtain⟨vs,hc,eC⟩:=ajo cY hr;obtain⟨g1,g2⟩:=eC rs (am9 ho);have hm:=(ac5 ao (Q:=fun _=>False) (fun _ h=>h.elim) ho hc (fun _ _ h=>h)).2;obtain⟨im,ake⟩:=agc ao xU hm;have aaN:∀b,(O b\/b∈o.map m.σ)->m.own b:=by
     intro b hb;rcases hb with hb|hb
     .exact .inl (tR▸hb)
     obtain⟨id,hid,rfl⟩:=dr.1 hb;obtain⟨ob,h1,h2⟩:=hm id hid;exact .inr ⟨id,ob,h1,h2,rfl⟩
    have hq:∀id∈q,¬(O (m.σ id)\/m.σ id∈o.map m.σ):=by
     intro id hid hn;obtain⟨ob,hob⟩:=ana ho id hid;by_cases IS:ob.fD=true
     .rcases hn with hn|hn
      .exact(ao.ek id ob hob IS).2 (tR▸hn)
      obtain⟨j,hj,he⟩:=dr.1 hn;obtain⟨ob',b1,b2⟩:=hm j hj;exact ake id hid (ao.inj j id ob' ob b1 b2 hob IS he▸hj)
     have dF:¬m.own (m.σ id):=by
      have AM:=ao.obj id ob hob;cases ob<;>simp[Ob.fD] at IS
      .obtain⟨_,_,_,_,_,dF⟩:=AM;exact dF
      .obtain⟨_,_,_,_,_,_,_,_,_,dF⟩:=AM;exact dF
      obtain⟨_,_,_,_,_,dF⟩:=AM;exact dF
     exact dF (aaN _ hn)
    obtain⟨hrc,_⟩:=ac5 ao aaN ho hc hq;subst pK;refine⟨val,o.map m.σ,rfl,⟨dD.os,dD.tape,dD.output,dD.size,fun c hc=>dD.keep c hc (Um c)⟩,im,fun c hc=>?_,vs,g2,by rw[g1];exact hrc⟩;obtain⟨id,hid,rfl⟩:=dr.1 hc;obtain⟨ob,h1,h2⟩:=hm id hid;exact⟨(ao.ek id ob h1 h2).1,(ao.obj id ob h1).lt⟩
   cases h
  cases h
 cases h
theorem rC.vrel{w:World}{O:Nat->Prop}(hw:m.w=w)(ho:m.own=O){x:V}{v:Value}(h:rC w O x v):bN m x v:=by
 subst hw ho;cases x with
 |undef=>exact h.elim
 |tup _=>exact h.elim
 |one c=>
  cases c with
  |p x=>exact mz h
  |_=>exact h.elim
 |agg cs=>obtain⟨arr,ps,rfl,rfl,hp⟩:=h;exact bN.agg.2 ⟨arr,rfl,hp.Da⟩
theorem aoX{sh:Ctx}{cp:fO}{cs:j8}{n:Nat}{fn:aX}{args:List V}{blk ak:aB}{v:V}(h:rq sh cp cs n fn args blk=some (v,ak)):
  ∃e aj vs,exec sh cp cs n fn.body (sv args) blk=some (e,aj,ak)/\(e=.normal\/e=.ret)/\oF sh.al aj ak fn.results=some vs/\v=zY vs:=by
 unfold rq at h;split at h
 .rename_i aj b hx;simp only[dy] at h;obtain⟨vs,h1,h2⟩:=h;cases h2;exact⟨_,aj,vs,hx,.inl rfl,h1,rfl⟩
 .rename_i aj b hx;simp only[dy] at h;obtain⟨vs,h1,h2⟩:=h;cases h2;exact⟨_,aj,vs,hx,.inr rfl,h1,rfl⟩
 cases h
theorem adT{G:World->Prop}(hG:Good G w0){cp:fO}{cs:j8}(hP:Ds P G cp)(hS:Fp P G cs)(hL:Ae cs)(zu:P.follows .mixedOrders=true){sh:Ctx}{n f:Nat}{fn:aX}(hc:Ai P f=some fn){vs:List V}{m:Mem}{v:V}{ak:aB}{args:Array Value}(h:rq sh cp cs n fn vs m.blk=some (v,ak))
  (hl:vs.length<=fn.ntmps) (ao:Ok w0 m) (ha:Pw (bN m) vs args.toList):Calls P f args m.w (Bx w0 m v ak):=by
 obtain⟨kf,c,h1,h2,h3,h4,h5,h6⟩:=X6 hc;obtain⟨e,aj,rs,hx,he,gJ,rfl⟩:=aoX h;refine calls_of_wp h1 h2 ?_;obtain⟨s1,s2⟩:=aqq (nt:=kf.ntmps) ha (by rw[<- h6];exact hl);refine ai0 hG hP hS hL zu c h4 hx ao s1 s2 ?_;intro a' m' k1 k2 k3 k4 k5 k6 k7;subst k4;obtain⟨y,g1,g2⟩:=aoF k1 k5 h5 gJ;have:bodyPost P kf (Bx w0 m (zY rs) m'.blk) .normal a' m'.w:=⟨k7,y,g1,y,m',rfl,rfl,k1,k2,k3,rfl,g2⟩;rcases he with rfl|rfl
 .exact this
 exact this
theorem enters_of{f:Nat}{fn:aX}(hc:Ai P f=some fn):Enters P f:=by obtain⟨kf,c,h1,h2,h3,_⟩:=X6 hc;exact⟨kf,c,h1,h2,h3⟩
theorem sound{S:Sys}{G:World->Prop}(h:Hr S G):∀n,Ds S.P G (js S n)/\Fp S.P G (ia S n)/\Ae (ia S n):=by
 intro n
 induction n with
 |zero=>exact⟨fun f vs r h=>by simp[js] at h,fun f vs al blk v ak h=>by simp[ia] at h,fun f vs al blk v ak h=>by simp[ia] at h⟩
 |succ n ih=>
  obtain⟨hP,hS,hL⟩:=ih;refine⟨?_,?_,?_⟩
  .intro f vs r hc;rw[js] at hc;split at hc
   .rename_i r' hp;subst hc;exact h.prim f vs r hp
   split at hc
   .rename_i fn hfn;have vc:=h.fns f fn hfn;split at hc
    .rename_i hl;refine⟨enters_of vc,fun w O args hG hO ha=>?_⟩;unfold E0 at hc;split at hc
     .rename_i v ak hr
      let m0:Mem:=⟨w,A5,fun _=>0,fun _=>0,O⟩
      have akU:m0.own=O:=by
       funext c;apply propext;constructor
       .rintro (h|⟨id,o,h,_⟩)
        .exact h
        cases h
       exact .inl
      have ao:Ok w m0:=⟨rfl,rfl,rfl,aZ _,fun _ _=>rfl,(fun id o h=>by cases h),(fun id o h=>by cases h),hO,(fun id eV o o' h=>by cases h)⟩;have hav:Pw (bN m0) vs args.toList:=⟨ha.1,fun j x u p q=>(ha.2 j x u p q).vrel rfl akU⟩;refine(adT hG hP hS hL h.follow vc (m:=m0) hr hl ao hav).mono ?_;rintro e w' ⟨val,m',rfl,rfl,q1,q2,q3,q4,q5⟩
      subst q4;exact anb (m0:=m0) q1 q2 rfl (fun c ⟨id,o,h,_⟩=>by cases h) q3 hc q5
     cases hc
    cases hc
   cases hc
  .intro f vs al blk v ak hc;rw[ia] at hc;by_cases ht:S.trig f vs=true
   .rw[if_pos ht] at hc;exact(h.primS f vs al blk v ak ht hc).1
   rw[if_neg ht] at hc;split at hc
   .rename_i fn hfn;have vc:=h.fns f fn hfn;split at hc
    .rename_i hl;refine⟨enters_of vc,fun w0 m args hG ao hb ha=>?_⟩;subst hb;exact adT hG hP hS hL h.follow vc hc hl ao ha
    cases hc
   cases hc
  intro f vs al blk v ak hc;rw[ia] at hc;by_cases ht:S.trig f vs=true
  .rw[if_pos ht] at hc;obtain⟨_,l1,l2⟩:=h.primS f vs al blk v ak ht hc;refine⟨l1,fun aT h2=>?_⟩;obtain⟨b3,h3,h4⟩:=l2 aT h2;exact⟨b3,by rw[ia,if_pos ht];exact h3,h4⟩
  rw[if_neg ht] at hc;split at hc
  .rename_i fn hfn;split at hc
   .rename_i hl;obtain⟨l1,l2⟩:=aoW hL hc;refine⟨l1,fun aT h2=>?_⟩;obtain⟨b3,h3,h4⟩:=l2 aT h2;exact⟨b3,by rw[ia,if_neg ht];simp only[hfn,hl,if_true];exact h3,h4⟩
   cases hc
  cases hc
theorem aH.calls{S:Sys}{G:World->Prop}(h:Hr S G){f:Nat}{vs:List V}{r:RV}(hc:aH S f vs r)(w:World)(hG:Good G w)(args:Array Value)(ha:Pw (rC w fun _=>False) vs args.toList):Calls S.P f args w (u0 w (fun _=>False) r):=by obtain⟨n,hn⟩:=hc;exact((sound h n).1 f vs r hn).2 w _ args hG (fun c h=>h.elim) ha
end
end Go.Abs
namespace Go.Abs
section
variable{args:List V}{sh:Ctx}{cs:j8}{cp:fO}
def B2(op:BinOp)(a b:Nat)(other:Option V):Option V:=
 match op with
 | .add=>bif Nat.ble (Nat.add a b) 9223372036854775807 then some (.one (.p (.int .i64 (.ofNat (Nat.add a b))))) else other
 | .sub=>bif Nat.ble b a then bif Nat.ble a 9223372036854775807 then some (.one (.p (.int .i64 (.ofNat (Nat.sub a b))))) else other else other
 | .mul=>bif Nat.ble (Nat.mul a b) 9223372036854775807 then some (.one (.p (.int .i64 (.ofNat (Nat.mul a b))))) else other
 | .eql=>some (.one (.p (.bool (Nat.beq a b))))
 | .neq=>some (.one (.p (.bool (!Nat.beq a b))))
 | .lss=>some (.one (.p (.bool (Nat.ble (Nat.succ a) b))))
 | .leq=>some (.one (.p (.bool (Nat.ble a b))))
 | .gtr=>some (.one (.p (.bool (Nat.ble (Nat.succ b) a))))
 | .geq=>some (.one (.p (.bool (Nat.ble b a))))
 | .rem=>bif Nat.beq b 0 then other else some (.one (.p (.int .i64 (.ofNat (Nat.mod a b)))))
 |_=>other
def Q3(op:BinOp)(x y:V):Option V:=
 match x,y with
 | .one (.p (.int .i64 (.ofNat a))),.one (.p (.int .i64 (.ofNat b)))=>B2 op a b (qK op x y)
 |_,_=>qK op x y
theorem Ny{n:Nat}(h:n<=9223372036854775807):IntKind.i64.wrap (n:Int)=n:=by have e:(2 ^ IntKind.i64.bits:Int)=18446744073709551616:=ae;have e2:(2 ^ (IntKind.i64.bits-1):Int)=9223372036854775808:=ae;unfold IntKind.wrap;simp only[e,e2];have h1:(n:Int)%18446744073709551616=n:=aa;rw[h1];have h2:¬(n:Int)≥9223372036854775808:=aa;simp[h2]
theorem ajb(op:BinOp)(a b:Nat):B2 op a b (qK op (.one (.p (.int .i64 (.ofNat a)))) (.one (.p (.int .i64 (.ofNat b)))))=qK op (.one (.p (.int .i64 (.ofNat a)))) (.one (.p (.int .i64 (.ofNat b)))):=by
 have hb:∀ {x:Bool} {u v w:Option V},(x=true->u=w)->v=w->(bif x then u else v)=w:=by
  intro x u v w h1 h2;cases x with
  |false=>exact h2
  |true=>exact h1 rfl
 have ofn:∀n:Nat,(Int.ofNat n:Int)=(n:Int):=fun _=>rfl;have ble:∀ {a b:Nat},Nat.ble a b=decide ((a:Int)<=(b:Int)):=by
  intro a b;cases h:Nat.ble a b with
  |true=>have:=hU h;symm;simp;omega
  |false=>
   symm;simp;have:¬a<=b:=fun hh=>by rw[Nat.ble_eq_true_of_le hh] at h;cases h
   omega
 have beq:∀ {a b:Nat},Nat.beq a b=((a:Int)==(b:Int)):=by
  intro a b;by_cases h:a=b
  .subst h;simp
  have h1:Nat.beq a b=false:=by
   cases e:Nat.beq a b with
   |false=>rfl
   |true=>exact(h (sG e)).elim
  rw[h1];symm;simp;omega
 cases op
 case add=>refine hb (fun h=>?_) rfl;have h:a+b<=9223372036854775807:=hU h;have:((a:Int)+(b:Int))=((a+b:Nat):Int):=aa;simp only[qK,tE,true_or,if_true,kX,ofn];rw[this,Ny h];rfl
 case sub=>refine hb (fun h0=>hb (fun h=>?_) rfl) rfl;have h:=hU h;have h0:=hU h0;have:((a:Int)-(b:Int))=((a-b:Nat):Int):=aa;simp only[qK,tE,true_or,if_true,kX,ofn];rw[this,Ny aa];rfl
 case mul=>refine hb (fun h=>?_) rfl;have h:a*b<=9223372036854775807:=hU h;have:((a:Int)*(b:Int))=((a*b:Nat):Int):=af;simp only[qK,tE,true_or,if_true,kX,ofn];rw[this,Ny h];rfl
 case rem=>
  by_cases h0:b=0
  .subst h0;rfl
  have h1:Nat.beq b 0=false:=by
   cases e:Nat.beq b 0 with
   |false=>rfl
   |true=>exact(h0 (sG e)).elim
  have h2:¬(b:Int)=0:=aa;simp only[B2,h1,cond_false,qK,tE,true_or,if_true,kX,ofn,if_neg h2];rfl
 case eql=>simp only[B2,qK,tE,true_or,if_true,kX,ofn,beq]
 case neq=>simp only[B2,qK,tE,true_or,if_true,kX,ofn,beq];rfl
 case lss=>simp only[B2,qK,tE,true_or,if_true,kX,ofn,ble];congr 4
 case leq=>simp only[B2,qK,tE,true_or,if_true,kX,ofn,ble]
 case gtr=>simp only[B2,qK,tE,true_or,if_true,kX,ofn,ble];congr 4
 case geq=>simp only[B2,qK,tE,true_or,if_true,kX,ofn,ble]
 all_goals rfl
theorem ag8(op:BinOp)(x y:V):Q3 op x y=qK op x y:=by
 unfold Q3;split
 .exact ajb _ _ _
 rfl
def BD(v:V):Option Nat:=
 match v with
 | .one (.p (.int _ (.ofNat n)))=>some n
 |v=>oZ v
theorem Xm(v:V):BD v=oZ v:=by
 unfold BD;split
 .simp[oZ]
 rfl
def HJ(aj:Env)(d:Nat):Option aP->Option Nat
 |none=>some d
 |some a=>BD (ev aj a)
theorem ag9(aj:Env)(d:Nat)(a:Option aP):HJ aj d a=rH aj d a:=by
 cases a with
 |none=>rfl
 |some a=>simp only[HJ,rH,Xm]
def an2(aj:Env)(x:aP):ft:=.done (ev aj x) [] []
def an6(aj:Env)(c:aP)(a:aP)(b:aP):ft:=match ev aj c with
  | .one (.p (.bool t))=>.done (if t then ev aj a else ev aj b) [] []
  |_=>.fail
def anF(blk:aB)(s:Nat)(z:List PV):ft:=.done (.one (.bt s ((blk s).1+1) 0)) [(s,((blk s).1+1,some (.var (z.map .p))))] [s]
def anI(aj:Env)(blk:aB)(s:Nat)(x:aP):ft:=match rI (ev aj x) with
  |some cs=>.done (.one (.bt s ((blk s).1+1) 0)) [(s,((blk s).1+1,some (.var cs)))] [s]
  |none=>.fail
def anL(aj:Env)(z:List PV)(ps:List (Nat×Nat×aP)):ft:=match yv aj ps with
  |some q=>.done (.agg (fill (z.map .p) q)) [] []
  |none=>.fail
def anJ(aj:Env)(blk:aB)(s:Nat)(ty:Nat)(sz:Nat)(ps:List aP):ft:=match ze aj sz ps with
  |some es=>match Bl es with
   |some qs=>.done (.one (.hsl s ((blk s).1+1) sz 0 es.length)) [(s,((blk s).1+1,some (.arr ty sz qs)))] [s]
   |none=>.done (.one (.hsl s ((blk s).1+1) sz 0 es.length)) [(s,((blk s).1+1,some (.iT ty sz es)))] [s]
  |none=>.fail
def anV(aj:Env)(blk:aB)(k:Option Nat)(x:aP):ft:=match Bc blk (ev aj x) with
  |some (cs,r)=>match pZ k cs with
   |some v=>.done v [] r
   |none=>.fail
  |none=>.fail
def an9(aj:Env)(blk:aB)(n:Nat)(a:aP)(x:aP):ft:=match rI (ev aj x) with
  |some xs=>Ab blk (ev aj a) n xs
  |none=>.fail
def an4(aj:Env)(x:aP):ft:=match ev aj x with
  | .one (.bt id g o)=>.done (.one (.bt id g o)) [] []
  | .one (.di id g i o)=>.done (.one (.di id g i o)) [] []
  | .one (.p (.box cs))=>.done (.one (.p (.box cs))) [] []
  | .one (.hfn f a b)=>.done (.one (.hfn f a b)) [] []
  | .one (.p (.fn f a b))=>.done (.one (.p (.fn f a b))) [] []
  |_=>.fail
def adn(aj:Env)(op:BinOp)(x:aP)(y:aP):ft:=match Q3 op (ev aj x) (ev aj y) with
  |some v=>.done v [] []
  |none=>.fail
def anQ(aj:Env)(k:uY)(neg:Bool)(x:aP)(y:aP):ft:=match BY k (ev aj x) (ev aj y) with
  |some b=>.done (.one (.p (.bool (if neg then !b else b)))) [] []
  |none=>.fail
def aoa(aj:Env)(op:UnOp)(x:aP):ft:=match op,ev aj x with
  | .not,.one (.p (.bool b))=>.done (.one (.p (.bool (!b)))) [] []
  | .neg,.one (.p (.int k n))=>.done (.one (.p (.int k (k.wrap (0-n))))) [] []
  |_,_=>.fail
def anO(aj:Env)(k:IntKind)(x:aP):ft:=match ev aj x with
  | .one (.p (.int _ n))=>.done (.one (.p (.int k (k.wrap n)))) [] []
  |_=>.fail
def anK(aj:Env)(blk:aB)(x:aP):ft:=match eT blk (ev aj x) with
  |some (es,r,[])=>match bytesOf es with
   |some bs=>.done (.one (.p (.str ⟨bs.toArray⟩))) [] r
   |none=>.fail
  |_=>.fail
def anZ(aj:Env)(f:Nat)(a:List aP)(b:List aP):ft:=match vB aj a,vB aj b with
  |some x,some y=>.done (.one (.hfn f x y)) [] []
  |_,_=>.fail
def an0(blk:aB)(s:Nat)(ag:Bool):ft:=.done (.one (.k9 s ((blk s).1+1))) [(s,((blk s).1+1,some (.map ag [])))] [s]
def adp(aj:Env)(blk:aB)(s:Nat)(ty:Nat)(sz:Nat)(bytes:Nat)(z:List PV)(l:aP)(c:aP):ft:=match BD (ev aj l),BD (ev aj c) with
  |some n,some m=>if n=m/\n*bytes<=room then
    .done (.one (.hsl s ((blk s).1+1) sz 0 n)) [(s,((blk s).1+1,some (.arr ty sz (List.replicate n z))))] [s]
   else .fail
  |_,_=>.fail
def adr(aj:Env)(sz:Nat)(x:aP)(lo:Option aP)(hi:Option aP):ft:=match yu (ev aj x) with
  |some n=>match HJ aj 0 lo,HJ aj n hi with
   |some l,some h=>CQ (ev aj x) sz l h
   |_,_=>.fail
  |none=>.fail
def ads(aj:Env)(x:aP)(lo:Option aP)(hi:Option aP):ft:=match ev aj x with
  | .one (.p (.str s))=>match HJ aj 0 lo,HJ aj s.size hi with
   |some l,some h=>if l<=h/\h<=s.size then .done (.one (.p (.str (s.extract l h)))) [] [] else .fail
   |_,_=>.fail
  |_=>.fail
def anS(aj:Env)(off:Nat)(x:aP):ft:=match ev aj x with
  | .one (.bt id g o)=>.done (.one (.bt id g (o+off))) [] []
  | .one (.di id g i o)=>.done (.one (.di id g i (o+off))) [] []
  | .one (.p (.box cs))=>.done (.one (.p (.box (cs.drop off)))) [] []
  |_=>.fail
def ado(aj:Env)(sz:Nat)(x:aP)(i:aP):ft:=match BD (ev aj i),ev aj x with
  |some n,.one (.p (.sl es))=>match es[n]? with
   |some e=>if e.length=sz then .done (.one (.p (.box e))) [] [] else .fail
   |none=>.fail
  |some n,.one (.hsl id g z off len)=>if n<len/\z=sz then .done (.one (.di id g (off+n) 0)) [] [] else .fail
  |_,_=>.fail
def adl(aj:Env)(len:Nat)(sz:Nat)(x:aP)(i:aP):ft:=match BD (ev aj i),ev aj x with
  |some n,.one (.bt id g o)=>if n<len then .done (.one (.bt id g (o+n*sz))) [] [] else .fail
  |some n,.one (.di id g j o)=>if n<len then .done (.one (.di id g j (o+n*sz))) [] [] else .fail
  |some n,.one (.p (.box cs))=>if n<len then .done (.one (.p (.box (cs.drop (n*sz))))) [] [] else .fail
  |_,_=>.fail
def anT(aj:Env)(off:Nat)(k:Option Nat)(x:aP):ft:=match ev aj x with
  | .agg cs=>match pZ k (cs.drop off) with
   |some v=>.done v [] []
   |none=>.fail
  |_=>.fail
def adm(aj:Env)(len:Nat)(sz:Nat)(k:Option Nat)(x:aP)(i:aP):ft:=match BD (ev aj i),ev aj x with
  |some n,.agg cs=>if n<len then
    match pZ k (cs.drop (n*sz)) with
    |some v=>.done v [] []
    |none=>.fail
   else .fail
  |_,_=>.fail
def adq(aj:Env)(x:aP)(i:aP):ft:=match BD (ev aj i),ev aj x with
  |some n,.one (.p (.str s))=>match s[n]? with
   |some b=>.done (.one (.p (.int .u8 b.toNat))) [] []
   |none=>.fail
  |_,_=>.fail
def anW(aj:Env)(blk:aB)(kd:Nat)(z:List PV)(agg:Bool)(ok:Bool)(x:aP)(k:aP):ft:=match mapOf blk agg (ev aj x),ev aj k with
  |some (es,r),.one (.p q)=>if jM q≠kd then .fail else match wh q es 0 with
   |some f=>match mapVal agg ((f.map (·.2)).getD z) with
    |some w=>.done (if ok then .tup [w,.one (.p (.bool f.isSome))] else w) [] r
    |none=>.fail
   |none=>.fail
  |_,_=>.fail
def anH:ft:=.fail
def an3(aj:Env)(blk:aB)(kd:Nat)(ag:Bool)(m:aP)(k:aP)(v:aP):ft:=match ev aj m,ev aj k,BQ ag (ev aj v) with
  | .one (.k9 id g),.one (.p q),some cs=>match blk id,Bk cs with
   |(g',some (.map rF es)),some ps=>if g'=g/\rF=ag/\jM q=kd then
     match wh q es 0 with
     |some (some (i,_))=>.done .undef [(id,(g,some (.map ag (es.set i (q,ps)))))] [id]
     |some none=>.done .undef [(id,(g,some (.map ag (es++[(q,ps)]))))] [id]
     |none=>.fail
    else .fail
   |_,_=>.fail
  |_,_,_=>.fail
def anR(aj:Env)(x:aP)(i:Nat):ft:=match ev aj x with
  | .tup vs=>match vs[i]? with
   |some v=>.done v [] []
   |none=>.fail
  |_=>.fail
def anM(shared:Nat->Bool)(aj:Env)(blk:aB)(s:Nat)(f:aP)(as:List aP):ft:=match DJ aj f with
  |some (g,a,b)=>
   if shared g then .sc g (a.map .one++as.map (ev aj)++b.map .one)
   else match Bg blk (a.map .one++as.map (ev aj)++b.map .one) with
    |some (vs,r)=>.pc g vs r s
    |none=>.fail
  |none=>.fail
def an8(aj:Env)(x:aP):ft:=match ev aj x with
  | .one (.p (.str s))=>.done (.one (.p (.int .i64 s.size))) [] []
  |_=>.fail
def anU(aj:Env)(x:aP):ft:=match yu (ev aj x) with
  |some n=>.done (.one (.p (.int .i64 n))) [] []
  |none=>.fail
def an1(aj:Env)(blk:aB)(x:aP):ft:=match AU blk (ev aj x) with
  |some (n,r)=>.done (.one (.p (.int .i64 n))) [] r
  |none=>.fail
def anG(aj:Env)(blk:aB)(s:Nat)(ty:Nat)(sz:Nat)(bytes:Nat)(d:aP)(x:aP):ft:=fj blk s ty sz bytes (ev aj d) (ev aj x)
def anX(aj:Env)(x:aP)(y:aP):ft:=match ev aj x,ev aj y with
  | .one (.p (.int k a)),.one (.p (.int _ b))=>.done (.one (.p (.int k (if b>a then b else a)))) [] []
  |_,_=>.fail
def anY(aj:Env)(x:aP)(y:aP):ft:=match ev aj x,ev aj y with
  | .one (.p (.int k a)),.one (.p (.int _ b))=>.done (.one (.p (.int k (if b<a then b else a)))) [] []
  |_,_=>.fail
def anN(aj:Env)(blk:aB)(z:List PV)(x:aP):ft:=match ev aj x with
  | .one (.p .nils)=>.done (.tup []) [] []
  | .one (.p (.sl []))=>.done (.tup []) [] []
  | .one (.hsl id g _ off len)=>if len=0 then .done (.tup []) [] [] else match blk id with
   |(g',some (.arr ty sz es))=>if g'=g/\sz=z.length/\off+len<=es.length then .done (.tup []) [(id,(g,some (.arr ty sz (eX es off (List.replicate len z)))))] [id] else .fail
   |_=>.fail
  |_=>.fail
def Vr(shared:Nat->Bool)(aj:Env)(blk:aB):oR->ft
 | .Jp x=>an2 aj x
 | .pick c a b=>an6 aj c a b
 | .alloc s z=>anF blk s z
 | .box s x=>anI aj blk s x
 | .build z ps=>anL aj z ps
 | .HK s ty sz ps=>anJ aj blk s ty sz ps
 | .load k x=>anV aj blk k x
 | .store n a x=>an9 aj blk n a x
 | .Jv x=>an4 aj x
 | .bin op x y=>adn aj op x y
 | .eqc k neg x y=>anQ aj k neg x y
 | .un op x=>aoa aj op x
 | .conv k x=>anO aj k x
 | .bstr x=>anK aj blk x
 | .mkfn f a b=>anZ aj f a b
 | .mkmap s ag=>an0 blk s ag
 | .Jo s ty sz bytes z l c=>adp aj blk s ty sz bytes z l c
 | .slice sz x lo hi=>adr aj sz x lo hi
 | .sslice x lo hi=>ads aj x lo hi
 | .Ik off x=>anS aj off x
 | .Ja sz x i=>ado aj sz x i
 | .Hw len sz x i=>adl aj len sz x i
 | .fld off k x=>anT aj off k x
 | .aidx len sz k x i=>adm aj len sz k x i
 | .sidx x i=>adq aj x i
 | .lookup kd z agg ok x k=>anW aj blk kd z agg ok x k
 | .bad=>anH
 | .mupd kd ag m k v=>an3 aj blk kd ag m k v
 | .extract x i=>anR aj x i
 | .call s f as=>anM shared aj blk s f as
 | .slen x=>an8 aj x
 | .ML x=>anU aj x
 | .mlen x=>an1 aj blk x
 | .append s ty sz bytes d x=>anG aj blk s ty sz bytes d x
 | .max x y=>anX aj x y
 | .min x y=>anY aj x y
 | .clear z x=>anN aj blk z x
theorem anE(shared:Nat->Bool)(aj:Env)(blk:aB)(o:oR):Vr shared aj blk o=bj shared aj blk o:=by
 cases o<;>first
  |rfl
  |simp only[Vr,bj,adn,adp,adr,ads,ado,adl,adm,adq,ag8,Xm,ag9]<;>rfl
inductive Tr where
 |leaf
 |node (v:V) (l r:Tr)
noncomputable def Tr.get (t:Tr):Nat->V:=Tr.rec (motive:=fun _=>Nat->V) (fun _=>.undef) (fun v _ _ gl gr n=>bif Nat.beq n 0 then v else bif Nat.beq (Nat.mod n 2) 1 then gl (Nat.div n 2) else gr (Nat.sub (Nat.div n 2) 1)) t
noncomputable def Tr.single (k:Nat):Nat->V->Tr:=Nat.rec (motive:=fun _=>Nat->V->Tr) (fun _ _=>.leaf) (fun _ ih n x=>bif Nat.beq n 0 then .node x .leaf .leaf else bif Nat.beq (Nat.mod n 2) 1 then .node .undef (ih (Nat.div n 2) x) .leaf else .node .undef .leaf (ih (Nat.sub (Nat.div n 2) 1) x)) k
noncomputable def Tr.set (t:Tr):Nat->V->Tr:=Tr.rec (motive:=fun _=>Nat->V->Tr) (fun n x=>Tr.single 12 n x) (fun v l r sl sr n x=>bif Nat.beq n 0 then .node x l r else bif Nat.beq (Nat.mod n 2) 1 then .node v (sl (Nat.div n 2) x) r else .node v l (sr (Nat.sub (Nat.div n 2) 1) x)) t
theorem EO{a b:Nat}(h:a≠b):Nat.beq a b=false:=by
 cases e:Nat.beq a b with
 |false=>rfl
 |true=>exact(h (sG e)).elim
theorem ajP(n:Nat):Tr.leaf.get n=.undef:=rfl
theorem OH(v:V)(l r:Tr)(n:Nat):(Tr.node v l r).get n=if n=0 then v else if n%2=1 then l.get (n/2) else r.get (n/2-1):=by
 show(bif Nat.beq n 0 then v else bif Nat.beq (n%2) 1 then l.get (n/2) else r.get (n/2-1))=_;by_cases h0:n=0
 .subst h0;rfl
 rw[EO h0,if_neg h0];by_cases h1:n%2=1
 .rw[h1];rfl
 rw[EO h1,if_neg h1];rfl
theorem aeD(f:Tr->Tr)(g:Tr->Tr)(v:V)(l r:Tr)(n m:Nat)(x:V)(hl:n%2=1->(f l).get (m/2)=if m/2=n/2 then x else l.get (m/2))(hr:n≠0->n%2≠1->(g r).get (m/2-1)=if m/2-1=n/2-1 then x else r.get (m/2-1)):
  (bif Nat.beq n 0 then Tr.node x l r else bif Nat.beq (n%2) 1 then .node v (f l) r else .node v l (g r)).get m=if m=n then x else (Tr.node v l r).get m:=by
 by_cases h0:n=0
 .subst h0;simp only[Nat.beq_refl,cond_true,OH];by_cases hm:m=0<;>simp[hm]
 rw[EO h0];by_cases h1:n%2=1
 .rw[h1];simp only[cond_false,Nat.beq_refl,cond_true,OH];by_cases hm:m=0
  .subst hm;rw[if_pos rfl,if_neg (fun e=>h0 e.symm),if_pos rfl]
  rw[if_neg hm];by_cases nz:m%2=1
  .rw[if_pos nz,hl h1];by_cases he:m=n
   .subst he;simp
   rw[if_neg he,if_neg aa,if_neg hm,if_pos nz]
  rw[if_neg nz,if_neg aa,if_neg hm,if_neg nz]
 rw[EO h1];simp only[cond_false,OH];by_cases hm:m=0
 .subst hm;rw[if_pos rfl,if_neg (fun e=>h0 e.symm),if_pos rfl]
 rw[if_neg hm];by_cases nz:m%2=1
 .rw[if_pos nz,if_neg aa,if_neg hm,if_pos nz]
 rw[if_neg nz,hr h0 h1];by_cases he:m=n
 .subst he;simp
 rw[if_neg he,if_neg aa,if_neg hm,if_neg nz]
theorem apI:∀(k n m:Nat) (x:V),n+1<2 ^ k->(Tr.single k n x).get m=if m=n then x else Tr.leaf.get m:=by
 intro k
 induction k with
 |zero=>intro n m x h;simp at h
 |succ k ih=>
  intro n m x h;have hp:2 ^ (k+1)=2*2 ^ k:=by rw[Nat.pow_succ];omega
  have:=aeD (fun _=>Tr.single k (n/2) x) (fun _=>Tr.single k (n/2-1) x) .undef .leaf .leaf n m x (fun _=>ih _ _ _ aa) (fun _ _=>ih _ _ _ aa);have e:(Tr.node .undef .leaf .leaf).get m=Tr.leaf.get m:=by rw[OH];simp[ajP]
  rw[e] at this;exact this
theorem Tr.aaH:∀(t:Tr) (n m:Nat) (x:V),n+1<2 ^ 12->(t.set n x).get m=if m=n then x else t.get m:=by
 intro t
 induction t with
 |leaf=>intro n m x h;exact apI 12 n m x h
 |node v l r ihl ihr=>intro n m x h;exact aeD (fun l=>l.set (n/2) x) (fun r=>r.set (n/2-1) x) v l r n m x (fun _=>ihl _ _ _ aa) (fun _ _=>ihr _ _ _ aa)
abbrev BL:=List (Nat×(Nat×Option Ob))
noncomputable def Iw (b:BL) (n:Nat):Nat×Option Ob:=List.rec (motive:=fun _=>Nat×Option Ob) (0,none) (fun p _ ih=>bif Nat.beq p.1 n then p.2 else ih) b
noncomputable def Ng:BL->Nat->Nat×Option Ob->BL
 |[],n,x=>[(n,x)]
 |(i,o)::r,n,x=>bif Nat.beq i n then (i,x)::r else (i,o)::Ng r n x
theorem ajN:∀(b:BL) (n:Nat) (x:Nat×Option Ob) (m:Nat),Iw (Ng b n x) m=if m=n then x else Iw b m:=by
 intro b
 induction b with
 |nil=>
  intro n x m;simp only[Ng,Iw];by_cases h:m=n
  .subst h;simp
  have:Nat.beq n m=false:=EO fun e=>h e.symm;simp[this,h]
 |cons p b ih=>
  obtain⟨i,o⟩:=p;intro n x m;simp only[Ng];by_cases h:i=n
  .subst h;simp only[Nat.beq_refl,cond_true,Iw];by_cases hm:m=i
   .subst hm;simp
   have:Nat.beq i m=false:=EO fun e=>hm e.symm;simp[this,hm]
  have:Nat.beq i n=false:=EO h;simp only[this,cond_false,Iw];by_cases hm:i=m
  .subst hm;simp[h]
  have:Nat.beq i m=false:=EO hm;simp only[this,cond_false];exact ih n x m
noncomputable def pY (t:Tr):Env:=fun i=>t.get i
noncomputable def kV (b:BL):aB:=fun i=>Iw b i
noncomputable def Ka:Nat->List V->Tr->Tr
 |_,[],t=>t
 |i,a::r,t=>Ka (i+1) r (t.set i a)
theorem aq5:∀(l:List V) (i:Nat) (t:Tr) (m:Nat),i+l.length<4095->(Ka i l t).get m=if i<=m/\m<i+l.length then l.getD (m-i) .undef else t.get m:=by
 intro l
 induction l with
 |nil=>intro i t m _;simp[Ka];intro h1 h2;omega
 |cons a r ih=>
  intro i t m h;simp only[cE] at h ⊢;rw[Ka,ih (i+1) _ m aa,Tr.aaH t i m a aa];by_cases h1:m=i
  .subst h1;rw[if_neg aa,if_pos rfl,if_pos aa];simp
  rw[if_neg h1];by_cases h2:i+1<=m/\m<i+1+r.length
  .rw[if_pos h2,if_pos aa];obtain⟨k,rfl⟩:∃k,m=i+1+k:=⟨m-(i+1),aa⟩;rw[show i+1+k-(i+1)=k by omega,show i+1+k-i=k+1 by omega];simp
  rw[if_neg h2,if_neg aa]
theorem aqZ(h:args.length<4095):pY (Ka 0 args .leaf)=sv args:=by
 funext m;unfold pY sv;rw[aq5 args 0 .leaf m aa];by_cases hm:m<args.length
 .rw[if_pos aa];rfl
 rw[if_neg aa];simp[Tr.get,List.getD,mS (Nat.le_of_not_lt hm)]
noncomputable def Wr {α:Type} (n:Nat) (k:Nat->α):α:=match n with
 |0=>k 0
 |m+1=>k (m+1)
noncomputable def Wq {α:Type} (z:Int) (k:Int->α):α:=match z with
 | .ofNat n=>Wr n fun n=>k (.ofNat n)
 | .negSucc n=>Wr n fun n=>k (.negSucc n)
noncomputable def Ws {α:Type} (v:V) (k:V->α):α:=match v with
 | .one (.p (.int t z))=>Wq z fun z=>k (.one (.p (.int t z)))
 | .one (.p (.bool b))=>match b with
  |true=>k (.one (.p (.bool true)))
  |false=>k (.one (.p (.bool false)))
 |v=>k v
@[simp] theorem ar4 {α:Type} (n:Nat) (k:Nat->α):Wr n k=k n:=by cases n<;>rfl
@[simp] theorem ar3 {α:Type} (z:Int) (k:Int->α):Wq z k=k z:=by cases z<;>simp[Wq]
@[simp] theorem arR {α:Type} (v:V) (k:V->α):Ws v k=k v:=by
 unfold Ws;split
 .simp
 .split<;>rfl
 rfl
def Px(al:Al)(l:List Nat):Bool:=bif al.any then true else al.gG l
theorem am1(al:Al)(l:List Nat):Px al l=al.gG l:=by
 unfold Px;cases h:al.any with
 |false=>rfl
 |true=>simp[Al.gG,Al.ok,h]
abbrev oX:=Nat->List V->Al->BL->Option (V×BL)
noncomputable def Fx:List eO->BL->BL
 |[],b=>b
 |(i,o)::r,b=>Fx r (Ng b i o)
theorem Wi:∀(u:List eO) (b:BL),kV (Fx u b)=app u (kV b):=by
 intro u
 induction u with
 |nil=>intro b;rfl
 |cons x u ih=>obtain⟨i,o⟩:=x;intro b;simp only[Fx,app];rw[ih];congr 1;funext m;exact ajN b i o m
noncomputable def JF (t:Tr) (d:Option Nat) (v:V) (k:Tr->Option (Tr×BL×bX)):Option (Tr×BL×bX):=match d with
 |none=>k t
 |some n=>bif Nat.ble n 4000 then Ws v fun v=>k (t.set n v) else none
noncomputable def Qp (sh:Ctx) (cp:fO) (cs:oX) (o:ch) (t:Tr) (b:BL):Option (Tr×BL×bX):=
 match wanted (pY t) o.guard with
 |none=>none
 |some false=>JF t o.dst .undef fun t'=>some (t',b,⟨[],[],[]⟩)
 |some true=>match Vr sh.shared (pY t) (kV b) o.op with
  | .fail=>none
  | .done v u r=>bif Px sh.al (r++u.map (·.1)) then JF t o.dst v fun t'=>some (t',Fx u b,⟨r,u.map (·.1),[]⟩) else none
  | .pc f vs r s=>match cp f vs with
   |some x=>match land (kV b) r s (x.gV (sh.lone s)) with
    |some (v,u)=>bif Px sh.al (r++u.map (·.1)) then JF t o.dst v fun t'=>some (t',Fx u b,⟨r++u.map (·.1),u.map (·.1),[]⟩) else none
    |none=>none
   |none=>none
  | .sc f vs=>match allow sh f vs (kV b) with
   |al=>bif sh.al.holds al then
     match cs f vs al b with
     |some (v,b')=>JF t o.dst v fun t'=>some (t',b',⟨al.ids,al.ids,al.fs⟩)
     |none=>none
    else none
noncomputable def Hq (cs:j8) (cf:oX):Prop:=∀f vs al b v b',cf f vs al b=some (v,b')->cs f vs al (kV b)=some (v,kV b')
theorem PM{t t':Tr}{d:Option Nat}{v:V}{b b':BL}{e e':bX}(h:JF t d v (fun t'=>some (t',b,e))=some (t',b',e')):put (pY t) d v=pY t'/\b=b'/\e=e':=by
 unfold JF at h;split at h
 .cases h;exact⟨rfl,rfl,rfl⟩
 rename_i n;cases hn:Nat.ble n 4000 with
 |false=>rw[hn] at h;cases h
 |true=>rw[hn] at h;simp only[cond_true,arR] at h;cases h;refine⟨?_,rfl,rfl⟩;have:=hU hn;funext m;unfold pY put;exact(Tr.aaH t n m v aa).symm
theorem aqr{cf:oX}(hs:Hq cs cf){o:ch}{t t':Tr}{b b':BL}{e:bX}(h:Qp sh cp cf o t b=some (t',b',e)):step1 sh cp cs o (pY t) (kV b)=some (pY t',kV b',e):=by
 unfold Qp at h;simp only[anE,am1] at h;unfold step1;split at h
 .cases h
 .rename_i hw;rw[hw];obtain⟨h1,rfl,rfl⟩:=PM h;simp only[h1]
 rename_i hw;rw[hw];simp only;split at h
 .cases h
 .rename_i v u r hp;cases ao:sh.al.gG (r++u.map (·.1)) with
  |false=>rw[ao] at h;cases h
  |true=>rw[ao] at h;obtain⟨h1,rfl,rfl⟩:=PM h;simp only[hp,ao,if_true,h1,Wi]
 .rename_i f vs r s hp;split at h
  .rename_i x hx;split at h
   .rename_i v u hl;cases ao:sh.al.gG (r++u.map (·.1)) with
    |false=>rw[ao] at h;cases h
    |true=>rw[ao] at h;obtain⟨h1,rfl,rfl⟩:=PM h;simp only[hp,hx,hl,ao,if_true,h1,Wi]
   cases h
  cases h
 rename_i f vs hp;cases ao:sh.al.holds (allow sh f vs (kV b)) with
 |false=>rw[ao] at h;cases h
 |true=>
  rw[ao] at h;simp only[cond_true] at h;split at h
  .rename_i v b1 hc;obtain⟨h1,rfl,rfl⟩:=PM h;simp only[hp,ao,if_true,hs _ _ _ _ _ _ hc,h1]
  cases h
noncomputable def aqs (sh:Ctx) (cp:fO) (cs:oX) (o:ch) (ih:Tr->BL->Option (Tr×BL×List bX)) (aj:Tr) (blk:BL):Option (Tr×BL×List bX):=
 match Qp sh cp cs o aj blk with
 |some (aE,ak,e)=>match ih aE ak with
  |some (rS,BK,es)=>some (rS,BK,e::es)
  |none=>none
 |none=>none
noncomputable def JV (sh:Ctx) (cp:fO) (cs:oX) (l:List ch):Tr->BL->Option (Tr×BL×List bX):=List.rec (motive:=fun _=>Tr->BL->Option (Tr×BL×List bX)) (fun aj blk=>some (aj,blk,[])) (fun o _ ih=>aqs sh cp cs o ih) l
theorem aqu(sh:Ctx)(cp:fO)(cs:oX)(aj:Tr)(blk:BL):JV sh cp cs [] aj blk=some (aj,blk,[]):=rfl
theorem aqt(sh:Ctx)(cp:fO)(cs:oX)(o:ch)(r:List ch)(aj:Tr)(blk:BL):JV sh cp cs (o::r) aj blk=match Qp sh cp cs o aj blk with
  |some (aE,ak,e)=>match JV sh cp cs r aE ak with
   |some (rS,BK,es)=>some (rS,BK,e::es)
   |none=>none
  |none=>none:=rfl
theorem aqv{cf:oX}(hs:Hq cs cf):∀ {ops:List ch} {t t':Tr} {b b':BL} {es:List bX},JV sh cp cf ops t b=some (t',b',es)->steps sh cp cs ops (pY t) (kV b)=some (pY t',kV b',es):=by
 intro ops
 induction ops with
 |nil=>intro t t' b b' es h;simp only[aqu,fg,kY] at h;obtain⟨rfl,rfl,rfl⟩:=h;rfl
 |cons o r ih=>
  intro t t' b b' es h;simp only[aqt] at h;split at h
  .rename_i t1 b1 e1 h1;split at h
   .rename_i t2 b2 es2 h2;cases h;simp only[steps,aqr hs h1,ih h2]
   cases h
  cases h
noncomputable def MH (f:Tr->BL->Option (mD×Tr×BL)) (n:Nat):Tr->BL->Option (mD×Tr×BL):=
 Nat.rec (motive:=fun _=>Tr->BL->Option (mD×Tr×BL)) (fun _ _=>none) (fun _ ih aj blk=>match f aj blk with
  |some (.normal,aE,ak)=>ih aE ak
  |r=>r) n
theorem alI(f:Tr->BL->Option (mD×Tr×BL))(n:Nat)(aj:Tr)(blk:BL):MH f (n+1) aj blk=match f aj blk with
  |some (.normal,aE,ak)=>MH f n aE ak
  |r=>r:=rfl
abbrev Ex:=Tr->BL->Option (mD×Tr×BL)
noncomputable def aiQ (sh:Ctx) (cp:fO) (cs:oX) (d:Bool) (ops:List ch):Ex:=fun aj blk=>match JV sh cp cs ops aj blk with
  |some (aE,ak,es)=>bif d then (bif te ops [] es then some (.normal,aE,ak) else none) else some (.normal,aE,ak)
  |none=>none
noncomputable def aiR (a b:Ex):Ex:=fun aj blk=>match a aj blk with
  |some (.normal,aE,ak)=>b aE ak
  |r=>r
noncomputable def aiP (x:aP) (a b:Ex):Ex:=fun aj blk=>match ev (pY aj) x with
  | .one (.p (.bool t))=>bif t then a aj blk else b aj blk
  |_=>none
noncomputable def aiO (id:Nat) (c:Ex):Ex:=fun aj blk=>match c aj blk with
  |some (.exit i,aE,ak)=>bif Nat.beq i id then some (.normal,aE,ak) else some (.exit i,aE,ak)
  |r=>r
noncomputable def tK (sh:Ctx) (cp:fO) (cs:oX) (n:Nat) (c:aL):Ex:=
 aL.rec (motive:=fun _=>Ex) (fun aj blk=>some (.normal,aj,blk)) (fun d ops=>aiQ sh cp cs d ops) (fun _ _ a b=>aiR a b) (fun x _ _ a b=>aiP x a b)
  (fun id _ c=>aiO id c) (fun _ c=>MH c n) (fun id aj blk=>some (.exit id,aj,blk)) (fun aj blk=>some (.ret,aj,blk)) (fun _ _=>none) c
section
variable (sh:Ctx) (cp:fO) (cs:oX) (n:Nat) (aj:Tr) (blk:BL)
theorem aiZ:tK sh cp cs n .skip aj blk=some (.normal,aj,blk):=rfl
theorem aiU(id:Nat):tK sh cp cs n (.exit id) aj blk=some (.exit id,aj,blk):=rfl
theorem aiX:tK sh cp cs n .ret aj blk=some (.ret,aj,blk):=rfl
theorem aiW(d:Bool)(ops:List ch):tK sh cp cs n (.region d ops) aj blk=match JV sh cp cs ops aj blk with
  |some (aE,ak,es)=>bif d then (bif te ops [] es then some (.normal,aE,ak) else none) else some (.normal,aE,ak)
  |none=>none:=rfl
theorem aiY(a b:aL):tK sh cp cs n (.seq a b) aj blk=match tK sh cp cs n a aj blk with
  |some (.normal,aE,ak)=>tK sh cp cs n b aE ak
  |r=>r:=rfl
theorem aiT(x:aP)(a b:aL):tK sh cp cs n (.cond x a b) aj blk=match ev (pY aj) x with
  | .one (.p (.bool t))=>bif t then tK sh cp cs n a aj blk else tK sh cp cs n b aj blk
  |_=>none:=rfl
theorem aiS(id:Nat)(c:aL):tK sh cp cs n (.block id c) aj blk=match tK sh cp cs n c aj blk with
  |some (.exit i,aE,ak)=>bif Nat.beq i id then some (.normal,aE,ak) else some (.exit i,aE,ak)
  |r=>r:=rfl
theorem aiV(c:aL):tK sh cp cs n (.loop c) aj blk=MH (tK sh cp cs n c) n aj blk:=rfl
end
theorem alH{f:Tr->BL->Option (mD×Tr×BL)}{g:Env->aB->Option (mD×Env×aB)}(hfg:∀t b e t' b',f t b=some (e,t',b')->g (pY t) (kV b)=some (e,pY t',kV b')):
  ∀(n:Nat) {t t':Tr} {b b':BL} {e:mD},MH f n t b=some (e,t',b')->iter g n (pY t) (kV b)=some (e,pY t',kV b'):=by
 intro n
 induction n with
 |zero=>intro t t' b b' e h;cases h
 |succ n ih=>
  intro t t' b b' e h;simp only[alI] at h;simp only[iter];split at h
  .rename_i t1 b1 h1;rw[hfg _ _ _ _ _ h1];exact ih h
  rename_i aK;rw[hfg _ _ _ _ _ h];cases e with
  |normal=>exact(aK _ _ h).elim
  |exit i=>rfl
  |ret=>rfl
theorem YY{cf:oX}(hs:Hq cs cf){n:Nat}:∀(c:aL) {t t':Tr} {b b':BL} {e:mD},tK sh cp cf n c t b=some (e,t',b')->exec sh cp cs n c (pY t) (kV b)=some (e,pY t',kV b'):=by
 intro c
 induction c with
 |skip=>intro t t' b b' e h;simp only[aiZ,fg,kY] at h;obtain⟨rfl,rfl,rfl⟩:=h;rfl
 |exit id=>intro t t' b b' e h;simp only[aiU,fg,kY] at h;obtain⟨rfl,rfl,rfl⟩:=h;rfl
 |ret=>intro t t' b b' e h;simp only[aiX,fg,kY] at h;obtain⟨rfl,rfl,rfl⟩:=h;rfl
 |bad=>intro t t' b b' e h;cases h
 |region d ops=>
  intro t t' b b' e h;simp only[aiW] at h;simp only[exec];split at h
  .rename_i t1 b1 es h1;rw[aqv hs h1];simp only;cases d with
   |false=>simp only[cond_false] at h;cases h;simp
   |true=>
    simp only[cond_true] at h;cases hd:te ops [] es with
    |false=>rw[hd] at h;cases h
    |true=>rw[hd] at h;simp only[cond_true] at h;cases h;simp
  cases h
 |seq x y ihx ihy=>
  intro t t' b b' e h;simp only[aiY] at h;simp only[exec];split at h
  .rename_i t1 b1 h1;rw[ihx h1];exact ihy h
  rename_i aK;rw[ihx h];cases e with
  |normal=>exact(aK _ _ h).elim
  |exit i=>rfl
  |ret=>rfl
 |cond x p q ihp ihq=>
  intro t t' b b' e h;simp only[aiT] at h;simp only[exec];split at h
  .rename_i tt ht;rw[ht];cases tt with
   |true=>simp only[cond_true] at h;simpa using ihp h
   |false=>simp only[cond_false] at h;simpa using ihq h
  cases h
 |block id c ih=>
  intro t t' b b' e h;simp only[aiS] at h;simp only[exec];split at h
  .rename_i i t1 b1 h1;rw[ih h1];simp only;cases hi:Nat.beq i id with
   |true=>rw[hi] at h;simp only[cond_true] at h;cases h;rw[if_pos (sG hi)]
   |false=>rw[hi] at h;simp only[cond_false] at h;cases h;rw[if_neg];intro hh;rw[hh,Nat.beq_refl] at hi;cases hi
  rename_i aK;rw[ih h];cases e with
  |normal=>rfl
  |exit i=>exact(aK _ _ _ h).elim
  |ret=>rfl
 |loop c ih=>intro t t' b b' e h;simp only[aiV] at h;simp only[exec];exact alH (fun _ _ _ _ _ h=>ih h) n h
noncomputable def GN (sh:Ctx) (cp:fO) (cs:oX) (n:Nat) (fn:aX) (args:List V) (blk:BL):Option (V×BL):=
 bif Nat.ble args.length 4000 then
  match tK sh cp cs n fn.body (Ka 0 args .leaf) blk with
  |some (.normal,aj,ak)=>(oF sh.al (pY aj) (kV ak) fn.results).map fun vs=>(zY vs,ak)
  |some (.ret,aj,ak)=>(oF sh.al (pY aj) (kV ak) fn.results).map fun vs=>(zY vs,ak)
  |_=>none
 else none
theorem aoV{cf:oX}(hs:Hq cs cf){n:Nat}{fn:aX}{b b':BL}{v:V}(h:GN sh cp cf n fn args b=some (v,b')):rq sh cp cs n fn args (kV b)=some (v,kV b'):=by
 unfold GN at h;unfold rq;cases hl:Nat.ble args.length 4000 with
 |false=>rw[hl] at h;cases h
 |true=>
  rw[hl] at h;simp only[cond_true] at h;have:=hU hl;rw[<- aqZ aa];split at h
  .rename_i aj b1 hx;rw[YY hs _ hx];simp only[dy] at h ⊢;obtain⟨vs,h1,h2⟩:=h;cases h2;exact⟨vs,h1,rfl⟩
  .rename_i aj b1 hx;rw[YY hs _ hx];simp only[dy] at h ⊢;obtain⟨vs,h1,h2⟩:=h;cases h2;exact⟨vs,h1,rfl⟩
  cases h
noncomputable def ahc (S:Sys) (n:Nat) (cp:fO) (cs:oX):fO:=fun f args=>match S.prim f args with
  |some r=>r
  |none=>match S.fns f with
   |some fn=>bif Nat.ble args.length fn.ntmps then
     match GN (S.ctx .all) cp cs n fn args [] with
     |some (v,b)=>kx (kV b) v
     |none=>none
    else none
   |none=>none
noncomputable def ahe (S:Sys) (n:Nat) (cp:fO) (cs:oX):oX:=fun f args al b=>bif S.trig f args then (S.primS f args al (kV b)).map (fun r=>(r.1,Fx r.2 b)) else match S.fns f with
  |some fn=>bif Nat.ble args.length fn.ntmps then GN (S.ctx al) cp cs n fn args b else none
  |none=>none
noncomputable def XH (S:Sys) (n:Nat):fO×oX:=Nat.rec (motive:=fun _=>fO×oX) (fun _ _=>none,fun _ _ _ _=>none) (fun n ih=>(ahc S n ih.1 ih.2,ahe S n ih.1 ih.2)) n
noncomputable def BO (S:Sys) (n:Nat):fO:=(XH S n).1
noncomputable def xH (S:Sys) (n:Nat):oX:=(XH S n).2
theorem ahd(S:Sys)(n f:Nat)(args:List V):BO S (n+1) f args=match S.prim f args with
  |some r=>r
  |none=>match S.fns f with
   |some fn=>bif Nat.ble args.length fn.ntmps then
     match GN (S.ctx .all) (BO S n) (xH S n) n fn args [] with
     |some (v,b)=>kx (kV b) v
     |none=>none
    else none
   |none=>none:=rfl
theorem ahf(S:Sys)(n f:Nat)(args:List V)(al:Al)(b:BL):xH S (n+1) f args al b=bif S.trig f args then (S.primS f args al (kV b)).map (fun r=>(r.1,Fx r.2 b)) else match S.fns f with
  |some fn=>bif Nat.ble args.length fn.ntmps then GN (S.ctx al) (BO S n) (xH S n) n fn args b else none
  |none=>none:=rfl
theorem adQ{mY:fO}(hp:Ks cp mY){cf:oX}(hs:Hq cs cf){n:Nat}{fn:aX}{b b':BL}{v:V}(h:GN sh cp cf n fn args b=some (v,b')):rq sh mY cs n fn args (kV b)=some (v,kV b'):=VQ hp (fun _ _ _ _ _ h=>h) (aZ _) (aoV hs h)
theorem Q5(S:Sys):∀n,Ks (BO S n) (js S n)/\Hq (ia S n) (xH S n):=by
 intro n
 induction n with
 |zero=>have h1:∀f x,BO S 0 f x=none:=fun _ _=>rfl;have h2:∀f vs al b,xH S 0 f vs al b=none:=fun _ _ _ _=>rfl;exact⟨fun f x r h=>(by rw[h1] at h;cases h),fun f vs al b v b' h=>(by rw[h2] at h;cases h)⟩
 |succ n ih=>
  obtain⟨hp,hs⟩:=ih;refine⟨fun f x r h=>?_,fun f vs al b v b' h=>?_⟩
  .rw[ahd] at h;rw[js];split at h
   .rename_i r' vl;simp only[vl];exact h
   rename_i vl;simp only[vl];split at h
   .rename_i fn hfn;simp only[hfn];cases hl:Nat.ble x.length fn.ntmps with
    |false=>rw[hl] at h;cases h
    |true=>
     rw[hl] at h;simp only[cond_true] at h;rw[if_pos (hU hl)];split at h
     .rename_i v b hr;unfold E0;have:A5=kV []:=rfl;rw[this,adQ hp hs hr];exact h
     cases h
   cases h
  rw[ahf] at h;rw[ia];cases ht:S.trig f vs with
  |true=>
   rw[ht] at h;simp only[cond_true] at h;rw[if_pos rfl];cases hp:S.primS f vs al (kV b) with
   |none=>rw[hp] at h;cases h
   |some r=>rw[hp] at h;cases h;rw[kX,Wi]
  |false=>
  rw[ht] at h;simp only[cond_false,eY,if_false] at h ⊢;split at h
  .rename_i fn hfn;simp only[hfn];cases hl:Nat.ble vs.length fn.ntmps with
   |false=>rw[hl] at h;cases h
   |true=>rw[hl] at h;simp only[cond_true] at h;rw[if_pos (hU hl)];exact adQ hp hs h
  cases h
theorem WI(S:Sys)(n:Nat){f:Nat}{r:RV}(h:BO S n f args=some r):aH S f args r:=⟨n,(Q5 S n).1 _ _ _ h⟩
inductive Fits {H:Type} (N:Nat):DataW H->Prop where
 |str (s:List UInt8) (h:s.length<=N):Fits N (.lit (.string s))
 |lit (l:Lit) (h:∀s,l≠ .string s):Fits N (.lit l)
 |nil:Fits N .nil
 |slice (es sp:List (DataW H)) (h:es.length<=N) (he:∀d∈es,Fits N d):Fits N (.slice es sp)
 |agg (es:List (DataW H)) (he:∀d∈es,Fits N d):Fits N (.agg es)
def j7(P:Program)(N:Nat):Nat->TypeId->List PV->Prop
 |0,_,_=>False
 |n+1,t,ps=>match P.underlying t with
  |some .bool=>∃b,ps=[.bool b]
  |some (.int k)=>∃z,ps=[.int k z]/\(Lit.int k z).wf=true
  |some .string=>∃s:ByteArray,ps=[.str s]/\s.size<=N
  |some (.slice e)=>∃es,ps=[.sl es]/\es.length<=N/\ ∀x∈es,j7 P N n e x
  |some (.struct fs)=>∃parts:List (List PV),ps=parts.flatten/\parts.length=fs.toList.length/\ ∀(i:Nat) (f:Field) (x:List PV),fs.toList[i]?=some f->parts[i]?=some x->j7 P N n f.type x
  |_=>False
def yY(P:Program):Nat->Nat->List Field->Bool
 |off,total,[]=>Nat.beq off total
 |off,total,f::r=>Nat.beq f.offset off&&yY P (off+P.cellsOf f.type) total r
def jZ(P:Program):Nat->TypeId->Bool
 |0,_=>false
 |n+1,t=>match P.underlying t with
  |some .bool|some (.int _)|some .string=>true
  |some (.slice e)=>Nat.blt 0 (P.cellsOf e)&&jZ P n e
  |some (.struct fs)=>yY P 0 (P.cellsOf t) fs.toList&&fs.toList.all fun f=>jZ P n f.type
  |_=>false
section
variable {H:Type} {enc:TypeId×Value->H} {P:Program} {w:World} {base:Nat} {sp:Nat->Bool} {held:Bool} {N:Nat}
theorem cX.append{w:World}{own:Nat->Prop}{xs ys:List PV}{vs us:List Value}(h:cX w own xs vs)(k:cX w own ys us):cX w own (xs++ys) (vs++us):=Pw.append (R:=bU w own) h k
theorem XL{w:World}{base:Nat}{a:Addr}{n:Nat}{cs:List Value}(h:w.cells? base a n=some cs):cs.length=n/\ ∀i,i<n->a.add i=⟨a.block,a.off+i,none⟩/\w.cell? ⟨a.block,a.off+i,none⟩=cs[i]? :=by
 unfold World.cells? at h;split at h
 .have hl:=mapM_some_length h;simp at hl;refine⟨hl,fun i hi=>?_⟩;have hg:=mapM_some_get h i i (by simp[hi]);have aq:i<cs.length:=aa;have hv:cs[i]?=some cs[i]:=by simp[aq]
  rw[hv] at hg;have abn:(a.add i).spot=none:=by
   cases mw:(a.add i).spot with
   |none=>rfl
   |some s=>
    simp only[World.cell?] at hg;split at hg
    .simp[mw] at hg
    cases hg
  have e:a.add i=⟨a.block,a.off+i,none⟩:=by
   unfold Addr.add at abn ⊢;split
   .rename_i h0;subst h0;rw[if_pos rfl] at abn;cases a
    simp_all
   rfl
  refine⟨e,?_⟩;rw[hv,<- hg,e]
 cases h
theorem ajc{r:TypeId->List Value->Option (DataW H×List MemPlace)}{n:Nat}(ih:∀t cs x,jZ P n t=true->r t cs=some x->Fits N x.1->∃pvs,j7 P N n t pvs/\cX w (fun _=>False) pvs cs){cs:List Value}{total:Nat}(ht:cs.length=total):
  ∀(fs:List Field) (off:Nat) (xs:List (DataW H×List MemPlace)),yY P off total fs=true->(∀f∈fs,jZ P n f.type=true)->
   fs.mapM (fun f=>r f.type ((cs.drop f.offset).take (P.cellsOf f.type)))=some xs->(∀x∈xs,Fits N x.1)->off<=total->(∀f∈fs,∀c x,r f.type c=some x->∀pvs,j7 P N n f.type pvs->cX w (fun _=>False) pvs c->True)->
   ∃parts:List (List PV),parts.length=fs.length/\(∀(i:Nat) (f:Field) (x:List PV),fs[i]?=some f->parts[i]?=some x->j7 P N n f.type x)/\(cX w (fun _=>False) parts.flatten (cs.drop off)):=by
 intro fs
 induction fs with
 |nil=>
  intro off xs hc _ _ _ hle _;simp only[yY] at hc;have:=sG hc;refine⟨[],rfl,fun i f x h=>by simp at h,?_⟩;have:cs.drop off=[]:=by rw[List.drop_eq_nil_iff];omega
  rw[this];exact⟨rfl,fun j x u h=>by simp at h⟩
 |cons f fs ihf=>
  intro off xs hc ho hm hf hle hT;simp only[yY,bQ] at hc;have Uu:=sG hc.1;rw[List.mapM_cons] at hm;simp only[Option.bind_eq_bind,QF,Option.pure_def,fg] at hm;obtain⟨x,hx,xs',Gr,rfl⟩:=hm;obtain⟨pvs,p1,p2⟩:=ih _ _ _ (ho f af) hx (hf x af);have hlen:=p2.1;by_cases aba:off+P.cellsOf f.type<=total
  .obtain⟨parts,q1,q2,q3⟩:=ihf (off+P.cellsOf f.type) xs' hc.2 (fun g hg=>ho g (by simp[hg])) Gr (fun y hy=>hf y (by simp[hy])) aba (fun _ _ _ _ _ _ _ _=>trivial);refine⟨pvs::parts,by simp[q1],fun i g y hi hy=>?_,?_⟩
   .cases i with
    |zero=>simp at hi hy;subst hi hy;exact p1
    |succ i=>exact q2 i g y (by simpa using hi) (by simpa using hy)
   have:cs.drop off=(cs.drop f.offset).take (P.cellsOf f.type)++cs.drop (off+P.cellsOf f.type):=by rw[Uu,<- List.drop_drop];exact(lX _ _).symm
   rw[this];simp only[mR];exact cX.append p2 q3
  exfalso;have mono:∀(l:List Field) (o:Nat),yY P o total l=true->o<=total:=by
   intro l
   induction l with
   |nil=>intro o h;simp only[yY] at h;have:=sG h;omega
   |cons g l ihl=>intro o h;simp only[yY,bQ] at h;have:=ihl _ h.2;omega
  exact aba (mono _ _ hc.2)
theorem aoT{sz:Nat}{f:Nat->Value}:∀(es:List (List PV)) (rows:List (List Value)) (k:Nat),rows.length=es.length->(∀(i:Nat) (e:List PV) (v:List Value),es[i]?=some e->rows[i]?=some v->cX w (fun _=>False) e v/\v.length=sz/\ ∀j u,v[j]?=some u->f ((k+i)*sz+j)=u)->
  ∀(j:Nat) (x:PV),es.flatten[j]?=some x->bU w (fun _=>False) x (f (k*sz+j)):=by
 intro es
 induction es with
 |nil=>intro rows k _ _ j x h;simp at h
 |cons e es ih=>
  intro rows k hl h j x hx;cases rows with
  |nil=>simp at hl
  |cons v rows=>
   obtain⟨a1,a2,a3⟩:=h 0 e v rfl rfl;have di:e.length=sz:=by rw[<- a2];exact a1.1.symm
   simp only[mR] at hx;by_cases hj:j<e.length
   .rw[oO hj] at hx;have hv:v[j]?=some v[j]:=by simp[show j<v.length by omega]
    have:=a3 j _ hv;simp only[rA] at this;rw[this];exact a1.2 j x _ hx hv
   rw[nV aa] at hx;have:=ih rows (k+1) (by simpa using hl) (fun i e' v' h1 h2=>by have:=h (i+1) e' v' (by simpa using h1) (by simpa using h2);rw[show k+(i+1)=k+1+i by omega] at this;exact this) (j-e.length) x hx
   rw[show k*sz+j=(k+1)*sz+(j-e.length) by rw[gD];omega];exact this
theorem arf:∀(n fuel:Nat) (t:TypeId) (cs:List Value) (x:DataW H×List MemPlace),jZ P n t=true->DataW.trod enc P w base sp held fuel t cs=some x->Fits N x.1->
  ∃pvs,j7 P N n t pvs/\cX w (fun _=>False) pvs cs:=by
 intro n
 induction n with
 |zero=>intro fuel t cs x h;simp[jZ] at h
 |succ n ih=>
  intro fuel t cs x ao h hf;cases fuel with
  |zero=>simp[DataW.trod] at h
  |succ fuel=>
   rw[DataW.trod_step] at h;have one:∀ {p:PV} {v:Value},bU w (fun _=>False) p v->cX w (fun _=>False) [p] [v]:=by
    intro p v hp;refine⟨rfl,fun j x u a b=>?_⟩;cases j with
    |zero=>simp at a b;subst a b;exact hp
    |succ j=>simp at a
   unfold DataW.trodStep at h;unfold jZ at ao;split at h
   case h_1 b hu=>exact⟨[.bool b],by simp only[j7,hu];exact⟨b,rfl⟩,one (.bool b)⟩
   case h_2 k k' z hu=>
    split at h
    .rename_i hc;obtain⟨rfl,hwf⟩:=hc;exact⟨[.int k' z],by simp only[j7,hu];exact⟨z,rfl,hwf⟩,one (.int k' z)⟩
    cases h
   case h_4 s hu=>
    split at h
    .cases h;cases hf with
     |str _ hs=>exact⟨[.str s],by simp only[j7,hu];exact⟨s,rfl,by simpa using hs⟩,one (.str s)⟩
     |lit _ hs=>exact(hs _ rfl).elim
    cases h
   case h_7 e hu=>exact⟨[.sl []],by simp only[j7,hu];exact⟨[],rfl,aY _,fun x hx=>by simp at hx⟩,one (.xm none 0 (fun _=>rfl) (aY _))⟩
   case h_8 e a len cap hu=>
    rw[hu] at ao;simp only[bQ] at ao;obtain⟨ff,hoe⟩:=ao;have ff:0<P.cellsOf e:=by have:=ff;simp[Nat.blt] at this;omega
    simp only at h;split at h
    .rename_i hc;obtain⟨hb,hlc,qQ⟩:=hc;simp only[dy,QF] at h;obtain⟨elems,he,rest,ak2,rfl⟩:=h;have hlen:elems.length=len:=by simpa using mapM_some_length he
     cases hf with
     |slice _ _ hl L0=>
     simp only[cF] at hl;have get:∀i,i<len->∃y row pv,elems[i]?=some y/\w.cells? base (a.add (i*P.cellsOf e)) (P.cellsOf e)=some row/\j7 P N n e pv/\cX w (fun _=>False) pv row:=by intro i hi;have hg:=mapM_some_get he i i (by simp[hi]);have aq:i<elems.length:=aa;rw[oQ aq] at hg;simp only[QF] at hg;obtain⟨row,h1,h2⟩:=hg;obtain⟨pv,p1,p2⟩:=ih _ _ _ _ hoe h2 (L0 _ (dr.2 ⟨_,List.getElem_mem aq,rfl⟩));exact⟨_,row,pv,oQ aq,h1,p1,p2⟩
     cases pI:len with
     |zero=>refine⟨[.sl []],by simp only[j7,hu];exact⟨[],rfl,aY _,fun x hx=>by simp at hx⟩,one (.xm (some a) cap (fun h=>by cases h) qQ)⟩
     |succ amh=>
      rw[<- pI];have h0:0<len:=aa;obtain⟨_,row0,_,_,IX,_,_⟩:=get 0 h0;have ha:a=⟨a.block,a.off,none⟩:=by
       have h1:a.add 0=a:=by unfold Addr.add;rw[if_pos rfl]
       rw[yL,h1] at IX;have:=((XL IX).2 0 ff).1;rw[h1] at this;exact this
      have UG:∀i,i<len->∃row pv,row.length=P.cellsOf e/\(∀j,j<P.cellsOf e->w.cell? ⟨a.block,a.off+(i*P.cellsOf e+j),none⟩=row[j]?)/\j7 P N n e pv/\cX w (fun _=>False) pv row:=by
       intro i hi;obtain⟨_,row,pv,_,h1,h2,h3⟩:=get i hi;obtain⟨l1,l2⟩:=XL h1;refine⟨row,pv,l1,fun j hj=>?_,h2,h3⟩;have:=(l2 j hj).2;rw[<- this];have e2:a.add (i*P.cellsOf e)=⟨a.block,a.off+i*P.cellsOf e,none⟩:=by
        rw[ha];unfold Addr.add;split
        .rename_i h9;rw[h9];rfl
        rfl
       rw[e2];simp[Bt]
      let row:Nat->List Value:=fun i=>if h:i<len then (UG i h).choose else []
      let pv:Nat->List PV:=fun i=>if h:i<len then (UG i h).choose_spec.choose else []
      have Mx:∀i,i<len->(row i).length=P.cellsOf e/\(∀j,j<P.cellsOf e->w.cell? ⟨a.block,a.off+(i*P.cellsOf e+j),none⟩=(row i)[j]?)/\j7 P N n e (pv i)/\cX w (fun _=>False) (pv i) (row i):=by intro i hi;simp only[row,pv,dif_pos hi];exact(UG i hi).choose_spec.choose_spec
      let es:=(List.range len).map pv
      have OS:es.length=len:=by simp[es]
      have Cj:∀(i:Nat) (x:List PV),es[i]?=some x->i<len/\x=pv i:=by
       intro i x hx;have hi:i<len:=by rw[<- OS];exact(aV.1 hx).1
       refine⟨hi,?_⟩;simp only[es,fX,tu hi,kX,fg] at hx;exact hx.symm
      let f:Nat->Value:=fun j=>(w.cell? ⟨a.block,a.off+j,none⟩).getD undef
      refine⟨[.sl es],?_,one ?_⟩
      .simp only[j7,hu];refine⟨es,rfl,aa,fun x hx=>?_⟩;obtain⟨i,hi⟩:=jy hx;obtain⟨h1,rfl⟩:=Cj i x hi;exact(Mx i h1).2.2.1
      rw[ha];have hsz:∀x∈es,x.length=P.cellsOf e:=by intro x hx;obtain⟨i,hi⟩:=jy hx;obtain⟨h1,rfl⟩:=Cj i x hi;have:=(Mx i h1).2.2.2.1;rw[<- this];exact(Mx i h1).1
      have dY:=aoT (w:=w) (sz:=P.cellsOf e) (f:=f) es ((List.range len).map row) 0 (by simp[OS]) (fun i x v h1 h2=>by
       obtain⟨hi,rfl⟩:=Cj i x h1;simp only[fX,tu hi,kX,fg] at h2;subst h2;obtain⟨s1,s2,s3,s4⟩:=Mx i hi;refine⟨s4,s1,fun j u hu=>?_⟩;have hj:j<P.cellsOf e:=by rw[<- s1];exact(aV.1 hu).1
       simp only[f,jc];rw[s2 j hj,hu];rfl)
      simp only[yL,jc] at dY;have qu:∀(l:List (List PV)),(∀x∈l,x.length=P.cellsOf e)->l.flatten.length=l.length*P.cellsOf e:=by
       intro l
       induction l with
       |nil=>intro _;simp
       |cons x l ihl=>intro hx;simp only[mR,fc,cE];rw[hx x af,ihl (fun y hy=>hx y (by simp[hy])),gD];omega
      refine OS▸bU.sl a.block a.off cap (P.cellsOf e) f (fun _ h=>h) aa qQ hsz (fun j x hx=>?_) dY;have hj:j<len*P.cellsOf e:=by have:=(aV.1 hx).1;rw[qu es hsz,OS] at this;exact this
      have hi:j/P.cellsOf e<len:=Nat.div_lt_of_lt_mul (by rw[Nat.mul_comm];exact hj);obtain⟨s1,s2,s3,s4⟩:=Mx _ hi;have hm:j%P.cellsOf e<P.cellsOf e:=dw _ ff;have:=s2 _ hm;rw[show j/P.cellsOf e*P.cellsOf e+j%P.cellsOf e=j by rw[Nat.mul_comm];exact Nat.div_add_mod j _] at this;have UH:(row (j/P.cellsOf e))[j%P.cellsOf e]?=some (row (j/P.cellsOf e))[j%P.cellsOf e]:=by simp[s1,hm]
      rw[UH] at this;simp only[f,this,kA]
    cases h
   case h_9=>
    rename_i fs hu;rw[hu] at ao;simp only[bQ] at ao;split at h
    .rename_i hc;simp only[dy] at h;obtain⟨xs,hx,rfl⟩:=h;cases hf with
     |agg _ L0=>
     obtain⟨parts,p1,p2,p3⟩:=ajc (r:=DataW.trod enc P w base sp held fuel) (n:=n) (fun t cs x h1 h2 h3=>ih _ _ _ _ h1 h2 h3) hc fs.toList 0 xs ao.1 (fun f hf=>iC.1 ao.2 f hf) hx (fun y hy=>L0 _ (dr.2 ⟨y,hy,rfl⟩)) (aY _) (fun _ _ _ _ _ _ _ _=>trivial);refine⟨parts.flatten,by simp only[j7,hu];exact⟨parts,rfl,p1,p2⟩,?_⟩
     simpa using p3
    cases h
   all_goals(first|(cases h;done)|(simp_all;done)|(exfalso;simp_all;done))
end
end
end Go.Abs
namespace Go.Abs
variable {H:Type} {enc:TypeId×Value->H} {P:Program} {w:World} {N:Nat}
theorem ahW:∀(fs:List Field) (off total:Nat),yY P off total fs=true->total=off+(fs.map fun f=>P.cellsOf f.type).sum/\ ∀(j:Nat) (f:Field),fs[j]?=some f->f.offset=off+((fs.take j).map fun f=>P.cellsOf f.type).sum:=by
 intro fs
 induction fs with
 |nil=>intro off total h;simp only[yY] at h;have:=sG h;exact⟨by simp;omega,fun j f h=>by simp at h⟩
 |cons f fs ih=>
  intro off total h;simp only[yY,bQ] at h;have h0:=sG h.1;obtain⟨i1,i2⟩:=ih _ _ h.2;refine⟨by simp;omega,fun j g hg=>?_⟩;cases j with
  |zero=>simp at hg;subst hg;simp;omega
  |succ j=>have:=i2 j g (by simpa using hg);simp only[List.take_succ_cons,dG,List.sum_cons];omega
theorem alQ:Kids P (fun t=>∃n,jZ P n t=true):=by
 have un:∀ {t:TypeId},(∃n,jZ P n t=true)->∃n,jZ P (n+1) t=true:=by
  rintro t ⟨n,h⟩
  cases n with
  |zero=>simp[jZ] at h
  |succ n=>exact⟨n,h⟩
 refine⟨fun ht hu=>?_,fun ht hu=>?_,fun ht hu=>?_,fun ht hu=>?_,fun ht hu=>?_⟩
 .obtain⟨n,h⟩:=un ht;simp[jZ,hu] at h
 .obtain⟨n,h⟩:=un ht;simp only[jZ,hu,bQ] at h;exact⟨n,h.2⟩
 .obtain⟨n,h⟩:=un ht;simp[jZ,hu] at h
 .obtain⟨n,h⟩:=un ht;simp only[jZ,hu,bQ] at h;obtain⟨c1,c2⟩:=ahW _ _ _ h.1;refine⟨fun f hf=>⟨n,iC.1 h.2 f hf⟩,by rw[c1];simp,fun j f hj=>by rw[c2 j f hj];simp⟩
 obtain⟨n,h⟩:=un ht;simp[jZ,hu] at h
theorem arc{w':World}{GP:Nat->Bool}{t:TypeId}{v:Value}{d:DataW H}{ps:List MemPlace}(hk:∃n,jZ P n t=true)(h:DataW.Trod enc P w 0 (fun _=>true) true t v d ps)
  (AQ:∀p∈ps,w.sameAt w' p) (hs:∀p∈ps,GP p.block=true):DataW.Trod enc P w' 0 GP true t v d ps:=by
 obtain⟨fuel,h⟩:=h;refine⟨fuel,DataW.trod_stays (T:=fun t=>∃n,jZ P n t=true) alQ ?_ (fun h=>by cases h) hk h AQ hs⟩;rintro t e ⟨n,h⟩ hu
 cases n with
 |zero=>simp[jZ] at h
 |succ n=>simp only[jZ,hu,bQ] at h;have:=h.1;simp[Nat.blt] at this;omega
theorem arb{w':World}{GP:Nat->Bool}:∀ {ts:List TypeId} {vs:List Value} {ds:List (DataW H)} {ps:List MemPlace},(∀t∈ts,∃n,jZ P n t=true)->DataW.TrodAll enc P w 0 (fun _=>true) true ts vs ds ps->
  (∀p∈ps,w.sameAt w' p)->(∀p∈ps,GP p.block=true)->DataW.TrodAll enc P w' 0 GP true ts vs ds ps:=by
 intro ts
 induction ts with
 |nil=>intro vs ds ps _ h _ _;cases vs<;>cases ds<;>exact h
 |cons t ts ih=>
  intro vs ds ps hk h fL eH;cases vs with
  |nil=>exact h.elim
  |cons v vs=>
   cases ds with
   |nil=>exact h.elim
   |cons d ds=>obtain⟨p,q,h1,h2,rfl⟩:=h;exact⟨p,q,arc (hk t af) h1 (fun x hx=>fL x (by simp[hx])) (fun x hx=>eH x (by simp[hx])),ih (fun t ht=>hk t (by simp[ht])) h2 (fun x hx=>fL x (by simp[hx])) (fun x hx=>eH x (by simp[hx])),rfl⟩
def BB(P:Program)(t:TypeId)(ps:List PV):V:=
 match P.underlying t with
 |some (.struct _)=>.agg (ps.map .p)
 |_=>match ps with
  |[x]=>.one (.p x)
  |_=>.undef
theorem agr{r:Reach}{b0 n:Nat}{sp:Nat->Bool}{held:Bool}{t:TypeId}{v:Value}{d:DataW H}{ps:List MemPlace}(hk:jZ P n t=true)(hval:Value.okWide P w r b0 t v)(h:DataW.Trod enc P w 0 sp held t v d ps)(hf:Fits N d):
  ∃pvs,j7 P N n t pvs/\rC w (fun _=>False) (BB P t pvs) v:=by
 obtain⟨fuel,h⟩:=h;obtain⟨pvs,h1,h2⟩:=arf n fuel t _ _ hk h hf;refine⟨pvs,h1,?_⟩;cases n with
 |zero=>simp[jZ] at hk
 |succ n=>
  have one:∀x:PV,pvs=[x]->(∀cs,v≠ .agg cs)->bU w (fun _=>False) x v:=by
   rintro x rfl aK
   have:v.cells.toList=[v]:=by
    cases v<;>first
     |rfl
     |exact(aK _ rfl).elim
   rw[this] at h2;exact h2.2 0 x v rfl rfl
  have nagg:∀ {k:TypeDesc},P.underlying t=some k->(∀fs,k≠ .struct fs)->(∀a b,k≠ .array a b)->∀cs,v≠ .agg cs:=by
   rintro k hu cM r4 cs rfl
   unfold Value.okWide at hval;rw[hu] at hval;cases k<;>simp_all[Cell.okWide,Cell.ok]
  simp only[j7] at h1;unfold BB;cases hu:P.underlying t with
  |none=>rw[hu] at h1;exact h1.elim
  |some k=>
   rw[hu] at h1;cases k<;>simp only at h1<;>try exact h1.elim
   case bool=>obtain⟨b,rfl⟩:=h1;exact one _ rfl (nagg hu af af)
   case int k=>obtain⟨b,rfl,_⟩:=h1;exact one _ rfl (nagg hu af af)
   case string=>obtain⟨b,rfl,_⟩:=h1;exact one _ rfl (nagg hu af af)
   case slice e=>obtain⟨es,rfl,_⟩:=h1;exact one _ rfl (nagg hu af af)
   case struct fs=>unfold Value.okWide at hval;rw[hu] at hval;simp only at hval;obtain⟨cs,rfl,hsz,_⟩:=hval;exact⟨cs,pvs,rfl,rfl,h2⟩
def NM(P:Program)(N n:Nat):List TypeId->List (List PV)->Prop
 |[],[]=>True
 |t::ts,p::ps=>j7 P N n t p/\NM P N n ts ps
 |_,_=>False
def BC(P:Program):List TypeId->List (List PV)->List V
 |t::ts,p::ps=>BB P t p::BC P ts ps
 |_,_=>[]
theorem agC{r:Reach}{b0 n:Nat}{sp:Nat->Bool}{held:Bool}:∀ {ts:List TypeId} {vs:List Value} {ds:List (DataW H)} {ps:List MemPlace},(∀t∈ts,jZ P n t=true)->(∀(j:Nat) t v,ts[j]?=some t->vs[j]?=some v->Value.okWide P w r b0 t v)->
  DataW.TrodAll enc P w 0 sp held ts vs ds ps->(∀d∈ds,Fits N d)->∃pvss,NM P N n ts pvss/\Pw (rC w (fun _=>False)) (BC P ts pvss) vs:=by
 intro ts
 induction ts with
 |nil=>
  intro vs ds ps _ _ h _;cases vs with
  |nil=>exact⟨[],trivial,rfl,fun j x u h=>by simp[BC] at h⟩
  |cons v vs=>cases ds<;>exact h.elim
 |cons t ts ih=>
  intro vs ds ps hk hv h hf;cases vs with
  |nil=>exact h.elim
  |cons v vs=>
   cases ds with
   |nil=>exact h.elim
   |cons d ds=>
    obtain⟨p,q,h1,h2,rfl⟩:=h;obtain⟨x,a1,a2⟩:=agr (hk t af) (hv 0 t v rfl rfl) h1 (hf d af);obtain⟨xs,b1,b2,b3⟩:=ih (fun t ht=>hk t (by simp[ht])) (fun j t v e1 e2=>hv (j+1) t v (by simpa using e1) (by simpa using e2)) h2 (fun d hd=>hf d (by simp[hd]));refine⟨x::xs,⟨a1,b1⟩,by simpa [BC] using b2,fun j y u e1 e2=>?_⟩;cases j with
    |zero=>simp[BC] at e1 e2;subst e1 e2;exact a2
    |succ j=>exact b3 j y u (by simpa [BC] using e1) (by simpa using e2)
end Go.Abs
namespace Go.Abs
open Go.RowKit
theorem fm.amZ{w w':World}(h:Below w.heap.size w w'):fm w w':=⟨h.os,h.tape,h.output,h.size,h.block⟩
theorem fm.acX(w:World)(k:Nat)(os:Array Obj):fm w (Go.Sort.grow (w.drewN k) os):=
 ⟨rfl,rfl,rfl,by simp[Go.Sort.grow,World.drewN],fun c hc=>by simp[Go.Sort.grow,World.drewN,Array.getElem?_append,hc]⟩
theorem JD{w w':World}{O:Nat->Prop}{x:PV}{v:Value}(hg:fm w w')(h:bU w' O x v):u0 w O (.one (.p x)) (.returned v) w':=
 ⟨v,[],rfl,hg,tz,fun c hc=>by simp at hc,[v],rfl,v,[],rfl,h.mono fun c _ hn=>⟨rfl,fun hq=>hn (hq.elim id fun h=>by simp at h)⟩,rfl,rfl⟩
theorem pw1{w:World}{O:Nat->Prop}{x:PV}{args:Array Value}(h:Pw (rC w O) [.one (.p x)] args.toList):∃v,args= #[v]/\bU w O x v:=by
 obtain⟨h1,h2⟩:=h;obtain⟨l⟩:=args
 match l,h1 with
 |[v],_=>exact⟨v,rfl,h2 0 _ v rfl rfl⟩
theorem pw2{w:World}{O:Nat->Prop}{x y:PV}{args:Array Value}(h:Pw (rC w O) [.one (.p x),.one (.p y)] args.toList):∃v u,args= #[v,u]/\bU w O x v/\bU w O y u:=by
 obtain⟨h1,h2⟩:=h;obtain⟨l⟩:=args
 match l,h1 with
 |[v,u],_=>exact⟨v,u,rfl,h2 0 _ v rfl rfl,h2 1 _ u rfl rfl⟩
theorem YM{w:World}{O:Nat->Prop}{v:Value}(h:bU w O (.sl []) v):∃a cap,v=.slice a 0 cap/\(a=none->cap=0)/\cap<=maxLen:=by
 generalize hx:PV.sl []=x at h;cases h<;>cases hx
 .exact⟨_,_,rfl,by assumption,by assumption⟩
 exact⟨_,_,rfl,fun h=>by simp at h,by assumption⟩
theorem aco{w:World}{O:Nat->Prop}{a:Option Addr}{cap:Nat}(h:a=none->cap=0)(hm:cap<=maxLen):bU w O (.sl []) (.slice a 0 cap):=.xm a cap h hm
def Ib:Nat->Nat->List UInt8->List UInt8
 |0,_,acc=>acc
 |k+1,u,acc=>bif Nat.blt u 10 then UInt8.ofNat (Nat.add 48 u)::acc else Ib k (Nat.div u 10) (UInt8.ofNat (Nat.add 48 (Nat.mod u 10))::acc)
theorem Yu:∀(k u:Nat) (acc:List UInt8),u<10 ^ (k+1)->Ib (k+1) u acc=Lib.decDigits u++acc:=by
 intro k
 induction k with
 |zero=>
  intro u acc h;have h:u<10:=by simpa using h
  unfold Lib.decDigits;have hb:Nat.blt u 10=true:=Nat.ble_eq_true_of_le h;simp only[Ib,hb,cond_true,dif_pos h];rfl
 |succ k ih=>
  intro u acc h;rw[Lib.decDigits,Ib];by_cases h0:u<10
  .have hb:Nat.blt u 10=true:=Nat.ble_eq_true_of_le h0;simp only[hb,cond_true,dif_pos h0];rfl
  have hb:Nat.blt u 10=false:=by
   cases e:Nat.blt u 10 with
   |false=>rfl
   |true=>exact(h0 (hU e)).elim
  simp only[hb,cond_false,dif_neg h0];have:(Nat.div u 10)<10 ^ (k+1):=by have e:Nat.div u 10=u/10:=rfl;rw[e];have:10 ^ (k+1+1)=10 ^ (k+1)*10:=Nat.pow_succ ..;omega
  rw[ih _ _ this];simp only[qG,List.singleton_append];rfl
def UP(n:Int):ByteArray:=⟨(match n with| .ofNat u=>Ib 20 u []| .negSucc u=>45::Ib 20 (Nat.succ u) []).toArray⟩
theorem alK(n:Int)(h0: -9223372036854775808<=n)(h1:n<=9223372036854775807):UP n=⟨(Lib.itoa n).toArray⟩:=by
 unfold UP Lib.itoa;cases n with
 |ofNat u=>have:¬(Int.ofNat u<0):=af;rw[if_neg this];simp only;rw[Yu 19 u [] (by simp at h1;omega)];simp
 |negSucc u=>have:Int.negSucc u<0:=Int.negSucc_lt_zero u;rw[if_pos this];simp only;rw[Yu 19 (Nat.succ u) [] aa];simp[Int.natAbs]
def strs:List (List PV)->Option (List ByteArray)
 |[]=>some []
 |[.str s]::r=>(strs r).map (s:: ·)
 |_::_=>none
theorem aqI:∀ {es:List (List PV)} {xs:List ByteArray},strs es=some xs->es=xs.map fun s=>[PV.str s]:=by
 intro es
 induction es with
 |nil=>intro xs h;simp[strs] at h;subst h;rfl
 |cons e es ih=>
  intro xs h;unfold strs at h;split at h
  .rename_i h0;cases h0
  .rename_i s r h0;cases h0;simp only[dy] at h;obtain⟨ys,h1,rfl⟩:=h;simp[ih h1]
  cases h
def Jg(sep:List UInt8):List ByteArray->List UInt8
 |[]=>[]
 |[s]=>s.data.toList
 |s::r=>s.data.toList++(sep++Jg sep r)
theorem abK(sep:List UInt8):∀xs:List ByteArray,Jg sep xs=Lib.join (xs.map (·.data.toList)) sep:=by
 intro xs;unfold Lib.join
 induction xs with
 |nil=>rfl
 |cons s r ih=>
  cases r with
  |nil=>simp[Jg,List.intercalate]
  |cons s' r=>simp only[Jg,dG] at ih ⊢;rw[ih];simp[List.intercalate,List.intersperse]
def Vv(args:List V):Option RV:=
 match args with
 |[.one (.p (.int .i64 n))]=>if -9223372036854775808<=n/\n<=9223372036854775807 then some (.one (.p (.str (UP n)))) else none
 |_=>none
theorem aoe{P:Program}{f:Nat}{nm:String}{G:World->Prop}{args:List V}{r:RV}(hG:∀w,G w->Lib.TabIs P w nm .u64 Lib.pow10Tab)
  (hf:∀(n:Int),-9223372036854775808<=n->n<=9223372036854775807->∀w:World,Lib.TabIs P w nm .u64 Lib.pow10Tab->Calls P f #[.int .i64 n] w fun e w'=>e=.returned (.string ⟨(Lib.itoa n).toArray⟩)/\ ∃k os,w'=Go.Sort.grow (w.drewN k) os)
  (h:Vv args=some r):∀(w:World) (O:Nat->Prop) (as:Array Value),Good G w->Pw (rC w O) args as.toList->Calls P f as w (u0 w O r):=by
 intro w O as hg ha;unfold Vv at h;split at h
 .rename_i n;split at h
  .rename_i hr;cases h;obtain⟨v,rfl,hp⟩:=pw1 ha;generalize hx:PV.int .i64 n=x at hp;cases hp<;>cases hx
   refine(hf n hr.1 hr.2 w (hG w hg.1)).mono ?_;rintro e w' ⟨rfl,k,os,rfl⟩
   rw[alK n hr.1 hr.2];exact JD (fm.acX _ _ _) (.str _)
  cases h
 cases h
def Vw(args:List V):Option RV:=
 match args with
 |[.one (.p (.sl es)),.one (.p (.str sep))]=>match strs es with
  |some xs=>if xs.length<=140737488355328/\(Jg sep.data.toList xs).length<=140737488355328 then some (.one (.p (.str ⟨(Jg sep.data.toList xs).toArray⟩))) else none
  |none=>none
 |_=>none
theorem aof{P:Program}{f:Nat}{args:List V}{r:RV}
  (h0:∀(a:Option Addr) (c:Nat) (sep:ByteArray) (w:World),Calls P f #[.slice a 0 c,.string sep] w fun e w'=>e=.returned (.string ⟨#[]⟩)/\w'=w)
  (hf:∀(bk o c:Nat) (xs:List ByteArray) (sep:ByteArray) (w:World),(∀(j:Nat) x,xs[j]?=some x->w.cell? ⟨bk,o+j,none⟩=some (.string x))->bk<w.heap.size->xs.length<=140737488355328->xs.length<=c->
   (Lib.join (xs.map (·.data.toList)) sep.data.toList).length<=140737488355328->Calls P f #[.slice (some ⟨bk,o,none⟩) xs.length c,.string sep] w fun e w'=>e=.returned (.string ⟨(Lib.join (xs.map (·.data.toList)) sep.data.toList).toArray⟩)/\Below w.heap.size w w')
  (h:Vw args=some r):∀(w:World) (O:Nat->Prop) (as:Array Value),Pw (rC w O) args as.toList->Calls P f as w (u0 w O r):=by
 intro w O as ha;unfold Vw at h;split at h
 .rename_i es sep;split at h
  .rename_i xs Gr;split at h
   .rename_i hl;cases h;obtain⟨v,u,rfl,hp,hq⟩:=pw2 ha;have hu:u=.string sep:=by
     generalize hx:PV.str sep=x at hq;cases hq<;>cases hx
     rfl
    subst hu;have jU:=aqI Gr;cases xs with
    |nil=>
     simp at jU;subst jU;obtain⟨a,cap,rfl,_,_⟩:=YM hp;refine(h0 a cap sep w).mono ?_;rintro e w' ⟨rfl,rfl⟩
     exact JD (fm.refl _) (.str _)
    |cons s r=>
     generalize hx:PV.sl es=x at hp;cases hp with
     |xm a cap h1 h2=>cases hx;simp at jU
     | @sl iG b o cap sz g ho hle hm hsz hc hr=>
      cases hx;have qu:es.flatten=(s::r).map PV.str:=by
       rw[jU];have:∀l:List ByteArray,(l.map fun s=>[PV.str s]).flatten=l.map PV.str:=by
        intro l
        induction l with
        |nil=>rfl
        |cons a l ih=>simp[ih]
       exact this _
      have hlen:es.length=(s::r).length:=by rw[jU];simp
      have hcells:∀(j:Nat) x,(s::r)[j]?=some x->w.cell? ⟨b,o+j,none⟩=some (.string x):=by
       intro j x hj;have h1:es.flatten[j]?=some (.str x):=by rw[qu,fX,hj];rfl
       have h2:=hr j _ h1;rw[hc j _ h1];generalize hy:PV.str x=y at h2;generalize hgj:g j=gj at h2;cases h2<;>cases hy
       rfl
      rw[hlen] at hle ⊢;refine(hf b o cap (s::r) sep w hcells (Q6 (hcells 0 s rfl)) hl.1 hle (by rw[<- abK];exact hl.2)).mono ?_;rintro e w' ⟨rfl,hb⟩
      rw[abK];exact JD (fm.amZ hb) (.str _)
     |_=>cases hx
   cases h
  cases h
 cases h
def M9(args:List V):Option RV:=
 match args with
 |[.one (.p (.int .u64 n))]=>if 0<=n/\n<=18446744073709551615 then some (.one (.p (.int .i64 (Lib.bitLen n.toNat)))) else none
 |_=>none
theorem aoc{P:Program}{f:Nat}{args:List V}{r:RV}(hf:∀(x:Int) (w:World),0<=x->x<=18446744073709551615->Calls P f #[.int .u64 x] w fun e w'=>e=.returned (.int .i64 (Lib.bitLen x.toNat))/\w'=w)
  (h:M9 args=some r):∀(w:World) (O:Nat->Prop) (as:Array Value),Pw (rC w O) args as.toList->Calls P f as w (u0 w O r):=by
 intro w O as ha;unfold M9 at h;split at h
 .rename_i n;split at h
  .rename_i hr;cases h;obtain⟨v,rfl,hp⟩:=pw1 ha;generalize hx:PV.int .u64 n=x at hp;cases hp<;>cases hx
   refine(hf n w hr.1 hr.2).mono ?_;rintro e w' ⟨rfl,rfl⟩
   exact JD (fm.refl _) (.int _ _)
  cases h
 cases h
def PL(args:List V):Option (Option RV):=
 match args with
 |[.one (.p (.sl []))]=>some (some (.one (.p (.sl []))))
 |_=>none
theorem aod{S:Sys}{G:World->Prop}(hS:Hr S G){f n:Nat}{z i g z':Nat}{fn:aX}{ak:aB}(hfn:S.fns f=some fn)(h1:js S n f [.one (.p .nils)]=some (.one (.p .nils)))
  (h2:ia S n f [.one (.hsl 0 0 z 0 0)] .all A5=some (.one (.hsl i g z' 0 0),ak)) {args:List V} {r:RV} (h:PL args=some (some r)):
  ∀(w:World) (O:Nat->Prop) (as:Array Value),Good G w->(∀c,O c->c<w.heap.size)->Pw (rC w O) args as.toList->Calls S.P f as w (u0 w O r):=by
 intro w O as hg hO ha;unfold PL at h;split at h
 .cases h;obtain⟨v,rfl,hp⟩:=pw1 ha;obtain⟨a,cap,rfl,hn,hm⟩:=YM hp;cases a with
  |none=>
   obtain rfl:=hn rfl;refine((sound hS n).1 f _ _ h1 |>.2 w O #[.slice none 0 0] hg hO ⟨rfl,fun j x u p q=>?_⟩).mono ?_
   .cases j with
    |zero=>simp at p q;subst p q;exact bU.nils
    |succ j=>simp at p
   rintro e w' ⟨val,bs,rfl,wO,im,qq,vs,q1,q2⟩
   obtain⟨v0,mQ,e1,e2,e3,e4⟩:=q2;have Gh:vs=[val]:=q1;subst Gh;cases e1;subst e4;cases e2;exact JD wO (aco (fun _=>rfl) (aY _))
  |some a=>
   let m0:Mem:=⟨w,A5,fun _=>0,fun _=>0,O⟩
   have ao:Ok w m0:=⟨rfl,rfl,rfl,aZ _,fun _ _=>rfl,(fun id o h=>by cases h),(fun id o h=>by cases h),hO,(fun id eV o o' h=>by cases h)⟩;refine(((sound hS n).2.1 f _ _ _ _ _ h2).2 w m0 #[.slice (some a) 0 cap] hg ao rfl ⟨rfl,fun j x u p q=>?_⟩).mono ?_
   .cases j with
    |zero=>simp at p q;subst p q;exact cN.hsl a cap (aY _) (aY _) hm (fun sz _ h=>by cases h)
    |succ j=>simp at p
   rintro e w' ⟨val,m',rfl,rfl,q1,q2,q3,q4,q5⟩
   have hq:cN m' (.hsl i g z' 0 0) val:=q5;cases hq with
   |hsl a2 cap2 _ _ mJ _=>
    refine JD ⟨q2.os,q2.tape,q2.output,q2.size,fun c hc=>q2.keep c hc ?_⟩ (aco (fun h=>by cases h) mJ);rintro ⟨id,o,h,_⟩
    cases h
 cases h
end Go.Abs
namespace Go.Abs
open Go.RowKit Go.WideShapes Go.ChangeShapes
section
variable {H:Type} {enc:TypeId×Value->H} {P:Program} {w:World} {base:Nat} {sp:Nat->Bool} {held:Bool}
theorem ard:∀(n fuel:Nat) (t:TypeId) (cs:List Value) (x:DataW H×List MemPlace),jZ P n t=true->DataW.trod enc P w base sp held fuel t cs=some x->Fits maxLen x.1:=by
 intro n
 induction n with
 |zero=>intro fuel t cs x h;simp[jZ] at h
 |succ n ih=>
  intro fuel t cs x ao h;cases fuel with
  |zero=>simp[DataW.trod] at h
  |succ fuel=>
   rw[DataW.trod_step] at h;unfold DataW.trodStep at h;unfold jZ at ao;split at h
   case h_1=>cases h;exact .lit _ (fun s h=>by cases h)
   case h_2=>
    split at h
    .cases h;exact .lit _ (fun s h=>by cases h)
    cases h
   case h_4=>
    split at h
    .rename_i hs;cases h;exact .str _ (by simpa using hs)
    cases h
   case h_7=>cases h;exact .nil
   case h_8 e a len cap hu=>
    rw[hu] at ao;simp only[bQ] at ao;simp only at h;split at h
    .rename_i hc;simp only[dy,QF] at h;obtain⟨elems,he,rest,ak2,rfl⟩:=h;have hlen:elems.length=len:=by simpa using mapM_some_length he
     refine .slice _ _ (by simp;omega) (fun d hd=>?_);obtain⟨y,hy,rfl⟩:=dr.1 hd;obtain⟨i,_,hi⟩:=mapM_mem_of he y hy;simp only[QF] at hi;obtain⟨row,_,h2⟩:=hi;exact ih _ _ _ _ ao.2 h2
    cases h
   case h_9=>
    rename_i fs hu;rw[hu] at ao;simp only[bQ] at ao;split at h
    .simp only[dy] at h;obtain⟨xs,hx,rfl⟩:=h;refine .agg _ (fun d hd=>?_);obtain⟨y,hy,rfl⟩:=dr.1 hd;obtain⟨f,hf,hi⟩:=mapM_mem_of hx y hy;exact ih _ _ _ _ (iC.1 ao.2 f hf) hi
    cases h
   all_goals(first|(cases h;done)|(simp_all;done)|(exfalso;simp_all;done))
theorem aeZ{n:Nat}:∀ {ts:List TypeId} {vs:List Value} {ds:List (DataW H)} {ps:List MemPlace},(∀t∈ts,jZ P n t=true)->DataW.TrodAll enc P w base sp held ts vs ds ps->(∀d∈ds,Fits maxLen d)/\ds.length=ts.length:=by
 intro ts
 induction ts with
 |nil=>
  intro vs ds ps _ h;cases vs<;>cases ds<;>first
   |exact h.elim
   |exact⟨fun d hd=>by simp at hd,rfl⟩
 |cons t ts ih=>
  intro vs ds ps hk h;cases vs with
  |nil=>exact h.elim
  |cons v vs=>
   cases ds with
   |nil=>exact h.elim
   |cons d ds=>
    obtain⟨p,q,⟨fuel,h1⟩,h2,rfl⟩:=h;obtain⟨i1,i2⟩:=ih (fun t ht=>hk t (by simp[ht])) h2;refine⟨fun x hx=>?_,by simp[i2]⟩;rcases cT.1 hx with rfl|hx
    .exact ard n fuel t _ _ (hk t af) h1
    exact i1 x hx
end
section
variable {H:Type} {enc:TypeId×Value->H} {P:Program}
theorem aob{f:Func}{s:ChangeSpec}{apart fresh handsOn again:Bool}{W W':World}{args:Array Value}{v:Value}{ds gs:List (DataW H)}{before pa pv:List MemPlace}
  (hW:DataW.Whole enc P f.params.toList s.vars apart W args.toList ds gs before)
  (gJ:∀(b:Nat) (sp:Nat->Bool) (hd:Bool),DataW.TrodAll enc P W' b sp hd f.resultTypes.toList (v.resultList f.resultTypes.size) (s.fn H (ds++gs)).results [])
  (wL:∀sp:Nat->Bool,(∀p∈before,sp p.block=true)->DataW.TrodAll enc P W' 0 sp true f.params.toList args.toList (s.fn H (ds++gs)).args pa)
  (MB:∀sp:Nat->Bool,(∀p∈before,sp p.block=true)->DataW.TrodVars enc P W' sp s.vars (s.fn H (ds++gs)).vars pv)
  (dh:before=pa++pv) (hb:Below W.heap.size W W')
  (ao:∀(j:Nat) (t:TypeId) (r:Value),f.resultTypes[j]?=some t->(v.resultList f.resultTypes.size)[j]?=some r->Value.okWide P W' .any 0 t r):
  s.post enc P f apart fresh handsOn again W args v W':=by
 have aq:∀p∈before,p.block<W.heap.size:=fun p hp=>hW.lt p hp;have hold:∀p∈before,(fun b=>decide (b<W.heap.size)) p.block=true:=fun p hp=>by simpa using aq p hp
 refine⟨ds,gs,before,[],pa,pv,hW,gJ _ _ _,wL _ hold,MB _ hold,World.keptBut_mono (fun p hp=>⟨hp,?_⟩) (hb.frame (· ∈before)),fun _=>?_⟩
 .rw[dh,fq] at hp;exact Or.inr hp
 obtain⟨_,_,_,_,_,hz,hn⟩:=hW;refine⟨ao,_,_,([]++pa)++pv,⟨[]++pa,pv,trodAll_append (wL _ (fun _ _=>rfl)) (gJ _ _ _),MB _ (fun _ _=>rfl),rfl,?_,?_⟩,?_⟩
 .intro b off hp;have l6:MemPlace.cell b off∈before:=by rw[dh];simpa using hp
  rw[hb.frozen (aq _ l6)];exact hz b off l6
 .intro ha;have:=hn ha;rw[dh] at this
  simpa using this
 intro p hp _;rw[dh]
 simpa using hp
end
theorem FX{P:Program}{N n:Nat}{t:TypeId}{k:IntKind}{p:List PV}(hu:P.underlying t=some (.int k))(h:j7 P N (n+1) t p):∃z,p=[.int k z]/\(Lit.int k z).wf=true:=by simp only[j7,hu] at h;exact h
theorem aj1{P:Program}{N n:Nat}{t:TypeId}{p:List PV}(hu:P.underlying t=some .bool)(h:j7 P N (n+1) t p):∃b,p=[.bool b]:=by simp only[j7,hu] at h;exact h
theorem aj2{P:Program}{N n:Nat}{t e:TypeId}{p:List PV}(hu:P.underlying t=some (.slice e))(h:j7 P N (n+1) t p):∃es,p=[.sl es]/\es.length<=N/\ ∀x∈es,j7 P N n e x:=by simp only[j7,hu] at h;exact h
theorem agp{P:Program}{t:TypeId}{k:TypeDesc}{x:PV}(hu:P.underlying t=some k)(hk:∀fs,k≠ .struct fs):BB P t [x]=.one (.p x):=by
 unfold BB;rw[hu];cases k<;>first
  |rfl
  |exact(hk _ rfl).elim
theorem agq{P:Program}{t:TypeId}{fs:Array Field}{x:List PV}(hu:P.underlying t=some (.struct fs)):BB P t x=.agg (x.map .p):=by unfold BB;rw[hu]
theorem alZ{S:Sys}{G:World->Prop}(hS:Hr S G)(Mb:∀w,G w->Good G w){fn:Func}{s:ChangeSpec}{f n N:Nat}{handsOn again fresh apart:Bool}(MB:s.vars=[])
  (hfn:∀(H:Type) (ds:List (DataW H)),ds.length=fn.params.toList.length->s.fn H ds={results:=[.lit (.bool true)],args:=ds}) {tb:TypeId} (gJ:fn.resultTypes= #[tb]) (htb:S.P.underlying tb=some .bool)
  (hk:∀t∈fn.params.toList,jZ S.P n t=true) (law:∀pvss,NM S.P N n fn.params.toList pvss->aH S f (BC S.P fn.params.toList pvss) (.one (.p (.bool true))))
  {H:Type} {enc:TypeId×Value->H} {W:World} {base:Nat} {args:Array Value} {ds gs:List (DataW H)} {before:List MemPlace}
  (hval:∀(j:Nat) t v,fn.params[j]?=some t->args[j]?=some v->Value.okWide S.P W .any base t v)
  (hW:DataW.Whole enc S.P fn.params.toList s.vars apart W args.toList ds gs before) (hG:G W) (hfit:∀d∈ds,Fits N d):
  Calls S.P f args W fun e W'=>∃v,e=.returned v/\s.post enc S.P fn apart fresh handsOn again W args v W':=by
 have hW':=hW;obtain⟨p,q,hA,hV,rfl,hfz,im⟩:=hW;rw[MB] at hV;obtain⟨rfl,rfl⟩:=trodVars_none hV;obtain⟨_,hlen⟩:=aeZ hk hA;obtain⟨pvss,h1,h2⟩:=agC (r:=.any) (b0:=base) hk (fun j t v a b=>hval j t v (by simpa using a) (by simpa using b)) hA hfit;refine((law pvss h1).calls hS W (Mb W hG) args h2).mono ?_;rintro e W' ⟨val,bs,rfl,hg,_,_,vs,q1,q2⟩
 obtain⟨v0,mQ,e1,e2,e3,e4⟩:=q2;have Gh:vs=[val]:=q1;subst Gh;cases e1;have hv:val=.bool true:=by
  generalize hx:PV.bool true=x at e2;cases e2<;>cases hx
  rfl
 subst hv;have hb:Below W.heap.size W W':=⟨hg.os,hg.tape,hg.output,hg.size,hg.keep⟩;have aq:∀x∈p++[],x.block<W.heap.size:=fun x hx=>hW'.lt x hx;refine⟨_,rfl,aob (pa:=p) (pv:=[]) hW' ?_ ?_ ?_ rfl hb ?_⟩
 .intro b sp hd;rw[oN,hfn H ds hlen,gJ];exact trodAll_cons_mk (shut_bool htb _) trodAll_mk0
 .intro GP mw;rw[oN,hfn H ds hlen];exact arb (fun t ht=>⟨n,hk t ht⟩) hA (fun x hx=>hb.same (aq x (by simpa using hx))) (fun x hx=>mw x (by simpa using hx))
 .intro GP mw;rw[oN,hfn H ds hlen,MB];rfl
 exact ok_one gJ rfl (okWide_bool_mk htb _)
end Go.Abs
namespace Go.Abs
theorem adz(aj:Env)(t:Nat)(v:V):put aj (some t) v=cZ aj t v:=rfl
theorem adx(aj:Env)(v:V):put aj none v=aj:=rfl
theorem YX(aj:Env)(n:Nat):ev aj (.t n)=aj n:=rfl
theorem YV(aj:Env)(n:Int):ev aj (.i n)=.one (.p (.int .i64 n)):=rfl
theorem YU(aj:Env)(x:Bool):ev aj (.b x)=.one (.p (.bool x)):=rfl
theorem YW(aj:Env)(v:V):ev aj (.k v)=v:=rfl
theorem aby(a:V)(l:List V):sv (a::l) 0=a:=rfl
theorem abx(a:V)(l:List V)(n:Nat):sv (a::l) (n+1)=sv l n:=rfl
def Fi(v:V)(want:Bool):Option Bool:=match v with
 | .one (.p (.bool b))=>some (b==want)
 | .undef=>some false
 |_=>none
theorem afi(b want:Bool):Fi (.one (.p (.bool b))) want=some (b==want):=rfl
theorem afj(want:Bool):Fi .undef want=some false:=rfl
section
variable {S:Sys} {al:Al} {o:ch} {aj:Env} {blk:aB} {tr:List bX} {K:Env->aB->List bX->Prop} {d:Option Nat}
theorem XB{id:Nat}{Q:ef}:rG id Q .normal aj blk=Q .normal aj blk:=rfl
theorem XC{id:Nat}{Q:ef}:rG id Q .ret aj blk=Q .ret aj blk:=rfl
theorem XA{id i:Nat}{Q:ef}:rG id Q (.exit i) aj blk=if i=id then Q .normal aj blk else Q (.exit i) aj blk:=rfl
end
def WN (S:Sys)(al:Al)(ops:List ch)(Q:Env->aB->Prop)(aj:Env)(blk:aB):Prop:=∀tr,WO S al ops (fun aj blk _=>Q aj blk) aj blk tr
def Ix(S:Sys)(al:Al)(p:ft)(d:Option Nat)(aj:Env)(blk:aB)(K:Env->aB->Prop):Prop:=
 match p with
 | .fail=>False
 | .done v u r=>al.gG (r++u.map (·.1))=true/\K (put aj d v) (app u blk)
 | .pc f vs r s=>∃x,aH S f vs x/\match land blk r s (x.gV (S.lone s)) with
  |some (v,u)=>al.gG (r++u.map (·.1))=true/\K (put aj d v) (app u blk)
  |none=>False
 | .sc f vs=>al.holds (allow (S.ctx al) f vs blk)=true/\ ∃v ak,jd S f vs (allow (S.ctx al) f vs blk) blk v ak/\K (put aj d v) ak
def OI(S:Sys)(al:Al)(w:Option Bool)(o:ch)(aj:Env)(blk:aB)(K:Env->aB->Prop):Prop:=
 match w with
 |none=>False
 |some false=>K (put aj o.dst .undef) blk
 |some true=>Ix S al (bj S.shared aj blk o.op) o.dst aj blk K
section
variable {S:Sys} {al:Al} {aj:Env} {blk:aB}
theorem afM{ops:List ch}{R R':Env->aB->Prop}{tr tr':List bX}(h:WO S al ops (fun aj blk _=>R aj blk) aj blk tr)(hR:∀e b,R e b->R' e b):WO S al ops (fun aj blk _=>R' aj blk) aj blk tr':=by obtain⟨n,e,b,es,h1,h2⟩:=h;exact⟨n,e,b,es,h1,hR _ _ h2⟩
theorem afZ{ops:List ch}{Q:ef}:W S al (.region false ops) Q aj blk↔WN S al ops (fun aj blk=>Q .normal aj blk) aj blk:=by
 rw[W3];constructor
 .intro h tr;obtain⟨n,e,b,es,h1,_,h2⟩:=h;exact⟨n,e,b,es,h1,h2⟩
 intro h;obtain⟨n,e,b,es,h1,h2⟩:=h [];exact⟨n,e,b,es,h1,(fun h=>by cases h),h2⟩
theorem afL{R:Env->aB->Prop}:WN S al [] R aj blk↔R aj blk:=⟨fun h=>QJ.1 (h []),fun h _=>QJ.2 h⟩
theorem aaI{o:ch}{os:List ch}{R:Env->aB->Prop}{w:Option Bool}(tr:List bX):DO S al w o aj blk tr (WO S al os fun e b _=>R e b)↔OI S al w o aj blk (WN S al os R):=by
 have k:∀ {e:Env} {b:aB} {t:List bX},WO S al os (fun e b _=>R e b) e b t↔WN S al os R e b:=fun {e b t}=>⟨fun h t'=>afM h fun _ _ h=>h,fun h=>h t⟩;cases w with
 |none=>exact Iff.rfl
 |some w=>
  cases w with
  |false=>exact k (t:=tr++[⟨[],[],[]⟩])
  |true=>
   simp only[DO,OI];cases bj S.shared aj blk o.op with
   |fail=>exact Iff.rfl
   |done v u r=>simp only[FW,Ix,k]
   |pc f vs r s=>
    simp only[FW,Ix];refine exists_congr fun x=>and_congr Iff.rfl ?_;cases land blk r s (x.gV (S.lone s)) with
    |none=>exact Iff.rfl
    |some y=>simp only[k]
   |sc f vs=>simp only[FW,Ix,k]
theorem W0{o:ch}{os:List ch}{R:Env->aB->Prop}:WN S al (o::os) R aj blk↔OI S al (wanted aj o.guard) o aj blk (WN S al os R):=by
 constructor
 .intro h;exact(aaI []).1 (NQ.1 (h []))
 intro h tr;exact NQ.2 ((aaI tr).2 h)
variable {o:ch} {K:Env->aB->Prop} {d:Option Nat}
end
theorem bft:(false==true)=false:=rfl
theorem btf:(true==false)=false:=rfl
theorem bff:(false==false)=true:=rfl
theorem btt:(true==true)=true:=rfl
theorem ac6{blk:aB}{x:PV}:kx blk (.one (.p x))=some (.one (.p x)):=rfl
theorem norm_int(k:IntKind)(n:Int):(PV.int k n).norm=.int k n:=rfl
theorem acH(b:Bool):(PV.bool b).norm=.bool b:=rfl
theorem acS(s:ByteArray):(PV.str s).norm=.str s:=rfl
theorem acP:PV.nils.norm=.sl []:=rfl
theorem acQ(es:List (List PV)):(PV.sl es).norm=.sl es:=rfl
theorem acI(es:List PV):(PV.box es).norm=.box es:=rfl
theorem acJ(f:Nat)(a b:List PV):(PV.fn f a b).norm=.fn f a b:=rfl
theorem acO:PV.xg.norm=.xg:=rfl
theorem acM:PV.vx.norm=.vx:=rfl
theorem acN:PV.rj.norm=.rj:=rfl
theorem acK(a:Bool)(e:List (PV×List PV)):(PV.mp a e).norm=.mp a e:=rfl
theorem aen{blk:aB}:Bg blk []=some ([],[]):=rfl
def V1(x:Option (V×List Nat))(y:Option (List V×List Nat)):Option (List V×List Nat):=match x,y with
 |some (b,x),some (bs,y)=>some (b::bs,x++y)
 |_,_=>none
theorem aem{blk:aB}{x:V}{xs:List V}:Bg blk (x::xs)=V1 (nT blk x) (Bg blk xs):=by simp only[Bg,V1,collect];cases nT blk x<;>cases collect (nT blk) xs<;>rfl
theorem aei{b:V}{x:List Nat}{bs:List V}{y:List Nat}:V1 (some (b,x)) (some (bs,y))=some (b::bs,x++y):=rfl
theorem ael{blk:aB}{x:PV}:nT blk (.one (.p x))=some (.one (.p x.norm),[]):=rfl
end Go.Abs
