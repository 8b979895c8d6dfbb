/-
  Each operation of the abstract machine is what the program does: the second part.
-/
import Derived.Test.YtfohniicngjeoaaGreatDoorMa
import Derived.Laws.BytesString
import Derived.LoopN
import Derived.Scope
import Derived.Orders
import Derived.ChangeReads
import Derived.ChangeStays
import Derived.DataReads
import Derived.Below
import Derived.Sort.Grow
import Derived.Deep.Draws
import Derived.Lib.ItoaNum
import Derived.Lib.Join
import Derived.Lib.BitFns
import Derived.Lib.LaidTab
import Derived.ChangeSame
import Derived.ProofKit
import Derived.OpenShut
set_option linter.all false
namespace Go.Abs
variable {P:Program} {w0:World}
section
variable{ag:Bool}
def Nz(w:World)(own:Nat->Prop)(ag:Bool)(es:List (PV×List PV))(ents:Array MapEntry):Prop:=ents.size=es.length/\ ∀(i:Nat) (q:PV) (v:List PV) (e:MapEntry),es[i]?=some (q,v)->ents[i]?=some e->bY w own q e.key/\ ∃g:Array Value,(ag=true->e.val=.agg g)/\(ag=false-> #[e.val]=g)/\dk w own v g.toList
theorem Li{w:World}{r:Nat}{es:Array MapEntry}{clock:Nat}(hb:w.heap[r]?=some (.map es clock)):(getObj r).run P w=.ok (.map es clock) w:=by simp[getObj,Sem.run,hb]
theorem aeR{w:World}{r:Nat}{es:Array MapEntry}{clock:Nat}{ob:Obj}(hb:w.heap[r]?=some (.map es clock)):(setObj r ob).run P w=.ok () {w with heap:=w.heap.setIfInBounds r ob}:=by simp[setObj,Sem.run,hb]
theorem adj{w:World}{own:Nat->Prop}{es:List (PV×List PV)}{v:Value}(h:bY w own (.mp ag es) v):
  ∃r ents clock,v=.map (some r)/\w.heap[r]?=some (.map ents clock)/\Nz w own ag es ents:=by
 cases h with
 |mp r ents clock g ho hb hl hk hv hr=>
  refine⟨r,ents,clock,rfl,hb,hl,fun i q v e h1 h2=>⟨hk i q v e h1 h2,g i,(hv i q v e h1 h2).2.1,(hv i q v e h1 h2).2.2,?_,fun j x u a b=>?_⟩⟩
  .simpa using (hv i q v e h1 h2).1
  exact hr i q v j x u h1 a (by simpa using b)
theorem L7{m:Mem}(au:Ok w0 m){id g:Nat}{v:Value}(h:bQ m (.one (.j8 id g)) v){es:List (PV×List PV)}(hb:m.aj id=(g,some (.map ag es))\/m.aj id=(g,some (.fmap ag es))):
  ∃r ents clock,v=.map (some r)/\r=m.σ id/\m.w.heap[r]?=some (.map ents clock)/\Nz m.w m.own ag es ents:=by
 have h:cS m (.j8 id g) v:=h;cases h with
 |j8 r hg hr=>
  rcases hb with hb|hb
  .obtain⟨ents,clock,h1,h2,h3⟩:=au.obj id _ (congrArg Prod.snd hb);have:=hr (by rw[hb]) (by rw[hb];rfl);subst this;exact⟨_,ents,clock,rfl,rfl,h1,h2,h3⟩
  obtain⟨ents,clock,h1,h2,h3,_⟩:=au.obj id _ (congrArg Prod.snd hb);have:=hr (by rw[hb]) (by rw[hb];rfl);subst this;exact⟨_,ents,clock,rfl,rfl,h1,h2,h3⟩
theorem anb{m:Mem}(au:Ok w0 m){x:V}{v:Value}{es:List (PV×List PV)}{r:List Nat}(h:mapOf m.aj ag x=some (es,r))(hv:bQ m x v):
  ∃ents:Array MapEntry,((v=.map none/\ents= #[])\/ ∃ref clock,v=.map (some ref)/\m.w.heap[ref]?=some (.map ents clock))/\Nz m.w m.own ag es ents:=by
 unfold mapOf at h;split at h
 .cases h;exact⟨#[],.inl ⟨abD hv,rfl⟩,rfl,fun i q v e h=>by simp at h⟩
 .rename_i rl lE;split at h
  .rename_i e;subst e;cases h;obtain⟨hp⟩:cS m _ v:=hv;obtain⟨r,ents,clock,h1,h2,h3⟩:=adj hp;exact⟨ents,.inr ⟨r,clock,h1,h2⟩,h3⟩
  cases h
 .rename_i id g;split at h
  .rename_i g' rl lE hb;split at h
   .rename_i hc;obtain⟨rfl,rfl⟩:=hc;cases h;obtain⟨r,ents,clock,h1,_,h2,h3⟩:=L7 au hv (.inl hb);exact⟨ents,.inr ⟨r,clock,h1,h2⟩,h3⟩
   cases h
  .rename_i g' rl lE hb;split at h
   .rename_i hc;obtain⟨rfl,rfl⟩:=hc;cases h;obtain⟨r,ents,clock,h1,_,h2,h3⟩:=L7 au hv (.inr hb);exact⟨ents,.inr ⟨r,clock,h1,h2⟩,h3⟩
   cases h
  cases h
 cases h
theorem amA{m:Mem}(au:Ok w0 m){x:V}{v:Value}{n:Nat}{r:List Nat}(h:zj m.aj x=some (n,r))(hv:bQ m x v):
  (v=.map none/\n=0)\/ ∃ref ents clock,v=.map (some ref)/\m.w.heap[ref]?=some (.map ents clock)/\ents.size=n:=by
 unfold zj at h;split at h
 .cases h;exact .inl ⟨abD hv,rfl⟩
 .cases h;obtain⟨hp⟩:cS m _ v:=hv;obtain⟨r,ents,clock,h1,h2,h3⟩:=adj hp;exact .inr ⟨r,ents,clock,h1,h2,h3.1⟩
 .rename_i id g;split at h
  .rename_i g' rl lE hb;split at h
   .rename_i hc;subst hc;cases h;obtain⟨r,ents,clock,h1,_,h2,h3⟩:=L7 au hv (.inl hb);exact .inr ⟨r,ents,clock,h1,h2,h3.1⟩
   cases h
  .rename_i g' rl lE hb;split at h
   .rename_i hc;subst hc;cases h;obtain⟨r,ents,clock,h1,_,h2,h3⟩:=L7 au hv (.inr hb);exact .inr ⟨r,ents,clock,h1,h2,h3.1⟩
   cases h
  cases h
 cases h
def Dn(kind:TypeDesc)(kd:Nat):Prop:=(kd=0/\ ∃k,kind=.int k)\/(kd=1/\kind=.string)\/(kd=2/\kind=.bool)
theorem acz{t:TypeId}{kd:Nat}(h:keyOf P t=some kd):∃kind,P.underlying t=some kind/\Dn kind kd:=by
 unfold keyOf at h;split at h
 .rename_i k hk;cases h;exact⟨_,hk,.inl ⟨rfl,_,rfl⟩⟩
 .rename_i hk;cases h;exact⟨_,hk,.inr (.inl ⟨rfl,rfl⟩)⟩
 .rename_i hk;cases h;exact⟨_,hk,.inr (.inr ⟨rfl,rfl⟩)⟩
 cases h
theorem V6{w:World}{own:Nat->Prop}{k q:PV}{kv qv:Value}{kind:TypeDesc}{b:Bool}(hk:Dn kind (iC k))(h:sameKey k q=some b)(h1:bY w own k kv)(h2:bY w own q qv):Instr.sameNow kind kv qv=some b:=by
 unfold sameKey at h;split at h
 .rename_i a b' c d;split at h
  .rename_i e;subst e;cases h;rcases hk with ⟨_,x,rfl⟩|⟨e,_⟩|⟨e,_⟩
   .cases h1;cases h2;simp[Instr.sameNow]
   .simp[iC] at e
   simp[iC] at e
  cases h
 .cases h;rcases hk with ⟨e,_⟩|⟨_,rfl⟩|⟨e,_⟩
  .simp[iC] at e
  .cases h1;cases h2;simp[Instr.sameNow]
  simp[iC] at e
 .cases h;rcases hk with ⟨e,_⟩|⟨e,_⟩|⟨_,rfl⟩
  .simp[iC] at e
  .simp[iC] at e
  cases h1;cases h2;simp[Instr.sameNow]
 cases h
theorem sameKey_eq{w:World}{own:Nat->Prop}{k q:PV}{kv qv:Value}(h:sameKey k q=some true)(h1:bY w own k kv)(h2:bY w own q qv):qv=kv:=by
 unfold sameKey at h;split at h
 .split at h
  .rename_i e;subst e;simp at h;subst h;cases h1;cases h2;rfl
  cases h
 .rename_i a b;have e:(a==b)=true:=by simpa using h
  rw[beq_toListBytes] at e;have e:a=b:=by
   have e:a.toList=b.toList:=by simpa using e
   rw[ByteArray.toList_eq,ByteArray.toList_eq] at e;exact ByteArray.ext (Array.toList_inj.1 e)
  subst e;cases h1;cases h2;rfl
 .simp at h;subst h;cases h1;cases h2;rfl
 cases h
theorem Z8{w:World}{own:Nat->Prop}{k:PV}{kv:Value}{kind:TypeDesc}(hk:Dn kind (iC k))(h1:bY w own k kv):∀ {es:List (PV×List PV)} {l:List MapEntry} {i:Nat} {f:Option (Nat×List PV)},
  l.length=es.length->(∀(j:Nat) (q:PV) (v:List PV) (e:MapEntry),es[j]?=some (q,v)->l[j]?=some e->bY w own q e.key)->oO k es i=some f->
  (f=none/\Instr.findNow kind kv l i=some none)\/ ∃j q v e,f=some (i+j,v)/\es[j]?=some (q,v)/\l[j]?=some e/\sameKey k q=some true/\Instr.findNow kind kv l i=some (some (i+j,e.val)):=by
 intro es
 induction es with
 |nil=>
  intro l i f hl _ hf;simp[oO] at hf;cases l with
  |nil=>exact .inl ⟨hf.symm,rfl⟩
  |cons _ _=>simp at hl
 |cons p r ih=>
  intro l i f hl hq hf;obtain⟨a,v⟩:=p;cases l with
  |nil=>simp at hl
  |cons e l=>
   have sM:=hq 0 a v e rfl rfl;simp only[oO] at hf;split at hf
   .rename_i hs;cases hf;exact .inr ⟨0,a,v,e,rfl,rfl,rfl,hs,by simp[Instr.findNow,V6 hk hs h1 sM]⟩
   .rename_i hs;rcases ih (l:=l) (i:=i+1) (f:=f) (by simpa using hl) (fun j q v e a b=>hq (j+1) q v e (by simpa using a) (by simpa using b)) hf with ⟨e1,e2⟩|⟨j,q,v',e',e1,e2,e3,e4,e5⟩
    .exact .inl ⟨e1,by simp[Instr.findNow,V6 hk hs h1 sM,e2]⟩
    refine .inr ⟨j+1,q,v',e',by rw[e1];congr 2;omega,by simpa using e2,by simpa using e3,e4,?_⟩;simp only[Instr.findNow,V6 hk hs h1 sM,e5];congr 3;omega
   cases hf
theorem ahM{t:TypeId}{kind:TypeDesc}{kd:Nat}{b:Bool}{v:Value}(w:World)(h:P.underlying t=some kind)(hk:Dn kind kd)(n:Nat):(Instr.checkKey b (n+1) t v).run P w=.ok () w:=by rcases hk with ⟨_,k,rfl⟩|⟨_,rfl⟩|⟨_,rfl⟩<;>simp[Instr.checkKey,run_underlying h]
theorem KF{t:TypeId}{kind:TypeDesc}{kd:Nat}{b:Bool}{v:Value}(w:World)(h:P.underlying t=some kind)(hk:Dn kind kd):(Instr.checkKey b 10000 t v).run P w=.ok () w:=ahM w h hk 9999
theorem apN{w:World}{own:Nat->Prop}{k:PV}{kv:Value}{kind:TypeDesc}(hk:Dn kind (iC k))(h:bY w own k kv)(n:Nat):Instr.sameBits n kv kv=true:=by
 cases h<;>first
  |(simp[iC,Dn] at hk;done)
  |(simp[Instr.sameBits];done)
  |(simp[Instr.sameBits,beq_toListBytes];done)
theorem amd{w0 w:World}{own:Nat->Prop}{k:PV}{kv:Value}{kind:TypeDesc}(hk:Dn kind (iC k))(h:bY w0 own k kv):(Instr.keyThatStays kv kv).run P w=.ok kv w:=by rw[Instr.keyThatStays,apN hk h,if_pos rfl];rfl
theorem On{t:TypeId}{kind:TypeDesc}{v:Value}{l:List MapEntry}{r:Option (Nat×Value)}(w:World)(h:P.underlying t=some kind)(hf:Instr.findNow kind v l 0=some r):(Instr.findKey t v l).run P w=.ok r w:=by simp[Instr.findKey,run_underlying h,hf]
theorem ada{m:Mem}{v:List PV}{x:V}{val:Value}{g:Array Value}(h:mapVal ag v=some x)(h1:ag=true->val=.agg g)(h2:ag=false-> #[val]=g)(hp:dk m.w m.own v g.toList):bQ m x val/\nJ m x val:=by
 cases ag with
 |true=>simp only[mapVal,fI] at h;subst h;exact⟨bQ.agg.2 ⟨g,h1 rfl,hp.CX⟩,⟨g,h1 rfl,hp.CX⟩⟩
 |false=>
  have h2:=h2 rfl;subst h2;cases v with
  |nil=>simp[mapVal] at h
  |cons c r=>
   cases r with
   |nil=>simp only[mapVal,fI] at h;subst h;have:=hp.2 0 c val rfl rfl;exact⟨mS this,cS.p this⟩
   |cons _ _=>simp[mapVal] at h
section
variable {m:Mem} {ak:Env} {a:Act} {o:Oper} (au:Ok w0 m) (hr:iZ m ak a.tmps)
include au
theorem aqm{t kt e:TypeId}{s:Nat}(ho:o.op=.makeMap t none):
  fJ P w0 a.eval o m (.one (.j8 s ((m.aj s).1+1))) [(s,((m.aj s).1+1,some (.map ag [])))]:=by
 refine⟨.map (some m.w.heap.size),m.fresh (.map #[] 0) s 0 (.map ag []),.inl ?_,aam au _ s 0 _ ⟨#[],0,aal _ s 0 _,rfl,fun i q v e h=>by simp at h⟩,Ov _ s 0 _,Ul au _ s 0 _,Uk _ _ s 0 _,bQ.one.2 (.j8 _ ?_ fun _ _=>?_)⟩
 .simp[execOp,ho,Instr.makeMap];rfl
 .simp[Mem.fresh,Mem.install,Mem.later,aN]
 simp[Mem.fresh,Mem.install,aN]
include hr
theorem aqo{c:Call}{x:Operand}{x':aR}{t k e:TypeId}{n:Nat}{r:List Nat}(ho:o.op=.call c)(hc:c.callee=.builtin .len)(has:c.args= #[x])(jP:c.argTypes[0]?=some t)(ht:P.underlying t=some (.map k e))
  (hx:cE x=some x') (hv:zj m.aj (ev ak x')=some (n,r)):fJ P w0 a.eval o m (.one (.p (.int .i64 n))) []:=by
 refine .calm au ?_ (mS (.int _ _));have h0:(#[a.eval x]:Array Value)[0]?=some (a.eval x):=rfl;rcases amA au hv (eB hx hr) with ⟨h1,rfl⟩|⟨ref,ents,clock,h1,h2,rfl⟩
 .simp[execOp,ho,resolve,hc,has,jP,invoke,builtin,Builtin.len_,run_underlying ht,h1,goInt]
 simp[execOp,ho,resolve,hc,has,jP,invoke,builtin,Builtin.len_,run_underlying ht,h1,goInt,Li h2]
theorem aqi{t kt e:TypeId}{x k:Operand}{x' k':aR}{ok:Bool}{z:List PV}{q:Option Nat}{kd:Nat}{es:List (PV×List PV)}{r:List Nat}{key:PV}{f:Option (Nat×List PV)}{w:V}(ho:o.op=.lookup t x k ok)(ht:P.underlying t=some (.map kt e))
  (hz:Bp P e=some z) (Am:keyOf P kt=some kd) (xw:QJ P e=q.isSome) (hx:cE x=some x') (hk:cE k=some k') (hm:mapOf m.aj q.isSome (ev ak x')=some (es,r)) (Cp:ev ak k'=.one (.p key)) (u7:iC key=kd)
  (hf:oO key es 0=some f) (hw:mapVal q.isSome ((f.map (·.2)).getD z)=some w):fJ P w0 a.eval o m (if ok then .tup [w,.one (.p (.bool f.isSome))] else w) []:=by
 obtain⟨kind,y7,Cr⟩:=acz Am;obtain⟨ents,OK,hl,ek⟩:=anb au hm (eB hx hr);have L2:=eB hk hr;rw[Cp] at L2;obtain⟨dd⟩:cS m _ _:=L2;have mL:(∃ref clock,a.eval x=.map (some ref)/\m.w.heap[ref]?=some (.map ents clock))\/a.eval x=.map none/\ents= #[]:=by
  rcases OK with h|h
  .exact .inr h
  exact .inl h
 have key:∀(val:Value) (b:Bool),bQ m w val->nJ m w val->f.isSome=b->(Instr.lookup t (a.eval x) (a.eval k) ok).run P m.w=.ok (if ok then .tuple #[val,.bool b] else val) m.w->fJ P w0 a.eval o m (if ok then .tup [w,.one (.p (.bool f.isSome))] else w) []:=by
  intro val b h1 jO h2 h3;refine .calm au (x:=if ok then .tuple #[val,.bool b] else val) ?_ ?_
  .simp[execOp,ho,h3]
  cases ok
  .exact h1
  refine⟨_,rfl,rfl,fun j y u p q=>?_⟩;rcases j with _|_|j
  .simp at p q;subst p q;exact jO
  .simp at p q;subst p q;rw[h2];exact cS.p (.bool _)
  simp at p
 rcases Z8 (kind:=kind) (by rw[u7];exact Cr) dd (l:=ents.toList) (by simpa using hl) (fun j q v e h1 h2=>(ek j q v e h1 (by simpa using h2)).1) hf with ⟨rfl,hn⟩|⟨j,q',v,e',rfl,h2,h3,_,hn⟩
 .obtain⟨zv,i,hi,xI,IW,mr,dE⟩:=Ns hz;obtain⟨v1,v2⟩:=ada (m:=m) (val:=zv) (g:=zv.cells) hw (fun hq=>by
    rw[hq] at xw;unfold QJ at xw;rw[hi] at xw;simp only[xI] at xw;cases zv<;>simp[Value.cells] at xw ⊢) (fun hq=>by
    rw[hq] at xw;unfold QJ at xw;rw[hi] at xw;simp only[xI] at xw;cases zv<;>simp[Value.cells] at xw ⊢) (dE m.w m.own)
  refine key zv false v1 v2 rfl ?_;have Eb:=On (P:=P) m.w y7 hn;rcases mL with ⟨ref,clock,h1,h2⟩|⟨h1,h2⟩
  .cases ok<;>simp[Instr.lookup,run_underlying ht,h1,Li h2,KF m.w y7 Cr,Eb,zeroValue,typeInfo,hi,xI]
  subst h2;cases ok<;>simp[Instr.lookup,run_underlying ht,h1,KF m.w y7 Cr,Instr.findKey,run_underlying y7,Instr.findNow,zeroValue,typeInfo,hi,xI]
 obtain⟨hqk,g,F1,IC,dE⟩:=ek j q' v e' h2 (by simpa using h3);obtain⟨v1,v2⟩:=ada hw F1 IC dE;refine key e'.val true v1 v2 rfl ?_;have Eb:=On (P:=P) m.w y7 hn;rcases mL with ⟨ref,clock,h1,h2⟩|⟨h1,h2⟩
 .cases ok<;>simp[Instr.lookup,run_underlying ht,h1,Li h2,KF m.w y7 Cr,Eb]
 subst h2;simp at h3
theorem aeW{t kt e:TypeId}{x k y:Operand}{x' k' y':aR}{kd:Nat}{ag:Bool}{id g:Nat}{es:List (PV×List PV)}{key:PV}{cs:List C}{ps:List PV}{f:Option (Nat×List PV)}(ho:o.op=.mapUpdate t x k y\/o.op=.insert t x k y)(ht:P.underlying t=some (.map kt e))
  (Am:keyOf P kt=some kd) (hx:cE x=some x') (hk:cE k=some k') (hy:cE y=some y') (hm:ev ak x'=.one (.j8 id g)) (hb:m.aj id=(g,some (.map ag es))) (Cp:ev ak k'=.one (.p key)) (u7:iC key=kd)
  (de:w8 ag (ev ak y')=some cs) (dE:Bi cs=some ps) (hf:oO key es 0=some f):
  fJ P w0 a.eval o m .undef [(id,(g,some (.map ag (match f with|some (i,_)=>es.set i (key,ps)|none=>es++[(key,ps)]))))]:=by
 obtain⟨kind,y7,Cr⟩:=acz Am;have CA:=eB hx hr;rw[hm] at CA;have hid:=congrArg Prod.snd hb;have hg:=congrArg Prod.fst hb;obtain⟨ref,ents,clock,zh,aY,hh,hl,ek⟩:=L7 au CA (.inl hb);subst aY;have L2:=eB hk hr;rw[Cp] at L2;obtain⟨dd⟩:cS m _ _:=L2;have hyr:=eB hy hr
 -- the value's cells
 have hval:∃gv:Array Value,(ag=true->a.eval y=.agg gv)/\(ag=false-> #[a.eval y]=gv)/\dk m.w m.own ps gv.toList:=by
  generalize ev ak y'=vy at de hyr;cases ag with
  |true=>
   cases vy<;>simp[w8] at de
   subst de;obtain⟨arr,h1,h2⟩:=bQ.agg.1 hyr;exact⟨arr,fun _=>h1,fun h=>(by cases h),Ng dE h2⟩
  |false=>
   cases vy<;>simp[w8] at de
   subst de;refine⟨#[a.eval y],fun h=>(by cases h),fun _=>rfl,Ng dE ⟨rfl,fun j x u p q=>?_⟩⟩;rcases j with _|j
   .simp at p q;subst p q;exact hyr
   simp at p
 obtain⟨gv,xN,qh,hvp⟩:=hval;have ay:=u6 hh;have acy:∀(BX:Array MapEntry) (Dx:Nat) (lE:List (PV×List PV)),(execOp a.eval o).run P m.w=.ok .skip {m.w with heap:=m.w.heap.setIfInBounds (m.σ id) (.map BX Dx)}->Nz m.w m.own ag lE BX->
   fJ P w0 a.eval o m .undef [(id,(g,some (.map ag lE)))]:=by
  intro BX Dx lE ml OK;have hs:(m.w.heap.setIfInBounds (m.σ id) (.map BX Dx)).size=m.w.heap.size:=af;have hko:∀c,c≠m.σ id->(m.w.heap.setIfInBounds (m.σ id) (.map BX Dx))[c]?=m.w.heap[c]? :=fun c hc=>by rw[Array.getElem?_setIfInBounds];rw[if_neg (fun e=>hc e.symm)]
  have dY:Ev m (m.km {m.w with heap:=m.w.heap.setIfInBounds (m.σ id) (.map BX Dx)} id (.map ag lE)):=Na hid rfl rfl rfl rfl rfl hs hko;refine⟨_,m.km {m.w with heap:=m.w.heap.setIfInBounds (m.σ id) (.map BX Dx)} id (.map ag lE),.inr ⟨ml,rfl⟩,Qj hid rfl au rfl rfl rfl rfl hs hko ?_,dY,rfl,?_,rfl⟩
  .refine⟨BX,Dx,?_,OK.1,fun i q v e h1 h2=>?_⟩
   .show(m.w.heap.setIfInBounds (m.σ id) (.map BX Dx))[m.σ id]?=_;rw[Array.getElem?_setIfInBounds,if_pos rfl,if_pos ay]
   obtain⟨p1,gg,p2,p3,p4⟩:=OK.2 i q v e h1 h2;exact⟨p1.ev dY.zero,gg,p2,p3,p4.ev dY.zero⟩
  simp only[Mem.km,app,hg]
 rcases Z8 (kind:=kind) (by rw[u7];exact Cr) dd (l:=ents.toList) (by simpa using hl) (fun j q v e h1 h2=>(ek j q v e h1 (by simpa using h2)).1) hf with ⟨rfl,hn⟩|⟨j,q',v,e',rfl,h2,h3,h4,hn⟩
 .refine acy (ents.push {key:=a.eval k,val:=a.eval y,born:=clock}) (clock+1) _ ?_ ?_
  .have Eb:=On (P:=P) m.w y7 hn;rcases ho with ho|ho<;>simp[execOp,ho,Instr.mapUpdate,run_underlying ht,zh,Li hh,KF m.w y7 Cr,Eb,aeR hh]
  refine⟨by simp[hl],fun i q v e h1 h2=>?_⟩;by_cases hi:i<es.length
  .rw[De hi] at h1;rw[Array.getElem?_push,if_neg aa] at h2;exact ek i q v e h1 h2
  rw[Bt aa] at h1;have:i=es.length:=by
   by_cases h:i-es.length=0
   .omega
   have:=(aW.1 h1).1;simp at this;omega
  subst this;simp at h1;obtain⟨rfl,rfl⟩:=h1;rw[Array.getElem?_push,if_pos hl.symm] at h2;cases h2;exact⟨dd,gv,xN,qh,hvp⟩
 have qH:ents[j]?=some e':=by simpa using h3
 have hqe:e'.key=a.eval k:=sameKey_eq h4 dd (ek j q' v e' h2 qH).1;refine acy (ents.modify j fun e=>{e with key:=a.eval k,val:=a.eval y}) clock _ ?_ ?_
 .have Eb:=On (P:=P) m.w y7 hn;rw[kU] at Eb;have L3:(Instr.keyThatStays e'.key (a.eval k)).run P m.w=.ok (a.eval k) m.w:=by rw[hqe];exact amd (kind:=kind) (by rw[u7];exact Cr) dd
  rcases ho with ho|ho<;>simp[execOp,ho,Instr.mapUpdate,run_underlying ht,zh,Li hh,KF m.w y7 Cr,Eb,aeR hh,qH,L3]
 simp only[kU];refine⟨by simp[hl],fun i q v e h1 h2=>?_⟩;rw[pN] at h1;rw[Array.getElem?_modify] at h2;by_cases gA:j=i
 .subst gA;rw[if_pos rfl] at h1;split at h1
  .cases h1;simp[qH] at h2;subst h2;exact⟨dd,gv,xN,qh,hvp⟩
  cases h1
 rw[if_neg gA] at h1;rw[if_neg gA] at h2;exact ek i q v e h1 h2
end
end
end Go.Abs
namespace Go.Abs
variable {P:Program} {w0:World}
theorem aeK{t:TypeId}{b:Bool}(h:V7 P t=some b):(b=true/\ ∃k,P.underlying t=some (.int k))\/(b=false/\P.underlying t=some .bool):=by
 unfold V7 at h;split at h
 .rename_i k hk;cases h;exact .inl ⟨rfl,_,hk⟩
 .rename_i hk;cases h;exact .inr ⟨rfl,hk⟩
 cases h
theorem aiN{a b:PV}{r:Bool}(h:tq true a b=some r):∃k x y,a=.int k x/\b=.int k y/\r=(x==y):=by
 cases a<;>cases b<;>simp[tq] at h
 exact⟨_,_,_,rfl,by rw[h.1],h.2.symm⟩
theorem aiM{a b:PV}{r:Bool}(h:tq false a b=some r):∃x y,a=.bool x/\b=.bool y/\r=(x==y):=by
 cases a<;>cases b<;>simp[tq] at h
 exact⟨_,_,rfl,rfl,h.symm⟩
theorem aiP{as bs:List C}{r:Bool}(h:ui [] as bs=some r):r=true:=by
 cases as<;>cases bs<;>simp[ui] at h
 exact h
theorem aiO{k:Bool}{ks:List Bool}{as bs:List C}{r:Bool}(h:ui (k::ks) as bs=some r):
  ∃a ar b br r0,as=.p a::ar/\bs=.p b::br/\tq k a b=some r0/\(r0=true->ui ks ar br=some r)/\(r0=false->r=false):=by
 cases as with
 |nil=>simp[ui] at h
 |cons x ar=>
  cases bs with
  |nil=>cases x<;>simp[ui] at h
  |cons y br=>
   cases x<;>cases y<;>simp only[ui] at h<;>try cases h
   rename_i a b;cases he:tq k a b with
   |none=>simp[he] at h
   |some r0=>
    refine⟨a,ar,b,br,r0,rfl,rfl,he,fun e=>?_,fun e=>?_⟩
    .subst e;simpa [he] using h
    subst e;simp[he] at h;exact h
theorem aiQ{w:World}{m:Mem}(d:Nat){A B:Array Value}:∀ {fs:List Field} {ks:List Bool} {k:Nat} {as bs:List C} {r:Bool},JA P k fs=some ks->ui ks as bs=some r->
  (∀(j:Nat) (x:C),as[j]?=some x->∃v,A[k+j]?=some v/\cS m x v)->(∀(j:Nat) (x:C),bs[j]?=some x->∃v,B[k+j]?=some v/\cS m x v)->
  (Op.eqFields (d+1) A B fs).run P w=.ok r w:=by
 intro fs
 induction fs with
 |nil=>intro ks k as bs r hf he _ _;simp[JA] at hf;subst hf;rw[aiP he];simp[Op.eqFields,Sem.run_pure]
 |cons f fs ih=>
  intro ks k as bs r hf he ha hb;simp only[JA] at hf;split at hf
  .rename_i b BM h1 h2;split at hf
   .rename_i hc;obtain⟨UP,ak1⟩:=hc;cases hf;obtain⟨x,ar,y,br,r0,rfl,rfl,h0,ht,hf⟩:=aiO he;obtain⟨va,hva,vf⟩:=ha 0 (.p x) rfl;obtain⟨vb,hvb,qO⟩:=hb 0 (.p y) rfl;obtain⟨vf⟩:=vf;obtain⟨qO⟩:=qO;rw[yl] at hva hvb;have Mk:∀(X:Array Value) (v:Value),X[k]?=some v->(part f.type X f.offset).run P w=.ok v w:=by
     intro X v hX;have xw:(isAgg f.type).run P w=.ok false w:=by rcases aeK h1 with ⟨_,kk,hu⟩|⟨_,hu⟩<;>simp[isAgg,run_underlying hu]
     rw[UP];simp[part,xw,hX]
    have akF:(Op.equalIn (d+1) f.type va vb).run P w=.ok r0 w:=by
     rcases aeK h1 with ⟨rfl,kk,hu⟩|⟨rfl,hu⟩
     .obtain⟨k',p,q,rfl,rfl,rfl⟩:=aiN h0;cases vf;cases qO;simp[Op.equalIn,run_underlying hu]
     obtain⟨p,q,rfl,rfl,rfl⟩:=aiM h0;cases vf;cases qO;simp[Op.equalIn,run_underlying hu]
    simp only[Op.eqFields,if_pos ak1,Sem.run_bind,Mk A va hva,Mk B vb hvb,akF,Result.andThen_ok];cases r0 with
    |false=>rw[hf rfl];simp[Sem.run_pure]
    |true=>simp only[Bq,dL,if_false];exact ih h2 (ht rfl) (fun j x hx=>by have:=ha (j+1) x (by simpa using hx);rwa[show k+(j+1)=k+1+j by omega] at this) (fun j x hx=>by have:=hb (j+1) x (by simpa using hx);rwa[show k+(j+1)=k+1+j by omega] at this)
   cases hf
  cases hf
def Bx:uN->Value->Bool->Prop
 | .ptr,v,b=>∃a,v=.pointer a/\a.isNone=b
 | .slc,v,b=>∃a l c,v=.slice a l c/\a.isNone=b
 | .map,v,b=>∃r,v=.map r/\r.isNone=b
 | .fnc,v,b=>(v=.nilFunc/\b=true)\/ ∃f x y,v=.func f x y/\b=false
 | .ifc,v,b=>(v=.nilIface/\b=true)\/ ∃d x,v=.iface d x/\b=false
 |_,_,_=>False
theorem xP{m:Mem}{k:uN}{x:V}{v:Value}{b:Bool}(h:Gn k x=some b)(hr:bQ m x v):Bx k v b:=by
 unfold Gn at h;split at h<;>cases h
 all_goals first
  |(obtain⟨hp⟩:cS m _ v:=hr;cases hp;first
    |exact⟨_,rfl,rfl⟩
    |exact⟨_,_,_,rfl,rfl⟩
    |exact .inl ⟨rfl,rfl⟩
    |exact .inr ⟨_,_,_,rfl,rfl⟩
    |exact .inr ⟨_,_,rfl,rfl⟩)
  |(have hc:cS m _ v:=hr;cases hc;first
    |exact⟨_,rfl,rfl⟩
    |exact⟨_,_,_,rfl,rfl⟩
    |exact .inr ⟨_,_,_,rfl,rfl⟩)
def QT(P:Program)(t:TypeId):uN->Prop
 | .bool=>P.underlying t=some .bool
 | .ptr=>∃e,P.underlying t=some (.pointer e)
 | .slc=>∃e,P.underlying t=some (.slice e)
 | .map=>∃a b,P.underlying t=some (.map a b)
 | .fnc=>∃a b c,P.underlying t=some (.func a b c)
 | .ifc=>∃a,P.underlying t=some (.interface a)
 | .str ks=>∃fs,P.underlying t=some (.struct fs)/\P.stoodInHeld t=false/\P.eqGuardType P.depth t=false/\JA P 0 fs.toList=some ks
theorem YH{t:TypeId}{x y:Operand}{k:uN}(h:KY P t x y=some k):QT P t k/\(k=.ifc->Je x=true\/Je y=true):=by
 unfold KY at h;split at h
 .rename_i a ha;split at h
  .rename_i hc;cases h;exact⟨⟨_,ha⟩,fun _=>by simpa using hc⟩
  cases h
 .rename_i ha;cases h;exact⟨ha,fun e=>by cases e⟩
 .rename_i ha;cases h;exact⟨⟨_,ha⟩,fun e=>by cases e⟩
 .rename_i ha;cases h;exact⟨⟨_,ha⟩,fun e=>by cases e⟩
 .rename_i ha;cases h;exact⟨⟨_,_,ha⟩,fun e=>by cases e⟩
 .rename_i ha;cases h;exact⟨⟨_,_,_,ha⟩,fun e=>by cases e⟩
 .rename_i fs ha;split at h
  .rename_i hc;simp only[dI] at h;obtain⟨ks,h1,rfl⟩:=h;simp at hc;exact⟨⟨fs,ha,hc.1,hc.2,h1⟩,fun e=>by cases e⟩
  cases h
 cases h
theorem YI{t:TypeId}{k:uN}{v u:Value}{a b:Bool}(w:World)(hk:QT P t k)(h1:Bx k v a)(h2:Bx k u b)(iQ:a=true\/b=true)(d:Nat):(Op.equalIn (d+1) t v u).run P w=.ok (a&&b) w:=by
 cases k with
 |bool=>exact h1.elim
 |str n=>exact h1.elim
 |ptr=>obtain⟨e,hu⟩:=hk;obtain⟨x,rfl,rfl⟩:=h1;obtain⟨y,rfl,rfl⟩:=h2;cases x<;>cases y<;>simp at iQ<;>simp[Op.equalIn,run_underlying hu]
 |slc=>obtain⟨e,hu⟩:=hk;obtain⟨x,_,_,rfl,rfl⟩:=h1;obtain⟨y,_,_,rfl,rfl⟩:=h2;cases x<;>cases y<;>simp at iQ<;>simp[Op.equalIn,run_underlying hu]
 |map=>obtain⟨e,e',hu⟩:=hk;obtain⟨x,rfl,rfl⟩:=h1;obtain⟨y,rfl,rfl⟩:=h2;cases x<;>cases y<;>simp at iQ<;>simp[Op.equalIn,run_underlying hu]
 |fnc=>obtain⟨e,e',e'',hu⟩:=hk;rcases h1 with ⟨rfl,rfl⟩|⟨_,_,_,rfl,rfl⟩<;>rcases h2 with ⟨rfl,rfl⟩|⟨_,_,_,rfl,rfl⟩<;>simp at iQ<;>simp[Op.equalIn,run_underlying hu]
 |ifc=>obtain⟨e,hu⟩:=hk;rcases h1 with ⟨rfl,rfl⟩|⟨_,_,rfl,rfl⟩<;>rcases h2 with ⟨rfl,rfl⟩|⟨_,_,rfl,rfl⟩<;>simp at iQ<;>simp[Op.equalIn,run_underlying hu]
section
variable {m:Mem} {ak:Env} {a:Act} {o:Oper} (au:Ok w0 m) (hr:iZ m ak a.tmps)
include au hr
theorem aiU{t:TypeId}{k:uN}{x y:V}{v u:Value}{b:Bool}(hk:QT P t k)(h:BY k x y=some b)(hx:bQ m x v)(hy:bQ m y u)(d:Nat):(Op.equalIn (d+2) t v u).run P m.w=.ok b m.w:=by
 have _u0:=au;have _u1:=hr;unfold BY at h;split at h
 .cases h;rw[Ez hx,Ez hy];have hk:P.underlying t=some .bool:=hk;simp only[Op.equalIn,Sem.run_bind,run_underlying hk,Result.andThen_ok,Sem.run_pure]
 .obtain⟨A,rfl,hA⟩:=bQ.agg.1 hx;obtain⟨B,rfl,hB⟩:=bQ.agg.1 hy;obtain⟨fs,hu,hs,_,hf⟩:=hk;have yU:P.fieldsOf t=fs:=by simp[Program.fieldsOf,hu]
  rw[run_equalIn_agg m.w (d+1) t A B (by rw[yU];exact hu) hs,yU];refine aiQ (w:=m.w) (m:=m) d hf h (fun j x hx=>?_) (fun j x hx=>?_)
  .have ay:j<A.size:=by have:=hA.1;simp at this;rw[this];exact(aW.1 hx).1
   exact⟨A[j],by simp[ay],hA.2 j x _ hx (by simp[ay])⟩
  have ay:j<B.size:=by have:=hB.1;simp at this;rw[this];exact(aW.1 hx).1
  exact⟨B[j],by simp[ay],hB.2 j x _ hx (by simp[ay])⟩
 .cases h
 .cases h
 split at h
 .rename_i hb;have:=YI (P:=P) m.w hk (xP h hx) (xP hb hy) (.inr rfl) (d+1)
  simpa using this
 split at h
 .rename_i ha;have:=YI (P:=P) m.w hk (xP ha hx) (xP h hy) (.inl rfl) (d+1)
  simpa using this
 cases h
theorem aiR{op:BinOp}{t:TypeId}{k:uN}{x y:Operand}{x' y':aR}{b:Bool}(hk:KY P t x y=some k)(hx:cE x=some x')(hy:cE y=some y')(h:BY k (ev ak x') (ev ak y')=some b):
  (eqGuard op t x y (a.eval x) (a.eval y)).run P m.w=.ok () m.w:=by
 have _u0:=au;obtain⟨cK,jt⟩:=YH hk;have h1:=eB hx hr;have h2:=eB hy hr;by_cases hop:op=.eql\/op=.neq
 .unfold BY at h;split at h
  .rename_i e1 e2;rw[e1] at h1;rw[Ez h1,eqGuard_at_bool];rfl
  .rename_i e1 e2;rw[e1] at h1;rw[e2] at h2;obtain⟨A,e3,_⟩:=bQ.agg.1 h1;obtain⟨B,e4,_⟩:=bQ.agg.1 h2;obtain⟨fs,_,_,hg,_⟩:=cK;rw[e3,e4];exact run_eqGuard_agg m.w op t x y A B hg
  .cases h
  .cases h
  rename_i k q1 q2 q3 q4 q5 q6 q7;have hn:∃b1 b2,Bx k (a.eval x) b1/\Bx k (a.eval y) b2:=by
   split at h
   .rename_i hb;exact⟨_,_,xP h h1,xP hb h2⟩
   split at h
   .rename_i ha;exact⟨_,_,xP ha h1,xP h h2⟩
   cases h
  obtain⟨b1,b2,n1,n2⟩:=hn;cases k with
  |bool=>exact n1.elim
  |str n=>exact n1.elim
  |ptr=>obtain⟨q,e,_⟩:=n1;rw[e,eqGuard_at_pointer];rfl
  |slc=>obtain⟨q,_,_,e,_⟩:=n1;rw[e,eqGuard_at_slice];rfl
  |map=>obtain⟨q,e,_⟩:=n1;rw[e,eqGuard_at_map];rfl
  |fnc=>
   rcases n1 with ⟨e,_⟩|⟨_,_,_,e,_⟩
   .rw[e,eqGuard_at_nilFunc];rfl
   rw[e,eqGuard_at_func];rfl
  |ifc=>
   rcases n1 with ⟨e,_⟩|⟨_,_,e,_⟩
   .rcases n2 with ⟨e',_⟩|⟨_,_,e',_⟩
    .rw[e,e'];have hc:(∃c,x=.const c)\/ ∃c,y=.const c:=by
      rcases jt rfl with hc|hc
      .cases x<;>simp[Je] at hc
       exact .inl ⟨_,rfl⟩
      cases y<;>simp[Je] at hc
      exact .inr ⟨_,rfl⟩
     rcases hc with ⟨c,rfl⟩|⟨c,rfl⟩
     .rw[eqGuard_nil_constL];rfl
     rw[eqGuard_nil_constR];rfl
    rw[e,e',eqGuard_nil_iface];rfl
   rw[e,eqGuard_at_iface];rfl
 have:eqGuard op t x y (a.eval x) (a.eval y)=pure ():=by
  cases op<;>first
   |rfl
   |exact(hop (.inl rfl)).elim
   |exact(hop (.inr rfl)).elim
 rw[this];rfl
theorem ahn{t:TypeId}{k:uN}{v u:Value}{b1:Bool}(hs:(∃p q,v=.bool p/\u=.bool q)\/(∃p q,v=.agg p/\u=.agg q)\/ ∃p q,Bx k v p/\Bx k u q)(h:(Op.equalIn (9998+2) t v u).run P m.w=.ok b1 m.w):
  (binOp .eql t v u).run P m.w=.ok (.bool b1) m.w/\(binOp .neq t v u).run P m.w=.ok (.bool (!b1)) m.w:=by
 have _u0:=au;have _u1:=hr;have he:Op.equal t v u=Op.equalIn (9998+2) t v u:=rfl;have key:binOp .eql t v u=(do pure (.bool (<- Op.equal t v u)))/\binOp .neq t v u=(do pure (.bool (!(<- Op.equal t v u)))):=by
  rcases hs with ⟨p,q,rfl,rfl⟩|⟨p,q,rfl,rfl⟩|⟨p,q,h1,h2⟩
  .exact⟨rfl,rfl⟩
  .exact⟨rfl,rfl⟩
  cases k with
  |bool=>exact h1.elim
  |str n=>exact h1.elim
  |ptr=>obtain⟨_,rfl,_⟩:=h1;obtain⟨_,rfl,_⟩:=h2;exact⟨rfl,rfl⟩
  |slc=>obtain⟨_,_,_,rfl,_⟩:=h1;obtain⟨_,_,_,rfl,_⟩:=h2;exact⟨rfl,rfl⟩
  |map=>obtain⟨_,rfl,_⟩:=h1;obtain⟨_,rfl,_⟩:=h2;exact⟨rfl,rfl⟩
  |fnc=>rcases h1 with ⟨rfl,_⟩|⟨_,_,_,rfl,_⟩<;>rcases h2 with ⟨rfl,_⟩|⟨_,_,_,rfl,_⟩<;>exact⟨rfl,rfl⟩
  |ifc=>rcases h1 with ⟨rfl,_⟩|⟨_,_,rfl,_⟩<;>rcases h2 with ⟨rfl,_⟩|⟨_,_,rfl,_⟩<;>exact⟨rfl,rfl⟩
 rw[key.1,key.2,he];simp only[Sem.run_bind,h,Result.andThen_ok,Sem.run_pure,and_self]
theorem aeU{op:BinOp}{t ty:TypeId}{x y:Operand}{x' y':aR}{k:uN}{neg b:Bool}(ho:o.op=.binOp op t x y ty)(hop:(op=.eql/\neg=false)\/(op=.neq/\neg=true))(hk:KY P t x y=some k)(hx:cE x=some x')(hy:cE y=some y')
  (hv:BY k (ev ak x') (ev ak y')=some b):fJ P w0 a.eval o m (.one (.p (.bool (if neg then !b else b)))) []:=by
 have h1:=eB hx hr;have h2:=eB hy hr;have hg:=aiR au hr (op:=op) hk hx hy hv;have he:=aiU au hr (YH hk).1 hv h1 h2 9998;have hs:(∃p q,a.eval x=.bool p/\a.eval y=.bool q)\/(∃p q,a.eval x=.agg p/\a.eval y=.agg q)\/ ∃p q,Bx k (a.eval x) p/\Bx k (a.eval y) q:=by
  unfold BY at hv;split at hv
  .rename_i e1 e2;rw[e1] at h1;rw[e2] at h2;exact .inl ⟨_,_,Ez h1,Ez h2⟩
  .rename_i e1 e2;rw[e1] at h1;rw[e2] at h2;obtain⟨A,e3,_⟩:=bQ.agg.1 h1;obtain⟨B,e4,_⟩:=bQ.agg.1 h2;exact .inr (.inl ⟨A,B,e3,e4⟩)
  .cases hv
  .cases hv
  split at hv
  .rename_i hb;exact .inr (.inr ⟨_,_,xP hv h1,xP hb h2⟩)
  split at hv
  .rename_i ha;exact .inr (.inr ⟨_,_,xP ha h1,xP hv h2⟩)
  cases hv
 obtain⟨r1,r2⟩:=ahn au hr hs he;rcases hop with ⟨rfl,rfl⟩|⟨rfl,rfl⟩
 .exact .calm au (by simp[execOp,ho,hg,r1]) (mS (.bool _))
 exact .calm au (by simp[execOp,ho,hg,r2]) (mS (.bool _))
end
end Go.Abs
namespace Go.Abs
variable {P:Program} {w0:World}
theorem ahr:∀ {es:List (List PV)} {bs:List UInt8},bytesOf es=some bs->∃ns:List Int,es.flatten=ns.map (PV.int .u8)/\bs=ns.map (fun n=>UInt8.ofNat n.toNat)/\ns.length=es.length:=by
 intro es
 induction es with
 |nil=>intro bs h;simp[bytesOf] at h;exact⟨[],rfl,h,rfl⟩
 |cons e r ih=>
  intro bs h;unfold bytesOf at h;split at h
  .rename_i e';cases e'
  .rename_i n r' e';cases e';simp only[dI] at h;obtain⟨q,hq,rfl⟩:=h;obtain⟨ns,h1,h2,h3⟩:=ih hq;exact⟨n::ns,by simp[h1],by simp[h2],by simp[h3]⟩
  cases h
theorem ao7{w:World}{own:Nat->Prop}:∀ {ns:List Int} {vs:List Value},Pw (bY w own) (ns.map (PV.int .u8)) vs->vs=ns.map (Value.int .u8):=by
 intro ns
 induction ns with
 |nil=>intro vs h;have:=h.1;simp at this;simp[this]
 |cons n ns ih=>
  intro vs h;cases vs with
  |nil=>have:=h.1;simp at this
  |cons v vs=>have h0:=h.2 0 _ v rfl rfl;cases h0;rw[ih (vs:=vs) ⟨by have:=h.1;simpa using this,fun j x u a b=>h.2 (j+1) x u (by simpa using a) (by simpa using b)⟩];rfl
theorem ao3:∀(ns:List Int) (s:ByteArray),ns.foldl (fun r n=>r.push (UInt8.ofNat n.toNat)) s=⟨s.data++(ns.map (fun n=>UInt8.ofNat n.toNat)).toArray⟩:=by
 intro ns
 induction ns with
 |nil=>intro s;cases s;simp
 |cons n ns ih=>intro s;simp only[Dd,dS];rw[ih];cases s;simp[ByteArray.push]
section
variable {m:Mem} {ak:Env} {a:Act} {o:Oper} (au:Ok w0 m) (hr:iZ m ak a.tmps)
include au hr
theorem ap7{s d e:TypeId}{x:Operand}{x':aR}{es:List (List PV)}{r:List Nat}{bs:List UInt8}(ho:o.op=.convert s d x)(hs:P.underlying s=some (.slice e))(he:P.underlying e=some (.int .u8))(hd:P.underlying d=some .string)
  (hx:cE x=some x') (dC:fF m.aj (ev ak x')=some (es,r,[])) (hb:bytesOf es=some bs):fJ P w0 a.eval o m (.one (.p (.str ⟨bs.toArray⟩))) []:=by
 obtain⟨ns,h1,h2,h3⟩:=ahr hb;obtain⟨ax,cx,zh,_,Ct⟩:=YB (own:=m.own) au dC (eB hx hr) ⟨fun _ h=>h,fun _ h=>by simp at h⟩;refine .calm au (x:=.string ⟨bs.toArray⟩) ?_ (mS (.str _));have key:(Conv.bytesToString (.slice ax es.length cx)).run P m.w=.ok (.string ⟨bs.toArray⟩) m.w:=by
  by_cases aH:es=[]
  .subst aH;have:ns=[]:=by simpa using h3
   subst this;have nU:bs=[]:=by simpa using h2
   subst nU;cases ax with
   |none=>simp[Conv.bytesToString,Sem.run_pure];rfl
   |some ad=>have:=run_bytesToString (P:=P) m.w ad 0 cx [] (by simp[loadCells,loadCellsFrom,Sem.run_pure]);exact this
  obtain⟨b,off,news,rfl,uB,Ck⟩:=Ct aH;rw[h1] at uB;have hn:=ao7 uB;have hl:news.length=es.length:=by rw[hn];simpa using h3
  have akS:(loadCells ⟨b,off,none⟩ es.length).run P m.w=.ok (ns.map (Value.int .u8)).toArray m.w:=by rw[<- hl,<- hn];exact run_loadCells_list m.w ⟨b,off,none⟩ news fun j v hj=>by rw[Addr.add_lit];exact Ck j v hj
  rw[run_bytesToString m.w _ _ cx ns akS,ao3,h2];simp[ByteArray.empty,ByteArray.emptyWithCapacity];rfl
 simp only[execOp,ho,zh,Sem.run_bind,run_convert_bytes_string m.w s d e ax es.length cx hs he hd,key,Result.andThen_ok,Sem.run_pure]
end
end Go.Abs
namespace Go.Abs
variable {P:Program} {w0:World}
theorem Re{xs:Array Operand}{a:aR}(h:pS xs.toList=some [a]):∃x,xs= #[x]/\cE x=some a:=by
 obtain⟨xs⟩:=xs;cases xs with
 |nil=>simp[pS] at h
 |cons x r=>
  simp only[pS] at h;split at h
  .rename_i y ys e1 e2;cases h;cases r with
   |nil=>exact⟨x,rfl,e1⟩
   |cons z r=>simp only[pS] at e2;split at e2<;>simp at e2
  cases h
theorem Rf{xs:Array Operand}{a b:aR}(h:pS xs.toList=some [a,b]):∃x y,xs= #[x,y]/\cE x=some a/\cE y=some b:=by
 obtain⟨xs⟩:=xs;cases xs with
 |nil=>simp[pS] at h
 |cons x r=>
  simp only[pS] at h;split at h
  .rename_i y ys e1 e2;cases h;obtain⟨z,hz,Gk⟩:=Re (xs:=r.toArray) (by simpa using e2);have:r=[z]:=by simpa using congrArg Array.toList hz
   subst this;exact⟨x,z,rfl,e1,Gk⟩
  cases h
theorem arT{xs:Array TypeId}{t u:TypeId}(h1:xs[0]?=some t)(h2:xs[1]?=some u)(hs:xs.size=2):xs= #[t,u]:=by
 obtain⟨xs⟩:=xs
 match xs,hs with
 |[a,b],_=>simp at h1 h2;subst h1 h2;rfl
theorem ajE{α:Type}{sz:Nat}{es ys:List (List α)}{off:Nat}(h:∀e∈es,e.length=sz)(hy:∀e∈ys,e.length=sz)(hl:off+ys.length<=es.length):(eX es off ys).flatten=eX es.flatten (off*sz) ys.flatten:=by
 have ht:∀k,k<=es.length->(es.take k).flatten.length=k*sz:=fun k hk=>by rw[Ia fun e he=>h e (yg he),iu,zH hk]
 have e1:es.flatten=(es.take off).flatten++(es.drop off).flatten:=by rw[<- EZ,mX]
 have e2:es.flatten=(es.take (off+ys.length)).flatten++(es.drop (off+ys.length)).flatten:=by rw[<- EZ,mX]
 unfold eX;rw[EZ,EZ,Ia hy];congr 1
 .congr 1
  conv=>rhs;rw[e1]
  rw[List.take_left' (ht off aa)]
 rw[<- iF]
 conv=>rhs;rw[e2]
 rw[List.drop_left' (ht _ hl)]
theorem asl{R:PV->Value->Prop}{z:List PV}{v:Array Value}{n:Nat}(hz:Pw R z v.toList):Pw R (List.replicate n z).flatten (Builtin.zeroCells v n).toList:=by
 have mr:z.length=v.size:=by have:=hz.1;simp at this;omega
 have dy:∀e∈List.replicate n z,e.length=v.size:=fun e he=>by rw[QM he];exact mr
 have hlen:(Builtin.zeroCells v n).toList.length=n*v.size:=by simp[size_zeroCells]
 refine⟨by rw[hlen,Ia dy];simp,fun j x u p q=>?_⟩;have hj:j<n*v.size:=by have:=(aW.1 q).1;omega
 have ju:0<v.size:=by
  rcases Nat.eq_zero_or_pos v.size with h|h
  .rw[h] at hj;omega
  exact h
 have hdiv:j/v.size<n:=by rw[Nat.div_lt_iff_lt_mul ju];exact hj
 have OU:j%v.size<v.size:=eH _ ju;have he:(List.replicate n z)[j/v.size]?=some z:=by simp[hdiv]
 have h1:=FG dy he OU;rw[show j/v.size*v.size+j%v.size=j by rw[Nat.mul_comm];exact Nat.div_add_mod j v.size] at h1;rw[h1] at p;have h2:(Builtin.zeroCells v n).toList[j]?=some v[j%v.size]! :=by unfold Builtin.zeroCells;simp[hj]
 rw[h2] at q;cases q;refine hz.2 (j%v.size) x _ p ?_;simp[OU]
section
variable {m:Mem} {ak:Env} {a:Act} {o:Oper} (au:Ok w0 m) (hr:iZ m ak a.tmps)
include au hr
theorem aqa{c:Call}{x:Operand}{x':aR}{t e:TypeId}{sz bytes:Nat}{z:List PV}{sh:Nat->Bool}{v:V}{u:List eN}{rd:List Nat}(ho:o.op=.call c)(hc:c.callee=.builtin .clear)(has:c.args= #[x])(jP:c.argTypes[0]?=some t)
  (he:zU P t=some (e,sz,bytes,z)) (hx:cE x=some x') (hp:bt sh ak m.aj (.clear z x')=.done v u rd):fJ P w0 a.eval o m v u:=by
 obtain⟨i,zv,ht,hi,hs,hb,⟨ju,Iv⟩,xI,IW,mr,dE⟩:=NY he;have k9:=eB hx hr;have run:∀(y:Value) (w':World),(Builtin.clear_ c.argTypes o.type #[a.eval x]).run P m.w=.ok y w'->(execOp a.eval o).run P m.w=.ok (.value y) w':=by intro y w' h;simp[execOp,ho,resolve,hc,has,invoke,builtin,h]
 have quiet:(Builtin.clear_ c.argTypes o.type #[a.eval x]).run P m.w=.ok (.tuple #[]) m.w->fJ P w0 a.eval o m (.tup []) []:=fun h=>
  ⟨.tuple #[],m,.inl (run _ _ h),au,Ev.refl _,rfl,rfl,(⟨#[],rfl,rfl,fun j x u h=>by simp at h⟩:bQ m (.tup []) _)⟩
 simp only[bt] at hp;split at hp
 .rename_i hv;cases hp;rw[hv] at k9;have k9:cS m _ (a.eval x):=k9;generalize Ch:a.eval x=b at k9;rw[Ch] at quiet;apply quiet;cases k9 with
  |p h=>cases h;simp[Builtin.clear_,jP,run_underlying ht]
 .rename_i hv;cases hp;rw[hv] at k9;have k9:cS m _ (a.eval x):=k9;generalize Ch:a.eval x=b at k9;rw[Ch] at quiet;apply quiet;cases k9 with
  |p h=>
   cases h with
   |xX a cap hn hm=>cases a<;>simp[Builtin.clear_,jP,run_underlying ht]
   |sl b o cap sz f h1 h2 h3 h4=>simp[Builtin.clear_,jP,run_underlying ht]
 .rename_i id g w off len hv;rw[hv] at k9;have k9:cS m _ (a.eval x):=k9;generalize Ch:a.eval x=b at k9;rw[Ch] at quiet run;cases k9 with
  |hsl ad cap hg hl hm oR=>
   split at hp
   .rename_i h0;cases hp;subst h0;apply quiet;simp[Builtin.clear_,jP,run_underlying ht]
   rename_i h0;split at hp
   .rename_i g' ty dO es jr;split at hp
    .rename_i LH;obtain⟨js,ch,hfit⟩:=LH;cases hp;have bj:(m.aj id).2=some (.arr ty dO es):=by rw[jr]
     obtain⟨_,oR,_⟩:=oR dO (by rw[jr];exact js) (by rw[jr];rfl);have oR:=oR (.inr aa);subst oR;obtain⟨cur,hh,o9,tH,sG,uz,aaV,O0⟩:=au.obj id _ bj;have hze:∀e∈List.replicate len z,e.length=dO:=fun e he=>by rw[QM he];exact ch.symm
     have alD:zv.cells.size=dO:=by rw[IW,<- mr,ch]
     have IV:(List.replicate len z).length=len:=List.length_replicate;have xE:=ajE (off:=off) tH hze (by rw[IV];exact hfit);have xH:(off+len)*dO<=es.length*dO:=mZ _ hfit;have aa2:es.length*dO<=m.κ id*dO:=mZ _ sG;rw[iF] at xH;generalize hZ:(Builtin.zeroCells zv.cells len).toList=Z;have hZl:Z.length=len*dO:=by rw[<- hZ];simp[size_zeroCells,alD]
     have hZp:∀w own,dk w own (List.replicate len z).flatten Z:=fun w own=>dk.pw.2 (by rw[<- hZ];exact asl (dk.pw.1 (dE w own)));have OY:∀v∈Z,v.oneCell'=true:=fun v hv=>by
      obtain⟨j,hj⟩:=jZ hv;have ay:j<(List.replicate len z).flatten.length:=by rw[<- (hZp m.w m.own).1];exact(aW.1 hj).1
      exact((hZp m.w m.own).2 j _ v (s0 ay) hj).MW
     have Ea:off*dO+0+Z.length<=cur.size:=by rw[hZl,aaV];omega
     have cQ:=run_storeCells_at P (m.σ id) (off*dO) ty Z 0 cur m.w hh Ea OY;simp only[yl] at cQ;generalize hW:m.w.setRow (m.σ id) (cur.toList.take (off*dO)++Z++cur.toList.drop (off*dO+Z.length)).toArray=W at cQ;have DT:W.heap.size=m.w.heap.size:=by rw[<- hW];simp
     have DS:∀c,c≠m.σ id->W.heap[c]?=m.w.heap[c]? :=fun c hc=>by rw[<- hW];exact setRow_other m.w (m.σ id) c _ hc
     have abn:(eX es off (List.replicate len z)).length=es.length:=Qv (by rw[IV];exact hfit);have dY:=Na (w':=W) (o:=.arr ty dO (eX es off (List.replicate len z))) bj rfl (by simp[kM]) (by rw[<- hW];rfl) (by rw[<- hW];rfl) (by rw[<- hW];rfl) DT DS;have Cu:tc (m.km W id (.arr ty dO (eX es off (List.replicate len z)))) id (.arr ty dO (eX es off (List.replicate len z))):=by
      refine⟨_,by rw[<- hW];exact Ql hh,o9,?_,by rw[abn];exact sG,uz,?_,?_⟩
      .intro e' FW;unfold eX at FW;simp only[fg] at FW;rcases FW with (h|h)|h
       .exact tH e' (yg h)
       .exact hze e' h
       exact tH e' (wR h)
      .simp[Mem.km];omega
      rw[abn,xE];have h1:=(dk.pw.1 (O0.ev dY.zero)).eX (dk.pw.1 (hZp (m.km W id (.arr ty dO (eX es off (List.replicate len z)))).w (m.km W id (.arr ty dO (eX es off (List.replicate len z)))).own)) (off*dO);rw[<- afe aa (by simp;omega)] at h1;have h1:=dk.pw.2 h1
      simpa [eX] using h1
     refine⟨.tuple #[],m.km W id (.arr ty dO (eX es off (List.replicate len z))),.inl (run _ _ ?_),Qj bj rfl au (by simp[kM]) (by rw[<- hW];rfl) (by rw[<- hW];rfl) (by rw[<- hW];rfl) DT DS Cu,dY,rfl,?_,(⟨#[],rfl,rfl,fun j x u h=>by simp at h⟩:bQ _ (.tup []) _)⟩
     .obtain⟨k,rfl⟩:∃k,len=k+1:=⟨len-1,aa⟩;simp[Builtin.clear_,jP,run_underlying ht,zeroValue,typeInfo,hi,xI,hZ,cQ,Mem.km]
     simp[Mem.km,app,jr,js]
    cases hp
   cases hp
 cases hp
end
section
variable {m:Mem} {ak:Env} {a:Act} {o:Oper} (au:Ok w0 m) (hr:iZ m ak a.tmps)
include au hr
theorem adm{t kt e:TypeId}{x k y:Operand}{x' k' y':aR}{kd:Nat}{ag:Bool}{sh:Nat->Bool}{v:V}{u:List eN}{rd:List Nat}(ho:o.op=.mapUpdate t x k y\/o.op=.insert t x k y)(ht:P.underlying t=some (.map kt e))
  (Am:keyOf P kt=some kd) (hx:cE x=some x') (hk:cE k=some k') (hy:cE y=some y') (hp:bt sh ak m.aj (.mupd kd ag x' k' y')=.done v u rd):fJ P w0 a.eval o m v u:=by
 simp only[bt] at hp;split at hp
 .rename_i id g q cs e1 e2 e3;split at hp
  .rename_i g' rl es ps e4 e5;split at hp
   .rename_i sC;obtain⟨rfl,rfl,hq⟩:=sC;split at hp
    .rename_i i w hf;cases hp;exact aeW au hr ho ht Am hx hk hy e1 e4 e2 hq e3 e5 hf
    .rename_i hf;cases hp;exact aeW au hr ho ht Am hx hk hy e1 e4 e2 hq e3 e5 hf
    cases hp
   cases hp
  cases hp
 cases hp
theorem anN{site:Nat}{sh:Nat->Bool}{p:lB}{v:V}{u:List eN}{rd:List Nat}(hc:Fy P site o=some p)(hp:bt sh ak m.aj p=.done v u rd):fJ P w0 a.eval o m v u:=by
 unfold Fy at hc;split at hc
 · -- move
  rename_i x ho;simp only[dI] at hc;obtain⟨y,h1,rfl⟩:=hc;cases hp;exact aeV au hr (.inl ho) h1
 · -- assign
  rename_i x ho;simp only[dI] at hc;obtain⟨y,h1,rfl⟩:=hc;cases hp;exact aeV au hr (.inr ho) h1
 · -- pick
  rename_i c x y ho;split at hc
  .rename_i c' x' y' h1 h2 h3;cases hc;simp only[bt] at hp;split at hp
   .rename_i t ht;cases hp;exact aqs au hr ho h1 h2 h3 ht
   cases hp
  cases hc
 · -- alloc
  rename_i t ho;simp only[dI] at hc;obtain⟨z,h1,rfl⟩:=hc;cases hp;exact ap2 au ho h1
 · -- box
  rename_i t x ho;simp only[dI] at hc;obtain⟨z,h1,rfl⟩:=hc;simp only[bt] at hp;split at hp
  .rename_i cs de;cases hp;exact ap5 au hr ho h1 de
  cases hp
 · -- build
  rename_i t ps ho;split at hc
  .rename_i fs z h1 h2;split at hc
   .rename_i dy;simp only[dI] at hc;obtain⟨qs,h3,rfl⟩:=hc;simp only[bt] at hp;split at hp
    .rename_i rs Gg;cases hp;exact ap9 au hr ho h1 h2 dy h3 Gg
    cases hp
   cases hc
  .rename_i n e z h1 h2;split at hc
   .rename_i i hi;simp only[dI] at hc;obtain⟨qs,h3,rfl⟩:=hc;simp only[bt] at hp;split at hp
    .rename_i rs Gg;cases hp;exact ap8 au hr ho h1 h2 hi h3 Gg
    cases hp
   cases hc
  cases hc
 · -- buildSlice
  rename_i t n ps ho;split at hc
  .rename_i e sz bytes z as h1 h2;split at hc
   .rename_i sC;cases hc;simp only[bt] at hp;split at hp
    .rename_i es mL;obtain⟨g1,g2⟩:=ap6 (s:=site) au hr ho h1 h2 sC.1 sC.2 mL;split at hp
     .rename_i qs hqs;cases hp;exact g1 qs hqs
     cases hp;exact g2
    cases hp
   cases hc
  cases hc
 · -- load
  rename_i t x ho;split at hc
  .rename_i k y h1 h2;cases hc;simp only[bt] at hp;split at hp
   .rename_i cs r de;split at hp
    .rename_i v' hv;cases hp;exact aqh au hr ho h1 h2 de hv
    cases hp
   cases hp
  cases hc
 · -- store
  rename_i t x y ho;split at hc
  .rename_i n x' y' h1 h2 h3;cases hc;simp only[bt] at hp;split at hp
   .rename_i cs de;exact aqx au hr ho h1 h2 h3 de hp
   cases hp
  cases hc
 · -- nilCheck
  rename_i x ho;simp only[dI] at hc;obtain⟨y,h1,rfl⟩:=hc;have hu:u=[]/\rd=[]:=by simp only[bt] at hp;split at hp<;>cases hp<;>exact⟨rfl,rfl⟩
  obtain⟨rfl,rfl⟩:=hu;exact aqq au hr ho h1 hp
 · -- binOp
  rename_i op t x y ty ho;split at hc
  .rename_i x' y' h1 h2;have aaS:∀(op':BinOp),p=.bin op' x' y'->op'=op->fJ P w0 a.eval o m v u:=by
    intro op' e1 e2;subst e1 e2;simp only[bt] at hp;split at hp
    .rename_i v' hv;cases hp;exact ap4 au hr ho h1 h2 hv
    cases hp
   split at hc
   .cases hc;exact aaS _ rfl rfl
   .cases hc;exact aaS _ rfl rfl
   split at hc
   .rename_i k hk;cases hc;simp only[bt] at hp;split at hp
    .rename_i b hb;cases hp;exact aeU au hr (neg:=false) ho (.inl ⟨rfl,rfl⟩) hk h1 h2 hb
    cases hp
   .rename_i k hk;cases hc;simp only[bt] at hp;split at hp
    .rename_i b hb;cases hp;exact aeU au hr (neg:=true) ho (.inr ⟨rfl,rfl⟩) hk h1 h2 hb
    cases hp
   cases hc
  cases hc
 · -- unOp
  rename_i op t x ho;split at hc
  .simp only[dI] at hc;obtain⟨y,h1,rfl⟩:=hc;simp only[bt] at hp;split at hp
   .rename_i b e1 e2;cases hp;exact aqr au hr ho h1 e2
   .rename_i e1 e2;cases e1
   cases hp
  .simp only[dI] at hc;obtain⟨y,h1,rfl⟩:=hc;simp only[bt] at hp;split at hp
   .rename_i e1 e2;cases e1
   .rename_i k n e1 e2;cases hp;exact aqp au hr ho h1 e2
   cases hp
  cases hc
 · -- convert
  rename_i s d x ho;split at hc
  .rename_i ks k y h1 h2 h3;cases hc;simp only[bt] at hp;split at hp
   .rename_i k0 n hn;cases hp;exact aqb au hr ho h1 h2 h3 hn
   cases hp
  .rename_i e y h1 h2 h3;split at hc
   .rename_i he;cases hc;simp only[bt] at hp;split at hp
    .rename_i es r mL;split at hp
     .rename_i bs mK;cases hp;exact ap7 au hr ho h1 he h2 h3 mL mK
     cases hp
    cases hp
   cases hc
  cases hc
 · -- makeFunc
  rename_i f x y ho;split at hc
  .rename_i x' y' h1 h2;cases hc;simp only[bt] at hp;split at hp
   .rename_i cs ds e1 e2;cases hp;exact aql au hr ho h1 h2 e1 e2
   cases hp
  cases hc
 · -- makeMap
  rename_i t ho;split at hc
  .simp only[dI] at hc;obtain⟨k,h1,rfl⟩:=hc;cases hp;exact aqm (kt:=t) (t:=t) (e:=t) au ho
  cases hc
 · -- makeSlice
  rename_i t l c ho;split at hc
  .rename_i e sz bytes z l' c' h1 h2 h3;cases hc;simp only[bt] at hp;split at hp
   .rename_i n n' e1 e2;split at hp
    .rename_i sC;obtain⟨rfl,lX⟩:=sC;cases hp;exact aqn au hr ho h1 h2 h3 e1 e2 lX
    cases hp
   cases hp
  cases hc
 · -- slice
  rename_i t x lo hi ho;split at hc
  .rename_i x' CH yX h1 h2 h3;split at hc
   .rename_i e ht;simp only[dI] at hc;obtain⟨sz,h4,rfl⟩:=hc;simp only[bt] at hp;split at hp
    .rename_i n hn;split at hp
     .rename_i l h e1 e2;have hu:u=[]/\rd=[]:=by
       unfold CO at hp;repeat' split at hp
       all_goals first
        |cases hp
        |skip
       all_goals exact⟨rfl,rfl⟩
      obtain⟨rfl,rfl⟩:=hu;exact aqv au hr ho ht h4 h1 h2 h3 hn e1 e2 hp
     cases hp
    cases hp
   .rename_i ht;cases hc;simp only[bt] at hp;split at hp
    .rename_i s hs;split at hp
     .rename_i l h e1 e2;split at hp
      .rename_i sC;cases hp;exact aqw au hr ho ht h1 h2 h3 hs e1 e2 sC.1 sC.2
      cases hp
     cases hp
    cases hp
   cases hc
  cases hc
 · -- fieldAddr
  rename_i s x f ho;split at hc
  .rename_i fs y h1 h2;split at hc
   .rename_i d hd;split at hc
    .rename_i hz;cases hc;have hu:u=[]/\rd=[]:=by
      simp only[bt] at hp;split at hp<;>cases hp<;>exact⟨rfl,rfl⟩
     obtain⟨rfl,rfl⟩:=hu;exact aqd au hr ho h1 hd hz h2 hp
    cases hc
   cases hc
  cases hc
 · -- field
  rename_i t x f ho;split at hc
  .rename_i fs y h1 h2;split at hc
   .rename_i d hd;simp only[dI] at hc;obtain⟨k,h3,rfl⟩:=hc;simp only[bt] at hp;split at hp
    .rename_i cs de;split at hp
     .rename_i v' hv;cases hp;exact aqe au hr ho h1 hd h3 h2 de hv
     cases hp
    cases hp
   cases hc
  cases hc
 · -- indexAddr
  rename_i t x i ho;split at hc
  .rename_i x' i' h1 h2;split at hc
   .rename_i e ht;simp only[dI] at hc;obtain⟨sz,h3,rfl⟩:=hc;have hu:u=[]/\rd=[]:=by
     simp only[bt] at hp;repeat' split at hp
     all_goals first
      |cases hp
      |skip
     all_goals exact⟨rfl,rfl⟩
    obtain⟨rfl,rfl⟩:=hu;exact aqf au hr ho ht h3 h1 h2 hp
   .rename_i n e ht;simp only[dI] at hc;obtain⟨sz,h3,rfl⟩:=hc;have hu:u=[]/\rd=[]:=by
     simp only[bt] at hp;repeat' split at hp
     all_goals first
      |cases hp
      |skip
     all_goals exact⟨rfl,rfl⟩
    obtain⟨rfl,rfl⟩:=hu;exact ap0 au hr ho ht h3 h1 h2 hp
   cases hc
  cases hc
 · -- index
  rename_i t x i ho;split at hc
  .rename_i x' i' h1 h2;split at hc
   .rename_i n e ht;split at hc
    .rename_i sz k h3 h4;cases hc;simp only[bt] at hp;split at hp
     .rename_i n' cs e1 e2;split at hp
      .rename_i ay;split at hp
       .rename_i v' hv;cases hp;exact ap1 au hr ho ht h3 h4 h1 h2 e1 ay e2 hv
       cases hp
      cases hp
     cases hp
    cases hc
   .rename_i ht;cases hc;simp only[bt] at hp;split at hp
    .rename_i n s e1 e2;split at hp
     .rename_i b hb;cases hp;exact aqt au hr ho ht h1 h2 e1 e2 hb
     cases hp
    cases hp
   cases hc
  cases hc
 · -- lookup
  rename_i t x k ok ho;split at hc
  .rename_i kt e x' k' h1 h2 h3;split at hc
   .rename_i z q h4 h5;split at hc
    .rename_i kd h6;split at hc
     .rename_i h7;cases hc;simp only[bt] at hp;split at hp
      .rename_i es r key e1 e2;split at hp
       .cases hp
       rename_i Am;split at hp
       .rename_i f hf;split at hp
        .rename_i w hw;cases hp;exact aqi au hr ho h1 h4 h6 h7 h2 h3 e1 e2 (Classical.not_not.1 Am) hf hw
        cases hp
       cases hp
      cases hp
     cases hc
    cases hc
   cases hc
  cases hc
 · -- mapUpdate
  rename_i t x k y ho;split at hc
  .rename_i kt e x' k' y' h1 h2 h3 h4;split at hc
   .rename_i q h5;simp only[dI] at hc;obtain⟨kd,h6,rfl⟩:=hc;exact adm au hr (.inl ho) h1 h6 h2 h3 h4 hp
   cases hc
  cases hc
 · -- insert
  rename_i t x k y ho;split at hc
  .rename_i kt e x' k' y' h1 h2 h3 h4;split at hc
   .rename_i q h5;simp only[dI] at hc;obtain⟨kd,h6,rfl⟩:=hc;exact adm au hr (.inr ho) h1 h6 h2 h3 h4 hp
   cases hc
  cases hc
 · -- extract
  rename_i x i ho;simp only[dI] at hc;obtain⟨y,h1,rfl⟩:=hc;simp only[bt] at hp;split at hp
  .rename_i vs qP;split at hp
   .rename_i v' hv;cases hp;exact aqc au hr ho h1 qP hv
   cases hp
  cases hp
 · -- call
  rename_i c ho;split at hc
  .rename_i f as h1 h2;simp only[dI] at hc;obtain⟨y,h3,rfl⟩:=hc;simp only[bt] at hp;repeat' split at hp
   all_goals cases hp
  .rename_i x h1 h2;obtain⟨x0,nG,sP⟩:=Re h2;split at hc
   .rename_i t ht;split at hc
    .rename_i hu;cases hc;simp only[bt] at hp;split at hp
     .rename_i s hs;cases hp;exact aqu au hr ho h1 nG ht hu sP hs
     cases hp
    .rename_i e hu;cases hc;simp only[bt] at hp;split at hp
     .rename_i n hn;cases hp;exact aqg au hr ho h1 nG ht hu sP hn
     cases hp
    .rename_i k e hu;cases hc;simp only[bt] at hp;split at hp
     .rename_i n r hn;cases hp;exact aqo au hr ho h1 nG ht hu sP hn
     cases hp
    cases hc
   cases hc
  .rename_i x y h1 h2;obtain⟨x0,y0,nG,sP,zg⟩:=Rf h2;split at hc
   .rename_i t u' ht hu;split at hc
    .rename_i e sz bytes z he;split at hc
     .rename_i sC;cases hc;obtain⟨rfl,ch⟩:=sC;exact ap3 au hr ho h1 nG (arT ht hu ch) he sP zg hp
     cases hc
    cases hc
   cases hc
  .rename_i x y h1 h2;obtain⟨x0,y0,nG,sP,zg⟩:=Rf h2;cases hc;simp only[bt] at hp;split at hp
   .rename_i k p k' q e1 e2;cases hp;exact aqj au hr ho h1 nG sP zg e1 e2
   cases hp
  .rename_i x y h1 h2;obtain⟨x0,y0,nG,sP,zg⟩:=Rf h2;cases hc;simp only[bt] at hp;split at hp
   .rename_i k p k' q e1 e2;cases hp;exact aqk au hr ho h1 nG sP zg e1 e2
   cases hp
  .rename_i x h1 h2;obtain⟨x0,nG,sP⟩:=Re h2;split at hc
   .rename_i t ht;simp only[dI] at hc;obtain⟨⟨e,sz,bytes,z⟩,h3,rfl⟩:=hc;exact aqa au hr ho h1 nG ht h3 sP hp
   cases hc
  cases hc
 cases hc
end
end Go.Abs
namespace Go.Abs
variable {P:Program} {w0:World}
section
variable{m:Mem}{cs:List C}
def afX(w:World)(Q:Nat->Prop)(ty sz:Nat)(es:List (List PV))(c:Nat)(v:Value):Prop:=∃cap cur,v=.slice (some ⟨c,0,none⟩) es.length cap/\w.heap[c]?=some (.cells cur ty (0,0))/\0<sz/\(∀e∈es,e.length=sz)/\es.length<=cap/\cap<=maxLen/\cur.size=cap*sz/\dk w Q es.flatten (cur.toList.take (es.length*sz))
def rh(w:World)(Q:Nat->Prop):List RC->List Value->List Nat->Prop
 |[],vs,bs=>vs=[]/\bs=[]
 | .p x::r,vs,bs=>∃v mV,vs=v::mV/\bY w Q x v/\rh w Q r mV bs
 | .own ty sz es::r,vs,bs=>∃v mV c BM,vs=v::mV/\bs=c::BM/\afX w Q ty sz es c v/\rh w Q r mV BM
theorem rh.mono{w w':World}{Q Q':Nat->Prop}(hk:∀c,c<w.heap.size-> ¬Q c->w'.heap[c]?=w.heap[c]? /\ ¬Q' c):∀ {rs:List RC} {vs:List Value} {bs:List Nat},(∀c∈bs,w'.heap[c]?=w.heap[c]?)->rh w Q rs vs bs->rh w' Q' rs vs bs:=by
 intro rs
 induction rs with
 |nil=>intro vs bs _ h;exact h
 |cons r rs ih=>
  intro vs bs hb h;cases r with
  |p x=>obtain⟨v,mV,rfl,h1,h2⟩:=h;exact⟨v,mV,rfl,h1.mono hk,ih hb h2⟩
  |own ty sz es=>obtain⟨v,mV,c,BM,rfl,rfl,⟨cap,cur,e1,e2,e3,e4,e5,e6,e7,e8⟩,h2⟩:=h;exact⟨v,mV,c,BM,rfl,rfl,⟨cap,cur,e1,by rw[hb c af];exact e2,e3,e4,e5,e6,e7,e8.mono hk⟩,ih (fun c hc=>hb c (by simp[hc])) h2⟩
theorem rh.less{w:World}{Q Q':Nat->Prop}(h:∀b,Q' b->Q b){rs:List RC}{vs:List Value}{bs:List Nat}(hr:rh w Q rs vs bs):rh w Q' rs vs bs:=hr.mono (fun c _ hn=>⟨rfl,fun hq=>hn (h c hq)⟩) (fun _ _=>rfl)
theorem aqK(au:Ok w0 m){Q:Nat->Prop}(hQ:∀b,Q b->m.own b){c:C}{x:PV}{q:List Nat}{v:Value}(h:snap m.aj fH c=some (x,q))(hr:cS m c v)(hs:∀id∈q,¬Q (m.σ id)):bY m.w Q x v:=JD au fH h hr ⟨hQ,hs⟩
theorem adS(au:Ok w0 m){Q:Nat->Prop}(hQ:∀b,Q b->m.own b):∀ {cs:List C} {rs:List RC} {o q:List Nat} {vs:List Value},mT m.aj cs=some (rs,o,q)->dr m cs vs->(∀id∈q,¬Q (m.σ id))->
  rh m.w Q rs vs (o.map m.σ)/\ ∀id∈o,∃ob,(m.aj id).2=some ob/\ob.fM=true:=by
 intro cs
 induction cs with
 |nil=>
  intro rs o q vs h hr _;simp only[mT,fI,kB] at h;obtain⟨rfl,rfl,rfl⟩:=h;have:vs=[]:=by have:=hr.1;simpa using this
  exact⟨⟨this,rfl⟩,fun id h=>by simp at h⟩
 |cons c cs ih=>
  intro rs o q vs h hr hq;simp only[mT] at h;split at h
  .rename_i x o1 q1 xs os qs h1 h2;cases h;cases vs with
   |nil=>simp[dr] at hr
   |cons v vs=>
    obtain⟨i1,i2⟩:=ih (vs:=vs) h2 ⟨by have:=hr.1;simpa using this,fun j x u a b=>hr.2 (j+1) x u (by simpa using a) (by simpa using b)⟩ (fun id hid=>hq id (by simp[hid]));have hc:cS m c v:=hr.2 0 c v rfl rfl;have snapcase:∀ {y:PV},(snap m.aj fH c).map (fun(v,r)=>((.p v:RC),([]:List Nat),r))=some (x,o1,q1)->rh m.w Q (x::xs) (v::vs) ((o1++os).map m.σ)/\ ∀id∈o1++os,∃ob,(m.aj id).2=some ob/\ob.fM=true:=by intro _ h1;simp only[dI] at h1;obtain⟨⟨y,r⟩,h3,h4⟩:=h1;cases h4;exact⟨⟨v,vs,rfl,aqK au hQ h3 hc (fun id hid=>hq id (by simp[hid])),i1⟩,i2⟩
    unfold ke at h1;split at h1
    .rename_i y;cases h1;have hy:bY m.w m.own y v:=by cases hc with|p h=>exact h
     exact⟨⟨v,vs,rfl,hy.less hQ,i1⟩,i2⟩
    .rename_i id g z len;split at h1
     .rename_i g' ty sz es hb;split at h1
      .rename_i sC;obtain⟨rfl,hlen⟩:=sC;cases h1;have hbo:(m.aj id).2=some (.arr ty sz es):=by rw[hb]
       obtain⟨cur,hh,ju,ch,hl,sI,de,dE⟩:=au.obj id _ hbo;cases hc with
       |hsl ad cap hg rJ hmm hhd=>
        obtain⟨f1,f2,f3⟩:=hhd sz (by rw[hb]) (by rw[hb];rfl);have oR:=f2 (.inl rfl);have lH:=f3 rfl;rw[zI] at oR;subst oR;subst lH;have ay:(es.take len).length=len:=by simp;omega
        refine⟨⟨_,vs,m.σ id,os.map m.σ,rfl,rfl,⟨m.κ id,cur,by rw[ay],hh,ju,fun e he=>ch e (yg he),by rw[ay];exact rJ,sI,de,?_⟩,i1⟩,?_⟩
        .rw[ay,Ib ch];have h1:=(dk.pw.1 dE).take (len*sz);rw[Hg,zH (mZ _ hlen)] at h1;exact(dk.pw.2 h1).less hQ
        intro j hj;simp only[yf,gD,cP] at hj;rcases hj with rfl|hj
        .exact⟨_,hbo,rfl⟩
        exact i2 j hj
      cases h1
     exact snapcase (y:=.tQ) h1
    exact snapcase (y:=.tQ) h1
  cases h
theorem abA:∀(rs:List RC) (site:Nat) (b b':aA),(∀s,site<=s->(b s).1=(b' s).1)->iT b site rs=iT b' site rs:=by
 intro rs
 induction rs with
 |nil=>intro site b b' _;rfl
 |cons r rs ih=>
  intro site b b' h;have h1:cH b site r=cH b' site r:=by
   cases r with
   |p x=>rfl
   |own ty sz es=>simp only[cH,h site (bN _)]
  simp only[iT,h1,ih (site+1) b b' (fun s hs=>h s aa)]
theorem alZ{s c k:Nat}{o:Ob}(hc:m.fr c):ub m (m.install s c k o) where
 own x _ hn:=⟨rfl,fun h=>hn (Pe hc h)⟩
 gen id:=by
  simp only[Mem.install,aN];split
  .rename_i e;subst e;exact Nat.le_succ _
  exact bN _
 ref id hg hs:=by
  simp only[Mem.install,aN] at hg hs ⊢;split at hg
  .rename_i e;subst e;simp at hg
  rename_i e;simp only[if_neg e] at hs ⊢;exact⟨hs,trivial,trivial,trivial⟩
theorem ub.trans{a b c:Mem}(h:ub a b)(hs:a.w.heap.size<=b.w.heap.size)(k:ub b c):ub a c where
 own x hx hn:=by have h1:=h.own x hx hn;have h2:=k.own x (Di hx hs) h1.2;exact⟨h2.1.trans h1.1,h2.2⟩
 gen id:=mD (h.gen id) (k.gen id)
 ref id he hs':=by have h1:=h.gen id;have h2:=k.gen id;obtain⟨s1,e1,e2,e3⟩:=k.ref id aa hs';obtain⟨s2,f1,f2,f3⟩:=h.ref id aa s1;exact⟨s2,e1.trans f1,e2.trans f2,e3.trans f3⟩
theorem alM{MH:Mem}:∀ {rs:List RC} {vs:List Value} {bs:List Nat} {site:Nat} {m:Mem},Ok w0 m->rh m.w m.own rs vs bs->bs.Nodup->(∀c∈bs,m.fr c/\w0.heap.size<=c)->Ev MH m->(∀c∈bs,MH.w.heap.size<=c\/MH.fM c)->
  ∃m',m'.w=m.w/\Ok w0 m'/\Ev MH m'/\ub m m'/\(∀c,m'.fr c↔m.fr c/\c∉bs)/\m'.aj=app (iT m.aj site rs).2 m.aj/\dr m' (iT m.aj site rs).1 vs:=by
 intro rs
 induction rs with
 |nil=>intro vs bs site m au h _ _ dY _;obtain⟨rfl,rfl⟩:=h;exact⟨m,rfl,au,dY,⟨fun c _ h=>⟨rfl,h⟩,fun _=>bN _,fun _ _ h=>⟨h,rfl,rfl,rfl⟩⟩,fun c=>af,rfl,rfl,fun j x u h=>by simp[iT] at h⟩
 |cons r rs ih=>
  intro vs bs site m au h iR mK dY UM;have cons:∀ {m':Mem} {x:C} {xs:List C} {v:Value} {vs:List Value},cS m' x v->dr m' xs vs->dr m' (x::xs) (v::vs):=by
   intro m' x xs v vs h1 h2;refine⟨by simp[h2.1],fun j y u a b=>?_⟩;cases j with
   |zero=>simp at a b;subst a b;exact h1
   |succ j=>simp at a b;exact h2.2 j y u a b
  cases r with
  |p x=>obtain⟨v,mV,rfl,h1,h2⟩:=h;obtain⟨m',e1,e2,e3,e4,e5,e6,e7⟩:=ih (site:=site+1) au h2 iR mK dY UM;exact⟨m',e1,e2,e3,e4,e5,by simpa [iT,cH] using e6,by simpa [iT,cH] using cons (cS.p (h1.ev e4)) e7⟩
  |own ty sz es=>
   obtain⟨v,mV,c,BM,rfl,rfl,⟨cap,cur,q1,q2,q3,q4,q5,q6,q7,q8⟩,h2⟩:=h;have hfc:=(mK c af).1;have h0:=alZ (s:=site) (k:=cap) (o:=.arr ty sz es) hfc;have hσ:(m.install site c cap (.arr ty sz es)).σ site=c:=by simp[Mem.install,aN]
   have hκ:(m.install site c cap (.arr ty sz es)).κ site=cap:=by simp[Mem.install,aN]
   have sK:Ok w0 (m.install site c cap (.arr ty sz es)):=Pd au hfc (mK c af).2
    ⟨cur,by rw[hσ];exact q2,q3,q4,by rw[hκ];exact q5,by rw[hκ];exact q6,by rw[hκ];exact q7,dk.ev h0 q8⟩
   have abh:=r6.1 iR;obtain⟨m',e1,e2,e3,e4,e5,e6,e7⟩:=ih (site:=site+1) (m:=m.install site c cap (.arr ty sz es)) sK (h2.less fun b hb=>Pe hfc hb) abh.2
    (fun d hd=>⟨⟨(mK d (by simp[hd])).1,fun e=>abh.1 (e▸hd)⟩,(mK d (by simp[hd])).2⟩) (Pb dY hfc (UM c af)) (fun d hd=>UM d (by simp[hd]))
   have Uy:iT (m.install site c cap (.arr ty sz es)).aj (site+1) rs=iT m.aj (site+1) rs:=abA _ _ _ _ fun s hs=>by simp only[Mem.install,aN];rw[if_neg aa]
   rw[Uy] at e6 e7;refine⟨m',e1,e2,e3,h0.trans (bN _) e4,fun d=>?_,?_,?_⟩
   .rw[e5 d];simp only[Mem.install,cP,not_or];exact⟨fun⟨⟨a,b⟩,c⟩=>⟨a,b,c⟩,fun⟨a,b,c⟩=>⟨⟨a,b⟩,c⟩⟩
   .rw[e6];rfl
   refine cons ?_ e7;have:cS (m.install site c cap (.arr ty sz es)) (.hsl site ((m.aj site).1+1) sz 0 es.length) v:=by
    rw[q1];refine .hsl _ _ ?_ q5 q6 fun z h1 h2=>?_
    .simp[Mem.install,aN]
    have hz:kM ((m.install site c cap (.arr ty sz es)).aj site)=some sz:=by simp[Mem.install,aN,kM]
    rw[hz] at h2;cases h2;exact⟨rfl,fun _=>by rw[hσ,zI],fun _=>hκ.symm⟩
   exact this.ev e4
def wV:RV->Value->List Value->Prop
 | .one _,v,vs=>vs=[v]
 | .agg l,v,vs=>v=.agg vs.toArray/\vs.length=l.length
 | .tup _,_,_=>False
def Dl:List RV->List Value->List Value->Prop
 |[],us,vs=>us=[]/\vs=[]
 |r::rs,us,vs=>∃u Nk a b,us=u::Nk/\vs=a++b/\wV r u a/\Dl rs Nk b
def Fe:RV->Value->List Value->Prop
 | .tup rs,v,vs=>∃arr,v=.tuple arr/\Dl rs arr.toList vs
 |r,v,vs=>wV r v vs
theorem dr.take{vs:List Value}(h:dr m cs vs)(n:Nat):dr m (cs.take n) (vs.take n):=dr.pw.2 ((dr.pw.1 h).take n)
theorem dr.drop{vs:List Value}(h:dr m cs vs)(n:Nat):dr m (cs.drop n) (vs.drop n):=dr.pw.2 ((dr.pw.1 h).drop n)
theorem dr.append{ds:List C}{vs us:List Value}(h:dr m cs vs)(k:dr m ds us):dr m (cs++ds) (vs++us):=dr.pw.2 ((dr.pw.1 h).append (dr.pw.1 k))
theorem dr.single{c:C}{v:Value}(h:cS m c v):dr m [c] [v]:=⟨rfl,fun j x u a b=>by
 rcases j with _|j
 .simp at a b;subst a b;exact h
 simp at a⟩
theorem aaf{v:V}{val:Value}(h:nT v=some cs)(hr:nJ m v val):
  ∃vs,dr m cs vs/\ ∀(rs tl:List RC),rs.length=cs.length->(sX v (rs++tl)).2=tl/\ik (sX v (rs++tl)).1=rs/\wV (sX v (rs++tl)).1 val vs:=by
 cases v with
 |undef=>simp[nT] at h
 |tup vs=>simp[nT] at h
 |one c=>
  simp only[nT,fI] at h;subst h;refine⟨[val],dr.single hr,fun rs tl hl=>?_⟩
  match rs,hl with
  |[r],_=>exact⟨rfl,rfl,rfl⟩
 |agg ds=>
  simp only[nT,fI] at h;subst h;obtain⟨arr,rfl,hc⟩:=hr;refine⟨arr.toList,hc,fun rs tl hl=>?_⟩;have h1:(rs++tl).take ds.length=rs:=by rw[<- hl];exact List.take_left
  have h2:(rs++tl).drop ds.length=tl:=by rw[<- hl];exact List.drop_left
  simp only[sX,ik,wV,h1,h2,true_and];rw[hc.1,hl]
theorem ajB:∀ {ws:List V} {cs:List C} {vals:List Value},uX ws=some cs->Pw (nJ m) ws vals->
  ∃vs,dr m cs vs/\ ∀(rs:List RC),rs.length=cs.length->mf (A9 ws rs)=rs/\Dl (A9 ws rs) vals vs:=by
 intro ws
 induction ws with
 |nil=>
  intro cs vals h hr;simp only[uX,fI] at h;subst h;have hv:vals=[]:=by have:=hr.1;simpa using this
  subst hv;refine⟨[],⟨rfl,fun j x u a=>by simp at a⟩,fun rs hl=>?_⟩;have:rs=[]:=by simpa using hl
  subst this;exact⟨rfl,rfl,rfl⟩
 |cons w ws ih=>
  intro cs vals h hr;simp only[uX] at h;split at h
  .rename_i a b h1 h2;cases h;cases vals with
   |nil=>have:=hr.1;simp at this
   |cons val vals=>
    obtain⟨JT,fG,ji⟩:=aaf h1 (hr.2 0 w val rfl rfl);obtain⟨vs2,qI,eG⟩:=ih (vals:=vals) h2 ⟨by have:=hr.1;simpa using this,fun j x u p q=>hr.2 (j+1) x u (by simpa using p) (by simpa using q)⟩;refine⟨JT++vs2,fG.append qI,fun rs hl=>?_⟩;have u9:rs.length=a.length+b.length:=by simpa using hl
    obtain⟨p1,p2,p3⟩:=ji (rs.take a.length) (rs.drop a.length) (by simp;omega);rw[mX] at p1 p2 p3;obtain⟨q1,q2⟩:=eG (rs.drop a.length) (by simp;omega);simp only[A9,mf,p1,p2,q1,Dl];exact⟨mX _ _,val,vals,JT,vs2,rfl,rfl,p3,q2⟩
  cases h
theorem ajA{v:V}{val:Value}(h:tA v=some cs)(hr:bQ m v val):
  ∃vs,dr m cs vs/\ ∀(rs:List RC),rs.length=cs.length->gG (vv v rs)=rs/\Fe (vv v rs) val vs:=by
 have one:∀ {v:V},nT v=some cs->nJ m v val->(∀rs,vv v rs=(sX v rs).1)->∃vs,dr m cs vs/\ ∀(rs:List RC),rs.length=cs.length->gG (vv v rs)=rs/\Fe (vv v rs) val vs:=by
  intro v h hr he;obtain⟨vs,h1,h2⟩:=aaf h hr;refine⟨vs,h1,fun rs hl=>?_⟩;obtain⟨_,p2,p3⟩:=h2 rs [] hl;rw[kN] at p2 p3;rw[he];generalize (sX v rs).1=y at p2 p3;cases y with
  |tup _=>exact p3.elim
  |one c=>exact⟨p2,p3⟩
  |agg c=>exact⟨p2,p3⟩
 cases v with
 |tup ws=>obtain⟨arr,rfl,hs,hc⟩:=hr;obtain⟨vs,h1,h2⟩:=ajB (m:=m) (vals:=arr.toList) h ⟨by simpa using hs,fun j x u a b=>hc j x u a (by simpa using b)⟩;exact⟨vs,h1,fun rs hl=>⟨(h2 rs hl).1,arr,rfl,(h2 rs hl).2⟩⟩
 |undef=>simp[tA,nT] at h
 |one c=>exact one h hr fun _=>rfl
 |agg c=>exact one h hr fun _=>rfl
theorem V1{r:RV}{val:Value}{a b:List Value}(hf:wV r val a)(hc:dr m cs (a++b)):nJ m (l7 r cs).1 val/\dr m (l7 r cs).2 b:=by
 cases r with
 |tup _=>exact hf.elim
 |one c=>
  have hf:a=[val]:=hf;subst hf;cases cs with
  |nil=>have:=hc.1;simp at this
  |cons x xs=>exact⟨hc.2 0 x val rfl rfl,by have:=hc.drop 1;simpa [l7] using this⟩
 |agg l=>
  obtain⟨rfl,hl⟩:=hf;refine⟨⟨_,rfl,?_⟩,?_⟩
  .have:=hc.take l.length;rw[<- hl,List.take_left] at this
   simpa [l7,hl] using this
  have:=hc.drop l.length;rw[<- hl,List.drop_left] at this
  simpa [l7,hl] using this
theorem apr:∀ {rs:List RV} {cs:List C} {us vs:List Value},Dl rs us vs->dr m cs vs->Pw (nJ m) (qT rs cs) us:=by
 intro rs
 induction rs with
 |nil=>intro cs us vs h _;obtain⟨rfl,rfl⟩:=h;exact⟨rfl,fun j x u a=>by simp[qT] at a⟩
 |cons r rs ih=>
  intro cs us vs h hc;obtain⟨u,Nk,a,b,rfl,rfl,h1,h2⟩:=h;obtain⟨p1,p2⟩:=V1 h1 hc;have p3:=ih h2 p2;refine⟨by simp[qT,p3.1],fun j x v q1 q2=>?_⟩;cases j with
  |zero=>simp[qT] at q1 q2;subst q1 q2;exact p1
  |succ j=>simp[qT] at q1 q2;exact p3.2 j x v q1 q2
theorem apq{r:RV}{val:Value}{vs:List Value}(hf:Fe r val vs)(hc:dr m cs vs):bQ m (qt r cs) val:=by
 cases r with
 |tup rs=>obtain⟨arr,rfl,h⟩:=hf;have:=apr h hc;exact⟨arr,rfl,by simpa using this.1,fun j x u a b=>this.2 j x u a (by simpa using b)⟩
 |one c=>have:=(V1 (b:=[]) (show wV (.one c) val vs from hf) (by simpa using hc)).1;exact bQ.of1 this
 |agg c=>have:=(V1 (b:=[]) (show wV (.agg c) val vs from hf) (by simpa using hc)).1;exact bQ.of1 this
end
end Go.Abs
namespace Go.Abs
section
variable{b':aA}{site:Nat}{cs:jN}{sh:Ctx}{ak:Env}{cp:fO}
def iY(ids:List Nat)(b b':aA):Prop:=∀id∈ids,b' id=b id
def r8(ts:List Nat)(e e':Env):Prop:=∀t∈ts,e' t=e t
theorem iY.left{x y:List Nat}{b:aA}(h:iY (x++y) b b'):iY x b b':=fun i hi=>h i (by simp[hi])
theorem iY.right{x y:List Nat}{b:aA}(h:iY (x++y) b b'):iY y b b':=fun i hi=>h i (by simp[hi])
theorem r8.left{x y:List Nat}{b b':Env}(h:r8 (x++y) b b'):r8 x b b':=fun i hi=>h i (by simp[hi])
theorem r8.right{x y:List Nat}{b b':Env}(h:r8 (x++y) b b'):r8 y b b':=fun i hi=>h i (by simp[hi])
section
variable {e e':Env}
theorem fh{a:aR}(h:r8 a.tmps e e'):ev e' a=ev e a:=by
 cases a with
 |t n=>exact h n (by simp[aR.tmps])
 |_=>rfl
theorem aiZ:∀ {as:List aR},r8 (EW as) e e'->as.map (ev e')=as.map (ev e):=by
 intro as
 induction as with
 |nil=>intro _;rfl
 |cons a r ih=>intro h;simp only[dS];rw[fh h.left,ih h.right]
theorem adM:∀ {as:List aR},r8 (EW as) e e'->vr e' as=vr e as:=by
 intro as
 induction as with
 |nil=>intro _;rfl
 |cons a r ih=>intro h;simp only[vr];rw[fh h.left,ih h.right]
theorem aiI{sz:Nat}:∀ {as:List aR},r8 (EW as) e e'->yJ e' sz as=yJ e sz as:=by
 intro as
 induction as with
 |nil=>intro _;rfl
 |cons a r ih=>intro h;simp only[yJ];rw[fh h.left,ih h.right]
theorem an4:∀ {as:List (Nat×Nat×aR)},r8 (Wo as) e e'->xU e' as=xU e as:=by
 intro as
 induction as with
 |nil=>intro _;rfl
 |cons a r ih=>intro h;obtain⟨x,y,a⟩:=a;simp only[xU];rw[fh h.left,ih h.right]
theorem NP{d:Nat}{a:Option aR}(h:r8 (Wn a) e e'):rm e' d a=rm e d a:=by
 cases a with
 |none=>rfl
 |some a=>simp only[rm];rw[fh h]
theorem ajF{a:aR}(h:r8 a.tmps e e'):DF e' a=DF e a:=by unfold DF;rw[fh h]
theorem VT{sh:Nat->Bool}{aj:aA}{p:lB}(h:r8 p.tmps e e'):bt sh e' aj p=bt sh e aj p:=by
 cases p with
 |jU x=>simp only[bt,fh (a:=x) h]
 |pick c a b=>simp only[bt,fh (a:=c) h.left.left,fh (a:=a) h.left.right,fh (a:=b) h.right]
 |alloc s z=>rfl
 |box s x=>simp only[bt,fh (a:=x) h]
 |build z ps=>simp only[bt,an4 (as:=ps) h]
 |fi s ty sz ps=>simp only[bt,aiI (as:=ps) h]
 |load k x=>simp only[bt,fh (a:=x) h]
 |store n a x=>simp only[bt,fh (a:=a) h.left,fh (a:=x) h.right]
 |xT x=>simp only[bt,fh (a:=x) h]
 |bin op x y=>simp only[bt,fh (a:=x) h.left,fh (a:=y) h.right]
 |eqc k n x y=>simp only[bt,fh (a:=x) h.left,fh (a:=y) h.right]
 |un op x=>simp only[bt,fh (a:=x) h]
 |conv k x=>simp only[bt,fh (a:=x) h]
 |bstr x=>simp only[bt,fh (a:=x) h]
 |mkfn f a b=>simp only[bt,adM (as:=a) h.left,adM (as:=b) h.right]
 |mkmap s ag=>rfl
 |rS s ty sz bytes z l c=>simp only[bt,fh (a:=l) h.left,fh (a:=c) h.right]
 |slice sz x lo hi=>simp only[bt,fh (a:=x) h.left.left,NP (a:=lo) h.left.right,NP (a:=hi) h.right]
 |sslice x lo hi=>simp only[bt,fh (a:=x) h.left.left,NP (a:=lo) h.left.right,NP (a:=hi) h.right]
 |xf off x=>simp only[bt,fh (a:=x) h]
 |ql sz x i=>simp only[bt,fh (a:=x) h.left,fh (a:=i) h.right]
 |ud l sz x i=>simp only[bt,fh (a:=x) h.left,fh (a:=i) h.right]
 |fld off k x=>simp only[bt,fh (a:=x) h]
 |aidx l sz k x i=>simp only[bt,fh (a:=x) h.left,fh (a:=i) h.right]
 |sidx x i=>simp only[bt,fh (a:=x) h.left,fh (a:=i) h.right]
 |lookup kd z ag ok x k=>simp only[bt,fh (a:=x) h.left,fh (a:=k) h.right]
 |mupd kd ag m k v=>simp only[bt,fh (a:=m) h.left.left,fh (a:=k) h.left.right,fh (a:=v) h.right]
 |bad=>rfl
 |extract x i=>simp only[bt,fh (a:=x) h]
 |call s f as=>simp only[bt,ajF (a:=f) h.left,aiZ (as:=as) h.right]
 |slen x=>simp only[bt,fh (a:=x) h]
 |CG x=>simp only[bt,fh (a:=x) h]
 |mlen x=>simp only[bt,fh (a:=x) h]
 |append s ty sz b x y=>simp only[bt,fh (a:=x) h.left,fh (a:=y) h.right]
 |max x y=>simp only[bt,fh (a:=x) h.left,fh (a:=y) h.right]
 |min x y=>simp only[bt,fh (a:=x) h.left,fh (a:=y) h.right]
 |clear z x=>simp only[bt,fh (a:=x) h]
end
section
variable {b b':aA}
theorem w9{α β:Type}{f g:α->Option (β×List Nat)}(hf:∀x y r,f x=some (y,r)->iY r b b'->g x=some (y,r)):∀ {xs:List α} {ys:List β} {r:List Nat},collect f xs=some (ys,r)->iY r b b'->collect g xs=some (ys,r):=by
 intro xs
 induction xs with
 |nil=>intro ys r h _;exact h
 |cons x xs ih=>
  intro ys r h ha;simp only[collect] at h ⊢;split at h
  .rename_i y p bs q e1 e2;cases h;rw[hf _ _ _ e1 ha.left,ih e2 ha.right]
  cases h
theorem Nc:∀(n:Nat) (c:C) (x:PV) (r:List Nat),snap b n c=some (x,r)->iY r b b'->snap b' n c=some (x,r):=by
 intro n
 induction n with
 |zero=>intro c x r h;simp[snap] at h
 |succ n ih=>
  intro c x r h ha;cases c with
  |p v=>exact h
  |aY id g off=>
   have hid:id∈r:=by
    simp only[snap] at h
    (repeat' split at h)<;>first
     |cases h
     |skip
    all_goals simp
   have hb:=ha id hid;simp only[snap] at h ⊢;rw[hb];split at h
   .split at h
    .rename_i hg;rw[if_pos hg];split at h
     .rename_i hc;cases h;rw[w9 ih hc (fun i hi=>ha i (by simp[hi]))]
     cases h
    cases h
   .exact h
   cases h
  |dC id g i off=>
   have hid:id∈r:=by
    simp only[snap,dI] at h
    (repeat' split at h)<;>first
     |cases h
     |skip
    all_goals(simp only[dI] at h;obtain⟨e,_,h⟩:=h;cases h;simp)
   have hb:=ha id hid;simp only[snap] at h ⊢;rw[hb];exact h
  |hsl id g z off len=>
   have hid:id∈r:=by
    simp only[snap] at h
    (repeat' split at h)<;>first
     |cases h
     |skip
    all_goals simp
   have hb:=ha id hid;simp only[snap] at h ⊢;rw[hb];split at h
   .exact h
   .exact h
   .split at h
    .rename_i hg;rw[if_pos hg];split at h
     .rename_i hc;cases h;rw[w9 (fun _ _ _ p q=>w9 ih p q) hc (fun i hi=>ha i (by simp[hi]))]
     cases h
    cases h
   cases h
  |j8 id g=>
   have hid:id∈r:=by
    simp only[snap] at h
    (repeat' split at h)<;>first
     |cases h
     |skip
    all_goals simp
   have hb:=ha id hid;simp only[snap] at h ⊢;rw[hb];exact h
  |hfn f x y=>
   simp only[snap] at h ⊢;split at h
   .rename_i h1 h2;cases h;rw[w9 ih h1 ha.left,w9 ih h2 ha.right]
   cases h
theorem aqM(x y:V)(r:List Nat)(h:nI b x=some (y,r))(ha:iY r b b'):nI b' x=some (y,r):=by
 cases x with
 |undef=>simp[nI] at h
 |tup _=>simp[nI] at h
 |one c=>simp only[nI,dI] at h ⊢;obtain⟨⟨p,q⟩,h1,h2⟩:=h;cases h2;exact⟨_,Nc _ _ _ _ h1 ha,rfl⟩
 |agg cs=>simp only[nI,dI] at h ⊢;obtain⟨⟨p,q⟩,h1,h2⟩:=h;cases h2;exact⟨_,w9 (Nc _) h1 ha,rfl⟩
theorem aqO{xs ys:List V}{r:List Nat}(h:Bf b xs=some (ys,r))(ha:iY r b b'):Bf b' xs=some (ys,r):=w9 aqM h ha
theorem ajN{all:List Nat}{id:Nat}{u:List eN}(h:xj b all id=some u)(hid:id∈all)(ha:iY all b b'):xj b' all id=some u:=by
 have hb:=ha id hid;unfold xj at h ⊢;rw[hb];split at h
 .split at h
  .rename_i ps r hc;split at h
   .rename_i hr;have qe:iY r b b':=fun i hi=>ha i (by have:=ko.1 hr i hi;simpa using this);rw[w9 (Nc _) hc qe];simp only;rw[if_pos hr];exact h
   cases h
  cases h
 .exact h
 .split at h
  .rename_i ps r hc;split at h
   .rename_i hr;have qe:iY r b b':=fun i hi=>ha i (by have:=ko.1 hr i hi;simpa using this);rw[w9 (fun _ _ _ p q=>w9 (Nc _) p q) hc qe];simp only;rw[if_pos hr];exact h
   cases h
  cases h
 .exact h
 .cases h
 exact h
theorem ajO{all:List Nat}(ha:iY all b b'):∀ {ids:List Nat} {u:List eN},(∀i∈ids,i∈all)->uk b all ids=some u->uk b' all ids=some u:=by
 intro ids
 induction ids with
 |nil=>intro u _ h;exact h
 |cons i r ih=>
  intro u hs h;simp only[uk] at h ⊢;split at h
  .rename_i x y h1 h2;cases h;rw[ajN h1 (hs i af) ha,ih (fun j hj=>hs j (by simp[hj])) h2]
  cases h
theorem Le{ids:List Nat}{u:List eN}(h:rA b ids=some u)(ha:iY ids b b'):rA b' ids=some u:=ajO ha (fun _ h=>h) h
theorem alK{r:RC}(h:iY ((cH b site r).2.map (·.1)) b b'):cH b' site r=cH b site r:=by
 cases r with
 |p x=>rfl
 |own ty sz es=>simp only[cH];rw[h site (by simp[cH])]
theorem alL:∀ {rs:List RC} {site:Nat},iY ((iT b site rs).2.map (·.1)) b b'->iT b' site rs=iT b site rs:=by
 intro rs
 induction rs with
 |nil=>intro site _;rfl
 |cons r rs ih=>intro site h;simp only[iT,ll] at h ⊢;rw[alK h.left,ih h.right]
theorem abB{r:RV}(h:iY ((jl b site r).2.map (·.1)) b b'):jl b' site r=jl b site r:=by unfold jl at h ⊢;simp only at h;rw[alL h]
theorem amk{rd:List Nat}{r:RV}{v:V}{u:List eN}(h:land b rd site r=some (v,u))(ha:iY rd b b')(hu:iY (u.map (·.1)) b b'):land b' rd site r=some (v,u):=by
 unfold land at h ⊢;split at h
 .rename_i hc;rw[if_pos hc];cases h;rw[abB hu];rfl
 rename_i hc;rw[if_neg hc];split at h
 .rename_i fu hf;cases h;rw[Le hf ha];simp only;rw[ll] at hu;rw[abB hu.right]
 cases h
theorem aem{x:V}{cs:List C}{r:List Nat}(h:A7 b x=some (cs,r))(ha:iY r b b'):A7 b' x=some (cs,r):=by
 have key:∀id,(id∈r->b' id=b id):=fun id hid=>ha id hid;unfold A7 at h ⊢;split at h
 .exact h
 .rename_i id g off;have hid:id∈r:=by
   (repeat' split at h)<;>first
    |cases h
    |skip
   all_goals simp
  simp only[key id hid];exact h
 .rename_i id g i off;have hid:id∈r:=by
   (repeat' split at h)<;>first
    |cases h
    |skip
   all_goals(simp only[dI] at h;obtain⟨e,_,h⟩:=h;cases h;simp)
  simp only[key id hid];exact h
 cases h
theorem amz{x:V}{n:Nat}{r:List Nat}(h:zj b x=some (n,r))(ha:iY r b b'):zj b' x=some (n,r):=by
 have key:∀id,(id∈r->b' id=b id):=fun id hid=>ha id hid;unfold zj at h ⊢;split at h
 .exact h
 .exact h
 .rename_i id g;have hid:id∈r:=by
   (repeat' split at h)<;>first
    |cases h
    |skip
   all_goals simp
  simp only[key id hid];exact h
 cases h
theorem ana{ag:Bool}{x:V}{es:List (PV×List PV)}{r:List Nat}(h:mapOf b ag x=some (es,r))(ha:iY r b b'):mapOf b' ag x=some (es,r):=by
 have key:∀id,(id∈r->b' id=b id):=fun id hid=>ha id hid;unfold mapOf at h ⊢;split at h
 .exact h
 .exact h
 .rename_i id g;have hid:id∈r:=by
   (repeat' split at h)<;>first
    |cases h
    |skip
   all_goals simp
  simp only[key id hid];exact h
 cases h
theorem KT{x:V}{es:List (List PV)}{r fr:List Nat}(h:fF b x=some (es,r,fr))(ha:iY r b b')(hf:iY fr b b'):fF b' x=some (es,r,fr):=by
 have key:∀id,(id∈r->b' id=b id):=fun id hid=>ha id hid;unfold fF at h ⊢;split at h
 .exact h
 .exact h
 .rename_i id g z off len;have hid:id∈r:=by
   (repeat' split at h)<;>first
    |cases h
    |skip
   all_goals simp
  simp only[key id hid];split at h
  .exact h
  .exact h
  .split at h
   .rename_i hc;rw[if_pos hc];split at h
    .rename_i h1;cases h;rw[w9 (fun _ _ _ p q=>w9 (Nc _) p q) h1 hf]
    cases h
   cases h
  exact h
 cases h
theorem asi{a:V}{n:Nat}{xs:List C}{v:V}{u:List eN}{r:List Nat}(h:zD b a n xs=.done v u r)(ha:iY r b b'):zD b' a n xs=.done v u r:=by
 have key:∀id,(id∈r->b' id=b id):=fun id hid=>ha id hid;unfold zD at h ⊢;split at h
 .cases h
 rename_i hn;rw[if_neg hn];split at h
 .rename_i id g off;have hid:id∈r:=by
   (repeat' split at h)<;>first
    |cases h
    |skip
   all_goals simp
  simp only[key id hid];exact h
 .rename_i id g i off;have hid:id∈r:=by
   (repeat' split at h)<;>first
    |cases h
    |skip
   all_goals simp
  simp only[key id hid];exact h
 cases h
theorem agz{ty sz bytes:Nat}{s x v:V}{u:List eN}{r:List Nat}(h:fQ b site ty sz bytes s x=.done v u r)(ha:iY r b b'):fQ b' site ty sz bytes s x=.done v u r:=by
 unfold fQ at h ⊢;split at h
 .cases h
 rename_i new rd fr dC;split at h
 .cases h
 rename_i ch;split at h
 .cases h
 rename_i fu rG;have sub:∀ {l:List Nat},(∀i∈l,i∈r)->iY l b b':=fun hl i hi=>ha i (hl i hi);split at h
 .split at h
  .rename_i hn;cases h;rw[KT dC ha.left ha.right];simp only;rw[if_neg ch,Le rG ha.right];simp only;rw[if_pos hn]
  rename_i hn;split at h
  .rename_i hr;cases h;rw[KT dC (sub fun i hi=>by simp[hi]) (sub fun i hi=>by simp[hi])];simp only;rw[if_neg ch,Le rG (sub fun i hi=>by simp[hi])];simp only;rw[if_neg hn,if_pos hr,ha site af]
  cases h
 .split at h
  .cases h
  rename_i hn;split at h
  .rename_i hr;cases h;rw[KT dC (sub fun i hi=>by simp[hi]) (sub fun i hi=>by simp[hi])];simp only;rw[if_neg ch,Le rG (sub fun i hi=>by simp[hi])];simp only;rw[if_neg hn,if_pos hr,ha site af]
  cases h
 .rename_i id g z len;split at h
  .rename_i g' qV dO es hb;split at h
   .rename_i hr;cases h;rw[KT dC (sub fun i hi=>by simp[hi]) (sub fun i hi=>by simp[hi])];simp only;rw[if_neg ch,Le rG (sub fun i hi=>by simp[hi])];simp only;have h1:=ha id af;rw[hb] at h1;simp only[h1];rw[if_pos hr,ha site af]
   cases h
  cases h
 cases h
end
theorem aoy{sh:Nat->Bool}{e:Env}{b:aA}{p:lB}{v:V}{u:List eN}{r:List Nat}(h:bt sh e b p=.done v u r)(ha:iY r b b'):bt sh e b' p=.done v u r:=by
 cases p with
 |alloc s z=>simp only[bt,ft.done.injEq] at h ⊢;obtain⟨h1,h2,h3⟩:=h;rw[ha s (by rw[<- h3];simp)];exact⟨h1,h2,h3⟩
 |mkmap s ag=>simp only[bt,ft.done.injEq] at h ⊢;obtain⟨h1,h2,h3⟩:=h;rw[ha s (by rw[<- h3];simp)];exact⟨h1,h2,h3⟩
 |box s x=>
  simp only[bt] at h ⊢;split at h
  .cases h;rw[ha s af]
  cases h
 |fi s ty sz ps=>
  simp only[bt] at h ⊢;split at h
  .split at h
   .cases h;rw[ha s af]
   cases h;rw[ha s af]
  cases h
 |rS s ty sz bytes z l c=>
  simp only[bt] at h ⊢;split at h
  .split at h
   .rename_i hc;cases h;rw[if_pos hc,ha s af]
   cases h
  cases h
 |load k x=>
  simp only[bt] at h ⊢;split at h
  .rename_i cs q hq;split at h
   .rename_i v' hv;cases h;rw[aem hq ha];simp only[hv]
   cases h
  cases h
 |store n a x=>
  simp only[bt] at h ⊢;split at h
  .exact asi h ha
  cases h
 |bstr x=>
  simp only[bt] at h ⊢;split at h
  .rename_i es q hq;split at h
   .rename_i bs hb;cases h;rw[KT hq ha (fun i hi=>by simp at hi)];simp only[hb]
   cases h
  cases h
 |lookup kd z ag ok x k=>
  simp only[bt] at h ⊢;split at h
  .rename_i es q key hm hk;split at h
   .cases h
   rename_i Am;split at h
   .rename_i f hf;split at h
    .rename_i w hw;cases h;rw[ana hm ha,hk];simp only;rw[if_neg Am];simp only[hf,hw]
    cases h
   cases h
  cases h
 |clear z x=>
  simp only[bt] at h ⊢;split at h
  .cases h;rfl
  .cases h;rfl
  .rename_i id g w off len e;split at h
   .rename_i h0;cases h;simp only[h0,if_true]
   rename_i h0;split at h
   .rename_i g' ty sz es h4;split at h
    .rename_i hc;cases h;have hb:=ha id af;rw[h4] at hb;rw[if_neg h0];simp only[hb];rw[if_pos hc]
    cases h
   cases h
  cases h
 |mupd kd ag m k v=>
  simp only[bt] at h ⊢;split at h
  .rename_i id g q cs h1 h2 h3;split at h
   .rename_i g' rl es ps h4 h5;split at h
    .rename_i hc;split at h
     .rename_i i w hf;cases h;have hb:=ha id af;rw[h4] at hb;simp only[hb,h5];rw[if_pos hc];simp only[hf]
     .rename_i hf;cases h;have hb:=ha id af;rw[h4] at hb;simp only[hb,h5];rw[if_pos hc];simp only[hf]
     cases h
    cases h
   cases h
  cases h
 |mlen x=>
  simp only[bt] at h ⊢;split at h
  .rename_i n q hq;cases h;rw[amz hq ha]
  cases h
 |append s ty sz bytes x y=>exact agz h ha
 |call s f as=>
  simp only[bt] at h
  (repeat' split at h)<;>cases h
 |_=>exact h
theorem aoO{sh:Nat->Bool}{e:Env}{b:aA}{p:lB}{f s:Nat}{vs:List V}{r:List Nat}(h:bt sh e b p=.pc f vs r s)(ha:iY r b b'):bt sh e b' p=.pc f vs r s:=by
 cases p with
 |call s f as=>
  simp only[bt] at h ⊢;split at h
  .split at h
   .cases h
   rename_i jk;rw[if_neg jk];split at h
   .rename_i hs;cases h;rw[aqO hs ha]
   cases h
  cases h
 |_=>
  (simp only[bt,zD,fQ,CO,reduceCtorEq] at h)<;>(repeat' split at h)<;>cases h
theorem aoQ{sh:Nat->Bool}{e:Env}{b:aA}{p:lB}{f:Nat}{vs:List V}(h:bt sh e b p=.sc f vs):bt sh e b' p=.sc f vs:=by
 cases p with
 |call s f as=>
  simp only[bt] at h ⊢;split at h
  .split at h
   .rename_i jk;rw[if_pos jk];exact h
   split at h<;>cases h
  cases h
 |_=>
  (simp only[bt,zD,fQ,CO,reduceCtorEq] at h)<;>(repeat' split at h)<;>cases h
theorem agx:∀(u:List eN) (b b':aA) (id:Nat),id∈u.map (·.1)->app u b id=app u b' id:=by
 intro u
 induction u with
 |nil=>intro b b' id h;simp at h
 |cons x u ih=>
  intro b b' id h;obtain⟨i,o⟩:=x;simp only[app];by_cases hu:id∈u.map (·.1)
  .exact ih _ _ _ hu
  have hi:id=i:=by simpa [hu] using h
  have key:∀(u:List eN) (b:aA),id∉u.map (·.1)->app u b id=b id:=by
   intro u
   induction u with
   |nil=>intro b _;rfl
   |cons x u ih=>intro b h;obtain⟨j,o⟩:=x;simp only[dS,cP,not_or] at h;simp only[app];rw[ih _ h.2,aN,if_neg h.1]
  rw[key u _ hu,key u _ hu,aN,aN,if_pos hi,if_pos hi]
theorem Rc:∀(u:List eN) (b:aA) (id:Nat),id∉u.map (·.1)->app u b id=b id:=by
 intro u
 induction u with
 |nil=>intro b id _;rfl
 |cons x u ih=>intro b id h;obtain⟨j,o⟩:=x;simp only[dS,cP,not_or] at h;simp only[app];rw[ih _ _ h.2,aN,if_neg h.1]
theorem asd{e e':Env}{g:Option (Nat×Bool)}(h:∀t w,g=some (t,w)->e' t=e t):wanted e' g=wanted e g:=by
 cases g with
 |none=>rfl
 |some q=>obtain⟨t,w⟩:=q;simp only[wanted,h t w rfl]
def bR.writes(f:bR)(id:Nat):Bool:=f.wr.contains id||f.fs.contains (jo id)
def bR.tW(f:bR)(id:Nat):Bool:=f.rd.contains id||f.writes id
theorem aep{b:aA}:∀(n:Nat) (c:C),iY (jX b n c) b b'->jX b' n c=jX b n c:=by
 intro n
 induction n with
 |zero=>intro c _;rfl
 |succ n ih=>
  have many:∀(cs:List C),iY (cs.map (jX b n)).flatten b b'->(cs.map (jX b' n)).flatten=(cs.map (jX b n)).flatten:=by
   intro cs
   induction cs with
   |nil=>intro _;rfl
   |cons c cs ihc=>intro h;simp only[dS,l8] at h ⊢;rw[ih c h.left,ihc h.right]
  intro c h;cases c with
  |p v=>rfl
  |aY id g off=>
   simp only[jX] at h ⊢;have hb:=h id af;rw[hb];split
   .rename_i cs Lw;rw[Lw] at h;rw[many cs (fun i hi=>h i (by simp only[cP];exact .inr hi))]
   rfl
  |dC id g i off=>
   simp only[jX] at h ⊢;have hb:=h id af;rw[hb];split
   .rename_i cs Lw;rw[Lw] at h;rw[many _ (fun i hi=>h i (by simp only[cP];exact .inr hi))]
   rfl
  |hsl id g z off len=>
   simp only[jX] at h ⊢;have hb:=h id af;rw[hb];split
   .rename_i cs Lw;rw[Lw] at h;rw[many _ (fun i hi=>h i (by simp only[cP];exact .inr hi))]
   rfl
  |j8 id g=>rfl
  |hfn f x y=>simp only[jX] at h ⊢;rw[many x h.left,many y h.right]
theorem ape{b:aA}(v:V)(h:iY (jm b v) b b'):jm b' v=jm b v:=by
 cases v with
 |undef=>rfl
 |tup _=>rfl
 |one c=>exact aep _ _ h
 |agg cs=>
  simp only[jm] at h ⊢
  induction cs with
  |nil=>rfl
  |cons c cs ih=>simp only[dS,l8] at h ⊢;rw[aep _ c h.left,ih h.right]
theorem agr{f:Nat}{vs:List V}{b:aA}(h:iY (allow sh f vs b).ids b b'):allow sh f vs b'=allow sh f vs b:=by
 have:(vs.map (jm b')).flatten=(vs.map (jm b)).flatten:=by
  unfold allow at h;simp only at h
  induction vs with
  |nil=>rfl
  |cons v vs ih=>simp only[dS,l8] at h ⊢;rw[ape v h.left,ih h.right]
 unfold allow;rw[this]
def zJ(cs:jN):Prop:=∀f vs al aj v ao,cs f vs al aj=some (v,ao)->(∀id,al.ok id=false->ao id=aj id)/\
 ∀bh,(∀id,al.ok id=true->bh id=aj id)->∃nO,cs f vs al bh=some (v,nO)/\ ∀id,nO id=if al.ok id then ao id else bh id
theorem PE{al:Al}{l:List Nat}(h:al.fD l=true){id:Nat}(hid:id∈l):al.ok id=true:=ko.1 h id hid
theorem alg{a b:Al}(hb:b.any=false)(h:a.holds b=true){id:Nat}(hid:b.ok id=true):a.ok id=true:=by
 unfold Al.holds at h;simp only[Br,cX] at h;rcases h with h|⟨h1,h2⟩
 .simp[Al.ok,h]
 simp only[Al.ok,hb,Da,Br] at hid;rcases hid with hid|hid
 .exact PE h1 (by simpa using hid)
 have:=ko.1 h2 (jo id) (by simpa using hid);simp only[Al.ok,Br];exact .inr this
theorem Wj(de:zJ cs){o:aO}{aC:Env}{aj ao:aA}{f:bR}(h:step1 sh cp cs o ak aj=some (aC,ao,f)):
  ∃v,aC=put ak o.dst v/\(∀id,f.writes id=false->ao id=aj id)/\(∀id,f.tW id=true->sh.al.ok id=true)/\
   ∀(cT:Env) (bh:aA),r8 o.GR ak cT->(∀id,f.tW id=true->bh id=aj id)->
    ∃nO,step1 sh cp cs o cT bh=some (put cT o.dst v,nO,f)/\ ∀id,nO id=if f.writes id then ao id else bh id:=by
 have Gi:∀(cT:Env),r8 o.GR ak cT->r8 o.op.tmps ak cT/\wanted cT o.guard=wanted ak o.guard:=by intro cT h;unfold aO.GR at h;exact⟨h.left,asd fun t w hg=>h.right t (by rw[hg];simp)⟩
 have hwr:∀(r w:List Nat) (id:Nat),(⟨r,w,[]⟩:bR).writes id=w.contains id:=by intro r w id;simp[bR.writes]
 have Er:∀(r w:List Nat) (id:Nat),(⟨r,w,[]⟩:bR).tW id=true↔id∈r\/id∈w:=by intro r w id;simp[bR.tW,bR.writes]
 have abq:∀(u:List eN) (b b2:aA) (r:List Nat) (id:Nat),app u b2 id=if (⟨r,u.map (·.1),[]⟩:bR).writes id then app u b id else b2 id:=by
  intro u b b2 r id;rw[hwr];by_cases hid:id∈u.map (·.1)
  .rw[if_pos (by simpa using hid)];exact agx _ _ _ _ hid
  rw[if_neg (by simpa using hid)];exact Rc _ _ _ hid
 unfold step1 at h;split at h
 .cases h
 .rename_i hw;cases h;refine⟨.undef,rfl,fun _ _=>rfl,fun id hid=>by simp[bR.tW,bR.writes] at hid,fun cT bh he hb=>⟨bh,?_,fun id=>by simp[bR.writes]⟩⟩;unfold step1;rw[(Gi cT he).2,hw]
 rename_i hw;split at h
 .cases h
 .rename_i v u r hp;split at h
  .rename_i au;cases h;refine⟨v,rfl,fun id hid=>Rc _ _ _ (by rw[hwr] at hid;simpa using hid),fun id hid=>PE au (by have:=(Er _ _ _).1 hid;simpa using this),fun cT bh he hb=>⟨app u bh,?_,fun id=>abq _ _ _ _ _⟩⟩;unfold step1;rw[(Gi cT he).2,hw];simp only;rw[VT (Gi cT he).1,aoy hp fun id hid=>hb id ((Er _ _ _).2 (.inl hid))];simp only;rw[if_pos au]
  cases h
 .rename_i g vs r s hp;split at h
  .rename_i x hx;split at h
   .rename_i v u hl;split at h
    .rename_i au;cases h;refine⟨v,rfl,fun id hid=>Rc _ _ _ (by rw[hwr] at hid;simpa using hid),fun id hid=>PE au (by have:=(Er _ _ _).1 hid;simp at this ⊢;rcases this with h|h<;>simp[h]),fun cT bh he hb=>⟨app u bh,?_,fun id=>abq _ _ _ _ _⟩⟩;unfold step1;rw[(Gi cT he).2,hw];simp only;rw[VT (Gi cT he).1,aoO hp fun id hid=>hb id ((Er _ _ _).2 (.inl (by simp[hid])))];simp only[hx];rw[amk hl (fun id hid=>hb id ((Er _ _ _).2 (.inl (by simp[hid])))) fun id hid=>hb id ((Er _ _ _).2 (.inr hid))];simp only;rw[if_pos au]
    cases h
   cases h
  cases h
 rename_i g vs hp;split at h
 .rename_i au;split at h
  .rename_i v b1 hx;cases h;have gZ:∀id,(⟨(allow sh g vs aj).ids,(allow sh g vs aj).ids,(allow sh g vs aj).fs⟩:bR).writes id=(allow sh g vs aj).ok id:=by
    intro id;simp[bR.writes,Al.ok,allow]
   have Uv:∀id,(⟨(allow sh g vs aj).ids,(allow sh g vs aj).ids,(allow sh g vs aj).fs⟩:bR).tW id=(allow sh g vs aj).ok id:=by intro id;simp only[bR.tW,gZ];simp only[Al.ok];cases (allow sh g vs aj).ids.contains id<;>simp
   obtain⟨l1,l2⟩:=de _ _ _ _ _ _ hx;refine⟨v,rfl,fun id hid=>l1 id (by rw[<- gZ];exact hid),fun id hid=>alg rfl au (by rw[<- Uv];exact hid),fun cT bh he hb=>?_⟩;obtain⟨nO,g1,g2⟩:=l2 bh fun id hid=>hb id (by rw[Uv];exact hid);have akT:allow sh g vs bh=allow sh g vs aj:=agr fun id hid=>hb id (by rw[Uv];simp[Al.ok,hid]);refine⟨nO,?_,fun id=>by rw[gZ];exact g2 id⟩;unfold step1;rw[(Gi cT he).2,hw];simp only;rw[VT (Gi cT he).1,aoQ hp];simp only[akT];rw[if_pos au];simp only[g1]
  cases h
 cases h
theorem ao5(ak:Env){d d':Option Nat}(v v':V)(h:∀t,d=some t->d'≠some t):put (put ak d v) d' v'=put (put ak d' v') d v:=by
 cases d with
 |none=>rfl
 |some t=>
  cases d' with
  |none=>rfl
  |some t'=>
   have aH:t'≠t:=fun e=>h t rfl (by rw[e]);funext x;simp only[put,aN];by_cases h1:x=t
   .subst h1;rw[if_pos rfl,if_neg (fun e=>aH e.symm),if_pos rfl]
   rw[if_neg h1,if_neg h1]
theorem aei{d:Option Nat}{v:V}{t:Nat}(h:d≠some t):put ak d v t=ak t:=by
 cases d with
 |none=>rfl
 |some x=>simp only[put,aN];rw[if_neg (fun e=>h (by rw[e]))]
theorem Pu{a b:List Nat}(h:meets a b=false){i:Nat}(ha:i∈a):i∉b:=by
 intro hb;have:meets a b=true:=by simp only[meets,List.any_eq_true];exact⟨i,ha,by simpa using hb⟩
 rw[h] at this;cases this
theorem Vb{fs ids:List Nat}(h:Gm fs ids=false){i:Nat}(hi:i∈ids):jo i∉fs:=by
 intro hf;have:Gm fs ids=true:=by simp only[Gm,List.any_eq_true];exact⟨i,hi,by simpa using hf⟩
 rw[h] at this;cases this
theorem ahQ{a b:bR}(h:Fv a b=false)(id:Nat):(a.writes id=true->b.tW id=false)/\(b.writes id=true->a.tW id=false):=by
 simp only[Fv,QL] at h;obtain⟨⟨⟨⟨⟨c1,c2⟩,c3⟩,c4⟩,c5⟩,c6⟩:=h;have sw:∀ {x y:List Nat},meets x y=false->meets y x=false:=by
  intro x y h;cases he:meets y x with
  |false=>rfl
  |true=>simp only[meets,List.any_eq_true] at he;obtain⟨i,h1,h2⟩:=he;exact absurd h1 (Pu h (by simpa using h2))
 have one:∀ {a b:bR},meets a.wr b.rd=false->meets a.wr b.wr=false->meets a.fs b.fs=false->Gm a.fs (b.rd++b.wr)=false->Gm b.fs (a.rd++a.wr)=false->a.writes id=true->b.tW id=false:=by
  intro a b c1 c2 c4 c5 c6 hw;simp only[bR.writes,Br] at hw;simp only[bR.tW,bR.writes,QL];rcases hw with hw|hw
  .have hw:id∈a.wr:=by simpa using hw
   exact⟨by simpa using Pu c1 hw,by simpa using Pu c2 hw,by simpa using Vb c6 (i:=id) (by simp[hw])⟩
  have hw:jo id∈a.fs:=by simpa using hw
  refine⟨?_,?_,?_⟩
  .cases he:b.rd.contains id with
   |false=>rfl
   |true=>exact absurd hw (Vb c5 (i:=id) (by simp at he;simp[he]))
  .cases he:b.wr.contains id with
   |false=>rfl
   |true=>exact absurd hw (Vb c5 (i:=id) (by simp at he;simp[he]))
  simpa using Pu c4 hw
 exact⟨one c1 c2 c4 c5 c6,one (sw c3) (sw c2) (sw c4) c6 c5⟩
theorem swap{sh:Ctx}{cp:fO}{cs:jN}(de:zJ cs){x y:aO}{ak iA cT:Env}{aj bK bh:aA}{e1 e2:bR}(hx:step1 sh cp cs x ak aj=some (iA,bK,e1))(hy:step1 sh cp cs y iA bK=some (cT,bh,e2))
  (hf:FH x y=true) (hc:Fv e1 e2=false):∃envy blky,step1 sh cp cs y ak aj=some (envy,blky,e2)/\step1 sh cp cs x envy blky=some (cT,bh,e1):=by
 obtain⟨v1,rfl,Ic,_,amT⟩:=Wj de hx;obtain⟨v2,rfl,zY,_,amU⟩:=Wj de hy;have Iy:∀t,x.dst=some t->t∉y.GR/\y.dst≠some t:=by intro t ht;simp only[FH,ht,cX] at hf;have h1:=hf.1;simp at h1;exact⟨by simpa using h1.1,h1.2⟩
 have xD:∀t,y.dst=some t->t∉x.GR:=by
  intro t ht;simp only[FH,ht,cX] at hf;have h1:=hf.2
  simpa using h1
 have cq:=ahQ hc;have nw:∀ {a b:bR} {id:Nat},(a.writes id=true->b.tW id=false)->b.tW id=true->a.writes id=false:=by
  intro a b id h1 h2;cases h:a.writes id with
  |false=>rfl
  |true=>rw[h1 h] at h2;cases h2
 have wt:∀ {a:bR} {id:Nat},a.writes id=true->a.tW id=true:=by intro a id h;simp[bR.tW,h]
 obtain⟨blky,hy2,yb⟩:=amU ak aj (fun t ht=>(aei fun e=>(Iy t e).1 ht).symm) (fun id hid=>(Ic id (nw (cq id).1 hid)).symm);obtain⟨blkx,zg,xb⟩:=amT (put ak y.dst v2) blky (fun t ht=>aei fun e=>xD t e ht) (fun id hid=>by rw[yb id,nw (cq id).2 hid];rfl)
 refine⟨_,blky,hy2,?_⟩;rw[zg,ao5 ak v1 v2 fun t ht=>(Iy t ht).2];have:blkx=bh:=by
  funext id;rw[xb id,yb id];cases h1:e1.writes id with
  |true=>have h2:e2.writes id=false:=nw (cq id).2 (wt h1);exact(zY id h2).symm
  |false=>
   cases h2:e2.writes id with
   |true=>rfl
   |false=>simp only[dL,if_false];rw[zY id h2,Ic id h1]
 rw[this]
structure It where
 i:Nat
 io:aO
 e:bR
def NI(x y:It):Prop:=FH x.io y.io=true/\Fv x.e y.e=false
theorem afi{o:aO}{r:List aO}{aC:Env}{aj ao:aA}{e:bR}{es:List bR}(h:steps sh cp cs (o::r) ak aj=some (aC,ao,e::es)):
  ∃iA bK,step1 sh cp cs o ak aj=some (iA,bK,e)/\steps sh cp cs r iA bK=some (aC,ao,es):=by
 simp only[steps] at h;split at h
 .rename_i iA bK e1 h1;split at h
  .rename_i cT bh es2 h2;cases h;exact⟨iA,bK,h1,h2⟩
  cases h
 cases h
theorem ark{o:aO}{r:List aO}{iA aC:Env}{aj bK ao:aA}{e:bR}{es:List bR}(h1:step1 sh cp cs o ak aj=some (iA,bK,e))(h2:steps sh cp cs r iA bK=some (aC,ao,es)):
  steps sh cp cs (o::r) ak aj=some (aC,ao,e::es):=by
 simp only[steps,h1,h2]
theorem arG(de:zJ cs){y:It}{l2:List It}:∀ {l1:List It} {ak aC:Env} {aj ao:aA},steps sh cp cs ((l1++y::l2).map (·.io)) ak aj=some (aC,ao,(l1++y::l2).map (·.e))->(∀x∈l1,NI x y)->
  ∃iA bK,step1 sh cp cs y.io ak aj=some (iA,bK,y.e)/\steps sh cp cs ((l1++l2).map (·.io)) iA bK=some (aC,ao,(l1++l2).map (·.e)):=by
 intro l1
 induction l1 with
 |nil=>intro ak aC aj ao h _;exact afi h
 |cons x l1 ih=>intro ak aC aj ao h oU;obtain⟨envx,blkx,h1,h2⟩:=afi h;obtain⟨envy,blky,h3,h4⟩:=ih h2 fun z hz=>oU z (by simp[hz]);obtain⟨en1,bl1,h5,h6⟩:=swap de h1 h3 (oU x af).1 (oU x af).2;exact⟨en1,bl1,h5,ark h6 h4⟩
def Dk(al:Al)(b b2:aA):Prop:=∀id,al.ok id=true->b2 id=b id
def uP(al:Al)(b' b2 Fq:aA):Prop:=∀id,Fq id=if al.ok id then b' id else b2 id
def Frame(al:Al)(b b':aA):Prop:=∀id,al.ok id=false->b' id=b id
theorem uP.agree{al:Al}{b2 Fq:aA}(h:uP al b' b2 Fq):Dk al b' Fq:=fun id hid=>by rw[h id,hid];rfl
theorem uP.trans{al:Al}{b2 Fq b'' Xq:aA}(h:uP al b' b2 Fq)(k:uP al b'' Fq Xq):uP al b'' b2 Xq:=fun id=>by rw[k id,h id];cases al.ok id<;>rfl
theorem uP.refl{al:Al}{b b2:aA}(h:Dk al b b2):uP al b b2 b2:=fun id=>by
 cases hid:al.ok id with
 |true=>exact h id hid
 |false=>rfl
theorem Frame.trans{al:Al}{b b'':aA}(h:Frame al b b')(k:Frame al b' b''):Frame al b b'':=fun id hid=>(k id hid).trans (h id hid)
section
variable {sh:Ctx} {cp:fO} {cs:jN} (de:zJ cs)
include de
theorem arh:∀ {ops:List aO} {ak aC:Env} {aj ao:aA} {es:List bR},steps sh cp cs ops ak aj=some (aC,ao,es)->Frame sh.al aj ao/\
  ∀bh,Dk sh.al aj bh->∃nO,steps sh cp cs ops ak bh=some (aC,nO,es)/\uP sh.al ao bh nO:=by
 intro ops
 induction ops with
 |nil=>intro ak aC aj ao es h;simp only[steps,fI,kB] at h;obtain⟨rfl,rfl,rfl⟩:=h;exact⟨fun _ _=>rfl,fun bh ha=>⟨bh,rfl,.refl ha⟩⟩
 |cons o ops ih=>
  intro ak aC aj ao es h;simp only[steps] at h;split at h
  .rename_i iA bK e h1;split at h
   .rename_i cT bh lE h2;cases h;obtain⟨v,rfl,fr,tw,loc⟩:=Wj de h1;obtain⟨f2,g2⟩:=ih h2;have hw:∀id,sh.al.ok id=false->e.writes id=false:=by
     intro id hid;cases hh:e.writes id with
     |false=>rfl
     |true=>have:=tw id (by simp[bR.tW,hh]);rw[hid] at this;cases this
    refine⟨Frame.trans (fun id hid=>fr id (hw id hid)) f2,fun b2 ha=>?_⟩;obtain⟨b1,s1,m1⟩:=loc ak b2 (fun _ _=>rfl) (fun id hid=>ha id (tw id hid));have qM:uP sh.al bK b2 b1:=by
     intro id;rw[m1 id];cases hid:sh.al.ok id with
     |true=>
      cases hh:e.writes id with
      |true=>rfl
      |false=>simp only[dL,if_false,if_true];rw[ha id hid,fr id hh]
     |false=>rw[hw id hid]
    obtain⟨b3,s2,m2⟩:=g2 b1 qM.agree;exact⟨b3,by simp only[steps,s1,s2],qM.trans m2⟩
   cases h
  cases h
theorem al5{c:Env->aA->Option (lS×Env×aA)}(hc:∀ {ak aC aj ao e},c ak aj=some (e,aC,ao)->Frame sh.al aj ao/\ ∀bh,Dk sh.al aj bh->∃nO,c ak bh=some (e,aC,nO)/\uP sh.al ao bh nO):
  ∀(k:Nat) {ak aC:Env} {aj ao:aA} {e:lS},iter c k ak aj=some (e,aC,ao)->Frame sh.al aj ao/\ ∀bh,Dk sh.al aj bh->∃nO,iter c k ak bh=some (e,aC,nO)/\uP sh.al ao bh nO:=by
 have _u0:=de;intro k
 induction k with
 |zero=>intro ak aC aj ao e h;simp[iter] at h
 |succ k ih=>
  intro ak aC aj ao e h;simp only[iter] at h;split at h
  .rename_i iA bK h1;obtain⟨f1,g1⟩:=hc h1;obtain⟨f2,g2⟩:=ih h;refine⟨f1.trans f2,fun b2 ha=>?_⟩;obtain⟨b1,s1,m1⟩:=g1 b2 ha;obtain⟨b3,s2,m2⟩:=g2 b1 m1.agree;exact⟨b3,by simp only[iter,s1,s2],m1.trans m2⟩
  rename_i aH;obtain⟨f1,g1⟩:=hc h;refine⟨f1,fun b2 ha=>?_⟩;obtain⟨b1,s1,m1⟩:=g1 b2 ha;refine⟨b1,?_,m1⟩;cases e with
  |normal=>exact(aH _ _ h).elim
  |exit i=>simp only[iter,s1]
  |ret=>simp only[iter,s1]
theorem YP{n:Nat}:∀(c:aK) {ak aC:Env} {aj ao:aA} {e:lS},exec sh cp cs n c ak aj=some (e,aC,ao)->Frame sh.al aj ao/\
  ∀bh,Dk sh.al aj bh->∃nO,exec sh cp cs n c ak bh=some (e,aC,nO)/\uP sh.al ao bh nO:=by
 intro c
 induction c with
 |skip=>intro ak aC aj ao e h;simp only[exec,fI,kB] at h;obtain⟨rfl,rfl,rfl⟩:=h;exact⟨fun _ _=>rfl,fun b2 ha=>⟨b2,rfl,.refl ha⟩⟩
 |exit id=>intro ak aC aj ao e h;simp only[exec,fI,kB] at h;obtain⟨rfl,rfl,rfl⟩:=h;exact⟨fun _ _=>rfl,fun b2 ha=>⟨b2,rfl,.refl ha⟩⟩
 |ret=>intro ak aC aj ao e h;simp only[exec,fI,kB] at h;obtain⟨rfl,rfl,rfl⟩:=h;exact⟨fun _ _=>rfl,fun b2 ha=>⟨b2,rfl,.refl ha⟩⟩
 |bad=>intro ak aC aj ao e h;simp[exec] at h
 |region d ops=>
  intro ak aC aj ao e h;simp only[exec] at h;split at h
  .rename_i iA bK es h1;obtain⟨f1,g1⟩:=arh de h1;have he:(e,aC,ao)=(lS.normal,iA,bK)/\(d=true->sT ops [] es=true):=by
    cases d with
    |false=>simp at h;exact⟨by simp[h],fun h=>by cases h⟩
    |true=>
     simp only[if_true] at h;split at h
     .rename_i hd;cases h;exact⟨rfl,fun _=>hd⟩
     cases h
   obtain⟨he,hd⟩:=he;cases he;refine⟨f1,fun b2 ha=>?_⟩;obtain⟨b1,s1,m1⟩:=g1 b2 ha;refine⟨b1,?_,m1⟩;simp only[exec,s1];cases d with
   |false=>simp
   |true=>simp[hd rfl]
  cases h
 |seq a b iha ihb=>
  intro ak aC aj ao e h;simp only[exec] at h;split at h
  .rename_i iA bK h1;obtain⟨f1,g1⟩:=iha h1;obtain⟨f2,g2⟩:=ihb h;refine⟨f1.trans f2,fun b2 ha=>?_⟩;obtain⟨b1,s1,m1⟩:=g1 b2 ha;obtain⟨b3,s2,m2⟩:=g2 b1 m1.agree;exact⟨b3,by simp only[exec,s1,s2],m1.trans m2⟩
  rename_i aH;obtain⟨f1,g1⟩:=iha h;refine⟨f1,fun b2 ha=>?_⟩;obtain⟨b1,s1,m1⟩:=g1 b2 ha;refine⟨b1,?_,m1⟩;cases e with
  |normal=>exact(aH _ _ h).elim
  |exit i=>simp only[exec,s1]
  |ret=>simp only[exec,s1]
 |cond x a b iha ihb=>
  intro ak aC aj ao e h;simp only[exec] at h ⊢;split at h
  .rename_i t ht;cases t with
   |true=>exact iha h
   |false=>exact ihb h
  cases h
 |block id c ih=>
  intro ak aC aj ao e h;simp only[exec] at h;split at h
  .rename_i i iA bK h1;obtain⟨f1,g1⟩:=ih h1;have hb:ao=bK:=by split at h<;>cases h<;>rfl
   subst hb;refine⟨f1,fun b2 ha=>?_⟩;obtain⟨b1,s1,m1⟩:=g1 b2 ha;refine⟨b1,?_,m1⟩;simp only[exec,s1];split at h
   .rename_i hi;cases h;rw[if_pos hi]
   rename_i hi;cases h;rw[if_neg hi]
  rename_i aH;obtain⟨f1,g1⟩:=ih h;refine⟨f1,fun b2 ha=>?_⟩;obtain⟨b1,s1,m1⟩:=g1 b2 ha;refine⟨b1,?_,m1⟩;cases e with
  |normal=>simp only[exec,s1]
  |exit i=>exact(aH _ _ _ h).elim
  |ret=>simp only[exec,s1]
 |loop c ih=>intro ak aC aj ao e h;simp only[exec] at h ⊢;exact al5 de (fun h=>ih h) n h
end
theorem aev{al:Al}{aj bh:aA}(ha:Dk al aj bh):∀ {rs:List (Nat×Option (Option Nat))} {vs:List V},oE al ak aj rs=some vs->oE al ak bh rs=some vs:=by
 intro rs
 induction rs with
 |nil=>intro vs h;exact h
 |cons r rs ih=>
  obtain⟨t,k⟩:=r;cases k with
  |none=>
   intro vs h;simp only[oE] at h ⊢;split at h
   .rename_i v q h1 h2;cases h;simp only[h1,ih h2]
   cases h
  |some k=>
   intro vs h;simp only[oE] at h ⊢;split at h
   .rename_i cs rd q h1 h2;split at h
    .rename_i au;rw[aem h1 (fun id hid=>ha id (PE au hid)),ih h2];simp only[au,if_true];exact h
    cases h
   cases h
theorem apJ(de:zJ cs){n:Nat}{fn:aX}{args:List V}{aj ao:aA}{v:V}(h:qU sh cp cs n fn args aj=some (v,ao)):Frame sh.al aj ao/\
  ∀bh,Dk sh.al aj bh->∃nO,qU sh cp cs n fn args bh=some (v,nO)/\uP sh.al ao bh nO:=by
 unfold qU at h;split at h
 .rename_i ak b hx;simp only[dI] at h;obtain⟨vs,h1,h2⟩:=h;cases h2;obtain⟨f1,g1⟩:=YP de _ hx;refine⟨f1,fun b2 ha=>?_⟩;obtain⟨b3,s1,m1⟩:=g1 b2 ha;exact⟨b3,by unfold qU;rw[s1];simp only[aev m1.agree h1,ng],m1⟩
 .rename_i ak b hx;simp only[dI] at h;obtain⟨vs,h1,h2⟩:=h;cases h2;obtain⟨f1,g1⟩:=YP de _ hx;refine⟨f1,fun b2 ha=>?_⟩;obtain⟨b3,s1,m1⟩:=g1 b2 ha;exact⟨b3,by unfold qU;rw[s1];simp only[aev m1.agree h1,ng],m1⟩
 cases h
end
end Go.Abs
namespace Go.Abs
variable {P:Program} {w0:World}
def r7(w:World)(O:Nat->Prop):V->Value->Prop
 | .one (.p x),v=>bY w O x v
 | .agg cs,v=>∃arr ps,v=.agg arr/\cs=ps.map .p/\dk w O ps arr.toList
 |_,_=>False
def Enters(P:Program)(f:Nat):Prop:= ∃fn c,P.funcs[f]?=some fn/\fn.body=some c/\(fn.name== "runtime.NumGoroutine")=false
def NB(w:World)(Q:Nat->Prop)(r:RV)(val:Value)(bs:List Nat):Prop:= ∃vs,Fe r val vs/\rh w Q (gG r) vs bs
def uQ(w:World)(O:Nat->Prop)(r:RV):Ending->World->Prop:=fun e w'=>∃val bs,e=.returned val/\fR w w'/\bs.Nodup/\(∀c∈bs,w.heap.size<=c/\c<w'.heap.size)/\NB w' (fun c=>O c\/c∈bs) r val bs
def Good(G:World->Prop)(w:World):Prop:=G w/\ ∀w w',fR w w'->G w->G w'
theorem Ok.aaI{m:Mem}(h:Ok w0 m):fR w0 m.w:=⟨h.os,h.tape,h.output,h.size,h.base⟩
theorem rh.pure{w:World}{Q Q':Nat->Prop}(h:∀b,Q' b->Q b):∀ {rs:List RC} {vs:List Value} {bs:List Nat},(∀c∈bs,¬Q' c)->rh w Q rs vs bs->rh w Q' (rs.map RC.pure) vs []:=by
 intro rs
 induction rs with
 |nil=>intro vs bs _ hr;exact⟨hr.1,rfl⟩
 |cons r rs ih=>
  intro vs bs hb hr;have less:∀ {x:PV} {v:Value},bY w Q x v->bY w Q' x v:=fun hp=>hp.mono fun c _ hn=>⟨rfl,fun hq=>hn (h c hq)⟩;cases r with
  |p x=>obtain⟨v,mV,rfl,h1,h2⟩:=hr;exact⟨v,mV,rfl,less h1,ih hb h2⟩
  |own ty sz es=>
   obtain⟨v,mV,c,BM,rfl,rfl,⟨cap,cur,e1,e2,e3,e4,e5,e6,e7,e8⟩,h2⟩:=hr;refine⟨v,mV,rfl,?_,ih (fun c hc=>hb c (by simp[hc])) h2⟩;subst e1;refine bY.sl c 0 cap sz (fun j=>cur.toList.getD j undef) (fun _=>hb c af) e5 e6 e4 (fun j x hx=>?_) (fun j x hx=>?_)
   .have hj:j<(cur.toList.take (es.length*sz)).length:=by rw[e8.1];exact(aW.1 hx).1
    have mM:j<cur.size:=by simp at hj;omega
    rw[World.cell?];simp[e2,mM,List.getD,kU]
   have hj:j<(cur.toList.take (es.length*sz)).length:=by rw[e8.1];exact(aW.1 hx).1
   have mM:j<cur.size:=by simp at hj;omega
   refine less (e8.2 j x _ hx ?_);rw[List.getElem?_take_of_lt (by simp at hj;omega)];simp[mM,List.getD]
theorem wV.pure{r:RV}{v:Value}{vs:List Value}(h:wV r v vs):wV r.GJ v vs/\ik r.GJ=(ik r).map RC.pure:=by
 cases r with
 |one c=>exact⟨h,rfl⟩
 |agg cs=>exact⟨⟨h.1,by simpa [RV.GJ] using h.2⟩,rfl⟩
 |tup _=>exact h.elim
theorem Dl.pure:∀ {rs:List RV} {us vs:List Value},Dl rs us vs->Dl (rs.map RV.GJ) us vs/\mf (rs.map RV.GJ)=(mf rs).map RC.pure:=by
 intro rs
 induction rs with
 |nil=>intro us vs h;exact⟨h,rfl⟩
 |cons r rs ih=>
  rintro us vs ⟨u,Nk,a,b,rfl,rfl,h1,h2⟩
  obtain⟨p1,p2⟩:=h1.pure;obtain⟨q1,q2⟩:=ih h2;exact⟨⟨u,Nk,a,b,rfl,rfl,p1,q1⟩,by simp[mf,p2,q2]⟩
theorem Fe.pure{r:RV}{v:Value}{vs:List Value}(h:Fe r v vs):Fe r.pure v vs/\gG r.pure=(gG r).map RC.pure:=by
 cases r with
 |one c=>exact wV.pure (r:=.one c) h
 |agg cs=>exact wV.pure (r:=.agg cs) h
 |tup rs=>obtain⟨arr,rfl,h2⟩:=h;obtain⟨q1,q2⟩:=h2.pure;exact⟨⟨arr,rfl,q1⟩,q2⟩
theorem uQ.gK{w w':World}{O:Nat->Prop}{r:RV}{e:Ending}(b:Bool)(hO:∀c,O c->c<w.heap.size)(h:uQ w O r e w'):uQ w O (r.gK b) e w':=by
 cases b with
 |false=>exact h
 |true=>
  obtain⟨val,bs,rfl,hg,iR,mK,vs,h1,h2⟩:=h;obtain⟨p1,p2⟩:=h1.pure;refine⟨val,[],rfl,hg,wS,fun c hc=>by simp at hc,vs,p1,?_⟩;simp only[RV.gK];rw[p2];refine rh.pure (fun b hb=>?_) (fun c hc hn=>?_) h2
  .rcases hb with hb|hb
   .exact .inl hb
   simp at hb
  rcases hn with hn|hn
  .have:=hO c hn;have:=(mK c hc).1;omega
  simp at hn
def Dp(P:Program)(G:World->Prop)(cp:fO):Prop:=∀f vs r,cp f vs=some r->Enters P f/\ ∀(w:World) (O:Nat->Prop) (args:Array Value),Good G w->(∀c,O c->c<w.heap.size)->Pw (r7 w O) vs args.toList->Calls P f args w (uQ w O r)
def Kk(w0:World)(m:Mem)(v:V)(ao:aA):Ending->World->Prop:=fun e w'=>∃val m',e=.returned val/\m'.w=w'/\Ok w0 m'/\Ev m m'/\m'.fr=m.fr/\m'.aj=ao/\bQ m' v val
def Fi(P:Program)(G:World->Prop)(cs:jN):Prop:=∀f vs al aj v ao,cs f vs al aj=some (v,ao)->Enters P f/\ ∀(w0:World) (m:Mem) (args:Array Value),Good G w0->Ok w0 m->m.aj=aj->Pw (bQ m) vs args.toList->Calls P f args m.w (Kk w0 m v ao)
theorem aqN{m:Mem}(au:Ok w0 m){O:Nat->Prop}{x y:V}{r:List Nat}{v:Value}(h:nI m.aj x=some (y,r))(hr:bQ m x v)(hs:pQ m O r):r7 m.w O y v:=by
 cases x with
 |undef=>simp[nI] at h
 |tup vs=>simp[nI] at h
 |one c=>simp only[nI,dI] at h;obtain⟨⟨p,r'⟩,h1,h2⟩:=h;cases h2;exact JD au fH h1 hr hs
 |agg cs=>simp only[nI,dI] at h;obtain⟨⟨ps,r'⟩,h1,h2⟩:=h;cases h2;obtain⟨arr,rfl,hc⟩:=bQ.agg.1 hr;refine⟨arr,ps,rfl,rfl,?_⟩;exact HE (R:=cS m) (T:=bY m.w O) (fm:=pQ m O) (fun _ _=>pQ.app) (fun _ _ _ _ h1 h2 h3=>JD au fH h1 h2 h3) h1 hs hc
theorem ae8{m:Mem}(au:Ok w0 m){O:Nat->Prop}{xs ys:List V}{r:List Nat}{vs:List Value}(h:Bf m.aj xs=some (ys,r))(hr:Pw (bQ m) xs vs)(hs:pQ m O r):Pw (r7 m.w O) ys vs:=HE (R:=bQ m) (T:=r7 m.w O) (fm:=pQ m O) (fun _ _=>pQ.app) (fun _ _ _ _ h1 h2 h3=>aqN au h1 h2 h3) h hs hr
theorem adV{m:Mem}(au:Ok w0 m){c:Nat}(h:m.own c):c<m.w.heap.size:=by
 rcases h with h|⟨id,o,ho,_,rfl⟩
 .exact au.frlt c h
 exact(au.obj id o ho).lt
theorem aeL{w:World}{Q Q':Nat->Prop}{x:PV}{v:Value}(hs:x.scalar=true)(h:bY w Q x v):bY w Q' x v:=by
 cases h<;>first
  |(simp[PV.scalar] at hs;done)
  |constructor
theorem ags{w:World}{Q Q':Nat->Prop}:∀ {rs:List RC} {vs:List Value} {bs:List Nat},rs.all RC.alone=true->rh w Q rs vs bs->rh w Q' rs vs bs:=by
 intro rs
 induction rs with
 |nil=>intro vs bs _ h;exact h
 |cons r rs ih=>
  intro vs bs ha h;simp only[mB,cX] at ha;cases r with
  |p x=>obtain⟨v,mV,rfl,h1,h2⟩:=h;exact⟨v,mV,rfl,aeL ha.1 h1,ih ha.2 h2⟩
  |own ty sz es=>obtain⟨v,mV,c,BM,rfl,rfl,⟨cap,cur,e1,e2,e3,e4,e5,e6,e7,e8⟩,h2⟩:=h;refine⟨v,mV,c,BM,rfl,rfl,⟨cap,cur,e1,e2,e3,e4,e5,e6,e7,e8.1,fun j x u a b=>?_⟩,ih ha.2 h2⟩;refine aeL ?_ (e8.2 j x u a b);have hx:=aU a;obtain⟨e,he,hxe⟩:=Hd.1 hx;have h1:=ha.1;simp only[RC.alone] at h1;exact ko.1 (ko.1 h1 e he) x hxe
theorem acA{m:Mem}{w':World}{x:RV}{val:Value}{bs:List Nat}{site:Nat}(au:Ok w0 m)(hg:fR m.w w')(iR:bs.Nodup)(mK:∀c∈bs,m.w.heap.size<=c/\c<w'.heap.size)(hr:NB w' (fun c=>m.own c\/c∈bs) x val bs):
  ∃m',m'.w=w'/\Ok w0 m'/\Ev m m'/\m'.fr=m.fr/\m'.aj=app (jl m.aj site x).2 m.aj/\bQ m' (jl m.aj site x).1 val:=by
 obtain⟨vs,h1,h2⟩:=hr;have sK:Ok w0 (m.later w' (· ∈bs)):=Pq au hg mK;have xC:Ev m (m.later w' (· ∈bs)):=ME hg fun c hc=>(mK c hc).1;obtain⟨m',e1,e2,e3,_,e5,e6,e7⟩:=alM (MH:=m) (site:=site) sK (h2.less fun b hb=>acC.1 hb) iR (fun c hc=>⟨.inr hc,mD au.size (mK c hc).1⟩) xC (fun c hc=>.inl (mK c hc).1);refine⟨m',e1,e2,e3,?_,e6,apq h1 e7⟩;funext c;apply propext;rw[e5 c];constructor
 .rintro ⟨h|h,h2⟩
  .exact h
  exact(h2 h).elim
 intro h;refine⟨.inl h,fun hc=>?_⟩;have h1:=au.frlt c h;have h2:=(mK c hc).1;omega
theorem alN{b b':aA}(h:∀s,(b s).1=(b' s).1)(site:Nat)(x:RV):jl b site x=jl b' site x:=by unfold jl;rw[abA _ site b b' fun s _=>h s]
theorem aob{G:World->Prop}{cp:fO}(hcp:Dp P G cp)(hG:Good G w0){m:Mem}(au:Ok w0 m){f:Nat}{xs vs:List V}{rd:List Nat}{x:RV}{site:Nat}{v:V}{u:List eN}{args:Array Value}(hc:cp f vs=some x)(hs:Bf m.aj xs=some (vs,rd))(Cf:Pw (bQ m) xs args.toList)
  {pb:Bool} (hl:land m.aj rd site (x.gK pb)=some (v,u)):Calls P f args m.w (Kk w0 m v (app u m.aj)):=by
 have Cj:∀(w:World) (O:Nat->Prop) (args:Array Value),Good G w->(∀c,O c->c<w.heap.size)->Pw (r7 w O) vs args.toList->Calls P f args w (uQ w O (x.gK pb)):=fun w O args h1 h2 h3=>((hcp f vs x hc).2 w O args h1 h2 h3).mono fun e w' h=>h.gK pb h2
 generalize x.gK pb=x at hl Cj;unfold land at hl;split at hl
 .rename_i sC;cases hl;have key:∀(O:Nat->Prop),(∀c,O c->c<m.w.heap.size)->pQ m O rd->(∀w' bs val,NB w' (fun c=>O c\/c∈bs) x val bs->NB w' (fun c=>m.own c\/c∈bs) x val bs)->Calls P f args m.w (Kk w0 m (jl m.aj site x).1 (app (jl m.aj site x).2 m.aj)):=by
   intro O hO nY ze;refine(Cj m.w O args ⟨hG.2 _ _ au.aaI hG.1,hG.2⟩ hO (ae8 au hs Cf nY)).mono ?_;rintro e w' ⟨val,bs,rfl,hg,iR,mK,hr⟩
   obtain⟨m',e1,e2,e3,e4,e5,e6⟩:=acA (site:=site) au hg iR mK (ze w' bs val hr);exact⟨val,m',rfl,e1,e2,e3,e4,e5,e6⟩
  rcases sC with rfl|gZ
  .exact key m.own (fun c hc=>adV au hc) ⟨fun _ h=>h,fun _ h=>by simp at h⟩ fun _ _ _ h=>h
  refine key (fun _=>False) (fun c h=>h.elim) ⟨fun _ h=>h.elim,fun _ _ h=>h⟩ fun w' bs val h=>?_;obtain⟨mV,h1,h2⟩:=h;exact⟨mV,h1,ags gZ h2⟩
 split at hl
 .rename_i fu rG;cases hl;have sK:=aap au rG;have xC:=Um rG;have nY:=Uo au rG;refine(Cj m.w (m.with fu).own args ⟨hG.2 _ _ au.aaI hG.1,hG.2⟩ (fun c hc=>adV sK hc) (ae8 au hs Cf nY)).mono ?_;rintro e w' ⟨val,bs,rfl,hg,iR,mK,hr⟩
  obtain⟨m',e1,e2,e3,e4,e5,e6⟩:=acA (m:=m.with fu) (site:=site) sK hg iR mK hr;have Uy:jl (m.with fu).aj site x=jl m.aj site x:=alN (fun s=>Ld rG s) site x;rw[Uy] at e5 e6;refine⟨val,m',rfl,e1,e2,xC.trans e3,e4,?_,e6⟩;rw[e5,NJ];rfl
 cases hl
end Go.Abs
namespace Go.Abs
variable {P:Program} {w0:World}
theorem P0{m m':Mem}(dY:Ev m m'){ak:Env}{a:Act}{dst:Option Nat}{v:V}{x:Value}(hr:iZ m ak a.tmps)(hv:bQ m' v x)(hd:∀d,dst=some d->d<a.tmps.size):iZ m' (put ak dst v) (a.put dst x).tmps:=by
 cases dst with
 |none=>exact hr.ev dY
 |some d=>
  intro t;have ay:=hd d rfl;simp only[put,Act.put,aN];by_cases ht:t=d
  .subst ht;rw[if_pos rfl];have:(a.tmps.setIfInBounds t x).getD t undef=x:=by simp[ay]
   rw[this];exact hv
  rw[if_neg ht];have:(a.tmps.setIfInBounds d x).getD t undef=a.tmps.getD t undef:=by simp only[Array.getD_eq_getD_getElem?];rw[Array.getElem?_setIfInBounds_ne (fun e=>ht e.symm)]
  rw[this];exact(hr t).ev dY.zero
theorem P9(a:Act)(dst:Option Nat)(x:Value):(a.put dst x).tmps.size=a.tmps.size:=by cases dst<;>simp[Act.put]
theorem put_defers(a:Act)(dst:Option Nat)(x:Value):(a.put dst x).defers=a.defers:=by cases dst<;>simp[Act.put]
theorem afL{m:Mem}{ak:Env}{tmps:Array Value}(hr:iZ m ak tmps){ops:Array Oper}{o:Oper}{g:Option (Nat×Bool)}{b:Bool}
  (hg:match o.guard with|none=>g=none|some (j,w)=>∃t,(ops[j]?).bind (·.dst)=some t/\g=some (t,w)) (h:wanted ak g=some b):Region.wanted o (yielded ops tmps)=b:=by
 unfold Region.wanted;cases ho:o.guard with
 |none=>rw[ho] at hg;subst hg;simp only[wanted,fI] at h;exact h
 |some q=>
  obtain⟨j,w⟩:=q;rw[ho] at hg;obtain⟨t,h1,rfl⟩:=hg;have hrt:=hr t;simp only[wanted] at h;simp only[yielded,h1,Option.bind_some];split at h
  .rename_i b' hb;rw[hb] at hrt;have hv:=Ez hrt;cases h;have:tmps[t]?=some (.bool b'):=by
    rw[Array.getD_eq_getD_getElem?] at hv;cases he:tmps[t]? with
    |none=>rw[he] at hv;simp[undef] at hv
    |some y=>rw[he] at hv;simp at hv;rw[hv]
   rw[this];rfl
  .rename_i hb;rw[hb] at hrt;cases h;have hv:tmps.getD t undef=undef:=hrt;rw[Array.getD_eq_getD_getElem?] at hv;cases he:tmps[t]? with
   |none=>rfl
   |some y=>rw[he] at hv;simp at hv;rw[hv];rfl
  cases h
theorem aah{m:Mem}{ak:Env}{f:aR}{v:Value}{g:Nat}{a b:List C}(h:DF ak f=some (g,a,b))(hr:bQ m (ev ak f) v):∃A B:Array Value,v=.func (.func g) A B/\dr m a A.toList/\dr m b B.toList:=by
 unfold DF at h;split at h
 .rename_i g' x y he;cases h;rw[he] at hr;obtain⟨hp⟩:cS m _ v:=hr;cases hp with
  |fn A B ha hb vf qO=>exact⟨A,B,rfl,dk.CX ⟨by simpa using ha,fun j x u p q=>vf j x u p (by simpa using q)⟩,dk.CX ⟨by simpa using hb,fun j x u p q=>qO j x u p (by simpa using q)⟩⟩
 .rename_i g' x y he;cases h;rw[he] at hr;have hc:cS m _ v:=hr;cases hc with
  |hfn A B ha hb vf qO=>exact⟨A,B,rfl,⟨by simpa using ha,fun j x u p q=>vf j x u p (by simpa using q)⟩,⟨by simpa using hb,fun j x u p q=>qO j x u p (by simpa using q)⟩⟩
 cases h
theorem Xh{m:Mem}{ak:Env}{a:Act}(hr:iZ m ak a.tmps):∀ {xs:List Operand} {ys:List aR},pS xs=some ys->Pw (bQ m) (ys.map (ev ak)) (xs.map a.eval):=by
 intro xs
 induction xs with
 |nil=>intro ys h;simp[pS] at h;subst h;exact⟨rfl,fun j x u p=>by simp at p⟩
 |cons x xs ih=>
  intro ys h;simp only[pS] at h;split at h
  .rename_i y ys' h1 h2;cases h;obtain⟨i1,i2⟩:=ih h2;refine⟨by simpa using i1,fun j z u p q=>?_⟩;cases j with
   |zero=>simp at p q;subst p q;exact eB h1 hr
   |succ j=>exact i2 j z u (by simpa using p) (by simpa using q)
  cases h
theorem PG{m:Mem}{cs:List C}{vs:List Value}(h:dr m cs vs):Pw (bQ m) (cs.map .one) vs:=by refine⟨by simpa using h.1,fun j x u p q=>?_⟩;simp only[fZ,dI] at p;obtain⟨c,hc,rfl⟩:=p;exact bQ.one.2 (h.2 j c u hc q)
theorem ahs{f:Nat}(h:Enters P f)(args:Array Value)(w:World):(callFunc f args).run P w=.ok (.enter f args) w:=by
 obtain⟨fn,c,h1,h2,h3⟩:=h;have h4:¬fn.name= "runtime.NumGoroutine" :=by simpa using h3
 simp[callFunc,run_program,h1,h2,h4]
theorem XL{o:Oper}{c:Call}{fo:Operand}{a:Act}{g:Nat}{A B:Array Value}{w:World}(ho:o.op=.call c)(hc:c.callee=.value fo)(hv:a.eval fo=.func (.func g) A B)(he:Enters P g):
  (execOp a.eval o).run P w=.ok (.enter g (A++c.args.map a.eval++B)) w:=by
 simp[execOp,ho,resolve,hc,hv,Deferred.ofValue,invoke,ahs he]
theorem adF{site:Nat}{o:Oper}{p:lB}(h:Fy P site o=some p)(hp:∀s f as,p≠ .call s f as){sh:Nat->Bool}{ak:Env}{aj:aA}:(∀f vs r s,bt sh ak aj p≠ .pc f vs r s)/\ ∀f vs,bt sh ak aj p≠ .sc f vs:=by
 cases p<;>first
  |exact(hp _ _ _ rfl).elim
  |(simp only[bt]
    constructor<;>intros<;>intro h<;>(repeat' split at h)<;>first
     |cases h
     |(simp only[zD,CO,fQ] at h;(repeat' split at h)<;>cases h))
theorem X5{site:Nat}{o:Oper}{s:Nat}{f:aR}{as:List aR}(h:Fy P site o=some (.call s f as)):∃c fo,o.op=.call c/\c.callee=.value fo/\cE fo=some f/\pS c.args.toList=some as:=by
 unfold Fy at h;split at h
 case h_26 c ho=>
  split at h
  .rename_i f' as' h1 h2;simp only[dI] at h;obtain⟨y,h3,h4⟩:=h;cases h4;exact⟨c,f',ho,h1,h3,h2⟩
  all_goals((repeat' split at h)<;>first
   |cases h
   |(simp at h;done))
 all_goals((repeat' split at h)<;>first
  |cases h
  |(simp at h;done))
def Fk(w0:World)(m:Mem)(a:Act)(nt:Nat)(aC:Env)(ao:aA)(K:Act->World->Prop):Prop:=∀(a':Act) (m':Mem),Ok w0 m'->Ev m m'->m'.fr=m.fr->m'.aj=ao->iZ m' aC a'.tmps->a'.tmps.size=nt->a'.defers=a.defers->K a' m'.w
theorem afO{o:Oper}{a:Act}{f:Nat}{args:Array Value}{w:World}{K:Act->World->Prop}{Q:Exit->Act->World->Prop}{R:Ending->World->Prop}(ml:(execOp a.eval o).run P w=.ok (.enter f args) w)(hc:Calls P f args w R)
  (hR:∀e w',R e w'->∃v,e=.returned v/\K (a.put o.dst v) w'):o.wp P a w K Q:=by
 unfold Oper.wp;rw[ml,Oper.upon_enter];refine hc.mono ?_;intro e w' he;obtain⟨v,rfl,hk⟩:=hR e w' he;exact hk
theorem afh{G:World->Prop}(hG:Good G w0){cp:fO}{cs:jN}(hP:Dp P G cp)(hS:Fi P G cs){sh:Ctx}{ops:Array Oper}{base nt anc:Nat}{o:Oper}{io:aO}{m:Mem}{ak aC:Env}{ao:aA}{eff:bR}{a:Act}{K:Act->World->Prop}{Q:Exit->Act->World->Prop}
  (ho:Dz P (fun j=>(ops[j]?).bind (·.dst)) base nt anc o=some io) (cQ:step1 sh cp cs io ak m.aj=some (aC,ao,eff)) (au:Ok w0 m) (hr:iZ m ak a.tmps) (fV:a.tmps.size=nt) (hK:Fk w0 m a nt aC ao K):
  if Region.wanted o (yielded ops a.tmps) then o.wp P a m.w K Q else K (a.put o.dst undef) m.w:=by
 have hio:io.dst=o.dst/\io.op=Rz P base o/\(∀d,o.dst=some d->d<nt)/\(match o.guard with|none=>io.guard=none|some (j,w)=>∃t,(ops[j]?).bind (·.dst)=some t/\io.guard=some (t,w)):=by
  unfold Dz at ho;split at ho
  .rename_i hd;simp only[dI] at ho;obtain⟨g,hg,rfl⟩:=ho;refine⟨rfl,rfl,fun d he=>?_,?_⟩
   .rw[he] at hd
    simpa [YA] using hd
   cases hgo:o.guard with
   |none=>rw[hgo] at hg;simp[Us] at hg;exact hg.symm
   |some q=>obtain⟨j,w⟩:=q;rw[hgo] at hg;simp only[Us,dI] at hg;obtain⟨t,ht,rfl⟩:=hg;exact⟨t,ht,rfl⟩
  cases ho
 obtain⟨h1,h2,h3,h4⟩:=hio;have hd:∀d,o.dst=some d->d<a.tmps.size:=by rw[fV];exact h3
 unfold step1 at cQ;split at cQ
 .cases cQ
 .rename_i hw;cases cQ;rw[afL hr h4 hw];simp only[dL,if_false];rw[h1] at hK;exact hK _ m au (Ev.refl m) rfl rfl (P0 (Ev.refl m) hr (show bQ m .undef undef from rfl) hd) (by rw[P9,fV]) (put_defers _ _ _)
 rename_i hw;rw[afL hr h4 hw];simp only[if_true];rw[h2] at cQ;unfold Rz at cQ;cases yR:Fy P base o with
 |none=>rw[yR] at cQ;simp[bt] at cQ
 |some p=>
  rw[yR] at cQ;simp only[nc] at cQ;split at cQ
  .cases cQ
  .rename_i v u r hp;split at cQ
   case isFalse=>cases cQ
   cases cQ;obtain⟨x,m',akE,e2,e3,e4,e5,e6⟩:=anN au hr yR hp;rw[h1] at hK;have hk:=fun x (hx:bQ m' v x)=>hK (a.put o.dst x) m' e2 e3 e4 e5 (P0 e3 hr hx hd) (by rw[P9,fV]) (put_defers _ _ _);unfold Oper.wp;rcases akE with hd|⟨hd,rfl⟩
   .rw[hd,Oper.upon_value];exact hk x e6
   rw[hd,Oper.upon_skip];exact hk undef e6
  .rename_i f vs r s hp;by_cases Cj:∃s f as,p=.call s f as
   .obtain⟨s',f',as,rfl⟩:=Cj;obtain⟨c,fo,g1,g2,g3,g4⟩:=X5 yR;simp only[bt] at hp;split at hp
    .rename_i g A B hfn;obtain⟨AV,BV,e1,e2,e3⟩:=aah hfn (eB g3 hr);split at hp
     .cases hp
     split at hp
     .rename_i ws rd lK;cases hp;split at cQ
      .rename_i x hx;split at cQ
       .rename_i v u hl;split at cQ
        case isFalse=>cases cQ
        cases cQ;have Cf:Pw (bQ m) (A.map .one++as.map (ev ak)++B.map .one) (AV++c.args.map a.eval++BV).toList:=by
         have:=((PG e2).append (Xh hr g4)).append (PG e3)
         simpa using this
        refine afO (XL g1 g2 e1 (hP _ _ _ hx).1) (aob hP hG au hx lK Cf hl) ?_;rintro e w' ⟨val,m',rfl,rfl,q1,q2,q3,q4,q5⟩
        rw[h1] at hK;exact⟨val,rfl,hK _ m' q1 q2 q3 q4 (P0 q2 hr q5 hd) (by rw[P9,fV]) (put_defers _ _ _)⟩
       cases cQ
      cases cQ
     cases hp
    cases hp
   exact((adF yR (fun s f as e=>Cj ⟨s,f,as,e⟩)).1 _ _ _ _ hp).elim
  rename_i f vs hp;by_cases Cj:∃s f as,p=.call s f as
  .obtain⟨s',f',as,rfl⟩:=Cj;obtain⟨c,fo,g1,g2,g3,g4⟩:=X5 yR;simp only[bt] at hp;split at hp
   .rename_i g A B hfn;obtain⟨AV,BV,e1,e2,e3⟩:=aah hfn (eB g3 hr);split at hp
    .cases hp;split at cQ
     case isFalse=>cases cQ
     split at cQ
     .rename_i v HA hx;cases cQ;have Cf:Pw (bQ m) (A.map .one++as.map (ev ak)++B.map .one) (AV++c.args.map a.eval++BV).toList:=by
       have:=((PG e2).append (Xh hr g4)).append (PG e3)
       simpa using this
      refine afO (XL g1 g2 e1 (hS _ _ _ _ _ _ hx).1) ((hS _ _ _ _ _ _ hx).2 w0 m _ hG au rfl Cf) ?_;rintro e w' ⟨val,m',rfl,rfl,q1,q2,q3,q4,q5⟩
      rw[h1] at hK;exact⟨val,rfl,hK _ m' q1 q2 q3 q4 (P0 q2 hr q5 hd) (by rw[P9,fV]) (put_defers _ _ _)⟩
     cases cQ
    split at hp<;>cases hp
   cases hp
  exact((adF yR (fun s f as e=>Cj ⟨s,f,as,e⟩)).2 _ _ hp).elim
end Go.Abs
namespace Go.Abs
variable {P:Program} {w0:World}
theorem RO{dst anc:Nat->Option Nat}{base nt i:Nat}{o:Oper}{r:List Oper}{l:List aO}(h:vP P dst anc base nt i (o::r)=some l):
  ∃x xs,l=x::xs/\Dz P dst ((base+i)*64) nt ((anc i).getD 0) o=some x/\vP P dst anc base nt (i+1) r=some xs:=by
 simp only[vP] at h;split at h
 .rename_i x xs h1 h2;cases h;exact⟨x,xs,rfl,h1,h2⟩
 cases h
section
variable {G:World->Prop} (hG:Good G w0) {cp:fO} {cs:jN} (hP:Dp P G cp) (hS:Fi P G cs) {sh:Ctx}
include hG hP hS
theorem anR{ops:Array Oper}{anc:Nat->Option Nat}{base nt:Nat}{Q:Exit->Act->World->Prop}:∀(r:List Oper) {l:List aO} {i:Nat} {ak aC:Env} {m:Mem} {ao:aA} {es:List bR} {a:Act},(∀j,ops[i+j]?=r[j]?)->vP P (fun j=>(ops[j]?).bind (·.dst)) anc base nt i r=some l->
  steps sh cp cs l ak m.aj=some (aC,ao,es)->Ok w0 m->iZ m ak a.tmps->a.tmps.size=nt->Fk w0 m a nt aC ao (fun a' w'=>Q .normal a' w')->wpOps P ops Q (List.range' i r.length) a m.w:=by
 intro r
 induction r with
 |nil=>intro l i ak aC m ao es a _ hc cQ au hr fV hK;simp[vP] at hc;subst hc;simp only[steps,fI,kB] at cQ;obtain⟨rfl,rfl,_⟩:=cQ;simp only[ff,List.range'_zero,wpOps];exact hK a m au (Ev.refl m) rfl rfl hr fV rfl
 |cons o r ih=>
  intro l i ak aC m ao es a Mj hc cQ au hr fV hK;obtain⟨x,xs,rfl,h1,h2⟩:=RO hc;simp only[steps] at cQ;split at cQ
  .rename_i iA bK e1 ji;split at cQ
   .rename_i cT bh es2 eG;cases cQ;have ho:ops[i]?=some o:=by have:=Mj 0;simpa using this
    have key:=afh (Q:=Q) (K:=wpOps P ops Q (List.range' (i+1) r.length)) hG hP hS h1 ji au hr fV (fun a1 m1 k1 k2 k3 k4 k5 k6 k7=>by subst k4;refine ih (m:=m1) (fun j=>by have:=Mj (j+1);rw[show i+1+j=i+(j+1) by omega];simpa using this) h2 eG k1 k5 k6 ?_;intro a2 m2 p1 p2 p3 p4 p5 p6 p7;exact hK a2 m2 p1 (k2.trans p2) (p3.trans k3) p4 p5 p6 (p7.trans k7))
    simp only[dh,List.range'_succ,wpOps,ho];split at key
    .rename_i hw;rw[if_pos hw];exact .inl key
    rename_i hw;rw[if_neg hw];exact key
   cases cQ
  cases cQ
theorem apk{ops:Array Oper}{anc:Nat->Option Nat}{base nt id:Nat}{Q:Exit->Act->World->Prop}{l:List aO}{ak aC:Env}{m:Mem}{ao:aA}{es:List bR}{a:Act}(hc:vP P (fun j=>(ops[j]?).bind (·.dst)) anc base nt 0 ops.toList=some l)
  (cQ:steps sh cp cs l ak m.aj=some (aC,ao,es)) (au:Ok w0 m) (hr:iZ m ak a.tmps) (fV:a.tmps.size=nt) (hK:Fk w0 m a nt aC ao (fun a' w'=>Q .normal a' w')):(Code.region id ops false).wp P Q a m.w:=by
 refine wp_region ?_;have:=anR hG hP hS (sh:=sh) (ops:=ops) (Q:=Q) ops.toList (i:=0) (fun j=>af) hc cQ au hr fV hK;rw[List.range_eq_range']
 simpa using this
end
end Go.Abs
namespace Go.Abs
variable {P:Program} {w0:World}
theorem ao4{α β:Type}(g:Array β->α->β):∀(l:List α) (acc:Array β),(l.foldl (fun acc o=>acc.push (g acc o)) acc).size=acc.size+l.length/\
  (∀j,j<acc.size->(l.foldl (fun acc o=>acc.push (g acc o)) acc)[j]?=acc[j]?)/\
  ∀j o,l[j]?=some o->∃pre:Array β,pre.size=acc.size+j/\(∀k,k<pre.size->(l.foldl (fun acc o=>acc.push (g acc o)) acc)[k]?=pre[k]?)/\(l.foldl (fun acc o=>acc.push (g acc o)) acc)[acc.size+j]?=some (g pre o):=by
 intro l
 induction l with
 |nil=>intro acc;exact⟨rfl,fun _ _=>rfl,fun j o h=>by simp at h⟩
 |cons x l ih=>
  intro acc;obtain⟨h1,h2,h3⟩:=ih (acc.push (g acc x));simp only[Dd];refine⟨by rw[h1];simp;omega,fun j hj=>?_,fun j o ho=>?_⟩
  .rw[h2 j (by simp;omega),Array.getElem?_push,if_neg aa]
  cases j with
  |zero=>
   simp at ho;subst ho;refine⟨acc,aa,fun k hk=>?_,?_⟩
   .rw[h2 k (by simp;omega),Array.getElem?_push,if_neg aa]
   rw[yl,h2 acc.size af,Array.getElem?_push,if_pos rfl]
  |succ j=>obtain⟨pre,p1,p2,p3⟩:=h3 j o (by simpa using ho);refine⟨pre,by rw[p1];simp;omega,p2,?_⟩;rw[<- p3];simp only[Array.size_push];congr 1;omega
theorem anS{α:Type}(f:α->Bool)(g:α->Nat)(h:α->Nat):∀(l:List α) (s j:Nat),(l.foldl (fun s e=>if f e then s|||g e|||h e else s) s).testBit j=true->s.testBit j=true\/ ∃e∈l,f e=true/\((g e).testBit j=true\/(h e).testBit j=true):=by
 intro l
 induction l with
 |nil=>intro s j hh;exact .inl hh
 |cons x l ih=>
  intro s j hh;simp only[Dd] at hh;rcases ih _ j hh with h1|⟨e,he,h2⟩
  .split at h1
   .rename_i hf;simp only[Nat.testBit_or,Br] at h1;rcases h1 with (h1|h1)|h1
    .exact .inl h1
    .exact .inr ⟨x,af,hf,.inl h1⟩
    exact .inr ⟨x,af,hf,.inr h1⟩
   exact .inl h1
  exact .inr ⟨e,by simp[he],h2⟩
theorem ahc{ops:Array Oper}(DU:Hr ops=true){i:Nat}{o:Oper}(ho:ops[i]?=some o){j:Nat}(hj:(((Region.before ops)[i]?).getD 0).testBit j=true):
  ∃e∈o.after,Region.binds .any e=true/\e.on<i/\(j=e.on\/(((Region.before ops)[e.on]?).getD 0).testBit j=true):=by
 unfold Region.before at hj ⊢;rw[<- Array.foldl_toList] at hj ⊢;obtain⟨h1,h2,h3⟩:=ao4 (fun(acc:Array Nat) (o:Oper)=>o.after.foldl (fun s e=>if Region.binds .any e then s|||2 ^ e.on|||acc.getD e.on 0 else s) 0) ops.toList #[];obtain⟨pre,p1,p2,p3⟩:=h3 i o (by simpa using ho);simp only[Array.size_empty,kU] at p1 p3;rw[p3] at hj;simp only[nc] at hj;rw[<- Array.foldl_toList] at hj;rcases anS (fun e=>Region.binds .any e) (fun e=>2 ^ e.on) (fun e=>pre.getD e.on 0) _ _ _ hj with h|⟨e,he,hb,Is⟩
 .simp at h
 have ay:i<ops.size:=(Array.getElem?_eq_some_iff.1 ho).1;have Mi:e.on<i:=by unfold Hr at DU;have:=ko.1 DU i (by simpa using ay);rw[ho] at this;simp only[Array.all_eq_true'] at this;have:=this e (by simpa using he);simp only[hb,Bq,Da,decide_eq_true_eq] at this;exact this
 refine⟨e,by simpa using he,hb,Mi,?_⟩;rcases Is with Is|Is
 .left;rw[Nat.testBit_two_pow] at Is;have h9:e.on=j:=by simpa using Is
  exact h9.symm
 right;rw[p2 e.on aa]
 simpa [Array.getD_eq_getD_getElem?] using Is
theorem X6{dst:Nat->Option Nat}{base nt anc:Nat}{o:Oper}{io:aO}(h:Dz P dst base nt anc o=some io):io.anc=anc:=by
 unfold Dz at h;split at h
 .simp only[dI] at h;obtain⟨g,_,rfl⟩:=h;rfl
 cases h
structure afW (P:Program) (ops:Array Oper) (base nt:Nat) (rem:List It) (listed:Array Bool):Prop where
 pair:rem.Pairwise fun p q=>p.i<q.i/\(q.io.anc.testBit p.i=true\/NI p q)
 comp:∀p∈rem,∃o,ops[p.i]?=some o/\Dz P (fun j=>(ops[j]?).bind (·.dst)) ((base+p.i)*64) nt (((Region.before ops)[p.i]?).getD 0) o=some p.io
 size:listed.size=ops.size
 free:∀i:Nat,listed[i]?=some false↔ ∃p∈rem,p.i=i
 closed:∀i:Nat,listed[i]?=some true->∀j:Nat,(((Region.before ops)[i]?).getD 0).testBit j=true->listed[j]?=some true
theorem VY{ops:Array Oper}{listed:Array Bool}{i:Nat}:i∈Region.ready .any ops listed↔i<ops.size/\listed.getD i true=false/\ ∃o,ops[i]?=some o/\ ∀e∈o.after,Region.binds .any e=true->listed.getD e.on false=true:=by
 unfold Region.ready;simp only[vG,gj,cX,pL];constructor
 .rintro ⟨h1,h2,h3⟩
  refine⟨h1,h2,ops[i],by simp[h1],fun e he hb=>?_⟩;have ho:ops[i]?=some ops[i]:=by simp[h1]
  rw[ho] at h3;simp only[ng,nc,Array.all_eq_true'] at h3;have:=h3 e he;rw[hb] at this
  simpa using this
 rintro ⟨h1,h2,o,ho,h3⟩
 refine⟨h1,h2,?_⟩;rw[ho];simp only[ng,nc,Array.all_eq_true'];intro e he;cases hb:Region.binds .any e with
 |false=>rfl
 |true=>simp[h3 e he hb]
theorem aaF{l:Array Bool}{i:Nat}(h:l.getD i true=false):l[i]?=some false:=by
 rw[Array.getD_eq_getD_getElem?] at h;cases he:l[i]? with
 |none=>rw[he] at h;simp at h
 |some b=>rw[he] at h;simp at h;rw[h]
theorem aj8{l:Array Bool}{i:Nat}(h:l.getD i false=true):l[i]?=some true:=by
 rw[Array.getD_eq_getD_getElem?] at h;cases he:l[i]? with
 |none=>rw[he] at h;simp at h
 |some b=>rw[he] at h;simp at h;rw[h]
section
variable {G:World->Prop} (hG:Good G w0) {cp:fO} {cs:jN} (hP:Dp P G cp) (hS:Fi P G cs) (hL:zJ cs) {sh:Ctx}
include hG hP hS hL
theorem agt{ops:Array Oper}(DU:Hr ops=true){base nt:Nat}{Q:Exit->Act->World->Prop}{aC:Env}{ao:aA}:∀(fuel:Nat) {rem:List It} {listed:Array Bool} {ak:Env} {m:Mem} {a:Act},afW P ops base nt rem listed->rem.length<=fuel->
  steps sh cp cs (rem.map (·.io)) ak m.aj=some (aC,ao,rem.map (·.e))->Ok w0 m->iZ m ak a.tmps->a.tmps.size=nt->Fk w0 m a nt aC ao (fun a' w'=>Q .normal a' w')->wpAny P .any ops Q fuel listed a m.w:=by
 intro fuel
 induction fuel with
 |zero=>
  intro rem listed ak m a hl hlen cQ au hr fV hK;have alr:rem=[]:=by
   cases rem with
   |nil=>rfl
   |cons _ _=>simp at hlen
  subst alr;simp only[kQ,steps,fI,kB] at cQ;obtain⟨rfl,rfl,_⟩:=cQ;refine⟨?_,hK a m au (Ev.refl m) rfl rfl hr fV rfl⟩;refine List.eq_nil_iff_forall_not_mem.2 fun i hi=>?_;obtain⟨_,h2,_⟩:=VY.1 hi;obtain⟨p,hp,_⟩:=(hl.free i).1 (aaF h2);simp at hp
 |succ fuel ih=>
  intro rem listed ak m a hl hlen cQ au hr fV hK;refine⟨fun ak6=>?_,fun i hi=>?_⟩
  .cases rem with
   |nil=>simp only[kQ,steps,fI,kB] at cQ;obtain⟨rfl,rfl,_⟩:=cQ;exact hK a m au (Ev.refl m) rfl rfl hr fV rfl
   |cons p rest=>
    exfalso;obtain⟨o,ho,_⟩:=hl.comp p af;have ay:p.i<ops.size:=(Array.getElem?_eq_some_iff.1 ho).1;have oY:p.i∈Region.ready .any ops listed:=by
     refine VY.2 ⟨ay,?_,o,ho,fun e he hb=>?_⟩
     .rw[Array.getD_eq_getD_getElem?,(hl.free p.i).2 ⟨p,af,rfl⟩];rfl
     have Mi:e.on<p.i:=by unfold Hr at DU;have:=ko.1 DU p.i (by simpa using ay);rw[ho] at this;simp only[Array.all_eq_true'] at this;have:=this e he;simp only[hb,Bq,Da,decide_eq_true_eq] at this;exact this
     have hs:e.on<listed.size:=by rw[hl.size];omega
     rw[Array.getD_eq_getD_getElem?];cases bj:listed[e.on] with
     |true=>simp[hs,bj]
     |false=>
      exfalso;obtain⟨q,hq,Eo⟩:=(hl.free e.on).1 (by simp[hs,bj]);rcases cP.1 hq with rfl|hq
      .omega
      have:=((ua.1 hl.pair).1 q hq).1;omega
    rw[ak6] at oY;simp at oY
  obtain⟨h1,h2,o,ho,h3⟩:=VY.1 hi;obtain⟨p,hp,rfl⟩:=(hl.free i).1 (aaF h2);obtain⟨l1,l2,rfl⟩:=List.append_of_mem hp;obtain⟨o',k8,yR⟩:=hl.comp p hp;rw[ho] at k8;cases k8;have aaO:∀j:Nat,p.io.anc.testBit j=true->listed[j]?=some true:=by
   intro j hj;rw[X6 yR] at hj;obtain⟨e,he,hb,_,Ar⟩:=ahc DU ho hj;have Mi:=aj8 (h3 e he hb);rcases Ar with rfl|Ar
   .exact Mi
   exact hl.closed _ Mi j Ar
  have IH:=Ny.1 hl.pair;have akN:∀x∈l1,NI x p:=by
   intro x hx;rcases(IH.2.2 x hx p af).2 with h|h
   .have:=aaO _ h;rw[(hl.free x.i).2 ⟨x,by simp[hx],rfl⟩] at this;cases this
   exact h
  obtain⟨iA,bK,ji,eG⟩:=arG hL cQ akN;have key:=afh (Q:=Q) (K:=wpAny P .any ops Q fuel (listed.setIfInBounds p.i true)) hG hP hS yR ji au hr fV (fun a1 m1 k1 k2 k3 k4 k5 k6 k7=>by
   subst k4;have ay:p.i<listed.size:=by rw[hl.size];exact h1
   refine ih (rem:=l1++l2) ⟨?_,fun q hq=>hl.comp q (by rcases fg.1 hq with h|h<;>simp[h]),by simp[hl.size],fun k=>?_,fun k hk j hj=>?_⟩ (by simp at hlen ⊢;omega) eG k1 k5 k6 ?_
   .refine Ny.2 ⟨IH.1,(ua.1 IH.2.1).2,fun x hx y hy=>IH.2.2 x hx y (by simp[hy])⟩
   .rw[Array.getElem?_setIfInBounds];by_cases hk:p.i=k
    .subst hk;rw[if_pos rfl,if_pos ay];constructor
     .intro h;cases h
     rintro ⟨q,hq,Eo⟩
     rcases fg.1 hq with h|h
     .have:=(IH.2.2 q h p af).1;omega
     have:=((ua.1 IH.2.1).1 q h).1;omega
    rw[if_neg hk,hl.free k];constructor
    .rintro ⟨q,hq,Eo⟩
     rcases fg.1 hq with h|h
     .exact⟨q,by simp[h],Eo⟩
     rcases cP.1 h with rfl|h
     .exact(hk Eo).elim
     exact⟨q,by simp[h],Eo⟩
    rintro ⟨q,hq,Eo⟩
    rcases fg.1 hq with h|h
    .exact⟨q,by simp[h],Eo⟩
    exact⟨q,by simp[h],Eo⟩
   .have ze:∀j:Nat,listed[j]?=some true->(listed.setIfInBounds p.i true)[j]?=some true:=by
     intro j hj;rw[Array.getElem?_setIfInBounds];split
     .first
       |rfl
       |(rename_i e;rw[if_pos ay])
     exact hj
    by_cases jt:p.i=k
    .subst jt;refine ze j (aaO j ?_);rw[X6 yR];exact hj
    rw[Array.getElem?_setIfInBounds,if_neg jt] at hk;exact ze j (hl.closed k hk j hj)
   intro a2 m2 p1 p2 p3 p4 p5 p6 p7;exact hK a2 m2 p1 (k2.trans p2) (p3.trans k3) p4 p5 p6 (p7.trans k7))
  unfold wpOp;rw[ho];simp only;split at key
  .rename_i hw;rw[if_pos hw];exact .inl key
  rename_i hw;rw[if_neg hw];exact key
end
def sQ:Nat->List aO->List bR->List It
 |i,x::xs,e::es=>⟨i,x,e⟩::sQ (i+1) xs es
 |_,_,_=>[]
theorem anp:∀ {xs:List aO} {es:List bR} (i:Nat),es.length=xs.length->(sQ i xs es).map (·.io)=xs/\(sQ i xs es).map (·.e)=es:=by
 intro xs
 induction xs with
 |nil=>intro es i h;cases es with
  |nil=>exact⟨rfl,rfl⟩
  |cons _ _=>simp at h
 |cons x xs ih=>intro es i h;cases es with
  |nil=>simp at h
  |cons e es=>obtain⟨h1,h2⟩:=ih (es:=es) (i+1) (by simpa using h);exact⟨by simp[sQ,h1],by simp[sQ,h2]⟩
theorem ajJ{o:aO}:∀ {past:List aO} {j:Nat},Ou o j past=true->∀k x,past[k]?=some x->o.anc.testBit (j+k)=true\/FH x o=true:=by
 intro past
 induction past with
 |nil=>intro j _ k x h;simp at h
 |cons y past ih=>
  intro j h k x hk;simp only[Ou,cX,Br] at h;cases k with
  |zero=>simp at hk;subst hk;exact h.1
  |succ k=>have:=ih h.2 k x (by simpa using hk);rw[show j+(k+1)=j+1+k by omega];exact this
theorem anK{anc:Nat}{e:bR}:∀ {past:List bR} {j:Nat},PC anc e j past=true->∀k x,past[k]?=some x->anc.testBit (j+k)=true\/Fv x e=false:=by
 intro past
 induction past with
 |nil=>intro j _ k x h;simp at h
 |cons y past ih=>
  intro j h k x hk;simp only[PC,cX,Br,pL] at h;cases k with
  |zero=>simp at hk;subst hk;exact h.1
  |succ k=>have:=ih h.2 k x (by simpa using hk);rw[show j+(k+1)=j+1+k by omega];exact this
theorem anq:∀ {xs:List aO} {es:List bR} {past:List aO} {pe:List bR},es.length=xs.length->pe.length=past.length->Lb xs past=true->sT xs pe es=true->
  (∀(q:It),q∈sQ past.length xs es->∀(k:Nat) (x:aO) (e:bR),past[k]?=some x->pe[k]?=some e->q.io.anc.testBit k=true\/(FH x q.io=true/\Fv e q.e=false))/\
  (∀q∈sQ past.length xs es,past.length<=q.i)/\(sQ past.length xs es).Pairwise fun p q=>p.i<q.i/\(q.io.anc.testBit p.i=true\/NI p q):=by
 intro xs
 induction xs with
 |nil=>
  intro es past pe _ _ _ _;have:sQ past.length [] es=[]:=by cases es<;>rfl
  rw[this];exact⟨fun q h=>by simp at h,fun q h=>by simp at h,.nil⟩
 |cons x xs ih=>
  intro es past pe hl hp hf hd;cases es with
  |nil=>simp at hl
  |cons e es=>
   simp only[Lb,cX] at hf;simp only[sT,cX] at hd;obtain⟨i1,i2,i3⟩:=ih (es:=es) (past:=past++[x]) (pe:=pe++[e]) (by simpa using hl) (by simp[hp]) hf.2 hd.2;have hlen:(past++[x]).length=past.length+1:=af;rw[hlen] at i1 i2 i3;simp only[sQ];refine⟨?_,?_,ua.2 ⟨?_,i3⟩⟩
   .intro q hq k y f hy hf';rcases cP.1 hq with rfl|hq
    .have h1:=ajJ hf.1 k y hy;have h2:=anK hd.1 k f hf';rw[kU] at h1 h2;rcases h1 with h1|h1
     .exact .inl h1
     rcases h2 with h2|h2
     .exact .inl h2
     exact .inr ⟨h1,h2⟩
    have hk:k<past.length:=(aW.1 hy).1;exact i1 q hq k y f (by rw[De hk];exact hy) (by rw[De aa];exact hf')
   .intro q hq;rcases cP.1 hq with rfl|hq
    .exact bN _
    have:=i2 q hq;omega
   intro q hq;refine⟨by have:=i2 q hq;simp only;omega,?_⟩;exact i1 q hq past.length x e af (by rw[<- hp];simp)
theorem ano{ops:Array Oper}{anc:Nat->Option Nat}{dst:Nat->Option Nat}{base nt:Nat}:∀ {r:List Oper} {xs:List aO} {es:List bR} {i:Nat},vP P dst anc base nt i r=some xs->es.length=xs.length->(∀j,ops[i+j]?=r[j]?)->
  (∀p∈sQ i xs es,∃o,ops[p.i]?=some o/\Dz P dst ((base+p.i)*64) nt ((anc p.i).getD 0) o=some p.io)/\ ∀k,i<=k->k<i+r.length->∃p∈sQ i xs es,p.i=k:=by
 intro r
 induction r with
 |nil=>
  intro xs es i h _ _;simp only[vP,fI] at h;subst h;have:sQ i [] es=[]:=by cases es<;>rfl
  rw[this];exact⟨fun p h=>by simp at h,fun k h1 h2=>by simp at h2;omega⟩
 |cons o r ih=>
  intro xs es i h hl Mj;obtain⟨x,xs',rfl,h1,h2⟩:=RO h;cases es with
  |nil=>simp at hl
  |cons e es=>
   obtain⟨i1,i2⟩:=ih (es:=es) h2 (by simpa using hl) (fun j=>by have:=Mj (j+1);rw[show i+1+j=i+(j+1) by omega];simpa using this);refine⟨fun p hp=>?_,fun k cK jt=>?_⟩
   .rcases cP.1 hp with rfl|hp
    .exact⟨o,by have:=Mj 0;simpa using this,h1⟩
    exact i1 p hp
   by_cases hk:k=i
   .exact⟨⟨i,x,e⟩,by simp[sQ],hk.symm⟩
   obtain⟨p,hp,gI⟩:=i2 k aa (by simp at jt;omega);exact⟨p,by simp[sQ,hp],gI⟩
theorem arj{sh:Ctx}{cp:fO}{cs:jN}:∀ {xs:List aO} {ak aC:Env} {aj ao:aA} {es:List bR},steps sh cp cs xs ak aj=some (aC,ao,es)->es.length=xs.length:=by
 intro xs
 induction xs with
 |nil=>intro ak aC aj ao es h;simp only[steps,fI,kB] at h;rw[<- h.2.2];rfl
 |cons x xs ih=>
  intro ak aC aj ao es h;simp only[steps] at h;split at h
  .split at h
   .rename_i h2;cases h;simp[ih h2]
   cases h
  cases h
theorem ah0{dst anc:Nat->Option Nat}{base nt:Nat}:∀ {r:List Oper} {xs:List aO} {i:Nat},vP P dst anc base nt i r=some xs->xs.length=r.length:=by
 intro r
 induction r with
 |nil=>intro xs i h;simp only[vP,fI] at h;subst h;rfl
 |cons o r ih=>intro xs i h;obtain⟨x,xs',rfl,_,h2⟩:=RO h;simp[ih h2]
section
variable {G:World->Prop} (hG:Good G w0) {cp:fO} {cs:jN} (hP:Dp P G cp) (hS:Fi P G cs) (hL:zJ cs) {sh:Ctx}
include hG hP hS hL
theorem aiE(yU:P.follows .mixedOrders=true){ops:Array Oper}{base nt id:Nat}{Q:Exit->Act->World->Prop}{l:List aO}{ak aC:Env}{m:Mem}{ao:aA}{es:List bR}{a:Act}(hc:vP P (fun j=>(ops[j]?).bind (·.dst)) (fun i=>(Region.before ops)[i]?) base nt 0 ops.toList=some l)
  (DU:Hr ops=true) (hf:Lb l []=true) (cQ:steps sh cp cs l ak m.aj=some (aC,ao,es)) (hd:sT l [] es=true) (au:Ok w0 m) (hr:iZ m ak a.tmps) (fV:a.tmps.size=nt) (hK:Fk w0 m a nt aC ao (fun a' w'=>Q .normal a' w')):(Code.region id ops true).wp P Q a m.w:=by
 refine wp_region_any yU ?_;have hlen:=arj cQ;have sG:l.length=ops.size:=by have:=ah0 hc;simpa using this
 obtain⟨g1,g2⟩:=anp 0 hlen;obtain⟨_,_,hp⟩:=anq (past:=[]) (pe:=[]) hlen rfl hf hd;obtain⟨c1,c2⟩:=ano (ops:=ops) hc hlen (fun j=>af);have sK:Ok w0 (m.later m.w.drew fun _=>False):=Pq au (fR.drew _) fun _ h=>h.elim;have xC:Ev m (m.later m.w.drew fun _=>False):=ME (fR.drew _) fun _ h=>h.elim;have kZ:(m.later m.w.drew fun _=>False).fr=m.fr:=by funext c;simp[Mem.later]
 refine agt (m:=m.later m.w.drew fun _=>False) hG hP hS hL DU ops.size (rem:=sQ 0 l es) (base:=base) ⟨hp,c1,af,fun i=>?_,fun i hi=>?_⟩ ?_ (by rw[g1,g2];exact cQ) sK (hr.ev xC) fV ?_
 .constructor
  .intro h;have hi:i<ops.size:=by
    have:=(Array.getElem?_eq_some_iff.1 h).1
    simpa using this
   exact c2 i (bG _) (by simpa using hi)
  rintro ⟨p,hp,rfl⟩
  obtain⟨o,ho,_⟩:=c1 p hp;have hi:p.i<ops.size:=(Array.getElem?_eq_some_iff.1 ho).1;simp[hi]
 .rw[Array.getElem?_replicate] at hi;split at hi<;>simp at hi
 .have:(sQ 0 l es).length=l.length:=by have:=congrArg List.length g1;simpa using this
  omega
 intro a2 m2 p1 p2 p3 p4 p5 p6 p7;exact hK a2 m2 p1 (xC.trans p2) (p3.trans kZ) p4 p5 p6 p7
end
end Go.Abs
namespace Go.Abs
variable {P:Program} {w0:World}
def toE:lS->Exit
 | .normal=>.normal
 | .exit i=>.exit i
 | .ret=>.ret
section
variable {G:World->Prop} (hG:Good G w0) {cp:fO} {cs:jN} (hP:Dp P G cp) (hS:Fi P G cs) (hL:zJ cs) (yU:P.follows .mixedOrders=true) {sh:Ctx}
include hG hP hS hL yU
theorem ajd{n f nt:Nat}:∀(c:Code) {ic:aK} {ak aC:Env} {m:Mem} {ao:aA} {e:lS} {a:Act} {Q:Exit->Act->World->Prop},oL P f nt c=some ic->exec sh cp cs n ic ak m.aj=some (e,aC,ao)->Ok w0 m->iZ m ak a.tmps->a.tmps.size=nt->
  Fk w0 m a nt aC ao (fun a' w'=>Q (toE e) a' w')->c.wp P Q a m.w:=by
 intro c
 induction c with
 |skip=>intro ic ak aC m ao e a Q hc hx au hr fV hK;simp only[oL,fI] at hc;subst hc;simp only[exec,fI,kB] at hx;obtain⟨rfl,rfl,rfl⟩:=hx;exact wp_skip (hK a m au (Ev.refl m) rfl rfl hr fV rfl)
 |label l=>intro ic ak aC m ao e a Q hc hx au hr fV hK;simp only[oL,fI] at hc;subst hc;simp only[exec,fI,kB] at hx;obtain⟨rfl,rfl,rfl⟩:=hx;exact wp_label (hK a m au (Ev.refl m) rfl rfl hr fV rfl)
 |ret=>intro ic ak aC m ao e a Q hc hx au hr fV hK;simp only[oL,fI] at hc;subst hc;simp only[exec,fI,kB] at hx;obtain⟨rfl,rfl,rfl⟩:=hx;exact wp_ret (hK a m au (Ev.refl m) rfl rfl hr fV rfl)
 |exit id=>intro ic ak aC m ao e a Q hc hx au hr fV hK;simp only[oL,fI] at hc;subst hc;simp only[exec,fI,kB] at hx;obtain⟨rfl,rfl,rfl⟩:=hx;exact wp_exit (hK a m au (Ev.refl m) rfl rfl hr fV rfl)
 |region id ops draw=>
  intro ic ak aC m ao e a Q hc hx au hr fV hK;simp only[oL] at hc;split at hc
  .rename_i xs Mx;cases draw with
   |false=>
    simp only[dL,if_false,fI] at hc;subst hc;simp only[exec] at hx;split at hx
    .rename_i e1 b1 es cQ;simp only[dL,if_false,fI,kB] at hx;obtain⟨rfl,rfl,rfl⟩:=hx;exact apk hG hP hS Mx cQ au hr fV hK
    cases hx
   |true=>
    simp only[if_true] at hc Mx;split at hc
    .rename_i Ae;simp only[cX] at Ae;cases hc;simp only[exec] at hx;split at hx
     .rename_i e1 b1 es cQ;simp only[if_true] at hx;split at hx
      .rename_i hd;cases hx;exact aiE hG hP hS hL yU Mx Ae.1 Ae.2 cQ hd au hr fV hK
      cases hx
     cases hx
    cases hc
  cases hc
 |seq x y ihx ihy=>
  intro ic ak aC m ao e a Q hc hx au hr fV hK;simp only[oL] at hc;split at hc
  .rename_i ix iy h1 h2;cases hc;simp only[exec] at hx;refine wp_seq ?_;split at hx
   .rename_i iA bK sP;refine ihx h1 sP au hr fV ?_;intro a1 m1 k1 k2 k3 k4 k5 k6 k7;subst k4;refine ihy h2 hx k1 k5 k6 ?_;intro a2 m2 p1 p2 p3 p4 p5 p6 p7;exact hK a2 m2 p1 (k2.trans p2) (p3.trans k3) p4 p5 p6 (p7.trans k7)
   rename_i aH;refine ihx h1 hx au hr fV ?_;intro a1 m1 k1 k2 k3 k4 k5 k6 k7;have:=hK a1 m1 k1 k2 k3 k4 k5 k6 k7;cases e with
   |normal=>exact(aH aC ao hx).elim
   |exit i=>exact this
   |ret=>exact this
  cases hc
 |cond x p q ihp ihq=>
  intro ic ak aC m ao e a Q hc hx au hr fV hK;simp only[oL] at hc;split at hc
  .rename_i c' ip iq h1 h2 h3;cases hc;simp only[exec] at hx;split at hx
   .rename_i t ht;have hv:=eB h1 hr;rw[ht] at hv;refine wp_cond (Ez hv) ?_;cases t with
    |true=>simp only[if_true] at hx ⊢;exact ihp h2 hx au hr fV hK
    |false=>simp only[dL,if_false] at hx ⊢;exact ihq h3 hx au hr fV hK
   cases hx
  cases hc
 |block id c ih=>
  intro ic ak aC m ao e a Q hc hx au hr fV hK;simp only[oL,dI] at hc;obtain⟨ic',h1,rfl⟩:=hc;simp only[exec] at hx;refine wp_block ?_;split at hx
  .rename_i i iA bK sP;refine ih h1 sP au hr fV ?_;intro a1 m1 k1 k2 k3 k4 k5 k6 k7;simp only[toE,Exit.inBlock];split at hx
   .rename_i hi;cases hx;rw[if_pos hi];exact hK a1 m1 k1 k2 k3 k4 k5 k6 k7
   rename_i hi;cases hx;rw[if_neg hi];exact hK a1 m1 k1 k2 k3 k4 k5 k6 k7
  rename_i aH;refine ih h1 hx au hr fV ?_;intro a1 m1 k1 k2 k3 k4 k5 k6 k7;have:=hK a1 m1 k1 k2 k3 k4 k5 k6 k7;cases e with
  |normal=>exact this
  |exit i=>exact(aH i aC ao hx).elim
  |ret=>exact this
 |loop c ih=>
  intro ic ak aC m ao e a Q hc hx au hr fV hK;simp only[oL,dI] at hc;obtain⟨ic',h1,rfl⟩:=hc;simp only[exec] at hx;refine wp_loop_rounds n ?_;have key:∀(k:Nat) {ak:Env} {m:Mem} {a:Act},iter (exec sh cp cs n ic') k ak m.aj=some (e,aC,ao)->Ok w0 m->iZ m ak a.tmps->a.tmps.size=nt->Fk w0 m a nt aC ao (fun a' w'=>Q (toE e) a' w')->Code.rounds P c Q k a m.w:=by
   intro k
   induction k with
   |zero=>intro ak m a hx;simp[iter] at hx
   |succ k ihk=>
    intro ak m a hx au hr fV hK;rw[rounds_succ];simp only[iter] at hx;split at hx
    .rename_i iA bK sP;refine ih h1 sP au hr fV ?_;intro a1 m1 k1 k2 k3 k4 k5 k6 k7;subst k4;refine ihk hx k1 k5 k6 ?_;intro a2 m2 p1 p2 p3 p4 p5 p6 p7;exact hK a2 m2 p1 (k2.trans p2) (p3.trans k3) p4 p5 p6 (p7.trans k7)
    rename_i aH;refine ih h1 hx au hr fV ?_;intro a1 m1 k1 k2 k3 k4 k5 k6 k7;have:=hK a1 m1 k1 k2 k3 k4 k5 k6 k7;cases e with
    |normal=>exact(aH aC ao hx).elim
    |exit i=>exact this
    |ret=>exact this
  exact key n hx au hr fV hK
 |scope c ih=>intro ic ak aC m ao e a Q hc hx au hr fV hK;simp only[oL] at hc;refine wp_scope_straight ?_;refine ih hc hx au hr fV ?_;intro a1 m1 k1 k2 k3 k4 k5 k6 k7;have:=hK a1 m1 k1 k2 k3 k4 k5 k6 k7;cases e<;>exact this
 |_=>intro ic ak aC m ao e a Q hc hx;simp only[oL,fI] at hc;subst hc;simp[exec] at hx
end
end Go.Abs
namespace Go.Abs
variable {P:Program} {w0:World}
section
variable{m:Mem}
theorem art{k:Option Nat}{cs:List C}{v:V}{u:Value}(h:pK k cs=some v)(hr:bQ m v u):nJ m v u:=by
 unfold pK at h;split at h
 .split at h
  .cases h;exact hr
  cases h
 split at h
 .cases h;exact hr
 cases h
theorem anF{x v:V}{u:Value}(h:PA x=some v)(hr:bQ m x u):nJ m v u:=by cases x<;>simp only[PA,fI,reduceCtorEq] at h<;>subst h<;>exact hr
theorem ac9{α β:Type}{f:α->Sem β}{x:α}{xs:List α}{y:β}{ys:List β}{w:World}(h1:(f x).run P w=.ok y w)(h2:(xs.mapM f).run P w=.ok ys w):((x::xs).mapM f).run P w=.ok (y::ys) w:=by simp only[List.mapM_cons,Sem.run_bind,h1,h2,Result.andThen_ok,Sem.run_pure]
theorem aps{al:Al}(au:Ok w0 m){ak:Env}{tmps:Array Value}(hr:iZ m ak tmps):∀ {rs:List ResultVar} {l:List (Nat×Option (Option Nat))} {vs:List V},CS P rs=some l->oE al ak m.aj l=some vs->
  ∃ys,(rs.mapM (fun| .tmp t=>pure (tmps.getD t undef)| .cell a t=>do loadVar t (<- asAddr (tmps.getD a undef)):ResultVar->Sem Value)).run P m.w=.ok ys m.w/\Pw (nJ m) vs ys:=by
 intro rs
 induction rs with
 |nil=>intro l vs h1 h2;simp only[CS,fI] at h1;subst h1;simp only[oE,fI] at h2;subst h2;exact⟨[],by simp[Sem.run_pure],rfl,fun j x u p=>by simp at p⟩
 |cons r rs ih=>
  intro l vs h1 h2;have cons:∀ {x:V} {xs:List V} {y:Value} {ys:List Value},nJ m x y->Pw (nJ m) xs ys->Pw (nJ m) (x::xs) (y::ys):=by
   intro x xs y ys p q;refine⟨by simp[q.1],fun j z u a b=>?_⟩;cases j with
   |zero=>simp at a b;subst a b;exact p
   |succ j=>exact q.2 j z u (by simpa using a) (by simpa using b)
  cases r with
  |tmp t=>
   simp only[CS,dI] at h1;obtain⟨l',h3,rfl⟩:=h1;simp only[oE] at h2;split at h2
   .rename_i v q e1 e2;cases h2;obtain⟨ys,g1,g2⟩:=ih h3 e2;exact⟨_::ys,ac9 (by simp[Sem.run_pure]) g1,cons (anF e1 (hr t)) g2⟩
   cases h2
  |cell a t=>
   simp only[CS] at h1;split at h1
   .rename_i k q e1 e2;cases h1;simp only[oE] at h2;split at h2
    .rename_i cs rd ws e3 e4;split at h2
     case isFalse=>cases h2
     simp only[dI] at h2;obtain⟨v,hv,rfl⟩:=h2;obtain⟨ys,g1,g2⟩:=ih e2 e4;obtain⟨ad,y,p1,p2,p3⟩:=acS e1 (aen au e3 (hr a)) hv;exact⟨y::ys,ac9 (by simp[p1,asAddr,p2]) g1,cons (art hv p3) g2⟩
    cases h2
   cases h1
theorem apt{al:Al}(au:Ok w0 m){ak:Env}{tmps:Array Value}(hr:iZ m ak tmps){fn:Func}{l:List (Nat×Option (Option Nat))}{vs:List V}(h1:CS P fn.results.toList=some l)(h2:oE al ak m.aj l=some vs):
  ∃y,(results fn tmps).run P m.w=.ok y m.w/\bQ m (zC vs) y:=by
 obtain⟨ys,g1,g2⟩:=aps au hr h1 h2;have j8:(results fn tmps).run P m.w=.ok (if h:ys.toArray.size=1 then ys.toArray[0] else .tuple ys.toArray) m.w:=by
  unfold results;simp only[Array.mapM_eq_mapM_toList,map_eq_pure_bind,Sem.run_bind,Result.andThen_ok,Sem.run_pure,bind_assoc,pure_bind]
  erw[g1]
  simp only[Result.andThen_ok,Sem.run_pure]
 refine⟨_,j8,?_⟩
 match vs,ys,g2 with
 |[v],[y],g2=>exact bQ.of1 (g2.2 0 v y rfl rfl)
 |[],[],g2=>exact⟨_,rfl,rfl,fun j x u p=>by simp at p⟩
 |v::v'::vs,y::y'::ys,g2=>refine⟨_,rfl,by simpa using g2.1,fun j x u p q=>g2.2 j x u p (by simpa using q)⟩
 |[],y::ys,g2=>exact absurd g2.1 af
 |v::vs,[],g2=>exact absurd g2.1 af
 |[v],y::y'::ys,g2=>exact absurd g2.1 af
 |v::v'::vs,[y],g2=>exact absurd g2.1 af
theorem X3{f:Nat}{fn:aX}(h:BR P f=some fn):∃kf c,P.funcs[f]?=some kf/\kf.body=some c/\(kf.name== "runtime.NumGoroutine")=false/\oL P f kf.ntmps c=some fn.body/\CS P kf.results.toList=some fn.results/\fn.ntmps=kf.ntmps:=by
 unfold BR at h;split at h
 .cases h
 rename_i kf hf;split at h
 .cases h
 rename_i c hc;split at h
 .cases h
 rename_i hn;split at h
 .rename_i b r h1 h2;cases h;exact⟨kf,c,hf,hc,by simpa using hn,h1,h2,rfl⟩
 cases h
def WK(S:Sys)(G:World->Prop):Prop:=∀f vs r,S.prim f vs=some (some r)->Enters S.P f/\ ∀(w:World) (O:Nat->Prop) (args:Array Value),Good G w->(∀c,O c->c<w.heap.size)->Pw (r7 w O) vs args.toList->Calls S.P f args w (uQ w O r)
structure Hq (S:Sys) (G:World->Prop):Prop where
 follow:S.P.follows .mixedOrders=true
 fns:∀f fn,S.fns f=some fn->BR S.P f=some fn
 prim:WK S G
theorem aq5{vs:List V}{args:Array Value}{nt:Nat}(h:Pw (bQ m) vs args.toList)(hl:vs.length<=nt):iZ m (rL vs) (args++Array.replicate (nt-args.size) undef)/\(args++Array.replicate (nt-args.size) undef).size=nt:=by
 have hs:args.size=vs.length:=by simpa using h.1
 constructor
 .intro t;by_cases ht:t<vs.length
  .have h1:rL vs t=vs[t]:=by simp[rL,List.getD,ht]
   have h2:(args++Array.replicate (nt-args.size) undef).getD t undef=args[t]:=by simp[Array.getD_eq_getD_getElem?,Array.getElem?_append,hs,ht]
   rw[h1,h2];exact h.2 t _ _ (by simp[ht]) (by simp[hs,ht])
  have h1:rL vs t=.undef:=by simp[rL,List.getD,tZ (Nat.le_of_not_lt ht)]
  have h2:(args++Array.replicate (nt-args.size) undef).getD t undef=undef:=by simp only[Array.getD_eq_getD_getElem?,Array.getElem?_append,hs,if_neg ht];rw[Array.getElem?_replicate];split<;>rfl
  rw[h1,h2];rfl
 simp;omega
theorem agv(au:Ok w0 m):∀ {o q:List Nat},apart o q=true->(∀id∈o,∃ob,(m.aj id).2=some ob/\ob.fM=true)->(o.map m.σ).Nodup/\ ∀id∈q,id∉o:=by
 intro o
 induction o with
 |nil=>intro q _ _;exact⟨af,fun id _ h=>by simp at h⟩
 |cons i o ih=>
  intro q h hm;simp only[apart,cX,pL] at h;obtain⟨⟨h1,h2⟩,h3⟩:=h;obtain⟨i1,i2⟩:=ih h3 (fun id hid=>hm id (by simp[hid]));have jO:i∉o:=by simpa using h1
  have gH:i∉q:=by simpa using h2
  refine⟨?_,fun id hid=>?_⟩
  .rw[dS,r6];refine⟨fun oY=>?_,i1⟩;obtain⟨j,hj,he⟩:=dQ.1 oY;obtain⟨ob,a1,a2⟩:=hm i af;obtain⟨ob',b1,b2⟩:=hm j (by simp[hj]);exact jO (au.inj j i ob' ob b1 b2 a1 a2 he▸hj)
  simp only[cP,not_or];exact⟨fun e=>gH (e▸hid),i2 id hid⟩
theorem anW{aj:aA}:∀ {cs:List C} {rs:List RC} {o q:List Nat},mT aj cs=some (rs,o,q)->rs.length=cs.length:=by
 intro cs
 induction cs with
 |nil=>intro rs o q h;simp only[mT,fI,kB] at h;obtain⟨rfl,_,_⟩:=h;rfl
 |cons c cs ih=>
  intro rs o q h;simp only[mT] at h;split at h
  .rename_i x o1 q1 xs os qs h1 h2;cases h;simp[ih h2]
  cases h
theorem X1{α β:Type}{f:α->Option (β×List Nat)}:∀ {xs:List α} {ys:List β} {r:List Nat},collect f xs=some (ys,r)->∀id∈r,∃x y q,f x=some (y,q)/\id∈q:=by
 intro xs
 induction xs with
 |nil=>intro ys r h id hid;simp[collect] at h;rw[h.2] at hid;simp at hid
 |cons x xs ih=>
  intro ys r h id hid;simp only[collect] at h;split at h
  .rename_i b p bs q e1 e2;cases h;rcases fg.1 hid with hid|hid
   .exact⟨x,b,p,e1,hid⟩
   exact ih e2 id hid
  cases h
theorem aqS{aj:aA}:∀ {n:Nat} {c:C} {x:PV} {r:List Nat},snap aj n c=some (x,r)->∀id∈r,∃ob,(aj id).2=some ob:=by
 intro n
 induction n with
 |zero=>intro c x r h;simp[snap] at h
 |succ n ih=>
  intro c x r h id hid;have one:∀ {i:Nat} {ob:Ob} {g:Nat},aj i=(g,some ob)->id∈[i]->∃ob,(aj id).2=some ob:=by intro i ob g hb hi;simp at hi;subst hi;exact⟨ob,by rw[hb]⟩
  have coll:∀ {cs:List C} {ps:List PV} {r:List Nat},collect (snap aj n) cs=some (ps,r)->id∈r->∃ob,(aj id).2=some ob:=by intro cs ps r h hi;obtain⟨x,y,q,h1,h2⟩:=X1 h id hi;exact ih h1 id h2
  unfold snap at h;split at h
  .cases h;simp at hid
  .split at h
   .rename_i hb;split at h
    .split at h
     .rename_i hc;cases h;rcases cP.1 hid with e|hid
      .exact one hb (by simp[e])
      exact coll hc hid
     cases h
    cases h
   .rename_i hb;split at h
    .cases h;exact one hb hid
    cases h
   cases h
  .split at h
   .rename_i hb;split at h
    .simp only[dI] at h;obtain⟨e,_,h2⟩:=h;cases h2;exact one hb hid
    cases h
   .rename_i hb;split at h
    .simp only[dI] at h;obtain⟨e,_,h2⟩:=h;cases h2;exact one hb hid
    cases h
   cases h
  .split at h
   .rename_i hb;split at h
    .cases h;exact one hb hid
    cases h
   .rename_i hb;split at h
    .cases h;exact one hb hid
    cases h
   .rename_i hb;split at h
    .split at h
     .rename_i hc;cases h;rcases cP.1 hid with e|hid
      .exact one hb (by simp[e])
      obtain⟨x,y,q,h1,h2⟩:=X1 hc id hid;exact coll h1 h2
     cases h
    cases h
   cases h
  .split at h
   .rename_i hb;split at h
    .cases h;exact one hb hid
    cases h
   .rename_i hb;split at h
    .cases h;exact one hb hid
    cases h
   cases h
  split at h
  .rename_i h1 h2;cases h;rcases fg.1 hid with hid|hid
   .exact coll h1 hid
   exact coll h2 hid
  cases h
theorem anX{aj:aA}:∀ {cs:List C} {rs:List RC} {o q:List Nat},mT aj cs=some (rs,o,q)->∀id∈q,∃ob,(aj id).2=some ob:=by
 intro cs
 induction cs with
 |nil=>intro rs o q h id hid;simp only[mT,fI,kB] at h;rw[<- h.2.2] at hid;simp at hid
 |cons c cs ih=>
  intro rs o q h id hid;simp only[mT] at h;split at h
  .rename_i x o1 q1 xs os qs h1 h2;cases h;rcases fg.1 hid with hid|hid
   .have sn:(snap aj fH c).map (fun(v,r)=>((.p v:RC),([]:List Nat),r))=some (x,o1,q1)->∃ob,(aj id).2=some ob:=by
     intro h1;simp only[dI] at h1;obtain⟨⟨y,r⟩,h3,h4⟩:=h1;cases h4;exact aqS h3 id hid
    unfold ke at h1;split at h1
    .cases h1;simp at hid
    .split at h1
     .split at h1
      .cases h1;simp at hid
      cases h1
     exact sn h1
    exact sn h1
   exact ih h2 id hid
  cases h
theorem anZ{w:World}{O:Nat->Prop}{m0:Mem}(au:Ok w m)(dY:Ev m0 m)(nX:m0.w=w)(akW:∀c,¬m0.fM c)(kZ:m.fr=O){v:V}{r:RV}{val:Value}(h:iU m.aj v=some r)(hr:bQ m v val):uQ w O r (.returned val) m.w:=by
 unfold iU at h;split at h
 .rename_i cs de;split at h
  .rename_i rs o q ho;split at h
   .rename_i oU;cases h;obtain⟨vs,hc,jk⟩:=ajA de hr;obtain⟨g1,g2⟩:=jk rs (anW ho);have hm:=(adS au (Q:=fun _=>False) (fun _ h=>h.elim) ho hc (fun _ _ h=>h)).2;obtain⟨iR,akC⟩:=agv au oU hm;have aaM:∀b,(O b\/b∈o.map m.σ)->m.own b:=by
     intro b hb;rcases hb with hb|hb
     .exact .inl (kZ▸hb)
     obtain⟨id,hid,rfl⟩:=dQ.1 hb;obtain⟨ob,h1,h2⟩:=hm id hid;exact .inr ⟨id,ob,h1,h2,rfl⟩
    have hq:∀id∈q,¬(O (m.σ id)\/m.σ id∈o.map m.σ):=by
     intro id hid hn;obtain⟨ob,hob⟩:=anX ho id hid;by_cases Eh:ob.fM=true
     .rcases hn with hn|hn
      .exact(au.ij id ob hob Eh).2 (kZ▸hn)
      obtain⟨j,hj,he⟩:=dQ.1 hn;obtain⟨ob',b1,b2⟩:=hm j hj;exact akC id hid (au.inj j id ob' ob b1 b2 hob Eh he▸hj)
     have dD:¬m.own (m.σ id):=by
      have Ar:=au.obj id ob hob;cases ob<;>simp[Ob.fM] at Eh
      .obtain⟨_,_,_,_,_,dD⟩:=Ar;exact dD
      .obtain⟨_,_,_,_,_,_,_,_,_,dD⟩:=Ar;exact dD
      obtain⟨_,_,_,_,_,dD⟩:=Ar;exact dD
     exact dD (aaM _ hn)
    obtain⟨tG,_⟩:=adS au aaM ho hc hq;subst nX;refine⟨val,o.map m.σ,rfl,⟨dY.os,dY.tape,dY.output,dY.size,fun c hc=>dY.keep c hc (akW c)⟩,iR,fun c hc=>?_,vs,g2,by rw[g1];exact tG⟩;obtain⟨id,hid,rfl⟩:=dQ.1 hc;obtain⟨ob,h1,h2⟩:=hm id hid;exact⟨(au.ij id ob h1 h2).1,(au.obj id ob h1).lt⟩
   cases h
  cases h
 cases h
theorem r7.vrel{w:World}{O:Nat->Prop}(hw:m.w=w)(ho:m.own=O){x:V}{v:Value}(h:r7 w O x v):bQ m x v:=by
 subst hw ho;cases x with
 |undef=>exact h.elim
 |tup _=>exact h.elim
 |one c=>
  cases c with
  |p x=>exact mS h
  |_=>exact h.elim
 |agg cs=>obtain⟨arr,ps,rfl,rfl,hp⟩:=h;exact bQ.agg.2 ⟨arr,rfl,hp.CX⟩
theorem apK{sh:Ctx}{cp:fO}{cs:jN}{n:Nat}{fn:aX}{args:List V}{aj ao:aA}{v:V}(h:qU sh cp cs n fn args aj=some (v,ao)):
  ∃e ak vs,exec sh cp cs n fn.body (rL args) aj=some (e,ak,ao)/\(e=.normal\/e=.ret)/\oE sh.al ak ao fn.results=some vs/\v=zC vs:=by
 unfold qU at h;split at h
 .rename_i ak b hx;simp only[dI] at h;obtain⟨vs,h1,h2⟩:=h;cases h2;exact⟨_,ak,vs,hx,.inl rfl,h1,rfl⟩
 .rename_i ak b hx;simp only[dI] at h;obtain⟨vs,h1,h2⟩:=h;cases h2;exact⟨_,ak,vs,hx,.inr rfl,h1,rfl⟩
 cases h
theorem aeG{G:World->Prop}(hG:Good G w0){cp:fO}{cs:jN}(hP:Dp P G cp)(hS:Fi P G cs)(hL:zJ cs)(yU:P.follows .mixedOrders=true){sh:Ctx}{n f:Nat}{fn:aX}(hc:BR P f=some fn){vs:List V}{m:Mem}{v:V}{ao:aA}{args:Array Value}(h:qU sh cp cs n fn vs m.aj=some (v,ao))
  (hl:vs.length<=fn.ntmps) (au:Ok w0 m) (ha:Pw (bQ m) vs args.toList):Calls P f args m.w (Kk w0 m v ao):=by
 obtain⟨kf,c,h1,h2,h3,h4,h5,h6⟩:=X3 hc;obtain⟨e,ak,rs,hx,he,Au,rfl⟩:=apK h;refine calls_of_wp h1 h2 ?_;obtain⟨s1,s2⟩:=aq5 (nt:=kf.ntmps) ha (by rw[<- h6];exact hl);refine ajd hG hP hS hL yU c h4 hx au s1 s2 ?_;intro a' m' k1 k2 k3 k4 k5 k6 k7;subst k4;obtain⟨y,g1,g2⟩:=apt k1 k5 h5 Au;have:bodyPost P kf (Kk w0 m (zC rs) m'.aj) .normal a' m'.w:=⟨k7,y,g1,y,m',rfl,rfl,k1,k2,k3,rfl,g2⟩;rcases he with rfl|rfl
 .exact this
 exact this
theorem enters_of{f:Nat}{fn:aX}(hc:BR P f=some fn):Enters P f:=by obtain⟨kf,c,h1,h2,h3,_⟩:=X3 hc;exact⟨kf,c,h1,h2,h3⟩
theorem sound{S:Sys}{G:World->Prop}(h:Hq S G):∀n,Dp S.P G (gn S n)/\Fi S.P G (gE S n)/\zJ (gE S n):=by
 intro n
 induction n with
 |zero=>exact⟨fun f vs r h=>by simp[gn] at h,fun f vs al aj v ao h=>by simp[gE] at h,fun f vs al aj v ao h=>by simp[gE] at h⟩
 |succ n ih=>
  obtain⟨hP,hS,hL⟩:=ih;refine⟨?_,?_,?_⟩
  .intro f vs r hc;rw[gn] at hc;split at hc
   .rename_i r' hp;subst hc;exact h.prim f vs r hp
   split at hc
   .rename_i fn hfn;have u4:=h.fns f fn hfn;split at hc
    .rename_i hl;refine⟨enters_of u4,fun w O args hG hO ha=>?_⟩;unfold EP at hc;split at hc
     .rename_i v ao hr
      let m0:Mem:=⟨w,zo,fun _=>0,fun _=>0,O⟩
      have alk:m0.own=O:=by
       funext c;apply propext;constructor
       .rintro (h|⟨id,o,h,_⟩)
        .exact h
        cases h
       exact .inl
      have au:Ok w m0:=⟨rfl,rfl,rfl,bN _,fun _ _=>rfl,(fun id o h=>by cases h),(fun id o h=>by cases h),hO,(fun id eY o o' h=>by cases h)⟩;have hav:Pw (bQ m0) vs args.toList:=⟨ha.1,fun j x u p q=>(ha.2 j x u p q).vrel rfl alk⟩;refine(aeG hG hP hS hL h.follow u4 (m:=m0) hr hl au hav).mono ?_;rintro e w' ⟨val,m',rfl,rfl,q1,q2,q3,q4,q5⟩
      subst q4;exact anZ (m0:=m0) q1 q2 rfl (fun c ⟨id,o,h,_⟩=>by cases h) q3 hc q5
     cases hc
    cases hc
   cases hc
  .intro f vs al aj v ao hc;rw[gE] at hc;split at hc
   .rename_i fn hfn;have u4:=h.fns f fn hfn;split at hc
    .rename_i hl;refine⟨enters_of u4,fun w0 m args hG au hb ha=>?_⟩;subst hb;exact aeG hG hP hS hL h.follow u4 hc hl au ha
    cases hc
   cases hc
  intro f vs al aj v ao hc;rw[gE] at hc;split at hc
  .rename_i fn hfn;split at hc
   .rename_i hl;obtain⟨l1,l2⟩:=apJ hL hc;refine⟨l1,fun bh h2=>?_⟩;obtain⟨b3,h3,h4⟩:=l2 bh h2;exact⟨b3,by rw[gE];simp only[hfn,hl,if_true];exact h3,h4⟩
   cases hc
  cases hc
theorem aI.calls{S:Sys}{G:World->Prop}(h:Hq S G){f:Nat}{vs:List V}{r:RV}(hc:aI S f vs r)(w:World)(hG:Good G w)(args:Array Value)(ha:Pw (r7 w fun _=>False) vs args.toList):Calls S.P f args w (uQ w (fun _=>False) r):=by obtain⟨n,hn⟩:=hc;exact((sound h n).1 f vs r hn).2 w _ args hG (fun c h=>h.elim) ha
end
end Go.Abs
namespace Go.Abs
section
variable{args:List V}{cs:jN}{cp:fO}{sh:Ctx}
def BZ(op:BinOp)(a b:Nat)(other:Option V):Option V:=
 match op with
 | .add=>bif Nat.ble (Nat.add a b) 9223372036854775807 then some (.one (.p (.int .i64 (.ofNat (Nat.add a b))))) else other
 | .sub=>bif Nat.ble b a then bif Nat.ble a 9223372036854775807 then some (.one (.p (.int .i64 (.ofNat (Nat.sub a b))))) else other else other
 | .mul=>bif Nat.ble (Nat.mul a b) 9223372036854775807 then some (.one (.p (.int .i64 (.ofNat (Nat.mul a b))))) else other
 | .eql=>some (.one (.p (.bool (Nat.beq a b))))
 | .neq=>some (.one (.p (.bool (!Nat.beq a b))))
 | .lss=>some (.one (.p (.bool (Nat.ble (Nat.succ a) b))))
 | .leq=>some (.one (.p (.bool (Nat.ble a b))))
 | .gtr=>some (.one (.p (.bool (Nat.ble (Nat.succ b) a))))
 | .geq=>some (.one (.p (.bool (Nat.ble b a))))
 | .rem=>bif Nat.beq b 0 then other else some (.one (.p (.int .i64 (.ofNat (Nat.mod a b)))))
 |_=>other
def Rj(op:BinOp)(x y:V):Option V:=
 match x,y with
 | .one (.p (.int .i64 (.ofNat a))),.one (.p (.int .i64 (.ofNat b)))=>BZ op a b (qB op x y)
 |_,_=>qB op x y
theorem Nq{n:Nat}(h:n<=9223372036854775807):IntKind.i64.wrap (n:Int)=n:=by have e:(2 ^ IntKind.i64.bits:Int)=18446744073709551616:=ae;have e2:(2 ^ (IntKind.i64.bits-1):Int)=9223372036854775808:=ae;unfold IntKind.wrap;simp only[e,e2];have h1:(n:Int)%18446744073709551616=n:=aa;rw[h1];have h2:¬(n:Int)≥9223372036854775808:=aa;simp[h2]
theorem ajp(op:BinOp)(a b:Nat):BZ op a b (qB op (.one (.p (.int .i64 (.ofNat a)))) (.one (.p (.int .i64 (.ofNat b)))))=qB op (.one (.p (.int .i64 (.ofNat a)))) (.one (.p (.int .i64 (.ofNat b)))):=by
 have hb:∀ {x:Bool} {u v w:Option V},(x=true->u=w)->v=w->(bif x then u else v)=w:=by
  intro x u v w h1 h2;cases x with
  |false=>exact h2
  |true=>exact h1 rfl
 have ofn:∀n:Nat,(Int.ofNat n:Int)=(n:Int):=fun _=>rfl;have ble:∀ {a b:Nat},Nat.ble a b=decide ((a:Int)<=(b:Int)):=by
  intro a b;cases h:Nat.ble a b with
  |true=>have:=iv h;symm;simp;omega
  |false=>
   symm;simp;have:¬a<=b:=fun hh=>by rw[Nat.ble_eq_true_of_le hh] at h;cases h
   omega
 have beq:∀ {a b:Nat},Nat.beq a b=((a:Int)==(b:Int)):=by
  intro a b;by_cases h:a=b
  .subst h;simp
  have h1:Nat.beq a b=false:=by
   cases e:Nat.beq a b with
   |false=>rfl
   |true=>exact(h (vH e)).elim
  rw[h1];symm;simp;omega
 cases op
 case add=>refine hb (fun h=>?_) rfl;have h:a+b<=9223372036854775807:=iv h;have:((a:Int)+(b:Int))=((a+b:Nat):Int):=aa;simp only[qB,ti,true_or,if_true,ng,ofn];rw[this,Nq h];rfl
 case sub=>refine hb (fun h0=>hb (fun h=>?_) rfl) rfl;have h:=iv h;have h0:=iv h0;have:((a:Int)-(b:Int))=((a-b:Nat):Int):=aa;simp only[qB,ti,true_or,if_true,ng,ofn];rw[this,Nq aa];rfl
 case mul=>refine hb (fun h=>?_) rfl;have h:a*b<=9223372036854775807:=iv h;have:((a:Int)*(b:Int))=((a*b:Nat):Int):=af;simp only[qB,ti,true_or,if_true,ng,ofn];rw[this,Nq h];rfl
 case rem=>
  by_cases h0:b=0
  .subst h0;rfl
  have h1:Nat.beq b 0=false:=by
   cases e:Nat.beq b 0 with
   |false=>rfl
   |true=>exact(h0 (vH e)).elim
  have h2:¬(b:Int)=0:=aa;simp only[BZ,h1,cond_false,qB,ti,true_or,if_true,ng,ofn,if_neg h2];rfl
 case eql=>simp only[BZ,qB,ti,true_or,if_true,ng,ofn,beq]
 case neq=>simp only[BZ,qB,ti,true_or,if_true,ng,ofn,beq];rfl
 case lss=>simp only[BZ,qB,ti,true_or,if_true,ng,ofn,ble];congr 4
 case leq=>simp only[BZ,qB,ti,true_or,if_true,ng,ofn,ble]
 case gtr=>simp only[BZ,qB,ti,true_or,if_true,ng,ofn,ble];congr 4
 case geq=>simp only[BZ,qB,ti,true_or,if_true,ng,ofn,ble]
 all_goals rfl
theorem ahp(op:BinOp)(x y:V):Rj op x y=qB op x y:=by
 unfold Rj;split
 .exact ajp _ _ _
 rfl
def BD(v:V):Option Nat:=
 match v with
 | .one (.p (.int _ (.ofNat n)))=>some n
 |v=>oI v
theorem Xi(v:V):BD v=oI v:=by
 unfold BD;split
 .simp[oI]
 rfl
def HC(ak:Env)(d:Nat):Option aR->Option Nat
 |none=>some d
 |some a=>BD (ev ak a)
theorem ahq(ak:Env)(d:Nat)(a:Option aR):HC ak d a=rm ak d a:=by
 cases a with
 |none=>rfl
 |some a=>simp only[HC,rm,Xi]
def aoL(ak:Env)(x:aR):ft:=.done (ev ak x) [] []
def aoP(ak:Env)(c:aR)(a:aR)(b:aR):ft:=match ev ak c with
  | .one (.p (.bool t))=>.done (if t then ev ak a else ev ak b) [] []
  |_=>.fail
def aoo(aj:aA)(s:Nat)(z:List PV):ft:=.done (.one (.aY s ((aj s).1+1) 0)) [(s,((aj s).1+1,some (.var (z.map .p))))] [s]
def aor(ak:Env)(aj:aA)(s:Nat)(x:aR):ft:=match rq (ev ak x) with
  |some cs=>.done (.one (.aY s ((aj s).1+1) 0)) [(s,((aj s).1+1,some (.var cs)))] [s]
  |none=>.fail
def aou(ak:Env)(z:List PV)(ps:List (Nat×Nat×aR)):ft:=match xU ak ps with
  |some q=>.done (.agg (fill (z.map .p) q)) [] []
  |none=>.fail
def aos(ak:Env)(aj:aA)(s:Nat)(ty:Nat)(sz:Nat)(ps:List aR):ft:=match yJ ak sz ps with
  |some es=>match Bj es with
   |some qs=>.done (.one (.hsl s ((aj s).1+1) sz 0 es.length)) [(s,((aj s).1+1,some (.arr ty sz qs)))] [s]
   |none=>.done (.one (.hsl s ((aj s).1+1) sz 0 es.length)) [(s,((aj s).1+1,some (.iN ty sz es)))] [s]
  |none=>.fail
def aoE(ak:Env)(aj:aA)(k:Option Nat)(x:aR):ft:=match A7 aj (ev ak x) with
  |some (cs,r)=>match pK k cs with
   |some v=>.done v [] r
   |none=>.fail
  |none=>.fail
def aoS(ak:Env)(aj:aA)(n:Nat)(a:aR)(x:aR):ft:=match rq (ev ak x) with
  |some xs=>zD aj (ev ak a) n xs
  |none=>.fail
def aoN(ak:Env)(x:aR):ft:=match ev ak x with
  | .one (.aY id g o)=>.done (.one (.aY id g o)) [] []
  | .one (.dC id g i o)=>.done (.one (.dC id g i o)) [] []
  | .one (.p (.box cs))=>.done (.one (.p (.box cs))) [] []
  | .one (.hfn f a b)=>.done (.one (.hfn f a b)) [] []
  | .one (.p (.fn f a b))=>.done (.one (.p (.fn f a b))) [] []
  |_=>.fail
def ad9(ak:Env)(op:BinOp)(x:aR)(y:aR):ft:=match Rj op (ev ak x) (ev ak y) with
  |some v=>.done v [] []
  |none=>.fail
def aoz(ak:Env)(k:uN)(neg:Bool)(x:aR)(y:aR):ft:=match BY k (ev ak x) (ev ak y) with
  |some b=>.done (.one (.p (.bool (if neg then !b else b)))) [] []
  |none=>.fail
def aoT(ak:Env)(op:UnOp)(x:aR):ft:=match op,ev ak x with
  | .not,.one (.p (.bool b))=>.done (.one (.p (.bool (!b)))) [] []
  | .neg,.one (.p (.int k n))=>.done (.one (.p (.int k (k.wrap (0-n))))) [] []
  |_,_=>.fail
def aox(ak:Env)(k:IntKind)(x:aR):ft:=match ev ak x with
  | .one (.p (.int _ n))=>.done (.one (.p (.int k (k.wrap n)))) [] []
  |_=>.fail
def aot(ak:Env)(aj:aA)(x:aR):ft:=match fF aj (ev ak x) with
  |some (es,r,[])=>match bytesOf es with
   |some bs=>.done (.one (.p (.str ⟨bs.toArray⟩))) [] r
   |none=>.fail
  |_=>.fail
def aoI(ak:Env)(f:Nat)(a:List aR)(b:List aR):ft:=match vr ak a,vr ak b with
  |some x,some y=>.done (.one (.hfn f x y)) [] []
  |_,_=>.fail
def aoJ(aj:aA)(s:Nat)(ag:Bool):ft:=.done (.one (.j8 s ((aj s).1+1))) [(s,((aj s).1+1,some (.map ag [])))] [s]
def aeb(ak:Env)(aj:aA)(s:Nat)(ty:Nat)(sz:Nat)(bytes:Nat)(z:List PV)(l:aR)(c:aR):ft:=match BD (ev ak l),BD (ev ak c) with
  |some n,some m=>if n=m/\n*bytes<=room then
    .done (.one (.hsl s ((aj s).1+1) sz 0 n)) [(s,((aj s).1+1,some (.arr ty sz (List.replicate n z))))] [s]
   else .fail
  |_,_=>.fail
def aed(ak:Env)(sz:Nat)(x:aR)(lo:Option aR)(hi:Option aR):ft:=match xR (ev ak x) with
  |some n=>match HC ak 0 lo,HC ak n hi with
   |some l,some h=>CO (ev ak x) sz l h
   |_,_=>.fail
  |none=>.fail
def aee(ak:Env)(x:aR)(lo:Option aR)(hi:Option aR):ft:=match ev ak x with
  | .one (.p (.str s))=>match HC ak 0 lo,HC ak s.size hi with
   |some l,some h=>if l<=h/\h<=s.size then .done (.one (.p (.str (s.extract l h)))) [] [] else .fail
   |_,_=>.fail
  |_=>.fail
def aoB(ak:Env)(off:Nat)(x:aR):ft:=match ev ak x with
  | .one (.aY id g o)=>.done (.one (.aY id g (o+off))) [] []
  | .one (.dC id g i o)=>.done (.one (.dC id g i (o+off))) [] []
  | .one (.p (.box cs))=>.done (.one (.p (.box (cs.drop off)))) [] []
  |_=>.fail
def aea(ak:Env)(sz:Nat)(x:aR)(i:aR):ft:=match BD (ev ak i),ev ak x with
  |some n,.one (.p (.sl es))=>match es[n]? with
   |some e=>if e.length=sz then .done (.one (.p (.box e))) [] [] else .fail
   |none=>.fail
  |some n,.one (.hsl id g z off len)=>if n<len/\z=sz then .done (.one (.dC id g (off+n) 0)) [] [] else .fail
  |_,_=>.fail
def ad7(ak:Env)(len:Nat)(sz:Nat)(x:aR)(i:aR):ft:=match BD (ev ak i),ev ak x with
  |some n,.one (.aY id g o)=>if n<len then .done (.one (.aY id g (o+n*sz))) [] [] else .fail
  |some n,.one (.dC id g j o)=>if n<len then .done (.one (.dC id g j (o+n*sz))) [] [] else .fail
  |some n,.one (.p (.box cs))=>if n<len then .done (.one (.p (.box (cs.drop (n*sz))))) [] [] else .fail
  |_,_=>.fail
def aoC(ak:Env)(off:Nat)(k:Option Nat)(x:aR):ft:=match ev ak x with
  | .agg cs=>match pK k (cs.drop off) with
   |some v=>.done v [] []
   |none=>.fail
  |_=>.fail
def ad8(ak:Env)(len:Nat)(sz:Nat)(k:Option Nat)(x:aR)(i:aR):ft:=match BD (ev ak i),ev ak x with
  |some n,.agg cs=>if n<len then
    match pK k (cs.drop (n*sz)) with
    |some v=>.done v [] []
    |none=>.fail
   else .fail
  |_,_=>.fail
def aec(ak:Env)(x:aR)(i:aR):ft:=match BD (ev ak i),ev ak x with
  |some n,.one (.p (.str s))=>match s[n]? with
   |some b=>.done (.one (.p (.int .u8 b.toNat))) [] []
   |none=>.fail
  |_,_=>.fail
def aoF(ak:Env)(aj:aA)(kd:Nat)(z:List PV)(agg:Bool)(ok:Bool)(x:aR)(k:aR):ft:=match mapOf aj agg (ev ak x),ev ak k with
  |some (es,r),.one (.p q)=>if iC q≠kd then .fail else match oO q es 0 with
   |some f=>match mapVal agg ((f.map (·.2)).getD z) with
    |some w=>.done (if ok then .tup [w,.one (.p (.bool f.isSome))] else w) [] r
    |none=>.fail
   |none=>.fail
  |_,_=>.fail
def aoq:ft:=.fail
def aoM(ak:Env)(aj:aA)(kd:Nat)(ag:Bool)(m:aR)(k:aR)(v:aR):ft:=match ev ak m,ev ak k,w8 ag (ev ak v) with
  | .one (.j8 id g),.one (.p q),some cs=>match aj id,Bi cs with
   |(g',some (.map rl es)),some ps=>if g'=g/\rl=ag/\iC q=kd then
     match oO q es 0 with
     |some (some (i,_))=>.done .undef [(id,(g,some (.map ag (es.set i (q,ps)))))] [id]
     |some none=>.done .undef [(id,(g,some (.map ag (es++[(q,ps)]))))] [id]
     |none=>.fail
    else .fail
   |_,_=>.fail
  |_,_,_=>.fail
def aoA(ak:Env)(x:aR)(i:Nat):ft:=match ev ak x with
  | .tup vs=>match vs[i]? with
   |some v=>.done v [] []
   |none=>.fail
  |_=>.fail
def aov(shared:Nat->Bool)(ak:Env)(aj:aA)(s:Nat)(f:aR)(as:List aR):ft:=match DF ak f with
  |some (g,a,b)=>
   if shared g then .sc g (a.map .one++as.map (ev ak)++b.map .one)
   else match Bf aj (a.map .one++as.map (ev ak)++b.map .one) with
    |some (vs,r)=>.pc g vs r s
    |none=>.fail
  |none=>.fail
def aoR(ak:Env)(x:aR):ft:=match ev ak x with
  | .one (.p (.str s))=>.done (.one (.p (.int .i64 s.size))) [] []
  |_=>.fail
def aoD(ak:Env)(x:aR):ft:=match xR (ev ak x) with
  |some n=>.done (.one (.p (.int .i64 n))) [] []
  |none=>.fail
def aoK(ak:Env)(aj:aA)(x:aR):ft:=match zj aj (ev ak x) with
  |some (n,r)=>.done (.one (.p (.int .i64 n))) [] r
  |none=>.fail
def aop(ak:Env)(aj:aA)(s:Nat)(ty:Nat)(sz:Nat)(bytes:Nat)(d:aR)(x:aR):ft:=fQ aj s ty sz bytes (ev ak d) (ev ak x)
def aoG(ak:Env)(x:aR)(y:aR):ft:=match ev ak x,ev ak y with
  | .one (.p (.int k a)),.one (.p (.int _ b))=>.done (.one (.p (.int k (if b>a then b else a)))) [] []
  |_,_=>.fail
def aoH(ak:Env)(x:aR)(y:aR):ft:=match ev ak x,ev ak y with
  | .one (.p (.int k a)),.one (.p (.int _ b))=>.done (.one (.p (.int k (if b<a then b else a)))) [] []
  |_,_=>.fail
def aow(ak:Env)(aj:aA)(z:List PV)(x:aR):ft:=match ev ak x with
  | .one (.p .nils)=>.done (.tup []) [] []
  | .one (.p (.sl []))=>.done (.tup []) [] []
  | .one (.hsl id g _ off len)=>if len=0 then .done (.tup []) [] [] else match aj id with
   |(g',some (.arr ty sz es))=>if g'=g/\sz=z.length/\off+len<=es.length then .done (.tup []) [(id,(g,some (.arr ty sz (eX es off (List.replicate len z)))))] [id] else .fail
   |_=>.fail
  |_=>.fail
def VS(shared:Nat->Bool)(ak:Env)(aj:aA):lB->ft
 | .jU x=>aoL ak x
 | .pick c a b=>aoP ak c a b
 | .alloc s z=>aoo aj s z
 | .box s x=>aor ak aj s x
 | .build z ps=>aou ak z ps
 | .fi s ty sz ps=>aos ak aj s ty sz ps
 | .load k x=>aoE ak aj k x
 | .store n a x=>aoS ak aj n a x
 | .xT x=>aoN ak x
 | .bin op x y=>ad9 ak op x y
 | .eqc k neg x y=>aoz ak k neg x y
 | .un op x=>aoT ak op x
 | .conv k x=>aox ak k x
 | .bstr x=>aot ak aj x
 | .mkfn f a b=>aoI ak f a b
 | .mkmap s ag=>aoJ aj s ag
 | .rS s ty sz bytes z l c=>aeb ak aj s ty sz bytes z l c
 | .slice sz x lo hi=>aed ak sz x lo hi
 | .sslice x lo hi=>aee ak x lo hi
 | .xf off x=>aoB ak off x
 | .ql sz x i=>aea ak sz x i
 | .ud len sz x i=>ad7 ak len sz x i
 | .fld off k x=>aoC ak off k x
 | .aidx len sz k x i=>ad8 ak len sz k x i
 | .sidx x i=>aec ak x i
 | .lookup kd z agg ok x k=>aoF ak aj kd z agg ok x k
 | .bad=>aoq
 | .mupd kd ag m k v=>aoM ak aj kd ag m k v
 | .extract x i=>aoA ak x i
 | .call s f as=>aov shared ak aj s f as
 | .slen x=>aoR ak x
 | .CG x=>aoD ak x
 | .mlen x=>aoK ak aj x
 | .append s ty sz bytes d x=>aop ak aj s ty sz bytes d x
 | .max x y=>aoG ak x y
 | .min x y=>aoH ak x y
 | .clear z x=>aow ak aj z x
theorem aon(shared:Nat->Bool)(ak:Env)(aj:aA)(o:lB):VS shared ak aj o=bt shared ak aj o:=by
 cases o<;>first
  |rfl
  |simp only[VS,bt,ad9,aeb,aed,aee,aea,ad7,ad8,aec,ahp,Xi,ahq]<;>rfl
inductive Tr where
 |leaf
 |node (v:V) (l r:Tr)
noncomputable def Tr.get (t:Tr):Nat->V:=Tr.rec (motive:=fun _=>Nat->V) (fun _=>.undef) (fun v _ _ gl gr n=>bif Nat.beq n 0 then v else bif Nat.beq (Nat.mod n 2) 1 then gl (Nat.div n 2) else gr (Nat.sub (Nat.div n 2) 1)) t
noncomputable def Tr.single (k:Nat):Nat->V->Tr:=Nat.rec (motive:=fun _=>Nat->V->Tr) (fun _ _=>.leaf) (fun _ ih n x=>bif Nat.beq n 0 then .node x .leaf .leaf else bif Nat.beq (Nat.mod n 2) 1 then .node .undef (ih (Nat.div n 2) x) .leaf else .node .undef .leaf (ih (Nat.sub (Nat.div n 2) 1) x)) k
noncomputable def Tr.set (t:Tr):Nat->V->Tr:=Tr.rec (motive:=fun _=>Nat->V->Tr) (fun n x=>Tr.single 12 n x) (fun v l r sl sr n x=>bif Nat.beq n 0 then .node x l r else bif Nat.beq (Nat.mod n 2) 1 then .node v (sl (Nat.div n 2) x) r else .node v l (sr (Nat.sub (Nat.div n 2) 1) x)) t
theorem EH{a b:Nat}(h:a≠b):Nat.beq a b=false:=by
 cases e:Nat.beq a b with
 |false=>rfl
 |true=>exact(h (vH e)).elim
theorem aj9(n:Nat):Tr.leaf.get n=.undef:=rfl
theorem OA(v:V)(l r:Tr)(n:Nat):(Tr.node v l r).get n=if n=0 then v else if n%2=1 then l.get (n/2) else r.get (n/2-1):=by
 show(bif Nat.beq n 0 then v else bif Nat.beq (n%2) 1 then l.get (n/2) else r.get (n/2-1))=_;by_cases h0:n=0
 .subst h0;rfl
 rw[EH h0,if_neg h0];by_cases h1:n%2=1
 .rw[h1];rfl
 rw[EH h1,if_neg h1];rfl
theorem afg(f:Tr->Tr)(g:Tr->Tr)(v:V)(l r:Tr)(n m:Nat)(x:V)(hl:n%2=1->(f l).get (m/2)=if m/2=n/2 then x else l.get (m/2))(hr:n≠0->n%2≠1->(g r).get (m/2-1)=if m/2-1=n/2-1 then x else r.get (m/2-1)):
  (bif Nat.beq n 0 then Tr.node x l r else bif Nat.beq (n%2) 1 then .node v (f l) r else .node v l (g r)).get m=if m=n then x else (Tr.node v l r).get m:=by
 by_cases h0:n=0
 .subst h0;simp only[Nat.beq_refl,cond_true,OA];by_cases hm:m=0<;>simp[hm]
 rw[EH h0];by_cases h1:n%2=1
 .rw[h1];simp only[cond_false,Nat.beq_refl,cond_true,OA];by_cases hm:m=0
  .subst hm;rw[if_pos rfl,if_neg (fun e=>h0 e.symm),if_pos rfl]
  rw[if_neg hm];by_cases qM:m%2=1
  .rw[if_pos qM,hl h1];by_cases he:m=n
   .subst he;simp
   rw[if_neg he,if_neg aa,if_neg hm,if_pos qM]
  rw[if_neg qM,if_neg aa,if_neg hm,if_neg qM]
 rw[EH h1];simp only[cond_false,OA];by_cases hm:m=0
 .subst hm;rw[if_pos rfl,if_neg (fun e=>h0 e.symm),if_pos rfl]
 rw[if_neg hm];by_cases qM:m%2=1
 .rw[if_pos qM,if_neg aa,if_neg hm,if_pos qM]
 rw[if_neg qM,hr h0 h1];by_cases he:m=n
 .subst he;simp
 rw[if_neg he,if_neg aa,if_neg hm,if_neg qM]
theorem aqy:∀(k n m:Nat) (x:V),n+1<2 ^ k->(Tr.single k n x).get m=if m=n then x else Tr.leaf.get m:=by
 intro k
 induction k with
 |zero=>intro n m x h;simp at h
 |succ k ih=>
  intro n m x h;have hp:2 ^ (k+1)=2*2 ^ k:=by rw[Nat.pow_succ];omega
  have:=afg (fun _=>Tr.single k (n/2) x) (fun _=>Tr.single k (n/2-1) x) .undef .leaf .leaf n m x (fun _=>ih _ _ _ aa) (fun _ _=>ih _ _ _ aa);have e:(Tr.node .undef .leaf .leaf).get m=Tr.leaf.get m:=by rw[OA];simp[aj9]
  rw[e] at this;exact this
theorem Tr.aaG:∀(t:Tr) (n m:Nat) (x:V),n+1<2 ^ 12->(t.set n x).get m=if m=n then x else t.get m:=by
 intro t
 induction t with
 |leaf=>intro n m x h;exact aqy 12 n m x h
 |node v l r ihl ihr=>intro n m x h;exact afg (fun l=>l.set (n/2) x) (fun r=>r.set (n/2-1) x) v l r n m x (fun _=>ihl _ _ _ aa) (fun _ _=>ihr _ _ _ aa)
abbrev BL:=List (Nat×(Nat×Option Ob))
noncomputable def Ik (b:BL) (n:Nat):Nat×Option Ob:=List.rec (motive:=fun _=>Nat×Option Ob) (0,none) (fun p _ ih=>bif Nat.beq p.1 n then p.2 else ih) b
noncomputable def M9:BL->Nat->Nat×Option Ob->BL
 |[],n,x=>[(n,x)]
 |(i,o)::r,n,x=>bif Nat.beq i n then (i,x)::r else (i,o)::M9 r n x
theorem aj7:∀(b:BL) (n:Nat) (x:Nat×Option Ob) (m:Nat),Ik (M9 b n x) m=if m=n then x else Ik b m:=by
 intro b
 induction b with
 |nil=>
  intro n x m;simp only[M9,Ik];by_cases h:m=n
  .subst h;simp
  have:Nat.beq n m=false:=EH fun e=>h e.symm;simp[this,h]
 |cons p b ih=>
  obtain⟨i,o⟩:=p;intro n x m;simp only[M9];by_cases h:i=n
  .subst h;simp only[Nat.beq_refl,cond_true,Ik];by_cases hm:m=i
   .subst hm;simp
   have:Nat.beq i m=false:=EH fun e=>hm e.symm;simp[this,hm]
  have:Nat.beq i n=false:=EH h;simp only[this,cond_false,Ik];by_cases hm:i=m
  .subst hm;simp[h]
  have:Nat.beq i m=false:=EH hm;simp only[this,cond_false];exact ih n x m
noncomputable def pJ (t:Tr):Env:=fun i=>t.get i
noncomputable def lQ (b:BL):aA:=fun i=>Ik b i
noncomputable def JK:Nat->List V->Tr->Tr
 |_,[],t=>t
 |i,a::r,t=>JK (i+1) r (t.set i a)
theorem arH:∀(l:List V) (i:Nat) (t:Tr) (m:Nat),i+l.length<4095->(JK i l t).get m=if i<=m/\m<i+l.length then l.getD (m-i) .undef else t.get m:=by
 intro l
 induction l with
 |nil=>intro i t m _;simp[JK];intro h1 h2;omega
 |cons a r ih=>
  intro i t m h;simp only[dh] at h ⊢;rw[JK,ih (i+1) _ m aa,Tr.aaG t i m a aa];by_cases h1:m=i
  .subst h1;rw[if_neg aa,if_pos rfl,if_pos aa];simp
  rw[if_neg h1];by_cases h2:i+1<=m/\m<i+1+r.length
  .rw[if_pos h2,if_pos aa];obtain⟨k,rfl⟩:∃k,m=i+1+k:=⟨m-(i+1),aa⟩;rw[show i+1+k-(i+1)=k by omega,show i+1+k-i=k+1 by omega];simp
  rw[if_neg h2,if_neg aa]
theorem arD(h:args.length<4095):pJ (JK 0 args .leaf)=rL args:=by
 funext m;unfold pJ rL;rw[arH args 0 .leaf m aa];by_cases hm:m<args.length
 .rw[if_pos aa];rfl
 rw[if_neg aa];simp[Tr.get,List.getD,tZ (Nat.le_of_not_lt hm)]
noncomputable def Wz {α:Type} (n:Nat) (k:Nat->α):α:=match n with
 |0=>k 0
 |m+1=>k (m+1)
noncomputable def Wy {α:Type} (z:Int) (k:Int->α):α:=match z with
 | .ofNat n=>Wz n fun n=>k (.ofNat n)
 | .negSucc n=>Wz n fun n=>k (.negSucc n)
noncomputable def WA {α:Type} (v:V) (k:V->α):α:=match v with
 | .one (.p (.int t z))=>Wy z fun z=>k (.one (.p (.int t z)))
 | .one (.p (.bool b))=>match b with
  |true=>k (.one (.p (.bool true)))
  |false=>k (.one (.p (.bool false)))
 |v=>k v
@[simp] theorem asq {α:Type} (n:Nat) (k:Nat->α):Wz n k=k n:=by cases n<;>rfl
@[simp] theorem asp {α:Type} (z:Int) (k:Int->α):Wy z k=k z:=by cases z<;>simp[Wy]
@[simp] theorem asf {α:Type} (v:V) (k:V->α):WA v k=k v:=by
 unfold WA;split
 .simp
 .split<;>rfl
 rfl
def PD(al:Al)(l:List Nat):Bool:=bif al.any then true else al.fD l
theorem anL(al:Al)(l:List Nat):PD al l=al.fD l:=by
 unfold PD;cases h:al.any with
 |false=>rfl
 |true=>simp[Al.fD,Al.ok,h]
abbrev oG:=Nat->List V->Al->BL->Option (V×BL)
noncomputable def Ko:List eN->BL->BL
 |[],b=>b
 |(i,o)::r,b=>Ko r (M9 b i o)
theorem afu:∀(u:List eN) (b:BL),lQ (Ko u b)=app u (lQ b):=by
 intro u
 induction u with
 |nil=>intro b;rfl
 |cons x u ih=>obtain⟨i,o⟩:=x;intro b;simp only[Ko,app];rw[ih];congr 1;funext m;exact aj7 b i o m
noncomputable def Jr (t:Tr) (d:Option Nat) (v:V) (k:Tr->Option (Tr×BL×bR)):Option (Tr×BL×bR):=match d with
 |none=>k t
 |some n=>bif Nat.ble n 4000 then WA v fun v=>k (t.set n v) else none
noncomputable def Qw (sh:Ctx) (cp:fO) (cs:oG) (o:aO) (t:Tr) (b:BL):Option (Tr×BL×bR):=
 match wanted (pJ t) o.guard with
 |none=>none
 |some false=>Jr t o.dst .undef fun t'=>some (t',b,⟨[],[],[]⟩)
 |some true=>match VS sh.shared (pJ t) (lQ b) o.op with
  | .fail=>none
  | .done v u r=>bif PD sh.al (r++u.map (·.1)) then Jr t o.dst v fun t'=>some (t',Ko u b,⟨r,u.map (·.1),[]⟩) else none
  | .pc f vs r s=>match cp f vs with
   |some x=>match land (lQ b) r s (x.gK (sh.lone s)) with
    |some (v,u)=>bif PD sh.al (r++u.map (·.1)) then Jr t o.dst v fun t'=>some (t',Ko u b,⟨r++u.map (·.1),u.map (·.1),[]⟩) else none
    |none=>none
   |none=>none
  | .sc f vs=>match allow sh f vs (lQ b) with
   |al=>bif sh.al.holds al then
     match cs f vs al b with
     |some (v,b')=>Jr t o.dst v fun t'=>some (t',b',⟨al.ids,al.ids,al.fs⟩)
     |none=>none
    else none
noncomputable def Hp (cs:jN) (cf:oG):Prop:=∀f vs al b v b',cf f vs al b=some (v,b')->cs f vs al (lQ b)=some (v,lQ b')
theorem PZ{t t':Tr}{d:Option Nat}{v:V}{b b':BL}{e e':bR}(h:Jr t d v (fun t'=>some (t',b,e))=some (t',b',e')):put (pJ t) d v=pJ t'/\b=b'/\e=e':=by
 unfold Jr at h;split at h
 .cases h;exact⟨rfl,rfl,rfl⟩
 rename_i n;cases hn:Nat.ble n 4000 with
 |false=>rw[hn] at h;cases h
 |true=>rw[hn] at h;simp only[cond_true,asf] at h;cases h;refine⟨?_,rfl,rfl⟩;have:=iv hn;funext m;unfold pJ put;exact(Tr.aaG t n m v aa).symm
theorem ara{cf:oG}(hs:Hp cs cf){o:aO}{t t':Tr}{b b':BL}{e:bR}(h:Qw sh cp cf o t b=some (t',b',e)):step1 sh cp cs o (pJ t) (lQ b)=some (pJ t',lQ b',e):=by
 unfold Qw at h;simp only[aon,anL] at h;unfold step1;split at h
 .cases h
 .rename_i hw;rw[hw];obtain⟨h1,rfl,rfl⟩:=PZ h;simp only[h1]
 rename_i hw;rw[hw];simp only;split at h
 .cases h
 .rename_i v u r hp;cases au:sh.al.fD (r++u.map (·.1)) with
  |false=>rw[au] at h;cases h
  |true=>rw[au] at h;obtain⟨h1,rfl,rfl⟩:=PZ h;simp only[hp,au,if_true,h1,afu]
 .rename_i f vs r s hp;split at h
  .rename_i x hx;split at h
   .rename_i v u hl;cases au:sh.al.fD (r++u.map (·.1)) with
    |false=>rw[au] at h;cases h
    |true=>rw[au] at h;obtain⟨h1,rfl,rfl⟩:=PZ h;simp only[hp,hx,hl,au,if_true,h1,afu]
   cases h
  cases h
 rename_i f vs hp;cases au:sh.al.holds (allow sh f vs (lQ b)) with
 |false=>rw[au] at h;cases h
 |true=>
  rw[au] at h;simp only[cond_true] at h;split at h
  .rename_i v b1 hc;obtain⟨h1,rfl,rfl⟩:=PZ h;simp only[hp,au,if_true,hs _ _ _ _ _ _ hc,h1]
  cases h
noncomputable def arb (sh:Ctx) (cp:fO) (cs:oG) (o:aO) (ih:Tr->BL->Option (Tr×BL×List bR)) (ak:Tr) (aj:BL):Option (Tr×BL×List bR):=
 match Qw sh cp cs o ak aj with
 |some (aC,ao,e)=>match ih aC ao with
  |some (KX,HA,es)=>some (KX,HA,e::es)
  |none=>none
 |none=>none
noncomputable def JE (sh:Ctx) (cp:fO) (cs:oG) (l:List aO):Tr->BL->Option (Tr×BL×List bR):=List.rec (motive:=fun _=>Tr->BL->Option (Tr×BL×List bR)) (fun ak aj=>some (ak,aj,[])) (fun o _ ih=>arb sh cp cs o ih) l
theorem ard(sh:Ctx)(cp:fO)(cs:oG)(ak:Tr)(aj:BL):JE sh cp cs [] ak aj=some (ak,aj,[]):=rfl
theorem arc(sh:Ctx)(cp:fO)(cs:oG)(o:aO)(r:List aO)(ak:Tr)(aj:BL):JE sh cp cs (o::r) ak aj=match Qw sh cp cs o ak aj with
  |some (aC,ao,e)=>match JE sh cp cs r aC ao with
   |some (KX,HA,es)=>some (KX,HA,e::es)
   |none=>none
  |none=>none:=rfl
theorem arf{cf:oG}(hs:Hp cs cf):∀ {ops:List aO} {t t':Tr} {b b':BL} {es:List bR},JE sh cp cf ops t b=some (t',b',es)->steps sh cp cs ops (pJ t) (lQ b)=some (pJ t',lQ b',es):=by
 intro ops
 induction ops with
 |nil=>intro t t' b b' es h;simp only[ard,fI,kB] at h;obtain⟨rfl,rfl,rfl⟩:=h;rfl
 |cons o r ih=>
  intro t t' b b' es h;simp only[arc] at h;split at h
  .rename_i t1 b1 e1 h1;split at h
   .rename_i t2 b2 es2 h2;cases h;simp only[steps,ara hs h1,ih h2]
   cases h
  cases h
noncomputable def MB (f:Tr->BL->Option (lS×Tr×BL)) (n:Nat):Tr->BL->Option (lS×Tr×BL):=
 Nat.rec (motive:=fun _=>Tr->BL->Option (lS×Tr×BL)) (fun _ _=>none) (fun _ ih ak aj=>match f ak aj with
  |some (.normal,aC,ao)=>ih aC ao
  |r=>r) n
theorem al4(f:Tr->BL->Option (lS×Tr×BL))(n:Nat)(ak:Tr)(aj:BL):MB f (n+1) ak aj=match f ak aj with
  |some (.normal,aC,ao)=>MB f n aC ao
  |r=>r:=rfl
abbrev Ex:=Tr->BL->Option (lS×Tr×BL)
noncomputable def ai2 (sh:Ctx) (cp:fO) (cs:oG) (d:Bool) (ops:List aO):Ex:=fun ak aj=>match JE sh cp cs ops ak aj with
  |some (aC,ao,es)=>bif d then (bif sT ops [] es then some (.normal,aC,ao) else none) else some (.normal,aC,ao)
  |none=>none
noncomputable def ai3 (a b:Ex):Ex:=fun ak aj=>match a ak aj with
  |some (.normal,aC,ao)=>b aC ao
  |r=>r
noncomputable def ai1 (x:aR) (a b:Ex):Ex:=fun ak aj=>match ev (pJ ak) x with
  | .one (.p (.bool t))=>bif t then a ak aj else b ak aj
  |_=>none
noncomputable def ai0 (id:Nat) (c:Ex):Ex:=fun ak aj=>match c ak aj with
  |some (.exit i,aC,ao)=>bif Nat.beq i id then some (.normal,aC,ao) else some (.exit i,aC,ao)
  |r=>r
noncomputable def tu (sh:Ctx) (cp:fO) (cs:oG) (n:Nat) (c:aK):Ex:=
 aK.rec (motive:=fun _=>Ex) (fun ak aj=>some (.normal,ak,aj)) (fun d ops=>ai2 sh cp cs d ops) (fun _ _ a b=>ai3 a b) (fun x _ _ a b=>ai1 x a b)
  (fun id _ c=>ai0 id c) (fun _ c=>MB c n) (fun id ak aj=>some (.exit id,ak,aj)) (fun ak aj=>some (.ret,ak,aj)) (fun _ _=>none) c
section
variable (sh:Ctx) (cp:fO) (cs:oG) (n:Nat) (ak:Tr) (aj:BL)
theorem ajb:tu sh cp cs n .skip ak aj=some (.normal,ak,aj):=rfl
theorem ai6(id:Nat):tu sh cp cs n (.exit id) ak aj=some (.exit id,ak,aj):=rfl
theorem ai9:tu sh cp cs n .ret ak aj=some (.ret,ak,aj):=rfl
theorem ai8(d:Bool)(ops:List aO):tu sh cp cs n (.region d ops) ak aj=match JE sh cp cs ops ak aj with
  |some (aC,ao,es)=>bif d then (bif sT ops [] es then some (.normal,aC,ao) else none) else some (.normal,aC,ao)
  |none=>none:=rfl
theorem aja(a b:aK):tu sh cp cs n (.seq a b) ak aj=match tu sh cp cs n a ak aj with
  |some (.normal,aC,ao)=>tu sh cp cs n b aC ao
  |r=>r:=rfl
theorem ai5(x:aR)(a b:aK):tu sh cp cs n (.cond x a b) ak aj=match ev (pJ ak) x with
  | .one (.p (.bool t))=>bif t then tu sh cp cs n a ak aj else tu sh cp cs n b ak aj
  |_=>none:=rfl
theorem ai4(id:Nat)(c:aK):tu sh cp cs n (.block id c) ak aj=match tu sh cp cs n c ak aj with
  |some (.exit i,aC,ao)=>bif Nat.beq i id then some (.normal,aC,ao) else some (.exit i,aC,ao)
  |r=>r:=rfl
theorem ai7(c:aK):tu sh cp cs n (.loop c) ak aj=MB (tu sh cp cs n c) n ak aj:=rfl
end
theorem al3{f:Tr->BL->Option (lS×Tr×BL)}{g:Env->aA->Option (lS×Env×aA)}(hfg:∀t b e t' b',f t b=some (e,t',b')->g (pJ t) (lQ b)=some (e,pJ t',lQ b')):
  ∀(n:Nat) {t t':Tr} {b b':BL} {e:lS},MB f n t b=some (e,t',b')->iter g n (pJ t) (lQ b)=some (e,pJ t',lQ b'):=by
 intro n
 induction n with
 |zero=>intro t t' b b' e h;cases h
 |succ n ih=>
  intro t t' b b' e h;simp only[al4] at h;simp only[iter];split at h
  .rename_i t1 b1 h1;rw[hfg _ _ _ _ _ h1];exact ih h
  rename_i aH;rw[hfg _ _ _ _ _ h];cases e with
  |normal=>exact(aH _ _ h).elim
  |exit i=>rfl
  |ret=>rfl
theorem YO{cf:oG}(hs:Hp cs cf){n:Nat}:∀(c:aK) {t t':Tr} {b b':BL} {e:lS},tu sh cp cf n c t b=some (e,t',b')->exec sh cp cs n c (pJ t) (lQ b)=some (e,pJ t',lQ b'):=by
 intro c
 induction c with
 |skip=>intro t t' b b' e h;simp only[ajb,fI,kB] at h;obtain⟨rfl,rfl,rfl⟩:=h;rfl
 |exit id=>intro t t' b b' e h;simp only[ai6,fI,kB] at h;obtain⟨rfl,rfl,rfl⟩:=h;rfl
 |ret=>intro t t' b b' e h;simp only[ai9,fI,kB] at h;obtain⟨rfl,rfl,rfl⟩:=h;rfl
 |bad=>intro t t' b b' e h;cases h
 |region d ops=>
  intro t t' b b' e h;simp only[ai8] at h;simp only[exec];split at h
  .rename_i t1 b1 es h1;rw[arf hs h1];simp only;cases d with
   |false=>simp only[cond_false] at h;cases h;simp
   |true=>
    simp only[cond_true] at h;cases hd:sT ops [] es with
    |false=>rw[hd] at h;cases h
    |true=>rw[hd] at h;simp only[cond_true] at h;cases h;simp
  cases h
 |seq x y ihx ihy=>
  intro t t' b b' e h;simp only[aja] at h;simp only[exec];split at h
  .rename_i t1 b1 h1;rw[ihx h1];exact ihy h
  rename_i aH;rw[ihx h];cases e with
  |normal=>exact(aH _ _ h).elim
  |exit i=>rfl
  |ret=>rfl
 |cond x p q ihp ihq=>
  intro t t' b b' e h;simp only[ai5] at h;simp only[exec];split at h
  .rename_i tt ht;rw[ht];cases tt with
   |true=>simp only[cond_true] at h;simpa using ihp h
   |false=>simp only[cond_false] at h;simpa using ihq h
  cases h
 |block id c ih=>
  intro t t' b b' e h;simp only[ai4] at h;simp only[exec];split at h
  .rename_i i t1 b1 h1;rw[ih h1];simp only;cases hi:Nat.beq i id with
   |true=>rw[hi] at h;simp only[cond_true] at h;cases h;rw[if_pos (vH hi)]
   |false=>rw[hi] at h;simp only[cond_false] at h;cases h;rw[if_neg];intro hh;rw[hh,Nat.beq_refl] at hi;cases hi
  rename_i aH;rw[ih h];cases e with
  |normal=>rfl
  |exit i=>exact(aH _ _ _ h).elim
  |ret=>rfl
 |loop c ih=>intro t t' b b' e h;simp only[ai7] at h;simp only[exec];exact al3 (fun _ _ _ _ _ h=>ih h) n h
noncomputable def GK (sh:Ctx) (cp:fO) (cs:oG) (n:Nat) (fn:aX) (args:List V) (aj:BL):Option (V×BL):=
 bif Nat.ble args.length 4000 then
  match tu sh cp cs n fn.body (JK 0 args .leaf) aj with
  |some (.normal,ak,ao)=>(oE sh.al (pJ ak) (lQ ao) fn.results).map fun vs=>(zC vs,ao)
  |some (.ret,ak,ao)=>(oE sh.al (pJ ak) (lQ ao) fn.results).map fun vs=>(zC vs,ao)
  |_=>none
 else none
theorem apI{cf:oG}(hs:Hp cs cf){n:Nat}{fn:aX}{b b':BL}{v:V}(h:GK sh cp cf n fn args b=some (v,b')):qU sh cp cs n fn args (lQ b)=some (v,lQ b'):=by
 unfold GK at h;unfold qU;cases hl:Nat.ble args.length 4000 with
 |false=>rw[hl] at h;cases h
 |true=>
  rw[hl] at h;simp only[cond_true] at h;have:=iv hl;rw[<- arD aa];split at h
  .rename_i ak b1 hx;rw[YO hs _ hx];simp only[dI] at h ⊢;obtain⟨vs,h1,h2⟩:=h;cases h2;exact⟨vs,h1,rfl⟩
  .rename_i ak b1 hx;rw[YO hs _ hx];simp only[dI] at h ⊢;obtain⟨vs,h1,h2⟩:=h;cases h2;exact⟨vs,h1,rfl⟩
  cases h
noncomputable def aht (S:Sys) (n:Nat) (cp:fO) (cs:oG):fO:=fun f args=>match S.prim f args with
  |some r=>r
  |none=>match S.fns f with
   |some fn=>bif Nat.ble args.length fn.ntmps then
     match GK (S.ctx .all) cp cs n fn args [] with
     |some (v,b)=>iU (lQ b) v
     |none=>none
    else none
   |none=>none
noncomputable def ahv (S:Sys) (n:Nat) (cp:fO) (cs:oG):oG:=fun f args al b=>match S.fns f with
  |some fn=>bif Nat.ble args.length fn.ntmps then GK (S.ctx al) cp cs n fn args b else none
  |none=>none
noncomputable def XJ (S:Sys) (n:Nat):fO×oG:=Nat.rec (motive:=fun _=>fO×oG) (fun _ _=>none,fun _ _ _ _=>none) (fun n ih=>(aht S n ih.1 ih.2,ahv S n ih.1 ih.2)) n
noncomputable def Ft (S:Sys) (n:Nat):fO:=(XJ S n).1
noncomputable def zQ (S:Sys) (n:Nat):oG:=(XJ S n).2
theorem ahu(S:Sys)(n f:Nat)(args:List V):Ft S (n+1) f args=match S.prim f args with
  |some r=>r
  |none=>match S.fns f with
   |some fn=>bif Nat.ble args.length fn.ntmps then
     match GK (S.ctx .all) (Ft S n) (zQ S n) n fn args [] with
     |some (v,b)=>iU (lQ b) v
     |none=>none
    else none
   |none=>none:=rfl
theorem ahw(S:Sys)(n f:Nat)(args:List V)(al:Al)(b:BL):zQ S (n+1) f args al b=match S.fns f with
  |some fn=>bif Nat.ble args.length fn.ntmps then GK (S.ctx al) (Ft S n) (zQ S n) n fn args b else none
  |none=>none:=rfl
theorem aeD{nj:fO}(hp:Ho cp nj){cf:oG}(hs:Hp cs cf){n:Nat}{fn:aX}{b b':BL}{v:V}(h:GK sh cp cf n fn args b=some (v,b')):qU sh nj cs n fn args (lQ b)=some (v,lQ b'):=Qg hp (fun _ _ _ _ _ h=>h) (bN _) (apI hs h)
theorem Rn(S:Sys):∀n,Ho (Ft S n) (gn S n)/\Hp (gE S n) (zQ S n):=by
 intro n
 induction n with
 |zero=>have h1:∀f x,Ft S 0 f x=none:=fun _ _=>rfl;have h2:∀f vs al b,zQ S 0 f vs al b=none:=fun _ _ _ _=>rfl;exact⟨fun f x r h=>(by rw[h1] at h;cases h),fun f vs al b v b' h=>(by rw[h2] at h;cases h)⟩
 |succ n ih=>
  obtain⟨hp,hs⟩:=ih;refine⟨fun f x r h=>?_,fun f vs al b v b' h=>?_⟩
  .rw[ahu] at h;rw[gn];split at h
   .rename_i r' tE;simp only[tE];exact h
   rename_i tE;simp only[tE];split at h
   .rename_i fn hfn;simp only[hfn];cases hl:Nat.ble x.length fn.ntmps with
    |false=>rw[hl] at h;cases h
    |true=>
     rw[hl] at h;simp only[cond_true] at h;rw[if_pos (iv hl)];split at h
     .rename_i v b hr;unfold EP;have:zo=lQ []:=rfl;rw[this,aeD hp hs hr];exact h
     cases h
   cases h
  rw[ahw] at h;rw[gE];split at h
  .rename_i fn hfn;simp only[hfn];cases hl:Nat.ble vs.length fn.ntmps with
   |false=>rw[hl] at h;cases h
   |true=>rw[hl] at h;simp only[cond_true] at h;rw[if_pos (iv hl)];exact aeD hp hs h
  cases h
def yw{α:Type}(f:α->α->Bool):List α->List α->Bool
 |[],[]=>true
 |a::r,b::s=>f a b&&yw f r s
 |_,_=>false
theorem Fm{α:Type}{f:α->α->Bool}(hf:∀a b,f a b=true->a=b):∀ {l m:List α},yw f l m=true->l=m:=by
 intro l
 induction l with
 |nil=>intro m h;cases m with
  |nil=>rfl
  |cons b m=>cases h
 |cons a l ih=>
  intro m h;cases m with
  |nil=>cases h
  |cons b m=>simp only[yw,cX] at h;rw[hf _ _ h.1,ih h.2]
def Si:IntKind->IntKind->Bool
 | .i64,.i64=>true
 |a,b=>decide (a=b)
theorem aiS{a b:IntKind}(h:Si a b=true):a=b:=by
 cases a<;>cases b<;>first
  |rfl
  |(simp[Si] at h)
def FC:Nat->PV->PV->Bool
 |0,_,_=>false
 |_+1,.int k a,.int k' b=>Si k k'&&a==b
 |_+1,.bool a,.bool b=>a==b
 |n+1,.sl a,.sl b=>yw (yw (FC n)) a b
 |n+1,.box a,.box b=>yw (FC n) a b
 |n+1,.fn f a b,.fn g c d=>Nat.beq f g&&(yw (FC n) a c&&yw (FC n) b d)
 |_+1,.nils,.nils=>true
 |_+1,.tQ,.tQ=>true
 |_+1,_,_=>false
theorem aiT:∀(n:Nat) (x y:PV),FC n x y=true->x=y:=by
 intro n
 induction n with
 |zero=>intro x y h;cases h
 |succ n ih=>
  intro x y h;unfold FC at h;split at h
  .rename_i h0;cases h0
  .rename_i h0;cases h0;simp only[cX,beq_iff_eq] at h;rw[aiS h.1,h.2]
  .rename_i h0;cases h0;simp only[beq_iff_eq] at h;rw[h]
  .rename_i h0;cases h0;rw[Fm (fun _ _ h=>Fm ih h) h]
  .rename_i h0;cases h0;rw[Fm ih h]
  .rename_i h0;cases h0;simp only[cX] at h;rw[vH h.1,Fm ih h.2.1,Fm ih h.2.2]
  .rfl
  .rfl
  cases h
def N5:C->C->Bool
 | .p a,.p b=>FC 12 a b
 |_,_=>false
theorem YG{a b:C}(h:N5 a b=true):a=b:=by
 unfold N5 at h;split at h
 .rw[aiT _ _ _ h]
 cases h
def N6:V->V->Bool
 | .one a,.one b=>N5 a b
 | .agg a,.agg b=>yw N5 a b
 |_,_=>false
theorem aiV{a b:V}(h:N6 a b=true):a=b:=by
 unfold N6 at h;split at h
 .rw[YG h]
 .rw[Fm (fun _ _ h=>YG h) h]
 cases h
abbrev jB:=List (Nat×List V×RV)
def MF:jB->Nat->List V->Option RV
 |[],_,_=>none
 |(f,a,r)::l,g,b=>bif Nat.beq f g&&yw N6 a b then some r else MF l g b
theorem amV:∀ {l:jB} {f:Nat} {a:List V} {r:RV},MF l f a=some r->(f,a,r)∈l:=by
 intro l
 induction l with
 |nil=>intro f a r h;cases h
 |cons e l ih=>
  obtain⟨g,b,s⟩:=e;intro f a r h;simp only[MF] at h;cases hb:(Nat.beq g f&&yw N6 b a) with
  |true=>rw[hb] at h;simp only[cond_true,fI] at h;simp only[cX] at hb;rw[vH hb.1,Fm (fun _ _ h=>aiV h) hb.2,h];simp
  |false=>rw[hb] at h;exact Bv _ (ih h)
def Sys.zn(S:Sys)(l:jB):Sys:={S with prim:=fun f a=>match MF l f a with
 |some r=>some (some r)
 |none=>S.prim f a}
def jq(S:Sys)(l:jB):Prop:=∀e∈l,aI S e.1 e.2.1 e.2.2
theorem jq.nil{S:Sys}:jq S []:=fun e h=>by simp at h
theorem jq.cons{S:Sys}{l:jB}{f:Nat}{a:List V}{r:RV}(h:aI S f a r)(hl:jq S l):jq S ((f,a,r)::l):=fun e he=>by
 rcases cP.1 he with rfl|he
 .exact h
 exact hl e he
theorem jq.bound{S:Sys}:∀ {l:jB},jq S l->∃M,∀e∈l,gn S M e.1 e.2.1=some e.2.2:=by
 intro l
 induction l with
 |nil=>intro _;exact⟨0,fun e h=>by simp at h⟩
 |cons e l ih=>
  intro h;obtain⟨M,hM⟩:=ih fun x hx=>h x (by simp[hx]);obtain⟨n,hn⟩:=h e af;refine⟨max M n,fun x hx=>?_⟩;rcases cP.1 hx with rfl|hx
  .exact Dt S (Hi M n) _ _ _ hn
  exact Dt S (Fa M n) _ _ _ (hM x hx)
theorem ann{S:Sys}{l:jB}{M:Nat}(hM:∀e∈l,gn S M e.1 e.2.1=some e.2.2):∀n,Ho (gn (S.zn l) n) (gn S (n+M))/\SLe (gE (S.zn l) n) (gE S (n+M)):=by
 intro n
 induction n with
 |zero=>exact⟨fun f x r h=>by simp[gn] at h,fun f x l k r h=>by simp[gE] at h⟩
 |succ n ih=>
  have e1:n+1+M=(n+M)+1:=aa;have hc:∀al,(S.zn l).ctx al=S.ctx al:=fun _=>rfl;refine⟨fun f x r h=>?_,fun f x al k r h=>?_⟩
  .rw[gn] at h;cases hl:MF l f x with
   |some r'=>
    have hp:(S.zn l).prim f x=some (some r'):=by simp only[Sys.zn,hl]
    rw[hp] at h;cases h;exact Dt S aa _ _ _ (hM _ (amV hl))
   |none=>
    have hp:(S.zn l).prim f x=S.prim f x:=by simp only[Sys.zn,hl]
    rw[hp] at h;rw[e1,gn];split at h
    .exact h
    have hfn:(S.zn l).fns f=S.fns f:=rfl;rw[hfn] at h;split at h
    .rename_i fn hf;split at h
     .rename_i hlen;rw[if_pos hlen];rw[hc] at h;exact aeC ih.1 ih.2 aa h
     cases h
    cases h
  rw[gE] at h;rw[e1,gE];have hfn:(S.zn l).fns f=S.fns f:=rfl;rw[hfn] at h;split at h
  .rename_i fn hf;split at h
   .rename_i hlen;rw[if_pos hlen];rw[hc] at h;exact Qg ih.1 ih.2 aa h
   cases h
  cases h
theorem l9{S:Sys}{l:jB}(hl:jq S l)(n:Nat){f:Nat}{r:RV}(h:Ft (S.zn l) n f args=some r):aI S f args r:=by obtain⟨M,hM⟩:=hl.bound;exact⟨n+M,(ann hM n).1 _ _ _ ((Rn (S.zn l) n).1 _ _ _ h)⟩
inductive Fits {H:Type} (N:Nat):DataW H->Prop where
 |str (s:List UInt8) (h:s.length<=N):Fits N (.lit (.string s))
 |lit (l:Lit) (h:∀s,l≠ .string s):Fits N (.lit l)
 |nil:Fits N .nil
 |slice (es sp:List (DataW H)) (h:es.length<=N) (he:∀d∈es,Fits N d):Fits N (.slice es sp)
 |agg (es:List (DataW H)) (he:∀d∈es,Fits N d):Fits N (.agg es)
def j4(P:Program)(N:Nat):Nat->TypeId->List PV->Prop
 |0,_,_=>False
 |n+1,t,ps=>match P.underlying t with
  |some .bool=>∃b,ps=[.bool b]
  |some (.int k)=>∃z,ps=[.int k z]/\(Lit.int k z).wf=true
  |some .string=>∃s:ByteArray,ps=[.str s]/\s.size<=N
  |some (.slice e)=>∃es,ps=[.sl es]/\es.length<=N/\ ∀x∈es,j4 P N n e x
  |some (.struct fs)=>∃parts:List (List PV),ps=parts.flatten/\parts.length=fs.toList.length/\ ∀(i:Nat) (f:Field) (x:List PV),fs.toList[i]?=some f->parts[i]?=some x->j4 P N n f.type x
  |_=>False
def yC(P:Program):Nat->Nat->List Field->Bool
 |off,total,[]=>Nat.beq off total
 |off,total,f::r=>Nat.beq f.offset off&&yC P (off+P.cellsOf f.type) total r
def jJ(P:Program):Nat->TypeId->Bool
 |0,_=>false
 |n+1,t=>match P.underlying t with
  |some .bool|some (.int _)|some .string=>true
  |some (.slice e)=>Nat.blt 0 (P.cellsOf e)&&jJ P n e
  |some (.struct fs)=>yC P 0 (P.cellsOf t) fs.toList&&fs.toList.all fun f=>jJ P n f.type
  |_=>false
section
variable {H:Type} {enc:TypeId×Value->H} {P:Program} {w:World} {base:Nat} {sp:Nat->Bool} {held:Bool} {N:Nat}
theorem dk.append{w:World}{own:Nat->Prop}{xs ys:List PV}{vs us:List Value}(h:dk w own xs vs)(k:dk w own ys us):dk w own (xs++ys) (vs++us):=Pw.append (R:=bY w own) h k
theorem XO{w:World}{base:Nat}{a:Addr}{n:Nat}{cs:List Value}(h:w.cells? base a n=some cs):cs.length=n/\ ∀i,i<n->a.add i=⟨a.block,a.off+i,none⟩/\w.cell? ⟨a.block,a.off+i,none⟩=cs[i]? :=by
 unfold World.cells? at h;split at h
 .have hl:=mapM_some_length h;simp at hl;refine⟨hl,fun i hi=>?_⟩;have hg:=mapM_some_get h i i (by simp[hi]);have ay:i<cs.length:=aa;have hv:cs[i]?=some cs[i]:=by simp[ay]
  rw[hv] at hg;have abo:(a.add i).spot=none:=by
   cases nY:(a.add i).spot with
   |none=>rfl
   |some s=>
    simp only[World.cell?] at hg;split at hg
    .simp[nY] at hg
    cases hg
  have e:a.add i=⟨a.block,a.off+i,none⟩:=by
   unfold Addr.add at abo ⊢;split
   .rename_i h0;subst h0;rw[if_pos rfl] at abo;cases a
    simp_all
   rfl
  refine⟨e,?_⟩;rw[hv,<- hg,e]
 cases h
theorem ajq{r:TypeId->List Value->Option (DataW H×List MemPlace)}{n:Nat}(ih:∀t cs x,jJ P n t=true->r t cs=some x->Fits N x.1->∃pvs,j4 P N n t pvs/\dk w (fun _=>False) pvs cs){cs:List Value}{total:Nat}(ht:cs.length=total):
  ∀(fs:List Field) (off:Nat) (xs:List (DataW H×List MemPlace)),yC P off total fs=true->(∀f∈fs,jJ P n f.type=true)->
   fs.mapM (fun f=>r f.type ((cs.drop f.offset).take (P.cellsOf f.type)))=some xs->(∀x∈xs,Fits N x.1)->off<=total->(∀f∈fs,∀c x,r f.type c=some x->∀pvs,j4 P N n f.type pvs->dk w (fun _=>False) pvs c->True)->
   ∃parts:List (List PV),parts.length=fs.length/\(∀(i:Nat) (f:Field) (x:List PV),fs[i]?=some f->parts[i]?=some x->j4 P N n f.type x)/\(dk w (fun _=>False) parts.flatten (cs.drop off)):=by
 intro fs
 induction fs with
 |nil=>
  intro off xs hc _ _ _ hle _;simp only[yC] at hc;have:=vH hc;refine⟨[],rfl,fun i f x h=>by simp at h,?_⟩;have:cs.drop off=[]:=by rw[List.drop_eq_nil_iff];omega
  rw[this];exact⟨rfl,fun j x u h=>by simp at h⟩
 |cons f fs ihf=>
  intro off xs hc ho hm hf hle hT;simp only[yC,cX] at hc;have UP:=vH hc.1;rw[List.mapM_cons] at hm;simp only[Option.bind_eq_bind,QQ,Option.pure_def,fI] at hm;obtain⟨x,hx,xs',Mx,rfl⟩:=hm;obtain⟨pvs,p1,p2⟩:=ih _ _ _ (ho f af) hx (hf x af);have hlen:=p2.1;by_cases aa9:off+P.cellsOf f.type<=total
  .obtain⟨parts,q1,q2,q3⟩:=ihf (off+P.cellsOf f.type) xs' hc.2 (fun g hg=>ho g (by simp[hg])) Mx (fun y hy=>hf y (by simp[hy])) aa9 (fun _ _ _ _ _ _ _ _=>trivial);refine⟨pvs::parts,by simp[q1],fun i g y hi hy=>?_,?_⟩
   .cases i with
    |zero=>simp at hi hy;subst hi hy;exact p1
    |succ i=>exact q2 i g y (by simpa using hi) (by simpa using hy)
   have:cs.drop off=(cs.drop f.offset).take (P.cellsOf f.type)++cs.drop (off+P.cellsOf f.type):=by rw[UP,<- List.drop_drop];exact(mX _ _).symm
   rw[this];simp only[l8];exact dk.append p2 q3
  exfalso;have mono:∀(l:List Field) (o:Nat),yC P o total l=true->o<=total:=by
   intro l
   induction l with
   |nil=>intro o h;simp only[yC] at h;have:=vH h;omega
   |cons g l ihl=>intro o h;simp only[yC,cX] at h;have:=ihl _ h.2;omega
  exact aa9 (mono _ _ hc.2)
theorem apH{sz:Nat}{f:Nat->Value}:∀(es:List (List PV)) (rows:List (List Value)) (k:Nat),rows.length=es.length->(∀(i:Nat) (e:List PV) (v:List Value),es[i]?=some e->rows[i]?=some v->dk w (fun _=>False) e v/\v.length=sz/\ ∀j u,v[j]?=some u->f ((k+i)*sz+j)=u)->
  ∀(j:Nat) (x:PV),es.flatten[j]?=some x->bY w (fun _=>False) x (f (k*sz+j)):=by
 intro es
 induction es with
 |nil=>intro rows k _ _ j x h;simp at h
 |cons e es ih=>
  intro rows k hl h j x hx;cases rows with
  |nil=>simp at hl
  |cons v rows=>
   obtain⟨a1,a2,a3⟩:=h 0 e v rfl rfl;have dC:e.length=sz:=by rw[<- a2];exact a1.1.symm
   simp only[l8] at hx;by_cases hj:j<e.length
   .rw[De hj] at hx;have hv:v[j]?=some v[j]:=by simp[show j<v.length by omega]
    have:=a3 j _ hv;simp only[yl] at this;rw[this];exact a1.2 j x _ hx hv
   rw[Bt aa] at hx;have:=ih rows (k+1) (by simpa using hl) (fun i e' v' h1 h2=>by have:=h (i+1) e' v' (by simpa using h1) (by simpa using h2);rw[show k+(i+1)=k+1+i by omega] at this;exact this) (j-e.length) x hx
   rw[show k*sz+j=(k+1)*sz+(j-e.length) by rw[iF];omega];exact this
theorem arN:∀(n fuel:Nat) (t:TypeId) (cs:List Value) (x:DataW H×List MemPlace),jJ P n t=true->DataW.trod enc P w base sp held fuel t cs=some x->Fits N x.1->
  ∃pvs,j4 P N n t pvs/\dk w (fun _=>False) pvs cs:=by
 intro n
 induction n with
 |zero=>intro fuel t cs x h;simp[jJ] at h
 |succ n ih=>
  intro fuel t cs x au h hf;cases fuel with
  |zero=>simp[DataW.trod] at h
  |succ fuel=>
   rw[DataW.trod_step] at h;have one:∀ {p:PV} {v:Value},bY w (fun _=>False) p v->dk w (fun _=>False) [p] [v]:=by
    intro p v hp;refine⟨rfl,fun j x u a b=>?_⟩;cases j with
    |zero=>simp at a b;subst a b;exact hp
    |succ j=>simp at a
   unfold DataW.trodStep at h;unfold jJ at au;split at h
   case h_1 b hu=>exact⟨[.bool b],by simp only[j4,hu];exact⟨b,rfl⟩,one (.bool b)⟩
   case h_2 k k' z hu=>
    split at h
    .rename_i hc;obtain⟨rfl,hwf⟩:=hc;exact⟨[.int k' z],by simp only[j4,hu];exact⟨z,rfl,hwf⟩,one (.int k' z)⟩
    cases h
   case h_4 s hu=>
    split at h
    .cases h;cases hf with
     |str _ hs=>exact⟨[.str s],by simp only[j4,hu];exact⟨s,rfl,by simpa using hs⟩,one (.str s)⟩
     |lit _ hs=>exact(hs _ rfl).elim
    cases h
   case h_7 e hu=>exact⟨[.sl []],by simp only[j4,hu];exact⟨[],rfl,bG _,fun x hx=>by simp at hx⟩,one (.xX none 0 (fun _=>rfl) (bG _))⟩
   case h_8 e a len cap hu=>
    rw[hu] at au;simp only[cX] at au;obtain⟨ju,hoe⟩:=au;have ju:0<P.cellsOf e:=by have:=ju;simp[Nat.blt] at this;omega
    simp only at h;split at h
    .rename_i hc;obtain⟨hb,hlc,xy⟩:=hc;simp only[dI,QQ] at h;obtain⟨elems,he,rest,als,rfl⟩:=h;have hlen:elems.length=len:=by simpa using mapM_some_length he
     cases hf with
     |slice _ _ hl hfe=>
     simp only[cM] at hl;have get:∀i,i<len->∃y row pv,elems[i]?=some y/\w.cells? base (a.add (i*P.cellsOf e)) (P.cellsOf e)=some row/\j4 P N n e pv/\dk w (fun _=>False) pv row:=by intro i hi;have hg:=mapM_some_get he i i (by simp[hi]);have ay:i<elems.length:=aa;rw[s0 ay] at hg;simp only[QQ] at hg;obtain⟨row,h1,h2⟩:=hg;obtain⟨pv,p1,p2⟩:=ih _ _ _ _ hoe h2 (hfe _ (dQ.2 ⟨_,List.getElem_mem ay,rfl⟩));exact⟨_,row,pv,s0 ay,h1,p1,p2⟩
     cases vc:len with
     |zero=>refine⟨[.sl []],by simp only[j4,hu];exact⟨[],rfl,bG _,fun x hx=>by simp at hx⟩,one (.xX (some a) cap (fun h=>by cases h) xy)⟩
     |succ len'=>
      rw[<- vc];have h0:0<len:=aa;obtain⟨_,row0,_,_,uC,_,_⟩:=get 0 h0;have ha:a=⟨a.block,a.off,none⟩:=by
       have h1:a.add 0=a:=by unfold Addr.add;rw[if_pos rfl]
       rw[zI,h1] at uC;have:=((XO uC).2 0 ju).1;rw[h1] at this;exact this
      have UY:∀i,i<len->∃row pv,row.length=P.cellsOf e/\(∀j,j<P.cellsOf e->w.cell? ⟨a.block,a.off+(i*P.cellsOf e+j),none⟩=row[j]?)/\j4 P N n e pv/\dk w (fun _=>False) pv row:=by
       intro i hi;obtain⟨_,row,pv,_,h1,h2,h3⟩:=get i hi;obtain⟨l1,l2⟩:=XO h1;refine⟨row,pv,l1,fun j hj=>?_,h2,h3⟩;have:=(l2 j hj).2;rw[<- this];have e2:a.add (i*P.cellsOf e)=⟨a.block,a.off+i*P.cellsOf e,none⟩:=by
        rw[ha];unfold Addr.add;split
        .rename_i h9;rw[h9];rfl
        rfl
       rw[e2];simp[Hh]
      let row:Nat->List Value:=fun i=>if h:i<len then (UY i h).choose else []
      let pv:Nat->List PV:=fun i=>if h:i<len then (UY i h).choose_spec.choose else []
      have Mq:∀i,i<len->(row i).length=P.cellsOf e/\(∀j,j<P.cellsOf e->w.cell? ⟨a.block,a.off+(i*P.cellsOf e+j),none⟩=(row i)[j]?)/\j4 P N n e (pv i)/\dk w (fun _=>False) (pv i) (row i):=by intro i hi;simp only[row,pv,dif_pos hi];exact(UY i hi).choose_spec.choose_spec
      let es:=(List.range len).map pv
      have OM:es.length=len:=by simp[es]
      have Cn:∀(i:Nat) (x:List PV),es[i]?=some x->i<len/\x=pv i:=by
       intro i x hx;have hi:i<len:=by rw[<- OM];exact(aW.1 hx).1
       refine⟨hi,?_⟩;simp only[es,fZ,r4 hi,ng,fI] at hx;exact hx.symm
      let f:Nat->Value:=fun j=>(w.cell? ⟨a.block,a.off+j,none⟩).getD undef
      refine⟨[.sl es],?_,one ?_⟩
      .simp only[j4,hu];refine⟨es,rfl,aa,fun x hx=>?_⟩;obtain⟨i,hi⟩:=jZ hx;obtain⟨h1,rfl⟩:=Cn i x hi;exact(Mq i h1).2.2.1
      rw[ha];have ch:∀x∈es,x.length=P.cellsOf e:=by intro x hx;obtain⟨i,hi⟩:=jZ hx;obtain⟨h1,rfl⟩:=Cn i x hi;have:=(Mq i h1).2.2.2.1;rw[<- this];exact(Mq i h1).1
      have ek:=apH (w:=w) (sz:=P.cellsOf e) (f:=f) es ((List.range len).map row) 0 (by simp[OM]) (fun i x v h1 h2=>by
       obtain⟨hi,rfl⟩:=Cn i x h1;simp only[fZ,r4 hi,ng,fI] at h2;subst h2;obtain⟨s1,s2,s3,s4⟩:=Mq i hi;refine⟨s4,s1,fun j u hu=>?_⟩;have hj:j<P.cellsOf e:=by rw[<- s1];exact(aW.1 hu).1
       simp only[f,kU];rw[s2 j hj,hu];rfl)
      simp only[zI,kU] at ek;have xE:∀(l:List (List PV)),(∀x∈l,x.length=P.cellsOf e)->l.flatten.length=l.length*P.cellsOf e:=by
       intro l
       induction l with
       |nil=>intro _;simp
       |cons x l ihl=>intro hx;simp only[l8,gh,dh];rw[hx x af,ihl (fun y hy=>hx y (by simp[hy])),iF];omega
      refine OM▸bY.sl a.block a.off cap (P.cellsOf e) f (fun _ h=>h) aa xy ch (fun j x hx=>?_) ek;have hj:j<len*P.cellsOf e:=by have:=(aW.1 hx).1;rw[xE es ch,OM] at this;exact this
      have hi:j/P.cellsOf e<len:=Nat.div_lt_of_lt_mul (by rw[Nat.mul_comm];exact hj);obtain⟨s1,s2,s3,s4⟩:=Mq _ hi;have hm:j%P.cellsOf e<P.cellsOf e:=eH _ ju;have:=s2 _ hm;rw[show j/P.cellsOf e*P.cellsOf e+j%P.cellsOf e=j by rw[Nat.mul_comm];exact Nat.div_add_mod j _] at this;have U1:(row (j/P.cellsOf e))[j%P.cellsOf e]?=some (row (j/P.cellsOf e))[j%P.cellsOf e]:=by simp[s1,hm]
      rw[U1] at this;simp only[f,this,nc]
    cases h
   case h_9=>
    rename_i fs hu;rw[hu] at au;simp only[cX] at au;split at h
    .rename_i hc;simp only[dI] at h;obtain⟨xs,hx,rfl⟩:=h;cases hf with
     |agg _ hfe=>
     obtain⟨parts,p1,p2,p3⟩:=ajq (r:=DataW.trod enc P w base sp held fuel) (n:=n) (fun t cs x h1 h2 h3=>ih _ _ _ _ h1 h2 h3) hc fs.toList 0 xs au.1 (fun f hf=>ko.1 au.2 f hf) hx (fun y hy=>hfe _ (dQ.2 ⟨y,hy,rfl⟩)) (bG _) (fun _ _ _ _ _ _ _ _=>trivial);refine⟨parts.flatten,by simp only[j4,hu];exact⟨parts,rfl,p1,p2⟩,?_⟩
     simpa using p3
    cases h
   all_goals(first|(cases h;done)|(simp_all;done)|(exfalso;simp_all;done))
end
end
end Go.Abs
namespace Go.Abs
variable {H:Type} {enc:TypeId×Value->H} {P:Program} {w:World} {N:Nat}
theorem ah6:∀(fs:List Field) (off total:Nat),yC P off total fs=true->total=off+(fs.map fun f=>P.cellsOf f.type).sum/\ ∀(j:Nat) (f:Field),fs[j]?=some f->f.offset=off+((fs.take j).map fun f=>P.cellsOf f.type).sum:=by
 intro fs
 induction fs with
 |nil=>intro off total h;simp only[yC] at h;have:=vH h;exact⟨by simp;omega,fun j f h=>by simp at h⟩
 |cons f fs ih=>
  intro off total h;simp only[yC,cX] at h;have h0:=vH h.1;obtain⟨i1,i2⟩:=ih _ _ h.2;refine⟨by simp;omega,fun j g hg=>?_⟩;cases j with
  |zero=>simp at hg;subst hg;simp;omega
  |succ j=>have:=i2 j g (by simpa using hg);simp only[List.take_succ_cons,dS,List.sum_cons];omega
theorem ame:Kids P (fun t=>∃n,jJ P n t=true):=by
 have un:∀ {t:TypeId},(∃n,jJ P n t=true)->∃n,jJ P (n+1) t=true:=by
  rintro t ⟨n,h⟩
  cases n with
  |zero=>simp[jJ] at h
  |succ n=>exact⟨n,h⟩
 refine⟨fun ht hu=>?_,fun ht hu=>?_,fun ht hu=>?_,fun ht hu=>?_,fun ht hu=>?_⟩
 .obtain⟨n,h⟩:=un ht;simp[jJ,hu] at h
 .obtain⟨n,h⟩:=un ht;simp only[jJ,hu,cX] at h;exact⟨n,h.2⟩
 .obtain⟨n,h⟩:=un ht;simp[jJ,hu] at h
 .obtain⟨n,h⟩:=un ht;simp only[jJ,hu,cX] at h;obtain⟨c1,c2⟩:=ah6 _ _ _ h.1;refine⟨fun f hf=>⟨n,ko.1 h.2 f hf⟩,by rw[c1];simp,fun j f hj=>by rw[c2 j f hj];simp⟩
 obtain⟨n,h⟩:=un ht;simp[jJ,hu] at h
theorem arL{w':World}{GO:Nat->Bool}{t:TypeId}{v:Value}{d:DataW H}{ps:List MemPlace}(hk:∃n,jJ P n t=true)(h:DataW.Trod enc P w 0 (fun _=>true) true t v d ps)
  (Av:∀p∈ps,w.sameAt w' p) (hs:∀p∈ps,GO p.block=true):DataW.Trod enc P w' 0 GO true t v d ps:=by
 obtain⟨fuel,h⟩:=h;refine⟨fuel,DataW.trod_stays (T:=fun t=>∃n,jJ P n t=true) ame ?_ (fun h=>by cases h) hk h Av hs⟩;rintro t e ⟨n,h⟩ hu
 cases n with
 |zero=>simp[jJ] at h
 |succ n=>simp only[jJ,hu,cX] at h;have:=h.1;simp[Nat.blt] at this;omega
theorem arK{w':World}{GO:Nat->Bool}:∀ {ts:List TypeId} {vs:List Value} {ds:List (DataW H)} {ps:List MemPlace},(∀t∈ts,∃n,jJ P n t=true)->DataW.TrodAll enc P w 0 (fun _=>true) true ts vs ds ps->
  (∀p∈ps,w.sameAt w' p)->(∀p∈ps,GO p.block=true)->DataW.TrodAll enc P w' 0 GO true ts vs ds ps:=by
 intro ts
 induction ts with
 |nil=>intro vs ds ps _ h _ _;cases vs<;>cases ds<;>exact h
 |cons t ts ih=>
  intro vs ds ps hk h ji eG;cases vs with
  |nil=>exact h.elim
  |cons v vs=>
   cases ds with
   |nil=>exact h.elim
   |cons d ds=>obtain⟨p,q,h1,h2,rfl⟩:=h;exact⟨p,q,arL (hk t af) h1 (fun x hx=>ji x (by simp[hx])) (fun x hx=>eG x (by simp[hx])),ih (fun t ht=>hk t (by simp[ht])) h2 (fun x hx=>ji x (by simp[hx])) (fun x hx=>eG x (by simp[hx])),rfl⟩
def zM(P:Program)(t:TypeId)(ps:List PV):V:=
 match P.underlying t with
 |some (.struct _)=>.agg (ps.map .p)
 |_=>match ps with
  |[x]=>.one (.p x)
  |_=>.undef
theorem agC{r:Reach}{b0 n:Nat}{sp:Nat->Bool}{held:Bool}{t:TypeId}{v:Value}{d:DataW H}{ps:List MemPlace}(hk:jJ P n t=true)(hval:Value.okWide P w r b0 t v)(h:DataW.Trod enc P w 0 sp held t v d ps)(hf:Fits N d):
  ∃pvs,j4 P N n t pvs/\r7 w (fun _=>False) (zM P t pvs) v:=by
 obtain⟨fuel,h⟩:=h;obtain⟨pvs,h1,h2⟩:=arN n fuel t _ _ hk h hf;refine⟨pvs,h1,?_⟩;cases n with
 |zero=>simp[jJ] at hk
 |succ n=>
  have one:∀x:PV,pvs=[x]->(∀cs,v≠ .agg cs)->bY w (fun _=>False) x v:=by
   rintro x rfl aH
   have:v.cells.toList=[v]:=by
    cases v<;>first
     |rfl
     |exact(aH _ rfl).elim
   rw[this] at h2;exact h2.2 0 x v rfl rfl
  have nagg:∀ {k:TypeDesc},P.underlying t=some k->(∀fs,k≠ .struct fs)->(∀a b,k≠ .array a b)->∀cs,v≠ .agg cs:=by
   rintro k hu cK jt cs rfl
   unfold Value.okWide at hval;rw[hu] at hval;cases k<;>simp_all[Cell.okWide,Cell.ok]
  simp only[j4] at h1;unfold zM;cases hu:P.underlying t with
  |none=>rw[hu] at h1;exact h1.elim
  |some k=>
   rw[hu] at h1;cases k<;>simp only at h1<;>try exact h1.elim
   case bool=>obtain⟨b,rfl⟩:=h1;exact one _ rfl (nagg hu af af)
   case int k=>obtain⟨b,rfl,_⟩:=h1;exact one _ rfl (nagg hu af af)
   case string=>obtain⟨b,rfl,_⟩:=h1;exact one _ rfl (nagg hu af af)
   case slice e=>obtain⟨es,rfl,_⟩:=h1;exact one _ rfl (nagg hu af af)
   case struct fs=>unfold Value.okWide at hval;rw[hu] at hval;simp only at hval;obtain⟨cs,rfl,ch,_⟩:=hval;exact⟨cs,pvs,rfl,rfl,h2⟩
def NA(P:Program)(N n:Nat):List TypeId->List (List PV)->Prop
 |[],[]=>True
 |t::ts,p::ps=>j4 P N n t p/\NA P N n ts ps
 |_,_=>False
def BB(P:Program):List TypeId->List (List PV)->List V
 |t::ts,p::ps=>zM P t p::BB P ts ps
 |_,_=>[]
theorem agO{r:Reach}{b0 n:Nat}{sp:Nat->Bool}{held:Bool}:∀ {ts:List TypeId} {vs:List Value} {ds:List (DataW H)} {ps:List MemPlace},(∀t∈ts,jJ P n t=true)->(∀(j:Nat) t v,ts[j]?=some t->vs[j]?=some v->Value.okWide P w r b0 t v)->
  DataW.TrodAll enc P w 0 sp held ts vs ds ps->(∀d∈ds,Fits N d)->∃pvss,NA P N n ts pvss/\Pw (r7 w (fun _=>False)) (BB P ts pvss) vs:=by
 intro ts
 induction ts with
 |nil=>
  intro vs ds ps _ _ h _;cases vs with
  |nil=>exact⟨[],trivial,rfl,fun j x u h=>by simp[BB] at h⟩
  |cons v vs=>cases ds<;>exact h.elim
 |cons t ts ih=>
  intro vs ds ps hk hv h hf;cases vs with
  |nil=>exact h.elim
  |cons v vs=>
   cases ds with
   |nil=>exact h.elim
   |cons d ds=>
    obtain⟨p,q,h1,h2,rfl⟩:=h;obtain⟨x,a1,a2⟩:=agC (hk t af) (hv 0 t v rfl rfl) h1 (hf d af);obtain⟨xs,b1,b2,b3⟩:=ih (fun t ht=>hk t (by simp[ht])) (fun j t v e1 e2=>hv (j+1) t v (by simpa using e1) (by simpa using e2)) h2 (fun d hd=>hf d (by simp[hd]));refine⟨x::xs,⟨a1,b1⟩,by simpa [BB] using b2,fun j y u e1 e2=>?_⟩;cases j with
    |zero=>simp[BB] at e1 e2;subst e1 e2;exact a2
    |succ j=>exact b3 j y u (by simpa [BB] using e1) (by simpa using e2)
end Go.Abs
namespace Go.Abs
open Go.RowKit
theorem fR.anJ(w:World)(k:Nat)(os:Array Obj):fR w (Go.Sort.grow (w.drewN k) os):=
 ⟨rfl,rfl,rfl,by simp[Go.Sort.grow,World.drewN],fun c hc=>by simp[Go.Sort.grow,World.drewN,Array.getElem?_append,hc]⟩
theorem M3{w w':World}{O:Nat->Prop}{x:PV}{v:Value}(hg:fR w w')(h:bY w' O x v):uQ w O (.one (.p x)) (.returned v) w':=
 ⟨v,[],rfl,hg,wS,fun c hc=>by simp at hc,[v],rfl,v,[],rfl,h.mono fun c _ hn=>⟨rfl,fun hq=>hn (hq.elim id fun h=>by simp at h)⟩,rfl,rfl⟩
theorem pw1{w:World}{O:Nat->Prop}{x:PV}{args:Array Value}(h:Pw (r7 w O) [.one (.p x)] args.toList):∃v,args= #[v]/\bY w O x v:=by
 obtain⟨h1,h2⟩:=h;obtain⟨l⟩:=args
 match l,h1 with
 |[v],_=>exact⟨v,rfl,h2 0 _ v rfl rfl⟩
theorem YC{w:World}{O:Nat->Prop}{v:Value}(h:bY w O (.sl []) v):∃a cap,v=.slice a 0 cap/\(a=none->cap=0)/\cap<=maxLen:=by
 generalize hx:PV.sl []=x at h;cases h<;>cases hx
 .exact⟨_,_,rfl,by assumption,by assumption⟩
 exact⟨_,_,rfl,fun h=>by simp at h,by assumption⟩
theorem adf{w:World}{O:Nat->Prop}{a:Option Addr}{cap:Nat}(h:a=none->cap=0)(hm:cap<=maxLen):bY w O (.sl []) (.slice a 0 cap):=.xX a cap h hm
def yI:Nat->Nat->List UInt8->List UInt8
 |0,_,acc=>acc
 |k+1,u,acc=>bif Nat.blt u 10 then UInt8.ofNat (Nat.add 48 u)::acc else yI k (Nat.div u 10) (UInt8.ofNat (Nat.add 48 (Nat.mod u 10))::acc)
theorem Ys:∀(k u:Nat) (acc:List UInt8),u<10 ^ (k+1)->yI (k+1) u acc=Lib.decDigits u++acc:=by
 intro k
 induction k with
 |zero=>
  intro u acc h;have h:u<10:=by simpa using h
  unfold Lib.decDigits;have hb:Nat.blt u 10=true:=Nat.ble_eq_true_of_le h;simp only[yI,hb,cond_true,dif_pos h];rfl
 |succ k ih=>
  intro u acc h;rw[Lib.decDigits,yI];by_cases h0:u<10
  .have hb:Nat.blt u 10=true:=Nat.ble_eq_true_of_le h0;simp only[hb,cond_true,dif_pos h0];rfl
  have hb:Nat.blt u 10=false:=by
   cases e:Nat.blt u 10 with
   |false=>rfl
   |true=>exact(h0 (iv e)).elim
  simp only[hb,cond_false,dif_neg h0];have:(Nat.div u 10)<10 ^ (k+1):=by have e:Nat.div u 10=u/10:=rfl;rw[e];have:10 ^ (k+1+1)=10 ^ (k+1)*10:=Nat.pow_succ ..;omega
  rw[ih _ _ this];simp only[zE,List.singleton_append];rfl
def mu(n:Int):ByteArray:=⟨(match n with| .ofNat u=>yI 20 u []| .negSucc u=>45::yI 20 (Nat.succ u) []).toArray⟩
theorem al6(n:Int)(h0: -9223372036854775808<=n)(h1:n<=9223372036854775807):mu n=⟨(Lib.itoa n).toArray⟩:=by
 unfold mu Lib.itoa;cases n with
 |ofNat u=>have:¬(Int.ofNat u<0):=af;rw[if_neg this];simp only;rw[Ys 19 u [] (by simp at h1;omega)];simp
 |negSucc u=>have:Int.negSucc u<0:=Int.negSucc_lt_zero u;rw[if_pos this];simp only;rw[Ys 19 (Nat.succ u) [] aa];simp[Int.natAbs]
def PY(args:List V):Option RV:=
 match args with
 |[.one (.p (.int .i64 n))]=>if -9223372036854775808<=n/\n<=9223372036854775807 then some (.one (.p (.str (mu n)))) else none
 |_=>none
theorem ao0{P:Program}{f:Nat}{nm:String}{G:World->Prop}{args:List V}{r:RV}(hG:∀w,G w->Lib.TabIs P w nm .u64 Lib.pow10Tab)
  (hf:∀(n:Int),-9223372036854775808<=n->n<=9223372036854775807->∀w:World,Lib.TabIs P w nm .u64 Lib.pow10Tab->Calls P f #[.int .i64 n] w fun e w'=>e=.returned (.string ⟨(Lib.itoa n).toArray⟩)/\ ∃k os,w'=Go.Sort.grow (w.drewN k) os)
  (h:PY args=some r):∀(w:World) (O:Nat->Prop) (as:Array Value),Good G w->Pw (r7 w O) args as.toList->Calls P f as w (uQ w O r):=by
 intro w O as hg ha;unfold PY at h;split at h
 .rename_i n;split at h
  .rename_i hr;cases h;obtain⟨v,rfl,hp⟩:=pw1 ha;generalize hx:PV.int .i64 n=x at hp;cases hp<;>cases hx
   refine(hf n hr.1 hr.2 w (hG w hg.1)).mono ?_;rintro e w' ⟨rfl,k,os,rfl⟩
   rw[al6 n hr.1 hr.2];exact M3 (fR.anJ _ _ _) (.str _)
  cases h
 cases h
def M4(args:List V):Option RV:=
 match args with
 |[.one (.p (.int .u64 n))]=>if 0<=n/\n<=18446744073709551615 then some (.one (.p (.int .i64 (Lib.bitLen n.toNat)))) else none
 |_=>none
theorem aoX{P:Program}{f:Nat}{args:List V}{r:RV}(hf:∀(x:Int) (w:World),0<=x->x<=18446744073709551615->Calls P f #[.int .u64 x] w fun e w'=>e=.returned (.int .i64 (Lib.bitLen x.toNat))/\w'=w)
  (h:M4 args=some r):∀(w:World) (O:Nat->Prop) (as:Array Value),Pw (r7 w O) args as.toList->Calls P f as w (uQ w O r):=by
 intro w O as ha;unfold M4 at h;split at h
 .rename_i n;split at h
  .rename_i hr;cases h;obtain⟨v,rfl,hp⟩:=pw1 ha;generalize hx:PV.int .u64 n=x at hp;cases hp<;>cases hx
   refine(hf n w hr.1 hr.2).mono ?_;rintro e w' ⟨rfl,rfl⟩
   exact M3 (fR.refl _) (.int _ _)
  cases h
 cases h
def PW(args:List V):Option (Option RV):=
 match args with
 |[.one (.p (.sl []))]=>some (some (.one (.p (.sl []))))
 |_=>none
theorem aoZ{S:Sys}{G:World->Prop}(hS:Hq S G){f n:Nat}{z i g z':Nat}{fn:aX}{ao:aA}(hfn:S.fns f=some fn)(h1:gn S n f [.one (.p .nils)]=some (.one (.p .nils)))
  (h2:gE S n f [.one (.hsl 0 0 z 0 0)] .all zo=some (.one (.hsl i g z' 0 0),ao)) {args:List V} {r:RV} (h:PW args=some (some r)):
  ∀(w:World) (O:Nat->Prop) (as:Array Value),Good G w->(∀c,O c->c<w.heap.size)->Pw (r7 w O) args as.toList->Calls S.P f as w (uQ w O r):=by
 intro w O as hg hO ha;unfold PW at h;split at h
 .cases h;obtain⟨v,rfl,hp⟩:=pw1 ha;obtain⟨a,cap,rfl,hn,hm⟩:=YC hp;cases a with
  |none=>
   obtain rfl:=hn rfl;refine((sound hS n).1 f _ _ h1 |>.2 w O #[.slice none 0 0] hg hO ⟨rfl,fun j x u p q=>?_⟩).mono ?_
   .cases j with
    |zero=>simp at p q;subst p q;exact bY.nils
    |succ j=>simp at p
   rintro e w' ⟨val,bs,rfl,rH,iR,mK,vs,q1,q2⟩
   obtain⟨v0,mV,e1,e2,e3,e4⟩:=q2;have hq1:vs=[val]:=q1;subst hq1;cases e1;subst e4;cases e2;exact M3 rH (adf (fun _=>rfl) (bG _))
  |some a=>
   let m0:Mem:=⟨w,zo,fun _=>0,fun _=>0,O⟩
   have au:Ok w m0:=⟨rfl,rfl,rfl,bN _,fun _ _=>rfl,(fun id o h=>by cases h),(fun id o h=>by cases h),hO,(fun id eY o o' h=>by cases h)⟩;refine(((sound hS n).2.1 f _ _ _ _ _ h2).2 w m0 #[.slice (some a) 0 cap] hg au rfl ⟨rfl,fun j x u p q=>?_⟩).mono ?_
   .cases j with
    |zero=>simp at p q;subst p q;exact cS.hsl a cap (bG _) (bG _) hm (fun sz _ h=>by cases h)
    |succ j=>simp at p
   rintro e w' ⟨val,m',rfl,rfl,q1,q2,q3,q4,q5⟩
   have hq:cS m' (.hsl i g z' 0 0) val:=q5;cases hq with
   |hsl a2 cap2 _ _ uz _=>
    refine M3 ⟨q2.os,q2.tape,q2.output,q2.size,fun c hc=>q2.keep c hc ?_⟩ (adf (fun h=>by cases h) uz);rintro ⟨id,o,h,_⟩
    cases h
 cases h
def PX(args:List V):Option (Option RV):=
 match args with
 |[.one (.p (.sl []))]=>some (some (.one (.p .zs)))
 |_=>none
theorem aoY{P:Program}{G:World->Prop}{f:Nat}(h1:∀(w:World) (a:Option Addr) (c:Nat),Calls P f #[.slice a 0 c] w fun e w'=>∃b,e=.returned (.slice b 0 0)/\fR w w'){args:List V}{r:RV}(h:PX args=some (some r)):
  ∀(w:World) (O:Nat->Prop) (as:Array Value),Good G w->(∀c,O c->c<w.heap.size)->Pw (r7 w O) args as.toList->Calls P f as w (uQ w O r):=by
 intro w O as hg hO ha;unfold PX at h;split at h
 .cases h;obtain⟨v,rfl,hp⟩:=pw1 ha;obtain⟨a,cap,rfl,hn,hm⟩:=YC hp;refine(h1 w a cap).mono ?_;rintro e w' ⟨b,rfl,rH⟩
  exact M3 rH (bY.zs b)
 cases h
end Go.Abs
namespace Go.Abs
open Go.RowKit Go.WideShapes Go.ChangeShapes
section
variable {H:Type} {enc:TypeId×Value->H} {P:Program} {w:World} {base:Nat} {sp:Nat->Bool} {held:Bool}
theorem arM:∀(n fuel:Nat) (t:TypeId) (cs:List Value) (x:DataW H×List MemPlace),jJ P n t=true->DataW.trod enc P w base sp held fuel t cs=some x->Fits maxLen x.1:=by
 intro n
 induction n with
 |zero=>intro fuel t cs x h;simp[jJ] at h
 |succ n ih=>
  intro fuel t cs x au h;cases fuel with
  |zero=>simp[DataW.trod] at h
  |succ fuel=>
   rw[DataW.trod_step] at h;unfold DataW.trodStep at h;unfold jJ at au;split at h
   case h_1=>cases h;exact .lit _ (fun s h=>by cases h)
   case h_2=>
    split at h
    .cases h;exact .lit _ (fun s h=>by cases h)
    cases h
   case h_4=>
    split at h
    .rename_i hs;cases h;exact .str _ (by simpa using hs)
    cases h
   case h_7=>cases h;exact .nil
   case h_8 e a len cap hu=>
    rw[hu] at au;simp only[cX] at au;simp only at h;split at h
    .rename_i hc;simp only[dI,QQ] at h;obtain⟨elems,he,rest,als,rfl⟩:=h;have hlen:elems.length=len:=by simpa using mapM_some_length he
     refine .slice _ _ (by simp;omega) (fun d hd=>?_);obtain⟨y,hy,rfl⟩:=dQ.1 hd;obtain⟨i,_,hi⟩:=mapM_mem_of he y hy;simp only[QQ] at hi;obtain⟨row,_,h2⟩:=hi;exact ih _ _ _ _ au.2 h2
    cases h
   case h_9=>
    rename_i fs hu;rw[hu] at au;simp only[cX] at au;split at h
    .simp only[dI] at h;obtain⟨xs,hx,rfl⟩:=h;refine .agg _ (fun d hd=>?_);obtain⟨y,hy,rfl⟩:=dQ.1 hd;obtain⟨f,hf,hi⟩:=mapM_mem_of hx y hy;exact ih _ _ _ _ (ko.1 au.2 f hf) hi
    cases h
   all_goals(first|(cases h;done)|(simp_all;done)|(exfalso;simp_all;done))
theorem afw{n:Nat}:∀ {ts:List TypeId} {vs:List Value} {ds:List (DataW H)} {ps:List MemPlace},(∀t∈ts,jJ P n t=true)->DataW.TrodAll enc P w base sp held ts vs ds ps->(∀d∈ds,Fits maxLen d)/\ds.length=ts.length:=by
 intro ts
 induction ts with
 |nil=>
  intro vs ds ps _ h;cases vs<;>cases ds<;>first
   |exact h.elim
   |exact⟨fun d hd=>by simp at hd,rfl⟩
 |cons t ts ih=>
  intro vs ds ps hk h;cases vs with
  |nil=>exact h.elim
  |cons v vs=>
   cases ds with
   |nil=>exact h.elim
   |cons d ds=>
    obtain⟨p,q,⟨fuel,h1⟩,h2,rfl⟩:=h;obtain⟨i1,i2⟩:=ih (fun t ht=>hk t (by simp[ht])) h2;refine⟨fun x hx=>?_,by simp[i2]⟩;rcases cP.1 hx with rfl|hx
    .exact arM n fuel t _ _ (hk t af) h1
    exact i1 x hx
end
section
variable {H:Type} {enc:TypeId×Value->H} {P:Program}
theorem aoU{f:Func}{s:ChangeSpec}{apart fresh handsOn again:Bool}{W W':World}{args:Array Value}{v:Value}{ds gs:List (DataW H)}{before pa pv:List MemPlace}
  (hW:DataW.Whole enc P f.params.toList s.vars apart W args.toList ds gs before)
  (Au:∀(b:Nat) (sp:Nat->Bool) (hd:Bool),DataW.TrodAll enc P W' b sp hd f.resultTypes.toList (v.resultList f.resultTypes.size) (s.fn H (ds++gs)).results [])
  (Cf:∀sp:Nat->Bool,(∀p∈before,sp p.block=true)->DataW.TrodAll enc P W' 0 sp true f.params.toList args.toList (s.fn H (ds++gs)).args pa)
  (Mv:∀sp:Nat->Bool,(∀p∈before,sp p.block=true)->DataW.TrodVars enc P W' sp s.vars (s.fn H (ds++gs)).vars pv)
  (dE:before=pa++pv) (hb:Below W.heap.size W W')
  (au:∀(j:Nat) (t:TypeId) (r:Value),f.resultTypes[j]?=some t->(v.resultList f.resultTypes.size)[j]?=some r->Value.okWide P W' .any 0 t r):
  s.post enc P f apart fresh handsOn again W args v W':=by
 have ay:∀p∈before,p.block<W.heap.size:=fun p hp=>hW.lt p hp;have hold:∀p∈before,(fun b=>decide (b<W.heap.size)) p.block=true:=fun p hp=>by simpa using ay p hp
 refine⟨ds,gs,before,[],pa,pv,hW,Au _ _ _,Cf _ hold,Mv _ hold,World.keptBut_mono (fun p hp=>⟨hp,?_⟩) (hb.frame (· ∈before)),fun _=>?_⟩
 .rw[dE,fg] at hp;exact Or.inr hp
 obtain⟨_,_,_,_,_,hz,hn⟩:=hW;refine⟨au,_,_,([]++pa)++pv,⟨[]++pa,pv,trodAll_append (Cf _ (fun _ _=>rfl)) (Au _ _ _),Mv _ (fun _ _=>rfl),rfl,?_,?_⟩,?_⟩
 .intro b off hp;have lW:MemPlace.cell b off∈before:=by rw[dE];simpa using hp
  rw[hb.frozen (ay _ lW)];exact hz b off lW
 .intro ha;have:=hn ha;rw[dE] at this
  simpa using this
 intro p hp _;rw[dE]
 simpa using hp
end
theorem DV{P:Program}{N n:Nat}{t:TypeId}{k:IntKind}{p:List PV}(hu:P.underlying t=some (.int k))(h:j4 P N (n+1) t p):∃z,p=[.int k z]/\(Lit.int k z).wf=true:=by simp only[j4,hu] at h;exact h
theorem aaP{P:Program}{N n:Nat}{t:TypeId}{p:List PV}(hu:P.underlying t=some .bool)(h:j4 P N (n+1) t p):∃b,p=[.bool b]:=by simp only[j4,hu] at h;exact h
theorem akq{P:Program}{N n:Nat}{t e:TypeId}{p:List PV}(hu:P.underlying t=some (.slice e))(h:j4 P N (n+1) t p):∃es,p=[.sl es]/\es.length<=N/\ ∀x∈es,j4 P N n e x:=by simp only[j4,hu] at h;exact h
theorem Xg{P:Program}{t:TypeId}{k:TypeDesc}{x:PV}(hu:P.underlying t=some k)(hk:∀fs,k≠ .struct fs):zM P t [x]=.one (.p x):=by
 unfold zM;rw[hu];cases k<;>first
  |rfl
  |exact(hk _ rfl).elim
theorem agB{P:Program}{t:TypeId}{fs:Array Field}{x:List PV}(hu:P.underlying t=some (.struct fs)):zM P t x=.agg (x.map .p):=by unfold zM;rw[hu]
theorem aml{S:Sys}{G:World->Prop}(hS:Hq S G)(LY:∀w,G w->Good G w){fn:Func}{s:ChangeSpec}{f n N:Nat}{handsOn again fresh apart:Bool}(Mv:s.vars=[])
  (hfn:∀(H:Type) (ds:List (DataW H)),ds.length=fn.params.toList.length->s.fn H ds={results:=[.lit (.bool true)],args:=ds}) {tb:TypeId} (Au:fn.resultTypes= #[tb]) (htb:S.P.underlying tb=some .bool)
  (hk:∀t∈fn.params.toList,jJ S.P n t=true) (law:∀pvss,NA S.P N n fn.params.toList pvss->aI S f (BB S.P fn.params.toList pvss) (.one (.p (.bool true))))
  {H:Type} {enc:TypeId×Value->H} {W:World} {base:Nat} {args:Array Value} {ds gs:List (DataW H)} {before:List MemPlace}
  (hval:∀(j:Nat) t v,fn.params[j]?=some t->args[j]?=some v->Value.okWide S.P W .any base t v)
  (hW:DataW.Whole enc S.P fn.params.toList s.vars apart W args.toList ds gs before) (hG:G W) (hfit:∀d∈ds,Fits N d):
  Calls S.P f args W fun e W'=>∃v,e=.returned v/\s.post enc S.P fn apart fresh handsOn again W args v W':=by
 have hW':=hW;obtain⟨p,q,hA,hV,rfl,hfz,iR⟩:=hW;rw[Mv] at hV;obtain⟨rfl,rfl⟩:=trodVars_none hV;obtain⟨_,hlen⟩:=afw hk hA;obtain⟨pvss,h1,h2⟩:=agO (r:=.any) (b0:=base) hk (fun j t v a b=>hval j t v (by simpa using a) (by simpa using b)) hA hfit;refine((law pvss h1).calls hS W (LY W hG) args h2).mono ?_;rintro e W' ⟨val,bs,rfl,hg,_,_,vs,q1,q2⟩
 obtain⟨v0,mV,e1,e2,e3,e4⟩:=q2;have hq1:vs=[val]:=q1;subst hq1;cases e1;have hv:val=.bool true:=by
  generalize hx:PV.bool true=x at e2;cases e2<;>cases hx
  rfl
 subst hv;have hb:Below W.heap.size W W':=⟨hg.os,hg.tape,hg.output,hg.size,hg.keep⟩;have ay:∀x∈p++[],x.block<W.heap.size:=fun x hx=>hW'.lt x hx;refine⟨_,rfl,aoU (pa:=p) (pv:=[]) hW' ?_ ?_ ?_ rfl hb ?_⟩
 .intro b sp hd;rw[kN,hfn H ds hlen,Au];exact trodAll_cons_mk (shut_bool htb _) trodAll_mk0
 .intro GO nY;rw[kN,hfn H ds hlen];exact arK (fun t ht=>⟨n,hk t ht⟩) hA (fun x hx=>hb.same (ay x (by simpa using hx))) (fun x hx=>nY x (by simpa using hx))
 .intro GO nY;rw[kN,hfn H ds hlen,Mv];rfl
 exact ok_one Au rfl (okWide_bool_mk htb _)
end Go.Abs
namespace Go.Abs
theorem aej(ak:Env)(t:Nat)(v:V):put ak (some t) v=dK ak t v:=rfl
theorem aeh(ak:Env)(v:V):put ak none v=ak:=rfl
theorem YN(ak:Env)(n:Nat):ev ak (.t n)=ak n:=rfl
theorem YL(ak:Env)(n:Int):ev ak (.i n)=.one (.p (.int .i64 n)):=rfl
theorem YK(ak:Env)(x:Bool):ev ak (.b x)=.one (.p (.bool x)):=rfl
theorem YM(ak:Env)(v:V):ev ak (.k v)=v:=rfl
theorem abz(a:V)(l:List V):rL (a::l) 0=a:=rfl
theorem aby(a:V)(l:List V)(n:Nat):rL (a::l) (n+1)=rL l n:=rfl
def EY(v:V)(want:Bool):Option Bool:=match v with
 | .one (.p (.bool b))=>some (b==want)
 | .undef=>some false
 |_=>none
theorem afJ(b want:Bool):EY (.one (.p (.bool b))) want=some (b==want):=rfl
theorem afK(want:Bool):EY .undef want=some false:=rfl
section
variable {S:Sys} {al:Al} {o:aO} {ak:Env} {aj:aA} {tr:List bR} {K:Env->aA->List bR->Prop} {d:Option Nat}
theorem XD{id:Nat}{Q:dA}:mI id Q .normal ak aj=Q .normal ak aj:=rfl
theorem XE{id:Nat}{Q:dA}:mI id Q .ret ak aj=Q .ret ak aj:=rfl
theorem XC{id i:Nat}{Q:dA}:mI id Q (.exit i) ak aj=if i=id then Q .normal ak aj else Q (.exit i) ak aj:=rfl
end
def WN (S:Sys)(al:Al)(ops:List aO)(Q:Env->aA->Prop)(ak:Env)(aj:aA):Prop:=∀tr,WO S al ops (fun ak aj _=>Q ak aj) ak aj tr
def Im(S:Sys)(al:Al)(p:ft)(d:Option Nat)(ak:Env)(aj:aA)(K:Env->aA->Prop):Prop:=
 match p with
 | .fail=>False
 | .done v u r=>al.fD (r++u.map (·.1))=true/\K (put ak d v) (app u aj)
 | .pc f vs r s=>∃x,aI S f vs x/\match land aj r s (x.gK (S.lone s)) with
  |some (v,u)=>al.fD (r++u.map (·.1))=true/\K (put ak d v) (app u aj)
  |none=>False
 | .sc f vs=>al.holds (allow (S.ctx al) f vs aj)=true/\ ∃v ao,iK S f vs (allow (S.ctx al) f vs aj) aj v ao/\K (put ak d v) ao
def OB(S:Sys)(al:Al)(w:Option Bool)(o:aO)(ak:Env)(aj:aA)(K:Env->aA->Prop):Prop:=
 match w with
 |none=>False
 |some false=>K (put ak o.dst .undef) aj
 |some true=>Im S al (bt S.shared ak aj o.op) o.dst ak aj K
section
variable {S:Sys} {al:Al} {ak:Env} {aj:aA}
theorem af2{ops:List aO}{R R':Env->aA->Prop}{tr tr':List bR}(h:WO S al ops (fun ak aj _=>R ak aj) ak aj tr)(hR:∀e b,R e b->R' e b):WO S al ops (fun ak aj _=>R' ak aj) ak aj tr':=by obtain⟨n,e,b,es,h1,h2⟩:=h;exact⟨n,e,b,es,h1,hR _ _ h2⟩
theorem agf{ops:List aO}{Q:dA}:W S al (.region false ops) Q ak aj↔WN S al ops (fun ak aj=>Q .normal ak aj) ak aj:=by
 rw[W4];constructor
 .intro h tr;obtain⟨n,e,b,es,h1,_,h2⟩:=h;exact⟨n,e,b,es,h1,h2⟩
 intro h;obtain⟨n,e,b,es,h1,h2⟩:=h [];exact⟨n,e,b,es,h1,(fun h=>by cases h),h2⟩
theorem af1{R:Env->aA->Prop}:WN S al [] R ak aj↔R ak aj:=⟨fun h=>QU.1 (h []),fun h _=>QU.2 h⟩
theorem aaH{o:aO}{os:List aO}{R:Env->aA->Prop}{w:Option Bool}(tr:List bR):DL S al w o ak aj tr (WO S al os fun e b _=>R e b)↔OB S al w o ak aj (WN S al os R):=by
 have k:∀ {e:Env} {b:aA} {t:List bR},WO S al os (fun e b _=>R e b) e b t↔WN S al os R e b:=fun {e b t}=>⟨fun h t'=>af2 h fun _ _ h=>h,fun h=>h t⟩;cases w with
 |none=>exact Iff.rfl
 |some w=>
  cases w with
  |false=>exact k (t:=tr++[⟨[],[],[]⟩])
  |true=>
   simp only[DL,OB];cases bt S.shared ak aj o.op with
   |fail=>exact Iff.rfl
   |done v u r=>simp only[FN,Im,k]
   |pc f vs r s=>
    simp only[FN,Im];refine exists_congr fun x=>and_congr Iff.rfl ?_;cases land aj r s (x.gK (S.lone s)) with
    |none=>exact Iff.rfl
    |some y=>simp only[k]
   |sc f vs=>simp only[FN,Im,k]
theorem WZ{o:aO}{os:List aO}{R:Env->aA->Prop}:WN S al (o::os) R ak aj↔OB S al (wanted ak o.guard) o ak aj (WN S al os R):=by
 constructor
 .intro h;exact(aaH []).1 (ND.1 (h []))
 intro h tr;exact ND.2 ((aaH tr).2 h)
variable {o:aO} {K:Env->aA->Prop} {d:Option Nat}
end
theorem bft:(false==true)=false:=rfl
theorem btf:(true==false)=false:=rfl
theorem bff:(false==false)=true:=rfl
theorem btt:(true==true)=true:=rfl
theorem adT{aj:aA}{x:PV}:iU aj (.one (.p x))=some (.one (.p x)):=rfl
theorem norm_int(k:IntKind)(n:Int):(PV.int k n).norm=.int k n:=rfl
theorem adv(b:Bool):(PV.bool b).norm=.bool b:=rfl
theorem adD(s:ByteArray):(PV.str s).norm=.str s:=rfl
theorem adB:PV.nils.norm=.sl []:=rfl
theorem adC(es:List (List PV)):(PV.sl es).norm=.sl es:=rfl
theorem MS(es:List PV):(PV.box es).norm=.box es:=rfl
theorem adw(f:Nat)(a b:List PV):(PV.fn f a b).norm=.fn f a b:=rfl
theorem adA:PV.tQ.norm=.tQ:=rfl
theorem ady:PV.jx.norm=.jx:=rfl
theorem adz:PV.qp.norm=.qp:=rfl
theorem adx(a:Bool)(e:List (PV×List PV)):(PV.mp a e).norm=.mp a e:=rfl
theorem ae7{aj:aA}:Bf aj []=some ([],[]):=rfl
def Wf(x:Option (V×List Nat))(y:Option (List V×List Nat)):Option (List V×List Nat):=match x,y with
 |some (b,x),some (bs,y)=>some (b::bs,x++y)
 |_,_=>none
theorem ae6{aj:aA}{x:V}{xs:List V}:Bf aj (x::xs)=Wf (nI aj x) (Bf aj xs):=by simp only[Bf,Wf,collect];cases nI aj x<;>cases collect (nI aj) xs<;>rfl
theorem ae1{b:V}{x:List Nat}{bs:List V}{y:List Nat}:Wf (some (b,x)) (some (bs,y))=some (b::bs,x++y):=rfl
theorem ae5{aj:aA}{x:PV}:nI aj (.one (.p x))=some (.one (.p x.norm),[]):=rfl
end Go.Abs
