/-
  Each operation of the abstract machine is what the program does; the machine is sound in any order that a region draws; a quick evaluator; library functions.
-/
import Derived.Test.YtfdblnecoamlbaaGreatDoorMa
import Derived.Laws.BytesString
import Derived.LoopN
import Derived.Scope
import Derived.Orders
import Derived.ChangeReads
import Derived.ChangeStays
import Derived.DataReads
import Derived.Below
import Derived.Sort.Grow
import Derived.Deep.Draws
import Derived.Lib.ItoaNum
import Derived.Lib.Join
import Derived.Lib.BitFns
import Derived.Lib.LaidTab
import Derived.ChangeSame
import Derived.ProofKit
import Derived.OpenShut
set_option linter.all false
namespace Go.Abs
variable {P:Program} {w0:World}
section
variable{ag:Bool}
def O5(w:World)(own:Nat->Prop)(ag:Bool)(es:t_)(ents:Array MapEntry):Prop:=ents.size=es.length/\ ∀(i:Nat) (q:PV) (v:b_) (e:MapEntry),es[i]?=some (q,v)->ents[i]?=some e->cF w own q e.key/\ ∃g:Array Value,(ag=true->e.val=.agg g)/\(ag=false-> #[e.val]=g)/\dD w own v g.toList
theorem MJ{w:World}{r:Nat}{es:Array MapEntry}{clock:Nat}(hb:w.heap[r]?=some (.map es clock)):(getObj r).run P w=.ok (.map es clock) w:=by simp[getObj,Sem.run,hb]
theorem ahJ{w:World}{r:Nat}{es:Array MapEntry}{clock:Nat}{ob:Obj}(hb:w.heap[r]?=some (.map es clock)):(setObj r ob).run P w=.ok () {w with heap:=w.heap.setIfInBounds r ob}:=by simp[setObj,Sem.run,hb]
theorem af8{w:World}{own:Nat->Prop}{es:t_}{v:Value}(h:cF w own (.mp ag es) v):
  ∃r ents clock,v=.map (some r)/\w.heap[r]?=some (.map ents clock)/\O5 w own ag es ents:=by
 cases h with
 |mp r ents clock g ho hb hl hk hv hr=>
  refine⟨r,ents,clock,rfl,hb,hl,fun i q v e h1 h2=>⟨hk i q v e h1 h2,g i,(hv i q v e h1 h2).2.1,(hv i q v e h1 h2).2.2,?_,fun j x u a b=>?_⟩⟩
  .simpa using (hv i q v e h1 h2).1
  exact hr i q v j x u h1 a (by simpa using b)
theorem Nw{m:Mem}(au:Ok w0 m){id g:Nat}{v:Value}(h:ch m (.one (.kU id g)) v){es:t_}(hb:m.aj id=(g,some (.map ag es))\/m.aj id=(g,some (.fmap ag es))):
  ∃r ents clock,v=.map (some r)/\r=m.σ id/\m.w.heap[r]?=some (.map ents clock)/\O5 m.w m.own ag es ents:=by
 have h:dx m (.kU id g) v:=h;cases h with
 |kU r hg hr=>
  rcases hb with hb|hb
  .obtain⟨ents,clock,h1,h2,h3⟩:=au.obj id _ (congrArg Prod.snd hb);have:=hr (by rw[hb]) (by rw[hb];rfl);subst this;exact⟨_,ents,clock,rfl,rfl,h1,h2,h3⟩
  obtain⟨ents,clock,h1,h2,h3,_⟩:=au.obj id _ (congrArg Prod.snd hb);have:=hr (by rw[hb]) (by rw[hb];rfl);subst this;exact⟨_,ents,clock,rfl,rfl,h1,h2,h3⟩
theorem aqG{m:Mem}(au:Ok w0 m){x:V}{v:Value}{es:t_}{r:a_}(h:mapOf m.aj ag x=some (es,r))(hv:ch m x v):
  ∃ents:Array MapEntry,((v=.map none/\ents= #[])\/ ∃ref clock,v=.map (some ref)/\m.w.heap[ref]?=some (.map ents clock))/\O5 m.w m.own ag es ents:=by
 unfold mapOf at h;split at h
 .cases h;exact⟨#[],.inl ⟨aeC hv,rfl⟩,rfl,fun i q v e h=>by simp at h⟩
 .rename_i sG im;split at h
  .rename_i e;subst e;cases h;obtain⟨hp⟩:dx m _ v:=hv;obtain⟨r,ents,clock,h1,h2,h3⟩:=af8 hp;exact⟨ents,.inr ⟨r,clock,h1,h2⟩,h3⟩
  cases h
 .rename_i id g;split at h
  .rename_i g' sG im hb;split at h
   .rename_i hc;obtain⟨rfl,rfl⟩:=hc;cases h;obtain⟨r,ents,clock,h1,_,h2,h3⟩:=Nw au hv (.inl hb);exact⟨ents,.inr ⟨r,clock,h1,h2⟩,h3⟩
   cases h
  .rename_i g' sG im hb;split at h
   .rename_i hc;obtain⟨rfl,rfl⟩:=hc;cases h;obtain⟨r,ents,clock,h1,_,h2,h3⟩:=Nw au hv (.inr hb);exact⟨ents,.inr ⟨r,clock,h1,h2⟩,h3⟩
   cases h
  cases h
 cases h
theorem ap3{m:Mem}(au:Ok w0 m){x:V}{v:Value}{n:Nat}{r:a_}(h:AR m.aj x=some (n,r))(hv:ch m x v):
  (v=.map none/\n=0)\/ ∃ref ents clock,v=.map (some ref)/\m.w.heap[ref]?=some (.map ents clock)/\ents.size=n:=by
 unfold AR at h;split at h
 .cases h;exact .inl ⟨aeC hv,rfl⟩
 .cases h;obtain⟨hp⟩:dx m _ v:=hv;obtain⟨r,ents,clock,h1,h2,h3⟩:=af8 hp;exact .inr ⟨r,ents,clock,h1,h2,h3.1⟩
 .rename_i id g;split at h
  .rename_i g' sG im hb;split at h
   .rename_i hc;subst hc;cases h;obtain⟨r,ents,clock,h1,_,h2,h3⟩:=Nw au hv (.inl hb);exact .inr ⟨r,ents,clock,h1,h2,h3.1⟩
   cases h
  .rename_i g' sG im hb;split at h
   .rename_i hc;subst hc;cases h;obtain⟨r,ents,clock,h1,_,h2,h3⟩:=Nw au hv (.inr hb);exact .inr ⟨r,ents,clock,h1,h2,h3.1⟩
   cases h
  cases h
 cases h
def Es(kind:TypeDesc)(kd:Nat):Prop:=(kd=0/\ ∃k,kind=.int k)\/(kd=1/\kind=.string)\/(kd=2/\kind=.bool)
theorem afu{t:TypeId}{kd:Nat}(h:keyOf P t=some kd):∃kind,P.underlying t=some kind/\Es kind kd:=by
 unfold keyOf at h;split at h
 .rename_i k hk;cases h;exact⟨_,hk,.inl ⟨rfl,_,rfl⟩⟩
 .rename_i hk;cases h;exact⟨_,hk,.inr (.inl ⟨rfl,rfl⟩)⟩
 .rename_i hk;cases h;exact⟨_,hk,.inr (.inr ⟨rfl,rfl⟩)⟩
 cases h
theorem YD{w:World}{own:Nat->Prop}{k q:PV}{kv qv:Value}{kind:TypeDesc}{b:Bool}(hk:Es kind (iZ k))(h:sameKey k q=some b)(h1:cF w own k kv)(h2:cF w own q qv):Instr.sameNow kind kv qv=some b:=by
 unfold sameKey at h;split at h
 .rename_i a b' c d;split at h
  .rename_i e;subst e;cases h;rcases hk with ⟨_,x,rfl⟩|⟨e,_⟩|⟨e,_⟩
   .cases h1;cases h2;simp[Instr.sameNow]
   .simp[iZ] at e
   simp[iZ] at e
  cases h
 .cases h;rcases hk with ⟨e,_⟩|⟨_,rfl⟩|⟨e,_⟩
  .simp[iZ] at e
  .cases h1;cases h2;simp[Instr.sameNow]
  simp[iZ] at e
 .cases h;rcases hk with ⟨e,_⟩|⟨e,_⟩|⟨_,rfl⟩
  .simp[iZ] at e
  .simp[iZ] at e
  cases h1;cases h2;simp[Instr.sameNow]
 cases h
theorem sameKey_eq{w:World}{own:Nat->Prop}{k q:PV}{kv qv:Value}(h:sameKey k q=some true)(h1:cF w own k kv)(h2:cF w own q qv):qv=kv:=by
 unfold sameKey at h;split at h
 .split at h
  .rename_i e;subst e;simp at h;subst h;cases h1;cases h2;rfl
  cases h
 .rename_i a b;have e:(a==b)=true:=by simpa using h
  rw[beq_toListBytes] at e;have e:a=b:=by
   have e:a.toList=b.toList:=by simpa using e
   rw[ByteArray.toList_eq,ByteArray.toList_eq] at e;exact ByteArray.ext (Array.toList_inj.1 e)
  subst e;cases h1;cases h2;rfl
 .simp at h;subst h;cases h1;cases h2;rfl
 cases h
theorem acZ{w:World}{own:Nat->Prop}{k:PV}{kv:Value}{kind:TypeDesc}(hk:Es kind (iZ k))(h1:cF w own k kv):∀ {es:t_} {l:List MapEntry} {i:Nat} {f:Option (Nat×b_)},
  l.length=es.length->(∀(j:Nat) (q:PV) (v:b_) (e:MapEntry),es[j]?=some (q,v)->l[j]?=some e->cF w own q e.key)->qC k es i=some f->
  (f=none/\Instr.findNow kind kv l i=some none)\/ ∃j q v e,f=some (i+j,v)/\es[j]?=some (q,v)/\l[j]?=some e/\sameKey k q=some true/\Instr.findNow kind kv l i=some (some (i+j,e.val)):=by
 intro es
 induction es with
 |nil=>
  intro l i f hl _ hf;simp[qC] at hf;cases l with
  |nil=>exact .inl ⟨hf.symm,rfl⟩
  |cons _ _=>simp at hl
 |cons p r ih=>
  intro l i f hl hq hf;obtain⟨a,v⟩:=p;cases l with
  |nil=>simp at hl
  |cons e l=>
   have pZ:=hq 0 a v e rfl rfl;simp only[qC] at hf;split at hf
   .rename_i hs;cases hf;exact .inr ⟨0,a,v,e,rfl,rfl,rfl,hs,by simp[Instr.findNow,YD hk hs h1 pZ]⟩
   .rename_i hs;rcases ih (l:=l) (i:=i+1) (f:=f) (by simpa using hl) (fun j q v e a b=>hq (j+1) q v e (by simpa using a) (by simpa using b)) hf with ⟨e1,e2⟩|⟨j,q,v',e',e1,e2,e3,e4,e5⟩
    .exact .inl ⟨e1,by simp[Instr.findNow,YD hk hs h1 pZ,e2]⟩
    refine .inr ⟨j+1,q,v',e',by rw[e1];congr 2;omega,by simpa using e2,by simpa using e3,e4,?_⟩;simp only[Instr.findNow,YD hk hs h1 pZ,e5];congr 3;omega
   cases hf
theorem akU{t:TypeId}{kind:TypeDesc}{kd:Nat}{b:Bool}{v:Value}(w:World)(h:P.underlying t=some kind)(hk:Es kind kd)(n:Nat):(Instr.checkKey b (n+1) t v).run P w=.ok () w:=by rcases hk with ⟨_,k,rfl⟩|⟨_,rfl⟩|⟨_,rfl⟩<;>simp[Instr.checkKey,run_underlying h]
theorem Ma{t:TypeId}{kind:TypeDesc}{kd:Nat}{b:Bool}{v:Value}(w:World)(h:P.underlying t=some kind)(hk:Es kind kd):(Instr.checkKey b 10000 t v).run P w=.ok () w:=akU w h hk 9999
theorem atp{w:World}{own:Nat->Prop}{k:PV}{kv:Value}{kind:TypeDesc}(hk:Es kind (iZ k))(h:cF w own k kv)(n:Nat):Instr.sameBits n kv kv=true:=by
 cases h<;>first
  |(simp[iZ,Es] at hk;done)
  |(simp[Instr.sameBits];done)
  |(simp[Instr.sameBits,beq_toListBytes];done)
theorem apH{w0 w:World}{own:Nat->Prop}{k:PV}{kv:Value}{kind:TypeDesc}(hk:Es kind (iZ k))(h:cF w0 own k kv):(Instr.keyThatStays kv kv).run P w=.ok kv w:=by rw[Instr.keyThatStays,atp hk h,aD rfl];rfl
theorem PY{t:TypeId}{kind:TypeDesc}{v:Value}{l:List MapEntry}{r:Option (Nat×Value)}(w:World)(h:P.underlying t=some kind)(hf:Instr.findNow kind v l 0=some r):(Instr.findKey t v l).run P w=.ok r w:=by simp[Instr.findKey,run_underlying h,hf]
theorem af2{m:Mem}{v:b_}{x:V}{val:Value}{g:Array Value}(h:mapVal ag v=some x)(h1:ag=true->val=.agg g)(h2:ag=false-> #[val]=g)(hp:dD m.w m.own v g.toList):ch m x val/\pR m x val:=by
 cases ag with
 |true=>simp only[mapVal,gh] at h;subst h;exact⟨ch.agg.2 ⟨g,h1 rfl,hp.Eb⟩,⟨g,h1 rfl,hp.Eb⟩⟩
 |false=>
  have h2:=h2 rfl;subst h2;cases v with
  |nil=>simp[mapVal] at h
  |cons c r=>
   cases r with
   |nil=>simp only[mapVal,gh] at h;subst h;have:=hp.2 0 c val rfl rfl;exact⟨nE this,dx.p this⟩
   |cons _ _=>simp[mapVal] at h
section
variable {m:Mem} {ak:Env} {a:Act} {o:Oper} (au:Ok w0 m) (hr:jC m ak a.tmps)
include au
theorem at2{t kt e:TypeId}{s:Nat}(ho:o.op=.makeMap t none):
  gj P w0 a.eval o m (.one (.kU s ((m.aj s).1+1))) [(s,((m.aj s).1+1,some (.map ag [])))]:=by
 refine⟨.map (some m.w.heap.size),m.fresh (.map #[] 0) s 0 (.map ag []),.inl ?_,adi au _ s 0 _ ⟨#[],0,adh _ s 0 _,rfl,fun i q v e h=>by simp at h⟩,Qb _ s 0 _,We au _ s 0 _,Wd _ _ s 0 _,ch.one.2 (.kU _ ?_ fun _ _=>?_)⟩
 .simp[execOp,ho,Instr.makeMap];rfl
 .simp[Mem.fresh,Mem.install,Mem.later,aO]
 simp[Mem.fresh,Mem.install,aO]
include hr
theorem at4{c:Call}{x:Operand}{x':aS}{t k e:TypeId}{n:Nat}{r:a_}(ho:o.op=.call c)(hc:c.callee=.builtin .len)(has:c.args= #[x])(kr:c.argTypes[0]?=some t)(ht:P.underlying t=some (.map k e))
  (hx:cZ x=some x') (hv:AR m.aj (ev ak x')=some (n,r)):gj P w0 a.eval o m (.one (.p (.int .i64 n))) []:=by
 refine .calm au ?_ (nE (.int _ _));have h0:(#[a.eval x]:Array Value)[0]?=some (a.eval x):=rfl;rcases ap3 au hv (eQ hx hr) with ⟨h1,rfl⟩|⟨ref,ents,clock,h1,h2,rfl⟩
 .simp[execOp,ho,resolve,hc,has,kr,invoke,builtin,Builtin.len_,run_underlying ht,h1,goInt]
 simp[execOp,ho,resolve,hc,has,kr,invoke,builtin,Builtin.len_,run_underlying ht,h1,goInt,MJ h2]
theorem atY{t kt e:TypeId}{x k:Operand}{x' k':aS}{ok:Bool}{z:b_}{q:w_}{kd:Nat}{es:t_}{r:a_}{key:PV}{f:Option (Nat×b_)}{w:V}(ho:o.op=.lookup t x k ok)(ht:P.underlying t=some (.map kt e))
  (hz:A9 P e=some z) (BG:keyOf P kt=some kd) (uy:SJ P e=q.isSome) (hx:cZ x=some x') (hk:cZ k=some k') (hm:mapOf m.aj q.isSome (ev ak x')=some (es,r)) (Dw:ev ak k'=.one (.p key)) (wG:iZ key=kd)
  (hf:qC key es 0=some f) (hw:mapVal q.isSome ((f.map (·.2)).getD z)=some w):gj P w0 a.eval o m (if ok then .tup [w,.one (.p (.bool f.isSome))] else w) []:=by
 obtain⟨kind,xL,Dx⟩:=afu BG;obtain⟨ents,Qq,hl,eN⟩:=aqG au hm (eQ hx hr);have Nr:=eQ hk hr;rw[Dw] at Nr;obtain⟨dK⟩:dx m _ _:=Nr;have l6:(∃ref clock,a.eval x=.map (some ref)/\m.w.heap[ref]?=some (.map ents clock))\/a.eval x=.map none/\ents= #[]:=by
  rcases Qq with h|h
  .exact .inr h
  exact .inl h
 have key:∀(val:Value) (b:Bool),ch m w val->pR m w val->f.isSome=b->(Instr.lookup t (a.eval x) (a.eval k) ok).run P m.w=.ok (if ok then .tuple #[val,.bool b] else val) m.w->gj P w0 a.eval o m (if ok then .tup [w,.one (.p (.bool f.isSome))] else w) []:=by
  intro val b h1 kn h2 h3;refine .calm au (x:=if ok then .tuple #[val,.bool b] else val) ?_ ?_
  .simp[execOp,ho,h3]
  cases ok
  .exact h1
  refine⟨_,rfl,rfl,fun j y u p q=>?_⟩;rcases j with _|_|j
  .simp at p q;subst p q;exact kn
  .simp at p q;subst p q;rw[h2];exact dx.p (.bool _)
  simp at p
 rcases acZ (kind:=kind) (by rw[wG];exact Dx) dK (l:=ents.toList) (by simpa using hl) (fun j q v e h1 h2=>(eN j q v e h1 (by simpa using h2)).1) hf with ⟨rfl,hn⟩|⟨j,q',v,e',rfl,h2,h3,_,hn⟩
 .obtain⟨zv,i,hi,xK,Ks,mS,dR⟩:=OY hz;obtain⟨v1,v2⟩:=af2 (m:=m) (val:=zv) (g:=zv.cells) hw (fun hq=>by
    rw[hq] at uy;unfold SJ at uy;rw[hi] at uy;simp only[xK] at uy;cases zv<;>simp[Value.cells] at uy |-) (fun hq=>by
    rw[hq] at uy;unfold SJ at uy;rw[hi] at uy;simp only[xK] at uy;cases zv<;>simp[Value.cells] at uy |-) (dR m.w m.own)
  refine key zv false v1 v2 rfl ?_;have Fl:=PY (P:=P) m.w xL hn;rcases l6 with ⟨ref,clock,h1,h2⟩|⟨h1,h2⟩
  .cases ok<;>simp[Instr.lookup,run_underlying ht,h1,MJ h2,Ma m.w xL Dx,Fl,zeroValue,typeInfo,hi,xK]
  subst h2;cases ok<;>simp[Instr.lookup,run_underlying ht,h1,Ma m.w xL Dx,Instr.findKey,run_underlying xL,Instr.findNow,zeroValue,typeInfo,hi,xK]
 obtain⟨hqk,g,Hq,Dt,dR⟩:=eN j q' v e' h2 (by simpa using h3);obtain⟨v1,v2⟩:=af2 hw Hq Dt dR;refine key e'.val true v1 v2 rfl ?_;have Fl:=PY (P:=P) m.w xL hn;rcases l6 with ⟨ref,clock,h1,h2⟩|⟨h1,h2⟩
 .cases ok<;>simp[Instr.lookup,run_underlying ht,h1,MJ h2,Ma m.w xL Dx,Fl]
 subst h2;simp at h3
theorem ahO{t kt e:TypeId}{x k y:Operand}{x' k' y':aS}{kd:Nat}{ag:Bool}{id g:Nat}{es:t_}{key:PV}{cs:f_}{ps:b_}{f:Option (Nat×b_)}(ho:o.op=.mapUpdate t x k y\/o.op=.insert t x k y)(ht:P.underlying t=some (.map kt e))
  (BG:keyOf P kt=some kd) (hx:cZ x=some x') (hk:cZ k=some k') (hy:cZ y=some y') (hm:ev ak x'=.one (.kU id g)) (hb:m.aj id=(g,some (.map ag es))) (Dw:ev ak k'=.one (.p key)) (wG:iZ key=kd)
  (dB:yy ag (ev ak y')=some cs) (dR:Cp cs=some ps) (hf:qC key es 0=some f):
  gj P w0 a.eval o m .undef [(id,(g,some (.map ag (match f with|some (i,_)=>es.set i (key,ps)|none=>es++[(key,ps)]))))]:=by
 obtain⟨kind,xL,Dx⟩:=afu BG;have hxr:=eQ hx hr;rw[hm] at hxr;have hid:=congrArg Prod.snd hb;have hg:=congrArg Prod.fst hb;obtain⟨ref,ents,clock,xR,aZ,hh,hl,eN⟩:=Nw au hxr (.inl hb);subst aZ;have Nr:=eQ hk hr;rw[Dw] at Nr;obtain⟨dK⟩:dx m _ _:=Nr;have hyr:=eQ hy hr
 -- the value's cells
 have hval:∃gv:Array Value,(ag=true->a.eval y=.agg gv)/\(ag=false-> #[a.eval y]=gv)/\dD m.w m.own ps gv.toList:=by
  generalize ev ak y'=vy at dB hyr;cases ag with
  |true=>
   cases vy<;>simp[yy] at dB
   subst dB;obtain⟨arr,h1,h2⟩:=ch.agg.1 hyr;exact⟨arr,fun _=>h1,fun h=>(by cases h),ON dR h2⟩
  |false=>
   cases vy<;>simp[yy] at dB
   subst dB;refine⟨#[a.eval y],fun h=>(by cases h),fun _=>rfl,ON dR ⟨rfl,fun j x u p q=>?_⟩⟩;rcases j with _|j
   .simp at p q;subst p q;exact hyr
   simp at p
 obtain⟨gv,za,qJ,hvp⟩:=hval;have aw:=wD hh;have Kw:∀(Da:Array MapEntry) (EE:Nat) (im:t_),(execOp a.eval o).run P m.w=.ok .skip {m.w with heap:=m.w.heap.setIfInBounds (m.σ id) (.map Da EE)}->O5 m.w m.own ag im Da->
   gj P w0 a.eval o m .undef [(id,(g,some (.map ag im)))]:=by
  intro Da EE im kB Qq;have hs:(m.w.heap.setIfInBounds (m.σ id) (.map Da EE)).size=m.w.heap.size:=af;have hko:∀c,c≠m.σ id->(m.w.heap.setIfInBounds (m.σ id) (.map Da EE))[c]?=m.w.heap[c]? :=fun c hc=>by rw[Array.getElem?_setIfInBounds];rw[ay (fun e=>hc e.symm)]
  have eD:Ev m (m.kX {m.w with heap:=m.w.heap.setIfInBounds (m.σ id) (.map Da EE)} id (.map ag im)):=OJ hid rfl rfl rfl rfl rfl hs hko;refine⟨_,m.kX {m.w with heap:=m.w.heap.setIfInBounds (m.σ id) (.map Da EE)} id (.map ag im),.inr ⟨kB,rfl⟩,Si hid rfl au rfl rfl rfl rfl hs hko ?_,eD,rfl,?_,rfl⟩
  .refine⟨Da,EE,?_,Qq.1,fun i q v e h1 h2=>?_⟩
   .show(m.w.heap.setIfInBounds (m.σ id) (.map Da EE))[m.σ id]?=_;rw[Array.getElem?_setIfInBounds,aD rfl,aD aw]
   obtain⟨p1,gg,p2,p3,p4⟩:=Qq.2 i q v e h1 h2;exact⟨p1.ev eD.zero,gg,p2,p3,p4.ev eD.zero⟩
  simp only[Mem.kX,app,hg]
 rcases acZ (kind:=kind) (by rw[wG];exact Dx) dK (l:=ents.toList) (by simpa using hl) (fun j q v e h1 h2=>(eN j q v e h1 (by simpa using h2)).1) hf with ⟨rfl,hn⟩|⟨j,q',v,e',rfl,h2,h3,h4,hn⟩
 .refine Kw (ents.push {key:=a.eval k,val:=a.eval y,born:=clock}) (clock+1) _ ?_ ?_
  .have Fl:=PY (P:=P) m.w xL hn;rcases ho with ho|ho<;>simp[execOp,ho,Instr.mapUpdate,run_underlying ht,xR,MJ hh,Ma m.w xL Dx,Fl,ahJ hh]
  refine⟨by simp[hl],fun i q v e h1 h2=>?_⟩;by_cases hi:i<es.length
  .rw[xh hi] at h1;rw[Array.getElem?_push,ay aa] at h2;exact eN i q v e h1 h2
  rw[zI aa] at h1;have:i=es.length:=by
   by_cases h:i-es.length=0
   .omega
   have:=(aT.1 h1).1;simp at this;omega
  subst this;simp at h1;obtain⟨rfl,rfl⟩:=h1;rw[Array.getElem?_push,aD hl.symm] at h2;cases h2;exact⟨dK,gv,za,qJ,hvp⟩
 have rm:ents[j]?=some e':=by simpa using h3
 have hqe:e'.key=a.eval k:=sameKey_eq h4 dK (eN j q' v e' h2 rm).1;refine Kw (ents.modify j fun e=>{e with key:=a.eval k,val:=a.eval y}) clock _ ?_ ?_
 .have Fl:=PY (P:=P) m.w xL hn;rw[js] at Fl;have Ns:(Instr.keyThatStays e'.key (a.eval k)).run P m.w=.ok (a.eval k) m.w:=by rw[hqe];exact apH (kind:=kind) (by rw[wG];exact Dx) dK
  rcases ho with ho|ho<;>simp[execOp,ho,Instr.mapUpdate,run_underlying ht,xR,MJ hh,Ma m.w xL Dx,Fl,ahJ hh,rm,Ns]
 simp only[js];refine⟨by simp[hl],fun i q v e h1 h2=>?_⟩;rw[qT] at h1;rw[Array.getElem?_modify] at h2;by_cases iv:j=i
 .subst iv;rw[aD rfl] at h1;split at h1
  .cases h1;simp[rm] at h2;subst h2;exact⟨dK,gv,za,qJ,hvp⟩
  cases h1
 rw[ay iv] at h1;rw[ay iv] at h2;exact eN i q v e h1 h2
end
end
end Go.Abs
namespace Go.Abs
variable {P:Program} {w0:World}
theorem ahB{t:TypeId}{b:Bool}(h:Sh P t=some b):(b=true/\ ∃k,P.underlying t=some (.int k))\/(b=false/\P.underlying t=some .bool):=by
 unfold Sh at h;split at h
 .rename_i k hk;cases h;exact .inl ⟨rfl,_,hk⟩
 .rename_i hk;cases h;exact .inr ⟨rfl,hk⟩
 cases h
theorem al9{a b:PV}{r:Bool}(h:vl true a b=some r):∃k x y,a=.int k x/\b=.int k y/\r=(x==y):=by
 cases a<;>cases b<;>simp[vl] at h
 exact⟨_,_,_,rfl,by rw[h.1],h.2.symm⟩
theorem al8{a b:PV}{r:Bool}(h:vl false a b=some r):∃x y,a=.bool x/\b=.bool y/\r=(x==y):=by
 cases a<;>cases b<;>simp[vl] at h
 exact⟨_,_,rfl,rfl,h.symm⟩
theorem amb{as bs:f_}{r:Bool}(h:wy [] as bs=some r):r=true:=by
 cases as<;>cases bs<;>simp[wy] at h
 exact h
theorem ama{k:Bool}{ks:m_}{as bs:f_}{r:Bool}(h:wy (k::ks) as bs=some r):
  ∃a ar b br r0,as=.p a::ar/\bs=.p b::br/\vl k a b=some r0/\(r0=true->wy ks ar br=some r)/\(r0=false->r=false):=by
 cases as with
 |nil=>simp[wy] at h
 |cons x ar=>
  cases bs with
  |nil=>cases x<;>simp[wy] at h
  |cons y br=>
   cases x<;>cases y<;>simp only[wy] at h<;>try cases h
   rename_i a b;cases he:vl k a b with
   |none=>simp[he] at h
   |some r0=>
    refine⟨a,ar,b,br,r0,rfl,rfl,he,fun e=>?_,fun e=>?_⟩
    .subst e;simpa [he] using h
    subst e;simp[he] at h;exact h
theorem amc{w:World}{m:Mem}(d:Nat){A B:Array Value}:∀ {fs:List Field} {ks:m_} {k:Nat} {as bs:f_} {r:Bool},La P k fs=some ks->wy ks as bs=some r->
  (∀(j:Nat) (x:C),as[j]?=some x->∃v,A[k+j]?=some v/\dx m x v)->(∀(j:Nat) (x:C),bs[j]?=some x->∃v,B[k+j]?=some v/\dx m x v)->
  (Op.eqFields (d+1) A B fs).run P w=.ok r w:=by
 intro fs
 induction fs with
 |nil=>intro ks k as bs r hf he _ _;simp[La] at hf;subst hf;rw[amb he];simp[Op.eqFields,Sem.run_pure]
 |cons f fs ih=>
  intro ks k as bs r hf he ha hb;simp only[La] at hf;split at hf
  .rename_i b CQ h1 h2;split at hf
   .rename_i hc;obtain⟨W3,aoB⟩:=hc;cases hf;obtain⟨x,ar,y,br,r0,rfl,rfl,h0,ht,hf⟩:=ama he;obtain⟨va,hva,wK⟩:=ha 0 (.p x) rfl;obtain⟨vb,hvb,sa⟩:=hb 0 (.p y) rfl;obtain⟨wK⟩:=wK;obtain⟨sa⟩:=sa;rw[u9] at hva hvb;have NO:∀(X:Array Value) (v:Value),X[k]?=some v->(part f.type X f.offset).run P w=.ok v w:=by
     intro X v hX;have uy:(isAgg f.type).run P w=.ok false w:=by rcases ahB h1 with ⟨_,kk,hu⟩|⟨_,hu⟩<;>simp[isAgg,run_underlying hu]
     rw[W3];simp[part,uy,hX]
    have aoc:(Op.equalIn (d+1) f.type va vb).run P w=.ok r0 w:=by
     rcases ahB h1 with ⟨rfl,kk,hu⟩|⟨rfl,hu⟩
     .obtain⟨k',p,q,rfl,rfl,rfl⟩:=al9 h0;cases wK;cases sa;simp[Op.equalIn,run_underlying hu]
     obtain⟨p,q,rfl,rfl,rfl⟩:=al8 h0;cases wK;cases sa;simp[Op.equalIn,run_underlying hu]
    simp only[Op.eqFields,aD aoB,Sem.run_bind,NO A va hva,NO B vb hvb,aoc,Result.andThen_ok];cases r0 with
    |false=>rw[hf rfl];simp[Sem.run_pure]
    |true=>simp only[Cx,dN,if_false];exact ih h2 (ht rfl) (fun j x hx=>by have:=ha (j+1) x (by simpa using hx);rwa[show k+(j+1)=k+1+j by omega] at this) (fun j x hx=>by have:=hb (j+1) x (by simpa using hx);rwa[show k+(j+1)=k+1+j by omega] at this)
   cases hf
  cases hf
def CC:vV->Value->Bool->Prop
 | .ptr,v,b=>∃a,v=.pointer a/\a.isNone=b
 | .slc,v,b=>∃a l c,v=.slice a l c/\a.isNone=b
 | .map,v,b=>∃r,v=.map r/\r.isNone=b
 | .fnc,v,b=>(v=.nilFunc/\b=true)\/ ∃f x y,v=.func f x y/\b=false
 | .ifc,v,b=>(v=.nilIface/\b=true)\/ ∃d x,v=.iface d x/\b=false
 |_,_,_=>False
theorem ze{m:Mem}{k:vV}{x:V}{v:Value}{b:Bool}(h:HO k x=some b)(hr:ch m x v):CC k v b:=by
 unfold HO at h;split at h<;>cases h
 all_goals first
  |(obtain⟨hp⟩:dx m _ v:=hr;cases hp;first
    |exact⟨_,rfl,rfl⟩
    |exact⟨_,_,_,rfl,rfl⟩
    |exact .inl ⟨rfl,rfl⟩
    |exact .inr ⟨_,_,_,rfl,rfl⟩
    |exact .inr ⟨_,_,rfl,rfl⟩)
  |(have hc:dx m _ v:=hr;cases hc;first
    |exact⟨_,rfl,rfl⟩
    |exact⟨_,_,_,rfl,rfl⟩
    |exact .inr ⟨_,_,_,rfl,rfl⟩)
def SS(P:Program)(t:TypeId):vV->Prop
 | .bool=>P.underlying t=some .bool
 | .ptr=>∃e,P.underlying t=some (.pointer e)
 | .slc=>∃e,P.underlying t=some (.slice e)
 | .map=>∃a b,P.underlying t=some (.map a b)
 | .fnc=>∃a b c,P.underlying t=some (.func a b c)
 | .ifc=>∃a,P.underlying t=some (.interface a)
 | .str ks=>∃fs,P.underlying t=some (.struct fs)/\P.stoodInHeld t=false/\P.eqGuardType P.depth t=false/\La P 0 fs.toList=some ks
theorem abD{t:TypeId}{x y:Operand}{k:vV}(h:Ms P t x y=some k):SS P t k/\(k=.ifc->KM x=true\/KM y=true):=by
 unfold Ms at h;split at h
 .rename_i a ha;split at h
  .rename_i hc;cases h;exact⟨⟨_,ha⟩,fun _=>by simpa using hc⟩
  cases h
 .rename_i ha;cases h;exact⟨ha,fun e=>by cases e⟩
 .rename_i ha;cases h;exact⟨⟨_,ha⟩,fun e=>by cases e⟩
 .rename_i ha;cases h;exact⟨⟨_,ha⟩,fun e=>by cases e⟩
 .rename_i ha;cases h;exact⟨⟨_,_,ha⟩,fun e=>by cases e⟩
 .rename_i ha;cases h;exact⟨⟨_,_,_,ha⟩,fun e=>by cases e⟩
 .rename_i fs ha;split at h
  .rename_i hc;simp only[dS] at h;obtain⟨ks,h1,rfl⟩:=h;simp at hc;exact⟨⟨fs,ha,hc.1,hc.2,h1⟩,fun e=>by cases e⟩
  cases h
 cases h
theorem abE{t:TypeId}{k:vV}{v u:Value}{a b:Bool}(w:World)(hk:SS P t k)(h1:CC k v a)(h2:CC k u b)(ef:a=true\/b=true)(d:Nat):(Op.equalIn (d+1) t v u).run P w=.ok (a&&b) w:=by
 cases k with
 |bool=>exact h1.elim
 |str n=>exact h1.elim
 |ptr=>obtain⟨e,hu⟩:=hk;obtain⟨x,rfl,rfl⟩:=h1;obtain⟨y,rfl,rfl⟩:=h2;cases x<;>cases y<;>simp at ef<;>simp[Op.equalIn,run_underlying hu]
 |slc=>obtain⟨e,hu⟩:=hk;obtain⟨x,_,_,rfl,rfl⟩:=h1;obtain⟨y,_,_,rfl,rfl⟩:=h2;cases x<;>cases y<;>simp at ef<;>simp[Op.equalIn,run_underlying hu]
 |map=>obtain⟨e,e',hu⟩:=hk;obtain⟨x,rfl,rfl⟩:=h1;obtain⟨y,rfl,rfl⟩:=h2;cases x<;>cases y<;>simp at ef<;>simp[Op.equalIn,run_underlying hu]
 |fnc=>obtain⟨e,e',e'',hu⟩:=hk;rcases h1 with ⟨rfl,rfl⟩|⟨_,_,_,rfl,rfl⟩<;>rcases h2 with ⟨rfl,rfl⟩|⟨_,_,_,rfl,rfl⟩<;>simp at ef<;>simp[Op.equalIn,run_underlying hu]
 |ifc=>obtain⟨e,hu⟩:=hk;rcases h1 with ⟨rfl,rfl⟩|⟨_,_,rfl,rfl⟩<;>rcases h2 with ⟨rfl,rfl⟩|⟨_,_,rfl,rfl⟩<;>simp at ef<;>simp[Op.equalIn,run_underlying hu]
section
variable {m:Mem} {ak:Env} {a:Act} {o:Oper} (au:Ok w0 m) (hr:jC m ak a.tmps)
include au hr
theorem amh{t:TypeId}{k:vV}{x y:V}{v u:Value}{b:Bool}(hk:SS P t k)(h:Db k x y=some b)(hx:ch m x v)(hy:ch m y u)(d:Nat):(Op.equalIn (d+2) t v u).run P m.w=.ok b m.w:=by
 have _u0:=au;have _u1:=hr;unfold Db at h;split at h
 .cases h;rw[FI hx,FI hy];have hk:P.underlying t=some .bool:=hk;simp only[Op.equalIn,Sem.run_bind,run_underlying hk,Result.andThen_ok,Sem.run_pure]
 .obtain⟨A,rfl,hA⟩:=ch.agg.1 hx;obtain⟨B,rfl,hB⟩:=ch.agg.1 hy;obtain⟨fs,hu,hs,_,hf⟩:=hk;have Ar:P.fieldsOf t=fs:=by simp[Program.fieldsOf,hu]
  rw[run_equalIn_agg m.w (d+1) t A B (by rw[Ar];exact hu) hs,Ar];refine amc (w:=m.w) (m:=m) d hf h (fun j x hx=>?_) (fun j x hx=>?_)
  .have aw:j<A.size:=by have:=hA.1;simp at this;rw[this];exact(aT.1 hx).1
   exact⟨A[j],by simp[aw],hA.2 j x _ hx (by simp[aw])⟩
  have aw:j<B.size:=by have:=hB.1;simp at this;rw[this];exact(aT.1 hx).1
  exact⟨B[j],by simp[aw],hB.2 j x _ hx (by simp[aw])⟩
 .cases h
 .cases h
 split at h
 .rename_i hb;have:=abE (P:=P) m.w hk (ze h hx) (ze hb hy) (.inr rfl) (d+1)
  simpa using this
 split at h
 .rename_i ha;have:=abE (P:=P) m.w hk (ze ha hx) (ze h hy) (.inl rfl) (d+1)
  simpa using this
 cases h
theorem amd{op:BinOp}{t:TypeId}{k:vV}{x y:Operand}{x' y':aS}{b:Bool}(hk:Ms P t x y=some k)(hx:cZ x=some x')(hy:cZ y=some y')(h:Db k (ev ak x') (ev ak y')=some b):
  (eqGuard op t x y (a.eval x) (a.eval y)).run P m.w=.ok () m.w:=by
 have _u0:=au;obtain⟨df,jT⟩:=abD hk;have h1:=eQ hx hr;have h2:=eQ hy hr;by_cases hop:op=.eql\/op=.neq
 .unfold Db at h;split at h
  .rename_i e1 e2;rw[e1] at h1;rw[FI h1,eqGuard_at_bool];rfl
  .rename_i e1 e2;rw[e1] at h1;rw[e2] at h2;obtain⟨A,e3,_⟩:=ch.agg.1 h1;obtain⟨B,e4,_⟩:=ch.agg.1 h2;obtain⟨fs,_,_,hg,_⟩:=df;rw[e3,e4];exact run_eqGuard_agg m.w op t x y A B hg
  .cases h
  .cases h
  rename_i k q1 q2 q3 q4 q5 q6 q7;have hn:∃b1 b2,CC k (a.eval x) b1/\CC k (a.eval y) b2:=by
   split at h
   .rename_i hb;exact⟨_,_,ze h h1,ze hb h2⟩
   split at h
   .rename_i ha;exact⟨_,_,ze ha h1,ze h h2⟩
   cases h
  obtain⟨b1,b2,n1,n2⟩:=hn;cases k with
  |bool=>exact n1.elim
  |str n=>exact n1.elim
  |ptr=>obtain⟨q,e,_⟩:=n1;rw[e,eqGuard_at_pointer];rfl
  |slc=>obtain⟨q,_,_,e,_⟩:=n1;rw[e,eqGuard_at_slice];rfl
  |map=>obtain⟨q,e,_⟩:=n1;rw[e,eqGuard_at_map];rfl
  |fnc=>
   rcases n1 with ⟨e,_⟩|⟨_,_,_,e,_⟩
   .rw[e,eqGuard_at_nilFunc];rfl
   rw[e,eqGuard_at_func];rfl
  |ifc=>
   rcases n1 with ⟨e,_⟩|⟨_,_,e,_⟩
   .rcases n2 with ⟨e',_⟩|⟨_,_,e',_⟩
    .rw[e,e'];have hc:(∃c,x=.const c)\/ ∃c,y=.const c:=by
      rcases jT rfl with hc|hc
      .cases x<;>simp[KM] at hc
       exact .inl ⟨_,rfl⟩
      cases y<;>simp[KM] at hc
      exact .inr ⟨_,rfl⟩
     rcases hc with ⟨c,rfl⟩|⟨c,rfl⟩
     .rw[eqGuard_nil_constL];rfl
     rw[eqGuard_nil_constR];rfl
    rw[e,e',eqGuard_nil_iface];rfl
   rw[e,eqGuard_at_iface];rfl
 have:eqGuard op t x y (a.eval x) (a.eval y)=pure ():=by
  cases op<;>first
   |rfl
   |exact(hop (.inl rfl)).elim
   |exact(hop (.inr rfl)).elim
 rw[this];rfl
theorem akv{t:TypeId}{k:vV}{v u:Value}{b1:Bool}(hs:(∃p q,v=.bool p/\u=.bool q)\/(∃p q,v=.agg p/\u=.agg q)\/ ∃p q,CC k v p/\CC k u q)(h:(Op.equalIn (9998+2) t v u).run P m.w=.ok b1 m.w):
  (binOp .eql t v u).run P m.w=.ok (.bool b1) m.w/\(binOp .neq t v u).run P m.w=.ok (.bool (!b1)) m.w:=by
 have _u0:=au;have _u1:=hr;have he:Op.equal t v u=Op.equalIn (9998+2) t v u:=rfl;have key:binOp .eql t v u=(do pure (.bool (<- Op.equal t v u)))/\binOp .neq t v u=(do pure (.bool (!(<- Op.equal t v u)))):=by
  rcases hs with ⟨p,q,rfl,rfl⟩|⟨p,q,rfl,rfl⟩|⟨p,q,h1,h2⟩
  .exact⟨rfl,rfl⟩
  .exact⟨rfl,rfl⟩
  cases k with
  |bool=>exact h1.elim
  |str n=>exact h1.elim
  |ptr=>obtain⟨_,rfl,_⟩:=h1;obtain⟨_,rfl,_⟩:=h2;exact⟨rfl,rfl⟩
  |slc=>obtain⟨_,_,_,rfl,_⟩:=h1;obtain⟨_,_,_,rfl,_⟩:=h2;exact⟨rfl,rfl⟩
  |map=>obtain⟨_,rfl,_⟩:=h1;obtain⟨_,rfl,_⟩:=h2;exact⟨rfl,rfl⟩
  |fnc=>rcases h1 with ⟨rfl,_⟩|⟨_,_,_,rfl,_⟩<;>rcases h2 with ⟨rfl,_⟩|⟨_,_,_,rfl,_⟩<;>exact⟨rfl,rfl⟩
  |ifc=>rcases h1 with ⟨rfl,_⟩|⟨_,_,rfl,_⟩<;>rcases h2 with ⟨rfl,_⟩|⟨_,_,rfl,_⟩<;>exact⟨rfl,rfl⟩
 rw[key.1,key.2,he];simp only[Sem.run_bind,h,Result.andThen_ok,Sem.run_pure,and_self]
theorem ahM{op:BinOp}{t ty:TypeId}{x y:Operand}{x' y':aS}{k:vV}{neg b:Bool}(ho:o.op=.binOp op t x y ty)(hop:(op=.eql/\neg=false)\/(op=.neq/\neg=true))(hk:Ms P t x y=some k)(hx:cZ x=some x')(hy:cZ y=some y')
  (hv:Db k (ev ak x') (ev ak y')=some b):gj P w0 a.eval o m (.one (.p (.bool (if neg then !b else b)))) []:=by
 have h1:=eQ hx hr;have h2:=eQ hy hr;have hg:=amd au hr (op:=op) hk hx hy hv;have he:=amh au hr (abD hk).1 hv h1 h2 9998;have hs:(∃p q,a.eval x=.bool p/\a.eval y=.bool q)\/(∃p q,a.eval x=.agg p/\a.eval y=.agg q)\/ ∃p q,CC k (a.eval x) p/\CC k (a.eval y) q:=by
  unfold Db at hv;split at hv
  .rename_i e1 e2;rw[e1] at h1;rw[e2] at h2;exact .inl ⟨_,_,FI h1,FI h2⟩
  .rename_i e1 e2;rw[e1] at h1;rw[e2] at h2;obtain⟨A,e3,_⟩:=ch.agg.1 h1;obtain⟨B,e4,_⟩:=ch.agg.1 h2;exact .inr (.inl ⟨A,B,e3,e4⟩)
  .cases hv
  .cases hv
  split at hv
  .rename_i hb;exact .inr (.inr ⟨_,_,ze hv h1,ze hb h2⟩)
  split at hv
  .rename_i ha;exact .inr (.inr ⟨_,_,ze ha h1,ze hv h2⟩)
  cases hv
 obtain⟨r1,r2⟩:=akv au hr hs he;rcases hop with ⟨rfl,rfl⟩|⟨rfl,rfl⟩
 .exact .calm au (by simp[execOp,ho,hg,r1]) (nE (.bool _))
 exact .calm au (by simp[execOp,ho,hg,r2]) (nE (.bool _))
end
end Go.Abs
namespace Go.Abs
variable {P:Program} {w0:World}
theorem akz:∀ {es:s_} {bs:p_},bytesOf es=some bs->∃ns:d_,es.flatten=ns.map (PV.int .u8)/\bs=ns.map (fun n=>UInt8.ofNat n.toNat)/\ns.length=es.length:=by
 intro es
 induction es with
 |nil=>intro bs h;simp[bytesOf] at h;exact⟨[],rfl,h,rfl⟩
 |cons e r ih=>
  intro bs h;unfold bytesOf at h;split at h
  .rename_i e';cases e'
  .rename_i n r' e';cases e';simp only[dS] at h;obtain⟨q,hq,rfl⟩:=h;obtain⟨ns,h1,h2,h3⟩:=ih hq;exact⟨n::ns,by simp[h1],by simp[h2],by simp[h3]⟩
  cases h
theorem asG{w:World}{own:Nat->Prop}:∀ {ns:d_} {vs:List Value},Pw (cF w own) (ns.map (PV.int .u8)) vs->vs=ns.map (Value.int .u8):=by
 intro ns
 induction ns with
 |nil=>intro vs h;have:=h.1;simp at this;simp[this]
 |cons n ns ih=>
  intro vs h;cases vs with
  |nil=>have:=h.1;simp at this
  |cons v vs=>have h0:=h.2 0 _ v rfl rfl;cases h0;rw[ih (vs:=vs) ⟨by have:=h.1;simpa using this,fun j x u a b=>h.2 (j+1) x u (by simpa using a) (by simpa using b)⟩];rfl
theorem asC:∀(ns:d_) (s:ByteArray),ns.foldl (fun r n=>r.push (UInt8.ofNat n.toNat)) s=⟨s.data++(ns.map (fun n=>UInt8.ofNat n.toNat)).toArray⟩:=by
 intro ns
 induction ns with
 |nil=>intro s;cases s;simp
 |cons n ns ih=>intro s;simp only[Bc,eh];rw[ih];cases s;simp[ByteArray.push]
section
variable {m:Mem} {ak:Env} {a:Act} {o:Oper} (au:Ok w0 m) (hr:jC m ak a.tmps)
include au hr
theorem atM{s d e:TypeId}{x:Operand}{x':aS}{es:s_}{r:a_}{bs:p_}(ho:o.op=.convert s d x)(hs:P.underlying s=some (.slice e))(he:P.underlying e=some (.int .u8))(hd:P.underlying d=some .string)
  (hx:cZ x=some x') (dI:fU m.aj (ev ak x')=some (es,r,[])) (hb:bytesOf es=some bs):gj P w0 a.eval o m (.one (.p (.str ⟨bs.toArray⟩))) []:=by
 obtain⟨ns,h1,h2,h3⟩:=akz hb;obtain⟨ax,cx,xR,_,y8⟩:=abx (own:=m.own) au dI (eQ hx hr) ⟨fun _ h=>h,fun _ h=>by simp at h⟩;refine .calm au (x:=.string ⟨bs.toArray⟩) ?_ (nE (.str _));have key:(Conv.bytesToString (.slice ax es.length cx)).run P m.w=.ok (.string ⟨bs.toArray⟩) m.w:=by
  by_cases aI:es=[]
  .subst aI;have:ns=[]:=by simpa using h3
   subst this;have mu:bs=[]:=by simpa using h2
   subst mu;cases ax with
   |none=>simp[Conv.bytesToString,Sem.run_pure];rfl
   |some ad=>have:=run_bytesToString (P:=P) m.w ad 0 cx [] (by simp[loadCells,loadCellsFrom,Sem.run_pure]);exact this
  obtain⟨b,off,news,rfl,r9,yN⟩:=y8 aI;rw[h1] at r9;have hn:=asG r9;have hl:news.length=es.length:=by rw[hn];simpa using h3
  have aot:(loadCells ⟨b,off,none⟩ es.length).run P m.w=.ok (ns.map (Value.int .u8)).toArray m.w:=by rw[<- hl,<- hn];exact run_loadCells_list m.w ⟨b,off,none⟩ news fun j v hj=>by rw[Addr.add_lit];exact yN j v hj
  rw[run_bytesToString m.w _ _ cx ns aot,asC,h2];simp[ByteArray.empty,ByteArray.emptyWithCapacity];rfl
 simp only[execOp,ho,xR,Sem.run_bind,run_convert_bytes_string m.w s d e ax es.length cx hs he hd,key,Result.andThen_ok,Sem.run_pure]
end
end Go.Abs
namespace Go.Abs
variable {P:Program} {w0:World}
theorem Tn{xs:Array Operand}{a:aS}(h:qZ xs.toList=some [a]):∃x,xs= #[x]/\cZ x=some a:=by
 obtain⟨xs⟩:=xs;cases xs with
 |nil=>simp[qZ] at h
 |cons x r=>
  simp only[qZ] at h;split at h
  .rename_i y ys e1 e2;cases h;cases r with
   |nil=>exact⟨x,rfl,e1⟩
   |cons z r=>simp only[qZ] at e2;split at e2<;>simp at e2
  cases h
theorem To{xs:Array Operand}{a b:aS}(h:qZ xs.toList=some [a,b]):∃x y,xs= #[x,y]/\cZ x=some a/\cZ y=some b:=by
 obtain⟨xs⟩:=xs;cases xs with
 |nil=>simp[qZ] at h
 |cons x r=>
  simp only[qZ] at h;split at h
  .rename_i y ys e1 e2;cases h;obtain⟨z,hz,HK⟩:=Tn (xs:=r.toArray) (by simpa using e2);have:r=[z]:=by simpa using congrArg Array.toList hz
   subst this;exact⟨x,z,rfl,e1,HK⟩
  cases h
theorem avC{xs:Array TypeId}{t u:TypeId}(h1:xs[0]?=some t)(h2:xs[1]?=some u)(hs:xs.size=2):xs= #[t,u]:=by
 obtain⟨xs⟩:=xs
 match xs,hs with
 |[a,b],_=>simp at h1 h2;subst h1 h2;rfl
theorem am3{α:Type}{sz:Nat}{es ys:List (List α)}{off:Nat}(h:∀e∈es,e.length=sz)(hy:∀e∈ys,e.length=sz)(hl:off+ys.length<=es.length):(eZ es off ys).flatten=eZ es.flatten (off*sz) ys.flatten:=by
 have ht:∀k,k<=es.length->(es.take k).flatten.length=k*sz:=fun k hk=>by rw[GV fun e he=>h e (yl he),iK,zK hk]
 have e1:es.flatten=(es.take off).flatten++(es.drop off).flatten:=by rw[<- Eh,mJ]
 have e2:es.flatten=(es.take (off+ys.length)).flatten++(es.drop (off+ys.length)).flatten:=by rw[<- Eh,mJ]
 unfold eZ;rw[Eh,Eh,GV hy];congr 1
 .congr 1
  conv=>rhs;rw[e1]
  rw[List.take_left' (ht off aa)]
 rw[<- ia]
 conv=>rhs;rw[e2]
 rw[List.drop_left' (ht _ hl)]
theorem av4{R:PV->Value->Prop}{z:b_}{v:Array Value}{n:Nat}(hz:Pw R z v.toList):Pw R (List.replicate n z).flatten (Builtin.zeroCells v n).toList:=by
 have mS:z.length=v.size:=by have:=hz.1;simp at this;omega
 have dQ:∀e∈List.replicate n z,e.length=v.size:=fun e he=>by rw[SM he];exact mS
 have hlen:(Builtin.zeroCells v n).toList.length=n*v.size:=by simp[size_zeroCells]
 refine⟨by rw[hlen,GV dQ];simp,fun j x u p q=>?_⟩;have hj:j<n*v.size:=by have:=(aT.1 q).1;omega
 have jU:0<v.size:=by
  rcases Nat.eq_zero_or_pos v.size with h|h
  .rw[h] at hj;omega
  exact h
 have hdiv:j/v.size<n:=by rw[Nat.div_lt_iff_lt_mul jU];exact hj
 have QA:j%v.size<v.size:=dr _ jU;have he:(List.replicate n z)[j/v.size]?=some z:=by simp[hdiv]
 have h1:=GU dQ he QA;rw[show j/v.size*v.size+j%v.size=j by rw[Nat.mul_comm];exact Nat.div_add_mod j v.size] at h1;rw[h1] at p;have h2:(Builtin.zeroCells v n).toList[j]?=some v[j%v.size]! :=by unfold Builtin.zeroCells;simp[hj]
 rw[h2] at q;cases q;refine hz.2 (j%v.size) x _ p ?_;simp[QA]
section
variable {m:Mem} {ak:Env} {a:Act} {o:Oper} (au:Ok w0 m) (hr:jC m ak a.tmps)
include au hr
theorem atP{c:Call}{x:Operand}{x':aS}{t e:TypeId}{sz bytes:Nat}{z:b_}{sh:Nat->Bool}{v:V}{u:k_}{rd:a_}(ho:o.op=.call c)(hc:c.callee=.builtin .clear)(has:c.args= #[x])(kr:c.argTypes[0]?=some t)
  (he:Bp P t=some (e,sz,bytes,z)) (hx:cZ x=some x') (hp:bK sh ak m.aj (.clear z x')=.done v u rd):gj P w0 a.eval o m v u:=by
 obtain⟨i,zv,ht,hi,hs,hb,⟨jU,Hj⟩,xK,Ks,mS,dR⟩:=Pz he;have l9:=eQ hx hr;have run:∀(y:Value) (w':World),(Builtin.clear_ c.argTypes o.type #[a.eval x]).run P m.w=.ok y w'->(execOp a.eval o).run P m.w=.ok (.value y) w':=by intro y w' h;simp[execOp,ho,resolve,hc,has,invoke,builtin,h]
 have quiet:(Builtin.clear_ c.argTypes o.type #[a.eval x]).run P m.w=.ok (.tuple #[]) m.w->gj P w0 a.eval o m (.tup []) []:=fun h=>
  ⟨.tuple #[],m,.inl (run _ _ h),au,Ev.refl _,rfl,rfl,(⟨#[],rfl,rfl,fun j x u h=>by simp at h⟩:ch m (.tup []) _)⟩
 simp only[bK] at hp;split at hp
 .rename_i hv;cases hp;rw[hv] at l9;have l9:dx m _ (a.eval x):=l9;generalize xG:a.eval x=b at l9;rw[xG] at quiet;apply quiet;cases l9 with
  |p h=>cases h;simp[Builtin.clear_,kr,run_underlying ht]
 .rename_i hv;cases hp;rw[hv] at l9;have l9:dx m _ (a.eval x):=l9;generalize xG:a.eval x=b at l9;rw[xG] at quiet;apply quiet;cases l9 with
  |p h=>
   cases h with
   |zw a cap hn hm=>cases a<;>simp[Builtin.clear_,kr,run_underlying ht]
   |sl b o cap sz f h1 h2 h3 h4=>simp[Builtin.clear_,kr,run_underlying ht]
 .rename_i id g w off len hv;rw[hv] at l9;have l9:dx m _ (a.eval x):=l9;generalize xG:a.eval x=b at l9;rw[xG] at quiet run;cases l9 with
  |hsl ad cap hg hl hm oY=>
   split at hp
   .rename_i h0;cases hp;subst h0;apply quiet;simp[Builtin.clear_,kr,run_underlying ht]
   rename_i h0;split at hp
   .rename_i g' ty cA es iW;split at hp
    .rename_i M7;obtain⟨jo,cH,hfit⟩:=M7;cases hp;have bj:(m.aj id).2=some (.arr ty cA es):=by rw[iW]
     obtain⟨_,oY,_⟩:=oY cA (by rw[iW];exact jo) (by rw[iW];rfl);have oY:=oY (.inr aa);subst oY;obtain⟨cur,hh,qI,uI,r8,vC,adT,QH⟩:=au.obj id _ bj;have Kq:∀e∈List.replicate len z,e.length=cA:=fun e he=>by rw[SM he];exact cH.symm
     have ao8:zv.cells.size=cA:=by rw[Ks,<- mS,cH]
     have Kr:(List.replicate len z).length=len:=List.length_replicate;have yV:=am3 (off:=off) uI Kq (by rw[Kr];exact hfit);have tO:(off+len)*cA<=es.length*cA:=mZ _ hfit;have ad2:es.length*cA<=m.κ id*cA:=mZ _ r8;rw[ia] at tO;generalize hZ:(Builtin.zeroCells zv.cells len).toList=Z;have hZl:Z.length=len*cA:=by rw[<- hZ];simp[size_zeroCells,ao8]
     have hZp:∀w own,dD w own (List.replicate len z).flatten Z:=fun w own=>dD.pw.2 (by rw[<- hZ];exact av4 (dD.pw.1 (dR w own)));have QF:∀v∈Z,v.oneCell'=true:=fun v hv=>by
      obtain⟨j,hj⟩:=iJ hv;have aw:j<(List.replicate len z).flatten.length:=by rw[<- (hZp m.w m.own).1];exact(aT.1 hj).1
      exact((hZp m.w m.own).2 j _ v (rL aw) hj).Ot
     have By:off*cA+0+Z.length<=cur.size:=by rw[hZl,adT];omega
     have cV:=run_storeCells_at P (m.σ id) (off*cA) ty Z 0 cur m.w hh By QF;simp only[u9] at cV;generalize hW:m.w.setRow (m.σ id) (cur.toList.take (off*cA)++Z++cur.toList.drop (off*cA+Z.length)).toArray=W at cV;have Ff:W.heap.size=m.w.heap.size:=by rw[<- hW];simp
     have Fe:∀c,c≠m.σ id->W.heap[c]?=m.w.heap[c]? :=fun c hc=>by rw[<- hW];exact setRow_other m.w (m.σ id) c _ hc
     have ael:(eZ es off (List.replicate len z)).length=es.length:=Su (by rw[Kr];exact hfit);have eD:=OJ (w':=W) (o:=.arr ty cA (eZ es off (List.replicate len z))) bj rfl (by simp[lY]) (by rw[<- hW];rfl) (by rw[<- hW];rfl) (by rw[<- hW];rfl) Ff Fe;have DB:uf (m.kX W id (.arr ty cA (eZ es off (List.replicate len z)))) id (.arr ty cA (eZ es off (List.replicate len z))):=by
      refine⟨_,by rw[<- hW];exact OK hh,qI,?_,by rw[ael];exact r8,vC,?_,?_⟩
      .intro e' Ap;unfold eZ at Ap;simp only[eK] at Ap;rcases Ap with (h|h)|h
       .exact uI e' (yl h)
       .exact Kq e' h
       exact uI e' (xj h)
      .simp[Mem.kX];omega
      rw[ael,yV];have h1:=(dD.pw.1 (QH.ev eD.zero)).eZ (dD.pw.1 (hZp (m.kX W id (.arr ty cA (eZ es off (List.replicate len z)))).w (m.kX W id (.arr ty cA (eZ es off (List.replicate len z)))).own)) (off*cA);rw[<- ah7 aa (by simp;omega)] at h1;have h1:=dD.pw.2 h1
      simpa [eZ] using h1
     refine⟨.tuple #[],m.kX W id (.arr ty cA (eZ es off (List.replicate len z))),.inl (run _ _ ?_),Si bj rfl au (by simp[lY]) (by rw[<- hW];rfl) (by rw[<- hW];rfl) (by rw[<- hW];rfl) Ff Fe DB,eD,rfl,?_,(⟨#[],rfl,rfl,fun j x u h=>by simp at h⟩:ch _ (.tup []) _)⟩
     .obtain⟨k,rfl⟩:∃k,len=k+1:=⟨len-1,aa⟩;simp[Builtin.clear_,kr,run_underlying ht,zeroValue,typeInfo,hi,xK,hZ,cV,Mem.kX]
     simp[Mem.kX,app,iW,jo]
    cases hp
   cases hp
 cases hp
end
section
variable {m:Mem} {ak:Env} {a:Act} {o:Oper} (au:Ok w0 m) (hr:jC m ak a.tmps)
include au hr
theorem agb{t kt e:TypeId}{x k y:Operand}{x' k' y':aS}{kd:Nat}{ag:Bool}{sh:Nat->Bool}{v:V}{u:k_}{rd:a_}(ho:o.op=.mapUpdate t x k y\/o.op=.insert t x k y)(ht:P.underlying t=some (.map kt e))
  (BG:keyOf P kt=some kd) (hx:cZ x=some x') (hk:cZ k=some k') (hy:cZ y=some y') (hp:bK sh ak m.aj (.mupd kd ag x' k' y')=.done v u rd):gj P w0 a.eval o m v u:=by
 simp only[bK] at hp;split at hp
 .rename_i id g q cs e1 e2 e3;split at hp
  .rename_i g' sG es ps e4 e5;split at hp
   .rename_i r4;obtain⟨rfl,rfl,hq⟩:=r4;split at hp
    .rename_i i w hf;cases hp;exact ahO au hr ho ht BG hx hk hy e1 e4 e2 hq e3 e5 hf
    .rename_i hf;cases hp;exact ahO au hr ho ht BG hx hk hy e1 e4 e2 hq e3 e5 hf
    cases hp
   cases hp
  cases hp
 cases hp
theorem ark{site:Nat}{sh:Nat->Bool}{p:oQ}{v:V}{u:k_}{rd:a_}(hc:GJ P site o=some p)(hp:bK sh ak m.aj p=.done v u rd):gj P w0 a.eval o m v u:=by
 unfold GJ at hc;split at hc
 · -- move
  rename_i x ho;simp only[dS] at hc;obtain⟨y,h1,rfl⟩:=hc;cases hp;exact ahN au hr (.inl ho) h1
 · -- assign
  rename_i x ho;simp only[dS] at hc;obtain⟨y,h1,rfl⟩:=hc;cases hp;exact ahN au hr (.inr ho) h1
 · -- pick
  rename_i c x y ho;split at hc
  .rename_i c' x' y' h1 h2 h3;cases hc;simp only[bK] at hp;split at hp
   .rename_i t ht;cases hp;exact aua au hr ho h1 h2 h3 ht
   cases hp
  cases hc
 · -- alloc
  rename_i t ho;simp only[dS] at hc;obtain⟨z,h1,rfl⟩:=hc;cases hp;exact atH au ho h1
 · -- box
  rename_i t x ho;simp only[dS] at hc;obtain⟨z,h1,rfl⟩:=hc;simp only[bK] at hp;split at hp
  .rename_i cs dB;cases hp;exact atK au hr ho h1 dB
  cases hp
 · -- build
  rename_i t ps ho;split at hc
  .rename_i fs z h1 h2;split at hc
   .rename_i dQ;simp only[dS] at hc;obtain⟨qs,h3,rfl⟩:=hc;simp only[bK] at hp;split at hp
    .rename_i rs uH;cases hp;exact atO au hr ho h1 h2 dQ h3 uH
    cases hp
   cases hc
  .rename_i n e z h1 h2;split at hc
   .rename_i i hi;simp only[dS] at hc;obtain⟨qs,h3,rfl⟩:=hc;simp only[bK] at hp;split at hp
    .rename_i rs uH;cases hp;exact atN au hr ho h1 h2 hi h3 uH
    cases hp
   cases hc
  cases hc
 · -- buildSlice
  rename_i t n ps ho;split at hc
  .rename_i e sz bytes z as h1 h2;split at hc
   .rename_i r4;cases hc;simp only[bK] at hp;split at hp
    .rename_i es l6;obtain⟨g1,g2⟩:=atL (s:=site) au hr ho h1 h2 r4.1 r4.2 l6;split at hp
     .rename_i qs hqs;cases hp;exact g1 qs hqs
     cases hp;exact g2
    cases hp
   cases hc
  cases hc
 · -- load
  rename_i t x ho;split at hc
  .rename_i k y h1 h2;cases hc;simp only[bK] at hp;split at hp
   .rename_i cs r dB;split at hp
    .rename_i v' hv;cases hp;exact atX au hr ho h1 h2 dB hv
    cases hp
   cases hp
  cases hc
 · -- store
  rename_i t x y ho;split at hc
  .rename_i n x' y' h1 h2 h3;cases hc;simp only[bK] at hp;split at hp
   .rename_i cs dB;exact auf au hr ho h1 h2 h3 dB hp
   cases hp
  cases hc
 · -- nilCheck
  rename_i x ho;simp only[dS] at hc;obtain⟨y,h1,rfl⟩:=hc;have hu:u=[]/\rd=[]:=by simp only[bK] at hp;split at hp<;>cases hp<;>exact⟨rfl,rfl⟩
  obtain⟨rfl,rfl⟩:=hu;exact at6 au hr ho h1 hp
 · -- binOp
  rename_i op t x y ty ho;split at hc
  .rename_i x' y' h1 h2;have adO:∀(op':BinOp),p=.bin op' x' y'->op'=op->gj P w0 a.eval o m v u:=by
    intro op' e1 e2;subst e1 e2;simp only[bK] at hp;split at hp
    .rename_i v' hv;cases hp;exact atJ au hr ho h1 h2 hv
    cases hp
   split at hc
   .cases hc;exact adO _ rfl rfl
   .cases hc;exact adO _ rfl rfl
   split at hc
   .rename_i k hk;cases hc;simp only[bK] at hp;split at hp
    .rename_i b hb;cases hp;exact ahM au hr (neg:=false) ho (.inl ⟨rfl,rfl⟩) hk h1 h2 hb
    cases hp
   .rename_i k hk;cases hc;simp only[bK] at hp;split at hp
    .rename_i b hb;cases hp;exact ahM au hr (neg:=true) ho (.inr ⟨rfl,rfl⟩) hk h1 h2 hb
    cases hp
   cases hc
  cases hc
 · -- unOp
  rename_i op t x ho;split at hc
  .simp only[dS] at hc;obtain⟨y,h1,rfl⟩:=hc;simp only[bK] at hp;split at hp
   .rename_i b e1 e2;cases hp;exact at7 au hr ho h1 e2
   .rename_i e1 e2;cases e1
   cases hp
  .simp only[dS] at hc;obtain⟨y,h1,rfl⟩:=hc;simp only[bK] at hp;split at hp
   .rename_i e1 e2;cases e1
   .rename_i k n e1 e2;cases hp;exact at5 au hr ho h1 e2
   cases hp
  cases hc
 · -- convert
  rename_i s d x ho;split at hc
  .rename_i ks k y h1 h2 h3;cases hc;simp only[bK] at hp;split at hp
   .rename_i k0 n hn;cases hp;exact atQ au hr ho h1 h2 h3 hn
   cases hp
  .rename_i e y h1 h2 h3;split at hc
   .rename_i he;cases hc;simp only[bK] at hp;split at hp
    .rename_i es r l6;split at hp
     .rename_i bs n9;cases hp;exact atM au hr ho h1 he h2 h3 l6 n9
     cases hp
    cases hp
   cases hc
  cases hc
 · -- makeFunc
  rename_i f x y ho;split at hc
  .rename_i x' y' h1 h2;cases hc;simp only[bK] at hp;split at hp
   .rename_i cs ds e1 e2;cases hp;exact at1 au hr ho h1 h2 e1 e2
   cases hp
  cases hc
 · -- makeMap
  rename_i t ho;split at hc
  .simp only[dS] at hc;obtain⟨k,h1,rfl⟩:=hc;cases hp;exact at2 (kt:=t) (t:=t) (e:=t) au ho
  cases hc
 · -- makeSlice
  rename_i t l c ho;split at hc
  .rename_i e sz bytes z l' c' h1 h2 h3;cases hc;simp only[bK] at hp;split at hp
   .rename_i n n' e1 e2;split at hp
    .rename_i r4;obtain⟨rfl,lI⟩:=r4;cases hp;exact at3 au hr ho h1 h2 h3 e1 e2 lI
    cases hp
   cases hp
  cases hc
 · -- slice
  rename_i t x lo hi ho;split at hc
  .rename_i x' DK vA h1 h2 h3;split at hc
   .rename_i e ht;simp only[dS] at hc;obtain⟨sz,h4,rfl⟩:=hc;simp only[bK] at hp;split at hp
    .rename_i n hn;split at hp
     .rename_i l h e1 e2;have hu:u=[]/\rd=[]:=by
       unfold DU at hp;repeat' split at hp
       all_goals first
        |cases hp
        |skip
       all_goals exact⟨rfl,rfl⟩
      obtain⟨rfl,rfl⟩:=hu;exact aud au hr ho ht h4 h1 h2 h3 hn e1 e2 hp
     cases hp
    cases hp
   .rename_i ht;cases hc;simp only[bK] at hp;split at hp
    .rename_i s hs;split at hp
     .rename_i l h e1 e2;split at hp
      .rename_i r4;cases hp;exact aue au hr ho ht h1 h2 h3 hs e1 e2 r4.1 r4.2
      cases hp
     cases hp
    cases hp
   cases hc
  cases hc
 · -- fieldAddr
  rename_i s x f ho;split at hc
  .rename_i fs y h1 h2;split at hc
   .rename_i d hd;split at hc
    .rename_i hz;cases hc;have hu:u=[]/\rd=[]:=by
      simp only[bK] at hp;split at hp<;>cases hp<;>exact⟨rfl,rfl⟩
     obtain⟨rfl,rfl⟩:=hu;exact atT au hr ho h1 hd hz h2 hp
    cases hc
   cases hc
  cases hc
 · -- field
  rename_i t x f ho;split at hc
  .rename_i fs y h1 h2;split at hc
   .rename_i d hd;simp only[dS] at hc;obtain⟨k,h3,rfl⟩:=hc;simp only[bK] at hp;split at hp
    .rename_i cs dB;split at hp
     .rename_i v' hv;cases hp;exact atU au hr ho h1 hd h3 h2 dB hv
     cases hp
    cases hp
   cases hc
  cases hc
 · -- indexAddr
  rename_i t x i ho;split at hc
  .rename_i x' i' h1 h2;split at hc
   .rename_i e ht;simp only[dS] at hc;obtain⟨sz,h3,rfl⟩:=hc;have hu:u=[]/\rd=[]:=by
     simp only[bK] at hp;repeat' split at hp
     all_goals first
      |cases hp
      |skip
     all_goals exact⟨rfl,rfl⟩
    obtain⟨rfl,rfl⟩:=hu;exact atV au hr ho ht h3 h1 h2 hp
   .rename_i n e ht;simp only[dS] at hc;obtain⟨sz,h3,rfl⟩:=hc;have hu:u=[]/\rd=[]:=by
     simp only[bK] at hp;repeat' split at hp
     all_goals first
      |cases hp
      |skip
     all_goals exact⟨rfl,rfl⟩
    obtain⟨rfl,rfl⟩:=hu;exact atE au hr ho ht h3 h1 h2 hp
   cases hc
  cases hc
 · -- index
  rename_i t x i ho;split at hc
  .rename_i x' i' h1 h2;split at hc
   .rename_i n e ht;split at hc
    .rename_i sz k h3 h4;cases hc;simp only[bK] at hp;split at hp
     .rename_i n' cs e1 e2;split at hp
      .rename_i aw;split at hp
       .rename_i v' hv;cases hp;exact atF au hr ho ht h3 h4 h1 h2 e1 aw e2 hv
       cases hp
      cases hp
     cases hp
    cases hc
   .rename_i ht;cases hc;simp only[bK] at hp;split at hp
    .rename_i n s e1 e2;split at hp
     .rename_i b hb;cases hp;exact aub au hr ho ht h1 h2 e1 e2 hb
     cases hp
    cases hp
   cases hc
  cases hc
 · -- lookup
  rename_i t x k ok ho;split at hc
  .rename_i kt e x' k' h1 h2 h3;split at hc
   .rename_i z q h4 h5;split at hc
    .rename_i kd h6;split at hc
     .rename_i h7;cases hc;simp only[bK] at hp;split at hp
      .rename_i es r key e1 e2;split at hp
       .cases hp
       rename_i BG;split at hp
       .rename_i f hf;split at hp
        .rename_i w hw;cases hp;exact atY au hr ho h1 h4 h6 h7 h2 h3 e1 e2 (Classical.not_not.1 BG) hf hw
        cases hp
       cases hp
      cases hp
     cases hc
    cases hc
   cases hc
  cases hc
 · -- mapUpdate
  rename_i t x k y ho;split at hc
  .rename_i kt e x' k' y' h1 h2 h3 h4;split at hc
   .rename_i q h5;simp only[dS] at hc;obtain⟨kd,h6,rfl⟩:=hc;exact agb au hr (.inl ho) h1 h6 h2 h3 h4 hp
   cases hc
  cases hc
 · -- insert
  rename_i t x k y ho;split at hc
  .rename_i kt e x' k' y' h1 h2 h3 h4;split at hc
   .rename_i q h5;simp only[dS] at hc;obtain⟨kd,h6,rfl⟩:=hc;exact agb au hr (.inr ho) h1 h6 h2 h3 h4 hp
   cases hc
  cases hc
 · -- extract
  rename_i x i ho;simp only[dS] at hc;obtain⟨y,h1,rfl⟩:=hc;simp only[bK] at hp;split at hp
  .rename_i vs se;split at hp
   .rename_i v' hv;cases hp;exact atS au hr ho h1 se hv
   cases hp
  cases hp
 · -- call
  rename_i c ho;split at hc
  .rename_i f as h1 h2;simp only[dS] at hc;obtain⟨y,h3,rfl⟩:=hc;simp only[bK] at hp;repeat' split at hp
   all_goals cases hp
  .rename_i x h1 h2;obtain⟨x0,pJ,tU⟩:=Tn h2;split at hc
   .rename_i t ht;split at hc
    .rename_i hu;cases hc;simp only[bK] at hp;split at hp
     .rename_i s hs;cases hp;exact auc au hr ho h1 pJ ht hu tU hs
     cases hp
    .rename_i e hu;cases hc;simp only[bK] at hp;split at hp
     .rename_i n hn;cases hp;exact atW au hr ho h1 pJ ht hu tU hn
     cases hp
    .rename_i k e hu;cases hc;simp only[bK] at hp;split at hp
     .rename_i n r hn;cases hp;exact at4 au hr ho h1 pJ ht hu tU hn
     cases hp
    cases hc
   cases hc
  .rename_i x y h1 h2;obtain⟨x0,y0,pJ,tU,AP⟩:=To h2;split at hc
   .rename_i t u' ht hu;split at hc
    .rename_i e sz bytes z he;split at hc
     .rename_i r4;cases hc;obtain⟨rfl,cH⟩:=r4;exact atI au hr ho h1 pJ (avC ht hu cH) he tU AP hp
     cases hc
    cases hc
   cases hc
  .rename_i x y h1 h2;obtain⟨x0,y0,pJ,tU,AP⟩:=To h2;cases hc;simp only[bK] at hp;split at hp
   .rename_i k p k' q e1 e2;cases hp;exact atZ au hr ho h1 pJ tU AP e1 e2
   cases hp
  .rename_i x y h1 h2;obtain⟨x0,y0,pJ,tU,AP⟩:=To h2;cases hc;simp only[bK] at hp;split at hp
   .rename_i k p k' q e1 e2;cases hp;exact at0 au hr ho h1 pJ tU AP e1 e2
   cases hp
  .rename_i x h1 h2;obtain⟨x0,pJ,tU⟩:=Tn h2;split at hc
   .rename_i t ht;simp only[dS] at hc;obtain⟨⟨e,sz,bytes,z⟩,h3,rfl⟩:=hc;exact atP au hr ho h1 pJ ht h3 tU hp
   cases hc
  cases hc
 cases hc
end
end Go.Abs
namespace Go.Abs
variable {P:Program} {w0:World}
section
variable{m:Mem}{cs:f_}
def aiW(w:World)(Q:Nat->Prop)(ty sz:Nat)(es:s_)(c:Nat)(v:Value):Prop:=∃cap cur,v=.slice (some ⟨c,0,none⟩) es.length cap/\w.heap[c]?=some (.cells cur ty (0,0))/\0<sz/\(∀e∈es,e.length=sz)/\es.length<=cap/\cap<=maxLen/\cur.size=cap*sz/\dD w Q es.flatten (cur.toList.take (es.length*sz))
def sE(w:World)(Q:Nat->Prop):n_->List Value->a_->Prop
 |[],vs,bs=>vs=[]/\bs=[]
 | .p x::r,vs,bs=>∃v oJ,vs=v::oJ/\cF w Q x v/\sE w Q r oJ bs
 | .own ty sz es::r,vs,bs=>∃v oJ c CQ,vs=v::oJ/\bs=c::CQ/\aiW w Q ty sz es c v/\sE w Q r oJ CQ
theorem sE.mono{w w':World}{Q Q':Nat->Prop}(hk:∀c,c<w.heap.size-> ¬Q c->w'.heap[c]?=w.heap[c]? /\ ¬Q' c):∀ {rs:n_} {vs:List Value} {bs:a_},(∀c∈bs,w'.heap[c]?=w.heap[c]?)->sE w Q rs vs bs->sE w' Q' rs vs bs:=by
 intro rs
 induction rs with
 |nil=>intro vs bs _ h;exact h
 |cons r rs ih=>
  intro vs bs hb h;cases r with
  |p x=>obtain⟨v,oJ,rfl,h1,h2⟩:=h;exact⟨v,oJ,rfl,h1.mono hk,ih hb h2⟩
  |own ty sz es=>obtain⟨v,oJ,c,CQ,rfl,rfl,⟨cap,cur,e1,e2,e3,e4,e5,e6,e7,e8⟩,h2⟩:=h;exact⟨v,oJ,c,CQ,rfl,rfl,⟨cap,cur,e1,by rw[hb c af];exact e2,e3,e4,e5,e6,e7,e8.mono hk⟩,ih (fun c hc=>hb c (by simp[hc])) h2⟩
theorem sE.less{w:World}{Q Q':Nat->Prop}(h:∀b,Q' b->Q b){rs:n_}{vs:List Value}{bs:a_}(hr:sE w Q rs vs bs):sE w Q' rs vs bs:=hr.mono (fun c _ hn=>⟨rfl,fun hq=>hn (h c hq)⟩) (fun _ _=>rfl)
theorem aur(au:Ok w0 m){Q:Nat->Prop}(hQ:∀b,Q b->m.own b){c:C}{x:PV}{q:a_}{v:Value}(h:snap m.aj fE c=some (x,q))(hr:dx m c v)(hs:∀id∈q,¬Q (m.σ id)):cF m.w Q x v:=Ld au fE h hr ⟨hQ,hs⟩
theorem agF(au:Ok w0 m){Q:Nat->Prop}(hQ:∀b,Q b->m.own b):∀ {cs:f_} {rs:n_} {o q:a_} {vs:List Value},nG m.aj cs=some (rs,o,q)->dJ m cs vs->(∀id∈q,¬Q (m.σ id))->
  sE m.w Q rs vs (o.map m.σ)/\ ∀id∈o,∃ob,(m.aj id).2=some ob/\ob.fX=true:=by
 intro cs
 induction cs with
 |nil=>
  intro rs o q vs h hr _;simp only[nG,gh,lR] at h;obtain⟨rfl,rfl,rfl⟩:=h;have:vs=[]:=by have:=hr.1;simpa using this
  exact⟨⟨this,rfl⟩,fun id h=>by simp at h⟩
 |cons c cs ih=>
  intro rs o q vs h hr hq;simp only[nG] at h;split at h
  .rename_i x o1 q1 xs os qs h1 h2;cases h;cases vs with
   |nil=>simp[dJ] at hr
   |cons v vs=>
    obtain⟨i1,i2⟩:=ih (vs:=vs) h2 ⟨by have:=hr.1;simpa using this,fun j x u a b=>hr.2 (j+1) x u (by simpa using a) (by simpa using b)⟩ (fun id hid=>hq id (by simp[hid]));have hc:dx m c v:=hr.2 0 c v rfl rfl;have snapcase:∀ {y:PV},(snap m.aj fE c).map (fun(v,r)=>((.p v:RC),([]:a_),r))=some (x,o1,q1)->sE m.w Q (x::xs) (v::vs) ((o1++os).map m.σ)/\ ∀id∈o1++os,∃ob,(m.aj id).2=some ob/\ob.fX=true:=by intro _ h1;simp only[dS] at h1;obtain⟨⟨y,r⟩,h3,h4⟩:=h1;cases h4;exact⟨⟨v,vs,rfl,aur au hQ h3 hc (fun id hid=>hq id (by simp[hid])),i1⟩,i2⟩
    unfold jM at h1;split at h1
    .rename_i y;cases h1;have hy:cF m.w m.own y v:=by cases hc with|p h=>exact h
     exact⟨⟨v,vs,rfl,hy.less hQ,i1⟩,i2⟩
    .rename_i id g z len;split at h1
     .rename_i g' ty sz es hb;split at h1
      .rename_i r4;obtain⟨rfl,hlen⟩:=r4;cases h1;have hbo:(m.aj id).2=some (.arr ty sz es):=by rw[hb]
       obtain⟨cur,hh,jU,cH,hl,tc,dB,dR⟩:=au.obj id _ hbo;cases hc with
       |hsl ad cap hg wH Kc Np=>
        obtain⟨f1,f2,f3⟩:=Np sz (by rw[hb]) (by rw[hb];rfl);have oY:=f2 (.inl rfl);have mv:cap=m.κ id:=by rw[<- f3,js]
        rw[Bf] at oY;subst oY;subst mv;have aw:(es.take len).length=len:=by simp;omega
        refine⟨⟨_,vs,m.σ id,os.map m.σ,rfl,rfl,⟨m.κ id,cur,by rw[aw],hh,jU,fun e he=>cH e (yl he),by rw[aw];exact wH,tc,dB,?_⟩,i1⟩,?_⟩
        .rw[aw,JF cH];have h1:=(dD.pw.1 dR).take (len*sz);rw[Gh,zK (mZ _ hlen)] at h1;exact(dD.pw.2 h1).less hQ
        intro j hj;simp only[mW,fZ,cD] at hj;rcases hj with rfl|hj
        .exact⟨_,hbo,rfl⟩
        exact i2 j hj
      cases h1
     exact snapcase (y:=.vJ) h1
    exact snapcase (y:=.vJ) h1
  cases h
theorem aez:∀(rs:n_) (site:Nat) (b b':aB),(∀s,site<=s->(b s).1=(b' s).1)->jr b site rs=jr b' site rs:=by
 intro rs
 induction rs with
 |nil=>intro site b b' _;rfl
 |cons r rs ih=>
  intro site b b' h;have h1:dq b site r=dq b' site r:=by
   cases r with
   |p x=>rfl
   |own ty sz es=>simp only[dq,h site (bR _)]
  simp only[jr,h1,ih (site+1) b b' (fun s hs=>h s aa)]
theorem apu{s c k:Nat}{o:Ob}(hc:m.fr c):vd m (m.install s c k o) where
 own x _ hn:=⟨rfl,fun h=>hn (QS hc h)⟩
 gen id:=by
  simp only[Mem.install,aO];split
  .rename_i e;subst e;exact Nat.le_succ _
  exact bR _
 ref id hg hs:=by
  simp only[Mem.install,aO] at hg hs |-;split at hg
  .rename_i e;subst e;simp at hg
  rename_i e;simp only[ay e] at hs |-;exact⟨hs,trivial,trivial,trivial⟩
theorem vd.trans{a b c:Mem}(h:vd a b)(hs:a.w.heap.size<=b.w.heap.size)(k:vd b c):vd a c where
 own x hx hn:=by have h1:=h.own x hx hn;have h2:=k.own x (Em hx hs) h1.2;exact⟨h2.1.trans h1.1,h2.2⟩
 gen id:=mY (h.gen id) (k.gen id)
 ref id he hs':=by have h1:=h.gen id;have h2:=k.gen id;obtain⟨s1,e1,e2,e3⟩:=k.ref id aa hs';obtain⟨s2,f1,f2,f3⟩:=h.ref id aa s1;exact⟨s2,e1.trans f1,e2.trans f2,e3.trans f3⟩
theorem apg{Oh:Mem}:∀ {rs:n_} {vs:List Value} {bs:a_} {site:Nat} {m:Mem},Ok w0 m->sE m.w m.own rs vs bs->bs.Nodup->(∀c∈bs,m.fr c/\w0.heap.size<=c)->Ev Oh m->(∀c∈bs,Oh.w.heap.size<=c\/Oh.fX c)->
  ∃m',m'.w=m.w/\Ok w0 m'/\Ev Oh m'/\vd m m'/\(∀c,m'.fr c↔m.fr c/\c∉bs)/\m'.aj=app (jr m.aj site rs).2 m.aj/\dJ m' (jr m.aj site rs).1 vs:=by
 intro rs
 induction rs with
 |nil=>intro vs bs site m au h _ _ eD _;obtain⟨rfl,rfl⟩:=h;exact⟨m,rfl,au,eD,⟨fun c _ h=>⟨rfl,h⟩,fun _=>bR _,fun _ _ h=>⟨h,rfl,rfl,rfl⟩⟩,fun c=>af,rfl,rfl,fun j x u h=>by simp[jr] at h⟩
 |cons r rs ih=>
  intro vs bs site m au h iw n9 eD Hz;have cons:∀ {m':Mem} {x:C} {xs:f_} {v:Value} {vs:List Value},dx m' x v->dJ m' xs vs->dJ m' (x::xs) (v::vs):=by
   intro m' x xs v vs h1 h2;refine⟨by simp[h2.1],fun j y u a b=>?_⟩;cases j with
   |zero=>simp at a b;subst a b;exact h1
   |succ j=>simp at a b;exact h2.2 j y u a b
  cases r with
  |p x=>obtain⟨v,oJ,rfl,h1,h2⟩:=h;obtain⟨m',e1,e2,e3,e4,e5,e6,e7⟩:=ih (site:=site+1) au h2 iw n9 eD Hz;exact⟨m',e1,e2,e3,e4,e5,by simpa [jr,dq] using e6,by simpa [jr,dq] using cons (dx.p (h1.ev e4)) e7⟩
  |own ty sz es=>
   obtain⟨v,oJ,c,CQ,rfl,rfl,⟨cap,cur,q1,q2,q3,q4,q5,q6,q7,q8⟩,h2⟩:=h;have hfc:=(n9 c af).1;have h0:=apu (s:=site) (k:=cap) (o:=.arr ty sz es) hfc;have hσ:(m.install site c cap (.arr ty sz es)).σ site=c:=by simp[Mem.install,aO]
   have hκ:(m.install site c cap (.arr ty sz es)).κ site=cap:=by simp[Mem.install,aO]
   have pz:Ok w0 (m.install site c cap (.arr ty sz es)):=QR au hfc (n9 c af).2
    ⟨cur,by rw[hσ];exact q2,q3,q4,by rw[hκ];exact q5,by rw[hκ];exact q6,by rw[hκ];exact q7,dD.ev h0 q8⟩
   have aeh:=qU.1 iw;obtain⟨m',e1,e2,e3,e4,e5,e6,e7⟩:=ih (site:=site+1) (m:=m.install site c cap (.arr ty sz es)) pz (h2.less fun b hb=>QS hfc hb) aeh.2
    (fun d hd=>⟨⟨(n9 d (by simp[hd])).1,fun e=>aeh.1 (e▸hd)⟩,(n9 d (by simp[hd])).2⟩) (QQ eD hfc (Hz c af)) (fun d hd=>Hz d (by simp[hd]))
   have WA:jr (m.install site c cap (.arr ty sz es)).aj (site+1) rs=jr m.aj (site+1) rs:=aez _ _ _ _ fun s hs=>by simp only[Mem.install,aO];rw[ay aa]
   rw[WA] at e6 e7;refine⟨m',e1,e2,e3,h0.trans (bR _) e4,fun d=>?_,?_,?_⟩
   .rw[e5 d];simp only[Mem.install,cD,not_or];exact⟨fun⟨⟨a,b⟩,c⟩=>⟨a,b,c⟩,fun⟨a,b,c⟩=>⟨⟨a,b⟩,c⟩⟩
   .rw[e6];rfl
   refine cons ?_ e7;have:dx (m.install site c cap (.arr ty sz es)) (.hsl site ((m.aj site).1+1) sz 0 es.length) v:=by
    rw[q1];refine .hsl _ _ ?_ q5 q6 fun z h1 h2=>?_
    .simp[Mem.install,aO]
    have hz:lY ((m.install site c cap (.arr ty sz es)).aj site)=some sz:=by simp[Mem.install,aO,lY]
    rw[hz] at h2;cases h2;exact⟨rfl,fun _=>by rw[hσ,Bf],by rw[js];exact hκ.symm⟩
   exact this.ev e4
def yr:RV->Value->List Value->Prop
 | .one _,v,vs=>vs=[v]
 | .agg l,v,vs=>v=.agg vs.toArray/\vs.length=l.length
 | .tup _,_,_=>False
def Er:List RV->List Value->List Value->Prop
 |[],us,vs=>us=[]/\vs=[]
 |r::rs,us,vs=>∃u OP a b,us=u::OP/\vs=a++b/\yr r u a/\Er rs OP b
def Gl:RV->Value->List Value->Prop
 | .tup rs,v,vs=>∃arr,v=.tuple arr/\Er rs arr.toList vs
 |r,v,vs=>yr r v vs
theorem dJ.take{vs:List Value}(h:dJ m cs vs)(n:Nat):dJ m (cs.take n) (vs.take n):=dJ.pw.2 ((dJ.pw.1 h).take n)
theorem dJ.drop{vs:List Value}(h:dJ m cs vs)(n:Nat):dJ m (cs.drop n) (vs.drop n):=dJ.pw.2 ((dJ.pw.1 h).drop n)
theorem dJ.append{ds:f_}{vs us:List Value}(h:dJ m cs vs)(k:dJ m ds us):dJ m (cs++ds) (vs++us):=dJ.pw.2 ((dJ.pw.1 h).append (dJ.pw.1 k))
theorem dJ.single{c:C}{v:Value}(h:dx m c v):dJ m [c] [v]:=⟨rfl,fun j x u a b=>by
 rcases j with _|j
 .simp at a b;subst a b;exact h
 simp at a⟩
theorem ac8{v:V}{val:Value}(h:oX v=some cs)(hr:pR m v val):
  ∃vs,dJ m cs vs/\ ∀(rs tl:n_),rs.length=cs.length->(tq v (rs++tl)).2=tl/\ir (tq v (rs++tl)).1=rs/\yr (tq v (rs++tl)).1 val vs:=by
 cases v with
 |undef=>simp[oX] at h
 |tup vs=>simp[oX] at h
 |one c=>
  simp only[oX,gh] at h;subst h;refine⟨[val],dJ.single hr,fun rs tl hl=>?_⟩
  match rs,hl with
  |[r],_=>exact⟨rfl,rfl,rfl⟩
 |agg ds=>
  simp only[oX,gh] at h;subst h;obtain⟨arr,rfl,hc⟩:=hr;refine⟨arr.toList,hc,fun rs tl hl=>?_⟩;have h1:(rs++tl).take ds.length=rs:=by rw[<- hl];exact List.take_left
  have h2:(rs++tl).drop ds.length=tl:=by rw[<- hl];exact List.drop_left
  simp only[tq,ir,yr,h1,h2,true_and];rw[hc.1,hl]
theorem am0:∀ {ws:e_} {cs:f_} {vals:List Value},vn ws=some cs->Pw (pR m) ws vals->
  ∃vs,dJ m cs vs/\ ∀(rs:n_),rs.length=cs.length->ml (AZ ws rs)=rs/\Er (AZ ws rs) vals vs:=by
 intro ws
 induction ws with
 |nil=>
  intro cs vals h hr;simp only[vn,gh] at h;subst h;have hv:vals=[]:=by have:=hr.1;simpa using this
  subst hv;refine⟨[],⟨rfl,fun j x u a=>by simp at a⟩,fun rs hl=>?_⟩;have:rs=[]:=by simpa using hl
  subst this;exact⟨rfl,rfl,rfl⟩
 |cons w ws ih=>
  intro cs vals h hr;simp only[vn] at h;split at h
  .rename_i a b h1 h2;cases h;cases vals with
   |nil=>have:=hr.1;simp at this
   |cons val vals=>
    obtain⟨vs1,ji,kW⟩:=ac8 h1 (hr.2 0 w val rfl rfl);obtain⟨vs2,o9,fM⟩:=ih (vals:=vals) h2 ⟨by have:=hr.1;simpa using this,fun j x u p q=>hr.2 (j+1) x u (by simpa using p) (by simpa using q)⟩;refine⟨vs1++vs2,ji.append o9,fun rs hl=>?_⟩;have kA:rs.length=a.length+b.length:=by simpa using hl
    obtain⟨p1,p2,p3⟩:=kW (rs.take a.length) (rs.drop a.length) (by simp;omega);rw[mJ] at p1 p2 p3;obtain⟨q1,q2⟩:=fM (rs.drop a.length) (by simp;omega);simp only[AZ,ml,p1,p2,q1,Er];exact⟨mJ _ _,val,vals,vs1,vs2,rfl,rfl,p3,q2⟩
  cases h
theorem amZ{v:V}{val:Value}(h:tH v=some cs)(hr:ch m v val):
  ∃vs,dJ m cs vs/\ ∀(rs:n_),rs.length=cs.length->gQ (vN v rs)=rs/\Gl (vN v rs) val vs:=by
 have one:∀ {v:V},oX v=some cs->pR m v val->(∀rs,vN v rs=(tq v rs).1)->∃vs,dJ m cs vs/\ ∀(rs:n_),rs.length=cs.length->gQ (vN v rs)=rs/\Gl (vN v rs) val vs:=by
  intro v h hr he;obtain⟨vs,h1,h2⟩:=ac8 h hr;refine⟨vs,h1,fun rs hl=>?_⟩;obtain⟨_,p2,p3⟩:=h2 rs [] hl;rw[jA] at p2 p3;rw[he];generalize (tq v rs).1=y at p2 p3;cases y with
  |tup _=>exact p3.elim
  |one c=>exact⟨p2,p3⟩
  |agg c=>exact⟨p2,p3⟩
 cases v with
 |tup ws=>obtain⟨arr,rfl,hs,hc⟩:=hr;obtain⟨vs,h1,h2⟩:=am0 (m:=m) (vals:=arr.toList) h ⟨by simpa using hs,fun j x u a b=>hc j x u a (by simpa using b)⟩;exact⟨vs,h1,fun rs hl=>⟨(h2 rs hl).1,arr,rfl,(h2 rs hl).2⟩⟩
 |undef=>simp[tH,oX] at h
 |one c=>exact one h hr fun _=>rfl
 |agg c=>exact one h hr fun _=>rfl
theorem Yz{r:RV}{val:Value}{a b:List Value}(hf:yr r val a)(hc:dJ m cs (a++b)):pR m (mA r cs).1 val/\dJ m (mA r cs).2 b:=by
 cases r with
 |tup _=>exact hf.elim
 |one c=>
  have hf:a=[val]:=hf;subst hf;cases cs with
  |nil=>have:=hc.1;simp at this
  |cons x xs=>exact⟨hc.2 0 x val rfl rfl,by have:=hc.drop 1;simpa [mA] using this⟩
 |agg l=>
  obtain⟨rfl,hl⟩:=hf;refine⟨⟨_,rfl,?_⟩,?_⟩
  .have:=hc.take l.length;rw[<- hl,List.take_left] at this
   simpa [mA,hl] using this
  have:=hc.drop l.length;rw[<- hl,List.drop_left] at this
  simpa [mA,hl] using this
theorem as1:∀ {rs:List RV} {cs:f_} {us vs:List Value},Er rs us vs->dJ m cs vs->Pw (pR m) (rI rs cs) us:=by
 intro rs
 induction rs with
 |nil=>intro cs us vs h _;obtain⟨rfl,rfl⟩:=h;exact⟨rfl,fun j x u a=>by simp[rI] at a⟩
 |cons r rs ih=>
  intro cs us vs h hc;obtain⟨u,OP,a,b,rfl,rfl,h1,h2⟩:=h;obtain⟨p1,p2⟩:=Yz h1 hc;have p3:=ih h2 p2;refine⟨by simp[rI,p3.1],fun j x v q1 q2=>?_⟩;cases j with
  |zero=>simp[rI] at q1 q2;subst q1 q2;exact p1
  |succ j=>simp[rI] at q1 q2;exact p3.2 j x v q1 q2
theorem as0{r:RV}{val:Value}{vs:List Value}(hf:Gl r val vs)(hc:dJ m cs vs):ch m (qQ r cs) val:=by
 cases r with
 |tup rs=>obtain⟨arr,rfl,h⟩:=hf;have:=as1 h hc;exact⟨arr,rfl,by simpa using this.1,fun j x u a b=>this.2 j x u a (by simpa using b)⟩
 |one c=>have:=(Yz (b:=[]) (show yr (.one c) val vs from hf) (by simpa using hc)).1;exact ch.of1 this
 |agg c=>have:=(Yz (b:=[]) (show yr (.agg c) val vs from hf) (by simpa using hc)).1;exact ch.of1 this
end
end Go.Abs
namespace Go.Abs
section
variable{b':aB}{site:Nat}{cs:ke}{sh:Ctx}{ak:Env}{cp:gC}
def jB(ids:a_)(b b':aB):Prop:=∀id∈ids,b' id=b id
def tC(ts:a_)(e e':Env):Prop:=∀t∈ts,e' t=e t
theorem jB.left{x y:a_}{b:aB}(h:jB (x++y) b b'):jB x b b':=fun i hi=>h i (by simp[hi])
theorem jB.right{x y:a_}{b:aB}(h:jB (x++y) b b'):jB y b b':=fun i hi=>h i (by simp[hi])
theorem tC.left{x y:a_}{b b':Env}(h:tC (x++y) b b'):tC x b b':=fun i hi=>h i (by simp[hi])
theorem tC.right{x y:a_}{b b':Env}(h:tC (x++y) b b'):tC y b b':=fun i hi=>h i (by simp[hi])
section
variable {e e':Env}
theorem fv{a:aS}(h:tC a.tmps e e'):ev e' a=ev e a:=by
 cases a with
 |t n=>exact h n (by simp[aS.tmps])
 |_=>rfl
theorem amo:∀ {as:o_},tC (F7 as) e e'->as.map (ev e')=as.map (ev e):=by
 intro as
 induction as with
 |nil=>intro _;rfl
 |cons a r ih=>intro h;simp only[eh];rw[fv h.left,ih h.right]
theorem agA:∀ {as:o_},tC (F7 as) e e'->wV e' as=wV e as:=by
 intro as
 induction as with
 |nil=>intro _;rfl
 |cons a r ih=>intro h;simp only[wV];rw[fv h.left,ih h.right]
theorem al4{sz:Nat}:∀ {as:o_},tC (F7 as) e e'->Ab e' sz as=Ab e sz as:=by
 intro as
 induction as with
 |nil=>intro _;rfl
 |cons a r ih=>intro h;simp only[Ab];rw[fv h.left,ih h.right]
theorem arB:∀ {as:List (Nat×Nat×aS)},tC (YS as) e e'->zo e' as=zo e as:=by
 intro as
 induction as with
 |nil=>intro _;rfl
 |cons a r ih=>intro h;obtain⟨x,y,a⟩:=a;simp only[zo];rw[fv h.left,ih h.right]
theorem Pp{d:Nat}{a:Option aS}(h:tC (YR a) e e'):sH e' d a=sH e d a:=by
 cases a with
 |none=>rfl
 |some a=>simp only[sH];rw[fv h]
theorem am4{a:aS}(h:tC a.tmps e e'):ET e' a=ET e a:=by unfold ET;rw[fv h]
theorem Yl{sh:Nat->Bool}{aj:aB}{p:oQ}(h:tC p.tmps e e'):bK sh e' aj p=bK sh e aj p:=by
 cases p with
 |zn x=>simp only[bK,fv (a:=x) h]
 |pick c a b=>simp only[bK,fv (a:=c) h.left.left,fv (a:=a) h.left.right,fv (a:=b) h.right]
 |alloc s z=>rfl
 |box s x=>simp only[bK,fv (a:=x) h]
 |build z ps=>simp only[bK,arB (as:=ps) h]
 |Ey s ty sz ps=>simp only[bK,al4 (as:=ps) h]
 |load k x=>simp only[bK,fv (a:=x) h]
 |store n a x=>simp only[bK,fv (a:=a) h.left,fv (a:=x) h.right]
 |KN x=>simp only[bK,fv (a:=x) h]
 |bin op x y=>simp only[bK,fv (a:=x) h.left,fv (a:=y) h.right]
 |eqc k n x y=>simp only[bK,fv (a:=x) h.left,fv (a:=y) h.right]
 |un op x=>simp only[bK,fv (a:=x) h]
 |conv k x=>simp only[bK,fv (a:=x) h]
 |bstr x=>simp only[bK,fv (a:=x) h]
 |mkfn f a b=>simp only[bK,agA (as:=a) h.left,agA (as:=b) h.right]
 |mkmap s ag=>rfl
 |KG s ty sz bytes z l c=>simp only[bK,fv (a:=l) h.left,fv (a:=c) h.right]
 |slice sz x lo hi=>simp only[bK,fv (a:=x) h.left.left,Pp (a:=lo) h.left.right,Pp (a:=hi) h.right]
 |sslice x lo hi=>simp only[bK,fv (a:=x) h.left.left,Pp (a:=lo) h.left.right,Pp (a:=hi) h.right]
 |GS off x=>simp only[bK,fv (a:=x) h]
 |HL sz x i=>simp only[bK,fv (a:=x) h.left,fv (a:=i) h.right]
 |IT l sz x i=>simp only[bK,fv (a:=x) h.left,fv (a:=i) h.right]
 |fld off k x=>simp only[bK,fv (a:=x) h]
 |aidx l sz k x i=>simp only[bK,fv (a:=x) h.left,fv (a:=i) h.right]
 |sidx x i=>simp only[bK,fv (a:=x) h.left,fv (a:=i) h.right]
 |lookup kd z ag ok x k=>simp only[bK,fv (a:=x) h.left,fv (a:=k) h.right]
 |mupd kd ag m k v=>simp only[bK,fv (a:=m) h.left.left,fv (a:=k) h.left.right,fv (a:=v) h.right]
 |bad=>rfl
 |extract x i=>simp only[bK,fv (a:=x) h]
 |call s f as=>simp only[bK,am4 (a:=f) h.left,amo (as:=as) h.right]
 |slen x=>simp only[bK,fv (a:=x) h]
 |KD x=>simp only[bK,fv (a:=x) h]
 |mlen x=>simp only[bK,fv (a:=x) h]
 |append s ty sz b x y=>simp only[bK,fv (a:=x) h.left,fv (a:=y) h.right]
 |max x y=>simp only[bK,fv (a:=x) h.left,fv (a:=y) h.right]
 |min x y=>simp only[bK,fv (a:=x) h.left,fv (a:=y) h.right]
 |clear z x=>simp only[bK,fv (a:=x) h]
end
section
variable {b b':aB}
theorem yz{α β:Type}{f g:α->Option (β×a_)}(hf:∀x y r,f x=some (y,r)->jB r b b'->g x=some (y,r)):∀ {xs:List α} {ys:List β} {r:a_},collect f xs=some (ys,r)->jB r b b'->collect g xs=some (ys,r):=by
 intro xs
 induction xs with
 |nil=>intro ys r h _;exact h
 |cons x xs ih=>
  intro ys r h ha;simp only[collect] at h |-;split at h
  .rename_i y p bs q e1 e2;cases h;rw[hf _ _ _ e1 ha.left,ih e2 ha.right]
  cases h
theorem OM:∀(n:Nat) (c:C) (x:PV) (r:a_),snap b n c=some (x,r)->jB r b b'->snap b' n c=some (x,r):=by
 intro n
 induction n with
 |zero=>intro c x r h;simp[snap] at h
 |succ n ih=>
  intro c x r h ha;cases c with
  |p v=>exact h
  |aZ id g off=>
   have hid:id∈r:=by
    simp only[snap] at h
    (repeat' split at h)<;>first
     |cases h
     |skip
    all_goals simp
   have hb:=ha id hid;simp only[snap] at h |-;rw[hb];split at h
   .split at h
    .rename_i hg;rw[aD hg];split at h
     .rename_i hc;cases h;rw[yz ih hc (fun i hi=>ha i (by simp[hi]))]
     cases h
    cases h
   .exact h
   cases h
  |dI id g i off=>
   have hid:id∈r:=by
    simp only[snap,dS] at h
    (repeat' split at h)<;>first
     |cases h
     |skip
    all_goals(simp only[dS] at h;obtain⟨e,_,h⟩:=h;cases h;simp)
   have hb:=ha id hid;simp only[snap] at h |-;rw[hb];exact h
  |hsl id g z off len=>
   have hid:id∈r:=by
    simp only[snap] at h
    (repeat' split at h)<;>first
     |cases h
     |skip
    all_goals simp
   have hb:=ha id hid;simp only[snap] at h |-;rw[hb];split at h
   .exact h
   .exact h
   .split at h
    .rename_i hg;rw[aD hg];split at h
     .rename_i hc;cases h;rw[yz (fun _ _ _ p q=>yz ih p q) hc (fun i hi=>ha i (by simp[hi]))]
     cases h
    cases h
   cases h
  |kU id g=>
   have hid:id∈r:=by
    simp only[snap] at h
    (repeat' split at h)<;>first
     |cases h
     |skip
    all_goals simp
   have hb:=ha id hid;simp only[snap] at h |-;rw[hb];exact h
  |hfn f x y=>
   simp only[snap] at h |-;split at h
   .rename_i h1 h2;cases h;rw[yz ih h1 ha.left,yz ih h2 ha.right]
   cases h
theorem auu(x y:V)(r:a_)(h:pN b x=some (y,r))(ha:jB r b b'):pN b' x=some (y,r):=by
 cases x with
 |undef=>simp[pN] at h
 |tup _=>simp[pN] at h
 |one c=>simp only[pN,dS] at h |-;obtain⟨⟨p,q⟩,h1,h2⟩:=h;cases h2;exact⟨_,OM _ _ _ _ h1 ha,rfl⟩
 |agg cs=>simp only[pN,dS] at h |-;obtain⟨⟨p,q⟩,h1,h2⟩:=h;cases h2;exact⟨_,yz (OM _) h1 ha,rfl⟩
theorem auw{xs ys:e_}{r:a_}(h:Cn b xs=some (ys,r))(ha:jB r b b'):Cn b' xs=some (ys,r):=yz auu h ha
theorem ang{all:a_}{id:Nat}{u:k_}(h:yC b all id=some u)(hid:id∈all)(ha:jB all b b'):yC b' all id=some u:=by
 have hb:=ha id hid;unfold yC at h |-;rw[hb];split at h
 .split at h
  .rename_i ps r hc;split at h
   .rename_i hr;have mR:jB r b b':=fun i hi=>ha i (by have:=gO.1 hr i hi;simpa using this);rw[yz (OM _) hc mR];simp only;rw[aD hr];exact h
   cases h
  cases h
 .exact h
 .split at h
  .rename_i ps r hc;split at h
   .rename_i hr;have mR:jB r b b':=fun i hi=>ha i (by have:=gO.1 hr i hi;simpa using this);rw[yz (fun _ _ _ p q=>yz (OM _) p q) hc mR];simp only;rw[aD hr];exact h
   cases h
  cases h
 .exact h
 .cases h
 exact h
theorem anh{all:a_}(ha:jB all b b'):∀ {ids:a_} {u:k_},(∀i∈ids,i∈all)->vp b all ids=some u->vp b' all ids=some u:=by
 intro ids
 induction ids with
 |nil=>intro u _ h;exact h
 |cons i r ih=>
  intro u hs h;simp only[vp] at h |-;split at h
  .rename_i x y h1 h2;cases h;rw[ang h1 (hs i af) ha,ih (fun j hj=>hs j (by simp[hj])) h2]
  cases h
theorem JK{ids:a_}{u:k_}(h:tJ b ids=some u)(ha:jB ids b b'):tJ b' ids=some u:=anh ha (fun _ h=>h) h
theorem ape{r:RC}(h:jB ((dq b site r).2.map (·.1)) b b'):dq b' site r=dq b site r:=by
 cases r with
 |p x=>rfl
 |own ty sz es=>simp only[dq];rw[h site (by simp[dq])]
theorem apf:∀ {rs:n_} {site:Nat},jB ((jr b site rs).2.map (·.1)) b b'->jr b' site rs=jr b site rs:=by
 intro rs
 induction rs with
 |nil=>intro site _;rfl
 |cons r rs ih=>intro site h;simp only[jr,kZ] at h |-;rw[ape h.left,ih h.right]
theorem aeA{r:RV}(h:jB ((jJ b site r).2.map (·.1)) b b'):jJ b' site r=jJ b site r:=by unfold jJ at h |-;simp only at h;rw[apf h]
theorem apM{rd:a_}{r:RV}{v:V}{u:k_}(h:land b rd site r=some (v,u))(ha:jB rd b b')(hu:jB (u.map (·.1)) b b'):land b' rd site r=some (v,u):=by
 unfold land at h |-;split at h
 .rename_i hc;rw[aD hc];cases h;rw[aeA hu];rfl
 rename_i hc;rw[ay hc];split at h
 .rename_i fu hf;cases h;rw[JK hf ha];simp only;rw[kZ] at hu;rw[aeA hu.right]
 cases h
theorem ahc{x:V}{cs:f_}{r:a_}(h:Cj b x=some (cs,r))(ha:jB r b b'):Cj b' x=some (cs,r):=by
 have key:∀id,(id∈r->b' id=b id):=fun id hid=>ha id hid;unfold Cj at h |-;split at h
 .exact h
 .rename_i id g off;have hid:id∈r:=by
   (repeat' split at h)<;>first
    |cases h
    |skip
   all_goals simp
  simp only[key id hid];exact h
 .rename_i id g i off;have hid:id∈r:=by
   (repeat' split at h)<;>first
    |cases h
    |skip
   all_goals(simp only[dS] at h;obtain⟨e,_,h⟩:=h;cases h;simp)
  simp only[key id hid];exact h
 cases h
theorem ap2{x:V}{n:Nat}{r:a_}(h:AR b x=some (n,r))(ha:jB r b b'):AR b' x=some (n,r):=by
 have key:∀id,(id∈r->b' id=b id):=fun id hid=>ha id hid;unfold AR at h |-;split at h
 .exact h
 .exact h
 .rename_i id g;have hid:id∈r:=by
   (repeat' split at h)<;>first
    |cases h
    |skip
   all_goals simp
  simp only[key id hid];exact h
 cases h
theorem aqF{ag:Bool}{x:V}{es:t_}{r:a_}(h:mapOf b ag x=some (es,r))(ha:jB r b b'):mapOf b' ag x=some (es,r):=by
 have key:∀id,(id∈r->b' id=b id):=fun id hid=>ha id hid;unfold mapOf at h |-;split at h
 .exact h
 .exact h
 .rename_i id g;have hid:id∈r:=by
   (repeat' split at h)<;>first
    |cases h
    |skip
   all_goals simp
  simp only[key id hid];exact h
 cases h
theorem Jz{x:V}{es:s_}{r fr:a_}(h:fU b x=some (es,r,fr))(ha:jB r b b')(hf:jB fr b b'):fU b' x=some (es,r,fr):=by
 have key:∀id,(id∈r->b' id=b id):=fun id hid=>ha id hid;unfold fU at h |-;split at h
 .exact h
 .exact h
 .rename_i id g z off len;have hid:id∈r:=by
   (repeat' split at h)<;>first
    |cases h
    |skip
   all_goals simp
  simp only[key id hid];split at h
  .exact h
  .exact h
  .split at h
   .rename_i hc;rw[aD hc];split at h
    .rename_i h1;cases h;rw[yz (fun _ _ _ p q=>yz (OM _) p q) h1 hf]
    cases h
   cases h
  exact h
 cases h
theorem av2{a:V}{n:Nat}{xs:f_}{v:V}{u:k_}{r:a_}(h:A8 b a n xs=.done v u r)(ha:jB r b b'):A8 b' a n xs=.done v u r:=by
 have key:∀id,(id∈r->b' id=b id):=fun id hid=>ha id hid;unfold A8 at h |-;split at h
 .cases h
 rename_i hn;rw[ay hn];split at h
 .rename_i id g off;have hid:id∈r:=by
   (repeat' split at h)<;>first
    |cases h
    |skip
   all_goals simp
  simp only[key id hid];exact h
 .rename_i id g i off;have hid:id∈r:=by
   (repeat' split at h)<;>first
    |cases h
    |skip
   all_goals simp
  simp only[key id hid];exact h
 cases h
theorem ajF{ty sz bytes:Nat}{s x v:V}{u:k_}{r:a_}(h:gI b site ty sz bytes s x=.done v u r)(ha:jB r b b'):gI b' site ty sz bytes s x=.done v u r:=by
 unfold gI at h |-;split at h
 .cases h
 rename_i new rd fr dI;split at h
 .cases h
 rename_i cH;split at h
 .cases h
 rename_i fu rz;have sub:∀ {l:a_},(∀i∈l,i∈r)->jB l b b':=fun hl i hi=>ha i (hl i hi);split at h
 .split at h
  .rename_i hn;cases h;rw[Jz dI ha.left ha.right];simp only;rw[ay cH,JK rz ha.right];simp only;rw[aD hn]
  rename_i hn;split at h
  .rename_i hr;cases h;rw[Jz dI (sub fun i hi=>by simp[hi]) (sub fun i hi=>by simp[hi])];simp only;rw[ay cH,JK rz (sub fun i hi=>by simp[hi])];simp only;rw[ay hn,aD hr,ha site af]
  cases h
 .split at h
  .cases h
  rename_i hn;split at h
  .rename_i hr;cases h;rw[Jz dI (sub fun i hi=>by simp[hi]) (sub fun i hi=>by simp[hi])];simp only;rw[ay cH,JK rz (sub fun i hi=>by simp[hi])];simp only;rw[ay hn,aD hr,ha site af]
  cases h
 .rename_i id g z len;split at h
  .rename_i g' kL cA es hb;split at h
   .rename_i hr;cases h;rw[Jz dI (sub fun i hi=>by simp[hi]) (sub fun i hi=>by simp[hi])];simp only;rw[ay cH,JK rz (sub fun i hi=>by simp[hi])];simp only;have h1:=ha id af;rw[hb] at h1;simp only[h1];rw[aD hr,ha site af]
   cases h
  cases h
 .rename_i id g z off len aI;cases off with
  |zero=>exact(aI rfl).elim
  |succ off=>
  split at h
  .rename_i g' kL cA es hb;split at h
   .rename_i hr;cases h;rw[Jz dI (sub fun i hi=>by simp[hi]) (sub fun i hi=>by simp[hi])];simp only;rw[ay cH,JK rz (sub fun i hi=>by simp[hi])];simp only;have h1:=ha id af;rw[hb] at h1;simp only[h1];rw[aD hr]
   cases h
  cases h
 cases h
end
theorem ar5{sh:Nat->Bool}{e:Env}{b:aB}{p:oQ}{v:V}{u:k_}{r:a_}(h:bK sh e b p=.done v u r)(ha:jB r b b'):bK sh e b' p=.done v u r:=by
 cases p with
 |alloc s z=>simp only[bK,fH.done.injEq] at h |-;obtain⟨h1,h2,h3⟩:=h;rw[ha s (by rw[<- h3];simp)];exact⟨h1,h2,h3⟩
 |mkmap s ag=>simp only[bK,fH.done.injEq] at h |-;obtain⟨h1,h2,h3⟩:=h;rw[ha s (by rw[<- h3];simp)];exact⟨h1,h2,h3⟩
 |box s x=>
  simp only[bK] at h |-;split at h
  .cases h;rw[ha s af]
  cases h
 |Ey s ty sz ps=>
  simp only[bK] at h |-;split at h
  .split at h
   .cases h;rw[ha s af]
   cases h;rw[ha s af]
  cases h
 |KG s ty sz bytes z l c=>
  simp only[bK] at h |-;split at h
  .split at h
   .rename_i hc;cases h;rw[aD hc,ha s af]
   cases h
  cases h
 |load k x=>
  simp only[bK] at h |-;split at h
  .rename_i cs q hq;split at h
   .rename_i v' hv;cases h;rw[ahc hq ha];simp only[hv]
   cases h
  cases h
 |store n a x=>
  simp only[bK] at h |-;split at h
  .exact av2 h ha
  cases h
 |bstr x=>
  simp only[bK] at h |-;split at h
  .rename_i es q hq;split at h
   .rename_i bs hb;cases h;rw[Jz hq ha (fun i hi=>by simp at hi)];simp only[hb]
   cases h
  cases h
 |lookup kd z ag ok x k=>
  simp only[bK] at h |-;split at h
  .rename_i es q key hm hk;split at h
   .cases h
   rename_i BG;split at h
   .rename_i f hf;split at h
    .rename_i w hw;cases h;rw[aqF hm ha,hk];simp only;rw[ay BG];simp only[hf,hw]
    cases h
   cases h
  cases h
 |clear z x=>
  simp only[bK] at h |-;split at h
  .cases h;rfl
  .cases h;rfl
  .rename_i id g w off len e;split at h
   .rename_i h0;cases h;simp only[h0,if_true]
   rename_i h0;split at h
   .rename_i g' ty sz es h4;split at h
    .rename_i hc;cases h;have hb:=ha id af;rw[h4] at hb;rw[ay h0];simp only[hb];rw[aD hc]
    cases h
   cases h
  cases h
 |mupd kd ag m k v=>
  simp only[bK] at h |-;split at h
  .rename_i id g q cs h1 h2 h3;split at h
   .rename_i g' sG es ps h4 h5;split at h
    .rename_i hc;split at h
     .rename_i i w hf;cases h;have hb:=ha id af;rw[h4] at hb;simp only[hb,h5];rw[aD hc];simp only[hf]
     .rename_i hf;cases h;have hb:=ha id af;rw[h4] at hb;simp only[hb,h5];rw[aD hc];simp only[hf]
     cases h
    cases h
   cases h
  cases h
 |mlen x=>
  simp only[bK] at h |-;split at h
  .rename_i n q hq;cases h;rw[ap2 hq ha]
  cases h
 |append s ty sz bytes x y=>exact ajF h ha
 |call s f as=>
  simp only[bK] at h
  (repeat' split at h)<;>cases h
 |_=>exact h
theorem asm{sh:Nat->Bool}{e:Env}{b:aB}{p:oQ}{f s:Nat}{vs:e_}{r:a_}(h:bK sh e b p=.pc f vs r s)(ha:jB r b b'):bK sh e b' p=.pc f vs r s:=by
 cases p with
 |call s f as=>
  simp only[bK] at h |-;split at h
  .split at h
   .cases h
   rename_i jI;rw[ay jI];split at h
   .rename_i hs;cases h;rw[auw hs ha]
   cases h
  cases h
 |_=>
  (simp only[bK,A8,gI,DU,reduceCtorEq] at h)<;>(repeat' split at h)<;>cases h
theorem aso{sh:Nat->Bool}{e:Env}{b:aB}{p:oQ}{f:Nat}{vs:e_}(h:bK sh e b p=.sc f vs):bK sh e b' p=.sc f vs:=by
 cases p with
 |call s f as=>
  simp only[bK] at h |-;split at h
  .split at h
   .rename_i jI;rw[aD jI];exact h
   split at h<;>cases h
  cases h
 |_=>
  (simp only[bK,A8,gI,DU,reduceCtorEq] at h)<;>(repeat' split at h)<;>cases h
theorem ajD:∀(u:k_) (b b':aB) (id:Nat),id∈u.map (·.1)->app u b id=app u b' id:=by
 intro u
 induction u with
 |nil=>intro b b' id h;simp at h
 |cons x u ih=>
  intro b b' id h;obtain⟨i,o⟩:=x;simp only[app];by_cases hu:id∈u.map (·.1)
  .exact ih _ _ _ hu
  have hi:id=i:=by simpa [hu] using h
  have key:∀(u:k_) (b:aB),id∉u.map (·.1)->app u b id=b id:=by
   intro u
   induction u with
   |nil=>intro b _;rfl
   |cons x u ih=>intro b h;obtain⟨j,o⟩:=x;simp only[eh,cD,not_or] at h;simp only[app];rw[ih _ h.2,aO,ay h.1]
  rw[key u _ hu,key u _ hu,aO,aO,aD hi,aD hi]
theorem Tj:∀(u:k_) (b:aB) (id:Nat),id∉u.map (·.1)->app u b id=b id:=by
 intro u
 induction u with
 |nil=>intro b id _;rfl
 |cons x u ih=>intro b id h;obtain⟨j,o⟩:=x;simp only[eh,cD,not_or] at h;simp only[app];rw[ih _ _ h.2,aO,ay h.1]
theorem avV{e e':Env}{g:Option (Nat×Bool)}(h:∀t w,g=some (t,w)->e' t=e t):wanted e' g=wanted e g:=by
 cases g with
 |none=>rfl
 |some q=>obtain⟨t,w⟩:=q;simp only[wanted,h t w rfl]
def cE.writes(f:cE)(id:Nat):Bool:=f.wr.contains id||f.fs.contains (jO id)
def cE.uY(f:cE)(id:Nat):Bool:=f.rd.contains id||f.writes id
theorem ahe{b:aB}:∀(n:Nat) (c:C),jB (kJ b n c) b b'->kJ b' n c=kJ b n c:=by
 intro n
 induction n with
 |zero=>intro c _;rfl
 |succ n ih=>
  have many:∀(cs:f_),jB (cs.map (kJ b n)).flatten b b'->(cs.map (kJ b' n)).flatten=(cs.map (kJ b n)).flatten:=by
   intro cs
   induction cs with
   |nil=>intro _;rfl
   |cons c cs ihc=>intro h;simp only[eh,mX] at h |-;rw[ih c h.left,ihc h.right]
  intro c h;cases c with
  |p v=>rfl
  |aZ id g off=>
   simp only[kJ] at h |-;have hb:=h id af;rw[hb];split
   .rename_i cs MZ;rw[MZ] at h;rw[many cs (fun i hi=>h i (by simp only[cD];exact .inr hi))]
   rfl
  |dI id g i off=>
   simp only[kJ] at h |-;have hb:=h id af;rw[hb];split
   .rename_i cs MZ;rw[MZ] at h;rw[many _ (fun i hi=>h i (by simp only[cD];exact .inr hi))]
   rfl
  |hsl id g z off len=>
   simp only[kJ] at h |-;have hb:=h id af;rw[hb];split
   .rename_i cs MZ;rw[MZ] at h;rw[many _ (fun i hi=>h i (by simp only[cD];exact .inr hi))]
   rfl
  |kU id g=>rfl
  |hfn f x y=>simp only[kJ] at h |-;rw[many x h.left,many y h.right]
theorem asL{b:aB}(v:V)(h:jB (jN b v) b b'):jN b' v=jN b v:=by
 cases v with
 |undef=>rfl
 |tup _=>rfl
 |one c=>exact ahe _ _ h
 |agg cs=>
  simp only[jN] at h |-
  induction cs with
  |nil=>rfl
  |cons c cs ih=>simp only[eh,mX] at h |-;rw[ahe _ c h.left,ih h.right]
theorem ajw{f:Nat}{vs:e_}{b:aB}(h:jB (allow sh f vs b).ids b b'):allow sh f vs b'=allow sh f vs b:=by
 have:(vs.map (jN b')).flatten=(vs.map (jN b)).flatten:=by
  unfold allow at h;simp only at h
  induction vs with
  |nil=>rfl
  |cons v vs ih=>simp only[eh,mX] at h |-;rw[asL v h.left,ih h.right]
 unfold allow;rw[this]
def Bh(cs:ke):Prop:=∀f vs al aj v ao,cs f vs al aj=some (v,ao)->(∀id,al.ok id=false->ao id=aj id)/\
 ∀bh,(∀id,al.ok id=true->bh id=aj id)->∃ng,cs f vs al bh=some (v,ng)/\ ∀id,ng id=if al.ok id then ao id else bh id
theorem Rj{al:Al}{l:a_}(h:al.fP l=true){id:Nat}(hid:id∈l):al.ok id=true:=gO.1 h id hid
theorem aoP{a b:Al}(hb:b.any=false)(h:a.holds b=true){id:Nat}(hid:b.ok id=true):a.ok id=true:=by
 unfold Al.holds at h;simp only[vT,cU] at h;rcases h with h|⟨h1,h2⟩
 .simp[Al.ok,h]
 simp only[Al.ok,hb,Cw,vT] at hid;rcases hid with hid|hid
 .exact Rj h1 (by simpa using hid)
 have:=gO.1 h2 (jO id) (by simpa using hid);simp only[Al.ok,vT];exact .inr this
theorem YN(dB:Bh cs){o:bJ}{aF:Env}{aj ao:aB}{f:cE}(h:step1 sh cp cs o ak aj=some (aF,ao,f)):
  ∃v,aF=put ak o.dst v/\(∀id,f.writes id=false->ao id=aj id)/\(∀id,f.uY id=true->sh.al.ok id=true)/\
   ∀(dz:Env) (bh:aB),tC o.Iq ak dz->(∀id,f.uY id=true->bh id=aj id)->
    ∃ng,step1 sh cp cs o dz bh=some (put dz o.dst v,ng,f)/\ ∀id,ng id=if f.writes id then ao id else bh id:=by
 have HG:∀(dz:Env),tC o.Iq ak dz->tC o.op.tmps ak dz/\wanted dz o.guard=wanted ak o.guard:=by intro dz h;unfold bJ.Iq at h;exact⟨h.left,avV fun t w hg=>h.right t (by rw[hg];simp)⟩
 have hwr:∀(r w:a_) (id:Nat),(⟨r,w,[]⟩:cE).writes id=w.contains id:=by intro r w id;simp[cE.writes]
 have Fy:∀(r w:a_) (id:Nat),(⟨r,w,[]⟩:cE).uY id=true↔id∈r\/id∈w:=by intro r w id;simp[cE.uY,cE.writes]
 have aen:∀(u:k_) (b b2:aB) (r:a_) (id:Nat),app u b2 id=if (⟨r,u.map (·.1),[]⟩:cE).writes id then app u b id else b2 id:=by
  intro u b b2 r id;rw[hwr];by_cases hid:id∈u.map (·.1)
  .rw[aD (by simpa using hid)];exact ajD _ _ _ _ hid
  rw[ay (by simpa using hid)];exact Tj _ _ _ hid
 unfold step1 at h;split at h
 .cases h
 .rename_i hw;cases h;refine⟨.undef,rfl,fun _ _=>rfl,fun id hid=>by simp[cE.uY,cE.writes] at hid,fun dz bh he hb=>⟨bh,?_,fun id=>by simp[cE.writes]⟩⟩;unfold step1;rw[(HG dz he).2,hw]
 rename_i hw;split at h
 .cases h
 .rename_i v u r hp;split at h
  .rename_i au;cases h;refine⟨v,rfl,fun id hid=>Tj _ _ _ (by rw[hwr] at hid;simpa using hid),fun id hid=>Rj au (by have:=(Fy _ _ _).1 hid;simpa using this),fun dz bh he hb=>⟨app u bh,?_,fun id=>aen _ _ _ _ _⟩⟩;unfold step1;rw[(HG dz he).2,hw];simp only;rw[Yl (HG dz he).1,ar5 hp fun id hid=>hb id ((Fy _ _ _).2 (.inl hid))];simp only;rw[aD au]
  cases h
 .rename_i g vs r s hp;split at h
  .rename_i x hx;split at h
   .rename_i v u hl;split at h
    .rename_i au;cases h;refine⟨v,rfl,fun id hid=>Tj _ _ _ (by rw[hwr] at hid;simpa using hid),fun id hid=>Rj au (by have:=(Fy _ _ _).1 hid;simp at this |-;rcases this with h|h<;>simp[h]),fun dz bh he hb=>⟨app u bh,?_,fun id=>aen _ _ _ _ _⟩⟩;unfold step1;rw[(HG dz he).2,hw];simp only;rw[Yl (HG dz he).1,asm hp fun id hid=>hb id ((Fy _ _ _).2 (.inl (by simp[hid])))];simp only[hx];rw[apM hl (fun id hid=>hb id ((Fy _ _ _).2 (.inl (by simp[hid])))) fun id hid=>hb id ((Fy _ _ _).2 (.inr hid))];simp only;rw[aD au]
    cases h
   cases h
  cases h
 rename_i g vs hp;split at h
 .rename_i au;split at h
  .rename_i v b1 hx;cases h;have gR:∀id,(⟨(allow sh g vs aj).ids,(allow sh g vs aj).ids,(allow sh g vs aj).fs⟩:cE).writes id=(allow sh g vs aj).ok id:=by
    intro id;simp[cE.writes,Al.ok,allow]
   have Wu:∀id,(⟨(allow sh g vs aj).ids,(allow sh g vs aj).ids,(allow sh g vs aj).fs⟩:cE).uY id=(allow sh g vs aj).ok id:=by intro id;simp only[cE.uY,gR];simp only[Al.ok];cases (allow sh g vs aj).ids.contains id<;>simp
   obtain⟨l1,l2⟩:=dB _ _ _ _ _ _ hx;refine⟨v,rfl,fun id hid=>l1 id (by rw[<- gR];exact hid),fun id hid=>aoP rfl au (by rw[<- Wu];exact hid),fun dz bh he hb=>?_⟩;obtain⟨ng,g1,g2⟩:=l2 bh fun id hid=>hb id (by rw[Wu];exact hid);have aou:allow sh g vs bh=allow sh g vs aj:=ajw fun id hid=>hb id (by rw[Wu];simp[Al.ok,hid]);refine⟨ng,?_,fun id=>by rw[gR];exact g2 id⟩;unfold step1;rw[(HG dz he).2,hw];simp only;rw[Yl (HG dz he).1,aso hp];simp only[aou];rw[aD au];simp only[g1]
  cases h
 cases h
theorem asE(ak:Env){d d':w_}(v v':V)(h:∀t,d=some t->d'≠some t):put (put ak d v) d' v'=put (put ak d' v') d v:=by
 cases d with
 |none=>rfl
 |some t=>
  cases d' with
  |none=>rfl
  |some t'=>
   have aI:t'≠t:=fun e=>h t rfl (by rw[e]);funext x;simp only[put,aO];by_cases h1:x=t
   .subst h1;rw[aD rfl,ay (fun e=>aI e.symm),aD rfl]
   rw[ay h1,ay h1]
theorem ag8{d:w_}{v:V}{t:Nat}(h:d≠some t):put ak d v t=ak t:=by
 cases d with
 |none=>rfl
 |some x=>simp only[put,aO];rw[ay (fun e=>h (by rw[e]))]
theorem Q7{a b:a_}(h:meets a b=false){i:Nat}(ha:i∈a):i∉b:=by
 intro hb;have:meets a b=true:=by simp only[meets,zE];exact⟨i,ha,by simpa using hb⟩
 rw[h] at this;cases this
theorem Xn{fs ids:a_}(h:HN fs ids=false){i:Nat}(hi:i∈ids):jO i∉fs:=by
 intro hf;have:HN fs ids=true:=by simp only[HN,zE];exact⟨i,hi,by simpa using hf⟩
 rw[h] at this;cases this
theorem ak1{a b:cE}(h:GG a b=false)(id:Nat):(a.writes id=true->b.uY id=false)/\(b.writes id=true->a.uY id=false):=by
 simp only[GG,SL] at h;obtain⟨⟨⟨⟨⟨c1,c2⟩,c3⟩,c4⟩,c5⟩,c6⟩:=h;have sw:∀ {x y:a_},meets x y=false->meets y x=false:=by
  intro x y h;cases he:meets y x with
  |false=>rfl
  |true=>simp only[meets,zE] at he;obtain⟨i,h1,h2⟩:=he;exact absurd h1 (Q7 h (by simpa using h2))
 have one:∀ {a b:cE},meets a.wr b.rd=false->meets a.wr b.wr=false->meets a.fs b.fs=false->HN a.fs (b.rd++b.wr)=false->HN b.fs (a.rd++a.wr)=false->a.writes id=true->b.uY id=false:=by
  intro a b c1 c2 c4 c5 c6 hw;simp only[cE.writes,vT] at hw;simp only[cE.uY,cE.writes,SL];rcases hw with hw|hw
  .have hw:id∈a.wr:=by simpa using hw
   exact⟨by simpa using Q7 c1 hw,by simpa using Q7 c2 hw,by simpa using Xn c6 (i:=id) (by simp[hw])⟩
  have hw:jO id∈a.fs:=by simpa using hw
  refine⟨?_,?_,?_⟩
  .cases he:b.rd.contains id with
   |false=>rfl
   |true=>exact absurd hw (Xn c5 (i:=id) (by simp at he;simp[he]))
  .cases he:b.wr.contains id with
   |false=>rfl
   |true=>exact absurd hw (Xn c5 (i:=id) (by simp at he;simp[he]))
  simpa using Q7 c4 hw
 exact⟨one c1 c2 c4 c5 c6,one (sw c3) (sw c2) (sw c4) c6 c5⟩
theorem swap{sh:Ctx}{cp:gC}{cs:ke}(dB:Bh cs){x y:bJ}{ak iU dz:Env}{aj bU bh:aB}{e1 e2:cE}(hx:step1 sh cp cs x ak aj=some (iU,bU,e1))(hy:step1 sh cp cs y iU bU=some (dz,bh,e2))
  (hf:GW x y=true) (hc:GG e1 e2=false):∃envy blky,step1 sh cp cs y ak aj=some (envy,blky,e2)/\step1 sh cp cs x envy blky=some (dz,bh,e1):=by
 obtain⟨v1,rfl,JG,_,aqk⟩:=YN dB hx;obtain⟨v2,rfl,Bs,_,aql⟩:=YN dB hy;have yS:∀t,x.dst=some t->t∉y.Iq/\y.dst≠some t:=by intro t ht;simp only[GW,ht,cU] at hf;have h1:=hf.1;simp at h1;exact⟨by simpa using h1.1,h1.2⟩
 have yU:∀t,y.dst=some t->t∉x.Iq:=by
  intro t ht;simp only[GW,ht,cU] at hf;have h1:=hf.2
  simpa using h1
 have bN:=ak1 hc;have nw:∀ {a b:cE} {id:Nat},(a.writes id=true->b.uY id=false)->b.uY id=true->a.writes id=false:=by
  intro a b id h1 h2;cases h:a.writes id with
  |false=>rfl
  |true=>rw[h1 h] at h2;cases h2
 have wt:∀ {a:cE} {id:Nat},a.writes id=true->a.uY id=true:=by intro a id h;simp[cE.uY,h]
 obtain⟨blky,hy2,yb⟩:=aql ak aj (fun t ht=>(ag8 fun e=>(yS t e).1 ht).symm) (fun id hid=>(JG id (nw (bN id).1 hid)).symm);obtain⟨blkx,AP,xb⟩:=aqk (put ak y.dst v2) blky (fun t ht=>ag8 fun e=>yU t e ht) (fun id hid=>by rw[yb id,nw (bN id).2 hid];rfl)
 refine⟨_,blky,hy2,?_⟩;rw[AP,asE ak v1 v2 fun t ht=>(yS t ht).2];have:blkx=bh:=by
  funext id;rw[xb id,yb id];cases h1:e1.writes id with
  |true=>have h2:e2.writes id=false:=nw (bN id).2 (wt h1);exact(Bs id h2).symm
  |false=>
   cases h2:e2.writes id with
   |true=>rfl
   |false=>simp only[dN,if_false];rw[Bs id h2,JG id h1]
 rw[this]
structure It where
 i:Nat
 io:bJ
 e:cE
def Pf(x y:It):Prop:=GW x.io y.io=true/\GG x.e y.e=false
theorem aib{o:bJ}{r:h_}{aF:Env}{aj ao:aB}{e:cE}{es:i_}(h:steps sh cp cs (o::r) ak aj=some (aF,ao,e::es)):
  ∃iU bU,step1 sh cp cs o ak aj=some (iU,bU,e)/\steps sh cp cs r iU bU=some (aF,ao,es):=by
 simp only[steps] at h;split at h
 .rename_i iU bU e1 h1;split at h
  .rename_i dz bh es2 h2;cases h;exact⟨iU,bU,h1,h2⟩
  cases h
 cases h
theorem auZ{o:bJ}{r:h_}{iU aF:Env}{aj bU ao:aB}{e:cE}{es:i_}(h1:step1 sh cp cs o ak aj=some (iU,bU,e))(h2:steps sh cp cs r iU bU=some (aF,ao,es)):
  steps sh cp cs (o::r) ak aj=some (aF,ao,e::es):=by
 simp only[steps,h1,h2]
theorem avo(dB:Bh cs){y:It}{l2:List It}:∀ {l1:List It} {ak aF:Env} {aj ao:aB},steps sh cp cs ((l1++y::l2).map (·.io)) ak aj=some (aF,ao,(l1++y::l2).map (·.e))->(∀x∈l1,Pf x y)->
  ∃iU bU,step1 sh cp cs y.io ak aj=some (iU,bU,y.e)/\steps sh cp cs ((l1++l2).map (·.io)) iU bU=some (aF,ao,(l1++l2).map (·.e)):=by
 intro l1
 induction l1 with
 |nil=>intro ak aF aj ao h _;exact aib h
 |cons x l1 ih=>intro ak aF aj ao h oZ;obtain⟨envx,blkx,h1,h2⟩:=aib h;obtain⟨envy,blky,h3,h4⟩:=ih h2 fun z hz=>oZ z (by simp[hz]);obtain⟨en1,bl1,h5,h6⟩:=swap dB h1 h3 (oZ x af).1 (oZ x af).2;exact⟨en1,bl1,h5,auZ h6 h4⟩
def Ep(al:Al)(b b2:aB):Prop:=∀id,al.ok id=true->b2 id=b id
def vW(al:Al)(b' b2 Gz:aB):Prop:=∀id,Gz id=if al.ok id then b' id else b2 id
def Frame(al:Al)(b b':aB):Prop:=∀id,al.ok id=false->b' id=b id
theorem vW.agree{al:Al}{b2 Gz:aB}(h:vW al b' b2 Gz):Ep al b' Gz:=fun id hid=>by rw[h id,hid];rfl
theorem vW.trans{al:Al}{b2 Gz b'' Z8:aB}(h:vW al b' b2 Gz)(k:vW al b'' Gz Z8):vW al b'' b2 Z8:=fun id=>by rw[k id,h id];cases al.ok id<;>rfl
theorem vW.refl{al:Al}{b b2:aB}(h:Ep al b b2):vW al b b2 b2:=fun id=>by
 cases hid:al.ok id with
 |true=>exact h id hid
 |false=>rfl
theorem Frame.trans{al:Al}{b b'':aB}(h:Frame al b b')(k:Frame al b' b''):Frame al b b'':=fun id hid=>(k id hid).trans (h id hid)
section
variable {sh:Ctx} {cp:gC} {cs:ke} (dB:Bh cs)
include dB
theorem auW:∀ {ops:h_} {ak aF:Env} {aj ao:aB} {es:i_},steps sh cp cs ops ak aj=some (aF,ao,es)->Frame sh.al aj ao/\
  ∀bh,Ep sh.al aj bh->∃ng,steps sh cp cs ops ak bh=some (aF,ng,es)/\vW sh.al ao bh ng:=by
 intro ops
 induction ops with
 |nil=>intro ak aF aj ao es h;simp only[steps,gh,lR] at h;obtain⟨rfl,rfl,rfl⟩:=h;exact⟨fun _ _=>rfl,fun bh ha=>⟨bh,rfl,.refl ha⟩⟩
 |cons o ops ih=>
  intro ak aF aj ao es h;simp only[steps] at h;split at h
  .rename_i iU bU e h1;split at h
   .rename_i dz bh im h2;cases h;obtain⟨v,rfl,fr,tw,loc⟩:=YN dB h1;obtain⟨f2,g2⟩:=ih h2;have hw:∀id,sh.al.ok id=false->e.writes id=false:=by
     intro id hid;cases hh:e.writes id with
     |false=>rfl
     |true=>have:=tw id (by simp[cE.uY,hh]);rw[hid] at this;cases this
    refine⟨Frame.trans (fun id hid=>fr id (hw id hid)) f2,fun b2 ha=>?_⟩;obtain⟨b1,s1,m1⟩:=loc ak b2 (fun _ _=>rfl) (fun id hid=>ha id (tw id hid));have mQ:vW sh.al bU b2 b1:=by
     intro id;rw[m1 id];cases hid:sh.al.ok id with
     |true=>
      cases hh:e.writes id with
      |true=>rfl
      |false=>simp only[dN,if_false,if_true];rw[ha id hid,fr id hh]
     |false=>rw[hw id hid]
    obtain⟨b3,s2,m2⟩:=g2 b1 mQ.agree;exact⟨b3,by simp only[steps,s1,s2],mQ.trans m2⟩
   cases h
  cases h
theorem apz{c:Env->aB->Option (mK×Env×aB)}(hc:∀ {ak aF aj ao e},c ak aj=some (e,aF,ao)->Frame sh.al aj ao/\ ∀bh,Ep sh.al aj bh->∃ng,c ak bh=some (e,aF,ng)/\vW sh.al ao bh ng):
  ∀(k:Nat) {ak aF:Env} {aj ao:aB} {e:mK},iter c k ak aj=some (e,aF,ao)->Frame sh.al aj ao/\ ∀bh,Ep sh.al aj bh->∃ng,iter c k ak bh=some (e,aF,ng)/\vW sh.al ao bh ng:=by
 have _u0:=dB;intro k
 induction k with
 |zero=>intro ak aF aj ao e h;simp[iter] at h
 |succ k ih=>
  intro ak aF aj ao e h;simp only[iter] at h;split at h
  .rename_i iU bU h1;obtain⟨f1,g1⟩:=hc h1;obtain⟨f2,g2⟩:=ih h;refine⟨f1.trans f2,fun b2 ha=>?_⟩;obtain⟨b1,s1,m1⟩:=g1 b2 ha;obtain⟨b3,s2,m2⟩:=g2 b1 m1.agree;exact⟨b3,by simp only[iter,s1,s2],m1.trans m2⟩
  rename_i aI;obtain⟨f1,g1⟩:=hc h;refine⟨f1,fun b2 ha=>?_⟩;obtain⟨b1,s1,m1⟩:=g1 b2 ha;refine⟨b1,?_,m1⟩;cases e with
  |normal=>exact(aI _ _ h).elim
  |exit i=>simp only[iter,s1]
  |ret=>simp only[iter,s1]
theorem abL{n:Nat}:∀(c:aN) {ak aF:Env} {aj ao:aB} {e:mK},exec sh cp cs n c ak aj=some (e,aF,ao)->Frame sh.al aj ao/\
  ∀bh,Ep sh.al aj bh->∃ng,exec sh cp cs n c ak bh=some (e,aF,ng)/\vW sh.al ao bh ng:=by
 intro c
 induction c with
 |skip=>intro ak aF aj ao e h;simp only[exec,gh,lR] at h;obtain⟨rfl,rfl,rfl⟩:=h;exact⟨fun _ _=>rfl,fun b2 ha=>⟨b2,rfl,.refl ha⟩⟩
 |exit id=>intro ak aF aj ao e h;simp only[exec,gh,lR] at h;obtain⟨rfl,rfl,rfl⟩:=h;exact⟨fun _ _=>rfl,fun b2 ha=>⟨b2,rfl,.refl ha⟩⟩
 |ret=>intro ak aF aj ao e h;simp only[exec,gh,lR] at h;obtain⟨rfl,rfl,rfl⟩:=h;exact⟨fun _ _=>rfl,fun b2 ha=>⟨b2,rfl,.refl ha⟩⟩
 |bad=>intro ak aF aj ao e h;simp[exec] at h
 |region d ops=>
  intro ak aF aj ao e h;simp only[exec] at h;split at h
  .rename_i iU bU es h1;obtain⟨f1,g1⟩:=auW dB h1;have he:(e,aF,ao)=(mK.normal,iU,bU)/\(d=true->tZ ops [] es=true):=by
    cases d with
    |false=>simp at h;exact⟨by simp[h],fun h=>by cases h⟩
    |true=>
     simp only[if_true] at h;split at h
     .rename_i hd;cases h;exact⟨rfl,fun _=>hd⟩
     cases h
   obtain⟨he,hd⟩:=he;cases he;refine⟨f1,fun b2 ha=>?_⟩;obtain⟨b1,s1,m1⟩:=g1 b2 ha;refine⟨b1,?_,m1⟩;simp only[exec,s1];cases d with
   |false=>simp
   |true=>simp[hd rfl]
  cases h
 |seq a b iha ihb=>
  intro ak aF aj ao e h;simp only[exec] at h;split at h
  .rename_i iU bU h1;obtain⟨f1,g1⟩:=iha h1;obtain⟨f2,g2⟩:=ihb h;refine⟨f1.trans f2,fun b2 ha=>?_⟩;obtain⟨b1,s1,m1⟩:=g1 b2 ha;obtain⟨b3,s2,m2⟩:=g2 b1 m1.agree;exact⟨b3,by simp only[exec,s1,s2],m1.trans m2⟩
  rename_i aI;obtain⟨f1,g1⟩:=iha h;refine⟨f1,fun b2 ha=>?_⟩;obtain⟨b1,s1,m1⟩:=g1 b2 ha;refine⟨b1,?_,m1⟩;cases e with
  |normal=>exact(aI _ _ h).elim
  |exit i=>simp only[exec,s1]
  |ret=>simp only[exec,s1]
 |cond x a b iha ihb=>
  intro ak aF aj ao e h;simp only[exec] at h |-;split at h
  .rename_i t ht;cases t with
   |true=>exact iha h
   |false=>exact ihb h
  cases h
 |block id c ih=>
  intro ak aF aj ao e h;simp only[exec] at h;split at h
  .rename_i i iU bU h1;obtain⟨f1,g1⟩:=ih h1;have hb:ao=bU:=by split at h<;>cases h<;>rfl
   subst hb;refine⟨f1,fun b2 ha=>?_⟩;obtain⟨b1,s1,m1⟩:=g1 b2 ha;refine⟨b1,?_,m1⟩;simp only[exec,s1];split at h
   .rename_i hi;cases h;rw[aD hi]
   rename_i hi;cases h;rw[ay hi]
  rename_i aI;obtain⟨f1,g1⟩:=ih h;refine⟨f1,fun b2 ha=>?_⟩;obtain⟨b1,s1,m1⟩:=g1 b2 ha;refine⟨b1,?_,m1⟩;cases e with
  |normal=>simp only[exec,s1]
  |exit i=>exact(aI _ _ _ h).elim
  |ret=>simp only[exec,s1]
 |loop c ih=>intro ak aF aj ao e h;simp only[exec] at h |-;exact apz dB (fun h=>ih h) n h
end
theorem ahn{al:Al}{aj bh:aB}(ha:Ep al aj bh):∀ {rs:List (Nat×Option w_)} {vs:e_},qm al ak aj rs=some vs->qm al ak bh rs=some vs:=by
 intro rs
 induction rs with
 |nil=>intro vs h;exact h
 |cons r rs ih=>
  obtain⟨t,k⟩:=r;cases k with
  |none=>
   intro vs h;simp only[qm] at h |-;split at h
   .rename_i v q h1 h2;cases h;simp only[h1,ih h2]
   cases h
  |some k=>
   intro vs h;simp only[qm] at h |-;split at h
   .rename_i cs rd q h1 h2;split at h
    .rename_i au;rw[ahc h1 (fun id hid=>ha id (Rj au hid)),ih h2];simp only[au,if_true];exact h
    cases h
   cases h
theorem atk(dB:Bh cs){n:Nat}{fn:bd}{args:e_}{aj ao:aB}{v:V}(h:sD sh cp cs n fn args aj=some (v,ao)):Frame sh.al aj ao/\
  ∀bh,Ep sh.al aj bh->∃ng,sD sh cp cs n fn args bh=some (v,ng)/\vW sh.al ao bh ng:=by
 unfold sD at h;split at h
 .rename_i ak b hx;simp only[dS] at h;obtain⟨vs,h1,h2⟩:=h;cases h2;obtain⟨f1,g1⟩:=abL dB _ hx;refine⟨f1,fun b2 ha=>?_⟩;obtain⟨b3,s1,m1⟩:=g1 b2 ha;exact⟨b3,by unfold sD;rw[s1];simp only[ahn m1.agree h1,nQ],m1⟩
 .rename_i ak b hx;simp only[dS] at h;obtain⟨vs,h1,h2⟩:=h;cases h2;obtain⟨f1,g1⟩:=abL dB _ hx;refine⟨f1,fun b2 ha=>?_⟩;obtain⟨b3,s1,m1⟩:=g1 b2 ha;exact⟨b3,by unfold sD;rw[s1];simp only[ahn m1.agree h1,nQ],m1⟩
 cases h
end
end Go.Abs
namespace Go.Abs
variable {P:Program} {w0:World}
def tB(w:World)(O:Nat->Prop):V->Value->Prop
 | .one (.p x),v=>cF w O x v
 | .agg cs,v=>∃arr ps,v=.agg arr/\cs=ps.map .p/\dD w O ps arr.toList
 |_,_=>False
def Enters(P:Program)(f:Nat):Prop:= ∃fn c,P.funcs[f]?=some fn/\fn.body=some c/\(fn.name== "runtime.NumGoroutine")=false
def O7(w:World)(Q:Nat->Prop)(r:RV)(val:Value)(bs:a_):Prop:= ∃vs,Gl r val vs/\sE w Q (gQ r) vs bs
def vY(w:World)(O:Nat->Prop)(r:RV):Ending->World->Prop:=fun e w'=>∃val bs,e=.returned val/\fT w w'/\bs.Nodup/\(∀c∈bs,w.heap.size<=c/\c<w'.heap.size)/\O7 w' (fun c=>O c\/c∈bs) r val bs
def Good(G:World->Prop)(w:World):Prop:=G w/\ ∀w w',fT w w'->G w->G w'
theorem Ok.adF{m:Mem}(h:Ok w0 m):fT w0 m.w:=⟨h.os,h.tape,h.output,h.size,h.base⟩
theorem sE.pure{w:World}{Q Q':Nat->Prop}(h:∀b,Q' b->Q b):∀ {rs:n_} {vs:List Value} {bs:a_},(∀c∈bs,¬Q' c)->sE w Q rs vs bs->sE w Q' (rs.map RC.pure) vs []:=by
 intro rs
 induction rs with
 |nil=>intro vs bs _ hr;exact⟨hr.1,rfl⟩
 |cons r rs ih=>
  intro vs bs hb hr;have less:∀ {x:PV} {v:Value},cF w Q x v->cF w Q' x v:=fun hp=>hp.mono fun c _ hn=>⟨rfl,fun hq=>hn (h c hq)⟩;cases r with
  |p x=>obtain⟨v,oJ,rfl,h1,h2⟩:=hr;exact⟨v,oJ,rfl,less h1,ih hb h2⟩
  |own ty sz es=>
   obtain⟨v,oJ,c,CQ,rfl,rfl,⟨cap,cur,e1,e2,e3,e4,e5,e6,e7,e8⟩,h2⟩:=hr;refine⟨v,oJ,rfl,?_,ih (fun c hc=>hb c (by simp[hc])) h2⟩;subst e1;refine cF.sl c 0 cap sz (fun j=>cur.toList.getD j undef) (fun _=>hb c af) e5 e6 e4 (fun j x hx=>?_) (fun j x hx=>?_)
   .have hj:j<(cur.toList.take (es.length*sz)).length:=by rw[e8.1];exact(aT.1 hx).1
    have nz:j<cur.size:=by simp at hj;omega
    rw[World.cell?];simp[e2,nz,List.getD,js]
   have hj:j<(cur.toList.take (es.length*sz)).length:=by rw[e8.1];exact(aT.1 hx).1
   have nz:j<cur.size:=by simp at hj;omega
   refine less (e8.2 j x _ hx ?_);rw[List.getElem?_take_of_lt (by simp at hj;omega)];simp[nz,List.getD]
theorem yr.pure{r:RV}{v:Value}{vs:List Value}(h:yr r v vs):yr r.Ii v vs/\ir r.Ii=(ir r).map RC.pure:=by
 cases r with
 |one c=>exact⟨h,rfl⟩
 |agg cs=>exact⟨⟨h.1,by simpa [RV.Ii] using h.2⟩,rfl⟩
 |tup _=>exact h.elim
theorem Er.pure:∀ {rs:List RV} {us vs:List Value},Er rs us vs->Er (rs.map RV.Ii) us vs/\ml (rs.map RV.Ii)=(ml rs).map RC.pure:=by
 intro rs
 induction rs with
 |nil=>intro us vs h;exact⟨h,rfl⟩
 |cons r rs ih=>
  rintro us vs ⟨u,OP,a,b,rfl,rfl,h1,h2⟩
  obtain⟨p1,p2⟩:=h1.pure;obtain⟨q1,q2⟩:=ih h2;exact⟨⟨u,OP,a,b,rfl,rfl,p1,q1⟩,by simp[ml,p2,q2]⟩
theorem Gl.pure{r:RV}{v:Value}{vs:List Value}(h:Gl r v vs):Gl r.pure v vs/\gQ r.pure=(gQ r).map RC.pure:=by
 cases r with
 |one c=>exact yr.pure (r:=.one c) h
 |agg cs=>exact yr.pure (r:=.agg cs) h
 |tup rs=>obtain⟨arr,rfl,h2⟩:=h;obtain⟨q1,q2⟩:=h2.pure;exact⟨⟨arr,rfl,q1⟩,q2⟩
theorem vY.gJ{w w':World}{O:Nat->Prop}{r:RV}{e:Ending}(b:Bool)(hO:∀c,O c->c<w.heap.size)(h:vY w O r e w'):vY w O (r.gJ b) e w':=by
 cases b with
 |false=>exact h
 |true=>
  obtain⟨val,bs,rfl,hg,iw,n9,vs,h1,h2⟩:=h;obtain⟨p1,p2⟩:=h1.pure;refine⟨val,[],rfl,hg,xl,fun c hc=>by simp at hc,vs,p1,?_⟩;simp only[RV.gJ];rw[p2];refine sE.pure (fun b hb=>?_) (fun c hc hn=>?_) h2
  .rcases hb with hb|hb
   .exact .inl hb
   simp at hb
  rcases hn with hn|hn
  .have:=hO c hn;have:=(n9 c hc).1;omega
  simp at hn
def Eu(P:Program)(G:World->Prop)(cp:gC):Prop:=∀f vs r,cp f vs=some r->Enters P f/\ ∀(w:World) (O:Nat->Prop) (args:Array Value),Good G w->(∀c,O c->c<w.heap.size)->Pw (tB w O) vs args.toList->Calls P f args w (vY w O r)
def IM(w0:World)(m:Mem)(v:V)(ao:aB):Ending->World->Prop:=fun e w'=>∃val m',e=.returned val/\m'.w=w'/\Ok w0 m'/\Ev m m'/\m'.fr=m.fr/\m'.aj=ao/\ch m' v val
def Gm(P:Program)(G:World->Prop)(cs:ke):Prop:=∀f vs al aj v ao,cs f vs al aj=some (v,ao)->Enters P f/\ ∀(w0:World) (m:Mem) (args:Array Value),Good G w0->Ok w0 m->m.aj=aj->Pw (ch m) vs args.toList->Calls P f args m.w (IM w0 m v ao)
theorem auv{m:Mem}(au:Ok w0 m){O:Nat->Prop}{x y:V}{r:a_}{v:Value}(h:pN m.aj x=some (y,r))(hr:ch m x v)(hs:qW m O r):tB m.w O y v:=by
 cases x with
 |undef=>simp[pN] at h
 |tup vs=>simp[pN] at h
 |one c=>simp only[pN,dS] at h;obtain⟨⟨p,r'⟩,h1,h2⟩:=h;cases h2;exact Ld au fE h1 hr hs
 |agg cs=>simp only[pN,dS] at h;obtain⟨⟨ps,r'⟩,h1,h2⟩:=h;cases h2;obtain⟨arr,rfl,hc⟩:=ch.agg.1 hr;refine⟨arr,ps,rfl,rfl,?_⟩;exact Jk (R:=dx m) (T:=cF m.w O) (fy:=qW m O) (fun _ _=>qW.app) (fun _ _ _ _ h1 h2 h3=>Ld au fE h1 h2 h3) h1 hs hc
theorem ah0{m:Mem}(au:Ok w0 m){O:Nat->Prop}{xs ys:e_}{r:a_}{vs:List Value}(h:Cn m.aj xs=some (ys,r))(hr:Pw (ch m) xs vs)(hs:qW m O r):Pw (tB m.w O) ys vs:=Jk (R:=ch m) (T:=tB m.w O) (fy:=qW m O) (fun _ _=>qW.app) (fun _ _ _ _ h1 h2 h3=>auv au h1 h2 h3) h hs hr
theorem agI{m:Mem}(au:Ok w0 m){c:Nat}(h:m.own c):c<m.w.heap.size:=by
 rcases h with h|⟨id,o,ho,_,rfl⟩
 .exact au.frlt c h
 exact(au.obj id o ho).lt
theorem ahC{w:World}{Q Q':Nat->Prop}{x:PV}{v:Value}(hs:x.scalar=true)(h:cF w Q x v):cF w Q' x v:=by
 cases h<;>first
  |(simp[PV.scalar] at hs;done)
  |constructor
theorem ajx{w:World}{Q Q':Nat->Prop}:∀ {rs:n_} {vs:List Value} {bs:a_},rs.all RC.alone=true->sE w Q rs vs bs->sE w Q' rs vs bs:=by
 intro rs
 induction rs with
 |nil=>intro vs bs _ h;exact h
 |cons r rs ih=>
  intro vs bs ha h;simp only[mH,cU] at ha;cases r with
  |p x=>obtain⟨v,oJ,rfl,h1,h2⟩:=h;exact⟨v,oJ,rfl,ahC ha.1 h1,ih ha.2 h2⟩
  |own ty sz es=>obtain⟨v,oJ,c,CQ,rfl,rfl,⟨cap,cur,e1,e2,e3,e4,e5,e6,e7,e8⟩,h2⟩:=h;refine⟨v,oJ,c,CQ,rfl,rfl,⟨cap,cur,e1,e2,e3,e4,e5,e6,e7,e8.1,fun j x u a b=>?_⟩,ih ha.2 h2⟩;refine ahC ?_ (e8.2 j x u a b);have hx:=aV a;obtain⟨e,he,hxe⟩:=Ge.1 hx;have h1:=ha.1;simp only[RC.alone] at h1;exact gO.1 (gO.1 h1 e he) x hxe
theorem afz{m:Mem}{w':World}{x:RV}{val:Value}{bs:a_}{site:Nat}(au:Ok w0 m)(hg:fT m.w w')(iw:bs.Nodup)(n9:∀c∈bs,m.w.heap.size<=c/\c<w'.heap.size)(hr:O7 w' (fun c=>m.own c\/c∈bs) x val bs):
  ∃m',m'.w=w'/\Ok w0 m'/\Ev m m'/\m'.fr=m.fr/\m'.aj=app (jJ m.aj site x).2 m.aj/\ch m' (jJ m.aj site x).1 val:=by
 obtain⟨vs,h1,h2⟩:=hr;have pz:Ok w0 (m.later w' (· ∈bs)):=Od au hg n9;have wE:Ev m (m.later w' (· ∈bs)):=Kz hg fun c hc=>(n9 c hc).1;obtain⟨m',e1,e2,e3,_,e5,e6,e7⟩:=apg (Oh:=m) (site:=site) pz (h2.less fun b hb=>afB.1 hb) iw (fun c hc=>⟨.inr hc,mY au.size (n9 c hc).1⟩) wE (fun c hc=>.inl (n9 c hc).1);refine⟨m',e1,e2,e3,?_,e6,as0 h1 e7⟩;funext c;apply propext;rw[e5 c];constructor
 .rintro ⟨h|h,h2⟩
  .exact h
  exact(h2 h).elim
 intro h;refine⟨.inl h,fun hc=>?_⟩;have h1:=au.frlt c h;have h2:=(n9 c hc).1;omega
theorem aph{b b':aB}(h:∀s,(b s).1=(b' s).1)(site:Nat)(x:RV):jJ b site x=jJ b' site x:=by unfold jJ;rw[aez _ site b b' fun s _=>h s]
theorem arI{G:World->Prop}{cp:gC}(Bw:Eu P G cp)(hG:Good G w0){m:Mem}(au:Ok w0 m){f:Nat}{xs vs:e_}{rd:a_}{x:RV}{site:Nat}{v:V}{u:k_}{args:Array Value}(hc:cp f vs=some x)(hs:Cn m.aj xs=some (vs,rd))(Dm:Pw (ch m) xs args.toList)
  {pb:Bool} (hl:land m.aj rd site (x.gJ pb)=some (v,u)):Calls P f args m.w (IM w0 m v (app u m.aj)):=by
 have Dp:∀(w:World) (O:Nat->Prop) (args:Array Value),Good G w->(∀c,O c->c<w.heap.size)->Pw (tB w O) vs args.toList->Calls P f args w (vY w O (x.gJ pb)):=fun w O args h1 h2 h3=>((Bw f vs x hc).2 w O args h1 h2 h3).mono fun e w' h=>h.gJ pb h2
 generalize x.gJ pb=x at hl Dp;unfold land at hl;split at hl
 .rename_i r4;cases hl;have key:∀(O:Nat->Prop),(∀c,O c->c<m.w.heap.size)->qW m O rd->(∀w' bs val,O7 w' (fun c=>O c\/c∈bs) x val bs->O7 w' (fun c=>m.own c\/c∈bs) x val bs)->Calls P f args m.w (IM w0 m (jJ m.aj site x).1 (app (jJ m.aj site x).2 m.aj)):=by
   intro O hO qc wN;refine(Dp m.w O args ⟨hG.2 _ _ au.adF hG.1,hG.2⟩ hO (ah0 au hs Dm qc)).mono ?_;rintro e w' ⟨val,bs,rfl,hg,iw,n9,hr⟩
   obtain⟨m',e1,e2,e3,e4,e5,e6⟩:=afz (site:=site) au hg iw n9 (wN w' bs val hr);exact⟨val,m',rfl,e1,e2,e3,e4,e5,e6⟩
  rcases r4 with rfl|gR
  .exact key m.own (fun c hc=>agI au hc) ⟨fun _ h=>h,fun _ h=>by simp at h⟩ fun _ _ _ h=>h
  refine key (fun _=>False) (fun c h=>h.elim) ⟨fun _ h=>h.elim,fun _ _ h=>h⟩ fun w' bs val h=>?_;obtain⟨oJ,h1,h2⟩:=h;exact⟨oJ,h1,ajx gR h2⟩
 split at hl
 .rename_i fu rz;cases hl;have pz:=adl au rz;have wE:=Wf rz;have qc:=Wi au rz;refine(Dp m.w (m.with fu).own args ⟨hG.2 _ _ au.adF hG.1,hG.2⟩ (fun c hc=>agI pz hc) (ah0 au hs Dm qc)).mono ?_;rintro e w' ⟨val,bs,rfl,hg,iw,n9,hr⟩
  obtain⟨m',e1,e2,e3,e4,e5,e6⟩:=afz (m:=m.with fu) (site:=site) pz hg iw n9 hr;have WA:jJ (m.with fu).aj site x=jJ m.aj site x:=aph (fun s=>ME rz s) site x;rw[WA] at e5 e6;refine⟨val,m',rfl,e1,e2,wE.trans e3,e4,?_,e6⟩;rw[e5,LU];rfl
 cases hl
end Go.Abs
namespace Go.Abs
variable {P:Program} {w0:World}
theorem RX{m m':Mem}(eD:Ev m m'){ak:Env}{a:Act}{dst:w_}{v:V}{x:Value}(hr:jC m ak a.tmps)(hv:ch m' v x)(hd:∀d,dst=some d->d<a.tmps.size):jC m' (put ak dst v) (a.put dst x).tmps:=by
 cases dst with
 |none=>exact hr.ev eD
 |some d=>
  intro t;have aw:=hd d rfl;simp only[put,Act.put,aO];by_cases ht:t=d
  .subst ht;rw[aD rfl];have:(a.tmps.setIfInBounds t x).getD t undef=x:=by simp[aw]
   rw[this];exact hv
  rw[ay ht];have:(a.tmps.setIfInBounds d x).getD t undef=a.tmps.getD t undef:=by simp only[Array.getD_eq_getD_getElem?];rw[Array.getElem?_setIfInBounds_ne (fun e=>ht e.symm)]
  rw[this];exact(hr t).ev eD.zero
theorem RY(a:Act)(dst:w_)(x:Value):(a.put dst x).tmps.size=a.tmps.size:=by cases dst<;>simp[Act.put]
theorem put_defers(a:Act)(dst:w_)(x:Value):(a.put dst x).defers=a.defers:=by cases dst<;>simp[Act.put]
theorem aiJ{m:Mem}{ak:Env}{tmps:Array Value}(hr:jC m ak tmps){ops:Array Oper}{o:Oper}{g:Option (Nat×Bool)}{b:Bool}
  (hg:match o.guard with|none=>g=none|some (j,w)=>∃t,(ops[j]?).bind (·.dst)=some t/\g=some (t,w)) (h:wanted ak g=some b):Region.wanted o (yielded ops tmps)=b:=by
 unfold Region.wanted;cases ho:o.guard with
 |none=>rw[ho] at hg;subst hg;simp only[wanted,gh] at h;exact h
 |some q=>
  obtain⟨j,w⟩:=q;rw[ho] at hg;obtain⟨t,h1,rfl⟩:=hg;have hrt:=hr t;simp only[wanted] at h;simp only[yielded,h1,Option.bind_some];split at h
  .rename_i b' hb;rw[hb] at hrt;have hv:=FI hrt;cases h;have:tmps[t]?=some (.bool b'):=by
    rw[Array.getD_eq_getD_getElem?] at hv;cases he:tmps[t]? with
    |none=>rw[he] at hv;simp[undef] at hv
    |some y=>rw[he] at hv;simp at hv;rw[hv]
   rw[this];rfl
  .rename_i hb;rw[hb] at hrt;cases h;have hv:tmps.getD t undef=undef:=hrt;rw[Array.getD_eq_getD_getElem?] at hv;cases he:tmps[t]? with
   |none=>rfl
   |some y=>rw[he] at hv;simp at hv;rw[hv];rfl
  cases h
theorem ada{m:Mem}{ak:Env}{f:aS}{v:Value}{g:Nat}{a b:f_}(h:ET ak f=some (g,a,b))(hr:ch m (ev ak f) v):∃A B:Array Value,v=.func (.func g) A B/\dJ m a A.toList/\dJ m b B.toList:=by
 unfold ET at h;split at h
 .rename_i g' x y he;cases h;rw[he] at hr;obtain⟨hp⟩:dx m _ v:=hr;cases hp with
  |fn A B ha hb wK sa=>exact⟨A,B,rfl,dD.Eb ⟨by simpa using ha,fun j x u p q=>wK j x u p (by simpa using q)⟩,dD.Eb ⟨by simpa using hb,fun j x u p q=>sa j x u p (by simpa using q)⟩⟩
 .rename_i g' x y he;cases h;rw[he] at hr;have hc:dx m _ v:=hr;cases hc with
  |hfn A B ha hb wK sa=>exact⟨A,B,rfl,⟨by simpa using ha,fun j x u p q=>wK j x u p (by simpa using q)⟩,⟨by simpa using hb,fun j x u p q=>sa j x u p (by simpa using q)⟩⟩
 cases h
theorem ZY{m:Mem}{ak:Env}{a:Act}(hr:jC m ak a.tmps):∀ {xs:List Operand} {ys:o_},qZ xs=some ys->Pw (ch m) (ys.map (ev ak)) (xs.map a.eval):=by
 intro xs
 induction xs with
 |nil=>intro ys h;simp[qZ] at h;subst h;exact⟨rfl,fun j x u p=>by simp at p⟩
 |cons x xs ih=>
  intro ys h;simp only[qZ] at h;split at h
  .rename_i y ys' h1 h2;cases h;obtain⟨i1,i2⟩:=ih h2;refine⟨by simpa using i1,fun j z u p q=>?_⟩;cases j with
   |zero=>simp at p q;subst p q;exact eQ h1 hr
   |succ j=>exact i2 j z u (by simpa using p) (by simpa using q)
  cases h
theorem Rk{m:Mem}{cs:f_}{vs:List Value}(h:dJ m cs vs):Pw (ch m) (cs.map .one) vs:=by refine⟨by simpa using h.1,fun j x u p q=>?_⟩;simp only[fG,dS] at p;obtain⟨c,hc,rfl⟩:=p;exact ch.one.2 (h.2 j c u hc q)
theorem akB{f:Nat}(h:Enters P f)(args:Array Value)(w:World):(callFunc f args).run P w=.ok (.enter f args) w:=by
 obtain⟨fn,c,h1,h2,h3⟩:=h;have h4:¬fn.name= "runtime.NumGoroutine" :=by simpa using h3
 simp[callFunc,run_program,h1,h2,h4]
theorem aap{o:Oper}{c:Call}{fo:Operand}{a:Act}{g:Nat}{A B:Array Value}{w:World}(ho:o.op=.call c)(hc:c.callee=.value fo)(hv:a.eval fo=.func (.func g) A B)(he:Enters P g):
  (execOp a.eval o).run P w=.ok (.enter g (A++c.args.map a.eval++B)) w:=by
 simp[execOp,ho,resolve,hc,hv,Deferred.ofValue,invoke,akB he]
theorem agr{site:Nat}{o:Oper}{p:oQ}(h:GJ P site o=some p)(hp:∀s f as,p≠ .call s f as){sh:Nat->Bool}{ak:Env}{aj:aB}:(∀f vs r s,bK sh ak aj p≠ .pc f vs r s)/\ ∀f vs,bK sh ak aj p≠ .sc f vs:=by
 cases p<;>first
  |exact(hp _ _ _ rfl).elim
  |(simp only[bK]
    constructor<;>intros<;>intro h<;>(repeat' split at h)<;>first
     |cases h
     |(simp only[A8,DU,gI] at h;(repeat' split at h)<;>cases h))
theorem aaK{site:Nat}{o:Oper}{s:Nat}{f:aS}{as:o_}(h:GJ P site o=some (.call s f as)):∃c fo,o.op=.call c/\c.callee=.value fo/\cZ fo=some f/\qZ c.args.toList=some as:=by
 unfold GJ at h;split at h
 case h_26 c ho=>
  split at h
  .rename_i f' as' h1 h2;simp only[dS] at h;obtain⟨y,h3,h4⟩:=h;cases h4;exact⟨c,f',ho,h1,h3,h2⟩
  all_goals((repeat' split at h)<;>first
   |cases h
   |(simp at h;done))
 all_goals((repeat' split at h)<;>first
  |cases h
  |(simp at h;done))
def Gp(w0:World)(m:Mem)(a:Act)(nt:Nat)(aF:Env)(ao:aB)(K:Act->World->Prop):Prop:=∀(a':Act) (m':Mem),Ok w0 m'->Ev m m'->m'.fr=m.fr->m'.aj=ao->jC m' aF a'.tmps->a'.tmps.size=nt->a'.defers=a.defers->K a' m'.w
theorem aiN{o:Oper}{a:Act}{f:Nat}{args:Array Value}{w:World}{K:Act->World->Prop}{Q:Exit->Act->World->Prop}{R:Ending->World->Prop}(kB:(execOp a.eval o).run P w=.ok (.enter f args) w)(hc:Calls P f args w R)
  (hR:∀e w',R e w'->∃v,e=.returned v/\K (a.put o.dst v) w'):o.wp P a w K Q:=by
 unfold Oper.wp;rw[kB,Oper.upon_enter];refine hc.mono ?_;intro e w' he;obtain⟨v,rfl,hk⟩:=hR e w' he;exact hk
theorem aia{G:World->Prop}(hG:Good G w0){cp:gC}{cs:ke}(hP:Eu P G cp)(hS:Gm P G cs){sh:Ctx}{ops:Array Oper}{base nt anc:Nat}{o:Oper}{io:bJ}{m:Mem}{ak aF:Env}{ao:aB}{eff:cE}{a:Act}{K:Act->World->Prop}{Q:Exit->Act->World->Prop}
  (ho:EH P (fun j=>(ops[j]?).bind (·.dst)) base nt anc o=some io) (cV:step1 sh cp cs io ak m.aj=some (aF,ao,eff)) (au:Ok w0 m) (hr:jC m ak a.tmps) (gT:a.tmps.size=nt) (hK:Gp w0 m a nt aF ao K):
  if Region.wanted o (yielded ops a.tmps) then o.wp P a m.w K Q else K (a.put o.dst undef) m.w:=by
 have hio:io.dst=o.dst/\io.op=Jl P base o/\(∀d,o.dst=some d->d<nt)/\(match o.guard with|none=>io.guard=none|some (j,w)=>∃t,(ops[j]?).bind (·.dst)=some t/\io.guard=some (t,w)):=by
  unfold EH at ho;split at ho
  .rename_i hd;simp only[dS] at ho;obtain⟨g,hg,rfl⟩:=ho;refine⟨rfl,rfl,fun d he=>?_,?_⟩
   .rw[he] at hd
    simpa [abw] using hd
   cases hgo:o.guard with
   |none=>rw[hgo] at hg;simp[Wp] at hg;exact hg.symm
   |some q=>obtain⟨j,w⟩:=q;rw[hgo] at hg;simp only[Wp,dS] at hg;obtain⟨t,ht,rfl⟩:=hg;exact⟨t,ht,rfl⟩
  cases ho
 obtain⟨h1,h2,h3,h4⟩:=hio;have hd:∀d,o.dst=some d->d<a.tmps.size:=by rw[gT];exact h3
 unfold step1 at cV;split at cV
 .cases cV
 .rename_i hw;cases cV;rw[aiJ hr h4 hw];simp only[dN,if_false];rw[h1] at hK;exact hK _ m au (Ev.refl m) rfl rfl (RX (Ev.refl m) hr (show ch m .undef undef from rfl) hd) (by rw[RY,gT]) (put_defers _ _ _)
 rename_i hw;rw[aiJ hr h4 hw];simp only[if_true];rw[h2] at cV;unfold Jl at cV;cases Aj:GJ P base o with
 |none=>rw[Aj] at cV;simp[bK] at cV
 |some p=>
  rw[Aj] at cV;simp only[nO] at cV;split at cV
  .cases cV
  .rename_i v u r hp;split at cV
   case isFalse=>cases cV
   cases cV;obtain⟨x,m',aob,e2,e3,e4,e5,e6⟩:=ark au hr Aj hp;rw[h1] at hK;have hk:=fun x (hx:ch m' v x)=>hK (a.put o.dst x) m' e2 e3 e4 e5 (RX e3 hr hx hd) (by rw[RY,gT]) (put_defers _ _ _);unfold Oper.wp;rcases aob with hd|⟨hd,rfl⟩
   .rw[hd,Oper.upon_value];exact hk x e6
   rw[hd,Oper.upon_skip];exact hk undef e6
  .rename_i f vs r s hp;by_cases Dp:∃s f as,p=.call s f as
   .obtain⟨s',f',as,rfl⟩:=Dp;obtain⟨c,fo,g1,g2,g3,g4⟩:=aaK Aj;simp only[bK] at hp;split at hp
    .rename_i g A B hfn;obtain⟨AV,BV,e1,e2,e3⟩:=ada hfn (eQ g3 hr);split at hp
     .cases hp
     split at hp
     .rename_i ws rd lJ;cases hp;split at cV
      .rename_i x hx;split at cV
       .rename_i v u hl;split at cV
        case isFalse=>cases cV
        cases cV;have Dm:Pw (ch m) (A.map .one++as.map (ev ak)++B.map .one) (AV++c.args.map a.eval++BV).toList:=by
         have:=((Rk e2).append (ZY hr g4)).append (Rk e3)
         simpa using this
        refine aiN (aap g1 g2 e1 (hP _ _ _ hx).1) (arI hP hG au hx lJ Dm hl) ?_;rintro e w' ⟨val,m',rfl,rfl,q1,q2,q3,q4,q5⟩
        rw[h1] at hK;exact⟨val,rfl,hK _ m' q1 q2 q3 q4 (RX q2 hr q5 hd) (by rw[RY,gT]) (put_defers _ _ _)⟩
       cases cV
      cases cV
     cases hp
    cases hp
   exact((agr Aj (fun s f as e=>Dp ⟨s,f,as,e⟩)).1 _ _ _ _ hp).elim
  rename_i f vs hp;by_cases Dp:∃s f as,p=.call s f as
  .obtain⟨s',f',as,rfl⟩:=Dp;obtain⟨c,fo,g1,g2,g3,g4⟩:=aaK Aj;simp only[bK] at hp;split at hp
   .rename_i g A B hfn;obtain⟨AV,BV,e1,e2,e3⟩:=ada hfn (eQ g3 hr);split at hp
    .cases hp;split at cV
     case isFalse=>cases cV
     split at cV
     .rename_i v Je hx;cases cV;have Dm:Pw (ch m) (A.map .one++as.map (ev ak)++B.map .one) (AV++c.args.map a.eval++BV).toList:=by
       have:=((Rk e2).append (ZY hr g4)).append (Rk e3)
       simpa using this
      refine aiN (aap g1 g2 e1 (hS _ _ _ _ _ _ hx).1) ((hS _ _ _ _ _ _ hx).2 w0 m _ hG au rfl Dm) ?_;rintro e w' ⟨val,m',rfl,rfl,q1,q2,q3,q4,q5⟩
      rw[h1] at hK;exact⟨val,rfl,hK _ m' q1 q2 q3 q4 (RX q2 hr q5 hd) (by rw[RY,gT]) (put_defers _ _ _)⟩
     cases cV
    split at hp<;>cases hp
   cases hp
  exact((agr Aj (fun s f as e=>Dp ⟨s,f,as,e⟩)).2 _ _ hp).elim
end Go.Abs
namespace Go.Abs
variable {P:Program} {w0:World}
theorem TN{dst anc:Nat->w_}{base nt i:Nat}{o:Oper}{r:List Oper}{l:h_}(h:xx P dst anc base nt i (o::r)=some l):
  ∃x xs,l=x::xs/\EH P dst ((base+i)*64) nt ((anc i).getD 0) o=some x/\xx P dst anc base nt (i+1) r=some xs:=by
 simp only[xx] at h;split at h
 .rename_i x xs h1 h2;cases h;exact⟨x,xs,rfl,h1,h2⟩
 cases h
section
variable {G:World->Prop} (hG:Good G w0) {cp:gC} {cs:ke} (hP:Eu P G cp) (hS:Gm P G cs) {sh:Ctx}
include hG hP hS
theorem aro{ops:Array Oper}{anc:Nat->w_}{base nt:Nat}{Q:Exit->Act->World->Prop}:∀(r:List Oper) {l:h_} {i:Nat} {ak aF:Env} {m:Mem} {ao:aB} {es:i_} {a:Act},(∀j,ops[i+j]?=r[j]?)->xx P (fun j=>(ops[j]?).bind (·.dst)) anc base nt i r=some l->
  steps sh cp cs l ak m.aj=some (aF,ao,es)->Ok w0 m->jC m ak a.tmps->a.tmps.size=nt->Gp w0 m a nt aF ao (fun a' w'=>Q .normal a' w')->wpOps P ops Q (List.range' i r.length) a m.w:=by
 intro r
 induction r with
 |nil=>intro l i ak aF m ao es a _ hc cV au hr gT hK;simp[xx] at hc;subst hc;simp only[steps,gh,lR] at cV;obtain⟨rfl,rfl,_⟩:=cV;simp only[fe,List.range'_zero,wpOps];exact hK a m au (Ev.refl m) rfl rfl hr gT rfl
 |cons o r ih=>
  intro l i ak aF m ao es a NM hc cV au hr gT hK;obtain⟨x,xs,rfl,h1,h2⟩:=TN hc;simp only[steps] at cV;split at cV
  .rename_i iU bU e1 kW;split at cV
   .rename_i dz bh es2 fM;cases cV;have ho:ops[i]?=some o:=by have:=NM 0;simpa using this
    have key:=aia (Q:=Q) (K:=wpOps P ops Q (List.range' (i+1) r.length)) hG hP hS h1 kW au hr gT (fun a1 m1 k1 k2 k3 k4 k5 k6 k7=>by subst k4;refine ih (m:=m1) (fun j=>by have:=NM (j+1);rw[show i+1+j=i+(j+1) by omega];simpa using this) h2 fM k1 k5 k6 ?_;intro a2 m2 p1 p2 p3 p4 p5 p6 p7;exact hK a2 m2 p1 (k2.trans p2) (p3.trans k3) p4 p5 p6 (p7.trans k7))
    simp only[dC,List.range'_succ,wpOps,ho];split at key
    .rename_i hw;rw[aD hw];exact .inl key
    rename_i hw;rw[ay hw];exact key
   cases cV
  cases cV
theorem asT{ops:Array Oper}{anc:Nat->w_}{base nt id:Nat}{Q:Exit->Act->World->Prop}{l:h_}{ak aF:Env}{m:Mem}{ao:aB}{es:i_}{a:Act}(hc:xx P (fun j=>(ops[j]?).bind (·.dst)) anc base nt 0 ops.toList=some l)
  (cV:steps sh cp cs l ak m.aj=some (aF,ao,es)) (au:Ok w0 m) (hr:jC m ak a.tmps) (gT:a.tmps.size=nt) (hK:Gp w0 m a nt aF ao (fun a' w'=>Q .normal a' w')):(Code.region id ops false).wp P Q a m.w:=by
 refine wp_region ?_;have:=aro hG hP hS (sh:=sh) (ops:=ops) (Q:=Q) ops.toList (i:=0) (fun j=>af) hc cV au hr gT hK;rw[List.range_eq_range']
 simpa using this
end
end Go.Abs
namespace Go.Abs
variable {P:Program} {w0:World}
theorem asD{α β:Type}(g:Array β->α->β):∀(l:List α) (acc:Array β),(l.foldl (fun acc o=>acc.push (g acc o)) acc).size=acc.size+l.length/\
  (∀j,j<acc.size->(l.foldl (fun acc o=>acc.push (g acc o)) acc)[j]?=acc[j]?)/\
  ∀j o,l[j]?=some o->∃pre:Array β,pre.size=acc.size+j/\(∀k,k<pre.size->(l.foldl (fun acc o=>acc.push (g acc o)) acc)[k]?=pre[k]?)/\(l.foldl (fun acc o=>acc.push (g acc o)) acc)[acc.size+j]?=some (g pre o):=by
 intro l
 induction l with
 |nil=>intro acc;exact⟨rfl,fun _ _=>rfl,fun j o h=>by simp at h⟩
 |cons x l ih=>
  intro acc;obtain⟨h1,h2,h3⟩:=ih (acc.push (g acc x));simp only[Bc];refine⟨by rw[h1];simp;omega,fun j hj=>?_,fun j o ho=>?_⟩
  .rw[h2 j (by simp;omega),Array.getElem?_push,ay aa]
  cases j with
  |zero=>
   simp at ho;subst ho;refine⟨acc,aa,fun k hk=>?_,?_⟩
   .rw[h2 k (by simp;omega),Array.getElem?_push,ay aa]
   rw[u9,h2 acc.size af,Array.getElem?_push,aD rfl]
  |succ j=>obtain⟨pre,p1,p2,p3⟩:=h3 j o (by simpa using ho);refine⟨pre,by rw[p1];simp;omega,p2,?_⟩;rw[<- p3];simp only[Array.size_push];congr 1;omega
theorem arp{α:Type}(f:α->Bool)(g:α->Nat)(h:α->Nat):∀(l:List α) (s j:Nat),(l.foldl (fun s e=>if f e then s|||g e|||h e else s) s).testBit j=true->s.testBit j=true\/ ∃e∈l,f e=true/\((g e).testBit j=true\/(h e).testBit j=true):=by
 intro l
 induction l with
 |nil=>intro s j hh;exact .inl hh
 |cons x l ih=>
  intro s j hh;simp only[Bc] at hh;rcases ih _ j hh with h1|⟨e,he,h2⟩
  .split at h1
   .rename_i hf;simp only[Nat.testBit_or,vT] at h1;rcases h1 with (h1|h1)|h1
    .exact .inl h1
    .exact .inr ⟨x,af,hf,.inl h1⟩
    exact .inr ⟨x,af,hf,.inr h1⟩
   exact .inl h1
  exact .inr ⟨e,by simp[he],h2⟩
theorem akh{ops:Array Oper}(Fg:IU ops=true){i:Nat}{o:Oper}(ho:ops[i]?=some o){j:Nat}(hj:(((Region.before ops)[i]?).getD 0).testBit j=true):
  ∃e∈o.after,Region.binds .any e=true/\e.on<i/\(j=e.on\/(((Region.before ops)[e.on]?).getD 0).testBit j=true):=by
 unfold Region.before at hj |-;rw[<- Array.foldl_toList] at hj |-;obtain⟨h1,h2,h3⟩:=asD (fun(acc:Array Nat) (o:Oper)=>o.after.foldl (fun s e=>if Region.binds .any e then s|||2 ^ e.on|||acc.getD e.on 0 else s) 0) ops.toList #[];obtain⟨pre,p1,p2,p3⟩:=h3 i o (by simpa using ho);simp only[Array.size_empty,js] at p1 p3;rw[p3] at hj;simp only[nO] at hj;rw[<- Array.foldl_toList] at hj;rcases arp (fun e=>Region.binds .any e) (fun e=>2 ^ e.on) (fun e=>pre.getD e.on 0) _ _ _ hj with h|⟨e,he,hb,JS⟩
 .simp at h
 have aw:i<ops.size:=(Array.getElem?_eq_some_iff.1 ho).1;have NL:e.on<i:=by unfold IU at Fg;have:=gO.1 Fg i (by simpa using aw);rw[ho] at this;rw[gO] at this;have:=this e (by simpa using he);simp only[hb,Cx,Cw,oO] at this;exact this
 refine⟨e,by simpa using he,hb,NL,?_⟩;rcases JS with JS|JS
 .left;rw[Nat.testBit_two_pow] at JS;have h9:e.on=j:=by simpa using JS
  exact h9.symm
 right;rw[p2 e.on aa]
 simpa [Array.getD_eq_getD_getElem?] using JS
theorem aaL{dst:Nat->w_}{base nt anc:Nat}{o:Oper}{io:bJ}(h:EH P dst base nt anc o=some io):io.anc=anc:=by
 unfold EH at h;split at h
 .simp only[dS] at h;obtain⟨g,_,rfl⟩:=h;rfl
 cases h
structure aiV (P:Program) (ops:Array Oper) (base nt:Nat) (rem:List It) (listed:Array Bool):Prop where
 pair:rem.Pairwise fun p q=>p.i<q.i/\(q.io.anc.testBit p.i=true\/Pf p q)
 comp:∀p∈rem,∃o,ops[p.i]?=some o/\EH P (fun j=>(ops[j]?).bind (·.dst)) ((base+p.i)*64) nt (((Region.before ops)[p.i]?).getD 0) o=some p.io
 size:listed.size=ops.size
 free:∀i:Nat,listed[i]?=some false↔ ∃p∈rem,p.i=i
 closed:∀i:Nat,listed[i]?=some true->∀j:Nat,(((Region.before ops)[i]?).getD 0).testBit j=true->listed[j]?=some true
theorem Yt{ops:Array Oper}{listed:Array Bool}{i:Nat}:i∈Region.ready .any ops listed↔i<ops.size/\listed.getD i true=false/\ ∃o,ops[i]?=some o/\ ∀e∈o.after,Region.binds .any e=true->listed.getD e.on false=true:=by
 unfold Region.ready;simp only[u7,gV,cU,mj];constructor
 .rintro ⟨h1,h2,h3⟩
  refine⟨h1,h2,ops[i],by simp[h1],fun e he hb=>?_⟩;have ho:ops[i]?=some ops[i]:=by simp[h1]
  rw[ho] at h3;simp only[nQ,nO,Array.all_eq_true'] at h3;have:=h3 e he;rw[hb] at this
  simpa using this
 rintro ⟨h1,h2,o,ho,h3⟩
 refine⟨h1,h2,?_⟩;rw[ho];simp only[nQ,nO,Array.all_eq_true'];intro e he;cases hb:Region.binds .any e with
 |false=>rfl
 |true=>simp[h3 e he hb]
theorem adC{l:Array Bool}{i:Nat}(h:l.getD i true=false):l[i]?=some false:=by
 rw[Array.getD_eq_getD_getElem?] at h;cases he:l[i]? with
 |none=>rw[he] at h;simp at h
 |some b=>rw[he] at h;simp at h;rw[h]
theorem anD{l:Array Bool}{i:Nat}(h:l.getD i false=true):l[i]?=some true:=by
 rw[Array.getD_eq_getD_getElem?] at h;cases he:l[i]? with
 |none=>rw[he] at h;simp at h
 |some b=>rw[he] at h;simp at h;rw[h]
section
variable {G:World->Prop} (hG:Good G w0) {cp:gC} {cs:ke} (hP:Eu P G cp) (hS:Gm P G cs) (hL:Bh cs) {sh:Ctx}
include hG hP hS hL
theorem ajy{ops:Array Oper}(Fg:IU ops=true){base nt:Nat}{Q:Exit->Act->World->Prop}{aF:Env}{ao:aB}:∀(fuel:Nat) {rem:List It} {listed:Array Bool} {ak:Env} {m:Mem} {a:Act},aiV P ops base nt rem listed->rem.length<=fuel->
  steps sh cp cs (rem.map (·.io)) ak m.aj=some (aF,ao,rem.map (·.e))->Ok w0 m->jC m ak a.tmps->a.tmps.size=nt->Gp w0 m a nt aF ao (fun a' w'=>Q .normal a' w')->wpAny P .any ops Q fuel listed a m.w:=by
 intro fuel
 induction fuel with
 |zero=>
  intro rem listed ak m a hl hlen cV au hr gT hK;have aoY:rem=[]:=by
   cases rem with
   |nil=>rfl
   |cons _ _=>simp at hlen
  subst aoY;simp only[lQ,steps,gh,lR] at cV;obtain⟨rfl,rfl,_⟩:=cV;refine⟨?_,hK a m au (Ev.refl m) rfl rfl hr gT rfl⟩;refine List.eq_nil_iff_forall_not_mem.2 fun i hi=>?_;obtain⟨_,h2,_⟩:=Yt.1 hi;obtain⟨p,hp,_⟩:=(hl.free i).1 (adC h2);simp at hp
 |succ fuel ih=>
  intro rem listed ak m a hl hlen cV au hr gT hK;refine⟨fun aoF=>?_,fun i hi=>?_⟩
  .cases rem with
   |nil=>simp only[lQ,steps,gh,lR] at cV;obtain⟨rfl,rfl,_⟩:=cV;exact hK a m au (Ev.refl m) rfl rfl hr gT rfl
   |cons p rest=>
    exfalso;obtain⟨o,ho,_⟩:=hl.comp p af;have aw:p.i<ops.size:=(Array.getElem?_eq_some_iff.1 ho).1;have oz:p.i∈Region.ready .any ops listed:=by
     refine Yt.2 ⟨aw,?_,o,ho,fun e he hb=>?_⟩
     .rw[Array.getD_eq_getD_getElem?,(hl.free p.i).2 ⟨p,af,rfl⟩];rfl
     have NL:e.on<p.i:=by unfold IU at Fg;have:=gO.1 Fg p.i (by simpa using aw);rw[ho] at this;rw[gO] at this;have:=this e (by simpa using he);simp only[hb,Cx,Cw,oO] at this;exact this
     have hs:e.on<listed.size:=by rw[hl.size];omega
     rw[Array.getD_eq_getD_getElem?];cases bj:listed[e.on] with
     |true=>simp[hs,bj]
     |false=>
      exfalso;obtain⟨q,hq,Fv⟩:=(hl.free e.on).1 (by simp[hs,bj]);rcases cD.1 hq with rfl|hq
      .omega
      have:=((rM.1 hl.pair).1 q hq).1;omega
    rw[aoF] at oz;simp at oz
  obtain⟨h1,h2,o,ho,h3⟩:=Yt.1 hi;obtain⟨p,hp,rfl⟩:=(hl.free i).1 (adC h2);obtain⟨l1,l2,rfl⟩:=List.append_of_mem hp;obtain⟨o',l8,Aj⟩:=hl.comp p hp;rw[ho] at l8;cases l8;have adL:∀j:Nat,p.io.anc.testBit j=true->listed[j]?=some true:=by
   intro j hj;rw[aaL Aj] at hj;obtain⟨e,he,hb,_,BJ⟩:=akh Fg ho hj;have NL:=anD (h3 e he hb);rcases BJ with rfl|BJ
   .exact NL
   exact hl.closed _ NL j BJ
  have Kd:=O2.1 hl.pair;have aol:∀x∈l1,Pf x p:=by
   intro x hx;rcases(Kd.2.2 x hx p af).2 with h|h
   .have:=adL _ h;rw[(hl.free x.i).2 ⟨x,by simp[hx],rfl⟩] at this;cases this
   exact h
  obtain⟨iU,bU,kW,fM⟩:=avo hL cV aol;have key:=aia (Q:=Q) (K:=wpAny P .any ops Q fuel (listed.setIfInBounds p.i true)) hG hP hS Aj kW au hr gT (fun a1 m1 k1 k2 k3 k4 k5 k6 k7=>by
   subst k4;have aw:p.i<listed.size:=by rw[hl.size];exact h1
   refine ih (rem:=l1++l2) ⟨?_,fun q hq=>hl.comp q (by rcases eK.1 hq with h|h<;>simp[h]),by simp[hl.size],fun k=>?_,fun k hk j hj=>?_⟩ (by simp at hlen |-;omega) fM k1 k5 k6 ?_
   .refine O2.2 ⟨Kd.1,(rM.1 Kd.2.1).2,fun x hx y hy=>Kd.2.2 x hx y (by simp[hy])⟩
   .rw[Array.getElem?_setIfInBounds];by_cases hk:p.i=k
    .subst hk;rw[aD rfl,aD aw];constructor
     .intro h;cases h
     rintro ⟨q,hq,Fv⟩
     rcases eK.1 hq with h|h
     .have:=(Kd.2.2 q h p af).1;omega
     have:=((rM.1 Kd.2.1).1 q h).1;omega
    rw[ay hk,hl.free k];constructor
    .rintro ⟨q,hq,Fv⟩
     rcases eK.1 hq with h|h
     .exact⟨q,by simp[h],Fv⟩
     rcases cD.1 h with rfl|h
     .exact(hk Fv).elim
     exact⟨q,by simp[h],Fv⟩
    rintro ⟨q,hq,Fv⟩
    rcases eK.1 hq with h|h
    .exact⟨q,by simp[h],Fv⟩
    exact⟨q,by simp[h],Fv⟩
   .have wN:∀j:Nat,listed[j]?=some true->(listed.setIfInBounds p.i true)[j]?=some true:=by
     intro j hj;rw[Array.getElem?_setIfInBounds];split
     .first
       |rfl
       |(rename_i e;rw[aD aw])
     exact hj
    by_cases jT:p.i=k
    .subst jT;refine wN j (adL j ?_);rw[aaL Aj];exact hj
    rw[Array.getElem?_setIfInBounds,ay jT] at hk;exact wN j (hl.closed k hk j hj)
   intro a2 m2 p1 p2 p3 p4 p5 p6 p7;exact hK a2 m2 p1 (k2.trans p2) (p3.trans k3) p4 p5 p6 (p7.trans k7))
  unfold wpOp;rw[ho];simp only;split at key
  .rename_i hw;rw[aD hw];exact .inl key
  rename_i hw;rw[ay hw];exact key
end
def tX:Nat->h_->i_->List It
 |i,x::xs,e::es=>⟨i,x,e⟩::tX (i+1) xs es
 |_,_,_=>[]
theorem aqS:∀ {xs:h_} {es:i_} (i:Nat),es.length=xs.length->(tX i xs es).map (·.io)=xs/\(tX i xs es).map (·.e)=es:=by
 intro xs
 induction xs with
 |nil=>intro es i h;cases es with
  |nil=>exact⟨rfl,rfl⟩
  |cons _ _=>simp at h
 |cons x xs ih=>intro es i h;cases es with
  |nil=>simp at h
  |cons e es=>obtain⟨h1,h2⟩:=ih (es:=es) (i+1) (by simpa using h);exact⟨by simp[tX,h1],by simp[tX,h2]⟩
theorem ana{o:bJ}:∀ {past:h_} {j:Nat},Qa o j past=true->∀k x,past[k]?=some x->o.anc.testBit (j+k)=true\/GW x o=true:=by
 intro past
 induction past with
 |nil=>intro j _ k x h;simp at h
 |cons y past ih=>
  intro j h k x hk;simp only[Qa,cU,vT] at h;cases k with
  |zero=>simp at hk;subst hk;exact h.1
  |succ k=>have:=ih h.2 k x (by simpa using hk);rw[show j+(k+1)=j+1+k by omega];exact this
theorem arh{anc:Nat}{e:cE}:∀ {past:i_} {j:Nat},Rh anc e j past=true->∀k x,past[k]?=some x->anc.testBit (j+k)=true\/GG x e=false:=by
 intro past
 induction past with
 |nil=>intro j _ k x h;simp at h
 |cons y past ih=>
  intro j h k x hk;simp only[Rh,cU,vT,mj] at h;cases k with
  |zero=>simp at hk;subst hk;exact h.1
  |succ k=>have:=ih h.2 k x (by simpa using hk);rw[show j+(k+1)=j+1+k by omega];exact this
theorem aqT:∀ {xs:h_} {es:i_} {past:h_} {pe:i_},es.length=xs.length->pe.length=past.length->MC xs past=true->tZ xs pe es=true->
  (∀(q:It),q∈tX past.length xs es->∀(k:Nat) (x:bJ) (e:cE),past[k]?=some x->pe[k]?=some e->q.io.anc.testBit k=true\/(GW x q.io=true/\GG e q.e=false))/\
  (∀q∈tX past.length xs es,past.length<=q.i)/\(tX past.length xs es).Pairwise fun p q=>p.i<q.i/\(q.io.anc.testBit p.i=true\/Pf p q):=by
 intro xs
 induction xs with
 |nil=>
  intro es past pe _ _ _ _;have:tX past.length [] es=[]:=by cases es<;>rfl
  rw[this];exact⟨fun q h=>by simp at h,fun q h=>by simp at h,.nil⟩
 |cons x xs ih=>
  intro es past pe hl hp hf hd;cases es with
  |nil=>simp at hl
  |cons e es=>
   simp only[MC,cU] at hf;simp only[tZ,cU] at hd;obtain⟨i1,i2,i3⟩:=ih (es:=es) (past:=past++[x]) (pe:=pe++[e]) (by simpa using hl) (by simp[hp]) hf.2 hd.2;have hlen:(past++[x]).length=past.length+1:=af;rw[hlen] at i1 i2 i3;simp only[tX];refine⟨?_,?_,rM.2 ⟨?_,i3⟩⟩
   .intro q hq k y f hy hf';rcases cD.1 hq with rfl|hq
    .have h1:=ana hf.1 k y hy;have h2:=arh hd.1 k f hf';rw[js] at h1 h2;rcases h1 with h1|h1
     .exact .inl h1
     rcases h2 with h2|h2
     .exact .inl h2
     exact .inr ⟨h1,h2⟩
    have hk:k<past.length:=(aT.1 hy).1;exact i1 q hq k y f (by rw[xh hk];exact hy) (by rw[xh aa];exact hf')
   .intro q hq;rcases cD.1 hq with rfl|hq
    .exact bR _
    have:=i2 q hq;omega
   intro q hq;refine⟨by have:=i2 q hq;simp only;omega,?_⟩;exact i1 q hq past.length x e af (by rw[<- hp];simp)
theorem aqR{ops:Array Oper}{anc:Nat->w_}{dst:Nat->w_}{base nt:Nat}:∀ {r:List Oper} {xs:h_} {es:i_} {i:Nat},xx P dst anc base nt i r=some xs->es.length=xs.length->(∀j,ops[i+j]?=r[j]?)->
  (∀p∈tX i xs es,∃o,ops[p.i]?=some o/\EH P dst ((base+p.i)*64) nt ((anc p.i).getD 0) o=some p.io)/\ ∀k,i<=k->k<i+r.length->∃p∈tX i xs es,p.i=k:=by
 intro r
 induction r with
 |nil=>
  intro xs es i h _ _;simp only[xx,gh] at h;subst h;have:tX i [] es=[]:=by cases es<;>rfl
  rw[this];exact⟨fun p h=>by simp at h,fun k h1 h2=>by simp at h2;omega⟩
 |cons o r ih=>
  intro xs es i h hl NM;obtain⟨x,xs',rfl,h1,h2⟩:=TN h;cases es with
  |nil=>simp at hl
  |cons e es=>
   obtain⟨i1,i2⟩:=ih (es:=es) h2 (by simpa using hl) (fun j=>by have:=NM (j+1);rw[show i+1+j=i+(j+1) by omega];simpa using this);refine⟨fun p hp=>?_,fun k df jT=>?_⟩
   .rcases cD.1 hp with rfl|hp
    .exact⟨o,by have:=NM 0;simpa using this,h1⟩
    exact i1 p hp
   by_cases hk:k=i
   .exact⟨⟨i,x,e⟩,by simp[tX],hk.symm⟩
   obtain⟨p,hp,gH⟩:=i2 k aa (by simp at jT;omega);exact⟨p,by simp[tX,hp],gH⟩
theorem auY{sh:Ctx}{cp:gC}{cs:ke}:∀ {xs:h_} {ak aF:Env} {aj ao:aB} {es:i_},steps sh cp cs xs ak aj=some (aF,ao,es)->es.length=xs.length:=by
 intro xs
 induction xs with
 |nil=>intro ak aF aj ao es h;simp only[steps,gh,lR] at h;rw[<- h.2.2];rfl
 |cons x xs ih=>
  intro ak aF aj ao es h;simp only[steps] at h;split at h
  .split at h
   .rename_i h2;cases h;simp[ih h2]
   cases h
  cases h
theorem ali{dst anc:Nat->w_}{base nt:Nat}:∀ {r:List Oper} {xs:h_} {i:Nat},xx P dst anc base nt i r=some xs->xs.length=r.length:=by
 intro r
 induction r with
 |nil=>intro xs i h;simp only[xx,gh] at h;subst h;rfl
 |cons o r ih=>intro xs i h;obtain⟨x,xs',rfl,_,h2⟩:=TN h;simp[ih h2]
section
variable {G:World->Prop} (hG:Good G w0) {cp:gC} {cs:ke} (hP:Eu P G cp) (hS:Gm P G cs) (hL:Bh cs) {sh:Ctx}
include hG hP hS hL
theorem al0(Ar:P.follows .mixedOrders=true){ops:Array Oper}{base nt id:Nat}{Q:Exit->Act->World->Prop}{l:h_}{ak aF:Env}{m:Mem}{ao:aB}{es:i_}{a:Act}(hc:xx P (fun j=>(ops[j]?).bind (·.dst)) (fun i=>(Region.before ops)[i]?) base nt 0 ops.toList=some l)
  (Fg:IU ops=true) (hf:MC l []=true) (cV:steps sh cp cs l ak m.aj=some (aF,ao,es)) (hd:tZ l [] es=true) (au:Ok w0 m) (hr:jC m ak a.tmps) (gT:a.tmps.size=nt) (hK:Gp w0 m a nt aF ao (fun a' w'=>Q .normal a' w')):(Code.region id ops true).wp P Q a m.w:=by
 refine wp_region_any Ar ?_;have hlen:=auY cV;have r8:l.length=ops.size:=by have:=ali hc;simpa using this
 obtain⟨g1,g2⟩:=aqS 0 hlen;obtain⟨_,_,hp⟩:=aqT (past:=[]) (pe:=[]) hlen rfl hf hd;obtain⟨c1,c2⟩:=aqR (ops:=ops) hc hlen (fun j=>af);have pz:Ok w0 (m.later m.w.drew fun _=>False):=Od au (fT.drew _) fun _ h=>h.elim;have wE:Ev m (m.later m.w.drew fun _=>False):=Kz (fT.drew _) fun _ h=>h.elim;have l7:(m.later m.w.drew fun _=>False).fr=m.fr:=by funext c;simp[Mem.later]
 refine ajy (m:=m.later m.w.drew fun _=>False) hG hP hS hL Fg ops.size (rem:=tX 0 l es) (base:=base) ⟨hp,c1,af,fun i=>?_,fun i hi=>?_⟩ ?_ (by rw[g1,g2];exact cV) pz (hr.ev wE) gT ?_
 .constructor
  .intro h;have hi:i<ops.size:=by
    have:=(Array.getElem?_eq_some_iff.1 h).1
    simpa using this
   exact c2 i (bG _) (by simpa using hi)
  rintro ⟨p,hp,rfl⟩
  obtain⟨o,ho,_⟩:=c1 p hp;have hi:p.i<ops.size:=(Array.getElem?_eq_some_iff.1 ho).1;simp[hi]
 .rw[Array.getElem?_replicate] at hi;split at hi<;>simp at hi
 .have:(tX 0 l es).length=l.length:=by have:=congrArg List.length g1;simpa using this
  omega
 intro a2 m2 p1 p2 p3 p4 p5 p6 p7;exact hK a2 m2 p1 (wE.trans p2) (p3.trans l7) p4 p5 p6 p7
end
end Go.Abs
namespace Go.Abs
variable {P:Program} {w0:World}
def toE:mK->Exit
 | .normal=>.normal
 | .exit i=>.exit i
 | .ret=>.ret
section
variable {G:World->Prop} (hG:Good G w0) {cp:gC} {cs:ke} (hP:Eu P G cp) (hS:Gm P G cs) (hL:Bh cs) (Ar:P.follows .mixedOrders=true) {sh:Ctx}
include hG hP hS hL Ar
theorem amC{n f nt:Nat}:∀(c:Code) {ic:aN} {ak aF:Env} {m:Mem} {ao:aB} {e:mK} {a:Act} {Q:Exit->Act->World->Prop},qA P f nt c=some ic->exec sh cp cs n ic ak m.aj=some (e,aF,ao)->Ok w0 m->jC m ak a.tmps->a.tmps.size=nt->
  Gp w0 m a nt aF ao (fun a' w'=>Q (toE e) a' w')->c.wp P Q a m.w:=by
 intro c
 induction c with
 |skip=>intro ic ak aF m ao e a Q hc hx au hr gT hK;simp only[qA,gh] at hc;subst hc;simp only[exec,gh,lR] at hx;obtain⟨rfl,rfl,rfl⟩:=hx;exact wp_skip (hK a m au (Ev.refl m) rfl rfl hr gT rfl)
 |label l=>intro ic ak aF m ao e a Q hc hx au hr gT hK;simp only[qA,gh] at hc;subst hc;simp only[exec,gh,lR] at hx;obtain⟨rfl,rfl,rfl⟩:=hx;exact wp_label (hK a m au (Ev.refl m) rfl rfl hr gT rfl)
 |ret=>intro ic ak aF m ao e a Q hc hx au hr gT hK;simp only[qA,gh] at hc;subst hc;simp only[exec,gh,lR] at hx;obtain⟨rfl,rfl,rfl⟩:=hx;exact wp_ret (hK a m au (Ev.refl m) rfl rfl hr gT rfl)
 |exit id=>intro ic ak aF m ao e a Q hc hx au hr gT hK;simp only[qA,gh] at hc;subst hc;simp only[exec,gh,lR] at hx;obtain⟨rfl,rfl,rfl⟩:=hx;exact wp_exit (hK a m au (Ev.refl m) rfl rfl hr gT rfl)
 |region id ops draw=>
  intro ic ak aF m ao e a Q hc hx au hr gT hK;simp only[qA] at hc;split at hc
  .rename_i xs N5;cases draw with
   |false=>
    simp only[dN,if_false,gh] at hc;subst hc;simp only[exec] at hx;split at hx
    .rename_i e1 b1 es cV;simp only[dN,if_false,gh,lR] at hx;obtain⟨rfl,rfl,rfl⟩:=hx;exact asT hG hP hS N5 cV au hr gT hK
    cases hx
   |true=>
    simp only[if_true] at hc N5;split at hc
    .rename_i Bx;simp only[cU] at Bx;cases hc;simp only[exec] at hx;split at hx
     .rename_i e1 b1 es cV;simp only[if_true] at hx;split at hx
      .rename_i hd;cases hx;exact al0 hG hP hS hL Ar N5 Bx.1 Bx.2 cV hd au hr gT hK
      cases hx
     cases hx
    cases hc
  cases hc
 |seq x y ihx ihy=>
  intro ic ak aF m ao e a Q hc hx au hr gT hK;simp only[qA] at hc;split at hc
  .rename_i ix iy h1 h2;cases hc;simp only[exec] at hx;refine wp_seq ?_;split at hx
   .rename_i iU bU tU;refine ihx h1 tU au hr gT ?_;intro a1 m1 k1 k2 k3 k4 k5 k6 k7;subst k4;refine ihy h2 hx k1 k5 k6 ?_;intro a2 m2 p1 p2 p3 p4 p5 p6 p7;exact hK a2 m2 p1 (k2.trans p2) (p3.trans k3) p4 p5 p6 (p7.trans k7)
   rename_i aI;refine ihx h1 hx au hr gT ?_;intro a1 m1 k1 k2 k3 k4 k5 k6 k7;have:=hK a1 m1 k1 k2 k3 k4 k5 k6 k7;cases e with
   |normal=>exact(aI aF ao hx).elim
   |exit i=>exact this
   |ret=>exact this
  cases hc
 |cond x p q ihp ihq=>
  intro ic ak aF m ao e a Q hc hx au hr gT hK;simp only[qA] at hc;split at hc
  .rename_i c' ip iq h1 h2 h3;cases hc;simp only[exec] at hx;split at hx
   .rename_i t ht;have hv:=eQ h1 hr;rw[ht] at hv;refine wp_cond (FI hv) ?_;cases t with
    |true=>simp only[if_true] at hx |-;exact ihp h2 hx au hr gT hK
    |false=>simp only[dN,if_false] at hx |-;exact ihq h3 hx au hr gT hK
   cases hx
  cases hc
 |block id c ih=>
  intro ic ak aF m ao e a Q hc hx au hr gT hK;simp only[qA,dS] at hc;obtain⟨ic',h1,rfl⟩:=hc;simp only[exec] at hx;refine wp_block ?_;split at hx
  .rename_i i iU bU tU;refine ih h1 tU au hr gT ?_;intro a1 m1 k1 k2 k3 k4 k5 k6 k7;simp only[toE,Exit.inBlock];split at hx
   .rename_i hi;cases hx;rw[aD hi];exact hK a1 m1 k1 k2 k3 k4 k5 k6 k7
   rename_i hi;cases hx;rw[ay hi];exact hK a1 m1 k1 k2 k3 k4 k5 k6 k7
  rename_i aI;refine ih h1 hx au hr gT ?_;intro a1 m1 k1 k2 k3 k4 k5 k6 k7;have:=hK a1 m1 k1 k2 k3 k4 k5 k6 k7;cases e with
  |normal=>exact this
  |exit i=>exact(aI i aF ao hx).elim
  |ret=>exact this
 |loop c ih=>
  intro ic ak aF m ao e a Q hc hx au hr gT hK;simp only[qA,dS] at hc;obtain⟨ic',h1,rfl⟩:=hc;simp only[exec] at hx;refine wp_loop_rounds n ?_;have key:∀(k:Nat) {ak:Env} {m:Mem} {a:Act},iter (exec sh cp cs n ic') k ak m.aj=some (e,aF,ao)->Ok w0 m->jC m ak a.tmps->a.tmps.size=nt->Gp w0 m a nt aF ao (fun a' w'=>Q (toE e) a' w')->Code.rounds P c Q k a m.w:=by
   intro k
   induction k with
   |zero=>intro ak m a hx;simp[iter] at hx
   |succ k ihk=>
    intro ak m a hx au hr gT hK;rw[rounds_succ];simp only[iter] at hx;split at hx
    .rename_i iU bU tU;refine ih h1 tU au hr gT ?_;intro a1 m1 k1 k2 k3 k4 k5 k6 k7;subst k4;refine ihk hx k1 k5 k6 ?_;intro a2 m2 p1 p2 p3 p4 p5 p6 p7;exact hK a2 m2 p1 (k2.trans p2) (p3.trans k3) p4 p5 p6 (p7.trans k7)
    rename_i aI;refine ih h1 hx au hr gT ?_;intro a1 m1 k1 k2 k3 k4 k5 k6 k7;have:=hK a1 m1 k1 k2 k3 k4 k5 k6 k7;cases e with
    |normal=>exact(aI aF ao hx).elim
    |exit i=>exact this
    |ret=>exact this
  exact key n hx au hr gT hK
 |scope c ih=>intro ic ak aF m ao e a Q hc hx au hr gT hK;simp only[qA] at hc;refine wp_scope_straight ?_;refine ih hc hx au hr gT ?_;intro a1 m1 k1 k2 k3 k4 k5 k6 k7;have:=hK a1 m1 k1 k2 k3 k4 k5 k6 k7;cases e<;>exact this
 |_=>intro ic ak aF m ao e a Q hc hx;simp only[qA,gh] at hc;subst hc;simp[exec] at hx
end
end Go.Abs
namespace Go.Abs
variable {P:Program} {w0:World}
section
variable{m:Mem}
theorem au8{k:w_}{cs:f_}{v:V}{u:Value}(h:qS k cs=some v)(hr:ch m v u):pR m v u:=by
 unfold qS at h;split at h
 .split at h
  .cases h;exact hr
  cases h
 split at h
 .cases h;exact hr
 cases h
theorem aq8{x v:V}{u:Value}(h:Rf x=some v)(hr:ch m x u):pR m v u:=by cases x<;>simp only[Rf,gh,reduceCtorEq] at h<;>subst h<;>exact hr
theorem af1{α β:Type}{f:α->Sem β}{x:α}{xs:List α}{y:β}{ys:List β}{w:World}(h1:(f x).run P w=.ok y w)(h2:(xs.mapM f).run P w=.ok ys w):((x::xs).mapM f).run P w=.ok (y::ys) w:=by simp only[List.mapM_cons,Sem.run_bind,h1,h2,Result.andThen_ok,Sem.run_pure]
theorem as2{al:Al}(au:Ok w0 m){ak:Env}{tmps:Array Value}(hr:jC m ak tmps):∀ {rs:List ResultVar} {l:List (Nat×Option w_)} {vs:e_},Ck P rs=some l->qm al ak m.aj l=some vs->
  ∃ys,(rs.mapM (fun| .tmp t=>pure (tmps.getD t undef)| .cell a t=>do loadVar t (<- asAddr (tmps.getD a undef)):ResultVar->Sem Value)).run P m.w=.ok ys m.w/\Pw (pR m) vs ys:=by
 intro rs
 induction rs with
 |nil=>intro l vs h1 h2;simp only[Ck,gh] at h1;subst h1;simp only[qm,gh] at h2;subst h2;exact⟨[],by simp[Sem.run_pure],rfl,fun j x u p=>by simp at p⟩
 |cons r rs ih=>
  intro l vs h1 h2;have cons:∀ {x:V} {xs:e_} {y:Value} {ys:List Value},pR m x y->Pw (pR m) xs ys->Pw (pR m) (x::xs) (y::ys):=by
   intro x xs y ys p q;refine⟨by simp[q.1],fun j z u a b=>?_⟩;cases j with
   |zero=>simp at a b;subst a b;exact p
   |succ j=>exact q.2 j z u (by simpa using a) (by simpa using b)
  cases r with
  |tmp t=>
   simp only[Ck,dS] at h1;obtain⟨l',h3,rfl⟩:=h1;simp only[qm] at h2;split at h2
   .rename_i v q e1 e2;cases h2;obtain⟨ys,g1,g2⟩:=ih h3 e2;exact⟨_::ys,af1 (by simp[Sem.run_pure]) g1,cons (aq8 e1 (hr t)) g2⟩
   cases h2
  |cell a t=>
   simp only[Ck] at h1;split at h1
   .rename_i k q e1 e2;cases h1;simp only[qm] at h2;split at h2
    .rename_i cs rd ws e3 e4;split at h2
     case isFalse=>cases h2
     simp only[dS] at h2;obtain⟨v,hv,rfl⟩:=h2;obtain⟨ys,g1,g2⟩:=ih e2 e4;obtain⟨ad,y,p1,p2,p3⟩:=afM e1 (ahd au e3 (hr a)) hv;exact⟨y::ys,af1 (by simp[p1,asAddr,p2]) g1,cons (au8 hv p3) g2⟩
    cases h2
   cases h1
theorem as3{al:Al}(au:Ok w0 m){ak:Env}{tmps:Array Value}(hr:jC m ak tmps){fn:Func}{l:List (Nat×Option w_)}{vs:e_}(h1:Ck P fn.results.toList=some l)(h2:qm al ak m.aj l=some vs):
  ∃y,(results fn tmps).run P m.w=.ok y m.w/\ch m (A6 vs) y:=by
 obtain⟨ys,g1,g2⟩:=as2 au hr h1 h2;have kU:(results fn tmps).run P m.w=.ok (if h:ys.toArray.size=1 then ys.toArray[0] else .tuple ys.toArray) m.w:=by
  unfold results;simp only[Array.mapM_eq_mapM_toList,map_eq_pure_bind,Sem.run_bind,Result.andThen_ok,Sem.run_pure,bind_assoc,pure_bind]
  erw[g1]
  simp only[Result.andThen_ok,Sem.run_pure]
 refine⟨_,kU,?_⟩
 match vs,ys,g2 with
 |[v],[y],g2=>exact ch.of1 (g2.2 0 v y rfl rfl)
 |[],[],g2=>exact⟨_,rfl,rfl,fun j x u p=>by simp at p⟩
 |v::v'::vs,y::y'::ys,g2=>refine⟨_,rfl,by simpa using g2.1,fun j x u p q=>g2.2 j x u p (by simpa using q)⟩
 |[],y::ys,g2=>exact absurd g2.1 af
 |v::vs,[],g2=>exact absurd g2.1 af
 |[v],y::y'::ys,g2=>exact absurd g2.1 af
 |v::v'::vs,[y],g2=>exact absurd g2.1 af
theorem aaJ{f:Nat}{fn:bd}(h:CX P f=some fn):∃kf c,P.funcs[f]?=some kf/\kf.body=some c/\(kf.name== "runtime.NumGoroutine")=false/\qA P f kf.ntmps c=some fn.body/\Ck P kf.results.toList=some fn.results/\fn.ntmps=kf.ntmps:=by
 unfold CX at h;split at h
 .cases h
 rename_i kf hf;split at h
 .cases h
 rename_i c hc;split at h
 .cases h
 rename_i hn;split at h
 .rename_i b r h1 h2;cases h;exact⟨kf,c,hf,hc,by simpa using hn,h1,h2,rfl⟩
 cases h
def Zq(S:Sys)(G:World->Prop):Prop:=∀f vs r,S.prim f vs=some (some r)->Enters S.P f/\ ∀(w:World) (O:Nat->Prop) (args:Array Value),Good G w->(∀c,O c->c<w.heap.size)->Pw (tB w O) vs args.toList->Calls S.P f args w (vY w O r)
def aiY(S:Sys)(G:World->Prop):Prop:=∀f vs al aj v ao,S.trig f vs=true->(S.primS f vs al aj).map (fun r=>(r.1,app r.2 aj))=some (v,ao)->
 (Enters S.P f/\ ∀(w0:World) (m:Mem) (args:Array Value),Good G w0->Ok w0 m->m.aj=aj->Pw (ch m) vs args.toList->Calls S.P f args m.w (IM w0 m v ao))/\
 (∀id,al.ok id=false->ao id=aj id)/\
 ∀bh,(∀id,al.ok id=true->bh id=aj id)->∃ng,(S.primS f vs al bh).map (fun r=>(r.1,app r.2 bh))=some (v,ng)/\ ∀id,ng id=if al.ok id then ao id else bh id
structure IQ (S:Sys) (G:World->Prop):Prop where
 follow:S.P.follows .mixedOrders=true
 fns:∀f fn,S.fns f=some fn->CX S.P f=some fn
 prim:Zq S G
 primS:aiY S G
theorem auQ{vs:e_}{args:Array Value}{nt:Nat}(h:Pw (ch m) vs args.toList)(hl:vs.length<=nt):jC m (th vs) (args++Array.replicate (nt-args.size) undef)/\(args++Array.replicate (nt-args.size) undef).size=nt:=by
 have hs:args.size=vs.length:=by simpa using h.1
 constructor
 .intro t;by_cases ht:t<vs.length
  .have h1:th vs t=vs[t]:=by simp[th,List.getD,ht]
   have h2:(args++Array.replicate (nt-args.size) undef).getD t undef=args[t]:=by simp[Array.getD_eq_getD_getElem?,Array.getElem?_append,hs,ht]
   rw[h1,h2];exact h.2 t _ _ (by simp[ht]) (by simp[hs,ht])
  have h1:th vs t=.undef:=by simp[th,List.getD,qp (Nat.le_of_not_lt ht)]
  have h2:(args++Array.replicate (nt-args.size) undef).getD t undef=undef:=by simp only[Array.getD_eq_getD_getElem?,Array.getElem?_append,hs,ay ht];rw[Array.getElem?_replicate];split<;>rfl
  rw[h1,h2];rfl
 simp;omega
theorem ajA(au:Ok w0 m):∀ {o q:a_},apart o q=true->(∀id∈o,∃ob,(m.aj id).2=some ob/\ob.fX=true)->(o.map m.σ).Nodup/\ ∀id∈q,id∉o:=by
 intro o
 induction o with
 |nil=>intro q _ _;exact⟨af,fun id _ h=>by simp at h⟩
 |cons i o ih=>
  intro q h hm;simp only[apart,cU,mj] at h;obtain⟨⟨h1,h2⟩,h3⟩:=h;obtain⟨i1,i2⟩:=ih h3 (fun id hid=>hm id (by simp[hid]));have kn:i∉o:=by simpa using h1
  have jH:i∉q:=by simpa using h2
  refine⟨?_,fun id hid=>?_⟩
  .rw[eh,qU];refine⟨fun oz=>?_,i1⟩;obtain⟨j,hj,he⟩:=dh.1 oz;obtain⟨ob,a1,a2⟩:=hm i af;obtain⟨ob',b1,b2⟩:=hm j (by simp[hj]);exact kn (au.inj j i ob' ob b1 b2 a1 a2 he▸hj)
  simp only[cD,not_or];exact⟨fun e=>jH (e▸hid),i2 id hid⟩
theorem art{aj:aB}:∀ {cs:f_} {rs:n_} {o q:a_},nG aj cs=some (rs,o,q)->rs.length=cs.length:=by
 intro cs
 induction cs with
 |nil=>intro rs o q h;simp only[nG,gh,lR] at h;obtain⟨rfl,_,_⟩:=h;rfl
 |cons c cs ih=>
  intro rs o q h;simp only[nG] at h;split at h
  .rename_i x o1 q1 xs os qs h1 h2;cases h;simp[ih h2]
  cases h
theorem aaH{α β:Type}{f:α->Option (β×a_)}:∀ {xs:List α} {ys:List β} {r:a_},collect f xs=some (ys,r)->∀id∈r,∃x y q,f x=some (y,q)/\id∈q:=by
 intro xs
 induction xs with
 |nil=>intro ys r h id hid;simp[collect] at h;rw[h.2] at hid;simp at hid
 |cons x xs ih=>
  intro ys r h id hid;simp only[collect] at h;split at h
  .rename_i b p bs q e1 e2;cases h;rcases eK.1 hid with hid|hid
   .exact⟨x,b,p,e1,hid⟩
   exact ih e2 id hid
  cases h
theorem auB{aj:aB}:∀ {n:Nat} {c:C} {x:PV} {r:a_},snap aj n c=some (x,r)->∀id∈r,∃ob,(aj id).2=some ob:=by
 intro n
 induction n with
 |zero=>intro c x r h;simp[snap] at h
 |succ n ih=>
  intro c x r h id hid;have one:∀ {i:Nat} {ob:Ob} {g:Nat},aj i=(g,some ob)->id∈[i]->∃ob,(aj id).2=some ob:=by intro i ob g hb hi;simp at hi;subst hi;exact⟨ob,by rw[hb]⟩
  have coll:∀ {cs:f_} {ps:b_} {r:a_},collect (snap aj n) cs=some (ps,r)->id∈r->∃ob,(aj id).2=some ob:=by intro cs ps r h hi;obtain⟨x,y,q,h1,h2⟩:=aaH h id hi;exact ih h1 id h2
  unfold snap at h;split at h
  .cases h;simp at hid
  .split at h
   .rename_i hb;split at h
    .split at h
     .rename_i hc;cases h;rcases cD.1 hid with e|hid
      .exact one hb (by simp[e])
      exact coll hc hid
     cases h
    cases h
   .rename_i hb;split at h
    .cases h;exact one hb hid
    cases h
   cases h
  .split at h
   .rename_i hb;split at h
    .simp only[dS] at h;obtain⟨e,_,h2⟩:=h;cases h2;exact one hb hid
    cases h
   .rename_i hb;split at h
    .simp only[dS] at h;obtain⟨e,_,h2⟩:=h;cases h2;exact one hb hid
    cases h
   cases h
  .split at h
   .rename_i hb;split at h
    .cases h;exact one hb hid
    cases h
   .rename_i hb;split at h
    .cases h;exact one hb hid
    cases h
   .rename_i hb;split at h
    .split at h
     .rename_i hc;cases h;rcases cD.1 hid with e|hid
      .exact one hb (by simp[e])
      obtain⟨x,y,q,h1,h2⟩:=aaH hc id hid;exact coll h1 h2
     cases h
    cases h
   cases h
  .split at h
   .rename_i hb;split at h
    .cases h;exact one hb hid
    cases h
   .rename_i hb;split at h
    .cases h;exact one hb hid
    cases h
   cases h
  split at h
  .rename_i h1 h2;cases h;rcases eK.1 hid with hid|hid
   .exact coll h1 hid
   exact coll h2 hid
  cases h
theorem aru{aj:aB}:∀ {cs:f_} {rs:n_} {o q:a_},nG aj cs=some (rs,o,q)->∀id∈q,∃ob,(aj id).2=some ob:=by
 intro cs
 induction cs with
 |nil=>intro rs o q h id hid;simp only[nG,gh,lR] at h;rw[<- h.2.2] at hid;simp at hid
 |cons c cs ih=>
  intro rs o q h id hid;simp only[nG] at h;split at h
  .rename_i x o1 q1 xs os qs h1 h2;cases h;rcases eK.1 hid with hid|hid
   .have sn:(snap aj fE c).map (fun(v,r)=>((.p v:RC),([]:a_),r))=some (x,o1,q1)->∃ob,(aj id).2=some ob:=by
     intro h1;simp only[dS] at h1;obtain⟨⟨y,r⟩,h3,h4⟩:=h1;cases h4;exact auB h3 id hid
    unfold jM at h1;split at h1
    .cases h1;simp at hid
    .split at h1
     .split at h1
      .cases h1;simp at hid
      cases h1
     exact sn h1
    exact sn h1
   exact ih h2 id hid
  cases h
theorem arw{w:World}{O:Nat->Prop}{m0:Mem}(au:Ok w m)(eD:Ev m0 m)(pY:m0.w=w)(WV:∀c,¬m0.fX c)(l7:m.fr=O){v:V}{r:RV}{val:Value}(h:jd m.aj v=some r)(hr:ch m v val):vY w O r (.returned val) m.w:=by
 unfold jd at h;split at h
 .rename_i cs dB;split at h
  .rename_i rs o q ho;split at h
   .rename_i oZ;cases h;obtain⟨vs,hc,jI⟩:=amZ dB hr;obtain⟨g1,g2⟩:=jI rs (art ho);have hm:=(agF au (Q:=fun _=>False) (fun _ h=>h.elim) ho hc (fun _ _ h=>h)).2;obtain⟨iw,an9⟩:=ajA au oZ hm;have adK:∀b,(O b\/b∈o.map m.σ)->m.own b:=by
     intro b hb;rcases hb with hb|hb
     .exact .inl (l7▸hb)
     obtain⟨id,hid,rfl⟩:=dh.1 hb;obtain⟨ob,h1,h2⟩:=hm id hid;exact .inr ⟨id,ob,h1,h2,rfl⟩
    have hq:∀id∈q,¬(O (m.σ id)\/m.σ id∈o.map m.σ):=by
     intro id hid hn;obtain⟨ob,hob⟩:=aru ho id hid;by_cases Ay:ob.fX=true
     .rcases hn with hn|hn
      .exact(au.ie id ob hob Ay).2 (l7▸hn)
      obtain⟨j,hj,he⟩:=dh.1 hn;obtain⟨ob',b1,b2⟩:=hm j hj;exact an9 id hid (au.inj j id ob' ob b1 b2 hob Ay he▸hj)
     have dM:¬m.own (m.σ id):=by
      have BJ:=au.obj id ob hob;cases ob<;>simp[Ob.fX] at Ay
      .obtain⟨_,_,_,_,_,dM⟩:=BJ;exact dM
      .obtain⟨_,_,_,_,_,_,_,_,_,dM⟩:=BJ;exact dM
      obtain⟨_,_,_,_,_,dM⟩:=BJ;exact dM
     exact dM (adK _ hn)
    obtain⟨uG,_⟩:=agF au adK ho hc hq;subst pY;refine⟨val,o.map m.σ,rfl,⟨eD.os,eD.tape,eD.output,eD.size,fun c hc=>eD.keep c hc (WV c)⟩,iw,fun c hc=>?_,vs,g2,by rw[g1];exact uG⟩;obtain⟨id,hid,rfl⟩:=dh.1 hc;obtain⟨ob,h1,h2⟩:=hm id hid;exact⟨(au.ie id ob h1 h2).1,(au.obj id ob h1).lt⟩
   cases h
  cases h
 cases h
theorem tB.vrel{w:World}{O:Nat->Prop}(hw:m.w=w)(ho:m.own=O){x:V}{v:Value}(h:tB w O x v):ch m x v:=by
 subst hw ho;cases x with
 |undef=>exact h.elim
 |tup _=>exact h.elim
 |one c=>
  cases c with
  |p x=>exact nE h
  |_=>exact h.elim
 |agg cs=>obtain⟨arr,ps,rfl,rfl,hp⟩:=h;exact ch.agg.2 ⟨arr,rfl,hp.Eb⟩
theorem atl{sh:Ctx}{cp:gC}{cs:ke}{n:Nat}{fn:bd}{args:e_}{aj ao:aB}{v:V}(h:sD sh cp cs n fn args aj=some (v,ao)):
  ∃e ak vs,exec sh cp cs n fn.body (th args) aj=some (e,ak,ao)/\(e=.normal\/e=.ret)/\qm sh.al ak ao fn.results=some vs/\v=A6 vs:=by
 unfold sD at h;split at h
 .rename_i ak b hx;simp only[dS] at h;obtain⟨vs,h1,h2⟩:=h;cases h2;exact⟨_,ak,vs,hx,.inl rfl,h1,rfl⟩
 .rename_i ak b hx;simp only[dS] at h;obtain⟨vs,h1,h2⟩:=h;cases h2;exact⟨_,ak,vs,hx,.inr rfl,h1,rfl⟩
 cases h
theorem ahx{G:World->Prop}(hG:Good G w0){cp:gC}{cs:ke}(hP:Eu P G cp)(hS:Gm P G cs)(hL:Bh cs)(Ar:P.follows .mixedOrders=true){sh:Ctx}{n f:Nat}{fn:bd}(hc:CX P f=some fn){vs:e_}{m:Mem}{v:V}{ao:aB}{args:Array Value}(h:sD sh cp cs n fn vs m.aj=some (v,ao))
  (hl:vs.length<=fn.ntmps) (au:Ok w0 m) (ha:Pw (ch m) vs args.toList):Calls P f args m.w (IM w0 m v ao):=by
 obtain⟨kf,c,h1,h2,h3,h4,h5,h6⟩:=aaJ hc;obtain⟨e,ak,rs,hx,he,BK,rfl⟩:=atl h;refine calls_of_wp h1 h2 ?_;obtain⟨s1,s2⟩:=auQ (nt:=kf.ntmps) ha (by rw[<- h6];exact hl);refine amC hG hP hS hL Ar c h4 hx au s1 s2 ?_;intro a' m' k1 k2 k3 k4 k5 k6 k7;subst k4;obtain⟨y,g1,g2⟩:=as3 k1 k5 h5 BK;have:bodyPost P kf (IM w0 m (A6 rs) m'.aj) .normal a' m'.w:=⟨k7,y,g1,y,m',rfl,rfl,k1,k2,k3,rfl,g2⟩;rcases he with rfl|rfl
 .exact this
 exact this
theorem enters_of{f:Nat}{fn:bd}(hc:CX P f=some fn):Enters P f:=by obtain⟨kf,c,h1,h2,h3,_⟩:=aaJ hc;exact⟨kf,c,h1,h2,h3⟩
theorem sound{S:Sys}{G:World->Prop}(h:IQ S G):∀n,Eu S.P G (ij S n)/\Gm S.P G (ik S n)/\Bh (ik S n):=by
 intro n
 induction n with
 |zero=>exact⟨fun f vs r h=>by simp[ij] at h,fun f vs al aj v ao h=>by simp[ik] at h,fun f vs al aj v ao h=>by simp[ik] at h⟩
 |succ n ih=>
  obtain⟨hP,hS,hL⟩:=ih;refine⟨?_,?_,?_⟩
  .intro f vs r hc;rw[ij] at hc;split at hc
   .rename_i r' hp;subst hc;exact h.prim f vs r hp
   split at hc
   .rename_i fn hfn;have wC:=h.fns f fn hfn;split at hc
    .rename_i hl;refine⟨enters_of wC,fun w O args hG hO ha=>?_⟩;unfold F0 at hc;split at hc
     .rename_i v ao hr
      let m0:Mem:=⟨w,AT,fun _=>0,fun _=>0,O⟩
      have aoT:m0.own=O:=by
       funext c;apply propext;constructor
       .rintro (h|⟨id,o,h,_⟩)
        .exact h
        cases h
       exact .inl
      have au:Ok w m0:=⟨rfl,rfl,rfl,bR _,fun _ _=>rfl,(fun id o h=>by cases h),(fun id o h=>by cases h),hO,(fun id fh o o' h=>by cases h)⟩;have hav:Pw (ch m0) vs args.toList:=⟨ha.1,fun j x u p q=>(ha.2 j x u p q).vrel rfl aoT⟩;refine(ahx hG hP hS hL h.follow wC (m:=m0) hr hl au hav).mono ?_;rintro e w' ⟨val,m',rfl,rfl,q1,q2,q3,q4,q5⟩
      subst q4;exact arw (m0:=m0) q1 q2 rfl (fun c ⟨id,o,h,_⟩=>by cases h) q3 hc q5
     cases hc
    cases hc
   cases hc
  .intro f vs al aj v ao hc;rw[ik] at hc;by_cases ht:S.trig f vs=true
   .rw[aD ht] at hc;exact(h.primS f vs al aj v ao ht hc).1
   rw[ay ht] at hc;split at hc
   .rename_i fn hfn;have wC:=h.fns f fn hfn;split at hc
    .rename_i hl;refine⟨enters_of wC,fun w0 m args hG au hb ha=>?_⟩;subst hb;exact ahx hG hP hS hL h.follow wC hc hl au ha
    cases hc
   cases hc
  intro f vs al aj v ao hc;rw[ik] at hc;by_cases ht:S.trig f vs=true
  .rw[aD ht] at hc;obtain⟨_,l1,l2⟩:=h.primS f vs al aj v ao ht hc;refine⟨l1,fun bh h2=>?_⟩;obtain⟨b3,h3,h4⟩:=l2 bh h2;exact⟨b3,by rw[ik,aD ht];exact h3,h4⟩
  rw[ay ht] at hc;split at hc
  .rename_i fn hfn;split at hc
   .rename_i hl;obtain⟨l1,l2⟩:=atk hL hc;refine⟨l1,fun bh h2=>?_⟩;obtain⟨b3,h3,h4⟩:=l2 bh h2;exact⟨b3,by rw[ik,ay ht];simp only[hfn,hl,if_true];exact h3,h4⟩
   cases hc
  cases hc
theorem aK.calls{S:Sys}{G:World->Prop}(h:IQ S G){f:Nat}{vs:e_}{r:RV}(hc:aK S f vs r)(w:World)(hG:Good G w)(args:Array Value)(ha:Pw (tB w fun _=>False) vs args.toList):Calls S.P f args w (vY w (fun _=>False) r):=by obtain⟨n,hn⟩:=hc;exact((sound h n).1 f vs r hn).2 w _ args hG (fun c h=>h.elim) ha
end
end Go.Abs
namespace Go.Abs
section
variable{args:e_}{sh:Ctx}{cs:ke}{cp:gC}
def De(op:BinOp)(a b:Nat)(other:Option V):Option V:=
 match op with
 | .add=>bif Nat.ble (Nat.add a b) 9223372036854775807 then some (.one (.p (.int .i64 (.ofNat (Nat.add a b))))) else other
 | .sub=>bif Nat.ble b a then bif Nat.ble a 9223372036854775807 then some (.one (.p (.int .i64 (.ofNat (Nat.sub a b))))) else other else other
 | .mul=>bif Nat.ble (Nat.mul a b) 9223372036854775807 then some (.one (.p (.int .i64 (.ofNat (Nat.mul a b))))) else other
 | .eql=>some (.one (.p (.bool (Nat.beq a b))))
 | .neq=>some (.one (.p (.bool (!Nat.beq a b))))
 | .lss=>some (.one (.p (.bool (Nat.ble (Nat.succ a) b))))
 | .leq=>some (.one (.p (.bool (Nat.ble a b))))
 | .gtr=>some (.one (.p (.bool (Nat.ble (Nat.succ b) a))))
 | .geq=>some (.one (.p (.bool (Nat.ble b a))))
 | .rem=>bif Nat.beq b 0 then other else some (.one (.p (.int .i64 (.ofNat (Nat.mod a b)))))
 |_=>other
def Tt(op:BinOp)(x y:V):Option V:=
 match x,y with
 | .one (.p (.int .i64 (.ofNat a))),.one (.p (.int .i64 (.ofNat b)))=>De op a b (rT op x y)
 |_,_=>rT op x y
theorem OW{n:Nat}(h:n<=9223372036854775807):IntKind.i64.wrap (n:Int)=n:=by have e:(2 ^ IntKind.i64.bits:Int)=18446744073709551616:=ae;have e2:(2 ^ (IntKind.i64.bits-1):Int)=9223372036854775808:=ae;unfold IntKind.wrap;simp only[e,e2];have h1:(n:Int)%18446744073709551616=n:=aa;rw[h1];have h2:¬(n:Int)≥9223372036854775808:=aa;simp[h2]
theorem amO(op:BinOp)(a b:Nat):De op a b (rT op (.one (.p (.int .i64 (.ofNat a)))) (.one (.p (.int .i64 (.ofNat b)))))=rT op (.one (.p (.int .i64 (.ofNat a)))) (.one (.p (.int .i64 (.ofNat b)))):=by
 have hb:∀ {x:Bool} {u v w:Option V},(x=true->u=w)->v=w->(bif x then u else v)=w:=by
  intro x u v w h1 h2;cases x with
  |false=>exact h2
  |true=>exact h1 rfl
 have ofn:∀n:Nat,(Int.ofNat n:Int)=(n:Int):=fun _=>rfl;have ble:∀ {a b:Nat},Nat.ble a b=decide ((a:Int)<=(b:Int)):=by
  intro a b;cases h:Nat.ble a b with
  |true=>have:=iA h;symm;simp;omega
  |false=>
   symm;simp;have:¬a<=b:=fun hh=>by rw[Nat.ble_eq_true_of_le hh] at h;cases h
   omega
 have beq:∀ {a b:Nat},Nat.beq a b=((a:Int)==(b:Int)):=by
  intro a b;by_cases h:a=b
  .subst h;simp
  have h1:Nat.beq a b=false:=by
   cases e:Nat.beq a b with
   |false=>rfl
   |true=>exact(h (xm e)).elim
  rw[h1];symm;simp;omega
 cases op
 case add=>refine hb (fun h=>?_) rfl;have h:a+b<=9223372036854775807:=iA h;have:((a:Int)+(b:Int))=((a+b:Nat):Int):=aa;simp only[rT,uj,true_or,if_true,nQ,ofn];rw[this,OW h];rfl
 case sub=>refine hb (fun h0=>hb (fun h=>?_) rfl) rfl;have h:=iA h;have h0:=iA h0;have:((a:Int)-(b:Int))=((a-b:Nat):Int):=aa;simp only[rT,uj,true_or,if_true,nQ,ofn];rw[this,OW aa];rfl
 case mul=>refine hb (fun h=>?_) rfl;have h:a*b<=9223372036854775807:=iA h;have:((a:Int)*(b:Int))=((a*b:Nat):Int):=af;simp only[rT,uj,true_or,if_true,nQ,ofn];rw[this,OW h];rfl
 case rem=>
  by_cases h0:b=0
  .subst h0;rfl
  have h1:Nat.beq b 0=false:=by
   cases e:Nat.beq b 0 with
   |false=>rfl
   |true=>exact(h0 (xm e)).elim
  have h2:¬(b:Int)=0:=aa;simp only[De,h1,cond_false,rT,uj,true_or,if_true,nQ,ofn,ay h2];rfl
 case eql=>simp only[De,rT,uj,true_or,if_true,nQ,ofn,beq]
 case neq=>simp only[De,rT,uj,true_or,if_true,nQ,ofn,beq];rfl
 case lss=>simp only[De,rT,uj,true_or,if_true,nQ,ofn,ble];congr 4
 case leq=>simp only[De,rT,uj,true_or,if_true,nQ,ofn,ble]
 case gtr=>simp only[De,rT,uj,true_or,if_true,nQ,ofn,ble];congr 4
 case geq=>simp only[De,rT,uj,true_or,if_true,nQ,ofn,ble]
 all_goals rfl
theorem akx(op:BinOp)(x y:V):Tt op x y=rT op x y:=by
 unfold Tt;split
 .exact amO _ _ _
 rfl
def CK(v:V):w_:=
 match v with
 | .one (.p (.int _ (.ofNat n)))=>some n
 |v=>qx v
theorem ZZ(v:V):CK v=qx v:=by
 unfold CK;split
 .simp[qx]
 rfl
def Jg(ak:Env)(d:Nat):Option aS->w_
 |none=>some d
 |some a=>CK (ev ak a)
theorem aky(ak:Env)(d:Nat)(a:Option aS):Jg ak d a=sH ak d a:=by
 cases a with
 |none=>rfl
 |some a=>simp only[Jg,sH,ZZ]
def asi(ak:Env)(x:aS):fH:=.done (ev ak x) [] []
def asn(ak:Env)(c:aS)(a:aS)(b:aS):fH:=match ev ak c with
  | .one (.p (.bool t))=>.done (if t then ev ak a else ev ak b) [] []
  |_=>.fail
def arV(aj:aB)(s:Nat)(z:b_):fH:=.done (.one (.aZ s ((aj s).1+1) 0)) [(s,((aj s).1+1,some (.var (z.map .p))))] [s]
def arY(ak:Env)(aj:aB)(s:Nat)(x:aS):fH:=match sI (ev ak x) with
  |some cs=>.done (.one (.aZ s ((aj s).1+1) 0)) [(s,((aj s).1+1,some (.var cs)))] [s]
  |none=>.fail
def ar1(ak:Env)(z:b_)(ps:List (Nat×Nat×aS)):fH:=match zo ak ps with
  |some q=>.done (.agg (fill (z.map .p) q)) [] []
  |none=>.fail
def arZ(ak:Env)(aj:aB)(s:Nat)(ty:Nat)(sz:Nat)(ps:o_):fH:=match Ab ak sz ps with
  |some es=>match Cr es with
   |some qs=>.done (.one (.hsl s ((aj s).1+1) sz 0 es.length)) [(s,((aj s).1+1,some (.arr ty sz qs)))] [s]
   |none=>.done (.one (.hsl s ((aj s).1+1) sz 0 es.length)) [(s,((aj s).1+1,some (.ju ty sz es)))] [s]
  |none=>.fail
def asb(ak:Env)(aj:aB)(k:w_)(x:aS):fH:=match Cj aj (ev ak x) with
  |some (cs,r)=>match qS k cs with
   |some v=>.done v [] r
   |none=>.fail
  |none=>.fail
def asq(ak:Env)(aj:aB)(n:Nat)(a:aS)(x:aS):fH:=match sI (ev ak x) with
  |some xs=>A8 aj (ev ak a) n xs
  |none=>.fail
def asl(ak:Env)(x:aS):fH:=match ev ak x with
  | .one (.aZ id g o)=>.done (.one (.aZ id g o)) [] []
  | .one (.dI id g i o)=>.done (.one (.dI id g i o)) [] []
  | .one (.p (.box cs))=>.done (.one (.p (.box cs))) [] []
  | .one (.hfn f a b)=>.done (.one (.hfn f a b)) [] []
  | .one (.p (.fn f a b))=>.done (.one (.p (.fn f a b))) [] []
  |_=>.fail
def agX(ak:Env)(op:BinOp)(x:aS)(y:aS):fH:=match Tt op (ev ak x) (ev ak y) with
  |some v=>.done v [] []
  |none=>.fail
def ar6(ak:Env)(k:vV)(neg:Bool)(x:aS)(y:aS):fH:=match Db k (ev ak x) (ev ak y) with
  |some b=>.done (.one (.p (.bool (if neg then !b else b)))) [] []
  |none=>.fail
def asr(ak:Env)(op:UnOp)(x:aS):fH:=match op,ev ak x with
  | .not,.one (.p (.bool b))=>.done (.one (.p (.bool (!b)))) [] []
  | .neg,.one (.p (.int k n))=>.done (.one (.p (.int k (k.wrap (0-n))))) [] []
  |_,_=>.fail
def ar4(ak:Env)(k:IntKind)(x:aS):fH:=match ev ak x with
  | .one (.p (.int _ n))=>.done (.one (.p (.int k (k.wrap n)))) [] []
  |_=>.fail
def ar0(ak:Env)(aj:aB)(x:aS):fH:=match fU aj (ev ak x) with
  |some (es,r,[])=>match bytesOf es with
   |some bs=>.done (.one (.p (.str ⟨bs.toArray⟩))) [] r
   |none=>.fail
  |_=>.fail
def asf(ak:Env)(f:Nat)(a:o_)(b:o_):fH:=match wV ak a,wV ak b with
  |some x,some y=>.done (.one (.hfn f x y)) [] []
  |_,_=>.fail
def asg(aj:aB)(s:Nat)(ag:Bool):fH:=.done (.one (.kU s ((aj s).1+1))) [(s,((aj s).1+1,some (.map ag [])))] [s]
def agZ(ak:Env)(aj:aB)(s:Nat)(ty:Nat)(sz:Nat)(bytes:Nat)(z:b_)(l:aS)(c:aS):fH:=match CK (ev ak l),CK (ev ak c) with
  |some n,some m=>if n=m/\n*bytes<=room then
    .done (.one (.hsl s ((aj s).1+1) sz 0 n)) [(s,((aj s).1+1,some (.arr ty sz (List.replicate n z))))] [s]
   else .fail
  |_,_=>.fail
def ag1(ak:Env)(sz:Nat)(x:aS)(lo:Option aS)(hi:Option aS):fH:=match zi (ev ak x) with
  |some n=>match Jg ak 0 lo,Jg ak n hi with
   |some l,some h=>DU (ev ak x) sz l h
   |_,_=>.fail
  |none=>.fail
def ag2(ak:Env)(x:aS)(lo:Option aS)(hi:Option aS):fH:=match ev ak x with
  | .one (.p (.str s))=>match Jg ak 0 lo,Jg ak s.size hi with
   |some l,some h=>if l<=h/\h<=s.size then .done (.one (.p (.str (s.extract l h)))) [] [] else .fail
   |_,_=>.fail
  |_=>.fail
def ar8(ak:Env)(off:Nat)(x:aS):fH:=match ev ak x with
  | .one (.aZ id g o)=>.done (.one (.aZ id g (o+off))) [] []
  | .one (.dI id g i o)=>.done (.one (.dI id g i (o+off))) [] []
  | .one (.p (.box cs))=>.done (.one (.p (.box (cs.drop off)))) [] []
  |_=>.fail
def agY(ak:Env)(sz:Nat)(x:aS)(i:aS):fH:=match CK (ev ak i),ev ak x with
  |some n,.one (.p (.sl es))=>match es[n]? with
   |some e=>if e.length=sz then .done (.one (.p (.box e))) [] [] else .fail
   |none=>.fail
  |some n,.one (.hsl id g z off len)=>if n<len/\z=sz then .done (.one (.dI id g (off+n) 0)) [] [] else .fail
  |_,_=>.fail
def agV(ak:Env)(len:Nat)(sz:Nat)(x:aS)(i:aS):fH:=match CK (ev ak i),ev ak x with
  |some n,.one (.aZ id g o)=>if n<len then .done (.one (.aZ id g (o+n*sz))) [] [] else .fail
  |some n,.one (.dI id g j o)=>if n<len then .done (.one (.dI id g j (o+n*sz))) [] [] else .fail
  |some n,.one (.p (.box cs))=>if n<len then .done (.one (.p (.box (cs.drop (n*sz))))) [] [] else .fail
  |_,_=>.fail
def ar9(ak:Env)(off:Nat)(k:w_)(x:aS):fH:=match ev ak x with
  | .agg cs=>match qS k (cs.drop off) with
   |some v=>.done v [] []
   |none=>.fail
  |_=>.fail
def agW(ak:Env)(len:Nat)(sz:Nat)(k:w_)(x:aS)(i:aS):fH:=match CK (ev ak i),ev ak x with
  |some n,.agg cs=>if n<len then
    match qS k (cs.drop (n*sz)) with
    |some v=>.done v [] []
    |none=>.fail
   else .fail
  |_,_=>.fail
def ag0(ak:Env)(x:aS)(i:aS):fH:=match CK (ev ak i),ev ak x with
  |some n,.one (.p (.str s))=>match s[n]? with
   |some b=>.done (.one (.p (.int .u8 b.toNat))) [] []
   |none=>.fail
  |_,_=>.fail
def asc(ak:Env)(aj:aB)(kd:Nat)(z:b_)(agg:Bool)(ok:Bool)(x:aS)(k:aS):fH:=match mapOf aj agg (ev ak x),ev ak k with
  |some (es,r),.one (.p q)=>if iZ q≠kd then .fail else match qC q es 0 with
   |some f=>match mapVal agg ((f.map (·.2)).getD z) with
    |some w=>.done (if ok then .tup [w,.one (.p (.bool f.isSome))] else w) [] r
    |none=>.fail
   |none=>.fail
  |_,_=>.fail
def arX:fH:=.fail
def asj(ak:Env)(aj:aB)(kd:Nat)(ag:Bool)(m:aS)(k:aS)(v:aS):fH:=match ev ak m,ev ak k,yy ag (ev ak v) with
  | .one (.kU id g),.one (.p q),some cs=>match aj id,Cp cs with
   |(g',some (.map sG es)),some ps=>if g'=g/\sG=ag/\iZ q=kd then
     match qC q es 0 with
     |some (some (i,_))=>.done .undef [(id,(g,some (.map ag (es.set i (q,ps)))))] [id]
     |some none=>.done .undef [(id,(g,some (.map ag (es++[(q,ps)]))))] [id]
     |none=>.fail
    else .fail
   |_,_=>.fail
  |_,_,_=>.fail
def ar7(ak:Env)(x:aS)(i:Nat):fH:=match ev ak x with
  | .tup vs=>match vs[i]? with
   |some v=>.done v [] []
   |none=>.fail
  |_=>.fail
def ar2(shared:Nat->Bool)(ak:Env)(aj:aB)(s:Nat)(f:aS)(as:o_):fH:=match ET ak f with
  |some (g,a,b)=>
   if shared g then .sc g (a.map .one++as.map (ev ak)++b.map .one)
   else match Cn aj (a.map .one++as.map (ev ak)++b.map .one) with
    |some (vs,r)=>.pc g vs r s
    |none=>.fail
  |none=>.fail
def asp(ak:Env)(x:aS):fH:=match ev ak x with
  | .one (.p (.str s))=>.done (.one (.p (.int .i64 s.size))) [] []
  |_=>.fail
def asa(ak:Env)(x:aS):fH:=match zi (ev ak x) with
  |some n=>.done (.one (.p (.int .i64 n))) [] []
  |none=>.fail
def ash(ak:Env)(aj:aB)(x:aS):fH:=match AR aj (ev ak x) with
  |some (n,r)=>.done (.one (.p (.int .i64 n))) [] r
  |none=>.fail
def arW(ak:Env)(aj:aB)(s:Nat)(ty:Nat)(sz:Nat)(bytes:Nat)(d:aS)(x:aS):fH:=gI aj s ty sz bytes (ev ak d) (ev ak x)
def asd(ak:Env)(x:aS)(y:aS):fH:=match ev ak x,ev ak y with
  | .one (.p (.int k a)),.one (.p (.int _ b))=>.done (.one (.p (.int k (if b>a then b else a)))) [] []
  |_,_=>.fail
def ase(ak:Env)(x:aS)(y:aS):fH:=match ev ak x,ev ak y with
  | .one (.p (.int k a)),.one (.p (.int _ b))=>.done (.one (.p (.int k (if b<a then b else a)))) [] []
  |_,_=>.fail
def ar3(ak:Env)(aj:aB)(z:b_)(x:aS):fH:=match ev ak x with
  | .one (.p .nils)=>.done (.tup []) [] []
  | .one (.p (.sl []))=>.done (.tup []) [] []
  | .one (.hsl id g _ off len)=>if len=0 then .done (.tup []) [] [] else match aj id with
   |(g',some (.arr ty sz es))=>if g'=g/\sz=z.length/\off+len<=es.length then .done (.tup []) [(id,(g,some (.arr ty sz (eZ es off (List.replicate len z)))))] [id] else .fail
   |_=>.fail
  |_=>.fail
def Yk(shared:Nat->Bool)(ak:Env)(aj:aB):oQ->fH
 | .zn x=>asi ak x
 | .pick c a b=>asn ak c a b
 | .alloc s z=>arV aj s z
 | .box s x=>arY ak aj s x
 | .build z ps=>ar1 ak z ps
 | .Ey s ty sz ps=>arZ ak aj s ty sz ps
 | .load k x=>asb ak aj k x
 | .store n a x=>asq ak aj n a x
 | .KN x=>asl ak x
 | .bin op x y=>agX ak op x y
 | .eqc k neg x y=>ar6 ak k neg x y
 | .un op x=>asr ak op x
 | .conv k x=>ar4 ak k x
 | .bstr x=>ar0 ak aj x
 | .mkfn f a b=>asf ak f a b
 | .mkmap s ag=>asg aj s ag
 | .KG s ty sz bytes z l c=>agZ ak aj s ty sz bytes z l c
 | .slice sz x lo hi=>ag1 ak sz x lo hi
 | .sslice x lo hi=>ag2 ak x lo hi
 | .GS off x=>ar8 ak off x
 | .HL sz x i=>agY ak sz x i
 | .IT len sz x i=>agV ak len sz x i
 | .fld off k x=>ar9 ak off k x
 | .aidx len sz k x i=>agW ak len sz k x i
 | .sidx x i=>ag0 ak x i
 | .lookup kd z agg ok x k=>asc ak aj kd z agg ok x k
 | .bad=>arX
 | .mupd kd ag m k v=>asj ak aj kd ag m k v
 | .extract x i=>ar7 ak x i
 | .call s f as=>ar2 shared ak aj s f as
 | .slen x=>asp ak x
 | .KD x=>asa ak x
 | .mlen x=>ash ak aj x
 | .append s ty sz bytes d x=>arW ak aj s ty sz bytes d x
 | .max x y=>asd ak x y
 | .min x y=>ase ak x y
 | .clear z x=>ar3 ak aj z x
theorem arU(shared:Nat->Bool)(ak:Env)(aj:aB)(o:oQ):Yk shared ak aj o=bK shared ak aj o:=by
 cases o<;>first
  |rfl
  |simp only[Yk,bK,agX,agZ,ag1,ag2,agY,agV,agW,ag0,akx,ZZ,aky]<;>rfl
inductive Tr where
 |leaf
 |node (v:V) (l r:Tr)
noncomputable def Tr.get (t:Tr):Nat->V:=Tr.rec (motive:=fun _=>Nat->V) (fun _=>.undef) (fun v _ _ gl gr n=>bif Nat.beq n 0 then v else bif Nat.beq (Nat.mod n 2) 1 then gl (Nat.div n 2) else gr (Nat.sub (Nat.div n 2) 1)) t
noncomputable def Tr.single (k:Nat):Nat->V->Tr:=Nat.rec (motive:=fun _=>Nat->V->Tr) (fun _ _=>.leaf) (fun _ ih n x=>bif Nat.beq n 0 then .node x .leaf .leaf else bif Nat.beq (Nat.mod n 2) 1 then .node .undef (ih (Nat.div n 2) x) .leaf else .node .undef .leaf (ih (Nat.sub (Nat.div n 2) 1) x)) k
noncomputable def Tr.set (t:Tr):Nat->V->Tr:=Tr.rec (motive:=fun _=>Nat->V->Tr) (fun n x=>Tr.single 12 n x) (fun v l r sl sr n x=>bif Nat.beq n 0 then .node x l r else bif Nat.beq (Nat.mod n 2) 1 then .node v (sl (Nat.div n 2) x) r else .node v l (sr (Nat.sub (Nat.div n 2) 1) x)) t
theorem FR{a b:Nat}(h:a≠b):Nat.beq a b=false:=by
 cases e:Nat.beq a b with
 |false=>rfl
 |true=>exact(h (xm e)).elim
theorem anE(n:Nat):Tr.leaf.get n=.undef:=rfl
theorem Qf(v:V)(l r:Tr)(n:Nat):(Tr.node v l r).get n=if n=0 then v else if n%2=1 then l.get (n/2) else r.get (n/2-1):=by
 show(bif Nat.beq n 0 then v else bif Nat.beq (n%2) 1 then l.get (n/2) else r.get (n/2-1))=_;by_cases h0:n=0
 .subst h0;rfl
 rw[FR h0,ay h0];by_cases h1:n%2=1
 .rw[h1];rfl
 rw[FR h1,ay h1];rfl
theorem ah9(f:Tr->Tr)(g:Tr->Tr)(v:V)(l r:Tr)(n m:Nat)(x:V)(hl:n%2=1->(f l).get (m/2)=if m/2=n/2 then x else l.get (m/2))(hr:n≠0->n%2≠1->(g r).get (m/2-1)=if m/2-1=n/2-1 then x else r.get (m/2-1)):
  (bif Nat.beq n 0 then Tr.node x l r else bif Nat.beq (n%2) 1 then .node v (f l) r else .node v l (g r)).get m=if m=n then x else (Tr.node v l r).get m:=by
 by_cases h0:n=0
 .subst h0;simp only[Nat.beq_refl,cond_true,Qf];by_cases hm:m=0<;>simp[hm]
 rw[FR h0];by_cases h1:n%2=1
 .rw[h1];simp only[cond_false,Nat.beq_refl,cond_true,Qf];by_cases hm:m=0
  .subst hm;rw[aD rfl,ay (fun e=>h0 e.symm),aD rfl]
  rw[ay hm];by_cases mQ:m%2=1
  .rw[aD mQ,hl h1];by_cases he:m=n
   .subst he;simp
   rw[ay he,ay aa,ay hm,aD mQ]
  rw[ay mQ,ay aa,ay hm,ay mQ]
 rw[FR h1];simp only[cond_false,Qf];by_cases hm:m=0
 .subst hm;rw[aD rfl,ay (fun e=>h0 e.symm),aD rfl]
 rw[ay hm];by_cases mQ:m%2=1
 .rw[aD mQ,ay aa,ay hm,aD mQ]
 rw[ay mQ,hr h0 h1];by_cases he:m=n
 .subst he;simp
 rw[ay he,ay aa,ay hm,ay mQ]
theorem aug:∀(k n m:Nat) (x:V),n+1<2 ^ k->(Tr.single k n x).get m=if m=n then x else Tr.leaf.get m:=by
 intro k
 induction k with
 |zero=>intro n m x h;simp at h
 |succ k ih=>
  intro n m x h;have hp:2 ^ (k+1)=2*2 ^ k:=by rw[Nat.pow_succ];omega
  have:=ah9 (fun _=>Tr.single k (n/2) x) (fun _=>Tr.single k (n/2-1) x) .undef .leaf .leaf n m x (fun _=>ih _ _ _ aa) (fun _ _=>ih _ _ _ aa);have e:(Tr.node .undef .leaf .leaf).get m=Tr.leaf.get m:=by rw[Qf];simp[anE]
  rw[e] at this;exact this
theorem Tr.adD:∀(t:Tr) (n m:Nat) (x:V),n+1<2 ^ 12->(t.set n x).get m=if m=n then x else t.get m:=by
 intro t
 induction t with
 |leaf=>intro n m x h;exact aug 12 n m x h
 |node v l r ihl ihr=>intro n m x h;exact ah9 (fun l=>l.set (n/2) x) (fun r=>r.set (n/2-1) x) v l r n m x (fun _=>ihl _ _ _ aa) (fun _ _=>ihr _ _ _ aa)
abbrev BL:=List (Nat×(Nat×Option Ob))
noncomputable def Di (b:BL) (n:Nat):Nat×Option Ob:=List.rec (motive:=fun _=>Nat×Option Ob) (0,none) (fun p _ ih=>bif Nat.beq p.1 n then p.2 else ih) b
noncomputable def OI:BL->Nat->Nat×Option Ob->BL
 |[],n,x=>[(n,x)]
 |(i,o)::r,n,x=>bif Nat.beq i n then (i,x)::r else (i,o)::OI r n x
theorem anC:∀(b:BL) (n:Nat) (x:Nat×Option Ob) (m:Nat),Di (OI b n x) m=if m=n then x else Di b m:=by
 intro b
 induction b with
 |nil=>
  intro n x m;simp only[OI,Di];by_cases h:m=n
  .subst h;simp
  have:Nat.beq n m=false:=FR fun e=>h e.symm;simp[this,h]
 |cons p b ih=>
  obtain⟨i,o⟩:=p;intro n x m;simp only[OI];by_cases h:i=n
  .subst h;simp only[Nat.beq_refl,cond_true,Di];by_cases hm:m=i
   .subst hm;simp
   have:Nat.beq i m=false:=FR fun e=>hm e.symm;simp[this,hm]
  have:Nat.beq i n=false:=FR h;simp only[this,cond_false,Di];by_cases hm:i=m
  .subst hm;simp[h]
  have:Nat.beq i m=false:=FR hm;simp only[this,cond_false];exact ih n x m
noncomputable def qR (t:Tr):Env:=fun i=>t.get i
noncomputable def lN (b:BL):aB:=fun i=>Di b i
noncomputable def Lk:Nat->e_->Tr->Tr
 |_,[],t=>t
 |i,a::r,t=>Lk (i+1) r (t.set i a)
theorem avp:∀(l:e_) (i:Nat) (t:Tr) (m:Nat),i+l.length<4095->(Lk i l t).get m=if i<=m/\m<i+l.length then l.getD (m-i) .undef else t.get m:=by
 intro l
 induction l with
 |nil=>intro i t m _;simp[Lk];intro h1 h2;omega
 |cons a r ih=>
  intro i t m h;simp only[dC] at h |-;rw[Lk,ih (i+1) _ m aa,Tr.adD t i m a aa];by_cases h1:m=i
  .subst h1;rw[ay aa,aD rfl,aD aa];simp
  rw[ay h1];by_cases h2:i+1<=m/\m<i+1+r.length
  .rw[aD h2,aD aa];obtain⟨k,rfl⟩:∃k,m=i+1+k:=⟨m-(i+1),aa⟩;rw[show i+1+k-(i+1)=k by omega,show i+1+k-i=k+1 by omega];simp
  rw[ay h2,ay aa]
theorem avl(h:args.length<4095):qR (Lk 0 args .leaf)=th args:=by
 funext m;unfold qR th;rw[avp args 0 .leaf m aa];by_cases hm:m<args.length
 .rw[aD aa];rfl
 rw[ay aa];simp[Tr.get,List.getD,qp (Nat.le_of_not_lt hm)]
noncomputable def Zg {α:Type} (n:Nat) (k:Nat->α):α:=match n with
 |0=>k 0
 |m+1=>k (m+1)
noncomputable def Zf {α:Type} (z:Int) (k:Int->α):α:=match z with
 | .ofNat n=>Zg n fun n=>k (.ofNat n)
 | .negSucc n=>Zg n fun n=>k (.negSucc n)
noncomputable def Zh {α:Type} (v:V) (k:V->α):α:=match v with
 | .one (.p (.int t z))=>Zf z fun z=>k (.one (.p (.int t z)))
 | .one (.p (.bool b))=>match b with
  |true=>k (.one (.p (.bool true)))
  |false=>k (.one (.p (.bool false)))
 |v=>k v
@[simp] theorem av9 {α:Type} (n:Nat) (k:Nat->α):Zg n k=k n:=by cases n<;>rfl
@[simp] theorem av8 {α:Type} (z:Int) (k:Int->α):Zf z k=k z:=by cases z<;>simp[Zf]
@[simp] theorem avX {α:Type} (v:V) (k:V->α):Zh v k=k v:=by
 unfold Zh;split
 .simp
 .split<;>rfl
 rfl
def Ri(al:Al)(l:a_):Bool:=bif al.any then true else al.fP l
theorem ari(al:Al)(l:a_):Ri al l=al.fP l:=by
 unfold Ri;cases h:al.any with
 |false=>rfl
 |true=>simp[Al.fP,Al.ok,h]
abbrev qw:=Nat->e_->Al->BL->Option (V×BL)
noncomputable def Gu:k_->BL->BL
 |[],b=>b
 |(i,o)::r,b=>Gu r (OI b i o)
theorem YT:∀(u:k_) (b:BL),lN (Gu u b)=app u (lN b):=by
 intro u
 induction u with
 |nil=>intro b;rfl
 |cons x u ih=>obtain⟨i,o⟩:=x;intro b;simp only[Gu,app];rw[ih];congr 1;funext m;exact anC b i o m
noncomputable def KZ (t:Tr) (d:w_) (v:V) (k:Tr->Option (Tr×BL×cE)):Option (Tr×BL×cE):=match d with
 |none=>k t
 |some n=>bif Nat.ble n 4000 then Zh v fun v=>k (t.set n v) else none
noncomputable def Sv (sh:Ctx) (cp:gC) (cs:qw) (o:bJ) (t:Tr) (b:BL):Option (Tr×BL×cE):=
 match wanted (qR t) o.guard with
 |none=>none
 |some false=>KZ t o.dst .undef fun t'=>some (t',b,⟨[],[],[]⟩)
 |some true=>match Yk sh.shared (qR t) (lN b) o.op with
  | .fail=>none
  | .done v u r=>bif Ri sh.al (r++u.map (·.1)) then KZ t o.dst v fun t'=>some (t',Gu u b,⟨r,u.map (·.1),[]⟩) else none
  | .pc f vs r s=>match cp f vs with
   |some x=>match land (lN b) r s (x.gJ (sh.lone s)) with
    |some (v,u)=>bif Ri sh.al (r++u.map (·.1)) then KZ t o.dst v fun t'=>some (t',Gu u b,⟨r++u.map (·.1),u.map (·.1),[]⟩) else none
    |none=>none
   |none=>none
  | .sc f vs=>match allow sh f vs (lN b) with
   |al=>bif sh.al.holds al then
     match cs f vs al b with
     |some (v,b')=>KZ t o.dst v fun t'=>some (t',b',⟨al.ids,al.ids,al.fs⟩)
     |none=>none
    else none
noncomputable def IP (cs:ke) (cf:qw):Prop:=∀f vs al b v b',cf f vs al b=some (v,b')->cs f vs al (lN b)=some (v,lN b')
theorem RW{t t':Tr}{d:w_}{v:V}{b b':BL}{e e':cE}(h:KZ t d v (fun t'=>some (t',b,e))=some (t',b',e')):put (qR t) d v=qR t'/\b=b'/\e=e':=by
 unfold KZ at h;split at h
 .cases h;exact⟨rfl,rfl,rfl⟩
 rename_i n;cases hn:Nat.ble n 4000 with
 |false=>rw[hn] at h;cases h
 |true=>rw[hn] at h;simp only[cond_true,avX] at h;cases h;refine⟨?_,rfl,rfl⟩;have:=iA hn;funext m;unfold qR put;exact(Tr.adD t n m v aa).symm
theorem auR{cf:qw}(hs:IP cs cf){o:bJ}{t t':Tr}{b b':BL}{e:cE}(h:Sv sh cp cf o t b=some (t',b',e)):step1 sh cp cs o (qR t) (lN b)=some (qR t',lN b',e):=by
 unfold Sv at h;simp only[arU,ari] at h;unfold step1;split at h
 .cases h
 .rename_i hw;rw[hw];obtain⟨h1,rfl,rfl⟩:=RW h;simp only[h1]
 rename_i hw;rw[hw];simp only;split at h
 .cases h
 .rename_i v u r hp;cases au:sh.al.fP (r++u.map (·.1)) with
  |false=>rw[au] at h;cases h
  |true=>rw[au] at h;obtain⟨h1,rfl,rfl⟩:=RW h;simp only[hp,au,if_true,h1,YT]
 .rename_i f vs r s hp;split at h
  .rename_i x hx;split at h
   .rename_i v u hl;cases au:sh.al.fP (r++u.map (·.1)) with
    |false=>rw[au] at h;cases h
    |true=>rw[au] at h;obtain⟨h1,rfl,rfl⟩:=RW h;simp only[hp,hx,hl,au,if_true,h1,YT]
   cases h
  cases h
 rename_i f vs hp;cases au:sh.al.holds (allow sh f vs (lN b)) with
 |false=>rw[au] at h;cases h
 |true=>
  rw[au] at h;simp only[cond_true] at h;split at h
  .rename_i v b1 hc;obtain⟨h1,rfl,rfl⟩:=RW h;simp only[hp,au,if_true,hs _ _ _ _ _ _ hc,h1]
  cases h
noncomputable def auS (sh:Ctx) (cp:gC) (cs:qw) (o:bJ) (ih:Tr->BL->Option (Tr×BL×i_)) (ak:Tr) (aj:BL):Option (Tr×BL×i_):=
 match Sv sh cp cs o ak aj with
 |some (aF,ao,e)=>match ih aF ao with
  |some (Mr,Je,es)=>some (Mr,Je,e::es)
  |none=>none
 |none=>none
noncomputable def Le (sh:Ctx) (cp:gC) (cs:qw) (l:h_):Tr->BL->Option (Tr×BL×i_):=List.rec (motive:=fun _=>Tr->BL->Option (Tr×BL×i_)) (fun ak aj=>some (ak,aj,[])) (fun o _ ih=>auS sh cp cs o ih) l
theorem auU(sh:Ctx)(cp:gC)(cs:qw)(ak:Tr)(aj:BL):Le sh cp cs [] ak aj=some (ak,aj,[]):=rfl
theorem auT(sh:Ctx)(cp:gC)(cs:qw)(o:bJ)(r:h_)(ak:Tr)(aj:BL):Le sh cp cs (o::r) ak aj=match Sv sh cp cs o ak aj with
  |some (aF,ao,e)=>match Le sh cp cs r aF ao with
   |some (Mr,Je,es)=>some (Mr,Je,e::es)
   |none=>none
  |none=>none:=rfl
theorem auV{cf:qw}(hs:IP cs cf):∀ {ops:h_} {t t':Tr} {b b':BL} {es:i_},Le sh cp cf ops t b=some (t',b',es)->steps sh cp cs ops (qR t) (lN b)=some (qR t',lN b',es):=by
 intro ops
 induction ops with
 |nil=>intro t t' b b' es h;simp only[auU,gh,lR] at h;obtain⟨rfl,rfl,rfl⟩:=h;rfl
 |cons o r ih=>
  intro t t' b b' es h;simp only[auT] at h;split at h
  .rename_i t1 b1 e1 h1;split at h
   .rename_i t2 b2 es2 h2;cases h;simp only[steps,auR hs h1,ih h2]
   cases h
  cases h
noncomputable def N8 (f:Tr->BL->Option (mK×Tr×BL)) (n:Nat):Tr->BL->Option (mK×Tr×BL):=
 Nat.rec (motive:=fun _=>Tr->BL->Option (mK×Tr×BL)) (fun _ _=>none) (fun _ ih ak aj=>match f ak aj with
  |some (.normal,aF,ao)=>ih aF ao
  |r=>r) n
theorem apy(f:Tr->BL->Option (mK×Tr×BL))(n:Nat)(ak:Tr)(aj:BL):N8 f (n+1) ak aj=match f ak aj with
  |some (.normal,aF,ao)=>N8 f n aF ao
  |r=>r:=rfl
abbrev Ex:=Tr->BL->Option (mK×Tr×BL)
noncomputable def amr (sh:Ctx) (cp:gC) (cs:qw) (d:Bool) (ops:h_):Ex:=fun ak aj=>match Le sh cp cs ops ak aj with
  |some (aF,ao,es)=>bif d then (bif tZ ops [] es then some (.normal,aF,ao) else none) else some (.normal,aF,ao)
  |none=>none
noncomputable def ams (a b:Ex):Ex:=fun ak aj=>match a ak aj with
  |some (.normal,aF,ao)=>b aF ao
  |r=>r
noncomputable def amq (x:aS) (a b:Ex):Ex:=fun ak aj=>match ev (qR ak) x with
  | .one (.p (.bool t))=>bif t then a ak aj else b ak aj
  |_=>none
noncomputable def amp (id:Nat) (c:Ex):Ex:=fun ak aj=>match c ak aj with
  |some (.exit i,aF,ao)=>bif Nat.beq i id then some (.normal,aF,ao) else some (.exit i,aF,ao)
  |r=>r
noncomputable def uu (sh:Ctx) (cp:gC) (cs:qw) (n:Nat) (c:aN):Ex:=
 aN.rec (motive:=fun _=>Ex) (fun ak aj=>some (.normal,ak,aj)) (fun d ops=>amr sh cp cs d ops) (fun _ _ a b=>ams a b) (fun x _ _ a b=>amq x a b)
  (fun id _ c=>amp id c) (fun _ c=>N8 c n) (fun id ak aj=>some (.exit id,ak,aj)) (fun ak aj=>some (.ret,ak,aj)) (fun _ _=>none) c
section
variable (sh:Ctx) (cp:gC) (cs:qw) (n:Nat) (ak:Tr) (aj:BL)
theorem amA:uu sh cp cs n .skip ak aj=some (.normal,ak,aj):=rfl
theorem amv(id:Nat):uu sh cp cs n (.exit id) ak aj=some (.exit id,ak,aj):=rfl
theorem amy:uu sh cp cs n .ret ak aj=some (.ret,ak,aj):=rfl
theorem amx(d:Bool)(ops:h_):uu sh cp cs n (.region d ops) ak aj=match Le sh cp cs ops ak aj with
  |some (aF,ao,es)=>bif d then (bif tZ ops [] es then some (.normal,aF,ao) else none) else some (.normal,aF,ao)
  |none=>none:=rfl
theorem amz(a b:aN):uu sh cp cs n (.seq a b) ak aj=match uu sh cp cs n a ak aj with
  |some (.normal,aF,ao)=>uu sh cp cs n b aF ao
  |r=>r:=rfl
theorem amu(x:aS)(a b:aN):uu sh cp cs n (.cond x a b) ak aj=match ev (qR ak) x with
  | .one (.p (.bool t))=>bif t then uu sh cp cs n a ak aj else uu sh cp cs n b ak aj
  |_=>none:=rfl
theorem amt(id:Nat)(c:aN):uu sh cp cs n (.block id c) ak aj=match uu sh cp cs n c ak aj with
  |some (.exit i,aF,ao)=>bif Nat.beq i id then some (.normal,aF,ao) else some (.exit i,aF,ao)
  |r=>r:=rfl
theorem amw(c:aN):uu sh cp cs n (.loop c) ak aj=N8 (uu sh cp cs n c) n ak aj:=rfl
end
theorem apx{f:Tr->BL->Option (mK×Tr×BL)}{g:Env->aB->Option (mK×Env×aB)}(hfg:∀t b e t' b',f t b=some (e,t',b')->g (qR t) (lN b)=some (e,qR t',lN b')):
  ∀(n:Nat) {t t':Tr} {b b':BL} {e:mK},N8 f n t b=some (e,t',b')->iter g n (qR t) (lN b)=some (e,qR t',lN b'):=by
 intro n
 induction n with
 |zero=>intro t t' b b' e h;cases h
 |succ n ih=>
  intro t t' b b' e h;simp only[apy] at h;simp only[iter];split at h
  .rename_i t1 b1 h1;rw[hfg _ _ _ _ _ h1];exact ih h
  rename_i aI;rw[hfg _ _ _ _ _ h];cases e with
  |normal=>exact(aI _ _ h).elim
  |exit i=>rfl
  |ret=>rfl
theorem abK{cf:qw}(hs:IP cs cf){n:Nat}:∀(c:aN) {t t':Tr} {b b':BL} {e:mK},uu sh cp cf n c t b=some (e,t',b')->exec sh cp cs n c (qR t) (lN b)=some (e,qR t',lN b'):=by
 intro c
 induction c with
 |skip=>intro t t' b b' e h;simp only[amA,gh,lR] at h;obtain⟨rfl,rfl,rfl⟩:=h;rfl
 |exit id=>intro t t' b b' e h;simp only[amv,gh,lR] at h;obtain⟨rfl,rfl,rfl⟩:=h;rfl
 |ret=>intro t t' b b' e h;simp only[amy,gh,lR] at h;obtain⟨rfl,rfl,rfl⟩:=h;rfl
 |bad=>intro t t' b b' e h;cases h
 |region d ops=>
  intro t t' b b' e h;simp only[amx] at h;simp only[exec];split at h
  .rename_i t1 b1 es h1;rw[auV hs h1];simp only;cases d with
   |false=>simp only[cond_false] at h;cases h;simp
   |true=>
    simp only[cond_true] at h;cases hd:tZ ops [] es with
    |false=>rw[hd] at h;cases h
    |true=>rw[hd] at h;simp only[cond_true] at h;cases h;simp
  cases h
 |seq x y ihx ihy=>
  intro t t' b b' e h;simp only[amz] at h;simp only[exec];split at h
  .rename_i t1 b1 h1;rw[ihx h1];exact ihy h
  rename_i aI;rw[ihx h];cases e with
  |normal=>exact(aI _ _ h).elim
  |exit i=>rfl
  |ret=>rfl
 |cond x p q ihp ihq=>
  intro t t' b b' e h;simp only[amu] at h;simp only[exec];split at h
  .rename_i tt ht;rw[ht];cases tt with
   |true=>simp only[cond_true] at h;simpa using ihp h
   |false=>simp only[cond_false] at h;simpa using ihq h
  cases h
 |block id c ih=>
  intro t t' b b' e h;simp only[amt] at h;simp only[exec];split at h
  .rename_i i t1 b1 h1;rw[ih h1];simp only;cases hi:Nat.beq i id with
   |true=>rw[hi] at h;simp only[cond_true] at h;cases h;rw[aD (xm hi)]
   |false=>rw[hi] at h;simp only[cond_false] at h;cases h;rw[ay];intro hh;rw[hh,Nat.beq_refl] at hi;cases hi
  rename_i aI;rw[ih h];cases e with
  |normal=>rfl
  |exit i=>exact(aI _ _ _ h).elim
  |ret=>rfl
 |loop c ih=>intro t t' b b' e h;simp only[amw] at h;simp only[exec];exact apx (fun _ _ _ _ _ h=>ih h) n h
noncomputable def Ij (sh:Ctx) (cp:gC) (cs:qw) (n:Nat) (fn:bd) (args:e_) (aj:BL):Option (V×BL):=
 bif Nat.ble args.length 4000 then
  match uu sh cp cs n fn.body (Lk 0 args .leaf) aj with
  |some (.normal,ak,ao)=>(qm sh.al (qR ak) (lN ao) fn.results).map fun vs=>(A6 vs,ao)
  |some (.ret,ak,ao)=>(qm sh.al (qR ak) (lN ao) fn.results).map fun vs=>(A6 vs,ao)
  |_=>none
 else none
theorem atj{cf:qw}(hs:IP cs cf){n:Nat}{fn:bd}{b b':BL}{v:V}(h:Ij sh cp cf n fn args b=some (v,b')):sD sh cp cs n fn args (lN b)=some (v,lN b'):=by
 unfold Ij at h;unfold sD;cases hl:Nat.ble args.length 4000 with
 |false=>rw[hl] at h;cases h
 |true=>
  rw[hl] at h;simp only[cond_true] at h;have:=iA hl;rw[<- avl aa];split at h
  .rename_i ak b1 hx;rw[abK hs _ hx];simp only[dS] at h |-;obtain⟨vs,h1,h2⟩:=h;cases h2;exact⟨vs,h1,rfl⟩
  .rename_i ak b1 hx;rw[abK hs _ hx];simp only[dS] at h |-;obtain⟨vs,h1,h2⟩:=h;cases h2;exact⟨vs,h1,rfl⟩
  cases h
noncomputable def akC (S:Sys) (n:Nat) (cp:gC) (cs:qw):gC:=fun f args=>match S.prim f args with
  |some r=>r
  |none=>match S.fns f with
   |some fn=>bif Nat.ble args.length fn.ntmps then
     match Ij (S.ctx .all) cp cs n fn args [] with
     |some (v,b)=>jd (lN b) v
     |none=>none
    else none
   |none=>none
noncomputable def akE (S:Sys) (n:Nat) (cp:gC) (cs:qw):qw:=fun f args al b=>bif S.trig f args then (S.primS f args al (lN b)).map (fun r=>(r.1,Gu r.2 b)) else match S.fns f with
  |some fn=>bif Nat.ble args.length fn.ntmps then Ij (S.ctx al) cp cs n fn args b else none
  |none=>none
noncomputable def aan (S:Sys) (n:Nat):gC×qw:=Nat.rec (motive:=fun _=>gC×qw) (fun _ _=>none,fun _ _ _ _=>none) (fun n ih=>(akC S n ih.1 ih.2,akE S n ih.1 ih.2)) n
noncomputable def GC (S:Sys) (n:Nat):gC:=(aan S n).1
noncomputable def Bl (S:Sys) (n:Nat):qw:=(aan S n).2
theorem akD(S:Sys)(n f:Nat)(args:e_):GC S (n+1) f args=match S.prim f args with
  |some r=>r
  |none=>match S.fns f with
   |some fn=>bif Nat.ble args.length fn.ntmps then
     match Ij (S.ctx .all) (GC S n) (Bl S n) n fn args [] with
     |some (v,b)=>jd (lN b) v
     |none=>none
    else none
   |none=>none:=rfl
theorem akF(S:Sys)(n f:Nat)(args:e_)(al:Al)(b:BL):Bl S (n+1) f args al b=bif S.trig f args then (S.primS f args al (lN b)).map (fun r=>(r.1,Gu r.2 b)) else match S.fns f with
  |some fn=>bif Nat.ble args.length fn.ntmps then Ij (S.ctx al) (GC S n) (Bl S n) n fn args b else none
  |none=>none:=rfl
theorem ahu{mM:gC}(hp:PLe cp mM){cf:qw}(hs:IP cs cf){n:Nat}{fn:bd}{b b':BL}{v:V}(h:Ij sh cp cf n fn args b=some (v,b')):sD sh mM cs n fn args (lN b)=some (v,lN b'):=Se hp (fun _ _ _ _ _ h=>h) (bR _) (atj hs h)
theorem Tw(S:Sys):∀n,PLe (GC S n) (ij S n)/\IP (ik S n) (Bl S n):=by
 intro n
 induction n with
 |zero=>have h1:∀f x,GC S 0 f x=none:=fun _ _=>rfl;have h2:∀f vs al b,Bl S 0 f vs al b=none:=fun _ _ _ _=>rfl;exact⟨fun f x r h=>(by rw[h1] at h;cases h),fun f vs al b v b' h=>(by rw[h2] at h;cases h)⟩
 |succ n ih=>
  obtain⟨hp,hs⟩:=ih;refine⟨fun f x r h=>?_,fun f vs al b v b' h=>?_⟩
  .rw[akD] at h;rw[ij];split at h
   .rename_i r' uF;simp only[uF];exact h
   rename_i uF;simp only[uF];split at h
   .rename_i fn hfn;simp only[hfn];cases hl:Nat.ble x.length fn.ntmps with
    |false=>rw[hl] at h;cases h
    |true=>
     rw[hl] at h;simp only[cond_true] at h;rw[aD (iA hl)];split at h
     .rename_i v b hr;unfold F0;have:AT=lN []:=rfl;rw[this,ahu hp hs hr];exact h
     cases h
   cases h
  rw[akF] at h;rw[ik];cases ht:S.trig f vs with
  |true=>
   rw[ht] at h;simp only[cond_true] at h;rw[aD rfl];cases hp:S.primS f vs al (lN b) with
   |none=>rw[hp] at h;cases h
   |some r=>rw[hp] at h;cases h;rw[nQ,YT]
  |false=>
  rw[ht] at h;simp only[cond_false,dN,if_false] at h |-;split at h
  .rename_i fn hfn;simp only[hfn];cases hl:Nat.ble vs.length fn.ntmps with
   |false=>rw[hl] at h;cases h
   |true=>rw[hl] at h;simp only[cond_true] at h;rw[aD (iA hl)];exact ahu hp hs h
  cases h
def zP{α:Type}(f:α->α->Bool):List α->List α->Bool
 |[],[]=>true
 |a::r,b::s=>f a b&&zP f r s
 |_,_=>false
theorem Gr{α:Type}{f:α->α->Bool}(hf:∀a b,f a b=true->a=b):∀ {l m:List α},zP f l m=true->l=m:=by
 intro l
 induction l with
 |nil=>intro m h;cases m with
  |nil=>rfl
  |cons b m=>cases h
 |cons a l ih=>
  intro m h;cases m with
  |nil=>cases h
  |cons b m=>simp only[zP,cU] at h;rw[hf _ _ h.1,ih h.2]
def Ua:IntKind->IntKind->Bool
 | .i64,.i64=>true
 |a,b=>decide (a=b)
theorem ame{a b:IntKind}(h:Ua a b=true):a=b:=by
 cases a<;>cases b<;>first
  |rfl
  |(simp[Ua] at h)
def GQ:Nat->PV->PV->Bool
 |0,_,_=>false
 |_+1,.int k a,.int k' b=>Ua k k'&&a==b
 |_+1,.bool a,.bool b=>a==b
 |n+1,.sl a,.sl b=>zP (zP (GQ n)) a b
 |n+1,.box a,.box b=>zP (GQ n) a b
 |n+1,.fn f a b,.fn g c d=>Nat.beq f g&&(zP (GQ n) a c&&zP (GQ n) b d)
 |_+1,.nils,.nils=>true
 |_+1,.vJ,.vJ=>true
 |_+1,_,_=>false
theorem amg:∀(n:Nat) (x y:PV),GQ n x y=true->x=y:=by
 intro n
 induction n with
 |zero=>intro x y h;cases h
 |succ n ih=>
  intro x y h;unfold GQ at h;split at h
  .rename_i h0;cases h0
  .rename_i h0;cases h0;simp only[cU,dk] at h;rw[ame h.1,h.2]
  .rename_i h0;cases h0;simp only[dk] at h;rw[h]
  .rename_i h0;cases h0;rw[Gr (fun _ _ h=>Gr ih h) h]
  .rename_i h0;cases h0;rw[Gr ih h]
  .rename_i h0;cases h0;simp only[cU] at h;rw[xm h.1,Gr ih h.2.1,Gr ih h.2.2]
  .rfl
  .rfl
  cases h
def PC:C->C->Bool
 | .p a,.p b=>GQ 12 a b
 |_,_=>false
theorem abC{a b:C}(h:PC a b=true):a=b:=by
 unfold PC at h;split at h
 .rw[amg _ _ _ h]
 cases h
def PD:V->V->Bool
 | .one a,.one b=>PC a b
 | .agg a,.agg b=>zP PC a b
 |_,_=>false
theorem ami{a b:V}(h:PD a b=true):a=b:=by
 unfold PD at h;split at h
 .rw[abC h]
 .rw[Gr (fun _ _ h=>abC h) h]
 cases h
abbrev jY:=List (Nat×e_×RV)
def Oe:jY->Nat->e_->Option RV
 |[],_,_=>none
 |(f,a,r)::l,g,b=>bif Nat.beq f g&&zP PD a b then some r else Oe l g b
theorem aqm:∀ {l:jY} {f:Nat} {a:e_} {r:RV},Oe l f a=some r->(f,a,r)∈l:=by
 intro l
 induction l with
 |nil=>intro f a r h;cases h
 |cons e l ih=>
  obtain⟨g,b,s⟩:=e;intro f a r h;simp only[Oe] at h;cases hb:(Nat.beq g f&&zP PD b a) with
  |true=>rw[hb] at h;simp only[cond_true,gh] at h;simp only[cU] at hb;rw[xm hb.1,Gr (fun _ _ h=>ami h) hb.2,h];simp
  |false=>rw[hb] at h;exact u6 _ (ih h)
def Sys.xW(S:Sys)(l:jY):Sys:={S with prim:=fun f a=>match Oe l f a with
 |some r=>some (some r)
 |none=>S.prim f a}
def jP(S:Sys)(l:jY):Prop:=∀e∈l,aK S e.1 e.2.1 e.2.2
theorem jP.nil{S:Sys}:jP S []:=fun e h=>by simp at h
theorem jP.cons{S:Sys}{l:jY}{f:Nat}{a:e_}{r:RV}(h:aK S f a r)(hl:jP S l):jP S ((f,a,r)::l):=fun e he=>by
 rcases cD.1 he with rfl|he
 .exact h
 exact hl e he
theorem jP.bound{S:Sys}:∀ {l:jY},jP S l->∃M,∀e∈l,ij S M e.1 e.2.1=some e.2.2:=by
 intro l
 induction l with
 |nil=>intro _;exact⟨0,fun e h=>by simp at h⟩
 |cons e l ih=>
  intro h;obtain⟨M,hM⟩:=ih fun x hx=>h x (by simp[hx]);obtain⟨n,hn⟩:=h e af;refine⟨max M n,fun x hx=>?_⟩;rcases cD.1 hx with rfl|hx
  .exact Ez S (II M n) _ _ _ hn
  exact Ez S (Gj M n) _ _ _ (hM x hx)
theorem aqP{S:Sys}{l:jY}{M:Nat}(hM:∀e∈l,ij S M e.1 e.2.1=some e.2.2):∀n,PLe (ij (S.xW l) n) (ij S (n+M))/\SLe (ik (S.xW l) n) (ik S (n+M)):=by
 intro n
 induction n with
 |zero=>exact⟨fun f x r h=>by simp[ij] at h,fun f x l k r h=>by simp[ik] at h⟩
 |succ n ih=>
  have e1:n+1+M=(n+M)+1:=aa;have hc:∀al,(S.xW l).ctx al=S.ctx al:=fun _=>rfl;refine⟨fun f x r h=>?_,fun f x al k r h=>?_⟩
  .rw[ij] at h;cases hl:Oe l f x with
   |some r'=>
    have hp:(S.xW l).prim f x=some (some r'):=by simp only[Sys.xW,hl]
    rw[hp] at h;cases h;exact Ez S aa _ _ _ (hM _ (aqm hl))
   |none=>
    have hp:(S.xW l).prim f x=S.prim f x:=by simp only[Sys.xW,hl]
    rw[hp] at h;rw[e1,ij];split at h
    .exact h
    have hfn:(S.xW l).fns f=S.fns f:=rfl;rw[hfn] at h;split at h
    .rename_i fn hf;split at h
     .rename_i hlen;rw[aD hlen];rw[hc] at h;exact aht ih.1 ih.2 aa h
     cases h
    cases h
  rw[ik] at h;rw[e1,ik];have htr:(S.xW l).trig f x=S.trig f x:=rfl;have dR:(S.xW l).primS f x al k=S.primS f x al k:=rfl;rw[htr,dR] at h;by_cases ht:S.trig f x=true
  .rw[aD ht] at h |-;exact h
  rw[ay ht] at h |-;have hfn:(S.xW l).fns f=S.fns f:=rfl;rw[hfn] at h;split at h
  .rename_i fn hf;split at h
   .rename_i hlen;rw[aD hlen];rw[hc] at h;exact Se ih.1 ih.2 aa h
   cases h
  cases h
theorem nc{S:Sys}{l:jY}(hl:jP S l)(n:Nat){f:Nat}{r:RV}(h:GC (S.xW l) n f args=some r):aK S f args r:=by obtain⟨M,hM⟩:=hl.bound;exact⟨n+M,(aqP hM n).1 _ _ _ ((Tw (S.xW l) n).1 _ _ _ h)⟩
inductive Fits {H:Type} (N:Nat):DataW H->Prop where
 |str (s:p_) (h:s.length<=N):Fits N (.lit (.string s))
 |lit (l:Lit) (h:∀s,l≠ .string s):Fits N (.lit l)
 |nil:Fits N .nil
 |slice (es sp:List (DataW H)) (h:es.length<=N) (he:∀d∈es,Fits N d):Fits N (.slice es sp)
 |agg (es:List (DataW H)) (he:∀d∈es,Fits N d):Fits N (.agg es)
def kM(P:Program)(N:Nat):Nat->TypeId->b_->Prop
 |0,_,_=>False
 |n+1,t,ps=>match P.underlying t with
  |some .bool=>∃b,ps=[.bool b]
  |some (.int k)=>∃z,ps=[.int k z]/\(Lit.int k z).wf=true
  |some .string=>∃s:ByteArray,ps=[.str s]/\s.size<=N
  |some (.slice e)=>∃es,ps=[.sl es]/\es.length<=N/\ ∀x∈es,kM P N n e x
  |some (.struct fs)=>∃parts:s_,ps=parts.flatten/\parts.length=fs.toList.length/\ ∀(i:Nat) (f:Field) (x:b_),fs.toList[i]?=some f->parts[i]?=some x->kM P N n f.type x
  |_=>False
def zT(P:Program):Nat->Nat->List Field->Bool
 |off,total,[]=>Nat.beq off total
 |off,total,f::r=>Nat.beq f.offset off&&zT P (off+P.cellsOf f.type) total r
def kG(P:Program):Nat->TypeId->Bool
 |0,_=>false
 |n+1,t=>match P.underlying t with
  |some .bool|some (.int _)|some .string=>true
  |some (.slice e)=>Nat.blt 0 (P.cellsOf e)&&kG P n e
  |some (.struct fs)=>zT P 0 (P.cellsOf t) fs.toList&&fs.toList.all fun f=>kG P n f.type
  |_=>false
section
variable {H:Type} {enc:TypeId×Value->H} {P:Program} {w:World} {base:Nat} {sp:Nat->Bool} {held:Bool} {N:Nat}
theorem dD.append{w:World}{own:Nat->Prop}{xs ys:b_}{vs us:List Value}(h:dD w own xs vs)(k:dD w own ys us):dD w own (xs++ys) (vs++us):=Pw.append (R:=cF w own) h k
theorem aas{w:World}{base:Nat}{a:Addr}{n:Nat}{cs:List Value}(h:w.cells? base a n=some cs):cs.length=n/\ ∀i,i<n->a.add i=⟨a.block,a.off+i,none⟩/\w.cell? ⟨a.block,a.off+i,none⟩=cs[i]? :=by
 unfold World.cells? at h;split at h
 .have hl:=mapM_some_length h;simp at hl;refine⟨hl,fun i hi=>?_⟩;have hg:=mapM_some_get h i i (by simp[hi]);have aw:i<cs.length:=aa;have hv:cs[i]?=some cs[i]:=by simp[aw]
  rw[hv] at hg;have aem:(a.add i).spot=none:=by
   cases qc:(a.add i).spot with
   |none=>rfl
   |some s=>
    simp only[World.cell?] at hg;split at hg
    .simp[qc] at hg
    cases hg
  have e:a.add i=⟨a.block,a.off+i,none⟩:=by
   unfold Addr.add at aem |-;split
   .rename_i h0;subst h0;rw[aD rfl] at aem;cases a
    simp_all
   rfl
  refine⟨e,?_⟩;rw[hv,<- hg,e]
 cases h
theorem amP{r:TypeId->List Value->Option (DataW H×List MemPlace)}{n:Nat}(ih:∀t cs x,kG P n t=true->r t cs=some x->Fits N x.1->∃pvs,kM P N n t pvs/\dD w (fun _=>False) pvs cs){cs:List Value}{total:Nat}(ht:cs.length=total):
  ∀(fs:List Field) (off:Nat) (xs:List (DataW H×List MemPlace)),zT P off total fs=true->(∀f∈fs,kG P n f.type=true)->
   fs.mapM (fun f=>r f.type ((cs.drop f.offset).take (P.cellsOf f.type)))=some xs->(∀x∈xs,Fits N x.1)->off<=total->(∀f∈fs,∀c x,r f.type c=some x->∀pvs,kM P N n f.type pvs->dD w (fun _=>False) pvs c->True)->
   ∃parts:s_,parts.length=fs.length/\(∀(i:Nat) (f:Field) (x:b_),fs[i]?=some f->parts[i]?=some x->kM P N n f.type x)/\(dD w (fun _=>False) parts.flatten (cs.drop off)):=by
 intro fs
 induction fs with
 |nil=>
  intro off xs hc _ _ _ hle _;simp only[zT] at hc;have:=xm hc;refine⟨[],rfl,fun i f x h=>by simp at h,?_⟩;have:cs.drop off=[]:=by rw[List.drop_eq_nil_iff];omega
  rw[this];exact⟨rfl,fun j x u h=>by simp at h⟩
 |cons f fs ihf=>
  intro off xs hc ho hm hf hle hT;simp only[zT,cU] at hc;have W3:=xm hc.1;rw[List.mapM_cons] at hm;simp only[Option.bind_eq_bind,SP,Option.pure_def,gh] at hm;obtain⟨x,hx,xs',N5,rfl⟩:=hm;obtain⟨pvs,p1,p2⟩:=ih _ _ _ (ho f af) hx (hf x af);have hlen:=p2.1;by_cases aea:off+P.cellsOf f.type<=total
  .obtain⟨parts,q1,q2,q3⟩:=ihf (off+P.cellsOf f.type) xs' hc.2 (fun g hg=>ho g (by simp[hg])) N5 (fun y hy=>hf y (by simp[hy])) aea (fun _ _ _ _ _ _ _ _=>trivial);refine⟨pvs::parts,by simp[q1],fun i g y hi hy=>?_,?_⟩
   .cases i with
    |zero=>simp at hi hy;subst hi hy;exact p1
    |succ i=>exact q2 i g y (by simpa using hi) (by simpa using hy)
   have:cs.drop off=(cs.drop f.offset).take (P.cellsOf f.type)++cs.drop (off+P.cellsOf f.type):=by rw[W3,<- List.drop_drop];exact(mJ _ _).symm
   rw[this];simp only[mX];exact dD.append p2 q3
  exfalso;have mono:∀(l:List Field) (o:Nat),zT P o total l=true->o<=total:=by
   intro l
   induction l with
   |nil=>intro o h;simp only[zT] at h;have:=xm h;omega
   |cons g l ihl=>intro o h;simp only[zT,cU] at h;have:=ihl _ h.2;omega
  exact aea (mono _ _ hc.2)
theorem ati{sz:Nat}{f:Nat->Value}:∀(es:s_) (rows:List (List Value)) (k:Nat),rows.length=es.length->(∀(i:Nat) (e:b_) (v:List Value),es[i]?=some e->rows[i]?=some v->dD w (fun _=>False) e v/\v.length=sz/\ ∀j u,v[j]?=some u->f ((k+i)*sz+j)=u)->
  ∀(j:Nat) (x:PV),es.flatten[j]?=some x->cF w (fun _=>False) x (f (k*sz+j)):=by
 intro es
 induction es with
 |nil=>intro rows k _ _ j x h;simp at h
 |cons e es ih=>
  intro rows k hl h j x hx;cases rows with
  |nil=>simp at hl
  |cons v rows=>
   obtain⟨a1,a2,a3⟩:=h 0 e v rfl rfl;have dI:e.length=sz:=by rw[<- a2];exact a1.1.symm
   simp only[mX] at hx;by_cases hj:j<e.length
   .rw[xh hj] at hx;have hv:v[j]?=some v[j]:=by simp[show j<v.length by omega]
    have:=a3 j _ hv;simp only[u9] at this;rw[this];exact a1.2 j x _ hx hv
   rw[zI aa] at hx;have:=ih rows (k+1) (by simpa using hl) (fun i e' v' h1 h2=>by have:=h (i+1) e' v' (by simpa using h1) (by simpa using h2);rw[show k+(i+1)=k+1+i by omega] at this;exact this) (j-e.length) x hx
   rw[show k*sz+j=(k+1)*sz+(j-e.length) by rw[ia];omega];exact this
theorem avv:∀(n fuel:Nat) (t:TypeId) (cs:List Value) (x:DataW H×List MemPlace),kG P n t=true->DataW.trod enc P w base sp held fuel t cs=some x->Fits N x.1->
  ∃pvs,kM P N n t pvs/\dD w (fun _=>False) pvs cs:=by
 intro n
 induction n with
 |zero=>intro fuel t cs x h;simp[kG] at h
 |succ n ih=>
  intro fuel t cs x au h hf;cases fuel with
  |zero=>simp[DataW.trod] at h
  |succ fuel=>
   rw[DataW.trod_step] at h;have one:∀ {p:PV} {v:Value},cF w (fun _=>False) p v->dD w (fun _=>False) [p] [v]:=by
    intro p v hp;refine⟨rfl,fun j x u a b=>?_⟩;cases j with
    |zero=>simp at a b;subst a b;exact hp
    |succ j=>simp at a
   unfold DataW.trodStep at h;unfold kG at au;split at h
   case h_1 b hu=>exact⟨[.bool b],by simp only[kM,hu];exact⟨b,rfl⟩,one (.bool b)⟩
   case h_2 k k' z hu=>
    split at h
    .rename_i hc;obtain⟨rfl,hwf⟩:=hc;exact⟨[.int k' z],by simp only[kM,hu];exact⟨z,rfl,hwf⟩,one (.int k' z)⟩
    cases h
   case h_4 s hu=>
    split at h
    .cases h;cases hf with
     |str _ hs=>exact⟨[.str s],by simp only[kM,hu];exact⟨s,rfl,by simpa using hs⟩,one (.str s)⟩
     |lit _ hs=>exact(hs _ rfl).elim
    cases h
   case h_7 e hu=>exact⟨[.sl []],by simp only[kM,hu];exact⟨[],rfl,bG _,fun x hx=>by simp at hx⟩,one (.zw none 0 (fun _=>rfl) (bG _))⟩
   case h_8 e a len cap hu=>
    rw[hu] at au;simp only[cU] at au;obtain⟨jU,hoe⟩:=au;have jU:0<P.cellsOf e:=by have:=jU;simp[Nat.blt] at this;omega
    simp only at h;split at h
    .rename_i hc;obtain⟨hb,hlc,yO⟩:=hc;simp only[dS,SP] at h;obtain⟨elems,he,rest,aoZ,rfl⟩:=h;have hlen:elems.length=len:=by simpa using mapM_some_length he
     cases hf with
     |slice _ _ hl hfe=>
     simp only[cM] at hl;have get:∀i,i<len->∃y row pv,elems[i]?=some y/\w.cells? base (a.add (i*P.cellsOf e)) (P.cellsOf e)=some row/\kM P N n e pv/\dD w (fun _=>False) pv row:=by intro i hi;have hg:=mapM_some_get he i i (by simp[hi]);have aw:i<elems.length:=aa;rw[rL aw] at hg;simp only[SP] at hg;obtain⟨row,h1,h2⟩:=hg;obtain⟨pv,p1,p2⟩:=ih _ _ _ _ hoe h2 (hfe _ (dh.2 ⟨_,List.getElem_mem aw,rfl⟩));exact⟨_,row,pv,rL aw,h1,p1,p2⟩
     cases r7:len with
     |zero=>refine⟨[.sl []],by simp only[kM,hu];exact⟨[],rfl,bG _,fun x hx=>by simp at hx⟩,one (.zw (some a) cap (fun h=>by cases h) yO)⟩
     |succ len'=>
      rw[<- r7];have h0:0<len:=aa;obtain⟨_,row0,_,_,tS,_,_⟩:=get 0 h0;have ha:a=⟨a.block,a.off,none⟩:=by
       have h1:a.add 0=a:=by unfold Addr.add;rw[aD rfl]
       rw[Bf,h1] at tS;have:=((aas tS).2 0 jU).1;rw[h1] at this;exact this
      have Xe:∀i,i<len->∃row pv,row.length=P.cellsOf e/\(∀j,j<P.cellsOf e->w.cell? ⟨a.block,a.off+(i*P.cellsOf e+j),none⟩=row[j]?)/\kM P N n e pv/\dD w (fun _=>False) pv row:=by
       intro i hi;obtain⟨_,row,pv,_,h1,h2,h3⟩:=get i hi;obtain⟨l1,l2⟩:=aas h1;refine⟨row,pv,l1,fun j hj=>?_,h2,h3⟩;have:=(l2 j hj).2;rw[<- this];have e2:a.add (i*P.cellsOf e)=⟨a.block,a.off+i*P.cellsOf e,none⟩:=by
        rw[ha];unfold Addr.add;split
        .rename_i h9;rw[h9];rfl
        rfl
       rw[e2];simp[Gi]
      let row:Nat->List Value:=fun i=>if h:i<len then (Xe i h).choose else []
      let pv:Nat->b_:=fun i=>if h:i<len then (Xe i h).choose_spec.choose else []
      have NU:∀i,i<len->(row i).length=P.cellsOf e/\(∀j,j<P.cellsOf e->w.cell? ⟨a.block,a.off+(i*P.cellsOf e+j),none⟩=(row i)[j]?)/\kM P N n e (pv i)/\dD w (fun _=>False) (pv i) (row i):=by intro i hi;simp only[row,pv,dif_pos hi];exact(Xe i hi).choose_spec.choose_spec
      let es:=(List.range len).map pv
      have Qs:es.length=len:=by simp[es]
      have Du:∀(i:Nat) (x:b_),es[i]?=some x->i<len/\x=pv i:=by
       intro i x hx;have hi:i<len:=by rw[<- Qs];exact(aT.1 hx).1
       refine⟨hi,?_⟩;simp only[es,fG,u5 hi,nQ,gh] at hx;exact hx.symm
      let f:Nat->Value:=fun j=>(w.cell? ⟨a.block,a.off+j,none⟩).getD undef
      refine⟨[.sl es],?_,one ?_⟩
      .simp only[kM,hu];refine⟨es,rfl,aa,fun x hx=>?_⟩;obtain⟨i,hi⟩:=iJ hx;obtain⟨h1,rfl⟩:=Du i x hi;exact(NU i h1).2.2.1
      rw[ha];have cH:∀x∈es,x.length=P.cellsOf e:=by intro x hx;obtain⟨i,hi⟩:=iJ hx;obtain⟨h1,rfl⟩:=Du i x hi;have:=(NU i h1).2.2.2.1;rw[<- this];exact(NU i h1).1
      have eN:=ati (w:=w) (sz:=P.cellsOf e) (f:=f) es ((List.range len).map row) 0 (by simp[Qs]) (fun i x v h1 h2=>by
       obtain⟨hi,rfl⟩:=Du i x h1;simp only[fG,u5 hi,nQ,gh] at h2;subst h2;obtain⟨s1,s2,s3,s4⟩:=NU i hi;refine⟨s4,s1,fun j u hu=>?_⟩;have hj:j<P.cellsOf e:=by rw[<- s1];exact(aT.1 hu).1
       simp only[f,js];rw[s2 j hj,hu];rfl)
      simp only[Bf,js] at eN;have yV:∀(l:s_),(∀x∈l,x.length=P.cellsOf e)->l.flatten.length=l.length*P.cellsOf e:=by
       intro l
       induction l with
       |nil=>intro _;simp
       |cons x l ihl=>intro hx;simp only[mX,fS,dC];rw[hx x af,ihl (fun y hy=>hx y (by simp[hy])),ia];omega
      refine Qs▸cF.sl a.block a.off cap (P.cellsOf e) f (fun _ h=>h) aa yO cH (fun j x hx=>?_) eN;have hj:j<len*P.cellsOf e:=by have:=(aT.1 hx).1;rw[yV es cH,Qs] at this;exact this
      have hi:j/P.cellsOf e<len:=Nat.div_lt_of_lt_mul (by rw[Nat.mul_comm];exact hj);obtain⟨s1,s2,s3,s4⟩:=NU _ hi;have hm:j%P.cellsOf e<P.cellsOf e:=dr _ jU;have:=s2 _ hm;rw[show j/P.cellsOf e*P.cellsOf e+j%P.cellsOf e=j by rw[Nat.mul_comm];exact Nat.div_add_mod j _] at this;have Xh:(row (j/P.cellsOf e))[j%P.cellsOf e]?=some (row (j/P.cellsOf e))[j%P.cellsOf e]:=by simp[s1,hm]
      rw[Xh] at this;simp only[f,this,nO]
    cases h
   case h_9=>
    rename_i fs hu;rw[hu] at au;simp only[cU] at au;split at h
    .rename_i hc;simp only[dS] at h;obtain⟨xs,hx,rfl⟩:=h;cases hf with
     |agg _ hfe=>
     obtain⟨parts,p1,p2,p3⟩:=amP (r:=DataW.trod enc P w base sp held fuel) (n:=n) (fun t cs x h1 h2 h3=>ih _ _ _ _ h1 h2 h3) hc fs.toList 0 xs au.1 (fun f hf=>gO.1 au.2 f hf) hx (fun y hy=>hfe _ (dh.2 ⟨y,hy,rfl⟩)) (bG _) (fun _ _ _ _ _ _ _ _=>trivial);refine⟨parts.flatten,by simp only[kM,hu];exact⟨parts,rfl,p1,p2⟩,?_⟩
     simpa using p3
    cases h
   all_goals(first|(cases h;done)|(simp_all;done)|(exfalso;simp_all;done))
end
end
end Go.Abs
namespace Go.Abs
variable {H:Type} {enc:TypeId×Value->H} {P:Program} {w:World} {N:Nat}
theorem alp:∀(fs:List Field) (off total:Nat),zT P off total fs=true->total=off+(fs.map fun f=>P.cellsOf f.type).sum/\ ∀(j:Nat) (f:Field),fs[j]?=some f->f.offset=off+((fs.take j).map fun f=>P.cellsOf f.type).sum:=by
 intro fs
 induction fs with
 |nil=>intro off total h;simp only[zT] at h;have:=xm h;exact⟨by simp;omega,fun j f h=>by simp at h⟩
 |cons f fs ih=>
  intro off total h;simp only[zT,cU] at h;have h0:=xm h.1;obtain⟨i1,i2⟩:=ih _ _ h.2;refine⟨by simp;omega,fun j g hg=>?_⟩;cases j with
  |zero=>simp at hg;subst hg;simp;omega
  |succ j=>have:=i2 j g (by simpa using hg);simp only[List.take_succ_cons,eh,List.sum_cons];omega
theorem apI:Kids P (fun t=>∃n,kG P n t=true):=by
 have un:∀ {t:TypeId},(∃n,kG P n t=true)->∃n,kG P (n+1) t=true:=by
  rintro t ⟨n,h⟩
  cases n with
  |zero=>simp[kG] at h
  |succ n=>exact⟨n,h⟩
 refine⟨fun ht hu=>?_,fun ht hu=>?_,fun ht hu=>?_,fun ht hu=>?_,fun ht hu=>?_⟩
 .obtain⟨n,h⟩:=un ht;simp[kG,hu] at h
 .obtain⟨n,h⟩:=un ht;simp only[kG,hu,cU] at h;exact⟨n,h.2⟩
 .obtain⟨n,h⟩:=un ht;simp[kG,hu] at h
 .obtain⟨n,h⟩:=un ht;simp only[kG,hu,cU] at h;obtain⟨c1,c2⟩:=alp _ _ _ h.1;refine⟨fun f hf=>⟨n,gO.1 h.2 f hf⟩,by rw[c1];simp,fun j f hj=>by rw[c2 j f hj];simp⟩
 obtain⟨n,h⟩:=un ht;simp[kG,hu] at h
theorem avt{w':World}{Im:Nat->Bool}{t:TypeId}{v:Value}{d:DataW H}{ps:List MemPlace}(hk:∃n,kG P n t=true)(h:DataW.Trod enc P w 0 (fun _=>true) true t v d ps)
  (BM:∀p∈ps,w.sameAt w' p) (hs:∀p∈ps,Im p.block=true):DataW.Trod enc P w' 0 Im true t v d ps:=by
 obtain⟨fuel,h⟩:=h;refine⟨fuel,DataW.trod_stays (T:=fun t=>∃n,kG P n t=true) apI ?_ (fun h=>by cases h) hk h BM hs⟩;rintro t e ⟨n,h⟩ hu
 cases n with
 |zero=>simp[kG] at h
 |succ n=>simp only[kG,hu,cU] at h;have:=h.1;simp[Nat.blt] at this;omega
theorem avs{w':World}{Im:Nat->Bool}:∀ {ts:List TypeId} {vs:List Value} {ds:List (DataW H)} {ps:List MemPlace},(∀t∈ts,∃n,kG P n t=true)->DataW.TrodAll enc P w 0 (fun _=>true) true ts vs ds ps->
  (∀p∈ps,w.sameAt w' p)->(∀p∈ps,Im p.block=true)->DataW.TrodAll enc P w' 0 Im true ts vs ds ps:=by
 intro ts
 induction ts with
 |nil=>intro vs ds ps _ h _ _;cases vs<;>cases ds<;>exact h
 |cons t ts ih=>
  intro vs ds ps hk h kW fM;cases vs with
  |nil=>exact h.elim
  |cons v vs=>
   cases ds with
   |nil=>exact h.elim
   |cons d ds=>obtain⟨p,q,h1,h2,rfl⟩:=h;exact⟨p,q,avt (hk t af) h1 (fun x hx=>kW x (by simp[hx])) (fun x hx=>fM x (by simp[hx])),ih (fun t ht=>hk t (by simp[ht])) h2 (fun x hx=>kW x (by simp[hx])) (fun x hx=>fM x (by simp[hx])),rfl⟩
def CI(P:Program)(t:TypeId)(ps:b_):V:=
 match P.underlying t with
 |some (.struct _)=>.agg (ps.map .p)
 |_=>match ps with
  |[x]=>.one (.p x)
  |_=>.undef
theorem ajM{r:Reach}{b0 n:Nat}{sp:Nat->Bool}{held:Bool}{t:TypeId}{v:Value}{d:DataW H}{ps:List MemPlace}(hk:kG P n t=true)(hval:Value.okWide P w r b0 t v)(h:DataW.Trod enc P w 0 sp held t v d ps)(hf:Fits N d):
  ∃pvs,kM P N n t pvs/\tB w (fun _=>False) (CI P t pvs) v:=by
 obtain⟨fuel,h⟩:=h;obtain⟨pvs,h1,h2⟩:=avv n fuel t _ _ hk h hf;refine⟨pvs,h1,?_⟩;cases n with
 |zero=>simp[kG] at hk
 |succ n=>
  have one:∀x:PV,pvs=[x]->(∀cs,v≠ .agg cs)->cF w (fun _=>False) x v:=by
   rintro x rfl aI
   have:v.cells.toList=[v]:=by
    cases v<;>first
     |rfl
     |exact(aI _ rfl).elim
   rw[this] at h2;exact h2.2 0 x v rfl rfl
  have nagg:∀ {k:TypeDesc},P.underlying t=some k->(∀fs,k≠ .struct fs)->(∀a b,k≠ .array a b)->∀cs,v≠ .agg cs:=by
   rintro k hu df jT cs rfl
   unfold Value.okWide at hval;rw[hu] at hval;cases k<;>simp_all[Cell.okWide,Cell.ok]
  simp only[kM] at h1;unfold CI;cases hu:P.underlying t with
  |none=>rw[hu] at h1;exact h1.elim
  |some k=>
   rw[hu] at h1;cases k<;>simp only at h1<;>try exact h1.elim
   case bool=>obtain⟨b,rfl⟩:=h1;exact one _ rfl (nagg hu af af)
   case int k=>obtain⟨b,rfl,_⟩:=h1;exact one _ rfl (nagg hu af af)
   case string=>obtain⟨b,rfl,_⟩:=h1;exact one _ rfl (nagg hu af af)
   case slice e=>obtain⟨es,rfl,_⟩:=h1;exact one _ rfl (nagg hu af af)
   case struct fs=>unfold Value.okWide at hval;rw[hu] at hval;simp only at hval;obtain⟨cs,rfl,cH,_⟩:=hval;exact⟨cs,pvs,rfl,rfl,h2⟩
def O6(P:Program)(N n:Nat):List TypeId->s_->Prop
 |[],[]=>True
 |t::ts,p::ps=>kM P N n t p/\O6 P N n ts ps
 |_,_=>False
def CJ(P:Program):List TypeId->s_->e_
 |t::ts,p::ps=>CI P t p::CJ P ts ps
 |_,_=>[]
theorem ajR{r:Reach}{b0 n:Nat}{sp:Nat->Bool}{held:Bool}:∀ {ts:List TypeId} {vs:List Value} {ds:List (DataW H)} {ps:List MemPlace},(∀t∈ts,kG P n t=true)->(∀(j:Nat) t v,ts[j]?=some t->vs[j]?=some v->Value.okWide P w r b0 t v)->
  DataW.TrodAll enc P w 0 sp held ts vs ds ps->(∀d∈ds,Fits N d)->∃pvss,O6 P N n ts pvss/\Pw (tB w (fun _=>False)) (CJ P ts pvss) vs:=by
 intro ts
 induction ts with
 |nil=>
  intro vs ds ps _ _ h _;cases vs with
  |nil=>exact⟨[],trivial,rfl,fun j x u h=>by simp[CJ] at h⟩
  |cons v vs=>cases ds<;>exact h.elim
 |cons t ts ih=>
  intro vs ds ps hk hv h hf;cases vs with
  |nil=>exact h.elim
  |cons v vs=>
   cases ds with
   |nil=>exact h.elim
   |cons d ds=>
    obtain⟨p,q,h1,h2,rfl⟩:=h;obtain⟨x,a1,a2⟩:=ajM (hk t af) (hv 0 t v rfl rfl) h1 (hf d af);obtain⟨xs,b1,b2,b3⟩:=ih (fun t ht=>hk t (by simp[ht])) (fun j t v e1 e2=>hv (j+1) t v (by simpa using e1) (by simpa using e2)) h2 (fun d hd=>hf d (by simp[hd]));refine⟨x::xs,⟨a1,b1⟩,by simpa [CJ] using b2,fun j y u e1 e2=>?_⟩;cases j with
    |zero=>simp[CJ] at e1 e2;subst e1 e2;exact a2
    |succ j=>exact b3 j y u (by simpa [CJ] using e1) (by simpa using e2)
end Go.Abs
namespace Go.Abs
open Go.RowKit
theorem fT.arf(w:World)(k:Nat)(os:Array Obj):fT w (Go.Sort.grow (w.drewN k) os):=
 ⟨rfl,rfl,rfl,by simp[Go.Sort.grow,World.drewN],fun c hc=>by simp[Go.Sort.grow,World.drewN,Array.getElem?_append,hc]⟩
theorem OB{w w':World}{O:Nat->Prop}{x:PV}{v:Value}(hg:fT w w')(h:cF w' O x v):vY w O (.one (.p x)) (.returned v) w':=
 ⟨v,[],rfl,hg,xl,fun c hc=>by simp at hc,[v],rfl,v,[],rfl,h.mono fun c _ hn=>⟨rfl,fun hq=>hn (hq.elim id fun h=>by simp at h)⟩,rfl,rfl⟩
theorem pw1{w:World}{O:Nat->Prop}{x:PV}{args:Array Value}(h:Pw (tB w O) [.one (.p x)] args.toList):∃v,args= #[v]/\cF w O x v:=by
 obtain⟨h1,h2⟩:=h;obtain⟨l⟩:=args
 match l,h1 with
 |[v],_=>exact⟨v,rfl,h2 0 _ v rfl rfl⟩
theorem aby{w:World}{O:Nat->Prop}{v:Value}(h:cF w O (.sl []) v):∃a cap,v=.slice a 0 cap/\(a=none->cap=0)/\cap<=maxLen:=by
 generalize hx:PV.sl []=x at h;cases h<;>cases hx
 .exact⟨_,_,rfl,by assumption,by assumption⟩
 exact⟨_,_,rfl,fun h=>by simp at h,by assumption⟩
theorem af4{w:World}{O:Nat->Prop}{a:Option Addr}{cap:Nat}(h:a=none->cap=0)(hm:cap<=maxLen):cF w O (.sl []) (.slice a 0 cap):=.zw a cap h hm
def sN:Nat->Nat->p_->p_
 |0,_,acc=>acc
 |k+1,u,acc=>bif Nat.blt u 10 then UInt8.ofNat (Nat.add 48 u)::acc else sN k (Nat.div u 10) (UInt8.ofNat (Nat.add 48 (Nat.mod u 10))::acc)
theorem abh:∀(k u:Nat) (acc:p_),u<10 ^ (k+1)->sN (k+1) u acc=Lib.decDigits u++acc:=by
 intro k
 induction k with
 |zero=>
  intro u acc h;have h:u<10:=by simpa using h
  unfold Lib.decDigits;have hb:Nat.blt u 10=true:=Nat.ble_eq_true_of_le h;simp only[sN,hb,cond_true,dif_pos h];rfl
 |succ k ih=>
  intro u acc h;rw[Lib.decDigits,sN];by_cases h0:u<10
  .have hb:Nat.blt u 10=true:=Nat.ble_eq_true_of_le h0;simp only[hb,cond_true,dif_pos h0];rfl
  have hb:Nat.blt u 10=false:=by
   cases e:Nat.blt u 10 with
   |false=>rfl
   |true=>exact(h0 (iA e)).elim
  simp only[hb,cond_false,dif_neg h0];have:(Nat.div u 10)<10 ^ (k+1):=by have e:Nat.div u 10=u/10:=rfl;rw[e];have:10 ^ (k+1+1)=10 ^ (k+1)*10:=Nat.pow_succ ..;omega
  rw[ih _ _ this];simp only[vU,List.singleton_append];rfl
def lK(n:Int):ByteArray:=⟨(match n with| .ofNat u=>sN 20 u []| .negSucc u=>45::sN 20 (Nat.succ u) []).toArray⟩
theorem apA(n:Int)(h0: -9223372036854775808<=n)(h1:n<=9223372036854775807):lK n=⟨(Lib.itoa n).toArray⟩:=by
 unfold lK Lib.itoa;cases n with
 |ofNat u=>have:¬(Int.ofNat u<0):=af;rw[ay this];simp only;rw[abh 19 u [] (by simp at h1;omega)];simp
 |negSucc u=>have:Int.negSucc u<0:=Int.negSucc_lt_zero u;rw[aD this];simp only;rw[abh 19 (Nat.succ u) [] aa];simp[Int.natAbs]
def RR(args:e_):Option RV:=
 match args with
 |[.one (.p (.int .i64 n))]=>if -9223372036854775808<=n/\n<=9223372036854775807 then some (.one (.p (.str (lK n)))) else none
 |_=>none
theorem asy{P:Program}{f:Nat}{nm:String}{G:World->Prop}{args:e_}{r:RV}(hG:∀w,G w->Lib.TabIs P w nm .u64 Lib.pow10Tab)
  (hf:∀(n:Int),-9223372036854775808<=n->n<=9223372036854775807->∀w:World,Lib.TabIs P w nm .u64 Lib.pow10Tab->Calls P f #[.int .i64 n] w fun e w'=>e=.returned (.string ⟨(Lib.itoa n).toArray⟩)/\ ∃k os,w'=Go.Sort.grow (w.drewN k) os)
  (h:RR args=some r):∀(w:World) (O:Nat->Prop) (as:Array Value),Good G w->Pw (tB w O) args as.toList->Calls P f as w (vY w O r):=by
 intro w O as hg ha;unfold RR at h;split at h
 .rename_i n;split at h
  .rename_i hr;cases h;obtain⟨v,rfl,hp⟩:=pw1 ha;generalize hx:PV.int .i64 n=x at hp;cases hp<;>cases hx
   refine(hf n hr.1 hr.2 w (hG w hg.1)).mono ?_;rintro e w' ⟨rfl,k,os,rfl⟩
   rw[apA n hr.1 hr.2];exact OB (fT.arf _ _ _) (.str _)
  cases h
 cases h
def OC(args:e_):Option RV:=
 match args with
 |[.one (.p (.int .u64 n))]=>if 0<=n/\n<=18446744073709551615 then some (.one (.p (.int .i64 (Lib.bitLen n.toNat)))) else none
 |_=>none
theorem asv{P:Program}{f:Nat}{args:e_}{r:RV}(hf:∀(x:Int) (w:World),0<=x->x<=18446744073709551615->Calls P f #[.int .u64 x] w fun e w'=>e=.returned (.int .i64 (Lib.bitLen x.toNat))/\w'=w)
  (h:OC args=some r):∀(w:World) (O:Nat->Prop) (as:Array Value),Pw (tB w O) args as.toList->Calls P f as w (vY w O r):=by
 intro w O as ha;unfold OC at h;split at h
 .rename_i n;split at h
  .rename_i hr;cases h;obtain⟨v,rfl,hp⟩:=pw1 ha;generalize hx:PV.int .u64 n=x at hp;cases hp<;>cases hx
   refine(hf n w hr.1 hr.2).mono ?_;rintro e w' ⟨rfl,rfl⟩
   exact OB (fT.refl _) (.int _ _)
  cases h
 cases h
def RP(args:e_):Option (Option RV):=
 match args with
 |[.one (.p (.sl []))]=>some (some (.one (.p (.sl []))))
 |_=>none
theorem asx{S:Sys}{G:World->Prop}(hS:IQ S G){f n:Nat}{z i g z':Nat}{fn:bd}{ao:aB}(hfn:S.fns f=some fn)(h1:ij S n f [.one (.p .nils)]=some (.one (.p .nils)))
  (h2:ik S n f [.one (.hsl 0 0 z 0 0)] .all AT=some (.one (.hsl i g z' 0 0),ao)) {args:e_} {r:RV} (h:RP args=some (some r)):
  ∀(w:World) (O:Nat->Prop) (as:Array Value),Good G w->(∀c,O c->c<w.heap.size)->Pw (tB w O) args as.toList->Calls S.P f as w (vY w O r):=by
 intro w O as hg hO ha;unfold RP at h;split at h
 .cases h;obtain⟨v,rfl,hp⟩:=pw1 ha;obtain⟨a,cap,rfl,hn,hm⟩:=aby hp;cases a with
  |none=>
   obtain rfl:=hn rfl;refine((sound hS n).1 f _ _ h1 |>.2 w O #[.slice none 0 0] hg hO ⟨rfl,fun j x u p q=>?_⟩).mono ?_
   .cases j with
    |zero=>simp at p q;subst p q;exact cF.nils
    |succ j=>simp at p
   rintro e w' ⟨val,bs,rfl,sX,iw,n9,vs,q1,q2⟩
   obtain⟨v0,oJ,e1,e2,e3,e4⟩:=q2;have hq1:vs=[val]:=q1;subst hq1;cases e1;subst e4;cases e2;exact OB sX (af4 (fun _=>rfl) (bG _))
  |some a=>
   let m0:Mem:=⟨w,AT,fun _=>0,fun _=>0,O⟩
   have au:Ok w m0:=⟨rfl,rfl,rfl,bR _,fun _ _=>rfl,(fun id o h=>by cases h),(fun id o h=>by cases h),hO,(fun id fh o o' h=>by cases h)⟩;refine(((sound hS n).2.1 f _ _ _ _ _ h2).2 w m0 #[.slice (some a) 0 cap] hg au rfl ⟨rfl,fun j x u p q=>?_⟩).mono ?_
   .cases j with
    |zero=>simp at p q;subst p q;exact dx.hsl a cap (bG _) (bG _) hm (fun sz _ h=>by cases h)
    |succ j=>simp at p
   rintro e w' ⟨val,m',rfl,rfl,q1,q2,q3,q4,q5⟩
   have hq:dx m' (.hsl i g z' 0 0) val:=q5;cases hq with
   |hsl a2 cap2 _ _ vC _=>
    refine OB ⟨q2.os,q2.tape,q2.output,q2.size,fun c hc=>q2.keep c hc ?_⟩ (af4 (fun h=>by cases h) vC);rintro ⟨id,o,h,_⟩
    cases h
 cases h
def RQ(args:e_):Option (Option RV):=
 match args with
 |[.one (.p (.sl []))]=>some (some (.one (.p .zs)))
 |_=>none
theorem asw{P:Program}{G:World->Prop}{f:Nat}(h1:∀(w:World) (a:Option Addr) (c:Nat),Calls P f #[.slice a 0 c] w fun e w'=>∃b,e=.returned (.slice b 0 0)/\fT w w'){args:e_}{r:RV}(h:RQ args=some (some r)):
  ∀(w:World) (O:Nat->Prop) (as:Array Value),Good G w->(∀c,O c->c<w.heap.size)->Pw (tB w O) args as.toList->Calls P f as w (vY w O r):=by
 intro w O as hg hO ha;unfold RQ at h;split at h
 .cases h;obtain⟨v,rfl,hp⟩:=pw1 ha;obtain⟨a,cap,rfl,hn,hm⟩:=aby hp;refine(h1 w a cap).mono ?_;rintro e w' ⟨b,rfl,sX⟩
  exact OB sX (cF.zs b)
 cases h
end Go.Abs
namespace Go.Abs
open Go.RowKit Go.WideShapes Go.ChangeShapes
section
variable {H:Type} {enc:TypeId×Value->H} {P:Program} {w:World} {base:Nat} {sp:Nat->Bool} {held:Bool}
theorem avu:∀(n fuel:Nat) (t:TypeId) (cs:List Value) (x:DataW H×List MemPlace),kG P n t=true->DataW.trod enc P w base sp held fuel t cs=some x->Fits maxLen x.1:=by
 intro n
 induction n with
 |zero=>intro fuel t cs x h;simp[kG] at h
 |succ n ih=>
  intro fuel t cs x au h;cases fuel with
  |zero=>simp[DataW.trod] at h
  |succ fuel=>
   rw[DataW.trod_step] at h;unfold DataW.trodStep at h;unfold kG at au;split at h
   case h_1=>cases h;exact .lit _ (fun s h=>by cases h)
   case h_2=>
    split at h
    .cases h;exact .lit _ (fun s h=>by cases h)
    cases h
   case h_4=>
    split at h
    .rename_i hs;cases h;exact .str _ (by simpa using hs)
    cases h
   case h_7=>cases h;exact .nil
   case h_8 e a len cap hu=>
    rw[hu] at au;simp only[cU] at au;simp only at h;split at h
    .rename_i hc;simp only[dS,SP] at h;obtain⟨elems,he,rest,aoZ,rfl⟩:=h;have hlen:elems.length=len:=by simpa using mapM_some_length he
     refine .slice _ _ (by simp;omega) (fun d hd=>?_);obtain⟨y,hy,rfl⟩:=dh.1 hd;obtain⟨i,_,hi⟩:=mapM_mem_of he y hy;simp only[SP] at hi;obtain⟨row,_,h2⟩:=hi;exact ih _ _ _ _ au.2 h2
    cases h
   case h_9=>
    rename_i fs hu;rw[hu] at au;simp only[cU] at au;split at h
    .simp only[dS] at h;obtain⟨xs,hx,rfl⟩:=h;refine .agg _ (fun d hd=>?_);obtain⟨y,hy,rfl⟩:=dh.1 hd;obtain⟨f,hf,hi⟩:=mapM_mem_of hx y hy;exact ih _ _ _ _ (gO.1 au.2 f hf) hi
    cases h
   all_goals(first|(cases h;done)|(simp_all;done)|(exfalso;simp_all;done))
theorem air{n:Nat}:∀ {ts:List TypeId} {vs:List Value} {ds:List (DataW H)} {ps:List MemPlace},(∀t∈ts,kG P n t=true)->DataW.TrodAll enc P w base sp held ts vs ds ps->(∀d∈ds,Fits maxLen d)/\ds.length=ts.length:=by
 intro ts
 induction ts with
 |nil=>
  intro vs ds ps _ h;cases vs<;>cases ds<;>first
   |exact h.elim
   |exact⟨fun d hd=>by simp at hd,rfl⟩
 |cons t ts ih=>
  intro vs ds ps hk h;cases vs with
  |nil=>exact h.elim
  |cons v vs=>
   cases ds with
   |nil=>exact h.elim
   |cons d ds=>
    obtain⟨p,q,⟨fuel,h1⟩,h2,rfl⟩:=h;obtain⟨i1,i2⟩:=ih (fun t ht=>hk t (by simp[ht])) h2;refine⟨fun x hx=>?_,by simp[i2]⟩;rcases cD.1 hx with rfl|hx
    .exact avu n fuel t _ _ (hk t af) h1
    exact i1 x hx
end
section
variable {H:Type} {enc:TypeId×Value->H} {P:Program}
theorem ass{f:Func}{s:ChangeSpec}{apart fresh handsOn again:Bool}{W W':World}{args:Array Value}{v:Value}{ds gs:List (DataW H)}{before pa pv:List MemPlace}
  (hW:DataW.Whole enc P f.params.toList s.vars apart W args.toList ds gs before)
  (BK:∀(b:Nat) (sp:Nat->Bool) (hd:Bool),DataW.TrodAll enc P W' b sp hd f.resultTypes.toList (v.resultList f.resultTypes.size) (s.fn H (ds++gs)).results [])
  (Dm:∀sp:Nat->Bool,(∀p∈before,sp p.block=true)->DataW.TrodAll enc P W' 0 sp true f.params.toList args.toList (s.fn H (ds++gs)).args pa)
  (NY:∀sp:Nat->Bool,(∀p∈before,sp p.block=true)->DataW.TrodVars enc P W' sp s.vars (s.fn H (ds++gs)).vars pv)
  (dR:before=pa++pv) (hb:Below W.heap.size W W')
  (au:∀(j:Nat) (t:TypeId) (r:Value),f.resultTypes[j]?=some t->(v.resultList f.resultTypes.size)[j]?=some r->Value.okWide P W' .any 0 t r):
  s.post enc P f apart fresh handsOn again W args v W':=by
 have aw:∀p∈before,p.block<W.heap.size:=fun p hp=>hW.lt p hp;have hold:∀p∈before,(fun b=>decide (b<W.heap.size)) p.block=true:=fun p hp=>by simpa using aw p hp
 refine⟨ds,gs,before,[],pa,pv,hW,BK _ _ _,Dm _ hold,NY _ hold,World.keptBut_mono (fun p hp=>⟨hp,?_⟩) (hb.frame (· ∈before)),fun _=>?_⟩
 .rw[dR,eK] at hp;exact Or.inr hp
 obtain⟨_,_,_,_,_,hz,hn⟩:=hW;refine⟨au,_,_,([]++pa)++pv,⟨[]++pa,pv,trodAll_append (Dm _ (fun _ _=>rfl)) (BK _ _ _),NY _ (fun _ _=>rfl),rfl,?_,?_⟩,?_⟩
 .intro b off hp;have jS:MemPlace.cell b off∈before:=by rw[dR];simpa using hp
  rw[hb.frozen (aw _ jS)];exact hz b off jS
 .intro ha;have:=hn ha;rw[dR] at this
  simpa using this
 intro p hp _;rw[dR]
 simpa using hp
end
theorem Hi{P:Program}{N n:Nat}{t:TypeId}{k:IntKind}{p:b_}(hu:P.underlying t=some (.int k))(h:kM P N (n+1) t p):∃z,p=[.int k z]/\(Lit.int k z).wf=true:=by simp only[kM,hu] at h;exact h
theorem anV{P:Program}{N n:Nat}{t:TypeId}{p:b_}(hu:P.underlying t=some .bool)(h:kM P N (n+1) t p):∃b,p=[.bool b]:=by simp only[kM,hu] at h;exact h
theorem anW{P:Program}{N n:Nat}{t e:TypeId}{p:b_}(hu:P.underlying t=some (.slice e))(h:kM P N (n+1) t p):∃es,p=[.sl es]/\es.length<=N/\ ∀x∈es,kM P N n e x:=by simp only[kM,hu] at h;exact h
theorem ajK{P:Program}{t:TypeId}{k:TypeDesc}{x:PV}(hu:P.underlying t=some k)(hk:∀fs,k≠ .struct fs):CI P t [x]=.one (.p x):=by
 unfold CI;rw[hu];cases k<;>first
  |rfl
  |exact(hk _ rfl).elim
theorem ajL{P:Program}{t:TypeId}{fs:Array Field}{x:b_}(hu:P.underlying t=some (.struct fs)):CI P t x=.agg (x.map .p):=by unfold CI;rw[hu]
theorem apN{S:Sys}{G:World->Prop}(hS:IQ S G)(Nn:∀w,G w->Good G w){fn:Func}{s:ChangeSpec}{f n N:Nat}{handsOn again fresh apart:Bool}(NY:s.vars=[])
  (hfn:∀(H:Type) (ds:List (DataW H)),ds.length=fn.params.toList.length->s.fn H ds={results:=[.lit (.bool true)],args:=ds}) {tb:TypeId} (BK:fn.resultTypes= #[tb]) (htb:S.P.underlying tb=some .bool)
  (hk:∀t∈fn.params.toList,kG S.P n t=true) (law:∀pvss,O6 S.P N n fn.params.toList pvss->aK S f (CJ S.P fn.params.toList pvss) (.one (.p (.bool true))))
  {H:Type} {enc:TypeId×Value->H} {W:World} {base:Nat} {args:Array Value} {ds gs:List (DataW H)} {before:List MemPlace}
  (hval:∀(j:Nat) t v,fn.params[j]?=some t->args[j]?=some v->Value.okWide S.P W .any base t v)
  (hW:DataW.Whole enc S.P fn.params.toList s.vars apart W args.toList ds gs before) (hG:G W) (hfit:∀d∈ds,Fits N d):
  Calls S.P f args W fun e W'=>∃v,e=.returned v/\s.post enc S.P fn apart fresh handsOn again W args v W':=by
 have hW':=hW;obtain⟨p,q,hA,hV,rfl,hfz,iw⟩:=hW;rw[NY] at hV;obtain⟨rfl,rfl⟩:=trodVars_none hV;obtain⟨_,hlen⟩:=air hk hA;obtain⟨pvss,h1,h2⟩:=ajR (r:=.any) (b0:=base) hk (fun j t v a b=>hval j t v (by simpa using a) (by simpa using b)) hA hfit;refine((law pvss h1).calls hS W (Nn W hG) args h2).mono ?_;rintro e W' ⟨val,bs,rfl,hg,_,_,vs,q1,q2⟩
 obtain⟨v0,oJ,e1,e2,e3,e4⟩:=q2;have hq1:vs=[val]:=q1;subst hq1;cases e1;have hv:val=.bool true:=by
  generalize hx:PV.bool true=x at e2;cases e2<;>cases hx
  rfl
 subst hv;have hb:Below W.heap.size W W':=⟨hg.os,hg.tape,hg.output,hg.size,hg.keep⟩;have aw:∀x∈p++[],x.block<W.heap.size:=fun x hx=>hW'.lt x hx;refine⟨_,rfl,ass (pa:=p) (pv:=[]) hW' ?_ ?_ ?_ rfl hb ?_⟩
 .intro b sp hd;rw[jA,hfn H ds hlen,BK];exact trodAll_cons_mk (shut_bool htb _) trodAll_mk0
 .intro Im qc;rw[jA,hfn H ds hlen];exact avs (fun t ht=>⟨n,hk t ht⟩) hA (fun x hx=>hb.same (aw x (by simpa using hx))) (fun x hx=>qc x (by simpa using hx))
 .intro Im qc;rw[jA,hfn H ds hlen,NY];rfl
 exact ok_one BK rfl (okWide_bool_mk htb _)
end Go.Abs
namespace Go.Abs
theorem ag9(ak:Env)(t:Nat)(v:V):put ak (some t) v=dU ak t v:=rfl
theorem ag7(ak:Env)(v:V):put ak none v=ak:=rfl
theorem abJ(ak:Env)(n:Nat):ev ak (.t n)=ak n:=rfl
theorem abH(ak:Env)(n:Int):ev ak (.i n)=.one (.p (.int .i64 n)):=rfl
theorem abG(ak:Env)(x:Bool):ev ak (.b x)=.one (.p (.bool x)):=rfl
theorem abI(ak:Env)(v:V):ev ak (.k v)=v:=rfl
theorem aey(a:V)(l:e_):th (a::l) 0=a:=rfl
theorem aex(a:V)(l:e_)(n:Nat):th (a::l) (n+1)=th l n:=rfl
def Ga(v:V)(want:Bool):Option Bool:=match v with
 | .one (.p (.bool b))=>some (b==want)
 | .undef=>some false
 |_=>none
theorem aiH(b want:Bool):Ga (.one (.p (.bool b))) want=some (b==want):=rfl
theorem aiI(want:Bool):Ga .undef want=some false:=rfl
section
variable {S:Sys} {al:Al} {o:bJ} {ak:Env} {aj:aB} {tr:i_} {K:Env->aB->i_->Prop} {d:w_}
theorem aah{id:Nat}{Q:dO}:nh id Q .normal ak aj=Q .normal ak aj:=rfl
theorem aai{id:Nat}{Q:dO}:nh id Q .ret ak aj=Q .ret ak aj:=rfl
theorem aag{id i:Nat}{Q:dO}:nh id Q (.exit i) ak aj=if i=id then Q .normal ak aj else Q (.exit i) ak aj:=rfl
end
def WN (S:Sys)(al:Al)(ops:h_)(Q:Env->aB->Prop)(ak:Env)(aj:aB):Prop:=∀tr,WO S al ops (fun ak aj _=>Q ak aj) ak aj tr
def JM(S:Sys)(al:Al)(p:fH)(d:w_)(ak:Env)(aj:aB)(K:Env->aB->Prop):Prop:=
 match p with
 | .fail=>False
 | .done v u r=>al.fP (r++u.map (·.1))=true/\K (put ak d v) (app u aj)
 | .pc f vs r s=>∃x,aK S f vs x/\match land aj r s (x.gJ (S.lone s)) with
  |some (v,u)=>al.fP (r++u.map (·.1))=true/\K (put ak d v) (app u aj)
  |none=>False
 | .sc f vs=>al.holds (allow (S.ctx al) f vs aj)=true/\ ∃v ao,jm S f vs (allow (S.ctx al) f vs aj) aj v ao/\K (put ak d v) ao
def Qg(S:Sys)(al:Al)(w:Option Bool)(o:bJ)(ak:Env)(aj:aB)(K:Env->aB->Prop):Prop:=
 match w with
 |none=>False
 |some false=>K (put ak o.dst .undef) aj
 |some true=>JM S al (bK S.shared ak aj o.op) o.dst ak aj K
section
variable {S:Sys} {al:Al} {ak:Env} {aj:aB}
theorem ai3{ops:h_}{R R':Env->aB->Prop}{tr tr':i_}(h:WO S al ops (fun ak aj _=>R ak aj) ak aj tr)(hR:∀e b,R e b->R' e b):WO S al ops (fun ak aj _=>R' ak aj) ak aj tr':=by obtain⟨n,e,b,es,h1,h2⟩:=h;exact⟨n,e,b,es,h1,hR _ _ h2⟩
theorem ajg{ops:h_}{Q:dO}:W S al (.region false ops) Q ak aj↔WN S al ops (fun ak aj=>Q .normal ak aj) ak aj:=by
 rw[ZG];constructor
 .intro h tr;obtain⟨n,e,b,es,h1,_,h2⟩:=h;exact⟨n,e,b,es,h1,h2⟩
 intro h;obtain⟨n,e,b,es,h1,h2⟩:=h [];exact⟨n,e,b,es,h1,(fun h=>by cases h),h2⟩
theorem ai2{R:Env->aB->Prop}:WN S al [] R ak aj↔R ak aj:=⟨fun h=>SV.1 (h []),fun h _=>SV.2 h⟩
theorem adE{o:bJ}{os:h_}{R:Env->aB->Prop}{w:Option Bool}(tr:i_):EY S al w o ak aj tr (WO S al os fun e b _=>R e b)↔Qg S al w o ak aj (WN S al os R):=by
 have k:∀ {e:Env} {b:aB} {t:i_},WO S al os (fun e b _=>R e b) e b t↔WN S al os R e b:=fun {e b t}=>⟨fun h t'=>ai3 h fun _ _ h=>h,fun h=>h t⟩;cases w with
 |none=>exact Iff.rfl
 |some w=>
  cases w with
  |false=>exact k (t:=tr++[⟨[],[],[]⟩])
  |true=>
   simp only[EY,Qg];cases bK S.shared ak aj o.op with
   |fail=>exact Iff.rfl
   |done v u r=>simp only[G0,JM,k]
   |pc f vs r s=>
    simp only[G0,JM];refine exists_congr fun x=>and_congr Iff.rfl ?_;cases land aj r s (x.gJ (S.lone s)) with
    |none=>exact Iff.rfl
    |some y=>simp only[k]
   |sc f vs=>simp only[G0,JM,k]
theorem ZC{o:bJ}{os:h_}{R:Env->aB->Prop}:WN S al (o::os) R ak aj↔Qg S al (wanted ak o.guard) o ak aj (WN S al os R):=by
 constructor
 .intro h;exact(adE []).1 (O9.1 (h []))
 intro h tr;exact O9.2 ((adE tr).2 h)
variable {o:bJ} {K:Env->aB->Prop} {d:w_}
end
theorem bft:(false==true)=false:=rfl
theorem btf:(true==false)=false:=rfl
theorem bff:(false==false)=true:=rfl
theorem btt:(true==true)=true:=rfl
theorem agG{aj:aB}{x:PV}:jd aj (.one (.p x))=some (.one (.p x)):=rfl
theorem norm_int(k:IntKind)(n:Int):(PV.int k n).norm=.int k n:=rfl
theorem agi(b:Bool):(PV.bool b).norm=.bool b:=rfl
theorem agq(s:ByteArray):(PV.str s).norm=.str s:=rfl
theorem ago:PV.nils.norm=.sl []:=rfl
theorem agp(es:s_):(PV.sl es).norm=.sl es:=rfl
theorem X5(es:b_):(PV.box es).norm=.box es:=rfl
theorem agj(f:Nat)(a b:b_):(PV.fn f a b).norm=.fn f a b:=rfl
theorem agn:PV.vJ.norm=.vJ:=rfl
theorem agl:PV.wT.norm=.wT:=rfl
theorem agm:PV.sA.norm=.sA:=rfl
theorem agk(a:Bool)(e:t_):(PV.mp a e).norm=.mp a e:=rfl
theorem ahZ{aj:aB}:Cn aj []=some ([],[]):=rfl
def YJ(x:Option (V×a_))(y:Option (e_×a_)):Option (e_×a_):=match x,y with
 |some (b,x),some (bs,y)=>some (b::bs,x++y)
 |_,_=>none
theorem ahY{aj:aB}{x:V}{xs:e_}:Cn aj (x::xs)=YJ (pN aj x) (Cn aj xs):=by simp only[Cn,YJ,collect];cases pN aj x<;>cases collect (pN aj) xs<;>rfl
theorem ahU{b:V}{x:a_}{bs:e_}{y:a_}:YJ (some (b,x)) (some (bs,y))=some (b::bs,x++y):=rfl
theorem ahX{aj:aB}{x:PV}:pN aj (.one (.p x))=some (.one (.p x.norm),[]):=rfl
end Go.Abs
