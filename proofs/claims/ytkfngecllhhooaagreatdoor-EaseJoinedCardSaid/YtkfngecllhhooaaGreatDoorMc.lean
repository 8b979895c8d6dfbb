/-
  Each operation of the abstract machine is what the program does: the second part.
-/
import Derived.Test.YtkfngecllhhooaaGreatDoorMa
import Derived.Laws.BytesString
import Derived.LoopN
import Derived.Scope
import Derived.Orders
import Derived.ChangeReads
import Derived.ChangeStays
import Derived.DataReads
import Derived.Below
import Derived.Sort.Grow
import Derived.Deep.Draws
import Derived.Lib.ItoaNum
import Derived.Lib.Join
import Derived.Lib.BitFns
import Derived.Lib.LaidTab
import Derived.ChangeSame
import Derived.ProofKit
import Derived.OpenShut
set_option linter.all false
namespace Go.Abs
variable {P:Program} {w0:World}
section
variable{ag:Bool}
def Vi(w:World)(own:Nat->Prop)(ag:Bool)(es:List (PV×List PV))(ents:Array MapEntry):Prop:=ents.size=es.length/\ ∀(i:Nat) (q:PV) (v:List PV) (e:MapEntry),es[i]?=some (q,v)->ents[i]?=some e->aZ w own q e.key/\ ∃g:Array Value,(ag=true->e.val=.agg g)/\(ag=false-> #[e.val]=g)/\aR w own v g.toList
theorem lV{w:World}{r:Nat}{es:Array MapEntry}{clock:Nat}(hb:w.heap[r]?=some (.map es clock)):(getObj r).run P w=.ok (.map es clock) w:=by simp[getObj,Sem.run,hb]
theorem xZ{w:World}{r:Nat}{es:Array MapEntry}{clock:Nat}{ob:Obj}(hb:w.heap[r]?=some (.map es clock)):(setObj r ob).run P w=.ok () {w with heap:=w.heap.setIfInBounds r ob}:=by simp[setObj,Sem.run,hb]
theorem Kf{w:World}{own:Nat->Prop}{es:List (PV×List PV)}{v:Value}(h:aZ w own (.mp ag es) v):
  ∃r ents clock,v=.map (some r)/\w.heap[r]?=some (.map ents clock)/\Vi w own ag es ents:=by
 cases h with
 |mp r ents clock g ho hb hl hk hv hr=>
  refine⟨r,ents,clock,rfl,hb,hl,fun i q v e h1 h2=>⟨hk i q v e h1 h2,g i,(hv i q v e h1 h2).2.1,(hv i q v e h1 h2).2.2,?_,fun j x u a b=>?_⟩⟩
  .simpa using (hv i q v e h1 h2).1
  exact hr i q v j x u h1 a (by simpa using b)
theorem nz{m:Mem}(hok:Ok w0 m){id g:Nat}{v:Value}(h:aX m (.one (.aaT id g)) v){es:List (PV×List PV)}(hb:m.blk id=(g,some (.map ag es))\/m.blk id=(g,some (.fmap ag es))):
  ∃r ents clock,v=.map (some r)/\r=m.σ id/\m.w.heap[r]?=some (.map ents clock)/\Vi m.w m.own ag es ents:=by
 have h:bJ m (.aaT id g) v:=h;cases h with
 |aaT r hg hr=>
  rcases hb with hb|hb
  .obtain⟨ents,clock,h1,h2,h3⟩:=hok.obj id _ (congrArg Prod.snd hb);have:=hr (by rw[hb]) (by rw[hb];rfl);subst this;exact⟨_,ents,clock,rfl,rfl,h1,h2,h3⟩
  obtain⟨ents,clock,h1,h2,h3,_⟩:=hok.obj id _ (congrArg Prod.snd hb);have:=hr (by rw[hb]) (by rw[hb];rfl);subst this;exact⟨_,ents,clock,rfl,rfl,h1,h2,h3⟩
theorem Mt{m:Mem}(hok:Ok w0 m){x:V}{v:Value}{es:List (PV×List PV)}{r:List Nat}(h:mapOf m.blk ag x=some (es,r))(hv:aX m x v):
  ∃ents:Array MapEntry,((v=.map none/\ents= #[])\/ ∃ref clock,v=.map (some ref)/\m.w.heap[ref]?=some (.map ents clock))/\Vi m.w m.own ag es ents:=by
 unfold mapOf at h;split at h
 .cases h;exact⟨#[],.inl ⟨F0 hv,rfl⟩,rfl,fun i q v e h=>by simp at h⟩
 .rename_i ag' es';split at h
  .rename_i e;subst e;cases h;obtain⟨hp⟩:bJ m _ v:=hv;obtain⟨r,ents,clock,h1,h2,h3⟩:=Kf hp;exact⟨ents,.inr ⟨r,clock,h1,h2⟩,h3⟩
  cases h
 .rename_i id g;split at h
  .rename_i g' ag' es' hb;split at h
   .rename_i hc;obtain⟨rfl,rfl⟩:=hc;cases h;obtain⟨r,ents,clock,h1,_,h2,h3⟩:=nz hok hv (.inl hb);exact⟨ents,.inr ⟨r,clock,h1,h2⟩,h3⟩
   cases h
  .rename_i g' ag' es' hb;split at h
   .rename_i hc;obtain⟨rfl,rfl⟩:=hc;cases h;obtain⟨r,ents,clock,h1,_,h2,h3⟩:=nz hok hv (.inr hb);exact⟨ents,.inr ⟨r,clock,h1,h2⟩,h3⟩
   cases h
  cases h
 cases h
theorem PN{m:Mem}(hok:Ok w0 m){x:V}{v:Value}{n:Nat}{r:List Nat}(h:yL m.blk x=some (n,r))(hv:aX m x v):
  (v=.map none/\n=0)\/ ∃ref ents clock,v=.map (some ref)/\m.w.heap[ref]?=some (.map ents clock)/\ents.size=n:=by
 unfold yL at h;split at h
 .cases h;exact .inl ⟨F0 hv,rfl⟩
 .cases h;obtain⟨hp⟩:bJ m _ v:=hv;obtain⟨r,ents,clock,h1,h2,h3⟩:=Kf hp;exact .inr ⟨r,ents,clock,h1,h2,h3.1⟩
 .rename_i id g;split at h
  .rename_i g' ag' es' hb;split at h
   .rename_i hc;subst hc;cases h;obtain⟨r,ents,clock,h1,_,h2,h3⟩:=nz hok hv (.inl hb);exact .inr ⟨r,ents,clock,h1,h2,h3.1⟩
   cases h
  .rename_i g' ag' es' hb;split at h
   .rename_i hc;subst hc;cases h;obtain⟨r,ents,clock,h1,_,h2,h3⟩:=nz hok hv (.inr hb);exact .inr ⟨r,ents,clock,h1,h2,h3.1⟩
   cases h
  cases h
 cases h
def Hi(kind:TypeDesc)(kd:Nat):Prop:=(kd=0/\ ∃k,kind=.int k)\/(kd=1/\kind=.string)\/(kd=2/\kind=.bool)
theorem Ca{t:TypeId}{kd:Nat}(h:keyOf P t=some kd):∃kind,P.underlying t=some kind/\Hi kind kd:=by
 unfold keyOf at h;split at h
 .rename_i k hk;cases h;exact⟨_,hk,.inl ⟨rfl,_,rfl⟩⟩
 .rename_i hk;cases h;exact⟨_,hk,.inr (.inl ⟨rfl,rfl⟩)⟩
 .rename_i hk;cases h;exact⟨_,hk,.inr (.inr ⟨rfl,rfl⟩)⟩
 cases h
theorem qx{w:World}{own:Nat->Prop}{k q:PV}{kv qv:Value}{kind:TypeDesc}{b:Bool}(hk:Hi kind (dD k))(h:sameKey k q=some b)(h1:aZ w own k kv)(h2:aZ w own q qv):Instr.sameNow kind kv qv=some b:=by
 unfold sameKey at h;split at h
 .rename_i a b' c d;split at h
  .rename_i e;subst e;cases h;rcases hk with ⟨_,x,rfl⟩|⟨e,_⟩|⟨e,_⟩
   .cases h1;cases h2;simp[Instr.sameNow]
   .simp[dD] at e
   simp[dD] at e
  cases h
 .cases h;rcases hk with ⟨e,_⟩|⟨_,rfl⟩|⟨e,_⟩
  .simp[dD] at e
  .cases h1;cases h2;simp[Instr.sameNow]
  simp[dD] at e
 .cases h;rcases hk with ⟨e,_⟩|⟨e,_⟩|⟨_,rfl⟩
  .simp[dD] at e
  .simp[dD] at e
  cases h1;cases h2;simp[Instr.sameNow]
 cases h
theorem sameKey_eq{w:World}{own:Nat->Prop}{k q:PV}{kv qv:Value}(h:sameKey k q=some true)(h1:aZ w own k kv)(h2:aZ w own q qv):qv=kv:=by
 unfold sameKey at h;split at h
 .split at h
  .rename_i e;subst e;simp at h;subst h;cases h1;cases h2;rfl
  cases h
 .rename_i a b;have e:(a==b)=true:=by simpa using h
  rw[beq_toListBytes] at e;have e:a=b:=by
   have e:a.toList=b.toList:=by simpa using e
   rw[ByteArray.toList_eq,ByteArray.toList_eq] at e;exact ByteArray.ext (Array.toList_inj.1 e)
  subst e;cases h1;cases h2;rfl
 .simp at h;subst h;cases h1;cases h2;rfl
 cases h
theorem Cl{w:World}{own:Nat->Prop}{k:PV}{kv:Value}{kind:TypeDesc}(hk:Hi kind (dD k))(h1:aZ w own k kv):∀ {es:List (PV×List PV)} {l:List MapEntry} {i:Nat} {f:Option (Nat×List PV)},
  l.length=es.length->(∀(j:Nat) (q:PV) (v:List PV) (e:MapEntry),es[j]?=some (q,v)->l[j]?=some e->aZ w own q e.key)->iG k es i=some f->
  (f=none/\Instr.findNow kind kv l i=some none)\/ ∃j q v e,f=some (i+j,v)/\es[j]?=some (q,v)/\l[j]?=some e/\sameKey k q=some true/\Instr.findNow kind kv l i=some (some (i+j,e.val)):=by
 intro es
 induction es with
 |nil=>
  intro l i f hl _ hf;simp[iG] at hf;cases l with
  |nil=>exact .inl ⟨hf.symm,rfl⟩
  |cons _ _=>simp at hl
 |cons p r ih=>
  intro l i f hl hq hf;obtain⟨a,v⟩:=p;cases l with
  |nil=>simp at hl
  |cons e l=>
   have hpe:=hq 0 a v e rfl rfl;simp only[iG] at hf;split at hf
   .rename_i hs;cases hf;exact .inr ⟨0,a,v,e,rfl,rfl,rfl,hs,by simp[Instr.findNow,qx hk hs h1 hpe]⟩
   .rename_i hs;rcases ih (l:=l) (i:=i+1) (f:=f) (by simpa using hl) (fun j q v e a b=>hq (j+1) q v e (by simpa using a) (by simpa using b)) hf with ⟨e1,e2⟩|⟨j,q,v',e',e1,e2,e3,e4,e5⟩
    .exact .inl ⟨e1,by simp[Instr.findNow,qx hk hs h1 hpe,e2]⟩
    refine .inr ⟨j+1,q,v',e',by rw[e1];congr 2;omega,by simpa using e2,by simpa using e3,e4,?_⟩;simp only[Instr.findNow,qx hk hs h1 hpe,e5];congr 3;omega
   cases hf
theorem A2{t:TypeId}{kind:TypeDesc}{kd:Nat}{b:Bool}{v:Value}(w:World)(h:P.underlying t=some kind)(hk:Hi kind kd)(n:Nat):(Instr.checkKey b (n+1) t v).run P w=.ok () w:=by rcases hk with ⟨_,k,rfl⟩|⟨_,rfl⟩|⟨_,rfl⟩<;>simp[Instr.checkKey,run_underlying h]
theorem jo{t:TypeId}{kind:TypeDesc}{kd:Nat}{b:Bool}{v:Value}(w:World)(h:P.underlying t=some kind)(hk:Hi kind kd):(Instr.checkKey b 10000 t v).run P w=.ok () w:=A2 w h hk 9999
theorem AT{w:World}{own:Nat->Prop}{k:PV}{kv:Value}{kind:TypeDesc}(hk:Hi kind (dD k))(h:aZ w own k kv)(n:Nat):Instr.sameBits n kv kv=true:=by
 cases h<;>first
  |(simp[dD,Hi] at hk;done)
  |(simp[Instr.sameBits];done)
  |(simp[Instr.sameBits,beq_toListBytes];done)
theorem vq{w0 w:World}{own:Nat->Prop}{k:PV}{kv:Value}{kind:TypeDesc}(hk:Hi kind (dD k))(h:aZ w0 own k kv):(Instr.keyThatStays kv kv).run P w=.ok kv w:=by rw[Instr.keyThatStays,AT hk h,if_pos rfl];rfl
theorem mB{t:TypeId}{kind:TypeDesc}{v:Value}{l:List MapEntry}{r:Option (Nat×Value)}(w:World)(h:P.underlying t=some kind)(hf:Instr.findNow kind v l 0=some r):(Instr.findKey t v l).run P w=.ok r w:=by simp[Instr.findKey,run_underlying h,hf]
theorem yH{m:Mem}{v:List PV}{x:V}{val:Value}{g:Array Value}(h:mapVal ag v=some x)(h1:ag=true->val=.agg g)(h2:ag=false-> #[val]=g)(hp:aR m.w m.own v g.toList):aX m x val/\ia m x val:=by
 cases ag with
 |true=>simp only[mapVal,aaV] at h;subst h;exact⟨aX.agg.2 ⟨g,h1 rfl,hp.SI⟩,⟨g,h1 rfl,hp.SI⟩⟩
 |false=>
  have h2:=h2 rfl;subst h2;cases v with
  |nil=>simp[mapVal] at h
  |cons c r=>
   cases r with
   |nil=>simp only[mapVal,aaV] at h;subst h;have:=hp.2 0 c val rfl rfl;exact⟨kZ this,bJ.p this⟩
   |cons _ _=>simp[mapVal] at h
section
variable {m:Mem} {env:Env} {a:Act} {o:Oper} (hok:Ok w0 m) (hr:gL m env a.tmps)
include hok
theorem LI{t kt e:TypeId}{s:Nat}(ho:o.op=.makeMap t none):
  eI P w0 a.eval o m (.one (.aaT s ((m.blk s).1+1))) [(s,((m.blk s).1+1,some (.map ag [])))]:=by
 refine⟨.map (some m.w.heap.size),m.fresh (.map #[] 0) s 0 (.map ag []),.inl ?_,Gc hok _ s 0 _ ⟨#[],0,zg _ s 0 _,rfl,fun i q v e h=>by simp at h⟩,uy _ s 0 _,zh hok _ s 0 _,vx _ _ s 0 _,aX.one.2 (.aaT _ ?_ fun _ _=>?_)⟩
 .simp[execOp,ho,Instr.makeMap];rfl
 .simp[Mem.fresh,Mem.install,Mem.later,aa]
 simp[Mem.fresh,Mem.install,aa]
include hr
theorem On{c:Call}{x:Operand}{x':aC}{t k e:TypeId}{n:Nat}{r:List Nat}(ho:o.op=.call c)(hc:c.callee=.builtin .len)(has:c.args= #[x])(hat:c.argTypes[0]?=some t)(ht:P.underlying t=some (.map k e))
  (hx:bh x=some x') (hv:yL m.blk (ev env x')=some (n,r)):eI P w0 a.eval o m (.one (.p (.int .i64 n))) []:=by
 refine .calm hok ?_ (kZ (.int _ _));have h0:(#[a.eval x]:Array Value)[0]?=some (a.eval x):=rfl;rcases PN hok hv (aE hx hr) with ⟨h1,rfl⟩|⟨ref,ents,clock,h1,h2,rfl⟩
 .simp[execOp,ho,resolve,hc,has,hat,invoke,builtin,Builtin.len_,run_underlying ht,h1,goInt]
 simp[execOp,ho,resolve,hc,has,hat,invoke,builtin,Builtin.len_,run_underlying ht,h1,goInt,lV h2]
theorem HJ{t kt e:TypeId}{x k:Operand}{x' k':aC}{ok:Bool}{z:List PV}{q:Option Nat}{kd:Nat}{es:List (PV×List PV)}{r:List Nat}{key:PV}{f:Option (Nat×List PV)}{w:V}(ho:o.op=.lookup t x k ok)(ht:P.underlying t=some (.map kt e))
  (hz:sF P e=some z) (hkd:keyOf P kt=some kd) (hag:Sw P e=q.isSome) (hx:bh x=some x') (hk:bh k=some k') (hm:mapOf m.blk q.isSome (ev env x')=some (es,r)) (hke:ev env k'=.one (.p key)) (hkk:dD key=kd)
  (hf:iG key es 0=some f) (hw:mapVal q.isSome ((f.map (·.2)).getD z)=some w):eI P w0 a.eval o m (if ok then .tup [w,.one (.p (.bool f.isSome))] else w) []:=by
 obtain⟨kind,abE,ady⟩:=Ca hkd;obtain⟨ents,afo,hl,aax⟩:=Mt hok hm (aE hx hr);have hkr:=aE hk hr;rw[hke] at hkr;obtain⟨hkp⟩:bJ m _ _:=hkr;have hes:(∃ref clock,a.eval x=.map (some ref)/\m.w.heap[ref]?=some (.map ents clock))\/a.eval x=.map none/\ents= #[]:=by
  rcases afo with h|h
  .exact .inr h
  exact .inl h
 have key:∀(val:Value) (b:Bool),aX m w val->ia m w val->f.isSome=b->(Instr.lookup t (a.eval x) (a.eval k) ok).run P m.w=.ok (if ok then .tuple #[val,.bool b] else val) m.w->eI P w0 a.eval o m (if ok then .tup [w,.one (.p (.bool f.isSome))] else w) []:=by
  intro val b h1 h1' h2 h3;refine .calm hok (x:=if ok then .tuple #[val,.bool b] else val) ?_ ?_
  .simp[execOp,ho,h3]
  cases ok
  .exact h1
  refine⟨_,rfl,rfl,fun j y u p q=>?_⟩;rcases j with _|_|j
  .simp at p q;subst p q;exact h1'
  .simp at p q;subst p q;rw[h2];exact bJ.p (.bool _)
  simp at p
 rcases Cl (kind:=kind) (by rw[hkk];exact ady) hkp (l:=ents.toList) (by simpa using hl) (fun j q v e h1 h2=>(aax j q v e h1 (by simpa using h2)).1) hf with ⟨rfl,hn⟩|⟨j,q',v,e',rfl,h2,h3,_,hn⟩
 .obtain⟨zv,i,hi,hiz,hzs,hzl,hps⟩:=m7 hz;obtain⟨v1,v2⟩:=yH (m:=m) (val:=zv) (g:=zv.cells) hw (fun hq=>by
    rw[hq] at hag;unfold Sw at hag;rw[hi] at hag;simp only[hiz] at hag;cases zv<;>simp[Value.cells] at hag ⊢) (fun hq=>by
    rw[hq] at hag;unfold Sw at hag;rw[hi] at hag;simp only[hiz] at hag;cases zv<;>simp[Value.cells] at hag ⊢) (hps m.w m.own)
  refine key zv false v1 v2 rfl ?_;have hfk:=mB (P:=P) m.w abE hn;rcases hes with ⟨ref,clock,h1,h2⟩|⟨h1,h2⟩
  .cases ok<;>simp[Instr.lookup,run_underlying ht,h1,lV h2,jo m.w abE ady,hfk,zeroValue,typeInfo,hi,hiz]
  subst h2;cases ok<;>simp[Instr.lookup,run_underlying ht,h1,jo m.w abE ady,Instr.findKey,run_underlying abE,Instr.findNow,zeroValue,typeInfo,hi,hiz]
 obtain⟨hqk,g,hg1,hg2,hps⟩:=aax j q' v e' h2 (by simpa using h3);obtain⟨v1,v2⟩:=yH hw hg1 hg2 hps;refine key e'.val true v1 v2 rfl ?_;have hfk:=mB (P:=P) m.w abE hn;rcases hes with ⟨ref,clock,h1,h2⟩|⟨h1,h2⟩
 .cases ok<;>simp[Instr.lookup,run_underlying ht,h1,lV h2,jo m.w abE ady,hfk]
 subst h2;simp at h3
theorem Fa{t kt e:TypeId}{x k y:Operand}{x' k' y':aC}{kd:Nat}{ag:Bool}{id g:Nat}{es:List (PV×List PV)}{key:PV}{cs:List C}{ps:List PV}{f:Option (Nat×List PV)}(ho:o.op=.mapUpdate t x k y\/o.op=.insert t x k y)(ht:P.underlying t=some (.map kt e))
  (hkd:keyOf P kt=some kd) (hx:bh x=some x') (hk:bh k=some k') (hy:bh y=some y') (hm:ev env x'=.one (.aaT id g)) (hb:m.blk id=(g,some (.map ag es))) (hke:ev env k'=.one (.p key)) (hkk:dD key=kd)
  (hcs:iK ag (ev env y')=some cs) (hps:AS cs=some ps) (hf:iG key es 0=some f):
  eI P w0 a.eval o m .undef [(id,(g,some (.map ag (match f with|some (i,_)=>es.set i (key,ps)|none=>es++[(key,ps)]))))]:=by
 obtain⟨kind,abE,ady⟩:=Ca hkd;have hxr:=aE hx hr;rw[hm] at hxr;have hid:=congrArg Prod.snd hb;have hg:=congrArg Prod.fst hb;obtain⟨ref,ents,clock,hxv,aam,hh,hl,aax⟩:=nz hok hxr (.inl hb);subst aam;have hkr:=aE hk hr;rw[hke] at hkr;obtain⟨hkp⟩:bJ m _ _:=hkr;have hyr:=aE hy hr
 -- the value's cells
 have hval:∃gv:Array Value,(ag=true->a.eval y=.agg gv)/\(ag=false-> #[a.eval y]=gv)/\aR m.w m.own ps gv.toList:=by
  generalize ev env y'=vy at hcs hyr;cases ag with
  |true=>
   cases vy<;>simp[iK] at hcs
   subst hcs;obtain⟨arr,h1,h2⟩:=aX.agg.1 hyr;exact⟨arr,fun _=>h1,fun h=>(by cases h),qo hps h2⟩
  |false=>
   cases vy<;>simp[iK] at hcs
   subst hcs;refine⟨#[a.eval y],fun h=>(by cases h),fun _=>rfl,qo hps ⟨rfl,fun j x u p q=>?_⟩⟩;rcases j with _|j
   .simp at p q;subst p q;exact hyr
   simp at p
 obtain⟨gv,hv1,hv2,hvp⟩:=hval;have hlt:=gn hh;have amQ:∀(acg:Array MapEntry) (abK:Nat) (es':List (PV×List PV)),(execOp a.eval o).run P m.w=.ok .skip {m.w with heap:=m.w.heap.setIfInBounds (m.σ id) (.map acg abK)}->Vi m.w m.own ag es' acg->
   eI P w0 a.eval o m .undef [(id,(g,some (.map ag es')))]:=by
  intro acg abK es' aa6 afo;have hs:(m.w.heap.setIfInBounds (m.σ id) (.map acg abK)).size=m.w.heap.size:=by simp
  have hko:∀c,c≠m.σ id->(m.w.heap.setIfInBounds (m.σ id) (.map acg abK))[c]?=m.w.heap[c]? :=fun c hc=>by rw[Array.getElem?_setIfInBounds];rw[if_neg (fun e=>hc e.symm)]
  have hev:Ev m (m.iL {m.w with heap:=m.w.heap.setIfInBounds (m.σ id) (.map acg abK)} id (.map ag es')):=tP hid rfl rfl rfl rfl rfl hs hko;refine⟨_,m.iL {m.w with heap:=m.w.heap.setIfInBounds (m.σ id) (.map acg abK)} id (.map ag es'),.inr ⟨aa6,rfl⟩,w7 hid rfl hok rfl rfl rfl rfl hs hko ?_,hev,rfl,?_,rfl⟩
  .refine⟨acg,abK,?_,afo.1,fun i q v e h1 h2=>?_⟩
   .show(m.w.heap.setIfInBounds (m.σ id) (.map acg abK))[m.σ id]?=_;rw[Array.getElem?_setIfInBounds,if_pos rfl,if_pos hlt]
   obtain⟨p1,gg,p2,p3,p4⟩:=afo.2 i q v e h1 h2;exact⟨p1.ev hev.zero,gg,p2,p3,p4.ev hev.zero⟩
  simp only[Mem.iL,app,hg]
 rcases Cl (kind:=kind) (by rw[hkk];exact ady) hkp (l:=ents.toList) (by simpa using hl) (fun j q v e h1 h2=>(aax j q v e h1 (by simpa using h2)).1) hf with ⟨rfl,hn⟩|⟨j,q',v,e',rfl,h2,h3,h4,hn⟩
 .refine amQ (ents.push {key:=a.eval k,val:=a.eval y,born:=clock}) (clock+1) _ ?_ ?_
  .have hfk:=mB (P:=P) m.w abE hn;rcases ho with ho|ho<;>simp[execOp,ho,Instr.mapUpdate,run_underlying ht,hxv,lV hh,jo m.w abE ady,hfk,xZ hh]
  refine⟨by simp[hl],fun i q v e h1 h2=>?_⟩;by_cases hi:i<es.length
  .rw[acN hi] at h1;rw[Array.getElem?_push,if_neg (by omega)] at h2;exact aax i q v e h1 h2
  rw[acA (by omega)] at h1;have:i=es.length:=by
   by_cases h:i-es.length=0
   .omega
   have:=(aai.1 h1).1;simp at this;omega
  subst this;simp at h1;obtain⟨rfl,rfl⟩:=h1;rw[Array.getElem?_push,if_pos hl.symm] at h2;cases h2;exact⟨hkp,gv,hv1,hv2,hvp⟩
 have h3':ents[j]?=some e':=by simpa using h3
 have hqe:e'.key=a.eval k:=sameKey_eq h4 hkp (aax j q' v e' h2 h3').1;refine amQ (ents.modify j fun e=>{e with key:=a.eval k,val:=a.eval y}) clock _ ?_ ?_
 .have hfk:=mB (P:=P) m.w abE hn;rw[abd] at hfk;have hks:(Instr.keyThatStays e'.key (a.eval k)).run P m.w=.ok (a.eval k) m.w:=by rw[hqe];exact vq (kind:=kind) (by rw[hkk];exact ady) hkp
  rcases ho with ho|ho<;>simp[execOp,ho,Instr.mapUpdate,run_underlying ht,hxv,lV hh,jo m.w abE ady,hfk,xZ hh,h3',hks]
 simp only[abd];refine⟨by simp[hl],fun i q v e h1 h2=>?_⟩;rw[abI] at h1;rw[Array.getElem?_modify] at h2;by_cases hij:j=i
 .subst hij;rw[if_pos rfl] at h1;split at h1
  .cases h1;simp[h3'] at h2;subst h2;exact⟨hkp,gv,hv1,hv2,hvp⟩
  cases h1
 rw[if_neg hij] at h1;rw[if_neg hij] at h2;exact aax i q v e h1 h2
end
end
end Go.Abs
namespace Go.Abs
variable {P:Program} {w0:World}
theorem we{t:TypeId}{b:Bool}(h:Dj P t=some b):(b=true/\ ∃k,P.underlying t=some (.int k))\/(b=false/\P.underlying t=some .bool):=by
 unfold Dj at h;split at h
 .rename_i k hk;cases h;exact .inl ⟨rfl,_,hk⟩
 .rename_i hk;cases h;exact .inr ⟨rfl,hk⟩
 cases h
theorem QI{a b:PV}{r:Bool}(h:Hm true a b=some r):∃k x y,a=.int k x/\b=.int k y/\r=(x==y):=by
 cases a<;>cases b<;>simp[Hm] at h
 exact⟨_,_,_,rfl,by rw[h.1],h.2.symm⟩
theorem M5{a b:PV}{r:Bool}(h:Hm false a b=some r):∃x y,a=.bool x/\b=.bool y/\r=(x==y):=by
 cases a<;>cases b<;>simp[Hm] at h
 exact⟨_,_,rfl,rfl,h.symm⟩
theorem QH{as bs:List C}{r:Bool}(h:tv [] as bs=some r):r=true:=by
 cases as<;>cases bs<;>simp[tv] at h
 exact h
theorem M4{k:Bool}{ks:List Bool}{as bs:List C}{r:Bool}(h:tv (k::ks) as bs=some r):
  ∃a ar b br r0,as=.p a::ar/\bs=.p b::br/\Hm k a b=some r0/\(r0=true->tv ks ar br=some r)/\(r0=false->r=false):=by
 cases as with
 |nil=>simp[tv] at h
 |cons x ar=>
  cases bs with
  |nil=>cases x<;>simp[tv] at h
  |cons y br=>
   cases x<;>cases y<;>simp only[tv] at h<;>try cases h
   rename_i a b;cases he:Hm k a b with
   |none=>simp[he] at h
   |some r0=>
    refine⟨a,ar,b,br,r0,rfl,rfl,he,fun e=>?_,fun e=>?_⟩
    .subst e;simpa [he] using h
    subst e;simp[he] at h;exact h
theorem Ea{w:World}{m:Mem}(d:Nat){A B:Array Value}:∀ {fs:List Field} {ks:List Bool} {k:Nat} {as bs:List C} {r:Bool},rG P k fs=some ks->tv ks as bs=some r->
  (∀(j:Nat) (x:C),as[j]?=some x->∃v,A[k+j]?=some v/\bJ m x v)->(∀(j:Nat) (x:C),bs[j]?=some x->∃v,B[k+j]?=some v/\bJ m x v)->
  (Op.eqFields (d+1) A B fs).run P w=.ok r w:=by
 intro fs
 induction fs with
 |nil=>intro ks k as bs r hf he _ _;simp[rG] at hf;subst hf;rw[QH he];simp[Op.eqFields,Sem.run_pure]
 |cons f fs ih=>
  intro ks k as bs r hf he ha hb;simp only[rG] at hf;split at hf
  .rename_i b bs' h1 h2;split at hf
   .rename_i hc;obtain⟨akN,anl⟩:=hc;cases hf;obtain⟨x,ar,y,br,r0,rfl,rfl,h0,ht,hf⟩:=M4 he;obtain⟨va,hva,hra⟩:=ha 0 (.p x) rfl;obtain⟨vb,hvb,hrb⟩:=hb 0 (.p y) rfl;obtain⟨hra⟩:=hra;obtain⟨hrb⟩:=hrb;rw[aco] at hva hvb;have ad9:∀(X:Array Value) (v:Value),X[k]?=some v->(part f.type X f.offset).run P w=.ok v w:=by
     intro X v hX;have hag:(isAgg f.type).run P w=.ok false w:=by rcases we h1 with ⟨_,kk,hu⟩|⟨_,hu⟩<;>simp[isAgg,run_underlying hu]
     rw[akN];simp[part,hag,hX]
    have ard:(Op.equalIn (d+1) f.type va vb).run P w=.ok r0 w:=by
     rcases we h1 with ⟨rfl,kk,hu⟩|⟨rfl,hu⟩
     .obtain⟨k',p,q,rfl,rfl,rfl⟩:=QI h0;cases hra;cases hrb;simp[Op.equalIn,run_underlying hu]
     obtain⟨p,q,rfl,rfl,rfl⟩:=M5 h0;cases hra;cases hrb;simp[Op.equalIn,run_underlying hu]
    simp only[Op.eqFields,if_pos anl,Sem.run_bind,ad9 A va hva,ad9 B vb hvb,ard,Result.andThen_ok];cases r0 with
    |false=>rw[hf rfl];simp[Sem.run_pure]
    |true=>simp only[acE,aaE,if_false];exact ih h2 (ht rfl) (fun j x hx=>by have:=ha (j+1) x (by simpa using hx);rwa[show k+(j+1)=k+1+j by omega] at this) (fun j x hx=>by have:=hb (j+1) x (by simpa using hx);rwa[show k+(j+1)=k+1+j by omega] at this)
   cases hf
  cases hf
def uR:Lg->Value->Bool->Prop
 | .ptr,v,b=>∃a,v=.pointer a/\a.isNone=b
 | .slc,v,b=>∃a l c,v=.slice a l c/\a.isNone=b
 | .map,v,b=>∃r,v=.map r/\r.isNone=b
 | .fnc,v,b=>(v=.nilFunc/\b=true)\/ ∃f x y,v=.func f x y/\b=false
 | .ifc,v,b=>(v=.nilIface/\b=true)\/ ∃d x,v=.iface d x/\b=false
 |_,_,_=>False
theorem dV{m:Mem}{k:Lg}{x:V}{v:Value}{b:Bool}(h:ti k x=some b)(hr:aX m x v):uR k v b:=by
 unfold ti at h;split at h<;>cases h
 all_goals first
  |(obtain⟨hp⟩:bJ m _ v:=hr;cases hp;first
    |exact⟨_,rfl,rfl⟩
    |exact⟨_,_,_,rfl,rfl⟩
    |exact .inl ⟨rfl,rfl⟩
    |exact .inr ⟨_,_,_,rfl,rfl⟩
    |exact .inr ⟨_,_,rfl,rfl⟩)
  |(have hc:bJ m _ v:=hr;cases hc;first
    |exact⟨_,rfl,rfl⟩
    |exact⟨_,_,_,rfl,rfl⟩
    |exact .inr ⟨_,_,_,rfl,rfl⟩)
def Jo(P:Program)(t:TypeId):Lg->Prop
 | .bool=>P.underlying t=some .bool
 | .ptr=>∃e,P.underlying t=some (.pointer e)
 | .slc=>∃e,P.underlying t=some (.slice e)
 | .map=>∃a b,P.underlying t=some (.map a b)
 | .fnc=>∃a b c,P.underlying t=some (.func a b c)
 | .ifc=>∃a,P.underlying t=some (.interface a)
 | .str ks=>∃fs,P.underlying t=some (.struct fs)/\P.stoodInHeld t=false/\P.eqGuardType P.depth t=false/\rG P 0 fs.toList=some ks
theorem zB{t:TypeId}{x y:Operand}{k:Lg}(h:zC P t x y=some k):Jo P t k/\(k=.ifc->nv x=true\/nv y=true):=by
 unfold zC at h;split at h
 .rename_i a ha;split at h
  .rename_i hc;cases h;exact⟨⟨_,ha⟩,fun _=>by simpa using hc⟩
  cases h
 .rename_i ha;cases h;exact⟨ha,fun e=>by cases e⟩
 .rename_i ha;cases h;exact⟨⟨_,ha⟩,fun e=>by cases e⟩
 .rename_i ha;cases h;exact⟨⟨_,ha⟩,fun e=>by cases e⟩
 .rename_i ha;cases h;exact⟨⟨_,_,ha⟩,fun e=>by cases e⟩
 .rename_i ha;cases h;exact⟨⟨_,_,_,ha⟩,fun e=>by cases e⟩
 .rename_i fs ha;split at h
  .rename_i hc;simp only[aaD] at h;obtain⟨ks,h1,rfl⟩:=h;simp at hc;exact⟨⟨fs,ha,hc.1,hc.2,h1⟩,fun e=>by cases e⟩
  cases h
 cases h
theorem wE{t:TypeId}{k:Lg}{v u:Value}{a b:Bool}(w:World)(hk:Jo P t k)(h1:uR k v a)(h2:uR k u b)(hab:a=true\/b=true)(d:Nat):(Op.equalIn (d+1) t v u).run P w=.ok (a&&b) w:=by
 cases k with
 |bool=>exact h1.elim
 |str n=>exact h1.elim
 |ptr=>obtain⟨e,hu⟩:=hk;obtain⟨x,rfl,rfl⟩:=h1;obtain⟨y,rfl,rfl⟩:=h2;cases x<;>cases y<;>simp at hab<;>simp[Op.equalIn,run_underlying hu]
 |slc=>obtain⟨e,hu⟩:=hk;obtain⟨x,_,_,rfl,rfl⟩:=h1;obtain⟨y,_,_,rfl,rfl⟩:=h2;cases x<;>cases y<;>simp at hab<;>simp[Op.equalIn,run_underlying hu]
 |map=>obtain⟨e,e',hu⟩:=hk;obtain⟨x,rfl,rfl⟩:=h1;obtain⟨y,rfl,rfl⟩:=h2;cases x<;>cases y<;>simp at hab<;>simp[Op.equalIn,run_underlying hu]
 |fnc=>obtain⟨e,e',e'',hu⟩:=hk;rcases h1 with ⟨rfl,rfl⟩|⟨_,_,_,rfl,rfl⟩<;>rcases h2 with ⟨rfl,rfl⟩|⟨_,_,_,rfl,rfl⟩<;>simp at hab<;>simp[Op.equalIn,run_underlying hu]
 |ifc=>obtain⟨e,hu⟩:=hk;rcases h1 with ⟨rfl,rfl⟩|⟨_,_,rfl,rfl⟩<;>rcases h2 with ⟨rfl,rfl⟩|⟨_,_,rfl,rfl⟩<;>simp at hab<;>simp[Op.equalIn,run_underlying hu]
section
variable {m:Mem} {env:Env} {a:Act} {o:Oper} (hok:Ok w0 m) (hr:gL m env a.tmps)
include hok hr
theorem Us{t:TypeId}{k:Lg}{x y:V}{v u:Value}{b:Bool}(hk:Jo P t k)(h:Ut k x y=some b)(hx:aX m x v)(hy:aX m y u)(d:Nat):(Op.equalIn (d+2) t v u).run P m.w=.ok b m.w:=by
 have _u0:=hok;have _u1:=hr;unfold Ut at h;split at h
 .cases h;rw[j6 hx,j6 hy];have hk:P.underlying t=some .bool:=hk;simp only[Op.equalIn,Sem.run_bind,run_underlying hk,Result.andThen_ok,Sem.run_pure]
 .obtain⟨A,rfl,hA⟩:=aX.agg.1 hx;obtain⟨B,rfl,hB⟩:=aX.agg.1 hy;obtain⟨fs,hu,hs,_,hf⟩:=hk;have hfo:P.fieldsOf t=fs:=by simp[Program.fieldsOf,hu]
  rw[run_equalIn_agg m.w (d+1) t A B (by rw[hfo];exact hu) hs,hfo];refine Ea (w:=m.w) (m:=m) d hf h (fun j x hx=>?_) (fun j x hx=>?_)
  .have hlt:j<A.size:=by have:=hA.1;simp at this;rw[this];exact(aai.1 hx).1
   exact⟨A[j],by simp[hlt],hA.2 j x _ hx (by simp[hlt])⟩
  have hlt:j<B.size:=by have:=hB.1;simp at this;rw[this];exact(aai.1 hx).1
  exact⟨B[j],by simp[hlt],hB.2 j x _ hx (by simp[hlt])⟩
 .cases h
 .cases h
 split at h
 .rename_i hb;have:=wE (P:=P) m.w hk (dV h hx) (dV hb hy) (.inr rfl) (d+1)
  simpa using this
 split at h
 .rename_i ha;have:=wE (P:=P) m.w hk (dV ha hx) (dV h hy) (.inl rfl) (d+1)
  simpa using this
 cases h
theorem Gw{op:BinOp}{t:TypeId}{k:Lg}{x y:Operand}{x' y':aC}{b:Bool}(hk:zC P t x y=some k)(hx:bh x=some x')(hy:bh y=some y')(h:Ut k (ev env x') (ev env y')=some b):
  (eqGuard op t x y (a.eval x) (a.eval y)).run P m.w=.ok () m.w:=by
 have _u0:=hok;obtain⟨hk1,hk2⟩:=zB hk;have h1:=aE hx hr;have h2:=aE hy hr;by_cases hop:op=.eql\/op=.neq
 .unfold Ut at h;split at h
  .rename_i e1 e2;rw[e1] at h1;rw[j6 h1,eqGuard_at_bool];rfl
  .rename_i e1 e2;rw[e1] at h1;rw[e2] at h2;obtain⟨A,e3,_⟩:=aX.agg.1 h1;obtain⟨B,e4,_⟩:=aX.agg.1 h2;obtain⟨fs,_,_,hg,_⟩:=hk1;rw[e3,e4];exact run_eqGuard_agg m.w op t x y A B hg
  .cases h
  .cases h
  rename_i k q1 q2 q3 q4 q5 q6 q7;have hn:∃b1 b2,uR k (a.eval x) b1/\uR k (a.eval y) b2:=by
   split at h
   .rename_i hb;exact⟨_,_,dV h h1,dV hb h2⟩
   split at h
   .rename_i ha;exact⟨_,_,dV ha h1,dV h h2⟩
   cases h
  obtain⟨b1,b2,n1,n2⟩:=hn;cases k with
  |bool=>exact n1.elim
  |str n=>exact n1.elim
  |ptr=>obtain⟨q,e,_⟩:=n1;rw[e,eqGuard_at_pointer];rfl
  |slc=>obtain⟨q,_,_,e,_⟩:=n1;rw[e,eqGuard_at_slice];rfl
  |map=>obtain⟨q,e,_⟩:=n1;rw[e,eqGuard_at_map];rfl
  |fnc=>
   rcases n1 with ⟨e,_⟩|⟨_,_,_,e,_⟩
   .rw[e,eqGuard_at_nilFunc];rfl
   rw[e,eqGuard_at_func];rfl
  |ifc=>
   rcases n1 with ⟨e,_⟩|⟨_,_,e,_⟩
   .rcases n2 with ⟨e',_⟩|⟨_,_,e',_⟩
    .rw[e,e'];have hc:(∃c,x=.const c)\/ ∃c,y=.const c:=by
      rcases hk2 rfl with hc|hc
      .cases x<;>simp[nv] at hc
       exact .inl ⟨_,rfl⟩
      cases y<;>simp[nv] at hc
      exact .inr ⟨_,rfl⟩
     rcases hc with ⟨c,rfl⟩|⟨c,rfl⟩
     .rw[eqGuard_nil_constL];rfl
     rw[eqGuard_nil_constR];rfl
    rw[e,e',eqGuard_nil_iface];rfl
   rw[e,eqGuard_at_iface];rfl
 have:eqGuard op t x y (a.eval x) (a.eval y)=pure ():=by
  cases op<;>first
   |rfl
   |exact(hop (.inl rfl)).elim
   |exact(hop (.inr rfl)).elim
 rw[this];rfl
theorem A3{t:TypeId}{k:Lg}{v u:Value}{b1:Bool}(hs:(∃p q,v=.bool p/\u=.bool q)\/(∃p q,v=.agg p/\u=.agg q)\/ ∃p q,uR k v p/\uR k u q)(h:(Op.equalIn (9998+2) t v u).run P m.w=.ok b1 m.w):
  (binOp .eql t v u).run P m.w=.ok (.bool b1) m.w/\(binOp .neq t v u).run P m.w=.ok (.bool (!b1)) m.w:=by
 have _u0:=hok;have _u1:=hr;have he:Op.equal t v u=Op.equalIn (9998+2) t v u:=rfl;have key:binOp .eql t v u=(do pure (.bool (<- Op.equal t v u)))/\binOp .neq t v u=(do pure (.bool (!(<- Op.equal t v u)))):=by
  rcases hs with ⟨p,q,rfl,rfl⟩|⟨p,q,rfl,rfl⟩|⟨p,q,h1,h2⟩
  .exact⟨rfl,rfl⟩
  .exact⟨rfl,rfl⟩
  cases k with
  |bool=>exact h1.elim
  |str n=>exact h1.elim
  |ptr=>obtain⟨_,rfl,_⟩:=h1;obtain⟨_,rfl,_⟩:=h2;exact⟨rfl,rfl⟩
  |slc=>obtain⟨_,_,_,rfl,_⟩:=h1;obtain⟨_,_,_,rfl,_⟩:=h2;exact⟨rfl,rfl⟩
  |map=>obtain⟨_,rfl,_⟩:=h1;obtain⟨_,rfl,_⟩:=h2;exact⟨rfl,rfl⟩
  |fnc=>rcases h1 with ⟨rfl,_⟩|⟨_,_,_,rfl,_⟩<;>rcases h2 with ⟨rfl,_⟩|⟨_,_,_,rfl,_⟩<;>exact⟨rfl,rfl⟩
  |ifc=>rcases h1 with ⟨rfl,_⟩|⟨_,_,rfl,_⟩<;>rcases h2 with ⟨rfl,_⟩|⟨_,_,rfl,_⟩<;>exact⟨rfl,rfl⟩
 rw[key.1,key.2,he];simp only[Sem.run_bind,h,Result.andThen_ok,Sem.run_pure,and_self]
theorem JI{op:BinOp}{t ty:TypeId}{x y:Operand}{x' y':aC}{k:Lg}{neg b:Bool}(ho:o.op=.binOp op t x y ty)(hop:(op=.eql/\neg=false)\/(op=.neq/\neg=true))(hk:zC P t x y=some k)(hx:bh x=some x')(hy:bh y=some y')
  (hv:Ut k (ev env x') (ev env y')=some b):eI P w0 a.eval o m (.one (.p (.bool (if neg then !b else b)))) []:=by
 have h1:=aE hx hr;have h2:=aE hy hr;have hg:=Gw hok hr (op:=op) hk hx hy hv;have he:=Us hok hr (zB hk).1 hv h1 h2 9998;have hs:(∃p q,a.eval x=.bool p/\a.eval y=.bool q)\/(∃p q,a.eval x=.agg p/\a.eval y=.agg q)\/ ∃p q,uR k (a.eval x) p/\uR k (a.eval y) q:=by
  unfold Ut at hv;split at hv
  .rename_i e1 e2;rw[e1] at h1;rw[e2] at h2;exact .inl ⟨_,_,j6 h1,j6 h2⟩
  .rename_i e1 e2;rw[e1] at h1;rw[e2] at h2;obtain⟨A,e3,_⟩:=aX.agg.1 h1;obtain⟨B,e4,_⟩:=aX.agg.1 h2;exact .inr (.inl ⟨A,B,e3,e4⟩)
  .cases hv
  .cases hv
  split at hv
  .rename_i hb;exact .inr (.inr ⟨_,_,dV hv h1,dV hb h2⟩)
  split at hv
  .rename_i ha;exact .inr (.inr ⟨_,_,dV ha h1,dV hv h2⟩)
  cases hv
 obtain⟨r1,r2⟩:=A3 hok hr hs he;rcases hop with ⟨rfl,rfl⟩|⟨rfl,rfl⟩
 .exact .calm hok (by simp[execOp,ho,hg,r1]) (kZ (.bool _))
 exact .calm hok (by simp[execOp,ho,hg,r2]) (kZ (.bool _))
end
end Go.Abs
namespace Go.Abs
variable {P:Program} {w0:World}
theorem El:∀ {es:List (List PV)} {bs:List UInt8},bytesOf es=some bs->∃ns:List Int,es.flatten=ns.map (PV.int .u8)/\bs=ns.map (fun n=>UInt8.ofNat n.toNat)/\ns.length=es.length:=by
 intro es
 induction es with
 |nil=>intro bs h;simp[bytesOf] at h;exact⟨[],rfl,h,rfl⟩
 |cons e r ih=>
  intro bs h;unfold bytesOf at h;split at h
  .rename_i e';cases e'
  .rename_i n r' e';cases e';simp only[aaD] at h;obtain⟨q,hq,rfl⟩:=h;obtain⟨ns,h1,h2,h3⟩:=ih hq;exact⟨n::ns,by simp[h1],by simp[h2],by simp[h3]⟩
  cases h
theorem Tl{w:World}{own:Nat->Prop}:∀ {ns:List Int} {vs:List Value},Pw (aZ w own) (ns.map (PV.int .u8)) vs->vs=ns.map (Value.int .u8):=by
 intro ns
 induction ns with
 |nil=>intro vs h;have:=h.1;simp at this;simp[this]
 |cons n ns ih=>
  intro vs h;cases vs with
  |nil=>have:=h.1;simp at this
  |cons v vs=>have h0:=h.2 0 _ v rfl rfl;cases h0;rw[ih (vs:=vs) ⟨by have:=h.1;simpa using this,fun j x u a b=>h.2 (j+1) x u (by simpa using a) (by simpa using b)⟩];rfl
theorem OS:∀(ns:List Int) (s:ByteArray),ns.foldl (fun r n=>r.push (UInt8.ofNat n.toNat)) s=⟨s.data++(ns.map (fun n=>UInt8.ofNat n.toNat)).toArray⟩:=by
 intro ns
 induction ns with
 |nil=>intro s;cases s;simp
 |cons n ns ih=>intro s;simp only[acT,aaK];rw[ih];cases s;simp[ByteArray.push]
section
variable {m:Mem} {env:Env} {a:Act} {o:Oper} (hok:Ok w0 m) (hr:gL m env a.tmps)
include hok hr
theorem Ov{s d e:TypeId}{x:Operand}{x':aC}{es:List (List PV)}{r:List Nat}{bs:List UInt8}(ho:o.op=.convert s d x)(hs:P.underlying s=some (.slice e))(he:P.underlying e=some (.int .u8))(hd:P.underlying d=some .string)
  (hx:bh x=some x') (hel:aO m.blk (ev env x')=some (es,r,[])) (hb:bytesOf es=some bs):eI P w0 a.eval o m (.one (.p (.str ⟨bs.toArray⟩))) []:=by
 obtain⟨ns,h1,h2,h3⟩:=El hb;obtain⟨ax,cx,hxv,_,ab6⟩:=wG (own:=m.own) hok hel (aE hx hr) ⟨fun _ h=>h,fun _ h=>by simp at h⟩;refine .calm hok (x:=.string ⟨bs.toArray⟩) ?_ (kZ (.str _));have key:(Conv.bytesToString (.slice ax es.length cx)).run P m.w=.ok (.string ⟨bs.toArray⟩) m.w:=by
  by_cases hne:es=[]
  .subst hne;have:ns=[]:=by simpa using h3
   subst this;have hb0:bs=[]:=by simpa using h2
   subst hb0;cases ax with
   |none=>simp[Conv.bytesToString,Sem.run_pure];rfl
   |some ad=>have:=run_bytesToString (P:=P) m.w ad 0 cx [] (by simp[loadCells,loadCellsFrom,Sem.run_pure]);exact this
  obtain⟨b,off,news,rfl,hpw,ab9⟩:=ab6 hne;rw[h1] at hpw;have hn:=Tl hpw;have hl:news.length=es.length:=by rw[hn];simpa using h3
  have ant:(loadCells ⟨b,off,none⟩ es.length).run P m.w=.ok (ns.map (Value.int .u8)).toArray m.w:=by rw[<- hl,<- hn];exact run_loadCells_list m.w ⟨b,off,none⟩ news fun j v hj=>by rw[Addr.add_lit];exact ab9 j v hj
  rw[run_bytesToString m.w _ _ cx ns ant,OS,h2];simp[ByteArray.empty,ByteArray.emptyWithCapacity];rfl
 simp only[execOp,ho,hxv,Sem.run_bind,run_convert_bytes_string m.w s d e ax es.length cx hs he hd,key,Result.andThen_ok,Sem.run_pure]
end
end Go.Abs
namespace Go.Abs
variable {P:Program} {w0:World}
theorem vN{xs:Array Operand}{a:aC}(h:iY xs.toList=some [a]):∃x,xs= #[x]/\bh x=some a:=by
 obtain⟨xs⟩:=xs;cases xs with
 |nil=>simp[iY] at h
 |cons x r=>
  simp only[iY] at h;split at h
  .rename_i y ys e1 e2;cases h;cases r with
   |nil=>exact⟨x,rfl,e1⟩
   |cons z r=>simp only[iY] at e2;split at e2<;>simp at e2
  cases h
theorem vM{xs:Array Operand}{a b:aC}(h:iY xs.toList=some [a,b]):∃x y,xs= #[x,y]/\bh x=some a/\bh y=some b:=by
 obtain⟨xs⟩:=xs;cases xs with
 |nil=>simp[iY] at h
 |cons x r=>
  simp only[iY] at h;split at h
  .rename_i y ys e1 e2;cases h;obtain⟨z,hz,hz2⟩:=vN (xs:=r.toArray) (by simpa using e2);have:r=[z]:=by simpa using congrArg Array.toList hz
   subst this;exact⟨x,z,rfl,e1,hz2⟩
  cases h
theorem Lo{xs:Array TypeId}{t u:TypeId}(h1:xs[0]?=some t)(h2:xs[1]?=some u)(hs:xs.size=2):xs= #[t,u]:=by
 obtain⟨xs⟩:=xs
 match xs,hs with
 |[a,b],_=>simp at h1 h2;subst h1 h2;rfl
theorem Gi{α:Type}{sz:Nat}{es ys:List (List α)}{off:Nat}(h:∀e∈es,e.length=sz)(hy:∀e∈ys,e.length=sz)(hl:off+ys.length<=es.length):(aY es off ys).flatten=aY es.flatten (off*sz) ys.flatten:=by
 have ht:∀k,k<=es.length->(es.take k).flatten.length=k*sz:=fun k hk=>by rw[nE fun e he=>h e (acf he),aa2,acu hk]
 have e1:es.flatten=(es.take off).flatten++(es.drop off).flatten:=by rw[<- ac8,abA]
 have e2:es.flatten=(es.take (off+ys.length)).flatten++(es.drop (off+ys.length)).flatten:=by rw[<- ac8,abA]
 unfold aY;rw[ac8,ac8,nE hy];congr 1
 .congr 1
  conv=>rhs;rw[e1]
  rw[List.take_left' (ht off (by omega))]
 rw[<- aa3]
 conv=>rhs;rw[e2]
 rw[List.drop_left' (ht _ hl)]
theorem CO{R:PV->Value->Prop}{z:List PV}{v:Array Value}{n:Nat}(hz:Pw R z v.toList):Pw R (List.replicate n z).flatten (Builtin.zeroCells v n).toList:=by
 have hzl:z.length=v.size:=by have:=hz.1;simp at this;omega
 have aas:∀e∈List.replicate n z,e.length=v.size:=fun e he=>by rw[adT he];exact hzl
 have hlen:(Builtin.zeroCells v n).toList.length=n*v.size:=by simp[size_zeroCells]
 refine⟨by rw[hlen,nE aas];simp,fun j x u p q=>?_⟩;have hj:j<n*v.size:=by have:=(aai.1 q).1;omega
 have aaP:0<v.size:=by
  rcases Nat.eq_zero_or_pos v.size with h|h
  .rw[h] at hj;omega
  exact h
 have hdiv:j/v.size<n:=by rw[Nat.div_lt_iff_lt_mul aaP];exact hj
 have ai1:j%v.size<v.size:=aaN _ aaP;have he:(List.replicate n z)[j/v.size]?=some z:=by simp[hdiv]
 have h1:=oU aas he ai1;rw[show j/v.size*v.size+j%v.size=j by rw[Nat.mul_comm];exact Nat.div_add_mod j v.size] at h1;rw[h1] at p;have h2:(Builtin.zeroCells v n).toList[j]?=some v[j%v.size]! :=by unfold Builtin.zeroCells;simp[hj]
 rw[h2] at q;cases q;refine hz.2 (j%v.size) x _ p ?_;simp[ai1]
section
variable {m:Mem} {env:Env} {a:Act} {o:Oper} (hok:Ok w0 m) (hr:gL m env a.tmps)
include hok hr
theorem LN{c:Call}{x:Operand}{x':aC}{t e:TypeId}{sz bytes:Nat}{z:List PV}{sh:Nat->Bool}{v:V}{u:List jS}{rd:List Nat}(ho:o.op=.call c)(hc:c.callee=.builtin .clear)(has:c.args= #[x])(hat:c.argTypes[0]?=some t)
  (he:sQ P t=some (e,sz,bytes,z)) (hx:bh x=some x') (hp:aM sh env m.blk (.clear z x')=.done v u rd):eI P w0 a.eval o m v u:=by
 obtain⟨i,zv,ht,hi,hs,hb,⟨aaP,adm⟩,hiz,hzs,hzl,hps⟩:=r7 he;have hrx:=aE hx hr;have run:∀(y:Value) (w':World),(Builtin.clear_ c.argTypes o.type #[a.eval x]).run P m.w=.ok y w'->(execOp a.eval o).run P m.w=.ok (.value y) w':=by intro y w' h;simp[execOp,ho,resolve,hc,has,invoke,builtin,h]
 have quiet:(Builtin.clear_ c.argTypes o.type #[a.eval x]).run P m.w=.ok (.tuple #[]) m.w->eI P w0 a.eval o m (.tup []) []:=fun h=>
  ⟨.tuple #[],m,.inl (run _ _ h),hok,Ev.refl _,rfl,rfl,(⟨#[],rfl,rfl,fun j x u h=>by simp at h⟩:aX m (.tup []) _)⟩
 simp only[aM] at hp;split at hp
 .rename_i hv;cases hp;rw[hv] at hrx;have hrx:bJ m _ (a.eval x):=hrx;generalize hbb:a.eval x=b at hrx;rw[hbb] at quiet;apply quiet;cases hrx with
  |p h=>cases h;simp[Builtin.clear_,hat,run_underlying ht]
 .rename_i hv;cases hp;rw[hv] at hrx;have hrx:bJ m _ (a.eval x):=hrx;generalize hbb:a.eval x=b at hrx;rw[hbb] at quiet;apply quiet;cases hrx with
  |p h=>
   cases h with
   |sl0 a cap hn hm=>cases a<;>simp[Builtin.clear_,hat,run_underlying ht]
   |sl b o cap sz f h1 h2 h3 h4=>simp[Builtin.clear_,hat,run_underlying ht]
 .rename_i id g w off len hv;rw[hv] at hrx;have hrx:bJ m _ (a.eval x):=hrx;generalize hbb:a.eval x=b at hrx;rw[hbb] at quiet run;cases hrx with
  |hsl ad cap hg hl hm had=>
   split at hp
   .rename_i h0;cases hp;subst h0;apply quiet;simp[Builtin.clear_,hat,run_underlying ht]
   rename_i h0;split at hp
   .rename_i g' ty sz' es hbk;split at hp
    .rename_i ael;obtain⟨hgg,hsz,hfit⟩:=ael;cases hp;have hb2:(m.blk id).2=some (.arr ty sz' es):=by rw[hbk]
     obtain⟨_,had,_⟩:=had sz' (by rw[hbk];exact hgg) (by rw[hbk];rfl);have had:=had (.inr (by omega));subst had;obtain⟨cur,hh,hs0,abO,hl2,hm2,ajK,aiW⟩:=hok.obj id _ hb2;have hze:∀e∈List.replicate len z,e.length=sz':=fun e he=>by rw[adT he];exact hsz.symm
     have ap8:zv.cells.size=sz':=by rw[hzs,<- hzl,hsz]
     have hzr:(List.replicate len z).length=len:=List.length_replicate;have hfl:=Gi (off:=off) abO hze (by rw[hzr];exact hfit);have hil:(off+len)*sz'<=es.length*sz':=abz _ hfit;have anG:es.length*sz'<=m.κ id*sz':=abz _ hl2;rw[aa3] at hil;generalize hZ:(Builtin.zeroCells zv.cells len).toList=Z;have hZl:Z.length=len*sz':=by rw[<- hZ];simp[size_zeroCells,ap8]
     have hZp:∀w own,aR w own (List.replicate len z).flatten Z:=fun w own=>aR.pw.2 (by rw[<- hZ];exact CO (aR.pw.1 (hps w own)));have aiX:∀v∈Z,v.oneCell'=true:=fun v hv=>by
      obtain⟨j,hj⟩:=abb hv;have hlt:j<(List.replicate len z).flatten.length:=by rw[<- (hZp m.w m.own).1];exact(aai.1 hj).1
      exact((hZp m.w m.own).2 j _ v (abZ hlt) hj).uc
     have acy:off*sz'+0+Z.length<=cur.size:=by rw[hZl,ajK];omega
     have hst:=run_storeCells_at P (m.σ id) (off*sz') ty Z 0 cur m.w hh acy aiX;simp only[aco] at hst;generalize hW:m.w.setRow (m.σ id) (cur.toList.take (off*sz')++Z++cur.toList.drop (off*sz'+Z.length)).toArray=W at hst;have hWs:W.heap.size=m.w.heap.size:=by rw[<- hW];simp
     have hWo:∀c,c≠m.σ id->W.heap[c]?=m.w.heap[c]? :=fun c hc=>by rw[<- hW];exact setRow_other m.w (m.σ id) c _ hc
     have amZ:(aY es off (List.replicate len z)).length=es.length:=nY (by rw[hzr];exact hfit);have hev:=tP (w':=W) (o:=.arr ty sz' (aY es off (List.replicate len z))) hb2 rfl (by simp[je]) (by rw[<- hW];rfl) (by rw[<- hW];rfl) (by rw[<- hW];rfl) hWs hWo;have adx:sE (m.iL W id (.arr ty sz' (aY es off (List.replicate len z)))) id (.arr ty sz' (aY es off (List.replicate len z))):=by
      refine⟨_,by rw[<- hW];exact rF hh,hs0,?_,by rw[amZ];exact hl2,hm2,?_,?_⟩
      .intro e' he';unfold aY at he';simp only[aaR] at he';rcases he' with (h|h)|h
       .exact abO e' (acf h)
       .exact hze e' h
       exact abO e' (acd h)
      .simp[Mem.iL];omega
      rw[amZ,hfl];have h1:=(aR.pw.1 (aiW.ev hev.zero)).aY (aR.pw.1 (hZp (m.iL W id (.arr ty sz' (aY es off (List.replicate len z)))).w (m.iL W id (.arr ty sz' (aY es off (List.replicate len z)))).own)) (off*sz');rw[<- v7 (by omega) (by simp;omega)] at h1;have h1:=aR.pw.2 h1
      simpa [aY] using h1
     refine⟨.tuple #[],m.iL W id (.arr ty sz' (aY es off (List.replicate len z))),.inl (run _ _ ?_),w7 hb2 rfl hok (by simp[je]) (by rw[<- hW];rfl) (by rw[<- hW];rfl) (by rw[<- hW];rfl) hWs hWo adx,hev,rfl,?_,(⟨#[],rfl,rfl,fun j x u h=>by simp at h⟩:aX _ (.tup []) _)⟩
     .obtain⟨k,rfl⟩:∃k,len=k+1:=⟨len-1,by omega⟩;simp[Builtin.clear_,hat,run_underlying ht,zeroValue,typeInfo,hi,hiz,hZ,hst,Mem.iL]
     simp[Mem.iL,app,hbk,hgg]
    cases hp
   cases hp
 cases hp
end
section
variable {m:Mem} {env:Env} {a:Act} {o:Oper} (hok:Ok w0 m) (hr:gL m env a.tmps)
include hok hr
theorem FH{t kt e:TypeId}{x k y:Operand}{x' k' y':aC}{kd:Nat}{ag:Bool}{sh:Nat->Bool}{v:V}{u:List jS}{rd:List Nat}(ho:o.op=.mapUpdate t x k y\/o.op=.insert t x k y)(ht:P.underlying t=some (.map kt e))
  (hkd:keyOf P kt=some kd) (hx:bh x=some x') (hk:bh k=some k') (hy:bh y=some y') (hp:aM sh env m.blk (.mupd kd ag x' k' y')=.done v u rd):eI P w0 a.eval o m v u:=by
 simp only[aM] at hp;split at hp
 .rename_i id g q cs e1 e2 e3;split at hp
  .rename_i g' ag' es ps e4 e5;split at hp
   .rename_i abH;obtain⟨rfl,rfl,hq⟩:=abH;split at hp
    .rename_i i w hf;cases hp;exact Fa hok hr ho ht hkd hx hk hy e1 e4 e2 hq e3 e5 hf
    .rename_i hf;cases hp;exact Fa hok hr ho ht hkd hx hk hy e1 e4 e2 hq e3 e5 hf
    cases hp
   cases hp
  cases hp
 cases hp
theorem WY{site:Nat}{sh:Nat->Bool}{p:vQ}{v:V}{u:List jS}{rd:List Nat}(hc:tz P site o=some p)(hp:aM sh env m.blk p=.done v u rd):eI P w0 a.eval o m v u:=by
 unfold tz at hc;split at hc
 · -- move
  rename_i x ho;simp only[aaD] at hc;obtain⟨y,h1,rfl⟩:=hc;cases hp;exact Fb hok hr (.inl ho) h1
 · -- assign
  rename_i x ho;simp only[aaD] at hc;obtain⟨y,h1,rfl⟩:=hc;cases hp;exact Fb hok hr (.inr ho) h1
 · -- pick
  rename_i c x y ho;split at hc
  .rename_i c' x' y' h1 h2 h3;cases hc;simp only[aM] at hp;split at hp
   .rename_i t ht;cases hp;exact Om hok hr ho h1 h2 h3 ht
   cases hp
  cases hc
 · -- alloc
  rename_i t ho;simp only[aaD] at hc;obtain⟨z,h1,rfl⟩:=hc;cases hp;exact LP hok ho h1
 · -- box
  rename_i t x ho;simp only[aaD] at hc;obtain⟨z,h1,rfl⟩:=hc;simp only[aM] at hp;split at hp
  .rename_i cs hcs;cases hp;exact S7 hok hr ho h1 hcs
  cases hp
 · -- build
  rename_i t ps ho;split at hc
  .rename_i fs z h1 h2;split at hc
   .rename_i aas;simp only[aaD] at hc;obtain⟨qs,h3,rfl⟩:=hc;simp only[aM] at hp;split at hp
    .rename_i rs hrs;cases hp;exact uZ hok hr ho h1 h2 aas h3 hrs
    cases hp
   cases hc
  .rename_i n e z h1 h2;split at hc
   .rename_i i hi;simp only[aaD] at hc;obtain⟨qs,h3,rfl⟩:=hc;simp only[aM] at hp;split at hp
    .rename_i rs hrs;cases hp;exact wX hok hr ho h1 h2 hi h3 hrs
    cases hp
   cases hc
  cases hc
 · -- buildSlice
  rename_i t n ps ho;split at hc
  .rename_i e sz bytes z as h1 h2;split at hc
   .rename_i abH;cases hc;simp only[aM] at hp;split at hp
    .rename_i es hes;obtain⟨g1,g2⟩:=HK (s:=site) hok hr ho h1 h2 abH.1 abH.2 hes;split at hp
     .rename_i qs hqs;cases hp;exact g1 qs hqs
     cases hp;exact g2
    cases hp
   cases hc
  cases hc
 · -- load
  rename_i t x ho;split at hc
  .rename_i k y h1 h2;cases hc;simp only[aM] at hp;split at hp
   .rename_i cs r hcs;split at hp
    .rename_i v' hv;cases hp;exact Oq hok hr ho h1 h2 hcs hv
    cases hp
   cases hp
  cases hc
 · -- store
  rename_i t x y ho;split at hc
  .rename_i n x' y' h1 h2 h3;cases hc;simp only[aM] at hp;split at hp
   .rename_i cs hcs;exact LG hok hr ho h1 h2 h3 hcs hp
   cases hp
  cases hc
 · -- nilCheck
  rename_i x ho;simp only[aaD] at hc;obtain⟨y,h1,rfl⟩:=hc;have hu:u=[]/\rd=[]:=by simp only[aM] at hp;split at hp<;>cases hp<;>exact⟨rfl,rfl⟩
  obtain⟨rfl,rfl⟩:=hu;exact HH hok hr ho h1 hp
 · -- binOp
  rename_i op t x y ty ho;split at hc
  .rename_i x' y' h1 h2;have anT:∀(op':BinOp),p=.bin op' x' y'->op'=op->eI P w0 a.eval o m v u:=by
    intro op' e1 e2;subst e1 e2;simp only[aM] at hp;split at hp
    .rename_i v' hv;cases hp;exact S8 hok hr ho h1 h2 hv
    cases hp
   split at hc
   .cases hc;exact anT _ rfl rfl
   .cases hc;exact anT _ rfl rfl
   split at hc
   .rename_i k hk;cases hc;simp only[aM] at hp;split at hp
    .rename_i b hb;cases hp;exact JI hok hr (neg:=false) ho (.inl ⟨rfl,rfl⟩) hk h1 h2 hb
    cases hp
   .rename_i k hk;cases hc;simp only[aM] at hp;split at hp
    .rename_i b hb;cases hp;exact JI hok hr (neg:=true) ho (.inr ⟨rfl,rfl⟩) hk h1 h2 hb
    cases hp
   cases hc
  cases hc
 · -- unOp
  rename_i op t x ho;split at hc
  .simp only[aaD] at hc;obtain⟨y,h1,rfl⟩:=hc;simp only[aM] at hp;split at hp
   .rename_i b e1 e2;cases hp;exact S2 hok hr ho h1 e2
   .rename_i e1 e2;cases e1
   cases hp
  .simp only[aaD] at hc;obtain⟨y,h1,rfl⟩:=hc;simp only[aM] at hp;split at hp
   .rename_i e1 e2;cases e1
   .rename_i k n e1 e2;cases hp;exact S3 hok hr ho h1 e2
   cases hp
  cases hc
 · -- convert
  rename_i s d x ho;split at hc
  .rename_i ks k y h1 h2 h3;cases hc;simp only[aM] at hp;split at hp
   .rename_i k0 n hn;cases hp;exact Ou hok hr ho h1 h2 h3 hn
   cases hp
  .rename_i e y h1 h2 h3;split at hc
   .rename_i he;cases hc;simp only[aM] at hp;split at hp
    .rename_i es r hes;split at hp
     .rename_i bs hbs;cases hp;exact Ov hok hr ho h1 he h2 h3 hes hbs
     cases hp
    cases hp
   cases hc
  cases hc
 · -- makeFunc
  rename_i f x y ho;split at hc
  .rename_i x' y' h1 h2;cases hc;simp only[aM] at hp;split at hp
   .rename_i cs ds e1 e2;cases hp;exact Oo hok hr ho h1 h2 e1 e2
   cases hp
  cases hc
 · -- makeMap
  rename_i t ho;split at hc
  .simp only[aaD] at hc;obtain⟨k,h1,rfl⟩:=hc;cases hp;exact LI (kt:=t) (t:=t) (e:=t) hok ho
  cases hc
 · -- makeSlice
  rename_i t l c ho;split at hc
  .rename_i e sz bytes z l' c' h1 h2 h3;cases hc;simp only[aM] at hp;split at hp
   .rename_i n n' e1 e2;split at hp
    .rename_i abH;obtain⟨rfl,aa8⟩:=abH;cases hp;exact Fd hok hr ho h1 h2 h3 e1 e2 aa8
    cases hp
   cases hp
  cases hc
 · -- slice
  rename_i t x lo hi ho;split at hc
  .rename_i x' lo' hi' h1 h2 h3;split at hc
   .rename_i e ht;simp only[aaD] at hc;obtain⟨sz,h4,rfl⟩:=hc;simp only[aM] at hp;split at hp
    .rename_i n hn;split at hp
     .rename_i l h e1 e2;have hu:u=[]/\rd=[]:=by
       unfold gT at hp;repeat' split at hp
       all_goals first
        |cases hp
        |skip
       all_goals exact⟨rfl,rfl⟩
      obtain⟨rfl,rfl⟩:=hu;exact LH hok hr ho ht h4 h1 h2 h3 hn e1 e2 hp
     cases hp
    cases hp
   .rename_i ht;cases hc;simp only[aM] at hp;split at hp
    .rename_i s hs;split at hp
     .rename_i l h e1 e2;split at hp
      .rename_i abH;cases hp;exact HG hok hr ho ht h1 h2 h3 hs e1 e2 abH.1 abH.2
      cases hp
     cases hp
    cases hp
   cases hc
  cases hc
 · -- fieldAddr
  rename_i s x f ho;split at hc
  .rename_i fs y h1 h2;split at hc
   .rename_i d hd;split at hc
    .rename_i hz;cases hc;have hu:u=[]/\rd=[]:=by
      simp only[aM] at hp;split at hp<;>cases hp<;>exact⟨rfl,rfl⟩
     obtain⟨rfl,rfl⟩:=hu;exact LK hok hr ho h1 hd hz h2 hp
    cases hc
   cases hc
  cases hc
 · -- field
  rename_i t x f ho;split at hc
  .rename_i fs y h1 h2;split at hc
   .rename_i d hd;simp only[aaD] at hc;obtain⟨k,h3,rfl⟩:=hc;simp only[aM] at hp;split at hp
    .rename_i cs hcs;split at hp
     .rename_i v' hv;cases hp;exact S6 hok hr ho h1 hd h3 h2 hcs hv
     cases hp
    cases hp
   cases hc
  cases hc
 · -- indexAddr
  rename_i t x i ho;split at hc
  .rename_i x' i' h1 h2;split at hc
   .rename_i e ht;simp only[aaD] at hc;obtain⟨sz,h3,rfl⟩:=hc;have hu:u=[]/\rd=[]:=by
     simp only[aM] at hp;repeat' split at hp
     all_goals first
      |cases hp
      |skip
     all_goals exact⟨rfl,rfl⟩
    obtain⟨rfl,rfl⟩:=hu;exact LJ hok hr ho ht h3 h1 h2 hp
   .rename_i n e ht;simp only[aaD] at hc;obtain⟨sz,h3,rfl⟩:=hc;have hu:u=[]/\rd=[]:=by
     simp only[aM] at hp;repeat' split at hp
     all_goals first
      |cases hp
      |skip
     all_goals exact⟨rfl,rfl⟩
    obtain⟨rfl,rfl⟩:=hu;exact LQ hok hr ho ht h3 h1 h2 hp
   cases hc
  cases hc
 · -- index
  rename_i t x i ho;split at hc
  .rename_i x' i' h1 h2;split at hc
   .rename_i n e ht;split at hc
    .rename_i sz k h3 h4;cases hc;simp only[aM] at hp;split at hp
     .rename_i n' cs e1 e2;split at hp
      .rename_i hlt;split at hp
       .rename_i v' hv;cases hp;exact Ow hok hr ho ht h3 h4 h1 h2 e1 hlt e2 hv
       cases hp
      cases hp
     cases hp
    cases hc
   .rename_i ht;cases hc;simp only[aM] at hp;split at hp
    .rename_i n s e1 e2;split at hp
     .rename_i b hb;cases hp;exact Ol hok hr ho ht h1 h2 e1 e2 hb
     cases hp
    cases hp
   cases hc
  cases hc
 · -- lookup
  rename_i t x k ok ho;split at hc
  .rename_i kt e x' k' h1 h2 h3;split at hc
   .rename_i z q h4 h5;split at hc
    .rename_i kd h6;split at hc
     .rename_i h7;cases hc;simp only[aM] at hp;split at hp
      .rename_i es r key e1 e2;split at hp
       .cases hp
       rename_i hkd;split at hp
       .rename_i f hf;split at hp
        .rename_i w hw;cases hp;exact HJ hok hr ho h1 h4 h6 h7 h2 h3 e1 e2 (Classical.not_not.1 hkd) hf hw
        cases hp
       cases hp
      cases hp
     cases hc
    cases hc
   cases hc
  cases hc
 · -- mapUpdate
  rename_i t x k y ho;split at hc
  .rename_i kt e x' k' y' h1 h2 h3 h4;split at hc
   .rename_i q h5;simp only[aaD] at hc;obtain⟨kd,h6,rfl⟩:=hc;exact FH hok hr (.inl ho) h1 h6 h2 h3 h4 hp
   cases hc
  cases hc
 · -- insert
  rename_i t x k y ho;split at hc
  .rename_i kt e x' k' y' h1 h2 h3 h4;split at hc
   .rename_i q h5;simp only[aaD] at hc;obtain⟨kd,h6,rfl⟩:=hc;exact FH hok hr (.inr ho) h1 h6 h2 h3 h4 hp
   cases hc
  cases hc
 · -- extract
  rename_i x i ho;simp only[aaD] at hc;obtain⟨y,h1,rfl⟩:=hc;simp only[aM] at hp;split at hp
  .rename_i vs hvs;split at hp
   .rename_i v' hv;cases hp;exact Fe hok hr ho h1 hvs hv
   cases hp
  cases hp
 · -- call
  rename_i c ho;split at hc
  .rename_i f as h1 h2;simp only[aaD] at hc;obtain⟨y,h3,rfl⟩:=hc;simp only[aM] at hp;repeat' split at hp
   all_goals cases hp
  .rename_i x h1 h2;obtain⟨x0,hx0,hx1⟩:=vN h2;split at hc
   .rename_i t ht;split at hc
    .rename_i hu;cases hc;simp only[aM] at hp;split at hp
     .rename_i s hs;cases hp;exact Oj hok hr ho h1 hx0 ht hu hx1 hs
     cases hp
    .rename_i e hu;cases hc;simp only[aM] at hp;split at hp
     .rename_i n hn;cases hp;exact Ot hok hr ho h1 hx0 ht hu hx1 hn
     cases hp
    .rename_i k e hu;cases hc;simp only[aM] at hp;split at hp
     .rename_i n r hn;cases hp;exact On hok hr ho h1 hx0 ht hu hx1 hn
     cases hp
    cases hc
   cases hc
  .rename_i x y h1 h2;obtain⟨x0,y0,hx0,hx1,hx2⟩:=vM h2;split at hc
   .rename_i t u' ht hu;split at hc
    .rename_i e sz bytes z he;split at hc
     .rename_i abH;cases hc;obtain⟨rfl,hsz⟩:=abH;exact HL hok hr ho h1 hx0 (Lo ht hu hsz) he hx1 hx2 hp
     cases hc
    cases hc
   cases hc
  .rename_i x y h1 h2;obtain⟨x0,y0,hx0,hx1,hx2⟩:=vM h2;cases hc;simp only[aM] at hp;split at hp
   .rename_i k p k' q e1 e2;cases hp;exact S5 hok hr ho h1 hx0 hx1 hx2 e1 e2
   cases hp
  .rename_i x y h1 h2;obtain⟨x0,y0,hx0,hx1,hx2⟩:=vM h2;cases hc;simp only[aM] at hp;split at hp
   .rename_i k p k' q e1 e2;cases hp;exact S4 hok hr ho h1 hx0 hx1 hx2 e1 e2
   cases hp
  .rename_i x h1 h2;obtain⟨x0,hx0,hx1⟩:=vN h2;split at hc
   .rename_i t ht;simp only[aaD] at hc;obtain⟨⟨e,sz,bytes,z⟩,h3,rfl⟩:=hc;exact LN hok hr ho h1 hx0 ht h3 hx1 hp
   cases hc
  cases hc
 cases hc
end
end Go.Abs
namespace Go.Abs
variable {P:Program} {w0:World}
section
variable{m:Mem}{cs:List C}
def X5(w:World)(Q:Nat->Prop)(ty sz:Nat)(es:List (List PV))(c:Nat)(v:Value):Prop:=∃cap cur,v=.slice (some ⟨c,0,none⟩) es.length cap/\w.heap[c]?=some (.cells cur ty (0,0))/\0<sz/\(∀e∈es,e.length=sz)/\es.length<=cap/\cap<=maxLen/\cur.size=cap*sz/\aR w Q es.flatten (cur.toList.take (es.length*sz))
def gk(w:World)(Q:Nat->Prop):List RC->List Value->List Nat->Prop
 |[],vs,bs=>vs=[]/\bs=[]
 | .p x::r,vs,bs=>∃v vs',vs=v::vs'/\aZ w Q x v/\gk w Q r vs' bs
 | .own ty sz es::r,vs,bs=>∃v vs' c bs',vs=v::vs'/\bs=c::bs'/\X5 w Q ty sz es c v/\gk w Q r vs' bs'
theorem gk.mono{w w':World}{Q Q':Nat->Prop}(hk:∀c,c<w.heap.size-> ¬Q c->w'.heap[c]?=w.heap[c]? /\ ¬Q' c):∀ {rs:List RC} {vs:List Value} {bs:List Nat},(∀c∈bs,w'.heap[c]?=w.heap[c]?)->gk w Q rs vs bs->gk w' Q' rs vs bs:=by
 intro rs
 induction rs with
 |nil=>intro vs bs _ h;exact h
 |cons r rs ih=>
  intro vs bs hb h;cases r with
  |p x=>obtain⟨v,vs',rfl,h1,h2⟩:=h;exact⟨v,vs',rfl,h1.mono hk,ih hb h2⟩
  |own ty sz es=>obtain⟨v,vs',c,bs',rfl,rfl,⟨cap,cur,e1,e2,e3,e4,e5,e6,e7,e8⟩,h2⟩:=h;exact⟨v,vs',c,bs',rfl,rfl,⟨cap,cur,e1,by rw[hb c (by simp)];exact e2,e3,e4,e5,e6,e7,e8.mono hk⟩,ih (fun c hc=>hb c (by simp[hc])) h2⟩
theorem gk.less{w:World}{Q Q':Nat->Prop}(h:∀b,Q' b->Q b){rs:List RC}{vs:List Value}{bs:List Nat}(hr:gk w Q rs vs bs):gk w Q' rs vs bs:=hr.mono (fun c _ hn=>⟨rfl,fun hq=>hn (h c hq)⟩) (fun _ _=>rfl)
theorem LF(hok:Ok w0 m){Q:Nat->Prop}(hQ:∀b,Q b->m.own b){c:C}{x:PV}{q:List Nat}{v:Value}(h:snap m.blk cG c=some (x,q))(hr:bJ m c v)(hs:∀id∈q,¬Q (m.σ id)):aZ m.w Q x v:=ng hok cG h hr ⟨hQ,hs⟩
theorem Bw(hok:Ok w0 m){Q:Nat->Prop}(hQ:∀b,Q b->m.own b):∀ {cs:List C} {rs:List RC} {o q:List Nat} {vs:List Value},fJ m.blk cs=some (rs,o,q)->aT m cs vs->(∀id∈q,¬Q (m.σ id))->
  gk m.w Q rs vs (o.map m.σ)/\ ∀id∈o,∃ob,(m.blk id).2=some ob/\ob.eE=true:=by
 intro cs
 induction cs with
 |nil=>
  intro rs o q vs h hr _;simp only[fJ,aaV,abe] at h;obtain⟨rfl,rfl,rfl⟩:=h;have:vs=[]:=by have:=hr.1;simpa using this
  exact⟨⟨this,rfl⟩,fun id h=>by simp at h⟩
 |cons c cs ih=>
  intro rs o q vs h hr hq;simp only[fJ] at h;split at h
  .rename_i x o1 q1 xs os qs h1 h2;cases h;cases vs with
   |nil=>simp[aT] at hr
   |cons v vs=>
    obtain⟨i1,i2⟩:=ih (vs:=vs) h2 ⟨by have:=hr.1;simpa using this,fun j x u a b=>hr.2 (j+1) x u (by simpa using a) (by simpa using b)⟩ (fun id hid=>hq id (by simp[hid]));have hc:bJ m c v:=hr.2 0 c v rfl rfl;have snapcase:∀ {y:PV},(snap m.blk cG c).map (fun(v,r)=>((.p v:RC),([]:List Nat),r))=some (x,o1,q1)->gk m.w Q (x::xs) (v::vs) ((o1++os).map m.σ)/\ ∀id∈o1++os,∃ob,(m.blk id).2=some ob/\ob.eE=true:=by intro _ h1;simp only[aaD] at h1;obtain⟨⟨y,r⟩,h3,h4⟩:=h1;cases h4;exact⟨⟨v,vs,rfl,LF hok hQ h3 hc (fun id hid=>hq id (by simp[hid])),i1⟩,i2⟩
    unfold fR at h1;split at h1
    .rename_i y;cases h1;have hy:aZ m.w m.own y v:=by cases hc with|p h=>exact h
     exact⟨⟨v,vs,rfl,hy.less hQ,i1⟩,i2⟩
    .rename_i id g z len;split at h1
     .rename_i g' ty sz es hb;split at h1
      .rename_i abH;obtain⟨rfl,hlen⟩:=abH;cases h1;have hbo:(m.blk id).2=some (.arr ty sz es):=by rw[hb]
       obtain⟨cur,hh,aaP,hsz,hl,hmx,hcs,hps⟩:=hok.obj id _ hbo;cases hc with
       |hsl ad cap hg hll hmm hhd=>
        obtain⟨f1,f2,f3⟩:=hhd sz (by rw[hb]) (by rw[hb];rfl);have had:=f2 (.inl rfl);have aa1:=f3 rfl;rw[act] at had;subst had;subst aa1;have hlt:(es.take len).length=len:=by simp;omega
        refine⟨⟨_,vs,m.σ id,os.map m.σ,rfl,rfl,⟨m.κ id,cur,by rw[hlt],hh,aaP,fun e he=>hsz e (acf he),by rw[hlt];exact hll,hmx,hcs,?_⟩,i1⟩,?_⟩
        .rw[hlt,lI hsz];have h1:=(aR.pw.1 hps).take (len*sz);rw[List.take_take,acu (abz _ hlen)] at h1;exact(aR.pw.2 h1).less hQ
        intro j hj;simp only[acp,aaZ,aat] at hj;rcases hj with rfl|hj
        .exact⟨_,hbo,rfl⟩
        exact i2 j hj
      cases h1
     exact snapcase (y:=.abN) h1
    exact snapcase (y:=.abN) h1
  cases h
theorem yX:∀(rs:List RC) (site:Nat) (b b':aw),(∀s,site<=s->(b s).1=(b' s).1)->gA b site rs=gA b' site rs:=by
 intro rs
 induction rs with
 |nil=>intro site b b' _;rfl
 |cons r rs ih=>
  intro site b b' h;have h1:dY b site r=dY b' site r:=by
   cases r with
   |p x=>rfl
   |own ty sz es=>simp only[dY,h site (aaj _)]
  simp only[gA,h1,ih (site+1) b b' (fun s hs=>h s (by omega))]
theorem F1{s c k:Nat}{o:Ob}(hc:m.fr c):Js m (m.install s c k o) where
 own x _ hn:=⟨rfl,fun h=>hn (mw hc h)⟩
 gen id:=by
  simp only[Mem.install,aa];split
  .rename_i e;subst e;exact Nat.le_succ _
  exact aaj _
 ref id hg hs:=by
  simp only[Mem.install,aa] at hg hs ⊢;split at hg
  .rename_i e;subst e;simp at hg
  rename_i e;simp only[if_neg e] at hs ⊢;exact⟨hs,trivial,trivial,trivial⟩
theorem Js.trans{a b c:Mem}(h:Js a b)(hs:a.w.heap.size<=b.w.heap.size)(k:Js b c):Js a c where
 own x hx hn:=by have h1:=h.own x hx hn;have h2:=k.own x (acM hx hs) h1.2;exact⟨h2.1.trans h1.1,h2.2⟩
 gen id:=abm (h.gen id) (k.gen id)
 ref id he hs':=by have h1:=h.gen id;have h2:=k.gen id;obtain⟨s1,e1,e2,e3⟩:=k.ref id (by omega) hs';obtain⟨s2,f1,f2,f3⟩:=h.ref id (by omega) s1;exact⟨s2,e1.trans f1,e2.trans f2,e3.trans f3⟩
theorem T7{m00:Mem}:∀ {rs:List RC} {vs:List Value} {bs:List Nat} {site:Nat} {m:Mem},Ok w0 m->gk m.w m.own rs vs bs->bs.Nodup->(∀c∈bs,m.fr c/\w0.heap.size<=c)->Ev m00 m->(∀c∈bs,m00.w.heap.size<=c\/m00.eE c)->
  ∃m',m'.w=m.w/\Ok w0 m'/\Ev m00 m'/\Js m m'/\(∀c,m'.fr c↔m.fr c/\c∉bs)/\m'.blk=app (gA m.blk site rs).2 m.blk/\aT m' (gA m.blk site rs).1 vs:=by
 intro rs
 induction rs with
 |nil=>intro vs bs site m hok h _ _ hev _;obtain⟨rfl,rfl⟩:=h;exact⟨m,rfl,hok,hev,⟨fun c _ h=>⟨rfl,h⟩,fun _=>aaj _,fun _ _ h=>⟨h,rfl,rfl,rfl⟩⟩,fun c=>by simp,rfl,rfl,fun j x u h=>by simp[gA] at h⟩
 |cons r rs ih=>
  intro vs bs site m hok h hnd hbs hev akQ;have cons:∀ {m':Mem} {x:C} {xs:List C} {v:Value} {vs:List Value},bJ m' x v->aT m' xs vs->aT m' (x::xs) (v::vs):=by
   intro m' x xs v vs h1 h2;refine⟨by simp[h2.1],fun j y u a b=>?_⟩;cases j with
   |zero=>simp at a b;subst a b;exact h1
   |succ j=>simp at a b;exact h2.2 j y u a b
  cases r with
  |p x=>obtain⟨v,vs',rfl,h1,h2⟩:=h;obtain⟨m',e1,e2,e3,e4,e5,e6,e7⟩:=ih (site:=site+1) hok h2 hnd hbs hev akQ;exact⟨m',e1,e2,e3,e4,e5,by simpa [gA,dY] using e6,by simpa [gA,dY] using cons (bJ.p (h1.ev e4)) e7⟩
  |own ty sz es=>
   obtain⟨v,vs',c,bs',rfl,rfl,⟨cap,cur,q1,q2,q3,q4,q5,q6,q7,q8⟩,h2⟩:=h;have hfc:=(hbs c (by simp)).1;have h0:=F1 (s:=site) (k:=cap) (o:=.arr ty sz es) hfc;have hσ:(m.install site c cap (.arr ty sz es)).σ site=c:=by simp[Mem.install,aa]
   have hκ:(m.install site c cap (.arr ty sz es)).κ site=cap:=by simp[Mem.install,aa]
   have abD:Ok w0 (m.install site c cap (.arr ty sz es)):=oN hok hfc (hbs c (by simp)).2
    ⟨cur,by rw[hσ];exact q2,q3,q4,by rw[hκ];exact q5,by rw[hκ];exact q6,by rw[hκ];exact q7,aR.ev h0 q8⟩
   have anj:=abQ.1 hnd;obtain⟨m',e1,e2,e3,e4,e5,e6,e7⟩:=ih (site:=site+1) (m:=m.install site c cap (.arr ty sz es)) abD (h2.less fun b hb=>mw hfc hb) anj.2
    (fun d hd=>⟨⟨(hbs d (by simp[hd])).1,fun e=>anj.1 (e▸hd)⟩,(hbs d (by simp[hd])).2⟩) (oO hev hfc (akQ c (by simp))) (fun d hd=>akQ d (by simp[hd]))
   have ag6:gA (m.install site c cap (.arr ty sz es)).blk (site+1) rs=gA m.blk (site+1) rs:=yX _ _ _ _ fun s hs=>by simp only[Mem.install,aa];rw[if_neg (by omega)]
   rw[ag6] at e6 e7;refine⟨m',e1,e2,e3,h0.trans (aaj _) e4,fun d=>?_,?_,?_⟩
   .rw[e5 d];simp only[Mem.install,aat,not_or];exact⟨fun⟨⟨a,b⟩,c⟩=>⟨a,b,c⟩,fun⟨a,b,c⟩=>⟨⟨a,b⟩,c⟩⟩
   .rw[e6];rfl
   refine cons ?_ e7;have:bJ (m.install site c cap (.arr ty sz es)) (.hsl site ((m.blk site).1+1) sz 0 es.length) v:=by
    rw[q1];refine .hsl _ _ ?_ q5 q6 fun z h1 h2=>?_
    .simp[Mem.install,aa]
    have hz:je ((m.install site c cap (.arr ty sz es)).blk site)=some sz:=by simp[Mem.install,aa,je]
    rw[hz] at h2;cases h2;exact⟨rfl,fun _=>by rw[hσ,act],fun _=>hκ.symm⟩
   exact this.ev e4
def kK:RV->Value->List Value->Prop
 | .one _,v,vs=>vs=[v]
 | .agg l,v,vs=>v=.agg vs.toArray/\vs.length=l.length
 | .tup _,_,_=>False
def ro:List RV->List Value->List Value->Prop
 |[],us,vs=>us=[]/\vs=[]
 |r::rs,us,vs=>∃u us' a b,us=u::us'/\vs=a++b/\kK r u a/\ro rs us' b
def Av:RV->Value->List Value->Prop
 | .tup rs,v,vs=>∃arr,v=.tuple arr/\ro rs arr.toList vs
 |r,v,vs=>kK r v vs
theorem aT.take{vs:List Value}(h:aT m cs vs)(n:Nat):aT m (cs.take n) (vs.take n):=aT.pw.2 ((aT.pw.1 h).take n)
theorem aT.drop{vs:List Value}(h:aT m cs vs)(n:Nat):aT m (cs.drop n) (vs.drop n):=aT.pw.2 ((aT.pw.1 h).drop n)
theorem aT.append{ds:List C}{vs us:List Value}(h:aT m cs vs)(k:aT m ds us):aT m (cs++ds) (vs++us):=aT.pw.2 ((aT.pw.1 h).append (aT.pw.1 k))
theorem aT.single{c:C}{v:Value}(h:bJ m c v):aT m [c] [v]:=⟨rfl,fun j x u a b=>by
 rcases j with _|j
 .simp at a b;subst a b;exact h
 simp at a⟩
theorem zo{v:V}{val:Value}(h:ef v=some cs)(hr:ia m v val):
  ∃vs,aT m cs vs/\ ∀(rs tl:List RC),rs.length=cs.length->(fL v (rs++tl)).2=tl/\bQ (fL v (rs++tl)).1=rs/\kK (fL v (rs++tl)).1 val vs:=by
 cases v with
 |undef=>simp[ef] at h
 |tup vs=>simp[ef] at h
 |one c=>
  simp only[ef,aaV] at h;subst h;refine⟨[val],aT.single hr,fun rs tl hl=>?_⟩
  match rs,hl with
  |[r],_=>exact⟨rfl,rfl,rfl⟩
 |agg ds=>
  simp only[ef,aaV] at h;subst h;obtain⟨arr,rfl,hc⟩:=hr;refine⟨arr.toList,hc,fun rs tl hl=>?_⟩;have h1:(rs++tl).take ds.length=rs:=by rw[<- hl];exact List.take_left
  have h2:(rs++tl).drop ds.length=tl:=by rw[<- hl];exact List.drop_left
  simp only[fL,bQ,kK,h1,h2,true_and];rw[hc.1,hl]
theorem IL:∀ {ws:List V} {cs:List C} {vals:List Value},ii ws=some cs->Pw (ia m) ws vals->
  ∃vs,aT m cs vs/\ ∀(rs:List RC),rs.length=cs.length->dJ (kx ws rs)=rs/\ro (kx ws rs) vals vs:=by
 intro ws
 induction ws with
 |nil=>
  intro cs vals h hr;simp only[ii,aaV] at h;subst h;have hv:vals=[]:=by have:=hr.1;simpa using this
  subst hv;refine⟨[],⟨rfl,fun j x u a=>by simp at a⟩,fun rs hl=>?_⟩;have:rs=[]:=by simpa using hl
  subst this;exact⟨rfl,rfl,rfl⟩
 |cons w ws ih=>
  intro cs vals h hr;simp only[ii] at h;split at h
  .rename_i a b h1 h2;cases h;cases vals with
   |nil=>have:=hr.1;simp at this
   |cons val vals=>
    obtain⟨vs1,hc1,hs1⟩:=zo h1 (hr.2 0 w val rfl rfl);obtain⟨vs2,hc2,hs2⟩:=ih (vals:=vals) h2 ⟨by have:=hr.1;simpa using this,fun j x u p q=>hr.2 (j+1) x u (by simpa using p) (by simpa using q)⟩;refine⟨vs1++vs2,hc1.append hc2,fun rs hl=>?_⟩;have hl':rs.length=a.length+b.length:=by simpa using hl
    obtain⟨p1,p2,p3⟩:=hs1 (rs.take a.length) (rs.drop a.length) (by simp;omega);rw[abA] at p1 p2 p3;obtain⟨q1,q2⟩:=hs2 (rs.drop a.length) (by simp;omega);simp only[kx,dJ,p1,p2,q1,ro];exact⟨abA _ _,val,vals,vs1,vs2,rfl,rfl,p3,q2⟩
  cases h
theorem MU{v:V}{val:Value}(h:jv v=some cs)(hr:aX m v val):
  ∃vs,aT m cs vs/\ ∀(rs:List RC),rs.length=cs.length->dp (kN v rs)=rs/\Av (kN v rs) val vs:=by
 have one:∀ {v:V},ef v=some cs->ia m v val->(∀rs,kN v rs=(fL v rs).1)->∃vs,aT m cs vs/\ ∀(rs:List RC),rs.length=cs.length->dp (kN v rs)=rs/\Av (kN v rs) val vs:=by
  intro v h hr he;obtain⟨vs,h1,h2⟩:=zo h hr;refine⟨vs,h1,fun rs hl=>?_⟩;obtain⟨_,p2,p3⟩:=h2 rs [] hl;rw[abo] at p2 p3;rw[he];generalize (fL v rs).1=y at p2 p3;cases y with
  |tup _=>exact p3.elim
  |one c=>exact⟨p2,p3⟩
  |agg c=>exact⟨p2,p3⟩
 cases v with
 |tup ws=>obtain⟨arr,rfl,hs,hc⟩:=hr;obtain⟨vs,h1,h2⟩:=IL (m:=m) (vals:=arr.toList) h ⟨by simpa using hs,fun j x u a b=>hc j x u a (by simpa using b)⟩;exact⟨vs,h1,fun rs hl=>⟨(h2 rs hl).1,arr,rfl,(h2 rs hl).2⟩⟩
 |undef=>simp[jv,ef] at h
 |one c=>exact one h hr fun _=>rfl
 |agg c=>exact one h hr fun _=>rfl
theorem s9{r:RV}{val:Value}{a b:List Value}(hf:kK r val a)(hc:aT m cs (a++b)):ia m (dM r cs).1 val/\aT m (dM r cs).2 b:=by
 cases r with
 |tup _=>exact hf.elim
 |one c=>
  have hf:a=[val]:=hf;subst hf;cases cs with
  |nil=>have:=hc.1;simp at this
  |cons x xs=>exact⟨hc.2 0 x val rfl rfl,by have:=hc.drop 1;simpa [dM] using this⟩
 |agg l=>
  obtain⟨rfl,hl⟩:=hf;refine⟨⟨_,rfl,?_⟩,?_⟩
  .have:=hc.take l.length;rw[<- hl,List.take_left] at this
   simpa [dM,hl] using this
  have:=hc.drop l.length;rw[<- hl,List.drop_left] at this
  simpa [dM,hl] using this
theorem HO:∀ {rs:List RV} {cs:List C} {us vs:List Value},ro rs us vs->aT m cs vs->Pw (ia m) (fg rs cs) us:=by
 intro rs
 induction rs with
 |nil=>intro cs us vs h _;obtain⟨rfl,rfl⟩:=h;exact⟨rfl,fun j x u a=>by simp[fg] at a⟩
 |cons r rs ih=>
  intro cs us vs h hc;obtain⟨u,us',a,b,rfl,rfl,h1,h2⟩:=h;obtain⟨p1,p2⟩:=s9 h1 hc;have p3:=ih h2 p2;refine⟨by simp[fg,p3.1],fun j x v q1 q2=>?_⟩;cases j with
  |zero=>simp[fg] at q1 q2;subst q1 q2;exact p1
  |succ j=>simp[fg] at q1 q2;exact p3.2 j x v q1 q2
theorem LW{r:RV}{val:Value}{vs:List Value}(hf:Av r val vs)(hc:aT m cs vs):aX m (iR r cs) val:=by
 cases r with
 |tup rs=>obtain⟨arr,rfl,h⟩:=hf;have:=HO h hc;exact⟨arr,rfl,by simpa using this.1,fun j x u a b=>this.2 j x u a (by simpa using b)⟩
 |one c=>have:=(s9 (b:=[]) (show kK (.one c) val vs from hf) (by simpa using hc)).1;exact aX.of1 this
 |agg c=>have:=(s9 (b:=[]) (show kK (.agg c) val vs from hf) (by simpa using hc)).1;exact aX.of1 this
end
end Go.Abs
namespace Go.Abs
section
variable{aaf b':aw}{site:Nat}{cs:ez}{sh:Ctx}{cp:cN}{env:Env}
def cK(ids:List Nat)(b b':aw):Prop:=∀id∈ids,b' id=b id
def gO(ts:List Nat)(e e':Env):Prop:=∀t∈ts,e' t=e t
theorem cK.left{x y:List Nat}{b:aw}(h:cK (x++y) b b'):cK x b b':=fun i hi=>h i (by simp[hi])
theorem cK.right{x y:List Nat}{b:aw}(h:cK (x++y) b b'):cK y b b':=fun i hi=>h i (by simp[hi])
theorem gO.left{x y:List Nat}{b b':Env}(h:gO (x++y) b b'):gO x b b':=fun i hi=>h i (by simp[hi])
theorem gO.right{x y:List Nat}{b b':Env}(h:gO (x++y) b b'):gO y b b':=fun i hi=>h i (by simp[hi])
section
variable {e e':Env}
theorem aG{a:aC}(h:gO a.tmps e e'):ev e' a=ev e a:=by
 cases a with
 |t n=>exact h n (by simp[aC.tmps])
 |_=>rfl
theorem M1:∀ {as:List aC},gO (vY as) e e'->as.map (ev e')=as.map (ev e):=by
 intro as
 induction as with
 |nil=>intro _;rfl
 |cons a r ih=>intro h;simp only[aaK];rw[aG h.left,ih h.right]
theorem wn:∀ {as:List aC},gO (vY as) e e'->ml e' as=ml e as:=by
 intro as
 induction as with
 |nil=>intro _;rfl
 |cons a r ih=>intro h;simp only[ml];rw[aG h.left,ih h.right]
theorem Ec{sz:Nat}:∀ {as:List aC},gO (vY as) e e'->lX e' sz as=lX e sz as:=by
 intro as
 induction as with
 |nil=>intro _;rfl
 |cons a r ih=>intro h;simp only[lX];rw[aG h.left,ih h.right]
theorem Dz:∀ {as:List (Nat×Nat×aC)},gO (NW as) e e'->kB e' as=kB e as:=by
 intro as
 induction as with
 |nil=>intro _;rfl
 |cons a r ih=>intro h;obtain⟨x,y,a⟩:=a;simp only[kB];rw[aG h.left,ih h.right]
theorem jR{d:Nat}{a:Option aC}(h:gO (NX a) e e'):eL e' d a=eL e d a:=by
 cases a with
 |none=>rfl
 |some a=>simp only[eL];rw[aG h]
theorem IK{a:aC}(h:gO a.tmps e e'):Gh e' a=Gh e a:=by unfold Gh;rw[aG h]
theorem yv{sh:Nat->Bool}{blk:aw}{p:vQ}(h:gO p.tmps e e'):aM sh e' blk p=aM sh e blk p:=by
 cases p with
 |mov x=>simp only[aM,aG (a:=x) h]
 |pick c a b=>simp only[aM,aG (a:=c) h.left.left,aG (a:=a) h.left.right,aG (a:=b) h.right]
 |alloc s z=>rfl
 |box s x=>simp only[aM,aG (a:=x) h]
 |build z ps=>simp only[aM,Dz (as:=ps) h]
 |aaq s ty sz ps=>simp only[aM,Ec (as:=ps) h]
 |load k x=>simp only[aM,aG (a:=x) h]
 |store n a x=>simp only[aM,aG (a:=a) h.left,aG (a:=x) h.right]
 |aa5 x=>simp only[aM,aG (a:=x) h]
 |bin op x y=>simp only[aM,aG (a:=x) h.left,aG (a:=y) h.right]
 |eqc k n x y=>simp only[aM,aG (a:=x) h.left,aG (a:=y) h.right]
 |un op x=>simp only[aM,aG (a:=x) h]
 |conv k x=>simp only[aM,aG (a:=x) h]
 |bstr x=>simp only[aM,aG (a:=x) h]
 |mkfn f a b=>simp only[aM,wn (as:=a) h.left,wn (as:=b) h.right]
 |mkmap s ag=>rfl
 |aaA s ty sz bytes z l c=>simp only[aM,aG (a:=l) h.left,aG (a:=c) h.right]
 |slice sz x lo hi=>simp only[aM,aG (a:=x) h.left.left,jR (a:=lo) h.left.right,jR (a:=hi) h.right]
 |sslice x lo hi=>simp only[aM,aG (a:=x) h.left.left,jR (a:=lo) h.left.right,jR (a:=hi) h.right]
 |abr off x=>simp only[aM,aG (a:=x) h]
 |aaU sz x i=>simp only[aM,aG (a:=x) h.left,aG (a:=i) h.right]
 |abg l sz x i=>simp only[aM,aG (a:=x) h.left,aG (a:=i) h.right]
 |fld off k x=>simp only[aM,aG (a:=x) h]
 |aidx l sz k x i=>simp only[aM,aG (a:=x) h.left,aG (a:=i) h.right]
 |sidx x i=>simp only[aM,aG (a:=x) h.left,aG (a:=i) h.right]
 |lookup kd z ag ok x k=>simp only[aM,aG (a:=x) h.left,aG (a:=k) h.right]
 |mupd kd ag m k v=>simp only[aM,aG (a:=m) h.left.left,aG (a:=k) h.left.right,aG (a:=v) h.right]
 |bad=>rfl
 |extract x i=>simp only[aM,aG (a:=x) h]
 |call s f as=>simp only[aM,IK (a:=f) h.left,M1 (as:=as) h.right]
 |slen x=>simp only[aM,aG (a:=x) h]
 |adr x=>simp only[aM,aG (a:=x) h]
 |mlen x=>simp only[aM,aG (a:=x) h]
 |append s ty sz b x y=>simp only[aM,aG (a:=x) h.left,aG (a:=y) h.right]
 |max x y=>simp only[aM,aG (a:=x) h.left,aG (a:=y) h.right]
 |min x y=>simp only[aM,aG (a:=x) h.left,aG (a:=y) h.right]
 |clear z x=>simp only[aM,aG (a:=x) h]
end
section
variable {b b':aw}
theorem cM{α β:Type}{f g:α->Option (β×List Nat)}(hf:∀x y r,f x=some (y,r)->cK r b b'->g x=some (y,r)):∀ {xs:List α} {ys:List β} {r:List Nat},collect f xs=some (ys,r)->cK r b b'->collect g xs=some (ys,r):=by
 intro xs
 induction xs with
 |nil=>intro ys r h _;exact h
 |cons x xs ih=>
  intro ys r h ha;simp only[collect] at h ⊢;split at h
  .rename_i y p bs q e1 e2;cases h;rw[hf _ _ _ e1 ha.left,ih e2 ha.right]
  cases h
theorem lM:∀(n:Nat) (c:C) (x:PV) (r:List Nat),snap b n c=some (x,r)->cK r b b'->snap b' n c=some (x,r):=by
 intro n
 induction n with
 |zero=>intro c x r h;simp[snap] at h
 |succ n ih=>
  intro c x r h ha;cases c with
  |p v=>exact h
  |aam id g off=>
   have hid:id∈r:=by
    simp only[snap] at h
    (repeat' split at h)<;>first
     |cases h
     |skip
    all_goals simp
   have hb:=ha id hid;simp only[snap] at h ⊢;rw[hb];split at h
   .split at h
    .rename_i hg;rw[if_pos hg];split at h
     .rename_i hc;cases h;rw[cM ih hc (fun i hi=>ha i (by simp[hi]))]
     cases h
    cases h
   .exact h
   cases h
  |hel id g i off=>
   have hid:id∈r:=by
    simp only[snap,aaD] at h
    (repeat' split at h)<;>first
     |cases h
     |skip
    all_goals(simp only[aaD] at h;obtain⟨e,_,h⟩:=h;cases h;simp)
   have hb:=ha id hid;simp only[snap] at h ⊢;rw[hb];exact h
  |hsl id g z off len=>
   have hid:id∈r:=by
    simp only[snap] at h
    (repeat' split at h)<;>first
     |cases h
     |skip
    all_goals simp
   have hb:=ha id hid;simp only[snap] at h ⊢;rw[hb];split at h
   .exact h
   .exact h
   .split at h
    .rename_i hg;rw[if_pos hg];split at h
     .rename_i hc;cases h;rw[cM (fun _ _ _ p q=>cM ih p q) hc (fun i hi=>ha i (by simp[hi]))]
     cases h
    cases h
   cases h
  |aaT id g=>
   have hid:id∈r:=by
    simp only[snap] at h
    (repeat' split at h)<;>first
     |cases h
     |skip
    all_goals simp
   have hb:=ha id hid;simp only[snap] at h ⊢;rw[hb];exact h
  |hfn f x y=>
   simp only[snap] at h ⊢;split at h
   .rename_i h1 h2;cases h;rw[cM ih h1 ha.left,cM ih h2 ha.right]
   cases h
theorem EZ(x y:V)(r:List Nat)(h:gD b x=some (y,r))(ha:cK r b b'):gD b' x=some (y,r):=by
 cases x with
 |undef=>simp[gD] at h
 |tup _=>simp[gD] at h
 |one c=>simp only[gD,aaD] at h ⊢;obtain⟨⟨p,q⟩,h1,h2⟩:=h;cases h2;exact⟨_,lM _ _ _ _ h1 ha,rfl⟩
 |agg cs=>simp only[gD,aaD] at h ⊢;obtain⟨⟨p,q⟩,h1,h2⟩:=h;cases h2;exact⟨_,cM (lM _) h1 ha,rfl⟩
theorem De{xs ys:List V}{r:List Nat}(h:mQ b xs=some (ys,r))(ha:cK r b b'):mQ b' xs=some (ys,r):=cM EZ h ha
theorem IJ{all:List Nat}{id:Nat}{u:List jS}(h:A0 b all id=some u)(hid:id∈all)(ha:cK all b b'):A0 b' all id=some u:=by
 have hb:=ha id hid;unfold A0 at h ⊢;rw[hb];split at h
 .split at h
  .rename_i ps r hc;split at h
   .rename_i hr;have hr':cK r b b':=fun i hi=>ha i (by have:=aba.1 hr i hi;simpa using this);rw[cM (lM _) hc hr'];simp only;rw[if_pos hr];exact h
   cases h
  cases h
 .exact h
 .split at h
  .rename_i ps r hc;split at h
   .rename_i hr;have hr':cK r b b':=fun i hi=>ha i (by have:=aba.1 hr i hi;simpa using this);rw[cM (fun _ _ _ p q=>cM (lM _) p q) hc hr'];simp only;rw[if_pos hr];exact h
   cases h
  cases h
 .exact h
 .cases h
 exact h
theorem II{all:List Nat}(ha:cK all b b'):∀ {ids:List Nat} {u:List jS},(∀i∈ids,i∈all)->tn b all ids=some u->tn b' all ids=some u:=by
 intro ids
 induction ids with
 |nil=>intro u _ h;exact h
 |cons i r ih=>
  intro u hs h;simp only[tn] at h ⊢;split at h
  .rename_i x y h1 h2;cases h;rw[IJ h1 (hs i (by simp)) ha,ih (fun j hj=>hs j (by simp[hj])) h2]
  cases h
theorem nC{ids:List Nat}{u:List jS}(h:Gb b ids=some u)(ha:cK ids b b'):Gb b' ids=some u:=II ha (fun _ h=>h) h
theorem MF{r:RC}(h:cK ((dY b site r).2.map (·.1)) b b'):dY b' site r=dY b site r:=by
 cases r with
 |p x=>rfl
 |own ty sz es=>simp only[dY];rw[h site (by simp[dY])]
theorem Ix:∀ {rs:List RC} {site:Nat},cK ((gA b site rs).2.map (·.1)) b b'->gA b' site rs=gA b site rs:=by
 intro rs
 induction rs with
 |nil=>intro site _;rfl
 |cons r rs ih=>intro site h;simp only[gA,abq] at h ⊢;rw[MF h.left,ih h.right]
theorem Cd{r:RV}(h:cK ((rV b site r).2.map (·.1)) b b'):rV b' site r=rV b site r:=by unfold rV at h ⊢;simp only at h;rw[Ix h]
theorem Ir{rd:List Nat}{r:RV}{v:V}{u:List jS}(h:land b rd site r=some (v,u))(ha:cK rd b b')(hu:cK (u.map (·.1)) b b'):land b' rd site r=some (v,u):=by
 unfold land at h ⊢;split at h
 .rename_i hc;rw[if_pos hc];cases h;rw[Cd hu];rfl
 rename_i hc;rw[if_neg hc];split at h
 .rename_i fu hf;cases h;rw[nC hf ha];simp only;rw[abq] at hu;rw[Cd hu.right]
 cases h
theorem ym{x:V}{cs:List C}{r:List Nat}(h:AW b x=some (cs,r))(ha:cK r b b'):AW b' x=some (cs,r):=by
 have key:∀id,(id∈r->b' id=b id):=fun id hid=>ha id hid;unfold AW at h ⊢;split at h
 .exact h
 .rename_i id g off;have hid:id∈r:=by
   (repeat' split at h)<;>first
    |cases h
    |skip
   all_goals simp
  simp only[key id hid];exact h
 .rename_i id g i off;have hid:id∈r:=by
   (repeat' split at h)<;>first
    |cases h
    |skip
   all_goals(simp only[aaD] at h;obtain⟨e,_,h⟩:=h;cases h;simp)
  simp only[key id hid];exact h
 cases h
theorem Im{x:V}{n:Nat}{r:List Nat}(h:yL b x=some (n,r))(ha:cK r b b'):yL b' x=some (n,r):=by
 have key:∀id,(id∈r->b' id=b id):=fun id hid=>ha id hid;unfold yL at h ⊢;split at h
 .exact h
 .exact h
 .rename_i id g;have hid:id∈r:=by
   (repeat' split at h)<;>first
    |cases h
    |skip
   all_goals simp
  simp only[key id hid];exact h
 cases h
theorem FK{ag:Bool}{x:V}{es:List (PV×List PV)}{r:List Nat}(h:mapOf b ag x=some (es,r))(ha:cK r b b'):mapOf b' ag x=some (es,r):=by
 have key:∀id,(id∈r->b' id=b id):=fun id hid=>ha id hid;unfold mapOf at h ⊢;split at h
 .exact h
 .exact h
 .rename_i id g;have hid:id∈r:=by
   (repeat' split at h)<;>first
    |cases h
    |skip
   all_goals simp
  simp only[key id hid];exact h
 cases h
theorem iH{x:V}{es:List (List PV)}{r fr:List Nat}(h:aO b x=some (es,r,fr))(ha:cK r b b')(hf:cK fr b b'):aO b' x=some (es,r,fr):=by
 have key:∀id,(id∈r->b' id=b id):=fun id hid=>ha id hid;unfold aO at h ⊢;split at h
 .exact h
 .exact h
 .rename_i id g z off len;have hid:id∈r:=by
   (repeat' split at h)<;>first
    |cases h
    |skip
   all_goals simp
  simp only[key id hid];split at h
  .exact h
  .exact h
  .split at h
   .rename_i hc;rw[if_pos hc];split at h
    .rename_i h1;cases h;rw[cM (fun _ _ _ p q=>cM (lM _) p q) h1 hf]
    cases h
   cases h
  exact h
 cases h
theorem Hr{a:V}{n:Nat}{xs:List C}{v:V}{u:List jS}{r:List Nat}(h:xD b a n xs=.done v u r)(ha:cK r b b'):xD b' a n xs=.done v u r:=by
 have key:∀id,(id∈r->b' id=b id):=fun id hid=>ha id hid;unfold xD at h ⊢;split at h
 .cases h
 rename_i hn;rw[if_neg hn];split at h
 .rename_i id g off;have hid:id∈r:=by
   (repeat' split at h)<;>first
    |cases h
    |skip
   all_goals simp
  simp only[key id hid];exact h
 .rename_i id g i off;have hid:id∈r:=by
   (repeat' split at h)<;>first
    |cases h
    |skip
   all_goals simp
  simp only[key id hid];exact h
 cases h
theorem Et{ty sz bytes:Nat}{s x v:V}{u:List jS}{r:List Nat}(h:aF b site ty sz bytes s x=.done v u r)(ha:cK r b b'):aF b' site ty sz bytes s x=.done v u r:=by
 unfold aF at h ⊢;split at h
 .cases h
 rename_i new rd fr hel;split at h
 .cases h
 rename_i hsz;split at h
 .cases h
 rename_i fu hfu;have sub:∀ {l:List Nat},(∀i∈l,i∈r)->cK l b b':=fun hl i hi=>ha i (hl i hi);split at h
 .split at h
  .rename_i hn;cases h;rw[iH hel ha.left ha.right];simp only;rw[if_neg hsz,nC hfu ha.right];simp only;rw[if_pos hn]
  rename_i hn;split at h
  .rename_i hr;cases h;rw[iH hel (sub fun i hi=>by simp[hi]) (sub fun i hi=>by simp[hi])];simp only;rw[if_neg hsz,nC hfu (sub fun i hi=>by simp[hi])];simp only;rw[if_neg hn,if_pos hr,ha site (by simp)]
  cases h
 .split at h
  .cases h
  rename_i hn;split at h
  .rename_i hr;cases h;rw[iH hel (sub fun i hi=>by simp[hi]) (sub fun i hi=>by simp[hi])];simp only;rw[if_neg hsz,nC hfu (sub fun i hi=>by simp[hi])];simp only;rw[if_neg hn,if_pos hr,ha site (by simp)]
  cases h
 .rename_i id g z len;split at h
  .rename_i g' ty' sz' es hb;split at h
   .rename_i hr;cases h;rw[iH hel (sub fun i hi=>by simp[hi]) (sub fun i hi=>by simp[hi])];simp only;rw[if_neg hsz,nC hfu (sub fun i hi=>by simp[hi])];simp only;have h1:=ha id (by simp);rw[hb] at h1;simp only[h1];rw[if_pos hr,ha site (by simp)]
   cases h
  cases h
 cases h
end
theorem Md{sh:Nat->Bool}{e:Env}{b:aw}{p:vQ}{v:V}{u:List jS}{r:List Nat}(h:aM sh e b p=.done v u r)(ha:cK r b b'):aM sh e b' p=.done v u r:=by
 cases p with
 |alloc s z=>simp only[aM,d9.done.injEq] at h ⊢;obtain⟨h1,h2,h3⟩:=h;rw[ha s (by rw[<- h3];simp)];exact⟨h1,h2,h3⟩
 |mkmap s ag=>simp only[aM,d9.done.injEq] at h ⊢;obtain⟨h1,h2,h3⟩:=h;rw[ha s (by rw[<- h3];simp)];exact⟨h1,h2,h3⟩
 |box s x=>
  simp only[aM] at h ⊢;split at h
  .cases h;rw[ha s (by simp)]
  cases h
 |aaq s ty sz ps=>
  simp only[aM] at h ⊢;split at h
  .split at h
   .cases h;rw[ha s (by simp)]
   cases h;rw[ha s (by simp)]
  cases h
 |aaA s ty sz bytes z l c=>
  simp only[aM] at h ⊢;split at h
  .split at h
   .rename_i hc;cases h;rw[if_pos hc,ha s (by simp)]
   cases h
  cases h
 |load k x=>
  simp only[aM] at h ⊢;split at h
  .rename_i cs q hq;split at h
   .rename_i v' hv;cases h;rw[ym hq ha];simp only[hv]
   cases h
  cases h
 |store n a x=>
  simp only[aM] at h ⊢;split at h
  .exact Hr h ha
  cases h
 |bstr x=>
  simp only[aM] at h ⊢;split at h
  .rename_i es q hq;split at h
   .rename_i bs hb;cases h;rw[iH hq ha (fun i hi=>by simp at hi)];simp only[hb]
   cases h
  cases h
 |lookup kd z ag ok x k=>
  simp only[aM] at h ⊢;split at h
  .rename_i es q key hm hk;split at h
   .cases h
   rename_i hkd;split at h
   .rename_i f hf;split at h
    .rename_i w hw;cases h;rw[FK hm ha,hk];simp only;rw[if_neg hkd];simp only[hf,hw]
    cases h
   cases h
  cases h
 |clear z x=>
  simp only[aM] at h ⊢;split at h
  .cases h;rfl
  .cases h;rfl
  .rename_i id g w off len e;split at h
   .rename_i h0;cases h;simp only[h0,if_true]
   rename_i h0;split at h
   .rename_i g' ty sz es h4;split at h
    .rename_i hc;cases h;have hb:=ha id (by simp);rw[h4] at hb;rw[if_neg h0];simp only[hb];rw[if_pos hc]
    cases h
   cases h
  cases h
 |mupd kd ag m k v=>
  simp only[aM] at h ⊢;split at h
  .rename_i id g q cs h1 h2 h3;split at h
   .rename_i g' ag' es ps h4 h5;split at h
    .rename_i hc;split at h
     .rename_i i w hf;cases h;have hb:=ha id (by simp);rw[h4] at hb;simp only[hb,h5];rw[if_pos hc];simp only[hf]
     .rename_i hf;cases h;have hb:=ha id (by simp);rw[h4] at hb;simp only[hb,h5];rw[if_pos hc];simp only[hf]
     cases h
    cases h
   cases h
  cases h
 |mlen x=>
  simp only[aM] at h ⊢;split at h
  .rename_i n q hq;cases h;rw[Im hq ha]
  cases h
 |append s ty sz bytes x y=>exact Et h ha
 |call s f as=>
  simp only[aM] at h
  (repeat' split at h)<;>cases h
 |_=>exact h
theorem Tq{sh:Nat->Bool}{e:Env}{b:aw}{p:vQ}{f s:Nat}{vs:List V}{r:List Nat}(h:aM sh e b p=.pc f vs r s)(ha:cK r b b'):aM sh e b' p=.pc f vs r s:=by
 cases p with
 |call s f as=>
  simp only[aM] at h ⊢;split at h
  .split at h
   .cases h
   rename_i hsh;rw[if_neg hsh];split at h
   .rename_i hs;cases h;rw[De hs ha]
   cases h
  cases h
 |_=>
  (simp only[aM,xD,aF,gT,reduceCtorEq] at h)<;>(repeat' split at h)<;>cases h
theorem Tp{sh:Nat->Bool}{e:Env}{b:aw}{p:vQ}{f:Nat}{vs:List V}(h:aM sh e b p=.sc f vs):aM sh e b' p=.sc f vs:=by
 cases p with
 |call s f as=>
  simp only[aM] at h ⊢;split at h
  .split at h
   .rename_i hsh;rw[if_pos hsh];exact h
   split at h<;>cases h
  cases h
 |_=>
  (simp only[aM,xD,aF,gT,reduceCtorEq] at h)<;>(repeat' split at h)<;>cases h
theorem XQ:∀(u:List jS) (b b':aw) (id:Nat),id∈u.map (·.1)->app u b id=app u b' id:=by
 intro u
 induction u with
 |nil=>intro b b' id h;simp at h
 |cons x u ih=>
  intro b b' id h;obtain⟨i,o⟩:=x;simp only[app];by_cases hu:id∈u.map (·.1)
  .exact ih _ _ _ hu
  have hi:id=i:=by simpa [hu] using h
  have key:∀(u:List jS) (b:aw),id∉u.map (·.1)->app u b id=b id:=by
   intro u
   induction u with
   |nil=>intro b _;rfl
   |cons x u ih=>intro b h;obtain⟨j,o⟩:=x;simp only[aaK,aat,not_or] at h;simp only[app];rw[ih _ h.2,aa,if_neg h.1]
  rw[key u _ hu,key u _ hu,aa,aa,if_pos hi,if_pos hi]
theorem Eu:∀(u:List jS) (b:aw) (id:Nat),id∉u.map (·.1)->app u b id=b id:=by
 intro u
 induction u with
 |nil=>intro b id _;rfl
 |cons x u ih=>intro b id h;obtain⟨j,o⟩:=x;simp only[aaK,aat,not_or] at h;simp only[app];rw[ih _ _ h.2,aa,if_neg h.1]
theorem CQ{e e':Env}{g:Option (Nat×Bool)}(h:∀t w,g=some (t,w)->e' t=e t):wanted e' g=wanted e g:=by
 cases g with
 |none=>rfl
 |some q=>obtain⟨t,w⟩:=q;simp only[wanted,h t w rfl]
def dR.writes(f:dR)(id:Nat):Bool:=f.wr.contains id||f.fs.contains (cH id)
def dR.kL(f:dR)(id:Nat):Bool:=f.rd.contains id||f.writes id
theorem tX{b:aw}:∀(n:Nat) (c:C),cK (c9 b n c) b b'->c9 b' n c=c9 b n c:=by
 intro n
 induction n with
 |zero=>intro c _;rfl
 |succ n ih=>
  have many:∀(cs:List C),cK (cs.map (c9 b n)).flatten b b'->(cs.map (c9 b' n)).flatten=(cs.map (c9 b n)).flatten:=by
   intro cs
   induction cs with
   |nil=>intro _;rfl
   |cons c cs ihc=>intro h;simp only[aaK,abt] at h ⊢;rw[ih c h.left,ihc h.right]
  intro c h;cases c with
  |p v=>rfl
  |aam id g off=>
   simp only[c9] at h ⊢;have hb:=h id (by simp);rw[hb];split
   .rename_i cs hbe;rw[hbe] at h;rw[many cs (fun i hi=>h i (by simp only[aat];exact .inr hi))]
   rfl
  |hel id g i off=>
   simp only[c9] at h ⊢;have hb:=h id (by simp);rw[hb];split
   .rename_i cs hbe;rw[hbe] at h;rw[many _ (fun i hi=>h i (by simp only[aat];exact .inr hi))]
   rfl
  |hsl id g z off len=>
   simp only[c9] at h ⊢;have hb:=h id (by simp);rw[hb];split
   .rename_i cs hbe;rw[hbe] at h;rw[many _ (fun i hi=>h i (by simp only[aat];exact .inr hi))]
   rfl
  |aaT id g=>rfl
  |hfn f x y=>simp only[c9] at h ⊢;rw[many x h.left,many y h.right]
theorem Dq{b:aw}(v:V)(h:cK (cJ b v) b b'):cJ b' v=cJ b v:=by
 cases v with
 |undef=>rfl
 |tup _=>rfl
 |one c=>exact tX _ _ h
 |agg cs=>
  simp only[cJ] at h ⊢
  induction cs with
  |nil=>rfl
  |cons c cs ih=>simp only[aaK,abt] at h ⊢;rw[tX _ c h.left,ih h.right]
theorem He{f:Nat}{vs:List V}{b:aw}(h:cK (allow sh f vs b).ids b b'):allow sh f vs b'=allow sh f vs b:=by
 have:(vs.map (cJ b')).flatten=(vs.map (cJ b)).flatten:=by
  unfold allow at h;simp only at h
  induction vs with
  |nil=>rfl
  |cons v vs ih=>simp only[aaK,abt] at h ⊢;rw[Dq v h.left,ih h.right]
 unfold allow;rw[this]
def mZ(cs:ez):Prop:=∀f vs al blk v aaf,cs f vs al blk=some (v,aaf)->(∀id,al.ok id=false->aaf id=blk id)/\
 ∀aal,(∀id,al.ok id=true->aal id=blk id)->∃aaQ,cs f vs al aal=some (v,aaQ)/\ ∀id,aaQ id=if al.ok id then aaf id else aal id
theorem ud{al:Al}{l:List Nat}(h:al.kY l=true){id:Nat}(hid:id∈l):al.ok id=true:=aba.1 h id hid
theorem Iz{a b:Al}(hb:b.any=false)(h:a.holds b=true){id:Nat}(hid:b.ok id=true):a.ok id=true:=by
 unfold Al.holds at h;simp only[acF,aay] at h;rcases h with h|⟨h1,h2⟩
 .simp[Al.ok,h]
 simp only[Al.ok,hb,acG,acF] at hid;rcases hid with hid|hid
 .exact ud h1 (by simpa using hid)
 have:=aba.1 h2 (cH id) (by simpa using hid);simp only[Al.ok,acF];exact .inr this
theorem qt(hcs:mZ cs){o:aj}{aah:Env}{blk:aw}{f:dR}(h:step1 sh cp cs o env blk=some (aah,aaf,f)):
  ∃v,aah=put env o.dst v/\(∀id,f.writes id=false->aaf id=blk id)/\(∀id,f.kL id=true->sh.al.ok id=true)/\
   ∀(aar:Env) (aal:aw),gO o.Hw env aar->(∀id,f.kL id=true->aal id=blk id)->
    ∃aaQ,step1 sh cp cs o aar aal=some (put aar o.dst v,aaQ,f)/\ ∀id,aaQ id=if f.writes id then aaf id else aal id:=by
 have aeC:∀(aar:Env),gO o.Hw env aar->gO o.op.tmps env aar/\wanted aar o.guard=wanted env o.guard:=by intro aar h;unfold aj.Hw at h;exact⟨h.left,CQ fun t w hg=>h.right t (by rw[hg];simp)⟩
 have hwr:∀(r w:List Nat) (id:Nat),(⟨r,w,[]⟩:dR).writes id=w.contains id:=by intro r w id;simp[dR.writes]
 have hto:∀(r w:List Nat) (id:Nat),(⟨r,w,[]⟩:dR).kL id=true↔id∈r\/id∈w:=by intro r w id;simp[dR.kL,dR.writes]
 have amY:∀(u:List jS) (b b2:aw) (r:List Nat) (id:Nat),app u b2 id=if (⟨r,u.map (·.1),[]⟩:dR).writes id then app u b id else b2 id:=by
  intro u b b2 r id;rw[hwr];by_cases hid:id∈u.map (·.1)
  .rw[if_pos (by simpa using hid)];exact XQ _ _ _ _ hid
  rw[if_neg (by simpa using hid)];exact Eu _ _ _ hid
 unfold step1 at h;split at h
 .cases h
 .rename_i hw;cases h;refine⟨.undef,rfl,fun _ _=>rfl,fun id hid=>by simp[dR.kL,dR.writes] at hid,fun aar aal he hb=>⟨aal,?_,fun id=>by simp[dR.writes]⟩⟩;unfold step1;rw[(aeC aar he).2,hw]
 rename_i hw;split at h
 .cases h
 .rename_i v u r hp;split at h
  .rename_i hok;cases h;refine⟨v,rfl,fun id hid=>Eu _ _ _ (by rw[hwr] at hid;simpa using hid),fun id hid=>ud hok (by have:=(hto _ _ _).1 hid;simpa using this),fun aar aal he hb=>⟨app u aal,?_,fun id=>amY _ _ _ _ _⟩⟩;unfold step1;rw[(aeC aar he).2,hw];simp only;rw[yv (aeC aar he).1,Md hp fun id hid=>hb id ((hto _ _ _).2 (.inl hid))];simp only;rw[if_pos hok]
  cases h
 .rename_i g vs r s hp;split at h
  .rename_i x hx;split at h
   .rename_i v u hl;split at h
    .rename_i hok;cases h;refine⟨v,rfl,fun id hid=>Eu _ _ _ (by rw[hwr] at hid;simpa using hid),fun id hid=>ud hok (by have:=(hto _ _ _).1 hid;simp at this ⊢;rcases this with h|h<;>simp[h]),fun aar aal he hb=>⟨app u aal,?_,fun id=>amY _ _ _ _ _⟩⟩;unfold step1;rw[(aeC aar he).2,hw];simp only;rw[yv (aeC aar he).1,Tq hp fun id hid=>hb id ((hto _ _ _).2 (.inl (by simp[hid])))];simp only[hx];rw[Ir hl (fun id hid=>hb id ((hto _ _ _).2 (.inl (by simp[hid])))) fun id hid=>hb id ((hto _ _ _).2 (.inr hid))];simp only;rw[if_pos hok]
    cases h
   cases h
  cases h
 rename_i g vs hp;split at h
 .rename_i hok;split at h
  .rename_i v b1 hx;cases h;have hal:∀id,(⟨(allow sh g vs blk).ids,(allow sh g vs blk).ids,(allow sh g vs blk).fs⟩:dR).writes id=(allow sh g vs blk).ok id:=by
    intro id;simp[dR.writes,Al.ok,allow]
   have ak9:∀id,(⟨(allow sh g vs blk).ids,(allow sh g vs blk).ids,(allow sh g vs blk).fs⟩:dR).kL id=(allow sh g vs blk).ok id:=by intro id;simp only[dR.kL,hal];simp only[Al.ok];cases (allow sh g vs blk).ids.contains id<;>simp
   obtain⟨l1,l2⟩:=hcs _ _ _ _ _ _ hx;refine⟨v,rfl,fun id hid=>l1 id (by rw[<- hal];exact hid),fun id hid=>Iz rfl hok (by rw[<- ak9];exact hid),fun aar aal he hb=>?_⟩;obtain⟨aaQ,g1,g2⟩:=l2 aal fun id hid=>hb id (by rw[ak9];exact hid);have aqW:allow sh g vs aal=allow sh g vs blk:=He fun id hid=>hb id (by rw[ak9];simp[Al.ok,hid]);refine⟨aaQ,?_,fun id=>by rw[hal];exact g2 id⟩;unfold step1;rw[(aeC aar he).2,hw];simp only;rw[yv (aeC aar he).1,Tp hp];simp only[aqW];rw[if_pos hok];simp only[g1]
  cases h
 cases h
theorem OR(env:Env){d d':Option Nat}(v v':V)(h:∀t,d=some t->d'≠some t):put (put env d v) d' v'=put (put env d' v') d v:=by
 cases d with
 |none=>rfl
 |some t=>
  cases d' with
  |none=>rfl
  |some t'=>
   have hne:t'≠t:=fun e=>h t rfl (by rw[e]);funext x;simp only[put,aa];by_cases h1:x=t
   .subst h1;rw[if_pos rfl,if_neg (fun e=>hne e.symm),if_pos rfl]
   rw[if_neg h1,if_neg h1]
theorem JR{d:Option Nat}{v:V}{t:Nat}(h:d≠some t):put env d v t=env t:=by
 cases d with
 |none=>rfl
 |some x=>simp only[put,aa];rw[if_neg (fun e=>h (by rw[e]))]
theorem mr{a b:List Nat}(h:meets a b=false){i:Nat}(ha:i∈a):i∉b:=by
 intro hb;have:meets a b=true:=by simp only[meets,List.any_eq_true];exact⟨i,ha,by simpa using hb⟩
 rw[h] at this;cases this
theorem tk{fs ids:List Nat}(h:Iw fs ids=false){i:Nat}(hi:i∈ids):cH i∉fs:=by
 intro hf;have:Iw fs ids=true:=by simp only[Iw,List.any_eq_true];exact⟨i,hi,by simpa using hf⟩
 rw[h] at this;cases this
theorem I7{a b:dR}(h:Aa a b=false)(id:Nat):(a.writes id=true->b.kL id=false)/\(b.writes id=true->a.kL id=false):=by
 simp only[Aa,adV] at h;obtain⟨⟨⟨⟨⟨c1,c2⟩,c3⟩,c4⟩,c5⟩,c6⟩:=h;have sw:∀ {x y:List Nat},meets x y=false->meets y x=false:=by
  intro x y h;cases he:meets y x with
  |false=>rfl
  |true=>simp only[meets,List.any_eq_true] at he;obtain⟨i,h1,h2⟩:=he;exact absurd h1 (mr h (by simpa using h2))
 have one:∀ {a b:dR},meets a.wr b.rd=false->meets a.wr b.wr=false->meets a.fs b.fs=false->Iw a.fs (b.rd++b.wr)=false->Iw b.fs (a.rd++a.wr)=false->a.writes id=true->b.kL id=false:=by
  intro a b c1 c2 c4 c5 c6 hw;simp only[dR.writes,acF] at hw;simp only[dR.kL,dR.writes,adV];rcases hw with hw|hw
  .have hw:id∈a.wr:=by simpa using hw
   exact⟨by simpa using mr c1 hw,by simpa using mr c2 hw,by simpa using tk c6 (i:=id) (by simp[hw])⟩
  have hw:cH id∈a.fs:=by simpa using hw
  refine⟨?_,?_,?_⟩
  .cases he:b.rd.contains id with
   |false=>rfl
   |true=>exact absurd hw (tk c5 (i:=id) (by simp at he;simp[he]))
  .cases he:b.wr.contains id with
   |false=>rfl
   |true=>exact absurd hw (tk c5 (i:=id) (by simp at he;simp[he]))
  simpa using mr c4 hw
 exact⟨one c1 c2 c4 c5 c6,one (sw c3) (sw c2) (sw c4) c6 c5⟩
theorem swap{sh:Ctx}{cp:cN}{cs:ez}(hcs:mZ cs){x y:aj}{env aaG aar:Env}{blk aao aal:aw}{e1 e2:dR}(hx:step1 sh cp cs x env blk=some (aaG,aao,e1))(hy:step1 sh cp cs y aaG aao=some (aar,aal,e2))
  (hf:zj x y=true) (hc:Aa e1 e2=false):∃envy blky,step1 sh cp cs y env blk=some (envy,blky,e2)/\step1 sh cp cs x envy blky=some (aar,aal,e1):=by
 obtain⟨v1,rfl,fr1,_,apT⟩:=qt hcs hx;obtain⟨v2,rfl,fr2,_,apS⟩:=qt hcs hy;have hf1:∀t,x.dst=some t->t∉y.Hw/\y.dst≠some t:=by intro t ht;simp only[zj,ht,aay] at hf;have h1:=hf.1;simp at h1;exact⟨by simpa using h1.1,h1.2⟩
 have hf2:∀t,y.dst=some t->t∉x.Hw:=by
  intro t ht;simp only[zj,ht,aay] at hf;have h1:=hf.2
  simpa using h1
 have hcl:=I7 hc;have nw:∀ {a b:dR} {id:Nat},(a.writes id=true->b.kL id=false)->b.kL id=true->a.writes id=false:=by
  intro a b id h1 h2;cases h:a.writes id with
  |false=>rfl
  |true=>rw[h1 h] at h2;cases h2
 have wt:∀ {a:dR} {id:Nat},a.writes id=true->a.kL id=true:=by intro a id h;simp[dR.kL,h]
 obtain⟨blky,hy2,yb⟩:=apS env blk (fun t ht=>(JR fun e=>(hf1 t e).1 ht).symm) (fun id hid=>(fr1 id (nw (hcl id).1 hid)).symm);obtain⟨blkx,hx2,xb⟩:=apT (put env y.dst v2) blky (fun t ht=>JR fun e=>hf2 t e ht) (fun id hid=>by rw[yb id,nw (hcl id).2 hid];rfl)
 refine⟨_,blky,hy2,?_⟩;rw[hx2,OR env v1 v2 fun t ht=>(hf1 t ht).2];have:blkx=aal:=by
  funext id;rw[xb id,yb id];cases h1:e1.writes id with
  |true=>have h2:e2.writes id=false:=nw (hcl id).2 (wt h1);exact(fr2 id h2).symm
  |false=>
   cases h2:e2.writes id with
   |true=>rfl
   |false=>simp only[aaE,if_false];rw[fr2 id h2,fr1 id h1]
 rw[this]
structure It where
 i:Nat
 io:aj
 e:dR
def Ew(x y:It):Prop:=zj x.io y.io=true/\Aa x.e y.e=false
theorem xQ{o:aj}{r:List aj}{aah:Env}{blk:aw}{e:dR}{es:List dR}(h:steps sh cp cs (o::r) env blk=some (aah,aaf,e::es)):
  ∃aaG aao,step1 sh cp cs o env blk=some (aaG,aao,e)/\steps sh cp cs r aaG aao=some (aah,aaf,es):=by
 simp only[steps] at h;split at h
 .rename_i aaG aao e1 h1;split at h
  .rename_i aar aal es2 h2;cases h;exact⟨aaG,aao,h1,h2⟩
  cases h
 cases h
theorem N7{o:aj}{r:List aj}{aaG aah:Env}{blk aao:aw}{e:dR}{es:List dR}(h1:step1 sh cp cs o env blk=some (aaG,aao,e))(h2:steps sh cp cs r aaG aao=some (aah,aaf,es)):
  steps sh cp cs (o::r) env blk=some (aah,aaf,e::es):=by
 simp only[steps,h1,h2]
theorem NU(hcs:mZ cs){y:It}{l2:List It}:∀ {l1:List It} {env aah:Env} {blk aaf:aw},steps sh cp cs ((l1++y::l2).map (·.io)) env blk=some (aah,aaf,(l1++y::l2).map (·.e))->(∀x∈l1,Ew x y)->
  ∃aaG aao,step1 sh cp cs y.io env blk=some (aaG,aao,y.e)/\steps sh cp cs ((l1++l2).map (·.io)) aaG aao=some (aah,aaf,(l1++l2).map (·.e)):=by
 intro l1
 induction l1 with
 |nil=>intro env aah blk aaf h _;exact xQ h
 |cons x l1 ih=>intro env aah blk aaf h hap;obtain⟨envx,blkx,h1,h2⟩:=xQ h;obtain⟨envy,blky,h3,h4⟩:=ih h2 fun z hz=>hap z (by simp[hz]);obtain⟨en1,bl1,h5,h6⟩:=swap hcs h1 h3 (hap x (by simp)).1 (hap x (by simp)).2;exact⟨en1,bl1,h5,N7 h6 h4⟩
def mK(al:Al)(b b2:aw):Prop:=∀id,al.ok id=true->b2 id=b id
def mJ(al:Al)(b' b2 b2':aw):Prop:=∀id,b2' id=if al.ok id then b' id else b2 id
def Frame(al:Al)(b b':aw):Prop:=∀id,al.ok id=false->b' id=b id
theorem mJ.agree{al:Al}{b2 b2':aw}(h:mJ al b' b2 b2'):mK al b' b2':=fun id hid=>by rw[h id,hid];rfl
theorem mJ.trans{al:Al}{b2 b2' b'' aot:aw}(h:mJ al b' b2 b2')(k:mJ al b'' b2' aot):mJ al b'' b2 aot:=fun id=>by rw[k id,h id];cases al.ok id<;>rfl
theorem mJ.refl{al:Al}{b b2:aw}(h:mK al b b2):mJ al b b2 b2:=fun id=>by
 cases hid:al.ok id with
 |true=>exact h id hid
 |false=>rfl
theorem Frame.trans{al:Al}{b b'':aw}(h:Frame al b b')(k:Frame al b' b''):Frame al b b'':=fun id hid=>(k id hid).trans (h id hid)
section
variable {sh:Ctx} {cp:cN} {cs:ez} (hcs:mZ cs)
include hcs
theorem N9:∀ {ops:List aj} {env aah:Env} {blk aaf:aw} {es:List dR},steps sh cp cs ops env blk=some (aah,aaf,es)->Frame sh.al blk aaf/\
  ∀aal,mK sh.al blk aal->∃aaQ,steps sh cp cs ops env aal=some (aah,aaQ,es)/\mJ sh.al aaf aal aaQ:=by
 intro ops
 induction ops with
 |nil=>intro env aah blk aaf es h;simp only[steps,aaV,abe] at h;obtain⟨rfl,rfl,rfl⟩:=h;exact⟨fun _ _=>rfl,fun aal ha=>⟨aal,rfl,.refl ha⟩⟩
 |cons o ops ih=>
  intro env aah blk aaf es h;simp only[steps] at h;split at h
  .rename_i aaG aao e h1;split at h
   .rename_i aar aal es' h2;cases h;obtain⟨v,rfl,fr,tw,loc⟩:=qt hcs h1;obtain⟨f2,g2⟩:=ih h2;have hw:∀id,sh.al.ok id=false->e.writes id=false:=by
     intro id hid;cases hh:e.writes id with
     |false=>rfl
     |true=>have:=tw id (by simp[dR.kL,hh]);rw[hid] at this;cases this
    refine⟨Frame.trans (fun id hid=>fr id (hw id hid)) f2,fun b2 ha=>?_⟩;obtain⟨b1,s1,m1⟩:=loc env b2 (fun _ _=>rfl) (fun id hid=>ha id (tw id hid));have hm1:mJ sh.al aao b2 b1:=by
     intro id;rw[m1 id];cases hid:sh.al.ok id with
     |true=>
      cases hh:e.writes id with
      |true=>rfl
      |false=>simp only[aaE,if_false,if_true];rw[ha id hid,fr id hh]
     |false=>rw[hw id hid]
    obtain⟨b3,s2,m2⟩:=g2 b1 hm1.agree;exact⟨b3,by simp only[steps,s1,s2],hm1.trans m2⟩
   cases h
  cases h
theorem T5{c:Env->aw->Option (fK×Env×aw)}(hc:∀ {env aah blk aaf e},c env blk=some (e,aah,aaf)->Frame sh.al blk aaf/\ ∀aal,mK sh.al blk aal->∃aaQ,c env aal=some (e,aah,aaQ)/\mJ sh.al aaf aal aaQ):
  ∀(k:Nat) {env aah:Env} {blk aaf:aw} {e:fK},iter c k env blk=some (e,aah,aaf)->Frame sh.al blk aaf/\ ∀aal,mK sh.al blk aal->∃aaQ,iter c k env aal=some (e,aah,aaQ)/\mJ sh.al aaf aal aaQ:=by
 have _u0:=hcs;intro k
 induction k with
 |zero=>intro env aah blk aaf e h;simp[iter] at h
 |succ k ih=>
  intro env aah blk aaf e h;simp only[iter] at h;split at h
  .rename_i aaG aao h1;obtain⟨f1,g1⟩:=hc h1;obtain⟨f2,g2⟩:=ih h;refine⟨f1.trans f2,fun b2 ha=>?_⟩;obtain⟨b1,s1,m1⟩:=g1 b2 ha;obtain⟨b3,s2,m2⟩:=g2 b1 m1.agree;exact⟨b3,by simp only[iter,s1,s2],m1.trans m2⟩
  rename_i hne;obtain⟨f1,g1⟩:=hc h;refine⟨f1,fun b2 ha=>?_⟩;obtain⟨b1,s1,m1⟩:=g1 b2 ha;refine⟨b1,?_,m1⟩;cases e with
  |normal=>exact(hne _ _ h).elim
  |exit i=>simp only[iter,s1]
  |ret=>simp only[iter,s1]
theorem KJ{n:Nat}:∀(c:am) {env aah:Env} {blk aaf:aw} {e:fK},exec sh cp cs n c env blk=some (e,aah,aaf)->Frame sh.al blk aaf/\
  ∀aal,mK sh.al blk aal->∃aaQ,exec sh cp cs n c env aal=some (e,aah,aaQ)/\mJ sh.al aaf aal aaQ:=by
 intro c
 induction c with
 |skip=>intro env aah blk aaf e h;simp only[exec,aaV,abe] at h;obtain⟨rfl,rfl,rfl⟩:=h;exact⟨fun _ _=>rfl,fun b2 ha=>⟨b2,rfl,.refl ha⟩⟩
 |exit id=>intro env aah blk aaf e h;simp only[exec,aaV,abe] at h;obtain⟨rfl,rfl,rfl⟩:=h;exact⟨fun _ _=>rfl,fun b2 ha=>⟨b2,rfl,.refl ha⟩⟩
 |ret=>intro env aah blk aaf e h;simp only[exec,aaV,abe] at h;obtain⟨rfl,rfl,rfl⟩:=h;exact⟨fun _ _=>rfl,fun b2 ha=>⟨b2,rfl,.refl ha⟩⟩
 |bad=>intro env aah blk aaf e h;simp[exec] at h
 |region d ops=>
  intro env aah blk aaf e h;simp only[exec] at h;split at h
  .rename_i aaG aao es h1;obtain⟨f1,g1⟩:=N9 hcs h1;have he:(e,aah,aaf)=(fK.normal,aaG,aao)/\(d=true->ig ops [] es=true):=by
    cases d with
    |false=>simp at h;exact⟨by simp[h],fun h=>by cases h⟩
    |true=>
     simp only[if_true] at h;split at h
     .rename_i hd;cases h;exact⟨rfl,fun _=>hd⟩
     cases h
   obtain⟨he,hd⟩:=he;cases he;refine⟨f1,fun b2 ha=>?_⟩;obtain⟨b1,s1,m1⟩:=g1 b2 ha;refine⟨b1,?_,m1⟩;simp only[exec,s1];cases d with
   |false=>simp
   |true=>simp[hd rfl]
  cases h
 |seq a b iha ihb=>
  intro env aah blk aaf e h;simp only[exec] at h;split at h
  .rename_i aaG aao h1;obtain⟨f1,g1⟩:=iha h1;obtain⟨f2,g2⟩:=ihb h;refine⟨f1.trans f2,fun b2 ha=>?_⟩;obtain⟨b1,s1,m1⟩:=g1 b2 ha;obtain⟨b3,s2,m2⟩:=g2 b1 m1.agree;exact⟨b3,by simp only[exec,s1,s2],m1.trans m2⟩
  rename_i hne;obtain⟨f1,g1⟩:=iha h;refine⟨f1,fun b2 ha=>?_⟩;obtain⟨b1,s1,m1⟩:=g1 b2 ha;refine⟨b1,?_,m1⟩;cases e with
  |normal=>exact(hne _ _ h).elim
  |exit i=>simp only[exec,s1]
  |ret=>simp only[exec,s1]
 |cond x a b iha ihb=>
  intro env aah blk aaf e h;simp only[exec] at h ⊢;split at h
  .rename_i t ht;cases t with
   |true=>exact iha h
   |false=>exact ihb h
  cases h
 |block id c ih=>
  intro env aah blk aaf e h;simp only[exec] at h;split at h
  .rename_i i aaG aao h1;obtain⟨f1,g1⟩:=ih h1;have hb:aaf=aao:=by split at h<;>cases h<;>rfl
   subst hb;refine⟨f1,fun b2 ha=>?_⟩;obtain⟨b1,s1,m1⟩:=g1 b2 ha;refine⟨b1,?_,m1⟩;simp only[exec,s1];split at h
   .rename_i hi;cases h;rw[if_pos hi]
   rename_i hi;cases h;rw[if_neg hi]
  rename_i hne;obtain⟨f1,g1⟩:=ih h;refine⟨f1,fun b2 ha=>?_⟩;obtain⟨b1,s1,m1⟩:=g1 b2 ha;refine⟨b1,?_,m1⟩;cases e with
  |normal=>simp only[exec,s1]
  |exit i=>exact(hne _ _ _ h).elim
  |ret=>simp only[exec,s1]
 |loop c ih=>intro env aah blk aaf e h;simp only[exec] at h ⊢;exact T5 hcs (fun h=>ih h) n h
end
theorem wg{al:Al}{blk aal:aw}(ha:mK al blk aal):∀ {rs:List (Nat×Option (Option Nat))} {vs:List V},cT al env blk rs=some vs->cT al env aal rs=some vs:=by
 intro rs
 induction rs with
 |nil=>intro vs h;exact h
 |cons r rs ih=>
  obtain⟨t,k⟩:=r;cases k with
  |none=>
   intro vs h;simp only[cT] at h ⊢;split at h
   .rename_i v q h1 h2;cases h;simp only[h1,ih h2]
   cases h
  |some k=>
   intro vs h;simp only[cT] at h ⊢;split at h
   .rename_i cs rd q h1 h2;split at h
    .rename_i hok;rw[ym h1 (fun id hid=>ha id (ud hok hid)),ih h2];simp only[hok,if_true];exact h
    cases h
   cases h
theorem Td(hcs:mZ cs){n:Nat}{fn:cX}{args:List V}{blk:aw}{v:V}(h:n9 sh cp cs n fn args blk=some (v,aaf)):Frame sh.al blk aaf/\
  ∀aal,mK sh.al blk aal->∃aaQ,n9 sh cp cs n fn args aal=some (v,aaQ)/\mJ sh.al aaf aal aaQ:=by
 unfold n9 at h;split at h
 .rename_i env b hx;simp only[aaD] at h;obtain⟨vs,h1,h2⟩:=h;cases h2;obtain⟨f1,g1⟩:=KJ hcs _ hx;refine⟨f1,fun b2 ha=>?_⟩;obtain⟨b3,s1,m1⟩:=g1 b2 ha;exact⟨b3,by unfold n9;rw[s1];simp only[wg m1.agree h1,abx],m1⟩
 .rename_i env b hx;simp only[aaD] at h;obtain⟨vs,h1,h2⟩:=h;cases h2;obtain⟨f1,g1⟩:=KJ hcs _ hx;refine⟨f1,fun b2 ha=>?_⟩;obtain⟨b3,s1,m1⟩:=g1 b2 ha;exact⟨b3,by unfold n9;rw[s1];simp only[wg m1.agree h1,abx],m1⟩
 cases h
end
end Go.Abs
namespace Go.Abs
variable {P:Program} {w0:World}
def kn(w:World)(O:Nat->Prop):V->Value->Prop
 | .one (.p x),v=>aZ w O x v
 | .agg cs,v=>∃arr ps,v=.agg arr/\cs=ps.map .p/\aR w O ps arr.toList
 |_,_=>False
def Enters(P:Program)(f:Nat):Prop:= ∃fn c,P.funcs[f]?=some fn/\fn.body=some c/\(fn.name== "runtime.NumGoroutine")=false
def Vg(w:World)(Q:Nat->Prop)(r:RV)(val:Value)(bs:List Nat):Prop:= ∃vs,Av r val vs/\gk w Q (dp r) vs bs
def uQ(w:World)(O:Nat->Prop)(r:RV):Ending->World->Prop:=fun e w'=>∃val bs,e=.returned val/\eU w w'/\bs.Nodup/\(∀c∈bs,w.heap.size<=c/\c<w'.heap.size)/\Vg w' (fun c=>O c\/c∈bs) r val bs
def Good(G:World->Prop)(w:World):Prop:=G w/\ ∀w w',eU w w'->G w->G w'
theorem Ok.Zv{m:Mem}(h:Ok w0 m):eU w0 m.w:=⟨h.os,h.tape,h.output,h.size,h.base⟩
theorem gk.pure{w:World}{Q Q':Nat->Prop}(h:∀b,Q' b->Q b):∀ {rs:List RC} {vs:List Value} {bs:List Nat},(∀c∈bs,¬Q' c)->gk w Q rs vs bs->gk w Q' (rs.map RC.pure) vs []:=by
 intro rs
 induction rs with
 |nil=>intro vs bs _ hr;exact⟨hr.1,rfl⟩
 |cons r rs ih=>
  intro vs bs hb hr;have less:∀ {x:PV} {v:Value},aZ w Q x v->aZ w Q' x v:=fun hp=>hp.mono fun c _ hn=>⟨rfl,fun hq=>hn (h c hq)⟩;cases r with
  |p x=>obtain⟨v,vs',rfl,h1,h2⟩:=hr;exact⟨v,vs',rfl,less h1,ih hb h2⟩
  |own ty sz es=>
   obtain⟨v,vs',c,bs',rfl,rfl,⟨cap,cur,e1,e2,e3,e4,e5,e6,e7,e8⟩,h2⟩:=hr;refine⟨v,vs',rfl,?_,ih (fun c hc=>hb c (by simp[hc])) h2⟩;subst e1;refine aZ.sl c 0 cap sz (fun j=>cur.toList.getD j undef) (fun _=>hb c (by simp)) e5 e6 e4 (fun j x hx=>?_) (fun j x hx=>?_)
   .have hj:j<(cur.toList.take (es.length*sz)).length:=by rw[e8.1];exact(aai.1 hx).1
    have hj2:j<cur.size:=by simp at hj;omega
    rw[World.cell?];simp[e2,hj2,List.getD,abd]
   have hj:j<(cur.toList.take (es.length*sz)).length:=by rw[e8.1];exact(aai.1 hx).1
   have hj2:j<cur.size:=by simp at hj;omega
   refine less (e8.2 j x _ hx ?_);rw[List.getElem?_take_of_lt (by simp at hj;omega)];simp[hj2,List.getD]
theorem kK.pure{r:RV}{v:Value}{vs:List Value}(h:kK r v vs):kK r.yq v vs/\bQ r.yq=(bQ r).map RC.pure:=by
 cases r with
 |one c=>exact⟨h,rfl⟩
 |agg cs=>exact⟨⟨h.1,by simpa [RV.yq] using h.2⟩,rfl⟩
 |tup _=>exact h.elim
theorem ro.pure:∀ {rs:List RV} {us vs:List Value},ro rs us vs->ro (rs.map RV.yq) us vs/\dJ (rs.map RV.yq)=(dJ rs).map RC.pure:=by
 intro rs
 induction rs with
 |nil=>intro us vs h;exact⟨h,rfl⟩
 |cons r rs ih=>
  rintro us vs ⟨u,us',a,b,rfl,rfl,h1,h2⟩
  obtain⟨p1,p2⟩:=h1.pure;obtain⟨q1,q2⟩:=ih h2;exact⟨⟨u,us',a,b,rfl,rfl,p1,q1⟩,by simp[dJ,p2,q2]⟩
theorem Av.pure{r:RV}{v:Value}{vs:List Value}(h:Av r v vs):Av r.pure v vs/\dp r.pure=(dp r).map RC.pure:=by
 cases r with
 |one c=>exact kK.pure (r:=.one c) h
 |agg cs=>exact kK.pure (r:=.agg cs) h
 |tup rs=>obtain⟨arr,rfl,h2⟩:=h;obtain⟨q1,q2⟩:=h2.pure;exact⟨⟨arr,rfl,q1⟩,q2⟩
theorem uQ.bn{w w':World}{O:Nat->Prop}{r:RV}{e:Ending}(b:Bool)(hO:∀c,O c->c<w.heap.size)(h:uQ w O r e w'):uQ w O (r.bn b) e w':=by
 cases b with
 |false=>exact h
 |true=>
  obtain⟨val,bs,rfl,hg,hnd,hbs,vs,h1,h2⟩:=h;obtain⟨p1,p2⟩:=h1.pure;refine⟨val,[],rfl,hg,ach,fun c hc=>by simp at hc,vs,p1,?_⟩;simp only[RV.bn];rw[p2];refine gk.pure (fun b hb=>?_) (fun c hc hn=>?_) h2
  .rcases hb with hb|hb
   .exact .inl hb
   simp at hb
  rcases hn with hn|hn
  .have:=hO c hn;have:=(hbs c hc).1;omega
  simp at hn
def rm(P:Program)(G:World->Prop)(cp:cN):Prop:=∀f vs r,cp f vs=some r->Enters P f/\ ∀(w:World) (O:Nat->Prop) (args:Array Value),Good G w->(∀c,O c->c<w.heap.size)->Pw (kn w O) vs args.toList->Calls P f args w (uQ w O r)
def RZ(w0:World)(m:Mem)(v:V)(aaf:aw):Ending->World->Prop:=fun e w'=>∃val m',e=.returned val/\m'.w=w'/\Ok w0 m'/\Ev m m'/\m'.fr=m.fr/\m'.blk=aaf/\aX m' v val
def tH(P:Program)(G:World->Prop)(cs:ez):Prop:=∀f vs al blk v aaf,cs f vs al blk=some (v,aaf)->Enters P f/\ ∀(w0:World) (m:Mem) (args:Array Value),Good G w0->Ok w0 m->m.blk=blk->Pw (aX m) vs args.toList->Calls P f args m.w (RZ w0 m v aaf)
theorem LE{m:Mem}(hok:Ok w0 m){O:Nat->Prop}{x y:V}{r:List Nat}{v:Value}(h:gD m.blk x=some (y,r))(hr:aX m x v)(hs:fF m O r):kn m.w O y v:=by
 cases x with
 |undef=>simp[gD] at h
 |tup vs=>simp[gD] at h
 |one c=>simp only[gD,aaD] at h;obtain⟨⟨p,r'⟩,h1,h2⟩:=h;cases h2;exact ng hok cG h1 hr hs
 |agg cs=>simp only[gD,aaD] at h;obtain⟨⟨ps,r'⟩,h1,h2⟩:=h;cases h2;obtain⟨arr,rfl,hc⟩:=aX.agg.1 hr;refine⟨arr,ps,rfl,rfl,?_⟩;exact iX (R:=bJ m) (T:=aZ m.w O) (dX:=fF m O) (fun _ _=>fF.app) (fun _ _ _ _ h1 h2 h3=>ng hok cG h1 h2 h3) h1 hs hc
theorem xS{m:Mem}(hok:Ok w0 m){O:Nat->Prop}{xs ys:List V}{r:List Nat}{vs:List Value}(h:mQ m.blk xs=some (ys,r))(hr:Pw (aX m) xs vs)(hs:fF m O r):Pw (kn m.w O) ys vs:=iX (R:=aX m) (T:=kn m.w O) (dX:=fF m O) (fun _ _=>fF.app) (fun _ _ _ _ h1 h2 h3=>LE hok h1 h2 h3) h hs hr
theorem O8{m:Mem}(hok:Ok w0 m){c:Nat}(h:m.own c):c<m.w.heap.size:=by
 rcases h with h|⟨id,o,ho,_,rfl⟩
 .exact hok.frlt c h
 exact(hok.obj id o ho).lt
theorem yf{w:World}{Q Q':Nat->Prop}{x:PV}{v:Value}(hs:x.scalar=true)(h:aZ w Q x v):aZ w Q' x v:=by
 cases h<;>first
  |(simp[PV.scalar] at hs;done)
  |constructor
theorem Ns{w:World}{Q Q':Nat->Prop}:∀ {rs:List RC} {vs:List Value} {bs:List Nat},rs.all RC.alone=true->gk w Q rs vs bs->gk w Q' rs vs bs:=by
 intro rs
 induction rs with
 |nil=>intro vs bs _ h;exact h
 |cons r rs ih=>
  intro vs bs ha h;simp only[abu,aay] at ha;cases r with
  |p x=>obtain⟨v,vs',rfl,h1,h2⟩:=h;exact⟨v,vs',rfl,yf ha.1 h1,ih ha.2 h2⟩
  |own ty sz es=>obtain⟨v,vs',c,bs',rfl,rfl,⟨cap,cur,e1,e2,e3,e4,e5,e6,e7,e8⟩,h2⟩:=h;refine⟨v,vs',c,bs',rfl,rfl,⟨cap,cur,e1,e2,e3,e4,e5,e6,e7,e8.1,fun j x u a b=>?_⟩,ih ha.2 h2⟩;refine yf ?_ (e8.2 j x u a b);have hx:=aae a;obtain⟨e,he,hxe⟩:=adf.1 hx;have h1:=ha.1;simp only[RC.alone] at h1;exact aba.1 (aba.1 h1 e he) x hxe
theorem B0{m:Mem}{w':World}{x:RV}{val:Value}{bs:List Nat}{site:Nat}(hok:Ok w0 m)(hg:eU m.w w')(hnd:bs.Nodup)(hbs:∀c∈bs,m.w.heap.size<=c/\c<w'.heap.size)(hr:Vg w' (fun c=>m.own c\/c∈bs) x val bs):
  ∃m',m'.w=w'/\Ok w0 m'/\Ev m m'/\m'.fr=m.fr/\m'.blk=app (rV m.blk site x).2 m.blk/\aX m' (rV m.blk site x).1 val:=by
 obtain⟨vs,h1,h2⟩:=hr;have abD:Ok w0 (m.later w' (· ∈bs)):=uj hok hg hbs;have acD:Ev m (m.later w' (· ∈bs)):=qK hg fun c hc=>(hbs c hc).1;obtain⟨m',e1,e2,e3,_,e5,e6,e7⟩:=T7 (m00:=m) (site:=site) abD (h2.less fun b hb=>BX.1 hb) hnd (fun c hc=>⟨.inr hc,abm hok.size (hbs c hc).1⟩) acD (fun c hc=>.inl (hbs c hc).1);refine⟨m',e1,e2,e3,?_,e6,LW h1 e7⟩;funext c;apply propext;rw[e5 c];constructor
 .rintro ⟨h|h,h2⟩
  .exact h
  exact(h2 h).elim
 intro h;refine⟨.inl h,fun hc=>?_⟩;have h1:=hok.frlt c h;have h2:=(hbs c hc).1;omega
theorem ME{b b':aw}(h:∀s,(b s).1=(b' s).1)(site:Nat)(x:RV):rV b site x=rV b' site x:=by unfold rV;rw[yX _ site b b' fun s _=>h s]
theorem Mi{G:World->Prop}{cp:cN}(hcp:rm P G cp)(hG:Good G w0){m:Mem}(hok:Ok w0 m){f:Nat}{xs vs:List V}{rd:List Nat}{x:RV}{site:Nat}{v:V}{u:List jS}{args:Array Value}(hc:cp f vs=some x)(hs:mQ m.blk xs=some (vs,rd))(ace:Pw (aX m) xs args.toList)
  {pb:Bool} (hl:land m.blk rd site (x.bn pb)=some (v,u)):Calls P f args m.w (RZ w0 m v (app u m.blk)):=by
 have aca:∀(w:World) (O:Nat->Prop) (args:Array Value),Good G w->(∀c,O c->c<w.heap.size)->Pw (kn w O) vs args.toList->Calls P f args w (uQ w O (x.bn pb)):=fun w O args h1 h2 h3=>((hcp f vs x hc).2 w O args h1 h2 h3).mono fun e w' h=>h.bn pb h2
 generalize x.bn pb=x at hl aca;unfold land at hl;split at hl
 .rename_i abH;cases hl;have key:∀(O:Nat->Prop),(∀c,O c->c<m.w.heap.size)->fF m O rd->(∀w' bs val,Vg w' (fun c=>O c\/c∈bs) x val bs->Vg w' (fun c=>m.own c\/c∈bs) x val bs)->Calls P f args m.w (RZ w0 m (rV m.blk site x).1 (app (rV m.blk site x).2 m.blk)):=by
   intro O hO hsp hup;refine(aca m.w O args ⟨hG.2 _ _ hok.Zv hG.1,hG.2⟩ hO (xS hok hs ace hsp)).mono ?_;rintro e w' ⟨val,bs,rfl,hg,hnd,hbs,hr⟩
   obtain⟨m',e1,e2,e3,e4,e5,e6⟩:=B0 (site:=site) hok hg hnd hbs (hup w' bs val hr);exact⟨val,m',rfl,e1,e2,e3,e4,e5,e6⟩
  rcases abH with rfl|hal
  .exact key m.own (fun c hc=>O8 hok hc) ⟨fun _ h=>h,fun _ h=>by simp at h⟩ fun _ _ _ h=>h
  refine key (fun _=>False) (fun c h=>h.elim) ⟨fun _ h=>h.elim,fun _ _ h=>h⟩ fun w' bs val h=>?_;obtain⟨vs',h1,h2⟩:=h;exact⟨vs',h1,Ns hal h2⟩
 split at hl
 .rename_i fu hfu;cases hl;have abD:=Qx hok hfu;have acD:=IH hfu;have hsp:=tm hok hfu;refine(aca m.w (m.with fu).own args ⟨hG.2 _ _ hok.Zv hG.1,hG.2⟩ (fun c hc=>O8 abD hc) (xS hok hs ace hsp)).mono ?_;rintro e w' ⟨val,bs,rfl,hg,hnd,hbs,hr⟩
  obtain⟨m',e1,e2,e3,e4,e5,e6⟩:=B0 (m:=m.with fu) (site:=site) abD hg hnd hbs hr;have ag6:rV (m.with fu).blk site x=rV m.blk site x:=ME (fun s=>ux hfu s) site x;rw[ag6] at e5 e6;refine⟨val,m',rfl,e1,e2,acD.trans e3,e4,?_,e6⟩;rw[e5,pN];rfl
 cases hl
end Go.Abs
namespace Go.Abs
variable {P:Program} {w0:World}
section
variable{env:Env}
theorem xe{m m':Mem}(hev:Ev m m'){a:Act}{dst:Option Nat}{v:V}{x:Value}(hr:gL m env a.tmps)(hv:aX m' v x)(hd:∀d,dst=some d->d<a.tmps.size):gL m' (put env dst v) (a.put dst x).tmps:=by
 cases dst with
 |none=>exact hr.ev hev
 |some d=>
  intro t;have hlt:=hd d rfl;simp only[put,Act.put,aa];by_cases ht:t=d
  .subst ht;rw[if_pos rfl];have:(a.tmps.setIfInBounds t x).getD t undef=x:=by simp[hlt]
   rw[this];exact hv
  rw[if_neg ht];have:(a.tmps.setIfInBounds d x).getD t undef=a.tmps.getD t undef:=by simp only[Array.getD_eq_getD_getElem?];rw[Array.getElem?_setIfInBounds_ne (fun e=>ht e.symm)]
  rw[this];exact(hr t).ev hev.zero
theorem tY(a:Act)(dst:Option Nat)(x:Value):(a.put dst x).tmps.size=a.tmps.size:=by cases dst<;>simp[Act.put]
theorem put_defers(a:Act)(dst:Option Nat)(x:Value):(a.put dst x).defers=a.defers:=by cases dst<;>simp[Act.put]
theorem xF{m:Mem}{env:Env}{tmps:Array Value}(hr:gL m env tmps){ops:Array Oper}{o:Oper}{g:Option (Nat×Bool)}{b:Bool}
  (hg:match o.guard with|none=>g=none|some (j,w)=>∃t,(ops[j]?).bind (·.dst)=some t/\g=some (t,w)) (h:wanted env g=some b):Region.wanted o (yielded ops tmps)=b:=by
 unfold Region.wanted;cases ho:o.guard with
 |none=>rw[ho] at hg;subst hg;simp only[wanted,aaV] at h;exact h
 |some q=>
  obtain⟨j,w⟩:=q;rw[ho] at hg;obtain⟨t,h1,rfl⟩:=hg;have hrt:=hr t;simp only[wanted] at h;simp only[yielded,h1,Option.bind_some];split at h
  .rename_i b' hb;rw[hb] at hrt;have hv:=j6 hrt;cases h;have:tmps[t]?=some (.bool b'):=by
    rw[Array.getD_eq_getD_getElem?] at hv;cases he:tmps[t]? with
    |none=>rw[he] at hv;simp[undef] at hv
    |some y=>rw[he] at hv;simp at hv;rw[hv]
   rw[this];rfl
  .rename_i hb;rw[hb] at hrt;cases h;have hv:tmps.getD t undef=undef:=hrt;rw[Array.getD_eq_getD_getElem?] at hv;cases he:tmps[t]? with
   |none=>rfl
   |some y=>rw[he] at hv;simp at hv;rw[hv];rfl
  cases h
theorem Gg{m:Mem}{f:aC}{v:Value}{g:Nat}{a b:List C}(h:Gh env f=some (g,a,b))(hr:aX m (ev env f) v):∃A B:Array Value,v=.func (.func g) A B/\aT m a A.toList/\aT m b B.toList:=by
 unfold Gh at h;split at h
 .rename_i g' x y he;cases h;rw[he] at hr;obtain⟨hp⟩:bJ m _ v:=hr;cases hp with
  |fn A B ha hb hra hrb=>exact⟨A,B,rfl,aR.SI ⟨by simpa using ha,fun j x u p q=>hra j x u p (by simpa using q)⟩,aR.SI ⟨by simpa using hb,fun j x u p q=>hrb j x u p (by simpa using q)⟩⟩
 .rename_i g' x y he;cases h;rw[he] at hr;have hc:bJ m _ v:=hr;cases hc with
  |hfn A B ha hb hra hrb=>exact⟨A,B,rfl,⟨by simpa using ha,fun j x u p q=>hra j x u p (by simpa using q)⟩,⟨by simpa using hb,fun j x u p q=>hrb j x u p (by simpa using q)⟩⟩
 cases h
theorem Ha{m:Mem}{a:Act}(hr:gL m env a.tmps):∀ {xs:List Operand} {ys:List aC},iY xs=some ys->Pw (aX m) (ys.map (ev env)) (xs.map a.eval):=by
 intro xs
 induction xs with
 |nil=>intro ys h;simp[iY] at h;subst h;exact⟨rfl,fun j x u p=>by simp at p⟩
 |cons x xs ih=>
  intro ys h;simp only[iY] at h;split at h
  .rename_i y ys' h1 h2;cases h;obtain⟨i1,i2⟩:=ih h2;refine⟨by simpa using i1,fun j z u p q=>?_⟩;cases j with
   |zero=>simp at p q;subst p q;exact aE h1 hr
   |succ j=>exact i2 j z u (by simpa using p) (by simpa using q)
  cases h
theorem ub{m:Mem}{cs:List C}{vs:List Value}(h:aT m cs vs):Pw (aX m) (cs.map .one) vs:=by refine⟨by simpa using h.1,fun j x u p q=>?_⟩;simp only[aa0,aaD] at p;obtain⟨c,hc,rfl⟩:=p;exact aX.one.2 (h.2 j c u hc q)
theorem Ek{f:Nat}(h:Enters P f)(args:Array Value)(w:World):(callFunc f args).run P w=.ok (.enter f args) w:=by
 obtain⟨fn,c,h1,h2,h3⟩:=h;have h4:¬fn.name= "runtime.NumGoroutine" :=by simpa using h3
 simp[callFunc,run_program,h1,h2,h4]
theorem GQ{o:Oper}{c:Call}{fo:Operand}{a:Act}{g:Nat}{A B:Array Value}{w:World}(ho:o.op=.call c)(hc:c.callee=.value fo)(hv:a.eval fo=.func (.func g) A B)(he:Enters P g):
  (execOp a.eval o).run P w=.ok (.enter g (A++c.args.map a.eval++B)) w:=by
 simp[execOp,ho,resolve,hc,hv,Deferred.ofValue,invoke,Ek he]
theorem wv{site:Nat}{o:Oper}{p:vQ}(h:tz P site o=some p)(hp:∀s f as,p≠ .call s f as){sh:Nat->Bool}{blk:aw}:(∀f vs r s,aM sh env blk p≠ .pc f vs r s)/\ ∀f vs,aM sh env blk p≠ .sc f vs:=by
 cases p<;>first
  |exact(hp _ _ _ rfl).elim
  |(simp only[aM]
    constructor<;>intros<;>intro h<;>(repeat' split at h)<;>first
     |cases h
     |(simp only[xD,gT,aF] at h;(repeat' split at h)<;>cases h))
theorem wO{site:Nat}{o:Oper}{s:Nat}{f:aC}{as:List aC}(h:tz P site o=some (.call s f as)):∃c fo,o.op=.call c/\c.callee=.value fo/\bh fo=some f/\iY c.args.toList=some as:=by
 unfold tz at h;split at h
 case h_26 c ho=>
  split at h
  .rename_i f' as' h1 h2;simp only[aaD] at h;obtain⟨y,h3,h4⟩:=h;cases h4;exact⟨c,f',ho,h1,h3,h2⟩
  all_goals((repeat' split at h)<;>first
   |cases h
   |(simp at h;done))
 all_goals((repeat' split at h)<;>first
  |cases h
  |(simp at h;done))
def Jn(w0:World)(m:Mem)(a:Act)(nt:Nat)(aah:Env)(aaf:aw)(K:Act->World->Prop):Prop:=∀(a':Act) (m':Mem),Ok w0 m'->Ev m m'->m'.fr=m.fr->m'.blk=aaf->gL m' aah a'.tmps->a'.tmps.size=nt->a'.defers=a.defers->K a' m'.w
theorem vU{o:Oper}{a:Act}{f:Nat}{args:Array Value}{w:World}{K:Act->World->Prop}{Q:Exit->Act->World->Prop}{R:Ending->World->Prop}(aa6:(execOp a.eval o).run P w=.ok (.enter f args) w)(hc:Calls P f args w R)
  (hR:∀e w',R e w'->∃v,e=.returned v/\K (a.put o.dst v) w'):o.wp P a w K Q:=by
 unfold Oper.wp;rw[aa6,Oper.upon_enter];refine hc.mono ?_;intro e w' he;obtain⟨v,rfl,hk⟩:=hR e w' he;exact hk
theorem ET{G:World->Prop}(hG:Good G w0){cp:cN}{cs:ez}(hP:rm P G cp)(hS:tH P G cs){sh:Ctx}{ops:Array Oper}{base nt anc:Nat}{o:Oper}{io:aj}{m:Mem}{env aah:Env}{aaf:aw}{eff:dR}{a:Act}{K:Act->World->Prop}{Q:Exit->Act->World->Prop}
  (ho:ke P (fun j=>(ops[j]?).bind (·.dst)) base nt anc o=some io) (hst:step1 sh cp cs io env m.blk=some (aah,aaf,eff)) (hok:Ok w0 m) (hr:gL m env a.tmps) (hnt:a.tmps.size=nt) (hK:Jn w0 m a nt aah aaf K):
  if Region.wanted o (yielded ops a.tmps) then o.wp P a m.w K Q else K (a.put o.dst undef) m.w:=by
 have hio:io.dst=o.dst/\io.op=Ef P base o/\(∀d,o.dst=some d->d<nt)/\(match o.guard with|none=>io.guard=none|some (j,w)=>∃t,(ops[j]?).bind (·.dst)=some t/\io.guard=some (t,w)):=by
  unfold ke at ho;split at ho
  .rename_i hd;simp only[aaD] at ho;obtain⟨g,hg,rfl⟩:=ho;refine⟨rfl,rfl,fun d he=>?_,?_⟩
   .rw[he] at hd
    simpa [Wa] using hd
   cases hgo:o.guard with
   |none=>rw[hgo] at hg;simp[IB] at hg;exact hg.symm
   |some q=>obtain⟨j,w⟩:=q;rw[hgo] at hg;simp only[IB,aaD] at hg;obtain⟨t,ht,rfl⟩:=hg;exact⟨t,ht,rfl⟩
  cases ho
 obtain⟨h1,h2,h3,h4⟩:=hio;have hd:∀d,o.dst=some d->d<a.tmps.size:=by rw[hnt];exact h3
 unfold step1 at hst;split at hst
 .cases hst
 .rename_i hw;cases hst;rw[xF hr h4 hw];simp only[aaE,if_false];rw[h1] at hK;exact hK _ m hok (Ev.refl m) rfl rfl (xe (Ev.refl m) hr (show aX m .undef undef from rfl) hd) (by rw[tY,hnt]) (put_defers _ _ _)
 rename_i hw;rw[xF hr h4 hw];simp only[if_true];rw[h2] at hst;unfold Ef at hst;cases abF:tz P base o with
 |none=>rw[abF] at hst;simp[aM] at hst
 |some p=>
  rw[abF] at hst;simp only[abv] at hst;split at hst
  .cases hst
  .rename_i v u r hp;split at hst
   case isFalse=>cases hst
   cases hst;obtain⟨x,m',anN,e2,e3,e4,e5,e6⟩:=WY hok hr abF hp;rw[h1] at hK;have hk:=fun x (hx:aX m' v x)=>hK (a.put o.dst x) m' e2 e3 e4 e5 (xe e3 hr hx hd) (by rw[tY,hnt]) (put_defers _ _ _);unfold Oper.wp;rcases anN with hd|⟨hd,rfl⟩
   .rw[hd,Oper.upon_value];exact hk x e6
   rw[hd,Oper.upon_skip];exact hk undef e6
  .rename_i f vs r s hp;by_cases aca:∃s f as,p=.call s f as
   .obtain⟨s',f',as,rfl⟩:=aca;obtain⟨c,fo,g1,g2,g3,g4⟩:=wO abF;simp only[aM] at hp;split at hp
    .rename_i g A B hfn;obtain⟨AV,BV,e1,e2,e3⟩:=Gg hfn (aE g3 hr);split at hp
     .cases hp
     split at hp
     .rename_i ws rd hsn;cases hp;split at hst
      .rename_i x hx;split at hst
       .rename_i v u hl;split at hst
        case isFalse=>cases hst
        cases hst;have ace:Pw (aX m) (A.map .one++as.map (ev env)++B.map .one) (AV++c.args.map a.eval++BV).toList:=by
         have:=((ub e2).append (Ha hr g4)).append (ub e3)
         simpa using this
        refine vU (GQ g1 g2 e1 (hP _ _ _ hx).1) (Mi hP hG hok hx hsn ace hl) ?_;rintro e w' ⟨val,m',rfl,rfl,q1,q2,q3,q4,q5⟩
        rw[h1] at hK;exact⟨val,rfl,hK _ m' q1 q2 q3 q4 (xe q2 hr q5 hd) (by rw[tY,hnt]) (put_defers _ _ _)⟩
       cases hst
      cases hst
     cases hp
    cases hp
   exact((wv abF (fun s f as e=>aca ⟨s,f,as,e⟩)).1 _ _ _ _ hp).elim
  rename_i f vs hp;by_cases aca:∃s f as,p=.call s f as
  .obtain⟨s',f',as,rfl⟩:=aca;obtain⟨c,fo,g1,g2,g3,g4⟩:=wO abF;simp only[aM] at hp;split at hp
   .rename_i g A B hfn;obtain⟨AV,BV,e1,e2,e3⟩:=Gg hfn (aE g3 hr);split at hp
    .cases hp;split at hst
     case isFalse=>cases hst
     split at hst
     .rename_i v ado hx;cases hst;have ace:Pw (aX m) (A.map .one++as.map (ev env)++B.map .one) (AV++c.args.map a.eval++BV).toList:=by
       have:=((ub e2).append (Ha hr g4)).append (ub e3)
       simpa using this
      refine vU (GQ g1 g2 e1 (hS _ _ _ _ _ _ hx).1) ((hS _ _ _ _ _ _ hx).2 w0 m _ hG hok rfl ace) ?_;rintro e w' ⟨val,m',rfl,rfl,q1,q2,q3,q4,q5⟩
      rw[h1] at hK;exact⟨val,rfl,hK _ m' q1 q2 q3 q4 (xe q2 hr q5 hd) (by rw[tY,hnt]) (put_defers _ _ _)⟩
     cases hst
    split at hp<;>cases hp
   cases hp
  exact((wv abF (fun s f as e=>aca ⟨s,f,as,e⟩)).2 _ _ hp).elim
end
end Go.Abs
namespace Go.Abs
variable {P:Program} {w0:World}
theorem pE{dst anc:Nat->Option Nat}{base nt i:Nat}{o:Oper}{r:List Oper}{l:List aj}(h:gZ P dst anc base nt i (o::r)=some l):
  ∃x xs,l=x::xs/\ke P dst ((base+i)*64) nt ((anc i).getD 0) o=some x/\gZ P dst anc base nt (i+1) r=some xs:=by
 simp only[gZ] at h;split at h
 .rename_i x xs h1 h2;cases h;exact⟨x,xs,rfl,h1,h2⟩
 cases h
section
variable {G:World->Prop} (hG:Good G w0) {cp:cN} {cs:ez} (hP:rm P G cp) (hS:tH P G cs) {sh:Ctx}
include hG hP hS
theorem Ty{ops:Array Oper}{anc:Nat->Option Nat}{base nt:Nat}{Q:Exit->Act->World->Prop}:∀(r:List Oper) {l:List aj} {i:Nat} {env aah:Env} {m:Mem} {aaf:aw} {es:List dR} {a:Act},(∀j,ops[i+j]?=r[j]?)->gZ P (fun j=>(ops[j]?).bind (·.dst)) anc base nt i r=some l->
  steps sh cp cs l env m.blk=some (aah,aaf,es)->Ok w0 m->gL m env a.tmps->a.tmps.size=nt->Jn w0 m a nt aah aaf (fun a' w'=>Q .normal a' w')->wpOps P ops Q (List.range' i r.length) a m.w:=by
 intro r
 induction r with
 |nil=>intro l i env aah m aaf es a _ hc hst hok hr hnt hK;simp[gZ] at hc;subst hc;simp only[steps,aaV,abe] at hst;obtain⟨rfl,rfl,_⟩:=hst;simp only[aaL,List.range'_zero,wpOps];exact hK a m hok (Ev.refl m) rfl rfl hr hnt rfl
 |cons o r ih=>
  intro l i env aah m aaf es a agI hc hst hok hr hnt hK;obtain⟨x,xs,rfl,h1,h2⟩:=pE hc;simp only[steps] at hst;split at hst
  .rename_i aaG aao e1 hs1;split at hst
   .rename_i aar aal es2 hs2;cases hst;have ho:ops[i]?=some o:=by have:=agI 0;simpa using this
    have key:=ET (Q:=Q) (K:=wpOps P ops Q (List.range' (i+1) r.length)) hG hP hS h1 hs1 hok hr hnt (fun a1 m1 k1 k2 k3 k4 k5 k6 k7=>by subst k4;refine ih (m:=m1) (fun j=>by have:=agI (j+1);rw[show i+1+j=i+(j+1) by omega];simpa using this) h2 hs2 k1 k5 k6 ?_;intro a2 m2 p1 p2 p3 p4 p5 p6 p7;exact hK a2 m2 p1 (k2.trans p2) (p3.trans k3) p4 p5 p6 (p7.trans k7))
    simp only[aaz,List.range'_succ,wpOps,ho];split at key
    .rename_i hw;rw[if_pos hw];exact .inl key
    rename_i hw;rw[if_neg hw];exact key
   cases hst
  cases hst
theorem HP{ops:Array Oper}{anc:Nat->Option Nat}{base nt id:Nat}{Q:Exit->Act->World->Prop}{l:List aj}{env aah:Env}{m:Mem}{aaf:aw}{es:List dR}{a:Act}(hc:gZ P (fun j=>(ops[j]?).bind (·.dst)) anc base nt 0 ops.toList=some l)
  (hst:steps sh cp cs l env m.blk=some (aah,aaf,es)) (hok:Ok w0 m) (hr:gL m env a.tmps) (hnt:a.tmps.size=nt) (hK:Jn w0 m a nt aah aaf (fun a' w'=>Q .normal a' w')):(Code.region id ops false).wp P Q a m.w:=by
 refine wp_region ?_;have:=Ty hG hP hS (sh:=sh) (ops:=ops) (Q:=Q) ops.toList (i:=0) (fun j=>by simp) hc hst hok hr hnt hK;rw[List.range_eq_range']
 simpa using this
end
end Go.Abs
namespace Go.Abs
variable {P:Program} {w0:World}
theorem L4{α β:Type}(g:Array β->α->β):∀(l:List α) (acc:Array β),(l.foldl (fun acc o=>acc.push (g acc o)) acc).size=acc.size+l.length/\
  (∀j,j<acc.size->(l.foldl (fun acc o=>acc.push (g acc o)) acc)[j]?=acc[j]?)/\
  ∀j o,l[j]?=some o->∃pre:Array β,pre.size=acc.size+j/\(∀k,k<pre.size->(l.foldl (fun acc o=>acc.push (g acc o)) acc)[k]?=pre[k]?)/\(l.foldl (fun acc o=>acc.push (g acc o)) acc)[acc.size+j]?=some (g pre o):=by
 intro l
 induction l with
 |nil=>intro acc;exact⟨rfl,fun _ _=>rfl,fun j o h=>by simp at h⟩
 |cons x l ih=>
  intro acc;obtain⟨h1,h2,h3⟩:=ih (acc.push (g acc x));simp only[acT];refine⟨by rw[h1];simp;omega,fun j hj=>?_,fun j o ho=>?_⟩
  .rw[h2 j (by simp;omega),Array.getElem?_push,if_neg (by omega)]
  cases j with
  |zero=>
   simp at ho;subst ho;refine⟨acc,by omega,fun k hk=>?_,?_⟩
   .rw[h2 k (by simp;omega),Array.getElem?_push,if_neg (by omega)]
   rw[aco,h2 acc.size (by simp),Array.getElem?_push,if_pos rfl]
  |succ j=>obtain⟨pre,p1,p2,p3⟩:=h3 j o (by simpa using ho);refine⟨pre,by rw[p1];simp;omega,p2,?_⟩;rw[<- p3];simp only[Array.size_push];congr 1;omega
theorem Tx{α:Type}(f:α->Bool)(g:α->Nat)(h:α->Nat):∀(l:List α) (s j:Nat),(l.foldl (fun s e=>if f e then s|||g e|||h e else s) s).testBit j=true->s.testBit j=true\/ ∃e∈l,f e=true/\((g e).testBit j=true\/(h e).testBit j=true):=by
 intro l
 induction l with
 |nil=>intro s j hh;exact .inl hh
 |cons x l ih=>
  intro s j hh;simp only[acT] at hh;rcases ih _ j hh with h1|⟨e,he,h2⟩
  .split at h1
   .rename_i hf;simp only[Nat.testBit_or,acF] at h1;rcases h1 with (h1|h1)|h1
    .exact .inl h1
    .exact .inr ⟨x,by simp,hf,.inl h1⟩
    exact .inr ⟨x,by simp,hf,.inr h1⟩
   exact .inl h1
  exact .inr ⟨e,by simp[he],h2⟩
theorem GW{ops:Array Oper}(hao:sA ops=true){i:Nat}{o:Oper}(ho:ops[i]?=some o){j:Nat}(hj:(((Region.before ops)[i]?).getD 0).testBit j=true):
  ∃e∈o.after,Region.binds .any e=true/\e.on<i/\(j=e.on\/(((Region.before ops)[e.on]?).getD 0).testBit j=true):=by
 unfold Region.before at hj ⊢;rw[<- Array.foldl_toList] at hj ⊢;obtain⟨h1,h2,h3⟩:=L4 (fun(acc:Array Nat) (o:Oper)=>o.after.foldl (fun s e=>if Region.binds .any e then s|||2 ^ e.on|||acc.getD e.on 0 else s) 0) ops.toList #[];obtain⟨pre,p1,p2,p3⟩:=h3 i o (by simpa using ho);simp only[Array.size_empty,abd] at p1 p3;rw[p3] at hj;simp only[abv] at hj;rw[<- Array.foldl_toList] at hj;rcases Tx (fun e=>Region.binds .any e) (fun e=>2 ^ e.on) (fun e=>pre.getD e.on 0) _ _ _ hj with h|⟨e,he,hb,afS⟩
 .simp at h
 have hlt:i<ops.size:=(Array.getElem?_eq_some_iff.1 ho).1;have hon:e.on<i:=by unfold sA at hao;have:=aba.1 hao i (by simpa using hlt);rw[ho] at this;simp only[Array.all_eq_true'] at this;have:=this e (by simpa using he);simp only[hb,acE,acG,decide_eq_true_eq] at this;exact this
 refine⟨e,by simpa using he,hb,hon,?_⟩;rcases afS with afS|afS
 .left;rw[Nat.testBit_two_pow] at afS;have h9:e.on=j:=by simpa using afS
  exact h9.symm
 right;rw[p2 e.on (by omega)]
 simpa [Array.getD_eq_getD_getElem?] using afS
theorem uG{dst:Nat->Option Nat}{base nt anc:Nat}{o:Oper}{io:aj}(h:ke P dst base nt anc o=some io):io.anc=anc:=by
 unfold ke at h;split at h
 .simp only[aaD] at h;obtain⟨g,_,rfl⟩:=h;rfl
 cases h
structure X6 (P:Program) (ops:Array Oper) (base nt:Nat) (rem:List It) (listed:Array Bool):Prop where
 pair:rem.Pairwise fun p q=>p.i<q.i/\(q.io.anc.testBit p.i=true\/Ew p q)
 comp:∀p∈rem,∃o,ops[p.i]?=some o/\ke P (fun j=>(ops[j]?).bind (·.dst)) ((base+p.i)*64) nt (((Region.before ops)[p.i]?).getD 0) o=some p.io
 size:listed.size=ops.size
 free:∀i:Nat,listed[i]?=some false↔ ∃p∈rem,p.i=i
 closed:∀i:Nat,listed[i]?=some true->∀j:Nat,(((Region.before ops)[i]?).getD 0).testBit j=true->listed[j]?=some true
theorem vc{ops:Array Oper}{listed:Array Bool}{i:Nat}:i∈Region.ready .any ops listed↔i<ops.size/\listed.getD i true=false/\ ∃o,ops[i]?=some o/\ ∀e∈o.after,Region.binds .any e=true->listed.getD e.on false=true:=by
 unfold Region.ready;simp only[ab4,aaX,aay,abB];constructor
 .rintro ⟨h1,h2,h3⟩
  refine⟨h1,h2,ops[i],by simp[h1],fun e he hb=>?_⟩;have ho:ops[i]?=some ops[i]:=by simp[h1]
  rw[ho] at h3;simp only[abx,abv,Array.all_eq_true'] at h3;have:=h3 e he;rw[hb] at this
  simpa using this
 rintro ⟨h1,h2,o,ho,h3⟩
 refine⟨h1,h2,?_⟩;rw[ho];simp only[abx,abv,Array.all_eq_true'];intro e he;cases hb:Region.binds .any e with
 |false=>rfl
 |true=>simp[h3 e he hb]
theorem y8{l:Array Bool}{i:Nat}(h:l.getD i true=false):l[i]?=some false:=by
 rw[Array.getD_eq_getD_getElem?] at h;cases he:l[i]? with
 |none=>rw[he] at h;simp at h
 |some b=>rw[he] at h;simp at h;rw[h]
theorem MO{l:Array Bool}{i:Nat}(h:l.getD i false=true):l[i]?=some true:=by
 rw[Array.getD_eq_getD_getElem?] at h;cases he:l[i]? with
 |none=>rw[he] at h;simp at h
 |some b=>rw[he] at h;simp at h;rw[h]
section
variable {G:World->Prop} (hG:Good G w0) {cp:cN} {cs:ez} (hP:rm P G cp) (hS:tH P G cs) (hL:mZ cs) {sh:Ctx}
include hG hP hS hL
theorem Vc{ops:Array Oper}(hao:sA ops=true){base nt:Nat}{Q:Exit->Act->World->Prop}{aah:Env}{aaf:aw}:∀(fuel:Nat) {rem:List It} {listed:Array Bool} {env:Env} {m:Mem} {a:Act},X6 P ops base nt rem listed->rem.length<=fuel->
  steps sh cp cs (rem.map (·.io)) env m.blk=some (aah,aaf,rem.map (·.e))->Ok w0 m->gL m env a.tmps->a.tmps.size=nt->Jn w0 m a nt aah aaf (fun a' w'=>Q .normal a' w')->wpAny P .any ops Q fuel listed a m.w:=by
 intro fuel
 induction fuel with
 |zero=>
  intro rem listed env m a hl hlen hst hok hr hnt hK;have aqr:rem=[]:=by
   cases rem with
   |nil=>rfl
   |cons _ _=>simp at hlen
  subst aqr;simp only[abi,steps,aaV,abe] at hst;obtain⟨rfl,rfl,_⟩:=hst;refine⟨?_,hK a m hok (Ev.refl m) rfl rfl hr hnt rfl⟩;refine List.eq_nil_iff_forall_not_mem.2 fun i hi=>?_;obtain⟨_,h2,_⟩:=vc.1 hi;obtain⟨p,hp,_⟩:=(hl.free i).1 (y8 h2);simp at hp
 |succ fuel ih=>
  intro rem listed env m a hl hlen hst hok hr hnt hK;refine⟨fun anf=>?_,fun i hi=>?_⟩
  .cases rem with
   |nil=>simp only[abi,steps,aaV,abe] at hst;obtain⟨rfl,rfl,_⟩:=hst;exact hK a m hok (Ev.refl m) rfl rfl hr hnt rfl
   |cons p rest=>
    exfalso;obtain⟨o,ho,_⟩:=hl.comp p (by simp);have hlt:p.i<ops.size:=(Array.getElem?_eq_some_iff.1 ho).1;have abj:p.i∈Region.ready .any ops listed:=by
     refine vc.2 ⟨hlt,?_,o,ho,fun e he hb=>?_⟩
     .rw[Array.getD_eq_getD_getElem?,(hl.free p.i).2 ⟨p,by simp,rfl⟩];rfl
     have hon:e.on<p.i:=by unfold sA at hao;have:=aba.1 hao p.i (by simpa using hlt);rw[ho] at this;simp only[Array.all_eq_true'] at this;have:=this e he;simp only[hb,acE,acG,decide_eq_true_eq] at this;exact this
     have hs:e.on<listed.size:=by rw[hl.size];omega
     rw[Array.getD_eq_getD_getElem?];cases hb2:listed[e.on] with
     |true=>simp[hs,hb2]
     |false=>
      exfalso;obtain⟨q,hq,hqi⟩:=(hl.free e.on).1 (by simp[hs,hb2]);rcases aat.1 hq with rfl|hq
      .omega
      have:=((ab0.1 hl.pair).1 q hq).1;omega
    rw[anf] at abj;simp at abj
  obtain⟨h1,h2,o,ho,h3⟩:=vc.1 hi;obtain⟨p,hp,rfl⟩:=(hl.free i).1 (y8 h2);obtain⟨l1,l2,rfl⟩:=List.append_of_mem hp;obtain⟨o',ho',abF⟩:=hl.comp p hp;rw[ho] at ho';cases ho';have anX:∀j:Nat,p.io.anc.testBit j=true->listed[j]?=some true:=by
   intro j hj;rw[uG abF] at hj;obtain⟨e,he,hb,_,hor⟩:=GW hao ho hj;have hon:=MO (h3 e he hb);rcases hor with rfl|hor
   .exact hon
   exact hl.closed _ hon j hor
  have adj:=adB.1 hl.pair;have ak3:∀x∈l1,Ew x p:=by
   intro x hx;rcases(adj.2.2 x hx p (by simp)).2 with h|h
   .have:=anX _ h;rw[(hl.free x.i).2 ⟨x,by simp[hx],rfl⟩] at this;cases this
   exact h
  obtain⟨aaG,aao,hs1,hs2⟩:=NU hL hst ak3;have key:=ET (Q:=Q) (K:=wpAny P .any ops Q fuel (listed.setIfInBounds p.i true)) hG hP hS abF hs1 hok hr hnt (fun a1 m1 k1 k2 k3 k4 k5 k6 k7=>by
   subst k4;have hlt:p.i<listed.size:=by rw[hl.size];exact h1
   refine ih (rem:=l1++l2) ⟨?_,fun q hq=>hl.comp q (by rcases aaR.1 hq with h|h<;>simp[h]),by simp[hl.size],fun k=>?_,fun k hk j hj=>?_⟩ (by simp at hlen ⊢;omega) hs2 k1 k5 k6 ?_
   .refine adB.2 ⟨adj.1,(ab0.1 adj.2.1).2,fun x hx y hy=>adj.2.2 x hx y (by simp[hy])⟩
   .rw[Array.getElem?_setIfInBounds];by_cases hk:p.i=k
    .subst hk;rw[if_pos rfl,if_pos hlt];constructor
     .intro h;cases h
     rintro ⟨q,hq,hqi⟩
     rcases aaR.1 hq with h|h
     .have:=(adj.2.2 q h p (by simp)).1;omega
     have:=((ab0.1 adj.2.1).1 q h).1;omega
    rw[if_neg hk,hl.free k];constructor
    .rintro ⟨q,hq,hqi⟩
     rcases aaR.1 hq with h|h
     .exact⟨q,by simp[h],hqi⟩
     rcases aat.1 h with rfl|h
     .exact(hk hqi).elim
     exact⟨q,by simp[h],hqi⟩
    rintro ⟨q,hq,hqi⟩
    rcases aaR.1 hq with h|h
    .exact⟨q,by simp[h],hqi⟩
    exact⟨q,by simp[h],hqi⟩
   .have hup:∀j:Nat,listed[j]?=some true->(listed.setIfInBounds p.i true)[j]?=some true:=by
     intro j hj;rw[Array.getElem?_setIfInBounds];split
     .first
       |rfl
       |(rename_i e;rw[if_pos hlt])
     exact hj
    by_cases hk2:p.i=k
    .subst hk2;refine hup j (anX j ?_);rw[uG abF];exact hj
    rw[Array.getElem?_setIfInBounds,if_neg hk2] at hk;exact hup j (hl.closed k hk j hj)
   intro a2 m2 p1 p2 p3 p4 p5 p6 p7;exact hK a2 m2 p1 (k2.trans p2) (p3.trans k3) p4 p5 p6 (p7.trans k7))
  unfold wpOp;rw[ho];simp only;split at key
  .rename_i hw;rw[if_pos hw];exact .inl key
  rename_i hw;rw[if_neg hw];exact key
end
def jY:Nat->List aj->List dR->List It
 |i,x::xs,e::es=>⟨i,x,e⟩::jY (i+1) xs es
 |_,_,_=>[]
theorem Ig:∀ {xs:List aj} {es:List dR} (i:Nat),es.length=xs.length->(jY i xs es).map (·.io)=xs/\(jY i xs es).map (·.e)=es:=by
 intro xs
 induction xs with
 |nil=>intro es i h;cases es with
  |nil=>exact⟨rfl,rfl⟩
  |cons _ _=>simp at h
 |cons x xs ih=>intro es i h;cases es with
  |nil=>simp at h
  |cons e es=>obtain⟨h1,h2⟩:=ih (es:=es) (i+1) (by simpa using h);exact⟨by simp[jY,h1],by simp[jY,h2]⟩
theorem Ge{o:aj}:∀ {past:List aj} {j:Nat},DU o j past=true->∀k x,past[k]?=some x->o.anc.testBit (j+k)=true\/zj x o=true:=by
 intro past
 induction past with
 |nil=>intro j _ k x h;simp at h
 |cons y past ih=>
  intro j h k x hk;simp only[DU,aay,acF] at h;cases k with
  |zero=>simp at hk;subst hk;exact h.1
  |succ k=>have:=ih h.2 k x (by simpa using hk);rw[show j+(k+1)=j+1+k by omega];exact this
theorem Mq{anc:Nat}{e:dR}:∀ {past:List dR} {j:Nat},TB anc e j past=true->∀k x,past[k]?=some x->anc.testBit (j+k)=true\/Aa x e=false:=by
 intro past
 induction past with
 |nil=>intro j _ k x h;simp at h
 |cons y past ih=>
  intro j h k x hk;simp only[TB,aay,acF,abB] at h;cases k with
  |zero=>simp at hk;subst hk;exact h.1
  |succ k=>have:=ih h.2 k x (by simpa using hk);rw[show j+(k+1)=j+1+k by omega];exact this
theorem If:∀ {xs:List aj} {es:List dR} {past:List aj} {pe:List dR},es.length=xs.length->pe.length=past.length->uz xs past=true->ig xs pe es=true->
  (∀(q:It),q∈jY past.length xs es->∀(k:Nat) (x:aj) (e:dR),past[k]?=some x->pe[k]?=some e->q.io.anc.testBit k=true\/(zj x q.io=true/\Aa e q.e=false))/\
  (∀q∈jY past.length xs es,past.length<=q.i)/\(jY past.length xs es).Pairwise fun p q=>p.i<q.i/\(q.io.anc.testBit p.i=true\/Ew p q):=by
 intro xs
 induction xs with
 |nil=>
  intro es past pe _ _ _ _;have:jY past.length [] es=[]:=by cases es<;>rfl
  rw[this];exact⟨fun q h=>by simp at h,fun q h=>by simp at h,.nil⟩
 |cons x xs ih=>
  intro es past pe hl hp hf hd;cases es with
  |nil=>simp at hl
  |cons e es=>
   simp only[uz,aay] at hf;simp only[ig,aay] at hd;obtain⟨i1,i2,i3⟩:=ih (es:=es) (past:=past++[x]) (pe:=pe++[e]) (by simpa using hl) (by simp[hp]) hf.2 hd.2;have hlen:(past++[x]).length=past.length+1:=by simp
   rw[hlen] at i1 i2 i3;simp only[jY];refine⟨?_,?_,ab0.2 ⟨?_,i3⟩⟩
   .intro q hq k y f hy hf';rcases aat.1 hq with rfl|hq
    .have h1:=Ge hf.1 k y hy;have h2:=Mq hd.1 k f hf';rw[abd] at h1 h2;rcases h1 with h1|h1
     .exact .inl h1
     rcases h2 with h2|h2
     .exact .inl h2
     exact .inr ⟨h1,h2⟩
    have hk:k<past.length:=(aai.1 hy).1;exact i1 q hq k y f (by rw[acN hk];exact hy) (by rw[acN (by omega)];exact hf')
   .intro q hq;rcases aat.1 hq with rfl|hq
    .exact aaj _
    have:=i2 q hq;omega
   intro q hq;refine⟨by have:=i2 q hq;simp only;omega,?_⟩;exact i1 q hq past.length x e (by simp) (by rw[<- hp];simp)
theorem Ih{ops:Array Oper}{anc:Nat->Option Nat}{dst:Nat->Option Nat}{base nt:Nat}:∀ {r:List Oper} {xs:List aj} {es:List dR} {i:Nat},gZ P dst anc base nt i r=some xs->es.length=xs.length->(∀j,ops[i+j]?=r[j]?)->
  (∀p∈jY i xs es,∃o,ops[p.i]?=some o/\ke P dst ((base+p.i)*64) nt ((anc p.i).getD 0) o=some p.io)/\ ∀k,i<=k->k<i+r.length->∃p∈jY i xs es,p.i=k:=by
 intro r
 induction r with
 |nil=>
  intro xs es i h _ _;simp only[gZ,aaV] at h;subst h;have:jY i [] es=[]:=by cases es<;>rfl
  rw[this];exact⟨fun p h=>by simp at h,fun k h1 h2=>by simp at h2;omega⟩
 |cons o r ih=>
  intro xs es i h hl agI;obtain⟨x,xs',rfl,h1,h2⟩:=pE h;cases es with
  |nil=>simp at hl
  |cons e es=>
   obtain⟨i1,i2⟩:=ih (es:=es) h2 (by simpa using hl) (fun j=>by have:=agI (j+1);rw[show i+1+j=i+(j+1) by omega];simpa using this);refine⟨fun p hp=>?_,fun k hk1 hk2=>?_⟩
   .rcases aat.1 hp with rfl|hp
    .exact⟨o,by have:=agI 0;simpa using this,h1⟩
    exact i1 p hp
   by_cases hk:k=i
   .exact⟨⟨i,x,e⟩,by simp[jY],hk.symm⟩
   obtain⟨p,hp,hpi⟩:=i2 k (by omega) (by simp at hk2;omega);exact⟨p,by simp[jY,hp],hpi⟩
theorem Lw{sh:Ctx}{cp:cN}{cs:ez}:∀ {xs:List aj} {env aah:Env} {blk aaf:aw} {es:List dR},steps sh cp cs xs env blk=some (aah,aaf,es)->es.length=xs.length:=by
 intro xs
 induction xs with
 |nil=>intro env aah blk aaf es h;simp only[steps,aaV,abe] at h;rw[<- h.2.2];rfl
 |cons x xs ih=>
  intro env aah blk aaf es h;simp only[steps] at h;split at h
  .split at h
   .rename_i h2;cases h;simp[ih h2]
   cases h
  cases h
theorem GL{dst anc:Nat->Option Nat}{base nt:Nat}:∀ {r:List Oper} {xs:List aj} {i:Nat},gZ P dst anc base nt i r=some xs->xs.length=r.length:=by
 intro r
 induction r with
 |nil=>intro xs i h;simp only[gZ,aaV] at h;subst h;rfl
 |cons o r ih=>intro xs i h;obtain⟨x,xs',rfl,_,h2⟩:=pE h;simp[ih h2]
section
variable {G:World->Prop} (hG:Good G w0) {cp:cN} {cs:ez} (hP:rm P G cp) (hS:tH P G cs) (hL:mZ cs) {sh:Ctx}
include hG hP hS hL
theorem QL(hfo:P.follows .mixedOrders=true){ops:Array Oper}{base nt id:Nat}{Q:Exit->Act->World->Prop}{l:List aj}{env aah:Env}{m:Mem}{aaf:aw}{es:List dR}{a:Act}(hc:gZ P (fun j=>(ops[j]?).bind (·.dst)) (fun i=>(Region.before ops)[i]?) base nt 0 ops.toList=some l)
  (hao:sA ops=true) (hf:uz l []=true) (hst:steps sh cp cs l env m.blk=some (aah,aaf,es)) (hd:ig l [] es=true) (hok:Ok w0 m) (hr:gL m env a.tmps) (hnt:a.tmps.size=nt) (hK:Jn w0 m a nt aah aaf (fun a' w'=>Q .normal a' w')):(Code.region id ops true).wp P Q a m.w:=by
 refine wp_region_any hfo ?_;have hlen:=Lw hst;have hl2:l.length=ops.size:=by have:=GL hc;simpa using this
 obtain⟨g1,g2⟩:=Ig 0 hlen;obtain⟨_,_,hp⟩:=If (past:=[]) (pe:=[]) hlen rfl hf hd;obtain⟨c1,c2⟩:=Ih (ops:=ops) hc hlen (fun j=>by simp);have abD:Ok w0 (m.later m.w.drew fun _=>False):=uj hok (eU.drew _) fun _ h=>h.elim;have acD:Ev m (m.later m.w.drew fun _=>False):=qK (eU.drew _) fun _ h=>h.elim;have hfr:(m.later m.w.drew fun _=>False).fr=m.fr:=by funext c;simp[Mem.later]
 refine Vc (m:=m.later m.w.drew fun _=>False) hG hP hS hL hao ops.size (rem:=jY 0 l es) (base:=base) ⟨hp,c1,by simp,fun i=>?_,fun i hi=>?_⟩ ?_ (by rw[g1,g2];exact hst) abD (hr.ev acD) hnt ?_
 .constructor
  .intro h;have hi:i<ops.size:=by
    have:=(Array.getElem?_eq_some_iff.1 h).1
    simpa using this
   exact c2 i (aan _) (by simpa using hi)
  rintro ⟨p,hp,rfl⟩
  obtain⟨o,ho,_⟩:=c1 p hp;have hi:p.i<ops.size:=(Array.getElem?_eq_some_iff.1 ho).1;simp[hi]
 .rw[Array.getElem?_replicate] at hi;split at hi<;>simp at hi
 .have:(jY 0 l es).length=l.length:=by have:=congrArg List.length g1;simpa using this
  omega
 intro a2 m2 p1 p2 p3 p4 p5 p6 p7;exact hK a2 m2 p1 (acD.trans p2) (p3.trans hfr) p4 p5 p6 p7
end
end Go.Abs
namespace Go.Abs
variable {P:Program} {w0:World}
def toE:fK->Exit
 | .normal=>.normal
 | .exit i=>.exit i
 | .ret=>.ret
section
variable {G:World->Prop} (hG:Good G w0) {cp:cN} {cs:ez} (hP:rm P G cp) (hS:tH P G cs) (hL:mZ cs) (hfo:P.follows .mixedOrders=true) {sh:Ctx}
include hG hP hS hL hfo
theorem QE{n f nt:Nat}:∀(c:Code) {ic:am} {env aah:Env} {m:Mem} {aaf:aw} {e:fK} {a:Act} {Q:Exit->Act->World->Prop},iI P f nt c=some ic->exec sh cp cs n ic env m.blk=some (e,aah,aaf)->Ok w0 m->gL m env a.tmps->a.tmps.size=nt->
  Jn w0 m a nt aah aaf (fun a' w'=>Q (toE e) a' w')->c.wp P Q a m.w:=by
 intro c
 induction c with
 |skip=>intro ic env aah m aaf e a Q hc hx hok hr hnt hK;simp only[iI,aaV] at hc;subst hc;simp only[exec,aaV,abe] at hx;obtain⟨rfl,rfl,rfl⟩:=hx;exact wp_skip (hK a m hok (Ev.refl m) rfl rfl hr hnt rfl)
 |label l=>intro ic env aah m aaf e a Q hc hx hok hr hnt hK;simp only[iI,aaV] at hc;subst hc;simp only[exec,aaV,abe] at hx;obtain⟨rfl,rfl,rfl⟩:=hx;exact wp_label (hK a m hok (Ev.refl m) rfl rfl hr hnt rfl)
 |ret=>intro ic env aah m aaf e a Q hc hx hok hr hnt hK;simp only[iI,aaV] at hc;subst hc;simp only[exec,aaV,abe] at hx;obtain⟨rfl,rfl,rfl⟩:=hx;exact wp_ret (hK a m hok (Ev.refl m) rfl rfl hr hnt rfl)
 |exit id=>intro ic env aah m aaf e a Q hc hx hok hr hnt hK;simp only[iI,aaV] at hc;subst hc;simp only[exec,aaV,abe] at hx;obtain⟨rfl,rfl,rfl⟩:=hx;exact wp_exit (hK a m hok (Ev.refl m) rfl rfl hr hnt rfl)
 |region id ops draw=>
  intro ic env aah m aaf e a Q hc hx hok hr hnt hK;simp only[iI] at hc;split at hc
  .rename_i xs hxs;cases draw with
   |false=>
    simp only[aaE,if_false,aaV] at hc;subst hc;simp only[exec] at hx;split at hx
    .rename_i e1 b1 es hst;simp only[aaE,if_false,aaV,abe] at hx;obtain⟨rfl,rfl,rfl⟩:=hx;exact HP hG hP hS hxs hst hok hr hnt hK
    cases hx
   |true=>
    simp only[if_true] at hc hxs;split at hc
    .rename_i hfa;simp only[aay] at hfa;cases hc;simp only[exec] at hx;split at hx
     .rename_i e1 b1 es hst;simp only[if_true] at hx;split at hx
      .rename_i hd;cases hx;exact QL hG hP hS hL hfo hxs hfa.1 hfa.2 hst hd hok hr hnt hK
      cases hx
     cases hx
    cases hc
  cases hc
 |seq x y ihx ihy=>
  intro ic env aah m aaf e a Q hc hx hok hr hnt hK;simp only[iI] at hc;split at hc
  .rename_i ix iy h1 h2;cases hc;simp only[exec] at hx;refine wp_seq ?_;split at hx
   .rename_i aaG aao hx1;refine ihx h1 hx1 hok hr hnt ?_;intro a1 m1 k1 k2 k3 k4 k5 k6 k7;subst k4;refine ihy h2 hx k1 k5 k6 ?_;intro a2 m2 p1 p2 p3 p4 p5 p6 p7;exact hK a2 m2 p1 (k2.trans p2) (p3.trans k3) p4 p5 p6 (p7.trans k7)
   rename_i hne;refine ihx h1 hx hok hr hnt ?_;intro a1 m1 k1 k2 k3 k4 k5 k6 k7;have:=hK a1 m1 k1 k2 k3 k4 k5 k6 k7;cases e with
   |normal=>exact(hne aah aaf hx).elim
   |exit i=>exact this
   |ret=>exact this
  cases hc
 |cond x p q ihp ihq=>
  intro ic env aah m aaf e a Q hc hx hok hr hnt hK;simp only[iI] at hc;split at hc
  .rename_i c' ip iq h1 h2 h3;cases hc;simp only[exec] at hx;split at hx
   .rename_i t ht;have hv:=aE h1 hr;rw[ht] at hv;refine wp_cond (j6 hv) ?_;cases t with
    |true=>simp only[if_true] at hx ⊢;exact ihp h2 hx hok hr hnt hK
    |false=>simp only[aaE,if_false] at hx ⊢;exact ihq h3 hx hok hr hnt hK
   cases hx
  cases hc
 |block id c ih=>
  intro ic env aah m aaf e a Q hc hx hok hr hnt hK;simp only[iI,aaD] at hc;obtain⟨ic',h1,rfl⟩:=hc;simp only[exec] at hx;refine wp_block ?_;split at hx
  .rename_i i aaG aao hx1;refine ih h1 hx1 hok hr hnt ?_;intro a1 m1 k1 k2 k3 k4 k5 k6 k7;simp only[toE,Exit.inBlock];split at hx
   .rename_i hi;cases hx;rw[if_pos hi];exact hK a1 m1 k1 k2 k3 k4 k5 k6 k7
   rename_i hi;cases hx;rw[if_neg hi];exact hK a1 m1 k1 k2 k3 k4 k5 k6 k7
  rename_i hne;refine ih h1 hx hok hr hnt ?_;intro a1 m1 k1 k2 k3 k4 k5 k6 k7;have:=hK a1 m1 k1 k2 k3 k4 k5 k6 k7;cases e with
  |normal=>exact this
  |exit i=>exact(hne i aah aaf hx).elim
  |ret=>exact this
 |loop c ih=>
  intro ic env aah m aaf e a Q hc hx hok hr hnt hK;simp only[iI,aaD] at hc;obtain⟨ic',h1,rfl⟩:=hc;simp only[exec] at hx;refine wp_loop_rounds n ?_;have key:∀(k:Nat) {env:Env} {m:Mem} {a:Act},iter (exec sh cp cs n ic') k env m.blk=some (e,aah,aaf)->Ok w0 m->gL m env a.tmps->a.tmps.size=nt->Jn w0 m a nt aah aaf (fun a' w'=>Q (toE e) a' w')->Code.rounds P c Q k a m.w:=by
   intro k
   induction k with
   |zero=>intro env m a hx;simp[iter] at hx
   |succ k ihk=>
    intro env m a hx hok hr hnt hK;rw[rounds_succ];simp only[iter] at hx;split at hx
    .rename_i aaG aao hx1;refine ih h1 hx1 hok hr hnt ?_;intro a1 m1 k1 k2 k3 k4 k5 k6 k7;subst k4;refine ihk hx k1 k5 k6 ?_;intro a2 m2 p1 p2 p3 p4 p5 p6 p7;exact hK a2 m2 p1 (k2.trans p2) (p3.trans k3) p4 p5 p6 (p7.trans k7)
    rename_i hne;refine ih h1 hx hok hr hnt ?_;intro a1 m1 k1 k2 k3 k4 k5 k6 k7;have:=hK a1 m1 k1 k2 k3 k4 k5 k6 k7;cases e with
    |normal=>exact(hne aah aaf hx).elim
    |exit i=>exact this
    |ret=>exact this
  exact key n hx hok hr hnt hK
 |scope c ih=>intro ic env aah m aaf e a Q hc hx hok hr hnt hK;simp only[iI] at hc;refine wp_scope_straight ?_;refine ih hc hx hok hr hnt ?_;intro a1 m1 k1 k2 k3 k4 k5 k6 k7;have:=hK a1 m1 k1 k2 k3 k4 k5 k6 k7;cases e<;>exact this
 |_=>intro ic env aah m aaf e a Q hc hx;simp only[iI,aaV] at hc;subst hc;simp[exec] at hx
end
end Go.Abs
namespace Go.Abs
variable {P:Program} {w0:World}
section
variable{m:Mem}
theorem SJ{k:Option Nat}{cs:List C}{v:V}{u:Value}(h:iz k cs=some v)(hr:aX m v u):ia m v u:=by
 unfold iz at h;split at h
 .split at h
  .cases h;exact hr
  cases h
 split at h
 .cases h;exact hr
 cases h
theorem TD{x v:V}{u:Value}(h:Kc x=some v)(hr:aX m x u):ia m v u:=by cases x<;>simp only[Kc,aaV,reduceCtorEq] at h<;>subst h<;>exact hr
theorem sL{α β:Type}{f:α->Sem β}{x:α}{xs:List α}{y:β}{ys:List β}{w:World}(h1:(f x).run P w=.ok y w)(h2:(xs.mapM f).run P w=.ok ys w):((x::xs).mapM f).run P w=.ok (y::ys) w:=by simp only[List.mapM_cons,Sem.run_bind,h1,h2,Result.andThen_ok,Sem.run_pure]
theorem Dm{al:Al}(hok:Ok w0 m){env:Env}{tmps:Array Value}(hr:gL m env tmps):∀ {rs:List ResultVar} {l:List (Nat×Option (Option Nat))} {vs:List V},Dn P rs=some l->cT al env m.blk l=some vs->
  ∃ys,(rs.mapM (fun| .tmp t=>pure (tmps.getD t undef)| .cell a t=>do loadVar t (<- asAddr (tmps.getD a undef)):ResultVar->Sem Value)).run P m.w=.ok ys m.w/\Pw (ia m) vs ys:=by
 intro rs
 induction rs with
 |nil=>intro l vs h1 h2;simp only[Dn,aaV] at h1;subst h1;simp only[cT,aaV] at h2;subst h2;exact⟨[],by simp[Sem.run_pure],rfl,fun j x u p=>by simp at p⟩
 |cons r rs ih=>
  intro l vs h1 h2;have cons:∀ {x:V} {xs:List V} {y:Value} {ys:List Value},ia m x y->Pw (ia m) xs ys->Pw (ia m) (x::xs) (y::ys):=by
   intro x xs y ys p q;refine⟨by simp[q.1],fun j z u a b=>?_⟩;cases j with
   |zero=>simp at a b;subst a b;exact p
   |succ j=>exact q.2 j z u (by simpa using a) (by simpa using b)
  cases r with
  |tmp t=>
   simp only[Dn,aaD] at h1;obtain⟨l',h3,rfl⟩:=h1;simp only[cT] at h2;split at h2
   .rename_i v q e1 e2;cases h2;obtain⟨ys,g1,g2⟩:=ih h3 e2;exact⟨_::ys,sL (by simp[Sem.run_pure]) g1,cons (TD e1 (hr t)) g2⟩
   cases h2
  |cell a t=>
   simp only[Dn] at h1;split at h1
   .rename_i k q e1 e2;cases h1;simp only[cT] at h2;split at h2
    .rename_i cs rd ws e3 e4;split at h2
     case isFalse=>cases h2
     simp only[aaD] at h2;obtain⟨v,hv,rfl⟩:=h2;obtain⟨ys,g1,g2⟩:=ih e2 e4;obtain⟨ad,y,p1,p2,p3⟩:=ww e1 (Fm hok e3 (hr a)) hv;exact⟨y::ys,sL (by simp[p1,asAddr,p2]) g1,cons (SJ hv p3) g2⟩
    cases h2
   cases h1
theorem Fk{al:Al}(hok:Ok w0 m){env:Env}{tmps:Array Value}(hr:gL m env tmps){fn:Func}{l:List (Nat×Option (Option Nat))}{vs:List V}(h1:Dn P fn.results.toList=some l)(h2:cT al env m.blk l=some vs):
  ∃y,(results fn tmps).run P m.w=.ok y m.w/\aX m (xN vs) y:=by
 obtain⟨ys,g1,g2⟩:=Dm hok hr h1 h2;have aaT:(results fn tmps).run P m.w=.ok (if h:ys.toArray.size=1 then ys.toArray[0] else .tuple ys.toArray) m.w:=by
  unfold results;simp only[Array.mapM_eq_mapM_toList,map_eq_pure_bind,Sem.run_bind,Result.andThen_ok,Sem.run_pure,bind_assoc,pure_bind]
  erw[g1]
  simp only[Result.andThen_ok,Sem.run_pure]
 refine⟨_,aaT,?_⟩
 match vs,ys,g2 with
 |[v],[y],g2=>exact aX.of1 (g2.2 0 v y rfl rfl)
 |[],[],g2=>exact⟨_,rfl,rfl,fun j x u p=>by simp at p⟩
 |v::v'::vs,y::y'::ys,g2=>refine⟨_,rfl,by simpa using g2.1,fun j x u p q=>g2.2 j x u p (by simpa using q)⟩
 |[],y::ys,g2=>exact absurd g2.1 (by simp)
 |v::vs,[],g2=>exact absurd g2.1 (by simp)
 |[v],y::y'::ys,g2=>exact absurd g2.1 (by simp)
 |v::v'::vs,[y],g2=>exact absurd g2.1 (by simp)
theorem zV{f:Nat}{fn:cX}(h:uH P f=some fn):∃kf c,P.funcs[f]?=some kf/\kf.body=some c/\(kf.name== "runtime.NumGoroutine")=false/\iI P f kf.ntmps c=some fn.body/\Dn P kf.results.toList=some fn.results/\fn.ntmps=kf.ntmps:=by
 unfold uH at h;split at h
 .cases h
 rename_i kf hf;split at h
 .cases h
 rename_i c hc;split at h
 .cases h
 rename_i hn;split at h
 .rename_i b r h1 h2;cases h;exact⟨kf,c,hf,hc,by simpa using hn,h1,h2,rfl⟩
 cases h
def R9(S:Sys)(G:World->Prop):Prop:=∀f vs r,S.prim f vs=some (some r)->Enters S.P f/\ ∀(w:World) (O:Nat->Prop) (args:Array Value),Good G w->(∀c,O c->c<w.heap.size)->Pw (kn w O) vs args.toList->Calls S.P f args w (uQ w O r)
structure CM (S:Sys) (G:World->Prop):Prop where
 follow:S.P.follows .mixedOrders=true
 fns:∀f fn,S.fns f=some fn->uH S.P f=some fn
 prim:R9 S G
theorem Ly{vs:List V}{args:Array Value}{nt:Nat}(h:Pw (aX m) vs args.toList)(hl:vs.length<=nt):gL m (qd vs) (args++Array.replicate (nt-args.size) undef)/\(args++Array.replicate (nt-args.size) undef).size=nt:=by
 have hs:args.size=vs.length:=by simpa using h.1
 constructor
 .intro t;by_cases ht:t<vs.length
  .have h1:qd vs t=vs[t]:=by simp[qd,List.getD,ht]
   have h2:(args++Array.replicate (nt-args.size) undef).getD t undef=args[t]:=by simp[Array.getD_eq_getD_getElem?,Array.getElem?_append,hs,ht]
   rw[h1,h2];exact h.2 t _ _ (by simp[ht]) (by simp[hs,ht])
  have h1:qd vs t=.undef:=by simp[qd,List.getD,abS (Nat.le_of_not_lt ht)]
  have h2:(args++Array.replicate (nt-args.size) undef).getD t undef=undef:=by simp only[Array.getD_eq_getD_getElem?,Array.getElem?_append,hs,if_neg ht];rw[Array.getElem?_replicate];split<;>rfl
  rw[h1,h2];rfl
 simp;omega
theorem Hc(hok:Ok w0 m):∀ {o q:List Nat},apart o q=true->(∀id∈o,∃ob,(m.blk id).2=some ob/\ob.eE=true)->(o.map m.σ).Nodup/\ ∀id∈q,id∉o:=by
 intro o
 induction o with
 |nil=>intro q _ _;exact⟨by simp,fun id _ h=>by simp at h⟩
 |cons i o ih=>
  intro q h hm;simp only[apart,aay,abB] at h;obtain⟨⟨h1,h2⟩,h3⟩:=h;obtain⟨i1,i2⟩:=ih h3 (fun id hid=>hm id (by simp[hid]));have h1':i∉o:=by simpa using h1
  have h2':i∉q:=by simpa using h2
  refine⟨?_,fun id hid=>?_⟩
  .rw[aaK,abQ];refine⟨fun abj=>?_,i1⟩;obtain⟨j,hj,he⟩:=aaF.1 abj;obtain⟨ob,a1,a2⟩:=hm i (by simp);obtain⟨ob',b1,b2⟩:=hm j (by simp[hj]);exact h1' (hok.inj j i ob' ob b1 b2 a1 a2 he▸hj)
  simp only[aat,not_or];exact⟨fun e=>h2' (e▸hid),i2 id hid⟩
theorem Mm{blk:aw}:∀ {cs:List C} {rs:List RC} {o q:List Nat},fJ blk cs=some (rs,o,q)->rs.length=cs.length:=by
 intro cs
 induction cs with
 |nil=>intro rs o q h;simp only[fJ,aaV,abe] at h;obtain⟨rfl,_,_⟩:=h;rfl
 |cons c cs ih=>
  intro rs o q h;simp only[fJ] at h;split at h
  .rename_i x o1 q1 xs os qs h1 h2;cases h;simp[ih h2]
  cases h
theorem wQ{α β:Type}{f:α->Option (β×List Nat)}:∀ {xs:List α} {ys:List β} {r:List Nat},collect f xs=some (ys,r)->∀id∈r,∃x y q,f x=some (y,q)/\id∈q:=by
 intro xs
 induction xs with
 |nil=>intro ys r h id hid;simp[collect] at h;rw[h.2] at hid;simp at hid
 |cons x xs ih=>
  intro ys r h id hid;simp only[collect] at h;split at h
  .rename_i b p bs q e1 e2;cases h;rcases aaR.1 hid with hid|hid
   .exact⟨x,b,p,e1,hid⟩
   exact ih e2 id hid
  cases h
theorem LD{blk:aw}:∀ {n:Nat} {c:C} {x:PV} {r:List Nat},snap blk n c=some (x,r)->∀id∈r,∃ob,(blk id).2=some ob:=by
 intro n
 induction n with
 |zero=>intro c x r h;simp[snap] at h
 |succ n ih=>
  intro c x r h id hid;have one:∀ {i:Nat} {ob:Ob} {g:Nat},blk i=(g,some ob)->id∈[i]->∃ob,(blk id).2=some ob:=by intro i ob g hb hi;simp at hi;subst hi;exact⟨ob,by rw[hb]⟩
  have coll:∀ {cs:List C} {ps:List PV} {r:List Nat},collect (snap blk n) cs=some (ps,r)->id∈r->∃ob,(blk id).2=some ob:=by intro cs ps r h hi;obtain⟨x,y,q,h1,h2⟩:=wQ h id hi;exact ih h1 id h2
  unfold snap at h;split at h
  .cases h;simp at hid
  .split at h
   .rename_i hb;split at h
    .split at h
     .rename_i hc;cases h;rcases aat.1 hid with e|hid
      .exact one hb (by simp[e])
      exact coll hc hid
     cases h
    cases h
   .rename_i hb;split at h
    .cases h;exact one hb hid
    cases h
   cases h
  .split at h
   .rename_i hb;split at h
    .simp only[aaD] at h;obtain⟨e,_,h2⟩:=h;cases h2;exact one hb hid
    cases h
   .rename_i hb;split at h
    .simp only[aaD] at h;obtain⟨e,_,h2⟩:=h;cases h2;exact one hb hid
    cases h
   cases h
  .split at h
   .rename_i hb;split at h
    .cases h;exact one hb hid
    cases h
   .rename_i hb;split at h
    .cases h;exact one hb hid
    cases h
   .rename_i hb;split at h
    .split at h
     .rename_i hc;cases h;rcases aat.1 hid with e|hid
      .exact one hb (by simp[e])
      obtain⟨x,y,q,h1,h2⟩:=wQ hc id hid;exact coll h1 h2
     cases h
    cases h
   cases h
  .split at h
   .rename_i hb;split at h
    .cases h;exact one hb hid
    cases h
   .rename_i hb;split at h
    .cases h;exact one hb hid
    cases h
   cases h
  split at h
  .rename_i h1 h2;cases h;rcases aaR.1 hid with hid|hid
   .exact coll h1 hid
   exact coll h2 hid
  cases h
theorem H0{blk:aw}:∀ {cs:List C} {rs:List RC} {o q:List Nat},fJ blk cs=some (rs,o,q)->∀id∈q,∃ob,(blk id).2=some ob:=by
 intro cs
 induction cs with
 |nil=>intro rs o q h id hid;simp only[fJ,aaV,abe] at h;rw[<- h.2.2] at hid;simp at hid
 |cons c cs ih=>
  intro rs o q h id hid;simp only[fJ] at h;split at h
  .rename_i x o1 q1 xs os qs h1 h2;cases h;rcases aaR.1 hid with hid|hid
   .have sn:(snap blk cG c).map (fun(v,r)=>((.p v:RC),([]:List Nat),r))=some (x,o1,q1)->∃ob,(blk id).2=some ob:=by
     intro h1;simp only[aaD] at h1;obtain⟨⟨y,r⟩,h3,h4⟩:=h1;cases h4;exact LD h3 id hid
    unfold fR at h1;split at h1
    .cases h1;simp at hid
    .split at h1
     .split at h1
      .cases h1;simp at hid
      cases h1
     exact sn h1
    exact sn h1
   exact ih h2 id hid
  cases h
theorem Tw{w:World}{O:Nat->Prop}{m0:Mem}(hok:Ok w m)(hev:Ev m0 m)(hm0:m0.w=w)(anp:∀c,¬m0.eE c)(hfr:m.fr=O){v:V}{r:RV}{val:Value}(h:fH m.blk v=some r)(hr:aX m v val):uQ w O r (.returned val) m.w:=by
 unfold fH at h;split at h
 .rename_i cs hcs;split at h
  .rename_i rs o q ho;split at h
   .rename_i hap;cases h;obtain⟨vs,hc,hsh⟩:=MU hcs hr;obtain⟨g1,g2⟩:=hsh rs (Mm ho);have hm:=(Bw hok (Q:=fun _=>False) (fun _ h=>h.elim) ho hc (fun _ _ h=>h)).2;obtain⟨hnd,arj⟩:=Hc hok hap hm;have ajS:∀b,(O b\/b∈o.map m.σ)->m.own b:=by
     intro b hb;rcases hb with hb|hb
     .exact .inl (hfr▸hb)
     obtain⟨id,hid,rfl⟩:=aaF.1 hb;obtain⟨ob,h1,h2⟩:=hm id hid;exact .inr ⟨id,ob,h1,h2,rfl⟩
    have hq:∀id∈q,¬(O (m.σ id)\/m.σ id∈o.map m.σ):=by
     intro id hid hn;obtain⟨ob,hob⟩:=H0 ho id hid;by_cases hmi:ob.eE=true
     .rcases hn with hn|hn
      .exact(hok.aaw id ob hob hmi).2 (hfr▸hn)
      obtain⟨j,hj,he⟩:=aaF.1 hn;obtain⟨ob',b1,b2⟩:=hm j hj;exact arj id hid (hok.inj j id ob' ob b1 b2 hob hmi he▸hj)
     have hno:¬m.own (m.σ id):=by
      have hor:=hok.obj id ob hob;cases ob<;>simp[Ob.eE] at hmi
      .obtain⟨_,_,_,_,_,hno⟩:=hor;exact hno
      .obtain⟨_,_,_,_,_,_,_,_,_,hno⟩:=hor;exact hno
      obtain⟨_,_,_,_,_,hno⟩:=hor;exact hno
     exact hno (ajS _ hn)
    obtain⟨hrc,_⟩:=Bw hok ajS ho hc hq;subst hm0;refine⟨val,o.map m.σ,rfl,⟨hev.os,hev.tape,hev.output,hev.size,fun c hc=>hev.keep c hc (anp c)⟩,hnd,fun c hc=>?_,vs,g2,by rw[g1];exact hrc⟩;obtain⟨id,hid,rfl⟩:=aaF.1 hc;obtain⟨ob,h1,h2⟩:=hm id hid;exact⟨(hok.aaw id ob h1 h2).1,(hok.obj id ob h1).lt⟩
   cases h
  cases h
 cases h
theorem kn.vrel{w:World}{O:Nat->Prop}(hw:m.w=w)(ho:m.own=O){x:V}{v:Value}(h:kn w O x v):aX m x v:=by
 subst hw ho;cases x with
 |undef=>exact h.elim
 |tup _=>exact h.elim
 |one c=>
  cases c with
  |p x=>exact kZ h
  |_=>exact h.elim
 |agg cs=>obtain⟨arr,ps,rfl,rfl,hp⟩:=h;exact aX.agg.2 ⟨arr,rfl,hp.SI⟩
theorem LS{sh:Ctx}{cp:cN}{cs:ez}{n:Nat}{fn:cX}{args:List V}{blk aaf:aw}{v:V}(h:n9 sh cp cs n fn args blk=some (v,aaf)):
  ∃e env vs,exec sh cp cs n fn.body (qd args) blk=some (e,env,aaf)/\(e=.normal\/e=.ret)/\cT sh.al env aaf fn.results=some vs/\v=xN vs:=by
 unfold n9 at h;split at h
 .rename_i env b hx;simp only[aaD] at h;obtain⟨vs,h1,h2⟩:=h;cases h2;exact⟨_,env,vs,hx,.inl rfl,h1,rfl⟩
 .rename_i env b hx;simp only[aaD] at h;obtain⟨vs,h1,h2⟩:=h;cases h2;exact⟨_,env,vs,hx,.inr rfl,h1,rfl⟩
 cases h
theorem JP{G:World->Prop}(hG:Good G w0){cp:cN}{cs:ez}(hP:rm P G cp)(hS:tH P G cs)(hL:mZ cs)(hfo:P.follows .mixedOrders=true){sh:Ctx}{n f:Nat}{fn:cX}(hc:uH P f=some fn){vs:List V}{m:Mem}{v:V}{aaf:aw}{args:Array Value}(h:n9 sh cp cs n fn vs m.blk=some (v,aaf))
  (hl:vs.length<=fn.ntmps) (hok:Ok w0 m) (ha:Pw (aX m) vs args.toList):Calls P f args m.w (RZ w0 m v aaf):=by
 obtain⟨kf,c,h1,h2,h3,h4,h5,h6⟩:=zV hc;obtain⟨e,env,rs,hx,he,ac6,rfl⟩:=LS h;refine calls_of_wp h1 h2 ?_;obtain⟨s1,s2⟩:=Ly (nt:=kf.ntmps) ha (by rw[<- h6];exact hl);refine QE hG hP hS hL hfo c h4 hx hok s1 s2 ?_;intro a' m' k1 k2 k3 k4 k5 k6 k7;subst k4;obtain⟨y,g1,g2⟩:=Fk k1 k5 h5 ac6;have:bodyPost P kf (RZ w0 m (xN rs) m'.blk) .normal a' m'.w:=⟨k7,y,g1,y,m',rfl,rfl,k1,k2,k3,rfl,g2⟩;rcases he with rfl|rfl
 .exact this
 exact this
theorem enters_of{f:Nat}{fn:cX}(hc:uH P f=some fn):Enters P f:=by obtain⟨kf,c,h1,h2,h3,_⟩:=zV hc;exact⟨kf,c,h1,h2,h3⟩
theorem sound{S:Sys}{G:World->Prop}(h:CM S G):∀n,rm S.P G (de S n)/\tH S.P G (dq S n)/\mZ (dq S n):=by
 intro n
 induction n with
 |zero=>exact⟨fun f vs r h=>by simp[de] at h,fun f vs al blk v aaf h=>by simp[dq] at h,fun f vs al blk v aaf h=>by simp[dq] at h⟩
 |succ n ih=>
  obtain⟨hP,hS,hL⟩:=ih;refine⟨?_,?_,?_⟩
  .intro f vs r hc;rw[de] at hc;split at hc
   .rename_i r' hp;subst hc;exact h.prim f vs r hp
   split at hc
   .rename_i fn hfn;have hcf:=h.fns f fn hfn;split at hc
    .rename_i hl;refine⟨enters_of hcf,fun w O args hG hO ha=>?_⟩;unfold Fi at hc;split at hc
     .rename_i v aaf hr
      let m0:Mem:=⟨w,qG,fun _=>0,fun _=>0,O⟩
      have aqx:m0.own=O:=by
       funext c;apply propext;constructor
       .rintro (h|⟨id,o,h,_⟩)
        .exact h
        cases h
       exact .inl
      have hok:Ok w m0:=⟨rfl,rfl,rfl,aaj _,fun _ _=>rfl,(fun id o h=>by cases h),(fun id o h=>by cases h),hO,(fun id id' o o' h=>by cases h)⟩;have hav:Pw (aX m0) vs args.toList:=⟨ha.1,fun j x u p q=>(ha.2 j x u p q).vrel rfl aqx⟩;refine(JP hG hP hS hL h.follow hcf (m:=m0) hr hl hok hav).mono ?_;rintro e w' ⟨val,m',rfl,rfl,q1,q2,q3,q4,q5⟩
      subst q4;exact Tw (m0:=m0) q1 q2 rfl (fun c ⟨id,o,h,_⟩=>by cases h) q3 hc q5
     cases hc
    cases hc
   cases hc
  .intro f vs al blk v aaf hc;rw[dq] at hc;split at hc
   .rename_i fn hfn;have hcf:=h.fns f fn hfn;split at hc
    .rename_i hl;refine⟨enters_of hcf,fun w0 m args hG hok hb ha=>?_⟩;subst hb;exact JP hG hP hS hL h.follow hcf hc hl hok ha
    cases hc
   cases hc
  intro f vs al blk v aaf hc;rw[dq] at hc;split at hc
  .rename_i fn hfn;split at hc
   .rename_i hl;obtain⟨l1,l2⟩:=Td hL hc;refine⟨l1,fun aal h2=>?_⟩;obtain⟨b3,h3,h4⟩:=l2 aal h2;exact⟨b3,by rw[dq];simp only[hfn,hl,if_true];exact h3,h4⟩
   cases hc
  cases hc
theorem aP.calls{S:Sys}{G:World->Prop}(h:CM S G){f:Nat}{vs:List V}{r:RV}(hc:aP S f vs r)(w:World)(hG:Good G w)(args:Array Value)(ha:Pw (kn w fun _=>False) vs args.toList):Calls S.P f args w (uQ w (fun _=>False) r):=by obtain⟨n,hn⟩:=hc;exact((sound h n).1 f vs r hn).2 w _ args hG (fun c h=>h.elim) ha
end
end Go.Abs
namespace Go.Abs
section
variable{args:List V}{cp:cN}{cs:ez}{sh:Ctx}
def oX(op:BinOp)(a b:Nat)(other:Option V):Option V:=
 match op with
 | .add=>bif Nat.ble (Nat.add a b) 9223372036854775807 then some (.one (.p (.int .i64 (.ofNat (Nat.add a b))))) else other
 | .sub=>bif Nat.ble b a then bif Nat.ble a 9223372036854775807 then some (.one (.p (.int .i64 (.ofNat (Nat.sub a b))))) else other else other
 | .mul=>bif Nat.ble (Nat.mul a b) 9223372036854775807 then some (.one (.p (.int .i64 (.ofNat (Nat.mul a b))))) else other
 | .eql=>some (.one (.p (.bool (Nat.beq a b))))
 | .neq=>some (.one (.p (.bool (!Nat.beq a b))))
 | .lss=>some (.one (.p (.bool (Nat.ble (Nat.succ a) b))))
 | .leq=>some (.one (.p (.bool (Nat.ble a b))))
 | .gtr=>some (.one (.p (.bool (Nat.ble (Nat.succ b) a))))
 | .geq=>some (.one (.p (.bool (Nat.ble b a))))
 | .rem=>bif Nat.beq b 0 then other else some (.one (.p (.int .i64 (.ofNat (Nat.mod a b)))))
 |_=>other
def Rg(op:BinOp)(x y:V):Option V:=
 match x,y with
 | .one (.p (.int .i64 (.ofNat a))),.one (.p (.int .i64 (.ofNat b)))=>oX op a b (pJ op x y)
 |_,_=>pJ op x y
theorem qk{n:Nat}(h:n<=9223372036854775807):IntKind.i64.wrap (n:Int)=n:=by
 have e:(2 ^ IntKind.i64.bits:Int)=18446744073709551616:=by decide
 have e2:(2 ^ (IntKind.i64.bits-1):Int)=9223372036854775808:=by decide
 unfold IntKind.wrap;simp only[e,e2];have h1:(n:Int)%18446744073709551616=n:=by omega
 rw[h1];have h2:¬(n:Int)≥9223372036854775808:=by omega
 simp[h2]
theorem MX(op:BinOp)(a b:Nat):oX op a b (pJ op (.one (.p (.int .i64 (.ofNat a)))) (.one (.p (.int .i64 (.ofNat b)))))=pJ op (.one (.p (.int .i64 (.ofNat a)))) (.one (.p (.int .i64 (.ofNat b)))):=by
 have hb:∀ {x:Bool} {u v w:Option V},(x=true->u=w)->v=w->(bif x then u else v)=w:=by
  intro x u v w h1 h2;cases x with
  |false=>exact h2
  |true=>exact h1 rfl
 have ofn:∀n:Nat,(Int.ofNat n:Int)=(n:Int):=fun _=>rfl;have ble:∀ {a b:Nat},Nat.ble a b=decide ((a:Int)<=(b:Int)):=by
  intro a b;cases h:Nat.ble a b with
  |true=>have:=aaW h;symm;simp;omega
  |false=>
   symm;simp;have:¬a<=b:=fun hh=>by rw[Nat.ble_eq_true_of_le hh] at h;cases h
   omega
 have beq:∀ {a b:Nat},Nat.beq a b=((a:Int)==(b:Int)):=by
  intro a b;by_cases h:a=b
  .subst h;simp
  have h1:Nat.beq a b=false:=by
   cases e:Nat.beq a b with
   |false=>rfl
   |true=>exact(h (ab5 e)).elim
  rw[h1];symm;simp;omega
 cases op
 case add=>
  refine hb (fun h=>?_) rfl;have h:a+b<=9223372036854775807:=aaW h;have:((a:Int)+(b:Int))=((a+b:Nat):Int):=by omega
  simp only[pJ,ir,true_or,if_true,abx,ofn];rw[this,qk h];rfl
 case sub=>
  refine hb (fun h0=>hb (fun h=>?_) rfl) rfl;have h:=aaW h;have h0:=aaW h0;have:((a:Int)-(b:Int))=((a-b:Nat):Int):=by omega
  simp only[pJ,ir,true_or,if_true,abx,ofn];rw[this,qk (by omega)];rfl
 case mul=>
  refine hb (fun h=>?_) rfl;have h:a*b<=9223372036854775807:=aaW h;have:((a:Int)*(b:Int))=((a*b:Nat):Int):=by simp
  simp only[pJ,ir,true_or,if_true,abx,ofn];rw[this,qk h];rfl
 case rem=>
  by_cases h0:b=0
  .subst h0;rfl
  have h1:Nat.beq b 0=false:=by
   cases e:Nat.beq b 0 with
   |false=>rfl
   |true=>exact(h0 (ab5 e)).elim
  have h2:¬(b:Int)=0:=by omega
  simp only[oX,h1,cond_false,pJ,ir,true_or,if_true,abx,ofn,if_neg h2];rfl
 case eql=>simp only[oX,pJ,ir,true_or,if_true,abx,ofn,beq]
 case neq=>simp only[oX,pJ,ir,true_or,if_true,abx,ofn,beq];rfl
 case lss=>simp only[oX,pJ,ir,true_or,if_true,abx,ofn,ble];congr 4
 case leq=>simp only[oX,pJ,ir,true_or,if_true,abx,ofn,ble]
 case gtr=>simp only[oX,pJ,ir,true_or,if_true,abx,ofn,ble];congr 4
 case geq=>simp only[oX,pJ,ir,true_or,if_true,abx,ofn,ble]
 all_goals rfl
theorem Rf(op:BinOp)(x y:V):Rg op x y=pJ op x y:=by
 unfold Rg;split
 .exact MX _ _ _
 rfl
def Ep(v:V):Option Nat:=
 match v with
 | .one (.p (.int _ (.ofNat n)))=>some n
 |v=>A4 v
theorem Lb(v:V):Ep v=A4 v:=by
 unfold Ep;split
 .simp[A4]
 rfl
def nL(env:Env)(d:Nat):Option aC->Option Nat
 |none=>some d
 |some a=>Ep (ev env a)
theorem GU(env:Env)(d:Nat)(a:Option aC):nL env d a=eL env d a:=by
 cases a with
 |none=>rfl
 |some a=>simp only[nL,eL,Lb]
def OV(env:Env)(x:aC):d9:=.done (ev env x) [] []
def L7(env:Env)(c:aC)(a:aC)(b:aC):d9:=match ev env c with
  | .one (.p (.bool t))=>.done (if t then ev env a else ev env b) [] []
  |_=>.fail
def HW(blk:aw)(s:Nat)(z:List PV):d9:=.done (.one (.aam s ((blk s).1+1) 0)) [(s,((blk s).1+1,some (.var (z.map .p))))] [s]
def O0(env:Env)(blk:aw)(s:Nat)(x:aC):d9:=match gj (ev env x) with
  |some cs=>.done (.one (.aam s ((blk s).1+1) 0)) [(s,((blk s).1+1,some (.var cs)))] [s]
  |none=>.fail
def HV(env:Env)(z:List PV)(ps:List (Nat×Nat×aC)):d9:=match kB env ps with
  |some q=>.done (.agg (fill (z.map .p) q)) [] []
  |none=>.fail
def Fu(env:Env)(blk:aw)(s:Nat)(ty:Nat)(sz:Nat)(ps:List aC):d9:=match lX env sz ps with
  |some es=>match sH es with
   |some qs=>.done (.one (.hsl s ((blk s).1+1) sz 0 es.length)) [(s,((blk s).1+1,some (.arr ty sz qs)))] [s]
   |none=>.done (.one (.hsl s ((blk s).1+1) sz 0 es.length)) [(s,((blk s).1+1,some (.aaJ ty sz es)))] [s]
  |none=>.fail
def Mb(env:Env)(blk:aw)(k:Option Nat)(x:aC):d9:=match AW blk (ev env x) with
  |some (cs,r)=>match iz k cs with
   |some v=>.done v [] r
   |none=>.fail
  |none=>.fail
def HR(env:Env)(blk:aw)(n:Nat)(a:aC)(x:aC):d9:=match gj (ev env x) with
  |some xs=>xD blk (ev env a) n xs
  |none=>.fail
def Fs(env:Env)(x:aC):d9:=match ev env x with
  | .one (.aam id g o)=>.done (.one (.aam id g o)) [] []
  | .one (.hel id g i o)=>.done (.one (.hel id g i o)) [] []
  | .one (.p (.box cs))=>.done (.one (.p (.box cs))) [] []
  | .one (.hfn f a b)=>.done (.one (.hfn f a b)) [] []
  | .one (.p (.fn f a b))=>.done (.one (.p (.fn f a b))) [] []
  |_=>.fail
def Fv(env:Env)(op:BinOp)(x:aC)(y:aC):d9:=match Rg op (ev env x) (ev env y) with
  |some v=>.done v [] []
  |none=>.fail
def OZ(env:Env)(k:Lg)(neg:Bool)(x:aC)(y:aC):d9:=match Ut k (ev env x) (ev env y) with
  |some b=>.done (.one (.p (.bool (if neg then !b else b)))) [] []
  |none=>.fail
def To(env:Env)(op:UnOp)(x:aC):d9:=match op,ev env x with
  | .not,.one (.p (.bool b))=>.done (.one (.p (.bool (!b)))) [] []
  | .neg,.one (.p (.int k n))=>.done (.one (.p (.int k (k.wrap (0-n))))) [] []
  |_,_=>.fail
def Me(env:Env)(k:IntKind)(x:aC):d9:=match ev env x with
  | .one (.p (.int _ n))=>.done (.one (.p (.int k (k.wrap n)))) [] []
  |_=>.fail
def Mg(env:Env)(blk:aw)(x:aC):d9:=match aO blk (ev env x) with
  |some (es,r,[])=>match bytesOf es with
   |some bs=>.done (.one (.p (.str ⟨bs.toArray⟩))) [] r
   |none=>.fail
  |_=>.fail
def Ma(env:Env)(f:Nat)(a:List aC)(b:List aC):d9:=match ml env a,ml env b with
  |some x,some y=>.done (.one (.hfn f x y)) [] []
  |_,_=>.fail
def HS(blk:aw)(s:Nat)(ag:Bool):d9:=.done (.one (.aaT s ((blk s).1+1))) [(s,((blk s).1+1,some (.map ag [])))] [s]
def t6(env:Env)(blk:aw)(s:Nat)(ty:Nat)(sz:Nat)(bytes:Nat)(z:List PV)(l:aC)(c:aC):d9:=match Ep (ev env l),Ep (ev env c) with
  |some n,some m=>if n=m/\n*bytes<=room then
    .done (.one (.hsl s ((blk s).1+1) sz 0 n)) [(s,((blk s).1+1,some (.arr ty sz (List.replicate n z))))] [s]
   else .fail
  |_,_=>.fail
def yt(env:Env)(sz:Nat)(x:aC)(lo:Option aC)(hi:Option aC):d9:=match wY (ev env x) with
  |some n=>match nL env 0 lo,nL env n hi with
   |some l,some h=>gT (ev env x) sz l h
   |_,_=>.fail
  |none=>.fail
def wm(env:Env)(x:aC)(lo:Option aC)(hi:Option aC):d9:=match ev env x with
  | .one (.p (.str s))=>match nL env 0 lo,nL env s.size hi with
   |some l,some h=>if l<=h/\h<=s.size then .done (.one (.p (.str (s.extract l h)))) [] [] else .fail
   |_,_=>.fail
  |_=>.fail
def HT(env:Env)(off:Nat)(x:aC):d9:=match ev env x with
  | .one (.aam id g o)=>.done (.one (.aam id g (o+off))) [] []
  | .one (.hel id g i o)=>.done (.one (.hel id g i (o+off))) [] []
  | .one (.p (.box cs))=>.done (.one (.p (.box (cs.drop off)))) [] []
  |_=>.fail
def yu(env:Env)(sz:Nat)(x:aC)(i:aC):d9:=match Ep (ev env i),ev env x with
  |some n,.one (.p (.sl es))=>match es[n]? with
   |some e=>if e.length=sz then .done (.one (.p (.box e))) [] [] else .fail
   |none=>.fail
  |some n,.one (.hsl id g z off len)=>if n<len/\z=sz then .done (.one (.hel id g (off+n) 0)) [] [] else .fail
  |_,_=>.fail
def yw(env:Env)(len:Nat)(sz:Nat)(x:aC)(i:aC):d9:=match Ep (ev env i),ev env x with
  |some n,.one (.aam id g o)=>if n<len then .done (.one (.aam id g (o+n*sz))) [] [] else .fail
  |some n,.one (.hel id g j o)=>if n<len then .done (.one (.hel id g j (o+n*sz))) [] [] else .fail
  |some n,.one (.p (.box cs))=>if n<len then .done (.one (.p (.box (cs.drop (n*sz))))) [] [] else .fail
  |_,_=>.fail
def OY(env:Env)(off:Nat)(k:Option Nat)(x:aC):d9:=match ev env x with
  | .agg cs=>match iz k (cs.drop off) with
   |some v=>.done v [] []
   |none=>.fail
  |_=>.fail
def Bs(env:Env)(len:Nat)(sz:Nat)(k:Option Nat)(x:aC)(i:aC):d9:=match Ep (ev env i),ev env x with
  |some n,.agg cs=>if n<len then
    match iz k (cs.drop (n*sz)) with
    |some v=>.done v [] []
    |none=>.fail
   else .fail
  |_,_=>.fail
def Br(env:Env)(x:aC)(i:aC):d9:=match Ep (ev env i),ev env x with
  |some n,.one (.p (.str s))=>match s[n]? with
   |some b=>.done (.one (.p (.int .u8 b.toNat))) [] []
   |none=>.fail
  |_,_=>.fail
def Ft(env:Env)(blk:aw)(kd:Nat)(z:List PV)(agg:Bool)(ok:Bool)(x:aC)(k:aC):d9:=match mapOf blk agg (ev env x),ev env k with
  |some (es,r),.one (.p q)=>if dD q≠kd then .fail else match iG q es 0 with
   |some f=>match mapVal agg ((f.map (·.2)).getD z) with
    |some w=>.done (if ok then .tup [w,.one (.p (.bool f.isSome))] else w) [] r
    |none=>.fail
   |none=>.fail
  |_,_=>.fail
def O1:d9:=.fail
def L8(env:Env)(blk:aw)(kd:Nat)(ag:Bool)(m:aC)(k:aC)(v:aC):d9:=match ev env m,ev env k,iK ag (ev env v) with
  | .one (.aaT id g),.one (.p q),some cs=>match blk id,AS cs with
   |(g',some (.map ag' es)),some ps=>if g'=g/\ag'=ag/\dD q=kd then
     match iG q es 0 with
     |some (some (i,_))=>.done .undef [(id,(g,some (.map ag (es.set i (q,ps)))))] [id]
     |some none=>.done .undef [(id,(g,some (.map ag (es++[(q,ps)]))))] [id]
     |none=>.fail
    else .fail
   |_,_=>.fail
  |_,_,_=>.fail
def Du(env:Env)(x:aC)(i:Nat):d9:=match ev env x with
  | .tup vs=>match vs[i]? with
   |some v=>.done v [] []
   |none=>.fail
  |_=>.fail
def Mf(shared:Nat->Bool)(env:Env)(blk:aw)(s:Nat)(f:aC)(as:List aC):d9:=match Gh env f with
  |some (g,a,b)=>
   if shared g then .sc g (a.map .one++as.map (ev env)++b.map .one)
   else match mQ blk (a.map .one++as.map (ev env)++b.map .one) with
    |some (vs,r)=>.pc g vs r s
    |none=>.fail
  |none=>.fail
def L6(env:Env)(x:aC):d9:=match ev env x with
  | .one (.p (.str s))=>.done (.one (.p (.int .i64 s.size))) [] []
  |_=>.fail
def Mc(env:Env)(x:aC):d9:=match wY (ev env x) with
  |some n=>.done (.one (.p (.int .i64 n))) [] []
  |none=>.fail
def L9(env:Env)(blk:aw)(x:aC):d9:=match yL blk (ev env x) with
  |some (n,r)=>.done (.one (.p (.int .i64 n))) [] r
  |none=>.fail
def Fw(env:Env)(blk:aw)(s:Nat)(ty:Nat)(sz:Nat)(bytes:Nat)(d:aC)(x:aC):d9:=aF blk s ty sz bytes (ev env d) (ev env x)
def OX(env:Env)(x:aC)(y:aC):d9:=match ev env x,ev env y with
  | .one (.p (.int k a)),.one (.p (.int _ b))=>.done (.one (.p (.int k (if b>a then b else a)))) [] []
  |_,_=>.fail
def OW(env:Env)(x:aC)(y:aC):d9:=match ev env x,ev env y with
  | .one (.p (.int k a)),.one (.p (.int _ b))=>.done (.one (.p (.int k (if b<a then b else a)))) [] []
  |_,_=>.fail
def HU(env:Env)(blk:aw)(z:List PV)(x:aC):d9:=match ev env x with
  | .one (.p .nils)=>.done (.tup []) [] []
  | .one (.p (.sl []))=>.done (.tup []) [] []
  | .one (.hsl id g _ off len)=>if len=0 then .done (.tup []) [] [] else match blk id with
   |(g',some (.arr ty sz es))=>if g'=g/\sz=z.length/\off+len<=es.length then .done (.tup []) [(id,(g,some (.arr ty sz (aY es off (List.replicate len z)))))] [id] else .fail
   |_=>.fail
  |_=>.fail
def O3(shared:Nat->Bool)(env:Env)(blk:aw):vQ->d9
 | .mov x=>OV env x
 | .pick c a b=>L7 env c a b
 | .alloc s z=>HW blk s z
 | .box s x=>O0 env blk s x
 | .build z ps=>HV env z ps
 | .aaq s ty sz ps=>Fu env blk s ty sz ps
 | .load k x=>Mb env blk k x
 | .store n a x=>HR env blk n a x
 | .aa5 x=>Fs env x
 | .bin op x y=>Fv env op x y
 | .eqc k neg x y=>OZ env k neg x y
 | .un op x=>To env op x
 | .conv k x=>Me env k x
 | .bstr x=>Mg env blk x
 | .mkfn f a b=>Ma env f a b
 | .mkmap s ag=>HS blk s ag
 | .aaA s ty sz bytes z l c=>t6 env blk s ty sz bytes z l c
 | .slice sz x lo hi=>yt env sz x lo hi
 | .sslice x lo hi=>wm env x lo hi
 | .abr off x=>HT env off x
 | .aaU sz x i=>yu env sz x i
 | .abg len sz x i=>yw env len sz x i
 | .fld off k x=>OY env off k x
 | .aidx len sz k x i=>Bs env len sz k x i
 | .sidx x i=>Br env x i
 | .lookup kd z agg ok x k=>Ft env blk kd z agg ok x k
 | .bad=>O1
 | .mupd kd ag m k v=>L8 env blk kd ag m k v
 | .extract x i=>Du env x i
 | .call s f as=>Mf shared env blk s f as
 | .slen x=>L6 env x
 | .adr x=>Mc env x
 | .mlen x=>L9 env blk x
 | .append s ty sz bytes d x=>Fw env blk s ty sz bytes d x
 | .max x y=>OX env x y
 | .min x y=>OW env x y
 | .clear z x=>HU env blk z x
theorem O2(shared:Nat->Bool)(env:Env)(blk:aw)(o:vQ):O3 shared env blk o=aM shared env blk o:=by
 cases o<;>first
  |rfl
  |simp only[O3,aM,Fv,t6,yt,wm,yu,yw,Bs,Br,Rf,Lb,GU]<;>rfl
inductive Tr where
 |leaf
 |node (v:V) (l r:Tr)
noncomputable def Tr.get (t:Tr):Nat->V:=Tr.rec (motive:=fun _=>Nat->V) (fun _=>.undef) (fun v _ _ gl gr n=>bif Nat.beq n 0 then v else bif Nat.beq (Nat.mod n 2) 1 then gl (Nat.div n 2) else gr (Nat.sub (Nat.div n 2) 1)) t
noncomputable def Tr.single (k:Nat):Nat->V->Tr:=Nat.rec (motive:=fun _=>Nat->V->Tr) (fun _ _=>.leaf) (fun _ ih n x=>bif Nat.beq n 0 then .node x .leaf .leaf else bif Nat.beq (Nat.mod n 2) 1 then .node .undef (ih (Nat.div n 2) x) .leaf else .node .undef .leaf (ih (Nat.sub (Nat.div n 2) 1) x)) k
noncomputable def Tr.set (t:Tr):Nat->V->Tr:=Tr.rec (motive:=fun _=>Nat->V->Tr) (fun n x=>Tr.single 12 n x) (fun v l r sl sr n x=>bif Nat.beq n 0 then .node x l r else bif Nat.beq (Nat.mod n 2) 1 then .node v (sl (Nat.div n 2) x) r else .node v l (sr (Nat.sub (Nat.div n 2) 1) x)) t
theorem mq{a b:Nat}(h:a≠b):Nat.beq a b=false:=by
 cases e:Nat.beq a b with
 |false=>rfl
 |true=>exact(h (ab5 e)).elim
theorem Qq(n:Nat):Tr.leaf.get n=.undef:=rfl
theorem uv(v:V)(l r:Tr)(n:Nat):(Tr.node v l r).get n=if n=0 then v else if n%2=1 then l.get (n/2) else r.get (n/2-1):=by
 show(bif Nat.beq n 0 then v else bif Nat.beq (n%2) 1 then l.get (n/2) else r.get (n/2-1))=_;by_cases h0:n=0
 .subst h0;rfl
 rw[mq h0,if_neg h0];by_cases h1:n%2=1
 .rw[h1];rfl
 rw[mq h1,if_neg h1];rfl
theorem Bc(f:Tr->Tr)(g:Tr->Tr)(v:V)(l r:Tr)(n m:Nat)(x:V)(hl:n%2=1->(f l).get (m/2)=if m/2=n/2 then x else l.get (m/2))(hr:n≠0->n%2≠1->(g r).get (m/2-1)=if m/2-1=n/2-1 then x else r.get (m/2-1)):
  (bif Nat.beq n 0 then Tr.node x l r else bif Nat.beq (n%2) 1 then .node v (f l) r else .node v l (g r)).get m=if m=n then x else (Tr.node v l r).get m:=by
 by_cases h0:n=0
 .subst h0;simp only[Nat.beq_refl,cond_true,uv];by_cases hm:m=0<;>simp[hm]
 rw[mq h0];by_cases h1:n%2=1
 .rw[h1];simp only[cond_false,Nat.beq_refl,cond_true,uv];by_cases hm:m=0
  .subst hm;rw[if_pos rfl,if_neg (fun e=>h0 e.symm),if_pos rfl]
  rw[if_neg hm];by_cases hm1:m%2=1
  .rw[if_pos hm1,hl h1];by_cases he:m=n
   .subst he;simp
   rw[if_neg he,if_neg (by omega),if_neg hm,if_pos hm1]
  rw[if_neg hm1,if_neg (by omega),if_neg hm,if_neg hm1]
 rw[mq h1];simp only[cond_false,uv];by_cases hm:m=0
 .subst hm;rw[if_pos rfl,if_neg (fun e=>h0 e.symm),if_pos rfl]
 rw[if_neg hm];by_cases hm1:m%2=1
 .rw[if_pos hm1,if_neg (by omega),if_neg hm,if_pos hm1]
 rw[if_neg hm1,hr h0 h1];by_cases he:m=n
 .subst he;simp
 rw[if_neg he,if_neg (by omega),if_neg hm,if_neg hm1]
theorem HF:∀(k n m:Nat) (x:V),n+1<2 ^ k->(Tr.single k n x).get m=if m=n then x else Tr.leaf.get m:=by
 intro k
 induction k with
 |zero=>intro n m x h;simp at h
 |succ k ih=>
  intro n m x h;have hp:2 ^ (k+1)=2*2 ^ k:=by rw[Nat.pow_succ];omega
  have:=Bc (fun _=>Tr.single k (n/2) x) (fun _=>Tr.single k (n/2-1) x) .undef .leaf .leaf n m x (fun _=>ih _ _ _ (by omega)) (fun _ _=>ih _ _ _ (by omega));have e:(Tr.node .undef .leaf .leaf).get m=Tr.leaf.get m:=by rw[uv];simp[Qq]
  rw[e] at this;exact this
theorem Tr.Kv:∀(t:Tr) (n m:Nat) (x:V),n+1<2 ^ 12->(t.set n x).get m=if m=n then x else t.get m:=by
 intro t
 induction t with
 |leaf=>intro n m x h;exact HF 12 n m x h
 |node v l r ihl ihr=>intro n m x h;exact Bc (fun l=>l.set (n/2) x) (fun r=>r.set (n/2-1) x) v l r n m x (fun _=>ihl _ _ _ (by omega)) (fun _ _=>ihr _ _ _ (by omega))
abbrev BL:=List (Nat×(Nat×Option Ob))
noncomputable def MP (b:BL) (n:Nat):Nat×Option Ob:=List.rec (motive:=fun _=>Nat×Option Ob) (0,none) (fun p _ ih=>bif Nat.beq p.1 n then p.2 else ih) b
noncomputable def Ff:BL->Nat->Nat×Option Ob->BL
 |[],n,x=>[(n,x)]
 |(i,o)::r,n,x=>bif Nat.beq i n then (i,x)::r else (i,o)::Ff r n x
theorem Qr:∀(b:BL) (n:Nat) (x:Nat×Option Ob) (m:Nat),MP (Ff b n x) m=if m=n then x else MP b m:=by
 intro b
 induction b with
 |nil=>
  intro n x m;simp only[Ff,MP];by_cases h:m=n
  .subst h;simp
  have:Nat.beq n m=false:=mq fun e=>h e.symm;simp[this,h]
 |cons p b ih=>
  obtain⟨i,o⟩:=p;intro n x m;simp only[Ff];by_cases h:i=n
  .subst h;simp only[Nat.beq_refl,cond_true,MP];by_cases hm:m=i
   .subst hm;simp
   have:Nat.beq i m=false:=mq fun e=>hm e.symm;simp[this,hm]
  have:Nat.beq i n=false:=mq h;simp only[this,cond_false,MP];by_cases hm:i=m
  .subst hm;simp[h]
  have:Nat.beq i m=false:=mq hm;simp only[this,cond_false];exact ih n x m
noncomputable def mO (t:Tr):Env:=fun i=>t.get i
noncomputable def jB (b:BL):aw:=fun i=>MP b i
noncomputable def Lq:Nat->List V->Tr->Tr
 |_,[],t=>t
 |i,a::r,t=>Lq (i+1) r (t.set i a)
theorem NT:∀(l:List V) (i:Nat) (t:Tr) (m:Nat),i+l.length<4095->(Lq i l t).get m=if i<=m/\m<i+l.length then l.getD (m-i) .undef else t.get m:=by
 intro l
 induction l with
 |nil=>intro i t m _;simp[Lq];intro h1 h2;omega
 |cons a r ih=>
  intro i t m h;simp only[aaz] at h ⊢;rw[Lq,ih (i+1) _ m (by omega),Tr.Kv t i m a (by omega)];by_cases h1:m=i
  .subst h1;rw[if_neg (by omega),if_pos rfl,if_pos (by omega)];simp
  rw[if_neg h1];by_cases h2:i+1<=m/\m<i+1+r.length
  .rw[if_pos h2,if_pos (by omega)];obtain⟨k,rfl⟩:∃k,m=i+1+k:=⟨m-(i+1),by omega⟩;rw[show i+1+k-(i+1)=k by omega,show i+1+k-i=k+1 by omega];simp
  rw[if_neg h2,if_neg (by omega)]
theorem NV(h:args.length<4095):mO (Lq 0 args .leaf)=qd args:=by
 funext m;unfold mO qd;rw[NT args 0 .leaf m (by omega)];by_cases hm:m<args.length
 .rw[if_pos (by omega)];rfl
 rw[if_neg (by omega)];simp[Tr.get,List.getD,abS (Nat.le_of_not_lt hm)]
noncomputable def NI {α:Type} (n:Nat) (k:Nat->α):α:=match n with
 |0=>k 0
 |m+1=>k (m+1)
noncomputable def NJ {α:Type} (z:Int) (k:Int->α):α:=match z with
 | .ofNat n=>NI n fun n=>k (.ofNat n)
 | .negSucc n=>NI n fun n=>k (.negSucc n)
noncomputable def NH {α:Type} (v:V) (k:V->α):α:=match v with
 | .one (.p (.int t z))=>NJ z fun z=>k (.one (.p (.int t z)))
 | .one (.p (.bool b))=>match b with
  |true=>k (.one (.p (.bool true)))
  |false=>k (.one (.p (.bool false)))
 |v=>k v
@[simp] theorem Yl {α:Type} (n:Nat) (k:Nat->α):NI n k=k n:=by cases n<;>rfl
@[simp] theorem Ym {α:Type} (z:Int) (k:Int->α):NJ z k=k z:=by cases z<;>simp[NJ]
@[simp] theorem NG {α:Type} (v:V) (k:V->α):NH v k=k v:=by
 unfold NH;split
 .simp
 .split<;>rfl
 rfl
def TA(al:Al)(l:List Nat):Bool:=bif al.any then true else al.kY l
theorem Tz(al:Al)(l:List Nat):TA al l=al.kY l:=by
 unfold TA;cases h:al.any with
 |false=>rfl
 |true=>simp[Al.kY,Al.ok,h]
abbrev fj:=Nat->List V->Al->BL->Option (V×BL)
noncomputable def Ru:List jS->BL->BL
 |[],b=>b
 |(i,o)::r,b=>Ru r (Ff b i o)
theorem Jy:∀(u:List jS) (b:BL),jB (Ru u b)=app u (jB b):=by
 intro u
 induction u with
 |nil=>intro b;rfl
 |cons x u ih=>obtain⟨i,o⟩:=x;intro b;simp only[Ru,app];rw[ih];congr 1;funext m;exact Qr b i o m
noncomputable def L3 (t:Tr) (d:Option Nat) (v:V) (k:Tr->Option (Tr×BL×dR)):Option (Tr×BL×dR):=match d with
 |none=>k t
 |some n=>bif Nat.ble n 4000 then NH v fun v=>k (t.set n v) else none
noncomputable def JD (sh:Ctx) (cp:cN) (cs:fj) (o:aj) (t:Tr) (b:BL):Option (Tr×BL×dR):=
 match wanted (mO t) o.guard with
 |none=>none
 |some false=>L3 t o.dst .undef fun t'=>some (t',b,⟨[],[],[]⟩)
 |some true=>match O3 sh.shared (mO t) (jB b) o.op with
  | .fail=>none
  | .done v u r=>bif TA sh.al (r++u.map (·.1)) then L3 t o.dst v fun t'=>some (t',Ru u b,⟨r,u.map (·.1),[]⟩) else none
  | .pc f vs r s=>match cp f vs with
   |some x=>match land (jB b) r s (x.bn (sh.lone s)) with
    |some (v,u)=>bif TA sh.al (r++u.map (·.1)) then L3 t o.dst v fun t'=>some (t',Ru u b,⟨r++u.map (·.1),u.map (·.1),[]⟩) else none
    |none=>none
   |none=>none
  | .sc f vs=>match allow sh f vs (jB b) with
   |al=>bif sh.al.holds al then
     match cs f vs al b with
     |some (v,b')=>L3 t o.dst v fun t'=>some (t',b',⟨al.ids,al.ids,al.fs⟩)
     |none=>none
    else none
noncomputable def Nv (cs:ez) (cf:fj):Prop:=∀f vs al b v b',cf f vs al b=some (v,b')->cs f vs al (jB b)=some (v,jB b')
theorem xf{t t':Tr}{d:Option Nat}{v:V}{b b':BL}{e e':dR}(h:L3 t d v (fun t'=>some (t',b,e))=some (t',b',e')):put (mO t) d v=mO t'/\b=b'/\e=e':=by
 unfold L3 at h;split at h
 .cases h;exact⟨rfl,rfl,rfl⟩
 rename_i n;cases hn:Nat.ble n 4000 with
 |false=>rw[hn] at h;cases h
 |true=>rw[hn] at h;simp only[cond_true,NG] at h;cases h;refine⟨?_,rfl,rfl⟩;have:=aaW hn;funext m;unfold mO put;exact(Tr.Kv t n m v (by omega)).symm
theorem Oa{cf:fj}(hs:Nv cs cf){o:aj}{t t':Tr}{b b':BL}{e:dR}(h:JD sh cp cf o t b=some (t',b',e)):step1 sh cp cs o (mO t) (jB b)=some (mO t',jB b',e):=by
 unfold JD at h;simp only[O2,Tz] at h;unfold step1;split at h
 .cases h
 .rename_i hw;rw[hw];obtain⟨h1,rfl,rfl⟩:=xf h;simp only[h1]
 rename_i hw;rw[hw];simp only;split at h
 .cases h
 .rename_i v u r hp;cases hok:sh.al.kY (r++u.map (·.1)) with
  |false=>rw[hok] at h;cases h
  |true=>rw[hok] at h;obtain⟨h1,rfl,rfl⟩:=xf h;simp only[hp,hok,if_true,h1,Jy]
 .rename_i f vs r s hp;split at h
  .rename_i x hx;split at h
   .rename_i v u hl;cases hok:sh.al.kY (r++u.map (·.1)) with
    |false=>rw[hok] at h;cases h
    |true=>rw[hok] at h;obtain⟨h1,rfl,rfl⟩:=xf h;simp only[hp,hx,hl,hok,if_true,h1,Jy]
   cases h
  cases h
 rename_i f vs hp;cases hok:sh.al.holds (allow sh f vs (jB b)) with
 |false=>rw[hok] at h;cases h
 |true=>
  rw[hok] at h;simp only[cond_true] at h;split at h
  .rename_i v b1 hc;obtain⟨h1,rfl,rfl⟩:=xf h;simp only[hp,hok,if_true,hs _ _ _ _ _ _ hc,h1]
  cases h
noncomputable def Wy (sh:Ctx) (cp:cN) (cs:fj) (o:aj) (ih:Tr->BL->Option (Tr×BL×List dR)) (env:Tr) (blk:BL):Option (Tr×BL×List dR):=
 match JD sh cp cs o env blk with
 |some (aah,aaf,e)=>match ih aah aaf with
  |some (aes,ado,es)=>some (aes,ado,e::es)
  |none=>none
 |none=>none
noncomputable def uX (sh:Ctx) (cp:cN) (cs:fj) (l:List aj):Tr->BL->Option (Tr×BL×List dR):=List.rec (motive:=fun _=>Tr->BL->Option (Tr×BL×List dR)) (fun env blk=>some (env,blk,[])) (fun o _ ih=>Wy sh cp cs o ih) l
theorem HB(sh:Ctx)(cp:cN)(cs:fj)(env:Tr)(blk:BL):uX sh cp cs [] env blk=some (env,blk,[]):=rfl
theorem ES(sh:Ctx)(cp:cN)(cs:fj)(o:aj)(r:List aj)(env:Tr)(blk:BL):uX sh cp cs (o::r) env blk=match JD sh cp cs o env blk with
  |some (aah,aaf,e)=>match uX sh cp cs r aah aaf with
   |some (aes,ado,es)=>some (aes,ado,e::es)
   |none=>none
  |none=>none:=rfl
theorem Lx{cf:fj}(hs:Nv cs cf):∀ {ops:List aj} {t t':Tr} {b b':BL} {es:List dR},uX sh cp cf ops t b=some (t',b',es)->steps sh cp cs ops (mO t) (jB b)=some (mO t',jB b',es):=by
 intro ops
 induction ops with
 |nil=>intro t t' b b' es h;simp only[HB,aaV,abe] at h;obtain⟨rfl,rfl,rfl⟩:=h;rfl
 |cons o r ih=>
  intro t t' b b' es h;simp only[ES] at h;split at h
  .rename_i t1 b1 e1 h1;split at h
   .rename_i t2 b2 es2 h2;cases h;simp only[steps,Oa hs h1,ih h2]
   cases h
  cases h
noncomputable def FW (f:Tr->BL->Option (fK×Tr×BL)) (n:Nat):Tr->BL->Option (fK×Tr×BL):=
 Nat.rec (motive:=fun _=>Tr->BL->Option (fK×Tr×BL)) (fun _ _=>none) (fun _ ih env blk=>match f env blk with
  |some (.normal,aah,aaf)=>ih aah aaf
  |r=>r) n
theorem Iu(f:Tr->BL->Option (fK×Tr×BL))(n:Nat)(env:Tr)(blk:BL):FW f (n+1) env blk=match f env blk with
  |some (.normal,aah,aaf)=>FW f n aah aaf
  |r=>r:=rfl
abbrev Ex:=Tr->BL->Option (fK×Tr×BL)
noncomputable def QF (sh:Ctx) (cp:cN) (cs:fj) (d:Bool) (ops:List aj):Ex:=fun env blk=>match uX sh cp cs ops env blk with
  |some (aah,aaf,es)=>bif d then (bif ig ops [] es then some (.normal,aah,aaf) else none) else some (.normal,aah,aaf)
  |none=>none
noncomputable def ZA (a b:Ex):Ex:=fun env blk=>match a env blk with
  |some (.normal,aah,aaf)=>b aah aaf
  |r=>r
noncomputable def Xu (x:aC) (a b:Ex):Ex:=fun env blk=>match ev (mO env) x with
  | .one (.p (.bool t))=>bif t then a env blk else b env blk
  |_=>none
noncomputable def Up (id:Nat) (c:Ex):Ex:=fun env blk=>match c env blk with
  |some (.exit i,aah,aaf)=>bif Nat.beq i id then some (.normal,aah,aaf) else some (.exit i,aah,aaf)
  |r=>r
noncomputable def kU (sh:Ctx) (cp:cN) (cs:fj) (n:Nat) (c:am):Ex:=
 am.rec (motive:=fun _=>Ex) (fun env blk=>some (.normal,env,blk)) (fun d ops=>QF sh cp cs d ops) (fun _ _ a b=>ZA a b) (fun x _ _ a b=>Xu x a b)
  (fun id _ c=>Up id c) (fun _ c=>FW c n) (fun id env blk=>some (.exit id,env,blk)) (fun env blk=>some (.ret,env,blk)) (fun _ _=>none) c
section
variable (sh:Ctx) (cp:cN) (cs:fj) (n:Nat) (env:Tr) (blk:BL)
theorem IR:kU sh cp cs n .skip env blk=some (.normal,env,blk):=rfl
theorem IT(id:Nat):kU sh cp cs n (.exit id) env blk=some (.exit id,env,blk):=rfl
theorem MZ:kU sh cp cs n .ret env blk=some (.ret,env,blk):=rfl
theorem DZ(d:Bool)(ops:List aj):kU sh cp cs n (.region d ops) env blk=match uX sh cp cs ops env blk with
  |some (aah,aaf,es)=>bif d then (bif ig ops [] es then some (.normal,aah,aaf) else none) else some (.normal,aah,aaf)
  |none=>none:=rfl
theorem MY(a b:am):kU sh cp cs n (.seq a b) env blk=match kU sh cp cs n a env blk with
  |some (.normal,aah,aaf)=>kU sh cp cs n b aah aaf
  |r=>r:=rfl
theorem IU(x:aC)(a b:am):kU sh cp cs n (.cond x a b) env blk=match ev (mO env) x with
  | .one (.p (.bool t))=>bif t then kU sh cp cs n a env blk else kU sh cp cs n b env blk
  |_=>none:=rfl
theorem Gu(id:Nat)(c:am):kU sh cp cs n (.block id c) env blk=match kU sh cp cs n c env blk with
  |some (.exit i,aah,aaf)=>bif Nat.beq i id then some (.normal,aah,aaf) else some (.exit i,aah,aaf)
  |r=>r:=rfl
theorem IS(c:am):kU sh cp cs n (.loop c) env blk=FW (kU sh cp cs n c) n env blk:=rfl
end
theorem Qb{f:Tr->BL->Option (fK×Tr×BL)}{g:Env->aw->Option (fK×Env×aw)}(hfg:∀t b e t' b',f t b=some (e,t',b')->g (mO t) (jB b)=some (e,mO t',jB b')):
  ∀(n:Nat) {t t':Tr} {b b':BL} {e:fK},FW f n t b=some (e,t',b')->iter g n (mO t) (jB b)=some (e,mO t',jB b'):=by
 intro n
 induction n with
 |zero=>intro t t' b b' e h;cases h
 |succ n ih=>
  intro t t' b b' e h;simp only[Iu] at h;simp only[iter];split at h
  .rename_i t1 b1 h1;rw[hfg _ _ _ _ _ h1];exact ih h
  rename_i hne;rw[hfg _ _ _ _ _ h];cases e with
  |normal=>exact(hne _ _ h).elim
  |exit i=>rfl
  |ret=>rfl
theorem Gt{cf:fj}(hs:Nv cs cf){n:Nat}:∀(c:am) {t t':Tr} {b b':BL} {e:fK},kU sh cp cf n c t b=some (e,t',b')->exec sh cp cs n c (mO t) (jB b)=some (e,mO t',jB b'):=by
 intro c
 induction c with
 |skip=>intro t t' b b' e h;simp only[IR,aaV,abe] at h;obtain⟨rfl,rfl,rfl⟩:=h;rfl
 |exit id=>intro t t' b b' e h;simp only[IT,aaV,abe] at h;obtain⟨rfl,rfl,rfl⟩:=h;rfl
 |ret=>intro t t' b b' e h;simp only[MZ,aaV,abe] at h;obtain⟨rfl,rfl,rfl⟩:=h;rfl
 |bad=>intro t t' b b' e h;cases h
 |region d ops=>
  intro t t' b b' e h;simp only[DZ] at h;simp only[exec];split at h
  .rename_i t1 b1 es h1;rw[Lx hs h1];simp only;cases d with
   |false=>simp only[cond_false] at h;cases h;simp
   |true=>
    simp only[cond_true] at h;cases hd:ig ops [] es with
    |false=>rw[hd] at h;cases h
    |true=>rw[hd] at h;simp only[cond_true] at h;cases h;simp
  cases h
 |seq x y ihx ihy=>
  intro t t' b b' e h;simp only[MY] at h;simp only[exec];split at h
  .rename_i t1 b1 h1;rw[ihx h1];exact ihy h
  rename_i hne;rw[ihx h];cases e with
  |normal=>exact(hne _ _ h).elim
  |exit i=>rfl
  |ret=>rfl
 |cond x p q ihp ihq=>
  intro t t' b b' e h;simp only[IU] at h;simp only[exec];split at h
  .rename_i tt ht;rw[ht];cases tt with
   |true=>simp only[cond_true] at h;simpa using ihp h
   |false=>simp only[cond_false] at h;simpa using ihq h
  cases h
 |block id c ih=>
  intro t t' b b' e h;simp only[Gu] at h;simp only[exec];split at h
  .rename_i i t1 b1 h1;rw[ih h1];simp only;cases hi:Nat.beq i id with
   |true=>rw[hi] at h;simp only[cond_true] at h;cases h;rw[if_pos (ab5 hi)]
   |false=>rw[hi] at h;simp only[cond_false] at h;cases h;rw[if_neg];intro hh;rw[hh,Nat.beq_refl] at hi;cases hi
  rename_i hne;rw[ih h];cases e with
  |normal=>rfl
  |exit i=>exact(hne _ _ _ h).elim
  |ret=>rfl
 |loop c ih=>intro t t' b b' e h;simp only[IS] at h;simp only[exec];exact Qb (fun _ _ _ _ _ h=>ih h) n h
noncomputable def yg (sh:Ctx) (cp:cN) (cs:fj) (n:Nat) (fn:cX) (args:List V) (blk:BL):Option (V×BL):=
 bif Nat.ble args.length 4000 then
  match kU sh cp cs n fn.body (Lq 0 args .leaf) blk with
  |some (.normal,env,aaf)=>(cT sh.al (mO env) (jB aaf) fn.results).map fun vs=>(xN vs,aaf)
  |some (.ret,env,aaf)=>(cT sh.al (mO env) (jB aaf) fn.results).map fun vs=>(xN vs,aaf)
  |_=>none
 else none
theorem OD{cf:fj}(hs:Nv cs cf){n:Nat}{fn:cX}{b b':BL}{v:V}(h:yg sh cp cf n fn args b=some (v,b')):n9 sh cp cs n fn args (jB b)=some (v,jB b'):=by
 unfold yg at h;unfold n9;cases hl:Nat.ble args.length 4000 with
 |false=>rw[hl] at h;cases h
 |true=>
  rw[hl] at h;simp only[cond_true] at h;have:=aaW hl;rw[<- NV (by omega)];split at h
  .rename_i env b1 hx;rw[Gt hs _ hx];simp only[aaD] at h ⊢;obtain⟨vs,h1,h2⟩:=h;cases h2;exact⟨vs,h1,rfl⟩
  .rename_i env b1 hx;rw[Gt hs _ hx];simp only[aaD] at h ⊢;obtain⟨vs,h1,h2⟩:=h;cases h2;exact⟨vs,h1,rfl⟩
  cases h
noncomputable def XI (S:Sys) (n:Nat) (cp:cN) (cs:fj):cN:=fun f args=>match S.prim f args with
  |some r=>r
  |none=>match S.fns f with
   |some fn=>bif Nat.ble args.length fn.ntmps then
     match yg (S.ctx .all) cp cs n fn args [] with
     |some (v,b)=>fH (jB b) v
     |none=>none
    else none
   |none=>none
noncomputable def XH (S:Sys) (n:Nat) (cp:cN) (cs:fj):fj:=fun f args al b=>match S.fns f with
  |some fn=>bif Nat.ble args.length fn.ntmps then yg (S.ctx al) cp cs n fn args b else none
  |none=>none
noncomputable def We (S:Sys) (n:Nat):cN×fj:=Nat.rec (motive:=fun _=>cN×fj) (fun _ _=>none,fun _ _ _ _=>none) (fun n ih=>(XI S n ih.1 ih.2,XH S n ih.1 ih.2)) n
noncomputable def tC (S:Sys) (n:Nat):cN:=(We S n).1
noncomputable def mY (S:Sys) (n:Nat):fj:=(We S n).2
theorem GS(S:Sys)(n f:Nat)(args:List V):tC S (n+1) f args=match S.prim f args with
  |some r=>r
  |none=>match S.fns f with
   |some fn=>bif Nat.ble args.length fn.ntmps then
     match yg (S.ctx .all) (tC S n) (mY S n) n fn args [] with
     |some (v,b)=>fH (jB b) v
     |none=>none
    else none
   |none=>none:=rfl
theorem GR(S:Sys)(n f:Nat)(args:List V)(al:Al)(b:BL):mY S (n+1) f args al b=match S.fns f with
  |some fn=>bif Nat.ble args.length fn.ntmps then yg (S.ctx al) (tC S n) (mY S n) n fn args b else none
  |none=>none:=rfl
theorem Fh{cp':cN}(hp:Yi cp cp'){cf:fj}(hs:Nv cs cf){n:Nat}{fn:cX}{b b':BL}{v:V}(h:yg sh cp cf n fn args b=some (v,b')):n9 sh cp' cs n fn args (jB b)=some (v,jB b'):=rH hp (fun _ _ _ _ _ h=>h) (aaj _) (OD hs h)
theorem Ad(S:Sys):∀n,Yi (tC S n) (de S n)/\Nv (dq S n) (mY S n):=by
 intro n
 induction n with
 |zero=>have h1:∀f x,tC S 0 f x=none:=fun _ _=>rfl;have h2:∀f vs al b,mY S 0 f vs al b=none:=fun _ _ _ _=>rfl;exact⟨fun f x r h=>(by rw[h1] at h;cases h),fun f vs al b v b' h=>(by rw[h2] at h;cases h)⟩
 |succ n ih=>
  obtain⟨hp,hs⟩:=ih;refine⟨fun f x r h=>?_,fun f vs al b v b' h=>?_⟩
  .rw[GS] at h;rw[de];split at h
   .rename_i r' hpr;simp only[hpr];exact h
   rename_i hpr;simp only[hpr];split at h
   .rename_i fn hfn;simp only[hfn];cases hl:Nat.ble x.length fn.ntmps with
    |false=>rw[hl] at h;cases h
    |true=>
     rw[hl] at h;simp only[cond_true] at h;rw[if_pos (aaW hl)];split at h
     .rename_i v b hr;unfold Fi;have:qG=jB []:=rfl;rw[this,Fh hp hs hr];exact h
     cases h
   cases h
  rw[GR] at h;rw[dq];split at h
  .rename_i fn hfn;simp only[hfn];cases hl:Nat.ble vs.length fn.ntmps with
   |false=>rw[hl] at h;cases h
   |true=>rw[hl] at h;simp only[cond_true] at h;rw[if_pos (aaW hl)];exact Fh hp hs h
  cases h
def Am{α:Type}(f:α->α->Bool):List α->List α->Bool
 |[],[]=>true
 |a::r,b::s=>f a b&&Am f r s
 |_,_=>false
theorem pP{α:Type}{f:α->α->Bool}(hf:∀a b,f a b=true->a=b):∀ {l m:List α},Am f l m=true->l=m:=by
 intro l
 induction l with
 |nil=>intro m h;cases m with
  |nil=>rfl
  |cons b m=>cases h
 |cons a l ih=>
  intro m h;cases m with
  |nil=>cases h
  |cons b m=>simp only[Am,aay] at h;rw[hf _ _ h.1,ih h.2]
def Xy:IntKind->IntKind->Bool
 | .i64,.i64=>true
 |a,b=>decide (a=b)
theorem Uu{a b:IntKind}(h:Xy a b=true):a=b:=by
 cases a<;>cases b<;>first
  |rfl
  |(simp[Xy] at h)
def Xx:Nat->PV->PV->Bool
 |0,_,_=>false
 |_+1,.int k a,.int k' b=>Xy k k'&&a==b
 |_+1,.bool a,.bool b=>a==b
 |n+1,.sl a,.sl b=>Am (Am (Xx n)) a b
 |n+1,.box a,.box b=>Am (Xx n) a b
 |n+1,.fn f a b,.fn g c d=>Nat.beq f g&&(Am (Xx n) a c&&Am (Xx n) b d)
 |_+1,.nils,.nils=>true
 |_+1,.abN,.abN=>true
 |_+1,_,_=>false
theorem Xw:∀(n:Nat) (x y:PV),Xx n x y=true->x=y:=by
 intro n
 induction n with
 |zero=>intro x y h;cases h
 |succ n ih=>
  intro x y h;unfold Xx at h;split at h
  .rename_i h0;cases h0
  .rename_i h0;cases h0;simp only[aay,beq_iff_eq] at h;rw[Uu h.1,h.2]
  .rename_i h0;cases h0;simp only[beq_iff_eq] at h;rw[h]
  .rename_i h0;cases h0;rw[pP (fun _ _ h=>pP ih h) h]
  .rename_i h0;cases h0;rw[pP ih h]
  .rename_i h0;cases h0;simp only[aay] at h;rw[ab5 h.1,pP ih h.2.1,pP ih h.2.2]
  .rfl
  .rfl
  cases h
def Uv:C->C->Bool
 | .p a,.p b=>Xx 12 a b
 |_,_=>false
theorem KK{a b:C}(h:Uv a b=true):a=b:=by
 unfold Uv at h;split at h
 .rw[Xw _ _ _ h]
 cases h
def Ur:V->V->Bool
 | .one a,.one b=>Uv a b
 | .agg a,.agg b=>Am Uv a b
 |_,_=>false
theorem Uq{a b:V}(h:Ur a b=true):a=b:=by
 unfold Ur at h;split at h
 .rw[KK h]
 .rw[pP (fun _ _ h=>KK h) h]
 cases h
abbrev iu:=List (Nat×List V×RV)
def FQ:iu->Nat->List V->Option RV
 |[],_,_=>none
 |(f,a,r)::l,g,b=>bif Nat.beq f g&&Am Ur a b then some r else FQ l g b
theorem Mx:∀ {l:iu} {f:Nat} {a:List V} {r:RV},FQ l f a=some r->(f,a,r)∈l:=by
 intro l
 induction l with
 |nil=>intro f a r h;cases h
 |cons e l ih=>
  obtain⟨g,b,s⟩:=e;intro f a r h;simp only[FQ] at h;cases hb:(Nat.beq g f&&Am Ur b a) with
  |true=>rw[hb] at h;simp only[cond_true,aaV] at h;simp only[aay] at hb;rw[ab5 hb.1,pP (fun _ _ h=>Uq h) hb.2,h];simp
  |false=>rw[hb] at h;exact acI _ (ih h)
def Sys.yG(S:Sys)(l:iu):Sys:={S with prim:=fun f a=>match FQ l f a with
 |some r=>some (some r)
 |none=>S.prim f a}
def cQ(S:Sys)(l:iu):Prop:=∀e∈l,aP S e.1 e.2.1 e.2.2
theorem cQ.nil{S:Sys}:cQ S []:=fun e h=>by simp at h
theorem cQ.cons{S:Sys}{l:iu}{f:Nat}{a:List V}{r:RV}(h:aP S f a r)(hl:cQ S l):cQ S ((f,a,r)::l):=fun e he=>by
 rcases aat.1 he with rfl|he
 .exact h
 exact hl e he
theorem cQ.bound{S:Sys}:∀ {l:iu},cQ S l->∃M,∀e∈l,de S M e.1 e.2.1=some e.2.2:=by
 intro l
 induction l with
 |nil=>intro _;exact⟨0,fun e h=>by simp at h⟩
 |cons e l ih=>
  intro h;obtain⟨M,hM⟩:=ih fun x hx=>h x (by simp[hx]);obtain⟨n,hn⟩:=h e (by simp);refine⟨max M n,fun x hx=>?_⟩;rcases aat.1 hx with rfl|hx
  .exact kh S (adb M n) _ _ _ hn
  exact kh S (ac5 M n) _ _ _ (hM x hx)
theorem TN{S:Sys}{l:iu}{M:Nat}(hM:∀e∈l,de S M e.1 e.2.1=some e.2.2):∀n,Yi (de (S.yG l) n) (de S (n+M))/\SLe (dq (S.yG l) n) (dq S (n+M)):=by
 intro n
 induction n with
 |zero=>exact⟨fun f x r h=>by simp[de] at h,fun f x l k r h=>by simp[dq] at h⟩
 |succ n ih=>
  have e1:n+1+M=(n+M)+1:=by omega
  have hc:∀al,(S.yG l).ctx al=S.ctx al:=fun _=>rfl;refine⟨fun f x r h=>?_,fun f x al k r h=>?_⟩
  .rw[de] at h;cases hl:FQ l f x with
   |some r'=>
    have hp:(S.yG l).prim f x=some (some r'):=by simp only[Sys.yG,hl]
    rw[hp] at h;cases h;exact kh S (by omega) _ _ _ (hM _ (Mx hl))
   |none=>
    have hp:(S.yG l).prim f x=S.prim f x:=by simp only[Sys.yG,hl]
    rw[hp] at h;rw[e1,de];split at h
    .exact h
    have hfn:(S.yG l).fns f=S.fns f:=rfl;rw[hfn] at h;split at h
    .rename_i fn hf;split at h
     .rename_i hlen;rw[if_pos hlen];rw[hc] at h;exact Bl ih.1 ih.2 (by omega) h
     cases h
    cases h
  rw[dq] at h;rw[e1,dq];have hfn:(S.yG l).fns f=S.fns f:=rfl;rw[hfn] at h;split at h
  .rename_i fn hf;split at h
   .rename_i hlen;rw[if_pos hlen];rw[hc] at h;exact rH ih.1 ih.2 (by omega) h
   cases h
  cases h
theorem cn{S:Sys}{l:iu}(hl:cQ S l)(n:Nat){f:Nat}{r:RV}(h:tC (S.yG l) n f args=some r):aP S f args r:=by obtain⟨M,hM⟩:=hl.bound;exact⟨n+M,(TN hM n).1 _ _ _ ((Ad (S.yG l) n).1 _ _ _ h)⟩
inductive Fits {H:Type} (N:Nat):DataW H->Prop where
 |str (s:List UInt8) (h:s.length<=N):Fits N (.lit (.string s))
 |lit (l:Lit) (h:∀s,l≠ .string s):Fits N (.lit l)
 |nil:Fits N .nil
 |slice (es sp:List (DataW H)) (h:es.length<=N) (he:∀d∈es,Fits N d):Fits N (.slice es sp)
 |agg (es:List (DataW H)) (he:∀d∈es,Fits N d):Fits N (.agg es)
def iO(P:Program)(N:Nat):Nat->TypeId->List PV->Prop
 |0,_,_=>False
 |n+1,t,ps=>match P.underlying t with
  |some .bool=>∃b,ps=[.bool b]
  |some (.int k)=>∃z,ps=[.int k z]/\(Lit.int k z).wf=true
  |some .string=>∃s:ByteArray,ps=[.str s]/\s.size<=N
  |some (.slice e)=>∃es,ps=[.sl es]/\es.length<=N/\ ∀x∈es,iO P N n e x
  |some (.struct fs)=>∃parts:List (List PV),ps=parts.flatten/\parts.length=fs.toList.length/\ ∀(i:Nat) (f:Field) (x:List PV),fs.toList[i]?=some f->parts[i]?=some x->iO P N n f.type x
  |_=>False
def lZ(P:Program):Nat->Nat->List Field->Bool
 |off,total,[]=>Nat.beq off total
 |off,total,f::r=>Nat.beq f.offset off&&lZ P (off+P.cellsOf f.type) total r
def iB(P:Program):Nat->TypeId->Bool
 |0,_=>false
 |n+1,t=>match P.underlying t with
  |some .bool|some (.int _)|some .string=>true
  |some (.slice e)=>Nat.blt 0 (P.cellsOf e)&&iB P n e
  |some (.struct fs)=>lZ P 0 (P.cellsOf t) fs.toList&&fs.toList.all fun f=>iB P n f.type
  |_=>false
section
variable {H:Type} {enc:TypeId×Value->H} {P:Program} {w:World} {base:Nat} {sp:Nat->Bool} {held:Bool} {N:Nat}
theorem aR.append{w:World}{own:Nat->Prop}{xs ys:List PV}{vs us:List Value}(h:aR w own xs vs)(k:aR w own ys us):aR w own (xs++ys) (vs++us):=Pw.append (R:=aZ w own) h k
theorem wR{w:World}{base:Nat}{a:Addr}{n:Nat}{cs:List Value}(h:w.cells? base a n=some cs):cs.length=n/\ ∀i,i<n->a.add i=⟨a.block,a.off+i,none⟩/\w.cell? ⟨a.block,a.off+i,none⟩=cs[i]? :=by
 unfold World.cells? at h;split at h
 .have hl:=mapM_some_length h;simp at hl;refine⟨hl,fun i hi=>?_⟩;have hg:=mapM_some_get h i i (by simp[hi]);have hlt:i<cs.length:=by omega
  have hv:cs[i]?=some cs[i]:=by simp[hlt]
  rw[hv] at hg;have ajz:(a.add i).spot=none:=by
   cases hsp:(a.add i).spot with
   |none=>rfl
   |some s=>
    simp only[World.cell?] at hg;split at hg
    .simp[hsp] at hg
    cases hg
  have e:a.add i=⟨a.block,a.off+i,none⟩:=by
   unfold Addr.add at ajz ⊢;split
   .rename_i h0;subst h0;rw[if_pos rfl] at ajz;cases a
    simp_all
   rfl
  refine⟨e,?_⟩;rw[hv,<- hg,e]
 cases h
theorem MW{r:TypeId->List Value->Option (DataW H×List MemPlace)}{n:Nat}(ih:∀t cs x,iB P n t=true->r t cs=some x->Fits N x.1->∃pvs,iO P N n t pvs/\aR w (fun _=>False) pvs cs){cs:List Value}{total:Nat}(ht:cs.length=total):
  ∀(fs:List Field) (off:Nat) (xs:List (DataW H×List MemPlace)),lZ P off total fs=true->(∀f∈fs,iB P n f.type=true)->
   fs.mapM (fun f=>r f.type ((cs.drop f.offset).take (P.cellsOf f.type)))=some xs->(∀x∈xs,Fits N x.1)->off<=total->(∀f∈fs,∀c x,r f.type c=some x->∀pvs,iO P N n f.type pvs->aR w (fun _=>False) pvs c->True)->
   ∃parts:List (List PV),parts.length=fs.length/\(∀(i:Nat) (f:Field) (x:List PV),fs[i]?=some f->parts[i]?=some x->iO P N n f.type x)/\(aR w (fun _=>False) parts.flatten (cs.drop off)):=by
 intro fs
 induction fs with
 |nil=>
  intro off xs hc _ _ _ hle _;simp only[lZ] at hc;have:=ab5 hc;refine⟨[],rfl,fun i f x h=>by simp at h,?_⟩;have:cs.drop off=[]:=by rw[List.drop_eq_nil_iff];omega
  rw[this];exact⟨rfl,fun j x u h=>by simp at h⟩
 |cons f fs ihf=>
  intro off xs hc ho hm hf hle hT;simp only[lZ,aay] at hc;have akN:=ab5 hc.1;rw[List.mapM_cons] at hm;simp only[Option.bind_eq_bind,adW,Option.pure_def,aaV] at hm;obtain⟨x,hx,xs',hxs,rfl⟩:=hm;obtain⟨pvs,p1,p2⟩:=ih _ _ _ (ho f (by simp)) hx (hf x (by simp));have hlen:=p2.1;by_cases anw:off+P.cellsOf f.type<=total
  .obtain⟨parts,q1,q2,q3⟩:=ihf (off+P.cellsOf f.type) xs' hc.2 (fun g hg=>ho g (by simp[hg])) hxs (fun y hy=>hf y (by simp[hy])) anw (fun _ _ _ _ _ _ _ _=>trivial);refine⟨pvs::parts,by simp[q1],fun i g y hi hy=>?_,?_⟩
   .cases i with
    |zero=>simp at hi hy;subst hi hy;exact p1
    |succ i=>exact q2 i g y (by simpa using hi) (by simpa using hy)
   have:cs.drop off=(cs.drop f.offset).take (P.cellsOf f.type)++cs.drop (off+P.cellsOf f.type):=by rw[akN,<- List.drop_drop];exact(abA _ _).symm
   rw[this];simp only[abt];exact aR.append p2 q3
  exfalso;have mono:∀(l:List Field) (o:Nat),lZ P o total l=true->o<=total:=by
   intro l
   induction l with
   |nil=>intro o h;simp only[lZ] at h;have:=ab5 h;omega
   |cons g l ihl=>intro o h;simp only[lZ,aay] at h;have:=ihl _ h.2;omega
  exact anw (mono _ _ hc.2)
theorem LT{sz:Nat}{f:Nat->Value}:∀(es:List (List PV)) (rows:List (List Value)) (k:Nat),rows.length=es.length->(∀(i:Nat) (e:List PV) (v:List Value),es[i]?=some e->rows[i]?=some v->aR w (fun _=>False) e v/\v.length=sz/\ ∀j u,v[j]?=some u->f ((k+i)*sz+j)=u)->
  ∀(j:Nat) (x:PV),es.flatten[j]?=some x->aZ w (fun _=>False) x (f (k*sz+j)):=by
 intro es
 induction es with
 |nil=>intro rows k _ _ j x h;simp at h
 |cons e es ih=>
  intro rows k hl h j x hx;cases rows with
  |nil=>simp at hl
  |cons v rows=>
   obtain⟨a1,a2,a3⟩:=h 0 e v rfl rfl;have hel:e.length=sz:=by rw[<- a2];exact a1.1.symm
   simp only[abt] at hx;by_cases hj:j<e.length
   .rw[acN hj] at hx;have hv:v[j]?=some v[j]:=by simp[show j<v.length by omega]
    have:=a3 j _ hv;simp only[aco] at this;rw[this];exact a1.2 j x _ hx hv
   rw[acA (by omega)] at hx;have:=ih rows (k+1) (by simpa using hl) (fun i e' v' h1 h2=>by have:=h (i+1) e' v' (by simpa using h1) (by simpa using h2);rw[show k+(i+1)=k+1+i by omega] at this;exact this) (j-e.length) x hx
   rw[show k*sz+j=(k+1)*sz+(j-e.length) by rw[aa3];omega];exact this
theorem SD:∀(n fuel:Nat) (t:TypeId) (cs:List Value) (x:DataW H×List MemPlace),iB P n t=true->DataW.trod enc P w base sp held fuel t cs=some x->Fits N x.1->
  ∃pvs,iO P N n t pvs/\aR w (fun _=>False) pvs cs:=by
 intro n
 induction n with
 |zero=>intro fuel t cs x h;simp[iB] at h
 |succ n ih=>
  intro fuel t cs x hok h hf;cases fuel with
  |zero=>simp[DataW.trod] at h
  |succ fuel=>
   rw[DataW.trod_step] at h;have one:∀ {p:PV} {v:Value},aZ w (fun _=>False) p v->aR w (fun _=>False) [p] [v]:=by
    intro p v hp;refine⟨rfl,fun j x u a b=>?_⟩;cases j with
    |zero=>simp at a b;subst a b;exact hp
    |succ j=>simp at a
   unfold DataW.trodStep at h;unfold iB at hok;split at h
   case h_1 b hu=>exact⟨[.bool b],by simp only[iO,hu];exact⟨b,rfl⟩,one (.bool b)⟩
   case h_2 k k' z hu=>
    split at h
    .rename_i hc;obtain⟨rfl,hwf⟩:=hc;exact⟨[.int k' z],by simp only[iO,hu];exact⟨z,rfl,hwf⟩,one (.int k' z)⟩
    cases h
   case h_4 s hu=>
    split at h
    .cases h;cases hf with
     |str _ hs=>exact⟨[.str s],by simp only[iO,hu];exact⟨s,rfl,by simpa using hs⟩,one (.str s)⟩
     |lit _ hs=>exact(hs _ rfl).elim
    cases h
   case h_7 e hu=>exact⟨[.sl []],by simp only[iO,hu];exact⟨[],rfl,aan _,fun x hx=>by simp at hx⟩,one (.sl0 none 0 (fun _=>rfl) (aan _))⟩
   case h_8 e a len cap hu=>
    rw[hu] at hok;simp only[aay] at hok;obtain⟨aaP,hoe⟩:=hok;have aaP:0<P.cellsOf e:=by have:=aaP;simp[Nat.blt] at this;omega
    simp only at h;split at h
    .rename_i hc;obtain⟨hb,hlc,hcm⟩:=hc;simp only[aaD,adW] at h;obtain⟨elems,he,rest,am2,rfl⟩:=h;have hlen:elems.length=len:=by simpa using mapM_some_length he
     cases hf with
     |slice _ _ hl hfe=>
     simp only[aau] at hl;have get:∀i,i<len->∃y row pv,elems[i]?=some y/\w.cells? base (a.add (i*P.cellsOf e)) (P.cellsOf e)=some row/\iO P N n e pv/\aR w (fun _=>False) pv row:=by
      intro i hi;have hg:=mapM_some_get he i i (by simp[hi]);have hlt:i<elems.length:=by omega
      rw[abZ hlt] at hg;simp only[adW] at hg;obtain⟨row,h1,h2⟩:=hg;obtain⟨pv,p1,p2⟩:=ih _ _ _ _ hoe h2 (hfe _ (aaF.2 ⟨_,List.getElem_mem hlt,rfl⟩));exact⟨_,row,pv,abZ hlt,h1,p1,p2⟩
     cases hl0:len with
     |zero=>refine⟨[.sl []],by simp only[iO,hu];exact⟨[],rfl,aan _,fun x hx=>by simp at hx⟩,one (.sl0 (some a) cap (fun h=>by cases h) hcm)⟩
     |succ len'=>
      rw[<- hl0];have h0:0<len:=by omega
      obtain⟨_,row0,_,_,hr0,_,_⟩:=get 0 h0;have ha:a=⟨a.block,a.off,none⟩:=by
       have h1:a.add 0=a:=by unfold Addr.add;rw[if_pos rfl]
       rw[act,h1] at hr0;have:=((wR hr0).2 0 aaP).1;rw[h1] at this;exact this
      have akC:∀i,i<len->∃row pv,row.length=P.cellsOf e/\(∀j,j<P.cellsOf e->w.cell? ⟨a.block,a.off+(i*P.cellsOf e+j),none⟩=row[j]?)/\iO P N n e pv/\aR w (fun _=>False) pv row:=by
       intro i hi;obtain⟨_,row,pv,_,h1,h2,h3⟩:=get i hi;obtain⟨l1,l2⟩:=wR h1;refine⟨row,pv,l1,fun j hj=>?_,h2,h3⟩;have:=(l2 j hj).2;rw[<- this];have e2:a.add (i*P.cellsOf e)=⟨a.block,a.off+i*P.cellsOf e,none⟩:=by
        rw[ha];unfold Addr.add;split
        .rename_i h9;rw[h9];rfl
        rfl
       rw[e2];simp[adc]
      let row:Nat->List Value:=fun i=>if h:i<len then (akC i h).choose else []
      let pv:Nat->List PV:=fun i=>if h:i<len then (akC i h).choose_spec.choose else []
      have ad5:∀i,i<len->(row i).length=P.cellsOf e/\(∀j,j<P.cellsOf e->w.cell? ⟨a.block,a.off+(i*P.cellsOf e+j),none⟩=(row i)[j]?)/\iO P N n e (pv i)/\aR w (fun _=>False) (pv i) (row i):=by intro i hi;simp only[row,pv,dif_pos hi];exact(akC i hi).choose_spec.choose_spec
      let es:=(List.range len).map pv
      have ai9:es.length=len:=by simp[es]
      have adz:∀(i:Nat) (x:List PV),es[i]?=some x->i<len/\x=pv i:=by
       intro i x hx;have hi:i<len:=by rw[<- ai9];exact(aai.1 hx).1
       refine⟨hi,?_⟩;simp only[es,aa0,abT hi,abx,aaV] at hx;exact hx.symm
      let f:Nat->Value:=fun j=>(w.cell? ⟨a.block,a.off+j,none⟩).getD undef
      refine⟨[.sl es],?_,one ?_⟩
      .simp only[iO,hu];refine⟨es,rfl,by omega,fun x hx=>?_⟩;obtain⟨i,hi⟩:=abb hx;obtain⟨h1,rfl⟩:=adz i x hi;exact(ad5 i h1).2.2.1
      rw[ha];have hsz:∀x∈es,x.length=P.cellsOf e:=by intro x hx;obtain⟨i,hi⟩:=abb hx;obtain⟨h1,rfl⟩:=adz i x hi;have:=(ad5 i h1).2.2.2.1;rw[<- this];exact(ad5 i h1).1
      have aax:=LT (w:=w) (sz:=P.cellsOf e) (f:=f) es ((List.range len).map row) 0 (by simp[ai9]) (fun i x v h1 h2=>by
       obtain⟨hi,rfl⟩:=adz i x h1;simp only[aa0,abT hi,abx,aaV] at h2;subst h2;obtain⟨s1,s2,s3,s4⟩:=ad5 i hi;refine⟨s4,s1,fun j u hu=>?_⟩;have hj:j<P.cellsOf e:=by rw[<- s1];exact(aai.1 hu).1
       simp only[f,abd];rw[s2 j hj,hu];rfl)
      simp only[act,abd] at aax;have hfl:∀(l:List (List PV)),(∀x∈l,x.length=P.cellsOf e)->l.flatten.length=l.length*P.cellsOf e:=by
       intro l
       induction l with
       |nil=>intro _;simp
       |cons x l ihl=>intro hx;simp only[abt,aaY,aaz];rw[hx x (by simp),ihl (fun y hy=>hx y (by simp[hy])),aa3];omega
      refine ai9▸aZ.sl a.block a.off cap (P.cellsOf e) f (fun _ h=>h) (by omega) hcm hsz (fun j x hx=>?_) aax;have hj:j<len*P.cellsOf e:=by have:=(aai.1 hx).1;rw[hfl es hsz,ai9] at this;exact this
      have hi:j/P.cellsOf e<len:=Nat.div_lt_of_lt_mul (by rw[Nat.mul_comm];exact hj);obtain⟨s1,s2,s3,s4⟩:=ad5 _ hi;have hm:j%P.cellsOf e<P.cellsOf e:=aaN _ aaP;have:=s2 _ hm;rw[show j/P.cellsOf e*P.cellsOf e+j%P.cellsOf e=j by rw[Nat.mul_comm];exact Nat.div_add_mod j _] at this;have agC:(row (j/P.cellsOf e))[j%P.cellsOf e]?=some (row (j/P.cellsOf e))[j%P.cellsOf e]:=by simp[s1,hm]
      rw[agC] at this;simp only[f,this,abv]
    cases h
   case h_9=>
    rename_i fs hu;rw[hu] at hok;simp only[aay] at hok;split at h
    .rename_i hc;simp only[aaD] at h;obtain⟨xs,hx,rfl⟩:=h;cases hf with
     |agg _ hfe=>
     obtain⟨parts,p1,p2,p3⟩:=MW (r:=DataW.trod enc P w base sp held fuel) (n:=n) (fun t cs x h1 h2 h3=>ih _ _ _ _ h1 h2 h3) hc fs.toList 0 xs hok.1 (fun f hf=>aba.1 hok.2 f hf) hx (fun y hy=>hfe _ (aaF.2 ⟨y,hy,rfl⟩)) (aan _) (fun _ _ _ _ _ _ _ _=>trivial);refine⟨parts.flatten,by simp only[iO,hu];exact⟨parts,rfl,p1,p2⟩,?_⟩
     simpa using p3
    cases h
   all_goals(first|(cases h;done)|(simp_all;done)|(exfalso;simp_all;done))
end
end
end Go.Abs
namespace Go.Abs
variable {H:Type} {enc:TypeId×Value->H} {P:Program} {w:World} {N:Nat}
theorem GH:∀(fs:List Field) (off total:Nat),lZ P off total fs=true->total=off+(fs.map fun f=>P.cellsOf f.type).sum/\ ∀(j:Nat) (f:Field),fs[j]?=some f->f.offset=off+((fs.take j).map fun f=>P.cellsOf f.type).sum:=by
 intro fs
 induction fs with
 |nil=>intro off total h;simp only[lZ] at h;have:=ab5 h;exact⟨by simp;omega,fun j f h=>by simp at h⟩
 |cons f fs ih=>
  intro off total h;simp only[lZ,aay] at h;have h0:=ab5 h.1;obtain⟨i1,i2⟩:=ih _ _ h.2;refine⟨by simp;omega,fun j g hg=>?_⟩;cases j with
  |zero=>simp at hg;subst hg;simp;omega
  |succ j=>have:=i2 j g (by simpa using hg);simp only[List.take_succ_cons,aaK,List.sum_cons];omega
theorem T3:Kids P (fun t=>∃n,iB P n t=true):=by
 have un:∀ {t:TypeId},(∃n,iB P n t=true)->∃n,iB P (n+1) t=true:=by
  rintro t ⟨n,h⟩
  cases n with
  |zero=>simp[iB] at h
  |succ n=>exact⟨n,h⟩
 refine⟨fun ht hu=>?_,fun ht hu=>?_,fun ht hu=>?_,fun ht hu=>?_,fun ht hu=>?_⟩
 .obtain⟨n,h⟩:=un ht;simp[iB,hu] at h
 .obtain⟨n,h⟩:=un ht;simp only[iB,hu,aay] at h;exact⟨n,h.2⟩
 .obtain⟨n,h⟩:=un ht;simp[iB,hu] at h
 .obtain⟨n,h⟩:=un ht;simp only[iB,hu,aay] at h;obtain⟨c1,c2⟩:=GH _ _ _ h.1;refine⟨fun f hf=>⟨n,aba.1 h.2 f hf⟩,by rw[c1];simp,fun j f hj=>by rw[c2 j f hj];simp⟩
 obtain⟨n,h⟩:=un ht;simp[iB,hu] at h
theorem Hx{w':World}{sp':Nat->Bool}{t:TypeId}{v:Value}{d:DataW H}{ps:List MemPlace}(hk:∃n,iB P n t=true)(h:DataW.Trod enc P w 0 (fun _=>true) true t v d ps)
  (abU:∀p∈ps,w.sameAt w' p) (hs:∀p∈ps,sp' p.block=true):DataW.Trod enc P w' 0 sp' true t v d ps:=by
 obtain⟨fuel,h⟩:=h;refine⟨fuel,DataW.trod_stays (T:=fun t=>∃n,iB P n t=true) T3 ?_ (fun h=>by cases h) hk h abU hs⟩;rintro t e ⟨n,h⟩ hu
 cases n with
 |zero=>simp[iB] at h
 |succ n=>simp only[iB,hu,aay] at h;have:=h.1;simp[Nat.blt] at this;omega
theorem AR{w':World}{sp':Nat->Bool}:∀ {ts:List TypeId} {vs:List Value} {ds:List (DataW H)} {ps:List MemPlace},(∀t∈ts,∃n,iB P n t=true)->DataW.TrodAll enc P w 0 (fun _=>true) true ts vs ds ps->
  (∀p∈ps,w.sameAt w' p)->(∀p∈ps,sp' p.block=true)->DataW.TrodAll enc P w' 0 sp' true ts vs ds ps:=by
 intro ts
 induction ts with
 |nil=>intro vs ds ps _ h _ _;cases vs<;>cases ds<;>exact h
 |cons t ts ih=>
  intro vs ds ps hk h hs1 hs2;cases vs with
  |nil=>exact h.elim
  |cons v vs=>
   cases ds with
   |nil=>exact h.elim
   |cons d ds=>obtain⟨p,q,h1,h2,rfl⟩:=h;exact⟨p,q,Hx (hk t (by simp)) h1 (fun x hx=>hs1 x (by simp[hx])) (fun x hx=>hs2 x (by simp[hx])),ih (fun t ht=>hk t (by simp[ht])) h2 (fun x hx=>hs1 x (by simp[hx])) (fun x hx=>hs2 x (by simp[hx])),rfl⟩
def Es(P:Program)(t:TypeId)(ps:List PV):V:=
 match P.underlying t with
 |some (.struct _)=>.agg (ps.map .p)
 |_=>match ps with
  |[x]=>.one (.p x)
  |_=>.undef
theorem XO{r:Reach}{b0 n:Nat}{sp:Nat->Bool}{held:Bool}{t:TypeId}{v:Value}{d:DataW H}{ps:List MemPlace}(hk:iB P n t=true)(hval:Value.okWide P w r b0 t v)(h:DataW.Trod enc P w 0 sp held t v d ps)(hf:Fits N d):
  ∃pvs,iO P N n t pvs/\kn w (fun _=>False) (Es P t pvs) v:=by
 obtain⟨fuel,h⟩:=h;obtain⟨pvs,h1,h2⟩:=SD n fuel t _ _ hk h hf;refine⟨pvs,h1,?_⟩;cases n with
 |zero=>simp[iB] at hk
 |succ n=>
  have one:∀x:PV,pvs=[x]->(∀cs,v≠ .agg cs)->aZ w (fun _=>False) x v:=by
   rintro x rfl hne
   have:v.cells.toList=[v]:=by
    cases v<;>first
     |rfl
     |exact(hne _ rfl).elim
   rw[this] at h2;exact h2.2 0 x v rfl rfl
  have nagg:∀ {k:TypeDesc},P.underlying t=some k->(∀fs,k≠ .struct fs)->(∀a b,k≠ .array a b)->∀cs,v≠ .agg cs:=by
   rintro k hu hk1 hk2 cs rfl
   unfold Value.okWide at hval;rw[hu] at hval;cases k<;>simp_all[Cell.okWide,Cell.ok]
  simp only[iO] at h1;unfold Es;cases hu:P.underlying t with
  |none=>rw[hu] at h1;exact h1.elim
  |some k=>
   rw[hu] at h1;cases k<;>simp only at h1<;>try exact h1.elim
   case bool=>obtain⟨b,rfl⟩:=h1;exact one _ rfl (nagg hu (by simp) (by simp))
   case int k=>obtain⟨b,rfl,_⟩:=h1;exact one _ rfl (nagg hu (by simp) (by simp))
   case string=>obtain⟨b,rfl,_⟩:=h1;exact one _ rfl (nagg hu (by simp) (by simp))
   case slice e=>obtain⟨es,rfl,_⟩:=h1;exact one _ rfl (nagg hu (by simp) (by simp))
   case struct fs=>unfold Value.okWide at hval;rw[hu] at hval;simp only at hval;obtain⟨cs,rfl,hsz,_⟩:=hval;exact⟨cs,pvs,rfl,rfl,h2⟩
def EC(P:Program)(N n:Nat):List TypeId->List (List PV)->Prop
 |[],[]=>True
 |t::ts,p::ps=>iO P N n t p/\EC P N n ts ps
 |_,_=>False
def uN(P:Program):List TypeId->List (List PV)->List V
 |t::ts,p::ps=>Es P t p::uN P ts ps
 |_,_=>[]
theorem UU{r:Reach}{b0 n:Nat}{sp:Nat->Bool}{held:Bool}:∀ {ts:List TypeId} {vs:List Value} {ds:List (DataW H)} {ps:List MemPlace},(∀t∈ts,iB P n t=true)->(∀(j:Nat) t v,ts[j]?=some t->vs[j]?=some v->Value.okWide P w r b0 t v)->
  DataW.TrodAll enc P w 0 sp held ts vs ds ps->(∀d∈ds,Fits N d)->∃pvss,EC P N n ts pvss/\Pw (kn w (fun _=>False)) (uN P ts pvss) vs:=by
 intro ts
 induction ts with
 |nil=>
  intro vs ds ps _ _ h _;cases vs with
  |nil=>exact⟨[],trivial,rfl,fun j x u h=>by simp[uN] at h⟩
  |cons v vs=>cases ds<;>exact h.elim
 |cons t ts ih=>
  intro vs ds ps hk hv h hf;cases vs with
  |nil=>exact h.elim
  |cons v vs=>
   cases ds with
   |nil=>exact h.elim
   |cons d ds=>
    obtain⟨p,q,h1,h2,rfl⟩:=h;obtain⟨x,a1,a2⟩:=XO (hk t (by simp)) (hv 0 t v rfl rfl) h1 (hf d (by simp));obtain⟨xs,b1,b2,b3⟩:=ih (fun t ht=>hk t (by simp[ht])) (fun j t v e1 e2=>hv (j+1) t v (by simpa using e1) (by simpa using e2)) h2 (fun d hd=>hf d (by simp[hd]));refine⟨x::xs,⟨a1,b1⟩,by simpa [uN] using b2,fun j y u e1 e2=>?_⟩;cases j with
    |zero=>simp[uN] at e1 e2;subst e1 e2;exact a2
    |succ j=>exact b3 j y u (by simpa [uN] using e1) (by simpa using e2)
end Go.Abs
namespace Go.Abs
open Go.RowKit
theorem eU.TC(w:World)(k:Nat)(os:Array Obj):eU w (Go.Sort.grow (w.drewN k) os):=
 ⟨rfl,rfl,rfl,by simp[Go.Sort.grow,World.drewN],fun c hc=>by simp[Go.Sort.grow,World.drewN,Array.getElem?_append,hc]⟩
theorem yr{w w':World}{O:Nat->Prop}{x:PV}{v:Value}(hg:eU w w')(h:aZ w' O x v):uQ w O (.one (.p x)) (.returned v) w':=
 ⟨v,[],rfl,hg,ach,fun c hc=>by simp at hc,[v],rfl,v,[],rfl,h.mono fun c _ hn=>⟨rfl,fun hq=>hn (hq.elim id fun h=>by simp at h)⟩,rfl,rfl⟩
theorem pw1{w:World}{O:Nat->Prop}{x:PV}{args:Array Value}(h:Pw (kn w O) [.one (.p x)] args.toList):∃v,args= #[v]/\aZ w O x v:=by
 obtain⟨h1,h2⟩:=h;obtain⟨l⟩:=args
 match l,h1 with
 |[v],_=>exact⟨v,rfl,h2 0 _ v rfl rfl⟩
theorem Gy{w:World}{O:Nat->Prop}{v:Value}(h:aZ w O (.sl []) v):∃a cap,v=.slice a 0 cap/\(a=none->cap=0)/\cap<=maxLen:=by
 generalize hx:PV.sl []=x at h;cases h<;>cases hx
 .exact⟨_,_,rfl,by assumption,by assumption⟩
 exact⟨_,_,rfl,fun h=>by simp at h,by assumption⟩
theorem FI{w:World}{O:Nat->Prop}{a:Option Addr}{cap:Nat}(h:a=none->cap=0)(hm:cap<=maxLen):aZ w O (.sl []) (.slice a 0 cap):=.sl0 a cap h hm
def zK:Nat->Nat->List UInt8->List UInt8
 |0,_,acc=>acc
 |k+1,u,acc=>bif Nat.blt u 10 then UInt8.ofNat (Nat.add 48 u)::acc else zK k (Nat.div u 10) (UInt8.ofNat (Nat.add 48 (Nat.mod u 10))::acc)
theorem KQ:∀(k u:Nat) (acc:List UInt8),u<10 ^ (k+1)->zK (k+1) u acc=Lib.decDigits u++acc:=by
 intro k
 induction k with
 |zero=>
  intro u acc h;have h:u<10:=by simpa using h
  unfold Lib.decDigits;have hb:Nat.blt u 10=true:=Nat.ble_eq_true_of_le h;simp only[zK,hb,cond_true,dif_pos h];rfl
 |succ k ih=>
  intro u acc h;rw[Lib.decDigits,zK];by_cases h0:u<10
  .have hb:Nat.blt u 10=true:=Nat.ble_eq_true_of_le h0;simp only[hb,cond_true,dif_pos h0];rfl
  have hb:Nat.blt u 10=false:=by
   cases e:Nat.blt u 10 with
   |false=>rfl
   |true=>exact(h0 (aaW e)).elim
  simp only[hb,cond_false,dif_neg h0];have:(Nat.div u 10)<10 ^ (k+1):=by have e:Nat.div u 10=u/10:=rfl;rw[e];have:10 ^ (k+1+1)=10 ^ (k+1)*10:=Nat.pow_succ ..;omega
  rw[ih _ _ this];simp only[acw,List.singleton_append];rfl
def fS(n:Int):ByteArray:=⟨(match n with| .ofNat u=>zK 20 u []| .negSucc u=>45::zK 20 (Nat.succ u) []).toArray⟩
theorem Qa(n:Int)(h0: -9223372036854775808<=n)(h1:n<=9223372036854775807):fS n=⟨(Lib.itoa n).toArray⟩:=by
 unfold fS Lib.itoa;cases n with
 |ofNat u=>
  have:¬(Int.ofNat u<0):=by simp
  rw[if_neg this];simp only;rw[KQ 19 u [] (by simp at h1;omega)];simp
 |negSucc u=>have:Int.negSucc u<0:=Int.negSucc_lt_zero u;rw[if_pos this];simp only;rw[KQ 19 (Nat.succ u) [] (by omega)];simp[Int.natAbs]
def tZ(args:List V):Option RV:=
 match args with
 |[.one (.p (.int .i64 n))]=>if -9223372036854775808<=n/\n<=9223372036854775807 then some (.one (.p (.str (fS n)))) else none
 |_=>none
theorem Fq{P:Program}{f:Nat}{nm:String}{G:World->Prop}{args:List V}{r:RV}(hG:∀w,G w->Lib.TabIs P w nm .u64 Lib.pow10Tab)
  (hf:∀(n:Int),-9223372036854775808<=n->n<=9223372036854775807->∀w:World,Lib.TabIs P w nm .u64 Lib.pow10Tab->Calls P f #[.int .i64 n] w fun e w'=>e=.returned (.string ⟨(Lib.itoa n).toArray⟩)/\ ∃k os,w'=Go.Sort.grow (w.drewN k) os)
  (h:tZ args=some r):∀(w:World) (O:Nat->Prop) (as:Array Value),Good G w->Pw (kn w O) args as.toList->Calls P f as w (uQ w O r):=by
 intro w O as hg ha;unfold tZ at h;split at h
 .rename_i n;split at h
  .rename_i hr;cases h;obtain⟨v,rfl,hp⟩:=pw1 ha;generalize hx:PV.int .i64 n=x at hp;cases hp<;>cases hx
   refine(hf n hr.1 hr.2 w (hG w hg.1)).mono ?_;rintro e w' ⟨rfl,k,os,rfl⟩
   rw[Qa n hr.1 hr.2];exact yr (eU.TC _ _ _) (.str _)
  cases h
 cases h
def qD(args:List V):Option RV:=
 match args with
 |[.one (.p (.int .u64 n))]=>if 0<=n/\n<=18446744073709551615 then some (.one (.p (.int .i64 (Lib.bitLen n.toNat)))) else none
 |_=>none
theorem Fr{P:Program}{f:Nat}{args:List V}{r:RV}(hf:∀(x:Int) (w:World),0<=x->x<=18446744073709551615->Calls P f #[.int .u64 x] w fun e w'=>e=.returned (.int .i64 (Lib.bitLen x.toNat))/\w'=w)
  (h:qD args=some r):∀(w:World) (O:Nat->Prop) (as:Array Value),Pw (kn w O) args as.toList->Calls P f as w (uQ w O r):=by
 intro w O as ha;unfold qD at h;split at h
 .rename_i n;split at h
  .rename_i hr;cases h;obtain⟨v,rfl,hp⟩:=pw1 ha;generalize hx:PV.int .u64 n=x at hp;cases hp<;>cases hx
   refine(hf n w hr.1 hr.2).mono ?_;rintro e w' ⟨rfl,rfl⟩
   exact yr (eU.refl _) (.int _ _)
  cases h
 cases h
def rJ(args:List V):Option (Option RV):=
 match args with
 |[.one (.p (.sl []))]=>some (some (.one (.p (.sl []))))
 |_=>none
theorem Dt{S:Sys}{G:World->Prop}(hS:CM S G){f n:Nat}{z i g z':Nat}{fn:cX}{aaf:aw}(hfn:S.fns f=some fn)(h1:de S n f [.one (.p .nils)]=some (.one (.p .nils)))
  (h2:dq S n f [.one (.hsl 0 0 z 0 0)] .all qG=some (.one (.hsl i g z' 0 0),aaf)) {args:List V} {r:RV} (h:rJ args=some (some r)):
  ∀(w:World) (O:Nat->Prop) (as:Array Value),Good G w->(∀c,O c->c<w.heap.size)->Pw (kn w O) args as.toList->Calls S.P f as w (uQ w O r):=by
 intro w O as hg hO ha;unfold rJ at h;split at h
 .cases h;obtain⟨v,rfl,hp⟩:=pw1 ha;obtain⟨a,cap,rfl,hn,hm⟩:=Gy hp;cases a with
  |none=>
   obtain rfl:=hn rfl;refine((sound hS n).1 f _ _ h1 |>.2 w O #[.slice none 0 0] hg hO ⟨rfl,fun j x u p q=>?_⟩).mono ?_
   .cases j with
    |zero=>simp at p q;subst p q;exact aZ.nils
    |succ j=>simp at p
   rintro e w' ⟨val,bs,rfl,hgr,hnd,hbs,vs,q1,q2⟩
   obtain⟨v0,vs',e1,e2,e3,e4⟩:=q2;have hq1:vs=[val]:=q1;subst hq1;cases e1;subst e4;cases e2;exact yr hgr (FI (fun _=>rfl) (aan _))
  |some a=>
   let m0:Mem:=⟨w,qG,fun _=>0,fun _=>0,O⟩
   have hok:Ok w m0:=⟨rfl,rfl,rfl,aaj _,fun _ _=>rfl,(fun id o h=>by cases h),(fun id o h=>by cases h),hO,(fun id id' o o' h=>by cases h)⟩;refine(((sound hS n).2.1 f _ _ _ _ _ h2).2 w m0 #[.slice (some a) 0 cap] hg hok rfl ⟨rfl,fun j x u p q=>?_⟩).mono ?_
   .cases j with
    |zero=>simp at p q;subst p q;exact bJ.hsl a cap (aan _) (aan _) hm (fun sz _ h=>by cases h)
    |succ j=>simp at p
   rintro e w' ⟨val,m',rfl,rfl,q1,q2,q3,q4,q5⟩
   have hq:bJ m' (.hsl i g z' 0 0) val:=q5;cases hq with
   |hsl a2 cap2 _ _ hm2 _=>
    refine yr ⟨q2.os,q2.tape,q2.output,q2.size,fun c hc=>q2.keep c hc ?_⟩ (FI (fun h=>by cases h) hm2);rintro ⟨id,o,h,_⟩
    cases h
 cases h
def og(args:List V):Option (Option RV):=
 match args with
 |[.one (.p (.sl []))]=>some (some (.one (.p .zs)))
 |_=>none
theorem AX{P:Program}{G:World->Prop}{f:Nat}(h1:∀(w:World) (a:Option Addr) (c:Nat),Calls P f #[.slice a 0 c] w fun e w'=>∃b,e=.returned (.slice b 0 0)/\eU w w'){args:List V}{r:RV}(h:og args=some (some r)):
  ∀(w:World) (O:Nat->Prop) (as:Array Value),Good G w->(∀c,O c->c<w.heap.size)->Pw (kn w O) args as.toList->Calls P f as w (uQ w O r):=by
 intro w O as hg hO ha;unfold og at h;split at h
 .cases h;obtain⟨v,rfl,hp⟩:=pw1 ha;obtain⟨a,cap,rfl,hn,hm⟩:=Gy hp;refine(h1 w a cap).mono ?_;rintro e w' ⟨b,rfl,hgr⟩
  exact yr hgr (aZ.zs b)
 cases h
end Go.Abs
namespace Go.Abs
open Go.RowKit Go.WideShapes Go.ChangeShapes
section
variable {H:Type} {enc:TypeId×Value->H} {P:Program} {w:World} {base:Nat} {sp:Nat->Bool} {held:Bool}
theorem Lp:∀(n fuel:Nat) (t:TypeId) (cs:List Value) (x:DataW H×List MemPlace),iB P n t=true->DataW.trod enc P w base sp held fuel t cs=some x->Fits maxLen x.1:=by
 intro n
 induction n with
 |zero=>intro fuel t cs x h;simp[iB] at h
 |succ n ih=>
  intro fuel t cs x hok h;cases fuel with
  |zero=>simp[DataW.trod] at h
  |succ fuel=>
   rw[DataW.trod_step] at h;unfold DataW.trodStep at h;unfold iB at hok;split at h
   case h_1=>cases h;exact .lit _ (fun s h=>by cases h)
   case h_2=>
    split at h
    .cases h;exact .lit _ (fun s h=>by cases h)
    cases h
   case h_4=>
    split at h
    .rename_i hs;cases h;exact .str _ (by simpa using hs)
    cases h
   case h_7=>cases h;exact .nil
   case h_8 e a len cap hu=>
    rw[hu] at hok;simp only[aay] at hok;simp only at h;split at h
    .rename_i hc;simp only[aaD,adW] at h;obtain⟨elems,he,rest,am2,rfl⟩:=h;have hlen:elems.length=len:=by simpa using mapM_some_length he
     refine .slice _ _ (by simp;omega) (fun d hd=>?_);obtain⟨y,hy,rfl⟩:=aaF.1 hd;obtain⟨i,_,hi⟩:=mapM_mem_of he y hy;simp only[adW] at hi;obtain⟨row,_,h2⟩:=hi;exact ih _ _ _ _ hok.2 h2
    cases h
   case h_9=>
    rename_i fs hu;rw[hu] at hok;simp only[aay] at hok;split at h
    .simp only[aaD] at h;obtain⟨xs,hx,rfl⟩:=h;refine .agg _ (fun d hd=>?_);obtain⟨y,hy,rfl⟩:=aaF.1 hd;obtain⟨f,hf,hi⟩:=mapM_mem_of hx y hy;exact ih _ _ _ _ (aba.1 hok.2 f hf) hi
    cases h
   all_goals(first|(cases h;done)|(simp_all;done)|(exfalso;simp_all;done))
theorem tL{n:Nat}:∀ {ts:List TypeId} {vs:List Value} {ds:List (DataW H)} {ps:List MemPlace},(∀t∈ts,iB P n t=true)->DataW.TrodAll enc P w base sp held ts vs ds ps->(∀d∈ds,Fits maxLen d)/\ds.length=ts.length:=by
 intro ts
 induction ts with
 |nil=>
  intro vs ds ps _ h;cases vs<;>cases ds<;>first
   |exact h.elim
   |exact⟨fun d hd=>by simp at hd,rfl⟩
 |cons t ts ih=>
  intro vs ds ps hk h;cases vs with
  |nil=>exact h.elim
  |cons v vs=>
   cases ds with
   |nil=>exact h.elim
   |cons d ds=>
    obtain⟨p,q,⟨fuel,h1⟩,h2,rfl⟩:=h;obtain⟨i1,i2⟩:=ih (fun t ht=>hk t (by simp[ht])) h2;refine⟨fun x hx=>?_,by simp[i2]⟩;rcases aat.1 hx with rfl|hx
    .exact Lp n fuel t _ _ (hk t (by simp)) h1
    exact i1 x hx
end
section
variable {H:Type} {enc:TypeId×Value->H} {P:Program}
theorem AY{f:Func}{s:ChangeSpec}{apart fresh handsOn again:Bool}{W W':World}{args:Array Value}{v:Value}{ds gs:List (DataW H)}{before pa pv:List MemPlace}
  (hW:DataW.Whole enc P f.params.toList s.vars apart W args.toList ds gs before)
  (ac6:∀(b:Nat) (sp:Nat->Bool) (hd:Bool),DataW.TrodAll enc P W' b sp hd f.resultTypes.toList (v.resultList f.resultTypes.size) (s.fn H (ds++gs)).results [])
  (ace:∀sp:Nat->Bool,(∀p∈before,sp p.block=true)->DataW.TrodAll enc P W' 0 sp true f.params.toList args.toList (s.fn H (ds++gs)).args pa)
  (ad4:∀sp:Nat->Bool,(∀p∈before,sp p.block=true)->DataW.TrodVars enc P W' sp s.vars (s.fn H (ds++gs)).vars pv)
  (hps:before=pa++pv) (hb:Below W.heap.size W W')
  (hok:∀(j:Nat) (t:TypeId) (r:Value),f.resultTypes[j]?=some t->(v.resultList f.resultTypes.size)[j]?=some r->Value.okWide P W' .any 0 t r):
  s.post enc P f apart fresh handsOn again W args v W':=by
 have hlt:∀p∈before,p.block<W.heap.size:=fun p hp=>hW.lt p hp;have hold:∀p∈before,(fun b=>decide (b<W.heap.size)) p.block=true:=fun p hp=>by simpa using hlt p hp
 refine⟨ds,gs,before,[],pa,pv,hW,ac6 _ _ _,ace _ hold,ad4 _ hold,World.keptBut_mono (fun p hp=>⟨hp,?_⟩) (hb.frame (· ∈before)),fun _=>?_⟩
 .rw[hps,aaR] at hp;exact Or.inr hp
 obtain⟨_,_,_,_,_,hz,hn⟩:=hW;refine⟨hok,_,_,([]++pa)++pv,⟨[]++pa,pv,trodAll_append (ace _ (fun _ _=>rfl)) (ac6 _ _ _),ad4 _ (fun _ _=>rfl),rfl,?_,?_⟩,?_⟩
 .intro b off hp;have hin:MemPlace.cell b off∈before:=by rw[hps];simpa using hp
  rw[hb.frozen (hlt _ hin)];exact hz b off hin
 .intro ha;have:=hn ha;rw[hps] at this
  simpa using this
 intro p hp _;rw[hps]
 simpa using hp
end
theorem lS{P:Program}{N n:Nat}{t:TypeId}{k:IntKind}{p:List PV}(hu:P.underlying t=some (.int k))(h:iO P N (n+1) t p):∃z,p=[.int k z]/\(Lit.int k z).wf=true:=by simp only[iO,hu] at h;exact h
theorem MK{P:Program}{N n:Nat}{t:TypeId}{p:List PV}(hu:P.underlying t=some .bool)(h:iO P N (n+1) t p):∃b,p=[.bool b]:=by simp only[iO,hu] at h;exact h
theorem IA{P:Program}{N n:Nat}{t e:TypeId}{p:List PV}(hu:P.underlying t=some (.slice e))(h:iO P N (n+1) t p):∃es,p=[.sl es]/\es.length<=N/\ ∀x∈es,iO P N n e x:=by simp only[iO,hu] at h;exact h
theorem Rq{P:Program}{t:TypeId}{k:TypeDesc}{x:PV}(hu:P.underlying t=some k)(hk:∀fs,k≠ .struct fs):Es P t [x]=.one (.p x):=by
 unfold Es;rw[hu];cases k<;>first
  |rfl
  |exact(hk _ rfl).elim
theorem Hb{P:Program}{t:TypeId}{fs:Array Field}{x:List PV}(hu:P.underlying t=some (.struct fs)):Es P t x=.agg (x.map .p):=by unfold Es;rw[hu]
theorem DL{S:Sys}{G:World->Prop}(hS:CM S G)(agX:∀w,G w->Good G w){fn:Func}{s:ChangeSpec}{f n N:Nat}{handsOn again fresh apart:Bool}(ad4:s.vars=[])
  (hfn:∀(H:Type) (ds:List (DataW H)),ds.length=fn.params.toList.length->s.fn H ds={results:=[.lit (.bool true)],args:=ds}) {tb:TypeId} (ac6:fn.resultTypes= #[tb]) (htb:S.P.underlying tb=some .bool)
  (hk:∀t∈fn.params.toList,iB S.P n t=true) (law:∀pvss,EC S.P N n fn.params.toList pvss->aP S f (uN S.P fn.params.toList pvss) (.one (.p (.bool true))))
  {H:Type} {enc:TypeId×Value->H} {W:World} {base:Nat} {args:Array Value} {ds gs:List (DataW H)} {before:List MemPlace}
  (hval:∀(j:Nat) t v,fn.params[j]?=some t->args[j]?=some v->Value.okWide S.P W .any base t v)
  (hW:DataW.Whole enc S.P fn.params.toList s.vars apart W args.toList ds gs before) (hG:G W) (hfit:∀d∈ds,Fits N d):
  Calls S.P f args W fun e W'=>∃v,e=.returned v/\s.post enc S.P fn apart fresh handsOn again W args v W':=by
 have hW':=hW;obtain⟨p,q,hA,hV,rfl,hfz,hnd⟩:=hW;rw[ad4] at hV;obtain⟨rfl,rfl⟩:=trodVars_none hV;obtain⟨_,hlen⟩:=tL hk hA;obtain⟨pvss,h1,h2⟩:=UU (r:=.any) (b0:=base) hk (fun j t v a b=>hval j t v (by simpa using a) (by simpa using b)) hA hfit;refine((law pvss h1).calls hS W (agX W hG) args h2).mono ?_;rintro e W' ⟨val,bs,rfl,hg,_,_,vs,q1,q2⟩
 obtain⟨v0,vs',e1,e2,e3,e4⟩:=q2;have hq1:vs=[val]:=q1;subst hq1;cases e1;have hv:val=.bool true:=by
  generalize hx:PV.bool true=x at e2;cases e2<;>cases hx
  rfl
 subst hv;have hb:Below W.heap.size W W':=⟨hg.os,hg.tape,hg.output,hg.size,hg.keep⟩;have hlt:∀x∈p++[],x.block<W.heap.size:=fun x hx=>hW'.lt x hx;refine⟨_,rfl,AY (pa:=p) (pv:=[]) hW' ?_ ?_ ?_ rfl hb ?_⟩
 .intro b sp hd;rw[abo,hfn H ds hlen,ac6];exact trodAll_cons_mk (shut_bool htb _) trodAll_mk0
 .intro sp' hsp;rw[abo,hfn H ds hlen];exact AR (fun t ht=>⟨n,hk t ht⟩) hA (fun x hx=>hb.same (hlt x (by simpa using hx))) (fun x hx=>hsp x (by simpa using hx))
 .intro sp' hsp;rw[abo,hfn H ds hlen,ad4];rfl
 exact ok_one ac6 rfl (okWide_bool_mk htb _)
end Go.Abs
namespace Go.Abs
theorem Fo(env:Env)(t:Nat)(v:V):put env (some t) v=fY env t v:=rfl
theorem Fp(env:Env)(v:V):put env none v=env:=rfl
theorem ZB(env:Env)(n:Nat):ev env (.t n)=env n:=rfl
theorem ZD(env:Env)(n:Int):ev env (.i n)=.one (.p (.int .i64 n)):=rfl
theorem ZE(env:Env)(x:Bool):ev env (.b x)=.one (.p (.bool x)):=rfl
theorem ZC(env:Env)(v:V):ev env (.k v)=v:=rfl
theorem Cf(a:V)(l:List V):qd (a::l) 0=a:=rfl
theorem Cg(a:V)(l:List V)(n:Nat):qd (a::l) (n+1)=qd l n:=rfl
def vW(v:V)(want:Bool):Option Bool:=match v with
 | .one (.p (.bool b))=>some (b==want)
 | .undef=>some false
 |_=>none
theorem xG(b want:Bool):vW (.one (.p (.bool b))) want=some (b==want):=rfl
theorem vV(want:Bool):vW .undef want=some false:=rfl
section
variable {S:Sys} {al:Al} {o:aj} {env:Env} {blk:aw} {tr:List dR} {K:Env->aw->List dR->Prop} {d:Option Nat}
theorem sT{id:Nat}{Q:cU}:eT id Q .normal env blk=Q .normal env blk:=rfl
theorem Af{id:Nat}{Q:cU}:eT id Q .ret env blk=Q .ret env blk:=rfl
theorem wT{id i:Nat}{Q:cU}:eT id Q (.exit i) env blk=if i=id then Q .normal env blk else Q (.exit i) env blk:=rfl
end
def WN (S:Sys)(al:Al)(ops:List aj)(Q:Env->aw->Prop)(env:Env)(blk:aw):Prop:=∀tr,WO S al ops (fun env blk _=>Q env blk) env blk tr
def MN(S:Sys)(al:Al)(p:d9)(d:Option Nat)(env:Env)(blk:aw)(K:Env->aw->Prop):Prop:=
 match p with
 | .fail=>False
 | .done v u r=>al.kY (r++u.map (·.1))=true/\K (put env d v) (app u blk)
 | .pc f vs r s=>∃x,aP S f vs x/\match land blk r s (x.bn (S.lone s)) with
  |some (v,u)=>al.kY (r++u.map (·.1))=true/\K (put env d v) (app u blk)
  |none=>False
 | .sc f vs=>al.holds (allow (S.ctx al) f vs blk)=true/\ ∃v aaf,nQ S f vs (allow (S.ctx al) f vs blk) blk v aaf/\K (put env d v) aaf
def Ud(S:Sys)(al:Al)(w:Option Bool)(o:aj)(env:Env)(blk:aw)(K:Env->aw->Prop):Prop:=
 match w with
 |none=>False
 |some false=>K (put env o.dst .undef) blk
 |some true=>MN S al (aM S.shared env blk o.op) o.dst env blk K
section
variable {S:Sys} {al:Al} {env:Env} {blk:aw}
theorem X1{ops:List aj}{R R':Env->aw->Prop}{tr tr':List dR}(h:WO S al ops (fun env blk _=>R env blk) env blk tr)(hR:∀e b,R e b->R' e b):WO S al ops (fun env blk _=>R' env blk) env blk tr':=by obtain⟨n,e,b,es,h1,h2⟩:=h;exact⟨n,e,b,es,h1,hR _ _ h2⟩
theorem Jk{ops:List aj}{Q:cU}:W S al (.region false ops) Q env blk↔WN S al ops (fun env blk=>Q .normal env blk) env blk:=by
 rw[uP];constructor
 .intro h tr;obtain⟨n,e,b,es,h1,_,h2⟩:=h;exact⟨n,e,b,es,h1,h2⟩
 intro h;obtain⟨n,e,b,es,h1,h2⟩:=h [];exact⟨n,e,b,es,h1,(fun h=>by cases h),h2⟩
theorem Jm{R:Env->aw->Prop}:WN S al [] R env blk↔R env blk:=⟨fun h=>tG.1 (h []),fun h _=>tG.2 h⟩
theorem F7{o:aj}{os:List aj}{R:Env->aw->Prop}{w:Option Bool}(tr:List dR):V4 S al w o env blk tr (WO S al os fun e b _=>R e b)↔Ud S al w o env blk (WN S al os R):=by
 have k:∀ {e:Env} {b:aw} {t:List dR},WO S al os (fun e b _=>R e b) e b t↔WN S al os R e b:=fun {e b t}=>⟨fun h t'=>X1 h fun _ _ h=>h,fun h=>h t⟩;cases w with
 |none=>exact Iff.rfl
 |some w=>
  cases w with
  |false=>exact k (t:=tr++[⟨[],[],[]⟩])
  |true=>
   simp only[V4,Ud];cases aM S.shared env blk o.op with
   |fail=>exact Iff.rfl
   |done v u r=>simp only[Xj,MN,k]
   |pc f vs r s=>
    simp only[Xj,MN];refine exists_congr fun x=>and_congr Iff.rfl ?_;cases land blk r s (x.bn (S.lone s)) with
    |none=>exact Iff.rfl
    |some y=>simp only[k]
   |sc f vs=>simp only[Xj,MN,k]
theorem wV{o:aj}{os:List aj}{R:Env->aw->Prop}:WN S al (o::os) R env blk↔Ud S al (wanted env o.guard) o env blk (WN S al os R):=by
 constructor
 .intro h;exact(F7 []).1 (mI.1 (h []))
 intro h tr;exact mI.2 ((F7 tr).2 h)
variable {o:aj} {K:Env->aw->Prop} {d:Option Nat}
end
theorem bft:(false==true)=false:=rfl
theorem btf:(true==false)=false:=rfl
theorem bff:(false==false)=true:=rfl
theorem btt:(true==true)=true:=rfl
theorem Pa{blk:aw}{x:PV}:fH blk (.one (.p x))=some (.one (.p x)):=rfl
theorem norm_int(k:IntKind)(n:Int):(PV.int k n).norm=.int k n:=rfl
theorem BG(b:Bool):(PV.bool b).norm=.bool b:=rfl
theorem FG(s:ByteArray):(PV.str s).norm=.str s:=rfl
theorem BB:PV.nils.norm=.sl []:=rfl
theorem JY(es:List (List PV)):(PV.sl es).norm=.sl es:=rfl
theorem yD(es:List PV):(PV.box es).norm=.box es:=rfl
theorem Ka(f:Nat)(a b:List PV):(PV.fn f a b).norm=.fn f a b:=rfl
theorem BC:PV.abN.norm=.abN:=rfl
theorem BE:PV.aaI.norm=.aaI:=rfl
theorem BD:PV.abn.norm=.abn:=rfl
theorem JZ(a:Bool)(e:List (PV×List PV)):(PV.mp a e).norm=.mp a e:=rfl
theorem xT{blk:aw}:mQ blk []=some ([],[]):=rfl
def xV(x:Option (V×List Nat))(y:Option (List V×List Nat)):Option (List V×List Nat):=match x,y with
 |some (b,x),some (bs,y)=>some (b::bs,x++y)
 |_,_=>none
theorem v8{blk:aw}{x:V}{xs:List V}:mQ blk (x::xs)=xV (gD blk x) (mQ blk xs):=by simp only[mQ,xV,collect];cases gD blk x<;>cases collect (gD blk) xs<;>rfl
theorem sI{b:V}{x:List Nat}{bs:List V}{y:List Nat}:xV (some (b,x)) (some (bs,y))=some (b::bs,x++y):=rfl
theorem JF{blk:aw}{x:PV}:gD blk (.one (.p x))=some (.one (.p x.norm),[]):=rfl
end Go.Abs
