/-
  Each operation of the abstract machine is what the program does: the second part.
-/
import Derived.Test.YtjdfokaegjgddaaGreatDoorMa
import Derived.Laws.BytesString
import Derived.LoopN
import Derived.Scope
import Derived.Orders
import Derived.ChangeReads
import Derived.ChangeStays
import Derived.DataReads
import Derived.Below
import Derived.Sort.Grow
import Derived.Deep.Draws
import Derived.Lib.ItoaNum
import Derived.Lib.Join
import Derived.Lib.BitFns
import Derived.Lib.LaidTab
import Derived.ChangeSame
import Derived.ProofKit
import Derived.OpenShut
set_option linter.all false
namespace Go.Abs
variable {P:Program} {w0:World}
section
variable{ag:Bool}
def TT(w:World)(own:Nat->Prop)(ag:Bool)(es:List (PV×List PV))(ents:Array MapEntry):Prop:=ents.size=es.length/\ ∀(i:Nat) (q:PV) (v:List PV) (e:MapEntry),es[i]?=some (q,v)->ents[i]?=some e->bt w own q e.key/\ ∃g:Array Value,(ag=true->e.val=.agg g)/\(ag=false-> #[e.val]=g)/\aY w own v g.toList
theorem lU{w:World}{r:Nat}{es:Array MapEntry}{clock:Nat}(hb:w.heap[r]?=some (.map es clock)):(getObj r).run P w=.ok (.map es clock) w:=by simp[getObj,Sem.run,hb]
theorem yt{w:World}{r:Nat}{es:Array MapEntry}{clock:Nat}{ob:Obj}(hb:w.heap[r]?=some (.map es clock)):(setObj r ob).run P w=.ok () {w with heap:=w.heap.setIfInBounds r ob}:=by simp[setObj,Sem.run,hb]
theorem JQ{w:World}{own:Nat->Prop}{es:List (PV×List PV)}{v:Value}(h:bt w own (.mp ag es) v):
  ∃r ents clock,v=.map (some r)/\w.heap[r]?=some (.map ents clock)/\TT w own ag es ents:=by
 cases h with
 |mp r ents clock g ho hb hl hk hv hr=>
  refine⟨r,ents,clock,rfl,hb,hl,fun i q v e h1 h2=>⟨hk i q v e h1 h2,g i,(hv i q v e h1 h2).2.1,(hv i q v e h1 h2).2.2,?_,fun j x u a b=>?_⟩⟩
  .simpa using (hv i q v e h1 h2).1
  exact hr i q v j x u h1 a (by simpa using b)
theorem nz{m:Mem}(Yd:Ok w0 m){id g:Nat}{v:Value}(h:bh m (.one (.YW id g)) v){es:List (PV×List PV)}(hb:m.X9 id=(g,some (.map ag es))\/m.X9 id=(g,some (.fmap ag es))):
  ∃r ents clock,v=.map (some r)/\r=m.σ id/\m.w.heap[r]?=some (.map ents clock)/\TT m.w m.own ag es ents:=by
 have h:cE m (.YW id g) v:=h;cases h with
 |YW r hg hr=>
  rcases hb with hb|hb
  .obtain⟨ents,clock,h1,h2,h3⟩:=Yd.obj id _ (congrArg Prod.snd hb);have:=hr (by rw[hb]) (by rw[hb];rfl);subst this;exact⟨_,ents,clock,rfl,rfl,h1,h2,h3⟩
  obtain⟨ents,clock,h1,h2,h3,_⟩:=Yd.obj id _ (congrArg Prod.snd hb);have:=hr (by rw[hb]) (by rw[hb];rfl);subst this;exact⟨_,ents,clock,rfl,rfl,h1,h2,h3⟩
theorem L0{m:Mem}(Yd:Ok w0 m){x:V}{v:Value}{es:List (PV×List PV)}{r:List Nat}(h:mapOf m.X9 ag x=some (es,r))(hv:bh m x v):
  ∃ents:Array MapEntry,((v=.map none/\ents= #[])\/ ∃ref clock,v=.map (some ref)/\m.w.heap[ref]?=some (.map ents clock))/\TT m.w m.own ag es ents:=by
 unfold mapOf at h;split at h
 .cases h;exact⟨#[],.inl ⟨FO hv,rfl⟩,rfl,fun i q v e h=>by simp at h⟩
 .rename_i ag' es';split at h
  .rename_i e;subst e;cases h;obtain⟨hp⟩:cE m _ v:=hv;obtain⟨r,ents,clock,h1,h2,h3⟩:=JQ hp;exact⟨ents,.inr ⟨r,clock,h1,h2⟩,h3⟩
  cases h
 .rename_i id g;split at h
  .rename_i g' ag' es' hb;split at h
   .rename_i hc;obtain⟨rfl,rfl⟩:=hc;cases h;obtain⟨r,ents,clock,h1,_,h2,h3⟩:=nz Yd hv (.inl hb);exact⟨ents,.inr ⟨r,clock,h1,h2⟩,h3⟩
   cases h
  .rename_i g' ag' es' hb;split at h
   .rename_i hc;obtain⟨rfl,rfl⟩:=hc;cases h;obtain⟨r,ents,clock,h1,_,h2,h3⟩:=nz Yd hv (.inr hb);exact⟨ents,.inr ⟨r,clock,h1,h2⟩,h3⟩
   cases h
  cases h
 cases h
theorem OY{m:Mem}(Yd:Ok w0 m){x:V}{v:Value}{n:Nat}{r:List Nat}(h:y7 m.X9 x=some (n,r))(hv:bh m x v):
  (v=.map none/\n=0)\/ ∃ref ents clock,v=.map (some ref)/\m.w.heap[ref]?=some (.map ents clock)/\ents.size=n:=by
 unfold y7 at h;split at h
 .cases h;exact .inl ⟨FO hv,rfl⟩
 .cases h;obtain⟨hp⟩:cE m _ v:=hv;obtain⟨r,ents,clock,h1,h2,h3⟩:=JQ hp;exact .inr ⟨r,ents,clock,h1,h2,h3.1⟩
 .rename_i id g;split at h
  .rename_i g' ag' es' hb;split at h
   .rename_i hc;subst hc;cases h;obtain⟨r,ents,clock,h1,_,h2,h3⟩:=nz Yd hv (.inl hb);exact .inr ⟨r,ents,clock,h1,h2,h3.1⟩
   cases h
  .rename_i g' ag' es' hb;split at h
   .rename_i hc;subst hc;cases h;obtain⟨r,ents,clock,h1,_,h2,h3⟩:=nz Yd hv (.inr hb);exact .inr ⟨r,ents,clock,h1,h2,h3.1⟩
   cases h
  cases h
 cases h
def GX(kind:TypeDesc)(kd:Nat):Prop:=(kd=0/\ ∃k,kind=.int k)\/(kd=1/\kind=.string)\/(kd=2/\kind=.bool)
theorem BS{t:TypeId}{kd:Nat}(h:keyOf P t=some kd):∃kind,P.underlying t=some kind/\GX kind kd:=by
 unfold keyOf at h;split at h
 .rename_i k hk;cases h;exact⟨_,hk,.inl ⟨rfl,_,rfl⟩⟩
 .rename_i hk;cases h;exact⟨_,hk,.inr (.inl ⟨rfl,rfl⟩)⟩
 .rename_i hk;cases h;exact⟨_,hk,.inr (.inr ⟨rfl,rfl⟩)⟩
 cases h
theorem qo{w:World}{own:Nat->Prop}{k q:PV}{kv qv:Value}{kind:TypeDesc}{b:Bool}(hk:GX kind (eh k))(h:sameKey k q=some b)(h1:bt w own k kv)(h2:bt w own q qv):Instr.sameNow kind kv qv=some b:=by
 unfold sameKey at h;split at h
 .rename_i a b' c d;split at h
  .rename_i e;subst e;cases h;rcases hk with ⟨_,x,rfl⟩|⟨e,_⟩|⟨e,_⟩
   .cases h1;cases h2;simp[Instr.sameNow]
   .simp[eh] at e
   simp[eh] at e
  cases h
 .cases h;rcases hk with ⟨e,_⟩|⟨_,rfl⟩|⟨e,_⟩
  .simp[eh] at e
  .cases h1;cases h2;simp[Instr.sameNow]
  simp[eh] at e
 .cases h;rcases hk with ⟨e,_⟩|⟨e,_⟩|⟨_,rfl⟩
  .simp[eh] at e
  .simp[eh] at e
  cases h1;cases h2;simp[Instr.sameNow]
 cases h
theorem sameKey_eq{w:World}{own:Nat->Prop}{k q:PV}{kv qv:Value}(h:sameKey k q=some true)(h1:bt w own k kv)(h2:bt w own q qv):qv=kv:=by
 unfold sameKey at h;split at h
 .split at h
  .rename_i e;subst e;simp at h;subst h;cases h1;cases h2;rfl
  cases h
 .rename_i a b;have e:(a==b)=true:=by simpa using h
  rw[beq_toListBytes] at e;have e:a=b:=by
   have e:a.toList=b.toList:=by simpa using e
   rw[ByteArray.toList_eq,ByteArray.toList_eq] at e;exact ByteArray.ext (Array.toList_inj.1 e)
  subst e;cases h1;cases h2;rfl
 .simp at h;subst h;cases h1;cases h2;rfl
 cases h
theorem B9{w:World}{own:Nat->Prop}{k:PV}{kv:Value}{kind:TypeDesc}(hk:GX kind (eh k))(h1:bt w own k kv):∀ {es:List (PV×List PV)} {l:List MapEntry} {i:Nat} {f:Option (Nat×List PV)},
  l.length=es.length->(∀(j:Nat) (q:PV) (v:List PV) (e:MapEntry),es[j]?=some (q,v)->l[j]?=some e->bt w own q e.key)->kN k es i=some f->
  (f=none/\Instr.findNow kind kv l i=some none)\/ ∃j q v e,f=some (i+j,v)/\es[j]?=some (q,v)/\l[j]?=some e/\sameKey k q=some true/\Instr.findNow kind kv l i=some (some (i+j,e.val)):=by
 intro es
 induction es with
 |nil=>
  intro l i f hl _ hf;simp[kN] at hf;cases l with
  |nil=>exact .inl ⟨hf.symm,rfl⟩
  |cons _ _=>simp at hl
 |cons p r ih=>
  intro l i f hl hq hf;obtain⟨a,v⟩:=p;cases l with
  |nil=>simp at hl
  |cons e l=>
   have hpe:=hq 0 a v e rfl rfl;simp only[kN] at hf;split at hf
   .rename_i hs;cases hf;exact .inr ⟨0,a,v,e,rfl,rfl,rfl,hs,by simp[Instr.findNow,qo hk hs h1 hpe]⟩
   .rename_i hs;rcases ih (l:=l) (i:=i+1) (f:=f) (by simpa using hl) (fun j q v e a b=>hq (j+1) q v e (by simpa using a) (by simpa using b)) hf with ⟨e1,e2⟩|⟨j,q,v',e',e1,e2,e3,e4,e5⟩
    .exact .inl ⟨e1,by simp[Instr.findNow,qo hk hs h1 hpe,e2]⟩
    refine .inr ⟨j+1,q,v',e',by rw[e1];congr 2;omega,by simpa using e2,by simpa using e3,e4,?_⟩;simp only[Instr.findNow,qo hk hs h1 hpe,e5];congr 3;omega
   cases hf
theorem AZ{t:TypeId}{kind:TypeDesc}{kd:Nat}{b:Bool}{v:Value}(w:World)(h:P.underlying t=some kind)(hk:GX kind kd)(n:Nat):(Instr.checkKey b (n+1) t v).run P w=.ok () w:=by rcases hk with ⟨_,k,rfl⟩|⟨_,rfl⟩|⟨_,rfl⟩<;>simp[Instr.checkKey,run_underlying h]
theorem jq{t:TypeId}{kind:TypeDesc}{kd:Nat}{b:Bool}{v:Value}(w:World)(h:P.underlying t=some kind)(hk:GX kind kd):(Instr.checkKey b 10000 t v).run P w=.ok () w:=AZ w h hk 9999
theorem AR{w:World}{own:Nat->Prop}{k:PV}{kv:Value}{kind:TypeDesc}(hk:GX kind (eh k))(h:bt w own k kv)(n:Nat):Instr.sameBits n kv kv=true:=by
 cases h<;>first
  |(simp[eh,GX] at hk;done)
  |(simp[Instr.sameBits];done)
  |(simp[Instr.sameBits,beq_toListBytes];done)
theorem vd{w0 w:World}{own:Nat->Prop}{k:PV}{kv:Value}{kind:TypeDesc}(hk:GX kind (eh k))(h:bt w0 own k kv):(Instr.keyThatStays kv kv).run P w=.ok kv w:=by rw[Instr.keyThatStays,AR hk h,if_pos rfl];rfl
theorem mD{t:TypeId}{kind:TypeDesc}{v:Value}{l:List MapEntry}{r:Option (Nat×Value)}(w:World)(h:P.underlying t=some kind)(hf:Instr.findNow kind v l 0=some r):(Instr.findKey t v l).run P w=.ok r w:=by simp[Instr.findKey,run_underlying h,hf]
theorem yX{m:Mem}{v:List PV}{x:V}{val:Value}{g:Array Value}(h:mapVal ag v=some x)(h1:ag=true->val=.agg g)(h2:ag=false-> #[val]=g)(hp:aY m.w m.own v g.toList):bh m x val/\ii m x val:=by
 cases ag with
 |true=>simp only[mapVal,aau] at h;subst h;exact⟨bh.agg.2 ⟨g,h1 rfl,hp.Rh⟩,⟨g,h1 rfl,hp.Rh⟩⟩
 |false=>
  have h2:=h2 rfl;subst h2;cases v with
  |nil=>simp[mapVal] at h
  |cons c r=>
   cases r with
   |nil=>simp only[mapVal,aau] at h;subst h;have:=hp.2 0 c val rfl rfl;exact⟨kV this,cE.p this⟩
   |cons _ _=>simp[mapVal] at h
section
variable {m:Mem} {env:Env} {a:Act} {o:Oper} (Yd:Ok w0 m) (hr:gT m env a.tmps)
include Yd
theorem Lh{t kt e:TypeId}{s:Nat}(ho:o.op=.makeMap t none):
  fe P w0 a.eval o m (.one (.YW s ((m.X9 s).1+1))) [(s,((m.X9 s).1+1,some (.map ag [])))]:=by
 refine⟨.map (some m.w.heap.size),m.fresh (.map #[] 0) s 0 (.map ag []),.inl ?_,F0 Yd _ s 0 _ ⟨#[],0,zq _ s 0 _,rfl,fun i q v e h=>by simp at h⟩,uz _ s 0 _,zt Yd _ s 0 _,vm _ _ s 0 _,bh.one.2 (.YW _ ?_ fun _ _=>?_)⟩
 .simp[execOp,ho,Instr.makeMap];rfl
 .simp[Mem.fresh,Mem.install,Mem.later,ae]
 simp[Mem.fresh,Mem.install,ae]
include hr
theorem NP{c:Call}{x:Operand}{x':aC}{t k e:TypeId}{n:Nat}{r:List Nat}(ho:o.op=.call c)(hc:c.callee=.builtin .len)(has:c.args= #[x])(hat:c.argTypes[0]?=some t)(ht:P.underlying t=some (.map k e))
  (hx:bK x=some x') (hv:y7 m.X9 (ev env x')=some (n,r)):fe P w0 a.eval o m (.one (.p (.int .i64 n))) []:=by
 refine .calm Yd ?_ (kV (.int _ _));have h0:(#[a.eval x]:Array Value)[0]?=some (a.eval x):=rfl;rcases OY Yd hv (aF hx hr) with ⟨h1,rfl⟩|⟨ref,ents,clock,h1,h2,rfl⟩
 .simp[execOp,ho,resolve,hc,has,hat,invoke,builtin,Builtin.len_,run_underlying ht,h1,goInt]
 simp[execOp,ho,resolve,hc,has,hat,invoke,builtin,Builtin.len_,run_underlying ht,h1,goInt,lU h2]
theorem Hv{t kt e:TypeId}{x k:Operand}{x' k':aC}{ok:Bool}{z:List PV}{q:Option Nat}{kd:Nat}{es:List (PV×List PV)}{r:List Nat}{key:PV}{f:Option (Nat×List PV)}{w:V}(ho:o.op=.lookup t x k ok)(ht:P.underlying t=some (.map kt e))
  (hz:sk P e=some z) (hkd:keyOf P kt=some kd) (hag:Q3 P e=q.isSome) (hx:bK x=some x') (hk:bK k=some k') (hm:mapOf m.X9 q.isSome (ev env x')=some (es,r)) (hke:ev env k'=.one (.p key)) (hkk:eh key=kd)
  (hf:kN key es 0=some f) (hw:mapVal q.isSome ((f.map (·.2)).getD z)=some w):fe P w0 a.eval o m (if ok then .tup [w,.one (.p (.bool f.isSome))] else w) []:=by
 obtain⟨kind,ZL,abI⟩:=BS hkd;obtain⟨ents,adl,hl,Yr⟩:=L0 Yd hm (aF hx hr);have hkr:=aF hk hr;rw[hke] at hkr;obtain⟨YB⟩:cE m _ _:=hkr;have hes:(∃ref clock,a.eval x=.map (some ref)/\m.w.heap[ref]?=some (.map ents clock))\/a.eval x=.map none/\ents= #[]:=by
  rcases adl with h|h
  .exact .inr h
  exact .inl h
 have key:∀(val:Value) (b:Bool),bh m w val->ii m w val->f.isSome=b->(Instr.lookup t (a.eval x) (a.eval k) ok).run P m.w=.ok (if ok then .tuple #[val,.bool b] else val) m.w->fe P w0 a.eval o m (if ok then .tup [w,.one (.p (.bool f.isSome))] else w) []:=by
  intro val b h1 Z7 h2 h3;refine .calm Yd (x:=if ok then .tuple #[val,.bool b] else val) ?_ ?_
  .simp[execOp,ho,h3]
  cases ok
  .exact h1
  refine⟨_,rfl,rfl,fun j y u p q=>?_⟩;rcases j with _|_|j
  .simp at p q;subst p q;exact Z7
  .simp at p q;subst p q;rw[h2];exact cE.p (.bool _)
  simp at p
 rcases B9 (kind:=kind) (by rw[hkk];exact abI) YB (l:=ents.toList) (by simpa using hl) (fun j q v e h1 h2=>(Yr j q v e h1 (by simpa using h2)).1) hf with ⟨rfl,hn⟩|⟨j,q',v,e',rfl,h2,h3,_,hn⟩
 .obtain⟨zv,i,hi,hiz,hzs,hzl,YK⟩:=m7 hz;obtain⟨v1,v2⟩:=yX (m:=m) (val:=zv) (g:=zv.cells) hw (fun hq=>by
    rw[hq] at hag;unfold Q3 at hag;rw[hi] at hag;simp only[hiz] at hag;cases zv<;>simp[Value.cells] at hag ⊢) (fun hq=>by
    rw[hq] at hag;unfold Q3 at hag;rw[hi] at hag;simp only[hiz] at hag;cases zv<;>simp[Value.cells] at hag ⊢) (YK m.w m.own)
  refine key zv false v1 v2 rfl ?_;have hfk:=mD (P:=P) m.w ZL hn;rcases hes with ⟨ref,clock,h1,h2⟩|⟨h1,h2⟩
  .cases ok<;>simp[Instr.lookup,run_underlying ht,h1,lU h2,jq m.w ZL abI,hfk,zeroValue,typeInfo,hi,hiz]
  subst h2;cases ok<;>simp[Instr.lookup,run_underlying ht,h1,jq m.w ZL abI,Instr.findKey,run_underlying ZL,Instr.findNow,zeroValue,typeInfo,hi,hiz]
 obtain⟨hqk,g,hg1,hg2,YK⟩:=Yr j q' v e' h2 (by simpa using h3);obtain⟨v1,v2⟩:=yX hw hg1 hg2 YK;refine key e'.val true v1 v2 rfl ?_;have hfk:=mD (P:=P) m.w ZL hn;rcases hes with ⟨ref,clock,h1,h2⟩|⟨h1,h2⟩
 .cases ok<;>simp[Instr.lookup,run_underlying ht,h1,lU h2,jq m.w ZL abI,hfk]
 subst h2;simp at h3
theorem EK{t kt e:TypeId}{x k y:Operand}{x' k' y':aC}{kd:Nat}{ag:Bool}{id g:Nat}{es:List (PV×List PV)}{key:PV}{cs:List C}{ps:List PV}{f:Option (Nat×List PV)}(ho:o.op=.mapUpdate t x k y\/o.op=.insert t x k y)(ht:P.underlying t=some (.map kt e))
  (hkd:keyOf P kt=some kd) (hx:bK x=some x') (hk:bK k=some k') (hy:bK y=some y') (hm:ev env x'=.one (.YW id g)) (hb:m.X9 id=(g,some (.map ag es))) (hke:ev env k'=.one (.p key)) (hkk:eh key=kd)
  (YD:jR ag (ev env y')=some cs) (YK:AP cs=some ps) (hf:kN key es 0=some f):
  fe P w0 a.eval o m .undef [(id,(g,some (.map ag (match f with|some (i,_)=>es.set i (key,ps)|none=>es++[(key,ps)]))))]:=by
 obtain⟨kind,ZL,abI⟩:=BS hkd;have hxr:=aF hx hr;rw[hm] at hxr;have hid:=congrArg Prod.snd hb;have hg:=congrArg Prod.fst hb;obtain⟨ref,ents,clock,hxv,Yh,hh,hl,Yr⟩:=nz Yd hxr (.inl hb);subst Yh;have hkr:=aF hk hr;rw[hke] at hkr;obtain⟨YB⟩:cE m _ _:=hkr;have hyr:=aF hy hr
 -- the value's cells
 have hval:∃gv:Array Value,(ag=true->a.eval y=.agg gv)/\(ag=false-> #[a.eval y]=gv)/\aY m.w m.own ps gv.toList:=by
  generalize ev env y'=vy at YD hyr;cases ag with
  |true=>
   cases vy<;>simp[jR] at YD
   subst YD;obtain⟨arr,h1,h2⟩:=bh.agg.1 hyr;exact⟨arr,fun _=>h1,fun h=>(by cases h),qj YK h2⟩
  |false=>
   cases vy<;>simp[jR] at YD
   subst YD;refine⟨#[a.eval y],fun h=>(by cases h),fun _=>rfl,qj YK ⟨rfl,fun j x u p q=>?_⟩⟩;rcases j with _|j
   .simp at p q;subst p q;exact hyr
   simp at p
 obtain⟨gv,hv1,hv2,hvp⟩:=hval;have Ye:=gn hh;have akE:∀(aao:Array MapEntry) (ZS:Nat) (es':List (PV×List PV)),(execOp a.eval o).run P m.w=.ok .skip {m.w with heap:=m.w.heap.setIfInBounds (m.σ id) (.map aao ZS)}->TT m.w m.own ag es' aao->
   fe P w0 a.eval o m .undef [(id,(g,some (.map ag es')))]:=by
  intro aao ZS es' Zk adl;have hs:(m.w.heap.setIfInBounds (m.σ id) (.map aao ZS)).size=m.w.heap.size:=by simp
  have hko:∀c,c≠m.σ id->(m.w.heap.setIfInBounds (m.σ id) (.map aao ZS))[c]?=m.w.heap[c]? :=fun c hc=>by rw[Array.getElem?_setIfInBounds];rw[if_neg (fun e=>hc e.symm)]
  have YU:Ev m (m.iM {m.w with heap:=m.w.heap.setIfInBounds (m.σ id) (.map aao ZS)} id (.map ag es')):=tX hid rfl rfl rfl rfl rfl hs hko;refine⟨_,m.iM {m.w with heap:=m.w.heap.setIfInBounds (m.σ id) (.map aao ZS)} id (.map ag es'),.inr ⟨Zk,rfl⟩,xf hid rfl Yd rfl rfl rfl rfl hs hko ?_,YU,rfl,?_,rfl⟩
  .refine⟨aao,ZS,?_,adl.1,fun i q v e h1 h2=>?_⟩
   .show(m.w.heap.setIfInBounds (m.σ id) (.map aao ZS))[m.σ id]?=_;rw[Array.getElem?_setIfInBounds,if_pos rfl,if_pos Ye]
   obtain⟨p1,gg,p2,p3,p4⟩:=adl.2 i q v e h1 h2;exact⟨p1.ev YU.zero,gg,p2,p3,p4.ev YU.zero⟩
  simp only[Mem.iM,app,hg]
 rcases B9 (kind:=kind) (by rw[hkk];exact abI) YB (l:=ents.toList) (by simpa using hl) (fun j q v e h1 h2=>(Yr j q v e h1 (by simpa using h2)).1) hf with ⟨rfl,hn⟩|⟨j,q',v,e',rfl,h2,h3,h4,hn⟩
 .refine akE (ents.push {key:=a.eval k,val:=a.eval y,born:=clock}) (clock+1) _ ?_ ?_
  .have hfk:=mD (P:=P) m.w ZL hn;rcases ho with ho|ho<;>simp[execOp,ho,Instr.mapUpdate,run_underlying ht,hxv,lU hh,jq m.w ZL abI,hfk,yt hh]
  refine⟨by simp[hl],fun i q v e h1 h2=>?_⟩;by_cases hi:i<es.length
  .rw[acw hi] at h1;rw[Array.getElem?_push,if_neg (by omega)] at h2;exact Yr i q v e h1 h2
  rw[acz (by omega)] at h1;have:i=es.length:=by
   by_cases h:i-es.length=0
   .omega
   have:=(aac.1 h1).1;simp at this;omega
  subst this;simp at h1;obtain⟨rfl,rfl⟩:=h1;rw[Array.getElem?_push,if_pos hl.symm] at h2;cases h2;exact⟨YB,gv,hv1,hv2,hvp⟩
 have h3':ents[j]?=some e':=by simpa using h3
 have hqe:e'.key=a.eval k:=sameKey_eq h4 YB (Yr j q' v e' h2 h3').1;refine akE (ents.modify j fun e=>{e with key:=a.eval k,val:=a.eval y}) clock _ ?_ ?_
 .have hfk:=mD (P:=P) m.w ZL hn;rw[aa0] at hfk;have hks:(Instr.keyThatStays e'.key (a.eval k)).run P m.w=.ok (a.eval k) m.w:=by rw[hqe];exact vd (kind:=kind) (by rw[hkk];exact abI) YB
  rcases ho with ho|ho<;>simp[execOp,ho,Instr.mapUpdate,run_underlying ht,hxv,lU hh,jq m.w ZL abI,hfk,yt hh,h3',hks]
 simp only[aa0];refine⟨by simp[hl],fun i q v e h1 h2=>?_⟩;rw[abj] at h1;rw[Array.getElem?_modify] at h2;by_cases Zp:j=i
 .subst Zp;rw[if_pos rfl] at h1;split at h1
  .cases h1;simp[h3'] at h2;subst h2;exact⟨YB,gv,hv1,hv2,hvp⟩
  cases h1
 rw[if_neg Zp] at h1;rw[if_neg Zp] at h2;exact Yr i q v e h1 h2
end
end
end Go.Abs
namespace Go.Abs
variable {P:Program} {w0:World}
theorem v7{t:TypeId}{b:Bool}(h:CS P t=some b):(b=true/\ ∃k,P.underlying t=some (.int k))\/(b=false/\P.underlying t=some .bool):=by
 unfold CS at h;split at h
 .rename_i k hk;cases h;exact .inl ⟨rfl,_,hk⟩
 .rename_i hk;cases h;exact .inr ⟨rfl,hk⟩
 cases h
theorem PS{a b:PV}{r:Bool}(h:Kr true a b=some r):∃k x y,a=.int k x/\b=.int k y/\r=(x==y):=by
 cases a<;>cases b<;>simp[Kr] at h
 exact⟨_,_,_,rfl,by rw[h.1],h.2.symm⟩
theorem MA{a b:PV}{r:Bool}(h:Kr false a b=some r):∃x y,a=.bool x/\b=.bool y/\r=(x==y):=by
 cases a<;>cases b<;>simp[Kr] at h
 exact⟨_,_,rfl,rfl,h.symm⟩
theorem PQ{as bs:List C}{r:Bool}(h:ti [] as bs=some r):r=true:=by
 cases as<;>cases bs<;>simp[ti] at h
 exact h
theorem Mz{k:Bool}{ks:List Bool}{as bs:List C}{r:Bool}(h:ti (k::ks) as bs=some r):
  ∃a ar b br r0,as=.p a::ar/\bs=.p b::br/\Kr k a b=some r0/\(r0=true->ti ks ar br=some r)/\(r0=false->r=false):=by
 cases as with
 |nil=>simp[ti] at h
 |cons x ar=>
  cases bs with
  |nil=>cases x<;>simp[ti] at h
  |cons y br=>
   cases x<;>cases y<;>simp only[ti] at h<;>try cases h
   rename_i a b;cases he:Kr k a b with
   |none=>simp[he] at h
   |some r0=>
    refine⟨a,ar,b,br,r0,rfl,rfl,he,fun e=>?_,fun e=>?_⟩
    .subst e;simpa [he] using h
    subst e;simp[he] at h;exact h
theorem DI{w:World}{m:Mem}(d:Nat){A B:Array Value}:∀ {fs:List Field} {ks:List Bool} {k:Nat} {as bs:List C} {r:Bool},rq P k fs=some ks->ti ks as bs=some r->
  (∀(j:Nat) (x:C),as[j]?=some x->∃v,A[k+j]?=some v/\cE m x v)->(∀(j:Nat) (x:C),bs[j]?=some x->∃v,B[k+j]?=some v/\cE m x v)->
  (Op.eqFields (d+1) A B fs).run P w=.ok r w:=by
 intro fs
 induction fs with
 |nil=>intro ks k as bs r hf he _ _;simp[rq] at hf;subst hf;rw[PQ he];simp[Op.eqFields,Sem.run_pure]
 |cons f fs ih=>
  intro ks k as bs r hf he ha hb;simp only[rq] at hf;split at hf
  .rename_i b bs' h1 h2;split at hf
   .rename_i hc;obtain⟨aiN,ak4⟩:=hc;cases hf;obtain⟨x,ar,y,br,r0,rfl,rfl,h0,ht,hf⟩:=Mz he;obtain⟨va,hva,hra⟩:=ha 0 (.p x) rfl;obtain⟨vb,hvb,hrb⟩:=hb 0 (.p y) rfl;obtain⟨hra⟩:=hra;obtain⟨hrb⟩:=hrb;rw[abY] at hva hvb;have aca:∀(X:Array Value) (v:Value),X[k]?=some v->(part f.type X f.offset).run P w=.ok v w:=by
     intro X v hX;have hag:(isAgg f.type).run P w=.ok false w:=by rcases v7 h1 with ⟨_,kk,hu⟩|⟨_,hu⟩<;>simp[isAgg,run_underlying hu]
     rw[aiN];simp[part,hag,hX]
    have aoJ:(Op.equalIn (d+1) f.type va vb).run P w=.ok r0 w:=by
     rcases v7 h1 with ⟨rfl,kk,hu⟩|⟨rfl,hu⟩
     .obtain⟨k',p,q,rfl,rfl,rfl⟩:=PS h0;cases hra;cases hrb;simp[Op.equalIn,run_underlying hu]
     obtain⟨p,q,rfl,rfl,rfl⟩:=MA h0;cases hra;cases hrb;simp[Op.equalIn,run_underlying hu]
    simp only[Op.eqFields,if_pos ak4,Sem.run_bind,aca A va hva,aca B vb hvb,aoJ,Result.andThen_ok];cases r0 with
    |false=>rw[hf rfl];simp[Sem.run_pure]
    |true=>simp only[acC,aaq,if_false];exact ih h2 (ht rfl) (fun j x hx=>by have:=ha (j+1) x (by simpa using hx);rwa[show k+(j+1)=k+1+j by omega] at this) (fun j x hx=>by have:=hb (j+1) x (by simpa using hx);rwa[show k+(j+1)=k+1+j by omega] at this)
   cases hf
  cases hf
def uP:KN->Value->Bool->Prop
 | .ptr,v,b=>∃a,v=.pointer a/\a.isNone=b
 | .slc,v,b=>∃a l c,v=.slice a l c/\a.isNone=b
 | .map,v,b=>∃r,v=.map r/\r.isNone=b
 | .fnc,v,b=>(v=.nilFunc/\b=true)\/ ∃f x y,v=.func f x y/\b=false
 | .ifc,v,b=>(v=.nilIface/\b=true)\/ ∃d x,v=.iface d x/\b=false
 |_,_,_=>False
theorem eK{m:Mem}{k:KN}{x:V}{v:Value}{b:Bool}(h:sY k x=some b)(hr:bh m x v):uP k v b:=by
 unfold sY at h;split at h<;>cases h
 all_goals first
  |(obtain⟨hp⟩:cE m _ v:=hr;cases hp;first
    |exact⟨_,rfl,rfl⟩
    |exact⟨_,_,_,rfl,rfl⟩
    |exact .inl ⟨rfl,rfl⟩
    |exact .inr ⟨_,_,_,rfl,rfl⟩
    |exact .inr ⟨_,_,rfl,rfl⟩)
  |(have hc:cE m _ v:=hr;cases hc;first
    |exact⟨_,rfl,rfl⟩
    |exact⟨_,_,_,rfl,rfl⟩
    |exact .inr ⟨_,_,_,rfl,rfl⟩)
def Jb(P:Program)(t:TypeId):KN->Prop
 | .bool=>P.underlying t=some .bool
 | .ptr=>∃e,P.underlying t=some (.pointer e)
 | .slc=>∃e,P.underlying t=some (.slice e)
 | .map=>∃a b,P.underlying t=some (.map a b)
 | .fnc=>∃a b c,P.underlying t=some (.func a b c)
 | .ifc=>∃a,P.underlying t=some (.interface a)
 | .str ks=>∃fs,P.underlying t=some (.struct fs)/\P.stoodInHeld t=false/\P.eqGuardType P.depth t=false/\rq P 0 fs.toList=some ks
theorem zJ{t:TypeId}{x y:Operand}{k:KN}(h:zK P t x y=some k):Jb P t k/\(k=.ifc->nl x=true\/nl y=true):=by
 unfold zK at h;split at h
 .rename_i a ha;split at h
  .rename_i hc;cases h;exact⟨⟨_,ha⟩,fun _=>by simpa using hc⟩
  cases h
 .rename_i ha;cases h;exact⟨ha,fun e=>by cases e⟩
 .rename_i ha;cases h;exact⟨⟨_,ha⟩,fun e=>by cases e⟩
 .rename_i ha;cases h;exact⟨⟨_,ha⟩,fun e=>by cases e⟩
 .rename_i ha;cases h;exact⟨⟨_,_,ha⟩,fun e=>by cases e⟩
 .rename_i ha;cases h;exact⟨⟨_,_,_,ha⟩,fun e=>by cases e⟩
 .rename_i fs ha;split at h
  .rename_i hc;simp only[aap] at h;obtain⟨ks,h1,rfl⟩:=h;simp at hc;exact⟨⟨fs,ha,hc.1,hc.2,h1⟩,fun e=>by cases e⟩
  cases h
 cases h
theorem wD{t:TypeId}{k:KN}{v u:Value}{a b:Bool}(w:World)(hk:Jb P t k)(h1:uP k v a)(h2:uP k u b)(Zv:a=true\/b=true)(d:Nat):(Op.equalIn (d+1) t v u).run P w=.ok (a&&b) w:=by
 cases k with
 |bool=>exact h1.elim
 |str n=>exact h1.elim
 |ptr=>obtain⟨e,hu⟩:=hk;obtain⟨x,rfl,rfl⟩:=h1;obtain⟨y,rfl,rfl⟩:=h2;cases x<;>cases y<;>simp at Zv<;>simp[Op.equalIn,run_underlying hu]
 |slc=>obtain⟨e,hu⟩:=hk;obtain⟨x,_,_,rfl,rfl⟩:=h1;obtain⟨y,_,_,rfl,rfl⟩:=h2;cases x<;>cases y<;>simp at Zv<;>simp[Op.equalIn,run_underlying hu]
 |map=>obtain⟨e,e',hu⟩:=hk;obtain⟨x,rfl,rfl⟩:=h1;obtain⟨y,rfl,rfl⟩:=h2;cases x<;>cases y<;>simp at Zv<;>simp[Op.equalIn,run_underlying hu]
 |fnc=>obtain⟨e,e',e'',hu⟩:=hk;rcases h1 with ⟨rfl,rfl⟩|⟨_,_,_,rfl,rfl⟩<;>rcases h2 with ⟨rfl,rfl⟩|⟨_,_,_,rfl,rfl⟩<;>simp at Zv<;>simp[Op.equalIn,run_underlying hu]
 |ifc=>obtain⟨e,hu⟩:=hk;rcases h1 with ⟨rfl,rfl⟩|⟨_,_,rfl,rfl⟩<;>rcases h2 with ⟨rfl,rfl⟩|⟨_,_,rfl,rfl⟩<;>simp at Zv<;>simp[Op.equalIn,run_underlying hu]
section
variable {m:Mem} {env:Env} {a:Act} {o:Oper} (Yd:Ok w0 m) (hr:gT m env a.tmps)
include Yd hr
theorem Ta{t:TypeId}{k:KN}{x y:V}{v u:Value}{b:Bool}(hk:Jb P t k)(h:Tb k x y=some b)(hx:bh m x v)(hy:bh m y u)(d:Nat):(Op.equalIn (d+2) t v u).run P m.w=.ok b m.w:=by
 have _u0:=Yd;have _u1:=hr;unfold Tb at h;split at h
 .cases h;rw[j4 hx,j4 hy];have hk:P.underlying t=some .bool:=hk;simp only[Op.equalIn,Sem.run_bind,run_underlying hk,Result.andThen_ok,Sem.run_pure]
 .obtain⟨A,rfl,hA⟩:=bh.agg.1 hx;obtain⟨B,rfl,hB⟩:=bh.agg.1 hy;obtain⟨fs,hu,hs,_,hf⟩:=hk;have hfo:P.fieldsOf t=fs:=by simp[Program.fieldsOf,hu]
  rw[run_equalIn_agg m.w (d+1) t A B (by rw[hfo];exact hu) hs,hfo];refine DI (w:=m.w) (m:=m) d hf h (fun j x hx=>?_) (fun j x hx=>?_)
  .have Ye:j<A.size:=by have:=hA.1;simp at this;rw[this];exact(aac.1 hx).1
   exact⟨A[j],by simp[Ye],hA.2 j x _ hx (by simp[Ye])⟩
  have Ye:j<B.size:=by have:=hB.1;simp at this;rw[this];exact(aac.1 hx).1
  exact⟨B[j],by simp[Ye],hB.2 j x _ hx (by simp[Ye])⟩
 .cases h
 .cases h
 split at h
 .rename_i hb;have:=wD (P:=P) m.w hk (eK h hx) (eK hb hy) (.inr rfl) (d+1)
  simpa using this
 split at h
 .rename_i ha;have:=wD (P:=P) m.w hk (eK ha hx) (eK h hy) (.inl rfl) (d+1)
  simpa using this
 cases h
theorem Gj{op:BinOp}{t:TypeId}{k:KN}{x y:Operand}{x' y':aC}{b:Bool}(hk:zK P t x y=some k)(hx:bK x=some x')(hy:bK y=some y')(h:Tb k (ev env x') (ev env y')=some b):
  (eqGuard op t x y (a.eval x) (a.eval y)).run P m.w=.ok () m.w:=by
 have _u0:=Yd;obtain⟨Yw,hk2⟩:=zJ hk;have h1:=aF hx hr;have h2:=aF hy hr;by_cases hop:op=.eql\/op=.neq
 .unfold Tb at h;split at h
  .rename_i e1 e2;rw[e1] at h1;rw[j4 h1,eqGuard_at_bool];rfl
  .rename_i e1 e2;rw[e1] at h1;rw[e2] at h2;obtain⟨A,e3,_⟩:=bh.agg.1 h1;obtain⟨B,e4,_⟩:=bh.agg.1 h2;obtain⟨fs,_,_,hg,_⟩:=Yw;rw[e3,e4];exact run_eqGuard_agg m.w op t x y A B hg
  .cases h
  .cases h
  rename_i k q1 q2 q3 q4 q5 q6 q7;have hn:∃b1 b2,uP k (a.eval x) b1/\uP k (a.eval y) b2:=by
   split at h
   .rename_i hb;exact⟨_,_,eK h h1,eK hb h2⟩
   split at h
   .rename_i ha;exact⟨_,_,eK ha h1,eK h h2⟩
   cases h
  obtain⟨b1,b2,n1,n2⟩:=hn;cases k with
  |bool=>exact n1.elim
  |str n=>exact n1.elim
  |ptr=>obtain⟨q,e,_⟩:=n1;rw[e,eqGuard_at_pointer];rfl
  |slc=>obtain⟨q,_,_,e,_⟩:=n1;rw[e,eqGuard_at_slice];rfl
  |map=>obtain⟨q,e,_⟩:=n1;rw[e,eqGuard_at_map];rfl
  |fnc=>
   rcases n1 with ⟨e,_⟩|⟨_,_,_,e,_⟩
   .rw[e,eqGuard_at_nilFunc];rfl
   rw[e,eqGuard_at_func];rfl
  |ifc=>
   rcases n1 with ⟨e,_⟩|⟨_,_,e,_⟩
   .rcases n2 with ⟨e',_⟩|⟨_,_,e',_⟩
    .rw[e,e'];have hc:(∃c,x=.const c)\/ ∃c,y=.const c:=by
      rcases hk2 rfl with hc|hc
      .cases x<;>simp[nl] at hc
       exact .inl ⟨_,rfl⟩
      cases y<;>simp[nl] at hc
      exact .inr ⟨_,rfl⟩
     rcases hc with ⟨c,rfl⟩|⟨c,rfl⟩
     .rw[eqGuard_nil_constL];rfl
     rw[eqGuard_nil_constR];rfl
    rw[e,e',eqGuard_nil_iface];rfl
   rw[e,eqGuard_at_iface];rfl
 have:eqGuard op t x y (a.eval x) (a.eval y)=pure ():=by
  cases op<;>first
   |rfl
   |exact(hop (.inl rfl)).elim
   |exact(hop (.inr rfl)).elim
 rw[this];rfl
theorem A2{t:TypeId}{k:KN}{v u:Value}{b1:Bool}(hs:(∃p q,v=.bool p/\u=.bool q)\/(∃p q,v=.agg p/\u=.agg q)\/ ∃p q,uP k v p/\uP k u q)(h:(Op.equalIn (9998+2) t v u).run P m.w=.ok b1 m.w):
  (binOp .eql t v u).run P m.w=.ok (.bool b1) m.w/\(binOp .neq t v u).run P m.w=.ok (.bool (!b1)) m.w:=by
 have _u0:=Yd;have _u1:=hr;have he:Op.equal t v u=Op.equalIn (9998+2) t v u:=rfl;have key:binOp .eql t v u=(do pure (.bool (<- Op.equal t v u)))/\binOp .neq t v u=(do pure (.bool (!(<- Op.equal t v u)))):=by
  rcases hs with ⟨p,q,rfl,rfl⟩|⟨p,q,rfl,rfl⟩|⟨p,q,h1,h2⟩
  .exact⟨rfl,rfl⟩
  .exact⟨rfl,rfl⟩
  cases k with
  |bool=>exact h1.elim
  |str n=>exact h1.elim
  |ptr=>obtain⟨_,rfl,_⟩:=h1;obtain⟨_,rfl,_⟩:=h2;exact⟨rfl,rfl⟩
  |slc=>obtain⟨_,_,_,rfl,_⟩:=h1;obtain⟨_,_,_,rfl,_⟩:=h2;exact⟨rfl,rfl⟩
  |map=>obtain⟨_,rfl,_⟩:=h1;obtain⟨_,rfl,_⟩:=h2;exact⟨rfl,rfl⟩
  |fnc=>rcases h1 with ⟨rfl,_⟩|⟨_,_,_,rfl,_⟩<;>rcases h2 with ⟨rfl,_⟩|⟨_,_,_,rfl,_⟩<;>exact⟨rfl,rfl⟩
  |ifc=>rcases h1 with ⟨rfl,_⟩|⟨_,_,rfl,_⟩<;>rcases h2 with ⟨rfl,_⟩|⟨_,_,rfl,_⟩<;>exact⟨rfl,rfl⟩
 rw[key.1,key.2,he];simp only[Sem.run_bind,h,Result.andThen_ok,Sem.run_pure,and_self]
theorem Jx{op:BinOp}{t ty:TypeId}{x y:Operand}{x' y':aC}{k:KN}{neg b:Bool}(ho:o.op=.binOp op t x y ty)(hop:(op=.eql/\neg=false)\/(op=.neq/\neg=true))(hk:zK P t x y=some k)(hx:bK x=some x')(hy:bK y=some y')
  (hv:Tb k (ev env x') (ev env y')=some b):fe P w0 a.eval o m (.one (.p (.bool (if neg then !b else b)))) []:=by
 have h1:=aF hx hr;have h2:=aF hy hr;have hg:=Gj Yd hr (op:=op) hk hx hy hv;have he:=Ta Yd hr (zJ hk).1 hv h1 h2 9998;have hs:(∃p q,a.eval x=.bool p/\a.eval y=.bool q)\/(∃p q,a.eval x=.agg p/\a.eval y=.agg q)\/ ∃p q,uP k (a.eval x) p/\uP k (a.eval y) q:=by
  unfold Tb at hv;split at hv
  .rename_i e1 e2;rw[e1] at h1;rw[e2] at h2;exact .inl ⟨_,_,j4 h1,j4 h2⟩
  .rename_i e1 e2;rw[e1] at h1;rw[e2] at h2;obtain⟨A,e3,_⟩:=bh.agg.1 h1;obtain⟨B,e4,_⟩:=bh.agg.1 h2;exact .inr (.inl ⟨A,B,e3,e4⟩)
  .cases hv
  .cases hv
  split at hv
  .rename_i hb;exact .inr (.inr ⟨_,_,eK hv h1,eK hb h2⟩)
  split at hv
  .rename_i ha;exact .inr (.inr ⟨_,_,eK ha h1,eK hv h2⟩)
  cases hv
 obtain⟨r1,r2⟩:=A2 Yd hr hs he;rcases hop with ⟨rfl,rfl⟩|⟨rfl,rfl⟩
 .exact .calm Yd (by simp[execOp,ho,hg,r1]) (kV (.bool _))
 exact .calm Yd (by simp[execOp,ho,hg,r2]) (kV (.bool _))
end
end Go.Abs
namespace Go.Abs
variable {P:Program} {w0:World}
theorem DT:∀ {es:List (List PV)} {bs:List UInt8},bytesOf es=some bs->∃ns:List Int,es.flatten=ns.map (PV.int .u8)/\bs=ns.map (fun n=>UInt8.ofNat n.toNat)/\ns.length=es.length:=by
 intro es
 induction es with
 |nil=>intro bs h;simp[bytesOf] at h;exact⟨[],rfl,h,rfl⟩
 |cons e r ih=>
  intro bs h;unfold bytesOf at h;split at h
  .rename_i e';cases e'
  .rename_i n r' e';cases e';simp only[aap] at h;obtain⟨q,hq,rfl⟩:=h;obtain⟨ns,h1,h2,h3⟩:=ih hq;exact⟨n::ns,by simp[h1],by simp[h2],by simp[h3]⟩
  cases h
theorem R5{w:World}{own:Nat->Prop}:∀ {ns:List Int} {vs:List Value},Pw (bt w own) (ns.map (PV.int .u8)) vs->vs=ns.map (Value.int .u8):=by
 intro ns
 induction ns with
 |nil=>intro vs h;have:=h.1;simp at this;simp[this]
 |cons n ns ih=>
  intro vs h;cases vs with
  |nil=>have:=h.1;simp at this
  |cons v vs=>have h0:=h.2 0 _ v rfl rfl;cases h0;rw[ih (vs:=vs) ⟨by have:=h.1;simpa using this,fun j x u a b=>h.2 (j+1) x u (by simpa using a) (by simpa using b)⟩];rfl
theorem Oi:∀(ns:List Int) (s:ByteArray),ns.foldl (fun r n=>r.push (UInt8.ofNat n.toNat)) s=⟨s.data++(ns.map (fun n=>UInt8.ofNat n.toNat)).toArray⟩:=by
 intro ns
 induction ns with
 |nil=>intro s;cases s;simp
 |cons n ns ih=>intro s;simp only[ab3,aar];rw[ih];cases s;simp[ByteArray.push]
section
variable {m:Mem} {env:Env} {a:Act} {o:Oper} (Yd:Ok w0 m) (hr:gT m env a.tmps)
include Yd hr
theorem NU{s d e:TypeId}{x:Operand}{x':aC}{es:List (List PV)}{r:List Nat}{bs:List UInt8}(ho:o.op=.convert s d x)(hs:P.underlying s=some (.slice e))(he:P.underlying e=some (.int .u8))(hd:P.underlying d=some .string)
  (hx:bK x=some x') (YJ:cM m.X9 (ev env x')=some (es,r,[])) (hb:bytesOf es=some bs):fe P w0 a.eval o m (.one (.p (.str ⟨bs.toArray⟩))) []:=by
 obtain⟨ns,h1,h2,h3⟩:=DT hb;obtain⟨ax,cx,hxv,_,acb⟩:=wE (own:=m.own) Yd YJ (aF hx hr) ⟨fun _ h=>h,fun _ h=>by simp at h⟩;refine .calm Yd (x:=.string ⟨bs.toArray⟩) ?_ (kV (.str _));have key:(Conv.bytesToString (.slice ax es.length cx)).run P m.w=.ok (.string ⟨bs.toArray⟩) m.w:=by
  by_cases Yk:es=[]
  .subst Yk;have:ns=[]:=by simpa using h3
   subst this;have Zq:bs=[]:=by simpa using h2
   subst Zq;cases ax with
   |none=>simp[Conv.bytesToString,Sem.run_pure];rfl
   |some ad=>have:=run_bytesToString (P:=P) m.w ad 0 cx [] (by simp[loadCells,loadCellsFrom,Sem.run_pure]);exact this
  obtain⟨b,off,news,rfl,hpw,aa6⟩:=acb Yk;rw[h1] at hpw;have hn:=R5 hpw;have hl:news.length=es.length:=by rw[hn];simpa using h3
  have ala:(loadCells ⟨b,off,none⟩ es.length).run P m.w=.ok (ns.map (Value.int .u8)).toArray m.w:=by rw[<- hl,<- hn];exact run_loadCells_list m.w ⟨b,off,none⟩ news fun j v hj=>by rw[Addr.add_lit];exact aa6 j v hj
  rw[run_bytesToString m.w _ _ cx ns ala,Oi,h2];simp[ByteArray.empty,ByteArray.emptyWithCapacity];rfl
 simp only[execOp,ho,hxv,Sem.run_bind,run_convert_bytes_string m.w s d e ax es.length cx hs he hd,key,Result.andThen_ok,Sem.run_pure]
end
end Go.Abs
namespace Go.Abs
variable {P:Program} {w0:World}
theorem vJ{xs:Array Operand}{a:aC}(h:jf xs.toList=some [a]):∃x,xs= #[x]/\bK x=some a:=by
 obtain⟨xs⟩:=xs;cases xs with
 |nil=>simp[jf] at h
 |cons x r=>
  simp only[jf] at h;split at h
  .rename_i y ys e1 e2;cases h;cases r with
   |nil=>exact⟨x,rfl,e1⟩
   |cons z r=>simp only[jf] at e2;split at e2<;>simp at e2
  cases h
theorem vI{xs:Array Operand}{a b:aC}(h:jf xs.toList=some [a,b]):∃x y,xs= #[x,y]/\bK x=some a/\bK y=some b:=by
 obtain⟨xs⟩:=xs;cases xs with
 |nil=>simp[jf] at h
 |cons x r=>
  simp only[jf] at h;split at h
  .rename_i y ys e1 e2;cases h;obtain⟨z,hz,hz2⟩:=vJ (xs:=r.toArray) (by simpa using e2);have:r=[z]:=by simpa using congrArg Array.toList hz
   subst this;exact⟨x,z,rfl,e1,hz2⟩
  cases h
theorem KW{xs:Array TypeId}{t u:TypeId}(h1:xs[0]?=some t)(h2:xs[1]?=some u)(hs:xs.size=2):xs= #[t,u]:=by
 obtain⟨xs⟩:=xs
 match xs,hs with
 |[a,b],_=>simp at h1 h2;subst h1 h2;rfl
theorem F7{α:Type}{sz:Nat}{es ys:List (List α)}{off:Nat}(h:∀e∈es,e.length=sz)(hy:∀e∈ys,e.length=sz)(hl:off+ys.length<=es.length):(bi es off ys).flatten=bi es.flatten (off*sz) ys.flatten:=by
 have ht:∀k,k<=es.length->(es.take k).flatten.length=k*sz:=fun k hk=>by rw[nK fun e he=>h e (ab2 he),aay,ab0 hk]
 have e1:es.flatten=(es.take off).flatten++(es.drop off).flatten:=by rw[<- ac8,aa2]
 have e2:es.flatten=(es.take (off+ys.length)).flatten++(es.drop (off+ys.length)).flatten:=by rw[<- ac8,aa2]
 unfold bi;rw[ac8,ac8,nK hy];congr 1
 .congr 1
  conv=>rhs;rw[e1]
  rw[List.take_left' (ht off (by omega))]
 rw[<- aaM]
 conv=>rhs;rw[e2]
 rw[List.drop_left' (ht _ hl)]
theorem Cw{R:PV->Value->Prop}{z:List PV}{v:Array Value}{n:Nat}(hz:Pw R z v.toList):Pw R (List.replicate n z).flatten (Builtin.zeroCells v n).toList:=by
 have hzl:z.length=v.size:=by have:=hz.1;simp at this;omega
 have Yt:∀e∈List.replicate n z,e.length=v.size:=fun e he=>by rw[adX he];exact hzl
 have hlen:(Builtin.zeroCells v n).toList.length=n*v.size:=by simp[size_zeroCells]
 refine⟨by rw[hlen,nK Yt];simp,fun j x u p q=>?_⟩;have hj:j<n*v.size:=by have:=(aac.1 q).1;omega
 have YG:0<v.size:=by
  rcases Nat.eq_zero_or_pos v.size with h|h
  .rw[h] at hj;omega
  exact h
 have hdiv:j/v.size<n:=by rw[Nat.div_lt_iff_lt_mul YG];exact hj
 have agP:j%v.size<v.size:=aat _ YG;have he:(List.replicate n z)[j/v.size]?=some z:=by simp[hdiv]
 have h1:=oR Yt he agP;rw[show j/v.size*v.size+j%v.size=j by rw[Nat.mul_comm];exact Nat.div_add_mod j v.size] at h1;rw[h1] at p;have h2:(Builtin.zeroCells v n).toList[j]?=some v[j%v.size]! :=by unfold Builtin.zeroCells;simp[hj]
 rw[h2] at q;cases q;refine hz.2 (j%v.size) x _ p ?_;simp[agP]
section
variable {m:Mem} {env:Env} {a:Act} {o:Oper} (Yd:Ok w0 m) (hr:gT m env a.tmps)
include Yd hr
theorem Lk{c:Call}{x:Operand}{x':aC}{t e:TypeId}{sz bytes:Nat}{z:List PV}{sh:Nat->Bool}{v:V}{u:List kB}{rd:List Nat}(ho:o.op=.call c)(hc:c.callee=.builtin .clear)(has:c.args= #[x])(hat:c.argTypes[0]?=some t)
  (he:sF P t=some (e,sz,bytes,z)) (hx:bK x=some x') (hp:aR sh env m.X9 (.clear z x')=.done v u rd):fe P w0 a.eval o m v u:=by
 obtain⟨i,zv,ht,hi,hs,hb,⟨YG,acl⟩,hiz,hzs,hzl,YK⟩:=rU he;have hrx:=aF hx hr;have run:∀(y:Value) (w':World),(Builtin.clear_ c.argTypes o.type #[a.eval x]).run P m.w=.ok y w'->(execOp a.eval o).run P m.w=.ok (.value y) w':=by intro y w' h;simp[execOp,ho,resolve,hc,has,invoke,builtin,h]
 have quiet:(Builtin.clear_ c.argTypes o.type #[a.eval x]).run P m.w=.ok (.tuple #[]) m.w->fe P w0 a.eval o m (.tup []) []:=fun h=>
  ⟨.tuple #[],m,.inl (run _ _ h),Yd,Ev.refl _,rfl,rfl,(⟨#[],rfl,rfl,fun j x u h=>by simp at h⟩:bh m (.tup []) _)⟩
 simp only[aR] at hp;split at hp
 .rename_i hv;cases hp;rw[hv] at hrx;have hrx:cE m _ (a.eval x):=hrx;generalize hbb:a.eval x=b at hrx;rw[hbb] at quiet;apply quiet;cases hrx with
  |p h=>cases h;simp[Builtin.clear_,hat,run_underlying ht]
 .rename_i hv;cases hp;rw[hv] at hrx;have hrx:cE m _ (a.eval x):=hrx;generalize hbb:a.eval x=b at hrx;rw[hbb] at quiet;apply quiet;cases hrx with
  |p h=>
   cases h with
   |sl0 a cap hn hm=>cases a<;>simp[Builtin.clear_,hat,run_underlying ht]
   |sl b o cap sz f h1 h2 h3 h4=>simp[Builtin.clear_,hat,run_underlying ht]
 .rename_i id g w off len hv;rw[hv] at hrx;have hrx:cE m _ (a.eval x):=hrx;generalize hbb:a.eval x=b at hrx;rw[hbb] at quiet run;cases hrx with
  |hsl ad cap hg hl hm had=>
   split at hp
   .rename_i h0;cases hp;subst h0;apply quiet;simp[Builtin.clear_,hat,run_underlying ht]
   rename_i h0;split at hp
   .rename_i g' ty YR es hbk;split at hp
    .rename_i acj;obtain⟨ZV,Yv,hfit⟩:=acj;cases hp;have Yp:(m.X9 id).2=some (.arr ty YR es):=by rw[hbk]
     obtain⟨_,had,_⟩:=had YR (by rw[hbk];exact ZV) (by rw[hbk];rfl);have had:=had (.inr (by omega));subst had;obtain⟨cur,hh,hs0,ZY,hl2,hm2,ahN,agL⟩:=Yd.obj id _ Yp;have hze:∀e∈List.replicate len z,e.length=YR:=fun e he=>by rw[adX he];exact Yv.symm
     have anP:zv.cells.size=YR:=by rw[hzs,<- hzl,Yv]
     have hzr:(List.replicate len z).length=len:=List.length_replicate;have hfl:=F7 (off:=off) ZY hze (by rw[hzr];exact hfit);have hil:(off+len)*YR<=es.length*YR:=abh _ hfit;have alk:es.length*YR<=m.κ id*YR:=abh _ hl2;rw[aaM] at hil;generalize hZ:(Builtin.zeroCells zv.cells len).toList=Z;have hZl:Z.length=len*YR:=by rw[<- hZ];simp[size_zeroCells,anP]
     have hZp:∀w own,aY w own (List.replicate len z).flatten Z:=fun w own=>aY.pw.2 (by rw[<- hZ];exact Cw (aY.pw.1 (YK w own)));have agM:∀v∈Z,v.oneCell'=true:=fun v hv=>by
      obtain⟨j,hj⟩:=aaO hv;have Ye:j<(List.replicate len z).flatten.length:=by rw[<- (hZp m.w m.own).1];exact(aac.1 hj).1
      exact((hZp m.w m.own).2 j _ v (abC Ye) hj).ue
     have aaJ:off*YR+0+Z.length<=cur.size:=by rw[hZl,ahN];omega
     have Yz:=run_storeCells_at P (m.σ id) (off*YR) ty Z 0 cur m.w hh aaJ agM;simp only[abY] at Yz;generalize hW:m.w.setRow (m.σ id) (cur.toList.take (off*YR)++Z++cur.toList.drop (off*YR+Z.length)).toArray=W at Yz;have hWs:W.heap.size=m.w.heap.size:=by rw[<- hW];simp
     have hWo:∀c,c≠m.σ id->W.heap[c]?=m.w.heap[c]? :=fun c hc=>by rw[<- hW];exact setRow_other m.w (m.σ id) c _ hc
     have akO:(bi es off (List.replicate len z)).length=es.length:=n9 (by rw[hzr];exact hfit);have YU:=tX (w':=W) (o:=.arr ty YR (bi es off (List.replicate len z))) Yp rfl (by simp[jh]) (by rw[<- hW];rfl) (by rw[<- hW];rfl) (by rw[<- hW];rfl) hWs hWo;have abG:se (m.iM W id (.arr ty YR (bi es off (List.replicate len z)))) id (.arr ty YR (bi es off (List.replicate len z))):=by
      refine⟨_,by rw[<- hW];exact ro hh,hs0,?_,by rw[akO];exact hl2,hm2,?_,?_⟩
      .intro e' he';unfold bi at he';simp only[aaw] at he';rcases he' with (h|h)|h
       .exact ZY e' (ab2 h)
       .exact hze e' h
       exact ZY e' (ab1 h)
      .simp[Mem.iM];omega
      rw[akO,hfl];have h1:=(aY.pw.1 (agL.ev YU.zero)).bi (aY.pw.1 (hZp (m.iM W id (.arr ty YR (bi es off (List.replicate len z)))).w (m.iM W id (.arr ty YR (bi es off (List.replicate len z)))).own)) (off*YR);rw[<- vZ (by omega) (by simp;omega)] at h1;have h1:=aY.pw.2 h1
      simpa [bi] using h1
     refine⟨.tuple #[],m.iM W id (.arr ty YR (bi es off (List.replicate len z))),.inl (run _ _ ?_),xf Yp rfl Yd (by simp[jh]) (by rw[<- hW];rfl) (by rw[<- hW];rfl) (by rw[<- hW];rfl) hWs hWo abG,YU,rfl,?_,(⟨#[],rfl,rfl,fun j x u h=>by simp at h⟩:bh _ (.tup []) _)⟩
     .obtain⟨k,rfl⟩:∃k,len=k+1:=⟨len-1,by omega⟩;simp[Builtin.clear_,hat,run_underlying ht,zeroValue,typeInfo,hi,hiz,hZ,Yz,Mem.iM]
     simp[Mem.iM,app,hbk,ZV]
    cases hp
   cases hp
 cases hp
end
section
variable {m:Mem} {env:Env} {a:Act} {o:Oper} (Yd:Ok w0 m) (hr:gT m env a.tmps)
include Yd hr
theorem Fv{t kt e:TypeId}{x k y:Operand}{x' k' y':aC}{kd:Nat}{ag:Bool}{sh:Nat->Bool}{v:V}{u:List kB}{rd:List Nat}(ho:o.op=.mapUpdate t x k y\/o.op=.insert t x k y)(ht:P.underlying t=some (.map kt e))
  (hkd:keyOf P kt=some kd) (hx:bK x=some x') (hk:bK k=some k') (hy:bK y=some y') (hp:aR sh env m.X9 (.mupd kd ag x' k' y')=.done v u rd):fe P w0 a.eval o m v u:=by
 simp only[aR] at hp;split at hp
 .rename_i id g q cs e1 e2 e3;split at hp
  .rename_i g' ag' es ps e4 e5;split at hp
   .rename_i ZO;obtain⟨rfl,rfl,hq⟩:=ZO;split at hp
    .rename_i i w hf;cases hp;exact EK Yd hr ho ht hkd hx hk hy e1 e4 e2 hq e3 e5 hf
    .rename_i hf;cases hp;exact EK Yd hr ho ht hkd hx hk hy e1 e4 e2 hq e3 e5 hf
    cases hp
   cases hp
  cases hp
 cases hp
theorem Vv{site:Nat}{sh:Nat->Bool}{p:vP}{v:V}{u:List kB}{rd:List Nat}(hc:tk P site o=some p)(hp:aR sh env m.X9 p=.done v u rd):fe P w0 a.eval o m v u:=by
 unfold tk at hc;split at hc
 · -- move
  rename_i x ho;simp only[aap] at hc;obtain⟨y,h1,rfl⟩:=hc;cases hp;exact EL Yd hr (.inl ho) h1
 · -- assign
  rename_i x ho;simp only[aap] at hc;obtain⟨y,h1,rfl⟩:=hc;cases hp;exact EL Yd hr (.inr ho) h1
 · -- pick
  rename_i c x y ho;split at hc
  .rename_i c' x' y' h1 h2 h3;cases hc;simp only[aR] at hp;split at hp
   .rename_i t ht;cases hp;exact NO Yd hr ho h1 h2 h3 ht
   cases hp
  cases hc
 · -- alloc
  rename_i t ho;simp only[aap] at hc;obtain⟨z,h1,rfl⟩:=hc;cases hp;exact Ll Yd ho h1
 · -- box
  rename_i t x ho;simp only[aap] at hc;obtain⟨z,h1,rfl⟩:=hc;simp only[aR] at hp;split at hp
  .rename_i cs YD;cases hp;exact RP Yd hr ho h1 YD
  cases hp
 · -- build
  rename_i t ps ho;split at hc
  .rename_i fs z h1 h2;split at hc
   .rename_i Yt;simp only[aap] at hc;obtain⟨qs,h3,rfl⟩:=hc;simp only[aR] at hp;split at hp
    .rename_i rs hrs;cases hp;exact uR Yd hr ho h1 h2 Yt h3 hrs
    cases hp
   cases hc
  .rename_i n e z h1 h2;split at hc
   .rename_i i hi;simp only[aap] at hc;obtain⟨qs,h3,rfl⟩:=hc;simp only[aR] at hp;split at hp
    .rename_i rs hrs;cases hp;exact wV Yd hr ho h1 h2 hi h3 hrs
    cases hp
   cases hc
  cases hc
 · -- buildSlice
  rename_i t n ps ho;split at hc
  .rename_i e sz bytes z as h1 h2;split at hc
   .rename_i ZO;cases hc;simp only[aR] at hp;split at hp
    .rename_i es hes;obtain⟨g1,g2⟩:=Hw (s:=site) Yd hr ho h1 h2 ZO.1 ZO.2 hes;split at hp
     .rename_i qs hqs;cases hp;exact g1 qs hqs
     cases hp;exact g2
    cases hp
   cases hc
  cases hc
 · -- load
  rename_i t x ho;split at hc
  .rename_i k y h1 h2;cases hc;simp only[aR] at hp;split at hp
   .rename_i cs r YD;split at hp
    .rename_i v' hv;cases hp;exact NR Yd hr ho h1 h2 YD hv
    cases hp
   cases hp
  cases hc
 · -- store
  rename_i t x y ho;split at hc
  .rename_i n x' y' h1 h2 h3;cases hc;simp only[aR] at hp;split at hp
   .rename_i cs YD;exact Lf Yd hr ho h1 h2 h3 YD hp
   cases hp
  cases hc
 · -- nilCheck
  rename_i x ho;simp only[aap] at hc;obtain⟨y,h1,rfl⟩:=hc;have hu:u=[]/\rd=[]:=by simp only[aR] at hp;split at hp<;>cases hp<;>exact⟨rfl,rfl⟩
  obtain⟨rfl,rfl⟩:=hu;exact Hu Yd hr ho h1 hp
 · -- binOp
  rename_i op t x y ty ho;split at hc
  .rename_i x' y' h1 h2;have alz:∀(op':BinOp),p=.bin op' x' y'->op'=op->fe P w0 a.eval o m v u:=by
    intro op' e1 e2;subst e1 e2;simp only[aR] at hp;split at hp
    .rename_i v' hv;cases hp;exact RQ Yd hr ho h1 h2 hv
    cases hp
   split at hc
   .cases hc;exact alz _ rfl rfl
   .cases hc;exact alz _ rfl rfl
   split at hc
   .rename_i k hk;cases hc;simp only[aR] at hp;split at hp
    .rename_i b hb;cases hp;exact Jx Yd hr (neg:=false) ho (.inl ⟨rfl,rfl⟩) hk h1 h2 hb
    cases hp
   .rename_i k hk;cases hc;simp only[aR] at hp;split at hp
    .rename_i b hb;cases hp;exact Jx Yd hr (neg:=true) ho (.inr ⟨rfl,rfl⟩) hk h1 h2 hb
    cases hp
   cases hc
  cases hc
 · -- unOp
  rename_i op t x ho;split at hc
  .simp only[aap] at hc;obtain⟨y,h1,rfl⟩:=hc;simp only[aR] at hp;split at hp
   .rename_i b e1 e2;cases hp;exact Rw Yd hr ho h1 e2
   .rename_i e1 e2;cases e1
   cases hp
  .simp only[aap] at hc;obtain⟨y,h1,rfl⟩:=hc;simp only[aR] at hp;split at hp
   .rename_i e1 e2;cases e1
   .rename_i k n e1 e2;cases hp;exact Rx Yd hr ho h1 e2
   cases hp
  cases hc
 · -- convert
  rename_i s d x ho;split at hc
  .rename_i ks k y h1 h2 h3;cases hc;simp only[aR] at hp;split at hp
   .rename_i k0 n hn;cases hp;exact NT Yd hr ho h1 h2 h3 hn
   cases hp
  .rename_i e y h1 h2 h3;split at hc
   .rename_i he;cases hc;simp only[aR] at hp;split at hp
    .rename_i es r hes;split at hp
     .rename_i bs hbs;cases hp;exact NU Yd hr ho h1 he h2 h3 hes hbs
     cases hp
    cases hp
   cases hc
  cases hc
 · -- makeFunc
  rename_i f x y ho;split at hc
  .rename_i x' y' h1 h2;cases hc;simp only[aR] at hp;split at hp
   .rename_i cs ds e1 e2;cases hp;exact NQ Yd hr ho h1 h2 e1 e2
   cases hp
  cases hc
 · -- makeMap
  rename_i t ho;split at hc
  .simp only[aap] at hc;obtain⟨k,h1,rfl⟩:=hc;cases hp;exact Lh (kt:=t) (t:=t) (e:=t) Yd ho
  cases hc
 · -- makeSlice
  rename_i t l c ho;split at hc
  .rename_i e sz bytes z l' c' h1 h2 h3;cases hc;simp only[aR] at hp;split at hp
   .rename_i n n' e1 e2;split at hp
    .rename_i ZO;obtain⟨rfl,YE⟩:=ZO;cases hp;exact EM Yd hr ho h1 h2 h3 e1 e2 YE
    cases hp
   cases hp
  cases hc
 · -- slice
  rename_i t x lo hi ho;split at hc
  .rename_i x' lo' hi' h1 h2 h3;split at hc
   .rename_i e ht;simp only[aap] at hc;obtain⟨sz,h4,rfl⟩:=hc;simp only[aR] at hp;split at hp
    .rename_i n hn;split at hp
     .rename_i l h e1 e2;have hu:u=[]/\rd=[]:=by
       unfold gY at hp;repeat' split at hp
       all_goals first
        |cases hp
        |skip
       all_goals exact⟨rfl,rfl⟩
      obtain⟨rfl,rfl⟩:=hu;exact Lg Yd hr ho ht h4 h1 h2 h3 hn e1 e2 hp
     cases hp
    cases hp
   .rename_i ht;cases hc;simp only[aR] at hp;split at hp
    .rename_i s hs;split at hp
     .rename_i l h e1 e2;split at hp
      .rename_i ZO;cases hp;exact Ht Yd hr ho ht h1 h2 h3 hs e1 e2 ZO.1 ZO.2
      cases hp
     cases hp
    cases hp
   cases hc
  cases hc
 · -- fieldAddr
  rename_i s x f ho;split at hc
  .rename_i fs y h1 h2;split at hc
   .rename_i d hd;split at hc
    .rename_i hz;cases hc;have hu:u=[]/\rd=[]:=by
      simp only[aR] at hp;split at hp<;>cases hp<;>exact⟨rfl,rfl⟩
     obtain⟨rfl,rfl⟩:=hu;exact Lj Yd hr ho h1 hd hz h2 hp
    cases hc
   cases hc
  cases hc
 · -- field
  rename_i t x f ho;split at hc
  .rename_i fs y h1 h2;split at hc
   .rename_i d hd;simp only[aap] at hc;obtain⟨k,h3,rfl⟩:=hc;simp only[aR] at hp;split at hp
    .rename_i cs YD;split at hp
     .rename_i v' hv;cases hp;exact RO Yd hr ho h1 hd h3 h2 YD hv
     cases hp
    cases hp
   cases hc
  cases hc
 · -- indexAddr
  rename_i t x i ho;split at hc
  .rename_i x' i' h1 h2;split at hc
   .rename_i e ht;simp only[aap] at hc;obtain⟨sz,h3,rfl⟩:=hc;have hu:u=[]/\rd=[]:=by
     simp only[aR] at hp;repeat' split at hp
     all_goals first
      |cases hp
      |skip
     all_goals exact⟨rfl,rfl⟩
    obtain⟨rfl,rfl⟩:=hu;exact Li Yd hr ho ht h3 h1 h2 hp
   .rename_i n e ht;simp only[aap] at hc;obtain⟨sz,h3,rfl⟩:=hc;have hu:u=[]/\rd=[]:=by
     simp only[aR] at hp;repeat' split at hp
     all_goals first
      |cases hp
      |skip
     all_goals exact⟨rfl,rfl⟩
    obtain⟨rfl,rfl⟩:=hu;exact Lm Yd hr ho ht h3 h1 h2 hp
   cases hc
  cases hc
 · -- index
  rename_i t x i ho;split at hc
  .rename_i x' i' h1 h2;split at hc
   .rename_i n e ht;split at hc
    .rename_i sz k h3 h4;cases hc;simp only[aR] at hp;split at hp
     .rename_i n' cs e1 e2;split at hp
      .rename_i Ye;split at hp
       .rename_i v' hv;cases hp;exact NV Yd hr ho ht h3 h4 h1 h2 e1 Ye e2 hv
       cases hp
      cases hp
     cases hp
    cases hc
   .rename_i ht;cases hc;simp only[aR] at hp;split at hp
    .rename_i n s e1 e2;split at hp
     .rename_i b hb;cases hp;exact NN Yd hr ho ht h1 h2 e1 e2 hb
     cases hp
    cases hp
   cases hc
  cases hc
 · -- lookup
  rename_i t x k ok ho;split at hc
  .rename_i kt e x' k' h1 h2 h3;split at hc
   .rename_i z q h4 h5;split at hc
    .rename_i kd h6;split at hc
     .rename_i h7;cases hc;simp only[aR] at hp;split at hp
      .rename_i es r key e1 e2;split at hp
       .cases hp
       rename_i hkd;split at hp
       .rename_i f hf;split at hp
        .rename_i w hw;cases hp;exact Hv Yd hr ho h1 h4 h6 h7 h2 h3 e1 e2 (Classical.not_not.1 hkd) hf hw
        cases hp
       cases hp
      cases hp
     cases hc
    cases hc
   cases hc
  cases hc
 · -- mapUpdate
  rename_i t x k y ho;split at hc
  .rename_i kt e x' k' y' h1 h2 h3 h4;split at hc
   .rename_i q h5;simp only[aap] at hc;obtain⟨kd,h6,rfl⟩:=hc;exact Fv Yd hr (.inl ho) h1 h6 h2 h3 h4 hp
   cases hc
  cases hc
 · -- insert
  rename_i t x k y ho;split at hc
  .rename_i kt e x' k' y' h1 h2 h3 h4;split at hc
   .rename_i q h5;simp only[aap] at hc;obtain⟨kd,h6,rfl⟩:=hc;exact Fv Yd hr (.inr ho) h1 h6 h2 h3 h4 hp
   cases hc
  cases hc
 · -- extract
  rename_i x i ho;simp only[aap] at hc;obtain⟨y,h1,rfl⟩:=hc;simp only[aR] at hp;split at hp
  .rename_i vs hvs;split at hp
   .rename_i v' hv;cases hp;exact EN Yd hr ho h1 hvs hv
   cases hp
  cases hp
 · -- call
  rename_i c ho;split at hc
  .rename_i f as h1 h2;simp only[aap] at hc;obtain⟨y,h3,rfl⟩:=hc;simp only[aR] at hp;repeat' split at hp
   all_goals cases hp
  .rename_i x h1 h2;obtain⟨x0,hx0,hx1⟩:=vJ h2;split at hc
   .rename_i t ht;split at hc
    .rename_i hu;cases hc;simp only[aR] at hp;split at hp
     .rename_i s hs;cases hp;exact NM Yd hr ho h1 hx0 ht hu hx1 hs
     cases hp
    .rename_i e hu;cases hc;simp only[aR] at hp;split at hp
     .rename_i n hn;cases hp;exact NS Yd hr ho h1 hx0 ht hu hx1 hn
     cases hp
    .rename_i k e hu;cases hc;simp only[aR] at hp;split at hp
     .rename_i n r hn;cases hp;exact NP Yd hr ho h1 hx0 ht hu hx1 hn
     cases hp
    cases hc
   cases hc
  .rename_i x y h1 h2;obtain⟨x0,y0,hx0,hx1,hx2⟩:=vI h2;split at hc
   .rename_i t u' ht hu;split at hc
    .rename_i e sz bytes z he;split at hc
     .rename_i ZO;cases hc;obtain⟨rfl,Yv⟩:=ZO;exact Hx Yd hr ho h1 hx0 (KW ht hu Yv) he hx1 hx2 hp
     cases hc
    cases hc
   cases hc
  .rename_i x y h1 h2;obtain⟨x0,y0,hx0,hx1,hx2⟩:=vI h2;cases hc;simp only[aR] at hp;split at hp
   .rename_i k p k' q e1 e2;cases hp;exact Rz Yd hr ho h1 hx0 hx1 hx2 e1 e2
   cases hp
  .rename_i x y h1 h2;obtain⟨x0,y0,hx0,hx1,hx2⟩:=vI h2;cases hc;simp only[aR] at hp;split at hp
   .rename_i k p k' q e1 e2;cases hp;exact Ry Yd hr ho h1 hx0 hx1 hx2 e1 e2
   cases hp
  .rename_i x h1 h2;obtain⟨x0,hx0,hx1⟩:=vJ h2;split at hc
   .rename_i t ht;simp only[aap] at hc;obtain⟨⟨e,sz,bytes,z⟩,h3,rfl⟩:=hc;exact Lk Yd hr ho h1 hx0 ht h3 hx1 hp
   cases hc
  cases hc
 cases hc
end
end Go.Abs
namespace Go.Abs
variable {P:Program} {w0:World}
section
variable{m:Mem}{cs:List C}
def Wq(w:World)(Q:Nat->Prop)(ty sz:Nat)(es:List (List PV))(c:Nat)(v:Value):Prop:=∃cap cur,v=.slice (some ⟨c,0,none⟩) es.length cap/\w.heap[c]?=some (.cells cur ty (0,0))/\0<sz/\(∀e∈es,e.length=sz)/\es.length<=cap/\cap<=maxLen/\cur.size=cap*sz/\aY w Q es.flatten (cur.toList.take (es.length*sz))
def gk(w:World)(Q:Nat->Prop):List RC->List Value->List Nat->Prop
 |[],vs,bs=>vs=[]/\bs=[]
 | .p x::r,vs,bs=>∃v vs',vs=v::vs'/\bt w Q x v/\gk w Q r vs' bs
 | .own ty sz es::r,vs,bs=>∃v vs' c bs',vs=v::vs'/\bs=c::bs'/\Wq w Q ty sz es c v/\gk w Q r vs' bs'
theorem gk.mono{w w':World}{Q Q':Nat->Prop}(hk:∀c,c<w.heap.size-> ¬Q c->w'.heap[c]?=w.heap[c]? /\ ¬Q' c):∀ {rs:List RC} {vs:List Value} {bs:List Nat},(∀c∈bs,w'.heap[c]?=w.heap[c]?)->gk w Q rs vs bs->gk w' Q' rs vs bs:=by
 intro rs
 induction rs with
 |nil=>intro vs bs _ h;exact h
 |cons r rs ih=>
  intro vs bs hb h;cases r with
  |p x=>obtain⟨v,vs',rfl,h1,h2⟩:=h;exact⟨v,vs',rfl,h1.mono hk,ih hb h2⟩
  |own ty sz es=>obtain⟨v,vs',c,bs',rfl,rfl,⟨cap,cur,e1,e2,e3,e4,e5,e6,e7,e8⟩,h2⟩:=h;exact⟨v,vs',c,bs',rfl,rfl,⟨cap,cur,e1,by rw[hb c (by simp)];exact e2,e3,e4,e5,e6,e7,e8.mono hk⟩,ih (fun c hc=>hb c (by simp[hc])) h2⟩
theorem gk.less{w:World}{Q Q':Nat->Prop}(h:∀b,Q' b->Q b){rs:List RC}{vs:List Value}{bs:List Nat}(hr:gk w Q rs vs bs):gk w Q' rs vs bs:=hr.mono (fun c _ hn=>⟨rfl,fun hq=>hn (h c hq)⟩) (fun _ _=>rfl)
theorem Ld(Yd:Ok w0 m){Q:Nat->Prop}(hQ:∀b,Q b->m.own b){c:C}{x:PV}{q:List Nat}{v:Value}(h:snap m.X9 cn c=some (x,q))(hr:cE m c v)(hs:∀id∈q,¬Q (m.σ id)):bt m.w Q x v:=ng Yd cn h hr ⟨hQ,hs⟩
theorem Bt(Yd:Ok w0 m){Q:Nat->Prop}(hQ:∀b,Q b->m.own b):∀ {cs:List C} {rs:List RC} {o q:List Nat} {vs:List Value},gK m.X9 cs=some (rs,o,q)->aZ m cs vs->(∀id∈q,¬Q (m.σ id))->
  gk m.w Q rs vs (o.map m.σ)/\ ∀id∈o,∃ob,(m.X9 id).2=some ob/\ob.eY=true:=by
 intro cs
 induction cs with
 |nil=>
  intro rs o q vs h hr _;simp only[gK,aau,aaT] at h;obtain⟨rfl,rfl,rfl⟩:=h;have:vs=[]:=by have:=hr.1;simpa using this
  exact⟨⟨this,rfl⟩,fun id h=>by simp at h⟩
 |cons c cs ih=>
  intro rs o q vs h hr hq;simp only[gK] at h;split at h
  .rename_i x o1 q1 xs os qs h1 h2;cases h;cases vs with
   |nil=>simp[aZ] at hr
   |cons v vs=>
    obtain⟨i1,i2⟩:=ih (vs:=vs) h2 ⟨by have:=hr.1;simpa using this,fun j x u a b=>hr.2 (j+1) x u (by simpa using a) (by simpa using b)⟩ (fun id hid=>hq id (by simp[hid]));have hc:cE m c v:=hr.2 0 c v rfl rfl;have snapcase:∀ {y:PV},(snap m.X9 cn c).map (fun(v,r)=>((.p v:RC),([]:List Nat),r))=some (x,o1,q1)->gk m.w Q (x::xs) (v::vs) ((o1++os).map m.σ)/\ ∀id∈o1++os,∃ob,(m.X9 id).2=some ob/\ob.eY=true:=by intro _ h1;simp only[aap] at h1;obtain⟨⟨y,r⟩,h3,h4⟩:=h1;cases h4;exact⟨⟨v,vs,rfl,Ld Yd hQ h3 hc (fun id hid=>hq id (by simp[hid])),i1⟩,i2⟩
    unfold jg at h1;split at h1
    .rename_i y;cases h1;have hy:bt m.w m.own y v:=by cases hc with|p h=>exact h
     exact⟨⟨v,vs,rfl,hy.less hQ,i1⟩,i2⟩
    .rename_i id g z len;split at h1
     .rename_i g' ty sz es hb;split at h1
      .rename_i ZO;obtain⟨rfl,hlen⟩:=ZO;cases h1;have hbo:(m.X9 id).2=some (.arr ty sz es):=by rw[hb]
       obtain⟨cur,hh,YG,Yv,hl,hmx,YD,YK⟩:=Yd.obj id _ hbo;cases hc with
       |hsl ad cap hg hll hmm hhd=>
        obtain⟨f1,f2,f3⟩:=hhd sz (by rw[hb]) (by rw[hb];rfl);have had:=f2 (.inl rfl);have Zh:=f3 rfl;rw[acv] at had;subst had;subst Zh;have Ye:(es.take len).length=len:=by simp;omega
        refine⟨⟨_,vs,m.σ id,os.map m.σ,rfl,rfl,⟨m.κ id,cur,by rw[Ye],hh,YG,fun e he=>Yv e (ab2 he),by rw[Ye];exact hll,hmx,YD,?_⟩,i1⟩,?_⟩
        .rw[Ye,lk Yv];have h1:=(aY.pw.1 YK).take (len*sz);rw[adm,ab0 (abh _ hlen)] at h1;exact(aY.pw.2 h1).less hQ
        intro j hj;simp only[ac3,aaE,aag] at hj;rcases hj with rfl|hj
        .exact⟨_,hbo,rfl⟩
        exact i2 j hj
      cases h1
     exact snapcase (y:=.ZX) h1
    exact snapcase (y:=.ZX) h1
  cases h
theorem ze:∀(rs:List RC) (site:Nat) (b b':aE),(∀s,site<=s->(b s).1=(b' s).1)->iO b site rs=iO b' site rs:=by
 intro rs
 induction rs with
 |nil=>intro site b b' _;rfl
 |cons r rs ih=>
  intro site b b' h;have h1:ju b site r=ju b' site r:=by
   cases r with
   |p x=>rfl
   |own ty sz es=>simp only[ju,h site (aad _)]
  simp only[iO,h1,ih (site+1) b b' (fun s hs=>h s (by omega))]
theorem FP{s c k:Nat}{o:Ob}(hc:m.fr c):Jf m (m.install s c k o) where
 own x _ hn:=⟨rfl,fun h=>hn (mA hc h)⟩
 gen id:=by
  simp only[Mem.install,ae];split
  .rename_i e;subst e;exact Nat.le_succ _
  exact aad _
 ref id hg hs:=by
  simp only[Mem.install,ae] at hg hs ⊢;split at hg
  .rename_i e;subst e;simp at hg
  rename_i e;simp only[if_neg e] at hs ⊢;exact⟨hs,trivial,trivial,trivial⟩
theorem Jf.trans{a b c:Mem}(h:Jf a b)(hs:a.w.heap.size<=b.w.heap.size)(k:Jf b c):Jf a c where
 own x hx hn:=by have h1:=h.own x hx hn;have h2:=k.own x (acN hx hs) h1.2;exact⟨h2.1.trans h1.1,h2.2⟩
 gen id:=abc (h.gen id) (k.gen id)
 ref id he hs':=by have h1:=h.gen id;have h2:=k.gen id;obtain⟨s1,e1,e2,e3⟩:=k.ref id (by omega) hs';obtain⟨s2,f1,f2,f3⟩:=h.ref id (by omega) s1;exact⟨s2,e1.trans f1,e2.trans f2,e3.trans f3⟩
theorem SN{m00:Mem}:∀ {rs:List RC} {vs:List Value} {bs:List Nat} {site:Nat} {m:Mem},Ok w0 m->gk m.w m.own rs vs bs->bs.Nodup->(∀c∈bs,m.fr c/\w0.heap.size<=c)->Ev m00 m->(∀c∈bs,m00.w.heap.size<=c\/m00.eY c)->
  ∃m',m'.w=m.w/\Ok w0 m'/\Ev m00 m'/\Jf m m'/\(∀c,m'.fr c↔m.fr c/\c∉bs)/\m'.X9=app (iO m.X9 site rs).2 m.X9/\aZ m' (iO m.X9 site rs).1 vs:=by
 intro rs
 induction rs with
 |nil=>intro vs bs site m Yd h _ _ YU _;obtain⟨rfl,rfl⟩:=h;exact⟨m,rfl,Yd,YU,⟨fun c _ h=>⟨rfl,h⟩,fun _=>aad _,fun _ _ h=>⟨h,rfl,rfl,rfl⟩⟩,fun c=>by simp,rfl,rfl,fun j x u h=>by simp[iO] at h⟩
 |cons r rs ih=>
  intro vs bs site m Yd h Zx hbs YU aex;have cons:∀ {m':Mem} {x:C} {xs:List C} {v:Value} {vs:List Value},cE m' x v->aZ m' xs vs->aZ m' (x::xs) (v::vs):=by
   intro m' x xs v vs h1 h2;refine⟨by simp[h2.1],fun j y u a b=>?_⟩;cases j with
   |zero=>simp at a b;subst a b;exact h1
   |succ j=>simp at a b;exact h2.2 j y u a b
  cases r with
  |p x=>obtain⟨v,vs',rfl,h1,h2⟩:=h;obtain⟨m',e1,e2,e3,e4,e5,e6,e7⟩:=ih (site:=site+1) Yd h2 Zx hbs YU aex;exact⟨m',e1,e2,e3,e4,e5,by simpa [iO,ju] using e6,by simpa [iO,ju] using cons (cE.p (h1.ev e4)) e7⟩
  |own ty sz es=>
   obtain⟨v,vs',c,bs',rfl,rfl,⟨cap,cur,q1,q2,q3,q4,q5,q6,q7,q8⟩,h2⟩:=h;have hfc:=(hbs c (by simp)).1;have h0:=FP (s:=site) (k:=cap) (o:=.arr ty sz es) hfc;have hσ:(m.install site c cap (.arr ty sz es)).σ site=c:=by simp[Mem.install,ae]
   have hκ:(m.install site c cap (.arr ty sz es)).κ site=cap:=by simp[Mem.install,ae]
   have Z8:Ok w0 (m.install site c cap (.arr ty sz es)):=oL Yd hfc (hbs c (by simp)).2
    ⟨cur,by rw[hσ];exact q2,q3,q4,by rw[hκ];exact q5,by rw[hκ];exact q6,by rw[hκ];exact q7,aY.ev h0 q8⟩
   have ak2:=abk.1 Zx;obtain⟨m',e1,e2,e3,e4,e5,e6,e7⟩:=ih (site:=site+1) (m:=m.install site c cap (.arr ty sz es)) Z8 (h2.less fun b hb=>mA hfc hb) ak2.2
    (fun d hd=>⟨⟨(hbs d (by simp[hd])).1,fun e=>ak2.1 (e▸hd)⟩,(hbs d (by simp[hd])).2⟩) (oN YU hfc (aex c (by simp))) (fun d hd=>aex d (by simp[hd]))
   have aeX:iO (m.install site c cap (.arr ty sz es)).X9 (site+1) rs=iO m.X9 (site+1) rs:=ze _ _ _ _ fun s hs=>by simp only[Mem.install,ae];rw[if_neg (by omega)]
   rw[aeX] at e6 e7;refine⟨m',e1,e2,e3,h0.trans (aad _) e4,fun d=>?_,?_,?_⟩
   .rw[e5 d];simp only[Mem.install,aag,not_or];exact⟨fun⟨⟨a,b⟩,c⟩=>⟨a,b,c⟩,fun⟨a,b,c⟩=>⟨⟨a,b⟩,c⟩⟩
   .rw[e6];rfl
   refine cons ?_ e7;have:cE (m.install site c cap (.arr ty sz es)) (.hsl site ((m.X9 site).1+1) sz 0 es.length) v:=by
    rw[q1];refine .hsl _ _ ?_ q5 q6 fun z h1 h2=>?_
    .simp[Mem.install,ae]
    have hz:jh ((m.install site c cap (.arr ty sz es)).X9 site)=some sz:=by simp[Mem.install,ae,jh]
    rw[hz] at h2;cases h2;exact⟨rfl,fun _=>by rw[hσ,acv],fun _=>hκ.symm⟩
   exact this.ev e4
def kD:RV->Value->List Value->Prop
 | .one _,v,vs=>vs=[v]
 | .agg l,v,vs=>v=.agg vs.toArray/\vs.length=l.length
 | .tup _,_,_=>False
def q9:List RV->List Value->List Value->Prop
 |[],us,vs=>us=[]/\vs=[]
 |r::rs,us,vs=>∃u us' a b,us=u::us'/\vs=a++b/\kD r u a/\q9 rs us' b
def Aw:RV->Value->List Value->Prop
 | .tup rs,v,vs=>∃arr,v=.tuple arr/\q9 rs arr.toList vs
 |r,v,vs=>kD r v vs
theorem aZ.take{vs:List Value}(h:aZ m cs vs)(n:Nat):aZ m (cs.take n) (vs.take n):=aZ.pw.2 ((aZ.pw.1 h).take n)
theorem aZ.drop{vs:List Value}(h:aZ m cs vs)(n:Nat):aZ m (cs.drop n) (vs.drop n):=aZ.pw.2 ((aZ.pw.1 h).drop n)
theorem aZ.append{ds:List C}{vs us:List Value}(h:aZ m cs vs)(k:aZ m ds us):aZ m (cs++ds) (vs++us):=aZ.pw.2 ((aZ.pw.1 h).append (aZ.pw.1 k))
theorem aZ.single{c:C}{v:Value}(h:cE m c v):aZ m [c] [v]:=⟨rfl,fun j x u a b=>by
 rcases j with _|j
 .simp at a b;subst a b;exact h
 simp at a⟩
theorem zA{v:V}{val:Value}(h:fE v=some cs)(hr:ii m v val):
  ∃vs,aZ m cs vs/\ ∀(rs tl:List RC),rs.length=cs.length->(ik v (rs++tl)).2=tl/\dJ (ik v (rs++tl)).1=rs/\kD (ik v (rs++tl)).1 val vs:=by
 cases v with
 |undef=>simp[fE] at h
 |tup vs=>simp[fE] at h
 |one c=>
  simp only[fE,aau] at h;subst h;refine⟨[val],aZ.single hr,fun rs tl hl=>?_⟩
  match rs,hl with
  |[r],_=>exact⟨rfl,rfl,rfl⟩
 |agg ds=>
  simp only[fE,aau] at h;subst h;obtain⟨arr,rfl,hc⟩:=hr;refine⟨arr.toList,hc,fun rs tl hl=>?_⟩;have h1:(rs++tl).take ds.length=rs:=by rw[<- hl];exact List.take_left
  have h2:(rs++tl).drop ds.length=tl:=by rw[<- hl];exact List.drop_left
  simp only[ik,dJ,kD,h1,h2,true_and];rw[hc.1,hl]
theorem Ix:∀ {ws:List V} {cs:List C} {vals:List Value},jH ws=some cs->Pw (ii m) ws vals->
  ∃vs,aZ m cs vs/\ ∀(rs:List RC),rs.length=cs.length->gh (oq ws rs)=rs/\q9 (oq ws rs) vals vs:=by
 intro ws
 induction ws with
 |nil=>
  intro cs vals h hr;simp only[jH,aau] at h;subst h;have hv:vals=[]:=by have:=hr.1;simpa using this
  subst hv;refine⟨[],⟨rfl,fun j x u a=>by simp at a⟩,fun rs hl=>?_⟩;have:rs=[]:=by simpa using hl
  subst this;exact⟨rfl,rfl,rfl⟩
 |cons w ws ih=>
  intro cs vals h hr;simp only[jH] at h;split at h
  .rename_i a b h1 h2;cases h;cases vals with
   |nil=>have:=hr.1;simp at this
   |cons val vals=>
    obtain⟨vs1,Zz,ZF⟩:=zA h1 (hr.2 0 w val rfl rfl);obtain⟨vs2,hc2,Zd⟩:=ih (vals:=vals) h2 ⟨by have:=hr.1;simpa using this,fun j x u p q=>hr.2 (j+1) x u (by simpa using p) (by simpa using q)⟩;refine⟨vs1++vs2,Zz.append hc2,fun rs hl=>?_⟩;have hl':rs.length=a.length+b.length:=by simpa using hl
    obtain⟨p1,p2,p3⟩:=ZF (rs.take a.length) (rs.drop a.length) (by simp;omega);rw[aa2] at p1 p2 p3;obtain⟨q1,q2⟩:=Zd (rs.drop a.length) (by simp;omega);simp only[oq,gh,p1,p2,q1,q9];exact⟨aa2 _ _,val,vals,vs1,vs2,rfl,rfl,p3,q2⟩
  cases h
theorem Mo{v:V}{val:Value}(h:lW v=some cs)(hr:bh m v val):
  ∃vs,aZ m cs vs/\ ∀(rs:List RC),rs.length=cs.length->eZ (ni v rs)=rs/\Aw (ni v rs) val vs:=by
 have one:∀ {v:V},fE v=some cs->ii m v val->(∀rs,ni v rs=(ik v rs).1)->∃vs,aZ m cs vs/\ ∀(rs:List RC),rs.length=cs.length->eZ (ni v rs)=rs/\Aw (ni v rs) val vs:=by
  intro v h hr he;obtain⟨vs,h1,h2⟩:=zA h hr;refine⟨vs,h1,fun rs hl=>?_⟩;obtain⟨_,p2,p3⟩:=h2 rs [] hl;rw[abo] at p2 p3;rw[he];generalize (ik v rs).1=y at p2 p3;cases y with
  |tup _=>exact p3.elim
  |one c=>exact⟨p2,p3⟩
  |agg c=>exact⟨p2,p3⟩
 cases v with
 |tup ws=>obtain⟨arr,rfl,hs,hc⟩:=hr;obtain⟨vs,h1,h2⟩:=Ix (m:=m) (vals:=arr.toList) h ⟨by simpa using hs,fun j x u a b=>hc j x u a (by simpa using b)⟩;exact⟨vs,h1,fun rs hl=>⟨(h2 rs hl).1,arr,rfl,(h2 rs hl).2⟩⟩
 |undef=>simp[lW,fE] at h
 |one c=>exact one h hr fun _=>rfl
 |agg c=>exact one h hr fun _=>rfl
theorem sS{r:RV}{val:Value}{a b:List Value}(hf:kD r val a)(hc:aZ m cs (a++b)):ii m (fD r cs).1 val/\aZ m (fD r cs).2 b:=by
 cases r with
 |tup _=>exact hf.elim
 |one c=>
  have hf:a=[val]:=hf;subst hf;cases cs with
  |nil=>have:=hc.1;simp at this
  |cons x xs=>exact⟨hc.2 0 x val rfl rfl,by have:=hc.drop 1;simpa [fD] using this⟩
 |agg l=>
  obtain⟨rfl,hl⟩:=hf;refine⟨⟨_,rfl,?_⟩,?_⟩
  .have:=hc.take l.length;rw[<- hl,List.take_left] at this
   simpa [fD,hl] using this
  have:=hc.drop l.length;rw[<- hl,List.drop_left] at this
  simpa [fD,hl] using this
theorem HB:∀ {rs:List RV} {cs:List C} {us vs:List Value},q9 rs us vs->aZ m cs vs->Pw (ii m) (iN rs cs) us:=by
 intro rs
 induction rs with
 |nil=>intro cs us vs h _;obtain⟨rfl,rfl⟩:=h;exact⟨rfl,fun j x u a=>by simp[iN] at a⟩
 |cons r rs ih=>
  intro cs us vs h hc;obtain⟨u,us',a,b,rfl,rfl,h1,h2⟩:=h;obtain⟨p1,p2⟩:=sS h1 hc;have p3:=ih h2 p2;refine⟨by simp[iN,p3.1],fun j x v q1 q2=>?_⟩;cases j with
  |zero=>simp[iN] at q1 q2;subst q1 q2;exact p1
  |succ j=>simp[iN] at q1 q2;exact p3.2 j x v q1 q2
theorem Lr{r:RV}{val:Value}{vs:List Value}(hf:Aw r val vs)(hc:aZ m cs vs):bh m (lJ r cs) val:=by
 cases r with
 |tup rs=>obtain⟨arr,rfl,h⟩:=hf;have:=HB h hc;exact⟨arr,rfl,by simpa using this.1,fun j x u a b=>this.2 j x u a (by simpa using b)⟩
 |one c=>have:=(sS (b:=[]) (show kD (.one c) val vs from hf) (by simpa using hc)).1;exact bh.of1 this
 |agg c=>have:=(sS (b:=[]) (show kD (.agg c) val vs from hf) (by simpa using hc)).1;exact bh.of1 this
end
end Go.Abs
namespace Go.Abs
section
variable{b':aE}{site:Nat}{v:V}{cs:fd}{sh:Ctx}{cp:dh}{env:Env}
def cU(ids:List Nat)(b b':aE):Prop:=∀id∈ids,b' id=b id
def gU(ts:List Nat)(e e':Env):Prop:=∀t∈ts,e' t=e t
theorem cU.left{x y:List Nat}{b:aE}(h:cU (x++y) b b'):cU x b b':=fun i hi=>h i (by simp[hi])
theorem cU.right{x y:List Nat}{b:aE}(h:cU (x++y) b b'):cU y b b':=fun i hi=>h i (by simp[hi])
theorem gU.left{x y:List Nat}{b b':Env}(h:gU (x++y) b b'):gU x b b':=fun i hi=>h i (by simp[hi])
theorem gU.right{x y:List Nat}{b b':Env}(h:gU (x++y) b b'):gU y b b':=fun i hi=>h i (by simp[hi])
section
variable {e e':Env}
theorem aI{a:aC}(h:gU a.tmps e e'):ev e' a=ev e a:=by
 cases a with
 |t n=>exact h n (by simp[aC.tmps])
 |_=>rfl
theorem Mw:∀ {as:List aC},gU (vW as) e e'->as.map (ev e')=as.map (ev e):=by
 intro as
 induction as with
 |nil=>intro _;rfl
 |cons a r ih=>intro h;simp only[aar];rw[aI h.left,ih h.right]
theorem wg:∀ {as:List aC},gU (vW as) e e'->mv e' as=mv e as:=by
 intro as
 induction as with
 |nil=>intro _;rfl
 |cons a r ih=>intro h;simp only[mv];rw[aI h.left,ih h.right]
theorem DK{sz:Nat}:∀ {as:List aC},gU (vW as) e e'->lX e' sz as=lX e sz as:=by
 intro as
 induction as with
 |nil=>intro _;rfl
 |cons a r ih=>intro h;simp only[lX];rw[aI h.left,ih h.right]
theorem Dh:∀ {as:List (Nat×Nat×aC)},gU (Nv as) e e'->ky e' as=ky e as:=by
 intro as
 induction as with
 |nil=>intro _;rfl
 |cons a r ih=>intro h;obtain⟨x,y,a⟩:=a;simp only[ky];rw[aI h.left,ih h.right]
theorem jS{d:Nat}{a:Option aC}(h:gU (Nw a) e e'):fi e' d a=fi e d a:=by
 cases a with
 |none=>rfl
 |some a=>simp only[fi];rw[aI h]
theorem Iw{a:aC}(h:gU a.tmps e e'):F6 e' a=F6 e a:=by unfold F6;rw[aI h]
theorem yH{sh:Nat->Bool}{X9:aE}{p:vP}(h:gU p.tmps e e'):aR sh e' X9 p=aR sh e X9 p:=by
 cases p with
 |mov x=>simp only[aR,aI (a:=x) h]
 |pick c a b=>simp only[aR,aI (a:=c) h.left.left,aI (a:=a) h.left.right,aI (a:=b) h.right]
 |alloc s z=>rfl
 |box s x=>simp only[aR,aI (a:=x) h]
 |build z ps=>simp only[aR,Dh (as:=ps) h]
 |Yl s ty sz ps=>simp only[aR,DK (as:=ps) h]
 |load k x=>simp only[aR,aI (a:=x) h]
 |store n a x=>simp only[aR,aI (a:=a) h.left,aI (a:=x) h.right]
 |Zf x=>simp only[aR,aI (a:=x) h]
 |bin op x y=>simp only[aR,aI (a:=x) h.left,aI (a:=y) h.right]
 |eqc k n x y=>simp only[aR,aI (a:=x) h.left,aI (a:=y) h.right]
 |un op x=>simp only[aR,aI (a:=x) h]
 |conv k x=>simp only[aR,aI (a:=x) h]
 |bstr x=>simp only[aR,aI (a:=x) h]
 |mkfn f a b=>simp only[aR,wg (as:=a) h.left,wg (as:=b) h.right]
 |mkmap s ag=>rfl
 |Yx s ty sz bytes z l c=>simp only[aR,aI (a:=l) h.left,aI (a:=c) h.right]
 |slice sz x lo hi=>simp only[aR,aI (a:=x) h.left.left,jS (a:=lo) h.left.right,jS (a:=hi) h.right]
 |sslice x lo hi=>simp only[aR,aI (a:=x) h.left.left,jS (a:=lo) h.left.right,jS (a:=hi) h.right]
 |ZH off x=>simp only[aR,aI (a:=x) h]
 |Zc sz x i=>simp only[aR,aI (a:=x) h.left,aI (a:=i) h.right]
 |ZT l sz x i=>simp only[aR,aI (a:=x) h.left,aI (a:=i) h.right]
 |fld off k x=>simp only[aR,aI (a:=x) h]
 |aidx l sz k x i=>simp only[aR,aI (a:=x) h.left,aI (a:=i) h.right]
 |sidx x i=>simp only[aR,aI (a:=x) h.left,aI (a:=i) h.right]
 |lookup kd z ag ok x k=>simp only[aR,aI (a:=x) h.left,aI (a:=k) h.right]
 |mupd kd ag m k v=>simp only[aR,aI (a:=m) h.left.left,aI (a:=k) h.left.right,aI (a:=v) h.right]
 |bad=>rfl
 |extract x i=>simp only[aR,aI (a:=x) h]
 |call s f as=>simp only[aR,Iw (a:=f) h.left,Mw (as:=as) h.right]
 |slen x=>simp only[aR,aI (a:=x) h]
 |abg x=>simp only[aR,aI (a:=x) h]
 |mlen x=>simp only[aR,aI (a:=x) h]
 |append s ty sz b x y=>simp only[aR,aI (a:=x) h.left,aI (a:=y) h.right]
 |max x y=>simp only[aR,aI (a:=x) h.left,aI (a:=y) h.right]
 |min x y=>simp only[aR,aI (a:=x) h.left,aI (a:=y) h.right]
 |clear z x=>simp only[aR,aI (a:=x) h]
end
section
variable {b b':aE}
theorem cV{α β:Type}{f g:α->Option (β×List Nat)}(hf:∀x y r,f x=some (y,r)->cU r b b'->g x=some (y,r)):∀ {xs:List α} {ys:List β} {r:List Nat},collect f xs=some (ys,r)->cU r b b'->collect g xs=some (ys,r):=by
 intro xs
 induction xs with
 |nil=>intro ys r h _;exact h
 |cons x xs ih=>
  intro ys r h ha;simp only[collect] at h ⊢;split at h
  .rename_i y p bs q e1 e2;cases h;rw[hf _ _ _ e1 ha.left,ih e2 ha.right]
  cases h
theorem lD:∀(n:Nat) (c:C) (x:PV) (r:List Nat),snap b n c=some (x,r)->cU r b b'->snap b' n c=some (x,r):=by
 intro n
 induction n with
 |zero=>intro c x r h;simp[snap] at h
 |succ n ih=>
  intro c x r h ha;cases c with
  |p v=>exact h
  |Yh id g off=>
   have hid:id∈r:=by
    simp only[snap] at h
    (repeat' split at h)<;>first
     |cases h
     |skip
    all_goals simp
   have hb:=ha id hid;simp only[snap] at h ⊢;rw[hb];split at h
   .split at h
    .rename_i hg;rw[if_pos hg];split at h
     .rename_i hc;cases h;rw[cV ih hc (fun i hi=>ha i (by simp[hi]))]
     cases h
    cases h
   .exact h
   cases h
  |YJ id g i off=>
   have hid:id∈r:=by
    simp only[snap,aap] at h
    (repeat' split at h)<;>first
     |cases h
     |skip
    all_goals(simp only[aap] at h;obtain⟨e,_,h⟩:=h;cases h;simp)
   have hb:=ha id hid;simp only[snap] at h ⊢;rw[hb];exact h
  |hsl id g z off len=>
   have hid:id∈r:=by
    simp only[snap] at h
    (repeat' split at h)<;>first
     |cases h
     |skip
    all_goals simp
   have hb:=ha id hid;simp only[snap] at h ⊢;rw[hb];split at h
   .exact h
   .exact h
   .split at h
    .rename_i hg;rw[if_pos hg];split at h
     .rename_i hc;cases h;rw[cV (fun _ _ _ p q=>cV ih p q) hc (fun i hi=>ha i (by simp[hi]))]
     cases h
    cases h
   cases h
  |YW id g=>
   have hid:id∈r:=by
    simp only[snap] at h
    (repeat' split at h)<;>first
     |cases h
     |skip
    all_goals simp
   have hb:=ha id hid;simp only[snap] at h ⊢;rw[hb];exact h
  |hfn f x y=>
   simp only[snap] at h ⊢;split at h
   .rename_i h1 h2;cases h;rw[cV ih h1 ha.left,cV ih h2 ha.right]
   cases h
theorem EH(x y:V)(r:List Nat)(h:gI b x=some (y,r))(ha:cU r b b'):gI b' x=some (y,r):=by
 cases x with
 |undef=>simp[gI] at h
 |tup _=>simp[gI] at h
 |one c=>simp only[gI,aap] at h ⊢;obtain⟨⟨p,q⟩,h1,h2⟩:=h;cases h2;exact⟨_,lD _ _ _ _ h1 ha,rfl⟩
 |agg cs=>simp only[gI,aap] at h ⊢;obtain⟨⟨p,q⟩,h1,h2⟩:=h;cases h2;exact⟨_,cV (lD _) h1 ha,rfl⟩
theorem CL{xs ys:List V}{r:List Nat}(h:mK b xs=some (ys,r))(ha:cU r b b'):mK b' xs=some (ys,r):=cV EH h ha
theorem Iu{all:List Nat}{id:Nat}{u:List kB}(h:wY b all id=some u)(hid:id∈all)(ha:cU all b b'):wY b' all id=some u:=by
 have hb:=ha id hid;unfold wY at h ⊢;rw[hb];split at h
 .split at h
  .rename_i ps r hc;split at h
   .rename_i hr;have hr':cU r b b':=fun i hi=>ha i (by have:=aaP.1 hr i hi;simpa using this);rw[cV (lD _) hc hr'];simp only;rw[if_pos hr];exact h
   cases h
  cases h
 .exact h
 .split at h
  .rename_i ps r hc;split at h
   .rename_i hr;have hr':cU r b b':=fun i hi=>ha i (by have:=aaP.1 hr i hi;simpa using this);rw[cV (fun _ _ _ p q=>cV (lD _) p q) hc hr'];simp only;rw[if_pos hr];exact h
   cases h
  cases h
 .exact h
 .cases h
 exact h
theorem Is{all:List Nat}(ha:cU all b b'):∀ {ids:List Nat} {u:List kB},(∀i∈ids,i∈all)->te b all ids=some u->te b' all ids=some u:=by
 intro ids
 induction ids with
 |nil=>intro u _ h;exact h
 |cons i r ih=>
  intro u hs h;simp only[te] at h ⊢;split at h
  .rename_i x y h1 h2;cases h;rw[Iu h1 (hs i (by simp)) ha,ih (fun j hj=>hs j (by simp[hj])) h2]
  cases h
theorem rQ{ids:List Nat}{u:List kB}(h:Iv b ids=some u)(ha:cU ids b b'):Iv b' ids=some u:=Is ha (fun _ h=>h) h
theorem Mg{r:RC}(h:cU ((ju b site r).2.map (·.1)) b b'):ju b' site r=ju b site r:=by
 cases r with
 |p x=>rfl
 |own ty sz es=>simp only[ju];rw[h site (by simp[ju])]
theorem Ik:∀ {rs:List RC} {site:Nat},cU ((iO b site rs).2.map (·.1)) b b'->iO b' site rs=iO b site rs:=by
 intro rs
 induction rs with
 |nil=>intro site _;rfl
 |cons r rs ih=>intro site h;simp only[iO,aaN] at h ⊢;rw[Mg h.left,ih h.right]
theorem BU{r:RV}(h:cU ((uu b site r).2.map (·.1)) b b'):uu b' site r=uu b site r:=by unfold uu at h ⊢;simp only at h;rw[Ik h]
theorem If{rd:List Nat}{r:RV}{u:List kB}(h:land b rd site r=some (v,u))(ha:cU rd b b')(hu:cU (u.map (·.1)) b b'):land b' rd site r=some (v,u):=by
 unfold land at h ⊢;split at h
 .rename_i hc;rw[if_pos hc];cases h;rw[BU hu];rfl
 rename_i hc;rw[if_neg hc];split at h
 .rename_i fu hf;cases h;rw[rQ hf ha];simp only;rw[aaN] at hu;rw[BU hu.right]
 cases h
theorem yB{x:V}{cs:List C}{r:List Nat}(h:AS b x=some (cs,r))(ha:cU r b b'):AS b' x=some (cs,r):=by
 have key:∀id,(id∈r->b' id=b id):=fun id hid=>ha id hid;unfold AS at h ⊢;split at h
 .exact h
 .rename_i id g off;have hid:id∈r:=by
   (repeat' split at h)<;>first
    |cases h
    |skip
   all_goals simp
  simp only[key id hid];exact h
 .rename_i id g i off;have hid:id∈r:=by
   (repeat' split at h)<;>first
    |cases h
    |skip
   all_goals(simp only[aap] at h;obtain⟨e,_,h⟩:=h;cases h;simp)
  simp only[key id hid];exact h
 cases h
theorem Ib{x:V}{n:Nat}{r:List Nat}(h:y7 b x=some (n,r))(ha:cU r b b'):y7 b' x=some (n,r):=by
 have key:∀id,(id∈r->b' id=b id):=fun id hid=>ha id hid;unfold y7 at h ⊢;split at h
 .exact h
 .exact h
 .rename_i id g;have hid:id∈r:=by
   (repeat' split at h)<;>first
    |cases h
    |skip
   all_goals simp
  simp only[key id hid];exact h
 cases h
theorem Fz{ag:Bool}{x:V}{es:List (PV×List PV)}{r:List Nat}(h:mapOf b ag x=some (es,r))(ha:cU r b b'):mapOf b' ag x=some (es,r):=by
 have key:∀id,(id∈r->b' id=b id):=fun id hid=>ha id hid;unfold mapOf at h ⊢;split at h
 .exact h
 .exact h
 .rename_i id g;have hid:id∈r:=by
   (repeat' split at h)<;>first
    |cases h
    |skip
   all_goals simp
  simp only[key id hid];exact h
 cases h
theorem jQ{x:V}{es:List (List PV)}{r fr:List Nat}(h:cM b x=some (es,r,fr))(ha:cU r b b')(hf:cU fr b b'):cM b' x=some (es,r,fr):=by
 have key:∀id,(id∈r->b' id=b id):=fun id hid=>ha id hid;unfold cM at h ⊢;split at h
 .exact h
 .exact h
 .rename_i id g z off len;have hid:id∈r:=by
   (repeat' split at h)<;>first
    |cases h
    |skip
   all_goals simp
  simp only[key id hid];split at h
  .exact h
  .exact h
  .split at h
   .rename_i hc;rw[if_pos hc];split at h
    .rename_i h1;cases h;rw[cV (fun _ _ _ p q=>cV (lD _) p q) h1 hf]
    cases h
   cases h
  exact h
 cases h
theorem Hb{a:V}{n:Nat}{xs:List C}{u:List kB}{r:List Nat}(h:xN b a n xs=.done v u r)(ha:cU r b b'):xN b' a n xs=.done v u r:=by
 have key:∀id,(id∈r->b' id=b id):=fun id hid=>ha id hid;unfold xN at h ⊢;split at h
 .cases h
 rename_i hn;rw[if_neg hn];split at h
 .rename_i id g off;have hid:id∈r:=by
   (repeat' split at h)<;>first
    |cases h
    |skip
   all_goals simp
  simp only[key id hid];exact h
 .rename_i id g i off;have hid:id∈r:=by
   (repeat' split at h)<;>first
    |cases h
    |skip
   all_goals simp
  simp only[key id hid];exact h
 cases h
theorem D0{ty sz bytes:Nat}{s x:V}{u:List kB}{r:List Nat}(h:aN b site ty sz bytes s x=.done v u r)(ha:cU r b b'):aN b' site ty sz bytes s x=.done v u r:=by
 unfold aN at h ⊢;split at h
 .cases h
 rename_i new rd fr YJ;split at h
 .cases h
 rename_i Yv;split at h
 .cases h
 rename_i fu hfu;have sub:∀ {l:List Nat},(∀i∈l,i∈r)->cU l b b':=fun hl i hi=>ha i (hl i hi);split at h
 .split at h
  .rename_i hn;cases h;rw[jQ YJ ha.left ha.right];simp only;rw[if_neg Yv,rQ hfu ha.right];simp only;rw[if_pos hn]
  rename_i hn;split at h
  .rename_i hr;cases h;rw[jQ YJ (sub fun i hi=>by simp[hi]) (sub fun i hi=>by simp[hi])];simp only;rw[if_neg Yv,rQ hfu (sub fun i hi=>by simp[hi])];simp only;rw[if_neg hn,if_pos hr,ha site (by simp)]
  cases h
 .rename_i id g z len;split at h
  .rename_i g' ty' YR es hb;split at h
   .rename_i hr;cases h;rw[jQ YJ (sub fun i hi=>by simp[hi]) (sub fun i hi=>by simp[hi])];simp only;rw[if_neg Yv,rQ hfu (sub fun i hi=>by simp[hi])];simp only;have h1:=ha id (by simp);rw[hb] at h1;simp only[h1];rw[if_pos hr,ha site (by simp)]
   cases h
  cases h
 cases h
end
theorem LI{sh:Nat->Bool}{e:Env}{b:aE}{p:vP}{u:List kB}{r:List Nat}(h:aR sh e b p=.done v u r)(ha:cU r b b'):aR sh e b' p=.done v u r:=by
 cases p with
 |alloc s z=>simp only[aR,eS.done.injEq] at h ⊢;obtain⟨h1,h2,h3⟩:=h;rw[ha s (by rw[<- h3];simp)];exact⟨h1,h2,h3⟩
 |mkmap s ag=>simp only[aR,eS.done.injEq] at h ⊢;obtain⟨h1,h2,h3⟩:=h;rw[ha s (by rw[<- h3];simp)];exact⟨h1,h2,h3⟩
 |box s x=>
  simp only[aR] at h ⊢;split at h
  .cases h;rw[ha s (by simp)]
  cases h
 |Yl s ty sz ps=>
  simp only[aR] at h ⊢;split at h
  .split at h
   .cases h;rw[ha s (by simp)]
   cases h;rw[ha s (by simp)]
  cases h
 |Yx s ty sz bytes z l c=>
  simp only[aR] at h ⊢;split at h
  .split at h
   .rename_i hc;cases h;rw[if_pos hc,ha s (by simp)]
   cases h
  cases h
 |load k x=>
  simp only[aR] at h ⊢;split at h
  .rename_i cs q hq;split at h
   .rename_i v' hv;cases h;rw[yB hq ha];simp only[hv]
   cases h
  cases h
 |store n a x=>
  simp only[aR] at h ⊢;split at h
  .exact Hb h ha
  cases h
 |bstr x=>
  simp only[aR] at h ⊢;split at h
  .rename_i es q hq;split at h
   .rename_i bs hb;cases h;rw[jQ hq ha (fun i hi=>by simp at hi)];simp only[hb]
   cases h
  cases h
 |lookup kd z ag ok x k=>
  simp only[aR] at h ⊢;split at h
  .rename_i es q key hm hk;split at h
   .cases h
   rename_i hkd;split at h
   .rename_i f hf;split at h
    .rename_i w hw;cases h;rw[Fz hm ha,hk];simp only;rw[if_neg hkd];simp only[hf,hw]
    cases h
   cases h
  cases h
 |clear z x=>
  simp only[aR] at h ⊢;split at h
  .cases h;rfl
  .cases h;rfl
  .rename_i id g w off len e;split at h
   .rename_i h0;cases h;simp only[h0,if_true]
   rename_i h0;split at h
   .rename_i g' ty sz es h4;split at h
    .rename_i hc;cases h;have hb:=ha id (by simp);rw[h4] at hb;rw[if_neg h0];simp only[hb];rw[if_pos hc]
    cases h
   cases h
  cases h
 |mupd kd ag m k v=>
  simp only[aR] at h ⊢;split at h
  .rename_i id g q cs h1 h2 h3;split at h
   .rename_i g' ag' es ps h4 h5;split at h
    .rename_i hc;split at h
     .rename_i i w hf;cases h;have hb:=ha id (by simp);rw[h4] at hb;simp only[hb,h5];rw[if_pos hc];simp only[hf]
     .rename_i hf;cases h;have hb:=ha id (by simp);rw[h4] at hb;simp only[hb,h5];rw[if_pos hc];simp only[hf]
     cases h
    cases h
   cases h
  cases h
 |mlen x=>
  simp only[aR] at h ⊢;split at h
  .rename_i n q hq;cases h;rw[Ib hq ha]
  cases h
 |append s ty sz bytes x y=>exact D0 h ha
 |call s f as=>
  simp only[aR] at h
  (repeat' split at h)<;>cases h
 |_=>exact h
theorem R9{sh:Nat->Bool}{e:Env}{b:aE}{p:vP}{f s:Nat}{vs:List V}{r:List Nat}(h:aR sh e b p=.pc f vs r s)(ha:cU r b b'):aR sh e b' p=.pc f vs r s:=by
 cases p with
 |call s f as=>
  simp only[aR] at h ⊢;split at h
  .split at h
   .cases h
   rename_i Za;rw[if_neg Za];split at h
   .rename_i hs;cases h;rw[CL hs ha]
   cases h
  cases h
 |_=>
  (simp only[aR,xN,aN,gY,reduceCtorEq] at h)<;>(repeat' split at h)<;>cases h
theorem R8{sh:Nat->Bool}{e:Env}{b:aE}{p:vP}{f:Nat}{vs:List V}(h:aR sh e b p=.sc f vs):aR sh e b' p=.sc f vs:=by
 cases p with
 |call s f as=>
  simp only[aR] at h ⊢;split at h
  .split at h
   .rename_i Za;rw[if_pos Za];exact h
   split at h<;>cases h
  cases h
 |_=>
  (simp only[aR,xN,aN,gY,reduceCtorEq] at h)<;>(repeat' split at h)<;>cases h
theorem We:∀(u:List kB) (b b':aE) (id:Nat),id∈u.map (·.1)->app u b id=app u b' id:=by
 intro u
 induction u with
 |nil=>intro b b' id h;simp at h
 |cons x u ih=>
  intro b b' id h;obtain⟨i,o⟩:=x;simp only[app];by_cases hu:id∈u.map (·.1)
  .exact ih _ _ _ hu
  have hi:id=i:=by simpa [hu] using h
  have key:∀(u:List kB) (b:aE),id∉u.map (·.1)->app u b id=b id:=by
   intro u
   induction u with
   |nil=>intro b _;rfl
   |cons x u ih=>intro b h;obtain⟨j,o⟩:=x;simp only[aar,aag,not_or] at h;simp only[app];rw[ih _ h.2,ae,if_neg h.1]
  rw[key u _ hu,key u _ hu,ae,ae,if_pos hi,if_pos hi]
theorem Ea:∀(u:List kB) (b:aE) (id:Nat),id∉u.map (·.1)->app u b id=b id:=by
 intro u
 induction u with
 |nil=>intro b id _;rfl
 |cons x u ih=>intro b id h;obtain⟨j,o⟩:=x;simp only[aar,aag,not_or] at h;simp only[app];rw[ih _ _ h.2,ae,if_neg h.1]
theorem Cx{e e':Env}{g:Option (Nat×Bool)}(h:∀t w,g=some (t,w)->e' t=e t):wanted e' g=wanted e g:=by
 cases g with
 |none=>rfl
 |some q=>obtain⟨t,w⟩:=q;simp only[wanted,h t w rfl]
def eF.writes(f:eF)(id:Nat):Bool:=f.wr.contains id||f.fs.contains (eW id)
def eF.kE(f:eF)(id:Nat):Bool:=f.rd.contains id||f.writes id
theorem t7{b:aE}:∀(n:Nat) (c:C),cU (eJ b n c) b b'->eJ b' n c=eJ b n c:=by
 intro n
 induction n with
 |zero=>intro c _;rfl
 |succ n ih=>
  have many:∀(cs:List C),cU (cs.map (eJ b n)).flatten b b'->(cs.map (eJ b' n)).flatten=(cs.map (eJ b n)).flatten:=by
   intro cs
   induction cs with
   |nil=>intro _;rfl
   |cons c cs ihc=>intro h;simp only[aar,abl] at h ⊢;rw[ih c h.left,ihc h.right]
  intro c h;cases c with
  |p v=>rfl
  |Yh id g off=>
   simp only[eJ] at h ⊢;have hb:=h id (by simp);rw[hb];split
   .rename_i cs hbe;rw[hbe] at h;rw[many cs (fun i hi=>h i (by simp only[aag];exact .inr hi))]
   rfl
  |YJ id g i off=>
   simp only[eJ] at h ⊢;have hb:=h id (by simp);rw[hb];split
   .rename_i cs hbe;rw[hbe] at h;rw[many _ (fun i hi=>h i (by simp only[aag];exact .inr hi))]
   rfl
  |hsl id g z off len=>
   simp only[eJ] at h ⊢;have hb:=h id (by simp);rw[hb];split
   .rename_i cs hbe;rw[hbe] at h;rw[many _ (fun i hi=>h i (by simp only[aag];exact .inr hi))]
   rfl
  |YW id g=>rfl
  |hfn f x y=>simp only[eJ] at h ⊢;rw[many x h.left,many y h.right]
theorem CY{b:aE}(v:V)(h:cU (eQ b v) b b'):eQ b' v=eQ b v:=by
 cases v with
 |undef=>rfl
 |tup _=>rfl
 |one c=>exact t7 _ _ h
 |agg cs=>
  simp only[eQ] at h ⊢
  induction cs with
  |nil=>rfl
  |cons c cs ih=>simp only[aar,abl] at h ⊢;rw[t7 _ c h.left,ih h.right]
theorem GS{f:Nat}{vs:List V}{b:aE}(h:cU (allow sh f vs b).ids b b'):allow sh f vs b'=allow sh f vs b:=by
 have:(vs.map (eQ b')).flatten=(vs.map (eQ b)).flatten:=by
  unfold allow at h;simp only at h
  induction vs with
  |nil=>rfl
  |cons v vs ih=>simp only[aar,abl] at h ⊢;rw[CY v h.left,ih h.right]
 unfold allow;rw[this]
def mV(cs:fd):Prop:=∀f vs al X9 v Ya,cs f vs al X9=some (v,Ya)->(∀id,al.ok id=false->Ya id=X9 id)/\
 ∀Yg,(∀id,al.ok id=true->Yg id=X9 id)->∃YQ,cs f vs al Yg=some (v,YQ)/\ ∀id,YQ id=if al.ok id then Ya id else Yg id
theorem uf{al:Al}{l:List Nat}(h:al.mX l=true){id:Nat}(hid:id∈l):al.ok id=true:=aaP.1 h id hid
theorem Im{a b:Al}(hb:b.any=false)(h:a.holds b=true){id:Nat}(hid:b.ok id=true):a.ok id=true:=by
 unfold Al.holds at h;simp only[ab4,aaf] at h;rcases h with h|⟨h1,h2⟩
 .simp[Al.ok,h]
 simp only[Al.ok,hb,acD,ab4] at hid;rcases hid with hid|hid
 .exact uf h1 (by simpa using hid)
 have:=aaP.1 h2 (eW id) (by simpa using hid);simp only[Al.ok,ab4];exact .inr this
theorem ql(YD:mV cs){o:aj}{Yc:Env}{X9 Ya:aE}{f:eF}(h:step1 sh cp cs o env X9=some (Yc,Ya,f)):
  ∃v,Yc=put env o.dst v/\(∀id,f.writes id=false->Ya id=X9 id)/\(∀id,f.kE id=true->sh.al.ok id=true)/\
   ∀(Yn:Env) (Yg:aE),gU o.Hg env Yn->(∀id,f.kE id=true->Yg id=X9 id)->
    ∃YQ,step1 sh cp cs o Yn Yg=some (put Yn o.dst v,YQ,f)/\ ∀id,YQ id=if f.writes id then Ya id else Yg id:=by
 have acB:∀(Yn:Env),gU o.Hg env Yn->gU o.op.tmps env Yn/\wanted Yn o.guard=wanted env o.guard:=by intro Yn h;unfold aj.Hg at h;exact⟨h.left,Cx fun t w hg=>h.right t (by rw[hg];simp)⟩
 have hwr:∀(r w:List Nat) (id:Nat),(⟨r,w,[]⟩:eF).writes id=w.contains id:=by intro r w id;simp[eF.writes]
 have hto:∀(r w:List Nat) (id:Nat),(⟨r,w,[]⟩:eF).kE id=true↔id∈r\/id∈w:=by intro r w id;simp[eF.kE,eF.writes]
 have akN:∀(u:List kB) (b b2:aE) (r:List Nat) (id:Nat),app u b2 id=if (⟨r,u.map (·.1),[]⟩:eF).writes id then app u b id else b2 id:=by
  intro u b b2 r id;rw[hwr];by_cases hid:id∈u.map (·.1)
  .rw[if_pos (by simpa using hid)];exact We _ _ _ _ hid
  rw[if_neg (by simpa using hid)];exact Ea _ _ _ hid
 unfold step1 at h;split at h
 .cases h
 .rename_i hw;cases h;refine⟨.undef,rfl,fun _ _=>rfl,fun id hid=>by simp[eF.kE,eF.writes] at hid,fun Yn Yg he hb=>⟨Yg,?_,fun id=>by simp[eF.writes]⟩⟩;unfold step1;rw[(acB Yn he).2,hw]
 rename_i hw;split at h
 .cases h
 .rename_i v u r hp;split at h
  .rename_i Yd;cases h;refine⟨v,rfl,fun id hid=>Ea _ _ _ (by rw[hwr] at hid;simpa using hid),fun id hid=>uf Yd (by have:=(hto _ _ _).1 hid;simpa using this),fun Yn Yg he hb=>⟨app u Yg,?_,fun id=>akN _ _ _ _ _⟩⟩;unfold step1;rw[(acB Yn he).2,hw];simp only;rw[yH (acB Yn he).1,LI hp fun id hid=>hb id ((hto _ _ _).2 (.inl hid))];simp only;rw[if_pos Yd]
  cases h
 .rename_i g vs r s hp;split at h
  .rename_i x hx;split at h
   .rename_i v u hl;split at h
    .rename_i Yd;cases h;refine⟨v,rfl,fun id hid=>Ea _ _ _ (by rw[hwr] at hid;simpa using hid),fun id hid=>uf Yd (by have:=(hto _ _ _).1 hid;simp at this ⊢;rcases this with h|h<;>simp[h]),fun Yn Yg he hb=>⟨app u Yg,?_,fun id=>akN _ _ _ _ _⟩⟩;unfold step1;rw[(acB Yn he).2,hw];simp only;rw[yH (acB Yn he).1,R9 hp fun id hid=>hb id ((hto _ _ _).2 (.inl (by simp[hid])))];simp only[hx];rw[If hl (fun id hid=>hb id ((hto _ _ _).2 (.inl (by simp[hid])))) fun id hid=>hb id ((hto _ _ _).2 (.inr hid))];simp only;rw[if_pos Yd]
    cases h
   cases h
  cases h
 rename_i g vs hp;split at h
 .rename_i Yd;split at h
  .rename_i v b1 hx;cases h;have ZP:∀id,(⟨(allow sh g vs X9).ids,(allow sh g vs X9).ids,(allow sh g vs X9).fs⟩:eF).writes id=(allow sh g vs X9).ok id:=by
    intro id;simp[eF.writes,Al.ok,allow]
   have ajg:∀id,(⟨(allow sh g vs X9).ids,(allow sh g vs X9).ids,(allow sh g vs X9).fs⟩:eF).kE id=(allow sh g vs X9).ok id:=by intro id;simp only[eF.kE,ZP];simp only[Al.ok];cases (allow sh g vs X9).ids.contains id<;>simp
   obtain⟨l1,l2⟩:=YD _ _ _ _ _ _ hx;refine⟨v,rfl,fun id hid=>l1 id (by rw[<- ZP];exact hid),fun id hid=>Im rfl Yd (by rw[<- ajg];exact hid),fun Yn Yg he hb=>?_⟩;obtain⟨YQ,g1,g2⟩:=l2 Yg fun id hid=>hb id (by rw[ajg];exact hid);have aou:allow sh g vs Yg=allow sh g vs X9:=GS fun id hid=>hb id (by rw[ajg];simp[Al.ok,hid]);refine⟨YQ,?_,fun id=>by rw[ZP];exact g2 id⟩;unfold step1;rw[(acB Yn he).2,hw];simp only;rw[yH (acB Yn he).1,R8 hp];simp only[aou];rw[if_pos Yd];simp only[g1]
  cases h
 cases h
theorem Oh(env:Env){d d':Option Nat}(v v':V)(h:∀t,d=some t->d'≠some t):put (put env d v) d' v'=put (put env d' v') d v:=by
 cases d with
 |none=>rfl
 |some t=>
  cases d' with
  |none=>rfl
  |some t'=>
   have Yk:t'≠t:=fun e=>h t rfl (by rw[e]);funext x;simp only[put,ae];by_cases h1:x=t
   .subst h1;rw[if_pos rfl,if_neg (fun e=>Yk e.symm),if_pos rfl]
   rw[if_neg h1,if_neg h1]
theorem JF{d:Option Nat}{t:Nat}(h:d≠some t):put env d v t=env t:=by
 cases d with
 |none=>rfl
 |some x=>simp only[put,ae];rw[if_neg (fun e=>h (by rw[e]))]
theorem my{a b:List Nat}(h:meets a b=false){i:Nat}(ha:i∈a):i∉b:=by
 intro hb;have:meets a b=true:=by simp only[meets,List.any_eq_true];exact⟨i,ha,by simpa using hb⟩
 rw[h] at this;cases this
theorem sZ{fs ids:List Nat}(h:Ij fs ids=false){i:Nat}(hi:i∈ids):eW i∉fs:=by
 intro hf;have:Ij fs ids=true:=by simp only[Ij,List.any_eq_true];exact⟨i,hi,by simpa using hf⟩
 rw[h] at this;cases this
theorem IV{a b:eF}(h:Aa a b=false)(id:Nat):(a.writes id=true->b.kE id=false)/\(b.writes id=true->a.kE id=false):=by
 simp only[Aa,adY] at h;obtain⟨⟨⟨⟨⟨c1,c2⟩,c3⟩,c4⟩,c5⟩,c6⟩:=h;have sw:∀ {x y:List Nat},meets x y=false->meets y x=false:=by
  intro x y h;cases he:meets y x with
  |false=>rfl
  |true=>simp only[meets,List.any_eq_true] at he;obtain⟨i,h1,h2⟩:=he;exact absurd h1 (my h (by simpa using h2))
 have one:∀ {a b:eF},meets a.wr b.rd=false->meets a.wr b.wr=false->meets a.fs b.fs=false->Ij a.fs (b.rd++b.wr)=false->Ij b.fs (a.rd++a.wr)=false->a.writes id=true->b.kE id=false:=by
  intro a b c1 c2 c4 c5 c6 hw;simp only[eF.writes,ab4] at hw;simp only[eF.kE,eF.writes,adY];rcases hw with hw|hw
  .have hw:id∈a.wr:=by simpa using hw
   exact⟨by simpa using my c1 hw,by simpa using my c2 hw,by simpa using sZ c6 (i:=id) (by simp[hw])⟩
  have hw:eW id∈a.fs:=by simpa using hw
  refine⟨?_,?_,?_⟩
  .cases he:b.rd.contains id with
   |false=>rfl
   |true=>exact absurd hw (sZ c5 (i:=id) (by simp at he;simp[he]))
  .cases he:b.wr.contains id with
   |false=>rfl
   |true=>exact absurd hw (sZ c5 (i:=id) (by simp at he;simp[he]))
  simpa using my c4 hw
 exact⟨one c1 c2 c4 c5 c6,one (sw c3) (sw c2) (sw c4) c6 c5⟩
theorem swap{sh:Ctx}{cp:dh}{cs:fd}(YD:mV cs){x y:aj}{env YC Yn:Env}{X9 Yi Yg:aE}{e1 e2:eF}(hx:step1 sh cp cs x env X9=some (YC,Yi,e1))(hy:step1 sh cp cs y YC Yi=some (Yn,Yg,e2))
  (hf:zw x y=true) (hc:Aa e1 e2=false):∃envy blky,step1 sh cp cs y env X9=some (envy,blky,e2)/\step1 sh cp cs x envy blky=some (Yn,Yg,e1):=by
 obtain⟨v1,rfl,fr1,_,anA⟩:=ql YD hx;obtain⟨v2,rfl,fr2,_,anz⟩:=ql YD hy;have hf1:∀t,x.dst=some t->t∉y.Hg/\y.dst≠some t:=by intro t ht;simp only[zw,ht,aaf] at hf;have h1:=hf.1;simp at h1;exact⟨by simpa using h1.1,h1.2⟩
 have hf2:∀t,y.dst=some t->t∉x.Hg:=by
  intro t ht;simp only[zw,ht,aaf] at hf;have h1:=hf.2
  simpa using h1
 have YL:=IV hc;have nw:∀ {a b:eF} {id:Nat},(a.writes id=true->b.kE id=false)->b.kE id=true->a.writes id=false:=by
  intro a b id h1 h2;cases h:a.writes id with
  |false=>rfl
  |true=>rw[h1 h] at h2;cases h2
 have wt:∀ {a:eF} {id:Nat},a.writes id=true->a.kE id=true:=by intro a id h;simp[eF.kE,h]
 obtain⟨blky,hy2,yb⟩:=anz env X9 (fun t ht=>(JF fun e=>(hf1 t e).1 ht).symm) (fun id hid=>(fr1 id (nw (YL id).1 hid)).symm);obtain⟨blkx,hx2,xb⟩:=anA (put env y.dst v2) blky (fun t ht=>JF fun e=>hf2 t e ht) (fun id hid=>by rw[yb id,nw (YL id).2 hid];rfl)
 refine⟨_,blky,hy2,?_⟩;rw[hx2,Oh env v1 v2 fun t ht=>(hf1 t ht).2];have:blkx=Yg:=by
  funext id;rw[xb id,yb id];cases h1:e1.writes id with
  |true=>have h2:e2.writes id=false:=nw (YL id).2 (wt h1);exact(fr2 id h2).symm
  |false=>
   cases h2:e2.writes id with
   |true=>rfl
   |false=>simp only[aaq,if_false];rw[fr2 id h2,fr1 id h1]
 rw[this]
structure It where
 i:Nat
 io:aj
 e:eF
def Eb(x y:It):Prop:=zw x.io y.io=true/\Aa x.e y.e=false
theorem yf{o:aj}{r:List aj}{Yc:Env}{X9 Ya:aE}{e:eF}{es:List eF}(h:steps sh cp cs (o::r) env X9=some (Yc,Ya,e::es)):
  ∃YC Yi,step1 sh cp cs o env X9=some (YC,Yi,e)/\steps sh cp cs r YC Yi=some (Yc,Ya,es):=by
 simp only[steps] at h;split at h
 .rename_i YC Yi e1 h1;split at h
  .rename_i Yn Yg es2 h2;cases h;exact⟨YC,Yi,h1,h2⟩
  cases h
 cases h
theorem NC{o:aj}{r:List aj}{YC Yc:Env}{X9 Yi Ya:aE}{e:eF}{es:List eF}(h1:step1 sh cp cs o env X9=some (YC,Yi,e))(h2:steps sh cp cs r YC Yi=some (Yc,Ya,es)):
  steps sh cp cs (o::r) env X9=some (Yc,Ya,e::es):=by
 simp only[steps,h1,h2]
theorem Nt(YD:mV cs){y:It}{l2:List It}:∀ {l1:List It} {env Yc:Env} {X9 Ya:aE},steps sh cp cs ((l1++y::l2).map (·.io)) env X9=some (Yc,Ya,(l1++y::l2).map (·.e))->(∀x∈l1,Eb x y)->
  ∃YC Yi,step1 sh cp cs y.io env X9=some (YC,Yi,y.e)/\steps sh cp cs ((l1++l2).map (·.io)) YC Yi=some (Yc,Ya,(l1++l2).map (·.e)):=by
 intro l1
 induction l1 with
 |nil=>intro env Yc X9 Ya h _;exact yf h
 |cons x l1 ih=>intro env Yc X9 Ya h hap;obtain⟨envx,blkx,h1,h2⟩:=yf h;obtain⟨envy,blky,h3,h4⟩:=ih h2 fun z hz=>hap z (by simp[hz]);obtain⟨en1,bl1,h5,h6⟩:=swap YD h1 h3 (hap x (by simp)).1 (hap x (by simp)).2;exact⟨en1,bl1,h5,NC h6 h4⟩
def mI(al:Al)(b b2:aE):Prop:=∀id,al.ok id=true->b2 id=b id
def mH(al:Al)(b' b2 b2':aE):Prop:=∀id,b2' id=if al.ok id then b' id else b2 id
def Frame(al:Al)(b b':aE):Prop:=∀id,al.ok id=false->b' id=b id
theorem mH.agree{al:Al}{b2 b2':aE}(h:mH al b' b2 b2'):mI al b' b2':=fun id hid=>by rw[h id,hid];rfl
theorem mH.trans{al:Al}{b2 b2' b'' amc:aE}(h:mH al b' b2 b2')(k:mH al b'' b2' amc):mH al b'' b2 amc:=fun id=>by rw[k id,h id];cases al.ok id<;>rfl
theorem mH.refl{al:Al}{b b2:aE}(h:mI al b b2):mH al b b2 b2:=fun id=>by
 cases hid:al.ok id with
 |true=>exact h id hid
 |false=>rfl
theorem Frame.trans{al:Al}{b b'':aE}(h:Frame al b b')(k:Frame al b' b''):Frame al b b'':=fun id hid=>(k id hid).trans (h id hid)
section
variable {sh:Ctx} {cp:dh} {cs:fd} (YD:mV cs)
include YD
theorem NE:∀ {ops:List aj} {env Yc:Env} {X9 Ya:aE} {es:List eF},steps sh cp cs ops env X9=some (Yc,Ya,es)->Frame sh.al X9 Ya/\
  ∀Yg,mI sh.al X9 Yg->∃YQ,steps sh cp cs ops env Yg=some (Yc,YQ,es)/\mH sh.al Ya Yg YQ:=by
 intro ops
 induction ops with
 |nil=>intro env Yc X9 Ya es h;simp only[steps,aau,aaT] at h;obtain⟨rfl,rfl,rfl⟩:=h;exact⟨fun _ _=>rfl,fun Yg ha=>⟨Yg,rfl,.refl ha⟩⟩
 |cons o ops ih=>
  intro env Yc X9 Ya es h;simp only[steps] at h;split at h
  .rename_i YC Yi e h1;split at h
   .rename_i Yn Yg es' h2;cases h;obtain⟨v,rfl,fr,tw,loc⟩:=ql YD h1;obtain⟨f2,g2⟩:=ih h2;have hw:∀id,sh.al.ok id=false->e.writes id=false:=by
     intro id hid;cases hh:e.writes id with
     |false=>rfl
     |true=>have:=tw id (by simp[eF.kE,hh]);rw[hid] at this;cases this
    refine⟨Frame.trans (fun id hid=>fr id (hw id hid)) f2,fun b2 ha=>?_⟩;obtain⟨b1,s1,m1⟩:=loc env b2 (fun _ _=>rfl) (fun id hid=>ha id (tw id hid));have hm1:mH sh.al Yi b2 b1:=by
     intro id;rw[m1 id];cases hid:sh.al.ok id with
     |true=>
      cases hh:e.writes id with
      |true=>rfl
      |false=>simp only[aaq,if_false,if_true];rw[ha id hid,fr id hh]
     |false=>rw[hw id hid]
    obtain⟨b3,s2,m2⟩:=g2 b1 hm1.agree;exact⟨b3,by simp only[steps,s1,s2],hm1.trans m2⟩
   cases h
  cases h
theorem SK{c:Env->aE->Option (gD×Env×aE)}(hc:∀ {env Yc X9 Ya e},c env X9=some (e,Yc,Ya)->Frame sh.al X9 Ya/\ ∀Yg,mI sh.al X9 Yg->∃YQ,c env Yg=some (e,Yc,YQ)/\mH sh.al Ya Yg YQ):
  ∀(k:Nat) {env Yc:Env} {X9 Ya:aE} {e:gD},iter c k env X9=some (e,Yc,Ya)->Frame sh.al X9 Ya/\ ∀Yg,mI sh.al X9 Yg->∃YQ,iter c k env Yg=some (e,Yc,YQ)/\mH sh.al Ya Yg YQ:=by
 have _u0:=YD;intro k
 induction k with
 |zero=>intro env Yc X9 Ya e h;simp[iter] at h
 |succ k ih=>
  intro env Yc X9 Ya e h;simp only[iter] at h;split at h
  .rename_i YC Yi h1;obtain⟨f1,g1⟩:=hc h1;obtain⟨f2,g2⟩:=ih h;refine⟨f1.trans f2,fun b2 ha=>?_⟩;obtain⟨b1,s1,m1⟩:=g1 b2 ha;obtain⟨b3,s2,m2⟩:=g2 b1 m1.agree;exact⟨b3,by simp only[iter,s1,s2],m1.trans m2⟩
  rename_i Yk;obtain⟨f1,g1⟩:=hc h;refine⟨f1,fun b2 ha=>?_⟩;obtain⟨b1,s1,m1⟩:=g1 b2 ha;refine⟨b1,?_,m1⟩;cases e with
  |normal=>exact(Yk _ _ h).elim
  |exit i=>simp only[iter,s1]
  |ret=>simp only[iter,s1]
theorem Kp{n:Nat}:∀(c:aq) {env Yc:Env} {X9 Ya:aE} {e:gD},exec sh cp cs n c env X9=some (e,Yc,Ya)->Frame sh.al X9 Ya/\
  ∀Yg,mI sh.al X9 Yg->∃YQ,exec sh cp cs n c env Yg=some (e,Yc,YQ)/\mH sh.al Ya Yg YQ:=by
 intro c
 induction c with
 |skip=>intro env Yc X9 Ya e h;simp only[exec,aau,aaT] at h;obtain⟨rfl,rfl,rfl⟩:=h;exact⟨fun _ _=>rfl,fun b2 ha=>⟨b2,rfl,.refl ha⟩⟩
 |exit id=>intro env Yc X9 Ya e h;simp only[exec,aau,aaT] at h;obtain⟨rfl,rfl,rfl⟩:=h;exact⟨fun _ _=>rfl,fun b2 ha=>⟨b2,rfl,.refl ha⟩⟩
 |ret=>intro env Yc X9 Ya e h;simp only[exec,aau,aaT] at h;obtain⟨rfl,rfl,rfl⟩:=h;exact⟨fun _ _=>rfl,fun b2 ha=>⟨b2,rfl,.refl ha⟩⟩
 |bad=>intro env Yc X9 Ya e h;simp[exec] at h
 |region d ops=>
  intro env Yc X9 Ya e h;simp only[exec] at h;split at h
  .rename_i YC Yi es h1;obtain⟨f1,g1⟩:=NE YD h1;have he:(e,Yc,Ya)=(gD.normal,YC,Yi)/\(d=true->gM ops [] es=true):=by
    cases d with
    |false=>simp at h;exact⟨by simp[h],fun h=>by cases h⟩
    |true=>
     simp only[if_true] at h;split at h
     .rename_i hd;cases h;exact⟨rfl,fun _=>hd⟩
     cases h
   obtain⟨he,hd⟩:=he;cases he;refine⟨f1,fun b2 ha=>?_⟩;obtain⟨b1,s1,m1⟩:=g1 b2 ha;refine⟨b1,?_,m1⟩;simp only[exec,s1];cases d with
   |false=>simp
   |true=>simp[hd rfl]
  cases h
 |seq a b iha ihb=>
  intro env Yc X9 Ya e h;simp only[exec] at h;split at h
  .rename_i YC Yi h1;obtain⟨f1,g1⟩:=iha h1;obtain⟨f2,g2⟩:=ihb h;refine⟨f1.trans f2,fun b2 ha=>?_⟩;obtain⟨b1,s1,m1⟩:=g1 b2 ha;obtain⟨b3,s2,m2⟩:=g2 b1 m1.agree;exact⟨b3,by simp only[exec,s1,s2],m1.trans m2⟩
  rename_i Yk;obtain⟨f1,g1⟩:=iha h;refine⟨f1,fun b2 ha=>?_⟩;obtain⟨b1,s1,m1⟩:=g1 b2 ha;refine⟨b1,?_,m1⟩;cases e with
  |normal=>exact(Yk _ _ h).elim
  |exit i=>simp only[exec,s1]
  |ret=>simp only[exec,s1]
 |cond x a b iha ihb=>
  intro env Yc X9 Ya e h;simp only[exec] at h ⊢;split at h
  .rename_i t ht;cases t with
   |true=>exact iha h
   |false=>exact ihb h
  cases h
 |block id c ih=>
  intro env Yc X9 Ya e h;simp only[exec] at h;split at h
  .rename_i i YC Yi h1;obtain⟨f1,g1⟩:=ih h1;have hb:Ya=Yi:=by split at h<;>cases h<;>rfl
   subst hb;refine⟨f1,fun b2 ha=>?_⟩;obtain⟨b1,s1,m1⟩:=g1 b2 ha;refine⟨b1,?_,m1⟩;simp only[exec,s1];split at h
   .rename_i hi;cases h;rw[if_pos hi]
   rename_i hi;cases h;rw[if_neg hi]
  rename_i Yk;obtain⟨f1,g1⟩:=ih h;refine⟨f1,fun b2 ha=>?_⟩;obtain⟨b1,s1,m1⟩:=g1 b2 ha;refine⟨b1,?_,m1⟩;cases e with
  |normal=>simp only[exec,s1]
  |exit i=>exact(Yk _ _ _ h).elim
  |ret=>simp only[exec,s1]
 |loop c ih=>intro env Yc X9 Ya e h;simp only[exec] at h ⊢;exact SK YD (fun h=>ih h) n h
end
theorem v8{al:Al}{X9 Yg:aE}(ha:mI al X9 Yg):∀ {rs:List (Nat×Option (Option Nat))} {vs:List V},dd al env X9 rs=some vs->dd al env Yg rs=some vs:=by
 intro rs
 induction rs with
 |nil=>intro vs h;exact h
 |cons r rs ih=>
  obtain⟨t,k⟩:=r;cases k with
  |none=>
   intro vs h;simp only[dd] at h ⊢;split at h
   .rename_i v q h1 h2;cases h;simp only[h1,ih h2]
   cases h
  |some k=>
   intro vs h;simp only[dd] at h ⊢;split at h
   .rename_i cs rd q h1 h2;split at h
    .rename_i Yd;rw[yB h1 (fun id hid=>ha id (uf Yd hid)),ih h2];simp only[Yd,if_true];exact h
    cases h
   cases h
theorem RY(YD:mV cs){n:Nat}{fn:dD}{args:List V}{X9 Ya:aE}(h:og sh cp cs n fn args X9=some (v,Ya)):Frame sh.al X9 Ya/\
  ∀Yg,mI sh.al X9 Yg->∃YQ,og sh cp cs n fn args Yg=some (v,YQ)/\mH sh.al Ya Yg YQ:=by
 unfold og at h;split at h
 .rename_i env b hx;simp only[aap] at h;obtain⟨vs,h1,h2⟩:=h;cases h2;obtain⟨f1,g1⟩:=Kp YD _ hx;refine⟨f1,fun b2 ha=>?_⟩;obtain⟨b3,s1,m1⟩:=g1 b2 ha;exact⟨b3,by unfold og;rw[s1];simp only[v8 m1.agree h1,abf],m1⟩
 .rename_i env b hx;simp only[aap] at h;obtain⟨vs,h1,h2⟩:=h;cases h2;obtain⟨f1,g1⟩:=Kp YD _ hx;refine⟨f1,fun b2 ha=>?_⟩;obtain⟨b3,s1,m1⟩:=g1 b2 ha;exact⟨b3,by unfold og;rw[s1];simp only[v8 m1.agree h1,abf],m1⟩
 cases h
end
end Go.Abs
namespace Go.Abs
variable {P:Program} {w0:World}
def kS(w:World)(O:Nat->Prop):V->Value->Prop
 | .one (.p x),v=>bt w O x v
 | .agg cs,v=>∃arr ps,v=.agg arr/\cs=ps.map .p/\aY w O ps arr.toList
 |_,_=>False
def Enters(P:Program)(f:Nat):Prop:= ∃fn c,P.funcs[f]?=some fn/\fn.body=some c/\(fn.name== "runtime.NumGoroutine")=false
def TR(w:World)(Q:Nat->Prop)(r:RV)(val:Value)(bs:List Nat):Prop:= ∃vs,Aw r val vs/\gk w Q (eZ r) vs bs
def vO(w:World)(O:Nat->Prop)(r:RV):Ending->World->Prop:=fun e w'=>∃val bs,e=.returned val/\fX w w'/\bs.Nodup/\(∀c∈bs,w.heap.size<=c/\c<w'.heap.size)/\TR w' (fun c=>O c\/c∈bs) r val bs
def Good(G:World->Prop)(w:World):Prop:=G w/\ ∀w w',fX w w'->G w->G w'
theorem Ok.Xz{m:Mem}(h:Ok w0 m):fX w0 m.w:=⟨h.os,h.tape,h.output,h.size,h.base⟩
theorem gk.pure{w:World}{Q Q':Nat->Prop}(h:∀b,Q' b->Q b):∀ {rs:List RC} {vs:List Value} {bs:List Nat},(∀c∈bs,¬Q' c)->gk w Q rs vs bs->gk w Q' (rs.map RC.pure) vs []:=by
 intro rs
 induction rs with
 |nil=>intro vs bs _ hr;exact⟨hr.1,rfl⟩
 |cons r rs ih=>
  intro vs bs hb hr;have less:∀ {x:PV} {v:Value},bt w Q x v->bt w Q' x v:=fun hp=>hp.mono fun c _ hn=>⟨rfl,fun hq=>hn (h c hq)⟩;cases r with
  |p x=>obtain⟨v,vs',rfl,h1,h2⟩:=hr;exact⟨v,vs',rfl,less h1,ih hb h2⟩
  |own ty sz es=>
   obtain⟨v,vs',c,bs',rfl,rfl,⟨cap,cur,e1,e2,e3,e4,e5,e6,e7,e8⟩,h2⟩:=hr;refine⟨v,vs',rfl,?_,ih (fun c hc=>hb c (by simp[hc])) h2⟩;subst e1;refine bt.sl c 0 cap sz (fun j=>cur.toList.getD j undef) (fun _=>hb c (by simp)) e5 e6 e4 (fun j x hx=>?_) (fun j x hx=>?_)
   .have hj:j<(cur.toList.take (es.length*sz)).length:=by rw[e8.1];exact(aac.1 hx).1
    have hj2:j<cur.size:=by simp at hj;omega
    rw[World.cell?];simp[e2,hj2,List.getD,aa0]
   have hj:j<(cur.toList.take (es.length*sz)).length:=by rw[e8.1];exact(aac.1 hx).1
   have hj2:j<cur.size:=by simp at hj;omega
   refine less (e8.2 j x _ hx ?_);rw[List.getElem?_take_of_lt (by simp at hj;omega)];simp[hj2,List.getD]
theorem kD.pure{r:RV}{v:Value}{vs:List Value}(h:kD r v vs):kD r.yD v vs/\dJ r.yD=(dJ r).map RC.pure:=by
 cases r with
 |one c=>exact⟨h,rfl⟩
 |agg cs=>exact⟨⟨h.1,by simpa [RV.yD] using h.2⟩,rfl⟩
 |tup _=>exact h.elim
theorem q9.pure:∀ {rs:List RV} {us vs:List Value},q9 rs us vs->q9 (rs.map RV.yD) us vs/\gh (rs.map RV.yD)=(gh rs).map RC.pure:=by
 intro rs
 induction rs with
 |nil=>intro us vs h;exact⟨h,rfl⟩
 |cons r rs ih=>
  rintro us vs ⟨u,us',a,b,rfl,rfl,h1,h2⟩
  obtain⟨p1,p2⟩:=h1.pure;obtain⟨q1,q2⟩:=ih h2;exact⟨⟨u,us',a,b,rfl,rfl,p1,q1⟩,by simp[gh,p2,q2]⟩
theorem Aw.pure{r:RV}{v:Value}{vs:List Value}(h:Aw r v vs):Aw r.pure v vs/\eZ r.pure=(eZ r).map RC.pure:=by
 cases r with
 |one c=>exact kD.pure (r:=.one c) h
 |agg cs=>exact kD.pure (r:=.agg cs) h
 |tup rs=>obtain⟨arr,rfl,h2⟩:=h;obtain⟨q1,q2⟩:=h2.pure;exact⟨⟨arr,rfl,q1⟩,q2⟩
theorem vO.bZ{w w':World}{O:Nat->Prop}{r:RV}{e:Ending}(b:Bool)(hO:∀c,O c->c<w.heap.size)(h:vO w O r e w'):vO w O (r.bZ b) e w':=by
 cases b with
 |false=>exact h
 |true=>
  obtain⟨val,bs,rfl,hg,Zx,hbs,vs,h1,h2⟩:=h;obtain⟨p1,p2⟩:=h1.pure;refine⟨val,[],rfl,hg,abr,fun c hc=>by simp at hc,vs,p1,?_⟩;simp only[RV.bZ];rw[p2];refine gk.pure (fun b hb=>?_) (fun c hc hn=>?_) h2
  .rcases hb with hb|hb
   .exact .inl hb
   simp at hb
  rcases hn with hn|hn
  .have:=hO c hn;have:=(hbs c hc).1;omega
  simp at hn
def qY(P:Program)(G:World->Prop)(cp:dh):Prop:=∀f vs r,cp f vs=some r->Enters P f/\ ∀(w:World) (O:Nat->Prop) (args:Array Value),Good G w->(∀c,O c->c<w.heap.size)->Pw (kS w O) vs args.toList->Calls P f args w (vO w O r)
def QN(w0:World)(m:Mem)(v:V)(Ya:aE):Ending->World->Prop:=fun e w'=>∃val m',e=.returned val/\m'.w=w'/\Ok w0 m'/\Ev m m'/\m'.fr=m.fr/\m'.X9=Ya/\bh m' v val
def tF(P:Program)(G:World->Prop)(cs:fd):Prop:=∀f vs al X9 v Ya,cs f vs al X9=some (v,Ya)->Enters P f/\ ∀(w0:World) (m:Mem) (args:Array Value),Good G w0->Ok w0 m->m.X9=X9->Pw (bh m) vs args.toList->Calls P f args m.w (QN w0 m v Ya)
theorem Lc{m:Mem}(Yd:Ok w0 m){O:Nat->Prop}{x y:V}{r:List Nat}{v:Value}(h:gI m.X9 x=some (y,r))(hr:bh m x v)(hs:fS m O r):kS m.w O y v:=by
 cases x with
 |undef=>simp[gI] at h
 |tup vs=>simp[gI] at h
 |one c=>simp only[gI,aap] at h;obtain⟨⟨p,r'⟩,h1,h2⟩:=h;cases h2;exact ng Yd cn h1 hr hs
 |agg cs=>simp only[gI,aap] at h;obtain⟨⟨ps,r'⟩,h1,h2⟩:=h;cases h2;obtain⟨arr,rfl,hc⟩:=bh.agg.1 hr;refine⟨arr,ps,rfl,rfl,?_⟩;exact je (R:=cE m) (T:=bt m.w O) (d9:=fS m O) (fun _ _=>fS.app) (fun _ _ _ _ h1 h2 h3=>ng Yd cn h1 h2 h3) h1 hs hc
theorem yj{m:Mem}(Yd:Ok w0 m){O:Nat->Prop}{xs ys:List V}{r:List Nat}{vs:List Value}(h:mK m.X9 xs=some (ys,r))(hr:Pw (bh m) xs vs)(hs:fS m O r):Pw (kS m.w O) ys vs:=je (R:=bh m) (T:=kS m.w O) (d9:=fS m O) (fun _ _=>fS.app) (fun _ _ _ _ h1 h2 h3=>Lc Yd h1 h2 h3) h hs hr
theorem OC{m:Mem}(Yd:Ok w0 m){c:Nat}(h:m.own c):c<m.w.heap.size:=by
 rcases h with h|⟨id,o,ho,_,rfl⟩
 .exact Yd.frlt c h
 exact(Yd.obj id o ho).lt
theorem yx{w:World}{Q Q':Nat->Prop}{x:PV}{v:Value}(hs:x.scalar=true)(h:bt w Q x v):bt w Q' x v:=by
 cases h<;>first
  |(simp[PV.scalar] at hs;done)
  |constructor
theorem MZ{w:World}{Q Q':Nat->Prop}:∀ {rs:List RC} {vs:List Value} {bs:List Nat},rs.all RC.alone=true->gk w Q rs vs bs->gk w Q' rs vs bs:=by
 intro rs
 induction rs with
 |nil=>intro vs bs _ h;exact h
 |cons r rs ih=>
  intro vs bs ha h;simp only[ab9,aaf] at ha;cases r with
  |p x=>obtain⟨v,vs',rfl,h1,h2⟩:=h;exact⟨v,vs',rfl,yx ha.1 h1,ih ha.2 h2⟩
  |own ty sz es=>obtain⟨v,vs',c,bs',rfl,rfl,⟨cap,cur,e1,e2,e3,e4,e5,e6,e7,e8⟩,h2⟩:=h;refine⟨v,vs',c,bs',rfl,rfl,⟨cap,cur,e1,e2,e3,e4,e5,e6,e7,e8.1,fun j x u a b=>?_⟩,ih ha.2 h2⟩;refine yx ?_ (e8.2 j x u a b);have hx:=aab a;obtain⟨e,he,hxe⟩:=ac9.1 hx;have h1:=ha.1;simp only[RC.alone] at h1;exact aaP.1 (aaP.1 h1 e he) x hxe
theorem BQ{m:Mem}{w':World}{x:RV}{val:Value}{bs:List Nat}{site:Nat}(Yd:Ok w0 m)(hg:fX m.w w')(Zx:bs.Nodup)(hbs:∀c∈bs,m.w.heap.size<=c/\c<w'.heap.size)(hr:TR w' (fun c=>m.own c\/c∈bs) x val bs):
  ∃m',m'.w=w'/\Ok w0 m'/\Ev m m'/\m'.fr=m.fr/\m'.X9=app (uu m.X9 site x).2 m.X9/\bh m' (uu m.X9 site x).1 val:=by
 obtain⟨vs,h1,h2⟩:=hr;have Z8:Ok w0 (m.later w' (· ∈bs)):=um Yd hg hbs;have aa4:Ev m (m.later w' (· ∈bs)):=qE hg fun c hc=>(hbs c hc).1;obtain⟨m',e1,e2,e3,_,e5,e6,e7⟩:=SN (m00:=m) (site:=site) Z8 (h2.less fun b hb=>BO.1 hb) Zx (fun c hc=>⟨.inr hc,abc Yd.size (hbs c hc).1⟩) aa4 (fun c hc=>.inl (hbs c hc).1);refine⟨m',e1,e2,e3,?_,e6,Lr h1 e7⟩;funext c;apply propext;rw[e5 c];constructor
 .rintro ⟨h|h,h2⟩
  .exact h
  exact(h2 h).elim
 intro h;refine⟨.inl h,fun hc=>?_⟩;have h1:=Yd.frlt c h;have h2:=(hbs c hc).1;omega
theorem Mf{b b':aE}(h:∀s,(b s).1=(b' s).1)(site:Nat)(x:RV):uu b site x=uu b' site x:=by unfold uu;rw[ze _ site b b' fun s _=>h s]
theorem LP{G:World->Prop}{cp:dh}(hcp:qY P G cp)(hG:Good G w0){m:Mem}(Yd:Ok w0 m){f:Nat}{xs vs:List V}{rd:List Nat}{x:RV}{site:Nat}{v:V}{u:List kB}{args:Array Value}(hc:cp f vs=some x)(hs:mK m.X9 xs=some (vs,rd))(aam:Pw (bh m) xs args.toList)
  {pb:Bool} (hl:land m.X9 rd site (x.bZ pb)=some (v,u)):Calls P f args m.w (QN w0 m v (app u m.X9)):=by
 have aak:∀(w:World) (O:Nat->Prop) (args:Array Value),Good G w->(∀c,O c->c<w.heap.size)->Pw (kS w O) vs args.toList->Calls P f args w (vO w O (x.bZ pb)):=fun w O args h1 h2 h3=>((hcp f vs x hc).2 w O args h1 h2 h3).mono fun e w' h=>h.bZ pb h2
 generalize x.bZ pb=x at hl aak;unfold land at hl;split at hl
 .rename_i ZO;cases hl;have key:∀(O:Nat->Prop),(∀c,O c->c<m.w.heap.size)->fS m O rd->(∀w' bs val,TR w' (fun c=>O c\/c∈bs) x val bs->TR w' (fun c=>m.own c\/c∈bs) x val bs)->Calls P f args m.w (QN w0 m (uu m.X9 site x).1 (app (uu m.X9 site x).2 m.X9)):=by
   intro O hO hsp hup;refine(aak m.w O args ⟨hG.2 _ _ Yd.Xz hG.1,hG.2⟩ hO (yj Yd hs aam hsp)).mono ?_;rintro e w' ⟨val,bs,rfl,hg,Zx,hbs,hr⟩
   obtain⟨m',e1,e2,e3,e4,e5,e6⟩:=BQ (site:=site) Yd hg Zx hbs (hup w' bs val hr);exact⟨val,m',rfl,e1,e2,e3,e4,e5,e6⟩
  rcases ZO with rfl|ZP
  .exact key m.own (fun c hc=>OC Yd hc) ⟨fun _ h=>h,fun _ h=>by simp at h⟩ fun _ _ _ h=>h
  refine key (fun _=>False) (fun c h=>h.elim) ⟨fun _ h=>h.elim,fun _ _ h=>h⟩ fun w' bs val h=>?_;obtain⟨vs',h1,h2⟩:=h;exact⟨vs',h1,MZ ZP h2⟩
 split at hl
 .rename_i fu hfu;cases hl;have Z8:=PB Yd hfu;have aa4:=Ir hfu;have hsp:=tc Yd hfu;refine(aak m.w (m.with fu).own args ⟨hG.2 _ _ Yd.Xz hG.1,hG.2⟩ (fun c hc=>OC Z8 hc) (yj Yd hs aam hsp)).mono ?_;rintro e w' ⟨val,bs,rfl,hg,Zx,hbs,hr⟩
  obtain⟨m',e1,e2,e3,e4,e5,e6⟩:=BQ (m:=m.with fu) (site:=site) Z8 hg Zx hbs hr;have aeX:uu (m.with fu).X9 site x=uu m.X9 site x:=Mf (fun s=>xB hfu s) site x;rw[aeX] at e5 e6;refine⟨val,m',rfl,e1,e2,aa4.trans e3,e4,?_,e6⟩;rw[e5,tD];rfl
 cases hl
end Go.Abs
namespace Go.Abs
variable {P:Program} {w0:World}
section
variable{env:Env}
theorem xj{m m':Mem}(YU:Ev m m'){a:Act}{dst:Option Nat}{v:V}{x:Value}(hr:gT m env a.tmps)(hv:bh m' v x)(hd:∀d,dst=some d->d<a.tmps.size):gT m' (put env dst v) (a.put dst x).tmps:=by
 cases dst with
 |none=>exact hr.ev YU
 |some d=>
  intro t;have Ye:=hd d rfl;simp only[put,Act.put,ae];by_cases ht:t=d
  .subst ht;rw[if_pos rfl];have:(a.tmps.setIfInBounds t x).getD t undef=x:=by simp[Ye]
   rw[this];exact hv
  rw[if_neg ht];have:(a.tmps.setIfInBounds d x).getD t undef=a.tmps.getD t undef:=by simp only[Array.getD_eq_getD_getElem?];rw[Array.getElem?_setIfInBounds_ne (fun e=>ht e.symm)]
  rw[this];exact(hr t).ev YU.zero
theorem t8(a:Act)(dst:Option Nat)(x:Value):(a.put dst x).tmps.size=a.tmps.size:=by cases dst<;>simp[Act.put]
theorem put_defers(a:Act)(dst:Option Nat)(x:Value):(a.put dst x).defers=a.defers:=by cases dst<;>simp[Act.put]
theorem xQ{m:Mem}{env:Env}{tmps:Array Value}(hr:gT m env tmps){ops:Array Oper}{o:Oper}{g:Option (Nat×Bool)}{b:Bool}
  (hg:match o.guard with|none=>g=none|some (j,w)=>∃t,(ops[j]?).bind (·.dst)=some t/\g=some (t,w)) (h:wanted env g=some b):Region.wanted o (yielded ops tmps)=b:=by
 unfold Region.wanted;cases ho:o.guard with
 |none=>rw[ho] at hg;subst hg;simp only[wanted,aau] at h;exact h
 |some q=>
  obtain⟨j,w⟩:=q;rw[ho] at hg;obtain⟨t,h1,rfl⟩:=hg;have hrt:=hr t;simp only[wanted] at h;simp only[yielded,h1,Option.bind_some];split at h
  .rename_i b' hb;rw[hb] at hrt;have hv:=j4 hrt;cases h;have:tmps[t]?=some (.bool b'):=by
    rw[Array.getD_eq_getD_getElem?] at hv;cases he:tmps[t]? with
    |none=>rw[he] at hv;simp[undef] at hv
    |some y=>rw[he] at hv;simp at hv;rw[hv]
   rw[this];rfl
  .rename_i hb;rw[hb] at hrt;cases h;have hv:tmps.getD t undef=undef:=hrt;rw[Array.getD_eq_getD_getElem?] at hv;cases he:tmps[t]? with
   |none=>rfl
   |some y=>rw[he] at hv;simp at hv;rw[hv];rfl
  cases h
theorem F5{m:Mem}{f:aC}{v:Value}{g:Nat}{a b:List C}(h:F6 env f=some (g,a,b))(hr:bh m (ev env f) v):∃A B:Array Value,v=.func (.func g) A B/\aZ m a A.toList/\aZ m b B.toList:=by
 unfold F6 at h;split at h
 .rename_i g' x y he;cases h;rw[he] at hr;obtain⟨hp⟩:cE m _ v:=hr;cases hp with
  |fn A B ha hb hra hrb=>exact⟨A,B,rfl,aY.Rh ⟨by simpa using ha,fun j x u p q=>hra j x u p (by simpa using q)⟩,aY.Rh ⟨by simpa using hb,fun j x u p q=>hrb j x u p (by simpa using q)⟩⟩
 .rename_i g' x y he;cases h;rw[he] at hr;have hc:cE m _ v:=hr;cases hc with
  |hfn A B ha hb hra hrb=>exact⟨A,B,rfl,⟨by simpa using ha,fun j x u p q=>hra j x u p (by simpa using q)⟩,⟨by simpa using hb,fun j x u p q=>hrb j x u p (by simpa using q)⟩⟩
 cases h
theorem GO{m:Mem}{a:Act}(hr:gT m env a.tmps):∀ {xs:List Operand} {ys:List aC},jf xs=some ys->Pw (bh m) (ys.map (ev env)) (xs.map a.eval):=by
 intro xs
 induction xs with
 |nil=>intro ys h;simp[jf] at h;subst h;exact⟨rfl,fun j x u p=>by simp at p⟩
 |cons x xs ih=>
  intro ys h;simp only[jf] at h;split at h
  .rename_i y ys' h1 h2;cases h;obtain⟨i1,i2⟩:=ih h2;refine⟨by simpa using i1,fun j z u p q=>?_⟩;cases j with
   |zero=>simp at p q;subst p q;exact aF h1 hr
   |succ j=>exact i2 j z u (by simpa using p) (by simpa using q)
  cases h
theorem ud{m:Mem}{cs:List C}{vs:List Value}(h:aZ m cs vs):Pw (bh m) (cs.map .one) vs:=by refine⟨by simpa using h.1,fun j x u p q=>?_⟩;simp only[aaz,aap] at p;obtain⟨c,hc,rfl⟩:=p;exact bh.one.2 (h.2 j c u hc q)
theorem DS{f:Nat}(h:Enters P f)(args:Array Value)(w:World):(callFunc f args).run P w=.ok (.enter f args) w:=by
 obtain⟨fn,c,h1,h2,h3⟩:=h;have h4:¬fn.name= "runtime.NumGoroutine" :=by simpa using h3
 simp[callFunc,run_program,h1,h2,h4]
theorem GC{o:Oper}{c:Call}{fo:Operand}{a:Act}{g:Nat}{A B:Array Value}{w:World}(ho:o.op=.call c)(hc:c.callee=.value fo)(hv:a.eval fo=.func (.func g) A B)(he:Enters P g):
  (execOp a.eval o).run P w=.ok (.enter g (A++c.args.map a.eval++B)) w:=by
 simp[execOp,ho,resolve,hc,hv,Deferred.ofValue,invoke,DS he]
theorem wm{site:Nat}{o:Oper}{p:vP}(h:tk P site o=some p)(hp:∀s f as,p≠ .call s f as){sh:Nat->Bool}{X9:aE}:(∀f vs r s,aR sh env X9 p≠ .pc f vs r s)/\ ∀f vs,aR sh env X9 p≠ .sc f vs:=by
 cases p<;>first
  |exact(hp _ _ _ rfl).elim
  |(simp only[aR]
    constructor<;>intros<;>intro h<;>(repeat' split at h)<;>first
     |cases h
     |(simp only[xN,gY,aN] at h;(repeat' split at h)<;>cases h))
theorem wM{site:Nat}{o:Oper}{s:Nat}{f:aC}{as:List aC}(h:tk P site o=some (.call s f as)):∃c fo,o.op=.call c/\c.callee=.value fo/\bK fo=some f/\jf c.args.toList=some as:=by
 unfold tk at h;split at h
 case h_26 c ho=>
  split at h
  .rename_i f' as' h1 h2;simp only[aap] at h;obtain⟨y,h3,h4⟩:=h;cases h4;exact⟨c,f',ho,h1,h3,h2⟩
  all_goals((repeat' split at h)<;>first
   |cases h
   |(simp at h;done))
 all_goals((repeat' split at h)<;>first
  |cases h
  |(simp at h;done))
def Ja(w0:World)(m:Mem)(a:Act)(nt:Nat)(Yc:Env)(Ya:aE)(K:Act->World->Prop):Prop:=∀(a':Act) (m':Mem),Ok w0 m'->Ev m m'->m'.fr=m.fr->m'.X9=Ya->gT m' Yc a'.tmps->a'.tmps.size=nt->a'.defers=a.defers->K a' m'.w
theorem vR{o:Oper}{a:Act}{f:Nat}{args:Array Value}{w:World}{K:Act->World->Prop}{Q:Exit->Act->World->Prop}{R:Ending->World->Prop}(Zk:(execOp a.eval o).run P w=.ok (.enter f args) w)(hc:Calls P f args w R)
  (hR:∀e w',R e w'->∃v,e=.returned v/\K (a.put o.dst v) w'):o.wp P a w K Q:=by
 unfold Oper.wp;rw[Zk,Oper.upon_enter];refine hc.mono ?_;intro e w' he;obtain⟨v,rfl,hk⟩:=hR e w' he;exact hk
theorem EC{G:World->Prop}(hG:Good G w0){cp:dh}{cs:fd}(hP:qY P G cp)(hS:tF P G cs){sh:Ctx}{ops:Array Oper}{base nt anc:Nat}{o:Oper}{io:aj}{m:Mem}{env Yc:Env}{Ya:aE}{eff:eF}{a:Act}{K:Act->World->Prop}{Q:Exit->Act->World->Prop}
  (ho:ke P (fun j=>(ops[j]?).bind (·.dst)) base nt anc o=some io) (Yz:step1 sh cp cs io env m.X9=some (Yc,Ya,eff)) (Yd:Ok w0 m) (hr:gT m env a.tmps) (Zl:a.tmps.size=nt) (hK:Ja w0 m a nt Yc Ya K):
  if Region.wanted o (yielded ops a.tmps) then o.wp P a m.w K Q else K (a.put o.dst undef) m.w:=by
 have hio:io.dst=o.dst/\io.op=DN P base o/\(∀d,o.dst=some d->d<nt)/\(match o.guard with|none=>io.guard=none|some (j,w)=>∃t,(ops[j]?).bind (·.dst)=some t/\io.guard=some (t,w)):=by
  unfold ke at ho;split at ho
  .rename_i hd;simp only[aap] at ho;obtain⟨g,hg,rfl⟩:=ho;refine⟨rfl,rfl,fun d he=>?_,?_⟩
   .rw[he] at hd
    simpa [UH] using hd
   cases hgo:o.guard with
   |none=>rw[hgo] at hg;simp[In] at hg;exact hg.symm
   |some q=>obtain⟨j,w⟩:=q;rw[hgo] at hg;simp only[In,aap] at hg;obtain⟨t,ht,rfl⟩:=hg;exact⟨t,ht,rfl⟩
  cases ho
 obtain⟨h1,h2,h3,h4⟩:=hio;have hd:∀d,o.dst=some d->d<a.tmps.size:=by rw[Zl];exact h3
 unfold step1 at Yz;split at Yz
 .cases Yz
 .rename_i hw;cases Yz;rw[xQ hr h4 hw];simp only[aaq,if_false];rw[h1] at hK;exact hK _ m Yd (Ev.refl m) rfl rfl (xj (Ev.refl m) hr (show bh m .undef undef from rfl) hd) (by rw[t8,Zl]) (put_defers _ _ _)
 rename_i hw;rw[xQ hr h4 hw];simp only[if_true];rw[h2] at Yz;unfold DN at Yz;cases ZM:tk P base o with
 |none=>rw[ZM] at Yz;simp[aR] at Yz
 |some p=>
  rw[ZM] at Yz;simp only[aaS] at Yz;split at Yz
  .cases Yz
  .rename_i v u r hp;split at Yz
   case isFalse=>cases Yz
   cases Yz;obtain⟨x,m',alu,e2,e3,e4,e5,e6⟩:=Vv Yd hr ZM hp;rw[h1] at hK;have hk:=fun x (hx:bh m' v x)=>hK (a.put o.dst x) m' e2 e3 e4 e5 (xj e3 hr hx hd) (by rw[t8,Zl]) (put_defers _ _ _);unfold Oper.wp;rcases alu with hd|⟨hd,rfl⟩
   .rw[hd,Oper.upon_value];exact hk x e6
   rw[hd,Oper.upon_skip];exact hk undef e6
  .rename_i f vs r s hp;by_cases aak:∃s f as,p=.call s f as
   .obtain⟨s',f',as,rfl⟩:=aak;obtain⟨c,fo,g1,g2,g3,g4⟩:=wM ZM;simp only[aR] at hp;split at hp
    .rename_i g A B hfn;obtain⟨AV,BV,e1,e2,e3⟩:=F5 hfn (aF g3 hr);split at hp
     .cases hp
     split at hp
     .rename_i ws rd hsn;cases hp;split at Yz
      .rename_i x hx;split at Yz
       .rename_i v u hl;split at Yz
        case isFalse=>cases Yz
        cases Yz;have aam:Pw (bh m) (A.map .one++as.map (ev env)++B.map .one) (AV++c.args.map a.eval++BV).toList:=by
         have:=((ud e2).append (GO hr g4)).append (ud e3)
         simpa using this
        refine vR (GC g1 g2 e1 (hP _ _ _ hx).1) (LP hP hG Yd hx hsn aam hl) ?_;rintro e w' ⟨val,m',rfl,rfl,q1,q2,q3,q4,q5⟩
        rw[h1] at hK;exact⟨val,rfl,hK _ m' q1 q2 q3 q4 (xj q2 hr q5 hd) (by rw[t8,Zl]) (put_defers _ _ _)⟩
       cases Yz
      cases Yz
     cases hp
    cases hp
   exact((wm ZM (fun s f as e=>aak ⟨s,f,as,e⟩)).1 _ _ _ _ hp).elim
  rename_i f vs hp;by_cases aak:∃s f as,p=.call s f as
  .obtain⟨s',f',as,rfl⟩:=aak;obtain⟨c,fo,g1,g2,g3,g4⟩:=wM ZM;simp only[aR] at hp;split at hp
   .rename_i g A B hfn;obtain⟨AV,BV,e1,e2,e3⟩:=F5 hfn (aF g3 hr);split at hp
    .cases hp;split at Yz
     case isFalse=>cases Yz
     split at Yz
     .rename_i v aby hx;cases Yz;have aam:Pw (bh m) (A.map .one++as.map (ev env)++B.map .one) (AV++c.args.map a.eval++BV).toList:=by
       have:=((ud e2).append (GO hr g4)).append (ud e3)
       simpa using this
      refine vR (GC g1 g2 e1 (hS _ _ _ _ _ _ hx).1) ((hS _ _ _ _ _ _ hx).2 w0 m _ hG Yd rfl aam) ?_;rintro e w' ⟨val,m',rfl,rfl,q1,q2,q3,q4,q5⟩
      rw[h1] at hK;exact⟨val,rfl,hK _ m' q1 q2 q3 q4 (xj q2 hr q5 hd) (by rw[t8,Zl]) (put_defers _ _ _)⟩
     cases Yz
    split at hp<;>cases hp
   cases hp
  exact((wm ZM (fun s f as e=>aak ⟨s,f,as,e⟩)).2 _ _ hp).elim
end
end Go.Abs
namespace Go.Abs
variable {P:Program} {w0:World}
theorem ph{dst anc:Nat->Option Nat}{base nt i:Nat}{o:Oper}{r:List Oper}{l:List aj}(h:ib P dst anc base nt i (o::r)=some l):
  ∃x xs,l=x::xs/\ke P dst ((base+i)*64) nt ((anc i).getD 0) o=some x/\ib P dst anc base nt (i+1) r=some xs:=by
 simp only[ib] at h;split at h
 .rename_i x xs h1 h2;cases h;exact⟨x,xs,rfl,h1,h2⟩
 cases h
section
variable {G:World->Prop} (hG:Good G w0) {cp:dh} {cs:fd} (hP:qY P G cp) (hS:tF P G cs) {sh:Ctx}
include hG hP hS
theorem Si{ops:Array Oper}{anc:Nat->Option Nat}{base nt:Nat}{Q:Exit->Act->World->Prop}:∀(r:List Oper) {l:List aj} {i:Nat} {env Yc:Env} {m:Mem} {Ya:aE} {es:List eF} {a:Act},(∀j,ops[i+j]?=r[j]?)->ib P (fun j=>(ops[j]?).bind (·.dst)) anc base nt i r=some l->
  steps sh cp cs l env m.X9=some (Yc,Ya,es)->Ok w0 m->gT m env a.tmps->a.tmps.size=nt->Ja w0 m a nt Yc Ya (fun a' w'=>Q .normal a' w')->wpOps P ops Q (List.range' i r.length) a m.w:=by
 intro r
 induction r with
 |nil=>intro l i env Yc m Ya es a _ hc Yz Yd hr Zl hK;simp[ib] at hc;subst hc;simp only[steps,aau,aaT] at Yz;obtain⟨rfl,rfl,_⟩:=Yz;simp only[aaA,List.range'_zero,wpOps];exact hK a m Yd (Ev.refl m) rfl rfl hr Zl rfl
 |cons o r ih=>
  intro l i env Yc m Ya es a aeu hc Yz Yd hr Zl hK;obtain⟨x,xs,rfl,h1,h2⟩:=ph hc;simp only[steps] at Yz;split at Yz
  .rename_i YC Yi e1 ZF;split at Yz
   .rename_i Yn Yg es2 Zd;cases Yz;have ho:ops[i]?=some o:=by have:=aeu 0;simpa using this
    have key:=EC (Q:=Q) (K:=wpOps P ops Q (List.range' (i+1) r.length)) hG hP hS h1 ZF Yd hr Zl (fun a1 m1 k1 k2 k3 k4 k5 k6 k7=>by subst k4;refine ih (m:=m1) (fun j=>by have:=aeu (j+1);rw[show i+1+j=i+(j+1) by omega];simpa using this) h2 Zd k1 k5 k6 ?_;intro a2 m2 p1 p2 p3 p4 p5 p6 p7;exact hK a2 m2 p1 (k2.trans p2) (p3.trans k3) p4 p5 p6 (p7.trans k7))
    simp only[aas,List.range'_succ,wpOps,ho];split at key
    .rename_i hw;rw[if_pos hw];exact .inl key
    rename_i hw;rw[if_neg hw];exact key
   cases Yz
  cases Yz
theorem HC{ops:Array Oper}{anc:Nat->Option Nat}{base nt id:Nat}{Q:Exit->Act->World->Prop}{l:List aj}{env Yc:Env}{m:Mem}{Ya:aE}{es:List eF}{a:Act}(hc:ib P (fun j=>(ops[j]?).bind (·.dst)) anc base nt 0 ops.toList=some l)
  (Yz:steps sh cp cs l env m.X9=some (Yc,Ya,es)) (Yd:Ok w0 m) (hr:gT m env a.tmps) (Zl:a.tmps.size=nt) (hK:Ja w0 m a nt Yc Ya (fun a' w'=>Q .normal a' w')):(Code.region id ops false).wp P Q a m.w:=by
 refine wp_region ?_;have:=Si hG hP hS (sh:=sh) (ops:=ops) (Q:=Q) ops.toList (i:=0) (fun j=>by simp) hc Yz Yd hr Zl hK;rw[List.range_eq_range']
 simpa using this
end
end Go.Abs
namespace Go.Abs
variable {P:Program} {w0:World}
theorem Lx{α β:Type}(g:Array β->α->β):∀(l:List α) (acc:Array β),(l.foldl (fun acc o=>acc.push (g acc o)) acc).size=acc.size+l.length/\
  (∀j,j<acc.size->(l.foldl (fun acc o=>acc.push (g acc o)) acc)[j]?=acc[j]?)/\
  ∀j o,l[j]?=some o->∃pre:Array β,pre.size=acc.size+j/\(∀k,k<pre.size->(l.foldl (fun acc o=>acc.push (g acc o)) acc)[k]?=pre[k]?)/\(l.foldl (fun acc o=>acc.push (g acc o)) acc)[acc.size+j]?=some (g pre o):=by
 intro l
 induction l with
 |nil=>intro acc;exact⟨rfl,fun _ _=>rfl,fun j o h=>by simp at h⟩
 |cons x l ih=>
  intro acc;obtain⟨h1,h2,h3⟩:=ih (acc.push (g acc x));simp only[ab3];refine⟨by rw[h1];simp;omega,fun j hj=>?_,fun j o ho=>?_⟩
  .rw[h2 j (by simp;omega),Array.getElem?_push,if_neg (by omega)]
  cases j with
  |zero=>
   simp at ho;subst ho;refine⟨acc,by omega,fun k hk=>?_,?_⟩
   .rw[h2 k (by simp;omega),Array.getElem?_push,if_neg (by omega)]
   rw[abY,h2 acc.size (by simp),Array.getElem?_push,if_pos rfl]
  |succ j=>obtain⟨pre,p1,p2,p3⟩:=h3 j o (by simpa using ho);refine⟨pre,by rw[p1];simp;omega,p2,?_⟩;rw[<- p3];simp only[Array.size_push];congr 1;omega
theorem Sh{α:Type}(f:α->Bool)(g:α->Nat)(h:α->Nat):∀(l:List α) (s j:Nat),(l.foldl (fun s e=>if f e then s|||g e|||h e else s) s).testBit j=true->s.testBit j=true\/ ∃e∈l,f e=true/\((g e).testBit j=true\/(h e).testBit j=true):=by
 intro l
 induction l with
 |nil=>intro s j hh;exact .inl hh
 |cons x l ih=>
  intro s j hh;simp only[ab3] at hh;rcases ih _ j hh with h1|⟨e,he,h2⟩
  .split at h1
   .rename_i hf;simp only[Nat.testBit_or,ab4] at h1;rcases h1 with (h1|h1)|h1
    .exact .inl h1
    .exact .inr ⟨x,by simp,hf,.inl h1⟩
    exact .inr ⟨x,by simp,hf,.inr h1⟩
   exact .inl h1
  exact .inr ⟨e,by simp[he],h2⟩
theorem GI{ops:Array Oper}(hao:r4 ops=true){i:Nat}{o:Oper}(ho:ops[i]?=some o){j:Nat}(hj:(((Region.before ops)[i]?).getD 0).testBit j=true):
  ∃e∈o.after,Region.binds .any e=true/\e.on<i/\(j=e.on\/(((Region.before ops)[e.on]?).getD 0).testBit j=true):=by
 unfold Region.before at hj ⊢;rw[<- Array.foldl_toList] at hj ⊢;obtain⟨h1,h2,h3⟩:=Lx (fun(acc:Array Nat) (o:Oper)=>o.after.foldl (fun s e=>if Region.binds .any e then s|||2 ^ e.on|||acc.getD e.on 0 else s) 0) ops.toList #[];obtain⟨pre,p1,p2,p3⟩:=h3 i o (by simpa using ho);simp only[Array.size_empty,aa0] at p1 p3;rw[p3] at hj;simp only[aaS] at hj;rw[<- Array.foldl_toList] at hj;rcases Sh (fun e=>Region.binds .any e) (fun e=>2 ^ e.on) (fun e=>pre.getD e.on 0) _ _ _ hj with h|⟨e,he,hb,adK⟩
 .simp at h
 have Ye:i<ops.size:=(Array.getElem?_eq_some_iff.1 ho).1;have hon:e.on<i:=by unfold r4 at hao;have:=aaP.1 hao i (by simpa using Ye);rw[ho] at this;simp only[Array.all_eq_true'] at this;have:=this e (by simpa using he);simp only[hb,acC,acD,decide_eq_true_eq] at this;exact this
 refine⟨e,by simpa using he,hb,hon,?_⟩;rcases adK with adK|adK
 .left;rw[Nat.testBit_two_pow] at adK;have h9:e.on=j:=by simpa using adK
  exact h9.symm
 right;rw[p2 e.on (by omega)]
 simpa [Array.getD_eq_getD_getElem?] using adK
theorem uI{dst:Nat->Option Nat}{base nt anc:Nat}{o:Oper}{io:aj}(h:ke P dst base nt anc o=some io):io.anc=anc:=by
 unfold ke at h;split at h
 .simp only[aap] at h;obtain⟨g,_,rfl⟩:=h;rfl
 cases h
structure Wr (P:Program) (ops:Array Oper) (base nt:Nat) (rem:List It) (listed:Array Bool):Prop where
 pair:rem.Pairwise fun p q=>p.i<q.i/\(q.io.anc.testBit p.i=true\/Eb p q)
 comp:∀p∈rem,∃o,ops[p.i]?=some o/\ke P (fun j=>(ops[j]?).bind (·.dst)) ((base+p.i)*64) nt (((Region.before ops)[p.i]?).getD 0) o=some p.io
 size:listed.size=ops.size
 free:∀i:Nat,listed[i]?=some false↔ ∃p∈rem,p.i=i
 closed:∀i:Nat,listed[i]?=some true->∀j:Nat,(((Region.before ops)[i]?).getD 0).testBit j=true->listed[j]?=some true
theorem uX{ops:Array Oper}{listed:Array Bool}{i:Nat}:i∈Region.ready .any ops listed↔i<ops.size/\listed.getD i true=false/\ ∃o,ops[i]?=some o/\ ∀e∈o.after,Region.binds .any e=true->listed.getD e.on false=true:=by
 unfold Region.ready;simp only[abD,aav,aaf,aaR];constructor
 .rintro ⟨h1,h2,h3⟩
  refine⟨h1,h2,ops[i],by simp[h1],fun e he hb=>?_⟩;have ho:ops[i]?=some ops[i]:=by simp[h1]
  rw[ho] at h3;simp only[abf,aaS,Array.all_eq_true'] at h3;have:=h3 e he;rw[hb] at this
  simpa using this
 rintro ⟨h1,h2,o,ho,h3⟩
 refine⟨h1,h2,?_⟩;rw[ho];simp only[abf,aaS,Array.all_eq_true'];intro e he;cases hb:Region.binds .any e with
 |false=>rfl
 |true=>simp[h3 e he hb]
theorem zj{l:Array Bool}{i:Nat}(h:l.getD i true=false):l[i]?=some false:=by
 rw[Array.getD_eq_getD_getElem?] at h;cases he:l[i]? with
 |none=>rw[he] at h;simp at h
 |some b=>rw[he] at h;simp at h;rw[h]
theorem Ml{l:Array Bool}{i:Nat}(h:l.getD i false=true):l[i]?=some true:=by
 rw[Array.getD_eq_getD_getElem?] at h;cases he:l[i]? with
 |none=>rw[he] at h;simp at h
 |some b=>rw[he] at h;simp at h;rw[h]
section
variable {G:World->Prop} (hG:Good G w0) {cp:dh} {cs:fd} (hP:qY P G cp) (hS:tF P G cs) (hL:mV cs) {sh:Ctx}
include hG hP hS hL
theorem TM{ops:Array Oper}(hao:r4 ops=true){base nt:Nat}{Q:Exit->Act->World->Prop}{Yc:Env}{Ya:aE}:∀(fuel:Nat) {rem:List It} {listed:Array Bool} {env:Env} {m:Mem} {a:Act},Wr P ops base nt rem listed->rem.length<=fuel->
  steps sh cp cs (rem.map (·.io)) env m.X9=some (Yc,Ya,rem.map (·.e))->Ok w0 m->gT m env a.tmps->a.tmps.size=nt->Ja w0 m a nt Yc Ya (fun a' w'=>Q .normal a' w')->wpAny P .any ops Q fuel listed a m.w:=by
 intro fuel
 induction fuel with
 |zero=>
  intro rem listed env m a hl hlen Yz Yd hr Zl hK;have an6:rem=[]:=by
   cases rem with
   |nil=>rfl
   |cons _ _=>simp at hlen
  subst an6;simp only[abb,steps,aau,aaT] at Yz;obtain⟨rfl,rfl,_⟩:=Yz;refine⟨?_,hK a m Yd (Ev.refl m) rfl rfl hr Zl rfl⟩;refine List.eq_nil_iff_forall_not_mem.2 fun i hi=>?_;obtain⟨_,h2,_⟩:=uX.1 hi;obtain⟨p,hp,_⟩:=(hl.free i).1 (zj h2);simp at hp
 |succ fuel ih=>
  intro rem listed env m a hl hlen Yz Yd hr Zl hK;refine⟨fun ak0=>?_,fun i hi=>?_⟩
  .cases rem with
   |nil=>simp only[abb,steps,aau,aaT] at Yz;obtain⟨rfl,rfl,_⟩:=Yz;exact hK a m Yd (Ev.refl m) rfl rfl hr Zl rfl
   |cons p rest=>
    exfalso;obtain⟨o,ho,_⟩:=hl.comp p (by simp);have Ye:p.i<ops.size:=(Array.getElem?_eq_some_iff.1 ho).1;have aaa:p.i∈Region.ready .any ops listed:=by
     refine uX.2 ⟨Ye,?_,o,ho,fun e he hb=>?_⟩
     .rw[Array.getD_eq_getD_getElem?,(hl.free p.i).2 ⟨p,by simp,rfl⟩];rfl
     have hon:e.on<p.i:=by unfold r4 at hao;have:=aaP.1 hao p.i (by simpa using Ye);rw[ho] at this;simp only[Array.all_eq_true'] at this;have:=this e he;simp only[hb,acC,acD,decide_eq_true_eq] at this;exact this
     have hs:e.on<listed.size:=by rw[hl.size];omega
     rw[Array.getD_eq_getD_getElem?];cases Yp:listed[e.on] with
     |true=>simp[hs,Yp]
     |false=>
      exfalso;obtain⟨q,hq,hqi⟩:=(hl.free e.on).1 (by simp[hs,Yp]);rcases aag.1 hq with rfl|hq
      .omega
      have:=((abd.1 hl.pair).1 q hq).1;omega
    rw[ak0] at aaa;simp at aaa
  obtain⟨h1,h2,o,ho,h3⟩:=uX.1 hi;obtain⟨p,hp,rfl⟩:=(hl.free i).1 (zj h2);obtain⟨l1,l2,rfl⟩:=List.append_of_mem hp;obtain⟨o',ho',ZM⟩:=hl.comp p hp;rw[ho] at ho';cases ho';have alI:∀j:Nat,p.io.anc.testBit j=true->listed[j]?=some true:=by
   intro j hj;rw[uI ZM] at hj;obtain⟨e,he,hb,_,hor⟩:=GI hao ho hj;have hon:=Ml (h3 e he hb);rcases hor with rfl|hor
   .exact hon
   exact hl.closed _ hon j hor
  have abt:=adR.1 hl.pair;have ai9:∀x∈l1,Eb x p:=by
   intro x hx;rcases(abt.2.2 x hx p (by simp)).2 with h|h
   .have:=alI _ h;rw[(hl.free x.i).2 ⟨x,by simp[hx],rfl⟩] at this;cases this
   exact h
  obtain⟨YC,Yi,ZF,Zd⟩:=Nt hL Yz ai9;have key:=EC (Q:=Q) (K:=wpAny P .any ops Q fuel (listed.setIfInBounds p.i true)) hG hP hS ZM ZF Yd hr Zl (fun a1 m1 k1 k2 k3 k4 k5 k6 k7=>by
   subst k4;have Ye:p.i<listed.size:=by rw[hl.size];exact h1
   refine ih (rem:=l1++l2) ⟨?_,fun q hq=>hl.comp q (by rcases aaw.1 hq with h|h<;>simp[h]),by simp[hl.size],fun k=>?_,fun k hk j hj=>?_⟩ (by simp at hlen ⊢;omega) Zd k1 k5 k6 ?_
   .refine adR.2 ⟨abt.1,(abd.1 abt.2.1).2,fun x hx y hy=>abt.2.2 x hx y (by simp[hy])⟩
   .rw[Array.getElem?_setIfInBounds];by_cases hk:p.i=k
    .subst hk;rw[if_pos rfl,if_pos Ye];constructor
     .intro h;cases h
     rintro ⟨q,hq,hqi⟩
     rcases aaw.1 hq with h|h
     .have:=(abt.2.2 q h p (by simp)).1;omega
     have:=((abd.1 abt.2.1).1 q h).1;omega
    rw[if_neg hk,hl.free k];constructor
    .rintro ⟨q,hq,hqi⟩
     rcases aaw.1 hq with h|h
     .exact⟨q,by simp[h],hqi⟩
     rcases aag.1 h with rfl|h
     .exact(hk hqi).elim
     exact⟨q,by simp[h],hqi⟩
    rintro ⟨q,hq,hqi⟩
    rcases aaw.1 hq with h|h
    .exact⟨q,by simp[h],hqi⟩
    exact⟨q,by simp[h],hqi⟩
   .have hup:∀j:Nat,listed[j]?=some true->(listed.setIfInBounds p.i true)[j]?=some true:=by
     intro j hj;rw[Array.getElem?_setIfInBounds];split
     .first
       |rfl
       |(rename_i e;rw[if_pos Ye])
     exact hj
    by_cases hk2:p.i=k
    .subst hk2;refine hup j (alI j ?_);rw[uI ZM];exact hj
    rw[Array.getElem?_setIfInBounds,if_neg hk2] at hk;exact hup j (hl.closed k hk j hj)
   intro a2 m2 p1 p2 p3 p4 p5 p6 p7;exact hK a2 m2 p1 (k2.trans p2) (p3.trans k3) p4 p5 p6 (p7.trans k7))
  unfold wpOp;rw[ho];simp only;split at key
  .rename_i hw;rw[if_pos hw];exact .inl key
  rename_i hw;rw[if_neg hw];exact key
end
def jY:Nat->List aj->List eF->List It
 |i,x::xs,e::es=>⟨i,x,e⟩::jY (i+1) xs es
 |_,_,_=>[]
theorem HV:∀ {xs:List aj} {es:List eF} (i:Nat),es.length=xs.length->(jY i xs es).map (·.io)=xs/\(jY i xs es).map (·.e)=es:=by
 intro xs
 induction xs with
 |nil=>intro es i h;cases es with
  |nil=>exact⟨rfl,rfl⟩
  |cons _ _=>simp at h
 |cons x xs ih=>intro es i h;cases es with
  |nil=>simp at h
  |cons e es=>obtain⟨h1,h2⟩:=ih (es:=es) (i+1) (by simpa using h);exact⟨by simp[jY,h1],by simp[jY,h2]⟩
theorem F3{o:aj}:∀ {past:List aj} {j:Nat},DC o j past=true->∀k x,past[k]?=some x->o.anc.testBit (j+k)=true\/zw x o=true:=by
 intro past
 induction past with
 |nil=>intro j _ k x h;simp at h
 |cons y past ih=>
  intro j h k x hk;simp only[DC,aaf,ab4] at h;cases k with
  |zero=>simp at hk;subst hk;exact h.1
  |succ k=>have:=ih h.2 k x (by simpa using hk);rw[show j+(k+1)=j+1+k by omega];exact this
theorem LX{anc:Nat}{e:eF}:∀ {past:List eF} {j:Nat},Sl anc e j past=true->∀k x,past[k]?=some x->anc.testBit (j+k)=true\/Aa x e=false:=by
 intro past
 induction past with
 |nil=>intro j _ k x h;simp at h
 |cons y past ih=>
  intro j h k x hk;simp only[Sl,aaf,ab4,aaR] at h;cases k with
  |zero=>simp at hk;subst hk;exact h.1
  |succ k=>have:=ih h.2 k x (by simpa using hk);rw[show j+(k+1)=j+1+k by omega];exact this
theorem HU:∀ {xs:List aj} {es:List eF} {past:List aj} {pe:List eF},es.length=xs.length->pe.length=past.length->uA xs past=true->gM xs pe es=true->
  (∀(q:It),q∈jY past.length xs es->∀(k:Nat) (x:aj) (e:eF),past[k]?=some x->pe[k]?=some e->q.io.anc.testBit k=true\/(zw x q.io=true/\Aa e q.e=false))/\
  (∀q∈jY past.length xs es,past.length<=q.i)/\(jY past.length xs es).Pairwise fun p q=>p.i<q.i/\(q.io.anc.testBit p.i=true\/Eb p q):=by
 intro xs
 induction xs with
 |nil=>
  intro es past pe _ _ _ _;have:jY past.length [] es=[]:=by cases es<;>rfl
  rw[this];exact⟨fun q h=>by simp at h,fun q h=>by simp at h,.nil⟩
 |cons x xs ih=>
  intro es past pe hl hp hf hd;cases es with
  |nil=>simp at hl
  |cons e es=>
   simp only[uA,aaf] at hf;simp only[gM,aaf] at hd;obtain⟨i1,i2,i3⟩:=ih (es:=es) (past:=past++[x]) (pe:=pe++[e]) (by simpa using hl) (by simp[hp]) hf.2 hd.2;have hlen:(past++[x]).length=past.length+1:=by simp
   rw[hlen] at i1 i2 i3;simp only[jY];refine⟨?_,?_,abd.2 ⟨?_,i3⟩⟩
   .intro q hq k y f hy hf';rcases aag.1 hq with rfl|hq
    .have h1:=F3 hf.1 k y hy;have h2:=LX hd.1 k f hf';rw[aa0] at h1 h2;rcases h1 with h1|h1
     .exact .inl h1
     rcases h2 with h2|h2
     .exact .inl h2
     exact .inr ⟨h1,h2⟩
    have hk:k<past.length:=(aac.1 hy).1;exact i1 q hq k y f (by rw[acw hk];exact hy) (by rw[acw (by omega)];exact hf')
   .intro q hq;rcases aag.1 hq with rfl|hq
    .exact aad _
    have:=i2 q hq;omega
   intro q hq;refine⟨by have:=i2 q hq;simp only;omega,?_⟩;exact i1 q hq past.length x e (by simp) (by rw[<- hp];simp)
theorem HW{ops:Array Oper}{anc:Nat->Option Nat}{dst:Nat->Option Nat}{base nt:Nat}:∀ {r:List Oper} {xs:List aj} {es:List eF} {i:Nat},ib P dst anc base nt i r=some xs->es.length=xs.length->(∀j,ops[i+j]?=r[j]?)->
  (∀p∈jY i xs es,∃o,ops[p.i]?=some o/\ke P dst ((base+p.i)*64) nt ((anc p.i).getD 0) o=some p.io)/\ ∀k,i<=k->k<i+r.length->∃p∈jY i xs es,p.i=k:=by
 intro r
 induction r with
 |nil=>
  intro xs es i h _ _;simp only[ib,aau] at h;subst h;have:jY i [] es=[]:=by cases es<;>rfl
  rw[this];exact⟨fun p h=>by simp at h,fun k h1 h2=>by simp at h2;omega⟩
 |cons o r ih=>
  intro xs es i h hl aeu;obtain⟨x,xs',rfl,h1,h2⟩:=ph h;cases es with
  |nil=>simp at hl
  |cons e es=>
   obtain⟨i1,i2⟩:=ih (es:=es) h2 (by simpa using hl) (fun j=>by have:=aeu (j+1);rw[show i+1+j=i+(j+1) by omega];simpa using this);refine⟨fun p hp=>?_,fun k Yw hk2=>?_⟩
   .rcases aag.1 hp with rfl|hp
    .exact⟨o,by have:=aeu 0;simpa using this,h1⟩
    exact i1 p hp
   by_cases hk:k=i
   .exact⟨⟨i,x,e⟩,by simp[jY],hk.symm⟩
   obtain⟨p,hp,ZI⟩:=i2 k (by omega) (by simp at hk2;omega);exact⟨p,by simp[jY,hp],ZI⟩
theorem K7{sh:Ctx}{cp:dh}{cs:fd}:∀ {xs:List aj} {env Yc:Env} {X9 Ya:aE} {es:List eF},steps sh cp cs xs env X9=some (Yc,Ya,es)->es.length=xs.length:=by
 intro xs
 induction xs with
 |nil=>intro env Yc X9 Ya es h;simp only[steps,aau,aaT] at h;rw[<- h.2.2];rfl
 |cons x xs ih=>
  intro env Yc X9 Ya es h;simp only[steps] at h;split at h
  .split at h
   .rename_i h2;cases h;simp[ih h2]
   cases h
  cases h
theorem Gy{dst anc:Nat->Option Nat}{base nt:Nat}:∀ {r:List Oper} {xs:List aj} {i:Nat},ib P dst anc base nt i r=some xs->xs.length=r.length:=by
 intro r
 induction r with
 |nil=>intro xs i h;simp only[ib,aau] at h;subst h;rfl
 |cons o r ih=>intro xs i h;obtain⟨x,xs',rfl,_,h2⟩:=ph h;simp[ih h2]
section
variable {G:World->Prop} (hG:Good G w0) {cp:dh} {cs:fd} (hP:qY P G cp) (hS:tF P G cs) (hL:mV cs) {sh:Ctx}
include hG hP hS hL
theorem PX(hfo:P.follows .mixedOrders=true){ops:Array Oper}{base nt id:Nat}{Q:Exit->Act->World->Prop}{l:List aj}{env Yc:Env}{m:Mem}{Ya:aE}{es:List eF}{a:Act}(hc:ib P (fun j=>(ops[j]?).bind (·.dst)) (fun i=>(Region.before ops)[i]?) base nt 0 ops.toList=some l)
  (hao:r4 ops=true) (hf:uA l []=true) (Yz:steps sh cp cs l env m.X9=some (Yc,Ya,es)) (hd:gM l [] es=true) (Yd:Ok w0 m) (hr:gT m env a.tmps) (Zl:a.tmps.size=nt) (hK:Ja w0 m a nt Yc Ya (fun a' w'=>Q .normal a' w')):(Code.region id ops true).wp P Q a m.w:=by
 refine wp_region_any hfo ?_;have hlen:=K7 Yz;have hl2:l.length=ops.size:=by have:=Gy hc;simpa using this
 obtain⟨g1,g2⟩:=HV 0 hlen;obtain⟨_,_,hp⟩:=HU (past:=[]) (pe:=[]) hlen rfl hf hd;obtain⟨c1,c2⟩:=HW (ops:=ops) hc hlen (fun j=>by simp);have Z8:Ok w0 (m.later m.w.drew fun _=>False):=um Yd (fX.drew _) fun _ h=>h.elim;have aa4:Ev m (m.later m.w.drew fun _=>False):=qE (fX.drew _) fun _ h=>h.elim;have hfr:(m.later m.w.drew fun _=>False).fr=m.fr:=by funext c;simp[Mem.later]
 refine TM (m:=m.later m.w.drew fun _=>False) hG hP hS hL hao ops.size (rem:=jY 0 l es) (base:=base) ⟨hp,c1,by simp,fun i=>?_,fun i hi=>?_⟩ ?_ (by rw[g1,g2];exact Yz) Z8 (hr.ev aa4) Zl ?_
 .constructor
  .intro h;have hi:i<ops.size:=by
    have:=(Array.getElem?_eq_some_iff.1 h).1
    simpa using this
   exact c2 i (aae _) (by simpa using hi)
  rintro ⟨p,hp,rfl⟩
  obtain⟨o,ho,_⟩:=c1 p hp;have hi:p.i<ops.size:=(Array.getElem?_eq_some_iff.1 ho).1;simp[hi]
 .rw[Array.getElem?_replicate] at hi;split at hi<;>simp at hi
 .have:(jY 0 l es).length=l.length:=by have:=congrArg List.length g1;simpa using this
  omega
 intro a2 m2 p1 p2 p3 p4 p5 p6 p7;exact hK a2 m2 p1 (aa4.trans p2) (p3.trans hfr) p4 p5 p6 p7
end
end Go.Abs
namespace Go.Abs
variable {P:Program} {w0:World}
def toE:gD->Exit
 | .normal=>.normal
 | .exit i=>.exit i
 | .ret=>.ret
section
variable {G:World->Prop} (hG:Good G w0) {cp:dh} {cs:fd} (hP:qY P G cp) (hS:tF P G cs) (hL:mV cs) (hfo:P.follows .mixedOrders=true) {sh:Ctx}
include hG hP hS hL hfo
theorem PM{n f nt:Nat}:∀(c:Code) {ic:aq} {env Yc:Env} {m:Mem} {Ya:aE} {e:gD} {a:Act} {Q:Exit->Act->World->Prop},iK P f nt c=some ic->exec sh cp cs n ic env m.X9=some (e,Yc,Ya)->Ok w0 m->gT m env a.tmps->a.tmps.size=nt->
  Ja w0 m a nt Yc Ya (fun a' w'=>Q (toE e) a' w')->c.wp P Q a m.w:=by
 intro c
 induction c with
 |skip=>intro ic env Yc m Ya e a Q hc hx Yd hr Zl hK;simp only[iK,aau] at hc;subst hc;simp only[exec,aau,aaT] at hx;obtain⟨rfl,rfl,rfl⟩:=hx;exact wp_skip (hK a m Yd (Ev.refl m) rfl rfl hr Zl rfl)
 |label l=>intro ic env Yc m Ya e a Q hc hx Yd hr Zl hK;simp only[iK,aau] at hc;subst hc;simp only[exec,aau,aaT] at hx;obtain⟨rfl,rfl,rfl⟩:=hx;exact wp_label (hK a m Yd (Ev.refl m) rfl rfl hr Zl rfl)
 |ret=>intro ic env Yc m Ya e a Q hc hx Yd hr Zl hK;simp only[iK,aau] at hc;subst hc;simp only[exec,aau,aaT] at hx;obtain⟨rfl,rfl,rfl⟩:=hx;exact wp_ret (hK a m Yd (Ev.refl m) rfl rfl hr Zl rfl)
 |exit id=>intro ic env Yc m Ya e a Q hc hx Yd hr Zl hK;simp only[iK,aau] at hc;subst hc;simp only[exec,aau,aaT] at hx;obtain⟨rfl,rfl,rfl⟩:=hx;exact wp_exit (hK a m Yd (Ev.refl m) rfl rfl hr Zl rfl)
 |region id ops draw=>
  intro ic env Yc m Ya e a Q hc hx Yd hr Zl hK;simp only[iK] at hc;split at hc
  .rename_i xs hxs;cases draw with
   |false=>
    simp only[aaq,if_false,aau] at hc;subst hc;simp only[exec] at hx;split at hx
    .rename_i e1 b1 es Yz;simp only[aaq,if_false,aau,aaT] at hx;obtain⟨rfl,rfl,rfl⟩:=hx;exact HC hG hP hS hxs Yz Yd hr Zl hK
    cases hx
   |true=>
    simp only[if_true] at hc hxs;split at hc
    .rename_i hfa;simp only[aaf] at hfa;cases hc;simp only[exec] at hx;split at hx
     .rename_i e1 b1 es Yz;simp only[if_true] at hx;split at hx
      .rename_i hd;cases hx;exact PX hG hP hS hL hfo hxs hfa.1 hfa.2 Yz hd Yd hr Zl hK
      cases hx
     cases hx
    cases hc
  cases hc
 |seq x y ihx ihy=>
  intro ic env Yc m Ya e a Q hc hx Yd hr Zl hK;simp only[iK] at hc;split at hc
  .rename_i ix iy h1 h2;cases hc;simp only[exec] at hx;refine wp_seq ?_;split at hx
   .rename_i YC Yi hx1;refine ihx h1 hx1 Yd hr Zl ?_;intro a1 m1 k1 k2 k3 k4 k5 k6 k7;subst k4;refine ihy h2 hx k1 k5 k6 ?_;intro a2 m2 p1 p2 p3 p4 p5 p6 p7;exact hK a2 m2 p1 (k2.trans p2) (p3.trans k3) p4 p5 p6 (p7.trans k7)
   rename_i Yk;refine ihx h1 hx Yd hr Zl ?_;intro a1 m1 k1 k2 k3 k4 k5 k6 k7;have:=hK a1 m1 k1 k2 k3 k4 k5 k6 k7;cases e with
   |normal=>exact(Yk Yc Ya hx).elim
   |exit i=>exact this
   |ret=>exact this
  cases hc
 |cond x p q ihp ihq=>
  intro ic env Yc m Ya e a Q hc hx Yd hr Zl hK;simp only[iK] at hc;split at hc
  .rename_i c' ip iq h1 h2 h3;cases hc;simp only[exec] at hx;split at hx
   .rename_i t ht;have hv:=aF h1 hr;rw[ht] at hv;refine wp_cond (j4 hv) ?_;cases t with
    |true=>simp only[if_true] at hx ⊢;exact ihp h2 hx Yd hr Zl hK
    |false=>simp only[aaq,if_false] at hx ⊢;exact ihq h3 hx Yd hr Zl hK
   cases hx
  cases hc
 |block id c ih=>
  intro ic env Yc m Ya e a Q hc hx Yd hr Zl hK;simp only[iK,aap] at hc;obtain⟨ic',h1,rfl⟩:=hc;simp only[exec] at hx;refine wp_block ?_;split at hx
  .rename_i i YC Yi hx1;refine ih h1 hx1 Yd hr Zl ?_;intro a1 m1 k1 k2 k3 k4 k5 k6 k7;simp only[toE,Exit.inBlock];split at hx
   .rename_i hi;cases hx;rw[if_pos hi];exact hK a1 m1 k1 k2 k3 k4 k5 k6 k7
   rename_i hi;cases hx;rw[if_neg hi];exact hK a1 m1 k1 k2 k3 k4 k5 k6 k7
  rename_i Yk;refine ih h1 hx Yd hr Zl ?_;intro a1 m1 k1 k2 k3 k4 k5 k6 k7;have:=hK a1 m1 k1 k2 k3 k4 k5 k6 k7;cases e with
  |normal=>exact this
  |exit i=>exact(Yk i Yc Ya hx).elim
  |ret=>exact this
 |loop c ih=>
  intro ic env Yc m Ya e a Q hc hx Yd hr Zl hK;simp only[iK,aap] at hc;obtain⟨ic',h1,rfl⟩:=hc;simp only[exec] at hx;refine wp_loop_rounds n ?_;have key:∀(k:Nat) {env:Env} {m:Mem} {a:Act},iter (exec sh cp cs n ic') k env m.X9=some (e,Yc,Ya)->Ok w0 m->gT m env a.tmps->a.tmps.size=nt->Ja w0 m a nt Yc Ya (fun a' w'=>Q (toE e) a' w')->Code.rounds P c Q k a m.w:=by
   intro k
   induction k with
   |zero=>intro env m a hx;simp[iter] at hx
   |succ k ihk=>
    intro env m a hx Yd hr Zl hK;rw[rounds_succ];simp only[iter] at hx;split at hx
    .rename_i YC Yi hx1;refine ih h1 hx1 Yd hr Zl ?_;intro a1 m1 k1 k2 k3 k4 k5 k6 k7;subst k4;refine ihk hx k1 k5 k6 ?_;intro a2 m2 p1 p2 p3 p4 p5 p6 p7;exact hK a2 m2 p1 (k2.trans p2) (p3.trans k3) p4 p5 p6 (p7.trans k7)
    rename_i Yk;refine ih h1 hx Yd hr Zl ?_;intro a1 m1 k1 k2 k3 k4 k5 k6 k7;have:=hK a1 m1 k1 k2 k3 k4 k5 k6 k7;cases e with
    |normal=>exact(Yk Yc Ya hx).elim
    |exit i=>exact this
    |ret=>exact this
  exact key n hx Yd hr Zl hK
 |scope c ih=>intro ic env Yc m Ya e a Q hc hx Yd hr Zl hK;simp only[iK] at hc;refine wp_scope_straight ?_;refine ih hc hx Yd hr Zl ?_;intro a1 m1 k1 k2 k3 k4 k5 k6 k7;have:=hK a1 m1 k1 k2 k3 k4 k5 k6 k7;cases e<;>exact this
 |_=>intro ic env Yc m Ya e a Q hc hx;simp only[iK,aau] at hc;subst hc;simp[exec] at hx
end
end Go.Abs
namespace Go.Abs
variable {P:Program} {w0:World}
section
variable{m:Mem}
theorem Rk{k:Option Nat}{cs:List C}{v:V}{u:Value}(h:iC k cs=some v)(hr:bh m v u):ii m v u:=by
 unfold iC at h;split at h
 .split at h
  .cases h;exact hr
  cases h
 split at h
 .cases h;exact hr
 cases h
theorem So{x v:V}{u:Value}(h:JM x=some v)(hr:bh m x u):ii m v u:=by cases x<;>simp only[JM,aau,reduceCtorEq] at h<;>subst h<;>exact hr
theorem sB{α β:Type}{f:α->Sem β}{x:α}{xs:List α}{y:β}{ys:List β}{w:World}(h1:(f x).run P w=.ok y w)(h2:(xs.mapM f).run P w=.ok ys w):((x::xs).mapM f).run P w=.ok (y::ys) w:=by simp only[List.mapM_cons,Sem.run_bind,h1,h2,Result.andThen_ok,Sem.run_pure]
theorem CU{al:Al}(Yd:Ok w0 m){env:Env}{tmps:Array Value}(hr:gT m env tmps):∀ {rs:List ResultVar} {l:List (Nat×Option (Option Nat))} {vs:List V},CV P rs=some l->dd al env m.X9 l=some vs->
  ∃ys,(rs.mapM (fun| .tmp t=>pure (tmps.getD t undef)| .cell a t=>do loadVar t (<- asAddr (tmps.getD a undef)):ResultVar->Sem Value)).run P m.w=.ok ys m.w/\Pw (ii m) vs ys:=by
 intro rs
 induction rs with
 |nil=>intro l vs h1 h2;simp only[CV,aau] at h1;subst h1;simp only[dd,aau] at h2;subst h2;exact⟨[],by simp[Sem.run_pure],rfl,fun j x u p=>by simp at p⟩
 |cons r rs ih=>
  intro l vs h1 h2;have cons:∀ {x:V} {xs:List V} {y:Value} {ys:List Value},ii m x y->Pw (ii m) xs ys->Pw (ii m) (x::xs) (y::ys):=by
   intro x xs y ys p q;refine⟨by simp[q.1],fun j z u a b=>?_⟩;cases j with
   |zero=>simp at a b;subst a b;exact p
   |succ j=>exact q.2 j z u (by simpa using a) (by simpa using b)
  cases r with
  |tmp t=>
   simp only[CV,aap] at h1;obtain⟨l',h3,rfl⟩:=h1;simp only[dd] at h2;split at h2
   .rename_i v q e1 e2;cases h2;obtain⟨ys,g1,g2⟩:=ih h3 e2;exact⟨_::ys,sB (by simp[Sem.run_pure]) g1,cons (So e1 (hr t)) g2⟩
   cases h2
  |cell a t=>
   simp only[CV] at h1;split at h1
   .rename_i k q e1 e2;cases h1;simp only[dd] at h2;split at h2
    .rename_i cs rd ws e3 e4;split at h2
     case isFalse=>cases h2
     simp only[aap] at h2;obtain⟨v,hv,rfl⟩:=h2;obtain⟨ys,g1,g2⟩:=ih e2 e4;obtain⟨ad,y,p1,p2,p3⟩:=wn e1 (EZ Yd e3 (hr a)) hv;exact⟨y::ys,sB (by simp[p1,asAddr,p2]) g1,cons (Rk hv p3) g2⟩
    cases h2
   cases h1
theorem EX{al:Al}(Yd:Ok w0 m){env:Env}{tmps:Array Value}(hr:gT m env tmps){fn:Func}{l:List (Nat×Option (Option Nat))}{vs:List V}(h1:CV P fn.results.toList=some l)(h2:dd al env m.X9 l=some vs):
  ∃y,(results fn tmps).run P m.w=.ok y m.w/\bh m (xX vs) y:=by
 obtain⟨ys,g1,g2⟩:=CU Yd hr h1 h2;have YW:(results fn tmps).run P m.w=.ok (if h:ys.toArray.size=1 then ys.toArray[0] else .tuple ys.toArray) m.w:=by
  unfold results;simp only[Array.mapM_eq_mapM_toList,map_eq_pure_bind,Sem.run_bind,Result.andThen_ok,Sem.run_pure,bind_assoc,pure_bind]
  erw[g1]
  simp only[Result.andThen_ok,Sem.run_pure]
 refine⟨_,YW,?_⟩
 match vs,ys,g2 with
 |[v],[y],g2=>exact bh.of1 (g2.2 0 v y rfl rfl)
 |[],[],g2=>exact⟨_,rfl,rfl,fun j x u p=>by simp at p⟩
 |v::v'::vs,y::y'::ys,g2=>refine⟨_,rfl,by simpa using g2.1,fun j x u p q=>g2.2 j x u p (by simpa using q)⟩
 |[],y::ys,g2=>exact absurd g2.1 (by simp)
 |v::vs,[],g2=>exact absurd g2.1 (by simp)
 |[v],y::y'::ys,g2=>exact absurd g2.1 (by simp)
 |v::v'::vs,[y],g2=>exact absurd g2.1 (by simp)
theorem zY{f:Nat}{fn:dD}(h:sH P f=some fn):∃kf c,P.funcs[f]?=some kf/\kf.body=some c/\(kf.name== "runtime.NumGoroutine")=false/\iK P f kf.ntmps c=some fn.body/\CV P kf.results.toList=some fn.results/\fn.ntmps=kf.ntmps:=by
 unfold sH at h;split at h
 .cases h
 rename_i kf hf;split at h
 .cases h
 rename_i c hc;split at h
 .cases h
 rename_i hn;split at h
 .rename_i b r h1 h2;cases h;exact⟨kf,c,hf,hc,by simpa using hn,h1,h2,rfl⟩
 cases h
def QT(S:Sys)(G:World->Prop):Prop:=∀f vs r,S.prim f vs=some (some r)->Enters S.P f/\ ∀(w:World) (O:Nat->Prop) (args:Array Value),Good G w->(∀c,O c->c<w.heap.size)->Pw (kS w O) vs args.toList->Calls S.P f args w (vO w O r)
structure Cu (S:Sys) (G:World->Prop):Prop where
 follow:S.P.follows .mixedOrders=true
 fns:∀f fn,S.fns f=some fn->sH S.P f=some fn
 prim:QT S G
theorem K9{vs:List V}{args:Array Value}{nt:Nat}(h:Pw (bh m) vs args.toList)(hl:vs.length<=nt):gT m (pW vs) (args++Array.replicate (nt-args.size) undef)/\(args++Array.replicate (nt-args.size) undef).size=nt:=by
 have hs:args.size=vs.length:=by simpa using h.1
 constructor
 .intro t;by_cases ht:t<vs.length
  .have h1:pW vs t=vs[t]:=by simp[pW,List.getD,ht]
   have h2:(args++Array.replicate (nt-args.size) undef).getD t undef=args[t]:=by simp[Array.getD_eq_getD_getElem?,Array.getElem?_append,hs,ht]
   rw[h1,h2];exact h.2 t _ _ (by simp[ht]) (by simp[hs,ht])
  have h1:pW vs t=.undef:=by simp[pW,List.getD,abz (Nat.le_of_not_lt ht)]
  have h2:(args++Array.replicate (nt-args.size) undef).getD t undef=undef:=by simp only[Array.getD_eq_getD_getElem?,Array.getElem?_append,hs,if_neg ht];rw[Array.getElem?_replicate];split<;>rfl
  rw[h1,h2];rfl
 simp;omega
theorem GQ(Yd:Ok w0 m):∀ {o q:List Nat},apart o q=true->(∀id∈o,∃ob,(m.X9 id).2=some ob/\ob.eY=true)->(o.map m.σ).Nodup/\ ∀id∈q,id∉o:=by
 intro o
 induction o with
 |nil=>intro q _ _;exact⟨by simp,fun id _ h=>by simp at h⟩
 |cons i o ih=>
  intro q h hm;simp only[apart,aaf,aaR] at h;obtain⟨⟨h1,h2⟩,h3⟩:=h;obtain⟨i1,i2⟩:=ih h3 (fun id hid=>hm id (by simp[hid]));have Z7:i∉o:=by simpa using h1
  have ZQ:i∉q:=by simpa using h2
  refine⟨?_,fun id hid=>?_⟩
  .rw[aar,abk];refine⟨fun aaa=>?_,i1⟩;obtain⟨j,hj,he⟩:=aan.1 aaa;obtain⟨ob,a1,a2⟩:=hm i (by simp);obtain⟨ob',b1,b2⟩:=hm j (by simp[hj]);exact Z7 (Yd.inj j i ob' ob b1 b2 a1 a2 he▸hj)
  simp only[aag,not_or];exact⟨fun e=>ZQ (e▸hid),i2 id hid⟩
theorem LU{X9:aE}:∀ {cs:List C} {rs:List RC} {o q:List Nat},gK X9 cs=some (rs,o,q)->rs.length=cs.length:=by
 intro cs
 induction cs with
 |nil=>intro rs o q h;simp only[gK,aau,aaT] at h;obtain⟨rfl,_,_⟩:=h;rfl
 |cons c cs ih=>
  intro rs o q h;simp only[gK] at h;split at h
  .rename_i x o1 q1 xs os qs h1 h2;cases h;simp[ih h2]
  cases h
theorem wO{α β:Type}{f:α->Option (β×List Nat)}:∀ {xs:List α} {ys:List β} {r:List Nat},collect f xs=some (ys,r)->∀id∈r,∃x y q,f x=some (y,q)/\id∈q:=by
 intro xs
 induction xs with
 |nil=>intro ys r h id hid;simp[collect] at h;rw[h.2] at hid;simp at hid
 |cons x xs ih=>
  intro ys r h id hid;simp only[collect] at h;split at h
  .rename_i b p bs q e1 e2;cases h;rcases aaw.1 hid with hid|hid
   .exact⟨x,b,p,e1,hid⟩
   exact ih e2 id hid
  cases h
theorem Lb{X9:aE}:∀ {n:Nat} {c:C} {x:PV} {r:List Nat},snap X9 n c=some (x,r)->∀id∈r,∃ob,(X9 id).2=some ob:=by
 intro n
 induction n with
 |zero=>intro c x r h;simp[snap] at h
 |succ n ih=>
  intro c x r h id hid;have one:∀ {i:Nat} {ob:Ob} {g:Nat},X9 i=(g,some ob)->id∈[i]->∃ob,(X9 id).2=some ob:=by intro i ob g hb hi;simp at hi;subst hi;exact⟨ob,by rw[hb]⟩
  have coll:∀ {cs:List C} {ps:List PV} {r:List Nat},collect (snap X9 n) cs=some (ps,r)->id∈r->∃ob,(X9 id).2=some ob:=by intro cs ps r h hi;obtain⟨x,y,q,h1,h2⟩:=wO h id hi;exact ih h1 id h2
  unfold snap at h;split at h
  .cases h;simp at hid
  .split at h
   .rename_i hb;split at h
    .split at h
     .rename_i hc;cases h;rcases aag.1 hid with e|hid
      .exact one hb (by simp[e])
      exact coll hc hid
     cases h
    cases h
   .rename_i hb;split at h
    .cases h;exact one hb hid
    cases h
   cases h
  .split at h
   .rename_i hb;split at h
    .simp only[aap] at h;obtain⟨e,_,h2⟩:=h;cases h2;exact one hb hid
    cases h
   .rename_i hb;split at h
    .simp only[aap] at h;obtain⟨e,_,h2⟩:=h;cases h2;exact one hb hid
    cases h
   cases h
  .split at h
   .rename_i hb;split at h
    .cases h;exact one hb hid
    cases h
   .rename_i hb;split at h
    .cases h;exact one hb hid
    cases h
   .rename_i hb;split at h
    .split at h
     .rename_i hc;cases h;rcases aag.1 hid with e|hid
      .exact one hb (by simp[e])
      obtain⟨x,y,q,h1,h2⟩:=wO hc id hid;exact coll h1 h2
     cases h
    cases h
   cases h
  .split at h
   .rename_i hb;split at h
    .cases h;exact one hb hid
    cases h
   .rename_i hb;split at h
    .cases h;exact one hb hid
    cases h
   cases h
  split at h
  .rename_i h1 h2;cases h;rcases aaw.1 hid with hid|hid
   .exact coll h1 hid
   exact coll h2 hid
  cases h
theorem HN{X9:aE}:∀ {cs:List C} {rs:List RC} {o q:List Nat},gK X9 cs=some (rs,o,q)->∀id∈q,∃ob,(X9 id).2=some ob:=by
 intro cs
 induction cs with
 |nil=>intro rs o q h id hid;simp only[gK,aau,aaT] at h;rw[<- h.2.2] at hid;simp at hid
 |cons c cs ih=>
  intro rs o q h id hid;simp only[gK] at h;split at h
  .rename_i x o1 q1 xs os qs h1 h2;cases h;rcases aaw.1 hid with hid|hid
   .have sn:(snap X9 cn c).map (fun(v,r)=>((.p v:RC),([]:List Nat),r))=some (x,o1,q1)->∃ob,(X9 id).2=some ob:=by
     intro h1;simp only[aap] at h1;obtain⟨⟨y,r⟩,h3,h4⟩:=h1;cases h4;exact Lb h3 id hid
    unfold jg at h1;split at h1
    .cases h1;simp at hid
    .split at h1
     .split at h1
      .cases h1;simp at hid
      cases h1
     exact sn h1
    exact sn h1
   exact ih h2 id hid
  cases h
theorem Sf{w:World}{O:Nat->Prop}{m0:Mem}(Yd:Ok w m)(YU:Ev m0 m)(hm0:m0.w=w)(ak7:∀c,¬m0.eY c)(hfr:m.fr=O){v:V}{r:RV}{val:Value}(h:iE m.X9 v=some r)(hr:bh m v val):vO w O r (.returned val) m.w:=by
 unfold iE at h;split at h
 .rename_i cs YD;split at h
  .rename_i rs o q ho;split at h
   .rename_i hap;cases h;obtain⟨vs,hc,Za⟩:=Mo YD hr;obtain⟨g1,g2⟩:=Za rs (LU ho);have hm:=(Bt Yd (Q:=fun _=>False) (fun _ h=>h.elim) ho hc (fun _ _ h=>h)).2;obtain⟨Zx,aoO⟩:=GQ Yd hap hm;have ahW:∀b,(O b\/b∈o.map m.σ)->m.own b:=by
     intro b hb;rcases hb with hb|hb
     .exact .inl (hfr▸hb)
     obtain⟨id,hid,rfl⟩:=aan.1 hb;obtain⟨ob,h1,h2⟩:=hm id hid;exact .inr ⟨id,ob,h1,h2,rfl⟩
    have hq:∀id∈q,¬(O (m.σ id)\/m.σ id∈o.map m.σ):=by
     intro id hid hn;obtain⟨ob,hob⟩:=HN ho id hid;by_cases hmi:ob.eY=true
     .rcases hn with hn|hn
      .exact(Yd.Ym id ob hob hmi).2 (hfr▸hn)
      obtain⟨j,hj,he⟩:=aan.1 hn;obtain⟨ob',b1,b2⟩:=hm j hj;exact aoO id hid (Yd.inj j id ob' ob b1 b2 hob hmi he▸hj)
     have YH:¬m.own (m.σ id):=by
      have hor:=Yd.obj id ob hob;cases ob<;>simp[Ob.eY] at hmi
      .obtain⟨_,_,_,_,_,YH⟩:=hor;exact YH
      .obtain⟨_,_,_,_,_,_,_,_,_,YH⟩:=hor;exact YH
      obtain⟨_,_,_,_,_,YH⟩:=hor;exact YH
     exact YH (ahW _ hn)
    obtain⟨hrc,_⟩:=Bt Yd ahW ho hc hq;subst hm0;refine⟨val,o.map m.σ,rfl,⟨YU.os,YU.tape,YU.output,YU.size,fun c hc=>YU.keep c hc (ak7 c)⟩,Zx,fun c hc=>?_,vs,g2,by rw[g1];exact hrc⟩;obtain⟨id,hid,rfl⟩:=aan.1 hc;obtain⟨ob,h1,h2⟩:=hm id hid;exact⟨(Yd.Ym id ob h1 h2).1,(Yd.obj id ob h1).lt⟩
   cases h
  cases h
 cases h
theorem kS.vrel{w:World}{O:Nat->Prop}(hw:m.w=w)(ho:m.own=O){x:V}{v:Value}(h:kS w O x v):bh m x v:=by
 subst hw ho;cases x with
 |undef=>exact h.elim
 |tup _=>exact h.elim
 |one c=>
  cases c with
  |p x=>exact kV h
  |_=>exact h.elim
 |agg cs=>obtain⟨arr,ps,rfl,rfl,hp⟩:=h;exact bh.agg.2 ⟨arr,rfl,hp.Rh⟩
theorem Ln{sh:Ctx}{cp:dh}{cs:fd}{n:Nat}{fn:dD}{args:List V}{X9 Ya:aE}{v:V}(h:og sh cp cs n fn args X9=some (v,Ya)):
  ∃e env vs,exec sh cp cs n fn.body (pW args) X9=some (e,env,Ya)/\(e=.normal\/e=.ret)/\dd sh.al env Ya fn.results=some vs/\v=xX vs:=by
 unfold og at h;split at h
 .rename_i env b hx;simp only[aap] at h;obtain⟨vs,h1,h2⟩:=h;cases h2;exact⟨_,env,vs,hx,.inl rfl,h1,rfl⟩
 .rename_i env b hx;simp only[aap] at h;obtain⟨vs,h1,h2⟩:=h;cases h2;exact⟨_,env,vs,hx,.inr rfl,h1,rfl⟩
 cases h
theorem JA{G:World->Prop}(hG:Good G w0){cp:dh}{cs:fd}(hP:qY P G cp)(hS:tF P G cs)(hL:mV cs)(hfo:P.follows .mixedOrders=true){sh:Ctx}{n f:Nat}{fn:dD}(hc:sH P f=some fn){vs:List V}{m:Mem}{v:V}{Ya:aE}{args:Array Value}(h:og sh cp cs n fn vs m.X9=some (v,Ya))
  (hl:vs.length<=fn.ntmps) (Yd:Ok w0 m) (ha:Pw (bh m) vs args.toList):Calls P f args m.w (QN w0 m v Ya):=by
 obtain⟨kf,c,h1,h2,h3,h4,h5,h6⟩:=zY hc;obtain⟨e,env,rs,hx,he,Yy,rfl⟩:=Ln h;refine calls_of_wp h1 h2 ?_;obtain⟨s1,s2⟩:=K9 (nt:=kf.ntmps) ha (by rw[<- h6];exact hl);refine PM hG hP hS hL hfo c h4 hx Yd s1 s2 ?_;intro a' m' k1 k2 k3 k4 k5 k6 k7;subst k4;obtain⟨y,g1,g2⟩:=EX k1 k5 h5 Yy;have:bodyPost P kf (QN w0 m (xX rs) m'.X9) .normal a' m'.w:=⟨k7,y,g1,y,m',rfl,rfl,k1,k2,k3,rfl,g2⟩;rcases he with rfl|rfl
 .exact this
 exact this
theorem enters_of{f:Nat}{fn:dD}(hc:sH P f=some fn):Enters P f:=by obtain⟨kf,c,h1,h2,h3,_⟩:=zY hc;exact⟨kf,c,h1,h2,h3⟩
theorem sound{S:Sys}{G:World->Prop}(h:Cu S G):∀n,qY S.P G (dC S n)/\tF S.P G (dB S n)/\mV (dB S n):=by
 intro n
 induction n with
 |zero=>exact⟨fun f vs r h=>by simp[dC] at h,fun f vs al X9 v Ya h=>by simp[dB] at h,fun f vs al X9 v Ya h=>by simp[dB] at h⟩
 |succ n ih=>
  obtain⟨hP,hS,hL⟩:=ih;refine⟨?_,?_,?_⟩
  .intro f vs r hc;rw[dC] at hc;split at hc
   .rename_i r' hp;subst hc;exact h.prim f vs r hp
   split at hc
   .rename_i fn hfn;have hcf:=h.fns f fn hfn;split at hc
    .rename_i hl;refine⟨enters_of hcf,fun w O args hG hO ha=>?_⟩;unfold ET at hc;split at hc
     .rename_i v Ya hr
      let m0:Mem:=⟨w,qD,fun _=>0,fun _=>0,O⟩
      have aoh:m0.own=O:=by
       funext c;apply propext;constructor
       .rintro (h|⟨id,o,h,_⟩)
        .exact h
        cases h
       exact .inl
      have Yd:Ok w m0:=⟨rfl,rfl,rfl,aad _,fun _ _=>rfl,(fun id o h=>by cases h),(fun id o h=>by cases h),hO,(fun id Zb o o' h=>by cases h)⟩;have hav:Pw (bh m0) vs args.toList:=⟨ha.1,fun j x u p q=>(ha.2 j x u p q).vrel rfl aoh⟩;refine(JA hG hP hS hL h.follow hcf (m:=m0) hr hl Yd hav).mono ?_;rintro e w' ⟨val,m',rfl,rfl,q1,q2,q3,q4,q5⟩
      subst q4;exact Sf (m0:=m0) q1 q2 rfl (fun c ⟨id,o,h,_⟩=>by cases h) q3 hc q5
     cases hc
    cases hc
   cases hc
  .intro f vs al X9 v Ya hc;rw[dB] at hc;split at hc
   .rename_i fn hfn;have hcf:=h.fns f fn hfn;split at hc
    .rename_i hl;refine⟨enters_of hcf,fun w0 m args hG Yd hb ha=>?_⟩;subst hb;exact JA hG hP hS hL h.follow hcf hc hl Yd ha
    cases hc
   cases hc
  intro f vs al X9 v Ya hc;rw[dB] at hc;split at hc
  .rename_i fn hfn;split at hc
   .rename_i hl;obtain⟨l1,l2⟩:=RY hL hc;refine⟨l1,fun Yg h2=>?_⟩;obtain⟨b3,h3,h4⟩:=l2 Yg h2;exact⟨b3,by rw[dB];simp only[hfn,hl,if_true];exact h3,h4⟩
   cases hc
  cases hc
theorem bz.calls{S:Sys}{G:World->Prop}(h:Cu S G){f:Nat}{vs:List V}{r:RV}(hc:bz S f vs r)(w:World)(hG:Good G w)(args:Array Value)(ha:Pw (kS w fun _=>False) vs args.toList):Calls S.P f args w (vO w (fun _=>False) r):=by obtain⟨n,hn⟩:=hc;exact((sound h n).1 f vs r hn).2 w _ args hG (fun c h=>h.elim) ha
end
end Go.Abs
namespace Go.Abs
section
variable{args:List V}{cp:dh}{cs:fd}{sh:Ctx}
def oU(op:BinOp)(a b:Nat)(other:Option V):Option V:=
 match op with
 | .add=>bif Nat.ble (Nat.add a b) 9223372036854775807 then some (.one (.p (.int .i64 (.ofNat (Nat.add a b))))) else other
 | .sub=>bif Nat.ble b a then bif Nat.ble a 9223372036854775807 then some (.one (.p (.int .i64 (.ofNat (Nat.sub a b))))) else other else other
 | .mul=>bif Nat.ble (Nat.mul a b) 9223372036854775807 then some (.one (.p (.int .i64 (.ofNat (Nat.mul a b))))) else other
 | .eql=>some (.one (.p (.bool (Nat.beq a b))))
 | .neq=>some (.one (.p (.bool (!Nat.beq a b))))
 | .lss=>some (.one (.p (.bool (Nat.ble (Nat.succ a) b))))
 | .leq=>some (.one (.p (.bool (Nat.ble a b))))
 | .gtr=>some (.one (.p (.bool (Nat.ble (Nat.succ b) a))))
 | .geq=>some (.one (.p (.bool (Nat.ble b a))))
 | .rem=>bif Nat.beq b 0 then other else some (.one (.p (.int .i64 (.ofNat (Nat.mod a b)))))
 |_=>other
def Qr(op:BinOp)(x y:V):Option V:=
 match x,y with
 | .one (.p (.int .i64 (.ofNat a))),.one (.p (.int .i64 (.ofNat b)))=>oU op a b (pE op x y)
 |_,_=>pE op x y
theorem qd{n:Nat}(h:n<=9223372036854775807):IntKind.i64.wrap (n:Int)=n:=by
 have e:(2 ^ IntKind.i64.bits:Int)=18446744073709551616:=by decide
 have e2:(2 ^ (IntKind.i64.bits-1):Int)=9223372036854775808:=by decide
 unfold IntKind.wrap;simp only[e,e2];have h1:(n:Int)%18446744073709551616=n:=by omega
 rw[h1];have h2:¬(n:Int)≥9223372036854775808:=by omega
 simp[h2]
theorem Mr(op:BinOp)(a b:Nat):oU op a b (pE op (.one (.p (.int .i64 (.ofNat a)))) (.one (.p (.int .i64 (.ofNat b)))))=pE op (.one (.p (.int .i64 (.ofNat a)))) (.one (.p (.int .i64 (.ofNat b)))):=by
 have hb:∀ {x:Bool} {u v w:Option V},(x=true->u=w)->v=w->(bif x then u else v)=w:=by
  intro x u v w h1 h2;cases x with
  |false=>exact h2
  |true=>exact h1 rfl
 have ofn:∀n:Nat,(Int.ofNat n:Int)=(n:Int):=fun _=>rfl;have ble:∀ {a b:Nat},Nat.ble a b=decide ((a:Int)<=(b:Int)):=by
  intro a b;cases h:Nat.ble a b with
  |true=>have:=aaU h;symm;simp;omega
  |false=>
   symm;simp;have:¬a<=b:=fun hh=>by rw[Nat.ble_eq_true_of_le hh] at h;cases h
   omega
 have beq:∀ {a b:Nat},Nat.beq a b=((a:Int)==(b:Int)):=by
  intro a b;by_cases h:a=b
  .subst h;simp
  have h1:Nat.beq a b=false:=by
   cases e:Nat.beq a b with
   |false=>rfl
   |true=>exact(h (acd e)).elim
  rw[h1];symm;simp;omega
 cases op
 case add=>
  refine hb (fun h=>?_) rfl;have h:a+b<=9223372036854775807:=aaU h;have:((a:Int)+(b:Int))=((a+b:Nat):Int):=by omega
  simp only[pE,iw,true_or,if_true,abf,ofn];rw[this,qd h];rfl
 case sub=>
  refine hb (fun h0=>hb (fun h=>?_) rfl) rfl;have h:=aaU h;have h0:=aaU h0;have:((a:Int)-(b:Int))=((a-b:Nat):Int):=by omega
  simp only[pE,iw,true_or,if_true,abf,ofn];rw[this,qd (by omega)];rfl
 case mul=>
  refine hb (fun h=>?_) rfl;have h:a*b<=9223372036854775807:=aaU h;have:((a:Int)*(b:Int))=((a*b:Nat):Int):=by simp
  simp only[pE,iw,true_or,if_true,abf,ofn];rw[this,qd h];rfl
 case rem=>
  by_cases h0:b=0
  .subst h0;rfl
  have h1:Nat.beq b 0=false:=by
   cases e:Nat.beq b 0 with
   |false=>rfl
   |true=>exact(h0 (acd e)).elim
  have h2:¬(b:Int)=0:=by omega
  simp only[oU,h1,cond_false,pE,iw,true_or,if_true,abf,ofn,if_neg h2];rfl
 case eql=>simp only[oU,pE,iw,true_or,if_true,abf,ofn,beq]
 case neq=>simp only[oU,pE,iw,true_or,if_true,abf,ofn,beq];rfl
 case lss=>simp only[oU,pE,iw,true_or,if_true,abf,ofn,ble];congr 4
 case leq=>simp only[oU,pE,iw,true_or,if_true,abf,ofn,ble]
 case gtr=>simp only[oU,pE,iw,true_or,if_true,abf,ofn,ble];congr 4
 case geq=>simp only[oU,pE,iw,true_or,if_true,abf,ofn,ble]
 all_goals rfl
theorem Qq(op:BinOp)(x y:V):Qr op x y=pE op x y:=by
 unfold Qr;split
 .exact Mr _ _ _
 rfl
def DY(v:V):Option Nat:=
 match v with
 | .one (.p (.int _ (.ofNat n)))=>some n
 |v=>A3 v
theorem KL(v:V):DY v=A3 v:=by
 unfold DY;split
 .simp[A3]
 rfl
def nO(env:Env)(d:Nat):Option aC->Option Nat
 |none=>some d
 |some a=>DY (ev env a)
theorem GG(env:Env)(d:Nat)(a:Option aC):nO env d a=fi env d a:=by
 cases a with
 |none=>rfl
 |some a=>simp only[nO,fi,KL]
def Ol(env:Env)(x:aC):eS:=.done (ev env x) [] []
def Lz(env:Env)(c:aC)(a:aC)(b:aC):eS:=match ev env c with
  | .one (.p (.bool t))=>.done (if t then ev env a else ev env b) [] []
  |_=>.fail
def HJ(X9:aE)(s:Nat)(z:List PV):eS:=.done (.one (.Yh s ((X9 s).1+1) 0)) [(s,((X9 s).1+1,some (.var (z.map .p))))] [s]
def Ot(env:Env)(X9:aE)(s:Nat)(x:aC):eS:=match gj (ev env x) with
  |some cs=>.done (.one (.Yh s ((X9 s).1+1) 0)) [(s,((X9 s).1+1,some (.var cs)))] [s]
  |none=>.fail
def HH(env:Env)(z:List PV)(ps:List (Nat×Nat×aC)):eS:=match ky env ps with
  |some q=>.done (.agg (fill (z.map .p) q)) [] []
  |none=>.fail
def Fg(env:Env)(X9:aE)(s:Nat)(ty:Nat)(sz:Nat)(ps:List aC):eS:=match lX env sz ps with
  |some es=>match tO es with
   |some qs=>.done (.one (.hsl s ((X9 s).1+1) sz 0 es.length)) [(s,((X9 s).1+1,some (.arr ty sz qs)))] [s]
   |none=>.done (.one (.hsl s ((X9 s).1+1) sz 0 es.length)) [(s,((X9 s).1+1,some (.YP ty sz es)))] [s]
  |none=>.fail
def LG(env:Env)(X9:aE)(k:Option Nat)(x:aC):eS:=match AS X9 (ev env x) with
  |some (cs,r)=>match iC k cs with
   |some v=>.done v [] r
   |none=>.fail
  |none=>.fail
def HD(env:Env)(X9:aE)(n:Nat)(a:aC)(x:aC):eS:=match gj (ev env x) with
  |some xs=>xN X9 (ev env a) n xs
  |none=>.fail
def Fe(env:Env)(x:aC):eS:=match ev env x with
  | .one (.Yh id g o)=>.done (.one (.Yh id g o)) [] []
  | .one (.YJ id g i o)=>.done (.one (.YJ id g i o)) [] []
  | .one (.p (.box cs))=>.done (.one (.p (.box cs))) [] []
  | .one (.hfn f a b)=>.done (.one (.hfn f a b)) [] []
  | .one (.p (.fn f a b))=>.done (.one (.p (.fn f a b))) [] []
  |_=>.fail
def Fh(env:Env)(op:BinOp)(x:aC)(y:aC):eS:=match Qr op (ev env x) (ev env y) with
  |some v=>.done v [] []
  |none=>.fail
def Oq(env:Env)(k:KN)(neg:Bool)(x:aC)(y:aC):eS:=match Tb k (ev env x) (ev env y) with
  |some b=>.done (.one (.p (.bool (if neg then !b else b)))) [] []
  |none=>.fail
def R7(env:Env)(op:UnOp)(x:aC):eS:=match op,ev env x with
  | .not,.one (.p (.bool b))=>.done (.one (.p (.bool (!b)))) [] []
  | .neg,.one (.p (.int k n))=>.done (.one (.p (.int k (k.wrap (0-n))))) [] []
  |_,_=>.fail
def LJ(env:Env)(k:IntKind)(x:aC):eS:=match ev env x with
  | .one (.p (.int _ n))=>.done (.one (.p (.int k (k.wrap n)))) [] []
  |_=>.fail
def LN(env:Env)(X9:aE)(x:aC):eS:=match cM X9 (ev env x) with
  |some (es,r,[])=>match bytesOf es with
   |some bs=>.done (.one (.p (.str ⟨bs.toArray⟩))) [] r
   |none=>.fail
  |_=>.fail
def LF(env:Env)(f:Nat)(a:List aC)(b:List aC):eS:=match mv env a,mv env b with
  |some x,some y=>.done (.one (.hfn f x y)) [] []
  |_,_=>.fail
def HE(X9:aE)(s:Nat)(ag:Bool):eS:=.done (.one (.YW s ((X9 s).1+1))) [(s,((X9 s).1+1,some (.map ag [])))] [s]
def ua(env:Env)(X9:aE)(s:Nat)(ty:Nat)(sz:Nat)(bytes:Nat)(z:List PV)(l:aC)(c:aC):eS:=match DY (ev env l),DY (ev env c) with
  |some n,some m=>if n=m/\n*bytes<=room then
    .done (.one (.hsl s ((X9 s).1+1) sz 0 n)) [(s,((X9 s).1+1,some (.arr ty sz (List.replicate n z))))] [s]
   else .fail
  |_,_=>.fail
def yF(env:Env)(sz:Nat)(x:aC)(lo:Option aC)(hi:Option aC):eS:=match wW (ev env x) with
  |some n=>match nO env 0 lo,nO env n hi with
   |some l,some h=>gY (ev env x) sz l h
   |_,_=>.fail
  |none=>.fail
def wa(env:Env)(x:aC)(lo:Option aC)(hi:Option aC):eS:=match ev env x with
  | .one (.p (.str s))=>match nO env 0 lo,nO env s.size hi with
   |some l,some h=>if l<=h/\h<=s.size then .done (.one (.p (.str (s.extract l h)))) [] [] else .fail
   |_,_=>.fail
  |_=>.fail
def HF(env:Env)(off:Nat)(x:aC):eS:=match ev env x with
  | .one (.Yh id g o)=>.done (.one (.Yh id g (o+off))) [] []
  | .one (.YJ id g i o)=>.done (.one (.YJ id g i (o+off))) [] []
  | .one (.p (.box cs))=>.done (.one (.p (.box (cs.drop off)))) [] []
  |_=>.fail
def yG(env:Env)(sz:Nat)(x:aC)(i:aC):eS:=match DY (ev env i),ev env x with
  |some n,.one (.p (.sl es))=>match es[n]? with
   |some e=>if e.length=sz then .done (.one (.p (.box e))) [] [] else .fail
   |none=>.fail
  |some n,.one (.hsl id g z off len)=>if n<len/\z=sz then .done (.one (.YJ id g (off+n) 0)) [] [] else .fail
  |_,_=>.fail
def yI(env:Env)(len:Nat)(sz:Nat)(x:aC)(i:aC):eS:=match DY (ev env i),ev env x with
  |some n,.one (.Yh id g o)=>if n<len then .done (.one (.Yh id g (o+n*sz))) [] [] else .fail
  |some n,.one (.YJ id g j o)=>if n<len then .done (.one (.YJ id g j (o+n*sz))) [] [] else .fail
  |some n,.one (.p (.box cs))=>if n<len then .done (.one (.p (.box (cs.drop (n*sz))))) [] [] else .fail
  |_,_=>.fail
def Oo(env:Env)(off:Nat)(k:Option Nat)(x:aC):eS:=match ev env x with
  | .agg cs=>match iC k (cs.drop off) with
   |some v=>.done v [] []
   |none=>.fail
  |_=>.fail
def Br(env:Env)(len:Nat)(sz:Nat)(k:Option Nat)(x:aC)(i:aC):eS:=match DY (ev env i),ev env x with
  |some n,.agg cs=>if n<len then
    match iC k (cs.drop (n*sz)) with
    |some v=>.done v [] []
    |none=>.fail
   else .fail
  |_,_=>.fail
def Bq(env:Env)(x:aC)(i:aC):eS:=match DY (ev env i),ev env x with
  |some n,.one (.p (.str s))=>match s[n]? with
   |some b=>.done (.one (.p (.int .u8 b.toNat))) [] []
   |none=>.fail
  |_,_=>.fail
def Ff(env:Env)(X9:aE)(kd:Nat)(z:List PV)(agg:Bool)(ok:Bool)(x:aC)(k:aC):eS:=match mapOf X9 agg (ev env x),ev env k with
  |some (es,r),.one (.p q)=>if eh q≠kd then .fail else match kN q es 0 with
   |some f=>match mapVal agg ((f.map (·.2)).getD z) with
    |some w=>.done (if ok then .tup [w,.one (.p (.bool f.isSome))] else w) [] r
    |none=>.fail
   |none=>.fail
  |_,_=>.fail
def Ou:eS:=.fail
def LD(env:Env)(X9:aE)(kd:Nat)(ag:Bool)(m:aC)(k:aC)(v:aC):eS:=match ev env m,ev env k,jR ag (ev env v) with
  | .one (.YW id g),.one (.p q),some cs=>match X9 id,AP cs with
   |(g',some (.map ag' es)),some ps=>if g'=g/\ag'=ag/\eh q=kd then
     match kN q es 0 with
     |some (some (i,_))=>.done .undef [(id,(g,some (.map ag (es.set i (q,ps)))))] [id]
     |some none=>.done .undef [(id,(g,some (.map ag (es++[(q,ps)]))))] [id]
     |none=>.fail
    else .fail
   |_,_=>.fail
  |_,_,_=>.fail
def Db(env:Env)(x:aC)(i:Nat):eS:=match ev env x with
  | .tup vs=>match vs[i]? with
   |some v=>.done v [] []
   |none=>.fail
  |_=>.fail
def LK(shared:Nat->Bool)(env:Env)(X9:aE)(s:Nat)(f:aC)(as:List aC):eS:=match F6 env f with
  |some (g,a,b)=>
   if shared g then .sc g (a.map .one++as.map (ev env)++b.map .one)
   else match mK X9 (a.map .one++as.map (ev env)++b.map .one) with
    |some (vs,r)=>.pc g vs r s
    |none=>.fail
  |none=>.fail
def Ly(env:Env)(x:aC):eS:=match ev env x with
  | .one (.p (.str s))=>.done (.one (.p (.int .i64 s.size))) [] []
  |_=>.fail
def LH(env:Env)(x:aC):eS:=match wW (ev env x) with
  |some n=>.done (.one (.p (.int .i64 n))) [] []
  |none=>.fail
def LE(env:Env)(X9:aE)(x:aC):eS:=match y7 X9 (ev env x) with
  |some (n,r)=>.done (.one (.p (.int .i64 n))) [] r
  |none=>.fail
def Fi(env:Env)(X9:aE)(s:Nat)(ty:Nat)(sz:Nat)(bytes:Nat)(d:aC)(x:aC):eS:=aN X9 s ty sz bytes (ev env d) (ev env x)
def On(env:Env)(x:aC)(y:aC):eS:=match ev env x,ev env y with
  | .one (.p (.int k a)),.one (.p (.int _ b))=>.done (.one (.p (.int k (if b>a then b else a)))) [] []
  |_,_=>.fail
def Om(env:Env)(x:aC)(y:aC):eS:=match ev env x,ev env y with
  | .one (.p (.int k a)),.one (.p (.int _ b))=>.done (.one (.p (.int k (if b<a then b else a)))) [] []
  |_,_=>.fail
def HG(env:Env)(X9:aE)(z:List PV)(x:aC):eS:=match ev env x with
  | .one (.p .nils)=>.done (.tup []) [] []
  | .one (.p (.sl []))=>.done (.tup []) [] []
  | .one (.hsl id g _ off len)=>if len=0 then .done (.tup []) [] [] else match X9 id with
   |(g',some (.arr ty sz es))=>if g'=g/\sz=z.length/\off+len<=es.length then .done (.tup []) [(id,(g,some (.arr ty sz (bi es off (List.replicate len z)))))] [id] else .fail
   |_=>.fail
  |_=>.fail
def Ow(shared:Nat->Bool)(env:Env)(X9:aE):vP->eS
 | .mov x=>Ol env x
 | .pick c a b=>Lz env c a b
 | .alloc s z=>HJ X9 s z
 | .box s x=>Ot env X9 s x
 | .build z ps=>HH env z ps
 | .Yl s ty sz ps=>Fg env X9 s ty sz ps
 | .load k x=>LG env X9 k x
 | .store n a x=>HD env X9 n a x
 | .Zf x=>Fe env x
 | .bin op x y=>Fh env op x y
 | .eqc k neg x y=>Oq env k neg x y
 | .un op x=>R7 env op x
 | .conv k x=>LJ env k x
 | .bstr x=>LN env X9 x
 | .mkfn f a b=>LF env f a b
 | .mkmap s ag=>HE X9 s ag
 | .Yx s ty sz bytes z l c=>ua env X9 s ty sz bytes z l c
 | .slice sz x lo hi=>yF env sz x lo hi
 | .sslice x lo hi=>wa env x lo hi
 | .ZH off x=>HF env off x
 | .Zc sz x i=>yG env sz x i
 | .ZT len sz x i=>yI env len sz x i
 | .fld off k x=>Oo env off k x
 | .aidx len sz k x i=>Br env len sz k x i
 | .sidx x i=>Bq env x i
 | .lookup kd z agg ok x k=>Ff env X9 kd z agg ok x k
 | .bad=>Ou
 | .mupd kd ag m k v=>LD env X9 kd ag m k v
 | .extract x i=>Db env x i
 | .call s f as=>LK shared env X9 s f as
 | .slen x=>Ly env x
 | .abg x=>LH env x
 | .mlen x=>LE env X9 x
 | .append s ty sz bytes d x=>Fi env X9 s ty sz bytes d x
 | .max x y=>On env x y
 | .min x y=>Om env x y
 | .clear z x=>HG env X9 z x
theorem Ov(shared:Nat->Bool)(env:Env)(X9:aE)(o:vP):Ow shared env X9 o=aR shared env X9 o:=by
 cases o<;>first
  |rfl
  |simp only[Ow,aR,Fh,ua,yF,wa,yG,yI,Br,Bq,Qq,KL,GG]<;>rfl
inductive Tr where
 |leaf
 |node (v:V) (l r:Tr)
noncomputable def Tr.get (t:Tr):Nat->V:=Tr.rec (motive:=fun _=>Nat->V) (fun _=>.undef) (fun v _ _ gl gr n=>bif Nat.beq n 0 then v else bif Nat.beq (Nat.mod n 2) 1 then gl (Nat.div n 2) else gr (Nat.sub (Nat.div n 2) 1)) t
noncomputable def Tr.single (k:Nat):Nat->V->Tr:=Nat.rec (motive:=fun _=>Nat->V->Tr) (fun _ _=>.leaf) (fun _ ih n x=>bif Nat.beq n 0 then .node x .leaf .leaf else bif Nat.beq (Nat.mod n 2) 1 then .node .undef (ih (Nat.div n 2) x) .leaf else .node .undef .leaf (ih (Nat.sub (Nat.div n 2) 1) x)) k
noncomputable def Tr.set (t:Tr):Nat->V->Tr:=Tr.rec (motive:=fun _=>Nat->V->Tr) (fun n x=>Tr.single 12 n x) (fun v l r sl sr n x=>bif Nat.beq n 0 then .node x l r else bif Nat.beq (Nat.mod n 2) 1 then .node v (sl (Nat.div n 2) x) r else .node v l (sr (Nat.sub (Nat.div n 2) 1) x)) t
theorem mw{a b:Nat}(h:a≠b):Nat.beq a b=false:=by
 cases e:Nat.beq a b with
 |false=>rfl
 |true=>exact(h (acd e)).elim
theorem Pr(n:Nat):Tr.leaf.get n=.undef:=rfl
theorem uw(v:V)(l r:Tr)(n:Nat):(Tr.node v l r).get n=if n=0 then v else if n%2=1 then l.get (n/2) else r.get (n/2-1):=by
 show(bif Nat.beq n 0 then v else bif Nat.beq (n%2) 1 then l.get (n/2) else r.get (n/2-1))=_;by_cases h0:n=0
 .subst h0;rfl
 rw[mw h0,if_neg h0];by_cases h1:n%2=1
 .rw[h1];rfl
 rw[mw h1,if_neg h1];rfl
theorem Bb(f:Tr->Tr)(g:Tr->Tr)(v:V)(l r:Tr)(n m:Nat)(x:V)(hl:n%2=1->(f l).get (m/2)=if m/2=n/2 then x else l.get (m/2))(hr:n≠0->n%2≠1->(g r).get (m/2-1)=if m/2-1=n/2-1 then x else r.get (m/2-1)):
  (bif Nat.beq n 0 then Tr.node x l r else bif Nat.beq (n%2) 1 then .node v (f l) r else .node v l (g r)).get m=if m=n then x else (Tr.node v l r).get m:=by
 by_cases h0:n=0
 .subst h0;simp only[Nat.beq_refl,cond_true,uw];by_cases hm:m=0<;>simp[hm]
 rw[mw h0];by_cases h1:n%2=1
 .rw[h1];simp only[cond_false,Nat.beq_refl,cond_true,uw];by_cases hm:m=0
  .subst hm;rw[if_pos rfl,if_neg (fun e=>h0 e.symm),if_pos rfl]
  rw[if_neg hm];by_cases hm1:m%2=1
  .rw[if_pos hm1,hl h1];by_cases he:m=n
   .subst he;simp
   rw[if_neg he,if_neg (by omega),if_neg hm,if_pos hm1]
  rw[if_neg hm1,if_neg (by omega),if_neg hm,if_neg hm1]
 rw[mw h1];simp only[cond_false,uw];by_cases hm:m=0
 .subst hm;rw[if_pos rfl,if_neg (fun e=>h0 e.symm),if_pos rfl]
 rw[if_neg hm];by_cases hm1:m%2=1
 .rw[if_pos hm1,if_neg (by omega),if_neg hm,if_pos hm1]
 rw[if_neg hm1,hr h0 h1];by_cases he:m=n
 .subst he;simp
 rw[if_neg he,if_neg (by omega),if_neg hm,if_neg hm1]
theorem Hs:∀(k n m:Nat) (x:V),n+1<2 ^ k->(Tr.single k n x).get m=if m=n then x else Tr.leaf.get m:=by
 intro k
 induction k with
 |zero=>intro n m x h;simp at h
 |succ k ih=>
  intro n m x h;have hp:2 ^ (k+1)=2*2 ^ k:=by rw[Nat.pow_succ];omega
  have:=Bb (fun _=>Tr.single k (n/2) x) (fun _=>Tr.single k (n/2-1) x) .undef .leaf .leaf n m x (fun _=>ih _ _ _ (by omega)) (fun _ _=>ih _ _ _ (by omega));have e:(Tr.node .undef .leaf .leaf).get m=Tr.leaf.get m:=by rw[uw];simp[Pr]
  rw[e] at this;exact this
theorem Tr.Kf:∀(t:Tr) (n m:Nat) (x:V),n+1<2 ^ 12->(t.set n x).get m=if m=n then x else t.get m:=by
 intro t
 induction t with
 |leaf=>intro n m x h;exact Hs 12 n m x h
 |node v l r ihl ihr=>intro n m x h;exact Bb (fun l=>l.set (n/2) x) (fun r=>r.set (n/2-1) x) v l r n m x (fun _=>ihl _ _ _ (by omega)) (fun _ _=>ihr _ _ _ (by omega))
abbrev BL:=List (Nat×(Nat×Option Ob))
noncomputable def Mm (b:BL) (n:Nat):Nat×Option Ob:=List.rec (motive:=fun _=>Nat×Option Ob) (0,none) (fun p _ ih=>bif Nat.beq p.1 n then p.2 else ih) b
noncomputable def EP:BL->Nat->Nat×Option Ob->BL
 |[],n,x=>[(n,x)]
 |(i,o)::r,n,x=>bif Nat.beq i n then (i,x)::r else (i,o)::EP r n x
theorem Ps:∀(b:BL) (n:Nat) (x:Nat×Option Ob) (m:Nat),Mm (EP b n x) m=if m=n then x else Mm b m:=by
 intro b
 induction b with
 |nil=>
  intro n x m;simp only[EP,Mm];by_cases h:m=n
  .subst h;simp
  have:Nat.beq n m=false:=mw fun e=>h e.symm;simp[this,h]
 |cons p b ih=>
  obtain⟨i,o⟩:=p;intro n x m;simp only[EP];by_cases h:i=n
  .subst h;simp only[Nat.beq_refl,cond_true,Mm];by_cases hm:m=i
   .subst hm;simp
   have:Nat.beq i m=false:=mw fun e=>hm e.symm;simp[this,hm]
  have:Nat.beq i n=false:=mw h;simp only[this,cond_false,Mm];by_cases hm:i=m
  .subst hm;simp[h]
  have:Nat.beq i m=false:=mw hm;simp only[this,cond_false];exact ih n x m
noncomputable def mJ (t:Tr):Env:=fun i=>t.get i
noncomputable def jz (b:BL):aE:=fun i=>Mm b i
noncomputable def KY:Nat->List V->Tr->Tr
 |_,[],t=>t
 |i,a::r,t=>KY (i+1) r (t.set i a)
theorem Ns:∀(l:List V) (i:Nat) (t:Tr) (m:Nat),i+l.length<4095->(KY i l t).get m=if i<=m/\m<i+l.length then l.getD (m-i) .undef else t.get m:=by
 intro l
 induction l with
 |nil=>intro i t m _;simp[KY];intro h1 h2;omega
 |cons a r ih=>
  intro i t m h;simp only[aas] at h ⊢;rw[KY,ih (i+1) _ m (by omega),Tr.Kf t i m a (by omega)];by_cases h1:m=i
  .subst h1;rw[if_neg (by omega),if_pos rfl,if_pos (by omega)];simp
  rw[if_neg h1];by_cases h2:i+1<=m/\m<i+1+r.length
  .rw[if_pos h2,if_pos (by omega)];obtain⟨k,rfl⟩:∃k,m=i+1+k:=⟨m-(i+1),by omega⟩;rw[show i+1+k-(i+1)=k by omega,show i+1+k-i=k+1 by omega];simp
  rw[if_neg h2,if_neg (by omega)]
theorem Nu(h:args.length<4095):mJ (KY 0 args .leaf)=pW args:=by
 funext m;unfold mJ pW;rw[Ns args 0 .leaf m (by omega)];by_cases hm:m<args.length
 .rw[if_pos (by omega)];rfl
 rw[if_neg (by omega)];simp[Tr.get,List.getD,abz (Nat.le_of_not_lt hm)]
noncomputable def Nh {α:Type} (n:Nat) (k:Nat->α):α:=match n with
 |0=>k 0
 |m+1=>k (m+1)
noncomputable def Ni {α:Type} (z:Int) (k:Int->α):α:=match z with
 | .ofNat n=>Nh n fun n=>k (.ofNat n)
 | .negSucc n=>Nh n fun n=>k (.negSucc n)
noncomputable def Ng {α:Type} (v:V) (k:V->α):α:=match v with
 | .one (.p (.int t z))=>Ni z fun z=>k (.one (.p (.int t z)))
 | .one (.p (.bool b))=>match b with
  |true=>k (.one (.p (.bool true)))
  |false=>k (.one (.p (.bool false)))
 |v=>k v
@[simp] theorem WF {α:Type} (n:Nat) (k:Nat->α):Nh n k=k n:=by cases n<;>rfl
@[simp] theorem WG {α:Type} (z:Int) (k:Int->α):Ni z k=k z:=by cases z<;>simp[Ni]
@[simp] theorem Nf {α:Type} (v:V) (k:V->α):Ng v k=k v:=by
 unfold Ng;split
 .simp
 .split<;>rfl
 rfl
def Sk(al:Al)(l:List Nat):Bool:=bif al.any then true else al.mX l
theorem Sj(al:Al)(l:List Nat):Sk al l=al.mX l:=by
 unfold Sk;cases h:al.any with
 |false=>rfl
 |true=>simp[Al.mX,Al.ok,h]
abbrev fF:=Nat->List V->Al->BL->Option (V×BL)
noncomputable def QD:List kB->BL->BL
 |[],b=>b
 |(i,o)::r,b=>QD r (EP b i o)
theorem Jl:∀(u:List kB) (b:BL),jz (QD u b)=app u (jz b):=by
 intro u
 induction u with
 |nil=>intro b;rfl
 |cons x u ih=>obtain⟨i,o⟩:=x;intro b;simp only[QD,app];rw[ih];congr 1;funext m;exact Ps b i o m
noncomputable def Lw (t:Tr) (d:Option Nat) (v:V) (k:Tr->Option (Tr×BL×eF)):Option (Tr×BL×eF):=match d with
 |none=>k t
 |some n=>bif Nat.ble n 4000 then Ng v fun v=>k (t.set n v) else none
noncomputable def Jr (sh:Ctx) (cp:dh) (cs:fF) (o:aj) (t:Tr) (b:BL):Option (Tr×BL×eF):=
 match wanted (mJ t) o.guard with
 |none=>none
 |some false=>Lw t o.dst .undef fun t'=>some (t',b,⟨[],[],[]⟩)
 |some true=>match Ow sh.shared (mJ t) (jz b) o.op with
  | .fail=>none
  | .done v u r=>bif Sk sh.al (r++u.map (·.1)) then Lw t o.dst v fun t'=>some (t',QD u b,⟨r,u.map (·.1),[]⟩) else none
  | .pc f vs r s=>match cp f vs with
   |some x=>match land (jz b) r s (x.bZ (sh.lone s)) with
    |some (v,u)=>bif Sk sh.al (r++u.map (·.1)) then Lw t o.dst v fun t'=>some (t',QD u b,⟨r++u.map (·.1),u.map (·.1),[]⟩) else none
    |none=>none
   |none=>none
  | .sc f vs=>match allow sh f vs (jz b) with
   |al=>bif sh.al.holds al then
     match cs f vs al b with
     |some (v,b')=>Lw t o.dst v fun t'=>some (t',b',⟨al.ids,al.ids,al.fs⟩)
     |none=>none
    else none
noncomputable def M3 (cs:fd) (cf:fF):Prop:=∀f vs al b v b',cf f vs al b=some (v,b')->cs f vs al (jz b)=some (v,jz b')
theorem xl{t t':Tr}{d:Option Nat}{v:V}{b b':BL}{e e':eF}(h:Lw t d v (fun t'=>some (t',b,e))=some (t',b',e')):put (mJ t) d v=mJ t'/\b=b'/\e=e':=by
 unfold Lw at h;split at h
 .cases h;exact⟨rfl,rfl,rfl⟩
 rename_i n;cases hn:Nat.ble n 4000 with
 |false=>rw[hn] at h;cases h
 |true=>rw[hn] at h;simp only[cond_true,Nf] at h;cases h;refine⟨?_,rfl,rfl⟩;have:=aaU hn;funext m;unfold mJ put;exact(Tr.Kf t n m v (by omega)).symm
theorem NF{cf:fF}(hs:M3 cs cf){o:aj}{t t':Tr}{b b':BL}{e:eF}(h:Jr sh cp cf o t b=some (t',b',e)):step1 sh cp cs o (mJ t) (jz b)=some (mJ t',jz b',e):=by
 unfold Jr at h;simp only[Ov,Sj] at h;unfold step1;split at h
 .cases h
 .rename_i hw;rw[hw];obtain⟨h1,rfl,rfl⟩:=xl h;simp only[h1]
 rename_i hw;rw[hw];simp only;split at h
 .cases h
 .rename_i v u r hp;cases Yd:sh.al.mX (r++u.map (·.1)) with
  |false=>rw[Yd] at h;cases h
  |true=>rw[Yd] at h;obtain⟨h1,rfl,rfl⟩:=xl h;simp only[hp,Yd,if_true,h1,Jl]
 .rename_i f vs r s hp;split at h
  .rename_i x hx;split at h
   .rename_i v u hl;cases Yd:sh.al.mX (r++u.map (·.1)) with
    |false=>rw[Yd] at h;cases h
    |true=>rw[Yd] at h;obtain⟨h1,rfl,rfl⟩:=xl h;simp only[hp,hx,hl,Yd,if_true,h1,Jl]
   cases h
  cases h
 rename_i f vs hp;cases Yd:sh.al.holds (allow sh f vs (jz b)) with
 |false=>rw[Yd] at h;cases h
 |true=>
  rw[Yd] at h;simp only[cond_true] at h;split at h
  .rename_i v b1 hc;obtain⟨h1,rfl,rfl⟩:=xl h;simp only[hp,Yd,if_true,hs _ _ _ _ _ _ hc,h1]
  cases h
noncomputable def Vd (sh:Ctx) (cp:dh) (cs:fF) (o:aj) (ih:Tr->BL->Option (Tr×BL×List eF)) (env:Tr) (X9:BL):Option (Tr×BL×List eF):=
 match Jr sh cp cs o env X9 with
 |some (Yc,Ya,e)=>match ih Yc Ya with
  |some (acr,aby,es)=>some (acr,aby,e::es)
  |none=>none
 |none=>none
noncomputable def uQ (sh:Ctx) (cp:dh) (cs:fF) (l:List aj):Tr->BL->Option (Tr×BL×List eF):=List.rec (motive:=fun _=>Tr->BL->Option (Tr×BL×List eF)) (fun env X9=>some (env,X9,[])) (fun o _ ih=>Vd sh cp cs o ih) l
theorem Hn(sh:Ctx)(cp:dh)(cs:fF)(env:Tr)(X9:BL):uQ sh cp cs [] env X9=some (env,X9,[]):=rfl
theorem EB(sh:Ctx)(cp:dh)(cs:fF)(o:aj)(r:List aj)(env:Tr)(X9:BL):uQ sh cp cs (o::r) env X9=match Jr sh cp cs o env X9 with
  |some (Yc,Ya,e)=>match uQ sh cp cs r Yc Ya with
   |some (acr,aby,es)=>some (acr,aby,e::es)
   |none=>none
  |none=>none:=rfl
theorem K8{cf:fF}(hs:M3 cs cf):∀ {ops:List aj} {t t':Tr} {b b':BL} {es:List eF},uQ sh cp cf ops t b=some (t',b',es)->steps sh cp cs ops (mJ t) (jz b)=some (mJ t',jz b',es):=by
 intro ops
 induction ops with
 |nil=>intro t t' b b' es h;simp only[Hn,aau,aaT] at h;obtain⟨rfl,rfl,rfl⟩:=h;rfl
 |cons o r ih=>
  intro t t' b b' es h;simp only[EB] at h;split at h
  .rename_i t1 b1 e1 h1;split at h
   .rename_i t2 b2 es2 h2;cases h;simp only[steps,NF hs h1,ih h2]
   cases h
  cases h
noncomputable def FK (f:Tr->BL->Option (gD×Tr×BL)) (n:Nat):Tr->BL->Option (gD×Tr×BL):=
 Nat.rec (motive:=fun _=>Tr->BL->Option (gD×Tr×BL)) (fun _ _=>none) (fun _ ih env X9=>match f env X9 with
  |some (.normal,Yc,Ya)=>ih Yc Ya
  |r=>r) n
theorem Ih(f:Tr->BL->Option (gD×Tr×BL))(n:Nat)(env:Tr)(X9:BL):FK f (n+1) env X9=match f env X9 with
  |some (.normal,Yc,Ya)=>FK f n Yc Ya
  |r=>r:=rfl
abbrev Ex:=Tr->BL->Option (gD×Tr×BL)
noncomputable def PN (sh:Ctx) (cp:dh) (cs:fF) (d:Bool) (ops:List aj):Ex:=fun env X9=>match uQ sh cp cs ops env X9 with
  |some (Yc,Ya,es)=>bif d then (bif gM ops [] es then some (.normal,Yc,Ya) else none) else some (.normal,Yc,Ya)
  |none=>none
noncomputable def XE (a b:Ex):Ex:=fun env X9=>match a env X9 with
  |some (.normal,Yc,Ya)=>b Yc Ya
  |r=>r
noncomputable def VU (x:aC) (a b:Ex):Ex:=fun env X9=>match ev (mJ env) x with
  | .one (.p (.bool t))=>bif t then a env X9 else b env X9
  |_=>none
noncomputable def S6 (id:Nat) (c:Ex):Ex:=fun env X9=>match c env X9 with
  |some (.exit i,Yc,Ya)=>bif Nat.beq i id then some (.normal,Yc,Ya) else some (.exit i,Yc,Ya)
  |r=>r
noncomputable def kO (sh:Ctx) (cp:dh) (cs:fF) (n:Nat) (c:aq):Ex:=
 aq.rec (motive:=fun _=>Ex) (fun env X9=>some (.normal,env,X9)) (fun d ops=>PN sh cp cs d ops) (fun _ _ a b=>XE a b) (fun x _ _ a b=>VU x a b)
  (fun id _ c=>S6 id c) (fun _ c=>FK c n) (fun id env X9=>some (.exit id,env,X9)) (fun env X9=>some (.ret,env,X9)) (fun _ _=>none) c
section
variable (sh:Ctx) (cp:dh) (cs:fF) (n:Nat) (env:Tr) (X9:BL)
theorem IB:kO sh cp cs n .skip env X9=some (.normal,env,X9):=rfl
theorem ID(id:Nat):kO sh cp cs n (.exit id) env X9=some (.exit id,env,X9):=rfl
theorem Mv:kO sh cp cs n .ret env X9=some (.ret,env,X9):=rfl
theorem DG(d:Bool)(ops:List aj):kO sh cp cs n (.region d ops) env X9=match uQ sh cp cs ops env X9 with
  |some (Yc,Ya,es)=>bif d then (bif gM ops [] es then some (.normal,Yc,Ya) else none) else some (.normal,Yc,Ya)
  |none=>none:=rfl
theorem Mu(a b:aq):kO sh cp cs n (.seq a b) env X9=match kO sh cp cs n a env X9 with
  |some (.normal,Yc,Ya)=>kO sh cp cs n b Yc Ya
  |r=>r:=rfl
theorem IE(x:aC)(a b:aq):kO sh cp cs n (.cond x a b) env X9=match ev (mJ env) x with
  | .one (.p (.bool t))=>bif t then kO sh cp cs n a env X9 else kO sh cp cs n b env X9
  |_=>none:=rfl
theorem Gh(id:Nat)(c:aq):kO sh cp cs n (.block id c) env X9=match kO sh cp cs n c env X9 with
  |some (.exit i,Yc,Ya)=>bif Nat.beq i id then some (.normal,Yc,Ya) else some (.exit i,Yc,Ya)
  |r=>r:=rfl
theorem IC(c:aq):kO sh cp cs n (.loop c) env X9=FK (kO sh cp cs n c) n env X9:=rfl
end
theorem Pd{f:Tr->BL->Option (gD×Tr×BL)}{g:Env->aE->Option (gD×Env×aE)}(hfg:∀t b e t' b',f t b=some (e,t',b')->g (mJ t) (jz b)=some (e,mJ t',jz b')):
  ∀(n:Nat) {t t':Tr} {b b':BL} {e:gD},FK f n t b=some (e,t',b')->iter g n (mJ t) (jz b)=some (e,mJ t',jz b'):=by
 intro n
 induction n with
 |zero=>intro t t' b b' e h;cases h
 |succ n ih=>
  intro t t' b b' e h;simp only[Ih] at h;simp only[iter];split at h
  .rename_i t1 b1 h1;rw[hfg _ _ _ _ _ h1];exact ih h
  rename_i Yk;rw[hfg _ _ _ _ _ h];cases e with
  |normal=>exact(Yk _ _ h).elim
  |exit i=>rfl
  |ret=>rfl
theorem Gg{cf:fF}(hs:M3 cs cf){n:Nat}:∀(c:aq) {t t':Tr} {b b':BL} {e:gD},kO sh cp cf n c t b=some (e,t',b')->exec sh cp cs n c (mJ t) (jz b)=some (e,mJ t',jz b'):=by
 intro c
 induction c with
 |skip=>intro t t' b b' e h;simp only[IB,aau,aaT] at h;obtain⟨rfl,rfl,rfl⟩:=h;rfl
 |exit id=>intro t t' b b' e h;simp only[ID,aau,aaT] at h;obtain⟨rfl,rfl,rfl⟩:=h;rfl
 |ret=>intro t t' b b' e h;simp only[Mv,aau,aaT] at h;obtain⟨rfl,rfl,rfl⟩:=h;rfl
 |bad=>intro t t' b b' e h;cases h
 |region d ops=>
  intro t t' b b' e h;simp only[DG] at h;simp only[exec];split at h
  .rename_i t1 b1 es h1;rw[K8 hs h1];simp only;cases d with
   |false=>simp only[cond_false] at h;cases h;simp
   |true=>
    simp only[cond_true] at h;cases hd:gM ops [] es with
    |false=>rw[hd] at h;cases h
    |true=>rw[hd] at h;simp only[cond_true] at h;cases h;simp
  cases h
 |seq x y ihx ihy=>
  intro t t' b b' e h;simp only[Mu] at h;simp only[exec];split at h
  .rename_i t1 b1 h1;rw[ihx h1];exact ihy h
  rename_i Yk;rw[ihx h];cases e with
  |normal=>exact(Yk _ _ h).elim
  |exit i=>rfl
  |ret=>rfl
 |cond x p q ihp ihq=>
  intro t t' b b' e h;simp only[IE] at h;simp only[exec];split at h
  .rename_i tt ht;rw[ht];cases tt with
   |true=>simp only[cond_true] at h;simpa using ihp h
   |false=>simp only[cond_false] at h;simpa using ihq h
  cases h
 |block id c ih=>
  intro t t' b b' e h;simp only[Gh] at h;simp only[exec];split at h
  .rename_i i t1 b1 h1;rw[ih h1];simp only;cases hi:Nat.beq i id with
   |true=>rw[hi] at h;simp only[cond_true] at h;cases h;rw[if_pos (acd hi)]
   |false=>rw[hi] at h;simp only[cond_false] at h;cases h;rw[if_neg];intro hh;rw[hh,Nat.beq_refl] at hi;cases hi
  rename_i Yk;rw[ih h];cases e with
  |normal=>rfl
  |exit i=>exact(Yk _ _ _ h).elim
  |ret=>rfl
 |loop c ih=>intro t t' b b' e h;simp only[IC] at h;simp only[exec];exact Pd (fun _ _ _ _ _ h=>ih h) n h
noncomputable def yz (sh:Ctx) (cp:dh) (cs:fF) (n:Nat) (fn:dD) (args:List V) (X9:BL):Option (V×BL):=
 bif Nat.ble args.length 4000 then
  match kO sh cp cs n fn.body (KY 0 args .leaf) X9 with
  |some (.normal,env,Ya)=>(dd sh.al (mJ env) (jz Ya) fn.results).map fun vs=>(xX vs,Ya)
  |some (.ret,env,Ya)=>(dd sh.al (mJ env) (jz Ya) fn.results).map fun vs=>(xX vs,Ya)
  |_=>none
 else none
theorem N7{cf:fF}(hs:M3 cs cf){n:Nat}{fn:dD}{b b':BL}{v:V}(h:yz sh cp cf n fn args b=some (v,b')):og sh cp cs n fn args (jz b)=some (v,jz b'):=by
 unfold yz at h;unfold og;cases hl:Nat.ble args.length 4000 with
 |false=>rw[hl] at h;cases h
 |true=>
  rw[hl] at h;simp only[cond_true] at h;have:=aaU hl;rw[<- Nu (by omega)];split at h
  .rename_i env b1 hx;rw[Gg hs _ hx];simp only[aap] at h ⊢;obtain⟨vs,h1,h2⟩:=h;cases h2;exact⟨vs,h1,rfl⟩
  .rename_i env b1 hx;rw[Gg hs _ hx];simp only[aap] at h ⊢;obtain⟨vs,h1,h2⟩:=h;cases h2;exact⟨vs,h1,rfl⟩
  cases h
noncomputable def V2 (S:Sys) (n:Nat) (cp:dh) (cs:fF):dh:=fun f args=>match S.prim f args with
  |some r=>r
  |none=>match S.fns f with
   |some fn=>bif Nat.ble args.length fn.ntmps then
     match yz (S.ctx .all) cp cs n fn args [] with
     |some (v,b)=>iE (jz b) v
     |none=>none
    else none
   |none=>none
noncomputable def V1 (S:Sys) (n:Nat) (cp:dh) (cs:fF):fF:=fun f args al b=>match S.fns f with
  |some fn=>bif Nat.ble args.length fn.ntmps then yz (S.ctx al) cp cs n fn args b else none
  |none=>none
noncomputable def UK (S:Sys) (n:Nat):dh×fF:=Nat.rec (motive:=fun _=>dh×fF) (fun _ _=>none,fun _ _ _ _=>none) (fun n ih=>(V2 S n ih.1 ih.2,V1 S n ih.1 ih.2)) n
noncomputable def tv (S:Sys) (n:Nat):dh:=(UK S n).1
noncomputable def kA (S:Sys) (n:Nat):fF:=(UK S n).2
theorem GE(S:Sys)(n f:Nat)(args:List V):tv S (n+1) f args=match S.prim f args with
  |some r=>r
  |none=>match S.fns f with
   |some fn=>bif Nat.ble args.length fn.ntmps then
     match yz (S.ctx .all) (tv S n) (kA S n) n fn args [] with
     |some (v,b)=>iE (jz b) v
     |none=>none
    else none
   |none=>none:=rfl
theorem GD(S:Sys)(n f:Nat)(args:List V)(al:Al)(b:BL):kA S (n+1) f args al b=match S.fns f with
  |some fn=>bif Nat.ble args.length fn.ntmps then yz (S.ctx al) (tv S n) (kA S n) n fn args b else none
  |none=>none:=rfl
theorem ES{cp':dh}(hp:WB cp cp'){cf:fF}(hs:M3 cs cf){n:Nat}{fn:dD}{b b':BL}{v:V}(h:yz sh cp cf n fn args b=some (v,b')):og sh cp' cs n fn args (jz b)=some (v,jz b'):=ru hp (fun _ _ _ _ _ h=>h) (aad _) (N7 hs h)
theorem Af(S:Sys):∀n,WB (tv S n) (dC S n)/\M3 (dB S n) (kA S n):=by
 intro n
 induction n with
 |zero=>have h1:∀f x,tv S 0 f x=none:=fun _ _=>rfl;have h2:∀f vs al b,kA S 0 f vs al b=none:=fun _ _ _ _=>rfl;exact⟨fun f x r h=>(by rw[h1] at h;cases h),fun f vs al b v b' h=>(by rw[h2] at h;cases h)⟩
 |succ n ih=>
  obtain⟨hp,hs⟩:=ih;refine⟨fun f x r h=>?_,fun f vs al b v b' h=>?_⟩
  .rw[GE] at h;rw[dC];split at h
   .rename_i r' hpr;simp only[hpr];exact h
   rename_i hpr;simp only[hpr];split at h
   .rename_i fn hfn;simp only[hfn];cases hl:Nat.ble x.length fn.ntmps with
    |false=>rw[hl] at h;cases h
    |true=>
     rw[hl] at h;simp only[cond_true] at h;rw[if_pos (aaU hl)];split at h
     .rename_i v b hr;unfold ET;have:qD=jz []:=rfl;rw[this,ES hp hs hr];exact h
     cases h
   cases h
  rw[GD] at h;rw[dB];split at h
  .rename_i fn hfn;simp only[hfn];cases hl:Nat.ble vs.length fn.ntmps with
   |false=>rw[hl] at h;cases h
   |true=>rw[hl] at h;simp only[cond_true] at h;rw[if_pos (aaU hl)];exact ES hp hs h
  cases h
def Ap{α:Type}(f:α->α->Bool):List α->List α->Bool
 |[],[]=>true
 |a::r,b::s=>f a b&&Ap f r s
 |_,_=>false
theorem pI{α:Type}{f:α->α->Bool}(hf:∀a b,f a b=true->a=b):∀ {l m:List α},Ap f l m=true->l=m:=by
 intro l
 induction l with
 |nil=>intro m h;cases m with
  |nil=>rfl
  |cons b m=>cases h
 |cons a l ih=>
  intro m h;cases m with
  |nil=>cases h
  |cons b m=>simp only[Ap,aaf] at h;rw[hf _ _ h.1,ih h.2]
def VX:IntKind->IntKind->Bool
 | .i64,.i64=>true
 |a,b=>decide (a=b)
theorem Tc{a b:IntKind}(h:VX a b=true):a=b:=by
 cases a<;>cases b<;>first
  |rfl
  |(simp[VX] at h)
def VW:Nat->PV->PV->Bool
 |0,_,_=>false
 |_+1,.int k a,.int k' b=>VX k k'&&a==b
 |_+1,.bool a,.bool b=>a==b
 |n+1,.sl a,.sl b=>Ap (Ap (VW n)) a b
 |n+1,.box a,.box b=>Ap (VW n) a b
 |n+1,.fn f a b,.fn g c d=>Nat.beq f g&&(Ap (VW n) a c&&Ap (VW n) b d)
 |_+1,.nils,.nils=>true
 |_+1,.ZX,.ZX=>true
 |_+1,_,_=>false
theorem VV:∀(n:Nat) (x y:PV),VW n x y=true->x=y:=by
 intro n
 induction n with
 |zero=>intro x y h;cases h
 |succ n ih=>
  intro x y h;unfold VW at h;split at h
  .rename_i h0;cases h0
  .rename_i h0;cases h0;simp only[aaf,beq_iff_eq] at h;rw[Tc h.1,h.2]
  .rename_i h0;cases h0;simp only[beq_iff_eq] at h;rw[h]
  .rename_i h0;cases h0;rw[pI (fun _ _ h=>pI ih h) h]
  .rename_i h0;cases h0;rw[pI ih h]
  .rename_i h0;cases h0;simp only[aaf] at h;rw[acd h.1,pI ih h.2.1,pI ih h.2.2]
  .rfl
  .rfl
  cases h
def Td:C->C->Bool
 | .p a,.p b=>VW 12 a b
 |_,_=>false
theorem Kq{a b:C}(h:Td a b=true):a=b:=by
 unfold Td at h;split at h
 .rw[VV _ _ _ h]
 cases h
def S9:V->V->Bool
 | .one a,.one b=>Td a b
 | .agg a,.agg b=>Ap Td a b
 |_,_=>false
theorem S8{a b:V}(h:S9 a b=true):a=b:=by
 unfold S9 at h;split at h
 .rw[Kq h]
 .rw[pI (fun _ _ h=>Kq h) h]
 cases h
abbrev iA:=List (Nat×List V×RV)
def FD:iA->Nat->List V->Option RV
 |[],_,_=>none
 |(f,a,r)::l,g,b=>bif Nat.beq f g&&Ap S9 a b then some r else FD l g b
theorem L5:∀ {l:iA} {f:Nat} {a:List V} {r:RV},FD l f a=some r->(f,a,r)∈l:=by
 intro l
 induction l with
 |nil=>intro f a r h;cases h
 |cons e l ih=>
  obtain⟨g,b,s⟩:=e;intro f a r h;simp only[FD] at h;cases hb:(Nat.beq g f&&Ap S9 b a) with
  |true=>rw[hb] at h;simp only[cond_true,aau] at h;simp only[aaf] at hb;rw[acd hb.1,pI (fun _ _ h=>S8 h) hb.2,h];simp
  |false=>rw[hb] at h;exact abv _ (ih h)
def Sys.yV(S:Sys)(l:iA):Sys:={S with prim:=fun f a=>match FD l f a with
 |some r=>some (some r)
 |none=>S.prim f a}
def cZ(S:Sys)(l:iA):Prop:=∀e∈l,bz S e.1 e.2.1 e.2.2
theorem cZ.nil{S:Sys}:cZ S []:=fun e h=>by simp at h
theorem cZ.cons{S:Sys}{l:iA}{f:Nat}{a:List V}{r:RV}(h:bz S f a r)(hl:cZ S l):cZ S ((f,a,r)::l):=fun e he=>by
 rcases aag.1 he with rfl|he
 .exact h
 exact hl e he
theorem cZ.bound{S:Sys}:∀ {l:iA},cZ S l->∃M,∀e∈l,dC S M e.1 e.2.1=some e.2.2:=by
 intro l
 induction l with
 |nil=>intro _;exact⟨0,fun e h=>by simp at h⟩
 |cons e l ih=>
  intro h;obtain⟨M,hM⟩:=ih fun x hx=>h x (by simp[hx]);obtain⟨n,hn⟩:=h e (by simp);refine⟨max M n,fun x hx=>?_⟩;rcases aag.1 hx with rfl|hx
  .exact kh S (adB M n) _ _ _ hn
  exact kh S (adi M n) _ _ _ (hM x hx)
theorem Sw{S:Sys}{l:iA}{M:Nat}(hM:∀e∈l,dC S M e.1 e.2.1=some e.2.2):∀n,WB (dC (S.yV l) n) (dC S (n+M))/\SLe (dB (S.yV l) n) (dB S (n+M)):=by
 intro n
 induction n with
 |zero=>exact⟨fun f x r h=>by simp[dC] at h,fun f x l k r h=>by simp[dB] at h⟩
 |succ n ih=>
  have e1:n+1+M=(n+M)+1:=by omega
  have hc:∀al,(S.yV l).ctx al=S.ctx al:=fun _=>rfl;refine⟨fun f x r h=>?_,fun f x al k r h=>?_⟩
  .rw[dC] at h;cases hl:FD l f x with
   |some r'=>
    have hp:(S.yV l).prim f x=some (some r'):=by simp only[Sys.yV,hl]
    rw[hp] at h;cases h;exact kh S (by omega) _ _ _ (hM _ (L5 hl))
   |none=>
    have hp:(S.yV l).prim f x=S.prim f x:=by simp only[Sys.yV,hl]
    rw[hp] at h;rw[e1,dC];split at h
    .exact h
    have hfn:(S.yV l).fns f=S.fns f:=rfl;rw[hfn] at h;split at h
    .rename_i fn hf;split at h
     .rename_i hlen;rw[if_pos hlen];rw[hc] at h;exact Bk ih.1 ih.2 (by omega) h
     cases h
    cases h
  rw[dB] at h;rw[e1,dB];have hfn:(S.yV l).fns f=S.fns f:=rfl;rw[hfn] at h;split at h
  .rename_i fn hf;split at h
   .rename_i hlen;rw[if_pos hlen];rw[hc] at h;exact ru ih.1 ih.2 (by omega) h
   cases h
  cases h
theorem cQ{S:Sys}{l:iA}(hl:cZ S l)(n:Nat){f:Nat}{r:RV}(h:tv (S.yV l) n f args=some r):bz S f args r:=by obtain⟨M,hM⟩:=hl.bound;exact⟨n+M,(Sw hM n).1 _ _ _ ((Af (S.yV l) n).1 _ _ _ h)⟩
inductive Fits {H:Type} (N:Nat):DataW H->Prop where
 |str (s:List UInt8) (h:s.length<=N):Fits N (.lit (.string s))
 |lit (l:Lit) (h:∀s,l≠ .string s):Fits N (.lit l)
 |nil:Fits N .nil
 |slice (es sp:List (DataW H)) (h:es.length<=N) (he:∀d∈es,Fits N d):Fits N (.slice es sp)
 |agg (es:List (DataW H)) (he:∀d∈es,Fits N d):Fits N (.agg es)
def iB(P:Program)(N:Nat):Nat->TypeId->List PV->Prop
 |0,_,_=>False
 |n+1,t,ps=>match P.underlying t with
  |some .bool=>∃b,ps=[.bool b]
  |some (.int k)=>∃z,ps=[.int k z]/\(Lit.int k z).wf=true
  |some .string=>∃s:ByteArray,ps=[.str s]/\s.size<=N
  |some (.slice e)=>∃es,ps=[.sl es]/\es.length<=N/\ ∀x∈es,iB P N n e x
  |some (.struct fs)=>∃parts:List (List PV),ps=parts.flatten/\parts.length=fs.toList.length/\ ∀(i:Nat) (f:Field) (x:List PV),fs.toList[i]?=some f->parts[i]?=some x->iB P N n f.type x
  |_=>False
def lZ(P:Program):Nat->Nat->List Field->Bool
 |off,total,[]=>Nat.beq off total
 |off,total,f::r=>Nat.beq f.offset off&&lZ P (off+P.cellsOf f.type) total r
def iF(P:Program):Nat->TypeId->Bool
 |0,_=>false
 |n+1,t=>match P.underlying t with
  |some .bool|some (.int _)|some .string=>true
  |some (.slice e)=>Nat.blt 0 (P.cellsOf e)&&iF P n e
  |some (.struct fs)=>lZ P 0 (P.cellsOf t) fs.toList&&fs.toList.all fun f=>iF P n f.type
  |_=>false
section
variable {H:Type} {enc:TypeId×Value->H} {P:Program} {w:World} {base:Nat} {sp:Nat->Bool} {held:Bool} {N:Nat}
theorem aY.append{w:World}{own:Nat->Prop}{xs ys:List PV}{vs us:List Value}(h:aY w own xs vs)(k:aY w own ys us):aY w own (xs++ys) (vs++us):=Pw.append (R:=bt w own) h k
theorem wP{w:World}{base:Nat}{a:Addr}{n:Nat}{cs:List Value}(h:w.cells? base a n=some cs):cs.length=n/\ ∀i,i<n->a.add i=⟨a.block,a.off+i,none⟩/\w.cell? ⟨a.block,a.off+i,none⟩=cs[i]? :=by
 unfold World.cells? at h;split at h
 .have hl:=mapM_some_length h;simp at hl;refine⟨hl,fun i hi=>?_⟩;have hg:=mapM_some_get h i i (by simp[hi]);have Ye:i<cs.length:=by omega
  have hv:cs[i]?=some cs[i]:=by simp[Ye]
  rw[hv] at hg;have ahA:(a.add i).spot=none:=by
   cases hsp:(a.add i).spot with
   |none=>rfl
   |some s=>
    simp only[World.cell?] at hg;split at hg
    .simp[hsp] at hg
    cases hg
  have e:a.add i=⟨a.block,a.off+i,none⟩:=by
   unfold Addr.add at ahA ⊢;split
   .rename_i h0;subst h0;rw[if_pos rfl] at ahA;cases a
    simp_all
   rfl
  refine⟨e,?_⟩;rw[hv,<- hg,e]
 cases h
theorem Mq{r:TypeId->List Value->Option (DataW H×List MemPlace)}{n:Nat}(ih:∀t cs x,iF P n t=true->r t cs=some x->Fits N x.1->∃pvs,iB P N n t pvs/\aY w (fun _=>False) pvs cs){cs:List Value}{total:Nat}(ht:cs.length=total):
  ∀(fs:List Field) (off:Nat) (xs:List (DataW H×List MemPlace)),lZ P off total fs=true->(∀f∈fs,iF P n f.type=true)->
   fs.mapM (fun f=>r f.type ((cs.drop f.offset).take (P.cellsOf f.type)))=some xs->(∀x∈xs,Fits N x.1)->off<=total->(∀f∈fs,∀c x,r f.type c=some x->∀pvs,iB P N n f.type pvs->aY w (fun _=>False) pvs c->True)->
   ∃parts:List (List PV),parts.length=fs.length/\(∀(i:Nat) (f:Field) (x:List PV),fs[i]?=some f->parts[i]?=some x->iB P N n f.type x)/\(aY w (fun _=>False) parts.flatten (cs.drop off)):=by
 intro fs
 induction fs with
 |nil=>
  intro off xs hc _ _ _ hle _;simp only[lZ] at hc;have:=acd hc;refine⟨[],rfl,fun i f x h=>by simp at h,?_⟩;have:cs.drop off=[]:=by rw[List.drop_eq_nil_iff];omega
  rw[this];exact⟨rfl,fun j x u h=>by simp at h⟩
 |cons f fs ihf=>
  intro off xs hc ho hm hf hle hT;simp only[lZ,aaf] at hc;have aiN:=acd hc.1;rw[List.mapM_cons] at hm;simp only[Option.bind_eq_bind,adZ,Option.pure_def,aau] at hm;obtain⟨x,hx,xs',hxs,rfl⟩:=hm;obtain⟨pvs,p1,p2⟩:=ih _ _ _ (ho f (by simp)) hx (hf x (by simp));have hlen:=p2.1;by_cases ald:off+P.cellsOf f.type<=total
  .obtain⟨parts,q1,q2,q3⟩:=ihf (off+P.cellsOf f.type) xs' hc.2 (fun g hg=>ho g (by simp[hg])) hxs (fun y hy=>hf y (by simp[hy])) ald (fun _ _ _ _ _ _ _ _=>trivial);refine⟨pvs::parts,by simp[q1],fun i g y hi hy=>?_,?_⟩
   .cases i with
    |zero=>simp at hi hy;subst hi hy;exact p1
    |succ i=>exact q2 i g y (by simpa using hi) (by simpa using hy)
   have:cs.drop off=(cs.drop f.offset).take (P.cellsOf f.type)++cs.drop (off+P.cellsOf f.type):=by rw[aiN,<- List.drop_drop];exact(aa2 _ _).symm
   rw[this];simp only[abl];exact aY.append p2 q3
  exfalso;have mono:∀(l:List Field) (o:Nat),lZ P o total l=true->o<=total:=by
   intro l
   induction l with
   |nil=>intro o h;simp only[lZ] at h;have:=acd h;omega
   |cons g l ihl=>intro o h;simp only[lZ,aaf] at h;have:=ihl _ h.2;omega
  exact ald (mono _ _ hc.2)
theorem Lo{sz:Nat}{f:Nat->Value}:∀(es:List (List PV)) (rows:List (List Value)) (k:Nat),rows.length=es.length->(∀(i:Nat) (e:List PV) (v:List Value),es[i]?=some e->rows[i]?=some v->aY w (fun _=>False) e v/\v.length=sz/\ ∀j u,v[j]?=some u->f ((k+i)*sz+j)=u)->
  ∀(j:Nat) (x:PV),es.flatten[j]?=some x->bt w (fun _=>False) x (f (k*sz+j)):=by
 intro es
 induction es with
 |nil=>intro rows k _ _ j x h;simp at h
 |cons e es ih=>
  intro rows k hl h j x hx;cases rows with
  |nil=>simp at hl
  |cons v rows=>
   obtain⟨a1,a2,a3⟩:=h 0 e v rfl rfl;have YJ:e.length=sz:=by rw[<- a2];exact a1.1.symm
   simp only[abl] at hx;by_cases hj:j<e.length
   .rw[acw hj] at hx;have hv:v[j]?=some v[j]:=by simp[show j<v.length by omega]
    have:=a3 j _ hv;simp only[abY] at this;rw[this];exact a1.2 j x _ hx hv
   rw[acz (by omega)] at hx;have:=ih rows (k+1) (by simpa using hl) (fun i e' v' h1 h2=>by have:=h (i+1) e' v' (by simpa using h1) (by simpa using h2);rw[show k+(i+1)=k+1+i by omega] at this;exact this) (j-e.length) x hx
   rw[show k*sz+j=(k+1)*sz+(j-e.length) by rw[aaM];omega];exact this
theorem Re:∀(n fuel:Nat) (t:TypeId) (cs:List Value) (x:DataW H×List MemPlace),iF P n t=true->DataW.trod enc P w base sp held fuel t cs=some x->Fits N x.1->
  ∃pvs,iB P N n t pvs/\aY w (fun _=>False) pvs cs:=by
 intro n
 induction n with
 |zero=>intro fuel t cs x h;simp[iF] at h
 |succ n ih=>
  intro fuel t cs x Yd h hf;cases fuel with
  |zero=>simp[DataW.trod] at h
  |succ fuel=>
   rw[DataW.trod_step] at h;have one:∀ {p:PV} {v:Value},bt w (fun _=>False) p v->aY w (fun _=>False) [p] [v]:=by
    intro p v hp;refine⟨rfl,fun j x u a b=>?_⟩;cases j with
    |zero=>simp at a b;subst a b;exact hp
    |succ j=>simp at a
   unfold DataW.trodStep at h;unfold iF at Yd;split at h
   case h_1 b hu=>exact⟨[.bool b],by simp only[iB,hu];exact⟨b,rfl⟩,one (.bool b)⟩
   case h_2 k k' z hu=>
    split at h
    .rename_i hc;obtain⟨rfl,hwf⟩:=hc;exact⟨[.int k' z],by simp only[iB,hu];exact⟨z,rfl,hwf⟩,one (.int k' z)⟩
    cases h
   case h_4 s hu=>
    split at h
    .cases h;cases hf with
     |str _ hs=>exact⟨[.str s],by simp only[iB,hu];exact⟨s,rfl,by simpa using hs⟩,one (.str s)⟩
     |lit _ hs=>exact(hs _ rfl).elim
    cases h
   case h_7 e hu=>exact⟨[.sl []],by simp only[iB,hu];exact⟨[],rfl,aae _,fun x hx=>by simp at hx⟩,one (.sl0 none 0 (fun _=>rfl) (aae _))⟩
   case h_8 e a len cap hu=>
    rw[hu] at Yd;simp only[aaf] at Yd;obtain⟨YG,hoe⟩:=Yd;have YG:0<P.cellsOf e:=by have:=YG;simp[Nat.blt] at this;omega
    simp only at h;split at h
    .rename_i hc;obtain⟨hb,hlc,hcm⟩:=hc;simp only[aap,adZ] at h;obtain⟨elems,he,rest,akR,rfl⟩:=h;have hlen:elems.length=len:=by simpa using mapM_some_length he
     cases hf with
     |slice _ _ hl hfe=>
     simp only[aah] at hl;have get:∀i,i<len->∃y row pv,elems[i]?=some y/\w.cells? base (a.add (i*P.cellsOf e)) (P.cellsOf e)=some row/\iB P N n e pv/\aY w (fun _=>False) pv row:=by
      intro i hi;have hg:=mapM_some_get he i i (by simp[hi]);have Ye:i<elems.length:=by omega
      rw[abC Ye] at hg;simp only[adZ] at hg;obtain⟨row,h1,h2⟩:=hg;obtain⟨pv,p1,p2⟩:=ih _ _ _ _ hoe h2 (hfe _ (aan.2 ⟨_,List.getElem_mem Ye,rfl⟩));exact⟨_,row,pv,abC Ye,h1,p1,p2⟩
     cases hl0:len with
     |zero=>refine⟨[.sl []],by simp only[iB,hu];exact⟨[],rfl,aae _,fun x hx=>by simp at hx⟩,one (.sl0 (some a) cap (fun h=>by cases h) hcm)⟩
     |succ len'=>
      rw[<- hl0];have h0:0<len:=by omega
      obtain⟨_,row0,_,_,hr0,_,_⟩:=get 0 h0;have ha:a=⟨a.block,a.off,none⟩:=by
       have h1:a.add 0=a:=by unfold Addr.add;rw[if_pos rfl]
       rw[acv,h1] at hr0;have:=((wP hr0).2 0 YG).1;rw[h1] at this;exact this
      have aiD:∀i,i<len->∃row pv,row.length=P.cellsOf e/\(∀j,j<P.cellsOf e->w.cell? ⟨a.block,a.off+(i*P.cellsOf e+j),none⟩=row[j]?)/\iB P N n e pv/\aY w (fun _=>False) pv row:=by
       intro i hi;obtain⟨_,row,pv,_,h1,h2,h3⟩:=get i hi;obtain⟨l1,l2⟩:=wP h1;refine⟨row,pv,l1,fun j hj=>?_,h2,h3⟩;have:=(l2 j hj).2;rw[<- this];have e2:a.add (i*P.cellsOf e)=⟨a.block,a.off+i*P.cellsOf e,none⟩:=by
        rw[ha];unfold Addr.add;split
        .rename_i h9;rw[h9];rfl
        rfl
       rw[e2];simp[adk]
      let row:Nat->List Value:=fun i=>if h:i<len then (aiD i h).choose else []
      let pv:Nat->List PV:=fun i=>if h:i<len then (aiD i h).choose_spec.choose else []
      have ab7:∀i,i<len->(row i).length=P.cellsOf e/\(∀j,j<P.cellsOf e->w.cell? ⟨a.block,a.off+(i*P.cellsOf e+j),none⟩=(row i)[j]?)/\iB P N n e (pv i)/\aY w (fun _=>False) (pv i) (row i):=by intro i hi;simp only[row,pv,dif_pos hi];exact(aiD i hi).choose_spec.choose_spec
      let es:=(List.range len).map pv
      have ag1:es.length=len:=by simp[es]
      have abJ:∀(i:Nat) (x:List PV),es[i]?=some x->i<len/\x=pv i:=by
       intro i x hx;have hi:i<len:=by rw[<- ag1];exact(aac.1 hx).1
       refine⟨hi,?_⟩;simp only[es,aaz,abw hi,abf,aau] at hx;exact hx.symm
      let f:Nat->Value:=fun j=>(w.cell? ⟨a.block,a.off+j,none⟩).getD undef
      refine⟨[.sl es],?_,one ?_⟩
      .simp only[iB,hu];refine⟨es,rfl,by omega,fun x hx=>?_⟩;obtain⟨i,hi⟩:=aaO hx;obtain⟨h1,rfl⟩:=abJ i x hi;exact(ab7 i h1).2.2.1
      rw[ha];have Yv:∀x∈es,x.length=P.cellsOf e:=by intro x hx;obtain⟨i,hi⟩:=aaO hx;obtain⟨h1,rfl⟩:=abJ i x hi;have:=(ab7 i h1).2.2.2.1;rw[<- this];exact(ab7 i h1).1
      have Yr:=Lo (w:=w) (sz:=P.cellsOf e) (f:=f) es ((List.range len).map row) 0 (by simp[ag1]) (fun i x v h1 h2=>by
       obtain⟨hi,rfl⟩:=abJ i x h1;simp only[aaz,abw hi,abf,aau] at h2;subst h2;obtain⟨s1,s2,s3,s4⟩:=ab7 i hi;refine⟨s4,s1,fun j u hu=>?_⟩;have hj:j<P.cellsOf e:=by rw[<- s1];exact(aac.1 hu).1
       simp only[f,aa0];rw[s2 j hj,hu];rfl)
      simp only[acv,aa0] at Yr;have hfl:∀(l:List (List PV)),(∀x∈l,x.length=P.cellsOf e)->l.flatten.length=l.length*P.cellsOf e:=by
       intro l
       induction l with
       |nil=>intro _;simp
       |cons x l ihl=>intro hx;simp only[abl,aaF,aas];rw[hx x (by simp),ihl (fun y hy=>hx y (by simp[hy])),aaM];omega
      refine ag1▸bt.sl a.block a.off cap (P.cellsOf e) f (fun _ h=>h) (by omega) hcm Yv (fun j x hx=>?_) Yr;have hj:j<len*P.cellsOf e:=by have:=(aac.1 hx).1;rw[hfl es Yv,ag1] at this;exact this
      have hi:j/P.cellsOf e<len:=Nat.div_lt_of_lt_mul (by rw[Nat.mul_comm];exact hj);obtain⟨s1,s2,s3,s4⟩:=ab7 _ hi;have hm:j%P.cellsOf e<P.cellsOf e:=aat _ YG;have:=s2 _ hm;rw[show j/P.cellsOf e*P.cellsOf e+j%P.cellsOf e=j by rw[Nat.mul_comm];exact Nat.div_add_mod j _] at this;have aeo:(row (j/P.cellsOf e))[j%P.cellsOf e]?=some (row (j/P.cellsOf e))[j%P.cellsOf e]:=by simp[s1,hm]
      rw[aeo] at this;simp only[f,this,aaS]
    cases h
   case h_9=>
    rename_i fs hu;rw[hu] at Yd;simp only[aaf] at Yd;split at h
    .rename_i hc;simp only[aap] at h;obtain⟨xs,hx,rfl⟩:=h;cases hf with
     |agg _ hfe=>
     obtain⟨parts,p1,p2,p3⟩:=Mq (r:=DataW.trod enc P w base sp held fuel) (n:=n) (fun t cs x h1 h2 h3=>ih _ _ _ _ h1 h2 h3) hc fs.toList 0 xs Yd.1 (fun f hf=>aaP.1 Yd.2 f hf) hx (fun y hy=>hfe _ (aan.2 ⟨y,hy,rfl⟩)) (aae _) (fun _ _ _ _ _ _ _ _=>trivial);refine⟨parts.flatten,by simp only[iB,hu];exact⟨parts,rfl,p1,p2⟩,?_⟩
     simpa using p3
    cases h
   all_goals(first|(cases h;done)|(simp_all;done)|(exfalso;simp_all;done))
end
end
end Go.Abs
namespace Go.Abs
variable {H:Type} {enc:TypeId×Value->H} {P:Program} {w:World} {N:Nat}
theorem Gt:∀(fs:List Field) (off total:Nat),lZ P off total fs=true->total=off+(fs.map fun f=>P.cellsOf f.type).sum/\ ∀(j:Nat) (f:Field),fs[j]?=some f->f.offset=off+((fs.take j).map fun f=>P.cellsOf f.type).sum:=by
 intro fs
 induction fs with
 |nil=>intro off total h;simp only[lZ] at h;have:=acd h;exact⟨by simp;omega,fun j f h=>by simp at h⟩
 |cons f fs ih=>
  intro off total h;simp only[lZ,aaf] at h;have h0:=acd h.1;obtain⟨i1,i2⟩:=ih _ _ h.2;refine⟨by simp;omega,fun j g hg=>?_⟩;cases j with
  |zero=>simp at hg;subst hg;simp;omega
  |succ j=>have:=i2 j g (by simpa using hg);simp only[List.take_succ_cons,aar,List.sum_cons];omega
theorem SI:Kids P (fun t=>∃n,iF P n t=true):=by
 have un:∀ {t:TypeId},(∃n,iF P n t=true)->∃n,iF P (n+1) t=true:=by
  rintro t ⟨n,h⟩
  cases n with
  |zero=>simp[iF] at h
  |succ n=>exact⟨n,h⟩
 refine⟨fun ht hu=>?_,fun ht hu=>?_,fun ht hu=>?_,fun ht hu=>?_,fun ht hu=>?_⟩
 .obtain⟨n,h⟩:=un ht;simp[iF,hu] at h
 .obtain⟨n,h⟩:=un ht;simp only[iF,hu,aaf] at h;exact⟨n,h.2⟩
 .obtain⟨n,h⟩:=un ht;simp[iF,hu] at h
 .obtain⟨n,h⟩:=un ht;simp only[iF,hu,aaf] at h;obtain⟨c1,c2⟩:=Gt _ _ _ h.1;refine⟨fun f hf=>⟨n,aaP.1 h.2 f hf⟩,by rw[c1];simp,fun j f hj=>by rw[c2 j f hj];simp⟩
 obtain⟨n,h⟩:=un ht;simp[iF,hu] at h
theorem Hj{w':World}{sp':Nat->Bool}{t:TypeId}{v:Value}{d:DataW H}{ps:List MemPlace}(hk:∃n,iF P n t=true)(h:DataW.Trod enc P w 0 (fun _=>true) true t v d ps)
  (Z5:∀p∈ps,w.sameAt w' p) (hs:∀p∈ps,sp' p.block=true):DataW.Trod enc P w' 0 sp' true t v d ps:=by
 obtain⟨fuel,h⟩:=h;refine⟨fuel,DataW.trod_stays (T:=fun t=>∃n,iF P n t=true) SI ?_ (fun h=>by cases h) hk h Z5 hs⟩;rintro t e ⟨n,h⟩ hu
 cases n with
 |zero=>simp[iF] at h
 |succ n=>simp only[iF,hu,aaf] at h;have:=h.1;simp[Nat.blt] at this;omega
theorem AO{w':World}{sp':Nat->Bool}:∀ {ts:List TypeId} {vs:List Value} {ds:List (DataW H)} {ps:List MemPlace},(∀t∈ts,∃n,iF P n t=true)->DataW.TrodAll enc P w 0 (fun _=>true) true ts vs ds ps->
  (∀p∈ps,w.sameAt w' p)->(∀p∈ps,sp' p.block=true)->DataW.TrodAll enc P w' 0 sp' true ts vs ds ps:=by
 intro ts
 induction ts with
 |nil=>intro vs ds ps _ h _ _;cases vs<;>cases ds<;>exact h
 |cons t ts ih=>
  intro vs ds ps hk h ZF Zd;cases vs with
  |nil=>exact h.elim
  |cons v vs=>
   cases ds with
   |nil=>exact h.elim
   |cons d ds=>obtain⟨p,q,h1,h2,rfl⟩:=h;exact⟨p,q,Hj (hk t (by simp)) h1 (fun x hx=>ZF x (by simp[hx])) (fun x hx=>Zd x (by simp[hx])),ih (fun t ht=>hk t (by simp[ht])) h2 (fun x hx=>ZF x (by simp[hx])) (fun x hx=>Zd x (by simp[hx])),rfl⟩
def DZ(P:Program)(t:TypeId)(ps:List PV):V:=
 match P.underlying t with
 |some (.struct _)=>.agg (ps.map .p)
 |_=>match ps with
  |[x]=>.one (.p x)
  |_=>.undef
theorem Wc{r:Reach}{b0 n:Nat}{sp:Nat->Bool}{held:Bool}{t:TypeId}{v:Value}{d:DataW H}{ps:List MemPlace}(hk:iF P n t=true)(hval:Value.okWide P w r b0 t v)(h:DataW.Trod enc P w 0 sp held t v d ps)(hf:Fits N d):
  ∃pvs,iB P N n t pvs/\kS w (fun _=>False) (DZ P t pvs) v:=by
 obtain⟨fuel,h⟩:=h;obtain⟨pvs,h1,h2⟩:=Re n fuel t _ _ hk h hf;refine⟨pvs,h1,?_⟩;cases n with
 |zero=>simp[iF] at hk
 |succ n=>
  have one:∀x:PV,pvs=[x]->(∀cs,v≠ .agg cs)->bt w (fun _=>False) x v:=by
   rintro x rfl Yk
   have:v.cells.toList=[v]:=by
    cases v<;>first
     |rfl
     |exact(Yk _ rfl).elim
   rw[this] at h2;exact h2.2 0 x v rfl rfl
  have nagg:∀ {k:TypeDesc},P.underlying t=some k->(∀fs,k≠ .struct fs)->(∀a b,k≠ .array a b)->∀cs,v≠ .agg cs:=by
   rintro k hu Yw hk2 cs rfl
   unfold Value.okWide at hval;rw[hu] at hval;cases k<;>simp_all[Cell.okWide,Cell.ok]
  simp only[iB] at h1;unfold DZ;cases hu:P.underlying t with
  |none=>rw[hu] at h1;exact h1.elim
  |some k=>
   rw[hu] at h1;cases k<;>simp only at h1<;>try exact h1.elim
   case bool=>obtain⟨b,rfl⟩:=h1;exact one _ rfl (nagg hu (by simp) (by simp))
   case int k=>obtain⟨b,rfl,_⟩:=h1;exact one _ rfl (nagg hu (by simp) (by simp))
   case string=>obtain⟨b,rfl,_⟩:=h1;exact one _ rfl (nagg hu (by simp) (by simp))
   case slice e=>obtain⟨es,rfl,_⟩:=h1;exact one _ rfl (nagg hu (by simp) (by simp))
   case struct fs=>unfold Value.okWide at hval;rw[hu] at hval;simp only at hval;obtain⟨cs,rfl,Yv,_⟩:=hval;exact⟨cs,pvs,rfl,rfl,h2⟩
def Eg(P:Program)(N n:Nat):List TypeId->List (List PV)->Prop
 |[],[]=>True
 |t::ts,p::ps=>iB P N n t p/\Eg P N n ts ps
 |_,_=>False
def uN(P:Program):List TypeId->List (List PV)->List V
 |t::ts,p::ps=>DZ P t p::uN P ts ps
 |_,_=>[]
theorem Ty{r:Reach}{b0 n:Nat}{sp:Nat->Bool}{held:Bool}:∀ {ts:List TypeId} {vs:List Value} {ds:List (DataW H)} {ps:List MemPlace},(∀t∈ts,iF P n t=true)->(∀(j:Nat) t v,ts[j]?=some t->vs[j]?=some v->Value.okWide P w r b0 t v)->
  DataW.TrodAll enc P w 0 sp held ts vs ds ps->(∀d∈ds,Fits N d)->∃pvss,Eg P N n ts pvss/\Pw (kS w (fun _=>False)) (uN P ts pvss) vs:=by
 intro ts
 induction ts with
 |nil=>
  intro vs ds ps _ _ h _;cases vs with
  |nil=>exact⟨[],trivial,rfl,fun j x u h=>by simp[uN] at h⟩
  |cons v vs=>cases ds<;>exact h.elim
 |cons t ts ih=>
  intro vs ds ps hk hv h hf;cases vs with
  |nil=>exact h.elim
  |cons v vs=>
   cases ds with
   |nil=>exact h.elim
   |cons d ds=>
    obtain⟨p,q,h1,h2,rfl⟩:=h;obtain⟨x,a1,a2⟩:=Wc (hk t (by simp)) (hv 0 t v rfl rfl) h1 (hf d (by simp));obtain⟨xs,b1,b2,b3⟩:=ih (fun t ht=>hk t (by simp[ht])) (fun j t v e1 e2=>hv (j+1) t v (by simpa using e1) (by simpa using e2)) h2 (fun d hd=>hf d (by simp[hd]));refine⟨x::xs,⟨a1,b1⟩,by simpa [uN] using b2,fun j y u e1 e2=>?_⟩;cases j with
    |zero=>simp[uN] at e1 e2;subst e1 e2;exact a2
    |succ j=>exact b3 j y u (by simpa [uN] using e1) (by simpa using e2)
end Go.Abs
namespace Go.Abs
open Go.RowKit
theorem fX.Sm(w:World)(k:Nat)(os:Array Obj):fX w (Go.Sort.grow (w.drewN k) os):=
 ⟨rfl,rfl,rfl,by simp[Go.Sort.grow,World.drewN],fun c hc=>by simp[Go.Sort.grow,World.drewN,Array.getElem?_append,hc]⟩
theorem Da{w w':World}{O:Nat->Prop}{x:PV}{v:Value}(hg:fX w w')(h:bt w' O x v):vO w O (.one (.p x)) (.returned v) w':=
 ⟨v,[],rfl,hg,abr,fun c hc=>by simp at hc,[v],rfl,v,[],rfl,h.mono fun c _ hn=>⟨rfl,fun hq=>hn (hq.elim id fun h=>by simp at h)⟩,rfl,rfl⟩
theorem pw1{w:World}{O:Nat->Prop}{x:PV}{args:Array Value}(h:Pw (kS w O) [.one (.p x)] args.toList):∃v,args= #[v]/\bt w O x v:=by
 obtain⟨h1,h2⟩:=h;obtain⟨l⟩:=args
 match l,h1 with
 |[v],_=>exact⟨v,rfl,h2 0 _ v rfl rfl⟩
theorem PW{w:World}{O:Nat->Prop}{v:Value}(h:bt w O (.sl []) v):∃a cap,v=.slice a 0 cap/\(a=none->cap=0)/\cap<=maxLen:=by
 generalize hx:PV.sl []=x at h;cases h<;>cases hx
 .exact⟨_,_,rfl,by assumption,by assumption⟩
 exact⟨_,_,rfl,fun h=>by simp at h,by assumption⟩
theorem Fx{w:World}{O:Nat->Prop}{a:Option Addr}{cap:Nat}(h:a=none->cap=0)(hm:cap<=maxLen):bt w O (.sl []) (.slice a 0 cap):=.sl0 a cap h hm
def MD:Nat->Nat->List UInt8->List UInt8
 |0,_,acc=>acc
 |k+1,u,acc=>bif Nat.blt u 10 then UInt8.ofNat (Nat.add 48 u)::acc else MD k (Nat.div u 10) (UInt8.ofNat (Nat.add 48 (Nat.mod u 10))::acc)
theorem Kx:∀(k u:Nat) (acc:List UInt8),u<10 ^ (k+1)->MD (k+1) u acc=Lib.decDigits u++acc:=by
 intro k
 induction k with
 |zero=>
  intro u acc h;have h:u<10:=by simpa using h
  unfold Lib.decDigits;have hb:Nat.blt u 10=true:=Nat.ble_eq_true_of_le h;simp only[MD,hb,cond_true,dif_pos h];rfl
 |succ k ih=>
  intro u acc h;rw[Lib.decDigits,MD];by_cases h0:u<10
  .have hb:Nat.blt u 10=true:=Nat.ble_eq_true_of_le h0;simp only[hb,cond_true,dif_pos h0];rfl
  have hb:Nat.blt u 10=false:=by
   cases e:Nat.blt u 10 with
   |false=>rfl
   |true=>exact(h0 (aaU e)).elim
  simp only[hb,cond_false,dif_neg h0];have:(Nat.div u 10)<10 ^ (k+1):=by have e:Nat.div u 10=u/10:=rfl;rw[e];have:10 ^ (k+1+1)=10 ^ (k+1)*10:=Nat.pow_succ ..;omega
  rw[ih _ _ this];simp only[abx,List.singleton_append];rfl
def Pb(n:Int):ByteArray:=⟨(match n with| .ofNat u=>MD 20 u []| .negSucc u=>45::MD 20 (Nat.succ u) []).toArray⟩
theorem Pa(n:Int)(h0: -9223372036854775808<=n)(h1:n<=9223372036854775807):Pb n=⟨(Lib.itoa n).toArray⟩:=by
 unfold Pb Lib.itoa;cases n with
 |ofNat u=>
  have:¬(Int.ofNat u<0):=by simp
  rw[if_neg this];simp only;rw[Kx 19 u [] (by simp at h1;omega)];simp
 |negSucc u=>have:Int.negSucc u<0:=Int.negSucc_lt_zero u;rw[if_pos this];simp only;rw[Kx 19 (Nat.succ u) [] (by omega)];simp[Int.natAbs]
def yE(args:List V):Option RV:=
 match args with
 |[.one (.p (.int .i64 n))]=>if -9223372036854775808<=n/\n<=9223372036854775807 then some (.one (.p (.str (Pb n)))) else none
 |_=>none
theorem Fb{P:Program}{f:Nat}{nm:String}{G:World->Prop}{args:List V}{r:RV}(hG:∀w,G w->Lib.TabIs P w nm .u64 Lib.pow10Tab)
  (hf:∀(n:Int),-9223372036854775808<=n->n<=9223372036854775807->∀w:World,Lib.TabIs P w nm .u64 Lib.pow10Tab->Calls P f #[.int .i64 n] w fun e w'=>e=.returned (.string ⟨(Lib.itoa n).toArray⟩)/\ ∃k os,w'=Go.Sort.grow (w.drewN k) os)
  (h:yE args=some r):∀(w:World) (O:Nat->Prop) (as:Array Value),Good G w->Pw (kS w O) args as.toList->Calls P f as w (vO w O r):=by
 intro w O as hg ha;unfold yE at h;split at h
 .rename_i n;split at h
  .rename_i hr;cases h;obtain⟨v,rfl,hp⟩:=pw1 ha;generalize hx:PV.int .i64 n=x at hp;cases hp<;>cases hx
   refine(hf n hr.1 hr.2 w (hG w hg.1)).mono ?_;rintro e w' ⟨rfl,k,os,rfl⟩
   rw[Pa n hr.1 hr.2];exact Da (fX.Sm _ _ _) (.str _)
  cases h
 cases h
def qx(args:List V):Option RV:=
 match args with
 |[.one (.p (.int .u64 n))]=>if 0<=n/\n<=18446744073709551615 then some (.one (.p (.int .i64 (Lib.bitLen n.toNat)))) else none
 |_=>none
theorem Fd{P:Program}{f:Nat}{args:List V}{r:RV}(hf:∀(x:Int) (w:World),0<=x->x<=18446744073709551615->Calls P f #[.int .u64 x] w fun e w'=>e=.returned (.int .i64 (Lib.bitLen x.toNat))/\w'=w)
  (h:qx args=some r):∀(w:World) (O:Nat->Prop) (as:Array Value),Pw (kS w O) args as.toList->Calls P f as w (vO w O r):=by
 intro w O as ha;unfold qx at h;split at h
 .rename_i n;split at h
  .rename_i hr;cases h;obtain⟨v,rfl,hp⟩:=pw1 ha;generalize hx:PV.int .u64 n=x at hp;cases hp<;>cases hx
   refine(hf n w hr.1 hr.2).mono ?_;rintro e w' ⟨rfl,rfl⟩
   exact Da (fX.refl _) (.int _ _)
  cases h
 cases h
def rz(args:List V):Option (Option RV):=
 match args with
 |[.one (.p (.sl []))]=>some (some (.one (.p (.sl []))))
 |_=>none
theorem C0{S:Sys}{G:World->Prop}(hS:Cu S G){f n:Nat}{z i g z':Nat}{fn:dD}{Ya:aE}(hfn:S.fns f=some fn)(h1:dC S n f [.one (.p .nils)]=some (.one (.p .nils)))
  (h2:dB S n f [.one (.hsl 0 0 z 0 0)] .all qD=some (.one (.hsl i g z' 0 0),Ya)) {args:List V} {r:RV} (h:rz args=some (some r)):
  ∀(w:World) (O:Nat->Prop) (as:Array Value),Good G w->(∀c,O c->c<w.heap.size)->Pw (kS w O) args as.toList->Calls S.P f as w (vO w O r):=by
 intro w O as hg hO ha;unfold rz at h;split at h
 .cases h;obtain⟨v,rfl,hp⟩:=pw1 ha;obtain⟨a,cap,rfl,hn,hm⟩:=PW hp;cases a with
  |none=>
   obtain rfl:=hn rfl;refine((sound hS n).1 f _ _ h1 |>.2 w O #[.slice none 0 0] hg hO ⟨rfl,fun j x u p q=>?_⟩).mono ?_
   .cases j with
    |zero=>simp at p q;subst p q;exact bt.nils
    |succ j=>simp at p
   rintro e w' ⟨val,bs,rfl,hgr,Zx,hbs,vs,q1,q2⟩
   obtain⟨v0,vs',e1,e2,e3,e4⟩:=q2;have hq1:vs=[val]:=q1;subst hq1;cases e1;subst e4;cases e2;exact Da hgr (Fx (fun _=>rfl) (aae _))
  |some a=>
   let m0:Mem:=⟨w,qD,fun _=>0,fun _=>0,O⟩
   have Yd:Ok w m0:=⟨rfl,rfl,rfl,aad _,fun _ _=>rfl,(fun id o h=>by cases h),(fun id o h=>by cases h),hO,(fun id Zb o o' h=>by cases h)⟩;refine(((sound hS n).2.1 f _ _ _ _ _ h2).2 w m0 #[.slice (some a) 0 cap] hg Yd rfl ⟨rfl,fun j x u p q=>?_⟩).mono ?_
   .cases j with
    |zero=>simp at p q;subst p q;exact cE.hsl a cap (aae _) (aae _) hm (fun sz _ h=>by cases h)
    |succ j=>simp at p
   rintro e w' ⟨val,m',rfl,rfl,q1,q2,q3,q4,q5⟩
   have hq:cE m' (.hsl i g z' 0 0) val:=q5;cases hq with
   |hsl a2 cap2 _ _ hm2 _=>
    refine Da ⟨q2.os,q2.tape,q2.output,q2.size,fun c hc=>q2.keep c hc ?_⟩ (Fx (fun h=>by cases h) hm2);rintro ⟨id,o,h,_⟩
    cases h
 cases h
end Go.Abs
namespace Go.Abs
open Go.RowKit Go.WideShapes Go.ChangeShapes
section
variable {H:Type} {enc:TypeId×Value->H} {P:Program} {w:World} {base:Nat} {sp:Nat->Bool} {held:Bool}
theorem KX:∀(n fuel:Nat) (t:TypeId) (cs:List Value) (x:DataW H×List MemPlace),iF P n t=true->DataW.trod enc P w base sp held fuel t cs=some x->Fits maxLen x.1:=by
 intro n
 induction n with
 |zero=>intro fuel t cs x h;simp[iF] at h
 |succ n ih=>
  intro fuel t cs x Yd h;cases fuel with
  |zero=>simp[DataW.trod] at h
  |succ fuel=>
   rw[DataW.trod_step] at h;unfold DataW.trodStep at h;unfold iF at Yd;split at h
   case h_1=>cases h;exact .lit _ (fun s h=>by cases h)
   case h_2=>
    split at h
    .cases h;exact .lit _ (fun s h=>by cases h)
    cases h
   case h_4=>
    split at h
    .rename_i hs;cases h;exact .str _ (by simpa using hs)
    cases h
   case h_7=>cases h;exact .nil
   case h_8 e a len cap hu=>
    rw[hu] at Yd;simp only[aaf] at Yd;simp only at h;split at h
    .rename_i hc;simp only[aap,adZ] at h;obtain⟨elems,he,rest,akR,rfl⟩:=h;have hlen:elems.length=len:=by simpa using mapM_some_length he
     refine .slice _ _ (by simp;omega) (fun d hd=>?_);obtain⟨y,hy,rfl⟩:=aan.1 hd;obtain⟨i,_,hi⟩:=mapM_mem_of he y hy;simp only[adZ] at hi;obtain⟨row,_,h2⟩:=hi;exact ih _ _ _ _ Yd.2 h2
    cases h
   case h_9=>
    rename_i fs hu;rw[hu] at Yd;simp only[aaf] at Yd;split at h
    .simp only[aap] at h;obtain⟨xs,hx,rfl⟩:=h;refine .agg _ (fun d hd=>?_);obtain⟨y,hy,rfl⟩:=aan.1 hd;obtain⟨f,hf,hi⟩:=mapM_mem_of hx y hy;exact ih _ _ _ _ (aaP.1 Yd.2 f hf) hi
    cases h
   all_goals(first|(cases h;done)|(simp_all;done)|(exfalso;simp_all;done))
theorem tN{n:Nat}:∀ {ts:List TypeId} {vs:List Value} {ds:List (DataW H)} {ps:List MemPlace},(∀t∈ts,iF P n t=true)->DataW.TrodAll enc P w base sp held ts vs ds ps->(∀d∈ds,Fits maxLen d)/\ds.length=ts.length:=by
 intro ts
 induction ts with
 |nil=>
  intro vs ds ps _ h;cases vs<;>cases ds<;>first
   |exact h.elim
   |exact⟨fun d hd=>by simp at hd,rfl⟩
 |cons t ts ih=>
  intro vs ds ps hk h;cases vs with
  |nil=>exact h.elim
  |cons v vs=>
   cases ds with
   |nil=>exact h.elim
   |cons d ds=>
    obtain⟨p,q,⟨fuel,h1⟩,h2,rfl⟩:=h;obtain⟨i1,i2⟩:=ih (fun t ht=>hk t (by simp[ht])) h2;refine⟨fun x hx=>?_,by simp[i2]⟩;rcases aag.1 hx with rfl|hx
    .exact KX n fuel t _ _ (hk t (by simp)) h1
    exact i1 x hx
end
section
variable {H:Type} {enc:TypeId×Value->H} {P:Program}
theorem AT{f:Func}{s:ChangeSpec}{apart fresh handsOn again:Bool}{W W':World}{args:Array Value}{v:Value}{ds gs:List (DataW H)}{before pa pv:List MemPlace}
  (hW:DataW.Whole enc P f.params.toList s.vars apart W args.toList ds gs before)
  (Yy:∀(b:Nat) (sp:Nat->Bool) (hd:Bool),DataW.TrodAll enc P W' b sp hd f.resultTypes.toList (v.resultList f.resultTypes.size) (s.fn H (ds++gs)).results [])
  (aam:∀sp:Nat->Bool,(∀p∈before,sp p.block=true)->DataW.TrodAll enc P W' 0 sp true f.params.toList args.toList (s.fn H (ds++gs)).args pa)
  (ab6:∀sp:Nat->Bool,(∀p∈before,sp p.block=true)->DataW.TrodVars enc P W' sp s.vars (s.fn H (ds++gs)).vars pv)
  (YK:before=pa++pv) (hb:Below W.heap.size W W')
  (Yd:∀(j:Nat) (t:TypeId) (r:Value),f.resultTypes[j]?=some t->(v.resultList f.resultTypes.size)[j]?=some r->Value.okWide P W' .any 0 t r):
  s.post enc P f apart fresh handsOn again W args v W':=by
 have Ye:∀p∈before,p.block<W.heap.size:=fun p hp=>hW.lt p hp;have hold:∀p∈before,(fun b=>decide (b<W.heap.size)) p.block=true:=fun p hp=>by simpa using Ye p hp
 refine⟨ds,gs,before,[],pa,pv,hW,Yy _ _ _,aam _ hold,ab6 _ hold,World.keptBut_mono (fun p hp=>⟨hp,?_⟩) (hb.frame (· ∈before)),fun _=>?_⟩
 .rw[YK,aaw] at hp;exact Or.inr hp
 obtain⟨_,_,_,_,_,hz,hn⟩:=hW;refine⟨Yd,_,_,([]++pa)++pv,⟨[]++pa,pv,trodAll_append (aam _ (fun _ _=>rfl)) (Yy _ _ _),ab6 _ (fun _ _=>rfl),rfl,?_,?_⟩,?_⟩
 .intro b off hp;have hin:MemPlace.cell b off∈before:=by rw[YK];simpa using hp
  rw[hb.frozen (Ye _ hin)];exact hz b off hin
 .intro ha;have:=hn ha;rw[YK] at this
  simpa using this
 intro p hp _;rw[YK]
 simpa using hp
end
theorem gQ{P:Program}{N n:Nat}{t:TypeId}{k:IntKind}{p:List PV}(hu:P.underlying t=some (.int k))(h:iB P N (n+1) t p):∃z,p=[.int k z]/\(Lit.int k z).wf=true:=by simp only[iB,hu] at h;exact h
theorem vj{P:Program}{N n:Nat}{t:TypeId}{p:List PV}(hu:P.underlying t=some .bool)(h:iB P N (n+1) t p):∃b,p=[.bool b]:=by simp only[iB,hu] at h;exact h
theorem zh{P:Program}{N n:Nat}{t e:TypeId}{p:List PV}(hu:P.underlying t=some (.slice e))(h:iB P N (n+1) t p):∃es,p=[.sl es]/\es.length<=N/\ ∀x∈es,iB P N n e x:=by simp only[iB,hu] at h;exact h
theorem QA{P:Program}{t:TypeId}{k:TypeDesc}{x:PV}(hu:P.underlying t=some k)(hk:∀fs,k≠ .struct fs):DZ P t [x]=.one (.p x):=by
 unfold DZ;rw[hu];cases k<;>first
  |rfl
  |exact(hk _ rfl).elim
theorem GP{P:Program}{t:TypeId}{fs:Array Field}{x:List PV}(hu:P.underlying t=some (.struct fs)):DZ P t x=.agg (x.map .p):=by unfold DZ;rw[hu]
theorem Dq{S:Sys}{G:World->Prop}(hS:Cu S G)(acg:∀w,G w->Good G w){fn:Func}{s:ChangeSpec}{f n N:Nat}{handsOn again fresh apart:Bool}(ab6:s.vars=[])
  (hfn:∀(H:Type) (ds:List (DataW H)),ds.length=fn.params.toList.length->s.fn H ds={results:=[.lit (.bool true)],args:=ds}) {tb:TypeId} (Yy:fn.resultTypes= #[tb]) (htb:S.P.underlying tb=some .bool)
  (hk:∀t∈fn.params.toList,iF S.P n t=true) (law:∀pvss,Eg S.P N n fn.params.toList pvss->bz S f (uN S.P fn.params.toList pvss) (.one (.p (.bool true))))
  {H:Type} {enc:TypeId×Value->H} {W:World} {base:Nat} {args:Array Value} {ds gs:List (DataW H)} {before:List MemPlace}
  (hval:∀(j:Nat) t v,fn.params[j]?=some t->args[j]?=some v->Value.okWide S.P W .any base t v)
  (hW:DataW.Whole enc S.P fn.params.toList s.vars apart W args.toList ds gs before) (hG:G W) (hfit:∀d∈ds,Fits N d):
  Calls S.P f args W fun e W'=>∃v,e=.returned v/\s.post enc S.P fn apart fresh handsOn again W args v W':=by
 have hW':=hW;obtain⟨p,q,hA,hV,rfl,hfz,Zx⟩:=hW;rw[ab6] at hV;obtain⟨rfl,rfl⟩:=trodVars_none hV;obtain⟨_,hlen⟩:=tN hk hA;obtain⟨pvss,h1,h2⟩:=Ty (r:=.any) (b0:=base) hk (fun j t v a b=>hval j t v (by simpa using a) (by simpa using b)) hA hfit;refine((law pvss h1).calls hS W (acg W hG) args h2).mono ?_;rintro e W' ⟨val,bs,rfl,hg,_,_,vs,q1,q2⟩
 obtain⟨v0,vs',e1,e2,e3,e4⟩:=q2;have hq1:vs=[val]:=q1;subst hq1;cases e1;have hv:val=.bool true:=by
  generalize hx:PV.bool true=x at e2;cases e2<;>cases hx
  rfl
 subst hv;have hb:Below W.heap.size W W':=⟨hg.os,hg.tape,hg.output,hg.size,hg.keep⟩;have Ye:∀x∈p++[],x.block<W.heap.size:=fun x hx=>hW'.lt x hx;refine⟨_,rfl,AT (pa:=p) (pv:=[]) hW' ?_ ?_ ?_ rfl hb ?_⟩
 .intro b sp hd;rw[abo,hfn H ds hlen,Yy];exact trodAll_cons_mk (shut_bool htb _) trodAll_mk0
 .intro sp' hsp;rw[abo,hfn H ds hlen];exact AO (fun t ht=>⟨n,hk t ht⟩) hA (fun x hx=>hb.same (Ye x (by simpa using hx))) (fun x hx=>hsp x (by simpa using hx))
 .intro sp' hsp;rw[abo,hfn H ds hlen,ab6];rfl
 exact ok_one Yy rfl (okWide_bool_mk htb _)
end Go.Abs
namespace Go.Abs
theorem E6(env:Env)(t:Nat)(v:V):put env (some t) v=ij env t v:=rfl
theorem Fa(env:Env)(v:V):put env none v=env:=rfl
theorem XF(env:Env)(n:Nat):ev env (.t n)=env n:=rfl
theorem XH(env:Env)(n:Int):ev env (.i n)=.one (.p (.int .i64 n)):=rfl
theorem XI(env:Env)(x:Bool):ev env (.b x)=.one (.p (.bool x)):=rfl
theorem XG(env:Env)(v:V):ev env (.k v)=v:=rfl
theorem BX(a:V)(l:List V):pW (a::l) 0=a:=rfl
theorem BY(a:V)(l:List V)(n:Nat):pW (a::l) (n+1)=pW l n:=rfl
def vT(v:V)(want:Bool):Option Bool:=match v with
 | .one (.p (.bool b))=>some (b==want)
 | .undef=>some false
 |_=>none
theorem xR(b want:Bool):vT (.one (.p (.bool b))) want=some (b==want):=rfl
theorem vS(want:Bool):vT .undef want=some false:=rfl
section
variable {S:Sys} {al:Al} {o:aj} {env:Env} {X9:aE} {tr:List eF} {K:Env->aE->List eF->Prop} {d:Option Nat}
theorem sI{id:Nat}{Q:dO}:fQ id Q .normal env X9=Q .normal env X9:=rfl
theorem Ah{id:Nat}{Q:dO}:fQ id Q .ret env X9=Q .ret env X9:=rfl
theorem wR{id i:Nat}{Q:dO}:fQ id Q (.exit i) env X9=if i=id then Q .normal env X9 else Q (.exit i) env X9:=rfl
end
def WN (S:Sys)(al:Al)(ops:List aj)(Q:Env->aE->Prop)(env:Env)(X9:aE):Prop:=∀tr,WO S al ops (fun env X9 _=>Q env X9) env X9 tr
def Mk(S:Sys)(al:Al)(p:eS)(d:Option Nat)(env:Env)(X9:aE)(K:Env->aE->Prop):Prop:=
 match p with
 | .fail=>False
 | .done v u r=>al.mX (r++u.map (·.1))=true/\K (put env d v) (app u X9)
 | .pc f vs r s=>∃x,bz S f vs x/\match land X9 r s (x.bZ (S.lone s)) with
  |some (v,u)=>al.mX (r++u.map (·.1))=true/\K (put env d v) (app u X9)
  |none=>False
 | .sc f vs=>al.holds (allow (S.ctx al) f vs X9)=true/\ ∃v Ya,vN S f vs (allow (S.ctx al) f vs X9) X9 v Ya/\K (put env d v) Ya
def ST(S:Sys)(al:Al)(w:Option Bool)(o:aj)(env:Env)(X9:aE)(K:Env->aE->Prop):Prop:=
 match w with
 |none=>False
 |some false=>K (put env o.dst .undef) X9
 |some true=>Mk S al (aR S.shared env X9 o.op) o.dst env X9 K
section
variable {S:Sys} {al:Al} {env:Env} {X9:aE}
theorem Wo{ops:List aj}{R R':Env->aE->Prop}{tr tr':List eF}(h:WO S al ops (fun env X9 _=>R env X9) env X9 tr)(hR:∀e b,R e b->R' e b):WO S al ops (fun env X9 _=>R' env X9) env X9 tr':=by obtain⟨n,e,b,es,h1,h2⟩:=h;exact⟨n,e,b,es,h1,hR _ _ h2⟩
theorem I7{ops:List aj}{Q:dO}:W S al (.region false ops) Q env X9↔WN S al ops (fun env X9=>Q .normal env X9) env X9:=by
 rw[uO];constructor
 .intro h tr;obtain⟨n,e,b,es,h1,_,h2⟩:=h;exact⟨n,e,b,es,h1,h2⟩
 intro h;obtain⟨n,e,b,es,h1,h2⟩:=h [];exact⟨n,e,b,es,h1,(fun h=>by cases h),h2⟩
theorem I9{R:Env->aE->Prop}:WN S al [] R env X9↔R env X9:=⟨fun h=>tE.1 (h []),fun h _=>tE.2 h⟩
theorem FX{o:aj}{os:List aj}{R:Env->aE->Prop}{w:Option Bool}(tr:List eF):UA S al w o env X9 tr (WO S al os fun e b _=>R e b)↔ST S al w o env X9 (WN S al os R):=by
 have k:∀ {e:Env} {b:aE} {t:List eF},WO S al os (fun e b _=>R e b) e b t↔WN S al os R e b:=fun {e b t}=>⟨fun h t'=>Wo h fun _ _ h=>h,fun h=>h t⟩;cases w with
 |none=>exact Iff.rfl
 |some w=>
  cases w with
  |false=>exact k (t:=tr++[⟨[],[],[]⟩])
  |true=>
   simp only[UA,ST];cases aR S.shared env X9 o.op with
   |fail=>exact Iff.rfl
   |done v u r=>simp only[VK,Mk,k]
   |pc f vs r s=>
    simp only[VK,Mk];refine exists_congr fun x=>and_congr Iff.rfl ?_;cases land X9 r s (x.bZ (S.lone s)) with
    |none=>exact Iff.rfl
    |some y=>simp only[k]
   |sc f vs=>simp only[VK,Mk,k]
theorem wT{o:aj}{os:List aj}{R:Env->aE->Prop}:WN S al (o::os) R env X9↔ST S al (wanted env o.guard) o env X9 (WN S al os R):=by
 constructor
 .intro h;exact(FX []).1 (mF.1 (h []))
 intro h tr;exact mF.2 ((FX tr).2 h)
variable {o:aj} {K:Env->aE->Prop} {d:Option Nat}
end
theorem bft:(false==true)=false:=rfl
theorem btf:(true==false)=false:=rfl
theorem bff:(false==false)=true:=rfl
theorem btt:(true==true)=true:=rfl
theorem OD{X9:aE}{x:PV}:iE X9 (.one (.p x))=some (.one (.p x)):=rfl
theorem norm_int(k:IntKind)(n:Int):(PV.int k n).norm=.int k n:=rfl
theorem BD(b:Bool):(PV.bool b).norm=.bool b:=rfl
theorem Fu(s:ByteArray):(PV.str s).norm=.str s:=rfl
theorem Bz:PV.nils.norm=.sl []:=rfl
theorem JI(es:List (List PV)):(PV.sl es).norm=.sl es:=rfl
theorem yR(es:List PV):(PV.box es).norm=.box es:=rfl
theorem JK(f:Nat)(a b:List PV):(PV.fn f a b).norm=.fn f a b:=rfl
theorem BA:PV.ZX.norm=.ZX:=rfl
theorem BC:PV.YF.norm=.YF:=rfl
theorem BB:PV.Zt.norm=.Zt:=rfl
theorem JJ(a:Bool)(e:List (PV×List PV)):(PV.mp a e).norm=.mp a e:=rfl
theorem yl{X9:aE}:mK X9 []=some ([],[]):=rfl
def yn(x:Option (V×List Nat))(y:Option (List V×List Nat)):Option (List V×List Nat):=match x,y with
 |some (b,x),some (bs,y)=>some (b::bs,x++y)
 |_,_=>none
theorem v6{X9:aE}{x:V}{xs:List V}:mK X9 (x::xs)=yn (gI X9 x) (mK X9 xs):=by simp only[mK,yn,collect];cases gI X9 x<;>cases collect (gI X9) xs<;>rfl
theorem sx{b:V}{x:List Nat}{bs:List V}{y:List Nat}:yn (some (b,x)) (some (bs,y))=some (b::bs,x++y):=rfl
theorem Ju{X9:aE}{x:PV}:gI X9 (.one (.p x))=some (.one (.p x.norm),[]):=rfl
end Go.Abs
