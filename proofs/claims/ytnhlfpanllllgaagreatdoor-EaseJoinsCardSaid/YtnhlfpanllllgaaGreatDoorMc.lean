/-
  Each operation of the abstract machine is what the program does; the machine is sound in any order that a region draws; a quick evaluator; library functions.
-/
import Derived.Test.YtnhlfpanllllgaaGreatDoorMa
import Derived.Laws.BytesString
import Derived.LoopN
import Derived.Scope
import Derived.Orders
import Derived.ChangeReads
import Derived.ChangeStays
import Derived.DataReads
import Derived.Below
import Derived.Sort.Grow
import Derived.Deep.Draws
import Derived.Lib.ItoaNum
import Derived.Lib.Join
import Derived.Lib.BitFns
import Derived.Lib.LaidTab
import Derived.ChangeSame
import Derived.ProofKit
import Derived.OpenShut
set_option linter.all false
open List renaming length->I
namespace Go.Abs
variable{y:w_}{clock g kd f sz site nt:Nat}{m:bR}{x:V}{kv qv val:Value}{x' k' y':fu}{z:b_}{ag held handsOn again:Bool}{D:qM}{A B T:Array Value}{u:lA}{M ys:dN}{R:bn->aB->Prop}{E JW sp:Nat->Bool}{w':World}{Q Q' O:Nat->Prop}{h us:List Value}{X j gK:bn}{F bY bJ b2 Iu b'':aB}{Y:kS}{Z:Array Oper}{before:List MemPlace}
variable {P:Program} {w0:World}
section
variable{ag:Bool}
def Uy(w:World)(own:Nat->Prop)(ag:Bool)(y:w_)(E:Array MapEntry):Prop:=E.size=I y/\ ∀(i:Nat) (q:PV) (v:b_) (e:MapEntry),y[i]?=some (q,v)->E[i]?=some e->dq w own q e.key/\ ∃g:Array Value,(ag->e.val=.agg g)/\(ag=false-> #[e.val]=g)/\eI w own v g.toList
theorem Qw{w:World}{r:Nat}{y:Array MapEntry}(h:w.heap[r]?=some (.map y clock)):(getObj r).run P w=.ok (.map y clock) w:=by simp[getObj,Sem.run,h]
theorem ahN{w:World}{r:Nat}{y:Array MapEntry}{O:Obj}(H:w.heap[r]?=some (.map y clock)):(setObj r O).run P w=.ok () {w with heap:=w.heap.setIfInBounds r O}:=by simp[setObj,Sem.run,H]
theorem amd{w:World}{own:Nat->Prop}{v:Value}(h:dq w own (.mp ag y) v):
  ∃r E clock,v=.map (some r)/\w.heap[r]?=some (.map E clock)/\Uy w own ag y E:=by
 cases h with
 |mp r E clock g B z hl A m hr=>
  refine⟨r,E,clock,rfl,z,hl,λi q v e H f=>⟨A i q v e H f,g i,(m i q v e H f).2.1,(m i q v e H f).2.2,?_,λj x u a b=>?_⟩⟩
  .simpa using(m i q v e H f).1
  exact hr i q v j x u H a (by simpa using b)
theorem Qy(aA:eo w0 m){id:Nat}{v:Value}(h:dm m (.one (.mS id g)) v)(H:m.aj id=(g,some (.map ag y))\/m.aj id=(g,some (.fmap ag y))):
  ∃r E clock,v=.map (some r)/\r=m.σ id/\m.w.heap[r]?=some (.map E clock)/\Uy m.w m.own ag y E:=by
 have h:dX m (.mS id g) v:=h;cases h with
 |mS r x hr=>
  rcases H with H|H
  .obtain⟨E,clock,j,f,u⟩:=aA.obj id _ (congrArg Prod.snd H);have:=hr (by rw[H]) (by rw[H];rfl);subst this;exact⟨_,E,clock,rfl,rfl,j,f,u⟩
  obtain⟨E,clock,j,f,u,_⟩:=aA.obj id _ (congrArg Prod.snd H);have:=hr (by rw[H]) (by rw[H];rfl);subst this;exact⟨_,E,clock,rfl,rfl,j,f,u⟩
theorem aCl(aA:eo w0 m){v:Value}{r:aG}(h:ni m.aj ag x=some (y,r))(u:dm m x v):
  ∃E:Array MapEntry,((v=.map none/\E= #[])\/ ∃ref clock,v=.map (some ref)/\m.w.heap[ref]?=some (.map E clock))/\Uy m.w m.own ag y E:=by
 unfold ni at h;split at h
 .cases h;exact⟨#[],.inl ⟨ap2 u,rfl⟩,rfl,λi q v e h=>by simp at h⟩
 .rename_i B N;split at h
  .rename_i e;subst e;cases h;obtain⟨hp⟩:dX m _ v:=u;obtain⟨r,E,clock,j,H,f⟩:=amd hp;exact⟨E,.inr ⟨r,clock,j,H⟩,f⟩
  cases h
 .rename_i id g;split at h
  .rename_i D B N z;split at h
   .rename_i A;obtain⟨rfl,rfl⟩:=A;cases h;obtain⟨r,E,clock,j,_,H,f⟩:=Qy aA u (.inl z);exact⟨E,.inr ⟨r,clock,j,H⟩,f⟩
   cases h
  .rename_i D B N z;split at h
   .rename_i A;obtain⟨rfl,rfl⟩:=A;cases h;obtain⟨r,E,clock,j,_,H,f⟩:=Qy aA u (.inr z);exact⟨E,.inr ⟨r,clock,j,H⟩,f⟩
   cases h
  cases h
 cases h
theorem aq2(aA:eo w0 m){v:Value}{n:Nat}{r:aG}(h:AT m.aj x=some (n,r))(u:dm m x v):
  (v=.map none/\n=0)\/ ∃ref E clock,v=.map (some ref)/\m.w.heap[ref]?=some (.map E clock)/\E.size=n:=by
 unfold AT at h;split at h
 .cases h;exact .inl ⟨ap2 u,rfl⟩
 .cases h;obtain⟨hp⟩:dX m _ v:=u;obtain⟨r,E,clock,j,H,f⟩:=amd hp;exact .inr ⟨r,E,clock,j,H,f.1⟩
 .rename_i id g;split at h
  .rename_i B A N y;split at h
   .rename_i z;subst z;cases h;obtain⟨r,E,clock,j,_,H,f⟩:=Qy aA u (.inl y);exact .inr ⟨r,E,clock,j,H,f.1⟩
   cases h
  .rename_i B A N y;split at h
   .rename_i z;subst z;cases h;obtain⟨r,E,clock,j,_,H,f⟩:=Qy aA u (.inr y);exact .inr ⟨r,E,clock,j,H,f.1⟩
   cases h
  cases h
 cases h
def E2(kind:TypeDesc)(kd:Nat):Prop:=(kd=0/\ ∃k,kind=.int k)\/(kd=1/\kind=.string)\/(kd=2/\kind=.bool)
theorem anZ{t:TypeId}(h:keyOf P t=some kd):∃kind,P.underlying t=some kind/\E2 kind kd:=by
 unfold keyOf at h;split at h
 .rename_i k H;cases h;exact⟨_,H,.inl ⟨rfl,_,rfl⟩⟩
 .rename_i H;cases h;exact⟨_,H,.inr (.inl ⟨rfl,rfl⟩)⟩
 .rename_i H;cases h;exact⟨_,H,.inr (.inr ⟨rfl,rfl⟩)⟩
 cases h
theorem abX{w:World}{own:Nat->Prop}{k q:PV}{kind:TypeDesc}{b:Bool}(f:E2 kind (j4 k))(h:Dq k q=some b)(g:dq w own k kv)(H:dq w own q qv):Instr.sameNow kind kv qv=some b:=by
 unfold Dq at h;split at h
 .rename_i a L c d;split at h
  .rename_i e;subst e;cases h;rcases f with⟨_,x,rfl⟩|⟨e,_⟩|⟨e,_⟩
   .cases g;cases H;simp[Instr.sameNow]
   .simp[j4]at e
   simp[j4]at e
  cases h
 .cases h;rcases f with⟨e,_⟩|⟨_,rfl⟩|⟨e,_⟩
  .simp[j4]at e
  .cases g;cases H;simp[Instr.sameNow]
  simp[j4]at e
 .cases h;rcases f with⟨e,_⟩|⟨e,_⟩|⟨_,rfl⟩
  .simp[j4]at e
  .simp[j4]at e
  cases g;cases H;simp[Instr.sameNow]
 cases h
theorem aBT{w:World}{own:Nat->Prop}{k q:PV}(h:Dq k q=some true)(f:dq w own k kv)(H:dq w own q qv):qv=kv:=by
 unfold Dq at h;split at h
 .split at h
  .rename_i e;subst e;simp at h;subst h;cases f;cases H;rfl
  cases h
 .rename_i a b;have e:(a==b):=by simpa using h
  rw[beq_toListBytes]at e;have e:a=b:=by
   have e:a.toList=b.toList:=by simpa using e
   rw[ByteArray.toList_eq,ByteArray.toList_eq]at e;exact ByteArray.ext (Array.toList_inj.1 e)
  subst e;cases f;cases H;rfl
 .simp at h;subst h;cases f;cases H;rfl
 cases h
theorem agb{w:World}{own:Nat->Prop}{k:PV}{kind:TypeDesc}(H:E2 kind (j4 k))(g:dq w own k kv):∀ {y:w_}{l:List MapEntry}{i:Nat}{f:Option (Nat×b_)},
  I l=I y->(∀(j:Nat) (q:PV) (v:b_) (e:MapEntry),y[j]?=some (q,v)->l[j]?=some e->dq w own q e.key)->sZ k y i=some f->
  (f=none/\Instr.findNow kind kv l i=some none)\/ ∃j q v e,f=some (i+j,v)/\y[j]?=some (q,v)/\l[j]?=some e/\Dq k q=some true/\Instr.findNow kind kv l i=some (some (i+j,e.val)):=by
 intro y
 induction y with
 |nil=>
  intro l i f hl _ h;simp[sZ]at h;cases l with
  |nil=>exact .inl ⟨h.symm,rfl⟩
  |cons _ _=>simp at hl
 |cons p r x=>
  intro l i f hl m h;obtain⟨a,v⟩:=p;cases l with
  |nil=>simp at hl
  |cons e l=>
   have R:=m 0 a v e rfl rfl;simp only[sZ]at h;split at h
   .rename_i hs;cases h;exact .inr ⟨0,a,v,e,rfl,rfl,rfl,hs,by simp[Instr.findNow,abX H hs g R]⟩
   .rename_i hs;rcases x (l:=l) (i:=i+1) (f:=f) (by simpa using hl) (λj q v e a b=>m (j+1) q v e (by simpa using a) (by simpa using b)) h with⟨e1,e2⟩|⟨j,q,u,e',e1,e2,E,e4,e5⟩
    .exact .inl ⟨e1,by simp[Instr.findNow,abX H hs g R,e2]⟩
    refine .inr ⟨j+1,q,u,e',by rw[e1];congr 2;omega,by simpa using e2,by simpa using E,e4,?_⟩;simp only[Instr.findNow,abX H hs g R,e5];congr 3;omega
   cases h
theorem awO{t:TypeId}{kind:TypeDesc}{b:Bool}{v:Value}(w:World)(h:P.underlying t=some kind)(H:E2 kind kd)(n:Nat):(Instr.checkKey b (n+1) t v).run P w=.ok () w:=by rcases H with⟨_,k,rfl⟩|⟨_,rfl⟩|⟨_,rfl⟩<;>simp[Instr.checkKey,run_underlying h]
theorem MP{t:TypeId}{kind:TypeDesc}{b:Bool}{v:Value}(w:World)(h:P.underlying t=some kind)(H:E2 kind kd):(Instr.checkKey b 10000 t v).run P w=.ok () w:=awO w h H 9999
theorem at6{w:World}{own:Nat->Prop}{k:PV}{kind:TypeDesc}(H:E2 kind (j4 k))(h:dq w own k kv)(n:Nat):Instr.sameBits n kv kv:=by
 cases h<;>first
  |(simp[j4,E2]at H;done)
  |(simp[Instr.sameBits];done)
  |(simp[Instr.sameBits,beq_toListBytes];done)
theorem atP{w0 w:World}{own:Nat->Prop}{k:PV}{kind:TypeDesc}(H:E2 kind (j4 k))(h:dq w0 own k kv):(Instr.keyThatStays kv kv).run P w=.ok kv w:=by rw[Instr.keyThatStays,at6 H h,aH rfl];rfl
theorem RD{t:TypeId}{kind:TypeDesc}{v:Value}{l:List MapEntry}{r:Option (Nat×Value)}(w:World)(h:P.underlying t=some kind)(H:Instr.findNow kind v l 0=some r):(Instr.findKey t v l).run P w=.ok r w:=by simp[Instr.findKey,run_underlying h,H]
theorem apP{v:b_}{g:Array Value}(h:mW ag v=some x)(f:ag->val=.agg g)(H:ag=false-> #[val]=g)(hp:eI m.w m.own v g.toList):dm m x val/\qB m x val:=by
 cases ag with
 |true=>simp only[mW,iL]at h;subst h;exact⟨dm.agg.2 ⟨g,f rfl,hp.Gp⟩,⟨g,f rfl,hp.Gp⟩⟩
 |false=>
  have H:=H rfl;subst H;cases v with
  |nil=>simp[mW]at h
  |cons c r=>
   cases r with
   |nil=>simp only[mW,iL]at h;subst h;have:=hp.2 0 c val rfl rfl;exact⟨pD this,dX.p this⟩
   |cons _ _=>simp[mW]at h
section
variable {m:bR} {j:bn} {a:Act} {o:Oper} (aA:eo w0 m) (hr:kK m j a.tmps)
include aA
theorem aAk{t f e:TypeId}{s:Nat}(H:o.op=.makeMap t none):
  iF P w0 a.eval o m (.one (.mS s ((m.aj s).1+1))) [(s,((m.aj s).1+1,some (.map ag [])))]:=by
 refine⟨.map (some m.w.heap.size),m.fresh (.map #[] 0) s 0 (.map ag []),.inl ?_,ag1 aA _ s 0 _ ⟨#[],0,amC _ s 0 _,rfl,λi q v e h=>by simp at h⟩,Ud _ s 0 _,abg aA _ s 0 _,aes _ _ s 0 _,dm.one.2 (.mS _ ?_ λ_ _=>?_)⟩
 .simp[execOp,H,Instr.makeMap];rfl
 .simp[bR.fresh,bR.install,bR.later,aT]
 simp[bR.fresh,bR.install,aT]
include hr
theorem aCu{c:Call}{x:Operand}{t k e:TypeId}{n:Nat}{r:aG}(f:o.op=.call c)(y:c.callee=.builtin .len)(h:c.args= #[x])(g:c.argTypes[0]?=some t)(u:P.underlying t=some (.map k e))
  (A:dy x=some x') (B:AT m.aj (ev j x')=some (n,r)):iF P w0 a.eval o m (.one (.p (.int .i64 n))) []:=by
 refine .calm aA ?_ (pD (.int _ _));have D:(#[a.eval x]:Array Value)[0]?=some (a.eval x):=rfl;rcases aq2 aA B (gb A hr)with⟨H,rfl⟩|⟨ref,E,clock,H,z,rfl⟩
 .simp[execOp,f,resolve,y,h,g,invoke,builtin,Builtin.len_,run_underlying u,H,goInt]
 simp[execOp,f,resolve,y,h,g,invoke,builtin,Builtin.len_,run_underlying u,H,goInt,Qw z]
theorem ax3{t kt e:TypeId}{x k:Operand}{ok:Bool}{q:eh}{r:aG}{key:PV}{f:Option (Nat×b_)}{w:V}(ho:o.op=.lookup t x k ok)(O:P.underlying t=some (.map kt e))
  (hz:wv P e=some z) (DY:keyOf P kt=some kd) (B:RH P e=q.isSome) (hx:dy x=some x') (hk:dy k=some k') (hm:ni m.aj q.isSome (ev j x')=some (y,r)) (Cu:ev j k'=.one (.p key)) (wI:j4 key=kd)
  (hf:sZ key y 0=some f) (hw:mW q.isSome ((f.map (·.2)).getD z)=some w):iF P w0 a.eval o m (if ok then .tup [w,.one (.p (.bool f.isSome))]else w) []:=by
 obtain⟨kind,D,N⟩:=anZ DY;obtain⟨E,TO,hl,fm⟩:=aCl aA hm (gb hx hr);have PE:=gb hk hr;rw[Cu]at PE;obtain⟨dD⟩:dX m _ _:=PE;have mQ:(∃ref clock,a.eval x=.map (some ref)/\m.w.heap[ref]?=some (.map E clock))\/a.eval x=.map none/\E= #[]:=by
  rcases TO with h|h
  .exact .inr h
  exact .inl h
 have key:∀(val:Value) (b:Bool),dm m w val->qB m w val->f.isSome=b->(Instr.lookup t (a.eval x) (a.eval k) ok).run P m.w=.ok (if ok then .tuple #[val,.bool b]else val) m.w->iF P w0 a.eval o m (if ok then .tup [w,.one (.p (.bool f.isSome))]else w) []:=by
  intro val b A lL H F;refine .calm aA (x:=if ok then .tuple #[val,.bool b]else val) ?_ ?_
  .simp[execOp,ho,F]
  cases ok
  .exact A
  refine⟨_,rfl,rfl,λab ad u p q=>?_⟩;rcases ab with _|_|ab
  .simp at p q;subst p q;exact lL
  .simp at p q;subst p q;rw[H];exact dX.p (.bool _)
  simp at p
 rcases agb (kind:=kind) (by rw[wI];exact N) dD (l:=E.toList) (by simpa using hl) (λab q v e A H=>(fm ab q v e A (by simpa using H)).1) hf with⟨rfl,Y⟩|⟨ab,q',v,e',rfl,H,F,_,Y⟩
 .obtain⟨Z,i,L,M,Jq,pW,dT⟩:=OA hz;obtain⟨R,X⟩:=apP (m:=m) (val:=Z) (g:=Z.cells) hw (λQ=>by
    rw[Q]at B;unfold RH at B;rw[L]at B;simp only[M]at B;cases Z<;>simp[Value.cells]at B |-) (λQ=>by
    rw[Q]at B;unfold RH at B;rw[L]at B;simp only[M]at B;cases Z<;>simp[Value.cells]at B |-) (dT m.w m.own)
  refine key Z false R X rfl ?_;have Hm:=RD (P:=P) m.w D Y;rcases mQ with⟨ref,clock,A,H⟩|⟨A,H⟩
  .cases ok<;>simp[Instr.lookup,run_underlying O,A,Qw H,MP m.w D N,Hm,zeroValue,typeInfo,L,M]
  subst H;cases ok<;>simp[Instr.lookup,run_underlying O,A,MP m.w D N,Instr.findKey,run_underlying D,Instr.findNow,zeroValue,typeInfo,L,M]
 obtain⟨ac,g,Cn,T,dT⟩:=fm ab q' v e' H (by simpa using F);obtain⟨R,X⟩:=apP hw Cn T dT;refine key e'.val true R X rfl ?_;have Hm:=RD (P:=P) m.w D Y;rcases mQ with⟨ref,clock,A,H⟩|⟨A,H⟩
 .cases ok<;>simp[Instr.lookup,run_underlying O,A,Qw H,MP m.w D N,Hm]
 subst H;simp at F
theorem afv{t kt e:TypeId}{x k an:Operand}{ag:Bool}{id:Nat}{key:PV}{D:eG}{ps:b_}{f:Option (Nat×b_)}(B:o.op=.mapUpdate t x k an\/o.op=.insert t x k an)(ht:P.underlying t=some (.map kt e))
  (DY:keyOf P kt=some kd) (hx:dy x=some x') (hk:dy k=some k') (hy:dy an=some y') (hm:ev j x'=.one (.mS id g)) (hb:m.aj id=(g,some (.map ag y))) (Cu:ev j k'=.one (.p key)) (wI:j4 key=kd)
  (dK:zd ag (ev j y')=some D) (dT:Dv D=some ps) (hf:sZ key y 0=some f):
  iF P w0 a.eval o m .undef [(id,(g,some (.map ag (match f with|some (i,_)=>y.set i (key,ps)|none=>y++[(key,ps)]))))]:=by
 obtain⟨kind,Cv,FR⟩:=anZ DY;have T:=gb hx hr;rw[hm]at T;have R:=congrArg Prod.snd hb;have hg:=congrArg Prod.fst hb;obtain⟨ref,E,clock,Eh,bh,Y,hl,fm⟩:=Qy aA T (.inl hb);subst bh;have PE:=gb hk hr;rw[Cu]at PE;obtain⟨Q⟩:dX m _ _:=PE;have M:=gb hy hr
 have X:∃N:Array Value,(ag->a.eval an=.agg N)/\(ag=false-> #[a.eval an]=N)/\eI m.w m.own ps N.toList:=by
  generalize ev j y'=vy at dK M;cases ag with
  |true=>
   cases vy<;>simp[zd]at dK
   subst dK;obtain⟨arr,H,z⟩:=dm.agg.1 M;exact⟨arr,λ_=>H,λh=>(by cases h),MR dT z⟩
  |false=>
   cases vy<;>simp[zd]at dK
   subst dK;refine⟨#[a.eval an],λh=>(by cases h),λ_=>rfl,MR dT ⟨rfl,λad x u p q=>?_⟩⟩;rcases ad with _|ad
   .simp at p q;subst p q;exact M
   simp at p
 obtain⟨N,Ba,tu,ac⟩:=X;have aq:=yE Y;have O:∀(F:Array MapEntry) (L:Nat) (Z:w_),(execOp a.eval o).run P m.w=.ok .skip {m.w with heap:=m.w.heap.setIfInBounds (m.σ id) (.map F L)}->Uy m.w m.own ag Z F->
   iF P w0 a.eval o m .undef [(id,(g,some (.map ag Z)))]:=by
  intro F L Z sF TO;have hs:(m.w.heap.setIfInBounds (m.σ id) (.map F L)).size=m.w.heap.size:=aQ;have ab:∀c,c≠m.σ id->(m.w.heap.setIfInBounds (m.σ id) (.map F L))[c]?=m.w.heap[c]? :=λc hc=>by rw[OB];rw[aw (λe=>hc e.symm)]
  have eB:g_ m (m.mh {m.w with heap:=m.w.heap.setIfInBounds (m.σ id) (.map F L)} id (.map ag Z)):=NL R rfl rfl rfl rfl rfl hs ab;refine⟨_,m.mh {m.w with heap:=m.w.heap.setIfInBounds (m.σ id) (.map F L)} id (.map ag Z),.inr ⟨sF,rfl⟩,VR R rfl aA rfl rfl rfl rfl hs ab ?_,eB,rfl,?_,rfl⟩
  .refine⟨F,L,?_,TO.1,λi q v e H z=>?_⟩
   .show(m.w.heap.setIfInBounds (m.σ id) (.map F L))[m.σ id]?=_;rw[OB,aH rfl,aH aq]
   obtain⟨p1,gg,p2,p3,p4⟩:=TO.2 i q v e H z;exact⟨p1.ev eB.zero,gg,p2,p3,p4.ev eB.zero⟩
  simp only[bR.mh,app,hg]
 rcases agb (kind:=kind) (by rw[wI];exact FR) Q (l:=E.toList) (by simpa using hl) (λad q v e H z=>(fm ad q v e H (by simpa using z)).1) hf with⟨rfl,hn⟩|⟨ad,q',v,e',rfl,z,h3,h4,hn⟩
 .refine O (E.push {key:=a.eval k,val:=a.eval an,born:=clock}) (clock+1) _ ?_ ?_
  .have Hm:=RD (P:=P) m.w Cv hn;rcases B with B|B<;>simp[execOp,B,Instr.mapUpdate,run_underlying ht,Eh,Qw Y,MP m.w Cv FR,Hm,ahN Y]
  refine⟨by simp[hl],λi q v e H z=>?_⟩;by_cases hi:i<I y
  .rw[xv hi]at H;rw[Pj,aw J]at z;exact fm i q v e H z
  rw[vI J]at H;have:i=I y:=by
   by_cases h:i-I y=0
   .omega
   have:=(cD.1 H).1;simp at this;omega
  subst this;simp at H;obtain⟨rfl,rfl⟩:=H;rw[Pj,aH hl.symm]at z;cases z;exact⟨Q,N,Ba,tu,ac⟩
 have tX:E[ad]?=some e':=by simpa using h3
 have ap:e'.key=a.eval k:=aBT h4 Q (fm ad q' v e' z tX).1;refine O (E.modify ad λe=>{e with key:=a.eval k,val:=a.eval an}) clock _ ?_ ?_
 .have Hm:=RD (P:=P) m.w Cv hn;rw[kA]at Hm;have LV:(Instr.keyThatStays e'.key (a.eval k)).run P m.w=.ok (a.eval k) m.w:=by rw[ap];exact atP (kind:=kind) (by rw[wI];exact FR) Q
  rcases B with B|B<;>simp[execOp,B,Instr.mapUpdate,run_underlying ht,Eh,Qw Y,MP m.w Cv FR,Hm,ahN Y,tX,LV]
 simp only[kA];refine⟨by simp[hl],λi q v e H z=>?_⟩;rw[mA]at H;rw[Array.getElem?_modify]at z;by_cases fE:ad=i
 .subst fE;rw[aH rfl]at H;split at H
  .cases H;simp[tX]at z;subst z;exact⟨Q,N,Ba,tu,ac⟩
  cases H
 rw[aw fE]at H;rw[aw fE]at z;exact fm i q v e H z
end
end
theorem alB{t:TypeId}{b:Bool}(h:UW P t=some b):(b/\ ∃k,P.underlying t=some (.int k))\/(b=false/\P.underlying t=some .bool):=by
 unfold UW at h;split at h
 .rename_i k H;cases h;exact .inl ⟨rfl,_,H⟩
 .rename_i H;cases h;exact .inr ⟨rfl,H⟩
 cases h
theorem ayx{a b:PV}{r:Bool}(h:uF true a b=some r):∃k x y,a=.int k x/\b=.int k y/\r=(x==y):=by
 cases a<;>cases b<;>simp[uF]at h
 exact⟨_,_,_,rfl,by rw[h.1],h.2.symm⟩
theorem awY{a b:PV}{r:Bool}(h:uF false a b=some r):∃x y,a=.bool x/\b=.bool y/\r=(x==y):=by
 cases a<;>cases b<;>simp[uF]at h
 exact⟨_,_,rfl,rfl,h.symm⟩
theorem aCe{as bs:eG}{r:Bool}(h:vD [] as bs=some r):r:=by
 cases as<;>cases bs<;>simp[vD]at h
 exact h
theorem aBe{k:Bool}{f:eH}{as bs:eG}{r:Bool}(h:vD (k::f) as bs=some r):
  ∃a A b B r0,as=.p a::A/\bs=.p b::B/\uF k a b=some r0/\(r0->vD f A B=some r)/\(r0=false->r=false):=by
 cases as with
 |nil=>simp[vD]at h
 |cons x A=>
  cases bs with
  |nil=>cases x<;>simp[vD]at h
  |cons y B=>
   cases x<;>cases y<;>simp only[vD]at h<;>try cases h
   rename_i a b;cases H:uF k a b with
   |none=>simp[H]at h
   |some r0=>
    refine⟨a,A,b,B,r0,rfl,rfl,H,λe=>?_,λe=>?_⟩
    .subst e;simpa [H]using h
    subst e;simp[H]at h;exact h
theorem aGd{w:World}(d:Nat):∀ {fs:List Field}{z:eH}{k:Nat}{as bs:eG}{r:Bool},Jx P k fs=some z->vD z as bs=some r->
  (∀(j:Nat) (x:c6),as[j]?=some x->∃v,A[k+j]?=some v/\dX m x v)->(∀(j:Nat) (x:c6),bs[j]?=some x->∃v,B[k+j]?=some v/\dX m x v)->
  (Op.eqFields (d+1) A B fs).run P w=.ok r w:=by
 intro fs
 induction fs with
 |nil=>intro z k as bs r h L _ _;simp[Jx]at h;subst h;rw[aCe L];simp[Op.eqFields,Sem.run_pure]
 |cons f fs ih=>
  intro z k as bs r h L Z N;simp only[Jx]at h;split at h
  .rename_i b zn O h2;split at h
   .rename_i hc;obtain⟨L5,F⟩:=hc;cases h;obtain⟨x,ar,y,br,r0,rfl,rfl,M,ht,h⟩:=aBe L;obtain⟨Q,u,Y⟩:=Z 0 (.p x) rfl;obtain⟨fT,g,R⟩:=N 0 (.p y) rfl;obtain⟨Y⟩:=Y;obtain⟨R⟩:=R;rw[vX]at u g;have T:∀(X:Array Value) (v:Value),X[k]?=some v->(part f.type X f.offset).run P w=.ok v w:=by
     intro X v hX;have AY:(isAgg f.type).run P w=.ok false w:=by rcases alB O with⟨_,kk,H⟩|⟨_,H⟩<;>simp[isAgg,run_underlying H]
     rw[L5];simp[part,AY,hX]
    have D:(Op.equalIn (d+1) f.type Q fT).run P w=.ok r0 w:=by
     rcases alB O with⟨rfl,kk,H⟩|⟨rfl,H⟩
     .obtain⟨k',p,q,rfl,rfl,rfl⟩:=ayx M;cases Y;cases R;simp[Op.equalIn,run_underlying H]
     obtain⟨p,q,rfl,rfl,rfl⟩:=awY M;cases Y;cases R;simp[Op.equalIn,run_underlying H]
    simp only[Op.eqFields,aH F,Sem.run_bind,T A Q u,T B fT g,D,Result.andThen_ok];cases r0 with
    |false=>rw[h rfl];simp[Sem.run_pure]
    |true=>simp only[zl,eX,if_false];exact ih h2 (ht rfl) (λj x E=>by have:=Z (j+1) x (by simpa using E);rwa[show k+(j+1)=k+1+j by omega]at this) (λj x E=>by have:=N (j+1) x (by simpa using E);rwa[show k+(j+1)=k+1+j by omega]at this)
   cases h
  cases h
def D8:xN->Value->Bool->Prop
 | .ptr,v,b=>∃a,v=.pointer a/\a.isNone=b
 | .slc,v,b=>∃a l c,v=.slice a l c/\a.isNone=b
 | .map,v,b=>∃r,v=.map r/\r.isNone=b
 | .fnc,v,b=>(v=.nilFunc/\b)\/ ∃f x y,v=.func f x y/\b=false
 | .ifc,v,b=>(v=.nilIface/\b)\/ ∃d x,v=.iface d x/\b=false
 |_,_,_=>False
theorem zG{k:xN}{v:Value}{b:Bool}(h:Ip k x=some b)(hr:dm m x v):D8 k v b:=by
 unfold Ip at h;split at h<;>cases h
 all_goals first
  |(obtain⟨hp⟩:dX m _ v:=hr;cases hp;first
    |exact⟨_,rfl,rfl⟩
    |exact⟨_,_,_,rfl,rfl⟩
    |exact .inl ⟨rfl,rfl⟩
    |exact .inr ⟨_,_,_,rfl,rfl⟩
    |exact .inr ⟨_,_,rfl,rfl⟩)
  |(have H:dX m _ v:=hr;cases H;first
    |exact⟨_,rfl,rfl⟩
    |exact⟨_,_,_,rfl,rfl⟩
    |exact .inr ⟨_,_,_,rfl,rfl⟩)
def aaR(P:Program)(t:TypeId):xN->Prop
 | .bool=>P.underlying t=some .bool
 | .ptr=>∃e,P.underlying t=some (.pointer e)
 | .slc=>∃e,P.underlying t=some (.slice e)
 | .map=>∃a b,P.underlying t=some (.map a b)
 | .fnc=>∃a b c,P.underlying t=some (.func a b c)
 | .ifc=>∃a,P.underlying t=some (.interface a)
 | .str f=>∃fs,P.underlying t=some (.struct fs)/\P.stoodInHeld t=false/\P.eqGuardType P.depth t=false/\Jx P 0 fs.toList=some f
theorem aoq{t:TypeId}{x y:Operand}{k:xN}(h:OG P t x y=some k):aaR P t k/\(k=.ifc->Mr x\/Mr y):=by
 unfold OG at h;split at h
 .rename_i a H;split at h
  .rename_i f;cases h;exact⟨⟨_,H⟩,λ_=>by simpa using f⟩
  cases h
 .rename_i H;cases h;exact⟨H,λe=>by cases e⟩
 .rename_i H;cases h;exact⟨⟨_,H⟩,λe=>by cases e⟩
 .rename_i H;cases h;exact⟨⟨_,H⟩,λe=>by cases e⟩
 .rename_i H;cases h;exact⟨⟨_,_,H⟩,λe=>by cases e⟩
 .rename_i H;cases h;exact⟨⟨_,_,_,H⟩,λe=>by cases e⟩
 .rename_i fs H;split at h
  .rename_i f;simp only[eU]at h;obtain⟨j,g,rfl⟩:=h;simp at f;exact⟨⟨fs,H,f.1,f.2,g⟩,λe=>by cases e⟩
  cases h
 cases h
theorem an7{t:TypeId}{k:xN}{v u:Value}{a b:Bool}(w:World)(g:aaR P t k)(H:D8 k v a)(f:D8 k u b)(E:a\/b)(d:Nat):(Op.equalIn (d+1) t v u).run P w=.ok (a&&b) w:=by
 cases k with
 |bool=>exact H.elim
 |str n=>exact H.elim
 |ptr=>obtain⟨e,h⟩:=g;obtain⟨x,rfl,rfl⟩:=H;obtain⟨y,rfl,rfl⟩:=f;cases x<;>cases y<;>simp at E<;>simp[Op.equalIn,run_underlying h]
 |slc=>obtain⟨e,h⟩:=g;obtain⟨x,_,_,rfl,rfl⟩:=H;obtain⟨y,_,_,rfl,rfl⟩:=f;cases x<;>cases y<;>simp at E<;>simp[Op.equalIn,run_underlying h]
 |map=>obtain⟨e,e',h⟩:=g;obtain⟨x,rfl,rfl⟩:=H;obtain⟨y,rfl,rfl⟩:=f;cases x<;>cases y<;>simp at E<;>simp[Op.equalIn,run_underlying h]
 |fnc=>obtain⟨e,e',j,h⟩:=g;rcases H with⟨rfl,rfl⟩|⟨_,_,_,rfl,rfl⟩<;>rcases f with⟨rfl,rfl⟩|⟨_,_,_,rfl,rfl⟩<;>simp at E<;>simp[Op.equalIn,run_underlying h]
 |ifc=>obtain⟨e,h⟩:=g;rcases H with⟨rfl,rfl⟩|⟨_,_,rfl,rfl⟩<;>rcases f with⟨rfl,rfl⟩|⟨_,_,rfl,rfl⟩<;>simp at E<;>simp[Op.equalIn,run_underlying h]
section
variable {m:bR} {j:bn} {a:Act} {o:Oper} (aA:eo w0 m) (hr:kK m j a.tmps)
include aA hr
theorem aBK{t:TypeId}{k:xN}{y:V}{v u:Value}{b:Bool}(f:aaR P t k)(h:EI k x y=some b)(H:dm m x v)(z:dm m y u)(d:Nat):(Op.equalIn (d+2) t v u).run P m.w=.ok b m.w:=by
 have Q:=aA;have N:=hr;unfold EI at h;split at h
 .cases h;rw[Fl H,Fl z];have f:P.underlying t=some .bool:=f;simp only[Op.equalIn,Sem.run_bind,run_underlying f,Result.andThen_ok,Sem.run_pure]
 .obtain⟨A,rfl,F⟩:=dm.agg.1 H;obtain⟨B,rfl,E⟩:=dm.agg.1 z;obtain⟨fs,D,hs,_,L⟩:=f;have Cm:P.fieldsOf t=fs:=by simp[Program.fieldsOf,D]
  rw[run_equalIn_agg m.w (d+1) t A B (by rw[Cm];exact D) hs,Cm];refine aGd (w:=m.w) (m:=m) d L h (λj x H=>?_) (λj x H=>?_)
  .have g:j<A.size:=by have:=F.1;simp at this;rw[this];exact(cD.1 H).1
   exact⟨A[j],by simp[g],F.2 j x _ H (by simp[g])⟩
  have g:j<B.size:=by have:=E.1;simp at this;rw[this];exact(cD.1 H).1
  exact⟨B[j],by simp[g],E.2 j x _ H (by simp[g])⟩
 .cases h
 .cases h
 split at h
 .rename_i M;have:=an7 (P:=P) m.w f (zG h H) (zG M z) (.inr rfl) (d+1)
  simpa using this
 split at h
 .rename_i O;have:=an7 (P:=P) m.w f (zG O H) (zG h z) (.inl rfl) (d+1)
  simpa using this
 cases h
theorem aAU{op:BinOp}{t:TypeId}{k:xN}{x y:Operand}{b:Bool}(F:OG P t x y=some k)(O:dy x=some x')(M:dy y=some y')(h:EI k (ev j x') (ev j y')=some b):
  (eqGuard op t x y (a.eval x) (a.eval y)).run P m.w=.ok () m.w:=by
 have L:=aA;obtain⟨R,Y⟩:=aoq F;have H:=gb O hr;have u:=gb M hr;by_cases f:op=.eql\/op=.neq
 .unfold EI at h;split at h
  .rename_i e1 e2;rw[e1]at H;rw[Fl H,eqGuard_at_bool];rfl
  .rename_i e1 e2;rw[e1]at H;rw[e2]at u;obtain⟨A,T,_⟩:=dm.agg.1 H;obtain⟨B,e4,_⟩:=dm.agg.1 u;obtain⟨fs,_,_,E,_⟩:=R;rw[T,e4];exact run_eqGuard_agg m.w op t x y A B E
  .cases h
  .cases h
  rename_i k q1 q2 q3 q4 q5 q6 q7;have Q:∃z b2,D8 k (a.eval x) z/\D8 k (a.eval y) b2:=by
   split at h
   .rename_i D;exact⟨_,_,zG h H,zG D u⟩
   split at h
   .rename_i X;exact⟨_,_,zG X H,zG h u⟩
   cases h
  obtain⟨z,b2,N,Z⟩:=Q;cases k with
  |bool=>exact N.elim
  |str n=>exact N.elim
  |ptr=>obtain⟨q,e,_⟩:=N;rw[e,eqGuard_at_pointer];rfl
  |slc=>obtain⟨q,_,_,e,_⟩:=N;rw[e,eqGuard_at_slice];rfl
  |map=>obtain⟨q,e,_⟩:=N;rw[e,eqGuard_at_map];rfl
  |fnc=>
   rcases N with⟨e,_⟩|⟨_,_,_,e,_⟩
   .rw[e,eqGuard_at_nilFunc];rfl
   rw[e,eqGuard_at_func];rfl
  |ifc=>
   rcases N with⟨e,_⟩|⟨_,_,e,_⟩
   .rcases Z with⟨e',_⟩|⟨_,_,e',_⟩
    .rw[e,e'];have g:(∃c,x=.const c)\/ ∃c,y=.const c:=by
      rcases Y rfl with g|g
      .cases x<;>simp[Mr]at g
       exact .inl ⟨_,rfl⟩
      cases y<;>simp[Mr]at g
      exact .inr ⟨_,rfl⟩
     rcases g with⟨c,rfl⟩|⟨c,rfl⟩
     .rw[eqGuard_nil_constL];rfl
     rw[eqGuard_nil_constR];rfl
    rw[e,e',eqGuard_nil_iface];rfl
   rw[e,eqGuard_at_iface];rfl
 have:eqGuard op t x y (a.eval x) (a.eval y)=pure ():=by
  cases op<;>first
   |rfl
   |exact(f (.inl rfl)).elim
   |exact(f (.inr rfl)).elim
 rw[this];rfl
theorem aCX{t:TypeId}{k:xN}{v u:Value}{B:Bool}(hs:(∃p q,v=.bool p/\u=.bool q)\/(∃p q,v=.agg p/\u=.agg q)\/ ∃p q,D8 k v p/\D8 k u q)(h:(Op.equalIn (9998+2) t v u).run P m.w=.ok B m.w):
  (binOp .eql t v u).run P m.w=.ok (.bool B) m.w/\(binOp .neq t v u).run P m.w=.ok (.bool (!B)) m.w:=by
 have x:=aA;have g:=hr;have j:Op.equal t v u=Op.equalIn (9998+2) t v u:=rfl;have key:binOp .eql t v u=(do pure (.bool (<-Op.equal t v u)))/\binOp .neq t v u=(do pure (.bool (!(<-Op.equal t v u)))):=by
  rcases hs with⟨p,q,rfl,rfl⟩|⟨p,q,rfl,rfl⟩|⟨p,q,H,f⟩
  .exact⟨rfl,rfl⟩
  .exact⟨rfl,rfl⟩
  cases k with
  |bool=>exact H.elim
  |str n=>exact H.elim
  |ptr=>obtain⟨_,rfl,_⟩:=H;obtain⟨_,rfl,_⟩:=f;exact⟨rfl,rfl⟩
  |slc=>obtain⟨_,_,_,rfl,_⟩:=H;obtain⟨_,_,_,rfl,_⟩:=f;exact⟨rfl,rfl⟩
  |map=>obtain⟨_,rfl,_⟩:=H;obtain⟨_,rfl,_⟩:=f;exact⟨rfl,rfl⟩
  |fnc=>rcases H with⟨rfl,_⟩|⟨_,_,_,rfl,_⟩<;>rcases f with⟨rfl,_⟩|⟨_,_,_,rfl,_⟩<;>exact⟨rfl,rfl⟩
  |ifc=>rcases H with⟨rfl,_⟩|⟨_,_,rfl,_⟩<;>rcases f with⟨rfl,_⟩|⟨_,_,rfl,_⟩<;>exact⟨rfl,rfl⟩
 rw[key.1,key.2,j];simp only[Sem.run_bind,h,Result.andThen_ok,Sem.run_pure,and_self]
theorem aj3{op:BinOp}{t T:TypeId}{x y:Operand}{k:xN}{N b:Bool}(u:o.op=.binOp op t x y T)(g:(op=.eql/\N=false)\/(op=.neq/\N))(F:OG P t x y=some k)(E:dy x=some x')(z:dy y=some y')
  (h:EI k (ev j x') (ev j y')=some b):iF P w0 a.eval o m (.one (.p (.bool (if N then !b else b)))) []:=by
 have f:=gb E hr;have H:=gb z hr;have D:=aAU aA hr (op:=op) F E z h;have O:=aBK aA hr (aoq F).1 h f H 9998;have hs:(∃p q,a.eval x=.bool p/\a.eval y=.bool q)\/(∃p q,a.eval x=.agg p/\a.eval y=.agg q)\/ ∃p q,D8 k (a.eval x) p/\D8 k (a.eval y) q:=by
  unfold EI at h;split at h
  .rename_i e1 e2;rw[e1]at f;rw[e2]at H;exact .inl ⟨_,_,Fl f,Fl H⟩
  .rename_i e1 e2;rw[e1]at f;rw[e2]at H;obtain⟨A,M,_⟩:=dm.agg.1 f;obtain⟨B,e4,_⟩:=dm.agg.1 H;exact .inr (.inl ⟨A,B,M,e4⟩)
  .cases h
  .cases h
  split at h
  .rename_i L;exact .inr (.inr ⟨_,_,zG h f,zG L H⟩)
  split at h
  .rename_i Q;exact .inr (.inr ⟨_,_,zG Q f,zG h H⟩)
  cases h
 obtain⟨r1,R⟩:=aCX aA hr hs O;rcases g with⟨rfl,rfl⟩|⟨rfl,rfl⟩
 .exact .calm aA (by simp[execOp,u,D,r1]) (pD (.bool _))
 exact .calm aA (by simp[execOp,u,D,R]) (pD (.bool _))
end
theorem atX:∀ {y:s_}{bs:wV},Ks y=some bs->∃N:cV,y.flatten=N.map (PV.int .u8)/\bs=N.map (λn=>UInt8.ofNat n.toNat)/\I N=I y:=by
 intro y
 induction y with
 |nil=>intro bs h;simp[Ks]at h;exact⟨[],rfl,h,rfl⟩
 |cons e r j=>
  intro bs h;unfold Ks at h;split at h
  .rename_i e';cases e'
  .rename_i n R e';cases e';simp only[eU]at h;obtain⟨q,g,rfl⟩:=h;obtain⟨N,m,H,f⟩:=j g;exact⟨n::N,by simp[m],by simp[H],by simp[f]⟩
  cases h
theorem aBw{w:World}{own:Nat->Prop}:∀ {N:cV}{h:List Value},Pw (dq w own) (N.map (PV.int .u8)) h->h=N.map (Value.int .u8):=by
 intro N
 induction N with
 |nil=>intro h H;have:=H.1;simp at this;simp[this]
 |cons n N g=>
  intro h H;cases h with
  |nil=>have:=H.1;simp at this
  |cons v h=>have f:=H.2 0 _ v rfl rfl;cases f;rw[g (h:=h) ⟨by have:=H.1;simpa using this,λj x u a b=>H.2 (j+1) x u (by simpa using a) (by simpa using b)⟩];rfl
theorem aDd:∀(N:cV) (s:ByteArray),N.foldl (λr n=>r.push (UInt8.ofNat n.toNat)) s=⟨s.data++(N.map (λn=>UInt8.ofNat n.toNat)).toArray⟩:=by
 intro N
 induction N with
 |nil=>intro s;cases s;simp
 |cons n N f=>intro s;simp only[vi,eR];rw[f];cases s;simp[ByteArray.push]
section
variable {m:bR} {j:bn} {a:Act} {o:Oper} (aA:eo w0 m) (hr:kK m j a.tmps)
include aA hr
theorem asX{s d e:TypeId}{x:Operand}{y:s_}{r:aG}{bs:wV}(T:o.op=.convert s d x)(hs:P.underlying s=some (.slice e))(he:P.underlying e=some (.int .u8))(D:P.underlying d=some .string)
  (Y:dy x=some x') (dY:fz m.aj (ev j x')=some (y,r,[])) (L:Ks y=some bs):iF P w0 a.eval o m (.one (.p (.str ⟨bs.toArray⟩))) []:=by
 obtain⟨g,Q,H,u⟩:=atX L;obtain⟨ax,f,F,_,E⟩:=aqg (own:=m.own) aA dY (gb Y hr) ⟨λ_ h=>h,λ_ h=>by simp at h⟩;refine .calm aA (x:=.string ⟨bs.toArray⟩) ?_ (pD (.str _));have key:(Conv.bytesToString (.slice ax (I y) f)).run P m.w=.ok (.string ⟨bs.toArray⟩) m.w:=by
  by_cases B:y=[]
  .subst B;have:g=[]:=by simpa using u
   subst this;have X:bs=[]:=by simpa using H
   subst X;cases ax with
   |none=>simp[Conv.bytesToString,Sem.run_pure];rfl
   |some R=>have:=run_bytesToString (P:=P) m.w R 0 f [] (by simp[loadCells,loadCellsFrom,Sem.run_pure]);exact this
  obtain⟨b,O,N,rfl,M,IY⟩:=E B;rw[Q]at M;have z:=aBw M;have hl:I N=I y:=by rw[z];simpa using u
  have A:(loadCells ⟨b,O,none⟩ (I y)).run P m.w=.ok (g.map (Value.int .u8)).toArray m.w:=by rw[<-hl,<-z];exact run_loadCells_list m.w ⟨b,O,none⟩ N λab v Z=>by rw[Addr.add_lit];exact IY ab v Z
  rw[run_bytesToString m.w _ _ f g A,aDd,H];simp[ByteArray.empty,ByteArray.emptyWithCapacity];rfl
 simp only[execOp,T,F,Sem.run_bind,run_convert_bytes_string m.w s d e ax (I y) f hs he D,key,Result.andThen_ok,Sem.run_pure]
end
theorem acz{M:Array Operand}{a:fu}(h:rU M.toList=some [a]):∃x,M= #[x]/\dy x=some a:=by
 obtain⟨M⟩:=M;cases M with
 |nil=>simp[rU]at h
 |cons x r=>
  simp only[rU]at h;split at h
  .rename_i y ys e1 e2;cases h;cases r with
   |nil=>exact⟨x,rfl,e1⟩
   |cons z r=>simp only[rU]at e2;split at e2<;>simp at e2
  cases h
theorem abP{M:Array Operand}{a b:fu}(h:rU M.toList=some [a,b]):∃x y,M= #[x,y]/\dy x=some a/\dy y=some b:=by
 obtain⟨M⟩:=M;cases M with
 |nil=>simp[rU]at h
 |cons x r=>
  simp only[rU]at h;split at h
  .rename_i y ys e1 e2;cases h;obtain⟨z,H,Z⟩:=acz (M:=r.toArray) (by simpa using e2);have:r=[z]:=by simpa using congrArg Array.toList H
   subst this;exact⟨x,z,rfl,e1,Z⟩
  cases h
theorem aGi{M:Array TypeId}{t u:TypeId}(H:M[0]?=some t)(h:M[1]?=some u)(hs:M.size=2):M= #[t,u]:=by
 obtain⟨M⟩:=M
 match M,hs with
 |[a,b],_=>simp at H h;subst H h;rfl
theorem aGZ{α:Type}{y ys:List (List α)}{O:Nat}(h:∀e∈y,I e=sz)(j:∀e∈ys,I e=sz)(hl:O+I ys<=I y):(fX y O ys).flatten=fX y.flatten (O*sz) ys.flatten:=by
 have H:∀k,k<=I y->(y.take k).flatten.length=k*sz:=λk f=>by rw[Ml λe g=>h e (yk g),iM,wS f]
 have e1:y.flatten=(y.take O).flatten++(y.drop O).flatten:=by rw[<-C6,ot]
 have e2:y.flatten=(y.take (O+I ys)).flatten++(y.drop (O+I ys)).flatten:=by rw[<-C6,ot]
 unfold fX;rw[C6,C6,Ml j];congr 1
 .congr 1
  conv=>rhs;rw[e1]
  rw[List.take_left' (H O J)]
 rw[<-jW]
 conv=>rhs;rw[e2]
 rw[List.drop_left' (H _ hl)]
theorem aB9{R:PV->Value->Prop}{v:Array Value}{n:Nat}(B:Pw R z v.toList):Pw R (List.replicate n z).flatten (Builtin.zeroCells v n).toList:=by
 have F:I z=v.size:=by have:=B.1;simp at this;omega
 have D:∀e∈List.replicate n z,I e=v.size:=λe m=>by rw[Ou m];exact F
 have f:(Builtin.zeroCells v n).toList.length=n*v.size:=by simp[size_zeroCells]
 refine⟨by rw[f,Ml D];simp,λj x u p q=>?_⟩;have g:j<n*v.size:=by have:=(cD.1 q).1;omega
 have y:0<v.size:=by
  rcases Nat.eq_zero_or_pos v.size with h|h
  .rw[h]at g;omega
  exact h
 have H:j/v.size<n:=by rw[Nat.div_lt_iff_lt_mul y];exact g
 have T:j%v.size<v.size:=fC _ y;have m:(List.replicate n z)[j/v.size]?=some z:=by simp[H]
 have A:=HR D m T;rw[show j/v.size*v.size+j%v.size=j by rw[QK];exact WH j v.size]at A;rw[A]at p;have E:(Builtin.zeroCells v n).toList[j]?=some v[j%v.size]! :=by unfold Builtin.zeroCells;simp[g]
 rw[E]at q;cases q;refine B.2 (j%v.size) x _ p ?_;simp[T]
section
variable {m:bR} {j:bn} {a:Act} {o:Oper} (aA:eo w0 m) (hr:kK m j a.tmps)
include aA hr
theorem aDE{c:Call}{x:Operand}{t e:TypeId}{bytes:Nat}{v:V}{rd:aG}(ho:o.op=.call c)(hc:c.callee=.builtin .clear)(ar:c.args= #[x])(M:c.argTypes[0]?=some t)
  (he:BD P t=some (e,sz,bytes,z)) (hx:dy x=some x') (hp:cZ E j m.aj (.clear z x')=.done v u rd):iF P w0 a.eval o m v u:=by
 obtain⟨i,zv,R,hi,hs,hb,⟨jT,Pk⟩,Cr,Jq,pW,dT⟩:=R6 he;have N:=gb hx hr;have run:∀(az:Value) (w':World),(Builtin.clear_ c.argTypes o.type #[a.eval x]).run P m.w=.ok az w'->(execOp a.eval o).run P m.w=.ok (.value az) w':=by intro az w' h;simp[execOp,ho,resolve,hc,ar,invoke,builtin,h]
 have Q:(Builtin.clear_ c.argTypes o.type #[a.eval x]).run P m.w=.ok (.tuple #[]) m.w->iF P w0 a.eval o m (.tup []) []:=λh=>
  ⟨.tuple #[],m,.inl (run _ _ h),aA,g_.refl _,rfl,rfl,(⟨#[],rfl,rfl,λav x u h=>by simp at h⟩:dm m (.tup []) _)⟩
 simp only[cZ]at hp;split at hp
 .rename_i F;cases hp;rw[F]at N;have N:dX m _ (a.eval x):=N;generalize X:a.eval x=b at N;rw[X]at Q;apply Q;cases N with
  |p h=>cases h;simp[Builtin.clear_,M,run_underlying R]
 .rename_i F;cases hp;rw[F]at N;have N:dX m _ (a.eval x):=N;generalize X:a.eval x=b at N;rw[X]at Q;apply Q;cases N with
  |p h=>
   cases h with
   |Bu a ab hn hm=>cases a<;>simp[Builtin.clear_,M,run_underlying R]
   |sl b o ab sz f h1 h2 h3 h4=>simp[Builtin.clear_,M,run_underlying R]
 .rename_i id g w O len F;rw[F]at N;have N:dX m _ (a.eval x):=N;generalize X:a.eval x=b at N;rw[X]at Q run;cases N with
  |hsl ad ab hg hl hm sv=>
   split at hp
   .rename_i h0;cases hp;subst h0;apply Q;simp[Builtin.clear_,M,run_underlying R]
   rename_i h0;split at hp
   .rename_i g' T A y jH;split at hp
    .rename_i Ci;obtain⟨j9,de,H⟩:=Ci;cases hp;have bl:(m.aj id).2=some (.arr T A y):=by rw[jH]
     obtain⟨_,sv,_⟩:=sv A (by rw[jH];exact j9) (by rw[jH];rfl);have sv:=sv (.inr J);subst sv;obtain⟨B,hh,sG,wO,kL,xG,an,T6⟩:=aA.obj id _ bl;have Mg:∀e∈List.replicate len z,I e=A:=λe he=>by rw[Ou he];exact de.symm
     have ac:zv.cells.size=A:=by rw[Jq,<-pW,de]
     have Mh:I (List.replicate len z)=len:=Tq;have xD:=aGZ (O:=O) wO Mg (by rw[Mh];exact H);have mR:(O+len)*A<=I y*A:=oH _ H;have aN:I y*A<=m.κ id*A:=oH _ kL;rw[jW]at mR;generalize hZ:(Builtin.zeroCells zv.cells len).toList=Z;have ap:I Z=len*A:=by rw[<-hZ];simp[size_zeroCells,ac]
     have L:∀w own,eI w own (List.replicate len z).flatten Z:=λw own=>eI.pw.2 (by rw[<-hZ];exact aB9 (eI.pw.1 (dT w own)));have T4:∀v∈Z,v.oneCell':=λv F=>by
      obtain⟨av,hj⟩:=jL F;have aq:av<(List.replicate len z).flatten.length:=by rw[<- (L m.w m.own).1];exact(cD.1 hj).1
      exact((L m.w m.own).2 av _ v (sT aq) hj).QR
     have Hl:O*A+0+I Z<=B.size:=by rw[ap,an];omega
     have dh:=run_storeCells_at P (m.σ id) (O*A) T Z 0 B m.w hh Hl T4;simp only[vX]at dh;generalize D:m.w.setRow (m.σ id) (B.toList.take (O*A)++Z++B.toList.drop (O*A+I Z)).toArray=bP at dh;have Hc:bP.heap.size=m.w.heap.size:=by rw[<-D];simp
     have Hb:∀c,c≠m.σ id->bP.heap[c]?=m.w.heap[c]? :=λc hc=>by rw[<-D];exact setRow_other m.w (m.σ id) c _ hc
     have Y:I (fX y O (List.replicate len z))=I y:=VH (by rw[Mh];exact H);have eB:=NL (L:=bP) (o:=.arr T A (fX y O (List.replicate len z))) bl rfl (by simp[mZ]) (by rw[<-D];rfl) (by rw[<-D];rfl) (by rw[<-D];rfl) Hc Hb;have FV:uL (m.mh bP id (.arr T A (fX y O (List.replicate len z)))) id (.arr T A (fX y O (List.replicate len z))):=by
      refine⟨_,by rw[<-D];exact Tx hh,sG,?_,by rw[Y];exact kL,xG,?_,?_⟩
      .intro e' I1;unfold fX at I1;simp only[fc]at I1;rcases I1 with(h|h)|h
       .exact wO e' (yk h)
       .exact Mg e' h
       exact wO e' (wx h)
      .simp[bR.mh];omega
      rw[Y,xD];have h1:=(eI.pw.1 (T6.ev eB.zero)).fX (eI.pw.1 (L (m.mh bP id (.arr T A (fX y O (List.replicate len z)))).w (m.mh bP id (.arr T A (fX y O (List.replicate len z)))).own)) (O*A);rw[<-ahG J (by simp;omega)]at h1;have h1:=eI.pw.2 h1
      simpa [fX]using h1
     refine⟨.tuple #[],m.mh bP id (.arr T A (fX y O (List.replicate len z))),.inl (run _ _ ?_),VR bl rfl aA (by simp[mZ]) (by rw[<-D];rfl) (by rw[<-D];rfl) (by rw[<-D];rfl) Hc Hb FV,eB,rfl,?_,(⟨#[],rfl,rfl,λav x u h=>by simp at h⟩:dm _ (.tup []) _)⟩
     .obtain⟨k,rfl⟩:∃k,len=k+1:=⟨len-1,J⟩;simp[Builtin.clear_,M,run_underlying R,zeroValue,typeInfo,hi,Cr,hZ,dh,bR.mh]
     simp[bR.mh,app,jH,j9]
    cases hp
   cases hp
 cases hp
end
section
variable {m:bR} {j:bn} {a:Act} {o:Oper} (aA:eo w0 m) (hr:kK m j a.tmps)
include aA hr
theorem apc{t F e:TypeId}{x k Y:Operand}{v:V}{rd:aG}(H:o.op=.mapUpdate t x k Y\/o.op=.insert t x k Y)(z:P.underlying t=some (.map F e))
  (B:keyOf P F=some kd) (A:dy x=some x') (M:dy k=some k') (f:dy Y=some y') (hp:cZ E j m.aj (.mupd kd ag x' k' y')=.done v u rd):iF P w0 a.eval o m v u:=by
 simp only[cZ]at hp;split at hp
 .rename_i id g q D e1 e2 L;split at hp
  .rename_i R Q y ps e4 e5;split at hp
   .rename_i O;obtain⟨rfl,rfl,N⟩:=O;split at hp
    .rename_i i w h;cases hp;exact afv aA hr H z B A M f e1 e4 e2 N L e5 h
    .rename_i h;cases hp;exact afv aA hr H z B A M f e1 e4 e2 N L e5 h
    cases hp
   cases hp
  cases hp
 cases hp
theorem asD{p:rK}{v:V}{rd:aG}(H:GL P site o=some p)(hp:cZ E j m.aj p=.done v u rd):iF P w0 a.eval o m v u:=by
 unfold GL at H;split at H
 ·
  rename_i x A;simp only[eU]at H;obtain⟨Y,g,rfl⟩:=H;cases hp;exact aoA aA hr (.inl A) g
 ·
  rename_i x A;simp only[eU]at H;obtain⟨Y,g,rfl⟩:=H;cases hp;exact aoA aA hr (.inr A) g
 ·
  rename_i c x Y A;split at H
  .rename_i c' x' y' g B F;cases H;simp only[cZ]at hp;split at hp
   .rename_i t L;cases hp;exact atq aA hr A g B F L
   cases hp
  cases H
 ·
  rename_i t A;simp only[eU]at H;obtain⟨z,g,rfl⟩:=H;cases hp;exact aAZ aA A g
 ·
  rename_i t x A;simp only[eU]at H;obtain⟨z,g,rfl⟩:=H;simp only[cZ]at hp;split at hp
  .rename_i D dK;cases hp;exact avY aA hr A g dK
  cases hp
 ·
  rename_i t ps A;split at H
  .rename_i fs z g B;split at H
   .rename_i dp;simp only[eU]at H;obtain⟨qs,F,rfl⟩:=H;simp only[cZ]at hp;split at hp
    .rename_i rs Jg;cases hp;exact aAy aA hr A g B dp F Jg
    cases hp
   cases H
  .rename_i n e z g B;split at H
   .rename_i i hi;simp only[eU]at H;obtain⟨qs,F,rfl⟩:=H;simp only[cZ]at hp;split at hp
    .rename_i rs Jg;cases hp;exact awx aA hr A g B hi F Jg
    cases hp
   cases H
  cases H
 ·
  rename_i t n ps A;split at H
  .rename_i e sz bytes z as g B;split at H
   .rename_i R;cases H;simp only[cZ]at hp;split at hp
    .rename_i y mQ;obtain⟨g1,g2⟩:=atm (s:=site) aA hr A g B R.1 R.2 mQ;split at hp
     .rename_i qs ac;cases hp;exact g1 qs ac
     cases hp;exact g2
    cases hp
   cases H
  cases H
 ·
  rename_i t x A;split at H
  .rename_i k Y g B;cases H;simp only[cZ]at hp;split at hp
   .rename_i D r dK;split at hp
    .rename_i v' T;cases hp;exact aua aA hr A g B dK T
    cases hp
   cases hp
  cases H
 ·
  rename_i t x Y A;split at H
  .rename_i n x' y' g B F;cases H;simp only[cZ]at hp;split at hp
   .rename_i D dK;exact aGt aA hr A g B F dK hp
   cases hp
  cases H
 ·
  rename_i x A;simp only[eU]at H;obtain⟨Y,g,rfl⟩:=H;have M:u=[]/\rd=[]:=by simp only[cZ]at hp;split at hp<;>cases hp<;>exact⟨rfl,rfl⟩
  obtain⟨rfl,rfl⟩:=M;exact aEp aA hr A g hp
 ·
  rename_i op t x Y ty A;split at H
  .rename_i x' y' g B;have ab:∀(X:BinOp),p=.bin X x' y'->X=op->iF P w0 a.eval o m v u:=by
    intro X e1 e2;subst e1 e2;simp only[cZ]at hp;split at hp
    .rename_i v' T;cases hp;exact arS aA hr A g B T
    cases hp
   split at H
   .cases H;exact ab _ rfl rfl
   .cases H;exact ab _ rfl rfl
   split at H
   .rename_i k hk;cases H;simp only[cZ]at hp;split at hp
    .rename_i b hb;cases hp;exact aj3 aA hr (N:=false) A (.inl ⟨rfl,rfl⟩) hk g B hb
    cases hp
   .rename_i k hk;cases H;simp only[cZ]at hp;split at hp
    .rename_i b hb;cases hp;exact aj3 aA hr (N:=true) A (.inr ⟨rfl,rfl⟩) hk g B hb
    cases hp
   cases H
  cases H
 ·
  rename_i op t x A;split at H
  .simp only[eU]at H;obtain⟨Y,g,rfl⟩:=H;simp only[cZ]at hp;split at hp
   .rename_i b e1 e2;cases hp;exact asR aA hr A g e2
   .rename_i e1 e2;cases e1
   cases hp
  .simp only[eU]at H;obtain⟨Y,g,rfl⟩:=H;simp only[cZ]at hp;split at hp
   .rename_i e1 e2;cases e1
   .rename_i k n e1 e2;cases hp;exact aAi aA hr A g e2
   cases hp
  cases H
 ·
  rename_i s d x A;split at H
  .rename_i ks k Y g B F;cases H;simp only[cZ]at hp;split at hp
   .rename_i k0 n Z;cases hp;exact atc aA hr A g B F Z
   cases hp
  .rename_i e Y g B F;split at H
   .rename_i he;cases H;simp only[cZ]at hp;split at hp
    .rename_i y r mQ;split at hp
     .rename_i bs qp;cases hp;exact asX aA hr A g he B F mQ qp
     cases hp
    cases hp
   cases H
  cases H
 ·
  rename_i f x Y A;split at H
  .rename_i x' y' g B;cases H;simp only[cZ]at hp;split at hp
   .rename_i D ds e1 e2;cases hp;exact azl aA hr A g B e1 e2
   cases hp
  cases H
 ·
  rename_i t A;split at H
  .simp only[eU]at H;obtain⟨k,g,rfl⟩:=H;cases hp;exact aAk (f:=t) (t:=t) (e:=t) aA A
  cases H
 ·
  rename_i t l c A;split at H
  .rename_i e sz bytes z l' c' g B F;cases H;simp only[cZ]at hp;split at hp
   .rename_i n n' e1 e2;split at hp
    .rename_i R;obtain⟨rfl,nk⟩:=R;cases hp;exact aDi aA hr A g B F e1 e2 nk
    cases hp
   cases hp
  cases H
 ·
  rename_i t x lo hi A;split at H
  .rename_i x' F6 Co g B F;split at H
   .rename_i e L;simp only[eU]at H;obtain⟨sz,O,rfl⟩:=H;simp only[cZ]at hp;split at hp
    .rename_i n Z;split at hp
     .rename_i l ad e1 e2;have M:u=[]/\rd=[]:=by
       unfold F3 at hp;repeat' split at hp
       all_goals first
        |cases hp
        |skip
       all_goals exact⟨rfl,rfl⟩
      obtain⟨rfl,rfl⟩:=M;exact aF4 aA hr A L O g B F Z e1 e2 hp
     cases hp
    cases hp
   .rename_i L;cases H;simp only[cZ]at hp;split at hp
    .rename_i s hs;split at hp
     .rename_i l ad e1 e2;split at hp
      .rename_i R;cases hp;exact aEA aA hr A L g B F hs e1 e2 R.1 R.2
      cases hp
     cases hp
    cases hp
   cases H
  cases H
 ·
  rename_i s x f A;split at H
  .rename_i fs Y g B;split at H
   .rename_i d hd;split at H
    .rename_i hz;cases H;have M:u=[]/\rd=[]:=by
      simp only[cZ]at hp;split at hp<;>cases hp<;>exact⟨rfl,rfl⟩
     obtain⟨rfl,rfl⟩:=M;exact aF1 aA hr A g hd hz B hp
    cases H
   cases H
  cases H
 ·
  rename_i t x f A;split at H
  .rename_i fs Y g B;split at H
   .rename_i d hd;simp only[eU]at H;obtain⟨k,F,rfl⟩:=H;simp only[cZ]at hp;split at hp
    .rename_i D dK;split at hp
     .rename_i v' T;cases hp;exact aBx aA hr A g hd F B dK T
     cases hp
    cases hp
   cases H
  cases H
 ·
  rename_i t x i A;split at H
  .rename_i x' i' g B;split at H
   .rename_i e L;simp only[eU]at H;obtain⟨sz,F,rfl⟩:=H;have M:u=[]/\rd=[]:=by
     simp only[cZ]at hp;repeat' split at hp
     all_goals first
      |cases hp
      |skip
     all_goals exact⟨rfl,rfl⟩
    obtain⟨rfl,rfl⟩:=M;exact aEU aA hr A L F g B hp
   .rename_i n e L;simp only[eU]at H;obtain⟨sz,F,rfl⟩:=H;have M:u=[]/\rd=[]:=by
     simp only[cZ]at hp;repeat' split at hp
     all_goals first
      |cases hp
      |skip
     all_goals exact⟨rfl,rfl⟩
    obtain⟨rfl,rfl⟩:=M;exact axF aA hr A L F g B hp
   cases H
  cases H
 ·
  rename_i t x i A;split at H
  .rename_i x' i' g B;split at H
   .rename_i n e L;split at H
    .rename_i sz k F O;cases H;simp only[cZ]at hp;split at hp
     .rename_i n' D e1 e2;split at hp
      .rename_i aq;split at hp
       .rename_i v' T;cases hp;exact aDI aA hr A L F O g B e1 aq e2 T
       cases hp
      cases hp
     cases hp
    cases H
   .rename_i L;cases H;simp only[cZ]at hp;split at hp
    .rename_i n s e1 e2;split at hp
     .rename_i b hb;cases hp;exact aw8 aA hr A L g B e1 e2 hb
     cases hp
    cases hp
   cases H
  cases H
 ·
  rename_i t x k ok A;split at H
  .rename_i kt e x' k' g B F;split at H
   .rename_i z q O h5;split at H
    .rename_i kd h6;split at H
     .rename_i h7;cases H;simp only[cZ]at hp;split at hp
      .rename_i y r key e1 e2;split at hp
       .cases hp
       rename_i DY;split at hp
       .rename_i f hf;split at hp
        .rename_i w hw;cases hp;exact ax3 aA hr A g O h6 h7 B F e1 e2 (Classical.not_not.1 DY) hf hw
        cases hp
       cases hp
      cases hp
     cases H
    cases H
   cases H
  cases H
 ·
  rename_i t x k Y A;split at H
  .rename_i kt e x' k' y' g B F O;split at H
   .rename_i q h5;simp only[eU]at H;obtain⟨kd,h6,rfl⟩:=H;exact apc aA hr (.inl A) g h6 B F O hp
   cases H
  cases H
 ·
  rename_i t x k Y A;split at H
  .rename_i kt e x' k' y' g B F O;split at H
   .rename_i q h5;simp only[eU]at H;obtain⟨kd,h6,rfl⟩:=H;exact apc aA hr (.inr A) g h6 B F O hp
   cases H
  cases H
 ·
  rename_i x i A;simp only[eU]at H;obtain⟨Y,g,rfl⟩:=H;simp only[cZ]at hp;split at hp
  .rename_i h uf;split at hp
   .rename_i v' T;cases hp;exact asG aA hr A g uf T
   cases hp
  cases hp
 ·
  rename_i c A;split at H
  .rename_i f as g B;simp only[eU]at H;obtain⟨Y,F,rfl⟩:=H;simp only[cZ]at hp;repeat' split at hp
   all_goals cases hp
  .rename_i x g B;obtain⟨x0,Q,N⟩:=acz B;split at H
   .rename_i t L;split at H
    .rename_i M;cases H;simp only[cZ]at hp;split at hp
     .rename_i s hs;cases hp;exact aEI aA hr A g Q L M N hs
     cases hp
    .rename_i e M;cases H;simp only[cZ]at hp;split at hp
     .rename_i n Z;cases hp;exact axn aA hr A g Q L M N Z
     cases hp
    .rename_i k e M;cases H;simp only[cZ]at hp;split at hp
     .rename_i n r Z;cases hp;exact aCu aA hr A g Q L M N Z
     cases hp
    cases H
   cases H
  .rename_i x Y g B;obtain⟨x0,y0,Q,N,zS⟩:=abP B;split at H
   .rename_i t u' L M;split at H
    .rename_i e sz bytes z he;split at H
     .rename_i R;cases H;obtain⟨rfl,de⟩:=R;exact aFB aA hr A g Q (aGi L M de) he N zS hp
     cases H
    cases H
   cases H
  .rename_i x Y g B;obtain⟨x0,y0,Q,N,zS⟩:=abP B;cases H;simp only[cZ]at hp;split at hp
   .rename_i k p k' q e1 e2;cases hp;exact avm aA hr A g Q N zS e1 e2
   cases hp
  .rename_i x Y g B;obtain⟨x0,y0,Q,N,zS⟩:=abP B;cases H;simp only[cZ]at hp;split at hp
   .rename_i k p k' q e1 e2;cases hp;exact azZ aA hr A g Q N zS e1 e2
   cases hp
  .rename_i x g B;obtain⟨x0,Q,N⟩:=acz B;split at H
   .rename_i t L;simp only[eU]at H;obtain⟨⟨e,sz,bytes,z⟩,F,rfl⟩:=H;exact aDE aA hr A g Q L F N hp
   cases H
  cases H
 cases H
end
section
variable{m:bR}{D:eG}
def atu(w:World)(Q:Nat->Prop)(T sz:Nat)(y:s_)(c:Nat)(v:Value):Prop:=∃f g,v=.slice (some ⟨c,0,none⟩) (I y) f/\w.heap[c]?=some (.cells g T (0,0))/\0<sz/\(∀e∈y,I e=sz)/\I y<=f/\f<=maxLen/\g.size=f*sz/\eI w Q y.flatten (g.toList.take (I y*sz))
def s4(w:World)(Q:Nat->Prop):oI->List Value->aG->Prop
 |[],h,bs=>h=[]/\bs=[]
 | .p x::r,h,bs=>∃v f,h=v::f/\dq w Q x v/\s4 w Q r f bs
 | .own T sz y::r,h,bs=>∃v f c z,h=v::f/\bs=c::z/\atu w Q T sz y c v/\s4 w Q r f z
theorem s4.mono{w:World}(u:∀c,c<w.heap.size-> ¬Q c->w'.heap[c]?=w.heap[c]? /\ ¬Q' c):∀ {R:oI}{h:List Value}{bs:aG},(∀c∈bs,w'.heap[c]?=w.heap[c]?)->s4 w Q R h bs->s4 w' Q' R h bs:=by
 intro R
 induction R with
 |nil=>intro h bs _ A;exact A
 |cons r R z=>
  intro h bs f A;cases r with
  |p x=>obtain⟨v,g,rfl,B,H⟩:=A;exact⟨v,g,rfl,B.mono u,z f H⟩
  |own T sz y=>obtain⟨v,g,c,Z,rfl,rfl,⟨j,m,e1,e2,E,e4,e5,e6,e7,e8⟩,H⟩:=A;exact⟨v,g,c,Z,rfl,rfl,⟨j,m,e1,by rw[f c aQ];exact e2,E,e4,e5,e6,e7,e8.mono u⟩,z (λc D=>f c (by simp[D])) H⟩
theorem s4.less{w:World}(g:∀b,Q' b->Q b){R:oI}{bs:aG}(hr:s4 w Q R h bs):s4 w Q' R h bs:=hr.mono (λc _ f=>⟨rfl,λH=>f (g c H)⟩) (λ_ _=>rfl)
theorem aA5(aA:eo w0 m)(H:∀b,Q b->m.own b){c:c6}{x:PV}{q:aG}{v:Value}(h:snap m.aj ia c=some (x,q))(hr:dX m c v)(hs:∀id∈q,¬Q (m.σ id)):dq m.w Q x v:=KW aA ia h hr ⟨H,hs⟩
theorem afi(aA:eo w0 m)(Z:∀b,Q b->m.own b):∀ {D:eG}{R:oI}{o q:aG}{h:List Value},kj m.aj D=some (R,o,q)->eE m D h->(∀id∈q,¬Q (m.σ id))->
  s4 m.w Q R h (o.map m.σ)/\ ∀id∈o,∃O,(m.aj id).2=some O/\O.ij:=by
 intro D
 induction D with
 |nil=>
  intro R o q h F hr _;simp only[kj,iL,mj]at F;obtain⟨rfl,rfl,rfl⟩:=F;have:h=[]:=by have:=hr.1;simpa using this
  exact⟨⟨this,rfl⟩,λid F=>by simp at F⟩
 |cons c D ih=>
  intro R o q h F hr hq;simp only[kj]at F;split at F
  .rename_i x o1 q1 M os qs H h2;cases F;cases h with
   |nil=>simp[eE]at hr
   |cons v h=>
    obtain⟨i1,i2⟩:=ih (h:=h) h2 ⟨by have:=hr.1;simpa using this,λj x u a b=>hr.2 (j+1) x u (by simpa using a) (by simpa using b)⟩ (λid A=>hq id (by simp[A]));have Y:dX m c v:=hr.2 0 c v rfl rfl;have f:∀ {ac:PV},(snap m.aj ia c).map (λ(v,r)=>((.p v:kJ),([]:aG),r))=some (x,o1,q1)->s4 m.w Q (x::M) (v::h) ((o1++os).map m.σ)/\ ∀id∈o1++os,∃O,(m.aj id).2=some O/\O.ij:=by intro _ H;simp only[eU]at H;obtain⟨⟨ac,r⟩,h3,h4⟩:=H;cases h4;exact⟨⟨v,h,rfl,aA5 aA Z h3 Y (λid A=>hq id (by simp[A])),i1⟩,i2⟩
    unfold gR at H;split at H
    .rename_i ac;cases H;have hy:dq m.w m.own ac v:=by cases Y with|p F=>exact F
     exact⟨⟨v,h,rfl,hy.less Z,i1⟩,i2⟩
    .rename_i id g z len;split at H
     .rename_i g' ty sz y N;split at H
      .rename_i vr;obtain⟨rfl,B⟩:=vr;cases H;have E:(m.aj id).2=some (.arr ty sz y):=by rw[N]
       obtain⟨X,hh,jT,de,hl,vB,dK,dT⟩:=aA.obj id _ E;cases Y with
       |hsl ad ab hg vA L1 Pz=>
        obtain⟨f1,f2,f3⟩:=Pz sz (by rw[N]) (by rw[N];rfl);have sv:=f2 (.inl rfl);have sA:ab=m.κ id:=by rw[<-f3,kA]
        rw[zg]at sv;subst sv;subst sA;have T:I (y.take len)=len:=by simp;omega
        refine⟨⟨_,h,m.σ id,os.map m.σ,rfl,rfl,⟨m.κ id,X,by rw[T],hh,jT,λe he=>de e (yk he),by rw[T];exact vA,vB,dK,?_⟩,i1⟩,?_⟩
        .rw[T,LF de];have H:=(eI.pw.1 dT).take (len*sz);rw[EU,wS (oH _ B)]at H;exact(eI.pw.2 H).less Z
        intro j L;simp only[nA,fN,dk]at L;rcases L with rfl|L
        .exact⟨_,E,rfl⟩
        exact i2 j L
      cases H
     exact f (ac:=.xQ) H
    exact f (ac:=.xQ) H
  cases F
theorem ahF:∀(R:oI) (site:Nat) (b L:aB),(∀s,site<=s->(b s).1=(L s).1)->kC b site R=kC L site R:=by
 intro R
 induction R with
 |nil=>intro site b L _;rfl
 |cons r R f=>
  intro site b L h;have H:d_ b site r=d_ L site r:=by
   cases r with
   |p x=>rfl
   |own T sz y=>simp only[d_,h site (cT _)]
  simp only[kC,H,f (site+1) b L (λs hs=>h s J)]
theorem aGl{s c k:Nat}{o:fZ}(f:m.fr c):vO m (m.install s c k o) where
 own x _ g:=⟨rfl,λh=>g (SF f h)⟩
 gen id:=by
  simp only[bR.install,aT];split
  .rename_i e;subst e;exact H4 _
  exact cT _
 ref id H hs:=by
  simp only[bR.install,aT]at H hs |-;split at H
  .rename_i e;subst e;simp at H
  rename_i e;simp only[aw e]at hs |-;exact⟨hs,trivial,trivial,trivial⟩
theorem vO.trans{a b c:bR}(h:vO a b)(hs:a.w.heap.size<=b.w.heap.size)(k:vO b c):vO a c where
 own x g m:=by have f:=h.own x g m;have H:=k.own x (Bz g hs) f.2;exact⟨H.1.trans f.1,H.2⟩
 gen id:=lX (h.gen id) (k.gen id)
 ref id A Q:=by have f:=h.gen id;have H:=k.gen id;obtain⟨j,e1,e2,E⟩:=k.ref id J Q;obtain⟨y,u,F,z⟩:=h.ref id J j;exact⟨y,e1.trans u,e2.trans F,E.trans z⟩
theorem ark{X:bR}:∀ {R:oI}{h:List Value}{bs:aG}{site:Nat}{m:bR},eo w0 m->s4 m.w m.own R h bs->bs.Nodup->(∀c∈bs,m.fr c/\w0.heap.size<=c)->g_ X m->(∀c∈bs,X.w.heap.size<=c\/X.ij c)->
  ∃g,g.w=m.w/\eo w0 g/\g_ X g/\vO m g/\(∀c,g.fr c↔m.fr c/\c∉bs)/\g.aj=app (kC m.aj site R).2 m.aj/\eE g (kC m.aj site R).1 h:=by
 intro R
 induction R with
 |nil=>intro h bs site m aA N _ _ O _;obtain⟨rfl,rfl⟩:=N;exact⟨m,rfl,aA,O,⟨λc _ N=>⟨rfl,N⟩,λ_=>cT _,λ_ _ N=>⟨N,rfl,rfl,rfl⟩⟩,λc=>aQ,rfl,rfl,λj x u N=>by simp[kC]at N⟩
 |cons r R ih=>
  intro h bs site m aA N gk Q O D;have cons:∀ {g:bR}{x:c6}{M:eG}{v:Value}{h:List Value},dX g x v->eE g M h->eE g (x::M) (v::h):=by
   intro g x M v h Y H;refine⟨by simp[H.1],λj ac u a b=>?_⟩;cases j with
   |zero=>simp at a b;subst a b;exact Y
   |succ j=>simp at a b;exact H.2 j ac u a b
  cases r with
  |p x=>obtain⟨v,qF,rfl,Y,H⟩:=N;obtain⟨g,e1,e2,e3,e4,e5,e6,e7⟩:=ih (site:=site+1) aA H gk Q O D;exact⟨g,e1,e2,e3,e4,e5,by simpa [kC,d_]using e6,by simpa [kC,d_]using cons (dX.p (Y.ev e4)) e7⟩
  |own T sz y=>
   obtain⟨v,qF,c,zn,rfl,rfl,⟨f,Z,q1,q2,q3,q4,q5,q6,q7,q8⟩,H⟩:=N;have A:=(Q c aQ).1;have h0:=aGl (s:=site) (k:=f) (o:=.arr T sz y) A;have E:(m.install site c f (.arr T sz y)).σ site=c:=by simp[bR.install,aT]
   have B:(m.install site c f (.arr T sz y)).κ site=f:=by simp[bR.install,aT]
   have yJ:eo w0 (m.install site c f (.arr T sz y)):=Sa aA A (Q c aQ).2
    ⟨Z,by rw[E];exact q2,q3,q4,by rw[B];exact q5,by rw[B];exact q6,by rw[B];exact q7,eI.ev h0 q8⟩
   have L:=o0.1 gk;obtain⟨g,e1,e2,e3,e4,e5,e6,e7⟩:=ih (site:=site+1) (m:=m.install site c f (.arr T sz y)) yJ (H.less λb hb=>SF A hb) L.2
    (λd F=>⟨⟨(Q d (by simp[F])).1,λe=>L.1 (e▸F)⟩,(Q d (by simp[F])).2⟩) (UC O A (D c aQ)) (λd F=>D d (by simp[F]))
   have ab:kC (m.install site c f (.arr T sz y)).aj (site+1) R=kC m.aj (site+1) R:=ahF _ _ _ _ λs hs=>by simp only[bR.install,aT];rw[aw J]
   rw[ab]at e6 e7;refine⟨g,e1,e2,e3,h0.trans (cT _) e4,λd=>?_,?_,?_⟩
   .rw[e5 d];simp only[bR.install,dk,vW];exact⟨λ⟨⟨a,b⟩,c⟩=>⟨a,b,c⟩,λ⟨a,b,c⟩=>⟨⟨a,b⟩,c⟩⟩
   .rw[e6];rfl
   refine cons ?_ e7;have:dX (m.install site c f (.arr T sz y)) (.hsl site ((m.aj site).1+1) sz 0 (I y)) v:=by
    rw[q1];refine .hsl _ _ ?_ q5 q6 λz Y H=>?_
    .simp[bR.install,aT]
    have hz:mZ ((m.install site c f (.arr T sz y)).aj site)=some sz:=by simp[bR.install,aT,mZ]
    rw[hz]at H;cases H;exact⟨rfl,λ_=>by rw[E,zg],by rw[kA];exact B.symm⟩
   exact this.ev e4
def y8:RV->Value->List Value->Prop
 | .one _,v,h=>h=[v]
 | .agg l,v,h=>v=.agg h.toArray/\I h=I l
 | .tup _,_,_=>False
def EW:List RV->List Value->List Value->Prop
 |[],us,h=>us=[]/\h=[]
 |r::f,us,h=>∃u R a b,us=u::R/\h=a++b/\y8 r u a/\EW f R b
def HA:RV->Value->List Value->Prop
 | .tup R,v,h=>∃arr,v=.tuple arr/\EW R arr.toList h
 |r,v,h=>y8 r v h
theorem eE.take(H:eE m D h)(n:Nat):eE m (D.take n) (h.take n):=eE.pw.2 ((eE.pw.1 H).take n)
theorem eE.drop(H:eE m D h)(n:Nat):eE m (D.drop n) (h.drop n):=eE.pw.2 ((eE.pw.1 H).drop n)
theorem eE.append{f:eG}(H:eE m D h)(k:eE m f us):eE m (D++f) (h++us):=eE.pw.2 ((eE.pw.1 H).append (eE.pw.1 k))
theorem eE.single{c:c6}{v:Value}(h:dX m c v):eE m [c] [v]:=⟨rfl,λj x u a b=>by
 rcases j with _|j
 .simp at a b;subst a b;exact h
 simp at a⟩
theorem apt{v:V}(H:k5 v=some D)(hr:qB m v val):
  ∃h,eE m D h/\ ∀(R T:oI),I R=I D->(nD v (R++T)).2=T/\ja (nD v (R++T)).1=R/\y8 (nD v (R++T)).1 val h:=by
 cases v with
 |undef=>simp[k5]at H
 |tup h=>simp[k5]at H
 |one c=>
  simp only[k5,iL]at H;subst H;refine⟨[val],eE.single hr,λR T hl=>?_⟩
  match R,hl with
  |[r],_=>exact⟨rfl,rfl,rfl⟩
 |agg f=>
  simp only[k5,iL]at H;subst H;obtain⟨arr,rfl,g⟩:=hr;refine⟨arr.toList,g,λR T hl=>?_⟩;have u:(R++T).take (I f)=R:=by rw[<-hl];exact Gn
  have j:(R++T).drop (I f)=T:=by rw[<-hl];exact VO
  simp only[nD,ja,y8,u,j,true_and];rw[g.1,hl]
theorem aBh:∀ {g:dN}{D:eG}{f:List Value},tH g=some D->Pw (qB m) g f->
  ∃h,eE m D h/\ ∀(R:oI),I R=I D->oL (zu g R)=R/\EW (zu g R) f h:=by
 intro g
 induction g with
 |nil=>
  intro D f H hr;simp only[tH,iL]at H;subst H;have T:f=[]:=by have:=hr.1;simpa using this
  subst T;refine⟨[],⟨rfl,λj x u a=>by simp at a⟩,λR hl=>?_⟩;have:R=[]:=by simpa using hl
  subst this;exact⟨rfl,rfl,rfl⟩
 |cons w g X=>
  intro D f H hr;simp only[tH]at H;split at H
  .rename_i a b N L;cases H;cases f with
   |nil=>have:=hr.1;simp at this
   |cons val f=>
    obtain⟨y,F,Z⟩:=apt N (hr.2 0 w val rfl rfl);obtain⟨z,O,M⟩:=X (f:=f) L ⟨by have:=hr.1;simpa using this,λj x u p q=>hr.2 (j+1) x u (by simpa using p) (by simpa using q)⟩;refine⟨y++z,F.append O,λR hl=>?_⟩;have yG:I R=I a+I b:=by simpa using hl
    obtain⟨E,B,A⟩:=Z (R.take (I a)) (R.drop (I a)) (by simp;omega);rw[ot]at E B A;obtain⟨Q,Y⟩:=M (R.drop (I a)) (by simp;omega);simp only[zu,oL,E,B,Q,EW];exact⟨ot _ _,val,f,y,z,rfl,rfl,A,Y⟩
  cases H
theorem ar2{v:V}(A:nx v=some D)(hr:dm m v val):
  ∃h,eE m D h/\ ∀(R:oI),I R=I D->iV (pB v R)=R/\HA (pB v R) val h:=by
 have one:∀ {v:V},k5 v=some D->qB m v val->(∀R,pB v R=(nD v R).1)->∃h,eE m D h/\ ∀(R:oI),I R=I D->iV (pB v R)=R/\HA (pB v R) val h:=by
  intro v A hr B;obtain⟨h,z,H⟩:=apt A hr;refine⟨h,z,λR hl=>?_⟩;obtain⟨_,g,f⟩:=H R [] hl;rw[lg]at g f;rw[B];generalize(nD v R).1=y at g f;cases y with
  |tup _=>exact f.elim
  |one c=>exact⟨g,f⟩
  |agg c=>exact⟨g,f⟩
 cases v with
 |tup F=>obtain⟨arr,rfl,hs,E⟩:=hr;obtain⟨h,z,H⟩:=aBh (m:=m) (f:=arr.toList) A ⟨by simpa using hs,λj x u a b=>E j x u a (by simpa using b)⟩;exact⟨h,z,λR hl=>⟨(H R hl).1,arr,rfl,(H R hl).2⟩⟩
 |undef=>simp[nx,k5]at A
 |one c=>exact one A hr λ_=>rfl
 |agg c=>exact one A hr λ_=>rfl
theorem Wz{r:RV}{a b:List Value}(h:y8 r val a)(H:eE m D (a++b)):qB m (ox r D).1 val/\eE m (ox r D).2 b:=by
 cases r with
 |tup _=>exact h.elim
 |one c=>
  have h:a=[val]:=h;subst h;cases D with
  |nil=>have:=H.1;simp at this
  |cons x M=>exact⟨H.2 0 x val rfl rfl,by have:=H.drop 1;simpa [ox]using this⟩
 |agg l=>
  obtain⟨rfl,hl⟩:=h;refine⟨⟨_,rfl,?_⟩,?_⟩
  .have:=H.take (I l);rw[<-hl,Gn]at this
   simpa [ox,hl]using this
  have:=H.drop (I l);rw[<-hl,VO]at this
  simpa [ox,hl]using this
theorem awu:∀ {R:List RV}{D:eG}{us h:List Value},EW R us h->eE m D h->Pw (qB m) (ti R D) us:=by
 intro R
 induction R with
 |nil=>intro D us h A _;obtain⟨rfl,rfl⟩:=A;exact⟨rfl,λj x u a=>by simp[ti]at a⟩
 |cons r R B=>
  intro D us h A F;obtain⟨u,L,a,b,rfl,rfl,E,H⟩:=A;obtain⟨y,z⟩:=Wz E F;have g:=B H z;refine⟨by simp[ti,g.1],λj x v Q f=>?_⟩;cases j with
  |zero=>simp[ti]at Q f;subst Q f;exact y
  |succ j=>simp[ti]at Q f;exact g.2 j x v Q f
theorem aGu{r:RV}(H:HA r val h)(f:eE m D h):dm m (sJ r D) val:=by
 cases r with
 |tup R=>obtain⟨arr,rfl,g⟩:=H;have:=awu g f;exact⟨arr,rfl,by simpa using this.1,λj x u a b=>this.2 j x u a (by simpa using b)⟩
 |one c=>have:=(Wz (b:=[]) (show y8 (.one c) val h from H) (by simpa using f)).1;exact dm.of1 this
 |agg c=>have:=(Wz (b:=[]) (show y8 (.agg c) val h from H) (by simpa using f)).1;exact dm.of1 this
end
section
variable{L:aB}{site:Nat}{D:qM}{E:mL}{j:bn}{Y:kS}
def kU(ids:aG)(b L:aB):Prop:=∀id∈ids,L id=b id
def uv(T:aG)(e e':bn):Prop:=∀t∈T,e' t=e t
theorem kU.left{x y:aG}{b:aB}(h:kU (x++y) b L):kU x b L:=λi H=>h i (by simp[H])
theorem kU.right{x y:aG}{b:aB}(h:kU (x++y) b L):kU y b L:=λi H=>h i (by simp[H])
theorem uv.left{x y:aG}{b L:bn}(h:uv (x++y) b L):uv x b L:=λi H=>h i (by simp[H])
theorem uv.right{x y:aG}{b L:bn}(h:uv (x++y) b L):uv y b L:=λi H=>h i (by simp[H])
section
variable {e e':bn}
theorem ib{a:fu}(h:uv a.tmps e e'):ev e' a=ev e a:=by
 cases a with
 |t n=>exact h n (by simp[fu.tmps])
 |_=>rfl
theorem aDM:∀ {as:sM},uv (Fv as) e e'->as.map (ev e')=as.map (ev e):=by
 intro as
 induction as with
 |nil=>intro _;rfl
 |cons a r f=>intro h;simp only[eR];rw[ib h.left,f h.right]
theorem aoz:∀ {as:sM},uv (Fv as) e e'->zj e' as=zj e as:=by
 intro as
 induction as with
 |nil=>intro _;rfl
 |cons a r f=>intro h;simp only[zj];rw[ib h.left,f h.right]
theorem aAV:∀ {as:sM},uv (Fv as) e e'->Bx e' sz as=Bx e sz as:=by
 intro as
 induction as with
 |nil=>intro _;rfl
 |cons a r f=>intro h;simp only[Bx];rw[ib h.left,f h.right]
theorem att:∀ {as:List (Nat×Nat×fu)},uv (aep as) e e'->A7 e' as=A7 e as:=by
 intro as
 induction as with
 |nil=>intro _;rfl
 |cons a r f=>intro h;obtain⟨x,y,a⟩:=a;simp only[A7];rw[ib h.left,f h.right]
theorem VU{d:Nat}{a:Option fu}(h:uv (WY a) e e'):u_ e' d a=u_ e d a:=by
 cases a with
 |none=>rfl
 |some a=>simp only[u_];rw[ib h]
theorem arZ{a:fu}(h:uv a.tmps e e'):GO e' a=GO e a:=by unfold GO;rw[ib h]
theorem Xk{E:Nat->Bool}{aj:aB}{p:rK}(h:uv p.tmps e e'):cZ E e' aj p=cZ E e aj p:=by
 cases p with
 |nv x=>simp only[cZ,ib (a:=x) h]
 |pick c a b=>simp only[cZ,ib (a:=c) h.left.left,ib (a:=a) h.left.right,ib (a:=b) h.right]
 |alloc s z=>rfl
 |box s x=>simp only[cZ,ib (a:=x) h]
 |build z ps=>simp only[cZ,att (as:=ps) h]
 |Iv s T sz ps=>simp only[cZ,aAV (as:=ps) h]
 |load k x=>simp only[cZ,ib (a:=x) h]
 |store n a x=>simp only[cZ,ib (a:=a) h.left,ib (a:=x) h.right]
 |QG x=>simp only[cZ,ib (a:=x) h]
 |bin op x y=>simp only[cZ,ib (a:=x) h.left,ib (a:=y) h.right]
 |eqc k n x y=>simp only[cZ,ib (a:=x) h.left,ib (a:=y) h.right]
 |un op x=>simp only[cZ,ib (a:=x) h]
 |conv k x=>simp only[cZ,ib (a:=x) h]
 |bstr x=>simp only[cZ,ib (a:=x) h]
 |mkfn f a b=>simp only[cZ,aoz (as:=a) h.left,aoz (as:=b) h.right]
 |mkmap s ag=>rfl
 |QC s T sz bytes z l c=>simp only[cZ,ib (a:=l) h.left,ib (a:=c) h.right]
 |slice sz x lo H=>simp only[cZ,ib (a:=x) h.left.left,VU (a:=lo) h.left.right,VU (a:=H) h.right]
 |sslice x lo H=>simp only[cZ,ib (a:=x) h.left.left,VU (a:=lo) h.left.right,VU (a:=H) h.right]
 |Ca O x=>simp only[cZ,ib (a:=x) h]
 |Ql sz x i=>simp only[cZ,ib (a:=x) h.left,ib (a:=i) h.right]
 |N5 l sz x i=>simp only[cZ,ib (a:=x) h.left,ib (a:=i) h.right]
 |fld O k x=>simp only[cZ,ib (a:=x) h]
 |aidx l sz k x i=>simp only[cZ,ib (a:=x) h.left,ib (a:=i) h.right]
 |sidx x i=>simp only[cZ,ib (a:=x) h.left,ib (a:=i) h.right]
 |lookup kd z ag ok x k=>simp only[cZ,ib (a:=x) h.left,ib (a:=k) h.right]
 |mupd kd ag m k v=>simp only[cZ,ib (a:=m) h.left.left,ib (a:=k) h.left.right,ib (a:=v) h.right]
 |bad=>rfl
 |extract x i=>simp only[cZ,ib (a:=x) h]
 |call s f as=>simp only[cZ,arZ (a:=f) h.left,aDM (as:=as) h.right]
 |slen x=>simp only[cZ,ib (a:=x) h]
 |Qu x=>simp only[cZ,ib (a:=x) h]
 |mlen x=>simp only[cZ,ib (a:=x) h]
 |append s T sz b x y=>simp only[cZ,ib (a:=x) h.left,ib (a:=y) h.right]
 |max x y=>simp only[cZ,ib (a:=x) h.left,ib (a:=y) h.right]
 |min x y=>simp only[cZ,ib (a:=x) h.left,ib (a:=y) h.right]
 |clear z x=>simp only[cZ,ib (a:=x) h]
end
section
variable {b L:aB}
theorem yQ{α β:Type}{f g:α->Option (β×aG)}(j:∀x y r,f x=some (y,r)->kU r b L->g x=some (y,r)):∀ {M:List α}{ys:List β}{r:aG},ic f M=some (ys,r)->kU r b L->ic g M=some (ys,r):=by
 intro M
 induction M with
 |nil=>intro ys r h _;exact h
 |cons x M m=>
  intro ys r h H;simp only[ic]at h |-;split at h
  .rename_i y p bs q e1 e2;cases h;rw[j _ _ _ e1 H.left,m e2 H.right]
  cases h
theorem Nh:∀(n:Nat) (c:c6) (x:PV) (r:aG),snap b n c=some (x,r)->kU r b L->snap L n c=some (x,r):=by
 intro n
 induction n with
 |zero=>intro c x r h;simp[snap]at h
 |succ n u=>
  intro c x r h j;cases c with
  |p v=>exact h
  |bh id g O=>
   have H:id∈r:=by
    simp only[snap]at h
    (repeat' split at h)<;>first
     |cases h
     |skip
    all_goals simp
   have m:=j id H;simp only[snap]at h |-;rw[m];split at h
   .split at h
    .rename_i A;rw[aH A];split at h
     .rename_i D;cases h;rw[yQ u D (λi B=>j i (by simp[B]))]
     cases h
    cases h
   .exact h
   cases h
  |dY id g i O=>
   have H:id∈r:=by
    simp only[snap,eU]at h
    (repeat' split at h)<;>first
     |cases h
     |skip
    all_goals(simp only[eU]at h;obtain⟨e,_,h⟩:=h;cases h;simp)
   have m:=j id H;simp only[snap]at h |-;rw[m];exact h
  |hsl id g z O len=>
   have H:id∈r:=by
    simp only[snap]at h
    (repeat' split at h)<;>first
     |cases h
     |skip
    all_goals simp
   have m:=j id H;simp only[snap]at h |-;rw[m];split at h
   .exact h
   .exact h
   .split at h
    .rename_i A;rw[aH A];split at h
     .rename_i D;cases h;rw[yQ (λ_ _ _ p q=>yQ u p q) D (λi B=>j i (by simp[B]))]
     cases h
    cases h
   cases h
  |mS id g=>
   have H:id∈r:=by
    simp only[snap]at h
    (repeat' split at h)<;>first
     |cases h
     |skip
    all_goals simp
   have m:=j id H;simp only[snap]at h |-;rw[m];exact h
  |hfn f x y=>
   simp only[snap]at h |-;split at h
   .rename_i F E;cases h;rw[yQ u F j.left,yQ u E j.right]
   cases h
theorem awe(x y:V)(r:aG)(h:pX b x=some (y,r))(g:kU r b L):pX L x=some (y,r):=by
 cases x with
 |undef=>simp[pX]at h
 |tup _=>simp[pX]at h
 |one c=>simp only[pX,eU]at h |-;obtain⟨⟨p,q⟩,f,H⟩:=h;cases H;exact⟨_,Nh _ _ _ _ f g,rfl⟩
 |agg D=>simp only[pX,eU]at h |-;obtain⟨⟨p,q⟩,f,H⟩:=h;cases H;exact⟨_,yQ (Nh _) f g,rfl⟩
theorem aFO{r:aG}(h:Dj b M=some (ys,r))(H:kU r b L):Dj L M=some (ys,r):=yQ awe h H
theorem axr{all:aG}{id:Nat}(h:zC b all id=some u)(f:id∈all)(H:kU all b L):zC L all id=some u:=by
 have m:=H id f;unfold zC at h |-;rw[m];split at h
 .split at h
  .rename_i ps r g;split at h
   .rename_i hr;have T:kU r b L:=λi j=>H i (by have:=jP.1 hr i j;simpa using this);rw[yQ (Nh _) g T];simp only;rw[aH hr];exact h
   cases h
  cases h
 .exact h
 .split at h
  .rename_i ps r g;split at h
   .rename_i hr;have T:kU r b L:=λi j=>H i (by have:=jP.1 hr i j;simpa using this);rw[yQ (λ_ _ _ p q=>yQ (Nh _) p q) g T];simp only;rw[aH hr];exact h
   cases h
  cases h
 .exact h
 .cases h
 exact h
theorem aFU{all:aG}(g:kU all b L):∀ {ids:aG}{u:lA},(∀i∈ids,i∈all)->vV b all ids=some u->vV L all ids=some u:=by
 intro ids
 induction ids with
 |nil=>intro u _ h;exact h
 |cons i r m=>
  intro u hs h;simp only[vV]at h |-;split at h
  .rename_i x y z H;cases h;rw[axr z (hs i aQ) g,m (λj f=>hs j (by simp[f])) H]
  cases h
theorem Om{ids:aG}(h:t_ b ids=some u)(H:kU ids b L):t_ L ids=some u:=aFU H (λ_ h=>h) h
theorem auv{r:kJ}(h:kU ((d_ b site r).2.map (·.1)) b L):d_ L site r=d_ b site r:=by
 cases r with
 |p x=>rfl
 |own T sz y=>simp only[d_];rw[h site (by simp[d_])]
theorem axA:∀ {R:oI}{site:Nat},kU ((kC b site R).2.map (·.1)) b L->kC L site R=kC b site R:=by
 intro R
 induction R with
 |nil=>intro site _;rfl
 |cons r R f=>intro site h;simp only[kC,lU]at h |-;rw[auv h.left,f h.right]
theorem amQ{r:RV}(h:kU ((jf b site r).2.map (·.1)) b L):jf L site r=jf b site r:=by unfold jf at h |-;simp only at h;rw[axA h]
theorem aqq{rd:aG}{r:RV}{v:V}(h:eF b rd site r=some (v,u))(j:kU rd b L)(H:kU (u.map (·.1)) b L):eF L rd site r=some (v,u):=by
 unfold eF at h |-;split at h
 .rename_i f;rw[aH f];cases h;rw[amQ H];rfl
 rename_i f;rw[aw f];split at h
 .rename_i F g;cases h;rw[Om g j];simp only;rw[lU]at H;rw[amQ H.right]
 cases h
theorem aoZ{D:eG}{r:aG}(h:Dk b x=some (D,r))(f:kU r b L):Dk L x=some (D,r):=by
 have key:∀id,(id∈r->L id=b id):=λid H=>f id H;unfold Dk at h |-;split at h
 .exact h
 .rename_i id g O;have H:id∈r:=by
   (repeat' split at h)<;>first
    |cases h
    |skip
   all_goals simp
  simp only[key id H];exact h
 .rename_i id g i O;have H:id∈r:=by
   (repeat' split at h)<;>first
    |cases h
    |skip
   all_goals(simp only[eU]at h;obtain⟨e,_,h⟩:=h;cases h;simp)
  simp only[key id H];exact h
 cases h
theorem aBQ{n:Nat}{r:aG}(h:AT b x=some (n,r))(f:kU r b L):AT L x=some (n,r):=by
 have key:∀id,(id∈r->L id=b id):=λid H=>f id H;unfold AT at h |-;split at h
 .exact h
 .exact h
 .rename_i id g;have H:id∈r:=by
   (repeat' split at h)<;>first
    |cases h
    |skip
   all_goals simp
  simp only[key id H];exact h
 cases h
theorem atD{r:aG}(h:ni b ag x=some (y,r))(f:kU r b L):ni L ag x=some (y,r):=by
 have key:∀id,(id∈r->L id=b id):=λid H=>f id H;unfold ni at h |-;split at h
 .exact h
 .exact h
 .rename_i id g;have H:id∈r:=by
   (repeat' split at h)<;>first
    |cases h
    |skip
   all_goals simp
  simp only[key id H];exact h
 cases h
theorem N2{y:s_}{r fr:aG}(h:fz b x=some (y,r,fr))(j:kU r b L)(f:kU fr b L):fz L x=some (y,r,fr):=by
 have key:∀id,(id∈r->L id=b id):=λid H=>j id H;unfold fz at h |-;split at h
 .exact h
 .exact h
 .rename_i id g z O len;have H:id∈r:=by
   (repeat' split at h)<;>first
    |cases h
    |skip
   all_goals simp
  simp only[key id H];split at h
  .exact h
  .exact h
  .split at h
   .rename_i u;rw[aH u];split at h
    .rename_i m;cases h;rw[yQ (λ_ _ _ p q=>yQ (Nh _) p q) m f]
    cases h
   cases h
  exact h
 cases h
theorem arl{a:V}{n:Nat}{M:eG}{v:V}{r:aG}(h:Cc b a n M=.done v u r)(f:kU r b L):Cc L a n M=.done v u r:=by
 have key:∀id,(id∈r->L id=b id):=λid H=>f id H;unfold Cc at h |-;split at h
 .cases h
 rename_i j;rw[aw j];split at h
 .rename_i id g O;have H:id∈r:=by
   (repeat' split at h)<;>first
    |cases h
    |skip
   all_goals simp
  simp only[key id H];exact h
 .rename_i id g i O;have H:id∈r:=by
   (repeat' split at h)<;>first
    |cases h
    |skip
   all_goals simp
  simp only[key id H];exact h
 cases h
theorem aCC{T bytes:Nat}{s v:V}{r:aG}(h:af b site T sz bytes s x=.done v u r)(j:kU r b L):af L site T sz bytes s x=.done v u r:=by
 unfold af at h |-;split at h
 .cases h
 rename_i new rd fr dY;split at h
 .cases h
 rename_i D;split at h
 .cases h
 rename_i M A;have f:∀ {l:aG},(∀i∈l,i∈r)->kU l b L:=λhl i H=>j i (hl i H);split at h
 .split at h
  .rename_i m;cases h;rw[N2 dY j.left j.right];simp only;rw[aw D,Om A j.right];simp only;rw[aH m]
  rename_i m;split at h
  .rename_i hr;cases h;rw[N2 dY (f λi H=>by simp[H]) (f λi H=>by simp[H])];simp only;rw[aw D,Om A (f λi H=>by simp[H])];simp only;rw[aw m,aH hr,j site aQ]
  cases h
 .split at h
  .cases h
  rename_i m;split at h
  .rename_i hr;cases h;rw[N2 dY (f λi H=>by simp[H]) (f λi H=>by simp[H])];simp only;rw[aw D,Om A (f λi H=>by simp[H])];simp only;rw[aw m,aH hr,j site aQ]
  cases h
 .rename_i id g z len;split at h
  .rename_i N O F y E;split at h
   .rename_i hr;cases h;rw[N2 dY (f λi H=>by simp[H]) (f λi H=>by simp[H])];simp only;rw[aw D,Om A (f λi H=>by simp[H])];simp only;have B:=j id aQ;rw[E]at B;simp only[B];rw[aH hr,j site aQ]
   cases h
  cases h
 cases h
end
theorem aDL{E:Nat->Bool}{e:bn}{b:aB}{p:rK}{v:V}{r:aG}(h:cZ E e b p=.done v u r)(H:kU r b L):cZ E e L p=.done v u r:=by
 cases p with
 |alloc s z=>simp only[cZ,A_.done.injEq]at h |-;obtain⟨Q,N,A⟩:=h;rw[H s (by rw[<-A];simp)];exact⟨Q,N,A⟩
 |mkmap s ag=>simp only[cZ,A_.done.injEq]at h |-;obtain⟨Q,N,A⟩:=h;rw[H s (by rw[<-A];simp)];exact⟨Q,N,A⟩
 |box s x=>
  simp only[cZ]at h |-;split at h
  .cases h;rw[H s aQ]
  cases h
 |Iv s T sz ps=>
  simp only[cZ]at h |-;split at h
  .split at h
   .cases h;rw[H s aQ]
   cases h;rw[H s aQ]
  cases h
 |QC s T sz bytes z l c=>
  simp only[cZ]at h |-;split at h
  .split at h
   .rename_i B;cases h;rw[aH B,H s aQ]
   cases h
  cases h
 |load k x=>
  simp only[cZ]at h |-;split at h
  .rename_i D q F;split at h
   .rename_i v' hv;cases h;rw[aoZ F H];simp only[hv]
   cases h
  cases h
 |store n a x=>
  simp only[cZ]at h |-;split at h
  .exact arl h H
  cases h
 |bstr x=>
  simp only[cZ]at h |-;split at h
  .rename_i y q F;split at h
   .rename_i bs j;cases h;rw[N2 F H (λi hi=>by simp at hi)];simp only[j]
   cases h
  cases h
 |lookup kd z ag ok x k=>
  simp only[cZ]at h |-;split at h
  .rename_i y q key hm Y;split at h
   .cases h
   rename_i DY;split at h
   .rename_i f M;split at h
    .rename_i w hw;cases h;rw[atD hm H,Y];simp only;rw[aw DY];simp only[M,hw]
    cases h
   cases h
  cases h
 |clear z x=>
  simp only[cZ]at h |-;split at h
  .cases h;rfl
  .cases h;rfl
  .rename_i id g w ab len e;split at h
   .rename_i R;cases h;simp only[R,if_true]
   rename_i R;split at h
   .rename_i Z T sz y O;split at h
    .rename_i B;cases h;have j:=H id aQ;rw[O]at j;rw[aw R];simp only[j];rw[aH B]
    cases h
   cases h
  cases h
 |mupd kd ag m k v=>
  simp only[cZ]at h |-;split at h
  .rename_i id g q D Q N A;split at h
   .rename_i Z vU y ps O X;split at h
    .rename_i B;split at h
     .rename_i i w M;cases h;have j:=H id aQ;rw[O]at j;simp only[j,X];rw[aH B];simp only[M]
     .rename_i M;cases h;have j:=H id aQ;rw[O]at j;simp only[j,X];rw[aH B];simp only[M]
     cases h
    cases h
   cases h
  cases h
 |mlen x=>
  simp only[cZ]at h |-;split at h
  .rename_i n q F;cases h;rw[aBQ F H]
  cases h
 |append s T sz bytes x ac=>exact aCC h H
 |call s f as=>
  simp only[cZ]at h
  (repeat' split at h)<;>cases h
 |_=>exact h
theorem ar0{E:Nat->Bool}{e:bn}{b:aB}{p:rK}{s:Nat}{h:dN}{r:aG}(H:cZ E e b p=.pc f h r s)(j:kU r b L):cZ E e L p=.pc f h r s:=by
 cases p with
 |call s f as=>
  simp only[cZ]at H |-;split at H
  .split at H
   .cases H
   rename_i g;rw[aw g];split at H
   .rename_i hs;cases H;rw[aFO hs j]
   cases H
  cases H
 |_=>
  (simp only[cZ,Cc,af,F3,reduceCtorEq]at H)<;>(repeat' split at H)<;>cases H
theorem auN{E:Nat->Bool}{e:bn}{b:aB}{p:rK}{h:dN}(H:cZ E e b p=.sc f h):cZ E e L p=.sc f h:=by
 cases p with
 |call s f as=>
  simp only[cZ]at H |-;split at H
  .split at H
   .rename_i g;rw[aH g];exact H
   split at H<;>cases H
  cases H
 |_=>
  (simp only[cZ,Cc,af,F3,reduceCtorEq]at H)<;>(repeat' split at H)<;>cases H
theorem auF:∀(u:lA) (b L:aB) (id:Nat),id∈u.map (·.1)->app u b id=app u L id:=by
 intro u
 induction u with
 |nil=>intro b L id h;simp at h
 |cons x u f=>
  intro b L id h;obtain⟨i,o⟩:=x;simp only[app];by_cases H:id∈u.map (·.1)
  .exact f _ _ _ H
  have g:id=i:=by simpa [H]using h
  have key:∀(u:lA) (b:aB),id∉u.map (·.1)->app u b id=b id:=by
   intro u
   induction u with
   |nil=>intro b _;rfl
   |cons x u f=>intro b h;obtain⟨j,o⟩:=x;simp only[eR,dk,vW]at h;simp only[app];rw[f _ h.2,aT,aw h.1]
  rw[key u _ H,key u _ H,aT,aT,aH g,aH g]
theorem abD:∀(u:lA) (b:aB) (id:Nat),id∉u.map (·.1)->app u b id=b id:=by
 intro u
 induction u with
 |nil=>intro b id _;rfl
 |cons x u f=>intro b id h;obtain⟨j,o⟩:=x;simp only[eR,dk,vW]at h;simp only[app];rw[f _ _ h.2,aT,aw h.1]
theorem auG{e e':bn}{g:Option (Nat×Bool)}(h:∀t w,g=some (t,w)->e' t=e t):s3 e' g=s3 e g:=by
 cases g with
 |none=>rfl
 |some q=>obtain⟨t,w⟩:=q;simp only[s3,h t w rfl]
def iT.writes(f:iT)(id:Nat):Bool:=f.wr.contains id||f.fs.contains (kO id)
def iT.w9(f:iT)(id:Nat):Bool:=f.rd.contains id||f.writes id
theorem afz{b:aB}:∀(n:Nat) (c:c6),kU (l7 b n c) b L->l7 L n c=l7 b n c:=by
 intro n
 induction n with
 |zero=>intro c _;rfl
 |succ n B=>
  have m:∀(D:eG),kU (D.map (l7 b n)).flatten b L->(D.map (l7 L n)).flatten=(D.map (l7 b n)).flatten:=by
   intro D
   induction D with
   |nil=>intro _;rfl
   |cons c D A=>intro h;simp only[eR,lI]at h |-;rw[B c h.left,A h.right]
  intro c h;cases c with
  |p v=>rfl
  |bh id g O=>
   simp only[l7]at h |-;have H:=h id aQ;rw[H];split
   .rename_i D u;rw[u]at h;rw[m D (λi j=>h i (by simp only[dk];exact .inr j))]
   rfl
  |dY id g i O=>
   simp only[l7]at h |-;have H:=h id aQ;rw[H];split
   .rename_i D u;rw[u]at h;rw[m _ (λi j=>h i (by simp only[dk];exact .inr j))]
   rfl
  |hsl id g z O len=>
   simp only[l7]at h |-;have H:=h id aQ;rw[H];split
   .rename_i D u;rw[u]at h;rw[m _ (λi j=>h i (by simp only[dk];exact .inr j))]
   rfl
  |mS id g=>rfl
  |hfn f x y=>simp only[l7]at h |-;rw[m x h.left,m y h.right]
theorem azD{b:aB}(v:V)(h:kU (jA b v) b L):jA L v=jA b v:=by
 cases v with
 |undef=>rfl
 |tup _=>rfl
 |one c=>exact afz _ _ h
 |agg D=>
  simp only[jA]at h |-
  induction D with
  |nil=>rfl
  |cons c D f=>simp only[eR,lI]at h |-;rw[afz _ c h.left,f h.right]
theorem aDH{h:dN}{b:aB}(H:kU (f_ E f h b).ids b L):f_ E f h L=f_ E f h b:=by
 have:(h.map (jA L)).flatten=(h.map (jA b)).flatten:=by
  unfold f_ at H;simp only at H
  induction h with
  |nil=>rfl
  |cons v h g=>simp only[eR,lI]at H |-;rw[azD v H.left,g H.right]
 unfold f_;rw[this]
def P3(D:qM):Prop:=∀f h al aj v F,D f h al aj=some (v,F)->(∀id,al.ok id=false->F id=aj id)/\
 ∀bJ,(∀id,al.ok id->bJ id=aj id)->∃g,D f h al bJ=some (v,g)/\ ∀id,g id=if al.ok id then F id else bJ id
theorem TC{al:cG}{l:aG}(h:al.gH l){id:Nat}(H:id∈l):al.ok id:=jP.1 h id H
theorem ayK{a b:cG}(j:b.any=false)(h:a.holds b){id:Nat}(H:b.ok id):a.ok id:=by
 unfold cG.holds at h;simp only[oG,dj]at h;rcases h with h|⟨g,f⟩
 .simp[cG.ok,h]
 simp only[cG.ok,j,DJ,oG]at H;rcases H with H|H
 .exact TC g (by simpa using H)
 have:=jP.1 f (kO id) (by simpa using H);simp only[cG.ok,oG];exact .inr this
theorem Xt(dK:P3 D){o:iP}{aj:aB}{f:iT}(y:mM E Y D o j aj=some (X,F,f)):
  ∃v,X=dF j o.dst v/\(∀id,f.writes id=false->F id=aj id)/\(∀id,f.w9 id->E.al.ok id)/\
   ∀(m:bn) (bJ:aB),uv o.Kb j m->(∀id,f.w9 id->bJ id=aj id)->
    ∃R,mM E Y D o m bJ=some (dF m o.dst v,R,f)/\ ∀id,R id=if f.writes id then F id else bJ id:=by
 have B:∀(m:bn),uv o.Kb j m->uv o.op.tmps j m/\s3 m o.guard=s3 j o.guard:=by intro m y;unfold iP.Kb at y;exact⟨y.left,auG λt w hg=>y.right t (by rw[hg];simp)⟩
 have M:∀(r w:aG) (id:Nat),(⟨r,w,[]⟩:iT).writes id=w.contains id:=by intro r w id;simp[iT.writes]
 have N:∀(r w:aG) (id:Nat),(⟨r,w,[]⟩:iT).w9 id↔id∈r\/id∈w:=by intro r w id;simp[iT.w9,iT.writes]
 have Q:∀(u:lA) (b b2:aB) (r:aG) (id:Nat),app u b2 id=if(⟨r,u.map (·.1),[]⟩:iT).writes id then app u b id else b2 id:=by
  intro u b b2 r id;rw[M];by_cases H:id∈u.map (·.1)
  .rw[aH (by simpa using H)];exact auF _ _ _ _ H
  rw[aw (by simpa using H)];exact abD _ _ _ H
 unfold mM at y;split at y
 .cases y
 .rename_i O;cases y;refine⟨.undef,rfl,λ_ _=>rfl,λid H=>by simp[iT.w9,iT.writes]at H,λm bJ z A=>⟨bJ,?_,λid=>by simp[iT.writes]⟩⟩;unfold mM;rw[(B m z).2,O]
 rename_i O;split at y
 .cases y
 .rename_i v u r hp;split at y
  .rename_i aA;cases y;refine⟨v,rfl,λid H=>abD _ _ _ (by rw[M]at H;simpa using H),λid H=>TC aA (by have:=(N _ _ _).1 H;simpa using this),λm bJ z A=>⟨app u bJ,?_,λid=>Q _ _ _ _ _⟩⟩;unfold mM;rw[(B m z).2,O];simp only;rw[Xk (B m z).1,aDL hp λid H=>A id ((N _ _ _).2 (.inl H))];simp only;rw[aH aA]
  cases y
 .rename_i g h r s hp;split at y
  .rename_i x hx;split at y
   .rename_i v u hl;split at y
    .rename_i aA;cases y;refine⟨v,rfl,λid H=>abD _ _ _ (by rw[M]at H;simpa using H),λid H=>TC aA (by have:=(N _ _ _).1 H;simp at this |-;rcases this with y|y<;>simp[y]),λm bJ z A=>⟨app u bJ,?_,λid=>Q _ _ _ _ _⟩⟩;unfold mM;rw[(B m z).2,O];simp only;rw[Xk (B m z).1,ar0 hp λid H=>A id ((N _ _ _).2 (.inl (by simp[H])))];simp only[hx];rw[aqq hl (λid H=>A id ((N _ _ _).2 (.inl (by simp[H])))) λid H=>A id ((N _ _ _).2 (.inr H))];simp only;rw[aH aA]
    cases y
   cases y
  cases y
 rename_i g h hp;split at y
 .rename_i aA;split at y
  .rename_i v b1 hx;cases y;have Z:∀id,(⟨(f_ E g h aj).ids,(f_ E g h aj).ids,(f_ E g h aj).fs⟩:iT).writes id=(f_ E g h aj).ok id:=by
    intro id;simp[iT.writes,cG.ok,f_]
   have L:∀id,(⟨(f_ E g h aj).ids,(f_ E g h aj).ids,(f_ E g h aj).fs⟩:iT).w9 id=(f_ E g h aj).ok id:=by intro id;simp only[iT.w9,Z];simp only[cG.ok];cases(f_ E g h aj).ids.contains id<;>simp
   obtain⟨l1,l2⟩:=dK _ _ _ _ _ _ hx;refine⟨v,rfl,λid H=>l1 id (by rw[<-Z];exact H),λid H=>ayK rfl aA (by rw[<-L];exact H),λm bJ z A=>?_⟩;obtain⟨R,g1,g2⟩:=l2 bJ λid H=>A id (by rw[L];exact H);have T:f_ E g h bJ=f_ E g h aj:=aDH λid H=>A id (by rw[L];simp[cG.ok,H]);refine⟨R,?_,λid=>by rw[Z];exact g2 id⟩;unfold mM;rw[(B m z).2,O];simp only;rw[Xk (B m z).1,auN hp];simp only[T];rw[aH aA];simp only[g1]
  cases y
 cases y
theorem aEx(j:bn){d D:eh}(v f:V)(h:∀t,d=some t->D≠some t):dF (dF j d v) D f=dF (dF j D f) d v:=by
 cases d with
 |none=>rfl
 |some t=>
  cases D with
  |none=>rfl
  |some T=>
   have A:T≠t:=λe=>h t rfl (by rw[e]);funext x;simp only[dF,aT];by_cases H:x=t
   .subst H;rw[aH rfl,aw (λe=>A e.symm),aH rfl]
   rw[aw H,aw H]
theorem akM{d:eh}{v:V}{t:Nat}(h:d≠some t):dF j d v t=j t:=by
 cases d with
 |none=>rfl
 |some x=>simp only[dF,aT];rw[aw (λe=>h (by rw[e]))]
theorem Rv{a b:aG}(h:rQ a b=false){i:Nat}(f:i∈a):i∉b:=by
 intro H;have:rQ a b:=by simp only[rQ,CQ];exact⟨i,f,by simpa using H⟩
 rw[h]at this;cases this
theorem ach{fs ids:aG}(h:yg fs ids=false){i:Nat}(f:i∈ids):kO i∉fs:=by
 intro H;have:yg fs ids:=by simp only[yg,CQ];exact⟨i,f,by simpa using H⟩
 rw[h]at this;cases this
theorem asx{a b:iT}(h:xZ a b=false)(id:Nat):(a.writes id->b.w9 id=false)/\(b.writes id->a.w9 id=false):=by
 simp only[xZ,HG]at h;obtain⟨⟨⟨⟨⟨j,g⟩,u⟩,c5⟩,c4⟩,ft⟩:=h;have sw:∀ {x y:aG},rQ x y=false->rQ y x=false:=by
  intro x y h;cases f:rQ y x with
  |false=>rfl
  |true=>simp only[rQ,CQ]at f;obtain⟨i,z,m⟩:=f;exact absurd z (Rv h (by simpa using m))
 have one:∀ {a b:iT},rQ a.wr b.rd=false->rQ a.wr b.wr=false->rQ a.fs b.fs=false->yg a.fs (b.rd++b.wr)=false->yg b.fs (a.rd++a.wr)=false->a.writes id->b.w9 id=false:=by
  intro a b j g c5 c4 ft H;simp only[iT.writes,oG]at H;simp only[iT.w9,iT.writes,HG];rcases H with H|H
  .have H:id∈a.wr:=by simpa using H
   exact⟨by simpa using Rv j H,by simpa using Rv g H,by simpa using ach ft (i:=id) (by simp[H])⟩
  have H:kO id∈a.fs:=by simpa using H
  refine⟨?_,?_,?_⟩
  .cases f:b.rd.contains id with
   |false=>rfl
   |true=>exact absurd H (ach c4 (i:=id) (by simp at f;simp[f]))
  .cases f:b.wr.contains id with
   |false=>rfl
   |true=>exact absurd H (ach c4 (i:=id) (by simp at f;simp[f]))
  simpa using Rv c5 H
 exact⟨one j g c5 c4 ft,one (sw u) (sw g) (sw c5) ft c4⟩
theorem swap{E:mL}{Y:kS}{D:qM}(dK:P3 D){x y:iP}{j T:bn}{aj:aB}{e1 e2:iT}(hx:mM E Y D x j aj=some (gK,bY,e1))(hy:mM E Y D y gK bY=some (T,bJ,e2))
  (A:GN x y) (hc:xZ e1 e2=false):∃g B,mM E Y D y j aj=some (g,B,e2)/\mM E Y D x g B=some (T,bJ,e1):=by
 obtain⟨v1,rfl,Q,_,M⟩:=Xt dK hx;obtain⟨Z,rfl,X,_,N⟩:=Xt dK hy;have O:∀t,x.dst=some t->t∉y.Kb/\y.dst≠some t:=by intro t f;simp only[GN,f,dj]at A;have H:=A.1;simp at H;exact⟨by simpa using H.1,H.2⟩
 have A3:∀t,y.dst=some t->t∉x.Kb:=by
  intro t f;simp only[GN,f,dj]at A;have H:=A.2
  simpa using H
 have F:=asx hc;have nw:∀ {a b:iT}{id:Nat},(a.writes id->b.w9 id=false)->b.w9 id->a.writes id=false:=by
  intro a b id H u;cases h:a.writes id with
  |false=>rfl
  |true=>rw[H h]at u;cases u
 have wt:∀ {a:iT}{id:Nat},a.writes id->a.w9 id:=by intro a id h;simp[iT.w9,h]
 obtain⟨B,L,R⟩:=N j aj (λt f=>(akM λe=>(O t e).1 f).symm) (λid m=>(Q id (nw (F id).1 m)).symm);obtain⟨z,zS,xb⟩:=M (dF j y.dst Z) B (λt f=>akM λe=>A3 t e f) (λid m=>by rw[R id,nw (F id).2 m];rfl)
 refine⟨_,B,L,?_⟩;rw[zS,aEx j v1 Z λt f=>(O t f).2];have:z=bJ:=by
  funext id;rw[xb id,R id];cases H:e1.writes id with
  |true=>have u:e2.writes id=false:=nw (F id).2 (wt H);exact(X id u).symm
  |false=>
   cases u:e2.writes id with
   |true=>rfl
   |false=>simp only[eX,if_false];rw[X id u,Q id H]
 rw[this]
structure DF where
 i:Nat
 io:iP
 e:iT
def VS(x y:DF):Prop:=GN x.io y.io=true/\xZ x.e y.e=false
theorem ag0{o:iP}{r:eZ}{aj:aB}{e:iT}{y:fU}(h:ju E Y D (o::r) j aj=some (X,F,e::y)):
  ∃gK bY,mM E Y D o j aj=some (gK,bY,e)/\ju E Y D r gK bY=some (X,F,y):=by
 simp only[ju]at h;split at h
 .rename_i gK bY e1 g;split at h
  .rename_i m bJ f H;cases h;exact⟨gK,bY,g,H⟩
  cases h
 cases h
theorem aqM{o:iP}{r:eZ}{aj:aB}{e:iT}{y:fU}(h:mM E Y D o j aj=some (gK,bY,e))(H:ju E Y D r gK bY=some (X,F,y)):
  ju E Y D (o::r) j aj=some (X,F,e::y):=by
 simp only[ju,h,H]
theorem av8(dK:P3 D){y:DF}{f:List DF}:∀ {L:List DF}{j X:bn}{aj F:aB},ju E Y D ((L++y::f).map (·.io)) j aj=some (X,F,(L++y::f).map (·.e))->(∀x∈L,VS x y)->
  ∃gK bY,mM E Y D y.io j aj=some (gK,bY,y.e)/\ju E Y D ((L++f).map (·.io)) gK bY=some (X,F,(L++f).map (·.e)):=by
 intro L
 induction L with
 |nil=>intro j X aj F h _;exact ag0 h
 |cons x L T=>intro j X aj F h Q;obtain⟨A,H,Z,M⟩:=ag0 h;obtain⟨u,m,N,R⟩:=T M λz hz=>Q z (by simp[hz]);obtain⟨g,B,h5,O⟩:=swap dK Z N (Q x aQ).1 (Q x aQ).2;exact⟨g,B,h5,aqM O R⟩
def Fe(al:cG)(b b2:aB):Prop:=∀id,al.ok id->b2 id=b id
def wK(al:cG)(L b2 Iu:aB):Prop:=∀id,Iu id=if al.ok id then L id else b2 id
def Frame(al:cG)(b L:aB):Prop:=∀id,al.ok id=false->L id=b id
theorem wK.agree{al:cG}(h:wK al L b2 Iu):Fe al L Iu:=λid H=>by rw[h id,H];rfl
theorem wK.trans{al:cG}{A:aB}(h:wK al L b2 Iu)(k:wK al b'' Iu A):wK al b'' b2 A:=λid=>by rw[k id,h id];cases al.ok id<;>rfl
theorem wK.refl{al:cG}{b:aB}(h:Fe al b b2):wK al b b2 b2:=λid=>by
 cases H:al.ok id with
 |true=>exact h id H
 |false=>rfl
theorem Frame.trans{al:cG}{b:aB}(h:Frame al b L)(k:Frame al L b''):Frame al b b'':=λid H=>(k id H).trans (h id H)
section
variable {E:mL} {Y:kS} {D:qM} (dK:P3 D)
include dK
theorem awd:∀ {Z:eZ}{j X:bn}{aj F:aB}{y:fU},ju E Y D Z j aj=some (X,F,y)->Frame E.al aj F/\
  ∀bJ,Fe E.al aj bJ->∃u,ju E Y D Z j bJ=some (X,u,y)/\wK E.al F bJ u:=by
 intro Z
 induction Z with
 |nil=>intro j X aj F y h;simp only[ju,iL,mj]at h;obtain⟨rfl,rfl,rfl⟩:=h;exact⟨λ_ _=>rfl,λbJ f=>⟨bJ,rfl,.refl f⟩⟩
 |cons o Z ih=>
  intro j X aj F y h;simp only[ju]at h;split at h
  .rename_i gK bY e Q;split at h
   .rename_i dz bJ nO x;cases h;obtain⟨v,rfl,fr,T,L⟩:=Xt dK Q;obtain⟨f2,A⟩:=ih x;have m:∀id,E.al.ok id=false->e.writes id=false:=by
     intro id H;cases g:e.writes id with
     |false=>rfl
     |true=>have:=T id (by simp[iT.w9,g]);rw[H]at this;cases this
    refine⟨Frame.trans (λid H=>fr id (m id H)) f2,λb2 f=>?_⟩;obtain⟨B,R,m1⟩:=L j b2 (λ_ _=>rfl) (λid H=>f id (T id H));have O:wK E.al bY b2 B:=by
     intro id;rw[m1 id];cases H:E.al.ok id with
     |true=>
      cases g:e.writes id with
      |true=>rfl
      |false=>simp only[eX,if_false,if_true];rw[f id H,fr id g]
     |false=>rw[m id H]
    obtain⟨z,N,M⟩:=A B O.agree;exact⟨z,by simp only[ju,R,N],O.trans M⟩
   cases h
  cases h
theorem aGo{c:bn->aB->Option (oh×bn×aB)}(x:∀ {j X aj F e},c j aj=some (e,X,F)->Frame E.al aj F/\ ∀bJ,Fe E.al aj bJ->∃f,c j bJ=some (e,X,f)/\wK E.al F bJ f):
  ∀(k:Nat) {j X:bn}{aj F:aB}{e:oh},lY c k j aj=some (e,X,F)->Frame E.al aj F/\ ∀bJ,Fe E.al aj bJ->∃f,lY c k j bJ=some (e,X,f)/\wK E.al F bJ f:=by
 have L:=dK;intro k
 induction k with
 |zero=>intro j X aj F e h;simp[lY]at h
 |succ k Q=>
  intro j X aj F e h;simp only[lY]at h;split at h
  .rename_i gK bY D;obtain⟨u,g1⟩:=x D;obtain⟨O,z⟩:=Q h;refine⟨u.trans O,λb2 H=>?_⟩;obtain⟨B,g,m⟩:=g1 b2 H;obtain⟨y,A,M⟩:=z B m.agree;exact⟨y,by simp only[lY,g,A],m.trans M⟩
  rename_i N;obtain⟨u,g1⟩:=x h;refine⟨u,λb2 H=>?_⟩;obtain⟨B,g,m⟩:=g1 b2 H;refine⟨B,?_,m⟩;cases e with
  |normal=>exact(N _ _ h).elim
  |exit i=>simp only[lY,g]
  |ret=>simp only[lY,g]
theorem amh{n:Nat}:∀(c:aP) {j X:bn}{aj F:aB}{e:oh},dJ E Y D n c j aj=some (e,X,F)->Frame E.al aj F/\
  ∀bJ,Fe E.al aj bJ->∃R,dJ E Y D n c j bJ=some (e,X,R)/\wK E.al F bJ R:=by
 intro c
 induction c with
 |skip=>intro j X aj F e h;simp only[dJ,iL,mj]at h;obtain⟨rfl,rfl,rfl⟩:=h;exact⟨λ_ _=>rfl,λb2 H=>⟨b2,rfl,.refl H⟩⟩
 |exit id=>intro j X aj F e h;simp only[dJ,iL,mj]at h;obtain⟨rfl,rfl,rfl⟩:=h;exact⟨λ_ _=>rfl,λb2 H=>⟨b2,rfl,.refl H⟩⟩
 |ret=>intro j X aj F e h;simp only[dJ,iL,mj]at h;obtain⟨rfl,rfl,rfl⟩:=h;exact⟨λ_ _=>rfl,λb2 H=>⟨b2,rfl,.refl H⟩⟩
 |bad=>intro j X aj F e h;simp[dJ]at h
 |region d Z=>
  intro j X aj F e h;simp only[dJ]at h;split at h
  .rename_i gK bY y A;obtain⟨g,g1⟩:=awd dK A;have O:(e,X,F)=(oh.normal,gK,bY)/\(d->pK Z [] y):=by
    cases d with
    |false=>simp at h;exact⟨by simp[h],λh=>by cases h⟩
    |true=>
     simp only[if_true]at h;split at h
     .rename_i M;cases h;exact⟨rfl,λ_=>M⟩
     cases h
   obtain⟨O,M⟩:=O;cases O;refine⟨g,λb2 H=>?_⟩;obtain⟨B,f,m⟩:=g1 b2 H;refine⟨B,?_,m⟩;simp only[dJ,f];cases d with
   |false=>simp
   |true=>simp[M rfl]
  cases h
 |seq a b u z=>
  intro j X aj F e h;simp only[dJ]at h;split at h
  .rename_i gK bY A;obtain⟨g,g1⟩:=u A;obtain⟨f2,g2⟩:=z h;refine⟨g.trans f2,λb2 H=>?_⟩;obtain⟨B,f,m⟩:=g1 b2 H;obtain⟨b3,s2,T⟩:=g2 B m.agree;exact⟨b3,by simp only[dJ,f,s2],m.trans T⟩
  rename_i Q;obtain⟨g,g1⟩:=u h;refine⟨g,λb2 H=>?_⟩;obtain⟨B,f,m⟩:=g1 b2 H;refine⟨B,?_,m⟩;cases e with
  |normal=>exact(Q _ _ h).elim
  |exit i=>simp only[dJ,f]
  |ret=>simp only[dJ,f]
 |cond x a b u z=>
  intro j X aj F e h;simp only[dJ]at h |-;split at h
  .rename_i t ht;cases t with
   |true=>exact u h
   |false=>exact z h
  cases h
 |block id c L=>
  intro j X aj F e h;simp only[dJ]at h;split at h
  .rename_i i gK bY A;obtain⟨g,g1⟩:=L A;have hb:F=bY:=by split at h<;>cases h<;>rfl
   subst hb;refine⟨g,λb2 H=>?_⟩;obtain⟨B,f,m⟩:=g1 b2 H;refine⟨B,?_,m⟩;simp only[dJ,f];split at h
   .rename_i N;cases h;rw[aH N]
   rename_i N;cases h;rw[aw N]
  rename_i Q;obtain⟨g,g1⟩:=L h;refine⟨g,λb2 H=>?_⟩;obtain⟨B,f,m⟩:=g1 b2 H;refine⟨B,?_,m⟩;cases e with
  |normal=>simp only[dJ,f]
  |exit i=>exact(Q _ _ _ h).elim
  |ret=>simp only[dJ,f]
 |loop c L=>intro j X aj F e h;simp only[dJ]at h |-;exact aGo dK (λh=>L h) n h
end
theorem aiy{al:cG}{aj:aB}(x:Fe al aj bJ):∀ {R:List (Nat×Option eh)}{h:dN},qD al j aj R=some h->qD al j bJ R=some h:=by
 intro R
 induction R with
 |nil=>intro h H;exact H
 |cons r R u=>
  obtain⟨t,k⟩:=r;cases k with
  |none=>
   intro h H;simp only[qD]at H |-;split at H
   .rename_i v q g f;cases H;simp only[g,u f]
   cases H
  |some k=>
   intro h H;simp only[qD]at H |-;split at H
   .rename_i D rd q g f;split at H
    .rename_i aA;rw[aoZ g (λid m=>x id (TC aA m)),u f];simp only[aA,if_true];exact H
    cases H
   cases H
theorem aCB(dK:P3 D){n:Nat}{fn:aV}{T:dN}{aj:aB}{v:V}(x:sN E Y D n fn T aj=some (v,F)):Frame E.al aj F/\
  ∀bJ,Fe E.al aj bJ->∃A,sN E Y D n fn T bJ=some (v,A)/\wK E.al F bJ A:=by
 unfold sN at x;split at x
 .rename_i j b g;simp only[eU]at x;obtain⟨h,z,H⟩:=x;cases H;obtain⟨u,g1⟩:=amh dK _ g;refine⟨u,λb2 y=>?_⟩;obtain⟨B,f,m⟩:=g1 b2 y;exact⟨B,by unfold sN;rw[f];simp only[aiy m.agree z,se],m⟩
 .rename_i j b g;simp only[eU]at x;obtain⟨h,z,H⟩:=x;cases H;obtain⟨u,g1⟩:=amh dK _ g;refine⟨u,λb2 y=>?_⟩;obtain⟨B,f,m⟩:=g1 b2 y;exact⟨B,by unfold sN;rw[f];simp only[aiy m.agree z,se],m⟩
 cases x
end
def vg(w:World)(O:Nat->Prop):V->Value->Prop
 | .one (.p x),v=>dq w O x v
 | .agg D,v=>∃arr ps,v=.agg arr/\D=ps.map .p/\eI w O ps arr.toList
 |_,_=>False
def Enters(P:Program)(f:Nat):Prop:= ∃fn c,P.funcs[f]?=some fn/\fn.body=some c/\(fn.name== "runtime.NumGoroutine")=false
def Uu(w:World)(Q:Nat->Prop)(r:RV)(val:Value)(bs:aG):Prop:= ∃h,HA r val h/\s4 w Q (iV r) h bs
def yh(w:World)(O:Nat->Prop)(r:RV):Ending->World->Prop:=λe w'=>∃val bs,e=.returned val/\jo w w'/\bs.Nodup/\(∀c∈bs,w.heap.size<=c/\c<w'.heap.size)/\Uu w' (λc=>O c\/c∈bs) r val bs
def Good(G:World->Prop)(w:World):Prop:=G w/\ ∀w w',jo w w'->G w->G w'
theorem eo.ahe(h:eo w0 m):jo w0 m.w:=⟨h.os,h.tape,h.output,h.size,h.base⟩
theorem s4.pure{w:World}(N:∀b,Q' b->Q b):∀ {R:oI}{h:List Value}{bs:aG},(∀c∈bs,¬Q' c)->s4 w Q R h bs->s4 w Q' (R.map kJ.pure) h []:=by
 intro R
 induction R with
 |nil=>intro h bs _ hr;exact⟨hr.1,rfl⟩
 |cons r R B=>
  intro h bs u hr;have less:∀ {x:PV}{v:Value},dq w Q x v->dq w Q' x v:=λhp=>hp.mono λc _ F=>⟨rfl,λD=>F (N c D)⟩;cases r with
  |p x=>obtain⟨v,z,rfl,E,m⟩:=hr;exact⟨v,z,rfl,less E,B u m⟩
  |own T sz y=>
   obtain⟨v,z,c,Z,rfl,rfl,⟨A,f,e1,e2,M,e4,e5,e6,e7,e8⟩,m⟩:=hr;refine⟨v,z,rfl,?_,B (λc L=>u c (by simp[L])) m⟩;subst e1;refine dq.sl c 0 A sz (λj=>f.toList.getD j undef) (λ_=>u c aQ) e5 e6 e4 (λj x H=>?_) (λj x H=>?_)
   .have g:j<I (f.toList.take (I y*sz)):=by rw[e8.1];exact(cD.1 H).1
    have O:j<f.size:=by simp at g;omega
    rw[World.cell?];simp[e2,O,List.getD,kA]
   have g:j<I (f.toList.take (I y*sz)):=by rw[e8.1];exact(cD.1 H).1
   have O:j<f.size:=by simp at g;omega
   refine less (e8.2 j x _ H ?_);rw[List.getElem?_take_of_lt (by simp at g;omega)];simp[O,List.getD]
theorem y8.pure{r:RV}{v:Value}(H:y8 r v h):y8 r.JQ v h/\ja r.JQ=(ja r).map kJ.pure:=by
 cases r with
 |one c=>exact⟨H,rfl⟩
 |agg D=>exact⟨⟨H.1,by simpa [RV.JQ]using H.2⟩,rfl⟩
 |tup _=>exact H.elim
theorem EW.pure:∀ {R:List RV}{us h:List Value},EW R us h->EW (R.map RV.JQ) us h/\oL (R.map RV.JQ)=(oL R).map kJ.pure:=by
 intro R
 induction R with
 |nil=>intro us h z;exact⟨z,rfl⟩
 |cons r R j=>
  rintro us h ⟨u,x,a,b,rfl,rfl,m,H⟩
  obtain⟨f,g⟩:=m.pure;obtain⟨Q,y⟩:=j H;exact⟨⟨u,x,a,b,rfl,rfl,f,Q⟩,by simp[oL,g,y]⟩
theorem HA.pure{r:RV}{v:Value}(H:HA r v h):HA r.pure v h/\iV r.pure=(iV r).map kJ.pure:=by
 cases r with
 |one c=>exact y8.pure (r:=.one c) H
 |agg D=>exact y8.pure (r:=.agg D) H
 |tup R=>obtain⟨arr,rfl,f⟩:=H;obtain⟨Q,g⟩:=f.pure;exact⟨⟨arr,rfl,Q⟩,g⟩
theorem yh.fi{w:World}{r:RV}{e:Ending}(b:Bool)(z:∀c,O c->c<w.heap.size)(A:yh w O r e w'):yh w O (r.fi b) e w':=by
 cases b with
 |false=>exact A
 |true=>
  obtain⟨val,bs,rfl,x,B,Q,h,y,m⟩:=A;obtain⟨j,u⟩:=y.pure;refine⟨val,[],rfl,x,tA,λc g=>by simp at g,h,j,?_⟩;simp only[RV.fi];rw[u];refine s4.pure (λb H=>?_) (λc g f=>?_) m
  .rcases H with H|H
   .exact .inl H
   simp at H
  rcases f with f|f
  .have:=z c f;have:=(Q c g).1;omega
  simp at f
def Fp(P:Program)(G:World->Prop)(Y:kS):Prop:=∀f h r,Y f h=some r->Enters P f/\ ∀(w:World) (O:Nat->Prop) (T:Array Value),Good G w->(∀c,O c->c<w.heap.size)->Pw (vg w O) h T.toList->Calls P f T w (yh w O r)
def J0(w0:World)(m:bR)(v:V)(F:aB):Ending->World->Prop:=λe w'=>∃val M,e=.returned val/\M.w=w'/\eo w0 M/\g_ m M/\M.fr=m.fr/\M.aj=F/\dm M v val
def Hq(P:Program)(G:World->Prop)(D:qM):Prop:=∀f h al aj v F,D f h al aj=some (v,F)->Enters P f/\ ∀(w0:World) (m:bR) (T:Array Value),Good G w0->eo w0 m->m.aj=aj->Pw (dm m) h T.toList->Calls P f T m.w (J0 w0 m v F)
theorem avS(aA:eo w0 m){y:V}{r:aG}{v:Value}(g:pX m.aj x=some (y,r))(hr:dm m x v)(hs:rl m O r):vg m.w O y v:=by
 cases x with
 |undef=>simp[pX]at g
 |tup h=>simp[pX]at g
 |one c=>simp only[pX,eU]at g;obtain⟨⟨p,j⟩,f,H⟩:=g;cases H;exact KW aA ia f hr hs
 |agg D=>simp only[pX,eU]at g;obtain⟨⟨ps,j⟩,f,H⟩:=g;cases H;obtain⟨arr,rfl,z⟩:=dm.agg.1 hr;refine⟨arr,ps,rfl,rfl,?_⟩;exact J9 (R:=dX m) (T:=dq m.w O) (fK:=rl m O) (λ_ _=>rl.app) (λ_ _ _ _ f H u=>KW aA ia f H u) f hs z
theorem afE(aA:eo w0 m){r:aG}(j:Dj m.aj M=some (ys,r))(hr:Pw (dm m) M h)(hs:rl m O r):Pw (vg m.w O) ys h:=J9 (R:=dm m) (T:=vg m.w O) (fK:=rl m O) (λ_ _=>rl.app) (λ_ _ _ _ f H g=>avS aA f H g) j hs hr
theorem ahk(aA:eo w0 m){c:Nat}(h:m.own c):c<m.w.heap.size:=by
 rcases h with h|⟨id,o,H,_,rfl⟩
 .exact aA.frlt c h
 exact(aA.obj id o H).lt
theorem af0{w:World}{x:PV}{v:Value}(hs:x.scalar)(h:dq w Q x v):dq w Q' x v:=by
 cases h<;>first
  |(simp[PV.scalar]at hs;done)
  |constructor
theorem aEc{w:World}:∀ {R:oI}{h:List Value}{bs:aG},R.all kJ.alone->s4 w Q R h bs->s4 w Q' R h bs:=by
 intro R
 induction R with
 |nil=>intro h bs _ E;exact E
 |cons r R D=>
  intro h bs H E;simp only[mN,dj]at H;cases r with
  |p x=>obtain⟨v,z,rfl,f,m⟩:=E;exact⟨v,z,rfl,af0 H.1 f,D H.2 m⟩
  |own T sz y=>obtain⟨v,z,c,Z,rfl,rfl,⟨A,B,e1,e2,L,e4,e5,e6,e7,e8⟩,m⟩:=E;refine⟨v,z,c,Z,rfl,rfl,⟨A,B,e1,e2,L,e4,e5,e6,e7,e8.1,λj x u a b=>?_⟩,D H.2 m⟩;refine af0 ?_ (e8.2 j x u a b);have F:=ch a;obtain⟨e,M,g⟩:=EX.1 F;have f:=H.1;simp only[kJ.alone]at f;exact jP.1 (jP.1 f e M) x g
theorem amn{m:bR}{x:RV}{bs:aG}(aA:eo w0 m)(j:jo m.w w')(A:bs.Nodup)(Q:∀c∈bs,m.w.heap.size<=c/\c<w'.heap.size)(hr:Uu w' (λc=>m.own c\/c∈bs) x val bs):
  ∃M,M.w=w'/\eo w0 M/\g_ m M/\M.fr=m.fr/\M.aj=app (jf m.aj site x).2 m.aj/\dm M (jf m.aj site x).1 val:=by
 obtain⟨h,u,f⟩:=hr;have Y:eo w0 (m.later w' (· ∈bs)):=TD aA j Q;have y:g_ m (m.later w' (· ∈bs)):=M4 j λc H=>(Q c H).1;obtain⟨M,e1,e2,E,_,e5,e6,e7⟩:=ark (X:=m) (site:=site) Y (f.less λb z=>agZ.1 z) A (λc H=>⟨.inr H,lX aA.size (Q c H).1⟩) y (λc H=>.inl (Q c H).1);refine⟨M,e1,e2,E,?_,e6,aGu u e7⟩;funext c;apply propext;rw[e5 c];constructor
 .rintro ⟨g|g,f⟩
  .exact g
  exact(f g).elim
 intro g;refine⟨.inl g,λH=>?_⟩;have u:=aA.frlt c g;have f:=(Q c H).1;omega
theorem as3{b L:aB}(h:∀s,(b s).1=(L s).1)(site:Nat)(x:RV):jf b site x=jf L site x:=by unfold jf;rw[ahF _ site b L λs _=>h s]
theorem aGW{G:World->Prop}(DP:Fp P G Y)(hG:Good G w0)(aA:eo w0 m){h:dN}{rd:aG}{x:RV}{v:V}(g:Y f h=some x)(hs:Dj m.aj M=some (h,rd))(X:Pw (dm m) M T.toList)
  {pb:Bool} (hl:eF m.aj rd site (x.fi pb)=some (v,u)):Calls P f T m.w (J0 w0 m v (app u m.aj)):=by
 have B:∀(w:World) (O:Nat->Prop) (T:Array Value),Good G w->(∀c,O c->c<w.heap.size)->Pw (vg w O) h T.toList->Calls P f T w (yh w O (x.fi pb)):=λw O T D j h3=>((DP f h x g).2 w O T D j h3).mono λe w' H=>H.fi pb j
 generalize x.fi pb=x at hl B;unfold eF at hl;split at hl
 .rename_i vr;cases hl;have key:∀(O:Nat->Prop),(∀c,O c->c<m.w.heap.size)->rl m O rd->(∀w' bs val,Uu w' (λc=>O c\/c∈bs) x val bs->Uu w' (λc=>m.own c\/c∈bs) x val bs)->Calls P f T m.w (J0 w0 m (jf m.aj site x).1 (app (jf m.aj site x).2 m.aj)):=by
   intro O hO R Ef;refine(B m.w O T ⟨hG.2 _ _ aA.ahe hG.1,hG.2⟩ hO (afE aA hs X R)).mono ?_;rintro e w' ⟨val,bs,rfl,z,A,Q,hr⟩
   obtain⟨L,e1,e2,N,e4,e5,e6⟩:=amn (site:=site) aA z A Q (Ef w' bs val hr);exact⟨val,L,rfl,e1,e2,N,e4,e5,e6⟩
  rcases vr with rfl|hJ
  .exact key m.own (λc g=>ahk aA g) ⟨λ_ H=>H,λ_ H=>by simp at H⟩ λ_ _ _ H=>H
  refine key (λ_=>False) (λc H=>H.elim) ⟨λ_ H=>H.elim,λ_ _ H=>H⟩ λw' bs val H=>?_;obtain⟨qF,D,j⟩:=H;exact⟨qF,D,aEc hJ j⟩
 split at hl
 .rename_i F y;cases hl;have Z:=anM aA y;have Ck:=adu y;have R:=WC aA y;refine(B m.w (m.with F).own T ⟨hG.2 _ _ aA.ahe hG.1,hG.2⟩ (λc g=>ahk Z g) (afE aA hs X R)).mono ?_;rintro e w' ⟨val,bs,rfl,z,A,Q,hr⟩
  obtain⟨L,e1,e2,N,e4,e5,e6⟩:=amn (m:=m.with F) (site:=site) Z z A Q hr;have E:jf (m.with F).aj site x=jf m.aj site x:=as3 (λs=>Vw y s) site x;rw[E]at e5 e6;refine⟨val,L,rfl,e1,e2,Ck.trans N,e4,?_,e6⟩;rw[e5,QX];rfl
 cases hl
theorem RK{M:bR}(E:g_ m M){a:Act}{dst:eh}{v:V}{x:Value}(hr:kK m j a.tmps)(f:dm M v x)(H:∀d,dst=some d->d<a.tmps.size):kK M (dF j dst v) (a.put dst x).tmps:=by
 cases dst with
 |none=>exact hr.ev E
 |some d=>
  intro t;have A:=H d rfl;simp only[dF,Act.put,aT];by_cases h:t=d
  .subst h;rw[aH rfl];have:(a.tmps.setIfInBounds t x).getD t undef=x:=by simp[A]
   rw[this];exact f
  rw[aw h];have:(a.tmps.setIfInBounds d x).getD t undef=a.tmps.getD t undef:=by simp only[CH];rw[Array.getElem?_setIfInBounds_ne (λe=>h e.symm)]
  rw[this];exact(hr t).ev E.zero
theorem To(a:Act)(dst:eh)(x:Value):(a.put dst x).tmps.size=a.tmps.size:=by cases dst<;>simp[Act.put]
theorem Rw(a:Act)(dst:eh)(x:Value):(a.put dst x).defers=a.defers:=by cases dst<;>simp[Act.put]
theorem afp{tmps:Array Value}(hr:kK m j tmps){o:Oper}{g:Option (Nat×Bool)}{b:Bool}
  (u:match o.guard with|none=>g=none|some (D,w)=>∃t,(Z[D]?).bind (·.dst)=some t/\g=some (t,w)) (h:s3 j g=some b):Region.wanted o (yielded Z tmps)=b:=by
 unfold Region.wanted;cases A:o.guard with
 |none=>rw[A]at u;subst u;simp only[s3,iL]at h;exact h
 |some q=>
  obtain⟨D,w⟩:=q;rw[A]at u;obtain⟨t,B,rfl⟩:=u;have f:=hr t;simp only[s3]at h;simp only[yielded,B,Option.bind_some];split at h
  .rename_i L z;rw[z]at f;have H:=Fl f;cases h;have:tmps[t]?=some (.bool L):=by
    rw[CH]at H;cases x:tmps[t]? with
    |none=>rw[x]at H;simp[undef]at H
    |some y=>rw[x]at H;simp at H;rw[H]
   rw[this];rfl
  .rename_i z;rw[z]at f;cases h;have H:tmps.getD t undef=undef:=f;rw[CH]at H;cases x:tmps[t]? with
   |none=>rfl
   |some y=>rw[x]at H;simp at H;rw[H];rfl
  cases h
theorem aor{f:fu}{v:Value}{a b:eG}(h:GO j f=some (g,a,b))(hr:dm m (ev j f) v):∃A B:Array Value,v=.func (.func g) A B/\eE m a A.toList/\eE m b B.toList:=by
 unfold GO at h;split at h
 .rename_i F x y D;cases h;rw[D]at hr;obtain⟨hp⟩:dX m _ v:=hr;cases hp with
  |fn A B E H Y R=>exact⟨A,B,rfl,eI.Gp ⟨by simpa using E,λz x u p q=>Y z x u p (by simpa using q)⟩,eI.Gp ⟨by simpa using H,λz x u p q=>R z x u p (by simpa using q)⟩⟩
 .rename_i F x y D;cases h;rw[D]at hr;have L:dX m _ v:=hr;cases L with
  |hfn A B E H Y R=>exact⟨A,B,rfl,⟨by simpa using E,λz x u p q=>Y z x u p (by simpa using q)⟩,⟨by simpa using H,λz x u p q=>R z x u p (by simpa using q)⟩⟩
 cases h
theorem alO{a:Act}(hr:kK m j a.tmps):∀ {M:List Operand}{ys:sM},rU M=some ys->Pw (dm m) (ys.map (ev j)) (M.map a.eval):=by
 intro M
 induction M with
 |nil=>intro ys h;simp[rU]at h;subst h;exact⟨rfl,λf x u p=>by simp at p⟩
 |cons x M g=>
  intro ys h;simp only[rU]at h;split at h
  .rename_i y Y A H;cases h;obtain⟨i1,i2⟩:=g H;refine⟨by simpa using i1,λf z u p q=>?_⟩;cases f with
   |zero=>simp at p q;subst p q;exact gb A hr
   |succ f=>exact i2 f z u (by simpa using p) (by simpa using q)
  cases h
theorem Si{D:eG}(f:eE m D h):Pw (dm m) (D.map .one) h:=by refine⟨by simpa using f.1,λj x u p q=>?_⟩;simp only[fY,eU]at p;obtain⟨c,H,rfl⟩:=p;exact dm.one.2 (f.2 j c u H q)
theorem aAP(h:Enters P f)(T:Array Value)(w:World):(callFunc f T).run P w=.ok (.enter f T) w:=by
 obtain⟨fn,c,j,g,m⟩:=h;have H:¬fn.name= "runtime.NumGoroutine" :=by simpa using m
 simp[callFunc,run_program,j,g,H]
theorem aha{o:Oper}{c:Call}{f:Operand}{a:Act}{w:World}(h:o.op=.call c)(m:c.callee=.value f)(H:a.eval f=.func (.func g) A B)(j:Enters P g):
  (execOp a.eval o).run P w=.ok (.enter g (A++c.args.map a.eval++B)) w:=by
 simp[execOp,h,resolve,m,H,Deferred.ofValue,invoke,aAP j]
theorem anF{o:Oper}{p:rK}(H:GL P site o=some p)(hp:∀s f as,p≠ .call s f as){aj:aB}:(∀f h r s,cZ E j aj p≠ .pc f h r s)/\ ∀f h,cZ E j aj p≠ .sc f h:=by
 cases p<;>first
  |exact(hp _ _ _ rfl).elim
  |(simp only[cZ]
    constructor<;>intros<;>intro H<;>(repeat' split at H)<;>first
     |cases H
     |(simp only[Cc,F3,af]at H;(repeat' split at H)<;>cases H))
theorem alD{o:Oper}{s:Nat}{f:fu}{as:sM}(h:GL P site o=some (.call s f as)):∃c F,o.op=.call c/\c.callee=.value F/\dy F=some f/\rU c.args.toList=some as:=by
 unfold GL at h;split at h
 case h_26 c H=>
  split at h
  .rename_i u A m g;simp only[eU]at h;obtain⟨y,x,j⟩:=h;cases j;exact⟨c,u,H,m,x,g⟩
  all_goals((repeat' split at h)<;>first
   |cases h
   |(simp at h;done))
 all_goals((repeat' split at h)<;>first
  |cases h
  |(simp at h;done))
def H5(w0:World)(m:bR)(a:Act)(nt:Nat)(X:bn)(F:aB)(bK:Act->World->Prop):Prop:=∀(A:Act) (M:bR),eo w0 M->g_ m M->M.fr=m.fr->M.aj=F->kK M X A.tmps->A.tmps.size=nt->A.defers=a.defers->bK A M.w
theorem am9{o:Oper}{a:Act}{w:World}{bK:Act->World->Prop}{Q:Exit->Act->World->Prop}{R:Ending->World->Prop}(j:(execOp a.eval o).run P w=.ok (.enter f T) w)(m:Calls P f T w R)
  (g:∀e w',R e w'->∃v,e=.returned v/\bK (a.put o.dst v) w'):o.wp P a w bK Q:=by
 unfold Oper.wp;rw[j,Oper.upon_enter];refine m.mono ?_;intro e w' H;obtain⟨v,rfl,h⟩:=g e w' H;exact h
theorem alp{G:World->Prop}(hG:Good G w0)(hP:Fp P G Y)(hS:Hq P G D){E:mL}{base anc:Nat}{o:Oper}{io:iP}{ac:iT}{a:Act}{bK:Act->World->Prop}{Q:Exit->Act->World->Prop}
  (ho:EM P (λap=>(Z[ap]?).bind (·.dst)) base nt anc o=some io) (y:mM E Y D io j m.aj=some (X,F,ac)) (aA:eo w0 m) (hr:kK m j a.tmps) (T:a.tmps.size=nt) (z:H5 w0 m a nt X F bK):
  if Region.wanted o (yielded Z a.tmps)then o.wp P a m.w bK Q else bK (a.put o.dst undef) m.w:=by
 have ad:io.dst=o.dst/\io.op=Ko P base o/\(∀d,o.dst=some d->d<nt)/\(match o.guard with|none=>io.guard=none|some (ap,w)=>∃t,(Z[ap]?).bind (·.dst)=some t/\io.guard=some (t,w)):=by
  unfold EM at ho;split at ho
  .rename_i H;simp only[eU]at ho;obtain⟨g,N,rfl⟩:=ho;refine⟨rfl,rfl,λd he=>?_,?_⟩
   .rw[he]at H
    simpa [akC]using H
   cases ab:o.guard with
   |none=>rw[ab]at N;simp[abF]at N;exact N.symm
   |some q=>obtain⟨ap,w⟩:=q;rw[ab]at N;simp only[abF,eU]at N;obtain⟨t,ht,rfl⟩:=N;exact⟨t,ht,rfl⟩
  cases ho
 obtain⟨h1,h2,h3,h4⟩:=ad;have H:∀d,o.dst=some d->d<a.tmps.size:=by rw[T];exact h3
 unfold mM at y;split at y
 .cases y
 .rename_i hw;cases y;rw[afp hr h4 hw];simp only[eX,if_false];rw[h1]at z;exact z _ m aA (g_.refl m) rfl rfl (RK (g_.refl m) hr (show dm m .undef undef from rfl) H) (by rw[To,T]) (Rw _ _ _)
 rename_i hw;rw[afp hr h4 hw];simp only[if_true];rw[h2]at y;unfold Ko at y;cases L:GL P base o with
 |none=>rw[L]at y;simp[cZ]at y
 |some p=>
  rw[L]at y;simp only[mO]at y;split at y
  .cases y
  .rename_i v u r hp;split at y
   case isFalse=>cases y
   cases y;obtain⟨x,O,an,e2,R,e4,e5,e6⟩:=asD aA hr L hp;rw[h1]at z;have hk:=λx (M:dm O v x)=>z (a.put o.dst x) O e2 R e4 e5 (RK R hr M H) (by rw[To,T]) (Rw _ _ _);unfold Oper.wp;rcases an with H|⟨H,rfl⟩
   .rw[H,Oper.upon_value];exact hk x e6
   rw[H,Oper.upon_skip];exact hk undef e6
  .rename_i f h r s hp;by_cases FN:∃s f as,p=.call s f as
   .obtain⟨s',f',as,rfl⟩:=FN;obtain⟨c,fo,g1,g2,g3,g4⟩:=alD L;simp only[cZ]at hp;split at hp
    .rename_i g A B hfn;obtain⟨AV,BV,e1,e2,R⟩:=aor hfn (gb g3 hr);split at hp
     .cases hp
     split at hp
     .rename_i ws rd km;cases hp;split at y
      .rename_i x M;split at y
       .rename_i v u hl;split at y
        case isFalse=>cases y
        cases y;have FI:Pw (dm m) (A.map .one++as.map (ev j)++B.map .one) (AV++c.args.map a.eval++BV).toList:=by
         have:=((Si e2).append (alO hr g4)).append (Si R)
         simpa using this
        refine am9 (aha g1 g2 e1 (hP _ _ _ M).1) (aGW hP hG aA M km FI hl) ?_;rintro e w' ⟨val,O,rfl,rfl,q1,q2,q3,q4,q5⟩
        rw[h1]at z;exact⟨val,rfl,z _ O q1 q2 q3 q4 (RK q2 hr q5 H) (by rw[To,T]) (Rw _ _ _)⟩
       cases y
      cases y
     cases hp
    cases hp
   exact((anF L (λs f as e=>FN ⟨s,f,as,e⟩)).1 _ _ _ _ hp).elim
  rename_i f h hp;by_cases FN:∃s f as,p=.call s f as
  .obtain⟨s',f',as,rfl⟩:=FN;obtain⟨c,fo,g1,g2,g3,g4⟩:=alD L;simp only[cZ]at hp;split at hp
   .rename_i g A B hfn;obtain⟨AV,BV,e1,e2,R⟩:=aor hfn (gb g3 hr);split at hp
    .cases hp;split at y
     case isFalse=>cases y
     split at y
     .rename_i v KM M;cases y;have FI:Pw (dm m) (A.map .one++as.map (ev j)++B.map .one) (AV++c.args.map a.eval++BV).toList:=by
       have:=((Si e2).append (alO hr g4)).append (Si R)
       simpa using this
      refine am9 (aha g1 g2 e1 (hS _ _ _ _ _ _ M).1) ((hS _ _ _ _ _ _ M).2 w0 m _ hG aA rfl FI) ?_;rintro e w' ⟨val,O,rfl,rfl,q1,q2,q3,q4,q5⟩
      rw[h1]at z;exact⟨val,rfl,z _ O q1 q2 q3 q4 (RK q2 hr q5 H) (by rw[To,T]) (Rw _ _ _)⟩
     cases y
    split at hp<;>cases hp
   cases hp
  exact((anF L (λs f as e=>FN ⟨s,f,as,e⟩)).2 _ _ hp).elim
theorem ado{dst anc:Nat->eh}{base i:Nat}{o:Oper}{r:List Oper}{l:eZ}(h:x_ P dst anc base nt i (o::r)=some l):
  ∃x M,l=x::M/\EM P dst ((base+i)*64) nt ((anc i).getD 0) o=some x/\x_ P dst anc base nt (i+1) r=some M:=by
 simp only[x_]at h;split at h
 .rename_i x M f H;cases h;exact⟨x,M,rfl,f,H⟩
 cases h
section
variable {G:World->Prop} (hG:Good G w0) {Y:kS} {D:qM} (hP:Fp P G Y) (hS:Hq P G D) {E:mL}
include hG hP hS
theorem aDr{anc:Nat->eh}{base:Nat}{Q:Exit->Act->World->Prop}:∀(r:List Oper) {l:eZ}{i:Nat}{j X:bn}{m:bR}{F:aB}{y:fU}{a:Act},(∀g,Z[i+g]?=r[g]?)->x_ P (λg=>(Z[g]?).bind (·.dst)) anc base nt i r=some l->
  ju E Y D l j m.aj=some (X,F,y)->eo w0 m->kK m j a.tmps->a.tmps.size=nt->H5 w0 m a nt X F (λa' w'=>Q .normal a' w')->wpOps P Z Q (List.range' i (I r)) a m.w:=by
 intro r
 induction r with
 |nil=>intro l i j X m F y a _ h f aA hr u H;simp[x_]at h;subst h;simp only[ju,iL,mj]at f;obtain⟨rfl,rfl,_⟩:=f;simp only[eK,List.range'_zero,wpOps];exact H a m aA (g_.refl m) rfl rfl hr u rfl
 |cons o r ih=>
  intro l i j X m F y a A h f aA hr u H;obtain⟨x,M,rfl,h1,T⟩:=ado h;simp only[ju]at f;split at f
  .rename_i gK bY e1 jU;split at f
   .rename_i dz bJ ab gV;cases f;have ho:Z[i]?=some o:=by have:=A 0;simpa using this
    have key:=alp (Q:=Q) (bK:=wpOps P Z Q (List.range' (i+1) (I r))) hG hP hS h1 jU aA hr u (λa1 m1 B k2 k3 k4 ef k6 k7=>by subst k4;refine ih (m:=m1) (λg=>by have:=A (g+1);rw[show i+1+g=i+(g+1) by omega];simpa using this) T gV B ef k6 ?_;intro a2 R p1 p2 L O N p6 p7;exact H a2 R p1 (k2.trans p2) (L.trans k3) O N p6 (p7.trans k7))
    simp only[dw,List.range'_succ,wpOps,ho];split at key
    .rename_i z;rw[aH z];exact .inl key
    rename_i z;rw[aw z];exact key
   cases f
  cases f
theorem aDw{anc:Nat->eh}{base id:Nat}{Q:Exit->Act->World->Prop}{l:eZ}{y:fU}{a:Act}(H:x_ P (λu=>(Z[u]?).bind (·.dst)) anc base nt 0 Z.toList=some l)
  (g:ju E Y D l j m.aj=some (X,F,y)) (aA:eo w0 m) (hr:kK m j a.tmps) (f:a.tmps.size=nt) (h:H5 w0 m a nt X F (λA w'=>Q .normal A w')):(Code.region id Z false).wp P Q a m.w:=by
 refine wp_region ?_;have:=aDr hG hP hS (E:=E) (Z:=Z) (Q:=Q) Z.toList (i:=0) (λu=>aQ) H g aA hr f h;rw[aeL]
 simpa using this
end
theorem asO{α β:Type}(g:Array β->α->β):∀(l:List α) (A:Array β),(l.foldl (λA o=>A.push (g A o)) A).size=A.size+I l/\
  (∀j,j<A.size->(l.foldl (λA o=>A.push (g A o)) A)[j]?=A[j]?)/\
  ∀j o,l[j]?=some o->∃pre:Array β,pre.size=A.size+j/\(∀k,k<pre.size->(l.foldl (λA o=>A.push (g A o)) A)[k]?=pre[k]?)/\(l.foldl (λA o=>A.push (g A o)) A)[A.size+j]?=some (g pre o):=by
 intro l
 induction l with
 |nil=>intro A;exact⟨rfl,λ_ _=>rfl,λj o h=>by simp at h⟩
 |cons x l B=>
  intro A;obtain⟨D,f,z⟩:=B (A.push (g A x));simp only[vi];refine⟨by rw[D];simp;omega,λj F=>?_,λj o H=>?_⟩
  .rw[f j (by simp;omega),Pj,aw J]
  cases j with
  |zero=>
   simp at H;subst H;refine⟨A,J,λk E=>?_,?_⟩
   .rw[f k (by simp;omega),Pj,aw J]
   rw[vX,f A.size aQ,Pj,aH rfl]
  |succ j=>obtain⟨pre,u,y,m⟩:=z j o (by simpa using H);refine⟨pre,by rw[u];simp;omega,y,?_⟩;rw[<-m];simp only[Array.size_push];congr 1;omega
theorem aCU{α:Type}(f:α->Bool)(g:α->Nat)(h:α->Nat):∀(l:List α) (s j:Nat),(l.foldl (λs e=>if f e then s|||g e|||h e else s) s).testBit j=true->s.testBit j\/ ∃e∈l,f e/\((g e).testBit j\/(h e).testBit j):=by
 intro l
 induction l with
 |nil=>intro s j m;exact .inl m
 |cons x l A=>
  intro s j m;simp only[vi]at m;rcases A _ j m with H|⟨e,z,y⟩
  .split at H
   .rename_i u;simp only[Nat.testBit_or,oG]at H;rcases H with(H|H)|H
    .exact .inl H
    .exact .inr ⟨x,aQ,u,.inl H⟩
    exact .inr ⟨x,aQ,u,.inr H⟩
   exact .inl H
  exact .inr ⟨e,by simp[z],y⟩
theorem aFV(x:JL Z){i:Nat}{o:Oper}(f:Z[i]?=some o){j:Nat}(H:(((Region.before Z)[i]?).getD 0).testBit j):
  ∃e∈o.after,Region.binds .any e/\e.on<i/\(j=e.on\/(((Region.before Z)[e.on]?).getD 0).testBit j):=by
 unfold Region.before at H |-;rw[<-ab7]at H |-;obtain⟨N,M,B⟩:=asO (λ(A:Array Nat) (o:Oper)=>o.after.foldl (λs e=>if Region.binds .any e then s|||2 ^ e.on|||A.getD e.on 0 else s) 0) Z.toList #[];obtain⟨pre,y,z,g⟩:=B i o (by simpa using f);simp only[Array.size_empty,kA]at y g;rw[g]at H;simp only[mO]at H;rw[<-ab7]at H;rcases aCU (λe=>Region.binds .any e) (λe=>2 ^ e.on) (λe=>pre.getD e.on 0) _ _ _ H with h|⟨e,u,m,L⟩
 .simp at h
 have D:i<Z.size:=(N3.1 f).1;have F:e.on<i:=by unfold JL at x;have:=jP.1 x i (by simpa using D);rw[f]at this;rw[jP]at this;have:=this e (by simpa using u);simp only[m,zl,DJ,kB]at this;exact this
 refine⟨e,by simpa using u,m,F,?_⟩;rcases L with L|L
 .left;rw[Nat.testBit_two_pow]at L;have E:e.on=j:=by simpa using L
  exact E.symm
 right;rw[z e.on J]
 simpa [CH]using L
theorem agW{dst:Nat->eh}{base anc:Nat}{o:Oper}{io:iP}(h:EM P dst base nt anc o=some io):io.anc=anc:=by
 unfold EM at h;split at h
 .simp only[eU]at h;obtain⟨g,_,rfl⟩:=h;rfl
 cases h
structure aru (P:Program) (ops:Array Oper) (base nt:Nat) (rem:List DF) (listed:Array Bool):Prop where
 pair:rem.Pairwise λp q=>p.i<q.i/\(q.io.anc.testBit p.i\/VS p q)
 comp:∀p∈rem,∃o,ops[p.i]?=some o/\EM P (λj=>(ops[j]?).bind (·.dst)) ((base+p.i)*64) nt (((Region.before ops)[p.i]?).getD 0) o=some p.io
 size:listed.size=ops.size
 free:∀i:Nat,listed[i]?=some false↔ ∃p∈rem,p.i=i
 closed:∀i:Nat,listed[i]?=some true->∀j:Nat,(((Region.before ops)[i]?).getD 0).testBit j->listed[j]?=some true
theorem ab0{L:Array Bool}{i:Nat}:i∈Region.ready .any Z L↔i<Z.size/\L.getD i true=false/\ ∃o,Z[i]?=some o/\ ∀e∈o.after,Region.binds .any e->L.getD e.on false:=by
 unfold Region.ready;simp only[uQ,gI,dj,mP];constructor
 .rintro ⟨h,j,H⟩
  refine⟨h,j,Z[i],by simp[h],λe g m=>?_⟩;have f:Z[i]?=some Z[i]:=by simp[h]
  rw[f]at H;simp only[se,mO,Array.all_eq_true']at H;have:=H e g;rw[m]at this
  simpa using this
 rintro⟨h,j,o,f,H⟩
 refine⟨h,j,?_⟩;rw[f];simp only[se,mO,Array.all_eq_true'];intro e g;cases m:Region.binds .any e with
 |false=>rfl
 |true=>simp[H e g m]
theorem apg{l:Array Bool}{i:Nat}(h:l.getD i true=false):l[i]?=some false:=by
 rw[CH]at h;cases H:l[i]? with
 |none=>rw[H]at h;simp at h
 |some b=>rw[H]at h;simp at h;rw[h]
theorem aGx{l:Array Bool}{i:Nat}(h:l.getD i false):l[i]?=some true:=by
 rw[CH]at h;cases H:l[i]? with
 |none=>rw[H]at h;simp at h
 |some b=>rw[H]at h;simp at h;rw[h]
section
variable {G:World->Prop} (hG:Good G w0) {Y:kS} {D:qM} (hP:Fp P G Y) (hS:Hq P G D) (hL:P3 D) {E:mL}
include hG hP hS hL
theorem aCh(Hd:JL Z){base:Nat}{Q:Exit->Act->World->Prop}:∀(f:Nat) {R:List DF}{L:Array Bool}{j:bn}{m:bR}{a:Act},aru P Z base nt R L->I R<=f->
  ju E Y D (R.map (·.io)) j m.aj=some (X,F,R.map (·.e))->eo w0 m->kK m j a.tmps->a.tmps.size=nt->H5 w0 m a nt X F (λa' w'=>Q .normal a' w')->wpAny P .any Z Q f L a m.w:=by
 intro f
 induction f with
 |zero=>
  intro R L j m a hl H M aA hr iC hK;have ad:R=[]:=by
   cases R with
   |nil=>rfl
   |cons _ _=>simp at H
  subst ad;simp only[jS,ju,iL,mj]at M;obtain⟨rfl,rfl,_⟩:=M;refine⟨?_,hK a m aA (g_.refl m) rfl rfl hr iC rfl⟩;refine aev.2 λi hi=>?_;obtain⟨_,h2,_⟩:=ab0.1 hi;obtain⟨p,hp,_⟩:=(hl.free i).1 (apg h2);simp at hp
 |succ f ih=>
  intro R L j m a hl H M aA hr iC hK;refine⟨λac=>?_,λi hi=>?_⟩
  .cases R with
   |nil=>simp only[jS,ju,iL,mj]at M;obtain⟨rfl,rfl,_⟩:=M;exact hK a m aA (g_.refl m) rfl rfl hr iC rfl
   |cons p ap=>
    exfalso;obtain⟨o,z,_⟩:=hl.comp p aQ;have T:p.i<Z.size:=(N3.1 z).1;have pS:p.i∈Region.ready .any Z L:=by
     refine ab0.2 ⟨T,?_,o,z,λe he hb=>?_⟩
     .rw[CH,(hl.free p.i).2 ⟨p,aQ,rfl⟩];rfl
     have Hy:e.on<p.i:=by unfold JL at Hd;have:=jP.1 Hd p.i (by simpa using T);rw[z]at this;rw[jP]at this;have:=this e (by simpa using he);simp only[hb,zl,DJ,kB]at this;exact this
     have hs:e.on<L.size:=by rw[hl.size];omega
     rw[CH];cases bl:L[e.on]with
     |true=>simp[hs,bl]
     |false=>
      exfalso;obtain⟨q,g,u⟩:=(hl.free e.on).1 (by simp[hs,bl]);rcases dk.1 g with rfl|g
      .omega
      have:=((tD.1 hl.pair).1 q g).1;omega
    rw[ac]at pS;simp at pS
  obtain⟨h1,h2,o,z,h3⟩:=ab0.1 hi;obtain⟨p,hp,rfl⟩:=(hl.free i).1 (apg h2);obtain⟨l1,l2,rfl⟩:=List.append_of_mem hp;obtain⟨o',nj,Ch⟩:=hl.comp p hp;rw[z]at nj;cases nj;have ab:∀N:Nat,p.io.anc.testBit N->L[N]?=some true:=by
   intro N A;rw[agW Ch]at A;obtain⟨e,he,hb,_,Eb⟩:=aFV Hd z A;have Hy:=aGx (h3 e he hb);rcases Eb with rfl|Eb
   .exact Hy
   exact hl.closed _ Hy N Eb
  have B:=Ac.1 hl.pair;have an:∀x∈l1,VS x p:=by
   intro x hx;rcases(B.2.2 x hx p aQ).2 with h|h
   .have:=ab _ h;rw[(hl.free x.i).2 ⟨x,by simp[hx],rfl⟩]at this;cases this
   exact h
  obtain⟨gK,bY,jU,gV⟩:=av8 hL M an;have key:=alp (Q:=Q) (bK:=wpAny P .any Z Q f (L.setIfInBounds p.i true)) hG hP hS Ch jU aA hr iC (λa1 m1 k1 k2 k3 k4 ef k6 k7=>by
   subst k4;have T:p.i<L.size:=by rw[hl.size];exact h1
   refine ih (R:=l1++l2) ⟨?_,λq g=>hl.comp q (by rcases fc.1 g with h|h<;>simp[h]),by simp[hl.size],λk=>?_,λk O N A=>?_⟩ (by simp at H |-;omega) gV k1 ef k6 ?_
   .refine Ac.2 ⟨B.1,(tD.1 B.2.1).2,λx hx y hy=>B.2.2 x hx y (by simp[hy])⟩
   .rw[OB];by_cases O:p.i=k
    .subst O;rw[aH rfl,aH T];constructor
     .intro h;cases h
     rintro⟨q,g,u⟩
     rcases fc.1 g with h|h
     .have:=(B.2.2 q h p aQ).1;omega
     have:=((tD.1 B.2.1).1 q h).1;omega
    rw[aw O,hl.free k];constructor
    .rintro ⟨q,g,u⟩
     rcases fc.1 g with h|h
     .exact⟨q,by simp[h],u⟩
     rcases dk.1 h with rfl|h
     .exact(O u).elim
     exact⟨q,by simp[h],u⟩
    rintro⟨q,g,u⟩
    rcases fc.1 g with h|h
    .exact⟨q,by simp[h],u⟩
    exact⟨q,by simp[h],u⟩
   .have Ef:∀N:Nat,L[N]?=some true->(L.setIfInBounds p.i true)[N]?=some true:=by
     intro N A;rw[OB];split
     .first
       |rfl
       |(rename_i e;rw[aH T])
     exact A
    by_cases jk:p.i=k
    .subst jk;refine Ef N (ab N ?_);rw[agW Ch];exact A
    rw[OB,aw jk]at O;exact Ef N (hl.closed k O N A)
   intro a2 m2 p1 p2 p3 p4 p5 p6 p7;exact hK a2 m2 p1 (k2.trans p2) (p3.trans k3) p4 p5 p6 (p7.trans k7))
  unfold wpOp;rw[z];simp only;split at key
  .rename_i hw;rw[aH hw];exact .inl key
  rename_i hw;rw[aw hw];exact key
end
def ua:Nat->eZ->fU->List DF
 |i,x::M,e::y=>⟨i,x,e⟩::ua (i+1) M y
 |_,_,_=>[]
theorem aAq:∀ {M:eZ}{y:fU} (i:Nat),I y=I M->(ua i M y).map (·.io)=M/\(ua i M y).map (·.e)=y:=by
 intro M
 induction M with
 |nil=>intro y i h;cases y with
  |nil=>exact⟨rfl,rfl⟩
  |cons _ _=>simp at h
 |cons x M f=>intro y i h;cases y with
  |nil=>simp at h
  |cons e y=>obtain⟨g,H⟩:=f (y:=y) (i+1) (by simpa using h);exact⟨by simp[ua,g],by simp[ua,H]⟩
theorem aAY{o:iP}:∀ {f:eZ}{j:Nat},VC o j f->∀k x,f[k]?=some x->o.anc.testBit (j+k)\/GN x o:=by
 intro f
 induction f with
 |nil=>intro j _ k x h;simp at h
 |cons y f g=>
  intro j h k x H;simp only[VC,dj,oG]at h;cases k with
  |zero=>simp at H;subst H;exact h.1
  |succ k=>have:=g h.2 k x (by simpa using H);rw[show j+(k+1)=j+1+k by omega];exact this
theorem atY{anc:Nat}{e:iT}:∀ {f:fU}{j:Nat},BC anc e j f->∀k x,f[k]?=some x->anc.testBit (j+k)\/xZ x e=false:=by
 intro f
 induction f with
 |nil=>intro j _ k x h;simp at h
 |cons y f g=>
  intro j h k x H;simp only[BC,dj,oG,mP]at h;cases k with
  |zero=>simp at H;subst H;exact h.1
  |succ k=>have:=g h.2 k x (by simpa using H);rw[show j+(k+1)=j+1+k by omega];exact this
theorem auP:∀ {M:eZ}{y:fU}{g:eZ}{j:fU},I y=I M->I j=I g->OC M g->pK M j y->
  (∀(q:DF),q∈ua (I g) M y->∀(k:Nat) (x:iP) (e:iT),g[k]?=some x->j[k]?=some e->q.io.anc.testBit k\/(GN x q.io/\xZ e q.e=false))/\
  (∀q∈ua (I g) M y,I g<=q.i)/\(ua (I g) M y).Pairwise λp q=>p.i<q.i/\(q.io.anc.testBit p.i\/VS p q):=by
 intro M
 induction M with
 |nil=>
  intro y g j _ _ _ _;have:ua (I g) [] y=[]:=by cases y<;>rfl
  rw[this];exact⟨λq h=>by simp at h,λq h=>by simp at h,.nil⟩
 |cons x M N=>
  intro y g j hl hp B A;cases y with
  |nil=>simp at hl
  |cons e y=>
   simp only[OC,dj]at B;simp only[pK,dj]at A;obtain⟨i1,i2,F⟩:=N (y:=y) (g:=g++[x]) (j:=j++[e]) (by simpa using hl) (by simp[hp]) B.2 A.2;have z:I (g++[x])=I g+1:=aQ;rw[z]at i1 i2 F;simp only[ua];refine⟨?_,?_,tD.2 ⟨?_,F⟩⟩
   .intro q H k Y f D E;rcases dk.1 H with rfl|H
    .have u:=aAY B.1 k Y D;have m:=atY A.1 k f E;rw[kA]at u m;rcases u with u|u
     .exact .inl u
     rcases m with m|m
     .exact .inl m
     exact .inr ⟨u,m⟩
    have L:k<I g:=(cD.1 D).1;exact i1 q H k Y f (by rw[xv L];exact D) (by rw[xv J];exact E)
   .intro q H;rcases dk.1 H with rfl|H
    .exact cT _
    have:=i2 q H;omega
   intro q H;refine⟨by have:=i2 q H;simp only;omega,?_⟩;exact i1 q H (I g) x e aQ (by rw[<-hp];simp)
theorem auu{anc:Nat->eh}{dst:Nat->eh}{base:Nat}:∀ {r:List Oper}{M:eZ}{y:fU}{i:Nat},x_ P dst anc base nt i r=some M->I y=I M->(∀j,Z[i+j]?=r[j]?)->
  (∀p∈ua i M y,∃o,Z[p.i]?=some o/\EM P dst ((base+p.i)*64) nt ((anc p.i).getD 0) o=some p.io)/\ ∀k,i<=k->k<i+I r->∃p∈ua i M y,p.i=k:=by
 intro r
 induction r with
 |nil=>
  intro M y i h _ _;simp only[x_,iL]at h;subst h;have:ua i [] y=[]:=by cases y<;>rfl
  rw[this];exact⟨λp h=>by simp at h,λk f H=>by simp at H;omega⟩
 |cons o r z=>
  intro M y i h hl g;obtain⟨x,X,rfl,f,H⟩:=ado h;cases y with
  |nil=>simp at hl
  |cons e y=>
   obtain⟨i1,i2⟩:=z (y:=y) H (by simpa using hl) (λj=>by have:=g (j+1);rw[show i+1+j=i+(j+1) by omega];simpa using this);refine⟨λp hp=>?_,λk D A=>?_⟩
   .rcases dk.1 hp with rfl|hp
    .exact⟨o,by have:=g 0;simpa using this,f⟩
    exact i1 p hp
   by_cases m:k=i
   .exact⟨⟨i,x,e⟩,by simp[ua],m.symm⟩
   obtain⟨p,hp,u⟩:=i2 k J (by simp at A;omega);exact⟨p,by simp[ua,hp],u⟩
theorem aD0{E:mL}:∀ {M:eZ}{j X:bn}{aj F:aB}{y:fU},ju E Y D M j aj=some (X,F,y)->I y=I M:=by
 intro M
 induction M with
 |nil=>intro j X aj F y h;simp only[ju,iL,mj]at h;rw[<-h.2.2];rfl
 |cons x M f=>
  intro j X aj F y h;simp only[ju]at h;split at h
  .split at h
   .rename_i H;cases h;simp[f H]
   cases h
  cases h
theorem azh{dst anc:Nat->eh}{base:Nat}:∀ {r:List Oper}{M:eZ}{i:Nat},x_ P dst anc base nt i r=some M->I M=I r:=by
 intro r
 induction r with
 |nil=>intro M i h;simp only[x_,iL]at h;subst h;rfl
 |cons o r f=>intro M i h;obtain⟨x,X,rfl,_,H⟩:=ado h;simp[f H]
section
variable {G:World->Prop} (hG:Good G w0) {Y:kS} {D:qM} (hP:Fp P G Y) (hS:Hq P G D) (hL:P3 D) {E:mL}
include hG hP hS hL
theorem aDp(Cm:P.follows .mixedOrders){base id:Nat}{Q:Exit->Act->World->Prop}{l:eZ}{y:fU}{a:Act}(z:x_ P (λab=>(Z[ab]?).bind (·.dst)) (λi=>(Region.before Z)[i]?) base nt 0 Z.toList=some l)
  (Hd:JL Z) (hf:OC l []) (u:ju E Y D l j m.aj=some (X,F,y)) (A:pK l [] y) (aA:eo w0 m) (hr:kK m j a.tmps) (iC:a.tmps.size=nt) (hK:H5 w0 m a nt X F (λa' w'=>Q .normal a' w')):(Code.region id Z true).wp P Q a m.w:=by
 refine wp_region_any Cm ?_;have H:=aD0 u;have kL:I l=Z.size:=by have:=azh z;simpa using this
 obtain⟨g1,g2⟩:=aAq 0 H;obtain⟨_,_,hp⟩:=auP (g:=[]) (j:=[]) H rfl hf A;obtain⟨x,c2⟩:=auu (Z:=Z) z H (λab=>aQ);have yJ:eo w0 (m.later m.w.drew λ_=>False):=TD aA (jo.drew _) λ_ h=>h.elim;have g:g_ m (m.later m.w.drew λ_=>False):=M4 (jo.drew _) λ_ h=>h.elim;have mz:(m.later m.w.drew λ_=>False).fr=m.fr:=by funext c;simp[bR.later]
 refine aCh (m:=m.later m.w.drew λ_=>False) hG hP hS hL Hd Z.size (R:=ua 0 l y) (base:=base) ⟨hp,x,aQ,λi=>?_,λi f=>?_⟩ ?_ (by rw[g1,g2];exact u) yJ (hr.ev g) iC ?_
 .constructor
  .intro h;have f:i<Z.size:=by
    have:=(N3.1 h).1
    simpa using this
   exact c2 i (cE _) (by simpa using f)
  rintro⟨p,hp,rfl⟩
  obtain⟨o,ho,_⟩:=x p hp;have f:p.i<Z.size:=(N3.1 ho).1;simp[f]
 .rw[Array.getElem?_replicate]at f;split at f<;>simp at f
 .have:I (ua 0 l y)=I l:=by have:=congrArg List.length g1;simpa using this
  omega
 intro a2 N p1 O B M L R T;exact hK a2 N p1 (g.trans O) (B.trans mz) M L R T
end
def aaK:oh->Exit
 | .normal=>.normal
 | .exit i=>.exit i
 | .ret=>.ret
section
variable {G:World->Prop} (hG:Good G w0) {Y:kS} {D:qM} (hP:Fp P G Y) (hS:Hq P G D) (hL:P3 D) (Cm:P.follows .mixedOrders) {E:mL}
include hG hP hS hL Cm
theorem ayl{n:Nat}:∀(c:Code) {R:aP}{j X:bn}{m:bR}{F:aB}{e:oh}{a:Act}{Q:Exit->Act->World->Prop},qY P f nt c=some R->dJ E Y D n R j m.aj=some (e,X,F)->eo w0 m->kK m j a.tmps->a.tmps.size=nt->
  H5 w0 m a nt X F (λa' w'=>Q (aaK e) a' w')->c.wp P Q a m.w:=by
 intro c
 induction c with
 |skip=>intro R j X m F e a Q H h aA hr u g;simp only[qY,iL]at H;subst H;simp only[dJ,iL,mj]at h;obtain⟨rfl,rfl,rfl⟩:=h;exact wp_skip (g a m aA (g_.refl m) rfl rfl hr u rfl)
 |label l=>intro R j X m F e a Q H h aA hr u g;simp only[qY,iL]at H;subst H;simp only[dJ,iL,mj]at h;obtain⟨rfl,rfl,rfl⟩:=h;exact wp_label (g a m aA (g_.refl m) rfl rfl hr u rfl)
 |ret=>intro R j X m F e a Q H h aA hr u g;simp only[qY,iL]at H;subst H;simp only[dJ,iL,mj]at h;obtain⟨rfl,rfl,rfl⟩:=h;exact wp_ret (g a m aA (g_.refl m) rfl rfl hr u rfl)
 |exit id=>intro R j X m F e a Q H h aA hr u g;simp only[qY,iL]at H;subst H;simp only[dJ,iL,mj]at h;obtain⟨rfl,rfl,rfl⟩:=h;exact wp_exit (g a m aA (g_.refl m) rfl rfl hr u rfl)
 |region id Z ad=>
  intro R j X m F e a Q H h aA hr u g;simp only[qY]at H;split at H
  .rename_i M Qj;cases ad with
   |false=>
    simp only[eX,if_false,iL]at H;subst H;simp only[dJ]at h;split at h
    .rename_i e1 b1 y dh;simp only[eX,if_false,iL,mj]at h;obtain⟨rfl,rfl,rfl⟩:=h;exact aDw hG hP hS Qj dh aA hr u g
    cases h
   |true=>
    simp only[if_true]at H Qj;split at H
    .rename_i yF;simp only[dj]at yF;cases H;simp only[dJ]at h;split at h
     .rename_i e1 b1 y dh;simp only[if_true]at h;split at h
      .rename_i hd;cases h;exact aDp hG hP hS hL Cm Qj yF.1 yF.2 dh hd aA hr u g
      cases h
     cases h
    cases H
  cases H
 |seq x av ac aq=>
  intro R j X m F e a Q H h aA hr u g;simp only[qY]at H;split at H
  .rename_i ix iy h1 h2;cases H;simp only[dJ]at h;refine wp_seq ?_;split at h
   .rename_i gK bY ug;refine ac h1 ug aA hr u ?_;intro a1 T L A z B ef O N;subst B;refine aq h2 h L ef O ?_;intro a2 m2 p1 p2 p3 p4 p5 p6 p7;exact g a2 m2 p1 (A.trans p2) (p3.trans z) p4 p5 p6 (p7.trans N)
   rename_i aN;refine ac h1 h aA hr u ?_;intro a1 T L A z B ef O N;have:=g a1 T L A z B ef O N;cases e with
   |normal=>exact(aN X F h).elim
   |exit i=>exact this
   |ret=>exact this
  cases H
 |cond x p q ar an=>
  intro R j X m F e a Q H h aA hr u g;simp only[qY]at H;split at H
  .rename_i c' ip iq h1 h2 h3;cases H;simp only[dJ]at h;split at h
   .rename_i t ht;have hv:=gb h1 hr;rw[ht]at hv;refine wp_cond (Fl hv) ?_;cases t with
    |true=>simp only[if_true]at h |-;exact ar h2 h aA hr u g
    |false=>simp only[eX,if_false]at h |-;exact an h3 h aA hr u g
   cases h
  cases H
 |block id c ih=>
  intro R j X m F e a Q H h aA hr u g;simp only[qY,eU]at H;obtain⟨ab,h1,rfl⟩:=H;simp only[dJ]at h;refine wp_block ?_;split at h
  .rename_i i gK bY ug;refine ih h1 ug aA hr u ?_;intro a1 T L A z B ef O N;simp only[aaK,Exit.inBlock];split at h
   .rename_i hi;cases h;rw[aH hi];exact g a1 T L A z B ef O N
   rename_i hi;cases h;rw[aw hi];exact g a1 T L A z B ef O N
  rename_i aN;refine ih h1 h aA hr u ?_;intro a1 T L A z B ef O N;have:=g a1 T L A z B ef O N;cases e with
  |normal=>exact this
  |exit i=>exact(aN i X F h).elim
  |ret=>exact this
 |loop c ih=>
  intro R j X m F e a Q H h aA hr u g;simp only[qY,eU]at H;obtain⟨ab,h1,rfl⟩:=H;simp only[dJ]at h;refine wp_loop_rounds n ?_;have key:∀(k:Nat) {j:bn}{m:bR}{a:Act},lY (dJ E Y D n ab) k j m.aj=some (e,X,F)->eo w0 m->kK m j a.tmps->a.tmps.size=nt->H5 w0 m a nt X F (λa' w'=>Q (aaK e) a' w')->Code.rounds P c Q k a m.w:=by
   intro k
   induction k with
   |zero=>intro j m a h;simp[lY]at h
   |succ k ap=>
    intro j m a h aA hr u g;rw[rounds_succ];simp only[lY]at h;split at h
    .rename_i gK bY ug;refine ih h1 ug aA hr u ?_;intro a1 T L A z B ef O N;subst B;refine ap h L ef O ?_;intro a2 m2 p1 p2 p3 p4 p5 p6 p7;exact g a2 m2 p1 (A.trans p2) (p3.trans z) p4 p5 p6 (p7.trans N)
    rename_i aN;refine ih h1 h aA hr u ?_;intro a1 T L A z B ef O N;have:=g a1 T L A z B ef O N;cases e with
    |normal=>exact(aN X F h).elim
    |exit i=>exact this
    |ret=>exact this
  exact key n h aA hr u g
 |scope c ih=>intro R j X m F e a Q H h aA hr u g;simp only[qY]at H;refine wp_scope_straight ?_;refine ih H h aA hr u ?_;intro a1 T L A z B ef O N;have:=g a1 T L A z B ef O N;cases e<;>exact this
 |_=>intro R j X m F e a Q H h;simp only[qY,iL]at H;subst H;simp[dJ]at h
end
section
variable{m:bR}
theorem aAB{k:eh}{D:eG}{v:V}{u:Value}(h:te k D=some v)(hr:dm m v u):qB m v u:=by
 unfold te at h;split at h
 .split at h
  .cases h;exact hr
  cases h
 split at h
 .cases h;exact hr
 cases h
theorem ayj{v:V}{u:Value}(h:V_ x=some v)(hr:dm m x u):qB m v u:=by cases x<;>simp only[V_,iL,reduceCtorEq]at h<;>subst h<;>exact hr
theorem ahO{α β:Type}{f:α->Sem β}{x:α}{M:List α}{y:β}{ys:List β}{w:World}(H:(f x).run P w=.ok y w)(h:(M.mapM f).run P w=.ok ys w):((x::M).mapM f).run P w=.ok (y::ys) w:=by simp only[List.mapM_cons,Sem.run_bind,H,h,Result.andThen_ok,Sem.run_pure]
theorem azY{al:cG}(aA:eo w0 m){tmps:Array Value}(hr:kK m j tmps):∀ {R:List ResultVar}{l:List (Nat×Option eh)}{h:dN},BN P R=some l->qD al j m.aj l=some h->
  ∃ys,(R.mapM (λ| .tmp t=>pure (tmps.getD t undef)| .cell a t=>do loadVar t (<-asAddr (tmps.getD a undef)):ResultVar->Sem Value)).run P m.w=.ok ys m.w/\Pw (qB m) h ys:=by
 intro R
 induction R with
 |nil=>intro l h f H;simp only[BN,iL]at f;subst f;simp only[qD,iL]at H;subst H;exact⟨[],by simp[Sem.run_pure],rfl,λE x u p=>by simp at p⟩
 |cons r R B=>
  intro l h f H;have cons:∀ {x:V}{M:dN}{y:Value}{ys:List Value},qB m x y->Pw (qB m) M ys->Pw (qB m) (x::M) (y::ys):=by
   intro x M y ys p q;refine⟨by simp[q.1],λE z u a b=>?_⟩;cases E with
   |zero=>simp at a b;subst a b;exact p
   |succ E=>exact q.2 E z u (by simpa using a) (by simpa using b)
  cases r with
  |tmp t=>
   simp only[BN,eU]at f;obtain⟨Y,O,rfl⟩:=f;simp only[qD]at H;split at H
   .rename_i v q e1 e2;cases H;obtain⟨ys,g1,g⟩:=B O e2;exact⟨_::ys,ahO (by simp[Sem.run_pure]) g1,cons (ayj e1 (hr t)) g⟩
   cases H
  |cell a t=>
   simp only[BN]at f;split at f
   .rename_i k q e1 e2;cases f;simp only[qD]at H;split at H
    .rename_i D rd T Q e4;split at H
     case isFalse=>cases H
     simp only[eU]at H;obtain⟨v,A,rfl⟩:=H;obtain⟨ys,g1,g⟩:=B e2 e4;obtain⟨X,y,N,L,F⟩:=amw e1 (ao6 aA Q (hr a)) A;exact⟨y::ys,ahO (by simp[N,asAddr,L]) g1,cons (aAB A F) g⟩
    cases H
   cases f
theorem arx{al:cG}(aA:eo w0 m){tmps:Array Value}(hr:kK m j tmps){fn:Func}{l:List (Nat×Option eh)}{h:dN}(z:BN P fn.results.toList=some l)(H:qD al j m.aj l=some h):
  ∃y,(results fn tmps).run P m.w=.ok y m.w/\dm m (zY h) y:=by
 obtain⟨ys,g1,g⟩:=azY aA hr z H;have mS:(results fn tmps).run P m.w=.ok (if B:ys.toArray.size=1 then ys.toArray[0]else .tuple ys.toArray) m.w:=by
  unfold results;simp only[Array.mapM_eq_mapM_toList,map_eq_pure_bind,Sem.run_bind,Result.andThen_ok,Sem.run_pure,bind_assoc,pure_bind]
  erw[g1]
  simp only[Result.andThen_ok,Sem.run_pure]
 refine⟨_,mS,?_⟩
 match h,ys,g with
 |[v],[y],g=>exact dm.of1 (g.2 0 v y rfl rfl)
 |[],[],g=>exact⟨_,rfl,rfl,λA x u p=>by simp at p⟩
 |v::f::h,y::y'::ys,g=>refine⟨_,rfl,by simpa using g.1,λA x u p q=>g.2 A x u p (by simpa using q)⟩
 |[],y::ys,g=>exact absurd g.1 aQ
 |v::h,[],g=>exact absurd g.1 aQ
 |[v],y::y'::ys,g=>exact absurd g.1 aQ
 |v::f::h,[y],g=>exact absurd g.1 aQ
theorem aka{fn:aV}(h:Fs P f=some fn):∃g c,P.funcs[f]?=some g/\g.body=some c/\(g.name== "runtime.NumGoroutine")=false/\qY P f g.ntmps c=some fn.body/\BN P g.results.toList=some fn.results/\fn.ntmps=g.ntmps:=by
 unfold Fs at h;split at h
 .cases h
 rename_i g H;split at h
 .cases h
 rename_i c u;split at h
 .cases h
 rename_i x;split at h
 .rename_i b r m j;cases h;exact⟨g,c,H,u,by simpa using x,m,j,rfl⟩
 cases h
def ad1(S:Sys)(G:World->Prop):Prop:=∀f h r,S.prim f h=some (some r)->Enters S.P f/\ ∀(w:World) (O:Nat->Prop) (T:Array Value),Good G w->(∀c,O c->c<w.heap.size)->Pw (vg w O) h T.toList->Calls S.P f T w (yh w O r)
def aCk(S:Sys)(G:World->Prop):Prop:=∀f h al aj v F,S.trig f h->(S.primS f h al aj).map (λr=>(r.1,app r.2 aj))=some (v,F)->
 (Enters S.P f/\ ∀(w0:World) (m:bR) (T:Array Value),Good G w0->eo w0 m->m.aj=aj->Pw (dm m) h T.toList->Calls S.P f T m.w (J0 w0 m v F))/\
 (∀id,al.ok id=false->F id=aj id)/\
 ∀bJ,(∀id,al.ok id->bJ id=aj id)->∃g,(S.primS f h al bJ).map (λr=>(r.1,app r.2 bJ))=some (v,g)/\ ∀id,g id=if al.ok id then F id else bJ id
structure KA (S:Sys) (G:World->Prop):Prop where
 follow:S.P.follows .mixedOrders
 fns:∀f fn,S.fns f=some fn->Fs S.P f=some fn
 prim:ad1 S G
 primS:aCk S G
theorem aD3{h:dN}(j:Pw (dm m) h T.toList)(hl:I h<=nt):kK m (tp h) (T++Array.replicate (nt-T.size) undef)/\(T++Array.replicate (nt-T.size) undef).size=nt:=by
 have hs:T.size=I h:=by simpa using j.1
 constructor
 .intro t;by_cases H:t<I h
  .have f:tp h t=h[t]:=by simp[tp,List.getD,H]
   have g:(T++Array.replicate (nt-T.size) undef).getD t undef=T[t]:=by simp[CH,Wp,hs,H]
   rw[f,g];exact j.2 t _ _ (by simp[H]) (by simp[hs,H])
  have f:tp h t=.undef:=by simp[tp,List.getD,oF (ac6 H)]
  have g:(T++Array.replicate (nt-T.size) undef).getD t undef=undef:=by simp only[CH,Wp,hs,aw H];rw[Array.getElem?_replicate];split<;>rfl
  rw[f,g];rfl
 simp;omega
theorem axo(aA:eo w0 m):∀ {o q:aG},lG o q->(∀id∈o,∃O,(m.aj id).2=some O/\O.ij)->(o.map m.σ).Nodup/\ ∀id∈q,id∉o:=by
 intro o
 induction o with
 |nil=>intro q _ _;exact⟨aQ,λid _ h=>by simp at h⟩
 |cons i o F=>
  intro q h g;simp only[lG,dj,mP]at h;obtain⟨⟨M,y⟩,z⟩:=h;obtain⟨i1,i2⟩:=F z (λid H=>g id (by simp[H]));have L:i∉o:=by simpa using M
  have N:i∉q:=by simpa using y
  refine⟨?_,λid H=>?_⟩
  .rw[eR,o0];refine⟨λx=>?_,i1⟩;obtain⟨j,u,A⟩:=eg.1 x;obtain⟨O,D,E⟩:=g i aQ;obtain⟨f,B,b2⟩:=g j (by simp[u]);exact L (aA.inj j i f O B b2 D E A▸u)
  simp only[dk,vW];exact⟨λe=>N (e▸H),i2 id H⟩
theorem asH{aj:aB}:∀ {D:eG}{R:oI}{o q:aG},kj aj D=some (R,o,q)->I R=I D:=by
 intro D
 induction D with
 |nil=>intro R o q h;simp only[kj,iL,mj]at h;obtain⟨rfl,_,_⟩:=h;rfl
 |cons c D f=>
  intro R o q h;simp only[kj]at h;split at h
  .rename_i x O g M os Q j H;cases h;simp[f H]
  cases h
theorem ahI{α β:Type}{f:α->Option (β×aG)}:∀ {M:List α}{ys:List β}{r:aG},ic f M=some (ys,r)->∀id∈r,∃x y q,f x=some (y,q)/\id∈q:=by
 intro M
 induction M with
 |nil=>intro ys r h id H;simp[ic]at h;rw[h.2]at H;simp at H
 |cons x M g=>
  intro ys r h id H;simp only[ic]at h;split at h
  .rename_i b p bs q e1 e2;cases h;rcases fc.1 H with H|H
   .exact⟨x,b,p,e1,H⟩
   exact g e2 id H
  cases h
theorem aAa{aj:aB}:∀ {n:Nat}{c:c6}{x:PV}{r:aG},snap aj n c=some (x,r)->∀id∈r,∃O,(aj id).2=some O:=by
 intro n
 induction n with
 |zero=>intro c x r h;simp[snap]at h
 |succ n B=>
  intro c x r h id H;have one:∀ {i:Nat}{O:fZ}{g:Nat},aj i=(g,some O)->id∈[i]->∃O,(aj id).2=some O:=by intro i O g f z;simp at z;subst z;exact⟨O,by rw[f]⟩
  have j:∀ {D:eG}{ps:b_}{r:aG},ic (snap aj n) D=some (ps,r)->id∈r->∃O,(aj id).2=some O:=by intro D ps r h z;obtain⟨x,y,q,u,m⟩:=ahI h id z;exact B u id m
  unfold snap at h;split at h
  .cases h;simp at H
  .split at h
   .rename_i f;split at h
    .split at h
     .rename_i A;cases h;rcases dk.1 H with e|H
      .exact one f (by simp[e])
      exact j A H
     cases h
    cases h
   .rename_i f;split at h
    .cases h;exact one f H
    cases h
   cases h
  .split at h
   .rename_i f;split at h
    .simp only[eU]at h;obtain⟨e,_,m⟩:=h;cases m;exact one f H
    cases h
   .rename_i f;split at h
    .simp only[eU]at h;obtain⟨e,_,m⟩:=h;cases m;exact one f H
    cases h
   cases h
  .split at h
   .rename_i f;split at h
    .cases h;exact one f H
    cases h
   .rename_i f;split at h
    .cases h;exact one f H
    cases h
   .rename_i f;split at h
    .split at h
     .rename_i A;cases h;rcases dk.1 H with e|H
      .exact one f (by simp[e])
      obtain⟨x,y,q,u,m⟩:=ahI A id H;exact j u m
     cases h
    cases h
   cases h
  .split at h
   .rename_i f;split at h
    .cases h;exact one f H
    cases h
   .rename_i f;split at h
    .cases h;exact one f H
    cases h
   cases h
  split at h
  .rename_i u m;cases h;rcases fc.1 H with H|H
   .exact j u H
   exact j m H
  cases h
theorem aqW{aj:aB}:∀ {D:eG}{R:oI}{o q:aG},kj aj D=some (R,o,q)->∀id∈q,∃O,(aj id).2=some O:=by
 intro D
 induction D with
 |nil=>intro R o q h id H;simp only[kj,iL,mj]at h;rw[<-h.2.2]at H;simp at H
 |cons c D m=>
  intro R o q h id H;simp only[kj]at h;split at h
  .rename_i x z Q M os A f g;cases h;rcases fc.1 H with H|H
   .have dQ:(snap aj ia c).map (λ(v,r)=>((.p v:kJ),([]:aG),r))=some (x,z,Q)->∃O,(aj id).2=some O:=by
     intro f;simp only[eU]at f;obtain⟨⟨y,r⟩,j,u⟩:=f;cases u;exact aAa j id H
    unfold gR at f;split at f
    .cases f;simp at H
    .split at f
     .split at f
      .cases f;simp at H
      cases f
     exact dQ f
    exact dQ f
   exact m g id H
  cases h
theorem avF{w:World}{Y:bR}(aA:eo w m)(E:g_ Y m)(lO:Y.w=w)(X:∀c,¬Y.ij c)(mz:m.fr=O){v:V}{r:RV}(z:gr m.aj v=some r)(hr:dm m v val):yh w O r (.returned val) m.w:=by
 unfold gr at z;split at z
 .rename_i D dK;split at z
  .rename_i rs o q L;split at z
   .rename_i qm;cases z;obtain⟨h,y,kh⟩:=ar2 dK hr;obtain⟨g1,g2⟩:=kh rs (asH L);have M:=(afi aA (Q:=λ_=>False) (λ_ z=>z.elim) L y (λ_ _ z=>z)).2;obtain⟨gk,Z⟩:=axo aA qm M;have B:∀b,(O b\/b∈o.map m.σ)->m.own b:=by
     intro b A;rcases A with A|A
     .exact .inl (mz▸A)
     obtain⟨id,H,rfl⟩:=eg.1 A;obtain⟨f,F,R⟩:=M id H;exact .inr ⟨id,f,F,R,rfl⟩
    have hq:∀id∈q,¬(O (m.σ id)\/m.σ id∈o.map m.σ):=by
     intro id H x;obtain⟨f,g⟩:=aqW L id H;by_cases T:f.ij
     .rcases x with x|x
      .exact(aA.gZ id f g T).2 (mz▸x)
      obtain⟨j,hj,he⟩:=eg.1 x;obtain⟨ab,b1,b2⟩:=M j hj;exact Z id H (aA.inj j id ab f b1 b2 g T he▸hj)
     have u:¬m.own (m.σ id):=by
      have N:=aA.obj id f g;cases f<;>simp[fZ.ij]at T
      .obtain⟨_,_,_,_,_,u⟩:=N;exact u
      .obtain⟨_,_,_,_,_,_,_,_,_,u⟩:=N;exact u
      obtain⟨_,_,_,_,_,u⟩:=N;exact u
     exact u (B _ x)
    obtain⟨wM,_⟩:=afi aA B L y hq;subst lO;refine⟨val,o.map m.σ,rfl,⟨E.os,E.tape,E.output,E.size,λc y=>E.keep c y (X c)⟩,gk,λc y=>?_,h,g2,by rw[g1];exact wM⟩;obtain⟨id,H,rfl⟩:=eg.1 y;obtain⟨f,F,R⟩:=M id H;exact⟨(aA.gZ id f F R).1,(aA.obj id f F).lt⟩
   cases z
  cases z
 cases z
theorem vg.vrel{w:World}(H:m.w=w)(f:m.own=O){v:Value}(h:vg w O x v):dm m x v:=by
 subst H f;cases x with
 |undef=>exact h.elim
 |tup _=>exact h.elim
 |one c=>
  cases c with
  |p x=>exact pD h
  |_=>exact h.elim
 |agg D=>obtain⟨arr,ps,rfl,rfl,hp⟩:=h;exact dm.agg.2 ⟨arr,rfl,hp.Gp⟩
theorem aEw{E:mL}{n:Nat}{fn:aV}{T:dN}{aj:aB}{v:V}(H:sN E Y D n fn T aj=some (v,F)):
  ∃e j h,dJ E Y D n fn.body (tp T) aj=some (e,j,F)/\(e=.normal\/e=.ret)/\qD E.al j F fn.results=some h/\v=zY h:=by
 unfold sN at H;split at H
 .rename_i j b m;simp only[eU]at H;obtain⟨h,g,f⟩:=H;cases f;exact⟨_,j,h,m,.inl rfl,g,rfl⟩
 .rename_i j b m;simp only[eU]at H;obtain⟨h,g,f⟩:=H;cases f;exact⟨_,j,h,m,.inr rfl,g,rfl⟩
 cases H
theorem amt{G:World->Prop}(hG:Good G w0)(hP:Fp P G Y)(hS:Hq P G D)(hL:P3 D)(Cm:P.follows .mixedOrders){E:mL}{n:Nat}{fn:aV}(hc:Fs P f=some fn){h:dN}{m:bR}{v:V}(ab:sN E Y D n fn h m.aj=some (v,F))
  (hl:I h<=fn.ntmps) (aA:eo w0 m) (ha:Pw (dm m) h T.toList):Calls P f T m.w (J0 w0 m v F):=by
 obtain⟨u,c,Q,H,h3,O,R,h6⟩:=aka hc;obtain⟨e,j,X,hx,he,B,rfl⟩:=aEw ab;refine calls_of_wp Q H ?_;obtain⟨Z,L⟩:=aD3 (nt:=u.ntmps) ha (by rw[<-h6];exact hl);refine ayl hG hP hS hL Cm c O hx aA Z L ?_;intro N M g k2 A k4 ef k6 x;subst k4;obtain⟨y,g1,z⟩:=arx g ef R B;have:bodyPost P u (J0 w0 m (zY X) M.aj) .normal N M.w:=⟨x,y,g1,y,M,rfl,rfl,g,k2,A,rfl,z⟩;rcases he with rfl|rfl
 .exact this
 exact this
theorem ahD{fn:aV}(m:Fs P f=some fn):Enters P f:=by obtain⟨j,c,H,h,g,_⟩:=aka m;exact⟨j,c,H,h,g⟩
theorem sound{S:Sys}{G:World->Prop}(g:KA S G):∀n,Fp S.P G (jd S n)/\Hq S.P G (jc S n)/\P3 (jc S n):=by
 intro n
 induction n with
 |zero=>exact⟨λf h r g=>by simp[jd]at g,λf h al aj v F g=>by simp[jc]at g,λf h al aj v F g=>by simp[jc]at g⟩
 |succ n ih=>
  obtain⟨hP,hS,hL⟩:=ih;refine⟨?_,?_,?_⟩
  .intro f h r H;rw[jd]at H;split at H
   .rename_i r' hp;subst H;exact g.prim f h r hp
   split at H
   .rename_i fn hfn;have Y:=g.fns f fn hfn;split at H
    .rename_i hl;refine⟨ahD Y,λw O T hG hO z=>?_⟩;unfold EJ at H;split at H
     .rename_i v F hr
      let M:bR:=⟨w,AE,λ_=>0,λ_=>0,O⟩
      have A:M.own=O:=by
       funext c;apply propext;constructor
       .rintro (g|⟨id,o,g,_⟩)
        .exact g
        cases g
       exact .inl
      have aA:eo w M:=⟨rfl,rfl,rfl,cT _,λ_ _=>rfl,(λid o g=>by cases g),(λid o g=>by cases g),hO,(λid fR o o' g=>by cases g)⟩;have D:Pw (dm M) h T.toList:=⟨z.1,λj x u p q=>(z.2 j x u p q).vrel rfl A⟩;refine(amt hG hP hS hL g.follow Y (m:=M) hr hl aA D).mono ?_;rintro e w' ⟨val,m',rfl,rfl,Z,q2,q3,q4,q5⟩
      subst q4;exact avF (Y:=M) Z q2 rfl (λc ⟨id,o,g,_⟩=>by cases g) q3 H q5
     cases H
    cases H
   cases H
  .intro f h al aj v F H;rw[jc]at H;by_cases y:S.trig f h
   .rw[aH y]at H;exact(g.primS f h al aj v F y H).1
   rw[aw y]at H;split at H
   .rename_i fn hfn;have Y:=g.fns f fn hfn;split at H
    .rename_i hl;refine⟨ahD Y,λw0 m T hG aA X z=>?_⟩;subst X;exact amt hG hP hS hL g.follow Y H hl aA z
    cases H
   cases H
  intro f h al aj v F H;rw[jc]at H;by_cases y:S.trig f h
  .rw[aH y]at H;obtain⟨_,Q,R⟩:=g.primS f h al aj v F y H;refine⟨Q,λbJ B=>?_⟩;obtain⟨E,N,L⟩:=R bJ B;exact⟨E,by rw[jc,aH y];exact N,L⟩
  rw[aw y]at H;split at H
  .rename_i fn hfn;split at H
   .rename_i hl;obtain⟨Q,R⟩:=aCB hL H;refine⟨Q,λbJ B=>?_⟩;obtain⟨E,N,L⟩:=R bJ B;exact⟨E,by rw[jc,aw y];simp only[hfn,hl,if_true];exact N,L⟩
   cases H
  cases H
theorem aJ.calls{S:Sys}{G:World->Prop}(H:KA S G){h:dN}{r:RV}(j:aJ S f h r)(w:World)(hG:Good G w)(T:Array Value)(g:Pw (vg w λ_=>False) h T.toList):Calls S.P f T w (yh w (λ_=>False) r):=by obtain⟨n,m⟩:=j;exact((sound H n).1 f h r m).2 w _ T hG (λc H=>H.elim) g
end
section
variable{T:dN}{D:qM}{E:mL}{Y:kS}
theorem apj{n:Nat}(h:n<=9223372036854775807):IntKind.i64.wrap (n:Int)=n:=by have e:(2 ^ IntKind.i64.bits:Int)=18446744073709551616:=U;have e2:(2 ^ (IntKind.i64.bits-1):Int)=9223372036854775808:=U;unfold IntKind.wrap;simp only[e,e2];have H:(n:Int)%18446744073709551616=n:=J;rw[H];have f:¬(n:Int)≥9223372036854775808:=J;simp[f]
inductive eT where
 |leaf
 |node (v:V) (l r:eT)
noncomputable def eT.get (t:eT):Nat->V:=eT.rec (motive:=λ_=>Nat->V) (λ_=>.undef) (λv _ _ g im n=>bif Nat.beq n 0 then v else bif Nat.beq (Nat.mod n 2) 1 then g (Nat.div n 2)else im (Nat.sub (Nat.div n 2) 1)) t
noncomputable def eT.single (k:Nat):Nat->V->eT:=Nat.rec (motive:=λ_=>Nat->V->eT) (λ_ _=>.leaf) (λ_ f n x=>bif Nat.beq n 0 then .node x .leaf .leaf else bif Nat.beq (Nat.mod n 2) 1 then .node .undef (f (Nat.div n 2) x) .leaf else .node .undef .leaf (f (Nat.sub (Nat.div n 2) 1) x)) k
noncomputable def eT.set (t:eT):Nat->V->eT:=eT.rec (motive:=λ_=>Nat->V->eT) (λn x=>eT.single 12 n x) (λv l r sl f n x=>bif Nat.beq n 0 then .node x l r else bif Nat.beq (Nat.mod n 2) 1 then .node v (sl (Nat.div n 2) x) r else .node v l (f (Nat.sub (Nat.div n 2) 1) x)) t
theorem E8{a b:Nat}(h:a≠b):Nat.beq a b=false:=by
 cases e:Nat.beq a b with
 |false=>rfl
 |true=>exact(h (Dw e)).elim
theorem aFz(n:Nat):eT.leaf.get n=.undef:=rfl
theorem Rd(v:V)(l r:eT)(n:Nat):(eT.node v l r).get n=if n=0 then v else if n%2=1 then l.get (n/2)else r.get (n/2-1):=by
 show(bif Nat.beq n 0 then v else bif Nat.beq (n%2) 1 then l.get (n/2)else r.get (n/2-1))=_;by_cases H:n=0
 .subst H;rfl
 rw[E8 H,aw H];by_cases h:n%2=1
 .rw[h];rfl
 rw[E8 h,aw h];rfl
theorem an1(f:eT->eT)(g:eT->eT)(v:V)(l r:eT)(n m:Nat)(x:V)(hl:n%2=1->(f l).get (m/2)=if m/2=n/2 then x else l.get (m/2))(hr:n≠0->n%2≠1->(g r).get (m/2-1)=if m/2-1=n/2-1 then x else r.get (m/2-1)):
  (bif Nat.beq n 0 then eT.node x l r else bif Nat.beq (n%2) 1 then .node v (f l) r else .node v l (g r)).get m=if m=n then x else(eT.node v l r).get m:=by
 by_cases j:n=0
 .subst j;simp only[UP,cond_true,Rd];by_cases h:m=0<;>simp[h]
 rw[E8 j];by_cases u:n%2=1
 .rw[u];simp only[cond_false,UP,cond_true,Rd];by_cases h:m=0
  .subst h;rw[aH rfl,aw (λe=>j e.symm),aH rfl]
  rw[aw h];by_cases O:m%2=1
  .rw[aH O,hl u];by_cases H:m=n
   .subst H;simp
   rw[aw H,aw J,aw h,aH O]
  rw[aw O,aw J,aw h,aw O]
 rw[E8 u];simp only[cond_false,Rd];by_cases h:m=0
 .subst h;rw[aH rfl,aw (λe=>j e.symm),aH rfl]
 rw[aw h];by_cases O:m%2=1
 .rw[aH O,aw J,aw h,aH O]
 rw[aw O,hr j u];by_cases H:m=n
 .subst H;simp
 rw[aw H,aw J,aw h,aw O]
theorem aAc:∀(k n m:Nat) (x:V),n+1<2 ^ k->(eT.single k n x).get m=if m=n then x else eT.leaf.get m:=by
 intro k
 induction k with
 |zero=>intro n m x h;simp at h
 |succ k f=>
  intro n m x h;have hp:2 ^ (k+1)=2*2 ^ k:=by rw[Nat.pow_succ];omega
  have:=an1 (λ_=>eT.single k (n/2) x) (λ_=>eT.single k (n/2-1) x) .undef .leaf .leaf n m x (λ_=>f _ _ _ J) (λ_ _=>f _ _ _ J);have e:(eT.node .undef .leaf .leaf).get m=eT.leaf.get m:=by rw[Rd];simp[aFz]
  rw[e]at this;exact this
theorem eT.ahb:∀(t:eT) (n m:Nat) (x:V),n+1<2 ^ 12->(t.set n x).get m=if m=n then x else t.get m:=by
 intro t
 induction t with
 |leaf=>intro n m x h;exact aAc 12 n m x h
 |node v l r g f=>intro n m x h;exact an1 (λl=>l.set (n/2) x) (λr=>r.set (n/2-1) x) v l r n m x (λ_=>g _ _ _ J) (λ_ _=>f _ _ _ J)
abbrev BL:=List (Nat×(Nat×Option fZ))
noncomputable def KU (b:BL) (n:Nat):Nat×Option fZ:=List.rec (motive:=λ_=>Nat×Option fZ) (0,none) (λp _ f=>bif Nat.beq p.1 n then p.2 else f) b
noncomputable def Nj:BL->Nat->Nat×Option fZ->BL
 |[],n,x=>[(n,x)]
 |(i,o)::r,n,x=>bif Nat.beq i n then(i,x)::r else(i,o)::Nj r n x
theorem aEg:∀(b:BL) (n:Nat) (x:Nat×Option fZ) (m:Nat),KU (Nj b n x) m=if m=n then x else KU b m:=by
 intro b
 induction b with
 |nil=>
  intro n x m;simp only[Nj,KU];by_cases h:m=n
  .subst h;simp
  have:Nat.beq n m=false:=E8 λe=>h e.symm;simp[this,h]
 |cons p b f=>
  obtain⟨i,o⟩:=p;intro n x m;simp only[Nj];by_cases h:i=n
  .subst h;simp only[UP,cond_true,KU];by_cases H:m=i
   .subst H;simp
   have:Nat.beq i m=false:=E8 λe=>H e.symm;simp[this,H]
  have:Nat.beq i n=false:=E8 h;simp only[this,cond_false,KU];by_cases H:i=m
  .subst H;simp[h]
  have:Nat.beq i m=false:=E8 H;simp only[this,cond_false];exact f n x m
noncomputable def rf (t:eT):bn:=λi=>t.get i
noncomputable def mH (b:BL):aB:=λi=>KU b i
noncomputable def K8:Nat->dN->eT->eT
 |_,[],t=>t
 |i,a::r,t=>K8 (i+1) r (t.set i a)
theorem azR:∀(l:dN) (i:Nat) (t:eT) (m:Nat),i+I l<4095->(K8 i l t).get m=if i<=m/\m<i+I l then l.getD (m-i) .undef else t.get m:=by
 intro l
 induction l with
 |nil=>intro i t m _;simp[K8];intro f H;omega
 |cons a r g=>
  intro i t m h;simp only[dw]at h |-;rw[K8,g (i+1) _ m J,eT.ahb t i m a J];by_cases f:m=i
  .subst f;rw[aw J,aH rfl,aH J];simp
  rw[aw f];by_cases H:i+1<=m/\m<i+1+I r
  .rw[aH H,aH J];obtain⟨k,rfl⟩:∃k,m=i+1+k:=⟨m-(i+1),J⟩;rw[show i+1+k-(i+1)=k by omega,show i+1+k-i=k+1 by omega];simp
  rw[aw H,aw J]
theorem at2(h:I T<4095):rf (K8 0 T .leaf)=tp T:=by
 funext m;unfold rf tp;rw[azR T 0 .leaf m J];by_cases H:m<I T
 .rw[aH J];rfl
 rw[aw J];simp[eT.get,List.getD,oF (ac6 H)]
noncomputable def adj {α:Type} (n:Nat) (k:Nat->α):α:=match n with
 |0=>k 0
 |m+1=>k (m+1)
noncomputable def aex {α:Type} (z:Int) (k:Int->α):α:=match z with
 | .ofNat n=>adj n λn=>k (.ofNat n)
 | .negSucc n=>adj n λn=>k (.negSucc n)
noncomputable def aaj {α:Type} (v:V) (k:V->α):α:=match v with
 | .one (.p (.int t z))=>aex z λz=>k (.one (.p (.int t z)))
 | .one (.p (.bool b))=>match b with
  |true=>k (.one (.p (.bool true)))
  |false=>k (.one (.p (.bool false)))
 |v=>k v
@[simp] theorem aHz {α:Type} (n:Nat) (k:Nat->α):adj n k=k n:=by cases n<;>rfl
@[simp] theorem aHy {α:Type} (z:Int) (k:Int->α):aex z k=k z:=by cases z<;>simp[aex]
@[simp] theorem auw {α:Type} (v:V) (k:V->α):aaj v k=k v:=by
 unfold aaj;split
 .simp
 .split<;>rfl
 rfl
def Sn(al:cG)(l:aG):Bool:=bif al.any then true else al.gH l
theorem arI(al:cG)(l:aG):Sn al l=al.gH l:=by
 unfold Sn;cases h:al.any with
 |false=>rfl
 |true=>simp[cG.gH,cG.ok,h]
abbrev qI:=Nat->dN->cG->BL->Option (V×BL)
noncomputable def HF:lA->BL->BL
 |[],b=>b
 |(i,o)::r,b=>HF r (Nj b i o)
theorem aad:∀(u:lA) (b:BL),mH (HF u b)=app u (mH b):=by
 intro u
 induction u with
 |nil=>intro b;rfl
 |cons x u f=>obtain⟨i,o⟩:=x;intro b;simp only[HF,app];rw[f];congr 1;funext m;exact aEg b i o m
noncomputable def JI (t:eT) (d:eh) (v:V) (k:eT->Option (eT×BL×iT)):Option (eT×BL×iT):=match d with
 |none=>k t
 |some n=>bif Nat.ble n 4000 then aaj v λv=>k (t.set n v)else none
noncomputable def RL (E:mL) (Y:kS) (D:qI) (o:iP) (t:eT) (b:BL):Option (eT×BL×iT):=
 match s3 (rf t) o.guard with
 |none=>none
 |some false=>JI t o.dst .undef λT=>some (T,b,⟨[],[],[]⟩)
 |some true=>match cZ E.shared (rf t) (mH b) o.op with
  | .fail=>none
  | .done v u r=>bif Sn E.al (r++u.map (·.1))then JI t o.dst v λT=>some (T,HF u b,⟨r,u.map (·.1),[]⟩)else none
  | .pc f h r s=>match Y f h with
   |some x=>match eF (mH b) r s (x.fi (E.lone s))with
    |some (v,u)=>bif Sn E.al (r++u.map (·.1))then JI t o.dst v λT=>some (T,HF u b,⟨r++u.map (·.1),u.map (·.1),[]⟩)else none
    |none=>none
   |none=>none
  | .sc f h=>match f_ E f h (mH b)with
   |al=>bif E.al.holds al then
     match D f h al b with
     |some (v,L)=>JI t o.dst v λT=>some (T,L,⟨al.ids,al.ids,al.fs⟩)
     |none=>none
    else none
noncomputable def LI (D:qM) (g:qI):Prop:=∀f h al b v L,g f h al b=some (v,L)->D f h al (mH b)=some (v,mH L)
theorem Uh{t T:eT}{d:eh}{v:V}{b L:BL}{e e':iT}(h:JI t d v (λT=>some (T,b,e))=some (T,L,e')):dF (rf t) d v=rf T/\b=L/\e=e':=by
 unfold JI at h;split at h
 .cases h;exact⟨rfl,rfl,rfl⟩
 rename_i n;cases H:Nat.ble n 4000 with
 |false=>rw[H]at h;cases h
 |true=>rw[H]at h;simp only[cond_true,auw]at h;cases h;refine⟨?_,rfl,rfl⟩;have:=jn H;funext m;unfold rf dF;exact(eT.ahb t n m v J).symm
theorem avT{m:qI}(hs:LI D m){o:iP}{t T:eT}{b L:BL}{e:iT}(H:RL E Y m o t b=some (T,L,e)):mM E Y D o (rf t) (mH b)=some (rf T,mH L,e):=by
 unfold RL at H;simp only[arI]at H;unfold mM;split at H
 .cases H
 .rename_i j;rw[j];obtain⟨g,rfl,rfl⟩:=Uh H;simp only[g]
 rename_i j;rw[j];simp only;split at H
 .cases H
 .rename_i v u r hp;cases aA:E.al.gH (r++u.map (·.1))with
  |false=>rw[aA]at H;cases H
  |true=>rw[aA]at H;obtain⟨g,rfl,rfl⟩:=Uh H;simp only[hp,aA,if_true,g,aad]
 .rename_i f h r s hp;split at H
  .rename_i x y;split at H
   .rename_i v u hl;cases aA:E.al.gH (r++u.map (·.1))with
    |false=>rw[aA]at H;cases H
    |true=>rw[aA]at H;obtain⟨g,rfl,rfl⟩:=Uh H;simp only[hp,y,hl,aA,if_true,g,aad]
   cases H
  cases H
 rename_i f h hp;cases aA:E.al.holds (f_ E f h (mH b))with
 |false=>rw[aA]at H;cases H
 |true=>
  rw[aA]at H;simp only[cond_true]at H;split at H
  .rename_i v B z;obtain⟨g,rfl,rfl⟩:=Uh H;simp only[hp,aA,if_true,hs _ _ _ _ _ _ z,g]
  cases H
noncomputable def asd (E:mL) (Y:kS) (D:qI) (o:iP) (f:eT->BL->Option (eT×BL×fU)) (j:eT) (aj:BL):Option (eT×BL×fU):=
 match RL E Y D o j aj with
 |some (X,F,e)=>match f X F with
  |some (O,g,y)=>some (O,g,e::y)
  |none=>none
 |none=>none
noncomputable def JE (E:mL) (Y:kS) (D:qI) (l:eZ):eT->BL->Option (eT×BL×fU):=List.rec (motive:=λ_=>eT->BL->Option (eT×BL×fU)) (λj aj=>some (j,aj,[])) (λo _ f=>asd E Y D o f) l
theorem aGQ(E:mL)(Y:kS)(D:qI)(j:eT)(aj:BL):JE E Y D [] j aj=some (j,aj,[]):=rfl
theorem ayR(E:mL)(Y:kS)(D:qI)(o:iP)(r:eZ)(j:eT)(aj:BL):JE E Y D (o::r) j aj=match RL E Y D o j aj with
  |some (X,F,e)=>match JE E Y D r X F with
   |some (O,f,y)=>some (O,f,e::y)
   |none=>none
  |none=>none:=rfl
theorem aCm{f:qI}(hs:LI D f):∀ {Z:eZ}{t T:eT}{b L:BL}{y:fU},JE E Y f Z t b=some (T,L,y)->ju E Y D Z (rf t) (mH b)=some (rf T,mH L,y):=by
 intro Z
 induction Z with
 |nil=>intro t T b L y h;simp only[aGQ,iL,mj]at h;obtain⟨rfl,rfl,rfl⟩:=h;rfl
 |cons o r g=>
  intro t T b L y h;simp only[ayR]at h;split at h
  .rename_i x B e1 m;split at h
   .rename_i u b2 j H;cases h;simp only[ju,avT hs m,g H]
   cases h
  cases h
noncomputable def MK (f:eT->BL->Option (oh×eT×BL)) (n:Nat):eT->BL->Option (oh×eT×BL):=
 Nat.rec (motive:=λ_=>eT->BL->Option (oh×eT×BL)) (λ_ _=>none) (λ_ g j aj=>match f j aj with
  |some (.normal,X,F)=>g X F
  |r=>r) n
theorem ayH(f:eT->BL->Option (oh×eT×BL))(n:Nat)(j:eT)(aj:BL):MK f (n+1) j aj=match f j aj with
  |some (.normal,X,F)=>MK f n X F
  |r=>r:=rfl
abbrev z_:=eT->BL->Option (oh×eT×BL)
noncomputable def axj (E:mL) (Y:kS) (D:qI) (d:Bool) (Z:eZ):z_:=λj aj=>match JE E Y D Z j aj with
  |some (X,F,y)=>bif d then(bif pK Z [] y then some (.normal,X,F)else none)else some (.normal,X,F)
  |none=>none
noncomputable def ayS (a b:z_):z_:=λj aj=>match a j aj with
  |some (.normal,X,F)=>b X F
  |r=>r
noncomputable def azH (x:fu) (a b:z_):z_:=λj aj=>match ev (rf j) x with
  | .one (.p (.bool t))=>bif t then a j aj else b j aj
  |_=>none
noncomputable def ayU (id:Nat) (c:z_):z_:=λj aj=>match c j aj with
  |some (.exit i,X,F)=>bif Nat.beq i id then some (.normal,X,F)else some (.exit i,X,F)
  |r=>r
noncomputable def uW (E:mL) (Y:kS) (D:qI) (n:Nat) (c:aP):z_:=
 aP.rec (motive:=λ_=>z_) (λj aj=>some (.normal,j,aj)) (λd Z=>axj E Y D d Z) (λ_ _ a b=>ayS a b) (λx _ _ a b=>azH x a b)
  (λid _ c=>ayU id c) (λ_ c=>MK c n) (λid j aj=>some (.exit id,j,aj)) (λj aj=>some (.ret,j,aj)) (λ_ _=>none) c
section
variable (E:mL) (Y:kS) (D:qI) (n:Nat) (j:eT) (aj:BL)
theorem asl:uW E Y D n .skip j aj=some (.normal,j,aj):=rfl
theorem aFs(id:Nat):uW E Y D n (.exit id) j aj=some (.exit id,j,aj):=rfl
theorem aEd:uW E Y D n .ret j aj=some (.ret,j,aj):=rfl
theorem aB1(d:Bool)(Z:eZ):uW E Y D n (.region d Z) j aj=match JE E Y D Z j aj with
  |some (X,F,y)=>bif d then(bif pK Z [] y then some (.normal,X,F)else none)else some (.normal,X,F)
  |none=>none:=rfl
theorem atd(a b:aP):uW E Y D n (.seq a b) j aj=match uW E Y D n a j aj with
  |some (.normal,X,F)=>uW E Y D n b X F
  |r=>r:=rfl
theorem ax4(x:fu)(a b:aP):uW E Y D n (.cond x a b) j aj=match ev (rf j) x with
  | .one (.p (.bool t))=>bif t then uW E Y D n a j aj else uW E Y D n b j aj
  |_=>none:=rfl
theorem aEM(id:Nat)(c:aP):uW E Y D n (.block id c) j aj=match uW E Y D n c j aj with
  |some (.exit i,X,F)=>bif Nat.beq i id then some (.normal,X,F)else some (.exit i,X,F)
  |r=>r:=rfl
theorem avM(c:aP):uW E Y D n (.loop c) j aj=MK (uW E Y D n c) n j aj:=rfl
end
theorem av5{f:eT->BL->Option (oh×eT×BL)}{g:bn->aB->Option (oh×bn×aB)}(H:∀t b e T L,f t b=some (e,T,L)->g (rf t) (mH b)=some (e,rf T,mH L)):
  ∀(n:Nat) {t T:eT}{b L:BL}{e:oh},MK f n t b=some (e,T,L)->lY g n (rf t) (mH b)=some (e,rf T,mH L):=by
 intro n
 induction n with
 |zero=>intro t T b L e h;cases h
 |succ n j=>
  intro t T b L e h;simp only[ayH]at h;simp only[lY];split at h
  .rename_i u B m;rw[H _ _ _ _ _ m];exact j h
  rename_i A;rw[H _ _ _ _ _ h];cases e with
  |normal=>exact(A _ _ h).elim
  |exit i=>rfl
  |ret=>rfl
theorem akm{N:qI}(hs:LI D N){n:Nat}:∀(c:aP) {t T:eT}{b L:BL}{e:oh},uW E Y N n c t b=some (e,T,L)->dJ E Y D n c (rf t) (mH b)=some (e,rf T,mH L):=by
 intro c
 induction c with
 |skip=>intro t T b L e h;simp only[asl,iL,mj]at h;obtain⟨rfl,rfl,rfl⟩:=h;rfl
 |exit id=>intro t T b L e h;simp only[aFs,iL,mj]at h;obtain⟨rfl,rfl,rfl⟩:=h;rfl
 |ret=>intro t T b L e h;simp only[aEd,iL,mj]at h;obtain⟨rfl,rfl,rfl⟩:=h;rfl
 |bad=>intro t T b L e h;cases h
 |region d Z=>
  intro t T b L e h;simp only[aB1]at h;simp only[dJ];split at h
  .rename_i M F y H;rw[aCm hs H];simp only;cases d with
   |false=>simp only[cond_false]at h;cases h;simp
   |true=>
    simp only[cond_true]at h;cases B:pK Z [] y with
    |false=>rw[B]at h;cases h
    |true=>rw[B]at h;simp only[cond_true]at h;cases h;simp
  cases h
 |seq x X g m=>
  intro t T b L e h;simp only[atd]at h;simp only[dJ];split at h
  .rename_i M F H;rw[g H];exact m h
  rename_i A;rw[g h];cases e with
  |normal=>exact(A _ _ h).elim
  |exit i=>rfl
  |ret=>rfl
 |cond x p q z u=>
  intro t T b L e h;simp only[ax4]at h;simp only[dJ];split at h
  .rename_i R O;rw[O];cases R with
   |true=>simp only[cond_true]at h;simpa using z h
   |false=>simp only[cond_false]at h;simpa using u h
  cases h
 |block id c j=>
  intro t T b L e h;simp only[aEM]at h;simp only[dJ];split at h
  .rename_i i M F H;rw[j H];simp only;cases f:Nat.beq i id with
   |true=>rw[f]at h;simp only[cond_true]at h;cases h;rw[aH (Dw f)]
   |false=>rw[f]at h;simp only[cond_false]at h;cases h;rw[aw];intro Q;rw[Q,UP]at f;cases f
  rename_i A;rw[j h];cases e with
  |normal=>rfl
  |exit i=>exact(A _ _ _ h).elim
  |ret=>rfl
 |loop c j=>intro t T b L e h;simp only[avM]at h;simp only[dJ];exact av5 (λ_ _ _ _ _ h=>j h) n h
noncomputable def Ib (E:mL) (Y:kS) (D:qI) (n:Nat) (fn:aV) (T:dN) (aj:BL):Option (V×BL):=
 bif Nat.ble (I T) 4000 then
  match uW E Y D n fn.body (K8 0 T .leaf) aj with
  |some (.normal,j,F)=>(qD E.al (rf j) (mH F) fn.results).map λh=>(zY h,F)
  |some (.ret,j,F)=>(qD E.al (rf j) (mH F) fn.results).map λh=>(zY h,F)
  |_=>none
 else none
theorem aHp{u:qI}(hs:LI D u){n:Nat}{fn:aV}{b L:BL}{v:V}(H:Ib E Y u n fn T b=some (v,L)):sN E Y D n fn T (mH b)=some (v,mH L):=by
 unfold Ib at H;unfold sN;cases hl:Nat.ble (I T) 4000 with
 |false=>rw[hl]at H;cases H
 |true=>
  rw[hl]at H;simp only[cond_true]at H;have:=jn hl;rw[<-at2 J];split at H
  .rename_i j B m;rw[akm hs _ m];simp only[eU]at H |-;obtain⟨h,g,f⟩:=H;cases f;exact⟨h,g,rfl⟩
  .rename_i j B m;rw[akm hs _ m];simp only[eU]at H |-;obtain⟨h,g,f⟩:=H;cases f;exact⟨h,g,rfl⟩
  cases H
noncomputable def aDx (S:Sys) (n:Nat) (Y:kS) (D:qI):kS:=λf T=>match S.prim f T with
  |some r=>r
  |none=>match S.fns f with
   |some fn=>bif Nat.ble (I T) fn.ntmps then
     match Ib (S.ctx .all) Y D n fn T []with
     |some (v,b)=>gr (mH b) v
     |none=>none
    else none
   |none=>none
noncomputable def aGI (S:Sys) (n:Nat) (Y:kS) (D:qI):qI:=λf T al b=>bif S.trig f T then(S.primS f T al (mH b)).map (λr=>(r.1,HF r.2 b))else match S.fns f with
  |some fn=>bif Nat.ble (I T) fn.ntmps then Ib (S.ctx al) Y D n fn T b else none
  |none=>none
noncomputable def agr (S:Sys) (n:Nat):kS×qI:=Nat.rec (motive:=λ_=>kS×qI) (λ_ _=>none,λ_ _ _ _=>none) (λn f=>(aDx S n f.1 f.2,aGI S n f.1 f.2)) n
noncomputable def GK (S:Sys) (n:Nat):kS:=(agr S n).1
noncomputable def Dz (S:Sys) (n:Nat):qI:=(agr S n).2
theorem as5(S:Sys)(n f:Nat)(T:dN):GK S (n+1) f T=match S.prim f T with
  |some r=>r
  |none=>match S.fns f with
   |some fn=>bif Nat.ble (I T) fn.ntmps then
     match Ib (S.ctx .all) (GK S n) (Dz S n) n fn T []with
     |some (v,b)=>gr (mH b) v
     |none=>none
    else none
   |none=>none:=rfl
theorem aED(S:Sys)(n f:Nat)(T:dN)(al:cG)(b:BL):Dz S (n+1) f T al b=bif S.trig f T then(S.primS f T al (mH b)).map (λr=>(r.1,HF r.2 b))else match S.fns f with
  |some fn=>bif Nat.ble (I T) fn.ntmps then Ib (S.ctx al) (GK S n) (Dz S n) n fn T b else none
  |none=>none:=rfl
theorem am1{Q:kS}(hp:JO Y Q){f:qI}(hs:LI D f){n:Nat}{fn:aV}{b L:BL}{v:V}(h:Ib E Y f n fn T b=some (v,L)):sN E Q D n fn T (mH b)=some (v,mH L):=V0 hp (λ_ _ _ _ _ h=>h) (cT _) (aHp hs h)
theorem SB(S:Sys):∀n,JO (GK S n) (jd S n)/\LI (jc S n) (Dz S n):=by
 intro n
 induction n with
 |zero=>have y:∀f x,GK S 0 f x=none:=λ_ _=>rfl;have m:∀f h al b,Dz S 0 f h al b=none:=λ_ _ _ _=>rfl;exact⟨λf x r H=>(by rw[y]at H;cases H),λf h al b v L H=>(by rw[m]at H;cases H)⟩
 |succ n u=>
  obtain⟨hp,hs⟩:=u;refine⟨λf x r H=>?_,λf h al b v L H=>?_⟩
  .rw[as5]at H;rw[jd];split at H
   .rename_i R g;simp only[g];exact H
   rename_i g;simp only[g];split at H
   .rename_i fn hfn;simp only[hfn];cases hl:Nat.ble (I x) fn.ntmps with
    |false=>rw[hl]at H;cases H
    |true=>
     rw[hl]at H;simp only[cond_true]at H;rw[aH (jn hl)];split at H
     .rename_i v b hr;unfold EJ;have:AE=mH []:=rfl;rw[this,am1 hp hs hr];exact H
     cases H
   cases H
  rw[aED]at H;rw[jc];cases j:S.trig f h with
  |true=>
   rw[j]at H;simp only[cond_true]at H;rw[aH rfl];cases hp:S.primS f h al (mH b)with
   |none=>rw[hp]at H;cases H
   |some r=>rw[hp]at H;cases H;rw[se,aad]
  |false=>
  rw[j]at H;simp only[cond_false,eX,if_false]at H |-;split at H
  .rename_i fn hfn;simp only[hfn];cases hl:Nat.ble (I h) fn.ntmps with
   |false=>rw[hl]at H;cases H
   |true=>rw[hl]at H;simp only[cond_true]at H;rw[aH (jn hl)];exact am1 hp hs H
  cases H
theorem rV(S:Sys)(n:Nat){r:RV}(h:GK S n f T=some r):aJ S f T r:=⟨n,(SB S n).1 _ _ _ h⟩
def Av{α:Type}(f:α->α->Bool):List α->List α->Bool
 |[],[]=>true
 |a::r,b::s=>f a b&&Av f r s
 |_,_=>false
theorem Gi{α:Type}{f:α->α->Bool}(H:∀a b,f a b->a=b):∀ {l m:List α},Av f l m->l=m:=by
 intro l
 induction l with
 |nil=>intro m h;cases m with
  |nil=>rfl
  |cons b m=>cases h
 |cons a l g=>
  intro m h;cases m with
  |nil=>cases h
  |cons b m=>simp only[Av,dj]at h;rw[H _ _ h.1,g h.2]
def acU:IntKind->IntKind->Bool
 | .i64,.i64=>true
 |a,b=>decide (a=b)
theorem axb{a b:IntKind}(h:acU a b):a=b:=by
 cases a<;>cases b<;>first
  |rfl
  |(simp[acU]at h)
def HL:Nat->PV->PV->Bool
 |0,_,_=>false
 |_+1,.int k a,.int k' b=>acU k k'&&a==b
 |_+1,.bool a,.bool b=>a==b
 |n+1,.sl a,.sl b=>Av (Av (HL n)) a b
 |n+1,.box a,.box b=>Av (HL n) a b
 |n+1,.fn f a b,.fn g c d=>Nat.beq f g&&(Av (HL n) a c&&Av (HL n) b d)
 |_+1,.nils,.nils=>true
 |_+1,.xQ,.xQ=>true
 |_+1,_,_=>false
theorem ayq:∀(n:Nat) (x y:PV),HL n x y->x=y:=by
 intro n
 induction n with
 |zero=>intro x y h;cases h
 |succ n f=>
  intro x y h;unfold HL at h;split at h
  .rename_i H;cases H
  .rename_i H;cases H;simp only[dj,dI]at h;rw[axb h.1,h.2]
  .rename_i H;cases H;simp only[dI]at h;rw[h]
  .rename_i H;cases H;rw[Gi (λ_ _ h=>Gi f h) h]
  .rename_i H;cases H;rw[Gi f h]
  .rename_i H;cases H;simp only[dj]at h;rw[Dw h.1,Gi f h.2.1,Gi f h.2.2]
  .rfl
  .rfl
  cases h
def V1:c6->c6->Bool
 | .p a,.p b=>HL 12 a b
 |_,_=>false
theorem ap9{a b:c6}(h:V1 a b):a=b:=by
 unfold V1 at h;split at h
 .rw[ayq _ _ _ h]
 cases h
def TL:V->V->Bool
 | .one a,.one b=>V1 a b
 | .agg a,.agg b=>Av V1 a b
 |_,_=>false
theorem auh{a b:V}(h:TL a b):a=b:=by
 unfold TL at h;split at h
 .rw[ap9 h]
 .rw[Gi (λ_ _ h=>ap9 h) h]
 cases h
abbrev kX:=List (Nat×dN×RV)
def Ph:kX->Nat->dN->Option RV
 |[],_,_=>none
 |(f,a,r)::l,g,b=>bif Nat.beq f g&&Av TL a b then some r else Ph l g b
theorem awL:∀ {l:kX}{f:Nat}{a:dN}{r:RV},Ph l f a=some r->(f,a,r)∈l:=by
 intro l
 induction l with
 |nil=>intro f a r h;cases h
 |cons e l j=>
  obtain⟨g,b,s⟩:=e;intro f a r h;simp only[Ph]at h;cases H:(Nat.beq g f&&Av TL b a)with
  |true=>rw[H]at h;simp only[cond_true,iL]at h;simp only[dj]at H;rw[Dw H.1,Gi (λ_ _ h=>auh h) H.2,h];simp
  |false=>rw[H]at h;exact xo _ (j h)
def Sys.zZ(S:Sys)(l:kX):Sys:={S with prim:=λf a=>match Ph l f a with
 |some r=>some (some r)
 |none=>S.prim f a}
def kD(S:Sys)(l:kX):Prop:=∀e∈l,aJ S e.1 e.2.1 e.2.2
theorem kD.nil{S:Sys}:kD S []:=λe h=>by simp at h
theorem kD.cons{S:Sys}{l:kX}{a:dN}{r:RV}(h:aJ S f a r)(hl:kD S l):kD S ((f,a,r)::l):=λe H=>by
 rcases dk.1 H with rfl|H
 .exact h
 exact hl e H
theorem kD.bound{S:Sys}:∀ {l:kX},kD S l->∃M,∀e∈l,jd S M e.1 e.2.1=some e.2.2:=by
 intro l
 induction l with
 |nil=>intro _;exact⟨0,λe h=>by simp at h⟩
 |cons e l f=>
  intro h;obtain⟨M,g⟩:=f λx H=>h x (by simp[H]);obtain⟨n,j⟩:=h e aQ;refine⟨max M n,λx H=>?_⟩;rcases dk.1 H with rfl|H
  .exact Fa S (ES M n) _ _ _ j
  exact Fa S (DB M n) _ _ _ (g x H)
theorem awD{S:Sys}{l:kX}{M:Nat}(z:∀e∈l,jd S M e.1 e.2.1=some e.2.2):∀n,JO (jd (S.zZ l) n) (jd S (n+M))/\Rn (jc (S.zZ l) n) (jc S (n+M)):=by
 intro n
 induction n with
 |zero=>exact⟨λf x r h=>by simp[jd]at h,λf x l k r h=>by simp[jc]at h⟩
 |succ n g=>
  have e1:n+1+M=(n+M)+1:=J;have u:∀al,(S.zZ l).ctx al=S.ctx al:=λ_=>rfl;refine⟨λf x r h=>?_,λf x al k r h=>?_⟩
  .rw[jd]at h;cases hl:Ph l f x with
   |some R=>
    have hp:(S.zZ l).prim f x=some (some R):=by simp only[Sys.zZ,hl]
    rw[hp]at h;cases h;exact Fa S J _ _ _ (z _ (awL hl))
   |none=>
    have hp:(S.zZ l).prim f x=S.prim f x:=by simp only[Sys.zZ,hl]
    rw[hp]at h;rw[e1,jd];split at h
    .exact h
    have hfn:(S.zZ l).fns f=S.fns f:=rfl;rw[hfn]at h;split at h
    .rename_i fn y;split at h
     .rename_i H;rw[aH H];rw[u]at h;exact ae4 g.1 g.2 J h
     cases h
    cases h
  rw[jc]at h;rw[e1,jc];have j:(S.zZ l).trig f x=S.trig f x:=rfl;have D:(S.zZ l).primS f x al k=S.primS f x al k:=rfl;rw[j,D]at h;by_cases m:S.trig f x
  .rw[aH m]at h |-;exact h
  rw[aw m]at h |-;have hfn:(S.zZ l).fns f=S.fns f:=rfl;rw[hfn]at h;split at h
  .rename_i fn y;split at h
   .rename_i H;rw[aH H];rw[u]at h;exact V0 g.1 g.2 J h
   cases h
  cases h
theorem pz{S:Sys}{l:kX}(hl:kD S l)(n:Nat){r:RV}(h:GK (S.zZ l) n f T=some r):aJ S f T r:=by obtain⟨M,H⟩:=hl.bound;exact⟨n+M,(awD H n).1 _ _ _ ((SB (S.zZ l) n).1 _ _ _ h)⟩
inductive uZ {H:Type} (N:Nat):DataW H->Prop where
 |str (s:wV) (h:I s<=N):uZ N (.lit (.string s))
 |lit (l:Lit) (h:∀s,l≠ .string s):uZ N (.lit l)
 |nil:uZ N .nil
 |slice (es sp:List (DataW H)) (h:I es<=N) (he:∀d∈es,uZ N d):uZ N (.slice es sp)
 |agg (es:List (DataW H)) (he:∀d∈es,uZ N d):uZ N (.agg es)
def mq(P:Program)(N:Nat):Nat->TypeId->b_->Prop
 |0,_,_=>False
 |n+1,t,ps=>match P.underlying t with
  |some .bool=>∃b,ps=[.bool b]
  |some (.int k)=>∃z,ps=[.int k z]/\(Lit.int k z).wf
  |some .string=>∃s:ByteArray,ps=[.str s]/\s.size<=N
  |some (.slice e)=>∃y,ps=[.sl y]/\I y<=N/\ ∀x∈y,mq P N n e x
  |some (.struct fs)=>∃g:s_,ps=g.flatten/\I g=I fs.toList/\ ∀(i:Nat) (f:Field) (x:b_),fs.toList[i]?=some f->g[i]?=some x->mq P N n f.type x
  |_=>False
def Ay(P:Program):Nat->Nat->List Field->Bool
 |O,T,[]=>Nat.beq O T
 |O,T,f::r=>Nat.beq f.offset O&&Ay P (O+P.cellsOf f.type) T r
def lZ(P:Program):Nat->TypeId->Bool
 |0,_=>false
 |n+1,t=>match P.underlying t with
  |some .bool|some (.int _)|some .string=>true
  |some (.slice e)=>Nat.blt 0 (P.cellsOf e)&&lZ P n e
  |some (.struct fs)=>Ay P 0 (P.cellsOf t) fs.toList&&fs.toList.all λf=>lZ P n f.type
  |_=>false
section
variable {H:Type} {enc:TypeId×Value->H} {P:Program} {w:World} {base:Nat} {sp:Nat->Bool} {held:Bool} {N:Nat}
theorem eI.append{w:World}{own:Nat->Prop}{M ys:b_}(H:eI w own M h)(k:eI w own ys us):eI w own (M++ys) (h++us):=Pw.append (R:=dq w own) H k
theorem ann{w:World}{base:Nat}{a:Addr}{n:Nat}{D:List Value}(h:w.cells? base a n=some D):I D=n/\ ∀i,i<n->a.add i=⟨a.block,a.off+i,none⟩/\w.cell? ⟨a.block,a.off+i,none⟩=D[i]? :=by
 unfold World.cells? at h;split at h
 .have hl:=mapM_some_length h;simp at hl;refine⟨hl,λi j=>?_⟩;have H:=mapM_some_get h i i (by simp[j]);have m:i<I D:=J;have f:D[i]?=some D[i]:=by simp[m]
  rw[f]at H;have A:(a.add i).spot=none:=by
   cases R:(a.add i).spot with
   |none=>rfl
   |some s=>
    simp only[World.cell?]at H;split at H
    .simp[R]at H
    cases H
  have e:a.add i=⟨a.block,a.off+i,none⟩:=by
   unfold Addr.add at A |-;split
   .rename_i g;subst g;rw[aH rfl]at A;cases a
    simp_all
   rfl
  refine⟨e,?_⟩;rw[f,<-H,e]
 cases h
theorem arC{r:TypeId->List Value->Option (DataW H×List MemPlace)}{n:Nat}(ih:∀t D x,lZ P n t->r t D=some x->uZ N x.1->∃z,mq P N n t z/\eI w (λ_=>False) z D){D:List Value}{T:Nat}(ht:I D=T):
  ∀(fs:List Field) (O:Nat) (M:List (DataW H×List MemPlace)),Ay P O T fs->(∀f∈fs,lZ P n f.type)->
   fs.mapM (λf=>r f.type ((D.drop f.offset).take (P.cellsOf f.type)))=some M->(∀x∈M,uZ N x.1)->O<=T->(∀f∈fs,∀c x,r f.type c=some x->∀z,mq P N n f.type z->eI w (λ_=>False) z c->True)->
   ∃m:s_,I m=I fs/\(∀(i:Nat) (f:Field) (x:b_),fs[i]?=some f->m[i]?=some x->mq P N n f.type x)/\(eI w (λ_=>False) m.flatten (D.drop O)):=by
 intro fs
 induction fs with
 |nil=>
  intro O M A _ _ _ Y _;simp only[Ay]at A;have:=Dw A;refine⟨[],rfl,λi f x h=>by simp at h,?_⟩;have:D.drop O=[]:=by rw[List.drop_eq_nil_iff];omega
  rw[this];exact⟨rfl,λj x u h=>by simp at h⟩
 |cons f fs F=>
  intro O M A ho R hf Y hT;simp only[Ay,dj]at A;have L5:=Dw A.1;rw[List.mapM_cons]at R;simp only[Option.bind_eq_bind,NZ,Option.pure_def,iL]at R;obtain⟨x,hx,X,Qj,rfl⟩:=R;obtain⟨z,p1,Z⟩:=ih _ _ _ (ho f aQ) hx (hf x aQ);have ab:=Z.1;by_cases B:O+P.cellsOf f.type<=T
  .obtain⟨m,q1,q2,q3⟩:=F (O+P.cellsOf f.type) X A.2 (λg hg=>ho g (by simp[hg])) Qj (λy E=>hf y (by simp[E])) B (λ_ _ _ _ _ _ _ _=>trivial);refine⟨z::m,by simp[q1],λi g y Q E=>?_,?_⟩
   .cases i with
    |zero=>simp at Q E;subst Q E;exact p1
    |succ i=>exact q2 i g y (by simpa using Q) (by simpa using E)
   have:D.drop O=(D.drop f.offset).take (P.cellsOf f.type)++D.drop (O+P.cellsOf f.type):=by rw[L5,<-Q5];exact(ot _ _).symm
   rw[this];simp only[lI];exact eI.append Z q3
  exfalso;have mono:∀(l:List Field) (o:Nat),Ay P o T l->o<=T:=by
   intro l
   induction l with
   |nil=>intro o h;simp only[Ay]at h;have:=Dw h;omega
   |cons g l L=>intro o h;simp only[Ay,dj]at h;have:=L _ h.2;omega
  exact B (mono _ _ A.2)
theorem aEZ{f:Nat->Value}:∀(y:s_) (R:List (List Value)) (k:Nat),I R=I y->(∀(i:Nat) (e:b_) (v:List Value),y[i]?=some e->R[i]?=some v->eI w (λ_=>False) e v/\I v=sz/\ ∀j u,v[j]?=some u->f ((k+i)*sz+j)=u)->
  ∀(j:Nat) (x:PV),y.flatten[j]?=some x->dq w (λ_=>False) x (f (k*sz+j)):=by
 intro y
 induction y with
 |nil=>intro R k _ _ j x h;simp at h
 |cons e y F=>
  intro R k hl h j x H;cases R with
  |nil=>simp at hl
  |cons v R=>
   obtain⟨A,D,L⟩:=h 0 e v rfl rfl;have dY:I e=sz:=by rw[<-D];exact A.1.symm
   simp only[lI]at H;by_cases B:j<I e
   .rw[xv B]at H;have g:v[j]?=some v[j]:=by simp[show j<I v by omega]
    have:=L j _ g;simp only[vX]at this;rw[this];exact A.2 j x _ H g
   rw[vI J]at H;have:=F R (k+1) (by simpa using hl) (λi e' m E z=>by have:=h (i+1) e' m (by simpa using E) (by simpa using z);rw[show k+(i+1)=k+1+i by omega]at this;exact this) (j-I e) x H
   rw[show k*sz+j=(k+1)*sz+(j-I e) by rw[jW];omega];exact this
theorem aun:∀(n F:Nat) (t:TypeId) (D:List Value) (x:DataW H×List MemPlace),lZ P n t->DataW.trod enc P w base sp held F t D=some x->uZ N x.1->
  ∃ab,mq P N n t ab/\eI w (λ_=>False) ab D:=by
 intro n
 induction n with
 |zero=>intro F t D x h;simp[lZ]at h
 |succ n ih=>
  intro F t D x aA h hf;cases F with
  |zero=>simp[DataW.trod]at h
  |succ F=>
   rw[DataW.trod_step]at h;have one:∀ {p:PV}{v:Value},dq w (λ_=>False) p v->eI w (λ_=>False) [p] [v]:=by
    intro p v hp;refine⟨rfl,λj x u a b=>?_⟩;cases j with
    |zero=>simp at a b;subst a b;exact hp
    |succ j=>simp at a
   unfold DataW.trodStep at h;unfold lZ at aA;split at h
   case h_1 b A=>exact⟨[.bool b],by simp only[mq,A];exact⟨b,rfl⟩,one (.bool b)⟩
   case h_2 k k' z A=>
    split at h
    .rename_i X;obtain⟨rfl,ac⟩:=X;exact⟨[.int k' z],by simp only[mq,A];exact⟨z,rfl,ac⟩,one (.int k' z)⟩
    cases h
   case h_4 s A=>
    split at h
    .cases h;cases hf with
     |str _ hs=>exact⟨[.str s],by simp only[mq,A];exact⟨s,rfl,by simpa using hs⟩,one (.str s)⟩
     |lit _ hs=>exact(hs _ rfl).elim
    cases h
   case h_7 e A=>exact⟨[.sl []],by simp only[mq,A];exact⟨[],rfl,cE _,λx m=>by simp at m⟩,one (.Bu none 0 (λ_=>rfl) (cE _))⟩
   case h_8 e a len Z A=>
    rw[A]at aA;simp only[dj]at aA;obtain⟨jT,ad⟩:=aA;have jT:0<P.cellsOf e:=by have:=jT;simp[Nat.blt]at this;omega
    simp only at h;split at h
    .rename_i X;obtain⟨hb,a1,A0⟩:=X;simp only[eU,NZ]at h;obtain⟨elems,he,aO,a0,rfl⟩:=h;have av:I elems=len:=by simpa using mapM_some_length he
     cases hf with
     |slice _ _ hl R=>
     simp only[cH]at hl;have get:∀i,i<len->∃az row B,elems[i]?=some az/\w.cells? base (a.add (i*P.cellsOf e)) (P.cellsOf e)=some row/\mq P N n e B/\eI w (λ_=>False) B row:=by intro i g;have hg:=mapM_some_get he i i (by simp[g]);have aq:i<I elems:=J;rw[sT aq]at hg;simp only[NZ]at hg;obtain⟨row,E,O⟩:=hg;obtain⟨B,p1,p2⟩:=ih _ _ _ _ ad O (R _ (eg.2 ⟨_,UI aq,rfl⟩));exact⟨_,row,B,sT aq,E,p1,p2⟩
     cases yH:len with
     |zero=>refine⟨[.sl []],by simp only[mq,A];exact⟨[],rfl,cE _,λx m=>by simp at m⟩,one (.Bu (some a) Z (λh=>by cases h) A0)⟩
     |succ ar=>
      rw[<-yH];have h0:0<len:=J;obtain⟨_,aN,_,_,ue,_,_⟩:=get 0 h0;have ha:a=⟨a.block,a.off,none⟩:=by
       have E:a.add 0=a:=by unfold Addr.add;rw[aH rfl]
       rw[zg,E]at ue;have:=((ann ue).2 0 jT).1;rw[E]at this;exact this
      have Q:∀i,i<len->∃row B,I row=P.cellsOf e/\(∀j,j<P.cellsOf e->w.cell? ⟨a.block,a.off+(i*P.cellsOf e+j),none⟩=row[j]?)/\mq P N n e B/\eI w (λ_=>False) B row:=by
       intro i g;obtain⟨_,row,B,_,E,O,h3⟩:=get i g;obtain⟨l1,l2⟩:=ann E;refine⟨row,B,l1,λj T=>?_,O,h3⟩;have:=(l2 j T).2;rw[<-this];have e2:a.add (i*P.cellsOf e)=⟨a.block,a.off+i*P.cellsOf e,none⟩:=by
        rw[ha];unfold Addr.add;split
        .rename_i h9;rw[h9];rfl
        rfl
       rw[e2];simp[F7]
      let row:Nat->List Value:=λi=>if h:i<len then(Q i h).choose else []
      let B:Nat->b_:=λi=>if h:i<len then(Q i h).choose_spec.choose else []
      have Y:∀i,i<len->I (row i)=P.cellsOf e/\(∀j,j<P.cellsOf e->w.cell? ⟨a.block,a.off+(i*P.cellsOf e+j),none⟩=(row i)[j]?)/\mq P N n e (B i)/\eI w (λ_=>False) (B i) (row i):=by intro i g;simp only[row,B,dif_pos g];exact(Q i g).choose_spec.choose_spec
      let y:=(List.range len).map B
      have TQ:I y=len:=by simp[y]
      have FP:∀(i:Nat) (x:b_),y[i]?=some x->i<len/\x=B i:=by
       intro i x m;have g:i<len:=by rw[<-TQ];exact(cD.1 m).1
       refine⟨g,?_⟩;simp only[y,fY,qx g,se,iL]at m;exact m.symm
      let f:Nat->Value:=λj=>(w.cell? ⟨a.block,a.off+j,none⟩).getD undef
      refine⟨[.sl y],?_,one ?_⟩
      .simp only[mq,A];refine⟨y,rfl,J,λx m=>?_⟩;obtain⟨i,g⟩:=jL m;obtain⟨E,rfl⟩:=FP i x g;exact(Y i E).2.2.1
      rw[ha];have de:∀x∈y,I x=P.cellsOf e:=by intro x m;obtain⟨i,g⟩:=jL m;obtain⟨E,rfl⟩:=FP i x g;have:=(Y i E).2.2.2.1;rw[<-this];exact(Y i E).1
      have fm:=aEZ (w:=w) (sz:=P.cellsOf e) (f:=f) y ((List.range len).map row) 0 (by simp[TQ]) (λi x v E O=>by
       obtain⟨g,rfl⟩:=FP i x E;simp only[fY,qx g,se,iL]at O;subst O;obtain⟨s1,s2,w5,DZ⟩:=Y i g;refine⟨DZ,s1,λj u A=>?_⟩;have T:j<P.cellsOf e:=by rw[<-s1];exact(cD.1 A).1
       simp only[f,kA];rw[s2 j T,A];rfl)
      simp only[zg,kA]at fm;have xD:∀(l:s_),(∀x∈l,I x=P.cellsOf e)->I l.flatten=I l*P.cellsOf e:=by
       intro l
       induction l with
       |nil=>intro _;simp
       |cons x l an=>intro m;simp only[lI,fv,dw];rw[m x aQ,an (λaz hy=>m az (by simp[hy])),jW];omega
      refine TQ▸dq.sl a.block a.off Z (P.cellsOf e) f (λ_ h=>h) J A0 de (λj x m=>?_) fm;have T:j<len*P.cellsOf e:=by have:=(cD.1 m).1;rw[xD y de,TQ]at this;exact this
      have g:j/P.cellsOf e<len:=Nat.div_lt_of_lt_mul (by rw[QK];exact T);obtain⟨s1,s2,w5,DZ⟩:=Y _ g;have hm:j%P.cellsOf e<P.cellsOf e:=fC _ jT;have:=s2 _ hm;rw[show j/P.cellsOf e*P.cellsOf e+j%P.cellsOf e=j by rw[QK];exact WH j _]at this;have ap:(row (j/P.cellsOf e))[j%P.cellsOf e]?=some (row (j/P.cellsOf e))[j%P.cellsOf e]:=by simp[s1,hm]
      rw[ap]at this;simp only[f,this,mO]
    cases h
   case h_9=>
    rename_i fs A;rw[A]at aA;simp only[dj]at aA;split at h
    .rename_i X;simp only[eU]at h;obtain⟨M,m,rfl⟩:=h;cases hf with
     |agg _ R=>
     obtain⟨L,p1,p2,p3⟩:=arC (r:=DataW.trod enc P w base sp held F) (n:=n) (λt D x E O h3=>ih _ _ _ _ E O h3) X fs.toList 0 M aA.1 (λf hf=>jP.1 aA.2 f hf) m (λaz hy=>R _ (eg.2 ⟨az,hy,rfl⟩)) (cE _) (λ_ _ _ _ _ _ _ _=>trivial);refine⟨L.flatten,by simp only[mq,A];exact⟨L,rfl,p1,p2⟩,?_⟩
     simpa using p3
    cases h
   all_goals(first|(cases h;done)|(simp_all;done)|(exfalso;simp_all;done))
end
end
variable {H:Type} {enc:TypeId×Value->H} {P:Program} {w:World} {N:Nat}
theorem aBi:∀(fs:List Field) (O T:Nat),Ay P O T fs->T=O+(fs.map λf=>P.cellsOf f.type).sum/\ ∀(j:Nat) (f:Field),fs[j]?=some f->f.offset=O+((fs.take j).map λf=>P.cellsOf f.type).sum:=by
 intro fs
 induction fs with
 |nil=>intro O T h;simp only[Ay]at h;have:=Dw h;exact⟨by simp;omega,λj f h=>by simp at h⟩
 |cons f fs m=>
  intro O T h;simp only[Ay,dj]at h;have u:=Dw h.1;obtain⟨i1,i2⟩:=m _ _ h.2;refine⟨by simp;omega,λj g H=>?_⟩;cases j with
  |zero=>simp at H;subst H;simp;omega
  |succ j=>have:=i2 j g (by simpa using H);simp only[Es,eR,Nc];omega
theorem aFw:Kids P (λt=>∃n,lZ P n t):=by
 have un:∀ {t:TypeId},(∃n,lZ P n t)->∃n,lZ P (n+1) t:=by
  rintro t ⟨n,h⟩
  cases n with
  |zero=>simp[lZ]at h
  |succ n=>exact⟨n,h⟩
 refine⟨λg H=>?_,λg H=>?_,λg H=>?_,λg H=>?_,λg H=>?_⟩
 .obtain⟨n,h⟩:=un g;simp[lZ,H]at h
 .obtain⟨n,h⟩:=un g;simp only[lZ,H,dj]at h;exact⟨n,h.2⟩
 .obtain⟨n,h⟩:=un g;simp[lZ,H]at h
 .obtain⟨n,h⟩:=un g;simp only[lZ,H,dj]at h;obtain⟨y,m⟩:=aBi _ _ _ h.1;refine⟨λf u=>⟨n,jP.1 h.2 f u⟩,by rw[y];simp,λj f x=>by rw[m j f x];simp⟩
 obtain⟨n,h⟩:=un g;simp[lZ,H]at h
theorem ar4{t:TypeId}{v:Value}{d:DataW H}{ps:List MemPlace}(g:∃n,lZ P n t)(h:DataW.Trod enc P w 0 (λ_=>true) true t v d ps)
  (E:∀p∈ps,w.sameAt w' p) (hs:∀p∈ps,JW p.block):DataW.Trod enc P w' 0 JW true t v d ps:=by
 obtain⟨f,h⟩:=h;refine⟨f,DataW.trod_stays (T:=λt=>∃n,lZ P n t) aFw ?_ (λh=>by cases h) g h E hs⟩;rintro t e ⟨n,h⟩ j
 cases n with
 |zero=>simp[lZ]at h
 |succ n=>simp only[lZ,j,dj]at h;have:=h.1;simp[Nat.blt]at this;omega
theorem aAb:∀ {T:List TypeId}{h:List Value}{D:List (DataW H)}{ps:List MemPlace},(∀t∈T,∃n,lZ P n t)->DataW.TrodAll enc P w 0 (λ_=>true) true T h D ps->
  (∀p∈ps,w.sameAt w' p)->(∀p∈ps,JW p.block)->DataW.TrodAll enc P w' 0 JW true T h D ps:=by
 intro T
 induction T with
 |nil=>intro h D ps _ m _ _;cases h<;>cases D<;>exact m
 |cons t T A=>
  intro h D ps j m u g;cases h with
  |nil=>exact m.elim
  |cons v h=>
   cases D with
   |nil=>exact m.elim
   |cons d D=>obtain⟨p,q,B,y,rfl⟩:=m;exact⟨p,q,ar4 (j t aQ) B (λx f=>u x (by simp[f])) (λx f=>g x (by simp[f])),A (λt z=>j t (by simp[z])) y (λx f=>u x (by simp[f])) (λx f=>g x (by simp[f])),rfl⟩
def Dg(P:Program)(t:TypeId)(ps:b_):V:=
 match P.underlying t with
 |some (.struct _)=>.agg (ps.map .p)
 |_=>match ps with
  |[x]=>.one (.p x)
  |_=>.undef
theorem aFq{r:Reach}{b0 n:Nat}{t:TypeId}{v:Value}{d:DataW H}{ps:List MemPlace}(A:lZ P n t)(f:Value.okWide P w r b0 t v)(h:DataW.Trod enc P w 0 sp held t v d ps)(B:uZ N d):
  ∃j,mq P N n t j/\vg w (λ_=>False) (Dg P t j) v:=by
 obtain⟨F,h⟩:=h;obtain⟨j,m,z⟩:=aun n F t _ _ A h B;refine⟨j,m,?_⟩;cases n with
 |zero=>simp[lZ]at A
 |succ n=>
  have one:∀x:PV,j=[x]->(∀D,v≠ .agg D)->dq w (λ_=>False) x v:=by
   rintro x rfl E
   have:v.cells.toList=[v]:=by
    cases v<;>first
     |rfl
     |exact(E _ rfl).elim
   rw[this]at z;exact z.2 0 x v rfl rfl
  have g:∀ {k:TypeDesc},P.underlying t=some k->(∀fs,k≠ .struct fs)->(∀a b,k≠ .array a b)->∀D,v≠ .agg D:=by
   rintro k u L O D rfl
   unfold Value.okWide at f;rw[u]at f;cases k<;>simp_all[Cell.okWide,Cell.ok]
  simp only[mq]at m;unfold Dg;cases u:P.underlying t with
  |none=>rw[u]at m;exact m.elim
  |some k=>
   rw[u]at m;cases k<;>simp only at m<;>try exact m.elim
   case bool=>obtain⟨b,rfl⟩:=m;exact one _ rfl (g u aQ aQ)
   case int k=>obtain⟨b,rfl,_⟩:=m;exact one _ rfl (g u aQ aQ)
   case string=>obtain⟨b,rfl,_⟩:=m;exact one _ rfl (g u aQ aQ)
   case slice e=>obtain⟨y,rfl,_⟩:=m;exact one _ rfl (g u aQ aQ)
   case struct fs=>unfold Value.okWide at f;rw[u]at f;simp only at f;obtain⟨D,rfl,M,_⟩:=f;exact⟨D,j,rfl,rfl,z⟩
def Va(P:Program)(N n:Nat):List TypeId->s_->Prop
 |[],[]=>True
 |t::T,p::ps=>mq P N n t p/\Va P N n T ps
 |_,_=>False
def CR(P:Program):List TypeId->s_->dN
 |t::T,p::ps=>Dg P t p::CR P T ps
 |_,_=>[]
theorem aGc{r:Reach}{b0 n:Nat}:∀ {T:List TypeId}{h:List Value}{D:List (DataW H)}{ps:List MemPlace},(∀t∈T,lZ P n t)->(∀(j:Nat) t v,T[j]?=some t->h[j]?=some v->Value.okWide P w r b0 t v)->
  DataW.TrodAll enc P w 0 sp held T h D ps->(∀d∈D,uZ N d)->∃f,Va P N n T f/\Pw (vg w (λ_=>False)) (CR P T f) h:=by
 intro T
 induction T with
 |nil=>
  intro h D ps _ _ g _;cases h with
  |nil=>exact⟨[],trivial,rfl,λj x u g=>by simp[CR]at g⟩
  |cons v h=>cases D<;>exact g.elim
 |cons t T Y=>
  intro h D ps m A g z;cases h with
  |nil=>exact g.elim
  |cons v h=>
   cases D with
   |nil=>exact g.elim
   |cons d D=>
    obtain⟨p,q,Q,F,rfl⟩:=g;obtain⟨x,R,X⟩:=aFq (m t aQ) (A 0 t v rfl rfl) Q (z d aQ);obtain⟨M,E,b2,O⟩:=Y (λt L=>m t (by simp[L])) (λj t v e1 e2=>A (j+1) t v (by simpa using e1) (by simpa using e2)) F (λd B=>z d (by simp[B]));refine⟨x::M,⟨R,E⟩,by simpa [CR]using b2,λj y u e1 e2=>?_⟩;cases j with
    |zero=>simp[CR]at e1 e2;subst e1 e2;exact X
    |succ j=>exact O j y u (by simpa [CR]using e1) (by simpa using e2)
open Go.RowKit
theorem jo.awK(w:World)(k:Nat)(os:Array Obj):jo w (Go.Sort.grow (w.drewN k) os):=
 ⟨rfl,rfl,rfl,by simp[Go.Sort.grow,World.drewN],λc h=>by simp[Go.Sort.grow,World.drewN,Wp,h]⟩
theorem MH{w:World}{x:PV}{v:Value}(f:jo w w')(h:dq w' O x v):yh w O (.one (.p x)) (.returned v) w':=
 ⟨v,[],rfl,f,tA,λc g=>by simp at g,[v],rfl,v,[],rfl,h.mono λc _ j=>⟨rfl,λH=>j (H.elim id λh=>by simp at h)⟩,rfl,rfl⟩
theorem SK{w:World}{x:PV}(h:Pw (vg w O) [.one (.p x)] T.toList):∃v,T= #[v]/\dq w O x v:=by
 obtain⟨f,H⟩:=h;obtain⟨l⟩:=T
 match l,f with
 |[v],_=>exact⟨v,rfl,H 0 _ v rfl rfl⟩
theorem ajK{w:World}{v:Value}(h:dq w O (.sl []) v):∃a f,v=.slice a 0 f/\(a=none->f=0)/\f<=maxLen:=by
 generalize H:PV.sl []=x at h;cases h<;>cases H
 .exact⟨_,_,rfl,by assumption,by assumption⟩
 exact⟨_,_,rfl,λh=>by simp at h,by assumption⟩
theorem ahh{w:World}{a:Option Addr}{f:Nat}(h:a=none->f=0)(H:f<=maxLen):dq w O (.sl []) (.slice a 0 f):=.Bu a f h H
def tT:Nat->Nat->wV->wV
 |0,_,A=>A
 |k+1,u,A=>bif Nat.blt u 10 then UInt8.ofNat (Nat.add 48 u)::A else tT k (Nat.div u 10) (UInt8.ofNat (Nat.add 48 (Nat.mod u 10))::A)
theorem aks:∀(k u:Nat) (A:wV),u<10 ^ (k+1)->tT (k+1) u A=Lib.decDigits u++A:=by
 intro k
 induction k with
 |zero=>
  intro u A h;have h:u<10:=by simpa using h
  unfold Lib.decDigits;have H:Nat.blt u 10:=U2 h;simp only[tT,H,cond_true,dif_pos h];rfl
 |succ k g=>
  intro u A h;rw[Lib.decDigits,tT];by_cases f:u<10
  .have H:Nat.blt u 10:=U2 f;simp only[H,cond_true,dif_pos f];rfl
  have H:Nat.blt u 10=false:=by
   cases e:Nat.blt u 10 with
   |false=>rfl
   |true=>exact(f (jn e)).elim
  simp only[H,cond_false,dif_neg f];have:(Nat.div u 10)<10 ^ (k+1):=by have e:Nat.div u 10=u/10:=rfl;rw[e];have:10 ^ (k+1+1)=10 ^ (k+1)*10:=Nat.pow_succ ..;omega
  rw[g _ _ this];simp only[s5,List.singleton_append];rfl
def mK(n:Int):ByteArray:=⟨(match n with| .ofNat u=>tT 20 u []| .negSucc u=>45::tT 20 (Nat.succ u) []).toArray⟩
theorem aHc(n:Int)(H: -9223372036854775808<=n)(h:n<=9223372036854775807):mK n=⟨(Lib.itoa n).toArray⟩:=by
 unfold mK Lib.itoa;cases n with
 |ofNat u=>have:¬(Int.ofNat u<0):=aQ;rw[aw this];simp only;rw[aks 19 u [] (by simp at h;omega)];simp
 |negSucc u=>have:Int.negSucc u<0:=Int.negSucc_lt_zero u;rw[aH this];simp only;rw[aks 19 (Nat.succ u) [] J];simp[Int.natAbs]
def Uo(T:dN):Option RV:=
 match T with
 |[.one (.p (.int .i64 n))]=>if -9223372036854775808<=n/\n<=9223372036854775807 then some (.one (.p (.str (mK n))))else none
 |_=>none
theorem axK{P:Program}{N:String}{G:World->Prop}{T:dN}{r:RV}(hG:∀w,G w->Lib.TabIs P w N .u64 Lib.pow10Tab)
  (H:∀(n:Int),-9223372036854775808<=n->n<=9223372036854775807->∀w:World,Lib.TabIs P w N .u64 Lib.pow10Tab->Calls P f #[.int .i64 n] w λe w'=>e=.returned (.string ⟨(Lib.itoa n).toArray⟩)/\ ∃k os,w'=Go.Sort.grow (w.drewN k) os)
  (h:Uo T=some r):∀(w:World) (O:Nat->Prop) (as:Array Value),Good G w->Pw (vg w O) T as.toList->Calls P f as w (yh w O r):=by
 intro w O as g m;unfold Uo at h;split at h
 .rename_i n;split at h
  .rename_i hr;cases h;obtain⟨v,rfl,hp⟩:=SK m;generalize j:PV.int .i64 n=x at hp;cases hp<;>cases j
   refine(H n hr.1 hr.2 w (hG w g.1)).mono ?_;rintro e w' ⟨rfl,k,os,rfl⟩
   rw[aHc n hr.1 hr.2];exact MH (jo.awK _ _ _) (.str _)
  cases h
 cases h
def Nx(T:dN):Option RV:=
 match T with
 |[.one (.p (.int .u64 n))]=>if 0<=n/\n<=18446744073709551615 then some (.one (.p (.int .i64 (Lib.bitLen n.toNat))))else none
 |_=>none
theorem axH{P:Program}{T:dN}{r:RV}(H:∀(x:Int) (w:World),0<=x->x<=18446744073709551615->Calls P f #[.int .u64 x] w λe w'=>e=.returned (.int .i64 (Lib.bitLen x.toNat))/\w'=w)
  (h:Nx T=some r):∀(w:World) (O:Nat->Prop) (as:Array Value),Pw (vg w O) T as.toList->Calls P f as w (yh w O r):=by
 intro w O as j;unfold Nx at h;split at h
 .rename_i n;split at h
  .rename_i hr;cases h;obtain⟨v,rfl,hp⟩:=SK j;generalize g:PV.int .u64 n=x at hp;cases hp<;>cases g
   refine(H n w hr.1 hr.2).mono ?_;rintro e w' ⟨rfl,rfl⟩
   exact MH (jo.refl _) (.int _ _)
  cases h
 cases h
def UZ(T:dN):Option (Option RV):=
 match T with
 |[.one (.p (.sl []))]=>some (some (.one (.p (.sl []))))
 |_=>none
theorem axJ{S:Sys}{G:World->Prop}(hS:KA S G){n:Nat}{z i Z:Nat}{fn:aV}(hfn:S.fns f=some fn)(h1:jd S n f [.one (.p .nils)]=some (.one (.p .nils)))
  (L:jc S n f [.one (.hsl 0 0 z 0 0)] .all AE=some (.one (.hsl i g Z 0 0),F)) {T:dN}{r:RV} (H:UZ T=some (some r)):
  ∀(w:World) (O:Nat->Prop) (as:Array Value),Good G w->(∀c,O c->c<w.heap.size)->Pw (vg w O) T as.toList->Calls S.P f as w (yh w O r):=by
 intro w O as B A R;unfold UZ at H;split at H
 .cases H;obtain⟨v,rfl,hp⟩:=SK R;obtain⟨a,m,rfl,hn,hm⟩:=ajK hp;cases a with
  |none=>
   obtain rfl:=hn rfl;refine((sound hS n).1 f _ _ h1 |>.2 w O #[.slice none 0 0] B A ⟨rfl,λj x u p q=>?_⟩).mono ?_
   .cases j with
    |zero=>simp at p q;subst p q;exact dq.nils
    |succ j=>simp at p
   rintro e w' ⟨val,bs,rfl,uN,gk,qp,h,D,Q⟩
   obtain⟨v0,qF,e1,e2,e3,e4⟩:=Q;have y:h=[val]:=D;subst y;cases e1;subst e4;cases e2;exact MH uN (ahh (λ_=>rfl) (cE _))
  |some a=>
   let M:bR:=⟨w,AE,λ_=>0,λ_=>0,O⟩
   have aA:eo w M:=⟨rfl,rfl,rfl,cT _,λ_ _=>rfl,(λid o H=>by cases H),(λid o H=>by cases H),A,(λid fR o o' H=>by cases H)⟩;refine(((sound hS n).2.1 f _ _ _ _ _ L).2 w M #[.slice (some a) 0 m] B aA rfl ⟨rfl,λj x u p q=>?_⟩).mono ?_
   .cases j with
    |zero=>simp at p q;subst p q;exact dX.hsl a m (cE _) (cE _) hm (λsz _ H=>by cases H)
    |succ j=>simp at p
   rintro e w' ⟨val,m',rfl,rfl,D,Q,q3,q4,N⟩
   have hq:dX m' (.hsl i g Z 0 0) val:=N;cases hq with
   |hsl a2 E _ _ X _=>
    refine MH ⟨Q.os,Q.tape,Q.output,Q.size,λc Y=>Q.keep c Y ?_⟩ (ahh (λH=>by cases H) X);rintro⟨id,o,H,_⟩
    cases H
 cases H
def U0(T:dN):Option (Option RV):=
 match T with
 |[.one (.p (.sl []))]=>some (some (.one (.p .zs)))
 |_=>none
theorem axI{P:Program}{G:World->Prop}(j:∀(w:World) (a:Option Addr) (c:Nat),Calls P f #[.slice a 0 c] w λe w'=>∃b,e=.returned (.slice b 0 0)/\jo w w'){T:dN}{r:RV}(h:U0 T=some (some r)):
  ∀(w:World) (O:Nat->Prop) (as:Array Value),Good G w->(∀c,O c->c<w.heap.size)->Pw (vg w O) T as.toList->Calls P f as w (yh w O r):=by
 intro w O as x m H;unfold U0 at h;split at h
 .cases h;obtain⟨v,rfl,hp⟩:=SK H;obtain⟨a,g,rfl,y,z⟩:=ajK hp;refine(j w a g).mono ?_;rintro e w' ⟨b,rfl,u⟩
  exact MH u (dq.zs b)
 cases h
open Go.RowKit Go.WideShapes Go.ChangeShapes
section
variable {H:Type} {enc:TypeId×Value->H} {P:Program} {w:World} {base:Nat} {sp:Nat->Bool} {held:Bool}
theorem ash:∀(n F:Nat) (t:TypeId) (D:List Value) (x:DataW H×List MemPlace),lZ P n t->DataW.trod enc P w base sp held F t D=some x->uZ maxLen x.1:=by
 intro n
 induction n with
 |zero=>intro F t D x h;simp[lZ]at h
 |succ n B=>
  intro F t D x aA h;cases F with
  |zero=>simp[DataW.trod]at h
  |succ F=>
   rw[DataW.trod_step]at h;unfold DataW.trodStep at h;unfold lZ at aA;split at h
   case h_1=>cases h;exact .lit _ (λs h=>by cases h)
   case h_2=>
    split at h
    .cases h;exact .lit _ (λs h=>by cases h)
    cases h
   case h_4=>
    split at h
    .rename_i hs;cases h;exact .str _ (by simpa using hs)
    cases h
   case h_7=>cases h;exact .nil
   case h_8 e a len L u=>
    rw[u]at aA;simp only[dj]at aA;simp only at h;split at h
    .rename_i T;simp only[eU,NZ]at h;obtain⟨elems,A,R,N,rfl⟩:=h;have z:I elems=len:=by simpa using mapM_some_length A
     refine .slice _ _ (by simp;omega) (λd j=>?_);obtain⟨y,m,rfl⟩:=eg.1 j;obtain⟨i,_,g⟩:=mapM_mem_of A y m;simp only[NZ]at g;obtain⟨row,_,E⟩:=g;exact B _ _ _ _ aA.2 E
    cases h
   case h_9=>
    rename_i fs u;rw[u]at aA;simp only[dj]at aA;split at h
    .simp only[eU]at h;obtain⟨M,Q,rfl⟩:=h;refine .agg _ (λd j=>?_);obtain⟨y,m,rfl⟩:=eg.1 j;obtain⟨f,O,g⟩:=mapM_mem_of Q y m;exact B _ _ _ _ (jP.1 aA.2 f O) g
    cases h
   all_goals(first|(cases h;done)|(simp_all;done)|(exfalso;simp_all;done))
theorem aop{n:Nat}:∀ {T:List TypeId}{h:List Value}{D:List (DataW H)}{ps:List MemPlace},(∀t∈T,lZ P n t)->DataW.TrodAll enc P w base sp held T h D ps->(∀d∈D,uZ maxLen d)/\I D=I T:=by
 intro T
 induction T with
 |nil=>
  intro h D ps _ m;cases h<;>cases D<;>first
   |exact m.elim
   |exact⟨λd u=>by simp at u,rfl⟩
 |cons t T A=>
  intro h D ps j m;cases h with
  |nil=>exact m.elim
  |cons v h=>
   cases D with
   |nil=>exact m.elim
   |cons d D=>
    obtain⟨p,q,⟨f,B⟩,y,rfl⟩:=m;obtain⟨i1,i2⟩:=A (λt z=>j t (by simp[z])) y;refine⟨λx g=>?_,by simp[i2]⟩;rcases dk.1 g with rfl|g
    .exact ash n f t _ _ (j t aQ) B
    exact i1 x g
end
section
variable {H:Type} {enc:TypeId×Value->H} {P:Program}
theorem azx{f:Func}{s:ChangeSpec}{lG fresh:Bool}{bP g:World}{v:Value}{D u:List (DataW H)}{pa m:List MemPlace}
  (y:DataW.Whole enc P f.params.toList s.vars lG bP T.toList D u before)
  (E:∀(b:Nat) (sp:Nat->Bool) (B:Bool),DataW.TrodAll enc P g b sp B f.resultTypes.toList (v.resultList f.resultTypes.size) (s.fn H (D++u)).results [])
  (F:∀sp:Nat->Bool,(∀p∈before,sp p.block)->DataW.TrodAll enc P g 0 sp true f.params.toList T.toList (s.fn H (D++u)).args pa)
  (Q:∀sp:Nat->Bool,(∀p∈before,sp p.block)->DataW.TrodVars enc P g sp s.vars (s.fn H (D++u)).vars m)
  (x:before=pa++m) (z:Below bP.heap.size bP g)
  (aA:∀(j:Nat) (t:TypeId) (r:Value),f.resultTypes[j]?=some t->(v.resultList f.resultTypes.size)[j]?=some r->Value.okWide P g .any 0 t r):
  s.post enc P f lG fresh handsOn again bP T v g:=by
 have A:∀p∈before,p.block<bP.heap.size:=λp hp=>y.lt p hp;have h:∀p∈before,(λb=>decide (b<bP.heap.size)) p.block=true:=λp hp=>by simpa using A p hp
 refine⟨D,u,before,[],pa,m,y,E _ _ _,F _ h,Q _ h,World.keptBut_mono (λp hp=>⟨hp,?_⟩) (z.frame (· ∈before)),λ_=>?_⟩
 .rw[x,fc]at hp;exact Or.inr hp
 obtain⟨_,_,_,_,_,M,N⟩:=y;refine⟨aA,_,_,([]++pa)++m,⟨[]++pa,m,trodAll_append (F _ (λ_ _=>rfl)) (E _ _ _),Q _ (λ_ _=>rfl),rfl,?_,?_⟩,?_⟩
 .intro b O hp;have L:MemPlace.cell b O∈before:=by rw[x];simpa using hp
  rw[z.frozen (A _ L)];exact M b O L
 .intro R;have:=N R;rw[x]at this
  simpa using this
 intro p hp _;rw[x]
 simpa using hp
end
theorem Is{P:Program}{N n:Nat}{t:TypeId}{k:IntKind}{p:b_}(H:P.underlying t=some (.int k))(h:mq P N (n+1) t p):∃z,p=[.int k z]/\(Lit.int k z).wf:=by simp only[mq,H]at h;exact h
theorem avn{P:Program}{N n:Nat}{t:TypeId}{p:b_}(H:P.underlying t=some .bool)(h:mq P N (n+1) t p):∃b,p=[.bool b]:=by simp only[mq,H]at h;exact h
theorem aBz{P:Program}{N n:Nat}{t e:TypeId}{p:b_}(H:P.underlying t=some (.slice e))(h:mq P N (n+1) t p):∃y,p=[.sl y]/\I y<=N/\ ∀x∈y,mq P N n e x:=by simp only[mq,H]at h;exact h
theorem ayA{P:Program}{t:TypeId}{k:TypeDesc}{x:PV}(h:P.underlying t=some k)(H:∀fs,k≠ .struct fs):Dg P t [x]=.one (.p x):=by
 unfold Dg;rw[h];cases k<;>first
  |rfl
  |exact(H _ rfl).elim
theorem aF8{P:Program}{t:TypeId}{fs:Array Field}{x:b_}(h:P.underlying t=some (.struct fs)):Dg P t x=.agg (x.map .p):=by unfold Dg;rw[h]
theorem awk{S:Sys}{G:World->Prop}(hS:KA S G)(Px:∀w,G w->Good G w){fn:Func}{s:ChangeSpec}{n N:Nat}{fresh lG:Bool}(R:s.vars=[])
  (hfn:∀(H:Type) (D:List (DataW H)),I D=I fn.params.toList->s.fn H D={results:=[.lit (.bool true)],args:=D}) {tb:TypeId} (Y:fn.resultTypes= #[tb]) (A:S.P.underlying tb=some .bool)
  (M:∀t∈fn.params.toList,lZ S.P n t) (Q:∀g,Va S.P N n fn.params.toList g->aJ S f (CR S.P fn.params.toList g) (.one (.p (.bool true))))
  {H:Type}{enc:TypeId×Value->H}{bP:World}{base:Nat}{D gs:List (DataW H)}
  (E:∀(j:Nat) t v,fn.params[j]?=some t->T[j]?=some v->Value.okWide S.P bP .any base t v)
  (hW:DataW.Whole enc S.P fn.params.toList s.vars lG bP T.toList D gs before) (hG:G bP) (y:∀d∈D,uZ N d):
  Calls S.P f T bP λe F=>∃v,e=.returned v/\s.post enc S.P fn lG fresh handsOn again bP T v F:=by
 have z:=hW;obtain⟨p,q,O,Z,rfl,ab,gk⟩:=hW;rw[R]at Z;obtain⟨rfl,rfl⟩:=trodVars_none Z;obtain⟨_,m⟩:=aop M O;obtain⟨g,h1,h2⟩:=aGc (r:=.any) (b0:=base) M (λj t v a b=>E j t v (by simpa using a) (by simpa using b)) O y;refine((Q g h1).calls hS bP (Px bP hG) T h2).mono ?_;rintro e F ⟨val,bs,rfl,B,_,_,h,q1,q2⟩
 obtain⟨v0,qF,e1,e2,e3,e4⟩:=q2;have L:h=[val]:=q1;subst L;cases e1;have hv:val=.bool true:=by
  generalize u:PV.bool true=x at e2;cases e2<;>cases u
  rfl
 subst hv;have X:Below bP.heap.size bP F:=⟨B.os,B.tape,B.output,B.size,B.keep⟩;have aq:∀x∈p++[],x.block<bP.heap.size:=λx u=>z.lt x u;refine⟨_,rfl,azx (pa:=p) (m:=[]) z ?_ ?_ ?_ rfl X ?_⟩
 .intro b sp hd;rw[lg,hfn H D m,Y];exact trodAll_cons_mk (shut_bool A _) trodAll_mk0
 .intro JW rI;rw[lg,hfn H D m];exact aAb (λt ht=>⟨n,M t ht⟩) O (λx u=>X.same (aq x (by simpa using u))) (λx u=>rI x (by simpa using u))
 .intro JW rI;rw[lg,hfn H D m,R];rfl
 exact ok_one Y rfl (okWide_bool_mk A _)
theorem asg(j:bn)(t:Nat)(v:V):dF j (some t) v=dE j t v:=rfl
theorem aya(j:bn)(v:V):dF j none v=j:=rfl
theorem axN(j:bn)(n:Nat):ev j (.t n)=j n:=rfl
theorem aFC(j:bn)(n:Int):ev j (.i n)=.one (.p (.int .i64 n)):=rfl
theorem aF5(j:bn)(x:Bool):ev j (.b x)=.one (.p (.bool x)):=rfl
theorem ar8(j:bn)(v:V):ev j (.k v)=v:=rfl
theorem aug(a:V)(l:dN):tp (a::l) 0=a:=rfl
theorem aC9(a:V)(l:dN)(n:Nat):tp (a::l) (n+1)=tp l n:=rfl
def El(v:V)(f:Bool):Option Bool:=match v with
 | .one (.p (.bool b))=>some (b==f)
 | .undef=>some false
 |_=>none
theorem aq7(b f:Bool):El (.one (.p (.bool b))) f=some (b==f):=rfl
theorem aCO(f:Bool):El .undef f=some false:=rfl
section
variable {S:Sys} {al:cG} {o:iP} {j:bn} {aj:aB} {tr:fU} {bK:bn->aB->fU->Prop} {d:eh}
theorem aHb{id:Nat}{Q:fM}:ld id Q .normal j aj=Q .normal j aj:=rfl
theorem ayn{id:Nat}{Q:fM}:ld id Q .ret j aj=Q .ret j aj:=rfl
theorem aqG{id i:Nat}{Q:fM}:ld id Q (.exit i) j aj=if i=id then Q .normal j aj else Q (.exit i) j aj:=rfl
end
def D4 (S:Sys)(al:cG)(Z:eZ)(Q:bn->aB->Prop)(j:bn)(aj:aB):Prop:=∀tr,rz S al Z (λj aj _=>Q j aj) j aj tr
def Kg(S:Sys)(al:cG)(p:A_)(d:eh)(j:bn)(aj:aB)(bK:bn->aB->Prop):Prop:=
 match p with
 | .fail=>False
 | .done v u r=>al.gH (r++u.map (·.1))=true/\bK (dF j d v) (app u aj)
 | .pc f h r s=>∃x,aJ S f h x/\match eF aj r s (x.fi (S.lone s))with
  |some (v,u)=>al.gH (r++u.map (·.1))=true/\bK (dF j d v) (app u aj)
  |none=>False
 | .sc f h=>al.holds (f_ (S.ctx al) f h aj)=true/\ ∃v F,je S f h (f_ (S.ctx al) f h aj) aj v F/\bK (dF j d v) F
def Rt(S:Sys)(al:cG)(w:Option Bool)(o:iP)(j:bn)(aj:aB)(bK:bn->aB->Prop):Prop:=
 match w with
 |none=>False
 |some false=>bK (dF j o.dst .undef) aj
 |some true=>Kg S al (cZ S.shared j aj o.op) o.dst j aj bK
section
variable {S:Sys} {al:cG} {j:bn} {aj:aB}
theorem aqC{Z:eZ}{f:bn->aB->Prop}{tr T:fU}(h:rz S al Z (λj aj _=>R j aj) j aj tr)(g:∀e b,R e b->f e b):rz S al Z (λj aj _=>f j aj) j aj T:=by obtain⟨n,e,b,y,m,H⟩:=h;exact⟨n,e,b,y,m,g _ _ H⟩
theorem aHs{Z:eZ}{Q:fM}:bP S al (.region false Z) Q j aj↔D4 S al Z (λj aj=>Q .normal j aj) j aj:=by
 rw[ama];constructor
 .intro h tr;obtain⟨n,e,b,y,f,_,H⟩:=h;exact⟨n,e,b,y,f,H⟩
 intro h;obtain⟨n,e,b,y,f,H⟩:=h [];exact⟨n,e,b,y,f,(λh=>by cases h),H⟩
theorem avt:D4 S al [] R j aj↔R j aj:=⟨λh=>acf.1 (h []),λh _=>acf.2 h⟩
theorem amL{o:iP}{os:eZ}{w:Option Bool}(tr:fU):Fq S al w o j aj tr (rz S al os λe b _=>R e b)↔Rt S al w o j aj (D4 S al os R):=by
 have k:∀ {e:bn}{b:aB}{t:fU},rz S al os (λe b _=>R e b) e b t↔D4 S al os R e b:=λ{e b t}=>⟨λH T=>aqC H λ_ _ H=>H,λH=>H t⟩;cases w with
 |none=>exact Iff.rfl
 |some w=>
  cases w with
  |false=>exact k (t:=tr++[⟨[],[],[]⟩])
  |true=>
   simp only[Fq,Rt];cases cZ S.shared j aj o.op with
   |fail=>exact Iff.rfl
   |done v u r=>simp only[H8,Kg,k]
   |pc f h r s=>
    simp only[H8,Kg];refine exists_congr λx=>and_congr Iff.rfl ?_;cases eF aj r s (x.fi (S.lone s))with
    |none=>exact Iff.rfl
    |some y=>simp only[k]
   |sc f h=>simp only[H8,Kg,k]
theorem ami{o:iP}{os:eZ}:D4 S al (o::os) R j aj↔Rt S al (s3 j o.guard) o j aj (D4 S al os R):=by
 constructor
 .intro h;exact(amL []).1 (RG.1 (h []))
 intro h tr;exact RG.2 ((amL tr).2 h)
variable {o:iP} {bK:bn->aB->Prop} {d:eh}
end
theorem aFx:(false==true)=false:=rfl
theorem aqD:(true==false)=false:=rfl
theorem aD1:(false==false):=rfl
theorem ayi:(true==true):=rfl
theorem aDN{aj:aB}{x:PV}:gr aj (.one (.p x))=some (.one (.p x)):=rfl
theorem atU(k:IntKind)(n:Int):(PV.int k n).norm=.int k n:=rfl
theorem aFM(b:Bool):(PV.bool b).norm=.bool b:=rfl
theorem axl(s:ByteArray):(PV.str s).norm=.str s:=rfl
theorem axC:PV.nils.norm=.sl []:=rfl
theorem aDU(y:s_):(PV.sl y).norm=.sl y:=rfl
theorem ahu(y:b_):(PV.box y).norm=.box y:=rfl
theorem atQ(f:Nat)(a b:b_):(PV.fn f a b).norm=.fn f a b:=rfl
theorem aFd:PV.xQ.norm=.xQ:=rfl
theorem aAw:PV.Bm.norm=.Bm:=rfl
theorem aw3:PV.um.norm=.um:=rfl
theorem aCv(a:Bool)(e:w_):(PV.mp a e).norm=.mp a e:=rfl
theorem aDk{aj:aB}:Dj aj []=some ([],[]):=rfl
def Xr(x:Option (V×aG))(y:Option (dN×aG)):Option (dN×aG):=match x,y with
 |some (b,x),some (bs,y)=>some (b::bs,x++y)
 |_,_=>none
theorem azT{aj:aB}:Dj aj (x::M)=Xr (pX aj x) (Dj aj M):=by simp only[Dj,Xr,ic];cases pX aj x<;>cases ic (pX aj) M<;>rfl
theorem aqB{b:V}{x:aG}{bs:dN}{y:aG}:Xr (some (b,x)) (some (bs,y))=some (b::bs,x++y):=rfl
theorem aC1{aj:aB}{x:PV}:pX aj (.one (.p x))=some (.one (.p x.norm),[]):=rfl
end Go.Abs
