/-
  Each operation of the abstract machine is what the program does; the machine is sound in any order that a region draws; a quick evaluator; library functions.
-/
import Derived.Test.YtkdkhndppjfpmaaGreatDoorMa
import Derived.Laws.BytesString
import Derived.LoopN
import Derived.Scope
import Derived.Orders
import Derived.ChangeReads
import Derived.ChangeStays
import Derived.DataReads
import Derived.Below
import Derived.Sort.Grow
import Derived.Deep.Draws
import Derived.Lib.ItoaNum
import Derived.Lib.Join
import Derived.Lib.BitFns
import Derived.Lib.LaidTab
import Derived.ChangeSame
import Derived.ProofKit
import Derived.OpenShut
set_option linter.all false
open List renaming length->I
namespace Go.Abs
variable{y:yJ}{clock g n kd f sz site nt:Nat}{v kv qv val:Value}{m:bJ}{x:V}{x' k' y':fu}{z:b_}{key:PV}{ag held handsOn again:Bool}{D:sA}{A B T:Array Value}{u:mF}{M ys:dT}{R:ct->aN->Prop}{E KC sp:Nat->Bool}{w':World}{Q Q' O:Nat->Prop}{h us:List Value}{X j gV:ct}{F bG bh b2 Ji b'':aN}{Y:mf}{Z:Array Oper}{before:List MemPlace}
variable {P:Program} {w0:World}
section
variable{ag:Bool}
def Sl(w:World)(own:Nat->Prop)(ag:Bool)(y:yJ)(E:Array MapEntry):Prop:=E.size=I y/\ ∀(i:Nat) (q:PV) (v:b_) (e:MapEntry),y[i]?=some (q,v)->E[i]?=some e->dn w own q e.key/\ ∃g:Array Value,(ag->e.val=.agg g)/\(ag=false-> #[e.val]=g)/\eK w own v g.toList
theorem PF{w:World}{r:Nat}{y:Array MapEntry}(h:w.heap[r]?=some (.map y clock)):(getObj r).run P w=.ok (.map y clock) w:=by simp[getObj,Sem.run,h]
theorem aiQ{w:World}{r:Nat}{y:Array MapEntry}{O:Obj}(H:w.heap[r]?=some (.map y clock)):(setObj r O).run P w=.ok () {w with heap:=w.heap.setIfInBounds r O}:=by simp[setObj,Sem.run,H]
theorem ai8{w:World}{own:Nat->Prop}(h:dn w own (.mp ag y) v):
  ∃r E clock,v=.map (some r)/\w.heap[r]?=some (.map E clock)/\Sl w own ag y E:=by
 cases h with
 |mp r E clock g A n hl z m hr=>
  refine⟨r,E,clock,rfl,n,hl,λi q v e H f=>⟨z i q v e H f,g i,(m i q v e H f).2.1,(m i q v e H f).2.2,?_,λj x u a b=>?_⟩⟩
  .simpa using(m i q v e H f).1
  exact hr i q v j x u H a (by simpa using b)
theorem Ns(aG:dZ w0 m){id:Nat}(h:df m (.one (.nL id g)) v)(H:m.aj id=(g,some (.map ag y))\/m.aj id=(g,some (.fmap ag y))):
  ∃r E clock,v=.map (some r)/\r=m.σ id/\m.w.heap[r]?=some (.map E clock)/\Sl m.w m.own ag y E:=by
 have h:dU m (.nL id g) v:=h;cases h with
 |nL r u hr=>
  rcases H with H|H
  .obtain⟨E,clock,j,f,n⟩:=aG.obj id _ (congrArg Prod.snd H);have:=hr (by rw[H]) (by rw[H];rfl);subst this;exact⟨_,E,clock,rfl,rfl,j,f,n⟩
  obtain⟨E,clock,j,f,n,_⟩:=aG.obj id _ (congrArg Prod.snd H);have:=hr (by rw[H]) (by rw[H];rfl);subst this;exact⟨_,E,clock,rfl,rfl,j,f,n⟩
theorem aBO(aG:dZ w0 m){r:aF}(h:nq m.aj ag x=some (y,r))(n:df m x v):
  ∃E:Array MapEntry,((v=.map none/\E= #[])\/ ∃ref clock,v=.map (some ref)/\m.w.heap[ref]?=some (.map E clock))/\Sl m.w m.own ag y E:=by
 unfold nq at h;split at h
 .cases h;exact⟨#[],.inl ⟨afs n,rfl⟩,rfl,λi q v e h=>by simp at h⟩
 .rename_i A O;split at h
  .rename_i e;subst e;cases h;obtain⟨hp⟩:dU m _ v:=n;obtain⟨r,E,clock,j,H,f⟩:=ai8 hp;exact⟨E,.inr ⟨r,clock,j,H⟩,f⟩
  cases h
 .rename_i id g;split at h
  .rename_i B A O u;split at h
   .rename_i z;obtain⟨rfl,rfl⟩:=z;cases h;obtain⟨r,E,clock,j,_,H,f⟩:=Ns aG n (.inl u);exact⟨E,.inr ⟨r,clock,j,H⟩,f⟩
   cases h
  .rename_i B A O u;split at h
   .rename_i z;obtain⟨rfl,rfl⟩:=z;cases h;obtain⟨r,E,clock,j,_,H,f⟩:=Ns aG n (.inr u);exact⟨E,.inr ⟨r,clock,j,H⟩,f⟩
   cases h
  cases h
 cases h
theorem axC(aG:dZ w0 m){r:aF}(h:qk m.aj x=some (n,r))(u:df m x v):
  (v=.map none/\n=0)\/ ∃ref E clock,v=.map (some ref)/\m.w.heap[ref]?=some (.map E clock)/\E.size=n:=by
 unfold qk at h;split at h
 .cases h;exact .inl ⟨afs u,rfl⟩
 .cases h;obtain⟨hp⟩:dU m _ v:=u;obtain⟨r,E,clock,j,H,f⟩:=ai8 hp;exact .inr ⟨r,E,clock,j,H,f.1⟩
 .rename_i id g;split at h
  .rename_i B A O y;split at h
   .rename_i z;subst z;cases h;obtain⟨r,E,clock,j,_,H,f⟩:=Ns aG u (.inl y);exact .inr ⟨r,E,clock,j,H,f.1⟩
   cases h
  .rename_i B A O y;split at h
   .rename_i z;subst z;cases h;obtain⟨r,E,clock,j,_,H,f⟩:=Ns aG u (.inr y);exact .inr ⟨r,E,clock,j,H,f.1⟩
   cases h
  cases h
 cases h
def Fa(kind:TypeDesc)(kd:Nat):Prop:=(kd=0/\ ∃k,kind=.int k)\/(kd=1/\kind=.string)\/(kd=2/\kind=.bool)
theorem ak8{t:TypeId}(h:keyOf P t=some kd):∃kind,P.underlying t=some kind/\Fa kind kd:=by
 unfold keyOf at h;split at h
 .rename_i k H;cases h;exact⟨_,H,.inl ⟨rfl,_,rfl⟩⟩
 .rename_i H;cases h;exact⟨_,H,.inr (.inl ⟨rfl,rfl⟩)⟩
 .rename_i H;cases h;exact⟨_,H,.inr (.inr ⟨rfl,rfl⟩)⟩
 cases h
theorem aaP{w:World}{own:Nat->Prop}{k q:PV}{kind:TypeDesc}{b:Bool}(f:Fa kind (kD k))(h:Ed k q=some b)(g:dn w own k kv)(H:dn w own q qv):Instr.sameNow kind kv qv=some b:=by
 unfold Ed at h;split at h
 .rename_i a L c d;split at h
  .rename_i e;subst e;cases h;rcases f with⟨_,x,rfl⟩|⟨e,_⟩|⟨e,_⟩
   .cases g;cases H;simp[Instr.sameNow]
   .simp[kD]at e
   simp[kD]at e
  cases h
 .cases h;rcases f with⟨e,_⟩|⟨_,rfl⟩|⟨e,_⟩
  .simp[kD]at e
  .cases g;cases H;simp[Instr.sameNow]
  simp[kD]at e
 .cases h;rcases f with⟨e,_⟩|⟨e,_⟩|⟨_,rfl⟩
  .simp[kD]at e
  .simp[kD]at e
  cases g;cases H;simp[Instr.sameNow]
 cases h
theorem ayx{w:World}{own:Nat->Prop}{k q:PV}(h:Ed k q=some true)(f:dn w own k kv)(H:dn w own q qv):qv=kv:=by
 unfold Ed at h;split at h
 .split at h
  .rename_i e;subst e;simp at h;subst h;cases f;cases H;rfl
  cases h
 .rename_i a b;have e:(a==b):=by simpa using h
  rw[beq_toListBytes]at e;have e:a=b:=by
   have e:a.toList=b.toList:=by simpa using e
   rw[ByteArray.toList_eq,ByteArray.toList_eq]at e;exact ByteArray.ext (Array.toList_inj.1 e)
  subst e;cases f;cases H;rfl
 .simp at h;subst h;cases f;cases H;rfl
 cases h
theorem amb{w:World}{own:Nat->Prop}{k:PV}{kind:TypeDesc}(H:Fa kind (kD k))(g:dn w own k kv):∀ {y:yJ}{l:List MapEntry}{i:Nat}{f:Option (Nat×b_)},
  I l=I y->(∀(j:Nat) (q:PV) (v:b_) (e:MapEntry),y[j]?=some (q,v)->l[j]?=some e->dn w own q e.key)->xY k y i=some f->
  (f=none/\Instr.findNow kind kv l i=some none)\/ ∃j q v e,f=some (i+j,v)/\y[j]?=some (q,v)/\l[j]?=some e/\Ed k q=some true/\Instr.findNow kind kv l i=some (some (i+j,e.val)):=by
 intro y
 induction y with
 |nil=>
  intro l i f hl _ h;simp[xY]at h;cases l with
  |nil=>exact .inl ⟨h.symm,rfl⟩
  |cons _ _=>simp at hl
 |cons p r A=>
  intro l i f hl n h;obtain⟨a,v⟩:=p;cases l with
  |nil=>simp at hl
  |cons e l=>
   have Q:=n 0 a v e rfl rfl;simp only[xY]at h;split at h
   .rename_i ae;cases h;exact .inr ⟨0,a,v,e,rfl,rfl,rfl,ae,by simp[Instr.findNow,aaP H ae g Q]⟩
   .rename_i ae;rcases A (l:=l) (i:=i+1) (f:=f) (by simpa using hl) (λj q v e a b=>n (j+1) q v e (by simpa using a) (by simpa using b)) h with⟨m,E⟩|⟨j,q,x,e',m,E,z,B,u⟩
    .exact .inl ⟨m,by simp[Instr.findNow,aaP H ae g Q,E]⟩
    refine .inr ⟨j+1,q,x,e',by rw[m];congr 2;omega,by simpa using E,by simpa using z,B,?_⟩;simp only[Instr.findNow,aaP H ae g Q,u];congr 3;omega
   cases h
theorem aut{t:TypeId}{kind:TypeDesc}{b:Bool}(w:World)(h:P.underlying t=some kind)(H:Fa kind kd)(n:Nat):(Instr.checkKey b (n+1) t v).run P w=.ok () w:=by rcases H with⟨_,k,rfl⟩|⟨_,rfl⟩|⟨_,rfl⟩<;>simp[Instr.checkKey,run_underlying h]
theorem Pe{t:TypeId}{kind:TypeDesc}{b:Bool}(w:World)(h:P.underlying t=some kind)(H:Fa kind kd):(Instr.checkKey b 10000 t v).run P w=.ok () w:=aut w h H 9999
theorem aAl{w:World}{own:Nat->Prop}{k:PV}{kind:TypeDesc}(H:Fa kind (kD k))(h:dn w own k kv)(n:Nat):Instr.sameBits n kv kv:=by
 cases h<;>first
  |(simp[kD,Fa]at H;done)
  |(simp[Instr.sameBits];done)
  |(simp[Instr.sameBits,beq_toListBytes];done)
theorem axb{w0 w:World}{own:Nat->Prop}{k:PV}{kind:TypeDesc}(H:Fa kind (kD k))(h:dn w0 own k kv):(Instr.keyThatStays kv kv).run P w=.ok kv w:=by rw[Instr.keyThatStays,aAl H h,aD rfl];rfl
theorem UF{t:TypeId}{kind:TypeDesc}{l:List MapEntry}{r:Option (Nat×Value)}(w:World)(h:P.underlying t=some kind)(H:Instr.findNow kind v l 0=some r):(Instr.findKey t v l).run P w=.ok r w:=by simp[Instr.findKey,run_underlying h,H]
theorem agJ{v:b_}{g:Array Value}(h:nc ag v=some x)(f:ag->val=.agg g)(H:ag=false-> #[val]=g)(hp:eK m.w m.own v g.toList):df m x val/\qP m x val:=by
 cases ag with
 |true=>simp only[nc,iS]at h;subst h;exact⟨df.agg.2 ⟨g,f rfl,hp.GP⟩,⟨g,f rfl,hp.GP⟩⟩
 |false=>
  have H:=H rfl;subst H;cases v with
  |nil=>simp[nc]at h
  |cons c r=>
   cases r with
   |nil=>simp only[nc,iS]at h;subst h;have:=hp.2 0 c val rfl rfl;exact⟨p_ this,dU.p this⟩
   |cons _ _=>simp[nc]at h
section
variable {m:bJ} {j:ct} {a:Act} {o:Oper} (aG:dZ w0 m) (hr:lI m j a.tmps)
include aG
theorem aCW{t f e:TypeId}{s:Nat}(H:o.op=.makeMap t none):
  iP P w0 a.eval o m (.one (.nL s ((m.aj s).1+1))) [(s,((m.aj s).1+1,some (.map ag [])))]:=by
 refine⟨.map (some m.w.heap.size),m.fresh (.map #[] 0) s 0 (.map ag []),.inl ?_,ahw aG _ s 0 _ ⟨#[],0,ai3 _ s 0 _,rfl,λi q v e h=>by simp at h⟩,RQ _ s 0 _,aaX aG _ s 0 _,ace _ _ s 0 _,df.one.2 (.nL _ ?_ λ_ _=>?_)⟩
 .simp[execOp,H,Instr.makeMap];rfl
 .simp[bJ.fresh,bJ.install,bJ.later,cD]
 simp[bJ.fresh,bJ.install,cD]
include hr
theorem arS{c:Call}{x:Operand}{t k e:TypeId}{r:aF}(f:o.op=.call c)(u:c.callee=.builtin .len)(h:c.args= #[x])(O:c.argTypes[0]?=some t)(g:P.underlying t=some (.map k e))
  (y:dA x=some x') (z:qk m.aj (ev j x')=some (n,r)):iP P w0 a.eval o m (.one (.p (.int .i64 n))) []:=by
 refine .calm aG ?_ (p_ (.int _ _));have A:(#[a.eval x]:Array Value)[0]?=some (a.eval x):=rfl;rcases axC aG z (gv y hr)with⟨H,rfl⟩|⟨ref,E,clock,H,v,rfl⟩
 .simp[execOp,f,resolve,u,h,O,invoke,builtin,Builtin.len_,run_underlying g,H,goInt]
 simp[execOp,f,resolve,u,h,O,invoke,builtin,Builtin.len_,run_underlying g,H,goInt,PF v]
theorem awu{t kt e:TypeId}{x k:Operand}{ok:Bool}{q:eC}{r:aF}{f:Option (Nat×b_)}{w:V}(ho:o.op=.lookup t x k ok)(N:P.underlying t=some (.map kt e))
  (hz:BM P e=some z) (Es:keyOf P kt=some kd) (B:T9 P e=q.isSome) (hx:dA x=some x') (hk:dA k=some k') (hm:nq m.aj q.isSome (ev j x')=some (y,r)) (X:ev j k'=.one (.p key)) (yL:kD key=kd)
  (hf:xY key y 0=some f) (hw:nc q.isSome ((f.map (·.2)).getD z)=some w):iP P w0 a.eval o m (if ok then .tup [w,.one (.p (.bool f.isSome))]else w) []:=by
 obtain⟨kind,A,D⟩:=ak8 Es;obtain⟨E,TI,hl,fv⟩:=aBO aG hm (gv hx hr);have PN:=gv hk hr;rw[X]at PN;obtain⟨dz⟩:dU m _ _:=PN;have mv:(∃ref clock,a.eval x=.map (some ref)/\m.w.heap[ref]?=some (.map E clock))\/a.eval x=.map none/\E= #[]:=by
  rcases TI with h|h
  .exact .inr h
  exact .inl h
 have key:∀(val:Value) (b:Bool),df m w val->qP m w val->f.isSome=b->(Instr.lookup t (a.eval x) (a.eval k) ok).run P m.w=.ok (if ok then .tuple #[val,.bool b]else val) m.w->iP P w0 a.eval o m (if ok then .tup [w,.one (.p (.bool f.isSome))]else w) []:=by
  intro val b n jX H L;refine .calm aG (x:=if ok then .tuple #[val,.bool b]else val) ?_ ?_
  .simp[execOp,ho,L]
  cases ok
  .exact n
  refine⟨_,rfl,rfl,λab ad u p q=>?_⟩;rcases ab with _|_|ab
  .simp at p q;subst p q;exact jX
  .simp at p q;subst p q;rw[H];exact dU.p (.bool _)
  simp at p
 rcases amb (kind:=kind) (by rw[yL];exact D) dz (l:=E.toList) (by simpa using hl) (λab q v e n H=>(fv ab q v e n (by simpa using H)).1) hf with⟨rfl,hn⟩|⟨ab,q',v,e',rfl,H,L,_,hn⟩
 .obtain⟨Z,i,M,F,Kc,s8,dX⟩:=On hz;obtain⟨Q,Y⟩:=agJ (m:=m) (val:=Z) (g:=Z.cells) hw (λO=>by
    rw[O]at B;unfold T9 at B;rw[M]at B;simp only[F]at B;cases Z<;>simp[Value.cells]at B |-) (λO=>by
    rw[O]at B;unfold T9 at B;rw[M]at B;simp only[F]at B;cases Z<;>simp[Value.cells]at B |-) (dX m.w m.own)
  refine key Z false Q Y rfl ?_;have T:=UF (P:=P) m.w A hn;rcases mv with⟨ref,clock,n,H⟩|⟨n,H⟩
  .cases ok<;>simp[Instr.lookup,run_underlying N,n,PF H,Pe m.w A D,T,zeroValue,typeInfo,M,F]
  subst H;cases ok<;>simp[Instr.lookup,run_underlying N,n,Pe m.w A D,Instr.findKey,run_underlying A,Instr.findNow,zeroValue,typeInfo,M,F]
 obtain⟨ac,g,CL,R,dX⟩:=fv ab q' v e' H (by simpa using L);obtain⟨Q,Y⟩:=agJ hw CL R dX;refine key e'.val true Q Y rfl ?_;have T:=UF (P:=P) m.w A hn;rcases mv with⟨ref,clock,n,H⟩|⟨n,H⟩
 .cases ok<;>simp[Instr.lookup,run_underlying N,n,PF H,Pe m.w A D,T]
 subst H;simp at L
theorem ajb{t kt e:TypeId}{x k ad:Operand}{ag:Bool}{id:Nat}{D:eE}{ps:b_}{f:Option (Nat×b_)}(A:o.op=.mapUpdate t x k ad\/o.op=.insert t x k ad)(ht:P.underlying t=some (.map kt e))
  (Es:keyOf P kt=some kd) (hx:dA x=some x') (hk:dA k=some k') (hy:dA ad=some y') (hm:ev j x'=.one (.nL id g)) (hb:m.aj id=(g,some (.map ag y))) (ar:ev j k'=.one (.p key)) (yL:kD key=kd)
  (dQ:sH ag (ev j y')=some D) (dX:D3 D=some ps) (hf:xY key y 0=some f):
  iP P w0 a.eval o m .undef [(id,(g,some (.map ag (match f with|some (i,_)=>y.set i (key,ps)|none=>y++[(key,ps)]))))]:=by
 obtain⟨kind,CS,Ge⟩:=ak8 Es;have Q:=gv hx hr;rw[hm]at Q;have N:=congrArg Prod.snd hb;have hg:=congrArg Prod.fst hb;obtain⟨ref,E,clock,EC,bm,Y,hl,fv⟩:=Ns aG Q (.inl hb);subst bm;have PN:=gv hk hr;rw[ar]at PN;obtain⟨X⟩:dU m _ _:=PN;have L:=gv hy hr
 have T:∃M:Array Value,(ag->a.eval ad=.agg M)/\(ag=false-> #[a.eval ad]=M)/\eK m.w m.own ps M.toList:=by
  generalize ev j y'=vy at dQ L;cases ag with
  |true=>
   cases vy<;>simp[sH]at dQ
   subst dQ;obtain⟨arr,H,n⟩:=df.agg.1 L;exact⟨arr,λ_=>H,λh=>(by cases h),Nb dX n⟩
  |false=>
   cases vy<;>simp[sH]at dQ
   subst dQ;refine⟨#[a.eval ad],λh=>(by cases h),λ_=>rfl,Nb dX ⟨rfl,λac x u p q=>?_⟩⟩;rcases ac with _|ac
   .simp at p q;subst p q;exact L
   simp at p
 obtain⟨M,Bp,s0,ab⟩:=T;have aw:=yI Y;have R:∀(F:Array MapEntry) (B:Nat) (O:yJ),(execOp a.eval o).run P m.w=.ok .skip {m.w with heap:=m.w.heap.setIfInBounds (m.σ id) (.map F B)}->Sl m.w m.own ag O F->
   iP P w0 a.eval o m .undef [(id,(g,some (.map ag O)))]:=by
  intro F B O sB TI;have ae:(m.w.heap.setIfInBounds (m.σ id) (.map F B)).size=m.w.heap.size:=aP;have Z:∀c,c≠m.σ id->(m.w.heap.setIfInBounds (m.σ id) (.map F B))[c]?=m.w.heap[c]? :=λc hc=>by rw[OE];rw[aC (λe=>hc e.symm)]
  have ez:h_ m (m.mR {m.w with heap:=m.w.heap.setIfInBounds (m.σ id) (.map F B)} id (.map ag O)):=Ny N rfl rfl rfl rfl rfl ae Z;refine⟨_,m.mR {m.w with heap:=m.w.heap.setIfInBounds (m.σ id) (.map F B)} id (.map ag O),.inr ⟨sB,rfl⟩,UU N rfl aG rfl rfl rfl rfl ae Z ?_,ez,rfl,?_,rfl⟩
  .refine⟨F,B,?_,TI.1,λi q v e H n=>?_⟩
   .show(m.w.heap.setIfInBounds (m.σ id) (.map F B))[m.σ id]?=_;rw[OE,aD rfl,aD aw]
   obtain⟨p1,gg,p2,p3,p4⟩:=TI.2 i q v e H n;exact⟨p1.ev ez.zero,gg,p2,p3,p4.ev ez.zero⟩
  simp only[bJ.mR,app,hg]
 rcases amb (kind:=kind) (by rw[yL];exact Ge) X (l:=E.toList) (by simpa using hl) (λac q v e H n=>(fv ac q v e H (by simpa using n)).1) hf with⟨rfl,hn⟩|⟨ac,q',v,e',rfl,n,h3,h4,hn⟩
 .refine R (E.push {key:=a.eval k,val:=a.eval ad,born:=clock}) (clock+1) _ ?_ ?_
  .have HR:=UF (P:=P) m.w CS hn;rcases A with A|A<;>simp[execOp,A,Instr.mapUpdate,run_underlying ht,EC,PF Y,Pe m.w CS Ge,HR,aiQ Y]
  refine⟨by simp[hl],λi q v e H n=>?_⟩;by_cases hi:i<I y
  .rw[zl hi]at H;rw[QJ,aC J]at n;exact fv i q v e H n
  rw[wY J]at H;have:i=I y:=by
   by_cases h:i-I y=0
   .omega
   have:=(cn.1 H).1;simp at this;omega
  subst this;simp at H;obtain⟨rfl,rfl⟩:=H;rw[QJ,aD hl.symm]at n;cases n;exact⟨X,M,Bp,s0,ab⟩
 have sk:E[ac]?=some e':=by simpa using h3
 have am:e'.key=a.eval k:=ayx h4 X (fv ac q' v e' n sk).1;refine R (E.modify ac λe=>{e with key:=a.eval k,val:=a.eval ad}) clock _ ?_ ?_
 .have HR:=UF (P:=P) m.w CS hn;rw[lq]at HR;have ap:(Instr.keyThatStays e'.key (a.eval k)).run P m.w=.ok (a.eval k) m.w:=by rw[am];exact axb (kind:=kind) (by rw[yL];exact Ge) X
  rcases A with A|A<;>simp[execOp,A,Instr.mapUpdate,run_underlying ht,EC,PF Y,Pe m.w CS Ge,HR,aiQ Y,sk,ap]
 simp only[lq];refine⟨by simp[hl],λi q v e H n=>?_⟩;rw[mT]at H;rw[Array.getElem?_modify]at n;by_cases gI:ac=i
 .subst gI;rw[aD rfl]at H;split at H
  .cases H;simp[sk]at n;subst n;exact⟨X,M,Bp,s0,ab⟩
  cases H
 rw[aC gI]at H;rw[aC gI]at n;exact fv i q v e H n
end
end
theorem akJ{t:TypeId}{b:Bool}(h:Vk P t=some b):(b/\ ∃k,P.underlying t=some (.int k))\/(b=false/\P.underlying t=some .bool):=by
 unfold Vk at h;split at h
 .rename_i k H;cases h;exact .inl ⟨rfl,_,H⟩
 .rename_i H;cases h;exact .inr ⟨rfl,H⟩
 cases h
theorem avT{a b:PV}{r:Bool}(h:uq true a b=some r):∃k x y,a=.int k x/\b=.int k y/\r=(x==y):=by
 cases a<;>cases b<;>simp[uq]at h
 exact⟨_,_,_,rfl,by rw[h.1],h.2.symm⟩
theorem asE{a b:PV}{r:Bool}(h:uq false a b=some r):∃x y,a=.bool x/\b=.bool y/\r=(x==y):=by
 cases a<;>cases b<;>simp[uq]at h
 exact⟨_,_,rfl,rfl,h.symm⟩
theorem ax0{as B:eE}{r:Bool}(h:tv [] as B=some r):r:=by
 cases as<;>cases B<;>simp[tv]at h
 exact h
theorem au9{k:Bool}{g:dS}{as f:eE}{r:Bool}(h:tv (k::g) as f=some r):
  ∃a A b B r0,as=.p a::A/\f=.p b::B/\uq k a b=some r0/\(r0->tv g A B=some r)/\(r0=false->r=false):=by
 cases as with
 |nil=>simp[tv]at h
 |cons x A=>
  cases f with
  |nil=>cases x<;>simp[tv]at h
  |cons y B=>
   cases x<;>cases y<;>simp only[tv]at h<;>try cases h
   rename_i a b;cases H:uq k a b with
   |none=>simp[H]at h
   |some r0=>
    refine⟨a,A,b,B,r0,rfl,rfl,H,λe=>?_,λe=>?_⟩
    .subst e;simpa [H]using h
    subst e;simp[H]at h;exact h
theorem av2{w:World}(d:Nat):∀ {fs:List Field}{u:dS}{k:Nat}{as z:eE}{r:Bool},LB P k fs=some u->tv u as z=some r->
  (∀(j:Nat) (x:dI),as[j]?=some x->∃v,A[k+j]?=some v/\dU m x v)->(∀(j:Nat) (x:dI),z[j]?=some x->∃v,B[k+j]?=some v/\dU m x v)->
  (Op.eqFields (d+1) A B fs).run P w=.ok r w:=by
 intro fs
 induction fs with
 |nil=>intro u k as z r h M _ _;simp[LB]at h;subst h;rw[ax0 M];simp[Op.eqFields,Sem.run_pure]
 |cons f fs ih=>
  intro u k as z r h M ha R;simp only[LB]at h;split at h
  .rename_i b FD T h2;split at h
   .rename_i hc;obtain⟨D,F⟩:=hc;cases h;obtain⟨x,ar,y,br,r0,rfl,rfl,N,ht,h⟩:=au9 M;obtain⟨Z,n,Y⟩:=ha 0 (.p x) rfl;obtain⟨gE,g,Q⟩:=R 0 (.p y) rfl;obtain⟨Y⟩:=Y;obtain⟨Q⟩:=Q;rw[vu]at n g;have O:∀(X:Array Value) (v:Value),X[k]?=some v->(part f.type X f.offset).run P w=.ok v w:=by
     intro X v hX;have Bd:(isAgg f.type).run P w=.ok false w:=by rcases akJ T with⟨_,kk,H⟩|⟨_,H⟩<;>simp[isAgg,run_underlying H]
     rw[D];simp[part,Bd,hX]
    have E:(Op.equalIn (d+1) f.type Z gE).run P w=.ok r0 w:=by
     rcases akJ T with⟨rfl,kk,H⟩|⟨rfl,H⟩
     .obtain⟨k',p,q,rfl,rfl,rfl⟩:=avT N;cases Y;cases Q;simp[Op.equalIn,run_underlying H]
     obtain⟨p,q,rfl,rfl,rfl⟩:=asE N;cases Y;cases Q;simp[Op.equalIn,run_underlying H]
    simp only[Op.eqFields,aD F,Sem.run_bind,O A Z n,O B gE g,E,Result.andThen_ok];cases r0 with
    |false=>rw[h rfl];simp[Sem.run_pure]
    |true=>simp only[BS,eI,if_false];exact ih h2 (ht rfl) (λj x L=>by have:=ha (j+1) x (by simpa using L);rwa[show k+(j+1)=k+1+j by omega]at this) (λj x L=>by have:=R (j+1) x (by simpa using L);rwa[show k+(j+1)=k+1+j by omega]at this)
   cases h
  cases h
def EO:yq->Value->Bool->Prop
 | .ptr,v,b=>∃a,v=.pointer a/\a.isNone=b
 | .slc,v,b=>∃a l c,v=.slice a l c/\a.isNone=b
 | .map,v,b=>∃r,v=.map r/\r.isNone=b
 | .fnc,v,b=>(v=.nilFunc/\b)\/ ∃f x y,v=.func f x y/\b=false
 | .ifc,v,b=>(v=.nilIface/\b)\/ ∃d x,v=.iface d x/\b=false
 |_,_,_=>False
theorem zz{k:yq}{b:Bool}(h:Hr k x=some b)(hr:df m x v):EO k v b:=by
 unfold Hr at h;split at h<;>cases h
 all_goals first
  |(obtain⟨hp⟩:dU m _ v:=hr;cases hp;first
    |exact⟨_,rfl,rfl⟩
    |exact⟨_,_,_,rfl,rfl⟩
    |exact .inl ⟨rfl,rfl⟩
    |exact .inr ⟨_,_,_,rfl,rfl⟩
    |exact .inr ⟨_,_,rfl,rfl⟩)
  |(have H:dU m _ v:=hr;cases H;first
    |exact⟨_,rfl,rfl⟩
    |exact⟨_,_,_,rfl,rfl⟩
    |exact .inr ⟨_,_,_,rfl,rfl⟩)
def W9(P:Program)(t:TypeId):yq->Prop
 | .bool=>P.underlying t=some .bool
 | .ptr=>∃e,P.underlying t=some (.pointer e)
 | .slc=>∃e,P.underlying t=some (.slice e)
 | .map=>∃a b,P.underlying t=some (.map a b)
 | .fnc=>∃a b c,P.underlying t=some (.func a b c)
 | .ifc=>∃a,P.underlying t=some (.interface a)
 | .str f=>∃fs,P.underlying t=some (.struct fs)/\P.stoodInHeld t=false/\P.eqGuardType P.depth t=false/\LB P 0 fs.toList=some f
theorem alG{t:TypeId}{x y:Operand}{k:yq}(h:Pd P t x y=some k):W9 P t k/\(k=.ifc->Km x\/Km y):=by
 unfold Pd at h;split at h
 .rename_i a H;split at h
  .rename_i f;cases h;exact⟨⟨_,H⟩,λ_=>by simpa using f⟩
  cases h
 .rename_i H;cases h;exact⟨H,λe=>by cases e⟩
 .rename_i H;cases h;exact⟨⟨_,H⟩,λe=>by cases e⟩
 .rename_i H;cases h;exact⟨⟨_,H⟩,λe=>by cases e⟩
 .rename_i H;cases h;exact⟨⟨_,_,H⟩,λe=>by cases e⟩
 .rename_i H;cases h;exact⟨⟨_,_,_,H⟩,λe=>by cases e⟩
 .rename_i fs H;split at h
  .rename_i f;simp only[e_]at h;obtain⟨j,g,rfl⟩:=h;simp at f;exact⟨⟨fs,H,f.1,f.2,g⟩,λe=>by cases e⟩
  cases h
 cases h
theorem aeQ{t:TypeId}{k:yq}{u:Value}{a b:Bool}(w:World)(j:W9 P t k)(H:EO k v a)(g:EO k u b)(f:a\/b)(d:Nat):(Op.equalIn (d+1) t v u).run P w=.ok (a&&b) w:=by
 cases k with
 |bool=>exact H.elim
 |str n=>exact H.elim
 |ptr=>obtain⟨e,h⟩:=j;obtain⟨x,rfl,rfl⟩:=H;obtain⟨y,rfl,rfl⟩:=g;cases x<;>cases y<;>simp at f<;>simp[Op.equalIn,run_underlying h]
 |slc=>obtain⟨e,h⟩:=j;obtain⟨x,_,_,rfl,rfl⟩:=H;obtain⟨y,_,_,rfl,rfl⟩:=g;cases x<;>cases y<;>simp at f<;>simp[Op.equalIn,run_underlying h]
 |map=>obtain⟨e,e',h⟩:=j;obtain⟨x,rfl,rfl⟩:=H;obtain⟨y,rfl,rfl⟩:=g;cases x<;>cases y<;>simp at f<;>simp[Op.equalIn,run_underlying h]
 |fnc=>obtain⟨e,e',E,h⟩:=j;rcases H with⟨rfl,rfl⟩|⟨_,_,_,rfl,rfl⟩<;>rcases g with⟨rfl,rfl⟩|⟨_,_,_,rfl,rfl⟩<;>simp at f<;>simp[Op.equalIn,run_underlying h]
 |ifc=>obtain⟨e,h⟩:=j;rcases H with⟨rfl,rfl⟩|⟨_,_,rfl,rfl⟩<;>rcases g with⟨rfl,rfl⟩|⟨_,_,rfl,rfl⟩<;>simp at f<;>simp[Op.equalIn,run_underlying h]
section
variable {m:bJ} {j:ct} {a:Act} {o:Oper} (aG:dZ w0 m) (hr:lI m j a.tmps)
include aG hr
theorem ayr{t:TypeId}{k:yq}{y:V}{u:Value}{b:Bool}(f:W9 P t k)(h:FA k x y=some b)(H:df m x v)(n:df m y u)(d:Nat):(Op.equalIn (d+2) t v u).run P m.w=.ok b m.w:=by
 have O:=aG;have M:=hr;unfold FA at h;split at h
 .cases h;rw[GH H,GH n];have f:P.underlying t=some .bool:=f;simp only[Op.equalIn,Sem.run_bind,run_underlying f,Result.andThen_ok,Sem.run_pure]
 .obtain⟨A,rfl,E⟩:=df.agg.1 H;obtain⟨B,rfl,D⟩:=df.agg.1 n;obtain⟨fs,z,ae,_,F⟩:=f;have CK:P.fieldsOf t=fs:=by simp[Program.fieldsOf,z]
  rw[run_equalIn_agg m.w (d+1) t A B (by rw[CK];exact z) ae,CK];refine av2 (w:=m.w) (m:=m) d F h (λj x H=>?_) (λj x H=>?_)
  .have g:j<A.size:=by have:=E.1;simp at this;rw[this];exact(cn.1 H).1
   exact⟨A[j],by simp[g],E.2 j x _ H (by simp[g])⟩
  have g:j<B.size:=by have:=D.1;simp at this;rw[this];exact(cn.1 H).1
  exact⟨B[j],by simp[g],D.2 j x _ H (by simp[g])⟩
 .cases h
 .cases h
 split at h
 .rename_i L;have:=aeQ (P:=P) m.w f (zz h H) (zz L n) (.inr rfl) (d+1)
  simpa using this
 split at h
 .rename_i N;have:=aeQ (P:=P) m.w f (zz N H) (zz h n) (.inl rfl) (d+1)
  simpa using this
 cases h
theorem apC{op:BinOp}{t:TypeId}{k:yq}{x y:Operand}{b:Bool}(M:Pd P t x y=some k)(T:dA x=some x')(R:dA y=some y')(h:FA k (ev j x') (ev j y')=some b):
  (eqGuard op t x y (a.eval x) (a.eval y)).run P m.w=.ok () m.w:=by
 have O:=aG;obtain⟨F,Q⟩:=alG M;have H:=gv T hr;have u:=gv R hr;by_cases f:op=.eql\/op=.neq
 .unfold FA at h;split at h
  .rename_i E z;rw[E]at H;rw[GH H,eqGuard_at_bool];rfl
  .rename_i E z;rw[E]at H;rw[z]at u;obtain⟨A,Y,_⟩:=df.agg.1 H;obtain⟨B,e4,_⟩:=df.agg.1 u;obtain⟨fs,_,_,L,_⟩:=F;rw[Y,e4];exact run_eqGuard_agg m.w op t x y A B L
  .cases h
  .cases h
  rename_i k q1 q2 q3 q4 q5 q6 q7;have X:∃v b2,EO k (a.eval x) v/\EO k (a.eval y) b2:=by
   split at h
   .rename_i D;exact⟨_,_,zz h H,zz D u⟩
   split at h
   .rename_i Z;exact⟨_,_,zz Z H,zz h u⟩
   cases h
  obtain⟨v,b2,N,n2⟩:=X;cases k with
  |bool=>exact N.elim
  |str n=>exact N.elim
  |ptr=>obtain⟨q,e,_⟩:=N;rw[e,eqGuard_at_pointer];rfl
  |slc=>obtain⟨q,_,_,e,_⟩:=N;rw[e,eqGuard_at_slice];rfl
  |map=>obtain⟨q,e,_⟩:=N;rw[e,eqGuard_at_map];rfl
  |fnc=>
   rcases N with⟨e,_⟩|⟨_,_,_,e,_⟩
   .rw[e,eqGuard_at_nilFunc];rfl
   rw[e,eqGuard_at_func];rfl
  |ifc=>
   rcases N with⟨e,_⟩|⟨_,_,e,_⟩
   .rcases n2 with⟨e',_⟩|⟨_,_,e',_⟩
    .rw[e,e'];have g:(∃c,x=.const c)\/ ∃c,y=.const c:=by
      rcases Q rfl with g|g
      .cases x<;>simp[Km]at g
       exact .inl ⟨_,rfl⟩
      cases y<;>simp[Km]at g
      exact .inr ⟨_,rfl⟩
     rcases g with⟨c,rfl⟩|⟨c,rfl⟩
     .rw[eqGuard_nil_constL];rfl
     rw[eqGuard_nil_constR];rfl
    rw[e,e',eqGuard_nil_iface];rfl
   rw[e,eqGuard_at_iface];rfl
 have:eqGuard op t x y (a.eval x) (a.eval y)=pure ():=by
  cases op<;>first
   |rfl
   |exact(f (.inl rfl)).elim
   |exact(f (.inr rfl)).elim
 rw[this];rfl
theorem ax1{t:TypeId}{k:yq}{u:Value}{B:Bool}(ae:(∃p q,v=.bool p/\u=.bool q)\/(∃p q,v=.agg p/\u=.agg q)\/ ∃p q,EO k v p/\EO k u q)(h:(Op.equalIn (9998+2) t v u).run P m.w=.ok B m.w):
  (binOp .eql t v u).run P m.w=.ok (.bool B) m.w/\(binOp .neq t v u).run P m.w=.ok (.bool (!B)) m.w:=by
 have x:=aG;have g:=hr;have j:Op.equal t v u=Op.equalIn (9998+2) t v u:=rfl;have key:binOp .eql t v u=(do pure (.bool (<-Op.equal t v u)))/\binOp .neq t v u=(do pure (.bool (!(<-Op.equal t v u)))):=by
  rcases ae with⟨p,q,rfl,rfl⟩|⟨p,q,rfl,rfl⟩|⟨p,q,H,f⟩
  .exact⟨rfl,rfl⟩
  .exact⟨rfl,rfl⟩
  cases k with
  |bool=>exact H.elim
  |str n=>exact H.elim
  |ptr=>obtain⟨_,rfl,_⟩:=H;obtain⟨_,rfl,_⟩:=f;exact⟨rfl,rfl⟩
  |slc=>obtain⟨_,_,_,rfl,_⟩:=H;obtain⟨_,_,_,rfl,_⟩:=f;exact⟨rfl,rfl⟩
  |map=>obtain⟨_,rfl,_⟩:=H;obtain⟨_,rfl,_⟩:=f;exact⟨rfl,rfl⟩
  |fnc=>rcases H with⟨rfl,_⟩|⟨_,_,_,rfl,_⟩<;>rcases f with⟨rfl,_⟩|⟨_,_,_,rfl,_⟩<;>exact⟨rfl,rfl⟩
  |ifc=>rcases H with⟨rfl,_⟩|⟨_,_,rfl,_⟩<;>rcases f with⟨rfl,_⟩|⟨_,_,rfl,_⟩<;>exact⟨rfl,rfl⟩
 rw[key.1,key.2,j];simp only[Sem.run_bind,h,Result.andThen_ok,Sem.run_pure,and_self]
theorem ajj{op:BinOp}{t T:TypeId}{x y:Operand}{k:yq}{n b:Bool}(v:o.op=.binOp op t x y T)(g:(op=.eql/\n=false)\/(op=.neq/\n))(L:Pd P t x y=some k)(F:dA x=some x')(z:dA y=some y')
  (h:FA k (ev j x') (ev j y')=some b):iP P w0 a.eval o m (.one (.p (.bool (if n then !b else b)))) []:=by
 have f:=gv F hr;have H:=gv z hr;have D:=apC aG hr (op:=op) L F z h;have O:=ayr aG hr (alG L).1 h f H 9998;have ae:(∃p q,a.eval x=.bool p/\a.eval y=.bool q)\/(∃p q,a.eval x=.agg p/\a.eval y=.agg q)\/ ∃p q,EO k (a.eval x) p/\EO k (a.eval y) q:=by
  unfold FA at h;split at h
  .rename_i E u;rw[E]at f;rw[u]at H;exact .inl ⟨_,_,GH f,GH H⟩
  .rename_i E u;rw[E]at f;rw[u]at H;obtain⟨A,N,_⟩:=df.agg.1 f;obtain⟨B,X,_⟩:=df.agg.1 H;exact .inr (.inl ⟨A,B,N,X⟩)
  .cases h
  .cases h
  split at h
  .rename_i M;exact .inr (.inr ⟨_,_,zz h f,zz M H⟩)
  split at h
  .rename_i Q;exact .inr (.inr ⟨_,_,zz Q f,zz h H⟩)
  cases h
 obtain⟨r1,R⟩:=ax1 aG hr ae O;rcases g with⟨rfl,rfl⟩|⟨rfl,rfl⟩
 .exact .calm aG (by simp[execOp,v,D,r1]) (p_ (.bool _))
 exact .calm aG (by simp[execOp,v,D,R]) (p_ (.bool _))
end
theorem aBB:∀ {y:q_}{B:List UInt8},KY y=some B->∃N:dd,y.flatten=N.map (PV.int .u8)/\B=N.map (λn=>UInt8.ofNat n.toNat)/\I N=I y:=by
 intro y
 induction y with
 |nil=>intro B h;simp[KY]at h;exact⟨[],rfl,h,rfl⟩
 |cons e r j=>
  intro B h;unfold KY at h;split at h
  .rename_i e';cases e'
  .rename_i n R e';cases e';simp only[e_]at h;obtain⟨q,g,rfl⟩:=h;obtain⟨N,m,H,f⟩:=j g;exact⟨n::N,by simp[m],by simp[H],by simp[f]⟩
  cases h
theorem awy{w:World}{own:Nat->Prop}:∀ {N:dd}{h:List Value},Pw (dn w own) (N.map (PV.int .u8)) h->h=N.map (Value.int .u8):=by
 intro N
 induction N with
 |nil=>intro h H;have:=H.1;simp at this;simp[this]
 |cons n N g=>
  intro h H;cases h with
  |nil=>have:=H.1;simp at this
  |cons v h=>have f:=H.2 0 _ v rfl rfl;cases f;rw[g (h:=h) ⟨by have:=H.1;simpa using this,λj x u a b=>H.2 (j+1) x u (by simpa using a) (by simpa using b)⟩];rfl
theorem ar9:∀(N:dd) (s:ByteArray),N.foldl (λr n=>r.push (UInt8.ofNat n.toNat)) s=⟨s.data++(N.map (λn=>UInt8.ofNat n.toNat)).toArray⟩:=by
 intro N
 induction N with
 |nil=>intro s;cases s;simp
 |cons n N f=>intro s;simp only[sh,eJ];rw[f];cases s;simp[ByteArray.push]
section
variable {m:bJ} {j:ct} {a:Act} {o:Oper} (aG:dZ w0 m) (hr:lI m j a.tmps)
include aG hr
theorem awY{s d e:TypeId}{x:Operand}{y:q_}{r:aF}{B:List UInt8}(T:o.op=.convert s d x)(ae:P.underlying s=some (.slice e))(he:P.underlying e=some (.int .u8))(E:P.underlying d=some .string)
  (X:dA x=some x') (eh:js m.aj (ev j x')=some (y,r,[])) (M:KY y=some B):iP P w0 a.eval o m (.one (.p (.str ⟨B.toArray⟩))) []:=by
 obtain⟨N,Q,H,z⟩:=aBB M;obtain⟨ax,f,L,_,F⟩:=aex (own:=m.own) aG eh (gv X hr) ⟨λ_ h=>h,λ_ h=>by simp at h⟩;refine .calm aG (x:=.string ⟨B.toArray⟩) ?_ (p_ (.str _));have key:(Conv.bytesToString (.slice ax (I y) f)).run P m.w=.ok (.string ⟨B.toArray⟩) m.w:=by
  by_cases u:y=[]
  .subst u;have:N=[]:=by simpa using z
   subst this;have fX:B=[]:=by simpa using H
   subst fX;cases ax with
   |none=>simp[Conv.bytesToString,Sem.run_pure];rfl
   |some R=>have:=run_bytesToString (P:=P) m.w R 0 f [] (by simp[loadCells,loadCellsFrom,Sem.run_pure]);exact this
  obtain⟨b,O,n,rfl,g,Y⟩:=F u;rw[Q]at g;have D:=awy g;have hl:I n=I y:=by rw[D];simpa using z
  have A:(loadCells ⟨b,O,none⟩ (I y)).run P m.w=.ok (N.map (Value.int .u8)).toArray m.w:=by rw[<-hl,<-D];exact run_loadCells_list m.w ⟨b,O,none⟩ n λab v Z=>by rw[Addr.add_lit];exact Y ab v Z
  rw[run_bytesToString m.w _ _ f N A,ar9,H];simp[ByteArray.empty,ByteArray.emptyWithCapacity];rfl
 simp only[execOp,T,L,Sem.run_bind,run_convert_bytes_string m.w s d e ax (I y) f ae he E,key,Result.andThen_ok,Sem.run_pure]
end
theorem WC{M:Array Operand}{a:fu}(h:r8 M.toList=some [a]):∃x,M= #[x]/\dA x=some a:=by
 obtain⟨M⟩:=M;cases M with
 |nil=>simp[r8]at h
 |cons x r=>
  simp only[r8]at h;split at h
  .rename_i y ys f E;cases h;cases r with
   |nil=>exact⟨x,rfl,f⟩
   |cons z r=>simp only[r8]at E;split at E<;>simp at E
  cases h
theorem ado{M:Array Operand}{a b:fu}(h:r8 M.toList=some [a,b]):∃x y,M= #[x,y]/\dA x=some a/\dA y=some b:=by
 obtain⟨M⟩:=M;cases M with
 |nil=>simp[r8]at h
 |cons x r=>
  simp only[r8]at h;split at h
  .rename_i y ys E f;cases h;obtain⟨z,H,A⟩:=WC (M:=r.toArray) (by simpa using f);have:r=[z]:=by simpa using congrArg Array.toList H
   subst this;exact⟨x,z,rfl,E,A⟩
  cases h
theorem arF{M:Array TypeId}{t u:TypeId}(H:M[0]?=some t)(h:M[1]?=some u)(ae:M.size=2):M= #[t,u]:=by
 obtain⟨M⟩:=M
 match M,ae with
 |[a,b],_=>simp at H h;subst H h;rfl
theorem as1{α:Type}{y ys:List (List α)}{O:Nat}(h:∀e∈y,I e=sz)(j:∀e∈ys,I e=sz)(hl:O+I ys<=I y):(gn y O ys).flatten=gn y.flatten (O*sz) ys.flatten:=by
 have H:∀k,k<=I y->(y.take k).flatten.length=k*sz:=λk f=>by rw[MC λe g=>h e (wu g),gX,vm f]
 have E:y.flatten=(y.take O).flatten++(y.drop O).flatten:=by rw[<-EP,nu]
 have m:y.flatten=(y.take (O+I ys)).flatten++(y.drop (O+I ys)).flatten:=by rw[<-EP,nu]
 unfold gn;rw[EP,EP,MC j];congr 1
 .congr 1
  conv=>rhs;rw[E]
  rw[List.take_left' (H O J)]
 rw[<-kG]
 conv=>rhs;rw[m]
 rw[List.drop_left' (H _ hl)]
theorem atl{R:PV->Value->Prop}{v:Array Value}(B:Pw R z v.toList):Pw R (List.replicate n z).flatten (Builtin.zeroCells v n).toList:=by
 have D:I z=v.size:=by have:=B.1;simp at this;omega
 have E:∀e∈List.replicate n z,I e=v.size:=λe m=>by rw[QE m];exact D
 have f:(Builtin.zeroCells v n).toList.length=n*v.size:=by simp[size_zeroCells]
 refine⟨by rw[f,MC E];simp,λj x u p q=>?_⟩;have g:j<n*v.size:=by have:=(cn.1 q).1;omega
 have y:0<v.size:=by
  rcases Nat.eq_zero_or_pos v.size with h|h
  .rw[h]at g;omega
  exact h
 have H:j/v.size<n:=by rw[Nat.div_lt_iff_lt_mul y];exact g
 have T:j%v.size<v.size:=fk _ y;have m:(List.replicate n z)[j/v.size]?=some z:=by simp[H]
 have A:=Jc E m T;rw[show j/v.size*v.size+j%v.size=j by rw[Nl];exact We j v.size]at A;rw[A]at p;have F:(Builtin.zeroCells v n).toList[j]?=some v[j%v.size]! :=by unfold Builtin.zeroCells;simp[g]
 rw[F]at q;cases q;refine B.2 (j%v.size) x _ p ?_;simp[T]
section
variable {m:bJ} {j:ct} {a:Act} {o:Oper} (aG:dZ w0 m) (hr:lI m j a.tmps)
include aG hr
theorem apM{c:Call}{x:Operand}{t e:TypeId}{bytes:Nat}{v:V}{rd:aF}(ho:o.op=.call c)(hc:c.callee=.builtin .clear)(av:c.args= #[x])(X:c.argTypes[0]?=some t)
  (he:DA P t=some (e,sz,bytes,z)) (hx:dA x=some x') (hp:c5 E j m.aj (.clear z x')=.done v u rd):iP P w0 a.eval o m v u:=by
 obtain⟨i,zv,R,hi,ae,hb,⟨jS,Pr⟩,CQ,Kc,s8,dX⟩:=RB he;have n:=gv hx hr;have run:∀(aM:Value) (w':World),(Builtin.clear_ c.argTypes o.type #[a.eval x]).run P m.w=.ok aM w'->(execOp a.eval o).run P m.w=.ok (.value aM) w':=by intro aM w' h;simp[execOp,ho,resolve,hc,av,invoke,builtin,h]
 have Q:(Builtin.clear_ c.argTypes o.type #[a.eval x]).run P m.w=.ok (.tuple #[]) m.w->iP P w0 a.eval o m (.tup []) []:=λh=>
  ⟨.tuple #[],m,.inl (run _ _ h),aG,h_.refl _,rfl,rfl,(⟨#[],rfl,rfl,λaz x u h=>by simp at h⟩:df m (.tup []) _)⟩
 simp only[c5]at hp;split at hp
 .rename_i D;cases hp;rw[D]at n;have n:dU m _ (a.eval x):=n;generalize Y:a.eval x=b at n;rw[Y]at Q;apply Q;cases n with
  |p h=>cases h;simp[Builtin.clear_,X,run_underlying R]
 .rename_i D;cases hp;rw[D]at n;have n:dU m _ (a.eval x):=n;generalize Y:a.eval x=b at n;rw[Y]at Q;apply Q;cases n with
  |p h=>
   cases h with
   |BO a ab hn hm=>cases a<;>simp[Builtin.clear_,X,run_underlying R]
   |sl b o ab sz f h1 h2 h3 h4=>simp[Builtin.clear_,X,run_underlying R]
 .rename_i id g w O len D;rw[D]at n;have n:dU m _ (a.eval x):=n;generalize Y:a.eval x=b at n;rw[Y]at Q run;cases n with
  |hsl ad ab hg hl hm M=>
   split at hp
   .rename_i h0;cases hp;subst h0;apply Q;simp[Builtin.clear_,X,run_underlying R]
   rename_i h0;split at hp
   .rename_i g' T F y nI;split at hp
    .rename_i CG;obtain⟨lB,dj,H⟩:=CG;cases hp;have aW:(m.aj id).2=some (.arr T F y):=by rw[nI]
     obtain⟨_,M,_⟩:=M F (by rw[nI];exact lB) (by rw[nI];rfl);have M:=M (.inr J);subst M;obtain⟨A,hh,sC,vX,jY,sx,ap,TY⟩:=aG.obj id _ aW;have N:∀e∈List.replicate len z,I e=F:=λe he=>by rw[QE he];exact dj.symm
     have am:zv.cells.size=F:=by rw[Kc,<-s8,dj]
     have Mx:I (List.replicate len z)=len:=TH;have xK:=as1 (O:=O) vX N (by rw[Mx];exact H);have lZ:(O+len)*F<=I y*F:=pP _ H;have aO:I y*F<=m.κ id*F:=pP _ jY;rw[kG]at lZ;generalize hZ:(Builtin.zeroCells zv.cells len).toList=Z;have ar:I Z=len*F:=by rw[<-hZ];simp[size_zeroCells,am]
     have L:∀w own,eK w own (List.replicate len z).flatten Z:=λw own=>eK.pw.2 (by rw[<-hZ];exact atl (eK.pw.1 (dX w own)));have TW:∀v∈Z,v.oneCell':=λv D=>by
      obtain⟨az,hj⟩:=j9 D;have aw:az<(List.replicate len z).flatten.length:=by rw[<- (L m.w m.own).1];exact(cn.1 hj).1
      exact((L m.w m.own).2 az _ v (ue aw) hj).QT
     have HQ:O*F+0+I Z<=A.size:=by rw[ar,ap];omega
     have cV:=run_storeCells_at P (m.σ id) (O*F) T Z 0 A m.w hh HQ TW;simp only[vu]at cV;generalize B:m.w.setRow (m.σ id) (A.toList.take (O*F)++Z++A.toList.drop (O*F+I Z)).toArray=ch at cV;have HL:ch.heap.size=m.w.heap.size:=by rw[<-B];simp
     have HK:∀c,c≠m.σ id->ch.heap[c]?=m.w.heap[c]? :=λc hc=>by rw[<-B];exact setRow_other m.w (m.σ id) c _ hc
     have ac:I (gn y O (List.replicate len z))=I y:=RP (by rw[Mx];exact H);have ez:=Ny (L:=ch) (o:=.arr T F (gn y O (List.replicate len z))) aW rfl (by simp[nH]) (by rw[<-B];rfl) (by rw[<-B];rfl) (by rw[<-B];rfl) HL HK;have Gj:uF (m.mR ch id (.arr T F (gn y O (List.replicate len z)))) id (.arr T F (gn y O (List.replicate len z))):=by
      refine⟨_,by rw[<-B];exact Q8 hh,sC,?_,by rw[ac];exact jY,sx,?_,?_⟩
      .intro e' qA;unfold gn at qA;simp only[iW]at qA;rcases qA with(h|h)|h
       .exact vX e' (wu h)
       .exact N e' h
       exact vX e' (v7 h)
      .simp[bJ.mR];omega
      rw[ac,xK];have h1:=(eK.pw.1 (TY.ev ez.zero)).gn (eK.pw.1 (L (m.mR ch id (.arr T F (gn y O (List.replicate len z)))).w (m.mR ch id (.arr T F (gn y O (List.replicate len z)))).own)) (O*F);rw[<-ann J (by simp;omega)]at h1;have h1:=eK.pw.2 h1
      simpa [gn]using h1
     refine⟨.tuple #[],m.mR ch id (.arr T F (gn y O (List.replicate len z))),.inl (run _ _ ?_),UU aW rfl aG (by simp[nH]) (by rw[<-B];rfl) (by rw[<-B];rfl) (by rw[<-B];rfl) HL HK Gj,ez,rfl,?_,(⟨#[],rfl,rfl,λaz x u h=>by simp at h⟩:df _ (.tup []) _)⟩
     .obtain⟨k,rfl⟩:∃k,len=k+1:=⟨len-1,J⟩;simp[Builtin.clear_,X,run_underlying R,zeroValue,typeInfo,hi,CQ,hZ,cV,bJ.mR]
     simp[bJ.mR,app,nI,lB]
    cases hp
   cases hp
 cases hp
end
section
variable {m:bJ} {j:ct} {a:Act} {o:Oper} (aG:dZ w0 m) (hr:lI m j a.tmps)
include aG hr
theorem adV{t M e:TypeId}{x k Y:Operand}{v:V}{rd:aF}(H:o.op=.mapUpdate t x k Y\/o.op=.insert t x k Y)(A:P.underlying t=some (.map M e))
  (F:keyOf P M=some kd) (B:dA x=some x') (L:dA k=some k') (n:dA Y=some y') (hp:c5 E j m.aj (.mupd kd ag x' k' y')=.done v u rd):iP P w0 a.eval o m v u:=by
 simp only[c5]at hp;split at hp
 .rename_i id g q D N z O;split at hp
  .rename_i Z X y ps R f;split at hp
   .rename_i T;obtain⟨rfl,rfl,Q⟩:=T;split at hp
    .rename_i i w h;cases hp;exact ajb aG hr H A F B L n N R z Q O f h
    .rename_i h;cases hp;exact ajb aG hr H A F B L n N R z Q O f h
    cases hp
   cases hp
  cases hp
 cases hp
theorem aB3{p:sR}{v:V}{rd:aF}(H:Iw P site o=some p)(hp:c5 E j m.aj p=.done v u rd):iP P w0 a.eval o m v u:=by
 unfold Iw at H;split at H
 ·
  rename_i x A;simp only[e_]at H;obtain⟨Y,g,rfl⟩:=H;cases hp;exact anJ aG hr (.inl A) g
 ·
  rename_i x A;simp only[e_]at H;obtain⟨Y,g,rfl⟩:=H;cases hp;exact anJ aG hr (.inr A) g
 ·
  rename_i c x Y A;split at H
  .rename_i c' x' y' g B F;cases H;simp only[c5]at hp;split at hp
   .rename_i t N;cases hp;exact asD aG hr A g B F N
   cases hp
  cases H
 ·
  rename_i t A;simp only[e_]at H;obtain⟨z,g,rfl⟩:=H;cases hp;exact axj aG A g
 ·
  rename_i t x A;simp only[e_]at H;obtain⟨z,g,rfl⟩:=H;simp only[c5]at hp;split at hp
  .rename_i D dQ;cases hp;exact aoU aG hr A g dQ
  cases hp
 ·
  rename_i t ps A;split at H
  .rename_i fs z g B;split at H
   .rename_i ef;simp only[e_]at H;obtain⟨qs,F,rfl⟩:=H;simp only[c5]at hp;split at hp
    .rename_i rs Gn;cases hp;exact aAp aG hr A g B ef F Gn
    cases hp
   cases H
  .rename_i n e z g B;split at H
   .rename_i i hi;simp only[e_]at H;obtain⟨qs,F,rfl⟩:=H;simp only[c5]at hp;split at hp
    .rename_i rs Gn;cases hp;exact azE aG hr A g B hi F Gn
    cases hp
   cases H
  cases H
 ·
  rename_i t n ps A;split at H
  .rename_i e sz bytes z as g B;split at H
   .rename_i T;cases H;simp only[c5]at hp;split at hp
    .rename_i y mv;obtain⟨g1,g2⟩:=aDB (s:=site) aG hr A g B T.1 T.2 mv;split at hp
     .rename_i qs ad;cases hp;exact g1 qs ad
     cases hp;exact g2
    cases hp
   cases H
  cases H
 ·
  rename_i t x A;split at H
  .rename_i k Y g B;cases H;simp only[c5]at hp;split at hp
   .rename_i D r dQ;split at hp
    .rename_i v' Z;cases hp;exact aB0 aG hr A g B dQ Z
    cases hp
   cases hp
  cases H
 ·
  rename_i t x Y A;split at H
  .rename_i n x' y' g B F;cases H;simp only[c5]at hp;split at hp
   .rename_i D dQ;exact aC3 aG hr A g B F dQ hp
   cases hp
  cases H
 ·
  rename_i x A;simp only[e_]at H;obtain⟨Y,g,rfl⟩:=H;have O:u=[]/\rd=[]:=by simp only[c5]at hp;split at hp<;>cases hp<;>exact⟨rfl,rfl⟩
  obtain⟨rfl,rfl⟩:=O;exact aDr aG hr A g hp
 ·
  rename_i op t x Y ty A;split at H
  .rename_i x' y' g B;have ac:∀(ab:BinOp),p=.bin ab x' y'->ab=op->iP P w0 a.eval o m v u:=by
    intro ab M L;subst M L;simp only[c5]at hp;split at hp
    .rename_i v' Z;cases hp;exact avH aG hr A g B Z
    cases hp
   split at H
   .cases H;exact ac _ rfl rfl
   .cases H;exact ac _ rfl rfl
   split at H
   .rename_i k hk;cases H;simp only[c5]at hp;split at hp
    .rename_i b hb;cases hp;exact ajj aG hr (n:=false) A (.inl ⟨rfl,rfl⟩) hk g B hb
    cases hp
   .rename_i k hk;cases H;simp only[c5]at hp;split at hp
    .rename_i b hb;cases hp;exact ajj aG hr (n:=true) A (.inr ⟨rfl,rfl⟩) hk g B hb
    cases hp
   cases H
  cases H
 ·
  rename_i op t x A;split at H
  .simp only[e_]at H;obtain⟨Y,g,rfl⟩:=H;simp only[c5]at hp;split at hp
   .rename_i b M L;cases hp;exact apQ aG hr A g L
   .rename_i M L;cases M
   cases hp
  .simp only[e_]at H;obtain⟨Y,g,rfl⟩:=H;simp only[c5]at hp;split at hp
   .rename_i M L;cases M
   .rename_i k n M L;cases hp;exact ayl aG hr A g L
   cases hp
  cases H
 ·
  rename_i s d x A;split at H
  .rename_i ks k Y g B F;cases H;simp only[c5]at hp;split at hp
   .rename_i k0 n hn;cases hp;exact ar6 aG hr A g B F hn
   cases hp
  .rename_i e Y g B F;split at H
   .rename_i he;cases H;simp only[c5]at hp;split at hp
    .rename_i y r mv;split at hp
     .rename_i bs sX;cases hp;exact awY aG hr A g he B F mv sX
     cases hp
    cases hp
   cases H
  cases H
 ·
  rename_i f x Y A;split at H
  .rename_i x' y' g B;cases H;simp only[c5]at hp;split at hp
   .rename_i D ds M L;cases hp;exact aw2 aG hr A g B M L
   cases hp
  cases H
 ·
  rename_i t A;split at H
  .simp only[e_]at H;obtain⟨k,g,rfl⟩:=H;cases hp;exact aCW (f:=t) (t:=t) (e:=t) aG A
  cases H
 ·
  rename_i t l c A;split at H
  .rename_i e sz bytes z l' c' g B F;cases H;simp only[c5]at hp;split at hp
   .rename_i n n' M L;split at hp
    .rename_i T;obtain⟨rfl,nY⟩:=T;cases hp;exact azV aG hr A g B F M L nY
    cases hp
   cases hp
  cases H
 ·
  rename_i t x lo hi A;split at H
  .rename_i x' Gu CO g B F;split at H
   .rename_i e N;simp only[e_]at H;obtain⟨sz,X,rfl⟩:=H;simp only[c5]at hp;split at hp
    .rename_i n hn;split at hp
     .rename_i l am M L;have O:u=[]/\rd=[]:=by
       unfold Gs at hp;repeat' split at hp
       all_goals first
        |cases hp
        |skip
       all_goals exact⟨rfl,rfl⟩
      obtain⟨rfl,rfl⟩:=O;exact aAY aG hr A N X g B F hn M L hp
     cases hp
    cases hp
   .rename_i N;cases H;simp only[c5]at hp;split at hp
    .rename_i s ae;split at hp
     .rename_i l am M L;split at hp
      .rename_i T;cases hp;exact aAy aG hr A N g B F ae M L T.1 T.2
      cases hp
     cases hp
    cases hp
   cases H
  cases H
 ·
  rename_i s x f A;split at H
  .rename_i fs Y g B;split at H
   .rename_i d hd;split at H
    .rename_i hz;cases H;have O:u=[]/\rd=[]:=by
      simp only[c5]at hp;split at hp<;>cases hp<;>exact⟨rfl,rfl⟩
     obtain⟨rfl,rfl⟩:=O;exact arN aG hr A g hd hz B hp
    cases H
   cases H
  cases H
 ·
  rename_i t x f A;split at H
  .rename_i fs Y g B;split at H
   .rename_i d hd;simp only[e_]at H;obtain⟨k,F,rfl⟩:=H;simp only[c5]at hp;split at hp
    .rename_i D dQ;split at hp
     .rename_i v' Z;cases hp;exact avm aG hr A g hd F B dQ Z
     cases hp
    cases hp
   cases H
  cases H
 ·
  rename_i t x i A;split at H
  .rename_i x' i' g B;split at H
   .rename_i e N;simp only[e_]at H;obtain⟨sz,F,rfl⟩:=H;have O:u=[]/\rd=[]:=by
     simp only[c5]at hp;repeat' split at hp
     all_goals first
      |cases hp
      |skip
     all_goals exact⟨rfl,rfl⟩
    obtain⟨rfl,rfl⟩:=O;exact aBn aG hr A N F g B hp
   .rename_i n e N;simp only[e_]at H;obtain⟨sz,F,rfl⟩:=H;have O:u=[]/\rd=[]:=by
     simp only[c5]at hp;repeat' split at hp
     all_goals first
      |cases hp
      |skip
     all_goals exact⟨rfl,rfl⟩
    obtain⟨rfl,rfl⟩:=O;exact awf aG hr A N F g B hp
   cases H
  cases H
 ·
  rename_i t x i A;split at H
  .rename_i x' i' g B;split at H
   .rename_i n e N;split at H
    .rename_i sz k F X;cases H;simp only[c5]at hp;split at hp
     .rename_i n' D M L;split at hp
      .rename_i aw;split at hp
       .rename_i v' Z;cases hp;exact aon aG hr A N F X g B M aw L Z
       cases hp
      cases hp
     cases hp
    cases H
   .rename_i N;cases H;simp only[c5]at hp;split at hp
    .rename_i n s M L;split at hp
     .rename_i b hb;cases hp;exact aBe aG hr A N g B M L hb
     cases hp
    cases hp
   cases H
  cases H
 ·
  rename_i t x k ok A;split at H
  .rename_i kt e x' k' g B F;split at H
   .rename_i z q X h5;split at H
    .rename_i kd h6;split at H
     .rename_i h7;cases H;simp only[c5]at hp;split at hp
      .rename_i y r key M L;split at hp
       .cases hp
       rename_i Es;split at hp
       .rename_i f hf;split at hp
        .rename_i w hw;cases hp;exact awu aG hr A g X h6 h7 B F M L (Classical.not_not.1 Es) hf hw
        cases hp
       cases hp
      cases hp
     cases H
    cases H
   cases H
  cases H
 ·
  rename_i t x k Y A;split at H
  .rename_i kt e x' k' y' g B F X;split at H
   .rename_i q h5;simp only[e_]at H;obtain⟨kd,h6,rfl⟩:=H;exact adV aG hr (.inl A) g h6 B F X hp
   cases H
  cases H
 ·
  rename_i t x k Y A;split at H
  .rename_i kt e x' k' y' g B F X;split at H
   .rename_i q h5;simp only[e_]at H;obtain⟨kd,h6,rfl⟩:=H;exact adV aG hr (.inr A) g h6 B F X hp
   cases H
  cases H
 ·
  rename_i x i A;simp only[e_]at H;obtain⟨Y,g,rfl⟩:=H;simp only[c5]at hp;split at hp
  .rename_i h ve;split at hp
   .rename_i v' Z;cases hp;exact apo aG hr A g ve Z
   cases hp
  cases hp
 ·
  rename_i c A;split at H
  .rename_i f as g B;simp only[e_]at H;obtain⟨Y,F,rfl⟩:=H;simp only[c5]at hp;repeat' split at hp
   all_goals cases hp
  .rename_i x g B;obtain⟨x0,Q,R⟩:=WC B;split at H
   .rename_i t N;split at H
    .rename_i O;cases H;simp only[c5]at hp;split at hp
     .rename_i s ae;cases hp;exact azT aG hr A g Q N O R ae
     cases hp
    .rename_i e O;cases H;simp only[c5]at hp;split at hp
     .rename_i n hn;cases hp;exact arI aG hr A g Q N O R hn
     cases hp
    .rename_i k e O;cases H;simp only[c5]at hp;split at hp
     .rename_i n r hn;cases hp;exact arS aG hr A g Q N O R hn
     cases hp
    cases H
   cases H
  .rename_i x Y g B;obtain⟨x0,y0,Q,R,Ag⟩:=ado B;split at H
   .rename_i t u' N O;split at H
    .rename_i e sz bytes z he;split at H
     .rename_i T;cases H;obtain⟨rfl,dj⟩:=T;exact axy aG hr A g Q (arF N O dj) he R Ag hp
     cases H
    cases H
   cases H
  .rename_i x Y g B;obtain⟨x0,y0,Q,R,Ag⟩:=ado B;cases H;simp only[c5]at hp;split at hp
   .rename_i k p k' q M L;cases hp;exact ayZ aG hr A g Q R Ag M L
   cases hp
  .rename_i x Y g B;obtain⟨x0,y0,Q,R,Ag⟩:=ado B;cases H;simp only[c5]at hp;split at hp
   .rename_i k p k' q M L;cases hp;exact ay1 aG hr A g Q R Ag M L
   cases hp
  .rename_i x g B;obtain⟨x0,Q,R⟩:=WC B;split at H
   .rename_i t N;simp only[e_]at H;obtain⟨⟨e,sz,bytes,z⟩,F,rfl⟩:=H;exact apM aG hr A g Q N F R hp
   cases H
  cases H
 cases H
end
section
variable{m:bJ}{D:eE}
def aDv(w:World)(Q:Nat->Prop)(T sz:Nat)(y:q_)(c:Nat)(v:Value):Prop:=∃f g,v=.slice (some ⟨c,0,none⟩) (I y) f/\w.heap[c]?=some (.cells g T (0,0))/\0<sz/\(∀e∈y,I e=sz)/\I y<=f/\f<=maxLen/\g.size=f*sz/\eK w Q y.flatten (g.toList.take (I y*sz))
def ti(w:World)(Q:Nat->Prop):pD->List Value->aF->Prop
 |[],h,B=>h=[]/\B=[]
 | .p x::r,h,B=>∃v f,h=v::f/\dn w Q x v/\ti w Q r f B
 | .own T sz y::r,h,B=>∃v f c F,h=v::f/\B=c::F/\aDv w Q T sz y c v/\ti w Q r f F
theorem ti.mono{w:World}(n:∀c,c<w.heap.size-> ¬Q c->w'.heap[c]?=w.heap[c]? /\ ¬Q' c):∀ {R:pD}{h:List Value}{B:aF},(∀c∈B,w'.heap[c]?=w.heap[c]?)->ti w Q R h B->ti w' Q' R h B:=by
 intro R
 induction R with
 |nil=>intro h B _ z;exact z
 |cons r R u=>
  intro h B f z;cases r with
  |p x=>obtain⟨v,m,rfl,F,H⟩:=z;exact⟨v,m,rfl,F.mono n,u f H⟩
  |own Z sz y=>obtain⟨v,m,c,X,rfl,rfl,⟨g,j,N,L,O,T,E,D,A,M⟩,H⟩:=z;exact⟨v,m,c,X,rfl,rfl,⟨g,j,N,by rw[f c aP];exact L,O,T,E,D,A,M.mono n⟩,u (λc Y=>f c (by simp[Y])) H⟩
theorem ti.less{w:World}(g:∀b,Q' b->Q b){R:pD}{B:aF}(hr:ti w Q R h B):ti w Q' R h B:=hr.mono (λc _ f=>⟨rfl,λH=>f (g c H)⟩) (λ_ _=>rfl)
theorem aAe(aG:dZ w0 m)(H:∀b,Q b->m.own b){c:dI}{x:PV}{q:aF}(h:snap m.aj fA c=some (x,q))(hr:dU m c v)(ae:∀id∈q,¬Q (m.σ id)):dn m.w Q x v:=Jt aG fA h hr ⟨H,ae⟩
theorem afm(aG:dZ w0 m)(Y:∀b,Q b->m.own b):∀ {D:eE}{R:pD}{o q:aF}{h:List Value},kS m.aj D=some (R,o,q)->eD m D h->(∀id∈q,¬Q (m.σ id))->
  ti m.w Q R h (o.map m.σ)/\ ∀id∈o,∃O,(m.aj id).2=some O/\O.iz:=by
 intro D
 induction D with
 |nil=>
  intro R o q h E hr _;simp only[kS,iS,mY]at E;obtain⟨rfl,rfl,rfl⟩:=E;have:h=[]:=by have:=hr.1;simpa using this
  exact⟨⟨this,rfl⟩,λid E=>by simp at E⟩
 |cons c D ih=>
  intro R o q h E hr hq;simp only[kS]at E;split at E
  .rename_i x o1 q1 M os qs H h2;cases E;cases h with
   |nil=>simp[eD]at hr
   |cons v h=>
    obtain⟨i1,i2⟩:=ih (h:=h) h2 ⟨by have:=hr.1;simpa using this,λj x u a b=>hr.2 (j+1) x u (by simpa using a) (by simpa using b)⟩ (λid n=>hq id (by simp[n]));have T:dU m c v:=hr.2 0 c v rfl rfl;have f:∀ {ab:PV},(snap m.aj fA c).map (λ(v,r)=>((.p v:nO),([]:aF),r))=some (x,o1,q1)->ti m.w Q (x::M) (v::h) ((o1++os).map m.σ)/\ ∀id∈o1++os,∃O,(m.aj id).2=some O/\O.iz:=by intro _ H;simp only[e_]at H;obtain⟨⟨ab,r⟩,h3,h4⟩:=H;cases h4;exact⟨⟨v,h,rfl,aAe aG Y h3 T (λid n=>hq id (by simp[n])),i1⟩,i2⟩
    unfold ij at H;split at H
    .rename_i ab;cases H;have hy:dn m.w m.own ab v:=by cases T with|p E=>exact E
     exact⟨⟨v,h,rfl,hy.less Y,i1⟩,i2⟩
    .rename_i id g z len;split at H
     .rename_i g' ty sz y L;split at H
      .rename_i uW;obtain⟨rfl,A⟩:=uW;cases H;have B:(m.aj id).2=some (.arr ty sz y):=by rw[L]
       obtain⟨N,hh,jS,dj,hl,u7,dQ,dX⟩:=aG.obj id _ B;cases T with
       |hsl ad Z hg Ab JM PI=>
        obtain⟨f1,f2,f3⟩:=PI sz (by rw[L]) (by rw[L];rfl);have ss:=f2 (.inl rfl);have sv:Z=m.κ id:=by rw[<-f3,lq]
        rw[zC]at ss;subst ss;subst sv;have X:I (y.take len)=len:=by simp;omega
        refine⟨⟨_,h,m.σ id,os.map m.σ,rfl,rfl,⟨m.κ id,N,by rw[X],hh,jS,λe he=>dj e (wu he),by rw[X];exact Ab,u7,dQ,?_⟩,i1⟩,?_⟩
        .rw[X,Jl dj];have H:=(eK.pw.1 dX).take (len*sz);rw[GZ,vm (pP _ A)]at H;exact(eK.pw.2 H).less Y
        intro j F;simp only[Bv,iZ,dr]at F;rcases F with rfl|F
        .exact⟨_,B,rfl⟩
        exact i2 j F
      cases H
     exact f (ab:=.vp) H
    exact f (ab:=.vp) H
  cases E
theorem alM:∀(R:pD) (site:Nat) (b L:aN),(∀s,site<=s->(b s).1=(L s).1)->nk b site R=nk L site R:=by
 intro R
 induction R with
 |nil=>intro site b L _;rfl
 |cons r R f=>
  intro site b L h;have H:fC b site r=fC L site r:=by
   cases r with
   |p x=>rfl
   |own T sz y=>simp only[fC,h site (c3 _)]
  simp only[nk,H,f (site+1) b L (λs ae=>h s J)]
theorem aus{s c k:Nat}{o:f_}(f:m.fr c):vK m (m.install s c k o) where
 own x _ g:=⟨rfl,λh=>g (Uf f h)⟩
 gen id:=by
  simp only[bJ.install,cD];split
  .rename_i e;subst e;exact Nat.le_succ _
  exact c3 _
 ref id H ae:=by
  simp only[bJ.install,cD]at H ae |-;split at H
  .rename_i e;subst e;simp at H
  rename_i e;simp only[aC e]at ae |-;exact⟨ae,trivial,trivial,trivial⟩
theorem vK.trans{a b c:bJ}(h:vK a b)(ae:a.w.heap.size<=b.w.heap.size)(k:vK b c):vK a c where
 own x j n:=by have g:=h.own x j n;have H:=k.own x (Dx j ae) g.2;exact⟨H.1.trans g.1,H.2⟩
 gen id:=ny (h.gen id) (k.gen id)
 ref id B f:=by have g:=h.gen id;have H:=k.gen id;obtain⟨m,E,A,u⟩:=k.ref id J f;obtain⟨y,v,F,z⟩:=h.ref id J m;exact⟨y,E.trans v,A.trans F,u.trans z⟩
theorem axQ{Q:bJ}:∀ {R:pD}{h:List Value}{B:aF}{site:Nat}{m:bJ},dZ w0 m->ti m.w m.own R h B->B.Nodup->(∀c∈B,m.fr c/\w0.heap.size<=c)->h_ Q m->(∀c∈B,Q.w.heap.size<=c\/Q.iz c)->
  ∃g,g.w=m.w/\dZ w0 g/\h_ Q g/\vK m g/\(∀c,g.fr c↔m.fr c/\c∉B)/\g.aj=app (nk m.aj site R).2 m.aj/\eD g (nk m.aj site R).1 h:=by
 intro R
 induction R with
 |nil=>intro h B site m aG O _ _ ez _;obtain⟨rfl,rfl⟩:=O;exact⟨m,rfl,aG,ez,⟨λc _ O=>⟨rfl,O⟩,λ_=>c3 _,λ_ _ O=>⟨O,rfl,rfl,rfl⟩⟩,λc=>aP,rfl,rfl,λj x u O=>by simp[nk]at O⟩
 |cons r R ih=>
  intro h B site m aG O iU N ez PT;have cons:∀ {g:bJ}{x:dI}{M:eE}{v:Value}{h:List Value},dU g x v->eD g M h->eD g (x::M) (v::h):=by
   intro g x M v h Z H;refine⟨by simp[H.1],λj ad u a b=>?_⟩;cases j with
   |zero=>simp at a b;subst a b;exact Z
   |succ j=>simp at a b;exact H.2 j ad u a b
  cases r with
  |p x=>obtain⟨v,qL,rfl,Z,H⟩:=O;obtain⟨g,e1,e2,e3,E,e5,Y,X⟩:=ih (site:=site+1) aG H iU N ez PT;exact⟨g,e1,e2,e3,E,e5,by simpa [nk,fC]using Y,by simpa [nk,fC]using cons (dU.p (Z.ev E)) X⟩
  |own T sz y=>
   obtain⟨v,qL,c,FD,rfl,rfl,⟨f,ab,q1,q2,q3,q4,q5,q6,q7,q8⟩,H⟩:=O;have n:=(N c aP).1;have h0:=aus (s:=site) (k:=f) (o:=.arr T sz y) n;have D:(m.install site c f (.arr T sz y)).σ site=c:=by simp[bJ.install,cD]
   have A:(m.install site c f (.arr T sz y)).κ site=f:=by simp[bJ.install,cD]
   have yO:dZ w0 (m.install site c f (.arr T sz y)):=Sw aG n (N c aP).2
    ⟨ab,by rw[D];exact q2,q3,q4,by rw[A];exact q5,by rw[A];exact q6,by rw[A];exact q7,eK.ev h0 q8⟩
   have L:=nR.1 iU;obtain⟨g,e1,e2,e3,E,e5,Y,X⟩:=ih (site:=site+1) (m:=m.install site c f (.arr T sz y)) yO (H.less λb hb=>Uf n hb) L.2
    (λd F=>⟨⟨(N d (by simp[F])).1,λe=>L.1 (e▸F)⟩,(N d (by simp[F])).2⟩) (RN ez n (PT c aP)) (λd F=>PT d (by simp[F]))
   have ac:nk (m.install site c f (.arr T sz y)).aj (site+1) R=nk m.aj (site+1) R:=alM _ _ _ _ λs ae=>by simp only[bJ.install,cD];rw[aC J]
   rw[ac]at Y X;refine⟨g,e1,e2,e3,h0.trans (c3 _) E,λd=>?_,?_,?_⟩
   .rw[e5 d];simp only[bJ.install,dr,za];exact⟨λ⟨⟨a,b⟩,c⟩=>⟨a,b,c⟩,λ⟨a,b,c⟩=>⟨⟨a,b⟩,c⟩⟩
   .rw[Y];rfl
   refine cons ?_ X;have:dU (m.install site c f (.arr T sz y)) (.hsl site ((m.aj site).1+1) sz 0 (I y)) v:=by
    rw[q1];refine .hsl _ _ ?_ q5 q6 λz Z H=>?_
    .simp[bJ.install,cD]
    have hz:nH ((m.install site c f (.arr T sz y)).aj site)=some sz:=by simp[bJ.install,cD,nH]
    rw[hz]at H;cases H;exact⟨rfl,λ_=>by rw[D,zC],by rw[lq];exact A.symm⟩
   exact this.ev E
def Ao:RV->Value->List Value->Prop
 | .one _,v,h=>h=[v]
 | .agg l,v,h=>v=.agg h.toArray/\I h=I l
 | .tup _,_,_=>False
def G5:List RV->List Value->List Value->Prop
 |[],us,h=>us=[]/\h=[]
 |r::f,us,h=>∃u R a b,us=u::R/\h=a++b/\Ao r u a/\G5 f R b
def HT:RV->Value->List Value->Prop
 | .tup R,v,h=>∃arr,v=.tuple arr/\G5 R arr.toList h
 |r,v,h=>Ao r v h
theorem eD.take(H:eD m D h)(n:Nat):eD m (D.take n) (h.take n):=eD.pw.2 ((eD.pw.1 H).take n)
theorem eD.drop(H:eD m D h)(n:Nat):eD m (D.drop n) (h.drop n):=eD.pw.2 ((eD.pw.1 H).drop n)
theorem eD.append{f:eE}(H:eD m D h)(k:eD m f us):eD m (D++f) (h++us):=eD.pw.2 ((eD.pw.1 H).append (eD.pw.1 k))
theorem eD.single{c:dI}(h:dU m c v):eD m [c] [v]:=⟨rfl,λj x u a b=>by
 rcases j with _|j
 .simp at a b;subst a b;exact h
 simp at a⟩
theorem adX{v:V}(H:lX v=some D)(hr:qP m v val):
  ∃h,eD m D h/\ ∀(R T:pD),I R=I D->(oh v (R++T)).2=T/\m_ (oh v (R++T)).1=R/\Ao (oh v (R++T)).1 val h:=by
 cases v with
 |undef=>simp[lX]at H
 |tup h=>simp[lX]at H
 |one c=>
  simp only[lX,iS]at H;subst H;refine⟨[val],eD.single hr,λR T hl=>?_⟩
  match R,hl with
  |[r],_=>exact⟨rfl,rfl,rfl⟩
 |agg f=>
  simp only[lX,iS]at H;subst H;obtain⟨arr,rfl,g⟩:=hr;refine⟨arr.toList,g,λR T hl=>?_⟩;have n:(R++T).take (I f)=R:=by rw[<-hl];exact Kq
  have j:(R++T).drop (I f)=T:=by rw[<-hl];exact UM
  simp only[oh,m_,Ao,n,j,true_and];rw[g.1,hl]
theorem aA7:∀ {f:dT}{D:eE}{v:List Value},vE f=some D->Pw (qP m) f v->
  ∃h,eD m D h/\ ∀(R:pD),I R=I D->tz (EL f R)=R/\G5 (EL f R) v h:=by
 intro f
 induction f with
 |nil=>
  intro D v H hr;simp only[vE,iS]at H;subst H;have O:v=[]:=by have:=hr.1;simpa using this
  subst O;refine⟨[],⟨rfl,λj x u a=>by simp at a⟩,λR hl=>?_⟩;have:R=[]:=by simpa using hl
  subst this;exact⟨rfl,rfl,rfl⟩
 |cons w f T=>
  intro D v H hr;simp only[vE]at H;split at H
  .rename_i a b F B;cases H;cases v with
   |nil=>have:=hr.1;simp at this
   |cons val v=>
    obtain⟨g,L,E⟩:=adX F (hr.2 0 w val rfl rfl);obtain⟨n,N,M⟩:=T (v:=v) B ⟨by have:=hr.1;simpa using this,λj x u p q=>hr.2 (j+1) x u (by simpa using p) (by simpa using q)⟩;refine⟨g++n,L.append N,λR hl=>?_⟩;have Y:I R=I a+I b:=by simpa using hl
    obtain⟨A,z,y⟩:=E (R.take (I a)) (R.drop (I a)) (by simp;omega);rw[nu]at A z y;obtain⟨Q,X⟩:=M (R.drop (I a)) (by simp;omega);simp only[EL,tz,A,z,Q,G5];exact⟨nu _ _,val,v,g,n,rfl,rfl,y,X⟩
  cases H
theorem avQ{v:V}(z:n_ v=some D)(hr:df m v val):
  ∃h,eD m D h/\ ∀(R:pD),I R=I D->mz (pK v R)=R/\HT (pK v R) val h:=by
 have one:∀ {v:V},lX v=some D->qP m v val->(∀R,pK v R=(oh v R).1)->∃h,eD m D h/\ ∀(R:pD),I R=I D->mz (pK v R)=R/\HT (pK v R) val h:=by
  intro v z hr A;obtain⟨h,n,H⟩:=adX z hr;refine⟨h,n,λR hl=>?_⟩;obtain⟨_,g,f⟩:=H R [] hl;rw[rT]at g f;rw[A];generalize(oh v R).1=y at g f;cases y with
  |tup _=>exact f.elim
  |one c=>exact⟨g,f⟩
  |agg c=>exact⟨g,f⟩
 cases v with
 |tup E=>obtain⟨arr,rfl,ae,B⟩:=hr;obtain⟨h,n,H⟩:=aA7 (m:=m) (v:=arr.toList) z ⟨by simpa using ae,λj x u a b=>B j x u a (by simpa using b)⟩;exact⟨h,n,λR hl=>⟨(H R hl).1,arr,rfl,(H R hl).2⟩⟩
 |undef=>simp[n_,lX]at z
 |one c=>exact one z hr λ_=>rfl
 |agg c=>exact one z hr λ_=>rfl
theorem Wu{r:RV}{a b:List Value}(h:Ao r val a)(H:eD m D (a++b)):qP m (rF r D).1 val/\eD m (rF r D).2 b:=by
 cases r with
 |tup _=>exact h.elim
 |one c=>
  have h:a=[val]:=h;subst h;cases D with
  |nil=>have:=H.1;simp at this
  |cons x M=>exact⟨H.2 0 x val rfl rfl,by have:=H.drop 1;simpa [rF]using this⟩
 |agg l=>
  obtain⟨rfl,hl⟩:=h;refine⟨⟨_,rfl,?_⟩,?_⟩
  .have:=H.take (I l);rw[<-hl,Kq]at this
   simpa [rF,hl]using this
  have:=H.drop (I l);rw[<-hl,UM]at this
  simpa [rF,hl]using this
theorem axn:∀ {R:List RV}{D:eE}{us h:List Value},G5 R us h->eD m D h->Pw (qP m) (vG R D) us:=by
 intro R
 induction R with
 |nil=>intro D us h z _;obtain⟨rfl,rfl⟩:=z;exact⟨rfl,λj x u a=>by simp[vG]at a⟩
 |cons r R A=>
  intro D us h z E;obtain⟨u,F,a,b,rfl,rfl,B,H⟩:=z;obtain⟨n,y⟩:=Wu B E;have g:=A H y;refine⟨by simp[vG,g.1],λj x v Q f=>?_⟩;cases j with
  |zero=>simp[vG]at Q f;subst Q f;exact n
  |succ j=>simp[vG]at Q f;exact g.2 j x v Q f
theorem az2{r:RV}(H:HT r val h)(f:eD m D h):df m (vO r D) val:=by
 cases r with
 |tup R=>obtain⟨arr,rfl,g⟩:=H;have:=axn g f;exact⟨arr,rfl,by simpa using this.1,λj x u a b=>this.2 j x u a (by simpa using b)⟩
 |one c=>have:=(Wu (b:=[]) (show Ao (.one c) val h from H) (by simpa using f)).1;exact df.of1 this
 |agg c=>have:=(Wu (b:=[]) (show Ao (.agg c) val h from H) (by simpa using f)).1;exact df.of1 this
end
section
variable{L:aN}{site:Nat}{v:V}{D:sA}{E:nT}{j:ct}{Y:mf}
def l8(ids:aF)(b L:aN):Prop:=∀id∈ids,L id=b id
def ua(T:aF)(e e':ct):Prop:=∀t∈T,e' t=e t
theorem l8.left{x y:aF}{b:aN}(h:l8 (x++y) b L):l8 x b L:=λi H=>h i (by simp[H])
theorem l8.right{x y:aF}{b:aN}(h:l8 (x++y) b L):l8 y b L:=λi H=>h i (by simp[H])
theorem ua.left{x y:aF}{b L:ct}(h:ua (x++y) b L):ua x b L:=λi H=>h i (by simp[H])
theorem ua.right{x y:aF}{b L:ct}(h:ua (x++y) b L):ua y b L:=λi H=>h i (by simp[H])
section
variable {e e':ct}
theorem ib{a:fu}(h:ua a.tmps e e'):ev e' a=ev e a:=by
 cases a with
 |t n=>exact h n (by simp[fu.tmps])
 |_=>rfl
theorem ao5:∀ {as:uv},ua (Gy as) e e'->as.map (ev e')=as.map (ev e):=by
 intro as
 induction as with
 |nil=>intro _;rfl
 |cons a r f=>intro h;simp only[eJ];rw[ib h.left,f h.right]
theorem adW:∀ {as:uv},ua (Gy as) e e'->AM e' as=AM e as:=by
 intro as
 induction as with
 |nil=>intro _;rfl
 |cons a r f=>intro h;simp only[AM];rw[ib h.left,f h.right]
theorem aBF:∀ {as:uv},ua (Gy as) e e'->DC e' sz as=DC e sz as:=by
 intro as
 induction as with
 |nil=>intro _;rfl
 |cons a r f=>intro h;simp only[DC];rw[ib h.left,f h.right]
theorem at1:∀ {as:List (Nat×Nat×fu)},ua (Xb as) e e'->BE e' as=BE e as:=by
 intro as
 induction as with
 |nil=>intro _;rfl
 |cons a r f=>intro h;obtain⟨x,y,a⟩:=a;simp only[BE];rw[ib h.left,f h.right]
theorem VD{d:Nat}{a:Option fu}(h:ua (aa4 a) e e'):vh e' d a=vh e d a:=by
 cases a with
 |none=>rfl
 |some a=>simp only[vh];rw[ib h]
theorem ayD{a:fu}(h:ua a.tmps e e'):IY e' a=IY e a:=by unfold IY;rw[ib h]
theorem Y_{E:Nat->Bool}{aj:aN}{p:sR}(h:ua p.tmps e e'):c5 E e' aj p=c5 E e aj p:=by
 cases p with
 |rl x=>simp only[c5,ib (a:=x) h]
 |pick c a b=>simp only[c5,ib (a:=c) h.left.left,ib (a:=a) h.left.right,ib (a:=b) h.right]
 |alloc s z=>rfl
 |box s x=>simp only[c5,ib (a:=x) h]
 |build z ps=>simp only[c5,at1 (as:=ps) h]
 |Oo s T sz ps=>simp only[c5,aBF (as:=ps) h]
 |load k x=>simp only[c5,ib (a:=x) h]
 |store n a x=>simp only[c5,ib (a:=a) h.left,ib (a:=x) h.right]
 |QM x=>simp only[c5,ib (a:=x) h]
 |bin op x y=>simp only[c5,ib (a:=x) h.left,ib (a:=y) h.right]
 |eqc k n x y=>simp only[c5,ib (a:=x) h.left,ib (a:=y) h.right]
 |un op x=>simp only[c5,ib (a:=x) h]
 |conv k x=>simp only[c5,ib (a:=x) h]
 |bstr x=>simp only[c5,ib (a:=x) h]
 |mkfn f a b=>simp only[c5,adW (as:=a) h.left,adW (as:=b) h.right]
 |mkmap s ag=>rfl
 |QH s T sz bytes z l c=>simp only[c5,ib (a:=l) h.left,ib (a:=c) h.right]
 |slice sz x lo H=>simp only[c5,ib (a:=x) h.left.left,VD (a:=lo) h.left.right,VD (a:=H) h.right]
 |sslice x lo H=>simp only[c5,ib (a:=x) h.left.left,VD (a:=lo) h.left.right,VD (a:=H) h.right]
 |Ef O x=>simp only[c5,ib (a:=x) h]
 |Qn sz x i=>simp only[c5,ib (a:=x) h.left,ib (a:=i) h.right]
 |Oa l sz x i=>simp only[c5,ib (a:=x) h.left,ib (a:=i) h.right]
 |fld O k x=>simp only[c5,ib (a:=x) h]
 |aidx l sz k x i=>simp only[c5,ib (a:=x) h.left,ib (a:=i) h.right]
 |sidx x i=>simp only[c5,ib (a:=x) h.left,ib (a:=i) h.right]
 |lookup kd z ag ok x k=>simp only[c5,ib (a:=x) h.left,ib (a:=k) h.right]
 |mupd kd ag m k v=>simp only[c5,ib (a:=m) h.left.left,ib (a:=k) h.left.right,ib (a:=v) h.right]
 |bad=>rfl
 |extract x i=>simp only[c5,ib (a:=x) h]
 |call s f as=>simp only[c5,ayD (a:=f) h.left,ao5 (as:=as) h.right]
 |slen x=>simp only[c5,ib (a:=x) h]
 |Ur x=>simp only[c5,ib (a:=x) h]
 |mlen x=>simp only[c5,ib (a:=x) h]
 |append s T sz b x y=>simp only[c5,ib (a:=x) h.left,ib (a:=y) h.right]
 |max x y=>simp only[c5,ib (a:=x) h.left,ib (a:=y) h.right]
 |min x y=>simp only[c5,ib (a:=x) h.left,ib (a:=y) h.right]
 |clear z x=>simp only[c5,ib (a:=x) h]
end
section
variable {b L:aN}
theorem zp{α β:Type}{f g:α->Option (β×aF)}(j:∀x y r,f x=some (y,r)->l8 r b L->g x=some (y,r)):∀ {M:List α}{ys:List β}{r:aF},iD f M=some (ys,r)->l8 r b L->iD g M=some (ys,r):=by
 intro M
 induction M with
 |nil=>intro ys r h _;exact h
 |cons x M m=>
  intro ys r h H;simp only[iD]at h |-;split at h
  .rename_i y p B q E n;cases h;rw[j _ _ _ E H.left,m n H.right]
  cases h
theorem Pq:∀(n:Nat) (c:dI) (x:PV) (r:aF),snap b n c=some (x,r)->l8 r b L->snap L n c=some (x,r):=by
 intro n
 induction n with
 |zero=>intro c x r h;simp[snap]at h
 |succ n u=>
  intro c x r h j;cases c with
  |p v=>exact h
  |bm id g O=>
   have H:id∈r:=by
    simp only[snap]at h
    (repeat' split at h)<;>first
     |cases h
     |skip
    all_goals simp
   have m:=j id H;simp only[snap]at h |-;rw[m];split at h
   .split at h
    .rename_i A;rw[aD A];split at h
     .rename_i D;cases h;rw[zp u D (λi B=>j i (by simp[B]))]
     cases h
    cases h
   .exact h
   cases h
  |eh id g i O=>
   have H:id∈r:=by
    simp only[snap,e_]at h
    (repeat' split at h)<;>first
     |cases h
     |skip
    all_goals(simp only[e_]at h;obtain⟨e,_,h⟩:=h;cases h;simp)
   have m:=j id H;simp only[snap]at h |-;rw[m];exact h
  |hsl id g z O len=>
   have H:id∈r:=by
    simp only[snap]at h
    (repeat' split at h)<;>first
     |cases h
     |skip
    all_goals simp
   have m:=j id H;simp only[snap]at h |-;rw[m];split at h
   .exact h
   .exact h
   .split at h
    .rename_i A;rw[aD A];split at h
     .rename_i D;cases h;rw[zp (λ_ _ _ p q=>zp u p q) D (λi B=>j i (by simp[B]))]
     cases h
    cases h
   cases h
  |nL id g=>
   have H:id∈r:=by
    simp only[snap]at h
    (repeat' split at h)<;>first
     |cases h
     |skip
    all_goals simp
   have m:=j id H;simp only[snap]at h |-;rw[m];exact h
  |hfn f x y=>
   simp only[snap]at h |-;split at h
   .rename_i F E;cases h;rw[zp u F j.left,zp u E j.right]
   cases h
theorem azc(x y:V)(r:aF)(h:qz b x=some (y,r))(g:l8 r b L):qz L x=some (y,r):=by
 cases x with
 |undef=>simp[qz]at h
 |tup _=>simp[qz]at h
 |one c=>simp only[qz,e_]at h |-;obtain⟨⟨p,q⟩,f,H⟩:=h;cases H;exact⟨_,Pq _ _ _ _ f g,rfl⟩
 |agg D=>simp only[qz,e_]at h |-;obtain⟨⟨p,q⟩,f,H⟩:=h;cases H;exact⟨_,zp (Pq _) f g,rfl⟩
theorem avI{r:aF}(h:E0 b M=some (ys,r))(H:l8 r b L):E0 L M=some (ys,r):=zp azc h H
theorem auk{all:aF}{id:Nat}(h:y8 b all id=some u)(f:id∈all)(H:l8 all b L):y8 L all id=some u:=by
 have m:=H id f;unfold y8 at h |-;rw[m];split at h
 .split at h
  .rename_i ps r g;split at h
   .rename_i hr;have v:l8 r b L:=λi j=>H i (by have:=kr.1 hr i j;simpa using this);rw[zp (Pq _) g v];simp only;rw[aD hr];exact h
   cases h
  cases h
 .exact h
 .split at h
  .rename_i ps r g;split at h
   .rename_i hr;have v:l8 r b L:=λi j=>H i (by have:=kr.1 hr i j;simpa using this);rw[zp (λ_ _ _ p q=>zp (Pq _) p q) g v];simp only;rw[aD hr];exact h
   cases h
  cases h
 .exact h
 .cases h
 exact h
theorem avZ{all:aF}(g:l8 all b L):∀ {ids:aF}{u:mF},(∀i∈ids,i∈all)->uO b all ids=some u->uO L all ids=some u:=by
 intro ids
 induction ids with
 |nil=>intro u _ h;exact h
 |cons i r m=>
  intro u ae h;simp only[uO]at h |-;split at h
  .rename_i x y n H;cases h;rw[auk n (ae i aP) g,m (λj f=>ae j (by simp[f])) H]
  cases h
theorem Ov{ids:aF}(h:vq b ids=some u)(H:l8 ids b L):vq L ids=some u:=avZ H (λ_ h=>h) h
theorem aqq{r:nO}(h:l8 ((fC b site r).2.map (·.1)) b L):fC L site r=fC b site r:=by
 cases r with
 |p x=>rfl
 |own T sz y=>simp only[fC];rw[h site (by simp[fC])]
theorem azJ:∀ {R:pD}{site:Nat},l8 ((nk b site R).2.map (·.1)) b L->nk L site R=nk b site R:=by
 intro R
 induction R with
 |nil=>intro site _;rfl
 |cons r R f=>intro site h;simp only[nk,kP]at h |-;rw[aqq h.left,f h.right]
theorem afe{r:RV}(h:l8 ((jq b site r).2.map (·.1)) b L):jq L site r=jq b site r:=by unfold jq at h |-;simp only at h;rw[azJ h]
theorem aBW{rd:aF}{r:RV}(h:fg b rd site r=some (v,u))(j:l8 rd b L)(H:l8 (u.map (·.1)) b L):fg L rd site r=some (v,u):=by
 unfold fg at h |-;split at h
 .rename_i f;rw[aD f];cases h;rw[afe H];rfl
 rename_i f;rw[aC f];split at h
 .rename_i F g;cases h;rw[Ov g j];simp only;rw[kP]at H;rw[afe H.right]
 cases h
theorem anP{D:eE}{r:aF}(h:D_ b x=some (D,r))(f:l8 r b L):D_ L x=some (D,r):=by
 have key:∀id,(id∈r->L id=b id):=λid H=>f id H;unfold D_ at h |-;split at h
 .exact h
 .rename_i id g O;have H:id∈r:=by
   (repeat' split at h)<;>first
    |cases h
    |skip
   all_goals simp
  simp only[key id H];exact h
 .rename_i id g i O;have H:id∈r:=by
   (repeat' split at h)<;>first
    |cases h
    |skip
   all_goals(simp only[e_]at h;obtain⟨e,_,h⟩:=h;cases h;simp)
  simp only[key id H];exact h
 cases h
theorem aCL{r:aF}(h:qk b x=some (n,r))(f:l8 r b L):qk L x=some (n,r):=by
 have key:∀id,(id∈r->L id=b id):=λid H=>f id H;unfold qk at h |-;split at h
 .exact h
 .exact h
 .rename_i id g;have H:id∈r:=by
   (repeat' split at h)<;>first
    |cases h
    |skip
   all_goals simp
  simp only[key id H];exact h
 cases h
theorem apA{r:aF}(h:nq b ag x=some (y,r))(f:l8 r b L):nq L ag x=some (y,r):=by
 have key:∀id,(id∈r->L id=b id):=λid H=>f id H;unfold nq at h |-;split at h
 .exact h
 .exact h
 .rename_i id g;have H:id∈r:=by
   (repeat' split at h)<;>first
    |cases h
    |skip
   all_goals simp
  simp only[key id H];exact h
 cases h
theorem Oz{y:q_}{r fr:aF}(h:js b x=some (y,r,fr))(j:l8 r b L)(f:l8 fr b L):js L x=some (y,r,fr):=by
 have key:∀id,(id∈r->L id=b id):=λid H=>j id H;unfold js at h |-;split at h
 .exact h
 .exact h
 .rename_i id g z O len;have H:id∈r:=by
   (repeat' split at h)<;>first
    |cases h
    |skip
   all_goals simp
  simp only[key id H];split at h
  .exact h
  .exact h
  .split at h
   .rename_i n;rw[aD n];split at h
    .rename_i m;cases h;rw[zp (λ_ _ _ p q=>zp (Pq _) p q) m f]
    cases h
   cases h
  exact h
 cases h
theorem au1{a:V}{M:eE}{r:aF}(h:Dw b a n M=.done v u r)(f:l8 r b L):Dw L a n M=.done v u r:=by
 have key:∀id,(id∈r->L id=b id):=λid H=>f id H;unfold Dw at h |-;split at h
 .cases h
 rename_i j;rw[aC j];split at h
 .rename_i id g O;have H:id∈r:=by
   (repeat' split at h)<;>first
    |cases h
    |skip
   all_goals simp
  simp only[key id H];exact h
 .rename_i id g i O;have H:id∈r:=by
   (repeat' split at h)<;>first
    |cases h
    |skip
   all_goals simp
  simp only[key id H];exact h
 cases h
theorem aBo{T bytes:Nat}{s:V}{r:aF}(h:af b site T sz bytes s x=.done v u r)(j:l8 r b L):af L site T sz bytes s x=.done v u r:=by
 unfold af at h |-;split at h
 .cases h
 rename_i new rd fr eh;split at h
 .cases h
 rename_i D;split at h
 .cases h
 rename_i N n;have f:∀ {l:aF},(∀i∈l,i∈r)->l8 l b L:=λhl i H=>j i (hl i H);split at h
 .split at h
  .rename_i m;cases h;rw[Oz eh j.left j.right];simp only;rw[aC D,Ov n j.right];simp only;rw[aD m]
  rename_i m;split at h
  .rename_i hr;cases h;rw[Oz eh (f λi H=>by simp[H]) (f λi H=>by simp[H])];simp only;rw[aC D,Ov n (f λi H=>by simp[H])];simp only;rw[aC m,aD hr,j site aP]
  cases h
 .split at h
  .cases h
  rename_i m;split at h
  .rename_i hr;cases h;rw[Oz eh (f λi H=>by simp[H]) (f λi H=>by simp[H])];simp only;rw[aC D,Ov n (f λi H=>by simp[H])];simp only;rw[aC m,aD hr,j site aP]
  cases h
 .rename_i id g z len;split at h
  .rename_i F E M y B;split at h
   .rename_i hr;cases h;rw[Oz eh (f λi H=>by simp[H]) (f λi H=>by simp[H])];simp only;rw[aC D,Ov n (f λi H=>by simp[H])];simp only;have A:=j id aP;rw[B]at A;simp only[A];rw[aD hr,j site aP]
   cases h
  cases h
 cases h
end
theorem ara{E:Nat->Bool}{e:ct}{b:aN}{p:sR}{r:aF}(h:c5 E e b p=.done v u r)(H:l8 r b L):c5 E e L p=.done v u r:=by
 cases p with
 |alloc s z=>simp only[c5,Dl.done.injEq]at h |-;obtain⟨Q,N,A⟩:=h;rw[H s (by rw[<-A];simp)];exact⟨Q,N,A⟩
 |mkmap s ag=>simp only[c5,Dl.done.injEq]at h |-;obtain⟨Q,N,A⟩:=h;rw[H s (by rw[<-A];simp)];exact⟨Q,N,A⟩
 |box s x=>
  simp only[c5]at h |-;split at h
  .cases h;rw[H s aP]
  cases h
 |Oo s T sz ps=>
  simp only[c5]at h |-;split at h
  .split at h
   .cases h;rw[H s aP]
   cases h;rw[H s aP]
  cases h
 |QH s T sz bytes z l c=>
  simp only[c5]at h |-;split at h
  .split at h
   .rename_i B;cases h;rw[aD B,H s aP]
   cases h
  cases h
 |load k x=>
  simp only[c5]at h |-;split at h
  .rename_i D q F;split at h
   .rename_i v' hv;cases h;rw[anP F H];simp only[hv]
   cases h
  cases h
 |store n a x=>
  simp only[c5]at h |-;split at h
  .exact au1 h H
  cases h
 |bstr x=>
  simp only[c5]at h |-;split at h
  .rename_i y q F;split at h
   .rename_i bs j;cases h;rw[Oz F H (λi hi=>by simp at hi)];simp only[j]
   cases h
  cases h
 |lookup kd z ag ok x k=>
  simp only[c5]at h |-;split at h
  .rename_i y q key hm Z;split at h
   .cases h
   rename_i Y;split at h
   .rename_i f M;split at h
    .rename_i w hw;cases h;rw[apA hm H,Z];simp only;rw[aC Y];simp only[M,hw]
    cases h
   cases h
  cases h
 |clear z x=>
  simp only[c5]at h |-;split at h
  .cases h;rfl
  .cases h;rfl
  .rename_i id g w ab len e;split at h
   .rename_i R;cases h;simp only[R,if_true]
   rename_i R;split at h
   .rename_i g' T sz y O;split at h
    .rename_i B;cases h;have j:=H id aP;rw[O]at j;rw[aC R];simp only[j];rw[aD B]
    cases h
   cases h
  cases h
 |mupd kd ag m k v=>
  simp only[c5]at h |-;split at h
  .rename_i id g q D Q N A;split at h
   .rename_i g' vD y ps O X;split at h
    .rename_i B;split at h
     .rename_i i w M;cases h;have j:=H id aP;rw[O]at j;simp only[j,X];rw[aD B];simp only[M]
     .rename_i M;cases h;have j:=H id aP;rw[O]at j;simp only[j,X];rw[aD B];simp only[M]
     cases h
    cases h
   cases h
  cases h
 |mlen x=>
  simp only[c5]at h |-;split at h
  .rename_i n q F;cases h;rw[aCL F H]
  cases h
 |append s T sz bytes x ac=>exact aBo h H
 |call s f as=>
  simp only[c5]at h
  (repeat' split at h)<;>cases h
 |_=>exact h
theorem ayX{E:Nat->Bool}{e:ct}{b:aN}{p:sR}{s:Nat}{h:dT}{r:aF}(H:c5 E e b p=.pc f h r s)(j:l8 r b L):c5 E e L p=.pc f h r s:=by
 cases p with
 |call s f as=>
  simp only[c5]at H |-;split at H
  .split at H
   .cases H
   rename_i g;rw[aC g];split at H
   .rename_i ae;cases H;rw[avI ae j]
   cases H
  cases H
 |_=>
  (simp only[c5,Dw,af,Gs,reduceCtorEq]at H)<;>(repeat' split at H)<;>cases H
theorem axs{E:Nat->Bool}{e:ct}{b:aN}{p:sR}{h:dT}(H:c5 E e b p=.sc f h):c5 E e L p=.sc f h:=by
 cases p with
 |call s f as=>
  simp only[c5]at H |-;split at H
  .split at H
   .rename_i g;rw[aD g];exact H
   split at H<;>cases H
  cases H
 |_=>
  (simp only[c5,Dw,af,Gs,reduceCtorEq]at H)<;>(repeat' split at H)<;>cases H
theorem ava:∀(u:mF) (b L:aN) (id:Nat),id∈u.map (·.1)->app u b id=app u L id:=by
 intro u
 induction u with
 |nil=>intro b L id h;simp at h
 |cons x u f=>
  intro b L id h;obtain⟨i,o⟩:=x;simp only[app];by_cases H:id∈u.map (·.1)
  .exact f _ _ _ H
  have g:id=i:=by simpa [H]using h
  have key:∀(u:mF) (b:aN),id∉u.map (·.1)->app u b id=b id:=by
   intro u
   induction u with
   |nil=>intro b _;rfl
   |cons x u f=>intro b h;obtain⟨j,o⟩:=x;simp only[eJ,dr,za]at h;simp only[app];rw[f _ h.2,cD,aC h.1]
  rw[key u _ H,key u _ H,cD,cD,aD g,aD g]
theorem aa1:∀(u:mF) (b:aN) (id:Nat),id∉u.map (·.1)->app u b id=b id:=by
 intro u
 induction u with
 |nil=>intro b id _;rfl
 |cons x u f=>intro b id h;obtain⟨j,o⟩:=x;simp only[eJ,dr,za]at h;simp only[app];rw[f _ _ h.2,cD,aC h.1]
theorem aw4{e e':ct}{g:Option (Nat×Bool)}(h:∀t w,g=some (t,w)->e' t=e t):s9 e' g=s9 e g:=by
 cases g with
 |none=>rfl
 |some q=>obtain⟨t,w⟩:=q;simp only[s9,h t w rfl]
def je.writes(f:je)(id:Nat):Bool:=f.wr.contains id||f.fs.contains (kW id)
def je.xf(f:je)(id:Nat):Bool:=f.rd.contains id||f.writes id
theorem ag1{b:aN}:∀(n:Nat) (c:dI),l8 (o6 b n c) b L->o6 L n c=o6 b n c:=by
 intro n
 induction n with
 |zero=>intro c _;rfl
 |succ n B=>
  have m:∀(D:eE),l8 (D.map (o6 b n)).flatten b L->(D.map (o6 L n)).flatten=(D.map (o6 b n)).flatten:=by
   intro D
   induction D with
   |nil=>intro _;rfl
   |cons c D A=>intro h;simp only[eJ,mO]at h |-;rw[B c h.left,A h.right]
  intro c h;cases c with
  |p v=>rfl
  |bm id g O=>
   simp only[o6]at h |-;have H:=h id aP;rw[H];split
   .rename_i D j;rw[j]at h;rw[m D (λi u=>h i (by simp only[dr];exact .inr u))]
   rfl
  |eh id g i O=>
   simp only[o6]at h |-;have H:=h id aP;rw[H];split
   .rename_i D j;rw[j]at h;rw[m _ (λi u=>h i (by simp only[dr];exact .inr u))]
   rfl
  |hsl id g z O len=>
   simp only[o6]at h |-;have H:=h id aP;rw[H];split
   .rename_i D j;rw[j]at h;rw[m _ (λi u=>h i (by simp only[dr];exact .inr u))]
   rfl
  |nL id g=>rfl
  |hfn f x y=>simp only[o6]at h |-;rw[m x h.left,m y h.right]
theorem awF{b:aN}(v:V)(h:l8 (lH b v) b L):lH L v=lH b v:=by
 cases v with
 |undef=>rfl
 |tup _=>rfl
 |one c=>exact ag1 _ _ h
 |agg D=>
  simp only[lH]at h |-
  induction D with
  |nil=>rfl
  |cons c D f=>simp only[eJ,mO]at h |-;rw[ag1 _ c h.left,f h.right]
theorem aDl{h:dT}{b:aN}(H:l8 (iB E f h b).ids b L):iB E f h L=iB E f h b:=by
 have:(h.map (lH L)).flatten=(h.map (lH b)).flatten:=by
  unfold iB at H;simp only at H
  induction h with
  |nil=>rfl
  |cons v h g=>simp only[eJ,mO]at H |-;rw[awF v H.left,g H.right]
 unfold iB;rw[this]
def DF(D:sA):Prop:=∀f h al aj v F,D f h al aj=some (v,F)->(∀id,al.ok id=false->F id=aj id)/\
 ∀bh,(∀id,al.ok id->bh id=aj id)->∃g,D f h al bh=some (v,g)/\ ∀id,g id=if al.ok id then F id else bh id
theorem R7{al:cT}{l:aF}(h:al.iA l){id:Nat}(H:id∈l):al.ok id:=kr.1 h id H
theorem ayO{a b:cT}(j:b.any=false)(h:a.holds b){id:Nat}(H:b.ok id):a.ok id:=by
 unfold cT.holds at h;simp only[pB,c6]at h;rcases h with h|⟨g,f⟩
 .simp[cT.ok,h]
 simp only[cT.ok,j,Di,pB]at H;rcases H with H|H
 .exact R7 g (by simpa using H)
 have:=kr.1 f (kW id) (by simpa using H);simp only[cT.ok,pB];exact .inr this
theorem WL(dQ:DF D){o:mh}{aj:aN}{f:je}(n:nv E Y D o j aj=some (X,F,f)):
  ∃v,X=dP j o.dst v/\(∀id,f.writes id=false->F id=aj id)/\(∀id,f.xf id->E.al.ok id)/\
   ∀(m:ct) (bh:aN),ua o.KE j m->(∀id,f.xf id->bh id=aj id)->
    ∃Q,nv E Y D o m bh=some (dP m o.dst v,Q,f)/\ ∀id,Q id=if f.writes id then F id else bh id:=by
 have B:∀(m:ct),ua o.KE j m->ua o.op.tmps j m/\s9 m o.guard=s9 j o.guard:=by intro m n;unfold mh.KE at n;exact⟨n.left,aw4 λt w hg=>n.right t (by rw[hg];simp)⟩
 have L:∀(r w:aF) (id:Nat),(⟨r,w,[]⟩:je).writes id=w.contains id:=by intro r w id;simp[je.writes]
 have M:∀(r w:aF) (id:Nat),(⟨r,w,[]⟩:je).xf id↔id∈r\/id∈w:=by intro r w id;simp[je.xf,je.writes]
 have O:∀(u:mF) (b b2:aN) (r:aF) (id:Nat),app u b2 id=if(⟨r,u.map (·.1),[]⟩:je).writes id then app u b id else b2 id:=by
  intro u b b2 r id;rw[L];by_cases H:id∈u.map (·.1)
  .rw[aD (by simpa using H)];exact ava _ _ _ _ H
  rw[aC (by simpa using H)];exact aa1 _ _ _ H
 unfold nv at n;split at n
 .cases n
 .rename_i N;cases n;refine⟨.undef,rfl,λ_ _=>rfl,λid H=>by simp[je.xf,je.writes]at H,λm bh y z=>⟨bh,?_,λid=>by simp[je.writes]⟩⟩;unfold nv;rw[(B m y).2,N]
 rename_i N;split at n
 .cases n
 .rename_i v u r hp;split at n
  .rename_i aG;cases n;refine⟨v,rfl,λid H=>aa1 _ _ _ (by rw[L]at H;simpa using H),λid H=>R7 aG (by have:=(M _ _ _).1 H;simpa using this),λm bh y z=>⟨app u bh,?_,λid=>O _ _ _ _ _⟩⟩;unfold nv;rw[(B m y).2,N];simp only;rw[Y_ (B m y).1,ara hp λid H=>z id ((M _ _ _).2 (.inl H))];simp only;rw[aD aG]
  cases n
 .rename_i g h r s hp;split at n
  .rename_i x Z;split at n
   .rename_i v u hl;split at n
    .rename_i aG;cases n;refine⟨v,rfl,λid H=>aa1 _ _ _ (by rw[L]at H;simpa using H),λid H=>R7 aG (by have:=(M _ _ _).1 H;simp at this |-;rcases this with n|n<;>simp[n]),λm bh y z=>⟨app u bh,?_,λid=>O _ _ _ _ _⟩⟩;unfold nv;rw[(B m y).2,N];simp only;rw[Y_ (B m y).1,ayX hp λid H=>z id ((M _ _ _).2 (.inl (by simp[H])))];simp only[Z];rw[aBW hl (λid H=>z id ((M _ _ _).2 (.inl (by simp[H])))) λid H=>z id ((M _ _ _).2 (.inr H))];simp only;rw[aD aG]
    cases n
   cases n
  cases n
 rename_i g h hp;split at n
 .rename_i aG;split at n
  .rename_i v b1 Z;cases n;have R:∀id,(⟨(iB E g h aj).ids,(iB E g h aj).ids,(iB E g h aj).fs⟩:je).writes id=(iB E g h aj).ok id:=by
    intro id;simp[je.writes,cT.ok,iB]
   have A:∀id,(⟨(iB E g h aj).ids,(iB E g h aj).ids,(iB E g h aj).fs⟩:je).xf id=(iB E g h aj).ok id:=by intro id;simp only[je.xf,R];simp only[cT.ok];cases(iB E g h aj).ids.contains id<;>simp
   obtain⟨l1,l2⟩:=dQ _ _ _ _ _ _ Z;refine⟨v,rfl,λid H=>l1 id (by rw[<-R];exact H),λid H=>ayO rfl aG (by rw[<-A];exact H),λm bh y z=>?_⟩;obtain⟨Q,g1,g2⟩:=l2 bh λid H=>z id (by rw[A];exact H);have T:iB E g h bh=iB E g h aj:=aDl λid H=>z id (by rw[A];simp[cT.ok,H]);refine⟨Q,?_,λid=>by rw[R];exact g2 id⟩;unfold nv;rw[(B m y).2,N];simp only;rw[Y_ (B m y).1,axs hp];simp only[T];rw[aD aG];simp only[g1]
  cases n
 cases n
theorem asN(j:ct){d D:eC}(v f:V)(h:∀t,d=some t->D≠some t):dP (dP j d v) D f=dP (dP j D f) d v:=by
 cases d with
 |none=>rfl
 |some t=>
  cases D with
  |none=>rfl
  |some T=>
   have A:T≠t:=λe=>h t rfl (by rw[e]);funext x;simp only[dP,cD];by_cases H:x=t
   .subst H;rw[aD rfl,aC (λe=>A e.symm),aD rfl]
   rw[aC H,aC H]
theorem alj{d:eC}{t:Nat}(h:d≠some t):dP j d v t=j t:=by
 cases d with
 |none=>rfl
 |some x=>simp only[dP,cD];rw[aC (λe=>h (by rw[e]))]
theorem Vg{a b:aF}(h:rJ a b=false){i:Nat}(f:i∈a):i∉b:=by
 intro H;have:rJ a b:=by simp only[rJ,G_];exact⟨i,f,by simpa using H⟩
 rw[h]at this;cases this
theorem abD{fs ids:aF}(h:xy fs ids=false){i:Nat}(f:i∈ids):kW i∉fs:=by
 intro H;have:xy fs ids:=by simp only[xy,G_];exact⟨i,f,by simpa using H⟩
 rw[h]at this;cases this
theorem arw{a b:je}(h:xG a b=false)(id:Nat):(a.writes id->b.xf id=false)/\(b.writes id->a.xf id=false):=by
 simp only[xG,II]at h;obtain⟨⟨⟨⟨⟨m,g⟩,c9⟩,j⟩,eT⟩,fB⟩:=h;have sw:∀ {x y:aF},rJ x y=false->rJ y x=false:=by
  intro x y h;cases f:rJ y x with
  |false=>rfl
  |true=>simp only[rJ,G_]at f;obtain⟨i,u,n⟩:=f;exact absurd u (Vg h (by simpa using n))
 have one:∀ {a b:je},rJ a.wr b.rd=false->rJ a.wr b.wr=false->rJ a.fs b.fs=false->xy a.fs (b.rd++b.wr)=false->xy b.fs (a.rd++a.wr)=false->a.writes id->b.xf id=false:=by
  intro a b m g j eT fB H;simp only[je.writes,pB]at H;simp only[je.xf,je.writes,II];rcases H with H|H
  .have H:id∈a.wr:=by simpa using H
   exact⟨by simpa using Vg m H,by simpa using Vg g H,by simpa using abD fB (i:=id) (by simp[H])⟩
  have H:kW id∈a.fs:=by simpa using H
  refine⟨?_,?_,?_⟩
  .cases f:b.rd.contains id with
   |false=>rfl
   |true=>exact absurd H (abD eT (i:=id) (by simp at f;simp[f]))
  .cases f:b.wr.contains id with
   |false=>rfl
   |true=>exact absurd H (abD eT (i:=id) (by simp at f;simp[f]))
  simpa using Vg j H
 exact⟨one m g j eT fB,one (sw c9) (sw g) (sw j) fB eT⟩
theorem swap{E:nT}{Y:mf}{D:sA}(dQ:DF D){x y:mh}{j T:ct}{aj:aN}{M z:je}(hx:nv E Y D x j aj=some (gV,bG,M))(hy:nv E Y D y gV bG=some (T,bh,z))
  (L:Im x y) (hc:xG M z=false):∃g B,nv E Y D y j aj=some (g,B,z)/\nv E Y D x g B=some (T,bh,M):=by
 obtain⟨v1,rfl,F,_,R⟩:=WL dQ hx;obtain⟨Z,rfl,u,_,Q⟩:=WL dQ hy;have A:∀t,x.dst=some t->t∉y.KE/\y.dst≠some t:=by intro t f;simp only[Im,f,c6]at L;have H:=L.1;simp at H;exact⟨by simpa using H.1,H.2⟩
 have CJ:∀t,y.dst=some t->t∉x.KE:=by
  intro t f;simp only[Im,f,c6]at L;have H:=L.2
  simpa using H
 have N:=arw hc;have nw:∀ {a b:je}{id:Nat},(a.writes id->b.xf id=false)->b.xf id->a.writes id=false:=by
  intro a b id H n;cases h:a.writes id with
  |false=>rfl
  |true=>rw[H h]at n;cases n
 have wt:∀ {a:je}{id:Nat},a.writes id->a.xf id:=by intro a id h;simp[je.xf,h]
 obtain⟨B,O,X⟩:=Q j aj (λt f=>(alj λe=>(A t e).1 f).symm) (λid m=>(F id (nw (N id).1 m)).symm);obtain⟨v,Ag,xb⟩:=R (dP j y.dst Z) B (λt f=>alj λe=>CJ t e f) (λid m=>by rw[X id,nw (N id).2 m];rfl)
 refine⟨_,B,O,?_⟩;rw[Ag,asN j v1 Z λt f=>(A t f).2];have:v=bh:=by
  funext id;rw[xb id,X id];cases H:M.writes id with
  |true=>have n:z.writes id=false:=nw (N id).2 (wt H);exact(u id n).symm
  |false=>
   cases n:z.writes id with
   |true=>rfl
   |false=>simp only[eI,if_false];rw[u id n,F id H]
 rw[this]
structure EH where
 i:Nat
 io:mh
 e:je
def UT(x y:EH):Prop:=Im x.io y.io=true/\xG x.e y.e=false
theorem aml{o:mh}{r:fI}{aj:aN}{e:je}{y:gr}(h:jV E Y D (o::r) j aj=some (X,F,e::y)):
  ∃gV bG,nv E Y D o j aj=some (gV,bG,e)/\jV E Y D r gV bG=some (X,F,y):=by
 simp only[jV]at h;split at h
 .rename_i gV bG m g;split at h
  .rename_i n bh f H;cases h;exact⟨gV,bG,g,H⟩
  cases h
 cases h
theorem axt{o:mh}{r:fI}{aj:aN}{e:je}{y:gr}(h:nv E Y D o j aj=some (gV,bG,e))(H:jV E Y D r gV bG=some (X,F,y)):
  jV E Y D (o::r) j aj=some (X,F,e::y):=by
 simp only[jV,h,H]
theorem auU(dQ:DF D){y:EH}{f:List EH}:∀ {L:List EH}{j X:ct}{aj F:aN},jV E Y D ((L++y::f).map (·.io)) j aj=some (X,F,(L++y::f).map (·.e))->(∀x∈L,UT x y)->
  ∃gV bG,nv E Y D y.io j aj=some (gV,bG,y.e)/\jV E Y D ((L++f).map (·.io)) gV bG=some (X,F,(L++f).map (·.e)):=by
 intro L
 induction L with
 |nil=>intro j X aj F h _;exact aml h
 |cons x L R=>intro j X aj F h g;obtain⟨v,A,Q,H⟩:=aml h;obtain⟨u,n,M,O⟩:=R H λz Z=>g z (by simp[Z]);obtain⟨m,B,T,N⟩:=swap dQ Q M (g x aP).1 (g x aP).2;exact⟨m,B,T,axt N O⟩
def E7(al:cT)(b b2:aN):Prop:=∀id,al.ok id->b2 id=b id
def xZ(al:cT)(L b2 Ji:aN):Prop:=∀id,Ji id=if al.ok id then L id else b2 id
def Frame(al:cT)(b L:aN):Prop:=∀id,al.ok id=false->L id=b id
theorem xZ.agree{al:cT}(h:xZ al L b2 Ji):E7 al L Ji:=λid H=>by rw[h id,H];rfl
theorem xZ.trans{al:cT}{A:aN}(h:xZ al L b2 Ji)(k:xZ al b'' Ji A):xZ al b'' b2 A:=λid=>by rw[k id,h id];cases al.ok id<;>rfl
theorem xZ.refl{al:cT}{b:aN}(h:E7 al b b2):xZ al b b2 b2:=λid=>by
 cases H:al.ok id with
 |true=>exact h id H
 |false=>rfl
theorem Frame.trans{al:cT}{b:aN}(h:Frame al b L)(k:Frame al L b''):Frame al b b'':=λid H=>(k id H).trans (h id H)
section
variable {E:nT} {Y:mf} {D:sA} (dQ:DF D)
include dQ
theorem asw:∀ {Z:fI}{j X:ct}{aj F:aN}{y:gr},jV E Y D Z j aj=some (X,F,y)->Frame E.al aj F/\
  ∀bh,E7 E.al aj bh->∃m,jV E Y D Z j bh=some (X,m,y)/\xZ E.al F bh m:=by
 intro Z
 induction Z with
 |nil=>intro j X aj F y h;simp only[jV,iS,mY]at h;obtain⟨rfl,rfl,rfl⟩:=h;exact⟨λ_ _=>rfl,λbh f=>⟨bh,rfl,.refl f⟩⟩
 |cons o Z ih=>
  intro j X aj F y h;simp only[jV]at h;split at h
  .rename_i gV bG e O;split at h
   .rename_i dK bh oN x;cases h;obtain⟨v,rfl,fr,T,L⟩:=WL dQ O;obtain⟨f2,A⟩:=ih x;have n:∀id,E.al.ok id=false->e.writes id=false:=by
     intro id H;cases g:e.writes id with
     |false=>rfl
     |true=>have:=T id (by simp[je.xf,g]);rw[H]at this;cases this
    refine⟨Frame.trans (λid H=>fr id (n id H)) f2,λb2 f=>?_⟩;obtain⟨B,Q,R⟩:=L j b2 (λ_ _=>rfl) (λid H=>f id (T id H));have u:xZ E.al bG b2 B:=by
     intro id;rw[R id];cases H:E.al.ok id with
     |true=>
      cases g:e.writes id with
      |true=>rfl
      |false=>simp only[eI,if_false,if_true];rw[f id H,fr id g]
     |false=>rw[n id H]
    obtain⟨z,N,M⟩:=A B u.agree;exact⟨z,by simp only[jV,Q,N],u.trans M⟩
   cases h
  cases h
theorem apE{c:ct->aN->Option (qm×ct×aN)}(u:∀ {j X aj F e},c j aj=some (e,X,F)->Frame E.al aj F/\ ∀bh,E7 E.al aj bh->∃f,c j bh=some (e,X,f)/\xZ E.al F bh f):
  ∀(k:Nat) {j X:ct}{aj F:aN}{e:qm},n9 c k j aj=some (e,X,F)->Frame E.al aj F/\ ∀bh,E7 E.al aj bh->∃f,n9 c k j bh=some (e,X,f)/\xZ E.al F bh f:=by
 have A:=dQ;intro k
 induction k with
 |zero=>intro j X aj F e h;simp[n9]at h
 |succ k N=>
  intro j X aj F e h;simp only[n9]at h;split at h
  .rename_i gV bG z;obtain⟨n,g1⟩:=u z;obtain⟨L,x⟩:=N h;refine⟨n.trans L,λb2 H=>?_⟩;obtain⟨B,g,m⟩:=g1 b2 H;obtain⟨v,y,M⟩:=x B m.agree;exact⟨v,by simp only[n9,g,y],m.trans M⟩
  rename_i D;obtain⟨n,g1⟩:=u h;refine⟨n,λb2 H=>?_⟩;obtain⟨B,g,m⟩:=g1 b2 H;refine⟨B,?_,m⟩;cases e with
  |normal=>exact(D _ _ h).elim
  |exit i=>simp only[n9,g]
  |ret=>simp only[n9,g]
theorem aff:∀(c:aS) {j X:ct}{aj F:aN}{e:qm},dR E Y D n c j aj=some (e,X,F)->Frame E.al aj F/\
  ∀bh,E7 E.al aj bh->∃Q,dR E Y D n c j bh=some (e,X,Q)/\xZ E.al F bh Q:=by
 intro c
 induction c with
 |skip=>intro j X aj F e h;simp only[dR,iS,mY]at h;obtain⟨rfl,rfl,rfl⟩:=h;exact⟨λ_ _=>rfl,λb2 H=>⟨b2,rfl,.refl H⟩⟩
 |exit id=>intro j X aj F e h;simp only[dR,iS,mY]at h;obtain⟨rfl,rfl,rfl⟩:=h;exact⟨λ_ _=>rfl,λb2 H=>⟨b2,rfl,.refl H⟩⟩
 |ret=>intro j X aj F e h;simp only[dR,iS,mY]at h;obtain⟨rfl,rfl,rfl⟩:=h;exact⟨λ_ _=>rfl,λb2 H=>⟨b2,rfl,.refl H⟩⟩
 |bad=>intro j X aj F e h;simp[dR]at h
 |region d Z=>
  intro j X aj F e h;simp only[dR]at h;split at h
  .rename_i gV bG y z;obtain⟨g,g1⟩:=asw dQ z;have O:(e,X,F)=(qm.normal,gV,bG)/\(d->ql Z [] y):=by
    cases d with
    |false=>simp at h;exact⟨by simp[h],λh=>by cases h⟩
    |true=>
     simp only[if_true]at h;split at h
     .rename_i L;cases h;exact⟨rfl,λ_=>L⟩
     cases h
   obtain⟨O,L⟩:=O;cases O;refine⟨g,λb2 H=>?_⟩;obtain⟨B,f,m⟩:=g1 b2 H;refine⟨B,?_,m⟩;simp only[dR,f];cases d with
   |false=>simp
   |true=>simp[L rfl]
  cases h
 |seq a b u v=>
  intro j X aj F e h;simp only[dR]at h;split at h
  .rename_i gV bG z;obtain⟨g,g1⟩:=u z;obtain⟨f2,g2⟩:=v h;refine⟨g.trans f2,λb2 H=>?_⟩;obtain⟨B,f,m⟩:=g1 b2 H;obtain⟨b3,s2,R⟩:=g2 B m.agree;exact⟨b3,by simp only[dR,f,s2],m.trans R⟩
  rename_i M;obtain⟨g,g1⟩:=u h;refine⟨g,λb2 H=>?_⟩;obtain⟨B,f,m⟩:=g1 b2 H;refine⟨B,?_,m⟩;cases e with
  |normal=>exact(M _ _ h).elim
  |exit i=>simp only[dR,f]
  |ret=>simp only[dR,f]
 |cond x a b u v=>
  intro j X aj F e h;simp only[dR]at h |-;split at h
  .rename_i t ht;cases t with
   |true=>exact u h
   |false=>exact v h
  cases h
 |block id c A=>
  intro j X aj F e h;simp only[dR]at h;split at h
  .rename_i i gV bG z;obtain⟨g,g1⟩:=A z;have T:F=bG:=by split at h<;>cases h<;>rfl
   subst T;refine⟨g,λb2 H=>?_⟩;obtain⟨B,f,m⟩:=g1 b2 H;refine⟨B,?_,m⟩;simp only[dR,f];split at h
   .rename_i N;cases h;rw[aD N]
   rename_i N;cases h;rw[aC N]
  rename_i M;obtain⟨g,g1⟩:=A h;refine⟨g,λb2 H=>?_⟩;obtain⟨B,f,m⟩:=g1 b2 H;refine⟨B,?_,m⟩;cases e with
  |normal=>simp only[dR,f]
  |exit i=>exact(M _ _ _ h).elim
  |ret=>simp only[dR,f]
 |loop c A=>intro j X aj F e h;simp only[dR]at h |-;exact apE dQ (λh=>A h) n h
end
theorem amw{al:cT}{aj:aN}(u:E7 al aj bh):∀ {R:List (Nat×Option eC)}{h:dT},qJ al j aj R=some h->qJ al j bh R=some h:=by
 intro R
 induction R with
 |nil=>intro h H;exact H
 |cons r R n=>
  obtain⟨t,k⟩:=r;cases k with
  |none=>
   intro h H;simp only[qJ]at H |-;split at H
   .rename_i v q g f;cases H;simp only[g,n f]
   cases H
  |some k=>
   intro h H;simp only[qJ]at H |-;split at H
   .rename_i D rd q g f;split at H
    .rename_i aG;rw[anP g (λid m=>u id (R7 aG m)),n f];simp only[aG,if_true];exact H
    cases H
   cases H
theorem axX(dQ:DF D){fn:aX}{T:dT}{aj:aN}(u:sP E Y D n fn T aj=some (v,F)):Frame E.al aj F/\
  ∀bh,E7 E.al aj bh->∃A,sP E Y D n fn T bh=some (v,A)/\xZ E.al F bh A:=by
 unfold sP at u;split at u
 .rename_i j b g;simp only[e_]at u;obtain⟨h,z,H⟩:=u;cases H;obtain⟨y,g1⟩:=aff dQ _ g;refine⟨y,λb2 x=>?_⟩;obtain⟨B,f,m⟩:=g1 b2 x;exact⟨B,by unfold sP;rw[f];simp only[amw m.agree z,rm],m⟩
 .rename_i j b g;simp only[e_]at u;obtain⟨h,z,H⟩:=u;cases H;obtain⟨y,g1⟩:=aff dQ _ g;refine⟨y,λb2 x=>?_⟩;obtain⟨B,f,m⟩:=g1 b2 x;exact⟨B,by unfold sP;rw[f];simp only[amw m.agree z,rm],m⟩
 cases u
end
def uL(w:World)(O:Nat->Prop):V->Value->Prop
 | .one (.p x),v=>dn w O x v
 | .agg D,v=>∃arr ps,v=.agg arr/\D=ps.map .p/\eK w O ps arr.toList
 |_,_=>False
def Enters(P:Program)(f:Nat):Prop:= ∃fn c,P.funcs[f]?=some fn/\fn.body=some c/\(fn.name== "runtime.NumGoroutine")=false
def TQ(w:World)(Q:Nat->Prop)(r:RV)(val:Value)(B:aF):Prop:= ∃h,HT r val h/\ti w Q (mz r) h B
def yy(w:World)(O:Nat->Prop)(r:RV):Ending->World->Prop:=λe w'=>∃val B,e=.returned val/\jP w w'/\B.Nodup/\(∀c∈B,w.heap.size<=c/\c<w'.heap.size)/\TQ w' (λc=>O c\/c∈B) r val B
def Good(G:World->Prop)(w:World):Prop:=G w/\ ∀w w',jP w w'->G w->G w'
theorem dZ.agR(h:dZ w0 m):jP w0 m.w:=⟨h.os,h.tape,h.output,h.size,h.base⟩
theorem ti.pure{w:World}(ab:∀b,Q' b->Q b):∀ {R:pD}{h:List Value}{B:aF},(∀c∈B,¬Q' c)->ti w Q R h B->ti w Q' (R.map nO.pure) h []:=by
 intro R
 induction R with
 |nil=>intro h B _ hr;exact⟨hr.1,rfl⟩
 |cons r R D=>
  intro h B n hr;have less:∀ {x:PV}{v:Value},dn w Q x v->dn w Q' x v:=λhp=>hp.mono λc _ T=>⟨rfl,λL=>T (ab c L)⟩;cases r with
  |p x=>obtain⟨v,A,rfl,N,m⟩:=hr;exact⟨v,A,rfl,less N,D n m⟩
  |own ty sz y=>
   obtain⟨v,A,c,FD,rfl,rfl,⟨u,f,X,O,e3,Y,F,M,e7,E⟩,m⟩:=hr;refine⟨v,A,rfl,?_,D (λc Z=>n c (by simp[Z])) m⟩;subst X;refine dn.sl c 0 u sz (λj=>f.toList.getD j undef) (λ_=>n c aP) F M Y (λj x H=>?_) (λj x H=>?_)
   .have g:j<I (f.toList.take (I y*sz)):=by rw[E.1];exact(cn.1 H).1
    have z:j<f.size:=by simp at g;omega
    rw[World.cell?];simp[O,z,List.getD,lq]
   have g:j<I (f.toList.take (I y*sz)):=by rw[E.1];exact(cn.1 H).1
   have z:j<f.size:=by simp at g;omega
   refine less (E.2 j x _ H ?_);rw[List.getElem?_take_of_lt (by simp at g;omega)];simp[z,List.getD]
theorem Ao.pure{r:RV}(H:Ao r v h):Ao r.Kt v h/\m_ r.Kt=(m_ r).map nO.pure:=by
 cases r with
 |one c=>exact⟨H,rfl⟩
 |agg D=>exact⟨⟨H.1,by simpa [RV.Kt]using H.2⟩,rfl⟩
 |tup _=>exact H.elim
theorem G5.pure:∀ {R:List RV}{us h:List Value},G5 R us h->G5 (R.map RV.Kt) us h/\tz (R.map RV.Kt)=(tz R).map nO.pure:=by
 intro R
 induction R with
 |nil=>intro us h x;exact⟨x,rfl⟩
 |cons r R j=>
  rintro us h ⟨u,n,a,b,rfl,rfl,m,H⟩
  obtain⟨f,g⟩:=m.pure;obtain⟨Q,v⟩:=j H;exact⟨⟨u,n,a,b,rfl,rfl,f,Q⟩,by simp[tz,g,v]⟩
theorem HT.pure{r:RV}(H:HT r v h):HT r.pure v h/\mz r.pure=(mz r).map nO.pure:=by
 cases r with
 |one c=>exact Ao.pure (r:=.one c) H
 |agg D=>exact Ao.pure (r:=.agg D) H
 |tup R=>obtain⟨arr,rfl,f⟩:=H;obtain⟨Q,g⟩:=f.pure;exact⟨⟨arr,rfl,Q⟩,g⟩
theorem yy.fR{w:World}{r:RV}{e:Ending}(b:Bool)(x:∀c,O c->c<w.heap.size)(z:yy w O r e w'):yy w O (r.fR b) e w':=by
 cases b with
 |false=>exact z
 |true=>
  obtain⟨val,B,rfl,u,A,y,h,v,m⟩:=z;obtain⟨j,n⟩:=v.pure;refine⟨val,[],rfl,u,qF,λc g=>by simp at g,h,j,?_⟩;simp only[RV.fR];rw[n];refine ti.pure (λb H=>?_) (λc g f=>?_) m
  .rcases H with H|H
   .exact .inl H
   simp at H
  rcases f with f|f
  .have:=x c f;have:=(y c g).1;omega
  simp at f
def FL(P:Program)(G:World->Prop)(Y:mf):Prop:=∀f h r,Y f h=some r->Enters P f/\ ∀(w:World) (O:Nat->Prop) (T:Array Value),Good G w->(∀c,O c->c<w.heap.size)->Pw (uL w O) h T.toList->Calls P f T w (yy w O r)
def Kw(w0:World)(m:bJ)(v:V)(F:aN):Ending->World->Prop:=λe w'=>∃val M,e=.returned val/\M.w=w'/\dZ w0 M/\h_ m M/\M.fr=m.fr/\M.aj=F/\df M v val
def Hg(P:Program)(G:World->Prop)(D:sA):Prop:=∀f h al aj v F,D f h al aj=some (v,F)->Enters P f/\ ∀(w0:World) (m:bJ) (T:Array Value),Good G w0->dZ w0 m->m.aj=aj->Pw (df m) h T.toList->Calls P f T m.w (Kw w0 m v F)
theorem apF(aG:dZ w0 m){y:V}{r:aF}(g:qz m.aj x=some (y,r))(hr:df m x v)(ae:r_ m O r):uL m.w O y v:=by
 cases x with
 |undef=>simp[qz]at g
 |tup h=>simp[qz]at g
 |one c=>simp only[qz,e_]at g;obtain⟨⟨p,j⟩,f,H⟩:=g;cases H;exact Jt aG fA f hr ae
 |agg D=>simp only[qz,e_]at g;obtain⟨⟨ps,j⟩,f,H⟩:=g;cases H;obtain⟨arr,rfl,u⟩:=df.agg.1 hr;refine⟨arr,ps,rfl,rfl,?_⟩;exact KF (R:=dU m) (T:=dn m.w O) (fG:=r_ m O) (λ_ _=>r_.app) (λ_ _ _ _ f H n=>Jt aG fA f H n) f ae u
theorem akY(aG:dZ w0 m){r:aF}(j:E0 m.aj M=some (ys,r))(hr:Pw (df m) M h)(ae:r_ m O r):Pw (uL m.w O) ys h:=KF (R:=df m) (T:=uL m.w O) (fG:=r_ m O) (λ_ _=>r_.app) (λ_ _ _ _ f H g=>apF aG f H g) j ae hr
theorem akR(aG:dZ w0 m){c:Nat}(h:m.own c):c<m.w.heap.size:=by
 rcases h with h|⟨id,o,H,_,rfl⟩
 .exact aG.frlt c h
 exact(aG.obj id o H).lt
theorem ajf{w:World}{x:PV}(ae:x.scalar)(h:dn w Q x v):dn w Q' x v:=by
 cases h<;>first
  |(simp[PV.scalar]at ae;done)
  |constructor
theorem aCZ{w:World}:∀ {R:pD}{h:List Value}{B:aF},R.all nO.alone->ti w Q R h B->ti w Q' R h B:=by
 intro R
 induction R with
 |nil=>intro h B _ F;exact F
 |cons r R D=>
  intro h B H F;simp only[vg,c6]at H;cases r with
  |p x=>obtain⟨v,A,rfl,f,m⟩:=F;exact⟨v,A,rfl,ajf H.1 f,D H.2 m⟩
  |own ty sz y=>obtain⟨v,A,c,FD,rfl,rfl,⟨n,z,X,O,Y,e4,L,N,M,E⟩,m⟩:=F;refine⟨v,A,c,FD,rfl,rfl,⟨n,z,X,O,Y,e4,L,N,M,E.1,λj x u a b=>?_⟩,D H.2 m⟩;refine ajf ?_ (E.2 j x u a b);have T:=bR a;obtain⟨e,Z,g⟩:=EE.1 T;have f:=H.1;simp only[nO.alone]at f;exact kr.1 (kr.1 f e Z) x g
theorem am9{m:bJ}{x:RV}{B:aF}(aG:dZ w0 m)(n:jP m.w w')(v:B.Nodup)(f:∀c∈B,m.w.heap.size<=c/\c<w'.heap.size)(hr:TQ w' (λc=>m.own c\/c∈B) x val B):
  ∃M,M.w=w'/\dZ w0 M/\h_ m M/\M.fr=m.fr/\M.aj=app (jq m.aj site x).2 m.aj/\df M (jq m.aj site x).1 val:=by
 obtain⟨h,u,g⟩:=hr;have y:dZ w0 (m.later w' (· ∈B)):=Q9 aG n f;have N:h_ m (m.later w' (· ∈B)):=OG n λc H=>(f c H).1;obtain⟨M,D,O,F,_,E,L,z⟩:=axQ (Q:=m) (site:=site) y (g.less λb A=>akt.1 A) v (λc H=>⟨.inr H,ny aG.size (f c H).1⟩) N (λc H=>.inl (f c H).1);refine⟨M,D,O,F,?_,L,az2 u z⟩;funext c;apply propext;rw[E c];constructor
 .rintro ⟨j|j,g⟩
  .exact j
  exact(g j).elim
 intro j;refine⟨.inl j,λH=>?_⟩;have u:=aG.frlt c j;have g:=(f c H).1;omega
theorem azn{b L:aN}(h:∀s,(b s).1=(L s).1)(site:Nat)(x:RV):jq b site x=jq L site x:=by unfold jq;rw[alM _ site b L λs _=>h s]
theorem aq4{G:World->Prop}(z:FL P G Y)(hG:Good G w0)(aG:dZ w0 m){h:dT}{rd:aF}{x:RV}{v:V}(g:Y f h=some x)(ae:E0 m.aj M=some (h,rd))(F3:Pw (df m) M T.toList)
  {pb:Bool} (hl:fg m.aj rd site (x.fR pb)=some (v,u)):Calls P f T m.w (Kw w0 m v (app u m.aj)):=by
 have F:∀(w:World) (O:Nat->Prop) (T:Array Value),Good G w->(∀c,O c->c<w.heap.size)->Pw (uL w O) h T.toList->Calls P f T w (yy w O (x.fR pb)):=λw O T Q j h3=>((z f h x g).2 w O T Q j h3).mono λe w' H=>H.fR pb j
 generalize x.fR pb=x at hl F;unfold fg at hl;split at hl
 .rename_i uW;cases hl;have key:∀(O:Nat->Prop),(∀c,O c->c<m.w.heap.size)->r_ m O rd->(∀w' B val,TQ w' (λc=>O c\/c∈B) x val B->TQ w' (λc=>m.own c\/c∈B) x val B)->Calls P f T m.w (Kw w0 m (jq m.aj site x).1 (app (jq m.aj site x).2 m.aj)):=by
   intro O hO rO yU;refine(F m.w O T ⟨hG.2 _ _ aG.agR hG.1,hG.2⟩ hO (akY aG ae F3 rO)).mono ?_;rintro e w' ⟨val,B,rfl,L,D,sX,hr⟩
   obtain⟨X,Z,R,e3,e4,E,n⟩:=am9 (site:=site) aG L D sX (yU w' B val hr);exact⟨val,X,rfl,Z,R,e3,e4,E,n⟩
  rcases uW with rfl|jQ
  .exact key m.own (λc g=>akR aG g) ⟨λ_ H=>H,λ_ H=>by simp at H⟩ λ_ _ _ H=>H
  refine key (λ_=>False) (λc H=>H.elim) ⟨λ_ H=>H.elim,λ_ _ H=>H⟩ λw' B val H=>?_;obtain⟨qL,Q,j⟩:=H;exact⟨qL,Q,aCZ jQ j⟩
 split at hl
 .rename_i N y;cases hl;have yO:=akm aG y;have CI:=aa3 y;have rO:=aaF aG y;refine(F m.w (m.with N).own T ⟨hG.2 _ _ aG.agR hG.1,hG.2⟩ (λc g=>akR yO g) (akY aG ae F3 rO)).mono ?_;rintro e w' ⟨val,B,rfl,L,D,sX,hr⟩
  obtain⟨X,Z,R,e3,e4,E,n⟩:=am9 (m:=m.with N) (site:=site) yO L D sX hr;have A:jq (m.with N).aj site x=jq m.aj site x:=azn (λs=>QO y s) site x;rw[A]at E n;refine⟨val,X,rfl,Z,R,CI.trans e3,e4,?_,n⟩;rw[E,R9];rfl
 cases hl
theorem U4{M:bJ}(E:h_ m M){a:Act}{dst:eC}{v:V}{x:Value}(hr:lI m j a.tmps)(f:df M v x)(H:∀d,dst=some d->d<a.tmps.size):lI M (dP j dst v) (a.put dst x).tmps:=by
 cases dst with
 |none=>exact hr.ev E
 |some d=>
  intro t;have A:=H d rfl;simp only[dP,Act.put,cD];by_cases h:t=d
  .subst h;rw[aD rfl];have:(a.tmps.setIfInBounds t x).getD t undef=x:=by simp[A]
   rw[this];exact f
  rw[aC h];have:(a.tmps.setIfInBounds d x).getD t undef=a.tmps.getD t undef:=by simp only[Dh];rw[Array.getElem?_setIfInBounds_ne (λe=>h e.symm)]
  rw[this];exact(hr t).ev E.zero
theorem RI(a:Act)(dst:eC)(x:Value):(a.put dst x).tmps.size=a.tmps.size:=by cases dst<;>simp[Act.put]
theorem Rh(a:Act)(dst:eC)(x:Value):(a.put dst x).defers=a.defers:=by cases dst<;>simp[Act.put]
theorem akk{tmps:Array Value}(hr:lI m j tmps){o:Oper}{g:Option (Nat×Bool)}{b:Bool}
  (n:match o.guard with|none=>g=none|some (A,w)=>∃t,(Z[A]?).bind (·.dst)=some t/\g=some (t,w)) (h:s9 j g=some b):Region.wanted o (yielded Z tmps)=b:=by
 unfold Region.wanted;cases x:o.guard with
 |none=>rw[x]at n;subst n;simp only[s9,iS]at h;exact h
 |some q=>
  obtain⟨A,w⟩:=q;rw[x]at n;obtain⟨t,z,rfl⟩:=n;have f:=hr t;simp only[s9]at h;simp only[yielded,z,Option.bind_some];split at h
  .rename_i L v;rw[v]at f;have H:=GH f;cases h;have:tmps[t]?=some (.bool L):=by
    rw[Dh]at H;cases u:tmps[t]? with
    |none=>rw[u]at H;simp[undef]at H
    |some y=>rw[u]at H;simp at H;rw[H]
   rw[this];rfl
  .rename_i v;rw[v]at f;cases h;have H:tmps.getD t undef=undef:=f;rw[Dh]at H;cases u:tmps[t]? with
   |none=>rfl
   |some y=>rw[u]at H;simp at H;rw[H];rfl
  cases h
theorem anL{f:fu}{a b:eE}(h:IY j f=some (g,a,b))(hr:df m (ev j f) v):∃A B:Array Value,v=.func (.func g) A B/\eD m a A.toList/\eD m b B.toList:=by
 unfold IY at h;split at h
 .rename_i E x y z;cases h;rw[z]at hr;obtain⟨hp⟩:dU m _ v:=hr;cases hp with
  |fn A B D H Y Q=>exact⟨A,B,rfl,eK.GP ⟨by simpa using D,λn x u p q=>Y n x u p (by simpa using q)⟩,eK.GP ⟨by simpa using H,λn x u p q=>Q n x u p (by simpa using q)⟩⟩
 .rename_i E x y z;cases h;rw[z]at hr;have F:dU m _ v:=hr;cases F with
  |hfn A B D H Y Q=>exact⟨A,B,rfl,⟨by simpa using D,λn x u p q=>Y n x u p (by simpa using q)⟩,⟨by simpa using H,λn x u p q=>Q n x u p (by simpa using q)⟩⟩
 cases h
theorem amE{a:Act}(hr:lI m j a.tmps):∀ {M:List Operand}{ys:uv},r8 M=some ys->Pw (df m) (ys.map (ev j)) (M.map a.eval):=by
 intro M
 induction M with
 |nil=>intro ys h;simp[r8]at h;subst h;exact⟨rfl,λf x u p=>by simp at p⟩
 |cons x M g=>
  intro ys h;simp only[r8]at h;split at h
  .rename_i y Y n H;cases h;obtain⟨i1,i2⟩:=g H;refine⟨by simpa using i1,λf z u p q=>?_⟩;cases f with
   |zero=>simp at p q;subst p q;exact gv n hr
   |succ f=>exact i2 f z u (by simpa using p) (by simpa using q)
  cases h
theorem SK{D:eE}(f:eD m D h):Pw (df m) (D.map .one) h:=by refine⟨by simpa using f.1,λj x u p q=>?_⟩;simp only[ig,e_]at p;obtain⟨c,H,rfl⟩:=p;exact df.one.2 (f.2 j c u H q)
theorem auS(h:Enters P f)(T:Array Value)(w:World):(callFunc f T).run P w=.ok (.enter f T) w:=by
 obtain⟨fn,c,j,g,m⟩:=h;have H:¬fn.name= "runtime.NumGoroutine" :=by simpa using m
 simp[callFunc,run_program,j,g,H]
theorem al9{o:Oper}{c:Call}{f:Operand}{a:Act}{w:World}(h:o.op=.call c)(m:c.callee=.value f)(H:a.eval f=.func (.func g) A B)(j:Enters P g):
  (execOp a.eval o).run P w=.ok (.enter g (A++c.args.map a.eval++B)) w:=by
 simp[execOp,h,resolve,m,H,Deferred.ofValue,invoke,auS j]
theorem anz{o:Oper}{p:sR}(H:Iw P site o=some p)(hp:∀s f as,p≠ .call s f as){aj:aN}:(∀f h r s,c5 E j aj p≠ .pc f h r s)/\ ∀f h,c5 E j aj p≠ .sc f h:=by
 cases p<;>first
  |exact(hp _ _ _ rfl).elim
  |(simp only[c5]
    constructor<;>intros<;>intro H<;>(repeat' split at H)<;>first
     |cases H
     |(simp only[Dw,Gs,af]at H;(repeat' split at H)<;>cases H))
theorem agM{o:Oper}{s:Nat}{f:fu}{as:uv}(h:Iw P site o=some (.call s f as)):∃c F,o.op=.call c/\c.callee=.value F/\dA F=some f/\r8 c.args.toList=some as:=by
 unfold Iw at h;split at h
 case h_26 c H=>
  split at h
  .rename_i n A m g;simp only[e_]at h;obtain⟨y,u,j⟩:=h;cases j;exact⟨c,n,H,m,u,g⟩
  all_goals((repeat' split at h)<;>first
   |cases h
   |(simp at h;done))
 all_goals((repeat' split at h)<;>first
  |cases h
  |(simp at h;done))
def H8(w0:World)(m:bJ)(a:Act)(nt:Nat)(X:ct)(F:aN)(bY:Act->World->Prop):Prop:=∀(A:Act) (M:bJ),dZ w0 M->h_ m M->M.fr=m.fr->M.aj=F->lI M X A.tmps->A.tmps.size=nt->A.defers=a.defers->bY A M.w
theorem amN{o:Oper}{a:Act}{w:World}{bY:Act->World->Prop}{Q:Exit->Act->World->Prop}{R:Ending->World->Prop}(g:(execOp a.eval o).run P w=.ok (.enter f T) w)(m:Calls P f T w R)
  (j:∀e w',R e w'->∃v,e=.returned v/\bY (a.put o.dst v) w'):o.wp P a w bY Q:=by
 unfold Oper.wp;rw[g,Oper.upon_enter];refine m.mono ?_;intro e w' H;obtain⟨v,rfl,h⟩:=j e w' H;exact h
theorem ajm{G:World->Prop}(hG:Good G w0)(hP:FL P G Y)(hS:Hg P G D){E:nT}{base anc:Nat}{o:Oper}{io:mh}{ad:je}{a:Act}{bY:Act->World->Prop}{Q:Exit->Act->World->Prop}
  (T:GR P (λap=>(Z[ap]?).bind (·.dst)) base nt anc o=some io) (n:nv E Y D io j m.aj=some (X,F,ad)) (aG:dZ w0 m) (hr:lI m j a.tmps) (iN:a.tmps.size=nt) (y:H8 w0 m a nt X F bY):
  if Region.wanted o (yielded Z a.tmps)then o.wp P a m.w bY Q else bY (a.put o.dst undef) m.w:=by
 have am:io.dst=o.dst/\io.op=Lq P base o/\(∀d,o.dst=some d->d<nt)/\(match o.guard with|none=>io.guard=none|some (ap,w)=>∃t,(Z[ap]?).bind (·.dst)=some t/\io.guard=some (t,w)):=by
  unfold GR at T;split at T
  .rename_i H;simp only[e_]at T;obtain⟨g,M,rfl⟩:=T;refine⟨rfl,rfl,λd he=>?_,?_⟩
   .rw[he]at H
    simpa [anB]using H
   cases ab:o.guard with
   |none=>rw[ab]at M;simp[acr]at M;exact M.symm
   |some q=>obtain⟨ap,w⟩:=q;rw[ab]at M;simp only[acr,e_]at M;obtain⟨t,ht,rfl⟩:=M;exact⟨t,ht,rfl⟩
  cases T
 obtain⟨h1,h2,h3,h4⟩:=am;have H:∀d,o.dst=some d->d<a.tmps.size:=by rw[iN];exact h3
 unfold nv at n;split at n
 .cases n
 .rename_i hw;cases n;rw[akk hr h4 hw];simp only[eI,if_false];rw[h1]at y;exact y _ m aG (h_.refl m) rfl rfl (U4 (h_.refl m) hr (show df m .undef undef from rfl) H) (by rw[RI,iN]) (Rh _ _ _)
 rename_i hw;rw[akk hr h4 hw];simp only[if_true];rw[h2]at n;unfold Lq at n;cases z:Iw P base o with
 |none=>rw[z]at n;simp[c5]at n
 |some p=>
  rw[z]at n;simp only[kZ]at n;split at n
  .cases n
  .rename_i v u r hp;split at n
   case isFalse=>cases n
   cases n;obtain⟨x,N,ac,R,O,e4,e5,e6⟩:=aB3 aG hr z hp;rw[h1]at y;have hk:=λx (L:df N v x)=>y (a.put o.dst x) N R O e4 e5 (U4 O hr L H) (by rw[RI,iN]) (Rh _ _ _);unfold Oper.wp;rcases ac with H|⟨H,rfl⟩
   .rw[H,Oper.upon_value];exact hk x e6
   rw[H,Oper.upon_skip];exact hk undef e6
  .rename_i f h r s hp;by_cases F9:∃s f as,p=.call s f as
   .obtain⟨s',f',as,rfl⟩:=F9;obtain⟨c,fo,g1,g2,g3,g4⟩:=agM z;simp only[c5]at hp;split at hp
    .rename_i g A B hfn;obtain⟨AV,BV,e1,R,O⟩:=anL hfn (gv g3 hr);split at hp
     .cases hp
     split at hp
     .rename_i ws rd jD;cases hp;split at n
      .rename_i x L;split at n
       .rename_i v u hl;split at n
        case isFalse=>cases n
        cases n;have F3:Pw (df m) (A.map .one++as.map (ev j)++B.map .one) (AV++c.args.map a.eval++BV).toList:=by
         have:=((SK R).append (amE hr g4)).append (SK O)
         simpa using this
        refine amN (al9 g1 g2 e1 (hP _ _ _ L).1) (aq4 hP hG aG L jD F3 hl) ?_;rintro e w' ⟨val,N,rfl,rfl,q1,q2,q3,q4,q5⟩
        rw[h1]at y;exact⟨val,rfl,y _ N q1 q2 q3 q4 (U4 q2 hr q5 H) (by rw[RI,iN]) (Rh _ _ _)⟩
       cases n
      cases n
     cases hp
    cases hp
   exact((anz z (λs f as e=>F9 ⟨s,f,as,e⟩)).1 _ _ _ _ hp).elim
  rename_i f h hp;by_cases F9:∃s f as,p=.call s f as
  .obtain⟨s',f',as,rfl⟩:=F9;obtain⟨c,fo,g1,g2,g3,g4⟩:=agM z;simp only[c5]at hp;split at hp
   .rename_i g A B hfn;obtain⟨AV,BV,e1,R,O⟩:=anL hfn (gv g3 hr);split at hp
    .cases hp;split at n
     case isFalse=>cases n
     split at n
     .rename_i v Ld L;cases n;have F3:Pw (df m) (A.map .one++as.map (ev j)++B.map .one) (AV++c.args.map a.eval++BV).toList:=by
       have:=((SK R).append (amE hr g4)).append (SK O)
       simpa using this
      refine amN (al9 g1 g2 e1 (hS _ _ _ _ _ _ L).1) ((hS _ _ _ _ _ _ L).2 w0 m _ hG aG rfl F3) ?_;rintro e w' ⟨val,N,rfl,rfl,q1,q2,q3,q4,q5⟩
      rw[h1]at y;exact⟨val,rfl,y _ N q1 q2 q3 q4 (U4 q2 hr q5 H) (by rw[RI,iN]) (Rh _ _ _)⟩
     cases n
    split at hp<;>cases hp
   cases hp
  exact((anz z (λs f as e=>F9 ⟨s,f,as,e⟩)).2 _ _ hp).elim
theorem acp{dst anc:Nat->eC}{base i:Nat}{o:Oper}{r:List Oper}{l:fI}(h:yS P dst anc base nt i (o::r)=some l):
  ∃x M,l=x::M/\GR P dst ((base+i)*64) nt ((anc i).getD 0) o=some x/\yS P dst anc base nt (i+1) r=some M:=by
 simp only[yS]at h;split at h
 .rename_i x M f H;cases h;exact⟨x,M,rfl,f,H⟩
 cases h
section
variable {G:World->Prop} (hG:Good G w0) {Y:mf} {D:sA} (hP:FL P G Y) (hS:Hg P G D) {E:nT}
include hG hP hS
theorem aBE{anc:Nat->eC}{base:Nat}{Q:Exit->Act->World->Prop}:∀(r:List Oper) {l:fI}{i:Nat}{j X:ct}{m:bJ}{F:aN}{y:gr}{a:Act},(∀g,Z[i+g]?=r[g]?)->yS P (λg=>(Z[g]?).bind (·.dst)) anc base nt i r=some l->
  jV E Y D l j m.aj=some (X,F,y)->dZ w0 m->lI m j a.tmps->a.tmps.size=nt->H8 w0 m a nt X F (λa' w'=>Q .normal a' w')->wpOps P Z Q (List.range' i (I r)) a m.w:=by
 intro r
 induction r with
 |nil=>intro l i j X m F y a _ h f aG hr u H;simp[yS]at h;subst h;simp only[jV,iS,mY]at f;obtain⟨rfl,rfl,_⟩:=f;simp only[fU,List.range'_zero,wpOps];exact H a m aG (h_.refl m) rfl rfl hr u rfl
 |cons o r ih=>
  intro l i j X m F y a v h f aG hr u H;obtain⟨x,M,rfl,h1,O⟩:=acp h;simp only[jV]at f;split at f
  .rename_i gV bG e1 lS;split at f
   .rename_i dK bh ab iO;cases f;have ho:Z[i]?=some o:=by have:=v 0;simpa using this
    have key:=ajm (Q:=Q) (bY:=wpOps P Z Q (List.range' (i+1) (I r))) hG hP hS h1 lS aG hr u (λa1 m1 z k2 k3 k4 k5 k6 k7=>by subst k4;refine ih (m:=m1) (λg=>by have:=v (g+1);rw[show i+1+g=i+(g+1) by omega];simpa using this) O iO z k5 k6 ?_;intro a2 N p1 R A L B T p7;exact H a2 N p1 (k2.trans R) (A.trans k3) L B T (p7.trans k7))
    simp only[dW,List.range'_succ,wpOps,ho];split at key
    .rename_i n;rw[aD n];exact .inl key
    rename_i n;rw[aC n];exact key
   cases f
  cases f
theorem aBd{anc:Nat->eC}{base id:Nat}{Q:Exit->Act->World->Prop}{l:fI}{y:gr}{a:Act}(H:yS P (λn=>(Z[n]?).bind (·.dst)) anc base nt 0 Z.toList=some l)
  (f:jV E Y D l j m.aj=some (X,F,y)) (aG:dZ w0 m) (hr:lI m j a.tmps) (g:a.tmps.size=nt) (h:H8 w0 m a nt X F (λA w'=>Q .normal A w')):(Code.region id Z false).wp P Q a m.w:=by
 refine wp_region ?_;have:=aBE hG hP hS (E:=E) (Z:=Z) (Q:=Q) Z.toList (i:=0) (λn=>aP) H f aG hr g h;rw[Xg]
 simpa using this
end
theorem au4{α β:Type}(g:Array β->α->β):∀(l:List α) (A:Array β),(l.foldl (λA o=>A.push (g A o)) A).size=A.size+I l/\
  (∀j,j<A.size->(l.foldl (λA o=>A.push (g A o)) A)[j]?=A[j]?)/\
  ∀j o,l[j]?=some o->∃pre:Array β,pre.size=A.size+j/\(∀k,k<pre.size->(l.foldl (λA o=>A.push (g A o)) A)[k]?=pre[k]?)/\(l.foldl (λA o=>A.push (g A o)) A)[A.size+j]?=some (g pre o):=by
 intro l
 induction l with
 |nil=>intro A;exact⟨rfl,λ_ _=>rfl,λj o h=>by simp at h⟩
 |cons x l y=>
  intro A;obtain⟨z,f,v⟩:=y (A.push (g A x));simp only[sh];refine⟨by rw[z];simp;omega,λj D=>?_,λj o H=>?_⟩
  .rw[f j (by simp;omega),QJ,aC J]
  cases j with
  |zero=>
   simp at H;subst H;refine⟨A,J,λk B=>?_,?_⟩
   .rw[f k (by simp;omega),QJ,aC J]
   rw[vu,f A.size aP,QJ,aD rfl]
  |succ j=>obtain⟨pre,n,u,m⟩:=v j o (by simpa using H);refine⟨pre,by rw[n];simp;omega,u,?_⟩;rw[<-m];simp only[Array.size_push];congr 1;omega
theorem aDw{α:Type}(f:α->Bool)(g:α->Nat)(h:α->Nat):∀(l:List α) (s j:Nat),(l.foldl (λs e=>if f e then s|||g e|||h e else s) s).testBit j=true->s.testBit j\/ ∃e∈l,f e/\((g e).testBit j\/(h e).testBit j):=by
 intro l
 induction l with
 |nil=>intro s j m;exact .inl m
 |cons x l y=>
  intro s j m;simp only[sh]at m;rcases y _ j m with H|⟨e,v,u⟩
  .split at H
   .rename_i n;simp only[Nat.testBit_or,pB]at H;rcases H with(H|H)|H
    .exact .inl H
    .exact .inr ⟨x,aP,n,.inl H⟩
    exact .inr ⟨x,aP,n,.inr H⟩
   exact .inl H
  exact .inr ⟨e,by simp[v],u⟩
theorem arX(m:JC Z){i:Nat}{o:Oper}(f:Z[i]?=some o){j:Nat}(H:(((Region.before Z)[i]?).getD 0).testBit j):
  ∃e∈o.after,Region.binds .any e/\e.on<i/\(j=e.on\/(((Region.before Z)[e.on]?).getD 0).testBit j):=by
 unfold Region.before at H |-;rw[<-Wv]at H |-;obtain⟨F,E,y⟩:=au4 (λ(A:Array Nat) (o:Oper)=>o.after.foldl (λs e=>if Region.binds .any e then s|||2 ^ e.on|||A.getD e.on 0 else s) 0) Z.toList #[];obtain⟨pre,v,x,g⟩:=y i o (by simpa using f);simp only[Array.size_empty,lq]at v g;rw[g]at H;simp only[kZ]at H;rw[<-Wv]at H;rcases aDw (λe=>Region.binds .any e) (λe=>2 ^ e.on) (λe=>pre.getD e.on 0) _ _ _ H with h|⟨e,u,n,M⟩
 .simp at h
 have z:i<Z.size:=(N5.1 f).1;have D:e.on<i:=by unfold JC at m;have:=kr.1 m i (by simpa using z);rw[f]at this;rw[kr]at this;have:=this e (by simpa using u);simp only[n,BS,Di,iI]at this;exact this
 refine⟨e,by simpa using u,n,D,?_⟩;rcases M with M|M
 .left;rw[Nat.testBit_two_pow]at M;have B:e.on=j:=by simpa using M
  exact B.symm
 right;rw[x e.on J]
 simpa [Dh]using M
theorem ale{dst:Nat->eC}{base anc:Nat}{o:Oper}{io:mh}(h:GR P dst base nt anc o=some io):io.anc=anc:=by
 unfold GR at h;split at h
 .simp only[e_]at h;obtain⟨g,_,rfl⟩:=h;rfl
 cases h
structure aCs (P:Program) (ops:Array Oper) (base nt:Nat) (rem:List EH) (listed:Array Bool):Prop where
 pair:rem.Pairwise λp q=>p.i<q.i/\(q.io.anc.testBit p.i\/UT p q)
 comp:∀p∈rem,∃o,ops[p.i]?=some o/\GR P (λj=>(ops[j]?).bind (·.dst)) ((base+p.i)*64) nt (((Region.before ops)[p.i]?).getD 0) o=some p.io
 size:listed.size=ops.size
 free:∀i:Nat,listed[i]?=some false↔ ∃p∈rem,p.i=i
 closed:∀i:Nat,listed[i]?=some true->∀j:Nat,(((Region.before ops)[i]?).getD 0).testBit j->listed[j]?=some true
theorem Xn{L:Array Bool}{i:Nat}:i∈Region.ready .any Z L↔i<Z.size/\L.getD i true=false/\ ∃o,Z[i]?=some o/\ ∀e∈o.after,Region.binds .any e->L.getD e.on false:=by
 unfold Region.ready;simp only[rY,gN,c6,jf];constructor
 .rintro ⟨h,j,H⟩
  refine⟨h,j,Z[i],by simp[h],λe g m=>?_⟩;have f:Z[i]?=some Z[i]:=by simp[h]
  rw[f]at H;simp only[rm,kZ,Array.all_eq_true']at H;have:=H e g;rw[m]at this
  simpa using this
 rintro⟨h,j,o,f,H⟩
 refine⟨h,j,?_⟩;rw[f];simp only[rm,kZ,Array.all_eq_true'];intro e g;cases m:Region.binds .any e with
 |false=>rfl
 |true=>simp[H e g m]
theorem akB{l:Array Bool}{i:Nat}(h:l.getD i true=false):l[i]?=some false:=by
 rw[Dh]at h;cases H:l[i]? with
 |none=>rw[H]at h;simp at h
 |some b=>rw[H]at h;simp at h;rw[h]
theorem ax2{l:Array Bool}{i:Nat}(h:l.getD i false):l[i]?=some true:=by
 rw[Dh]at h;cases H:l[i]? with
 |none=>rw[H]at h;simp at h
 |some b=>rw[H]at h;simp at h;rw[h]
section
variable {G:World->Prop} (hG:Good G w0) {Y:mf} {D:sA} (hP:FL P G Y) (hS:Hg P G D) (hL:DF D) {E:nT}
include hG hP hS hL
theorem ao9(HM:JC Z){base:Nat}{Q:Exit->Act->World->Prop}:∀(f:Nat) {R:List EH}{L:Array Bool}{j:ct}{m:bJ}{a:Act},aCs P Z base nt R L->I R<=f->
  jV E Y D (R.map (·.io)) j m.aj=some (X,F,R.map (·.e))->dZ w0 m->lI m j a.tmps->a.tmps.size=nt->H8 w0 m a nt X F (λa' w'=>Q .normal a' w')->wpAny P .any Z Q f L a m.w:=by
 intro f
 induction f with
 |zero=>
  intro R L j m a hl H B aG hr T hK;have ab:R=[]:=by
   cases R with
   |nil=>rfl
   |cons _ _=>simp at H
  subst ab;simp only[lr,jV,iS,mY]at B;obtain⟨rfl,rfl,_⟩:=B;refine⟨?_,hK a m aG (h_.refl m) rfl rfl hr T rfl⟩;refine List.eq_nil_iff_forall_not_mem.2 λi hi=>?_;obtain⟨_,h2,_⟩:=Xn.1 hi;obtain⟨p,hp,_⟩:=(hl.free i).1 (akB h2);simp at hp
 |succ f ih=>
  intro R L j m a hl H B aG hr T hK;refine⟨λad=>?_,λi hi=>?_⟩
  .cases R with
   |nil=>simp only[lr,jV,iS,mY]at B;obtain⟨rfl,rfl,_⟩:=B;exact hK a m aG (h_.refl m) rfl rfl hr T rfl
   |cons p am=>
    exfalso;obtain⟨o,u,_⟩:=hl.comp p aP;have O:p.i<Z.size:=(N5.1 u).1;have xP:p.i∈Region.ready .any Z L:=by
     refine Xn.2 ⟨O,?_,o,u,λe he hb=>?_⟩
     .rw[Dh,(hl.free p.i).2 ⟨p,aP,rfl⟩];rfl
     have Gk:e.on<p.i:=by unfold JC at HM;have:=kr.1 HM p.i (by simpa using O);rw[u]at this;rw[kr]at this;have:=this e (by simpa using he);simp only[hb,BS,Di,iI]at this;exact this
     have ae:e.on<L.size:=by rw[hl.size];omega
     rw[Dh];cases aW:L[e.on]with
     |true=>simp[ae,aW]
     |false=>
      exfalso;obtain⟨q,g,n⟩:=(hl.free e.on).1 (by simp[ae,aW]);rcases dr.1 g with rfl|g
      .omega
      have:=((ot.1 hl.pair).1 q g).1;omega
    rw[ad]at xP;simp at xP
  obtain⟨h1,h2,o,u,h3⟩:=Xn.1 hi;obtain⟨p,hp,rfl⟩:=(hl.free i).1 (akB h2);obtain⟨l1,l2,rfl⟩:=List.append_of_mem hp;obtain⟨o',nX,CF⟩:=hl.comp p hp;rw[u]at nX;cases nX;have N:∀z:Nat,p.io.anc.testBit z->L[z]?=some true:=by
   intro z v;rw[ale CF]at v;obtain⟨e,he,hb,_,EA⟩:=arX HM u v;have Gk:=ax2 (h3 e he hb);rcases EA with rfl|EA
   .exact Gk
   exact hl.closed _ Gk z EA
  have M:=Ju.1 hl.pair;have ac:∀x∈l1,UT x p:=by
   intro x hx;rcases(M.2.2 x hx p aP).2 with h|h
   .have:=N _ h;rw[(hl.free x.i).2 ⟨x,by simp[hx],rfl⟩]at this;cases this
   exact h
  obtain⟨gV,bG,lS,iO⟩:=auU hL B ac;have key:=ajm (Q:=Q) (bY:=wpAny P .any Z Q f (L.setIfInBounds p.i true)) hG hP hS CF lS aG hr T (λa1 m1 k1 k2 k3 k4 k5 k6 k7=>by
   subst k4;have O:p.i<L.size:=by rw[hl.size];exact h1
   refine ih (R:=l1++l2) ⟨?_,λq g=>hl.comp q (by rcases iW.1 g with h|h<;>simp[h]),by simp[hl.size],λk=>?_,λk A z v=>?_⟩ (by simp at H |-;omega) iO k1 k5 k6 ?_
   .refine Ju.2 ⟨M.1,(ot.1 M.2.1).2,λx hx y hy=>M.2.2 x hx y (by simp[hy])⟩
   .rw[OE];by_cases A:p.i=k
    .subst A;rw[aD rfl,aD O];constructor
     .intro h;cases h
     rintro⟨q,g,n⟩
     rcases iW.1 g with h|h
     .have:=(M.2.2 q h p aP).1;omega
     have:=((ot.1 M.2.1).1 q h).1;omega
    rw[aC A,hl.free k];constructor
    .rintro ⟨q,g,n⟩
     rcases iW.1 g with h|h
     .exact⟨q,by simp[h],n⟩
     rcases dr.1 h with rfl|h
     .exact(A n).elim
     exact⟨q,by simp[h],n⟩
    rintro⟨q,g,n⟩
    rcases iW.1 g with h|h
    .exact⟨q,by simp[h],n⟩
    exact⟨q,by simp[h],n⟩
   .have yU:∀z:Nat,L[z]?=some true->(L.setIfInBounds p.i true)[z]?=some true:=by
     intro z v;rw[OE];split
     .first
       |rfl
       |(rename_i e;rw[aD O])
     exact v
    by_cases iH:p.i=k
    .subst iH;refine yU z (N z ?_);rw[ale CF];exact v
    rw[OE,aC iH]at A;exact yU z (hl.closed k A z v)
   intro a2 m2 p1 p2 p3 p4 p5 p6 p7;exact hK a2 m2 p1 (k2.trans p2) (p3.trans k3) p4 p5 p6 (p7.trans k7))
  unfold wpOp;rw[u];simp only;split at key
  .rename_i hw;rw[aD hw];exact .inl key
  rename_i hw;rw[aC hw];exact key
end
def uc:Nat->fI->gr->List EH
 |i,x::M,e::y=>⟨i,x,e⟩::uc (i+1) M y
 |_,_,_=>[]
theorem ax4:∀ {M:fI}{y:gr} (i:Nat),I y=I M->(uc i M y).map (·.io)=M/\(uc i M y).map (·.e)=y:=by
 intro M
 induction M with
 |nil=>intro y i h;cases y with
  |nil=>exact⟨rfl,rfl⟩
  |cons _ _=>simp at h
 |cons x M f=>intro y i h;cases y with
  |nil=>simp at h
  |cons e y=>obtain⟨g,H⟩:=f (y:=y) (i+1) (by simpa using h);exact⟨by simp[uc,g],by simp[uc,H]⟩
theorem apY{o:mh}:∀ {f:fI}{j:Nat},R6 o j f->∀k x,f[k]?=some x->o.anc.testBit (j+k)\/Im x o:=by
 intro f
 induction f with
 |nil=>intro j _ k x h;simp at h
 |cons y f g=>
  intro j h k x H;simp only[R6,c6,pB]at h;cases k with
  |zero=>simp at H;subst H;exact h.1
  |succ k=>have:=g h.2 k x (by simpa using H);rw[show j+(k+1)=j+1+k by omega];exact this
theorem aAC{anc:Nat}{e:je}:∀ {f:gr}{j:Nat},A3 anc e j f->∀k x,f[k]?=some x->anc.testBit (j+k)\/xG x e=false:=by
 intro f
 induction f with
 |nil=>intro j _ k x h;simp at h
 |cons y f g=>
  intro j h k x H;simp only[A3,c6,pB,jf]at h;cases k with
  |zero=>simp at H;subst H;exact h.1
  |succ k=>have:=g h.2 k x (by simpa using H);rw[show j+(k+1)=j+1+k by omega];exact this
theorem aoo:∀ {M:fI}{y:gr}{g:fI}{j:gr},I y=I M->I j=I g->Qp M g->ql M j y->
  (∀(q:EH),q∈uc (I g) M y->∀(k:Nat) (x:mh) (e:je),g[k]?=some x->j[k]?=some e->q.io.anc.testBit k\/(Im x q.io/\xG e q.e=false))/\
  (∀q∈uc (I g) M y,I g<=q.i)/\(uc (I g) M y).Pairwise λp q=>p.i<q.i/\(q.io.anc.testBit p.i\/UT p q):=by
 intro M
 induction M with
 |nil=>
  intro y g j _ _ _ _;have:uc (I g) [] y=[]:=by cases y<;>rfl
  rw[this];exact⟨λq h=>by simp at h,λq h=>by simp at h,.nil⟩
 |cons x M E=>
  intro y g j hl hp z v;cases y with
  |nil=>simp at hl
  |cons e y=>
   simp only[Qp,c6]at z;simp only[ql,c6]at v;obtain⟨i1,i2,i3⟩:=E (y:=y) (g:=g++[x]) (j:=j++[e]) (by simpa using hl) (by simp[hp]) z.2 v.2;have u:I (g++[x])=I g+1:=aP;rw[u]at i1 i2 i3;simp only[uc];refine⟨?_,?_,ot.2 ⟨?_,i3⟩⟩
   .intro q H k Y f A B;rcases dr.1 H with rfl|H
    .have n:=apY z.1 k Y A;have m:=aAC v.1 k f B;rw[lq]at n m;rcases n with n|n
     .exact .inl n
     rcases m with m|m
     .exact .inl m
     exact .inr ⟨n,m⟩
    have D:k<I g:=(cn.1 A).1;exact i1 q H k Y f (by rw[zl D];exact A) (by rw[zl J];exact B)
   .intro q H;rcases dr.1 H with rfl|H
    .exact c3 _
    have:=i2 q H;omega
   intro q H;refine⟨by have:=i2 q H;simp only;omega,?_⟩;exact i1 q H (I g) x e aP (by rw[<-hp];simp)
theorem aA4{anc:Nat->eC}{dst:Nat->eC}{base:Nat}:∀ {r:List Oper}{M:fI}{y:gr}{i:Nat},yS P dst anc base nt i r=some M->I y=I M->(∀j,Z[i+j]?=r[j]?)->
  (∀p∈uc i M y,∃o,Z[p.i]?=some o/\GR P dst ((base+p.i)*64) nt ((anc p.i).getD 0) o=some p.io)/\ ∀k,i<=k->k<i+I r->∃p∈uc i M y,p.i=k:=by
 intro r
 induction r with
 |nil=>
  intro M y i h _ _;simp only[yS,iS]at h;subst h;have:uc i [] y=[]:=by cases y<;>rfl
  rw[this];exact⟨λp h=>by simp at h,λk g H=>by simp at H;omega⟩
 |cons o r v=>
  intro M y i h hl f;obtain⟨x,X,rfl,g,H⟩:=acp h;cases y with
  |nil=>simp at hl
  |cons e y=>
   obtain⟨i1,i2⟩:=v (y:=y) H (by simpa using hl) (λj=>by have:=f (j+1);rw[show i+1+j=i+(j+1) by omega];simpa using this);refine⟨λp hp=>?_,λk z u=>?_⟩
   .rcases dr.1 hp with rfl|hp
    .exact⟨o,by have:=f 0;simpa using this,g⟩
    exact i1 p hp
   by_cases n:k=i
   .exact⟨⟨i,x,e⟩,by simp[uc],n.symm⟩
   obtain⟨p,hp,m⟩:=i2 k J (by simp at u;omega);exact⟨p,by simp[uc,hp],m⟩
theorem ave{E:nT}:∀ {M:fI}{j X:ct}{aj F:aN}{y:gr},jV E Y D M j aj=some (X,F,y)->I y=I M:=by
 intro M
 induction M with
 |nil=>intro j X aj F y h;simp only[jV,iS,mY]at h;rw[<-h.2.2];rfl
 |cons x M f=>
  intro j X aj F y h;simp only[jV]at h;split at h
  .split at h
   .rename_i H;cases h;simp[f H]
   cases h
  cases h
theorem aCU{dst anc:Nat->eC}{base:Nat}:∀ {r:List Oper}{M:fI}{i:Nat},yS P dst anc base nt i r=some M->I M=I r:=by
 intro r
 induction r with
 |nil=>intro M i h;simp only[yS,iS]at h;subst h;rfl
 |cons o r f=>intro M i h;obtain⟨x,X,rfl,_,H⟩:=acp h;simp[f H]
section
variable {G:World->Prop} (hG:Good G w0) {Y:mf} {D:sA} (hP:FL P G Y) (hS:Hg P G D) (hL:DF D) {E:nT}
include hG hP hS hL
theorem awt(CK:P.follows .mixedOrders){base id:Nat}{Q:Exit->Act->World->Prop}{l:fI}{y:gr}{a:Act}(v:yS P (λab=>(Z[ab]?).bind (·.dst)) (λi=>(Region.before Z)[i]?) base nt 0 Z.toList=some l)
  (R:JC Z) (hf:Qp l []) (g:jV E Y D l j m.aj=some (X,F,y)) (x:ql l [] y) (aG:dZ w0 m) (hr:lI m j a.tmps) (iN:a.tmps.size=nt) (hK:H8 w0 m a nt X F (λa' w'=>Q .normal a' w')):(Code.region id Z true).wp P Q a m.w:=by
 refine wp_region_any CK ?_;have H:=ave g;have jY:I l=Z.size:=by have:=aCU v;simpa using this
 obtain⟨g1,g2⟩:=ax4 0 H;obtain⟨_,_,hp⟩:=aoo (g:=[]) (j:=[]) H rfl hf x;obtain⟨n,c2⟩:=aA4 (Z:=Z) v H (λab=>aP);have yO:dZ w0 (m.later m.w.drew λ_=>False):=Q9 aG (jP.drew _) λ_ h=>h.elim;have u:h_ m (m.later m.w.drew λ_=>False):=OG (jP.drew _) λ_ h=>h.elim;have N:(m.later m.w.drew λ_=>False).fr=m.fr:=by funext c;simp[bJ.later]
 refine ao9 (m:=m.later m.w.drew λ_=>False) hG hP hS hL R Z.size (R:=uc 0 l y) (base:=base) ⟨hp,n,aP,λi=>?_,λi f=>?_⟩ ?_ (by rw[g1,g2];exact g) yO (hr.ev u) iN ?_
 .constructor
  .intro h;have f:i<Z.size:=by
    have:=(N5.1 h).1
    simpa using this
   exact c2 i (cG _) (by simpa using f)
  rintro⟨p,hp,rfl⟩
  obtain⟨o,ho,_⟩:=n p hp;have f:p.i<Z.size:=(N5.1 ho).1;simp[f]
 .rw[Array.getElem?_replicate]at f;split at f<;>simp at f
 .have:I (uc 0 l y)=I l:=by have:=congrArg List.length g1;simpa using this
  omega
 intro a2 M p1 L z B A O T;exact hK a2 M p1 (u.trans L) (z.trans N) B A O T
end
def aad:qm->Exit
 | .normal=>.normal
 | .exit i=>.exit i
 | .ret=>.ret
section
variable {G:World->Prop} (hG:Good G w0) {Y:mf} {D:sA} (hP:FL P G Y) (hS:Hg P G D) (hL:DF D) (CK:P.follows .mixedOrders) {E:nT}
include hG hP hS hL CK
theorem aCp:∀(c:Code) {R:aS}{j X:ct}{m:bJ}{F:aN}{e:qm}{a:Act}{Q:Exit->Act->World->Prop},rD P f nt c=some R->dR E Y D n R j m.aj=some (e,X,F)->dZ w0 m->lI m j a.tmps->a.tmps.size=nt->
  H8 w0 m a nt X F (λa' w'=>Q (aad e) a' w')->c.wp P Q a m.w:=by
 intro c
 induction c with
 |skip=>intro R j X m F e a Q H h aG hr u g;simp only[rD,iS]at H;subst H;simp only[dR,iS,mY]at h;obtain⟨rfl,rfl,rfl⟩:=h;exact wp_skip (g a m aG (h_.refl m) rfl rfl hr u rfl)
 |label l=>intro R j X m F e a Q H h aG hr u g;simp only[rD,iS]at H;subst H;simp only[dR,iS,mY]at h;obtain⟨rfl,rfl,rfl⟩:=h;exact wp_label (g a m aG (h_.refl m) rfl rfl hr u rfl)
 |ret=>intro R j X m F e a Q H h aG hr u g;simp only[rD,iS]at H;subst H;simp only[dR,iS,mY]at h;obtain⟨rfl,rfl,rfl⟩:=h;exact wp_ret (g a m aG (h_.refl m) rfl rfl hr u rfl)
 |exit id=>intro R j X m F e a Q H h aG hr u g;simp only[rD,iS]at H;subst H;simp only[dR,iS,mY]at h;obtain⟨rfl,rfl,rfl⟩:=h;exact wp_exit (g a m aG (h_.refl m) rfl rfl hr u rfl)
 |region id Z ad=>
  intro R j X m F e a Q H h aG hr u g;simp only[rD]at H;split at H
  .rename_i M Ql;cases ad with
   |false=>
    simp only[eI,if_false,iS]at H;subst H;simp only[dR]at h;split at h
    .rename_i e1 b1 y cV;simp only[eI,if_false,iS,mY]at h;obtain⟨rfl,rfl,rfl⟩:=h;exact aBd hG hP hS Ql cV aG hr u g
    cases h
   |true=>
    simp only[if_true]at H Ql;split at H
    .rename_i Em;simp only[c6]at Em;cases H;simp only[dR]at h;split at h
     .rename_i e1 b1 y cV;simp only[if_true]at h;split at h
      .rename_i hd;cases h;exact awt hG hP hS hL CK Ql Em.1 Em.2 cV hd aG hr u g
      cases h
     cases h
    cases H
  cases H
 |seq x aw ac ar=>
  intro R j X m F e a Q H h aG hr u g;simp only[rD]at H;split at H
  .rename_i ix iy h1 h2;cases H;simp only[dR]at h;refine wp_seq ?_;split at h
   .rename_i gV bG rh;refine ac h1 rh aG hr u ?_;intro a1 T L A v B z O N;subst B;refine ar h2 h L z O ?_;intro a2 m2 p1 p2 p3 p4 p5 p6 p7;exact g a2 m2 p1 (A.trans p2) (p3.trans v) p4 p5 p6 (p7.trans N)
   rename_i aO;refine ac h1 h aG hr u ?_;intro a1 T L A v B z O N;have:=g a1 T L A v B z O N;cases e with
   |normal=>exact(aO X F h).elim
   |exit i=>exact this
   |ret=>exact this
  cases H
 |cond x p q av am=>
  intro R j X m F e a Q H h aG hr u g;simp only[rD]at H;split at H
  .rename_i c' ip iq h1 h2 h3;cases H;simp only[dR]at h;split at h
   .rename_i t ht;have hv:=gv h1 hr;rw[ht]at hv;refine wp_cond (GH hv) ?_;cases t with
    |true=>simp only[if_true]at h |-;exact av h2 h aG hr u g
    |false=>simp only[eI,if_false]at h |-;exact am h3 h aG hr u g
   cases h
  cases H
 |block id c ih=>
  intro R j X m F e a Q H h aG hr u g;simp only[rD,e_]at H;obtain⟨ab,h1,rfl⟩:=H;simp only[dR]at h;refine wp_block ?_;split at h
  .rename_i i gV bG rh;refine ih h1 rh aG hr u ?_;intro a1 T L A v B z O N;simp only[aad,Exit.inBlock];split at h
   .rename_i hi;cases h;rw[aD hi];exact g a1 T L A v B z O N
   rename_i hi;cases h;rw[aC hi];exact g a1 T L A v B z O N
  rename_i aO;refine ih h1 h aG hr u ?_;intro a1 T L A v B z O N;have:=g a1 T L A v B z O N;cases e with
  |normal=>exact this
  |exit i=>exact(aO i X F h).elim
  |ret=>exact this
 |loop c ih=>
  intro R j X m F e a Q H h aG hr u g;simp only[rD,e_]at H;obtain⟨ab,h1,rfl⟩:=H;simp only[dR]at h;refine wp_loop_rounds n ?_;have key:∀(k:Nat) {j:ct}{m:bJ}{a:Act},n9 (dR E Y D n ab) k j m.aj=some (e,X,F)->dZ w0 m->lI m j a.tmps->a.tmps.size=nt->H8 w0 m a nt X F (λa' w'=>Q (aad e) a' w')->Code.rounds P c Q k a m.w:=by
   intro k
   induction k with
   |zero=>intro j m a h;simp[n9]at h
   |succ k ap=>
    intro j m a h aG hr u g;rw[rounds_succ];simp only[n9]at h;split at h
    .rename_i gV bG rh;refine ih h1 rh aG hr u ?_;intro a1 T L A v B z O N;subst B;refine ap h L z O ?_;intro a2 m2 p1 p2 p3 p4 p5 p6 p7;exact g a2 m2 p1 (A.trans p2) (p3.trans v) p4 p5 p6 (p7.trans N)
    rename_i aO;refine ih h1 h aG hr u ?_;intro a1 T L A v B z O N;have:=g a1 T L A v B z O N;cases e with
    |normal=>exact(aO X F h).elim
    |exit i=>exact this
    |ret=>exact this
  exact key n h aG hr u g
 |scope c ih=>intro R j X m F e a Q H h aG hr u g;simp only[rD]at H;refine wp_scope_straight ?_;refine ih H h aG hr u ?_;intro a1 T L A v B z O N;have:=g a1 T L A v B z O N;cases e<;>exact this
 |_=>intro R j X m F e a Q H h;simp only[rD,iS]at H;subst H;simp[dR]at h
end
section
variable{m:bJ}
theorem ayo{k:eC}{D:eE}{v:V}{u:Value}(h:tF k D=some v)(hr:df m v u):qP m v u:=by
 unfold tF at h;split at h
 .split at h
  .cases h;exact hr
  cases h
 split at h
 .cases h;exact hr
 cases h
theorem aur{v:V}{u:Value}(h:RT x=some v)(hr:df m x u):qP m v u:=by cases x<;>simp only[RT,iS,reduceCtorEq]at h<;>subst h<;>exact hr
theorem ako{α β:Type}{f:α->Sem β}{x:α}{M:List α}{y:β}{ys:List β}{w:World}(H:(f x).run P w=.ok y w)(h:(M.mapM f).run P w=.ok ys w):((x::M).mapM f).run P w=.ok (y::ys) w:=by simp only[List.mapM_cons,Sem.run_bind,H,h,Result.andThen_ok,Sem.run_pure]
theorem arO{al:cT}(aG:dZ w0 m){tmps:Array Value}(hr:lI m j tmps):∀ {R:List ResultVar}{l:List (Nat×Option eC)}{h:dT},Cy P R=some l->qJ al j m.aj l=some h->
  ∃ys,(R.mapM (λ| .tmp t=>pure (tmps.getD t undef)| .cell a t=>do loadVar t (<-asAddr (tmps.getD a undef)):ResultVar->Sem Value)).run P m.w=.ok ys m.w/\Pw (qP m) h ys:=by
 intro R
 induction R with
 |nil=>intro l h f H;simp only[Cy,iS]at f;subst f;simp only[qJ,iS]at H;subst H;exact⟨[],by simp[Sem.run_pure],rfl,λF x u p=>by simp at p⟩
 |cons r R B=>
  intro l h f H;have cons:∀ {x:V}{M:dT}{y:Value}{ys:List Value},qP m x y->Pw (qP m) M ys->Pw (qP m) (x::M) (y::ys):=by
   intro x M y ys p q;refine⟨by simp[q.1],λF z u a b=>?_⟩;cases F with
   |zero=>simp at a b;subst a b;exact p
   |succ F=>exact q.2 F z u (by simpa using a) (by simpa using b)
  cases r with
  |tmp t=>
   simp only[Cy,e_]at f;obtain⟨l',Q,rfl⟩:=f;simp only[qJ]at H;split at H
   .rename_i v q n E;cases H;obtain⟨ys,g1,g⟩:=B Q E;exact⟨_::ys,ako (by simp[Sem.run_pure]) g1,cons (aur n (hr t)) g⟩
   cases H
  |cell a t=>
   simp only[Cy]at f;split at f
   .rename_i k q n E;cases f;simp only[qJ]at H;split at H
    .rename_i D rd Y T X;split at H
     case isFalse=>cases H
     simp only[e_]at H;obtain⟨v,A,rfl⟩:=H;obtain⟨ys,g1,g⟩:=B E X;obtain⟨Z,y,O,N,L⟩:=ame n (ael aG T (hr a)) A;exact⟨y::ys,ako (by simp[O,asAddr,N]) g1,cons (ayo A L) g⟩
    cases H
   cases f
theorem ax7{al:cT}(aG:dZ w0 m){tmps:Array Value}(hr:lI m j tmps){fn:Func}{l:List (Nat×Option eC)}{h:dT}(n:Cy P fn.results.toList=some l)(H:qJ al j m.aj l=some h):
  ∃y,(results fn tmps).run P m.w=.ok y m.w/\df m (By h) y:=by
 obtain⟨ys,g1,g⟩:=arO aG hr n H;have nL:(results fn tmps).run P m.w=.ok (if A:ys.toArray.size=1 then ys.toArray[0]else .tuple ys.toArray) m.w:=by
  unfold results;simp only[Array.mapM_eq_mapM_toList,map_eq_pure_bind,Sem.run_bind,Result.andThen_ok,Sem.run_pure,bind_assoc,pure_bind]
  erw[g1]
  simp only[Result.andThen_ok,Sem.run_pure]
 refine⟨_,nL,?_⟩
 match h,ys,g with
 |[v],[y],g=>exact df.of1 (g.2 0 v y rfl rfl)
 |[],[],g=>exact⟨_,rfl,rfl,λz x u p=>by simp at p⟩
 |v::f::h,y::y'::ys,g=>refine⟨_,rfl,by simpa using g.1,λz x u p q=>g.2 z x u p (by simpa using q)⟩
 |[],y::ys,g=>exact absurd g.1 aP
 |v::h,[],g=>exact absurd g.1 aP
 |[v],y::y'::ys,g=>exact absurd g.1 aP
 |v::f::h,[y],g=>exact absurd g.1 aP
theorem afT{fn:aX}(h:FH P f=some fn):∃g c,P.funcs[f]?=some g/\g.body=some c/\(g.name== "runtime.NumGoroutine")=false/\rD P f g.ntmps c=some fn.body/\Cy P g.results.toList=some fn.results/\fn.ntmps=g.ntmps:=by
 unfold FH at h;split at h
 .cases h
 rename_i g H;split at h
 .cases h
 rename_i c n;split at h
 .cases h
 rename_i u;split at h
 .rename_i b r m j;cases h;exact⟨g,c,H,n,by simpa using u,m,j,rfl⟩
 cases h
def adI(S:Sys)(G:World->Prop):Prop:=∀f h r,S.prim f h=some (some r)->Enters S.P f/\ ∀(w:World) (O:Nat->Prop) (T:Array Value),Good G w->(∀c,O c->c<w.heap.size)->Pw (uL w O) h T.toList->Calls S.P f T w (yy w O r)
def axv(S:Sys)(G:World->Prop):Prop:=∀f h al aj v F,S.trig f h->(S.primS f h al aj).map (λr=>(r.1,app r.2 aj))=some (v,F)->
 (Enters S.P f/\ ∀(w0:World) (m:bJ) (T:Array Value),Good G w0->dZ w0 m->m.aj=aj->Pw (df m) h T.toList->Calls S.P f T m.w (Kw w0 m v F))/\
 (∀id,al.ok id=false->F id=aj id)/\
 ∀bh,(∀id,al.ok id->bh id=aj id)->∃g,(S.primS f h al bh).map (λr=>(r.1,app r.2 bh))=some (v,g)/\ ∀id,g id=if al.ok id then F id else bh id
structure KZ (S:Sys) (G:World->Prop):Prop where
 follow:S.P.follows .mixedOrders
 fns:∀f fn,S.fns f=some fn->FH S.P f=some fn
 prim:adI S G
 primS:axv S G
theorem azj{h:dT}(j:Pw (df m) h T.toList)(hl:I h<=nt):lI m (s_ h) (T++Array.replicate (nt-T.size) undef)/\(T++Array.replicate (nt-T.size) undef).size=nt:=by
 have ae:T.size=I h:=by simpa using j.1
 constructor
 .intro t;by_cases H:t<I h
  .have f:s_ h t=h[t]:=by simp[s_,List.getD,H]
   have g:(T++Array.replicate (nt-T.size) undef).getD t undef=T[t]:=by simp[Dh,adp,ae,H]
   rw[f,g];exact j.2 t _ _ (by simp[H]) (by simp[ae,H])
  have f:s_ h t=.undef:=by simp[s_,List.getD,pF (Wb H)]
  have g:(T++Array.replicate (nt-T.size) undef).getD t undef=undef:=by simp only[Dh,adp,ae,aC H];rw[Array.getElem?_replicate];split<;>rfl
  rw[f,g];rfl
 simp;omega
theorem azp(aG:dZ w0 m):∀ {o q:aF},mg o q->(∀id∈o,∃O,(m.aj id).2=some O/\O.iz)->(o.map m.σ).Nodup/\ ∀id∈q,id∉o:=by
 intro o
 induction o with
 |nil=>intro q _ _;exact⟨aP,λid _ h=>by simp at h⟩
 |cons i o E=>
  intro q h g;simp only[mg,c6,jf]at h;obtain⟨⟨F,u⟩,x⟩:=h;obtain⟨i1,i2⟩:=E x (λid H=>g id (by simp[H]));have y:i∉o:=by simpa using F
  have v:i∉q:=by simpa using u
  refine⟨?_,λid H=>?_⟩
  .rw[eJ,nR];refine⟨λX=>?_,i1⟩;obtain⟨j,n,z⟩:=dY.1 X;obtain⟨O,A,D⟩:=g i aP;obtain⟨f,B,b2⟩:=g j (by simp[n]);exact y (aG.inj j i f O B b2 A D z▸n)
  simp only[dr,za];exact⟨λe=>v (e▸H),i2 id H⟩
theorem aoM{aj:aN}:∀ {D:eE}{R:pD}{o q:aF},kS aj D=some (R,o,q)->I R=I D:=by
 intro D
 induction D with
 |nil=>intro R o q h;simp only[kS,iS,mY]at h;obtain⟨rfl,_,_⟩:=h;rfl
 |cons c D f=>
  intro R o q h;simp only[kS]at h;split at h
  .rename_i x O g M os Q j H;cases h;simp[f H]
  cases h
theorem alr{α β:Type}{f:α->Option (β×aF)}:∀ {M:List α}{ys:List β}{r:aF},iD f M=some (ys,r)->∀id∈r,∃x y q,f x=some (y,q)/\id∈q:=by
 intro M
 induction M with
 |nil=>intro ys r h id H;simp[iD]at h;rw[h.2]at H;simp at H
 |cons x M g=>
  intro ys r h id H;simp only[iD]at h;split at h
  .rename_i b p B q E j;cases h;rcases iW.1 H with H|H
   .exact⟨x,b,p,E,H⟩
   exact g j id H
  cases h
theorem aAd{aj:aN}:∀ {n:Nat}{c:dI}{x:PV}{r:aF},snap aj n c=some (x,r)->∀id∈r,∃O,(aj id).2=some O:=by
 intro n
 induction n with
 |zero=>intro c x r h;simp[snap]at h
 |succ n A=>
  intro c x r h id H;have one:∀ {i:Nat}{O:f_}{g:Nat},aj i=(g,some O)->id∈[i]->∃O,(aj id).2=some O:=by intro i O g f v;simp at v;subst v;exact⟨O,by rw[f]⟩
  have j:∀ {D:eE}{ps:b_}{r:aF},iD (snap aj n) D=some (ps,r)->id∈r->∃O,(aj id).2=some O:=by intro D ps r h v;obtain⟨x,y,q,u,m⟩:=alr h id v;exact A u id m
  unfold snap at h;split at h
  .cases h;simp at H
  .split at h
   .rename_i f;split at h
    .split at h
     .rename_i z;cases h;rcases dr.1 H with e|H
      .exact one f (by simp[e])
      exact j z H
     cases h
    cases h
   .rename_i f;split at h
    .cases h;exact one f H
    cases h
   cases h
  .split at h
   .rename_i f;split at h
    .simp only[e_]at h;obtain⟨e,_,m⟩:=h;cases m;exact one f H
    cases h
   .rename_i f;split at h
    .simp only[e_]at h;obtain⟨e,_,m⟩:=h;cases m;exact one f H
    cases h
   cases h
  .split at h
   .rename_i f;split at h
    .cases h;exact one f H
    cases h
   .rename_i f;split at h
    .cases h;exact one f H
    cases h
   .rename_i f;split at h
    .split at h
     .rename_i z;cases h;rcases dr.1 H with e|H
      .exact one f (by simp[e])
      obtain⟨x,y,q,u,m⟩:=alr z id H;exact j u m
     cases h
    cases h
   cases h
  .split at h
   .rename_i f;split at h
    .cases h;exact one f H
    cases h
   .rename_i f;split at h
    .cases h;exact one f H
    cases h
   cases h
  split at h
  .rename_i u m;cases h;rcases iW.1 H with H|H
   .exact j u H
   exact j m H
  cases h
theorem at5{aj:aN}:∀ {D:eE}{R:pD}{o q:aF},kS aj D=some (R,o,q)->∀id∈q,∃O,(aj id).2=some O:=by
 intro D
 induction D with
 |nil=>intro R o q h id H;simp only[kS,iS,mY]at h;rw[<-h.2.2]at H;simp at H
 |cons c D m=>
  intro R o q h id H;simp only[kS]at h;split at h
  .rename_i x u Q M os z f g;cases h;rcases iW.1 H with H|H
   .have dL:(snap aj fA c).map (λ(v,r)=>((.p v:nO),([]:aF),r))=some (x,u,Q)->∃O,(aj id).2=some O:=by
     intro f;simp only[e_]at f;obtain⟨⟨y,r⟩,j,n⟩:=f;cases n;exact aAd j id H
    unfold ij at f;split at f
    .cases f;simp at H
    .split at f
     .split at f
      .cases f;simp at H
      cases f
     exact dL f
    exact dL f
   exact m g id H
  cases h
theorem auQ{w:World}{Y:bJ}(aG:dZ w m)(E:h_ Y m)(oY:Y.w=w)(Z:∀c,¬Y.iz c)(vQ:m.fr=O){v:V}{r:RV}(y:iR m.aj v=some r)(hr:df m v val):yy w O r (.returned val) m.w:=by
 unfold iR at y;split at y
 .rename_i D dQ;split at y
  .rename_i rs o q F;split at y
   .rename_i jt;cases y;obtain⟨h,x,eX⟩:=avQ dQ hr;obtain⟨g1,g2⟩:=eX rs (aoM F);have L:=(afm aG (Q:=λ_=>False) (λ_ y=>y.elim) F x (λ_ _ y=>y)).2;obtain⟨iU,X⟩:=azp aG jt L;have A:∀b,(O b\/b∈o.map m.σ)->m.own b:=by
     intro b z;rcases z with z|z
     .exact .inl (vQ▸z)
     obtain⟨id,H,rfl⟩:=dY.1 z;obtain⟨f,B,M⟩:=L id H;exact .inr ⟨id,f,B,M,rfl⟩
    have hq:∀id∈q,¬(O (m.σ id)\/m.σ id∈o.map m.σ):=by
     intro id H u;obtain⟨f,g⟩:=at5 F id H;by_cases R:f.iz
     .rcases u with u|u
      .exact(aG.eF id f g R).2 (vQ▸u)
      obtain⟨j,hj,he⟩:=dY.1 u;obtain⟨ab,b1,b2⟩:=L j hj;exact X id H (aG.inj j id ab f b1 b2 g R he▸hj)
     have n:¬m.own (m.σ id):=by
      have N:=aG.obj id f g;cases f<;>simp[f_.iz]at R
      .obtain⟨_,_,_,_,_,n⟩:=N;exact n
      .obtain⟨_,_,_,_,_,_,_,_,_,n⟩:=N;exact n
      obtain⟨_,_,_,_,_,n⟩:=N;exact n
     exact n (A _ u)
    obtain⟨T,_⟩:=afm aG A F x hq;subst oY;refine⟨val,o.map m.σ,rfl,⟨E.os,E.tape,E.output,E.size,λc x=>E.keep c x (Z c)⟩,iU,λc x=>?_,h,g2,by rw[g1];exact T⟩;obtain⟨id,H,rfl⟩:=dY.1 x;obtain⟨f,B,M⟩:=L id H;exact⟨(aG.eF id f B M).1,(aG.obj id f B).lt⟩
   cases y
  cases y
 cases y
theorem uL.vrel{w:World}(H:m.w=w)(f:m.own=O)(h:uL w O x v):df m x v:=by
 subst H f;cases x with
 |undef=>exact h.elim
 |tup _=>exact h.elim
 |one c=>
  cases c with
  |p x=>exact p_ h
  |_=>exact h.elim
 |agg D=>obtain⟨arr,ps,rfl,rfl,hp⟩:=h;exact df.agg.2 ⟨arr,rfl,hp.GP⟩
theorem asU{E:nT}{fn:aX}{T:dT}{aj:aN}{v:V}(H:sP E Y D n fn T aj=some (v,F)):
  ∃e j h,dR E Y D n fn.body (s_ T) aj=some (e,j,F)/\(e=.normal\/e=.ret)/\qJ E.al j F fn.results=some h/\v=By h:=by
 unfold sP at H;split at H
 .rename_i j b m;simp only[e_]at H;obtain⟨h,g,f⟩:=H;cases f;exact⟨_,j,h,m,.inl rfl,g,rfl⟩
 .rename_i j b m;simp only[e_]at H;obtain⟨h,g,f⟩:=H;cases f;exact⟨_,j,h,m,.inr rfl,g,rfl⟩
 cases H
theorem ak6{G:World->Prop}(hG:Good G w0)(hP:FL P G Y)(hS:Hg P G D)(hL:DF D)(CK:P.follows .mixedOrders){E:nT}{fn:aX}(hc:FH P f=some fn){h:dT}{m:bJ}{v:V}(ab:sP E Y D n fn h m.aj=some (v,F))
  (hl:I h<=fn.ntmps) (aG:dZ w0 m) (ha:Pw (df m) h T.toList):Calls P f T m.w (Kw w0 m v F):=by
 obtain⟨u,c,O,H,h3,N,Q,h6⟩:=afT hc;obtain⟨e,j,Z,hx,he,X,rfl⟩:=asU ab;refine calls_of_wp O H ?_;obtain⟨s1,B⟩:=azj (nt:=u.ntmps) ha (by rw[<-h6];exact hl);refine aCp hG hP hS hL CK c N hx aG s1 B ?_;intro L M g k2 A k4 R k6 x;subst k4;obtain⟨y,g1,z⟩:=ax7 g R Q X;have:bodyPost P u (Kw w0 m (By Z) M.aj) .normal L M.w:=⟨x,y,g1,y,M,rfl,rfl,g,k2,A,rfl,z⟩;rcases he with rfl|rfl
 .exact this
 exact this
theorem afW{fn:aX}(m:FH P f=some fn):Enters P f:=by obtain⟨j,c,H,h,g,_⟩:=afT m;exact⟨j,c,H,h,g⟩
theorem sound{S:Sys}{G:World->Prop}(g:KZ S G):∀n,FL S.P G (jO S n)/\Hg S.P G (jJ S n)/\DF (jJ S n):=by
 intro n
 induction n with
 |zero=>exact⟨λf h r g=>by simp[jO]at g,λf h al aj v F g=>by simp[jJ]at g,λf h al aj v F g=>by simp[jJ]at g⟩
 |succ n ih=>
  obtain⟨hP,hS,hL⟩:=ih;refine⟨?_,?_,?_⟩
  .intro f h r H;rw[jO]at H;split at H
   .rename_i r' hp;subst H;exact g.prim f h r hp
   split at H
   .rename_i fn hfn;have Y:=g.fns f fn hfn;split at H
    .rename_i hl;refine⟨afW Y,λw O T hG hO z=>?_⟩;unfold IS at H;split at H
     .rename_i v F hr
      let M:bJ:=⟨w,BT,λ_=>0,λ_=>0,O⟩
      have R:M.own=O:=by
       funext c;apply propext;constructor
       .rintro (g|⟨id,o,g,_⟩)
        .exact g
        cases g
       exact .inl
      have aG:dZ w M:=⟨rfl,rfl,rfl,c3 _,λ_ _=>rfl,(λid o g=>by cases g),(λid o g=>by cases g),hO,(λid gi o o' g=>by cases g)⟩;have B:Pw (df M) h T.toList:=⟨z.1,λj x u p q=>(z.2 j x u p q).vrel rfl R⟩;refine(ak6 hG hP hS hL g.follow Y (m:=M) hr hl aG B).mono ?_;rintro e w' ⟨val,m',rfl,rfl,Z,q2,q3,q4,q5⟩
      subst q4;exact auQ (Y:=M) Z q2 rfl (λc ⟨id,o,g,_⟩=>by cases g) q3 H q5
     cases H
    cases H
   cases H
  .intro f h al aj v F H;rw[jJ]at H;by_cases y:S.trig f h
   .rw[aD y]at H;exact(g.primS f h al aj v F y H).1
   rw[aC y]at H;split at H
   .rename_i fn hfn;have Y:=g.fns f fn hfn;split at H
    .rename_i hl;refine⟨afW Y,λw0 m T hG aG X z=>?_⟩;subst X;exact ak6 hG hP hS hL g.follow Y H hl aG z
    cases H
   cases H
  intro f h al aj v F H;rw[jJ]at H;by_cases y:S.trig f h
  .rw[aD y]at H;obtain⟨_,N,Q⟩:=g.primS f h al aj v F y H;refine⟨N,λbh A=>?_⟩;obtain⟨D,L,E⟩:=Q bh A;exact⟨D,by rw[jJ,aD y];exact L,E⟩
  rw[aC y]at H;split at H
  .rename_i fn hfn;split at H
   .rename_i hl;obtain⟨N,Q⟩:=axX hL H;refine⟨N,λbh A=>?_⟩;obtain⟨D,L,E⟩:=Q bh A;exact⟨D,by rw[jJ,aC y];simp only[hfn,hl,if_true];exact L,E⟩
   cases H
  cases H
theorem aK.calls{S:Sys}{G:World->Prop}(H:KZ S G){h:dT}{r:RV}(j:aK S f h r)(w:World)(hG:Good G w)(T:Array Value)(g:Pw (uL w λ_=>False) h T.toList):Calls S.P f T w (yy w (λ_=>False) r):=by obtain⟨n,m⟩:=j;exact((sound H n).1 f h r m).2 w _ T hG (λc H=>H.elim) g
end
section
variable{T:dT}{D:sA}{Y:mf}{E:nT}
theorem af2(h:n<=9223372036854775807):IntKind.i64.wrap (n:Int)=n:=by have e:(2 ^ IntKind.i64.bits:Int)=18446744073709551616:=U;have E:(2 ^ (IntKind.i64.bits-1):Int)=9223372036854775808:=U;unfold IntKind.wrap;simp only[e,E];have H:(n:Int)%18446744073709551616=n:=J;rw[H];have f:¬(n:Int)≥9223372036854775808:=J;simp[f]
inductive eY where
 |leaf
 |node (v:V) (l r:eY)
noncomputable def eY.get (t:eY):Nat->V:=eY.rec (motive:=λ_=>Nat->V) (λ_=>.undef) (λv _ _ g eM n=>bif Nat.beq n 0 then v else bif Nat.beq (Nat.mod n 2) 1 then g (Nat.div n 2)else eM (Nat.sub (Nat.div n 2) 1)) t
noncomputable def eY.single (k:Nat):Nat->V->eY:=Nat.rec (motive:=λ_=>Nat->V->eY) (λ_ _=>.leaf) (λ_ f n x=>bif Nat.beq n 0 then .node x .leaf .leaf else bif Nat.beq (Nat.mod n 2) 1 then .node .undef (f (Nat.div n 2) x) .leaf else .node .undef .leaf (f (Nat.sub (Nat.div n 2) 1) x)) k
noncomputable def eY.set (t:eY):Nat->V->eY:=eY.rec (motive:=λ_=>Nat->V->eY) (λn x=>eY.single 12 n x) (λv l r sl f n x=>bif Nat.beq n 0 then .node x l r else bif Nat.beq (Nat.mod n 2) 1 then .node v (sl (Nat.div n 2) x) r else .node v l (f (Nat.sub (Nat.div n 2) 1) x)) t
theorem Hc{a b:Nat}(h:a≠b):Nat.beq a b=false:=by
 cases e:Nat.beq a b with
 |false=>rfl
 |true=>exact(h (DR e)).elim
theorem aDq(n:Nat):eY.leaf.get n=.undef:=rfl
theorem VT(v:V)(l r:eY)(n:Nat):(eY.node v l r).get n=if n=0 then v else if n%2=1 then l.get (n/2)else r.get (n/2-1):=by
 show(bif Nat.beq n 0 then v else bif Nat.beq (n%2) 1 then l.get (n/2)else r.get (n/2-1))=_;by_cases H:n=0
 .subst H;rfl
 rw[Hc H,aC H];by_cases h:n%2=1
 .rw[h];rfl
 rw[Hc h,aC h];rfl
theorem aeL(f:eY->eY)(g:eY->eY)(v:V)(l r:eY)(n m:Nat)(x:V)(hl:n%2=1->(f l).get (m/2)=if m/2=n/2 then x else l.get (m/2))(hr:n≠0->n%2≠1->(g r).get (m/2-1)=if m/2-1=n/2-1 then x else r.get (m/2-1)):
  (bif Nat.beq n 0 then eY.node x l r else bif Nat.beq (n%2) 1 then .node v (f l) r else .node v l (g r)).get m=if m=n then x else(eY.node v l r).get m:=by
 by_cases j:n=0
 .subst j;simp only[SF,cond_true,VT];by_cases h:m=0<;>simp[h]
 rw[Hc j];by_cases u:n%2=1
 .rw[u];simp only[cond_false,SF,cond_true,VT];by_cases h:m=0
  .subst h;rw[aD rfl,aC (λe=>j e.symm),aD rfl]
  rw[aC h];by_cases L:m%2=1
  .rw[aD L,hl u];by_cases H:m=n
   .subst H;simp
   rw[aC H,aC J,aC h,aD L]
  rw[aC L,aC J,aC h,aC L]
 rw[Hc u];simp only[cond_false,VT];by_cases h:m=0
 .subst h;rw[aD rfl,aC (λe=>j e.symm),aD rfl]
 rw[aC h];by_cases L:m%2=1
 .rw[aD L,aC J,aC h,aD L]
 rw[aC L,hr j u];by_cases H:m=n
 .subst H;simp
 rw[aC H,aC J,aC h,aC L]
theorem ayc:∀(k n m:Nat) (x:V),n+1<2 ^ k->(eY.single k n x).get m=if m=n then x else eY.leaf.get m:=by
 intro k
 induction k with
 |zero=>intro n m x h;simp at h
 |succ k f=>
  intro n m x h;have hp:2 ^ (k+1)=2*2 ^ k:=by rw[Nat.pow_succ];omega
  have:=aeL (λ_=>eY.single k (n/2) x) (λ_=>eY.single k (n/2-1) x) .undef .leaf .leaf n m x (λ_=>f _ _ _ J) (λ_ _=>f _ _ _ J);have e:(eY.node .undef .leaf .leaf).get m=eY.leaf.get m:=by rw[VT];simp[aDq]
  rw[e]at this;exact this
theorem eY.agO:∀(t:eY) (n m:Nat) (x:V),n+1<2 ^ 12->(t.set n x).get m=if m=n then x else t.get m:=by
 intro t
 induction t with
 |leaf=>intro n m x h;exact ayc 12 n m x h
 |node v l r g f=>intro n m x h;exact aeL (λl=>l.set (n/2) x) (λr=>r.set (n/2-1) x) v l r n m x (λ_=>g _ _ _ J) (λ_ _=>f _ _ _ J)
abbrev BL:=List (Nat×(Nat×Option f_))
noncomputable def K_ (b:BL) (n:Nat):Nat×Option f_:=List.rec (motive:=λ_=>Nat×Option f_) (0,none) (λp _ f=>bif Nat.beq p.1 n then p.2 else f) b
noncomputable def Qz:BL->Nat->Nat×Option f_->BL
 |[],n,x=>[(n,x)]
 |(i,o)::r,n,x=>bif Nat.beq i n then(i,x)::r else(i,o)::Qz r n x
theorem apO:∀(b:BL) (n:Nat) (x:Nat×Option f_) (m:Nat),K_ (Qz b n x) m=if m=n then x else K_ b m:=by
 intro b
 induction b with
 |nil=>
  intro n x m;simp only[Qz,K_];by_cases h:m=n
  .subst h;simp
  have:Nat.beq n m=false:=Hc λe=>h e.symm;simp[this,h]
 |cons p b f=>
  obtain⟨i,o⟩:=p;intro n x m;simp only[Qz];by_cases h:i=n
  .subst h;simp only[SF,cond_true,K_];by_cases H:m=i
   .subst H;simp
   have:Nat.beq i m=false:=Hc λe=>H e.symm;simp[this,H]
  have:Nat.beq i n=false:=Hc h;simp only[this,cond_false,K_];by_cases H:i=m
  .subst H;simp[h]
  have:Nat.beq i m=false:=Hc H;simp only[this,cond_false];exact f n x m
noncomputable def rU (t:eY):ct:=λi=>t.get i
noncomputable def ns (b:BL):aN:=λi=>K_ b i
noncomputable def LW:Nat->dT->eY->eY
 |_,[],t=>t
 |i,a::r,t=>LW (i+1) r (t.set i a)
theorem aAo:∀(l:dT) (i:Nat) (t:eY) (m:Nat),i+I l<4095->(LW i l t).get m=if i<=m/\m<i+I l then l.getD (m-i) .undef else t.get m:=by
 intro l
 induction l with
 |nil=>intro i t m _;simp[LW];intro f H;omega
 |cons a r g=>
  intro i t m h;simp only[dW]at h |-;rw[LW,g (i+1) _ m J,eY.agO t i m a J];by_cases f:m=i
  .subst f;rw[aC J,aD rfl,aD J];simp
  rw[aC f];by_cases H:i+1<=m/\m<i+1+I r
  .rw[aD H,aD J];obtain⟨k,rfl⟩:∃k,m=i+1+k:=⟨m-(i+1),J⟩;rw[show i+1+k-(i+1)=k by omega,show i+1+k-i=k+1 by omega];simp
  rw[aC H,aC J]
theorem awO(h:I T<4095):rU (LW 0 T .leaf)=s_ T:=by
 funext m;unfold rU s_;rw[aAo T 0 .leaf m J];by_cases H:m<I T
 .rw[aD J];rfl
 rw[aC J];simp[eY.get,List.getD,pF (Wb H)]
noncomputable def adn {α:Type} (n:Nat) (k:Nat->α):α:=match n with
 |0=>k 0
 |m+1=>k (m+1)
noncomputable def WG {α:Type} (z:Int) (k:Int->α):α:=match z with
 | .ofNat n=>adn n λn=>k (.ofNat n)
 | .negSucc n=>adn n λn=>k (.negSucc n)
noncomputable def Y5 {α:Type} (v:V) (k:V->α):α:=match v with
 | .one (.p (.int t z))=>WG z λz=>k (.one (.p (.int t z)))
 | .one (.p (.bool b))=>match b with
  |true=>k (.one (.p (.bool true)))
  |false=>k (.one (.p (.bool false)))
 |v=>k v
@[simp] theorem aDE {α:Type} (n:Nat) (k:Nat->α):adn n k=k n:=by cases n<;>rfl
@[simp] theorem aDC {α:Type} (z:Int) (k:Int->α):WG z k=k z:=by cases z<;>simp[WG]
@[simp] theorem atO {α:Type} (v:V) (k:V->α):Y5 v k=k v:=by
 unfold Y5;split
 .simp
 .split<;>rfl
 rfl
def RY(al:cT)(l:aF):Bool:=bif al.any then true else al.iA l
theorem awx(al:cT)(l:aF):RY al l=al.iA l:=by
 unfold RY;cases h:al.any with
 |false=>rfl
 |true=>simp[cT.iA,cT.ok,h]
abbrev rI:=Nat->dT->cT->BL->Option (V×BL)
noncomputable def Hl:mF->BL->BL
 |[],b=>b
 |(i,o)::r,b=>Hl r (Qz b i o)
theorem acq:∀(u:mF) (b:BL),ns (Hl u b)=app u (ns b):=by
 intro u
 induction u with
 |nil=>intro b;rfl
 |cons x u f=>obtain⟨i,o⟩:=x;intro b;simp only[Hl,app];rw[f];congr 1;funext m;exact apO b i o m
noncomputable def Lp (t:eY) (d:eC) (v:V) (k:eY->Option (eY×BL×je)):Option (eY×BL×je):=match d with
 |none=>k t
 |some n=>bif Nat.ble n 4000 then Y5 v λv=>k (t.set n v)else none
noncomputable def Ry (E:nT) (Y:mf) (D:rI) (o:mh) (t:eY) (b:BL):Option (eY×BL×je):=
 match s9 (rU t) o.guard with
 |none=>none
 |some false=>Lp t o.dst .undef λT=>some (T,b,⟨[],[],[]⟩)
 |some true=>match c5 E.shared (rU t) (ns b) o.op with
  | .fail=>none
  | .done v u r=>bif RY E.al (r++u.map (·.1))then Lp t o.dst v λT=>some (T,Hl u b,⟨r,u.map (·.1),[]⟩)else none
  | .pc f h r s=>match Y f h with
   |some x=>match fg (ns b) r s (x.fR (E.lone s))with
    |some (v,u)=>bif RY E.al (r++u.map (·.1))then Lp t o.dst v λT=>some (T,Hl u b,⟨r++u.map (·.1),u.map (·.1),[]⟩)else none
    |none=>none
   |none=>none
  | .sc f h=>match iB E f h (ns b)with
   |al=>bif E.al.holds al then
     match D f h al b with
     |some (v,L)=>Lp t o.dst v λT=>some (T,L,⟨al.ids,al.ids,al.fs⟩)
     |none=>none
    else none
noncomputable def Jh (D:sA) (g:rI):Prop:=∀f h al b v L,g f h al b=some (v,L)->D f h al (ns b)=some (v,ns L)
theorem Q0{t T:eY}{d:eC}{v:V}{b L:BL}{e e':je}(h:Lp t d v (λT=>some (T,b,e))=some (T,L,e')):dP (rU t) d v=rU T/\b=L/\e=e':=by
 unfold Lp at h;split at h
 .cases h;exact⟨rfl,rfl,rfl⟩
 rename_i n;cases H:Nat.ble n 4000 with
 |false=>rw[H]at h;cases h
 |true=>rw[H]at h;simp only[cond_true,atO]at h;cases h;refine⟨?_,rfl,rfl⟩;have:=jc H;funext m;unfold rU dP;exact(eY.agO t n m v J).symm
theorem aqY{m:rI}(ae:Jh D m){o:mh}{t T:eY}{b L:BL}{e:je}(H:Ry E Y m o t b=some (T,L,e)):nv E Y D o (rU t) (ns b)=some (rU T,ns L,e):=by
 unfold Ry at H;simp only[awx]at H;unfold nv;split at H
 .cases H
 .rename_i j;rw[j];obtain⟨g,rfl,rfl⟩:=Q0 H;simp only[g]
 rename_i j;rw[j];simp only;split at H
 .cases H
 .rename_i v u r hp;cases aG:E.al.iA (r++u.map (·.1))with
  |false=>rw[aG]at H;cases H
  |true=>rw[aG]at H;obtain⟨g,rfl,rfl⟩:=Q0 H;simp only[hp,aG,if_true,g,acq]
 .rename_i f h r s hp;split at H
  .rename_i x n;split at H
   .rename_i v u hl;cases aG:E.al.iA (r++u.map (·.1))with
    |false=>rw[aG]at H;cases H
    |true=>rw[aG]at H;obtain⟨g,rfl,rfl⟩:=Q0 H;simp only[hp,n,hl,aG,if_true,g,acq]
   cases H
  cases H
 rename_i f h hp;cases aG:E.al.holds (iB E f h (ns b))with
 |false=>rw[aG]at H;cases H
 |true=>
  rw[aG]at H;simp only[cond_true]at H;split at H
  .rename_i v B y;obtain⟨g,rfl,rfl⟩:=Q0 H;simp only[hp,aG,if_true,ae _ _ _ _ _ _ y,g]
  cases H
noncomputable def asz (E:nT) (Y:mf) (D:rI) (o:mh) (f:eY->BL->Option (eY×BL×gr)) (j:eY) (aj:BL):Option (eY×BL×gr):=
 match Ry E Y D o j aj with
 |some (X,F,e)=>match f X F with
  |some (O,L,y)=>some (O,L,e::y)
  |none=>none
 |none=>none
noncomputable def MD (E:nT) (Y:mf) (D:rI) (l:fI):eY->BL->Option (eY×BL×gr):=List.rec (motive:=λ_=>eY->BL->Option (eY×BL×gr)) (λj aj=>some (j,aj,[])) (λo _ f=>asz E Y D o f) l
theorem aAM(E:nT)(Y:mf)(D:rI)(j:eY)(aj:BL):MD E Y D [] j aj=some (j,aj,[]):=rfl
theorem auJ(E:nT)(Y:mf)(D:rI)(o:mh)(r:fI)(j:eY)(aj:BL):MD E Y D (o::r) j aj=match Ry E Y D o j aj with
  |some (X,F,e)=>match MD E Y D r X F with
   |some (O,L,y)=>some (O,L,e::y)
   |none=>none
  |none=>none:=rfl
theorem axf{f:rI}(ae:Jh D f):∀ {Z:fI}{t T:eY}{b L:BL}{y:gr},MD E Y f Z t b=some (T,L,y)->jV E Y D Z (rU t) (ns b)=some (rU T,ns L,y):=by
 intro Z
 induction Z with
 |nil=>intro t T b L y h;simp only[aAM,iS,mY]at h;obtain⟨rfl,rfl,rfl⟩:=h;rfl
 |cons o r g=>
  intro t T b L y h;simp only[auJ]at h;split at h
  .rename_i u B v m;split at h
   .rename_i n b2 j H;cases h;simp only[jV,aqY ae m,g H]
   cases h
  cases h
noncomputable def QC (f:eY->BL->Option (qm×eY×BL)) (n:Nat):eY->BL->Option (qm×eY×BL):=
 Nat.rec (motive:=λ_=>eY->BL->Option (qm×eY×BL)) (λ_ _=>none) (λ_ g j aj=>match f j aj with
  |some (.normal,X,F)=>g X F
  |r=>r) n
theorem az0(f:eY->BL->Option (qm×eY×BL))(n:Nat)(j:eY)(aj:BL):QC f (n+1) j aj=match f j aj with
  |some (.normal,X,F)=>QC f n X F
  |r=>r:=rfl
abbrev AP:=eY->BL->Option (qm×eY×BL)
noncomputable def apX (E:nT) (Y:mf) (D:rI) (d:Bool) (Z:fI):AP:=λj aj=>match MD E Y D Z j aj with
  |some (X,F,y)=>bif d then(bif ql Z [] y then some (.normal,X,F)else none)else some (.normal,X,F)
  |none=>none
noncomputable def az6 (a b:AP):AP:=λj aj=>match a j aj with
  |some (.normal,X,F)=>b X F
  |r=>r
noncomputable def apT (x:fu) (a b:AP):AP:=λj aj=>match ev (rU j) x with
  | .one (.p (.bool t))=>bif t then a j aj else b j aj
  |_=>none
noncomputable def auH (id:Nat) (c:AP):AP:=λj aj=>match c j aj with
  |some (.exit i,X,F)=>bif Nat.beq i id then some (.normal,X,F)else some (.exit i,X,F)
  |r=>r
noncomputable def vw (E:nT) (Y:mf) (D:rI) (n:Nat) (c:aS):AP:=
 aS.rec (motive:=λ_=>AP) (λj aj=>some (.normal,j,aj)) (λd Z=>apX E Y D d Z) (λ_ _ a b=>az6 a b) (λx _ _ a b=>apT x a b)
  (λid _ c=>auH id c) (λ_ c=>QC c n) (λid j aj=>some (.exit id,j,aj)) (λj aj=>some (.ret,j,aj)) (λ_ _=>none) c
section
variable (E:nT) (Y:mf) (D:rI) (n:Nat) (j:eY) (aj:BL)
theorem aCa:vw E Y D n .skip j aj=some (.normal,j,aj):=rfl
theorem aA9(id:Nat):vw E Y D n (.exit id) j aj=some (.exit id,j,aj):=rfl
theorem axH:vw E Y D n .ret j aj=some (.ret,j,aj):=rfl
theorem axN(d:Bool)(Z:fI):vw E Y D n (.region d Z) j aj=match MD E Y D Z j aj with
  |some (X,F,y)=>bif d then(bif ql Z [] y then some (.normal,X,F)else none)else some (.normal,X,F)
  |none=>none:=rfl
theorem aoW(a b:aS):vw E Y D n (.seq a b) j aj=match vw E Y D n a j aj with
  |some (.normal,X,F)=>vw E Y D n b X F
  |r=>r:=rfl
theorem asi(x:fu)(a b:aS):vw E Y D n (.cond x a b) j aj=match ev (rU j) x with
  | .one (.p (.bool t))=>bif t then vw E Y D n a j aj else vw E Y D n b j aj
  |_=>none:=rfl
theorem axo(id:Nat)(c:aS):vw E Y D n (.block id c) j aj=match vw E Y D n c j aj with
  |some (.exit i,X,F)=>bif Nat.beq i id then some (.normal,X,F)else some (.exit i,X,F)
  |r=>r:=rfl
theorem aCu(c:aS):vw E Y D n (.loop c) j aj=QC (vw E Y D n c) n j aj:=rfl
end
theorem aBu{f:eY->BL->Option (qm×eY×BL)}{g:ct->aN->Option (qm×ct×aN)}(y:∀t b e T L,f t b=some (e,T,L)->g (rU t) (ns b)=some (e,rU T,ns L)):
  ∀(n:Nat) {t T:eY}{b L:BL}{e:qm},QC f n t b=some (e,T,L)->n9 g n (rU t) (ns b)=some (e,rU T,ns L):=by
 intro n
 induction n with
 |zero=>intro t T b L e h;cases h
 |succ n j=>
  intro t T b L e h;simp only[az0]at h;simp only[n9];split at h
  .rename_i m B H;rw[y _ _ _ _ _ H];exact j h
  rename_i A;rw[y _ _ _ _ _ h];cases e with
  |normal=>exact(A _ _ h).elim
  |exit i=>rfl
  |ret=>rfl
theorem ahV{M:rI}(ae:Jh D M):∀(c:aS) {t T:eY}{b L:BL}{e:qm},vw E Y M n c t b=some (e,T,L)->dR E Y D n c (rU t) (ns b)=some (e,rU T,ns L):=by
 intro c
 induction c with
 |skip=>intro t T b L e h;simp only[aCa,iS,mY]at h;obtain⟨rfl,rfl,rfl⟩:=h;rfl
 |exit id=>intro t T b L e h;simp only[aA9,iS,mY]at h;obtain⟨rfl,rfl,rfl⟩:=h;rfl
 |ret=>intro t T b L e h;simp only[axH,iS,mY]at h;obtain⟨rfl,rfl,rfl⟩:=h;rfl
 |bad=>intro t T b L e h;cases h
 |region d Z=>
  intro t T b L e h;simp only[axN]at h;simp only[dR];split at h
  .rename_i F B y H;rw[axf ae H];simp only;cases d with
   |false=>simp only[cond_false]at h;cases h;simp
   |true=>
    simp only[cond_true]at h;cases z:ql Z [] y with
    |false=>rw[z]at h;cases h
    |true=>rw[z]at h;simp only[cond_true]at h;cases h;simp
  cases h
 |seq x R g m=>
  intro t T b L e h;simp only[aoW]at h;simp only[dR];split at h
  .rename_i F B H;rw[g H];exact m h
  rename_i A;rw[g h];cases e with
  |normal=>exact(A _ _ h).elim
  |exit i=>rfl
  |ret=>rfl
 |cond x p q v u=>
  intro t T b L e h;simp only[asi]at h;simp only[dR];split at h
  .rename_i Q N;rw[N];cases Q with
   |true=>simp only[cond_true]at h;simpa using v h
   |false=>simp only[cond_false]at h;simpa using u h
  cases h
 |block id c j=>
  intro t T b L e h;simp only[axo]at h;simp only[dR];split at h
  .rename_i i F B H;rw[j H];simp only;cases f:Nat.beq i id with
   |true=>rw[f]at h;simp only[cond_true]at h;cases h;rw[aD (DR f)]
   |false=>rw[f]at h;simp only[cond_false]at h;cases h;rw[aC];intro O;rw[O,SF]at f;cases f
  rename_i A;rw[j h];cases e with
  |normal=>rfl
  |exit i=>exact(A _ _ _ h).elim
  |ret=>rfl
 |loop c j=>intro t T b L e h;simp only[aCu]at h;simp only[dR];exact aBu (λ_ _ _ _ _ h=>j h) n h
noncomputable def IX (E:nT) (Y:mf) (D:rI) (n:Nat) (fn:aX) (T:dT) (aj:BL):Option (V×BL):=
 bif Nat.ble (I T) 4000 then
  match vw E Y D n fn.body (LW 0 T .leaf) aj with
  |some (.normal,j,F)=>(qJ E.al (rU j) (ns F) fn.results).map λh=>(By h,F)
  |some (.ret,j,F)=>(qJ E.al (rU j) (ns F) fn.results).map λh=>(By h,F)
  |_=>none
 else none
theorem atu{u:rI}(ae:Jh D u){fn:aX}{b L:BL}{v:V}(H:IX E Y u n fn T b=some (v,L)):sP E Y D n fn T (ns b)=some (v,ns L):=by
 unfold IX at H;unfold sP;cases hl:Nat.ble (I T) 4000 with
 |false=>rw[hl]at H;cases H
 |true=>
  rw[hl]at H;simp only[cond_true]at H;have:=jc hl;rw[<-awO J];split at H
  .rename_i j B m;rw[ahV ae _ m];simp only[e_]at H |-;obtain⟨h,g,f⟩:=H;cases f;exact⟨h,g,rfl⟩
  .rename_i j B m;rw[ahV ae _ m];simp only[e_]at H |-;obtain⟨h,g,f⟩:=H;cases f;exact⟨h,g,rfl⟩
  cases H
noncomputable def arh (S:Sys) (n:Nat) (Y:mf) (D:rI):mf:=λf T=>match S.prim f T with
  |some r=>r
  |none=>match S.fns f with
   |some fn=>bif Nat.ble (I T) fn.ntmps then
     match IX (S.ctx .all) Y D n fn T []with
     |some (v,b)=>iR (ns b) v
     |none=>none
    else none
   |none=>none
noncomputable def aoY (S:Sys) (n:Nat) (Y:mf) (D:rI):rI:=λf T al b=>bif S.trig f T then(S.primS f T al (ns b)).map (λr=>(r.1,Hl r.2 b))else match S.fns f with
  |some fn=>bif Nat.ble (I T) fn.ntmps then IX (S.ctx al) Y D n fn T b else none
  |none=>none
noncomputable def alX (S:Sys) (n:Nat):mf×rI:=Nat.rec (motive:=λ_=>mf×rI) (λ_ _=>none,λ_ _ _ _=>none) (λn f=>(arh S n f.1 f.2,aoY S n f.1 f.2)) n
noncomputable def Hm (S:Sys) (n:Nat):mf:=(alX S n).1
noncomputable def DV (S:Sys) (n:Nat):rI:=(alX S n).2
theorem apd(S:Sys)(n f:Nat)(T:dT):Hm S (n+1) f T=match S.prim f T with
  |some r=>r
  |none=>match S.fns f with
   |some fn=>bif Nat.ble (I T) fn.ntmps then
     match IX (S.ctx .all) (Hm S n) (DV S n) n fn T []with
     |some (v,b)=>iR (ns b) v
     |none=>none
    else none
   |none=>none:=rfl
theorem aC1(S:Sys)(n f:Nat)(T:dT)(al:cT)(b:BL):DV S (n+1) f T al b=bif S.trig f T then(S.primS f T al (ns b)).map (λr=>(r.1,Hl r.2 b))else match S.fns f with
  |some fn=>bif Nat.ble (I T) fn.ntmps then IX (S.ctx al) (Hm S n) (DV S n) n fn T b else none
  |none=>none:=rfl
theorem ano{Q:mf}(hp:J7 Y Q){f:rI}(ae:Jh D f){fn:aX}{b L:BL}{v:V}(h:IX E Y f n fn T b=some (v,L)):sP E Q D n fn T (ns b)=some (v,ns L):=UA hp (λ_ _ _ _ _ h=>h) (c3 _) (atu ae h)
theorem Sv(S:Sys):∀n,J7 (Hm S n) (jO S n)/\Jh (jJ S n) (DV S n):=by
 intro n
 induction n with
 |zero=>have y:∀f x,Hm S 0 f x=none:=λ_ _=>rfl;have m:∀f h al b,DV S 0 f h al b=none:=λ_ _ _ _=>rfl;exact⟨λf x r H=>(by rw[y]at H;cases H),λf h al b v L H=>(by rw[m]at H;cases H)⟩
 |succ n u=>
  obtain⟨hp,ae⟩:=u;refine⟨λf x r H=>?_,λf h al b v L H=>?_⟩
  .rw[apd]at H;rw[jO];split at H
   .rename_i R g;simp only[g];exact H
   rename_i g;simp only[g];split at H
   .rename_i fn hfn;simp only[hfn];cases hl:Nat.ble (I x) fn.ntmps with
    |false=>rw[hl]at H;cases H
    |true=>
     rw[hl]at H;simp only[cond_true]at H;rw[aD (jc hl)];split at H
     .rename_i v b hr;unfold IS;have:BT=ns []:=rfl;rw[this,ano hp ae hr];exact H
     cases H
   cases H
  rw[aC1]at H;rw[jJ];cases j:S.trig f h with
  |true=>
   rw[j]at H;simp only[cond_true]at H;rw[aD rfl];cases hp:S.primS f h al (ns b)with
   |none=>rw[hp]at H;cases H
   |some r=>rw[hp]at H;cases H;rw[rm,acq]
  |false=>
  rw[j]at H;simp only[cond_false,eI,if_false]at H |-;split at H
  .rename_i fn hfn;simp only[hfn];cases hl:Nat.ble (I h) fn.ntmps with
   |false=>rw[hl]at H;cases H
   |true=>rw[hl]at H;simp only[cond_true]at H;rw[aD (jc hl)];exact ano hp ae H
  cases H
theorem mx(S:Sys)(n:Nat){r:RV}(h:Hm S n f T=some r):aK S f T r:=⟨n,(Sv S n).1 _ _ _ h⟩
def BJ{α:Type}(f:α->α->Bool):List α->List α->Bool
 |[],[]=>true
 |a::r,b::s=>f a b&&BJ f r s
 |_,_=>false
theorem Iy{α:Type}{f:α->α->Bool}(H:∀a b,f a b->a=b):∀ {l m:List α},BJ f l m->l=m:=by
 intro l
 induction l with
 |nil=>intro m h;cases m with
  |nil=>rfl
  |cons b m=>cases h
 |cons a l g=>
  intro m h;cases m with
  |nil=>cases h
  |cons b m=>simp only[BJ,c6]at h;rw[H _ _ h.1,g h.2]
def Z4:IntKind->IntKind->Bool
 | .i64,.i64=>true
 |a,b=>decide (a=b)
theorem atm{a b:IntKind}(h:Z4 a b):a=b:=by
 cases a<;>cases b<;>first
  |rfl
  |(simp[Z4]at h)
def ID:Nat->PV->PV->Bool
 |0,_,_=>false
 |_+1,.int k a,.int k' b=>Z4 k k'&&a==b
 |_+1,.bool a,.bool b=>a==b
 |n+1,.sl a,.sl b=>BJ (BJ (ID n)) a b
 |n+1,.box a,.box b=>BJ (ID n) a b
 |n+1,.fn f a b,.fn g c d=>Nat.beq f g&&(BJ (ID n) a c&&BJ (ID n) b d)
 |_+1,.nils,.nils=>true
 |_+1,.vp,.vp=>true
 |_+1,_,_=>false
theorem axY:∀(n:Nat) (x y:PV),ID n x y->x=y:=by
 intro n
 induction n with
 |zero=>intro x y h;cases h
 |succ n f=>
  intro x y h;unfold ID at h;split at h
  .rename_i H;cases H
  .rename_i H;cases H;simp only[c6,dk]at h;rw[atm h.1,h.2]
  .rename_i H;cases H;simp only[dk]at h;rw[h]
  .rename_i H;cases H;rw[Iy (λ_ _ h=>Iy f h) h]
  .rename_i H;cases H;rw[Iy f h]
  .rename_i H;cases H;simp only[c6]at h;rw[DR h.1,Iy f h.2.1,Iy f h.2.2]
  .rfl
  .rfl
  cases h
def UX:dI->dI->Bool
 | .p a,.p b=>ID 12 a b
 |_,_=>false
theorem ahN{a b:dI}(h:UX a b):a=b:=by
 unfold UX at h;split at h
 .rw[axY _ _ _ h]
 cases h
def Tq:V->V->Bool
 | .one a,.one b=>UX a b
 | .agg a,.agg b=>BJ UX a b
 |_,_=>false
theorem aDx{a b:V}(h:Tq a b):a=b:=by
 unfold Tq at h;split at h
 .rw[ahN h]
 .rw[Iy (λ_ _ h=>ahN h) h]
 cases h
abbrev lV:=List (Nat×dT×RV)
def Ps:lV->Nat->dT->Option RV
 |[],_,_=>none
 |(f,a,r)::l,g,b=>bif Nat.beq f g&&BJ Tq a b then some r else Ps l g b
theorem az1:∀ {l:lV}{f:Nat}{a:dT}{r:RV},Ps l f a=some r->(f,a,r)∈l:=by
 intro l
 induction l with
 |nil=>intro f a r h;cases h
 |cons e l j=>
  obtain⟨g,b,s⟩:=e;intro f a r h;simp only[Ps]at h;cases H:(Nat.beq g f&&BJ Tq b a)with
  |true=>rw[H]at h;simp only[cond_true,iS]at h;simp only[c6]at H;rw[DR H.1,Iy (λ_ _ h=>aDx h) H.2,h];simp
  |false=>rw[H]at h;exact yc _ (j h)
def Sys.Am(S:Sys)(l:lV):Sys:={S with prim:=λf a=>match Ps l f a with
 |some r=>some (some r)
 |none=>S.prim f a}
def lM(S:Sys)(l:lV):Prop:=∀e∈l,aK S e.1 e.2.1 e.2.2
theorem lM.nil{S:Sys}:lM S []:=λe h=>by simp at h
theorem lM.cons{S:Sys}{l:lV}{a:dT}{r:RV}(h:aK S f a r)(hl:lM S l):lM S ((f,a,r)::l):=λe H=>by
 rcases dr.1 H with rfl|H
 .exact h
 exact hl e H
theorem lM.bound{S:Sys}:∀ {l:lV},lM S l->∃M,∀e∈l,jO S M e.1 e.2.1=some e.2.2:=by
 intro l
 induction l with
 |nil=>intro _;exact⟨0,λe h=>by simp at h⟩
 |cons e l f=>
  intro h;obtain⟨M,g⟩:=f λx H=>h x (by simp[H]);obtain⟨n,j⟩:=h e aP;refine⟨max M n,λx H=>?_⟩;rcases dr.1 H with rfl|H
  .exact Fp S (IP M n) _ _ _ j
  exact Fp S (Gp M n) _ _ _ (g x H)
theorem aBY{S:Sys}{l:lV}{M:Nat}(y:∀e∈l,jO S M e.1 e.2.1=some e.2.2):∀n,J7 (jO (S.Am l) n) (jO S (n+M))/\Rb (jJ (S.Am l) n) (jJ S (n+M)):=by
 intro n
 induction n with
 |zero=>exact⟨λf x r h=>by simp[jO]at h,λf x l k r h=>by simp[jJ]at h⟩
 |succ n g=>
  have E:n+1+M=(n+M)+1:=J;have u:∀al,(S.Am l).ctx al=S.ctx al:=λ_=>rfl;refine⟨λf x r h=>?_,λf x al k r h=>?_⟩
  .rw[jO]at h;cases hl:Ps l f x with
   |some R=>
    have hp:(S.Am l).prim f x=some (some R):=by simp only[Sys.Am,hl]
    rw[hp]at h;cases h;exact Fp S J _ _ _ (y _ (az1 hl))
   |none=>
    have hp:(S.Am l).prim f x=S.prim f x:=by simp only[Sys.Am,hl]
    rw[hp]at h;rw[E,jO];split at h
    .exact h
    have hfn:(S.Am l).fns f=S.fns f:=rfl;rw[hfn]at h;split at h
    .rename_i fn v;split at h
     .rename_i H;rw[aD H];rw[u]at h;exact afp g.1 g.2 J h
     cases h
    cases h
  rw[jJ]at h;rw[E,jJ];have j:(S.Am l).trig f x=S.trig f x:=rfl;have D:(S.Am l).primS f x al k=S.primS f x al k:=rfl;rw[j,D]at h;by_cases m:S.trig f x
  .rw[aD m]at h |-;exact h
  rw[aC m]at h |-;have hfn:(S.Am l).fns f=S.fns f:=rfl;rw[hfn]at h;split at h
  .rename_i fn v;split at h
   .rename_i H;rw[aD H];rw[u]at h;exact UA g.1 g.2 J h
   cases h
  cases h
theorem pW{S:Sys}{l:lV}(hl:lM S l)(n:Nat){r:RV}(h:Hm (S.Am l) n f T=some r):aK S f T r:=by obtain⟨M,H⟩:=hl.bound;exact⟨n+M,(aBY H n).1 _ _ _ ((Sv (S.Am l) n).1 _ _ _ h)⟩
inductive u4 {H:Type} (N:Nat):DataW H->Prop where
 |str (s:List UInt8) (h:I s<=N):u4 N (.lit (.string s))
 |lit (l:Lit) (h:∀s,l≠ .string s):u4 N (.lit l)
 |nil:u4 N .nil
 |slice (es sp:List (DataW H)) (h:I es<=N) (he:∀d∈es,u4 N d):u4 N (.slice es sp)
 |agg (es:List (DataW H)) (he:∀d∈es,u4 N d):u4 N (.agg es)
def mj(P:Program)(N:Nat):Nat->TypeId->b_->Prop
 |0,_,_=>False
 |n+1,t,ps=>match P.underlying t with
  |some .bool=>∃b,ps=[.bool b]
  |some (.int k)=>∃z,ps=[.int k z]/\(Lit.int k z).wf
  |some .string=>∃s:ByteArray,ps=[.str s]/\s.size<=N
  |some (.slice e)=>∃y,ps=[.sl y]/\I y<=N/\ ∀x∈y,mj P N n e x
  |some (.struct fs)=>∃g:q_,ps=g.flatten/\I g=I fs.toList/\ ∀(i:Nat) (f:Field) (x:b_),fs.toList[i]?=some f->g[i]?=some x->mj P N n f.type x
  |_=>False
def AS(P:Program):Nat->Nat->List Field->Bool
 |O,T,[]=>Nat.beq O T
 |O,T,f::r=>Nat.beq f.offset O&&AS P (O+P.cellsOf f.type) T r
def mK(P:Program):Nat->TypeId->Bool
 |0,_=>false
 |n+1,t=>match P.underlying t with
  |some .bool|some (.int _)|some .string=>true
  |some (.slice e)=>Nat.blt 0 (P.cellsOf e)&&mK P n e
  |some (.struct fs)=>AS P 0 (P.cellsOf t) fs.toList&&fs.toList.all λf=>mK P n f.type
  |_=>false
section
variable {H:Type} {enc:TypeId×Value->H} {P:Program} {w:World} {base:Nat} {sp:Nat->Bool} {held:Bool} {N:Nat}
theorem eK.append{w:World}{own:Nat->Prop}{M ys:b_}(H:eK w own M h)(k:eK w own ys us):eK w own (M++ys) (h++us):=Pw.append (R:=dn w own) H k
theorem ajl{w:World}{base:Nat}{a:Addr}{D:List Value}(h:w.cells? base a n=some D):I D=n/\ ∀i,i<n->a.add i=⟨a.block,a.off+i,none⟩/\w.cell? ⟨a.block,a.off+i,none⟩=D[i]? :=by
 unfold World.cells? at h;split at h
 .have hl:=mapM_some_length h;simp at hl;refine⟨hl,λi m=>?_⟩;have H:=mapM_some_get h i i (by simp[m]);have g:i<I D:=J;have f:D[i]?=some D[i]:=by simp[g]
  rw[f]at H;have A:(a.add i).spot=none:=by
   cases R:(a.add i).spot with
   |none=>rfl
   |some s=>
    simp only[World.cell?]at H;split at H
    .simp[R]at H
    cases H
  have e:a.add i=⟨a.block,a.off+i,none⟩:=by
   unfold Addr.add at A |-;split
   .rename_i j;subst j;rw[aD rfl]at A;cases a
    simp_all
   rfl
  refine⟨e,?_⟩;rw[f,<-H,e]
 cases h
theorem ayp{r:TypeId->List Value->Option (DataW H×List MemPlace)}(ih:∀t D x,mK P n t->r t D=some x->u4 N x.1->∃v,mj P N n t v/\eK w (λ_=>False) v D){D:List Value}{T:Nat}(ht:I D=T):
  ∀(fs:List Field) (O:Nat) (M:List (DataW H×List MemPlace)),AS P O T fs->(∀f∈fs,mK P n f.type)->
   fs.mapM (λf=>r f.type ((D.drop f.offset).take (P.cellsOf f.type)))=some M->(∀x∈M,u4 N x.1)->O<=T->(∀f∈fs,∀c x,r f.type c=some x->∀v,mj P N n f.type v->eK w (λ_=>False) v c->True)->
   ∃m:q_,I m=I fs/\(∀(i:Nat) (f:Field) (x:b_),fs[i]?=some f->m[i]?=some x->mj P N n f.type x)/\(eK w (λ_=>False) m.flatten (D.drop O)):=by
 intro fs
 induction fs with
 |nil=>
  intro O M z _ _ _ Y _;simp only[AS]at z;have:=DR z;refine⟨[],rfl,λi f x h=>by simp at h,?_⟩;have:D.drop O=[]:=by rw[List.drop_eq_nil_iff];omega
  rw[this];exact⟨rfl,λj x u h=>by simp at h⟩
 |cons f fs E=>
  intro O M z ho R hf Y hT;simp only[AS,c6]at z;have F:=DR z.1;rw[List.mapM_cons]at R;simp only[Option.bind_eq_bind,OZ,Option.pure_def,iS]at R;obtain⟨x,hx,X,Ql,rfl⟩:=R;obtain⟨v,p1,Z⟩:=ih _ _ _ (ho f aP) hx (hf x aP);have ab:=Z.1;by_cases A:O+P.cellsOf f.type<=T
  .obtain⟨m,q1,q2,q3⟩:=E (O+P.cellsOf f.type) X z.2 (λg hg=>ho g (by simp[hg])) Ql (λy B=>hf y (by simp[B])) A (λ_ _ _ _ _ _ _ _=>trivial);refine⟨v::m,by simp[q1],λi g y Q B=>?_,?_⟩
   .cases i with
    |zero=>simp at Q B;subst Q B;exact p1
    |succ i=>exact q2 i g y (by simpa using Q) (by simpa using B)
   have:D.drop O=(D.drop f.offset).take (P.cellsOf f.type)++D.drop (O+P.cellsOf f.type):=by rw[F,<-UZ];exact(nu _ _).symm
   rw[this];simp only[mO];exact eK.append Z q3
  exfalso;have mono:∀(l:List Field) (o:Nat),AS P o T l->o<=T:=by
   intro l
   induction l with
   |nil=>intro o h;simp only[AS]at h;have:=DR h;omega
   |cons g l L=>intro o h;simp only[AS,c6]at h;have:=L _ h.2;omega
  exact A (mono _ _ z.2)
theorem arM{f:Nat->Value}:∀(y:q_) (R:List (List Value)) (k:Nat),I R=I y->(∀(i:Nat) (e:b_) (v:List Value),y[i]?=some e->R[i]?=some v->eK w (λ_=>False) e v/\I v=sz/\ ∀j u,v[j]?=some u->f ((k+i)*sz+j)=u)->
  ∀(j:Nat) (x:PV),y.flatten[j]?=some x->dn w (λ_=>False) x (f (k*sz+j)):=by
 intro y
 induction y with
 |nil=>intro R k _ _ j x h;simp at h
 |cons e y E=>
  intro R k hl h j x H;cases R with
  |nil=>simp at hl
  |cons v R=>
   obtain⟨A,B,F⟩:=h 0 e v rfl rfl;have eh:I e=sz:=by rw[<-B];exact A.1.symm
   simp only[mO]at H;by_cases z:j<I e
   .rw[zl z]at H;have g:v[j]?=some v[j]:=by simp[show j<I v by omega]
    have:=F j _ g;simp only[vu]at this;rw[this];exact A.2 j x _ H g
   rw[wY J]at H;have:=E R (k+1) (by simpa using hl) (λi e' m D n=>by have:=h (i+1) e' m (by simpa using D) (by simpa using n);rw[show k+(i+1)=k+1+i by omega]at this;exact this) (j-I e) x H
   rw[show k*sz+j=(k+1)*sz+(j-I e) by rw[kG];omega];exact this
theorem aqt:∀(n F:Nat) (t:TypeId) (D:List Value) (x:DataW H×List MemPlace),mK P n t->DataW.trod enc P w base sp held F t D=some x->u4 N x.1->
  ∃ab,mj P N n t ab/\eK w (λ_=>False) ab D:=by
 intro n
 induction n with
 |zero=>intro F t D x h;simp[mK]at h
 |succ n ih=>
  intro F t D x aG h hf;cases F with
  |zero=>simp[DataW.trod]at h
  |succ F=>
   rw[DataW.trod_step]at h;have one:∀ {p:PV}{v:Value},dn w (λ_=>False) p v->eK w (λ_=>False) [p] [v]:=by
    intro p v hp;refine⟨rfl,λj x u a b=>?_⟩;cases j with
    |zero=>simp at a b;subst a b;exact hp
    |succ j=>simp at a
   unfold DataW.trodStep at h;unfold mK at aG;split at h
   case h_1 b A=>exact⟨[.bool b],by simp only[mj,A];exact⟨b,rfl⟩,one (.bool b)⟩
   case h_2 k k' z A=>
    split at h
    .rename_i X;obtain⟨rfl,ac⟩:=X;exact⟨[.int k' z],by simp only[mj,A];exact⟨z,rfl,ac⟩,one (.int k' z)⟩
    cases h
   case h_4 s A=>
    split at h
    .cases h;cases hf with
     |str _ ae=>exact⟨[.str s],by simp only[mj,A];exact⟨s,rfl,by simpa using ae⟩,one (.str s)⟩
     |lit _ ae=>exact(ae _ rfl).elim
    cases h
   case h_7 e A=>exact⟨[.sl []],by simp only[mj,A];exact⟨[],rfl,cG _,λx m=>by simp at m⟩,one (.BO none 0 (λ_=>rfl) (cG _))⟩
   case h_8 e a len Z A=>
    rw[A]at aG;simp only[c6]at aG;obtain⟨jS,ad⟩:=aG;have jS:0<P.cellsOf e:=by have:=jS;simp[Nat.blt]at this;omega
    simp only at h;split at h
    .rename_i X;obtain⟨hb,a0,Bf⟩:=X;simp only[e_,OZ]at h;obtain⟨elems,he,aO,aW,rfl⟩:=h;have av:I elems=len:=by simpa using mapM_some_length he
     cases hf with
     |slice _ _ hl R=>
     simp only[cY]at hl;have get:∀i,i<len->∃az row B,elems[i]?=some az/\w.cells? base (a.add (i*P.cellsOf e)) (P.cellsOf e)=some row/\mj P N n e B/\eK w (λ_=>False) B row:=by intro i g;have hg:=mapM_some_get he i i (by simp[g]);have aw:i<I elems:=J;rw[ue aw]at hg;simp only[OZ]at hg;obtain⟨row,E,O⟩:=hg;obtain⟨B,p1,p2⟩:=ih _ _ _ _ ad O (R _ (dY.2 ⟨_,List.getElem_mem aw,rfl⟩));exact⟨_,row,B,ue aw,E,p1,p2⟩
     cases vS:len with
     |zero=>refine⟨[.sl []],by simp only[mj,A];exact⟨[],rfl,cG _,λx m=>by simp at m⟩,one (.BO (some a) Z (λh=>by cases h) Bf)⟩
     |succ ar=>
      rw[<-vS];have h0:0<len:=J;obtain⟨_,aM,_,_,Ie,_,_⟩:=get 0 h0;have ha:a=⟨a.block,a.off,none⟩:=by
       have E:a.add 0=a:=by unfold Addr.add;rw[aD rfl]
       rw[zC,E]at Ie;have:=((ajl Ie).2 0 jS).1;rw[E]at this;exact this
      have Q:∀i,i<len->∃row B,I row=P.cellsOf e/\(∀j,j<P.cellsOf e->w.cell? ⟨a.block,a.off+(i*P.cellsOf e+j),none⟩=row[j]?)/\mj P N n e B/\eK w (λ_=>False) B row:=by
       intro i g;obtain⟨_,row,B,_,E,O,h3⟩:=get i g;obtain⟨l1,l2⟩:=ajl E;refine⟨row,B,l1,λj T=>?_,O,h3⟩;have:=(l2 j T).2;rw[<-this];have e2:a.add (i*P.cellsOf e)=⟨a.block,a.off+i*P.cellsOf e,none⟩:=by
        rw[ha];unfold Addr.add;split
        .rename_i h9;rw[h9];rfl
        rfl
       rw[e2];simp[FN]
      let row:Nat->List Value:=λi=>if h:i<len then(Q i h).choose else []
      let B:Nat->b_:=λi=>if h:i<len then(Q i h).choose_spec.choose else []
      have Y:∀i,i<len->I (row i)=P.cellsOf e/\(∀j,j<P.cellsOf e->w.cell? ⟨a.block,a.off+(i*P.cellsOf e+j),none⟩=(row i)[j]?)/\mj P N n e (B i)/\eK w (λ_=>False) (B i) (row i):=by intro i g;simp only[row,B,dif_pos g];exact(Q i g).choose_spec.choose_spec
      let y:=(List.range len).map B
      have TK:I y=len:=by simp[y]
      have Gd:∀(i:Nat) (x:b_),y[i]?=some x->i<len/\x=B i:=by
       intro i x m;have g:i<len:=by rw[<-TK];exact(cn.1 m).1
       refine⟨g,?_⟩;simp only[y,ig,qI g,rm,iS]at m;exact m.symm
      let f:Nat->Value:=λj=>(w.cell? ⟨a.block,a.off+j,none⟩).getD undef
      refine⟨[.sl y],?_,one ?_⟩
      .simp only[mj,A];refine⟨y,rfl,J,λx m=>?_⟩;obtain⟨i,g⟩:=j9 m;obtain⟨E,rfl⟩:=Gd i x g;exact(Y i E).2.2.1
      rw[ha];have dj:∀x∈y,I x=P.cellsOf e:=by intro x m;obtain⟨i,g⟩:=j9 m;obtain⟨E,rfl⟩:=Gd i x g;have:=(Y i E).2.2.2.1;rw[<-this];exact(Y i E).1
      have fv:=arM (w:=w) (sz:=P.cellsOf e) (f:=f) y ((List.range len).map row) 0 (by simp[TK]) (λi x v E O=>by
       obtain⟨g,rfl⟩:=Gd i x E;simp only[ig,qI g,rm,iS]at O;subst O;obtain⟨s1,s2,xQ,xW⟩:=Y i g;refine⟨xW,s1,λj u A=>?_⟩;have T:j<P.cellsOf e:=by rw[<-s1];exact(cn.1 A).1
       simp only[f,lq];rw[s2 j T,A];rfl)
      simp only[zC,lq]at fv;have xK:∀(l:q_),(∀x∈l,I x=P.cellsOf e)->I l.flatten=I l*P.cellsOf e:=by
       intro l
       induction l with
       |nil=>intro _;simp
       |cons x l am=>intro m;simp only[mO,gT,dW];rw[m x aP,am (λaz hy=>m az (by simp[hy])),kG];omega
      refine TK▸dn.sl a.block a.off Z (P.cellsOf e) f (λ_ h=>h) J Bf dj (λj x m=>?_) fv;have T:j<len*P.cellsOf e:=by have:=(cn.1 m).1;rw[xK y dj,TK]at this;exact this
      have g:j/P.cellsOf e<len:=Nat.div_lt_of_lt_mul (by rw[Nl];exact T);obtain⟨s1,s2,xQ,xW⟩:=Y _ g;have hm:j%P.cellsOf e<P.cellsOf e:=fk _ jS;have:=s2 _ hm;rw[show j/P.cellsOf e*P.cellsOf e+j%P.cellsOf e=j by rw[Nl];exact We j _]at this;have ap:(row (j/P.cellsOf e))[j%P.cellsOf e]?=some (row (j/P.cellsOf e))[j%P.cellsOf e]:=by simp[s1,hm]
      rw[ap]at this;simp only[f,this,kZ]
    cases h
   case h_9=>
    rename_i fs A;rw[A]at aG;simp only[c6]at aG;split at h
    .rename_i X;simp only[e_]at h;obtain⟨M,m,rfl⟩:=h;cases hf with
     |agg _ R=>
     obtain⟨L,p1,p2,p3⟩:=ayp (r:=DataW.trod enc P w base sp held F) (n:=n) (λt D x E O h3=>ih _ _ _ _ E O h3) X fs.toList 0 M aG.1 (λf hf=>kr.1 aG.2 f hf) m (λaz hy=>R _ (dY.2 ⟨az,hy,rfl⟩)) (cG _) (λ_ _ _ _ _ _ _ _=>trivial);refine⟨L.flatten,by simp only[mj,A];exact⟨L,rfl,p1,p2⟩,?_⟩
     simpa using p3
    cases h
   all_goals(first|(cases h;done)|(simp_all;done)|(exfalso;simp_all;done))
end
end
variable {H:Type} {enc:TypeId×Value->H} {P:Program} {w:World} {N:Nat}
theorem auL:∀(fs:List Field) (O T:Nat),AS P O T fs->T=O+(fs.map λf=>P.cellsOf f.type).sum/\ ∀(j:Nat) (f:Field),fs[j]?=some f->f.offset=O+((fs.take j).map λf=>P.cellsOf f.type).sum:=by
 intro fs
 induction fs with
 |nil=>intro O T h;simp only[AS]at h;have:=DR h;exact⟨by simp;omega,λj f h=>by simp at h⟩
 |cons f fs m=>
  intro O T h;simp only[AS,c6]at h;have n:=DR h.1;obtain⟨i1,i2⟩:=m _ _ h.2;refine⟨by simp;omega,λj g H=>?_⟩;cases j with
  |zero=>simp at H;subst H;simp;omega
  |succ j=>have:=i2 j g (by simpa using H);simp only[Fo,eJ,Ow];omega
theorem atN:Kids P (λt=>∃n,mK P n t):=by
 have un:∀ {t:TypeId},(∃n,mK P n t)->∃n,mK P (n+1) t:=by
  rintro t ⟨n,h⟩
  cases n with
  |zero=>simp[mK]at h
  |succ n=>exact⟨n,h⟩
 refine⟨λg H=>?_,λg H=>?_,λg H=>?_,λg H=>?_,λg H=>?_⟩
 .obtain⟨n,h⟩:=un g;simp[mK,H]at h
 .obtain⟨n,h⟩:=un g;simp only[mK,H,c6]at h;exact⟨n,h.2⟩
 .obtain⟨n,h⟩:=un g;simp[mK,H]at h
 .obtain⟨n,h⟩:=un g;simp only[mK,H,c6]at h;obtain⟨x,m⟩:=auL _ _ _ h.1;refine⟨λf u=>⟨n,kr.1 h.2 f u⟩,by rw[x];simp,λj f v=>by rw[m j f v];simp⟩
 obtain⟨n,h⟩:=un g;simp[mK,H]at h
theorem as8{t:TypeId}{d:DataW H}{ps:List MemPlace}(g:∃n,mK P n t)(h:DataW.Trod enc P w 0 (λ_=>true) true t v d ps)
  (E:∀p∈ps,w.sameAt w' p) (ae:∀p∈ps,KC p.block):DataW.Trod enc P w' 0 KC true t v d ps:=by
 obtain⟨f,h⟩:=h;refine⟨f,DataW.trod_stays (T:=λt=>∃n,mK P n t) atN ?_ (λh=>by cases h) g h E ae⟩;rintro t e ⟨n,h⟩ j
 cases n with
 |zero=>simp[mK]at h
 |succ n=>simp only[mK,j,c6]at h;have:=h.1;simp[Nat.blt]at this;omega
theorem apD:∀ {T:List TypeId}{h:List Value}{D:List (DataW H)}{ps:List MemPlace},(∀t∈T,∃n,mK P n t)->DataW.TrodAll enc P w 0 (λ_=>true) true T h D ps->
  (∀p∈ps,w.sameAt w' p)->(∀p∈ps,KC p.block)->DataW.TrodAll enc P w' 0 KC true T h D ps:=by
 intro T
 induction T with
 |nil=>intro h D ps _ j _ _;cases h<;>cases D<;>exact j
 |cons t T z=>
  intro h D ps g j L m;cases h with
  |nil=>exact j.elim
  |cons v h=>
   cases D with
   |nil=>exact j.elim
   |cons d D=>obtain⟨p,q,A,u,rfl⟩:=j;exact⟨p,q,as8 (g t aP) A (λx f=>L x (by simp[f])) (λx f=>m x (by simp[f])),z (λt y=>g t (by simp[y])) u (λx f=>L x (by simp[f])) (λx f=>m x (by simp[f])),rfl⟩
def Ik(P:Program)(t:TypeId)(ps:b_):V:=
 match P.underlying t with
 |some (.struct _)=>.agg (ps.map .p)
 |_=>match ps with
  |[x]=>.one (.p x)
  |_=>.undef
theorem ass{r:Reach}{b0:Nat}{t:TypeId}{d:DataW H}{ps:List MemPlace}(A:mK P n t)(f:Value.okWide P w r b0 t v)(h:DataW.Trod enc P w 0 sp held t v d ps)(E:u4 N d):
  ∃j,mj P N n t j/\uL w (λ_=>False) (Ik P t j) v:=by
 obtain⟨F,h⟩:=h;obtain⟨j,m,z⟩:=aqt n F t _ _ A h E;refine⟨j,m,?_⟩;cases n with
 |zero=>simp[mK]at A
 |succ n=>
  have one:∀x:PV,j=[x]->(∀D,v≠ .agg D)->dn w (λ_=>False) x v:=by
   rintro x rfl B
   have:v.cells.toList=[v]:=by
    cases v<;>first
     |rfl
     |exact(B _ rfl).elim
   rw[this]at z;exact z.2 0 x v rfl rfl
  have g:∀ {k:TypeDesc},P.underlying t=some k->(∀fs,k≠ .struct fs)->(∀a b,k≠ .array a b)->∀D,v≠ .agg D:=by
   rintro k u L M D rfl
   unfold Value.okWide at f;rw[u]at f;cases k<;>simp_all[Cell.okWide,Cell.ok]
  simp only[mj]at m;unfold Ik;cases u:P.underlying t with
  |none=>rw[u]at m;exact m.elim
  |some k=>
   rw[u]at m;cases k<;>simp only at m<;>try exact m.elim
   case bool=>obtain⟨b,rfl⟩:=m;exact one _ rfl (g u aP aP)
   case int k=>obtain⟨b,rfl,_⟩:=m;exact one _ rfl (g u aP aP)
   case string=>obtain⟨b,rfl,_⟩:=m;exact one _ rfl (g u aP aP)
   case slice e=>obtain⟨y,rfl,_⟩:=m;exact one _ rfl (g u aP aP)
   case struct fs=>unfold Value.okWide at f;rw[u]at f;simp only at f;obtain⟨D,rfl,O,_⟩:=f;exact⟨D,j,rfl,rfl,z⟩
def Q6(P:Program)(N n:Nat):List TypeId->q_->Prop
 |[],[]=>True
 |t::T,p::ps=>mj P N n t p/\Q6 P N n T ps
 |_,_=>False
def D8(P:Program):List TypeId->q_->dT
 |t::T,p::ps=>Ik P t p::D8 P T ps
 |_,_=>[]
theorem aol{r:Reach}{b0:Nat}:∀ {T:List TypeId}{h:List Value}{D:List (DataW H)}{ps:List MemPlace},(∀t∈T,mK P n t)->(∀(j:Nat) t v,T[j]?=some t->h[j]?=some v->Value.okWide P w r b0 t v)->
  DataW.TrodAll enc P w 0 sp held T h D ps->(∀d∈D,u4 N d)->∃f,Q6 P N n T f/\Pw (uL w (λ_=>False)) (D8 P T f) h:=by
 intro T
 induction T with
 |nil=>
  intro h D ps _ _ m _;cases h with
  |nil=>exact⟨[],trivial,rfl,λj x u m=>by simp[D8]at m⟩
  |cons v h=>cases D<;>exact m.elim
 |cons t T ih=>
  intro h D ps z B m A;cases h with
  |nil=>exact m.elim
  |cons v h=>
   cases D with
   |nil=>exact m.elim
   |cons d D=>
    obtain⟨p,q,X,O,rfl⟩:=m;obtain⟨x,Y,Z⟩:=ass (z t aP) (B 0 t v rfl rfl) X (A d aP);obtain⟨M,L,b2,R⟩:=ih (λt Q=>z t (by simp[Q])) (λj t v g E=>B (j+1) t v (by simpa using g) (by simpa using E)) O (λd F=>A d (by simp[F]));refine⟨x::M,⟨Y,L⟩,by simpa [D8]using b2,λj y u g E=>?_⟩;cases j with
    |zero=>simp[D8]at g E;subst g E;exact Z
    |succ j=>exact R j y u (by simpa [D8]using g) (by simpa using E)
open Go.RowKit
theorem jP.avl(w:World)(k:Nat)(os:Array Obj):jP w (Go.Sort.grow (w.drewN k) os):=
 ⟨rfl,rfl,rfl,by simp[Go.Sort.grow,World.drewN],λc h=>by simp[Go.Sort.grow,World.drewN,adp,h]⟩
theorem NL{w:World}{x:PV}(f:jP w w')(h:dn w' O x v):yy w O (.one (.p x)) (.returned v) w':=
 ⟨v,[],rfl,f,qF,λc g=>by simp at g,[v],rfl,v,[],rfl,h.mono λc _ j=>⟨rfl,λH=>j (H.elim id λh=>by simp at h)⟩,rfl,rfl⟩
theorem So{w:World}{x:PV}(h:Pw (uL w O) [.one (.p x)] T.toList):∃v,T= #[v]/\dn w O x v:=by
 obtain⟨f,H⟩:=h;obtain⟨l⟩:=T
 match l,f with
 |[v],_=>exact⟨v,rfl,H 0 _ v rfl rfl⟩
theorem amS{w:World}(h:dn w O (.sl []) v):∃a f,v=.slice a 0 f/\(a=none->f=0)/\f<=maxLen:=by
 generalize H:PV.sl []=x at h;cases h<;>cases H
 .exact⟨_,_,rfl,by assumption,by assumption⟩
 exact⟨_,_,rfl,λh=>by simp at h,by assumption⟩
theorem akn{w:World}{a:Option Addr}{f:Nat}(h:a=none->f=0)(H:f<=maxLen):dn w O (.sl []) (.slice a 0 f):=.BO a f h H
def MA:Nat->Nat->List UInt8->List UInt8
 |0,_,A=>A
 |k+1,u,A=>bif Nat.blt u 10 then UInt8.ofNat (Nat.add 48 u)::A else MA k (Nat.div u 10) (UInt8.ofNat (Nat.add 48 (Nat.mod u 10))::A)
theorem ajh:∀(k u:Nat) (A:List UInt8),u<10 ^ (k+1)->MA (k+1) u A=Lib.decDigits u++A:=by
 intro k
 induction k with
 |zero=>
  intro u A h;have h:u<10:=by simpa using h
  unfold Lib.decDigits;have H:Nat.blt u 10:=Nat.ble_eq_true_of_le h;simp only[MA,H,cond_true,dif_pos h];rfl
 |succ k g=>
  intro u A h;rw[Lib.decDigits,MA];by_cases f:u<10
  .have H:Nat.blt u 10:=Nat.ble_eq_true_of_le f;simp only[H,cond_true,dif_pos f];rfl
  have H:Nat.blt u 10=false:=by
   cases e:Nat.blt u 10 with
   |false=>rfl
   |true=>exact(f (jc e)).elim
  simp only[H,cond_false,dif_neg f];have:(Nat.div u 10)<10 ^ (k+1):=by have e:Nat.div u 10=u/10:=rfl;rw[e];have:10 ^ (k+1+1)=10 ^ (k+1)*10:=Nat.pow_succ ..;omega
  rw[g _ _ this];simp only[sn,List.singleton_append];rfl
def WR(n:Int):ByteArray:=⟨(match n with| .ofNat u=>MA 20 u []| .negSucc u=>45::MA 20 (Nat.succ u) []).toArray⟩
theorem axM(n:Int)(H: -9223372036854775808<=n)(h:n<=9223372036854775807):WR n=⟨(Lib.itoa n).toArray⟩:=by
 unfold WR Lib.itoa;cases n with
 |ofNat u=>have:¬(Int.ofNat u<0):=aP;rw[aC this];simp only;rw[ajh 19 u [] (by simp at h;omega)];simp
 |negSucc u=>have:Int.negSucc u<0:=Int.negSucc_lt_zero u;rw[aD this];simp only;rw[ajh 19 (Nat.succ u) [] J];simp[Int.natAbs]
def W8(T:dT):Option RV:=
 match T with
 |[.one (.p (.int .i64 n))]=>if -9223372036854775808<=n/\n<=9223372036854775807 then some (.one (.p (.str (WR n))))else none
 |_=>none
theorem awj{P:Program}{N:String}{G:World->Prop}{T:dT}{r:RV}(hG:∀w,G w->Lib.TabIs P w N .u64 Lib.pow10Tab)
  (H:∀(n:Int),-9223372036854775808<=n->n<=9223372036854775807->∀w:World,Lib.TabIs P w N .u64 Lib.pow10Tab->Calls P f #[.int .i64 n] w λe w'=>e=.returned (.string ⟨(Lib.itoa n).toArray⟩)/\ ∃k os,w'=Go.Sort.grow (w.drewN k) os)
  (h:W8 T=some r):∀(w:World) (O:Nat->Prop) (as:Array Value),Good G w->Pw (uL w O) T as.toList->Calls P f as w (yy w O r):=by
 intro w O as g m;unfold W8 at h;split at h
 .rename_i n;split at h
  .rename_i hr;cases h;obtain⟨v,rfl,hp⟩:=So m;generalize j:PV.int .i64 n=x at hp;cases hp<;>cases j
   refine(H n hr.1 hr.2 w (hG w g.1)).mono ?_;rintro e w' ⟨rfl,k,os,rfl⟩
   rw[axM n hr.1 hr.2];exact NL (jP.avl _ _ _) (.str _)
  cases h
 cases h
def N4(T:dT):Option RV:=
 match T with
 |[.one (.p (.int .u64 n))]=>if 0<=n/\n<=18446744073709551615 then some (.one (.p (.int .i64 (Lib.bitLen n.toNat))))else none
 |_=>none
theorem awg{P:Program}{T:dT}{r:RV}(H:∀(x:Int) (w:World),0<=x->x<=18446744073709551615->Calls P f #[.int .u64 x] w λe w'=>e=.returned (.int .i64 (Lib.bitLen x.toNat))/\w'=w)
  (h:N4 T=some r):∀(w:World) (O:Nat->Prop) (as:Array Value),Pw (uL w O) T as.toList->Calls P f as w (yy w O r):=by
 intro w O as j;unfold N4 at h;split at h
 .rename_i n;split at h
  .rename_i hr;cases h;obtain⟨v,rfl,hp⟩:=So j;generalize g:PV.int .u64 n=x at hp;cases hp<;>cases g
   refine(H n w hr.1 hr.2).mono ?_;rintro e w' ⟨rfl,rfl⟩
   exact NL (jP.refl _) (.int _ _)
  cases h
 cases h
def U8(T:dT):Option (Option RV):=
 match T with
 |[.one (.p (.sl []))]=>some (some (.one (.p (.sl []))))
 |_=>none
theorem awi{S:Sys}{G:World->Prop}(hS:KZ S G){z i Z:Nat}{fn:aX}(hfn:S.fns f=some fn)(h1:jO S n f [.one (.p .nils)]=some (.one (.p .nils)))
  (L:jJ S n f [.one (.hsl 0 0 z 0 0)] .all BT=some (.one (.hsl i g Z 0 0),F)) {T:dT}{r:RV} (H:U8 T=some (some r)):
  ∀(w:World) (O:Nat->Prop) (as:Array Value),Good G w->(∀c,O c->c<w.heap.size)->Pw (uL w O) T as.toList->Calls S.P f as w (yy w O r):=by
 intro w O as B A ha;unfold U8 at H;split at H
 .cases H;obtain⟨v,rfl,hp⟩:=So ha;obtain⟨a,m,rfl,hn,hm⟩:=amS hp;cases a with
  |none=>
   obtain rfl:=hn rfl;refine((sound hS n).1 f _ _ h1 |>.2 w O #[.slice none 0 0] B A ⟨rfl,λj x u p q=>?_⟩).mono ?_
   .cases j with
    |zero=>simp at p q;subst p q;exact dn.nils
    |succ j=>simp at p
   rintro e w' ⟨val,bs,rfl,xL,iU,sX,h,D,Q⟩
   obtain⟨v0,qL,Y,N,e3,e4⟩:=Q;have y:h=[val]:=D;subst y;cases Y;subst e4;cases N;exact NL xL (akn (λ_=>rfl) (cG _))
  |some a=>
   let M:bJ:=⟨w,BT,λ_=>0,λ_=>0,O⟩
   have aG:dZ w M:=⟨rfl,rfl,rfl,c3 _,λ_ _=>rfl,(λid o H=>by cases H),(λid o H=>by cases H),A,(λid gi o o' H=>by cases H)⟩;refine(((sound hS n).2.1 f _ _ _ _ _ L).2 w M #[.slice (some a) 0 m] B aG rfl ⟨rfl,λj x u p q=>?_⟩).mono ?_
   .cases j with
    |zero=>simp at p q;subst p q;exact dU.hsl a m (cG _) (cG _) hm (λsz _ H=>by cases H)
    |succ j=>simp at p
   rintro e w' ⟨val,m',rfl,rfl,D,Q,q3,q4,R⟩
   have hq:dU m' (.hsl i g Z 0 0) val:=R;cases hq with
   |hsl a2 E _ _ X _=>
    refine NL ⟨Q.os,Q.tape,Q.output,Q.size,λc hc=>Q.keep c hc ?_⟩ (akn (λH=>by cases H) X);rintro⟨id,o,H,_⟩
    cases H
 cases H
def U9(T:dT):Option (Option RV):=
 match T with
 |[.one (.p (.sl []))]=>some (some (.one (.p .zs)))
 |_=>none
theorem awh{P:Program}{G:World->Prop}(j:∀(w:World) (a:Option Addr) (c:Nat),Calls P f #[.slice a 0 c] w λe w'=>∃b,e=.returned (.slice b 0 0)/\jP w w'){T:dT}{r:RV}(h:U9 T=some (some r)):
  ∀(w:World) (O:Nat->Prop) (as:Array Value),Good G w->(∀c,O c->c<w.heap.size)->Pw (uL w O) T as.toList->Calls P f as w (yy w O r):=by
 intro w O as n m H;unfold U9 at h;split at h
 .cases h;obtain⟨v,rfl,hp⟩:=So H;obtain⟨a,g,rfl,u,y⟩:=amS hp;refine(j w a g).mono ?_;rintro e w' ⟨b,rfl,x⟩
  exact NL x (dn.zs b)
 cases h
open Go.RowKit Go.WideShapes Go.ChangeShapes
section
variable {H:Type} {enc:TypeId×Value->H} {P:Program} {w:World} {base:Nat} {sp:Nat->Bool} {held:Bool}
theorem aqU:∀(n F:Nat) (t:TypeId) (D:List Value) (x:DataW H×List MemPlace),mK P n t->DataW.trod enc P w base sp held F t D=some x->u4 maxLen x.1:=by
 intro n
 induction n with
 |zero=>intro F t D x h;simp[mK]at h
 |succ n A=>
  intro F t D x aG h;cases F with
  |zero=>simp[DataW.trod]at h
  |succ F=>
   rw[DataW.trod_step]at h;unfold DataW.trodStep at h;unfold mK at aG;split at h
   case h_1=>cases h;exact .lit _ (λs h=>by cases h)
   case h_2=>
    split at h
    .cases h;exact .lit _ (λs h=>by cases h)
    cases h
   case h_4=>
    split at h
    .rename_i ae;cases h;exact .str _ (by simpa using ae)
    cases h
   case h_7=>cases h;exact .nil
   case h_8 e a len L u=>
    rw[u]at aG;simp only[c6]at aG;simp only at h;split at h
    .rename_i Q;simp only[e_,OZ]at h;obtain⟨elems,z,R,E,rfl⟩:=h;have v:I elems=len:=by simpa using mapM_some_length z
     refine .slice _ _ (by simp;omega) (λd j=>?_);obtain⟨y,m,rfl⟩:=dY.1 j;obtain⟨i,_,g⟩:=mapM_mem_of z y m;simp only[OZ]at g;obtain⟨row,_,B⟩:=g;exact A _ _ _ _ aG.2 B
    cases h
   case h_9=>
    rename_i fs u;rw[u]at aG;simp only[c6]at aG;split at h
    .simp only[e_]at h;obtain⟨M,O,rfl⟩:=h;refine .agg _ (λd j=>?_);obtain⟨y,m,rfl⟩:=dY.1 j;obtain⟨f,N,g⟩:=mapM_mem_of O y m;exact A _ _ _ _ (kr.1 aG.2 f N) g
    cases h
   all_goals(first|(cases h;done)|(simp_all;done)|(exfalso;simp_all;done))
theorem agu:∀ {T:List TypeId}{h:List Value}{D:List (DataW H)}{ps:List MemPlace},(∀t∈T,mK P n t)->DataW.TrodAll enc P w base sp held T h D ps->(∀d∈D,u4 maxLen d)/\I D=I T:=by
 intro T
 induction T with
 |nil=>
  intro h D ps _ m;cases h<;>cases D<;>first
   |exact m.elim
   |exact⟨λd u=>by simp at u,rfl⟩
 |cons t T A=>
  intro h D ps j m;cases h with
  |nil=>exact m.elim
  |cons v h=>
   cases D with
   |nil=>exact m.elim
   |cons d D=>
    obtain⟨p,q,⟨f,B⟩,y,rfl⟩:=m;obtain⟨i1,i2⟩:=A (λt z=>j t (by simp[z])) y;refine⟨λx g=>?_,by simp[i2]⟩;rcases dr.1 g with rfl|g
    .exact aqU n f t _ _ (j t aP) B
    exact i1 x g
end
section
variable {H:Type} {enc:TypeId×Value->H} {P:Program}
theorem aBG{f:Func}{s:ChangeSpec}{mg fresh:Bool}{ch g:World}{D n:List (DataW H)}{u m:List MemPlace}
  (y:DataW.Whole enc P f.params.toList s.vars mg ch T.toList D n before)
  (B:∀(b:Nat) (sp:Nat->Bool) (E:Bool),DataW.TrodAll enc P g b sp E f.resultTypes.toList (v.resultList f.resultTypes.size) (s.fn H (D++n)).results [])
  (F:∀sp:Nat->Bool,(∀p∈before,sp p.block)->DataW.TrodAll enc P g 0 sp true f.params.toList T.toList (s.fn H (D++n)).args u)
  (Q:∀sp:Nat->Bool,(∀p∈before,sp p.block)->DataW.TrodVars enc P g sp s.vars (s.fn H (D++n)).vars m)
  (x:before=u++m) (z:Below ch.heap.size ch g)
  (aG:∀(j:Nat) (t:TypeId) (r:Value),f.resultTypes[j]?=some t->(v.resultList f.resultTypes.size)[j]?=some r->Value.okWide P g .any 0 t r):
  s.post enc P f mg fresh handsOn again ch T v g:=by
 have A:∀p∈before,p.block<ch.heap.size:=λp hp=>y.lt p hp;have h:∀p∈before,(λb=>decide (b<ch.heap.size)) p.block=true:=λp hp=>by simpa using A p hp
 refine⟨D,n,before,[],u,m,y,B _ _ _,F _ h,Q _ h,World.keptBut_mono (λp hp=>⟨hp,?_⟩) (z.frame (· ∈before)),λ_=>?_⟩
 .rw[x,iW]at hp;exact Or.inr hp
 obtain⟨_,_,_,_,_,L,M⟩:=y;refine⟨aG,_,_,([]++u)++m,⟨[]++u,m,trodAll_append (F _ (λ_ _=>rfl)) (B _ _ _),Q _ (λ_ _=>rfl),rfl,?_,?_⟩,?_⟩
 .intro b O hp;have N:MemPlace.cell b O∈before:=by rw[x];simpa using hp
  rw[z.frozen (A _ N)];exact L b O N
 .intro R;have:=M R;rw[x]at this
  simpa using this
 intro p hp _;rw[x]
 simpa using hp
end
theorem BP{P:Program}{N:Nat}{t:TypeId}{k:IntKind}{p:b_}(H:P.underlying t=some (.int k))(h:mj P N (n+1) t p):∃z,p=[.int k z]/\(Lit.int k z).wf:=by simp only[mj,H]at h;exact h
theorem V0{P:Program}{N:Nat}{t:TypeId}{p:b_}(H:P.underlying t=some .bool)(h:mj P N (n+1) t p):∃b,p=[.bool b]:=by simp only[mj,H]at h;exact h
theorem ajO{P:Program}{N:Nat}{t e:TypeId}{p:b_}(H:P.underlying t=some (.slice e))(h:mj P N (n+1) t p):∃y,p=[.sl y]/\I y<=N/\ ∀x∈y,mj P N n e x:=by simp only[mj,H]at h;exact h
theorem aj9{P:Program}{t:TypeId}{fs:Array Field}{x:b_}(h:P.underlying t=some (.struct fs)):Ik P t x=.agg (x.map .p):=by unfold Ik;rw[h]
theorem axk{S:Sys}{G:World->Prop}(hS:KZ S G)(PE:∀w,G w->Good G w){fn:Func}{s:ChangeSpec}{N:Nat}{fresh mg:Bool}(Qi:s.vars=[])
  (hfn:∀(H:Type) (D:List (DataW H)),I D=I fn.params.toList->s.fn H D={results:=[.lit (.bool true)],args:=D}) {tb:TypeId} (X:fn.resultTypes= #[tb]) (A:S.P.underlying tb=some .bool)
  (M:∀t∈fn.params.toList,mK S.P n t) (Q:∀g,Q6 S.P N n fn.params.toList g->aK S f (D8 S.P fn.params.toList g) (.one (.p (.bool true))))
  {H:Type}{enc:TypeId×Value->H}{ch:World}{base:Nat}{D gs:List (DataW H)}
  (E:∀(j:Nat) t v,fn.params[j]?=some t->T[j]?=some v->Value.okWide S.P ch .any base t v)
  (hW:DataW.Whole enc S.P fn.params.toList s.vars mg ch T.toList D gs before) (hG:G ch) (y:∀d∈D,u4 N d):
  Calls S.P f T ch λe F=>∃v,e=.returned v/\s.post enc S.P fn mg fresh handsOn again ch T v F:=by
 have z:=hW;obtain⟨p,q,O,hV,rfl,ab,iU⟩:=hW;rw[Qi]at hV;obtain⟨rfl,rfl⟩:=trodVars_none hV;obtain⟨_,m⟩:=agu M O;obtain⟨g,h1,h2⟩:=aol (r:=.any) (b0:=base) M (λj t v a b=>E j t v (by simpa using a) (by simpa using b)) O y;refine((Q g h1).calls hS ch (PE ch hG) T h2).mono ?_;rintro e F ⟨val,bs,rfl,B,_,_,h,q1,q2⟩
 obtain⟨v0,qL,e1,Y,e3,e4⟩:=q2;have L:h=[val]:=q1;subst L;cases e1;have hv:val=.bool true:=by
  generalize u:PV.bool true=x at Y;cases Y<;>cases u
  rfl
 subst hv;have R:Below ch.heap.size ch F:=⟨B.os,B.tape,B.output,B.size,B.keep⟩;have aw:∀x∈p++[],x.block<ch.heap.size:=λx u=>z.lt x u;refine⟨_,rfl,aBG (u:=p) (m:=[]) z ?_ ?_ ?_ rfl R ?_⟩
 .intro b sp hd;rw[rT,hfn H D m,X];exact trodAll_cons_mk (shut_bool A _) trodAll_mk0
 .intro KC Z;rw[rT,hfn H D m];exact apD (λt ht=>⟨n,M t ht⟩) O (λx u=>R.same (aw x (by simpa using u))) (λx u=>Z x (by simpa using u))
 .intro KC Z;rw[rT,hfn H D m,Qi];rfl
 exact ok_one X rfl (okWide_bool_mk A _)
theorem avq(j:ct)(t:Nat)(v:V):dP j (some t) v=dx j t v:=rfl
theorem aq9(j:ct)(v:V):dP j none v=j:=rfl
theorem aBb(j:ct)(n:Nat):ev j (.t n)=j n:=rfl
theorem avN(j:ct)(n:Int):ev j (.i n)=.one (.p (.int .i64 n)):=rfl
theorem aqM(j:ct)(x:Bool):ev j (.b x)=.one (.p (.bool x)):=rfl
theorem as4(j:ct)(v:V):ev j (.k v)=v:=rfl
theorem awU(a:V)(l:dT):s_ (a::l) 0=a:=rfl
theorem apr(a:V)(l:dT)(n:Nat):s_ (a::l) (n+1)=s_ l n:=rfl
def Gv(v:V)(f:Bool):Option Bool:=match v with
 | .one (.p (.bool b))=>some (b==f)
 | .undef=>some false
 |_=>none
theorem ay4(b f:Bool):Gv (.one (.p (.bool b))) f=some (b==f):=rfl
theorem aqz(f:Bool):Gv .undef f=some false:=rfl
section
variable {S:Sys} {al:cT} {o:mh} {j:ct} {aj:aN} {tr:gr} {bY:ct->aN->gr->Prop} {d:eC}
theorem aCR{id:Nat}{Q:hs}:oR id Q .normal j aj=Q .normal j aj:=rfl
theorem aoj{id:Nat}{Q:hs}:oR id Q .ret j aj=Q .ret j aj:=rfl
theorem axg{id i:Nat}{Q:hs}:oR id Q (.exit i) j aj=if i=id then Q .normal j aj else Q (.exit i) j aj:=rfl
end
def EW (S:Sys)(al:cT)(Z:fI)(Q:ct->aN->Prop)(j:ct)(aj:aN):Prop:=∀tr,r5 S al Z (λj aj _=>Q j aj) j aj tr
def KR(S:Sys)(al:cT)(p:Dl)(d:eC)(j:ct)(aj:aN)(bY:ct->aN->Prop):Prop:=
 match p with
 | .fail=>False
 | .done v u r=>al.iA (r++u.map (·.1))=true/\bY (dP j d v) (app u aj)
 | .pc f h r s=>∃x,aK S f h x/\match fg aj r s (x.fR (S.lone s))with
  |some (v,u)=>al.iA (r++u.map (·.1))=true/\bY (dP j d v) (app u aj)
  |none=>False
 | .sc f h=>al.holds (iB (S.ctx al) f h aj)=true/\ ∃v F,lK S f h (iB (S.ctx al) f h aj) aj v F/\bY (dP j d v) F
def Uj(S:Sys)(al:cT)(w:Option Bool)(o:mh)(j:ct)(aj:aN)(bY:ct->aN->Prop):Prop:=
 match w with
 |none=>False
 |some false=>bY (dP j o.dst .undef) aj
 |some true=>KR S al (c5 S.shared j aj o.op) o.dst j aj bY
section
variable {S:Sys} {al:cT} {j:ct} {aj:aN}
theorem aot{Z:fI}{f:ct->aN->Prop}{tr T:gr}(h:r5 S al Z (λj aj _=>R j aj) j aj tr)(g:∀e b,R e b->f e b):r5 S al Z (λj aj _=>f j aj) j aj T:=by obtain⟨n,e,b,y,m,H⟩:=h;exact⟨n,e,b,y,m,g _ _ H⟩
theorem aqw{Z:fI}{Q:hs}:ch S al (.region false Z) Q j aj↔EW S al Z (λj aj=>Q .normal j aj) j aj:=by
 rw[aei];constructor
 .intro h tr;obtain⟨n,e,b,y,f,_,H⟩:=h;exact⟨n,e,b,y,f,H⟩
 intro h;obtain⟨n,e,b,y,f,H⟩:=h [];exact⟨n,e,b,y,f,(λh=>by cases h),H⟩
theorem aB1:EW S al [] R j aj↔R j aj:=⟨λh=>WJ.1 (h []),λh _=>WJ.2 h⟩
theorem ahD{o:mh}{os:fI}{w:Option Bool}(tr:gr):GQ S al w o j aj tr (r5 S al os λe b _=>R e b)↔Uj S al w o j aj (EW S al os R):=by
 have k:∀ {e:ct}{b:aN}{t:gr},r5 S al os (λe b _=>R e b) e b t↔EW S al os R e b:=λ{e b t}=>⟨λH T=>aot H λ_ _ H=>H,λH=>H t⟩;cases w with
 |none=>exact Iff.rfl
 |some w=>
  cases w with
  |false=>exact k (t:=tr++[⟨[],[],[]⟩])
  |true=>
   simp only[GQ,Uj];cases c5 S.shared j aj o.op with
   |fail=>exact Iff.rfl
   |done v u r=>simp only[I1,KR,k]
   |pc f h r s=>
    simp only[I1,KR];refine exists_congr λx=>and_congr Iff.rfl ?_;cases fg aj r s (x.fR (S.lone s))with
    |none=>exact Iff.rfl
    |some y=>simp only[k]
   |sc f h=>simp only[I1,KR,k]
theorem aej{o:mh}{os:fI}:EW S al (o::os) R j aj↔Uj S al (s9 j o.guard) o j aj (EW S al os R):=by
 constructor
 .intro h;exact(ahD []).1 (UP.1 (h []))
 intro h tr;exact UP.2 ((ahD tr).2 h)
variable {o:mh} {bY:ct->aN->Prop} {d:eC}
end
theorem ada:(false==true)=false:=rfl
theorem V8:(true==false)=false:=rfl
theorem acG:(false==false):=rfl
theorem aau:(true==true):=rfl
theorem atz{aj:aN}{x:PV}:iR aj (.one (.p x))=some (.one (.p x)):=rfl
theorem ars(k:IntKind)(n:Int):(PV.int k n).norm=.int k n:=rfl
theorem at2(b:Bool):(PV.bool b).norm=.bool b:=rfl
theorem avh(s:ByteArray):(PV.str s).norm=.str s:=rfl
theorem aAN:PV.nils.norm=.sl []:=rfl
theorem awm(y:q_):(PV.sl y).norm=.sl y:=rfl
theorem acP(y:b_):(PV.box y).norm=.box y:=rfl
theorem auN(f:Nat)(a b:b_):(PV.fn f a b).norm=.fn f a b:=rfl
theorem aCY:PV.vp.norm=.vp:=rfl
theorem aom:PV.yZ.norm=.yZ:=rfl
theorem ayL:PV.tQ.norm=.tQ:=rfl
theorem aw7(a:Bool)(e:yJ):(PV.mp a e).norm=.mp a e:=rfl
theorem aou{aj:aN}:E0 aj []=some ([],[]):=rfl
def Wm(x:Option (V×aF))(y:Option (dT×aF)):Option (dT×aF):=match x,y with
 |some (b,x),some (B,y)=>some (b::B,x++y)
 |_,_=>none
theorem ay7{aj:aN}:E0 aj (x::M)=Wm (qz aj x) (E0 aj M):=by simp only[E0,Wm,iD];cases qz aj x<;>cases iD (qz aj) M<;>rfl
theorem auR{b:V}{x:aF}{B:dT}{y:aF}:Wm (some (b,x)) (some (B,y))=some (b::B,x++y):=rfl
theorem apJ{aj:aN}{x:PV}:qz aj (.one (.p x))=some (.one (.p x.norm),[]):=rfl
end Go.Abs
