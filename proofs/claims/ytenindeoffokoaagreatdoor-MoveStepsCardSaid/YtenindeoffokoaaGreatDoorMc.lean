/-
  Each operation of the abstract machine is what the program does; the machine is sound in any order that a region draws; a quick evaluator; library functions.
-/
import Derived.Test.YtenindeoffokoaaGreatDoorMa
import Derived.Laws.BytesString
import Derived.LoopN
import Derived.Scope
import Derived.Orders
import Derived.ChangeReads
import Derived.ChangeStays
import Derived.DataReads
import Derived.Below
import Derived.Sort.Grow
import Derived.Deep.Draws
import Derived.Lib.ItoaNum
import Derived.Lib.Join
import Derived.Lib.BitFns
import Derived.Lib.LaidTab
import Derived.ChangeSame
import Derived.ProofKit
import Derived.OpenShut
set_option linter.all false
open List renaming length->I
namespace Go.Abs
variable{y:yF}{clock n f sz site nt b0:Nat}{v kv qv val:Value}{m:a_}{x:V}{x' k' y':fk}{z:dW}{key:PV}{ag held handsOn again:Bool}{D:rq}{A B T:Array Value}{u:kR}{L ys:dZ}{R:bJ->aJ->Prop}{E KO sp:Nat->Bool}{w':World}{Q Q' O:Nat->Prop}{h us:List Value}{X j jH:bJ}{F de bK b2 IY b'':aJ}{Y:kV}{ops:Array Oper}{before:List MemPlace}
variable {P:Program} {Z:World}
section
variable{ag:Bool}
def SA(w:World)(own:Nat->Prop)(ag:Bool)(y:yF)(E:Array MapEntry):Prop:=E.size=I y/\ ∀(i:Nat) (q:PV) (v:dW) (e:MapEntry),y[i]?=some (q,v)->E[i]?=some e->dh w own q e.key/\ ∃g:Array Value,(ag->e.val=.agg g)/\(ag=false-> #[e.val]=g)/\eL w own v g.toList
theorem P_{w:World}{r:Nat}{y:Array MapEntry}(h:w.heap[r]?=some (.map y clock)):(getObj r).run P w=.ok (.map y clock) w:=by simp[getObj,Sem.run,h]
theorem akz{w:World}{r:Nat}{y:Array MapEntry}{O:Obj}(H:w.heap[r]?=some (.map y clock)):(setObj r O).run P w=.ok () {w with heap:=w.heap.setIfInBounds r O}:=by simp[setObj,Sem.run,H]
theorem ajg{w:World}{own:Nat->Prop}(h:dh w own (.mp ag y) v):
  ∃r E clock,v=.map (some r)/\w.heap[r]?=some (.map E clock)/\SA w own ag y E:=by
 cases h with
 |mp r E clock g A n hl z m hr=>
  refine⟨r,E,clock,rfl,n,hl,λi q v e f H=>⟨z i q v e f H,g i,(m i q v e f H).2.1,(m i q v e f H).2.2,?_,λj x u a b=>?_⟩⟩
  .grind
  grind
theorem OF(aF:ez Z m){id g:Nat}(h:df m (.one (.nV id g)) v)(H:m.blk id=(g,some (.map ag y))\/m.blk id=(g,some (.fmap ag y))):
  ∃r E clock,v=.map (some r)/\r=m.σ id/\m.w.heap[r]?=some (.map E clock)/\SA m.w m.own ag y E:=by
 cases h with
 |nV r u hr=>
  rcases H with H|H
  .obtain⟨E,clock,j,f,n⟩:=aF.obj id _ (congrArg Prod.snd H);have:=hr (by rw[H]) (by grind);subst this;exact⟨_,E,clock,rfl,rfl,j,f,n⟩
  obtain⟨E,clock,j,f,n,_⟩:=aF.obj id _ (congrArg Prod.snd H);have:=hr (by rw[H]) (by simp_all);subst this;exact⟨_,E,clock,rfl,rfl,j,f,n⟩
theorem asu(aF:ez Z m){r:aG}(h:tW m.blk ag x=some (y,r))(H:df m x v):
  ∃E:Array MapEntry,((v=.map none/\E= #[])\/ ∃ref clock,v=.map (some ref)/\m.w.heap[ref]?=some (.map E clock))/\SA m.w m.own ag y E:=by
 unfold tW at h;split at h
 .cases h;exact⟨#[],.inl ⟨akZ H,rfl⟩,rfl,λi q v e h=>by simp at h⟩
 .rename_i u n;split at h
  .rename_i e;subst e;cases h;obtain⟨hp⟩:gh m _ v:=H;obtain _:=ajg hp
   grind
  cases h
 .rename_i id g;split at h
  .rename_i g' u n f;split at h
   .rename_i j;obtain⟨rfl,rfl⟩:=j;cases h;obtain _:=OF aF H (.inl f)
    grind
   cases h
  .rename_i g' u n f;split at h
   .rename_i j;obtain⟨rfl,rfl⟩:=j;cases h;obtain⟨r,E,clock,B,_,z,A⟩:=OF aF H (.inr f)
    grind
   cases h
  cases h
 cases h
theorem arH(aF:ez Z m){r:aG}(h:ti m.blk x=some (n,r))(u:df m x v):
  (v=.map none/\n=0)\/ ∃ref E clock,v=.map (some ref)/\m.w.heap[ref]?=some (.map E clock)/\E.size=n:=by
 unfold ti at h;split at h
 .cases h;exact .inl ⟨akZ u,rfl⟩
 .cases h;obtain⟨hp⟩:gh m _ v:=u;obtain⟨r,E,clock,j,H,f⟩:=ajg hp;exact .inr ⟨r,E,clock,j,H,f.1⟩
 .rename_i id g;split at h
  .rename_i g' B A y;split at h
   .rename_i z;subst z;cases h;obtain⟨r,E,clock,j,_,H,f⟩:=OF aF u (.inl y);exact .inr ⟨r,E,clock,j,H,f.1⟩
   cases h
  .rename_i g' B A y;split at h
   .rename_i z;subst z;cases h;obtain⟨r,E,clock,j,_,H,f⟩:=OF aF u (.inr y);exact .inr ⟨r,E,clock,j,H,f.1⟩
   cases h
  cases h
 cases h
def Fe(kind:TypeDesc)(kd:Nat):Prop:=(kd=0/\ ∃k,kind=.int k)\/(kd=1/\kind=.string)\/(kd=2/\kind=.bool)
theorem ajh{t:TypeId}{kd:Nat}(h:keyOf P t=some kd):∃kind,P.underlying t=some kind/\Fe kind kd:=by
 unfold keyOf at h;split at h
 .rename_i k H;cases h;exact⟨_,H,.inl ⟨rfl,_,rfl⟩⟩
 .rename_i H;cases h;exact⟨_,H,.inr (.inl ⟨rfl,rfl⟩)⟩
 .rename_i H;cases h;exact⟨_,H,.inr (.inr ⟨rfl,rfl⟩)⟩
 cases h
theorem VY{w:World}{own:Nat->Prop}{k q:PV}{kind:TypeDesc}{b:Bool}(f:Fe kind (nO k))(h:DB k q=some b)(j:dh w own k kv)(H:dh w own q qv):Instr.sameNow kind kv qv=some b:=by
 unfold DB at h;split at h
 .rename_i a M c d;split at h
  .rename_i e;subst e;cases h;rcases f with⟨_,x,rfl⟩|⟨e,_⟩|⟨e,_⟩
   .cases j;cases H;simp[Instr.sameNow]
   .simp[nO]at e
   simp[nO]at e
  cases h
 .cases h;rcases f with⟨e,_⟩|⟨_,rfl⟩|⟨e,_⟩
  .simp[nO]at e
  .cases j;cases H;simp[Instr.sameNow]
  simp[nO]at e
 .cases h;rcases f with⟨e,_⟩|⟨e,_⟩|⟨_,rfl⟩
  .simp[nO]at e
  .simp[nO]at e
  cases j;cases H;simp[Instr.sameNow]
 cases h
theorem axE{w:World}{own:Nat->Prop}{k q:PV}(h:DB k q=some true)(f:dh w own k kv)(H:dh w own q qv):qv=kv:=by
 unfold DB at h;split at h
 .split at h
  .rename_i e;subst e;simp at h;subst h;cases f;cases H;rfl
  cases h
 .rename_i a b;have e:(a==b):=by simpa using h
  rw[beq_toListBytes]at e;have e:a=b:=by
   have e:a.toList=b.toList:=by simpa using e
   rw[ByteArray.toList_eq,ByteArray.toList_eq]at e;exact ByteArray.ext (acb.1 e)
  subst e;cases f;cases H;rfl
 .simp at h;subst h;cases f;cases H;rfl
 cases h
theorem alb{w:World}{own:Nat->Prop}{k:PV}{kind:TypeDesc}(h:Fe kind (nO k))(H:dh w own k kv):∀ {y:yF}{l:List MapEntry}{i:Nat}{f:Option (Nat×dW)},
  I l=I y->(∀(j:Nat) (q:PV) (v:dW) (e:MapEntry),y[j]?=some (q,v)->l[j]?=some e->dh w own q e.key)->xz k y i=some f->
  (f=none/\Instr.findNow kind kv l i=some none)\/ ∃j q v e,f=some (i+j,v)/\y[j]?=some (q,v)/\l[j]?=some e/\DB k q=some true/\Instr.findNow kind kv l i=some (some (i+j,e.val)):=by
 intro y
 induction y with
 |nil=>
  intro l i f hl _ hf;simp[xz]at hf;cases l with
  |nil=>exact .inl ⟨hf.symm,rfl⟩
  |cons _ _=>simp at hl
 |cons p r A=>
  intro l i f hl n hf;obtain⟨a,v⟩:=p;cases l with
  |nil=>simp at hl
  |cons e l=>
   have L:=n 0 a v e rfl rfl;simp[xz]at hf;split at hf
   .rename_i ae;cases hf;exact .inr ⟨0,a,v,e,rfl,rfl,rfl,ae,by simp[Instr.findNow,VY h ae H L]⟩
   .rename_i ae;rcases A (by simpa using hl) (λj q v e a b=>n (j+1) q v e (by grind) (by simpa using b)) hf with⟨m,E⟩|⟨j,q,x,e',m,E,z,B,u⟩
    .exact .inl ⟨m,by simp[Instr.findNow,VY h ae H L,E]⟩
    refine .inr ⟨j+1,q,x,e',by rw[m];congr 2;omega,by simpa using E,by simpa using z,B,?_⟩;simp only[Instr.findNow,VY h ae H L,u];congr 3;omega
   cases hf
theorem anf{t:TypeId}{kind:TypeDesc}{kd:Nat}{b:Bool}(w:World)(h:P.underlying t=some kind)(H:Fe kind kd)(n:Nat):(Instr.checkKey b (n+1) t v).run P w=.ok () w:=by rcases H with⟨_,k,rfl⟩|⟨_,rfl⟩|⟨_,rfl⟩<;>simp[Instr.checkKey,run_underlying h]
theorem NM{t:TypeId}{kind:TypeDesc}{kd:Nat}{b:Bool}(w:World)(h:P.underlying t=some kind)(H:Fe kind kd):(Instr.checkKey b 10000 t v).run P w=.ok () w:=anf w h H 9999
theorem aAE{w:World}{own:Nat->Prop}{k:PV}{kind:TypeDesc}(H:Fe kind (nO k))(h:dh w own k kv)(n:Nat):Instr.sameBits n kv kv:=by
 cases h<;>first
  |(simp[nO,Fe]at H;done)
  |(simp[Instr.sameBits];done)
  |(simp[Instr.sameBits,beq_toListBytes];done)
theorem atD{Z w:World}{own:Nat->Prop}{k:PV}{kind:TypeDesc}(H:Fe kind (nO k))(h:dh Z own k kv):(Instr.keyThatStays kv kv).run P w=.ok kv w:=by rw[Instr.keyThatStays,aAE H h,aD rfl];rfl
theorem Rx{t:TypeId}{kind:TypeDesc}{l:List MapEntry}{r:Option (Nat×Value)}(w:World)(h:P.underlying t=some kind)(hf:Instr.findNow kind v l 0=some r):(Instr.findKey t v l).run P w=.ok r w:=by simp[Instr.findKey,run_underlying h,hf]
theorem ac1{v:dW}{g:Array Value}(h:s9 ag v=some x)(f:ag->val=.agg g)(H:ag=false-> #[val]=g)(hp:eL m.w m.own v g.toList):df m x val/\pS m x val:=by
 cases ag with
 |true=>simp[s9,iW]at h;subst h;exact⟨df.agg.2 ⟨g,f rfl,hp.GC⟩,⟨g,f rfl,hp.GC⟩⟩
 |false=>
  have H:=H rfl;subst H;cases v with
  |nil=>simp[s9]at h
  |cons c r=>
   cases r with
   |nil=>simp[s9,iW]at h;subst h;have:=hp.2 0 c val rfl rfl;exact⟨oN this,gh.p this⟩
   |cons _ _=>simp[s9]at h
section
variable {m:a_} {j:bJ} {a:Act} {o:Oper} (aF:ez Z m) (hr:kI m j a.tmps)
include aF
theorem ay9{t f e:TypeId}{s:Nat}(H:o.op=.makeMap t none):
  iz P Z a.eval o m (.one (.nV s ((m.blk s).1+1))) [(s,((m.blk s).1+1,some (.map ag [])))]:=by
 refine⟨.map (some m.w.heap.size),m.fresh _ s 0 (.map ag []),.inl ?_,ak3 aF _ s 0 _ ⟨#[],0,agY _ s 0 _,rfl,λi q v e h=>by simp at h⟩,QS _ s 0 _,ab5 aF _ s 0 _,YA _ _ s 0 _,df.one.2 (.nV _ ?_ λ_ _=>?_)⟩
 .simp[execOp,H,Instr.makeMap];rfl
 .simp[a_.fresh,a_.install,a_.later,bG]
 simp[a_.fresh,a_.install,bG]
include hr
theorem axo{c:Call}{x:Operand}{t k e:TypeId}{r:aG}(f:o.op=.call c)(v:c.callee=.builtin .len)(h:c.args= #[x])(y:c.argTypes[0]?=some t)(u:P.underlying t=some (.map k e))
  (A:dA x=some x') (B:ti m.blk (ev j x')=some (n,r)):iz P Z a.eval o m (.one (.p (.int .i64 n))) []:=by
 refine .calm aF ?_ (oN (.int _ _));rcases arH aF B (gk A hr)with⟨H,rfl⟩|⟨ref,E,clock,H,z,rfl⟩
 .simp[execOp,f,resolve,v,h,y,invoke,builtin,Builtin.len_,run_underlying u,H,goInt]
 simp[execOp,f,resolve,v,h,y,invoke,builtin,Builtin.len_,run_underlying u,H,goInt,P_ z]
theorem apa{t kt e:TypeId}{x k:Operand}{ok:Bool}{q:eT}{kd:Nat}{r:aG}{f:Option (Nat×dW)}{w:V}(ho:o.op=.lookup t x k ok)(O:P.underlying t=some (.map kt e))
  (hz:AS P e=some z) (DR:keyOf P kt=some kd) (A:R6 P e=q.isSome) (hx:dA x=some x') (hk:dA k=some k') (hm:tW m.blk q.isSome (ev j x')=some (y,r)) (X:ev j k'=.one (.p key)) (qp:nO key=kd)
  (hf:xz key y 0=some f) (hw:s9 q.isSome ((f.map (·.2)).getD z)=some w):iz P Z a.eval o m (if ok then .tup [w,.one (.p (.bool f.isSome))]else w) []:=by
 obtain⟨kind,B,F⟩:=ajh DR;obtain⟨E,Uu,hl,fD⟩:=asu aF hm (gk hx hr);have Hu:=gk hk hr;rw[X]at Hu;obtain⟨dN⟩:gh m _ _:=Hu;have fi:(∃ref clock,a.eval x=.map (some ref)/\m.w.heap[ref]?=some (.map E clock))\/a.eval x=.map none/\E= #[]:=by
  rcases Uu with h|h
  .exact .inr h
  exact .inl h
 have key:∀(val:Value) (b:Bool),df m w val->pS m w val->f.isSome=b->(Instr.lookup t (a.eval x) (a.eval k) ok).run P m.w=.ok (if ok then .tuple #[val,.bool b]else val) m.w->iz P Z a.eval o m (if ok then .tup [w,.one (.p (.bool f.isSome))]else w) []:=by
  intro val b n lT H D;refine .calm aF (x:=if ok then .tuple #[val,.bool b]else val) ?_ ?_
  .simp[execOp,ho,D]
  cases ok
  .exact n
  refine⟨_,rfl,rfl,λab ad u p q=>?_⟩;rcases ab with _|_|ab
  .simp at p q;subst p q;exact lT
  .simp at p q;subst p q;rw[H];exact gh.p (.bool _)
  simp at p
 rcases alb (by rw[qp];exact F) dN (l:=E.toList) (by simpa using hl) (λab q v e n H=>(fD ab q v e n (by simpa using H)).1) hf with⟨rfl,Y⟩|⟨ab,q',v,e',rfl,H,D,_,Y⟩
 .obtain⟨M,i,L,N,Km,l9,R⟩:=LO hz;obtain⟨kU,v2⟩:=ac1 (val:=M) hw (λQ=>by
    rw[Q]at A;unfold R6 at A;rw[L]at A;simp only[N]at A;cases M<;>simp[Value.cells]at A |-) (λQ=>by
    rw[Q]at A;unfold R6 at A;rw[L]at A;simp only[N]at A;cases M<;>simp[Value.cells]at A |-) (R m.w m.own)
  refine key M false kU v2 rfl ?_;rcases fi with⟨ref,clock,n,H⟩|⟨n,H⟩
  .cases ok<;>simp[Instr.lookup,run_underlying O,n,P_ H,NM m.w B F,Rx m.w B Y,zeroValue,typeInfo,L,N]
  subst H;cases ok<;>simp[Instr.lookup,run_underlying O,n,NM m.w B F,Instr.findKey,run_underlying B,Instr.findNow,zeroValue,typeInfo,L,N]
 obtain⟨ac,g,FT,T,R⟩:=fD ab q' v e' H (by simpa using D);obtain⟨kU,v2⟩:=ac1 hw FT T R;refine key e'.val true kU v2 rfl ?_;rcases fi with⟨ref,clock,n,H⟩|⟨n,H⟩
 .cases ok<;>simp[Instr.lookup,run_underlying O,n,P_ H,NM m.w B F,Rx m.w B Y]
 subst H;simp at D
theorem amF{t kt e:TypeId}{x k am:Operand}{kd:Nat}{ag:Bool}{id g:Nat}{D:eO}{ps:dW}{f:Option (Nat×dW)}(A:o.op=.mapUpdate t x k am\/o.op=.insert t x k am)(ht:P.underlying t=some (.map kt e))
  (DR:keyOf P kt=some kd) (hx:dA x=some x') (hk:dA k=some k') (hy:dA am=some y') (hm:ev j x'=.one (.nV id g)) (hb:m.blk id=(g,some (.map ag y))) (ar:ev j k'=.one (.p key)) (qp:nO key=kd)
  (eh:xQ ag (ev j y')=some D) (eE:D2 D=some ps) (hf:xz key y 0=some f):
  iz P Z a.eval o m .undef [(id,(g,some (.map ag (match f with|some (i,_)=>y.set i (key,ps)|none=>y++[(key,ps)]))))]:=by
 obtain⟨kind,CB,FZ⟩:=ajh DR;have T:=gk hx hr;rw[hm]at T;have Q:=congrArg Prod.snd hb;obtain⟨ref,E,clock,Ef,bR,Y,hl,fD⟩:=OF aF T (.inl hb);subst bR;have Hu:=gk hk hr;rw[ar]at Hu;obtain⟨R⟩:gh m _ _:=Hu;have L:=gk hy hr
 have X:∃M:Array Value,(ag->a.eval am=.agg M)/\(ag=false-> #[a.eval am]=M)/\eL m.w m.own ps M.toList:=by
  generalize ev j y'=vy at eh L;cases ag with
  |true=>
   cases vy<;>simp[xQ]at eh
   subst eh;obtain⟨arr,H,n⟩:=df.agg.1 L;exact⟨arr,λ_=>H,λh=>(by cases h),Oz eE n⟩
  |false=>
   cases vy<;>simp[xQ]at eh
   subst eh;refine⟨#[a.eval am],λh=>(by cases h),λ_=>rfl,Oz eE ⟨rfl,λad x u p q=>?_⟩⟩;rcases ad with _|ad
   .simp at p q;subst p q;exact L
   simp at p
 obtain⟨M,BM,rZ,ac⟩:=X;have M3:∀(F:Array MapEntry) (B:Nat) (N:yF),(execOp a.eval o).run P m.w=.ok .skip {m.w with heap:=m.w.heap.setIfInBounds (m.σ id) (.map F B)}->SA m.w m.own ag N F->
   iz P Z a.eval o m .undef [(id,(g,some (.map ag N)))]:=by
  intro F B N rY Uu;have ae:(m.w.heap.setIfInBounds (m.σ id) (.map F B)).size=m.w.heap.size:=aE;have ab:∀c,c≠m.σ id->(m.w.heap.setIfInBounds (m.σ id) (.map F B))[c]?=m.w.heap[c]? :=λc hc=>by rw[NP];rw[aC (λe=>hc e.symm)]
  have ff:hs m (m.kD {m.w with heap:=m.w.heap.setIfInBounds (m.σ id) (.map F B)} id (.map ag N)):=Ly Q rfl rfl rfl rfl rfl ae ab;refine⟨_,m.kD {m.w with heap:=m.w.heap.setIfInBounds (m.σ id) (.map F B)} id (.map ag N),.inr ⟨rY,rfl⟩,Ob Q rfl aF rfl rfl rfl rfl ae ab ?_,ff,rfl,?_,rfl⟩
  .refine⟨F,B,?_,Uu.1,λi q v e H n=>?_⟩
   .show(m.w.heap.setIfInBounds (m.σ id) (.map F B))[m.σ id]?=_;rw[NP,aD rfl,aD (yg Y)]
   obtain⟨p1,gg,p2,p3,p4⟩:=Uu.2 i q v e H n;exact⟨p1.ev ff.zero,gg,p2,p3,p4.ev ff.zero⟩
  simp only[a_.kD,app,congrArg Prod.fst hb]
 rcases alb (by rw[qp];exact FZ) R (l:=E.toList) (by simpa using hl) (λad q v e H n=>(fD ad q v e H (by simpa using n)).1) hf with⟨rfl,hn⟩|⟨ad,q',v,e',rfl,n,h3,h4,hn⟩
 .refine M3 (E.push {key:=a.eval k,val:=a.eval am,born:=clock}) (clock+1) _ ?_ ?_
  .rcases A with A|A<;>simp[execOp,A,Instr.mapUpdate,run_underlying ht,Ef,P_ Y,NM m.w CB FZ,Rx m.w CB hn,akz Y]
  refine⟨by simp[hl],λi q v e H n=>?_⟩;by_cases hi:i<I y
  .rw[s8 hi]at H;rw[VI,aC J]at n;exact fD i q v e H n
  rw[qQ J]at H;have:i=I y:=by
   by_cases h:i-I y=0
   .omega
   have:=(bt.1 H).1;simp at this;omega
  subst this;simp at H;obtain⟨rfl,rfl⟩:=H;rw[VI,aD hl.symm]at n;cases n;exact⟨R,M,BM,rZ,ac⟩
 have vr:E[ad]?=some e':=by simpa using h3
 refine M3 (E.modify ad λe=>{e with key:=a.eval k,val:=a.eval am}) clock _ ?_ ?_
 .have O:=Rx m.w CB hn;rw[jN]at O;have ap:(Instr.keyThatStays e'.key (a.eval k)).run P m.w=.ok (a.eval k) m.w:=by rw[axE h4 R (fD ad q' v e' n vr).1];exact atD (by rw[qp];exact FZ) R
  rcases A with A|A<;>simp[execOp,A,Instr.mapUpdate,run_underlying ht,Ef,P_ Y,NM m.w CB FZ,O,akz Y,vr,ap]
 simp only[jN];refine⟨by simp[hl],λi q v e H n=>?_⟩;rw[pJ]at H;rw[Array.getElem?_modify]at n;by_cases iT:ad=i
 .subst iT;rw[aD rfl]at H;split at H
  .cases H;simp[vr]at n;subst n;exact⟨R,M,BM,rZ,ac⟩
  cases H
 rw[aC iT]at H;rw[aC iT]at n;exact fD i q v e H n
end
end
theorem agw{t:TypeId}{b:Bool}(h:Sj P t=some b):(b/\ ∃k,P.underlying t=some (.int k))\/(b=false/\P.underlying t=some .bool):=by
 unfold Sj at h
 grind
theorem apt{a b:PV}{r:Bool}(h:pg true a b=some r):∃k x y,a=.int k x/\b=.int k y/\r=(x==y):=by
 cases a<;>cases b<;>simp[pg]at h
 exact⟨_,_,_,rfl,by rw[h.1],h.2.symm⟩
theorem arY{a b:PV}{r:Bool}(h:pg false a b=some r):∃x y,a=.bool x/\b=.bool y/\r=(x==y):=by
 cases a<;>cases b<;>simp[pg]at h
 grind
theorem aqh{as B:eO}{r:Bool}(h:oU [] as B=some r):r:=by
 cases as<;>cases B<;>simp[oU]at h
 exact h
theorem aur{k:Bool}{j:gD}{as f:eO}{r:Bool}(h:oU (k::j) as f=some r):
  ∃a A b B r0,as=.p a::A/\f=.p b::B/\pg k a b=some r0/\(r0->oU j A B=some r)/\(r0=false->r=false):=by
 cases as with
 |nil=>simp[oU]at h
 |cons x A=>
  cases f with
  |nil=>cases x<;>simp[oU]at h
  |cons y B=>
   cases x<;>cases y<;>simp[oU]at h<;>try cases h
   grind
theorem asd{w:World}(d:Nat):∀ {fs:List Field}{n:gD}{k:Nat}{as u:eO}{r:Bool},KI P k fs=some n->oU n as u=some r->
  (∀(j:Nat) (x:bd),as[j]?=some x->∃v,A[k+j]?=some v/\gh m x v)->(∀(j:Nat) (x:bd),u[j]?=some x->∃v,B[k+j]?=some v/\gh m x v)->
  (Op.eqFields (d+1) A B fs).run P w=.ok r w:=by
 intro fs
 induction fs with
 |nil=>intro n k as u r hf M _ _;simp[KI]at hf;subst hf;rw[aqh M];simp[Op.eqFields,Sem.run_pure]
 |cons f fs ih=>
  intro n k as u r hf M Z O;simp[KI]at hf;split at hf
  .rename_i b Fl R h2;split at hf
   .rename_i hc;obtain⟨D,Qq⟩:=hc;cases hf;obtain⟨x,ar,y,br,r0,rfl,rfl,N,ht,hf⟩:=aur M;obtain⟨T,F,z⟩:=Z 0 _ rfl;obtain⟨i_,H,Q⟩:=O 0 _ rfl;obtain⟨z⟩:=z;obtain⟨Q⟩:=Q;have Y:∀(X:Array Value) (v:Value),X[k]?=some v->(part f.type X f.offset).run P w=.ok v w:=by
     intro X v hX;have uF:(isAgg f.type).run P w=.ok false w:=by rcases agw R with⟨_,kk,h⟩|⟨_,h⟩<;>simp[isAgg,run_underlying h]
     rw[D];simp[part,uF,hX]
    have E:(Op.equalIn (d+1) f.type T i_).run P w=.ok r0 w:=by
     rcases agw R with⟨rfl,kk,h⟩|⟨rfl,h⟩
     .obtain⟨k',p,q,rfl,rfl,rfl⟩:=apt N;cases z;cases Q;simp[Op.equalIn,run_underlying h]
     obtain⟨p,q,rfl,rfl,rfl⟩:=arY N;cases z;cases Q;simp[Op.equalIn,run_underlying h]
    simp[Op.eqFields,aD Qq,Sem.run_bind,Y A T F,Y B i_ H,E,Result.andThen_ok];cases r0 with
    |false=>rw[hf rfl];simp[Sem.run_pure]
    |true=>exact ih h2 (ht rfl) (λj x L=>by have:=Z (j+1) x (by simpa using L);rwa[show k+(j+1)=k+1+j by omega]at this) (λj x L=>by have:=O (j+1) x (by simpa using L);rwa[show k+(j+1)=k+1+j by omega]at this)
   cases hf
  cases hf
def C0:yS->Value->Bool->Prop
 | .ptr,v,b=>∃a,v=.pointer a/\a.isNone=b
 | .slc,v,b=>∃a l c,v=.slice a l c/\a.isNone=b
 | .map,v,b=>∃r,v=.map r/\r.isNone=b
 | .fnc,v,b=>(v=.nilFunc/\b)\/ ∃f x y,v=.func f x y/\b=false
 | .ifc,v,b=>(v=.nilIface/\b)\/ ∃d x,v=.iface d x/\b=false
 |_,_,_=>False
theorem zL{k:yS}{b:Bool}(h:GK k x=some b)(hr:df m x v):C0 k v b:=by
 unfold GK at h;split at h<;>cases h
 all_goals first
  |(obtain⟨hp⟩:gh m _ v:=hr;cases hp;first
    |exact⟨_,rfl,rfl⟩
    |exact⟨_,_,_,rfl,rfl⟩
    |exact .inl ⟨rfl,rfl⟩
    |exact .inr ⟨_,_,_,rfl,rfl⟩
    |exact .inr ⟨_,_,rfl,rfl⟩)
  |(have H:=hr;cases H;first
    |exact⟨_,rfl,rfl⟩
    |exact⟨_,_,_,rfl,rfl⟩
    |exact .inr ⟨_,_,_,rfl,rfl⟩)
def W3(P:Program)(t:TypeId):yS->Prop
 | .bool=>P.underlying t=some .bool
 | .ptr=>∃e,P.underlying t=some (.pointer e)
 | .slc=>∃e,P.underlying t=some (.slice e)
 | .map=>∃a b,P.underlying t=some (.map a b)
 | .fnc=>∃a b c,P.underlying t=some (.func a b c)
 | .ifc=>∃a,P.underlying t=some (.interface a)
 | .str f=>∃fs,P.underlying t=some (.struct fs)/\P.stoodInHeld t=false/\P.eqGuardType P.depth t=false/\KI P 0 fs.toList=some f
theorem ame{t:TypeId}{x y:Operand}{k:yS}(h:ME P t x y=some k):W3 P t k/\(k=.ifc->Lp x\/Lp y):=by
 unfold ME at h;split at h
 .rename_i a H;split at h
  .rename_i f;cases h;exact⟨⟨_,H⟩,λ_=>by simpa using f⟩
  cases h
 .rename_i H;cases h;exact⟨H,λe=>by cases e⟩
 .rename_i H;cases h;exact⟨⟨_,H⟩,λe=>by cases e⟩
 .rename_i H;cases h;exact⟨⟨_,H⟩,λe=>by cases e⟩
 .rename_i H;cases h;exact⟨⟨_,_,H⟩,λe=>by cases e⟩
 .rename_i H;cases h;exact⟨⟨_,_,_,H⟩,λe=>by cases e⟩
 .rename_i fs H;split at h
  .rename_i f;simp at h;obtain⟨m,j,rfl⟩:=h;simp at f;exact⟨⟨fs,H,f.1,f.2,j⟩,λe=>by cases e⟩
  cases h
 cases h
theorem aeN{t:TypeId}{k:yS}{u:Value}{a b:Bool}(w:World)(j:W3 P t k)(H:C0 k v a)(f:C0 k u b)(D:a\/b)(d:Nat):(Op.equalIn (d+1) t v u).run P w=.ok (a&&b) w:=by
 cases k with
 |bool=>exact H.elim
 |str n=>exact H.elim
 |ptr=>obtain⟨e,h⟩:=j;obtain⟨x,rfl,rfl⟩:=H;obtain⟨y,rfl,rfl⟩:=f;cases x<;>cases y<;>simp at D<;>simp[Op.equalIn,run_underlying h]
 |slc=>obtain⟨e,h⟩:=j;obtain⟨x,_,_,rfl,rfl⟩:=H;obtain⟨y,_,_,rfl,rfl⟩:=f;cases x<;>cases y<;>simp at D<;>simp[Op.equalIn,run_underlying h]
 |map=>obtain⟨e,e',h⟩:=j;obtain⟨x,rfl,rfl⟩:=H;obtain⟨y,rfl,rfl⟩:=f;cases x<;>cases y<;>simp at D<;>simp[Op.equalIn,run_underlying h]
 |fnc=>obtain⟨e,e',E,h⟩:=j;rcases H with⟨rfl,rfl⟩|⟨_,_,_,rfl,rfl⟩<;>rcases f with⟨rfl,rfl⟩|⟨_,_,_,rfl,rfl⟩<;>simp at D<;>simp[Op.equalIn,run_underlying h]
 |ifc=>obtain⟨e,h⟩:=j;rcases H with⟨rfl,rfl⟩|⟨_,_,rfl,rfl⟩<;>rcases f with⟨rfl,rfl⟩|⟨_,_,rfl,rfl⟩<;>simp at D<;>simp[Op.equalIn,run_underlying h]
section
variable {m:a_} {j:bJ} {a:Act} {o:Oper} (aF:ez Z m) (hr:kI m j a.tmps)
include aF hr
theorem ato{t:TypeId}{k:yS}{y:V}{u:Value}{b:Bool}(z:W3 P t k)(h:E2 k x y=some b)(H:df m x v)(n:df m y u)(d:Nat):(Op.equalIn (d+2) t v u).run P m.w=.ok b m.w:=by
 unfold E2 at h;split at h
 .cases h;rw[Gj H,Gj n];simp[Op.equalIn,Sem.run_bind,run_underlying z,Result.andThen_ok,Sem.run_pure]
 .obtain⟨A,rfl,F⟩:=df.agg.1 H;obtain⟨B,rfl,E⟩:=df.agg.1 n;obtain⟨fs,D,ae,_,hf⟩:=z;have Cv:P.fieldsOf t=fs:=by simp[Program.fieldsOf,D]
  rw[run_equalIn_agg m.w (d+1) t A B (by rw[Cv];exact D) ae,Cv];refine asd (m:=m) d hf h (λj x H=>?_) (λj x H=>?_)
  .have f:j<A.size:=by have:=F.1;simp at this;rw[this];exact(bt.1 H).1
   exact⟨A[j],by simp[f],F.2 j x _ H (by simp[f])⟩
  have f:j<B.size:=by have:=E.1;simp at this;rw[this];exact(bt.1 H).1
  exact⟨B[j],by simp[f],E.2 j x _ H (by simp[f])⟩
 .cases h
 .cases h
 split at h
 .rename_i L;have:=aeN m.w z (zL h H) (zL L n) (.inr rfl) (d+1)
  simpa using this
 split at h
 .rename_i M;have:=aeN m.w z (zL M H) (zL h n) (.inl rfl) (d+1)
  simpa using this
 cases h
theorem ayC{op:BinOp}{t:TypeId}{k:yS}{x y:Operand}{b:Bool}(M:ME P t x y=some k)(T:dA x=some x')(R:dA y=some y')(h:E2 k (ev j x') (ev j y')=some b):
  (eqGuard op t x y (a.eval x) (a.eval y)).run P m.w=.ok () m.w:=by
 obtain⟨O,Q⟩:=ame M;have H:=gk T hr;have v:=gk R hr;by_cases f:op=.eql\/op=.neq
 .unfold E2 at h;split at h
  .rename_i E D;rw[E]at H;rw[Gj H,eqGuard_at_bool];rfl
  .rename_i E D;rw[E]at H;rw[D]at v;obtain⟨A,Y,_⟩:=df.agg.1 H;obtain⟨B,e4,_⟩:=df.agg.1 v;obtain⟨fs,_,_,L,_⟩:=O;rw[Y,e4];exact run_eqGuard_agg m.w op t x y A B L
  .cases h
  .cases h
  rename_i k q1 q2 q3 q4 q5 q6 q7;have X:∃z b2,C0 k (a.eval x) z/\C0 k (a.eval y) b2:=by
   split at h
   .rename_i F;exact⟨_,_,zL h H,zL F v⟩
   split at h
   .rename_i Z;exact⟨_,_,zL Z H,zL h v⟩
   cases h
  obtain⟨z,b2,N,n2⟩:=X;cases k with
  |bool=>exact N.elim
  |str n=>exact N.elim
  |ptr=>obtain⟨q,e,_⟩:=N;rw[e,eqGuard_at_pointer];rfl
  |slc=>obtain⟨q,_,_,e,_⟩:=N;rw[e,eqGuard_at_slice];rfl
  |map=>obtain⟨q,e,_⟩:=N;rw[e,eqGuard_at_map];rfl
  |fnc=>
   rcases N with⟨e,_⟩|⟨_,_,_,e,_⟩
   .rw[e,eqGuard_at_nilFunc];rfl
   rw[e,eqGuard_at_func];rfl
  |ifc=>
   rcases N with⟨e,_⟩|⟨_,_,e,_⟩
   .rcases n2 with⟨e',_⟩|⟨_,_,e',_⟩
    .rw[e,e'];have u:(∃c,x=.const c)\/ ∃c,y=.const c:=by
      rcases Q rfl with u|u
      .cases x<;>simp[Lp]at u
       exact .inl ⟨_,rfl⟩
      cases y<;>simp[Lp]at u
      exact .inr ⟨_,rfl⟩
     rcases u with⟨c,rfl⟩|⟨c,rfl⟩
     .rw[eqGuard_nil_constL];rfl
     rw[eqGuard_nil_constR];rfl
    rw[e,e',eqGuard_nil_iface];rfl
   rw[e,eqGuard_at_iface];rfl
 have:eqGuard op t x y (a.eval x) (a.eval y)=pure ():=by
  cases op<;>first
   |rfl
   |exact(f (.inl rfl)).elim
   |exact(f (.inr rfl)).elim
 rw[this];rfl
theorem aod{t:TypeId}{k:yS}{u:Value}{B:Bool}(ae:(∃p q,v=.bool p/\u=.bool q)\/(∃p q,v=.agg p/\u=.agg q)\/ ∃p q,C0 k v p/\C0 k u q)(h:(Op.equalIn (9998+2) t v u).run P m.w=.ok B m.w):
  (binOp .eql t v u).run P m.w=.ok (.bool B) m.w/\(binOp .neq t v u).run P m.w=.ok (.bool (!B)) m.w:=by
 have j:Op.equal t v u=Op.equalIn (9998+2) t v u:=rfl;have key:binOp .eql t v u=(do pure (.bool (<-Op.equal t v u)))/\binOp .neq t v u=(do pure (.bool (!(<-Op.equal t v u)))):=by
  rcases ae with⟨p,q,rfl,rfl⟩|⟨p,q,rfl,rfl⟩|⟨p,q,H,f⟩
  .exact⟨rfl,rfl⟩
  .exact⟨rfl,rfl⟩
  cases k with
  |bool=>exact H.elim
  |str n=>exact H.elim
  |ptr=>obtain⟨_,rfl,_⟩:=H;obtain _:=f;exact⟨rfl,rfl⟩
  |slc=>obtain⟨_,_,_,rfl,_⟩:=H;obtain _:=f;exact⟨rfl,rfl⟩
  |map=>obtain⟨_,rfl,_⟩:=H;obtain⟨_,rfl,_⟩:=f;exact⟨rfl,rfl⟩
  |fnc=>rcases H with⟨rfl,_⟩|⟨_,_,_,rfl,_⟩<;>rcases f with _|⟨_,_,_,rfl,_⟩<;>exact⟨rfl,rfl⟩
  |ifc=>rcases H with⟨rfl,_⟩|⟨_,_,rfl,_⟩<;>rcases f with⟨rfl,_⟩|⟨_,_,rfl,_⟩<;>exact⟨rfl,rfl⟩
 simp_all
theorem amm{op:BinOp}{t T:TypeId}{x y:Operand}{k:yS}{n b:Bool}(z:o.op=.binOp op t x y T)(u:(op=.eql/\n=false)\/(op=.neq/\n))(F:ME P t x y=some k)(D:dA x=some x')(A:dA y=some y')
  (h:E2 k (ev j x') (ev j y')=some b):iz P Z a.eval o m (.one (.p (.bool (if n then !b else b)))) []:=by
 have f:=gk D hr;have H:=gk A hr;have B:=ayC aF hr (op:=op) F D A h;have ae:(∃p q,a.eval x=.bool p/\a.eval y=.bool q)\/(∃p q,a.eval x=.agg p/\a.eval y=.agg q)\/ ∃p q,C0 k (a.eval x) p/\C0 k (a.eval y) q:=by
  unfold E2 at h;split at h
  .rename_i E v;rw[E]at f;rw[v]at H;exact .inl ⟨_,_,Gj f,Gj H⟩
  .rename_i E v;rw[E]at f;rw[v]at H;obtain _:=df.agg.1 f;obtain _:=df.agg.1 H
   grind
  .cases h
  .cases h
  split at h
  .rename_i L;exact .inr (.inr ⟨_,_,zL h f,zL L H⟩)
  split at h
  .rename_i M;exact .inr (.inr ⟨_,_,zL M f,zL h H⟩)
  cases h
 obtain⟨r1,R⟩:=aod aF hr ae (ato aF hr (ame F).1 h f H 9998);rcases u with⟨rfl,rfl⟩|⟨rfl,rfl⟩
 .exact .calm aF (by simp[execOp,z,B,r1]) (oN (.bool _))
 exact .calm aF (by simp[execOp,z,B,R]) (oN (.bool _))
end
theorem au1:∀ {y:dI}{B:BX},Kq y=some B->∃N:cL,y.flatten=N.map (PV.int .u8)/\B=N.map (λn=>UInt8.ofNat n.toNat)/\I N=I y:=by
 intro y
 induction y with
 |nil=>intro B h;simp[Kq]at h;exact⟨[],rfl,h,rfl⟩
 |cons e r m=>
  intro B h;unfold Kq at h;split at h
  .rename_i e';cases e'
  .rename_i n R e';cases e';simp at h;obtain⟨q,j,rfl⟩:=h;obtain⟨N,u,H,f⟩:=m j;exact⟨n::N,by simp[u],by simp[H],by simp[f]⟩
  cases h
theorem awS{w:World}{own:Nat->Prop}:∀ {N:cL}{h:List Value},Pw (dh w own) (N.map (PV.int .u8)) h->h=N.map (Value.int .u8):=by
 intro N
 induction N with
 |nil=>intro h H;have:=H.1;simp at this;simp[this]
 |cons n N f=>
  intro h H;cases h with
  |nil=>have:=H.1;simp at this
  |cons v h=>cases(H.2 0 _ v rfl rfl);rw[f (h:=h) ⟨by have:=H.1;simpa using this,λj x u a b=>H.2 (j+1) x u (by grind) (by grind)⟩];rfl
theorem aoR:∀(N:cL) (s:ByteArray),N.foldl (λr n=>r.push (UInt8.ofNat n.toNat)) s=⟨s.data++(N.map (λn=>UInt8.ofNat n.toNat)).toArray⟩:=by
 intro N
 induction N with
 |nil=>intro s;cases s;simp
 |cons n N f=>simp_all
section
variable {m:a_} {j:bJ} {a:Act} {o:Oper} (aF:ez Z m) (hr:kI m j a.tmps)
include aF hr
theorem azE{s d e:TypeId}{x:Operand}{y:dI}{r:aG}{B:BX}(Y:o.op=.convert s d x)(ae:P.underlying s=some (.slice e))(he:P.underlying e=some (.int .u8))(E:P.underlying d=some .string)
  (hx:dA x=some x') (dR:hU m.blk (ev j x')=some (y,r,[])) (R:Kq y=some B):iz P Z a.eval o m (.one (.p (.str ⟨B.toArray⟩))) []:=by
 obtain⟨N,T,H,z⟩:=au1 R;obtain⟨ax,f,L,_,M⟩:=ajp aF dR (gk hx hr) ⟨λ_ h=>h,λ_ h=>by simp at h⟩;refine .calm aF ?_ (oN (.str _));have key:(Conv.bytesToString (.slice ax (I y) f)).run P m.w=.ok (.string ⟨B.toArray⟩) m.w:=by
  by_cases u:y=[]
  .subst u;have:N=[]:=by simpa using z
   subst this;have iD:B=[]:=by simpa using H
   subst iD;cases ax with
   |none=>simp[Conv.bytesToString,Sem.run_pure];rfl
   |some X=>have:=run_bytesToString (P:=P) m.w X 0 f [] (by simp[loadCells,loadCellsFrom,Sem.run_pure]);exact this
  obtain⟨b,O,n,rfl,Q,F⟩:=M u;rw[T]at Q;have D:=awS Q;have hl:I n=I y:=by rw[D];simpa using z
  have A:(loadCells ⟨b,O,none⟩ (I y)).run P m.w=.ok (N.map (Value.int .u8)).toArray m.w:=by rw[<-hl,<-D];exact run_loadCells_list m.w _ n λab v hj=>by rw[Addr.add_lit];exact F ab v hj
  rw[run_bytesToString m.w _ _ f N A,aoR,H]
  simp_all
 simp[execOp,Y,L,Sem.run_bind,run_convert_bytes_string m.w s d e ax (I y) f ae he E,key,Result.andThen_ok,Sem.run_pure]
end
theorem abO{L:Array Operand}{a:fk}(h:rj L.toList=some [a]):∃x,L= #[x]/\dA x=some a:=by
 obtain⟨L⟩:=L;cases L with
 |nil=>simp[rj]at h
 |cons x r=>
  simp[rj]at h;split at h
  .rename_i y ys f E;cases h;cases r with
   |nil=>exact⟨x,rfl,f⟩
   |cons z r=>simp[rj]at E;split at E<;>simp at E
  cases h
theorem XU{L:Array Operand}{a b:fk}(h:rj L.toList=some [a,b]):∃x y,L= #[x,y]/\dA x=some a/\dA y=some b:=by
 obtain⟨L⟩:=L;cases L with
 |nil=>simp[rj]at h
 |cons x r=>
  simp[rj]at h;split at h
  .rename_i y ys E f;cases h;obtain _:=abO J
   grind
  cases h
theorem auH{L:Array TypeId}{t u:TypeId}(h:L[0]?=some t)(H:L[1]?=some u)(ae:L.size=2):L= #[t,u]:=by grind
theorem auX{α:Type}{y ys:List (List α)}{O:Nat}(h:∀e∈y,I e=sz)(j:∀e∈ys,I e=sz)(hl:O+I ys<=I y):(gM y O ys).flatten=gM y.flatten (O*sz) ys.flatten:=by
 have m:∀k,k<=I y->(y.take k).flatten.length=k*sz:=λk H=>by rw[Kv λe f=>h e (za f),jO,yO H]
 have E:y.flatten=(y.take (O+I ys)).flatten++(y.drop (O+I ys)).flatten:=by rw[<-G_,jS]
 unfold gM;rw[G_,G_,Kv j];congr 1
 .grind
 grind [ld]
theorem au4{R:PV->Value->Prop}{v:Array Value}(E:Pw R z v.toList):Pw R (List.replicate n z).flatten (Builtin.zeroCells v n).toList:=by
 have m:∀e∈List.replicate n z,I e=v.size:=λe f=>by rw[acC f];exact by have:=E.1;simp at this;omega
 have H:(Builtin.zeroCells v n).toList.length=n*v.size:=by simp[size_zeroCells]
 refine⟨by rw[H,Kv m];simp,λj x u p q=>?_⟩;have B:j<n*v.size:=by have:=(bt.1 q).1;omega
 have A:0<v.size:=by grind
 have h:j/v.size<n:=by rw[Nat.div_lt_iff_lt_mul A];exact B
 have y:j%v.size<v.size:=cT _ A;have f:(List.replicate n z)[j/v.size]?=some z:=by simp[h]
 have D:=Ip m f y;rw[show j/v.size*v.size+j%v.size=j by rw[TF];exact V_ j v.size]at D;rw[D]at p;have F:(Builtin.zeroCells v n).toList[j]?=some v[j%v.size]! :=by unfold Builtin.zeroCells;simp[B]
 rw[F]at q;cases q;refine E.2 _ x _ p ?_;simp[y]
section
variable {m:a_} {j:bJ} {a:Act} {o:Oper} (aF:ez Z m) (hr:kI m j a.tmps)
include aF hr
theorem az8{c:Call}{x:Operand}{t e:TypeId}{bytes:Nat}{v:V}{rd:aG}(ho:o.op=.call c)(hc:c.callee=.builtin .clear)(am:c.args= #[x])(jU:c.argTypes[0]?=some t)
  (he:CP P t=some (e,sz,bytes,z)) (hx:dA x=some x') (hp:cZ E j m.blk (.clear z x')=.done v u rd):iz P Z a.eval o m v u:=by
 obtain⟨i,zv,N,hi,ae,hb,⟨jD,PZ⟩,CA,Km,l9,eE⟩:=Vd he;have n:=gk hx hr;have run:∀(aw:Value) (w':World),(Builtin.clear_ c.argTypes o.type #[a.eval x]).run P m.w=.ok aw w'->(execOp a.eval o).run P m.w=.ok (.value aw) w':=by intro aw w' h;simp[execOp,ho,resolve,hc,am,invoke,builtin,h]
 have Q:(Builtin.clear_ c.argTypes o.type #[a.eval x]).run P m.w=.ok (.tuple #[]) m.w->iz P Z a.eval o m (.tup []) []:=λh=>
  ⟨.tuple #[],m,.inl (run _ _ h),aF,hs.refl _,rfl,rfl,(⟨#[],rfl,rfl,λav x u h=>by simp at h⟩:df m (.tup []) _)⟩
 simp only[cZ]at hp;split at hp
 .rename_i L;cases hp;rw[L]at n;have n:=n;generalize Y:a.eval x=b at n;rw[Y]at Q;apply Q;cases n with
  |p h=>cases h;simp[Builtin.clear_,jU,run_underlying N]
 .rename_i L;cases hp;rw[L]at n;have n:=n;generalize Y:a.eval x=b at n;rw[Y]at Q;apply Q;cases n with
  |p h=>
   cases h with
   |A3 a ab hn hm=>cases a<;>simp[Builtin.clear_,jU,run_underlying N]
   |sl b o ab sz f h1 h2 h3 h4=>simp[Builtin.clear_,jU,run_underlying N]
 .rename_i id g w O len L;rw[L]at n;have n:=n;generalize Y:a.eval x=b at n;rw[Y]at Q run;cases n with
  |hsl ad ab hg hl hm rS=>
   split at hp
   .rename_i h0;cases hp;subst h0;apply Q;simp[Builtin.clear_,jU,run_underlying N]
   rename_i h0;split at hp
   .rename_i g' T F y B;split at hp
    .rename_i P9;obtain⟨jV,R,H⟩:=P9;cases hp;have cV:(m.blk id).2=some (.arr T F y):=by rw[B]
     obtain⟨_,rS,_⟩:=rS F (by rw[B];exact jV) (by rw[B];rfl);have rS:=rS (.inr J);subst rS;obtain⟨D,hh,mB,vI,mz,qu,JD,BH⟩:=aF.obj id _ cV;have QO:∀e∈List.replicate len z,I e=F:=λe he=>by rw[acC he];exact R.symm
     have ac:zv.cells.size=F:=by rw[Km,<-l9,R]
     have MS:I (List.replicate len z)=len:=Ph;have rU:=auX vI QO (by rw[MS];exact H);have qo:(O+len)*F<=I y*F:=nR _ H;have ar:I y*F<=m.κ id*F:=nR _ mz;rw[ld]at qo;generalize hZ:(Builtin.zeroCells zv.cells len).toList=ap;have Jw:I ap=len*F:=by rw[<-hZ];simp[size_zeroCells,ac]
     have M:∀w own,eL w own (List.replicate len z).flatten ap:=λw own=>eL.pw.2 (by rw[<-hZ];exact au4 (eL.pw.1 (eE w own)));have UF:∀v∈ap,v.oneCell':=λv L=>by obtain⟨av,hj⟩:=fK L;exact((M m.w m.own).2 av _ v (tH (by rw[<- (M m.w m.own).1];exact(bt.1 hj).1)) hj).Rq
     have dG:=run_storeCells_at P (m.σ id) (O*F) T ap 0 D m.w hh (by rw[Jw,JD];omega) UF;simp only[uz]at dG;generalize A:m.w.setRow (m.σ id) (D.toList.take (O*F)++ap++D.toList.drop (O*F+I ap)).toArray=W at dG;have Hj:W.heap.size=m.w.heap.size:=by rw[<-A];simp
     have Hi:∀c,c≠m.σ id->W.heap[c]?=m.w.heap[c]? :=λc hc=>by rw[<-A];exact setRow_other m.w (m.σ id) c _ hc
     have X:I (gM y O (List.replicate len z))=I y:=RF (by rw[MS];exact H);have ff:=Ly (o:=.arr T F (gM y O (List.replicate len z))) cV rfl (by simp[lW]) (by rw[<-A];rfl) (by rw[<-A];rfl) (by rw[<-A];rfl) Hj Hi;have F4:uy (m.kD W id (.arr T F (gM y O (List.replicate len z)))) id (.arr T F (gM y O (List.replicate len z))):=by
      refine⟨_,by rw[<-A];exact Su hh,mB,?_,by rw[X];exact mz,qu,?_,?_⟩
      .intro e' Am;unfold gM at Am;simp only[gn]at Am
       grind
      .simp[a_.kD];omega
      rw[X,rU];have h1:=(eL.pw.1 (BH.ev ff.zero)).gM (eL.pw.1 (M (m.kD W id (.arr T F (gM y O (List.replicate len z)))).w (m.kD W id (.arr T F (gM y O (List.replicate len z)))).own)) (O*F);rw[<-ajv J (by simp;omega)]at h1
      simpa [gM]using(eL.pw.2 h1)
     refine⟨.tuple #[],m.kD W id (.arr T F (gM y O (List.replicate len z))),.inl (run _ _ ?_),Ob cV rfl aF (by simp[lW]) (by rw[<-A];rfl) (by rw[<-A];rfl) (by rw[<-A];rfl) Hj Hi F4,ff,rfl,?_,(⟨#[],rfl,rfl,λav x u h=>by simp at h⟩:df _ (.tup []) _)⟩
     .obtain⟨k,rfl⟩:∃k,len=k+1:=⟨len-1,J⟩;simp[Builtin.clear_,jU,run_underlying N,zeroValue,typeInfo,hi,CA,hZ,dG,a_.kD]
     simp[a_.kD,app,B,jV]
    cases hp
   cases hp
 cases hp
end
section
variable {m:a_} {j:bJ} {a:Act} {o:Oper} (aF:ez Z m) (hr:kI m j a.tmps)
include aF hr
theorem ajo{t F e:TypeId}{x k Y:Operand}{kd:Nat}{v:V}{rd:aG}(h:o.op=.mapUpdate t x k Y\/o.op=.insert t x k Y)(A:P.underlying t=some (.map F e))
  (n:keyOf P F=some kd) (B:dA x=some x') (N:dA k=some k') (H:dA Y=some y') (hp:cZ E j m.blk (.mupd kd ag x' k' y')=.done v u rd):iz P Z a.eval o m v u:=by
 simp[cZ]at hp;split at hp
 .rename_i id g q D L z M;split at hp
  .rename_i g' T y ps Q f;split at hp
   .rename_i R;obtain⟨rfl,rfl,O⟩:=R;split at hp
    .rename_i i w hf;cases hp;exact amF aF hr h A n B N H L Q z O M f hf
    .rename_i hf;cases hp;exact amF aF hr h A n B N H L Q z O M f hf
    cases hp
   cases hp
  cases hp
 cases hp
theorem arV{p:sJ}{v:V}{rd:aG}(H:GH P site o=some p)(hp:cZ E j m.blk p=.done v u rd):iz P Z a.eval o m v u:=by
 unfold GH at H;split at H
 ·
  rename_i x B;simp only[gv]at H;obtain⟨Y,A,rfl⟩:=H;cases hp;exact ae5 aF hr (.inl B) A
 ·
  rename_i x B;simp only[gv]at H;obtain⟨Y,A,rfl⟩:=H;cases hp;exact ae5 aF hr (.inr B) A
 ·
  rename_i c x Y B;split at H
  .rename_i c' x' y' A F L;cases H;simp only[cZ]at hp;split at hp
   .rename_i t O;cases hp;exact aAG aF hr B A F L O
   cases hp
  cases H
 ·
  rename_i t B;simp only[gv]at H;obtain⟨z,A,rfl⟩:=H;cases hp;exact auS aF B A
 ·
  rename_i t x B;simp only[gv]at H;obtain⟨z,A,rfl⟩:=H;simp only[cZ]at hp;split at hp
  .rename_i D eh;cases hp;exact aAr aF hr B A eh
  cases hp
 ·
  rename_i t ps B;split at H
  .rename_i fs z A F;split at H
   .rename_i jI;simp only[gv]at H;obtain⟨qs,L,rfl⟩:=H;simp only[cZ]at hp;split at hp
    .rename_i rs F7;cases hp;exact aAa aF hr B A F jI L F7
    cases hp
   cases H
  .rename_i n e z A F;split at H
   .rename_i i hi;simp only[gv]at H;obtain⟨qs,L,rfl⟩:=H;simp only[cZ]at hp;split at hp
    .rename_i rs F7;cases hp;exact avx aF hr B A F hi L F7
    cases hp
   cases H
  cases H
 ·
  rename_i t n ps B;split at H
  .rename_i e sz bytes z as A F;split at H
   .rename_i vt;cases H;simp only[cZ]at hp;split at hp
    .rename_i y fi;obtain⟨g1,g2⟩:=aum (s:=site) aF hr B A F vt.1 vt.2 fi;split at hp
     .rename_i qs am;cases hp;exact g1 qs am
     cases hp;exact g2
    cases hp
   cases H
  cases H
 ·
  rename_i t x B;split at H
  .rename_i k Y A F;cases H;simp only[cZ]at hp;split at hp
   .rename_i D r eh;split at hp
    .rename_i v' hv;cases hp;exact aov aF hr B A F eh hv
    cases hp
   cases hp
  cases H
 ·
  rename_i t x Y B;split at H
  .rename_i n x' y' A F L;cases H;simp only[cZ]at hp;split at hp
   .rename_i D eh;exact azO aF hr B A F L eh hp
   cases hp
  cases H
 ·
  rename_i x B;simp only[gv]at H;obtain⟨Y,A,rfl⟩:=H;have Q:u=[]/\rd=[]:=by simp only[cZ]at hp;split at hp<;>cases hp<;>exact⟨rfl,rfl⟩
  obtain⟨rfl,rfl⟩:=Q;exact apf aF hr B A hp
 ·
  rename_i op t x Y ty B;split at H
  .rename_i x' y' A F;have ac:∀(ab:BinOp),p=.bin ab x' y'->ab=op->iz P Z a.eval o m v u:=by
    intro ab N M;subst N M;simp only[cZ]at hp;split at hp
    .rename_i v' hv;cases hp;exact awG aF hr B A F hv
    cases hp
   split at H
   .cases H;exact ac _ rfl rfl
   .cases H;exact ac _ rfl rfl
   split at H
   .rename_i k hk;cases H;simp only[cZ]at hp;split at hp
    .rename_i b hb;cases hp;exact amm aF hr B (.inl ⟨rfl,rfl⟩) hk A F hb
    cases hp
   .rename_i k hk;cases H;simp only[cZ]at hp;split at hp
    .rename_i b hb;cases hp;exact amm aF hr B (.inr ⟨rfl,rfl⟩) hk A F hb
    cases hp
   cases H
  cases H
 ·
  rename_i op t x B;split at H
  .simp only[gv]at H;obtain⟨Y,A,rfl⟩:=H;simp only[cZ]at hp;split at hp
   .rename_i b N M;cases hp;exact anN aF hr B A M
   .rename_i N M;cases N
   cases hp
  .simp only[gv]at H;obtain⟨Y,A,rfl⟩:=H;simp only[cZ]at hp;split at hp
   .rename_i N M;cases N
   .rename_i k n N M;cases hp;exact avp aF hr B A M
   cases hp
  cases H
 ·
  rename_i s d x B;split at H
  .rename_i ks k Y A F L;cases H;simp only[cZ]at hp;split at hp
   .rename_i k0 n hn;cases hp;exact ay6 aF hr B A F L hn
   cases hp
  .rename_i e Y A F L;split at H
   .rename_i he;cases H;simp only[cZ]at hp;split at hp
    .rename_i y r fi;split at hp
     .rename_i bs uG;cases hp;exact azE aF hr B A he F L fi uG
     cases hp
    cases hp
   cases H
  cases H
 ·
  rename_i f x Y B;split at H
  .rename_i x' y' A F;cases H;simp only[cZ]at hp;split at hp
   .rename_i D ds N M;cases hp;exact aCb aF hr B A F N M
   cases hp
  cases H
 ·
  rename_i t B;split at H
  .simp only[gv]at H;obtain⟨k,A,rfl⟩:=H;cases hp;exact ay9 (f:=t) (e:=t) aF B
  cases H
 ·
  rename_i t l c B;split at H
  .rename_i e sz bytes z l' c' A F L;cases H;simp only[cZ]at hp;split at hp
   .rename_i n n' N M;split at hp
    .rename_i vt;obtain⟨rfl,nE⟩:=vt;cases hp;exact ayD aF hr B A F L N M nE
    cases hp
   cases hp
  cases H
 ·
  rename_i t x lo hi B;split at H
  .rename_i x' Gi zk A F L;split at H
   .rename_i e O;simp only[gv]at H;obtain⟨sz,X,rfl⟩:=H;simp only[cZ]at hp;split at hp
    .rename_i n hn;split at hp
     .rename_i l ap N M;have Q:u=[]/\rd=[]:=by
       unfold FA at hp;repeat' split at hp
       all_goals first
        |cases hp
        |skip
       all_goals exact⟨rfl,rfl⟩
      obtain⟨rfl,rfl⟩:=Q;exact awX aF hr B O X A F L hn N M hp
     cases hp
    cases hp
   .rename_i O;cases H;simp only[cZ]at hp;split at hp
    .rename_i s ae;split at hp
     .rename_i l ap N M;split at hp
      .rename_i vt;cases hp;exact ar3 aF hr B O A F L ae N M vt.1 vt.2
      cases hp
     cases hp
    cases hp
   cases H
  cases H
 ·
  rename_i s x f B;split at H
  .rename_i fs Y A F;split at H
   .rename_i d hd;split at H
    .rename_i hz;cases H;have Q:u=[]/\rd=[]:=by
      simp only[cZ]at hp;split at hp<;>cases hp<;>exact⟨rfl,rfl⟩
     obtain⟨rfl,rfl⟩:=Q;exact aqS aF hr B A hd hz F hp
    cases H
   cases H
  cases H
 ·
  rename_i t x f B;split at H
  .rename_i fs Y A F;split at H
   .rename_i d hd;simp only[gv]at H;obtain⟨k,L,rfl⟩:=H;simp only[cZ]at hp;split at hp
    .rename_i D eh;split at hp
     .rename_i v' hv;cases hp;exact aw6 aF hr B A hd L F eh hv
     cases hp
    cases hp
   cases H
  cases H
 ·
  rename_i t x i B;split at H
  .rename_i x' i' A F;split at H
   .rename_i e O;simp only[gv]at H;obtain⟨sz,L,rfl⟩:=H;have Q:u=[]/\rd=[]:=by
     simp only[cZ]at hp;repeat' split at hp
     all_goals first
      |cases hp
      |skip
     all_goals exact⟨rfl,rfl⟩
    obtain⟨rfl,rfl⟩:=Q;exact aqv aF hr B O L A F hp
   .rename_i n e O;simp only[gv]at H;obtain⟨sz,L,rfl⟩:=H;have Q:u=[]/\rd=[]:=by
     simp only[cZ]at hp;repeat' split at hp
     all_goals first
      |cases hp
      |skip
     all_goals exact⟨rfl,rfl⟩
    obtain⟨rfl,rfl⟩:=Q;exact aBX aF hr B O L A F hp
   cases H
  cases H
 ·
  rename_i t x i B;split at H
  .rename_i x' i' A F;split at H
   .rename_i n e O;split at H
    .rename_i sz k L X;cases H;simp only[cZ]at hp;split at hp
     .rename_i n' D N M;split at hp
      .rename_i aw;split at hp
       .rename_i v' hv;cases hp;exact aqe aF hr B O L X A F N aw M hv
       cases hp
      cases hp
     cases hp
    cases H
   .rename_i O;cases H;simp only[cZ]at hp;split at hp
    .rename_i n s N M;split at hp
     .rename_i b hb;cases hp;exact aqN aF hr B O A F N M hb
     cases hp
    cases hp
   cases H
  cases H
 ·
  rename_i t x k ok B;split at H
  .rename_i kt e x' k' A F L;split at H
   .rename_i z q X h5;split at H
    .rename_i kd h6;split at H
     .rename_i h7;cases H;simp only[cZ]at hp;split at hp
      .rename_i y r key N M;split at hp
       .cases hp
       rename_i DR;split at hp
       .rename_i f hf;split at hp
        .rename_i w hw;cases hp;exact apa aF hr B A X h6 h7 F L N M (Classical.not_not.1 DR) hf hw
        cases hp
       cases hp
      cases hp
     cases H
    cases H
   cases H
  cases H
 ·
  rename_i t x k Y B;split at H
  .rename_i kt e x' k' y' A F L X;split at H
   .rename_i q h5;simp only[gv]at H;obtain⟨kd,h6,rfl⟩:=H;exact ajo aF hr (.inl B) A h6 F L X hp
   cases H
  cases H
 ·
  rename_i t x k Y B;split at H
  .rename_i kt e x' k' y' A F L X;split at H
   .rename_i q h5;simp only[gv]at H;obtain⟨kd,h6,rfl⟩:=H;exact ajo aF hr (.inr B) A h6 F L X hp
   cases H
  cases H
 ·
  rename_i x i B;simp only[gv]at H;obtain⟨Y,A,rfl⟩:=H;simp only[cZ]at hp;split at hp
  .rename_i h tL;split at hp
   .rename_i v' hv;cases hp;exact awk aF hr B A tL hv
   cases hp
  cases hp
 ·
  rename_i c B;split at H
  .rename_i f as A F;simp only[gv]at H;obtain⟨Y,L,rfl⟩:=H;simp only[cZ]at hp;repeat' split at hp
   all_goals cases hp
  .rename_i x A F;obtain⟨x0,T,R⟩:=abO F;split at H
   .rename_i t O;split at H
    .rename_i Q;cases H;simp only[cZ]at hp;split at hp
     .rename_i s ae;cases hp;exact asB aF hr B A T O Q R ae
     cases hp
    .rename_i e Q;cases H;simp only[cZ]at hp;split at hp
     .rename_i n hn;cases hp;exact aou aF hr B A T O Q R hn
     cases hp
    .rename_i k e Q;cases H;simp only[cZ]at hp;split at hp
     .rename_i n r hn;cases hp;exact axo aF hr B A T O Q R hn
     cases hp
    cases H
   cases H
  .rename_i x Y A F;obtain⟨x0,y0,T,R,Ay⟩:=XU F;split at H
   .rename_i t u' O Q;split at H
    .rename_i e sz bytes z he;split at H
     .rename_i vt;cases H;obtain⟨rfl,ad⟩:=vt;exact avW aF hr B A T (auH O Q ad) he R Ay hp
     cases H
    cases H
   cases H
  .rename_i x Y A F;obtain⟨x0,y0,T,R,Ay⟩:=XU F;cases H;simp only[cZ]at hp;split at hp
   .rename_i k p k' q N M;cases hp;exact aCr aF hr B A T R Ay N M
   cases hp
  .rename_i x Y A F;obtain⟨x0,y0,T,R,Ay⟩:=XU F;cases H;simp only[cZ]at hp;split at hp
   .rename_i k p k' q N M;cases hp;exact ayd aF hr B A T R Ay N M
   cases hp
  .rename_i x A F;obtain⟨x0,T,R⟩:=abO F;split at H
   .rename_i t O;simp only[gv]at H;obtain⟨⟨e,sz,bytes,z⟩,L,rfl⟩:=H;exact az8 aF hr B A T O L R hp
   cases H
  cases H
 cases H
end
section
variable{m:a_}{D:eO}
def aoy(w:World)(Q:Nat->Prop)(T sz:Nat)(y:dI)(c:Nat)(v:Value):Prop:=∃f h,v=.slice (some ⟨c,0,none⟩) (I y) f/\w.heap[c]?=some (.cells h T (0,0))/\0<sz/\(∀e∈y,I e=sz)/\I y<=f/\f<=maxLen/\h.size=f*sz/\eL w Q y.flatten (h.toList.take (I y*sz))
def s4(w:World)(Q:Nat->Prop):oh->List Value->aG->Prop
 |[],h,B=>h=[]/\B=[]
 | .p x::r,h,B=>∃v f,h=v::f/\dh w Q x v/\s4 w Q r f B
 | .own T sz y::r,h,B=>∃v f c F,h=v::f/\B=c::F/\aoy w Q T sz y c v/\s4 w Q r f F
theorem s4.mono{w:World}(u:∀c,c<w.heap.size-> ¬Q c->w'.heap[c]?=w.heap[c]? /\ ¬Q' c):∀ {R:oh}{h:List Value}{B:aG},(∀c∈B,w'.heap[c]?=w.heap[c]?)->s4 w Q R h B->s4 w' Q' R h B:=by
 intro R
 induction R with
 |nil=>intro h B _ A;exact A
 |cons r R z=>
  intro h B f A;cases r with
  |p x=>obtain⟨v,n,rfl,L,H⟩:=A;exact⟨v,n,rfl,L.mono u,z f H⟩
  |own ty sz y=>obtain⟨v,n,c,O,rfl,rfl,⟨j,m,T,M,X,Y,E,F,D,N⟩,H⟩:=A;exact⟨v,n,c,O,rfl,rfl,⟨j,m,T,by rw[f c aE];exact M,X,Y,E,F,D,N.mono u⟩,z (λc Z=>f c (by simp[Z])) H⟩
theorem s4.less{w:World}(j:∀b,Q' b->Q b){R:oh}{B:aG}(hr:s4 w Q R h B):s4 w Q' R h B:=hr.mono (λc _ f=>⟨rfl,λH=>f (j c H)⟩) (λ_ _=>rfl)
theorem azJ(aF:ez Z m)(H:∀b,Q b->m.own b){c:bd}{x:PV}{q:aG}(h:snap m.blk jl c=some (x,q))(hr:gh m c v)(ae:∀id∈q,¬Q (m.σ id)):dh m.w Q x v:=Jd aF jl h hr ⟨H,ae⟩
theorem ac3(aF:ez Z m)(hQ:∀b,Q b->m.own b):∀ {D:eO}{R:oh}{o q:aG}{h:List Value},oV m.blk D=some (R,o,q)->eH m D h->(∀id∈q,¬Q (m.σ id))->
  s4 m.w Q R h (o.map m.σ)/\ ∀id∈o,∃O,(m.blk id).2=some O/\O.iM:=by
 intro D
 induction D with
 |nil=>
  intro R o q h F hr _;simp only[oV,iW,nh]at F;obtain⟨rfl,rfl,rfl⟩:=F;have:h=[]:=by have:=hr.1;simpa using this
  exact⟨⟨this,rfl⟩,λid F=>by simp at F⟩
 |cons c D ih=>
  intro R o q h F hr hq;simp only[oV]at F;split at F
  .rename_i x o1 q1 L os qs H h2;cases F;cases h with
   |nil=>simp[eH]at hr
   |cons v h=>
    obtain⟨i1,i2⟩:=ih h2 ⟨by have:=hr.1;simpa using this,λj x u a b=>hr.2 (j+1) x u (by simpa using a) (by simpa using b)⟩ (λid n=>hq id (by simp[n]));have Y:=hr.2 0 c v rfl rfl;have f:∀ {ac:PV},(snap m.blk jl c).map (λ(v,r)=>((.p v:nm),([]:aG),r))=some (x,o1,q1)->s4 m.w Q (x::L) (v::h) ((o1++os).map m.σ)/\ ∀id∈o1++os,∃O,(m.blk id).2=some O/\O.iM:=by intro _ H;simp only[gv]at H;obtain⟨⟨ac,r⟩,h3,h4⟩:=H;cases h4;exact⟨⟨v,h,rfl,azJ aF hQ h3 Y (λid n=>hq id (by simp[n])),i1⟩,i2⟩
    unfold mH at H;split at H
    .rename_i ac;cases H;have hy:dh m.w m.own ac v:=by cases Y with|p F=>exact F
     exact⟨⟨v,h,rfl,hy.less hQ,i1⟩,i2⟩
    .rename_i id g z len;split at H
     .rename_i g' ty sz y N;split at H
      .rename_i vt;obtain⟨rfl,B⟩:=vt;cases H;have Jz:(m.blk id).2=some (.arr ty sz y):=by rw[N]
       obtain⟨T,hh,jD,E,hl,qT,eh,eE⟩:=aF.obj id _ Jz;cases Y with
       |hsl ad ab hg qt am X=>
        obtain⟨f1,f2,f3⟩:=X sz (by rw[N]) (by rw[N];rfl);have rS:=f2 (.inl rfl);have A:ab=m.κ id:=by rw[<-f3,jN]
        rw[DE]at rS;subst rS;subst A;have aw:I (y.take len)=len:=by simp;omega
        refine⟨⟨_,h,m.σ id,os.map m.σ,rfl,rfl,⟨m.κ id,T,by rw[aw],hh,jD,λe he=>E e (za he),by rw[aw];exact qt,qT,eh,?_⟩,i1⟩,?_⟩
        .rw[aw,IQ E];have H:=(eL.pw.1 eE).take (len*sz);rw[Dn,yO (nR _ B)]at H;exact(eL.pw.2 H).less hQ
        intro j M;simp only[qz,fB,c7]at M;rcases M with rfl|M
        .exact⟨_,Jz,rfl⟩
        exact i2 j M
      cases H
     exact f (ac:=.AP) H
    exact f (ac:=.AP) H
  cases F
theorem agI:∀(R:oh) (site:Nat) (b M:aJ),(∀s,site<=s->(b s).1=(M s).1)->lR b site R=lR M site R:=by
 intro R
 induction R with
 |nil=>intro site b M _;rfl
 |cons r R f=>
  intro site b M h;have H:iC b site r=iC M site r:=by
   cases r with
   |p x=>rfl
   |own T sz y=>simp[iC,h site _]
  simp[lR,H,f (site+1) b M (λs ae=>h s J)]
theorem awh{s c k:Nat}{o:gP}(f:m.fr c):wh m (m.install s c k o) where
 own x _ j:=⟨rfl,λh=>j (SY f h)⟩
 gen id:=by
  simp[a_.install,bG]
  grind
 ref id H ae:=by
  simp[a_.install,bG]at H ae |-
  grind
theorem wh.trans{a b c:a_}(h:wh a b)(ae:a.w.heap.size<=b.w.heap.size)(k:wh b c):wh a c where
 own x f u:=by
  have j:=h.own x f u;have m:=k.own x (Cf f ae) j.2
  grind
 gen id:=oO (h.gen id) (k.gen id)
 ref id y H:=by
  have j:=h.gen id;have m:=k.gen id;obtain⟨n,E,z,v⟩:=k.ref id J H;obtain _:=h.ref id J n
  grind
theorem ava{n:a_}:∀ {R:oh}{h:List Value}{D:aG}{site:Nat}{m:a_},ez Z m->s4 m.w m.own R h D->D.Nodup->(∀c∈D,m.fr c/\Z.heap.size<=c)->hs n m->(∀c∈D,n.w.heap.size<=c\/n.iM c)->
  ∃M,M.w=m.w/\ez Z M/\hs n M/\wh m M/\(∀c,M.fr c↔m.fr c/\c∉D)/\M.blk=app (lR m.blk site R).2 m.blk/\eH M (lR m.blk site R).1 h:=by
 intro R
 induction R with
 |nil=>intro h D site m aF Q _ _ X _;obtain⟨rfl,rfl⟩:=Q;exact⟨m,rfl,aF,X,⟨λc _ Q=>⟨rfl,Q⟩,λ_=>cJ _,λ_ _ Q=>⟨Q,rfl,rfl,rfl⟩⟩,λc=>aE,rfl,rfl,λj x u Q=>by simp[lR]at Q⟩
 |cons r R ih=>
  intro h D site m aF Q fN O X DV;have cons:∀ {M:a_}{x:bd}{L:eO}{v:Value}{h:List Value},gh M x v->eH M L h->eH M (x::L) (v::h):=by
   intro M x L v h h1 A;refine⟨by simp[A.1],λj ad u a b=>?_⟩;cases j with
   |zero=>simp at a b;subst a b;exact h1
   |succ j=>simp at a b;exact A.2 j ad u a b
  cases r with
  |p x=>obtain⟨v,pY,rfl,h1,A⟩:=Q;obtain⟨M,e1,e2,e3,F,e5,e6,Y⟩:=ih aF A fN O X DV;exact⟨M,e1,e2,e3,F,e5,by simpa [lR,iC]using e6,by simpa [lR,iC]using cons (gh.p (h1.ev F)) Y⟩
  |own T sz y=>
   obtain⟨v,pY,c,Fl,rfl,rfl,⟨f,ab,q1,q2,q3,q4,q5,q6,q7,q8⟩,A⟩:=Q;have H:=(O c aE).1;have h0:=awh (s:=site) (k:=f) (o:=.arr T sz y) H;have ac:(m.install site c f (.arr T sz y)).σ site=c:=by simp[a_.install,bG]
   have B:(m.install site c f (.arr T sz y)).κ site=f:=by simp[a_.install,bG]
   have DW:ez Z (m.install site c f (.arr T sz y)):=Ry aF H (O c aE).2
    ⟨ab,by rw[ac];exact q2,q3,q4,by rw[B];exact q5,by rw[B];exact q6,by rw[B];exact q7,eL.ev h0 q8⟩
   have E:=rR.1 fN;obtain⟨M,e1,e2,e3,F,e5,e6,Y⟩:=ih DW (A.less λb hb=>SY H hb) E.2
    (λd N=>⟨⟨(O d (by simp[N])).1,λe=>E.1 (e▸N)⟩,(O d (by simp[N])).2⟩) (Q3 X H (DV c aE)) (λd N=>DV d (by simp[N]))
   have YU:lR (m.install site c f (.arr T sz y)).blk (site+1) R=lR m.blk (site+1) R:=agI _ _ _ _ λs ae=>by simp only[a_.install,bG];rw[aC J]
   rw[YU]at e6 Y;refine⟨M,e1,e2,e3,h0.trans (cJ _) F,λd=>?_,?_,?_⟩
   .rw[e5 d];simp only[a_.install,c7,A4];exact⟨λ⟨⟨a,b⟩,c⟩=>⟨a,b,c⟩,λ⟨a,b,c⟩=>⟨⟨a,b⟩,c⟩⟩
   .rw[e6];rfl
   refine cons ?_ Y;have:gh (m.install site c f (.arr T sz y)) (.hsl site ((m.blk site).1+1) sz 0 (I y)) v:=by
    rw[q1];refine .hsl _ _ ?_ q5 q6 λz h1 A=>?_
    .simp[a_.install,bG]
    have hz:lW ((m.install site c f (.arr T sz y)).blk site)=some sz:=by simp[a_.install,bG,lW]
    grind
   exact this.ev F
def Ax:RV->Value->List Value->Prop
 | .one _,v,h=>h=[v]
 | .agg l,v,h=>v=.agg h.toArray/\I h=I l
 | .tup _,_,_=>False
def F_:List RV->List Value->List Value->Prop
 |[],us,h=>us=[]/\h=[]
 |r::R,us,h=>∃u f a b,us=u::f/\h=a++b/\Ax r u a/\F_ R f b
def GY:RV->Value->List Value->Prop
 | .tup R,v,h=>∃arr,v=.tuple arr/\F_ R arr.toList h
 |r,v,h=>Ax r v h
theorem eH.take(H:eH m D h)(n:Nat):eH m (D.take n) (h.take n):=eH.pw.2 ((eH.pw.1 H).take n)
theorem eH.drop(H:eH m D h)(n:Nat):eH m (D.drop n) (h.drop n):=eH.pw.2 ((eH.pw.1 H).drop n)
theorem eH.append{f:eO}(H:eH m D h)(k:eH m f us):eH m (D++f) (h++us):=eH.pw.2 ((eH.pw.1 H).append (eH.pw.1 k))
theorem eH.single{c:bd}(h:gh m c v):eH m [c] [v]:=⟨rfl,λj x u a b=>by
 rcases j with _|j
 .grind
 simp at a⟩
theorem adr{v:V}(H:qG v=some D)(hr:pS m v val):
  ∃h,eH m D h/\ ∀(R T:oh),I R=I D->(vf v (R++T)).2=T/\mD (vf v (R++T)).1=R/\Ax (vf v (R++T)).1 val h:=by
 cases v with
 |undef=>simp[qG]at H
 |tup h=>simp[qG]at H
 |one c=>
  simp[qG,iW]at H;subst H;refine⟨[val],eH.single hr,λR T hl=>?_⟩
  match R,hl with
  |[r],_=>exact⟨rfl,rfl,rfl⟩
 |agg f=>
  simp[qG,iW]at H;subst H;obtain⟨arr,rfl,j⟩:=hr;refine⟨arr.toList,j,λR T hl=>?_⟩;have u:(R++T).take (I f)=R:=by rw[<-hl];exact Kn
  have n:(R++T).drop (I f)=T:=by rw[<-hl];exact Q1
  simp only[vf,mD,Ax,u,n,true_and];rw[j.1,hl]
theorem asm:∀ {f:dZ}{D:eO}{v:List Value},yX f=some D->Pw (pS m) f v->
  ∃h,eH m D h/\ ∀(R:oh),I R=I D->tu (D7 f R)=R/\F_ (D7 f R) v h:=by
 intro f
 induction f with
 |nil=>
  intro D v H hr;simp only[yX,iW]at H;subst H;have O:v=[]:=by have:=hr.1;simpa using this
  subst O;refine⟨[],⟨rfl,λj x u a=>by simp at a⟩,λR hl=>?_⟩;have:R=[]:=by simpa using hl
  subst this;exact⟨rfl,rfl,rfl⟩
 |cons w f T=>
  intro D v H hr;simp only[yX]at H;split at H
  .rename_i a b F z;cases H;cases v with
   |nil=>have:=hr.1;simp at this
   |cons val v=>
    obtain⟨n,N,L⟩:=adr F (hr.2 0 w val rfl rfl);obtain⟨y,E,B⟩:=T z ⟨by have:=hr.1;simpa using this,λj x u p q=>hr.2 (j+1) x u (by simpa using p) (by simpa using q)⟩;refine⟨n++y,N.append E,λR hl=>?_⟩;have Y:I R=I a+I b:=by simpa using hl
    obtain⟨M,A,X⟩:=L (R.take (I a)) (R.drop (I a)) (by simp;omega);obtain⟨Q,Z⟩:=B (R.drop (I a)) (by simp;omega);simp only[D7,tu,M,A,Q,F_]
    grind [jS]
  cases H
theorem anI{v:V}(A:v_ v=some D)(hr:df m v val):
  ∃h,eH m D h/\ ∀(R:oh),I R=I D->lU (zl v R)=R/\GY (zl v R) val h:=by
 have one:∀ {v:V},qG v=some D->pS m v val->(∀R,zl v R=(vf v R).1)->∃h,eH m D h/\ ∀(R:oh),I R=I D->lU (zl v R)=R/\GY (zl v R) val h:=by
  intro v A hr B;obtain⟨h,z,H⟩:=adr A hr;refine⟨h,z,λR hl=>?_⟩;obtain⟨_,n,f⟩:=H R [] hl;rw[ic]at n f;rw[B];generalize(vf v R).1=y at n f;cases y with
  |tup _=>exact f.elim
  |one c=>exact⟨n,f⟩
  |agg c=>exact⟨n,f⟩
 cases v with
 |tup F=>obtain⟨arr,rfl,ae,E⟩:=hr;obtain⟨h,z,H⟩:=asm (v:=arr.toList) A ⟨by simpa using ae,λj x u a b=>E j x u a (by grind)⟩;exact⟨h,z,λR hl=>⟨(H R hl).1,arr,rfl,(H R hl).2⟩⟩
 |undef=>simp[v_,qG]at A
 |one c=>exact one A hr λ_=>rfl
 |agg c=>exact one A hr λ_=>rfl
theorem aal{r:RV}{a b:List Value}(hf:Ax r val a)(h:eH m D (a++b)):pS m (ru r D).1 val/\eH m (ru r D).2 b:=by
 cases r with
 |tup _=>exact hf.elim
 |one c=>
  subst hf;cases D with
  |nil=>have:=h.1;simp at this
  |cons x L=>exact⟨h.2 0 x val rfl rfl,by have:=h.drop 1;simpa [ru]using this⟩
 |agg l=>
  obtain⟨rfl,hl⟩:=hf;refine⟨⟨_,rfl,?_⟩,?_⟩
  .have:=h.take (I l)
   grind
  have:=h.drop (I l)
  simpa [ru,hl]using this
theorem ay0:∀ {R:List RV}{D:eO}{us h:List Value},F_ R us h->eH m D h->Pw (pS m) (vN R D) us:=by
 intro R
 induction R with
 |nil=>intro D us h A _;obtain⟨rfl,rfl⟩:=A;exact⟨rfl,λj x u a=>by simp[vN]at a⟩
 |cons r R B=>
  intro D us h A F;obtain⟨u,L,a,b,rfl,rfl,E,H⟩:=A;obtain⟨y,z⟩:=aal E F;have n:=B H z;refine⟨by simp[vN,n.1],λj x v Q f=>?_⟩;cases j with
  |zero=>simp[vN]at Q f;subst Q f;exact y
  |succ j=>simp[vN]at Q f;exact n.2 j x v Q f
theorem ayk{r:RV}(hf:GY r val h)(H:eH m D h):df m (xg r D) val:=by
 cases r with
 |tup R=>obtain⟨arr,rfl,f⟩:=hf;have:=ay0 f H;exact⟨arr,rfl,by simpa using this.1,λj x u a b=>this.2 j x u a (by grind)⟩
 |one c=>have:=(aal (b:=[]) (show Ax (.one c) val h from hf) (by simpa using H)).1;exact df.of1 this
 |agg c=>have:=(aal (b:=[]) (show Ax (.agg c) val h from hf) (by simpa using H)).1;exact df.of1 this
end
section
variable{M:aJ}{site:Nat}{v:V}{D:rq}{E:mF}{j:bJ}{Y:kV}
def ll(ids:aG)(b M:aJ):Prop:=∀id∈ids,M id=b id
def ur(ts:aG)(e e':bJ):Prop:=∀t∈ts,e' t=e t
theorem ll.left{x y:aG}{b:aJ}(h:ll (x++y) b M):ll x b M:=λi H=>h i (by simp[H])
theorem ll.right{x y:aG}{b:aJ}(h:ll (x++y) b M):ll y b M:=λi H=>h i (by simp[H])
theorem ur.left{x y:aG}{b M:bJ}(h:ur (x++y) b M):ur x b M:=λi H=>h i (by simp[H])
theorem ur.right{x y:aG}{b M:bJ}(h:ur (x++y) b M):ur y b M:=λi H=>h i (by simp[H])
section
variable {e e':bJ}
theorem gZ{a:fk}(h:ur a.tmps e e'):ev e' a=ev e a:=by
 cases a with
 |t n=>exact h n (by simp[fk.tmps])
 |_=>rfl
theorem azp:∀ {as:uw},ur (Fp as) e e'->as.map (ev e')=as.map (ev e):=by
 intro as
 induction as with
 |nil=>intro _;rfl
 |cons a r f=>intro h;simp only[eZ];rw[gZ h.left,f h.right]
theorem amX:∀ {as:uw},ur (Fp as) e e'->z_ e' as=z_ e as:=by
 intro as
 induction as with
 |nil=>intro _;rfl
 |cons a r f=>intro h;simp[z_];rw[gZ h.left,f h.right]
theorem anp:∀ {as:uw},ur (Fp as) e e'->Bu e' sz as=Bu e sz as:=by
 intro as
 induction as with
 |nil=>intro _;rfl
 |cons a r f=>intro h;simp[Bu];rw[gZ h.left,f h.right]
theorem aAj:∀ {as:List (Nat×Nat×fk)},ur (acj as) e e'->A2 e' as=A2 e as:=by
 intro as
 induction as with
 |nil=>intro _;rfl
 |cons a r f=>intro h;obtain _:=a;simp[A2];rw[gZ h.left,f h.right]
theorem UG{d:Nat}{a:Option fk}(h:ur (V0 a) e e'):uJ e' d a=uJ e d a:=by
 cases a with
 |none=>rfl
 |some a=>simp[uJ];rw[gZ h]
theorem asU{a:fk}(h:ur a.tmps e e'):IB e' a=IB e a:=by unfold IB;rw[gZ h]
theorem aci{E:Nat->Bool}{blk:aJ}{p:sJ}(h:ur p.tmps e e'):cZ E e' blk p=cZ E e blk p:=by
 cases p with
 |Ra x=>simp[cZ,gZ h]
 |pick c a b=>simp[cZ,gZ h.left.left,gZ h.left.right,gZ h.right]
 |alloc s z=>rfl
 |box s x=>simp[cZ,gZ h]
 |build z ps=>simp[cZ,aAj h]
 |OJ s T sz ps=>simp[cZ,anp h]
 |load k x=>simp[cZ,gZ h]
 |store n a x=>simp[cZ,gZ h.left,gZ h.right]
 |Rm x=>simp[cZ,gZ h]
 |bin op x y=>simp[cZ,gZ h.left,gZ h.right]
 |eqc k n x y=>simp[cZ,gZ h.left,gZ h.right]
 |un op x=>simp[cZ,gZ h]
 |conv k x=>simp[cZ,gZ h]
 |bstr x=>simp[cZ,gZ h]
 |mkfn f a b=>simp[cZ,amX h.left,amX h.right]
 |mkmap s ag=>rfl
 |Q9 s T sz bytes z l c=>simp[cZ,gZ h.left,gZ h.right]
 |slice sz x lo H=>simp[cZ,gZ h.left.left,UG h.left.right,UG h.right]
 |sslice x lo H=>simp[cZ,gZ h.left.left,UG h.left.right,UG h.right]
 |Pn O x=>simp[cZ,gZ h]
 |QQ sz x i=>simp[cZ,gZ h.left,gZ h.right]
 |Oq l sz x i=>simp[cZ,gZ h.left,gZ h.right]
 |fld O k x=>simp[cZ,gZ h]
 |aidx l sz k x i=>simp[cZ,gZ h.left,gZ h.right]
 |sidx x i=>simp[cZ,gZ h.left,gZ h.right]
 |lookup kd z ag ok x k=>simp[cZ,gZ h.left,gZ h.right]
 |mupd kd ag m k v=>simp[cZ,gZ h.left.left,gZ h.left.right,gZ h.right]
 |bad=>rfl
 |extract x i=>simp[cZ,gZ h]
 |call s f as=>simp[cZ,asU h.left,azp h.right]
 |slen x=>simp[cZ,gZ h]
 |U9 x=>simp[cZ,gZ h]
 |mlen x=>simp[cZ,gZ h]
 |append s T sz b x y=>simp[cZ,gZ h.left,gZ h.right]
 |max x y=>simp[cZ,gZ h.left,gZ h.right]
 |min x y=>simp[cZ,gZ h.left,gZ h.right]
 |clear z x=>simp[cZ,gZ h]
end
section
variable {b M:aJ}
theorem zQ{α β:Type}{f g:α->Option (β×aG)}(hf:∀x y r,f x=some (y,r)->ll r b M->g x=some (y,r)):∀ {L:List α}{ys:List β}{r:aG},iB f L=some (ys,r)->ll r b M->iB g L=some (ys,r):=by
 intro L
 induction L with
 |nil=>intro ys r h _;exact h
 |cons x L j=>
  intro ys r h H;simp[iB]at h |-;split at h
  .rename_i y p B q E m;cases h;rw[hf _ _ _ E H.left,j m H.right]
  cases h
theorem Ma:∀(n:Nat) (c:bd) (x:PV) (r:aG),snap b n c=some (x,r)->ll r b M->snap M n c=some (x,r):=by
 intro n
 induction n with
 |zero=>intro c x r h;simp[snap]at h
 |succ n m=>
  intro c x r h j;cases c with
  |p v=>exact h
  |bR id g O=>
   have H:id∈r:=by
    simp only[snap]at h
    (repeat' split at h)<;>first
     |cases h
     |skip
    all_goals simp
   simp only[snap]at h |-;rw[j id H];split at h
   .split at h
    .rename_i u;rw[aD u];split at h
     .rename_i B;cases h;rw[zQ m B (λi A=>j i (by simp[A]))]
     cases h
    cases h
   .exact h
   cases h
  |dR id g i O=>
   have H:id∈r:=by
    simp only[snap,gv]at h
    grind
   simp only[snap]at h |-;rw[j id H];exact h
  |hsl id g z O len=>
   have H:id∈r:=by
    simp only[snap]at h
    (repeat' split at h)<;>first
     |cases h
     |skip
    all_goals simp
   simp only[snap]at h |-;rw[j id H];split at h
   .exact h
   .exact h
   .split at h
    .rename_i u;rw[aD u];split at h
     .rename_i B;cases h;rw[zQ (λ_ _ _ p q=>zQ m p q) B (λi A=>j i (by simp[A]))]
     cases h
    cases h
   cases h
  |nV id g=>
   have H:id∈r:=by
    simp only[snap]at h
    (repeat' split at h)<;>first
     |cases h
     |skip
    all_goals simp
   simp only[snap]at h |-;rw[j id H];exact h
  |hfn f x y=>
   simp only[snap]at h |-;split at h
   .rename_i E D;cases h;rw[zQ m E j.left,zQ m D j.right]
   cases h
theorem aA0(x y:V)(r:aG)(h:qD b x=some (y,r))(j:ll r b M):qD M x=some (y,r):=by
 cases x with
 |undef=>simp[qD]at h
 |tup _=>simp[qD]at h
 |one c=>simp only[qD,gv]at h |-;obtain⟨⟨p,q⟩,f,H⟩:=h;cases H;exact⟨_,Ma _ _ _ _ f j,rfl⟩
 |agg D=>simp only[qD,gv]at h |-;obtain⟨⟨p,q⟩,f,H⟩:=h;cases H;exact⟨_,zQ (Ma _) f j,rfl⟩
theorem awe{r:aG}(h:Da b L=some (ys,r))(H:ll r b M):Da M L=some (ys,r):=zQ aA0 h H
theorem ap5{all:aG}{id:Nat}(h:xI b all id=some u)(f:id∈all)(H:ll all b M):xI M all id=some u:=by
 unfold xI at h |-;rw[H id f];split at h
 .split at h
  .rename_i ps r j;split at h
   .rename_i hr;rw[zQ (Ma _) j (λi m=>H i (by grind))]
    grind
   cases h
  cases h
 .exact h
 .split at h
  .rename_i ps r j;split at h
   .rename_i hr;rw[zQ (λ_ _ _ p q=>zQ (Ma _) p q) j (λi m=>H i (by grind))]
    simp_all
   cases h
  cases h
 .exact h
 .cases h
 exact h
theorem asM{all:aG}(m:ll all b M):∀ {ids:aG}{u:kR},(∀i∈ids,i∈all)->tY b all ids=some u->tY M all ids=some u:=by
 intro ids
 induction ids with
 |nil=>intro u _ h;exact h
 |cons i r n=>
  intro u ae h;simp[tY]at h |-;split at h
  .rename_i x y v H;cases h;rw[ap5 v (ae i aE) m,n (λj f=>ae j (by simp[f])) H]
  cases h
theorem L4{ids:aG}(h:tJ b ids=some u)(H:ll ids b M):tJ M ids=some u:=asM H (λ_ h=>h) h
theorem anT{r:nm}(h:ll ((iC b site r).2.map (·.1)) b M):iC M site r=iC b site r:=by
 cases r with
 |p x=>rfl
 |own T sz y=>simp[iC];rw[h site (by simp[iC])]
theorem azr:∀ {R:oh}{site:Nat},ll ((lR b site R).2.map (·.1)) b M->lR M site R=lR b site R:=by
 intro R
 induction R with
 |nil=>intro site _;rfl
 |cons r R f=>intro site h;simp only[lR,fL]at h |-;rw[anT h.left,f h.right]
theorem adE{r:RV}(h:ll ((lk b site r).2.map (·.1)) b M):lk M site r=lk b site r:=by unfold lk at h |-;rw[azr h]
theorem axm{rd:aG}{r:RV}(h:fR b rd site r=some (v,u))(j:ll rd b M)(H:ll (u.map (·.1)) b M):fR M rd site r=some (v,u):=by
 unfold fR at h |-;split at h
 .rename_i f;rw[aD f];cases h;rw[adE H];rfl
 rename_i f;rw[aC f];split at h
 .rename_i F hf;cases h;rw[L4 hf j];rw[fL]at H;rw[adE H.right]
 cases h
theorem agW{D:eO}{r:aG}(h:Er b x=some (D,r))(f:ll r b M):Er M x=some (D,r):=by
 have key:=λid H=>f id H;unfold Er at h |-;split at h
 .exact h
 .grind
 .rename_i id g i O;have H:id∈r:=by
   grind
  grind
 cases h
theorem aqn{r:aG}(h:ti b x=some (n,r))(f:ll r b M):ti M x=some (n,r):=by
 unfold ti at h |-;split at h
 .exact h
 .exact h
 .rename_i id g;have H:id∈r:=by
   grind
  simp[(λid H=>f id H) id H];exact h
 cases h
theorem auI{r:aG}(h:tW b ag x=some (y,r))(f:ll r b M):tW M ag x=some (y,r):=by
 unfold tW at h |-;split at h
 .exact h
 .exact h
 .rename_i id g;have H:id∈r:=by
   grind
  simp[(λid H=>f id H) id H];exact h
 cases h
theorem NL{y:dI}{r fr:aG}(h:hU b x=some (y,r,fr))(f:ll r b M)(hf:ll fr b M):hU M x=some (y,r,fr):=by
 unfold hU at h |-;split at h
 .exact h
 .exact h
 .rename_i id g z O len;have H:id∈r:=by
   grind
  simp[(λid H=>f id H) id H];split at h
  .exact h
  .exact h
  .split at h
   .rename_i m;rw[aD m];split at h
    .rename_i j;cases h;rw[zQ (λ_ _ _ p q=>zQ (Ma _) p q) j hf]
    cases h
   cases h
  exact h
 cases h
theorem arJ{a:V}{L:eO}{r:aG}(h:CD b a n L=.done v u r)(f:ll r b M):CD M a n L=.done v u r:=by
 have key:=λid H=>f id H;unfold CD at h |-;split at h
 .cases h
 rename_i j;split at h
 .grind
 .grind
 cases h
theorem aon{T bytes:Nat}{s:V}{r:aG}(h:ai b site T sz bytes s x=.done v u r)(m:ll r b M):ai M site T sz bytes s x=.done v u r:=by
 unfold ai at h |-;split at h
 .cases h
 rename_i new rd fr dR;split at h
 .cases h
 rename_i j;split at h
 .cases h
 rename_i F A;have f:∀ {l:aG},(∀i∈l,i∈r)->ll l b M:=λhl i H=>m i (hl i H);split at h
 .split at h
  .rename_i n;cases h;rw[NL dR m.left m.right];simp only;rw[aC j,L4 A m.right];simp only;rw[aD n]
  rename_i n;split at h
  .rename_i hr;cases h;rw[NL dR (f λi H=>by simp[H]) (f λi H=>by simp[H])];simp only;rw[aC j,L4 A (f λi H=>by simp[H])];simp only;rw[aC n,aD hr,m site aE]
  cases h
 .split at h
  .cases h
  rename_i n;split at h
  .rename_i hr;cases h;rw[NL dR (f λi H=>by simp[H]) (f λi H=>by simp[H])];simp only;rw[aC j,L4 A (f λi H=>by simp[H])];simp only;rw[aC n,aD hr,m site aE]
  cases h
 .rename_i id g z len;split at h
  .rename_i g' E L y D;split at h
   .rename_i hr;cases h;rw[NL dR (f λi H=>by simp[H]) (f λi H=>by simp[H])];simp only;rw[aC j,L4 A (f λi H=>by simp[H])];simp only;have B:=m id aE;rw[D]at B;simp only[B];rw[aD hr,m site aE]
   cases h
  cases h
 cases h
end
theorem aqV{E:Nat->Bool}{e:bJ}{b:aJ}{p:sJ}{r:aG}(h:cZ E e b p=.done v u r)(H:ll r b M):cZ E e M p=.done v u r:=by
 cases p with
 |alloc s z=>simp only[cZ,AT.done.injEq]at h |-;obtain⟨O,L,A⟩:=h;rw[H s (by rw[<-A];simp)];exact⟨O,L,A⟩
 |mkmap s ag=>simp only[cZ,AT.done.injEq]at h |-;obtain⟨O,L,A⟩:=h;rw[H s (by rw[<-A];simp)];exact⟨O,L,A⟩
 |box s x=>
  simp only[cZ]at h |-;split at h
  .cases h;rw[H s aE]
  cases h
 |OJ s T sz ps=>
  simp only[cZ]at h |-;split at h
  .split at h
   .cases h;rw[H s aE]
   cases h;rw[H s aE]
  cases h
 |Q9 s T sz bytes z l c=>
  simp only[cZ]at h |-;split at h
  .split at h
   .rename_i B;cases h;rw[aD B,H s aE]
   cases h
  cases h
 |load k x=>
  simp only[cZ]at h |-;split at h
  .rename_i D q F;split at h
   .rename_i v' hv;cases h;rw[agW F H];simp only[hv]
   cases h
  cases h
 |store n a x=>
  simp only[cZ]at h |-;split at h
  .exact arJ h H
  cases h
 |bstr x=>
  simp only[cZ]at h |-;split at h
  .rename_i y q F;split at h
   .rename_i bs j;cases h;rw[NL F H (λi hi=>by simp at hi)];simp only[j]
   cases h
  cases h
 |lookup kd z ag ok x k=>
  simp only[cZ]at h |-;split at h
  .rename_i y q key hm Y;split at h
   .cases h
   rename_i X;split at h
   .rename_i f hf;split at h
    .rename_i w Z;cases h;rw[auI hm H,Y];simp only;rw[aC X];simp only[hf,Z]
    cases h
   cases h
  cases h
 |clear z x=>
  simp only[cZ]at h |-;split at h
  .cases h;rfl
  .cases h;rfl
  .rename_i id g w ab len e;split at h
   .rename_i Q;cases h;simp only[Q,if_true]
   rename_i Q;split at h
   .rename_i g' T sz y N;split at h
    .rename_i B;cases h;have j:=H id aE;rw[N]at j;rw[aC Q];simp only[j];rw[aD B]
    cases h
   cases h
  cases h
 |mupd kd ag m k v=>
  simp only[cZ]at h |-;split at h
  .rename_i id g q D O L A;split at h
   .rename_i g' wa y ps N R;split at h
    .rename_i B;split at h
     .rename_i i w hf;cases h;have j:=H id aE;rw[N]at j;simp only[j,R];rw[aD B];simp only[hf]
     .rename_i hf;cases h;have j:=H id aE;rw[N]at j;simp only[j,R];rw[aD B];simp only[hf]
     cases h
    cases h
   cases h
  cases h
 |mlen x=>
  simp only[cZ]at h |-;split at h
  .rename_i n q F;cases h;rw[aqn F H]
  cases h
 |append s T sz bytes x ac=>exact aon h H
 |call s f as=>
  simp only[cZ]at h
  (repeat' split at h)<;>cases h
 |_=>exact h
theorem atl{E:Nat->Bool}{e:bJ}{b:aJ}{p:sJ}{s:Nat}{h:dZ}{r:aG}(H:cZ E e b p=.pc f h r s)(m:ll r b M):cZ E e M p=.pc f h r s:=by
 cases p with
 |call s f as=>
  simp[cZ]at H |-;split at H
  .split at H
   .cases H
   rename_i j;rw[aC j];split at H
   .rename_i ae;cases H;rw[awe ae m]
   cases H
  cases H
 |_=>
  (simp[cZ,CD,ai,FA,reduceCtorEq]at H)<;>(repeat' split at H)<;>cases H
theorem atW{E:Nat->Bool}{e:bJ}{b:aJ}{p:sJ}{h:dZ}(H:cZ E e b p=.sc f h):cZ E e M p=.sc f h:=by
 cases p with
 |call s f as=>
  simp[cZ]at H |-
  grind
 |_=>
  (simp[cZ,CD,ai,FA,reduceCtorEq]at H)<;>(repeat' split at H)<;>cases H
theorem avO:∀(u:kR) (b M:aJ) (id:Nat),id∈u.map (·.1)->app u b id=app u M id:=by
 intro u
 induction u with
 |nil=>intro b M id h;simp at h
 |cons x u f=>
  intro b M id h;obtain⟨i,o⟩:=x;simp[app];by_cases H:id∈u.map (·.1)
  .exact f _ _ _ H
  have j:id=i:=by simpa [H]using h
  have key:∀(u:kR) (b:aJ),id∉u.map (·.1)->app u b id=b id:=by
   intro u
   induction u with
   |nil=>intro b _;rfl
   |cons x u f=>intro b h;obtain _:=x;simp only[eZ,c7,A4]at h;simp[app];rw[f _ h.2,bG,aC h.1]
  rw[key u _ H,key u _ H,bG,bG,aD j,aD j]
theorem WA:∀(u:kR) (b:aJ) (id:Nat),id∉u.map (·.1)->app u b id=b id:=by
 intro u
 induction u with
 |nil=>intro b id _;rfl
 |cons x u f=>intro b id h;obtain _:=x;simp only[eZ,c7,A4]at h;simp[app];rw[f _ _ h.2,bG,aC h.1]
theorem aAf{e e':bJ}{g:Option (Nat×Bool)}(h:∀t w,g=some (t,w)->e' t=e t):sF e' g=sF e g:=by
 cases g with
 |none=>rfl
 |some q=>obtain⟨t,w⟩:=q;simp[sF,h t w rfl]
def iV.writes(f:iV)(id:Nat):Bool:=f.wr.contains id||f.fs.contains (rh id)
def iV.xC(f:iV)(id:Nat):Bool:=f.rd.contains id||f.writes id
theorem agN{b:aJ}:∀(n:Nat) (c:bd),ll (oH b n c) b M->oH M n c=oH b n c:=by
 intro n
 induction n with
 |zero=>intro c _;rfl
 |succ n A=>
  have m:∀(D:eO),ll (D.map (oH b n)).flatten b M->(D.map (oH M n)).flatten=(D.map (oH b n)).flatten:=by
   intro D
   induction D with
   |nil=>intro _;rfl
   |cons c D u=>intro h;simp at h |-;rw[A c h.left,u h.right]
  intro c h;cases c with
  |p v=>rfl
  |bR id g O=>
   simp[oH]at h |-;rw[h id aE];split
   .rename_i D j;rw[j]at h;rw[m D (λi H=>h i (by grind))]
   rfl
  |dR id g i O=>
   simp only[oH]at h |-;rw[h id aE];split
   .rename_i D j;rw[j]at h;rw[m _ (λi H=>h i (by simp only[c7];exact .inr H))]
   rfl
  |hsl id g z O len=>
   simp only[oH]at h |-;rw[h id aE];split
   .rename_i D j;rw[j]at h;rw[m _ (λi H=>h i (by simp only[c7];exact .inr H))]
   rfl
  |nV id g=>rfl
  |hfn f x y=>
   simp[oH]at h |-
   grind
theorem anK{b:aJ}(v:V)(h:ll (qd b v) b M):qd M v=qd b v:=by
 cases v with
 |undef=>rfl
 |tup _=>rfl
 |one c=>exact agN _ _ h
 |agg D=>
  simp[qd]at h |-
  induction D with
  |nil=>rfl
  |cons c D f=>simp at h |-;rw[agN _ c h.left,f h.right]
theorem aoZ{h:dZ}{b:aJ}(H:ll (jm E f h b).ids b M):jm E f h M=jm E f h b:=by
 have:(h.map (qd M)).flatten=(h.map (qd b)).flatten:=by
  unfold jm at H
  induction h with
  |nil=>rfl
  |cons v h j=>simp at H |-;rw[anK v H.left,j H.right]
 unfold jm;rw[this]
def B8(D:rq):Prop:=∀f h al blk v F,D f h al blk=some (v,F)->(∀id,al.ok id=false->F id=blk id)/\
 ∀bK,(∀id,al.ok id->bK id=blk id)->∃O,D f h al bK=some (v,O)/\ ∀id,O id=if al.ok id then F id else bK id
theorem SC{al:cF}{l:aG}(h:al.jk l){id:Nat}(H:id∈l):al.ok id:=j4.1 h id H
theorem arv{a b:cF}(m:b.any=false)(h:a.holds b){id:Nat}(H:b.ok id):a.ok id:=by
 unfold cF.holds at h;simp only[uW,cP]at h;rcases h with h|⟨j,f⟩
 .simp[cF.ok,h]
 simp[cF.ok,m,DC,uW]at H;rcases H with H|H
 .exact SC j J
 have:=j4.1 f _ J;simp only[cF.ok,uW];exact .inr this
theorem abW(eh:B8 D){o:lI}{blk:aJ}{f:iV}(n:mh E Y D o j blk=some (X,F,f)):
  ∃v,X=eQ j o.dst v/\(∀id,f.writes id=false->F id=blk id)/\(∀id,f.xC id->E.al.ok id)/\
   ∀(m:bJ) (bK:aJ),ur o.KT j m->(∀id,f.xC id->bK id=blk id)->
    ∃O,mh E Y D o m bK=some (eQ m o.dst v,O,f)/\ ∀id,O id=if f.writes id then F id else bK id:=by
 have A:∀(m:bJ),ur o.KT j m->ur o.op.tmps j m/\sF m o.guard=sF j o.guard:=by intro m n;unfold lI.KT at n;exact⟨n.left,aAf λt w hg=>n.right t (by rw[hg];simp)⟩
 have B:∀(r w:aG) (id:Nat),(⟨r,w,[]⟩:iV).writes id=w.contains id:=by intro r w id;simp[iV.writes]
 have L:∀(r w:aG) (id:Nat),(⟨r,w,[]⟩:iV).xC id↔id∈r\/id∈w:=by intro r w id;simp[iV.xC,iV.writes]
 have M:∀(u:kR) (b b2:aJ) (r:aG) (id:Nat),app u b2 id=if(⟨r,u.map (·.1),[]⟩:iV).writes id then app u b id else b2 id:=by
  intro u b b2 r id;rw[B];by_cases H:id∈u.map (·.1)
  .rw[aD (by simpa using H)];exact avO _ _ _ _ H
  rw[aC (by simpa using H)];exact WA _ _ _ H
 unfold mh at n;split at n
 .cases n
 .rename_i N;cases n;refine⟨.undef,rfl,λ_ _=>rfl,λid H=>by simp[iV.xC,iV.writes]at H,λm bK y z=>⟨bK,?_,λid=>by simp[iV.writes]⟩⟩;unfold mh;rw[(A m y).2,N]
 rename_i N;split at n
 .cases n
 .rename_i v u r hp;split at n
  .rename_i aF;cases n;refine⟨v,rfl,λid H=>WA _ _ _ (by rw[B]at H;simpa using H),λid H=>SC aF (by have:=(L _ _ _).1 H;simpa using this),λm bK y z=>⟨app u bK,?_,λid=>M _ _ _ _ _⟩⟩;unfold mh;rw[(A m y).2,N];simp only;rw[aci (A m y).1,aqV hp λid H=>z id ((L _ _ _).2 (.inl H))];simp only;rw[aD aF]
  cases n
 .rename_i g h r s hp;split at n
  .rename_i x T;split at n
   .rename_i v u hl;split at n
    .rename_i aF;cases n;refine⟨v,rfl,λid H=>WA _ _ _ (by rw[B]at H;simpa using H),λid H=>SC aF (by have:=(L _ _ _).1 H;simp at this |-;rcases this with n|n<;>simp[n]),λm bK y z=>⟨app u bK,?_,λid=>M _ _ _ _ _⟩⟩;unfold mh;rw[(A m y).2,N];simp only;rw[aci (A m y).1,atl hp λid H=>z id ((L _ _ _).2 (.inl (by simp[H])))];simp only[T];rw[axm hl (λid H=>z id ((L _ _ _).2 (.inl (by simp[H])))) λid H=>z id ((L _ _ _).2 (.inr H))];simp only;rw[aD aF]
    cases n
   cases n
  cases n
 rename_i g h hp;split at n
 .rename_i aF;split at n
  .rename_i v b1 T;cases n;have Q:∀id,(⟨(jm E g h blk).ids,(jm E g h blk).ids,(jm E g h blk).fs⟩:iV).writes id=(jm E g h blk).ok id:=by
    intro id;simp[iV.writes,cF.ok,jm]
   have Z:∀id,(⟨(jm E g h blk).ids,(jm E g h blk).ids,(jm E g h blk).fs⟩:iV).xC id=(jm E g h blk).ok id:=by intro id;simp only[iV.xC,Q];simp only[cF.ok];cases(jm E g h blk).ids.contains id<;>simp
   obtain⟨l1,l2⟩:=eh _ _ _ _ _ _ T;refine⟨v,rfl,λid H=>l1 id (by rw[<-Q];exact H),λid H=>arv rfl aF (by rw[<-Z];exact H),λm bK y z=>?_⟩;obtain⟨O,g1,g2⟩:=l2 bK λid H=>z id (by rw[Z];exact H);have R:jm E g h bK=jm E g h blk:=aoZ λid H=>z id (by rw[Z];simp[cF.ok,H]);refine⟨O,?_,λid=>by rw[Q];exact g2 id⟩;unfold mh;rw[(A m y).2,N];simp only;rw[aci (A m y).1,atW hp];simp only[R];rw[aD aF];simp only[g1]
  cases n
 cases n
theorem aw9(j:bJ){d D:eT}(v f:V)(h:∀t,d=some t->D≠some t):eQ (eQ j d v) D f=eQ (eQ j D f) d v:=by
 cases d with
 |none=>rfl
 |some t=>
  cases D with
  |none=>rfl
  |some T=>
   funext x;simp[eQ,bG]
   grind
theorem am4{d:eT}{t:Nat}(h:d≠some t):eQ j d v t=j t:=by
 cases d with
 |none=>rfl
 |some x=>simp only[eQ,bG];rw[aC (λe=>h (by rw[e]))]
theorem RE{a b:aG}(h:xF a b=false){i:Nat}(f:i∈a):i∉b:=by
 intro H;have:xF a b:=by simp[xF,zr];exact⟨i,f,by simpa using H⟩
 grind
theorem Wb{fs ids:aG}(h:HT fs ids=false){i:Nat}(H:i∈ids):rh i∉fs:=by
 intro hf;have:HT fs ids:=by simp[HT,zr];exact⟨i,H,by simpa using hf⟩
 grind
theorem aro{a b:iV}(h:HW a b=false)(id:Nat):(a.writes id->b.xC id=false)/\(b.writes id->a.xC id=false):=by
 simp[HW,Bool.or_eq_false_iff]at h;obtain _:=h;have sw:∀ {x y:aG},xF x y=false->xF y x=false:=by
  intro x y h;cases f:xF y x with
  |false=>rfl
  |true=>simp[xF,zr]at f;obtain⟨i,n,u⟩:=f;exact absurd n (RE h J)
 have one:∀ {a b:iV},xF a.wr b.rd=false->xF a.wr b.wr=false->xF a.fs b.fs=false->HT a.fs (b.rd++b.wr)=false->HT b.fs (a.rd++a.wr)=false->a.writes id->b.xC id=false:=by
  intro a b c1 m c4 j c6 H;simp[iV.writes,uW]at H;simp only[iV.xC,iV.writes,Bool.or_eq_false_iff];rcases H with H|H
  .have H:id∈a.wr:=by simpa using H
   exact⟨by simpa using RE c1 H,by simpa using RE m H,by simpa using Wb c6 (by simp[H])⟩
  have H:rh id∈a.fs:=by simpa using H
  refine⟨?_,?_,?_⟩
  .cases f:b.rd.contains id with
   |false=>rfl
   |true=>exact absurd H (Wb j (by grind))
  .cases f:b.wr.contains id with
   |false=>rfl
   |true=>exact absurd H (Wb j (by simp_all))
  simpa using RE c4 H
 grind
theorem swap{E:mF}{Y:kV}{D:rq}(eh:B8 D){x y:lI}{j M:bJ}{blk:aJ}{L v:iV}(Z:mh E Y D x j blk=some (jH,de,L))(X:mh E Y D y jH de=some (M,bK,v))
  (hf:G6 x y) (hc:HW L v=false):∃f B,mh E Y D y j blk=some (f,B,v)/\mh E Y D x f B=some (M,bK,L):=by
 obtain⟨kU,rfl,F,_,z⟩:=abW eh Z;obtain⟨v2,rfl,O,_,A⟩:=abW eh X;have Q:∀t,x.dst=some t->t∉y.KT/\y.dst≠some t:=by
  intro t H;simp[G6,H,cP]at hf
  grind
 have An:∀t,y.dst=some t->t∉x.KT:=by
  intro t H;simp[G6,H,cP]at hf
  simpa using(hf.2)
 have N:=aro hc;have nw:∀ {a b:iV}{id:Nat},(a.writes id->b.xC id=false)->b.xC id->a.writes id=false:=by grind
 have wt:∀ {a:iV}{id:Nat},a.writes id->a.xC id:=by intro a id h;simp[iV.xC,h]
 obtain⟨B,u,R⟩:=A j blk (λt H=>(am4 λe=>(Q t e).1 H).symm) (λid m=>(F id (nw (N id).1 m)).symm);obtain⟨n,T,xb⟩:=z (eQ j y.dst v2) B (λt H=>am4 λe=>An t e H) (λid m=>by rw[R id,nw (N id).2 m];rfl)
 refine⟨_,B,u,?_⟩;rw[T,aw9 j kU v2 λt H=>(Q t H).2];have:n=bK:=by grind
 rw[this]
structure D5 where
 i:Nat
 io:lI
 e:iV
def Vx(x y:D5):Prop:=G6 x.io y.io=true/\HW x.e y.e=false
theorem agm{o:lI}{r:fV}{blk:aJ}{e:iV}{y:gG}(h:jz E Y D (o::r) j blk=some (X,F,e::y)):
  ∃jH de,mh E Y D o j blk=some (jH,de,e)/\jz E Y D r jH de=some (X,F,y):=by
 simp[jz]at h
 grind
theorem apR{o:lI}{r:fV}{blk:aJ}{e:iV}{y:gG}(h:mh E Y D o j blk=some (jH,de,e))(H:jz E Y D r jH de=some (X,F,y)):
  jz E Y D (o::r) j blk=some (X,F,e::y):=by
 simp only[jz,h,H]
theorem aqW(eh:B8 D){y:D5}{f:List D5}:∀ {L:List D5}{j X:bJ}{blk F:aJ},jz E Y D ((L++y::f).map (·.io)) j blk=some (X,F,(L++y::f).map (·.e))->(∀x∈L,Vx x y)->
  ∃jH de,mh E Y D y.io j blk=some (jH,de,y.e)/\jz E Y D ((L++f).map (·.io)) jH de=some (X,F,(L++f).map (·.e)):=by
 intro L
 induction L with
 |nil=>intro j X blk F h _;exact agm h
 |cons x L N=>intro j X blk F h m;obtain⟨A,H,R,M⟩:=agm h;obtain⟨v,u,O,T⟩:=N M λz hz=>m z (by simp[hz]);obtain⟨n,B,Z,Q⟩:=swap eh R O (m x aE).1 (m x aE).2;exact⟨n,B,Z,apR Q T⟩
def Gl(al:cF)(b b2:aJ):Prop:=∀id,al.ok id->b2 id=b id
def xE(al:cF)(M b2 IY:aJ):Prop:=∀id,IY id=if al.ok id then M id else b2 id
def Frame(al:cF)(b M:aJ):Prop:=∀id,al.ok id=false->M id=b id
theorem xE.agree{al:cF}(h:xE al M b2 IY):Gl al M IY:=λid H=>by rw[h id,H];rfl
theorem xE.trans{al:cF}{A:aJ}(h:xE al M b2 IY)(k:xE al b'' IY A):xE al b'' b2 A:=λid=>by rw[k id,h id];cases al.ok id<;>rfl
theorem xE.refl{al:cF}{b:aJ}(h:Gl al b b2):xE al b b2 b2:=λid=>by
 cases H:al.ok id with
 |true=>exact h id H
 |false=>rfl
theorem Frame.trans{al:cF}{b:aJ}(h:Frame al b M)(k:Frame al M b''):Frame al b b'':=λid H=>(k id H).trans (h id H)
section
variable {E:mF} {Y:kV} {D:rq} (eh:B8 D)
include eh
theorem axK:∀ {ops:fV}{j X:bJ}{blk F:aJ}{y:gG},jz E Y D ops j blk=some (X,F,y)->Frame E.al blk F/\
  ∀bK,Gl E.al blk bK->∃O,jz E Y D ops j bK=some (X,O,y)/\xE E.al F bK O:=by
 intro ops
 induction ops with
 |nil=>intro j X blk F y h;obtain⟨rfl,rfl,rfl⟩:=h;exact⟨λ_ _=>rfl,λbK f=>⟨bK,rfl,.refl f⟩⟩
 |cons o ops ih=>
  intro j X blk F y h;simp[jz]at h;split at h
  .rename_i jH de e Q;split at h
   .rename_i dM bK ik x;cases h;obtain⟨v,rfl,fr,T,L⟩:=abW eh Q;obtain⟨f2,A⟩:=ih x;have n:∀id,E.al.ok id=false->e.writes id=false:=by
     intro id H;cases m:e.writes id with
     |false=>rfl
     |true=>have:=T id (by simp[iV.xC,m]);rw[H]at this;cases this
    refine⟨Frame.trans (λid H=>fr id (n id H)) f2,λb2 f=>?_⟩;obtain⟨B,R,Z⟩:=L j b2 (λ_ _=>rfl) (λid H=>f id (T id H));have u:xE E.al de b2 B:=by
     intro id;rw[Z id];cases H:E.al.ok id with
     |true=>
      cases m:e.writes id with
      |true=>rfl
      |false=>simp;rw[f id H,fr id m]
     |false=>rw[n id H]
    obtain⟨z,N,M⟩:=A B u.agree;exact⟨z,by simp[jz,R,N],u.trans M⟩
   cases h
  cases h
theorem anU{c:bJ->aJ->Option (oK×bJ×aJ)}(u:∀ {j X blk F e},c j blk=some (e,X,F)->Frame E.al blk F/\ ∀bK,Gl E.al blk bK->∃O,c j bK=some (e,X,O)/\xE E.al F bK O):
  ∀(k:Nat) {j X:bJ}{blk F:aJ}{e:oK},mK c k j blk=some (e,X,F)->Frame E.al blk F/\ ∀bK,Gl E.al blk bK->∃O,mK c k j bK=some (e,X,O)/\xE E.al F bK O:=by
 intro k
 induction k with
 |zero=>intro j X blk F e h;simp[mK]at h
 |succ k L=>
  intro j X blk F e h;simp[mK]at h;split at h
  .rename_i jH de z;obtain⟨n,g1⟩:=u z;obtain⟨D,x⟩:=L h;refine⟨n.trans D,λb2 H=>?_⟩;obtain⟨B,f,m⟩:=g1 b2 H;obtain⟨v,y,M⟩:=x B m.agree;exact⟨v,by simp[mK,f,y],m.trans M⟩
  rename_i A;obtain⟨n,g1⟩:=u h;refine⟨n,λb2 H=>?_⟩;obtain⟨B,f,m⟩:=g1 b2 H;refine⟨B,?_,m⟩;cases e with
  |normal=>exact(A _ _ h).elim
  |exit i=>simp[mK,f]
  |ret=>simp[mK,f]
theorem amj:∀(c:aR) {j X:bJ}{blk F:aJ}{e:oK},dT E Y D n c j blk=some (e,X,F)->Frame E.al blk F/\
  ∀bK,Gl E.al blk bK->∃Q,dT E Y D n c j bK=some (e,X,Q)/\xE E.al F bK Q:=by
 intro c
 induction c with
 |skip=>intro j X blk F e h;simp only[dT,iW,nh]at h;obtain⟨rfl,rfl,rfl⟩:=h;exact⟨λ_ _=>rfl,λb2 H=>⟨b2,rfl,.refl H⟩⟩
 |exit id=>intro j X blk F e h;simp only[dT,iW,nh]at h;obtain⟨rfl,rfl,rfl⟩:=h;exact⟨λ_ _=>rfl,λb2 H=>⟨b2,rfl,.refl H⟩⟩
 |ret=>intro j X blk F e h;simp only[dT,iW,nh]at h;obtain⟨rfl,rfl,rfl⟩:=h;exact⟨λ_ _=>rfl,λb2 H=>⟨b2,rfl,.refl H⟩⟩
 |bad=>intro j X blk F e h;simp[dT]at h
 |region d ops=>
  intro j X blk F e h;simp only[dT]at h;split at h
  .rename_i jH de y A;obtain⟨u,g1⟩:=axK eh A;have O:(e,X,F)=(oK.normal,jH,de)/\(d->vi ops [] y):=by
    grind
   obtain⟨O,R⟩:=O;cases O;refine⟨u,λb2 H=>?_⟩;obtain⟨B,f,m⟩:=g1 b2 H;refine⟨B,?_,m⟩;simp only[dT,f];cases d with
   |false=>simp
   |true=>simp[R rfl]
  cases h
 |seq a b v z=>
  intro j X blk F e h;simp only[dT]at h;split at h
  .rename_i jH de A;obtain⟨u,g1⟩:=v A;obtain⟨f2,g2⟩:=z h;refine⟨u.trans f2,λb2 H=>?_⟩;obtain⟨B,f,m⟩:=g1 b2 H;obtain⟨b3,s2,T⟩:=g2 B m.agree;exact⟨b3,by simp only[dT,f,s2],m.trans T⟩
  rename_i M;obtain⟨u,g1⟩:=v h;refine⟨u,λb2 H=>?_⟩;obtain⟨B,f,m⟩:=g1 b2 H;refine⟨B,?_,m⟩;cases e with
  |normal=>exact(M _ _ h).elim
  |exit i=>simp only[dT,f]
  |ret=>simp only[dT,f]
 |cond x a b v z=>
  intro j X blk F e h;simp only[dT]at h |-;split at h
  .rename_i t ht;cases t with
   |true=>exact v h
   |false=>exact z h
  cases h
 |block id c L=>
  intro j X blk F e h;simp only[dT]at h;split at h
  .rename_i i jH de A;obtain⟨u,g1⟩:=L A;have Z:F=de:=by split at h<;>cases h<;>rfl
   subst Z;refine⟨u,λb2 H=>?_⟩;obtain⟨B,f,m⟩:=g1 b2 H;refine⟨B,?_,m⟩;simp only[dT,f];split at h
   .rename_i N;cases h;rw[aD N]
   rename_i N;cases h;rw[aC N]
  rename_i M;obtain⟨u,g1⟩:=L h;refine⟨u,λb2 H=>?_⟩;obtain⟨B,f,m⟩:=g1 b2 H;refine⟨B,?_,m⟩;cases e with
  |normal=>simp only[dT,f]
  |exit i=>exact(M _ _ _ h).elim
  |ret=>simp only[dT,f]
 |loop c L=>intro j X blk F e h;simp only[dT]at h |-;exact anU eh (λh=>L h) n h
end
theorem amH{al:cF}{blk:aJ}(n:Gl al blk bK):∀ {R:List (Nat×Option eT)}{h:dZ},r7 al j blk R=some h->r7 al j bK R=some h:=by
 intro R
 induction R with
 |nil=>intro h H;exact H
 |cons r R v=>
  obtain⟨t,k⟩:=r;cases k with
  |none=>
   intro h H;simp[r7]at H |-
   grind
  |some k=>
   intro h H;simp[r7]at H |-;split at H
   .rename_i D rd q u m;split at H
    .rename_i aF;rw[agW u (λid f=>n id (SC aF f)),v m]
     grind
    cases H
   cases H
theorem aAJ(eh:B8 D){fn:aZ}{T:dZ}{blk:aJ}(y:sd E Y D n fn T blk=some (v,F)):Frame E.al blk F/\
  ∀bK,Gl E.al blk bK->∃O,sd E Y D n fn T bK=some (v,O)/\xE E.al F bK O:=by
 unfold sd at y;split at y
 .rename_i j b u;simp only[gv]at y;obtain⟨h,A,H⟩:=y;cases H;obtain⟨x,g1⟩:=amj eh _ u;refine⟨x,λb2 z=>?_⟩;obtain⟨B,f,m⟩:=g1 b2 z;exact⟨B,by unfold sd;rw[f];simp[amH m.agree A,wy],m⟩
 .rename_i j b u;simp only[gv]at y;obtain⟨h,A,H⟩:=y;cases H;obtain⟨x,g1⟩:=amj eh _ u;refine⟨x,λb2 z=>?_⟩;obtain⟨B,f,m⟩:=g1 b2 z;exact⟨B,by unfold sd;rw[f];simp only[amH m.agree A,wy],m⟩
 cases y
end
def u9(w:World)(O:Nat->Prop):V->Value->Prop
 | .one (.p x),v=>dh w O x v
 | .agg D,v=>∃arr ps,v=.agg arr/\D=ps.map .p/\eL w O ps arr.toList
 |_,_=>False
def Enters(P:Program)(f:Nat):Prop:= ∃fn c,P.funcs[f]?=some fn/\fn.body=some c/\(fn.name== "runtime.NumGoroutine")=false
def RY(w:World)(Q:Nat->Prop)(r:RV)(val:Value)(B:aG):Prop:= ∃h,GY r val h/\s4 w Q (lU r) h B
def zV(w:World)(O:Nat->Prop)(r:RV):Ending->World->Prop:=λe w'=>∃val B,e=.returned val/\jv w w'/\B.Nodup/\(∀c∈B,w.heap.size<=c/\c<w'.heap.size)/\RY w' (λc=>O c\/c∈B) r val B
def Good(G:World->Prop)(w:World):Prop:=G w/\ ∀w w',jv w w'->G w->G w'
theorem ez.agl(h:ez Z m):jv Z m.w:=⟨h.os,h.tape,h.output,h.size,h.base⟩
theorem s4.pure{w:World}(ab:∀b,Q' b->Q b):∀ {R:oh}{h:List Value}{B:aG},(∀c∈B,¬Q' c)->s4 w Q R h B->s4 w Q' (R.map nm.pure) h []:=by
 intro R
 induction R with
 |nil=>intro h B _ hr;exact⟨hr.1,rfl⟩
 |cons r R D=>
  intro h B n hr;have less:∀ {x:PV}{v:Value},dh w Q x v->dh w Q' x v:=λhp=>hp.mono λc _ O=>⟨rfl,λL=>O (ab c L)⟩;cases r with
  |p x=>obtain⟨v,z,rfl,N,m⟩:=hr;exact⟨v,z,rfl,less N,D n m⟩
  |own ty sz y=>
   obtain⟨v,z,c,Fl,rfl,rfl,⟨u,f,T,e2,e3,X,F,M,Z,E⟩,m⟩:=hr;refine⟨v,z,rfl,?_,D (λc Y=>n c (by simp[Y])) m⟩;subst T;refine dh.sl c 0 u sz (λj=>f.toList.getD j undef) (λ_=>n c aE) F M X (λj x H=>?_) (λj x H=>?_)
   .have A:j<I (f.toList.take (I y*sz)):=by rw[E.1];exact(bt.1 H).1
    rw[World.cell?]
    grind
   have A:j<I (f.toList.take (I y*sz)):=by rw[E.1];exact(bt.1 H).1
   have mV:j<f.size:=by simp at A;omega
   refine less (E.2 j x _ H ?_)
   grind
theorem Ax.pure{r:RV}(H:Ax r v h):Ax r.KF v h/\mD r.KF=(mD r).map nm.pure:=by
 cases r with
 |one c=>exact⟨H,rfl⟩
 |agg D=>exact⟨⟨H.1,by simpa [RV.KF]using H.2⟩,rfl⟩
 |tup _=>exact H.elim
theorem F_.pure:∀ {R:List RV}{us h:List Value},F_ R us h->F_ (R.map RV.KF) us h/\tu (R.map RV.KF)=(tu R).map nm.pure:=by
 intro R
 induction R with
 |nil=>intro us h y;exact⟨y,rfl⟩
 |cons r R n=>
  rintro us h ⟨u,m,a,b,rfl,rfl,v,H⟩
  obtain⟨f,j⟩:=v.pure;obtain⟨Q,x⟩:=n H;exact⟨⟨u,m,a,b,rfl,rfl,f,Q⟩,by simp[tu,j,x]⟩
theorem GY.pure{r:RV}(H:GY r v h):GY r.pure v h/\lU r.pure=(lU r).map nm.pure:=by
 cases r with
 |one c=>exact Ax.pure (r:=.one c) H
 |agg D=>exact Ax.pure (r:=.agg D) H
 |tup R=>obtain⟨arr,rfl,f⟩:=H;obtain⟨Q,j⟩:=f.pure;exact⟨⟨arr,rfl,Q⟩,j⟩
theorem zV.iA{w:World}{r:RV}{e:Ending}(b:Bool)(A:∀c,O c->c<w.heap.size)(v:zV w O r e w'):zV w O (r.iA b) e w':=by
 cases b with
 |false=>exact v
 |true=>
  obtain⟨val,B,rfl,n,F,z,h,u,j⟩:=v;obtain⟨f,m⟩:=u.pure;refine⟨val,[],rfl,n,qK,λc H=>by simp at H,h,f,?_⟩;simp[RV.iA];rw[m];refine s4.pure (λb x=>?_) (λc H y=>?_) j
  .grind
  grind
def E9(P:Program)(G:World->Prop)(Y:kV):Prop:=∀f h r,Y f h=some r->Enters P f/\ ∀(w:World) (O:Nat->Prop) (T:Array Value),Good G w->(∀c,O c->c<w.heap.size)->Pw (u9 w O) h T.toList->Calls P f T w (zV w O r)
def CZ(Z:World)(m:a_)(v:V)(F:aJ):Ending->World->Prop:=λe w'=>∃val M,e=.returned val/\M.w=w'/\ez Z M/\hs m M/\M.fr=m.fr/\M.blk=F/\df M v val
def Iy(P:Program)(G:World->Prop)(D:rq):Prop:=∀f h al blk v F,D f h al blk=some (v,F)->Enters P f/\ ∀(Z:World) (m:a_) (T:Array Value),Good G Z->ez Z m->m.blk=blk->Pw (df m) h T.toList->Calls P f T m.w (CZ Z m v F)
theorem au6(aF:ez Z m){y:V}{r:aG}(j:qD m.blk x=some (y,r))(hr:df m x v)(ae:xJ m O r):u9 m.w O y v:=by
 cases x with
 |undef=>simp[qD]at j
 |tup h=>simp[qD]at j
 |one c=>simp only[qD,gv]at j;obtain⟨⟨p,R⟩,f,H⟩:=j;cases H;exact Jd aF jl f hr ae
 |agg D=>simp only[qD,gv]at j;obtain⟨⟨ps,R⟩,f,H⟩:=j;cases H;obtain⟨arr,rfl,u⟩:=df.agg.1 hr;refine⟨arr,ps,rfl,rfl,?_⟩;exact Ll (T:=dh m.w O) (λ_ _=>xJ.app) (λ_ _ _ _ f H n=>Jd aF jl f H n) f ae u
theorem ac6(aF:ez Z m){r:aG}(n:Da m.blk L=some (ys,r))(hr:Pw (df m) L h)(ae:xJ m O r):Pw (u9 m.w O) ys h:=Ll (T:=u9 m.w O) (λ_ _=>xJ.app) (λ_ _ _ _ f H j=>au6 aF f H j) n ae hr
theorem ahx(aF:ez Z m){c:Nat}(h:m.own c):c<m.w.heap.size:=by
 rcases h with h|⟨id,o,H,_,rfl⟩
 .exact aF.frlt c h
 exact(aF.obj id o H).lt
theorem afV{w:World}{x:PV}(ae:x.scalar)(h:dh w Q x v):dh w Q' x v:=by
 cases h<;>first
  |(simp[PV.scalar]at ae;done)
  |constructor
theorem aqQ{w:World}:∀ {R:oh}{h:List Value}{B:aG},R.all nm.alone->s4 w Q R h B->s4 w Q' R h B:=by
 intro R
 induction R with
 |nil=>intro h B _ F;exact F
 |cons r R D=>
  intro h B H F;simp only[wE,cP]at H;cases r with
  |p x=>obtain⟨v,A,rfl,m,f⟩:=F;exact⟨v,A,rfl,afV H.1 m,D H.2 f⟩
  |own ty sz y=>
   obtain⟨v,A,c,T,rfl,rfl,⟨n,z,X,O,Y,Z,L,N,M,E⟩,f⟩:=F;refine⟨v,A,c,T,rfl,rfl,⟨n,z,X,O,Y,Z,L,N,M,E.1,λj x u a b=>?_⟩,D H.2 f⟩;refine afV ?_ (E.2 j x u a b);obtain _:=DS.1 (a7 a);have m:=H.1;simp[nm.alone]at m
   grind
theorem ajS{m:a_}{x:RV}{B:aG}(aF:ez Z m)(n:jv m.w w')(F:B.Nodup)(u:∀c∈B,m.w.heap.size<=c/\c<w'.heap.size)(hr:RY w' (λc=>m.own c\/c∈B) x val B):
  ∃M,M.w=w'/\ez Z M/\hs m M/\M.fr=m.fr/\M.blk=app (lk m.blk site x).2 m.blk/\df M (lk m.blk site x).1 val:=by
 obtain⟨h,v,f⟩:=hr;obtain⟨M,A,N,D,_,E,L,y⟩:=ava (NH aF n u) (f.less λb z=>amk.1 z) F (λc H=>⟨.inr H,oO aF.size (u c H).1⟩) (K6 n λc H=>(u c H).1) (λc H=>.inl (u c H).1);refine⟨M,A,N,D,?_,L,ayk v y⟩;funext c;apply propext;rw[E c];constructor
 .rintro ⟨j|j,f⟩
  .exact j
  exact(f j).elim
 intro j;refine⟨.inl j,λH=>?_⟩;have v:=aF.frlt c j
 grind
theorem apE{b M:aJ}(h:∀s,(b s).1=(M s).1)(site:Nat)(x:RV):lk b site x=lk M site x:=by unfold lk;rw[agI _ site b M λs _=>h s]
theorem at5{G:World->Prop}(A:E9 P G Y)(hG:Good G Z)(aF:ez Z m){h:dZ}{rd:aG}{x:RV}{v:V}(j:Y f h=some x)(ae:Da m.blk L=some (h,rd))(Ai:Pw (df m) L T.toList)
  {pb:Bool} (hl:fR m.blk rd site (x.iA pb)=some (v,u)):Calls P f T m.w (CZ Z m v (app u m.blk)):=by
 have Q:=λw O T M n h3=>((A f h x j).2 w O T M n h3).mono λe w' H=>H.iA pb n
 generalize x.iA pb=x at hl Q;unfold fR at hl;split at hl
 .rename_i vt;cases hl;have key:∀(O:Nat->Prop),(∀c,O c->c<m.w.heap.size)->xJ m O rd->(∀w' B val,RY w' (λc=>O c\/c∈B) x val B->RY w' (λc=>m.own c\/c∈B) x val B)->Calls P f T m.w (CZ Z m (lk m.blk site x).1 (app (lk m.blk site x).2 m.blk)):=by
   intro O hO qV zx;refine(Q m.w O T ⟨hG.2 _ _ aF.agl hG.1,hG.2⟩ hO (ac6 aF ae Ai qV)).mono ?_;rintro e w' ⟨val,B,rfl,D,X,F,hr⟩
   obtain⟨R,e1,N,e3,e4,E,y⟩:=ajS aF D X F (zx w' B val hr);exact⟨val,R,rfl,e1,N,e3,e4,E,y⟩
  rcases vt with rfl|jt
  .exact key m.own (λc j=>ahx aF j) ⟨λ_ H=>H,λ_ H=>by simp at H⟩ λ_ _ _ H=>H
  refine key (λ_=>False) (λc H=>H.elim) ⟨λ_ H=>H.elim,λ_ _ H=>H⟩ λw' B val H=>?_;obtain⟨pY,M,n⟩:=H;exact⟨pY,M,aqQ jt n⟩
 split at hl
 .rename_i fu z;cases hl;have DW:=adl aF z;refine(Q m.w (m.with fu).own T ⟨hG.2 _ _ aF.agl hG.1,hG.2⟩ (λc j=>ahx DW j) (ac6 aF ae Ai (YB aF z))).mono ?_;rintro e w' ⟨val,B,rfl,D,X,F,hr⟩
  obtain⟨R,e1,N,e3,e4,E,y⟩:=ajS DW D X F hr;have YU:lk (m.with fu).blk site x=lk m.blk site x:=apE (λs=>RD z s) site x;rw[YU]at E y;refine⟨val,R,rfl,e1,N,(ZQ z).trans e3,e4,?_,y⟩;rw[E,SL];rfl
 cases hl
theorem Rs{M:a_}(f:hs m M){a:Act}{dst:eT}{v:V}{x:Value}(hr:kI m j a.tmps)(n:df M v x)(H:∀d,dst=some d->d<a.tmps.size):kI M (eQ j dst v) (a.put dst x).tmps:=by
 cases dst with
 |none=>exact hr.ev f
 |some d=>
  intro t;simp only[eQ,Act.put,bG];by_cases h:t=d
  .simp_all
  rw[aC h];have:(a.tmps.setIfInBounds d x).getD t undef=a.tmps.getD t undef:=by
   simp
   grind
  rw[this];exact(hr t).ev f.zero
theorem Sl(a:Act)(dst:eT)(x:Value):(a.put dst x).tmps.size=a.tmps.size:=by cases dst<;>simp[Act.put]
theorem Q_(a:Act)(dst:eT)(x:Value):(a.put dst x).defers=a.defers:=by cases dst<;>simp[Act.put]
theorem ahA{tmps:Array Value}(hr:kI m j tmps){o:Oper}{g:Option (Nat×Bool)}{b:Bool}
  (n:match o.guard with|none=>g=none|some (A,w)=>∃t,(ops[A]?).bind (·.dst)=some t/\g=some (t,w)) (h:sF j g=some b):Region.wanted o (yielded ops tmps)=b:=by
 unfold Region.wanted;cases x:o.guard with
 |none=>rw[x]at n;subst n;simp only[sF,iW]at h;exact h
 |some q=>
  obtain _:=q;rw[x]at n;obtain⟨t,z,rfl⟩:=n;have f:=hr t;simp[sF]at h;simp[yielded,z,Option.bind_some];split at h
  .rename_i M v;rw[v]at f;have H:=Gj f;cases h;have:tmps[t]?=some (.bool M):=by
    rw[EM]at H;cases u:tmps[t]? with
    |none=>rw[u]at H;simp[undef]at H
    |some y=>rw[u]at H;simp at H;rw[H]
   rw[this];rfl
  .rename_i v;rw[v]at f;cases h;have H:=f;rw[EM]at H;cases u:tmps[t]? with
   |none=>rfl
   |some y=>rw[u]at H;simp at H;rw[H];rfl
  cases h
theorem agU{f:fk}{g:Nat}{a b:eO}(h:IB j f=some (g,a,b))(hr:df m (ev j f) v):∃A B:Array Value,v=.func (.func g) A B/\eH m a A.toList/\eH m b B.toList:=by
 unfold IB at h;split at h
 .rename_i g' x y D;cases h;rw[D]at hr;obtain⟨hp⟩:gh m _ v:=hr;cases hp with
  |fn A B E H z Q=>exact⟨A,B,rfl,eL.GC ⟨by simpa using E,λn x u p q=>z n x u p (by grind)⟩,eL.GC ⟨by simpa using H,λn x u p q=>Q n x u p (by grind)⟩⟩
 .rename_i g' x y D;cases h;rw[D]at hr;cases hr with
  |hfn A B E H z Q=>exact⟨A,B,rfl,⟨by simpa using E,λn x u p q=>z n x u p (by simp_all)⟩,⟨by simpa using H,λn x u p q=>Q n x u p (by simp_all)⟩⟩
 cases h
theorem am1{a:Act}(hr:kI m j a.tmps):∀ {L:List Operand}{ys:uw},rj L=some ys->Pw (df m) (ys.map (ev j)) (L.map a.eval):=by
 intro L
 induction L with
 |nil=>intro ys h;simp[rj]at h;subst h;exact⟨rfl,λf x u p=>by simp at p⟩
 |cons x L n=>
  intro ys h;simp[rj]at h;split at h
  .rename_i y Y v H;cases h;obtain⟨i1,i2⟩:=n H;refine⟨by simpa using i1,λf z u p q=>?_⟩;cases f with
   |zero=>simp at p q;subst p q;exact gk v hr
   |succ f=>exact i2 f z u (by grind) (by grind)
  cases h
theorem UT{D:eO}(f:eH m D h):Pw (df m) (D.map .one) h:=by refine⟨by simpa using f.1,λj x u p q=>?_⟩;simp at p;obtain⟨c,H,rfl⟩:=p;exact df.one.2 (f.2 j c u H q)
theorem anu(h:Enters P f)(T:Array Value)(w:World):(callFunc f T).run P w=.ok (.enter f T) w:=by obtain⟨fn,c,j,H,m⟩:=h;simp[callFunc,run_program,j,H,by simpa using m]
theorem al0{o:Oper}{c:Call}{f:Operand}{a:Act}{g:Nat}{w:World}(h:o.op=.call c)(m:c.callee=.value f)(H:a.eval f=.func (.func g) A B)(j:Enters P g):
  (execOp a.eval o).run P w=.ok (.enter g (A++c.args.map a.eval++B)) w:=by
 simp[execOp,h,resolve,m,H,Deferred.ofValue,invoke,anu j]
theorem alR{o:Oper}{p:sJ}(H:GH P site o=some p)(hp:∀s f as,p≠ .call s f as){blk:aJ}:(∀f h r s,cZ E j blk p≠ .pc f h r s)/\ ∀f h,cZ E j blk p≠ .sc f h:=by
 cases p<;>first
  |exact(hp _ _ _ rfl).elim
  |(simp only[cZ]
    constructor<;>intros<;>intro H<;>(repeat' split at H)<;>first
     |cases H
     |(simp[CD,FA,ai]at H;(repeat' split at H)<;>cases H))
theorem aia{o:Oper}{s:Nat}{f:fk}{as:uw}(h:GH P site o=some (.call s f as)):∃c F,o.op=.call c/\c.callee=.value F/\dA F=some f/\rj c.args.toList=some as:=by
 unfold GH at h
 grind [gv]
def GG(Z:World)(m:a_)(a:Act)(nt:Nat)(X:bJ)(F:aJ)(ba:Act->World->Prop):Prop:=∀(A:Act) (M:a_),ez Z M->hs m M->M.fr=m.fr->M.blk=F->kI M X A.tmps->A.tmps.size=nt->A.defers=a.defers->ba A M.w
theorem acU{o:Oper}{a:Act}{w:World}{ba:Act->World->Prop}{Q:Exit->Act->World->Prop}{R:Ending->World->Prop}(h:(execOp a.eval o).run P w=.ok (.enter f T) w)(H:Calls P f T w R)
  (j:∀e w',R e w'->∃v,e=.returned v/\ba (a.put o.dst v) w'):o.wp P a w ba Q:=by
 unfold Oper.wp;rw[h,Oper.upon_enter];refine H.mono ?_
 grind
theorem alj{G:World->Prop}(hG:Good G Z)(hP:E9 P G Y)(hS:Iy P G D){E:mF}{base anc:Nat}{o:Oper}{io:lI}{ad:iV}{a:Act}{ba:Act->World->Prop}{Q:Exit->Act->World->Prop}
  (ho:FB P (λap=>(ops[ap]?).bind (·.dst)) base nt anc o=some io) (n:mh E Y D io j m.blk=some (X,F,ad)) (aF:ez Z m) (hr:kI m j a.tmps) (R:a.tmps.size=nt) (y:GG Z m a nt X F ba):
  if Region.wanted o (yielded ops a.tmps)then o.wp P a m.w ba Q else ba (a.put o.dst undef) m.w:=by
 have am:io.dst=o.dst/\io.op=IH P base o/\(∀d,o.dst=some d->d<nt)/\(match o.guard with|none=>io.guard=none|some (ap,w)=>∃t,(ops[ap]?).bind (·.dst)=some t/\io.guard=some (t,w)):=by
  unfold FB at ho;split at ho
  .rename_i H;simp only[gv]at ho;obtain⟨g,M,rfl⟩:=ho;refine⟨rfl,rfl,λd he=>?_,?_⟩
   .rw[he]at H
    simpa [alW]using H
   cases ab:o.guard with
   |none=>rw[ab]at M;simp[XI]at M;exact M.symm
   |some q=>obtain⟨ap,w⟩:=q;rw[ab]at M;simp only[XI,gv]at M;obtain⟨t,ht,rfl⟩:=M;exact⟨t,ht,rfl⟩
  cases ho
 obtain⟨h1,h2,h3,h4⟩:=am;have H:∀d,o.dst=some d->d<a.tmps.size:=by rw[R];exact h3
 unfold mh at n;split at n
 .cases n
 .rename_i hw;cases n;rw[ahA hr h4 hw];simp only[fE,if_false];rw[h1]at y;exact y _ m aF (hs.refl m) rfl rfl (Rs (hs.refl m) hr (rfl) H) (by rw[Sl,R]) (Q_ _ _ _)
 rename_i hw;rw[ahA hr h4 hw];simp only[if_true];rw[h2]at n;unfold IH at n;cases z:GH P base o with
 |none=>rw[z]at n;simp[cZ]at n
 |some p=>
  rw[z]at n;simp only[nM]at n;split at n
  .cases n
  .rename_i v u r hp;split at n
   case isFalse=>cases n
   cases n;obtain⟨x,N,ac,T,O,e4,e5,e6⟩:=arV aF hr z hp;rw[h1]at y;have hk:=λx (L:df N v x)=>y (a.put o.dst x) N T O e4 e5 (Rs O hr L H) (by rw[Sl,R]) (Q_ _ _ _);unfold Oper.wp;rcases ac with H|⟨H,rfl⟩
   .rw[H,Oper.upon_value];exact hk x e6
   rw[H,Oper.upon_skip];exact hk undef e6
  .rename_i f h r s hp;by_cases FQ:∃s f as,p=.call s f as
   .obtain⟨s',f',as,rfl⟩:=FQ;obtain⟨c,fo,g1,g2,g3,g4⟩:=aia z;simp only[cZ]at hp;split at hp
    .rename_i g A B hfn;obtain⟨AV,BV,e1,T,O⟩:=agU hfn (gk g3 hr);split at hp
     .cases hp
     split at hp
     .rename_i ws rd sR;cases hp;split at n
      .rename_i x L;split at n
       .rename_i v u hl;split at n
        case isFalse=>cases n
        cases n;have Ai:Pw (df m) (A.map .one++as.map (ev j)++B.map .one) (AV++c.args.map a.eval++BV).toList:=by
         have:=((UT T).append (am1 hr g4)).append (UT O)
         simpa using this
        refine acU (al0 g1 g2 e1 (hP _ _ _ L).1) (at5 hP hG aF L sR Ai hl) ?_;rintro e w' ⟨val,N,rfl,rfl,q1,q2,q3,q4,q5⟩
        rw[h1]at y;exact⟨val,rfl,y _ N q1 q2 q3 q4 (Rs q2 hr q5 H) (by rw[Sl,R]) (Q_ _ _ _)⟩
       cases n
      cases n
     cases hp
    cases hp
   exact((alR z (λs f as e=>FQ ⟨s,f,as,e⟩)).1 _ _ _ _ hp).elim
  rename_i f h hp;by_cases FQ:∃s f as,p=.call s f as
  .obtain⟨s',f',as,rfl⟩:=FQ;obtain⟨c,fo,g1,g2,g3,g4⟩:=aia z;simp only[cZ]at hp;split at hp
   .rename_i g A B hfn;obtain⟨AV,BV,e1,T,O⟩:=agU hfn (gk g3 hr);split at hp
    .cases hp;split at n
     case isFalse=>cases n
     split at n
     .rename_i v Fj L;cases n;have Ai:Pw (df m) (A.map .one++as.map (ev j)++B.map .one) (AV++c.args.map a.eval++BV).toList:=by
       have:=((UT T).append (am1 hr g4)).append (UT O)
       simpa using this
      refine acU (al0 g1 g2 e1 (hS _ _ _ _ _ _ L).1) ((hS _ _ _ _ _ _ L).2 Z m _ hG aF rfl Ai) ?_;rintro e w' ⟨val,N,rfl,rfl,q1,q2,q3,q4,q5⟩
      rw[h1]at y;exact⟨val,rfl,y _ N q1 q2 q3 q4 (Rs q2 hr q5 H) (by rw[Sl,R]) (Q_ _ _ _)⟩
     cases n
    split at hp<;>cases hp
   cases hp
  exact((alR z (λs f as e=>FQ ⟨s,f,as,e⟩)).2 _ _ hp).elim
theorem aaz{dst anc:Nat->eT}{base i:Nat}{o:Oper}{r:List Oper}{l:fV}(h:y8 P dst anc base nt i (o::r)=some l):
  ∃x L,l=x::L/\FB P dst ((base+i)*64) nt ((anc i).getD 0) o=some x/\y8 P dst anc base nt (i+1) r=some L:=by
 simp[y8]at h
 grind
section
variable {G:World->Prop} (hG:Good G Z) {Y:kV} {D:rq} (hP:E9 P G Y) (hS:Iy P G D) {E:mF}
include hG hP hS
theorem anq{anc:Nat->eT}{base:Nat}{Q:Exit->Act->World->Prop}:∀(r:List Oper) {l:fV}{i:Nat}{j X:bJ}{m:a_}{F:aJ}{y:gG}{a:Act},(∀n,ops[i+n]?=r[n]?)->y8 P (λn=>(ops[n]?).bind (·.dst)) anc base nt i r=some l->
  jz E Y D l j m.blk=some (X,F,y)->ez Z m->kI m j a.tmps->a.tmps.size=nt->GG Z m a nt X F (λa' w'=>Q .normal a' w')->wpOps P ops Q (List.range' i (I r)) a m.w:=by
 intro r
 induction r with
 |nil=>intro l i j X m F y a _ h f aF hr u H;simp[y8]at h;subst h;obtain⟨rfl,rfl,_⟩:=f;exact H a m aF (hs.refl m) rfl rfl hr u rfl
 |cons o r ih=>
  intro l i j X m F y a v h f aF hr u H;obtain⟨x,L,rfl,h1,N⟩:=aaz h;simp only[jz]at f;split at f
  .rename_i jH de e1 jj;split at f
   .rename_i dM bK ab T;cases f;have key:=alj (Q:=Q) hG hP hS h1 jj aF hr u (λa1 m1 k1 k2 k3 k4 k5 k6 k7=>by
     subst k4;refine ih (λn=>by have:=v (n+1);rw[show i+1+n=i+(n+1) by omega];simpa using this) N T k1 k5 k6 ?_;intro a2 M p1 O z B A R p7;exact H a2 M p1 (k2.trans O) (z.trans k3) B A R (p7.trans k7))
    simp only[fP,List.range'_succ,wpOps,by have:=v 0;simpa using this]
    grind
   cases f
  cases f
theorem atL{anc:Nat->eT}{base id:Nat}{Q:Exit->Act->World->Prop}{l:fV}{y:gG}{a:Act}(n:y8 P (λu=>(ops[u]?).bind (·.dst)) anc base nt 0 ops.toList=some l)
  (f:jz E Y D l j m.blk=some (X,F,y)) (aF:ez Z m) (hr:kI m j a.tmps) (h:a.tmps.size=nt) (H:GG Z m a nt X F (λA w'=>Q .normal A w')):(Code.region id ops false).wp P Q a m.w:=by
 refine wp_region ?_;have:=anq hG hP hS ops.toList (λu=>aE) n f aF hr h H;rw[abz]
 simpa using this
end
theorem aA9{α β:Type}(g:Array β->α->β):∀(l:List α) (A:Array β),(l.foldl (λA o=>A.push (g A o)) A).size=A.size+I l/\
  (∀j,j<A.size->(l.foldl (λA o=>A.push (g A o)) A)[j]?=A[j]?)/\
  ∀j o,l[j]?=some o->∃pre:Array β,pre.size=A.size+j/\(∀k,k<pre.size->(l.foldl (λA o=>A.push (g A o)) A)[k]?=pre[k]?)/\(l.foldl (λA o=>A.push (g A o)) A)[A.size+j]?=some (g pre o):=by
 intro l
 induction l with
 |nil=>intro A;exact⟨rfl,λ_ _=>rfl,λj o h=>by simp at h⟩
 |cons x l y=>
  intro A;obtain⟨z,f,v⟩:=y (A.push (g A x));simp only[CM];refine⟨by rw[z];simp;omega,λj D=>?_,λj o H=>?_⟩
  .rw[f j (by simp;omega),VI,aC J]
  cases j with
  |zero=>
   simp at H;subst H;refine⟨A,J,λk B=>?_,?_⟩
   .rw[f k (by simp;omega),VI,aC J]
   grind
  |succ j=>obtain⟨pre,n,u,m⟩:=v j o (by simpa using H);refine⟨pre,by rw[n];simp;omega,u,?_⟩;rw[<-m];simp only[Array.size_push];congr 1;omega
theorem apU{α:Type}(f:α->Bool)(g:α->Nat)(h:α->Nat):∀(l:List α) (s j:Nat),(l.foldl (λs e=>if f e then s|||g e|||h e else s) s).testBit j=true->s.testBit j\/ ∃e∈l,f e/\((g e).testBit j\/(h e).testBit j):=by
 intro l
 induction l with
 |nil=>intro s j H;exact .inl H
 |cons x l u=>
  intro s j H;simp at H;rcases u _ j H with v|⟨e,n,m⟩
  .grind
  exact .inr ⟨e,by simp[n],m⟩
theorem atY(y:LL ops){i:Nat}{o:Oper}(n:ops[i]?=some o){j:Nat}(H:(((Region.before ops)[i]?).getD 0).testBit j):
  ∃e∈o.after,Region.binds .any e/\e.on<i/\(j=e.on\/(((Region.before ops)[e.on]?).getD 0).testBit j):=by
 unfold Region.before at H |-;rw[<-acm]at H |-;obtain⟨E,D,v⟩:=aA9 (λ(A:Array Nat) (o:Oper)=>o.after.foldl (λs e=>if Region.binds .any e then s|||2 ^ e.on|||A.getD e.on 0 else s) 0) ops.toList #[];obtain⟨pre,m,u,f⟩:=v i o (by simpa using n);simp only[Array.size_empty,jN]at m f;rw[f]at H;simp only[nM]at H;rw[<-acm]at H;rcases apU (λe=>Region.binds .any e) (λe=>2 ^ e.on) (λe=>pre.getD e.on 0) _ _ _ H with h|⟨e,B,x,M⟩
 .simp at h
 have Q:e.on<i:=by
  unfold LL at y
  grind
 refine⟨e,by simpa using B,x,Q,?_⟩;rcases M with M|M
 .left;rw[Nat.testBit_two_pow]at M;have z:e.on=j:=by simpa using M
  exact z.symm
 right;rw[u e.on J]
 simpa [EM]using M
theorem amM{dst:Nat->eT}{base anc:Nat}{o:Oper}{io:lI}(h:FB P dst base nt anc o=some io):io.anc=anc:=by
 unfold FB at h
 grind [gv]
structure ar5 (P:Program) (ops:Array Oper) (base nt:Nat) (rem:List D5) (listed:Array Bool):Prop where
 pair:rem.Pairwise λp q=>p.i<q.i/\(q.io.anc.testBit p.i\/Vx p q)
 comp:∀p∈rem,∃o,ops[p.i]?=some o/\FB P (λj=>(ops[j]?).bind (·.dst)) ((base+p.i)*64) nt (((Region.before ops)[p.i]?).getD 0) o=some p.io
 size:listed.size=ops.size
 free:∀i:Nat,listed[i]?=some false↔ ∃p∈rem,p.i=i
 closed:∀i:Nat,listed[i]?=some true->∀j:Nat,(((Region.before ops)[i]?).getD 0).testBit j->listed[j]?=some true
theorem YG{L:Array Bool}{i:Nat}:i∈Region.ready .any ops L↔i<ops.size/\L.getD i true=false/\ ∃o,ops[i]?=some o/\ ∀e∈o.after,Region.binds .any e->L.getD e.on false:=by
 unfold Region.ready;simp only[r4,gA,cP,ke];constructor
 .rintro ⟨h,j,H⟩
  refine⟨h,j,ops[i],by simp[h],λe m n=>?_⟩;have f:ops[i]?=some ops[i]:=by simp[h]
  rw[f]at H;simp only[wy,nM,Array.all_eq_true']at H
  grind
 grind
theorem ago{l:Array Bool}{i:Nat}(h:l.getD i true=false):l[i]?=some false:=by
 rw[EM]at h
 grind
theorem arq{l:Array Bool}{i:Nat}(h:l.getD i false):l[i]?=some true:=by
 rw[EM]at h
 grind
section
variable {G:World->Prop} (hG:Good G Z) {Y:kV} {D:rq} (hP:E9 P G Y) (hS:Iy P G D) (hL:B8 D) {E:mF}
include hG hP hS hL
theorem aAi(Jx:LL ops){base:Nat}{Q:Exit->Act->World->Prop}:∀(f:Nat) {R:List D5}{L:Array Bool}{j:bJ}{m:a_}{a:Act},ar5 P ops base nt R L->I R<=f->
  jz E Y D (R.map (·.io)) j m.blk=some (X,F,R.map (·.e))->ez Z m->kI m j a.tmps->a.tmps.size=nt->GG Z m a nt X F (λa' w'=>Q .normal a' w')->wpAny P .any ops Q f L a m.w:=by
 intro f
 induction f with
 |zero=>
  intro R L j m a hl H B aF hr jg hK;have ZD:R=[]:=by
   cases R with
   |nil=>rfl
   |cons _ _=>simp at H
  subst ZD;simp only[m_,jz,iW,nh]at B;obtain⟨rfl,rfl,_⟩:=B;refine⟨?_,hK a m aF (hs.refl m) rfl rfl hr jg rfl⟩;refine List.eq_nil_iff_forall_not_mem.2 λi hi=>?_;obtain⟨_,h2,_⟩:=YG.1 hi;obtain⟨p,hp,_⟩:=(hl.free i).1 (ago h2);simp at hp
 |succ f ih=>
  intro R L j m a hl H B aF hr jg hK;refine⟨λab=>?_,λi hi=>?_⟩
  .cases R with
   |nil=>simp only[m_,jz,iW,nh]at B;obtain⟨rfl,rfl,_⟩:=B;exact hK a m aF (hs.refl m) rfl rfl hr jg rfl
   |cons p ad=>
    exfalso;obtain⟨o,v,_⟩:=hl.comp p aE;have O:=(Array.getElem?_eq_some_iff.1 v).1;have mX:p.i∈Region.ready .any ops L:=by
     refine YG.2 ⟨O,?_,o,v,λe he hb=>?_⟩
     .rw[EM,(hl.free p.i).2 ⟨p,aE,rfl⟩];rfl
     have Qz:e.on<p.i:=by unfold LL at Jx;have:=j4.1 Jx p.i (by simpa using O);rw[v]at this;rw[j4]at this;have:=this e (by simpa using he);simp only[hb,Ac,DC,iJ]at this;exact this
     have ae:e.on<L.size:=by rw[hl.size];omega
     rw[EM];cases cV:L[e.on]with
     |true=>simp[ae,cV]
     |false=>
      exfalso;obtain⟨q,n,u⟩:=(hl.free e.on).1 (by simp[ae,cV]);rcases c7.1 n with rfl|n
      .omega
      have:=((iN.1 hl.pair).1 q n).1;omega
    rw[ab]at mX;simp at mX
  obtain⟨h1,h2,o,v,h3⟩:=YG.1 hi;obtain⟨p,hp,rfl⟩:=(hl.free i).1 (ago h2);obtain⟨l1,l2,rfl⟩:=List.append_of_mem hp;obtain⟨o',qx,Ct⟩:=hl.comp p hp;rw[v]at qx;cases qx;have T:∀A:Nat,p.io.anc.testBit A->L[A]?=some true:=by
   intro A z;rw[amM Ct]at z;obtain⟨e,he,hb,_,DY⟩:=atY Jx v z;have Qz:=arq (h3 e he hb);rcases DY with rfl|DY
   .exact Qz
   exact hl.closed _ Qz A DY
  have M:=He.1 hl.pair;have ac:∀x∈l1,Vx x p:=by
   intro x hx;rcases(M.2.2 x hx p aE).2 with h|h
   .have:=T _ h;rw[(hl.free x.i).2 ⟨x,by simp[hx],rfl⟩]at this;cases this
   exact h
  obtain⟨jH,de,jj,iK⟩:=aqW hL B ac;have key:=alj (Q:=Q) (ba:=wpAny P .any ops Q f (L.setIfInBounds p.i true)) hG hP hS Ct jj aF hr jg (λa1 m1 k1 k2 k3 k4 k5 k6 k7=>by
   subst k4;have O:p.i<L.size:=by rw[hl.size];exact h1
   refine ih ⟨?_,λq n=>hl.comp q (by rcases gn.1 n with h|h<;>simp[h]),by simp[hl.size],λk=>?_,λk N A z=>?_⟩ (by simp at H |-;omega) iK k1 k5 k6 ?_
   .refine He.2 ⟨M.1,(iN.1 M.2.1).2,λx hx y hy=>M.2.2 x hx y (by simp[hy])⟩
   .rw[NP];by_cases N:p.i=k
    .subst N;rw[aD rfl,aD O];constructor
     .intro h;cases h
     rintro⟨q,n,u⟩
     rcases gn.1 n with h|h
     .have:=(M.2.2 q h p aE).1;omega
     have:=((iN.1 M.2.1).1 q h).1;omega
    rw[aC N,hl.free k];constructor
    .rintro ⟨q,n,u⟩
     rcases gn.1 n with h|h
     .exact⟨q,by simp[h],u⟩
     rcases c7.1 h with rfl|h
     .exact(N u).elim
     exact⟨q,by simp[h],u⟩
    rintro⟨q,n,u⟩
    rcases gn.1 n with h|h
    .exact⟨q,by simp[h],u⟩
    exact⟨q,by simp[h],u⟩
   .have zx:∀A:Nat,L[A]?=some true->(L.setIfInBounds p.i true)[A]?=some true:=by
     intro A z;rw[NP];split
     .first
       |rfl
       |(rename_i e;rw[aD O])
     exact z
    by_cases kL:p.i=k
    .subst kL;refine zx A (T A ?_);rw[amM Ct];exact z
    rw[NP,aC kL]at N;exact zx A (hl.closed k N A z)
   intro a2 m2 p1 p2 p3 p4 p5 p6 p7;exact hK a2 m2 p1 (k2.trans p2) (p3.trans k3) p4 p5 p6 (p7.trans k7))
  unfold wpOp;rw[v];simp only;split at key
  .rename_i hw;rw[aD hw];exact .inl key
  rename_i hw;rw[aC hw];exact key
end
def vq:Nat->fV->gG->List D5
 |i,x::L,e::y=>⟨i,x,e⟩::vq (i+1) L y
 |_,_,_=>[]
theorem aA2:∀ {L:fV}{y:gG} (i:Nat),I y=I L->(vq i L y).map (·.io)=L/\(vq i L y).map (·.e)=y:=by
 intro L
 induction L with
 |nil=>intro y i h;cases y with
  |nil=>exact⟨rfl,rfl⟩
  |cons _ _=>simp at h
 |cons x L f=>intro y i h;cases y with
  |nil=>simp at h
  |cons e y=>obtain⟨j,H⟩:=f (i+1) (by simpa using h);exact⟨by simp[vq,j],by simp[vq,H]⟩
theorem aAs{o:lI}:∀ {f:fV}{j:Nat},RM o j f->∀k x,f[k]?=some x->o.anc.testBit (j+k)\/G6 x o:=by
 intro f
 induction f with
 |nil=>intro j _ k x h;simp at h
 |cons y f m=>
  intro j h k x H;simp[RM,cP,uW]at h;cases k with
  |zero=>simp at H;subst H;exact h.1
  |succ k=>grind
theorem arE{anc:Nat}{e:iV}:∀ {f:gG}{j:Nat},Vp anc e j f->∀k x,f[k]?=some x->anc.testBit (j+k)\/HW x e=false:=by
 intro f
 induction f with
 |nil=>intro j _ k x h;simp at h
 |cons y f m=>
  intro j h k x H;simp[Vp,cP,uW,ke]at h;cases k with
  |zero=>simp at H;subst H;exact h.1
  |succ k=>grind
theorem auz:∀ {L:fV}{y:gG}{j:fV}{u:gG},I y=I L->I u=I j->Qa L j->vi L u y->
  (∀(q:D5),q∈vq (I j) L y->∀(k:Nat) (x:lI) (e:iV),j[k]?=some x->u[k]?=some e->q.io.anc.testBit k\/(G6 x q.io/\HW e q.e=false))/\
  (∀q∈vq (I j) L y,I j<=q.i)/\(vq (I j) L y).Pairwise λp q=>p.i<q.i/\(q.io.anc.testBit p.i\/Vx p q):=by
 intro L
 induction L with
 |nil=>
  intro y j u _ _ _ _;have:vq (I j) [] y=[]:=by cases y<;>rfl
  rw[this];exact⟨λq h=>by simp at h,λq h=>by simp at h,.nil⟩
 |cons x L E=>
  intro y j u hl hp hf A;cases y with
  |nil=>simp at hl
  |cons e y=>
   simp only[Qa,cP]at hf;simp only[vi,cP]at A;obtain⟨i1,i2,i3⟩:=E (by simpa using hl) (by simp[hp]) hf.2 A.2;have z:I (j++[x])=I j+1:=aE;rw[z]at i1 i2 i3;simp only[vq];refine⟨?_,?_,iN.2 ⟨?_,i3⟩⟩
   .intro q H k Y f B v;rcases c7.1 H with rfl|H
    .have n:=aAs hf.1 k Y B;have m:=arE A.1 k f v;rw[jN]at n m;rcases n with n|n
     .exact .inl n
     rcases m with m|m
     .exact .inl m
     exact .inr ⟨n,m⟩
    have D:=(bt.1 B).1;exact i1 q H k Y f (by rw[s8 D];exact B) (by rw[s8 J];exact v)
   .intro q H;rcases c7.1 H with rfl|H
    .exact cJ _
    have:=i2 q H;omega
   intro q H;refine⟨by have:=i2 q H;simp only;omega,?_⟩;exact i1 q H (I j) x e aE (by rw[<-hp];simp)
theorem an9{anc:Nat->eT}{dst:Nat->eT}{base:Nat}:∀ {r:List Oper}{L:fV}{y:gG}{i:Nat},y8 P dst anc base nt i r=some L->I y=I L->(∀j,ops[i+j]?=r[j]?)->
  (∀p∈vq i L y,∃o,ops[p.i]?=some o/\FB P dst ((base+p.i)*64) nt ((anc p.i).getD 0) o=some p.io)/\ ∀k,i<=k->k<i+I r->∃p∈vq i L y,p.i=k:=by
 intro r
 induction r with
 |nil=>
  intro L y i h _ _;simp[y8,iW]at h;have:vq i [] y=[]:=by cases y<;>rfl
  grind
 |cons o r u=>
  intro L y i h hl Q;obtain⟨x,X,rfl,n,H⟩:=aaz h;cases y with
  |nil=>simp at hl
  |cons e y=>
   obtain⟨i1,i2⟩:=u H (by simpa using hl) (λj=>by have:=Q (j+1);rw[show i+1+j=i+(j+1) by omega];simpa using this);refine⟨λp hp=>?_,λk D v=>?_⟩
   .rcases c7.1 hp with rfl|hp
    .exact⟨o,by have:=Q 0;simpa using this,n⟩
    exact i1 p hp
   by_cases m:k=i
   .exact⟨⟨i,x,e⟩,by simp[vq],m.symm⟩
   obtain⟨p,hp,f⟩:=i2 k J (by grind);exact⟨p,by simp[vq,hp],f⟩
theorem aoX{E:mF}:∀ {L:fV}{j X:bJ}{blk F:aJ}{y:gG},jz E Y D L j blk=some (X,F,y)->I y=I L:=by
 intro L
 induction L with
 |nil=>intro j X blk F y h;simp only[jz,iW,nh]at h;rw[<-h.2.2];rfl
 |cons x L f=>
  intro j X blk F y h;simp[jz]at h
  grind
theorem an6{dst anc:Nat->eT}{base:Nat}:∀ {r:List Oper}{L:fV}{i:Nat},y8 P dst anc base nt i r=some L->I L=I r:=by
 intro r
 induction r with
 |nil=>intro L i h;simp[y8,iW]at h;subst h;rfl
 |cons o r f=>intro L i h;obtain⟨x,X,rfl,_,H⟩:=aaz h;simp[f H]
section
variable {G:World->Prop} (hG:Good G Z) {Y:kV} {D:rq} (hP:E9 P G Y) (hS:Iy P G D) (hL:B8 D) {E:mF}
include hG hP hS hL
theorem awy(Cv:P.follows .mixedOrders){base id:Nat}{Q:Exit->Act->World->Prop}{l:fV}{y:gG}{a:Act}(u:y8 P (λab=>(ops[ab]?).bind (·.dst)) (λi=>(Region.before ops)[i]?) base nt 0 ops.toList=some l)
  (O:LL ops) (hf:Qa l []) (n:jz E Y D l j m.blk=some (X,F,y)) (v:vi l [] y) (aF:ez Z m) (hr:kI m j a.tmps) (jg:a.tmps.size=nt) (hK:GG Z m a nt X F (λa' w'=>Q .normal a' w')):(Code.region id ops true).wp P Q a m.w:=by
 refine wp_region_any Cv ?_;have H:=aoX n;have mz:I l=ops.size:=by have:=an6 u;simpa using this
 obtain⟨g1,T⟩:=aA2 0 H;obtain⟨_,_,hp⟩:=auz H rfl hf v;obtain⟨c1,c2⟩:=an9 (ops:=ops) u H (λab=>aE);have f:hs m (m.later m.w.drew λ_=>False):=K6 (jv.drew _) λ_ h=>h.elim;have N:(m.later m.w.drew λ_=>False).fr=m.fr:=by funext c;simp[a_.later]
 refine aAi hG hP hS hL O ops.size (R:=vq 0 l y) ⟨hp,c1,aE,λi=>?_,λi hi=>?_⟩ ?_ (by rw[g1,T];exact n) (NH aF (jv.drew _) λ_ h=>h.elim) (hr.ev f) jg ?_
 .grind
 .grind
 .grind
 intro a2 M p1 B x A z L R;exact hK a2 M p1 (f.trans B) (x.trans N) A z L R
end
def XX:oK->Exit
 | .normal=>.normal
 | .exit i=>.exit i
 | .ret=>.ret
section
variable {G:World->Prop} (hG:Good G Z) {Y:kV} {D:rq} (hP:E9 P G Y) (hS:Iy P G D) (hL:B8 D) (Cv:P.follows .mixedOrders) {E:mF}
include hG hP hS hL Cv
theorem arz:∀(c:Code) {z:aR}{j X:bJ}{m:a_}{F:aJ}{e:oK}{a:Act}{Q:Exit->Act->World->Prop},qF P f nt c=some z->dT E Y D n z j m.blk=some (e,X,F)->ez Z m->kI m j a.tmps->a.tmps.size=nt->
  GG Z m a nt X F (λa' w'=>Q (XX e) a' w')->c.wp P Q a m.w:=by
 intro c
 induction c with
 |skip=>intro z j X m F e a Q H h aF hr v u;simp only[qF,iW]at H;subst H;simp only[dT,iW,nh]at h;obtain⟨rfl,rfl,rfl⟩:=h;exact wp_skip (u a m aF (hs.refl m) rfl rfl hr v rfl)
 |label l=>intro z j X m F e a Q H h aF hr v u;simp only[qF,iW]at H;subst H;simp only[dT,iW,nh]at h;obtain⟨rfl,rfl,rfl⟩:=h;exact wp_label (u a m aF (hs.refl m) rfl rfl hr v rfl)
 |ret=>intro z j X m F e a Q H h aF hr v u;simp only[qF,iW]at H;subst H;simp only[dT,iW,nh]at h;obtain⟨rfl,rfl,rfl⟩:=h;exact wp_ret (u a m aF (hs.refl m) rfl rfl hr v rfl)
 |exit id=>intro z j X m F e a Q H h aF hr v u;simp only[qF,iW]at H;subst H;simp only[dT,iW,nh]at h;obtain⟨rfl,rfl,rfl⟩:=h;exact wp_exit (u a m aF (hs.refl m) rfl rfl hr v rfl)
 |region id ops ac=>
  intro z j X m F e a Q H h aF hr v u;simp only[qF]at H;split at H
  .rename_i L Kh;cases ac with
   |false=>
    simp only[fE,if_false,iW]at H;subst H;simp only[dT]at h;split at h
    .rename_i e1 b1 y dG;simp only[fE,if_false,iW,nh]at h;obtain⟨rfl,rfl,rfl⟩:=h;exact atL hG hP hS Kh dG aF hr v u
    cases h
   |true=>
    simp only[if_true]at H Kh;split at H
    .rename_i BE;simp only[cP]at BE;cases H;simp only[dT]at h;split at h
     .rename_i e1 b1 y dG;simp only[if_true]at h;split at h
      .rename_i hd;cases h;exact awy hG hP hS hL Cv Kh BE.1 BE.2 dG hd aF hr v u
      cases h
     cases h
    cases H
  cases H
 |seq x av ab am=>
  intro z j X m F e a Q H h aF hr v u;simp only[qF]at H;split at H
  .rename_i ix iy B h2;cases H;simp only[dT]at h;refine wp_seq ?_;split at h
   .rename_i jH de O;refine ab B O aF hr v ?_;intro A M k1 k2 k3 k4 k5 k6 k7;subst k4;refine am h2 h k1 k5 k6 ?_;intro a2 m2 p1 p2 p3 p4 p5 p6 p7;exact u a2 m2 p1 (k2.trans p2) (p3.trans k3) p4 p5 p6 (p7.trans k7)
   rename_i T;refine ab B h aF hr v ?_;intro A M k1 k2 k3 k4 k5 k6 k7;have:=u A M k1 k2 k3 k4 k5 k6 k7;cases e with
   |normal=>exact(T X F h).elim
   |exit i=>exact this
   |ret=>exact this
  cases H
 |cond x p q ar ap=>
  intro z j X m F e a Q H h aF hr v u;simp only[qF]at H;split at H
  .rename_i c' ip iq B h2 h3;cases H;simp only[dT]at h;split at h
   .rename_i t ht;have hv:=gk B hr;rw[ht]at hv;refine wp_cond (Gj hv) ?_
    grind
   cases h
  cases H
 |block id c N=>
  intro z j X m F e a Q H h aF hr v u;simp only[qF,gv]at H;obtain⟨R,B,rfl⟩:=H;simp only[dT]at h;refine wp_block ?_;split at h
  .rename_i i jH de O;refine N B O aF hr v ?_;intro A M k1 k2 k3 k4 k5 k6 k7;simp only[XX,Exit.inBlock];split at h
   .rename_i hi;cases h;rw[aD hi];exact u A M k1 k2 k3 k4 k5 k6 k7
   rename_i hi;cases h;rw[aC hi];exact u A M k1 k2 k3 k4 k5 k6 k7
  rename_i T;refine N B h aF hr v ?_;intro A M k1 k2 k3 k4 k5 k6 k7;have:=u A M k1 k2 k3 k4 k5 k6 k7;cases e with
  |normal=>exact this
  |exit i=>exact(T i X F h).elim
  |ret=>exact this
 |loop c N=>
  intro z j X m F e a Q H h aF hr v u;simp only[qF,gv]at H;obtain⟨R,B,rfl⟩:=H;simp only[dT]at h;refine wp_loop_rounds n ?_;have key:∀(k:Nat) {j:bJ}{m:a_}{a:Act},mK (dT E Y D n R) k j m.blk=some (e,X,F)->ez Z m->kI m j a.tmps->a.tmps.size=nt->GG Z m a nt X F (λa' w'=>Q (XX e) a' w')->Code.rounds P c Q k a m.w:=by
   intro k
   induction k with
   |zero=>intro j m a h;simp[mK]at h
   |succ k ad=>
    intro j m a h aF hr v u;rw[rounds_succ];simp only[mK]at h;split at h
    .rename_i jH de O;refine N B O aF hr v ?_;intro A M k1 k2 k3 k4 k5 k6 k7;subst k4;refine ad h k1 k5 k6 ?_;intro a2 m2 p1 p2 p3 p4 p5 p6 p7;exact u a2 m2 p1 (k2.trans p2) (p3.trans k3) p4 p5 p6 (p7.trans k7)
    rename_i T;refine N B h aF hr v ?_;intro A M k1 k2 k3 k4 k5 k6 k7;have:=u A M k1 k2 k3 k4 k5 k6 k7;cases e with
    |normal=>exact(T X F h).elim
    |exit i=>exact this
    |ret=>exact this
  exact key n h aF hr v u
 |scope c N=>intro z j X m F e a Q H h aF hr v u;simp only[qF]at H;refine wp_scope_straight ?_;refine N H h aF hr v ?_;intro A M k1 k2 k3 k4 k5 k6 k7;have:=u A M k1 k2 k3 k4 k5 k6 k7;cases e<;>exact this
 |_=>intro z j X m F e a Q H h;simp only[qF,iW]at H;subst H;simp[dT]at h
end
section
variable{m:a_}
theorem asJ{k:eT}{D:eO}{v:V}{u:Value}(h:tc k D=some v)(hr:df m v u):pS m v u:=by
 unfold tc at h;split at h
 .split at h
  .cases h;exact hr
  cases h
 split at h
 .cases h;exact hr
 cases h
theorem avf{v:V}{u:Value}(h:Uy x=some v)(hr:df m x u):pS m v u:=by cases x<;>simp[Uy,iW,reduceCtorEq]at h<;>subst h<;>exact hr
theorem alG{α β:Type}{f:α->Sem β}{x:α}{L:List α}{y:β}{ys:List β}{w:World}(H:(f x).run P w=.ok y w)(h:(L.mapM f).run P w=.ok ys w):((x::L).mapM f).run P w=.ok (y::ys) w:=by simp_all
theorem aoi{al:cF}(aF:ez Z m){tmps:Array Value}(hr:kI m j tmps):∀ {R:List ResultVar}{l:List (Nat×Option eT)}{h:dZ},Ce P R=some l->r7 al j m.blk l=some h->
  ∃ys,(R.mapM (λ| .tmp t=>pure (tmps.getD t undef)| .cell a t=>do loadVar t (<-asAddr (tmps.getD a undef)):ResultVar->Sem Value)).run P m.w=.ok ys m.w/\Pw (pS m) h ys:=by
 intro R
 induction R with
 |nil=>intro l h f H;simp only[Ce,iW]at f;subst f;simp only[r7,iW]at H;subst H;exact⟨[],by simp[Sem.run_pure],rfl,λM x u p=>by simp at p⟩
 |cons r R F=>
  intro l h f H;have cons:∀ {x:V}{L:dZ}{y:Value}{ys:List Value},pS m x y->Pw (pS m) L ys->Pw (pS m) (x::L) (y::ys):=by
   intro x L y ys p q;refine⟨by simp[q.1],λM z u a b=>?_⟩;cases M with
   |zero=>simp at a b;subst a b;exact p
   |succ M=>exact q.2 M z u (by simpa using a) (by simpa using b)
  cases r with
  |tmp t=>
   simp only[Ce,gv]at f;obtain⟨l',T,rfl⟩:=f;simp only[r7]at H;split at H
   .rename_i v q A E;cases H;obtain⟨ys,g1,n⟩:=F T E;exact⟨_::ys,alG (by simp[Sem.run_pure]) g1,cons (avf A (hr t)) n⟩
   cases H
  |cell a t=>
   simp only[Ce]at f;split at f
   .rename_i k q A E;cases f;simp only[r7]at H;split at H
    .rename_i D rd ws X Y;split at H
     case isFalse=>cases H
     simp only[gv]at H;obtain⟨v,B,rfl⟩:=H;obtain⟨ys,g1,n⟩:=F E Y;obtain⟨ad,y,Q,O,N⟩:=ad3 A (afa aF X (hr a)) B;exact⟨y::ys,alG (by simp[Q,asAddr,O]) g1,cons (asJ B N) n⟩
    cases H
   cases f
theorem auh{al:cF}(aF:ez Z m){tmps:Array Value}(hr:kI m j tmps){fn:Func}{l:List (Nat×Option eT)}{h:dZ}(z:Ce P fn.results.toList=some l)(H:r7 al j m.blk l=some h):
  ∃y,(results fn tmps).run P m.w=.ok y m.w/\df m (Bn h) y:=by
 obtain⟨ys,g1,f⟩:=aoi aF hr z H;have nV:(results fn tmps).run P m.w=.ok (if B:ys.toArray.size=1 then ys.toArray[0]else .tuple ys.toArray) m.w:=by
  unfold results;simp only[Array.mapM_eq_mapM_toList,map_eq_pure_bind,Sem.run_bind,Result.andThen_ok,Sem.run_pure,bind_assoc,pure_bind]
  erw[g1]
  simp_all
 refine⟨_,nV,?_⟩
 match h,ys,f with
 |[v],[y],f=>exact df.of1 (f.2 0 v y rfl rfl)
 |[],[],f=>exact⟨_,rfl,rfl,λA x u p=>by simp at p⟩
 |v::n::h,y::y'::ys,f=>refine⟨_,rfl,by simpa using f.1,λA x u p q=>f.2 A x u p (by grind)⟩
 |[],y::ys,f=>exact absurd f.1 aE
 |v::h,[],f=>exact absurd f.1 aE
 |[v],y::y'::ys,f=>exact absurd f.1 aE
 |v::n::h,[y],f=>exact absurd f.1 aE
theorem ag1{fn:aZ}(h:Fq P f=some fn):∃j c,P.funcs[f]?=some j/\j.body=some c/\(j.name== "runtime.NumGoroutine")=false/\qF P f j.ntmps c=some fn.body/\Ce P j.results.toList=some fn.results/\fn.ntmps=j.ntmps:=by
 unfold Fq at h
 grind
def acr(S:Sys)(G:World->Prop):Prop:=∀f h r,S.prim f h=some (some r)->Enters S.P f/\ ∀(w:World) (O:Nat->Prop) (T:Array Value),Good G w->(∀c,O c->c<w.heap.size)->Pw (u9 w O) h T.toList->Calls S.P f T w (zV w O r)
def aiA(S:Sys)(G:World->Prop):Prop:=∀f h al blk v F,S.trig f h->(S.primS f h al blk).map (λr=>(r.1,app r.2 blk))=some (v,F)->
 (Enters S.P f/\ ∀(Z:World) (m:a_) (T:Array Value),Good G Z->ez Z m->m.blk=blk->Pw (df m) h T.toList->Calls S.P f T m.w (CZ Z m v F))/\
 (∀id,al.ok id=false->F id=blk id)/\
 ∀bK,(∀id,al.ok id->bK id=blk id)->∃O,(S.primS f h al bK).map (λr=>(r.1,app r.2 bK))=some (v,O)/\ ∀id,O id=if al.ok id then F id else bK id
structure Lj (S:Sys) (G:World->Prop):Prop where
 follow:S.P.follows .mixedOrders
 fns:∀f fn,S.fns f=some fn->Fq S.P f=some fn
 prim:acr S G
 primS:aiA S G
theorem azt{h:dZ}(n:Pw (df m) h T.toList)(hl:I h<=nt):kI m (tl h) (T++Array.replicate (nt-T.size) undef)/\(T++Array.replicate (nt-T.size) undef).size=nt:=by
 have ae:T.size=I h:=by simpa using n.1
 constructor
 .intro t;by_cases H:t<I h
  .have f:tl h t=h[t]:=by simp[tl,List.getD,H]
   have j:(T++Array.replicate (nt-T.size) undef).getD t undef=T[t]:=by simp[EM,Array.getElem?_append,ae,H]
   rw[f,j];exact n.2 t _ _ (by simp[H]) aE
  have f:tl h t=.undef:=by simp[tl,List.getD,lS (Nat.le_of_not_lt H)]
  have j:(T++Array.replicate (nt-T.size) undef).getD t undef=undef:=by
   simp
   grind
  rw[f,j];rfl
 simp;omega
theorem aBt(aF:ez Z m):∀ {o q:aG},qf o q->(∀id∈o,∃O,(m.blk id).2=some O/\O.iM)->(o.map m.σ).Nodup/\ ∀id∈q,id∉o:=by
 intro o
 induction o with
 |nil=>intro q _ _;exact⟨aE,λid _ h=>by simp at h⟩
 |cons i o z=>
  intro q h n;simp[qf,cP,ke]at h;obtain⟨⟨D,E⟩,v⟩:=h;obtain⟨i1,i2⟩:=z v (λid H=>n id (by simp[H]));have L:i∉o:=by simpa using D
  refine⟨?_,λid H=>?_⟩
  .rw[eZ,rR];refine⟨λM=>?_,i1⟩;obtain⟨j,u,x⟩:=ch.1 M;obtain⟨O,A,y⟩:=n i aE;obtain⟨f,B,b2⟩:=n j (by simp[u]);exact L (aF.inj j i f O B b2 A y x▸u)
  grind
theorem arc{blk:aJ}:∀ {D:eO}{R:oh}{o q:aG},oV blk D=some (R,o,q)->I R=I D:=by
 intro D
 induction D with
 |nil=>intro R o q h;simp[oV,iW,nh]at h;obtain⟨rfl,_⟩:=h;rfl
 |cons c D f=>
  intro R o q h;simp[oV]at h
  grind
theorem afo{α β:Type}{f:α->Option (β×aG)}:∀ {L:List α}{ys:List β}{r:aG},iB f L=some (ys,r)->∀id∈r,∃x y q,f x=some (y,q)/\id∈q:=by
 intro L
 induction L with
 |nil=>intro ys r h id H;simp[iB]at h;rw[h.2]at H;simp at H
 |cons x L j=>
  intro ys r h id H;simp[iB]at h
  grind
theorem aCt{blk:aJ}:∀ {n:Nat}{c:bd}{x:PV}{r:aG},snap blk n c=some (x,r)->∀id∈r,∃O,(blk id).2=some O:=by
 intro n
 induction n with
 |zero=>intro c x r h;simp[snap]at h
 |succ n z=>
  intro c x r h id H;have one:∀ {i:Nat}{O:gP}{g:Nat},blk i=(g,some O)->id∈[i]->∃O,(blk id).2=some O:=by intro i O g f m;simp at m;subst m;exact⟨O,by rw[f]⟩
  have j:∀ {D:eO}{ps:dW}{r:aG},iB (snap blk n) D=some (ps,r)->id∈r->∃O,(blk id).2=some O:=by intro D ps r h m;obtain⟨x,y,q,v,u⟩:=afo h id m;exact z v id u
  unfold snap at h;split at h
  .cases h;simp at H
  .grind
  .grind
  .split at h
   .rename_i f;split at h
    .cases h;exact one f H
    cases h
   .rename_i f;split at h
    .cases h;exact one f H
    cases h
   .rename_i f;split at h
    .split at h
     .rename_i A;cases h;rcases c7.1 H with e|H
      .exact one f (by simp[e])
      obtain⟨x,y,q,v,u⟩:=afo A id H;exact j v u
     cases h
    cases h
   cases h
  .grind
  grind
theorem aBs{blk:aJ}:∀ {D:eO}{R:oh}{o q:aG},oV blk D=some (R,o,q)->∀id∈q,∃O,(blk id).2=some O:=by
 intro D
 induction D with
 |nil=>intro R o q h id H;simp only[oV,iW,nh]at h;rw[<-h.2.2]at H;simp at H
 |cons c D u=>
  intro R o q h id H;simp[oV]at h;split at h
  .rename_i x z Q L os A f j;cases h;rcases gn.1 H with H|H
   .have dU:(snap blk jl c).map (λ(v,r)=>((.p v:nm),([]:aG),r))=some (x,z,Q)->∃O,(blk id).2=some O:=by
     intro f;simp only[gv]at f;obtain⟨⟨y,r⟩,m,n⟩:=f;cases n;exact aCt m id H
    unfold mH at f
    grind
   exact u j id H
  cases h
theorem ay3{w:World}{X:a_}(aF:ez w m)(F:hs X m)(qR:X.w=w)(Y:∀c,¬X.iM c)(vx:m.fr=O){v:V}{r:RV}(y:lM m.blk v=some r)(hr:df m v val):zV w O r (.returned val) m.w:=by
 unfold lM at y;split at y
 .rename_i D eh;split at y
  .rename_i rs o q L;split at y
   .rename_i sM;cases y;obtain⟨h,x,ie⟩:=anI eh hr;obtain⟨g1,g2⟩:=ie rs (arc L);have M:=(ac3 aF (Q:=λ_=>False) (λ_ y=>y.elim) L x (λ_ _ y=>y)).2;obtain⟨fN,R⟩:=aBt aF sM M;have A:∀b,(O b\/b∈o.map m.σ)->m.own b:=by
     intro b z;rcases z with z|z
     .exact .inl (vx▸z)
     obtain⟨id,H,rfl⟩:=ch.1 z;obtain⟨f,B,N⟩:=M id H;exact .inr ⟨id,f,B,N,rfl⟩
    have hq:∀id∈q,¬(O (m.σ id)\/m.σ id∈o.map m.σ):=by
     intro id H u;obtain⟨f,n⟩:=aBs L id H;by_cases Z:f.iM
     .rcases u with u|u
      .exact(aF.gT id f n Z).2 (vx▸u)
      obtain⟨j,hj,he⟩:=ch.1 u;obtain⟨ab,b1,b2⟩:=M j hj;exact R id H (aF.inj j id ab f b1 b2 n Z he▸hj)
     have E:¬m.own (m.σ id):=by
      have DY:=aF.obj id f n;cases f<;>simp[gP.iM]at Z
      .obtain⟨_,_,_,_,_,E⟩:=DY;exact E
      .obtain⟨_,_,_,_,_,_,_,_,_,E⟩:=DY;exact E
      obtain⟨_,_,_,_,_,E⟩:=DY;exact E
     exact E (A _ u)
    obtain⟨T,_⟩:=ac3 aF A L x hq;subst qR;refine⟨val,o.map m.σ,rfl,⟨F.os,F.tape,F.output,F.size,λc x=>F.keep c x (Y c)⟩,fN,λc x=>?_,h,g2,by rw[g1];exact T⟩;obtain⟨id,H,rfl⟩:=ch.1 x;obtain⟨f,B,N⟩:=M id H;exact⟨(aF.gT id f B N).1,(aF.obj id f B).lt⟩
   cases y
  cases y
 cases y
theorem u9.vrel{w:World}(H:m.w=w)(f:m.own=O)(h:u9 w O x v):df m x v:=by
 subst H f;cases x with
 |undef=>exact h.elim
 |tup _=>exact h.elim
 |one c=>
  cases c with
  |p x=>exact oN h
  |_=>exact h.elim
 |agg D=>obtain⟨arr,ps,rfl,rfl,hp⟩:=h;exact df.agg.2 ⟨arr,rfl,hp.GC⟩
theorem arS{E:mF}{fn:aZ}{T:dZ}{blk:aJ}{v:V}(H:sd E Y D n fn T blk=some (v,F)):
  ∃e j h,dT E Y D n fn.body (tl T) blk=some (e,j,F)/\(e=.normal\/e=.ret)/\r7 E.al j F fn.results=some h/\v=Bn h:=by
 unfold sd at H
 grind [gv]
theorem ai2{G:World->Prop}(hG:Good G Z)(hP:E9 P G Y)(hS:Iy P G D)(hL:B8 D)(Cv:P.follows .mixedOrders){E:mF}{fn:aZ}(hc:Fq P f=some fn){h:dZ}{m:a_}{v:V}(ab:sd E Y D n fn h m.blk=some (v,F))
  (hl:I h<=fn.ntmps) (aF:ez Z m) (X:Pw (df m) h T.toList):Calls P f T m.w (CZ Z m v F):=by
 obtain⟨u,c,L,H,h3,B,N,h6⟩:=ag1 hc;obtain⟨e,j,rs,R,he,O,rfl⟩:=arS ab;refine calls_of_wp L H ?_;obtain⟨Q,z⟩:=azt (nt:=u.ntmps) X J;refine arz hG hP hS hL Cv c B R aF Q z ?_;intro A M k1 k2 k3 k4 k5 k6 k7;subst k4;obtain⟨y,g1,x⟩:=auh k1 k5 N O;have:bodyPost P u (CZ Z m _ M.blk) .normal A M.w:=⟨k7,y,g1,y,M,rfl,rfl,k1,k2,k3,rfl,x⟩;rcases he with rfl|rfl
 .exact this
 exact this
theorem enters_of{fn:aZ}(n:Fq P f=some fn):Enters P f:=by obtain⟨m,c,H,h,j,_⟩:=ag1 n;exact⟨m,c,H,h,j⟩
theorem sound{S:Sys}{G:World->Prop}(y:Lj S G):∀n,E9 S.P G (kB S n)/\Iy S.P G (jw S n)/\B8 (jw S n):=by
 intro n
 induction n with
 |zero=>exact⟨λf h r y=>by simp[kB]at y,λf h al blk v F y=>by simp[jw]at y,λf h al blk v F y=>by simp[jw]at y⟩
 |succ n ih=>
  obtain⟨hP,hS,hL⟩:=ih;refine⟨?_,?_,?_⟩
  .intro f h r H;rw[kB]at H;split at H
   .rename_i r' hp;subst H;exact y.prim f h r hp
   split at H
   .rename_i fn hfn;have A:=y.fns f fn hfn;split at H
    .rename_i hl;refine⟨enters_of A,λw O T hG hO B=>?_⟩;unfold EO at H;split at H
     .rename_i v F hr
      let m0:a_:=⟨w,Bc,λ_=>0,λ_=>0,O⟩
      have M:m0.own=O:=by
       funext c;apply propext;constructor
       .rintro (y|⟨id,o,y,_⟩)
        .exact y
        cases y
       exact .inl
      refine(ai2 hG hP hS hL y.follow A hr hl ⟨rfl,rfl,rfl,cJ _,λ_ _=>rfl,(λid o y=>by cases y),(λid o y=>by cases y),hO,(λid gI o o' y=>by cases y)⟩ ⟨B.1,λj x u p q=>(B.2 j x u p q).vrel rfl M⟩).mono ?_;rintro e w' ⟨val,m',rfl,rfl,Y,q2,q3,q4,q5⟩
      subst q4;exact ay3 Y q2 rfl (λc ⟨id,o,y,_⟩=>by cases y) q3 H q5
     cases H
    cases H
   cases H
  .intro f h al blk v F H;rw[jw]at H;by_cases z:S.trig f h
   .rw[aD z]at H;exact(y.primS f h al blk v F z H).1
   rw[aC z]at H;split at H
   .rename_i fn hfn;have A:=y.fns f fn hfn;split at H
    .rename_i hl;refine⟨enters_of A,λZ m T hG aF X B=>?_⟩;subst X;exact ai2 hG hP hS hL y.follow A H hl aF B
    cases H
   cases H
  intro f h al blk v F H;rw[jw]at H;by_cases z:S.trig f h
  .rw[aD z]at H;obtain⟨_,Q,R⟩:=y.primS f h al blk v F z H;refine⟨Q,λbK D=>?_⟩;obtain⟨E,N,L⟩:=R bK D;exact⟨E,by rw[jw,aD z];exact N,L⟩
  rw[aC z]at H;split at H
  .rename_i fn hfn;split at H
   .rename_i hl;obtain⟨Q,R⟩:=aAJ hL H;refine⟨Q,λbK D=>?_⟩;obtain⟨E,N,L⟩:=R bK D;exact⟨E,by rw[jw,aC z];simp only[hfn,hl,if_true];exact N,L⟩
   cases H
  cases H
theorem aL.calls{S:Sys}{G:World->Prop}(H:Lj S G){h:dZ}{r:RV}(m:aL S f h r)(w:World)(hG:Good G w)(T:Array Value)(j:Pw (u9 w λ_=>False) h T.toList):Calls S.P f T w (zV w (λ_=>False) r):=by obtain⟨n,u⟩:=m;exact((sound H n).1 f h r u).2 w _ T hG (λc H=>H.elim) j
end
section
variable{T:dZ}{D:rq}{Y:kV}{E:mF}
theorem aiN(h:n<=9223372036854775807):IntKind.i64.wrap (n:Int)=n:=by
 have e:(2 ^ IntKind.i64.bits:Int)=18446744073709551616:=aa;have E:(2 ^ (IntKind.i64.bits-1):Int)=9223372036854775808:=aa;unfold IntKind.wrap
 grind
inductive eX where
 |leaf
 |node (v:V) (l r:eX)
noncomputable def eX.get (t:eX):Nat->V:=eX.rec (motive:=λ_=>Nat->V) (λ_=>.undef) (λv _ _ f gR n=>bif Nat.beq n 0 then v else bif Nat.beq (Nat.mod n 2) 1 then f (Nat.div n 2)else gR (Nat.sub (Nat.div n 2) 1)) t
noncomputable def eX.single (k:Nat):Nat->V->eX:=Nat.rec (motive:=λ_=>Nat->V->eX) (λ_ _=>.leaf) (λ_ f n x=>bif Nat.beq n 0 then .node x .leaf .leaf else bif Nat.beq (Nat.mod n 2) 1 then .node .undef (f (Nat.div n 2) x) .leaf else .node .undef .leaf (f (Nat.sub (Nat.div n 2) 1) x)) k
noncomputable def eX.set (t:eX):Nat->V->eX:=eX.rec (motive:=λ_=>Nat->V->eX) (λn x=>eX.single 12 n x) (λv l r sl f n x=>bif Nat.beq n 0 then .node x l r else bif Nat.beq (Nat.mod n 2) 1 then .node v (sl (Nat.div n 2) x) r else .node v l (f (Nat.sub (Nat.div n 2) 1) x)) t
theorem I4{a b:Nat}(h:a≠b):Nat.beq a b=false:=by grind [yZ]
theorem awE(n:Nat):eX.leaf.get n=.undef:=rfl
theorem Vc(v:V)(l r:eX)(n:Nat):(eX.node v l r).get n=if n=0 then v else if n%2=1 then l.get (n/2)else r.get (n/2-1):=by
 show(bif Nat.beq n 0 then v else bif Nat.beq (n%2) 1 then l.get (n/2)else r.get (n/2-1))=_;by_cases h:n=0
 .subst h;rfl
 simp_all
theorem afZ(f:eX->eX)(g:eX->eX)(v:V)(l r:eX)(n m:Nat)(x:V)(hl:n%2=1->(f l).get (m/2)=if m/2=n/2 then x else l.get (m/2))(hr:n≠0->n%2≠1->(g r).get (m/2-1)=if m/2-1=n/2-1 then x else r.get (m/2-1)):
  (bif Nat.beq n 0 then eX.node x l r else bif Nat.beq (n%2) 1 then .node v (f l) r else .node v l (g r)).get m=if m=n then x else(eX.node v l r).get m:=by
 by_cases H:n=0
 .subst H;simp[PF,cond_true,Vc]
  grind
 rw[I4 H];by_cases h:n%2=1
 .rw[h];simp[cond_false,PF,cond_true,Vc]
  grind
 rw[I4 h];simp[cond_false,Vc]
 grind
theorem atF:∀(k n m:Nat) (x:V),n+1<2 ^ k->(eX.single k n x).get m=if m=n then x else eX.leaf.get m:=by
 intro k
 induction k with
 |zero=>intro n m x h;simp at h
 |succ k f=>
  intro n m x h;have:=afZ (λ_=>eX.single k _ x) (λ_=>eX.single k _ x) .undef .leaf .leaf n m x (λ_=>f _ _ _ J) (λ_ _=>f _ _ _ J);have e:(eX.node .undef .leaf .leaf).get m=eX.leaf.get m:=by rw[Vc];simp[awE]
  rwa[e]at this
theorem eX.agj:∀(t:eX) (n m:Nat) (x:V),n+1<2 ^ 12->(t.set n x).get m=if m=n then x else t.get m:=by
 intro t
 induction t with
 |leaf=>intro n m x h;exact atF 12 n m x h
 |node v l r j f=>intro n m x h;exact afZ (λl=>l.set (n/2) x) (λr=>r.set (n/2-1) x) v l r n m x (λ_=>j _ _ _ J) (λ_ _=>f _ _ _ J)
abbrev BL:=List (Nat×(Nat×Option gP))
noncomputable def C_ (b:BL) (n:Nat):Nat×Option gP:=List.rec (motive:=λ_=>Nat×Option gP) (0,none) (λp _ f=>bif Nat.beq p.1 n then p.2 else f) b
noncomputable def Md:BL->Nat->Nat×Option gP->BL
 |[],n,x=>[(n,x)]
 |(i,o)::r,n,x=>bif Nat.beq i n then(i,x)::r else(i,o)::Md r n x
theorem aqx:∀(b:BL) (n:Nat) (x:Nat×Option gP) (m:Nat),C_ (Md b n x) m=if m=n then x else C_ b m:=by
 intro b
 induction b with
 |nil=>
  intro n x m;simp only[Md,C_];by_cases h:m=n
  .subst h;simp
  have:=I4 λe=>h e.symm;simp[this,h]
 |cons p b f=>
  obtain⟨i,o⟩:=p;intro n x m;simp[Md];by_cases h:i=n
  .subst h;simp only[PF,cond_true,C_];by_cases H:m=i
   .subst H;simp
   have:=I4 λe=>H e.symm;simp[this,H]
  have:=I4 h;simp only[this,cond_false,C_];by_cases H:i=m
  .subst H;simp[h]
  have:=I4 H;simp[this,cond_false];exact f n x m
noncomputable def r6 (t:eX):bJ:=λi=>t.get i
noncomputable def me (b:BL):aJ:=λi=>C_ b i
noncomputable def KZ:Nat->dZ->eX->eX
 |_,[],t=>t
 |i,a::r,t=>KZ (i+1) r (t.set i a)
theorem ayH:∀(l:dZ) (i:Nat) (t:eX) (m:Nat),i+I l<4095->(KZ i l t).get m=if i<=m/\m<i+I l then l.getD (m-i) .undef else t.get m:=by
 intro l
 induction l with
 |nil=>intro i t m _;simp[KZ];intro j H;omega
 |cons a r f=>
  intro i t m h;simp at h |-;rw[KZ,f _ _ m J,eX.agj t i m a J]
  grind
theorem azF(h:I T<4095):r6 (KZ 0 T .leaf)=tl T:=by
 funext m;unfold r6 tl;rw[ayH T 0 .leaf m J];by_cases H:m<I T
 .grind
 rw[aC J];simp[eX.get,List.getD,lS (Nat.le_of_not_lt H)]
noncomputable def W_ {α:Type} (n:Nat) (k:Nat->α):α:=match n with
 |0=>k 0
 |m+1=>k (m+1)
noncomputable def aav {α:Type} (z:Int) (k:Int->α):α:=match z with
 | .ofNat n=>W_ n λn=>k (.ofNat n)
 | .negSucc n=>W_ n λn=>k (.negSucc n)
noncomputable def Wh {α:Type} (v:V) (k:V->α):α:=match v with
 | .one (.p (.int t z))=>aav z λz=>k (.one (.p (.int t z)))
 | .one (.p (.bool b))=>match b with
  |true=>k (.one (.p (.bool true)))
  |false=>k (.one (.p (.bool false)))
 |v=>k v
@[simp] theorem aCu {α:Type} (n:Nat) (k:Nat->α):W_ n k=k n:=by cases n<;>rfl
@[simp] theorem aCw {α:Type} (z:Int) (k:Int->α):aav z k=k z:=by cases z<;>simp[aav]
@[simp] theorem aqF {α:Type} (v:V) (k:V->α):Wh v k=k v:=by
 unfold Wh;split
 .simp
 .split<;>rfl
 rfl
def Ve(al:cF)(l:aG):Bool:=bif al.any then true else al.jk l
theorem aog(al:cF)(l:aG):Ve al l=al.jk l:=by
 unfold Ve;cases h:al.any with
 |false=>rfl
 |true=>simp[cF.jk,cF.ok,h]
abbrev ri:=Nat->dZ->cF->BL->Option (V×BL)
noncomputable def ID:kR->BL->BL
 |[],b=>b
 |(i,o)::r,b=>ID r (Md b i o)
theorem Wz:∀(u:kR) (b:BL),me (ID u b)=app u (me b):=by
 intro u
 induction u with
 |nil=>intro b;rfl
 |cons x u f=>obtain⟨i,o⟩:=x;intro b;simp[ID,app];rw[f];congr 1;funext m;exact aqx b i o m
noncomputable def JY (t:eX) (d:eT) (v:V) (k:eX->Option (eX×BL×iV)):Option (eX×BL×iV):=match d with
 |none=>k t
 |some n=>bif Nat.ble n 4000 then Wh v λv=>k (t.set n v)else none
noncomputable def Va (E:mF) (Y:kV) (D:ri) (o:lI) (t:eX) (b:BL):Option (eX×BL×iV):=
 match sF (r6 t) o.guard with
 |none=>none
 |some false=>JY t o.dst .undef λT=>some (T,b,⟨[],[],[]⟩)
 |some true=>match cZ E.shared (r6 t) (me b) o.op with
  | .fail=>none
  | .done v u r=>bif Ve E.al (r++u.map (·.1))then JY t o.dst v λT=>some (T,ID u b,⟨r,u.map (·.1),[]⟩)else none
  | .pc f h r s=>match Y f h with
   |some x=>match fR (me b) r s (x.iA (E.lone s))with
    |some (v,u)=>bif Ve E.al (r++u.map (·.1))then JY t o.dst v λT=>some (T,ID u b,⟨r++u.map (·.1),u.map (·.1),[]⟩)else none
    |none=>none
   |none=>none
  | .sc f h=>match jm E f h (me b)with
   |al=>bif E.al.holds al then
     match D f h al b with
     |some (v,M)=>JY t o.dst v λT=>some (T,M,⟨al.ids,al.ids,al.fs⟩)
     |none=>none
    else none
noncomputable def Lg (D:rq) (j:ri):Prop:=∀f h al b v M,j f h al b=some (v,M)->D f h al (me b)=some (v,me M)
theorem RQ{t T:eX}{d:eT}{v:V}{b M:BL}{e e':iV}(h:JY t d v (λT=>some (T,b,e))=some (T,M,e')):eQ (r6 t) d v=r6 T/\b=M/\e=e':=by
 unfold JY at h;split at h
 .cases h;exact⟨rfl,rfl,rfl⟩
 rename_i n;cases H:Nat.ble n 4000 with
 |false=>rw[H]at h;cases h
 |true=>rw[H]at h;simp only[cond_true,aqF]at h;cases h;refine⟨?_,rfl,rfl⟩;have:=ju H;funext m;exact(eX.agj t n m v J).symm
theorem aB5{n:ri}(ae:Lg D n){o:lI}{t T:eX}{b M:BL}{e:iV}(H:Va E Y n o t b=some (T,M,e)):mh E Y D o (r6 t) (me b)=some (r6 T,me M,e):=by
 unfold Va at H;simp only[aog]at H;unfold mh;split at H
 .cases H
 .rename_i m;rw[m];obtain⟨j,rfl,rfl⟩:=RQ H;simp only[j]
 rename_i m;rw[m];simp only;split at H
 .cases H
 .rename_i v u r hp;cases aF:E.al.jk (r++u.map (·.1))with
  |false=>rw[aF]at H;cases H
  |true=>rw[aF]at H;obtain⟨j,rfl,rfl⟩:=RQ H;simp only[hp,aF,if_true,j,Wz]
 .rename_i f h r s hp;split at H
  .rename_i x y;split at H
   .rename_i v u hl;cases aF:E.al.jk (r++u.map (·.1))with
    |false=>rw[aF]at H;cases H
    |true=>rw[aF]at H;obtain⟨j,rfl,rfl⟩:=RQ H;simp only[hp,y,hl,aF,if_true,j,Wz]
   cases H
  cases H
 rename_i f h hp;cases aF:E.al.holds (jm E f h (me b))with
 |false=>rw[aF]at H;cases H
 |true=>
  rw[aF]at H;split at H
  .rename_i v B z;obtain⟨j,rfl,rfl⟩:=RQ H;simp only[hp,aF,if_true,ae _ _ _ _ _ _ z,j]
  cases H
noncomputable def axb (E:mF) (Y:kV) (D:ri) (o:lI) (f:eX->BL->Option (eX×BL×gG)) (j:eX) (blk:BL):Option (eX×BL×gG):=
 match Va E Y D o j blk with
 |some (X,F,e)=>match f X F with
  |some (u,h,y)=>some (u,h,e::y)
  |none=>none
 |none=>none
noncomputable def KV (E:mF) (Y:kV) (D:ri) (l:fV):eX->BL->Option (eX×BL×gG):=List.rec (motive:=λ_=>eX->BL->Option (eX×BL×gG)) (λj blk=>some (j,blk,[])) (λo _ f=>axb E Y D o f) l
theorem aAw(E:mF)(Y:kV)(D:ri)(j:eX)(blk:BL):KV E Y D [] j blk=some (j,blk,[]):=rfl
theorem aBT(E:mF)(Y:kV)(D:ri)(o:lI)(r:fV)(j:eX)(blk:BL):KV E Y D (o::r) j blk=match Va E Y D o j blk with
  |some (X,F,e)=>match KV E Y D r X F with
   |some (u,f,y)=>some (u,f,e::y)
   |none=>none
  |none=>none:=rfl
theorem ayO{f:ri}(ae:Lg D f):∀ {ops:fV}{t T:eX}{b M:BL}{y:gG},KV E Y f ops t b=some (T,M,y)->jz E Y D ops (r6 t) (me b)=some (r6 T,me M,y):=by
 intro ops
 induction ops with
 |nil=>intro t T b M y h;simp[aAw,iW,nh]at h;obtain⟨rfl,rfl,rfl⟩:=h;rfl
 |cons o r j=>
  intro t T b M y h;simp[aBT]at h;split at h
  .rename_i v B x n;split at h
   .rename_i u b2 m H;cases h;simp[jz,aB5 ae n,j H]
   cases h
  cases h
noncomputable def P7 (f:eX->BL->Option (oK×eX×BL)) (n:Nat):eX->BL->Option (oK×eX×BL):=
 Nat.rec (motive:=λ_=>eX->BL->Option (oK×eX×BL)) (λ_ _=>none) (λ_ h j blk=>match f j blk with
  |some (.normal,X,F)=>h X F
  |r=>r) n
theorem aAQ(f:eX->BL->Option (oK×eX×BL))(n:Nat)(j:eX)(blk:BL):P7 f (n+1) j blk=match f j blk with
  |some (.normal,X,F)=>P7 f n X F
  |r=>r:=rfl
abbrev CS:=eX->BL->Option (oK×eX×BL)
noncomputable def aqu (E:mF) (Y:kV) (D:ri) (d:Bool) (ops:fV):CS:=λj blk=>match KV E Y D ops j blk with
  |some (X,F,y)=>bif d then(bif vi ops [] y then some (.normal,X,F)else none)else some (.normal,X,F)
  |none=>none
noncomputable def awB (a b:CS):CS:=λj blk=>match a j blk with
  |some (.normal,X,F)=>b X F
  |r=>r
noncomputable def aql (x:fk) (a b:CS):CS:=λj blk=>match ev (r6 j) x with
  | .one (.p (.bool t))=>bif t then a j blk else b j blk
  |_=>none
noncomputable def anP (id:Nat) (c:CS):CS:=λj blk=>match c j blk with
  |some (.exit i,X,F)=>bif Nat.beq i id then some (.normal,X,F)else some (.exit i,X,F)
  |r=>r
noncomputable def uO (E:mF) (Y:kV) (D:ri) (n:Nat) (c:aR):CS:=
 aR.rec (motive:=λ_=>CS) (λj blk=>some (.normal,j,blk)) (λd ops=>aqu E Y D d ops) (λ_ _ a b=>awB a b) (λx _ _ a b=>aql x a b)
  (λid _ c=>anP id c) (λ_ c=>P7 c n) (λid j blk=>some (.exit id,j,blk)) (λj blk=>some (.ret,j,blk)) (λ_ _=>none) c
section
variable (E:mF) (Y:kV) (D:ri) (n:Nat) (j:eX) (blk:BL)
theorem aqo:uO E Y D n .skip j blk=some (.normal,j,blk):=rfl
theorem aBV(id:Nat):uO E Y D n (.exit id) j blk=some (.exit id,j,blk):=rfl
theorem av3:uO E Y D n .ret j blk=some (.ret,j,blk):=rfl
theorem atI(d:Bool)(ops:fV):uO E Y D n (.region d ops) j blk=match KV E Y D ops j blk with
  |some (X,F,y)=>bif d then(bif vi ops [] y then some (.normal,X,F)else none)else some (.normal,X,F)
  |none=>none:=rfl
theorem aoO(a b:aR):uO E Y D n (.seq a b) j blk=match uO E Y D n a j blk with
  |some (.normal,X,F)=>uO E Y D n b X F
  |r=>r:=rfl
theorem apJ(x:fk)(a b:aR):uO E Y D n (.cond x a b) j blk=match ev (r6 j) x with
  | .one (.p (.bool t))=>bif t then uO E Y D n a j blk else uO E Y D n b j blk
  |_=>none:=rfl
theorem azd(id:Nat)(c:aR):uO E Y D n (.block id c) j blk=match uO E Y D n c j blk with
  |some (.exit i,X,F)=>bif Nat.beq i id then some (.normal,X,F)else some (.exit i,X,F)
  |r=>r:=rfl
theorem az0(c:aR):uO E Y D n (.loop c) j blk=P7 (uO E Y D n c) n j blk:=rfl
end
theorem aBI{f:eX->BL->Option (oK×eX×BL)}{g:bJ->aJ->Option (oK×bJ×aJ)}(Q:∀t b e T M,f t b=some (e,T,M)->g (r6 t) (me b)=some (e,r6 T,me M)):
  ∀(n:Nat) {t T:eX}{b M:BL}{e:oK},P7 f n t b=some (e,T,M)->mK g n (r6 t) (me b)=some (e,r6 T,me M):=by
 intro n
 induction n with
 |zero=>intro t T b M e h;cases h
 |succ n j=>
  intro t T b M e h;simp[aAQ]at h;simp[mK]
  grind
theorem afc{f:ri}(ae:Lg D f):∀(c:aR) {t T:eX}{b M:BL}{e:oK},uO E Y f n c t b=some (e,T,M)->dT E Y D n c (r6 t) (me b)=some (e,r6 T,me M):=by
 intro c
 induction c with
 |skip=>intro t T b M e h;simp only[aqo,iW,nh]at h;obtain⟨rfl,rfl,rfl⟩:=h;rfl
 |exit id=>intro t T b M e h;simp only[aBV,iW,nh]at h;obtain⟨rfl,rfl,rfl⟩:=h;rfl
 |ret=>intro t T b M e h;simp only[av3,iW,nh]at h;obtain⟨rfl,rfl,rfl⟩:=h;rfl
 |bad=>intro t T b M e h;cases h
 |region d ops=>
  intro t T b M e h;simp only[atI]at h;simp only[dT];split at h
  .rename_i A B y H;rw[ayO ae H]
   grind
  cases h
 |seq x F z m=>
  intro t T b M e h;simp only[aoO]at h;simp only[dT]
  grind
 |cond x p q v u=>
  intro t T b M e h;simp only[apJ]at h;simp only[dT]
  grind
 |block id c j=>
  intro t T b M e h;simp only[azd]at h;simp only[dT]
  grind [yZ,PF]
 |loop c j=>intro t T b M e h;simp only[az0]at h;simp only[dT];exact aBI (λ_ _ _ _ _ h=>j h) n h
noncomputable def HN (E:mF) (Y:kV) (D:ri) (n:Nat) (fn:aZ) (T:dZ) (blk:BL):Option (V×BL):=
 bif Nat.ble (I T) 4000 then
  match uO E Y D n fn.body (KZ 0 T .leaf) blk with
  |some (.normal,j,F)=>(r7 E.al (r6 j) (me F) fn.results).map λh=>(Bn h,F)
  |some (.ret,j,F)=>(r7 E.al (r6 j) (me F) fn.results).map λh=>(Bn h,F)
  |_=>none
 else none
theorem aAV{f:ri}(ae:Lg D f){fn:aZ}{b M:BL}{v:V}(h:HN E Y f n fn T b=some (v,M)):sd E Y D n fn T (me b)=some (v,me M):=by
 unfold HN at h;unfold sd;cases hl:Nat.ble (I T) 4000 with
 |false=>rw[hl]at h;cases h
 |true=>
  rw[hl]at h;simp at h;have:=ju hl;rw[<-azF J];split at h
  .rename_i j B H;rw[afc ae _ H]
   grind [gv]
  .rename_i j B H;rw[afc ae _ H];simp at h |-
   grind
  cases h
noncomputable def anS (S:Sys) (n:Nat) (Y:kV) (D:ri):kV:=λf T=>match S.prim f T with
  |some r=>r
  |none=>match S.fns f with
   |some fn=>bif Nat.ble (I T) fn.ntmps then
     match HN (S.ctx .all) Y D n fn T []with
     |some (v,b)=>lM (me b) v
     |none=>none
    else none
   |none=>none
noncomputable def ayy (S:Sys) (n:Nat) (Y:kV) (D:ri):ri:=λf T al b=>bif S.trig f T then(S.primS f T al (me b)).map (λr=>(r.1,ID r.2 b))else match S.fns f with
  |some fn=>bif Nat.ble (I T) fn.ntmps then HN (S.ctx al) Y D n fn T b else none
  |none=>none
noncomputable def ae7 (S:Sys) (n:Nat):kV×ri:=Nat.rec (motive:=λ_=>kV×ri) (λ_ _=>none,λ_ _ _ _=>none) (λn f=>(anS S n f.1 f.2,ayy S n f.1 f.2)) n
noncomputable def Fm (S:Sys) (n:Nat):kV:=(ae7 S n).1
noncomputable def Du (S:Sys) (n:Nat):ri:=(ae7 S n).2
theorem apC(S:Sys)(n f:Nat)(T:dZ):Fm S (n+1) f T=match S.prim f T with
  |some r=>r
  |none=>match S.fns f with
   |some fn=>bif Nat.ble (I T) fn.ntmps then
     match HN (S.ctx .all) (Fm S n) (Du S n) n fn T []with
     |some (v,b)=>lM (me b) v
     |none=>none
    else none
   |none=>none:=rfl
theorem awl(S:Sys)(n f:Nat)(T:dZ)(al:cF)(b:BL):Du S (n+1) f T al b=bif S.trig f T then(S.primS f T al (me b)).map (λr=>(r.1,ID r.2 b))else match S.fns f with
  |some fn=>bif Nat.ble (I T) fn.ntmps then HN (S.ctx al) (Fm S n) (Du S n) n fn T b else none
  |none=>none:=rfl
theorem alw{O:kV}(hp:Nc Y O){f:ri}(ae:Lg D f){fn:aZ}{b M:BL}{v:V}(h:HN E Y f n fn T b=some (v,M)):sd E O D n fn T (me b)=some (v,me M):=Z4 hp (λ_ _ _ _ _ h=>h) (cJ _) (aAV ae h)
theorem Xq(S:Sys):∀n,Nc (Fm S n) (kB S n)/\Lg (jw S n) (Du S n):=by
 intro n
 induction n with
 |zero=>have y:∀f x,Fm S 0 f x=none:=λ_ _=>rfl;have m:∀f h al b,Du S 0 f h al b=none:=λ_ _ _ _=>rfl;exact⟨λf x r H=>(by rw[y]at H;cases H),λf h al b v M H=>(by rw[m]at H;cases H)⟩
 |succ n u=>
  obtain⟨hp,ae⟩:=u;refine⟨λf x r H=>?_,λf h al b v M H=>?_⟩
  .rw[apC]at H;rw[kB];split at H
   .grind
   rename_i A;simp only[A];split at H
   .rename_i fn hfn;simp only[hfn];cases hl:Nat.ble (I x) fn.ntmps with
    |false=>rw[hl]at H;cases H
    |true=>
     rw[hl]at H;rw[aD (ju hl)];split at H
     .rename_i v b hr;unfold EO;have:Bc=me []:=rfl;rw[this,alw hp ae hr];exact H
     cases H
   cases H
  rw[awl]at H;rw[jw];cases j:S.trig f h with
  |true=>
   rw[j]at H;simp only[cond_true]at H;rw[aD rfl];cases hp:S.primS f h al (me b)with
   |none=>rw[hp]at H;cases H
   |some r=>rw[hp]at H;cases H;rw[wy,Wz]
  |false=>
  rw[j]at H;split at H
  .rename_i fn hfn;simp only[hfn];cases hl:Nat.ble (I h) fn.ntmps with
   |false=>rw[hl]at H;cases H
   |true=>rw[hl]at H;rw[aD (ju hl)];exact alw hp ae H
  cases H
theorem acq(S:Sys)(n:Nat){r:RV}(h:Fm S n f T=some r):aL S f T r:=⟨n,(Xq S n).1 _ _ _ h⟩
inductive u6 {H:Type} (N:Nat):DataW H->Prop where
 |str (s:BX) (h:I s<=N):u6 N (.lit (.string s))
 |lit (l:Lit) (h:∀s,l≠ .string s):u6 N (.lit l)
 |nil:u6 N .nil
 |slice (es sp:List (DataW H)) (h:I es<=N) (he:∀d∈es,u6 N d):u6 N (.slice es sp)
 |agg (es:List (DataW H)) (he:∀d∈es,u6 N d):u6 N (.agg es)
def lz(P:Program)(N:Nat):Nat->TypeId->dW->Prop
 |0,_,_=>False
 |n+1,t,ps=>match P.underlying t with
  |some .bool=>∃b,ps=[.bool b]
  |some (.int k)=>∃z,ps=[.int k z]/\(Lit.int k z).wf
  |some .string=>∃s:ByteArray,ps=[.str s]/\s.size<=N
  |some (.slice e)=>∃y,ps=[.sl y]/\I y<=N/\ ∀x∈y,lz P N n e x
  |some (.struct fs)=>∃h:dI,ps=h.flatten/\I h=I fs.toList/\ ∀(i:Nat) (f:Field) (x:dW),fs.toList[i]?=some f->h[i]?=some x->lz P N n f.type x
  |_=>False
def AA(P:Program):Nat->Nat->List Field->Bool
 |O,T,[]=>Nat.beq O T
 |O,T,f::r=>Nat.beq f.offset O&&AA P (O+P.cellsOf f.type) T r
def lO(P:Program):Nat->TypeId->Bool
 |0,_=>false
 |n+1,t=>match P.underlying t with
  |some .bool|some (.int _)|some .string=>true
  |some (.slice e)=>Nat.blt 0 (P.cellsOf e)&&lO P n e
  |some (.struct fs)=>AA P 0 (P.cellsOf t) fs.toList&&fs.toList.all λf=>lO P n f.type
  |_=>false
section
variable {H:Type} {enc:TypeId×Value->H} {P:Program} {w:World} {base:Nat} {sp:Nat->Bool} {held:Bool} {N:Nat}
theorem eL.append{w:World}{own:Nat->Prop}{L ys:dW}(H:eL w own L h)(k:eL w own ys us):eL w own (L++ys) (h++us):=Pw.append (R:=dh w own) H k
theorem am5{w:World}{base:Nat}{a:Addr}{D:List Value}(h:w.cells? base a n=some D):I D=n/\ ∀i,i<n->a.add i=⟨a.block,a.off+i,none⟩/\w.cell? ⟨a.block,a.off+i,none⟩=D[i]? :=by
 unfold World.cells? at h;split at h
 .have hl:=mapM_some_length h;simp at hl;refine⟨hl,λi f=>?_⟩;have H:=mapM_some_get h i i (by simp[f]);have A:(a.add i).spot=none:=by
   cases Q:(a.add i).spot with
   |none=>rfl
   |some s=>
    simp[World.cell?]at H
    grind
  have e:a.add i=⟨a.block,a.off+i,none⟩:=by
   unfold Addr.add at A |-;split
   .rename_i j;cases a
    simp_all
   rfl
  grind
 cases h
theorem as3{r:TypeId->List Value->Option (DataW H×List MemPlace)}(ih:∀t D x,lO P n t->r t D=some x->u6 N x.1->∃v,lz P N n t v/\eL w (λ_=>False) v D){D:List Value}{T:Nat}(ht:I D=T):
  ∀(fs:List Field) (O:Nat) (L:List (DataW H×List MemPlace)),AA P O T fs->(∀f∈fs,lO P n f.type)->
   fs.mapM (λf=>r f.type ((D.drop f.offset).take (P.cellsOf f.type)))=some L->(∀x∈L,u6 N x.1)->O<=T->(∀f∈fs,∀c x,r f.type c=some x->∀v,lz P N n f.type v->eL w (λ_=>False) v c->True)->
   ∃m:dI,I m=I fs/\(∀(i:Nat) (f:Field) (x:dW),fs[i]?=some f->m[i]?=some x->lz P N n f.type x)/\(eL w (λ_=>False) m.flatten (D.drop O)):=by
 intro fs
 induction fs with
 |nil=>
  intro O L z _ _ _ R _;simp only[AA]at z;have:=yZ z;refine⟨[],rfl,λi f x h=>by simp at h,?_⟩;have:D.drop O=[]:=by rw[List.drop_eq_nil_iff];omega
  rw[this];exact⟨rfl,λj x u h=>by simp at h⟩
 |cons f fs E=>
  intro O L z ho Q hf R hT;simp only[AA,cP]at z;rw[List.mapM_cons]at Q;simp only[Option.bind_eq_bind,Pl,Option.pure_def,iW]at Q;obtain⟨x,hx,X,Kh,rfl⟩:=Q;obtain⟨v,p1,Y⟩:=ih _ _ _ (ho f aE) hx (hf x aE);have Z:=Y.1;by_cases B:O+P.cellsOf f.type<=T
  .obtain⟨m,q1,q2,q3⟩:=E (O+P.cellsOf f.type) X z.2 (λg hg=>ho g (by simp[hg])) Kh (λy A=>hf y (by simp[A])) B (λ_ _ _ _ _ _ _ _=>trivial);refine⟨v::m,by simp[q1],λi g y M A=>?_,?_⟩
   .cases i with
    |zero=>simp at M A;subst M A;exact p1
    |succ i=>exact q2 i g y (by simpa using M) (by simpa using A)
   have:D.drop O=(D.drop f.offset).take (P.cellsOf f.type)++D.drop (O+P.cellsOf f.type):=by grind [yZ,KS,jS]
   rw[this];simp only[xX];exact eL.append Y q3
  exfalso;have mono:∀(l:List Field) (o:Nat),AA P o T l->o<=T:=by
   intro l
   induction l with
   |nil=>intro o h;simp only[AA]at h;have:=yZ h;omega
   |cons g l F=>intro o h;simp only[AA,cP]at h;have:=F _ h.2;omega
  exact B (mono _ _ z.2)
theorem aws{f:Nat->Value}:∀(y:dI) (R:List (List Value)) (k:Nat),I R=I y->(∀(i:Nat) (e:dW) (v:List Value),y[i]?=some e->R[i]?=some v->eL w (λ_=>False) e v/\I v=sz/\ ∀j u,v[j]?=some u->f ((k+i)*sz+j)=u)->
  ∀(j:Nat) (x:PV),y.flatten[j]?=some x->dh w (λ_=>False) x (f (k*sz+j)):=by
 intro y
 induction y with
 |nil=>intro R k _ _ j x h;simp at h
 |cons e y F=>
  intro R k hl h j x H;cases R with
  |nil=>simp at hl
  |cons v R=>
   obtain⟨A,D,L⟩:=h 0 e v rfl rfl;have dR:I e=sz:=by rw[<-D];exact A.1.symm
   simp at H;by_cases B:j<I e
   .rw[s8 B]at H;have m:v[j]?=some v[j]:=by simp[show j<I v by omega]
    have:=L j _ m;simp at this;rw[this];exact A.2 j x _ H m
   rw[qQ J]at H;have:=F R (k+1) (by simpa using hl) (λi e' n E z=>by have:=h (i+1) e' n (by simpa using E) (by simpa using z);rw[show k+(i+1)=k+1+i by omega]at this;exact this) (j-I e) x H
   grind
theorem aqD:∀(n F:Nat) (t:TypeId) (D:List Value) (x:DataW H×List MemPlace),lO P n t->DataW.trod enc P w base sp held F t D=some x->u6 N x.1->
  ∃X,lz P N n t X/\eL w (λ_=>False) X D:=by
 intro n
 induction n with
 |zero=>intro F t D x h;simp[lO]at h
 |succ n ih=>
  intro F t D x aF h hf;cases F with
  |zero=>simp[DataW.trod]at h
  |succ F=>
   rw[DataW.trod_step]at h;have one:∀ {p:PV}{v:Value},dh w (λ_=>False) p v->eL w (λ_=>False) [p] [v]:=by
    intro p v hp;refine⟨rfl,λj x u a b=>?_⟩;cases j with
    |zero=>simp at a b;subst a b;exact hp
    |succ j=>simp at a
   unfold DataW.trodStep at h;unfold lO at aF;split at h
   case h_1 b A=>exact⟨[.bool b],by simp only[lz,A];exact⟨b,rfl⟩,one (.bool b)⟩
   case h_2 k k' z A=>
    split at h
    .rename_i R;obtain⟨rfl,ab⟩:=R;exact⟨[.int k' z],by simp only[lz,A];exact⟨z,rfl,ab⟩,one (.int k' z)⟩
    cases h
   case h_4 s A=>
    split at h
    .cases h;cases hf with
     |str _ ae=>exact⟨[.str s],by simp only[lz,A];exact⟨s,rfl,by simpa using ae⟩,one (.str s)⟩
     |lit _ ae=>exact(ae _ rfl).elim
    cases h
   case h_7 e A=>exact⟨[.sl []],by simp only[lz,A];exact⟨[],rfl,bZ _,λx m=>by simp at m⟩,one (.A3 none 0 (λ_=>rfl) (bZ _))⟩
   case h_8 e a len T A=>
    rw[A]at aF;simp only[cP]at aF;obtain⟨jD,ac⟩:=aF;have jD:0<P.cellsOf e:=by have:=jD;simp[Nat.blt]at this;omega
    simp only at h;split at h
    .rename_i R;obtain⟨hb,CF,wP⟩:=R;simp only[gv,Pl]at h;obtain⟨elems,he,av,az,rfl⟩:=h;have am:I elems=len:=by simpa using mapM_some_length he
     cases hf with
     |slice _ _ hl Qe=>
     simp only[cg]at hl;have get:∀i,i<len->∃ap row pv,elems[i]?=some ap/\w.cells? base (a.add (i*P.cellsOf e)) (P.cellsOf e)=some row/\lz P N n e pv/\eL w (λ_=>False) pv row:=by intro i B;have hg:=mapM_some_get he i i (by simp[B]);have aw:i<I elems:=J;rw[tH aw]at hg;simp only[Pl]at hg;obtain⟨row,E,O⟩:=hg;obtain⟨pv,p1,p2⟩:=ih _ _ _ _ ac O (Qe _ (ch.2 ⟨_,ZV aw,rfl⟩));exact⟨_,row,pv,tH aw,E,p1,p2⟩
     cases sQ:len with
     |zero=>refine⟨[.sl []],by simp only[lz,A];exact⟨[],rfl,bZ _,λx m=>by simp at m⟩,one (.A3 (some a) T (λh=>by cases h) wP)⟩
     |succ aM=>
      rw[<-sQ];obtain⟨_,ar,_,_,MH,_⟩:=get 0 J;have ha:a=⟨a.block,a.off,none⟩:=by
       have E:a.add 0=a:=by unfold Addr.add;rw[aD rfl]
       rw[DE,E]at MH;have:=((am5 MH).2 0 jD).1;rwa[E]at this
      have ZF:∀i,i<len->∃row pv,I row=P.cellsOf e/\(∀j,j<P.cellsOf e->w.cell? ⟨a.block,a.off+(i*P.cellsOf e+j),none⟩=row[j]?)/\lz P N n e pv/\eL w (λ_=>False) pv row:=by
       intro i B;obtain⟨_,row,pv,_,E,O,h3⟩:=get i B;obtain⟨l1,l2⟩:=am5 E;refine⟨row,pv,l1,λj hj=>?_,O,h3⟩;have:=(l2 j hj).2;rw[<-this];have e2:a.add (i*P.cellsOf e)=⟨a.block,a.off+i*P.cellsOf e,none⟩:=by
        rw[ha];unfold Addr.add;split
        .rename_i h9;rw[h9];rfl
        rfl
       rw[e2];simp[AH]
      let row:Nat->List Value:=λi=>if h:i<len then(ZF i h).choose else []
      let pv:Nat->dW:=λi=>if h:i<len then(ZF i h).choose_spec.choose else []
      have Y:∀i,i<len->I (row i)=P.cellsOf e/\(∀j,j<P.cellsOf e->w.cell? ⟨a.block,a.off+(i*P.cellsOf e+j),none⟩=(row i)[j]?)/\lz P N n e (pv i)/\eL w (λ_=>False) (pv i) (row i):=by intro i B;simp only[row,pv,dif_pos B];exact(ZF i B).choose_spec.choose_spec
      let y:=(List.range len).map pv
      have Z:I y=len:=by simp[y]
      have FU:∀(i:Nat) (x:dW),y[i]?=some x->i<len/\x=pv i:=by
       intro i x m;have B:i<len:=by rw[<-Z];exact(bt.1 m).1
       refine⟨B,?_⟩;simp only[y,fz,tX B,wy,iW]at m;exact m.symm
      let f:Nat->Value:=λj=>(w.cell? ⟨a.block,a.off+j,none⟩).getD undef
      refine⟨[.sl y],?_,one ?_⟩
      .simp only[lz,A];refine⟨y,rfl,J,λx m=>?_⟩;obtain⟨i,B⟩:=fK m;obtain⟨E,rfl⟩:=FU i x B;exact(Y i E).2.2.1
      rw[ha];have Q:∀x∈y,I x=P.cellsOf e:=by intro x m;obtain⟨i,B⟩:=fK m;obtain⟨E,rfl⟩:=FU i x B;have:=(Y i E).2.2.2.1;rw[<-this];exact(Y i E).1
      have fD:=aws (f:=f) y ((List.range len).map row) 0 (by simp[Z]) (λi x v E O=>by obtain⟨B,rfl⟩:=FU i x E;simp only[fz,tX B,wy,iW]at O;subst O;obtain⟨s1,s2,y9,Cz⟩:=Y i B;refine⟨Cz,s1,λj u A=>?_⟩;simp only[f,jN];rw[s2 j (by rw[<-s1];exact(bt.1 A).1),A];rfl)
      simp only[DE,jN]at fD;have rU:∀(l:dI),(∀x∈l,I x=P.cellsOf e)->I l.flatten=I l*P.cellsOf e:=by
       intro l
       induction l with
       |nil=>intro _;simp
       |cons x l ad=>intro m;simp only[xX,gb,fP];rw[m x aE,ad (λap hy=>m ap (by simp[hy])),ld];omega
      refine Z▸dh.sl a.block a.off T (P.cellsOf e) f (λ_ h=>h) J wP Q (λj x m=>?_) fD;have hj:j<len*P.cellsOf e:=by have:=(bt.1 m).1;rwa[rU y Q,Z]at this
      obtain⟨s1,s2,y9,Cz⟩:=Y _ (Nat.div_lt_of_lt_mul (by rw[TF];exact hj));have hm:j%P.cellsOf e<P.cellsOf e:=cT _ jD;have:=s2 _ hm;rw[show j/P.cellsOf e*P.cellsOf e+j%P.cellsOf e=j by rw[TF];exact V_ j _]at this;have ZI:(row (j/P.cellsOf e))[j%P.cellsOf e]?=some (row (j/P.cellsOf e))[j%P.cellsOf e]:=by simp[s1,hm]
      rw[ZI]at this;simp only[f,this,nM]
    cases h
   case h_9=>
    rename_i fs A;rw[A]at aF;simp only[cP]at aF;split at h
    .rename_i R;simp only[gv]at h;obtain⟨L,m,rfl⟩:=h;cases hf with
     |agg _ Qe=>
     obtain⟨M,p1,p2,p3⟩:=as3 (λt D x E O h3=>ih _ _ _ _ E O h3) R fs.toList 0 L aF.1 (λf hf=>j4.1 aF.2 f hf) m (λap hy=>Qe _ (ch.2 ⟨ap,hy,rfl⟩)) (bZ _) (λ_ _ _ _ _ _ _ _=>trivial);refine⟨M.flatten,by simp only[lz,A];exact⟨M,rfl,p1,p2⟩,?_⟩
     simpa using p3
    cases h
   all_goals(first|(cases h;done)|(simp_all;done)|(exfalso;simp_all;done))
end
end
variable {H:Type} {enc:TypeId×Value->H} {P:Program} {w:World} {N:Nat}
theorem azP:∀(fs:List Field) (O T:Nat),AA P O T fs->T=O+(fs.map λf=>P.cellsOf f.type).sum/\ ∀(j:Nat) (f:Field),fs[j]?=some f->f.offset=O+((fs.take j).map λf=>P.cellsOf f.type).sum:=by
 intro fs
 induction fs with
 |nil=>intro O T h;simp only[AA]at h;have:=yZ h;exact⟨by simp;omega,λj f h=>by simp at h⟩
 |cons f fs m=>
  intro O T h;simp only[AA,cP]at h;have n:=yZ h.1;obtain _:=m _ _ h.2;refine⟨by simp;omega,λj g H=>?_⟩;cases j with
  |zero=>simp at H;subst H;simp;omega
  |succ j=>grind
theorem awp:Kids P (λt=>∃n,lO P n t):=by
 have un:∀ {t:TypeId},(∃n,lO P n t)->∃n,lO P (n+1) t:=by
  rintro t ⟨n,h⟩
  cases n with
  |zero=>simp[lO]at h
  |succ n=>exact⟨n,h⟩
 refine⟨λf H=>?_,λf H=>?_,λf H=>?_,λf H=>?_,λf H=>?_⟩
 .obtain⟨n,h⟩:=un f;simp[lO,H]at h
 .obtain⟨n,h⟩:=un f;simp[lO,H,cP]at h;exact⟨n,h.2⟩
 .obtain⟨n,h⟩:=un f;simp[lO,H]at h
 .obtain⟨n,h⟩:=un f;simp only[lO,H,cP]at h;obtain _:=azP _ _ _ h.1
  grind
 obtain⟨n,h⟩:=un f;simp[lO,H]at h
theorem auy{t:TypeId}{d:DataW H}{ps:List MemPlace}(j:∃n,lO P n t)(h:DataW.Trod enc P w 0 (λ_=>true) true t v d ps)
  (L:∀p∈ps,w.sameAt w' p) (ae:∀p∈ps,KO p.block):DataW.Trod enc P w' 0 KO true t v d ps:=by
 obtain⟨f,h⟩:=h;refine⟨f,DataW.trod_stays awp ?_ (λh=>by cases h) j h L ae⟩;rintro t e ⟨n,h⟩ m
 cases n with
 |zero=>simp[lO]at h
 |succ n=>
  simp[lO,m,cP]at h
  simp_all
theorem axw:∀ {ts:List TypeId}{h:List Value}{D:List (DataW H)}{ps:List MemPlace},(∀t∈ts,∃n,lO P n t)->DataW.TrodAll enc P w 0 (λ_=>true) true ts h D ps->
  (∀p∈ps,w.sameAt w' p)->(∀p∈ps,KO p.block)->DataW.TrodAll enc P w' 0 KO true ts h D ps:=by
 intro ts
 induction ts with
 |nil=>intro h D ps _ u _ _;cases h<;>cases D<;>exact u
 |cons t ts B=>
  intro h D ps m u y j;cases h with
  |nil=>exact u.elim
  |cons v h=>
   cases D with
   |nil=>exact u.elim
   |cons d D=>obtain⟨p,q,E,z,rfl⟩:=u;exact⟨p,q,auy (m t aE) E (λx f=>y x (by simp[f])) (λx f=>j x (by simp[f])),B (λt A=>m t (by simp[A])) z (λx f=>y x (by simp[f])) (λx f=>j x (by simp[f])),rfl⟩
def Dc(P:Program)(t:TypeId)(ps:dW):V:=
 match P.underlying t with
 |some (.struct _)=>.agg (ps.map .p)
 |_=>match ps with
  |[x]=>.one (.p x)
  |_=>.undef
theorem ao2{r:Reach}{t:TypeId}{d:DataW H}{ps:List MemPlace}(B:lO P n t)(f:Value.okWide P w r b0 t v)(h:DataW.Trod enc P w 0 sp held t v d ps)(hf:u6 N d):
  ∃m,lz P N n t m/\u9 w (λ_=>False) (Dc P t m) v:=by
 obtain⟨F,h⟩:=h;obtain⟨m,u,A⟩:=aqD n F t _ _ B h hf;refine⟨m,u,?_⟩;cases n with
 |zero=>simp[lO]at B
 |succ n=>
  have one:∀x:PV,m=[x]->(∀D,v≠ .agg D)->dh w (λ_=>False) x v:=by
   rintro x rfl L
   have:v.cells.toList=[v]:=by
    cases v<;>first
     |rfl
     |exact(L _ rfl).elim
   rw[this]at A;exact A.2 0 x v rfl rfl
  have j:∀ {k:TypeDesc},P.underlying t=some k->(∀fs,k≠ .struct fs)->(∀a b,k≠ .array a b)->∀D,v≠ .agg D:=by
   rintro k z M O D rfl
   unfold Value.okWide at f;rw[z]at f;cases k<;>simp_all[Cell.okWide,Cell.ok]
  simp only[lz]at u;unfold Dc;cases z:P.underlying t with
  |none=>rw[z]at u;exact u.elim
  |some k=>
   rw[z]at u;cases k<;>simp only at u<;>try exact u.elim
   case bool=>obtain⟨b,rfl⟩:=u;exact one _ rfl (j z aE aE)
   case int k=>obtain⟨b,rfl,_⟩:=u;exact one _ rfl (j z aE aE)
   case string=>obtain⟨b,rfl,_⟩:=u;exact one _ rfl (j z aE aE)
   case slice e=>obtain⟨y,rfl,_⟩:=u;exact one _ rfl (j z aE aE)
   case struct fs=>unfold Value.okWide at f;rw[z]at f;obtain⟨D,rfl,E,_⟩:=f;exact⟨D,m,rfl,rfl,A⟩
def Rw(P:Program)(N n:Nat):List TypeId->dI->Prop
 |[],[]=>True
 |t::ts,p::ps=>lz P N n t p/\Rw P N n ts ps
 |_,_=>False
def Dt(P:Program):List TypeId->dI->dZ
 |t::ts,p::ps=>Dc P t p::Dt P ts ps
 |_,_=>[]
theorem ayw{r:Reach}:∀ {ts:List TypeId}{h:List Value}{D:List (DataW H)}{ps:List MemPlace},(∀t∈ts,lO P n t)->(∀(j:Nat) t v,ts[j]?=some t->h[j]?=some v->Value.okWide P w r b0 t v)->
  DataW.TrodAll enc P w 0 sp held ts h D ps->(∀d∈D,u6 N d)->∃f,Rw P N n ts f/\Pw (u9 w (λ_=>False)) (Dt P ts f) h:=by
 intro ts
 induction ts with
 |nil=>
  intro h D ps _ _ z _;cases h with
  |nil=>exact⟨[],trivial,rfl,λj x u z=>by simp[Dt]at z⟩
  |cons v h=>cases D<;>exact z.elim
 |cons t ts Z=>
  intro h D ps A B z hf;cases h with
  |nil=>exact z.elim
  |cons v h=>
   cases D with
   |nil=>exact z.elim
   |cons d D=>
    obtain⟨p,q,T,O,rfl⟩:=z;obtain⟨x,X,Y⟩:=ao2 (A t aE) (B 0 t v rfl rfl) T (hf d aE);obtain⟨L,M,b2,R⟩:=Z (λt Q=>A t (by simp[Q])) (λj t v E m=>B (j+1) t v (by grind) (by grind)) O (λd F=>hf d (by simp[F]));refine⟨x::L,⟨X,M⟩,by simpa [Dt]using b2,λj y u E m=>?_⟩;cases j with
    |zero=>simp[Dt]at E m;subst E m;exact Y
    |succ j=>exact R j y u (by simpa [Dt]using E) (by grind)
open Go.RowKit
theorem jv.auo{w:World}(h:Below w.heap.size w w'):jv w w':=⟨h.os,h.tape,h.output,h.size,h.block⟩
theorem jv.aiR(w:World)(k:Nat)(os:Array Obj):jv w (Go.Sort.grow (w.drewN k) os):=
 ⟨rfl,rfl,rfl,by simp[Go.Sort.grow,World.drewN],λc h=>by simp[Go.Sort.grow,World.drewN,Array.getElem?_append,h]⟩
theorem J4{w:World}{x:PV}(f:jv w w')(h:dh w' O x v):zV w O (.one (.p x)) (.returned v) w':=
 ⟨v,[],rfl,f,qK,λc j=>by simp at j,[v],rfl,v,[],rfl,h.mono λc _ m=>⟨rfl,λH=>m (H.elim id λh=>by simp at h)⟩,rfl,rfl⟩
theorem X_{w:World}{x:PV}(h:Pw (u9 w O) [.one (.p x)] T.toList):∃v,T= #[v]/\dh w O x v:=by
 obtain⟨f,H⟩:=h;obtain⟨l⟩:=T
 match l,f with
 |[v],_=>exact⟨v,rfl,H 0 _ v rfl rfl⟩
theorem aza{w:World}{x y:PV}(h:Pw (u9 w O) [.one (.p x),.one (.p y)] T.toList):∃v u,T= #[v,u]/\dh w O x v/\dh w O y u:=by
 obtain⟨f,H⟩:=h;obtain⟨l⟩:=T
 match l,f with
 |[v,u],_=>exact⟨v,u,rfl,H 0 _ v rfl rfl,H 1 _ u rfl rfl⟩
theorem ahc{w:World}(h:dh w O (.sl []) v):∃a f,v=.slice a 0 f/\(a=none->f=0)/\f<=maxLen:=by
 generalize H:PV.sl []=x at h;cases h<;>cases H
 .exact⟨_,_,rfl,by assumption,by assumption⟩
 exact⟨_,_,rfl,λh=>by simp at h,by assumption⟩
theorem ala{w:World}{a:Option Addr}{f:Nat}(h:a=none->f=0)(H:f<=maxLen):dh w O (.sl []) (.slice a 0 f):=.A3 a f h H
def J6:Nat->Nat->BX->BX
 |0,_,A=>A
 |k+1,u,A=>bif Nat.blt u 10 then UInt8.ofNat (Nat.add 48 u)::A else J6 k (Nat.div u 10) (UInt8.ofNat (Nat.add 48 (Nat.mod u 10))::A)
theorem amP:∀(k u:Nat) (A:BX),u<10 ^ (k+1)->J6 (k+1) u A=Lib.decDigits u++A:=by
 intro k
 induction k with
 |zero=>
  intro u A h;have h:u<10:=by simpa using h
  unfold Lib.decDigits;have H:Nat.blt u 10:=abV h;simp only[J6,H,cond_true,dif_pos h];rfl
 |succ k j=>
  intro u A h;rw[Lib.decDigits,J6];by_cases f:u<10
  .have H:Nat.blt u 10:=abV f;simp only[H,cond_true,dif_pos f];rfl
  have H:Nat.blt u 10=false:=by
   cases e:Nat.blt u 10 with
   |false=>rfl
   |true=>exact(f (ju e)).elim
  simp only[H,cond_false,dif_neg f];have:(Nat.div u 10)<10 ^ (k+1):=by have e:Nat.div u 10=u/10:=rfl;rw[e];have:10 ^ (k+1+1)=10 ^ (k+1)*10:=Nat.pow_succ ..;omega
  rw[j _ _ this];simp only[lf,List.singleton_append];rfl
def aa9(n:Int):ByteArray:=⟨(match n with| .ofNat u=>J6 20 u []| .negSucc u=>45::J6 20 (Nat.succ u) []).toArray⟩
theorem azy(n:Int)(H: -9223372036854775808<=n)(h:n<=9223372036854775807):aa9 n=⟨(Lib.itoa n).toArray⟩:=by
 unfold aa9 Lib.itoa;cases n with
 |ofNat u=>have:¬(Int.ofNat u<0):=aE;rw[aC this];simp only;rw[amP 19 u [] (by simp at h;omega)];simp
 |negSucc u=>have:Int.negSucc u<0:=Int.negSucc_lt_zero u;rw[aD this];simp only;rw[amP 19 (Nat.succ u) [] J];simp[Int.natAbs]
def strs:dI->Option (List ByteArray)
 |[]=>some []
 |[.str s]::r=>(strs r).map (s:: ·)
 |_::_=>none
theorem aoG:∀ {y:dI}{L:List ByteArray},strs y=some L->y=L.map λs=>[PV.str s]:=by
 intro y
 induction y with
 |nil=>intro L h;simp[strs]at h;subst h;rfl
 |cons e y f=>
  intro L h;unfold strs at h;split at h
  .rename_i H;cases H
  .rename_i s r H;cases H;simp only[gv]at h;obtain⟨ys,j,rfl⟩:=h;simp[f j]
  cases h
def KA(f:BX):List ByteArray->BX
 |[]=>[]
 |[s]=>s.data.toList
 |s::r=>s.data.toList++(f++KA f r)
theorem ajH(f:BX):∀L:List ByteArray,KA f L=Lib.join (L.map (·.data.toList)) f:=by
 intro L;unfold Lib.join
 induction L with
 |nil=>rfl
 |cons s r h=>
  cases r with
  |nil=>simp[KA,List.intercalate]
  |cons j r=>simp only[KA,eZ]at h |-;rw[h];simp[List.intercalate,List.intersperse]
def aad(T:dZ):Option RV:=
 match T with
 |[.one (.p (.int .i64 n))]=>if -9223372036854775808<=n/\n<=9223372036854775807 then some (.one (.p (.str (aa9 n))))else none
 |_=>none
theorem avl{P:Program}{N:String}{G:World->Prop}{T:dZ}{r:RV}(hG:∀w,G w->Lib.TabIs P w N .u64 Lib.pow10Tab)
  (hf:∀(n:Int),-9223372036854775808<=n->n<=9223372036854775807->∀w:World,Lib.TabIs P w N .u64 Lib.pow10Tab->Calls P f #[.int .i64 n] w λe w'=>e=.returned (.string ⟨(Lib.itoa n).toArray⟩)/\ ∃k os,w'=Go.Sort.grow (w.drewN k) os)
  (h:aad T=some r):∀(w:World) (O:Nat->Prop) (as:Array Value),Good G w->Pw (u9 w O) T as.toList->Calls P f as w (zV w O r):=by
 intro w O as H m;unfold aad at h;split at h
 .rename_i n;split at h
  .rename_i hr;cases h;obtain⟨v,rfl,hp⟩:=X_ m;generalize j:PV.int .i64 n=x at hp;cases hp<;>cases j
   refine(hf n hr.1 hr.2 w (hG w H.1)).mono ?_;rintro e w' ⟨rfl,k,os,rfl⟩
   rw[azy n hr.1 hr.2];exact J4 (jv.aiR _ _ _) (.str _)
  cases h
 cases h
def acI(T:dZ):Option RV:=
 match T with
 |[.one (.p (.sl y)),.one (.p (.str f))]=>match strs y with
  |some L=>if I L<=140737488355328/\I (KA f.data.toList L)<=140737488355328 then some (.one (.p (.str ⟨(KA f.data.toList L).toArray⟩)))else none
  |none=>none
 |_=>none
theorem avm{P:Program}{T:dZ}{r:RV}
  (R:∀(a:Option Addr) (c:Nat) (m:ByteArray) (w:World),Calls P f #[.slice a 0 c,.string m] w λe w'=>e=.returned (.string ⟨#[]⟩)/\w'=w)
  (hf:∀(E o c:Nat) (L:List ByteArray) (m:ByteArray) (w:World),(∀(j:Nat) x,L[j]?=some x->w.cell? ⟨E,o+j,none⟩=some (.string x))->E<w.heap.size->I L<=140737488355328->I L<=c->
   I (Lib.join (L.map (·.data.toList)) m.data.toList)<=140737488355328->Calls P f #[.slice (some ⟨E,o,none⟩) (I L) c,.string m] w λe w'=>e=.returned (.string ⟨(Lib.join (L.map (·.data.toList)) m.data.toList).toArray⟩)/\Below w.heap.size w w')
  (h:acI T=some r):∀(w:World) (O:Nat->Prop) (as:Array Value),Pw (u9 w O) T as.toList->Calls P f as w (zV w O r):=by
 intro w O as ha;unfold acI at h;split at h
 .rename_i y m;split at h
  .rename_i L X;split at h
   .rename_i hl;cases h;obtain⟨v,u,rfl,hp,N⟩:=aza ha;have hu:u=.string m:=by
     generalize A:PV.str m=x at N;cases N<;>cases A
     rfl
    subst hu;have F:=aoG X;cases L with
    |nil=>
     simp at F;subst F;obtain⟨a,n,rfl,_,_⟩:=ahc hp;refine(R a n m w).mono ?_;rintro e w' ⟨rfl,rfl⟩
     exact J4 (jv.refl _) (.str _)
    |cons s r=>
     generalize A:PV.sl y=x at hp;cases hp with
     |A3 a n M D=>cases A;simp at F
     | @sl ik b o n sz g ho B hm Y hc hr=>
      cases A;have rU:y.flatten=(s::r).map PV.str:=by
       rw[F];have:∀l:List ByteArray,(l.map λs=>[PV.str s]).flatten=l.map PV.str:=by
        intro l
        induction l with
        |nil=>rfl
        |cons a l ih=>simp[ih]
       exact this _
      have z:I y=I (s::r):=by rw[F];simp
      have H:∀(j:Nat) x,(s::r)[j]?=some x->w.cell? ⟨b,o+j,none⟩=some (.string x):=by
       intro j x hj;have M:y.flatten[j]?=some (.str x):=by rw[rU,fz,hj];rfl
       have D:=hr j _ M;rw[hc j _ M];generalize Z:PV.str x=ac at D;generalize ab:g j=gj at D;cases D<;>cases Z
       rfl
      rw[z]at B |-;refine(hf b o n (s::r) m w H (WS (H 0 s rfl)) hl.1 B (by rw[<-ajH];exact hl.2)).mono ?_;rintro e w' ⟨rfl,Q⟩
      rw[ajH];exact J4 (jv.auo Q) (.str _)
     |_=>cases A
   cases h
  cases h
 cases h
def Ox(T:dZ):Option RV:=
 match T with
 |[.one (.p (.int .u64 n))]=>if 0<=n/\n<=18446744073709551615 then some (.one (.p (.int .i64 (Lib.bitLen n.toNat))))else none
 |_=>none
theorem avj{P:Program}{T:dZ}{r:RV}(hf:∀(x:Int) (w:World),0<=x->x<=18446744073709551615->Calls P f #[.int .u64 x] w λe w'=>e=.returned (.int .i64 (Lib.bitLen x.toNat))/\w'=w)
  (h:Ox T=some r):∀(w:World) (O:Nat->Prop) (as:Array Value),Pw (u9 w O) T as.toList->Calls P f as w (zV w O r):=by
 intro w O as j;unfold Ox at h;split at h
 .rename_i n;split at h
  .rename_i hr;cases h;obtain⟨v,rfl,hp⟩:=X_ j;generalize H:PV.int .u64 n=x at hp;cases hp<;>cases H
   refine(hf n w hr.1 hr.2).mono ?_;rintro e w' ⟨rfl,rfl⟩
   exact J4 (jv.refl _) (.int _ _)
  cases h
 cases h
def Vz(T:dZ):Option (Option RV):=
 match T with
 |[.one (.p (.sl []))]=>some (some (.one (.p (.sl []))))
 |_=>none
theorem avk{S:Sys}{G:World->Prop}(hS:Lj S G){z i g Z:Nat}{fn:aZ}(hfn:S.fns f=some fn)(h1:kB S n f [.one (.p .nils)]=some (.one (.p .nils)))
  (L:jw S n f [.one (.hsl 0 0 z 0 0)] .all Bc=some (.one (.hsl i g Z 0 0),F)) {T:dZ}{r:RV} (H:Vz T=some (some r)):
  ∀(w:World) (O:Nat->Prop) (as:Array Value),Good G w->(∀c,O c->c<w.heap.size)->Pw (u9 w O) T as.toList->Calls S.P f as w (zV w O r):=by
 intro w O as B A Y;unfold Vz at H;split at H
 .cases H;obtain⟨v,rfl,hp⟩:=X_ Y;obtain⟨a,m,rfl,hn,hm⟩:=ahc hp;cases a with
  |none=>
   obtain rfl:=hn rfl;refine((sound hS n).1 f _ _ h1 |>.2 w O #[.slice none 0 0] B A ⟨rfl,λj x u p q=>?_⟩).mono ?_
   .cases j with
    |zero=>simp at p q;subst p q;exact dh.nils
    |succ j=>simp at p
   rintro e w' ⟨val,bs,rfl,Ao,fN,uG,h,D,Q⟩
   obtain⟨v0,pY,X,N,e3,e4⟩:=Q;have y:h=[val]:=D;subst y;cases X;subst e4;cases N;exact J4 Ao (ala (λ_=>rfl) (bZ _))
  |some a=>
   let M:a_:=⟨w,Bc,λ_=>0,λ_=>0,O⟩
   have aF:ez w M:=⟨rfl,rfl,rfl,cJ _,λ_ _=>rfl,(λid o H=>by cases H),(λid o H=>by cases H),A,(λid gI o o' H=>by cases H)⟩;refine(((sound hS n).2.1 f _ _ _ _ _ L).2 w M #[.slice (some a) 0 m] B aF rfl ⟨rfl,λj x u p q=>?_⟩).mono ?_
   .cases j with
    |zero=>simp at p q;subst p q;exact gh.hsl a m (bZ _) (bZ _) hm (λsz _ H=>by cases H)
    |succ j=>simp at p
   rintro e w' ⟨val,m',rfl,rfl,D,Q,q3,q4,R⟩
   have hq:gh m' (.hsl i g Z 0 0) val:=R;cases hq with
   |hsl a2 E _ _ qu _=>
    refine J4 ⟨Q.os,Q.tape,Q.output,Q.size,λc hc=>Q.keep c hc ?_⟩ (ala (λH=>by cases H) qu);rintro⟨id,o,H,_⟩
    cases H
 cases H
open Go.RowKit Go.WideShapes Go.ChangeShapes
section
variable {H:Type} {enc:TypeId×Value->H} {P:Program} {w:World} {base:Nat} {sp:Nat->Bool} {held:Bool}
theorem ao6:∀(n F:Nat) (t:TypeId) (D:List Value) (x:DataW H×List MemPlace),lO P n t->DataW.trod enc P w base sp held F t D=some x->u6 maxLen x.1:=by
 intro n
 induction n with
 |zero=>intro F t D x h;simp[lO]at h
 |succ n B=>
  intro F t D x aF h;cases F with
  |zero=>simp[DataW.trod]at h
  |succ F=>
   rw[DataW.trod_step]at h;unfold DataW.trodStep at h;unfold lO at aF;split at h
   case h_1=>cases h;exact .lit _ (λs h=>by cases h)
   case h_2=>
    split at h
    .cases h;exact .lit _ (λs h=>by cases h)
    cases h
   case h_4=>
    split at h
    .rename_i ae;cases h;exact .str _ (by simpa using ae)
    cases h
   case h_7=>cases h;exact .nil
   case h_8 e a len M v=>
    rw[v]at aF;simp at aF;split at h
    .rename_i Q;simp only[gv,Pl]at h;obtain⟨elems,A,R,O,rfl⟩:=h;have z:I elems=len:=by simpa using mapM_some_length A
     refine .slice _ _ (by simp;omega) (λd m=>?_);obtain⟨y,u,rfl⟩:=ch.1 m;obtain⟨i,_,j⟩:=mapM_mem_of A y u;simp only[Pl]at j;obtain⟨row,_,E⟩:=j;exact B _ _ _ _ aF.2 E
    cases h
   case h_9=>
    rename_i fs v;rw[v]at aF;simp only[cP]at aF;split at h
    .simp at h;obtain⟨L,N,rfl⟩:=h;refine .agg _ (λd m=>?_);obtain⟨y,u,rfl⟩:=ch.1 m;obtain⟨f,hf,j⟩:=mapM_mem_of N y u;exact B _ _ _ _ (j4.1 aF.2 f hf) j
    cases h
   all_goals(first|(cases h;done)|(simp_all;done)|(exfalso;simp_all;done))
theorem amT:∀ {ts:List TypeId}{h:List Value}{D:List (DataW H)}{ps:List MemPlace},(∀t∈ts,lO P n t)->DataW.TrodAll enc P w base sp held ts h D ps->(∀d∈D,u6 maxLen d)/\I D=I ts:=by
 intro ts
 induction ts with
 |nil=>
  intro h D ps _ u;cases h<;>cases D<;>first
   |exact u.elim
   |exact⟨λd y=>by simp at y,rfl⟩
 |cons t ts B=>
  intro h D ps m u;cases h with
  |nil=>exact u.elim
  |cons v h=>
   cases D with
   |nil=>exact u.elim
   |cons d D=>
    obtain⟨p,q,⟨f,E⟩,z,rfl⟩:=u;obtain⟨i1,i2⟩:=B (λt A=>m t (by simp[A])) z;refine⟨λx j=>?_,by simp[i2]⟩;rcases c7.1 j with rfl|j
    .exact ao6 n f t _ _ (m t aE) E
    exact i1 x j
end
section
variable {H:Type} {enc:TypeId×Value->H} {P:Program}
theorem anV{f:Func}{s:ChangeSpec}{qf fresh:Bool}{W m:World}{D n:List (DataW H)}{u pv:List MemPlace}
  (x:DataW.Whole enc P f.params.toList s.vars qf W T.toList D n before)
  (E:∀(b:Nat) (sp:Nat->Bool) (F:Bool),DataW.TrodAll enc P m b sp F f.resultTypes.toList (v.resultList f.resultTypes.size) (s.fn H (D++n)).results [])
  (A:∀sp:Nat->Bool,(∀p∈before,sp p.block)->DataW.TrodAll enc P m 0 sp true f.params.toList T.toList (s.fn H (D++n)).args u)
  (Q:∀sp:Nat->Bool,(∀p∈before,sp p.block)->DataW.TrodVars enc P m sp s.vars (s.fn H (D++n)).vars pv)
  (L:before=u++pv) (y:Below W.heap.size W m)
  (aF:∀(j:Nat) (t:TypeId) (r:Value),f.resultTypes[j]?=some t->(v.resultList f.resultTypes.size)[j]?=some r->Value.okWide P m .any 0 t r):
  s.post enc P f qf fresh handsOn again W T v m:=by
 have z:=λp hp=>x.lt p hp;have h:∀p∈before,(λb=>decide _) p.block=true:=λp hp=>by simpa using z p hp
 refine⟨D,n,before,[],u,pv,x,E _ _ _,A _ h,Q _ h,World.keptBut_mono (λp hp=>⟨hp,?_⟩) (y.frame (· ∈before)),λ_=>?_⟩
 .grind
 obtain⟨_,_,_,_,_,M,N⟩:=x;refine⟨aF,_,_,([]++u)++pv,⟨[]++u,pv,trodAll_append (A _ (λ_ _=>rfl)) (E _ _ _),Q _ (λ_ _=>rfl),rfl,?_,?_⟩,?_⟩
 .intro b O hp;have B:MemPlace.cell b O∈before:=by rw[L];simpa using hp
  rw[y.frozen (z _ B)];exact M b O B
 .grind
 grind
end
theorem GR{P:Program}{N:Nat}{t:TypeId}{k:IntKind}{p:dW}(H:P.underlying t=some (.int k))(h:lz P N (n+1) t p):∃z,p=[.int k z]/\(Lit.int k z).wf:=by simp only[lz,H]at h;exact h
theorem arl{P:Program}{N:Nat}{t:TypeId}{p:dW}(H:P.underlying t=some .bool)(h:lz P N (n+1) t p):∃b,p=[.bool b]:=by simp only[lz,H]at h;exact h
theorem ad6{P:Program}{N:Nat}{t e:TypeId}{p:dW}(H:P.underlying t=some (.slice e))(h:lz P N (n+1) t p):∃y,p=[.sl y]/\I y<=N/\ ∀x∈y,lz P N n e x:=by simp only[lz,H]at h;exact h
theorem aqr{P:Program}{t:TypeId}{k:TypeDesc}{x:PV}(h:P.underlying t=some k)(H:∀fs,k≠ .struct fs):Dc P t [x]=.one (.p x):=by
 unfold Dc;rw[h];cases k<;>first
  |rfl
  |exact(H _ rfl).elim
theorem aAM{P:Program}{t:TypeId}{fs:Array Field}{x:dW}(h:P.underlying t=some (.struct fs)):Dc P t x=.agg (x.map .p):=by unfold Dc;rw[h]
theorem asp{S:Sys}{G:World->Prop}(hS:Lj S G)(Qg:∀w,G w->Good G w){fn:Func}{s:ChangeSpec}{N:Nat}{fresh qf:Bool}(QI:s.vars=[])
  (hfn:∀(H:Type) (D:List (DataW H)),I D=I fn.params.toList->s.fn H D={results:=[.lit (.bool true)],args:=D}) {Z:TypeId} (Ea:fn.resultTypes= #[Z]) (z:S.P.underlying Z=some .bool)
  (L:∀t∈fn.params.toList,lO S.P n t) (M:∀m,Rw S.P N n fn.params.toList m->aL S f (Dt S.P fn.params.toList m) (.one (.p (.bool true))))
  {H:Type}{enc:TypeId×Value->H}{W:World}{base:Nat}{D gs:List (DataW H)}
  (B:∀(j:Nat) t v,fn.params[j]?=some t->T[j]?=some v->Value.okWide S.P W .any base t v)
  (X:DataW.Whole enc S.P fn.params.toList s.vars qf W T.toList D gs before) (hG:G W) (E:∀d∈D,u6 N d):
  Calls S.P f T W λe Q=>∃v,e=.returned v/\s.post enc S.P fn qf fresh handsOn again W T v Q:=by
 have F:=X;obtain⟨p,q,O,hV,rfl,ab,fN⟩:=X;rw[QI]at hV;obtain⟨rfl,rfl⟩:=trodVars_none hV;obtain⟨_,u⟩:=amT L O;obtain⟨m,h1,h2⟩:=ayw L (λj t v a b=>B j t v (by simpa using a) (by simpa using b)) O E;refine((M m h1).calls hS W (Qg W hG) T h2).mono ?_;rintro e Q ⟨val,bs,rfl,A,_,_,h,q1,q2⟩
 obtain⟨v0,pY,e1,Y,e3,e4⟩:=q2;subst q1;cases e1;have hv:val=.bool true:=by
  generalize y:PV.bool true=x at Y;cases Y<;>cases y
  rfl
 subst hv;have R:Below W.heap.size W Q:=⟨A.os,A.tape,A.output,A.size,A.keep⟩;refine⟨_,rfl,anV F ?_ ?_ ?_ rfl R ?_⟩
 .intro b sp hd;rw[ic,hfn H D u,Ea];exact trodAll_cons_mk (shut_bool z _) trodAll_mk0
 .intro KO qV;rw[ic,hfn H D u];exact axw (λt ht=>⟨n,L t ht⟩) O (λx y=>R.same ((λx y=>F.lt x y) x (by grind))) (λx y=>qV x (by simpa using y))
 .intro KO qV;rw[ic,hfn H D u,QI];rfl
 exact ok_one Ea rfl (okWide_bool_mk z _)
theorem ap4(j:bJ)(t:Nat)(v:V):eQ j (some t) v=dV j t v:=rfl
theorem aBv(j:bJ)(v:V):eQ j none v=j:=rfl
theorem awN(j:bJ)(n:Nat):ev j (.t n)=j n:=rfl
theorem ani(j:bJ)(n:Int):ev j (.i n)=.one (.p (.int .i64 n)):=rfl
theorem atT(j:bJ)(x:Bool):ev j (.b x)=.one (.p (.bool x)):=rfl
theorem aqc(j:bJ)(v:V):ev j (.k v)=v:=rfl
theorem asQ(a:V)(l:dZ):tl (a::l) 0=a:=rfl
theorem axf(a:V)(l:dZ)(n:Nat):tl (a::l) (n+1)=tl l n:=rfl
def EP(v:V)(f:Bool):Option Bool:=match v with
 | .one (.p (.bool b))=>some (b==f)
 | .undef=>some false
 |_=>none
theorem avC(b f:Bool):EP (.one (.p (.bool b))) f=some (b==f):=rfl
theorem aB0(f:Bool):EP .undef f=some false:=rfl
section
variable {S:Sys} {al:cF} {o:lI} {j:bJ} {blk:aJ} {tr:gG} {ba:bJ->aJ->gG->Prop} {d:eT}
theorem ay2{id:Nat}{Q:iw}:rM id Q .normal j blk=Q .normal j blk:=rfl
theorem ar2{id:Nat}{Q:iw}:rM id Q .ret j blk=Q .ret j blk:=rfl
theorem aBP{id i:Nat}{Q:iw}:rM id Q (.exit i) j blk=if i=id then Q .normal j blk else Q (.exit i) j blk:=rfl
end
def En (S:Sys)(al:cF)(ops:fV)(Q:bJ->aJ->Prop)(j:bJ)(blk:aJ):Prop:=∀tr,rl S al ops (λj blk _=>Q j blk) j blk tr
def KC(S:Sys)(al:cF)(p:AT)(d:eT)(j:bJ)(blk:aJ)(ba:bJ->aJ->Prop):Prop:=
 match p with
 | .fail=>False
 | .done v u r=>al.jk (r++u.map (·.1))=true/\ba (eQ j d v) (app u blk)
 | .pc f h r s=>∃x,aL S f h x/\match fR blk r s (x.iA (S.lone s))with
  |some (v,u)=>al.jk (r++u.map (·.1))=true/\ba (eQ j d v) (app u blk)
  |none=>False
 | .sc f h=>al.holds (jm (S.ctx al) f h blk)=true/\ ∃v F,jQ S f h (jm (S.ctx al) f h blk) blk v F/\ba (eQ j d v) F
def RI(S:Sys)(al:cF)(w:Option Bool)(o:lI)(j:bJ)(blk:aJ)(ba:bJ->aJ->Prop):Prop:=
 match w with
 |none=>False
 |some false=>ba (eQ j o.dst .undef) blk
 |some true=>KC S al (cZ S.shared j blk o.op) o.dst j blk ba
section
variable {S:Sys} {al:cF} {j:bJ} {blk:aJ}
theorem ayP{ops:fV}{f:bJ->aJ->Prop}{tr T:gG}(h:rl S al ops (λj blk _=>R j blk) j blk tr)(H:∀e b,R e b->f e b):rl S al ops (λj blk _=>f j blk) j blk T:=by obtain⟨n,e,b,y,u,m⟩:=h;exact⟨n,e,b,y,u,H _ _ m⟩
theorem avS{ops:fV}{Q:iw}:W S al (.region false ops) Q j blk↔En S al ops (λj blk=>Q .normal j blk) j blk:=by
 rw[alr];constructor
 .intro h tr;obtain⟨n,e,b,y,f,_,H⟩:=h;exact⟨n,e,b,y,f,H⟩
 intro h;obtain⟨n,e,b,y,f,H⟩:=h [];exact⟨n,e,b,y,f,(λh=>by cases h),H⟩
theorem auK:En S al [] R j blk↔R j blk:=⟨λh=>aab.1 (h []),λh _=>aab.2 h⟩
theorem acS{o:lI}{os:fV}{w:Option Bool}(tr:gG):FJ S al w o j blk tr (rl S al os λe b _=>R e b)↔RI S al w o j blk (En S al os R):=by
 have k:∀ {e:bJ}{b:aJ}{t:gG},rl S al os (λe b _=>R e b) e b t↔En S al os R e b:=λ{e b t}=>⟨λH T=>ayP H λ_ _ H=>H,λH=>H t⟩;cases w with
 |none=>exact Iff.rfl
 |some w=>
  cases w with
  |false=>exact k (t:=tr++[⟨[],[],[]⟩])
  |true=>
   simp[FJ,RI];cases cZ S.shared j blk o.op with
   |fail=>exact Iff.rfl
   |done v u r=>simp[Ir,KC,k]
   |pc f h r s=>
    simp[Ir,KC]
    grind
   |sc f h=>simp[Ir,KC,k]
theorem adi{o:lI}{os:fV}:En S al (o::os) R j blk↔RI S al (sF j o.guard) o j blk (En S al os R):=by
 constructor
 .intro h;exact(acS []).1 (SP.1 (h []))
 intro h tr;exact SP.2 ((acS tr).2 h)
variable {o:lI} {ba:bJ->aJ->Prop} {d:eT}
end
theorem aAN:(false==true)=false:=rfl
theorem anv:(true==false)=false:=rfl
theorem azx:(false==false):=rfl
theorem aul:(true==true):=rfl
theorem axP{blk:aJ}{x:PV}:lM blk (.one (.p x))=some (.one (.p x)):=rfl
theorem aqp(k:IntKind)(n:Int):(PV.int k n).norm=.int k n:=rfl
theorem ayL(b:Bool):(PV.bool b).norm=.bool b:=rfl
theorem axG(s:ByteArray):(PV.str s).norm=.str s:=rfl
theorem axg:PV.nils.norm=.sl []:=rfl
theorem at1(y:dI):(PV.sl y).norm=.sl y:=rfl
theorem af4(y:dW):(PV.box y).norm=.box y:=rfl
theorem aAZ(f:Nat)(a b:dW):(PV.fn f a b).norm=.fn f a b:=rfl
theorem axd:PV.AP.norm=.AP:=rfl
theorem asv:PV.zD.norm=.zD:=rfl
theorem aBA:PV.tO.norm=.tO:=rfl
theorem apX(a:Bool)(e:yF):(PV.mp a e).norm=.mp a e:=rfl
theorem axh{blk:aJ}:Da blk []=some ([],[]):=rfl
def ZS(x:Option (V×aG))(y:Option (dZ×aG)):Option (dZ×aG):=match x,y with
 |some (b,x),some (B,y)=>some (b::B,x++y)
 |_,_=>none
theorem ayc{blk:aJ}:Da blk (x::L)=ZS (qD blk x) (Da blk L):=by
 simp[Da,ZS,iB]
 grind
theorem ars{b:V}{x:aG}{B:dZ}{y:aG}:ZS (some (b,x)) (some (B,y))=some (b::B,x++y):=rfl
theorem asD{blk:aJ}{x:PV}:qD blk (.one (.p x))=some (.one (.p x.norm),[]):=rfl
end Go.Abs
