/-
  Each operation of the abstract machine is what the program does; the machine is sound in any order that a region draws; a quick evaluator; library functions.
-/
import Derived.Test.YtpfkjhlcoghioaaGreatDoorMa
import Derived.Laws.BytesString
import Derived.LoopN
import Derived.Scope
import Derived.Orders
import Derived.ChangeReads
import Derived.ChangeStays
import Derived.DataReads
import Derived.Below
import Derived.Sort.Grow
import Derived.Deep.Draws
import Derived.Lib.ItoaNum
import Derived.Lib.Join
import Derived.Lib.BitFns
import Derived.Lib.LaidTab
import Derived.ChangeSame
import Derived.ProofKit
import Derived.OpenShut
set_option linter.all false
open List renaming length->I
namespace Go.Abs
variable{y:zf}{clock n f sz site nt:Nat}{v kv qv val:Value}{m:a7}{x:V}{x' k' y':fc}{z:dR}{key:PV}{ag held handsOn again:Bool}{D:sI}{A B T:Array Value}{u:lq}{L ys:dG}{R:bP->aH->Prop}{E Ll sp:Nat->Bool}{w':World}{Q Q' O:Nat->Prop}{h us:List Value}{X j ik:bP}{F cE bt b2 Jz b'':aH}{Y:lH}{ops:Array Oper}{before:List MemPlace}
variable {P:Program} {Z:World}
section
variable{ag:Bool}
def U5(w:World)(own:Nat->Prop)(ag:Bool)(y:zf)(E:Array MapEntry):Prop:=E.size=I y/\ ∀(i:Nat) (q:PV) (v:dR) (e:MapEntry),y[i]?=some (q,v)->E[i]?=some e->dd w own q e.key/\ ∃g:Array Value,(ag->e.val=.agg g)/\(ag=false-> #[e.val]=g)/\eJ w own v g.toList
theorem RB{w:World}{r:Nat}{y:Array MapEntry}(h:w.heap[r]?=some (.map y clock)):(getObj r).run P w=.ok (.map y clock) w:=by simp[getObj,Sem.run,h]
theorem ajV{w:World}{r:Nat}{y:Array MapEntry}{O:Obj}(H:w.heap[r]?=some (.map y clock)):(setObj r O).run P w=.ok () {w with heap:=w.heap.setIfInBounds r O}:=by simp[setObj,Sem.run,H]
theorem ahA{w:World}{own:Nat->Prop}(h:dd w own (.mp ag y) v):
  ∃r E clock,v=.map (some r)/\w.heap[r]?=some (.map E clock)/\U5 w own ag y E:=by
 cases h with
 |mp r E clock g A n hl z m hr=>
  refine⟨r,E,clock,rfl,n,hl,λi q v e f H=>⟨z i q v e f H,g i,(m i q v e f H).2.1,(m i q v e f H).2.2,?_,λj x u a b=>?_⟩⟩
  .grind
  grind
theorem P8(aB:dW Z m){id g:Nat}(h:c9 m (.one (.ow id g)) v)(H:m.blk id=(g,some (.map ag y))\/m.blk id=(g,some (.fmap ag y))):
  ∃r E clock,v=.map (some r)/\r=m.σ id/\m.w.heap[r]?=some (.map E clock)/\U5 m.w m.own ag y E:=by
 cases h with
 |ow r u hr=>
  rcases H with H|H
  .obtain⟨E,clock,j,f,n⟩:=aB.obj id _ (congrArg Prod.snd H);have:=hr aIB ii;subst this;exact⟨_,E,clock,rfl,rfl,j,f,n⟩
  obtain⟨E,clock,j,f,n,_⟩:=aB.obj id _ (congrArg Prod.snd H);have:=hr aIB aH2;subst this;exact⟨_,E,clock,rfl,rfl,j,f,n⟩
theorem aG0(aB:dW Z m){r:aD}(h:vc m.blk ag x=some (y,r))(H:c9 m x v):
  ∃E:Array MapEntry,((v=.map none/\E= #[])\/ ∃ref clock,v=.map (some ref)/\m.w.heap[ref]?=some (.map E clock))/\U5 m.w m.own ag y E:=by
 unfold vc at h;split at h
 .cases h;exact⟨#[],.inl ⟨apu H,rfl⟩,rfl,λi q v e h=>by simp at h⟩
 .rename_i u n;split at h
  .rename_i e;subst e;cases h;obtain⟨hp⟩:gh m _ v:=H;obtain _:=ahA hp
   grind
  cases h
 .rename_i id g;split at h
  .rename_i g' u n f;split at h
   .rename_i j;obtain⟨rfl,rfl⟩:=j;cases h;obtain _:=P8 aB H (.inl f)
    grind
   cases h
  .rename_i g' u n f;split at h
   .rename_i j;obtain⟨rfl,rfl⟩:=j;cases h;obtain⟨r,E,clock,B,_,z,A⟩:=P8 aB H (.inr f)
    grind
   cases h
  cases h
 cases h
theorem aGl(aB:dW Z m){r:aD}(h:CU m.blk x=some (n,r))(u:c9 m x v):
  (v=.map none/\n=0)\/ ∃ref E clock,v=.map (some ref)/\m.w.heap[ref]?=some (.map E clock)/\E.size=n:=by
 unfold CU at h;split at h
 .cases h;exact .inl ⟨apu u,rfl⟩
 .cases h;obtain⟨hp⟩:gh m _ v:=u;obtain⟨r,E,clock,j,H,f⟩:=ahA hp;exact .inr ⟨r,E,clock,j,H,f.1⟩
 .rename_i id g;split at h
  .rename_i g' B A y;split at h
   .rename_i z;subst z;cases h;obtain⟨r,E,clock,j,_,H,f⟩:=P8 aB u (.inl y);exact .inr ⟨r,E,clock,j,H,f.1⟩
   cases h
  .rename_i g' B A y;split at h
   .rename_i z;subst z;cases h;obtain⟨r,E,clock,j,_,H,f⟩:=P8 aB u (.inr y);exact .inr ⟨r,E,clock,j,H,f.1⟩
   cases h
  cases h
 cases h
def GY(kind:TypeDesc)(kd:Nat):Prop:=(kd=0/\ ∃k,kind=.int k)\/(kd=1/\kind=.string)\/(kd=2/\kind=.bool)
theorem afZ{t:TypeId}{kd:Nat}(h:keyOf P t=some kd):∃kind,P.underlying t=some kind/\GY kind kd:=by
 unfold keyOf at h;split at h
 .rename_i k H;cases h;exact⟨_,H,.inl ⟨rfl,_,rfl⟩⟩
 .rename_i H;cases h;exact⟨_,H,.inr (.inl ⟨rfl,rfl⟩)⟩
 .rename_i H;cases h;exact⟨_,H,.inr (.inr ⟨rfl,rfl⟩)⟩
 cases h
theorem abx{w:World}{own:Nat->Prop}{k q:PV}{kind:TypeDesc}{b:Bool}(f:GY kind (pz k))(h:Fc k q=some b)(j:dd w own k kv)(H:dd w own q qv):Instr.sameNow kind kv qv=some b:=by
 unfold Fc at h;split at h
 .rename_i a M c d;split at h
  .rename_i e;subst e;cases h;rcases f with⟨_,x,rfl⟩|⟨e,_⟩|⟨e,_⟩
   .cases j;cases H;simp[Instr.sameNow]
   .simp[pz]at e
   simp[pz]at e
  cases h
 .cases h;rcases f with⟨e,_⟩|⟨_,rfl⟩|⟨e,_⟩
  .simp[pz]at e
  .cases j;cases H;simp[Instr.sameNow]
  simp[pz]at e
 .cases h;rcases f with⟨e,_⟩|⟨e,_⟩|⟨_,rfl⟩
  .simp[pz]at e
  .simp[pz]at e
  cases j;cases H;simp[Instr.sameNow]
 cases h
theorem aCd{w:World}{own:Nat->Prop}{k q:PV}(h:Fc k q=some true)(f:dd w own k kv)(H:dd w own q qv):qv=kv:=by
 unfold Fc at h;split at h
 .split at h
  .rename_i e;subst e;simp at h;subst h;cases f;cases H;rfl
  cases h
 .rename_i a b;have e:(a==b):=by simpa using h
  rw[beq_toListBytes]at e;have e:a=b:=by
   have e:a.toList=b.toList:=aH0
   rw[ByteArray.toList_eq,ByteArray.toList_eq]at e;exact ByteArray.ext (XN.1 e)
  subst e;cases f;cases H;rfl
 .simp at h;subst h;cases f;cases H;rfl
 cases h
theorem alV{w:World}{own:Nat->Prop}{k:PV}{kind:TypeDesc}(h:GY kind (pz k))(H:dd w own k kv):∀ {y:zf}{l:List MapEntry}{i:Nat}{f:Option (Nat×dR)},
  I l=I y->(∀(j:Nat) (q:PV) (v:dR) (e:MapEntry),y[j]?=some (q,v)->l[j]?=some e->dd w own q e.key)->zW k y i=some f->
  (f=none/\Instr.findNow kind kv l i=some none)\/ ∃j q v e,f=some (i+j,v)/\y[j]?=some (q,v)/\l[j]?=some e/\Fc k q=some true/\Instr.findNow kind kv l i=some (some (i+j,e.val)):=by
 intro y
 induction y with
 |nil=>
  intro l i f hl _ hf;simp[zW]at hf;cases l with
  |nil=>exact .inl ⟨hf.symm,rfl⟩
  |cons _ _=>simp at hl
 |cons p r B=>
  intro l i f hl u hf;obtain⟨a,v⟩:=p;cases l with
  |nil=>simp at hl
  |cons e l=>
   have m:=u 0 a v e rfl rfl;simp[zW]at hf;split at hf
   .rename_i af;cases hf;exact .inr ⟨0,a,v,e,rfl,rfl,rfl,af,by simp[Instr.findNow,abx h af H m]⟩
   .rename_i af;rcases B GT (λj q v e a b=>u (j+1) q v e ii aHY) hf with⟨n,E⟩|⟨j,q,z,e',n,E,A,D,x⟩
    .exact .inl ⟨n,by simp[Instr.findNow,abx h af H m,E]⟩
    refine .inr ⟨j+1,q,z,e',by rw[n];congr 2;omega,by simpa using E,by simpa using A,D,?_⟩;simp only[Instr.findNow,abx h af H m,x];congr 3;omega
   cases hf
theorem aG7{t:TypeId}{kind:TypeDesc}{kd:Nat}{b:Bool}(w:World)(h:P.underlying t=some kind)(H:GY kind kd)(n:Nat):(Instr.checkKey b (n+1) t v).run P w=.ok () w:=by rcases H with⟨_,k,rfl⟩|⟨_,rfl⟩|⟨_,rfl⟩<;>simp[Instr.checkKey,run_underlying h]
theorem RA{t:TypeId}{kind:TypeDesc}{kd:Nat}{b:Bool}(w:World)(h:P.underlying t=some kind)(H:GY kind kd):(Instr.checkKey b 10000 t v).run P w=.ok () w:=aG7 w h H 9999
theorem aE7{w:World}{own:Nat->Prop}{k:PV}{kind:TypeDesc}(H:GY kind (pz k))(h:dd w own k kv)(n:Nat):Instr.sameBits n kv kv:=by
 cases h<;>first
  |(simp[pz,GY]at H;done)
  |(simp[Instr.sameBits];done)
  |(simp[Instr.sameBits,beq_toListBytes];done)
theorem aBR{Z w:World}{own:Nat->Prop}{k:PV}{kind:TypeDesc}(H:GY kind (pz k))(h:dd Z own k kv):(Instr.keyThatStays kv kv).run P w=.ok kv w:=by rw[Instr.keyThatStays,aE7 H h,aI rfl];rfl
theorem VK{t:TypeId}{kind:TypeDesc}{l:List MapEntry}{r:Option (Nat×Value)}(w:World)(h:P.underlying t=some kind)(hf:Instr.findNow kind v l 0=some r):(Instr.findKey t v l).run P w=.ok r w:=by simp[Instr.findKey,run_underlying h,hf]
theorem ajv{v:dR}{g:Array Value}(h:uO ag v=some x)(f:ag->val=.agg g)(H:ag=false-> #[val]=g)(hp:eJ m.w m.own v g.toList):c9 m x val/\qu m x val:=by
 cases ag with
 |true=>simp[uO,jb]at h;subst h;exact⟨c9.agg.2 ⟨g,f rfl,hp.toC⟩,⟨g,f rfl,hp.toC⟩⟩
 |false=>
  have H:=H rfl;subst H;cases v with
  |nil=>simp[uO]at h
  |cons c r=>
   cases r with
   |nil=>simp[uO,jb]at h;subst h;have:=hp.2 0 c val rfl rfl;exact⟨pJ this,gh.p this⟩
   |cons _ _=>simp[uO]at h
section
variable {m:a7} {j:bP} {a:Act} {o:Oper} (aB:dW Z m) (hr:ll m j a.tmps)
include aB
theorem auE{t f e:TypeId}{s:Nat}(H:o.op=.makeMap t none):
  iK P Z a.eval o m (.one (.ow s ((m.blk s).1+1))) [(s,((m.blk s).1+1,some (.map ag [])))]:=by
 refine⟨.map (some m.w.heap.size),m.fresh _ s 0 (.map ag []),.inl ?_,aqt aB _ s 0 _ ⟨#[],0,agy _ s 0 _,rfl,λi q v e h=>by simp at h⟩,VY _ s 0 _,adl aB _ s 0 _,adm _ _ s 0 _,c9.one.2 (.ow _ ?_ λ_ _=>?_)⟩
 .simp[execOp,H,Instr.makeMap];rfl
 .simp[a7.fresh,a7.install,a7.later,bG]
 simp[a7.fresh,a7.install,bG]
include hr
theorem aqT{c:Call}{x:Operand}{t k e:TypeId}{r:aD}(f:o.op=.call c)(v:c.callee=.builtin .len)(h:c.args= #[x])(M:c.argTypes[0]?=some t)(u:P.underlying t=some (.map k e))
  (z:dr x=some x') (A:CU m.blk (ev j x')=some (n,r)):iK P Z a.eval o m (.one (.p (.int .i64 n))) []:=by
 refine .calm aB ?_ (pJ (.int _ _));rcases aGl aB A (gv z hr)with⟨H,rfl⟩|⟨ref,E,clock,H,y,rfl⟩
 .simp[execOp,f,resolve,v,h,M,invoke,builtin,Builtin.len_,run_underlying u,H,goInt]
 simp[execOp,f,resolve,v,h,M,invoke,builtin,Builtin.len_,run_underlying u,H,goInt,RB y]
theorem ay6{t kt e:TypeId}{x k:Operand}{ok:Bool}{q:eF}{kd:Nat}{r:aD}{f:Option (Nat×dR)}{w:V}(ho:o.op=.lookup t x k ok)(O:P.underlying t=some (.map kt e))
  (hz:Ct P e=some z) (ES:keyOf P kt=some kd) (A:W_ P e=q.isSome) (hx:dr x=some x') (hk:dr k=some k') (hm:vc m.blk q.isSome (ev j x')=some (y,r)) (X:ev j k'=.one (.p key)) (vf:pz key=kd)
  (hf:zW key y 0=some f) (hw:uO q.isSome ((f.map (·.2)).getD z)=some w):iK P Z a.eval o m (if ok then .tup [w,.one (.p (.bool f.isSome))]else w) []:=by
 obtain⟨kind,D,B⟩:=afZ ES;obtain⟨E,Uy,hl,fp⟩:=aG0 aB hm (gv hx hr);have Io:=gv hk hr;rw[X]at Io;obtain⟨dm⟩:gh m _ _:=Io;have fD:(∃ref clock,a.eval x=.map (some ref)/\m.w.heap[ref]?=some (.map E clock))\/a.eval x=.map none/\E= #[]:=by
  rcases Uy with h|h
  .exact .inr h
  exact .inl h
 have key:∀(val:Value) (b:Bool),c9 m w val->qu m w val->f.isSome=b->(Instr.lookup t (a.eval x) (a.eval k) ok).run P m.w=.ok (if ok then .tuple #[val,.bool b]else val) m.w->iK P Z a.eval o m (if ok then .tup [w,.one (.p (.bool f.isSome))]else w) []:=by
  intro val b n mR H F;refine .calm aB (x:=if ok then .tuple #[val,.bool b]else val) ?_ ?_
  .simp[execOp,ho,F]
  cases ok
  .exact n
  refine⟨_,rfl,rfl,λab am u p q=>?_⟩;rcases ab with _|_|ab
  .simp at p q;subst p q;exact mR
  .simp at p q;subst p q;rw[H];exact gh.p (.bool _)
  simp at p
 rcases alV (by rw[vf];exact B) dm (l:=E.toList) GT (λab q v e n H=>(fp ab q v e n rg).1) hf with⟨rfl,Y⟩|⟨ab,q',v,e',rfl,H,F,_,Y⟩
 .obtain⟨M,i,L,N,KH,mj,Q⟩:=OA hz;obtain⟨mr,v2⟩:=ajv (val:=M) hw (λR=>by
    rw[R]at A;unfold W_ at A;rw[L]at A;simp only[N]at A;cases M<;>simp[Value.cells]at A |-) (λR=>by
    rw[R]at A;unfold W_ at A;rw[L]at A;simp only[N]at A;cases M<;>simp[Value.cells]at A |-) (Q m.w m.own)
  refine key M false mr v2 rfl ?_;rcases fD with⟨ref,clock,n,H⟩|⟨n,H⟩
  .cases ok<;>simp[Instr.lookup,run_underlying O,n,RB H,RA m.w D B,VK m.w D Y,zeroValue,typeInfo,L,N]
  subst H;cases ok<;>simp[Instr.lookup,run_underlying O,n,RA m.w D B,Instr.findKey,run_underlying D,Instr.findNow,zeroValue,typeInfo,L,N]
 obtain⟨ad,g,Dp,T,Q⟩:=fp ab q' v e' H (by simpa using F);obtain⟨mr,v2⟩:=ajv hw Dp T Q;refine key e'.val true mr v2 rfl ?_;rcases fD with⟨ref,clock,n,H⟩|⟨n,H⟩
 .cases ok<;>simp[Instr.lookup,run_underlying O,n,RB H,RA m.w D B,VK m.w D Y]
 subst H;simp at F
theorem ah8{t kt e:TypeId}{x k an:Operand}{kd:Nat}{ag:Bool}{id g:Nat}{D:eC}{ps:dR}{f:Option (Nat×dR)}(B:o.op=.mapUpdate t x k an\/o.op=.insert t x k an)(ht:P.underlying t=some (.map kt e))
  (ES:keyOf P kt=some kd) (hx:dr x=some x') (hk:dr k=some k') (hy:dr an=some y') (hm:ev j x'=.one (.ow id g)) (hb:m.blk id=(g,some (.map ag y))) (ar:ev j k'=.one (.p key)) (vf:pz key=kd)
  (dV:HR ag (ev j y')=some D) (eD:Ev D=some ps) (hf:zW key y 0=some f):
  iK P Z a.eval o m .undef [(id,(g,some (.map ag (match f with|some (i,_)=>y.set i (key,ps)|none=>y++[(key,ps)]))))]:=by
 obtain⟨kind,Dv,GB⟩:=afZ ES;have X:=gv hx hr;rw[hm]at X;have Q:=congrArg Prod.snd hb;obtain⟨ref,E,clock,Fi,aW,hh,hl,fp⟩:=P8 aB X (.inl hb);subst aW;have Io:=gv hk hr;rw[ar]at Io;obtain⟨R⟩:gh m _ _:=Io;have L:=gv hy hr
 have Y:∃M:Array Value,(ag->a.eval an=.agg M)/\(ag=false-> #[a.eval an]=M)/\eJ m.w m.own ps M.toList:=by
  generalize ev j y'=vy at dV L;cases ag with
  |true=>
   cases vy<;>simp[HR]at dV
   subst dV;obtain⟨arr,H,n⟩:=c9.agg.1 L;exact⟨arr,λ_=>H,λh=>(by cases h),RG eD n⟩
  |false=>
   cases vy<;>simp[HR]at dV
   subst dV;refine⟨#[a.eval an],λh=>(by cases h),λ_=>rfl,RG eD ⟨rfl,λam x u p q=>?_⟩⟩;rcases am with _|am
   .simp at p q;subst p q;exact L
   simp at p
 obtain⟨M,xB,tM,ad⟩:=Y;have N:∀(z:Array MapEntry) (F:Nat) (T:zf),(execOp a.eval o).run P m.w=.ok .skip {m.w with heap:=m.w.heap.setIfInBounds (m.σ id) (.map z F)}->U5 m.w m.own ag T z->
   iK P Z a.eval o m .undef [(id,(g,some (.map ag T)))]:=by
  intro z F T sP Uy;have af:(m.w.heap.setIfInBounds (m.σ id) (.map z F)).size=m.w.heap.size:=aG;have ab:∀c,c≠m.σ id->(m.w.heap.setIfInBounds (m.σ id) (.map z F))[c]?=m.w.heap[c]? :=λc hc=>by rw[PF];rw[aE (λe=>hc e.symm)]
  have eM:hs m (m.kS {m.w with heap:=m.w.heap.setIfInBounds (m.σ id) (.map z F)} id (.map ag T)):=Mj Q rfl rfl rfl rfl rfl af ab;refine⟨_,m.kS {m.w with heap:=m.w.heap.setIfInBounds (m.σ id) (.map z F)} id (.map ag T),.inr ⟨sP,rfl⟩,OU Q rfl aB rfl rfl rfl rfl af ab ?_,eM,rfl,?_,rfl⟩
  .refine⟨z,F,?_,Uy.1,λi q v e H n=>?_⟩
   .show(m.w.heap.setIfInBounds (m.σ id) (.map z F))[m.σ id]?=_;rw[PF,aI rfl,aI (yz hh)]
   obtain⟨p1,gg,p2,p3,p4⟩:=Uy.2 i q v e H n;exact⟨p1.ev eM.zero,gg,p2,p3,p4.ev eM.zero⟩
  simp only[a7.kS,app,congrArg Prod.fst hb]
 rcases alV (by rw[vf];exact GB) R (l:=E.toList) GT (λam q v e H n=>(fp am q v e H at9).1) hf with⟨rfl,hn⟩|⟨am,q',v,e',rfl,n,h3,h4,hn⟩
 .refine N (E.push {key:=a.eval k,val:=a.eval an,born:=clock}) (clock+1) _ ?_ ?_
  .rcases B with B|B<;>simp[execOp,B,Instr.mapUpdate,run_underlying ht,Fi,RB hh,RA m.w Dv GB,VK m.w Dv hn,ajV hh]
  refine⟨by simp[hl],λi q v e H n=>?_⟩;by_cases hi:i<I y
  .rw[yY hi]at H;rw[TG,aE J]at n;exact fp i q v e H n
  rw[uJ J]at H;have:i=I y:=by
   by_cases h:i-I y=0
   .omega
   have:=(bN.1 H).1;simp at this;omega
  subst this;simp at H;obtain⟨rfl,rfl⟩:=H;rw[TG,aI hl.symm]at n;cases n;exact⟨R,M,xB,tM,ad⟩
 have vR:E[am]?=some e':=by simpa using h3
 refine N (E.modify am λe=>{e with key:=a.eval k,val:=a.eval an}) clock _ ?_ ?_
 .have O:=VK m.w Dv hn;rw[lh]at O;have ap:(Instr.keyThatStays e'.key (a.eval k)).run P m.w=.ok (a.eval k) m.w:=by rw[aCd h4 R (fp am q' v e' n vR).1];exact aBR (by rw[vf];exact GB) R
  rcases B with B|B<;>simp[execOp,B,Instr.mapUpdate,run_underlying ht,Fi,RB hh,RA m.w Dv GB,O,ajV hh,vR,ap]
 simp only[lh];refine⟨by simp[hl],λi q v e H n=>?_⟩;rw[qt]at H;rw[Array.getElem?_modify]at n;by_cases gb:am=i
 .subst gb;rw[aI rfl]at H;split at H
  .cases H;simp[vR]at n;subst n;exact⟨R,M,xB,tM,ad⟩
  cases H
 rw[aE gb]at H;rw[aE gb]at n;exact fp i q v e H n
end
end
theorem amP{t:TypeId}{b:Bool}(h:Wk P t=some b):(b/\ ∃k,P.underlying t=some (.int k))\/(b=false/\P.underlying t=some .bool):=by
 unfold Wk at h
 grind
theorem aEr{a b:PV}{r:Bool}(h:n9 true a b=some r):∃k x y,a=.int k x/\b=.int k y/\r=(x==y):=by
 cases a<;>cases b<;>simp[n9]at h
 exact⟨_,_,_,rfl,by rw[h.1],h.2.symm⟩
theorem ary{a b:PV}{r:Bool}(h:n9 false a b=some r):∃x y,a=.bool x/\b=.bool y/\r=(x==y):=by
 cases a<;>cases b<;>simp[n9]at h
 grind
theorem avi{as B:eC}{r:Bool}(h:nJ [] as B=some r):r:=by
 cases as<;>cases B<;>simp[nJ]at h
 exact h
theorem awL{k:Bool}{j:dK}{as f:eC}{r:Bool}(h:nJ (k::j) as f=some r):
  ∃a A b B r0,as=.p a::A/\f=.p b::B/\n9 k a b=some r0/\(r0->nJ j A B=some r)/\(r0=false->r=false):=by
 cases as with
 |nil=>simp[nJ]at h
 |cons x A=>
  cases f with
  |nil=>cases x<;>simp[nJ]at h
  |cons y B=>
   cases x<;>cases y<;>simp[nJ]at h<;>try cases h
   grind
theorem av3{w:World}(d:Nat):∀ {fs:List Field}{n:dK}{k:Nat}{as u:eC}{r:Bool},K9 P k fs=some n->nJ n as u=some r->
  (∀(j:Nat) (x:cG),as[j]?=some x->∃v,A[k+j]?=some v/\gh m x v)->(∀(j:Nat) (x:cG),u[j]?=some x->∃v,B[k+j]?=some v/\gh m x v)->
  (Op.eqFields (d+1) A B fs).run P w=.ok r w:=by
 intro fs
 induction fs with
 |nil=>intro n k as u r hf F _ _;simp[K9]at hf;subst hf;rw[avi F];simp[Op.eqFields,Sem.run_pure]
 |cons f fs ih=>
  intro n k as u r hf F Z N;simp[K9]at hf;split at hf
  .rename_i b Ga R h2;split at hf
   .rename_i hc;obtain⟨L,QF⟩:=hc;cases hf;obtain⟨x,ar,y,br,r0,rfl,rfl,O,ht,hf⟩:=awL F;obtain⟨T,D,z⟩:=Z 0 _ rfl;obtain⟨iB,H,Q⟩:=N 0 _ rfl;obtain⟨z⟩:=z;obtain⟨Q⟩:=Q;have Y:∀(X:Array Value) (v:Value),X[k]?=some v->(part f.type X f.offset).run P w=.ok v w:=by
     intro X v hX;have u6:(isAgg f.type).run P w=.ok false w:=by rcases amP R with⟨_,kk,h⟩|⟨_,h⟩<;>simp[isAgg,run_underlying h]
     rw[L];simp[part,u6,hX]
    have M:(Op.equalIn (d+1) f.type T iB).run P w=.ok r0 w:=by
     rcases amP R with⟨rfl,kk,h⟩|⟨rfl,h⟩
     .obtain⟨k',p,q,rfl,rfl,rfl⟩:=aEr O;cases z;cases Q;simp[Op.equalIn,run_underlying h]
     obtain⟨p,q,rfl,rfl,rfl⟩:=ary O;cases z;cases Q;simp[Op.equalIn,run_underlying h]
    simp[Op.eqFields,aI QF,Sem.run_bind,Y A T D,Y B iB H,M,Result.andThen_ok];cases r0 with
    |false=>rw[hf rfl];simp[Sem.run_pure]
    |true=>exact ih h2 (ht rfl) (λj x E=>by have:=Z (j+1) x aHZ;rwa[show k+(j+1)=k+1+j by omega]at this) (λj x E=>by have:=N (j+1) x aHZ;rwa[show k+(j+1)=k+1+j by omega]at this)
   cases hf
  cases hf
def Fm:zu->Value->Bool->Prop
 | .ptr,v,b=>∃a,v=.pointer a/\a.isNone=b
 | .slc,v,b=>∃a l c,v=.slice a l c/\a.isNone=b
 | .map,v,b=>∃r,v=.map r/\r.isNone=b
 | .fnc,v,b=>(v=.nilFunc/\b)\/ ∃f x y,v=.func f x y/\b=false
 | .ifc,v,b=>(v=.nilIface/\b)\/ ∃d x,v=.iface d x/\b=false
 |_,_,_=>False
theorem AO{k:zu}{b:Bool}(h:J2 k x=some b)(hr:c9 m x v):Fm k v b:=by
 unfold J2 at h;split at h<;>cases h
 all_goals first
  |(obtain⟨hp⟩:gh m _ v:=hr;cases hp;first
    |exact⟨_,rfl,rfl⟩
    |exact⟨_,_,_,rfl,rfl⟩
    |exact .inl ⟨rfl,rfl⟩
    |exact .inr ⟨_,_,_,rfl,rfl⟩
    |exact .inr ⟨_,_,rfl,rfl⟩)
  |(have H:=hr;cases H;first
    |exact⟨_,rfl,rfl⟩
    |exact⟨_,_,_,rfl,rfl⟩
    |exact .inr ⟨_,_,_,rfl,rfl⟩)
def aeb(P:Program)(t:TypeId):zu->Prop
 | .bool=>P.underlying t=some .bool
 | .ptr=>∃e,P.underlying t=some (.pointer e)
 | .slc=>∃e,P.underlying t=some (.slice e)
 | .map=>∃a b,P.underlying t=some (.map a b)
 | .fnc=>∃a b c,P.underlying t=some (.func a b c)
 | .ifc=>∃a,P.underlying t=some (.interface a)
 | .str f=>∃fs,P.underlying t=some (.struct fs)/\P.stoodInHeld t=false/\P.eqGuardType P.depth t=false/\K9 P 0 fs.toList=some f
theorem ahc{t:TypeId}{x y:Operand}{k:zu}(h:PH P t x y=some k):aeb P t k/\(k=.ifc->K0 x\/K0 y):=by
 unfold PH at h;split at h
 .rename_i a H;split at h
  .rename_i f;cases h;exact⟨⟨_,H⟩,λ_=>by simpa using f⟩
  cases h
 .rename_i H;cases h;exact⟨H,λe=>by cases e⟩
 .rename_i H;cases h;exact⟨⟨_,H⟩,λe=>by cases e⟩
 .rename_i H;cases h;exact⟨⟨_,H⟩,λe=>by cases e⟩
 .rename_i H;cases h;exact⟨⟨_,_,H⟩,λe=>by cases e⟩
 .rename_i H;cases h;exact⟨⟨_,_,_,H⟩,λe=>by cases e⟩
 .rename_i fs H;split at h
  .rename_i f;simp at h;obtain⟨m,j,rfl⟩:=h;simp at f;exact⟨⟨fs,H,f.1,f.2,j⟩,λe=>by cases e⟩
  cases h
 cases h
theorem ait{t:TypeId}{k:zu}{u:Value}{a b:Bool}(w:World)(j:aeb P t k)(H:Fm k v a)(f:Fm k u b)(D:a\/b)(d:Nat):(Op.equalIn (d+1) t v u).run P w=.ok (a&&b) w:=by
 cases k with
 |bool=>exact H.elim
 |str n=>exact H.elim
 |ptr=>obtain⟨e,h⟩:=j;obtain⟨x,rfl,rfl⟩:=H;obtain⟨y,rfl,rfl⟩:=f;cases x<;>cases y<;>simp at D<;>simp[Op.equalIn,run_underlying h]
 |slc=>obtain⟨e,h⟩:=j;obtain⟨x,_,_,rfl,rfl⟩:=H;obtain⟨y,_,_,rfl,rfl⟩:=f;cases x<;>cases y<;>simp at D<;>simp[Op.equalIn,run_underlying h]
 |map=>obtain⟨e,e',h⟩:=j;obtain⟨x,rfl,rfl⟩:=H;obtain⟨y,rfl,rfl⟩:=f;cases x<;>cases y<;>simp at D<;>simp[Op.equalIn,run_underlying h]
 |fnc=>obtain⟨e,e',E,h⟩:=j;rcases H with⟨rfl,rfl⟩|⟨_,_,_,rfl,rfl⟩<;>rcases f with⟨rfl,rfl⟩|⟨_,_,_,rfl,rfl⟩<;>simp at D<;>simp[Op.equalIn,run_underlying h]
 |ifc=>obtain⟨e,h⟩:=j;rcases H with⟨rfl,rfl⟩|⟨_,_,rfl,rfl⟩<;>rcases f with⟨rfl,rfl⟩|⟨_,_,rfl,rfl⟩<;>simp at D<;>simp[Op.equalIn,run_underlying h]
section
variable {m:a7} {j:bP} {a:Act} {o:Oper} (aB:dW Z m) (hr:ll m j a.tmps)
include aB hr
theorem ayv{t:TypeId}{k:zu}{y:V}{u:Value}{b:Bool}(z:aeb P t k)(h:GA k x y=some b)(H:c9 m x v)(n:c9 m y u)(d:Nat):(Op.equalIn (d+2) t v u).run P m.w=.ok b m.w:=by
 unfold GA at h;split at h
 .cases h;rw[HE H,HE n];simp[Op.equalIn,Sem.run_bind,run_underlying z,Result.andThen_ok,Sem.run_pure]
 .obtain⟨A,rfl,F⟩:=c9.agg.1 H;obtain⟨B,rfl,E⟩:=c9.agg.1 n;obtain⟨fs,D,af,_,hf⟩:=z;have Dm:P.fieldsOf t=fs:=by simp[Program.fieldsOf,D]
  rw[run_equalIn_agg m.w (d+1) t A B (by rw[Dm];exact D) af,Dm];refine av3 (m:=m) d hf h (λj x H=>?_) (λj x H=>?_)
  .have f:j<A.size:=by have:=F.1;simp at this;rw[this];exact(bN.1 H).1
   exact⟨A[j],by simp[f],F.2 j x _ H aig⟩
  have f:j<B.size:=by have:=E.1;simp at this;rw[this];exact(bN.1 H).1
  exact⟨B[j],by simp[f],E.2 j x _ H aig⟩
 .cases h
 .cases h
 split at h
 .rename_i L;have:=ait m.w z (AO h H) (AO L n) (.inr rfl) (d+1)
  exact aIE
 split at h
 .rename_i M;have:=ait m.w z (AO M H) (AO h n) (.inl rfl) (d+1)
  exact aIE
 cases h
theorem azj{op:BinOp}{t:TypeId}{k:zu}{x y:Operand}{b:Bool}(O:PH P t x y=some k)(R:dr x=some x')(Q:dr y=some y')(h:GA k (ev j x') (ev j y')=some b):
  (eqGuard op t x y (a.eval x) (a.eval y)).run P m.w=.ok () m.w:=by
 obtain⟨F,kJ⟩:=ahc O;have H:=gv R hr;have v:=gv Q hr;by_cases f:op=.eql\/op=.neq
 .unfold GA at h;split at h
  .rename_i E D;rw[E]at H;rw[HE H,eqGuard_at_bool];rfl
  .rename_i E D;rw[E]at H;rw[D]at v;obtain⟨A,X,_⟩:=c9.agg.1 H;obtain⟨B,Z,_⟩:=c9.agg.1 v;obtain⟨fs,_,_,M,_⟩:=F;rw[X,Z];exact run_eqGuard_agg m.w op t x y A B M
  .cases h
  .cases h
  rename_i k q1 q2 q3 q4 q5 q6 q7;have T:∃z b2,Fm k (a.eval x) z/\Fm k (a.eval y) b2:=by
   split at h
   .rename_i L;exact⟨_,_,AO h H,AO L v⟩
   split at h
   .rename_i Y;exact⟨_,_,AO Y H,AO h v⟩
   cases h
  obtain⟨z,b2,N,n2⟩:=T;cases k with
  |bool=>exact N.elim
  |str n=>exact N.elim
  |ptr=>obtain⟨q,e,_⟩:=N;rw[e,eqGuard_at_pointer];rfl
  |slc=>obtain⟨q,_,_,e,_⟩:=N;rw[e,eqGuard_at_slice];rfl
  |map=>obtain⟨q,e,_⟩:=N;rw[e,eqGuard_at_map];rfl
  |fnc=>
   rcases N with⟨e,_⟩|⟨_,_,_,e,_⟩
   .rw[e,eqGuard_at_nilFunc];rfl
   rw[e,eqGuard_at_func];rfl
  |ifc=>
   rcases N with⟨e,_⟩|⟨_,_,e,_⟩
   .rcases n2 with⟨e',_⟩|⟨_,_,e',_⟩
    .rw[e,e'];have u:(∃c,x=.const c)\/ ∃c,y=.const c:=by
      rcases kJ rfl with u|u
      .cases x<;>simp[K0]at u
       exact .inl ⟨_,rfl⟩
      cases y<;>simp[K0]at u
      exact .inr ⟨_,rfl⟩
     rcases u with⟨c,rfl⟩|⟨c,rfl⟩
     .rw[eqGuard_nil_constL];rfl
     rw[eqGuard_nil_constR];rfl
    rw[e,e',eqGuard_nil_iface];rfl
   rw[e,eqGuard_at_iface];rfl
 have:eqGuard op t x y (a.eval x) (a.eval y)=pure ():=by
  cases op<;>first
   |rfl
   |exact(f (.inl rfl)).elim
   |exact(f (.inr rfl)).elim
 rw[this];rfl
theorem ay2{t:TypeId}{k:zu}{u:Value}{B:Bool}(af:(∃p q,v=.bool p/\u=.bool q)\/(∃p q,v=.agg p/\u=.agg q)\/ ∃p q,Fm k v p/\Fm k u q)(h:(Op.equalIn (9998+2) t v u).run P m.w=.ok B m.w):
  (binOp .eql t v u).run P m.w=.ok (.bool B) m.w/\(binOp .neq t v u).run P m.w=.ok (.bool (!B)) m.w:=by
 have j:Op.equal t v u=Op.equalIn (9998+2) t v u:=rfl;have key:binOp .eql t v u=(do pure (.bool (<-Op.equal t v u)))/\binOp .neq t v u=(do pure (.bool (!(<-Op.equal t v u)))):=by
  rcases af with⟨p,q,rfl,rfl⟩|⟨p,q,rfl,rfl⟩|⟨p,q,H,f⟩
  .exact⟨rfl,rfl⟩
  .exact⟨rfl,rfl⟩
  cases k with
  |bool=>exact H.elim
  |str n=>exact H.elim
  |ptr=>obtain⟨_,rfl,_⟩:=H;obtain _:=f;exact⟨rfl,rfl⟩
  |slc=>obtain⟨_,_,_,rfl,_⟩:=H;obtain _:=f;exact⟨rfl,rfl⟩
  |map=>obtain⟨_,rfl,_⟩:=H;obtain⟨_,rfl,_⟩:=f;exact⟨rfl,rfl⟩
  |fnc=>rcases H with⟨rfl,_⟩|⟨_,_,_,rfl,_⟩<;>rcases f with _|⟨_,_,_,rfl,_⟩<;>exact⟨rfl,rfl⟩
  |ifc=>rcases H with⟨rfl,_⟩|⟨_,_,rfl,_⟩<;>rcases f with⟨rfl,_⟩|⟨_,_,rfl,_⟩<;>exact⟨rfl,rfl⟩
 simp_all
theorem anQ{op:BinOp}{t T:TypeId}{x y:Operand}{k:zu}{n b:Bool}(z:o.op=.binOp op t x y T)(u:(op=.eql/\n=false)\/(op=.neq/\n))(F:PH P t x y=some k)(D:dr x=some x')(A:dr y=some y')
  (h:GA k (ev j x') (ev j y')=some b):iK P Z a.eval o m (.one (.p (.bool (if n then !b else b)))) []:=by
 have f:=gv D hr;have H:=gv A hr;have B:=azj aB hr (op:=op) F D A h;have af:(∃p q,a.eval x=.bool p/\a.eval y=.bool q)\/(∃p q,a.eval x=.agg p/\a.eval y=.agg q)\/ ∃p q,Fm k (a.eval x) p/\Fm k (a.eval y) q:=by
  unfold GA at h;split at h
  .rename_i E v;rw[E]at f;rw[v]at H;exact .inl ⟨_,_,HE f,HE H⟩
  .rename_i E v;rw[E]at f;rw[v]at H;obtain _:=c9.agg.1 f;obtain _:=c9.agg.1 H
   grind
  .cases h
  .cases h
  split at h
  .rename_i L;exact .inr (.inr ⟨_,_,AO h f,AO L H⟩)
  split at h
  .rename_i M;exact .inr (.inr ⟨_,_,AO M f,AO h H⟩)
  cases h
 obtain⟨r1,R⟩:=ay2 aB hr af (ayv aB hr (ahc F).1 h f H 9998);rcases u with⟨rfl,rfl⟩|⟨rfl,rfl⟩
 .exact .calm aB (by simp[execOp,z,B,r1]) (pJ (.bool _))
 exact .calm aB (by simp[execOp,z,B,R]) (pJ (.bool _))
end
theorem awn:∀ {y:dy}{B:CT},L6 y=some B->∃N:cT,y.flatten=N.map (PV.int .u8)/\B=N.map (λn=>UInt8.ofNat n.toNat)/\I N=I y:=by
 intro y
 induction y with
 |nil=>intro B h;simp[L6]at h;exact⟨[],rfl,h,rfl⟩
 |cons e r m=>
  intro B h;unfold L6 at h;split at h
  .rename_i e';cases e'
  .rename_i n R e';cases e';simp at h;obtain⟨q,j,rfl⟩:=h;obtain⟨N,u,H,f⟩:=m j;exact⟨n::N,by simp[u],by simp[H],by simp[f]⟩
  cases h
theorem avu{w:World}{own:Nat->Prop}:∀ {N:cT}{h:List Value},Pw (dd w own) (N.map (PV.int .u8)) h->h=N.map (Value.int .u8):=by
 intro N
 induction N with
 |nil=>intro h H;have:=H.1;simp at this;simp[this]
 |cons n N f=>
  intro h H;cases h with
  |nil=>have:=H.1;simp at this
  |cons v h=>cases(H.2 0 _ v rfl rfl);rw[f (h:=h) ⟨by have:=H.1;simpa using this,λj x u a b=>H.2 (j+1) x u ii ii⟩];rfl
theorem aCx:∀(N:cT) (s:ByteArray),N.foldl (λr n=>r.push (UInt8.ofNat n.toNat)) s=⟨s.data++(N.map (λn=>UInt8.ofNat n.toNat)).toArray⟩:=by
 intro N
 induction N with
 |nil=>intro s;cases s;simp
 |cons n N f=>simp_all
section
variable {m:a7} {j:bP} {a:Act} {o:Oper} (aB:dW Z m) (hr:ll m j a.tmps)
include aB hr
theorem asT{s d e:TypeId}{x:Operand}{y:dy}{r:aD}{B:CT}(Y:o.op=.convert s d x)(af:P.underlying s=some (.slice e))(he:P.underlying e=some (.int .u8))(E:P.underlying d=some .string)
  (hx:dr x=some x') (eo:gP m.blk (ev j x')=some (y,r,[])) (F:L6 y=some B):iK P Z a.eval o m (.one (.p (.str ⟨B.toArray⟩))) []:=by
 obtain⟨N,T,H,u⟩:=awn F;obtain⟨ax,f,M,_,L⟩:=agj aB eo (gv hx hr) ⟨λ_ h=>h,λ_ h=>by simp at h⟩;refine .calm aB ?_ (pJ (.str _));have key:(Conv.bytesToString (.slice ax (I y) f)).run P m.w=.ok (.string ⟨B.toArray⟩) m.w:=by
  by_cases D:y=[]
  .subst D;have:N=[]:=by simpa using u
   subst this;have ia:B=[]:=rg
   subst ia;cases ax with
   |none=>simp[Conv.bytesToString,Sem.run_pure];rfl
   |some X=>have:=run_bytesToString (P:=P) m.w X 0 f [] (by simp[loadCells,loadCellsFrom,Sem.run_pure]);exact this
  obtain⟨b,O,n,rfl,Q,R⟩:=L D;rw[T]at Q;have z:=avu Q;have hl:I n=I y:=by rw[z];simpa using u
  have A:(loadCells ⟨b,O,none⟩ (I y)).run P m.w=.ok (N.map (Value.int .u8)).toArray m.w:=by rw[<-hl,<-z];exact run_loadCells_list m.w _ n λab v hj=>by rw[Addr.add_lit];exact R ab v hj
  rw[run_bytesToString m.w _ _ f N A,aCx,H]
  simp_all
 simp[execOp,Y,M,Sem.run_bind,run_convert_bytes_string m.w s d e ax (I y) f af he E,key,Result.andThen_ok,Sem.run_pure]
end
theorem XW{L:Array Operand}{a:fc}(h:rW L.toList=some [a]):∃x,L= #[x]/\dr x=some a:=by
 obtain⟨L⟩:=L;cases L with
 |nil=>simp[rW]at h
 |cons x r=>
  simp[rW]at h;split at h
  .rename_i y ys f E;cases h;cases r with
   |nil=>exact⟨x,rfl,f⟩
   |cons z r=>simp[rW]at E;split at E<;>simp at E
  cases h
theorem acL{L:Array Operand}{a b:fc}(h:rW L.toList=some [a,b]):∃x y,L= #[x,y]/\dr x=some a/\dr y=some b:=by
 obtain⟨L⟩:=L;cases L with
 |nil=>simp[rW]at h
 |cons x r=>
  simp[rW]at h;split at h
  .rename_i y ys E f;cases h;obtain _:=XW J
   grind
  cases h
theorem ayX{L:Array TypeId}{t u:TypeId}(h:L[0]?=some t)(H:L[1]?=some u)(af:L.size=2):L= #[t,u]:=ii
theorem awX{α:Type}{y ys:List (List α)}{O:Nat}(h:∀e∈y,I e=sz)(j:∀e∈ys,I e=sz)(hl:O+I ys<=I y):(gE y O ys).flatten=gE y.flatten (O*sz) ys.flatten:=by
 have m:∀k,k<=I y->(y.take k).flatten.length=k*sz:=λk H=>by rw[Lg λe f=>h e (B9 f),ko,zx H]
 have E:y.flatten=(y.take (O+I ys)).flatten++(y.drop (O+I ys)).flatten:=by rw[<-H9,mW]
 unfold gE;rw[H9,H9,Lg j];congr 1
 .grind
 grind [lR]
theorem aCl{R:PV->Value->Prop}{v:Array Value}(E:Pw R z v.toList):Pw R (List.replicate n z).flatten (Builtin.zeroCells v n).toList:=by
 have A:∀e∈List.replicate n z,I e=v.size:=λe f=>by rw[acC f];exact by have:=E.1;simp at this;omega
 have H:(Builtin.zeroCells v n).toList.length=n*v.size:=by simp[size_zeroCells]
 refine⟨by rw[H,Lg A];simp,λj x u p q=>?_⟩;have B:j<n*v.size:=by have:=(bN.1 q).1;omega
 have m:0<v.size:=ii
 have h:j/v.size<n:=by rw[Nat.div_lt_iff_lt_mul m];exact B
 have y:j%v.size<v.size:=dB _ m;have f:(List.replicate n z)[j/v.size]?=some z:=ut
 have D:=IF A f y;rw[show j/v.size*v.size+j%v.size=j by rw[Wv];exact ae7 j v.size]at D;rw[D]at p;have F:(Builtin.zeroCells v n).toList[j]?=some v[j%v.size]! :=by unfold Builtin.zeroCells;simp[B]
 rw[F]at q;cases q;refine E.2 _ x _ p ?_;simp[y]
section
variable {m:a7} {j:bP} {a:Act} {o:Oper} (aB:dW Z m) (hr:ll m j a.tmps)
include aB hr
theorem aqQ{c:Call}{x:Operand}{t e:TypeId}{bytes:Nat}{v:V}{rd:aD}(ho:o.op=.call c)(hc:c.callee=.builtin .clear)(ar:c.args= #[x])(R:c.argTypes[0]?=some t)
  (he:CQ P t=some (e,sz,bytes,z)) (hx:dr x=some x') (hp:cV E j m.blk (.clear z x')=.done v u rd):iK P Z a.eval o m v u:=by
 obtain⟨i,zv,N,hi,af,hb,⟨kO,Qm⟩,Ds,KH,mj,eD⟩:=Vs he;have n:=gv hx hr;have run:∀(az:Value) (w':World),(Builtin.clear_ c.argTypes o.type #[a.eval x]).run P m.w=.ok az w'->(execOp a.eval o).run P m.w=.ok (.value az) w':=by intro az w' h;simp[execOp,ho,resolve,hc,ar,invoke,builtin,h]
 have Q:(Builtin.clear_ c.argTypes o.type #[a.eval x]).run P m.w=.ok (.tuple #[]) m.w->iK P Z a.eval o m (.tup []) []:=λh=>
  ⟨.tuple #[],m,.inl (run _ _ h),aB,hs.refl _,rfl,rfl,(⟨#[],rfl,rfl,λaw x u h=>by simp at h⟩:c9 m (.tup []) _)⟩
 simp only[cV]at hp;split at hp
 .rename_i L;cases hp;rw[L]at n;have n:=n;generalize Y:a.eval x=b at n;rw[Y]at Q;apply Q;cases n with
  |p h=>cases h;simp[Builtin.clear_,R,run_underlying N]
 .rename_i L;cases hp;rw[L]at n;have n:=n;generalize Y:a.eval x=b at n;rw[Y]at Q;apply Q;cases n with
  |p h=>
   cases h with
   |By a am hn hm=>cases a<;>simp[Builtin.clear_,R,run_underlying N]
   |sl b o am sz f h1 h2 h3 h4=>simp[Builtin.clear_,R,run_underlying N]
 .rename_i id g w O len L;rw[L]at n;have n:=n;generalize Y:a.eval x=b at n;rw[Y]at Q run;cases n with
  |hsl ad am hg hl hm X=>
   split at hp
   .rename_i h0;cases hp;subst h0;apply Q;simp[Builtin.clear_,R,run_underlying N]
   rename_i h0;split at hp
   .rename_i g' T F y B;split at hp
    .rename_i Dk;obtain⟨ke,ab,H⟩:=Dk;cases hp;have bh:(m.blk id).2=some (.arr T F y):=by rw[B]
     obtain⟨_,X,_⟩:=X F (by rw[B];exact ke) (by rw[B];rfl);have X:=X (.inr J);subst X;obtain⟨D,hh,mF,wm,kK,rR,Kd,Ck⟩:=aB.obj id _ bh;have QZ:∀e∈List.replicate len z,I e=F:=λe he=>by rw[acC he];exact ab.symm
     have ap:zv.cells.size=F:=by rw[KH,<-mj,ab]
     have Nr:I (List.replicate len z)=len:=RK;have qT:=awX wm QZ (by rw[Nr];exact H);have jA:(O+len)*F<=I y*F:=oo _ H;have aL:I y*F<=m.κ id*F:=oo _ kK;rw[lR]at jA;generalize hZ:(Builtin.zeroCells zv.cells len).toList=av;have JW:I av=len*F:=by rw[<-hZ];simp[size_zeroCells,ap]
     have M:∀w own,eJ w own (List.replicate len z).flatten av:=λw own=>eJ.pw.2 (by rw[<-hZ];exact aCl (eJ.pw.1 (eD w own)));have UK:∀v∈av,v.oneCell':=λv L=>by obtain⟨aw,hj⟩:=gJ L;exact((M m.w m.own).2 aw _ v (vA (by rw[<- (M m.w m.own).1];exact(bN.1 hj).1)) hj).R9
     have cN:=run_storeCells_at P (m.σ id) (O*F) T av 0 D m.w hh (by rw[JW,Kd];omega) UK;simp only[Ab]at cN;generalize A:m.w.setRow (m.σ id) (D.toList.take (O*F)++av++D.toList.drop (O*F+I av)).toArray=W at cN;have HY:W.heap.size=m.w.heap.size:=by rw[<-A];simp
     have HX:∀c,c≠m.σ id->W.heap[c]?=m.w.heap[c]? :=λc hc=>by rw[<-A];exact setRow_other m.w (m.σ id) c _ hc
     have an:I (gE y O (List.replicate len z))=I y:=To (by rw[Nr];exact H);have eM:=Mj (o:=.arr T F (gE y O (List.replicate len z))) bh rfl aH1 aHT aHT aHT HY HX;have Iv:vS (m.kS W id (.arr T F (gE y O (List.replicate len z)))) id (.arr T F (gE y O (List.replicate len z))):=by
      refine⟨_,by rw[<-A];exact WU hh,mF,?_,by rw[an];exact kK,rR,?_,?_⟩
      .intro e' EL;unfold gE at EL;simp only[iI]at EL
       grind
      .simp[a7.kS];omega
      rw[an,qT];have h1:=(eJ.pw.1 (Ck.ev eM.zero)).gE (eJ.pw.1 (M (m.kS W id (.arr T F (gE y O (List.replicate len z)))).w (m.kS W id (.arr T F (gE y O (List.replicate len z)))).own)) (O*F);rw[<-ahC J fd]at h1
      simpa [gE]using(eJ.pw.2 h1)
     refine⟨.tuple #[],m.kS W id (.arr T F (gE y O (List.replicate len z))),.inl (run _ _ ?_),OU bh rfl aB aH1 aHT aHT aHT HY HX Iv,eM,rfl,?_,(⟨#[],rfl,rfl,λaw x u h=>by simp at h⟩:c9 _ (.tup []) _)⟩
     .obtain⟨k,rfl⟩:∃k,len=k+1:=⟨len-1,J⟩;simp[Builtin.clear_,R,run_underlying N,zeroValue,typeInfo,hi,Ds,hZ,cN,a7.kS]
     simp[a7.kS,app,B,ke]
    cases hp
   cases hp
 cases hp
end
section
variable {m:a7} {j:bP} {a:Act} {o:Oper} (aB:dW Z m) (hr:ll m j a.tmps)
include aB hr
theorem alC{t F e:TypeId}{x k Y:Operand}{kd:Nat}{v:V}{rd:aD}(h:o.op=.mapUpdate t x k Y\/o.op=.insert t x k Y)(z:P.underlying t=some (.map F e))
  (Q:keyOf P F=some kd) (A:dr x=some x') (B:dr k=some k') (H:dr Y=some y') (hp:cV E j m.blk (.mupd kd ag x' k' y')=.done v u rd):iK P Z a.eval o m v u:=by
 simp[cV]at hp;split at hp
 .rename_i id g q D L n M;split at hp
  .rename_i g' T y ps O f;split at hp
   .rename_i R;obtain⟨rfl,rfl,N⟩:=R;split at hp
    .rename_i i w hf;cases hp;exact ah8 aB hr h z Q A B H L O n N M f hf
    .rename_i hf;cases hp;exact ah8 aB hr h z Q A B H L O n N M f hf
    cases hp
   cases hp
  cases hp
 cases hp
theorem aAR{p:s4}{v:V}{rd:aD}(H:JB P site o=some p)(hp:cV E j m.blk p=.done v u rd):iK P Z a.eval o m v u:=by
 unfold JB at H;split at H
 ·
  rename_i x B;simp only[gW]at H;obtain⟨Y,A,rfl⟩:=H;cases hp;exact anT aB hr (.inl B) A
 ·
  rename_i x B;simp only[gW]at H;obtain⟨Y,A,rfl⟩:=H;cases hp;exact anT aB hr (.inr B) A
 ·
  rename_i c x Y B;split at H
  .rename_i c' x' y' A F L;cases H;simp only[cV]at hp;split at hp
   .rename_i t O;cases hp;exact aGv aB hr B A F L O
   cases hp
  cases H
 ·
  rename_i t B;simp only[gW]at H;obtain⟨z,A,rfl⟩:=H;cases hp;exact axp aB B A
 ·
  rename_i t x B;simp only[gW]at H;obtain⟨z,A,rfl⟩:=H;simp only[cV]at hp;split at hp
  .rename_i D dV;cases hp;exact atd aB hr B A dV
  cases hp
 ·
  rename_i t ps B;split at H
  .rename_i fs z A F;split at H
   .rename_i im;simp only[gW]at H;obtain⟨qs,L,rfl⟩:=H;simp only[cV]at hp;split at hp
    .rename_i rs ad;cases hp;exact atj aB hr B A F im L ad
    cases hp
   cases H
  .rename_i n e z A F;split at H
   .rename_i i hi;simp only[gW]at H;obtain⟨qs,L,rfl⟩:=H;simp only[cV]at hp;split at hp
    .rename_i rs ad;cases hp;exact aAQ aB hr B A F hi L ad
    cases hp
   cases H
  cases H
 ·
  rename_i t n ps B;split at H
  .rename_i e sz bytes z as A F;split at H
   .rename_i X;cases H;simp only[cV]at hp;split at hp
    .rename_i y fD;obtain⟨g1,g2⟩:=aCT (s:=site) aB hr B A F X.1 X.2 fD;split at hp
     .rename_i qs ap;cases hp;exact g1 qs ap
     cases hp;exact g2
    cases hp
   cases H
  cases H
 ·
  rename_i t x B;split at H
  .rename_i k Y A F;cases H;simp only[cV]at hp;split at hp
   .rename_i D r dV;split at hp
    .rename_i v' hv;cases hp;exact ar2 aB hr B A F dV hv
    cases hp
   cases hp
  cases H
 ·
  rename_i t x Y B;split at H
  .rename_i n x' y' A F L;cases H;simp only[cV]at hp;split at hp
   .rename_i D dV;exact as9 aB hr B A F L dV hp
   cases hp
  cases H
 ·
  rename_i x B;simp only[gW]at H;obtain⟨Y,A,rfl⟩:=H;have Q:u=[]/\rd=[]:=by simp only[cV]at hp;split at hp<;>cases hp<;>exact⟨rfl,rfl⟩
  obtain⟨rfl,rfl⟩:=Q;exact atn aB hr B A hp
 ·
  rename_i op t x Y ty B;split at H
  .rename_i x' y' A F;have am:∀(ab:BinOp),p=.bin ab x' y'->ab=op->iK P Z a.eval o m v u:=by
    intro ab N M;subst N M;simp only[cV]at hp;split at hp
    .rename_i v' hv;cases hp;exact ara aB hr B A F hv
    cases hp
   split at H
   .cases H;exact am _ rfl rfl
   .cases H;exact am _ rfl rfl
   split at H
   .rename_i k hk;cases H;simp only[cV]at hp;split at hp
    .rename_i b hb;cases hp;exact anQ aB hr B (.inl ⟨rfl,rfl⟩) hk A F hb
    cases hp
   .rename_i k hk;cases H;simp only[cV]at hp;split at hp
    .rename_i b hb;cases hp;exact anQ aB hr B (.inr ⟨rfl,rfl⟩) hk A F hb
    cases hp
   cases H
  cases H
 ·
  rename_i op t x B;split at H
  .simp only[gW]at H;obtain⟨Y,A,rfl⟩:=H;simp only[cV]at hp;split at hp
   .rename_i b N M;cases hp;exact aEC aB hr B A M
   .rename_i N M;cases N
   cases hp
  .simp only[gW]at H;obtain⟨Y,A,rfl⟩:=H;simp only[cV]at hp;split at hp
   .rename_i N M;cases N
   .rename_i k n N M;cases hp;exact ayc aB hr B A M
   cases hp
  cases H
 ·
  rename_i s d x B;split at H
  .rename_i ks k Y A F L;cases H;simp only[cV]at hp;split at hp
   .rename_i k0 n hn;cases hp;exact aBt aB hr B A F L hn
   cases hp
  .rename_i e Y A F L;split at H
   .rename_i he;cases H;simp only[cV]at hp;split at hp
    .rename_i y r fD;split at hp
     .rename_i bs u7;cases hp;exact asT aB hr B A he F L fD u7
     cases hp
    cases hp
   cases H
  cases H
 ·
  rename_i f x Y B;split at H
  .rename_i x' y' A F;cases H;simp only[cV]at hp;split at hp
   .rename_i D ds N M;cases hp;exact aA2 aB hr B A F N M
   cases hp
  cases H
 ·
  rename_i t B;split at H
  .simp only[gW]at H;obtain⟨k,A,rfl⟩:=H;cases hp;exact auE (f:=t) (e:=t) aB B
  cases H
 ·
  rename_i t l c B;split at H
  .rename_i e sz bytes z l' c' A F L;cases H;simp only[cV]at hp;split at hp
   .rename_i n n' N M;split at hp
    .rename_i X;obtain⟨rfl,nU⟩:=X;cases hp;exact aF0 aB hr B A F L N M nU
    cases hp
   cases hp
  cases H
 ·
  rename_i t x lo hi B;split at H
  .rename_i x' GX zL A F L;split at H
   .rename_i e O;simp only[gW]at H;obtain⟨sz,h4,rfl⟩:=H;simp only[cV]at hp;split at hp
    .rename_i n hn;split at hp
     .rename_i l ar N M;have Q:u=[]/\rd=[]:=by
       unfold Hu at hp;repeat' split at hp
       all_goals first
        |cases hp
        |skip
       all_goals exact⟨rfl,rfl⟩
      obtain⟨rfl,rfl⟩:=Q;exact axC aB hr B O h4 A F L hn N M hp
     cases hp
    cases hp
   .rename_i O;cases H;simp only[cV]at hp;split at hp
    .rename_i s af;split at hp
     .rename_i l ar N M;split at hp
      .rename_i X;cases hp;exact arn aB hr B O A F L af N M X.1 X.2
      cases hp
     cases hp
    cases hp
   cases H
  cases H
 ·
  rename_i s x f B;split at H
  .rename_i fs Y A F;split at H
   .rename_i d hd;split at H
    .rename_i hz;cases H;have Q:u=[]/\rd=[]:=by
      simp only[cV]at hp;split at hp<;>cases hp<;>exact⟨rfl,rfl⟩
     obtain⟨rfl,rfl⟩:=Q;exact awv aB hr B A hd hz F hp
    cases H
   cases H
  cases H
 ·
  rename_i t x f B;split at H
  .rename_i fs Y A F;split at H
   .rename_i d hd;simp only[gW]at H;obtain⟨k,L,rfl⟩:=H;simp only[cV]at hp;split at hp
    .rename_i D dV;split at hp
     .rename_i v' hv;cases hp;exact av9 aB hr B A hd L F dV hv
     cases hp
    cases hp
   cases H
  cases H
 ·
  rename_i t x i B;split at H
  .rename_i x' i' A F;split at H
   .rename_i e O;simp only[gW]at H;obtain⟨sz,L,rfl⟩:=H;have Q:u=[]/\rd=[]:=by
     simp only[cV]at hp;repeat' split at hp
     all_goals first
      |cases hp
      |skip
     all_goals exact⟨rfl,rfl⟩
    obtain⟨rfl,rfl⟩:=Q;exact aF2 aB hr B O L A F hp
   .rename_i n e O;simp only[gW]at H;obtain⟨sz,L,rfl⟩:=H;have Q:u=[]/\rd=[]:=by
     simp only[cV]at hp;repeat' split at hp
     all_goals first
      |cases hp
      |skip
     all_goals exact⟨rfl,rfl⟩
    obtain⟨rfl,rfl⟩:=Q;exact awm aB hr B O L A F hp
   cases H
  cases H
 ·
  rename_i t x i B;split at H
  .rename_i x' i' A F;split at H
   .rename_i n e O;split at H
    .rename_i sz k L h4;cases H;simp only[cV]at hp;split at hp
     .rename_i n' D N M;split at hp
      .rename_i aw;split at hp
       .rename_i v' hv;cases hp;exact aAg aB hr B O L h4 A F N aw M hv
       cases hp
      cases hp
     cases hp
    cases H
   .rename_i O;cases H;simp only[cV]at hp;split at hp
    .rename_i n s N M;split at hp
     .rename_i b hb;cases hp;exact atB aB hr B O A F N M hb
     cases hp
    cases hp
   cases H
  cases H
 ·
  rename_i t x k ok B;split at H
  .rename_i kt e x' k' A F L;split at H
   .rename_i z q h4 h5;split at H
    .rename_i kd h6;split at H
     .rename_i h7;cases H;simp only[cV]at hp;split at hp
      .rename_i y r key N M;split at hp
       .cases hp
       rename_i ES;split at hp
       .rename_i f hf;split at hp
        .rename_i w hw;cases hp;exact ay6 aB hr B A h4 h6 h7 F L N M (Classical.not_not.1 ES) hf hw
        cases hp
       cases hp
      cases hp
     cases H
    cases H
   cases H
  cases H
 ·
  rename_i t x k Y B;split at H
  .rename_i kt e x' k' y' A F L h4;split at H
   .rename_i q h5;simp only[gW]at H;obtain⟨kd,h6,rfl⟩:=H;exact alC aB hr (.inl B) A h6 F L h4 hp
   cases H
  cases H
 ·
  rename_i t x k Y B;split at H
  .rename_i kt e x' k' y' A F L h4;split at H
   .rename_i q h5;simp only[gW]at H;obtain⟨kd,h6,rfl⟩:=H;exact alC aB hr (.inr B) A h6 F L h4 hp
   cases H
  cases H
 ·
  rename_i x i B;simp only[gW]at H;obtain⟨Y,A,rfl⟩:=H;simp only[cV]at hp;split at hp
  .rename_i h ur;split at hp
   .rename_i v' hv;cases hp;exact awK aB hr B A ur hv
   cases hp
  cases hp
 ·
  rename_i c B;split at H
  .rename_i f as A F;simp only[gW]at H;obtain⟨Y,L,rfl⟩:=H;simp only[cV]at hp;repeat' split at hp
   all_goals cases hp
  .rename_i x A F;obtain⟨x0,R,T⟩:=XW F;split at H
   .rename_i t O;split at H
    .rename_i Q;cases H;simp only[cV]at hp;split at hp
     .rename_i s af;cases hp;exact axe aB hr B A R O Q T af
     cases hp
    .rename_i e Q;cases H;simp only[cV]at hp;split at hp
     .rename_i n hn;cases hp;exact aGX aB hr B A R O Q T hn
     cases hp
    .rename_i k e Q;cases H;simp only[cV]at hp;split at hp
     .rename_i n r hn;cases hp;exact aqT aB hr B A R O Q T hn
     cases hp
    cases H
   cases H
  .rename_i x Y A F;obtain⟨x0,y0,R,T,yJ⟩:=acL F;split at H
   .rename_i t u' O Q;split at H
    .rename_i e sz bytes z he;split at H
     .rename_i X;cases H;obtain⟨rfl,an⟩:=X;exact ayf aB hr B A R (ayX O Q an) he T yJ hp
     cases H
    cases H
   cases H
  .rename_i x Y A F;obtain⟨x0,y0,R,T,yJ⟩:=acL F;cases H;simp only[cV]at hp;split at hp
   .rename_i k p k' q N M;cases hp;exact aAr aB hr B A R T yJ N M
   cases hp
  .rename_i x Y A F;obtain⟨x0,y0,R,T,yJ⟩:=acL F;cases H;simp only[cV]at hp;split at hp
   .rename_i k p k' q N M;cases hp;exact ayr aB hr B A R T yJ N M
   cases hp
  .rename_i x A F;obtain⟨x0,R,T⟩:=XW F;split at H
   .rename_i t O;simp only[gW]at H;obtain⟨⟨e,sz,bytes,z⟩,L,rfl⟩:=H;exact aqQ aB hr B A R O L T hp
   cases H
  cases H
 cases H
end
section
variable{m:a7}{D:eC}
def aq7(w:World)(Q:Nat->Prop)(T sz:Nat)(y:dy)(c:Nat)(v:Value):Prop:=∃f h,v=.slice (some ⟨c,0,none⟩) (I y) f/\w.heap[c]?=some (.cells h T (0,0))/\0<sz/\(∀e∈y,I e=sz)/\I y<=f/\f<=maxLen/\h.size=f*sz/\eJ w Q y.flatten (h.toList.take (I y*sz))
def tU(w:World)(Q:Nat->Prop):oR->List Value->aD->Prop
 |[],h,B=>h=[]/\B=[]
 | .p x::r,h,B=>∃v f,h=v::f/\dd w Q x v/\tU w Q r f B
 | .own T sz y::r,h,B=>∃v f c j,h=v::f/\B=c::j/\aq7 w Q T sz y c v/\tU w Q r f j
theorem tU.mono{w:World}(u:∀c,c<w.heap.size-> ¬Q c->w'.heap[c]?=w.heap[c]? /\ ¬Q' c):∀ {R:oR}{h:List Value}{B:aD},(∀c∈B,w'.heap[c]?=w.heap[c]?)->tU w Q R h B->tU w' Q' R h B:=by
 intro R
 induction R with
 |nil=>intro h B _ A;exact A
 |cons r R z=>
  intro h B f A;cases r with
  |p x=>obtain⟨v,n,rfl,M,H⟩:=A;exact⟨v,n,rfl,M.mono u,z f H⟩
  |own ty sz y=>obtain⟨v,n,c,D,rfl,rfl,⟨j,m,T,N,X,Y,E,L,F,O⟩,H⟩:=A;exact⟨v,n,c,D,rfl,rfl,⟨j,m,T,by rw[f c aG];exact N,X,Y,E,L,F,O.mono u⟩,z (λc Z=>f c (by simp[Z])) H⟩
theorem tU.less{w:World}(j:∀b,Q' b->Q b){R:oR}{B:aD}(hr:tU w Q R h B):tU w Q' R h B:=hr.mono (λc _ f=>⟨rfl,λH=>f (j c H)⟩) (λ_ _=>rfl)
theorem awu(aB:dW Z m)(H:∀b,Q b->m.own b){c:cG}{x:PV}{q:aD}(h:gC m.blk jK c=some (x,q))(hr:gh m c v)(af:∀id∈q,¬Q (m.σ id)):dd m.w Q x v:=M7 aB jK h hr ⟨H,af⟩
theorem afR(aB:dW Z m)(hQ:∀b,Q b->m.own b):∀ {D:eC}{R:oR}{o q:aD}{h:List Value},kD m.blk D=some (R,o,q)->eE m D h->(∀id∈q,¬Q (m.σ id))->
  tU m.w Q R h (o.map m.σ)/\ ∀id∈o,∃O,(m.blk id).2=some O/\O.iF:=by
 intro D
 induction D with
 |nil=>
  intro R o q h F hr _;simp only[kD,jb,nR]at F;obtain⟨rfl,rfl,rfl⟩:=F;have:h=[]:=by have:=hr.1;simpa using this
  exact⟨⟨this,rfl⟩,λid F=>by simp at F⟩
 |cons c D ih=>
  intro R o q h F hr hq;simp only[kD]at F;split at F
  .rename_i x o1 q1 L os qs H h2;cases F;cases h with
   |nil=>simp[eE]at hr
   |cons v h=>
    obtain⟨i1,i2⟩:=ih h2 ⟨by have:=hr.1;simpa using this,λj x u a b=>hr.2 (j+1) x u (by simpa using a) aHY⟩ (λid n=>hq id aIz);have X:=hr.2 0 c v rfl rfl;have f:∀ {am:PV},(gC m.blk jK c).map (λ(v,r)=>((.p v:nM),([]:aD),r))=some (x,o1,q1)->tU m.w Q (x::L) (v::h) ((o1++os).map m.σ)/\ ∀id∈o1++os,∃O,(m.blk id).2=some O/\O.iF:=by intro _ H;simp only[gW]at H;obtain⟨⟨am,r⟩,h3,h4⟩:=H;cases h4;exact⟨⟨v,h,rfl,awu aB hQ h3 X (λid n=>hq id aIz),i1⟩,i2⟩
    unfold iN at H;split at H
    .rename_i am;cases H;have hy:dd m.w m.own am v:=by cases X with|p F=>exact F
     exact⟨⟨v,h,rfl,hy.less hQ,i1⟩,i2⟩
    .rename_i id g z len;split at H
     .rename_i g' ty sz y N;split at H
      .rename_i vV;obtain⟨rfl,B⟩:=vV;cases H;have JZ:(m.blk id).2=some (.arr ty sz y):=by rw[N]
       obtain⟨T,hh,kO,E,hl,v7,dV,eD⟩:=aB.obj id _ JZ;cases X with
       |hsl ad ab hg A6 an Qw=>
        obtain⟨f1,f2,f3⟩:=Qw sz (by rw[N]) (by rw[N];rfl);have sK:=f2 (.inl rfl);have A:ab=m.κ id:=by rw[<-f3,lh]
        rw[EF]at sK;subst sK;subst A;have Y:I (y.take len)=len:=fd
        refine⟨⟨_,h,m.σ id,os.map m.σ,rfl,rfl,⟨m.κ id,T,by rw[Y],hh,kO,λe he=>E e (B9 he),by rw[Y];exact A6,v7,dV,?_⟩,i1⟩,?_⟩
        .rw[Y,MF E];have H:=(eJ.pw.1 eD).take (len*sz);rw[Gi,zx (oo _ B)]at H;exact(eJ.pw.2 H).less hQ
        intro j M;simp only[B2,gM,dh]at M;rcases M with rfl|M
        .exact⟨_,JZ,rfl⟩
        exact i2 j M
      cases H
     exact f (am:=.Bm) H
    exact f (am:=.Bm) H
  cases F
theorem akf:∀(R:oR) (site:Nat) (b M:aH),(∀s,site<=s->(b s).1=(M s).1)->ns b site R=ns M site R:=by
 intro R
 induction R with
 |nil=>intro site b M _;rfl
 |cons r R f=>
  intro site b M h;have H:jy b site r=jy M site r:=by
   cases r with
   |p x=>rfl
   |own T sz y=>simp[jy,h site _]
  simp[ns,H,f (site+1) b M (λs af=>h s J)]
theorem aFv{s c k:Nat}{o:gr}(f:m.fr c):wK m (m.install s c k o) where
 own x _ j:=⟨rfl,λh=>j (Xm f h)⟩
 gen id:=by
  simp[a7.install,bG]
  grind
 ref id H af:=by
  simp[a7.install,bG]at H af |-
  grind
theorem wK.trans{a b c:a7}(h:wK a b)(af:a.w.heap.size<=b.w.heap.size)(k:wK b c):wK a c where
 own x f u:=by
  have j:=h.own x f u;have m:=k.own x (CD f af) j.2
  grind
 gen id:=ob (h.gen id) (k.gen id)
 ref id y H:=by
  have j:=h.gen id;have m:=k.gen id;obtain⟨n,E,z,v⟩:=k.ref id J H;obtain _:=h.ref id J n
  grind
theorem aEU{n:a7}:∀ {R:oR}{h:List Value}{D:aD}{site:Nat}{m:a7},dW Z m->tU m.w m.own R h D->D.Nodup->(∀c∈D,m.fr c/\Z.heap.size<=c)->hs n m->(∀c∈D,n.w.heap.size<=c\/n.iF c)->
  ∃M,M.w=m.w/\dW Z M/\hs n M/\wK m M/\(∀c,M.fr c↔m.fr c/\c∉D)/\M.blk=app (ns m.blk site R).2 m.blk/\eE M (ns m.blk site R).1 h:=by
 intro R
 induction R with
 |nil=>intro h D site m aB Q _ _ X _;obtain⟨rfl,rfl⟩:=Q;exact⟨m,rfl,aB,X,⟨λc _ Q=>⟨rfl,Q⟩,λ_=>cP _,λ_ _ Q=>⟨Q,rfl,rfl,rfl⟩⟩,λc=>aG,rfl,rfl,λj x u Q=>by simp[ns]at Q⟩
 |cons r R ih=>
  intro h D site m aB Q eV N X EZ;have cons:∀ {M:a7}{x:cG}{L:eC}{v:Value}{h:List Value},gh M x v->eE M L h->eE M (x::L) (v::h):=by
   intro M x L v h h1 A;refine⟨by simp[A.1],λj am u a b=>?_⟩;cases j with
   |zero=>simp at a b;subst a b;exact h1
   |succ j=>simp at a b;exact A.2 j am u a b
  cases r with
  |p x=>obtain⟨v,qJ,rfl,h1,A⟩:=Q;obtain⟨M,e1,e2,e3,E,e5,e6,Y⟩:=ih aB A eV N X EZ;exact⟨M,e1,e2,e3,E,e5,by simpa [ns,jy]using e6,by simpa [ns,jy]using cons (gh.p (h1.ev E)) Y⟩
  |own T sz y=>
   obtain⟨v,qJ,c,Ga,rfl,rfl,⟨f,ab,q1,q2,q3,q4,q5,q6,q7,q8⟩,A⟩:=Q;have H:=(N c aG).1;have h0:=aFv (s:=site) (k:=f) (o:=.arr T sz y) H;have ad:(m.install site c f (.arr T sz y)).σ site=c:=aux
   have B:(m.install site c f (.arr T sz y)).κ site=f:=aux
   have E0:dW Z (m.install site c f (.arr T sz y)):=SX aB H (N c aG).2
    ⟨ab,by rw[ad];exact q2,q3,q4,by rw[B];exact q5,by rw[B];exact q6,by rw[B];exact q7,eJ.ev h0 q8⟩
   have O:=qQ.1 eV;obtain⟨M,e1,e2,e3,E,e5,e6,Y⟩:=ih E0 (A.less λb hb=>Xm H hb) O.2
    (λd F=>⟨⟨(N d (by simp[F])).1,λe=>O.1 (e▸F)⟩,(N d (by simp[F])).2⟩) (VF X H (EZ c aG)) (λd F=>EZ d (by simp[F]))
   have Zj:ns (m.install site c f (.arr T sz y)).blk (site+1) R=ns m.blk (site+1) R:=akf _ _ _ _ λs af=>by simp only[a7.install,bG];rw[aE J]
   rw[Zj]at e6 Y;refine⟨M,e1,e2,e3,h0.trans (cP _) E,λd=>?_,?_,?_⟩
   .rw[e5 d];simp only[a7.install,dh,Ag];exact⟨λ⟨⟨a,b⟩,c⟩=>⟨a,b,c⟩,λ⟨a,b,c⟩=>⟨⟨a,b⟩,c⟩⟩
   .rw[e6];rfl
   refine cons ?_ Y;have:gh (m.install site c f (.arr T sz y)) (.hsl site ((m.blk site).1+1) sz 0 (I y)) v:=by
    rw[q1];refine .hsl _ _ ?_ q5 q6 λz h1 A=>?_
    .simp[a7.install,bG]
    have hz:mx ((m.install site c f (.arr T sz y)).blk site)=some sz:=by simp[a7.install,bG,mx]
    grind
   exact this.ev E
def Bs:RV->Value->List Value->Prop
 | .one _,v,h=>h=[v]
 | .agg l,v,h=>v=.agg h.toArray/\I h=I l
 | .tup _,_,_=>False
def Hc:List RV->List Value->List Value->Prop
 |[],us,h=>us=[]/\h=[]
 |r::R,us,h=>∃u f a b,us=u::f/\h=a++b/\Bs r u a/\Hc R f b
def Jc:RV->Value->List Value->Prop
 | .tup R,v,h=>∃arr,v=.tuple arr/\Hc R arr.toList h
 |r,v,h=>Bs r v h
theorem eE.take(H:eE m D h)(n:Nat):eE m (D.take n) (h.take n):=eE.pw.2 ((eE.pw.1 H).take n)
theorem eE.drop(H:eE m D h)(n:Nat):eE m (D.drop n) (h.drop n):=eE.pw.2 ((eE.pw.1 H).drop n)
theorem eE.append{f:eC}(H:eE m D h)(k:eE m f us):eE m (D++f) (h++us):=eE.pw.2 ((eE.pw.1 H).append (eE.pw.1 k))
theorem eE.single{c:cG}(h:gh m c v):eE m [c] [v]:=⟨rfl,λj x u a b=>by
 rcases j with _|j
 .grind
 simp at a⟩
theorem aij{v:V}(H:kZ v=some D)(hr:qu m v val):
  ∃h,eE m D h/\ ∀(R T:oR),I R=I D->(nq v (R++T)).2=T/\og (nq v (R++T)).1=R/\Bs (nq v (R++T)).1 val h:=by
 cases v with
 |undef=>simp[kZ]at H
 |tup h=>simp[kZ]at H
 |one c=>
  simp[kZ,jb]at H;subst H;refine⟨[val],eE.single hr,λR T hl=>?_⟩
  match R,hl with
  |[r],_=>exact⟨rfl,rfl,rfl⟩
 |agg f=>
  simp[kZ,jb]at H;subst H;obtain⟨arr,rfl,j⟩:=hr;refine⟨arr.toList,j,λR T hl=>?_⟩;have u:(R++T).take (I f)=R:=by rw[<-hl];exact T_
  have n:(R++T).drop (I f)=T:=by rw[<-hl];exact List.drop_left
  simp only[nq,og,Bs,u,n,true_and];rw[j.1,hl]
theorem aAX:∀ {f:dG}{D:eC}{v:List Value},yO f=some D->Pw (qu m) f v->
  ∃h,eE m D h/\ ∀(R:oR),I R=I D->xI (HQ f R)=R/\Hc (HQ f R) v h:=by
 intro f
 induction f with
 |nil=>
  intro D v H hr;simp only[yO,jb]at H;subst H;have N:v=[]:=by have:=hr.1;simpa using this
  subst N;refine⟨[],⟨rfl,λj x u a=>by simp at a⟩,λR hl=>?_⟩;have:R=[]:=GT
  subst this;exact⟨rfl,rfl,rfl⟩
 |cons w f O=>
  intro D v H hr;simp only[yO]at H;split at H
  .rename_i a b E z;cases H;cases v with
   |nil=>have:=hr.1;simp at this
   |cons val v=>
    obtain⟨n,T,M⟩:=aij E (hr.2 0 w val rfl rfl);obtain⟨y,F,B⟩:=O z ⟨by have:=hr.1;simpa using this,λj x u p q=>hr.2 (j+1) x u (by simpa using p) (by simpa using q)⟩;refine⟨n++y,T.append F,λR hl=>?_⟩;have Z:I R=I a+I b:=GT
    obtain⟨L,A,X⟩:=M (R.take (I a)) (R.drop (I a)) fd;obtain⟨Q,Y⟩:=B (R.drop (I a)) fd;simp only[HQ,xI,L,A,Q,Hc]
    grind [mW]
  cases H
theorem aFh{v:V}(A:mM v=some D)(hr:c9 m v val):
  ∃h,eE m D h/\ ∀(R:oR),I R=I D->mX (oE v R)=R/\Jc (oE v R) val h:=by
 have one:∀ {v:V},kZ v=some D->qu m v val->(∀R,oE v R=(nq v R).1)->∃h,eE m D h/\ ∀(R:oR),I R=I D->mX (oE v R)=R/\Jc (oE v R) val h:=by
  intro v A hr B;obtain⟨h,z,H⟩:=aij A hr;refine⟨h,z,λR hl=>?_⟩;obtain⟨_,n,f⟩:=H R [] hl;rw[j_]at n f;rw[B];generalize(nq v R).1=y at n f;cases y with
  |tup _=>exact f.elim
  |one c=>exact⟨n,f⟩
  |agg c=>exact⟨n,f⟩
 cases v with
 |tup F=>obtain⟨arr,rfl,af,E⟩:=hr;obtain⟨h,z,H⟩:=aAX (v:=arr.toList) A ⟨by simpa using af,λj x u a b=>E j x u a ii⟩;exact⟨h,z,λR hl=>⟨(H R hl).1,arr,rfl,(H R hl).2⟩⟩
 |undef=>simp[mM,kZ]at A
 |one c=>exact one A hr λ_=>rfl
 |agg c=>exact one A hr λ_=>rfl
theorem aeI{r:RV}{a b:List Value}(hf:Bs r val a)(h:eE m D (a++b)):qu m (uH r D).1 val/\eE m (uH r D).2 b:=by
 cases r with
 |tup _=>exact hf.elim
 |one c=>
  subst hf;cases D with
  |nil=>have:=h.1;simp at this
  |cons x L=>exact⟨h.2 0 x val rfl rfl,by have:=h.drop 1;simpa [uH]using this⟩
 |agg l=>
  obtain⟨rfl,hl⟩:=hf;refine⟨⟨_,rfl,?_⟩,?_⟩
  .have:=h.take (I l)
   grind
  have:=h.drop (I l)
  simpa [uH,hl]using this
theorem aup:∀ {R:List RV}{D:eC}{us h:List Value},Hc R us h->eE m D h->Pw (qu m) (zp R D) us:=by
 intro R
 induction R with
 |nil=>intro D us h A _;obtain⟨rfl,rfl⟩:=A;exact⟨rfl,λj x u a=>by simp[zp]at a⟩
 |cons r R B=>
  intro D us h A F;obtain⟨u,L,a,b,rfl,rfl,E,H⟩:=A;obtain⟨y,z⟩:=aeI E F;have n:=B H z;refine⟨by simp[zp,n.1],λj x v Q f=>?_⟩;cases j with
  |zero=>simp[zp]at Q f;subst Q f;exact y
  |succ j=>simp[zp]at Q f;exact n.2 j x v Q f
theorem asG{r:RV}(hf:Jc r val h)(H:eE m D h):c9 m (zC r D) val:=by
 cases r with
 |tup R=>obtain⟨arr,rfl,f⟩:=hf;have:=aup f H;exact⟨arr,rfl,by simpa using this.1,λj x u a b=>this.2 j x u a ii⟩
 |one c=>have:=(aeI (b:=[]) (show Bs (.one c) val h from hf) rg).1;exact c9.of1 this
 |agg c=>have:=(aeI (b:=[]) (show Bs (.agg c) val h from hf) rg).1;exact c9.of1 this
end
section
variable{M:aH}{site:Nat}{v:V}{D:sI}{E:ni}{j:bP}{Y:lH}
def lS(ids:aD)(b M:aH):Prop:=∀id∈ids,M id=b id
def u0(ts:aD)(e e':bP):Prop:=∀t∈ts,e' t=e t
theorem lS.left{x y:aD}{b:aH}(h:lS (x++y) b M):lS x b M:=λi H=>h i mt
theorem lS.right{x y:aD}{b:aH}(h:lS (x++y) b M):lS y b M:=λi H=>h i mt
theorem u0.left{x y:aD}{b M:bP}(h:u0 (x++y) b M):u0 x b M:=λi H=>h i mt
theorem u0.right{x y:aD}{b M:bP}(h:u0 (x++y) b M):u0 y b M:=λi H=>h i mt
section
variable {e e':bP}
theorem gZ{a:fc}(h:u0 a.tmps e e'):ev e' a=ev e a:=by
 cases a with
 |t n=>exact h n (by simp[fc.tmps])
 |_=>rfl
theorem aHp:∀ {as:ve},u0 (F6 as) e e'->as.map (ev e')=as.map (ev e):=by
 intro as
 induction as with
 |nil=>intro _;rfl
 |cons a r f=>intro h;simp only[fq];rw[gZ h.left,f h.right]
theorem ahy:∀ {as:ve},u0 (F6 as) e e'->AH e' as=AH e as:=by
 intro as
 induction as with
 |nil=>intro _;rfl
 |cons a r f=>intro h;simp[AH];rw[gZ h.left,f h.right]
theorem awS:∀ {as:ve},u0 (F6 as) e e'->D5 e' sz as=D5 e sz as:=by
 intro as
 induction as with
 |nil=>intro _;rfl
 |cons a r f=>intro h;simp[D5];rw[gZ h.left,f h.right]
theorem auK:∀ {as:List (Nat×Nat×fc)},u0 (acD as) e e'->B5 e' as=B5 e as:=by
 intro as
 induction as with
 |nil=>intro _;rfl
 |cons a r f=>intro h;obtain _:=a;simp[B5];rw[gZ h.left,f h.right]
theorem Ud{d:Nat}{a:Option fc}(h:u0 (ad6 a) e e'):vI e' d a=vI e d a:=by
 cases a with
 |none=>rfl
 |some a=>simp[vI];rw[gZ h]
theorem aGx{a:fc}(h:u0 a.tmps e e'):JS e' a=JS e a:=by unfold JS;rw[gZ h]
theorem adK{E:Nat->Bool}{blk:aH}{p:s4}(h:u0 p.tmps e e'):cV E e' blk p=cV E e blk p:=by
 cases p with
 |rm x=>simp[cV,gZ h]
 |pick c a b=>simp[cV,gZ h.left.left,gZ h.left.right,gZ h.right]
 |alloc s z=>rfl
 |box s x=>simp[cV,gZ h]
 |build z ps=>simp[cV,auK h]
 |Pg s T sz ps=>simp[cV,awS h]
 |load k x=>simp[cV,gZ h]
 |store n a x=>simp[cV,gZ h.left,gZ h.right]
 |R0 x=>simp[cV,gZ h]
 |bin op x y=>simp[cV,gZ h.left,gZ h.right]
 |eqc k n x y=>simp[cV,gZ h.left,gZ h.right]
 |un op x=>simp[cV,gZ h]
 |conv k x=>simp[cV,gZ h]
 |bstr x=>simp[cV,gZ h]
 |mkfn f a b=>simp[cV,ahy h.left,ahy h.right]
 |mkmap s ag=>rfl
 |Ry s T sz bytes z l c=>simp[cV,gZ h.left,gZ h.right]
 |slice sz x lo H=>simp[cV,gZ h.left.left,Ud h.left.right,Ud h.right]
 |sslice x lo H=>simp[cV,gZ h.left.left,Ud h.left.right,Ud h.right]
 |EB O x=>simp[cV,gZ h]
 |Q7 sz x i=>simp[cV,gZ h.left,gZ h.right]
 |O2 l sz x i=>simp[cV,gZ h.left,gZ h.right]
 |fld O k x=>simp[cV,gZ h]
 |aidx l sz k x i=>simp[cV,gZ h.left,gZ h.right]
 |sidx x i=>simp[cV,gZ h.left,gZ h.right]
 |lookup kd z ag ok x k=>simp[cV,gZ h.left,gZ h.right]
 |mupd kd ag m k v=>simp[cV,gZ h.left.left,gZ h.left.right,gZ h.right]
 |bad=>rfl
 |extract x i=>simp[cV,gZ h]
 |call s f as=>simp[cV,aGx h.left,aHp h.right]
 |slen x=>simp[cV,gZ h]
 |Vd x=>simp[cV,gZ h]
 |mlen x=>simp[cV,gZ h]
 |append s T sz b x y=>simp[cV,gZ h.left,gZ h.right]
 |max x y=>simp[cV,gZ h.left,gZ h.right]
 |min x y=>simp[cV,gZ h.left,gZ h.right]
 |clear z x=>simp[cV,gZ h]
end
section
variable {b M:aH}
theorem Bt{α β:Type}{f g:α->Option (β×aD)}(hf:∀x y r,f x=some (y,r)->lS r b M->g x=some (y,r)):∀ {L:List α}{ys:List β}{r:aD},iP f L=some (ys,r)->lS r b M->iP g L=some (ys,r):=by
 intro L
 induction L with
 |nil=>intro ys r h _;exact h
 |cons x L j=>
  intro ys r h H;simp[iP]at h |-;split at h
  .rename_i y p B q E m;cases h;rw[hf _ _ _ E H.left,j m H.right]
  cases h
theorem Q6:∀(n:Nat) (c:cG) (x:PV) (r:aD),gC b n c=some (x,r)->lS r b M->gC M n c=some (x,r):=by
 intro n
 induction n with
 |zero=>intro c x r h;simp[gC]at h
 |succ n m=>
  intro c x r h j;cases c with
  |p v=>exact h
  |aW id g O=>
   have H:id∈r:=by
    simp only[gC]at h
    (repeat' split at h)<;>first
     |cases h
     |skip
    all_goals simp
   simp only[gC]at h |-;rw[j id H];split at h
   .split at h
    .rename_i u;rw[aI u];split at h
     .rename_i B;cases h;rw[Bt m B (λi A=>j i aIl)]
     cases h
    cases h
   .exact h
   cases h
  |eo id g i O=>
   have H:id∈r:=by
    simp only[gC,gW]at h
    grind
   simp only[gC]at h |-;rw[j id H];exact h
  |hsl id g z O len=>
   have H:id∈r:=by
    simp only[gC]at h
    (repeat' split at h)<;>first
     |cases h
     |skip
    all_goals simp
   simp only[gC]at h |-;rw[j id H];split at h
   .exact h
   .exact h
   .split at h
    .rename_i u;rw[aI u];split at h
     .rename_i B;cases h;rw[Bt (λ_ _ _ p q=>Bt m p q) B (λi A=>j i aIl)]
     cases h
    cases h
   cases h
  |ow id g=>
   have H:id∈r:=by
    simp only[gC]at h
    (repeat' split at h)<;>first
     |cases h
     |skip
    all_goals simp
   simp only[gC]at h |-;rw[j id H];exact h
  |hfn f x y=>
   simp only[gC]at h |-;split at h
   .rename_i E D;cases h;rw[Bt m E j.left,Bt m D j.right]
   cases h
theorem aEd(x y:V)(r:aD)(h:s9 b x=some (y,r))(j:lS r b M):s9 M x=some (y,r):=by
 cases x with
 |undef=>simp[s9]at h
 |tup _=>simp[s9]at h
 |one c=>simp only[s9,gW]at h |-;obtain⟨⟨p,q⟩,f,H⟩:=h;cases H;exact⟨_,Q6 _ _ _ _ f j,rfl⟩
 |agg D=>simp only[s9,gW]at h |-;obtain⟨⟨p,q⟩,f,H⟩:=h;cases H;exact⟨_,Bt (Q6 _) f j,rfl⟩
theorem aG4{r:aD}(h:Ej b L=some (ys,r))(H:lS r b M):Ej M L=some (ys,r):=Bt aEd h H
theorem aqZ{all:aD}{id:Nat}(h:zV b all id=some u)(f:id∈all)(H:lS all b M):zV M all id=some u:=by
 unfold zV at h |-;rw[H id f];split at h
 .split at h
  .rename_i ps r j;split at h
   .rename_i hr;rw[Bt (Q6 _) j (λi m=>H i ii)]
    grind
   cases h
  cases h
 .exact h
 .split at h
  .rename_i ps r j;split at h
   .rename_i hr;rw[Bt (λ_ _ _ p q=>Bt (Q6 _) p q) j (λi m=>H i ii)]
    simp_all
   cases h
  cases h
 .exact h
 .cases h
 exact h
theorem aFQ{all:aD}(m:lS all b M):∀ {ids:aD}{u:lq},(∀i∈ids,i∈all)->xh b all ids=some u->xh M all ids=some u:=by
 intro ids
 induction ids with
 |nil=>intro u _ h;exact h
 |cons i r n=>
  intro u af h;simp[xh]at h |-;split at h
  .rename_i x y v H;cases h;rw[aqZ v (af i aG) m,n (λj f=>af j aig) H]
  cases h
theorem QK{ids:aD}(h:vF b ids=some u)(H:lS ids b M):vF M ids=some u:=aFQ H (λ_ h=>h) h
theorem aHs{r:nM}(h:lS ((jy b site r).2.map (·.1)) b M):jy M site r=jy b site r:=by
 cases r with
 |p x=>rfl
 |own T sz y=>simp[jy];rw[h site (by simp[jy])]
theorem aF5:∀ {R:oR}{site:Nat},lS ((ns b site R).2.map (·.1)) b M->ns M site R=ns b site R:=by
 intro R
 induction R with
 |nil=>intro site _;rfl
 |cons r R f=>intro site h;simp only[ns,iT]at h |-;rw[aHs h.left,f h.right]
theorem akR{r:RV}(h:lS ((jH b site r).2.map (·.1)) b M):jH M site r=jH b site r:=by unfold jH at h |-;rw[aF5 h]
theorem aGS{rd:aD}{r:RV}(h:fQ b rd site r=some (v,u))(j:lS rd b M)(H:lS (u.map (·.1)) b M):fQ M rd site r=some (v,u):=by
 unfold fQ at h |-;split at h
 .rename_i f;rw[aI f];cases h;rw[akR H];rfl
 rename_i f;rw[aE f];split at h
 .rename_i F hf;cases h;rw[QK hf j];rw[iT]at H;rw[akR H.right]
 cases h
theorem an0{D:eC}{r:aD}(h:Ek b x=some (D,r))(f:lS r b M):Ek M x=some (D,r):=by
 have key:=λid H=>f id H;unfold Ek at h |-;split at h
 .exact h
 .grind
 .rename_i id g i O;have H:id∈r:=by
   grind
  grind
 cases h
theorem aC7{r:aD}(h:CU b x=some (n,r))(f:lS r b M):CU M x=some (n,r):=by
 unfold CU at h |-;split at h
 .exact h
 .exact h
 .rename_i id g;have H:id∈r:=by
   grind
  simp[(λid H=>f id H) id H];exact h
 cases h
theorem aE5{r:aD}(h:vc b ag x=some (y,r))(f:lS r b M):vc M ag x=some (y,r):=by
 unfold vc at h |-;split at h
 .exact h
 .exact h
 .rename_i id g;have H:id∈r:=by
   grind
  simp[(λid H=>f id H) id H];exact h
 cases h
theorem Sq{y:dy}{r fr:aD}(h:gP b x=some (y,r,fr))(f:lS r b M)(hf:lS fr b M):gP M x=some (y,r,fr):=by
 unfold gP at h |-;split at h
 .exact h
 .exact h
 .rename_i id g z O len;have H:id∈r:=by
   grind
  simp[(λid H=>f id H) id H];split at h
  .exact h
  .exact h
  .split at h
   .rename_i m;rw[aI m];split at h
    .rename_i j;cases h;rw[Bt (λ_ _ _ p q=>Bt (Q6 _) p q) j hf]
    cases h
   cases h
  exact h
 cases h
theorem aEI{a:V}{L:eC}{r:aD}(h:Dc b a n L=.done v u r)(f:lS r b M):Dc M a n L=.done v u r:=by
 have key:=λid H=>f id H;unfold Dc at h |-;split at h
 .cases h
 rename_i j;split at h
 .grind
 .grind
 cases h
theorem aBL{T bytes:Nat}{s:V}{r:aD}(h:jl b site T sz bytes s x=.done v u r)(m:lS r b M):jl M site T sz bytes s x=.done v u r:=by
 unfold jl at h |-;split at h
 .cases h
 rename_i new rd fr eo;split at h
 .cases h
 rename_i j;split at h
 .cases h
 rename_i L A;have f:∀ {l:aD},(∀i∈l,i∈r)->lS l b M:=λhl i H=>m i (hl i H);split at h
 .split at h
  .rename_i n;cases h;rw[Sq eo m.left m.right];simp only;rw[aE j,QK A m.right];simp only;rw[aI n]
  rename_i n;split at h
  .rename_i hr;cases h;rw[Sq eo (f λi H=>by simp[H]) (f λi H=>by simp[H])];simp only;rw[aE j,QK A (f λi H=>by simp[H])];simp only;rw[aE n,aI hr,m site aG]
  cases h
 .split at h
  .cases h
  rename_i n;split at h
  .rename_i hr;cases h;rw[Sq eo (f λi H=>by simp[H]) (f λi H=>by simp[H])];simp only;rw[aE j,QK A (f λi H=>by simp[H])];simp only;rw[aE n,aI hr,m site aG]
  cases h
 .rename_i id g z len;split at h
  .rename_i g' E F y D;split at h
   .rename_i hr;cases h;rw[Sq eo (f λi H=>by simp[H]) (f λi H=>by simp[H])];simp only;rw[aE j,QK A (f λi H=>by simp[H])];simp only;have B:=m id aG;rw[D]at B;simp only[B];rw[aI hr,m site aG]
   cases h
  cases h
 cases h
end
theorem ayS{E:Nat->Bool}{e:bP}{b:aH}{p:s4}{r:aD}(h:cV E e b p=.done v u r)(H:lS r b M):cV E e M p=.done v u r:=by
 cases p with
 |alloc s z=>simp only[cV,D7.done.injEq]at h |-;obtain⟨O,L,A⟩:=h;rw[H s (by rw[<-A];simp)];exact⟨O,L,A⟩
 |mkmap s ag=>simp only[cV,D7.done.injEq]at h |-;obtain⟨O,L,A⟩:=h;rw[H s (by rw[<-A];simp)];exact⟨O,L,A⟩
 |box s x=>
  simp only[cV]at h |-;split at h
  .cases h;rw[H s aG]
  cases h
 |Pg s T sz ps=>
  simp only[cV]at h |-;split at h
  .split at h
   .cases h;rw[H s aG]
   cases h;rw[H s aG]
  cases h
 |Ry s T sz bytes z l c=>
  simp only[cV]at h |-;split at h
  .split at h
   .rename_i B;cases h;rw[aI B,H s aG]
   cases h
  cases h
 |load k x=>
  simp only[cV]at h |-;split at h
  .rename_i D q F;split at h
   .rename_i v' hv;cases h;rw[an0 F H];simp only[hv]
   cases h
  cases h
 |store n a x=>
  simp only[cV]at h |-;split at h
  .exact aEI h H
  cases h
 |bstr x=>
  simp only[cV]at h |-;split at h
  .rename_i y q F;split at h
   .rename_i bs j;cases h;rw[Sq F H (λi hi=>by simp at hi)];simp only[j]
   cases h
  cases h
 |lookup kd z ag ok x k=>
  simp only[cV]at h |-;split at h
  .rename_i y q key hm X;split at h
   .cases h
   rename_i Y;split at h
   .rename_i f hf;split at h
    .rename_i w Z;cases h;rw[aE5 hm H,X];simp only;rw[aE Y];simp only[hf,Z]
    cases h
   cases h
  cases h
 |clear z x=>
  simp only[cV]at h |-;split at h
  .cases h;rfl
  .cases h;rfl
  .rename_i id g w ab len e;split at h
   .rename_i Q;cases h;simp only[Q,if_true]
   rename_i Q;split at h
   .rename_i g' T sz y N;split at h
    .rename_i B;cases h;have j:=H id aG;rw[N]at j;rw[aE Q];simp only[j];rw[aI B]
    cases h
   cases h
  cases h
 |mupd kd ag m k v=>
  simp only[cV]at h |-;split at h
  .rename_i id g q D O L A;split at h
   .rename_i g' wV y ps N R;split at h
    .rename_i B;split at h
     .rename_i i w hf;cases h;have j:=H id aG;rw[N]at j;simp only[j,R];rw[aI B];simp only[hf]
     .rename_i hf;cases h;have j:=H id aG;rw[N]at j;simp only[j,R];rw[aI B];simp only[hf]
     cases h
    cases h
   cases h
  cases h
 |mlen x=>
  simp only[cV]at h |-;split at h
  .rename_i n q F;cases h;rw[aC7 F H]
  cases h
 |append s T sz bytes x ad=>exact aBL h H
 |call s f as=>
  simp only[cV]at h
  (repeat' split at h)<;>cases h
 |_=>exact h
theorem as5{E:Nat->Bool}{e:bP}{b:aH}{p:s4}{s:Nat}{h:dG}{r:aD}(H:cV E e b p=.pc f h r s)(j:lS r b M):cV E e M p=.pc f h r s:=by
 cases p with
 |call s f as=>
  simp[cV]at H |-;split at H
  .split at H
   .cases H
   rename_i m;rw[aE m];split at H
   .rename_i af;cases H;rw[aG4 af j]
   cases H
  cases H
 |_=>
  exact aIN
theorem atw{E:Nat->Bool}{e:bP}{b:aH}{p:s4}{h:dG}(H:cV E e b p=.sc f h):cV E e M p=.sc f h:=by
 cases p with
 |call s f as=>
  simp[cV]at H |-
  grind
 |_=>
  exact aIN
theorem arx:∀(u:lq) (b M:aH) (id:Nat),id∈u.map (·.1)->app u b id=app u M id:=by
 intro u
 induction u with
 |nil=>intro b M id h;simp at h
 |cons x u f=>
  intro b M id h;obtain⟨i,o⟩:=x;simp[app];by_cases H:id∈u.map (·.1)
  .exact f _ _ _ H
  have j:id=i:=by simpa [H]using h
  have key:∀(u:lq) (b:aH),id∉u.map (·.1)->app u b id=b id:=by
   intro u
   induction u with
   |nil=>intro b _;rfl
   |cons x u f=>intro b h;obtain _:=x;simp only[fq,dh,Ag]at h;simp[app];rw[f _ h.2,bG,aE h.1]
  rw[key u _ H,key u _ H,bG,bG,aI j,aI j]
theorem Y1:∀(u:lq) (b:aH) (id:Nat),id∉u.map (·.1)->app u b id=b id:=by
 intro u
 induction u with
 |nil=>intro b id _;rfl
 |cons x u f=>intro b id h;obtain _:=x;simp only[fq,dh,Ag]at h;simp[app];rw[f _ _ h.2,bG,aE h.1]
theorem axY{e e':bP}{g:Option (Nat×Bool)}(h:∀t w,g=some (t,w)->e' t=e t):th e' g=th e g:=by
 cases g with
 |none=>rfl
 |some q=>obtain⟨t,w⟩:=q;simp[th,h t w rfl]
def jk.writes(f:jk)(id:Nat):Bool:=f.wr.contains id||f.fs.contains (lf id)
def jk.xS(f:jk)(id:Nat):Bool:=f.rd.contains id||f.writes id
theorem aid{b:aH}:∀(n:Nat) (c:cG),lS (oj b n c) b M->oj M n c=oj b n c:=by
 intro n
 induction n with
 |zero=>intro c _;rfl
 |succ n u=>
  have m:∀(D:eC),lS (D.map (oj b n)).flatten b M->(D.map (oj M n)).flatten=(D.map (oj b n)).flatten:=by
   intro D
   induction D with
   |nil=>intro _;rfl
   |cons c D j=>intro h;simp at h |-;rw[u c h.left,j h.right]
  intro c h;cases c with
  |p v=>rfl
  |aW id g O=>
   simp[oj]at h |-;rw[h id aG];split
   .rename_i D Q;rw[Q]at h;rw[m D (λi H=>h i ii)]
   rfl
  |eo id g i O=>
   simp only[oj]at h |-;rw[h id aG];split
   .rename_i D Q;rw[Q]at h;rw[m _ (λi H=>h i (by simp only[dh];exact .inr H))]
   rfl
  |hsl id g z O len=>
   simp only[oj]at h |-;rw[h id aG];split
   .rename_i D Q;rw[Q]at h;rw[m _ (λi H=>h i (by simp only[dh];exact .inr H))]
   rfl
  |ow id g=>rfl
  |hfn f x y=>
   simp[oj]at h |-
   grind
theorem aA6{b:aH}(v:V)(h:lS (mI b v) b M):mI M v=mI b v:=by
 cases v with
 |undef=>rfl
 |tup _=>rfl
 |one c=>exact aid _ _ h
 |agg D=>
  simp[mI]at h |-
  induction D with
  |nil=>rfl
  |cons c D f=>simp at h |-;rw[aid _ c h.left,f h.right]
theorem axb{h:dG}{b:aH}(H:lS (iA E f h b).ids b M):iA E f h M=iA E f h b:=by
 have:(h.map (mI M)).flatten=(h.map (mI b)).flatten:=by
  unfold iA at H
  induction h with
  |nil=>rfl
  |cons v h j=>simp at H |-;rw[aA6 v H.left,j H.right]
 unfold iA;rw[this]
def DT(D:sI):Prop:=∀f h al blk v F,D f h al blk=some (v,F)->(∀id,al.ok id=false->F id=blk id)/\
 ∀bt,(∀id,al.ok id->bt id=blk id)->∃j,D f h al bt=some (v,j)/\ ∀id,j id=if al.ok id then F id else bt id
theorem TZ{al:cD}{l:aD}(h:al.iG l){id:Nat}(H:id∈l):al.ok id:=mz.1 h id H
theorem asI{a b:cD}(m:b.any=false)(h:a.holds b){id:Nat}(H:b.ok id):a.ok id:=by
 unfold cD.holds at h;simp only[nK,cF]at h;rcases h with h|⟨j,f⟩
 .simp[cD.ok,h]
 simp[cD.ok,m,H7,nK]at H;rcases H with H|H
 .exact TZ j J
 have:=mz.1 f _ J;simp only[cD.ok,nK];exact .inr this
theorem abY(dV:DT D){o:lI}{blk:aH}{f:jk}(n:mP E Y D o j blk=some (X,F,f)):
  ∃v,X=dL j o.dst v/\(∀id,f.writes id=false->F id=blk id)/\(∀id,f.xS id->E.al.ok id)/\
   ∀(m:bP) (bt:aH),u0 o.Lp j m->(∀id,f.xS id->bt id=blk id)->
    ∃O,mP E Y D o m bt=some (dL m o.dst v,O,f)/\ ∀id,O id=if f.writes id then F id else bt id:=by
 have A:∀(m:bP),u0 o.Lp j m->u0 o.op.tmps j m/\th m o.guard=th j o.guard:=by intro m n;unfold lI.Lp at n;exact⟨n.left,axY λt w hg=>n.right t (by rw[hg];simp)⟩
 have B:∀(r w:aD) (id:Nat),(⟨r,w,[]⟩:jk).writes id=w.contains id:=by intro r w id;simp[jk.writes]
 have L:∀(r w:aD) (id:Nat),(⟨r,w,[]⟩:jk).xS id↔id∈r\/id∈w:=by intro r w id;simp[jk.xS,jk.writes]
 have N:∀(u:lq) (b b2:aH) (r:aD) (id:Nat),app u b2 id=if(⟨r,u.map (·.1),[]⟩:jk).writes id then app u b id else b2 id:=by
  intro u b b2 r id;rw[B];by_cases H:id∈u.map (·.1)
  .rw[aI rg];exact arx _ _ _ _ H
  rw[aE rg];exact Y1 _ _ _ H
 unfold mP at n;split at n
 .cases n
 .rename_i M;cases n;refine⟨.undef,rfl,λ_ _=>rfl,λid H=>by simp[jk.xS,jk.writes]at H,λm bt y z=>⟨bt,?_,λid=>by simp[jk.writes]⟩⟩;unfold mP;rw[(A m y).2,M]
 rename_i M;split at n
 .cases n
 .rename_i v u r hp;split at n
  .rename_i aB;cases n;refine⟨v,rfl,λid H=>Y1 _ _ _ (by rw[B]at H;simpa using H),λid H=>TZ aB (by have:=(L _ _ _).1 H;simpa using this),λm bt y z=>⟨app u bt,?_,λid=>N _ _ _ _ _⟩⟩;unfold mP;rw[(A m y).2,M];simp only;rw[adK (A m y).1,ayS hp λid H=>z id ((L _ _ _).2 (.inl H))];simp only;rw[aI aB]
  cases n
 .rename_i g h r s hp;split at n
  .rename_i x R;split at n
   .rename_i v u hl;split at n
    .rename_i aB;cases n;refine⟨v,rfl,λid H=>Y1 _ _ _ (by rw[B]at H;simpa using H),λid H=>TZ aB (by have:=(L _ _ _).1 H;simp at this |-;rcases this with n|n<;>simp[n]),λm bt y z=>⟨app u bt,?_,λid=>N _ _ _ _ _⟩⟩;unfold mP;rw[(A m y).2,M];simp only;rw[adK (A m y).1,as5 hp λid H=>z id ((L _ _ _).2 (.inl mt))];simp only[R];rw[aGS hl (λid H=>z id ((L _ _ _).2 (.inl mt))) λid H=>z id ((L _ _ _).2 (.inr H))];simp only;rw[aI aB]
    cases n
   cases n
  cases n
 rename_i g h hp;split at n
 .rename_i aB;split at n
  .rename_i v b1 R;cases n;have T:∀id,(⟨(iA E g h blk).ids,(iA E g h blk).ids,(iA E g h blk).fs⟩:jk).writes id=(iA E g h blk).ok id:=by
    intro id;simp[jk.writes,cD.ok,iA]
   have Z:∀id,(⟨(iA E g h blk).ids,(iA E g h blk).ids,(iA E g h blk).fs⟩:jk).xS id=(iA E g h blk).ok id:=by intro id;simp only[jk.xS,T];simp only[cD.ok];cases(iA E g h blk).ids.contains id<;>simp
   obtain⟨l1,l2⟩:=dV _ _ _ _ _ _ R;refine⟨v,rfl,λid H=>l1 id (by rw[<-T];exact H),λid H=>asI rfl aB (by rw[<-Z];exact H),λm bt y z=>?_⟩;obtain⟨O,g1,g2⟩:=l2 bt λid H=>z id (by rw[Z];exact H);have Q:iA E g h bt=iA E g h blk:=axb λid H=>z id (by rw[Z];simp[cD.ok,H]);refine⟨O,?_,λid=>by rw[T];exact g2 id⟩;unfold mP;rw[(A m y).2,M];simp only;rw[adK (A m y).1,atw hp];simp only[Q];rw[aI aB];simp only[g1]
  cases n
 cases n
theorem aC3(j:bP){d D:eF}(v f:V)(h:∀t,d=some t->D≠some t):dL (dL j d v) D f=dL (dL j D f) d v:=by
 cases d with
 |none=>rfl
 |some t=>
  cases D with
  |none=>rfl
  |some T=>
   funext x;simp[dL,bG]
   grind
theorem ahJ{d:eF}{t:Nat}(h:d≠some t):dL j d v t=j t:=by
 cases d with
 |none=>rfl
 |some x=>simp only[dL,bG];rw[aE (λe=>h aIC)]
theorem Xb{a b:aD}(h:sd a b=false){i:Nat}(f:i∈a):i∉b:=by
 intro H;have:sd a b:=by simp[sd,Bk];exact⟨i,f,by simpa using H⟩
 grind
theorem ae1{fs ids:aD}(h:zh fs ids=false){i:Nat}(H:i∈ids):lf i∉fs:=by
 intro hf;have:zh fs ids:=by simp[zh,Bk];exact⟨i,H,by simpa using hf⟩
 grind
theorem aCw{a b:jk}(h:zc a b=false)(id:Nat):(a.writes id->b.xS id=false)/\(b.writes id->a.xS id=false):=by
 simp[zc,Bool.or_eq_false_iff]at h;obtain _:=h;have sw:∀ {x y:aD},sd x y=false->sd y x=false:=by
  intro x y h;cases f:sd y x with
  |false=>rfl
  |true=>simp[sd,Bk]at f;obtain⟨i,n,v⟩:=f;exact absurd n (Xb h J)
 have one:∀ {a b:jk},sd a.wr b.rd=false->sd a.wr b.wr=false->sd a.fs b.fs=false->zh a.fs (b.rd++b.wr)=false->zh b.fs (a.rd++a.wr)=false->a.writes id->b.xS id=false:=by
  intro a b u m fv j fZ H;simp[jk.writes,nK]at H;simp only[jk.xS,jk.writes,Bool.or_eq_false_iff];rcases H with H|H
  .have H:id∈a.wr:=by simpa using H
   exact⟨by simpa using Xb u H,by simpa using Xb m H,by simpa using ae1 fZ mt⟩
  have H:lf id∈a.fs:=rg
  refine⟨?_,?_,?_⟩
  .cases f:b.rd.contains id with
   |false=>rfl
   |true=>exact absurd H (ae1 j ii)
  .cases f:b.wr.contains id with
   |false=>rfl
   |true=>exact absurd H (ae1 j aH2)
  simpa using Xb fv H
 grind
theorem swap{E:ni}{Y:lH}{D:sI}(dV:DT D){x y:lI}{j O:bP}{blk:aH}{L v:jk}(hx:mP E Y D x j blk=some (ik,cE,L))(Z:mP E Y D y ik cE=some (O,bt,v))
  (hf:Jf x y) (hc:zc L v=false):∃f B,mP E Y D y j blk=some (f,B,v)/\mP E Y D x f B=some (O,bt,L):=by
 obtain⟨mr,rfl,F,_,A⟩:=abY dV hx;obtain⟨v2,rfl,Q,_,z⟩:=abY dV Z;have N:∀t,x.dst=some t->t∉y.Lp/\y.dst≠some t:=by
  intro t H;simp[Jf,H,cF]at hf
  grind
 have R:∀t,y.dst=some t->t∉x.Lp:=by
  intro t H;simp[Jf,H,cF]at hf
  simpa using(hf.2)
 have M:=aCw hc;have nw:∀ {a b:jk}{id:Nat},(a.writes id->b.xS id=false)->b.xS id->a.writes id=false:=ii
 have wt:∀ {a:jk}{id:Nat},a.writes id->a.xS id:=by intro a id h;simp[jk.xS,h]
 obtain⟨B,u,T⟩:=z j blk (λt H=>(ahJ λe=>(N t e).1 H).symm) (λid m=>(F id (nw (M id).1 m)).symm);obtain⟨n,X,xb⟩:=A (dL j y.dst v2) B (λt H=>ahJ λe=>R t e H) (λid m=>by rw[T id,nw (M id).2 m];rfl)
 refine⟨_,B,u,?_⟩;rw[X,aC3 j mr v2 λt H=>(N t H).2];have:n=bt:=ii
 rw[this]
structure FA where
 i:Nat
 io:lI
 e:jk
def T3(x y:FA):Prop:=Jf x.io y.io=true/\zc x.e y.e=false
theorem ahr{o:lI}{r:fx}{blk:aH}{e:jk}{y:gl}(h:jX E Y D (o::r) j blk=some (X,F,e::y)):
  ∃ik cE,mP E Y D o j blk=some (ik,cE,e)/\jX E Y D r ik cE=some (X,F,y):=by
 simp[jX]at h
 grind
theorem ayU{o:lI}{r:fx}{blk:aH}{e:jk}{y:gl}(h:mP E Y D o j blk=some (ik,cE,e))(H:jX E Y D r ik cE=some (X,F,y)):
  jX E Y D (o::r) j blk=some (X,F,e::y):=by
 simp only[jX,h,H]
theorem aCv(dV:DT D){y:FA}{f:List FA}:∀ {L:List FA}{j X:bP}{blk F:aH},jX E Y D ((L++y::f).map (·.io)) j blk=some (X,F,(L++y::f).map (·.e))->(∀x∈L,T3 x y)->
  ∃ik cE,mP E Y D y.io j blk=some (ik,cE,y.e)/\jX E Y D ((L++f).map (·.io)) ik cE=some (X,F,(L++f).map (·.e)):=by
 intro L
 induction L with
 |nil=>intro j X blk F h _;exact ahr h
 |cons x L T=>intro j X blk F h R;obtain⟨v,A,Q,H⟩:=ahr h;obtain⟨u,n,M,O⟩:=T H λz hz=>R z (by simp[hz]);obtain⟨m,B,Z,N⟩:=swap dV Q M (R x aG).1 (R x aG).2;exact⟨m,B,Z,ayU N O⟩
def G5(al:cD)(b b2:aH):Prop:=∀id,al.ok id->b2 id=b id
def y7(al:cD)(M b2 Jz:aH):Prop:=∀id,Jz id=if al.ok id then M id else b2 id
def Frame(al:cD)(b M:aH):Prop:=∀id,al.ok id=false->M id=b id
theorem y7.agree{al:cD}(h:y7 al M b2 Jz):G5 al M Jz:=λid H=>by rw[h id,H];rfl
theorem y7.trans{al:cD}{A:aH}(h:y7 al M b2 Jz)(k:y7 al b'' Jz A):y7 al b'' b2 A:=λid=>by rw[k id,h id];cases al.ok id<;>rfl
theorem y7.refl{al:cD}{b:aH}(h:G5 al b b2):y7 al b b2 b2:=λid=>by
 cases H:al.ok id with
 |true=>exact h id H
 |false=>rfl
theorem Frame.trans{al:cD}{b:aH}(h:Frame al b M)(k:Frame al M b''):Frame al b b'':=λid H=>(k id H).trans (h id H)
section
variable {E:ni} {Y:lH} {D:sI} (dV:DT D)
include dV
theorem azb:∀ {ops:fx}{j X:bP}{blk F:aH}{y:gl},jX E Y D ops j blk=some (X,F,y)->Frame E.al blk F/\
  ∀bt,G5 E.al blk bt->∃n,jX E Y D ops j bt=some (X,n,y)/\y7 E.al F bt n:=by
 intro ops
 induction ops with
 |nil=>intro j X blk F y h;obtain⟨rfl,rfl,rfl⟩:=h;exact⟨λ_ _=>rfl,λbt f=>⟨bt,rfl,.refl f⟩⟩
 |cons o ops ih=>
  intro j X blk F y h;simp[jX]at h;split at h
  .rename_i ik cE e Q;split at h
   .rename_i dq bt iU x;cases h;obtain⟨v,rfl,fr,T,L⟩:=abY dV Q;obtain⟨f2,N⟩:=ih x;have u:∀id,E.al.ok id=false->e.writes id=false:=by
     intro id H;cases m:e.writes id with
     |false=>rfl
     |true=>have:=T id (by simp[jk.xS,m]);rw[H]at this;cases this
    refine⟨Frame.trans (λid H=>fr id (u id H)) f2,λb2 f=>?_⟩;obtain⟨B,R,Z⟩:=L j b2 (λ_ _=>rfl) (λid H=>f id (T id H));have z:y7 E.al cE b2 B:=by
     intro id;rw[Z id];cases H:E.al.ok id with
     |true=>
      cases m:e.writes id with
      |true=>rfl
      |false=>simp;rw[f id H,fr id m]
     |false=>rw[u id H]
    obtain⟨A,O,M⟩:=N B z.agree;exact⟨A,by simp[jX,R,O],z.trans M⟩
   cases h
  cases h
theorem avT{c:bP->aH->Option (pQ×bP×aH)}(u:∀ {j X blk F e},c j blk=some (e,X,F)->Frame E.al blk F/\ ∀bt,G5 E.al blk bt->∃f,c j bt=some (e,X,f)/\y7 E.al F bt f):
  ∀(k:Nat) {j X:bP}{blk F:aH}{e:pQ},nm c k j blk=some (e,X,F)->Frame E.al blk F/\ ∀bt,G5 E.al blk bt->∃f,nm c k j bt=some (e,X,f)/\y7 E.al F bt f:=by
 intro k
 induction k with
 |zero=>intro j X blk F e h;simp[nm]at h
 |succ k N=>
  intro j X blk F e h;simp[nm]at h;split at h
  .rename_i ik cE A;obtain⟨n,g1⟩:=u A;obtain⟨L,y⟩:=N h;refine⟨n.trans L,λb2 H=>?_⟩;obtain⟨B,m,M⟩:=g1 b2 H;obtain⟨x,z,v⟩:=y B M.agree;exact⟨x,by simp[nm,m,z],M.trans v⟩
  rename_i D;obtain⟨n,g1⟩:=u h;refine⟨n,λb2 H=>?_⟩;obtain⟨B,m,M⟩:=g1 b2 H;refine⟨B,?_,M⟩;cases e with
  |normal=>exact(D _ _ h).elim
  |exit i=>simp[nm,m]
  |ret=>simp[nm,m]
theorem aj5:∀(c:aM) {j X:bP}{blk F:aH}{e:pQ},dJ E Y D n c j blk=some (e,X,F)->Frame E.al blk F/\
  ∀bt,G5 E.al blk bt->∃Q,dJ E Y D n c j bt=some (e,X,Q)/\y7 E.al F bt Q:=by
 intro c
 induction c with
 |skip=>intro j X blk F e h;simp only[dJ,jb,nR]at h;obtain⟨rfl,rfl,rfl⟩:=h;exact⟨λ_ _=>rfl,λb2 H=>⟨b2,rfl,.refl H⟩⟩
 |exit id=>intro j X blk F e h;simp only[dJ,jb,nR]at h;obtain⟨rfl,rfl,rfl⟩:=h;exact⟨λ_ _=>rfl,λb2 H=>⟨b2,rfl,.refl H⟩⟩
 |ret=>intro j X blk F e h;simp only[dJ,jb,nR]at h;obtain⟨rfl,rfl,rfl⟩:=h;exact⟨λ_ _=>rfl,λb2 H=>⟨b2,rfl,.refl H⟩⟩
 |bad=>intro j X blk F e h;simp[dJ]at h
 |region d ops=>
  intro j X blk F e h;simp only[dJ]at h;split at h
  .rename_i ik cE y A;obtain⟨u,g1⟩:=azb dV A;have N:(e,X,F)=(pQ.normal,ik,cE)/\(d->qI ops [] y):=by
    grind
   obtain⟨N,R⟩:=N;cases N;refine⟨u,λb2 H=>?_⟩;obtain⟨B,f,m⟩:=g1 b2 H;refine⟨B,?_,m⟩;simp only[dJ,f];cases d with
   |false=>simp
   |true=>simp[R rfl]
  cases h
 |seq a b v z=>
  intro j X blk F e h;simp only[dJ]at h;split at h
  .rename_i ik cE A;obtain⟨u,g1⟩:=v A;obtain⟨f2,g2⟩:=z h;refine⟨u.trans f2,λb2 H=>?_⟩;obtain⟨B,f,m⟩:=g1 b2 H;obtain⟨b3,s2,T⟩:=g2 B m.agree;exact⟨b3,by simp only[dJ,f,s2],m.trans T⟩
  rename_i O;obtain⟨u,g1⟩:=v h;refine⟨u,λb2 H=>?_⟩;obtain⟨B,f,m⟩:=g1 b2 H;refine⟨B,?_,m⟩;cases e with
  |normal=>exact(O _ _ h).elim
  |exit i=>simp only[dJ,f]
  |ret=>simp only[dJ,f]
 |cond x a b v z=>
  intro j X blk F e h;simp only[dJ]at h |-;split at h
  .rename_i t ht;cases t with
   |true=>exact v h
   |false=>exact z h
  cases h
 |block id c L=>
  intro j X blk F e h;simp only[dJ]at h;split at h
  .rename_i i ik cE A;obtain⟨u,g1⟩:=L A;have Z:F=cE:=by split at h<;>cases h<;>rfl
   subst Z;refine⟨u,λb2 H=>?_⟩;obtain⟨B,f,m⟩:=g1 b2 H;refine⟨B,?_,m⟩;simp only[dJ,f];split at h
   .rename_i M;cases h;rw[aI M]
   rename_i M;cases h;rw[aE M]
  rename_i O;obtain⟨u,g1⟩:=L h;refine⟨u,λb2 H=>?_⟩;obtain⟨B,f,m⟩:=g1 b2 H;refine⟨B,?_,m⟩;cases e with
  |normal=>simp only[dJ,f]
  |exit i=>exact(O _ _ _ h).elim
  |ret=>simp only[dJ,f]
 |loop c L=>intro j X blk F e h;simp only[dJ]at h |-;exact avT dV (λh=>L h) n h
end
theorem am0{al:cD}{blk:aH}(n:G5 al blk bt):∀ {R:List (Nat×Option eF)}{h:dG},sk al j blk R=some h->sk al j bt R=some h:=by
 intro R
 induction R with
 |nil=>intro h H;exact H
 |cons r R v=>
  obtain⟨t,k⟩:=r;cases k with
  |none=>
   intro h H;simp[sk]at H |-
   grind
  |some k=>
   intro h H;simp[sk]at H |-;split at H
   .rename_i D rd q u m;split at H
    .rename_i aB;rw[an0 u (λid f=>n id (TZ aB f)),v m]
     grind
    cases H
   cases H
theorem aDW(dV:DT D){fn:aS}{T:dG}{blk:aH}(y:s5 E Y D n fn T blk=some (v,F)):Frame E.al blk F/\
  ∀bt,G5 E.al blk bt->∃L,s5 E Y D n fn T bt=some (v,L)/\y7 E.al F bt L:=by
 unfold s5 at y;split at y
 .rename_i j b u;simp only[gW]at y;obtain⟨h,A,H⟩:=y;cases H;obtain⟨x,g1⟩:=aj5 dV _ u;refine⟨x,λb2 z=>?_⟩;obtain⟨B,f,m⟩:=g1 b2 z;exact⟨B,by unfold s5;rw[f];simp[am0 m.agree A,vB],m⟩
 .rename_i j b u;simp only[gW]at y;obtain⟨h,A,H⟩:=y;cases H;obtain⟨x,g1⟩:=aj5 dV _ u;refine⟨x,λb2 z=>?_⟩;obtain⟨B,f,m⟩:=g1 b2 z;exact⟨B,by unfold s5;rw[f];simp only[am0 m.agree A,vB],m⟩
 cases y
end
def vG(w:World)(O:Nat->Prop):V->Value->Prop
 | .one (.p x),v=>dd w O x v
 | .agg D,v=>∃arr ps,v=.agg arr/\D=ps.map .p/\eJ w O ps arr.toList
 |_,_=>False
def Enters(P:Program)(f:Nat):Prop:= ∃fn c,P.funcs[f]?=some fn/\fn.body=some c/\(fn.name== "runtime.NumGoroutine")=false
def Ul(w:World)(Q:Nat->Prop)(r:RV)(val:Value)(B:aD):Prop:= ∃h,Jc r val h/\tU w Q (mX r) h B
def Au(w:World)(O:Nat->Prop)(r:RV):Ending->World->Prop:=λe w'=>∃val B,e=.returned val/\jQ w w'/\B.Nodup/\(∀c∈B,w.heap.size<=c/\c<w'.heap.size)/\Ul w' (λc=>O c\/c∈B) r val B
def Good(G:World->Prop)(w:World):Prop:=G w/\ ∀w w',jQ w w'->G w->G w'
theorem dW.ahP(h:dW Z m):jQ Z m.w:=⟨h.os,h.tape,h.output,h.size,h.base⟩
theorem tU.pure{w:World}(ab:∀b,Q' b->Q b):∀ {R:oR}{h:List Value}{B:aD},(∀c∈B,¬Q' c)->tU w Q R h B->tU w Q' (R.map nM.pure) h []:=by
 intro R
 induction R with
 |nil=>intro h B _ hr;exact⟨hr.1,rfl⟩
 |cons r R D=>
  intro h B n hr;have less:∀ {x:PV}{v:Value},dd w Q x v->dd w Q' x v:=λhp=>hp.mono λc _ O=>⟨rfl,λL=>O (ab c L)⟩;cases r with
  |p x=>obtain⟨v,z,rfl,N,m⟩:=hr;exact⟨v,z,rfl,less N,D n m⟩
  |own ty sz y=>
   obtain⟨v,z,c,Z,rfl,rfl,⟨u,f,T,e2,e3,X,F,M,e7,E⟩,m⟩:=hr;refine⟨v,z,rfl,?_,D (λc Y=>n c (by simp[Y])) m⟩;subst T;refine dd.sl c 0 u sz (λj=>f.toList.getD j undef) (λ_=>n c aG) F M X (λj x H=>?_) (λj x H=>?_)
   .have A:j<I (f.toList.take (I y*sz)):=by rw[E.1];exact(bN.1 H).1
    rw[World.cell?]
    grind
   have A:j<I (f.toList.take (I y*sz)):=by rw[E.1];exact(bN.1 H).1
   have mE:j<f.size:=by simp at A;omega
   refine less (E.2 j x _ H ?_)
   grind
theorem Bs.pure{r:RV}(H:Bs r v h):Bs r.Ld v h/\og r.Ld=(og r).map nM.pure:=by
 cases r with
 |one c=>exact⟨H,rfl⟩
 |agg D=>exact⟨⟨H.1,by simpa [RV.Ld]using H.2⟩,rfl⟩
 |tup _=>exact H.elim
theorem Hc.pure:∀ {R:List RV}{us h:List Value},Hc R us h->Hc (R.map RV.Ld) us h/\xI (R.map RV.Ld)=(xI R).map nM.pure:=by
 intro R
 induction R with
 |nil=>intro us h y;exact⟨y,rfl⟩
 |cons r R n=>
  rintro us h ⟨u,m,a,b,rfl,rfl,v,H⟩
  obtain⟨f,j⟩:=v.pure;obtain⟨Q,x⟩:=n H;exact⟨⟨u,m,a,b,rfl,rfl,f,Q⟩,by simp[xI,j,x]⟩
theorem Jc.pure{r:RV}(H:Jc r v h):Jc r.pure v h/\mX r.pure=(mX r).map nM.pure:=by
 cases r with
 |one c=>exact Bs.pure (r:=.one c) H
 |agg D=>exact Bs.pure (r:=.agg D) H
 |tup R=>obtain⟨arr,rfl,f⟩:=H;obtain⟨Q,j⟩:=f.pure;exact⟨⟨arr,rfl,Q⟩,j⟩
theorem Au.gV{w:World}{r:RV}{e:Ending}(b:Bool)(A:∀c,O c->c<w.heap.size)(v:Au w O r e w'):Au w O (r.gV b) e w':=by
 cases b with
 |false=>exact v
 |true=>
  obtain⟨val,B,rfl,n,E,x,h,u,j⟩:=v;obtain⟨f,m⟩:=u.pure;refine⟨val,[],rfl,n,pW,λc H=>by simp at H,h,f,?_⟩;simp[RV.gV];rw[m];refine tU.pure (λb y=>?_) (λc H z=>?_) j
  .grind
  grind
def Hs(P:Program)(G:World->Prop)(Y:lH):Prop:=∀f h r,Y f h=some r->Enters P f/\ ∀(w:World) (O:Nat->Prop) (T:Array Value),Good G w->(∀c,O c->c<w.heap.size)->Pw (vG w O) h T.toList->Calls P f T w (Au w O r)
def EX(Z:World)(m:a7)(v:V)(F:aH):Ending->World->Prop:=λe w'=>∃val M,e=.returned val/\M.w=w'/\dW Z M/\hs m M/\M.fr=m.fr/\M.blk=F/\c9 M v val
def Jx(P:Program)(G:World->Prop)(D:sI):Prop:=∀f h al blk v F,D f h al blk=some (v,F)->Enters P f/\ ∀(Z:World) (m:a7) (T:Array Value),Good G Z->dW Z m->m.blk=blk->Pw (c9 m) h T.toList->Calls P f T m.w (EX Z m v F)
theorem aq5(aB:dW Z m){y:V}{r:aD}(j:s9 m.blk x=some (y,r))(hr:c9 m x v)(af:xP m O r):vG m.w O y v:=by
 cases x with
 |undef=>simp[s9]at j
 |tup h=>simp[s9]at j
 |one c=>simp only[s9,gW]at j;obtain⟨⟨p,R⟩,f,H⟩:=j;cases H;exact M7 aB jK f hr af
 |agg D=>simp only[s9,gW]at j;obtain⟨⟨ps,R⟩,f,H⟩:=j;cases H;obtain⟨arr,rfl,u⟩:=c9.agg.1 hr;refine⟨arr,ps,rfl,rfl,?_⟩;exact Mw (T:=dd m.w O) (λ_ _=>xP.app) (λ_ _ _ _ f H n=>M7 aB jK f H n) f af u
theorem aj1(aB:dW Z m){r:aD}(n:Ej m.blk L=some (ys,r))(hr:Pw (c9 m) L h)(af:xP m O r):Pw (vG m.w O) ys h:=Mw (T:=vG m.w O) (λ_ _=>xP.app) (λ_ _ _ _ f H j=>aq5 aB f H j) n af hr
theorem akW(aB:dW Z m){c:Nat}(h:m.own c):c<m.w.heap.size:=by
 rcases h with h|⟨id,o,H,_,rfl⟩
 .exact aB.frlt c h
 exact(aB.obj id o H).lt
theorem ao4{w:World}{x:PV}(af:x.scalar)(h:dd w Q x v):dd w Q' x v:=by
 cases h<;>first
  |(simp[PV.scalar]at af;done)
  |constructor
theorem azC{w:World}:∀ {R:oR}{h:List Value}{B:aD},R.all nM.alone->tU w Q R h B->tU w Q' R h B:=by
 intro R
 induction R with
 |nil=>intro h B _ F;exact F
 |cons r R D=>
  intro h B H F;simp only[vO,cF]at H;cases r with
  |p x=>obtain⟨v,A,rfl,m,f⟩:=F;exact⟨v,A,rfl,ao4 H.1 m,D H.2 f⟩
  |own ty sz y=>
   obtain⟨v,A,c,M,rfl,rfl,⟨n,z,X,T,Y,Z,L,O,N,E⟩,f⟩:=F;refine⟨v,A,c,M,rfl,rfl,⟨n,z,X,T,Y,Z,L,O,N,E.1,λj x u a b=>?_⟩,D H.2 f⟩;refine ao4 ?_ (E.2 j x u a b);obtain _:=Fp.1 (a8 a);have m:=H.1;simp[nM.alone]at m
   grind
theorem aqC{m:a7}{x:RV}{B:aD}(aB:dW Z m)(n:jQ m.w w')(L:B.Nodup)(u:∀c∈B,m.w.heap.size<=c/\c<w'.heap.size)(hr:Ul w' (λc=>m.own c\/c∈B) x val B):
  ∃M,M.w=w'/\dW Z M/\hs m M/\M.fr=m.fr/\M.blk=app (jH m.blk site x).2 m.blk/\c9 M (jH m.blk site x).1 val:=by
 obtain⟨h,v,f⟩:=hr;obtain⟨M,A,N,D,_,E,F,y⟩:=aEU (Po aB n u) (f.less λb z=>ajX.1 z) L (λc H=>⟨.inr H,ob aB.size (u c H).1⟩) (NT n λc H=>(u c H).1) (λc H=>.inl (u c H).1);refine⟨M,A,N,D,?_,F,asG v y⟩;funext c;apply propext;rw[E c];constructor
 .rintro ⟨j|j,f⟩
  .exact j
  exact(f j).elim
 intro j;refine⟨.inl j,λH=>?_⟩;have v:=aB.frlt c j
 grind
theorem aBK{b M:aH}(h:∀s,(b s).1=(M s).1)(site:Nat)(x:RV):jH b site x=jH M site x:=by unfold jH;rw[akf _ site b M λs _=>h s]
theorem aEM{G:World->Prop}(A:Hs P G Y)(hG:Good G Z)(aB:dW Z m){h:dG}{rd:aD}{x:RV}{v:V}(j:Y f h=some x)(af:Ej m.blk L=some (h,rd))(AZ:Pw (c9 m) L T.toList)
  {pb:Bool} (hl:fQ m.blk rd site (x.gV pb)=some (v,u)):Calls P f T m.w (EX Z m v (app u m.blk)):=by
 have Gu:=λw O T M n h3=>((A f h x j).2 w O T M n h3).mono λe w' H=>H.gV pb n
 generalize x.gV pb=x at hl Gu;unfold fQ at hl;split at hl
 .rename_i vV;cases hl;have key:∀(O:Nat->Prop),(∀c,O c->c<m.w.heap.size)->xP m O rd->(∀w' B val,Ul w' (λc=>O c\/c∈B) x val B->Ul w' (λc=>m.own c\/c∈B) x val B)->Calls P f T m.w (EX Z m (jH m.blk site x).1 (app (jH m.blk site x).2 m.blk)):=by
   intro O hO rT zS;refine(Gu m.w O T ⟨hG.2 _ _ aB.ahP hG.1,hG.2⟩ hO (aj1 aB af AZ rT)).mono ?_;rintro e w' ⟨val,B,rfl,F,N,D,hr⟩
   obtain⟨R,X,Q,e3,e4,E,y⟩:=aqC aB F N D (zS w' B val hr);exact⟨val,R,rfl,X,Q,e3,e4,E,y⟩
  rcases vV with rfl|jD
  .exact key m.own (λc j=>akW aB j) ⟨λ_ H=>H,λ_ H=>by simp at H⟩ λ_ _ _ H=>H
  refine key (λ_=>False) (λc H=>H.elim) ⟨λ_ H=>H.elim,λ_ _ H=>H⟩ λw' B val H=>?_;obtain⟨qJ,M,n⟩:=H;exact⟨qJ,M,azC jD n⟩
 split at hl
 .rename_i fu z;cases hl;have E0:=aqh aB z;refine(Gu m.w (m.with fu).own T ⟨hG.2 _ _ aB.ahP hG.1,hG.2⟩ (λc j=>akW E0 j) (aj1 aB af AZ (ZU aB z))).mono ?_;rintro e w' ⟨val,B,rfl,F,N,D,hr⟩
  obtain⟨R,X,Q,e3,e4,E,y⟩:=aqC E0 F N D hr;have Zj:jH (m.with fu).blk site x=jH m.blk site x:=aBK (λs=>T7 z s) site x;rw[Zj]at E y;refine⟨val,R,rfl,X,Q,(XI z).trans e3,e4,?_,y⟩;rw[E,Un];rfl
 cases hl
theorem Ws{M:a7}(E:hs m M){a:Act}{dst:eF}{v:V}{x:Value}(hr:ll m j a.tmps)(f:c9 M v x)(H:∀d,dst=some d->d<a.tmps.size):ll M (dL j dst v) (a.put dst x).tmps:=by
 cases dst with
 |none=>exact hr.ev E
 |some d=>
  intro t;simp only[dL,Act.put,bG];by_cases h:t=d
  .simp_all
  rw[aE h];have:(a.tmps.setIfInBounds d x).getD t undef=a.tmps.getD t undef:=by
   simp
   grind
  rw[this];exact(hr t).ev E.zero
theorem VP(a:Act)(dst:eF)(x:Value):(a.put dst x).tmps.size=a.tmps.size:=by cases dst<;>simp[Act.put]
theorem Tg(a:Act)(dst:eF)(x:Value):(a.put dst x).defers=a.defers:=by cases dst<;>simp[Act.put]
theorem aqv{tmps:Array Value}(hr:ll m j tmps){o:Oper}{g:Option (Nat×Bool)}{b:Bool}
  (n:match o.guard with|none=>g=none|some (A,w)=>∃t,(ops[A]?).bind (·.dst)=some t/\g=some (t,w)) (h:th j g=some b):Region.wanted o (yielded ops tmps)=b:=by
 unfold Region.wanted;cases x:o.guard with
 |none=>rw[x]at n;subst n;simp only[th,jb]at h;exact h
 |some q=>
  obtain _:=q;rw[x]at n;obtain⟨t,z,rfl⟩:=n;have f:=hr t;simp[th]at h;simp[yielded,z,Option.bind_some];split at h
  .rename_i M v;rw[v]at f;have H:=HE f;cases h;have:tmps[t]?=some (.bool M):=by
    rw[G0]at H;cases u:tmps[t]? with
    |none=>rw[u]at H;simp[undef]at H
    |some y=>rw[u]at H;simp at H;rw[H]
   rw[this];rfl
  .rename_i v;rw[v]at f;cases h;have H:=f;rw[G0]at H;cases u:tmps[t]? with
   |none=>rfl
   |some y=>rw[u]at H;simp at H;rw[H];rfl
  cases h
theorem aj2{f:fc}{g:Nat}{a b:eC}(h:JS j f=some (g,a,b))(hr:c9 m (ev j f) v):∃A B:Array Value,v=.func (.func g) A B/\eE m a A.toList/\eE m b B.toList:=by
 unfold JS at h;split at h
 .rename_i g' x y D;cases h;rw[D]at hr;obtain⟨hp⟩:gh m _ v:=hr;cases hp with
  |fn A B E H z Q=>exact⟨A,B,rfl,eJ.toC ⟨by simpa using E,λn x u p q=>z n x u p ii⟩,eJ.toC ⟨by simpa using H,λn x u p q=>Q n x u p ii⟩⟩
 .rename_i g' x y D;cases h;rw[D]at hr;cases hr with
  |hfn A B E H z Q=>exact⟨A,B,rfl,⟨by simpa using E,λn x u p q=>z n x u p aH2⟩,⟨by simpa using H,λn x u p q=>Q n x u p aH2⟩⟩
 cases h
theorem ak6{a:Act}(hr:ll m j a.tmps):∀ {L:List Operand}{ys:ve},rW L=some ys->Pw (c9 m) (ys.map (ev j)) (L.map a.eval):=by
 intro L
 induction L with
 |nil=>intro ys h;simp[rW]at h;subst h;exact⟨rfl,λf x u p=>by simp at p⟩
 |cons x L n=>
  intro ys h;simp[rW]at h;split at h
  .rename_i y Y v H;cases h;obtain⟨i1,i2⟩:=n H;refine⟨by simpa using i1,λf z u p q=>?_⟩;cases f with
   |zero=>simp at p q;subst p q;exact gv v hr
   |succ f=>exact i2 f z u ii ii
  cases h
theorem Wj{D:eC}(f:eE m D h):Pw (c9 m) (D.map .one) h:=by refine⟨by simpa using f.1,λj x u p q=>?_⟩;simp at p;obtain⟨c,H,rfl⟩:=p;exact c9.one.2 (f.2 j c u H q)
theorem aw1(h:Enters P f)(T:Array Value)(w:World):(callFunc f T).run P w=.ok (.enter f T) w:=by obtain⟨fn,c,j,H,m⟩:=h;simp[callFunc,run_program,j,H,by simpa using m]
theorem ae9{o:Oper}{c:Call}{f:Operand}{a:Act}{g:Nat}{w:World}(h:o.op=.call c)(m:c.callee=.value f)(H:a.eval f=.func (.func g) A B)(j:Enters P g):
  (execOp a.eval o).run P w=.ok (.enter g (A++c.args.map a.eval++B)) w:=by
 simp[execOp,h,resolve,m,H,Deferred.ofValue,invoke,aw1 j]
theorem ana{o:Oper}{p:s4}(H:JB P site o=some p)(hp:∀s f as,p≠ .call s f as){blk:aH}:(∀f h r s,cV E j blk p≠ .pc f h r s)/\ ∀f h,cV E j blk p≠ .sc f h:=by
 cases p<;>first
  |exact(hp _ _ _ rfl).elim
  |(simp only[cV]
    constructor<;>intros<;>intro H<;>(repeat' split at H)<;>first
     |cases H
     |(simp[Dc,Hu,jl]at H;(repeat' split at H)<;>cases H))
theorem ahB{o:Oper}{s:Nat}{f:fc}{as:ve}(h:JB P site o=some (.call s f as)):∃c F,o.op=.call c/\c.callee=.value F/\dr F=some f/\rW c.args.toList=some as:=by
 unfold JB at h
 grind [gW]
def J9(Z:World)(m:a7)(a:Act)(nt:Nat)(X:bP)(F:aH)(bJ:Act->World->Prop):Prop:=∀(A:Act) (M:a7),dW Z M->hs m M->M.fr=m.fr->M.blk=F->ll M X A.tmps->A.tmps.size=nt->A.defers=a.defers->bJ A M.w
theorem ajm{o:Oper}{a:Act}{w:World}{bJ:Act->World->Prop}{Q:Exit->Act->World->Prop}{R:Ending->World->Prop}(h:(execOp a.eval o).run P w=.ok (.enter f T) w)(H:Calls P f T w R)
  (j:∀e w',R e w'->∃v,e=.returned v/\bJ (a.put o.dst v) w'):o.wp P a w bJ Q:=by
 unfold Oper.wp;rw[h,Oper.upon_enter];refine H.mono ?_
 grind
theorem akU{G:World->Prop}(hG:Good G Z)(hP:Hs P G Y)(hS:Jx P G D){E:ni}{base anc:Nat}{o:Oper}{io:lI}{am:jk}{a:Act}{bJ:Act->World->Prop}{Q:Exit->Act->World->Prop}
  (T:Gt P (λap=>(ops[ap]?).bind (·.dst)) base nt anc o=some io) (n:mP E Y D io j m.blk=some (X,F,am)) (aB:dW Z m) (hr:ll m j a.tmps) (jh:a.tmps.size=nt) (y:J9 Z m a nt X F bJ):
  if Region.wanted o (yielded ops a.tmps)then o.wp P a m.w bJ Q else bJ (a.put o.dst undef) m.w:=by
 have an:io.dst=o.dst/\io.op=KM P base o/\(∀d,o.dst=some d->d<nt)/\(match o.guard with|none=>io.guard=none|some (ap,w)=>∃t,(ops[ap]?).bind (·.dst)=some t/\io.guard=some (t,w)):=by
  unfold Gt at T;split at T
  .rename_i H;simp only[gW]at T;obtain⟨g,M,rfl⟩:=T;refine⟨rfl,rfl,λd he=>?_,?_⟩
   .rw[he]at H
    simpa [ao5]using H
   cases ab:o.guard with
   |none=>rw[ab]at M;simp[aao]at M;exact M.symm
   |some q=>obtain⟨ap,w⟩:=q;rw[ab]at M;simp only[aao,gW]at M;obtain⟨t,ht,rfl⟩:=M;exact⟨t,ht,rfl⟩
  cases T
 obtain⟨h1,h2,h3,h4⟩:=an;have H:∀d,o.dst=some d->d<a.tmps.size:=by rw[jh];exact h3
 unfold mP at n;split at n
 .cases n
 .rename_i hw;cases n;rw[aqv hr h4 hw];simp only[iJ,if_false];rw[h1]at y;exact y _ m aB (hs.refl m) rfl rfl (Ws (hs.refl m) hr (rfl) H) (by rw[VP,jh]) (Tg _ _ _)
 rename_i hw;rw[aqv hr h4 hw];simp only[if_true];rw[h2]at n;unfold KM at n;cases L:JB P base o with
 |none=>rw[L]at n;simp[cV]at n
 |some p=>
  rw[L]at n;simp only[mw]at n;split at n
  .cases n
  .rename_i v u r hp;split at n
   case isFalse=>cases n
   cases n;obtain⟨x,N,ad,R,O,e4,e5,e6⟩:=aAR aB hr L hp;rw[h1]at y;have hk:=λx (z:c9 N v x)=>y (a.put o.dst x) N R O e4 e5 (Ws O hr z H) (by rw[VP,jh]) (Tg _ _ _);unfold Oper.wp;rcases ad with H|⟨H,rfl⟩
   .rw[H,Oper.upon_value];exact hk x e6
   rw[H,Oper.upon_skip];exact hk undef e6
  .rename_i f h r s hp;by_cases Gu:∃s f as,p=.call s f as
   .obtain⟨s',f',as,rfl⟩:=Gu;obtain⟨c,fo,g1,g2,g3,g4⟩:=ahB L;simp only[cV]at hp;split at hp
    .rename_i g A B hfn;obtain⟨AV,BV,e1,R,O⟩:=aj2 hfn (gv g3 hr);split at hp
     .cases hp
     split at hp
     .rename_i ws rd jP;cases hp;split at n
      .rename_i x z;split at n
       .rename_i v u hl;split at n
        case isFalse=>cases n
        cases n;have AZ:Pw (c9 m) (A.map .one++as.map (ev j)++B.map .one) (AV++c.args.map a.eval++BV).toList:=by
         have:=((Wj R).append (ak6 hr g4)).append (Wj O)
         exact aIE
        refine ajm (ae9 g1 g2 e1 (hP _ _ _ z).1) (aEM hP hG aB z jP AZ hl) ?_;rintro e w' ⟨val,N,rfl,rfl,q1,q2,q3,q4,q5⟩
        exact aIG
       cases n
      cases n
     cases hp
    cases hp
   exact((ana L (λs f as e=>Gu ⟨s,f,as,e⟩)).1 _ _ _ _ hp).elim
  rename_i f h hp;by_cases Gu:∃s f as,p=.call s f as
  .obtain⟨s',f',as,rfl⟩:=Gu;obtain⟨c,fo,g1,g2,g3,g4⟩:=ahB L;simp only[cV]at hp;split at hp
   .rename_i g A B hfn;obtain⟨AV,BV,e1,R,O⟩:=aj2 hfn (gv g3 hr);split at hp
    .cases hp;split at n
     case isFalse=>cases n
     split at n
     .rename_i v F9 z;cases n;have AZ:Pw (c9 m) (A.map .one++as.map (ev j)++B.map .one) (AV++c.args.map a.eval++BV).toList:=by
       have:=((Wj R).append (ak6 hr g4)).append (Wj O)
       exact aIE
      refine ajm (ae9 g1 g2 e1 (hS _ _ _ _ _ _ z).1) ((hS _ _ _ _ _ _ z).2 Z m _ hG aB rfl AZ) ?_;rintro e w' ⟨val,N,rfl,rfl,q1,q2,q3,q4,q5⟩
      exact aIG
     cases n
    split at hp<;>cases hp
   cases hp
  exact((ana L (λs f as e=>Gu ⟨s,f,as,e⟩)).2 _ _ hp).elim
theorem abw{dst anc:Nat->eF}{base i:Nat}{o:Oper}{r:List Oper}{l:fx}(h:zw P dst anc base nt i (o::r)=some l):
  ∃x L,l=x::L/\Gt P dst ((base+i)*64) nt ((anc i).getD 0) o=some x/\zw P dst anc base nt (i+1) r=some L:=by
 simp[zw]at h
 grind
section
variable {G:World->Prop} (hG:Good G Z) {Y:lH} {D:sI} (hP:Hs P G Y) (hS:Jx P G D) {E:ni}
include hG hP hS
theorem aAq{anc:Nat->eF}{base:Nat}{Q:Exit->Act->World->Prop}:∀(r:List Oper) {l:fx}{i:Nat}{j X:bP}{m:a7}{F:aH}{y:gl}{a:Act},(∀n,ops[i+n]?=r[n]?)->zw P (λn=>(ops[n]?).bind (·.dst)) anc base nt i r=some l->
  jX E Y D l j m.blk=some (X,F,y)->dW Z m->ll m j a.tmps->a.tmps.size=nt->J9 Z m a nt X F (λa' w'=>Q .normal a' w')->wpOps P ops Q (List.range' i (I r)) a m.w:=by
 intro r
 induction r with
 |nil=>intro l i j X m F y a _ h f aB hr u H;simp[zw]at h;subst h;obtain⟨rfl,rfl,_⟩:=f;exact H a m aB (hs.refl m) rfl rfl hr u rfl
 |cons o r ih=>
  intro l i j X m F y a v h f aB hr u H;obtain⟨x,L,rfl,h1,O⟩:=abw h;simp only[jX]at f;split at f
  .rename_i ik cE e1 jr;split at f
   .rename_i dq bt ab ir;cases f;have key:=akU (Q:=Q) hG hP hS h1 jr aB hr u (λa1 m1 z k2 k3 k4 k5 k6 k7=>by
     subst k4;refine ih (λn=>by have:=v (n+1);rw[show i+1+n=i+(n+1) by omega];simpa using this) O ir z k5 k6 ?_;intro a2 N p1 R A M B T p7;exact H a2 N p1 (k2.trans R) (A.trans k3) M B T (p7.trans k7))
    simp only[fF,List.range'_succ,wpOps,by have:=v 0;simpa using this]
    grind
   cases f
  cases f
theorem aDg{anc:Nat->eF}{base id:Nat}{Q:Exit->Act->World->Prop}{l:fx}{y:gl}{a:Act}(H:zw P (λu=>(ops[u]?).bind (·.dst)) anc base nt 0 ops.toList=some l)
  (f:jX E Y D l j m.blk=some (X,F,y)) (aB:dW Z m) (hr:ll m j a.tmps) (n:a.tmps.size=nt) (h:J9 Z m a nt X F (λA w'=>Q .normal A w')):(Code.region id ops false).wp P Q a m.w:=by
 refine wp_region ?_;have:=aAq hG hP hS ops.toList (λu=>aG) H f aB hr n h;rw[aaY]
 exact aIE
end
theorem awf{α β:Type}(g:Array β->α->β):∀(l:List α) (A:Array β),(l.foldl (λA o=>A.push (g A o)) A).size=A.size+I l/\
  (∀j,j<A.size->(l.foldl (λA o=>A.push (g A o)) A)[j]?=A[j]?)/\
  ∀j o,l[j]?=some o->∃pre:Array β,pre.size=A.size+j/\(∀k,k<pre.size->(l.foldl (λA o=>A.push (g A o)) A)[k]?=pre[k]?)/\(l.foldl (λA o=>A.push (g A o)) A)[A.size+j]?=some (g pre o):=by
 intro l
 induction l with
 |nil=>intro A;exact⟨rfl,λ_ _=>rfl,λj o h=>by simp at h⟩
 |cons x l y=>
  intro A;obtain⟨z,f,v⟩:=y (A.push (g A x));simp only[Ac];refine⟨by rw[z];simp;omega,λj D=>?_,λj o H=>?_⟩
  .rw[f j fd,TG,aE J]
  cases j with
  |zero=>
   simp at H;subst H;refine⟨A,J,λk B=>?_,?_⟩
   .rw[f k fd,TG,aE J]
   grind
  |succ j=>obtain⟨pre,n,u,m⟩:=v j o rg;refine⟨pre,by rw[n];simp;omega,u,?_⟩;rw[<-m];simp only[Array.size_push];congr 1;omega
theorem aDk{α:Type}(f:α->Bool)(g:α->Nat)(h:α->Nat):∀(l:List α) (s j:Nat),(l.foldl (λs e=>if f e then s|||g e|||h e else s) s).testBit j=true->s.testBit j\/ ∃e∈l,f e/\((g e).testBit j\/(h e).testBit j):=by
 intro l
 induction l with
 |nil=>intro s j H;exact .inl H
 |cons x l u=>
  intro s j H;simp at H;rcases u _ j H with v|⟨e,n,m⟩
  .grind
  exact .inr ⟨e,by simp[n],m⟩
theorem atF(z:LO ops){i:Nat}{o:Oper}(n:ops[i]?=some o){j:Nat}(H:(((Region.before ops)[i]?).getD 0).testBit j):
  ∃e∈o.after,Region.binds .any e/\e.on<i/\(j=e.on\/(((Region.before ops)[e.on]?).getD 0).testBit j):=by
 unfold Region.before at H |-;rw[<-acS]at H |-;obtain⟨F,E,v⟩:=awf (λ(A:Array Nat) (o:Oper)=>o.after.foldl (λs e=>if Region.binds .any e then s|||2 ^ e.on|||A.getD e.on 0 else s) 0) ops.toList #[];obtain⟨pre,m,u,f⟩:=v i o at9;simp only[Array.size_empty,lh]at m f;rw[f]at H;simp only[mw]at H;rw[<-acS]at H;rcases aDk (λe=>Region.binds .any e) (λe=>2 ^ e.on) (λe=>pre.getD e.on 0) _ _ _ H with h|⟨e,B,x,M⟩
 .simp at h
 have D:e.on<i:=by
  unfold LO at z
  grind
 refine⟨e,by simpa using B,x,D,?_⟩;rcases M with M|M
 .left;rw[Nat.testBit_two_pow]at M;have y:e.on=j:=by simpa using M
  exact y.symm
 right;rw[u e.on J]
 simpa [G0]using M
theorem afY{dst:Nat->eF}{base anc:Nat}{o:Oper}{io:lI}(h:Gt P dst base nt anc o=some io):io.anc=anc:=by
 unfold Gt at h
 grind [gW]
structure aqK (P:Program) (ops:Array Oper) (base nt:Nat) (rem:List FA) (listed:Array Bool):Prop where
 pair:rem.Pairwise λp q=>p.i<q.i/\(q.io.anc.testBit p.i\/T3 p q)
 comp:∀p∈rem,∃o,ops[p.i]?=some o/\Gt P (λj=>(ops[j]?).bind (·.dst)) ((base+p.i)*64) nt (((Region.before ops)[p.i]?).getD 0) o=some p.io
 size:listed.size=ops.size
 free:∀i:Nat,listed[i]?=some false↔ ∃p∈rem,p.i=i
 closed:∀i:Nat,listed[i]?=some true->∀j:Nat,(((Region.before ops)[i]?).getD 0).testBit j->listed[j]?=some true
theorem abC{L:Array Bool}{i:Nat}:i∈Region.ready .any ops L↔i<ops.size/\L.getD i true=false/\ ∃o,ops[i]?=some o/\ ∀e∈o.after,Region.binds .any e->L.getD e.on false:=by
 unfold Region.ready;simp only[rv,fU,cF,gH];constructor
 .rintro ⟨h,j,H⟩
  refine⟨h,j,ops[i],by simp[h],λe m n=>?_⟩;have f:ops[i]?=some ops[i]:=ut
  rw[f]at H;simp only[vB,mw,Array.all_eq_true']at H
  grind
 grind
theorem ajT{l:Array Bool}{i:Nat}(h:l.getD i true=false):l[i]?=some false:=by
 rw[G0]at h
 grind
theorem aC4{l:Array Bool}{i:Nat}(h:l.getD i false):l[i]?=some true:=by
 rw[G0]at h
 grind
section
variable {G:World->Prop} (hG:Good G Z) {Y:lH} {D:sI} (hP:Hs P G Y) (hS:Jx P G D) (hL:DT D) {E:ni}
include hG hP hS hL
theorem azF(JX:LO ops){base:Nat}{Q:Exit->Act->World->Prop}:∀(f:Nat) {R:List FA}{L:Array Bool}{j:bP}{m:a7}{a:Act},aqK P ops base nt R L->I R<=f->
  jX E Y D (R.map (·.io)) j m.blk=some (X,F,R.map (·.e))->dW Z m->ll m j a.tmps->a.tmps.size=nt->J9 Z m a nt X F (λa' w'=>Q .normal a' w')->wpAny P .any ops Q f L a m.w:=by
 intro f
 induction f with
 |zero=>
  intro R L j m a hl H B aB hr jh hK;have ad:R=[]:=by
   cases R with
   |nil=>rfl
   |cons _ _=>simp at H
  subst ad;simp only[ml,jX,jb,nR]at B;obtain⟨rfl,rfl,_⟩:=B;refine⟨?_,hK a m aB (hs.refl m) rfl rfl hr jh rfl⟩;refine List.eq_nil_iff_forall_not_mem.2 λi hi=>?_;obtain⟨_,h2,_⟩:=abC.1 hi;obtain⟨p,hp,_⟩:=(hl.free i).1 (ajT h2);simp at hp
 |succ f ih=>
  intro R L j m a hl H B aB hr jh hK;refine⟨λab=>?_,λi hi=>?_⟩
  .cases R with
   |nil=>simp only[ml,jX,jb,nR]at B;obtain⟨rfl,rfl,_⟩:=B;exact hK a m aB (hs.refl m) rfl rfl hr jh rfl
   |cons p an=>
    exfalso;obtain⟨o,v,_⟩:=hl.comp p aG;have T:=(Array.getElem?_eq_some_iff.1 v).1;have nQ:p.i∈Region.ready .any ops L:=by
     refine abC.2 ⟨T,?_,o,v,λe he hb=>?_⟩
     .rw[G0,(hl.free p.i).2 ⟨p,aG,rfl⟩];rfl
     have GD:e.on<p.i:=by unfold LO at JX;have:=mz.1 JX p.i (by simpa using T);rw[v]at this;rw[mz]at this;have:=this e (by simpa using he);simp only[hb,AL,H7,fL]at this;exact this
     have af:e.on<L.size:=by rw[hl.size];omega
     rw[G0];cases bh:L[e.on]with
     |true=>simp[af,bh]
     |false=>
      exfalso;obtain⟨q,n,u⟩:=(hl.free e.on).1 (by simp[af,bh]);rcases dh.1 n with rfl|n
      .omega
      have:=((iR.1 hl.pair).1 q n).1;omega
    rw[ab]at nQ;simp at nQ
  obtain⟨h1,h2,o,v,h3⟩:=abC.1 hi;obtain⟨p,hp,rfl⟩:=(hl.free i).1 (ajT h2);obtain⟨l1,l2,rfl⟩:=List.append_of_mem hp;obtain⟨o',qW,Dj⟩:=hl.comp p hp;rw[v]at qW;cases qW;have O:∀A:Nat,p.io.anc.testBit A->L[A]?=some true:=by
   intro A z;rw[afY Dj]at z;obtain⟨e,he,hb,_,E6⟩:=atF JX v z;have GD:=aC4 (h3 e he hb);rcases E6 with rfl|E6
   .exact GD
   exact hl.closed _ GD A E6
  have N:=BD.1 hl.pair;have am:∀x∈l1,T3 x p:=by
   intro x hx;rcases(N.2.2 x hx p aG).2 with h|h
   .have:=O _ h;rw[(hl.free x.i).2 ⟨x,by simp[hx],rfl⟩]at this;cases this
   exact h
  obtain⟨ik,cE,jr,ir⟩:=aCv hL B am;have key:=akU (Q:=Q) (bJ:=wpAny P .any ops Q f (L.setIfInBounds p.i true)) hG hP hS Dj jr aB hr jh (λa1 m1 k1 k2 k3 k4 k5 k6 k7=>by
   subst k4;have T:p.i<L.size:=by rw[hl.size];exact h1
   refine ih ⟨?_,λq n=>hl.comp q (by rcases iI.1 n with h|h<;>simp[h]),by simp[hl.size],λk=>?_,λk M A z=>?_⟩ (by simp at H |-;omega) ir k1 k5 k6 ?_
   .refine BD.2 ⟨N.1,(iR.1 N.2.1).2,λx hx y hy=>N.2.2 x hx y (by simp[hy])⟩
   .rw[PF];by_cases M:p.i=k
    .subst M;rw[aI rfl,aI T];constructor
     .intro h;cases h
     rintro⟨q,n,u⟩
     rcases iI.1 n with h|h
     .have:=(N.2.2 q h p aG).1;omega
     have:=((iR.1 N.2.1).1 q h).1;omega
    rw[aE M,hl.free k];constructor
    .rintro ⟨q,n,u⟩
     rcases iI.1 n with h|h
     .exact⟨q,by simp[h],u⟩
     rcases dh.1 h with rfl|h
     .exact(M u).elim
     exact⟨q,by simp[h],u⟩
    rintro⟨q,n,u⟩
    rcases iI.1 n with h|h
    .exact⟨q,by simp[h],u⟩
    exact⟨q,by simp[h],u⟩
   .have zS:∀A:Nat,L[A]?=some true->(L.setIfInBounds p.i true)[A]?=some true:=by
     intro A z;rw[PF];split
     .first
       |rfl
       |(rename_i e;rw[aI T])
     exact z
    by_cases kJ:p.i=k
    .subst kJ;refine zS A (O A ?_);rw[afY Dj];exact z
    rw[PF,aE kJ]at M;exact zS A (hl.closed k M A z)
   intro a2 m2 p1 p2 p3 p4 p5 p6 p7;exact hK a2 m2 p1 (k2.trans p2) (p3.trans k3) p4 p5 p6 (p7.trans k7))
  unfold wpOp;rw[v];simp only;split at key
  .rename_i hw;rw[aI hw];exact .inl key
  rename_i hw;rw[aE hw];exact key
end
def vJ:Nat->fx->gl->List FA
 |i,x::L,e::y=>⟨i,x,e⟩::vJ (i+1) L y
 |_,_,_=>[]
theorem azV:∀ {L:fx}{y:gl} (i:Nat),I y=I L->(vJ i L y).map (·.io)=L/\(vJ i L y).map (·.e)=y:=by
 intro L
 induction L with
 |nil=>intro y i h;cases y with
  |nil=>exact⟨rfl,rfl⟩
  |cons _ _=>simp at h
 |cons x L f=>intro y i h;cases y with
  |nil=>simp at h
  |cons e y=>obtain⟨j,H⟩:=f (i+1) Do;exact⟨by simp[vJ,j],by simp[vJ,H]⟩
theorem aBX{o:lI}:∀ {f:fx}{j:Nat},VV o j f->∀k x,f[k]?=some x->o.anc.testBit (j+k)\/Jf x o:=by
 intro f
 induction f with
 |nil=>intro j _ k x h;simp at h
 |cons y f m=>
  intro j h k x H;simp[VV,cF,nK]at h;cases k with
  |zero=>simp at H;subst H;exact h.1
  |succ k=>grind
theorem avq{anc:Nat}{e:jk}:∀ {f:gl}{j:Nat},CY anc e j f->∀k x,f[k]?=some x->anc.testBit (j+k)\/zc x e=false:=by
 intro f
 induction f with
 |nil=>intro j _ k x h;simp at h
 |cons y f m=>
  intro j h k x H;simp[CY,cF,nK,gH]at h;cases k with
  |zero=>simp at H;subst H;exact h.1
  |succ k=>grind
theorem aE2:∀ {L:fx}{y:gl}{j:fx}{u:gl},I y=I L->I u=I j->R7 L j->qI L u y->
  (∀(q:FA),q∈vJ (I j) L y->∀(k:Nat) (x:lI) (e:jk),j[k]?=some x->u[k]?=some e->q.io.anc.testBit k\/(Jf x q.io/\zc e q.e=false))/\
  (∀q∈vJ (I j) L y,I j<=q.i)/\(vJ (I j) L y).Pairwise λp q=>p.i<q.i/\(q.io.anc.testBit p.i\/T3 p q):=by
 intro L
 induction L with
 |nil=>
  intro y j u _ _ _ _;have:vJ (I j) [] y=[]:=by cases y<;>rfl
  rw[this];exact⟨λq h=>by simp at h,λq h=>by simp at h,.nil⟩
 |cons x L E=>
  intro y j u hl hp hf z;cases y with
  |nil=>simp at hl
  |cons e y=>
   simp only[R7,cF]at hf;simp only[qI,cF]at z;obtain⟨i1,i2,i3⟩:=E GT (by simp[hp]) hf.2 z.2;have v:I (j++[x])=I j+1:=aG;rw[v]at i1 i2 i3;simp only[vJ];refine⟨?_,?_,iR.2 ⟨?_,i3⟩⟩
   .intro q H k Y f A B;rcases dh.1 H with rfl|H
    .have n:=aBX hf.1 k Y A;have m:=avq z.1 k f B;rw[lh]at n m;rcases n with n|n
     .exact .inl n
     rcases m with m|m
     .exact .inl m
     exact .inr ⟨n,m⟩
    have D:=(bN.1 A).1;exact i1 q H k Y f (by rw[yY D];exact A) (by rw[yY J];exact B)
   .intro q H;rcases dh.1 H with rfl|H
    .exact cP _
    have:=i2 q H;omega
   intro q H;refine⟨by have:=i2 q H;simp only;omega,?_⟩;exact i1 q H (I j) x e aG (by rw[<-hp];simp)
theorem aEu{anc:Nat->eF}{dst:Nat->eF}{base:Nat}:∀ {r:List Oper}{L:fx}{y:gl}{i:Nat},zw P dst anc base nt i r=some L->I y=I L->(∀j,ops[i+j]?=r[j]?)->
  (∀p∈vJ i L y,∃o,ops[p.i]?=some o/\Gt P dst ((base+p.i)*64) nt ((anc p.i).getD 0) o=some p.io)/\ ∀k,i<=k->k<i+I r->∃p∈vJ i L y,p.i=k:=by
 intro r
 induction r with
 |nil=>
  intro L y i h _ _;simp[zw,jb]at h;have:vJ i [] y=[]:=by cases y<;>rfl
  grind
 |cons o r u=>
  intro L y i h hl Q;obtain⟨x,X,rfl,n,H⟩:=abw h;cases y with
  |nil=>simp at hl
  |cons e y=>
   obtain⟨i1,i2⟩:=u H GT (λj=>by have:=Q (j+1);rw[show i+1+j=i+(j+1) by omega];simpa using this);refine⟨λp hp=>?_,λk D v=>?_⟩
   .rcases dh.1 hp with rfl|hp
    .exact⟨o,by have:=Q 0;simpa using this,n⟩
    exact i1 p hp
   by_cases m:k=i
   .exact⟨⟨i,x,e⟩,by simp[vJ],m.symm⟩
   obtain⟨p,hp,f⟩:=i2 k J ii;exact⟨p,by simp[vJ,hp],f⟩
theorem aCj{E:ni}:∀ {L:fx}{j X:bP}{blk F:aH}{y:gl},jX E Y D L j blk=some (X,F,y)->I y=I L:=by
 intro L
 induction L with
 |nil=>intro j X blk F y h;simp only[jX,jb,nR]at h;rw[<-h.2.2];rfl
 |cons x L f=>
  intro j X blk F y h;simp[jX]at h
  grind
theorem azi{dst anc:Nat->eF}{base:Nat}:∀ {r:List Oper}{L:fx}{i:Nat},zw P dst anc base nt i r=some L->I L=I r:=by
 intro r
 induction r with
 |nil=>intro L i h;simp[zw,jb]at h;subst h;rfl
 |cons o r f=>intro L i h;obtain⟨x,X,rfl,_,H⟩:=abw h;simp[f H]
section
variable {G:World->Prop} (hG:Good G Z) {Y:lH} {D:sI} (hP:Hs P G Y) (hS:Jx P G D) (hL:DT D) {E:ni}
include hG hP hS hL
theorem ayA(Dm:P.follows .mixedOrders){base id:Nat}{Q:Exit->Act->World->Prop}{l:fx}{y:gl}{a:Act}(u:zw P (λab=>(ops[ab]?).bind (·.dst)) (λi=>(Region.before ops)[i]?) base nt 0 ops.toList=some l)
  (JX:LO ops) (hf:R7 l []) (f:jX E Y D l j m.blk=some (X,F,y)) (v:qI l [] y) (aB:dW Z m) (hr:ll m j a.tmps) (jh:a.tmps.size=nt) (T:J9 Z m a nt X F (λR w'=>Q .normal R w')):(Code.region id ops true).wp P Q a m.w:=by
 refine wp_region_any Dm ?_;have H:=aCj f;have kK:I l=ops.size:=by have:=azi u;simpa using this
 obtain⟨g1,O⟩:=azV 0 H;obtain⟨_,_,hp⟩:=aE2 H rfl hf v;obtain⟨c1,c2⟩:=aEu (ops:=ops) u H (λab=>aG);have n:hs m (m.later m.w.drew λ_=>False):=NT (jQ.drew _) λ_ h=>h.elim;have yC:(m.later m.w.drew λ_=>False).fr=m.fr:=by funext c;simp[a7.later]
 refine azF hG hP hS hL JX ops.size (R:=vJ 0 l y) ⟨hp,c1,aG,λi=>?_,λi hi=>?_⟩ ?_ (by rw[g1,O];exact f) (Po aB (jQ.drew _) λ_ h=>h.elim) (hr.ev n) jh ?_
 .grind
 .grind
 .grind
 intro a2 M p1 B x A z L N;exact T a2 M p1 (n.trans B) (x.trans yC) A z L N
end
def aaA:pQ->Exit
 | .normal=>.normal
 | .exit i=>.exit i
 | .ret=>.ret
section
variable {G:World->Prop} (hG:Good G Z) {Y:lH} {D:sI} (hP:Hs P G Y) (hS:Jx P G D) (hL:DT D) (Dm:P.follows .mixedOrders) {E:ni}
include hG hP hS hL Dm
theorem axQ:∀(c:Code) {T:aM}{j X:bP}{m:a7}{F:aH}{e:pQ}{a:Act}{Q:Exit->Act->World->Prop},rf P f nt c=some T->dJ E Y D n T j m.blk=some (e,X,F)->dW Z m->ll m j a.tmps->a.tmps.size=nt->
  J9 Z m a nt X F (λa' w'=>Q (aaA e) a' w')->c.wp P Q a m.w:=by
 intro c
 induction c with
 |skip=>intro T j X m F e a Q H h aB hr v u;simp only[rf,jb]at H;subst H;simp only[dJ,jb,nR]at h;obtain⟨rfl,rfl,rfl⟩:=h;exact wp_skip (u a m aB (hs.refl m) rfl rfl hr v rfl)
 |label l=>intro T j X m F e a Q H h aB hr v u;simp only[rf,jb]at H;subst H;simp only[dJ,jb,nR]at h;obtain⟨rfl,rfl,rfl⟩:=h;exact wp_label (u a m aB (hs.refl m) rfl rfl hr v rfl)
 |ret=>intro T j X m F e a Q H h aB hr v u;simp only[rf,jb]at H;subst H;simp only[dJ,jb,nR]at h;obtain⟨rfl,rfl,rfl⟩:=h;exact wp_ret (u a m aB (hs.refl m) rfl rfl hr v rfl)
 |exit id=>intro T j X m F e a Q H h aB hr v u;simp only[rf,jb]at H;subst H;simp only[dJ,jb,nR]at h;obtain⟨rfl,rfl,rfl⟩:=h;exact wp_exit (u a m aB (hs.refl m) rfl rfl hr v rfl)
 |region id ops am=>
  intro T j X m F e a Q H h aB hr v u;simp only[rf]at H;split at H
  .rename_i L KF;cases am with
   |false=>
    simp only[iJ,if_false,jb]at H;subst H;simp only[dJ]at h;split at h
    .rename_i e1 b1 y cN;simp only[iJ,if_false,jb,nR]at h;obtain⟨rfl,rfl,rfl⟩:=h;exact aDg hG hP hS KF cN aB hr v u
    cases h
   |true=>
    simp only[if_true]at H KF;split at H
    .rename_i EN;simp only[cF]at EN;cases H;simp only[dJ]at h;split at h
     .rename_i e1 b1 y cN;simp only[if_true]at h;split at h
      .rename_i hd;cases h;exact ayA hG hP hS hL Dm KF EN.1 EN.2 cN hd aB hr v u
      cases h
     cases h
    cases H
  cases H
 |seq x aw ad ap=>
  intro T j X m F e a Q H h aB hr v u;simp only[rf]at H;split at H
  .rename_i ix iy h1 h2;cases H;simp only[dJ]at h;refine wp_seq ?_;split at h
   .rename_i ik cE qE;refine ad h1 qE aB hr v ?_;intro a1 m1 N B z M A R O;subst M;refine ap h2 h N A R ?_;intro a2 m2 p1 p2 p3 p4 p5 p6 p7;exact u a2 m2 p1 (B.trans p2) (p3.trans z) p4 p5 p6 (p7.trans O)
   rename_i aN;refine ad h1 h aB hr v ?_;intro a1 m1 N B z M A R O;have:=u a1 m1 N B z M A R O;cases e with
   |normal=>exact(aN X F h).elim
   |exit i=>exact this
   |ret=>exact this
  cases H
 |cond x p q av ar=>
  intro T j X m F e a Q H h aB hr v u;simp only[rf]at H;split at H
  .rename_i c' ip iq h1 h2 h3;cases H;simp only[dJ]at h;split at h
   .rename_i t ht;have hv:=gv h1 hr;rw[ht]at hv;refine wp_cond (HE hv) ?_
    grind
   cases h
  cases H
 |block id c ih=>
  intro T j X m F e a Q H h aB hr v u;simp only[rf,gW]at H;obtain⟨ab,h1,rfl⟩:=H;simp only[dJ]at h;refine wp_block ?_;split at h
  .rename_i i ik cE qE;refine ih h1 qE aB hr v ?_;intro a1 m1 N B z M A R O;simp only[aaA,Exit.inBlock];split at h
   .rename_i hi;cases h;rw[aI hi];exact u a1 m1 N B z M A R O
   rename_i hi;cases h;rw[aE hi];exact u a1 m1 N B z M A R O
  rename_i aN;refine ih h1 h aB hr v ?_;intro a1 m1 N B z M A R O;have:=u a1 m1 N B z M A R O;cases e with
  |normal=>exact this
  |exit i=>exact(aN i X F h).elim
  |ret=>exact this
 |loop c ih=>
  intro T j X m F e a Q H h aB hr v u;simp only[rf,gW]at H;obtain⟨ab,h1,rfl⟩:=H;simp only[dJ]at h;refine wp_loop_rounds n ?_;have key:∀(k:Nat) {j:bP}{m:a7}{a:Act},nm (dJ E Y D n ab) k j m.blk=some (e,X,F)->dW Z m->ll m j a.tmps->a.tmps.size=nt->J9 Z m a nt X F (λa' w'=>Q (aaA e) a' w')->Code.rounds P c Q k a m.w:=by
   intro k
   induction k with
   |zero=>intro j m a h;simp[nm]at h
   |succ k an=>
    intro j m a h aB hr v u;rw[rounds_succ];simp only[nm]at h;split at h
    .rename_i ik cE qE;refine ih h1 qE aB hr v ?_;intro a1 m1 N B z M A R O;subst M;refine an h N A R ?_;intro a2 m2 p1 p2 p3 p4 p5 p6 p7;exact u a2 m2 p1 (B.trans p2) (p3.trans z) p4 p5 p6 (p7.trans O)
    rename_i aN;refine ih h1 h aB hr v ?_;intro a1 m1 N B z M A R O;have:=u a1 m1 N B z M A R O;cases e with
    |normal=>exact(aN X F h).elim
    |exit i=>exact this
    |ret=>exact this
  exact key n h aB hr v u
 |scope c ih=>intro T j X m F e a Q H h aB hr v u;simp only[rf]at H;refine wp_scope_straight ?_;refine ih H h aB hr v ?_;intro a1 m1 N B z M A R O;have:=u a1 m1 N B z M A R O;cases e<;>exact this
 |_=>intro T j X m F e a Q H h;simp only[rf,jb]at H;subst H;simp[dJ]at h
end
section
variable{m:a7}
theorem arf{k:eF}{D:eC}{v:V}{u:Value}(h:uo k D=some v)(hr:c9 m v u):qu m v u:=by
 unfold uo at h;split at h
 .split at h
  .cases h;exact hr
  cases h
 split at h
 .cases h;exact hr
 cases h
theorem aBC{v:V}{u:Value}(h:Ur x=some v)(hr:c9 m x u):qu m v u:=by cases x<;>simp[Ur,jb,reduceCtorEq]at h<;>subst h<;>exact hr
theorem alj{α β:Type}{f:α->Sem β}{x:α}{L:List α}{y:β}{ys:List β}{w:World}(H:(f x).run P w=.ok y w)(h:(L.mapM f).run P w=.ok ys w):((x::L).mapM f).run P w=.ok (y::ys) w:=aH2
theorem avm{al:cD}(aB:dW Z m){tmps:Array Value}(hr:ll m j tmps):∀ {R:List ResultVar}{l:List (Nat×Option eF)}{h:dG},CA P R=some l->sk al j m.blk l=some h->
  ∃ys,(R.mapM (λ| .tmp t=>pure (tmps.getD t undef)| .cell a t=>do loadVar t (<-asAddr (tmps.getD a undef)):ResultVar->Sem Value)).run P m.w=.ok ys m.w/\Pw (qu m) h ys:=by
 intro R
 induction R with
 |nil=>intro l h f H;simp only[CA,jb]at f;subst f;simp only[sk,jb]at H;subst H;exact⟨[],by simp[Sem.run_pure],rfl,λM x u p=>by simp at p⟩
 |cons r R F=>
  intro l h f H;have cons:∀ {x:V}{L:dG}{y:Value}{ys:List Value},qu m x y->Pw (qu m) L ys->Pw (qu m) (x::L) (y::ys):=by
   intro x L y ys p q;refine⟨by simp[q.1],λM z u a b=>?_⟩;cases M with
   |zero=>simp at a b;subst a b;exact p
   |succ M=>exact q.2 M z u (by simpa using a) aHY
  cases r with
  |tmp t=>
   simp only[CA,gW]at f;obtain⟨l',T,rfl⟩:=f;simp only[sk]at H;split at H
   .rename_i v q A E;cases H;obtain⟨ys,g1,n⟩:=F T E;exact⟨_::ys,alj (by simp[Sem.run_pure]) g1,cons (aBC A (hr t)) n⟩
   cases H
  |cell a t=>
   simp only[CA]at f;split at f
   .rename_i k q A E;cases f;simp only[sk]at H;split at H
    .rename_i D rd ws X Y;split at H
     case isFalse=>cases H
     simp only[gW]at H;obtain⟨v,B,rfl⟩:=H;obtain⟨ys,g1,n⟩:=F E Y;obtain⟨ad,y,Q,O,N⟩:=ahn A (akc aB X (hr a)) B;exact⟨y::ys,alj (by simp[Q,asAddr,O]) g1,cons (arf B N) n⟩
    cases H
   cases f
theorem aq2{al:cD}(aB:dW Z m){tmps:Array Value}(hr:ll m j tmps){fn:Func}{l:List (Nat×Option eF)}{h:dG}(z:CA P fn.results.toList=some l)(H:sk al j m.blk l=some h):
  ∃y,(results fn tmps).run P m.w=.ok y m.w/\c9 m (D4 h) y:=by
 obtain⟨ys,g1,f⟩:=avm aB hr z H;have ow:(results fn tmps).run P m.w=.ok (if B:ys.toArray.size=1 then ys.toArray[0]else .tuple ys.toArray) m.w:=by
  unfold results;simp only[Array.mapM_eq_mapM_toList,map_eq_pure_bind,Sem.run_bind,Result.andThen_ok,Sem.run_pure,bind_assoc,pure_bind]
  erw[g1]
  simp_all
 refine⟨_,ow,?_⟩
 match h,ys,f with
 |[v],[y],f=>exact c9.of1 (f.2 0 v y rfl rfl)
 |[],[],f=>exact⟨_,rfl,rfl,λA x u p=>by simp at p⟩
 |v::n::h,y::y'::ys,f=>refine⟨_,rfl,by simpa using f.1,λA x u p q=>f.2 A x u p ii⟩
 |[],y::ys,f=>exact absurd f.1 aG
 |v::h,[],f=>exact absurd f.1 aG
 |[v],y::y'::ys,f=>exact absurd f.1 aG
 |v::n::h,[y],f=>exact absurd f.1 aG
theorem aka{fn:aS}(h:Gb P f=some fn):∃j c,P.funcs[f]?=some j/\j.body=some c/\(j.name== "runtime.NumGoroutine")=false/\rf P f j.ntmps c=some fn.body/\CA P j.results.toList=some fn.results/\fn.ntmps=j.ntmps:=by
 unfold Gb at h
 grind
def ado(S:Sys)(G:World->Prop):Prop:=∀f h r,S.prim f h=some (some r)->Enters S.P f/\ ∀(w:World) (O:Nat->Prop) (T:Array Value),Good G w->(∀c,O c->c<w.heap.size)->Pw (vG w O) h T.toList->Calls S.P f T w (Au w O r)
def anw(S:Sys)(G:World->Prop):Prop:=∀f h al blk v F,S.trig f h->(S.primS f h al blk).map (λr=>(r.1,app r.2 blk))=some (v,F)->
 (Enters S.P f/\ ∀(Z:World) (m:a7) (T:Array Value),Good G Z->dW Z m->m.blk=blk->Pw (c9 m) h T.toList->Calls S.P f T m.w (EX Z m v F))/\
 (∀id,al.ok id=false->F id=blk id)/\
 ∀bt,(∀id,al.ok id->bt id=blk id)->∃j,(S.primS f h al bt).map (λr=>(r.1,app r.2 bt))=some (v,j)/\ ∀id,j id=if al.ok id then F id else bt id
structure LQ (S:Sys) (G:World->Prop):Prop where
 follow:S.P.follows .mixedOrders
 fns:∀f fn,S.fns f=some fn->Gb S.P f=some fn
 prim:ado S G
 primS:anw S G
theorem aqO{h:dG}(n:Pw (c9 m) h T.toList)(hl:I h<=nt):ll m (tW h) (T++Array.replicate (nt-T.size) undef)/\(T++Array.replicate (nt-T.size) undef).size=nt:=by
 have af:T.size=I h:=by simpa using n.1
 constructor
 .intro t;by_cases H:t<I h
  .have f:tW h t=h[t]:=by simp[tW,List.getD,H]
   have j:(T++Array.replicate (nt-T.size) undef).getD t undef=T[t]:=by simp[G0,Array.getElem?_append,af,H]
   rw[f,j];exact n.2 t _ _ mt aG
  have f:tW h t=.undef:=by simp[tW,List.getD,pS (Nat.le_of_not_lt H)]
  have j:(T++Array.replicate (nt-T.size) undef).getD t undef=undef:=by
   simp
   grind
  rw[f,j];rfl
 simp;omega
theorem atQ(aB:dW Z m):∀ {o q:aD},lg o q->(∀id∈o,∃O,(m.blk id).2=some O/\O.iF)->(o.map m.σ).Nodup/\ ∀id∈q,id∉o:=by
 intro o
 induction o with
 |nil=>intro q _ _;exact⟨aG,λid _ h=>by simp at h⟩
 |cons i o z=>
  intro q h n;simp[lg,cF,gH]at h;obtain⟨⟨D,E⟩,v⟩:=h;obtain⟨i1,i2⟩:=z v (λid H=>n id mt);have M:i∉o:=by simpa using D
  refine⟨?_,λid H=>?_⟩
  .rw[fq,qQ];refine⟨λN=>?_,i1⟩;obtain⟨j,u,x⟩:=c_.1 N;obtain⟨O,A,y⟩:=n i aG;obtain⟨f,B,b2⟩:=n j (by simp[u]);exact M (aB.inj j i f O B b2 A y x▸u)
  grind
theorem au5{blk:aH}:∀ {D:eC}{R:oR}{o q:aD},kD blk D=some (R,o,q)->I R=I D:=by
 intro D
 induction D with
 |nil=>intro R o q h;simp[kD,jb,nR]at h;obtain⟨rfl,_⟩:=h;rfl
 |cons c D f=>
  intro R o q h;simp[kD]at h
  grind
theorem amA{α β:Type}{f:α->Option (β×aD)}:∀ {L:List α}{ys:List β}{r:aD},iP f L=some (ys,r)->∀id∈r,∃x y q,f x=some (y,q)/\id∈q:=by
 intro L
 induction L with
 |nil=>intro ys r h id H;simp[iP]at h;rw[h.2]at H;simp at H
 |cons x L j=>
  intro ys r h id H;simp[iP]at h
  grind
theorem atU{blk:aH}:∀ {n:Nat}{c:cG}{x:PV}{r:aD},gC blk n c=some (x,r)->∀id∈r,∃O,(blk id).2=some O:=by
 intro n
 induction n with
 |zero=>intro c x r h;simp[gC]at h
 |succ n z=>
  intro c x r h id H;have one:∀ {i:Nat}{O:gr}{g:Nat},blk i=(g,some O)->id∈[i]->∃O,(blk id).2=some O:=by intro i O g f m;simp at m;subst m;exact⟨O,by rw[f]⟩
  have j:∀ {D:eC}{ps:dR}{r:aD},iP (gC blk n) D=some (ps,r)->id∈r->∃O,(blk id).2=some O:=by intro D ps r h m;obtain⟨x,y,q,v,u⟩:=amA h id m;exact z v id u
  unfold gC at h;split at h
  .cases h;simp at H
  .grind
  .grind
  .split at h
   .rename_i f;split at h
    .cases h;exact one f H
    cases h
   .rename_i f;split at h
    .cases h;exact one f H
    cases h
   .rename_i f;split at h
    .split at h
     .rename_i A;cases h;rcases dh.1 H with e|H
      .exact one f aIA
      obtain⟨x,y,q,v,u⟩:=amA A id H;exact j v u
     cases h
    cases h
   cases h
  .grind
  grind
theorem arU{blk:aH}:∀ {D:eC}{R:oR}{o q:aD},kD blk D=some (R,o,q)->∀id∈q,∃O,(blk id).2=some O:=by
 intro D
 induction D with
 |nil=>intro R o q h id H;simp only[kD,jb,nR]at h;rw[<-h.2.2]at H;simp at H
 |cons c D u=>
  intro R o q h id H;simp[kD]at h;split at h
  .rename_i x z Q L os A f j;cases h;rcases iI.1 H with H|H
   .have dO:(gC blk jK c).map (λ(v,r)=>((.p v:nM),([]:aD),r))=some (x,z,Q)->∃O,(blk id).2=some O:=by
     intro f;simp only[gW]at f;obtain⟨⟨y,r⟩,m,n⟩:=f;cases n;exact atU m id H
    unfold iN at f
    grind
   exact u j id H
  cases h
theorem auF{w:World}{Y:a7}(aB:dW w m)(B:hs Y m)(qV:Y.w=w)(T:∀c,¬Y.iF c)(yC:m.fr=O){v:V}{r:RV}(y:iD m.blk v=some r)(hr:c9 m v val):Au w O r (.returned val) m.w:=by
 unfold iD at y;split at y
 .rename_i D dV;split at y
  .rename_i rs o q L;split at y
   .rename_i rM;cases y;obtain⟨h,x,gO⟩:=aFh dV hr;obtain⟨g1,g2⟩:=gO rs (au5 L);have M:=(afR aB (Q:=λ_=>False) (λ_ y=>y.elim) L x (λ_ _ y=>y)).2;obtain⟨eV,ad⟩:=atQ aB rM M;have A:∀b,(O b\/b∈o.map m.σ)->m.own b:=by
     intro b z;rcases z with z|z
     .exact .inl (yC▸z)
     obtain⟨id,H,rfl⟩:=c_.1 z;obtain⟨f,F,N⟩:=M id H;exact .inr ⟨id,f,F,N,rfl⟩
    have hq:∀id∈q,¬(O (m.σ id)\/m.σ id∈o.map m.σ):=by
     intro id H u;obtain⟨f,n⟩:=arU L id H;by_cases X:f.iF
     .rcases u with u|u
      .exact(aB.eO id f n X).2 (yC▸u)
      obtain⟨j,hj,he⟩:=c_.1 u;obtain⟨ab,b1,b2⟩:=M j hj;exact ad id H (aB.inj j id ab f b1 b2 n X he▸hj)
     have E:¬m.own (m.σ id):=by
      have Z:=aB.obj id f n;cases f<;>simp[gr.iF]at X
      .obtain⟨_,_,_,_,_,E⟩:=Z;exact E
      .obtain⟨_,_,_,_,_,_,_,_,_,E⟩:=Z;exact E
      obtain⟨_,_,_,_,_,E⟩:=Z;exact E
     exact E (A _ u)
    obtain⟨R,_⟩:=afR aB A L x hq;subst qV;refine⟨val,o.map m.σ,rfl,⟨B.os,B.tape,B.output,B.size,λc x=>B.keep c x (T c)⟩,eV,λc x=>?_,h,g2,by rw[g1];exact R⟩;obtain⟨id,H,rfl⟩:=c_.1 x;obtain⟨f,F,N⟩:=M id H;exact⟨(aB.eO id f F N).1,(aB.obj id f F).lt⟩
   cases y
  cases y
 cases y
theorem vG.vrel{w:World}(H:m.w=w)(f:m.own=O)(h:vG w O x v):c9 m x v:=by
 subst H f;cases x with
 |undef=>exact h.elim
 |tup _=>exact h.elim
 |one c=>
  cases c with
  |p x=>exact pJ h
  |_=>exact h.elim
 |agg D=>obtain⟨arr,ps,rfl,rfl,hp⟩:=h;exact c9.agg.2 ⟨arr,rfl,hp.toC⟩
theorem atm{E:ni}{fn:aS}{T:dG}{blk:aH}{v:V}(H:s5 E Y D n fn T blk=some (v,F)):
  ∃e j h,dJ E Y D n fn.body (tW T) blk=some (e,j,F)/\(e=.normal\/e=.ret)/\sk E.al j F fn.results=some h/\v=D4 h:=by
 unfold s5 at H
 grind [gW]
theorem amL{G:World->Prop}(hG:Good G Z)(hP:Hs P G Y)(hS:Jx P G D)(hL:DT D)(Dm:P.follows .mixedOrders){E:ni}{fn:aS}(hc:Gb P f=some fn){h:dG}{m:a7}{v:V}(ab:s5 E Y D n fn h m.blk=some (v,F))
  (hl:I h<=fn.ntmps) (aB:dW Z m) (ha:Pw (c9 m) h T.toList):Calls P f T m.w (EX Z m v F):=by
 obtain⟨x,c,R,H,h3,Q,X,h6⟩:=aka hc;obtain⟨e,j,rs,hx,he,z,rfl⟩:=atm ab;refine calls_of_wp R H ?_;obtain⟨s1,N⟩:=aqO (nt:=x.ntmps) ha J;refine axQ hG hP hS hL Dm c Q hx aB s1 N ?_;intro O M u k2 L k4 k5 k6 A;subst k4;obtain⟨y,g1,B⟩:=aq2 u k5 X z;have:bodyPost P x (EX Z m _ M.blk) .normal O M.w:=⟨A,y,g1,y,M,rfl,rfl,u,k2,L,rfl,B⟩;rcases he with rfl|rfl
 .exact this
 exact this
theorem enters_of{fn:aS}(n:Gb P f=some fn):Enters P f:=by obtain⟨m,c,H,h,j,_⟩:=aka n;exact⟨m,c,H,h,j⟩
theorem sound{S:Sys}{G:World->Prop}(y:LQ S G):∀n,Hs S.P G (lk S n)/\Jx S.P G (jT S n)/\DT (jT S n):=by
 intro n
 induction n with
 |zero=>exact⟨λf h r y=>by simp[lk]at y,λf h al blk v F y=>by simp[jT]at y,λf h al blk v F y=>by simp[jT]at y⟩
 |succ n ih=>
  obtain⟨hP,hS,hL⟩:=ih;refine⟨?_,?_,?_⟩
  .intro f h r H;rw[lk]at H;split at H
   .rename_i r' hp;subst H;exact y.prim f h r hp
   split at H
   .rename_i fn hfn;have A:=y.fns f fn hfn;split at H
    .rename_i hl;refine⟨enters_of A,λw O T hG hO B=>?_⟩;unfold G6 at H;split at H
     .rename_i v F hr
      let m0:a7:=⟨w,CL,λ_=>0,λ_=>0,O⟩
      have N:m0.own=O:=by
       funext c;apply propext;constructor
       .rintro (y|⟨id,o,y,_⟩)
        .exact y
        cases y
       exact .inl
      refine(amL hG hP hS hL y.follow A hr hl ⟨rfl,rfl,rfl,cP _,λ_ _=>rfl,(λid o y=>by cases y),(λid o y=>by cases y),hO,(λid gT o o' y=>by cases y)⟩ ⟨B.1,λj x u p q=>(B.2 j x u p q).vrel rfl N⟩).mono ?_;rintro e w' ⟨val,m',rfl,rfl,Y,q2,q3,q4,q5⟩
      subst q4;exact auF Y q2 rfl (λc ⟨id,o,y,_⟩=>by cases y) q3 H q5
     cases H
    cases H
   cases H
  .intro f h al blk v F H;rw[jT]at H;by_cases z:S.trig f h
   .rw[aI z]at H;exact(y.primS f h al blk v F z H).1
   rw[aE z]at H;split at H
   .rename_i fn hfn;have A:=y.fns f fn hfn;split at H
    .rename_i hl;refine⟨enters_of A,λZ m T hG aB X B=>?_⟩;subst X;exact amL hG hP hS hL y.follow A H hl aB B
    cases H
   cases H
  intro f h al blk v F H;rw[jT]at H;by_cases z:S.trig f h
  .rw[aI z]at H;obtain⟨_,Q,R⟩:=y.primS f h al blk v F z H;refine⟨Q,λbt D=>?_⟩;obtain⟨E,M,L⟩:=R bt D;exact⟨E,by rw[jT,aI z];exact M,L⟩
  rw[aE z]at H;split at H
  .rename_i fn hfn;split at H
   .rename_i hl;obtain⟨Q,R⟩:=aDW hL H;refine⟨Q,λbt D=>?_⟩;obtain⟨E,M,L⟩:=R bt D;exact⟨E,by rw[jT,aE z];simp only[hfn,hl,if_true];exact M,L⟩
   cases H
  cases H
theorem aC.calls{S:Sys}{G:World->Prop}(H:LQ S G){h:dG}{r:RV}(m:aC S f h r)(w:World)(hG:Good G w)(T:Array Value)(j:Pw (vG w λ_=>False) h T.toList):Calls S.P f T w (Au w (λ_=>False) r):=by obtain⟨n,u⟩:=m;exact((sound H n).1 f h r u).2 w _ T hG (λc H=>H.elim) j
end
section
variable{T:dG}{D:sI}{Y:lH}{E:ni}
theorem aji(h:n<=9223372036854775807):IntKind.i64.wrap (n:Int)=n:=by
 have e:(2 ^ IntKind.i64.bits:Int)=18446744073709551616:=aa;have E:(2 ^ (IntKind.i64.bits-1):Int)=9223372036854775808:=aa;unfold IntKind.wrap
 grind
inductive eP where
 |leaf
 |node (v:V) (l r:eP)
noncomputable def eP.get (t:eP):Nat->V:=eP.rec (motive:=λ_=>Nat->V) (λ_=>.undef) (λv _ _ f iz n=>bif Nat.beq n 0 then v else bif Nat.beq (Nat.mod n 2) 1 then f (Nat.div n 2)else iz (Nat.sub (Nat.div n 2) 1)) t
noncomputable def eP.single (k:Nat):Nat->V->eP:=Nat.rec (motive:=λ_=>Nat->V->eP) (λ_ _=>.leaf) (λ_ f n x=>bif Nat.beq n 0 then .node x .leaf .leaf else bif Nat.beq (Nat.mod n 2) 1 then .node .undef (f (Nat.div n 2) x) .leaf else .node .undef .leaf (f (Nat.sub (Nat.div n 2) 1) x)) k
noncomputable def eP.set (t:eP):Nat->V->eP:=eP.rec (motive:=λ_=>Nat->V->eP) (λn x=>eP.single 12 n x) (λv l r sl f n x=>bif Nat.beq n 0 then .node x l r else bif Nat.beq (Nat.mod n 2) 1 then .node v (sl (Nat.div n 2) x) r else .node v l (f (Nat.sub (Nat.div n 2) 1) x)) t
theorem MU{a b:Nat}(h:a≠b):Nat.beq a b=false:=by grind [zj]
theorem ay7(n:Nat):eP.leaf.get n=.undef:=rfl
theorem WE(v:V)(l r:eP)(n:Nat):(eP.node v l r).get n=if n=0 then v else if n%2=1 then l.get (n/2)else r.get (n/2-1):=by
 show(bif Nat.beq n 0 then v else bif Nat.beq (n%2) 1 then l.get (n/2)else r.get (n/2-1))=_;by_cases h:n=0
 .subst h;rfl
 simp_all
theorem an3(f:eP->eP)(g:eP->eP)(v:V)(l r:eP)(n m:Nat)(x:V)(hl:n%2=1->(f l).get (m/2)=if m/2=n/2 then x else l.get (m/2))(hr:n≠0->n%2≠1->(g r).get (m/2-1)=if m/2-1=n/2-1 then x else r.get (m/2-1)):
  (bif Nat.beq n 0 then eP.node x l r else bif Nat.beq (n%2) 1 then .node v (f l) r else .node v l (g r)).get m=if m=n then x else(eP.node v l r).get m:=by
 by_cases H:n=0
 .subst H;simp[RX,cond_true,WE]
  grind
 rw[MU H];by_cases h:n%2=1
 .rw[h];simp[cond_false,RX,cond_true,WE]
  grind
 rw[MU h];simp[cond_false,WE]
 grind
theorem aBk:∀(k n m:Nat) (x:V),n+1<2 ^ k->(eP.single k n x).get m=if m=n then x else eP.leaf.get m:=by
 intro k
 induction k with
 |zero=>intro n m x h;simp at h
 |succ k f=>
  intro n m x h;have:=an3 (λ_=>eP.single k _ x) (λ_=>eP.single k _ x) .undef .leaf .leaf n m x (λ_=>f _ _ _ J) (λ_ _=>f _ _ _ J);have e:(eP.node .undef .leaf .leaf).get m=eP.leaf.get m:=by rw[WE];simp[ay7]
  rwa[e]at this
theorem eP.ahM:∀(t:eP) (n m:Nat) (x:V),n+1<2 ^ 12->(t.set n x).get m=if m=n then x else t.get m:=by
 intro t
 induction t with
 |leaf=>intro n m x h;exact aBk 12 n m x h
 |node v l r j f=>intro n m x h;exact an3 (λl=>l.set (n/2) x) (λr=>r.set (n/2-1) x) v l r n m x (λ_=>j _ _ _ J) (λ_ _=>f _ _ _ J)
abbrev BL:=List (Nat×(Nat×Option gr))
noncomputable def K6 (b:BL) (n:Nat):Nat×Option gr:=List.rec (motive:=λ_=>Nat×Option gr) (0,none) (λp _ f=>bif Nat.beq p.1 n then p.2 else f) b
noncomputable def PM:BL->Nat->Nat×Option gr->BL
 |[],n,x=>[(n,x)]
 |(i,o)::r,n,x=>bif Nat.beq i n then(i,x)::r else(i,o)::PM r n x
theorem awR:∀(b:BL) (n:Nat) (x:Nat×Option gr) (m:Nat),K6 (PM b n x) m=if m=n then x else K6 b m:=by
 intro b
 induction b with
 |nil=>
  intro n x m;simp only[PM,K6];by_cases h:m=n
  .subst h;simp
  have:=MU λe=>h e.symm;simp[this,h]
 |cons p b f=>
  obtain⟨i,o⟩:=p;intro n x m;simp[PM];by_cases h:i=n
  .subst h;simp only[RX,cond_true,K6];by_cases H:m=i
   .subst H;simp
   have:=MU λe=>H e.symm;simp[this,H]
  have:=MU h;simp only[this,cond_false,K6];by_cases H:i=m
  .subst H;simp[h]
  have:=MU H;simp[this,cond_false];exact f n x m
noncomputable def sA (t:eP):bP:=λi=>t.get i
noncomputable def mH (b:BL):aH:=λi=>K6 b i
noncomputable def K8:Nat->dG->eP->eP
 |_,[],t=>t
 |i,a::r,t=>K8 (i+1) r (t.set i a)
theorem axV:∀(l:dG) (i:Nat) (t:eP) (m:Nat),i+I l<4095->(K8 i l t).get m=if i<=m/\m<i+I l then l.getD (m-i) .undef else t.get m:=by
 intro l
 induction l with
 |nil=>intro i t m _;simp[K8];intro j H;omega
 |cons a r f=>
  intro i t m h;simp at h |-;rw[K8,f _ _ m J,eP.ahM t i m a J]
  grind
theorem aB9(h:I T<4095):sA (K8 0 T .leaf)=tW T:=by
 funext m;unfold sA tW;rw[axV T 0 .leaf m J];by_cases H:m<I T
 .grind
 rw[aE J];simp[eP.get,List.getD,pS (Nat.le_of_not_lt H)]
noncomputable def ad2 {α:Type} (n:Nat) (k:Nat->α):α:=match n with
 |0=>k 0
 |m+1=>k (m+1)
noncomputable def XY {α:Type} (z:Int) (k:Int->α):α:=match z with
 | .ofNat n=>ad2 n λn=>k (.ofNat n)
 | .negSucc n=>ad2 n λn=>k (.negSucc n)
noncomputable def aaC {α:Type} (v:V) (k:V->α):α:=match v with
 | .one (.p (.int t z))=>XY z λz=>k (.one (.p (.int t z)))
 | .one (.p (.bool b))=>match b with
  |true=>k (.one (.p (.bool true)))
  |false=>k (.one (.p (.bool false)))
 |v=>k v
@[simp] theorem aHF {α:Type} (n:Nat) (k:Nat->α):ad2 n k=k n:=by cases n<;>rfl
@[simp] theorem aHH {α:Type} (z:Int) (k:Int->α):XY z k=k z:=by cases z<;>simp[XY]
@[simp] theorem arV {α:Type} (v:V) (k:V->α):aaC v k=k v:=by
 unfold aaC;split
 .simp
 .split<;>rfl
 rfl
def Ts(al:cD)(l:aD):Bool:=bif al.any then true else al.iG l
theorem aF1(al:cD)(l:aD):Ts al l=al.iG l:=by
 unfold Ts;cases h:al.any with
 |false=>rfl
 |true=>simp[cD.iG,cD.ok,h]
abbrev rI:=Nat->dG->cD->BL->Option (V×BL)
noncomputable def Ja:lq->BL->BL
 |[],b=>b
 |(i,o)::r,b=>Ja r (PM b i o)
theorem Zq:∀(u:lq) (b:BL),mH (Ja u b)=app u (mH b):=by
 intro u
 induction u with
 |nil=>intro b;rfl
 |cons x u f=>obtain⟨i,o⟩:=x;intro b;simp[Ja,app];rw[f];congr 1;funext m;exact awR b i o m
noncomputable def Ls (t:eP) (d:eF) (v:V) (k:eP->Option (eP×BL×jk)):Option (eP×BL×jk):=match d with
 |none=>k t
 |some n=>bif Nat.ble n 4000 then aaC v λv=>k (t.set n v)else none
noncomputable def S_ (E:ni) (Y:lH) (D:rI) (o:lI) (t:eP) (b:BL):Option (eP×BL×jk):=
 match th (sA t) o.guard with
 |none=>none
 |some false=>Ls t o.dst .undef λT=>some (T,b,⟨[],[],[]⟩)
 |some true=>match cV E.shared (sA t) (mH b) o.op with
  | .fail=>none
  | .done v u r=>bif Ts E.al (r++u.map (·.1))then Ls t o.dst v λT=>some (T,Ja u b,⟨r,u.map (·.1),[]⟩)else none
  | .pc f h r s=>match Y f h with
   |some x=>match fQ (mH b) r s (x.gV (E.lone s))with
    |some (v,u)=>bif Ts E.al (r++u.map (·.1))then Ls t o.dst v λT=>some (T,Ja u b,⟨r++u.map (·.1),u.map (·.1),[]⟩)else none
    |none=>none
   |none=>none
  | .sc f h=>match iA E f h (mH b)with
   |al=>bif E.al.holds al then
     match D f h al b with
     |some (v,M)=>Ls t o.dst v λT=>some (T,M,⟨al.ids,al.ids,al.fs⟩)
     |none=>none
    else none
noncomputable def KL (D:sI) (j:rI):Prop:=∀f h al b v M,j f h al b=some (v,M)->D f h al (mH b)=some (v,mH M)
theorem Vf{t T:eP}{d:eF}{v:V}{b M:BL}{e e':jk}(h:Ls t d v (λT=>some (T,b,e))=some (T,M,e')):dL (sA t) d v=sA T/\b=M/\e=e':=by
 unfold Ls at h;split at h
 .cases h;exact⟨rfl,rfl,rfl⟩
 rename_i n;cases H:Nat.ble n 4000 with
 |false=>rw[H]at h;cases h
 |true=>rw[H]at h;simp only[cond_true,arV]at h;cases h;refine⟨?_,rfl,rfl⟩;have:=jg H;funext m;exact(eP.ahM t n m v J).symm
theorem aAs{n:rI}(af:KL D n){o:lI}{t T:eP}{b M:BL}{e:jk}(H:S_ E Y n o t b=some (T,M,e)):mP E Y D o (sA t) (mH b)=some (sA T,mH M,e):=by
 unfold S_ at H;simp only[aF1]at H;unfold mP;split at H
 .cases H
 .rename_i m;rw[m];obtain⟨j,rfl,rfl⟩:=Vf H;simp only[j]
 rename_i m;rw[m];simp only;split at H
 .cases H
 .rename_i v u r hp;cases aB:E.al.iG (r++u.map (·.1))with
  |false=>rw[aB]at H;cases H
  |true=>rw[aB]at H;obtain⟨j,rfl,rfl⟩:=Vf H;simp only[hp,aB,if_true,j,Zq]
 .rename_i f h r s hp;split at H
  .rename_i x y;split at H
   .rename_i v u hl;cases aB:E.al.iG (r++u.map (·.1))with
    |false=>rw[aB]at H;cases H
    |true=>rw[aB]at H;obtain⟨j,rfl,rfl⟩:=Vf H;simp only[hp,y,hl,aB,if_true,j,Zq]
   cases H
  cases H
 rename_i f h hp;cases aB:E.al.holds (iA E f h (mH b))with
 |false=>rw[aB]at H;cases H
 |true=>
  rw[aB]at H;split at H
  .rename_i v B z;obtain⟨j,rfl,rfl⟩:=Vf H;simp only[hp,aB,if_true,af _ _ _ _ _ _ z,j]
  cases H
noncomputable def asi (E:ni) (Y:lH) (D:rI) (o:lI) (h:eP->BL->Option (eP×BL×gl)) (j:eP) (blk:BL):Option (eP×BL×gl):=
 match S_ E Y D o j blk with
 |some (X,F,e)=>match h X F with
  |some (u,f,y)=>some (u,f,e::y)
  |none=>none
 |none=>none
noncomputable def Lr (E:ni) (Y:lH) (D:rI) (l:fx):eP->BL->Option (eP×BL×gl):=List.rec (motive:=λ_=>eP->BL->Option (eP×BL×gl)) (λj blk=>some (j,blk,[])) (λo _ f=>asi E Y D o f) l
theorem auH(E:ni)(Y:lH)(D:rI)(j:eP)(blk:BL):Lr E Y D [] j blk=some (j,blk,[]):=rfl
theorem asr(E:ni)(Y:lH)(D:rI)(o:lI)(r:fx)(j:eP)(blk:BL):Lr E Y D (o::r) j blk=match S_ E Y D o j blk with
  |some (X,F,e)=>match Lr E Y D r X F with
   |some (u,f,y)=>some (u,f,e::y)
   |none=>none
  |none=>none:=rfl
theorem arL{f:rI}(af:KL D f):∀ {ops:fx}{t T:eP}{b M:BL}{y:gl},Lr E Y f ops t b=some (T,M,y)->jX E Y D ops (sA t) (mH b)=some (sA T,mH M,y):=by
 intro ops
 induction ops with
 |nil=>intro t T b M y h;simp[auH,jb,nR]at h;obtain⟨rfl,rfl,rfl⟩:=h;rfl
 |cons o r j=>
  intro t T b M y h;simp[asr]at h;split at h
  .rename_i v B x n;split at h
   .rename_i u b2 m H;cases h;simp[jX,aAs af n,j H]
   cases h
  cases h
noncomputable def Pv (f:eP->BL->Option (pQ×eP×BL)) (n:Nat):eP->BL->Option (pQ×eP×BL):=
 Nat.rec (motive:=λ_=>eP->BL->Option (pQ×eP×BL)) (λ_ _=>none) (λ_ h j blk=>match f j blk with
  |some (.normal,X,F)=>h X F
  |r=>r) n
theorem arj(f:eP->BL->Option (pQ×eP×BL))(n:Nat)(j:eP)(blk:BL):Pv f (n+1) j blk=match f j blk with
  |some (.normal,X,F)=>Pv f n X F
  |r=>r:=rfl
abbrev D9:=eP->BL->Option (pQ×eP×BL)
noncomputable def ase (E:ni) (Y:lH) (D:rI) (d:Bool) (ops:fx):D9:=λj blk=>match Lr E Y D ops j blk with
  |some (X,F,y)=>bif d then(bif qI ops [] y then some (.normal,X,F)else none)else some (.normal,X,F)
  |none=>none
noncomputable def aF4 (a b:D9):D9:=λj blk=>match a j blk with
  |some (.normal,X,F)=>b X F
  |r=>r
noncomputable def aHb (x:fc) (a b:D9):D9:=λj blk=>match ev (sA j) x with
  | .one (.p (.bool t))=>bif t then a j blk else b j blk
  |_=>none
noncomputable def auy (id:Nat) (c:D9):D9:=λj blk=>match c j blk with
  |some (.exit i,X,F)=>bif Nat.beq i id then some (.normal,X,F)else some (.exit i,X,F)
  |r=>r
noncomputable def vZ (E:ni) (Y:lH) (D:rI) (n:Nat) (c:aM):D9:=
 aM.rec (motive:=λ_=>D9) (λj blk=>some (.normal,j,blk)) (λd ops=>ase E Y D d ops) (λ_ _ a b=>aF4 a b) (λx _ _ a b=>aHb x a b)
  (λid _ c=>auy id c) (λ_ c=>Pv c n) (λid j blk=>some (.exit id,j,blk)) (λj blk=>some (.ret,j,blk)) (λ_ _=>none) c
section
variable (E:ni) (Y:lH) (D:rI) (n:Nat) (j:eP) (blk:BL)
theorem aAA:vZ E Y D n .skip j blk=some (.normal,j,blk):=rfl
theorem aBm(id:Nat):vZ E Y D n (.exit id) j blk=some (.exit id,j,blk):=rfl
theorem aAn:vZ E Y D n .ret j blk=some (.ret,j,blk):=rfl
theorem arv(d:Bool)(ops:fx):vZ E Y D n (.region d ops) j blk=match Lr E Y D ops j blk with
  |some (X,F,y)=>bif d then(bif qI ops [] y then some (.normal,X,F)else none)else some (.normal,X,F)
  |none=>none:=rfl
theorem auM(a b:aM):vZ E Y D n (.seq a b) j blk=match vZ E Y D n a j blk with
  |some (.normal,X,F)=>vZ E Y D n b X F
  |r=>r:=rfl
theorem aGc(x:fc)(a b:aM):vZ E Y D n (.cond x a b) j blk=match ev (sA j) x with
  | .one (.p (.bool t))=>bif t then vZ E Y D n a j blk else vZ E Y D n b j blk
  |_=>none:=rfl
theorem aAI(id:Nat)(c:aM):vZ E Y D n (.block id c) j blk=match vZ E Y D n c j blk with
  |some (.exit i,X,F)=>bif Nat.beq i id then some (.normal,X,F)else some (.exit i,X,F)
  |r=>r:=rfl
theorem aHn(c:aM):vZ E Y D n (.loop c) j blk=Pv (vZ E Y D n c) n j blk:=rfl
end
theorem aCb{f:eP->BL->Option (pQ×eP×BL)}{g:bP->aH->Option (pQ×bP×aH)}(Q:∀t b e T M,f t b=some (e,T,M)->g (sA t) (mH b)=some (e,sA T,mH M)):
  ∀(n:Nat) {t T:eP}{b M:BL}{e:pQ},Pv f n t b=some (e,T,M)->nm g n (sA t) (mH b)=some (e,sA T,mH M):=by
 intro n
 induction n with
 |zero=>intro t T b M e h;cases h
 |succ n j=>
  intro t T b M e h;simp[arj]at h;simp[nm]
  grind
theorem age{f:rI}(af:KL D f):∀(c:aM) {t T:eP}{b M:BL}{e:pQ},vZ E Y f n c t b=some (e,T,M)->dJ E Y D n c (sA t) (mH b)=some (e,sA T,mH M):=by
 intro c
 induction c with
 |skip=>intro t T b M e h;simp only[aAA,jb,nR]at h;obtain⟨rfl,rfl,rfl⟩:=h;rfl
 |exit id=>intro t T b M e h;simp only[aBm,jb,nR]at h;obtain⟨rfl,rfl,rfl⟩:=h;rfl
 |ret=>intro t T b M e h;simp only[aAn,jb,nR]at h;obtain⟨rfl,rfl,rfl⟩:=h;rfl
 |bad=>intro t T b M e h;cases h
 |region d ops=>
  intro t T b M e h;simp only[arv]at h;simp only[dJ];split at h
  .rename_i A B y H;rw[arL af H]
   grind
  cases h
 |seq x F z m=>
  intro t T b M e h;simp only[auM]at h;simp only[dJ]
  grind
 |cond x p q v u=>
  intro t T b M e h;simp only[aGc]at h;simp only[dJ]
  grind
 |block id c j=>
  intro t T b M e h;simp only[aAI]at h;simp only[dJ]
  grind [zj,RX]
 |loop c j=>intro t T b M e h;simp only[aHn]at h;simp only[dJ];exact aCb (λ_ _ _ _ _ h=>j h) n h
noncomputable def JK (E:ni) (Y:lH) (D:rI) (n:Nat) (fn:aS) (T:dG) (blk:BL):Option (V×BL):=
 bif Nat.ble (I T) 4000 then
  match vZ E Y D n fn.body (K8 0 T .leaf) blk with
  |some (.normal,j,F)=>(sk E.al (sA j) (mH F) fn.results).map λh=>(D4 h,F)
  |some (.ret,j,F)=>(sk E.al (sA j) (mH F) fn.results).map λh=>(D4 h,F)
  |_=>none
 else none
theorem aAV{f:rI}(af:KL D f){fn:aS}{b M:BL}{v:V}(h:JK E Y f n fn T b=some (v,M)):s5 E Y D n fn T (mH b)=some (v,mH M):=by
 unfold JK at h;unfold s5;cases hl:Nat.ble (I T) 4000 with
 |false=>rw[hl]at h;cases h
 |true=>
  rw[hl]at h;simp at h;have:=jg hl;rw[<-aB9 J];split at h
  .rename_i j B H;rw[age af _ H]
   grind [gW]
  .rename_i j B H;rw[age af _ H];simp at h |-
   grind
  cases h
noncomputable def aw2 (S:Sys) (n:Nat) (Y:lH) (D:rI):lH:=λf T=>match S.prim f T with
  |some r=>r
  |none=>match S.fns f with
   |some fn=>bif Nat.ble (I T) fn.ntmps then
     match JK (S.ctx .all) Y D n fn T []with
     |some (v,b)=>iD (mH b) v
     |none=>none
    else none
   |none=>none
noncomputable def aut (S:Sys) (n:Nat) (Y:lH) (D:rI):rI:=λf T al b=>bif S.trig f T then(S.primS f T al (mH b)).map (λr=>(r.1,Ja r.2 b))else match S.fns f with
  |some fn=>bif Nat.ble (I T) fn.ntmps then JK (S.ctx al) Y D n fn T b else none
  |none=>none
noncomputable def ak8 (S:Sys) (n:Nat):lH×rI:=Nat.rec (motive:=λ_=>lH×rI) (λ_ _=>none,λ_ _ _ _=>none) (λn f=>(aw2 S n f.1 f.2,aut S n f.1 f.2)) n
noncomputable def HH (S:Sys) (n:Nat):lH:=(ak8 S n).1
noncomputable def Em (S:Sys) (n:Nat):rI:=(ak8 S n).2
theorem arw(S:Sys)(n f:Nat)(T:dG):HH S (n+1) f T=match S.prim f T with
  |some r=>r
  |none=>match S.fns f with
   |some fn=>bif Nat.ble (I T) fn.ntmps then
     match JK (S.ctx .all) (HH S n) (Em S n) n fn T []with
     |some (v,b)=>iD (mH b) v
     |none=>none
    else none
   |none=>none:=rfl
theorem aFm(S:Sys)(n f:Nat)(T:dG)(al:cD)(b:BL):Em S (n+1) f T al b=bif S.trig f T then(S.primS f T al (mH b)).map (λr=>(r.1,Ja r.2 b))else match S.fns f with
  |some fn=>bif Nat.ble (I T) fn.ntmps then JK (S.ctx al) (HH S n) (Em S n) n fn T b else none
  |none=>none:=rfl
theorem apK{f:lH}(hp:Ps Y f){j:rI}(af:KL D j){fn:aS}{b M:BL}{v:V}(h:JK E Y j n fn T b=some (v,M)):s5 E f D n fn T (mH b)=some (v,mH M):=adt hp (λ_ _ _ _ _ h=>h) (cP _) (aAV af h)
theorem XK(S:Sys):∀n,Ps (HH S n) (lk S n)/\KL (jT S n) (Em S n):=by
 intro n
 induction n with
 |zero=>have y:∀f x,HH S 0 f x=none:=λ_ _=>rfl;have m:∀f h al b,Em S 0 f h al b=none:=λ_ _ _ _=>rfl;exact⟨λf x r H=>(by rw[y]at H;cases H),λf h al b v M H=>(by rw[m]at H;cases H)⟩
 |succ n u=>
  obtain⟨hp,af⟩:=u;refine⟨λf x r H=>?_,λf h al b v M H=>?_⟩
  .rw[arw]at H;rw[lk];split at H
   .grind
   rename_i Y;simp only[Y];split at H
   .rename_i fn hfn;simp only[hfn];cases hl:Nat.ble (I x) fn.ntmps with
    |false=>rw[hl]at H;cases H
    |true=>
     rw[hl]at H;rw[aI (jg hl)];split at H
     .rename_i v b hr;unfold G6;have:CL=mH []:=rfl;rw[this,apK hp af hr];exact H
     cases H
   cases H
  rw[aFm]at H;rw[jT];cases j:S.trig f h with
  |true=>
   rw[j]at H;simp only[cond_true]at H;rw[aI rfl];cases hp:S.primS f h al (mH b)with
   |none=>rw[hp]at H;cases H
   |some r=>rw[hp]at H;cases H;rw[vB,Zq]
  |false=>
  rw[j]at H;split at H
  .rename_i fn hfn;simp only[hfn];cases hl:Nat.ble (I h) fn.ntmps with
   |false=>rw[hl]at H;cases H
   |true=>rw[hl]at H;rw[aI (jg hl)];exact apK hp af H
  cases H
theorem jY(S:Sys)(n:Nat){r:RV}(h:HH S n f T=some r):aC S f T r:=⟨n,(XK S n).1 _ _ _ h⟩
inductive vC {H:Type} (N:Nat):DataW H->Prop where
 |str (s:CT) (h:I s<=N):vC N (.lit (.string s))
 |lit (l:Lit) (h:∀s,l≠ .string s):vC N (.lit l)
 |nil:vC N .nil
 |slice (es sp:List (DataW H)) (h:I es<=N) (he:∀d∈es,vC N d):vC N (.slice es sp)
 |agg (es:List (DataW H)) (he:∀d∈es,vC N d):vC N (.agg es)
def me(P:Program)(N:Nat):Nat->TypeId->dR->Prop
 |0,_,_=>False
 |n+1,t,ps=>match P.underlying t with
  |some .bool=>∃b,ps=[.bool b]
  |some (.int k)=>∃z,ps=[.int k z]/\(Lit.int k z).wf
  |some .string=>∃s:ByteArray,ps=[.str s]/\s.size<=N
  |some (.slice e)=>∃y,ps=[.sl y]/\I y<=N/\ ∀x∈y,me P N n e x
  |some (.struct fs)=>∃h:dy,ps=h.flatten/\I h=I fs.toList/\ ∀(i:Nat) (f:Field) (x:dR),fs.toList[i]?=some f->h[i]?=some x->me P N n f.type x
  |_=>False
def Cz(P:Program):Nat->Nat->List Field->Bool
 |O,T,[]=>Nat.beq O T
 |O,T,f::r=>Nat.beq f.offset O&&Cz P (O+P.cellsOf f.type) T r
def mu(P:Program):Nat->TypeId->Bool
 |0,_=>false
 |n+1,t=>match P.underlying t with
  |some .bool|some (.int _)|some .string=>true
  |some (.slice e)=>Nat.blt 0 (P.cellsOf e)&&mu P n e
  |some (.struct fs)=>Cz P 0 (P.cellsOf t) fs.toList&&fs.toList.all λf=>mu P n f.type
  |_=>false
section
variable {H:Type} {enc:TypeId×Value->H} {P:Program} {w:World} {base:Nat} {sp:Nat->Bool} {held:Bool} {N:Nat}
theorem eJ.append{w:World}{own:Nat->Prop}{L ys:dR}(H:eJ w own L h)(k:eJ w own ys us):eJ w own (L++ys) (h++us):=Pw.append (R:=dd w own) H k
theorem alr{w:World}{base:Nat}{a:Addr}{D:List Value}(h:w.cells? base a n=some D):I D=n/\ ∀i,i<n->a.add i=⟨a.block,a.off+i,none⟩/\w.cell? ⟨a.block,a.off+i,none⟩=D[i]? :=by
 unfold World.cells? at h;split at h
 .have hl:=mapM_some_length h;simp at hl;refine⟨hl,λi f=>?_⟩;have H:=mapM_some_get h i i aig;have A:(a.add i).spot=none:=by
   cases R:(a.add i).spot with
   |none=>rfl
   |some s=>
    simp[World.cell?]at H
    grind
  have e:a.add i=⟨a.block,a.off+i,none⟩:=by
   unfold Addr.add at A |-;split
   .rename_i j;cases a
    simp_all
   rfl
  grind
 cases h
theorem aGO{r:TypeId->List Value->Option (DataW H×List MemPlace)}(ih:∀t D x,mu P n t->r t D=some x->vC N x.1->∃v,me P N n t v/\eJ w (λ_=>False) v D){D:List Value}{T:Nat}(ht:I D=T):
  ∀(fs:List Field) (O:Nat) (L:List (DataW H×List MemPlace)),Cz P O T fs->(∀f∈fs,mu P n f.type)->
   fs.mapM (λf=>r f.type ((D.drop f.offset).take (P.cellsOf f.type)))=some L->(∀x∈L,vC N x.1)->O<=T->(∀f∈fs,∀c x,r f.type c=some x->∀v,me P N n f.type v->eJ w (λ_=>False) v c->True)->
   ∃m:dy,I m=I fs/\(∀(i:Nat) (f:Field) (x:dR),fs[i]?=some f->m[i]?=some x->me P N n f.type x)/\(eJ w (λ_=>False) m.flatten (D.drop O)):=by
 intro fs
 induction fs with
 |nil=>
  intro O L z _ _ _ R _;simp only[Cz]at z;have:=zj z;refine⟨[],rfl,λi f x h=>by simp at h,?_⟩;have:D.drop O=[]:=by rw[List.drop_eq_nil_iff];omega
  rw[this];exact⟨rfl,λj x u h=>by simp at h⟩
 |cons f fs E=>
  intro O L z ho Q hf R hT;simp only[Cz,cF]at z;rw[List.mapM_cons]at Q;simp only[Option.bind_eq_bind,Rh,Option.pure_def,jb]at Q;obtain⟨x,hx,X,KF,rfl⟩:=Q;obtain⟨v,p1,Y⟩:=ih _ _ _ (ho f aG) hx (hf x aG);have Z:=Y.1;by_cases B:O+P.cellsOf f.type<=T
  .obtain⟨m,q1,q2,q3⟩:=E (O+P.cellsOf f.type) X z.2 (λg hg=>ho g (by simp[hg])) KF (λy A=>hf y aIl) B (λ_ _ _ _ _ _ _ _=>trivial);refine⟨v::m,by simp[q1],λi g y M A=>?_,?_⟩
   .cases i with
    |zero=>simp at M A;subst M A;exact p1
    |succ i=>exact q2 i g y (by simpa using M) (by simpa using A)
   have:D.drop O=(D.drop f.offset).take (P.cellsOf f.type)++D.drop (O+P.cellsOf f.type):=by grind [zj,Od,mW]
   rw[this];simp only[tR];exact eJ.append Y q3
  exfalso;have mono:∀(l:List Field) (o:Nat),Cz P o T l->o<=T:=by
   intro l
   induction l with
   |nil=>intro o h;simp only[Cz]at h;have:=zj h;omega
   |cons g l F=>intro o h;simp only[Cz,cF]at h;have:=F _ h.2;omega
  exact B (mono _ _ z.2)
theorem as3{f:Nat->Value}:∀(y:dy) (R:List (List Value)) (k:Nat),I R=I y->(∀(i:Nat) (e:dR) (v:List Value),y[i]?=some e->R[i]?=some v->eJ w (λ_=>False) e v/\I v=sz/\ ∀j u,v[j]?=some u->f ((k+i)*sz+j)=u)->
  ∀(j:Nat) (x:PV),y.flatten[j]?=some x->dd w (λ_=>False) x (f (k*sz+j)):=by
 intro y
 induction y with
 |nil=>intro R k _ _ j x h;simp at h
 |cons e y F=>
  intro R k hl h j x H;cases R with
  |nil=>simp at hl
  |cons v R=>
   obtain⟨A,D,L⟩:=h 0 e v rfl rfl;have eo:I e=sz:=by rw[<-D];exact A.1.symm
   simp at H;by_cases B:j<I e
   .rw[yY B]at H;have m:v[j]?=some v[j]:=by simp[show j<I v by omega]
    have:=L j _ m;simp at this;rw[this];exact A.2 j x _ H m
   rw[uJ J]at H;have:=F R (k+1) GT (λi e' n E z=>by have:=h (i+1) e' n aHZ (by simpa using z);rw[show k+(i+1)=k+1+i by omega]at this;exact this) (j-I e) x H
   grind
theorem aAf:∀(n F:Nat) (t:TypeId) (D:List Value) (x:DataW H×List MemPlace),mu P n t->DataW.trod enc P w base sp held F t D=some x->vC N x.1->
  ∃Y,me P N n t Y/\eJ w (λ_=>False) Y D:=by
 intro n
 induction n with
 |zero=>intro F t D x h;simp[mu]at h
 |succ n ih=>
  intro F t D x aB h hf;cases F with
  |zero=>simp[DataW.trod]at h
  |succ F=>
   rw[DataW.trod_step]at h;have one:∀ {p:PV}{v:Value},dd w (λ_=>False) p v->eJ w (λ_=>False) [p] [v]:=by
    intro p v hp;refine⟨rfl,λj x u a b=>?_⟩;cases j with
    |zero=>simp at a b;subst a b;exact hp
    |succ j=>simp at a
   unfold DataW.trodStep at h;unfold mu at aB;split at h
   case h_1 b A=>exact⟨[.bool b],by simp only[me,A];exact⟨b,rfl⟩,one (.bool b)⟩
   case h_2 k k' z A=>
    split at h
    .rename_i R;obtain⟨rfl,ab⟩:=R;exact⟨[.int k' z],by simp only[me,A];exact⟨z,rfl,ab⟩,one (.int k' z)⟩
    cases h
   case h_4 s A=>
    split at h
    .cases h;cases hf with
     |str _ af=>exact⟨[.str s],by simp only[me,A];exact⟨s,rfl,by simpa using af⟩,one (.str s)⟩
     |lit _ af=>exact(af _ rfl).elim
    cases h
   case h_7 e A=>exact⟨[.sl []],by simp only[me,A];exact⟨[],rfl,bj _,λx m=>by simp at m⟩,one (.By none 0 (λ_=>rfl) (bj _))⟩
   case h_8 e a len X A=>
    rw[A]at aB;simp only[cF]at aB;obtain⟨Z,ad⟩:=aB;have Z:0<P.cellsOf e:=by have:=Z;simp[Nat.blt]at this;omega
    simp only at h;split at h
    .rename_i R;obtain⟨hb,Cj,Cf⟩:=R;simp only[gW,Rh]at h;obtain⟨elems,he,av,az,rfl⟩:=h;have an:I elems=len:=by simpa using mapM_some_length he
     cases hf with
     |slice _ _ hl Qq=>
     simp only[ct]at hl;have get:∀i,i<len->∃ap row pv,elems[i]?=some ap/\w.cells? base (a.add (i*P.cellsOf e)) (P.cellsOf e)=some row/\me P N n e pv/\eJ w (λ_=>False) pv row:=by intro i B;have hg:=mapM_some_get he i i (by simp[B]);have aw:i<I elems:=J;rw[vA aw]at hg;simp only[Rh]at hg;obtain⟨row,E,O⟩:=hg;obtain⟨pv,p1,p2⟩:=ih _ _ _ _ ad O (Qq _ (c_.2 ⟨_,XA aw,rfl⟩));exact⟨_,row,pv,vA aw,E,p1,p2⟩
     cases xt:len with
     |zero=>refine⟨[.sl []],by simp only[me,A];exact⟨[],rfl,bj _,λx m=>by simp at m⟩,one (.By (some a) X (λh=>by cases h) Cf)⟩
     |succ aL=>
      rw[<-xt];obtain⟨_,ar,_,_,Iz,_⟩:=get 0 J;have ha:a=⟨a.block,a.off,none⟩:=by
       have E:a.add 0=a:=by unfold Addr.add;rw[aI rfl]
       rw[EF,E]at Iz;have:=((alr Iz).2 0 Z).1;rwa[E]at this
      have ZV:∀i,i<len->∃row pv,I row=P.cellsOf e/\(∀j,j<P.cellsOf e->w.cell? ⟨a.block,a.off+(i*P.cellsOf e+j),none⟩=row[j]?)/\me P N n e pv/\eJ w (λ_=>False) pv row:=by
       intro i B;obtain⟨_,row,pv,_,E,O,h3⟩:=get i B;obtain⟨l1,l2⟩:=alr E;refine⟨row,pv,l1,λj hj=>?_,O,h3⟩;have:=(l2 j hj).2;rw[<-this];have e2:a.add (i*P.cellsOf e)=⟨a.block,a.off+i*P.cellsOf e,none⟩:=by
        rw[ha];unfold Addr.add;split
        .rename_i h9;rw[h9];rfl
        rfl
       rw[e2];simp[FT]
      let row:Nat->List Value:=λi=>if h:i<len then(ZV i h).choose else []
      let pv:Nat->dR:=λi=>if h:i<len then(ZV i h).choose_spec.choose else []
      have T:∀i,i<len->I (row i)=P.cellsOf e/\(∀j,j<P.cellsOf e->w.cell? ⟨a.block,a.off+(i*P.cellsOf e+j),none⟩=(row i)[j]?)/\me P N n e (pv i)/\eJ w (λ_=>False) (pv i) (row i):=by intro i B;simp only[row,pv,dif_pos B];exact(ZV i B).choose_spec.choose_spec
      let y:=(List.range len).map pv
      have UA:I y=len:=by simp[y]
      have Gy:∀(i:Nat) (x:dR),y[i]?=some x->i<len/\x=pv i:=by
       intro i x m;have B:i<len:=by rw[<-UA];exact(bN.1 m).1
       refine⟨B,?_⟩;simp only[y,fX,wZ B,vB,jb]at m;exact m.symm
      let f:Nat->Value:=λj=>(w.cell? ⟨a.block,a.off+j,none⟩).getD undef
      refine⟨[.sl y],?_,one ?_⟩
      .simp only[me,A];refine⟨y,rfl,J,λx m=>?_⟩;obtain⟨i,B⟩:=gJ m;obtain⟨E,rfl⟩:=Gy i x B;exact(T i E).2.2.1
      rw[ha];have Q:∀x∈y,I x=P.cellsOf e:=by intro x m;obtain⟨i,B⟩:=gJ m;obtain⟨E,rfl⟩:=Gy i x B;have:=(T i E).2.2.2.1;rw[<-this];exact(T i E).1
      have fp:=as3 (f:=f) y ((List.range len).map row) 0 (by simp[UA]) (λi x v E O=>by obtain⟨B,rfl⟩:=Gy i x E;simp only[fX,wZ B,vB,jb]at O;subst O;obtain⟨s1,s2,xj,Bl⟩:=T i B;refine⟨Bl,s1,λj u A=>?_⟩;simp only[f,lh];rw[s2 j (by rw[<-s1];exact(bN.1 A).1),A];rfl)
      simp only[EF,lh]at fp;have qT:∀(l:dy),(∀x∈l,I x=P.cellsOf e)->I l.flatten=I l*P.cellsOf e:=by
       intro l
       induction l with
       |nil=>intro _;simp
       |cons x l am=>intro m;simp only[tR,iM,fF];rw[m x aG,am (λap hy=>m ap (by simp[hy])),lR];omega
      refine UA▸dd.sl a.block a.off X (P.cellsOf e) f (λ_ h=>h) J Cf Q (λj x m=>?_) fp;have hj:j<len*P.cellsOf e:=by have:=(bN.1 m).1;rwa[qT y Q,UA]at this
      obtain⟨s1,s2,xj,Bl⟩:=T _ (Nat.div_lt_of_lt_mul (by rw[Wv];exact hj));have hm:j%P.cellsOf e<P.cellsOf e:=dB _ Z;have:=s2 _ hm;rw[show j/P.cellsOf e*P.cellsOf e+j%P.cellsOf e=j by rw[Wv];exact ae7 j _]at this;have ZY:(row (j/P.cellsOf e))[j%P.cellsOf e]?=some (row (j/P.cellsOf e))[j%P.cellsOf e]:=by simp[s1,hm]
      rw[ZY]at this;simp only[f,this,mw]
    cases h
   case h_9=>
    rename_i fs A;rw[A]at aB;simp only[cF]at aB;split at h
    .rename_i R;simp only[gW]at h;obtain⟨L,m,rfl⟩:=h;cases hf with
     |agg _ Qq=>
     obtain⟨M,p1,p2,p3⟩:=aGO (λt D x E O h3=>ih _ _ _ _ E O h3) R fs.toList 0 L aB.1 (λf hf=>mz.1 aB.2 f hf) m (λap hy=>Qq _ (c_.2 ⟨ap,hy,rfl⟩)) (bj _) (λ_ _ _ _ _ _ _ _=>trivial);refine⟨M.flatten,by simp only[me,A];exact⟨M,rfl,p1,p2⟩,?_⟩
     simpa using p3
    cases h
   all_goals exact aIM
end
end
variable {H:Type} {enc:TypeId×Value->H} {P:Program} {w:World} {N:Nat}
theorem arH:∀(fs:List Field) (O T:Nat),Cz P O T fs->T=O+(fs.map λf=>P.cellsOf f.type).sum/\ ∀(j:Nat) (f:Field),fs[j]?=some f->f.offset=O+((fs.take j).map λf=>P.cellsOf f.type).sum:=by
 intro fs
 induction fs with
 |nil=>intro O T h;simp only[Cz]at h;have:=zj h;exact⟨by simp;omega,λj f h=>by simp at h⟩
 |cons f fs m=>
  intro O T h;simp only[Cz,cF]at h;have n:=zj h.1;obtain _:=m _ _ h.2;refine⟨by simp;omega,λj g H=>?_⟩;cases j with
  |zero=>simp at H;subst H;simp;omega
  |succ j=>grind
theorem arP:Kids P (λt=>∃n,mu P n t):=by
 have un:∀ {t:TypeId},(∃n,mu P n t)->∃n,mu P (n+1) t:=by
  rintro t ⟨n,h⟩
  cases n with
  |zero=>simp[mu]at h
  |succ n=>exact⟨n,h⟩
 refine⟨λf H=>?_,λf H=>?_,λf H=>?_,λf H=>?_,λf H=>?_⟩
 .obtain⟨n,h⟩:=un f;simp[mu,H]at h
 .obtain⟨n,h⟩:=un f;simp[mu,H,cF]at h;exact⟨n,h.2⟩
 .obtain⟨n,h⟩:=un f;simp[mu,H]at h
 .obtain⟨n,h⟩:=un f;simp only[mu,H,cF]at h;obtain _:=arH _ _ _ h.1
  grind
 obtain⟨n,h⟩:=un f;simp[mu,H]at h
theorem aHy{t:TypeId}{d:DataW H}{ps:List MemPlace}(j:∃n,mu P n t)(h:DataW.Trod enc P w 0 (λ_=>true) true t v d ps)
  (m:∀p∈ps,w.sameAt w' p) (af:∀p∈ps,Ll p.block):DataW.Trod enc P w' 0 Ll true t v d ps:=by
 obtain⟨f,h⟩:=h;refine⟨f,DataW.trod_stays arP ?_ (λh=>by cases h) j h m af⟩;rintro t e ⟨n,h⟩ u
 cases n with
 |zero=>simp[mu]at h
 |succ n=>
  simp[mu,u,cF]at h
  simp_all
theorem aHd:∀ {ts:List TypeId}{h:List Value}{D:List (DataW H)}{ps:List MemPlace},(∀t∈ts,∃n,mu P n t)->DataW.TrodAll enc P w 0 (λ_=>true) true ts h D ps->
  (∀p∈ps,w.sameAt w' p)->(∀p∈ps,Ll p.block)->DataW.TrodAll enc P w' 0 Ll true ts h D ps:=by
 intro ts
 induction ts with
 |nil=>intro h D ps _ y _ _;cases h<;>cases D<;>exact y
 |cons t ts B=>
  intro h D ps u y j m;cases h with
  |nil=>exact y.elim
  |cons v h=>
   cases D with
   |nil=>exact y.elim
   |cons d D=>obtain⟨p,q,E,z,rfl⟩:=y;exact⟨p,q,aHy (u t aG) E (λx f=>j x aig) (λx f=>m x aig),B (λt A=>u t aIl) z (λx f=>j x aig) (λx f=>m x aig),rfl⟩
def I0(P:Program)(t:TypeId)(ps:dR):V:=
 match P.underlying t with
 |some (.struct _)=>.agg (ps.map .p)
 |_=>match ps with
  |[x]=>.one (.p x)
  |_=>.undef
theorem aF7{r:Reach}{b0:Nat}{t:TypeId}{d:DataW H}{ps:List MemPlace}(B:mu P n t)(f:Value.okWide P w r b0 t v)(h:DataW.Trod enc P w 0 sp held t v d ps)(hf:vC N d):
  ∃m,me P N n t m/\vG w (λ_=>False) (I0 P t m) v:=by
 obtain⟨F,h⟩:=h;obtain⟨m,u,A⟩:=aAf n F t _ _ B h hf;refine⟨m,u,?_⟩;cases n with
 |zero=>simp[mu]at B
 |succ n=>
  have one:∀x:PV,m=[x]->(∀D,v≠ .agg D)->dd w (λ_=>False) x v:=by
   rintro x rfl L
   have:v.cells.toList=[v]:=by
    cases v<;>first
     |rfl
     |exact(L _ rfl).elim
   rw[this]at A;exact A.2 0 x v rfl rfl
  have j:∀ {k:TypeDesc},P.underlying t=some k->(∀fs,k≠ .struct fs)->(∀a b,k≠ .array a b)->∀D,v≠ .agg D:=by
   rintro k z M O D rfl
   unfold Value.okWide at f;rw[z]at f;cases k<;>simp_all[Cell.okWide,Cell.ok]
  simp only[me]at u;unfold I0;cases z:P.underlying t with
  |none=>rw[z]at u;exact u.elim
  |some k=>
   rw[z]at u;cases k<;>simp only at u<;>try exact u.elim
   case bool=>obtain⟨b,rfl⟩:=u;exact one _ rfl (j z aG aG)
   case int k=>obtain⟨b,rfl,_⟩:=u;exact one _ rfl (j z aG aG)
   case string=>obtain⟨b,rfl,_⟩:=u;exact one _ rfl (j z aG aG)
   case slice e=>obtain⟨y,rfl,_⟩:=u;exact one _ rfl (j z aG aG)
   case struct fs=>unfold Value.okWide at f;rw[z]at f;obtain⟨D,rfl,E,_⟩:=f;exact⟨D,m,rfl,rfl,A⟩
def WY(P:Program)(N n:Nat):List TypeId->dy->Prop
 |[],[]=>True
 |t::ts,p::ps=>me P N n t p/\WY P N n ts ps
 |_,_=>False
def FK(P:Program):List TypeId->dy->dG
 |t::ts,p::ps=>I0 P t p::FK P ts ps
 |_,_=>[]
theorem as1{r:Reach}{b0:Nat}:∀ {ts:List TypeId}{h:List Value}{D:List (DataW H)}{ps:List MemPlace},(∀t∈ts,mu P n t)->(∀(j:Nat) t v,ts[j]?=some t->h[j]?=some v->Value.okWide P w r b0 t v)->
  DataW.TrodAll enc P w 0 sp held ts h D ps->(∀d∈D,vC N d)->∃f,WY P N n ts f/\Pw (vG w (λ_=>False)) (FK P ts f) h:=by
 intro ts
 induction ts with
 |nil=>
  intro h D ps _ _ z _;cases h with
  |nil=>exact⟨[],trivial,rfl,λj x u z=>by simp[FK]at z⟩
  |cons v h=>cases D<;>exact z.elim
 |cons t ts Z=>
  intro h D ps A B z hf;cases h with
  |nil=>exact z.elim
  |cons v h=>
   cases D with
   |nil=>exact z.elim
   |cons d D=>
    obtain⟨p,q,T,O,rfl⟩:=z;obtain⟨x,X,Y⟩:=aF7 (A t aG) (B 0 t v rfl rfl) T (hf d aG);obtain⟨L,M,b2,R⟩:=Z (λt Q=>A t (by simp[Q])) (λj t v E m=>B (j+1) t v ii ii) O (λd F=>hf d (by simp[F]));refine⟨x::L,⟨X,M⟩,by simpa [FK]using b2,λj y u E m=>?_⟩;cases j with
    |zero=>simp[FK]at E m;subst E m;exact Y
    |succ j=>exact R j y u (by simpa [FK]using E) ii
open Go.RowKit
theorem jQ.axa{w:World}(h:Below w.heap.size w w'):jQ w w':=⟨h.os,h.tape,h.output,h.size,h.block⟩
theorem jQ.akB(w:World)(k:Nat)(os:Array Obj):jQ w (Go.Sort.grow (w.drewN k) os):=
 ⟨rfl,rfl,rfl,by simp[Go.Sort.grow,World.drewN],λc h=>by simp[Go.Sort.grow,World.drewN,Array.getElem?_append,h]⟩
theorem Lu{w:World}{x:PV}(f:jQ w w')(h:dd w' O x v):Au w O (.one (.p x)) (.returned v) w':=
 ⟨v,[],rfl,f,pW,λc j=>by simp at j,[v],rfl,v,[],rfl,h.mono λc _ m=>⟨rfl,λH=>m (H.elim id λh=>by simp at h)⟩,rfl,rfl⟩
theorem aaK{w:World}{x:PV}(h:Pw (vG w O) [.one (.p x)] T.toList):∃v,T= #[v]/\dd w O x v:=by
 obtain⟨f,H⟩:=h;obtain⟨l⟩:=T
 match l,f with
 |[v],_=>exact⟨v,rfl,H 0 _ v rfl rfl⟩
theorem aDQ{w:World}{x y:PV}(h:Pw (vG w O) [.one (.p x),.one (.p y)] T.toList):∃v u,T= #[v,u]/\dd w O x v/\dd w O y u:=by
 obtain⟨f,H⟩:=h;obtain⟨l⟩:=T
 match l,f with
 |[v,u],_=>exact⟨v,u,rfl,H 0 _ v rfl rfl,H 1 _ u rfl rfl⟩
theorem ajW{w:World}(h:dd w O (.sl []) v):∃a f,v=.slice a 0 f/\(a=none->f=0)/\f<=maxLen:=by
 generalize H:PV.sl []=x at h;cases h<;>cases H
 .exact⟨_,_,rfl,by assumption,by assumption⟩
 exact⟨_,_,rfl,λh=>by simp at h,by assumption⟩
theorem ak2{w:World}{a:Option Addr}{f:Nat}(h:a=none->f=0)(H:f<=maxLen):dd w O (.sl []) (.slice a 0 f):=.By a f h H
def KR:Nat->Nat->CT->CT
 |0,_,A=>A
 |k+1,u,A=>bif Nat.blt u 10 then UInt8.ofNat (Nat.add 48 u)::A else KR k (Nat.div u 10) (UInt8.ofNat (Nat.add 48 (Nat.mod u 10))::A)
theorem aiR:∀(k u:Nat) (A:CT),u<10 ^ (k+1)->KR (k+1) u A=Lib.decDigits u++A:=by
 intro k
 induction k with
 |zero=>
  intro u A h;have h:u<10:=Do
  unfold Lib.decDigits;have H:Nat.blt u 10:=aaG h;simp only[KR,H,cond_true,dif_pos h];rfl
 |succ k j=>
  intro u A h;rw[Lib.decDigits,KR];by_cases f:u<10
  .have H:Nat.blt u 10:=aaG f;simp only[H,cond_true,dif_pos f];rfl
  have H:Nat.blt u 10=false:=by
   cases e:Nat.blt u 10 with
   |false=>rfl
   |true=>exact(f (jg e)).elim
  simp only[H,cond_false,dif_neg f];have:(Nat.div u 10)<10 ^ (k+1):=by have e:Nat.div u 10=u/10:=rfl;rw[e];have:10 ^ (k+1+1)=10 ^ (k+1)*10:=Nat.pow_succ ..;omega
  rw[j _ _ this];simp only[k9,List.singleton_append];rfl
def abK(n:Int):ByteArray:=⟨(match n with| .ofNat u=>KR 20 u []| .negSucc u=>45::KR 20 (Nat.succ u) []).toArray⟩
theorem arb(n:Int)(H: -9223372036854775808<=n)(h:n<=9223372036854775807):abK n=⟨(Lib.itoa n).toArray⟩:=by
 unfold abK Lib.itoa;cases n with
 |ofNat u=>have:¬(Int.ofNat u<0):=aG;rw[aE this];simp only;rw[aiR 19 u [] (by simp at h;omega)];simp
 |negSucc u=>have:Int.negSucc u<0:=Int.negSucc_lt_zero u;rw[aI this];simp only;rw[aiR 19 (Nat.succ u) [] J];simp[Int.natAbs]
def strs:dy->Option (List ByteArray)
 |[]=>some []
 |[.str s]::r=>(strs r).map (s:: ·)
 |_::_=>none
theorem azg:∀ {y:dy}{L:List ByteArray},strs y=some L->y=L.map λs=>[PV.str s]:=by
 intro y
 induction y with
 |nil=>intro L h;simp[strs]at h;subst h;rfl
 |cons e y f=>
  intro L h;unfold strs at h;split at h
  .rename_i H;cases H
  .rename_i s r H;cases H;simp only[gW]at h;obtain⟨ys,j,rfl⟩:=h;simp[f j]
  cases h
def LD(f:CT):List ByteArray->CT
 |[]=>[]
 |[s]=>s.data.toList
 |s::r=>s.data.toList++(f++LD f r)
theorem anf(f:CT):∀L:List ByteArray,LD f L=Lib.join (L.map (·.data.toList)) f:=by
 intro L;unfold Lib.join
 induction L with
 |nil=>rfl
 |cons s r h=>
  cases r with
  |nil=>simp[LD,List.intercalate]
  |cons j r=>simp only[LD,fq]at h |-;rw[h];simp[List.intercalate,List.intersperse]
def acO(T:dG):Option RV:=
 match T with
 |[.one (.p (.int .i64 n))]=>if -9223372036854775808<=n/\n<=9223372036854775807 then some (.one (.p (.str (abK n))))else none
 |_=>none
theorem ayn{P:Program}{N:String}{G:World->Prop}{T:dG}{r:RV}(hG:∀w,G w->Lib.TabIs P w N .u64 Lib.pow10Tab)
  (hf:∀(n:Int),-9223372036854775808<=n->n<=9223372036854775807->∀w:World,Lib.TabIs P w N .u64 Lib.pow10Tab->Calls P f #[.int .i64 n] w λe w'=>e=.returned (.string ⟨(Lib.itoa n).toArray⟩)/\ ∃k os,w'=Go.Sort.grow (w.drewN k) os)
  (h:acO T=some r):∀(w:World) (O:Nat->Prop) (as:Array Value),Good G w->Pw (vG w O) T as.toList->Calls P f as w (Au w O r):=by
 intro w O as H m;unfold acO at h;split at h
 .rename_i n;split at h
  .rename_i hr;cases h;obtain⟨v,rfl,hp⟩:=aaK m;generalize j:PV.int .i64 n=x at hp;cases hp<;>cases j
   refine(hf n hr.1 hr.2 w (hG w H.1)).mono ?_;rintro e w' ⟨rfl,k,os,rfl⟩
   rw[arb n hr.1 hr.2];exact Lu (jQ.akB _ _ _) (.str _)
  cases h
 cases h
def adN(T:dG):Option RV:=
 match T with
 |[.one (.p (.sl y)),.one (.p (.str f))]=>match strs y with
  |some L=>if I L<=140737488355328/\I (LD f.data.toList L)<=140737488355328 then some (.one (.p (.str ⟨(LD f.data.toList L).toArray⟩)))else none
  |none=>none
 |_=>none
theorem ayo{P:Program}{T:dG}{r:RV}
  (R:∀(a:Option Addr) (c:Nat) (m:ByteArray) (w:World),Calls P f #[.slice a 0 c,.string m] w λe w'=>e=.returned (.string ⟨#[]⟩)/\w'=w)
  (hf:∀(M o c:Nat) (L:List ByteArray) (m:ByteArray) (w:World),(∀(j:Nat) x,L[j]?=some x->w.cell? ⟨M,o+j,none⟩=some (.string x))->M<w.heap.size->I L<=140737488355328->I L<=c->
   I (Lib.join (L.map (·.data.toList)) m.data.toList)<=140737488355328->Calls P f #[.slice (some ⟨M,o,none⟩) (I L) c,.string m] w λe w'=>e=.returned (.string ⟨(Lib.join (L.map (·.data.toList)) m.data.toList).toArray⟩)/\Below w.heap.size w w')
  (h:adN T=some r):∀(w:World) (O:Nat->Prop) (as:Array Value),Pw (vG w O) T as.toList->Calls P f as w (Au w O r):=by
 intro w O as ha;unfold adN at h;split at h
 .rename_i y m;split at h
  .rename_i L X;split at h
   .rename_i hl;cases h;obtain⟨v,u,rfl,hp,N⟩:=aDQ ha;have hu:u=.string m:=by
     generalize A:PV.str m=x at N;cases N<;>cases A
     rfl
    subst hu;have F:=azg X;cases L with
    |nil=>
     simp at F;subst F;obtain⟨a,n,rfl,_,_⟩:=ajW hp;refine(R a n m w).mono ?_;rintro e w' ⟨rfl,rfl⟩
     exact Lu (jQ.refl _) (.str _)
    |cons s r=>
     generalize A:PV.sl y=x at hp;cases hp with
     |By a n E D=>cases A;simp at F
     | @sl iU b o n sz g ho B hm Z hc hr=>
      cases A;have Y:y.flatten=(s::r).map PV.str:=by
       rw[F];have:∀l:List ByteArray,(l.map λs=>[PV.str s]).flatten=l.map PV.str:=by
        intro l
        induction l with
        |nil=>rfl
        |cons a l ih=>simp[ih]
       exact this _
      have z:I y=I (s::r):=by rw[F];simp
      have H:∀(j:Nat) x,(s::r)[j]?=some x->w.cell? ⟨b,o+j,none⟩=some (.string x):=by
       intro j x hj;have E:y.flatten[j]?=some (.str x):=by rw[Y,fX,hj];rfl
       have D:=hr j _ E;rw[hc j _ E];generalize hy:PV.str x=ad at D;generalize ab:g j=gj at D;cases D<;>cases hy
       rfl
      rw[z]at B |-;refine(hf b o n (s::r) m w H (abh (H 0 s rfl)) hl.1 B (by rw[<-anf];exact hl.2)).mono ?_;rintro e w' ⟨rfl,Q⟩
      rw[anf];exact Lu (jQ.axa Q) (.str _)
     |_=>cases A
   cases h
  cases h
 cases h
def UP(T:dG):Option RV:=
 match T with
 |[.one (.p (.int .u64 n))]=>if 0<=n/\n<=18446744073709551615 then some (.one (.p (.int .i64 (Lib.bitLen n.toNat))))else none
 |_=>none
theorem ayl{P:Program}{T:dG}{r:RV}(hf:∀(x:Int) (w:World),0<=x->x<=18446744073709551615->Calls P f #[.int .u64 x] w λe w'=>e=.returned (.int .i64 (Lib.bitLen x.toNat))/\w'=w)
  (h:UP T=some r):∀(w:World) (O:Nat->Prop) (as:Array Value),Pw (vG w O) T as.toList->Calls P f as w (Au w O r):=by
 intro w O as j;unfold UP at h;split at h
 .rename_i n;split at h
  .rename_i hr;cases h;obtain⟨v,rfl,hp⟩:=aaK j;generalize H:PV.int .u64 n=x at hp;cases hp<;>cases H
   refine(hf n w hr.1 hr.2).mono ?_;rintro e w' ⟨rfl,rfl⟩
   exact Lu (jQ.refl _) (.int _ _)
  cases h
 cases h
def VO(T:dG):Option (Option RV):=
 match T with
 |[.one (.p (.sl []))]=>some (some (.one (.p (.sl []))))
 |_=>none
theorem aym{S:Sys}{G:World->Prop}(hS:LQ S G){z i g Z:Nat}{fn:aS}(hfn:S.fns f=some fn)(h1:lk S n f [.one (.p .nils)]=some (.one (.p .nils)))
  (L:jT S n f [.one (.hsl 0 0 z 0 0)] .all CL=some (.one (.hsl i g Z 0 0),F)) {T:dG}{r:RV} (H:VO T=some (some r)):
  ∀(w:World) (O:Nat->Prop) (as:Array Value),Good G w->(∀c,O c->c<w.heap.size)->Pw (vG w O) T as.toList->Calls S.P f as w (Au w O r):=by
 intro w O as B A ha;unfold VO at H;split at H
 .cases H;obtain⟨v,rfl,hp⟩:=aaK ha;obtain⟨a,m,rfl,hn,hm⟩:=ajW hp;cases a with
  |none=>
   obtain rfl:=hn rfl;refine((sound hS n).1 f _ _ h1 |>.2 w O #[.slice none 0 0] B A ⟨rfl,λj x u p q=>?_⟩).mono ?_
   .cases j with
    |zero=>simp at p q;subst p q;exact dd.nils
    |succ j=>simp at p
   rintro e w' ⟨val,bs,rfl,N,eV,u7,h,D,Q⟩
   obtain⟨v0,qJ,Y,R,e3,e4⟩:=Q;have y:h=[val]:=D;subst y;cases Y;subst e4;cases R;exact Lu N (ak2 (λ_=>rfl) (bj _))
  |some a=>
   let M:a7:=⟨w,CL,λ_=>0,λ_=>0,O⟩
   have aB:dW w M:=⟨rfl,rfl,rfl,cP _,λ_ _=>rfl,(λid o H=>by cases H),(λid o H=>by cases H),A,(λid gT o o' H=>by cases H)⟩;refine(((sound hS n).2.1 f _ _ _ _ _ L).2 w M #[.slice (some a) 0 m] B aB rfl ⟨rfl,λj x u p q=>?_⟩).mono ?_
   .cases j with
    |zero=>simp at p q;subst p q;exact gh.hsl a m (bj _) (bj _) hm (λsz _ H=>by cases H)
    |succ j=>simp at p
   rintro e w' ⟨val,m',rfl,rfl,D,Q,q3,q4,X⟩
   have hq:gh m' (.hsl i g Z 0 0) val:=X;cases hq with
   |hsl a2 E _ _ rR _=>
    refine Lu ⟨Q.os,Q.tape,Q.output,Q.size,λc hc=>Q.keep c hc ?_⟩ (ak2 (λH=>by cases H) rR);rintro⟨id,o,H,_⟩
    cases H
 cases H
open Go.RowKit Go.WideShapes Go.ChangeShapes
section
variable {H:Type} {enc:TypeId×Value->H} {P:Program} {w:World} {base:Nat} {sp:Nat->Bool} {held:Bool}
theorem auN:∀(n F:Nat) (t:TypeId) (D:List Value) (x:DataW H×List MemPlace),mu P n t->DataW.trod enc P w base sp held F t D=some x->vC maxLen x.1:=by
 intro n
 induction n with
 |zero=>intro F t D x h;simp[mu]at h
 |succ n B=>
  intro F t D x aB h;cases F with
  |zero=>simp[DataW.trod]at h
  |succ F=>
   rw[DataW.trod_step]at h;unfold DataW.trodStep at h;unfold mu at aB;split at h
   case h_1=>cases h;exact .lit _ (λs h=>by cases h)
   case h_2=>
    split at h
    .cases h;exact .lit _ (λs h=>by cases h)
    cases h
   case h_4=>
    split at h
    .rename_i af;cases h;exact .str _ (by simpa using af)
    cases h
   case h_7=>cases h;exact .nil
   case h_8 e a len N v=>
    rw[v]at aB;simp at aB;split at h
    .rename_i Q;simp only[gW,Rh]at h;obtain⟨elems,A,R,M,rfl⟩:=h;have z:I elems=len:=by simpa using mapM_some_length A
     refine .slice _ _ fd (λd m=>?_);obtain⟨y,u,rfl⟩:=c_.1 m;obtain⟨i,_,j⟩:=mapM_mem_of A y u;simp only[Rh]at j;obtain⟨row,_,E⟩:=j;exact B _ _ _ _ aB.2 E
    cases h
   case h_9=>
    rename_i fs v;rw[v]at aB;simp only[cF]at aB;split at h
    .simp at h;obtain⟨L,O,rfl⟩:=h;refine .agg _ (λd m=>?_);obtain⟨y,u,rfl⟩:=c_.1 m;obtain⟨f,hf,j⟩:=mapM_mem_of O y u;exact B _ _ _ _ (mz.1 aB.2 f hf) j
    cases h
   all_goals exact aIM
theorem ajk:∀ {ts:List TypeId}{h:List Value}{D:List (DataW H)}{ps:List MemPlace},(∀t∈ts,mu P n t)->DataW.TrodAll enc P w base sp held ts h D ps->(∀d∈D,vC maxLen d)/\I D=I ts:=by
 intro ts
 induction ts with
 |nil=>
  intro h D ps _ u;cases h<;>cases D<;>first
   |exact u.elim
   |exact⟨λd y=>by simp at y,rfl⟩
 |cons t ts B=>
  intro h D ps m u;cases h with
  |nil=>exact u.elim
  |cons v h=>
   cases D with
   |nil=>exact u.elim
   |cons d D=>
    obtain⟨p,q,⟨f,E⟩,z,rfl⟩:=u;obtain⟨i1,i2⟩:=B (λt A=>m t aIl) z;refine⟨λx j=>?_,by simp[i2]⟩;rcases dh.1 j with rfl|j
    .exact auN n f t _ _ (m t aG) E
    exact i1 x j
end
section
variable {H:Type} {enc:TypeId×Value->H} {P:Program}
theorem aGN{f:Func}{s:ChangeSpec}{lg fresh:Bool}{W m:World}{D n:List (DataW H)}{u pv:List MemPlace}
  (x:DataW.Whole enc P f.params.toList s.vars lg W T.toList D n before)
  (F:∀(b:Nat) (sp:Nat->Bool) (E:Bool),DataW.TrodAll enc P m b sp E f.resultTypes.toList (v.resultList f.resultTypes.size) (s.fn H (D++n)).results [])
  (z:∀sp:Nat->Bool,(∀p∈before,sp p.block)->DataW.TrodAll enc P m 0 sp true f.params.toList T.toList (s.fn H (D++n)).args u)
  (Q:∀sp:Nat->Bool,(∀p∈before,sp p.block)->DataW.TrodVars enc P m sp s.vars (s.fn H (D++n)).vars pv)
  (L:before=u++pv) (y:Below W.heap.size W m)
  (aB:∀(j:Nat) (t:TypeId) (r:Value),f.resultTypes[j]?=some t->(v.resultList f.resultTypes.size)[j]?=some r->Value.okWide P m .any 0 t r):
  s.post enc P f lg fresh handsOn again W T v m:=by
 have A:=λp hp=>x.lt p hp;have h:∀p∈before,(λb=>decide _) p.block=true:=λp hp=>by simpa using A p hp
 refine⟨D,n,before,[],u,pv,x,F _ _ _,z _ h,Q _ h,World.keptBut_mono (λp hp=>⟨hp,?_⟩) (y.frame (· ∈before)),λ_=>?_⟩
 .grind
 obtain⟨_,_,_,_,_,M,N⟩:=x;refine⟨aB,_,_,([]++u)++pv,⟨[]++u,pv,trodAll_append (z _ (λ_ _=>rfl)) (F _ _ _),Q _ (λ_ _=>rfl),rfl,?_,?_⟩,?_⟩
 .intro b O hp;have B:MemPlace.cell b O∈before:=by rw[L];simpa using hp
  rw[y.frozen (A _ B)];exact M b O B
 .grind
 grind
end
theorem BR{P:Program}{N:Nat}{t:TypeId}{k:IntKind}{p:dR}(H:P.underlying t=some (.int k))(h:me P N (n+1) t p):∃z,p=[.int k z]/\(Lit.int k z).wf:=arm
theorem aca{P:Program}{N:Nat}{t:TypeId}{p:dR}(H:P.underlying t=some .bool)(h:me P N (n+1) t p):∃b,p=[.bool b]:=arm
theorem aEP{P:Program}{N:Nat}{t e:TypeId}{p:dR}(H:P.underlying t=some (.slice e))(h:me P N (n+1) t p):∃y,p=[.sl y]/\I y<=N/\ ∀x∈y,me P N n e x:=arm
theorem akJ{P:Program}{t:TypeId}{fs:Array Field}{x:dR}(h:P.underlying t=some (.struct fs)):I0 P t x=.agg (x.map .p):=by unfold I0;rw[h]
theorem aFr{S:Sys}{G:World->Prop}(hS:LQ S G)(Qt:∀w,G w->Good G w){fn:Func}{s:ChangeSpec}{N:Nat}{fresh lg:Bool}(Y:s.vars=[])
  (hfn:∀(H:Type) (D:List (DataW H)),I D=I fn.params.toList->s.fn H D={results:=[.lit (.bool true)],args:=D}) {tb:TypeId} (X:fn.resultTypes= #[tb]) (z:S.P.underlying tb=some .bool)
  (L:∀t∈fn.params.toList,mu S.P n t) (M:∀m,WY S.P N n fn.params.toList m->aC S f (FK S.P fn.params.toList m) (.one (.p (.bool true))))
  {H:Type}{enc:TypeId×Value->H}{W:World}{base:Nat}{D gs:List (DataW H)}
  (B:∀(j:Nat) t v,fn.params[j]?=some t->T[j]?=some v->Value.okWide S.P W .any base t v)
  (Z:DataW.Whole enc S.P fn.params.toList s.vars lg W T.toList D gs before) (hG:G W) (E:∀d∈D,vC N d):
  Calls S.P f T W λe Q=>∃v,e=.returned v/\s.post enc S.P fn lg fresh handsOn again W T v Q:=by
 have F:=Z;obtain⟨p,q,O,hV,rfl,ab,eV⟩:=Z;rw[Y]at hV;obtain⟨rfl,rfl⟩:=trodVars_none hV;obtain⟨_,u⟩:=ajk L O;obtain⟨m,h1,h2⟩:=as1 L (λj t v a b=>B j t v (by simpa using a) aHY) O E;refine((M m h1).calls hS W (Qt W hG) T h2).mono ?_;rintro e Q ⟨val,bs,rfl,A,_,_,h,q1,q2⟩
 obtain⟨v0,qJ,e1,e2,e3,e4⟩:=q2;subst q1;cases e1;have hv:val=.bool true:=by
  generalize y:PV.bool true=x at e2;cases e2<;>cases y
  rfl
 subst hv;have R:Below W.heap.size W Q:=⟨A.os,A.tape,A.output,A.size,A.keep⟩;refine⟨_,rfl,aGN F ?_ ?_ ?_ rfl R ?_⟩
 .intro b sp hd;rw[j_,hfn H D u,X];exact trodAll_cons_mk (shut_bool z _) trodAll_mk0
 .intro Ll rT;rw[j_,hfn H D u];exact aHd (λt ht=>⟨n,L t ht⟩) O (λx y=>R.same ((λx y=>F.lt x y) x ii)) (λx y=>rT x (by simpa using y))
 .intro Ll rT;rw[j_,hfn H D u,Y];rfl
 exact ok_one X rfl (okWide_bool_mk z _)
theorem aFy(j:bP)(t:Nat)(v:V):dL j (some t) v=dz j t v:=rfl
theorem azW(j:bP)(v:V):dL j none v=j:=rfl
theorem ay4(j:bP)(n:Nat):ev j (.t n)=j n:=rfl
theorem as4(j:bP)(n:Int):ev j (.i n)=.one (.p (.int .i64 n)):=rfl
theorem ay3(j:bP)(x:Bool):ev j (.b x)=.one (.p (.bool x)):=rfl
theorem ayZ(j:bP)(v:V):ev j (.k v)=v:=rfl
theorem aCp(a:V)(l:dG):tW (a::l) 0=a:=rfl
theorem aq9(a:V)(l:dG)(n:Nat):tW (a::l) (n+1)=tW l n:=rfl
def GQ(v:V)(f:Bool):Option Bool:=match v with
 | .one (.p (.bool b))=>some (b==f)
 | .undef=>some false
 |_=>none
theorem aA4(b f:Bool):GQ (.one (.p (.bool b))) f=some (b==f):=rfl
theorem azs(f:Bool):GQ .undef f=some false:=rfl
section
variable {S:Sys} {al:cD} {o:lI} {j:bP} {blk:aH} {tr:gl} {bJ:bP->aH->gl->Prop} {d:eF}
theorem azl{id:Nat}{Q:ib}:oh id Q .normal j blk=Q .normal j blk:=rfl
theorem avo{id:Nat}{Q:ib}:oh id Q .ret j blk=Q .ret j blk:=rfl
theorem arG{id i:Nat}{Q:ib}:oh id Q (.exit i) j blk=if i=id then Q .normal j blk else Q (.exit i) j blk:=rfl
end
def FI (S:Sys)(al:cD)(ops:fx)(Q:bP->aH->Prop)(j:bP)(blk:aH):Prop:=∀tr,rO S al ops (λj blk _=>Q j blk) j blk tr
def L5(S:Sys)(al:cD)(p:D7)(d:eF)(j:bP)(blk:aH)(bJ:bP->aH->Prop):Prop:=
 match p with
 | .fail=>False
 | .done v u r=>al.iG (r++u.map (·.1))=true/\bJ (dL j d v) (app u blk)
 | .pc f h r s=>∃x,aC S f h x/\match fQ blk r s (x.gV (S.lone s))with
  |some (v,u)=>al.iG (r++u.map (·.1))=true/\bJ (dL j d v) (app u blk)
  |none=>False
 | .sc f h=>al.holds (iA (S.ctx al) f h blk)=true/\ ∃v F,ja S f h (iA (S.ctx al) f h blk) blk v F/\bJ (dL j d v) F
def Xp(S:Sys)(al:cD)(w:Option Bool)(o:lI)(j:bP)(blk:aH)(bJ:bP->aH->Prop):Prop:=
 match w with
 |none=>False
 |some false=>bJ (dL j o.dst .undef) blk
 |some true=>L5 S al (cV S.shared j blk o.op) o.dst j blk bJ
section
variable {S:Sys} {al:cD} {j:bP} {blk:aH}
theorem aE8{ops:fx}{f:bP->aH->Prop}{tr T:gl}(h:rO S al ops (λj blk _=>R j blk) j blk tr)(H:∀e b,R e b->f e b):rO S al ops (λj blk _=>f j blk) j blk T:=by obtain⟨n,e,b,y,u,m⟩:=h;exact⟨n,e,b,y,u,H _ _ m⟩
theorem axN{ops:fx}{Q:ib}:W S al (.region false ops) Q j blk↔FI S al ops (λj blk=>Q .normal j blk) j blk:=by
 rw[afS];constructor
 .intro h tr;obtain⟨n,e,b,y,f,_,H⟩:=h;exact⟨n,e,b,y,f,H⟩
 intro h;obtain⟨n,e,b,y,f,H⟩:=h [];exact⟨n,e,b,y,f,(λh=>by cases h),H⟩
theorem ave:FI S al [] R j blk↔R j blk:=⟨λh=>aaz.1 (h []),λh _=>aaz.2 h⟩
theorem aiN{o:lI}{os:fx}{w:Option Bool}(tr:gl):HF S al w o j blk tr (rO S al os λe b _=>R e b)↔Xp S al w o j blk (FI S al os R):=by
 have k:∀ {e:bP}{b:aH}{t:gl},rO S al os (λe b _=>R e b) e b t↔FI S al os R e b:=λ{e b t}=>⟨λH T=>aE8 H λ_ _ H=>H,λH=>H t⟩;cases w with
 |none=>exact Iff.rfl
 |some w=>
  cases w with
  |false=>exact k (t:=tr++[⟨[],[],[]⟩])
  |true=>
   simp[HF,Xp];cases cV S.shared j blk o.op with
   |fail=>exact Iff.rfl
   |done v u r=>simp[JI,L5,k]
   |pc f h r s=>
    simp[JI,L5]
    grind
   |sc f h=>simp[JI,L5,k]
theorem amC{o:lI}{os:fx}:FI S al (o::os) R j blk↔Xp S al (th j o.guard) o j blk (FI S al os R):=by
 constructor
 .intro h;exact(aiN []).1 (VI.1 (h []))
 intro h tr;exact VI.2 ((aiN tr).2 h)
variable {o:lI} {bJ:bP->aH->Prop} {d:eF}
end
theorem aep:(false==true)=false:=rfl
theorem XE:(true==false)=false:=rfl
theorem adP:(false==false):=rfl
theorem aa1:(true==true):=rfl
theorem axj{blk:aH}{x:PV}:iD blk (.one (.p x))=some (.one (.p x)):=rfl
theorem aua(k:IntKind)(n:Int):(PV.int k n).norm=.int k n:=rfl
theorem ati(b:Bool):(PV.bool b).norm=.bool b:=rfl
theorem aFe(s:ByteArray):(PV.str s).norm=.str s:=rfl
theorem aHk:PV.nils.norm=.sl []:=rfl
theorem aCi(y:dy):(PV.sl y).norm=.sl y:=rfl
theorem ajh(y:dR):(PV.box y).norm=.box y:=rfl
theorem awM(f:Nat)(a b:dR):(PV.fn f a b).norm=.fn f a b:=rfl
theorem ayR:PV.Bm.norm=.Bm:=rfl
theorem aBW:PV.Aa.norm=.Aa:=rfl
theorem ari:PV.uw.norm=.uw:=rfl
theorem aCO(a:Bool)(e:zf):(PV.mp a e).norm=.mp a e:=rfl
theorem aqJ{blk:aH}:Ej blk []=some ([],[]):=rfl
def acW(x:Option (V×aD))(y:Option (dG×aD)):Option (dG×aD):=match x,y with
 |some (b,x),some (B,y)=>some (b::B,x++y)
 |_,_=>none
theorem aqU{blk:aH}:Ej blk (x::L)=acW (s9 blk x) (Ej blk L):=by
 simp[Ej,acW,iP]
 grind
theorem avY{b:V}{x:aD}{B:dG}{y:aD}:acW (some (b,x)) (some (B,y))=some (b::B,x++y):=rfl
theorem avg{blk:aH}{x:PV}:s9 blk (.one (.p x))=some (.one (.p x.norm),[]):=rfl
end Go.Abs
