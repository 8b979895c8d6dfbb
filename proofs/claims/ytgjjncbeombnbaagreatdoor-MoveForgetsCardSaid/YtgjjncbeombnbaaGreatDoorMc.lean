/-
  Each operation of the abstract machine is what the program does; the machine is sound in any order that a region draws; a quick evaluator; library functions.
-/
import Derived.Test.YtgjjncbeombnbaaGreatDoorMa
import Derived.Laws.BytesString
import Derived.LoopN
import Derived.Scope
import Derived.Orders
import Derived.ChangeReads
import Derived.ChangeStays
import Derived.DataReads
import Derived.Below
import Derived.Sort.Grow
import Derived.Deep.Draws
import Derived.Lib.ItoaNum
import Derived.Lib.Join
import Derived.Lib.BitFns
import Derived.Lib.LaidTab
import Derived.ChangeSame
import Derived.ProofKit
import Derived.OpenShut
set_option linter.all false
open List renaming length->I
namespace Go.Abs
variable{y:yK}{clock n f sz site nt b0:Nat}{v kv qv val:Value}{m:aW}{x:V}{x' k' y':eX}{z:dF}{key:PV}{ag held handsOn again:Bool}{D:qu}{A B T:Array Value}{u:jU}{L ys:dC}{R:bj->aG->Prop}{E II sp:Nat->Bool}{w':World}{Q Q' O:Nat->Prop}{h us:List Value}{X j jj:bj}{F cK aZ b2 GV b'':aG}{Y:jW}{ops:Array Oper}{before:List MemPlace}
variable {P:Program} {Z:World}
section
variable{ag:Bool}
def Q9(w:World)(own:Nat->Prop)(ag:Bool)(y:yK)(E:Array MapEntry):Prop:=E.size=I y/\ ∀(i:Nat) (q:PV) (v:dF) (e:MapEntry),y[i]?=some (q,v)->E[i]?=some e->cU w own q e.key/\ ∃g:Array Value,(ag->e.val=.agg g)/\(ag=false-> #[e.val]=g)/\dX w own v g.toList
theorem Ka{w:World}{r:Nat}{y:Array MapEntry}(h:w.heap[r]?=some (.map y clock)):(getObj r).run P w=.ok (.map y clock) w:=by simp[getObj,Sem.run,h]
theorem aiV{w:World}{r:Nat}{y:Array MapEntry}{O:Obj}(H:w.heap[r]?=some (.map y clock)):(setObj r O).run P w=.ok () {w with heap:=w.heap.setIfInBounds r O}:=by simp[setObj,Sem.run,H]
theorem ajq{w:World}{own:Nat->Prop}(h:cU w own (.mp ag y) v):
  ∃r E clock,v=.map (some r)/\w.heap[r]?=some (.map E clock)/\Q9 w own ag y E:=by
 cases h with
 |mp r E clock g A n hl z m hr=>
  refine⟨r,E,clock,rfl,n,hl,λi q v e f H=>⟨z i q v e f H,g i,(m i q v e f H).2.1,(m i q v e f H).2.2,?_,λj x u a b=>?_⟩⟩
  .grind
  grind
theorem Nv(aD:dP Z m){id g:Nat}(h:cS m (.one (.mN id g)) v)(H:m.blk id=(g,some (.map ag y))\/m.blk id=(g,some (.fmap ag y))):
  ∃r E clock,v=.map (some r)/\r=m.σ id/\m.w.heap[r]?=some (.map E clock)/\Q9 m.w m.own ag y E:=by
 cases h with
 |mN r u hr=>
  rcases H with H|H
  .obtain⟨E,clock,j,f,n⟩:=aD.obj id _ (congrArg Prod.snd H);have:=hr (by rw[H]) (by grind);subst this;exact⟨_,E,clock,rfl,rfl,j,f,n⟩
  obtain⟨E,clock,j,f,n,_⟩:=aD.obj id _ (congrArg Prod.snd H);have:=hr (by rw[H]) (by simp_all);subst this;exact⟨_,E,clock,rfl,rfl,j,f,n⟩
theorem ayA(aD:dP Z m){r:aC}(h:u9 m.blk ag x=some (y,r))(H:cS m x v):
  ∃E:Array MapEntry,((v=.map none/\E= #[])\/ ∃ref clock,v=.map (some ref)/\m.w.heap[ref]?=some (.map E clock))/\Q9 m.w m.own ag y E:=by
 unfold u9 at h;split at h
 .cases h;exact⟨#[],.inl ⟨afs H,rfl⟩,rfl,λi q v e h=>by simp at h⟩
 .rename_i u n;split at h
  .rename_i e;subst e;cases h;obtain⟨hp⟩:fC m _ v:=H;obtain _:=ajq hp
   grind
  cases h
 .rename_i id g;split at h
  .rename_i g' u n f;split at h
   .rename_i j;obtain⟨rfl,rfl⟩:=j;cases h;obtain _:=Nv aD H (.inl f)
    grind
   cases h
  .rename_i g' u n f;split at h
   .rename_i j;obtain⟨rfl,rfl⟩:=j;cases h;obtain⟨r,E,clock,B,_,z,A⟩:=Nv aD H (.inr f)
    grind
   cases h
  cases h
 cases h
theorem ayL(aD:dP Z m){r:aC}(h:B2 m.blk x=some (n,r))(u:cS m x v):
  (v=.map none/\n=0)\/ ∃ref E clock,v=.map (some ref)/\m.w.heap[ref]?=some (.map E clock)/\E.size=n:=by
 unfold B2 at h;split at h
 .cases h;exact .inl ⟨afs u,rfl⟩
 .cases h;obtain⟨hp⟩:fC m _ v:=u;obtain⟨r,E,clock,j,H,f⟩:=ajq hp;exact .inr ⟨r,E,clock,j,H,f.1⟩
 .rename_i id g;split at h
  .rename_i g' B A y;split at h
   .rename_i z;subst z;cases h;obtain⟨r,E,clock,j,_,H,f⟩:=Nv aD u (.inl y);exact .inr ⟨r,E,clock,j,H,f.1⟩
   cases h
  .rename_i g' B A y;split at h
   .rename_i z;subst z;cases h;obtain⟨r,E,clock,j,_,H,f⟩:=Nv aD u (.inr y);exact .inr ⟨r,E,clock,j,H,f.1⟩
   cases h
  cases h
 cases h
def Dw(kind:TypeDesc)(kd:Nat):Prop:=(kd=0/\ ∃k,kind=.int k)\/(kd=1/\kind=.string)\/(kd=2/\kind=.bool)
theorem ahj{t:TypeId}{kd:Nat}(h:keyOf P t=some kd):∃kind,P.underlying t=some kind/\Dw kind kd:=by
 unfold keyOf at h;split at h
 .rename_i k H;cases h;exact⟨_,H,.inl ⟨rfl,_,rfl⟩⟩
 .rename_i H;cases h;exact⟨_,H,.inr (.inl ⟨rfl,rfl⟩)⟩
 .rename_i H;cases h;exact⟨_,H,.inr (.inr ⟨rfl,rfl⟩)⟩
 cases h
theorem TC{w:World}{own:Nat->Prop}{k q:PV}{kind:TypeDesc}{b:Bool}(f:Dw kind (oj k))(h:FN k q=some b)(j:cU w own k kv)(H:cU w own q qv):Instr.sameNow kind kv qv=some b:=by
 unfold FN at h;split at h
 .rename_i a M c d;split at h
  .rename_i e;subst e;cases h;rcases f with⟨_,x,rfl⟩|⟨e,_⟩|⟨e,_⟩
   .cases j;cases H;simp[Instr.sameNow]
   .simp[oj]at e
   simp[oj]at e
  cases h
 .cases h;rcases f with⟨e,_⟩|⟨_,rfl⟩|⟨e,_⟩
  .simp[oj]at e
  .cases j;cases H;simp[Instr.sameNow]
  simp[oj]at e
 .cases h;rcases f with⟨e,_⟩|⟨e,_⟩|⟨_,rfl⟩
  .simp[oj]at e
  .simp[oj]at e
  cases j;cases H;simp[Instr.sameNow]
 cases h
theorem auL{w:World}{own:Nat->Prop}{k q:PV}(h:FN k q=some true)(f:cU w own k kv)(H:cU w own q qv):qv=kv:=by
 unfold FN at h;split at h
 .split at h
  .rename_i e;subst e;simp at h;subst h;cases f;cases H;rfl
  cases h
 .rename_i a b;have e:(a==b):=by simpa using h
  rw[beq_toListBytes]at e;have e:a=b:=by
   have e:a.toList=b.toList:=by simpa using e
   rw[ByteArray.toList_eq,ByteArray.toList_eq]at e;exact ByteArray.ext (Ug.1 e)
  subst e;cases f;cases H;rfl
 .simp at h;subst h;cases f;cases H;rfl
 cases h
theorem aa9{w:World}{own:Nat->Prop}{k:PV}{kind:TypeDesc}(h:Dw kind (oj k))(H:cU w own k kv):∀ {y:yK}{l:List MapEntry}{i:Nat}{f:Option (Nat×dF)},
  I l=I y->(∀(j:Nat) (q:PV) (v:dF) (e:MapEntry),y[j]?=some (q,v)->l[j]?=some e->cU w own q e.key)->zl k y i=some f->
  (f=none/\Instr.findNow kind kv l i=some none)\/ ∃j q v e,f=some (i+j,v)/\y[j]?=some (q,v)/\l[j]?=some e/\FN k q=some true/\Instr.findNow kind kv l i=some (some (i+j,e.val)):=by
 intro y
 induction y with
 |nil=>
  intro l i f hl _ hf;simp[zl]at hf;cases l with
  |nil=>exact .inl ⟨hf.symm,rfl⟩
  |cons _ _=>simp at hl
 |cons p r A=>
  intro l i f hl n hf;obtain⟨a,v⟩:=p;cases l with
  |nil=>simp at hl
  |cons e l=>
   have L:=n 0 a v e rfl rfl;simp[zl]at hf;split at hf
   .rename_i ae;cases hf;exact .inr ⟨0,a,v,e,rfl,rfl,rfl,ae,by simp[Instr.findNow,TC h ae H L]⟩
   .rename_i ae;rcases A (by simpa using hl) (λj q v e a b=>n (j+1) q v e (by grind) (by simpa using b)) hf with⟨m,E⟩|⟨j,q,x,e',m,E,z,B,u⟩
    .exact .inl ⟨m,by simp[Instr.findNow,TC h ae H L,E]⟩
    refine .inr ⟨j+1,q,x,e',by rw[m];congr 2;omega,by simpa using E,by simpa using z,B,?_⟩;simp only[Instr.findNow,TC h ae H L,u];congr 3;omega
   cases hf
theorem ata{t:TypeId}{kind:TypeDesc}{kd:Nat}{b:Bool}(w:World)(h:P.underlying t=some kind)(H:Dw kind kd)(n:Nat):(Instr.checkKey b (n+1) t v).run P w=.ok () w:=by rcases H with⟨_,k,rfl⟩|⟨_,rfl⟩|⟨_,rfl⟩<;>simp[Instr.checkKey,run_underlying h]
theorem LP{t:TypeId}{kind:TypeDesc}{kd:Nat}{b:Bool}(w:World)(h:P.underlying t=some kind)(H:Dw kind kd):(Instr.checkKey b 10000 t v).run P w=.ok () w:=ata w h H 9999
theorem aov{w:World}{own:Nat->Prop}{k:PV}{kind:TypeDesc}(H:Dw kind (oj k))(h:cU w own k kv)(n:Nat):Instr.sameBits n kv kv:=by
 cases h<;>first
  |(simp[oj,Dw]at H;done)
  |(simp[Instr.sameBits];done)
  |(simp[Instr.sameBits,beq_toListBytes];done)
theorem aw3{Z w:World}{own:Nat->Prop}{k:PV}{kind:TypeDesc}(H:Dw kind (oj k))(h:cU Z own k kv):(Instr.keyThatStays kv kv).run P w=.ok kv w:=by rw[Instr.keyThatStays,aov H h,an rfl];rfl
theorem N3{t:TypeId}{kind:TypeDesc}{l:List MapEntry}{r:Option (Nat×Value)}(w:World)(h:P.underlying t=some kind)(hf:Instr.findNow kind v l 0=some r):(Instr.findKey t v l).run P w=.ok r w:=by simp[Instr.findKey,run_underlying h,hf]
theorem aar{v:dF}{g:Array Value}(h:uz ag v=some x)(f:ag->val=.agg g)(H:ag=false-> #[val]=g)(hp:dX m.w m.own v g.toList):cS m x val/\oT m x val:=by
 cases ag with
 |true=>simp[uz,gW]at h;subst h;exact⟨cS.agg.2 ⟨g,f rfl,hp.ER⟩,⟨g,f rfl,hp.ER⟩⟩
 |false=>
  have H:=H rfl;subst H;cases v with
  |nil=>simp[uz]at h
  |cons c r=>
   cases r with
   |nil=>simp[uz,gW]at h;subst h;have:=hp.2 0 c val rfl rfl;exact⟨nM this,fC.p this⟩
   |cons _ _=>simp[uz]at h
section
variable {m:aW} {j:bj} {a:Act} {o:Oper} (aD:dP Z m) (hr:jN m j a.tmps)
include aD
theorem atV{t f e:TypeId}{s:Nat}(H:o.op=.makeMap t none):
  gN P Z a.eval o m (.one (.mN s ((m.blk s).1+1))) [(s,((m.blk s).1+1,some (.map ag [])))]:=by
 refine⟨.map (some m.w.heap.size),m.fresh _ s 0 (.map ag []),.inl ?_,Z1 aD _ s 0 _ ⟨#[],0,agj _ s 0 _,rfl,λi q v e h=>by simp at h⟩,Pz _ s 0 _,Zi aD _ s 0 _,Ud _ _ s 0 _,cS.one.2 (.mN _ ?_ λ_ _=>?_)⟩
 .simp[execOp,H,Instr.makeMap];rfl
 .simp[aW.fresh,aW.install,aW.later,ba]
 simp[aW.fresh,aW.install,ba]
include hr
theorem azB{c:Call}{x:Operand}{t k e:TypeId}{r:aC}(f:o.op=.call c)(y:c.callee=.builtin .len)(h:c.args= #[x])(u:c.argTypes[0]?=some t)(v:P.underlying t=some (.map k e))
  (A:c8 x=some x') (B:B2 m.blk (ev j x')=some (n,r)):gN P Z a.eval o m (.one (.p (.int .i64 n))) []:=by
 refine .calm aD ?_ (nM (.int _ _));rcases ayL aD B (fD A hr)with⟨H,rfl⟩|⟨ref,E,clock,H,z,rfl⟩
 .simp[execOp,f,resolve,y,h,u,invoke,builtin,Builtin.len_,run_underlying v,H,goInt]
 simp[execOp,f,resolve,y,h,u,invoke,builtin,Builtin.len_,run_underlying v,H,goInt,Ka z]
theorem aml{t kt e:TypeId}{x k:Operand}{ok:Bool}{q:dZ}{kd:Nat}{r:aC}{f:Option (Nat×dF)}{w:V}(ho:o.op=.lookup t x k ok)(O:P.underlying t=some (.map kt e))
  (hz:zp P e=some z) (Ca:keyOf P kt=some kd) (n:Qr P e=q.isSome) (hx:c8 x=some x') (hk:c8 k=some k') (hm:u9 m.blk q.isSome (ev j x')=some (y,r)) (R:ev j k'=.one (.p key)) (uP:oj key=kd)
  (hf:zl key y 0=some f) (hw:uz q.isSome ((f.map (·.2)).getD z)=some w):gN P Z a.eval o m (if ok then .tup [w,.one (.p (.bool f.isSome))]else w) []:=by
 obtain⟨kind,B,D⟩:=ahj Ca;obtain⟨E,Rx,hl,eT⟩:=ayA aD hm (fD hx hr);have HN:=fD hk hr;rw[R]at HN;obtain⟨dE⟩:fC m _ _:=HN;have jk:(∃ref clock,a.eval x=.map (some ref)/\m.w.heap[ref]?=some (.map E clock))\/a.eval x=.map none/\E= #[]:=by
  rcases Rx with h|h
  .exact .inr h
  exact .inl h
 have key:∀(val:Value) (b:Bool),cS m w val->oT m w val->f.isSome=b->(Instr.lookup t (a.eval x) (a.eval k) ok).run P m.w=.ok (if ok then .tuple #[val,.bool b]else val) m.w->gN P Z a.eval o m (if ok then .tup [w,.one (.p (.bool f.isSome))]else w) []:=by
  intro val b A mK H F;refine .calm aD (x:=if ok then .tuple #[val,.bool b]else val) ?_ ?_
  .simp[execOp,ho,F]
  cases ok
  .exact A
  refine⟨_,rfl,rfl,λY ac u p q=>?_⟩;rcases Y with _|_|Y
  .simp at p q;subst p q;exact mK
  .simp at p q;subst p q;rw[H];exact fC.p (.bool _)
  simp at p
 rcases aa9 (by rw[uP];exact D) dE (l:=E.toList) (by simpa using hl) (λY q v e A H=>(eT Y q v e A (by simpa using H)).1) hf with⟨rfl,X⟩|⟨Y,q',v,e',rfl,H,F,_,X⟩
 .obtain⟨M,i,L,N,Ie,mR,T⟩:=L6 hz;obtain⟨kU,v2⟩:=aar (val:=M) hw (λQ=>by
    rw[Q]at n;unfold Qr at n;rw[L]at n;simp only[N]at n;cases M<;>simp[Value.cells]at n |-) (λQ=>by
    rw[Q]at n;unfold Qr at n;rw[L]at n;simp only[N]at n;cases M<;>simp[Value.cells]at n |-) (T m.w m.own)
  refine key M false kU v2 rfl ?_;rcases jk with⟨ref,clock,A,H⟩|⟨A,H⟩
  .cases ok<;>simp[Instr.lookup,run_underlying O,A,Ka H,LP m.w B D,N3 m.w B X,zeroValue,typeInfo,L,N]
  subst H;cases ok<;>simp[Instr.lookup,run_underlying O,A,LP m.w B D,Instr.findKey,run_underlying B,Instr.findNow,zeroValue,typeInfo,L,N]
 obtain⟨ab,g,B7,Ko,T⟩:=eT Y q' v e' H (by simpa using F);obtain⟨kU,v2⟩:=aar hw B7 Ko T;refine key e'.val true kU v2 rfl ?_;rcases jk with⟨ref,clock,A,H⟩|⟨A,H⟩
 .cases ok<;>simp[Instr.lookup,run_underlying O,A,Ka H,LP m.w B D,N3 m.w B X]
 subst H;simp at F
theorem ah4{t kt e:TypeId}{x k am:Operand}{kd:Nat}{ag:Bool}{id g:Nat}{D:dY}{ps:dF}{f:Option (Nat×dF)}(B:o.op=.mapUpdate t x k am\/o.op=.insert t x k am)(ht:P.underlying t=some (.map kt e))
  (Ca:keyOf P kt=some kd) (hx:c8 x=some x') (hk:c8 k=some k') (hy:c8 am=some y') (hm:ev j x'=.one (.mN id g)) (hb:m.blk id=(g,some (.map ag y))) (ar:ev j k'=.one (.p key)) (uP:oj key=kd)
  (dK:Gk ag (ev j y')=some D) (dT:CG D=some ps) (hf:zl key y 0=some f):
  gN P Z a.eval o m .undef [(id,(g,some (.map ag (match f with|some (i,_)=>y.set i (key,ps)|none=>y++[(key,ps)]))))]:=by
 obtain⟨kind,Bd,Ec⟩:=ahj Ca;have T:=fD hx hr;rw[hm]at T;have O:=congrArg Prod.snd hb;obtain⟨ref,E,clock,Cl,bh,Y,hl,eT⟩:=Nv aD T (.inl hb);subst bh;have HN:=fD hk hr;rw[ar]at HN;obtain⟨Q⟩:fC m _ _:=HN;have L:=fD hy hr
 have X:∃M:Array Value,(ag->a.eval am=.agg M)/\(ag=false-> #[a.eval am]=M)/\dX m.w m.own ps M.toList:=by
  generalize ev j y'=vy at dK L;cases ag with
  |true=>
   cases vy<;>simp[Gk]at dK
   subst dK;obtain⟨arr,H,n⟩:=cS.agg.1 L;exact⟨arr,λ_=>H,λh=>(by cases h),M3 dT n⟩
  |false=>
   cases vy<;>simp[Gk]at dK
   subst dK;refine⟨#[a.eval am],λh=>(by cases h),λ_=>rfl,M3 dT ⟨rfl,λad x u p q=>?_⟩⟩;rcases ad with _|ad
   .simp at p q;subst p q;exact L
   simp at p
 obtain⟨M,zR,qS,ac⟩:=X;have KY:∀(z:Array MapEntry) (F:Nat) (R:yK),(execOp a.eval o).run P m.w=.ok .skip {m.w with heap:=m.w.heap.setIfInBounds (m.σ id) (.map z F)}->Q9 m.w m.own ag R z->
   gN P Z a.eval o m .undef [(id,(g,some (.map ag R)))]:=by
  intro z F R qq Rx;have ae:(m.w.heap.setIfInBounds (m.σ id) (.map z F)).size=m.w.heap.size:=aH;have ab:∀c,c≠m.σ id->(m.w.heap.setIfInBounds (m.σ id) (.map z F))[c]?=m.w.heap[c]? :=λc hc=>by rw[LL];rw[ai (λe=>hc e.symm)]
  have eD:gy m (m.jE {m.w with heap:=m.w.heap.setIfInBounds (m.σ id) (.map z F)} id (.map ag R)):=GS O rfl rfl rfl rfl rfl ae ab;refine⟨_,m.jE {m.w with heap:=m.w.heap.setIfInBounds (m.σ id) (.map z F)} id (.map ag R),.inr ⟨qq,rfl⟩,LQ O rfl aD rfl rfl rfl rfl ae ab ?_,eD,rfl,?_,rfl⟩
  .refine⟨z,F,?_,Rx.1,λi q v e H n=>?_⟩
   .show(m.w.heap.setIfInBounds (m.σ id) (.map z F))[m.σ id]?=_;rw[LL,an rfl,an (vR Y)]
   obtain⟨p1,gg,p2,p3,p4⟩:=Rx.2 i q v e H n;exact⟨p1.ev eD.zero,gg,p2,p3,p4.ev eD.zero⟩
  simp only[aW.jE,app,congrArg Prod.fst hb]
 rcases aa9 (by rw[uP];exact Ec) Q (l:=E.toList) (by simpa using hl) (λad q v e H n=>(eT ad q v e H (by simpa using n)).1) hf with⟨rfl,hn⟩|⟨ad,q',v,e',rfl,n,h3,h4,hn⟩
 .refine KY (E.push {key:=a.eval k,val:=a.eval am,born:=clock}) (clock+1) _ ?_ ?_
  .rcases B with B|B<;>simp[execOp,B,Instr.mapUpdate,run_underlying ht,Cl,Ka Y,LP m.w Bd Ec,N3 m.w Bd hn,aiV Y]
  refine⟨by simp[hl],λi q v e H n=>?_⟩;by_cases hi:i<I y
  .rw[sC hi]at H;rw[S2,ai J]at n;exact eT i q v e H n
  rw[o_ J]at H;have:i=I y:=by
   by_cases h:i-I y=0
   .omega
   have:=(bd.1 H).1;simp at this;omega
  subst this;simp at H;obtain⟨rfl,rfl⟩:=H;rw[S2,an hl.symm]at n;cases n;exact⟨Q,M,zR,qS,ac⟩
 have wU:E[ad]?=some e':=by simpa using h3
 refine KY (E.modify ad λe=>{e with key:=a.eval k,val:=a.eval am}) clock _ ?_ ?_
 .have N:=N3 m.w Bd hn;rw[jO]at N;have ap:(Instr.keyThatStays e'.key (a.eval k)).run P m.w=.ok (a.eval k) m.w:=by rw[auL h4 Q (eT ad q' v e' n wU).1];exact aw3 (by rw[uP];exact Ec) Q
  rcases B with B|B<;>simp[execOp,B,Instr.mapUpdate,run_underlying ht,Cl,Ka Y,LP m.w Bd Ec,N,aiV Y,wU,ap]
 simp only[jO];refine⟨by simp[hl],λi q v e H n=>?_⟩;rw[pA]at H;rw[Array.getElem?_modify]at n;by_cases gI:ad=i
 .subst gI;rw[an rfl]at H;split at H
  .cases H;simp[wU]at n;subst n;exact⟨Q,M,zR,qS,ac⟩
  cases H
 rw[ai gI]at H;rw[ai gI]at n;exact eT i q v e H n
end
end
theorem acT{t:TypeId}{b:Bool}(h:Qz P t=some b):(b/\ ∃k,P.underlying t=some (.int k))\/(b=false/\P.underlying t=some .bool):=by
 unfold Qz at h
 grind
theorem atl{a b:PV}{r:Bool}(h:nZ true a b=some r):∃k x y,a=.int k x/\b=.int k y/\r=(x==y):=by
 cases a<;>cases b<;>simp[nZ]at h
 exact⟨_,_,_,rfl,by rw[h.1],h.2.symm⟩
theorem ao3{a b:PV}{r:Bool}(h:nZ false a b=some r):∃x y,a=.bool x/\b=.bool y/\r=(x==y):=by
 cases a<;>cases b<;>simp[nZ]at h
 grind
theorem ayP{as B:dY}{r:Bool}(h:nT [] as B=some r):r:=by
 cases as<;>cases B<;>simp[nT]at h
 exact h
theorem akA{k:Bool}{j:fT}{as f:dY}{r:Bool}(h:nT (k::j) as f=some r):
  ∃a A b B r0,as=.p a::A/\f=.p b::B/\nZ k a b=some r0/\(r0->nT j A B=some r)/\(r0=false->r=false):=by
 cases as with
 |nil=>simp[nT]at h
 |cons x A=>
  cases f with
  |nil=>cases x<;>simp[nT]at h
  |cons y B=>
   cases x<;>cases y<;>simp[nT]at h<;>try cases h
   grind
theorem akc{w:World}(d:Nat):∀ {fs:List Field}{n:fT}{k:Nat}{as u:dY}{r:Bool},JK P k fs=some n->nT n as u=some r->
  (∀(j:Nat) (x:a7),as[j]?=some x->∃v,A[k+j]?=some v/\fC m x v)->(∀(j:Nat) (x:a7),u[j]?=some x->∃v,B[k+j]?=some v/\fC m x v)->
  (Op.eqFields (d+1) A B fs).run P w=.ok r w:=by
 intro fs
 induction fs with
 |nil=>intro n k as u r hf N _ _;simp[JK]at hf;subst hf;rw[ayP N];simp[Op.eqFields,Sem.run_pure]
 |cons f fs ih=>
  intro n k as u r hf N ha R;simp[JK]at hf;split at hf
  .rename_i b DB T h2;split at hf
   .rename_i hc;obtain⟨E,D⟩:=hc;cases hf;obtain⟨x,ar,y,br,r0,rfl,rfl,Q,ht,hf⟩:=akA N;obtain⟨Z,L,z⟩:=ha 0 _ rfl;obtain⟨iI,H,O⟩:=R 0 _ rfl;obtain⟨z⟩:=z;obtain⟨O⟩:=O;have Y:∀(X:Array Value) (v:Value),X[k]?=some v->(part f.type X f.offset).run P w=.ok v w:=by
     intro X v hX;have sK:(isAgg f.type).run P w=.ok false w:=by rcases acT T with⟨_,kk,h⟩|⟨_,h⟩<;>simp[isAgg,run_underlying h]
     rw[E];simp[part,sK,hX]
    have F:(Op.equalIn (d+1) f.type Z iI).run P w=.ok r0 w:=by
     rcases acT T with⟨rfl,kk,h⟩|⟨rfl,h⟩
     .obtain⟨k',p,q,rfl,rfl,rfl⟩:=atl Q;cases z;cases O;simp[Op.equalIn,run_underlying h]
     obtain⟨p,q,rfl,rfl,rfl⟩:=ao3 Q;cases z;cases O;simp[Op.equalIn,run_underlying h]
    simp[Op.eqFields,an D,Sem.run_bind,Y A Z L,Y B iI H,F,Result.andThen_ok];cases r0 with
    |false=>rw[hf rfl];simp[Sem.run_pure]
    |true=>exact ih h2 (ht rfl) (λj x M=>by have:=ha (j+1) x (by simpa using M);rwa[show k+(j+1)=k+1+j by omega]at this) (λj x M=>by have:=R (j+1) x (by simpa using M);rwa[show k+(j+1)=k+1+j by omega]at this)
   cases hf
  cases hf
def CH:xF->Value->Bool->Prop
 | .ptr,v,b=>∃a,v=.pointer a/\a.isNone=b
 | .slc,v,b=>∃a l c,v=.slice a l c/\a.isNone=b
 | .map,v,b=>∃r,v=.map r/\r.isNone=b
 | .fnc,v,b=>(v=.nilFunc/\b)\/ ∃f x y,v=.func f x y/\b=false
 | .ifc,v,b=>(v=.nilIface/\b)\/ ∃d x,v=.iface d x/\b=false
 |_,_,_=>False
theorem yc{k:xF}{b:Bool}(h:Gl k x=some b)(hr:cS m x v):CH k v b:=by
 unfold Gl at h;split at h<;>cases h
 all_goals first
  |(obtain⟨hp⟩:fC m _ v:=hr;cases hp;first
    |exact⟨_,rfl,rfl⟩
    |exact⟨_,_,_,rfl,rfl⟩
    |exact .inl ⟨rfl,rfl⟩
    |exact .inr ⟨_,_,_,rfl,rfl⟩
    |exact .inr ⟨_,_,rfl,rfl⟩)
  |(have H:=hr;cases H;first
    |exact⟨_,rfl,rfl⟩
    |exact⟨_,_,_,rfl,rfl⟩
    |exact .inr ⟨_,_,_,rfl,rfl⟩)
def Zy(P:Program)(t:TypeId):xF->Prop
 | .bool=>P.underlying t=some .bool
 | .ptr=>∃e,P.underlying t=some (.pointer e)
 | .slc=>∃e,P.underlying t=some (.slice e)
 | .map=>∃a b,P.underlying t=some (.map a b)
 | .fnc=>∃a b c,P.underlying t=some (.func a b c)
 | .ifc=>∃a,P.underlying t=some (.interface a)
 | .str f=>∃fs,P.underlying t=some (.struct fs)/\P.stoodInHeld t=false/\P.eqGuardType P.depth t=false/\JK P 0 fs.toList=some f
theorem abp{t:TypeId}{x y:Operand}{k:xF}(h:MO P t x y=some k):Zy P t k/\(k=.ifc->IH x\/IH y):=by
 unfold MO at h;split at h
 .rename_i a H;split at h
  .rename_i f;cases h;exact⟨⟨_,H⟩,λ_=>by simpa using f⟩
  cases h
 .rename_i H;cases h;exact⟨H,λe=>by cases e⟩
 .rename_i H;cases h;exact⟨⟨_,H⟩,λe=>by cases e⟩
 .rename_i H;cases h;exact⟨⟨_,H⟩,λe=>by cases e⟩
 .rename_i H;cases h;exact⟨⟨_,_,H⟩,λe=>by cases e⟩
 .rename_i H;cases h;exact⟨⟨_,_,_,H⟩,λe=>by cases e⟩
 .rename_i fs H;split at h
  .rename_i f;simp at h;obtain⟨m,j,rfl⟩:=h;simp at f;exact⟨⟨fs,H,f.1,f.2,j⟩,λe=>by cases e⟩
  cases h
 cases h
theorem ahb{t:TypeId}{k:xF}{u:Value}{a b:Bool}(w:World)(j:Zy P t k)(H:CH k v a)(f:CH k u b)(D:a\/b)(d:Nat):(Op.equalIn (d+1) t v u).run P w=.ok (a&&b) w:=by
 cases k with
 |bool=>exact H.elim
 |str n=>exact H.elim
 |ptr=>obtain⟨e,h⟩:=j;obtain⟨x,rfl,rfl⟩:=H;obtain⟨y,rfl,rfl⟩:=f;cases x<;>cases y<;>simp at D<;>simp[Op.equalIn,run_underlying h]
 |slc=>obtain⟨e,h⟩:=j;obtain⟨x,_,_,rfl,rfl⟩:=H;obtain⟨y,_,_,rfl,rfl⟩:=f;cases x<;>cases y<;>simp at D<;>simp[Op.equalIn,run_underlying h]
 |map=>obtain⟨e,e',h⟩:=j;obtain⟨x,rfl,rfl⟩:=H;obtain⟨y,rfl,rfl⟩:=f;cases x<;>cases y<;>simp at D<;>simp[Op.equalIn,run_underlying h]
 |fnc=>obtain⟨e,e',E,h⟩:=j;rcases H with⟨rfl,rfl⟩|⟨_,_,_,rfl,rfl⟩<;>rcases f with⟨rfl,rfl⟩|⟨_,_,_,rfl,rfl⟩<;>simp at D<;>simp[Op.equalIn,run_underlying h]
 |ifc=>obtain⟨e,h⟩:=j;rcases H with⟨rfl,rfl⟩|⟨_,_,rfl,rfl⟩<;>rcases f with⟨rfl,rfl⟩|⟨_,_,rfl,rfl⟩<;>simp at D<;>simp[Op.equalIn,run_underlying h]
section
variable {m:aW} {j:bj} {a:Act} {o:Oper} (aD:dP Z m) (hr:jN m j a.tmps)
include aD hr
theorem auz{t:TypeId}{k:xF}{y:V}{u:Value}{b:Bool}(z:Zy P t k)(h:Di k x y=some b)(H:cS m x v)(n:cS m y u)(d:Nat):(Op.equalIn (d+2) t v u).run P m.w=.ok b m.w:=by
 unfold Di at h;split at h
 .cases h;rw[Dp H,Dp n];simp[Op.equalIn,Sem.run_bind,run_underlying z,Result.andThen_ok,Sem.run_pure]
 .obtain⟨A,rfl,F⟩:=cS.agg.1 H;obtain⟨B,rfl,E⟩:=cS.agg.1 n;obtain⟨fs,D,ae,_,hf⟩:=z;have Ba:P.fieldsOf t=fs:=by simp[Program.fieldsOf,D]
  rw[run_equalIn_agg m.w (d+1) t A B (by rw[Ba];exact D) ae,Ba];refine akc (m:=m) d hf h (λj x H=>?_) (λj x H=>?_)
  .have f:j<A.size:=by have:=F.1;simp at this;rw[this];exact(bd.1 H).1
   exact⟨A[j],by simp[f],F.2 j x _ H (by simp[f])⟩
  have f:j<B.size:=by have:=E.1;simp at this;rw[this];exact(bd.1 H).1
  exact⟨B[j],by simp[f],E.2 j x _ H (by simp[f])⟩
 .cases h
 .cases h
 split at h
 .rename_i L;have:=ahb m.w z (yc h H) (yc L n) (.inr rfl) (d+1)
  simpa using this
 split at h
 .rename_i M;have:=ahb m.w z (yc M H) (yc h n) (.inl rfl) (d+1)
  simpa using this
 cases h
theorem ayx{op:BinOp}{t:TypeId}{k:xF}{x y:Operand}{b:Bool}(M:MO P t x y=some k)(R:c8 x=some x')(O:c8 y=some y')(h:Di k (ev j x') (ev j y')=some b):
  (eqGuard op t x y (a.eval x) (a.eval y)).run P m.w=.ok () m.w:=by
 obtain⟨X,Q⟩:=abp M;have H:=fD R hr;have v:=fD O hr;by_cases f:op=.eql\/op=.neq
 .unfold Di at h;split at h
  .rename_i E D;rw[E]at H;rw[Dp H,eqGuard_at_bool];rfl
  .rename_i E D;rw[E]at H;rw[D]at v;obtain⟨A,Y,_⟩:=cS.agg.1 H;obtain⟨B,e4,_⟩:=cS.agg.1 v;obtain⟨fs,_,_,L,_⟩:=X;rw[Y,e4];exact run_eqGuard_agg m.w op t x y A B L
  .cases h
  .cases h
  rename_i k q1 q2 q3 q4 q5 q6 q7;have T:∃z b2,CH k (a.eval x) z/\CH k (a.eval y) b2:=by
   split at h
   .rename_i F;exact⟨_,_,yc h H,yc F v⟩
   split at h
   .rename_i Z;exact⟨_,_,yc Z H,yc h v⟩
   cases h
  obtain⟨z,b2,N,n2⟩:=T;cases k with
  |bool=>exact N.elim
  |str n=>exact N.elim
  |ptr=>obtain⟨q,e,_⟩:=N;rw[e,eqGuard_at_pointer];rfl
  |slc=>obtain⟨q,_,_,e,_⟩:=N;rw[e,eqGuard_at_slice];rfl
  |map=>obtain⟨q,e,_⟩:=N;rw[e,eqGuard_at_map];rfl
  |fnc=>
   rcases N with⟨e,_⟩|⟨_,_,_,e,_⟩
   .rw[e,eqGuard_at_nilFunc];rfl
   rw[e,eqGuard_at_func];rfl
  |ifc=>
   rcases N with⟨e,_⟩|⟨_,_,e,_⟩
   .rcases n2 with⟨e',_⟩|⟨_,_,e',_⟩
    .rw[e,e'];have u:(∃c,x=.const c)\/ ∃c,y=.const c:=by
      rcases Q rfl with u|u
      .cases x<;>simp[IH]at u
       exact .inl ⟨_,rfl⟩
      cases y<;>simp[IH]at u
      exact .inr ⟨_,rfl⟩
     rcases u with⟨c,rfl⟩|⟨c,rfl⟩
     .rw[eqGuard_nil_constL];rfl
     rw[eqGuard_nil_constR];rfl
    rw[e,e',eqGuard_nil_iface];rfl
   rw[e,eqGuard_at_iface];rfl
 have:eqGuard op t x y (a.eval x) (a.eval y)=pure ():=by
  cases op<;>first
   |rfl
   |exact(f (.inl rfl)).elim
   |exact(f (.inr rfl)).elim
 rw[this];rfl
theorem asp{t:TypeId}{k:xF}{u:Value}{B:Bool}(ae:(∃p q,v=.bool p/\u=.bool q)\/(∃p q,v=.agg p/\u=.agg q)\/ ∃p q,CH k v p/\CH k u q)(h:(Op.equalIn (9998+2) t v u).run P m.w=.ok B m.w):
  (binOp .eql t v u).run P m.w=.ok (.bool B) m.w/\(binOp .neq t v u).run P m.w=.ok (.bool (!B)) m.w:=by
 have j:Op.equal t v u=Op.equalIn (9998+2) t v u:=rfl;have key:binOp .eql t v u=(do pure (.bool (<-Op.equal t v u)))/\binOp .neq t v u=(do pure (.bool (!(<-Op.equal t v u)))):=by
  rcases ae with⟨p,q,rfl,rfl⟩|⟨p,q,rfl,rfl⟩|⟨p,q,H,f⟩
  .exact⟨rfl,rfl⟩
  .exact⟨rfl,rfl⟩
  cases k with
  |bool=>exact H.elim
  |str n=>exact H.elim
  |ptr=>obtain⟨_,rfl,_⟩:=H;obtain _:=f;exact⟨rfl,rfl⟩
  |slc=>obtain⟨_,_,_,rfl,_⟩:=H;obtain _:=f;exact⟨rfl,rfl⟩
  |map=>obtain⟨_,rfl,_⟩:=H;obtain⟨_,rfl,_⟩:=f;exact⟨rfl,rfl⟩
  |fnc=>rcases H with⟨rfl,_⟩|⟨_,_,_,rfl,_⟩<;>rcases f with _|⟨_,_,_,rfl,_⟩<;>exact⟨rfl,rfl⟩
  |ifc=>rcases H with⟨rfl,_⟩|⟨_,_,rfl,_⟩<;>rcases f with⟨rfl,_⟩|⟨_,_,rfl,_⟩<;>exact⟨rfl,rfl⟩
 simp_all
theorem aaZ{op:BinOp}{t T:TypeId}{x y:Operand}{k:xF}{n b:Bool}(z:o.op=.binOp op t x y T)(u:(op=.eql/\n=false)\/(op=.neq/\n))(F:MO P t x y=some k)(D:c8 x=some x')(A:c8 y=some y')
  (h:Di k (ev j x') (ev j y')=some b):gN P Z a.eval o m (.one (.p (.bool (if n then !b else b)))) []:=by
 have f:=fD D hr;have H:=fD A hr;have B:=ayx aD hr (op:=op) F D A h;have ae:(∃p q,a.eval x=.bool p/\a.eval y=.bool q)\/(∃p q,a.eval x=.agg p/\a.eval y=.agg q)\/ ∃p q,CH k (a.eval x) p/\CH k (a.eval y) q:=by
  unfold Di at h;split at h
  .rename_i E v;rw[E]at f;rw[v]at H;exact .inl ⟨_,_,Dp f,Dp H⟩
  .rename_i E v;rw[E]at f;rw[v]at H;obtain _:=cS.agg.1 f;obtain _:=cS.agg.1 H
   grind
  .cases h
  .cases h
  split at h
  .rename_i L;exact .inr (.inr ⟨_,_,yc h f,yc L H⟩)
  split at h
  .rename_i M;exact .inr (.inr ⟨_,_,yc M f,yc h H⟩)
  cases h
 obtain⟨r1,R⟩:=asp aD hr ae (auz aD hr (abp F).1 h f H 9998);rcases u with⟨rfl,rfl⟩|⟨rfl,rfl⟩
 .exact .calm aD (by simp[execOp,z,B,r1]) (nM (.bool _))
 exact .calm aD (by simp[execOp,z,B,R]) (nM (.bool _))
end
theorem ao9:∀ {y:dh}{B:AA},IF y=some B->∃N:bQ,y.flatten=N.map (PV.int .u8)/\B=N.map (λn=>UInt8.ofNat n.toNat)/\I N=I y:=by
 intro y
 induction y with
 |nil=>intro B h;simp[IF]at h;exact⟨[],rfl,h,rfl⟩
 |cons e r m=>
  intro B h;unfold IF at h;split at h
  .rename_i e';cases e'
  .rename_i n R e';cases e';simp at h;obtain⟨q,j,rfl⟩:=h;obtain⟨N,u,H,f⟩:=m j;exact⟨n::N,by simp[u],by simp[H],by simp[f]⟩
  cases h
theorem aqW{w:World}{own:Nat->Prop}:∀ {N:bQ}{h:List Value},Pw (cU w own) (N.map (PV.int .u8)) h->h=N.map (Value.int .u8):=by
 intro N
 induction N with
 |nil=>intro h H;have:=H.1;simp at this;simp[this]
 |cons n N f=>
  intro h H;cases h with
  |nil=>have:=H.1;simp at this
  |cons v h=>cases(H.2 0 _ v rfl rfl);rw[f (h:=h) ⟨by have:=H.1;simpa using this,λj x u a b=>H.2 (j+1) x u (by grind) (by grind)⟩];rfl
theorem aoQ:∀(N:bQ) (s:ByteArray),N.foldl (λr n=>r.push (UInt8.ofNat n.toNat)) s=⟨s.data++(N.map (λn=>UInt8.ofNat n.toNat)).toArray⟩:=by
 intro N
 induction N with
 |nil=>intro s;cases s;simp
 |cons n N f=>simp_all
section
variable {m:aW} {j:bj} {a:Act} {o:Oper} (aD:dP Z m) (hr:jN m j a.tmps)
include aD hr
theorem ar5{s d e:TypeId}{x:Operand}{y:dh}{r:aC}{B:AA}(X:o.op=.convert s d x)(ae:P.underlying s=some (.slice e))(he:P.underlying e=some (.int .u8))(E:P.underlying d=some .string)
  (hx:c8 x=some x') (dV:gP m.blk (ev j x')=some (y,r,[])) (M:IF y=some B):gN P Z a.eval o m (.one (.p (.str ⟨B.toArray⟩))) []:=by
 obtain⟨N,Q,H,u⟩:=ao9 M;obtain⟨ax,f,L,_,FR⟩:=aeR aD dV (fD hx hr) ⟨λ_ h=>h,λ_ h=>by simp at h⟩;refine .calm aD ?_ (nM (.str _));have key:(Conv.bytesToString (.slice ax (I y) f)).run P m.w=.ok (.string ⟨B.toArray⟩) m.w:=by
  by_cases D:y=[]
  .subst D;have:N=[]:=by simpa using u
   subst this;have F:B=[]:=by simpa using H
   subst F;cases ax with
   |none=>simp[Conv.bytesToString,Sem.run_pure];rfl
   |some R=>have:=run_bytesToString (P:=P) m.w R 0 f [] (by simp[loadCells,loadCellsFrom,Sem.run_pure]);exact this
  obtain⟨b,O,n,rfl,T,Y⟩:=FR D;rw[Q]at T;have z:=aqW T;have hl:I n=I y:=by rw[z];simpa using u
  have A:(loadCells ⟨b,O,none⟩ (I y)).run P m.w=.ok (N.map (Value.int .u8)).toArray m.w:=by rw[<-hl,<-z];exact run_loadCells_list m.w _ n λab v hj=>by rw[Addr.add_lit];exact Y ab v hj
  rw[run_bytesToString m.w _ _ f N A,aoQ,H]
  simp_all
 simp[execOp,X,L,Sem.run_bind,run_convert_bytes_string m.w s d e ax (I y) f ae he E,key,Result.andThen_ok,Sem.run_pure]
end
theorem Y5{L:Array Operand}{a:eX}(h:qk L.toList=some [a]):∃x,L= #[x]/\c8 x=some a:=by
 obtain⟨L⟩:=L;cases L with
 |nil=>simp[qk]at h
 |cons x r=>
  simp[qk]at h;split at h
  .rename_i y ys f E;cases h;cases r with
   |nil=>exact⟨x,rfl,f⟩
   |cons z r=>simp[qk]at E;split at E<;>simp at E
  cases h
theorem To{L:Array Operand}{a b:eX}(h:qk L.toList=some [a,b]):∃x y,L= #[x,y]/\c8 x=some a/\c8 y=some b:=by
 obtain⟨L⟩:=L;cases L with
 |nil=>simp[qk]at h
 |cons x r=>
  simp[qk]at h;split at h
  .rename_i y ys E f;cases h;obtain _:=Y5 J
   grind
  cases h
theorem anK{L:Array TypeId}{t u:TypeId}(h:L[0]?=some t)(H:L[1]?=some u)(ae:L.size=2):L= #[t,u]:=by grind
theorem aj1{α:Type}{y ys:List (List α)}{O:Nat}(h:∀e∈y,I e=sz)(j:∀e∈ys,I e=sz)(hl:O+I ys<=I y):(fM y O ys).flatten=fM y.flatten (O*sz) ys.flatten:=by
 have m:∀k,k<=I y->(y.take k).flatten.length=k*sz:=λk H=>by rw[IE λe f=>h e (BS f),jw,v7 H]
 have E:y.flatten=(y.take (O+I ys)).flatten++(y.drop (O+I ys)).flatten:=by rw[<-Gx,jC]
 unfold fM;rw[Gx,Gx,IE j];congr 1
 .grind
 grind [j9]
theorem awI{R:PV->Value->Prop}{v:Array Value}(E:Pw R z v.toList):Pw R (List.replicate n z).flatten (Builtin.zeroCells v n).toList:=by
 have y:∀e∈List.replicate n z,I e=v.size:=λe f=>by rw[Vr f];exact by have:=E.1;simp at this;omega
 have H:(Builtin.zeroCells v n).toList.length=n*v.size:=by simp[size_zeroCells]
 refine⟨by rw[H,IE y];simp,λj x u p q=>?_⟩;have A:j<n*v.size:=by have:=(bd.1 q).1;omega
 have m:0<v.size:=by grind
 have h:j/v.size<n:=by rw[Nat.div_lt_iff_lt_mul m];exact A
 have D:j%v.size<v.size:=cJ _ m;have f:(List.replicate n z)[j/v.size]?=some z:=by simp[h]
 have B:=GF y f D;rw[show j/v.size*v.size+j%v.size=j by rw[Pc];exact Tc j v.size]at B;rw[B]at p;have F:(Builtin.zeroCells v n).toList[j]?=some v[j%v.size]! :=by unfold Builtin.zeroCells;simp[A]
 rw[F]at q;cases q;refine E.2 _ x _ p ?_;simp[D]
section
variable {m:aW} {j:bj} {a:Act} {o:Oper} (aD:dP Z m) (hr:jN m j a.tmps)
include aD hr
theorem ayR{c:Call}{x:Operand}{t e:TypeId}{bytes:Nat}{v:V}{rd:aC}(ho:o.op=.call c)(hc:c.callee=.builtin .clear)(ap:c.args= #[x])(ja:c.argTypes[0]?=some t)
  (he:AG P t=some (e,sz,bytes,z)) (hx:c8 x=some x') (hp:cH E j m.blk (.clear z x')=.done v u rd):gN P Z a.eval o m v u:=by
 obtain⟨i,zv,N,hi,ae,hb,⟨jd,NI⟩,Bc,Ie,mR,dT⟩:=SP he;have L:=fD hx hr;have run:∀(az:Value) (w':World),(Builtin.clear_ c.argTypes o.type #[a.eval x]).run P m.w=.ok az w'->(execOp a.eval o).run P m.w=.ok (.value az) w':=by intro az w' h;simp[execOp,ho,resolve,hc,ap,invoke,builtin,h]
 have Q:(Builtin.clear_ c.argTypes o.type #[a.eval x]).run P m.w=.ok (.tuple #[]) m.w->gN P Z a.eval o m (.tup []) []:=λh=>
  ⟨.tuple #[],m,.inl (run _ _ h),aD,gy.refl _,rfl,rfl,(⟨#[],rfl,rfl,λav x u h=>by simp at h⟩:cS m (.tup []) _)⟩
 simp only[cH]at hp;split at hp
 .rename_i D;cases hp;rw[D]at L;have L:=L;generalize R:a.eval x=b at L;rw[R]at Q;apply Q;cases L with
  |p h=>cases h;simp[Builtin.clear_,ja,run_underlying N]
 .rename_i D;cases hp;rw[D]at L;have L:=L;generalize R:a.eval x=b at L;rw[R]at Q;apply Q;cases L with
  |p h=>
   cases h with
   |yS a ab hn hm=>cases a<;>simp[Builtin.clear_,ja,run_underlying N]
   |sl b o ab sz f h1 h2 h3 h4=>simp[Builtin.clear_,ja,run_underlying N]
 .rename_i id g w O len D;rw[D]at L;have L:=L;generalize R:a.eval x=b at L;rw[R]at Q run;cases L with
  |hsl ad ab hg hl hm qh=>
   split at hp
   .rename_i h0;cases hp;subst h0;apply Q;simp[Builtin.clear_,ja,run_underlying N]
   rename_i h0;split at hp
   .rename_i g' T F y A;split at hp
    .rename_i NL;obtain⟨jt,Y,H⟩:=NL;cases hp;have bZ:(m.blk id).2=some (.arr T F y):=by rw[A]
     obtain⟨_,qh,_⟩:=qh F (by rw[A];exact jt) (by rw[A];rfl);have qh:=qh (.inr J);subst qh;obtain⟨B,hh,ng,ub,nN,qp,Hx,zP⟩:=aD.obj id _ bZ;have Oz:∀e∈List.replicate len z,I e=F:=λe he=>by rw[Vr he];exact Y.symm
     have ac:zv.cells.size=F:=by rw[Ie,<-mR,Y]
     have KN:I (List.replicate len z)=len:=K7;have qM:=aj1 ub Oz (by rw[KN];exact H);have pJ:(O+len)*F<=I y*F:=mV _ H;have aB:I y*F<=m.κ id*F:=mV _ nN;rw[j9]at pJ;generalize hZ:(Builtin.zeroCells zv.cells len).toList=ar;have am:I ar=len*F:=by rw[<-hZ];simp[size_zeroCells,ac]
     have M:∀w own,dX w own (List.replicate len z).flatten ar:=λw own=>dX.pw.2 (by rw[<-hZ];exact awI (dX.pw.1 (dT w own)));have RZ:∀v∈ar,v.oneCell':=λv D=>by obtain⟨av,hj⟩:=fX D;exact((M m.w m.own).2 av _ v (re (by rw[<- (M m.w m.own).1];exact(bd.1 hj).1)) hj).O6
     have di:=run_storeCells_at P (m.σ id) (O*F) T ar 0 B m.w hh (by rw[am,Hx];omega) RZ;simp only[uX]at di;generalize n:m.w.setRow (m.σ id) (B.toList.take (O*F)++ar++B.toList.drop (O*F+I ar)).toArray=W at di;have FD:W.heap.size=m.w.heap.size:=by rw[<-n];simp
     have FC:∀c,c≠m.σ id->W.heap[c]?=m.w.heap[c]? :=λc hc=>by rw[<-n];exact setRow_other m.w (m.σ id) c _ hc
     have X:I (fM y O (List.replicate len z))=I y:=N_ (by rw[KN];exact H);have eD:=GS (o:=.arr T F (fM y O (List.replicate len z))) bZ rfl (by simp[kZ]) (by rw[<-n];rfl) (by rw[<-n];rfl) (by rw[<-n];rfl) FD FC;have FV:tF (m.jE W id (.arr T F (fM y O (List.replicate len z)))) id (.arr T F (fM y O (List.replicate len z))):=by
      refine⟨_,by rw[<-n];exact Qp hh,ng,?_,by rw[X];exact nN,qp,?_,?_⟩
      .intro e' B6;unfold fM at B6;simp only[iR]at B6
       grind
      .simp[aW.jE];omega
      rw[X,qM];have h1:=(dX.pw.1 (zP.ev eD.zero)).fM (dX.pw.1 (M (m.jE W id (.arr T F (fM y O (List.replicate len z)))).w (m.jE W id (.arr T F (fM y O (List.replicate len z)))).own)) (O*F);rw[<-abk J (by simp;omega)]at h1
      simpa [fM]using(dX.pw.2 h1)
     refine⟨.tuple #[],m.jE W id (.arr T F (fM y O (List.replicate len z))),.inl (run _ _ ?_),LQ bZ rfl aD (by simp[kZ]) (by rw[<-n];rfl) (by rw[<-n];rfl) (by rw[<-n];rfl) FD FC FV,eD,rfl,?_,(⟨#[],rfl,rfl,λav x u h=>by simp at h⟩:cS _ (.tup []) _)⟩
     .obtain⟨k,rfl⟩:∃k,len=k+1:=⟨len-1,J⟩;simp[Builtin.clear_,ja,run_underlying N,zeroValue,typeInfo,hi,Bc,hZ,di,aW.jE]
     simp[aW.jE,app,A,jt]
    cases hp
   cases hp
 cases hp
end
section
variable {m:aW} {j:bj} {a:Act} {o:Oper} (aD:dP Z m) (hr:jN m j a.tmps)
include aD hr
theorem adb{t F e:TypeId}{x k Y:Operand}{kd:Nat}{v:V}{rd:aC}(h:o.op=.mapUpdate t x k Y\/o.op=.insert t x k Y)(z:P.underlying t=some (.map F e))
  (Q:keyOf P F=some kd) (A:c8 x=some x') (B:c8 k=some k') (H:c8 Y=some y') (hp:cH E j m.blk (.mupd kd ag x' k' y')=.done v u rd):gN P Z a.eval o m v u:=by
 simp[cH]at hp;split at hp
 .rename_i id g q D L n M;split at hp
  .rename_i g' R y ps O f;split at hp
   .rename_i T;obtain⟨rfl,rfl,N⟩:=T;split at hp
    .rename_i i w hf;cases hp;exact ah4 aD hr h z Q A B H L O n N M f hf
    .rename_i hf;cases hp;exact ah4 aD hr h z Q A B H L O n N M f hf
    cases hp
   cases hp
  cases hp
 cases hp
theorem ari{p:r_}{v:V}{rd:aC}(H:Gq P site o=some p)(hp:cH E j m.blk p=.done v u rd):gN P Z a.eval o m v u:=by
 unfold Gq at H;split at H
 ·
  rename_i x B;simp only[fH]at H;obtain⟨Y,A,rfl⟩:=H;cases hp;exact abi aD hr (.inl B) A
 ·
  rename_i x B;simp only[fH]at H;obtain⟨Y,A,rfl⟩:=H;cases hp;exact abi aD hr (.inr B) A
 ·
  rename_i c x Y B;split at H
  .rename_i c' x' y' A F L;cases H;simp only[cH]at hp;split at hp
   .rename_i t O;cases hp;exact apx aD hr B A F L O
   cases hp
  cases H
 ·
  rename_i t B;simp only[fH]at H;obtain⟨z,A,rfl⟩:=H;cases hp;exact akK aD B A
 ·
  rename_i t x B;simp only[fH]at H;obtain⟨z,A,rfl⟩:=H;simp only[cH]at hp;split at hp
  .rename_i D dK;cases hp;exact avc aD hr B A dK
  cases hp
 ·
  rename_i t ps B;split at H
  .rename_i fs z A F;split at H
   .rename_i iS;simp only[fH]at H;obtain⟨qs,L,rfl⟩:=H;simp only[cH]at hp;split at hp
    .rename_i rs ac;cases hp;exact alO aD hr B A F iS L ac
    cases hp
   cases H
  .rename_i n e z A F;split at H
   .rename_i i hi;simp only[fH]at H;obtain⟨qs,L,rfl⟩:=H;simp only[cH]at hp;split at hp
    .rename_i rs ac;cases hp;exact azv aD hr B A F hi L ac
    cases hp
   cases H
  cases H
 ·
  rename_i t n ps B;split at H
  .rename_i e sz bytes z as A F;split at H
   .rename_i X;cases H;simp only[cH]at hp;split at hp
    .rename_i y jk;obtain⟨g1,g2⟩:=awX (s:=site) aD hr B A F X.1 X.2 jk;split at hp
     .rename_i qs ap;cases hp;exact g1 qs ap
     cases hp;exact g2
    cases hp
   cases H
  cases H
 ·
  rename_i t x B;split at H
  .rename_i k Y A F;cases H;simp only[cH]at hp;split at hp
   .rename_i D r dK;split at hp
    .rename_i v' hv;cases hp;exact ao2 aD hr B A F dK hv
    cases hp
   cases hp
  cases H
 ·
  rename_i t x Y B;split at H
  .rename_i n x' y' A F L;cases H;simp only[cH]at hp;split at hp
   .rename_i D dK;exact aqM aD hr B A F L dK hp
   cases hp
  cases H
 ·
  rename_i x B;simp only[fH]at H;obtain⟨Y,A,rfl⟩:=H;have Q:u=[]/\rd=[]:=by simp only[cH]at hp;split at hp<;>cases hp<;>exact⟨rfl,rfl⟩
  obtain⟨rfl,rfl⟩:=Q;exact ass aD hr B A hp
 ·
  rename_i op t x Y ty B;split at H
  .rename_i x' y' A F;have ad:∀(ab:BinOp),p=.bin ab x' y'->ab=op->gN P Z a.eval o m v u:=by
    intro ab N M;subst N M;simp only[cH]at hp;split at hp
    .rename_i v' hv;cases hp;exact akC aD hr B A F hv
    cases hp
   split at H
   .cases H;exact ad _ rfl rfl
   .cases H;exact ad _ rfl rfl
   split at H
   .rename_i k hk;cases H;simp only[cH]at hp;split at hp
    .rename_i b hb;cases hp;exact aaZ aD hr B (.inl ⟨rfl,rfl⟩) hk A F hb
    cases hp
   .rename_i k hk;cases H;simp only[cH]at hp;split at hp
    .rename_i b hb;cases hp;exact aaZ aD hr B (.inr ⟨rfl,rfl⟩) hk A F hb
    cases hp
   cases H
  cases H
 ·
  rename_i op t x B;split at H
  .simp only[fH]at H;obtain⟨Y,A,rfl⟩:=H;simp only[cH]at hp;split at hp
   .rename_i b N M;cases hp;exact aqF aD hr B A M
   .rename_i N M;cases N
   cases hp
  .simp only[fH]at H;obtain⟨Y,A,rfl⟩:=H;simp only[cH]at hp;split at hp
   .rename_i N M;cases N
   .rename_i k n N M;cases hp;exact ax8 aD hr B A M
   cases hp
  cases H
 ·
  rename_i s d x B;split at H
  .rename_i ks k Y A F L;cases H;simp only[cH]at hp;split at hp
   .rename_i k0 n hn;cases hp;exact auf aD hr B A F L hn
   cases hp
  .rename_i e Y A F L;split at H
   .rename_i he;cases H;simp only[cH]at hp;split at hp
    .rename_i y r jk;split at hp
     .rename_i bs sL;cases hp;exact ar5 aD hr B A he F L jk sL
     cases hp
    cases hp
   cases H
  cases H
 ·
  rename_i f x Y B;split at H
  .rename_i x' y' A F;cases H;simp only[cH]at hp;split at hp
   .rename_i D ds N M;cases hp;exact aqk aD hr B A F N M
   cases hp
  cases H
 ·
  rename_i t B;split at H
  .simp only[fH]at H;obtain⟨k,A,rfl⟩:=H;cases hp;exact atV (f:=t) (e:=t) aD B
  cases H
 ·
  rename_i t l c B;split at H
  .rename_i e sz bytes z l' c' A F L;cases H;simp only[cH]at hp;split at hp
   .rename_i n n' N M;split at hp
    .rename_i X;obtain⟨rfl,lZ⟩:=X;cases hp;exact aob aD hr B A F L N M lZ
    cases hp
   cases hp
  cases H
 ·
  rename_i t x lo hi B;split at H
  .rename_i x' Ew w7 A F L;split at H
   .rename_i e O;simp only[fH]at H;obtain⟨sz,h4,rfl⟩:=H;simp only[cH]at hp;split at hp
    .rename_i n hn;split at hp
     .rename_i l ar N M;have Q:u=[]/\rd=[]:=by
       unfold EC at hp;repeat' split at hp
       all_goals first
        |cases hp
        |skip
       all_goals exact⟨rfl,rfl⟩
      obtain⟨rfl,rfl⟩:=Q;exact awe aD hr B O h4 A F L hn N M hp
     cases hp
    cases hp
   .rename_i O;cases H;simp only[cH]at hp;split at hp
    .rename_i s ae;split at hp
     .rename_i l ar N M;split at hp
      .rename_i X;cases hp;exact ala aD hr B O A F L ae N M X.1 X.2
      cases hp
     cases hp
    cases hp
   cases H
  cases H
 ·
  rename_i s x f B;split at H
  .rename_i fs Y A F;split at H
   .rename_i d hd;split at H
    .rename_i hz;cases H;have Q:u=[]/\rd=[]:=by
      simp only[cH]at hp;split at hp<;>cases hp<;>exact⟨rfl,rfl⟩
     obtain⟨rfl,rfl⟩:=Q;exact atO aD hr B A hd hz F hp
    cases H
   cases H
  cases H
 ·
  rename_i t x f B;split at H
  .rename_i fs Y A F;split at H
   .rename_i d hd;simp only[fH]at H;obtain⟨k,L,rfl⟩:=H;simp only[cH]at hp;split at hp
    .rename_i D dK;split at hp
     .rename_i v' hv;cases hp;exact az7 aD hr B A hd L F dK hv
     cases hp
    cases hp
   cases H
  cases H
 ·
  rename_i t x i B;split at H
  .rename_i x' i' A F;split at H
   .rename_i e O;simp only[fH]at H;obtain⟨sz,L,rfl⟩:=H;have Q:u=[]/\rd=[]:=by
     simp only[cH]at hp;repeat' split at hp
     all_goals first
      |cases hp
      |skip
     all_goals exact⟨rfl,rfl⟩
    obtain⟨rfl,rfl⟩:=Q;exact aye aD hr B O L A F hp
   .rename_i n e O;simp only[fH]at H;obtain⟨sz,L,rfl⟩:=H;have Q:u=[]/\rd=[]:=by
     simp only[cH]at hp;repeat' split at hp
     all_goals first
      |cases hp
      |skip
     all_goals exact⟨rfl,rfl⟩
    obtain⟨rfl,rfl⟩:=Q;exact an4 aD hr B O L A F hp
   cases H
  cases H
 ·
  rename_i t x i B;split at H
  .rename_i x' i' A F;split at H
   .rename_i n e O;split at H
    .rename_i sz k L h4;cases H;simp only[cH]at hp;split at hp
     .rename_i n' D N M;split at hp
      .rename_i aB;split at hp
       .rename_i v' hv;cases hp;exact auI aD hr B O L h4 A F N aB M hv
       cases hp
      cases hp
     cases hp
    cases H
   .rename_i O;cases H;simp only[cH]at hp;split at hp
    .rename_i n s N M;split at hp
     .rename_i b hb;cases hp;exact ava aD hr B O A F N M hb
     cases hp
    cases hp
   cases H
  cases H
 ·
  rename_i t x k ok B;split at H
  .rename_i kt e x' k' A F L;split at H
   .rename_i z q h4 h5;split at H
    .rename_i kd h6;split at H
     .rename_i h7;cases H;simp only[cH]at hp;split at hp
      .rename_i y r key N M;split at hp
       .cases hp
       rename_i Ca;split at hp
       .rename_i f hf;split at hp
        .rename_i w hw;cases hp;exact aml aD hr B A h4 h6 h7 F L N M (Classical.not_not.1 Ca) hf hw
        cases hp
       cases hp
      cases hp
     cases H
    cases H
   cases H
  cases H
 ·
  rename_i t x k Y B;split at H
  .rename_i kt e x' k' y' A F L h4;split at H
   .rename_i q h5;simp only[fH]at H;obtain⟨kd,h6,rfl⟩:=H;exact adb aD hr (.inl B) A h6 F L h4 hp
   cases H
  cases H
 ·
  rename_i t x k Y B;split at H
  .rename_i kt e x' k' y' A F L h4;split at H
   .rename_i q h5;simp only[fH]at H;obtain⟨kd,h6,rfl⟩:=H;exact adb aD hr (.inr B) A h6 F L h4 hp
   cases H
  cases H
 ·
  rename_i x i B;simp only[fH]at H;obtain⟨Y,A,rfl⟩:=H;simp only[cH]at hp;split at hp
  .rename_i h rR;split at hp
   .rename_i v' hv;cases hp;exact alf aD hr B A rR hv
   cases hp
  cases hp
 ·
  rename_i c B;split at H
  .rename_i f as A F;simp only[fH]at H;obtain⟨Y,L,rfl⟩:=H;simp only[cH]at hp;repeat' split at hp
   all_goals cases hp
  .rename_i x A F;obtain⟨x0,T,R⟩:=Y5 F;split at H
   .rename_i t O;split at H
    .rename_i Q;cases H;simp only[cH]at hp;split at hp
     .rename_i s ae;cases hp;exact avr aD hr B A T O Q R ae
     cases hp
    .rename_i e Q;cases H;simp only[cH]at hp;split at hp
     .rename_i n hn;cases hp;exact aAi aD hr B A T O Q R hn
     cases hp
    .rename_i k e Q;cases H;simp only[cH]at hp;split at hp
     .rename_i n r hn;cases hp;exact azB aD hr B A T O Q R hn
     cases hp
    cases H
   cases H
  .rename_i x Y A F;obtain⟨x0,y0,T,R,uT⟩:=To F;split at H
   .rename_i t u' O Q;split at H
    .rename_i e sz bytes z he;split at H
     .rename_i X;cases H;obtain⟨rfl,am⟩:=X;exact aoH aD hr B A T (anK O Q am) he R uT hp
     cases H
    cases H
   cases H
  .rename_i x Y A F;obtain⟨x0,y0,T,R,uT⟩:=To F;cases H;simp only[cH]at hp;split at hp
   .rename_i k p k' q N M;cases hp;exact akB aD hr B A T R uT N M
   cases hp
  .rename_i x Y A F;obtain⟨x0,y0,T,R,uT⟩:=To F;cases H;simp only[cH]at hp;split at hp
   .rename_i k p k' q N M;cases hp;exact apC aD hr B A T R uT N M
   cases hp
  .rename_i x A F;obtain⟨x0,T,R⟩:=Y5 F;split at H
   .rename_i t O;simp only[fH]at H;obtain⟨⟨e,sz,bytes,z⟩,L,rfl⟩:=H;exact ayR aD hr B A T O L R hp
   cases H
  cases H
 cases H
end
section
variable{m:aW}{D:dY}
def arR(w:World)(Q:Nat->Prop)(T sz:Nat)(y:dh)(c:Nat)(v:Value):Prop:=∃f h,v=.slice (some ⟨c,0,none⟩) (I y) f/\w.heap[c]?=some (.cells h T (0,0))/\0<sz/\(∀e∈y,I e=sz)/\I y<=f/\f<=maxLen/\h.size=f*sz/\dX w Q y.flatten (h.toList.take (I y*sz))
def rI(w:World)(Q:Nat->Prop):ns->List Value->aC->Prop
 |[],h,B=>h=[]/\B=[]
 | .p x::r,h,B=>∃v O,h=v::O/\cU w Q x v/\rI w Q r O B
 | .own T sz y::r,h,B=>∃v O c D,h=v::O/\B=c::D/\arR w Q T sz y c v/\rI w Q r O D
theorem rI.mono{w:World}(n:∀c,c<w.heap.size-> ¬Q c->w'.heap[c]?=w.heap[c]? /\ ¬Q' c):∀ {R:ns}{h:List Value}{B:aC},(∀c∈B,w'.heap[c]?=w.heap[c]?)->rI w Q R h B->rI w' Q' R h B:=by
 intro R
 induction R with
 |nil=>intro h B _ z;exact z
 |cons r R u=>
  intro h B f z;cases r with
  |p x=>obtain⟨v,O,rfl,L,H⟩:=z;exact⟨v,O,rfl,L.mono n,u f H⟩
  |own ty sz y=>obtain⟨v,O,c,D,rfl,rfl,⟨j,m,T,M,X,Y,E,F,A,N⟩,H⟩:=z;exact⟨v,O,c,D,rfl,rfl,⟨j,m,T,by rw[f c aH];exact M,X,Y,E,F,A,N.mono n⟩,u (λc Z=>f c (by simp[Z])) H⟩
theorem rI.less{w:World}(j:∀b,Q' b->Q b){R:ns}{B:aC}(hr:rI w Q R h B):rI w Q' R h B:=hr.mono (λc _ f=>⟨rfl,λH=>f (j c H)⟩) (λ_ _=>rfl)
theorem au7(aD:dP Z m)(H:∀b,Q b->m.own b){c:a7}{x:PV}{q:aC}(h:snap m.blk iC c=some (x,q))(hr:fC m c v)(ae:∀id∈q,¬Q (m.σ id)):cU m.w Q x v:=Je aD iC h hr ⟨H,ae⟩
theorem agn(aD:dP Z m)(hQ:∀b,Q b->m.own b):∀ {D:dY}{R:ns}{o q:aC}{h:List Value},nE m.blk D=some (R,o,q)->dU m D h->(∀id∈q,¬Q (m.σ id))->
  rI m.w Q R h (o.map m.σ)/\ ∀id∈o,∃O,(m.blk id).2=some O/\O.gT:=by
 intro D
 induction D with
 |nil=>
  intro R o q h F hr _;simp only[nE,gW,me]at F;obtain⟨rfl,rfl,rfl⟩:=F;have:h=[]:=by have:=hr.1;simpa using this
  exact⟨⟨this,rfl⟩,λid F=>by simp at F⟩
 |cons c D ih=>
  intro R o q h F hr hq;simp only[nE]at F;split at F
  .rename_i x o1 q1 L os qs H h2;cases F;cases h with
   |nil=>simp[dU]at hr
   |cons v h=>
    obtain⟨i1,i2⟩:=ih h2 ⟨by have:=hr.1;simpa using this,λj x u a b=>hr.2 (j+1) x u (by simpa using a) (by simpa using b)⟩ (λid n=>hq id (by simp[n]));have hc:=hr.2 0 c v rfl rfl;have f:∀ {ac:PV},(snap m.blk iC c).map (λ(v,r)=>((.p v:l6),([]:aC),r))=some (x,o1,q1)->rI m.w Q (x::L) (v::h) ((o1++os).map m.σ)/\ ∀id∈o1++os,∃O,(m.blk id).2=some O/\O.gT:=by intro _ H;simp only[fH]at H;obtain⟨⟨ac,r⟩,h3,h4⟩:=H;cases h4;exact⟨⟨v,h,rfl,au7 aD hQ h3 hc (λid n=>hq id (by simp[n])),i1⟩,i2⟩
    unfold l7 at H;split at H
    .rename_i ac;cases H;have hy:cU m.w m.own ac v:=by cases hc with|p F=>exact F
     exact⟨⟨v,h,rfl,hy.less hQ,i1⟩,i2⟩
    .rename_i id g z len;split at H
     .rename_i g' ty sz y N;split at H
      .rename_i tR;obtain⟨rfl,B⟩:=tR;cases H;have NH:(m.blk id).2=some (.arr ty sz y):=by rw[N]
       obtain⟨X,hh,jd,E,hl,mZ,dK,dT⟩:=aD.obj id _ NH;cases hc with
       |hsl ad ab hg Cb am Y=>
        obtain⟨f1,f2,f3⟩:=Y sz (by rw[N]) (by rw[N];rfl);have qh:=f2 (.inl rfl);have A:ab=m.κ id:=by rw[<-f3,jO]
        rw[CD]at qh;subst qh;subst A;have T:I (y.take len)=len:=by simp;omega
        refine⟨⟨_,h,m.σ id,os.map m.σ,rfl,rfl,⟨m.κ id,X,by rw[T],hh,jd,λe he=>E e (BS he),by rw[T];exact Cb,mZ,dK,?_⟩,i1⟩,?_⟩
        .rw[T,HP E];have H:=(dX.pw.1 dT).take (len*sz);rw[D5,v7 (mV _ B)]at H;exact(dX.pw.2 H).less hQ
        intro j M;simp only[ko,fz,dt]at M;rcases M with rfl|M
        .exact⟨_,NH,rfl⟩
        exact i2 j M
      cases H
     exact f (ac:=.yH) H
    exact f (ac:=.yH) H
  cases F
theorem abl:∀(R:ns) (site:Nat) (b M:aG),(∀s,site<=s->(b s).1=(M s).1)->kY b site R=kY M site R:=by
 intro R
 induction R with
 |nil=>intro site b M _;rfl
 |cons r R f=>
  intro site b M h;have H:hs b site r=hs M site r:=by
   cases r with
   |p x=>rfl
   |own T sz y=>simp[hs,h site _]
  simp[kY,H,f (site+1) b M (λs ae=>h s J)]
theorem awd{s c k:Nat}{o:fZ}(f:m.fr c):ux m (m.install s c k o) where
 own x _ j:=⟨rfl,λh=>j (PO f h)⟩
 gen id:=by
  simp[aW.install,ba]
  grind
 ref id H ae:=by
  simp[aW.install,ba]at H ae |-
  grind
theorem ux.trans{a b c:aW}(h:ux a b)(ae:a.w.heap.size<=b.w.heap.size)(k:ux b c):ux a c where
 own x f u:=by
  have j:=h.own x f u;have m:=k.own x (Ai f ae) j.2
  grind
 gen id:=nA (h.gen id) (k.gen id)
 ref id y H:=by
  have j:=h.gen id;have m:=k.gen id;obtain⟨n,E,z,v⟩:=k.ref id J H;obtain _:=h.ref id J n
  grind
theorem atH{n:aW}:∀ {R:ns}{h:List Value}{B:aC}{site:Nat}{m:aW},dP Z m->rI m.w m.own R h B->B.Nodup->(∀c∈B,m.fr c/\Z.heap.size<=c)->gy n m->(∀c∈B,n.w.heap.size<=c\/n.gT c)->
  ∃M,M.w=m.w/\dP Z M/\gy n M/\ux m M/\(∀c,M.fr c↔m.fr c/\c∉B)/\M.blk=app (kY m.blk site R).2 m.blk/\dU M (kY m.blk site R).1 h:=by
 intro R
 induction R with
 |nil=>intro h B site m aD O _ _ Y _;obtain⟨rfl,rfl⟩:=O;exact⟨m,rfl,aD,Y,⟨λc _ O=>⟨rfl,O⟩,λ_=>ct _,λ_ _ O=>⟨O,rfl,rfl,rfl⟩⟩,λc=>aH,rfl,rfl,λj x u O=>by simp[kY]at O⟩
 |cons r R ih=>
  intro h B site m aD O fJ F Y N9;have cons:∀ {M:aW}{x:a7}{L:dY}{v:Value}{h:List Value},fC M x v->dU M L h->dU M (x::L) (v::h):=by
   intro M x L v h h1 H;refine⟨by simp[H.1],λj ad u a b=>?_⟩;cases j with
   |zero=>simp at a b;subst a b;exact h1
   |succ j=>simp at a b;exact H.2 j ad u a b
  cases r with
  |p x=>obtain⟨v,oc,rfl,h1,H⟩:=O;obtain⟨M,e1,e2,e3,E,e5,e6,X⟩:=ih aD H fJ F Y N9;exact⟨M,e1,e2,e3,E,e5,by simpa [kY,hs]using e6,by simpa [kY,hs]using cons (fC.p (h1.ev E)) X⟩
  |own T sz y=>
   obtain⟨v,oc,c,DB,rfl,rfl,⟨f,ab,q1,q2,q3,q4,q5,q6,q7,q8⟩,H⟩:=O;have Q:=(F c aH).1;have h0:=awd (s:=site) (k:=f) (o:=.arr T sz y) Q;have ac:(m.install site c f (.arr T sz y)).σ site=c:=by simp[aW.install,ba]
   have A:(m.install site c f (.arr T sz y)).κ site=f:=by simp[aW.install,ba]
   have Cg:dP Z (m.install site c f (.arr T sz y)):=R1 aD Q (F c aH).2
    ⟨ab,by rw[ac];exact q2,q3,q4,by rw[A];exact q5,by rw[A];exact q6,by rw[A];exact q7,dX.ev h0 q8⟩
   have N:=qH.1 fJ;obtain⟨M,e1,e2,e3,E,e5,e6,X⟩:=ih Cg (H.less λb hb=>PO Q hb) N.2
    (λd D=>⟨⟨(F d (by simp[D])).1,λe=>N.1 (e▸D)⟩,(F d (by simp[D])).2⟩) (OY Y Q (N9 c aH)) (λd D=>N9 d (by simp[D]))
   have Wg:kY (m.install site c f (.arr T sz y)).blk (site+1) R=kY m.blk (site+1) R:=abl _ _ _ _ λs ae=>by simp only[aW.install,ba];rw[ai J]
   rw[Wg]at e6 X;refine⟨M,e1,e2,e3,h0.trans (ct _) E,λd=>?_,?_,?_⟩
   .rw[e5 d];simp only[aW.install,dt,AX];exact⟨λ⟨⟨a,b⟩,c⟩=>⟨a,b,c⟩,λ⟨a,b,c⟩=>⟨⟨a,b⟩,c⟩⟩
   .rw[e6];rfl
   refine cons ?_ X;have:fC (m.install site c f (.arr T sz y)) (.hsl site ((m.blk site).1+1) sz 0 (I y)) v:=by
    rw[q1];refine .hsl _ _ ?_ q5 q6 λz h1 H=>?_
    .simp[aW.install,ba]
    have hz:kZ ((m.install site c f (.arr T sz y)).blk site)=some sz:=by simp[aW.install,ba,kZ]
    grind
   exact this.ev E
def xU:RV->Value->List Value->Prop
 | .one _,v,h=>h=[v]
 | .agg l,v,h=>v=.agg h.toArray/\I h=I l
 | .tup _,_,_=>False
def DL:List RV->List Value->List Value->Prop
 |[],us,h=>us=[]/\h=[]
 |r::R,us,h=>∃u f a b,us=u::f/\h=a++b/\xU r u a/\DL R f b
def F2:RV->Value->List Value->Prop
 | .tup R,v,h=>∃arr,v=.tuple arr/\DL R arr.toList h
 |r,v,h=>xU r v h
theorem dU.take(H:dU m D h)(n:Nat):dU m (D.take n) (h.take n):=dU.pw.2 ((dU.pw.1 H).take n)
theorem dU.drop(H:dU m D h)(n:Nat):dU m (D.drop n) (h.drop n):=dU.pw.2 ((dU.pw.1 H).drop n)
theorem dU.append{f:dY}(H:dU m D h)(k:dU m f us):dU m (D++f) (h++us):=dU.pw.2 ((dU.pw.1 H).append (dU.pw.1 k))
theorem dU.single{c:a7}(h:fC m c v):dU m [c] [v]:=⟨rfl,λj x u a b=>by
 rcases j with _|j
 .grind
 simp at a⟩
theorem af0{v:V}(H:oN v=some D)(hr:oT m v val):
  ∃h,dU m D h/\ ∀(R T:ns),I R=I D->(sX v (R++T)).2=T/\mf (sX v (R++T)).1=R/\xU (sX v (R++T)).1 val h:=by
 cases v with
 |undef=>simp[oN]at H
 |tup h=>simp[oN]at H
 |one c=>
  simp[oN,gW]at H;subst H;refine⟨[val],dU.single hr,λR T hl=>?_⟩
  match R,hl with
  |[r],_=>exact⟨rfl,rfl,rfl⟩
 |agg f=>
  simp[oN,gW]at H;subst H;obtain⟨arr,rfl,j⟩:=hr;refine⟨arr.toList,j,λR T hl=>?_⟩;have u:(R++T).take (I f)=R:=by rw[<-hl];exact Hf
  have n:(R++T).drop (I f)=T:=by rw[<-hl];exact PH
  simp only[sX,mf,xU,u,n,true_and];rw[j.1,hl]
theorem ap7:∀ {f:dC}{D:dY}{v:List Value},wI f=some D->Pw (oT m) f v->
  ∃h,dU m D h/\ ∀(R:ns),I R=I D->rm (CF f R)=R/\DL (CF f R) v h:=by
 intro f
 induction f with
 |nil=>
  intro D v H hr;simp only[wI,gW]at H;subst H;have O:v=[]:=by have:=hr.1;simpa using this
  subst O;refine⟨[],⟨rfl,λj x u a=>by simp at a⟩,λR hl=>?_⟩;have:R=[]:=by simpa using hl
  subst this;exact⟨rfl,rfl,rfl⟩
 |cons w f T=>
  intro D v H hr;simp only[wI]at H;split at H
  .rename_i a b E z;cases H;cases v with
   |nil=>have:=hr.1;simp at this
   |cons val v=>
    obtain⟨n,F,B⟩:=af0 E (hr.2 0 w val rfl rfl);obtain⟨y,N,L⟩:=T z ⟨by have:=hr.1;simpa using this,λj x u p q=>hr.2 (j+1) x u (by simpa using p) (by simpa using q)⟩;refine⟨n++y,F.append N,λR hl=>?_⟩;have Y:I R=I a+I b:=by simpa using hl
    obtain⟨M,A,X⟩:=B (R.take (I a)) (R.drop (I a)) (by simp;omega);obtain⟨Q,Z⟩:=L (R.drop (I a)) (by simp;omega);simp only[CF,rm,M,A,Q,DL]
    grind [jC]
  cases H
theorem aoV{v:V}(A:tq v=some D)(hr:cS m v val):
  ∃h,dU m D h/\ ∀(R:ns),I R=I D->ll (vt v R)=R/\F2 (vt v R) val h:=by
 have one:∀ {v:V},oN v=some D->oT m v val->(∀R,vt v R=(sX v R).1)->∃h,dU m D h/\ ∀(R:ns),I R=I D->ll (vt v R)=R/\F2 (vt v R) val h:=by
  intro v A hr B;obtain⟨h,z,H⟩:=af0 A hr;refine⟨h,z,λR hl=>?_⟩;obtain⟨_,n,f⟩:=H R [] hl;rw[i_]at n f;rw[B];generalize(sX v R).1=y at n f;cases y with
  |tup _=>exact f.elim
  |one c=>exact⟨n,f⟩
  |agg c=>exact⟨n,f⟩
 cases v with
 |tup F=>obtain⟨arr,rfl,ae,E⟩:=hr;obtain⟨h,z,H⟩:=ap7 (v:=arr.toList) A ⟨by simpa using ae,λj x u a b=>E j x u a (by grind)⟩;exact⟨h,z,λR hl=>⟨(H R hl).1,arr,rfl,(H R hl).2⟩⟩
 |undef=>simp[tq,oN]at A
 |one c=>exact one A hr λ_=>rfl
 |agg c=>exact one A hr λ_=>rfl
theorem XR{r:RV}{a b:List Value}(hf:xU r val a)(h:dU m D (a++b)):oT m (pW r D).1 val/\dU m (pW r D).2 b:=by
 cases r with
 |tup _=>exact hf.elim
 |one c=>
  subst hf;cases D with
  |nil=>have:=h.1;simp at this
  |cons x L=>exact⟨h.2 0 x val rfl rfl,by have:=h.drop 1;simpa [pW]using this⟩
 |agg l=>
  obtain⟨rfl,hl⟩:=hf;refine⟨⟨_,rfl,?_⟩,?_⟩
  .have:=h.take (I l)
   grind
  have:=h.drop (I l)
  simpa [pW,hl]using this
theorem akj:∀ {R:List RV}{D:dY}{us h:List Value},DL R us h->dU m D h->Pw (oT m) (uj R D) us:=by
 intro R
 induction R with
 |nil=>intro D us h A _;obtain⟨rfl,rfl⟩:=A;exact⟨rfl,λj x u a=>by simp[uj]at a⟩
 |cons r R B=>
  intro D us h A F;obtain⟨u,L,a,b,rfl,rfl,E,H⟩:=A;obtain⟨y,z⟩:=XR E F;have n:=B H z;refine⟨by simp[uj,n.1],λj x v Q f=>?_⟩;cases j with
  |zero=>simp[uj]at Q f;subst Q f;exact y
  |succ j=>simp[uj]at Q f;exact n.2 j x v Q f
theorem aox{r:RV}(hf:F2 r val h)(H:dU m D h):cS m (uD r D) val:=by
 cases r with
 |tup R=>obtain⟨arr,rfl,f⟩:=hf;have:=akj f H;exact⟨arr,rfl,by simpa using this.1,λj x u a b=>this.2 j x u a (by grind)⟩
 |one c=>have:=(XR (b:=[]) (show xU (.one c) val h from hf) (by simpa using H)).1;exact cS.of1 this
 |agg c=>have:=(XR (b:=[]) (show xU (.agg c) val h from hf) (by simpa using H)).1;exact cS.of1 this
end
section
variable{M:aG}{site:Nat}{v:V}{D:qu}{E:lD}{j:bj}{Y:jW}
def kj(ids:aC)(b M:aG):Prop:=∀id∈ids,M id=b id
def sF(ts:aC)(e e':bj):Prop:=∀t∈ts,e' t=e t
theorem kj.left{x y:aC}{b:aG}(h:kj (x++y) b M):kj x b M:=λi H=>h i (by simp[H])
theorem kj.right{x y:aC}{b:aG}(h:kj (x++y) b M):kj y b M:=λi H=>h i (by simp[H])
theorem sF.left{x y:aC}{b M:bj}(h:sF (x++y) b M):sF x b M:=λi H=>h i (by simp[H])
theorem sF.right{x y:aC}{b M:bj}(h:sF (x++y) b M):sF y b M:=λi H=>h i (by simp[H])
section
variable {e e':bj}
theorem gr{a:eX}(h:sF a.tmps e e'):ev e' a=ev e a:=by
 cases a with
 |t n=>exact h n (by simp[eX.tmps])
 |_=>rfl
theorem avY:∀ {as:sG},sF (Es as) e e'->as.map (ev e')=as.map (ev e):=by
 intro as
 induction as with
 |nil=>intro _;rfl
 |cons a r f=>intro h;simp only[eQ];rw[gr h.left,f h.right]
theorem abV:∀ {as:sG},sF (Es as) e e'->xO e' as=xO e as:=by
 intro as
 induction as with
 |nil=>intro _;rfl
 |cons a r f=>intro h;simp[xO];rw[gr h.left,f h.right]
theorem ayH:∀ {as:sG},sF (Es as) e e'->Au e' sz as=Au e sz as:=by
 intro as
 induction as with
 |nil=>intro _;rfl
 |cons a r f=>intro h;simp[Au];rw[gr h.left,f h.right]
theorem am2:∀ {as:List (Nat×Nat×eX)},sF (YY as) e e'->zq e' as=zq e as:=by
 intro as
 induction as with
 |nil=>intro _;rfl
 |cons a r f=>intro h;obtain _:=a;simp[zq];rw[gr h.left,f h.right]
theorem N0{d:Nat}{a:Option eX}(h:sF (XN a) e e'):s_ e' d a=s_ e d a:=by
 cases a with
 |none=>rfl
 |some a=>simp[s_];rw[gr h]
theorem an2{a:eX}(h:sF a.tmps e e'):E_ e' a=E_ e a:=by unfold E_;rw[gr h]
theorem Xv{E:Nat->Bool}{blk:aG}{p:r_}(h:sF p.tmps e e'):cH E e' blk p=cH E e blk p:=by
 cases p with
 |OX x=>simp[cH,gr h]
 |pick c a b=>simp[cH,gr h.left.left,gr h.left.right,gr h.right]
 |alloc s z=>rfl
 |box s x=>simp[cH,gr h]
 |build z ps=>simp[cH,am2 h]
 |MK s T sz ps=>simp[cH,ayH h]
 |load k x=>simp[cH,gr h]
 |store n a x=>simp[cH,gr h.left,gr h.right]
 |O1 x=>simp[cH,gr h]
 |bin op x y=>simp[cH,gr h.left,gr h.right]
 |eqc k n x y=>simp[cH,gr h.left,gr h.right]
 |un op x=>simp[cH,gr h]
 |conv k x=>simp[cH,gr h]
 |bstr x=>simp[cH,gr h]
 |mkfn f a b=>simp[cH,abV h.left,abV h.right]
 |mkmap s ag=>rfl
 |OW s T sz bytes z l c=>simp[cH,gr h.left,gr h.right]
 |slice sz x lo H=>simp[cH,gr h.left.left,N0 h.left.right,N0 h.right]
 |sslice x lo H=>simp[cH,gr h.left.left,N0 h.left.right,N0 h.right]
 |Nf O x=>simp[cH,gr h]
 |OC sz x i=>simp[cH,gr h.left,gr h.right]
 |Mx l sz x i=>simp[cH,gr h.left,gr h.right]
 |fld O k x=>simp[cH,gr h]
 |aidx l sz k x i=>simp[cH,gr h.left,gr h.right]
 |sidx x i=>simp[cH,gr h.left,gr h.right]
 |lookup kd z ag ok x k=>simp[cH,gr h.left,gr h.right]
 |mupd kd ag m k v=>simp[cH,gr h.left.left,gr h.left.right,gr h.right]
 |bad=>rfl
 |extract x i=>simp[cH,gr h]
 |call s f as=>simp[cH,an2 h.left,avY h.right]
 |slen x=>simp[cH,gr h]
 |Sx x=>simp[cH,gr h]
 |mlen x=>simp[cH,gr h]
 |append s T sz b x y=>simp[cH,gr h.left,gr h.right]
 |max x y=>simp[cH,gr h.left,gr h.right]
 |min x y=>simp[cH,gr h.left,gr h.right]
 |clear z x=>simp[cH,gr h]
end
section
variable {b M:aG}
theorem yF{α β:Type}{f g:α->Option (β×aC)}(hf:∀x y r,f x=some (y,r)->kj r b M->g x=some (y,r)):∀ {L:List α}{ys:List β}{r:aC},gO f L=some (ys,r)->kj r b M->gO g L=some (ys,r):=by
 intro L
 induction L with
 |nil=>intro ys r h _;exact h
 |cons x L j=>
  intro ys r h H;simp[gO]at h |-;split at h
  .rename_i y p B q E m;cases h;rw[hf _ _ _ E H.left,j m H.right]
  cases h
theorem Mv:∀(n:Nat) (c:a7) (x:PV) (r:aC),snap b n c=some (x,r)->kj r b M->snap M n c=some (x,r):=by
 intro n
 induction n with
 |zero=>intro c x r h;simp[snap]at h
 |succ n m=>
  intro c x r h j;cases c with
  |p v=>exact h
  |bh id g O=>
   have H:id∈r:=by
    simp only[snap]at h
    (repeat' split at h)<;>first
     |cases h
     |skip
    all_goals simp
   simp only[snap]at h |-;rw[j id H];split at h
   .split at h
    .rename_i u;rw[an u];split at h
     .rename_i B;cases h;rw[yF m B (λi A=>j i (by simp[A]))]
     cases h
    cases h
   .exact h
   cases h
  |dV id g i O=>
   have H:id∈r:=by
    simp only[snap,fH]at h
    grind
   simp only[snap]at h |-;rw[j id H];exact h
  |hsl id g z O len=>
   have H:id∈r:=by
    simp only[snap]at h
    (repeat' split at h)<;>first
     |cases h
     |skip
    all_goals simp
   simp only[snap]at h |-;rw[j id H];split at h
   .exact h
   .exact h
   .split at h
    .rename_i u;rw[an u];split at h
     .rename_i B;cases h;rw[yF (λ_ _ _ p q=>yF m p q) B (λi A=>j i (by simp[A]))]
     cases h
    cases h
   cases h
  |mN id g=>
   have H:id∈r:=by
    simp only[snap]at h
    (repeat' split at h)<;>first
     |cases h
     |skip
    all_goals simp
   simp only[snap]at h |-;rw[j id H];exact h
  |hfn f x y=>
   simp only[snap]at h |-;split at h
   .rename_i E D;cases h;rw[yF m E j.left,yF m D j.right]
   cases h
theorem amJ(x y:V)(r:aC)(h:pO b x=some (y,r))(j:kj r b M):pO M x=some (y,r):=by
 cases x with
 |undef=>simp[pO]at h
 |tup _=>simp[pO]at h
 |one c=>simp only[pO,fH]at h |-;obtain⟨⟨p,q⟩,f,H⟩:=h;cases H;exact⟨_,Mv _ _ _ _ f j,rfl⟩
 |agg D=>simp only[pO,fH]at h |-;obtain⟨⟨p,q⟩,f,H⟩:=h;cases H;exact⟨_,yF (Mv _) f j,rfl⟩
theorem avS{r:aC}(h:Bu b L=some (ys,r))(H:kj r b M):Bu M L=some (ys,r):=yF amJ h H
theorem ar3{all:aC}{id:Nat}(h:xy b all id=some u)(f:id∈all)(H:kj all b M):xy M all id=some u:=by
 unfold xy at h |-;rw[H id f];split at h
 .split at h
  .rename_i ps r j;split at h
   .rename_i hr;rw[yF (Mv _) j (λi m=>H i (by grind))]
    grind
   cases h
  cases h
 .exact h
 .split at h
  .rename_i ps r j;split at h
   .rename_i hr;rw[yF (λ_ _ _ p q=>yF (Mv _) p q) j (λi m=>H i (by grind))]
    simp_all
   cases h
  cases h
 .exact h
 .cases h
 exact h
theorem amn{all:aC}(m:kj all b M):∀ {ids:aC}{u:jU},(∀i∈ids,i∈all)->tL b all ids=some u->tL M all ids=some u:=by
 intro ids
 induction ids with
 |nil=>intro u _ h;exact h
 |cons i r n=>
  intro u ae h;simp[tL]at h |-;split at h
  .rename_i x y v H;cases h;rw[ar3 v (ae i aH) m,n (λj f=>ae j (by simp[f])) H]
  cases h
theorem L9{ids:aC}(h:sT b ids=some u)(H:kj ids b M):sT M ids=some u:=amn H (λ_ h=>h) h
theorem axG{r:l6}(h:kj ((hs b site r).2.map (·.1)) b M):hs M site r=hs b site r:=by
 cases r with
 |p x=>rfl
 |own T sz y=>simp[hs];rw[h site (by simp[hs])]
theorem azi:∀ {R:ns}{site:Nat},kj ((kY b site R).2.map (·.1)) b M->kY M site R=kY b site R:=by
 intro R
 induction R with
 |nil=>intro site _;rfl
 |cons r R f=>intro site h;simp only[kY,fE]at h |-;rw[axG h.left,f h.right]
theorem abH{r:RV}(h:kj ((kV b site r).2.map (·.1)) b M):kV M site r=kV b site r:=by unfold kV at h |-;rw[azi h]
theorem atq{rd:aC}{r:RV}(h:fR b rd site r=some (v,u))(j:kj rd b M)(H:kj (u.map (·.1)) b M):fR M rd site r=some (v,u):=by
 unfold fR at h |-;split at h
 .rename_i f;rw[an f];cases h;rw[abH H];rfl
 rename_i f;rw[ai f];split at h
 .rename_i F hf;cases h;rw[L9 hf j];rw[fE]at H;rw[abH H.right]
 cases h
theorem ah0{D:dY}{r:aC}(h:Cn b x=some (D,r))(f:kj r b M):Cn M x=some (D,r):=by
 have key:=λid H=>f id H;unfold Cn at h |-;split at h
 .exact h
 .grind
 .rename_i id g i O;have H:id∈r:=by
   grind
  grind
 cases h
theorem alE{r:aC}(h:B2 b x=some (n,r))(f:kj r b M):B2 M x=some (n,r):=by
 unfold B2 at h |-;split at h
 .exact h
 .exact h
 .rename_i id g;have H:id∈r:=by
   grind
  simp[(λid H=>f id H) id H];exact h
 cases h
theorem aqK{r:aC}(h:u9 b ag x=some (y,r))(f:kj r b M):u9 M ag x=some (y,r):=by
 unfold u9 at h |-;split at h
 .exact h
 .exact h
 .rename_i id g;have H:id∈r:=by
   grind
  simp[(λid H=>f id H) id H];exact h
 cases h
theorem Ns{y:dh}{r fr:aC}(h:gP b x=some (y,r,fr))(f:kj r b M)(hf:kj fr b M):gP M x=some (y,r,fr):=by
 unfold gP at h |-;split at h
 .exact h
 .exact h
 .rename_i id g z O len;have H:id∈r:=by
   grind
  simp[(λid H=>f id H) id H];split at h
  .exact h
  .exact h
  .split at h
   .rename_i m;rw[an m];split at h
    .rename_i j;cases h;rw[yF (λ_ _ _ p q=>yF (Mv _) p q) j hf]
    cases h
   cases h
  exact h
 cases h
theorem au5{a:V}{L:dY}{r:aC}(h:Ar b a n L=.done v u r)(f:kj r b M):Ar M a n L=.done v u r:=by
 have key:=λid H=>f id H;unfold Ar at h |-;split at h
 .cases h
 rename_i j;split at h
 .grind
 .grind
 cases h
theorem awg{A bytes:Nat}{s:V}{r:aC}(h:iQ b site A sz bytes s x=.done v u r)(m:kj r b M):iQ M site A sz bytes s x=.done v u r:=by
 unfold iQ at h |-;split at h
 .cases h
 rename_i new rd fr dV;split at h
 .cases h
 rename_i j;split at h
 .cases h
 rename_i F T;have f:∀ {l:aC},(∀i∈l,i∈r)->kj l b M:=λhl i H=>m i (hl i H);split at h
 .split at h
  .rename_i n;cases h;rw[Ns dV m.left m.right];simp only;rw[ai j,L9 T m.right];simp only;rw[an n]
  rename_i n;split at h
  .rename_i hr;cases h;rw[Ns dV (f λi H=>by simp[H]) (f λi H=>by simp[H])];simp only;rw[ai j,L9 T (f λi H=>by simp[H])];simp only;rw[ai n,an hr,m site aH]
  cases h
 .split at h
  .cases h
  rename_i n;split at h
  .rename_i hr;cases h;rw[Ns dV (f λi H=>by simp[H]) (f λi H=>by simp[H])];simp only;rw[ai j,L9 T (f λi H=>by simp[H])];simp only;rw[ai n,an hr,m site aH]
  cases h
 .rename_i id g z len;split at h
  .rename_i g' E L y D;split at h
   .rename_i hr;cases h;rw[Ns dV (f λi H=>by simp[H]) (f λi H=>by simp[H])];simp only;rw[ai j,L9 T (f λi H=>by simp[H])];simp only;have B:=m id aH;rw[D]at B;simp only[B];rw[an hr,m site aH]
   cases h
  cases h
 cases h
end
theorem asU{E:Nat->Bool}{e:bj}{b:aG}{p:r_}{r:aC}(h:cH E e b p=.done v u r)(H:kj r b M):cH E e M p=.done v u r:=by
 cases p with
 |alloc s z=>simp only[cH,zr.done.injEq]at h |-;obtain⟨O,L,A⟩:=h;rw[H s (by rw[<-A];simp)];exact⟨O,L,A⟩
 |mkmap s ag=>simp only[cH,zr.done.injEq]at h |-;obtain⟨O,L,A⟩:=h;rw[H s (by rw[<-A];simp)];exact⟨O,L,A⟩
 |box s x=>
  simp only[cH]at h |-;split at h
  .cases h;rw[H s aH]
  cases h
 |MK s T sz ps=>
  simp only[cH]at h |-;split at h
  .split at h
   .cases h;rw[H s aH]
   cases h;rw[H s aH]
  cases h
 |OW s T sz bytes z l c=>
  simp only[cH]at h |-;split at h
  .split at h
   .rename_i B;cases h;rw[an B,H s aH]
   cases h
  cases h
 |load k x=>
  simp only[cH]at h |-;split at h
  .rename_i D q F;split at h
   .rename_i v' hv;cases h;rw[ah0 F H];simp only[hv]
   cases h
  cases h
 |store n a x=>
  simp only[cH]at h |-;split at h
  .exact au5 h H
  cases h
 |bstr x=>
  simp only[cH]at h |-;split at h
  .rename_i y q F;split at h
   .rename_i bs j;cases h;rw[Ns F H (λi hi=>by simp at hi)];simp only[j]
   cases h
  cases h
 |lookup kd z ag ok x k=>
  simp only[cH]at h |-;split at h
  .rename_i y q key hm X;split at h
   .cases h
   rename_i Y;split at h
   .rename_i f hf;split at h
    .rename_i w Z;cases h;rw[aqK hm H,X];simp only;rw[ai Y];simp only[hf,Z]
    cases h
   cases h
  cases h
 |clear z x=>
  simp only[cH]at h |-;split at h
  .cases h;rfl
  .cases h;rfl
  .rename_i id g w ab len e;split at h
   .rename_i Q;cases h;simp only[Q,if_true]
   rename_i Q;split at h
   .rename_i g' T sz y N;split at h
    .rename_i B;cases h;have j:=H id aH;rw[N]at j;rw[ai Q];simp only[j];rw[an B]
    cases h
   cases h
  cases h
 |mupd kd ag m k v=>
  simp only[cH]at h |-;split at h
  .rename_i id g q D O L A;split at h
   .rename_i g' uv y ps N R;split at h
    .rename_i B;split at h
     .rename_i i w hf;cases h;have j:=H id aH;rw[N]at j;simp only[j,R];rw[an B];simp only[hf]
     .rename_i hf;cases h;have j:=H id aH;rw[N]at j;simp only[j,R];rw[an B];simp only[hf]
     cases h
    cases h
   cases h
  cases h
 |mlen x=>
  simp only[cH]at h |-;split at h
  .rename_i n q F;cases h;rw[alE F H]
  cases h
 |append s T sz bytes x ac=>exact awg h H
 |call s f as=>
  simp only[cH]at h
  (repeat' split at h)<;>cases h
 |_=>exact h
theorem atN{E:Nat->Bool}{e:bj}{b:aG}{p:r_}{s:Nat}{h:dC}{r:aC}(H:cH E e b p=.pc f h r s)(j:kj r b M):cH E e M p=.pc f h r s:=by
 cases p with
 |call s f as=>
  simp[cH]at H |-;split at H
  .split at H
   .cases H
   rename_i F;rw[ai F];split at H
   .rename_i ae;cases H;rw[avS ae j]
   cases H
  cases H
 |_=>
  (simp[cH,Ar,iQ,EC,reduceCtorEq]at H)<;>(repeat' split at H)<;>cases H
theorem al0{E:Nat->Bool}{e:bj}{b:aG}{p:r_}{h:dC}(H:cH E e b p=.sc f h):cH E e M p=.sc f h:=by
 cases p with
 |call s f as=>
  simp[cH]at H |-
  grind
 |_=>
  (simp[cH,Ar,iQ,EC,reduceCtorEq]at H)<;>(repeat' split at H)<;>cases H
theorem awS:∀(u:jU) (b M:aG) (id:Nat),id∈u.map (·.1)->app u b id=app u M id:=by
 intro u
 induction u with
 |nil=>intro b M id h;simp at h
 |cons x u f=>
  intro b M id h;obtain⟨i,o⟩:=x;simp[app];by_cases H:id∈u.map (·.1)
  .exact f _ _ _ H
  have j:id=i:=by simpa [H]using h
  have key:∀(u:jU) (b:aG),id∉u.map (·.1)->app u b id=b id:=by
   intro u
   induction u with
   |nil=>intro b _;rfl
   |cons x u f=>intro b h;obtain _:=x;simp only[eQ,dt,AX]at h;simp[app];rw[f _ h.2,ba,ai h.1]
  rw[key u _ H,key u _ H,ba,ba,an j,an j]
theorem UM:∀(u:jU) (b:aG) (id:Nat),id∉u.map (·.1)->app u b id=b id:=by
 intro u
 induction u with
 |nil=>intro b id _;rfl
 |cons x u f=>intro b id h;obtain _:=x;simp only[eQ,dt,AX]at h;simp[app];rw[f _ _ h.2,ba,ai h.1]
theorem awP{e e':bj}{g:Option (Nat×Bool)}(h:∀t w,g=some (t,w)->e' t=e t):rj e' g=rj e g:=by
 cases g with
 |none=>rfl
 |some q=>obtain⟨t,w⟩:=q;simp[rj,h t w rfl]
def ic.writes(f:ic)(id:Nat):Bool:=f.wr.contains id||f.fs.contains (oY id)
def ic.vm(f:ic)(id:Nat):Bool:=f.rd.contains id||f.writes id
theorem adz{b:aG}:∀(n:Nat) (c:a7),kj (nc b n c) b M->nc M n c=nc b n c:=by
 intro n
 induction n with
 |zero=>intro c _;rfl
 |succ n u=>
  have m:∀(D:dY),kj (D.map (nc b n)).flatten b M->(D.map (nc M n)).flatten=(D.map (nc b n)).flatten:=by
   intro D
   induction D with
   |nil=>intro _;rfl
   |cons c D j=>intro h;simp at h |-;rw[u c h.left,j h.right]
  intro c h;cases c with
  |p v=>rfl
  |bh id g O=>
   simp[nc]at h |-;rw[h id aH];split
   .rename_i D N;rw[N]at h;rw[m D (λi H=>h i (by grind))]
   rfl
  |dV id g i O=>
   simp only[nc]at h |-;rw[h id aH];split
   .rename_i D N;rw[N]at h;rw[m _ (λi H=>h i (by simp only[dt];exact .inr H))]
   rfl
  |hsl id g z O len=>
   simp only[nc]at h |-;rw[h id aH];split
   .rename_i D N;rw[N]at h;rw[m _ (λi H=>h i (by simp only[dt];exact .inr H))]
   rfl
  |mN id g=>rfl
  |hfn f x y=>
   simp[nc]at h |-
   grind
theorem azy{b:aG}(v:V)(h:kj (pk b v) b M):pk M v=pk b v:=by
 cases v with
 |undef=>rfl
 |tup _=>rfl
 |one c=>exact adz _ _ h
 |agg D=>
  simp[pk]at h |-
  induction D with
  |nil=>rfl
  |cons c D f=>simp at h |-;rw[adz _ c h.left,f h.right]
theorem as2{h:dC}{b:aG}(H:kj (iH E f h b).ids b M):iH E f h M=iH E f h b:=by
 have:(h.map (pk M)).flatten=(h.map (pk b)).flatten:=by
  unfold iH at H
  induction h with
  |nil=>rfl
  |cons v h j=>simp at H |-;rw[azy v H.left,j H.right]
 unfold iH;rw[this]
def Aw(D:qu):Prop:=∀f h al blk v F,D f h al blk=some (v,F)->(∀id,al.ok id=false->F id=blk id)/\
 ∀aZ,(∀id,al.ok id->aZ id=blk id)->∃m,D f h al aZ=some (v,m)/\ ∀id,m id=if al.ok id then F id else aZ id
theorem SK{al:bU}{l:aC}(h:al.iJ l){id:Nat}(H:id∈l):al.ok id:=mB.1 h id H
theorem aqq{a b:bU}(m:b.any=false)(h:a.holds b){id:Nat}(H:b.ok id):a.ok id:=by
 unfold bU.holds at h;simp only[qZ,cN]at h;rcases h with h|⟨j,f⟩
 .simp[bU.ok,h]
 simp[bU.ok,m,JU,qZ]at H;rcases H with H|H
 .exact SK j J
 have:=mB.1 f _ J;simp only[bU.ok,qZ];exact .inr this
theorem UO(dK:Aw D){o:kE}{blk:aG}{f:ic}(n:lq E Y D o j blk=some (X,F,f)):
  ∃v,X=ef j o.dst v/\(∀id,f.writes id=false->F id=blk id)/\(∀id,f.vm id->E.al.ok id)/\
   ∀(m:bj) (aZ:aG),sF o.IK j m->(∀id,f.vm id->aZ id=blk id)->
    ∃O,lq E Y D o m aZ=some (ef m o.dst v,O,f)/\ ∀id,O id=if f.writes id then F id else aZ id:=by
 have B:∀(m:bj),sF o.IK j m->sF o.op.tmps j m/\rj m o.guard=rj j o.guard:=by intro m n;unfold kE.IK at n;exact⟨n.left,awP λt w hg=>n.right t (by rw[hg];simp)⟩
 have A:∀(r w:aC) (id:Nat),(⟨r,w,[]⟩:ic).writes id=w.contains id:=by intro r w id;simp[ic.writes]
 have L:∀(r w:aC) (id:Nat),(⟨r,w,[]⟩:ic).vm id↔id∈r\/id∈w:=by intro r w id;simp[ic.vm,ic.writes]
 have M:∀(u:jU) (b b2:aG) (r:aC) (id:Nat),app u b2 id=if(⟨r,u.map (·.1),[]⟩:ic).writes id then app u b id else b2 id:=by
  intro u b b2 r id;rw[A];by_cases H:id∈u.map (·.1)
  .rw[an (by simpa using H)];exact awS _ _ _ _ H
  rw[ai (by simpa using H)];exact UM _ _ _ H
 unfold lq at n;split at n
 .cases n
 .rename_i N;cases n;refine⟨.undef,rfl,λ_ _=>rfl,λid H=>by simp[ic.vm,ic.writes]at H,λm aZ y z=>⟨aZ,?_,λid=>by simp[ic.writes]⟩⟩;unfold lq;rw[(B m y).2,N]
 rename_i N;split at n
 .cases n
 .rename_i v u r hp;split at n
  .rename_i aD;cases n;refine⟨v,rfl,λid H=>UM _ _ _ (by rw[A]at H;simpa using H),λid H=>SK aD (by have:=(L _ _ _).1 H;simpa using this),λm aZ y z=>⟨app u aZ,?_,λid=>M _ _ _ _ _⟩⟩;unfold lq;rw[(B m y).2,N];simp only;rw[Xv (B m y).1,asU hp λid H=>z id ((L _ _ _).2 (.inl H))];simp only;rw[an aD]
  cases n
 .rename_i g h r s hp;split at n
  .rename_i x R;split at n
   .rename_i v u hl;split at n
    .rename_i aD;cases n;refine⟨v,rfl,λid H=>UM _ _ _ (by rw[A]at H;simpa using H),λid H=>SK aD (by have:=(L _ _ _).1 H;simp at this |-;rcases this with n|n<;>simp[n]),λm aZ y z=>⟨app u aZ,?_,λid=>M _ _ _ _ _⟩⟩;unfold lq;rw[(B m y).2,N];simp only;rw[Xv (B m y).1,atN hp λid H=>z id ((L _ _ _).2 (.inl (by simp[H])))];simp only[R];rw[atq hl (λid H=>z id ((L _ _ _).2 (.inl (by simp[H])))) λid H=>z id ((L _ _ _).2 (.inr H))];simp only;rw[an aD]
    cases n
   cases n
  cases n
 rename_i g h hp;split at n
 .rename_i aD;split at n
  .rename_i v b1 R;cases n;have Z:∀id,(⟨(iH E g h blk).ids,(iH E g h blk).ids,(iH E g h blk).fs⟩:ic).writes id=(iH E g h blk).ok id:=by
    intro id;simp[ic.writes,bU.ok,iH]
   have T:∀id,(⟨(iH E g h blk).ids,(iH E g h blk).ids,(iH E g h blk).fs⟩:ic).vm id=(iH E g h blk).ok id:=by intro id;simp only[ic.vm,Z];simp only[bU.ok];cases(iH E g h blk).ids.contains id<;>simp
   obtain⟨l1,l2⟩:=dK _ _ _ _ _ _ R;refine⟨v,rfl,λid H=>l1 id (by rw[<-Z];exact H),λid H=>aqq rfl aD (by rw[<-T];exact H),λm aZ y z=>?_⟩;obtain⟨O,g1,g2⟩:=l2 aZ λid H=>z id (by rw[T];exact H);have Q:iH E g h aZ=iH E g h blk:=as2 λid H=>z id (by rw[T];simp[bU.ok,H]);refine⟨O,?_,λid=>by rw[Z];exact g2 id⟩;unfold lq;rw[(B m y).2,N];simp only;rw[Xv (B m y).1,al0 hp];simp only[Q];rw[an aD];simp only[g1]
  cases n
 cases n
theorem anO(j:bj){d D:dZ}(v f:V)(h:∀t,d=some t->D≠some t):ef (ef j d v) D f=ef (ef j D f) d v:=by
 cases d with
 |none=>rfl
 |some t=>
  cases D with
  |none=>rfl
  |some T=>
   funext x;simp[ef,ba]
   grind
theorem aaA{d:dZ}{t:Nat}(h:d≠some t):ef j d v t=j t:=by
 cases d with
 |none=>rfl
 |some x=>simp only[ef,ba];rw[ai (λe=>h (by rw[e]))]
theorem SF{a b:aC}(h:vr a b=false){i:Nat}(f:i∈a):i∉b:=by
 intro H;have:vr a b:=by simp[vr,Fv];exact⟨i,f,by simpa using H⟩
 grind
theorem Uw{fs ids:aC}(h:Fg fs ids=false){i:Nat}(H:i∈ids):oY i∉fs:=by
 intro hf;have:Fg fs ids:=by simp[Fg,Fv];exact⟨i,H,by simpa using hf⟩
 grind
theorem akP{a b:ic}(h:E2 a b=false)(id:Nat):(a.writes id->b.vm id=false)/\(b.writes id->a.vm id=false):=by
 simp[E2,Bool.or_eq_false_iff]at h;obtain _:=h;have sw:∀ {x y:aC},vr x y=false->vr y x=false:=by
  intro x y h;cases f:vr y x with
  |false=>rfl
  |true=>simp[vr,Fv]at f;obtain⟨i,n,u⟩:=f;exact absurd n (SF h J)
 have one:∀ {a b:ic},vr a.wr b.rd=false->vr a.wr b.wr=false->vr a.fs b.fs=false->Fg a.fs (b.rd++b.wr)=false->Fg b.fs (a.rd++a.wr)=false->a.writes id->b.vm id=false:=by
  intro a b c1 m c4 j c6 H;simp[ic.writes,qZ]at H;simp only[ic.vm,ic.writes,Bool.or_eq_false_iff];rcases H with H|H
  .have H:id∈a.wr:=by simpa using H
   exact⟨by simpa using SF c1 H,by simpa using SF m H,by simpa using Uw c6 (by simp[H])⟩
  have H:oY id∈a.fs:=by simpa using H
  refine⟨?_,?_,?_⟩
  .cases f:b.rd.contains id with
   |false=>rfl
   |true=>exact absurd H (Uw j (by grind))
  .cases f:b.wr.contains id with
   |false=>rfl
   |true=>exact absurd H (Uw j (by simp_all))
  simpa using SF c4 H
 grind
theorem swap{E:lD}{Y:jW}{D:qu}(dK:Aw D){x y:kE}{j M:bj}{blk:aG}{z v:ic}(hx:lq E Y D x j blk=some (jj,cK,z))(X:lq E Y D y jj cK=some (M,aZ,v))
  (hf:E5 x y) (hc:E2 z v=false):∃f B,lq E Y D y j blk=some (f,B,v)/\lq E Y D x f B=some (M,aZ,z):=by
 obtain⟨kU,rfl,F,_,A⟩:=UO dK hx;obtain⟨v2,rfl,R,_,L⟩:=UO dK X;have Q:∀t,x.dst=some t->t∉y.IK/\y.dst≠some t:=by
  intro t H;simp[E5,H,cN]at hf
  grind
 have Z:∀t,y.dst=some t->t∉x.IK:=by
  intro t H;simp[E5,H,cN]at hf
  simpa using(hf.2)
 have N:=akP hc;have nw:∀ {a b:ic}{id:Nat},(a.writes id->b.vm id=false)->b.vm id->a.writes id=false:=by grind
 have wt:∀ {a:ic}{id:Nat},a.writes id->a.vm id:=by intro a id h;simp[ic.vm,h]
 obtain⟨B,u,T⟩:=L j blk (λt H=>(aaA λe=>(Q t e).1 H).symm) (λid m=>(F id (nw (N id).1 m)).symm);obtain⟨n,O,xb⟩:=A (ef j y.dst v2) B (λt H=>aaA λe=>Z t e H) (λid m=>by rw[T id,nw (N id).2 m];rfl)
 refine⟨_,B,u,?_⟩;rw[O,anO j kU v2 λt H=>(Q t H).2];have:n=aZ:=by grind
 rw[this]
structure Cx where
 i:Nat
 io:kE
 e:ic
def Rt(x y:Cx):Prop:=E5 x.io y.io=true/\E2 x.e y.e=false
theorem ago{o:kE}{r:fm}{blk:aG}{e:ic}{y:fW}(h:je E Y D (o::r) j blk=some (X,F,e::y)):
  ∃jj cK,lq E Y D o j blk=some (jj,cK,e)/\je E Y D r jj cK=some (X,F,y):=by
 simp[je]at h
 grind
theorem awn{o:kE}{r:fm}{blk:aG}{e:ic}{y:fW}(h:lq E Y D o j blk=some (jj,cK,e))(H:je E Y D r jj cK=some (X,F,y)):
  je E Y D (o::r) j blk=some (X,F,e::y):=by
 simp only[je,h,H]
theorem apK(dK:Aw D){y:Cx}{f:List Cx}:∀ {L:List Cx}{j X:bj}{blk F:aG},je E Y D ((L++y::f).map (·.io)) j blk=some (X,F,(L++y::f).map (·.e))->(∀x∈L,Rt x y)->
  ∃jj cK,lq E Y D y.io j blk=some (jj,cK,y.e)/\je E Y D ((L++f).map (·.io)) jj cK=some (X,F,(L++f).map (·.e)):=by
 intro L
 induction L with
 |nil=>intro j X blk F h _;exact ago h
 |cons x L M=>intro j X blk F h Z;obtain⟨v,A,R,H⟩:=ago h;obtain⟨u,n,N,Q⟩:=M H λz hz=>Z z (by simp[hz]);obtain⟨m,B,T,O⟩:=swap dK R N (Z x aH).1 (Z x aH).2;exact⟨m,B,T,awn O Q⟩
def Dn(al:bU)(b b2:aG):Prop:=∀id,al.ok id->b2 id=b id
def vG(al:bU)(M b2 GV:aG):Prop:=∀id,GV id=if al.ok id then M id else b2 id
def Frame(al:bU)(b M:aG):Prop:=∀id,al.ok id=false->M id=b id
theorem vG.agree{al:bU}(h:vG al M b2 GV):Dn al M GV:=λid H=>by rw[h id,H];rfl
theorem vG.trans{al:bU}{A:aG}(h:vG al M b2 GV)(k:vG al b'' GV A):vG al b'' b2 A:=λid=>by rw[k id,h id];cases al.ok id<;>rfl
theorem vG.refl{al:bU}{b:aG}(h:Dn al b b2):vG al b b2 b2:=λid=>by
 cases H:al.ok id with
 |true=>exact h id H
 |false=>rfl
theorem Frame.trans{al:bU}{b:aG}(h:Frame al b M)(k:Frame al M b''):Frame al b b'':=λid H=>(k id H).trans (h id H)
section
variable {E:lD} {Y:jW} {D:qu} (dK:Aw D)
include dK
theorem asl:∀ {ops:fm}{j X:bj}{blk F:aG}{y:fW},je E Y D ops j blk=some (X,F,y)->Frame E.al blk F/\
  ∀aZ,Dn E.al blk aZ->∃M,je E Y D ops j aZ=some (X,M,y)/\vG E.al F aZ M:=by
 intro ops
 induction ops with
 |nil=>intro j X blk F y h;obtain⟨rfl,rfl,rfl⟩:=h;exact⟨λ_ _=>rfl,λaZ f=>⟨aZ,rfl,.refl f⟩⟩
 |cons o ops ih=>
  intro j X blk F y h;simp[je]at h;split at h
  .rename_i jj cK e Q;split at h
   .rename_i dr aZ ij z;cases h;obtain⟨v,rfl,fr,T,L⟩:=UO dK Q;obtain⟨f2,N⟩:=ih z;have u:∀id,E.al.ok id=false->e.writes id=false:=by
     intro id H;cases m:e.writes id with
     |false=>rfl
     |true=>have:=T id (by simp[ic.vm,m]);rw[H]at this;cases this
    refine⟨Frame.trans (λid H=>fr id (u id H)) f2,λb2 f=>?_⟩;obtain⟨B,R,Z⟩:=L j b2 (λ_ _=>rfl) (λid H=>f id (T id H));have n:vG E.al cK b2 B:=by
     intro id;rw[Z id];cases H:E.al.ok id with
     |true=>
      cases m:e.writes id with
      |true=>rfl
      |false=>simp;rw[f id H,fr id m]
     |false=>rw[u id H]
    obtain⟨A,O,x⟩:=N B n.agree;exact⟨A,by simp[je,R,O],n.trans x⟩
   cases h
  cases h
theorem arn{c:bj->aG->Option (nI×bj×aG)}(u:∀ {j X blk F e},c j blk=some (e,X,F)->Frame E.al blk F/\ ∀aZ,Dn E.al blk aZ->∃m,c j aZ=some (e,X,m)/\vG E.al F aZ m):
  ∀(k:Nat) {j X:bj}{blk F:aG}{e:nI},lG c k j blk=some (e,X,F)->Frame E.al blk F/\ ∀aZ,Dn E.al blk aZ->∃m,lG c k j aZ=some (e,X,m)/\vG E.al F aZ m:=by
 intro k
 induction k with
 |zero=>intro j X blk F e h;simp[lG]at h
 |succ k N=>
  intro j X blk F e h;simp[lG]at h;split at h
  .rename_i jj cK A;obtain⟨n,g1⟩:=u A;obtain⟨L,y⟩:=N h;refine⟨n.trans L,λb2 H=>?_⟩;obtain⟨B,f,M⟩:=g1 b2 H;obtain⟨x,z,v⟩:=y B M.agree;exact⟨x,by simp[lG,f,z],M.trans v⟩
  rename_i D;obtain⟨n,g1⟩:=u h;refine⟨n,λb2 H=>?_⟩;obtain⟨B,f,M⟩:=g1 b2 H;refine⟨B,?_,M⟩;cases e with
  |normal=>exact(D _ _ h).elim
  |exit i=>simp[lG,f]
  |ret=>simp[lG,f]
theorem ad5:∀(c:aQ) {j X:bj}{blk F:aG}{e:nI},dq E Y D n c j blk=some (e,X,F)->Frame E.al blk F/\
  ∀aZ,Dn E.al blk aZ->∃Q,dq E Y D n c j aZ=some (e,X,Q)/\vG E.al F aZ Q:=by
 intro c
 induction c with
 |skip=>intro j X blk F e h;simp only[dq,gW,me]at h;obtain⟨rfl,rfl,rfl⟩:=h;exact⟨λ_ _=>rfl,λb2 H=>⟨b2,rfl,.refl H⟩⟩
 |exit id=>intro j X blk F e h;simp only[dq,gW,me]at h;obtain⟨rfl,rfl,rfl⟩:=h;exact⟨λ_ _=>rfl,λb2 H=>⟨b2,rfl,.refl H⟩⟩
 |ret=>intro j X blk F e h;simp only[dq,gW,me]at h;obtain⟨rfl,rfl,rfl⟩:=h;exact⟨λ_ _=>rfl,λb2 H=>⟨b2,rfl,.refl H⟩⟩
 |bad=>intro j X blk F e h;simp[dq]at h
 |region d ops=>
  intro j X blk F e h;simp only[dq]at h;split at h
  .rename_i jj cK y A;obtain⟨u,g1⟩:=asl dK A;have N:(e,X,F)=(nI.normal,jj,cK)/\(d->td ops [] y):=by
    grind
   obtain⟨N,R⟩:=N;cases N;refine⟨u,λb2 H=>?_⟩;obtain⟨B,f,m⟩:=g1 b2 H;refine⟨B,?_,m⟩;simp only[dq,f];cases d with
   |false=>simp
   |true=>simp[R rfl]
  cases h
 |seq a b v z=>
  intro j X blk F e h;simp only[dq]at h;split at h
  .rename_i jj cK A;obtain⟨u,g1⟩:=v A;obtain⟨f2,g2⟩:=z h;refine⟨u.trans f2,λb2 H=>?_⟩;obtain⟨B,f,m⟩:=g1 b2 H;obtain⟨b3,s2,T⟩:=g2 B m.agree;exact⟨b3,by simp only[dq,f,s2],m.trans T⟩
  rename_i O;obtain⟨u,g1⟩:=v h;refine⟨u,λb2 H=>?_⟩;obtain⟨B,f,m⟩:=g1 b2 H;refine⟨B,?_,m⟩;cases e with
  |normal=>exact(O _ _ h).elim
  |exit i=>simp only[dq,f]
  |ret=>simp only[dq,f]
 |cond x a b v z=>
  intro j X blk F e h;simp only[dq]at h |-;split at h
  .rename_i t ht;cases t with
   |true=>exact v h
   |false=>exact z h
  cases h
 |block id c L=>
  intro j X blk F e h;simp only[dq]at h;split at h
  .rename_i i jj cK A;obtain⟨u,g1⟩:=L A;have Z:F=cK:=by split at h<;>cases h<;>rfl
   subst Z;refine⟨u,λb2 H=>?_⟩;obtain⟨B,f,m⟩:=g1 b2 H;refine⟨B,?_,m⟩;simp only[dq,f];split at h
   .rename_i M;cases h;rw[an M]
   rename_i M;cases h;rw[ai M]
  rename_i O;obtain⟨u,g1⟩:=L h;refine⟨u,λb2 H=>?_⟩;obtain⟨B,f,m⟩:=g1 b2 H;refine⟨B,?_,m⟩;cases e with
  |normal=>simp only[dq,f]
  |exit i=>exact(O _ _ _ h).elim
  |ret=>simp only[dq,f]
 |loop c L=>intro j X blk F e h;simp only[dq]at h |-;exact arn dK (λh=>L h) n h
end
theorem ah2{al:bU}{blk:aG}(n:Dn al blk aZ):∀ {R:List (Nat×Option dZ)}{h:dC},qd al j blk R=some h->qd al j aZ R=some h:=by
 intro R
 induction R with
 |nil=>intro h H;exact H
 |cons r R v=>
  obtain⟨t,k⟩:=r;cases k with
  |none=>
   intro h H;simp[qd]at H |-
   grind
  |some k=>
   intro h H;simp[qd]at H |-;split at H
   .rename_i D rd q u m;split at H
    .rename_i aD;rw[ah0 u (λid f=>n id (SK aD f)),v m]
     grind
    cases H
   cases H
theorem aAh(dK:Aw D){fn:aV}{T:dC}{blk:aG}(z:qC E Y D n fn T blk=some (v,F)):Frame E.al blk F/\
  ∀aZ,Dn E.al blk aZ->∃M,qC E Y D n fn T aZ=some (v,M)/\vG E.al F aZ M:=by
 unfold qC at z;split at z
 .rename_i j b u;simp only[fH]at z;obtain⟨h,A,H⟩:=z;cases H;obtain⟨x,g1⟩:=ad5 dK _ u;refine⟨x,λb2 y=>?_⟩;obtain⟨B,f,m⟩:=g1 b2 y;exact⟨B,by unfold qC;rw[f];simp[ah2 m.agree A,vp],m⟩
 .rename_i j b u;simp only[fH]at z;obtain⟨h,A,H⟩:=z;cases H;obtain⟨x,g1⟩:=ad5 dK _ u;refine⟨x,λb2 y=>?_⟩;obtain⟨B,f,m⟩:=g1 b2 y;exact⟨B,by unfold qC;rw[f];simp only[ah2 m.agree A,vp],m⟩
 cases z
end
def tv(w:World)(O:Nat->Prop):V->Value->Prop
 | .one (.p x),v=>cU w O x v
 | .agg D,v=>∃arr ps,v=.agg arr/\D=ps.map .p/\dX w O ps arr.toList
 |_,_=>False
def Enters(P:Program)(f:Nat):Prop:= ∃fn c,P.funcs[f]?=some fn/\fn.body=some c/\(fn.name== "runtime.NumGoroutine")=false
def Pr(w:World)(Q:Nat->Prop)(r:RV)(val:Value)(B:aC):Prop:= ∃h,F2 r val h/\rI w Q (ll r) h B
def xP(w:World)(O:Nat->Prop)(r:RV):Ending->World->Prop:=λe w'=>∃val B,e=.returned val/\iX w w'/\B.Nodup/\(∀c∈B,w.heap.size<=c/\c<w'.heap.size)/\Pr w' (λc=>O c\/c∈B) r val B
def Good(G:World->Prop)(w:World):Prop:=G w/\ ∀w w',iX w w'->G w->G w'
theorem dP.aej(h:dP Z m):iX Z m.w:=⟨h.os,h.tape,h.output,h.size,h.base⟩
theorem rI.pure{w:World}(ab:∀b,Q' b->Q b):∀ {R:ns}{h:List Value}{B:aC},(∀c∈B,¬Q' c)->rI w Q R h B->rI w Q' (R.map l6.pure) h []:=by
 intro R
 induction R with
 |nil=>intro h B _ hr;exact⟨hr.1,rfl⟩
 |cons r R A=>
  intro h B n hr;have less:∀ {x:PV}{v:Value},cU w Q x v->cU w Q' x v:=λhp=>hp.mono λc _ N=>⟨rfl,λF=>N (ab c F)⟩;cases r with
  |p x=>obtain⟨v,O,rfl,M,m⟩:=hr;exact⟨v,O,rfl,less M,A n m⟩
  |own ty sz y=>
   obtain⟨v,O,c,DB,rfl,rfl,⟨u,f,T,e2,e3,X,D,L,Z,E⟩,m⟩:=hr;refine⟨v,O,rfl,?_,A (λc Y=>n c (by simp[Y])) m⟩;subst T;refine cU.sl c 0 u sz (λj=>f.toList.getD j undef) (λ_=>n c aH) D L X (λj x H=>?_) (λj x H=>?_)
   .have z:j<I (f.toList.take (I y*sz)):=by rw[E.1];exact(bd.1 H).1
    rw[World.cell?]
    grind
   have z:j<I (f.toList.take (I y*sz)):=by rw[E.1];exact(bd.1 H).1
   have lH:j<f.size:=by simp at z;omega
   refine less (E.2 j x _ H ?_)
   grind
theorem xU.pure{r:RV}(H:xU r v h):xU r.IB v h/\mf r.IB=(mf r).map l6.pure:=by
 cases r with
 |one c=>exact⟨H,rfl⟩
 |agg D=>exact⟨⟨H.1,by simpa [RV.IB]using H.2⟩,rfl⟩
 |tup _=>exact H.elim
theorem DL.pure:∀ {R:List RV}{us h:List Value},DL R us h->DL (R.map RV.IB) us h/\rm (R.map RV.IB)=(rm R).map l6.pure:=by
 intro R
 induction R with
 |nil=>intro us h y;exact⟨y,rfl⟩
 |cons r R n=>
  rintro us h ⟨u,m,a,b,rfl,rfl,v,H⟩
  obtain⟨f,j⟩:=v.pure;obtain⟨Q,x⟩:=n H;exact⟨⟨u,m,a,b,rfl,rfl,f,Q⟩,by simp[rm,j,x]⟩
theorem F2.pure{r:RV}(H:F2 r v h):F2 r.pure v h/\ll r.pure=(ll r).map l6.pure:=by
 cases r with
 |one c=>exact xU.pure (r:=.one c) H
 |agg D=>exact xU.pure (r:=.agg D) H
 |tup R=>obtain⟨arr,rfl,f⟩:=H;obtain⟨Q,j⟩:=f.pure;exact⟨⟨arr,rfl,Q⟩,j⟩
theorem xP.ib{w:World}{r:RV}{e:Ending}(b:Bool)(A:∀c,O c->c<w.heap.size)(v:xP w O r e w'):xP w O (r.ib b) e w':=by
 cases b with
 |false=>exact v
 |true=>
  obtain⟨val,B,rfl,n,F,z,h,u,j⟩:=v;obtain⟨f,m⟩:=u.pure;refine⟨val,[],rfl,n,qX,λc H=>by simp at H,h,f,?_⟩;simp[RV.ib];rw[m];refine rI.pure (λb x=>?_) (λc H y=>?_) j
  .grind
  grind
def Da(P:Program)(G:World->Prop)(Y:jW):Prop:=∀f h r,Y f h=some r->Enters P f/\ ∀(w:World) (O:Nat->Prop) (T:Array Value),Good G w->(∀c,O c->c<w.heap.size)->Pw (tv w O) h T.toList->Calls P f T w (xP w O r)
def Bv(Z:World)(m:aW)(v:V)(F:aG):Ending->World->Prop:=λe w'=>∃val M,e=.returned val/\M.w=w'/\dP Z M/\gy m M/\M.fr=m.fr/\M.blk=F/\cS M v val
def GG(P:Program)(G:World->Prop)(D:qu):Prop:=∀f h al blk v F,D f h al blk=some (v,F)->Enters P f/\ ∀(Z:World) (m:aW) (T:Array Value),Good G Z->dP Z m->m.blk=blk->Pw (cS m) h T.toList->Calls P f T m.w (Bv Z m v F)
theorem amA(aD:dP Z m){y:V}{r:aC}(j:pO m.blk x=some (y,r))(hr:cS m x v)(ae:vM m O r):tv m.w O y v:=by
 cases x with
 |undef=>simp[pO]at j
 |tup h=>simp[pO]at j
 |one c=>simp only[pO,fH]at j;obtain⟨⟨p,R⟩,f,H⟩:=j;cases H;exact Je aD iC f hr ae
 |agg D=>simp only[pO,fH]at j;obtain⟨⟨ps,R⟩,f,H⟩:=j;cases H;obtain⟨arr,rfl,u⟩:=cS.agg.1 hr;refine⟨arr,ps,rfl,rfl,?_⟩;exact Jh (T:=cU m.w O) (λ_ _=>vM.app) (λ_ _ _ _ f H n=>Je aD iC f H n) f ae u
theorem ZU(aD:dP Z m){r:aC}(n:Bu m.blk L=some (ys,r))(hr:Pw (cS m) L h)(ae:vM m O r):Pw (tv m.w O) ys h:=Jh (T:=tv m.w O) (λ_ _=>vM.app) (λ_ _ _ _ f H j=>amA aD f H j) n ae hr
theorem ajw(aD:dP Z m){c:Nat}(h:m.own c):c<m.w.heap.size:=by
 rcases h with h|⟨id,o,H,_,rfl⟩
 .exact aD.frlt c h
 exact(aD.obj id o H).lt
theorem ajv{w:World}{x:PV}(ae:x.scalar)(h:cU w Q x v):cU w Q' x v:=by
 cases h<;>first
  |(simp[PV.scalar]at ae;done)
  |constructor
theorem apL{w:World}:∀ {R:ns}{h:List Value}{B:aC},R.all l6.alone->rI w Q R h B->rI w Q' R h B:=by
 intro R
 induction R with
 |nil=>intro h B _ D;exact D
 |cons r R A=>
  intro h B H D;simp only[v_,cN]at H;cases r with
  |p x=>obtain⟨v,O,rfl,m,f⟩:=D;exact⟨v,O,rfl,ajv H.1 m,A H.2 f⟩
  |own ty sz y=>
   obtain⟨v,O,c,M,rfl,rfl,⟨n,z,X,T,Y,Z,F,N,L,E⟩,f⟩:=D;refine⟨v,O,c,M,rfl,rfl,⟨n,z,X,T,Y,Z,F,N,L,E.1,λj x u a b=>?_⟩,A H.2 f⟩;refine ajv ?_ (E.2 j x u a b);obtain _:=BH.1 (aX a);have m:=H.1;simp[l6.alone]at m
   grind
theorem aiR{m:aW}{x:RV}{B:aC}(aD:dP Z m)(u:iX m.w w')(L:B.Nodup)(f:∀c∈B,m.w.heap.size<=c/\c<w'.heap.size)(hr:Pr w' (λc=>m.own c\/c∈B) x val B):
  ∃M,M.w=w'/\dP Z M/\gy m M/\M.fr=m.fr/\M.blk=app (kV m.blk site x).2 m.blk/\cS M (kV m.blk site x).1 val:=by
 obtain⟨h,v,j⟩:=hr;obtain⟨M,A,N,D,_,E,F,y⟩:=atH (Lo aD u f) (j.less λb z=>aiA.1 z) L (λc H=>⟨.inr H,nA aD.size (f c H).1⟩) (GK u λc H=>(f c H).1) (λc H=>.inl (f c H).1);refine⟨M,A,N,D,?_,F,aox v y⟩;funext c;apply propext;rw[E c];constructor
 .rintro ⟨n|n,j⟩
  .exact n
  exact(j n).elim
 intro n;refine⟨.inl n,λH=>?_⟩;have v:=aD.frlt c n
 grind
theorem atD{b M:aG}(h:∀s,(b s).1=(M s).1)(site:Nat)(x:RV):kV b site x=kV M site x:=by unfold kV;rw[abl _ site b M λs _=>h s]
theorem avN{G:World->Prop}(Ki:Da P G Y)(hG:Good G Z)(aD:dP Z m){h:dC}{rd:aC}{x:RV}{v:V}(j:Y f h=some x)(ae:Bu m.blk L=some (h,rd))(ym:Pw (cS m) L T.toList)
  {pb:Bool} (hl:fR m.blk rd site (x.ib pb)=some (v,u)):Calls P f T m.w (Bv Z m v (app u m.blk)):=by
 have N:=λw O T F n h3=>((Ki f h x j).2 w O T F n h3).mono λe w' H=>H.ib pb n
 generalize x.ib pb=x at hl N;unfold fR at hl;split at hl
 .rename_i tR;cases hl;have key:∀(O:Nat->Prop),(∀c,O c->c<m.w.heap.size)->vM m O rd->(∀w' B val,Pr w' (λc=>O c\/c∈B) x val B->Pr w' (λc=>m.own c\/c∈B) x val B)->Calls P f T m.w (Bv Z m (kV m.blk site x).1 (app (kV m.blk site x).2 m.blk)):=by
   intro O hO pK xg;refine(N m.w O T ⟨hG.2 _ _ aD.aej hG.1,hG.2⟩ hO (ZU aD ae ym pK)).mono ?_;rintro e w' ⟨val,B,rfl,A,fJ,D,hr⟩
   obtain⟨Q,R,M,X,e4,E,y⟩:=aiR aD A fJ D (xg w' B val hr);exact⟨val,Q,rfl,R,M,X,e4,E,y⟩
  rcases tR with rfl|iM
  .exact key m.own (λc j=>ajw aD j) ⟨λ_ H=>H,λ_ H=>by simp at H⟩ λ_ _ _ H=>H
  refine key (λ_=>False) (λc H=>H.elim) ⟨λ_ H=>H.elim,λ_ _ H=>H⟩ λw' B val H=>?_;obtain⟨oc,F,n⟩:=H;exact⟨oc,F,apL iM n⟩
 split at hl
 .rename_i fu z;cases hl;have Cg:=aeF aD z;refine(N m.w (m.with fu).own T ⟨hG.2 _ _ aD.aej hG.1,hG.2⟩ (λc j=>ajw Cg j) (ZU aD ae ym (Zd aD z))).mono ?_;rintro e w' ⟨val,B,rfl,A,fJ,D,hr⟩
  obtain⟨Q,R,M,X,e4,E,y⟩:=aiR Cg A fJ D hr;have Wg:kV (m.with fu).blk site x=kV m.blk site x:=atD (λs=>OP z s) site x;rw[Wg]at E y;refine⟨val,Q,rfl,R,M,(XC z).trans X,e4,?_,y⟩;rw[E,Qo];rfl
 cases hl
theorem SM{M:aW}(E:gy m M){a:Act}{dst:dZ}{v:V}{x:Value}(hr:jN m j a.tmps)(f:cS M v x)(H:∀d,dst=some d->d<a.tmps.size):jN M (ef j dst v) (a.put dst x).tmps:=by
 cases dst with
 |none=>exact hr.ev E
 |some d=>
  intro t;simp only[ef,Act.put,ba];by_cases h:t=d
  .simp_all
  rw[ai h];have:(a.tmps.setIfInBounds d x).getD t undef=a.tmps.getD t undef:=by
   simp
   grind
  rw[this];exact(hr t).ev E.zero
theorem Rd(a:Act)(dst:dZ)(x:Value):(a.put dst x).tmps.size=a.tmps.size:=by cases dst<;>simp[Act.put]
theorem OO(a:Act)(dst:dZ)(x:Value):(a.put dst x).defers=a.defers:=by cases dst<;>simp[Act.put]
theorem aiZ{tmps:Array Value}(hr:jN m j tmps){o:Oper}{g:Option (Nat×Bool)}{b:Bool}
  (n:match o.guard with|none=>g=none|some (A,w)=>∃t,(ops[A]?).bind (·.dst)=some t/\g=some (t,w)) (h:rj j g=some b):Region.wanted o (yielded ops tmps)=b:=by
 unfold Region.wanted;cases x:o.guard with
 |none=>rw[x]at n;subst n;simp only[rj,gW]at h;exact h
 |some q=>
  obtain _:=q;rw[x]at n;obtain⟨t,z,rfl⟩:=n;have f:=hr t;simp[rj]at h;simp[yielded,z,Option.bind_some];split at h
  .rename_i M v;rw[v]at f;have H:=Dp f;cases h;have:tmps[t]?=some (.bool M):=by
    rw[IS]at H;cases u:tmps[t]? with
    |none=>rw[u]at H;simp[undef]at H
    |some y=>rw[u]at H;simp at H;rw[H]
   rw[this];rfl
  .rename_i v;rw[v]at f;cases h;have H:=f;rw[IS]at H;cases u:tmps[t]? with
   |none=>rfl
   |some y=>rw[u]at H;simp at H;rw[H];rfl
  cases h
theorem adM{f:eX}{g:Nat}{a b:dY}(h:E_ j f=some (g,a,b))(hr:cS m (ev j f) v):∃A B:Array Value,v=.func (.func g) A B/\dU m a A.toList/\dU m b B.toList:=by
 unfold E_ at h;split at h
 .rename_i g' x y z;cases h;rw[z]at hr;obtain⟨hp⟩:fC m _ v:=hr;cases hp with
  |fn A B D H E O=>exact⟨A,B,rfl,dX.ER ⟨by simpa using D,λn x u p q=>E n x u p (by grind)⟩,dX.ER ⟨by simpa using H,λn x u p q=>O n x u p (by grind)⟩⟩
 .rename_i g' x y z;cases h;rw[z]at hr;cases hr with
  |hfn A B D H E O=>exact⟨A,B,rfl,⟨by simpa using D,λn x u p q=>E n x u p (by simp_all)⟩,⟨by simpa using H,λn x u p q=>O n x u p (by simp_all)⟩⟩
 cases h
theorem aa2{a:Act}(hr:jN m j a.tmps):∀ {L:List Operand}{ys:sG},qk L=some ys->Pw (cS m) (ys.map (ev j)) (L.map a.eval):=by
 intro L
 induction L with
 |nil=>intro ys h;simp[qk]at h;subst h;exact⟨rfl,λf x u p=>by simp at p⟩
 |cons x L n=>
  intro ys h;simp[qk]at h;split at h
  .rename_i y Y v H;cases h;obtain⟨i1,i2⟩:=n H;refine⟨by simpa using i1,λf z u p q=>?_⟩;cases f with
   |zero=>simp at p q;subst p q;exact fD v hr
   |succ f=>exact i2 f z u (by grind) (by grind)
  cases h
theorem QC{D:dY}(f:dU m D h):Pw (cS m) (D.map .one) h:=by refine⟨by simpa using f.1,λj x u p q=>?_⟩;simp at p;obtain⟨c,H,rfl⟩:=p;exact cS.one.2 (f.2 j c u H q)
theorem azt(h:Enters P f)(T:Array Value)(w:World):(callFunc f T).run P w=.ok (.enter f T) w:=by obtain⟨fn,c,j,H,m⟩:=h;simp[callFunc,run_program,j,H,by simpa using m]
theorem aaz{o:Oper}{c:Call}{f:Operand}{a:Act}{g:Nat}{w:World}(h:o.op=.call c)(m:c.callee=.value f)(H:a.eval f=.func (.func g) A B)(j:Enters P g):
  (execOp a.eval o).run P w=.ok (.enter g (A++c.args.map a.eval++B)) w:=by
 simp[execOp,h,resolve,m,H,Deferred.ofValue,invoke,azt j]
theorem aha{o:Oper}{p:r_}(H:Gq P site o=some p)(hp:∀s f as,p≠ .call s f as){blk:aG}:(∀f h r s,cH E j blk p≠ .pc f h r s)/\ ∀f h,cH E j blk p≠ .sc f h:=by
 cases p<;>first
  |exact(hp _ _ _ rfl).elim
  |(simp only[cH]
    constructor<;>intros<;>intro H<;>(repeat' split at H)<;>first
     |cases H
     |(simp[Ar,EC,iQ]at H;(repeat' split at H)<;>cases H))
theorem ZY{o:Oper}{s:Nat}{f:eX}{as:sG}(h:Gq P site o=some (.call s f as)):∃c F,o.op=.call c/\c.callee=.value F/\c8 F=some f/\qk c.args.toList=some as:=by
 unfold Gq at h
 grind [fH]
def Ga(Z:World)(m:aW)(a:Act)(nt:Nat)(X:bj)(F:aG)(aY:Act->World->Prop):Prop:=∀(A:Act) (M:aW),dP Z M->gy m M->M.fr=m.fr->M.blk=F->jN M X A.tmps->A.tmps.size=nt->A.defers=a.defers->aY A M.w
theorem acf{o:Oper}{a:Act}{w:World}{aY:Act->World->Prop}{Q:Exit->Act->World->Prop}{R:Ending->World->Prop}(h:(execOp a.eval o).run P w=.ok (.enter f T) w)(H:Calls P f T w R)
  (j:∀e w',R e w'->∃v,e=.returned v/\aY (a.put o.dst v) w'):o.wp P a w aY Q:=by
 unfold Oper.wp;rw[h,Oper.upon_enter];refine H.mono ?_
 grind
theorem ajD{G:World->Prop}(hG:Good G Z)(hP:Da P G Y)(hS:GG P G D){E:lD}{base anc:Nat}{o:Oper}{io:kE}{ad:ic}{a:Act}{aY:Act->World->Prop}{Q:Exit->Act->World->Prop}
  (T:D6 P (λap=>(ops[ap]?).bind (·.dst)) base nt anc o=some io) (n:lq E Y D io j m.blk=some (X,F,ad)) (aD:dP Z m) (hr:jN m j a.tmps) (iA:a.tmps.size=nt) (y:Ga Z m a nt X F aY):
  if Region.wanted o (yielded ops a.tmps)then o.wp P a m.w aY Q else aY (a.put o.dst undef) m.w:=by
 have am:io.dst=o.dst/\io.op=JY P base o/\(∀d,o.dst=some d->d<nt)/\(match o.guard with|none=>io.guard=none|some (ap,w)=>∃t,(ops[ap]?).bind (·.dst)=some t/\io.guard=some (t,w)):=by
  unfold D6 at T;split at T
  .rename_i H;simp only[fH]at T;obtain⟨g,M,rfl⟩:=T;refine⟨rfl,rfl,λd he=>?_,?_⟩
   .rw[he]at H
    simpa [ahk]using H
   cases ab:o.guard with
   |none=>rw[ab]at M;simp[XB]at M;exact M.symm
   |some q=>obtain⟨ap,w⟩:=q;rw[ab]at M;simp only[XB,fH]at M;obtain⟨t,ht,rfl⟩:=M;exact⟨t,ht,rfl⟩
  cases T
 obtain⟨h1,h2,h3,h4⟩:=am;have H:∀d,o.dst=some d->d<a.tmps.size:=by rw[iA];exact h3
 unfold lq at n;split at n
 .cases n
 .rename_i hw;cases n;rw[aiZ hr h4 hw];simp only[gJ,if_false];rw[h1]at y;exact y _ m aD (gy.refl m) rfl rfl (SM (gy.refl m) hr (rfl) H) (by rw[Rd,iA]) (OO _ _ _)
 rename_i hw;rw[aiZ hr h4 hw];simp only[if_true];rw[h2]at n;unfold JY at n;cases L:Gq P base o with
 |none=>rw[L]at n;simp[cH]at n
 |some p=>
  rw[L]at n;simp only[nm]at n;split at n
  .cases n
  .rename_i v u r hp;split at n
   case isFalse=>cases n
   cases n;obtain⟨x,N,ac,R,O,e4,e5,e6⟩:=ari aD hr L hp;rw[h1]at y;have hk:=λx (z:cS N v x)=>y (a.put o.dst x) N R O e4 e5 (SM O hr z H) (by rw[Rd,iA]) (OO _ _ _);unfold Oper.wp;rcases ac with H|⟨H,rfl⟩
   .rw[H,Oper.upon_value];exact hk x e6
   rw[H,Oper.upon_skip];exact hk undef e6
  .rename_i f h r s hp;by_cases DX:∃s f as,p=.call s f as
   .obtain⟨s',f',as,rfl⟩:=DX;obtain⟨c,fo,g1,g2,g3,g4⟩:=ZY L;simp only[cH]at hp;split at hp
    .rename_i g A B hfn;obtain⟨AV,BV,e1,R,O⟩:=adM hfn (fD g3 hr);split at hp
     .cases hp
     split at hp
     .rename_i ws rd vY;cases hp;split at n
      .rename_i x z;split at n
       .rename_i v u hl;split at n
        case isFalse=>cases n
        cases n;have ym:Pw (cS m) (A.map .one++as.map (ev j)++B.map .one) (AV++c.args.map a.eval++BV).toList:=by
         have:=((QC R).append (aa2 hr g4)).append (QC O)
         simpa using this
        refine acf (aaz g1 g2 e1 (hP _ _ _ z).1) (avN hP hG aD z vY ym hl) ?_;rintro e w' ⟨val,N,rfl,rfl,q1,q2,q3,q4,q5⟩
        rw[h1]at y;exact⟨val,rfl,y _ N q1 q2 q3 q4 (SM q2 hr q5 H) (by rw[Rd,iA]) (OO _ _ _)⟩
       cases n
      cases n
     cases hp
    cases hp
   exact((aha L (λs f as e=>DX ⟨s,f,as,e⟩)).1 _ _ _ _ hp).elim
  rename_i f h hp;by_cases DX:∃s f as,p=.call s f as
  .obtain⟨s',f',as,rfl⟩:=DX;obtain⟨c,fo,g1,g2,g3,g4⟩:=ZY L;simp only[cH]at hp;split at hp
   .rename_i g A B hfn;obtain⟨AV,BV,e1,R,O⟩:=adM hfn (fD g3 hr);split at hp
    .cases hp;split at n
     case isFalse=>cases n
     split at n
     .rename_i v Dz z;cases n;have ym:Pw (cS m) (A.map .one++as.map (ev j)++B.map .one) (AV++c.args.map a.eval++BV).toList:=by
       have:=((QC R).append (aa2 hr g4)).append (QC O)
       simpa using this
      refine acf (aaz g1 g2 e1 (hS _ _ _ _ _ _ z).1) ((hS _ _ _ _ _ _ z).2 Z m _ hG aD rfl ym) ?_;rintro e w' ⟨val,N,rfl,rfl,q1,q2,q3,q4,q5⟩
      rw[h1]at y;exact⟨val,rfl,y _ N q1 q2 q3 q4 (SM q2 hr q5 H) (by rw[Rd,iA]) (OO _ _ _)⟩
     cases n
    split at hp<;>cases hp
   cases hp
  exact((aha L (λs f as e=>DX ⟨s,f,as,e⟩)).2 _ _ hp).elim
theorem Yn{dst anc:Nat->dZ}{base i:Nat}{o:Oper}{r:List Oper}{l:fm}(h:xk P dst anc base nt i (o::r)=some l):
  ∃x L,l=x::L/\D6 P dst ((base+i)*64) nt ((anc i).getD 0) o=some x/\xk P dst anc base nt (i+1) r=some L:=by
 simp[xk]at h
 grind
section
variable {G:World->Prop} (hG:Good G Z) {Y:jW} {D:qu} (hP:Da P G Y) (hS:GG P G D) {E:lD}
include hG hP hS
theorem akH{anc:Nat->dZ}{base:Nat}{Q:Exit->Act->World->Prop}:∀(r:List Oper) {l:fm}{i:Nat}{j X:bj}{m:aW}{F:aG}{y:fW}{a:Act},(∀n,ops[i+n]?=r[n]?)->xk P (λn=>(ops[n]?).bind (·.dst)) anc base nt i r=some l->
  je E Y D l j m.blk=some (X,F,y)->dP Z m->jN m j a.tmps->a.tmps.size=nt->Ga Z m a nt X F (λa' w'=>Q .normal a' w')->wpOps P ops Q (List.range' i (I r)) a m.w:=by
 intro r
 induction r with
 |nil=>intro l i j X m F y a _ h f aD hr u H;simp[xk]at h;subst h;obtain⟨rfl,rfl,_⟩:=f;exact H a m aD (gy.refl m) rfl rfl hr u rfl
 |cons o r ih=>
  intro l i j X m F y a O h f aD hr u H;obtain⟨x,L,rfl,h1,B⟩:=Yn h;simp only[je]at f;split at f
  .rename_i jj cK e1 T;split at f
   .rename_i dr aZ ab iW;cases f;have key:=ajD (Q:=Q) hG hP hS h1 T aD hr u (λa1 m1 k1 k2 k3 k4 k5 k6 k7=>by
     subst k4;refine ih (λn=>by have:=O (n+1);rw[show i+1+n=i+(n+1) by omega];simpa using this) B iW k1 k5 k6 ?_;intro a2 M p1 N v A z R p7;exact H a2 M p1 (k2.trans N) (v.trans k3) A z R (p7.trans k7))
    simp only[fG,List.range'_succ,wpOps,by have:=O 0;simpa using this]
    grind
   cases f
  cases f
theorem amE{anc:Nat->dZ}{base id:Nat}{Q:Exit->Act->World->Prop}{l:fm}{y:fW}{a:Act}(n:xk P (λu=>(ops[u]?).bind (·.dst)) anc base nt 0 ops.toList=some l)
  (f:je E Y D l j m.blk=some (X,F,y)) (aD:dP Z m) (hr:jN m j a.tmps) (h:a.tmps.size=nt) (H:Ga Z m a nt X F (λA w'=>Q .normal A w')):(Code.region id ops false).wp P Q a m.w:=by
 refine wp_region ?_;have:=akH hG hP hS ops.toList (λu=>aH) n f aD hr h H;rw[Xk]
 simpa using this
end
theorem azu{α β:Type}(g:Array β->α->β):∀(l:List α) (A:Array β),(l.foldl (λA o=>A.push (g A o)) A).size=A.size+I l/\
  (∀j,j<A.size->(l.foldl (λA o=>A.push (g A o)) A)[j]?=A[j]?)/\
  ∀j o,l[j]?=some o->∃pre:Array β,pre.size=A.size+j/\(∀k,k<pre.size->(l.foldl (λA o=>A.push (g A o)) A)[k]?=pre[k]?)/\(l.foldl (λA o=>A.push (g A o)) A)[A.size+j]?=some (g pre o):=by
 intro l
 induction l with
 |nil=>intro A;exact⟨rfl,λ_ _=>rfl,λj o h=>by simp at h⟩
 |cons x l y=>
  intro A;obtain⟨z,f,v⟩:=y (A.push (g A x));simp only[zg];refine⟨by rw[z];simp;omega,λj D=>?_,λj o H=>?_⟩
  .rw[f j (by simp;omega),S2,ai J]
  cases j with
  |zero=>
   simp at H;subst H;refine⟨A,J,λk B=>?_,?_⟩
   .rw[f k (by simp;omega),S2,ai J]
   grind
  |succ j=>obtain⟨pre,n,u,m⟩:=v j o (by simpa using H);refine⟨pre,by rw[n];simp;omega,u,?_⟩;rw[<-m];simp only[Array.size_push];congr 1;omega
theorem atA{α:Type}(f:α->Bool)(g:α->Nat)(h:α->Nat):∀(l:List α) (s j:Nat),(l.foldl (λs e=>if f e then s|||g e|||h e else s) s).testBit j=true->s.testBit j\/ ∃e∈l,f e/\((g e).testBit j\/(h e).testBit j):=by
 intro l
 induction l with
 |nil=>intro s j H;exact .inl H
 |cons x l u=>
  intro s j H;simp at H;rcases u _ j H with v|⟨e,n,m⟩
  .grind
  exact .inr ⟨e,by simp[n],m⟩
theorem axe(B:G5 ops){i:Nat}{o:Oper}(u:ops[i]?=some o){j:Nat}(H:(((Region.before ops)[i]?).getD 0).testBit j):
  ∃e∈o.after,Region.binds .any e/\e.on<i/\(j=e.on\/(((Region.before ops)[e.on]?).getD 0).testBit j):=by
 unfold Region.before at H |-;rw[<-XD]at H |-;obtain⟨F,E,x⟩:=azu (λ(A:Array Nat) (o:Oper)=>o.after.foldl (λs e=>if Region.binds .any e then s|||2 ^ e.on|||A.getD e.on 0 else s) 0) ops.toList #[];obtain⟨pre,n,v,m⟩:=x i o (by simpa using u);simp only[Array.size_empty,jO]at n m;rw[m]at H;simp only[nm]at H;rw[<-XD]at H;rcases atA (λe=>Region.binds .any e) (λe=>2 ^ e.on) (λe=>pre.getD e.on 0) _ _ _ H with h|⟨e,D,y,f⟩
 .simp at h
 have O:e.on<i:=by
  unfold G5 at B
  grind
 refine⟨e,by simpa using D,y,O,?_⟩;rcases f with f|f
 .left;rw[Nat.testBit_two_pow]at f;have z:e.on=j:=by simpa using f
  exact z.symm
 right;rw[v e.on J]
 simpa [IS]using f
theorem aeL{dst:Nat->dZ}{base anc:Nat}{o:Oper}{io:kE}(h:D6 P dst base nt anc o=some io):io.anc=anc:=by
 unfold D6 at h
 grind [fH]
structure am0 (P:Program) (ops:Array Oper) (base nt:Nat) (rem:List Cx) (listed:Array Bool):Prop where
 pair:rem.Pairwise λp q=>p.i<q.i/\(q.io.anc.testBit p.i\/Rt p q)
 comp:∀p∈rem,∃o,ops[p.i]?=some o/\D6 P (λj=>(ops[j]?).bind (·.dst)) ((base+p.i)*64) nt (((Region.before ops)[p.i]?).getD 0) o=some p.io
 size:listed.size=ops.size
 free:∀i:Nat,listed[i]?=some false↔ ∃p∈rem,p.i=i
 closed:∀i:Nat,listed[i]?=some true->∀j:Nat,(((Region.before ops)[i]?).getD 0).testBit j->listed[j]?=some true
theorem Xh{L:Array Bool}{i:Nat}:i∈Region.ready .any ops L↔i<ops.size/\L.getD i true=false/\ ∃o,ops[i]?=some o/\ ∀e∈o.after,Region.binds .any e->L.getD e.on false:=by
 unfold Region.ready;simp only[pg,fA,cN,ke];constructor
 .rintro ⟨h,j,H⟩
  refine⟨h,j,ops[i],by simp[h],λe m n=>?_⟩;have f:ops[i]?=some ops[i]:=by simp[h]
  rw[f]at H;simp only[vp,nm,Array.all_eq_true']at H
  grind
 grind
theorem aiD{l:Array Bool}{i:Nat}(h:l.getD i true=false):l[i]?=some false:=by
 rw[IS]at h
 grind
theorem akW{l:Array Bool}{i:Nat}(h:l.getD i false):l[i]?=some true:=by
 rw[IS]at h
 grind
section
variable {G:World->Prop} (hG:Good G Z) {Y:jW} {D:qu} (hP:Da P G Y) (hS:GG P G D) (hL:Aw D) {E:lD}
include hG hP hS hL
theorem awN(Hu:G5 ops){base:Nat}{Q:Exit->Act->World->Prop}:∀(f:Nat) {R:List Cx}{L:Array Bool}{j:bj}{m:aW}{a:Act},am0 P ops base nt R L->I R<=f->
  je E Y D (R.map (·.io)) j m.blk=some (X,F,R.map (·.e))->dP Z m->jN m j a.tmps->a.tmps.size=nt->Ga Z m a nt X F (λa' w'=>Q .normal a' w')->wpAny P .any ops Q f L a m.w:=by
 intro f
 induction f with
 |zero=>
  intro R L j m a hl H A aD hr iA hK;have WJ:R=[]:=by
   cases R with
   |nil=>rfl
   |cons _ _=>simp at H
  subst WJ;simp only[oO,je,gW,me]at A;obtain⟨rfl,rfl,_⟩:=A;refine⟨?_,hK a m aD (gy.refl m) rfl rfl hr iA rfl⟩;refine List.eq_nil_iff_forall_not_mem.2 λi hi=>?_;obtain⟨_,h2,_⟩:=Xh.1 hi;obtain⟨p,hp,_⟩:=(hl.free i).1 (aiD h2);simp at hp
 |succ f ih=>
  intro R L j m a hl H A aD hr iA hK;refine⟨λab=>?_,λi hi=>?_⟩
  .cases R with
   |nil=>simp only[oO,je,gW,me]at A;obtain⟨rfl,rfl,_⟩:=A;exact hK a m aD (gy.refl m) rfl rfl hr iA rfl
   |cons p ad=>
    exfalso;obtain⟨o,v,_⟩:=hl.comp p aH;have O:=(Array.getElem?_eq_some_iff.1 v).1;have uQ:p.i∈Region.ready .any ops L:=by
     refine Xh.2 ⟨O,?_,o,v,λe he hb=>?_⟩
     .rw[IS,(hl.free p.i).2 ⟨p,aH,rfl⟩];rfl
     have Of:e.on<p.i:=by unfold G5 at Hu;have:=mB.1 Hu p.i (by simpa using O);rw[v]at this;rw[mB]at this;have:=this e (by simpa using he);simp only[hb,CW,JU,jn]at this;exact this
     have ae:e.on<L.size:=by rw[hl.size];omega
     rw[IS];cases bZ:L[e.on]with
     |true=>simp[ae,bZ]
     |false=>
      exfalso;obtain⟨q,n,u⟩:=(hl.free e.on).1 (by simp[ae,bZ]);rcases dt.1 n with rfl|n
      .omega
      have:=((jy.1 hl.pair).1 q n).1;omega
    rw[ab]at uQ;simp at uQ
  obtain⟨h1,h2,o,v,h3⟩:=Xh.1 hi;obtain⟨p,hp,rfl⟩:=(hl.free i).1 (aiD h2);obtain⟨l1,l2,rfl⟩:=List.append_of_mem hp;obtain⟨o',oD,A4⟩:=hl.comp p hp;rw[v]at oD;cases oD;have T:∀B:Nat,p.io.anc.testBit B->L[B]?=some true:=by
   intro B z;rw[aeL A4]at z;obtain⟨e,he,hb,_,Ch⟩:=axe Hu v z;have Of:=akW (h3 e he hb);rcases Ch with rfl|Ch
   .exact Of
   exact hl.closed _ Of B Ch
  have N:=FL.1 hl.pair;have ac:∀x∈l1,Rt x p:=by
   intro x hx;rcases(N.2.2 x hx p aH).2 with h|h
   .have:=T _ h;rw[(hl.free x.i).2 ⟨x,by simp[hx],rfl⟩]at this;cases this
   exact h
  obtain⟨jj,cK,j6,iW⟩:=apK hL A ac;have key:=ajD (Q:=Q) (aY:=wpAny P .any ops Q f (L.setIfInBounds p.i true)) hG hP hS A4 j6 aD hr iA (λa1 m1 k1 k2 k3 k4 k5 k6 k7=>by
   subst k4;have O:p.i<L.size:=by rw[hl.size];exact h1
   refine ih ⟨?_,λq n=>hl.comp q (by rcases iR.1 n with h|h<;>simp[h]),by simp[hl.size],λk=>?_,λk M B z=>?_⟩ (by simp at H |-;omega) iW k1 k5 k6 ?_
   .refine FL.2 ⟨N.1,(jy.1 N.2.1).2,λx hx y hy=>N.2.2 x hx y (by simp[hy])⟩
   .rw[LL];by_cases M:p.i=k
    .subst M;rw[an rfl,an O];constructor
     .intro h;cases h
     rintro⟨q,n,u⟩
     rcases iR.1 n with h|h
     .have:=(N.2.2 q h p aH).1;omega
     have:=((jy.1 N.2.1).1 q h).1;omega
    rw[ai M,hl.free k];constructor
    .rintro ⟨q,n,u⟩
     rcases iR.1 n with h|h
     .exact⟨q,by simp[h],u⟩
     rcases dt.1 h with rfl|h
     .exact(M u).elim
     exact⟨q,by simp[h],u⟩
    rintro⟨q,n,u⟩
    rcases iR.1 n with h|h
    .exact⟨q,by simp[h],u⟩
    exact⟨q,by simp[h],u⟩
   .have xg:∀B:Nat,L[B]?=some true->(L.setIfInBounds p.i true)[B]?=some true:=by
     intro B z;rw[LL];split
     .first
       |rfl
       |(rename_i e;rw[an O])
     exact z
    by_cases sP:p.i=k
    .subst sP;refine xg B (T B ?_);rw[aeL A4];exact z
    rw[LL,ai sP]at M;exact xg B (hl.closed k M B z)
   intro a2 m2 p1 p2 p3 p4 p5 p6 p7;exact hK a2 m2 p1 (k2.trans p2) (p3.trans k3) p4 p5 p6 (p7.trans k7))
  unfold wpOp;rw[v];simp only;split at key
  .rename_i hw;rw[an hw];exact .inl key
  rename_i hw;rw[ai hw];exact key
end
def tE:Nat->fm->fW->List Cx
 |i,x::L,e::y=>⟨i,x,e⟩::tE (i+1) L y
 |_,_,_=>[]
theorem axi:∀ {L:fm}{y:fW} (i:Nat),I y=I L->(tE i L y).map (·.io)=L/\(tE i L y).map (·.e)=y:=by
 intro L
 induction L with
 |nil=>intro y i h;cases y with
  |nil=>exact⟨rfl,rfl⟩
  |cons _ _=>simp at h
 |cons x L f=>intro y i h;cases y with
  |nil=>simp at h
  |cons e y=>obtain⟨j,H⟩:=f (i+1) (by simpa using h);exact⟨by simp[tE,j],by simp[tE,H]⟩
theorem apO{o:kE}:∀ {f:fm}{j:Nat},R7 o j f->∀k x,f[k]?=some x->o.anc.testBit (j+k)\/E5 x o:=by
 intro f
 induction f with
 |nil=>intro j _ k x h;simp at h
 |cons y f m=>
  intro j h k x H;simp[R7,cN,qZ]at h;cases k with
  |zero=>simp at H;subst H;exact h.1
  |succ k=>grind
theorem axR{anc:Nat}{e:ic}:∀ {f:fW}{j:Nat},P6 anc e j f->∀k x,f[k]?=some x->anc.testBit (j+k)\/E2 x e=false:=by
 intro f
 induction f with
 |nil=>intro j _ k x h;simp at h
 |cons y f m=>
  intro j h k x H;simp[P6,cN,qZ,ke]at h;cases k with
  |zero=>simp at H;subst H;exact h.1
  |succ k=>grind
theorem apz:∀ {L:fm}{y:fW}{j:fm}{u:fW},I y=I L->I u=I j->LG L j->td L u y->
  (∀(q:Cx),q∈tE (I j) L y->∀(k:Nat) (x:kE) (e:ic),j[k]?=some x->u[k]?=some e->q.io.anc.testBit k\/(E5 x q.io/\E2 e q.e=false))/\
  (∀q∈tE (I j) L y,I j<=q.i)/\(tE (I j) L y).Pairwise λp q=>p.i<q.i/\(q.io.anc.testBit p.i\/Rt p q):=by
 intro L
 induction L with
 |nil=>
  intro y j u _ _ _ _;have:tE (I j) [] y=[]:=by cases y<;>rfl
  rw[this];exact⟨λq h=>by simp at h,λq h=>by simp at h,.nil⟩
 |cons x L E=>
  intro y j u hl hp hf A;cases y with
  |nil=>simp at hl
  |cons e y=>
   simp only[LG,cN]at hf;simp only[td,cN]at A;obtain⟨i1,i2,i3⟩:=E (by simpa using hl) (by simp[hp]) hf.2 A.2;have z:I (j++[x])=I j+1:=aH;rw[z]at i1 i2 i3;simp only[tE];refine⟨?_,?_,jy.2 ⟨?_,i3⟩⟩
   .intro q H k Y f B v;rcases dt.1 H with rfl|H
    .have n:=apO hf.1 k Y B;have m:=axR A.1 k f v;rw[jO]at n m;rcases n with n|n
     .exact .inl n
     rcases m with m|m
     .exact .inl m
     exact .inr ⟨n,m⟩
    have D:=(bd.1 B).1;exact i1 q H k Y f (by rw[sC D];exact B) (by rw[sC J];exact v)
   .intro q H;rcases dt.1 H with rfl|H
    .exact ct _
    have:=i2 q H;omega
   intro q H;refine⟨by have:=i2 q H;simp only;omega,?_⟩;exact i1 q H (I j) x e aH (by rw[<-hp];simp)
theorem ast{anc:Nat->dZ}{dst:Nat->dZ}{base:Nat}:∀ {r:List Oper}{L:fm}{y:fW}{i:Nat},xk P dst anc base nt i r=some L->I y=I L->(∀j,ops[i+j]?=r[j]?)->
  (∀p∈tE i L y,∃o,ops[p.i]?=some o/\D6 P dst ((base+p.i)*64) nt ((anc p.i).getD 0) o=some p.io)/\ ∀k,i<=k->k<i+I r->∃p∈tE i L y,p.i=k:=by
 intro r
 induction r with
 |nil=>
  intro L y i h _ _;simp[xk,gW]at h;have:tE i [] y=[]:=by cases y<;>rfl
  grind
 |cons o r n=>
  intro L y i h hl O;obtain⟨x,X,rfl,m,H⟩:=Yn h;cases y with
  |nil=>simp at hl
  |cons e y=>
   obtain⟨i1,i2⟩:=n H (by simpa using hl) (λj=>by have:=O (j+1);rw[show i+1+j=i+(j+1) by omega];simpa using this);refine⟨λp hp=>?_,λk D v=>?_⟩
   .rcases dt.1 hp with rfl|hp
    .exact⟨o,by have:=O 0;simpa using this,m⟩
    exact i1 p hp
   by_cases f:k=i
   .exact⟨⟨i,x,e⟩,by simp[tE],f.symm⟩
   obtain⟨p,hp,u⟩:=i2 k J (by grind);exact⟨p,by simp[tE,hp],u⟩
theorem axD{E:lD}:∀ {L:fm}{j X:bj}{blk F:aG}{y:fW},je E Y D L j blk=some (X,F,y)->I y=I L:=by
 intro L
 induction L with
 |nil=>intro j X blk F y h;simp only[je,gW,me]at h;rw[<-h.2.2];rfl
 |cons x L f=>
  intro j X blk F y h;simp[je]at h
  grind
theorem ark{dst anc:Nat->dZ}{base:Nat}:∀ {r:List Oper}{L:fm}{i:Nat},xk P dst anc base nt i r=some L->I L=I r:=by
 intro r
 induction r with
 |nil=>intro L i h;simp[xk,gW]at h;subst h;rfl
 |cons o r f=>intro L i h;obtain⟨x,X,rfl,_,H⟩:=Yn h;simp[f H]
section
variable {G:World->Prop} (hG:Good G Z) {Y:jW} {D:qu} (hP:Da P G Y) (hS:GG P G D) (hL:Aw D) {E:lD}
include hG hP hS hL
theorem akO(Ba:P.follows .mixedOrders){base id:Nat}{Q:Exit->Act->World->Prop}{l:fm}{y:fW}{a:Act}(u:xk P (λab=>(ops[ab]?).bind (·.dst)) (λi=>(Region.before ops)[i]?) base nt 0 ops.toList=some l)
  (Hu:G5 ops) (hf:LG l []) (f:je E Y D l j m.blk=some (X,F,y)) (v:td l [] y) (aD:dP Z m) (hr:jN m j a.tmps) (iA:a.tmps.size=nt) (hK:Ga Z m a nt X F (λR w'=>Q .normal R w')):(Code.region id ops true).wp P Q a m.w:=by
 refine wp_region_any Ba ?_;have H:=axD f;have nN:I l=ops.size:=by have:=ark u;simpa using this
 obtain⟨g1,O⟩:=axi 0 H;obtain⟨_,_,hp⟩:=apz H rfl hf v;obtain⟨c1,c2⟩:=ast (ops:=ops) u H (λab=>aH);have n:gy m (m.later m.w.drew λ_=>False):=GK (iX.drew _) λ_ h=>h.elim;have T:(m.later m.w.drew λ_=>False).fr=m.fr:=by funext c;simp[aW.later]
 refine awN hG hP hS hL Hu ops.size (R:=tE 0 l y) ⟨hp,c1,aH,λi=>?_,λi hi=>?_⟩ ?_ (by rw[g1,O];exact f) (Lo aD (iX.drew _) λ_ h=>h.elim) (hr.ev n) iA ?_
 .grind
 .grind
 .grind
 intro a2 M p1 B x A z L N;exact hK a2 M p1 (n.trans B) (x.trans T) A z L N
end
def Va:nI->Exit
 | .normal=>.normal
 | .exit i=>.exit i
 | .ret=>.ret
section
variable {G:World->Prop} (hG:Good G Z) {Y:jW} {D:qu} (hP:Da P G Y) (hS:GG P G D) (hL:Aw D) (Ba:P.follows .mixedOrders) {E:lD}
include hG hP hS hL Ba
theorem akF:∀(c:Code) {z:aQ}{j X:bj}{m:aW}{F:aG}{e:nI}{a:Act}{Q:Exit->Act->World->Prop},pI P f nt c=some z->dq E Y D n z j m.blk=some (e,X,F)->dP Z m->jN m j a.tmps->a.tmps.size=nt->
  Ga Z m a nt X F (λa' w'=>Q (Va e) a' w')->c.wp P Q a m.w:=by
 intro c
 induction c with
 |skip=>intro z j X m F e a Q H h aD hr v u;simp only[pI,gW]at H;subst H;simp only[dq,gW,me]at h;obtain⟨rfl,rfl,rfl⟩:=h;exact wp_skip (u a m aD (gy.refl m) rfl rfl hr v rfl)
 |label l=>intro z j X m F e a Q H h aD hr v u;simp only[pI,gW]at H;subst H;simp only[dq,gW,me]at h;obtain⟨rfl,rfl,rfl⟩:=h;exact wp_label (u a m aD (gy.refl m) rfl rfl hr v rfl)
 |ret=>intro z j X m F e a Q H h aD hr v u;simp only[pI,gW]at H;subst H;simp only[dq,gW,me]at h;obtain⟨rfl,rfl,rfl⟩:=h;exact wp_ret (u a m aD (gy.refl m) rfl rfl hr v rfl)
 |exit id=>intro z j X m F e a Q H h aD hr v u;simp only[pI,gW]at H;subst H;simp only[dq,gW,me]at h;obtain⟨rfl,rfl,rfl⟩:=h;exact wp_exit (u a m aD (gy.refl m) rfl rfl hr v rfl)
 |region id ops ab=>
  intro z j X m F e a Q H h aD hr v u;simp only[pI]at H;split at H
  .rename_i L H0;cases ab with
   |false=>
    simp only[gJ,if_false,gW]at H;subst H;simp only[dq]at h;split at h
    .rename_i e1 b1 y di;simp only[gJ,if_false,gW,me]at h;obtain⟨rfl,rfl,rfl⟩:=h;exact amE hG hP hS H0 di aD hr v u
    cases h
   |true=>
    simp only[if_true]at H H0;split at H
    .rename_i zL;simp only[cN]at zL;cases H;simp only[dq]at h;split at h
     .rename_i e1 b1 y di;simp only[if_true]at h;split at h
      .rename_i hd;cases h;exact akO hG hP hS hL Ba H0 zL.1 zL.2 di hd aD hr v u
      cases h
     cases h
    cases H
  cases H
 |seq x ar T ad=>
  intro z j X m F e a Q H h aD hr v u;simp only[pI]at H;split at H
  .rename_i ix iy B h2;cases H;simp only[dq]at h;refine wp_seq ?_;split at h
   .rename_i jj cK R;refine T B R aD hr v ?_;intro A M k1 k2 k3 k4 k5 k6 k7;subst k4;refine ad h2 h k1 k5 k6 ?_;intro a2 m2 p1 p2 p3 p4 p5 p6 p7;exact u a2 m2 p1 (k2.trans p2) (p3.trans k3) p4 p5 p6 (p7.trans k7)
   rename_i aN;refine T B h aD hr v ?_;intro A M k1 k2 k3 k4 k5 k6 k7;have:=u A M k1 k2 k3 k4 k5 k6 k7;cases e with
   |normal=>exact(aN X F h).elim
   |exit i=>exact this
   |ret=>exact this
  cases H
 |cond x p q ap am=>
  intro z j X m F e a Q H h aD hr v u;simp only[pI]at H;split at H
  .rename_i c' ip iq B h2 h3;cases H;simp only[dq]at h;split at h
   .rename_i t ht;have hv:=fD B hr;rw[ht]at hv;refine wp_cond (Dp hv) ?_
    grind
   cases h
  cases H
 |block id c N=>
  intro z j X m F e a Q H h aD hr v u;simp only[pI,fH]at H;obtain⟨O,B,rfl⟩:=H;simp only[dq]at h;refine wp_block ?_;split at h
  .rename_i i jj cK R;refine N B R aD hr v ?_;intro A M k1 k2 k3 k4 k5 k6 k7;simp only[Va,Exit.inBlock];split at h
   .rename_i hi;cases h;rw[an hi];exact u A M k1 k2 k3 k4 k5 k6 k7
   rename_i hi;cases h;rw[ai hi];exact u A M k1 k2 k3 k4 k5 k6 k7
  rename_i aN;refine N B h aD hr v ?_;intro A M k1 k2 k3 k4 k5 k6 k7;have:=u A M k1 k2 k3 k4 k5 k6 k7;cases e with
  |normal=>exact this
  |exit i=>exact(aN i X F h).elim
  |ret=>exact this
 |loop c N=>
  intro z j X m F e a Q H h aD hr v u;simp only[pI,fH]at H;obtain⟨O,B,rfl⟩:=H;simp only[dq]at h;refine wp_loop_rounds n ?_;have key:∀(k:Nat) {j:bj}{m:aW}{a:Act},lG (dq E Y D n O) k j m.blk=some (e,X,F)->dP Z m->jN m j a.tmps->a.tmps.size=nt->Ga Z m a nt X F (λa' w'=>Q (Va e) a' w')->Code.rounds P c Q k a m.w:=by
   intro k
   induction k with
   |zero=>intro j m a h;simp[lG]at h
   |succ k ac=>
    intro j m a h aD hr v u;rw[rounds_succ];simp only[lG]at h;split at h
    .rename_i jj cK R;refine N B R aD hr v ?_;intro A M k1 k2 k3 k4 k5 k6 k7;subst k4;refine ac h k1 k5 k6 ?_;intro a2 m2 p1 p2 p3 p4 p5 p6 p7;exact u a2 m2 p1 (k2.trans p2) (p3.trans k3) p4 p5 p6 (p7.trans k7)
    rename_i aN;refine N B h aD hr v ?_;intro A M k1 k2 k3 k4 k5 k6 k7;have:=u A M k1 k2 k3 k4 k5 k6 k7;cases e with
    |normal=>exact(aN X F h).elim
    |exit i=>exact this
    |ret=>exact this
  exact key n h aD hr v u
 |scope c N=>intro z j X m F e a Q H h aD hr v u;simp only[pI]at H;refine wp_scope_straight ?_;refine N H h aD hr v ?_;intro A M k1 k2 k3 k4 k5 k6 k7;have:=u A M k1 k2 k3 k4 k5 k6 k7;cases e<;>exact this
 |_=>intro z j X m F e a Q H h;simp only[pI,gW]at H;subst H;simp[dq]at h
end
section
variable{m:aW}
theorem amj{k:dZ}{D:dY}{v:V}{u:Value}(h:sf k D=some v)(hr:cS m v u):oT m v u:=by
 unfold sf at h;split at h
 .split at h
  .cases h;exact hr
  cases h
 split at h
 .cases h;exact hr
 cases h
theorem ao1{v:V}{u:Value}(h:QE x=some v)(hr:cS m x u):oT m v u:=by cases x<;>simp[QE,gW,reduceCtorEq]at h<;>subst h<;>exact hr
theorem ahP{α β:Type}{f:α->Sem β}{x:α}{L:List α}{y:β}{ys:List β}{w:World}(H:(f x).run P w=.ok y w)(h:(L.mapM f).run P w=.ok ys w):((x::L).mapM f).run P w=.ok (y::ys) w:=by simp_all
theorem amR{al:bU}(aD:dP Z m){tmps:Array Value}(hr:jN m j tmps):∀ {R:List ResultVar}{l:List (Nat×Option dZ)}{h:dC},A8 P R=some l->qd al j m.blk l=some h->
  ∃ys,(R.mapM (λ| .tmp t=>pure (tmps.getD t undef)| .cell a t=>do loadVar t (<-asAddr (tmps.getD a undef)):ResultVar->Sem Value)).run P m.w=.ok ys m.w/\Pw (oT m) h ys:=by
 intro R
 induction R with
 |nil=>intro l h f H;simp only[A8,gW]at f;subst f;simp only[qd,gW]at H;subst H;exact⟨[],by simp[Sem.run_pure],rfl,λM x u p=>by simp at p⟩
 |cons r R F=>
  intro l h f H;have cons:∀ {x:V}{L:dC}{y:Value}{ys:List Value},oT m x y->Pw (oT m) L ys->Pw (oT m) (x::L) (y::ys):=by
   intro x L y ys p q;refine⟨by simp[q.1],λM z u a b=>?_⟩;cases M with
   |zero=>simp at a b;subst a b;exact p
   |succ M=>exact q.2 M z u (by simpa using a) (by simpa using b)
  cases r with
  |tmp t=>
   simp only[A8,fH]at f;obtain⟨l',T,rfl⟩:=f;simp only[qd]at H;split at H
   .rename_i v q A E;cases H;obtain⟨ys,g1,n⟩:=F T E;exact⟨_::ys,ahP (by simp[Sem.run_pure]) g1,cons (ao1 A (hr t)) n⟩
   cases H
  |cell a t=>
   simp only[A8]at f;split at f
   .rename_i k q A E;cases f;simp only[qd]at H;split at H
    .rename_i D rd ws X Y;split at H
     case isFalse=>cases H
     simp only[fH]at H;obtain⟨v,B,rfl⟩:=H;obtain⟨ys,g1,n⟩:=F E Y;obtain⟨ad,y,Q,O,N⟩:=adY A (ajz aD X (hr a)) B;exact⟨y::ys,ahP (by simp[Q,asAddr,O]) g1,cons (amj B N) n⟩
    cases H
   cases f
theorem anY{al:bU}(aD:dP Z m){tmps:Array Value}(hr:jN m j tmps){fn:Func}{l:List (Nat×Option dZ)}{h:dC}(z:A8 P fn.results.toList=some l)(H:qd al j m.blk l=some h):
  ∃y,(results fn tmps).run P m.w=.ok y m.w/\cS m (Ac h) y:=by
 obtain⟨ys,g1,f⟩:=amR aD hr z H;have mN:(results fn tmps).run P m.w=.ok (if B:ys.toArray.size=1 then ys.toArray[0]else .tuple ys.toArray) m.w:=by
  unfold results;simp only[Array.mapM_eq_mapM_toList,map_eq_pure_bind,Sem.run_bind,Result.andThen_ok,Sem.run_pure,bind_assoc,pure_bind]
  erw[g1]
  simp_all
 refine⟨_,mN,?_⟩
 match h,ys,f with
 |[v],[y],f=>exact cS.of1 (f.2 0 v y rfl rfl)
 |[],[],f=>exact⟨_,rfl,rfl,λA x u p=>by simp at p⟩
 |v::n::h,y::y'::ys,f=>refine⟨_,rfl,by simpa using f.1,λA x u p q=>f.2 A x u p (by grind)⟩
 |[],y::ys,f=>exact absurd f.1 aH
 |v::h,[],f=>exact absurd f.1 aH
 |[v],y::y'::ys,f=>exact absurd f.1 aH
 |v::n::h,[y],f=>exact absurd f.1 aH
theorem ab7{fn:aV}(h:DF P f=some fn):∃j c,P.funcs[f]?=some j/\j.body=some c/\(j.name== "runtime.NumGoroutine")=false/\pI P f j.ntmps c=some fn.body/\A8 P j.results.toList=some fn.results/\fn.ntmps=j.ntmps:=by
 unfold DF at h
 grind
def ZM(S:Sys)(G:World->Prop):Prop:=∀f h r,S.prim f h=some (some r)->Enters S.P f/\ ∀(w:World) (O:Nat->Prop) (T:Array Value),Good G w->(∀c,O c->c<w.heap.size)->Pw (tv w O) h T.toList->Calls S.P f T w (xP w O r)
def aaL(S:Sys)(G:World->Prop):Prop:=∀f h al blk v F,S.trig f h->(S.primS f h al blk).map (λr=>(r.1,app r.2 blk))=some (v,F)->
 (Enters S.P f/\ ∀(Z:World) (m:aW) (T:Array Value),Good G Z->dP Z m->m.blk=blk->Pw (cS m) h T.toList->Calls S.P f T m.w (Bv Z m v F))/\
 (∀id,al.ok id=false->F id=blk id)/\
 ∀aZ,(∀id,al.ok id->aZ id=blk id)->∃M,(S.primS f h al aZ).map (λr=>(r.1,app r.2 aZ))=some (v,M)/\ ∀id,M id=if al.ok id then F id else aZ id
structure Jd (S:Sys) (G:World->Prop):Prop where
 follow:S.P.follows .mixedOrders
 fns:∀f fn,S.fns f=some fn->DF S.P f=some fn
 prim:ZM S G
 primS:aaL S G
theorem arA{h:dC}(n:Pw (cS m) h T.toList)(hl:I h<=nt):jN m (rl h) (T++Array.replicate (nt-T.size) undef)/\(T++Array.replicate (nt-T.size) undef).size=nt:=by
 have ae:T.size=I h:=by simpa using n.1
 constructor
 .intro t;by_cases H:t<I h
  .have f:rl h t=h[t]:=by simp[rl,List.getD,H]
   have j:(T++Array.replicate (nt-T.size) undef).getD t undef=T[t]:=by simp[IS,Array.getElem?_append,ae,H]
   rw[f,j];exact n.2 t _ _ (by simp[H]) aH
  have f:rl h t=.undef:=by simp[rl,List.getD,kQ (Nat.le_of_not_lt H)]
  have j:(T++Array.replicate (nt-T.size) undef).getD t undef=undef:=by
   simp
   grind
  rw[f,j];rfl
 simp;omega
theorem ap4(aD:dP Z m):∀ {o q:aC},n9 o q->(∀id∈o,∃O,(m.blk id).2=some O/\O.gT)->(o.map m.σ).Nodup/\ ∀id∈q,id∉o:=by
 intro o
 induction o with
 |nil=>intro q _ _;exact⟨aH,λid _ h=>by simp at h⟩
 |cons i o D=>
  intro q h n;simp[n9,cN,ke]at h;obtain⟨⟨E,F⟩,x⟩:=h;obtain⟨i1,i2⟩:=D x (λid H=>n id (by simp[H]));have M:i∉o:=by simpa using E
  refine⟨?_,λid H=>?_⟩
  .rw[eQ,qH];refine⟨λv=>?_,i1⟩;obtain⟨j,u,y⟩:=cD.1 v;obtain⟨O,A,z⟩:=n i aH;obtain⟨f,B,b2⟩:=n j (by simp[u]);exact M (aD.inj j i f O B b2 A z y▸u)
  grind
theorem az9{blk:aG}:∀ {D:dY}{R:ns}{o q:aC},nE blk D=some (R,o,q)->I R=I D:=by
 intro D
 induction D with
 |nil=>intro R o q h;simp[nE,gW,me]at h;obtain⟨rfl,_⟩:=h;rfl
 |cons c D f=>
  intro R o q h;simp[nE]at h
  grind
theorem ZR{α β:Type}{f:α->Option (β×aC)}:∀ {L:List α}{ys:List β}{r:aC},gO f L=some (ys,r)->∀id∈r,∃x y q,f x=some (y,q)/\id∈q:=by
 intro L
 induction L with
 |nil=>intro ys r h id H;simp[gO]at h;rw[h.2]at H;simp at H
 |cons x L j=>
  intro ys r h id H;simp[gO]at h
  grind
theorem ayX{blk:aG}:∀ {n:Nat}{c:a7}{x:PV}{r:aC},snap blk n c=some (x,r)->∀id∈r,∃O,(blk id).2=some O:=by
 intro n
 induction n with
 |zero=>intro c x r h;simp[snap]at h
 |succ n z=>
  intro c x r h id H;have one:∀ {i:Nat}{O:fZ}{g:Nat},blk i=(g,some O)->id∈[i]->∃O,(blk id).2=some O:=by intro i O g f m;simp at m;subst m;exact⟨O,by rw[f]⟩
  have j:∀ {D:dY}{ps:dF}{r:aC},gO (snap blk n) D=some (ps,r)->id∈r->∃O,(blk id).2=some O:=by intro D ps r h m;obtain⟨x,y,q,v,u⟩:=ZR h id m;exact z v id u
  unfold snap at h;split at h
  .cases h;simp at H
  .grind
  .grind
  .split at h
   .rename_i f;split at h
    .cases h;exact one f H
    cases h
   .rename_i f;split at h
    .cases h;exact one f H
    cases h
   .rename_i f;split at h
    .split at h
     .rename_i A;cases h;rcases dt.1 H with e|H
      .exact one f (by simp[e])
      obtain⟨x,y,q,v,u⟩:=ZR A id H;exact j v u
     cases h
    cases h
   cases h
  .grind
  grind
theorem auk{blk:aG}:∀ {D:dY}{R:ns}{o q:aC},nE blk D=some (R,o,q)->∀id∈q,∃O,(blk id).2=some O:=by
 intro D
 induction D with
 |nil=>intro R o q h id H;simp only[nE,gW,me]at h;rw[<-h.2.2]at H;simp at H
 |cons c D u=>
  intro R o q h id H;simp[nE]at h;split at h
  .rename_i x z Q L os A f j;cases h;rcases iR.1 H with H|H
   .have dO:(snap blk iC c).map (λ(v,r)=>((.p v:l6),([]:aC),r))=some (x,z,Q)->∃O,(blk id).2=some O:=by
     intro f;simp only[fH]at f;obtain⟨⟨y,r⟩,m,n⟩:=f;cases n;exact ayX m id H
    unfold l7 at f
    grind
   exact u j id H
  cases h
theorem apj{w:World}{Z:aW}(aD:dP w m)(A:gy Z m)(qR:Z.w=w)(X:∀c,¬Z.gT c)(tV:m.fr=O){v:V}{r:RV}(y:lr m.blk v=some r)(hr:cS m v val):xP w O r (.returned val) m.w:=by
 unfold lr at y;split at y
 .rename_i D dK;split at y
  .rename_i rs o q L;split at y
   .rename_i zI;cases y;obtain⟨h,x,fS⟩:=aoV dK hr;obtain⟨g1,g2⟩:=fS rs (az9 L);have M:=(agn aD (Q:=λ_=>False) (λ_ y=>y.elim) L x (λ_ _ y=>y)).2;obtain⟨fJ,ab⟩:=ap4 aD zI M;have B:∀b,(O b\/b∈o.map m.σ)->m.own b:=by
     intro b z;rcases z with z|z
     .exact .inl (tV▸z)
     obtain⟨id,H,rfl⟩:=cD.1 z;obtain⟨f,F,R⟩:=M id H;exact .inr ⟨id,f,F,R,rfl⟩
    have hq:∀id∈q,¬(O (m.σ id)\/m.σ id∈o.map m.σ):=by
     intro id H u;obtain⟨f,n⟩:=auk L id H;by_cases Y:f.gT
     .rcases u with u|u
      .exact(aD.gh id f n Y).2 (tV▸u)
      obtain⟨j,hj,he⟩:=cD.1 u;obtain⟨ac,b1,b2⟩:=M j hj;exact ab id H (aD.inj j id ac f b1 b2 n Y he▸hj)
     have E:¬m.own (m.σ id):=by
      have N:=aD.obj id f n;cases f<;>simp[fZ.gT]at Y
      .obtain⟨_,_,_,_,_,E⟩:=N;exact E
      .obtain⟨_,_,_,_,_,_,_,_,_,E⟩:=N;exact E
      obtain⟨_,_,_,_,_,E⟩:=N;exact E
     exact E (B _ u)
    obtain⟨T,_⟩:=agn aD B L x hq;subst qR;refine⟨val,o.map m.σ,rfl,⟨A.os,A.tape,A.output,A.size,λc x=>A.keep c x (X c)⟩,fJ,λc x=>?_,h,g2,by rw[g1];exact T⟩;obtain⟨id,H,rfl⟩:=cD.1 x;obtain⟨f,F,R⟩:=M id H;exact⟨(aD.gh id f F R).1,(aD.obj id f F).lt⟩
   cases y
  cases y
 cases y
theorem tv.vrel{w:World}(H:m.w=w)(f:m.own=O)(h:tv w O x v):cS m x v:=by
 subst H f;cases x with
 |undef=>exact h.elim
 |tup _=>exact h.elim
 |one c=>
  cases c with
  |p x=>exact nM h
  |_=>exact h.elim
 |agg D=>obtain⟨arr,ps,rfl,rfl,hp⟩:=h;exact cS.agg.2 ⟨arr,rfl,hp.ER⟩
theorem ayM{E:lD}{fn:aV}{T:dC}{blk:aG}{v:V}(H:qC E Y D n fn T blk=some (v,F)):
  ∃e j h,dq E Y D n fn.body (rl T) blk=some (e,j,F)/\(e=.normal\/e=.ret)/\qd E.al j F fn.results=some h/\v=Ac h:=by
 unfold qC at H
 grind [fH]
theorem ajg{G:World->Prop}(hG:Good G Z)(hP:Da P G Y)(hS:GG P G D)(hL:Aw D)(Ba:P.follows .mixedOrders){E:lD}{fn:aV}(hc:DF P f=some fn){h:dC}{m:aW}{v:V}(ab:qC E Y D n fn h m.blk=some (v,F))
  (hl:I h<=fn.ntmps) (aD:dP Z m) (X:Pw (cS m) h T.toList):Calls P f T m.w (Bv Z m v F):=by
 obtain⟨u,c,L,H,h3,B,N,h6⟩:=ab7 hc;obtain⟨e,j,rs,R,he,O,rfl⟩:=ayM ab;refine calls_of_wp L H ?_;obtain⟨Q,z⟩:=arA (nt:=u.ntmps) X J;refine akF hG hP hS hL Ba c B R aD Q z ?_;intro A M k1 k2 k3 k4 k5 k6 k7;subst k4;obtain⟨y,g1,x⟩:=anY k1 k5 N O;have:bodyPost P u (Bv Z m _ M.blk) .normal A M.w:=⟨k7,y,g1,y,M,rfl,rfl,k1,k2,k3,rfl,x⟩;rcases he with rfl|rfl
 .exact this
 exact this
theorem enters_of{fn:aV}(n:DF P f=some fn):Enters P f:=by obtain⟨m,c,H,h,j,_⟩:=ab7 n;exact⟨m,c,H,h,j⟩
theorem sound{S:Sys}{G:World->Prop}(y:Jd S G):∀n,Da S.P G (jR S n)/\GG S.P G (jf S n)/\Aw (jf S n):=by
 intro n
 induction n with
 |zero=>exact⟨λf h r y=>by simp[jR]at y,λf h al blk v F y=>by simp[jf]at y,λf h al blk v F y=>by simp[jf]at y⟩
 |succ n ih=>
  obtain⟨hP,hS,hL⟩:=ih;refine⟨?_,?_,?_⟩
  .intro f h r H;rw[jR]at H;split at H
   .rename_i r' hp;subst H;exact y.prim f h r hp
   split at H
   .rename_i fn hfn;have A:=y.fns f fn hfn;split at H
    .rename_i hl;refine⟨enters_of A,λw O T hG hO B=>?_⟩;unfold Dx at H;split at H
     .rename_i v F hr
      let m0:aW:=⟨w,zV,λ_=>0,λ_=>0,O⟩
      have M:m0.own=O:=by
       funext c;apply propext;constructor
       .rintro (y|⟨id,o,y,_⟩)
        .exact y
        cases y
       exact .inl
      refine(ajg hG hP hS hL y.follow A hr hl ⟨rfl,rfl,rfl,ct _,λ_ _=>rfl,(λid o y=>by cases y),(λid o y=>by cases y),hO,(λid fV o o' y=>by cases y)⟩ ⟨B.1,λj x u p q=>(B.2 j x u p q).vrel rfl M⟩).mono ?_;rintro e w' ⟨val,m',rfl,rfl,Y,q2,q3,q4,q5⟩
      subst q4;exact apj Y q2 rfl (λc ⟨id,o,y,_⟩=>by cases y) q3 H q5
     cases H
    cases H
   cases H
  .intro f h al blk v F H;rw[jf]at H;by_cases z:S.trig f h
   .rw[an z]at H;exact(y.primS f h al blk v F z H).1
   rw[ai z]at H;split at H
   .rename_i fn hfn;have A:=y.fns f fn hfn;split at H
    .rename_i hl;refine⟨enters_of A,λZ m T hG aD X B=>?_⟩;subst X;exact ajg hG hP hS hL y.follow A H hl aD B
    cases H
   cases H
  intro f h al blk v F H;rw[jf]at H;by_cases z:S.trig f h
  .rw[an z]at H;obtain⟨_,Q,R⟩:=y.primS f h al blk v F z H;refine⟨Q,λaZ D=>?_⟩;obtain⟨E,N,L⟩:=R aZ D;exact⟨E,by rw[jf,an z];exact N,L⟩
  rw[ai z]at H;split at H
  .rename_i fn hfn;split at H
   .rename_i hl;obtain⟨Q,R⟩:=aAh hL H;refine⟨Q,λaZ D=>?_⟩;obtain⟨E,N,L⟩:=R aZ D;exact⟨E,by rw[jf,ai z];simp only[hfn,hl,if_true];exact N,L⟩
   cases H
  cases H
theorem aI.calls{S:Sys}{G:World->Prop}(H:Jd S G){h:dC}{r:RV}(m:aI S f h r)(w:World)(hG:Good G w)(T:Array Value)(j:Pw (tv w λ_=>False) h T.toList):Calls S.P f T w (xP w (λ_=>False) r):=by obtain⟨n,u⟩:=m;exact((sound H n).1 f h r u).2 w _ T hG (λc H=>H.elim) j
end
section
variable{T:dC}{Y:jW}{E:lD}{D:qu}
theorem ajG(h:n<=9223372036854775807):IntKind.i64.wrap (n:Int)=n:=by
 have e:(2 ^ IntKind.i64.bits:Int)=18446744073709551616:=aa;have E:(2 ^ (IntKind.i64.bits-1):Int)=9223372036854775808:=aa;unfold IntKind.wrap
 grind
inductive eJ where
 |leaf
 |node (v:V) (l r:eJ)
noncomputable def eJ.get (t:eJ):Nat->V:=eJ.rec (motive:=λ_=>Nat->V) (λ_=>.undef) (λv _ _ f gY n=>bif Nat.beq n 0 then v else bif Nat.beq (Nat.mod n 2) 1 then f (Nat.div n 2)else gY (Nat.sub (Nat.div n 2) 1)) t
noncomputable def eJ.single (k:Nat):Nat->V->eJ:=Nat.rec (motive:=λ_=>Nat->V->eJ) (λ_ _=>.leaf) (λ_ f n x=>bif Nat.beq n 0 then .node x .leaf .leaf else bif Nat.beq (Nat.mod n 2) 1 then .node .undef (f (Nat.div n 2) x) .leaf else .node .undef .leaf (f (Nat.sub (Nat.div n 2) 1) x)) k
noncomputable def eJ.set (t:eJ):Nat->V->eJ:=eJ.rec (motive:=λ_=>Nat->V->eJ) (λn x=>eJ.single 12 n x) (λv l r sl f n x=>bif Nat.beq n 0 then .node x l r else bif Nat.beq (Nat.mod n 2) 1 then .node v (sl (Nat.div n 2) x) r else .node v l (f (Nat.sub (Nat.div n 2) 1) x)) t
theorem Jb{a b:Nat}(h:a≠b):Nat.beq a b=false:=by grind [xC]
theorem azM(n:Nat):eJ.leaf.get n=.undef:=rfl
theorem RI(v:V)(l r:eJ)(n:Nat):(eJ.node v l r).get n=if n=0 then v else if n%2=1 then l.get (n/2)else r.get (n/2-1):=by
 show(bif Nat.beq n 0 then v else bif Nat.beq (n%2) 1 then l.get (n/2)else r.get (n/2-1))=_;by_cases h:n=0
 .subst h;rfl
 simp_all
theorem acL(f:eJ->eJ)(g:eJ->eJ)(v:V)(l r:eJ)(n m:Nat)(x:V)(hl:n%2=1->(f l).get (m/2)=if m/2=n/2 then x else l.get (m/2))(hr:n≠0->n%2≠1->(g r).get (m/2-1)=if m/2-1=n/2-1 then x else r.get (m/2-1)):
  (bif Nat.beq n 0 then eJ.node x l r else bif Nat.beq (n%2) 1 then .node v (f l) r else .node v l (g r)).get m=if m=n then x else(eJ.node v l r).get m:=by
 by_cases H:n=0
 .subst H;simp[J6,cond_true,RI]
  grind
 rw[Jb H];by_cases h:n%2=1
 .rw[h];simp[cond_false,J6,cond_true,RI]
  grind
 rw[Jb h];simp[cond_false,RI]
 grind
theorem amt:∀(k n m:Nat) (x:V),n+1<2 ^ k->(eJ.single k n x).get m=if m=n then x else eJ.leaf.get m:=by
 intro k
 induction k with
 |zero=>intro n m x h;simp at h
 |succ k f=>
  intro n m x h;have:=acL (λ_=>eJ.single k _ x) (λ_=>eJ.single k _ x) .undef .leaf .leaf n m x (λ_=>f _ _ _ J) (λ_ _=>f _ _ _ J);have e:(eJ.node .undef .leaf .leaf).get m=eJ.leaf.get m:=by rw[RI];simp[azM]
  rwa[e]at this
theorem eJ.aeh:∀(t:eJ) (n m:Nat) (x:V),n+1<2 ^ 12->(t.set n x).get m=if m=n then x else t.get m:=by
 intro t
 induction t with
 |leaf=>intro n m x h;exact amt 12 n m x h
 |node v l r j f=>intro n m x h;exact acL (λl=>l.set (n/2) x) (λr=>r.set (n/2-1) x) v l r n m x (λ_=>j _ _ _ J) (λ_ _=>f _ _ _ J)
abbrev BL:=List (Nat×(Nat×Option fZ))
noncomputable def CX (b:BL) (n:Nat):Nat×Option fZ:=List.rec (motive:=λ_=>Nat×Option fZ) (0,none) (λp _ f=>bif Nat.beq p.1 n then p.2 else f) b
noncomputable def J7:BL->Nat->Nat×Option fZ->BL
 |[],n,x=>[(n,x)]
 |(i,o)::r,n,x=>bif Nat.beq i n then(i,x)::r else(i,o)::J7 r n x
theorem ak9:∀(b:BL) (n:Nat) (x:Nat×Option fZ) (m:Nat),CX (J7 b n x) m=if m=n then x else CX b m:=by
 intro b
 induction b with
 |nil=>
  intro n x m;simp only[J7,CX];by_cases h:m=n
  .subst h;simp
  have:=Jb λe=>h e.symm;simp[this,h]
 |cons p b f=>
  obtain⟨i,o⟩:=p;intro n x m;simp[J7];by_cases h:i=n
  .subst h;simp only[J6,cond_true,CX];by_cases H:m=i
   .subst H;simp
   have:=Jb λe=>H e.symm;simp[this,H]
  have:=Jb h;simp only[this,cond_false,CX];by_cases H:i=m
  .subst H;simp[h]
  have:=Jb H;simp[this,cond_false];exact f n x m
noncomputable def pY (t:eJ):bj:=λi=>t.get i
noncomputable def lg (b:BL):aG:=λi=>CX b i
noncomputable def H3:Nat->dC->eJ->eJ
 |_,[],t=>t
 |i,a::r,t=>H3 (i+1) r (t.set i a)
theorem axf:∀(l:dC) (i:Nat) (t:eJ) (m:Nat),i+I l<4095->(H3 i l t).get m=if i<=m/\m<i+I l then l.getD (m-i) .undef else t.get m:=by
 intro l
 induction l with
 |nil=>intro i t m _;simp[H3];intro j H;omega
 |cons a r f=>
  intro i t m h;simp at h |-;rw[H3,f _ _ m J,eJ.aeh t i m a J]
  grind
theorem anX(h:I T<4095):pY (H3 0 T .leaf)=rl T:=by
 funext m;unfold pY rl;rw[axf T 0 .leaf m J];by_cases H:m<I T
 .grind
 rw[ai J];simp[eJ.get,List.getD,kQ (Nat.le_of_not_lt H)]
noncomputable def UR {α:Type} (n:Nat) (k:Nat->α):α:=match n with
 |0=>k 0
 |m+1=>k (m+1)
noncomputable def VQ {α:Type} (z:Int) (k:Int->α):α:=match z with
 | .ofNat n=>UR n λn=>k (.ofNat n)
 | .negSucc n=>UR n λn=>k (.negSucc n)
noncomputable def VX {α:Type} (v:V) (k:V->α):α:=match v with
 | .one (.p (.int t z))=>VQ z λz=>k (.one (.p (.int t z)))
 | .one (.p (.bool b))=>match b with
  |true=>k (.one (.p (.bool true)))
  |false=>k (.one (.p (.bool false)))
 |v=>k v
@[simp] theorem aAt {α:Type} (n:Nat) (k:Nat->α):UR n k=k n:=by cases n<;>rfl
@[simp] theorem aAp {α:Type} (z:Int) (k:Int->α):VQ z k=k z:=by cases z<;>simp[VQ]
@[simp] theorem asA {α:Type} (v:V) (k:V->α):VX v k=k v:=by
 unfold VX;split
 .simp
 .split<;>rfl
 rfl
def R_(al:bU)(l:aC):Bool:=bif al.any then true else al.iJ l
theorem ar1(al:bU)(l:aC):R_ al l=al.iJ l:=by
 unfold R_;cases h:al.any with
 |false=>rfl
 |true=>simp[bU.iJ,bU.ok,h]
abbrev pM:=Nat->dC->bU->BL->Option (V×BL)
noncomputable def Fj:jU->BL->BL
 |[],b=>b
 |(i,o)::r,b=>Fj r (J7 b i o)
theorem U1:∀(u:jU) (b:BL),lg (Fj u b)=app u (lg b):=by
 intro u
 induction u with
 |nil=>intro b;rfl
 |cons x u f=>obtain⟨i,o⟩:=x;intro b;simp[Fj,app];rw[f];congr 1;funext m;exact ak9 b i o m
noncomputable def Hi (t:eJ) (d:dZ) (v:V) (k:eJ->Option (eJ×BL×ic)):Option (eJ×BL×ic):=match d with
 |none=>k t
 |some n=>bif Nat.ble n 4000 then VX v λv=>k (t.set n v)else none
noncomputable def Rm (E:lD) (Y:jW) (D:pM) (o:kE) (t:eJ) (b:BL):Option (eJ×BL×ic):=
 match rj (pY t) o.guard with
 |none=>none
 |some false=>Hi t o.dst .undef λT=>some (T,b,⟨[],[],[]⟩)
 |some true=>match cH E.shared (pY t) (lg b) o.op with
  | .fail=>none
  | .done v u r=>bif R_ E.al (r++u.map (·.1))then Hi t o.dst v λT=>some (T,Fj u b,⟨r,u.map (·.1),[]⟩)else none
  | .pc f h r s=>match Y f h with
   |some x=>match fR (lg b) r s (x.ib (E.lone s))with
    |some (v,u)=>bif R_ E.al (r++u.map (·.1))then Hi t o.dst v λT=>some (T,Fj u b,⟨r++u.map (·.1),u.map (·.1),[]⟩)else none
    |none=>none
   |none=>none
  | .sc f h=>match iH E f h (lg b)with
   |al=>bif E.al.holds al then
     match D f h al b with
     |some (v,M)=>Hi t o.dst v λT=>some (T,M,⟨al.ids,al.ids,al.fs⟩)
     |none=>none
    else none
noncomputable def Ib (D:qu) (j:pM):Prop:=∀f h al b v M,j f h al b=some (v,M)->D f h al (lg b)=some (v,lg M)
theorem Q0{t T:eJ}{d:dZ}{v:V}{b M:BL}{e e':ic}(h:Hi t d v (λT=>some (T,b,e))=some (T,M,e')):ef (pY t) d v=pY T/\b=M/\e=e':=by
 unfold Hi at h;split at h
 .cases h;exact⟨rfl,rfl,rfl⟩
 rename_i n;cases H:Nat.ble n 4000 with
 |false=>rw[H]at h;cases h
 |true=>rw[H]at h;simp only[cond_true,asA]at h;cases h;refine⟨?_,rfl,rfl⟩;have:=jx H;funext m;exact(eJ.aeh t n m v J).symm
theorem asI{n:pM}(ae:Ib D n){o:kE}{t T:eJ}{b M:BL}{e:ic}(H:Rm E Y n o t b=some (T,M,e)):lq E Y D o (pY t) (lg b)=some (pY T,lg M,e):=by
 unfold Rm at H;simp only[ar1]at H;unfold lq;split at H
 .cases H
 .rename_i m;rw[m];obtain⟨j,rfl,rfl⟩:=Q0 H;simp only[j]
 rename_i m;rw[m];simp only;split at H
 .cases H
 .rename_i v u r hp;cases aD:E.al.iJ (r++u.map (·.1))with
  |false=>rw[aD]at H;cases H
  |true=>rw[aD]at H;obtain⟨j,rfl,rfl⟩:=Q0 H;simp only[hp,aD,if_true,j,U1]
 .rename_i f h r s hp;split at H
  .rename_i x y;split at H
   .rename_i v u hl;cases aD:E.al.iJ (r++u.map (·.1))with
    |false=>rw[aD]at H;cases H
    |true=>rw[aD]at H;obtain⟨j,rfl,rfl⟩:=Q0 H;simp only[hp,y,hl,aD,if_true,j,U1]
   cases H
  cases H
 rename_i f h hp;cases aD:E.al.holds (iH E f h (lg b))with
 |false=>rw[aD]at H;cases H
 |true=>
  rw[aD]at H;split at H
  .rename_i v B z;obtain⟨j,rfl,rfl⟩:=Q0 H;simp only[hp,aD,if_true,ae _ _ _ _ _ _ z,j]
  cases H
noncomputable def aty (E:lD) (Y:jW) (D:pM) (o:kE) (h:eJ->BL->Option (eJ×BL×fW)) (j:eJ) (blk:BL):Option (eJ×BL×fW):=
 match Rm E Y D o j blk with
 |some (X,F,e)=>match h X F with
  |some (m,f,y)=>some (m,f,e::y)
  |none=>none
 |none=>none
noncomputable def H9 (E:lD) (Y:jW) (D:pM) (l:fm):eJ->BL->Option (eJ×BL×fW):=List.rec (motive:=λ_=>eJ->BL->Option (eJ×BL×fW)) (λj blk=>some (j,blk,[])) (λo _ f=>aty E Y D o f) l
theorem aqQ(E:lD)(Y:jW)(D:pM)(j:eJ)(blk:BL):H9 E Y D [] j blk=some (j,blk,[]):=rfl
theorem ax2(E:lD)(Y:jW)(D:pM)(o:kE)(r:fm)(j:eJ)(blk:BL):H9 E Y D (o::r) j blk=match Rm E Y D o j blk with
  |some (X,F,e)=>match H9 E Y D r X F with
   |some (h,f,y)=>some (h,f,e::y)
   |none=>none
  |none=>none:=rfl
theorem aw7{f:pM}(ae:Ib D f):∀ {ops:fm}{t T:eJ}{b M:BL}{y:fW},H9 E Y f ops t b=some (T,M,y)->je E Y D ops (pY t) (lg b)=some (pY T,lg M,y):=by
 intro ops
 induction ops with
 |nil=>intro t T b M y h;simp[aqQ,gW,me]at h;obtain⟨rfl,rfl,rfl⟩:=h;rfl
 |cons o r j=>
  intro t T b M y h;simp[ax2]at h;split at h
  .rename_i v B x n;split at h
   .rename_i u b2 m H;cases h;simp[je,asI ae n,j H]
   cases h
  cases h
noncomputable def MX (f:eJ->BL->Option (nI×eJ×BL)) (n:Nat):eJ->BL->Option (nI×eJ×BL):=
 Nat.rec (motive:=λ_=>eJ->BL->Option (nI×eJ×BL)) (λ_ _=>none) (λ_ h j blk=>match f j blk with
  |some (.normal,X,F)=>h X F
  |r=>r) n
theorem ap0(f:eJ->BL->Option (nI×eJ×BL))(n:Nat)(j:eJ)(blk:BL):MX f (n+1) j blk=match f j blk with
  |some (.normal,X,F)=>MX f n X F
  |r=>r:=rfl
abbrev Bl:=eJ->BL->Option (nI×eJ×BL)
noncomputable def az8 (E:lD) (Y:jW) (D:pM) (d:Bool) (ops:fm):Bl:=λj blk=>match H9 E Y D ops j blk with
  |some (X,F,y)=>bif d then(bif td ops [] y then some (.normal,X,F)else none)else some (.normal,X,F)
  |none=>none
noncomputable def amz (a b:Bl):Bl:=λj blk=>match a j blk with
  |some (.normal,X,F)=>b X F
  |r=>r
noncomputable def arN (x:eX) (a b:Bl):Bl:=λj blk=>match ev (pY j) x with
  | .one (.p (.bool t))=>bif t then a j blk else b j blk
  |_=>none
noncomputable def ath (id:Nat) (c:Bl):Bl:=λj blk=>match c j blk with
  |some (.exit i,X,F)=>bif Nat.beq i id then some (.normal,X,F)else some (.exit i,X,F)
  |r=>r
noncomputable def uc (E:lD) (Y:jW) (D:pM) (n:Nat) (c:aQ):Bl:=
 aQ.rec (motive:=λ_=>Bl) (λj blk=>some (.normal,j,blk)) (λd ops=>az8 E Y D d ops) (λ_ _ a b=>amz a b) (λx _ _ a b=>arN x a b)
  (λid _ c=>ath id c) (λ_ c=>MX c n) (λid j blk=>some (.exit id,j,blk)) (λj blk=>some (.ret,j,blk)) (λ_ _=>none) c
section
variable (E:lD) (Y:jW) (D:pM) (n:Nat) (j:eJ) (blk:BL)
theorem anv:uc E Y D n .skip j blk=some (.normal,j,blk):=rfl
theorem alr(id:Nat):uc E Y D n (.exit id) j blk=some (.exit id,j,blk):=rfl
theorem ap8:uc E Y D n .ret j blk=some (.ret,j,blk):=rfl
theorem avQ(d:Bool)(ops:fm):uc E Y D n (.region d ops) j blk=match H9 E Y D ops j blk with
  |some (X,F,y)=>bif d then(bif td ops [] y then some (.normal,X,F)else none)else some (.normal,X,F)
  |none=>none:=rfl
theorem au2(a b:aQ):uc E Y D n (.seq a b) j blk=match uc E Y D n a j blk with
  |some (.normal,X,F)=>uc E Y D n b X F
  |r=>r:=rfl
theorem aqC(x:eX)(a b:aQ):uc E Y D n (.cond x a b) j blk=match ev (pY j) x with
  | .one (.p (.bool t))=>bif t then uc E Y D n a j blk else uc E Y D n b j blk
  |_=>none:=rfl
theorem akp(id:Nat)(c:aQ):uc E Y D n (.block id c) j blk=match uc E Y D n c j blk with
  |some (.exit i,X,F)=>bif Nat.beq i id then some (.normal,X,F)else some (.exit i,X,F)
  |r=>r:=rfl
theorem aqy(c:aQ):uc E Y D n (.loop c) j blk=MX (uc E Y D n c) n j blk:=rfl
end
theorem asc{f:eJ->BL->Option (nI×eJ×BL)}{g:bj->aG->Option (nI×bj×aG)}(H:∀t b e T M,f t b=some (e,T,M)->g (pY t) (lg b)=some (e,pY T,lg M)):
  ∀(n:Nat) {t T:eJ}{b M:BL}{e:nI},MX f n t b=some (e,T,M)->lG g n (pY t) (lg b)=some (e,pY T,lg M):=by
 intro n
 induction n with
 |zero=>intro t T b M e h;cases h
 |succ n j=>
  intro t T b M e h;simp[ap0]at h;simp[lG]
  grind
theorem aas{f:pM}(ae:Ib D f):∀(c:aQ) {t T:eJ}{b M:BL}{e:nI},uc E Y f n c t b=some (e,T,M)->dq E Y D n c (pY t) (lg b)=some (e,pY T,lg M):=by
 intro c
 induction c with
 |skip=>intro t T b M e h;simp only[anv,gW,me]at h;obtain⟨rfl,rfl,rfl⟩:=h;rfl
 |exit id=>intro t T b M e h;simp only[alr,gW,me]at h;obtain⟨rfl,rfl,rfl⟩:=h;rfl
 |ret=>intro t T b M e h;simp only[ap8,gW,me]at h;obtain⟨rfl,rfl,rfl⟩:=h;rfl
 |bad=>intro t T b M e h;cases h
 |region d ops=>
  intro t T b M e h;simp only[avQ]at h;simp only[dq];split at h
  .rename_i A B y H;rw[aw7 ae H]
   grind
  cases h
 |seq x F z m=>
  intro t T b M e h;simp only[au2]at h;simp only[dq]
  grind
 |cond x p q v u=>
  intro t T b M e h;simp only[aqC]at h;simp only[dq]
  grind
 |block id c j=>
  intro t T b M e h;simp only[akp]at h;simp only[dq]
  grind [xC,J6]
 |loop c j=>intro t T b M e h;simp only[aqy]at h;simp only[dq];exact asc (λ_ _ _ _ _ h=>j h) n h
noncomputable def EX (E:lD) (Y:jW) (D:pM) (n:Nat) (fn:aV) (T:dC) (blk:BL):Option (V×BL):=
 bif Nat.ble (I T) 4000 then
  match uc E Y D n fn.body (H3 0 T .leaf) blk with
  |some (.normal,j,F)=>(qd E.al (pY j) (lg F) fn.results).map λh=>(Ac h,F)
  |some (.ret,j,F)=>(qd E.al (pY j) (lg F) fn.results).map λh=>(Ac h,F)
  |_=>none
 else none
theorem aqD{f:pM}(ae:Ib D f){fn:aV}{b M:BL}{v:V}(h:EX E Y f n fn T b=some (v,M)):qC E Y D n fn T (lg b)=some (v,lg M):=by
 unfold EX at h;unfold qC;cases hl:Nat.ble (I T) 4000 with
 |false=>rw[hl]at h;cases h
 |true=>
  rw[hl]at h;simp at h;have:=jx hl;rw[<-anX J];split at h
  .rename_i j B H;rw[aas ae _ H]
   grind [fH]
  .rename_i j B H;rw[aas ae _ H];simp at h |-
   grind
  cases h
noncomputable def ana (S:Sys) (n:Nat) (Y:jW) (D:pM):jW:=λf T=>match S.prim f T with
  |some r=>r
  |none=>match S.fns f with
   |some fn=>bif Nat.ble (I T) fn.ntmps then
     match EX (S.ctx .all) Y D n fn T []with
     |some (v,b)=>lr (lg b) v
     |none=>none
    else none
   |none=>none
noncomputable def alB (S:Sys) (n:Nat) (Y:jW) (D:pM):pM:=λf T al b=>bif S.trig f T then(S.primS f T al (lg b)).map (λr=>(r.1,Fj r.2 b))else match S.fns f with
  |some fn=>bif Nat.ble (I T) fn.ntmps then EX (S.ctx al) Y D n fn T b else none
  |none=>none
noncomputable def ajY (S:Sys) (n:Nat):jW×pM:=Nat.rec (motive:=λ_=>jW×pM) (λ_ _=>none,λ_ _ _ _=>none) (λn f=>(ana S n f.1 f.2,alB S n f.1 f.2)) n
noncomputable def DC (S:Sys) (n:Nat):jW:=(ajY S n).1
noncomputable def BM (S:Sys) (n:Nat):pM:=(ajY S n).2
theorem azb(S:Sys)(n f:Nat)(T:dC):DC S (n+1) f T=match S.prim f T with
  |some r=>r
  |none=>match S.fns f with
   |some fn=>bif Nat.ble (I T) fn.ntmps then
     match EX (S.ctx .all) (DC S n) (BM S n) n fn T []with
     |some (v,b)=>lr (lg b) v
     |none=>none
    else none
   |none=>none:=rfl
theorem avm(S:Sys)(n f:Nat)(T:dC)(al:bU)(b:BL):BM S (n+1) f T al b=bif S.trig f T then(S.primS f T al (lg b)).map (λr=>(r.1,Fj r.2 b))else match S.fns f with
  |some fn=>bif Nat.ble (I T) fn.ntmps then EX (S.ctx al) (DC S n) (BM S n) n fn T b else none
  |none=>none:=rfl
theorem abJ{j:jW}(hp:K_ Y j){f:pM}(ae:Ib D f){fn:aV}{b M:BL}{v:V}(h:EX E Y f n fn T b=some (v,M)):qC E j D n fn T (lg b)=some (v,lg M):=UE hp (λ_ _ _ _ _ h=>h) (ct _) (aqD ae h)
theorem UX(S:Sys):∀n,K_ (DC S n) (jR S n)/\Ib (jf S n) (BM S n):=by
 intro n
 induction n with
 |zero=>have z:∀f x,DC S 0 f x=none:=λ_ _=>rfl;have m:∀f h al b,BM S 0 f h al b=none:=λ_ _ _ _=>rfl;exact⟨λf x r H=>(by rw[z]at H;cases H),λf h al b v M H=>(by rw[m]at H;cases H)⟩
 |succ n u=>
  obtain⟨hp,ae⟩:=u;refine⟨λf x r H=>?_,λf h al b v M H=>?_⟩
  .rw[azb]at H;rw[jR];split at H
   .grind
   rename_i y;simp only[y];split at H
   .rename_i fn hfn;simp only[hfn];cases hl:Nat.ble (I x) fn.ntmps with
    |false=>rw[hl]at H;cases H
    |true=>
     rw[hl]at H;rw[an (jx hl)];split at H
     .rename_i v b hr;unfold Dx;have:zV=lg []:=rfl;rw[this,abJ hp ae hr];exact H
     cases H
   cases H
  rw[avm]at H;rw[jf];cases j:S.trig f h with
  |true=>
   rw[j]at H;simp only[cond_true]at H;rw[an rfl];cases hp:S.primS f h al (lg b)with
   |none=>rw[hp]at H;cases H
   |some r=>rw[hp]at H;cases H;rw[vp,U1]
  |false=>
  rw[j]at H;split at H
  .rename_i fn hfn;simp only[hfn];cases hl:Nat.ble (I h) fn.ntmps with
   |false=>rw[hl]at H;cases H
   |true=>rw[hl]at H;rw[an (jx hl)];exact abJ hp ae H
  cases H
theorem ZL(S:Sys)(n:Nat){r:RV}(h:DC S n f T=some r):aI S f T r:=⟨n,(UX S n).1 _ _ _ h⟩
inductive tm {H:Type} (N:Nat):DataW H->Prop where
 |str (s:AA) (h:I s<=N):tm N (.lit (.string s))
 |lit (l:Lit) (h:∀s,l≠ .string s):tm N (.lit l)
 |nil:tm N .nil
 |slice (es sp:List (DataW H)) (h:I es<=N) (he:∀d∈es,tm N d):tm N (.slice es sp)
 |agg (es:List (DataW H)) (he:∀d∈es,tm N d):tm N (.agg es)
def k8(P:Program)(N:Nat):Nat->TypeId->dF->Prop
 |0,_,_=>False
 |n+1,t,ps=>match P.underlying t with
  |some .bool=>∃b,ps=[.bool b]
  |some (.int k)=>∃z,ps=[.int k z]/\(Lit.int k z).wf
  |some .string=>∃s:ByteArray,ps=[.str s]/\s.size<=N
  |some (.slice e)=>∃y,ps=[.sl y]/\I y<=N/\ ∀x∈y,k8 P N n e x
  |some (.struct fs)=>∃h:dh,ps=h.flatten/\I h=I fs.toList/\ ∀(i:Nat) (f:Field) (x:dF),fs.toList[i]?=some f->h[i]?=some x->k8 P N n f.type x
  |_=>False
def zb(P:Program):Nat->Nat->List Field->Bool
 |O,T,[]=>Nat.beq O T
 |O,T,f::r=>Nat.beq f.offset O&&zb P (O+P.cellsOf f.type) T r
def k_(P:Program):Nat->TypeId->Bool
 |0,_=>false
 |n+1,t=>match P.underlying t with
  |some .bool|some (.int _)|some .string=>true
  |some (.slice e)=>Nat.blt 0 (P.cellsOf e)&&k_ P n e
  |some (.struct fs)=>zb P 0 (P.cellsOf t) fs.toList&&fs.toList.all λf=>k_ P n f.type
  |_=>false
section
variable {H:Type} {enc:TypeId×Value->H} {P:Program} {w:World} {base:Nat} {sp:Nat->Bool} {held:Bool} {N:Nat}
theorem dX.append{w:World}{own:Nat->Prop}{L ys:dF}(H:dX w own L h)(k:dX w own ys us):dX w own (L++ys) (h++us):=Pw.append (R:=cU w own) H k
theorem ai0{w:World}{base:Nat}{a:Addr}{D:List Value}(h:w.cells? base a n=some D):I D=n/\ ∀i,i<n->a.add i=⟨a.block,a.off+i,none⟩/\w.cell? ⟨a.block,a.off+i,none⟩=D[i]? :=by
 unfold World.cells? at h;split at h
 .have hl:=mapM_some_length h;simp at hl;refine⟨hl,λi f=>?_⟩;have H:=mapM_some_get h i i (by simp[f]);have A:(a.add i).spot=none:=by
   cases m:(a.add i).spot with
   |none=>rfl
   |some s=>
    simp[World.cell?]at H
    grind
  have e:a.add i=⟨a.block,a.off+i,none⟩:=by
   unfold Addr.add at A |-;split
   .rename_i j;cases a
    simp_all
   rfl
  grind
 cases h
theorem aj3{r:TypeId->List Value->Option (DataW H×List MemPlace)}(ih:∀t D x,k_ P n t->r t D=some x->tm N x.1->∃v,k8 P N n t v/\dX w (λ_=>False) v D){D:List Value}{T:Nat}(ht:I D=T):
  ∀(fs:List Field) (O:Nat) (L:List (DataW H×List MemPlace)),zb P O T fs->(∀f∈fs,k_ P n f.type)->
   fs.mapM (λf=>r f.type ((D.drop f.offset).take (P.cellsOf f.type)))=some L->(∀x∈L,tm N x.1)->O<=T->(∀f∈fs,∀c x,r f.type c=some x->∀v,k8 P N n f.type v->dX w (λ_=>False) v c->True)->
   ∃m:dh,I m=I fs/\(∀(i:Nat) (f:Field) (x:dF),fs[i]?=some f->m[i]?=some x->k8 P N n f.type x)/\(dX w (λ_=>False) m.flatten (D.drop O)):=by
 intro fs
 induction fs with
 |nil=>
  intro O L z _ _ _ R _;simp only[zb]at z;have:=xC z;refine⟨[],rfl,λi f x h=>by simp at h,?_⟩;have:D.drop O=[]:=by rw[List.drop_eq_nil_iff];omega
  rw[this];exact⟨rfl,λj x u h=>by simp at h⟩
 |cons f fs E=>
  intro O L z ho Q hf R hT;simp only[zb,cN]at z;rw[List.mapM_cons]at Q;simp only[Option.bind_eq_bind,M5,Option.pure_def,gW]at Q;obtain⟨x,hx,X,H0,rfl⟩:=Q;obtain⟨v,p1,Y⟩:=ih _ _ _ (ho f aH) hx (hf x aH);have Z:=Y.1;by_cases B:O+P.cellsOf f.type<=T
  .obtain⟨m,q1,q2,q3⟩:=E (O+P.cellsOf f.type) X z.2 (λg hg=>ho g (by simp[hg])) H0 (λy A=>hf y (by simp[A])) B (λ_ _ _ _ _ _ _ _=>trivial);refine⟨v::m,by simp[q1],λi g y M A=>?_,?_⟩
   .cases i with
    |zero=>simp at M A;subst M A;exact p1
    |succ i=>exact q2 i g y (by simpa using M) (by simpa using A)
   have:D.drop O=(D.drop f.offset).take (P.cellsOf f.type)++D.drop (O+P.cellsOf f.type):=by grind [xC,MV,jC]
   rw[this];simp only[vo];exact dX.append Y q3
  exfalso;have mono:∀(l:List Field) (o:Nat),zb P o T l->o<=T:=by
   intro l
   induction l with
   |nil=>intro o h;simp only[zb]at h;have:=xC h;omega
   |cons g l F=>intro o h;simp only[zb,cN]at h;have:=F _ h.2;omega
  exact B (mono _ _ z.2)
theorem als{f:Nat->Value}:∀(y:dh) (R:List (List Value)) (k:Nat),I R=I y->(∀(i:Nat) (e:dF) (v:List Value),y[i]?=some e->R[i]?=some v->dX w (λ_=>False) e v/\I v=sz/\ ∀j u,v[j]?=some u->f ((k+i)*sz+j)=u)->
  ∀(j:Nat) (x:PV),y.flatten[j]?=some x->cU w (λ_=>False) x (f (k*sz+j)):=by
 intro y
 induction y with
 |nil=>intro R k _ _ j x h;simp at h
 |cons e y F=>
  intro R k hl h j x H;cases R with
  |nil=>simp at hl
  |cons v R=>
   obtain⟨A,D,L⟩:=h 0 e v rfl rfl;have dV:I e=sz:=by rw[<-D];exact A.1.symm
   simp at H;by_cases B:j<I e
   .rw[sC B]at H;have m:v[j]?=some v[j]:=by simp[show j<I v by omega]
    have:=L j _ m;simp at this;rw[this];exact A.2 j x _ H m
   rw[o_ J]at H;have:=F R (k+1) (by simpa using hl) (λi e' n E z=>by have:=h (i+1) e' n (by simpa using E) (by simpa using z);rw[show k+(i+1)=k+1+i by omega]at this;exact this) (j-I e) x H
   grind
theorem aq8:∀(n F:Nat) (t:TypeId) (D:List Value) (x:DataW H×List MemPlace),k_ P n t->DataW.trod enc P w base sp held F t D=some x->tm N x.1->
  ∃Y,k8 P N n t Y/\dX w (λ_=>False) Y D:=by
 intro n
 induction n with
 |zero=>intro F t D x h;simp[k_]at h
 |succ n ih=>
  intro F t D x aD h hf;cases F with
  |zero=>simp[DataW.trod]at h
  |succ F=>
   rw[DataW.trod_step]at h;have one:∀ {p:PV}{v:Value},cU w (λ_=>False) p v->dX w (λ_=>False) [p] [v]:=by
    intro p v hp;refine⟨rfl,λj x u a b=>?_⟩;cases j with
    |zero=>simp at a b;subst a b;exact hp
    |succ j=>simp at a
   unfold DataW.trodStep at h;unfold k_ at aD;split at h
   case h_1 b A=>exact⟨[.bool b],by simp only[k8,A];exact⟨b,rfl⟩,one (.bool b)⟩
   case h_2 k k' z A=>
    split at h
    .rename_i T;obtain⟨rfl,ab⟩:=T;exact⟨[.int k' z],by simp only[k8,A];exact⟨z,rfl,ab⟩,one (.int k' z)⟩
    cases h
   case h_4 s A=>
    split at h
    .cases h;cases hf with
     |str _ ae=>exact⟨[.str s],by simp only[k8,A];exact⟨s,rfl,by simpa using ae⟩,one (.str s)⟩
     |lit _ ae=>exact(ae _ rfl).elim
    cases h
   case h_7 e A=>exact⟨[.sl []],by simp only[k8,A];exact⟨[],rfl,bN _,λx m=>by simp at m⟩,one (.yS none 0 (λ_=>rfl) (bN _))⟩
   case h_8 e a len X A=>
    rw[A]at aD;simp only[cN]at aD;obtain⟨jd,ac⟩:=aD;have jd:0<P.cellsOf e:=by have:=jd;simp[Nat.blt]at this;omega
    simp only at h;split at h
    .rename_i T;obtain⟨hb,aL,uL⟩:=T;simp only[fH,M5]at h;obtain⟨elems,he,av,aN,rfl⟩:=h;have am:I elems=len:=by simpa using mapM_some_length he
     cases hf with
     |slice _ _ hl HC=>
     simp only[bG]at hl;have get:∀i,i<len->∃ap row pv,elems[i]?=some ap/\w.cells? base (a.add (i*P.cellsOf e)) (P.cellsOf e)=some row/\k8 P N n e pv/\dX w (λ_=>False) pv row:=by intro i B;have hg:=mapM_some_get he i i (by simp[B]);have aB:i<I elems:=J;rw[re aB]at hg;simp only[M5]at hg;obtain⟨row,E,O⟩:=hg;obtain⟨pv,p1,p2⟩:=ih _ _ _ _ ac O (HC _ (cD.2 ⟨_,XK aB,rfl⟩));exact⟨_,row,pv,re aB,E,p1,p2⟩
     cases qP:len with
     |zero=>refine⟨[.sl []],by simp only[k8,A];exact⟨[],rfl,bN _,λx m=>by simp at m⟩,one (.yS (some a) X (λh=>by cases h) uL)⟩
     |succ az=>
      rw[<-qP];obtain⟨_,ar,_,_,KC,_⟩:=get 0 J;have ha:a=⟨a.block,a.off,none⟩:=by
       have E:a.add 0=a:=by unfold Addr.add;rw[an rfl]
       rw[CD,E]at KC;have:=((ai0 KC).2 0 jd).1;rwa[E]at this
      have WM:∀i,i<len->∃row pv,I row=P.cellsOf e/\(∀j,j<P.cellsOf e->w.cell? ⟨a.block,a.off+(i*P.cellsOf e+j),none⟩=row[j]?)/\k8 P N n e pv/\dX w (λ_=>False) pv row:=by
       intro i B;obtain⟨_,row,pv,_,E,O,h3⟩:=get i B;obtain⟨l1,l2⟩:=ai0 E;refine⟨row,pv,l1,λj hj=>?_,O,h3⟩;have:=(l2 j hj).2;rw[<-this];have e2:a.add (i*P.cellsOf e)=⟨a.block,a.off+i*P.cellsOf e,none⟩:=by
        rw[ha];unfold Addr.add;split
        .rename_i h9;rw[h9];rfl
        rfl
       rw[e2];simp[yQ]
      let row:Nat->List Value:=λi=>if h:i<len then(WM i h).choose else []
      let pv:Nat->dF:=λi=>if h:i<len then(WM i h).choose_spec.choose else []
      have Q:∀i,i<len->I (row i)=P.cellsOf e/\(∀j,j<P.cellsOf e->w.cell? ⟨a.block,a.off+(i*P.cellsOf e+j),none⟩=(row i)[j]?)/\k8 P N n e (pv i)/\dX w (λ_=>False) (pv i) (row i):=by intro i B;simp only[row,pv,dif_pos B];exact(WM i B).choose_spec.choose_spec
      let y:=(List.range len).map pv
      have Rz:I y=len:=by simp[y]
      have Ea:∀(i:Nat) (x:dF),y[i]?=some x->i<len/\x=pv i:=by
       intro i x m;have B:i<len:=by rw[<-Rz];exact(bd.1 m).1
       refine⟨B,?_⟩;simp only[y,dy,sy B,vp,gW]at m;exact m.symm
      let f:Nat->Value:=λj=>(w.cell? ⟨a.block,a.off+j,none⟩).getD undef
      refine⟨[.sl y],?_,one ?_⟩
      .simp only[k8,A];refine⟨y,rfl,J,λx m=>?_⟩;obtain⟨i,B⟩:=fX m;obtain⟨E,rfl⟩:=Ea i x B;exact(Q i E).2.2.1
      rw[ha];have R:∀x∈y,I x=P.cellsOf e:=by intro x m;obtain⟨i,B⟩:=fX m;obtain⟨E,rfl⟩:=Ea i x B;have:=(Q i E).2.2.2.1;rw[<-this];exact(Q i E).1
      have eT:=als (f:=f) y ((List.range len).map row) 0 (by simp[Rz]) (λi x v E O=>by obtain⟨B,rfl⟩:=Ea i x E;simp only[dy,sy B,vp,gW]at O;subst O;obtain⟨Z,s2,uY,xz⟩:=Q i B;refine⟨xz,Z,λj u A=>?_⟩;simp only[f,jO];rw[s2 j (by rw[<-Z];exact(bd.1 A).1),A];rfl)
      simp only[CD,jO]at eT;have qM:∀(l:dh),(∀x∈l,I x=P.cellsOf e)->I l.flatten=I l*P.cellsOf e:=by
       intro l
       induction l with
       |nil=>intro _;simp
       |cons x l ad=>intro m;simp only[vo,fU,fG];rw[m x aH,ad (λap hy=>m ap (by simp[hy])),j9];omega
      refine Rz▸cU.sl a.block a.off X (P.cellsOf e) f (λ_ h=>h) J uL R (λj x m=>?_) eT;have hj:j<len*P.cellsOf e:=by have:=(bd.1 m).1;rwa[qM y R,Rz]at this
      obtain⟨Z,s2,uY,xz⟩:=Q _ (Nat.div_lt_of_lt_mul (by rw[Pc];exact hj));have hm:j%P.cellsOf e<P.cellsOf e:=cJ _ jd;have:=s2 _ hm;rw[show j/P.cellsOf e*P.cellsOf e+j%P.cellsOf e=j by rw[Pc];exact Tc j _]at this;have WR:(row (j/P.cellsOf e))[j%P.cellsOf e]?=some (row (j/P.cellsOf e))[j%P.cellsOf e]:=by simp[Z,hm]
      rw[WR]at this;simp only[f,this,nm]
    cases h
   case h_9=>
    rename_i fs A;rw[A]at aD;simp only[cN]at aD;split at h
    .rename_i T;simp only[fH]at h;obtain⟨L,m,rfl⟩:=h;cases hf with
     |agg _ HC=>
     obtain⟨M,p1,p2,p3⟩:=aj3 (λt D x E O h3=>ih _ _ _ _ E O h3) T fs.toList 0 L aD.1 (λf hf=>mB.1 aD.2 f hf) m (λap hy=>HC _ (cD.2 ⟨ap,hy,rfl⟩)) (bN _) (λ_ _ _ _ _ _ _ _=>trivial);refine⟨M.flatten,by simp only[k8,A];exact⟨M,rfl,p1,p2⟩,?_⟩
     simpa using p3
    cases h
   all_goals(first|(cases h;done)|(simp_all;done)|(exfalso;simp_all;done))
end
end
variable {H:Type} {enc:TypeId×Value->H} {P:Program} {w:World} {N:Nat}
theorem am3:∀(fs:List Field) (O T:Nat),zb P O T fs->T=O+(fs.map λf=>P.cellsOf f.type).sum/\ ∀(j:Nat) (f:Field),fs[j]?=some f->f.offset=O+((fs.take j).map λf=>P.cellsOf f.type).sum:=by
 intro fs
 induction fs with
 |nil=>intro O T h;simp only[zb]at h;have:=xC h;exact⟨by simp;omega,λj f h=>by simp at h⟩
 |cons f fs m=>
  intro O T h;simp only[zb,cN]at h;have n:=xC h.1;obtain _:=m _ _ h.2;refine⟨by simp;omega,λj g H=>?_⟩;cases j with
  |zero=>simp at H;subst H;simp;omega
  |succ j=>grind
theorem amK:Kids P (λt=>∃n,k_ P n t):=by
 have un:∀ {t:TypeId},(∃n,k_ P n t)->∃n,k_ P (n+1) t:=by
  rintro t ⟨n,h⟩
  cases n with
  |zero=>simp[k_]at h
  |succ n=>exact⟨n,h⟩
 refine⟨λf H=>?_,λf H=>?_,λf H=>?_,λf H=>?_,λf H=>?_⟩
 .obtain⟨n,h⟩:=un f;simp[k_,H]at h
 .obtain⟨n,h⟩:=un f;simp[k_,H,cN]at h;exact⟨n,h.2⟩
 .obtain⟨n,h⟩:=un f;simp[k_,H]at h
 .obtain⟨n,h⟩:=un f;simp only[k_,H,cN]at h;obtain _:=am3 _ _ _ h.1
  grind
 obtain⟨n,h⟩:=un f;simp[k_,H]at h
theorem as1{t:TypeId}{d:DataW H}{ps:List MemPlace}(j:∃n,k_ P n t)(h:DataW.Trod enc P w 0 (λ_=>true) true t v d ps)
  (u:∀p∈ps,w.sameAt w' p) (ae:∀p∈ps,II p.block):DataW.Trod enc P w' 0 II true t v d ps:=by
 obtain⟨f,h⟩:=h;refine⟨f,DataW.trod_stays amK ?_ (λh=>by cases h) j h u ae⟩;rintro t e ⟨n,h⟩ m
 cases n with
 |zero=>simp[k_]at h
 |succ n=>
  simp[k_,m,cN]at h
  simp_all
theorem arQ:∀ {ts:List TypeId}{h:List Value}{D:List (DataW H)}{ps:List MemPlace},(∀t∈ts,∃n,k_ P n t)->DataW.TrodAll enc P w 0 (λ_=>true) true ts h D ps->
  (∀p∈ps,w.sameAt w' p)->(∀p∈ps,II p.block)->DataW.TrodAll enc P w' 0 II true ts h D ps:=by
 intro ts
 induction ts with
 |nil=>intro h D ps _ u _ _;cases h<;>cases D<;>exact u
 |cons t ts B=>
  intro h D ps m u j y;cases h with
  |nil=>exact u.elim
  |cons v h=>
   cases D with
   |nil=>exact u.elim
   |cons d D=>obtain⟨p,q,E,z,rfl⟩:=u;exact⟨p,q,as1 (m t aH) E (λx f=>j x (by simp[f])) (λx f=>y x (by simp[f])),B (λt A=>m t (by simp[A])) z (λx f=>j x (by simp[f])) (λx f=>y x (by simp[f])),rfl⟩
def Cu(P:Program)(t:TypeId)(ps:dF):V:=
 match P.underlying t with
 |some (.struct _)=>.agg (ps.map .p)
 |_=>match ps with
  |[x]=>.one (.p x)
  |_=>.undef
theorem ax3{r:Reach}{t:TypeId}{d:DataW H}{ps:List MemPlace}(B:k_ P n t)(f:Value.okWide P w r b0 t v)(h:DataW.Trod enc P w 0 sp held t v d ps)(hf:tm N d):
  ∃m,k8 P N n t m/\tv w (λ_=>False) (Cu P t m) v:=by
 obtain⟨F,h⟩:=h;obtain⟨m,u,A⟩:=aq8 n F t _ _ B h hf;refine⟨m,u,?_⟩;cases n with
 |zero=>simp[k_]at B
 |succ n=>
  have one:∀x:PV,m=[x]->(∀D,v≠ .agg D)->cU w (λ_=>False) x v:=by
   rintro x rfl L
   have:v.cells.toList=[v]:=by
    cases v<;>first
     |rfl
     |exact(L _ rfl).elim
   rw[this]at A;exact A.2 0 x v rfl rfl
  have j:∀ {k:TypeDesc},P.underlying t=some k->(∀fs,k≠ .struct fs)->(∀a b,k≠ .array a b)->∀D,v≠ .agg D:=by
   rintro k z O M D rfl
   unfold Value.okWide at f;rw[z]at f;cases k<;>simp_all[Cell.okWide,Cell.ok]
  simp only[k8]at u;unfold Cu;cases z:P.underlying t with
  |none=>rw[z]at u;exact u.elim
  |some k=>
   rw[z]at u;cases k<;>simp only at u<;>try exact u.elim
   case bool=>obtain⟨b,rfl⟩:=u;exact one _ rfl (j z aH aH)
   case int k=>obtain⟨b,rfl,_⟩:=u;exact one _ rfl (j z aH aH)
   case string=>obtain⟨b,rfl,_⟩:=u;exact one _ rfl (j z aH aH)
   case slice e=>obtain⟨y,rfl,_⟩:=u;exact one _ rfl (j z aH aH)
   case struct fs=>unfold Value.okWide at f;rw[z]at f;obtain⟨D,rfl,E,_⟩:=f;exact⟨D,m,rfl,rfl,A⟩
def R9(P:Program)(N n:Nat):List TypeId->dh->Prop
 |[],[]=>True
 |t::ts,p::ps=>k8 P N n t p/\R9 P N n ts ps
 |_,_=>False
def BP(P:Program):List TypeId->dh->dC
 |t::ts,p::ps=>Cu P t p::BP P ts ps
 |_,_=>[]
theorem apY{r:Reach}:∀ {ts:List TypeId}{h:List Value}{D:List (DataW H)}{ps:List MemPlace},(∀t∈ts,k_ P n t)->(∀(j:Nat) t v,ts[j]?=some t->h[j]?=some v->Value.okWide P w r b0 t v)->
  DataW.TrodAll enc P w 0 sp held ts h D ps->(∀d∈D,tm N d)->∃f,R9 P N n ts f/\Pw (tv w (λ_=>False)) (BP P ts f) h:=by
 intro ts
 induction ts with
 |nil=>
  intro h D ps _ _ z _;cases h with
  |nil=>exact⟨[],trivial,rfl,λj x u z=>by simp[BP]at z⟩
  |cons v h=>cases D<;>exact z.elim
 |cons t ts Z=>
  intro h D ps A B z hf;cases h with
  |nil=>exact z.elim
  |cons v h=>
   cases D with
   |nil=>exact z.elim
   |cons d D=>
    obtain⟨p,q,T,O,rfl⟩:=z;obtain⟨x,X,Y⟩:=ax3 (A t aH) (B 0 t v rfl rfl) T (hf d aH);obtain⟨L,M,b2,R⟩:=Z (λt Q=>A t (by simp[Q])) (λj t v E m=>B (j+1) t v (by grind) (by grind)) O (λd F=>hf d (by simp[F]));refine⟨x::L,⟨X,M⟩,by simpa [BP]using b2,λj y u E m=>?_⟩;cases j with
    |zero=>simp[BP]at E m;subst E m;exact Y
    |succ j=>exact R j y u (by simpa [BP]using E) (by grind)
open Go.RowKit
theorem iX.asW{w:World}(h:Below w.heap.size w w'):iX w w':=⟨h.os,h.tape,h.output,h.size,h.block⟩
theorem iX.agR(w:World)(k:Nat)(os:Array Obj):iX w (Go.Sort.grow (w.drewN k) os):=
 ⟨rfl,rfl,rfl,by simp[Go.Sort.grow,World.drewN],λc h=>by simp[Go.Sort.grow,World.drewN,Array.getElem?_append,h]⟩
theorem Ia{w:World}{x:PV}(f:iX w w')(h:cU w' O x v):xP w O (.one (.p x)) (.returned v) w':=
 ⟨v,[],rfl,f,qX,λc j=>by simp at j,[v],rfl,v,[],rfl,h.mono λc _ m=>⟨rfl,λH=>m (H.elim id λh=>by simp at h)⟩,rfl,rfl⟩
theorem LD{w:World}{x:PV}(h:Pw (tv w O) [.one (.p x)] T.toList):∃v,T= #[v]/\cU w O x v:=by
 obtain⟨f,H⟩:=h;obtain⟨l⟩:=T
 match l,f with
 |[v],_=>exact⟨v,rfl,H 0 _ v rfl rfl⟩
theorem Ym{w:World}{x y:PV}(h:Pw (tv w O) [.one (.p x),.one (.p y)] T.toList):∃v u,T= #[v,u]/\cU w O x v/\cU w O y u:=by
 obtain⟨f,H⟩:=h;obtain⟨l⟩:=T
 match l,f with
 |[v,u],_=>exact⟨v,u,rfl,H 0 _ v rfl rfl,H 1 _ u rfl rfl⟩
theorem aaJ{w:World}(h:cU w O (.sl []) v):∃a f,v=.slice a 0 f/\(a=none->f=0)/\f<=maxLen:=by
 generalize H:PV.sl []=x at h;cases h<;>cases H
 .exact⟨_,_,rfl,by assumption,by assumption⟩
 exact⟨_,_,rfl,λh=>by simp at h,by assumption⟩
theorem aiP{w:World}{a:Option Addr}{f:Nat}(h:a=none->f=0)(H:f<=maxLen):cU w O (.sl []) (.slice a 0 f):=.yS a f h H
def Jl:Nat->Nat->AA->AA
 |0,_,A=>A
 |k+1,u,A=>bif Nat.blt u 10 then UInt8.ofNat (Nat.add 48 u)::A else Jl k (Nat.div u 10) (UInt8.ofNat (Nat.add 48 (Nat.mod u 10))::A)
theorem abI:∀(k u:Nat) (A:AA),u<10 ^ (k+1)->Jl (k+1) u A=Lib.decDigits u++A:=by
 intro k
 induction k with
 |zero=>
  intro u A h;have h:u<10:=by simpa using h
  unfold Lib.decDigits;have H:Nat.blt u 10:=W7 h;simp only[Jl,H,cond_true,dif_pos h];rfl
 |succ k j=>
  intro u A h;rw[Lib.decDigits,Jl];by_cases f:u<10
  .have H:Nat.blt u 10:=W7 f;simp only[H,cond_true,dif_pos f];rfl
  have H:Nat.blt u 10=false:=by
   cases e:Nat.blt u 10 with
   |false=>rfl
   |true=>exact(f (jx e)).elim
  simp only[H,cond_false,dif_neg f];have:(Nat.div u 10)<10 ^ (k+1):=by have e:Nat.div u 10=u/10:=rfl;rw[e];have:10 ^ (k+1+1)=10 ^ (k+1)*10:=Nat.pow_succ ..;omega
  rw[j _ _ this];simp only[kr,List.singleton_append];rfl
def Vv(n:Int):ByteArray:=⟨(match n with| .ofNat u=>Jl 20 u []| .negSucc u=>45::Jl 20 (Nat.succ u) []).toArray⟩
theorem axE(n:Int)(H: -9223372036854775808<=n)(h:n<=9223372036854775807):Vv n=⟨(Lib.itoa n).toArray⟩:=by
 unfold Vv Lib.itoa;cases n with
 |ofNat u=>have:¬(Int.ofNat u<0):=aH;rw[ai this];simp only;rw[abI 19 u [] (by simp at h;omega)];simp
 |negSucc u=>have:Int.negSucc u<0:=Int.negSucc_lt_zero u;rw[an this];simp only;rw[abI 19 (Nat.succ u) [] J];simp[Int.natAbs]
def strs:dh->Option (List ByteArray)
 |[]=>some []
 |[.str s]::r=>(strs r).map (s:: ·)
 |_::_=>none
theorem aln:∀ {y:dh}{L:List ByteArray},strs y=some L->y=L.map λs=>[PV.str s]:=by
 intro y
 induction y with
 |nil=>intro L h;simp[strs]at h;subst h;rfl
 |cons e y f=>
  intro L h;unfold strs at h;split at h
  .rename_i H;cases H
  .rename_i s r H;cases H;simp only[fH]at h;obtain⟨ys,j,rfl⟩:=h;simp[f j]
  cases h
def I9(f:AA):List ByteArray->AA
 |[]=>[]
 |[s]=>s.data.toList
 |s::r=>s.data.toList++(f++I9 f r)
theorem ahS(f:AA):∀L:List ByteArray,I9 f L=Lib.join (L.map (·.data.toList)) f:=by
 intro L;unfold Lib.join
 induction L with
 |nil=>rfl
 |cons s r h=>
  cases r with
  |nil=>simp[I9,List.intercalate]
  |cons j r=>simp only[I9,eQ]at h |-;rw[h];simp[List.intercalate,List.intersperse]
def Xi(T:dC):Option RV:=
 match T with
 |[.one (.p (.int .i64 n))]=>if -9223372036854775808<=n/\n<=9223372036854775807 then some (.one (.p (.str (Vv n))))else none
 |_=>none
theorem atZ{P:Program}{N:String}{G:World->Prop}{T:dC}{r:RV}(hG:∀w,G w->Lib.TabIs P w N .u64 Lib.pow10Tab)
  (hf:∀(n:Int),-9223372036854775808<=n->n<=9223372036854775807->∀w:World,Lib.TabIs P w N .u64 Lib.pow10Tab->Calls P f #[.int .i64 n] w λe w'=>e=.returned (.string ⟨(Lib.itoa n).toArray⟩)/\ ∃k os,w'=Go.Sort.grow (w.drewN k) os)
  (h:Xi T=some r):∀(w:World) (O:Nat->Prop) (as:Array Value),Good G w->Pw (tv w O) T as.toList->Calls P f as w (xP w O r):=by
 intro w O as H m;unfold Xi at h;split at h
 .rename_i n;split at h
  .rename_i hr;cases h;obtain⟨v,rfl,hp⟩:=LD m;generalize j:PV.int .i64 n=x at hp;cases hp<;>cases j
   refine(hf n hr.1 hr.2 w (hG w H.1)).mono ?_;rintro e w' ⟨rfl,k,os,rfl⟩
   rw[axE n hr.1 hr.2];exact Ia (iX.agR _ _ _) (.str _)
  cases h
 cases h
def UK(T:dC):Option RV:=
 match T with
 |[.one (.p (.sl y)),.one (.p (.str f))]=>match strs y with
  |some L=>if I L<=140737488355328/\I (I9 f.data.toList L)<=140737488355328 then some (.one (.p (.str ⟨(I9 f.data.toList L).toArray⟩)))else none
  |none=>none
 |_=>none
theorem at0{P:Program}{T:dC}{r:RV}
  (R:∀(a:Option Addr) (c:Nat) (m:ByteArray) (w:World),Calls P f #[.slice a 0 c,.string m] w λe w'=>e=.returned (.string ⟨#[]⟩)/\w'=w)
  (hf:∀(M o c:Nat) (L:List ByteArray) (m:ByteArray) (w:World),(∀(j:Nat) x,L[j]?=some x->w.cell? ⟨M,o+j,none⟩=some (.string x))->M<w.heap.size->I L<=140737488355328->I L<=c->
   I (Lib.join (L.map (·.data.toList)) m.data.toList)<=140737488355328->Calls P f #[.slice (some ⟨M,o,none⟩) (I L) c,.string m] w λe w'=>e=.returned (.string ⟨(Lib.join (L.map (·.data.toList)) m.data.toList).toArray⟩)/\Below w.heap.size w w')
  (h:UK T=some r):∀(w:World) (O:Nat->Prop) (as:Array Value),Pw (tv w O) T as.toList->Calls P f as w (xP w O r):=by
 intro w O as ha;unfold UK at h;split at h
 .rename_i y m;split at h
  .rename_i L Q;split at h
   .rename_i hl;cases h;obtain⟨v,u,rfl,hp,N⟩:=Ym ha;have hu:u=.string m:=by
     generalize A:PV.str m=x at N;cases N<;>cases A
     rfl
    subst hu;have B:=aln Q;cases L with
    |nil=>
     simp at B;subst B;obtain⟨a,n,rfl,_,_⟩:=aaJ hp;refine(R a n m w).mono ?_;rintro e w' ⟨rfl,rfl⟩
     exact Ia (iX.refl _) (.str _)
    |cons s r=>
     generalize A:PV.sl y=x at hp;cases hp with
     |yS a n F E=>cases A;simp at B
     | @sl ij b o n sz g ho D hm Y hc hr=>
      cases A;have qM:y.flatten=(s::r).map PV.str:=by
       rw[B];have:∀l:List ByteArray,(l.map λs=>[PV.str s]).flatten=l.map PV.str:=by
        intro l
        induction l with
        |nil=>rfl
        |cons a l ih=>simp[ih]
       exact this _
      have z:I y=I (s::r):=by rw[B];simp
      have H:∀(j:Nat) x,(s::r)[j]?=some x->w.cell? ⟨b,o+j,none⟩=some (.string x):=by
       intro j x hj;have F:y.flatten[j]?=some (.str x):=by rw[qM,dy,hj];rfl
       have E:=hr j _ F;rw[hc j _ F];generalize Z:PV.str x=ac at E;generalize ab:g j=gj at E;cases E<;>cases Z
       rfl
      rw[z]at D |-;refine(hf b o n (s::r) m w H (Xs (H 0 s rfl)) hl.1 D (by rw[<-ahS];exact hl.2)).mono ?_;rintro e w' ⟨rfl,X⟩
      rw[ahS];exact Ia (iX.asW X) (.str _)
     |_=>cases A
   cases h
  cases h
 cases h
def SN(T:dC):Option RV:=
 match T with
 |[.one (.p (.int .u64 n))]=>if 0<=n/\n<=18446744073709551615 then some (.one (.p (.int .i64 (Lib.bitLen n.toNat))))else none
 |_=>none
theorem atX{P:Program}{T:dC}{r:RV}(hf:∀(x:Int) (w:World),0<=x->x<=18446744073709551615->Calls P f #[.int .u64 x] w λe w'=>e=.returned (.int .i64 (Lib.bitLen x.toNat))/\w'=w)
  (h:SN T=some r):∀(w:World) (O:Nat->Prop) (as:Array Value),Pw (tv w O) T as.toList->Calls P f as w (xP w O r):=by
 intro w O as j;unfold SN at h;split at h
 .rename_i n;split at h
  .rename_i hr;cases h;obtain⟨v,rfl,hp⟩:=LD j;generalize H:PV.int .u64 n=x at hp;cases hp<;>cases H
   refine(hf n w hr.1 hr.2).mono ?_;rintro e w' ⟨rfl,rfl⟩
   exact Ia (iX.refl _) (.int _ _)
  cases h
 cases h
def S5(T:dC):Option (Option RV):=
 match T with
 |[.one (.p (.sl []))]=>some (some (.one (.p (.sl []))))
 |_=>none
theorem atY{S:Sys}{G:World->Prop}(hS:Jd S G){z i g Z:Nat}{fn:aV}(hfn:S.fns f=some fn)(h1:jR S n f [.one (.p .nils)]=some (.one (.p .nils)))
  (L:jf S n f [.one (.hsl 0 0 z 0 0)] .all zV=some (.one (.hsl i g Z 0 0),F)) {T:dC}{r:RV} (H:S5 T=some (some r)):
  ∀(w:World) (O:Nat->Prop) (as:Array Value),Good G w->(∀c,O c->c<w.heap.size)->Pw (tv w O) T as.toList->Calls S.P f as w (xP w O r):=by
 intro w O as B A ha;unfold S5 at H;split at H
 .cases H;obtain⟨v,rfl,hp⟩:=LD ha;obtain⟨a,m,rfl,hn,hm⟩:=aaJ hp;cases a with
  |none=>
   obtain rfl:=hn rfl;refine((sound hS n).1 f _ _ h1 |>.2 w O #[.slice none 0 0] B A ⟨rfl,λj x u p q=>?_⟩).mono ?_
   .cases j with
    |zero=>simp at p q;subst p q;exact cU.nils
    |succ j=>simp at p
   rintro e w' ⟨val,bs,rfl,N,fJ,sL,h,D,Q⟩
   obtain⟨v0,oc,Y,R,e3,e4⟩:=Q;have y:h=[val]:=D;subst y;cases Y;subst e4;cases R;exact Ia N (aiP (λ_=>rfl) (bN _))
  |some a=>
   let M:aW:=⟨w,zV,λ_=>0,λ_=>0,O⟩
   have aD:dP w M:=⟨rfl,rfl,rfl,ct _,λ_ _=>rfl,(λid o H=>by cases H),(λid o H=>by cases H),A,(λid fV o o' H=>by cases H)⟩;refine(((sound hS n).2.1 f _ _ _ _ _ L).2 w M #[.slice (some a) 0 m] B aD rfl ⟨rfl,λj x u p q=>?_⟩).mono ?_
   .cases j with
    |zero=>simp at p q;subst p q;exact fC.hsl a m (bN _) (bN _) hm (λsz _ H=>by cases H)
    |succ j=>simp at p
   rintro e w' ⟨val,m',rfl,rfl,D,Q,q3,q4,X⟩
   have hq:fC m' (.hsl i g Z 0 0) val:=X;cases hq with
   |hsl a2 E _ _ qp _=>
    refine Ia ⟨Q.os,Q.tape,Q.output,Q.size,λc hc=>Q.keep c hc ?_⟩ (aiP (λH=>by cases H) qp);rintro⟨id,o,H,_⟩
    cases H
 cases H
open Go.RowKit Go.WideShapes Go.ChangeShapes
section
variable {H:Type} {enc:TypeId×Value->H} {P:Program} {w:World} {base:Nat} {sp:Nat->Bool} {held:Bool}
theorem att:∀(n F:Nat) (t:TypeId) (D:List Value) (x:DataW H×List MemPlace),k_ P n t->DataW.trod enc P w base sp held F t D=some x->tm maxLen x.1:=by
 intro n
 induction n with
 |zero=>intro F t D x h;simp[k_]at h
 |succ n B=>
  intro F t D x aD h;cases F with
  |zero=>simp[DataW.trod]at h
  |succ F=>
   rw[DataW.trod_step]at h;unfold DataW.trodStep at h;unfold k_ at aD;split at h
   case h_1=>cases h;exact .lit _ (λs h=>by cases h)
   case h_2=>
    split at h
    .cases h;exact .lit _ (λs h=>by cases h)
    cases h
   case h_4=>
    split at h
    .rename_i ae;cases h;exact .str _ (by simpa using ae)
    cases h
   case h_7=>cases h;exact .nil
   case h_8 e a len M v=>
    rw[v]at aD;simp at aD;split at h
    .rename_i Q;simp only[fH,M5]at h;obtain⟨elems,A,R,O,rfl⟩:=h;have z:I elems=len:=by simpa using mapM_some_length A
     refine .slice _ _ (by simp;omega) (λd m=>?_);obtain⟨y,u,rfl⟩:=cD.1 m;obtain⟨i,_,j⟩:=mapM_mem_of A y u;simp only[M5]at j;obtain⟨row,_,E⟩:=j;exact B _ _ _ _ aD.2 E
    cases h
   case h_9=>
    rename_i fs v;rw[v]at aD;simp only[cN]at aD;split at h
    .simp at h;obtain⟨L,N,rfl⟩:=h;refine .agg _ (λd m=>?_);obtain⟨y,u,rfl⟩:=cD.1 m;obtain⟨f,hf,j⟩:=mapM_mem_of N y u;exact B _ _ _ _ (mB.1 aD.2 f hf) j
    cases h
   all_goals(first|(cases h;done)|(simp_all;done)|(exfalso;simp_all;done))
theorem afv:∀ {ts:List TypeId}{h:List Value}{D:List (DataW H)}{ps:List MemPlace},(∀t∈ts,k_ P n t)->DataW.TrodAll enc P w base sp held ts h D ps->(∀d∈D,tm maxLen d)/\I D=I ts:=by
 intro ts
 induction ts with
 |nil=>
  intro h D ps _ u;cases h<;>cases D<;>first
   |exact u.elim
   |exact⟨λd y=>by simp at y,rfl⟩
 |cons t ts B=>
  intro h D ps m u;cases h with
  |nil=>exact u.elim
  |cons v h=>
   cases D with
   |nil=>exact u.elim
   |cons d D=>
    obtain⟨p,q,⟨f,E⟩,z,rfl⟩:=u;obtain⟨i1,i2⟩:=B (λt A=>m t (by simp[A])) z;refine⟨λx j=>?_,by simp[i2]⟩;rcases dt.1 j with rfl|j
    .exact att n f t _ _ (m t aH) E
    exact i1 x j
end
section
variable {H:Type} {enc:TypeId×Value->H} {P:Program}
theorem ak3{f:Func}{s:ChangeSpec}{n9 fresh:Bool}{W m:World}{D n:List (DataW H)}{u pv:List MemPlace}
  (x:DataW.Whole enc P f.params.toList s.vars n9 W T.toList D n before)
  (z:∀(b:Nat) (sp:Nat->Bool) (F:Bool),DataW.TrodAll enc P m b sp F f.resultTypes.toList (v.resultList f.resultTypes.size) (s.fn H (D++n)).results [])
  (Y:∀sp:Nat->Bool,(∀p∈before,sp p.block)->DataW.TrodAll enc P m 0 sp true f.params.toList T.toList (s.fn H (D++n)).args u)
  (E:∀sp:Nat->Bool,(∀p∈before,sp p.block)->DataW.TrodVars enc P m sp s.vars (s.fn H (D++n)).vars pv)
  (M:before=u++pv) (y:Below W.heap.size W m)
  (aD:∀(j:Nat) (t:TypeId) (r:Value),f.resultTypes[j]?=some t->(v.resultList f.resultTypes.size)[j]?=some r->Value.okWide P m .any 0 t r):
  s.post enc P f n9 fresh handsOn again W T v m:=by
 have A:=λp hp=>x.lt p hp;have h:∀p∈before,(λb=>decide _) p.block=true:=λp hp=>by simpa using A p hp
 refine⟨D,n,before,[],u,pv,x,z _ _ _,Y _ h,E _ h,World.keptBut_mono (λp hp=>⟨hp,?_⟩) (y.frame (· ∈before)),λ_=>?_⟩
 .grind
 obtain⟨_,_,_,_,_,L,N⟩:=x;refine⟨aD,_,_,([]++u)++pv,⟨[]++u,pv,trodAll_append (Y _ (λ_ _=>rfl)) (z _ _ _),E _ (λ_ _=>rfl),rfl,?_,?_⟩,?_⟩
 .intro b O hp;have B:MemPlace.cell b O∈before:=by rw[M];simpa using hp
  rw[y.frozen (A _ B)];exact L b O B
 .grind
 grind
end
theorem Et{P:Program}{N:Nat}{t:TypeId}{k:IntKind}{p:dF}(H:P.underlying t=some (.int k))(h:k8 P N (n+1) t p):∃z,p=[.int k z]/\(Lit.int k z).wf:=by simp only[k8,H]at h;exact h
theorem avK{P:Program}{N:Nat}{t:TypeId}{p:dF}(H:P.underlying t=some .bool)(h:k8 P N (n+1) t p):∃b,p=[.bool b]:=by simp only[k8,H]at h;exact h
theorem amO{P:Program}{N:Nat}{t e:TypeId}{p:dF}(H:P.underlying t=some (.slice e))(h:k8 P N (n+1) t p):∃y,p=[.sl y]/\I y<=N/\ ∀x∈y,k8 P N n e x:=by simp only[k8,H]at h;exact h
theorem asG{P:Program}{t:TypeId}{k:TypeDesc}{x:PV}(h:P.underlying t=some k)(H:∀fs,k≠ .struct fs):Cu P t [x]=.one (.p x):=by
 unfold Cu;rw[h];cases k<;>first
  |rfl
  |exact(H _ rfl).elim
theorem akg{P:Program}{t:TypeId}{fs:Array Field}{x:dF}(h:P.underlying t=some (.struct fs)):Cu P t x=.agg (x.map .p):=by unfold Cu;rw[h]
theorem akX{S:Sys}{G:World->Prop}(hS:Jd S G)(NR:∀w,G w->Good G w){fn:Func}{s:ChangeSpec}{N:Nat}{fresh n9:Bool}(Ou:s.vars=[])
  (hfn:∀(H:Type) (D:List (DataW H)),I D=I fn.params.toList->s.fn H D={results:=[.lit (.bool true)],args:=D}) {tb:TypeId} (Y:fn.resultTypes= #[tb]) (z:S.P.underlying tb=some .bool)
  (L:∀t∈fn.params.toList,k_ S.P n t) (M:∀m,R9 S.P N n fn.params.toList m->aI S f (BP S.P fn.params.toList m) (.one (.p (.bool true))))
  {H:Type}{enc:TypeId×Value->H}{W:World}{base:Nat}{D gs:List (DataW H)}
  (B:∀(j:Nat) t v,fn.params[j]?=some t->T[j]?=some v->Value.okWide S.P W .any base t v)
  (X:DataW.Whole enc S.P fn.params.toList s.vars n9 W T.toList D gs before) (hG:G W) (E:∀d∈D,tm N d):
  Calls S.P f T W λe Q=>∃v,e=.returned v/\s.post enc S.P fn n9 fresh handsOn again W T v Q:=by
 have F:=X;obtain⟨p,q,O,hV,rfl,ab,fJ⟩:=X;rw[Ou]at hV;obtain⟨rfl,rfl⟩:=trodVars_none hV;obtain⟨_,u⟩:=afv L O;obtain⟨m,h1,h2⟩:=apY L (λj t v a b=>B j t v (by simpa using a) (by simpa using b)) O E;refine((M m h1).calls hS W (NR W hG) T h2).mono ?_;rintro e Q ⟨val,bs,rfl,A,_,_,h,q1,q2⟩
 obtain⟨v0,oc,e1,Z,e3,e4⟩:=q2;subst q1;cases e1;have hv:val=.bool true:=by
  generalize y:PV.bool true=x at Z;cases Z<;>cases y
  rfl
 subst hv;have R:Below W.heap.size W Q:=⟨A.os,A.tape,A.output,A.size,A.keep⟩;refine⟨_,rfl,ak3 F ?_ ?_ ?_ rfl R ?_⟩
 .intro b sp hd;rw[i_,hfn H D u,Y];exact trodAll_cons_mk (shut_bool z _) trodAll_mk0
 .intro II pK;rw[i_,hfn H D u];exact arQ (λt ht=>⟨n,L t ht⟩) O (λx y=>R.same ((λx y=>F.lt x y) x (by grind))) (λx y=>pK x (by simpa using y))
 .intro II pK;rw[i_,hfn H D u,Ou];rfl
 exact ok_one Y rfl (okWide_bool_mk z _)
theorem auF(j:bj)(t:Nat)(v:V):ef j (some t) v=dN j t v:=rfl
theorem aq2(j:bj)(v:V):ef j none v=j:=rfl
theorem anD(j:bj)(n:Nat):ev j (.t n)=j n:=rfl
theorem axy(j:bj)(n:Int):ev j (.i n)=.one (.p (.int .i64 n)):=rfl
theorem avx(j:bj)(x:Bool):ev j (.b x)=.one (.p (.bool x)):=rfl
theorem auy(j:bj)(v:V):ev j (.k v)=v:=rfl
theorem asR(a:V)(l:dC):rl (a::l) 0=a:=rfl
theorem aqG(a:V)(l:dC)(n:Nat):rl (a::l) (n+1)=rl l n:=rfl
def Dl(v:V)(f:Bool):Option Bool:=match v with
 | .one (.p (.bool b))=>some (b==f)
 | .undef=>some false
 |_=>none
theorem amL(b f:Bool):Dl (.one (.p (.bool b))) f=some (b==f):=rfl
theorem ay1(f:Bool):Dl .undef f=some false:=rfl
section
variable {S:Sys} {al:bU} {o:kE} {j:bj} {blk:aG} {tr:fW} {aY:bj->aG->fW->Prop} {d:dZ}
theorem auc{id:Nat}{Q:gX}:se id Q .normal j blk=Q .normal j blk:=rfl
theorem ayd{id:Nat}{Q:gX}:se id Q .ret j blk=Q .ret j blk:=rfl
theorem awG{id i:Nat}{Q:gX}:se id Q (.exit i) j blk=if i=id then Q .normal j blk else Q (.exit i) j blk:=rfl
end
def CQ (S:Sys)(al:bU)(ops:fm)(Q:bj->aG->Prop)(j:bj)(blk:aG):Prop:=∀tr,pP S al ops (λj blk _=>Q j blk) j blk tr
def GP(S:Sys)(al:bU)(p:zr)(d:dZ)(j:bj)(blk:aG)(aY:bj->aG->Prop):Prop:=
 match p with
 | .fail=>False
 | .done v u r=>al.iJ (r++u.map (·.1))=true/\aY (ef j d v) (app u blk)
 | .pc f h r s=>∃x,aI S f h x/\match fR blk r s (x.ib (S.lone s))with
  |some (v,u)=>al.iJ (r++u.map (·.1))=true/\aY (ef j d v) (app u blk)
  |none=>False
 | .sc f h=>al.holds (iH (S.ctx al) f h blk)=true/\ ∃v F,jG S f h (iH (S.ctx al) f h blk) blk v F/\aY (ef j d v) F
def Pm(S:Sys)(al:bU)(w:Option Bool)(o:kE)(j:bj)(blk:aG)(aY:bj->aG->Prop):Prop:=
 match w with
 |none=>False
 |some false=>aY (ef j o.dst .undef) blk
 |some true=>GP S al (cH S.shared j blk o.op) o.dst j blk aY
section
variable {S:Sys} {al:bU} {j:bj} {blk:aG}
theorem am9{ops:fm}{f:bj->aG->Prop}{tr T:fW}(h:pP S al ops (λj blk _=>R j blk) j blk tr)(H:∀e b,R e b->f e b):pP S al ops (λj blk _=>f j blk) j blk T:=by obtain⟨n,e,b,y,u,m⟩:=h;exact⟨n,e,b,y,u,H _ _ m⟩
theorem ara{ops:fm}{Q:gX}:W S al (.region false ops) Q j blk↔CQ S al ops (λj blk=>Q .normal j blk) j blk:=by
 rw[abB];constructor
 .intro h tr;obtain⟨n,e,b,y,f,_,H⟩:=h;exact⟨n,e,b,y,f,H⟩
 intro h;obtain⟨n,e,b,y,f,H⟩:=h [];exact⟨n,e,b,y,f,(λh=>by cases h),H⟩
theorem axb:CQ S al [] R j blk↔R j blk:=⟨λh=>Ue.1 (h []),λh _=>Ue.2 h⟩
theorem af9{o:kE}{os:fm}{w:Option Bool}(tr:fW):Eu S al w o j blk tr (pP S al os λe b _=>R e b)↔Pm S al w o j blk (CQ S al os R):=by
 have k:∀ {e:bj}{b:aG}{t:fW},pP S al os (λe b _=>R e b) e b t↔CQ S al os R e b:=λ{e b t}=>⟨λH T=>am9 H λ_ _ H=>H,λH=>H t⟩;cases w with
 |none=>exact Iff.rfl
 |some w=>
  cases w with
  |false=>exact k (t:=tr++[⟨[],[],[]⟩])
  |true=>
   simp[Eu,Pm];cases cH S.shared j blk o.op with
   |fail=>exact Iff.rfl
   |done v u r=>simp[Gv,GP,k]
   |pc f h r s=>
    simp[Gv,GP]
    grind
   |sc f h=>simp[Gv,GP,k]
theorem ajV{o:kE}{os:fm}:CQ S al (o::os) R j blk↔Pm S al (rj j o.guard) o j blk (CQ S al os R):=by
 constructor
 .intro h;exact(af9 []).1 (SB.1 (h []))
 intro h tr;exact SB.2 ((af9 tr).2 h)
variable {o:kE} {aY:bj->aG->Prop} {d:dZ}
end
theorem ayr:(false==true)=false:=rfl
theorem akq:(true==false)=false:=rfl
theorem awU:(false==false):=rfl
theorem aqP:(true==true):=rfl
theorem akm{blk:aG}{x:PV}:lr blk (.one (.p x))=some (.one (.p x)):=rfl
theorem ank(k:IntKind)(n:Int):(PV.int k n).norm=.int k n:=rfl
theorem avA(b:Bool):(PV.bool b).norm=.bool b:=rfl
theorem axT(s:ByteArray):(PV.str s).norm=.str s:=rfl
theorem azo:PV.nils.norm=.sl []:=rfl
theorem auJ(y:dh):(PV.sl y).norm=.sl y:=rfl
theorem ajZ(y:dF):(PV.box y).norm=.box y:=rfl
theorem avF(f:Nat)(a b:dF):(PV.fn f a b).norm=.fn f a b:=rfl
theorem avh:PV.yH.norm=.yH:=rfl
theorem auB:PV.xx.norm=.xx:=rfl
theorem aqr:PV.rU.norm=.rU:=rfl
theorem azm(a:Bool)(e:yK):(PV.mp a e).norm=.mp a e:=rfl
theorem ayy{blk:aG}:Bu blk []=some ([],[]):=rfl
def Wb(x:Option (V×aC))(y:Option (dC×aC)):Option (dC×aC):=match x,y with
 |some (b,x),some (B,y)=>some (b::B,x++y)
 |_,_=>none
theorem aqg{blk:aG}:Bu blk (x::L)=Wb (pO blk x) (Bu blk L):=by
 simp[Bu,Wb,gO]
 grind
theorem aAd{b:V}{x:aC}{B:dC}{y:aC}:Wb (some (b,x)) (some (B,y))=some (b::B,x++y):=rfl
theorem axq{blk:aG}{x:PV}:pO blk (.one (.p x))=some (.one (.p x.norm),[]):=rfl
end Go.Abs
