/-
  Each operation of the abstract machine is what the program does; the machine is sound in any order that a region draws; a quick evaluator; library functions.
-/
import Derived.Test.YtdlmpmilnbhmgaaGreatDoorMa
import Derived.Laws.BytesString
import Derived.LoopN
import Derived.Scope
import Derived.Orders
import Derived.ChangeReads
import Derived.ChangeStays
import Derived.DataReads
import Derived.Below
import Derived.Sort.Grow
import Derived.Deep.Draws
import Derived.Lib.ItoaNum
import Derived.Lib.Join
import Derived.Lib.BitFns
import Derived.Lib.LaidTab
import Derived.ChangeSame
import Derived.ProofKit
import Derived.OpenShut
set_option linter.all false
open List renaming length->I
namespace Go.Abs
variable{r:RV}{j:cL}{clock g n kd f sz site nt:Nat}{v kv qv val:Value}{m:aX}{x:V}{q key:PV}{x' k' y':dR}{z:c_}{ag held handsOn again:Bool}{D:nn}{A B T:Array Value}{u:iB}{F ys:c7}{R:bD->aB->Prop}{E DQ sp:Nat->Bool}{w':World}{Q Q' O:Nat->Prop}{h us:List Value}{X y eP:bD}{L bp aV b2 vL b'':aB}{Y:iH}{Z:Array Oper}{before:List MemPlace}
variable {P:Program} {w0:World}
section
variable{ag:Bool}
def Jj(w:World)(own:Nat->Prop)(ag:Bool)(j:cL)(E:Array MapEntry):Prop:=E.size=I j/\ ∀(i:Nat) (q:PV) (v:c_) (e:MapEntry),j[i]?=some (q,v)->E[i]?=some e->cl w own q e.key/\ ∃g:Array Value,(ag->e.val=.agg g)/\(ag=false-> #[e.val]=g)/\dw w own v g.toList
theorem GM{w:World}{r:Nat}{j:Array MapEntry}(h:w.heap[r]?=some (.map j clock)):(getObj r).run P w=.ok (.map j clock) w:=by simp[getObj,Sem.run,h]
theorem Xu{w:World}{r:Nat}{j:Array MapEntry}{O:Obj}(H:w.heap[r]?=some (.map j clock)):(setObj r O).run P w=.ok () {w with heap:=w.heap.setIfInBounds r O}:=by simp[setObj,Sem.run,H]
theorem ad5{w:World}{own:Nat->Prop}(h:cl w own (.mp ag j) v):
  ∃r E clock,v=.map (some r)/\w.heap[r]?=some (.map E clock)/\Jj w own ag j E:=by
 cases h with
 |mp r E clock g z n hl y m hr=>
  refine⟨r,E,clock,rfl,n,hl,λi q v e H f=>⟨y i q v e H f,g i,(m i q v e H f).2.1,(m i q v e H f).2.2,?_,λA x u a b=>?_⟩⟩
  .simpa using(m i q v e H f).1
  exact hr i q v A x u H a (by simpa using b)
theorem G5(ay:c9 w0 m){id:Nat}(h:cg m (.one (.km id g)) v)(H:m.blk id=(g,some (.map ag j))\/m.blk id=(g,some (.fmap ag j))):
  ∃r E clock,v=.map (some r)/\r=m.σ id/\m.w.heap[r]?=some (.map E clock)/\Jj m.w m.own ag j E:=by
 have h:cY m (.km id g) v:=h;cases h with
 |km r u hr=>
  rcases H with H|H
  .obtain⟨E,clock,n,f,q⟩:=ay.obj id _ (congrArg Prod.snd H);have:=hr (by rw[H]) (by rw[H];rfl);subst this;exact⟨_,E,clock,rfl,rfl,n,f,q⟩
  obtain⟨E,clock,n,f,q,_⟩:=ay.obj id _ (congrArg Prod.snd H);have:=hr (by rw[H]) (by rw[H];rfl);subst this;exact⟨_,E,clock,rfl,rfl,n,f,q⟩
theorem am1(ay:c9 w0 m){r:aA}(h:lh m.blk ag x=some (j,r))(u:cg m x v):
  ∃E:Array MapEntry,((v=.map none/\E= #[])\/ ∃ref clock,v=.map (some ref)/\m.w.heap[ref]?=some (.map E clock))/\Jj m.w m.own ag j E:=by
 unfold lh at h;split at h
 .cases h;exact⟨#[],.inl ⟨aaG u,rfl⟩,rfl,λi q v e h=>by simp at h⟩
 .rename_i Q F;split at h
  .rename_i e;subst e;cases h;obtain⟨hp⟩:cY m _ v:=u;obtain⟨r,E,clock,n,H,f⟩:=ad5 hp;exact⟨E,.inr ⟨r,clock,n,H⟩,f⟩
  cases h
 .rename_i id g;split at h
  .rename_i A Q F y;split at h
   .rename_i z;obtain⟨rfl,rfl⟩:=z;cases h;obtain⟨r,E,clock,n,_,H,f⟩:=G5 ay u (.inl y);exact⟨E,.inr ⟨r,clock,n,H⟩,f⟩
   cases h
  .rename_i A Q F y;split at h
   .rename_i z;obtain⟨rfl,rfl⟩:=z;cases h;obtain⟨r,E,clock,n,_,H,f⟩:=G5 ay u (.inr y);exact⟨E,.inr ⟨r,clock,n,H⟩,f⟩
   cases h
  cases h
 cases h
theorem aq6(ay:c9 w0 m){r:aA}(h:pM m.blk x=some (n,r))(q:cg m x v):
  (v=.map none/\n=0)\/ ∃ref E clock,v=.map (some ref)/\m.w.heap[ref]?=some (.map E clock)/\E.size=n:=by
 unfold pM at h;split at h
 .cases h;exact .inl ⟨aaG q,rfl⟩
 .cases h;obtain⟨hp⟩:cY m _ v:=q;obtain⟨r,E,clock,j,H,f⟩:=ad5 hp;exact .inr ⟨r,E,clock,j,H,f.1⟩
 .rename_i id g;split at h
  .rename_i z Q F u;split at h
   .rename_i y;subst y;cases h;obtain⟨r,E,clock,j,_,H,f⟩:=G5 ay q (.inl u);exact .inr ⟨r,E,clock,j,H,f.1⟩
   cases h
  .rename_i z Q F u;split at h
   .rename_i y;subst y;cases h;obtain⟨r,E,clock,j,_,H,f⟩:=G5 ay q (.inr u);exact .inr ⟨r,E,clock,j,H,f.1⟩
   cases h
  cases h
 cases h
def yv(kind:TypeDesc)(kd:Nat):Prop:=(kd=0/\ ∃k,kind=.int k)\/(kd=1/\kind=.string)\/(kd=2/\kind=.bool)
theorem Xd{t:TypeId}(h:keyOf P t=some kd):∃kind,P.underlying t=some kind/\yv kind kd:=by
 unfold keyOf at h;split at h
 .rename_i k H;cases h;exact⟨_,H,.inl ⟨rfl,_,rfl⟩⟩
 .rename_i H;cases h;exact⟨_,H,.inr (.inl ⟨rfl,rfl⟩)⟩
 .rename_i H;cases h;exact⟨_,H,.inr (.inr ⟨rfl,rfl⟩)⟩
 cases h
theorem OR{w:World}{own:Nat->Prop}{k:PV}{kind:TypeDesc}{b:Bool}(f:yv kind (jd k))(h:BB k q=some b)(g:cl w own k kv)(H:cl w own q qv):Instr.sameNow kind kv qv=some b:=by
 unfold BB at h;split at h
 .rename_i a M c d;split at h
  .rename_i e;subst e;cases h;rcases f with⟨_,x,rfl⟩|⟨e,_⟩|⟨e,_⟩
   .cases g;cases H;simp[Instr.sameNow]
   .simp[jd]at e
   simp[jd]at e
  cases h
 .cases h;rcases f with⟨e,_⟩|⟨_,rfl⟩|⟨e,_⟩
  .simp[jd]at e
  .cases g;cases H;simp[Instr.sameNow]
  simp[jd]at e
 .cases h;rcases f with⟨e,_⟩|⟨e,_⟩|⟨_,rfl⟩
  .simp[jd]at e
  .simp[jd]at e
  cases g;cases H;simp[Instr.sameNow]
 cases h
theorem ana{w:World}{own:Nat->Prop}{k:PV}(h:BB k q=some true)(f:cl w own k kv)(H:cl w own q qv):qv=kv:=by
 unfold BB at h;split at h
 .split at h
  .rename_i e;subst e;simp at h;subst h;cases f;cases H;rfl
  cases h
 .rename_i a b;have e:(a==b):=by simpa using h
  rw[beq_toListBytes]at e;have e:a=b:=by
   have e:a.toList=b.toList:=by simpa using e
   rw[ByteArray.toList_eq,ByteArray.toList_eq]at e;exact ByteArray.ext (SF.1 e)
  subst e;cases f;cases H;rfl
 .simp at h;subst h;cases f;cases H;rfl
 cases h
theorem acq{w:World}{own:Nat->Prop}{k:PV}{kind:TypeDesc}(H:yv kind (jd k))(m:cl w own k kv):∀ {j:cL}{l:List MapEntry}{i:Nat}{f:Option (Nat×c_)},
  I l=I j->(∀(g:Nat) (q:PV) (v:c_) (e:MapEntry),j[g]?=some (q,v)->l[g]?=some e->cl w own q e.key)->uN k j i=some f->
  (f=none/\Instr.findNow kind kv l i=some none)\/ ∃g q v e,f=some (i+g,v)/\j[g]?=some (q,v)/\l[g]?=some e/\BB k q=some true/\Instr.findNow kind kv l i=some (some (i+g,e.val)):=by
 intro j
 induction j with
 |nil=>
  intro l i f hl _ h;simp[uN]at h;cases l with
  |nil=>exact .inl ⟨h.symm,rfl⟩
  |cons _ _=>simp at hl
 |cons p r A=>
  intro l i f hl u h;obtain⟨a,v⟩:=p;cases l with
  |nil=>simp at hl
  |cons e l=>
   have M:=u 0 a v e rfl rfl;simp only[uN]at h;split at h
   .rename_i aa;cases h;exact .inr ⟨0,a,v,e,rfl,rfl,rfl,aa,by simp[Instr.findNow,OR H aa m M]⟩
   .rename_i aa;rcases A (l:=l) (i:=i+1) (f:=f) (by simpa using hl) (λg q v e a b=>u (g+1) q v e (by simpa using a) (by simpa using b)) h with⟨n,E⟩|⟨g,q,y,e',n,E,z,B,x⟩
    .exact .inl ⟨n,by simp[Instr.findNow,OR H aa m M,E]⟩
    refine .inr ⟨g+1,q,y,e',by rw[n];congr 2;omega,by simpa using E,by simpa using z,B,?_⟩;simp only[Instr.findNow,OR H aa m M,x];congr 3;omega
   cases h
theorem aeF{t:TypeId}{kind:TypeDesc}{b:Bool}(w:World)(h:P.underlying t=some kind)(H:yv kind kd)(n:Nat):(Instr.checkKey b (n+1) t v).run P w=.ok () w:=by rcases H with⟨_,k,rfl⟩|⟨_,rfl⟩|⟨_,rfl⟩<;>simp[Instr.checkKey,run_underlying h]
theorem F9{t:TypeId}{kind:TypeDesc}{b:Bool}(w:World)(h:P.underlying t=some kind)(H:yv kind kd):(Instr.checkKey b 10000 t v).run P w=.ok () w:=aeF w h H 9999
theorem afL{w:World}{own:Nat->Prop}{k:PV}{kind:TypeDesc}(H:yv kind (jd k))(h:cl w own k kv)(n:Nat):Instr.sameBits n kv kv:=by
 cases h<;>first
  |(simp[jd,yv]at H;done)
  |(simp[Instr.sameBits];done)
  |(simp[Instr.sameBits,beq_toListBytes];done)
theorem amz{w0 w:World}{own:Nat->Prop}{k:PV}{kind:TypeDesc}(H:yv kind (jd k))(h:cl w0 own k kv):(Instr.keyThatStays kv kv).run P w=.ok kv w:=by rw[Instr.keyThatStays,afL H h,aM rfl];rfl
theorem Kf{t:TypeId}{kind:TypeDesc}{l:List MapEntry}{r:Option (Nat×Value)}(w:World)(h:P.underlying t=some kind)(H:Instr.findNow kind v l 0=some r):(Instr.findKey t v l).run P w=.ok r w:=by simp[Instr.findKey,run_underlying h,H]
theorem acP{v:c_}{g:Array Value}(h:lf ag v=some x)(f:ag->val=.agg g)(H:ag=false-> #[val]=g)(hp:dw m.w m.own v g.toList):cg m x val/\mz m x val:=by
 cases ag with
 |true=>simp only[lf,fu]at h;subst h;exact⟨cg.agg.2 ⟨g,f rfl,hp.Ac⟩,⟨g,f rfl,hp.Ac⟩⟩
 |false=>
  have H:=H rfl;subst H;cases v with
  |nil=>simp[lf]at h
  |cons c r=>
   cases r with
   |nil=>simp only[lf,fu]at h;subst h;have:=hp.2 0 c val rfl rfl;exact⟨k9 this,cY.p this⟩
   |cons _ _=>simp[lf]at h
section
variable {m:aX} {y:bD} {a:Act} {o:Oper} (ay:c9 w0 m) (hr:iw m y a.tmps)
include ay
theorem apa{t f e:TypeId}{s:Nat}(H:o.op=.makeMap t none):
  ft P w0 a.eval o m (.one (.km s ((m.blk s).1+1))) [(s,((m.blk s).1+1,some (.map ag [])))]:=by
 refine⟨.map (some m.w.heap.size),m.fresh (.map #[] 0) s 0 (.map ag []),.inl ?_,aaL ay _ s 0 _ ⟨#[],0,aaU _ s 0 _,rfl,λi q v e h=>by simp at h⟩,J4 _ s 0 _,To ay _ s 0 _,ND _ _ s 0 _,cg.one.2 (.km _ ?_ λ_ _=>?_)⟩
 .simp[execOp,H,Instr.makeMap];rfl
 .simp[aX.fresh,aX.install,aX.later,bj]
 simp[aX.fresh,aX.install,bj]
include hr
theorem aey{c:Call}{x:Operand}{t k e:TypeId}{r:aA}(f:o.op=.call c)(q:c.callee=.builtin .len)(h:c.args= #[x])(j:c.argTypes[0]?=some t)(g:P.underlying t=some (.map k e))
  (v:cE x=some x') (z:pM m.blk (ev y x')=some (n,r)):ft P w0 a.eval o m (.one (.p (.int .i64 n))) []:=by
 refine .calm ay ?_ (k9 (.int _ _));have A:(#[a.eval x]:Array Value)[0]?=some (a.eval x):=rfl;rcases aq6 ay z (eC v hr)with⟨H,rfl⟩|⟨ref,E,clock,H,u,rfl⟩
 .simp[execOp,f,resolve,q,h,j,invoke,builtin,Builtin.len_,run_underlying g,H,goInt]
 simp[execOp,f,resolve,q,h,j,invoke,builtin,Builtin.len_,run_underlying g,H,goInt,GM u]
theorem arY{t kt e:TypeId}{x k:Operand}{ok:Bool}{q:my}{r:aA}{f:Option (Nat×c_)}{w:V}(ho:o.op=.lookup t x k ok)(M:P.underlying t=some (.map kt e))
  (hz:uy P e=some z) (xY:keyOf P kt=some kd) (O:KH P e=q.isSome) (hx:cE x=some x') (hk:cE k=some k') (hm:lh m.blk q.isSome (ev y x')=some (j,r)) (T:ev y k'=.one (.p key)) (qS:jd key=kd)
  (hf:uN key j 0=some f) (hw:lf q.isSome ((f.map (·.2)).getD z)=some w):ft P w0 a.eval o m (if ok then .tup [w,.one (.p (.bool f.isSome))]else w) []:=by
 obtain⟨kind,A,D⟩:=Xd xY;obtain⟨E,LR,hl,dI⟩:=am1 ay hm (eC hx hr);have II:=eC hk hr;rw[T]at II;obtain⟨cR⟩:cY m _ _:=II;have gI:(∃ref clock,a.eval x=.map (some ref)/\m.w.heap[ref]?=some (.map E clock))\/a.eval x=.map none/\E= #[]:=by
  rcases LR with h|h
  .exact .inr h
  exact .inl h
 have key:∀(val:Value) (b:Bool),cg m w val->mz m w val->f.isSome=b->(Instr.lookup t (a.eval x) (a.eval k) ok).run P m.w=.ok (if ok then .tuple #[val,.bool b]else val) m.w->ft P w0 a.eval o m (if ok then .tup [w,.one (.p (.bool f.isSome))]else w) []:=by
  intro val b n jj H F;refine .calm ay (x:=if ok then .tuple #[val,.bool b]else val) ?_ ?_
  .simp[execOp,ho,F]
  cases ok
  .exact n
  refine⟨_,rfl,rfl,λab am u p q=>?_⟩;rcases ab with _|_|ab
  .simp at p q;subst p q;exact jj
  .simp at p q;subst p q;rw[H];exact cY.p (.bool _)
  simp at p
 rcases acq (kind:=kind) (by rw[qS];exact D) cR (l:=E.toList) (by simpa using hl) (λab q v e n H=>(dI ab q v e n (by simpa using H)).1) hf with⟨rfl,Y⟩|⟨ab,q',v,e',rfl,H,F,_,Y⟩
 .obtain⟨Z,i,L,B,Dq,mI,X⟩:=Gk hz;obtain⟨jq,v2⟩:=acP (m:=m) (val:=Z) (g:=Z.cells) hw (λN=>by
    rw[N]at O;unfold KH at O;rw[L]at O;simp only[B]at O;cases Z<;>simp[Value.cells]at O |-) (λN=>by
    rw[N]at O;unfold KH at O;rw[L]at O;simp only[B]at O;cases Z<;>simp[Value.cells]at O |-) (X m.w m.own)
  refine key Z false jq v2 rfl ?_;have R:=Kf (P:=P) m.w A Y;rcases gI with⟨ref,clock,n,H⟩|⟨n,H⟩
  .cases ok<;>simp[Instr.lookup,run_underlying M,n,GM H,F9 m.w A D,R,zeroValue,typeInfo,L,B]
  subst H;cases ok<;>simp[Instr.lookup,run_underlying M,n,F9 m.w A D,Instr.findKey,run_underlying A,Instr.findNow,zeroValue,typeInfo,L,B]
 obtain⟨ad,g,zy,Q,X⟩:=dI ab q' v e' H (by simpa using F);obtain⟨jq,v2⟩:=acP hw zy Q X;refine key e'.val true jq v2 rfl ?_;have R:=Kf (P:=P) m.w A Y;rcases gI with⟨ref,clock,n,H⟩|⟨n,H⟩
 .cases ok<;>simp[Instr.lookup,run_underlying M,n,GM H,F9 m.w A D,R]
 subst H;simp at F
theorem acU{t kt e:TypeId}{x k ab:Operand}{ag:Bool}{id:Nat}{D:dk}{ps:c_}{f:Option (Nat×c_)}(A:o.op=.mapUpdate t x k ab\/o.op=.insert t x k ab)(ht:P.underlying t=some (.map kt e))
  (xY:keyOf P kt=some kd) (hx:cE x=some x') (hk:cE k=some k') (hy:cE ab=some y') (hm:ev y x'=.one (.km id g)) (hb:m.blk id=(g,some (.map ag j))) (an:ev y k'=.one (.p key)) (qS:jd key=kd)
  (cX:sI ag (ev y y')=some D) (dd:xc D=some ps) (hf:uN key j 0=some f):
  ft P w0 a.eval o m .undef [(id,(g,some (.map ag (match f with|some (i,_)=>j.set i (key,ps)|none=>j++[(key,ps)]))))]:=by
 obtain⟨kind,wg,zD⟩:=Xd xY;have O:=eC hx hr;rw[hm]at O;have N:=congrArg Prod.snd hb;have hg:=congrArg Prod.fst hb;obtain⟨ref,E,clock,yi,bg,T,hl,dI⟩:=G5 ay O (.inl hb);subst bg;have II:=eC hk hr;rw[an]at II;obtain⟨M⟩:cY m _ _:=II;have F:=eC hy hr
 have Q:∃L:Array Value,(ag->a.eval ab=.agg L)/\(ag=false-> #[a.eval ab]=L)/\dw m.w m.own ps L.toList:=by
  generalize ev y y'=vy at cX F;cases ag with
  |true=>
   cases vy<;>simp[sI]at cX
   subst cX;obtain⟨arr,H,n⟩:=cg.agg.1 F;exact⟨arr,λ_=>H,λh=>(by cases h),EZ dd n⟩
  |false=>
   cases vy<;>simp[sI]at cX
   subst cX;refine⟨#[a.eval ab],λh=>(by cases h),λ_=>rfl,EZ dd ⟨rfl,λZ x u p q=>?_⟩⟩;rcases Z with _|Z
   .simp at p q;subst p q;exact F
   simp at p
 obtain⟨L,yg,te,Y⟩:=Q;have au:=rY T;have Zo:∀(z:Array MapEntry) (B:Nat) (R:cL),(execOp a.eval o).run P m.w=.ok .skip {m.w with heap:=m.w.heap.setIfInBounds (m.σ id) (.map z B)}->Jj m.w m.own ag R z->
   ft P w0 a.eval o m .undef [(id,(g,some (.map ag R)))]:=by
  intro z B R nh LR;have aa:(m.w.heap.setIfInBounds (m.σ id) (.map z B)).size=m.w.heap.size:=aG;have X:∀c,c≠m.σ id->(m.w.heap.setIfInBounds (m.σ id) (.map z B))[c]?=m.w.heap[c]? :=λc hc=>by rw[G9];rw[aD (λe=>hc e.symm)]
  have ed:eY m (m.hU {m.w with heap:=m.w.heap.setIfInBounds (m.σ id) (.map z B)} id (.map ag R)):=D5 N rfl rfl rfl rfl rfl aa X;refine⟨_,m.hU {m.w with heap:=m.w.heap.setIfInBounds (m.σ id) (.map z B)} id (.map ag R),.inr ⟨nh,rfl⟩,F0 N rfl ay rfl rfl rfl rfl aa X ?_,ed,rfl,?_,rfl⟩
  .refine⟨z,B,?_,LR.1,λi q v e H n=>?_⟩
   .show(m.w.heap.setIfInBounds (m.σ id) (.map z B))[m.σ id]?=_;rw[G9,aM rfl,aM au]
   obtain⟨p1,gg,p2,p3,p4⟩:=LR.2 i q v e H n;exact⟨p1.ev ed.zero,gg,p2,p3,p4.ev ed.zero⟩
  simp only[aX.hU,app,hg]
 rcases acq (kind:=kind) (by rw[qS];exact zD) M (l:=E.toList) (by simpa using hl) (λZ q v e H n=>(dI Z q v e H (by simpa using n)).1) hf with⟨rfl,hn⟩|⟨Z,q',v,e',rfl,n,h3,h4,hn⟩
 .refine Zo (E.push {key:=a.eval k,val:=a.eval ab,born:=clock}) (clock+1) _ ?_ ?_
  .have A6:=Kf (P:=P) m.w wg hn;rcases A with A|A<;>simp[execOp,A,Instr.mapUpdate,run_underlying ht,yi,GM T,F9 m.w wg zD,A6,Xu T]
  refine⟨by simp[hl],λi q v e H n=>?_⟩;by_cases hi:i<I j
  .rw[zV hi]at H;rw[HO,aD J]at n;exact dI i q v e H n
  rw[wM J]at H;have:i=I j:=by
   by_cases h:i-I j=0
   .omega
   have:=(ct.1 H).1;simp at this;omega
  subst this;simp at H;obtain⟨rfl,rfl⟩:=H;rw[HO,aM hl.symm]at n;cases n;exact⟨M,L,yg,te,Y⟩
 have qQ:E[Z]?=some e':=by simpa using h3
 have ad:e'.key=a.eval k:=ana h4 M (dI Z q' v e' n qQ).1;refine Zo (E.modify Z λe=>{e with key:=a.eval k,val:=a.eval ab}) clock _ ?_ ?_
 .have A6:=Kf (P:=P) m.w wg hn;rw[ka]at A6;have am:(Instr.keyThatStays e'.key (a.eval k)).run P m.w=.ok (a.eval k) m.w:=by rw[ad];exact amz (kind:=kind) (by rw[qS];exact zD) M
  rcases A with A|A<;>simp[execOp,A,Instr.mapUpdate,run_underlying ht,yi,GM T,F9 m.w wg zD,A6,Xu T,qQ,am]
 simp only[ka];refine⟨by simp[hl],λi q v e H n=>?_⟩;rw[lC]at H;rw[Pc]at n;by_cases sX:Z=i
 .subst sX;rw[aM rfl]at H;split at H
  .cases H;simp[qQ]at n;subst n;exact⟨M,L,yg,te,Y⟩
  cases H
 rw[aD sX]at H;rw[aD sX]at n;exact dI i q v e H n
end
end
theorem acT{t:TypeId}{b:Bool}(h:Mt P t=some b):(b/\ ∃k,P.underlying t=some (.int k))\/(b=false/\P.underlying t=some .bool):=by
 unfold Mt at h;split at h
 .rename_i k H;cases h;exact .inl ⟨rfl,_,H⟩
 .rename_i H;cases h;exact .inr ⟨rfl,H⟩
 cases h
theorem ao3{a b:PV}{r:Bool}(h:k_ true a b=some r):∃k x y,a=.int k x/\b=.int k y/\r=(x==y):=by
 cases a<;>cases b<;>simp[k_]at h
 exact⟨_,_,_,rfl,by rw[h.1],h.2.symm⟩
theorem akm{a b:PV}{r:Bool}(h:k_ false a b=some r):∃x y,a=.bool x/\b=.bool y/\r=(x==y):=by
 cases a<;>cases b<;>simp[k_]at h
 exact⟨_,_,rfl,rfl,h.symm⟩
theorem afR{as B:dk}{r:Bool}(h:kV [] as B=some r):r:=by
 cases as<;>cases B<;>simp[kV]at h
 exact h
theorem anw{k:Bool}{g:eo}{as f:dk}{r:Bool}(h:kV (k::g) as f=some r):
  ∃a A b B r0,as=.p a::A/\f=.p b::B/\k_ k a b=some r0/\(r0->kV g A B=some r)/\(r0=false->r=false):=by
 cases as with
 |nil=>simp[kV]at h
 |cons x A=>
  cases f with
  |nil=>cases x<;>simp[kV]at h
  |cons y B=>
   cases x<;>cases y<;>simp only[kV]at h<;>try cases h
   rename_i a b;cases H:k_ k a b with
   |none=>simp[H]at h
   |some r0=>
    refine⟨a,A,b,B,r0,rfl,rfl,H,λe=>?_,λe=>?_⟩
    .subst e;simpa [H]using h
    subst e;simp[H]at h;exact h
theorem anl{w:World}(d:Nat):∀ {fs:List Field}{u:eo}{k:Nat}{as z:dk}{r:Bool},DH P k fs=some u->kV u as z=some r->
  (∀(j:Nat) (x:b_),as[j]?=some x->∃v,A[k+j]?=some v/\cY m x v)->(∀(j:Nat) (x:b_),z[j]?=some x->∃v,B[k+j]?=some v/\cY m x v)->
  (Op.eqFields (d+1) A B fs).run P w=.ok r w:=by
 intro fs
 induction fs with
 |nil=>intro u k as z r h L _ _;simp[DH]at h;subst h;rw[afR L];simp[Op.eqFields,Sem.run_pure]
 |cons f fs ih=>
  intro u k as z r h L Z O;simp only[DH]at h;split at h
  .rename_i b yZ Q h2;split at h
   .rename_i hc;obtain⟨S5,E⟩:=hc;cases h;obtain⟨x,ar,y,br,r0,rfl,rfl,N,ht,h⟩:=anw L;obtain⟨R,n,T⟩:=Z 0 (.p x) rfl;obtain⟨kN,g,M⟩:=O 0 (.p y) rfl;obtain⟨T⟩:=T;obtain⟨M⟩:=M;rw[w4]at n g;have Y:∀(X:Array Value) (v:Value),X[k]?=some v->(part f.type X f.offset).run P w=.ok v w:=by
     intro X v hX;have oX:(isAgg f.type).run P w=.ok false w:=by rcases acT Q with⟨_,kk,H⟩|⟨_,H⟩<;>simp[isAgg,run_underlying H]
     rw[S5];simp[part,oX,hX]
    have D:(Op.equalIn (d+1) f.type R kN).run P w=.ok r0 w:=by
     rcases acT Q with⟨rfl,kk,H⟩|⟨rfl,H⟩
     .obtain⟨k',p,q,rfl,rfl,rfl⟩:=ao3 N;cases T;cases M;simp[Op.equalIn,run_underlying H]
     obtain⟨p,q,rfl,rfl,rfl⟩:=akm N;cases T;cases M;simp[Op.equalIn,run_underlying H]
    simp only[Op.eqFields,aM E,Sem.run_bind,Y A R n,Y B kN g,D,Result.andThen_ok];cases r0 with
    |false=>rw[h rfl];simp[Sem.run_pure]
    |true=>simp only[By,ib,if_false];exact ih h2 (ht rfl) (λj x F=>by have:=Z (j+1) x (by simpa using F);rwa[show k+(j+1)=k+1+j by omega]at this) (λj x F=>by have:=O (j+1) x (by simpa using F);rwa[show k+(j+1)=k+1+j by omega]at this)
   cases h
  cases h
def yk:r_->Value->Bool->Prop
 | .ptr,v,b=>∃a,v=.pointer a/\a.isNone=b
 | .slc,v,b=>∃a l c,v=.slice a l c/\a.isNone=b
 | .map,v,b=>∃r,v=.map r/\r.isNone=b
 | .fnc,v,b=>(v=.nilFunc/\b)\/ ∃f x y,v=.func f x y/\b=false
 | .ifc,v,b=>(v=.nilIface/\b)\/ ∃d x,v=.iface d x/\b=false
 |_,_,_=>False
theorem tH{k:r_}{b:Bool}(h:BJ k x=some b)(hr:cg m x v):yk k v b:=by
 unfold BJ at h;split at h<;>cases h
 all_goals first
  |(obtain⟨hp⟩:cY m _ v:=hr;cases hp;first
    |exact⟨_,rfl,rfl⟩
    |exact⟨_,_,_,rfl,rfl⟩
    |exact .inl ⟨rfl,rfl⟩
    |exact .inr ⟨_,_,_,rfl,rfl⟩
    |exact .inr ⟨_,_,rfl,rfl⟩)
  |(have H:cY m _ v:=hr;cases H;first
    |exact⟨_,rfl,rfl⟩
    |exact⟨_,_,_,rfl,rfl⟩
    |exact .inr ⟨_,_,_,rfl,rfl⟩)
def TY(P:Program)(t:TypeId):r_->Prop
 | .bool=>P.underlying t=some .bool
 | .ptr=>∃e,P.underlying t=some (.pointer e)
 | .slc=>∃e,P.underlying t=some (.slice e)
 | .map=>∃a b,P.underlying t=some (.map a b)
 | .fnc=>∃a b c,P.underlying t=some (.func a b c)
 | .ifc=>∃a,P.underlying t=some (.interface a)
 | .str f=>∃fs,P.underlying t=some (.struct fs)/\P.stoodInHeld t=false/\P.eqGuardType P.depth t=false/\DH P 0 fs.toList=some f
theorem abr{t:TypeId}{x y:Operand}{k:r_}(h:Gm P t x y=some k):TY P t k/\(k=.ifc->EL x\/EL y):=by
 unfold Gm at h;split at h
 .rename_i a H;split at h
  .rename_i f;cases h;exact⟨⟨_,H⟩,λ_=>by simpa using f⟩
  cases h
 .rename_i H;cases h;exact⟨H,λe=>by cases e⟩
 .rename_i H;cases h;exact⟨⟨_,H⟩,λe=>by cases e⟩
 .rename_i H;cases h;exact⟨⟨_,H⟩,λe=>by cases e⟩
 .rename_i H;cases h;exact⟨⟨_,_,H⟩,λe=>by cases e⟩
 .rename_i H;cases h;exact⟨⟨_,_,_,H⟩,λe=>by cases e⟩
 .rename_i fs H;split at h
  .rename_i f;simp only[dM]at h;obtain⟨j,g,rfl⟩:=h;simp at f;exact⟨⟨fs,H,f.1,f.2,g⟩,λe=>by cases e⟩
  cases h
 cases h
theorem WH{t:TypeId}{k:r_}{u:Value}{a b:Bool}(w:World)(g:TY P t k)(H:yk k v a)(f:yk k u b)(j:a\/b)(d:Nat):(Op.equalIn (d+1) t v u).run P w=.ok (a&&b) w:=by
 cases k with
 |bool=>exact H.elim
 |str n=>exact H.elim
 |ptr=>obtain⟨e,h⟩:=g;obtain⟨x,rfl,rfl⟩:=H;obtain⟨y,rfl,rfl⟩:=f;cases x<;>cases y<;>simp at j<;>simp[Op.equalIn,run_underlying h]
 |slc=>obtain⟨e,h⟩:=g;obtain⟨x,_,_,rfl,rfl⟩:=H;obtain⟨y,_,_,rfl,rfl⟩:=f;cases x<;>cases y<;>simp at j<;>simp[Op.equalIn,run_underlying h]
 |map=>obtain⟨e,e',h⟩:=g;obtain⟨x,rfl,rfl⟩:=H;obtain⟨y,rfl,rfl⟩:=f;cases x<;>cases y<;>simp at j<;>simp[Op.equalIn,run_underlying h]
 |fnc=>obtain⟨e,e',E,h⟩:=g;rcases H with⟨rfl,rfl⟩|⟨_,_,_,rfl,rfl⟩<;>rcases f with⟨rfl,rfl⟩|⟨_,_,_,rfl,rfl⟩<;>simp at j<;>simp[Op.equalIn,run_underlying h]
 |ifc=>obtain⟨e,h⟩:=g;rcases H with⟨rfl,rfl⟩|⟨_,_,rfl,rfl⟩<;>rcases f with⟨rfl,rfl⟩|⟨_,_,rfl,rfl⟩<;>simp at j<;>simp[Op.equalIn,run_underlying h]
section
variable {m:aX} {y:bD} {a:Act} {o:Oper} (ay:c9 w0 m) (hr:iw m y a.tmps)
include ay hr
theorem akp{t:TypeId}{k:r_}{y:V}{u:Value}{b:Bool}(f:TY P t k)(h:Ae k x y=some b)(H:cg m x v)(n:cg m y u)(d:Nat):(Op.equalIn (d+2) t v u).run P m.w=.ok b m.w:=by
 have M:=ay;have F:=hr;unfold Ae at h;split at h
 .cases h;rw[zS H,zS n];have f:P.underlying t=some .bool:=f;simp only[Op.equalIn,Sem.run_bind,run_underlying f,Result.andThen_ok,Sem.run_pure]
 .obtain⟨A,rfl,z⟩:=cg.agg.1 H;obtain⟨B,rfl,r⟩:=cg.agg.1 n;obtain⟨fs,q,aa,_,D⟩:=f;have vY:P.fieldsOf t=fs:=by simp[Program.fieldsOf,q]
  rw[run_equalIn_agg m.w (d+1) t A B (by rw[vY];exact q) aa,vY];refine anl (w:=m.w) (m:=m) d D h (λj x H=>?_) (λj x H=>?_)
  .have g:j<A.size:=by have:=z.1;simp at this;rw[this];exact(ct.1 H).1
   exact⟨A[j],by simp[g],z.2 j x _ H (by simp[g])⟩
  have g:j<B.size:=by have:=r.1;simp at this;rw[this];exact(ct.1 H).1
  exact⟨B[j],by simp[g],r.2 j x _ H (by simp[g])⟩
 .cases h
 .cases h
 split at h
 .rename_i E;have:=WH (P:=P) m.w f (tH h H) (tH E n) (.inr rfl) (d+1)
  simpa using this
 split at h
 .rename_i L;have:=WH (P:=P) m.w f (tH L H) (tH h n) (.inl rfl) (d+1)
  simpa using this
 cases h
theorem agy{op:BinOp}{t:TypeId}{k:r_}{x Y:Operand}{b:Bool}(D:Gm P t x Y=some k)(O:cE x=some x')(M:cE Y=some y')(h:Ae k (ev y x') (ev y y')=some b):
  (eqGuard op t x Y (a.eval x) (a.eval Y)).run P m.w=.ok () m.w:=by
 have F:=ay;obtain⟨L,py⟩:=abr D;have H:=eC O hr;have j:=eC M hr;by_cases f:op=.eql\/op=.neq
 .unfold Ae at h;split at h
  .rename_i E u;rw[E]at H;rw[zS H,eqGuard_at_bool];rfl
  .rename_i E u;rw[E]at H;rw[u]at j;obtain⟨A,R,_⟩:=cg.agg.1 H;obtain⟨B,X,_⟩:=cg.agg.1 j;obtain⟨fs,_,_,z,_⟩:=L;rw[R,X];exact run_eqGuard_agg m.w op t x Y A B z
  .cases h
  .cases h
  rename_i k q1 q2 q3 q4 q5 q6 q7;have Q:∃r b2,yk k (a.eval x) r/\yk k (a.eval Y) b2:=by
   split at h
   .rename_i v;exact⟨_,_,tH h H,tH v j⟩
   split at h
   .rename_i T;exact⟨_,_,tH T H,tH h j⟩
   cases h
  obtain⟨r,b2,N,Z⟩:=Q;cases k with
  |bool=>exact N.elim
  |str n=>exact N.elim
  |ptr=>obtain⟨q,e,_⟩:=N;rw[e,eqGuard_at_pointer];rfl
  |slc=>obtain⟨q,_,_,e,_⟩:=N;rw[e,eqGuard_at_slice];rfl
  |map=>obtain⟨q,e,_⟩:=N;rw[e,eqGuard_at_map];rfl
  |fnc=>
   rcases N with⟨e,_⟩|⟨_,_,_,e,_⟩
   .rw[e,eqGuard_at_nilFunc];rfl
   rw[e,eqGuard_at_func];rfl
  |ifc=>
   rcases N with⟨e,_⟩|⟨_,_,e,_⟩
   .rcases Z with⟨e',_⟩|⟨_,_,e',_⟩
    .rw[e,e'];have g:(∃c,x=.const c)\/ ∃c,Y=.const c:=by
      rcases py rfl with g|g
      .cases x<;>simp[EL]at g
       exact .inl ⟨_,rfl⟩
      cases Y<;>simp[EL]at g
      exact .inr ⟨_,rfl⟩
     rcases g with⟨c,rfl⟩|⟨c,rfl⟩
     .rw[eqGuard_nil_constL];rfl
     rw[eqGuard_nil_constR];rfl
    rw[e,e',eqGuard_nil_iface];rfl
   rw[e,eqGuard_at_iface];rfl
 have:eqGuard op t x Y (a.eval x) (a.eval Y)=pure ():=by
  cases op<;>first
   |rfl
   |exact(f (.inl rfl)).elim
   |exact(f (.inr rfl)).elim
 rw[this];rfl
theorem an5{t:TypeId}{k:r_}{u:Value}{B:Bool}(aa:(∃p q,v=.bool p/\u=.bool q)\/(∃p q,v=.agg p/\u=.agg q)\/ ∃p q,yk k v p/\yk k u q)(h:(Op.equalIn (9998+2) t v u).run P m.w=.ok B m.w):
  (binOp .eql t v u).run P m.w=.ok (.bool B) m.w/\(binOp .neq t v u).run P m.w=.ok (.bool (!B)) m.w:=by
 have r:=ay;have g:=hr;have j:Op.equal t v u=Op.equalIn (9998+2) t v u:=rfl;have key:binOp .eql t v u=(do pure (.bool (<-Op.equal t v u)))/\binOp .neq t v u=(do pure (.bool (!(<-Op.equal t v u)))):=by
  rcases aa with⟨p,q,rfl,rfl⟩|⟨p,q,rfl,rfl⟩|⟨p,q,H,f⟩
  .exact⟨rfl,rfl⟩
  .exact⟨rfl,rfl⟩
  cases k with
  |bool=>exact H.elim
  |str n=>exact H.elim
  |ptr=>obtain⟨_,rfl,_⟩:=H;obtain⟨_,rfl,_⟩:=f;exact⟨rfl,rfl⟩
  |slc=>obtain⟨_,_,_,rfl,_⟩:=H;obtain⟨_,_,_,rfl,_⟩:=f;exact⟨rfl,rfl⟩
  |map=>obtain⟨_,rfl,_⟩:=H;obtain⟨_,rfl,_⟩:=f;exact⟨rfl,rfl⟩
  |fnc=>rcases H with⟨rfl,_⟩|⟨_,_,_,rfl,_⟩<;>rcases f with⟨rfl,_⟩|⟨_,_,_,rfl,_⟩<;>exact⟨rfl,rfl⟩
  |ifc=>rcases H with⟨rfl,_⟩|⟨_,_,rfl,_⟩<;>rcases f with⟨rfl,_⟩|⟨_,_,rfl,_⟩<;>exact⟨rfl,rfl⟩
 rw[key.1,key.2,j];simp only[Sem.run_bind,h,Result.andThen_ok,Sem.run_pure,and_self]
theorem Zv{op:BinOp}{t T:TypeId}{x Y:Operand}{k:r_}{n b:Bool}(r:o.op=.binOp op t x Y T)(g:(op=.eql/\n=false)\/(op=.neq/\n))(D:Gm P t x Y=some k)(z:cE x=some x')(u:cE Y=some y')
  (h:Ae k (ev y x') (ev y y')=some b):ft P w0 a.eval o m (.one (.p (.bool (if n then !b else b)))) []:=by
 have f:=eC z hr;have H:=eC u hr;have v:=agy ay hr (op:=op) D z u h;have M:=akp ay hr (abr D).1 h f H 9998;have aa:(∃p q,a.eval x=.bool p/\a.eval Y=.bool q)\/(∃p q,a.eval x=.agg p/\a.eval Y=.agg q)\/ ∃p q,yk k (a.eval x) p/\yk k (a.eval Y) q:=by
  unfold Ae at h;split at h
  .rename_i E j;rw[E]at f;rw[j]at H;exact .inl ⟨_,_,zS f,zS H⟩
  .rename_i E j;rw[E]at f;rw[j]at H;obtain⟨A,L,_⟩:=cg.agg.1 f;obtain⟨B,O,_⟩:=cg.agg.1 H;exact .inr (.inl ⟨A,B,L,O⟩)
  .cases h
  .cases h
  split at h
  .rename_i F;exact .inr (.inr ⟨_,_,tH h f,tH F H⟩)
  split at h
  .rename_i N;exact .inr (.inr ⟨_,_,tH N f,tH h H⟩)
  cases h
 obtain⟨r1,R⟩:=an5 ay hr aa M;rcases g with⟨rfl,rfl⟩|⟨rfl,rfl⟩
 .exact .calm ay (by simp[execOp,r,v,r1]) (k9 (.bool _))
 exact .calm ay (by simp[execOp,r,v,R]) (k9 (.bool _))
end
theorem aeM:∀ {j:dC}{B:oU},DX j=some B->∃N:cS,j.flatten=N.map (PV.int .u8)/\B=N.map (λn=>UInt8.ofNat n.toNat)/\I N=I j:=by
 intro j
 induction j with
 |nil=>intro B h;simp[DX]at h;exact⟨[],rfl,h,rfl⟩
 |cons e r m=>
  intro B h;unfold DX at h;split at h
  .rename_i e';cases e'
  .rename_i n R e';cases e';simp only[dM]at h;obtain⟨q,g,rfl⟩:=h;obtain⟨N,u,H,f⟩:=m g;exact⟨n::N,by simp[u],by simp[H],by simp[f]⟩
  cases h
theorem alJ{w:World}{own:Nat->Prop}:∀ {N:cS}{h:List Value},Pw (cl w own) (N.map (PV.int .u8)) h->h=N.map (Value.int .u8):=by
 intro N
 induction N with
 |nil=>intro h H;have:=H.1;simp at this;simp[this]
 |cons n N g=>
  intro h H;cases h with
  |nil=>have:=H.1;simp at this
  |cons v h=>have f:=H.2 0 _ v rfl rfl;cases f;rw[g (h:=h) ⟨by have:=H.1;simpa using this,λj x u a b=>H.2 (j+1) x u (by simpa using a) (by simpa using b)⟩];rfl
theorem aoI:∀(N:cS) (s:ByteArray),N.foldl (λr n=>r.push (UInt8.ofNat n.toNat)) s=⟨s.data++(N.map (λn=>UInt8.ofNat n.toNat)).toArray⟩:=by
 intro N
 induction N with
 |nil=>intro s;cases s;simp
 |cons n N f=>intro s;simp only[qG,ew];rw[f];cases s;simp[ByteArray.push]
section
variable {m:aX} {y:bD} {a:Act} {o:Oper} (ay:c9 w0 m) (hr:iw m y a.tmps)
include ay hr
theorem apn{s d e:TypeId}{x:Operand}{j:dC}{r:aA}{B:oU}(T:o.op=.convert s d x)(aa:P.underlying s=some (.slice e))(Z:P.underlying e=some (.int .u8))(D:P.underlying d=some .string)
  (X:cE x=some x') (dr:eO m.blk (ev y x')=some (j,r,[])) (E:DX j=some B):ft P w0 a.eval o m (.one (.p (.str ⟨B.toArray⟩))) []:=by
 obtain⟨N,M,H,g⟩:=aeM E;obtain⟨ax,f,yi,_,R⟩:=Yx (own:=m.own) ay dr (eC X hr) ⟨λ_ h=>h,λ_ h=>by simp at h⟩;refine .calm ay (x:=.string ⟨B.toArray⟩) ?_ (k9 (.str _));have key:(Conv.bytesToString (.slice ax (I j) f)).run P m.w=.ok (.string ⟨B.toArray⟩) m.w:=by
  by_cases u:j=[]
  .subst u;have:N=[]:=by simpa using g
   subst this;have L:B=[]:=by simpa using H
   subst L;cases ax with
   |none=>simp[Conv.bytesToString,Sem.run_pure];rfl
   |some Q=>have:=run_bytesToString (P:=P) m.w Q 0 f [] (by simp[loadCells,loadCellsFrom,Sem.run_pure]);exact this
  obtain⟨b,O,n,rfl,z,F⟩:=R u;rw[M]at z;have q:=alJ z;have hl:I n=I j:=by rw[q];simpa using g
  have A:(loadCells ⟨b,O,none⟩ (I j)).run P m.w=.ok (N.map (Value.int .u8)).toArray m.w:=by rw[<-hl,<-q];exact run_loadCells_list m.w ⟨b,O,none⟩ n λab v Y=>by rw[Addr.add_lit];exact F ab v Y
  rw[run_bytesToString m.w _ _ f N A,aoI,H];simp[ByteArray.empty,ByteArray.emptyWithCapacity];rfl
 simp only[execOp,T,yi,Sem.run_bind,run_convert_bytes_string m.w s d e ax (I j) f aa Z D,key,Result.andThen_ok,Sem.run_pure]
end
theorem NO{F:Array Operand}{a:dR}(h:ns F.toList=some [a]):∃x,F= #[x]/\cE x=some a:=by
 obtain⟨F⟩:=F;cases F with
 |nil=>simp[ns]at h
 |cons x r=>
  simp only[ns]at h;split at h
  .rename_i y ys f E;cases h;cases r with
   |nil=>exact⟨x,rfl,f⟩
   |cons z r=>simp only[ns]at E;split at E<;>simp at E
  cases h
theorem UW{F:Array Operand}{a b:dR}(h:ns F.toList=some [a,b]):∃x y,F= #[x,y]/\cE x=some a/\cE y=some b:=by
 obtain⟨F⟩:=F;cases F with
 |nil=>simp[ns]at h
 |cons x r=>
  simp only[ns]at h;split at h
  .rename_i y ys E f;cases h;obtain⟨z,H,D⟩:=NO (F:=r.toArray) (by simpa using f);have:r=[z]:=by simpa using congrArg Array.toList H
   subst this;exact⟨x,z,rfl,E,D⟩
  cases h
theorem agU{F:Array TypeId}{t u:TypeId}(H:F[0]?=some t)(h:F[1]?=some u)(aa:F.size=2):F= #[t,u]:=by
 obtain⟨F⟩:=F
 match F,aa with
 |[a,b],_=>simp at H h;subst H h;rfl
theorem afU{α:Type}{j ys:List (List α)}{O:Nat}(h:∀e∈j,I e=sz)(m:∀e∈ys,I e=sz)(hl:O+I ys<=I j):(ez j O ys).flatten=ez j.flatten (O*sz) ys.flatten:=by
 have H:∀k,k<=I j->(j.take k).flatten.length=k*sz:=λk f=>by rw[Cz λe g=>h e (qM g),iU,y_ f]
 have E:j.flatten=(j.take O).flatten++(j.drop O).flatten:=by rw[<-wU,Cb]
 have n:j.flatten=(j.take (O+I ys)).flatten++(j.drop (O+I ys)).flatten:=by rw[<-wU,Cb]
 unfold ez;rw[wU,wU,Cz m];congr 1
 .congr 1
  conv=>rhs;rw[E]
  rw[List.take_left' (H O J)]
 rw[<-gR]
 conv=>rhs;rw[n]
 rw[List.drop_left' (H _ hl)]
theorem api{R:PV->Value->Prop}{v:Array Value}(A:Pw R z v.toList):Pw R (List.replicate n z).flatten (Builtin.zeroCells v n).toList:=by
 have M:I z=v.size:=by have:=A.1;simp at this;omega
 have D:∀e∈List.replicate n z,I e=v.size:=λe m=>by rw[HA m];exact M
 have f:(Builtin.zeroCells v n).toList.length=n*v.size:=by simp[size_zeroCells]
 refine⟨by rw[f,Cz D];simp,λj x u p q=>?_⟩;have g:j<n*v.size:=by have:=(ct.1 q).1;omega
 have r:0<v.size:=by
  rcases Nat.eq_zero_or_pos v.size with h|h
  .rw[h]at g;omega
  exact h
 have H:j/v.size<n:=by rw[Nat.div_lt_iff_lt_mul r];exact g
 have L:j%v.size<v.size:=fO _ r;have m:(List.replicate n z)[j/v.size]?=some z:=by simp[H]
 have y:=B2 D m L;rw[show j/v.size*v.size+j%v.size=j by rw[E4];exact RT j v.size]at y;rw[y]at p;have B:(Builtin.zeroCells v n).toList[j]?=some v[j%v.size]! :=by unfold Builtin.zeroCells;simp[g]
 rw[B]at q;cases q;refine A.2 (j%v.size) x _ p ?_;simp[L]
section
variable {m:aX} {y:bD} {a:Act} {o:Oper} (ay:c9 w0 m) (hr:iw m y a.tmps)
include ay hr
theorem aiz{c:Call}{x:Operand}{t e:TypeId}{bytes:Nat}{v:V}{rd:aA}(ho:o.op=.call c)(hc:c.callee=.builtin .clear)(ap:c.args= #[x])(N:c.argTypes[0]?=some t)
  (he:vj P t=some (e,sz,bytes,z)) (hx:cE x=some x') (hp:bU E y m.blk (.clear z x')=.done v u rd):ft P w0 a.eval o m v u:=by
 obtain⟨i,zv,M,hi,aa,hb,⟨iE,Ik⟩,wc,Dq,mI,dd⟩:=Kl he;have n:=eC hx hr;have run:∀(av:Value) (w':World),(Builtin.clear_ c.argTypes o.type #[a.eval x]).run P m.w=.ok av w'->(execOp a.eval o).run P m.w=.ok (.value av) w':=by intro av w' h;simp[execOp,ho,resolve,hc,ap,invoke,builtin,h]
 have q:(Builtin.clear_ c.argTypes o.type #[a.eval x]).run P m.w=.ok (.tuple #[]) m.w->ft P w0 a.eval o m (.tup []) []:=λh=>
  ⟨.tuple #[],m,.inl (run _ _ h),ay,eY.refl _,rfl,rfl,(⟨#[],rfl,rfl,λar x u h=>by simp at h⟩:cg m (.tup []) _)⟩
 simp only[bU]at hp;split at hp
 .rename_i F;cases hp;rw[F]at n;have n:cY m _ (a.eval x):=n;generalize R:a.eval x=b at n;rw[R]at q;apply q;cases n with
  |p h=>cases h;simp[Builtin.clear_,N,run_underlying M]
 .rename_i F;cases hp;rw[F]at n;have n:cY m _ (a.eval x):=n;generalize R:a.eval x=b at n;rw[R]at q;apply q;cases n with
  |p h=>
   cases h with
   |uB a ab hn hm=>cases a<;>simp[Builtin.clear_,N,run_underlying M]
   |sl b o ab sz f Y h2 h3 h4=>simp[Builtin.clear_,N,run_underlying M]
 .rename_i id g w O len F;rw[F]at n;have n:cY m _ (a.eval x):=n;generalize R:a.eval x=b at n;rw[R]at q run;cases n with
  |hsl ad ab hg hl hm X=>
   split at hp
   .rename_i h0;cases hp;subst h0;apply q;simp[Builtin.clear_,N,run_underlying M]
   rename_i h0;split at hp
   .rename_i g' T D j B;split at hp
    .rename_i vW;obtain⟨ir,Q,H⟩:=vW;cases hp;have bc:(m.blk id).2=some (.arr T D j):=by rw[B]
     obtain⟨_,X,_⟩:=X D (by rw[B];exact ir) (by rw[B];rfl);have X:=X (.inr J);subst X;obtain⟨r,hh,kX,ow,iT,l9,A1,ve⟩:=ay.obj id _ bc;have FG:∀e∈List.replicate len z,I e=D:=λe he=>by rw[HA he];exact Q.symm
     have am:zv.cells.size=D:=by rw[Dq,<-mI,Q]
     have FH:I (List.replicate len z)=len:=GB;have jI:=afU (O:=O) ow FG (by rw[FH];exact H);have dV:(O+len)*D<=I j*D:=j6 _ H;have Yy:I j*D<=m.κ id*D:=j6 _ iT;rw[gR]at dV;generalize hZ:(Builtin.zeroCells zv.cells len).toList=Z;have an:I Z=len*D:=by rw[<-hZ];simp[size_zeroCells,am]
     have L:∀w own,dw w own (List.replicate len z).flatten Z:=λw own=>dw.pw.2 (by rw[<-hZ];exact api (dw.pw.1 (dd w own)));have L1:∀v∈Z,v.oneCell':=λv F=>by
      obtain⟨ar,hj⟩:=iA F;have au:ar<(List.replicate len z).flatten.length:=by rw[<- (L m.w m.own).1];exact(ct.1 hj).1
      exact((L m.w m.own).2 ar _ v (oO au) hj).JB
     have A5:O*D+0+I Z<=r.size:=by rw[an,A1];omega
     have da:=run_storeCells_at P (m.σ id) (O*D) T Z 0 r m.w hh A5 L1;simp only[w4]at da;generalize A:m.w.setRow (m.σ id) (r.toList.take (O*D)++Z++r.toList.drop (O*D+I Z)).toArray=W at da;have AZ:W.heap.size=m.w.heap.size:=by rw[<-A];simp
     have AY:∀c,c≠m.σ id->W.heap[c]?=m.w.heap[c]? :=λc hc=>by rw[<-A];exact setRow_other m.w (m.σ id) c _ hc
     have YP:I (ez j O (List.replicate len z))=I j:=No (by rw[FH];exact H);have ed:=D5 (L:=W) (o:=.arr T D (ez j O (List.replicate len z))) bc rfl (by simp[jl]) (by rw[<-A];rfl) (by rw[<-A];rfl) (by rw[<-A];rfl) AZ AY;have wA:o5 (m.hU W id (.arr T D (ez j O (List.replicate len z)))) id (.arr T D (ez j O (List.replicate len z))):=by
      refine⟨_,by rw[<-A];exact Na hh,kX,?_,by rw[YP];exact iT,l9,?_,?_⟩
      .intro e' CO;unfold ez at CO;simp only[fB]at CO;rcases CO with(h|h)|h
       .exact ow e' (qM h)
       .exact FG e' h
       exact ow e' (rj h)
      .simp[aX.hU];omega
      rw[YP,jI];have Y:=(dw.pw.1 (ve.ev ed.zero)).ez (dw.pw.1 (L (m.hU W id (.arr T D (ez j O (List.replicate len z)))).w (m.hU W id (.arr T D (ez j O (List.replicate len z)))).own)) (O*D);rw[<-adz J (by simp;omega)]at Y;have Y:=dw.pw.2 Y
      simpa [ez]using Y
     refine⟨.tuple #[],m.hU W id (.arr T D (ez j O (List.replicate len z))),.inl (run _ _ ?_),F0 bc rfl ay (by simp[jl]) (by rw[<-A];rfl) (by rw[<-A];rfl) (by rw[<-A];rfl) AZ AY wA,ed,rfl,?_,(⟨#[],rfl,rfl,λar x u h=>by simp at h⟩:cg _ (.tup []) _)⟩
     .obtain⟨k,rfl⟩:∃k,len=k+1:=⟨len-1,J⟩;simp[Builtin.clear_,N,run_underlying M,zeroValue,typeInfo,hi,wc,hZ,da,aX.hU]
     simp[aX.hU,app,B,ir]
    cases hp
   cases hp
 cases hp
end
section
variable {m:aX} {y:bD} {a:Act} {o:Oper} (ay:c9 w0 m) (hr:iw m y a.tmps)
include ay hr
theorem Yw{t F e:TypeId}{x k Y:Operand}{v:V}{rd:aA}(H:o.op=.mapUpdate t x k Y\/o.op=.insert t x k Y)(z:P.underlying t=some (.map F e))
  (X:keyOf P F=some kd) (A:cE x=some x') (B:cE k=some k') (n:cE Y=some y') (hp:bU E y m.blk (.mupd kd ag x' k' y')=.done v u rd):ft P w0 a.eval o m v u:=by
 simp only[bU]at hp;split at hp
 .rename_i id g q D L r M;split at hp
  .rename_i T R j ps O f;split at hp
   .rename_i Q;obtain⟨rfl,rfl,N⟩:=Q;split at hp
    .rename_i i w h;cases hp;exact acU ay hr H z X A B n L O r N M f h
    .rename_i h;cases hp;exact acU ay hr H z X A B n L O r N M f h
    cases hp
   cases hp
  cases hp
 cases hp
theorem aq9{p:nK}{v:V}{rd:aA}(H:Ay P site o=some p)(hp:bU E y m.blk p=.done v u rd):ft P w0 a.eval o m v u:=by
 unfold Ay at H;split at H
 ·
  rename_i x A;simp only[dM]at H;obtain⟨Y,g,rfl⟩:=H;cases hp;exact aa0 ay hr (.inl A) g
 ·
  rename_i x A;simp only[dM]at H;obtain⟨Y,g,rfl⟩:=H;cases hp;exact aa0 ay hr (.inr A) g
 ·
  rename_i c x Y A;split at H
  .rename_i c' x' y' g B F;cases H;simp only[bU]at hp;split at hp
   .rename_i t N;cases hp;exact alq ay hr A g B F N
   cases hp
  cases H
 ·
  rename_i t A;simp only[dM]at H;obtain⟨z,g,rfl⟩:=H;cases hp;exact alL ay A g
 ·
  rename_i t x A;simp only[dM]at H;obtain⟨z,g,rfl⟩:=H;simp only[bU]at hp;split at hp
  .rename_i D cX;cases hp;exact apW ay hr A g cX
  cases hp
 ·
  rename_i t ps A;split at H
  .rename_i fs z g B;split at H
   .rename_i di;simp only[dM]at H;obtain⟨qs,F,rfl⟩:=H;simp only[bU]at hp;split at hp
    .rename_i rs ad;cases hp;exact ahx ay hr A g B di F ad
    cases hp
   cases H
  .rename_i n e z g B;split at H
   .rename_i i hi;simp only[dM]at H;obtain⟨qs,F,rfl⟩:=H;simp only[bU]at hp;split at hp
    .rename_i rs ad;cases hp;exact apt ay hr A g B hi F ad
    cases hp
   cases H
  cases H
 ·
  rename_i t n ps A;split at H
  .rename_i e sz bytes z as g B;split at H
   .rename_i X;cases H;simp only[bU]at hp;split at hp
    .rename_i j gI;obtain⟨g1,g2⟩:=ag8 (s:=site) ay hr A g B X.1 X.2 gI;split at hp
     .rename_i qs an;cases hp;exact g1 qs an
     cases hp;exact g2
    cases hp
   cases H
  cases H
 ·
  rename_i t x A;split at H
  .rename_i k Y g B;cases H;simp only[bU]at hp;split at hp
   .rename_i D r cX;split at hp
    .rename_i v' Z;cases hp;exact ape ay hr A g B cX Z
    cases hp
   cases hp
  cases H
 ·
  rename_i t x Y A;split at H
  .rename_i n x' y' g B F;cases H;simp only[bU]at hp;split at hp
   .rename_i D cX;exact alO ay hr A g B F cX hp
   cases hp
  cases H
 ·
  rename_i x A;simp only[dM]at H;obtain⟨Y,g,rfl⟩:=H;have O:u=[]/\rd=[]:=by simp only[bU]at hp;split at hp<;>cases hp<;>exact⟨rfl,rfl⟩
  obtain⟨rfl,rfl⟩:=O;exact akr ay hr A g hp
 ·
  rename_i op t x Y ty A;split at H
  .rename_i x' y' g B;have Yt:∀(ab:BinOp),p=.bin ab x' y'->ab=op->ft P w0 a.eval o m v u:=by
    intro ab M L;subst M L;simp only[bU]at hp;split at hp
    .rename_i v' Z;cases hp;exact alx ay hr A g B Z
    cases hp
   split at H
   .cases H;exact Yt _ rfl rfl
   .cases H;exact Yt _ rfl rfl
   split at H
   .rename_i k hk;cases H;simp only[bU]at hp;split at hp
    .rename_i b hb;cases hp;exact Zv ay hr (n:=false) A (.inl ⟨rfl,rfl⟩) hk g B hb
    cases hp
   .rename_i k hk;cases H;simp only[bU]at hp;split at hp
    .rename_i b hb;cases hp;exact Zv ay hr (n:=true) A (.inr ⟨rfl,rfl⟩) hk g B hb
    cases hp
   cases H
  cases H
 ·
  rename_i op t x A;split at H
  .simp only[dM]at H;obtain⟨Y,g,rfl⟩:=H;simp only[bU]at hp;split at hp
   .rename_i b M L;cases hp;exact aon ay hr A g L
   .rename_i M L;cases M
   cases hp
  .simp only[dM]at H;obtain⟨Y,g,rfl⟩:=H;simp only[bU]at hp;split at hp
   .rename_i M L;cases M
   .rename_i k n M L;cases hp;exact aec ay hr A g L
   cases hp
  cases H
 ·
  rename_i s d x A;split at H
  .rename_i ks k Y g B F;cases H;simp only[bU]at hp;split at hp
   .rename_i k0 n hn;cases hp;exact al1 ay hr A g B F hn
   cases hp
  .rename_i e Y g B F;split at H
   .rename_i he;cases H;simp only[bU]at hp;split at hp
    .rename_i j r gI;split at hp
     .rename_i bs nM;cases hp;exact apn ay hr A g he B F gI nM
     cases hp
    cases hp
   cases H
  cases H
 ·
  rename_i f x Y A;split at H
  .rename_i x' y' g B;cases H;simp only[bU]at hp;split at hp
   .rename_i D ds M L;cases hp;exact afF ay hr A g B M L
   cases hp
  cases H
 ·
  rename_i t A;split at H
  .simp only[dM]at H;obtain⟨k,g,rfl⟩:=H;cases hp;exact apa (f:=t) (t:=t) (e:=t) ay A
  cases H
 ·
  rename_i t l c A;split at H
  .rename_i e sz bytes z l' c' g B F;cases H;simp only[bU]at hp;split at hp
   .rename_i n n' M L;split at hp
    .rename_i X;obtain⟨rfl,jQ⟩:=X;cases hp;exact ahL ay hr A g B F M L jQ
    cases hp
   cases hp
  cases H
 ·
  rename_i t x lo hi A;split at H
  .rename_i x' zQ v7 g B F;split at H
   .rename_i e N;simp only[dM]at H;obtain⟨sz,T,rfl⟩:=H;simp only[bU]at hp;split at hp
    .rename_i n hn;split at hp
     .rename_i l ap M L;have O:u=[]/\rd=[]:=by
       unfold yP at hp;repeat' split at hp
       all_goals first
        |cases hp
        |skip
       all_goals exact⟨rfl,rfl⟩
      obtain⟨rfl,rfl⟩:=O;exact aek ay hr A N T g B F hn M L hp
     cases hp
    cases hp
   .rename_i N;cases H;simp only[bU]at hp;split at hp
    .rename_i s aa;split at hp
     .rename_i l ap M L;split at hp
      .rename_i X;cases hp;exact afV ay hr A N g B F aa M L X.1 X.2
      cases hp
     cases hp
    cases hp
   cases H
  cases H
 ·
  rename_i s x f A;split at H
  .rename_i fs Y g B;split at H
   .rename_i d hd;split at H
    .rename_i hz;cases H;have O:u=[]/\rd=[]:=by
      simp only[bU]at hp;split at hp<;>cases hp<;>exact⟨rfl,rfl⟩
     obtain⟨rfl,rfl⟩:=O;exact ak1 ay hr A g hd hz B hp
    cases H
   cases H
  cases H
 ·
  rename_i t x f A;split at H
  .rename_i fs Y g B;split at H
   .rename_i d hd;simp only[dM]at H;obtain⟨k,F,rfl⟩:=H;simp only[bU]at hp;split at hp
    .rename_i D cX;split at hp
     .rename_i v' Z;cases hp;exact ajB ay hr A g hd F B cX Z
     cases hp
    cases hp
   cases H
  cases H
 ·
  rename_i t x i A;split at H
  .rename_i x' i' g B;split at H
   .rename_i e N;simp only[dM]at H;obtain⟨sz,F,rfl⟩:=H;have O:u=[]/\rd=[]:=by
     simp only[bU]at hp;repeat' split at hp
     all_goals first
      |cases hp
      |skip
     all_goals exact⟨rfl,rfl⟩
    obtain⟨rfl,rfl⟩:=O;exact aqg ay hr A N F g B hp
   .rename_i n e N;simp only[dM]at H;obtain⟨sz,F,rfl⟩:=H;have O:u=[]/\rd=[]:=by
     simp only[bU]at hp;repeat' split at hp
     all_goals first
      |cases hp
      |skip
     all_goals exact⟨rfl,rfl⟩
    obtain⟨rfl,rfl⟩:=O;exact asj ay hr A N F g B hp
   cases H
  cases H
 ·
  rename_i t x i A;split at H
  .rename_i x' i' g B;split at H
   .rename_i n e N;split at H
    .rename_i sz k F T;cases H;simp only[bU]at hp;split at hp
     .rename_i n' D M L;split at hp
      .rename_i au;split at hp
       .rename_i v' Z;cases hp;exact arf ay hr A N F T g B M au L Z
       cases hp
      cases hp
     cases hp
    cases H
   .rename_i N;cases H;simp only[bU]at hp;split at hp
    .rename_i n s M L;split at hp
     .rename_i b hb;cases hp;exact aoE ay hr A N g B M L hb
     cases hp
    cases hp
   cases H
  cases H
 ·
  rename_i t x k ok A;split at H
  .rename_i kt e x' k' g B F;split at H
   .rename_i z q T h5;split at H
    .rename_i kd h6;split at H
     .rename_i h7;cases H;simp only[bU]at hp;split at hp
      .rename_i j r key M L;split at hp
       .cases hp
       rename_i xY;split at hp
       .rename_i f hf;split at hp
        .rename_i w hw;cases hp;exact arY ay hr A g T h6 h7 B F M L (Classical.not_not.1 xY) hf hw
        cases hp
       cases hp
      cases hp
     cases H
    cases H
   cases H
  cases H
 ·
  rename_i t x k Y A;split at H
  .rename_i kt e x' k' y' g B F T;split at H
   .rename_i q h5;simp only[dM]at H;obtain⟨kd,h6,rfl⟩:=H;exact Yw ay hr (.inl A) g h6 B F T hp
   cases H
  cases H
 ·
  rename_i t x k Y A;split at H
  .rename_i kt e x' k' y' g B F T;split at H
   .rename_i q h5;simp only[dM]at H;obtain⟨kd,h6,rfl⟩:=H;exact Yw ay hr (.inr A) g h6 B F T hp
   cases H
  cases H
 ·
  rename_i x i A;simp only[dM]at H;obtain⟨Y,g,rfl⟩:=H;simp only[bU]at hp;split at hp
  .rename_i h ox;split at hp
   .rename_i v' Z;cases hp;exact ar7 ay hr A g ox Z
   cases hp
  cases hp
 ·
  rename_i c A;split at H
  .rename_i f as g B;simp only[dM]at H;obtain⟨Y,F,rfl⟩:=H;simp only[bU]at hp;repeat' split at hp
   all_goals cases hp
  .rename_i x g B;obtain⟨x0,Q,R⟩:=NO B;split at H
   .rename_i t N;split at H
    .rename_i O;cases H;simp only[bU]at hp;split at hp
     .rename_i s aa;cases hp;exact afh ay hr A g Q N O R aa
     cases hp
    .rename_i e O;cases H;simp only[bU]at hp;split at hp
     .rename_i n hn;cases hp;exact ae5 ay hr A g Q N O R hn
     cases hp
    .rename_i k e O;cases H;simp only[bU]at hp;split at hp
     .rename_i n r hn;cases hp;exact aey ay hr A g Q N O R hn
     cases hp
    cases H
   cases H
  .rename_i x Y g B;obtain⟨x0,y0,Q,R,wE⟩:=UW B;split at H
   .rename_i t u' N O;split at H
    .rename_i e sz bytes z he;split at H
     .rename_i X;cases H;obtain⟨rfl,am⟩:=X;exact afK ay hr A g Q (agU N O am) he R wE hp
     cases H
    cases H
   cases H
  .rename_i x Y g B;obtain⟨x0,y0,Q,R,wE⟩:=UW B;cases H;simp only[bU]at hp;split at hp
   .rename_i k p k' q M L;cases hp;exact aoF ay hr A g Q R wE M L
   cases hp
  .rename_i x Y g B;obtain⟨x0,y0,Q,R,wE⟩:=UW B;cases H;simp only[bU]at hp;split at hp
   .rename_i k p k' q M L;cases hp;exact ah7 ay hr A g Q R wE M L
   cases hp
  .rename_i x g B;obtain⟨x0,Q,R⟩:=NO B;split at H
   .rename_i t N;simp only[dM]at H;obtain⟨⟨e,sz,bytes,z⟩,F,rfl⟩:=H;exact aiz ay hr A g Q N F R hp
   cases H
  cases H
 cases H
end
section
variable{m:aX}{D:dk}
def arb(w:World)(Q:Nat->Prop)(T sz:Nat)(j:dC)(c:Nat)(v:Value):Prop:=∃f g,v=.slice (some ⟨c,0,none⟩) (I j) f/\w.heap[c]?=some (.cells g T (0,0))/\0<sz/\(∀e∈j,I e=sz)/\I j<=f/\f<=maxLen/\g.size=f*sz/\dw w Q j.flatten (g.toList.take (I j*sz))
def oz(w:World)(Q:Nat->Prop):lD->List Value->aA->Prop
 |[],h,B=>h=[]/\B=[]
 | .p x::r,h,B=>∃v L,h=v::L/\cl w Q x v/\oz w Q r L B
 | .own T sz j::r,h,B=>∃v L c y,h=v::L/\B=c::y/\arb w Q T sz j c v/\oz w Q r L y
theorem oz.mono{w:World}(n:∀c,c<w.heap.size-> ¬Q c->w'.heap[c]?=w.heap[c]? /\ ¬Q' c):∀ {R:lD}{h:List Value}{B:aA},(∀c∈B,w'.heap[c]?=w.heap[c]?)->oz w Q R h B->oz w' Q' R h B:=by
 intro R
 induction R with
 |nil=>intro h B _ u;exact u
 |cons r R q=>
  intro h B f u;cases r with
  |p x=>obtain⟨v,L,rfl,D,H⟩:=u;exact⟨v,L,rfl,D.mono n,q f H⟩
  |own Y sz j=>obtain⟨v,L,c,y,rfl,rfl,⟨g,m,N,F,O,T,E,A,z,M⟩,H⟩:=u;exact⟨v,L,c,y,rfl,rfl,⟨g,m,N,by rw[f c aG];exact F,O,T,E,A,z,M.mono n⟩,q (λc X=>f c (by simp[X])) H⟩
theorem oz.less{w:World}(g:∀b,Q' b->Q b){r:lD}{B:aA}(hr:oz w Q r h B):oz w Q' r h B:=hr.mono (λc _ f=>⟨rfl,λH=>f (g c H)⟩) (λ_ _=>rfl)
theorem aeg(ay:c9 w0 m)(H:∀b,Q b->m.own b){c:b_}{x:PV}{q:aA}(h:snap m.blk dS c=some (x,q))(hr:cY m c v)(aa:∀id∈q,¬Q (m.σ id)):cl m.w Q x v:=Df ay dS h hr ⟨H,aa⟩
theorem aa2(ay:c9 w0 m)(hQ:∀b,Q b->m.own b):∀ {D:dk}{R:lD}{o q:aA}{h:List Value},kQ m.blk D=some (R,o,q)->dn m D h->(∀id∈q,¬Q (m.σ id))->
  oz m.w Q R h (o.map m.σ)/\ ∀id∈o,∃O,(m.blk id).2=some O/\O.eV:=by
 intro D
 induction D with
 |nil=>
  intro R o q h M hr _;simp only[kQ,fu,jU]at M;obtain⟨rfl,rfl,rfl⟩:=M;have:h=[]:=by have:=hr.1;simpa using this
  exact⟨⟨this,rfl⟩,λid M=>by simp at M⟩
 |cons c D ih=>
  intro R o q h M hr hq;simp only[kQ]at M;split at M
  .rename_i x o1 q1 F os qs H h2;cases M;cases h with
   |nil=>simp[dn]at hr
   |cons v h=>
    obtain⟨i1,i2⟩:=ih (h:=h) h2 ⟨by have:=hr.1;simpa using this,λam x u a b=>hr.2 (am+1) x u (by simpa using a) (by simpa using b)⟩ (λid n=>hq id (by simp[n]));have Y:cY m c v:=hr.2 0 c v rfl rfl;have f:∀ {y:PV},(snap m.blk dS c).map (λ(v,r)=>((.p v:kj),([]:aA),r))=some (x,o1,q1)->oz m.w Q (x::F) (v::h) ((o1++os).map m.σ)/\ ∀id∈o1++os,∃O,(m.blk id).2=some O/\O.eV:=by intro _ H;simp only[dM]at H;obtain⟨⟨y,r⟩,h3,h4⟩:=H;cases h4;exact⟨⟨v,h,rfl,aeg ay hQ h3 Y (λid n=>hq id (by simp[n])),i1⟩,i2⟩
    unfold iZ at H;split at H
    .rename_i y;cases H;have hy:cl m.w m.own y v:=by cases Y with|p M=>exact M
     exact⟨⟨v,h,rfl,hy.less hQ,i1⟩,i2⟩
    .rename_i id g z len;split at H
     .rename_i g' ty sz j T;split at H
      .rename_i qj;obtain⟨rfl,B⟩:=qj;cases H;have L:(m.blk id).2=some (.arr ty sz j):=by rw[T]
       obtain⟨X,hh,iE,E,hl,r7,cX,dd⟩:=ay.obj id _ L;cases Y with
       |hsl ad ab hg pz an IB=>
        obtain⟨f1,f2,f3⟩:=IB sz (by rw[T]) (by rw[T];rfl);have mZ:=f2 (.inl rfl);have A:ab=m.κ id:=by rw[<-f3,ka]
        rw[tt]at mZ;subst mZ;subst A;have Z:I (j.take len)=len:=by simp;omega
        refine⟨⟨_,h,m.σ id,os.map m.σ,rfl,rfl,⟨m.κ id,X,by rw[Z],hh,iE,λe he=>E e (qM he),by rw[Z];exact pz,r7,cX,?_⟩,i1⟩,?_⟩
        .rw[Z,C7 E];have H:=(dw.pw.1 dd).take (len*sz);rw[D8,y_ (j6 _ B)]at H;exact(dw.pw.2 H).less hQ
        intro am N;simp only[Ei,tz,dL]at N;rcases N with rfl|N
        .exact⟨_,L,rfl⟩
        exact i2 am N
      cases H
     exact f (y:=.uu) H
    exact f (y:=.uu) H
  cases M
theorem ad8:∀(R:lD) (site:Nat) (b M:aB),(∀s,site<=s->(b s).1=(M s).1)->jo b site R=jo M site R:=by
 intro R
 induction R with
 |nil=>intro site b M _;rfl
 |cons r R f=>
  intro site b M h;have H:ej b site r=ej M site r:=by
   cases r with
   |p x=>rfl
   |own T sz j=>simp only[ej,h site (cH _)]
  simp only[jo,H,f (site+1) b M (λs aa=>h s J)]
theorem amG{s c k:Nat}{o:eN}(f:m.fr c):re m (m.install s c k o) where
 own x _ g:=⟨rfl,λh=>g (LA f h)⟩
 gen id:=by
  simp only[aX.install,bj];split
  .rename_i e;subst e;exact Nat.le_succ _
  exact cH _
 ref id H aa:=by
  simp only[aX.install,bj]at H aa |-;split at H
  .rename_i e;subst e;simp at H
  rename_i e;simp only[aD e]at aa |-;exact⟨aa,trivial,trivial,trivial⟩
theorem re.trans{a b c:aX}(h:re a b)(aa:a.w.heap.size<=b.w.heap.size)(k:re b c):re a c where
 own x j n:=by have g:=h.own x j n;have H:=k.own x (vF j aa) g.2;exact⟨H.1.trans g.1,H.2⟩
 gen id:=jO (h.gen id) (k.gen id)
 ref id z f:=by have g:=h.gen id;have H:=k.gen id;obtain⟨m,E,y,q⟩:=k.ref id J f;obtain⟨u,r,F,v⟩:=h.ref id J m;exact⟨u,E.trans r,y.trans F,q.trans v⟩
theorem asa{Y:aX}:∀ {R:lD}{h:List Value}{B:aA}{site:Nat}{m:aX},c9 w0 m->oz m.w m.own R h B->B.Nodup->(∀c∈B,m.fr c/\w0.heap.size<=c)->eY Y m->(∀c∈B,Y.w.heap.size<=c\/Y.eV c)->
  ∃M,M.w=m.w/\c9 w0 M/\eY Y M/\re m M/\(∀c,M.fr c↔m.fr c/\c∉B)/\M.blk=app (jo m.blk site R).2 m.blk/\dn M (jo m.blk site R).1 h:=by
 intro R
 induction R with
 |nil=>intro h B site m ay D _ _ L _;obtain⟨rfl,rfl⟩:=D;exact⟨m,rfl,ay,L,⟨λc _ D=>⟨rfl,D⟩,λ_=>cH _,λ_ _ D=>⟨D,rfl,rfl,rfl⟩⟩,λc=>aG,rfl,rfl,λad x u D=>by simp[jo]at D⟩
 |cons r R ih=>
  intro h B site m ay D fD N L S2;have cons:∀ {M:aX}{x:b_}{F:dk}{v:Value}{h:List Value},cY M x v->dn M F h->dn M (x::F) (v::h):=by
   intro M x F v h X H;refine⟨by simp[H.1],λad y u a b=>?_⟩;cases ad with
   |zero=>simp at a b;subst a b;exact X
   |succ ad=>simp at a b;exact H.2 ad y u a b
  cases r with
  |p x=>obtain⟨v,lL,rfl,X,H⟩:=D;obtain⟨M,e1,e2,e3,E,Z,Q,O⟩:=ih (site:=site+1) ay H fD N L S2;exact⟨M,e1,e2,e3,E,Z,by simpa [jo,ej]using Q,by simpa [jo,ej]using cons (cY.p (X.ev E)) O⟩
  |own T sz j=>
   obtain⟨v,lL,c,yZ,rfl,rfl,⟨f,ab,q1,q2,q3,q4,q5,q6,q7,q8⟩,H⟩:=D;have g:=(N c aG).1;have h0:=amG (s:=site) (k:=f) (o:=.arr T sz j) g;have q:(m.install site c f (.arr T sz j)).σ site=c:=by simp[aX.install,bj]
   have n:(m.install site c f (.arr T sz j)).κ site=f:=by simp[aX.install,bj]
   have sZ:c9 w0 (m.install site c f (.arr T sz j)):=KN ay g (N c aG).2
    ⟨ab,by rw[q];exact q2,q3,q4,by rw[n];exact q5,by rw[n];exact q6,by rw[n];exact q7,dw.ev h0 q8⟩
   have YJ:=n9.1 fD;obtain⟨M,e1,e2,e3,E,Z,Q,O⟩:=ih (site:=site+1) (m:=m.install site c f (.arr T sz j)) sZ (H.less λb hb=>LA g hb) YJ.2
    (λd A=>⟨⟨(N d (by simp[A])).1,λe=>YJ.1 (e▸A)⟩,(N d (by simp[A])).2⟩) (LM L g (S2 c aG)) (λd A=>S2 d (by simp[A]))
   have SL:jo (m.install site c f (.arr T sz j)).blk (site+1) R=jo m.blk (site+1) R:=ad8 _ _ _ _ λs aa=>by simp only[aX.install,bj];rw[aD J]
   rw[SL]at Q O;refine⟨M,e1,e2,e3,h0.trans (cH _) E,λd=>?_,?_,?_⟩
   .rw[Z d];simp only[aX.install,dL,not_or];exact⟨λ⟨⟨a,b⟩,c⟩=>⟨a,b,c⟩,λ⟨a,b,c⟩=>⟨⟨a,b⟩,c⟩⟩
   .rw[Q];rfl
   refine cons ?_ O;have:cY (m.install site c f (.arr T sz j)) (.hsl site ((m.blk site).1+1) sz 0 (I j)) v:=by
    rw[q1];refine .hsl _ _ ?_ q5 q6 λz X H=>?_
    .simp[aX.install,bj]
    have hz:jl ((m.install site c f (.arr T sz j)).blk site)=some sz:=by simp[aX.install,bj,jl]
    rw[hz]at H;cases H;exact⟨rfl,λ_=>by rw[q,tt],by rw[ka];exact n.symm⟩
   exact this.ev E
def tF:RV->Value->List Value->Prop
 | .one _,v,h=>h=[v]
 | .agg l,v,h=>v=.agg h.toArray/\I h=I l
 | .tup _,_,_=>False
def Ag:List RV->List Value->List Value->Prop
 |[],us,h=>us=[]/\h=[]
 |r::R,us,h=>∃u j a b,us=u::j/\h=a++b/\tF r u a/\Ag R j b
def Ca:RV->Value->List Value->Prop
 | .tup R,v,h=>∃arr,v=.tuple arr/\Ag R arr.toList h
 |r,v,h=>tF r v h
theorem dn.take(H:dn m D h)(n:Nat):dn m (D.take n) (h.take n):=dn.pw.2 ((dn.pw.1 H).take n)
theorem dn.drop(H:dn m D h)(n:Nat):dn m (D.drop n) (h.drop n):=dn.pw.2 ((dn.pw.1 H).drop n)
theorem dn.append{f:dk}(H:dn m D h)(k:dn m f us):dn m (D++f) (h++us):=dn.pw.2 ((dn.pw.1 H).append (dn.pw.1 k))
theorem dn.single{c:b_}(h:cY m c v):dn m [c] [v]:=⟨rfl,λj x u a b=>by
 rcases j with _|j
 .simp at a b;subst a b;exact h
 simp at a⟩
theorem ZM{v:V}(H:lJ v=some D)(hr:mz m v val):
  ∃h,dn m D h/\ ∀(R T:lD),I R=I D->(qf v (R++T)).2=T/\jW (qf v (R++T)).1=R/\tF (qf v (R++T)).1 val h:=by
 cases v with
 |undef=>simp[lJ]at H
 |tup h=>simp[lJ]at H
 |one c=>
  simp only[lJ,fu]at H;subst H;refine⟨[val],dn.single hr,λR T hl=>?_⟩
  match R,hl with
  |[r],_=>exact⟨rfl,rfl,rfl⟩
 |agg f=>
  simp only[lJ,fu]at H;subst H;obtain⟨arr,rfl,g⟩:=hr;refine⟨arr.toList,g,λR T hl=>?_⟩;have n:(R++T).take (I f)=R:=by rw[<-hl];exact JP
  have j:(R++T).drop (I f)=T:=by rw[<-hl];exact List.drop_left
  simp only[qf,jW,tF,n,j,true_and];rw[g.1,hl]
theorem ak9:∀ {f:c7}{D:dk}{v:List Value},rl f=some D->Pw (mz m) f v->
  ∃h,dn m D h/\ ∀(r:lD),I r=I D->pO (BY f r)=r/\Ag (BY f r) v h:=by
 intro f
 induction f with
 |nil=>
  intro D v H hr;simp only[rl,fu]at H;subst H;have M:v=[]:=by have:=hr.1;simpa using this
  subst M;refine⟨[],⟨rfl,λj x u a=>by simp at a⟩,λr hl=>?_⟩;have:r=[]:=by simpa using hl
  subst this;exact⟨rfl,rfl,rfl⟩
 |cons w f O=>
  intro D v H hr;simp only[rl]at H;split at H
  .rename_i a b E B;cases H;cases v with
   |nil=>have:=hr.1;simp at this
   |cons val v=>
    obtain⟨g,F,N⟩:=ZM E (hr.2 0 w val rfl rfl);obtain⟨n,R,L⟩:=O (v:=v) B ⟨by have:=hr.1;simpa using this,λj x u p q=>hr.2 (j+1) x u (by simpa using p) (by simpa using q)⟩;refine⟨g++n,F.append R,λr hl=>?_⟩;have X:I r=I a+I b:=by simpa using hl
    obtain⟨A,z,y⟩:=N (r.take (I a)) (r.drop (I a)) (by simp;omega);rw[Cb]at A z y;obtain⟨Q,T⟩:=L (r.drop (I a)) (by simp;omega);simp only[BY,pO,A,z,Q,Ag];exact⟨Cb _ _,val,v,g,n,rfl,rfl,y,T⟩
  cases H
theorem ag4{v:V}(q:pn v=some D)(hr:cg m v val):
  ∃h,dn m D h/\ ∀(r:lD),I r=I D->js (sr v r)=r/\Ca (sr v r) val h:=by
 have one:∀ {v:V},lJ v=some D->mz m v val->(∀r,sr v r=(qf v r).1)->∃h,dn m D h/\ ∀(r:lD),I r=I D->js (sr v r)=r/\Ca (sr v r) val h:=by
  intro v q hr z;obtain⟨h,n,H⟩:=ZM q hr;refine⟨h,n,λr hl=>?_⟩;obtain⟨_,g,f⟩:=H r [] hl;rw[jE]at g f;rw[z];generalize(qf v r).1=y at g f;cases y with
  |tup _=>exact f.elim
  |one c=>exact⟨g,f⟩
  |agg c=>exact⟨g,f⟩
 cases v with
 |tup B=>obtain⟨arr,rfl,aa,A⟩:=hr;obtain⟨h,n,H⟩:=ak9 (m:=m) (v:=arr.toList) q ⟨by simpa using aa,λj x u a b=>A j x u a (by simpa using b)⟩;exact⟨h,n,λr hl=>⟨(H r hl).1,arr,rfl,(H r hl).2⟩⟩
 |undef=>simp[pn,lJ]at q
 |one c=>exact one q hr λ_=>rfl
 |agg c=>exact one q hr λ_=>rfl
theorem OD{a b:List Value}(h:tF r val a)(H:dn m D (a++b)):mz m (m_ r D).1 val/\dn m (m_ r D).2 b:=by
 cases r with
 |tup _=>exact h.elim
 |one c=>
  have h:a=[val]:=h;subst h;cases D with
  |nil=>have:=H.1;simp at this
  |cons x F=>exact⟨H.2 0 x val rfl rfl,by have:=H.drop 1;simpa [m_]using this⟩
 |agg l=>
  obtain⟨rfl,hl⟩:=h;refine⟨⟨_,rfl,?_⟩,?_⟩
  .have:=H.take (I l);rw[<-hl,JP]at this
   simpa [m_,hl]using this
  have:=H.drop (I l);rw[<-hl,List.drop_left]at this
  simpa [m_,hl]using this
theorem aqP:∀ {R:List RV}{D:dk}{us h:List Value},Ag R us h->dn m D h->Pw (mz m) (rr R D) us:=by
 intro R
 induction R with
 |nil=>intro D us h y _;obtain⟨rfl,rfl⟩:=y;exact⟨rfl,λj x u a=>by simp[rr]at a⟩
 |cons r R z=>
  intro D us h y B;obtain⟨u,E,a,b,rfl,rfl,A,H⟩:=y;obtain⟨g,n⟩:=OD A B;have f:=z H n;refine⟨by simp[rr,f.1],λj x v q Q=>?_⟩;cases j with
  |zero=>simp[rr]at q Q;subst q Q;exact g
  |succ j=>simp[rr]at q Q;exact f.2 j x v q Q
theorem ahN(H:Ca r val h)(f:dn m D h):cg m (rF r D) val:=by
 cases r with
 |tup R=>obtain⟨arr,rfl,g⟩:=H;have:=aqP g f;exact⟨arr,rfl,by simpa using this.1,λj x u a b=>this.2 j x u a (by simpa using b)⟩
 |one c=>have:=(OD (b:=[]) (show tF (.one c) val h from H) (by simpa using f)).1;exact cg.of1 this
 |agg c=>have:=(OD (b:=[]) (show tF (.agg c) val h from H) (by simpa using f)).1;exact cg.of1 this
end
section
variable{M:aB}{r:aA}{site:Nat}{v:V}{D:nn}{E:jH}{y:bD}{Y:iH}
def ij(ids:aA)(b M:aB):Prop:=∀id∈ids,M id=b id
def pP(T:aA)(e e':bD):Prop:=∀t∈T,e' t=e t
theorem ij.left{x y:aA}{b:aB}(h:ij (x++y) b M):ij x b M:=λi H=>h i (by simp[H])
theorem ij.right{x y:aA}{b:aB}(h:ij (x++y) b M):ij y b M:=λi H=>h i (by simp[H])
theorem pP.left{x y:aA}{b M:bD}(h:pP (x++y) b M):pP x b M:=λi H=>h i (by simp[H])
theorem pP.right{x y:aA}{b M:bD}(h:pP (x++y) b M):pP y b M:=λi H=>h i (by simp[H])
section
variable {e e':bD}
theorem fe{a:dR}(h:pP a.tmps e e'):ev e' a=ev e a:=by
 cases a with
 |t n=>exact h n (by simp[dR.tmps])
 |_=>rfl
theorem akv:∀ {as:kH},pP (zR as) e e'->as.map (ev e')=as.map (ev e):=by
 intro as
 induction as with
 |nil=>intro _;rfl
 |cons a r f=>intro h;simp only[ew];rw[fe h.left,f h.right]
theorem VV:∀ {as:kH},pP (zR as) e e'->tp e' as=tp e as:=by
 intro as
 induction as with
 |nil=>intro _;rfl
 |cons a r f=>intro h;simp only[tp];rw[fe h.left,f h.right]
theorem apB:∀ {as:kH},pP (zR as) e e'->wI e' sz as=wI e sz as:=by
 intro as
 induction as with
 |nil=>intro _;rfl
 |cons a r f=>intro h;simp only[wI];rw[fe h.left,f h.right]
theorem aov:∀ {as:List (Nat×Nat×dR)},pP (Vf as) e e'->vi e' as=vi e as:=by
 intro as
 induction as with
 |nil=>intro _;rfl
 |cons a r f=>intro h;obtain⟨x,y,a⟩:=a;simp only[vi];rw[fe h.left,f h.right]
theorem Ic{d:Nat}{a:Option dR}(h:pP (Uq a) e e'):qB e' d a=qB e d a:=by
 cases a with
 |none=>rfl
 |some a=>simp only[qB];rw[fe h]
theorem aea{a:dR}(h:pP a.tmps e e'):AG e' a=AG e a:=by unfold AG;rw[fe h]
theorem Vk{E:Nat->Bool}{blk:aB}{p:nK}(h:pP p.tmps e e'):bU E e' blk p=bU E e blk p:=by
 cases p with
 |mj x=>simp only[bU,fe (a:=x) h]
 |pick c a b=>simp only[bU,fe (a:=c) h.left.left,fe (a:=a) h.left.right,fe (a:=b) h.right]
 |alloc s z=>rfl
 |box s x=>simp only[bU,fe (a:=x) h]
 |build z ps=>simp only[bU,aov (as:=ps) h]
 |Hr s T sz ps=>simp only[bU,apB (as:=ps) h]
 |load k x=>simp only[bU,fe (a:=x) h]
 |store n a x=>simp only[bU,fe (a:=a) h.left,fe (a:=x) h.right]
 |Jw x=>simp only[bU,fe (a:=x) h]
 |bin op x y=>simp only[bU,fe (a:=x) h.left,fe (a:=y) h.right]
 |eqc k n x y=>simp only[bU,fe (a:=x) h.left,fe (a:=y) h.right]
 |un op x=>simp only[bU,fe (a:=x) h]
 |conv k x=>simp only[bU,fe (a:=x) h]
 |bstr x=>simp only[bU,fe (a:=x) h]
 |mkfn f a b=>simp only[bU,VV (as:=a) h.left,VV (as:=b) h.right]
 |mkmap s ag=>rfl
 |Jq s T sz bytes z l c=>simp only[bU,fe (a:=l) h.left,fe (a:=c) h.right]
 |slice sz x L H=>simp only[bU,fe (a:=x) h.left.left,Ic (a:=L) h.left.right,Ic (a:=H) h.right]
 |sslice x L H=>simp only[bU,fe (a:=x) h.left.left,Ic (a:=L) h.left.right,Ic (a:=H) h.right]
 |xK O x=>simp only[bU,fe (a:=x) h]
 |Jc sz x i=>simp only[bU,fe (a:=x) h.left,fe (a:=i) h.right]
 |G0 l sz x i=>simp only[bU,fe (a:=x) h.left,fe (a:=i) h.right]
 |fld O k x=>simp only[bU,fe (a:=x) h]
 |aidx l sz k x i=>simp only[bU,fe (a:=x) h.left,fe (a:=i) h.right]
 |sidx x i=>simp only[bU,fe (a:=x) h.left,fe (a:=i) h.right]
 |lookup kd z ag ok x k=>simp only[bU,fe (a:=x) h.left,fe (a:=k) h.right]
 |mupd kd ag m k v=>simp only[bU,fe (a:=m) h.left.left,fe (a:=k) h.left.right,fe (a:=v) h.right]
 |bad=>rfl
 |extract x i=>simp only[bU,fe (a:=x) h]
 |call s f as=>simp only[bU,aea (a:=f) h.left,akv (as:=as) h.right]
 |slen x=>simp only[bU,fe (a:=x) h]
 |Mh x=>simp only[bU,fe (a:=x) h]
 |mlen x=>simp only[bU,fe (a:=x) h]
 |append s T sz b x y=>simp only[bU,fe (a:=x) h.left,fe (a:=y) h.right]
 |max x y=>simp only[bU,fe (a:=x) h.left,fe (a:=y) h.right]
 |min x y=>simp only[bU,fe (a:=x) h.left,fe (a:=y) h.right]
 |clear z x=>simp only[bU,fe (a:=x) h]
end
section
variable {b M:aB}
theorem t_{α β:Type}{f g:α->Option (β×aA)}(j:∀x y r,f x=some (y,r)->ij r b M->g x=some (y,r)):∀ {F:List α}{ys:List β}{r:aA},fk f F=some (ys,r)->ij r b M->fk g F=some (ys,r):=by
 intro F
 induction F with
 |nil=>intro ys r h _;exact h
 |cons x F m=>
  intro ys r h H;simp only[fk]at h |-;split at h
  .rename_i y p B q E n;cases h;rw[j _ _ _ E H.left,m n H.right]
  cases h
theorem Gj:∀(n:Nat) (c:b_) (x:PV) (r:aA),snap b n c=some (x,r)->ij r b M->snap M n c=some (x,r):=by
 intro n
 induction n with
 |zero=>intro c x r h;simp[snap]at h
 |succ n u=>
  intro c x r h j;cases c with
  |p v=>exact h
  |bg id g O=>
   have H:id∈r:=by
    simp only[snap]at h
    (repeat' split at h)<;>first
     |cases h
     |skip
    all_goals simp
   have m:=j id H;simp only[snap]at h |-;rw[m];split at h
   .split at h
    .rename_i A;rw[aM A];split at h
     .rename_i D;cases h;rw[t_ u D (λi B=>j i (by simp[B]))]
     cases h
    cases h
   .exact h
   cases h
  |dr id g i O=>
   have H:id∈r:=by
    simp only[snap,dM]at h
    (repeat' split at h)<;>first
     |cases h
     |skip
    all_goals(simp only[dM]at h;obtain⟨e,_,h⟩:=h;cases h;simp)
   have m:=j id H;simp only[snap]at h |-;rw[m];exact h
  |hsl id g z O len=>
   have H:id∈r:=by
    simp only[snap]at h
    (repeat' split at h)<;>first
     |cases h
     |skip
    all_goals simp
   have m:=j id H;simp only[snap]at h |-;rw[m];split at h
   .exact h
   .exact h
   .split at h
    .rename_i A;rw[aM A];split at h
     .rename_i D;cases h;rw[t_ (λ_ _ _ p q=>t_ u p q) D (λi B=>j i (by simp[B]))]
     cases h
    cases h
   cases h
  |km id g=>
   have H:id∈r:=by
    simp only[snap]at h
    (repeat' split at h)<;>first
     |cases h
     |skip
    all_goals simp
   have m:=j id H;simp only[snap]at h |-;rw[m];exact h
  |hfn f x y=>
   simp only[snap]at h |-;split at h
   .rename_i F E;cases h;rw[t_ u F j.left,t_ u E j.right]
   cases h
theorem anT(x y:V)(r:aA)(h:lI b x=some (y,r))(g:ij r b M):lI M x=some (y,r):=by
 cases x with
 |undef=>simp[lI]at h
 |tup _=>simp[lI]at h
 |one c=>simp only[lI,dM]at h |-;obtain⟨⟨p,q⟩,f,H⟩:=h;cases H;exact⟨_,Gj _ _ _ _ f g,rfl⟩
 |agg D=>simp only[lI,dM]at h |-;obtain⟨⟨p,q⟩,f,H⟩:=h;cases H;exact⟨_,t_ (Gj _) f g,rfl⟩
theorem amN(h:xR b F=some (ys,r))(H:ij r b M):xR M F=some (ys,r):=t_ anT h H
theorem am9{all:aA}{id:Nat}(h:sR b all id=some u)(f:id∈all)(H:ij all b M):sR M all id=some u:=by
 have m:=H id f;unfold sR at h |-;rw[m];split at h
 .split at h
  .rename_i ps r g;split at h
   .rename_i hr;have n:ij r b M:=λi j=>H i (by have:=gL.1 hr i j;simpa using this);rw[t_ (Gj _) g n];simp only;rw[aM hr];exact h
   cases h
  cases h
 .exact h
 .split at h
  .rename_i ps r g;split at h
   .rename_i hr;have n:ij r b M:=λi j=>H i (by have:=gL.1 hr i j;simpa using this);rw[t_ (λ_ _ _ p q=>t_ (Gj _) p q) g n];simp only;rw[aM hr];exact h
   cases h
  cases h
 .exact h
 .cases h
 exact h
theorem ap4{all:aA}(g:ij all b M):∀ {ids:aA}{u:iB},(∀i∈ids,i∈all)->pT b all ids=some u->pT M all ids=some u:=by
 intro ids
 induction ids with
 |nil=>intro u _ h;exact h
 |cons i r m=>
  intro u aa h;simp only[pT]at h |-;split at h
  .rename_i x y n H;cases h;rw[am9 n (aa i aG) g,m (λj f=>aa j (by simp[f])) H]
  cases h
theorem FJ{ids:aA}(h:oa b ids=some u)(H:ij ids b M):oa M ids=some u:=ap4 H (λ_ h=>h) h
theorem apQ{r:kj}(h:ij ((ej b site r).2.map (·.1)) b M):ej M site r=ej b site r:=by
 cases r with
 |p x=>rfl
 |own T sz j=>simp only[ej];rw[h site (by simp[ej])]
theorem aiv:∀ {R:lD}{site:Nat},ij ((jo b site R).2.map (·.1)) b M->jo M site R=jo b site R:=by
 intro R
 induction R with
 |nil=>intro site _;rfl
 |cons r R f=>intro site h;simp only[jo,q_]at h |-;rw[apQ h.left,f h.right]
theorem Yv{r:RV}(h:ij ((gX b site r).2.map (·.1)) b M):gX M site r=gX b site r:=by unfold gX at h |-;simp only at h;rw[aiv h]
theorem ak7{rd:aA}{r:RV}(h:d_ b rd site r=some (v,u))(j:ij rd b M)(H:ij (u.map (·.1)) b M):d_ M rd site r=some (v,u):=by
 unfold d_ at h |-;split at h
 .rename_i f;rw[aM f];cases h;rw[Yv H];rfl
 rename_i f;rw[aD f];split at h
 .rename_i F g;cases h;rw[FJ g j];simp only;rw[q_]at H;rw[Yv H.right]
 cases h
theorem V3{D:dk}(h:x_ b x=some (D,r))(f:ij r b M):x_ M x=some (D,r):=by
 have key:∀id,(id∈r->M id=b id):=λid H=>f id H;unfold x_ at h |-;split at h
 .exact h
 .rename_i id g O;have H:id∈r:=by
   (repeat' split at h)<;>first
    |cases h
    |skip
   all_goals simp
  simp only[key id H];exact h
 .rename_i id g i O;have H:id∈r:=by
   (repeat' split at h)<;>first
    |cases h
    |skip
   all_goals(simp only[dM]at h;obtain⟨e,_,h⟩:=h;cases h;simp)
  simp only[key id H];exact h
 cases h
theorem agx(h:pM b x=some (n,r))(f:ij r b M):pM M x=some (n,r):=by
 have key:∀id,(id∈r->M id=b id):=λid H=>f id H;unfold pM at h |-;split at h
 .exact h
 .exact h
 .rename_i id g;have H:id∈r:=by
   (repeat' split at h)<;>first
    |cases h
    |skip
   all_goals simp
  simp only[key id H];exact h
 cases h
theorem ajM(h:lh b ag x=some (j,r))(f:ij r b M):lh M ag x=some (j,r):=by
 have key:∀id,(id∈r->M id=b id):=λid H=>f id H;unfold lh at h |-;split at h
 .exact h
 .exact h
 .rename_i id g;have H:id∈r:=by
   (repeat' split at h)<;>first
    |cases h
    |skip
   all_goals simp
  simp only[key id H];exact h
 cases h
theorem Hy{j:dC}{fr:aA}(h:eO b x=some (j,r,fr))(m:ij r b M)(f:ij fr b M):eO M x=some (j,r,fr):=by
 have key:∀id,(id∈r->M id=b id):=λid H=>m id H;unfold eO at h |-;split at h
 .exact h
 .exact h
 .rename_i id g z O len;have H:id∈r:=by
   (repeat' split at h)<;>first
    |cases h
    |skip
   all_goals simp
  simp only[key id H];split at h
  .exact h
  .exact h
  .split at h
   .rename_i u;rw[aM u];split at h
    .rename_i n;cases h;rw[t_ (λ_ _ _ p q=>t_ (Gj _) p q) n f]
    cases h
   cases h
  exact h
 cases h
theorem anZ{a:V}{F:dk}(h:vH b a n F=.done v u r)(f:ij r b M):vH M a n F=.done v u r:=by
 have key:∀id,(id∈r->M id=b id):=λid H=>f id H;unfold vH at h |-;split at h
 .cases h
 rename_i j;rw[aD j];split at h
 .rename_i id g O;have H:id∈r:=by
   (repeat' split at h)<;>first
    |cases h
    |skip
   all_goals simp
  simp only[key id H];exact h
 .rename_i id g i O;have H:id∈r:=by
   (repeat' split at h)<;>first
    |cases h
    |skip
   all_goals simp
  simp only[key id H];exact h
 cases h
theorem ake{T bytes:Nat}{s:V}(h:ae b site T sz bytes s x=.done v u r)(n:ij r b M):ae M site T sz bytes s x=.done v u r:=by
 unfold ae at h |-;split at h
 .cases h
 rename_i new rd fr dr;split at h
 .cases h
 rename_i m;split at h
 .cases h
 rename_i F Q;have f:∀ {l:aA},(∀i∈l,i∈r)->ij l b M:=λhl i H=>n i (hl i H);split at h
 .split at h
  .rename_i q;cases h;rw[Hy dr n.left n.right];simp only;rw[aD m,FJ Q n.right];simp only;rw[aM q]
  rename_i q;split at h
  .rename_i hr;cases h;rw[Hy dr (f λi H=>by simp[H]) (f λi H=>by simp[H])];simp only;rw[aD m,FJ Q (f λi H=>by simp[H])];simp only;rw[aD q,aM hr,n site aG]
  cases h
 .split at h
  .cases h
  rename_i q;split at h
  .rename_i hr;cases h;rw[Hy dr (f λi H=>by simp[H]) (f λi H=>by simp[H])];simp only;rw[aD m,FJ Q (f λi H=>by simp[H])];simp only;rw[aD q,aM hr,n site aG]
  cases h
 .rename_i id g z len;split at h
  .rename_i E B D j A;split at h
   .rename_i hr;cases h;rw[Hy dr (f λi H=>by simp[H]) (f λi H=>by simp[H])];simp only;rw[aD m,FJ Q (f λi H=>by simp[H])];simp only;have y:=n id aG;rw[A]at y;simp only[y];rw[aM hr,n site aG]
   cases h
  cases h
 cases h
end
theorem aeZ{E:Nat->Bool}{e:bD}{b:aB}{p:nK}(h:bU E e b p=.done v u r)(H:ij r b M):bU E e M p=.done v u r:=by
 cases p with
 |alloc s z=>simp only[bU,vv.done.injEq]at h |-;obtain⟨R,O,B⟩:=h;rw[H s (by rw[<-B];simp)];exact⟨R,O,B⟩
 |mkmap s ag=>simp only[bU,vv.done.injEq]at h |-;obtain⟨R,O,B⟩:=h;rw[H s (by rw[<-B];simp)];exact⟨R,O,B⟩
 |box s x=>
  simp only[bU]at h |-;split at h
  .cases h;rw[H s aG]
  cases h
 |Hr s X sz ps=>
  simp only[bU]at h |-;split at h
  .split at h
   .cases h;rw[H s aG]
   cases h;rw[H s aG]
  cases h
 |Jq s X sz bytes z l c=>
  simp only[bU]at h |-;split at h
  .split at h
   .rename_i F;cases h;rw[aM F,H s aG]
   cases h
  cases h
 |load k x=>
  simp only[bU]at h |-;split at h
  .rename_i D q L;split at h
   .rename_i v' hv;cases h;rw[V3 L H];simp only[hv]
   cases h
  cases h
 |store n a x=>
  simp only[bU]at h |-;split at h
  .exact anZ h H
  cases h
 |bstr x=>
  simp only[bU]at h |-;split at h
  .rename_i j q L;split at h
   .rename_i bs A;cases h;rw[Hy L H (λi hi=>by simp at hi)];simp only[A]
   cases h
  cases h
 |lookup kd z ag ok x k=>
  simp only[bU]at h |-;split at h
  .rename_i j q key hm hk;split at h
   .cases h
   rename_i Z;split at h
   .rename_i f N;split at h
    .rename_i w hw;cases h;rw[ajM hm H,hk];simp only;rw[aD Z];simp only[N,hw]
    cases h
   cases h
  cases h
 |clear z x=>
  simp only[bU]at h |-;split at h
  .cases h;rfl
  .cases h;rfl
  .rename_i id g w ab len e;split at h
   .rename_i T;cases h;simp only[T,if_true]
   rename_i T;split at h
   .rename_i g' X sz j Q;split at h
    .rename_i F;cases h;have A:=H id aG;rw[Q]at A;rw[aD T];simp only[A];rw[aM F]
    cases h
   cases h
  cases h
 |mupd kd ag m k v=>
  simp only[bU]at h |-;split at h
  .rename_i id g q D R O B;split at h
   .rename_i g' qE j ps Q Y;split at h
    .rename_i F;split at h
     .rename_i i w N;cases h;have A:=H id aG;rw[Q]at A;simp only[A,Y];rw[aM F];simp only[N]
     .rename_i N;cases h;have A:=H id aG;rw[Q]at A;simp only[A,Y];rw[aM F];simp only[N]
     cases h
    cases h
   cases h
  cases h
 |mlen x=>
  simp only[bU]at h |-;split at h
  .rename_i n q L;cases h;rw[agx L H]
  cases h
 |append s X sz bytes x y=>exact ake h H
 |call s f as=>
  simp only[bU]at h
  (repeat' split at h)<;>cases h
 |_=>exact h
theorem aiT{E:Nat->Bool}{e:bD}{b:aB}{p:nK}{s:Nat}{h:c7}(H:bU E e b p=.pc f h r s)(g:ij r b M):bU E e M p=.pc f h r s:=by
 cases p with
 |call s f as=>
  simp only[bU]at H |-;split at H
  .split at H
   .cases H
   rename_i D;rw[aD D];split at H
   .rename_i aa;cases H;rw[amN aa g]
   cases H
  cases H
 |_=>
  (simp only[bU,vH,ae,yP,reduceCtorEq]at H)<;>(repeat' split at H)<;>cases H
theorem alE{E:Nat->Bool}{e:bD}{b:aB}{p:nK}{h:c7}(H:bU E e b p=.sc f h):bU E e M p=.sc f h:=by
 cases p with
 |call s f as=>
  simp only[bU]at H |-;split at H
  .split at H
   .rename_i D;rw[aM D];exact H
   split at H<;>cases H
  cases H
 |_=>
  (simp only[bU,vH,ae,yP,reduceCtorEq]at H)<;>(repeat' split at H)<;>cases H
theorem anj:∀(u:iB) (b M:aB) (id:Nat),id∈u.map (·.1)->app u b id=app u M id:=by
 intro u
 induction u with
 |nil=>intro b M id h;simp at h
 |cons x u f=>
  intro b M id h;obtain⟨i,o⟩:=x;simp only[app];by_cases H:id∈u.map (·.1)
  .exact f _ _ _ H
  have g:id=i:=by simpa [H]using h
  have key:∀(u:iB) (b:aB),id∉u.map (·.1)->app u b id=b id:=by
   intro u
   induction u with
   |nil=>intro b _;rfl
   |cons x u f=>intro b h;obtain⟨j,o⟩:=x;simp only[ew,dL,not_or]at h;simp only[app];rw[f _ h.2,bj,aD h.1]
  rw[key u _ H,key u _ H,bj,bj,aM g,aM g]
theorem PT:∀(u:iB) (b:aB) (id:Nat),id∉u.map (·.1)->app u b id=b id:=by
 intro u
 induction u with
 |nil=>intro b id _;rfl
 |cons x u f=>intro b id h;obtain⟨j,o⟩:=x;simp only[ew,dL,not_or]at h;simp only[app];rw[f _ _ h.2,bj,aD h.1]
theorem ajn{e e':bD}{g:Option (Nat×Bool)}(h:∀t w,g=some (t,w)->e' t=e t):n0 e' g=n0 e g:=by
 cases g with
 |none=>rfl
 |some q=>obtain⟨t,w⟩:=q;simp only[n0,h t w rfl]
def fP.writes(f:fP)(id:Nat):Bool:=f.wr.contains id||f.fs.contains (lG id)
def fP.ru(f:fP)(id:Nat):Bool:=f.rd.contains id||f.writes id
theorem acG{b:aB}:∀(n:Nat) (c:b_),ij (kP b n c) b M->kP M n c=kP b n c:=by
 intro n
 induction n with
 |zero=>intro c _;rfl
 |succ n u=>
  have m:∀(D:dk),ij (D.map (kP b n)).flatten b M->(D.map (kP M n)).flatten=(D.map (kP b n)).flatten:=by
   intro D
   induction D with
   |nil=>intro _;rfl
   |cons c D r=>intro h;simp only[ew,kT]at h |-;rw[u c h.left,r h.right]
  intro c h;cases c with
  |p v=>rfl
  |bg id g O=>
   simp only[kP]at h |-;have H:=h id aG;rw[H];split
   .rename_i D j;rw[j]at h;rw[m D (λi q=>h i (by simp only[dL];exact .inr q))]
   rfl
  |dr id g i O=>
   simp only[kP]at h |-;have H:=h id aG;rw[H];split
   .rename_i D j;rw[j]at h;rw[m _ (λi q=>h i (by simp only[dL];exact .inr q))]
   rfl
  |hsl id g z O len=>
   simp only[kP]at h |-;have H:=h id aG;rw[H];split
   .rename_i D j;rw[j]at h;rw[m _ (λi q=>h i (by simp only[dL];exact .inr q))]
   rfl
  |km id g=>rfl
  |hfn f x y=>simp only[kP]at h |-;rw[m x h.left,m y h.right]
theorem akK{b:aB}(v:V)(h:ij (kr b v) b M):kr M v=kr b v:=by
 cases v with
 |undef=>rfl
 |tup _=>rfl
 |one c=>exact acG _ _ h
 |agg D=>
  simp only[kr]at h |-
  induction D with
  |nil=>rfl
  |cons c D f=>simp only[ew,kT]at h |-;rw[acG _ c h.left,f h.right]
theorem ahX{h:c7}{b:aB}(H:ij (gr E f h b).ids b M):gr E f h M=gr E f h b:=by
 have:(h.map (kr M)).flatten=(h.map (kr b)).flatten:=by
  unfold gr at H;simp only at H
  induction h with
  |nil=>rfl
  |cons v h g=>simp only[ew,kT]at H |-;rw[akK v H.left,g H.right]
 unfold gr;rw[this]
def vN(D:nn):Prop:=∀f h al blk v L,D f h al blk=some (v,L)->(∀id,al.ok id=false->L id=blk id)/\
 ∀aV,(∀id,al.ok id->aV id=blk id)->∃g,D f h al aV=some (v,g)/\ ∀id,g id=if al.ok id then L id else aV id
theorem L3{al:bP}{l:aA}(h:al.fG l){id:Nat}(H:id∈l):al.ok id:=gL.1 h id H
theorem aej{a b:bP}(j:b.any=false)(h:a.holds b){id:Nat}(H:b.ok id):a.ok id:=by
 unfold bP.holds at h;simp only[jC,cq]at h;rcases h with h|⟨g,f⟩
 .simp[bP.ok,h]
 simp only[bP.ok,j,wL,jC]at H;rcases H with H|H
 .exact L3 g (by simpa using H)
 have:=gL.1 f (lG id) (by simpa using H);simp only[bP.ok,jC];exact .inr this
theorem TJ(cX:vN D){o:iC}{blk:aB}{f:fP}(m:jy E Y D o y blk=some (X,L,f)):
  ∃v,X=dx y o.dst v/\(∀id,f.writes id=false->L id=blk id)/\(∀id,f.ru id->E.al.ok id)/\
   ∀(j:bD) (aV:aB),pP o.DW y j->(∀id,f.ru id->aV id=blk id)->
    ∃M,jy E Y D o j aV=some (dx j o.dst v,M,f)/\ ∀id,M id=if f.writes id then L id else aV id:=by
 have z:∀(j:bD),pP o.DW y j->pP o.op.tmps y j/\n0 j o.guard=n0 y o.guard:=by intro j m;unfold iC.DW at m;exact⟨m.left,ajn λt w Z=>m.right t (by rw[Z];simp)⟩
 have A:∀(r w:aA) (id:Nat),(⟨r,w,[]⟩:fP).writes id=w.contains id:=by intro r w id;simp[fP.writes]
 have B:∀(r w:aA) (id:Nat),(⟨r,w,[]⟩:fP).ru id↔id∈r\/id∈w:=by intro r w id;simp[fP.ru,fP.writes]
 have T:∀(u:iB) (b b2:aB) (r:aA) (id:Nat),app u b2 id=if(⟨r,u.map (·.1),[]⟩:fP).writes id then app u b id else b2 id:=by
  intro u b b2 r id;rw[A];by_cases H:id∈u.map (·.1)
  .rw[aM (by simpa using H)];exact anj _ _ _ _ H
  rw[aD (by simpa using H)];exact PT _ _ _ H
 unfold jy at m;split at m
 .cases m
 .rename_i F;cases m;refine⟨.undef,rfl,λ_ _=>rfl,λid H=>by simp[fP.ru,fP.writes]at H,λj aV n q=>⟨aV,?_,λid=>by simp[fP.writes]⟩⟩;unfold jy;rw[(z j n).2,F]
 rename_i F;split at m
 .cases m
 .rename_i v u r hp;split at m
  .rename_i ay;cases m;refine⟨v,rfl,λid H=>PT _ _ _ (by rw[A]at H;simpa using H),λid H=>L3 ay (by have:=(B _ _ _).1 H;simpa using this),λj aV n q=>⟨app u aV,?_,λid=>T _ _ _ _ _⟩⟩;unfold jy;rw[(z j n).2,F];simp only;rw[Vk (z j n).1,aeZ hp λid H=>q id ((B _ _ _).2 (.inl H))];simp only;rw[aM ay]
  cases m
 .rename_i g h r s hp;split at m
  .rename_i x O;split at m
   .rename_i v u hl;split at m
    .rename_i ay;cases m;refine⟨v,rfl,λid H=>PT _ _ _ (by rw[A]at H;simpa using H),λid H=>L3 ay (by have:=(B _ _ _).1 H;simp at this |-;rcases this with m|m<;>simp[m]),λj aV n q=>⟨app u aV,?_,λid=>T _ _ _ _ _⟩⟩;unfold jy;rw[(z j n).2,F];simp only;rw[Vk (z j n).1,aiT hp λid H=>q id ((B _ _ _).2 (.inl (by simp[H])))];simp only[O];rw[ak7 hl (λid H=>q id ((B _ _ _).2 (.inl (by simp[H])))) λid H=>q id ((B _ _ _).2 (.inr H))];simp only;rw[aM ay]
    cases m
   cases m
  cases m
 rename_i g h hp;split at m
 .rename_i ay;split at m
  .rename_i v b1 O;cases m;have R:∀id,(⟨(gr E g h blk).ids,(gr E g h blk).ids,(gr E g h blk).fs⟩:fP).writes id=(gr E g h blk).ok id:=by
    intro id;simp[fP.writes,bP.ok,gr]
   have N:∀id,(⟨(gr E g h blk).ids,(gr E g h blk).ids,(gr E g h blk).fs⟩:fP).ru id=(gr E g h blk).ok id:=by intro id;simp only[fP.ru,R];simp only[bP.ok];cases(gr E g h blk).ids.contains id<;>simp
   obtain⟨l1,l2⟩:=cX _ _ _ _ _ _ O;refine⟨v,rfl,λid H=>l1 id (by rw[<-R];exact H),λid H=>aej rfl ay (by rw[<-N];exact H),λj aV n q=>?_⟩;obtain⟨M,g1,g2⟩:=l2 aV λid H=>q id (by rw[N];exact H);have Q:gr E g h aV=gr E g h blk:=ahX λid H=>q id (by rw[N];simp[bP.ok,H]);refine⟨M,?_,λid=>by rw[R];exact g2 id⟩;unfold jy;rw[(z j n).2,F];simp only;rw[Vk (z j n).1,alE hp];simp only[Q];rw[aM ay];simp only[g1]
  cases m
 cases m
theorem aod(y:bD){d D:my}(v f:V)(h:∀t,d=some t->D≠some t):dx (dx y d v) D f=dx (dx y D f) d v:=by
 cases d with
 |none=>rfl
 |some t=>
  cases D with
  |none=>rfl
  |some T=>
   have A:T≠t:=λe=>h t rfl (by rw[e]);funext x;simp only[dx,bj];by_cases H:x=t
   .subst H;rw[aM rfl,aD (λe=>A e.symm),aM rfl]
   rw[aD H,aD H]
theorem abD{d:my}{t:Nat}(h:d≠some t):dx y d v t=y t:=by
 cases d with
 |none=>rfl
 |some x=>simp only[dx,bj];rw[aD (λe=>h (by rw[e]))]
theorem KB{a b:aA}(h:rH a b=false){i:Nat}(f:i∈a):i∉b:=by
 intro H;have:rH a b:=by simp only[rH,Ad];exact⟨i,f,by simpa using H⟩
 rw[h]at this;cases this
theorem T0{fs ids:aA}(h:AO fs ids=false){i:Nat}(f:i∈ids):lG i∉fs:=by
 intro H;have:AO fs ids:=by simp only[AO,Ad];exact⟨i,f,by simpa using H⟩
 rw[h]at this;cases this
theorem afZ{a b:fP}(h:BN a b=false)(id:Nat):(a.writes id->b.ru id=false)/\(b.writes id->a.ru id=false):=by
 simp only[BN,Aj]at h;obtain⟨⟨⟨⟨⟨m,j⟩,cP⟩,fv⟩,g⟩,fq⟩:=h;have sw:∀ {x y:aA},rH x y=false->rH y x=false:=by
  intro x y h;cases f:rH y x with
  |false=>rfl
  |true=>simp only[rH,Ad]at f;obtain⟨i,q,n⟩:=f;exact absurd q (KB h (by simpa using n))
 have one:∀ {a b:fP},rH a.wr b.rd=false->rH a.wr b.wr=false->rH a.fs b.fs=false->AO a.fs (b.rd++b.wr)=false->AO b.fs (a.rd++a.wr)=false->a.writes id->b.ru id=false:=by
  intro a b m j fv g fq H;simp only[fP.writes,jC]at H;simp only[fP.ru,fP.writes,Aj];rcases H with H|H
  .have H:id∈a.wr:=by simpa using H
   exact⟨by simpa using KB m H,by simpa using KB j H,by simpa using T0 fq (i:=id) (by simp[H])⟩
  have H:lG id∈a.fs:=by simpa using H
  refine⟨?_,?_,?_⟩
  .cases f:b.rd.contains id with
   |false=>rfl
   |true=>exact absurd H (T0 g (i:=id) (by simp at f;simp[f]))
  .cases f:b.wr.contains id with
   |false=>rfl
   |true=>exact absurd H (T0 g (i:=id) (by simp at f;simp[f]))
  simpa using KB fv H
 exact⟨one m j fv g fq,one (sw cP) (sw j) (sw fv) fq g⟩
theorem swap{E:jH}{Y:iH}{D:nn}(cX:vN D){x L:iC}{y Q:bD}{blk:aB}{v r:fP}(hx:jy E Y D x y blk=some (eP,bp,v))(T:jy E Y D L eP bp=some (Q,aV,r))
  (u:BI x L) (hc:BN v r=false):∃g B,jy E Y D L y blk=some (g,B,r)/\jy E Y D x g B=some (Q,aV,v):=by
 obtain⟨jq,rfl,F,_,M⟩:=TJ cX hx;obtain⟨v2,rfl,n,_,N⟩:=TJ cX T;have O:∀t,x.dst=some t->t∉L.DW/\L.dst≠some t:=by intro t f;simp only[BI,f,cq]at u;have H:=u.1;simp at H;exact⟨by simpa using H.1,H.2⟩
 have Z:∀t,L.dst=some t->t∉x.DW:=by
  intro t f;simp only[BI,f,cq]at u;have H:=u.2
  simpa using H
 have A:=afZ hc;have nw:∀ {a b:fP}{id:Nat},(a.writes id->b.ru id=false)->b.ru id->a.writes id=false:=by
  intro a b id H m;cases h:a.writes id with
  |false=>rfl
  |true=>rw[H h]at m;cases m
 have wt:∀ {a:fP}{id:Nat},a.writes id->a.ru id:=by intro a id h;simp[fP.ru,h]
 obtain⟨B,z,R⟩:=N y blk (λt f=>(abD λe=>(O t e).1 f).symm) (λid j=>(F id (nw (A id).1 j)).symm);obtain⟨q,wE,X⟩:=M (dx y L.dst v2) B (λt f=>abD λe=>Z t e f) (λid j=>by rw[R id,nw (A id).2 j];rfl)
 refine⟨_,B,z,?_⟩;rw[wE,aod y jq v2 λt f=>(O t f).2];have:q=aV:=by
  funext id;rw[X id,R id];cases H:v.writes id with
  |true=>have m:r.writes id=false:=nw (A id).2 (wt H);exact(n id m).symm
  |false=>
   cases m:r.writes id with
   |true=>rfl
   |false=>simp only[ib,if_false];rw[n id m,F id H]
 rw[this]
structure xI where
 i:Nat
 io:iC
 e:fP
def Ka(x y:xI):Prop:=BI x.io y.io=true/\BN x.e y.e=false
theorem abM{o:iC}{r:en}{blk:aB}{e:fP}{j:eI}(h:gw E Y D (o::r) y blk=some (X,L,e::j)):
  ∃eP bp,jy E Y D o y blk=some (eP,bp,e)/\gw E Y D r eP bp=some (X,L,j):=by
 simp only[gw]at h;split at h
 .rename_i eP bp m g;split at h
  .rename_i n aV f H;cases h;exact⟨eP,bp,g,H⟩
  cases h
 cases h
theorem aep{o:iC}{r:en}{blk:aB}{e:fP}{j:eI}(h:jy E Y D o y blk=some (eP,bp,e))(H:gw E Y D r eP bp=some (X,L,j)):
  gw E Y D (o::r) y blk=some (X,L,e::j):=by
 simp only[gw,h,H]
theorem aeA(cX:vN D){m:xI}{g:List xI}:∀ {f:List xI}{y X:bD}{blk L:aB},gw E Y D ((f++m::g).map (·.io)) y blk=some (X,L,(f++m::g).map (·.e))->(∀x∈f,Ka x m)->
  ∃eP bp,jy E Y D m.io y blk=some (eP,bp,m.e)/\gw E Y D ((f++g).map (·.io)) eP bp=some (X,L,(f++g).map (·.e)):=by
 intro f
 induction f with
 |nil=>intro y X blk L h _;exact abM h
 |cons x f A=>intro y X blk L h u;obtain⟨r,v,O,H⟩:=abM h;obtain⟨q,n,F,N⟩:=A H λz R=>u z (by simp[R]);obtain⟨j,B,Q,M⟩:=swap cX O F (u x aG).1 (u x aG).2;exact⟨j,B,Q,aep M N⟩
def zW(al:bP)(b b2:aB):Prop:=∀id,al.ok id->b2 id=b id
def rq(al:bP)(M b2 vL:aB):Prop:=∀id,vL id=if al.ok id then M id else b2 id
def Frame(al:bP)(b M:aB):Prop:=∀id,al.ok id=false->M id=b id
theorem rq.agree{al:bP}(h:rq al M b2 vL):zW al M vL:=λid H=>by rw[h id,H];rfl
theorem rq.trans{al:bP}{f:aB}(h:rq al M b2 vL)(k:rq al b'' vL f):rq al b'' b2 f:=λid=>by rw[k id,h id];cases al.ok id<;>rfl
theorem rq.refl{al:bP}{b:aB}(h:zW al b b2):rq al b b2 b2:=λid=>by
 cases H:al.ok id with
 |true=>exact h id H
 |false=>rfl
theorem Frame.trans{al:bP}{b:aB}(h:Frame al b M)(k:Frame al M b''):Frame al b b'':=λid H=>(k id H).trans (h id H)
section
variable {E:jH} {Y:iH} {D:nn} (cX:vN D)
include cX
theorem amf:∀ {Z:en}{y X:bD}{blk L:aB}{j:eI},gw E Y D Z y blk=some (X,L,j)->Frame E.al blk L/\
  ∀aV,zW E.al blk aV->∃r,gw E Y D Z y aV=some (X,r,j)/\rq E.al L aV r:=by
 intro Z
 induction Z with
 |nil=>intro y X blk L j h;simp only[gw,fu,jU]at h;obtain⟨rfl,rfl,rfl⟩:=h;exact⟨λ_ _=>rfl,λaV f=>⟨aV,rfl,.refl f⟩⟩
 |cons o Z R=>
  intro y X blk L j h;simp only[gw]at h;split at h
  .rename_i eP bp e F;split at h
   .rename_i cF aV fV u;cases h;obtain⟨v,rfl,fr,T,m⟩:=TJ cX F;obtain⟨Q,z⟩:=R u;have n:∀id,E.al.ok id=false->e.writes id=false:=by
     intro id H;cases g:e.writes id with
     |false=>rfl
     |true=>have:=T id (by simp[fP.ru,g]);rw[H]at this;cases this
    refine⟨Frame.trans (λid H=>fr id (n id H)) Q,λb2 f=>?_⟩;obtain⟨B,N,O⟩:=m y b2 (λ_ _=>rfl) (λid H=>f id (T id H));have q:rq E.al bp b2 B:=by
     intro id;rw[O id];cases H:E.al.ok id with
     |true=>
      cases g:e.writes id with
      |true=>rfl
      |false=>simp only[ib,if_false,if_true];rw[f id H,fr id g]
     |false=>rw[n id H]
    obtain⟨x,A,M⟩:=z B q.agree;exact⟨x,by simp only[gw,N,A],q.trans M⟩
   cases h
  cases h
theorem anS{c:bD->aB->Option (lg×bD×aB)}(j:∀ {y X blk L e},c y blk=some (e,X,L)->Frame E.al blk L/\ ∀aV,zW E.al blk aV->∃f,c y aV=some (e,X,f)/\rq E.al L aV f):
  ∀(k:Nat) {y X:bD}{blk L:aB}{e:lg},jM c k y blk=some (e,X,L)->Frame E.al blk L/\ ∀aV,zW E.al blk aV->∃f,jM c k y aV=some (e,X,f)/\rq E.al L aV f:=by
 have v:=cX;intro k
 induction k with
 |zero=>intro y X blk L e h;simp[jM]at h
 |succ k z=>
  intro y X blk L e h;simp only[jM]at h;split at h
  .rename_i eP bp u;obtain⟨F,g1⟩:=j u;obtain⟨x,q⟩:=z h;refine⟨F.trans x,λb2 H=>?_⟩;obtain⟨B,g,m⟩:=g1 b2 H;obtain⟨n,r,M⟩:=q B m.agree;exact⟨n,by simp only[jM,g,r],m.trans M⟩
  rename_i A;obtain⟨F,g1⟩:=j h;refine⟨F,λb2 H=>?_⟩;obtain⟨B,g,m⟩:=g1 b2 H;refine⟨B,?_,m⟩;cases e with
  |normal=>exact(A _ _ h).elim
  |exit i=>simp only[jM,g]
  |ret=>simp only[jM,g]
theorem V9:∀(c:aO) {y X:bD}{blk L:aB}{e:lg},c3 E Y D n c y blk=some (e,X,L)->Frame E.al blk L/\
  ∀aV,zW E.al blk aV->∃N,c3 E Y D n c y aV=some (e,X,N)/\rq E.al L aV N:=by
 intro c
 induction c with
 |skip=>intro y X blk L e h;simp only[c3,fu,jU]at h;obtain⟨rfl,rfl,rfl⟩:=h;exact⟨λ_ _=>rfl,λb2 H=>⟨b2,rfl,.refl H⟩⟩
 |exit id=>intro y X blk L e h;simp only[c3,fu,jU]at h;obtain⟨rfl,rfl,rfl⟩:=h;exact⟨λ_ _=>rfl,λb2 H=>⟨b2,rfl,.refl H⟩⟩
 |ret=>intro y X blk L e h;simp only[c3,fu,jU]at h;obtain⟨rfl,rfl,rfl⟩:=h;exact⟨λ_ _=>rfl,λb2 H=>⟨b2,rfl,.refl H⟩⟩
 |bad=>intro y X blk L e h;simp[c3]at h
 |region d Z=>
  intro y X blk L e h;simp only[c3]at h;split at h
  .rename_i eP bp j r;obtain⟨F,g1⟩:=amf cX r;have M:(e,X,L)=(lg.normal,eP,bp)/\(d->o7 Z [] j):=by
    cases d with
    |false=>simp at h;exact⟨by simp[h],λh=>by cases h⟩
    |true=>
     simp only[if_true]at h;split at h
     .rename_i v;cases h;exact⟨rfl,λ_=>v⟩
     cases h
   obtain⟨M,v⟩:=M;cases M;refine⟨F,λb2 H=>?_⟩;obtain⟨B,f,m⟩:=g1 b2 H;refine⟨B,?_,m⟩;simp only[c3,f];cases d with
   |false=>simp
   |true=>simp[v rfl]
  cases h
 |seq a b g q=>
  intro y X blk L e h;simp only[c3]at h;split at h
  .rename_i eP bp r;obtain⟨F,g1⟩:=g r;obtain⟨f2,T⟩:=q h;refine⟨F.trans f2,λb2 H=>?_⟩;obtain⟨B,f,m⟩:=g1 b2 H;obtain⟨R,s2,O⟩:=T B m.agree;exact⟨R,by simp only[c3,f,s2],m.trans O⟩
  rename_i A;obtain⟨F,g1⟩:=g h;refine⟨F,λb2 H=>?_⟩;obtain⟨B,f,m⟩:=g1 b2 H;refine⟨B,?_,m⟩;cases e with
  |normal=>exact(A _ _ h).elim
  |exit i=>simp only[c3,f]
  |ret=>simp only[c3,f]
 |cond x a b g q=>
  intro y X blk L e h;simp only[c3]at h |-;split at h
  .rename_i t ht;cases t with
   |true=>exact g h
   |false=>exact q h
  cases h
 |block id c u=>
  intro y X blk L e h;simp only[c3]at h;split at h
  .rename_i i eP bp r;obtain⟨F,g1⟩:=u r;have Q:L=bp:=by split at h<;>cases h<;>rfl
   subst Q;refine⟨F,λb2 H=>?_⟩;obtain⟨B,f,m⟩:=g1 b2 H;refine⟨B,?_,m⟩;simp only[c3,f];split at h
   .rename_i z;cases h;rw[aM z]
   rename_i z;cases h;rw[aD z]
  rename_i A;obtain⟨F,g1⟩:=u h;refine⟨F,λb2 H=>?_⟩;obtain⟨B,f,m⟩:=g1 b2 H;refine⟨B,?_,m⟩;cases e with
  |normal=>simp only[c3,f]
  |exit i=>exact(A _ _ _ h).elim
  |ret=>simp only[c3,f]
 |loop c u=>intro y X blk L e h;simp only[c3]at h |-;exact anS cX (λh=>u h) n h
end
theorem abO{al:bP}{blk:aB}(n:zW al blk aV):∀ {R:List (Nat×Option my)}{h:c7},mq al y blk R=some h->mq al y aV R=some h:=by
 intro R
 induction R with
 |nil=>intro h H;exact H
 |cons r R m=>
  obtain⟨t,k⟩:=r;cases k with
  |none=>
   intro h H;simp only[mq]at H |-;split at H
   .rename_i v q g f;cases H;simp only[g,m f]
   cases H
  |some k=>
   intro h H;simp only[mq]at H |-;split at H
   .rename_i D rd q g f;split at H
    .rename_i ay;rw[V3 g (λid j=>n id (L3 ay j)),m f];simp only[ay,if_true];exact H
    cases H
   cases H
theorem ah6(cX:vN D){fn:aU}{T:c7}{blk:aB}(j:nL E Y D n fn T blk=some (v,L)):Frame E.al blk L/\
  ∀aV,zW E.al blk aV->∃u,nL E Y D n fn T aV=some (v,u)/\rq E.al L aV u:=by
 unfold nL at j;split at j
 .rename_i y b g;simp only[dM]at j;obtain⟨h,r,H⟩:=j;cases H;obtain⟨F,g1⟩:=V9 cX _ g;refine⟨F,λb2 q=>?_⟩;obtain⟨B,f,m⟩:=g1 b2 q;exact⟨B,by unfold nL;rw[f];simp only[abO m.agree r,oG],m⟩
 .rename_i y b g;simp only[dM]at j;obtain⟨h,r,H⟩:=j;cases H;obtain⟨F,g1⟩:=V9 cX _ g;refine⟨F,λb2 q=>?_⟩;obtain⟨B,f,m⟩:=g1 b2 q;exact⟨B,by unfold nL;rw[f];simp only[abO m.agree r,oG],m⟩
 cases j
end
def oK(w:World)(O:Nat->Prop):V->Value->Prop
 | .one (.p x),v=>cl w O x v
 | .agg D,v=>∃arr ps,v=.agg arr/\D=ps.map .p/\dw w O ps arr.toList
 |_,_=>False
def Enters(P:Program)(f:Nat):Prop:= ∃fn c,P.funcs[f]?=some fn/\fn.body=some c/\(fn.name== "runtime.NumGoroutine")=false
def Ks(w:World)(Q:Nat->Prop)(r:RV)(val:Value)(B:aA):Prop:= ∃h,Ca r val h/\oz w Q (js r) h B
def sG(w:World)(O:Nat->Prop)(r:RV):Ending->World->Prop:=λe w'=>∃val B,e=.returned val/\gD w w'/\B.Nodup/\(∀c∈B,w.heap.size<=c/\c<w'.heap.size)/\Ks w' (λc=>O c\/c∈B) r val B
def Good(G:World->Prop)(w:World):Prop:=G w/\ ∀w w',gD w w'->G w->G w'
theorem c9.Ye(h:c9 w0 m):gD w0 m.w:=⟨h.os,h.tape,h.output,h.size,h.base⟩
theorem oz.pure{w:World}(ab:∀b,Q' b->Q b):∀ {R:lD}{h:List Value}{B:aA},(∀c∈B,¬Q' c)->oz w Q R h B->oz w Q' (R.map kj.pure) h []:=by
 intro R
 induction R with
 |nil=>intro h B _ hr;exact⟨hr.1,rfl⟩
 |cons r R z=>
  intro h B u hr;have less:∀ {x:PV}{v:Value},cl w Q x v->cl w Q' x v:=λhp=>hp.mono λc _ O=>⟨rfl,λD=>O (ab c D)⟩;cases r with
  |p x=>obtain⟨v,L,rfl,M,q⟩:=hr;exact⟨v,L,rfl,less M,z u q⟩
  |own ty sz j=>
   obtain⟨v,L,c,Z,rfl,rfl,⟨y,f,T,N,e3,X,A,F,e7,E⟩,q⟩:=hr;refine⟨v,L,rfl,?_,z (λc Y=>u c (by simp[Y])) q⟩;subst T;refine cl.sl c 0 y sz (λm=>f.toList.getD m undef) (λ_=>u c aG) A F X (λm x H=>?_) (λm x H=>?_)
   .have g:m<I (f.toList.take (I j*sz)):=by rw[E.1];exact(ct.1 H).1
    have n:m<f.size:=by simp at g;omega
    rw[World.cell?];simp[N,n,List.getD,ka]
   have g:m<I (f.toList.take (I j*sz)):=by rw[E.1];exact(ct.1 H).1
   have n:m<f.size:=by simp at g;omega
   refine less (E.2 m x _ H ?_);rw[Q3 (by simp at g;omega)];simp[n,List.getD]
theorem tF.pure(H:tF r v h):tF r.DJ v h/\jW r.DJ=(jW r).map kj.pure:=by
 cases r with
 |one c=>exact⟨H,rfl⟩
 |agg D=>exact⟨⟨H.1,by simpa [RV.DJ]using H.2⟩,rfl⟩
 |tup _=>exact H.elim
theorem Ag.pure:∀ {R:List RV}{us h:List Value},Ag R us h->Ag (R.map RV.DJ) us h/\pO (R.map RV.DJ)=(pO R).map kj.pure:=by
 intro R
 induction R with
 |nil=>intro us h v;exact⟨v,rfl⟩
 |cons r R m=>
  rintro us h ⟨u,j,a,b,rfl,rfl,n,H⟩
  obtain⟨f,g⟩:=n.pure;obtain⟨q,Q⟩:=m H;exact⟨⟨u,j,a,b,rfl,rfl,f,q⟩,by simp[pO,g,Q]⟩
theorem Ca.pure(H:Ca r v h):Ca r.pure v h/\js r.pure=(js r).map kj.pure:=by
 cases r with
 |one c=>exact tF.pure (r:=.one c) H
 |agg D=>exact tF.pure (r:=.agg D) H
 |tup R=>obtain⟨arr,rfl,f⟩:=H;obtain⟨q,Q⟩:=f.pure;exact⟨⟨arr,rfl,q⟩,Q⟩
theorem sG.eU{w:World}{e:Ending}(b:Bool)(v:∀c,O c->c<w.heap.size)(x:sG w O r e w'):sG w O (r.eU b) e w':=by
 cases b with
 |false=>exact x
 |true=>
  obtain⟨val,B,rfl,q,F,N,h,u,m⟩:=x;obtain⟨j,n⟩:=u.pure;refine⟨val,[],rfl,q,um,λc g=>by simp at g,h,j,?_⟩;simp only[RV.eU];rw[n];refine oz.pure (λb H=>?_) (λc g f=>?_) m
  .rcases H with H|H
   .exact .inl H
   simp at H
  rcases f with f|f
  .have:=v c f;have:=(N c g).1;omega
  simp at f
def yG(P:Program)(G:World->Prop)(Y:iH):Prop:=∀f h r,Y f h=some r->Enters P f/\ ∀(w:World) (O:Nat->Prop) (T:Array Value),Good G w->(∀c,O c->c<w.heap.size)->Pw (oK w O) h T.toList->Calls P f T w (sG w O r)
def wX(w0:World)(m:aX)(v:V)(L:aB):Ending->World->Prop:=λe w'=>∃val M,e=.returned val/\M.w=w'/\c9 w0 M/\eY m M/\M.fr=m.fr/\M.blk=L/\cg M v val
def AE(P:Program)(G:World->Prop)(D:nn):Prop:=∀f h al blk v L,D f h al blk=some (v,L)->Enters P f/\ ∀(w0:World) (m:aX) (T:Array Value),Good G w0->c9 w0 m->m.blk=blk->Pw (cg m) h T.toList->Calls P f T m.w (wX w0 m v L)
theorem ago(ay:c9 w0 m){y:V}{r:aA}(g:lI m.blk x=some (y,r))(hr:cg m x v)(aa:ny m O r):oK m.w O y v:=by
 cases x with
 |undef=>simp[lI]at g
 |tup h=>simp[lI]at g
 |one c=>simp only[lI,dM]at g;obtain⟨⟨p,j⟩,f,H⟩:=g;cases H;exact Df ay dS f hr aa
 |agg D=>simp only[lI,dM]at g;obtain⟨⟨ps,j⟩,f,H⟩:=g;cases H;obtain⟨arr,rfl,q⟩:=cg.agg.1 hr;refine⟨arr,ps,rfl,rfl,?_⟩;exact D2 (R:=cY m) (T:=cl m.w O) (good:=ny m O) (λ_ _=>ny.app) (λ_ _ _ _ f H n=>Df ay dS f H n) f aa q
theorem ac3(ay:c9 w0 m){r:aA}(j:xR m.blk F=some (ys,r))(hr:Pw (cg m) F h)(aa:ny m O r):Pw (oK m.w O) ys h:=D2 (R:=cg m) (T:=oK m.w O) (good:=ny m O) (λ_ _=>ny.app) (λ_ _ _ _ f H g=>ago ay f H g) j aa hr
theorem X0(ay:c9 w0 m){c:Nat}(h:m.own c):c<m.w.heap.size:=by
 rcases h with h|⟨id,o,H,_,rfl⟩
 .exact ay.frlt c h
 exact(ay.obj id o H).lt
theorem acX{w:World}{x:PV}(aa:x.scalar)(h:cl w Q x v):cl w Q' x v:=by
 cases h<;>first
  |(simp[PV.scalar]at aa;done)
  |constructor
theorem ahF{w:World}:∀ {R:lD}{h:List Value}{B:aA},R.all kj.alone->oz w Q R h B->oz w Q' R h B:=by
 intro R
 induction R with
 |nil=>intro h B _ z;exact z
 |cons r R y=>
  intro h B H z;simp only[oQ,cq]at H;cases r with
  |p x=>obtain⟨v,L,rfl,f,m⟩:=z;exact⟨v,L,rfl,acX H.1 f,y H.2 m⟩
  |own ty sz j=>obtain⟨v,L,c,Y,rfl,rfl,⟨n,q,O,M,T,Z,A,F,D,E⟩,m⟩:=z;refine⟨v,L,c,Y,rfl,rfl,⟨n,q,O,M,T,Z,A,F,D,E.1,λab x u a b=>?_⟩,y H.2 m⟩;refine acX ?_ (E.2 ab x u a b);have N:=bY a;obtain⟨e,X,g⟩:=Ho.1 N;have f:=H.1;simp only[kj.alone]at f;exact gL.1 (gL.1 f e X) x g
theorem Zu{m:aX}{x:RV}{B:aA}(ay:c9 w0 m)(j:gD m.w w')(F:B.Nodup)(n:∀c∈B,m.w.heap.size<=c/\c<w'.heap.size)(hr:Ks w' (λc=>m.own c\/c∈B) x val B):
  ∃M,M.w=w'/\c9 w0 M/\eY m M/\M.fr=m.fr/\M.blk=app (gX m.blk site x).2 m.blk/\cg M (gX m.blk site x).1 val:=by
 obtain⟨h,q,f⟩:=hr;have y:c9 w0 (m.later w' (· ∈B)):=GX ay j n;have v:eY m (m.later w' (· ∈B)):=DO j λc H=>(n c H).1;obtain⟨M,z,L,A,_,E,D,r⟩:=asa (Y:=m) (site:=site) y (f.less λb u=>VG.1 u) F (λc H=>⟨.inr H,jO ay.size (n c H).1⟩) v (λc H=>.inl (n c H).1);refine⟨M,z,L,A,?_,D,ahN q r⟩;funext c;apply propext;rw[E c];constructor
 .rintro ⟨g|g,f⟩
  .exact g
  exact(f g).elim
 intro g;refine⟨.inl g,λH=>?_⟩;have q:=ay.frlt c g;have f:=(n c H).1;omega
theorem anJ{b M:aB}(h:∀s,(b s).1=(M s).1)(site:Nat)(x:RV):gX b site x=gX M site x:=by unfold gX;rw[ad8 _ site b M λs _=>h s]
theorem agZ{G:World->Prop}(y:yG P G Y)(hG:Good G w0)(ay:c9 w0 m){h:c7}{rd:aA}{x:RV}{v:V}(g:Y f h=some x)(aa:xR m.blk F=some (h,rd))(ua:Pw (cg m) F T.toList)
  {r:Bool} (hl:d_ m.blk rd site (x.eU r)=some (v,u)):Calls P f T m.w (wX w0 m v (app u m.blk)):=by
 have Z:∀(w:World) (O:Nat->Prop) (T:Array Value),Good G w->(∀c,O c->c<w.heap.size)->Pw (oK w O) h T.toList->Calls P f T w (sG w O (x.eU r)):=λw O T L j h3=>((y f h x g).2 w O T L j h3).mono λe w' H=>H.eU r j
 generalize x.eU r=x at hl Z;unfold d_ at hl;split at hl
 .rename_i qj;cases hl;have key:∀(O:Nat->Prop),(∀c,O c->c<m.w.heap.size)->ny m O rd->(∀w' B val,Ks w' (λc=>O c\/c∈B) x val B->Ks w' (λc=>m.own c\/c∈B) x val B)->Calls P f T m.w (wX w0 m (gX m.blk site x).1 (app (gX m.blk site x).2 m.blk)):=by
   intro O hO R yf;refine(Z m.w O T ⟨hG.2 _ _ ay.Ye hG.1,hG.2⟩ hO (ac3 ay aa ua R)).mono ?_;rintro e w' ⟨val,B,rfl,A,z,N,hr⟩
   obtain⟨Q,X,M,e3,e4,E,n⟩:=Zu (site:=site) ay A z N (yf w' B val hr);exact⟨val,Q,rfl,X,M,e3,e4,E,n⟩
  rcases qj with rfl|fQ
  .exact key m.own (λc g=>X0 ay g) ⟨λ_ H=>H,λ_ H=>by simp at H⟩ λ_ _ _ H=>H
  refine key (λ_=>False) (λc H=>H.elim) ⟨λ_ H=>H.elim,λ_ _ H=>H⟩ λw' B val H=>?_;obtain⟨lL,L,j⟩:=H;exact⟨lL,L,ahF fQ j⟩
 split at hl
 .rename_i D q;cases hl;have sZ:=adL ay q;have vX:=NW q;have R:=Ud ay q;refine(Z m.w (m.with D).own T ⟨hG.2 _ _ ay.Ye hG.1,hG.2⟩ (λc g=>X0 sZ g) (ac3 ay aa ua R)).mono ?_;rintro e w' ⟨val,B,rfl,A,z,N,hr⟩
  obtain⟨Q,X,M,e3,e4,E,n⟩:=Zu (m:=m.with D) (site:=site) sZ A z N hr;have SL:gX (m.with D).blk site x=gX m.blk site x:=anJ (λs=>JA q s) site x;rw[SL]at E n;refine⟨val,Q,rfl,X,M,vX.trans e3,e4,?_,n⟩;rw[E,MI];rfl
 cases hl
theorem Jl{M:aX}(E:eY m M){a:Act}{dst:my}{v:V}{x:Value}(hr:iw m y a.tmps)(f:cg M v x)(H:∀d,dst=some d->d<a.tmps.size):iw M (dx y dst v) (a.put dst x).tmps:=by
 cases dst with
 |none=>exact hr.ev E
 |some d=>
  intro t;have A:=H d rfl;simp only[dx,Act.put,bj];by_cases h:t=d
  .subst h;rw[aM rfl];have:(a.tmps.setIfInBounds t x).getD t undef=x:=by simp[A]
   rw[this];exact f
  rw[aD h];have:(a.tmps.setIfInBounds d x).getD t undef=a.tmps.getD t undef:=by simp only[v8];rw[Array.getElem?_setIfInBounds_ne (λe=>h e.symm)]
  rw[this];exact(hr t).ev E.zero
theorem Mr(a:Act)(dst:my)(x:Value):(a.put dst x).tmps.size=a.tmps.size:=by cases dst<;>simp[Act.put]
theorem Jh(a:Act)(dst:my)(x:Value):(a.put dst x).defers=a.defers:=by cases dst<;>simp[Act.put]
theorem Wa{tmps:Array Value}(hr:iw m y tmps){o:Oper}{g:Option (Nat×Bool)}{b:Bool}
  (n:match o.guard with|none=>g=none|some (j,w)=>∃t,(Z[j]?).bind (·.dst)=some t/\g=some (t,w)) (h:n0 y g=some b):Region.wanted o (yielded Z tmps)=b:=by
 unfold Region.wanted;cases v:o.guard with
 |none=>rw[v]at n;subst n;simp only[n0,fu]at h;exact h
 |some q=>
  obtain⟨j,w⟩:=q;rw[v]at n;obtain⟨t,x,rfl⟩:=n;have f:=hr t;simp only[n0]at h;simp only[yielded,x,Option.bind_some];split at h
  .rename_i M u;rw[u]at f;have H:=zS f;cases h;have:tmps[t]?=some (.bool M):=by
    rw[v8]at H;cases r:tmps[t]? with
    |none=>rw[r]at H;simp[undef]at H
    |some Y=>rw[r]at H;simp at H;rw[H]
   rw[this];rfl
  .rename_i u;rw[u]at f;cases h;have H:tmps.getD t undef=undef:=f;rw[v8]at H;cases r:tmps[t]? with
   |none=>rfl
   |some Y=>rw[r]at H;simp at H;rw[H];rfl
  cases h
theorem Xr{f:dR}{a b:dk}(h:AG y f=some (g,a,b))(hr:cg m (ev y f) v):∃A B:Array Value,v=.func (.func g) A B/\dn m a A.toList/\dn m b B.toList:=by
 unfold AG at h;split at h
 .rename_i z x Y n;cases h;rw[n]at hr;obtain⟨hp⟩:cY m _ v:=hr;cases hp with
  |fn A B r H T M=>exact⟨A,B,rfl,dw.Ac ⟨by simpa using r,λj x u p q=>T j x u p (by simpa using q)⟩,dw.Ac ⟨by simpa using H,λj x u p q=>M j x u p (by simpa using q)⟩⟩
 .rename_i z x Y n;cases h;rw[n]at hr;have D:cY m _ v:=hr;cases D with
  |hfn A B r H T M=>exact⟨A,B,rfl,⟨by simpa using r,λj x u p q=>T j x u p (by simpa using q)⟩,⟨by simpa using H,λj x u p q=>M j x u p (by simpa using q)⟩⟩
 cases h
theorem aaF{a:Act}(hr:iw m y a.tmps):∀ {F:List Operand}{ys:kH},ns F=some ys->Pw (cg m) (ys.map (ev y)) (F.map a.eval):=by
 intro F
 induction F with
 |nil=>intro ys h;simp[ns]at h;subst h;exact⟨rfl,λj x u p=>by simp at p⟩
 |cons x F f=>
  intro ys h;simp only[ns]at h;split at h
  .rename_i n Y g H;cases h;obtain⟨i1,i2⟩:=f H;refine⟨by simpa using i1,λj z u p q=>?_⟩;cases j with
   |zero=>simp at p q;subst p q;exact eC g hr
   |succ j=>exact i2 j z u (by simpa using p) (by simpa using q)
  cases h
theorem MD{D:dk}(f:dn m D h):Pw (cg m) (D.map .one) h:=by refine⟨by simpa using f.1,λj x u p q=>?_⟩;simp only[gZ,dM]at p;obtain⟨c,H,rfl⟩:=p;exact cg.one.2 (f.2 j c u H q)
theorem al6(h:Enters P f)(T:Array Value)(w:World):(callFunc f T).run P w=.ok (.enter f T) w:=by
 obtain⟨fn,c,j,g,m⟩:=h;have H:¬fn.name= "runtime.NumGoroutine" :=by simpa using m
 simp[callFunc,run_program,j,g,H]
theorem Z0{o:Oper}{c:Call}{f:Operand}{a:Act}{w:World}(h:o.op=.call c)(m:c.callee=.value f)(H:a.eval f=.func (.func g) A B)(j:Enters P g):
  (execOp a.eval o).run P w=.ok (.enter g (A++c.args.map a.eval++B)) w:=by
 simp[execOp,h,resolve,m,H,Deferred.ofValue,invoke,al6 j]
theorem Xj{o:Oper}{p:nK}(H:Ay P site o=some p)(hp:∀s f as,p≠ .call s f as){blk:aB}:(∀f h r s,bU E y blk p≠ .pc f h r s)/\ ∀f h,bU E y blk p≠ .sc f h:=by
 cases p<;>first
  |exact(hp _ _ _ rfl).elim
  |(simp only[bU]
    constructor<;>intros<;>intro H<;>(repeat' split at H)<;>first
     |cases H
     |(simp only[vH,yP,ae]at H;(repeat' split at H)<;>cases H))
theorem abf{o:Oper}{s:Nat}{f:dR}{as:kH}(h:Ay P site o=some (.call s f as)):∃c F,o.op=.call c/\c.callee=.value F/\cE F=some f/\ns c.args.toList=some as:=by
 unfold Ay at h;split at h
 case h_26 c H=>
  split at h
  .rename_i n A m g;simp only[dM]at h;obtain⟨y,q,j⟩:=h;cases j;exact⟨c,n,H,m,q,g⟩
  all_goals((repeat' split at h)<;>first
   |cases h
   |(simp at h;done))
 all_goals((repeat' split at h)<;>first
  |cases h
  |(simp at h;done))
def Bq(w0:World)(m:aX)(a:Act)(nt:Nat)(X:bD)(L:aB)(bN:Act->World->Prop):Prop:=∀(A:Act) (M:aX),c9 w0 M->eY m M->M.fr=m.fr->M.blk=L->iw M X A.tmps->A.tmps.size=nt->A.defers=a.defers->bN A M.w
theorem Wb{o:Oper}{a:Act}{w:World}{bN:Act->World->Prop}{Q:Exit->Act->World->Prop}{R:Ending->World->Prop}(n:(execOp a.eval o).run P w=.ok (.enter f T) w)(j:Calls P f T w R)
  (g:∀e w',R e w'->∃v,e=.returned v/\bN (a.put o.dst v) w'):o.wp P a w bN Q:=by
 unfold Oper.wp;rw[n,Oper.upon_enter];refine j.mono ?_;intro e w' H;obtain⟨v,rfl,h⟩:=g e w' H;exact h
theorem abU{G:World->Prop}(hG:Good G w0)(hP:yG P G Y)(hS:AE P G D){E:jH}{base anc:Nat}{o:Oper}{io:iC}{ad:fP}{a:Act}{bN:Act->World->Prop}{Q:Exit->Act->World->Prop}
  (ho:yQ P (λj=>(Z[j]?).bind (·.dst)) base nt anc o=some io) (n:jy E Y D io y m.blk=some (X,L,ad)) (ay:c9 w0 m) (hr:iw m y a.tmps) (fj:a.tmps.size=nt) (z:Bq w0 m a nt X L bN):
  if Region.wanted o (yielded Z a.tmps)then o.wp P a m.w bN Q else bN (a.put o.dst undef) m.w:=by
 have am:io.dst=o.dst/\io.op=Cl P base o/\(∀d,o.dst=some d->d<nt)/\(match o.guard with|none=>io.guard=none|some (j,w)=>∃t,(Z[j]?).bind (·.dst)=some t/\io.guard=some (t,w)):=by
  unfold yQ at ho;split at ho
  .rename_i H;simp only[dM]at ho;obtain⟨g,N,rfl⟩:=ho;refine⟨rfl,rfl,λd he=>?_,?_⟩
   .rw[he]at H
    simpa [acV]using H
   cases ab:o.guard with
   |none=>rw[ab]at N;simp[U5]at N;exact N.symm
   |some q=>obtain⟨j,w⟩:=q;rw[ab]at N;simp only[U5,dM]at N;obtain⟨t,ht,rfl⟩:=N;exact⟨t,ht,rfl⟩
  cases ho
 obtain⟨h1,h2,h3,h4⟩:=am;have H:∀d,o.dst=some d->d<a.tmps.size:=by rw[fj];exact h3
 unfold jy at n;split at n
 .cases n
 .rename_i hw;cases n;rw[Wa hr h4 hw];simp only[ib,if_false];rw[h1]at z;exact z _ m ay (eY.refl m) rfl rfl (Jl (eY.refl m) hr (show cg m .undef undef from rfl) H) (by rw[Mr,fj]) (Jh _ _ _)
 rename_i hw;rw[Wa hr h4 hw];simp only[if_true];rw[h2]at n;unfold Cl at n;cases F:Ay P base o with
 |none=>rw[F]at n;simp[bU]at n
 |some p=>
  rw[F]at n;simp only[jV]at n;split at n
  .cases n
  .rename_i v u r hp;split at n
   case isFalse=>cases n
   cases n;obtain⟨x,O,an,e2,R,e4,e5,e6⟩:=aq9 ay hr F hp;rw[h1]at z;have hk:=λx (M:cg O v x)=>z (a.put o.dst x) O e2 R e4 e5 (Jl R hr M H) (by rw[Mr,fj]) (Jh _ _ _);unfold Oper.wp;rcases an with H|⟨H,rfl⟩
   .rw[H,Oper.upon_value];exact hk x e6
   rw[H,Oper.upon_skip];exact hk undef e6
  .rename_i f h r s hp;by_cases T:∃s f as,p=.call s f as
   .obtain⟨s',f',as,rfl⟩:=T;obtain⟨c,fo,g1,g2,g3,g4⟩:=abf F;simp only[bU]at hp;split at hp
    .rename_i g A B hfn;obtain⟨AV,BV,e1,e2,R⟩:=Xr hfn (eC g3 hr);split at hp
     .cases hp
     split at hp
     .rename_i ws rd ou;cases hp;split at n
      .rename_i x M;split at n
       .rename_i v u hl;split at n
        case isFalse=>cases n
        cases n;have ua:Pw (cg m) (A.map .one++as.map (ev y)++B.map .one) (AV++c.args.map a.eval++BV).toList:=by
         have:=((MD e2).append (aaF hr g4)).append (MD R)
         simpa using this
        refine Wb (Z0 g1 g2 e1 (hP _ _ _ M).1) (agZ hP hG ay M ou ua hl) ?_;rintro e w' ⟨val,O,rfl,rfl,q1,q2,q3,q4,q5⟩
        rw[h1]at z;exact⟨val,rfl,z _ O q1 q2 q3 q4 (Jl q2 hr q5 H) (by rw[Mr,fj]) (Jh _ _ _)⟩
       cases n
      cases n
     cases hp
    cases hp
   exact((Xj F (λs f as e=>T ⟨s,f,as,e⟩)).1 _ _ _ _ hp).elim
  rename_i f h hp;by_cases T:∃s f as,p=.call s f as
  .obtain⟨s',f',as,rfl⟩:=T;obtain⟨c,fo,g1,g2,g3,g4⟩:=abf F;simp only[bU]at hp;split at hp
   .rename_i g A B hfn;obtain⟨AV,BV,e1,e2,R⟩:=Xr hfn (eC g3 hr);split at hp
    .cases hp;split at n
     case isFalse=>cases n
     split at n
     .rename_i v yX M;cases n;have ua:Pw (cg m) (A.map .one++as.map (ev y)++B.map .one) (AV++c.args.map a.eval++BV).toList:=by
       have:=((MD e2).append (aaF hr g4)).append (MD R)
       simpa using this
      refine Wb (Z0 g1 g2 e1 (hS _ _ _ _ _ _ M).1) ((hS _ _ _ _ _ _ M).2 w0 m _ hG ay rfl ua) ?_;rintro e w' ⟨val,O,rfl,rfl,q1,q2,q3,q4,q5⟩
      rw[h1]at z;exact⟨val,rfl,z _ O q1 q2 q3 q4 (Jl q2 hr q5 H) (by rw[Mr,fj]) (Jh _ _ _)⟩
     cases n
    split at hp<;>cases hp
   cases hp
  exact((Xj F (λs f as e=>T ⟨s,f,as,e⟩)).2 _ _ hp).elim
theorem Uu{dst anc:Nat->my}{base i:Nat}{o:Oper}{r:List Oper}{l:en}(h:tN P dst anc base nt i (o::r)=some l):
  ∃x F,l=x::F/\yQ P dst ((base+i)*64) nt ((anc i).getD 0) o=some x/\tN P dst anc base nt (i+1) r=some F:=by
 simp only[tN]at h;split at h
 .rename_i x F f H;cases h;exact⟨x,F,rfl,f,H⟩
 cases h
section
variable {G:World->Prop} (hG:Good G w0) {Y:iH} {D:nn} (hP:yG P G Y) (hS:AE P G D) {E:jH}
include hG hP hS
theorem amM{anc:Nat->my}{base:Nat}{Q:Exit->Act->World->Prop}:∀(r:List Oper) {l:en}{i:Nat}{y X:bD}{m:aX}{L:aB}{j:eI}{a:Act},(∀g,Z[i+g]?=r[g]?)->tN P (λg=>(Z[g]?).bind (·.dst)) anc base nt i r=some l->
  gw E Y D l y m.blk=some (X,L,j)->c9 w0 m->iw m y a.tmps->a.tmps.size=nt->Bq w0 m a nt X L (λa' w'=>Q .normal a' w')->wpOps P Z Q (List.range' i (I r)) a m.w:=by
 intro r
 induction r with
 |nil=>intro l i y X m L j a _ h f ay hr q H;simp[tN]at h;subst h;simp only[gw,fu,jU]at f;obtain⟨rfl,rfl,_⟩:=f;simp only[eR,List.range'_zero,wpOps];exact H a m ay (eY.refl m) rfl rfl hr q rfl
 |cons o r ih=>
  intro l i y X m L j a u h f ay hr q H;obtain⟨x,F,rfl,h1,N⟩:=Uu h;simp only[gw]at f;split at f
  .rename_i eP bp e1 ni;split at f
   .rename_i cF aV ab gy;cases f;have ho:Z[i]?=some o:=by have:=u 0;simpa using this
    have key:=abU (Q:=Q) (bN:=wpOps P Z Q (List.range' (i+1) (I r))) hG hP hS h1 ni ay hr q (λa1 m1 v k2 k3 k4 k5 k6 T=>by subst k4;refine ih (m:=m1) (λg=>by have:=u (g+1);rw[show i+1+g=i+(g+1) by omega];simpa using this) N gy v k5 k6 ?_;intro a2 M p1 O z B A R p7;exact H a2 M p1 (k2.trans O) (z.trans k3) B A R (p7.trans T))
    simp only[dE,List.range'_succ,wpOps,ho];split at key
    .rename_i n;rw[aM n];exact .inl key
    rename_i n;rw[aD n];exact key
   cases f
  cases f
theorem apz{anc:Nat->my}{base id:Nat}{Q:Exit->Act->World->Prop}{l:en}{j:eI}{a:Act}(H:tN P (λg=>(Z[g]?).bind (·.dst)) anc base nt 0 Z.toList=some l)
  (f:gw E Y D l y m.blk=some (X,L,j)) (ay:c9 w0 m) (hr:iw m y a.tmps) (F:a.tmps.size=nt) (h:Bq w0 m a nt X L (λA w'=>Q .normal A w')):(Code.region id Z false).wp P Q a m.w:=by
 refine wp_region ?_;have:=amM hG hP hS (E:=E) (Z:=Z) (Q:=Q) Z.toList (i:=0) (λg=>aG) H f ay hr F h;rw[List.range_eq_range']
 simpa using this
end
theorem an4{α β:Type}(g:Array β->α->β):∀(l:List α) (A:Array β),(l.foldl (λA o=>A.push (g A o)) A).size=A.size+I l/\
  (∀j,j<A.size->(l.foldl (λA o=>A.push (g A o)) A)[j]?=A[j]?)/\
  ∀j o,l[j]?=some o->∃pre:Array β,pre.size=A.size+j/\(∀k,k<pre.size->(l.foldl (λA o=>A.push (g A o)) A)[k]?=pre[k]?)/\(l.foldl (λA o=>A.push (g A o)) A)[A.size+j]?=some (g pre o):=by
 intro l
 induction l with
 |nil=>intro A;exact⟨rfl,λ_ _=>rfl,λj o h=>by simp at h⟩
 |cons x l u=>
  intro A;obtain⟨v,f,r⟩:=u (A.push (g A x));simp only[qG];refine⟨by rw[v];simp;omega,λj z=>?_,λj o H=>?_⟩
  .rw[f j (by simp;omega),HO,aD J]
  cases j with
  |zero=>
   simp at H;subst H;refine⟨A,J,λk y=>?_,?_⟩
   .rw[f k (by simp;omega),HO,aD J]
   rw[w4,f A.size aG,HO,aM rfl]
  |succ j=>obtain⟨pre,n,q,m⟩:=r j o (by simpa using H);refine⟨pre,by rw[n];simp;omega,q,?_⟩;rw[<-m];simp only[Array.size_push];congr 1;omega
theorem ae0{α:Type}(f:α->Bool)(g:α->Nat)(h:α->Nat):∀(l:List α) (s j:Nat),(l.foldl (λs e=>if f e then s|||g e|||h e else s) s).testBit j=true->s.testBit j\/ ∃e∈l,f e/\((g e).testBit j\/(h e).testBit j):=by
 intro l
 induction l with
 |nil=>intro s j m;exact .inl m
 |cons x l u=>
  intro s j m;simp only[qG]at m;rcases u _ j m with H|⟨e,r,q⟩
  .split at H
   .rename_i n;simp only[Nat.testBit_or,jC]at H;rcases H with(H|H)|H
    .exact .inl H
    .exact .inr ⟨x,aG,n,.inl H⟩
    exact .inr ⟨x,aG,n,.inr H⟩
   exact .inl H
  exact .inr ⟨e,by simp[r],q⟩
theorem amx(q:Ep Z){i:Nat}{o:Oper}(f:Z[i]?=some o){j:Nat}(H:(((Region.before Z)[i]?).getD 0).testBit j):
  ∃e∈o.after,Region.binds .any e/\e.on<i/\(j=e.on\/(((Region.before Z)[e.on]?).getD 0).testBit j):=by
 unfold Region.before at H |-;rw[<-Tn]at H |-;obtain⟨D,z,v⟩:=an4 (λ(A:Array Nat) (o:Oper)=>o.after.foldl (λs e=>if Region.binds .any e then s|||2 ^ e.on|||A.getD e.on 0 else s) 0) Z.toList #[];obtain⟨pre,r,u,g⟩:=v i o (by simpa using f);simp only[Array.size_empty,ka]at r g;rw[g]at H;simp only[jV]at H;rw[<-Tn]at H;rcases ae0 (λe=>Region.binds .any e) (λe=>2 ^ e.on) (λe=>pre.getD e.on 0) _ _ _ H with h|⟨e,n,m,F⟩
 .simp at h
 have y:i<Z.size:=(FV.1 f).1;have B:e.on<i:=by unfold Ep at q;have:=gL.1 q i (by simpa using y);rw[f]at this;rw[gL]at this;have:=this e (by simpa using n);simp only[m,By,wL,fH]at this;exact this
 refine⟨e,by simpa using n,m,B,?_⟩;rcases F with F|F
 .left;rw[Nat.testBit_two_pow]at F;have x:e.on=j:=by simpa using F
  exact x.symm
 right;rw[u e.on J]
 simpa [v8]using F
theorem aam{dst:Nat->my}{base anc:Nat}{o:Oper}{io:iC}(h:yQ P dst base nt anc o=some io):io.anc=anc:=by
 unfold yQ at h;split at h
 .simp only[dM]at h;obtain⟨g,_,rfl⟩:=h;rfl
 cases h
structure af5 (P:Program) (ops:Array Oper) (base nt:Nat) (rem:List xI) (listed:Array Bool):Prop where
 pair:rem.Pairwise λp q=>p.i<q.i/\(q.io.anc.testBit p.i\/Ka p q)
 comp:∀p∈rem,∃o,ops[p.i]?=some o/\yQ P (λj=>(ops[j]?).bind (·.dst)) ((base+p.i)*64) nt (((Region.before ops)[p.i]?).getD 0) o=some p.io
 size:listed.size=ops.size
 free:∀i:Nat,listed[i]?=some false↔ ∃p∈rem,p.i=i
 closed:∀i:Nat,listed[i]?=some true->∀j:Nat,(((Region.before ops)[i]?).getD 0).testBit j->listed[j]?=some true
theorem NQ{L:Array Bool}{i:Nat}:i∈Region.ready .any Z L↔i<Z.size/\L.getD i true=false/\ ∃o,Z[i]?=some o/\ ∀e∈o.after,Region.binds .any e->L.getD e.on false:=by
 unfold Region.ready;simp only[tx,f_,cq,hY];constructor
 .rintro ⟨h,j,H⟩
  refine⟨h,j,Z[i],by simp[h],λe g m=>?_⟩;have f:Z[i]?=some Z[i]:=by simp[h]
  rw[f]at H;simp only[oG,jV,Array.all_eq_true']at H;have:=H e g;rw[m]at this
  simpa using this
 rintro⟨h,j,o,f,H⟩
 refine⟨h,j,?_⟩;rw[f];simp only[oG,jV,Array.all_eq_true'];intro e g;cases m:Region.binds .any e with
 |false=>rfl
 |true=>simp[H e g m]
theorem Xh{l:Array Bool}{i:Nat}(h:l.getD i true=false):l[i]?=some false:=by
 rw[v8]at h;cases H:l[i]? with
 |none=>rw[H]at h;simp at h
 |some b=>rw[H]at h;simp at h;rw[h]
theorem anK{l:Array Bool}{i:Nat}(h:l.getD i false):l[i]?=some true:=by
 rw[v8]at h;cases H:l[i]? with
 |none=>rw[H]at h;simp at h
 |some b=>rw[H]at h;simp at h;rw[h]
section
variable {G:World->Prop} (hG:Good G w0) {Y:iH} {D:nn} (hP:yG P G Y) (hS:AE P G D) (hL:vN D) {E:jH}
include hG hP hS hL
theorem ae2(A0:Ep Z){base:Nat}{Q:Exit->Act->World->Prop}:∀(F:Nat) {r:List xI}{f:Array Bool}{y:bD}{m:aX}{a:Act},af5 P Z base nt r f->I r<=F->
  gw E Y D (r.map (·.io)) y m.blk=some (X,L,r.map (·.e))->c9 w0 m->iw m y a.tmps->a.tmps.size=nt->Bq w0 m a nt X L (λa' w'=>Q .normal a' w')->wpAny P .any Z Q F f a m.w:=by
 intro F
 induction F with
 |zero=>
  intro r f y m a hl H A ay hr O R;have am:r=[]:=by
   cases r with
   |nil=>rfl
   |cons _ _=>simp at H
  subst am;simp only[jn,gw,fu,jU]at A;obtain⟨rfl,rfl,_⟩:=A;refine⟨?_,R a m ay (eY.refl m) rfl rfl hr O rfl⟩;refine List.eq_nil_iff_forall_not_mem.2 λi hi=>?_;obtain⟨_,T,_⟩:=NQ.1 hi;obtain⟨p,hp,_⟩:=(hl.free i).1 (Xh T);simp at hp
 |succ F ih=>
  intro r f y m a hl H A ay hr O R;refine⟨λad=>?_,λi hi=>?_⟩
  .cases r with
   |nil=>simp only[jn,gw,fu,jU]at A;obtain⟨rfl,rfl,_⟩:=A;exact R a m ay (eY.refl m) rfl rfl hr O rfl
   |cons p an=>
    exfalso;obtain⟨o,n,_⟩:=hl.comp p aG;have M:p.i<Z.size:=(FV.1 n).1;have ya:p.i∈Region.ready .any Z f:=by
     refine NQ.2 ⟨M,?_,o,n,λe he hb=>?_⟩
     .rw[v8,(hl.free p.i).2 ⟨p,aG,rfl⟩];rfl
     have Bl:e.on<p.i:=by unfold Ep at A0;have:=gL.1 A0 p.i (by simpa using M);rw[n]at this;rw[gL]at this;have:=this e (by simpa using he);simp only[hb,By,wL,fH]at this;exact this
     have aa:e.on<f.size:=by rw[hl.size];omega
     rw[v8];cases bc:f[e.on]with
     |true=>simp[aa,bc]
     |false=>
      exfalso;obtain⟨q,g,z⟩:=(hl.free e.on).1 (by simp[aa,bc]);rcases dL.1 g with rfl|g
      .omega
      have:=((pW.1 hl.pair).1 q g).1;omega
    rw[ad]at ya;simp at ya
  obtain⟨h1,T,o,n,h3⟩:=NQ.1 hi;obtain⟨p,hp,rfl⟩:=(hl.free i).1 (Xh T);obtain⟨l1,l2,rfl⟩:=List.append_of_mem hp;obtain⟨o',jP,vV⟩:=hl.comp p hp;rw[n]at jP;cases jP;have Yn:∀j:Nat,p.io.anc.testBit j->f[j]?=some true:=by
   intro j u;rw[aam vV]at u;obtain⟨e,he,hb,_,yc⟩:=amx A0 n u;have Bl:=anK (h3 e he hb);rcases yc with rfl|yc
   .exact Bl
   exact hl.closed _ Bl j yc
  have B:=Bv.1 hl.pair;have ab:∀x∈l1,Ka x p:=by
   intro x N;rcases(B.2.2 x N p aG).2 with h|h
   .have:=Yn _ h;rw[(hl.free x.i).2 ⟨x,by simp[N],rfl⟩]at this;cases this
   exact h
  obtain⟨eP,bp,ni,gy⟩:=aeA hL A ab;have key:=abU (Q:=Q) (bN:=wpAny P .any Z Q F (f.setIfInBounds p.i true)) hG hP hS vV ni ay hr O (λa1 m1 k1 k2 k3 k4 k5 k6 k7=>by
   subst k4;have M:p.i<f.size:=by rw[hl.size];exact h1
   refine ih (r:=l1++l2) ⟨?_,λq g=>hl.comp q (by rcases fB.1 g with h|h<;>simp[h]),by simp[hl.size],λk=>?_,λk v j u=>?_⟩ (by simp at H |-;omega) gy k1 k5 k6 ?_
   .refine Bv.2 ⟨B.1,(pW.1 B.2.1).2,λx N ap hy=>B.2.2 x N ap (by simp[hy])⟩
   .rw[G9];by_cases v:p.i=k
    .subst v;rw[aM rfl,aM M];constructor
     .intro h;cases h
     rintro⟨q,g,z⟩
     rcases fB.1 g with h|h
     .have:=(B.2.2 q h p aG).1;omega
     have:=((pW.1 B.2.1).1 q h).1;omega
    rw[aD v,hl.free k];constructor
    .rintro ⟨q,g,z⟩
     rcases fB.1 g with h|h
     .exact⟨q,by simp[h],z⟩
     rcases dL.1 h with rfl|h
     .exact(v z).elim
     exact⟨q,by simp[h],z⟩
    rintro⟨q,g,z⟩
    rcases fB.1 g with h|h
    .exact⟨q,by simp[h],z⟩
    exact⟨q,by simp[h],z⟩
   .have yf:∀j:Nat,f[j]?=some true->(f.setIfInBounds p.i true)[j]?=some true:=by
     intro j u;rw[G9];split
     .first
       |rfl
       |(rename_i e;rw[aM M])
     exact u
    by_cases py:p.i=k
    .subst py;refine yf j (Yn j ?_);rw[aam vV];exact u
    rw[G9,aD py]at v;exact yf j (hl.closed k v j u)
   intro a2 m2 p1 p2 p3 p4 p5 p6 p7;exact R a2 m2 p1 (k2.trans p2) (p3.trans k3) p4 p5 p6 (p7.trans k7))
  unfold wpOp;rw[n];simp only;split at key
  .rename_i hw;rw[aM hw];exact .inl key
  rename_i hw;rw[aD hw];exact key
end
def pB:Nat->en->eI->List xI
 |i,x::F,e::j=>⟨i,x,e⟩::pB (i+1) F j
 |_,_,_=>[]
theorem ajR:∀ {F:en}{j:eI} (i:Nat),I j=I F->(pB i F j).map (·.io)=F/\(pB i F j).map (·.e)=j:=by
 intro F
 induction F with
 |nil=>intro j i h;cases j with
  |nil=>exact⟨rfl,rfl⟩
  |cons _ _=>simp at h
 |cons x F f=>intro j i h;cases j with
  |nil=>simp at h
  |cons e j=>obtain⟨g,H⟩:=f (j:=j) (i+1) (by simpa using h);exact⟨by simp[pB,g],by simp[pB,H]⟩
theorem ars{o:iC}:∀ {f:en}{j:Nat},Ib o j f->∀k x,f[k]?=some x->o.anc.testBit (j+k)\/BI x o:=by
 intro f
 induction f with
 |nil=>intro j _ k x h;simp at h
 |cons y f g=>
  intro j h k x H;simp only[Ib,cq,jC]at h;cases k with
  |zero=>simp at H;subst H;exact h.1
  |succ k=>have:=g h.2 k x (by simpa using H);rw[show j+(k+1)=j+1+k by omega];exact this
theorem aes{anc:Nat}{e:fP}:∀ {f:eI}{j:Nat},JF anc e j f->∀k x,f[k]?=some x->anc.testBit (j+k)\/BN x e=false:=by
 intro f
 induction f with
 |nil=>intro j _ k x h;simp at h
 |cons y f g=>
  intro j h k x H;simp only[JF,cq,jC,hY]at h;cases k with
  |zero=>simp at H;subst H;exact h.1
  |succ k=>have:=g h.2 k x (by simpa using H);rw[show j+(k+1)=j+1+k by omega];exact this
theorem aiN:∀ {F:en}{j:eI}{g:en}{m:eI},I j=I F->I m=I g->GK F g->o7 F m j->
  (∀(q:xI),q∈pB (I g) F j->∀(k:Nat) (x:iC) (e:fP),g[k]?=some x->m[k]?=some e->q.io.anc.testBit k\/(BI x q.io/\BN e q.e=false))/\
  (∀q∈pB (I g) F j,I g<=q.i)/\(pB (I g) F j).Pairwise λp q=>p.i<q.i/\(q.io.anc.testBit p.i\/Ka p q):=by
 intro F
 induction F with
 |nil=>
  intro j g m _ _ _ _;have:pB (I g) [] j=[]:=by cases j<;>rfl
  rw[this];exact⟨λq h=>by simp at h,λq h=>by simp at h,.nil⟩
 |cons x F E=>
  intro j g m hl hp z v;cases j with
  |nil=>simp at hl
  |cons e j=>
   simp only[GK,cq]at z;simp only[o7,cq]at v;obtain⟨i1,i2,i3⟩:=E (j:=j) (g:=g++[x]) (m:=m++[e]) (by simpa using hl) (by simp[hp]) z.2 v.2;have u:I (g++[x])=I g+1:=aG;rw[u]at i1 i2 i3;simp only[pB];refine⟨?_,?_,pW.2 ⟨?_,i3⟩⟩
   .intro q H k y f A B;rcases dL.1 H with rfl|H
    .have r:=ars z.1 k y A;have n:=aes v.1 k f B;rw[ka]at r n;rcases r with r|r
     .exact .inl r
     rcases n with n|n
     .exact .inl n
     exact .inr ⟨r,n⟩
    have D:k<I g:=(ct.1 A).1;exact i1 q H k y f (by rw[zV D];exact A) (by rw[zV J];exact B)
   .intro q H;rcases dL.1 H with rfl|H
    .exact cH _
    have:=i2 q H;omega
   intro q H;refine⟨by have:=i2 q H;simp only;omega,?_⟩;exact i1 q H (I g) x e aG (by rw[<-hp];simp)
theorem al8{anc:Nat->my}{dst:Nat->my}{base:Nat}:∀ {r:List Oper}{F:en}{j:eI}{i:Nat},tN P dst anc base nt i r=some F->I j=I F->(∀f,Z[i+f]?=r[f]?)->
  (∀p∈pB i F j,∃o,Z[p.i]?=some o/\yQ P dst ((base+p.i)*64) nt ((anc p.i).getD 0) o=some p.io)/\ ∀k,i<=k->k<i+I r->∃p∈pB i F j,p.i=k:=by
 intro r
 induction r with
 |nil=>
  intro F j i h _ _;simp only[tN,fu]at h;subst h;have:pB i [] j=[]:=by cases j<;>rfl
  rw[this];exact⟨λp h=>by simp at h,λk m H=>by simp at H;omega⟩
 |cons o r u=>
  intro F j i h hl g;obtain⟨x,X,rfl,m,H⟩:=Uu h;cases j with
  |nil=>simp at hl
  |cons e j=>
   obtain⟨i1,i2⟩:=u (j:=j) H (by simpa using hl) (λf=>by have:=g (f+1);rw[show i+1+f=i+(f+1) by omega];simpa using this);refine⟨λp hp=>?_,λk y v=>?_⟩
   .rcases dL.1 hp with rfl|hp
    .exact⟨o,by have:=g 0;simpa using this,m⟩
    exact i1 p hp
   by_cases q:k=i
   .exact⟨⟨i,x,e⟩,by simp[pB],q.symm⟩
   obtain⟨p,hp,n⟩:=i2 k J (by simp at v;omega);exact⟨p,by simp[pB,hp],n⟩
theorem aqX{E:jH}:∀ {F:en}{y X:bD}{blk L:aB}{j:eI},gw E Y D F y blk=some (X,L,j)->I j=I F:=by
 intro F
 induction F with
 |nil=>intro y X blk L j h;simp only[gw,fu,jU]at h;rw[<-h.2.2];rfl
 |cons x F f=>
  intro y X blk L j h;simp only[gw]at h;split at h
  .split at h
   .rename_i H;cases h;simp[f H]
   cases h
  cases h
theorem ae8{dst anc:Nat->my}{base:Nat}:∀ {r:List Oper}{F:en}{i:Nat},tN P dst anc base nt i r=some F->I F=I r:=by
 intro r
 induction r with
 |nil=>intro F i h;simp only[tN,fu]at h;subst h;rfl
 |cons o r f=>intro F i h;obtain⟨x,X,rfl,_,H⟩:=Uu h;simp[f H]
section
variable {G:World->Prop} (hG:Good G w0) {Y:iH} {D:nn} (hP:yG P G Y) (hS:AE P G D) (hL:vN D) {E:jH}
include hG hP hS hL
theorem arM(vY:P.follows .mixedOrders){base id:Nat}{Q:Exit->Act->World->Prop}{l:en}{j:eI}{a:Act}(q:tN P (λab=>(Z[ab]?).bind (·.dst)) (λi=>(Region.before Z)[i]?) base nt 0 Z.toList=some l)
  (A0:Ep Z) (hf:GK l []) (g:gw E Y D l y m.blk=some (X,L,j)) (r:o7 l [] j) (ay:c9 w0 m) (hr:iw m y a.tmps) (fj:a.tmps.size=nt) (T:Bq w0 m a nt X L (λR w'=>Q .normal R w')):(Code.region id Z true).wp P Q a m.w:=by
 refine wp_region_any vY ?_;have H:=aqX g;have iT:I l=Z.size:=by have:=ae8 q;simpa using this
 obtain⟨g1,N⟩:=ajR 0 H;obtain⟨_,_,hp⟩:=aiN (g:=[]) (m:=[]) H rfl hf r;obtain⟨n,c2⟩:=al8 (Z:=Z) q H (λab=>aG);have sZ:c9 w0 (m.later m.w.drew λ_=>False):=GX ay (gD.drew _) λ_ h=>h.elim;have v:eY m (m.later m.w.drew λ_=>False):=DO (gD.drew _) λ_ h=>h.elim;have O:(m.later m.w.drew λ_=>False).fr=m.fr:=by funext c;simp[aX.later]
 refine ae2 (m:=m.later m.w.drew λ_=>False) hG hP hS hL A0 Z.size (r:=pB 0 l j) (base:=base) ⟨hp,n,aG,λi=>?_,λi f=>?_⟩ ?_ (by rw[g1,N];exact g) sZ (hr.ev v) fj ?_
 .constructor
  .intro h;have f:i<Z.size:=by
    have:=(FV.1 h).1
    simpa using this
   exact c2 i (bC _) (by simpa using f)
  rintro⟨p,hp,rfl⟩
  obtain⟨o,ho,_⟩:=n p hp;have f:p.i<Z.size:=(FV.1 ho).1;simp[f]
 .rw[Array.getElem?_replicate]at f;split at f<;>simp at f
 .have:I (pB 0 l j)=I l:=by have:=congrArg List.length g1;simpa using this
  omega
 intro a2 M p1 A u z x B F;exact T a2 M p1 (v.trans A) (u.trans O) z x B F
end
def P_:lg->Exit
 | .normal=>.normal
 | .exit i=>.exit i
 | .ret=>.ret
section
variable {G:World->Prop} (hG:Good G w0) {Y:iH} {D:nn} (hP:yG P G Y) (hS:AE P G D) (hL:vN D) (vY:P.follows .mixedOrders) {E:jH}
include hG hP hS hL vY
theorem asn:∀(c:Code) {O:aO}{y X:bD}{m:aX}{L:aB}{e:lg}{a:Act}{Q:Exit->Act->World->Prop},mQ P f nt c=some O->c3 E Y D n O y m.blk=some (e,X,L)->c9 w0 m->iw m y a.tmps->a.tmps.size=nt->
  Bq w0 m a nt X L (λa' w'=>Q (P_ e) a' w')->c.wp P Q a m.w:=by
 intro c
 induction c with
 |skip=>intro O y X m L e a Q H h ay hr r g;simp only[mQ,fu]at H;subst H;simp only[c3,fu,jU]at h;obtain⟨rfl,rfl,rfl⟩:=h;exact wp_skip (g a m ay (eY.refl m) rfl rfl hr r rfl)
 |label l=>intro O y X m L e a Q H h ay hr r g;simp only[mQ,fu]at H;subst H;simp only[c3,fu,jU]at h;obtain⟨rfl,rfl,rfl⟩:=h;exact wp_label (g a m ay (eY.refl m) rfl rfl hr r rfl)
 |ret=>intro O y X m L e a Q H h ay hr r g;simp only[mQ,fu]at H;subst H;simp only[c3,fu,jU]at h;obtain⟨rfl,rfl,rfl⟩:=h;exact wp_ret (g a m ay (eY.refl m) rfl rfl hr r rfl)
 |exit id=>intro O y X m L e a Q H h ay hr r g;simp only[mQ,fu]at H;subst H;simp only[c3,fu,jU]at h;obtain⟨rfl,rfl,rfl⟩:=h;exact wp_exit (g a m ay (eY.refl m) rfl rfl hr r rfl)
 |region id Z am=>
  intro O y X m L e a Q H h ay hr r g;simp only[mQ]at H;split at H
  .rename_i F Dn;cases am with
   |false=>
    simp only[ib,if_false,fu]at H;subst H;simp only[c3]at h;split at h
    .rename_i e1 b1 j da;simp only[ib,if_false,fu,jU]at h;obtain⟨rfl,rfl,rfl⟩:=h;exact apz hG hP hS Dn da ay hr r g
    cases h
   |true=>
    simp only[if_true]at H Dn;split at H
    .rename_i vc;simp only[cq]at vc;cases H;simp only[c3]at h;split at h
     .rename_i e1 b1 j da;simp only[if_true]at h;split at h
      .rename_i hd;cases h;exact arM hG hP hS hL vY Dn vc.1 vc.2 da hd ay hr r g
      cases h
     cases h
    cases H
  cases H
 |seq x av ad ar=>
  intro O y X m L e a Q H h ay hr r g;simp only[mQ]at H;split at H
  .rename_i ix iy h1 h2;cases H;simp only[c3]at h;refine wp_seq ?_;split at h
   .rename_i eP bp mh;refine ad h1 mh ay hr r ?_;intro T R B z u A v N M;subst A;refine ar h2 h B v N ?_;intro a2 m2 p1 p2 p3 p4 p5 p6 p7;exact g a2 m2 p1 (z.trans p2) (p3.trans u) p4 p5 p6 (p7.trans M)
   rename_i aY;refine ad h1 h ay hr r ?_;intro T R B z u A v N M;have:=g T R B z u A v N M;cases e with
   |normal=>exact(aY X L h).elim
   |exit i=>exact this
   |ret=>exact this
  cases H
 |cond x p q au an=>
  intro O y X m L e a Q H h ay hr r g;simp only[mQ]at H;split at H
  .rename_i c' ip iq h1 h2 h3;cases H;simp only[c3]at h;split at h
   .rename_i t ht;have hv:=eC h1 hr;rw[ht]at hv;refine wp_cond (zS hv) ?_;cases t with
    |true=>simp only[if_true]at h |-;exact au h2 h ay hr r g
    |false=>simp only[ib,if_false]at h |-;exact an h3 h ay hr r g
   cases h
  cases H
 |block id c ih=>
  intro O y X m L e a Q H h ay hr r g;simp only[mQ,dM]at H;obtain⟨ab,h1,rfl⟩:=H;simp only[c3]at h;refine wp_block ?_;split at h
  .rename_i i eP bp mh;refine ih h1 mh ay hr r ?_;intro T R B z u A v N M;simp only[P_,Exit.inBlock];split at h
   .rename_i hi;cases h;rw[aM hi];exact g T R B z u A v N M
   rename_i hi;cases h;rw[aD hi];exact g T R B z u A v N M
  rename_i aY;refine ih h1 h ay hr r ?_;intro T R B z u A v N M;have:=g T R B z u A v N M;cases e with
  |normal=>exact this
  |exit i=>exact(aY i X L h).elim
  |ret=>exact this
 |loop c ih=>
  intro O y X m L e a Q H h ay hr r g;simp only[mQ,dM]at H;obtain⟨ab,h1,rfl⟩:=H;simp only[c3]at h;refine wp_loop_rounds n ?_;have key:∀(k:Nat) {y:bD}{m:aX}{a:Act},jM (c3 E Y D n ab) k y m.blk=some (e,X,L)->c9 w0 m->iw m y a.tmps->a.tmps.size=nt->Bq w0 m a nt X L (λa' w'=>Q (P_ e) a' w')->Code.rounds P c Q k a m.w:=by
   intro k
   induction k with
   |zero=>intro y m a h;simp[jM]at h
   |succ k ap=>
    intro y m a h ay hr r g;rw[rounds_succ];simp only[jM]at h;split at h
    .rename_i eP bp mh;refine ih h1 mh ay hr r ?_;intro T R B z u A v N M;subst A;refine ap h B v N ?_;intro a2 m2 p1 p2 p3 p4 p5 p6 p7;exact g a2 m2 p1 (z.trans p2) (p3.trans u) p4 p5 p6 (p7.trans M)
    rename_i aY;refine ih h1 h ay hr r ?_;intro T R B z u A v N M;have:=g T R B z u A v N M;cases e with
    |normal=>exact(aY X L h).elim
    |exit i=>exact this
    |ret=>exact this
  exact key n h ay hr r g
 |scope c ih=>intro O y X m L e a Q H h ay hr r g;simp only[mQ]at H;refine wp_scope_straight ?_;refine ih H h ay hr r ?_;intro T R B z u A v N M;have:=g T R B z u A v N M;cases e<;>exact this
 |_=>intro O y X m L e a Q H h;simp only[mQ,fu]at H;subst H;simp[c3]at h
end
section
variable{m:aX}
theorem ajK{k:my}{D:dk}{v:V}{u:Value}(h:ob k D=some v)(hr:cg m v u):mz m v u:=by
 unfold ob at h;split at h
 .split at h
  .cases h;exact hr
  cases h
 split at h
 .cases h;exact hr
 cases h
theorem akY{v:V}{u:Value}(h:LD x=some v)(hr:cg m x u):mz m v u:=by cases x<;>simp only[LD,fu,reduceCtorEq]at h<;>subst h<;>exact hr
theorem VW{α β:Type}{f:α->Sem β}{x:α}{F:List α}{y:β}{ys:List β}{w:World}(H:(f x).run P w=.ok y w)(h:(F.mapM f).run P w=.ok ys w):((x::F).mapM f).run P w=.ok (y::ys) w:=by simp only[List.mapM_cons,Sem.run_bind,H,h,Result.andThen_ok,Sem.run_pure]
theorem aqZ{al:bP}(ay:c9 w0 m){tmps:Array Value}(hr:iw m y tmps):∀ {R:List ResultVar}{l:List (Nat×Option my)}{h:c7},wz P R=some l->mq al y m.blk l=some h->
  ∃ys,(R.mapM (λ| .tmp t=>pure (tmps.getD t undef)| .cell a t=>do loadVar t (<-asAddr (tmps.getD a undef)):ResultVar->Sem Value)).run P m.w=.ok ys m.w/\Pw (mz m) h ys:=by
 intro R
 induction R with
 |nil=>intro l h f H;simp only[wz,fu]at f;subst f;simp only[mq,fu]at H;subst H;exact⟨[],by simp[Sem.run_pure],rfl,λj x u p=>by simp at p⟩
 |cons r R B=>
  intro l h f H;have cons:∀ {x:V}{F:c7}{Y:Value}{ys:List Value},mz m x Y->Pw (mz m) F ys->Pw (mz m) (x::F) (Y::ys):=by
   intro x F Y ys p q;refine⟨by simp[q.1],λj z u a b=>?_⟩;cases j with
   |zero=>simp at a b;subst a b;exact p
   |succ j=>exact q.2 j z u (by simpa using a) (by simpa using b)
  cases r with
  |tmp t=>
   simp only[wz,dM]at f;obtain⟨l',O,rfl⟩:=f;simp only[mq]at H;split at H
   .rename_i v q n E;cases H;obtain⟨ys,g1,g⟩:=B O E;exact⟨_::ys,VW (by simp[Sem.run_pure]) g1,cons (akY n (hr t)) g⟩
   cases H
  |cell a t=>
   simp only[wz]at f;split at f
   .rename_i k q n E;cases f;simp only[mq]at H;split at H
    .rename_i D rd X Q T;split at H
     case isFalse=>cases H
     simp only[dM]at H;obtain⟨v,A,rfl⟩:=H;obtain⟨ys,g1,g⟩:=B E T;obtain⟨Z,Y,N,M,L⟩:=ady n (adw ay Q (hr a)) A;exact⟨Y::ys,VW (by simp[N,asAddr,M]) g1,cons (ajK A L) g⟩
    cases H
   cases f
theorem afb{al:bP}(ay:c9 w0 m){tmps:Array Value}(hr:iw m y tmps){fn:Func}{l:List (Nat×Option my)}{h:c7}(n:wz P fn.results.toList=some l)(H:mq al y m.blk l=some h):
  ∃Y,(results fn tmps).run P m.w=.ok Y m.w/\cg m (uE h) Y:=by
 obtain⟨ys,g1,g⟩:=aqZ ay hr n H;have km:(results fn tmps).run P m.w=.ok (if r:ys.toArray.size=1 then ys.toArray[0]else .tuple ys.toArray) m.w:=by
  unfold results;simp only[Array.mapM_eq_mapM_toList,map_eq_pure_bind,Sem.run_bind,Result.andThen_ok,Sem.run_pure,bind_assoc,pure_bind]
  erw[g1]
  simp only[Result.andThen_ok,Sem.run_pure]
 refine⟨_,km,?_⟩
 match h,ys,g with
 |[v],[Y],g=>exact cg.of1 (g.2 0 v Y rfl rfl)
 |[],[],g=>exact⟨_,rfl,rfl,λj x u p=>by simp at p⟩
 |v::f::h,Y::y'::ys,g=>refine⟨_,rfl,by simpa using g.1,λj x u p q=>g.2 j x u p (by simpa using q)⟩
 |[],Y::ys,g=>exact absurd g.1 aG
 |v::h,[],g=>exact absurd g.1 aG
 |[v],Y::y'::ys,g=>exact absurd g.1 aG
 |v::f::h,[Y],g=>exact absurd g.1 aG
theorem Z_{fn:aU}(h:y8 P f=some fn):∃g c,P.funcs[f]?=some g/\g.body=some c/\(g.name== "runtime.NumGoroutine")=false/\mQ P f g.ntmps c=some fn.body/\wz P g.results.toList=some fn.results/\fn.ntmps=g.ntmps:=by
 unfold y8 at h;split at h
 .cases h
 rename_i g H;split at h
 .cases h
 rename_i c n;split at h
 .cases h
 rename_i q;split at h
 .rename_i b r m j;cases h;exact⟨g,c,H,n,by simpa using q,m,j,rfl⟩
 cases h
def Vq(S:Sys)(G:World->Prop):Prop:=∀f h r,S.prim f h=some (some r)->Enters S.P f/\ ∀(w:World) (O:Nat->Prop) (T:Array Value),Good G w->(∀c,O c->c<w.heap.size)->Pw (oK w O) h T.toList->Calls S.P f T w (sG w O r)
def VX(S:Sys)(G:World->Prop):Prop:=∀f h al blk v L,S.trig f h->(S.primS f h al blk).map (λr=>(r.1,app r.2 blk))=some (v,L)->
 (Enters S.P f/\ ∀(w0:World) (m:aX) (T:Array Value),Good G w0->c9 w0 m->m.blk=blk->Pw (cg m) h T.toList->Calls S.P f T m.w (wX w0 m v L))/\
 (∀id,al.ok id=false->L id=blk id)/\
 ∀aV,(∀id,al.ok id->aV id=blk id)->∃g,(S.primS f h al aV).map (λr=>(r.1,app r.2 aV))=some (v,g)/\ ∀id,g id=if al.ok id then L id else aV id
structure Eo (S:Sys) (G:World->Prop):Prop where
 follow:S.P.follows .mixedOrders
 fns:∀f fn,S.fns f=some fn->y8 S.P f=some fn
 prim:Vq S G
 primS:VX S G
theorem ahE{h:c7}(j:Pw (cg m) h T.toList)(hl:I h<=nt):iw m (oh h) (T++Array.replicate (nt-T.size) undef)/\(T++Array.replicate (nt-T.size) undef).size=nt:=by
 have aa:T.size=I h:=by simpa using j.1
 constructor
 .intro t;by_cases H:t<I h
  .have f:oh h t=h[t]:=by simp[oh,List.getD,H]
   have g:(T++Array.replicate (nt-T.size) undef).getD t undef=T[t]:=by simp[v8,Tk,aa,H]
   rw[f,g];exact j.2 t _ _ (by simp[H]) (by simp[aa,H])
  have f:oh h t=.undef:=by simp[oh,List.getD,o6 (Vm H)]
  have g:(T++Array.replicate (nt-T.size) undef).getD t undef=undef:=by simp only[v8,Tk,aa,aD H];rw[Array.getElem?_replicate];split<;>rfl
  rw[f,g];rfl
 simp;omega
theorem alH(ay:c9 w0 m):∀ {o q:aA},pE o q->(∀id∈o,∃O,(m.blk id).2=some O/\O.eV)->(o.map m.σ).Nodup/\ ∀id∈q,id∉o:=by
 intro o
 induction o with
 |nil=>intro q _ _;exact⟨aG,λid _ h=>by simp at h⟩
 |cons i o u=>
  intro q h g;simp only[pE,cq,hY]at h;obtain⟨⟨F,r⟩,v⟩:=h;obtain⟨i1,i2⟩:=u v (λid H=>g id (by simp[H]));have E:i∉o:=by simpa using F
  have x:i∉q:=by simpa using r
  refine⟨?_,λid H=>?_⟩
  .rw[ew,n9];refine⟨λy=>?_,i1⟩;obtain⟨j,n,z⟩:=eJ.1 y;obtain⟨O,A,D⟩:=g i aG;obtain⟨f,B,b2⟩:=g j (by simp[n]);exact E (ay.inj j i f O B b2 A D z▸n)
  simp only[dL,not_or];exact⟨λe=>x (e▸H),i2 id H⟩
theorem asl{blk:aB}:∀ {D:dk}{r:lD}{o q:aA},kQ blk D=some (r,o,q)->I r=I D:=by
 intro D
 induction D with
 |nil=>intro r o q h;simp only[kQ,fu,jU]at h;obtain⟨rfl,_,_⟩:=h;rfl
 |cons c D f=>
  intro r o q h;simp only[kQ]at h;split at h
  .rename_i x O g F os Q j H;cases h;simp[f H]
  cases h
theorem XX{α β:Type}{f:α->Option (β×aA)}:∀ {F:List α}{ys:List β}{r:aA},fk f F=some (ys,r)->∀id∈r,∃x y q,f x=some (y,q)/\id∈q:=by
 intro F
 induction F with
 |nil=>intro ys r h id H;simp[fk]at h;rw[h.2]at H;simp at H
 |cons x F g=>
  intro ys r h id H;simp only[fk]at h;split at h
  .rename_i b p B q E j;cases h;rcases fB.1 H with H|H
   .exact⟨x,b,p,E,H⟩
   exact g j id H
  cases h
theorem aho{blk:aB}:∀ {n:Nat}{c:b_}{x:PV}{r:aA},snap blk n c=some (x,r)->∀id∈r,∃O,(blk id).2=some O:=by
 intro n
 induction n with
 |zero=>intro c x r h;simp[snap]at h
 |succ n A=>
  intro c x r h id H;have one:∀ {i:Nat}{O:eN}{g:Nat},blk i=(g,some O)->id∈[i]->∃O,(blk id).2=some O:=by intro i O g f v;simp at v;subst v;exact⟨O,by rw[f]⟩
  have j:∀ {D:dk}{ps:c_}{r:aA},fk (snap blk n) D=some (ps,r)->id∈r->∃O,(blk id).2=some O:=by intro D ps r h v;obtain⟨x,y,q,u,m⟩:=XX h id v;exact A u id m
  unfold snap at h;split at h
  .cases h;simp at H
  .split at h
   .rename_i f;split at h
    .split at h
     .rename_i z;cases h;rcases dL.1 H with e|H
      .exact one f (by simp[e])
      exact j z H
     cases h
    cases h
   .rename_i f;split at h
    .cases h;exact one f H
    cases h
   cases h
  .split at h
   .rename_i f;split at h
    .simp only[dM]at h;obtain⟨e,_,m⟩:=h;cases m;exact one f H
    cases h
   .rename_i f;split at h
    .simp only[dM]at h;obtain⟨e,_,m⟩:=h;cases m;exact one f H
    cases h
   cases h
  .split at h
   .rename_i f;split at h
    .cases h;exact one f H
    cases h
   .rename_i f;split at h
    .cases h;exact one f H
    cases h
   .rename_i f;split at h
    .split at h
     .rename_i z;cases h;rcases dL.1 H with e|H
      .exact one f (by simp[e])
      obtain⟨x,y,q,u,m⟩:=XX z id H;exact j u m
     cases h
    cases h
   cases h
  .split at h
   .rename_i f;split at h
    .cases h;exact one f H
    cases h
   .rename_i f;split at h
    .cases h;exact one f H
    cases h
   cases h
  split at h
  .rename_i u m;cases h;rcases fB.1 H with H|H
   .exact j u H
   exact j m H
  cases h
theorem anh{blk:aB}:∀ {D:dk}{R:lD}{o q:aA},kQ blk D=some (R,o,q)->∀id∈q,∃O,(blk id).2=some O:=by
 intro D
 induction D with
 |nil=>intro R o q h id H;simp only[kQ,fu,jU]at h;rw[<-h.2.2]at H;simp at H
 |cons c D n=>
  intro R o q h id H;simp only[kQ]at h;split at h
  .rename_i x u Q F os z f g;cases h;rcases fB.1 H with H|H
   .have cG:(snap blk dS c).map (λ(v,r)=>((.p v:kj),([]:aA),r))=some (x,u,Q)->∃O,(blk id).2=some O:=by
     intro f;simp only[dM]at f;obtain⟨⟨y,r⟩,j,m⟩:=f;cases m;exact aho j id H
    unfold iZ at f;split at f
    .cases f;simp at H
    .split at f
     .split at f
      .cases f;simp at H
      cases f
     exact cG f
    exact cG f
   exact n g id H
  cases h
theorem ap6{w:World}{T:aX}(ay:c9 w m)(E:eY T m)(kh:T.w=w)(N:∀c,¬T.eV c)(oZ:m.fr=O){v:V}(y:hJ m.blk v=some r)(hr:cg m v val):sG w O r (.returned val) m.w:=by
 unfold hJ at y;split at y
 .rename_i D cX;split at y
  .rename_i rs o q B;split at y
   .rename_i u5;cases y;obtain⟨h,x,dJ⟩:=ag4 cX hr;obtain⟨g1,g2⟩:=dJ rs (asl B);have F:=(aa2 ay (Q:=λ_=>False) (λ_ y=>y.elim) B x (λ_ _ y=>y)).2;obtain⟨fD,X⟩:=alH ay u5 F;have Yl:∀b,(O b\/b∈o.map m.σ)->m.own b:=by
     intro b z;rcases z with z|z
     .exact .inl (oZ▸z)
     obtain⟨id,H,rfl⟩:=eJ.1 z;obtain⟨f,A,L⟩:=F id H;exact .inr ⟨id,f,A,L,rfl⟩
    have hq:∀id∈q,¬(O (m.σ id)\/m.σ id∈o.map m.σ):=by
     intro id H u;obtain⟨f,n⟩:=anh B id H;by_cases R:f.eV
     .rcases u with u|u
      .exact(ay.dA id f n R).2 (oZ▸u)
      obtain⟨j,hj,he⟩:=eJ.1 u;obtain⟨Z,b1,b2⟩:=F j hj;exact X id H (ay.inj j id Z f b1 b2 n R he▸hj)
     have g:¬m.own (m.σ id):=by
      have Y:=ay.obj id f n;cases f<;>simp[eN.eV]at R
      .obtain⟨_,_,_,_,_,g⟩:=Y;exact g
      .obtain⟨_,_,_,_,_,_,_,_,_,g⟩:=Y;exact g
      obtain⟨_,_,_,_,_,g⟩:=Y;exact g
     exact g (Yl _ u)
    obtain⟨M,_⟩:=aa2 ay Yl B x hq;subst kh;refine⟨val,o.map m.σ,rfl,⟨E.os,E.tape,E.output,E.size,λc x=>E.keep c x (N c)⟩,fD,λc x=>?_,h,g2,by rw[g1];exact M⟩;obtain⟨id,H,rfl⟩:=eJ.1 x;obtain⟨f,A,L⟩:=F id H;exact⟨(ay.dA id f A L).1,(ay.obj id f A).lt⟩
   cases y
  cases y
 cases y
theorem oK.vrel{w:World}(H:m.w=w)(f:m.own=O)(h:oK w O x v):cg m x v:=by
 subst H f;cases x with
 |undef=>exact h.elim
 |tup _=>exact h.elim
 |one c=>
  cases c with
  |p x=>exact k9 h
  |_=>exact h.elim
 |agg D=>obtain⟨arr,ps,rfl,rfl,hp⟩:=h;exact cg.agg.2 ⟨arr,rfl,hp.Ac⟩
theorem ajw{E:jH}{fn:aU}{T:c7}{blk:aB}{v:V}(H:nL E Y D n fn T blk=some (v,L)):
  ∃e y h,c3 E Y D n fn.body (oh T) blk=some (e,y,L)/\(e=.normal\/e=.ret)/\mq E.al y L fn.results=some h/\v=uE h:=by
 unfold nL at H;split at H
 .rename_i y b j;simp only[dM]at H;obtain⟨h,g,f⟩:=H;cases f;exact⟨_,y,h,j,.inl rfl,g,rfl⟩
 .rename_i y b j;simp only[dM]at H;obtain⟨h,g,f⟩:=H;cases f;exact⟨_,y,h,j,.inr rfl,g,rfl⟩
 cases H
theorem aaz{G:World->Prop}(hG:Good G w0)(hP:yG P G Y)(hS:AE P G D)(hL:vN D)(vY:P.follows .mixedOrders){E:jH}{fn:aU}(hc:y8 P f=some fn){h:c7}{m:aX}{v:V}(ad:nL E Y D n fn h m.blk=some (v,L))
  (hl:I h<=fn.ntmps) (ay:c9 w0 m) (ha:Pw (cg m) h T.toList):Calls P f T m.w (wX w0 m v L):=by
 obtain⟨j,c,B,H,h3,z,N,Z⟩:=Z_ hc;obtain⟨e,y,R,X,he,F,rfl⟩:=ajw ad;refine calls_of_wp B H ?_;obtain⟨Q,x⟩:=ahE (nt:=j.ntmps) ha (by rw[<-Z];exact hl);refine asn hG hP hS hL vY c z X ay Q x ?_;intro A M g k2 u k4 O k6 q;subst k4;obtain⟨ab,g1,r⟩:=afb g O N F;have:bodyPost P j (wX w0 m (uE R) M.blk) .normal A M.w:=⟨q,ab,g1,ab,M,rfl,rfl,g,k2,u,rfl,r⟩;rcases he with rfl|rfl
 .exact this
 exact this
theorem enters_of{fn:aU}(m:y8 P f=some fn):Enters P f:=by obtain⟨j,c,H,h,g,_⟩:=Z_ m;exact⟨j,c,H,h,g⟩
theorem sound{S:Sys}{G:World->Prop}(g:Eo S G):∀n,yG S.P G (iu S n)/\AE S.P G (gG S n)/\vN (gG S n):=by
 intro n
 induction n with
 |zero=>exact⟨λf h r g=>by simp[iu]at g,λf h al blk v L g=>by simp[gG]at g,λf h al blk v L g=>by simp[gG]at g⟩
 |succ n ih=>
  obtain⟨hP,hS,hL⟩:=ih;refine⟨?_,?_,?_⟩
  .intro f h r H;rw[iu]at H;split at H
   .rename_i r' hp;subst H;exact g.prim f h r hp
   split at H
   .rename_i fn hfn;have z:=g.fns f fn hfn;split at H
    .rename_i hl;refine⟨enters_of z,λw O T hG hO A=>?_⟩;unfold zN at H;split at H
     .rename_i v L hr
      let M:aX:=⟨w,vQ,λ_=>0,λ_=>0,O⟩
      have N:M.own=O:=by
       funext c;apply propext;constructor
       .rintro (g|⟨id,o,g,_⟩)
        .exact g
        cases g
       exact .inl
      have ay:c9 w M:=⟨rfl,rfl,rfl,cH _,λ_ _=>rfl,(λid o g=>by cases g),(λid o g=>by cases g),hO,(λid et o o' g=>by cases g)⟩;have D:Pw (cg M) h T.toList:=⟨A.1,λj x u p q=>(A.2 j x u p q).vrel rfl N⟩;refine(aaz hG hP hS hL g.follow z (m:=M) hr hl ay D).mono ?_;rintro e w' ⟨val,m',rfl,rfl,Z,q2,q3,q4,q5⟩
      subst q4;exact ap6 (T:=M) Z q2 rfl (λc ⟨id,o,g,_⟩=>by cases g) q3 H q5
     cases H
    cases H
   cases H
  .intro f h al blk v L H;rw[gG]at H;by_cases y:S.trig f h
   .rw[aM y]at H;exact(g.primS f h al blk v L y H).1
   rw[aD y]at H;split at H
   .rename_i fn hfn;have z:=g.fns f fn hfn;split at H
    .rename_i hl;refine⟨enters_of z,λw0 m T hG ay Y A=>?_⟩;subst Y;exact aaz hG hP hS hL g.follow z H hl ay A
    cases H
   cases H
  intro f h al blk v L H;rw[gG]at H;by_cases y:S.trig f h
  .rw[aM y]at H;obtain⟨_,R,X⟩:=g.primS f h al blk v L y H;refine⟨R,λaV B=>?_⟩;obtain⟨E,Q,F⟩:=X aV B;exact⟨E,by rw[gG,aM y];exact Q,F⟩
  rw[aD y]at H;split at H
  .rename_i fn hfn;split at H
   .rename_i hl;obtain⟨R,X⟩:=ah6 hL H;refine⟨R,λaV B=>?_⟩;obtain⟨E,Q,F⟩:=X aV B;exact⟨E,by rw[gG,aD y];simp only[hfn,hl,if_true];exact Q,F⟩
   cases H
  cases H
theorem aC.calls{S:Sys}{G:World->Prop}(H:Eo S G){h:c7}(j:aC S f h r)(w:World)(hG:Good G w)(T:Array Value)(g:Pw (oK w λ_=>False) h T.toList):Calls S.P f T w (sG w (λ_=>False) r):=by obtain⟨n,m⟩:=j;exact((sound H n).1 f h r m).2 w _ T hG (λc H=>H.elim) g
end
section
variable{T:c7}{D:nn}{E:jH}{Y:iH}
theorem ZU(h:n<=9223372036854775807):IntKind.i64.wrap (n:Int)=n:=by have e:(2 ^ IntKind.i64.bits:Int)=18446744073709551616:=U;have E:(2 ^ (IntKind.i64.bits-1):Int)=9223372036854775808:=U;unfold IntKind.wrap;simp only[e,E];have H:(n:Int)%18446744073709551616=n:=J;rw[H];have f:¬(n:Int)≥9223372036854775808:=J;simp[f]
inductive dG where
 |leaf
 |node (v:V) (l r:dG)
noncomputable def dG.get (t:dG):Nat->V:=dG.rec (motive:=λ_=>Nat->V) (λ_=>.undef) (λv _ _ g fI n=>bif Nat.beq n 0 then v else bif Nat.beq (Nat.mod n 2) 1 then g (Nat.div n 2)else fI (Nat.sub (Nat.div n 2) 1)) t
noncomputable def dG.single (k:Nat):Nat->V->dG:=Nat.rec (motive:=λ_=>Nat->V->dG) (λ_ _=>.leaf) (λ_ f n x=>bif Nat.beq n 0 then .node x .leaf .leaf else bif Nat.beq (Nat.mod n 2) 1 then .node .undef (f (Nat.div n 2) x) .leaf else .node .undef .leaf (f (Nat.sub (Nat.div n 2) 1) x)) k
noncomputable def dG.set (t:dG):Nat->V->dG:=dG.rec (motive:=λ_=>Nat->V->dG) (λn x=>dG.single 12 n x) (λv l r sl f n x=>bif Nat.beq n 0 then .node x l r else bif Nat.beq (Nat.mod n 2) 1 then .node v (sl (Nat.div n 2) x) r else .node v l (f (Nat.sub (Nat.div n 2) 1) x)) t
theorem zP{a b:Nat}(h:a≠b):Nat.beq a b=false:=by
 cases e:Nat.beq a b with
 |false=>rfl
 |true=>exact(h (sF e)).elim
theorem aeB(n:Nat):dG.leaf.get n=.undef:=rfl
theorem Np(v:V)(l r:dG)(n:Nat):(dG.node v l r).get n=if n=0 then v else if n%2=1 then l.get (n/2)else r.get (n/2-1):=by
 show(bif Nat.beq n 0 then v else bif Nat.beq (n%2) 1 then l.get (n/2)else r.get (n/2-1))=_;by_cases H:n=0
 .subst H;rfl
 rw[zP H,aD H];by_cases h:n%2=1
 .rw[h];rfl
 rw[zP h,aD h];rfl
theorem aal(f:dG->dG)(g:dG->dG)(v:V)(l r:dG)(n m:Nat)(x:V)(hl:n%2=1->(f l).get (m/2)=if m/2=n/2 then x else l.get (m/2))(hr:n≠0->n%2≠1->(g r).get (m/2-1)=if m/2-1=n/2-1 then x else r.get (m/2-1)):
  (bif Nat.beq n 0 then dG.node x l r else bif Nat.beq (n%2) 1 then .node v (f l) r else .node v l (g r)).get m=if m=n then x else(dG.node v l r).get m:=by
 by_cases j:n=0
 .subst j;simp only[Hv,cond_true,Np];by_cases h:m=0<;>simp[h]
 rw[zP j];by_cases q:n%2=1
 .rw[q];simp only[cond_false,Hv,cond_true,Np];by_cases h:m=0
  .subst h;rw[aM rfl,aD (λe=>j e.symm),aM rfl]
  rw[aD h];by_cases L:m%2=1
  .rw[aM L,hl q];by_cases H:m=n
   .subst H;simp
   rw[aD H,aD J,aD h,aM L]
  rw[aD L,aD J,aD h,aD L]
 rw[zP q];simp only[cond_false,Np];by_cases h:m=0
 .subst h;rw[aM rfl,aD (λe=>j e.symm),aM rfl]
 rw[aD h];by_cases L:m%2=1
 .rw[aM L,aD J,aD h,aM L]
 rw[aD L,hr j q];by_cases H:m=n
 .subst H;simp
 rw[aD H,aD J,aD h,aD L]
theorem afd:∀(k n m:Nat) (x:V),n+1<2 ^ k->(dG.single k n x).get m=if m=n then x else dG.leaf.get m:=by
 intro k
 induction k with
 |zero=>intro n m x h;simp at h
 |succ k f=>
  intro n m x h;have hp:2 ^ (k+1)=2*2 ^ k:=by rw[Nat.pow_succ];omega
  have:=aal (λ_=>dG.single k (n/2) x) (λ_=>dG.single k (n/2-1) x) .undef .leaf .leaf n m x (λ_=>f _ _ _ J) (λ_ _=>f _ _ _ J);have e:(dG.node .undef .leaf .leaf).get m=dG.leaf.get m:=by rw[Np];simp[aeB]
  rw[e]at this;exact this
theorem dG.Yb:∀(t:dG) (n m:Nat) (x:V),n+1<2 ^ 12->(t.set n x).get m=if m=n then x else t.get m:=by
 intro t
 induction t with
 |leaf=>intro n m x h;exact afd 12 n m x h
 |node v l r g f=>intro n m x h;exact aal (λl=>l.set (n/2) x) (λr=>r.set (n/2-1) x) v l r n m x (λ_=>g _ _ _ J) (λ_ _=>f _ _ _ J)
abbrev BL:=List (Nat×(Nat×Option eN))
noncomputable def CG (b:BL) (n:Nat):Nat×Option eN:=List.rec (motive:=λ_=>Nat×Option eN) (0,none) (λp _ f=>bif Nat.beq p.1 n then p.2 else f) b
noncomputable def GA:BL->Nat->Nat×Option eN->BL
 |[],n,x=>[(n,x)]
 |(i,o)::r,n,x=>bif Nat.beq i n then(i,x)::r else(i,o)::GA r n x
theorem al4:∀(b:BL) (n:Nat) (x:Nat×Option eN) (m:Nat),CG (GA b n x) m=if m=n then x else CG b m:=by
 intro b
 induction b with
 |nil=>
  intro n x m;simp only[GA,CG];by_cases h:m=n
  .subst h;simp
  have:Nat.beq n m=false:=zP λe=>h e.symm;simp[this,h]
 |cons p b f=>
  obtain⟨i,o⟩:=p;intro n x m;simp only[GA];by_cases h:i=n
  .subst h;simp only[Hv,cond_true,CG];by_cases H:m=i
   .subst H;simp
   have:Nat.beq i m=false:=zP λe=>H e.symm;simp[this,H]
  have:Nat.beq i n=false:=zP h;simp only[this,cond_false,CG];by_cases H:i=m
  .subst H;simp[h]
  have:Nat.beq i m=false:=zP H;simp only[this,cond_false];exact f n x m
noncomputable def mT (t:dG):bD:=λi=>t.get i
noncomputable def jr (b:BL):aB:=λi=>CG b i
noncomputable def C9:Nat->c7->dG->dG
 |_,[],t=>t
 |i,a::r,t=>C9 (i+1) r (t.set i a)
theorem ae1:∀(l:c7) (i:Nat) (t:dG) (m:Nat),i+I l<4095->(C9 i l t).get m=if i<=m/\m<i+I l then l.getD (m-i) .undef else t.get m:=by
 intro l
 induction l with
 |nil=>intro i t m _;simp[C9];intro f H;omega
 |cons a r g=>
  intro i t m h;simp only[dE]at h |-;rw[C9,g (i+1) _ m J,dG.Yb t i m a J];by_cases f:m=i
  .subst f;rw[aD J,aM rfl,aM J];simp
  rw[aD f];by_cases H:i+1<=m/\m<i+1+I r
  .rw[aM H,aM J];obtain⟨k,rfl⟩:∃k,m=i+1+k:=⟨m-(i+1),J⟩;rw[show i+1+k-(i+1)=k by omega,show i+1+k-i=k+1 by omega];simp
  rw[aD H,aD J]
theorem anG(h:I T<4095):mT (C9 0 T .leaf)=oh T:=by
 funext m;unfold mT oh;rw[ae1 T 0 .leaf m J];by_cases H:m<I T
 .rw[aM J];rfl
 rw[aD J];simp[dG.get,List.getD,o6 (Vm H)]
noncomputable def TA {α:Type} (n:Nat) (k:Nat->α):α:=match n with
 |0=>k 0
 |m+1=>k (m+1)
noncomputable def TZ {α:Type} (z:Int) (k:Int->α):α:=match z with
 | .ofNat n=>TA n λn=>k (.ofNat n)
 | .negSucc n=>TA n λn=>k (.negSucc n)
noncomputable def N1 {α:Type} (v:V) (k:V->α):α:=match v with
 | .one (.p (.int t z))=>TZ z λz=>k (.one (.p (.int t z)))
 | .one (.p (.bool b))=>match b with
  |true=>k (.one (.p (.bool true)))
  |false=>k (.one (.p (.bool false)))
 |v=>k v
@[simp] theorem asE {α:Type} (n:Nat) (k:Nat->α):TA n k=k n:=by cases n<;>rfl
@[simp] theorem asC {α:Type} (z:Int) (k:Int->α):TZ z k=k z:=by cases z<;>simp[TZ]
@[simp] theorem aiX {α:Type} (v:V) (k:V->α):N1 v k=k v:=by
 unfold N1;split
 .simp
 .split<;>rfl
 rfl
def I_(al:bP)(l:aA):Bool:=bif al.any then true else al.fG l
theorem ajm(al:bP)(l:aA):I_ al l=al.fG l:=by
 unfold I_;cases h:al.any with
 |false=>rfl
 |true=>simp[bP.fG,bP.ok,h]
abbrev mP:=Nat->c7->bP->BL->Option (V×BL)
noncomputable def BT:iB->BL->BL
 |[],b=>b
 |(i,o)::r,b=>BT r (GA b i o)
theorem OW:∀(u:iB) (b:BL),jr (BT u b)=app u (jr b):=by
 intro u
 induction u with
 |nil=>intro b;rfl
 |cons x u f=>obtain⟨i,o⟩:=x;intro b;simp only[BT,app];rw[f];congr 1;funext m;exact al4 b i o m
noncomputable def EU (t:dG) (d:my) (v:V) (k:dG->Option (dG×BL×fP)):Option (dG×BL×fP):=match d with
 |none=>k t
 |some n=>bif Nat.ble n 4000 then N1 v λv=>k (t.set n v)else none
noncomputable def Nj (E:jH) (Y:iH) (D:mP) (o:iC) (t:dG) (b:BL):Option (dG×BL×fP):=
 match n0 (mT t) o.guard with
 |none=>none
 |some false=>EU t o.dst .undef λT=>some (T,b,⟨[],[],[]⟩)
 |some true=>match bU E.shared (mT t) (jr b) o.op with
  | .fail=>none
  | .done v u r=>bif I_ E.al (r++u.map (·.1))then EU t o.dst v λT=>some (T,BT u b,⟨r,u.map (·.1),[]⟩)else none
  | .pc f h r s=>match Y f h with
   |some x=>match d_ (jr b) r s (x.eU (E.lone s))with
    |some (v,u)=>bif I_ E.al (r++u.map (·.1))then EU t o.dst v λT=>some (T,BT u b,⟨r++u.map (·.1),u.map (·.1),[]⟩)else none
    |none=>none
   |none=>none
  | .sc f h=>match gr E f h (jr b)with
   |al=>bif E.al.holds al then
     match D f h al b with
     |some (v,M)=>EU t o.dst v λT=>some (T,M,⟨al.ids,al.ids,al.fs⟩)
     |none=>none
    else none
noncomputable def Eh (D:nn) (g:mP):Prop:=∀f h al b v M,g f h al b=some (v,M)->D f h al (jr b)=some (v,jr M)
theorem KS{t T:dG}{d:my}{v:V}{b M:BL}{e e':fP}(h:EU t d v (λT=>some (T,b,e))=some (T,M,e')):dx (mT t) d v=mT T/\b=M/\e=e':=by
 unfold EU at h;split at h
 .cases h;exact⟨rfl,rfl,rfl⟩
 rename_i n;cases H:Nat.ble n 4000 with
 |false=>rw[H]at h;cases h
 |true=>rw[H]at h;simp only[cond_true,aiX]at h;cases h;refine⟨?_,rfl,rfl⟩;have:=gU H;funext m;unfold mT dx;exact(dG.Yb t n m v J).symm
theorem aof{m:mP}(aa:Eh D m){o:iC}{t T:dG}{b M:BL}{e:fP}(H:Nj E Y m o t b=some (T,M,e)):jy E Y D o (mT t) (jr b)=some (mT T,jr M,e):=by
 unfold Nj at H;simp only[ajm]at H;unfold jy;split at H
 .cases H
 .rename_i j;rw[j];obtain⟨g,rfl,rfl⟩:=KS H;simp only[g]
 rename_i j;rw[j];simp only;split at H
 .cases H
 .rename_i v u r hp;cases ay:E.al.fG (r++u.map (·.1))with
  |false=>rw[ay]at H;cases H
  |true=>rw[ay]at H;obtain⟨g,rfl,rfl⟩:=KS H;simp only[hp,ay,if_true,g,OW]
 .rename_i f h r s hp;split at H
  .rename_i x n;split at H
   .rename_i v u hl;cases ay:E.al.fG (r++u.map (·.1))with
    |false=>rw[ay]at H;cases H
    |true=>rw[ay]at H;obtain⟨g,rfl,rfl⟩:=KS H;simp only[hp,n,hl,ay,if_true,g,OW]
   cases H
  cases H
 rename_i f h hp;cases ay:E.al.holds (gr E f h (jr b))with
 |false=>rw[ay]at H;cases H
 |true=>
  rw[ay]at H;simp only[cond_true]at H;split at H
  .rename_i v B q;obtain⟨g,rfl,rfl⟩:=KS H;simp only[hp,ay,if_true,aa _ _ _ _ _ _ q,g]
  cases H
noncomputable def aqT (E:jH) (Y:iH) (D:mP) (o:iC) (g:dG->BL->Option (dG×BL×eI)) (y:dG) (blk:BL):Option (dG×BL×eI):=
 match Nj E Y D o y blk with
 |some (X,L,e)=>match g X L with
  |some (O,f,j)=>some (O,f,e::j)
  |none=>none
 |none=>none
noncomputable def Ds (E:jH) (Y:iH) (D:mP) (l:en):dG->BL->Option (dG×BL×eI):=List.rec (motive:=λ_=>dG->BL->Option (dG×BL×eI)) (λy blk=>some (y,blk,[])) (λo _ f=>aqT E Y D o f) l
theorem asx(E:jH)(Y:iH)(D:mP)(y:dG)(blk:BL):Ds E Y D [] y blk=some (y,blk,[]):=rfl
theorem ari(E:jH)(Y:iH)(D:mP)(o:iC)(r:en)(y:dG)(blk:BL):Ds E Y D (o::r) y blk=match Nj E Y D o y blk with
  |some (X,L,e)=>match Ds E Y D r X L with
   |some (O,f,j)=>some (O,f,e::j)
   |none=>none
  |none=>none:=rfl
theorem ail{f:mP}(aa:Eh D f):∀ {Z:en}{t T:dG}{b M:BL}{j:eI},Ds E Y f Z t b=some (T,M,j)->gw E Y D Z (mT t) (jr b)=some (mT T,jr M,j):=by
 intro Z
 induction Z with
 |nil=>intro t T b M j h;simp only[asx,fu,jU]at h;obtain⟨rfl,rfl,rfl⟩:=h;rfl
 |cons o r g=>
  intro t T b M j h;simp only[ari]at h;split at h
  .rename_i u B v n;split at h
   .rename_i q b2 m H;cases h;simp only[gw,aof aa n,g H]
   cases h
  cases h
noncomputable def Gp (f:dG->BL->Option (lg×dG×BL)) (n:Nat):dG->BL->Option (lg×dG×BL):=
 Nat.rec (motive:=λ_=>dG->BL->Option (lg×dG×BL)) (λ_ _=>none) (λ_ g y blk=>match f y blk with
  |some (.normal,X,L)=>g X L
  |r=>r) n
theorem aqV(f:dG->BL->Option (lg×dG×BL))(n:Nat)(y:dG)(blk:BL):Gp f (n+1) y blk=match f y blk with
  |some (.normal,X,L)=>Gp f n X L
  |r=>r:=rfl
abbrev ue:=dG->BL->Option (lg×dG×BL)
noncomputable def akw (E:jH) (Y:iH) (D:mP) (d:Bool) (Z:en):ue:=λy blk=>match Ds E Y D Z y blk with
  |some (X,L,j)=>bif d then(bif o7 Z [] j then some (.normal,X,L)else none)else some (.normal,X,L)
  |none=>none
noncomputable def afu (a b:ue):ue:=λy blk=>match a y blk with
  |some (.normal,X,L)=>b X L
  |r=>r
noncomputable def aks (x:dR) (a b:ue):ue:=λy blk=>match ev (mT y) x with
  | .one (.p (.bool t))=>bif t then a y blk else b y blk
  |_=>none
noncomputable def agk (id:Nat) (c:ue):ue:=λy blk=>match c y blk with
  |some (.exit i,X,L)=>bif Nat.beq i id then some (.normal,X,L)else some (.exit i,X,L)
  |r=>r
noncomputable def qt (E:jH) (Y:iH) (D:mP) (n:Nat) (c:aO):ue:=
 aO.rec (motive:=λ_=>ue) (λy blk=>some (.normal,y,blk)) (λd Z=>akw E Y D d Z) (λ_ _ a b=>afu a b) (λx _ _ a b=>aks x a b)
  (λid _ c=>agk id c) (λ_ c=>Gp c n) (λid y blk=>some (.exit id,y,blk)) (λy blk=>some (.ret,y,blk)) (λ_ _=>none) c
section
variable (E:jH) (Y:iH) (D:mP) (n:Nat) (y:dG) (blk:BL)
theorem akG:qt E Y D n .skip y blk=some (.normal,y,blk):=rfl
theorem asz(id:Nat):qt E Y D n (.exit id) y blk=some (.exit id,y,blk):=rfl
theorem ahW:qt E Y D n .ret y blk=some (.ret,y,blk):=rfl
theorem aje(d:Bool)(Z:en):qt E Y D n (.region d Z) y blk=match Ds E Y D Z y blk with
  |some (X,L,j)=>bif d then(bif o7 Z [] j then some (.normal,X,L)else none)else some (.normal,X,L)
  |none=>none:=rfl
theorem amc(a b:aO):qt E Y D n (.seq a b) y blk=match qt E Y D n a y blk with
  |some (.normal,X,L)=>qt E Y D n b X L
  |r=>r:=rfl
theorem ai4(x:dR)(a b:aO):qt E Y D n (.cond x a b) y blk=match ev (mT y) x with
  | .one (.p (.bool t))=>bif t then qt E Y D n a y blk else qt E Y D n b y blk
  |_=>none:=rfl
theorem aky(id:Nat)(c:aO):qt E Y D n (.block id c) y blk=match qt E Y D n c y blk with
  |some (.exit i,X,L)=>bif Nat.beq i id then some (.normal,X,L)else some (.exit i,X,L)
  |r=>r:=rfl
theorem al7(c:aO):qt E Y D n (.loop c) y blk=Gp (qt E Y D n c) n y blk:=rfl
end
theorem ahs{f:dG->BL->Option (lg×dG×BL)}{g:bD->aB->Option (lg×bD×aB)}(H:∀t b e T M,f t b=some (e,T,M)->g (mT t) (jr b)=some (e,mT T,jr M)):
  ∀(n:Nat) {t T:dG}{b M:BL}{e:lg},Gp f n t b=some (e,T,M)->jM g n (mT t) (jr b)=some (e,mT T,jr M):=by
 intro n
 induction n with
 |zero=>intro t T b M e h;cases h
 |succ n j=>
  intro t T b M e h;simp only[aqV]at h;simp only[jM];split at h
  .rename_i q B m;rw[H _ _ _ _ _ m];exact j h
  rename_i A;rw[H _ _ _ _ _ h];cases e with
  |normal=>exact(A _ _ h).elim
  |exit i=>rfl
  |ret=>rfl
theorem abz{L:mP}(aa:Eh D L):∀(c:aO) {t T:dG}{b M:BL}{e:lg},qt E Y L n c t b=some (e,T,M)->c3 E Y D n c (mT t) (jr b)=some (e,mT T,jr M):=by
 intro c
 induction c with
 |skip=>intro t T b M e h;simp only[akG,fu,jU]at h;obtain⟨rfl,rfl,rfl⟩:=h;rfl
 |exit id=>intro t T b M e h;simp only[asz,fu,jU]at h;obtain⟨rfl,rfl,rfl⟩:=h;rfl
 |ret=>intro t T b M e h;simp only[ahW,fu,jU]at h;obtain⟨rfl,rfl,rfl⟩:=h;rfl
 |bad=>intro t T b M e h;cases h
 |region d Z=>
  intro t T b M e h;simp only[aje]at h;simp only[c3];split at h
  .rename_i F B j H;rw[ail aa H];simp only;cases d with
   |false=>simp only[cond_false]at h;cases h;simp
   |true=>
    simp only[cond_true]at h;cases z:o7 Z [] j with
    |false=>rw[z]at h;cases h
    |true=>rw[z]at h;simp only[cond_true]at h;cases h;simp
  cases h
 |seq x y g r=>
  intro t T b M e h;simp only[amc]at h;simp only[c3];split at h
  .rename_i F B H;rw[g H];exact r h
  rename_i A;rw[g h];cases e with
  |normal=>exact(A _ _ h).elim
  |exit i=>rfl
  |ret=>rfl
 |cond x p q v u=>
  intro t T b M e h;simp only[ai4]at h;simp only[c3];split at h
  .rename_i Q N;rw[N];cases Q with
   |true=>simp only[cond_true]at h;simpa using v h
   |false=>simp only[cond_false]at h;simpa using u h
  cases h
 |block id c m=>
  intro t T b M e h;simp only[aky]at h;simp only[c3];split at h
  .rename_i i F B H;rw[m H];simp only;cases f:Nat.beq i id with
   |true=>rw[f]at h;simp only[cond_true]at h;cases h;rw[aM (sF f)]
   |false=>rw[f]at h;simp only[cond_false]at h;cases h;rw[aD];intro O;rw[O,Hv]at f;cases f
  rename_i A;rw[m h];cases e with
  |normal=>rfl
  |exit i=>exact(A _ _ _ h).elim
  |ret=>rfl
 |loop c m=>intro t T b M e h;simp only[al7]at h;simp only[c3];exact ahs (λ_ _ _ _ _ h=>m h) n h
noncomputable def B1 (E:jH) (Y:iH) (D:mP) (n:Nat) (fn:aU) (T:c7) (blk:BL):Option (V×BL):=
 bif Nat.ble (I T) 4000 then
  match qt E Y D n fn.body (C9 0 T .leaf) blk with
  |some (.normal,y,L)=>(mq E.al (mT y) (jr L) fn.results).map λh=>(uE h,L)
  |some (.ret,y,L)=>(mq E.al (mT y) (jr L) fn.results).map λh=>(uE h,L)
  |_=>none
 else none
theorem amI{m:mP}(aa:Eh D m){fn:aU}{b M:BL}{v:V}(H:B1 E Y m n fn T b=some (v,M)):nL E Y D n fn T (jr b)=some (v,jr M):=by
 unfold B1 at H;unfold nL;cases hl:Nat.ble (I T) 4000 with
 |false=>rw[hl]at H;cases H
 |true=>
  rw[hl]at H;simp only[cond_true]at H;have:=gU hl;rw[<-anG J];split at H
  .rename_i y B j;rw[abz aa _ j];simp only[dM]at H |-;obtain⟨h,g,f⟩:=H;cases f;exact⟨h,g,rfl⟩
  .rename_i y B j;rw[abz aa _ j];simp only[dM]at H |-;obtain⟨h,g,f⟩:=H;cases f;exact⟨h,g,rfl⟩
  cases H
noncomputable def aqq (S:Sys) (n:Nat) (Y:iH) (D:mP):iH:=λf T=>match S.prim f T with
  |some r=>r
  |none=>match S.fns f with
   |some fn=>bif Nat.ble (I T) fn.ntmps then
     match B1 (S.ctx .all) Y D n fn T []with
     |some (v,b)=>hJ (jr b) v
     |none=>none
    else none
   |none=>none
noncomputable def aqG (S:Sys) (n:Nat) (Y:iH) (D:mP):mP:=λf T al b=>bif S.trig f T then(S.primS f T al (jr b)).map (λr=>(r.1,BT r.2 b))else match S.fns f with
  |some fn=>bif Nat.ble (I T) fn.ntmps then B1 (S.ctx al) Y D n fn T b else none
  |none=>none
noncomputable def Zc (S:Sys) (n:Nat):iH×mP:=Nat.rec (motive:=λ_=>iH×mP) (λ_ _=>none,λ_ _ _ _=>none) (λn f=>(aqq S n f.1 f.2,aqG S n f.1 f.2)) n
noncomputable def Av (S:Sys) (n:Nat):iH:=(Zc S n).1
noncomputable def xD (S:Sys) (n:Nat):mP:=(Zc S n).2
theorem apy(S:Sys)(n f:Nat)(T:c7):Av S (n+1) f T=match S.prim f T with
  |some r=>r
  |none=>match S.fns f with
   |some fn=>bif Nat.ble (I T) fn.ntmps then
     match B1 (S.ctx .all) (Av S n) (xD S n) n fn T []with
     |some (v,b)=>hJ (jr b) v
     |none=>none
    else none
   |none=>none:=rfl
theorem alU(S:Sys)(n f:Nat)(T:c7)(al:bP)(b:BL):xD S (n+1) f T al b=bif S.trig f T then(S.primS f T al (jr b)).map (λr=>(r.1,BT r.2 b))else match S.fns f with
  |some fn=>bif Nat.ble (I T) fn.ntmps then B1 (S.ctx al) (Av S n) (xD S n) n fn T b else none
  |none=>none:=rfl
theorem adB{L:iH}(hp:G1 Y L){f:mP}(aa:Eh D f){fn:aU}{b M:BL}{v:V}(h:B1 E Y f n fn T b=some (v,M)):nL E L D n fn T (jr b)=some (v,jr M):=TC hp (λ_ _ _ _ _ h=>h) (cH _) (amI aa h)
theorem OC(S:Sys):∀n,G1 (Av S n) (iu S n)/\Eh (gG S n) (xD S n):=by
 intro n
 induction n with
 |zero=>have q:∀f x,Av S 0 f x=none:=λ_ _=>rfl;have j:∀f h al b,xD S 0 f h al b=none:=λ_ _ _ _=>rfl;exact⟨λf x r H=>(by rw[q]at H;cases H),λf h al b v M H=>(by rw[j]at H;cases H)⟩
 |succ n m=>
  obtain⟨hp,aa⟩:=m;refine⟨λf x r H=>?_,λf h al b v M H=>?_⟩
  .rw[apy]at H;rw[iu];split at H
   .rename_i R D;simp only[D];exact H
   rename_i D;simp only[D];split at H
   .rename_i fn hfn;simp only[hfn];cases hl:Nat.ble (I x) fn.ntmps with
    |false=>rw[hl]at H;cases H
    |true=>
     rw[hl]at H;simp only[cond_true]at H;rw[aM (gU hl)];split at H
     .rename_i v b hr;unfold zN;have:vQ=jr []:=rfl;rw[this,adB hp aa hr];exact H
     cases H
   cases H
  rw[alU]at H;rw[gG];cases g:S.trig f h with
  |true=>
   rw[g]at H;simp only[cond_true]at H;rw[aM rfl];cases hp:S.primS f h al (jr b)with
   |none=>rw[hp]at H;cases H
   |some r=>rw[hp]at H;cases H;rw[oG,OW]
  |false=>
  rw[g]at H;simp only[cond_false,ib,if_false]at H |-;split at H
  .rename_i fn hfn;simp only[hfn];cases hl:Nat.ble (I h) fn.ntmps with
   |false=>rw[hl]at H;cases H
   |true=>rw[hl]at H;simp only[cond_true]at H;rw[aM (gU hl)];exact adB hp aa H
  cases H
theorem gQ(S:Sys)(n:Nat)(h:Av S n f T=some r):aC S f T r:=⟨n,(OC S n).1 _ _ _ h⟩
inductive qk {H:Type} (N:Nat):DataW H->Prop where
 |str (s:oU) (h:I s<=N):qk N (.lit (.string s))
 |lit (l:Lit) (h:∀s,l≠ .string s):qk N (.lit l)
 |nil:qk N .nil
 |slice (es sp:List (DataW H)) (h:I es<=N) (he:∀d∈es,qk N d):qk N (.slice es sp)
 |agg (es:List (DataW H)) (he:∀d∈es,qk N d):qk N (.agg es)
def ji(P:Program)(N:Nat):Nat->TypeId->c_->Prop
 |0,_,_=>False
 |n+1,t,ps=>match P.underlying t with
  |some .bool=>∃b,ps=[.bool b]
  |some (.int k)=>∃z,ps=[.int k z]/\(Lit.int k z).wf
  |some .string=>∃s:ByteArray,ps=[.str s]/\s.size<=N
  |some (.slice e)=>∃j,ps=[.sl j]/\I j<=N/\ ∀x∈j,ji P N n e x
  |some (.struct fs)=>∃g:dC,ps=g.flatten/\I g=I fs.toList/\ ∀(i:Nat) (f:Field) (x:c_),fs.toList[i]?=some f->g[i]?=some x->ji P N n f.type x
  |_=>False
def uk(P:Program):Nat->Nat->List Field->Bool
 |O,T,[]=>Nat.beq O T
 |O,T,f::r=>Nat.beq f.offset O&&uk P (O+P.cellsOf f.type) T r
def jg(P:Program):Nat->TypeId->Bool
 |0,_=>false
 |n+1,t=>match P.underlying t with
  |some .bool|some (.int _)|some .string=>true
  |some (.slice e)=>Nat.blt 0 (P.cellsOf e)&&jg P n e
  |some (.struct fs)=>uk P 0 (P.cellsOf t) fs.toList&&fs.toList.all λf=>jg P n f.type
  |_=>false
section
variable {H:Type} {enc:TypeId×Value->H} {P:Program} {w:World} {base:Nat} {sp:Nat->Bool} {held:Bool} {N:Nat}
theorem dw.append{w:World}{own:Nat->Prop}{F ys:c_}(H:dw w own F h)(k:dw w own ys us):dw w own (F++ys) (h++us):=Pw.append (R:=cl w own) H k
theorem Y5{w:World}{base:Nat}{a:Addr}{D:List Value}(h:w.cells? base a n=some D):I D=n/\ ∀i,i<n->a.add i=⟨a.block,a.off+i,none⟩/\w.cell? ⟨a.block,a.off+i,none⟩=D[i]? :=by
 unfold World.cells? at h;split at h
 .have hl:=mapM_some_length h;simp at hl;refine⟨hl,λi j=>?_⟩;have H:=mapM_some_get h i i (by simp[j]);have A:i<I D:=J;have f:D[i]?=some D[i]:=by simp[A]
  rw[f]at H;have Y:(a.add i).spot=none:=by
   cases m:(a.add i).spot with
   |none=>rfl
   |some s=>
    simp only[World.cell?]at H;split at H
    .simp[m]at H
    cases H
  have e:a.add i=⟨a.block,a.off+i,none⟩:=by
   unfold Addr.add at Y |-;split
   .rename_i g;subst g;rw[aM rfl]at Y;cases a
    simp_all
   rfl
  refine⟨e,?_⟩;rw[f,<-H,e]
 cases h
theorem afg{r:TypeId->List Value->Option (DataW H×List MemPlace)}(ih:∀t D x,jg P n t->r t D=some x->qk N x.1->∃q,ji P N n t q/\dw w (λ_=>False) q D){D:List Value}{T:Nat}(ht:I D=T):
  ∀(fs:List Field) (O:Nat) (F:List (DataW H×List MemPlace)),uk P O T fs->(∀f∈fs,jg P n f.type)->
   fs.mapM (λf=>r f.type ((D.drop f.offset).take (P.cellsOf f.type)))=some F->(∀x∈F,qk N x.1)->O<=T->(∀f∈fs,∀c x,r f.type c=some x->∀q,ji P N n f.type q->dw w (λ_=>False) q c->True)->
   ∃m:dC,I m=I fs/\(∀(i:Nat) (f:Field) (x:c_),fs[i]?=some f->m[i]?=some x->ji P N n f.type x)/\(dw w (λ_=>False) m.flatten (D.drop O)):=by
 intro fs
 induction fs with
 |nil=>
  intro O F v _ _ _ M _;simp only[uk]at v;have:=sF v;refine⟨[],rfl,λi f x h=>by simp at h,?_⟩;have:D.drop O=[]:=by rw[List.drop_eq_nil_iff];omega
  rw[this];exact⟨rfl,λj x u h=>by simp at h⟩
 |cons f fs A=>
  intro O F v Z L Y M hT;simp only[uk,cq]at v;have S5:=sF v.1;rw[List.mapM_cons]at L;simp only[Option.bind_eq_bind,HP,Option.pure_def,fu]at L;obtain⟨x,hx,X,Dn,rfl⟩:=L;obtain⟨q,p1,Q⟩:=ih _ _ _ (Z f aG) hx (Y x aG);have R:=Q.1;by_cases YE:O+P.cellsOf f.type<=T
  .obtain⟨m,q1,q2,q3⟩:=A (O+P.cellsOf f.type) X v.2 (λg hg=>Z g (by simp[hg])) Dn (λy z=>Y y (by simp[z])) YE (λ_ _ _ _ _ _ _ _=>trivial);refine⟨q::m,by simp[q1],λi g y E z=>?_,?_⟩
   .cases i with
    |zero=>simp at E z;subst E z;exact p1
    |succ i=>exact q2 i g y (by simpa using E) (by simpa using z)
   have:D.drop O=(D.drop f.offset).take (P.cellsOf f.type)++D.drop (O+P.cellsOf f.type):=by rw[S5,<-List.drop_drop];exact(Cb _ _).symm
   rw[this];simp only[kT];exact dw.append Q q3
  exfalso;have mono:∀(l:List Field) (o:Nat),uk P o T l->o<=T:=by
   intro l
   induction l with
   |nil=>intro o h;simp only[uk]at h;have:=sF h;omega
   |cons g l B=>intro o h;simp only[uk,cq]at h;have:=B _ h.2;omega
  exact YE (mono _ _ v.2)
theorem aev{f:Nat->Value}:∀(j:dC) (r:List (List Value)) (k:Nat),I r=I j->(∀(i:Nat) (e:c_) (v:List Value),j[i]?=some e->r[i]?=some v->dw w (λ_=>False) e v/\I v=sz/\ ∀g u,v[g]?=some u->f ((k+i)*sz+g)=u)->
  ∀(g:Nat) (x:PV),j.flatten[g]?=some x->cl w (λ_=>False) x (f (k*sz+g)):=by
 intro j
 induction j with
 |nil=>intro r k _ _ g x h;simp at h
 |cons e j D=>
  intro r k hl h g x H;cases r with
  |nil=>simp at hl
  |cons v r=>
   obtain⟨A,z,E⟩:=h 0 e v rfl rfl;have dr:I e=sz:=by rw[<-z];exact A.1.symm
   simp only[kT]at H;by_cases y:g<I e
   .rw[zV y]at H;have m:v[g]?=some v[g]:=by simp[show g<I v by omega]
    have:=E g _ m;simp only[w4]at this;rw[this];exact A.2 g x _ H m
   rw[wM J]at H;have:=D r (k+1) (by simpa using hl) (λi e' n B q=>by have:=h (i+1) e' n (by simpa using B) (by simpa using q);rw[show k+(i+1)=k+1+i by omega]at this;exact this) (g-I e) x H
   rw[show k*sz+g=(k+1)*sz+(g-I e) by rw[gR];omega];exact this
theorem ara:∀(n g:Nat) (t:TypeId) (D:List Value) (x:DataW H×List MemPlace),jg P n t->DataW.trod enc P w base sp held g t D=some x->qk N x.1->
  ∃ab,ji P N n t ab/\dw w (λ_=>False) ab D:=by
 intro n
 induction n with
 |zero=>intro g t D x h;simp[jg]at h
 |succ n ih=>
  intro g t D x ay h Z;cases g with
  |zero=>simp[DataW.trod]at h
  |succ g=>
   rw[DataW.trod_step]at h;have one:∀ {p:PV}{v:Value},cl w (λ_=>False) p v->dw w (λ_=>False) [p] [v]:=by
    intro p v hp;refine⟨rfl,λL x u a b=>?_⟩;cases L with
    |zero=>simp at a b;subst a b;exact hp
    |succ L=>simp at a
   unfold DataW.trodStep at h;unfold jg at ay;split at h
   case h_1 b A=>exact⟨[.bool b],by simp only[ji,A];exact⟨b,rfl⟩,one (.bool b)⟩
   case h_2 k k' z A=>
    split at h
    .rename_i X;obtain⟨rfl,ad⟩:=X;exact⟨[.int k' z],by simp only[ji,A];exact⟨z,rfl,ad⟩,one (.int k' z)⟩
    cases h
   case h_4 s A=>
    split at h
    .cases h;cases Z with
     |str _ aa=>exact⟨[.str s],by simp only[ji,A];exact⟨s,rfl,by simpa using aa⟩,one (.str s)⟩
     |lit _ aa=>exact(aa _ rfl).elim
    cases h
   case h_7 e A=>exact⟨[.sl []],by simp only[ji,A];exact⟨[],rfl,bC _,λx q=>by simp at q⟩,one (.uB none 0 (λ_=>rfl) (bC _))⟩
   case h_8 e a len Y A=>
    rw[A]at ay;simp only[cq]at ay;obtain⟨iE,am⟩:=ay;have iE:0<P.cellsOf e:=by have:=iE;simp[Nat.blt]at this;omega
    simp only at h;split at h
    .rename_i X;obtain⟨hb,IJ,u6⟩:=X;simp only[dM,HP]at h;obtain⟨elems,he,av,az,rfl⟩:=h;have ap:I elems=len:=by simpa using mapM_some_length he
     cases Z with
     |slice _ _ hl Iw=>
     simp only[cT]at hl;have get:∀i,i<len->∃y row B,elems[i]?=some y/\w.cells? base (a.add (i*P.cellsOf e)) (P.cellsOf e)=some row/\ji P N n e B/\dw w (λ_=>False) B row:=by intro i m;have hg:=mapM_some_get he i i (by simp[m]);have au:i<I elems:=J;rw[oO au]at hg;simp only[HP]at hg;obtain⟨row,E,O⟩:=hg;obtain⟨B,p1,p2⟩:=ih _ _ _ _ am O (Iw _ (eJ.2 ⟨_,J5 au,rfl⟩));exact⟨_,row,B,oO au,E,p1,p2⟩
     cases mF:len with
     |zero=>refine⟨[.sl []],by simp only[ji,A];exact⟨[],rfl,bC _,λx q=>by simp at q⟩,one (.uB (some a) Y (λh=>by cases h) u6)⟩
     |succ aL=>
      rw[<-mF];have h0:0<len:=J;obtain⟨_,ar,_,_,Fx,_,_⟩:=get 0 h0;have ha:a=⟨a.block,a.off,none⟩:=by
       have E:a.add 0=a:=by unfold Addr.add;rw[aM rfl]
       rw[tt,E]at Fx;have:=((Y5 Fx).2 0 iE).1;rw[E]at this;exact this
      have Tc:∀i,i<len->∃row B,I row=P.cellsOf e/\(∀L,L<P.cellsOf e->w.cell? ⟨a.block,a.off+(i*P.cellsOf e+L),none⟩=row[L]?)/\ji P N n e B/\dw w (λ_=>False) B row:=by
       intro i m;obtain⟨_,row,B,_,E,O,h3⟩:=get i m;obtain⟨l1,l2⟩:=Y5 E;refine⟨row,B,l1,λL T=>?_,O,h3⟩;have:=(l2 L T).2;rw[<-this];have e2:a.add (i*P.cellsOf e)=⟨a.block,a.off+i*P.cellsOf e,none⟩:=by
        rw[ha];unfold Addr.add;split
        .rename_i h9;rw[h9];rfl
        rfl
       rw[e2];simp[zt]
      let row:Nat->List Value:=λi=>if h:i<len then(Tc i h).choose else []
      let B:Nat->c_:=λi=>if h:i<len then(Tc i h).choose_spec.choose else []
      have Q:∀i,i<len->I (row i)=P.cellsOf e/\(∀L,L<P.cellsOf e->w.cell? ⟨a.block,a.off+(i*P.cellsOf e+L),none⟩=(row i)[L]?)/\ji P N n e (B i)/\dw w (λ_=>False) (B i) (row i):=by intro i m;simp only[row,B,dif_pos m];exact(Tc i m).choose_spec.choose_spec
      let j:=(List.range len).map B
      have LU:I j=len:=by simp[j]
      have zA:∀(i:Nat) (x:c_),j[i]?=some x->i<len/\x=B i:=by
       intro i x q;have m:i<len:=by rw[<-LU];exact(ct.1 q).1
       refine⟨m,?_⟩;simp only[j,gZ,nH m,oG,fu]at q;exact q.symm
      let f:Nat->Value:=λL=>(w.cell? ⟨a.block,a.off+L,none⟩).getD undef
      refine⟨[.sl j],?_,one ?_⟩
      .simp only[ji,A];refine⟨j,rfl,J,λx q=>?_⟩;obtain⟨i,m⟩:=iA q;obtain⟨E,rfl⟩:=zA i x m;exact(Q i E).2.2.1
      rw[ha];have R:∀x∈j,I x=P.cellsOf e:=by intro x q;obtain⟨i,m⟩:=iA q;obtain⟨E,rfl⟩:=zA i x m;have:=(Q i E).2.2.2.1;rw[<-this];exact(Q i E).1
      have dI:=aev (w:=w) (sz:=P.cellsOf e) (f:=f) j ((List.range len).map row) 0 (by simp[LU]) (λi x v E O=>by
       obtain⟨m,rfl⟩:=zA i x E;simp only[gZ,nH m,oG,fu]at O;subst O;obtain⟨s1,s2,B3,xU⟩:=Q i m;refine⟨xU,s1,λL u A=>?_⟩;have T:L<P.cellsOf e:=by rw[<-s1];exact(ct.1 A).1
       simp only[f,ka];rw[s2 L T,A];rfl)
      simp only[tt,ka]at dI;have jI:∀(l:dC),(∀x∈l,I x=P.cellsOf e)->I l.flatten=I l*P.cellsOf e:=by
       intro l
       induction l with
       |nil=>intro _;simp
       |cons x l an=>intro q;simp only[kT,ep,dE];rw[q x aG,an (λy hy=>q y (by simp[hy])),gR];omega
      refine LU▸cl.sl a.block a.off Y (P.cellsOf e) f (λ_ h=>h) J u6 R (λL x q=>?_) dI;have T:L<len*P.cellsOf e:=by have:=(ct.1 q).1;rw[jI j R,LU]at this;exact this
      have m:L/P.cellsOf e<len:=Nat.div_lt_of_lt_mul (by rw[E4];exact T);obtain⟨s1,s2,B3,xU⟩:=Q _ m;have hm:L%P.cellsOf e<P.cellsOf e:=fO _ iE;have:=s2 _ hm;rw[show L/P.cellsOf e*P.cellsOf e+L%P.cellsOf e=L by rw[E4];exact RT L _]at this;have Te:(row (L/P.cellsOf e))[L%P.cellsOf e]?=some (row (L/P.cellsOf e))[L%P.cellsOf e]:=by simp[s1,hm]
      rw[Te]at this;simp only[f,this,jV]
    cases h
   case h_9=>
    rename_i fs A;rw[A]at ay;simp only[cq]at ay;split at h
    .rename_i X;simp only[dM]at h;obtain⟨F,q,rfl⟩:=h;cases Z with
     |agg _ Iw=>
     obtain⟨M,p1,p2,p3⟩:=afg (r:=DataW.trod enc P w base sp held g) (n:=n) (λt D x E O h3=>ih _ _ _ _ E O h3) X fs.toList 0 F ay.1 (λf Z=>gL.1 ay.2 f Z) q (λy hy=>Iw _ (eJ.2 ⟨y,hy,rfl⟩)) (bC _) (λ_ _ _ _ _ _ _ _=>trivial);refine⟨M.flatten,by simp only[ji,A];exact⟨M,rfl,p1,p2⟩,?_⟩
     simpa using p3
    cases h
   all_goals(first|(cases h;done)|(simp_all;done)|(exfalso;simp_all;done))
end
end
variable {H:Type} {enc:TypeId×Value->H} {P:Program} {w:World} {N:Nat}
theorem amp:∀(fs:List Field) (O T:Nat),uk P O T fs->T=O+(fs.map λf=>P.cellsOf f.type).sum/\ ∀(j:Nat) (f:Field),fs[j]?=some f->f.offset=O+((fs.take j).map λf=>P.cellsOf f.type).sum:=by
 intro fs
 induction fs with
 |nil=>intro O T h;simp only[uk]at h;have:=sF h;exact⟨by simp;omega,λj f h=>by simp at h⟩
 |cons f fs m=>
  intro O T h;simp only[uk,cq]at h;have n:=sF h.1;obtain⟨i1,i2⟩:=m _ _ h.2;refine⟨by simp;omega,λj g H=>?_⟩;cases j with
  |zero=>simp at H;subst H;simp;omega
  |succ j=>have:=i2 j g (by simpa using H);simp only[M_,ew,HR];omega
theorem an7:Kids P (λt=>∃n,jg P n t):=by
 have un:∀ {t:TypeId},(∃n,jg P n t)->∃n,jg P (n+1) t:=by
  rintro t ⟨n,h⟩
  cases n with
  |zero=>simp[jg]at h
  |succ n=>exact⟨n,h⟩
 refine⟨λg H=>?_,λg H=>?_,λg H=>?_,λg H=>?_,λg H=>?_⟩
 .obtain⟨n,h⟩:=un g;simp[jg,H]at h
 .obtain⟨n,h⟩:=un g;simp only[jg,H,cq]at h;exact⟨n,h.2⟩
 .obtain⟨n,h⟩:=un g;simp[jg,H]at h
 .obtain⟨n,h⟩:=un g;simp only[jg,H,cq]at h;obtain⟨u,m⟩:=amp _ _ _ h.1;refine⟨λf q=>⟨n,gL.1 h.2 f q⟩,by rw[u];simp,λj f r=>by rw[m j f r];simp⟩
 obtain⟨n,h⟩:=un g;simp[jg,H]at h
theorem ajP{t:TypeId}{d:DataW H}{ps:List MemPlace}(g:∃n,jg P n t)(h:DataW.Trod enc P w 0 (λ_=>true) true t v d ps)
  (B:∀p∈ps,w.sameAt w' p) (aa:∀p∈ps,DQ p.block):DataW.Trod enc P w' 0 DQ true t v d ps:=by
 obtain⟨f,h⟩:=h;refine⟨f,DataW.trod_stays (T:=λt=>∃n,jg P n t) an7 ?_ (λh=>by cases h) g h B aa⟩;rintro t e ⟨n,h⟩ j
 cases n with
 |zero=>simp[jg]at h
 |succ n=>simp only[jg,j,cq]at h;have:=h.1;simp[Nat.blt]at this;omega
theorem al5:∀ {T:List TypeId}{h:List Value}{D:List (DataW H)}{ps:List MemPlace},(∀t∈T,∃n,jg P n t)->DataW.TrodAll enc P w 0 (λ_=>true) true T h D ps->
  (∀p∈ps,w.sameAt w' p)->(∀p∈ps,DQ p.block)->DataW.TrodAll enc P w' 0 DQ true T h D ps:=by
 intro T
 induction T with
 |nil=>intro h D ps _ j _ _;cases h<;>cases D<;>exact j
 |cons t T y=>
  intro h D ps g j N m;cases h with
  |nil=>exact j.elim
  |cons v h=>
   cases D with
   |nil=>exact j.elim
   |cons d D=>obtain⟨p,q,z,r,rfl⟩:=j;exact⟨p,q,ajP (g t aG) z (λx f=>N x (by simp[f])) (λx f=>m x (by simp[f])),y (λt u=>g t (by simp[u])) r (λx f=>N x (by simp[f])) (λx f=>m x (by simp[f])),rfl⟩
def wT(P:Program)(t:TypeId)(ps:c_):V:=
 match P.underlying t with
 |some (.struct _)=>.agg (ps.map .p)
 |_=>match ps with
  |[x]=>.one (.p x)
  |_=>.undef
theorem apj{r:Reach}{b0:Nat}{t:TypeId}{d:DataW H}{ps:List MemPlace}(z:jg P n t)(f:Value.okWide P w r b0 t v)(h:DataW.Trod enc P w 0 sp held t v d ps)(B:qk N d):
  ∃m,ji P N n t m/\oK w (λ_=>False) (wT P t m) v:=by
 obtain⟨F,h⟩:=h;obtain⟨m,q,y⟩:=ara n F t _ _ z h B;refine⟨m,q,?_⟩;cases n with
 |zero=>simp[jg]at z
 |succ n=>
  have one:∀x:PV,m=[x]->(∀D,v≠ .agg D)->cl w (λ_=>False) x v:=by
   rintro x rfl E
   have:v.cells.toList=[v]:=by
    cases v<;>first
     |rfl
     |exact(E _ rfl).elim
   rw[this]at y;exact y.2 0 x v rfl rfl
  have g:∀ {k:TypeDesc},P.underlying t=some k->(∀fs,k≠ .struct fs)->(∀a b,k≠ .array a b)->∀D,v≠ .agg D:=by
   rintro k u L M D rfl
   unfold Value.okWide at f;rw[u]at f;cases k<;>simp_all[Cell.okWide,Cell.ok]
  simp only[ji]at q;unfold wT;cases u:P.underlying t with
  |none=>rw[u]at q;exact q.elim
  |some k=>
   rw[u]at q;cases k<;>simp only at q<;>try exact q.elim
   case bool=>obtain⟨b,rfl⟩:=q;exact one _ rfl (g u aG aG)
   case int k=>obtain⟨b,rfl,_⟩:=q;exact one _ rfl (g u aG aG)
   case string=>obtain⟨b,rfl,_⟩:=q;exact one _ rfl (g u aG aG)
   case slice e=>obtain⟨j,rfl,_⟩:=q;exact one _ rfl (g u aG aG)
   case struct fs=>unfold Value.okWide at f;rw[u]at f;simp only at f;obtain⟨D,rfl,A,_⟩:=f;exact⟨D,m,rfl,rfl,y⟩
def Ku(P:Program)(N n:Nat):List TypeId->dC->Prop
 |[],[]=>True
 |t::T,p::ps=>ji P N n t p/\Ku P N n T ps
 |_,_=>False
def wN(P:Program):List TypeId->dC->c7
 |t::T,p::ps=>wT P t p::wN P T ps
 |_,_=>[]
theorem aqz{r:Reach}{b0:Nat}:∀ {T:List TypeId}{h:List Value}{D:List (DataW H)}{ps:List MemPlace},(∀t∈T,jg P n t)->(∀(j:Nat) t v,T[j]?=some t->h[j]?=some v->Value.okWide P w r b0 t v)->
  DataW.TrodAll enc P w 0 sp held T h D ps->(∀d∈D,qk N d)->∃f,Ku P N n T f/\Pw (oK w (λ_=>False)) (wN P T f) h:=by
 intro T
 induction T with
 |nil=>
  intro h D ps _ _ m _;cases h with
  |nil=>exact⟨[],trivial,rfl,λj x u m=>by simp[wN]at m⟩
  |cons v h=>cases D<;>exact m.elim
 |cons t T ih=>
  intro h D ps z B m A;cases h with
  |nil=>exact m.elim
  |cons v h=>
   cases D with
   |nil=>exact m.elim
   |cons d D=>
    obtain⟨p,q,X,O,rfl⟩:=m;obtain⟨x,Y,Z⟩:=apj (z t aG) (B 0 t v rfl rfl) X (A d aG);obtain⟨F,M,b2,R⟩:=ih (λt Q=>z t (by simp[Q])) (λj t v g E=>B (j+1) t v (by simpa using g) (by simpa using E)) O (λd L=>A d (by simp[L]));refine⟨x::F,⟨Y,M⟩,by simpa [wN]using b2,λj y u g E=>?_⟩;cases j with
    |zero=>simp[wN]at g E;subst g E;exact Z
    |succ j=>exact R j y u (by simpa [wN]using g) (by simpa using E)
open Go.RowKit
theorem gD.aj6{w:World}(h:Below w.heap.size w w'):gD w w':=⟨h.os,h.tape,h.output,h.size,h.block⟩
theorem gD.aaw(w:World)(k:Nat)(os:Array Obj):gD w (Go.Sort.grow (w.drewN k) os):=
 ⟨rfl,rfl,rfl,by simp[Go.Sort.grow,World.drewN],λc h=>by simp[Go.Sort.grow,World.drewN,Tk,h]⟩
theorem EE{w:World}{x:PV}(f:gD w w')(h:cl w' O x v):sG w O (.one (.p x)) (.returned v) w':=
 ⟨v,[],rfl,f,um,λc g=>by simp at g,[v],rfl,v,[],rfl,h.mono λc _ j=>⟨rfl,λH=>j (H.elim id λh=>by simp at h)⟩,rfl,rfl⟩
theorem Rl{w:World}{x:PV}(h:Pw (oK w O) [.one (.p x)] T.toList):∃v,T= #[v]/\cl w O x v:=by
 obtain⟨f,H⟩:=h;obtain⟨l⟩:=T
 match l,f with
 |[v],_=>exact⟨v,rfl,H 0 _ v rfl rfl⟩
theorem aoP{w:World}{x y:PV}(h:Pw (oK w O) [.one (.p x),.one (.p y)] T.toList):∃v u,T= #[v,u]/\cl w O x v/\cl w O y u:=by
 obtain⟨f,H⟩:=h;obtain⟨l⟩:=T
 match l,f with
 |[v,u],_=>exact⟨v,u,rfl,H 0 _ v rfl rfl,H 1 _ u rfl rfl⟩
theorem YX{w:World}(h:cl w O (.sl []) v):∃a f,v=.slice a 0 f/\(a=none->f=0)/\f<=maxLen:=by
 generalize H:PV.sl []=x at h;cases h<;>cases H
 .exact⟨_,_,rfl,by assumption,by assumption⟩
 exact⟨_,_,rfl,λh=>by simp at h,by assumption⟩
theorem WB{w:World}{a:Option Addr}{f:Nat}(h:a=none->f=0)(H:f<=maxLen):cl w O (.sl []) (.slice a 0 f):=.uB a f h H
def Ev:Nat->Nat->oU->oU
 |0,_,A=>A
 |k+1,u,A=>bif Nat.blt u 10 then UInt8.ofNat (Nat.add 48 u)::A else Ev k (Nat.div u 10) (UInt8.ofNat (Nat.add 48 (Nat.mod u 10))::A)
theorem aaA:∀(k u:Nat) (A:oU),u<10 ^ (k+1)->Ev (k+1) u A=Lib.decDigits u++A:=by
 intro k
 induction k with
 |zero=>
  intro u A h;have h:u<10:=by simpa using h
  unfold Lib.decDigits;have H:Nat.blt u 10:=Ui h;simp only[Ev,H,cond_true,dif_pos h];rfl
 |succ k g=>
  intro u A h;rw[Lib.decDigits,Ev];by_cases f:u<10
  .have H:Nat.blt u 10:=Ui f;simp only[H,cond_true,dif_pos f];rfl
  have H:Nat.blt u 10=false:=by
   cases e:Nat.blt u 10 with
   |false=>rfl
   |true=>exact(f (gU e)).elim
  simp only[H,cond_false,dif_neg f];have:(Nat.div u 10)<10 ^ (k+1):=by have e:Nat.div u 10=u/10:=rfl;rw[e];have:10 ^ (k+1+1)=10 ^ (k+1)*10:=Nat.pow_succ ..;omega
  rw[g _ _ this];simp only[jL,List.singleton_append];rfl
def OF(n:Int):ByteArray:=⟨(match n with| .ofNat u=>Ev 20 u []| .negSucc u=>45::Ev 20 (Nat.succ u) []).toArray⟩
theorem arW(n:Int)(H: -9223372036854775808<=n)(h:n<=9223372036854775807):OF n=⟨(Lib.itoa n).toArray⟩:=by
 unfold OF Lib.itoa;cases n with
 |ofNat u=>have:¬(Int.ofNat u<0):=aG;rw[aD this];simp only;rw[aaA 19 u [] (by simp at h;omega)];simp
 |negSucc u=>have:Int.negSucc u<0:=Int.negSucc_lt_zero u;rw[aM this];simp only;rw[aaA 19 (Nat.succ u) [] J];simp[Int.natAbs]
def strs:dC->Option (List ByteArray)
 |[]=>some []
 |[.str s]::r=>(strs r).map (s:: ·)
 |_::_=>none
theorem ah8:∀ {j:dC}{F:List ByteArray},strs j=some F->j=F.map λs=>[PV.str s]:=by
 intro j
 induction j with
 |nil=>intro F h;simp[strs]at h;subst h;rfl
 |cons e j f=>
  intro F h;unfold strs at h;split at h
  .rename_i H;cases H
  .rename_i s r H;cases H;simp only[dM]at h;obtain⟨ys,g,rfl⟩:=h;simp[f g]
  cases h
def C4(f:oU):List ByteArray->oU
 |[]=>[]
 |[s]=>s.data.toList
 |s::r=>s.data.toList++(f++C4 f r)
theorem XV(f:oU):∀F:List ByteArray,C4 f F=Lib.join (F.map (·.data.toList)) f:=by
 intro F;unfold Lib.join
 induction F with
 |nil=>rfl
 |cons s r g=>
  cases r with
  |nil=>simp[C4,List.intercalate]
  |cons h r=>simp only[C4,ew]at g |-;rw[g];simp[List.intercalate,List.intersperse]
def Ut(T:c7):Option RV:=
 match T with
 |[.one (.p (.int .i64 n))]=>if -9223372036854775808<=n/\n<=9223372036854775807 then some (.one (.p (.str (OF n))))else none
 |_=>none
theorem ak4{P:Program}{N:String}{G:World->Prop}{T:c7}(hG:∀w,G w->Lib.TabIs P w N .u64 Lib.pow10Tab)
  (H:∀(n:Int),-9223372036854775808<=n->n<=9223372036854775807->∀w:World,Lib.TabIs P w N .u64 Lib.pow10Tab->Calls P f #[.int .i64 n] w λe w'=>e=.returned (.string ⟨(Lib.itoa n).toArray⟩)/\ ∃k os,w'=Go.Sort.grow (w.drewN k) os)
  (h:Ut T=some r):∀(w:World) (O:Nat->Prop) (as:Array Value),Good G w->Pw (oK w O) T as.toList->Calls P f as w (sG w O r):=by
 intro w O as g m;unfold Ut at h;split at h
 .rename_i n;split at h
  .rename_i hr;cases h;obtain⟨v,rfl,hp⟩:=Rl m;generalize j:PV.int .i64 n=x at hp;cases hp<;>cases j
   refine(H n hr.1 hr.2 w (hG w g.1)).mono ?_;rintro e w' ⟨rfl,k,os,rfl⟩
   rw[arW n hr.1 hr.2];exact EE (gD.aaw _ _ _) (.str _)
  cases h
 cases h
def Tl(T:c7):Option RV:=
 match T with
 |[.one (.p (.sl j)),.one (.p (.str f))]=>match strs j with
  |some F=>if I F<=140737488355328/\I (C4 f.data.toList F)<=140737488355328 then some (.one (.p (.str ⟨(C4 f.data.toList F).toArray⟩)))else none
  |none=>none
 |_=>none
theorem ak5{P:Program}{T:c7}
  (Q:∀(a:Option Addr) (c:Nat) (m:ByteArray) (w:World),Calls P f #[.slice a 0 c,.string m] w λe w'=>e=.returned (.string ⟨#[]⟩)/\w'=w)
  (Z:∀(M o c:Nat) (F:List ByteArray) (m:ByteArray) (w:World),(∀(D:Nat) x,F[D]?=some x->w.cell? ⟨M,o+D,none⟩=some (.string x))->M<w.heap.size->I F<=140737488355328->I F<=c->
   I (Lib.join (F.map (·.data.toList)) m.data.toList)<=140737488355328->Calls P f #[.slice (some ⟨M,o,none⟩) (I F) c,.string m] w λe w'=>e=.returned (.string ⟨(Lib.join (F.map (·.data.toList)) m.data.toList).toArray⟩)/\Below w.heap.size w w')
  (h:Tl T=some r):∀(w:World) (O:Nat->Prop) (as:Array Value),Pw (oK w O) T as.toList->Calls P f as w (sG w O r):=by
 intro w O as ha;unfold Tl at h;split at h
 .rename_i j m;split at h
  .rename_i F Dn;split at h
   .rename_i hl;cases h;obtain⟨v,u,rfl,hp,N⟩:=aoP ha;have hu:u=.string m:=by
     generalize A:PV.str m=x at N;cases N<;>cases A
     rfl
    subst hu;have z:=ah8 Dn;cases F with
    |nil=>
     simp at z;subst z;obtain⟨a,n,rfl,_,_⟩:=YX hp;refine(Q a n m w).mono ?_;rintro e w' ⟨rfl,rfl⟩
     exact EE (gD.refl _) (.str _)
    |cons s r=>
     generalize A:PV.sl j=x at hp;cases hp with
     |uB a n L E=>cases A;simp at z
     | @sl fV b o n sz g ho B hm Y hc hr=>
      cases A;have X:j.flatten=(s::r).map PV.str:=by
       rw[z];have:∀l:List ByteArray,(l.map λs=>[PV.str s]).flatten=l.map PV.str:=by
        intro l
        induction l with
        |nil=>rfl
        |cons a l ih=>simp[ih]
       exact this _
      have q:I j=I (s::r):=by rw[z];simp
      have H:∀(D:Nat) x,(s::r)[D]?=some x->w.cell? ⟨b,o+D,none⟩=some (.string x):=by
       intro D x hj;have L:j.flatten[D]?=some (.str x):=by rw[X,gZ,hj];rfl
       have E:=hr D _ L;rw[hc D _ L];generalize hy:PV.str x=y at E;generalize ab:g D=gj at E;cases E<;>cases hy
       rfl
      rw[q]at B |-;refine(Z b o n (s::r) m w H (UD (H 0 s rfl)) hl.1 B (by rw[<-XV];exact hl.2)).mono ?_;rintro e w' ⟨rfl,R⟩
      rw[XV];exact EE (gD.aj6 R) (.str _)
     |_=>cases A
   cases h
  cases h
 cases h
def HM(T:c7):Option RV:=
 match T with
 |[.one (.p (.int .u64 n))]=>if 0<=n/\n<=18446744073709551615 then some (.one (.p (.int .i64 (Lib.bitLen n.toNat))))else none
 |_=>none
theorem ak2{P:Program}{T:c7}(H:∀(x:Int) (w:World),0<=x->x<=18446744073709551615->Calls P f #[.int .u64 x] w λe w'=>e=.returned (.int .i64 (Lib.bitLen x.toNat))/\w'=w)
  (h:HM T=some r):∀(w:World) (O:Nat->Prop) (as:Array Value),Pw (oK w O) T as.toList->Calls P f as w (sG w O r):=by
 intro w O as j;unfold HM at h;split at h
 .rename_i n;split at h
  .rename_i hr;cases h;obtain⟨v,rfl,hp⟩:=Rl j;generalize g:PV.int .u64 n=x at hp;cases hp<;>cases g
   refine(H n w hr.1 hr.2).mono ?_;rintro e w' ⟨rfl,rfl⟩
   exact EE (gD.refl _) (.int _ _)
  cases h
 cases h
def MR(T:c7):Option (Option RV):=
 match T with
 |[.one (.p (.sl []))]=>some (some (.one (.p (.sl []))))
 |_=>none
theorem ak3{S:Sys}{G:World->Prop}(hS:Eo S G){z i Z:Nat}{fn:aU}(hfn:S.fns f=some fn)(h1:iu S n f [.one (.p .nils)]=some (.one (.p .nils)))
  (E:gG S n f [.one (.hsl 0 0 z 0 0)] .all vQ=some (.one (.hsl i g Z 0 0),L)) {T:c7} (H:MR T=some (some r)):
  ∀(w:World) (O:Nat->Prop) (as:Array Value),Good G w->(∀c,O c->c<w.heap.size)->Pw (oK w O) T as.toList->Calls S.P f as w (sG w O r):=by
 intro w O as A y Y;unfold MR at H;split at H
 .cases H;obtain⟨v,rfl,hp⟩:=Rl Y;obtain⟨a,m,rfl,hn,hm⟩:=YX hp;cases a with
  |none=>
   obtain rfl:=hn rfl;refine((sound hS n).1 f _ _ h1 |>.2 w O #[.slice none 0 0] A y ⟨rfl,λj x u p q=>?_⟩).mono ?_
   .cases j with
    |zero=>simp at p q;subst p q;exact cl.nils
    |succ j=>simp at p
   rintro e w' ⟨val,bs,rfl,A7,fD,nM,h,B,Q⟩
   obtain⟨v0,lL,X,F,e3,e4⟩:=Q;have IY:h=[val]:=B;subst IY;cases X;subst e4;cases F;exact EE A7 (WB (λ_=>rfl) (bC _))
  |some a=>
   let M:aX:=⟨w,vQ,λ_=>0,λ_=>0,O⟩
   have ay:c9 w M:=⟨rfl,rfl,rfl,cH _,λ_ _=>rfl,(λid o H=>by cases H),(λid o H=>by cases H),y,(λid et o o' H=>by cases H)⟩;refine(((sound hS n).2.1 f _ _ _ _ _ E).2 w M #[.slice (some a) 0 m] A ay rfl ⟨rfl,λj x u p q=>?_⟩).mono ?_
   .cases j with
    |zero=>simp at p q;subst p q;exact cY.hsl a m (bC _) (bC _) hm (λsz _ H=>by cases H)
    |succ j=>simp at p
   rintro e w' ⟨val,m',rfl,rfl,B,Q,q3,q4,N⟩
   have hq:cY m' (.hsl i g Z 0 0) val:=N;cases hq with
   |hsl a2 D _ _ R _=>
    refine EE ⟨Q.os,Q.tape,Q.output,Q.size,λc hc=>Q.keep c hc ?_⟩ (WB (λH=>by cases H) R);rintro⟨id,o,H,_⟩
    cases H
 cases H
open Go.RowKit Go.WideShapes Go.ChangeShapes
section
variable {H:Type} {enc:TypeId×Value->H} {P:Program} {w:World} {base:Nat} {sp:Nat->Bool} {held:Bool}
theorem aoB:∀(n g:Nat) (t:TypeId) (D:List Value) (x:DataW H×List MemPlace),jg P n t->DataW.trod enc P w base sp held g t D=some x->qk maxLen x.1:=by
 intro n
 induction n with
 |zero=>intro g t D x h;simp[jg]at h
 |succ n z=>
  intro g t D x ay h;cases g with
  |zero=>simp[DataW.trod]at h
  |succ g=>
   rw[DataW.trod_step]at h;unfold DataW.trodStep at h;unfold jg at ay;split at h
   case h_1=>cases h;exact .lit _ (λs h=>by cases h)
   case h_2=>
    split at h
    .cases h;exact .lit _ (λs h=>by cases h)
    cases h
   case h_4=>
    split at h
    .rename_i aa;cases h;exact .str _ (by simpa using aa)
    cases h
   case h_7=>cases h;exact .nil
   case h_8 e a len E r=>
    rw[r]at ay;simp only[cq]at ay;simp only at h;split at h
    .rename_i N;simp only[dM,HP]at h;obtain⟨elems,v,R,B,rfl⟩:=h;have u:I elems=len:=by simpa using mapM_some_length v
     refine .slice _ _ (by simp;omega) (λd m=>?_);obtain⟨y,q,rfl⟩:=eJ.1 m;obtain⟨i,_,j⟩:=mapM_mem_of v y q;simp only[HP]at j;obtain⟨row,_,A⟩:=j;exact z _ _ _ _ ay.2 A
    cases h
   case h_9=>
    rename_i fs r;rw[r]at ay;simp only[cq]at ay;split at h
    .simp only[dM]at h;obtain⟨F,M,rfl⟩:=h;refine .agg _ (λd m=>?_);obtain⟨y,q,rfl⟩:=eJ.1 m;obtain⟨f,L,j⟩:=mapM_mem_of M y q;exact z _ _ _ _ (gL.1 ay.2 f L) j
    cases h
   all_goals(first|(cases h;done)|(simp_all;done)|(exfalso;simp_all;done))
theorem Wo:∀ {T:List TypeId}{h:List Value}{D:List (DataW H)}{ps:List MemPlace},(∀t∈T,jg P n t)->DataW.TrodAll enc P w base sp held T h D ps->(∀d∈D,qk maxLen d)/\I D=I T:=by
 intro T
 induction T with
 |nil=>
  intro h D ps _ m;cases h<;>cases D<;>first
   |exact m.elim
   |exact⟨λd r=>by simp at r,rfl⟩
 |cons t T z=>
  intro h D ps j m;cases h with
  |nil=>exact m.elim
  |cons v h=>
   cases D with
   |nil=>exact m.elim
   |cons d D=>
    obtain⟨p,q,⟨f,A⟩,u,rfl⟩:=m;obtain⟨i1,i2⟩:=z (λt y=>j t (by simp[y])) u;refine⟨λx g=>?_,by simp[i2]⟩;rcases dL.1 g with rfl|g
    .exact aoB n f t _ _ (j t aG) A
    exact i1 x g
end
section
variable {H:Type} {enc:TypeId×Value->H} {P:Program}
theorem aq7{f:Func}{s:ChangeSpec}{pE fresh:Bool}{W g:World}{D n:List (DataW H)}{q m:List MemPlace}
  (x:DataW.Whole enc P f.params.toList s.vars pE W T.toList D n before)
  (F:∀(b:Nat) (sp:Nat->Bool) (L:Bool),DataW.TrodAll enc P g b sp L f.resultTypes.toList (v.resultList f.resultTypes.size) (s.fn H (D++n)).results [])
  (z:∀sp:Nat->Bool,(∀p∈before,sp p.block)->DataW.TrodAll enc P g 0 sp true f.params.toList T.toList (s.fn H (D++n)).args q)
  (B:∀sp:Nat->Bool,(∀p∈before,sp p.block)->DataW.TrodVars enc P g sp s.vars (s.fn H (D++n)).vars m)
  (u:before=q++m) (y:Below W.heap.size W g)
  (ay:∀(j:Nat) (t:TypeId) (r:Value),f.resultTypes[j]?=some t->(v.resultList f.resultTypes.size)[j]?=some r->Value.okWide P g .any 0 t r):
  s.post enc P f pE fresh handsOn again W T v g:=by
 have E:∀p∈before,p.block<W.heap.size:=λp hp=>x.lt p hp;have h:∀p∈before,(λb=>decide (b<W.heap.size)) p.block=true:=λp hp=>by simpa using E p hp
 refine⟨D,n,before,[],q,m,x,F _ _ _,z _ h,B _ h,World.keptBut_mono (λp hp=>⟨hp,?_⟩) (y.frame (· ∈before)),λ_=>?_⟩
 .rw[u,fB]at hp;exact Or.inr hp
 obtain⟨_,_,_,_,_,M,N⟩:=x;refine⟨ay,_,_,([]++q)++m,⟨[]++q,m,trodAll_append (z _ (λ_ _=>rfl)) (F _ _ _),B _ (λ_ _=>rfl),rfl,?_,?_⟩,?_⟩
 .intro b O hp;have A:MemPlace.cell b O∈before:=by rw[u];simpa using hp
  rw[y.frozen (E _ A)];exact M b O A
 .intro Q;have:=N Q;rw[u]at this
  simpa using this
 intro p hp _;rw[u]
 simpa using hp
end
theorem B7{P:Program}{N:Nat}{t:TypeId}{k:IntKind}{p:c_}(H:P.underlying t=some (.int k))(h:ji P N (n+1) t p):∃z,p=[.int k z]/\(Lit.int k z).wf:=by simp only[ji,H]at h;exact h
theorem akt{P:Program}{N:Nat}{t:TypeId}{p:c_}(H:P.underlying t=some .bool)(h:ji P N (n+1) t p):∃b,p=[.bool b]:=by simp only[ji,H]at h;exact h
theorem adI{P:Program}{N:Nat}{t e:TypeId}{p:c_}(H:P.underlying t=some (.slice e))(h:ji P N (n+1) t p):∃j,p=[.sl j]/\I j<=N/\ ∀x∈j,ji P N n e x:=by simp only[ji,H]at h;exact h
theorem ajh{P:Program}{t:TypeId}{k:TypeDesc}{x:PV}(h:P.underlying t=some k)(H:∀fs,k≠ .struct fs):wT P t [x]=.one (.p x):=by
 unfold wT;rw[h];cases k<;>first
  |rfl
  |exact(H _ rfl).elim
theorem aqb{P:Program}{t:TypeId}{fs:Array Field}{x:c_}(h:P.underlying t=some (.struct fs)):wT P t x=.agg (x.map .p):=by unfold wT;rw[h]
theorem aly{S:Sys}{G:World->Prop}(hS:Eo S G)(Iy:∀w,G w->Good G w){fn:Func}{s:ChangeSpec}{N:Nat}{fresh pE:Bool}(R:s.vars=[])
  (hfn:∀(H:Type) (D:List (DataW H)),I D=I fn.params.toList->s.fn H D={results:=[.lit (.bool true)],args:=D}) {tb:TypeId} (Z:fn.resultTypes= #[tb]) (A:S.P.underlying tb=some .bool)
  (L:∀t∈fn.params.toList,jg S.P n t) (O:∀g,Ku S.P N n fn.params.toList g->aC S f (wN S.P fn.params.toList g) (.one (.p (.bool true))))
  {H:Type}{enc:TypeId×Value->H}{W:World}{base:Nat}{D gs:List (DataW H)}
  (E:∀(j:Nat) t v,fn.params[j]?=some t->T[j]?=some v->Value.okWide S.P W .any base t v)
  (hW:DataW.Whole enc S.P fn.params.toList s.vars pE W T.toList D gs before) (hG:G W) (y:∀d∈D,qk N d):
  Calls S.P f T W λe F=>∃v,e=.returned v/\s.post enc S.P fn pE fresh handsOn again W T v F:=by
 have z:=hW;obtain⟨p,q,M,Y,rfl,ab,fD⟩:=hW;rw[R]at Y;obtain⟨rfl,rfl⟩:=trodVars_none Y;obtain⟨_,m⟩:=Wo L M;obtain⟨g,h1,h2⟩:=aqz (r:=.any) (b0:=base) L (λj t v a b=>E j t v (by simpa using a) (by simpa using b)) M y;refine((O g h1).calls hS W (Iy W hG) T h2).mono ?_;rintro e F ⟨val,bs,rfl,B,_,_,h,q1,q2⟩
 obtain⟨v0,lL,e1,X,e3,e4⟩:=q2;have IY:h=[val]:=q1;subst IY;cases e1;have hv:val=.bool true:=by
  generalize u:PV.bool true=x at X;cases X<;>cases u
  rfl
 subst hv;have Q:Below W.heap.size W F:=⟨B.os,B.tape,B.output,B.size,B.keep⟩;have au:∀x∈p++[],x.block<W.heap.size:=λx u=>z.lt x u;refine⟨_,rfl,aq7 (q:=p) (m:=[]) z ?_ ?_ ?_ rfl Q ?_⟩
 .intro b sp hd;rw[jE,hfn H D m,Z];exact trodAll_cons_mk (shut_bool A _) trodAll_mk0
 .intro DQ mg;rw[jE,hfn H D m];exact al5 (λt ht=>⟨n,L t ht⟩) M (λx u=>Q.same (au x (by simpa using u))) (λx u=>mg x (by simpa using u))
 .intro DQ mg;rw[jE,hfn H D m,R];rfl
 exact ok_one Z rfl (okWide_bool_mk A _)
theorem afP(y:bD)(t:Nat)(v:V):dx y (some t) v=cQ y t v:=rfl
theorem asB(y:bD)(v:V):dx y none v=y:=rfl
theorem ags(y:bD)(n:Nat):ev y (.t n)=y n:=rfl
theorem aih(y:bD)(n:Int):ev y (.i n)=.one (.p (.int .i64 n)):=rfl
theorem afv(y:bD)(x:Bool):ev y (.b x)=.one (.p (.bool x)):=rfl
theorem agH(y:bD)(v:V):ev y (.k v)=v:=rfl
theorem alW(a:V)(l:c7):oh (a::l) 0=a:=rfl
theorem anP(a:V)(l:c7)(n:Nat):oh (a::l) (n+1)=oh l n:=rfl
def z6(v:V)(f:Bool):Option Bool:=match v with
 | .one (.p (.bool b))=>some (b==f)
 | .undef=>some false
 |_=>none
theorem amW(b f:Bool):z6 (.one (.p (.bool b))) f=some (b==f):=rfl
theorem ahj(f:Bool):z6 .undef f=some false:=rfl
section
variable {S:Sys} {al:bP} {o:iC} {y:bD} {blk:aB} {tr:eI} {bN:bD->aB->eI->Prop} {d:my}
theorem akx{id:Nat}{Q:fp}:kZ id Q .normal y blk=Q .normal y blk:=rfl
theorem ar0{id:Nat}{Q:fp}:kZ id Q .ret y blk=Q .ret y blk:=rfl
theorem afA{id i:Nat}{Q:fp}:kZ id Q (.exit i) y blk=if i=id then Q .normal y blk else Q (.exit i) y blk:=rfl
end
def yb (S:Sys)(al:bP)(Z:en)(Q:bD->aB->Prop)(y:bD)(blk:aB):Prop:=∀tr,mW S al Z (λy blk _=>Q y blk) y blk tr
def Ex(S:Sys)(al:bP)(p:vv)(d:my)(y:bD)(blk:aB)(bN:bD->aB->Prop):Prop:=
 match p with
 | .fail=>False
 | .done v u r=>al.fG (r++u.map (·.1))=true/\bN (dx y d v) (app u blk)
 | .pc f h r s=>∃x,aC S f h x/\match d_ blk r s (x.eU (S.lone s))with
  |some (v,u)=>al.fG (r++u.map (·.1))=true/\bN (dx y d v) (app u blk)
  |none=>False
 | .sc f h=>al.holds (gr (S.ctx al) f h blk)=true/\ ∃v L,ia S f h (gr (S.ctx al) f h blk) blk v L/\bN (dx y d v) L
def MP(S:Sys)(al:bP)(w:Option Bool)(o:iC)(y:bD)(blk:aB)(bN:bD->aB->Prop):Prop:=
 match w with
 |none=>False
 |some false=>bN (dx y o.dst .undef) blk
 |some true=>Ex S al (bU S.shared y blk o.op) o.dst y blk bN
section
variable {S:Sys} {al:bP} {y:bD} {blk:aB}
theorem aph{Z:en}{r:bD->aB->Prop}{tr T:eI}(h:mW S al Z (λy blk _=>R y blk) y blk tr)(H:∀e b,R e b->r e b):mW S al Z (λy blk _=>r y blk) y blk T:=by obtain⟨n,e,b,j,g,f⟩:=h;exact⟨n,e,b,j,g,H _ _ f⟩
theorem aoD{Z:en}{Q:fp}:W S al (.region false Z) Q y blk↔yb S al Z (λy blk=>Q .normal y blk) y blk:=by
 rw[ZX];constructor
 .intro h tr;obtain⟨n,e,b,j,f,_,H⟩:=h;exact⟨n,e,b,j,f,H⟩
 intro h;obtain⟨n,e,b,j,f,H⟩:=h [];exact⟨n,e,b,j,f,(λh=>by cases h),H⟩
theorem anp:yb S al [] R y blk↔R y blk:=⟨λh=>OO.1 (h []),λh _=>OO.2 h⟩
theorem Wi{o:iC}{os:en}{w:Option Bool}(tr:eI):Ap S al w o y blk tr (mW S al os λe b _=>R e b)↔MP S al w o y blk (yb S al os R):=by
 have k:∀ {e:bD}{b:aB}{t:eI},mW S al os (λe b _=>R e b) e b t↔yb S al os R e b:=λ{e b t}=>⟨λH T=>aph H λ_ _ H=>H,λH=>H t⟩;cases w with
 |none=>exact Iff.rfl
 |some w=>
  cases w with
  |false=>exact k (t:=tr++[⟨[],[],[]⟩])
  |true=>
   simp only[Ap,MP];cases bU S.shared y blk o.op with
   |fail=>exact Iff.rfl
   |done v u r=>simp only[Bw,Ex,k]
   |pc f h r s=>
    simp only[Bw,Ex];refine exists_congr λx=>and_congr Iff.rfl ?_;cases d_ blk r s (x.eU (S.lone s))with
    |none=>exact Iff.rfl
    |some Y=>simp only[k]
   |sc f h=>simp only[Bw,Ex,k]
theorem adp{o:iC}{os:en}:yb S al (o::os) R y blk↔MP S al (n0 y o.guard) o y blk (yb S al os R):=by
 constructor
 .intro h;exact(Wi []).1 (H_.1 (h []))
 intro h tr;exact H_.2 ((Wi tr).2 h)
variable {o:iC} {bN:bD->aB->Prop} {d:my}
end
theorem aqC:(false==true)=false:=rfl
theorem aeD:(true==false)=false:=rfl
theorem apg:(false==false):=rfl
theorem ajV:(true==true):=rfl
theorem aqo{blk:aB}{x:PV}:hJ blk (.one (.p x))=some (.one (.p x)):=rfl
theorem ag1(k:IntKind)(n:Int):(PV.int k n).norm=.int k n:=rfl
theorem aoR(b:Bool):(PV.bool b).norm=.bool b:=rfl
theorem asc(s:ByteArray):(PV.str s).norm=.str s:=rfl
theorem aoM:PV.nils.norm=.sl []:=rfl
theorem agj(j:dC):(PV.sl j).norm=.sl j:=rfl
theorem alg(j:c_):(PV.box j).norm=.box j:=rfl
theorem aql(f:Nat)(a b:c_):(PV.fn f a b).norm=.fn f a b:=rfl
theorem agt:PV.uu.norm=.uu:=rfl
theorem aiL:PV.tj.norm=.tj:=rfl
theorem ae3:PV.oE.norm=.oE:=rfl
theorem afC(a:Bool)(e:cL):(PV.mp a e).norm=.mp a e:=rfl
theorem anq{blk:aB}:xR blk []=some ([],[]):=rfl
def Oo(x:Option (V×aA))(y:Option (c7×aA)):Option (c7×aA):=match x,y with
 |some (b,x),some (B,y)=>some (b::B,x++y)
 |_,_=>none
theorem ajI{blk:aB}:xR blk (x::F)=Oo (lI blk x) (xR blk F):=by simp only[xR,Oo,fk];cases lI blk x<;>cases fk (lI blk) F<;>rfl
theorem ao1{b:V}{x:aA}{B:c7}{y:aA}:Oo (some (b,x)) (some (B,y))=some (b::B,x++y):=rfl
theorem apb{blk:aB}{x:PV}:lI blk (.one (.p x))=some (.one (.p x.norm),[]):=rfl
end Go.Abs
