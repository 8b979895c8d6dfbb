/-
  Each operation of the abstract machine is what the program does; the machine is sound in any order that a region draws; a quick evaluator; library functions.
-/
import Derived.Test.YtffbakabajjgcaaGreatDoorMa
import Derived.Laws.BytesString
import Derived.LoopN
import Derived.Scope
import Derived.Orders
import Derived.ChangeReads
import Derived.ChangeStays
import Derived.DataReads
import Derived.Below
import Derived.Sort.Grow
import Derived.Deep.Draws
import Derived.Lib.ItoaNum
import Derived.Lib.Join
import Derived.Lib.BitFns
import Derived.Lib.LaidTab
import Derived.ChangeSame
import Derived.ProofKit
import Derived.OpenShut
set_option linter.all false
namespace Go.Abs
variable {P:Program} {w0:World}
section
variable{ag:Bool}
def Ov(w:World)(own:Nat->Prop)(ag:Bool)(es:List (PV×List PV))(ents:Array MapEntry):Prop:=ents.size=es.length/\ ∀(i:Nat) (q:PV) (v:List PV) (e:MapEntry),es[i]?=some (q,v)->ents[i]?=some e->cD w own q e.key/\ ∃g:Array Value,(ag=true->e.val=.agg g)/\(ag=false-> #[e.val]=g)/\dd w own v g.toList
theorem LW{w:World}{r:Nat}{es:Array MapEntry}{clock:Nat}(hb:w.heap[r]?=some (.map es clock)):(getObj r).run P w=.ok (.map es clock) w:=by simp[getObj,Sem.run,hb]
theorem aeJ{w:World}{r:Nat}{es:Array MapEntry}{clock:Nat}{ob:Obj}(hb:w.heap[r]?=some (.map es clock)):(setObj r ob).run P w=.ok () {w with heap:=w.heap.setIfInBounds r ob}:=by simp[setObj,Sem.run,hb]
theorem acT{w:World}{own:Nat->Prop}{es:List (PV×List PV)}{v:Value}(h:cD w own (.mp ag es) v):
  ∃r ents clock,v=.map (some r)/\w.heap[r]?=some (.map ents clock)/\Ov w own ag es ents:=by
 cases h with
 |mp r ents clock g ho hb hl hk hv hr=>
  refine⟨r,ents,clock,rfl,hb,hl,fun i q v e h1 h2=>⟨hk i q v e h1 h2,g i,(hv i q v e h1 h2).2.1,(hv i q v e h1 h2).2.2,?_,fun j x u a b=>?_⟩⟩
  .simpa using (hv i q v e h1 h2).1
  exact hr i q v j x u h1 a (by simpa using b)
theorem Mx{m:Mem}(au:Ok w0 m){id g:Nat}{v:Value}(h:bU m (.one (.jW id g)) v){es:List (PV×List PV)}(hb:m.aj id=(g,some (.map ag es))\/m.aj id=(g,some (.fmap ag es))):
  ∃r ents clock,v=.map (some r)/\r=m.σ id/\m.w.heap[r]?=some (.map ents clock)/\Ov m.w m.own ag es ents:=by
 have h:cT m (.jW id g) v:=h;cases h with
 |jW r hg hr=>
  rcases hb with hb|hb
  .obtain⟨ents,clock,h1,h2,h3⟩:=au.obj id _ (congrArg Prod.snd hb);have:=hr (by rw[hb]) (by rw[hb];rfl);subst this;exact⟨_,ents,clock,rfl,rfl,h1,h2,h3⟩
  obtain⟨ents,clock,h1,h2,h3,_⟩:=au.obj id _ (congrArg Prod.snd hb);have:=hr (by rw[hb]) (by rw[hb];rfl);subst this;exact⟨_,ents,clock,rfl,rfl,h1,h2,h3⟩
theorem an5{m:Mem}(au:Ok w0 m){x:V}{v:Value}{es:List (PV×List PV)}{r:List Nat}(h:mapOf m.aj ag x=some (es,r))(hv:bU m x v):
  ∃ents:Array MapEntry,((v=.map none/\ents= #[])\/ ∃ref clock,v=.map (some ref)/\m.w.heap[ref]?=some (.map ents clock))/\Ov m.w m.own ag es ents:=by
 unfold mapOf at h;split at h
 .cases h;exact⟨#[],.inl ⟨abj hv,rfl⟩,rfl,fun i q v e h=>by simp at h⟩
 .rename_i rS kX;split at h
  .rename_i e;subst e;cases h;obtain⟨hp⟩:cT m _ v:=hv;obtain⟨r,ents,clock,h1,h2,h3⟩:=acT hp;exact⟨ents,.inr ⟨r,clock,h1,h2⟩,h3⟩
  cases h
 .rename_i id g;split at h
  .rename_i g' rS kX hb;split at h
   .rename_i hc;obtain⟨rfl,rfl⟩:=hc;cases h;obtain⟨r,ents,clock,h1,_,h2,h3⟩:=Mx au hv (.inl hb);exact⟨ents,.inr ⟨r,clock,h1,h2⟩,h3⟩
   cases h
  .rename_i g' rS kX hb;split at h
   .rename_i hc;obtain⟨rfl,rfl⟩:=hc;cases h;obtain⟨r,ents,clock,h1,_,h2,h3⟩:=Mx au hv (.inr hb);exact⟨ents,.inr ⟨r,clock,h1,h2⟩,h3⟩
   cases h
  cases h
 cases h
theorem ant{m:Mem}(au:Ok w0 m){x:V}{v:Value}{n:Nat}{r:List Nat}(h:zU m.aj x=some (n,r))(hv:bU m x v):
  (v=.map none/\n=0)\/ ∃ref ents clock,v=.map (some ref)/\m.w.heap[ref]?=some (.map ents clock)/\ents.size=n:=by
 unfold zU at h;split at h
 .cases h;exact .inl ⟨abj hv,rfl⟩
 .cases h;obtain⟨hp⟩:cT m _ v:=hv;obtain⟨r,ents,clock,h1,h2,h3⟩:=acT hp;exact .inr ⟨r,ents,clock,h1,h2,h3.1⟩
 .rename_i id g;split at h
  .rename_i g' rS kX hb;split at h
   .rename_i hc;subst hc;cases h;obtain⟨r,ents,clock,h1,_,h2,h3⟩:=Mx au hv (.inl hb);exact .inr ⟨r,ents,clock,h1,h2,h3.1⟩
   cases h
  .rename_i g' rS kX hb;split at h
   .rename_i hc;subst hc;cases h;obtain⟨r,ents,clock,h1,_,h2,h3⟩:=Mx au hv (.inr hb);exact .inr ⟨r,ents,clock,h1,h2,h3.1⟩
   cases h
  cases h
 cases h
def DN(kind:TypeDesc)(kd:Nat):Prop:=(kd=0/\ ∃k,kind=.int k)\/(kd=1/\kind=.string)\/(kd=2/\kind=.bool)
theorem acd{t:TypeId}{kd:Nat}(h:keyOf P t=some kd):∃kind,P.underlying t=some kind/\DN kind kd:=by
 unfold keyOf at h;split at h
 .rename_i k hk;cases h;exact⟨_,hk,.inl ⟨rfl,_,rfl⟩⟩
 .rename_i hk;cases h;exact⟨_,hk,.inr (.inl ⟨rfl,rfl⟩)⟩
 .rename_i hk;cases h;exact⟨_,hk,.inr (.inr ⟨rfl,rfl⟩)⟩
 cases h
theorem VS{w:World}{own:Nat->Prop}{k q:PV}{kv qv:Value}{kind:TypeDesc}{b:Bool}(hk:DN kind (gZ k))(h:sameKey k q=some b)(h1:cD w own k kv)(h2:cD w own q qv):Instr.sameNow kind kv qv=some b:=by
 unfold sameKey at h;split at h
 .rename_i a b' c d;split at h
  .rename_i e;subst e;cases h;rcases hk with ⟨_,x,rfl⟩|⟨e,_⟩|⟨e,_⟩
   .cases h1;cases h2;simp[Instr.sameNow]
   .simp[gZ] at e
   simp[gZ] at e
  cases h
 .cases h;rcases hk with ⟨e,_⟩|⟨_,rfl⟩|⟨e,_⟩
  .simp[gZ] at e
  .cases h1;cases h2;simp[Instr.sameNow]
  simp[gZ] at e
 .cases h;rcases hk with ⟨e,_⟩|⟨e,_⟩|⟨_,rfl⟩
  .simp[gZ] at e
  .simp[gZ] at e
  cases h1;cases h2;simp[Instr.sameNow]
 cases h
theorem sameKey_eq{w:World}{own:Nat->Prop}{k q:PV}{kv qv:Value}(h:sameKey k q=some true)(h1:cD w own k kv)(h2:cD w own q qv):qv=kv:=by
 unfold sameKey at h;split at h
 .split at h
  .rename_i e;subst e;simp at h;subst h;cases h1;cases h2;rfl
  cases h
 .rename_i a b;have e:(a==b)=true:=by simpa using h
  rw[beq_toListBytes] at e;have e:a=b:=by
   have e:a.toList=b.toList:=by simpa using e
   rw[ByteArray.toList_eq,ByteArray.toList_eq] at e;exact ByteArray.ext (Array.toList_inj.1 e)
  subst e;cases h1;cases h2;rfl
 .simp at h;subst h;cases h1;cases h2;rfl
 cases h
theorem ZM{w:World}{own:Nat->Prop}{k:PV}{kv:Value}{kind:TypeDesc}(hk:DN kind (gZ k))(h1:cD w own k kv):∀ {es:List (PV×List PV)} {l:List MapEntry} {i:Nat} {f:Option (Nat×List PV)},
  l.length=es.length->(∀(j:Nat) (q:PV) (v:List PV) (e:MapEntry),es[j]?=some (q,v)->l[j]?=some e->cD w own q e.key)->oZ k es i=some f->
  (f=none/\Instr.findNow kind kv l i=some none)\/ ∃j q v e,f=some (i+j,v)/\es[j]?=some (q,v)/\l[j]?=some e/\sameKey k q=some true/\Instr.findNow kind kv l i=some (some (i+j,e.val)):=by
 intro es
 induction es with
 |nil=>
  intro l i f hl _ hf;simp[oZ] at hf;cases l with
  |nil=>exact .inl ⟨hf.symm,rfl⟩
  |cons _ _=>simp at hl
 |cons p r ih=>
  intro l i f hl hq hf;obtain⟨a,v⟩:=p;cases l with
  |nil=>simp at hl
  |cons e l=>
   have nX:=hq 0 a v e rfl rfl;simp only[oZ] at hf;split at hf
   .rename_i hs;cases hf;exact .inr ⟨0,a,v,e,rfl,rfl,rfl,hs,by simp[Instr.findNow,VS hk hs h1 nX]⟩
   .rename_i hs;rcases ih (l:=l) (i:=i+1) (f:=f) (by simpa using hl) (fun j q v e a b=>hq (j+1) q v e (by simpa using a) (by simpa using b)) hf with ⟨e1,e2⟩|⟨j,q,v',e',e1,e2,e3,e4,e5⟩
    .exact .inl ⟨e1,by simp[Instr.findNow,VS hk hs h1 nX,e2]⟩
    refine .inr ⟨j+1,q,v',e',by rw[e1];congr 2;omega,by simpa using e2,by simpa using e3,e4,?_⟩;simp only[Instr.findNow,VS hk hs h1 nX,e5];congr 3;omega
   cases hf
theorem aij{t:TypeId}{kind:TypeDesc}{kd:Nat}{b:Bool}{v:Value}(w:World)(h:P.underlying t=some kind)(hk:DN kind kd)(n:Nat):(Instr.checkKey b (n+1) t v).run P w=.ok () w:=by rcases hk with ⟨_,k,rfl⟩|⟨_,rfl⟩|⟨_,rfl⟩<;>simp[Instr.checkKey,run_underlying h]
theorem Ll{t:TypeId}{kind:TypeDesc}{kd:Nat}{b:Bool}{v:Value}(w:World)(h:P.underlying t=some kind)(hk:DN kind kd):(Instr.checkKey b 10000 t v).run P w=.ok () w:=aij w h hk 9999
theorem aqY{w:World}{own:Nat->Prop}{k:PV}{kv:Value}{kind:TypeDesc}(hk:DN kind (gZ k))(h:cD w own k kv)(n:Nat):Instr.sameBits n kv kv=true:=by
 cases h<;>first
  |(simp[gZ,DN] at hk;done)
  |(simp[Instr.sameBits];done)
  |(simp[Instr.sameBits,beq_toListBytes];done)
theorem amW{w0 w:World}{own:Nat->Prop}{k:PV}{kv:Value}{kind:TypeDesc}(hk:DN kind (gZ k))(h:cD w0 own k kv):(Instr.keyThatStays kv kv).run P w=.ok kv w:=by rw[Instr.keyThatStays,aqY hk h,aD rfl];rfl
theorem Pb{t:TypeId}{kind:TypeDesc}{v:Value}{l:List MapEntry}{r:Option (Nat×Value)}(w:World)(h:P.underlying t=some kind)(hf:Instr.findNow kind v l 0=some r):(Instr.findKey t v l).run P w=.ok r w:=by simp[Instr.findKey,run_underlying h,hf]
theorem acJ{m:Mem}{v:List PV}{x:V}{val:Value}{g:Array Value}(h:mapVal ag v=some x)(h1:ag=true->val=.agg g)(h2:ag=false-> #[val]=g)(hp:dd m.w m.own v g.toList):bU m x val/\nJ m x val:=by
 cases ag with
 |true=>simp only[mapVal,fL] at h;subst h;exact⟨bU.agg.2 ⟨g,h1 rfl,hp.Du⟩,⟨g,h1 rfl,hp.Du⟩⟩
 |false=>
  have h2:=h2 rfl;subst h2;cases v with
  |nil=>simp[mapVal] at h
  |cons c r=>
   cases r with
   |nil=>simp only[mapVal,fL] at h;subst h;have:=hp.2 0 c val rfl rfl;exact⟨mx this,cT.p this⟩
   |cons _ _=>simp[mapVal] at h
section
variable {m:Mem} {ak:Env} {a:Act} {o:Oper} (au:Ok w0 m) (hr:iO m ak a.tmps)
include au
theorem arv{t kt e:TypeId}{s:Nat}(ho:o.op=.makeMap t none):
  fM P w0 a.eval o m (.one (.jW s ((m.aj s).1+1))) [(s,((m.aj s).1+1,some (.map ag [])))]:=by
 refine⟨.map (some m.w.heap.size),m.fresh (.map #[] 0) s 0 (.map ag []),.inl ?_,Z0 au _ s 0 _ ⟨#[],0,ZZ _ s 0 _,rfl,fun i q v e h=>by simp at h⟩,Ph _ s 0 _,Tw au _ s 0 _,Tv _ _ s 0 _,bU.one.2 (.jW _ ?_ fun _ _=>?_)⟩
 .simp[execOp,ho,Instr.makeMap];rfl
 .simp[Mem.fresh,Mem.install,Mem.later,aN]
 simp[Mem.fresh,Mem.install,aN]
include hr
theorem arx{c:Call}{x:Operand}{x':aQ}{t k e:TypeId}{n:Nat}{r:List Nat}(ho:o.op=.call c)(hc:c.callee=.builtin .len)(has:c.args= #[x])(j6:c.argTypes[0]?=some t)(ht:P.underlying t=some (.map k e))
  (hx:cG x=some x') (hv:zU m.aj (ev ak x')=some (n,r)):fM P w0 a.eval o m (.one (.p (.int .i64 n))) []:=by
 refine .calm au ?_ (mx (.int _ _));have h0:(#[a.eval x]:Array Value)[0]?=some (a.eval x):=rfl;rcases ant au hv (eB hx hr) with ⟨h1,rfl⟩|⟨ref,ents,clock,h1,h2,rfl⟩
 .simp[execOp,ho,resolve,hc,has,j6,invoke,builtin,Builtin.len_,run_underlying ht,h1,goInt]
 simp[execOp,ho,resolve,hc,has,j6,invoke,builtin,Builtin.len_,run_underlying ht,h1,goInt,LW h2]
theorem arq{t kt e:TypeId}{x k:Operand}{x' k':aQ}{ok:Bool}{z:List PV}{q:Option Nat}{kd:Nat}{es:List (PV×List PV)}{r:List Nat}{key:PV}{f:Option (Nat×List PV)}{w:V}(ho:o.op=.lookup t x k ok)(ht:P.underlying t=some (.map kt e))
  (hz:Aq P e=some z) (A5:keyOf P kt=some kd) (xY:Rs P e=q.isSome) (hx:cG x=some x') (hk:cG k=some k') (hm:mapOf m.aj q.isSome (ev ak x')=some (es,r)) (zD:ev ak k'=.one (.p key)) (tX:gZ key=kd)
  (hf:oZ key es 0=some f) (hw:mapVal q.isSome ((f.map (·.2)).getD z)=some w):fM P w0 a.eval o m (if ok then .tup [w,.one (.p (.bool f.isSome))] else w) []:=by
 obtain⟨kind,zE,CB⟩:=acd A5;obtain⟨ents,Py,hl,ek⟩:=an5 au hm (eB hx hr);have Mv:=eB hk hr;rw[zD] at Mv;obtain⟨dq⟩:cT m _ _:=Mv;have kA:(∃ref clock,a.eval x=.map (some ref)/\m.w.heap[ref]?=some (.map ents clock))\/a.eval x=.map none/\ents= #[]:=by
  rcases Py with h|h
  .exact .inr h
  exact .inl h
 have key:∀(val:Value) (b:Bool),bU m w val->nJ m w val->f.isSome=b->(Instr.lookup t (a.eval x) (a.eval k) ok).run P m.w=.ok (if ok then .tuple #[val,.bool b] else val) m.w->fM P w0 a.eval o m (if ok then .tup [w,.one (.p (.bool f.isSome))] else w) []:=by
  intro val b h1 jE h2 h3;refine .calm au (x:=if ok then .tuple #[val,.bool b] else val) ?_ ?_
  .simp[execOp,ho,h3]
  cases ok
  .exact h1
  refine⟨_,rfl,rfl,fun j y u p q=>?_⟩;rcases j with _|_|j
  .simp at p q;subst p q;exact jE
  .simp at p q;subst p q;rw[h2];exact cT.p (.bool _)
  simp at p
 rcases ZM (kind:=kind) (by rw[tX];exact CB) dq (l:=ents.toList) (by simpa using hl) (fun j q v e h1 h2=>(ek j q v e h1 (by simpa using h2)).1) hf with ⟨rfl,hn⟩|⟨j,q',v,e',rfl,h2,h3,_,hn⟩
 .obtain⟨zv,i,hi,wN,JA,pJ,dw⟩:=N7 hz;obtain⟨v1,v2⟩:=acJ (m:=m) (val:=zv) (g:=zv.cells) hw (fun hq=>by
    rw[hq] at xY;unfold Rs at xY;rw[hi] at xY;simp only[wN] at xY;cases zv<;>simp[Value.cells] at xY ⊢) (fun hq=>by
    rw[hq] at xY;unfold Rs at xY;rw[hi] at xY;simp only[wN] at xY;cases zv<;>simp[Value.cells] at xY ⊢) (dw m.w m.own)
  refine key zv false v1 v2 rfl ?_;have ED:=Pb (P:=P) m.w zE hn;rcases kA with ⟨ref,clock,h1,h2⟩|⟨h1,h2⟩
  .cases ok<;>simp[Instr.lookup,run_underlying ht,h1,LW h2,Ll m.w zE CB,ED,zeroValue,typeInfo,hi,wN]
  subst h2;cases ok<;>simp[Instr.lookup,run_underlying ht,h1,Ll m.w zE CB,Instr.findKey,run_underlying zE,Instr.findNow,zeroValue,typeInfo,hi,wN]
 obtain⟨hqk,g,zy,Cw,dw⟩:=ek j q' v e' h2 (by simpa using h3);obtain⟨v1,v2⟩:=acJ hw zy Cw dw;refine key e'.val true v1 v2 rfl ?_;have ED:=Pb (P:=P) m.w zE hn;rcases kA with ⟨ref,clock,h1,h2⟩|⟨h1,h2⟩
 .cases ok<;>simp[Instr.lookup,run_underlying ht,h1,LW h2,Ll m.w zE CB,ED]
 subst h2;simp at h3
theorem aeP{t kt e:TypeId}{x k y:Operand}{x' k' y':aQ}{kd:Nat}{ag:Bool}{id g:Nat}{es:List (PV×List PV)}{key:PV}{cs:List C}{ps:List PV}{f:Option (Nat×List PV)}(ho:o.op=.mapUpdate t x k y\/o.op=.insert t x k y)(ht:P.underlying t=some (.map kt e))
  (A5:keyOf P kt=some kd) (hx:cG x=some x') (hk:cG k=some k') (hy:cG y=some y') (hm:ev ak x'=.one (.jW id g)) (hb:m.aj id=(g,some (.map ag es))) (zD:ev ak k'=.one (.p key)) (tX:gZ key=kd)
  (cX:xH ag (ev ak y')=some cs) (dw:Bx cs=some ps) (hf:oZ key es 0=some f):
  fM P w0 a.eval o m .undef [(id,(g,some (.map ag (match f with|some (i,_)=>es.set i (key,ps)|none=>es++[(key,ps)]))))]:=by
 obtain⟨kind,zE,CB⟩:=acd A5;have hxr:=eB hx hr;rw[hm] at hxr;have hid:=congrArg Prod.snd hb;have hg:=congrArg Prod.fst hb;obtain⟨ref,ents,clock,wV,aX,hh,hl,ek⟩:=Mx au hxr (.inl hb);subst aX;have Mv:=eB hk hr;rw[zD] at Mv;obtain⟨dq⟩:cT m _ _:=Mv;have hyr:=eB hy hr
 -- the value's cells
 have hval:∃gv:Array Value,(ag=true->a.eval y=.agg gv)/\(ag=false-> #[a.eval y]=gv)/\dd m.w m.own ps gv.toList:=by
  generalize ev ak y'=vy at cX hyr;cases ag with
  |true=>
   cases vy<;>simp[xH] at cX
   subst cX;obtain⟨arr,h1,h2⟩:=bU.agg.1 hyr;exact⟨arr,fun _=>h1,fun h=>(by cases h),NU dw h2⟩
  |false=>
   cases vy<;>simp[xH] at cX
   subst cX;refine⟨#[a.eval y],fun h=>(by cases h),fun _=>rfl,NU dw ⟨rfl,fun j x u p q=>?_⟩⟩;rcases j with _|j
   .simp at p q;subst p q;exact hyr
   simp at p
 obtain⟨gv,ES,qu,hvp⟩:=hval;have aq:=vp hh;have acb:∀(Ca:Array MapEntry) (DY:Nat) (kX:List (PV×List PV)),(execOp a.eval o).run P m.w=.ok .skip {m.w with heap:=m.w.heap.setIfInBounds (m.σ id) (.map Ca DY)}->Ov m.w m.own ag kX Ca->
   fM P w0 a.eval o m .undef [(id,(g,some (.map ag kX)))]:=by
  intro Ca DY kX jG Py;have hs:(m.w.heap.setIfInBounds (m.σ id) (.map Ca DY)).size=m.w.heap.size:=af;have hko:∀c,c≠m.σ id->(m.w.heap.setIfInBounds (m.σ id) (.map Ca DY))[c]?=m.w.heap[c]? :=fun c hc=>by rw[Rw];rw[ay (fun e=>hc e.symm)]
  have dR:Ev m (m.jZ {m.w with heap:=m.w.heap.setIfInBounds (m.σ id) (.map Ca DY)} id (.map ag kX)):=NJ hid rfl rfl rfl rfl rfl hs hko;refine⟨_,m.jZ {m.w with heap:=m.w.heap.setIfInBounds (m.σ id) (.map Ca DY)} id (.map ag kX),.inr ⟨jG,rfl⟩,Q0 hid rfl au rfl rfl rfl rfl hs hko ?_,dR,rfl,?_,rfl⟩
  .refine⟨Ca,DY,?_,Py.1,fun i q v e h1 h2=>?_⟩
   .show(m.w.heap.setIfInBounds (m.σ id) (.map Ca DY))[m.σ id]?=_;rw[Rw,aD rfl,aD aq]
   obtain⟨p1,gg,p2,p3,p4⟩:=Py.2 i q v e h1 h2;exact⟨p1.ev dR.zero,gg,p2,p3,p4.ev dR.zero⟩
  simp only[Mem.jZ,app,hg]
 rcases ZM (kind:=kind) (by rw[tX];exact CB) dq (l:=ents.toList) (by simpa using hl) (fun j q v e h1 h2=>(ek j q v e h1 (by simpa using h2)).1) hf with ⟨rfl,hn⟩|⟨j,q',v,e',rfl,h2,h3,h4,hn⟩
 .refine acb (ents.push {key:=a.eval k,val:=a.eval y,born:=clock}) (clock+1) _ ?_ ?_
  .have ED:=Pb (P:=P) m.w zE hn;rcases ho with ho|ho<;>simp[execOp,ho,Instr.mapUpdate,run_underlying ht,wV,LW hh,Ll m.w zE CB,ED,aeJ hh]
  refine⟨by simp[hl],fun i q v e h1 h2=>?_⟩;by_cases hi:i<es.length
  .rw[vR hi] at h1;rw[Rv,ay aa] at h2;exact ek i q v e h1 h2
  rw[yK aa] at h1;have:i=es.length:=by
   by_cases h:i-es.length=0
   .omega
   have:=(bg.1 h1).1;simp at this;omega
  subst this;simp at h1;obtain⟨rfl,rfl⟩:=h1;rw[Rv,aD hl.symm] at h2;cases h2;exact⟨dq,gv,ES,qu,hvp⟩
 have qf:ents[j]?=some e':=by simpa using h3
 have hqe:e'.key=a.eval k:=sameKey_eq h4 dq (ek j q' v e' h2 qf).1;refine acb (ents.modify j fun e=>{e with key:=a.eval k,val:=a.eval y}) clock _ ?_ ?_
 .have ED:=Pb (P:=P) m.w zE hn;rw[jm] at ED;have Jj:(Instr.keyThatStays e'.key (a.eval k)).run P m.w=.ok (a.eval k) m.w:=by rw[hqe];exact amW (kind:=kind) (by rw[tX];exact CB) dq
  rcases ho with ho|ho<;>simp[execOp,ho,Instr.mapUpdate,run_underlying ht,wV,LW hh,Ll m.w zE CB,ED,aeJ hh,qf,Jj]
 simp only[jm];refine⟨by simp[hl],fun i q v e h1 h2=>?_⟩;rw[mC] at h1;rw[Array.getElem?_modify] at h2;by_cases eU:j=i
 .subst eU;rw[aD rfl] at h1;split at h1
  .cases h1;simp[qf] at h2;subst h2;exact⟨dq,gv,ES,qu,hvp⟩
  cases h1
 rw[ay eU] at h1;rw[ay eU] at h2;exact ek i q v e h1 h2
end
end
end Go.Abs
namespace Go.Abs
variable {P:Program} {w0:World}
theorem aeB{t:TypeId}{b:Bool}(h:QZ P t=some b):(b=true/\ ∃k,P.underlying t=some (.int k))\/(b=false/\P.underlying t=some .bool):=by
 unfold QZ at h;split at h
 .rename_i k hk;cases h;exact .inl ⟨rfl,_,hk⟩
 .rename_i hk;cases h;exact .inr ⟨rfl,hk⟩
 cases h
theorem ajr{a b:PV}{r:Bool}(h:uC true a b=some r):∃k x y,a=.int k x/\b=.int k y/\r=(x==y):=by
 cases a<;>cases b<;>simp[uC] at h
 exact⟨_,_,_,rfl,by rw[h.1],h.2.symm⟩
theorem ajq{a b:PV}{r:Bool}(h:uC false a b=some r):∃x y,a=.bool x/\b=.bool y/\r=(x==y):=by
 cases a<;>cases b<;>simp[uC] at h
 exact⟨_,_,rfl,rfl,h.symm⟩
theorem ajt{as bs:List C}{r:Bool}(h:vg [] as bs=some r):r=true:=by
 cases as<;>cases bs<;>simp[vg] at h
 exact h
theorem ajs{k:Bool}{ks:List Bool}{as bs:List C}{r:Bool}(h:vg (k::ks) as bs=some r):
  ∃a ar b br r0,as=.p a::ar/\bs=.p b::br/\uC k a b=some r0/\(r0=true->vg ks ar br=some r)/\(r0=false->r=false):=by
 cases as with
 |nil=>simp[vg] at h
 |cons x ar=>
  cases bs with
  |nil=>cases x<;>simp[vg] at h
  |cons y br=>
   cases x<;>cases y<;>simp only[vg] at h<;>try cases h
   rename_i a b;cases he:uC k a b with
   |none=>simp[he] at h
   |some r0=>
    refine⟨a,ar,b,br,r0,rfl,rfl,he,fun e=>?_,fun e=>?_⟩
    .subst e;simpa [he] using h
    subst e;simp[he] at h;exact h
theorem aju{w:World}{m:Mem}(d:Nat){A B:Array Value}:∀ {fs:List Field} {ks:List Bool} {k:Nat} {as bs:List C} {r:Bool},Kk P k fs=some ks->vg ks as bs=some r->
  (∀(j:Nat) (x:C),as[j]?=some x->∃v,A[k+j]?=some v/\cT m x v)->(∀(j:Nat) (x:C),bs[j]?=some x->∃v,B[k+j]?=some v/\cT m x v)->
  (Op.eqFields (d+1) A B fs).run P w=.ok r w:=by
 intro fs
 induction fs with
 |nil=>intro ks k as bs r hf he _ _;simp[Kk] at hf;subst hf;rw[ajt he];simp[Op.eqFields,Sem.run_pure]
 |cons f fs ih=>
  intro ks k as bs r hf he ha hb;simp only[Kk] at hf;split at hf
  .rename_i b v8 h1 h2;split at hf
   .rename_i hc;obtain⟨Jp,alI⟩:=hc;cases hf;obtain⟨x,ar,y,br,r0,rfl,rfl,h0,ht,hf⟩:=ajs he;obtain⟨va,hva,vw⟩:=ha 0 (.p x) rfl;obtain⟨vb,hvb,vx⟩:=hb 0 (.p y) rfl;obtain⟨vw⟩:=vw;obtain⟨vx⟩:=vx;rw[xA] at hva hvb;have MI:∀(X:Array Value) (v:Value),X[k]?=some v->(part f.type X f.offset).run P w=.ok v w:=by
     intro X v hX;have xY:(isAgg f.type).run P w=.ok false w:=by rcases aeB h1 with ⟨_,kk,hu⟩|⟨_,hu⟩<;>simp[isAgg,run_underlying hu]
     rw[Jp];simp[part,xY,hX]
    have ali:(Op.equalIn (d+1) f.type va vb).run P w=.ok r0 w:=by
     rcases aeB h1 with ⟨rfl,kk,hu⟩|⟨rfl,hu⟩
     .obtain⟨k',p,q,rfl,rfl,rfl⟩:=ajr h0;cases vw;cases vx;simp[Op.equalIn,run_underlying hu]
     obtain⟨p,q,rfl,rfl,rfl⟩:=ajq h0;cases vw;cases vx;simp[Op.equalIn,run_underlying hu]
    simp only[Op.eqFields,aD alI,Sem.run_bind,MI A va hva,MI B vb hvb,ali,Result.andThen_ok];cases r0 with
    |false=>rw[hf rfl];simp[Sem.run_pure]
    |true=>simp only[DB,dQ,if_false];exact ih h2 (ht rfl) (fun j x hx=>by have:=ha (j+1) x (by simpa using hx);rwa[show k+(j+1)=k+1+j by omega] at this) (fun j x hx=>by have:=hb (j+1) x (by simpa using hx);rwa[show k+(j+1)=k+1+j by omega] at this)
   cases hf
  cases hf
def BE:u4->Value->Bool->Prop
 | .ptr,v,b=>∃a,v=.pointer a/\a.isNone=b
 | .slc,v,b=>∃a l c,v=.slice a l c/\a.isNone=b
 | .map,v,b=>∃r,v=.map r/\r.isNone=b
 | .fnc,v,b=>(v=.nilFunc/\b=true)\/ ∃f x y,v=.func f x y/\b=false
 | .ifc,v,b=>(v=.nilIface/\b=true)\/ ∃d x,v=.iface d x/\b=false
 |_,_,_=>False
theorem yq{m:Mem}{k:u4}{x:V}{v:Value}{b:Bool}(h:G9 k x=some b)(hr:bU m x v):BE k v b:=by
 unfold G9 at h;split at h<;>cases h
 all_goals first
  |(obtain⟨hp⟩:cT m _ v:=hr;cases hp;first
    |exact⟨_,rfl,rfl⟩
    |exact⟨_,_,_,rfl,rfl⟩
    |exact .inl ⟨rfl,rfl⟩
    |exact .inr ⟨_,_,_,rfl,rfl⟩
    |exact .inr ⟨_,_,rfl,rfl⟩)
  |(have hc:cT m _ v:=hr;cases hc;first
    |exact⟨_,rfl,rfl⟩
    |exact⟨_,_,_,rfl,rfl⟩
    |exact .inr ⟨_,_,_,rfl,rfl⟩)
def Sf(P:Program)(t:TypeId):u4->Prop
 | .bool=>P.underlying t=some .bool
 | .ptr=>∃e,P.underlying t=some (.pointer e)
 | .slc=>∃e,P.underlying t=some (.slice e)
 | .map=>∃a b,P.underlying t=some (.map a b)
 | .fnc=>∃a b c,P.underlying t=some (.func a b c)
 | .ifc=>∃a,P.underlying t=some (.interface a)
 | .str ks=>∃fs,P.underlying t=some (.struct fs)/\P.stoodInHeld t=false/\P.eqGuardType P.depth t=false/\Kk P 0 fs.toList=some ks
theorem Zq{t:TypeId}{x y:Operand}{k:u4}(h:LH P t x y=some k):Sf P t k/\(k=.ifc->JR x=true\/JR y=true):=by
 unfold LH at h;split at h
 .rename_i a ha;split at h
  .rename_i hc;cases h;exact⟨⟨_,ha⟩,fun _=>by simpa using hc⟩
  cases h
 .rename_i ha;cases h;exact⟨ha,fun e=>by cases e⟩
 .rename_i ha;cases h;exact⟨⟨_,ha⟩,fun e=>by cases e⟩
 .rename_i ha;cases h;exact⟨⟨_,ha⟩,fun e=>by cases e⟩
 .rename_i ha;cases h;exact⟨⟨_,_,ha⟩,fun e=>by cases e⟩
 .rename_i ha;cases h;exact⟨⟨_,_,_,ha⟩,fun e=>by cases e⟩
 .rename_i fs ha;split at h
  .rename_i hc;simp only[dx] at h;obtain⟨ks,h1,rfl⟩:=h;simp at hc;exact⟨⟨fs,ha,hc.1,hc.2,h1⟩,fun e=>by cases e⟩
  cases h
 cases h
theorem Zr{t:TypeId}{k:u4}{v u:Value}{a b:Bool}(w:World)(hk:Sf P t k)(h1:BE k v a)(h2:BE k u b)(dX:a=true\/b=true)(d:Nat):(Op.equalIn (d+1) t v u).run P w=.ok (a&&b) w:=by
 cases k with
 |bool=>exact h1.elim
 |str n=>exact h1.elim
 |ptr=>obtain⟨e,hu⟩:=hk;obtain⟨x,rfl,rfl⟩:=h1;obtain⟨y,rfl,rfl⟩:=h2;cases x<;>cases y<;>simp at dX<;>simp[Op.equalIn,run_underlying hu]
 |slc=>obtain⟨e,hu⟩:=hk;obtain⟨x,_,_,rfl,rfl⟩:=h1;obtain⟨y,_,_,rfl,rfl⟩:=h2;cases x<;>cases y<;>simp at dX<;>simp[Op.equalIn,run_underlying hu]
 |map=>obtain⟨e,e',hu⟩:=hk;obtain⟨x,rfl,rfl⟩:=h1;obtain⟨y,rfl,rfl⟩:=h2;cases x<;>cases y<;>simp at dX<;>simp[Op.equalIn,run_underlying hu]
 |fnc=>obtain⟨e,e',e'',hu⟩:=hk;rcases h1 with ⟨rfl,rfl⟩|⟨_,_,_,rfl,rfl⟩<;>rcases h2 with ⟨rfl,rfl⟩|⟨_,_,_,rfl,rfl⟩<;>simp at dX<;>simp[Op.equalIn,run_underlying hu]
 |ifc=>obtain⟨e,hu⟩:=hk;rcases h1 with ⟨rfl,rfl⟩|⟨_,_,rfl,rfl⟩<;>rcases h2 with ⟨rfl,rfl⟩|⟨_,_,rfl,rfl⟩<;>simp at dX<;>simp[Op.equalIn,run_underlying hu]
section
variable {m:Mem} {ak:Env} {a:Act} {o:Oper} (au:Ok w0 m) (hr:iO m ak a.tmps)
include au hr
theorem ajy{t:TypeId}{k:u4}{x y:V}{v u:Value}{b:Bool}(hk:Sf P t k)(h:Cb k x y=some b)(hx:bU m x v)(hy:bU m y u)(d:Nat):(Op.equalIn (d+2) t v u).run P m.w=.ok b m.w:=by
 have _u0:=au;have _u1:=hr;unfold Cb at h;split at h
 .cases h;rw[EY hx,EY hy];have hk:P.underlying t=some .bool:=hk;simp only[Op.equalIn,Sem.run_bind,run_underlying hk,Result.andThen_ok,Sem.run_pure]
 .obtain⟨A,rfl,hA⟩:=bU.agg.1 hx;obtain⟨B,rfl,hB⟩:=bU.agg.1 hy;obtain⟨fs,hu,hs,_,hf⟩:=hk;have zx:P.fieldsOf t=fs:=by simp[Program.fieldsOf,hu]
  rw[run_equalIn_agg m.w (d+1) t A B (by rw[zx];exact hu) hs,zx];refine aju (w:=m.w) (m:=m) d hf h (fun j x hx=>?_) (fun j x hx=>?_)
  .have aq:j<A.size:=by have:=hA.1;simp at this;rw[this];exact(bg.1 hx).1
   exact⟨A[j],by simp[aq],hA.2 j x _ hx (by simp[aq])⟩
  have aq:j<B.size:=by have:=hB.1;simp at this;rw[this];exact(bg.1 hx).1
  exact⟨B[j],by simp[aq],hB.2 j x _ hx (by simp[aq])⟩
 .cases h
 .cases h
 split at h
 .rename_i hb;have:=Zr (P:=P) m.w hk (yq h hx) (yq hb hy) (.inr rfl) (d+1)
  simpa using this
 split at h
 .rename_i ha;have:=Zr (P:=P) m.w hk (yq ha hx) (yq h hy) (.inl rfl) (d+1)
  simpa using this
 cases h
theorem ajv{op:BinOp}{t:TypeId}{k:u4}{x y:Operand}{x' y':aQ}{b:Bool}(hk:LH P t x y=some k)(hx:cG x=some x')(hy:cG y=some y')(h:Cb k (ev ak x') (ev ak y')=some b):
  (eqGuard op t x y (a.eval x) (a.eval y)).run P m.w=.ok () m.w:=by
 have _u0:=au;obtain⟨cF,jV⟩:=Zq hk;have h1:=eB hx hr;have h2:=eB hy hr;by_cases hop:op=.eql\/op=.neq
 .unfold Cb at h;split at h
  .rename_i e1 e2;rw[e1] at h1;rw[EY h1,eqGuard_at_bool];rfl
  .rename_i e1 e2;rw[e1] at h1;rw[e2] at h2;obtain⟨A,e3,_⟩:=bU.agg.1 h1;obtain⟨B,e4,_⟩:=bU.agg.1 h2;obtain⟨fs,_,_,hg,_⟩:=cF;rw[e3,e4];exact run_eqGuard_agg m.w op t x y A B hg
  .cases h
  .cases h
  rename_i k q1 q2 q3 q4 q5 q6 q7;have hn:∃b1 b2,BE k (a.eval x) b1/\BE k (a.eval y) b2:=by
   split at h
   .rename_i hb;exact⟨_,_,yq h h1,yq hb h2⟩
   split at h
   .rename_i ha;exact⟨_,_,yq ha h1,yq h h2⟩
   cases h
  obtain⟨b1,b2,n1,n2⟩:=hn;cases k with
  |bool=>exact n1.elim
  |str n=>exact n1.elim
  |ptr=>obtain⟨q,e,_⟩:=n1;rw[e,eqGuard_at_pointer];rfl
  |slc=>obtain⟨q,_,_,e,_⟩:=n1;rw[e,eqGuard_at_slice];rfl
  |map=>obtain⟨q,e,_⟩:=n1;rw[e,eqGuard_at_map];rfl
  |fnc=>
   rcases n1 with ⟨e,_⟩|⟨_,_,_,e,_⟩
   .rw[e,eqGuard_at_nilFunc];rfl
   rw[e,eqGuard_at_func];rfl
  |ifc=>
   rcases n1 with ⟨e,_⟩|⟨_,_,e,_⟩
   .rcases n2 with ⟨e',_⟩|⟨_,_,e',_⟩
    .rw[e,e'];have hc:(∃c,x=.const c)\/ ∃c,y=.const c:=by
      rcases jV rfl with hc|hc
      .cases x<;>simp[JR] at hc
       exact .inl ⟨_,rfl⟩
      cases y<;>simp[JR] at hc
      exact .inr ⟨_,rfl⟩
     rcases hc with ⟨c,rfl⟩|⟨c,rfl⟩
     .rw[eqGuard_nil_constL];rfl
     rw[eqGuard_nil_constR];rfl
    rw[e,e',eqGuard_nil_iface];rfl
   rw[e,eqGuard_at_iface];rfl
 have:eqGuard op t x y (a.eval x) (a.eval y)=pure ():=by
  cases op<;>first
   |rfl
   |exact(hop (.inl rfl)).elim
   |exact(hop (.inr rfl)).elim
 rw[this];rfl
theorem ahT{t:TypeId}{k:u4}{v u:Value}{b1:Bool}(hs:(∃p q,v=.bool p/\u=.bool q)\/(∃p q,v=.agg p/\u=.agg q)\/ ∃p q,BE k v p/\BE k u q)(h:(Op.equalIn (9998+2) t v u).run P m.w=.ok b1 m.w):
  (binOp .eql t v u).run P m.w=.ok (.bool b1) m.w/\(binOp .neq t v u).run P m.w=.ok (.bool (!b1)) m.w:=by
 have _u0:=au;have _u1:=hr;have he:Op.equal t v u=Op.equalIn (9998+2) t v u:=rfl;have key:binOp .eql t v u=(do pure (.bool (<- Op.equal t v u)))/\binOp .neq t v u=(do pure (.bool (!(<- Op.equal t v u)))):=by
  rcases hs with ⟨p,q,rfl,rfl⟩|⟨p,q,rfl,rfl⟩|⟨p,q,h1,h2⟩
  .exact⟨rfl,rfl⟩
  .exact⟨rfl,rfl⟩
  cases k with
  |bool=>exact h1.elim
  |str n=>exact h1.elim
  |ptr=>obtain⟨_,rfl,_⟩:=h1;obtain⟨_,rfl,_⟩:=h2;exact⟨rfl,rfl⟩
  |slc=>obtain⟨_,_,_,rfl,_⟩:=h1;obtain⟨_,_,_,rfl,_⟩:=h2;exact⟨rfl,rfl⟩
  |map=>obtain⟨_,rfl,_⟩:=h1;obtain⟨_,rfl,_⟩:=h2;exact⟨rfl,rfl⟩
  |fnc=>rcases h1 with ⟨rfl,_⟩|⟨_,_,_,rfl,_⟩<;>rcases h2 with ⟨rfl,_⟩|⟨_,_,_,rfl,_⟩<;>exact⟨rfl,rfl⟩
  |ifc=>rcases h1 with ⟨rfl,_⟩|⟨_,_,rfl,_⟩<;>rcases h2 with ⟨rfl,_⟩|⟨_,_,rfl,_⟩<;>exact⟨rfl,rfl⟩
 rw[key.1,key.2,he];simp only[Sem.run_bind,h,Result.andThen_ok,Sem.run_pure,and_self]
theorem aeN{op:BinOp}{t ty:TypeId}{x y:Operand}{x' y':aQ}{k:u4}{neg b:Bool}(ho:o.op=.binOp op t x y ty)(hop:(op=.eql/\neg=false)\/(op=.neq/\neg=true))(hk:LH P t x y=some k)(hx:cG x=some x')(hy:cG y=some y')
  (hv:Cb k (ev ak x') (ev ak y')=some b):fM P w0 a.eval o m (.one (.p (.bool (if neg then !b else b)))) []:=by
 have h1:=eB hx hr;have h2:=eB hy hr;have hg:=ajv au hr (op:=op) hk hx hy hv;have he:=ajy au hr (Zq hk).1 hv h1 h2 9998;have hs:(∃p q,a.eval x=.bool p/\a.eval y=.bool q)\/(∃p q,a.eval x=.agg p/\a.eval y=.agg q)\/ ∃p q,BE k (a.eval x) p/\BE k (a.eval y) q:=by
  unfold Cb at hv;split at hv
  .rename_i e1 e2;rw[e1] at h1;rw[e2] at h2;exact .inl ⟨_,_,EY h1,EY h2⟩
  .rename_i e1 e2;rw[e1] at h1;rw[e2] at h2;obtain⟨A,e3,_⟩:=bU.agg.1 h1;obtain⟨B,e4,_⟩:=bU.agg.1 h2;exact .inr (.inl ⟨A,B,e3,e4⟩)
  .cases hv
  .cases hv
  split at hv
  .rename_i hb;exact .inr (.inr ⟨_,_,yq hv h1,yq hb h2⟩)
  split at hv
  .rename_i ha;exact .inr (.inr ⟨_,_,yq ha h1,yq hv h2⟩)
  cases hv
 obtain⟨r1,r2⟩:=ahT au hr hs he;rcases hop with ⟨rfl,rfl⟩|⟨rfl,rfl⟩
 .exact .calm au (by simp[execOp,ho,hg,r1]) (mx (.bool _))
 exact .calm au (by simp[execOp,ho,hg,r2]) (mx (.bool _))
end
end Go.Abs
namespace Go.Abs
variable {P:Program} {w0:World}
theorem ahZ:∀ {es:List (List PV)} {bs:List UInt8},bytesOf es=some bs->∃ns:List Int,es.flatten=ns.map (PV.int .u8)/\bs=ns.map (fun n=>UInt8.ofNat n.toNat)/\ns.length=es.length:=by
 intro es
 induction es with
 |nil=>intro bs h;simp[bytesOf] at h;exact⟨[],rfl,h,rfl⟩
 |cons e r ih=>
  intro bs h;unfold bytesOf at h;split at h
  .rename_i e';cases e'
  .rename_i n r' e';cases e';simp only[dx] at h;obtain⟨q,hq,rfl⟩:=h;obtain⟨ns,h1,h2,h3⟩:=ih hq;exact⟨n::ns,by simp[h1],by simp[h2],by simp[h3]⟩
  cases h
theorem aqc{w:World}{own:Nat->Prop}:∀ {ns:List Int} {vs:List Value},Pw (cD w own) (ns.map (PV.int .u8)) vs->vs=ns.map (Value.int .u8):=by
 intro ns
 induction ns with
 |nil=>intro vs h;have:=h.1;simp at this;simp[this]
 |cons n ns ih=>
  intro vs h;cases vs with
  |nil=>have:=h.1;simp at this
  |cons v vs=>have h0:=h.2 0 _ v rfl rfl;cases h0;rw[ih (vs:=vs) ⟨by have:=h.1;simpa using this,fun j x u a b=>h.2 (j+1) x u (by simpa using a) (by simpa using b)⟩];rfl
theorem ap7:∀(ns:List Int) (s:ByteArray),ns.foldl (fun r n=>r.push (UInt8.ofNat n.toNat)) s=⟨s.data++(ns.map (fun n=>UInt8.ofNat n.toNat)).toArray⟩:=by
 intro ns
 induction ns with
 |nil=>intro s;cases s;simp
 |cons n ns ih=>intro s;simp only[uY,fy];rw[ih];cases s;simp[ByteArray.push]
section
variable {m:Mem} {ak:Env} {a:Act} {o:Oper} (au:Ok w0 m) (hr:iO m ak a.tmps)
include au hr
theorem arc{s d e:TypeId}{x:Operand}{x':aQ}{es:List (List PV)}{r:List Nat}{bs:List UInt8}(ho:o.op=.convert s d x)(hs:P.underlying s=some (.slice e))(he:P.underlying e=some (.int .u8))(hd:P.underlying d=some .string)
  (hx:cG x=some x') (de:ed m.aj (ev ak x')=some (es,r,[])) (hb:bytesOf es=some bs):fM P w0 a.eval o m (.one (.p (.str ⟨bs.toArray⟩))) []:=by
 obtain⟨ns,h1,h2,h3⟩:=ahZ hb;obtain⟨ax,cx,wV,_,ym⟩:=Zj (own:=m.own) au de (eB hx hr) ⟨fun _ h=>h,fun _ h=>by simp at h⟩;refine .calm au (x:=.string ⟨bs.toArray⟩) ?_ (mx (.str _));have key:(Conv.bytesToString (.slice ax es.length cx)).run P m.w=.ok (.string ⟨bs.toArray⟩) m.w:=by
  by_cases aI:es=[]
  .subst aI;have:ns=[]:=by simpa using h3
   subst this;have te:bs=[]:=by simpa using h2
   subst te;cases ax with
   |none=>simp[Conv.bytesToString,Sem.run_pure];rfl
   |some ad=>have:=run_bytesToString (P:=P) m.w ad 0 cx [] (by simp[loadCells,loadCellsFrom,Sem.run_pure]);exact this
  obtain⟨b,off,news,rfl,kL,xZ⟩:=ym aI;rw[h1] at kL;have hn:=aqc kL;have hl:news.length=es.length:=by rw[hn];simpa using h3
  have alz:(loadCells ⟨b,off,none⟩ es.length).run P m.w=.ok (ns.map (Value.int .u8)).toArray m.w:=by rw[<- hl,<- hn];exact run_loadCells_list m.w ⟨b,off,none⟩ news fun j v hj=>by rw[Addr.add_lit];exact xZ j v hj
  rw[run_bytesToString m.w _ _ cx ns alz,ap7,h2];simp[ByteArray.empty,ByteArray.emptyWithCapacity];rfl
 simp only[execOp,ho,wV,Sem.run_bind,run_convert_bytes_string m.w s d e ax es.length cx hs he hd,key,Result.andThen_ok,Sem.run_pure]
end
end Go.Abs
namespace Go.Abs
variable {P:Program} {w0:World}
theorem Sy{xs:Array Operand}{a:aQ}(h:pY xs.toList=some [a]):∃x,xs= #[x]/\cG x=some a:=by
 obtain⟨xs⟩:=xs;cases xs with
 |nil=>simp[pY] at h
 |cons x r=>
  simp only[pY] at h;split at h
  .rename_i y ys e1 e2;cases h;cases r with
   |nil=>exact⟨x,rfl,e1⟩
   |cons z r=>simp only[pY] at e2;split at e2<;>simp at e2
  cases h
theorem Sz{xs:Array Operand}{a b:aQ}(h:pY xs.toList=some [a,b]):∃x y,xs= #[x,y]/\cG x=some a/\cG y=some b:=by
 obtain⟨xs⟩:=xs;cases xs with
 |nil=>simp[pY] at h
 |cons x r=>
  simp only[pY] at h;split at h
  .rename_i y ys e1 e2;cases h;obtain⟨z,hz,wW⟩:=Sy (xs:=r.toArray) (by simpa using e2);have:r=[z]:=by simpa using congrArg Array.toList hz
   subst this;exact⟨x,z,rfl,e1,wW⟩
  cases h
theorem atf{xs:Array TypeId}{t u:TypeId}(h1:xs[0]?=some t)(h2:xs[1]?=some u)(hs:xs.size=2):xs= #[t,u]:=by
 obtain⟨xs⟩:=xs
 match xs,hs with
 |[a,b],_=>simp at h1 h2;subst h1 h2;rfl
theorem akk{α:Type}{sz:Nat}{es ys:List (List α)}{off:Nat}(h:∀e∈es,e.length=sz)(hy:∀e∈ys,e.length=sz)(hl:off+ys.length<=es.length):(eV es off ys).flatten=eV es.flatten (off*sz) ys.flatten:=by
 have ht:∀k,k<=es.length->(es.take k).flatten.length=k*sz:=fun k hk=>by rw[Gh fun e he=>h e (xz he),gT,yO hk]
 have e1:es.flatten=(es.take off).flatten++(es.drop off).flatten:=by rw[<- DD,sQ]
 have e2:es.flatten=(es.take (off+ys.length)).flatten++(es.drop (off+ys.length)).flatten:=by rw[<- DD,sQ]
 unfold eV;rw[DD,DD,Gh hy];congr 1
 .congr 1
  conv=>rhs;rw[e1]
  rw[List.take_left' (ht off aa)]
 rw[<- fY]
 conv=>rhs;rw[e2]
 rw[List.drop_left' (ht _ hl)]
theorem atN{R:PV->Value->Prop}{z:List PV}{v:Array Value}{n:Nat}(hz:Pw R z v.toList):Pw R (List.replicate n z).flatten (Builtin.zeroCells v n).toList:=by
 have pJ:z.length=v.size:=by have:=hz.1;simp at this;omega
 have cV:∀e∈List.replicate n z,e.length=v.size:=fun e he=>by rw[RR he];exact pJ
 have hlen:(Builtin.zeroCells v n).toList.length=n*v.size:=by simp[size_zeroCells]
 refine⟨by rw[hlen,Gh cV];simp,fun j x u p q=>?_⟩;have hj:j<n*v.size:=by have:=(bg.1 q).1;omega
 have ju:0<v.size:=by
  rcases Nat.eq_zero_or_pos v.size with h|h
  .rw[h] at hj;omega
  exact h
 have hdiv:j/v.size<n:=by rw[Nat.div_lt_iff_lt_mul ju];exact hj
 have PJ:j%v.size<v.size:=ez _ ju;have he:(List.replicate n z)[j/v.size]?=some z:=by simp[hdiv]
 have h1:=Gg cV he PJ;rw[show j/v.size*v.size+j%v.size=j by rw[Sa];exact age j v.size] at h1;rw[h1] at p;have h2:(Builtin.zeroCells v n).toList[j]?=some v[j%v.size]! :=by unfold Builtin.zeroCells;simp[hj]
 rw[h2] at q;cases q;refine hz.2 (j%v.size) x _ p ?_;simp[PJ]
section
variable {m:Mem} {ak:Env} {a:Act} {o:Oper} (au:Ok w0 m) (hr:iO m ak a.tmps)
include au hr
theorem arh{c:Call}{x:Operand}{x':aQ}{t e:TypeId}{sz bytes:Nat}{z:List PV}{sh:Nat->Bool}{v:V}{u:List eX}{rd:List Nat}(ho:o.op=.call c)(hc:c.callee=.builtin .clear)(has:c.args= #[x])(j6:c.argTypes[0]?=some t)
  (he:AS P t=some (e,sz,bytes,z)) (hx:cG x=some x') (hp:bG sh ak m.aj (.clear z x')=.done v u rd):fM P w0 a.eval o m v u:=by
 obtain⟨i,zv,ht,hi,hs,hb,⟨ju,Gr⟩,wN,JA,pJ,dw⟩:=O2 he;have kM:=eB hx hr;have run:∀(y:Value) (w':World),(Builtin.clear_ c.argTypes o.type #[a.eval x]).run P m.w=.ok y w'->(execOp a.eval o).run P m.w=.ok (.value y) w':=by intro y w' h;simp[execOp,ho,resolve,hc,has,invoke,builtin,h]
 have quiet:(Builtin.clear_ c.argTypes o.type #[a.eval x]).run P m.w=.ok (.tuple #[]) m.w->fM P w0 a.eval o m (.tup []) []:=fun h=>
  ⟨.tuple #[],m,.inl (run _ _ h),au,Ev.refl _,rfl,rfl,(⟨#[],rfl,rfl,fun j x u h=>by simp at h⟩:bU m (.tup []) _)⟩
 simp only[bG] at hp;split at hp
 .rename_i hv;cases hp;rw[hv] at kM;have kM:cT m _ (a.eval x):=kM;generalize uG:a.eval x=b at kM;rw[uG] at quiet;apply quiet;cases kM with
  |p h=>cases h;simp[Builtin.clear_,j6,run_underlying ht]
 .rename_i hv;cases hp;rw[hv] at kM;have kM:cT m _ (a.eval x):=kM;generalize uG:a.eval x=b at kM;rw[uG] at quiet;apply quiet;cases kM with
  |p h=>
   cases h with
   |yE a cap hn hm=>cases a<;>simp[Builtin.clear_,j6,run_underlying ht]
   |sl b o cap sz f h1 h2 h3 h4=>simp[Builtin.clear_,j6,run_underlying ht]
 .rename_i id g w off len hv;rw[hv] at kM;have kM:cT m _ (a.eval x):=kM;generalize uG:a.eval x=b at kM;rw[uG] at quiet run;cases kM with
  |hsl ad cap hg hl hm nj=>
   split at hp
   .rename_i h0;cases hp;subst h0;apply quiet;simp[Builtin.clear_,j6,run_underlying ht]
   rename_i h0;split at hp
   .rename_i g' ty ch es lf;split at hp
    .rename_i Gt;obtain⟨iB,cA,hfit⟩:=Gt;cases hp;have aT:(m.aj id).2=some (.arr ty ch es):=by rw[lf]
     obtain⟨_,nj,_⟩:=nj ch (by rw[lf];exact iB) (by rw[lf];rfl);have nj:=nj (.inr aa);subst nj;obtain⟨cur,hh,pG,uc,lk,wR,aaF,PQ⟩:=au.obj id _ aT;have Jy:∀e∈List.replicate len z,e.length=ch:=fun e he=>by rw[RR he];exact cA.symm
     have amj:zv.cells.size=ch:=by rw[JA,<- pJ,cA]
     have Jz:(List.replicate len z).length=len:=WT;have uI:=akk (off:=off) uc Jy (by rw[Jz];exact hfit);have r6:(off+len)*ch<=es.length*ch:=lY _ hfit;have aaM:es.length*ch<=m.κ id*ch:=lY _ lk;rw[fY] at r6;generalize hZ:(Builtin.zeroCells zv.cells len).toList=Z;have hZl:Z.length=len*ch:=by rw[<- hZ];simp[size_zeroCells,amj]
     have hZp:∀w own,dd w own (List.replicate len z).flatten Z:=fun w own=>dd.pw.2 (by rw[<- hZ];exact atN (dd.pw.1 (dw w own)));have PN:∀v∈Z,v.oneCell'=true:=fun v hv=>by
      obtain⟨j,hj⟩:=jd hv;have aq:j<(List.replicate len z).flatten.length:=by rw[<- (hZp m.w m.own).1];exact(bg.1 hj).1
      exact((hZp m.w m.own).2 j _ v (oJ aq) hj).Np
     have A2:off*ch+0+Z.length<=cur.size:=by rw[hZl,aaF];omega
     have cM:=run_storeCells_at P (m.σ id) (off*ch) ty Z 0 cur m.w hh A2 PN;simp only[xA] at cM;generalize hW:m.w.setRow (m.σ id) (cur.toList.take (off*ch)++Z++cur.toList.drop (off*ch+Z.length)).toArray=W at cM;have Es:W.heap.size=m.w.heap.size:=by rw[<- hW];simp
     have Er:∀c,c≠m.σ id->W.heap[c]?=m.w.heap[c]? :=fun c hc=>by rw[<- hW];exact setRow_other m.w (m.σ id) c _ hc
     have aa3:(eV es off (List.replicate len z)).length=es.length:=Re (by rw[Jz];exact hfit);have dR:=NJ (w':=W) (o:=.arr ty ch (eV es off (List.replicate len z))) aT rfl (by simp[kD]) (by rw[<- hW];rfl) (by rw[<- hW];rfl) (by rw[<- hW];rfl) Es Er;have CH:tH (m.jZ W id (.arr ty ch (eV es off (List.replicate len z)))) id (.arr ty ch (eV es off (List.replicate len z))):=by
      refine⟨_,by rw[<- hW];exact NK hh,pG,?_,by rw[aa3];exact lk,wR,?_,?_⟩
      .intro e' Gw;unfold eV at Gw;simp only[dZ] at Gw;rcases Gw with (h|h)|h
       .exact uc e' (xz h)
       .exact Jy e' h
       exact uc e' (vT h)
      .simp[Mem.jZ];omega
      rw[aa3,uI];have h1:=(dd.pw.1 (PQ.ev dR.zero)).eV (dd.pw.1 (hZp (m.jZ W id (.arr ty ch (eV es off (List.replicate len z)))).w (m.jZ W id (.arr ty ch (eV es off (List.replicate len z)))).own)) (off*ch);rw[<- ae8 aa (by simp;omega)] at h1;have h1:=dd.pw.2 h1
      simpa [eV] using h1
     refine⟨.tuple #[],m.jZ W id (.arr ty ch (eV es off (List.replicate len z))),.inl (run _ _ ?_),Q0 aT rfl au (by simp[kD]) (by rw[<- hW];rfl) (by rw[<- hW];rfl) (by rw[<- hW];rfl) Es Er CH,dR,rfl,?_,(⟨#[],rfl,rfl,fun j x u h=>by simp at h⟩:bU _ (.tup []) _)⟩
     .obtain⟨k,rfl⟩:∃k,len=k+1:=⟨len-1,aa⟩;simp[Builtin.clear_,j6,run_underlying ht,zeroValue,typeInfo,hi,wN,hZ,cM,Mem.jZ]
     simp[Mem.jZ,app,lf,iB]
    cases hp
   cases hp
 cases hp
end
section
variable {m:Mem} {ak:Env} {a:Act} {o:Oper} (au:Ok w0 m) (hr:iO m ak a.tmps)
include au hr
theorem acV{t kt e:TypeId}{x k y:Operand}{x' k' y':aQ}{kd:Nat}{ag:Bool}{sh:Nat->Bool}{v:V}{u:List eX}{rd:List Nat}(ho:o.op=.mapUpdate t x k y\/o.op=.insert t x k y)(ht:P.underlying t=some (.map kt e))
  (A5:keyOf P kt=some kd) (hx:cG x=some x') (hk:cG k=some k') (hy:cG y=some y') (hp:bG sh ak m.aj (.mupd kd ag x' k' y')=.done v u rd):fM P w0 a.eval o m v u:=by
 simp only[bG] at hp;split at hp
 .rename_i id g q cs e1 e2 e3;split at hp
  .rename_i g' rS es ps e4 e5;split at hp
   .rename_i qZ;obtain⟨rfl,rfl,hq⟩:=qZ;split at hp
    .rename_i i w hf;cases hp;exact aeP au hr ho ht A5 hx hk hy e1 e4 e2 hq e3 e5 hf
    .rename_i hf;cases hp;exact aeP au hr ho ht A5 hx hk hy e1 e4 e2 hq e3 e5 hf
    cases hp
   cases hp
  cases hp
 cases hp
theorem aoI{site:Nat}{sh:Nat->Bool}{p:mU}{v:V}{u:List eX}{rd:List Nat}(hc:F7 P site o=some p)(hp:bG sh ak m.aj p=.done v u rd):fM P w0 a.eval o m v u:=by
 unfold F7 at hc;split at hc
 · -- move
  rename_i x ho;simp only[dx] at hc;obtain⟨y,h1,rfl⟩:=hc;cases hp;exact aeO au hr (.inl ho) h1
 · -- assign
  rename_i x ho;simp only[dx] at hc;obtain⟨y,h1,rfl⟩:=hc;cases hp;exact aeO au hr (.inr ho) h1
 · -- pick
  rename_i c x y ho;split at hc
  .rename_i c' x' y' h1 h2 h3;cases hc;simp only[bG] at hp;split at hp
   .rename_i t ht;cases hp;exact arB au hr ho h1 h2 h3 ht
   cases hp
  cases hc
 · -- alloc
  rename_i t ho;simp only[dx] at hc;obtain⟨z,h1,rfl⟩:=hc;cases hp;exact aq7 au ho h1
 · -- box
  rename_i t x ho;simp only[dx] at hc;obtain⟨z,h1,rfl⟩:=hc;simp only[bG] at hp;split at hp
  .rename_i cs cX;cases hp;exact ara au hr ho h1 cX
  cases hp
 · -- build
  rename_i t ps ho;split at hc
  .rename_i fs z h1 h2;split at hc
   .rename_i cV;simp only[dx] at hc;obtain⟨qs,h3,rfl⟩:=hc;simp only[bG] at hp;split at hp
    .rename_i rs hrs;cases hp;exact arf au hr ho h1 h2 cV h3 hrs
    cases hp
   cases hc
  .rename_i n e z h1 h2;split at hc
   .rename_i i hi;simp only[dx] at hc;obtain⟨qs,h3,rfl⟩:=hc;simp only[bG] at hp;split at hp
    .rename_i rs hrs;cases hp;exact ard au hr ho h1 h2 hi h3 hrs
    cases hp
   cases hc
  cases hc
 · -- buildSlice
  rename_i t n ps ho;split at hc
  .rename_i e sz bytes z as h1 h2;split at hc
   .rename_i qZ;cases hc;simp only[bG] at hp;split at hp
    .rename_i es kA;obtain⟨g1,g2⟩:=arb (s:=site) au hr ho h1 h2 qZ.1 qZ.2 kA;split at hp
     .rename_i qs hqs;cases hp;exact g1 qs hqs
     cases hp;exact g2
    cases hp
   cases hc
  cases hc
 · -- load
  rename_i t x ho;split at hc
  .rename_i k y h1 h2;cases hc;simp only[bG] at hp;split at hp
   .rename_i cs r cX;split at hp
    .rename_i v' hv;cases hp;exact arp au hr ho h1 h2 cX hv
    cases hp
   cases hp
  cases hc
 · -- store
  rename_i t x y ho;split at hc
  .rename_i n x' y' h1 h2 h3;cases hc;simp only[bG] at hp;split at hp
   .rename_i cs cX;exact arG au hr ho h1 h2 h3 cX hp
   cases hp
  cases hc
 · -- nilCheck
  rename_i x ho;simp only[dx] at hc;obtain⟨y,h1,rfl⟩:=hc;have hu:u=[]/\rd=[]:=by simp only[bG] at hp;split at hp<;>cases hp<;>exact⟨rfl,rfl⟩
  obtain⟨rfl,rfl⟩:=hu;exact arz au hr ho h1 hp
 · -- binOp
  rename_i op t x y ty ho;split at hc
  .rename_i x' y' h1 h2;have aaC:∀(op':BinOp),p=.bin op' x' y'->op'=op->fM P w0 a.eval o m v u:=by
    intro op' e1 e2;subst e1 e2;simp only[bG] at hp;split at hp
    .rename_i v' hv;cases hp;exact aq9 au hr ho h1 h2 hv
    cases hp
   split at hc
   .cases hc;exact aaC _ rfl rfl
   .cases hc;exact aaC _ rfl rfl
   split at hc
   .rename_i k hk;cases hc;simp only[bG] at hp;split at hp
    .rename_i b hb;cases hp;exact aeN au hr (neg:=false) ho (.inl ⟨rfl,rfl⟩) hk h1 h2 hb
    cases hp
   .rename_i k hk;cases hc;simp only[bG] at hp;split at hp
    .rename_i b hb;cases hp;exact aeN au hr (neg:=true) ho (.inr ⟨rfl,rfl⟩) hk h1 h2 hb
    cases hp
   cases hc
  cases hc
 · -- unOp
  rename_i op t x ho;split at hc
  .simp only[dx] at hc;obtain⟨y,h1,rfl⟩:=hc;simp only[bG] at hp;split at hp
   .rename_i b e1 e2;cases hp;exact arA au hr ho h1 e2
   .rename_i e1 e2;cases e1
   cases hp
  .simp only[dx] at hc;obtain⟨y,h1,rfl⟩:=hc;simp only[bG] at hp;split at hp
   .rename_i e1 e2;cases e1
   .rename_i k n e1 e2;cases hp;exact ary au hr ho h1 e2
   cases hp
  cases hc
 · -- convert
  rename_i s d x ho;split at hc
  .rename_i ks k y h1 h2 h3;cases hc;simp only[bG] at hp;split at hp
   .rename_i k0 n hn;cases hp;exact ari au hr ho h1 h2 h3 hn
   cases hp
  .rename_i e y h1 h2 h3;split at hc
   .rename_i he;cases hc;simp only[bG] at hp;split at hp
    .rename_i es r kA;split at hp
     .rename_i bs nO;cases hp;exact arc au hr ho h1 he h2 h3 kA nO
     cases hp
    cases hp
   cases hc
  cases hc
 · -- makeFunc
  rename_i f x y ho;split at hc
  .rename_i x' y' h1 h2;cases hc;simp only[bG] at hp;split at hp
   .rename_i cs ds e1 e2;cases hp;exact aru au hr ho h1 h2 e1 e2
   cases hp
  cases hc
 · -- makeMap
  rename_i t ho;split at hc
  .simp only[dx] at hc;obtain⟨k,h1,rfl⟩:=hc;cases hp;exact arv (kt:=t) (t:=t) (e:=t) au ho
  cases hc
 · -- makeSlice
  rename_i t l c ho;split at hc
  .rename_i e sz bytes z l' c' h1 h2 h3;cases hc;simp only[bG] at hp;split at hp
   .rename_i n n' e1 e2;split at hp
    .rename_i qZ;obtain⟨rfl,j9⟩:=qZ;cases hp;exact arw au hr ho h1 h2 h3 e1 e2 j9
    cases hp
   cases hp
  cases hc
 · -- slice
  rename_i t x lo hi ho;split at hc
  .rename_i x' CY zA h1 h2 h3;split at hc
   .rename_i e ht;simp only[dx] at hc;obtain⟨sz,h4,rfl⟩:=hc;simp only[bG] at hp;split at hp
    .rename_i n hn;split at hp
     .rename_i l h e1 e2;have hu:u=[]/\rd=[]:=by
       unfold Dj at hp;repeat' split at hp
       all_goals first
        |cases hp
        |skip
       all_goals exact⟨rfl,rfl⟩
      obtain⟨rfl,rfl⟩:=hu;exact arE au hr ho ht h4 h1 h2 h3 hn e1 e2 hp
     cases hp
    cases hp
   .rename_i ht;cases hc;simp only[bG] at hp;split at hp
    .rename_i s hs;split at hp
     .rename_i l h e1 e2;split at hp
      .rename_i qZ;cases hp;exact arF au hr ho ht h1 h2 h3 hs e1 e2 qZ.1 qZ.2
      cases hp
     cases hp
    cases hp
   cases hc
  cases hc
 · -- fieldAddr
  rename_i s x f ho;split at hc
  .rename_i fs y h1 h2;split at hc
   .rename_i d hd;split at hc
    .rename_i hz;cases hc;have hu:u=[]/\rd=[]:=by
      simp only[bG] at hp;split at hp<;>cases hp<;>exact⟨rfl,rfl⟩
     obtain⟨rfl,rfl⟩:=hu;exact ark au hr ho h1 hd hz h2 hp
    cases hc
   cases hc
  cases hc
 · -- field
  rename_i t x f ho;split at hc
  .rename_i fs y h1 h2;split at hc
   .rename_i d hd;simp only[dx] at hc;obtain⟨k,h3,rfl⟩:=hc;simp only[bG] at hp;split at hp
    .rename_i cs cX;split at hp
     .rename_i v' hv;cases hp;exact arl au hr ho h1 hd h3 h2 cX hv
     cases hp
    cases hp
   cases hc
  cases hc
 · -- indexAddr
  rename_i t x i ho;split at hc
  .rename_i x' i' h1 h2;split at hc
   .rename_i e ht;simp only[dx] at hc;obtain⟨sz,h3,rfl⟩:=hc;have hu:u=[]/\rd=[]:=by
     simp only[bG] at hp;repeat' split at hp
     all_goals first
      |cases hp
      |skip
     all_goals exact⟨rfl,rfl⟩
    obtain⟨rfl,rfl⟩:=hu;exact arn au hr ho ht h3 h1 h2 hp
   .rename_i n e ht;simp only[dx] at hc;obtain⟨sz,h3,rfl⟩:=hc;have hu:u=[]/\rd=[]:=by
     simp only[bG] at hp;repeat' split at hp
     all_goals first
      |cases hp
      |skip
     all_goals exact⟨rfl,rfl⟩
    obtain⟨rfl,rfl⟩:=hu;exact aq5 au hr ho ht h3 h1 h2 hp
   cases hc
  cases hc
 · -- index
  rename_i t x i ho;split at hc
  .rename_i x' i' h1 h2;split at hc
   .rename_i n e ht;split at hc
    .rename_i sz k h3 h4;cases hc;simp only[bG] at hp;split at hp
     .rename_i n' cs e1 e2;split at hp
      .rename_i aq;split at hp
       .rename_i v' hv;cases hp;exact aq6 au hr ho ht h3 h4 h1 h2 e1 aq e2 hv
       cases hp
      cases hp
     cases hp
    cases hc
   .rename_i ht;cases hc;simp only[bG] at hp;split at hp
    .rename_i n s e1 e2;split at hp
     .rename_i b hb;cases hp;exact arC au hr ho ht h1 h2 e1 e2 hb
     cases hp
    cases hp
   cases hc
  cases hc
 · -- lookup
  rename_i t x k ok ho;split at hc
  .rename_i kt e x' k' h1 h2 h3;split at hc
   .rename_i z q h4 h5;split at hc
    .rename_i kd h6;split at hc
     .rename_i h7;cases hc;simp only[bG] at hp;split at hp
      .rename_i es r key e1 e2;split at hp
       .cases hp
       rename_i A5;split at hp
       .rename_i f hf;split at hp
        .rename_i w hw;cases hp;exact arq au hr ho h1 h4 h6 h7 h2 h3 e1 e2 (Classical.not_not.1 A5) hf hw
        cases hp
       cases hp
      cases hp
     cases hc
    cases hc
   cases hc
  cases hc
 · -- mapUpdate
  rename_i t x k y ho;split at hc
  .rename_i kt e x' k' y' h1 h2 h3 h4;split at hc
   .rename_i q h5;simp only[dx] at hc;obtain⟨kd,h6,rfl⟩:=hc;exact acV au hr (.inl ho) h1 h6 h2 h3 h4 hp
   cases hc
  cases hc
 · -- insert
  rename_i t x k y ho;split at hc
  .rename_i kt e x' k' y' h1 h2 h3 h4;split at hc
   .rename_i q h5;simp only[dx] at hc;obtain⟨kd,h6,rfl⟩:=hc;exact acV au hr (.inr ho) h1 h6 h2 h3 h4 hp
   cases hc
  cases hc
 · -- extract
  rename_i x i ho;simp only[dx] at hc;obtain⟨y,h1,rfl⟩:=hc;simp only[bG] at hp;split at hp
  .rename_i vs ry;split at hp
   .rename_i v' hv;cases hp;exact arj au hr ho h1 ry hv
   cases hp
  cases hp
 · -- call
  rename_i c ho;split at hc
  .rename_i f as h1 h2;simp only[dx] at hc;obtain⟨y,h3,rfl⟩:=hc;simp only[bG] at hp;repeat' split at hp
   all_goals cases hp
  .rename_i x h1 h2;obtain⟨x0,nA,rz⟩:=Sy h2;split at hc
   .rename_i t ht;split at hc
    .rename_i hu;cases hc;simp only[bG] at hp;split at hp
     .rename_i s hs;cases hp;exact arD au hr ho h1 nA ht hu rz hs
     cases hp
    .rename_i e hu;cases hc;simp only[bG] at hp;split at hp
     .rename_i n hn;cases hp;exact aro au hr ho h1 nA ht hu rz hn
     cases hp
    .rename_i k e hu;cases hc;simp only[bG] at hp;split at hp
     .rename_i n r hn;cases hp;exact arx au hr ho h1 nA ht hu rz hn
     cases hp
    cases hc
   cases hc
  .rename_i x y h1 h2;obtain⟨x0,y0,nA,rz,wU⟩:=Sz h2;split at hc
   .rename_i t u' ht hu;split at hc
    .rename_i e sz bytes z he;split at hc
     .rename_i qZ;cases hc;obtain⟨rfl,cA⟩:=qZ;exact aq8 au hr ho h1 nA (atf ht hu cA) he rz wU hp
     cases hc
    cases hc
   cases hc
  .rename_i x y h1 h2;obtain⟨x0,y0,nA,rz,wU⟩:=Sz h2;cases hc;simp only[bG] at hp;split at hp
   .rename_i k p k' q e1 e2;cases hp;exact ars au hr ho h1 nA rz wU e1 e2
   cases hp
  .rename_i x y h1 h2;obtain⟨x0,y0,nA,rz,wU⟩:=Sz h2;cases hc;simp only[bG] at hp;split at hp
   .rename_i k p k' q e1 e2;cases hp;exact art au hr ho h1 nA rz wU e1 e2
   cases hp
  .rename_i x h1 h2;obtain⟨x0,nA,rz⟩:=Sy h2;split at hc
   .rename_i t ht;simp only[dx] at hc;obtain⟨⟨e,sz,bytes,z⟩,h3,rfl⟩:=hc;exact arh au hr ho h1 nA ht h3 rz hp
   cases hc
  cases hc
 cases hc
end
end Go.Abs
namespace Go.Abs
variable {P:Program} {w0:World}
section
variable{m:Mem}{cs:List C}
def ago(w:World)(Q:Nat->Prop)(ty sz:Nat)(es:List (List PV))(c:Nat)(v:Value):Prop:=∃cap cur,v=.slice (some ⟨c,0,none⟩) es.length cap/\w.heap[c]?=some (.cells cur ty (0,0))/\0<sz/\(∀e∈es,e.length=sz)/\es.length<=cap/\cap<=maxLen/\cur.size=cap*sz/\dd w Q es.flatten (cur.toList.take (es.length*sz))
def rR(w:World)(Q:Nat->Prop):List RC->List Value->List Nat->Prop
 |[],vs,bs=>vs=[]/\bs=[]
 | .p x::r,vs,bs=>∃v mQ,vs=v::mQ/\cD w Q x v/\rR w Q r mQ bs
 | .own ty sz es::r,vs,bs=>∃v mQ c v8,vs=v::mQ/\bs=c::v8/\ago w Q ty sz es c v/\rR w Q r mQ v8
theorem rR.mono{w w':World}{Q Q':Nat->Prop}(hk:∀c,c<w.heap.size-> ¬Q c->w'.heap[c]?=w.heap[c]? /\ ¬Q' c):∀ {rs:List RC} {vs:List Value} {bs:List Nat},(∀c∈bs,w'.heap[c]?=w.heap[c]?)->rR w Q rs vs bs->rR w' Q' rs vs bs:=by
 intro rs
 induction rs with
 |nil=>intro vs bs _ h;exact h
 |cons r rs ih=>
  intro vs bs hb h;cases r with
  |p x=>obtain⟨v,mQ,rfl,h1,h2⟩:=h;exact⟨v,mQ,rfl,h1.mono hk,ih hb h2⟩
  |own ty sz es=>obtain⟨v,mQ,c,v8,rfl,rfl,⟨cap,cur,e1,e2,e3,e4,e5,e6,e7,e8⟩,h2⟩:=h;exact⟨v,mQ,c,v8,rfl,rfl,⟨cap,cur,e1,by rw[hb c af];exact e2,e3,e4,e5,e6,e7,e8.mono hk⟩,ih (fun c hc=>hb c (by simp[hc])) h2⟩
theorem rR.less{w:World}{Q Q':Nat->Prop}(h:∀b,Q' b->Q b){rs:List RC}{vs:List Value}{bs:List Nat}(hr:rR w Q rs vs bs):rR w Q' rs vs bs:=hr.mono (fun c _ hn=>⟨rfl,fun hq=>hn (h c hq)⟩) (fun _ _=>rfl)
theorem arT(au:Ok w0 m){Q:Nat->Prop}(hQ:∀b,Q b->m.own b){c:C}{x:PV}{q:List Nat}{v:Value}(h:snap m.aj ik c=some (x,q))(hr:cT m c v)(hs:∀id∈q,¬Q (m.σ id)):cD m.w Q x v:=Km au ik h hr ⟨hQ,hs⟩
theorem adA(au:Ok w0 m){Q:Nat->Prop}(hQ:∀b,Q b->m.own b):∀ {cs:List C} {rs:List RC} {o q:List Nat} {vs:List Value},kh m.aj cs=some (rs,o,q)->df m cs vs->(∀id∈q,¬Q (m.σ id))->
  rR m.w Q rs vs (o.map m.σ)/\ ∀id∈o,∃ob,(m.aj id).2=some ob/\ob.fK=true:=by
 intro cs
 induction cs with
 |nil=>
  intro rs o q vs h hr _;simp only[kh,fL,kn] at h;obtain⟨rfl,rfl,rfl⟩:=h;have:vs=[]:=by have:=hr.1;simpa using this
  exact⟨⟨this,rfl⟩,fun id h=>by simp at h⟩
 |cons c cs ih=>
  intro rs o q vs h hr hq;simp only[kh] at h;split at h
  .rename_i x o1 q1 xs os qs h1 h2;cases h;cases vs with
   |nil=>simp[df] at hr
   |cons v vs=>
    obtain⟨i1,i2⟩:=ih (vs:=vs) h2 ⟨by have:=hr.1;simpa using this,fun j x u a b=>hr.2 (j+1) x u (by simpa using a) (by simpa using b)⟩ (fun id hid=>hq id (by simp[hid]));have hc:cT m c v:=hr.2 0 c v rfl rfl;have snapcase:∀ {y:PV},(snap m.aj ik c).map (fun(v,r)=>((.p v:RC),([]:List Nat),r))=some (x,o1,q1)->rR m.w Q (x::xs) (v::vs) ((o1++os).map m.σ)/\ ∀id∈o1++os,∃ob,(m.aj id).2=some ob/\ob.fK=true:=by intro _ h1;simp only[dx] at h1;obtain⟨⟨y,r⟩,h3,h4⟩:=h1;cases h4;exact⟨⟨v,vs,rfl,arT au hQ h3 hc (fun id hid=>hq id (by simp[hid])),i1⟩,i2⟩
    unfold gQ at h1;split at h1
    .rename_i y;cases h1;have hy:cD m.w m.own y v:=by cases hc with|p h=>exact h
     exact⟨⟨v,vs,rfl,hy.less hQ,i1⟩,i2⟩
    .rename_i id g z len;split at h1
     .rename_i g' ty sz es hb;split at h1
      .rename_i qZ;obtain⟨rfl,hlen⟩:=qZ;cases h1;have hbo:(m.aj id).2=some (.arr ty sz es):=by rw[hb]
       obtain⟨cur,hh,ju,cA,hl,CG,cX,dw⟩:=au.obj id _ hbo;cases hc with
       |hsl ad cap hg tj Jm GC=>
        obtain⟨f1,f2,f3⟩:=GC sz (by rw[hb]) (by rw[hb];rfl);have nj:=f2 (.inl rfl);have lh:cap=m.κ id:=by rw[<- f3,jm]
        rw[Ay] at nj;subst nj;subst lh;have aq:(es.take len).length=len:=by simp;omega
        refine⟨⟨_,vs,m.σ id,os.map m.σ,rfl,rfl,⟨m.κ id,cur,by rw[aq],hh,ju,fun e he=>cA e (xz he),by rw[aq];exact tj,CG,cX,?_⟩,i1⟩,?_⟩
        .rw[aq,IP cA];have h1:=(dd.pw.1 dw).take (len*sz);rw[HT,yO (lY _ hlen)] at h1;exact(dd.pw.2 h1).less hQ
        intro j hj;simp only[oI,nH,cI] at hj;rcases hj with rfl|hj
        .exact⟨_,hbo,rfl⟩
        exact i2 j hj
      cases h1
     exact snapcase (y:=.uR) h1
    exact snapcase (y:=.uR) h1
  cases h
theorem abg:∀(rs:List RC) (site:Nat) (b b':aw),(∀s,site<=s->(b s).1=(b' s).1)->jH b site rs=jH b' site rs:=by
 intro rs
 induction rs with
 |nil=>intro site b b' _;rfl
 |cons r rs ih=>
  intro site b b' h;have h1:dF b site r=dF b' site r:=by
   cases r with
   |p x=>rfl
   |own ty sz es=>simp only[dF,h site (bJ _)]
  simp only[jH,h1,ih (site+1) b b' (fun s hs=>h s aa)]
theorem amH{s c k:Nat}{o:Ob}(hc:m.fr c):uw m (m.install s c k o) where
 own x _ hn:=⟨rfl,fun h=>hn (P9 hc h)⟩
 gen id:=by
  simp only[Mem.install,aN];split
  .rename_i e;subst e;exact Nat.le_succ _
  exact bJ _
 ref id hg hs:=by
  simp only[Mem.install,aN] at hg hs ⊢;split at hg
  .rename_i e;subst e;simp at hg
  rename_i e;simp only[ay e] at hs ⊢;exact⟨hs,trivial,trivial,trivial⟩
theorem uw.trans{a b c:Mem}(h:uw a b)(hs:a.w.heap.size<=b.w.heap.size)(k:uw b c):uw a c where
 own x hx hn:=by have h1:=h.own x hx hn;have h2:=k.own x (DJ hx hs) h1.2;exact⟨h2.1.trans h1.1,h2.2⟩
 gen id:=mD (h.gen id) (k.gen id)
 ref id he MQ:=by have h1:=h.gen id;have h2:=k.gen id;obtain⟨s1,e1,e2,e3⟩:=k.ref id aa MQ;obtain⟨s2,f1,f2,f3⟩:=h.ref id aa s1;exact⟨s2,e1.trans f1,e2.trans f2,e3.trans f3⟩
theorem amv{Nc:Mem}:∀ {rs:List RC} {vs:List Value} {bs:List Nat} {site:Nat} {m:Mem},Ok w0 m->rR m.w m.own rs vs bs->bs.Nodup->(∀c∈bs,m.fr c/\w0.heap.size<=c)->Ev Nc m->(∀c∈bs,Nc.w.heap.size<=c\/Nc.fK c)->
  ∃m',m'.w=m.w/\Ok w0 m'/\Ev Nc m'/\uw m m'/\(∀c,m'.fr c↔m.fr c/\c∉bs)/\m'.aj=app (jH m.aj site rs).2 m.aj/\df m' (jH m.aj site rs).1 vs:=by
 intro rs
 induction rs with
 |nil=>intro vs bs site m au h _ _ dR _;obtain⟨rfl,rfl⟩:=h;exact⟨m,rfl,au,dR,⟨fun c _ h=>⟨rfl,h⟩,fun _=>bJ _,fun _ _ h=>⟨h,rfl,rfl,rfl⟩⟩,fun c=>af,rfl,rfl,fun j x u h=>by simp[jH] at h⟩
 |cons r rs ih=>
  intro vs bs site m au h fj nO dR MA;have cons:∀ {m':Mem} {x:C} {xs:List C} {v:Value} {vs:List Value},cT m' x v->df m' xs vs->df m' (x::xs) (v::vs):=by
   intro m' x xs v vs h1 h2;refine⟨by simp[h2.1],fun j y u a b=>?_⟩;cases j with
   |zero=>simp at a b;subst a b;exact h1
   |succ j=>simp at a b;exact h2.2 j y u a b
  cases r with
  |p x=>obtain⟨v,mQ,rfl,h1,h2⟩:=h;obtain⟨m',e1,e2,e3,e4,e5,e6,e7⟩:=ih (site:=site+1) au h2 fj nO dR MA;exact⟨m',e1,e2,e3,e4,e5,by simpa [jH,dF] using e6,by simpa [jH,dF] using cons (cT.p (h1.ev e4)) e7⟩
  |own ty sz es=>
   obtain⟨v,mQ,c,v8,rfl,rfl,⟨cap,cur,q1,q2,q3,q4,q5,q6,q7,q8⟩,h2⟩:=h;have hfc:=(nO c af).1;have h0:=amH (s:=site) (k:=cap) (o:=.arr ty sz es) hfc;have hσ:(m.install site c cap (.arr ty sz es)).σ site=c:=by simp[Mem.install,aN]
   have hκ:(m.install site c cap (.arr ty sz es)).κ site=cap:=by simp[Mem.install,aN]
   have nz:Ok w0 (m.install site c cap (.arr ty sz es)):=P0 au hfc (nO c af).2
    ⟨cur,by rw[hσ];exact q2,q3,q4,by rw[hκ];exact q5,by rw[hκ];exact q6,by rw[hκ];exact q7,dd.ev h0 q8⟩
   have aaY:=nI.1 fj;obtain⟨m',e1,e2,e3,e4,e5,e6,e7⟩:=ih (site:=site+1) (m:=m.install site c cap (.arr ty sz es)) nz (h2.less fun b hb=>P9 hfc hb) aaY.2
    (fun d hd=>⟨⟨(nO d (by simp[hd])).1,fun e=>aaY.1 (e▸hd)⟩,(nO d (by simp[hd])).2⟩) (PZ dR hfc (MA c af)) (fun d hd=>MA d (by simp[hd]))
   have TV:jH (m.install site c cap (.arr ty sz es)).aj (site+1) rs=jH m.aj (site+1) rs:=abg _ _ _ _ fun s hs=>by simp only[Mem.install,aN];rw[ay aa]
   rw[TV] at e6 e7;refine⟨m',e1,e2,e3,h0.trans (bJ _) e4,fun d=>?_,?_,?_⟩
   .rw[e5 d];simp only[Mem.install,cI,Az];exact⟨fun⟨⟨a,b⟩,c⟩=>⟨a,b,c⟩,fun⟨a,b,c⟩=>⟨⟨a,b⟩,c⟩⟩
   .rw[e6];rfl
   refine cons ?_ e7;have:cT (m.install site c cap (.arr ty sz es)) (.hsl site ((m.aj site).1+1) sz 0 es.length) v:=by
    rw[q1];refine .hsl _ _ ?_ q5 q6 fun z h1 h2=>?_
    .simp[Mem.install,aN]
    have hz:kD ((m.install site c cap (.arr ty sz es)).aj site)=some sz:=by simp[Mem.install,aN,kD]
    rw[hz] at h2;cases h2;exact⟨rfl,fun _=>by rw[hσ,Ay],by rw[jm];exact hκ.symm⟩
   exact this.ev e4
def xC:RV->Value->List Value->Prop
 | .one _,v,vs=>vs=[v]
 | .agg l,v,vs=>v=.agg vs.toArray/\vs.length=l.length
 | .tup _,_,_=>False
def DM:List RV->List Value->List Value->Prop
 |[],us,vs=>us=[]/\vs=[]
 |r::rs,us,vs=>∃u NW a b,us=u::NW/\vs=a++b/\xC r u a/\DM rs NW b
def FV:RV->Value->List Value->Prop
 | .tup rs,v,vs=>∃arr,v=.tuple arr/\DM rs arr.toList vs
 |r,v,vs=>xC r v vs
theorem df.take{vs:List Value}(h:df m cs vs)(n:Nat):df m (cs.take n) (vs.take n):=df.pw.2 ((df.pw.1 h).take n)
theorem df.drop{vs:List Value}(h:df m cs vs)(n:Nat):df m (cs.drop n) (vs.drop n):=df.pw.2 ((df.pw.1 h).drop n)
theorem df.append{ds:List C}{vs us:List Value}(h:df m cs vs)(k:df m ds us):df m (cs++ds) (vs++us):=df.pw.2 ((df.pw.1 h).append (df.pw.1 k))
theorem df.single{c:C}{v:Value}(h:cT m c v):df m [c] [v]:=⟨rfl,fun j x u a b=>by
 rcases j with _|j
 .simp at a b;subst a b;exact h
 simp at a⟩
theorem ZT{v:V}{val:Value}(h:kI v=some cs)(hr:nJ m v val):
  ∃vs,df m cs vs/\ ∀(rs tl:List RC),rs.length=cs.length->(pQ v (rs++tl)).2=tl/\jq (pQ v (rs++tl)).1=rs/\xC (pQ v (rs++tl)).1 val vs:=by
 cases v with
 |undef=>simp[kI] at h
 |tup vs=>simp[kI] at h
 |one c=>
  simp only[kI,fL] at h;subst h;refine⟨[val],df.single hr,fun rs tl hl=>?_⟩
  match rs,hl with
  |[r],_=>exact⟨rfl,rfl,rfl⟩
 |agg ds=>
  simp only[kI,fL] at h;subst h;obtain⟨arr,rfl,hc⟩:=hr;refine⟨arr.toList,hc,fun rs tl hl=>?_⟩;have h1:(rs++tl).take ds.length=rs:=by rw[<- hl];exact KU
  have h2:(rs++tl).drop ds.length=tl:=by rw[<- hl];exact WM
  simp only[pQ,jq,xC,h1,h2,true_and];rw[hc.1,hl]
theorem akh:∀ {ws:List V} {cs:List C} {vals:List Value},tU ws=some cs->Pw (nJ m) ws vals->
  ∃vs,df m cs vs/\ ∀(rs:List RC),rs.length=cs.length->qV (Bp ws rs)=rs/\DM (Bp ws rs) vals vs:=by
 intro ws
 induction ws with
 |nil=>
  intro cs vals h hr;simp only[tU,fL] at h;subst h;have hv:vals=[]:=by have:=hr.1;simpa using this
  subst hv;refine⟨[],⟨rfl,fun j x u a=>by simp at a⟩,fun rs hl=>?_⟩;have:rs=[]:=by simpa using hl
  subst this;exact⟨rfl,rfl,rfl⟩
 |cons w ws ih=>
  intro cs vals h hr;simp only[tU] at h;split at h
  .rename_i a b h1 h2;cases h;cases vals with
   |nil=>have:=hr.1;simp at this
   |cons val vals=>
    obtain⟨vs1,jr,pI⟩:=ZT h1 (hr.2 0 w val rfl rfl);obtain⟨vs2,lS,iV⟩:=ih (vals:=vals) h2 ⟨by have:=hr.1;simpa using this,fun j x u p q=>hr.2 (j+1) x u (by simpa using p) (by simpa using q)⟩;refine⟨vs1++vs2,jr.append lS,fun rs hl=>?_⟩;have vt:rs.length=a.length+b.length:=by simpa using hl
    obtain⟨p1,p2,p3⟩:=pI (rs.take a.length) (rs.drop a.length) (by simp;omega);rw[sQ] at p1 p2 p3;obtain⟨q1,q2⟩:=iV (rs.drop a.length) (by simp;omega);simp only[Bp,qV,p1,p2,q1,DM];exact⟨sQ _ _,val,vals,vs1,vs2,rfl,rfl,p3,q2⟩
  cases h
theorem akg{v:V}{val:Value}(h:nL v=some cs)(hr:bU m v val):
  ∃vs,df m cs vs/\ ∀(rs:List RC),rs.length=cs.length->iR (sI v rs)=rs/\FV (sI v rs) val vs:=by
 have one:∀ {v:V},kI v=some cs->nJ m v val->(∀rs,sI v rs=(pQ v rs).1)->∃vs,df m cs vs/\ ∀(rs:List RC),rs.length=cs.length->iR (sI v rs)=rs/\FV (sI v rs) val vs:=by
  intro v h hr he;obtain⟨vs,h1,h2⟩:=ZT h hr;refine⟨vs,h1,fun rs hl=>?_⟩;obtain⟨_,p2,p3⟩:=h2 rs [] hl;rw[mR] at p2 p3;rw[he];generalize (pQ v rs).1=y at p2 p3;cases y with
  |tup _=>exact p3.elim
  |one c=>exact⟨p2,p3⟩
  |agg c=>exact⟨p2,p3⟩
 cases v with
 |tup ws=>obtain⟨arr,rfl,hs,hc⟩:=hr;obtain⟨vs,h1,h2⟩:=akh (m:=m) (vals:=arr.toList) h ⟨by simpa using hs,fun j x u a b=>hc j x u a (by simpa using b)⟩;exact⟨vs,h1,fun rs hl=>⟨(h2 rs hl).1,arr,rfl,(h2 rs hl).2⟩⟩
 |undef=>simp[nL,kI] at h
 |one c=>exact one h hr fun _=>rfl
 |agg c=>exact one h hr fun _=>rfl
theorem VP{r:RV}{val:Value}{a b:List Value}(hf:xC r val a)(hc:df m cs (a++b)):nJ m (oD r cs).1 val/\df m (oD r cs).2 b:=by
 cases r with
 |tup _=>exact hf.elim
 |one c=>
  have hf:a=[val]:=hf;subst hf;cases cs with
  |nil=>have:=hc.1;simp at this
  |cons x xs=>exact⟨hc.2 0 x val rfl rfl,by have:=hc.drop 1;simpa [oD] using this⟩
 |agg l=>
  obtain⟨rfl,hl⟩:=hf;refine⟨⟨_,rfl,?_⟩,?_⟩
  .have:=hc.take l.length;rw[<- hl,KU] at this
   simpa [oD,hl] using this
  have:=hc.drop l.length;rw[<- hl,WM] at this
  simpa [oD,hl] using this
theorem aqw:∀ {rs:List RV} {cs:List C} {us vs:List Value},DM rs us vs->df m cs vs->Pw (nJ m) (uV rs cs) us:=by
 intro rs
 induction rs with
 |nil=>intro cs us vs h _;obtain⟨rfl,rfl⟩:=h;exact⟨rfl,fun j x u a=>by simp[uV] at a⟩
 |cons r rs ih=>
  intro cs us vs h hc;obtain⟨u,NW,a,b,rfl,rfl,h1,h2⟩:=h;obtain⟨p1,p2⟩:=VP h1 hc;have p3:=ih h2 p2;refine⟨by simp[uV,p3.1],fun j x v q1 q2=>?_⟩;cases j with
  |zero=>simp[uV] at q1 q2;subst q1 q2;exact p1
  |succ j=>simp[uV] at q1 q2;exact p3.2 j x v q1 q2
theorem aqv{r:RV}{val:Value}{vs:List Value}(hf:FV r val vs)(hc:df m cs vs):bU m (ui r cs) val:=by
 cases r with
 |tup rs=>obtain⟨arr,rfl,h⟩:=hf;have:=aqw h hc;exact⟨arr,rfl,by simpa using this.1,fun j x u a b=>this.2 j x u a (by simpa using b)⟩
 |one c=>have:=(VP (b:=[]) (show xC (.one c) val vs from hf) (by simpa using hc)).1;exact bU.of1 this
 |agg c=>have:=(VP (b:=[]) (show xC (.agg c) val vs from hf) (by simpa using hc)).1;exact bU.of1 this
end
end Go.Abs
namespace Go.Abs
section
variable{b':aw}{site:Nat}{cs:jP}{sh:Ctx}{cp:fR}{ak:Env}
def iN(ids:List Nat)(b b':aw):Prop:=∀id∈ids,b' id=b id
def sV(ts:List Nat)(e e':Env):Prop:=∀t∈ts,e' t=e t
theorem iN.left{x y:List Nat}{b:aw}(h:iN (x++y) b b'):iN x b b':=fun i hi=>h i (by simp[hi])
theorem iN.right{x y:List Nat}{b:aw}(h:iN (x++y) b b'):iN y b b':=fun i hi=>h i (by simp[hi])
theorem sV.left{x y:List Nat}{b b':Env}(h:sV (x++y) b b'):sV x b b':=fun i hi=>h i (by simp[hi])
theorem sV.right{x y:List Nat}{b b':Env}(h:sV (x++y) b b'):sV y b b':=fun i hi=>h i (by simp[hi])
section
variable {e e':Env}
theorem fh{a:aQ}(h:sV a.tmps e e'):ev e' a=ev e a:=by
 cases a with
 |t n=>exact h n (by simp[aQ.tmps])
 |_=>rfl
theorem ajE:∀ {as:List aQ},sV (FJ as) e e'->as.map (ev e')=as.map (ev e):=by
 intro as
 induction as with
 |nil=>intro _;rfl
 |cons a r ih=>intro h;simp only[fy];rw[fh h.left,ih h.right]
theorem adw:∀ {as:List aQ},sV (FJ as) e e'->vI e' as=vI e as:=by
 intro as
 induction as with
 |nil=>intro _;rfl
 |cons a r ih=>intro h;simp only[vI];rw[fh h.left,ih h.right]
theorem ajm{sz:Nat}:∀ {as:List aQ},sV (FJ as) e e'->zh e' sz as=zh e sz as:=by
 intro as
 induction as with
 |nil=>intro _;rfl
 |cons a r ih=>intro h;simp only[zh];rw[fh h.left,ih h.right]
theorem aoY:∀ {as:List (Nat×Nat×aQ)},sV (Wm as) e e'->yA e' as=yA e as:=by
 intro as
 induction as with
 |nil=>intro _;rfl
 |cons a r ih=>intro h;obtain⟨x,y,a⟩:=a;simp only[yA];rw[fh h.left,ih h.right]
theorem OR{d:Nat}{a:Option aQ}(h:sV (Wl a) e e'):rT e' d a=rT e d a:=by
 cases a with
 |none=>rfl
 |some a=>simp only[rT];rw[fh h]
theorem akl{a:aQ}(h:sV a.tmps e e'):Eg e' a=Eg e a:=by unfold Eg;rw[fh h]
theorem VI{sh:Nat->Bool}{aj:aw}{p:mU}(h:sV p.tmps e e'):bG sh e' aj p=bG sh e aj p:=by
 cases p with
 |iY x=>simp only[bG,fh (a:=x) h]
 |pick c a b=>simp only[bG,fh (a:=c) h.left.left,fh (a:=a) h.left.right,fh (a:=b) h.right]
 |alloc s z=>rfl
 |box s x=>simp only[bG,fh (a:=x) h]
 |build z ps=>simp only[bG,aoY (as:=ps) h]
 |DS s ty sz ps=>simp only[bG,ajm (as:=ps) h]
 |load k x=>simp only[bG,fh (a:=x) h]
 |store n a x=>simp only[bG,fh (a:=a) h.left,fh (a:=x) h.right]
 |JS x=>simp only[bG,fh (a:=x) h]
 |bin op x y=>simp only[bG,fh (a:=x) h.left,fh (a:=y) h.right]
 |eqc k n x y=>simp only[bG,fh (a:=x) h.left,fh (a:=y) h.right]
 |un op x=>simp only[bG,fh (a:=x) h]
 |conv k x=>simp only[bG,fh (a:=x) h]
 |bstr x=>simp only[bG,fh (a:=x) h]
 |mkfn f a b=>simp only[bG,adw (as:=a) h.left,adw (as:=b) h.right]
 |mkmap s ag=>rfl
 |JM s ty sz bytes z l c=>simp only[bG,fh (a:=l) h.left,fh (a:=c) h.right]
 |slice sz x lo hi=>simp only[bG,fh (a:=x) h.left.left,OR (a:=lo) h.left.right,OR (a:=hi) h.right]
 |sslice x lo hi=>simp only[bG,fh (a:=x) h.left.left,OR (a:=lo) h.left.right,OR (a:=hi) h.right]
 |ng off x=>simp only[bG,fh (a:=x) h]
 |GZ sz x i=>simp only[bG,fh (a:=x) h.left,fh (a:=i) h.right]
 |Ic l sz x i=>simp only[bG,fh (a:=x) h.left,fh (a:=i) h.right]
 |fld off k x=>simp only[bG,fh (a:=x) h]
 |aidx l sz k x i=>simp only[bG,fh (a:=x) h.left,fh (a:=i) h.right]
 |sidx x i=>simp only[bG,fh (a:=x) h.left,fh (a:=i) h.right]
 |lookup kd z ag ok x k=>simp only[bG,fh (a:=x) h.left,fh (a:=k) h.right]
 |mupd kd ag m k v=>simp only[bG,fh (a:=m) h.left.left,fh (a:=k) h.left.right,fh (a:=v) h.right]
 |bad=>rfl
 |extract x i=>simp only[bG,fh (a:=x) h]
 |call s f as=>simp only[bG,akl (a:=f) h.left,ajE (as:=as) h.right]
 |slen x=>simp only[bG,fh (a:=x) h]
 |JJ x=>simp only[bG,fh (a:=x) h]
 |mlen x=>simp only[bG,fh (a:=x) h]
 |append s ty sz b x y=>simp only[bG,fh (a:=x) h.left,fh (a:=y) h.right]
 |max x y=>simp only[bG,fh (a:=x) h.left,fh (a:=y) h.right]
 |min x y=>simp only[bG,fh (a:=x) h.left,fh (a:=y) h.right]
 |clear z x=>simp only[bG,fh (a:=x) h]
end
section
variable {b b':aw}
theorem xI{α β:Type}{f g:α->Option (β×List Nat)}(hf:∀x y r,f x=some (y,r)->iN r b b'->g x=some (y,r)):∀ {xs:List α} {ys:List β} {r:List Nat},collect f xs=some (ys,r)->iN r b b'->collect g xs=some (ys,r):=by
 intro xs
 induction xs with
 |nil=>intro ys r h _;exact h
 |cons x xs ih=>
  intro ys r h ha;simp only[collect] at h ⊢;split at h
  .rename_i y p bs q e1 e2;cases h;rw[hf _ _ _ e1 ha.left,ih e2 ha.right]
  cases h
theorem NN:∀(n:Nat) (c:C) (x:PV) (r:List Nat),snap b n c=some (x,r)->iN r b b'->snap b' n c=some (x,r):=by
 intro n
 induction n with
 |zero=>intro c x r h;simp[snap] at h
 |succ n ih=>
  intro c x r h ha;cases c with
  |p v=>exact h
  |aX id g off=>
   have hid:id∈r:=by
    simp only[snap] at h
    (repeat' split at h)<;>first
     |cases h
     |skip
    all_goals simp
   have hb:=ha id hid;simp only[snap] at h ⊢;rw[hb];split at h
   .split at h
    .rename_i hg;rw[aD hg];split at h
     .rename_i hc;cases h;rw[xI ih hc (fun i hi=>ha i (by simp[hi]))]
     cases h
    cases h
   .exact h
   cases h
  |de id g i off=>
   have hid:id∈r:=by
    simp only[snap,dx] at h
    (repeat' split at h)<;>first
     |cases h
     |skip
    all_goals(simp only[dx] at h;obtain⟨e,_,h⟩:=h;cases h;simp)
   have hb:=ha id hid;simp only[snap] at h ⊢;rw[hb];exact h
  |hsl id g z off len=>
   have hid:id∈r:=by
    simp only[snap] at h
    (repeat' split at h)<;>first
     |cases h
     |skip
    all_goals simp
   have hb:=ha id hid;simp only[snap] at h ⊢;rw[hb];split at h
   .exact h
   .exact h
   .split at h
    .rename_i hg;rw[aD hg];split at h
     .rename_i hc;cases h;rw[xI (fun _ _ _ p q=>xI ih p q) hc (fun i hi=>ha i (by simp[hi]))]
     cases h
    cases h
   cases h
  |jW id g=>
   have hid:id∈r:=by
    simp only[snap] at h
    (repeat' split at h)<;>first
     |cases h
     |skip
    all_goals simp
   have hb:=ha id hid;simp only[snap] at h ⊢;rw[hb];exact h
  |hfn f x y=>
   simp only[snap] at h ⊢;split at h
   .rename_i h1 h2;cases h;rw[xI ih h1 ha.left,xI ih h2 ha.right]
   cases h
theorem arV(x y:V)(r:List Nat)(h:nG b x=some (y,r))(ha:iN r b b'):nG b' x=some (y,r):=by
 cases x with
 |undef=>simp[nG] at h
 |tup _=>simp[nG] at h
 |one c=>simp only[nG,dx] at h ⊢;obtain⟨⟨p,q⟩,h1,h2⟩:=h;cases h2;exact⟨_,NN _ _ _ _ h1 ha,rfl⟩
 |agg cs=>simp only[nG,dx] at h ⊢;obtain⟨⟨p,q⟩,h1,h2⟩:=h;cases h2;exact⟨_,xI (NN _) h1 ha,rfl⟩
theorem arX{xs ys:List V}{r:List Nat}(h:Bv b xs=some (ys,r))(ha:iN r b b'):Bv b' xs=some (ys,r):=xI arV h ha
theorem akr{all:List Nat}{id:Nat}{u:List eX}(h:xN b all id=some u)(hid:id∈all)(ha:iN all b b'):xN b' all id=some u:=by
 have hb:=ha id hid;unfold xN at h ⊢;rw[hb];split at h
 .split at h
  .rename_i ps r hc;split at h
   .rename_i hr;have qp:iN r b b':=fun i hi=>ha i (by have:=ir.1 hr i hi;simpa using this);rw[xI (NN _) hc qp];simp only;rw[aD hr];exact h
   cases h
  cases h
 .exact h
 .split at h
  .rename_i ps r hc;split at h
   .rename_i hr;have qp:iN r b b':=fun i hi=>ha i (by have:=ir.1 hr i hi;simpa using this);rw[xI (fun _ _ _ p q=>xI (NN _) p q) hc qp];simp only;rw[aD hr];exact h
   cases h
  cases h
 .exact h
 .cases h
 exact h
theorem aks{all:List Nat}(ha:iN all b b'):∀ {ids:List Nat} {u:List eX},(∀i∈ids,i∈all)->uD b all ids=some u->uD b' all ids=some u:=by
 intro ids
 induction ids with
 |nil=>intro u _ h;exact h
 |cons i r ih=>
  intro u hs h;simp only[uD] at h ⊢;split at h
  .rename_i x y h1 h2;cases h;rw[akr h1 (hs i af) ha,ih (fun j hj=>hs j (by simp[hj])) h2]
  cases h
theorem IV{ids:List Nat}{u:List eX}(h:s0 b ids=some u)(ha:iN ids b b'):s0 b' ids=some u:=aks ha (fun _ h=>h) h
theorem amt{r:RC}(h:iN ((dF b site r).2.map (·.1)) b b'):dF b' site r=dF b site r:=by
 cases r with
 |p x=>rfl
 |own ty sz es=>simp only[dF];rw[h site (by simp[dF])]
theorem amu:∀ {rs:List RC} {site:Nat},iN ((jH b site rs).2.map (·.1)) b b'->jH b' site rs=jH b site rs:=by
 intro rs
 induction rs with
 |nil=>intro site _;rfl
 |cons r rs ih=>intro site h;simp only[jH,rQ] at h ⊢;rw[amt h.left,ih h.right]
theorem abh{r:RV}(h:iN ((ji b site r).2.map (·.1)) b b'):ji b' site r=ji b site r:=by unfold ji at h ⊢;simp only at h;rw[amu h]
theorem ana{rd:List Nat}{r:RV}{v:V}{u:List eX}(h:land b rd site r=some (v,u))(ha:iN rd b b')(hu:iN (u.map (·.1)) b b'):land b' rd site r=some (v,u):=by
 unfold land at h ⊢;split at h
 .rename_i hc;rw[aD hc];cases h;rw[abh hu];rfl
 rename_i hc;rw[ay hc];split at h
 .rename_i fu hf;cases h;rw[IV hf ha];simp only;rw[rQ] at hu;rw[abh hu.right]
 cases h
theorem aee{x:V}{cs:List C}{r:List Nat}(h:Bn b x=some (cs,r))(ha:iN r b b'):Bn b' x=some (cs,r):=by
 have key:∀id,(id∈r->b' id=b id):=fun id hid=>ha id hid;unfold Bn at h ⊢;split at h
 .exact h
 .rename_i id g off;have hid:id∈r:=by
   (repeat' split at h)<;>first
    |cases h
    |skip
   all_goals simp
  simp only[key id hid];exact h
 .rename_i id g i off;have hid:id∈r:=by
   (repeat' split at h)<;>first
    |cases h
    |skip
   all_goals(simp only[dx] at h;obtain⟨e,_,h⟩:=h;cases h;simp)
  simp only[key id hid];exact h
 cases h
theorem ans{x:V}{n:Nat}{r:List Nat}(h:zU b x=some (n,r))(ha:iN r b b'):zU b' x=some (n,r):=by
 have key:∀id,(id∈r->b' id=b id):=fun id hid=>ha id hid;unfold zU at h ⊢;split at h
 .exact h
 .exact h
 .rename_i id g;have hid:id∈r:=by
   (repeat' split at h)<;>first
    |cases h
    |skip
   all_goals simp
  simp only[key id hid];exact h
 cases h
theorem an4{ag:Bool}{x:V}{es:List (PV×List PV)}{r:List Nat}(h:mapOf b ag x=some (es,r))(ha:iN r b b'):mapOf b' ag x=some (es,r):=by
 have key:∀id,(id∈r->b' id=b id):=fun id hid=>ha id hid;unfold mapOf at h ⊢;split at h
 .exact h
 .exact h
 .rename_i id g;have hid:id∈r:=by
   (repeat' split at h)<;>first
    |cases h
    |skip
   all_goals simp
  simp only[key id hid];exact h
 cases h
theorem II{x:V}{es:List (List PV)}{r fr:List Nat}(h:ed b x=some (es,r,fr))(ha:iN r b b')(hf:iN fr b b'):ed b' x=some (es,r,fr):=by
 have key:∀id,(id∈r->b' id=b id):=fun id hid=>ha id hid;unfold ed at h ⊢;split at h
 .exact h
 .exact h
 .rename_i id g z off len;have hid:id∈r:=by
   (repeat' split at h)<;>first
    |cases h
    |skip
   all_goals simp
  simp only[key id hid];split at h
  .exact h
  .exact h
  .split at h
   .rename_i hc;rw[aD hc];split at h
    .rename_i h1;cases h;rw[xI (fun _ _ _ p q=>xI (NN _) p q) h1 hf]
    cases h
   cases h
  exact h
 cases h
theorem atF{a:V}{n:Nat}{xs:List C}{v:V}{u:List eX}{r:List Nat}(h:Ap b a n xs=.done v u r)(ha:iN r b b'):Ap b' a n xs=.done v u r:=by
 have key:∀id,(id∈r->b' id=b id):=fun id hid=>ha id hid;unfold Ap at h ⊢;split at h
 .cases h
 rename_i hn;rw[ay hn];split at h
 .rename_i id g off;have hid:id∈r:=by
   (repeat' split at h)<;>first
    |cases h
    |skip
   all_goals simp
  simp only[key id hid];exact h
 .rename_i id g i off;have hid:id∈r:=by
   (repeat' split at h)<;>first
    |cases h
    |skip
   all_goals simp
  simp only[key id hid];exact h
 cases h
theorem ag9{ty sz bytes:Nat}{s x v:V}{u:List eX}{r:List Nat}(h:eF b site ty sz bytes s x=.done v u r)(ha:iN r b b'):eF b' site ty sz bytes s x=.done v u r:=by
 unfold eF at h ⊢;split at h
 .cases h
 rename_i new rd fr de;split at h
 .cases h
 rename_i cA;split at h
 .cases h
 rename_i fu ql;have sub:∀ {l:List Nat},(∀i∈l,i∈r)->iN l b b':=fun hl i hi=>ha i (hl i hi);split at h
 .split at h
  .rename_i hn;cases h;rw[II de ha.left ha.right];simp only;rw[ay cA,IV ql ha.right];simp only;rw[aD hn]
  rename_i hn;split at h
  .rename_i hr;cases h;rw[II de (sub fun i hi=>by simp[hi]) (sub fun i hi=>by simp[hi])];simp only;rw[ay cA,IV ql (sub fun i hi=>by simp[hi])];simp only;rw[ay hn,aD hr,ha site af]
  cases h
 .split at h
  .cases h
  rename_i hn;split at h
  .rename_i hr;cases h;rw[II de (sub fun i hi=>by simp[hi]) (sub fun i hi=>by simp[hi])];simp only;rw[ay cA,IV ql (sub fun i hi=>by simp[hi])];simp only;rw[ay hn,aD hr,ha site af]
  cases h
 .rename_i id g z len;split at h
  .rename_i g' jM ch es hb;split at h
   .rename_i hr;cases h;rw[II de (sub fun i hi=>by simp[hi]) (sub fun i hi=>by simp[hi])];simp only;rw[ay cA,IV ql (sub fun i hi=>by simp[hi])];simp only;have h1:=ha id af;rw[hb] at h1;simp only[h1];rw[aD hr,ha site af]
   cases h
  cases h
 .rename_i id g z off len aI;cases off with
  |zero=>exact(aI rfl).elim
  |succ off=>
  split at h
  .rename_i g' jM ch es hb;split at h
   .rename_i hr;cases h;rw[II de (sub fun i hi=>by simp[hi]) (sub fun i hi=>by simp[hi])];simp only;rw[ay cA,IV ql (sub fun i hi=>by simp[hi])];simp only;have h1:=ha id af;rw[hb] at h1;simp only[h1];rw[aD hr]
   cases h
  cases h
 cases h
end
theorem apt{sh:Nat->Bool}{e:Env}{b:aw}{p:mU}{v:V}{u:List eX}{r:List Nat}(h:bG sh e b p=.done v u r)(ha:iN r b b'):bG sh e b' p=.done v u r:=by
 cases p with
 |alloc s z=>simp only[bG,fq.done.injEq] at h ⊢;obtain⟨h1,h2,h3⟩:=h;rw[ha s (by rw[<- h3];simp)];exact⟨h1,h2,h3⟩
 |mkmap s ag=>simp only[bG,fq.done.injEq] at h ⊢;obtain⟨h1,h2,h3⟩:=h;rw[ha s (by rw[<- h3];simp)];exact⟨h1,h2,h3⟩
 |box s x=>
  simp only[bG] at h ⊢;split at h
  .cases h;rw[ha s af]
  cases h
 |DS s ty sz ps=>
  simp only[bG] at h ⊢;split at h
  .split at h
   .cases h;rw[ha s af]
   cases h;rw[ha s af]
  cases h
 |JM s ty sz bytes z l c=>
  simp only[bG] at h ⊢;split at h
  .split at h
   .rename_i hc;cases h;rw[aD hc,ha s af]
   cases h
  cases h
 |load k x=>
  simp only[bG] at h ⊢;split at h
  .rename_i cs q hq;split at h
   .rename_i v' hv;cases h;rw[aee hq ha];simp only[hv]
   cases h
  cases h
 |store n a x=>
  simp only[bG] at h ⊢;split at h
  .exact atF h ha
  cases h
 |bstr x=>
  simp only[bG] at h ⊢;split at h
  .rename_i es q hq;split at h
   .rename_i bs hb;cases h;rw[II hq ha (fun i hi=>by simp at hi)];simp only[hb]
   cases h
  cases h
 |lookup kd z ag ok x k=>
  simp only[bG] at h ⊢;split at h
  .rename_i es q key hm hk;split at h
   .cases h
   rename_i A5;split at h
   .rename_i f hf;split at h
    .rename_i w hw;cases h;rw[an4 hm ha,hk];simp only;rw[ay A5];simp only[hf,hw]
    cases h
   cases h
  cases h
 |clear z x=>
  simp only[bG] at h ⊢;split at h
  .cases h;rfl
  .cases h;rfl
  .rename_i id g w off len e;split at h
   .rename_i h0;cases h;simp only[h0,if_true]
   rename_i h0;split at h
   .rename_i g' ty sz es h4;split at h
    .rename_i hc;cases h;have hb:=ha id af;rw[h4] at hb;rw[ay h0];simp only[hb];rw[aD hc]
    cases h
   cases h
  cases h
 |mupd kd ag m k v=>
  simp only[bG] at h ⊢;split at h
  .rename_i id g q cs h1 h2 h3;split at h
   .rename_i g' rS es ps h4 h5;split at h
    .rename_i hc;split at h
     .rename_i i w hf;cases h;have hb:=ha id af;rw[h4] at hb;simp only[hb,h5];rw[aD hc];simp only[hf]
     .rename_i hf;cases h;have hb:=ha id af;rw[h4] at hb;simp only[hb,h5];rw[aD hc];simp only[hf]
     cases h
    cases h
   cases h
  cases h
 |mlen x=>
  simp only[bG] at h ⊢;split at h
  .rename_i n q hq;cases h;rw[ans hq ha]
  cases h
 |append s ty sz bytes x y=>exact ag9 h ha
 |call s f as=>
  simp only[bG] at h
  (repeat' split at h)<;>cases h
 |_=>exact h
theorem apJ{sh:Nat->Bool}{e:Env}{b:aw}{p:mU}{f s:Nat}{vs:List V}{r:List Nat}(h:bG sh e b p=.pc f vs r s)(ha:iN r b b'):bG sh e b' p=.pc f vs r s:=by
 cases p with
 |call s f as=>
  simp only[bG] at h ⊢;split at h
  .split at h
   .cases h
   rename_i lU;rw[ay lU];split at h
   .rename_i hs;cases h;rw[arX hs ha]
   cases h
  cases h
 |_=>
  (simp only[bG,Ap,eF,Dj,reduceCtorEq] at h)<;>(repeat' split at h)<;>cases h
theorem apL{sh:Nat->Bool}{e:Env}{b:aw}{p:mU}{f:Nat}{vs:List V}(h:bG sh e b p=.sc f vs):bG sh e b' p=.sc f vs:=by
 cases p with
 |call s f as=>
  simp only[bG] at h ⊢;split at h
  .split at h
   .rename_i lU;rw[aD lU];exact h
   split at h<;>cases h
  cases h
 |_=>
  (simp only[bG,Ap,eF,Dj,reduceCtorEq] at h)<;>(repeat' split at h)<;>cases h
theorem ag7:∀(u:List eX) (b b':aw) (id:Nat),id∈u.map (·.1)->app u b id=app u b' id:=by
 intro u
 induction u with
 |nil=>intro b b' id h;simp at h
 |cons x u ih=>
  intro b b' id h;obtain⟨i,o⟩:=x;simp only[app];by_cases hu:id∈u.map (·.1)
  .exact ih _ _ _ hu
  have hi:id=i:=by simpa [hu] using h
  have key:∀(u:List eX) (b:aw),id∉u.map (·.1)->app u b id=b id:=by
   intro u
   induction u with
   |nil=>intro b _;rfl
   |cons x u ih=>intro b h;obtain⟨j,o⟩:=x;simp only[fy,cI,Az] at h;simp only[app];rw[ih _ h.2,aN,ay h.1]
  rw[key u _ hu,key u _ hu,aN,aN,aD hi,aD hi]
theorem Sx:∀(u:List eX) (b:aw) (id:Nat),id∉u.map (·.1)->app u b id=b id:=by
 intro u
 induction u with
 |nil=>intro b id _;rfl
 |cons x u ih=>intro b id h;obtain⟨j,o⟩:=x;simp only[fy,cI,Az] at h;simp only[app];rw[ih _ _ h.2,aN,ay h.1]
theorem aty{e e':Env}{g:Option (Nat×Bool)}(h:∀t w,g=some (t,w)->e' t=e t):wanted e' g=wanted e g:=by
 cases g with
 |none=>rfl
 |some q=>obtain⟨t,w⟩:=q;simp only[wanted,h t w rfl]
def cy.writes(f:cy)(id:Nat):Bool:=f.wr.contains id||f.fs.contains (jy id)
def cy.uq(f:cy)(id:Nat):Bool:=f.rd.contains id||f.writes id
theorem aeg{b:aw}:∀(n:Nat) (c:C),iN (my b n c) b b'->my b' n c=my b n c:=by
 intro n
 induction n with
 |zero=>intro c _;rfl
 |succ n ih=>
  have many:∀(cs:List C),iN (cs.map (my b n)).flatten b b'->(cs.map (my b' n)).flatten=(cs.map (my b n)).flatten:=by
   intro cs
   induction cs with
   |nil=>intro _;rfl
   |cons c cs ihc=>intro h;simp only[fy,lH] at h ⊢;rw[ih c h.left,ihc h.right]
  intro c h;cases c with
  |p v=>rfl
  |aX id g off=>
   simp only[my] at h ⊢;have hb:=h id af;rw[hb];split
   .rename_i cs Mc;rw[Mc] at h;rw[many cs (fun i hi=>h i (by simp only[cI];exact .inr hi))]
   rfl
  |de id g i off=>
   simp only[my] at h ⊢;have hb:=h id af;rw[hb];split
   .rename_i cs Mc;rw[Mc] at h;rw[many _ (fun i hi=>h i (by simp only[cI];exact .inr hi))]
   rfl
  |hsl id g z off len=>
   simp only[my] at h ⊢;have hb:=h id af;rw[hb];split
   .rename_i cs Mc;rw[Mc] at h;rw[many _ (fun i hi=>h i (by simp only[cI];exact .inr hi))]
   rfl
  |jW id g=>rfl
  |hfn f x y=>simp only[my] at h ⊢;rw[many x h.left,many y h.right]
theorem aqh{b:aw}(v:V)(h:iN (iZ b v) b b'):iZ b' v=iZ b v:=by
 cases v with
 |undef=>rfl
 |tup _=>rfl
 |one c=>exact aeg _ _ h
 |agg cs=>
  simp only[iZ] at h ⊢
  induction cs with
  |nil=>rfl
  |cons c cs ih=>simp only[fy,lH] at h ⊢;rw[aeg _ c h.left,ih h.right]
theorem agV{f:Nat}{vs:List V}{b:aw}(h:iN (allow sh f vs b).ids b b'):allow sh f vs b'=allow sh f vs b:=by
 have:(vs.map (iZ b')).flatten=(vs.map (iZ b)).flatten:=by
  unfold allow at h;simp only at h
  induction vs with
  |nil=>rfl
  |cons v vs ih=>simp only[fy,lH] at h ⊢;rw[aqh v h.left,ih h.right]
 unfold allow;rw[this]
def AL(cs:jP):Prop:=∀f vs al aj v ao,cs f vs al aj=some (v,ao)->(∀id,al.ok id=false->ao id=aj id)/\
 ∀ba,(∀id,al.ok id=true->ba id=aj id)->∃mg,cs f vs al ba=some (v,mg)/\ ∀id,mg id=if al.ok id then ao id else ba id
theorem Qv{al:Al}{l:List Nat}(h:al.fG l=true){id:Nat}(hid:id∈l):al.ok id=true:=ir.1 h id hid
theorem alZ{a b:Al}(hb:b.any=false)(h:a.holds b=true){id:Nat}(hid:b.ok id=true):a.ok id=true:=by
 unfold Al.holds at h;simp only[sN,cN] at h;rcases h with h|⟨h1,h2⟩
 .simp[Al.ok,h]
 simp only[Al.ok,hb,DA,sN] at hid;rcases hid with hid|hid
 .exact Qv h1 (by simpa using hid)
 have:=ir.1 h2 (jy id) (by simpa using hid);simp only[Al.ok,sN];exact .inr this
theorem Wf(cX:AL cs){o:bI}{aA:Env}{aj ao:aw}{f:cy}(h:step1 sh cp cs o ak aj=some (aA,ao,f)):
  ∃v,aA=put ak o.dst v/\(∀id,f.writes id=false->ao id=aj id)/\(∀id,f.uq id=true->sh.al.ok id=true)/\
   ∀(dp:Env) (ba:aw),sV o.HF ak dp->(∀id,f.uq id=true->ba id=aj id)->
    ∃mg,step1 sh cp cs o dp ba=some (put dp o.dst v,mg,f)/\ ∀id,mg id=if f.writes id then ao id else ba id:=by
 have GV:∀(dp:Env),sV o.HF ak dp->sV o.op.tmps ak dp/\wanted dp o.guard=wanted ak o.guard:=by intro dp h;unfold bI.HF at h;exact⟨h.left,aty fun t w hg=>h.right t (by rw[hg];simp)⟩
 have hwr:∀(r w:List Nat) (id:Nat),(⟨r,w,[]⟩:cy).writes id=w.contains id:=by intro r w id;simp[cy.writes]
 have EP:∀(r w:List Nat) (id:Nat),(⟨r,w,[]⟩:cy).uq id=true↔id∈r\/id∈w:=by intro r w id;simp[cy.uq,cy.writes]
 have aa5:∀(u:List eX) (b b2:aw) (r:List Nat) (id:Nat),app u b2 id=if (⟨r,u.map (·.1),[]⟩:cy).writes id then app u b id else b2 id:=by
  intro u b b2 r id;rw[hwr];by_cases hid:id∈u.map (·.1)
  .rw[aD (by simpa using hid)];exact ag7 _ _ _ _ hid
  rw[ay (by simpa using hid)];exact Sx _ _ _ hid
 unfold step1 at h;split at h
 .cases h
 .rename_i hw;cases h;refine⟨.undef,rfl,fun _ _=>rfl,fun id hid=>by simp[cy.uq,cy.writes] at hid,fun dp ba he hb=>⟨ba,?_,fun id=>by simp[cy.writes]⟩⟩;unfold step1;rw[(GV dp he).2,hw]
 rename_i hw;split at h
 .cases h
 .rename_i v u r hp;split at h
  .rename_i au;cases h;refine⟨v,rfl,fun id hid=>Sx _ _ _ (by rw[hwr] at hid;simpa using hid),fun id hid=>Qv au (by have:=(EP _ _ _).1 hid;simpa using this),fun dp ba he hb=>⟨app u ba,?_,fun id=>aa5 _ _ _ _ _⟩⟩;unfold step1;rw[(GV dp he).2,hw];simp only;rw[VI (GV dp he).1,apt hp fun id hid=>hb id ((EP _ _ _).2 (.inl hid))];simp only;rw[aD au]
  cases h
 .rename_i g vs r s hp;split at h
  .rename_i x hx;split at h
   .rename_i v u hl;split at h
    .rename_i au;cases h;refine⟨v,rfl,fun id hid=>Sx _ _ _ (by rw[hwr] at hid;simpa using hid),fun id hid=>Qv au (by have:=(EP _ _ _).1 hid;simp at this ⊢;rcases this with h|h<;>simp[h]),fun dp ba he hb=>⟨app u ba,?_,fun id=>aa5 _ _ _ _ _⟩⟩;unfold step1;rw[(GV dp he).2,hw];simp only;rw[VI (GV dp he).1,apJ hp fun id hid=>hb id ((EP _ _ _).2 (.inl (by simp[hid])))];simp only[hx];rw[ana hl (fun id hid=>hb id ((EP _ _ _).2 (.inl (by simp[hid])))) fun id hid=>hb id ((EP _ _ _).2 (.inr hid))];simp only;rw[aD au]
    cases h
   cases h
  cases h
 rename_i g vs hp;split at h
 .rename_i au;split at h
  .rename_i v b1 hx;cases h;have gY:∀id,(⟨(allow sh g vs aj).ids,(allow sh g vs aj).ids,(allow sh g vs aj).fs⟩:cy).writes id=(allow sh g vs aj).ok id:=by
    intro id;simp[cy.writes,Al.ok,allow]
   have TN:∀id,(⟨(allow sh g vs aj).ids,(allow sh g vs aj).ids,(allow sh g vs aj).fs⟩:cy).uq id=(allow sh g vs aj).ok id:=by intro id;simp only[cy.uq,gY];simp only[Al.ok];cases (allow sh g vs aj).ids.contains id<;>simp
   obtain⟨l1,l2⟩:=cX _ _ _ _ _ _ hx;refine⟨v,rfl,fun id hid=>l1 id (by rw[<- gY];exact hid),fun id hid=>alZ rfl au (by rw[<- TN];exact hid),fun dp ba he hb=>?_⟩;obtain⟨mg,g1,g2⟩:=l2 ba fun id hid=>hb id (by rw[TN];exact hid);have alA:allow sh g vs ba=allow sh g vs aj:=agV fun id hid=>hb id (by rw[TN];simp[Al.ok,hid]);refine⟨mg,?_,fun id=>by rw[gY];exact g2 id⟩;unfold step1;rw[(GV dp he).2,hw];simp only;rw[VI (GV dp he).1,apL hp];simp only[alA];rw[aD au];simp only[g1]
  cases h
 cases h
theorem ap9(ak:Env){d d':Option Nat}(v v':V)(h:∀t,d=some t->d'≠some t):put (put ak d v) d' v'=put (put ak d' v') d v:=by
 cases d with
 |none=>rfl
 |some t=>
  cases d' with
  |none=>rfl
  |some t'=>
   have aI:t'≠t:=fun e=>h t rfl (by rw[e]);funext x;simp only[put,aN];by_cases h1:x=t
   .subst h1;rw[aD rfl,ay (fun e=>aI e.symm),aD rfl]
   rw[ay h1,ay h1]
theorem ad9{d:Option Nat}{v:V}{t:Nat}(h:d≠some t):put ak d v t=ak t:=by
 cases d with
 |none=>rfl
 |some x=>simp only[put,aN];rw[ay (fun e=>h (by rw[e]))]
theorem Qn{a b:List Nat}(h:meets a b=false){i:Nat}(ha:i∈a):i∉b:=by
 intro hb;have:meets a b=true:=by simp only[meets,FO];exact⟨i,ha,by simpa using hb⟩
 rw[h] at this;cases this
theorem UE{fs ids:List Nat}(h:CT fs ids=false){i:Nat}(hi:i∈ids):jy i∉fs:=by
 intro hf;have:CT fs ids=true:=by simp only[CT,FO];exact⟨i,hi,by simpa using hf⟩
 rw[h] at this;cases this
theorem ain{a b:cy}(h:BU a b=false)(id:Nat):(a.writes id=true->b.uq id=false)/\(b.writes id=true->a.uq id=false):=by
 simp only[BU,Od] at h;obtain⟨⟨⟨⟨⟨c1,c2⟩,c3⟩,c4⟩,c5⟩,c6⟩:=h;have sw:∀ {x y:List Nat},meets x y=false->meets y x=false:=by
  intro x y h;cases he:meets y x with
  |false=>rfl
  |true=>simp only[meets,FO] at he;obtain⟨i,h1,h2⟩:=he;exact absurd h1 (Qn h (by simpa using h2))
 have one:∀ {a b:cy},meets a.wr b.rd=false->meets a.wr b.wr=false->meets a.fs b.fs=false->CT a.fs (b.rd++b.wr)=false->CT b.fs (a.rd++a.wr)=false->a.writes id=true->b.uq id=false:=by
  intro a b c1 c2 c4 c5 c6 hw;simp only[cy.writes,sN] at hw;simp only[cy.uq,cy.writes,Od];rcases hw with hw|hw
  .have hw:id∈a.wr:=by simpa using hw
   exact⟨by simpa using Qn c1 hw,by simpa using Qn c2 hw,by simpa using UE c6 (i:=id) (by simp[hw])⟩
  have hw:jy id∈a.fs:=by simpa using hw
  refine⟨?_,?_,?_⟩
  .cases he:b.rd.contains id with
   |false=>rfl
   |true=>exact absurd hw (UE c5 (i:=id) (by simp at he;simp[he]))
  .cases he:b.wr.contains id with
   |false=>rfl
   |true=>exact absurd hw (UE c5 (i:=id) (by simp at he;simp[he]))
  simpa using Qn c4 hw
 exact⟨one c1 c2 c4 c5 c6,one (sw c3) (sw c2) (sw c4) c6 c5⟩
theorem swap{sh:Ctx}{cp:fR}{cs:jP}(cX:AL cs){x y:bI}{ak ft dp:Env}{aj cn ba:aw}{e1 e2:cy}(hx:step1 sh cp cs x ak aj=some (ft,cn,e1))(hy:step1 sh cp cs y ft cn=some (dp,ba,e2))
  (hf:Gj x y=true) (hc:BU e1 e2=false):∃envy blky,step1 sh cp cs y ak aj=some (envy,blky,e2)/\step1 sh cp cs x envy blky=some (dp,ba,e1):=by
 obtain⟨v1,rfl,IQ,_,anP⟩:=Wf cX hx;obtain⟨v2,rfl,AU,_,anQ⟩:=Wf cX hy;have Jb:∀t,x.dst=some t->t∉y.HF/\y.dst≠some t:=by intro t ht;simp only[Gj,ht,cN] at hf;have h1:=hf.1;simp at h1;exact⟨by simpa using h1.1,h1.2⟩
 have yg:∀t,y.dst=some t->t∉x.HF:=by
  intro t ht;simp only[Gj,ht,cN] at hf;have h1:=hf.2
  simpa using h1
 have cP:=ain hc;have nw:∀ {a b:cy} {id:Nat},(a.writes id=true->b.uq id=false)->b.uq id=true->a.writes id=false:=by
  intro a b id h1 h2;cases h:a.writes id with
  |false=>rfl
  |true=>rw[h1 h] at h2;cases h2
 have wt:∀ {a:cy} {id:Nat},a.writes id=true->a.uq id=true:=by intro a id h;simp[cy.uq,h]
 obtain⟨blky,hy2,yb⟩:=anQ ak aj (fun t ht=>(ad9 fun e=>(Jb t e).1 ht).symm) (fun id hid=>(IQ id (nw (cP id).1 hid)).symm);obtain⟨blkx,wU,xb⟩:=anP (put ak y.dst v2) blky (fun t ht=>ad9 fun e=>yg t e ht) (fun id hid=>by rw[yb id,nw (cP id).2 hid];rfl)
 refine⟨_,blky,hy2,?_⟩;rw[wU,ap9 ak v1 v2 fun t ht=>(Jb t ht).2];have:blkx=ba:=by
  funext id;rw[xb id,yb id];cases h1:e1.writes id with
  |true=>have h2:e2.writes id=false:=nw (cP id).2 (wt h1);exact(AU id h2).symm
  |false=>
   cases h2:e2.writes id with
   |true=>rfl
   |false=>simp only[dQ,if_false];rw[AU id h2,IQ id h1]
 rw[this]
structure It where
 i:Nat
 io:bI
 e:cy
def OF(x y:It):Prop:=Gj x.io y.io=true/\BU x.e y.e=false
theorem afd{o:bI}{r:List bI}{aA:Env}{aj ao:aw}{e:cy}{es:List cy}(h:steps sh cp cs (o::r) ak aj=some (aA,ao,e::es)):
  ∃ft cn,step1 sh cp cs o ak aj=some (ft,cn,e)/\steps sh cp cs r ft cn=some (aA,ao,es):=by
 simp only[steps] at h;split at h
 .rename_i ft cn e1 h1;split at h
  .rename_i dp ba es2 h2;cases h;exact⟨ft,cn,h1,h2⟩
  cases h
 cases h
theorem asw{o:bI}{r:List bI}{ft aA:Env}{aj cn ao:aw}{e:cy}{es:List cy}(h1:step1 sh cp cs o ak aj=some (ft,cn,e))(h2:steps sh cp cs r ft cn=some (aA,ao,es)):
  steps sh cp cs (o::r) ak aj=some (aA,ao,e::es):=by
 simp only[steps,h1,h2]
theorem asY(cX:AL cs){y:It}{l2:List It}:∀ {l1:List It} {ak aA:Env} {aj ao:aw},steps sh cp cs ((l1++y::l2).map (·.io)) ak aj=some (aA,ao,(l1++y::l2).map (·.e))->(∀x∈l1,OF x y)->
  ∃ft cn,step1 sh cp cs y.io ak aj=some (ft,cn,y.e)/\steps sh cp cs ((l1++l2).map (·.io)) ft cn=some (aA,ao,(l1++l2).map (·.e)):=by
 intro l1
 induction l1 with
 |nil=>intro ak aA aj ao h _;exact afd h
 |cons x l1 ih=>intro ak aA aj ao h nN;obtain⟨envx,blkx,h1,h2⟩:=afd h;obtain⟨envy,blky,h3,h4⟩:=ih h2 fun z hz=>nN z (by simp[hz]);obtain⟨en1,bl1,h5,h6⟩:=swap cX h1 h3 (nN x af).1 (nN x af).2;exact⟨en1,bl1,h5,asw h6 h4⟩
def DL(al:Al)(b b2:aw):Prop:=∀id,al.ok id=true->b2 id=b id
def u5(al:Al)(b' b2 F2:aw):Prop:=∀id,F2 id=if al.ok id then b' id else b2 id
def Frame(al:Al)(b b':aw):Prop:=∀id,al.ok id=false->b' id=b id
theorem u5.agree{al:Al}{b2 F2:aw}(h:u5 al b' b2 F2):DL al b' F2:=fun id hid=>by rw[h id,hid];rfl
theorem u5.trans{al:Al}{b2 F2 b'' XK:aw}(h:u5 al b' b2 F2)(k:u5 al b'' F2 XK):u5 al b'' b2 XK:=fun id=>by rw[k id,h id];cases al.ok id<;>rfl
theorem u5.refl{al:Al}{b b2:aw}(h:DL al b b2):u5 al b b2 b2:=fun id=>by
 cases hid:al.ok id with
 |true=>exact h id hid
 |false=>rfl
theorem Frame.trans{al:Al}{b b'':aw}(h:Frame al b b')(k:Frame al b' b''):Frame al b b'':=fun id hid=>(k id hid).trans (h id hid)
section
variable {sh:Ctx} {cp:fR} {cs:jP} (cX:AL cs)
include cX
theorem ast:∀ {ops:List bI} {ak aA:Env} {aj ao:aw} {es:List cy},steps sh cp cs ops ak aj=some (aA,ao,es)->Frame sh.al aj ao/\
  ∀ba,DL sh.al aj ba->∃mg,steps sh cp cs ops ak ba=some (aA,mg,es)/\u5 sh.al ao ba mg:=by
 intro ops
 induction ops with
 |nil=>intro ak aA aj ao es h;simp only[steps,fL,kn] at h;obtain⟨rfl,rfl,rfl⟩:=h;exact⟨fun _ _=>rfl,fun ba ha=>⟨ba,rfl,.refl ha⟩⟩
 |cons o ops ih=>
  intro ak aA aj ao es h;simp only[steps] at h;split at h
  .rename_i ft cn e h1;split at h
   .rename_i dp ba kX h2;cases h;obtain⟨v,rfl,fr,tw,loc⟩:=Wf cX h1;obtain⟨f2,g2⟩:=ih h2;have hw:∀id,sh.al.ok id=false->e.writes id=false:=by
     intro id hid;cases hh:e.writes id with
     |false=>rfl
     |true=>have:=tw id (by simp[cy.uq,hh]);rw[hid] at this;cases this
    refine⟨Frame.trans (fun id hid=>fr id (hw id hid)) f2,fun b2 ha=>?_⟩;obtain⟨b1,s1,m1⟩:=loc ak b2 (fun _ _=>rfl) (fun id hid=>ha id (tw id hid));have mL:u5 sh.al cn b2 b1:=by
     intro id;rw[m1 id];cases hid:sh.al.ok id with
     |true=>
      cases hh:e.writes id with
      |true=>rfl
      |false=>simp only[dQ,if_false,if_true];rw[ha id hid,fr id hh]
     |false=>rw[hw id hid]
    obtain⟨b3,s2,m2⟩:=g2 b1 mL.agree;exact⟨b3,by simp only[steps,s1,s2],mL.trans m2⟩
   cases h
  cases h
theorem amM{c:Env->aw->Option (mE×Env×aw)}(hc:∀ {ak aA aj ao e},c ak aj=some (e,aA,ao)->Frame sh.al aj ao/\ ∀ba,DL sh.al aj ba->∃mg,c ak ba=some (e,aA,mg)/\u5 sh.al ao ba mg):
  ∀(k:Nat) {ak aA:Env} {aj ao:aw} {e:mE},iter c k ak aj=some (e,aA,ao)->Frame sh.al aj ao/\ ∀ba,DL sh.al aj ba->∃mg,iter c k ak ba=some (e,aA,mg)/\u5 sh.al ao ba mg:=by
 have _u0:=cX;intro k
 induction k with
 |zero=>intro ak aA aj ao e h;simp[iter] at h
 |succ k ih=>
  intro ak aA aj ao e h;simp only[iter] at h;split at h
  .rename_i ft cn h1;obtain⟨f1,g1⟩:=hc h1;obtain⟨f2,g2⟩:=ih h;refine⟨f1.trans f2,fun b2 ha=>?_⟩;obtain⟨b1,s1,m1⟩:=g1 b2 ha;obtain⟨b3,s2,m2⟩:=g2 b1 m1.agree;exact⟨b3,by simp only[iter,s1,s2],m1.trans m2⟩
  rename_i aI;obtain⟨f1,g1⟩:=hc h;refine⟨f1,fun b2 ha=>?_⟩;obtain⟨b1,s1,m1⟩:=g1 b2 ha;refine⟨b1,?_,m1⟩;cases e with
  |normal=>exact(aI _ _ h).elim
  |exit i=>simp only[iter,s1]
  |ret=>simp only[iter,s1]
theorem Zy{n:Nat}:∀(c:aH) {ak aA:Env} {aj ao:aw} {e:mE},exec sh cp cs n c ak aj=some (e,aA,ao)->Frame sh.al aj ao/\
  ∀ba,DL sh.al aj ba->∃mg,exec sh cp cs n c ak ba=some (e,aA,mg)/\u5 sh.al ao ba mg:=by
 intro c
 induction c with
 |skip=>intro ak aA aj ao e h;simp only[exec,fL,kn] at h;obtain⟨rfl,rfl,rfl⟩:=h;exact⟨fun _ _=>rfl,fun b2 ha=>⟨b2,rfl,.refl ha⟩⟩
 |exit id=>intro ak aA aj ao e h;simp only[exec,fL,kn] at h;obtain⟨rfl,rfl,rfl⟩:=h;exact⟨fun _ _=>rfl,fun b2 ha=>⟨b2,rfl,.refl ha⟩⟩
 |ret=>intro ak aA aj ao e h;simp only[exec,fL,kn] at h;obtain⟨rfl,rfl,rfl⟩:=h;exact⟨fun _ _=>rfl,fun b2 ha=>⟨b2,rfl,.refl ha⟩⟩
 |bad=>intro ak aA aj ao e h;simp[exec] at h
 |region d ops=>
  intro ak aA aj ao e h;simp only[exec] at h;split at h
  .rename_i ft cn es h1;obtain⟨f1,g1⟩:=ast cX h1;have he:(e,aA,ao)=(mE.normal,ft,cn)/\(d=true->rF ops [] es=true):=by
    cases d with
    |false=>simp at h;exact⟨by simp[h],fun h=>by cases h⟩
    |true=>
     simp only[if_true] at h;split at h
     .rename_i hd;cases h;exact⟨rfl,fun _=>hd⟩
     cases h
   obtain⟨he,hd⟩:=he;cases he;refine⟨f1,fun b2 ha=>?_⟩;obtain⟨b1,s1,m1⟩:=g1 b2 ha;refine⟨b1,?_,m1⟩;simp only[exec,s1];cases d with
   |false=>simp
   |true=>simp[hd rfl]
  cases h
 |seq a b iha ihb=>
  intro ak aA aj ao e h;simp only[exec] at h;split at h
  .rename_i ft cn h1;obtain⟨f1,g1⟩:=iha h1;obtain⟨f2,g2⟩:=ihb h;refine⟨f1.trans f2,fun b2 ha=>?_⟩;obtain⟨b1,s1,m1⟩:=g1 b2 ha;obtain⟨b3,s2,m2⟩:=g2 b1 m1.agree;exact⟨b3,by simp only[exec,s1,s2],m1.trans m2⟩
  rename_i aI;obtain⟨f1,g1⟩:=iha h;refine⟨f1,fun b2 ha=>?_⟩;obtain⟨b1,s1,m1⟩:=g1 b2 ha;refine⟨b1,?_,m1⟩;cases e with
  |normal=>exact(aI _ _ h).elim
  |exit i=>simp only[exec,s1]
  |ret=>simp only[exec,s1]
 |cond x a b iha ihb=>
  intro ak aA aj ao e h;simp only[exec] at h ⊢;split at h
  .rename_i t ht;cases t with
   |true=>exact iha h
   |false=>exact ihb h
  cases h
 |block id c ih=>
  intro ak aA aj ao e h;simp only[exec] at h;split at h
  .rename_i i ft cn h1;obtain⟨f1,g1⟩:=ih h1;have hb:ao=cn:=by split at h<;>cases h<;>rfl
   subst hb;refine⟨f1,fun b2 ha=>?_⟩;obtain⟨b1,s1,m1⟩:=g1 b2 ha;refine⟨b1,?_,m1⟩;simp only[exec,s1];split at h
   .rename_i hi;cases h;rw[aD hi]
   rename_i hi;cases h;rw[ay hi]
  rename_i aI;obtain⟨f1,g1⟩:=ih h;refine⟨f1,fun b2 ha=>?_⟩;obtain⟨b1,s1,m1⟩:=g1 b2 ha;refine⟨b1,?_,m1⟩;cases e with
  |normal=>simp only[exec,s1]
  |exit i=>exact(aI _ _ _ h).elim
  |ret=>simp only[exec,s1]
 |loop c ih=>intro ak aA aj ao e h;simp only[exec] at h ⊢;exact amM cX (fun h=>ih h) n h
end
theorem aek{al:Al}{aj ba:aw}(ha:DL al aj ba):∀ {rs:List (Nat×Option (Option Nat))} {vs:List V},oE al ak aj rs=some vs->oE al ak ba rs=some vs:=by
 intro rs
 induction rs with
 |nil=>intro vs h;exact h
 |cons r rs ih=>
  obtain⟨t,k⟩:=r;cases k with
  |none=>
   intro vs h;simp only[oE] at h ⊢;split at h
   .rename_i v q h1 h2;cases h;simp only[h1,ih h2]
   cases h
  |some k=>
   intro vs h;simp only[oE] at h ⊢;split at h
   .rename_i cs rd q h1 h2;split at h
    .rename_i au;rw[aee h1 (fun id hid=>ha id (Qv au hid)),ih h2];simp only[au,if_true];exact h
    cases h
   cases h
theorem aqS(cX:AL cs){n:Nat}{fn:aS}{args:List V}{aj ao:aw}{v:V}(h:rI sh cp cs n fn args aj=some (v,ao)):Frame sh.al aj ao/\
  ∀ba,DL sh.al aj ba->∃mg,rI sh cp cs n fn args ba=some (v,mg)/\u5 sh.al ao ba mg:=by
 unfold rI at h;split at h
 .rename_i ak b hx;simp only[dx] at h;obtain⟨vs,h1,h2⟩:=h;cases h2;obtain⟨f1,g1⟩:=Zy cX _ hx;refine⟨f1,fun b2 ha=>?_⟩;obtain⟨b3,s1,m1⟩:=g1 b2 ha;exact⟨b3,by unfold rI;rw[s1];simp only[aek m1.agree h1,kU],m1⟩
 .rename_i ak b hx;simp only[dx] at h;obtain⟨vs,h1,h2⟩:=h;cases h2;obtain⟨f1,g1⟩:=Zy cX _ hx;refine⟨f1,fun b2 ha=>?_⟩;obtain⟨b3,s1,m1⟩:=g1 b2 ha;exact⟨b3,by unfold rI;rw[s1];simp only[aek m1.agree h1,kU],m1⟩
 cases h
end
end Go.Abs
namespace Go.Abs
variable {P:Program} {w0:World}
def sT(w:World)(O:Nat->Prop):V->Value->Prop
 | .one (.p x),v=>cD w O x v
 | .agg cs,v=>∃arr ps,v=.agg arr/\cs=ps.map .p/\dd w O ps arr.toList
 |_,_=>False
def Enters(P:Program)(f:Nat):Prop:= ∃fn c,P.funcs[f]?=some fn/\fn.body=some c/\(fn.name== "runtime.NumGoroutine")=false
def Oy(w:World)(Q:Nat->Prop)(r:RV)(val:Value)(bs:List Nat):Prop:= ∃vs,FV r val vs/\rR w Q (iR r) vs bs
def u6(w:World)(O:Nat->Prop)(r:RV):Ending->World->Prop:=fun e w'=>∃val bs,e=.returned val/\fH w w'/\bs.Nodup/\(∀c∈bs,w.heap.size<=c/\c<w'.heap.size)/\Oy w' (fun c=>O c\/c∈bs) r val bs
def Good(G:World->Prop)(w:World):Prop:=G w/\ ∀w w',fH w w'->G w->G w'
theorem Ok.aap{m:Mem}(h:Ok w0 m):fH w0 m.w:=⟨h.os,h.tape,h.output,h.size,h.base⟩
theorem rR.pure{w:World}{Q Q':Nat->Prop}(h:∀b,Q' b->Q b):∀ {rs:List RC} {vs:List Value} {bs:List Nat},(∀c∈bs,¬Q' c)->rR w Q rs vs bs->rR w Q' (rs.map RC.pure) vs []:=by
 intro rs
 induction rs with
 |nil=>intro vs bs _ hr;exact⟨hr.1,rfl⟩
 |cons r rs ih=>
  intro vs bs hb hr;have less:∀ {x:PV} {v:Value},cD w Q x v->cD w Q' x v:=fun hp=>hp.mono fun c _ hn=>⟨rfl,fun hq=>hn (h c hq)⟩;cases r with
  |p x=>obtain⟨v,mQ,rfl,h1,h2⟩:=hr;exact⟨v,mQ,rfl,less h1,ih hb h2⟩
  |own ty sz es=>
   obtain⟨v,mQ,c,v8,rfl,rfl,⟨cap,cur,e1,e2,e3,e4,e5,e6,e7,e8⟩,h2⟩:=hr;refine⟨v,mQ,rfl,?_,ih (fun c hc=>hb c (by simp[hc])) h2⟩;subst e1;refine cD.sl c 0 cap sz (fun j=>cur.toList.getD j undef) (fun _=>hb c af) e5 e6 e4 (fun j x hx=>?_) (fun j x hx=>?_)
   .have hj:j<(cur.toList.take (es.length*sz)).length:=by rw[e8.1];exact(bg.1 hx).1
    have nV:j<cur.size:=by simp at hj;omega
    rw[World.cell?];simp[e2,nV,List.getD,jm]
   have hj:j<(cur.toList.take (es.length*sz)).length:=by rw[e8.1];exact(bg.1 hx).1
   have nV:j<cur.size:=by simp at hj;omega
   refine less (e8.2 j x _ hx ?_);rw[List.getElem?_take_of_lt (by simp at hj;omega)];simp[nV,List.getD]
theorem xC.pure{r:RV}{v:Value}{vs:List Value}(h:xC r v vs):xC r.Hs v vs/\jq r.Hs=(jq r).map RC.pure:=by
 cases r with
 |one c=>exact⟨h,rfl⟩
 |agg cs=>exact⟨⟨h.1,by simpa [RV.Hs] using h.2⟩,rfl⟩
 |tup _=>exact h.elim
theorem DM.pure:∀ {rs:List RV} {us vs:List Value},DM rs us vs->DM (rs.map RV.Hs) us vs/\qV (rs.map RV.Hs)=(qV rs).map RC.pure:=by
 intro rs
 induction rs with
 |nil=>intro us vs h;exact⟨h,rfl⟩
 |cons r rs ih=>
  rintro us vs ⟨u,NW,a,b,rfl,rfl,h1,h2⟩
  obtain⟨p1,p2⟩:=h1.pure;obtain⟨q1,q2⟩:=ih h2;exact⟨⟨u,NW,a,b,rfl,rfl,p1,q1⟩,by simp[qV,p2,q2]⟩
theorem FV.pure{r:RV}{v:Value}{vs:List Value}(h:FV r v vs):FV r.pure v vs/\iR r.pure=(iR r).map RC.pure:=by
 cases r with
 |one c=>exact xC.pure (r:=.one c) h
 |agg cs=>exact xC.pure (r:=.agg cs) h
 |tup rs=>obtain⟨arr,rfl,h2⟩:=h;obtain⟨q1,q2⟩:=h2.pure;exact⟨⟨arr,rfl,q1⟩,q2⟩
theorem u6.eD{w w':World}{O:Nat->Prop}{r:RV}{e:Ending}(b:Bool)(hO:∀c,O c->c<w.heap.size)(h:u6 w O r e w'):u6 w O (r.eD b) e w':=by
 cases b with
 |false=>exact h
 |true=>
  obtain⟨val,bs,rfl,hg,fj,nO,vs,h1,h2⟩:=h;obtain⟨p1,p2⟩:=h1.pure;refine⟨val,[],rfl,hg,vU,fun c hc=>by simp at hc,vs,p1,?_⟩;simp only[RV.eD];rw[p2];refine rR.pure (fun b hb=>?_) (fun c hc hn=>?_) h2
  .rcases hb with hb|hb
   .exact .inl hb
   simp at hb
  rcases hn with hn|hn
  .have:=hO c hn;have:=(nO c hc).1;omega
  simp at hn
def DO(P:Program)(G:World->Prop)(cp:fR):Prop:=∀f vs r,cp f vs=some r->Enters P f/\ ∀(w:World) (O:Nat->Prop) (args:Array Value),Good G w->(∀c,O c->c<w.heap.size)->Pw (sT w O) vs args.toList->Calls P f args w (u6 w O r)
def H0(w0:World)(m:Mem)(v:V)(ao:aw):Ending->World->Prop:=fun e w'=>∃val m',e=.returned val/\m'.w=w'/\Ok w0 m'/\Ev m m'/\m'.fr=m.fr/\m'.aj=ao/\bU m' v val
def FW(P:Program)(G:World->Prop)(cs:jP):Prop:=∀f vs al aj v ao,cs f vs al aj=some (v,ao)->Enters P f/\ ∀(w0:World) (m:Mem) (args:Array Value),Good G w0->Ok w0 m->m.aj=aj->Pw (bU m) vs args.toList->Calls P f args m.w (H0 w0 m v ao)
theorem arW{m:Mem}(au:Ok w0 m){O:Nat->Prop}{x y:V}{r:List Nat}{v:Value}(h:nG m.aj x=some (y,r))(hr:bU m x v)(hs:pX m O r):sT m.w O y v:=by
 cases x with
 |undef=>simp[nG] at h
 |tup vs=>simp[nG] at h
 |one c=>simp only[nG,dx] at h;obtain⟨⟨p,r'⟩,h1,h2⟩:=h;cases h2;exact Km au ik h1 hr hs
 |agg cs=>simp only[nG,dx] at h;obtain⟨⟨ps,r'⟩,h1,h2⟩:=h;cases h2;obtain⟨arr,rfl,hc⟩:=bU.agg.1 hr;refine⟨arr,ps,rfl,rfl,?_⟩;exact Is (R:=cT m) (T:=cD m.w O) (eQ:=pX m O) (fun _ _=>pX.app) (fun _ _ _ _ h1 h2 h3=>Km au ik h1 h2 h3) h1 hs hc
theorem ae1{m:Mem}(au:Ok w0 m){O:Nat->Prop}{xs ys:List V}{r:List Nat}{vs:List Value}(h:Bv m.aj xs=some (ys,r))(hr:Pw (bU m) xs vs)(hs:pX m O r):Pw (sT m.w O) ys vs:=Is (R:=bU m) (T:=sT m.w O) (eQ:=pX m O) (fun _ _=>pX.app) (fun _ _ _ _ h1 h2 h3=>arW au h1 h2 h3) h hs hr
theorem adE{m:Mem}(au:Ok w0 m){c:Nat}(h:m.own c):c<m.w.heap.size:=by
 rcases h with h|⟨id,o,ho,_,rfl⟩
 .exact au.frlt c h
 exact(au.obj id o ho).lt
theorem aeC{w:World}{Q Q':Nat->Prop}{x:PV}{v:Value}(hs:x.scalar=true)(h:cD w Q x v):cD w Q' x v:=by
 cases h<;>first
  |(simp[PV.scalar] at hs;done)
  |constructor
theorem agX{w:World}{Q Q':Nat->Prop}:∀ {rs:List RC} {vs:List Value} {bs:List Nat},rs.all RC.alone=true->rR w Q rs vs bs->rR w Q' rs vs bs:=by
 intro rs
 induction rs with
 |nil=>intro vs bs _ h;exact h
 |cons r rs ih=>
  intro vs bs ha h;simp only[oG,cN] at ha;cases r with
  |p x=>obtain⟨v,mQ,rfl,h1,h2⟩:=h;exact⟨v,mQ,rfl,aeC ha.1 h1,ih ha.2 h2⟩
  |own ty sz es=>obtain⟨v,mQ,c,v8,rfl,rfl,⟨cap,cur,e1,e2,e3,e4,e5,e6,e7,e8⟩,h2⟩:=h;refine⟨v,mQ,c,v8,rfl,rfl,⟨cap,cur,e1,e2,e3,e4,e5,e6,e7,e8.1,fun j x u a b=>?_⟩,ih ha.2 h2⟩;refine aeC ?_ (e8.2 j x u a b);have hx:=aW a;obtain⟨e,he,hxe⟩:=HR.1 hx;have h1:=ha.1;simp only[RC.alone] at h1;exact ir.1 (ir.1 h1 e he) x hxe
theorem acg{m:Mem}{w':World}{x:RV}{val:Value}{bs:List Nat}{site:Nat}(au:Ok w0 m)(hg:fH m.w w')(fj:bs.Nodup)(nO:∀c∈bs,m.w.heap.size<=c/\c<w'.heap.size)(hr:Oy w' (fun c=>m.own c\/c∈bs) x val bs):
  ∃m',m'.w=w'/\Ok w0 m'/\Ev m m'/\m'.fr=m.fr/\m'.aj=app (ji m.aj site x).2 m.aj/\bU m' (ji m.aj site x).1 val:=by
 obtain⟨vs,h1,h2⟩:=hr;have nz:Ok w0 (m.later w' (· ∈bs)):=M5 au hg nO;have vq:Ev m (m.later w' (· ∈bs)):=JH hg fun c hc=>(nO c hc).1;obtain⟨m',e1,e2,e3,_,e5,e6,e7⟩:=amv (Nc:=m) (site:=site) nz (h2.less fun b hb=>ack.1 hb) fj (fun c hc=>⟨.inr hc,mD au.size (nO c hc).1⟩) vq (fun c hc=>.inl (nO c hc).1);refine⟨m',e1,e2,e3,?_,e6,aqv h1 e7⟩;funext c;apply propext;rw[e5 c];constructor
 .rintro ⟨h|h,h2⟩
  .exact h
  exact(h2 h).elim
 intro h;refine⟨.inl h,fun hc=>?_⟩;have h1:=au.frlt c h;have h2:=(nO c hc).1;omega
theorem amw{b b':aw}(h:∀s,(b s).1=(b' s).1)(site:Nat)(x:RV):ji b site x=ji b' site x:=by unfold ji;rw[abg _ site b b' fun s _=>h s]
theorem ao4{G:World->Prop}{cp:fR}(Gu:DO P G cp)(hG:Good G w0){m:Mem}(au:Ok w0 m){f:Nat}{xs vs:List V}{rd:List Nat}{x:RV}{site:Nat}{v:V}{u:List eX}{args:Array Value}(hc:cp f vs=some x)(hs:Bv m.aj xs=some (vs,rd))(Ck:Pw (bU m) xs args.toList)
  {pb:Bool} (hl:land m.aj rd site (x.eD pb)=some (v,u)):Calls P f args m.w (H0 w0 m v (app u m.aj)):=by
 have Cp:∀(w:World) (O:Nat->Prop) (args:Array Value),Good G w->(∀c,O c->c<w.heap.size)->Pw (sT w O) vs args.toList->Calls P f args w (u6 w O (x.eD pb)):=fun w O args h1 h2 h3=>((Gu f vs x hc).2 w O args h1 h2 h3).mono fun e w' h=>h.eD pb h2
 generalize x.eD pb=x at hl Cp;unfold land at hl;split at hl
 .rename_i qZ;cases hl;have key:∀(O:Nat->Prop),(∀c,O c->c<m.w.heap.size)->pX m O rd->(∀w' bs val,Oy w' (fun c=>O c\/c∈bs) x val bs->Oy w' (fun c=>m.own c\/c∈bs) x val bs)->Calls P f args m.w (H0 w0 m (ji m.aj site x).1 (app (ji m.aj site x).2 m.aj)):=by
   intro O hO qt vB;refine(Cp m.w O args ⟨hG.2 _ _ au.aap hG.1,hG.2⟩ hO (ae1 au hs Ck qt)).mono ?_;rintro e w' ⟨val,bs,rfl,hg,fj,nO,hr⟩
   obtain⟨m',e1,e2,e3,e4,e5,e6⟩:=acg (site:=site) au hg fj nO (vB w' bs val hr);exact⟨val,m',rfl,e1,e2,e3,e4,e5,e6⟩
  rcases qZ with rfl|gY
  .exact key m.own (fun c hc=>adE au hc) ⟨fun _ h=>h,fun _ h=>by simp at h⟩ fun _ _ _ h=>h
  refine key (fun _=>False) (fun c h=>h.elim) ⟨fun _ h=>h.elim,fun _ _ h=>h⟩ fun w' bs val h=>?_;obtain⟨mQ,h1,h2⟩:=h;exact⟨mQ,h1,agX gY h2⟩
 split at hl
 .rename_i fu ql;cases hl;have nz:=Z6 au ql;have vq:=Tx ql;have qt:=TA au ql;refine(Cp m.w (m.with fu).own args ⟨hG.2 _ _ au.aap hG.1,hG.2⟩ (fun c hc=>adE nz hc) (ae1 au hs Ck qt)).mono ?_;rintro e w' ⟨val,bs,rfl,hg,fj,nO,hr⟩
  obtain⟨m',e1,e2,e3,e4,e5,e6⟩:=acg (m:=m.with fu) (site:=site) nz hg fj nO hr;have TV:ji (m.with fu).aj site x=ji m.aj site x:=amw (fun s=>LK ql s) site x;rw[TV] at e5 e6;refine⟨val,m',rfl,e1,e2,vq.trans e3,e4,?_,e6⟩;rw[e5,K8];rfl
 cases hl
end Go.Abs
namespace Go.Abs
variable {P:Program} {w0:World}
theorem QO{m m':Mem}(dR:Ev m m'){ak:Env}{a:Act}{dst:Option Nat}{v:V}{x:Value}(hr:iO m ak a.tmps)(hv:bU m' v x)(hd:∀d,dst=some d->d<a.tmps.size):iO m' (put ak dst v) (a.put dst x).tmps:=by
 cases dst with
 |none=>exact hr.ev dR
 |some d=>
  intro t;have aq:=hd d rfl;simp only[put,Act.put,aN];by_cases ht:t=d
  .subst ht;rw[aD rfl];have:(a.tmps.setIfInBounds t x).getD t undef=x:=by simp[aq]
   rw[this];exact hv
  rw[ay ht];have:(a.tmps.setIfInBounds d x).getD t undef=a.tmps.getD t undef:=by simp only[Dz];rw[Array.getElem?_setIfInBounds_ne (fun e=>ht e.symm)]
  rw[this];exact(hr t).ev dR.zero
theorem QP(a:Act)(dst:Option Nat)(x:Value):(a.put dst x).tmps.size=a.tmps.size:=by cases dst<;>simp[Act.put]
theorem put_defers(a:Act)(dst:Option Nat)(x:Value):(a.put dst x).defers=a.defers:=by cases dst<;>simp[Act.put]
theorem afN{m:Mem}{ak:Env}{tmps:Array Value}(hr:iO m ak tmps){ops:Array Oper}{o:Oper}{g:Option (Nat×Bool)}{b:Bool}
  (hg:match o.guard with|none=>g=none|some (j,w)=>∃t,(ops[j]?).bind (·.dst)=some t/\g=some (t,w)) (h:wanted ak g=some b):Region.wanted o (yielded ops tmps)=b:=by
 unfold Region.wanted;cases ho:o.guard with
 |none=>rw[ho] at hg;subst hg;simp only[wanted,fL] at h;exact h
 |some q=>
  obtain⟨j,w⟩:=q;rw[ho] at hg;obtain⟨t,h1,rfl⟩:=hg;have hrt:=hr t;simp only[wanted] at h;simp only[yielded,h1,Option.bind_some];split at h
  .rename_i b' hb;rw[hb] at hrt;have hv:=EY hrt;cases h;have:tmps[t]?=some (.bool b'):=by
    rw[Dz] at hv;cases he:tmps[t]? with
    |none=>rw[he] at hv;simp[undef] at hv
    |some y=>rw[he] at hv;simp at hv;rw[hv]
   rw[this];rfl
  .rename_i hb;rw[hb] at hrt;cases h;have hv:tmps.getD t undef=undef:=hrt;rw[Dz] at hv;cases he:tmps[t]? with
   |none=>rfl
   |some y=>rw[he] at hv;simp at hv;rw[hv];rfl
  cases h
theorem ZV{m:Mem}{ak:Env}{f:aQ}{v:Value}{g:Nat}{a b:List C}(h:Eg ak f=some (g,a,b))(hr:bU m (ev ak f) v):∃A B:Array Value,v=.func (.func g) A B/\df m a A.toList/\df m b B.toList:=by
 unfold Eg at h;split at h
 .rename_i g' x y he;cases h;rw[he] at hr;obtain⟨hp⟩:cT m _ v:=hr;cases hp with
  |fn A B ha hb vw vx=>exact⟨A,B,rfl,dd.Du ⟨by simpa using ha,fun j x u p q=>vw j x u p (by simpa using q)⟩,dd.Du ⟨by simpa using hb,fun j x u p q=>vx j x u p (by simpa using q)⟩⟩
 .rename_i g' x y he;cases h;rw[he] at hr;have hc:cT m _ v:=hr;cases hc with
  |hfn A B ha hb vw vx=>exact⟨A,B,rfl,⟨by simpa using ha,fun j x u p q=>vw j x u p (by simpa using q)⟩,⟨by simpa using hb,fun j x u p q=>vx j x u p (by simpa using q)⟩⟩
 cases h
theorem XA{m:Mem}{ak:Env}{a:Act}(hr:iO m ak a.tmps):∀ {xs:List Operand} {ys:List aQ},pY xs=some ys->Pw (bU m) (ys.map (ev ak)) (xs.map a.eval):=by
 intro xs
 induction xs with
 |nil=>intro ys h;simp[pY] at h;subst h;exact⟨rfl,fun j x u p=>by simp at p⟩
 |cons x xs ih=>
  intro ys h;simp only[pY] at h;split at h
  .rename_i y ys' h1 h2;cases h;obtain⟨i1,i2⟩:=ih h2;refine⟨by simpa using i1,fun j z u p q=>?_⟩;cases j with
   |zero=>simp at p q;subst p q;exact eB h1 hr
   |succ j=>exact i2 j z u (by simpa using p) (by simpa using q)
  cases h
theorem Qw{m:Mem}{cs:List C}{vs:List Value}(h:df m cs vs):Pw (bU m) (cs.map .one) vs:=by refine⟨by simpa using h.1,fun j x u p q=>?_⟩;simp only[fT,dx] at p;obtain⟨c,hc,rfl⟩:=p;exact bU.one.2 (h.2 j c u hc q)
theorem ah0{f:Nat}(h:Enters P f)(args:Array Value)(w:World):(callFunc f args).run P w=.ok (.enter f args) w:=by
 obtain⟨fn,c,h1,h2,h3⟩:=h;have h4:¬fn.name= "runtime.NumGoroutine" :=by simpa using h3
 simp[callFunc,run_program,h1,h2,h4]
theorem X1{o:Oper}{c:Call}{fo:Operand}{a:Act}{g:Nat}{A B:Array Value}{w:World}(ho:o.op=.call c)(hc:c.callee=.value fo)(hv:a.eval fo=.func (.func g) A B)(he:Enters P g):
  (execOp a.eval o).run P w=.ok (.enter g (A++c.args.map a.eval++B)) w:=by
 simp[execOp,ho,resolve,hc,hv,Deferred.ofValue,invoke,ah0 he]
theorem adm{site:Nat}{o:Oper}{p:mU}(h:F7 P site o=some p)(hp:∀s f as,p≠ .call s f as){sh:Nat->Bool}{ak:Env}{aj:aw}:(∀f vs r s,bG sh ak aj p≠ .pc f vs r s)/\ ∀f vs,bG sh ak aj p≠ .sc f vs:=by
 cases p<;>first
  |exact(hp _ _ _ rfl).elim
  |(simp only[bG]
    constructor<;>intros<;>intro h<;>(repeat' split at h)<;>first
     |cases h
     |(simp only[Ap,Dj,eF] at h;(repeat' split at h)<;>cases h))
theorem Yp{site:Nat}{o:Oper}{s:Nat}{f:aQ}{as:List aQ}(h:F7 P site o=some (.call s f as)):∃c fo,o.op=.call c/\c.callee=.value fo/\cG fo=some f/\pY c.args.toList=some as:=by
 unfold F7 at h;split at h
 case h_26 c ho=>
  split at h
  .rename_i f' as' h1 h2;simp only[dx] at h;obtain⟨y,h3,h4⟩:=h;cases h4;exact⟨c,f',ho,h1,h3,h2⟩
  all_goals((repeat' split at h)<;>first
   |cases h
   |(simp at h;done))
 all_goals((repeat' split at h)<;>first
  |cases h
  |(simp at h;done))
def FY(w0:World)(m:Mem)(a:Act)(nt:Nat)(aA:Env)(ao:aw)(K:Act->World->Prop):Prop:=∀(a':Act) (m':Mem),Ok w0 m'->Ev m m'->m'.fr=m.fr->m'.aj=ao->iO m' aA a'.tmps->a'.tmps.size=nt->a'.defers=a.defers->K a' m'.w
theorem afQ{o:Oper}{a:Act}{f:Nat}{args:Array Value}{w:World}{K:Act->World->Prop}{Q:Exit->Act->World->Prop}{R:Ending->World->Prop}(jG:(execOp a.eval o).run P w=.ok (.enter f args) w)(hc:Calls P f args w R)
  (hR:∀e w',R e w'->∃v,e=.returned v/\K (a.put o.dst v) w'):o.wp P a w K Q:=by
 unfold Oper.wp;rw[jG,Oper.upon_enter];refine hc.mono ?_;intro e w' he;obtain⟨v,rfl,hk⟩:=hR e w' he;exact hk
theorem afc{G:World->Prop}(hG:Good G w0){cp:fR}{cs:jP}(hP:DO P G cp)(hS:FW P G cs){sh:Ctx}{ops:Array Oper}{base nt anc:Nat}{o:Oper}{io:bI}{m:Mem}{ak aA:Env}{ao:aw}{eff:cy}{a:Act}{K:Act->World->Prop}{Q:Exit->Act->World->Prop}
  (ho:Eb P (fun j=>(ops[j]?).bind (·.dst)) base nt anc o=some io) (cM:step1 sh cp cs io ak m.aj=some (aA,ao,eff)) (au:Ok w0 m) (hr:iO m ak a.tmps) (fS:a.tmps.size=nt) (hK:FY w0 m a nt aA ao K):
  if Region.wanted o (yielded ops a.tmps) then o.wp P a m.w K Q else K (a.put o.dst undef) m.w:=by
 have hio:io.dst=o.dst/\io.op=Iu P base o/\(∀d,o.dst=some d->d<nt)/\(match o.guard with|none=>io.guard=none|some (j,w)=>∃t,(ops[j]?).bind (·.dst)=some t/\io.guard=some (t,w)):=by
  unfold Eb at ho;split at ho
  .rename_i hd;simp only[dx] at ho;obtain⟨g,hg,rfl⟩:=ho;refine⟨rfl,rfl,fun d he=>?_,?_⟩
   .rw[he] at hd
    simpa [Zh] using hd
   cases hgo:o.guard with
   |none=>rw[hgo] at hg;simp[TG] at hg;exact hg.symm
   |some q=>obtain⟨j,w⟩:=q;rw[hgo] at hg;simp only[TG,dx] at hg;obtain⟨t,ht,rfl⟩:=hg;exact⟨t,ht,rfl⟩
  cases ho
 obtain⟨h1,h2,h3,h4⟩:=hio;have hd:∀d,o.dst=some d->d<a.tmps.size:=by rw[fS];exact h3
 unfold step1 at cM;split at cM
 .cases cM
 .rename_i hw;cases cM;rw[afN hr h4 hw];simp only[dQ,if_false];rw[h1] at hK;exact hK _ m au (Ev.refl m) rfl rfl (QO (Ev.refl m) hr (show bU m .undef undef from rfl) hd) (by rw[QP,fS]) (put_defers _ _ _)
 rename_i hw;rw[afN hr h4 hw];simp only[if_true];rw[h2] at cM;unfold Iu at cM;cases zo:F7 P base o with
 |none=>rw[zo] at cM;simp[bG] at cM
 |some p=>
  rw[zo] at cM;simp only[lZ] at cM;split at cM
  .cases cM
  .rename_i v u r hp;split at cM
   case isFalse=>cases cM
   cases cM;obtain⟨x,m',alh,e2,e3,e4,e5,e6⟩:=aoI au hr zo hp;rw[h1] at hK;have hk:=fun x (hx:bU m' v x)=>hK (a.put o.dst x) m' e2 e3 e4 e5 (QO e3 hr hx hd) (by rw[QP,fS]) (put_defers _ _ _);unfold Oper.wp;rcases alh with hd|⟨hd,rfl⟩
   .rw[hd,Oper.upon_value];exact hk x e6
   rw[hd,Oper.upon_skip];exact hk undef e6
  .rename_i f vs r s hp;by_cases Cp:∃s f as,p=.call s f as
   .obtain⟨s',f',as,rfl⟩:=Cp;obtain⟨c,fo,g1,g2,g3,g4⟩:=Yp zo;simp only[bG] at hp;split at hp
    .rename_i g A B hfn;obtain⟨AV,BV,e1,e2,e3⟩:=ZV hfn (eB g3 hr);split at hp
     .cases hp
     split at hp
     .rename_i ws rd qq;cases hp;split at cM
      .rename_i x hx;split at cM
       .rename_i v u hl;split at cM
        case isFalse=>cases cM
        cases cM;have Ck:Pw (bU m) (A.map .one++as.map (ev ak)++B.map .one) (AV++c.args.map a.eval++BV).toList:=by
         have:=((Qw e2).append (XA hr g4)).append (Qw e3)
         simpa using this
        refine afQ (X1 g1 g2 e1 (hP _ _ _ hx).1) (ao4 hP hG au hx qq Ck hl) ?_;rintro e w' ⟨val,m',rfl,rfl,q1,q2,q3,q4,q5⟩
        rw[h1] at hK;exact⟨val,rfl,hK _ m' q1 q2 q3 q4 (QO q2 hr q5 hd) (by rw[QP,fS]) (put_defers _ _ _)⟩
       cases cM
      cases cM
     cases hp
    cases hp
   exact((adm zo (fun s f as e=>Cp ⟨s,f,as,e⟩)).1 _ _ _ _ hp).elim
  rename_i f vs hp;by_cases Cp:∃s f as,p=.call s f as
  .obtain⟨s',f',as,rfl⟩:=Cp;obtain⟨c,fo,g1,g2,g3,g4⟩:=Yp zo;simp only[bG] at hp;split at hp
   .rename_i g A B hfn;obtain⟨AV,BV,e1,e2,e3⟩:=ZV hfn (eB g3 hr);split at hp
    .cases hp;split at cM
     case isFalse=>cases cM
     split at cM
     .rename_i v Ip hx;cases cM;have Ck:Pw (bU m) (A.map .one++as.map (ev ak)++B.map .one) (AV++c.args.map a.eval++BV).toList:=by
       have:=((Qw e2).append (XA hr g4)).append (Qw e3)
       simpa using this
      refine afQ (X1 g1 g2 e1 (hS _ _ _ _ _ _ hx).1) ((hS _ _ _ _ _ _ hx).2 w0 m _ hG au rfl Ck) ?_;rintro e w' ⟨val,m',rfl,rfl,q1,q2,q3,q4,q5⟩
      rw[h1] at hK;exact⟨val,rfl,hK _ m' q1 q2 q3 q4 (QO q2 hr q5 hd) (by rw[QP,fS]) (put_defers _ _ _)⟩
     cases cM
    split at hp<;>cases hp
   cases hp
  exact((adm zo (fun s f as e=>Cp ⟨s,f,as,e⟩)).2 _ _ hp).elim
end Go.Abs
namespace Go.Abs
variable {P:Program} {w0:World}
theorem SS{dst anc:Nat->Option Nat}{base nt i:Nat}{o:Oper}{r:List Oper}{l:List bI}(h:wg P dst anc base nt i (o::r)=some l):
  ∃x xs,l=x::xs/\Eb P dst ((base+i)*64) nt ((anc i).getD 0) o=some x/\wg P dst anc base nt (i+1) r=some xs:=by
 simp only[wg] at h;split at h
 .rename_i x xs h1 h2;cases h;exact⟨x,xs,rfl,h1,h2⟩
 cases h
section
variable {G:World->Prop} (hG:Good G w0) {cp:fR} {cs:jP} (hP:DO P G cp) (hS:FW P G cs) {sh:Ctx}
include hG hP hS
theorem aoM{ops:Array Oper}{anc:Nat->Option Nat}{base nt:Nat}{Q:Exit->Act->World->Prop}:∀(r:List Oper) {l:List bI} {i:Nat} {ak aA:Env} {m:Mem} {ao:aw} {es:List cy} {a:Act},(∀j,ops[i+j]?=r[j]?)->wg P (fun j=>(ops[j]?).bind (·.dst)) anc base nt i r=some l->
  steps sh cp cs l ak m.aj=some (aA,ao,es)->Ok w0 m->iO m ak a.tmps->a.tmps.size=nt->FY w0 m a nt aA ao (fun a' w'=>Q .normal a' w')->wpOps P ops Q (List.range' i r.length) a m.w:=by
 intro r
 induction r with
 |nil=>intro l i ak aA m ao es a _ hc cM au hr fS hK;simp[wg] at hc;subst hc;simp only[steps,fL,kn] at cM;obtain⟨rfl,rfl,_⟩:=cM;simp only[eE,List.range'_zero,wpOps];exact hK a m au (Ev.refl m) rfl rfl hr fS rfl
 |cons o r ih=>
  intro l i ak aA m ao es a MH hc cM au hr fS hK;obtain⟨x,xs,rfl,h1,h2⟩:=SS hc;simp only[steps] at cM;split at cM
  .rename_i ft cn e1 pI;split at cM
   .rename_i dp ba es2 iV;cases cM;have ho:ops[i]?=some o:=by have:=MH 0;simpa using this
    have key:=afc (Q:=Q) (K:=wpOps P ops Q (List.range' (i+1) r.length)) hG hP hS h1 pI au hr fS (fun a1 m1 k1 k2 k3 k4 k5 k6 k7=>by subst k4;refine ih (m:=m1) (fun j=>by have:=MH (j+1);rw[show i+1+j=i+(j+1) by omega];simpa using this) h2 iV k1 k5 k6 ?_;intro a2 m2 p1 p2 p3 p4 p5 p6 p7;exact hK a2 m2 p1 (k2.trans p2) (p3.trans k3) p4 p5 p6 (p7.trans k7))
    simp only[cS,List.range'_succ,wpOps,ho];split at key
    .rename_i hw;rw[aD hw];exact .inl key
    rename_i hw;rw[ay hw];exact key
   cases cM
  cases cM
theorem aqo{ops:Array Oper}{anc:Nat->Option Nat}{base nt id:Nat}{Q:Exit->Act->World->Prop}{l:List bI}{ak aA:Env}{m:Mem}{ao:aw}{es:List cy}{a:Act}(hc:wg P (fun j=>(ops[j]?).bind (·.dst)) anc base nt 0 ops.toList=some l)
  (cM:steps sh cp cs l ak m.aj=some (aA,ao,es)) (au:Ok w0 m) (hr:iO m ak a.tmps) (fS:a.tmps.size=nt) (hK:FY w0 m a nt aA ao (fun a' w'=>Q .normal a' w')):(Code.region id ops false).wp P Q a m.w:=by
 refine wp_region ?_;have:=aoM hG hP hS (sh:=sh) (ops:=ops) (Q:=Q) ops.toList (i:=0) (fun j=>af) hc cM au hr fS hK;rw[aga]
 simpa using this
end
end Go.Abs
namespace Go.Abs
variable {P:Program} {w0:World}
theorem ap8{α β:Type}(g:Array β->α->β):∀(l:List α) (acc:Array β),(l.foldl (fun acc o=>acc.push (g acc o)) acc).size=acc.size+l.length/\
  (∀j,j<acc.size->(l.foldl (fun acc o=>acc.push (g acc o)) acc)[j]?=acc[j]?)/\
  ∀j o,l[j]?=some o->∃pre:Array β,pre.size=acc.size+j/\(∀k,k<pre.size->(l.foldl (fun acc o=>acc.push (g acc o)) acc)[k]?=pre[k]?)/\(l.foldl (fun acc o=>acc.push (g acc o)) acc)[acc.size+j]?=some (g pre o):=by
 intro l
 induction l with
 |nil=>intro acc;exact⟨rfl,fun _ _=>rfl,fun j o h=>by simp at h⟩
 |cons x l ih=>
  intro acc;obtain⟨h1,h2,h3⟩:=ih (acc.push (g acc x));simp only[uY];refine⟨by rw[h1];simp;omega,fun j hj=>?_,fun j o ho=>?_⟩
  .rw[h2 j (by simp;omega),Rv,ay aa]
  cases j with
  |zero=>
   simp at ho;subst ho;refine⟨acc,aa,fun k hk=>?_,?_⟩
   .rw[h2 k (by simp;omega),Rv,ay aa]
   rw[xA,h2 acc.size af,Rv,aD rfl]
  |succ j=>obtain⟨pre,p1,p2,p3⟩:=h3 j o (by simpa using ho);refine⟨pre,by rw[p1];simp;omega,p2,?_⟩;rw[<- p3];simp only[Array.size_push];congr 1;omega
theorem aoN{α:Type}(f:α->Bool)(g:α->Nat)(h:α->Nat):∀(l:List α) (s j:Nat),(l.foldl (fun s e=>if f e then s|||g e|||h e else s) s).testBit j=true->s.testBit j=true\/ ∃e∈l,f e=true/\((g e).testBit j=true\/(h e).testBit j=true):=by
 intro l
 induction l with
 |nil=>intro s j hh;exact .inl hh
 |cons x l ih=>
  intro s j hh;simp only[uY] at hh;rcases ih _ j hh with h1|⟨e,he,h2⟩
  .split at h1
   .rename_i hf;simp only[Nat.testBit_or,sN] at h1;rcases h1 with (h1|h1)|h1
    .exact .inl h1
    .exact .inr ⟨x,af,hf,.inl h1⟩
    exact .inr ⟨x,af,hf,.inr h1⟩
   exact .inl h1
  exact .inr ⟨e,by simp[he],h2⟩
theorem ahJ{ops:Array Oper}(Et:Ie ops=true){i:Nat}{o:Oper}(ho:ops[i]?=some o){j:Nat}(hj:(((Region.before ops)[i]?).getD 0).testBit j=true):
  ∃e∈o.after,Region.binds .any e=true/\e.on<i/\(j=e.on\/(((Region.before ops)[e.on]?).getD 0).testBit j=true):=by
 unfold Region.before at hj ⊢;rw[<- afW] at hj ⊢;obtain⟨h1,h2,h3⟩:=ap8 (fun(acc:Array Nat) (o:Oper)=>o.after.foldl (fun s e=>if Region.binds .any e then s|||2 ^ e.on|||acc.getD e.on 0 else s) 0) ops.toList #[];obtain⟨pre,p1,p2,p3⟩:=h3 i o (by simpa using ho);simp only[Array.size_empty,jm] at p1 p3;rw[p3] at hj;simp only[lZ] at hj;rw[<- afW] at hj;rcases aoN (fun e=>Region.binds .any e) (fun e=>2 ^ e.on) (fun e=>pre.getD e.on 0) _ _ _ hj with h|⟨e,he,hb,I9⟩
 .simp at h
 have aq:i<ops.size:=(Ru.1 ho).1;have EK:e.on<i:=by unfold Ie at Et;have:=ir.1 Et i (by simpa using aq);rw[ho] at this;rw[ir] at this;have:=this e (by simpa using he);simp only[hb,DB,DA,kV] at this;exact this
 refine⟨e,by simpa using he,hb,EK,?_⟩;rcases I9 with I9|I9
 .left;rw[Nat.testBit_two_pow] at I9;have h9:e.on=j:=by simpa using I9
  exact h9.symm
 right;rw[p2 e.on aa]
 simpa [Dz] using I9
theorem Yq{dst:Nat->Option Nat}{base nt anc:Nat}{o:Oper}{io:bI}(h:Eb P dst base nt anc o=some io):io.anc=anc:=by
 unfold Eb at h;split at h
 .simp only[dx] at h;obtain⟨g,_,rfl⟩:=h;rfl
 cases h
structure agn (P:Program) (ops:Array Oper) (base nt:Nat) (rem:List It) (listed:Array Bool):Prop where
 pair:rem.Pairwise fun p q=>p.i<q.i/\(q.io.anc.testBit p.i=true\/OF p q)
 comp:∀p∈rem,∃o,ops[p.i]?=some o/\Eb P (fun j=>(ops[j]?).bind (·.dst)) ((base+p.i)*64) nt (((Region.before ops)[p.i]?).getD 0) o=some p.io
 size:listed.size=ops.size
 free:∀i:Nat,listed[i]?=some false↔ ∃p∈rem,p.i=i
 closed:∀i:Nat,listed[i]?=some true->∀j:Nat,(((Region.before ops)[i]?).getD 0).testBit j=true->listed[j]?=some true
theorem VN{ops:Array Oper}{listed:Array Bool}{i:Nat}:i∈Region.ready .any ops listed↔i<ops.size/\listed.getD i true=false/\ ∃o,ops[i]?=some o/\ ∀e∈o.after,Region.binds .any e=true->listed.getD e.on false=true:=by
 unfold Region.ready;simp only[vS,fg,cN,sM];constructor
 .rintro ⟨h1,h2,h3⟩
  refine⟨h1,h2,ops[i],by simp[h1],fun e he hb=>?_⟩;have ho:ops[i]?=some ops[i]:=by simp[h1]
  rw[ho] at h3;simp only[kU,lZ,Array.all_eq_true'] at h3;have:=h3 e he;rw[hb] at this
  simpa using this
 rintro ⟨h1,h2,o,ho,h3⟩
 refine⟨h1,h2,?_⟩;rw[ho];simp only[kU,lZ,Array.all_eq_true'];intro e he;cases hb:Region.binds .any e with
 |false=>rfl
 |true=>simp[h3 e he hb]
theorem aal{l:Array Bool}{i:Nat}(h:l.getD i true=false):l[i]?=some false:=by
 rw[Dz] at h;cases he:l[i]? with
 |none=>rw[he] at h;simp at h
 |some b=>rw[he] at h;simp at h;rw[h]
theorem akN{l:Array Bool}{i:Nat}(h:l.getD i false=true):l[i]?=some true:=by
 rw[Dz] at h;cases he:l[i]? with
 |none=>rw[he] at h;simp at h
 |some b=>rw[he] at h;simp at h;rw[h]
section
variable {G:World->Prop} (hG:Good G w0) {cp:fR} {cs:jP} (hP:DO P G cp) (hS:FW P G cs) (hL:AL cs) {sh:Ctx}
include hG hP hS hL
theorem agZ{ops:Array Oper}(Et:Ie ops=true){base nt:Nat}{Q:Exit->Act->World->Prop}{aA:Env}{ao:aw}:∀(fuel:Nat) {rem:List It} {listed:Array Bool} {ak:Env} {m:Mem} {a:Act},agn P ops base nt rem listed->rem.length<=fuel->
  steps sh cp cs (rem.map (·.io)) ak m.aj=some (aA,ao,rem.map (·.e))->Ok w0 m->iO m ak a.tmps->a.tmps.size=nt->FY w0 m a nt aA ao (fun a' w'=>Q .normal a' w')->wpAny P .any ops Q fuel listed a m.w:=by
 intro fuel
 induction fuel with
 |zero=>
  intro rem listed ak m a hl hlen cM au hr fS hK;have ama:rem=[]:=by
   cases rem with
   |nil=>rfl
   |cons _ _=>simp at hlen
  subst ama;simp only[pV,steps,fL,kn] at cM;obtain⟨rfl,rfl,_⟩:=cM;refine⟨?_,hK a m au (Ev.refl m) rfl rfl hr fS rfl⟩;refine atO.2 fun i hi=>?_;obtain⟨_,h2,_⟩:=VN.1 hi;obtain⟨p,hp,_⟩:=(hl.free i).1 (aal h2);simp at hp
 |succ fuel ih=>
  intro rem listed ak m a hl hlen cM au hr fS hK;refine⟨fun alO=>?_,fun i hi=>?_⟩
  .cases rem with
   |nil=>simp only[pV,steps,fL,kn] at cM;obtain⟨rfl,rfl,_⟩:=cM;exact hK a m au (Ev.refl m) rfl rfl hr fS rfl
   |cons p rest=>
    exfalso;obtain⟨o,ho,_⟩:=hl.comp p af;have aq:p.i<ops.size:=(Ru.1 ho).1;have qn:p.i∈Region.ready .any ops listed:=by
     refine VN.2 ⟨aq,?_,o,ho,fun e he hb=>?_⟩
     .rw[Dz,(hl.free p.i).2 ⟨p,af,rfl⟩];rfl
     have EK:e.on<p.i:=by unfold Ie at Et;have:=ir.1 Et p.i (by simpa using aq);rw[ho] at this;rw[ir] at this;have:=this e (by simpa using he);simp only[hb,DB,DA,kV] at this;exact this
     have hs:e.on<listed.size:=by rw[hl.size];omega
     rw[Dz];cases aT:listed[e.on] with
     |true=>simp[hs,aT]
     |false=>
      exfalso;obtain⟨q,hq,CL⟩:=(hl.free e.on).1 (by simp[hs,aT]);rcases cI.1 hq with rfl|hq
      .omega
      have:=((FT.1 hl.pair).1 q hq).1;omega
    rw[alO] at qn;simp at qn
  obtain⟨h1,h2,o,ho,h3⟩:=VN.1 hi;obtain⟨p,hp,rfl⟩:=(hl.free i).1 (aal h2);obtain⟨l1,l2,rfl⟩:=List.append_of_mem hp;obtain⟨o',kK,zo⟩:=hl.comp p hp;rw[ho] at kK;cases kK;have aax:∀j:Nat,p.io.anc.testBit j=true->listed[j]?=some true:=by
   intro j hj;rw[Yq zo] at hj;obtain⟨e,he,hb,_,A9⟩:=ahJ Et ho hj;have EK:=akN (h3 e he hb);rcases A9 with rfl|A9
   .exact EK
   exact hl.closed _ EK j A9
  have Jq:=R5.1 hl.pair;have alr:∀x∈l1,OF x p:=by
   intro x hx;rcases(Jq.2.2 x hx p af).2 with h|h
   .have:=aax _ h;rw[(hl.free x.i).2 ⟨x,by simp[hx],rfl⟩] at this;cases this
   exact h
  obtain⟨ft,cn,pI,iV⟩:=asY hL cM alr;have key:=afc (Q:=Q) (K:=wpAny P .any ops Q fuel (listed.setIfInBounds p.i true)) hG hP hS zo pI au hr fS (fun a1 m1 k1 k2 k3 k4 k5 k6 k7=>by
   subst k4;have aq:p.i<listed.size:=by rw[hl.size];exact h1
   refine ih (rem:=l1++l2) ⟨?_,fun q hq=>hl.comp q (by rcases dZ.1 hq with h|h<;>simp[h]),by simp[hl.size],fun k=>?_,fun k hk j hj=>?_⟩ (by simp at hlen ⊢;omega) iV k1 k5 k6 ?_
   .refine R5.2 ⟨Jq.1,(FT.1 Jq.2.1).2,fun x hx y hy=>Jq.2.2 x hx y (by simp[hy])⟩
   .rw[Rw];by_cases hk:p.i=k
    .subst hk;rw[aD rfl,aD aq];constructor
     .intro h;cases h
     rintro ⟨q,hq,CL⟩
     rcases dZ.1 hq with h|h
     .have:=(Jq.2.2 q h p af).1;omega
     have:=((FT.1 Jq.2.1).1 q h).1;omega
    rw[ay hk,hl.free k];constructor
    .rintro ⟨q,hq,CL⟩
     rcases dZ.1 hq with h|h
     .exact⟨q,by simp[h],CL⟩
     rcases cI.1 h with rfl|h
     .exact(hk CL).elim
     exact⟨q,by simp[h],CL⟩
    rintro ⟨q,hq,CL⟩
    rcases dZ.1 hq with h|h
    .exact⟨q,by simp[h],CL⟩
    exact⟨q,by simp[h],CL⟩
   .have vB:∀j:Nat,listed[j]?=some true->(listed.setIfInBounds p.i true)[j]?=some true:=by
     intro j hj;rw[Rw];split
     .first
       |rfl
       |(rename_i e;rw[aD aq])
     exact hj
    by_cases jV:p.i=k
    .subst jV;refine vB j (aax j ?_);rw[Yq zo];exact hj
    rw[Rw,ay jV] at hk;exact vB j (hl.closed k hk j hj)
   intro a2 m2 p1 p2 p3 p4 p5 p6 p7;exact hK a2 m2 p1 (k2.trans p2) (p3.trans k3) p4 p5 p6 (p7.trans k7))
  unfold wpOp;rw[ho];simp only;split at key
  .rename_i hw;rw[aD hw];exact .inl key
  rename_i hw;rw[ay hw];exact key
end
def tu:Nat->List bI->List cy->List It
 |i,x::xs,e::es=>⟨i,x,e⟩::tu (i+1) xs es
 |_,_,_=>[]
theorem aoh:∀ {xs:List bI} {es:List cy} (i:Nat),es.length=xs.length->(tu i xs es).map (·.io)=xs/\(tu i xs es).map (·.e)=es:=by
 intro xs
 induction xs with
 |nil=>intro es i h;cases es with
  |nil=>exact⟨rfl,rfl⟩
  |cons _ _=>simp at h
 |cons x xs ih=>intro es i h;cases es with
  |nil=>simp at h
  |cons e es=>obtain⟨h1,h2⟩:=ih (es:=es) (i+1) (by simpa using h);exact⟨by simp[tu,h1],by simp[tu,h2]⟩
theorem ako{o:bI}:∀ {past:List bI} {j:Nat},Pg o j past=true->∀k x,past[k]?=some x->o.anc.testBit (j+k)=true\/Gj x o=true:=by
 intro past
 induction past with
 |nil=>intro j _ k x h;simp at h
 |cons y past ih=>
  intro j h k x hk;simp only[Pg,cN,sN] at h;cases k with
  |zero=>simp at hk;subst hk;exact h.1
  |succ k=>have:=ih h.2 k x (by simpa using hk);rw[show j+(k+1)=j+1+k by omega];exact this
theorem aoF{anc:Nat}{e:cy}:∀ {past:List cy} {j:Nat},JV anc e j past=true->∀k x,past[k]?=some x->anc.testBit (j+k)=true\/BU x e=false:=by
 intro past
 induction past with
 |nil=>intro j _ k x h;simp at h
 |cons y past ih=>
  intro j h k x hk;simp only[JV,cN,sN,sM] at h;cases k with
  |zero=>simp at hk;subst hk;exact h.1
  |succ k=>have:=ih h.2 k x (by simpa using hk);rw[show j+(k+1)=j+1+k by omega];exact this
theorem aoi:∀ {xs:List bI} {es:List cy} {past:List bI} {pe:List cy},es.length=xs.length->pe.length=past.length->LI xs past=true->rF xs pe es=true->
  (∀(q:It),q∈tu past.length xs es->∀(k:Nat) (x:bI) (e:cy),past[k]?=some x->pe[k]?=some e->q.io.anc.testBit k=true\/(Gj x q.io=true/\BU e q.e=false))/\
  (∀q∈tu past.length xs es,past.length<=q.i)/\(tu past.length xs es).Pairwise fun p q=>p.i<q.i/\(q.io.anc.testBit p.i=true\/OF p q):=by
 intro xs
 induction xs with
 |nil=>
  intro es past pe _ _ _ _;have:tu past.length [] es=[]:=by cases es<;>rfl
  rw[this];exact⟨fun q h=>by simp at h,fun q h=>by simp at h,.nil⟩
 |cons x xs ih=>
  intro es past pe hl hp hf hd;cases es with
  |nil=>simp at hl
  |cons e es=>
   simp only[LI,cN] at hf;simp only[rF,cN] at hd;obtain⟨i1,i2,i3⟩:=ih (es:=es) (past:=past++[x]) (pe:=pe++[e]) (by simpa using hl) (by simp[hp]) hf.2 hd.2;have hlen:(past++[x]).length=past.length+1:=af;rw[hlen] at i1 i2 i3;simp only[tu];refine⟨?_,?_,FT.2 ⟨?_,i3⟩⟩
   .intro q hq k y f hy EB;rcases cI.1 hq with rfl|hq
    .have h1:=ako hf.1 k y hy;have h2:=aoF hd.1 k f EB;rw[jm] at h1 h2;rcases h1 with h1|h1
     .exact .inl h1
     rcases h2 with h2|h2
     .exact .inl h2
     exact .inr ⟨h1,h2⟩
    have hk:k<past.length:=(bg.1 hy).1;exact i1 q hq k y f (by rw[vR hk];exact hy) (by rw[vR aa];exact EB)
   .intro q hq;rcases cI.1 hq with rfl|hq
    .exact bJ _
    have:=i2 q hq;omega
   intro q hq;refine⟨by have:=i2 q hq;simp only;omega,?_⟩;exact i1 q hq past.length x e af (by rw[<- hp];simp)
theorem aog{ops:Array Oper}{anc:Nat->Option Nat}{dst:Nat->Option Nat}{base nt:Nat}:∀ {r:List Oper} {xs:List bI} {es:List cy} {i:Nat},wg P dst anc base nt i r=some xs->es.length=xs.length->(∀j,ops[i+j]?=r[j]?)->
  (∀p∈tu i xs es,∃o,ops[p.i]?=some o/\Eb P dst ((base+p.i)*64) nt ((anc p.i).getD 0) o=some p.io)/\ ∀k,i<=k->k<i+r.length->∃p∈tu i xs es,p.i=k:=by
 intro r
 induction r with
 |nil=>
  intro xs es i h _ _;simp only[wg,fL] at h;subst h;have:tu i [] es=[]:=by cases es<;>rfl
  rw[this];exact⟨fun p h=>by simp at h,fun k h1 h2=>by simp at h2;omega⟩
 |cons o r ih=>
  intro xs es i h hl MH;obtain⟨x,xs',rfl,h1,h2⟩:=SS h;cases es with
  |nil=>simp at hl
  |cons e es=>
   obtain⟨i1,i2⟩:=ih (es:=es) h2 (by simpa using hl) (fun j=>by have:=MH (j+1);rw[show i+1+j=i+(j+1) by omega];simpa using this);refine⟨fun p hp=>?_,fun k cF jV=>?_⟩
   .rcases cI.1 hp with rfl|hp
    .exact⟨o,by have:=MH 0;simpa using this,h1⟩
    exact i1 p hp
   by_cases hk:k=i
   .exact⟨⟨i,x,e⟩,by simp[tu],hk.symm⟩
   obtain⟨p,hp,mu⟩:=i2 k aa (by simp at jV;omega);exact⟨p,by simp[tu,hp],mu⟩
theorem asv{sh:Ctx}{cp:fR}{cs:jP}:∀ {xs:List bI} {ak aA:Env} {aj ao:aw} {es:List cy},steps sh cp cs xs ak aj=some (aA,ao,es)->es.length=xs.length:=by
 intro xs
 induction xs with
 |nil=>intro ak aA aj ao es h;simp only[steps,fL,kn] at h;rw[<- h.2.2];rfl
 |cons x xs ih=>
  intro ak aA aj ao es h;simp only[steps] at h;split at h
  .split at h
   .rename_i h2;cases h;simp[ih h2]
   cases h
  cases h
theorem aiA{dst anc:Nat->Option Nat}{base nt:Nat}:∀ {r:List Oper} {xs:List bI} {i:Nat},wg P dst anc base nt i r=some xs->xs.length=r.length:=by
 intro r
 induction r with
 |nil=>intro xs i h;simp only[wg,fL] at h;subst h;rfl
 |cons o r ih=>intro xs i h;obtain⟨x,xs',rfl,_,h2⟩:=SS h;simp[ih h2]
section
variable {G:World->Prop} (hG:Good G w0) {cp:fR} {cs:jP} (hP:DO P G cp) (hS:FW P G cs) (hL:AL cs) {sh:Ctx}
include hG hP hS hL
theorem ajh(zx:P.follows .mixedOrders=true){ops:Array Oper}{base nt id:Nat}{Q:Exit->Act->World->Prop}{l:List bI}{ak aA:Env}{m:Mem}{ao:aw}{es:List cy}{a:Act}(hc:wg P (fun j=>(ops[j]?).bind (·.dst)) (fun i=>(Region.before ops)[i]?) base nt 0 ops.toList=some l)
  (Et:Ie ops=true) (hf:LI l []=true) (cM:steps sh cp cs l ak m.aj=some (aA,ao,es)) (hd:rF l [] es=true) (au:Ok w0 m) (hr:iO m ak a.tmps) (fS:a.tmps.size=nt) (hK:FY w0 m a nt aA ao (fun a' w'=>Q .normal a' w')):(Code.region id ops true).wp P Q a m.w:=by
 refine wp_region_any zx ?_;have hlen:=asv cM;have lk:l.length=ops.size:=by have:=aiA hc;simpa using this
 obtain⟨g1,g2⟩:=aoh 0 hlen;obtain⟨_,_,hp⟩:=aoi (past:=[]) (pe:=[]) hlen rfl hf hd;obtain⟨c1,c2⟩:=aog (ops:=ops) hc hlen (fun j=>af);have nz:Ok w0 (m.later m.w.drew fun _=>False):=M5 au (fH.drew _) fun _ h=>h.elim;have vq:Ev m (m.later m.w.drew fun _=>False):=JH (fH.drew _) fun _ h=>h.elim;have nT:(m.later m.w.drew fun _=>False).fr=m.fr:=by funext c;simp[Mem.later]
 refine agZ (m:=m.later m.w.drew fun _=>False) hG hP hS hL Et ops.size (rem:=tu 0 l es) (base:=base) ⟨hp,c1,af,fun i=>?_,fun i hi=>?_⟩ ?_ (by rw[g1,g2];exact cM) nz (hr.ev vq) fS ?_
 .constructor
  .intro h;have hi:i<ops.size:=by
    have:=(Ru.1 h).1
    simpa using this
   exact c2 i (bj _) (by simpa using hi)
  rintro ⟨p,hp,rfl⟩
  obtain⟨o,ho,_⟩:=c1 p hp;have hi:p.i<ops.size:=(Ru.1 ho).1;simp[hi]
 .rw[Array.getElem?_replicate] at hi;split at hi<;>simp at hi
 .have:(tu 0 l es).length=l.length:=by have:=congrArg List.length g1;simpa using this
  omega
 intro a2 m2 p1 p2 p3 p4 p5 p6 p7;exact hK a2 m2 p1 (vq.trans p2) (p3.trans nT) p4 p5 p6 p7
end
end Go.Abs
namespace Go.Abs
variable {P:Program} {w0:World}
def toE:mE->Exit
 | .normal=>.normal
 | .exit i=>.exit i
 | .ret=>.ret
section
variable {G:World->Prop} (hG:Good G w0) {cp:fR} {cs:jP} (hP:DO P G cp) (hS:FW P G cs) (hL:AL cs) (zx:P.follows .mixedOrders=true) {sh:Ctx}
include hG hP hS hL zx
theorem ajR{n f nt:Nat}:∀(c:Code) {ic:aH} {ak aA:Env} {m:Mem} {ao:aw} {e:mE} {a:Act} {Q:Exit->Act->World->Prop},oX P f nt c=some ic->exec sh cp cs n ic ak m.aj=some (e,aA,ao)->Ok w0 m->iO m ak a.tmps->a.tmps.size=nt->
  FY w0 m a nt aA ao (fun a' w'=>Q (toE e) a' w')->c.wp P Q a m.w:=by
 intro c
 induction c with
 |skip=>intro ic ak aA m ao e a Q hc hx au hr fS hK;simp only[oX,fL] at hc;subst hc;simp only[exec,fL,kn] at hx;obtain⟨rfl,rfl,rfl⟩:=hx;exact wp_skip (hK a m au (Ev.refl m) rfl rfl hr fS rfl)
 |label l=>intro ic ak aA m ao e a Q hc hx au hr fS hK;simp only[oX,fL] at hc;subst hc;simp only[exec,fL,kn] at hx;obtain⟨rfl,rfl,rfl⟩:=hx;exact wp_label (hK a m au (Ev.refl m) rfl rfl hr fS rfl)
 |ret=>intro ic ak aA m ao e a Q hc hx au hr fS hK;simp only[oX,fL] at hc;subst hc;simp only[exec,fL,kn] at hx;obtain⟨rfl,rfl,rfl⟩:=hx;exact wp_ret (hK a m au (Ev.refl m) rfl rfl hr fS rfl)
 |exit id=>intro ic ak aA m ao e a Q hc hx au hr fS hK;simp only[oX,fL] at hc;subst hc;simp only[exec,fL,kn] at hx;obtain⟨rfl,rfl,rfl⟩:=hx;exact wp_exit (hK a m au (Ev.refl m) rfl rfl hr fS rfl)
 |region id ops draw=>
  intro ic ak aA m ao e a Q hc hx au hr fS hK;simp only[oX] at hc;split at hc
  .rename_i xs MX;cases draw with
   |false=>
    simp only[dQ,if_false,fL] at hc;subst hc;simp only[exec] at hx;split at hx
    .rename_i e1 b1 es cM;simp only[dQ,if_false,fL,kn] at hx;obtain⟨rfl,rfl,rfl⟩:=hx;exact aqo hG hP hS MX cM au hr fS hK
    cases hx
   |true=>
    simp only[if_true] at hc MX;split at hc
    .rename_i vr;simp only[cN] at vr;cases hc;simp only[exec] at hx;split at hx
     .rename_i e1 b1 es cM;simp only[if_true] at hx;split at hx
      .rename_i hd;cases hx;exact ajh hG hP hS hL zx MX vr.1 vr.2 cM hd au hr fS hK
      cases hx
     cases hx
    cases hc
  cases hc
 |seq x y ihx ihy=>
  intro ic ak aA m ao e a Q hc hx au hr fS hK;simp only[oX] at hc;split at hc
  .rename_i ix iy h1 h2;cases hc;simp only[exec] at hx;refine wp_seq ?_;split at hx
   .rename_i ft cn rz;refine ihx h1 rz au hr fS ?_;intro a1 m1 k1 k2 k3 k4 k5 k6 k7;subst k4;refine ihy h2 hx k1 k5 k6 ?_;intro a2 m2 p1 p2 p3 p4 p5 p6 p7;exact hK a2 m2 p1 (k2.trans p2) (p3.trans k3) p4 p5 p6 (p7.trans k7)
   rename_i aI;refine ihx h1 hx au hr fS ?_;intro a1 m1 k1 k2 k3 k4 k5 k6 k7;have:=hK a1 m1 k1 k2 k3 k4 k5 k6 k7;cases e with
   |normal=>exact(aI aA ao hx).elim
   |exit i=>exact this
   |ret=>exact this
  cases hc
 |cond x p q ihp ihq=>
  intro ic ak aA m ao e a Q hc hx au hr fS hK;simp only[oX] at hc;split at hc
  .rename_i c' ip iq h1 h2 h3;cases hc;simp only[exec] at hx;split at hx
   .rename_i t ht;have hv:=eB h1 hr;rw[ht] at hv;refine wp_cond (EY hv) ?_;cases t with
    |true=>simp only[if_true] at hx ⊢;exact ihp h2 hx au hr fS hK
    |false=>simp only[dQ,if_false] at hx ⊢;exact ihq h3 hx au hr fS hK
   cases hx
  cases hc
 |block id c ih=>
  intro ic ak aA m ao e a Q hc hx au hr fS hK;simp only[oX,dx] at hc;obtain⟨ic',h1,rfl⟩:=hc;simp only[exec] at hx;refine wp_block ?_;split at hx
  .rename_i i ft cn rz;refine ih h1 rz au hr fS ?_;intro a1 m1 k1 k2 k3 k4 k5 k6 k7;simp only[toE,Exit.inBlock];split at hx
   .rename_i hi;cases hx;rw[aD hi];exact hK a1 m1 k1 k2 k3 k4 k5 k6 k7
   rename_i hi;cases hx;rw[ay hi];exact hK a1 m1 k1 k2 k3 k4 k5 k6 k7
  rename_i aI;refine ih h1 hx au hr fS ?_;intro a1 m1 k1 k2 k3 k4 k5 k6 k7;have:=hK a1 m1 k1 k2 k3 k4 k5 k6 k7;cases e with
  |normal=>exact this
  |exit i=>exact(aI i aA ao hx).elim
  |ret=>exact this
 |loop c ih=>
  intro ic ak aA m ao e a Q hc hx au hr fS hK;simp only[oX,dx] at hc;obtain⟨ic',h1,rfl⟩:=hc;simp only[exec] at hx;refine wp_loop_rounds n ?_;have key:∀(k:Nat) {ak:Env} {m:Mem} {a:Act},iter (exec sh cp cs n ic') k ak m.aj=some (e,aA,ao)->Ok w0 m->iO m ak a.tmps->a.tmps.size=nt->FY w0 m a nt aA ao (fun a' w'=>Q (toE e) a' w')->Code.rounds P c Q k a m.w:=by
   intro k
   induction k with
   |zero=>intro ak m a hx;simp[iter] at hx
   |succ k ihk=>
    intro ak m a hx au hr fS hK;rw[rounds_succ];simp only[iter] at hx;split at hx
    .rename_i ft cn rz;refine ih h1 rz au hr fS ?_;intro a1 m1 k1 k2 k3 k4 k5 k6 k7;subst k4;refine ihk hx k1 k5 k6 ?_;intro a2 m2 p1 p2 p3 p4 p5 p6 p7;exact hK a2 m2 p1 (k2.trans p2) (p3.trans k3) p4 p5 p6 (p7.trans k7)
    rename_i aI;refine ih h1 hx au hr fS ?_;intro a1 m1 k1 k2 k3 k4 k5 k6 k7;have:=hK a1 m1 k1 k2 k3 k4 k5 k6 k7;cases e with
    |normal=>exact(aI aA ao hx).elim
    |exit i=>exact this
    |ret=>exact this
  exact key n hx au hr fS hK
 |scope c ih=>intro ic ak aA m ao e a Q hc hx au hr fS hK;simp only[oX] at hc;refine wp_scope_straight ?_;refine ih hc hx au hr fS ?_;intro a1 m1 k1 k2 k3 k4 k5 k6 k7;have:=hK a1 m1 k1 k2 k3 k4 k5 k6 k7;cases e<;>exact this
 |_=>intro ic ak aA m ao e a Q hc hx;simp only[oX,fL] at hc;subst hc;simp[exec] at hx
end
end Go.Abs
namespace Go.Abs
variable {P:Program} {w0:World}
section
variable{m:Mem}
theorem asF{k:Option Nat}{cs:List C}{v:V}{u:Value}(h:pS k cs=some v)(hr:bU m v u):nJ m v u:=by
 unfold pS at h;split at h
 .split at h
  .cases h;exact hr
  cases h
 split at h
 .cases h;exact hr
 cases h
theorem aox{x v:V}{u:Value}(h:Qs x=some v)(hr:bU m x u):nJ m v u:=by cases x<;>simp only[Qs,fL,reduceCtorEq] at h<;>subst h<;>exact hr
theorem acI{α β:Type}{f:α->Sem β}{x:α}{xs:List α}{y:β}{ys:List β}{w:World}(h1:(f x).run P w=.ok y w)(h2:(xs.mapM f).run P w=.ok ys w):((x::xs).mapM f).run P w=.ok (y::ys) w:=by simp only[List.mapM_cons,Sem.run_bind,h1,h2,Result.andThen_ok,Sem.run_pure]
theorem aqx{al:Al}(au:Ok w0 m){ak:Env}{tmps:Array Value}(hr:iO m ak tmps):∀ {rs:List ResultVar} {l:List (Nat×Option (Option Nat))} {vs:List V},Bo P rs=some l->oE al ak m.aj l=some vs->
  ∃ys,(rs.mapM (fun| .tmp t=>pure (tmps.getD t undef)| .cell a t=>do loadVar t (<- asAddr (tmps.getD a undef)):ResultVar->Sem Value)).run P m.w=.ok ys m.w/\Pw (nJ m) vs ys:=by
 intro rs
 induction rs with
 |nil=>intro l vs h1 h2;simp only[Bo,fL] at h1;subst h1;simp only[oE,fL] at h2;subst h2;exact⟨[],by simp[Sem.run_pure],rfl,fun j x u p=>by simp at p⟩
 |cons r rs ih=>
  intro l vs h1 h2;have cons:∀ {x:V} {xs:List V} {y:Value} {ys:List Value},nJ m x y->Pw (nJ m) xs ys->Pw (nJ m) (x::xs) (y::ys):=by
   intro x xs y ys p q;refine⟨by simp[q.1],fun j z u a b=>?_⟩;cases j with
   |zero=>simp at a b;subst a b;exact p
   |succ j=>exact q.2 j z u (by simpa using a) (by simpa using b)
  cases r with
  |tmp t=>
   simp only[Bo,dx] at h1;obtain⟨l',h3,rfl⟩:=h1;simp only[oE] at h2;split at h2
   .rename_i v q e1 e2;cases h2;obtain⟨ys,g1,g2⟩:=ih h3 e2;exact⟨_::ys,acI (by simp[Sem.run_pure]) g1,cons (aox e1 (hr t)) g2⟩
   cases h2
  |cell a t=>
   simp only[Bo] at h1;split at h1
   .rename_i k q e1 e2;cases h1;simp only[oE] at h2;split at h2
    .rename_i cs rd ws e3 e4;split at h2
     case isFalse=>cases h2
     simp only[dx] at h2;obtain⟨v,hv,rfl⟩:=h2;obtain⟨ys,g1,g2⟩:=ih e2 e4;obtain⟨ad,y,p1,p2,p3⟩:=acx e1 (aef au e3 (hr a)) hv;exact⟨y::ys,acI (by simp[p1,asAddr,p2]) g1,cons (asF hv p3) g2⟩
    cases h2
   cases h1
theorem aqy{al:Al}(au:Ok w0 m){ak:Env}{tmps:Array Value}(hr:iO m ak tmps){fn:Func}{l:List (Nat×Option (Option Nat))}{vs:List V}(h1:Bo P fn.results.toList=some l)(h2:oE al ak m.aj l=some vs):
  ∃y,(results fn tmps).run P m.w=.ok y m.w/\bU m (An vs) y:=by
 obtain⟨ys,g1,g2⟩:=aqx au hr h1 h2;have jW:(results fn tmps).run P m.w=.ok (if h:ys.toArray.size=1 then ys.toArray[0] else .tuple ys.toArray) m.w:=by
  unfold results;simp only[Array.mapM_eq_mapM_toList,map_eq_pure_bind,Sem.run_bind,Result.andThen_ok,Sem.run_pure,bind_assoc,pure_bind]
  erw[g1]
  simp only[Result.andThen_ok,Sem.run_pure]
 refine⟨_,jW,?_⟩
 match vs,ys,g2 with
 |[v],[y],g2=>exact bU.of1 (g2.2 0 v y rfl rfl)
 |[],[],g2=>exact⟨_,rfl,rfl,fun j x u p=>by simp at p⟩
 |v::v'::vs,y::y'::ys,g2=>refine⟨_,rfl,by simpa using g2.1,fun j x u p q=>g2.2 j x u p (by simpa using q)⟩
 |[],y::ys,g2=>exact absurd g2.1 af
 |v::vs,[],g2=>exact absurd g2.1 af
 |[v],y::y'::ys,g2=>exact absurd g2.1 af
 |v::v'::vs,[y],g2=>exact absurd g2.1 af
theorem Yo{f:Nat}{fn:aS}(h:BX P f=some fn):∃kf c,P.funcs[f]?=some kf/\kf.body=some c/\(kf.name== "runtime.NumGoroutine")=false/\oX P f kf.ntmps c=some fn.body/\Bo P kf.results.toList=some fn.results/\fn.ntmps=kf.ntmps:=by
 unfold BX at h;split at h
 .cases h
 rename_i kf hf;split at h
 .cases h
 rename_i c hc;split at h
 .cases h
 rename_i hn;split at h
 .rename_i b r h1 h2;cases h;exact⟨kf,c,hf,hc,by simpa using hn,h1,h2,rfl⟩
 cases h
def W6(S:Sys)(G:World->Prop):Prop:=∀f vs r,S.prim f vs=some (some r)->Enters S.P f/\ ∀(w:World) (O:Nat->Prop) (args:Array Value),Good G w->(∀c,O c->c<w.heap.size)->Pw (sT w O) vs args.toList->Calls S.P f args w (u6 w O r)
def agq(S:Sys)(G:World->Prop):Prop:=∀f vs al aj v ao,S.trig f vs=true->(S.primS f vs al aj).map (fun r=>(r.1,app r.2 aj))=some (v,ao)->
 (Enters S.P f/\ ∀(w0:World) (m:Mem) (args:Array Value),Good G w0->Ok w0 m->m.aj=aj->Pw (bU m) vs args.toList->Calls S.P f args m.w (H0 w0 m v ao))/\
 (∀id,al.ok id=false->ao id=aj id)/\
 ∀ba,(∀id,al.ok id=true->ba id=aj id)->∃mg,(S.primS f vs al ba).map (fun r=>(r.1,app r.2 ba))=some (v,mg)/\ ∀id,mg id=if al.ok id then ao id else ba id
structure Ib (S:Sys) (G:World->Prop):Prop where
 follow:S.P.follows .mixedOrders=true
 fns:∀f fn,S.fns f=some fn->BX S.P f=some fn
 prim:W6 S G
 primS:agq S G
theorem asn{vs:List V}{args:Array Value}{nt:Nat}(h:Pw (bU m) vs args.toList)(hl:vs.length<=nt):iO m (sk vs) (args++Array.replicate (nt-args.size) undef)/\(args++Array.replicate (nt-args.size) undef).size=nt:=by
 have hs:args.size=vs.length:=by simpa using h.1
 constructor
 .intro t;by_cases ht:t<vs.length
  .have h1:sk vs t=vs[t]:=by simp[sk,List.getD,ht]
   have h2:(args++Array.replicate (nt-args.size) undef).getD t undef=args[t]:=by simp[Dz,afX,hs,ht]
   rw[h1,h2];exact h.2 t _ _ (by simp[ht]) (by simp[hs,ht])
  have h1:sk vs t=.undef:=by simp[sk,List.getD,mS (agh ht)]
  have h2:(args++Array.replicate (nt-args.size) undef).getD t undef=undef:=by simp only[Dz,afX,hs,ay ht];rw[Array.getElem?_replicate];split<;>rfl
  rw[h1,h2];rfl
 simp;omega
theorem ag3(au:Ok w0 m):∀ {o q:List Nat},apart o q=true->(∀id∈o,∃ob,(m.aj id).2=some ob/\ob.fK=true)->(o.map m.σ).Nodup/\ ∀id∈q,id∉o:=by
 intro o
 induction o with
 |nil=>intro q _ _;exact⟨af,fun id _ h=>by simp at h⟩
 |cons i o ih=>
  intro q h hm;simp only[apart,cN,sM] at h;obtain⟨⟨h1,h2⟩,h3⟩:=h;obtain⟨i1,i2⟩:=ih h3 (fun id hid=>hm id (by simp[hid]));have jE:i∉o:=by simpa using h1
  have iS:i∉q:=by simpa using h2
  refine⟨?_,fun id hid=>?_⟩
  .rw[fy,nI];refine⟨fun qn=>?_,i1⟩;obtain⟨j,hj,he⟩:=dI.1 qn;obtain⟨ob,a1,a2⟩:=hm i af;obtain⟨ob',b1,b2⟩:=hm j (by simp[hj]);exact jE (au.inj j i ob' ob b1 b2 a1 a2 he▸hj)
  simp only[cI,Az];exact⟨fun e=>iS (e▸hid),i2 id hid⟩
theorem aoQ{aj:aw}:∀ {cs:List C} {rs:List RC} {o q:List Nat},kh aj cs=some (rs,o,q)->rs.length=cs.length:=by
 intro cs
 induction cs with
 |nil=>intro rs o q h;simp only[kh,fL,kn] at h;obtain⟨rfl,_,_⟩:=h;rfl
 |cons c cs ih=>
  intro rs o q h;simp only[kh] at h;split at h
  .rename_i x o1 q1 xs os qs h1 h2;cases h;simp[ih h2]
  cases h
theorem Ym{α β:Type}{f:α->Option (β×List Nat)}:∀ {xs:List α} {ys:List β} {r:List Nat},collect f xs=some (ys,r)->∀id∈r,∃x y q,f x=some (y,q)/\id∈q:=by
 intro xs
 induction xs with
 |nil=>intro ys r h id hid;simp[collect] at h;rw[h.2] at hid;simp at hid
 |cons x xs ih=>
  intro ys r h id hid;simp only[collect] at h;split at h
  .rename_i b p bs q e1 e2;cases h;rcases dZ.1 hid with hid|hid
   .exact⟨x,b,p,e1,hid⟩
   exact ih e2 id hid
  cases h
theorem ar1{aj:aw}:∀ {n:Nat} {c:C} {x:PV} {r:List Nat},snap aj n c=some (x,r)->∀id∈r,∃ob,(aj id).2=some ob:=by
 intro n
 induction n with
 |zero=>intro c x r h;simp[snap] at h
 |succ n ih=>
  intro c x r h id hid;have one:∀ {i:Nat} {ob:Ob} {g:Nat},aj i=(g,some ob)->id∈[i]->∃ob,(aj id).2=some ob:=by intro i ob g hb hi;simp at hi;subst hi;exact⟨ob,by rw[hb]⟩
  have coll:∀ {cs:List C} {ps:List PV} {r:List Nat},collect (snap aj n) cs=some (ps,r)->id∈r->∃ob,(aj id).2=some ob:=by intro cs ps r h hi;obtain⟨x,y,q,h1,h2⟩:=Ym h id hi;exact ih h1 id h2
  unfold snap at h;split at h
  .cases h;simp at hid
  .split at h
   .rename_i hb;split at h
    .split at h
     .rename_i hc;cases h;rcases cI.1 hid with e|hid
      .exact one hb (by simp[e])
      exact coll hc hid
     cases h
    cases h
   .rename_i hb;split at h
    .cases h;exact one hb hid
    cases h
   cases h
  .split at h
   .rename_i hb;split at h
    .simp only[dx] at h;obtain⟨e,_,h2⟩:=h;cases h2;exact one hb hid
    cases h
   .rename_i hb;split at h
    .simp only[dx] at h;obtain⟨e,_,h2⟩:=h;cases h2;exact one hb hid
    cases h
   cases h
  .split at h
   .rename_i hb;split at h
    .cases h;exact one hb hid
    cases h
   .rename_i hb;split at h
    .cases h;exact one hb hid
    cases h
   .rename_i hb;split at h
    .split at h
     .rename_i hc;cases h;rcases cI.1 hid with e|hid
      .exact one hb (by simp[e])
      obtain⟨x,y,q,h1,h2⟩:=Ym hc id hid;exact coll h1 h2
     cases h
    cases h
   cases h
  .split at h
   .rename_i hb;split at h
    .cases h;exact one hb hid
    cases h
   .rename_i hb;split at h
    .cases h;exact one hb hid
    cases h
   cases h
  split at h
  .rename_i h1 h2;cases h;rcases dZ.1 hid with hid|hid
   .exact coll h1 hid
   exact coll h2 hid
  cases h
theorem aoR{aj:aw}:∀ {cs:List C} {rs:List RC} {o q:List Nat},kh aj cs=some (rs,o,q)->∀id∈q,∃ob,(aj id).2=some ob:=by
 intro cs
 induction cs with
 |nil=>intro rs o q h id hid;simp only[kh,fL,kn] at h;rw[<- h.2.2] at hid;simp at hid
 |cons c cs ih=>
  intro rs o q h id hid;simp only[kh] at h;split at h
  .rename_i x o1 q1 xs os qs h1 h2;cases h;rcases dZ.1 hid with hid|hid
   .have sn:(snap aj ik c).map (fun(v,r)=>((.p v:RC),([]:List Nat),r))=some (x,o1,q1)->∃ob,(aj id).2=some ob:=by
     intro h1;simp only[dx] at h1;obtain⟨⟨y,r⟩,h3,h4⟩:=h1;cases h4;exact ar1 h3 id hid
    unfold gQ at h1;split at h1
    .cases h1;simp at hid
    .split at h1
     .split at h1
      .cases h1;simp at hid
      cases h1
     exact sn h1
    exact sn h1
   exact ih h2 id hid
  cases h
theorem aoT{w:World}{O:Nat->Prop}{m0:Mem}(au:Ok w m)(dR:Ev m0 m)(nv:m0.w=w)(Ud:∀c,¬m0.fK c)(nT:m.fr=O){v:V}{r:RV}{val:Value}(h:gh m.aj v=some r)(hr:bU m v val):u6 w O r (.returned val) m.w:=by
 unfold gh at h;split at h
 .rename_i cs cX;split at h
  .rename_i rs o q ho;split at h
   .rename_i nN;cases h;obtain⟨vs,hc,lU⟩:=akg cX hr;obtain⟨g1,g2⟩:=lU rs (aoQ ho);have hm:=(adA au (Q:=fun _=>False) (fun _ h=>h.elim) ho hc (fun _ _ h=>h)).2;obtain⟨fj,alf⟩:=ag3 au nN hm;have aaw:∀b,(O b\/b∈o.map m.σ)->m.own b:=by
     intro b hb;rcases hb with hb|hb
     .exact .inl (nT▸hb)
     obtain⟨id,hid,rfl⟩:=dI.1 hb;obtain⟨ob,h1,h2⟩:=hm id hid;exact .inr ⟨id,ob,h1,h2,rfl⟩
    have hq:∀id∈q,¬(O (m.σ id)\/m.σ id∈o.map m.σ):=by
     intro id hid hn;obtain⟨ob,hob⟩:=aoR ho id hid;by_cases Jl:ob.fK=true
     .rcases hn with hn|hn
      .exact(au.fi id ob hob Jl).2 (nT▸hn)
      obtain⟨j,hj,he⟩:=dI.1 hn;obtain⟨ob',b1,b2⟩:=hm j hj;exact alf id hid (au.inj j id ob' ob b1 b2 hob Jl he▸hj)
     have dr:¬m.own (m.σ id):=by
      have A9:=au.obj id ob hob;cases ob<;>simp[Ob.fK] at Jl
      .obtain⟨_,_,_,_,_,dr⟩:=A9;exact dr
      .obtain⟨_,_,_,_,_,_,_,_,_,dr⟩:=A9;exact dr
      obtain⟨_,_,_,_,_,dr⟩:=A9;exact dr
     exact dr (aaw _ hn)
    obtain⟨Ba,_⟩:=adA au aaw ho hc hq;subst nv;refine⟨val,o.map m.σ,rfl,⟨dR.os,dR.tape,dR.output,dR.size,fun c hc=>dR.keep c hc (Ud c)⟩,fj,fun c hc=>?_,vs,g2,by rw[g1];exact Ba⟩;obtain⟨id,hid,rfl⟩:=dI.1 hc;obtain⟨ob,h1,h2⟩:=hm id hid;exact⟨(au.fi id ob h1 h2).1,(au.obj id ob h1).lt⟩
   cases h
  cases h
 cases h
theorem sT.vrel{w:World}{O:Nat->Prop}(hw:m.w=w)(ho:m.own=O){x:V}{v:Value}(h:sT w O x v):bU m x v:=by
 subst hw ho;cases x with
 |undef=>exact h.elim
 |tup _=>exact h.elim
 |one c=>
  cases c with
  |p x=>exact mx h
  |_=>exact h.elim
 |agg cs=>obtain⟨arr,ps,rfl,rfl,hp⟩:=h;exact bU.agg.2 ⟨arr,rfl,hp.Du⟩
theorem aqT{sh:Ctx}{cp:fR}{cs:jP}{n:Nat}{fn:aS}{args:List V}{aj ao:aw}{v:V}(h:rI sh cp cs n fn args aj=some (v,ao)):
  ∃e ak vs,exec sh cp cs n fn.body (sk args) aj=some (e,ak,ao)/\(e=.normal\/e=.ret)/\oE sh.al ak ao fn.results=some vs/\v=An vs:=by
 unfold rI at h;split at h
 .rename_i ak b hx;simp only[dx] at h;obtain⟨vs,h1,h2⟩:=h;cases h2;exact⟨_,ak,vs,hx,.inl rfl,h1,rfl⟩
 .rename_i ak b hx;simp only[dx] at h;obtain⟨vs,h1,h2⟩:=h;cases h2;exact⟨_,ak,vs,hx,.inr rfl,h1,rfl⟩
 cases h
theorem aey{G:World->Prop}(hG:Good G w0){cp:fR}{cs:jP}(hP:DO P G cp)(hS:FW P G cs)(hL:AL cs)(zx:P.follows .mixedOrders=true){sh:Ctx}{n f:Nat}{fn:aS}(hc:BX P f=some fn){vs:List V}{m:Mem}{v:V}{ao:aw}{args:Array Value}(h:rI sh cp cs n fn vs m.aj=some (v,ao))
  (hl:vs.length<=fn.ntmps) (au:Ok w0 m) (ha:Pw (bU m) vs args.toList):Calls P f args m.w (H0 w0 m v ao):=by
 obtain⟨kf,c,h1,h2,h3,h4,h5,h6⟩:=Yo hc;obtain⟨e,ak,rs,hx,he,Bb,rfl⟩:=aqT h;refine calls_of_wp h1 h2 ?_;obtain⟨s1,s2⟩:=asn (nt:=kf.ntmps) ha (by rw[<- h6];exact hl);refine ajR hG hP hS hL zx c h4 hx au s1 s2 ?_;intro a' m' k1 k2 k3 k4 k5 k6 k7;subst k4;obtain⟨y,g1,g2⟩:=aqy k1 k5 h5 Bb;have:bodyPost P kf (H0 w0 m (An rs) m'.aj) .normal a' m'.w:=⟨k7,y,g1,y,m',rfl,rfl,k1,k2,k3,rfl,g2⟩;rcases he with rfl|rfl
 .exact this
 exact this
theorem enters_of{f:Nat}{fn:aS}(hc:BX P f=some fn):Enters P f:=by obtain⟨kf,c,h1,h2,h3,_⟩:=Yo hc;exact⟨kf,c,h1,h2,h3⟩
theorem sound{S:Sys}{G:World->Prop}(h:Ib S G):∀n,DO S.P G (fZ S n)/\FW S.P G (gb S n)/\AL (gb S n):=by
 intro n
 induction n with
 |zero=>exact⟨fun f vs r h=>by simp[fZ] at h,fun f vs al aj v ao h=>by simp[gb] at h,fun f vs al aj v ao h=>by simp[gb] at h⟩
 |succ n ih=>
  obtain⟨hP,hS,hL⟩:=ih;refine⟨?_,?_,?_⟩
  .intro f vs r hc;rw[fZ] at hc;split at hc
   .rename_i r' hp;subst hc;exact h.prim f vs r hp
   split at hc
   .rename_i fn hfn;have vm:=h.fns f fn hfn;split at hc
    .rename_i hl;refine⟨enters_of vm,fun w O args hG hO ha=>?_⟩;unfold Fy at hc;split at hc
     .rename_i v ao hr
      let m0:Mem:=⟨w,vG,fun _=>0,fun _=>0,O⟩
      have al4:m0.own=O:=by
       funext c;apply propext;constructor
       .rintro (h|⟨id,o,h,_⟩)
        .exact h
        cases h
       exact .inl
      have au:Ok w m0:=⟨rfl,rfl,rfl,bJ _,fun _ _=>rfl,(fun id o h=>by cases h),(fun id o h=>by cases h),hO,(fun id eZ o o' h=>by cases h)⟩;have hav:Pw (bU m0) vs args.toList:=⟨ha.1,fun j x u p q=>(ha.2 j x u p q).vrel rfl al4⟩;refine(aey hG hP hS hL h.follow vm (m:=m0) hr hl au hav).mono ?_;rintro e w' ⟨val,m',rfl,rfl,q1,q2,q3,q4,q5⟩
      subst q4;exact aoT (m0:=m0) q1 q2 rfl (fun c ⟨id,o,h,_⟩=>by cases h) q3 hc q5
     cases hc
    cases hc
   cases hc
  .intro f vs al aj v ao hc;rw[gb] at hc;by_cases ht:S.trig f vs=true
   .rw[aD ht] at hc;exact(h.primS f vs al aj v ao ht hc).1
   rw[ay ht] at hc;split at hc
   .rename_i fn hfn;have vm:=h.fns f fn hfn;split at hc
    .rename_i hl;refine⟨enters_of vm,fun w0 m args hG au hb ha=>?_⟩;subst hb;exact aey hG hP hS hL h.follow vm hc hl au ha
    cases hc
   cases hc
  intro f vs al aj v ao hc;rw[gb] at hc;by_cases ht:S.trig f vs=true
  .rw[aD ht] at hc;obtain⟨_,l1,l2⟩:=h.primS f vs al aj v ao ht hc;refine⟨l1,fun ba h2=>?_⟩;obtain⟨b3,h3,h4⟩:=l2 ba h2;exact⟨b3,by rw[gb,aD ht];exact h3,h4⟩
  rw[ay ht] at hc;split at hc
  .rename_i fn hfn;split at hc
   .rename_i hl;obtain⟨l1,l2⟩:=aqS hL hc;refine⟨l1,fun ba h2=>?_⟩;obtain⟨b3,h3,h4⟩:=l2 ba h2;exact⟨b3,by rw[gb,ay ht];simp only[hfn,hl,if_true];exact h3,h4⟩
   cases hc
  cases hc
theorem aF.calls{S:Sys}{G:World->Prop}(h:Ib S G){f:Nat}{vs:List V}{r:RV}(hc:aF S f vs r)(w:World)(hG:Good G w)(args:Array Value)(ha:Pw (sT w fun _=>False) vs args.toList):Calls S.P f args w (u6 w (fun _=>False) r):=by obtain⟨n,hn⟩:=hc;exact((sound h n).1 f vs r hn).2 w _ args hG (fun c h=>h.elim) ha
end
end Go.Abs
namespace Go.Abs
section
variable{args:List V}{cs:jP}{cp:fR}{sh:Ctx}
def Cc(op:BinOp)(a b:Nat)(other:Option V):Option V:=
 match op with
 | .add=>bif Nat.ble (Nat.add a b) 9223372036854775807 then some (.one (.p (.int .i64 (.ofNat (Nat.add a b))))) else other
 | .sub=>bif Nat.ble b a then bif Nat.ble a 9223372036854775807 then some (.one (.p (.int .i64 (.ofNat (Nat.sub a b))))) else other else other
 | .mul=>bif Nat.ble (Nat.mul a b) 9223372036854775807 then some (.one (.p (.int .i64 (.ofNat (Nat.mul a b))))) else other
 | .eql=>some (.one (.p (.bool (Nat.beq a b))))
 | .neq=>some (.one (.p (.bool (!Nat.beq a b))))
 | .lss=>some (.one (.p (.bool (Nat.ble (Nat.succ a) b))))
 | .leq=>some (.one (.p (.bool (Nat.ble a b))))
 | .gtr=>some (.one (.p (.bool (Nat.ble (Nat.succ b) a))))
 | .geq=>some (.one (.p (.bool (Nat.ble b a))))
 | .rem=>bif Nat.beq b 0 then other else some (.one (.p (.int .i64 (.ofNat (Nat.mod a b)))))
 |_=>other
def SG(op:BinOp)(x y:V):Option V:=
 match x,y with
 | .one (.p (.int .i64 (.ofNat a))),.one (.p (.int .i64 (.ofNat b)))=>Cc op a b (qL op x y)
 |_,_=>qL op x y
theorem N5{n:Nat}(h:n<=9223372036854775807):IntKind.i64.wrap (n:Int)=n:=by have e:(2 ^ IntKind.i64.bits:Int)=18446744073709551616:=ae;have e2:(2 ^ (IntKind.i64.bits-1):Int)=9223372036854775808:=ae;unfold IntKind.wrap;simp only[e,e2];have h1:(n:Int)%18446744073709551616=n:=aa;rw[h1];have h2:¬(n:Int)≥9223372036854775808:=aa;simp[h2]
theorem aj2(op:BinOp)(a b:Nat):Cc op a b (qL op (.one (.p (.int .i64 (.ofNat a)))) (.one (.p (.int .i64 (.ofNat b)))))=qL op (.one (.p (.int .i64 (.ofNat a)))) (.one (.p (.int .i64 (.ofNat b)))):=by
 have hb:∀ {x:Bool} {u v w:Option V},(x=true->u=w)->v=w->(bif x then u else v)=w:=by
  intro x u v w h1 h2;cases x with
  |false=>exact h2
  |true=>exact h1 rfl
 have ofn:∀n:Nat,(Int.ofNat n:Int)=(n:Int):=fun _=>rfl;have ble:∀ {a b:Nat},Nat.ble a b=decide ((a:Int)<=(b:Int)):=by
  intro a b;cases h:Nat.ble a b with
  |true=>have:=iv h;symm;simp;omega
  |false=>
   symm;simp;have:¬a<=b:=fun hh=>by rw[R9 hh] at h;cases h
   omega
 have beq:∀ {a b:Nat},Nat.beq a b=((a:Int)==(b:Int)):=by
  intro a b;by_cases h:a=b
  .subst h;simp
  have h1:Nat.beq a b=false:=by
   cases e:Nat.beq a b with
   |false=>rfl
   |true=>exact(h (vV e)).elim
  rw[h1];symm;simp;omega
 cases op
 case add=>refine hb (fun h=>?_) rfl;have h:a+b<=9223372036854775807:=iv h;have:((a:Int)+(b:Int))=((a+b:Nat):Int):=aa;simp only[qL,tK,true_or,if_true,kU,ofn];rw[this,N5 h];rfl
 case sub=>refine hb (fun h0=>hb (fun h=>?_) rfl) rfl;have h:=iv h;have h0:=iv h0;have:((a:Int)-(b:Int))=((a-b:Nat):Int):=aa;simp only[qL,tK,true_or,if_true,kU,ofn];rw[this,N5 aa];rfl
 case mul=>refine hb (fun h=>?_) rfl;have h:a*b<=9223372036854775807:=iv h;have:((a:Int)*(b:Int))=((a*b:Nat):Int):=af;simp only[qL,tK,true_or,if_true,kU,ofn];rw[this,N5 h];rfl
 case rem=>
  by_cases h0:b=0
  .subst h0;rfl
  have h1:Nat.beq b 0=false:=by
   cases e:Nat.beq b 0 with
   |false=>rfl
   |true=>exact(h0 (vV e)).elim
  have h2:¬(b:Int)=0:=aa;simp only[Cc,h1,cond_false,qL,tK,true_or,if_true,kU,ofn,ay h2];rfl
 case eql=>simp only[Cc,qL,tK,true_or,if_true,kU,ofn,beq]
 case neq=>simp only[Cc,qL,tK,true_or,if_true,kU,ofn,beq];rfl
 case lss=>simp only[Cc,qL,tK,true_or,if_true,kU,ofn,ble];congr 4
 case leq=>simp only[Cc,qL,tK,true_or,if_true,kU,ofn,ble]
 case gtr=>simp only[Cc,qL,tK,true_or,if_true,kU,ofn,ble];congr 4
 case geq=>simp only[Cc,qL,tK,true_or,if_true,kU,ofn,ble]
 all_goals rfl
theorem ahV(op:BinOp)(x y:V):SG op x y=qL op x y:=by
 unfold SG;split
 .exact aj2 _ _ _
 rfl
def BM(v:V):Option Nat:=
 match v with
 | .one (.p (.int _ (.ofNat n)))=>some n
 |v=>oQ v
theorem XB(v:V):BM v=oQ v:=by
 unfold BM;split
 .simp[oQ]
 rfl
def Iq(ak:Env)(d:Nat):Option aQ->Option Nat
 |none=>some d
 |some a=>BM (ev ak a)
theorem ahY(ak:Env)(d:Nat)(a:Option aQ):Iq ak d a=rT ak d a:=by
 cases a with
 |none=>rfl
 |some a=>simp only[Iq,rT,XB]
def apG(ak:Env)(x:aQ):fq:=.done (ev ak x) [] []
def apK(ak:Env)(c:aQ)(a:aQ)(b:aQ):fq:=match ev ak c with
  | .one (.p (.bool t))=>.done (if t then ev ak a else ev ak b) [] []
  |_=>.fail
def api(aj:aw)(s:Nat)(z:List PV):fq:=.done (.one (.aX s ((aj s).1+1) 0)) [(s,((aj s).1+1,some (.var (z.map .p))))] [s]
def apl(ak:Env)(aj:aw)(s:Nat)(x:aQ):fq:=match rU (ev ak x) with
  |some cs=>.done (.one (.aX s ((aj s).1+1) 0)) [(s,((aj s).1+1,some (.var cs)))] [s]
  |none=>.fail
def apo(ak:Env)(z:List PV)(ps:List (Nat×Nat×aQ)):fq:=match yA ak ps with
  |some q=>.done (.agg (fill (z.map .p) q)) [] []
  |none=>.fail
def apm(ak:Env)(aj:aw)(s:Nat)(ty:Nat)(sz:Nat)(ps:List aQ):fq:=match zh ak sz ps with
  |some es=>match Am es with
   |some qs=>.done (.one (.hsl s ((aj s).1+1) sz 0 es.length)) [(s,((aj s).1+1,some (.arr ty sz qs)))] [s]
   |none=>.done (.one (.hsl s ((aj s).1+1) sz 0 es.length)) [(s,((aj s).1+1,some (.gU ty sz es)))] [s]
  |none=>.fail
def apz(ak:Env)(aj:aw)(k:Option Nat)(x:aQ):fq:=match Bn aj (ev ak x) with
  |some (cs,r)=>match pS k cs with
   |some v=>.done v [] r
   |none=>.fail
  |none=>.fail
def apN(ak:Env)(aj:aw)(n:Nat)(a:aQ)(x:aQ):fq:=match rU (ev ak x) with
  |some xs=>Ap aj (ev ak a) n xs
  |none=>.fail
def apI(ak:Env)(x:aQ):fq:=match ev ak x with
  | .one (.aX id g o)=>.done (.one (.aX id g o)) [] []
  | .one (.de id g i o)=>.done (.one (.de id g i o)) [] []
  | .one (.p (.box cs))=>.done (.one (.p (.box cs))) [] []
  | .one (.hfn f a b)=>.done (.one (.hfn f a b)) [] []
  | .one (.p (.fn f a b))=>.done (.one (.p (.fn f a b))) [] []
  |_=>.fail
def adY(ak:Env)(op:BinOp)(x:aQ)(y:aQ):fq:=match SG op (ev ak x) (ev ak y) with
  |some v=>.done v [] []
  |none=>.fail
def apu(ak:Env)(k:u4)(neg:Bool)(x:aQ)(y:aQ):fq:=match Cb k (ev ak x) (ev ak y) with
  |some b=>.done (.one (.p (.bool (if neg then !b else b)))) [] []
  |none=>.fail
def apP(ak:Env)(op:UnOp)(x:aQ):fq:=match op,ev ak x with
  | .not,.one (.p (.bool b))=>.done (.one (.p (.bool (!b)))) [] []
  | .neg,.one (.p (.int k n))=>.done (.one (.p (.int k (k.wrap (0-n))))) [] []
  |_,_=>.fail
def aps(ak:Env)(k:IntKind)(x:aQ):fq:=match ev ak x with
  | .one (.p (.int _ n))=>.done (.one (.p (.int k (k.wrap n)))) [] []
  |_=>.fail
def apn(ak:Env)(aj:aw)(x:aQ):fq:=match ed aj (ev ak x) with
  |some (es,r,[])=>match bytesOf es with
   |some bs=>.done (.one (.p (.str ⟨bs.toArray⟩))) [] r
   |none=>.fail
  |_=>.fail
def apD(ak:Env)(f:Nat)(a:List aQ)(b:List aQ):fq:=match vI ak a,vI ak b with
  |some x,some y=>.done (.one (.hfn f x y)) [] []
  |_,_=>.fail
def apE(aj:aw)(s:Nat)(ag:Bool):fq:=.done (.one (.jW s ((aj s).1+1))) [(s,((aj s).1+1,some (.map ag [])))] [s]
def ad1(ak:Env)(aj:aw)(s:Nat)(ty:Nat)(sz:Nat)(bytes:Nat)(z:List PV)(l:aQ)(c:aQ):fq:=match BM (ev ak l),BM (ev ak c) with
  |some n,some m=>if n=m/\n*bytes<=room then
    .done (.one (.hsl s ((aj s).1+1) sz 0 n)) [(s,((aj s).1+1,some (.arr ty sz (List.replicate n z))))] [s]
   else .fail
  |_,_=>.fail
def ad3(ak:Env)(sz:Nat)(x:aQ)(lo:Option aQ)(hi:Option aQ):fq:=match yt (ev ak x) with
  |some n=>match Iq ak 0 lo,Iq ak n hi with
   |some l,some h=>Dj (ev ak x) sz l h
   |_,_=>.fail
  |none=>.fail
def ad4(ak:Env)(x:aQ)(lo:Option aQ)(hi:Option aQ):fq:=match ev ak x with
  | .one (.p (.str s))=>match Iq ak 0 lo,Iq ak s.size hi with
   |some l,some h=>if l<=h/\h<=s.size then .done (.one (.p (.str (s.extract l h)))) [] [] else .fail
   |_,_=>.fail
  |_=>.fail
def apw(ak:Env)(off:Nat)(x:aQ):fq:=match ev ak x with
  | .one (.aX id g o)=>.done (.one (.aX id g (o+off))) [] []
  | .one (.de id g i o)=>.done (.one (.de id g i (o+off))) [] []
  | .one (.p (.box cs))=>.done (.one (.p (.box (cs.drop off)))) [] []
  |_=>.fail
def adZ(ak:Env)(sz:Nat)(x:aQ)(i:aQ):fq:=match BM (ev ak i),ev ak x with
  |some n,.one (.p (.sl es))=>match es[n]? with
   |some e=>if e.length=sz then .done (.one (.p (.box e))) [] [] else .fail
   |none=>.fail
  |some n,.one (.hsl id g z off len)=>if n<len/\z=sz then .done (.one (.de id g (off+n) 0)) [] [] else .fail
  |_,_=>.fail
def adW(ak:Env)(len:Nat)(sz:Nat)(x:aQ)(i:aQ):fq:=match BM (ev ak i),ev ak x with
  |some n,.one (.aX id g o)=>if n<len then .done (.one (.aX id g (o+n*sz))) [] [] else .fail
  |some n,.one (.de id g j o)=>if n<len then .done (.one (.de id g j (o+n*sz))) [] [] else .fail
  |some n,.one (.p (.box cs))=>if n<len then .done (.one (.p (.box (cs.drop (n*sz))))) [] [] else .fail
  |_,_=>.fail
def apx(ak:Env)(off:Nat)(k:Option Nat)(x:aQ):fq:=match ev ak x with
  | .agg cs=>match pS k (cs.drop off) with
   |some v=>.done v [] []
   |none=>.fail
  |_=>.fail
def adX(ak:Env)(len:Nat)(sz:Nat)(k:Option Nat)(x:aQ)(i:aQ):fq:=match BM (ev ak i),ev ak x with
  |some n,.agg cs=>if n<len then
    match pS k (cs.drop (n*sz)) with
    |some v=>.done v [] []
    |none=>.fail
   else .fail
  |_,_=>.fail
def ad2(ak:Env)(x:aQ)(i:aQ):fq:=match BM (ev ak i),ev ak x with
  |some n,.one (.p (.str s))=>match s[n]? with
   |some b=>.done (.one (.p (.int .u8 b.toNat))) [] []
   |none=>.fail
  |_,_=>.fail
def apA(ak:Env)(aj:aw)(kd:Nat)(z:List PV)(agg:Bool)(ok:Bool)(x:aQ)(k:aQ):fq:=match mapOf aj agg (ev ak x),ev ak k with
  |some (es,r),.one (.p q)=>if gZ q≠kd then .fail else match oZ q es 0 with
   |some f=>match mapVal agg ((f.map (·.2)).getD z) with
    |some w=>.done (if ok then .tup [w,.one (.p (.bool f.isSome))] else w) [] r
    |none=>.fail
   |none=>.fail
  |_,_=>.fail
def apk:fq:=.fail
def apH(ak:Env)(aj:aw)(kd:Nat)(ag:Bool)(m:aQ)(k:aQ)(v:aQ):fq:=match ev ak m,ev ak k,xH ag (ev ak v) with
  | .one (.jW id g),.one (.p q),some cs=>match aj id,Bx cs with
   |(g',some (.map rS es)),some ps=>if g'=g/\rS=ag/\gZ q=kd then
     match oZ q es 0 with
     |some (some (i,_))=>.done .undef [(id,(g,some (.map ag (es.set i (q,ps)))))] [id]
     |some none=>.done .undef [(id,(g,some (.map ag (es++[(q,ps)]))))] [id]
     |none=>.fail
    else .fail
   |_,_=>.fail
  |_,_,_=>.fail
def apv(ak:Env)(x:aQ)(i:Nat):fq:=match ev ak x with
  | .tup vs=>match vs[i]? with
   |some v=>.done v [] []
   |none=>.fail
  |_=>.fail
def apq(shared:Nat->Bool)(ak:Env)(aj:aw)(s:Nat)(f:aQ)(as:List aQ):fq:=match Eg ak f with
  |some (g,a,b)=>
   if shared g then .sc g (a.map .one++as.map (ev ak)++b.map .one)
   else match Bv aj (a.map .one++as.map (ev ak)++b.map .one) with
    |some (vs,r)=>.pc g vs r s
    |none=>.fail
  |none=>.fail
def apM(ak:Env)(x:aQ):fq:=match ev ak x with
  | .one (.p (.str s))=>.done (.one (.p (.int .i64 s.size))) [] []
  |_=>.fail
def apy(ak:Env)(x:aQ):fq:=match yt (ev ak x) with
  |some n=>.done (.one (.p (.int .i64 n))) [] []
  |none=>.fail
def apF(ak:Env)(aj:aw)(x:aQ):fq:=match zU aj (ev ak x) with
  |some (n,r)=>.done (.one (.p (.int .i64 n))) [] r
  |none=>.fail
def apj(ak:Env)(aj:aw)(s:Nat)(ty:Nat)(sz:Nat)(bytes:Nat)(d:aQ)(x:aQ):fq:=eF aj s ty sz bytes (ev ak d) (ev ak x)
def apB(ak:Env)(x:aQ)(y:aQ):fq:=match ev ak x,ev ak y with
  | .one (.p (.int k a)),.one (.p (.int _ b))=>.done (.one (.p (.int k (if b>a then b else a)))) [] []
  |_,_=>.fail
def apC(ak:Env)(x:aQ)(y:aQ):fq:=match ev ak x,ev ak y with
  | .one (.p (.int k a)),.one (.p (.int _ b))=>.done (.one (.p (.int k (if b<a then b else a)))) [] []
  |_,_=>.fail
def apr(ak:Env)(aj:aw)(z:List PV)(x:aQ):fq:=match ev ak x with
  | .one (.p .nils)=>.done (.tup []) [] []
  | .one (.p (.sl []))=>.done (.tup []) [] []
  | .one (.hsl id g _ off len)=>if len=0 then .done (.tup []) [] [] else match aj id with
   |(g',some (.arr ty sz es))=>if g'=g/\sz=z.length/\off+len<=es.length then .done (.tup []) [(id,(g,some (.arr ty sz (eV es off (List.replicate len z)))))] [id] else .fail
   |_=>.fail
  |_=>.fail
def VH(shared:Nat->Bool)(ak:Env)(aj:aw):mU->fq
 | .iY x=>apG ak x
 | .pick c a b=>apK ak c a b
 | .alloc s z=>api aj s z
 | .box s x=>apl ak aj s x
 | .build z ps=>apo ak z ps
 | .DS s ty sz ps=>apm ak aj s ty sz ps
 | .load k x=>apz ak aj k x
 | .store n a x=>apN ak aj n a x
 | .JS x=>apI ak x
 | .bin op x y=>adY ak op x y
 | .eqc k neg x y=>apu ak k neg x y
 | .un op x=>apP ak op x
 | .conv k x=>aps ak k x
 | .bstr x=>apn ak aj x
 | .mkfn f a b=>apD ak f a b
 | .mkmap s ag=>apE aj s ag
 | .JM s ty sz bytes z l c=>ad1 ak aj s ty sz bytes z l c
 | .slice sz x lo hi=>ad3 ak sz x lo hi
 | .sslice x lo hi=>ad4 ak x lo hi
 | .ng off x=>apw ak off x
 | .GZ sz x i=>adZ ak sz x i
 | .Ic len sz x i=>adW ak len sz x i
 | .fld off k x=>apx ak off k x
 | .aidx len sz k x i=>adX ak len sz k x i
 | .sidx x i=>ad2 ak x i
 | .lookup kd z agg ok x k=>apA ak aj kd z agg ok x k
 | .bad=>apk
 | .mupd kd ag m k v=>apH ak aj kd ag m k v
 | .extract x i=>apv ak x i
 | .call s f as=>apq shared ak aj s f as
 | .slen x=>apM ak x
 | .JJ x=>apy ak x
 | .mlen x=>apF ak aj x
 | .append s ty sz bytes d x=>apj ak aj s ty sz bytes d x
 | .max x y=>apB ak x y
 | .min x y=>apC ak x y
 | .clear z x=>apr ak aj z x
theorem aph(shared:Nat->Bool)(ak:Env)(aj:aw)(o:mU):VH shared ak aj o=bG shared ak aj o:=by
 cases o<;>first
  |rfl
  |simp only[VH,bG,adY,ad1,ad3,ad4,adZ,adW,adX,ad2,ahV,XB,ahY]<;>rfl
inductive Tr where
 |leaf
 |node (v:V) (l r:Tr)
noncomputable def Tr.get (t:Tr):Nat->V:=Tr.rec (motive:=fun _=>Nat->V) (fun _=>.undef) (fun v _ _ gl gr n=>bif Nat.beq n 0 then v else bif Nat.beq (Nat.mod n 2) 1 then gl (Nat.div n 2) else gr (Nat.sub (Nat.div n 2) 1)) t
noncomputable def Tr.single (k:Nat):Nat->V->Tr:=Nat.rec (motive:=fun _=>Nat->V->Tr) (fun _ _=>.leaf) (fun _ ih n x=>bif Nat.beq n 0 then .node x .leaf .leaf else bif Nat.beq (Nat.mod n 2) 1 then .node .undef (ih (Nat.div n 2) x) .leaf else .node .undef .leaf (ih (Nat.sub (Nat.div n 2) 1) x)) k
noncomputable def Tr.set (t:Tr):Nat->V->Tr:=Tr.rec (motive:=fun _=>Nat->V->Tr) (fun n x=>Tr.single 12 n x) (fun v l r sl sr n x=>bif Nat.beq n 0 then .node x l r else bif Nat.beq (Nat.mod n 2) 1 then .node v (sl (Nat.div n 2) x) r else .node v l (sr (Nat.sub (Nat.div n 2) 1) x)) t
theorem Fj{a b:Nat}(h:a≠b):Nat.beq a b=false:=by
 cases e:Nat.beq a b with
 |false=>rfl
 |true=>exact(h (vV e)).elim
theorem akO(n:Nat):Tr.leaf.get n=.undef:=rfl
theorem Pm(v:V)(l r:Tr)(n:Nat):(Tr.node v l r).get n=if n=0 then v else if n%2=1 then l.get (n/2) else r.get (n/2-1):=by
 show(bif Nat.beq n 0 then v else bif Nat.beq (n%2) 1 then l.get (n/2) else r.get (n/2-1))=_;by_cases h0:n=0
 .subst h0;rfl
 rw[Fj h0,ay h0];by_cases h1:n%2=1
 .rw[h1];rfl
 rw[Fj h1,ay h1];rfl
theorem afb(f:Tr->Tr)(g:Tr->Tr)(v:V)(l r:Tr)(n m:Nat)(x:V)(hl:n%2=1->(f l).get (m/2)=if m/2=n/2 then x else l.get (m/2))(hr:n≠0->n%2≠1->(g r).get (m/2-1)=if m/2-1=n/2-1 then x else r.get (m/2-1)):
  (bif Nat.beq n 0 then Tr.node x l r else bif Nat.beq (n%2) 1 then .node v (f l) r else .node v l (g r)).get m=if m=n then x else (Tr.node v l r).get m:=by
 by_cases h0:n=0
 .subst h0;simp only[WY,cond_true,Pm];by_cases hm:m=0<;>simp[hm]
 rw[Fj h0];by_cases h1:n%2=1
 .rw[h1];simp only[cond_false,WY,cond_true,Pm];by_cases hm:m=0
  .subst hm;rw[aD rfl,ay (fun e=>h0 e.symm),aD rfl]
  rw[ay hm];by_cases mL:m%2=1
  .rw[aD mL,hl h1];by_cases he:m=n
   .subst he;simp
   rw[ay he,ay aa,ay hm,aD mL]
  rw[ay mL,ay aa,ay hm,ay mL]
 rw[Fj h1];simp only[cond_false,Pm];by_cases hm:m=0
 .subst hm;rw[aD rfl,ay (fun e=>h0 e.symm),aD rfl]
 rw[ay hm];by_cases mL:m%2=1
 .rw[aD mL,ay aa,ay hm,aD mL]
 rw[ay mL,hr h0 h1];by_cases he:m=n
 .subst he;simp
 rw[ay he,ay aa,ay hm,ay mL]
theorem arH:∀(k n m:Nat) (x:V),n+1<2 ^ k->(Tr.single k n x).get m=if m=n then x else Tr.leaf.get m:=by
 intro k
 induction k with
 |zero=>intro n m x h;simp at h
 |succ k ih=>
  intro n m x h;have hp:2 ^ (k+1)=2*2 ^ k:=by rw[Nat.pow_succ];omega
  have:=afb (fun _=>Tr.single k (n/2) x) (fun _=>Tr.single k (n/2-1) x) .undef .leaf .leaf n m x (fun _=>ih _ _ _ aa) (fun _ _=>ih _ _ _ aa);have e:(Tr.node .undef .leaf .leaf).get m=Tr.leaf.get m:=by rw[Pm];simp[akO]
  rw[e] at this;exact this
theorem Tr.aam:∀(t:Tr) (n m:Nat) (x:V),n+1<2 ^ 12->(t.set n x).get m=if m=n then x else t.get m:=by
 intro t
 induction t with
 |leaf=>intro n m x h;exact arH 12 n m x h
 |node v l r ihl ihr=>intro n m x h;exact afb (fun l=>l.set (n/2) x) (fun r=>r.set (n/2-1) x) v l r n m x (fun _=>ihl _ _ _ aa) (fun _ _=>ihr _ _ _ aa)
abbrev BL:=List (Nat×(Nat×Option Ob))
noncomputable def IX (b:BL) (n:Nat):Nat×Option Ob:=List.rec (motive:=fun _=>Nat×Option Ob) (0,none) (fun p _ ih=>bif Nat.beq p.1 n then p.2 else ih) b
noncomputable def NI:BL->Nat->Nat×Option Ob->BL
 |[],n,x=>[(n,x)]
 |(i,o)::r,n,x=>bif Nat.beq i n then (i,x)::r else (i,o)::NI r n x
theorem akM:∀(b:BL) (n:Nat) (x:Nat×Option Ob) (m:Nat),IX (NI b n x) m=if m=n then x else IX b m:=by
 intro b
 induction b with
 |nil=>
  intro n x m;simp only[NI,IX];by_cases h:m=n
  .subst h;simp
  have:Nat.beq n m=false:=Fj fun e=>h e.symm;simp[this,h]
 |cons p b ih=>
  obtain⟨i,o⟩:=p;intro n x m;simp only[NI];by_cases h:i=n
  .subst h;simp only[WY,cond_true,IX];by_cases hm:m=i
   .subst hm;simp
   have:Nat.beq i m=false:=Fj fun e=>hm e.symm;simp[this,hm]
  have:Nat.beq i n=false:=Fj h;simp only[this,cond_false,IX];by_cases hm:i=m
  .subst hm;simp[h]
  have:Nat.beq i m=false:=Fj hm;simp only[this,cond_false];exact ih n x m
noncomputable def pR (t:Tr):Env:=fun i=>t.get i
noncomputable def km (b:BL):aw:=fun i=>IX b i
noncomputable def Kv:Nat->List V->Tr->Tr
 |_,[],t=>t
 |i,a::r,t=>Kv (i+1) r (t.set i a)
theorem asZ:∀(l:List V) (i:Nat) (t:Tr) (m:Nat),i+l.length<4095->(Kv i l t).get m=if i<=m/\m<i+l.length then l.getD (m-i) .undef else t.get m:=by
 intro l
 induction l with
 |nil=>intro i t m _;simp[Kv];intro h1 h2;omega
 |cons a r ih=>
  intro i t m h;simp only[cS] at h ⊢;rw[Kv,ih (i+1) _ m aa,Tr.aam t i m a aa];by_cases h1:m=i
  .subst h1;rw[ay aa,aD rfl,aD aa];simp
  rw[ay h1];by_cases h2:i+1<=m/\m<i+1+r.length
  .rw[aD h2,aD aa];obtain⟨k,rfl⟩:∃k,m=i+1+k:=⟨m-(i+1),aa⟩;rw[show i+1+k-(i+1)=k by omega,show i+1+k-i=k+1 by omega];simp
  rw[ay h2,ay aa]
theorem asV(h:args.length<4095):pR (Kv 0 args .leaf)=sk args:=by
 funext m;unfold pR sk;rw[asZ args 0 .leaf m aa];by_cases hm:m<args.length
 .rw[aD aa];rfl
 rw[ay aa];simp[Tr.get,List.getD,mS (agh hm)]
noncomputable def Wz {α:Type} (n:Nat) (k:Nat->α):α:=match n with
 |0=>k 0
 |m+1=>k (m+1)
noncomputable def Wy {α:Type} (z:Int) (k:Int->α):α:=match z with
 | .ofNat n=>Wz n fun n=>k (.ofNat n)
 | .negSucc n=>Wz n fun n=>k (.negSucc n)
noncomputable def WA {α:Type} (v:V) (k:V->α):α:=match v with
 | .one (.p (.int t z))=>Wy z fun z=>k (.one (.p (.int t z)))
 | .one (.p (.bool b))=>match b with
  |true=>k (.one (.p (.bool true)))
  |false=>k (.one (.p (.bool false)))
 |v=>k v
@[simp] theorem atY {α:Type} (n:Nat) (k:Nat->α):Wz n k=k n:=by cases n<;>rfl
@[simp] theorem atX {α:Type} (z:Int) (k:Int->α):Wy z k=k z:=by cases z<;>simp[Wy]
@[simp] theorem atA {α:Type} (v:V) (k:V->α):WA v k=k v:=by
 unfold WA;split
 .simp
 .split<;>rfl
 rfl
def Qu(al:Al)(l:List Nat):Bool:=bif al.any then true else al.fG l
theorem aoG(al:Al)(l:List Nat):Qu al l=al.fG l:=by
 unfold Qu;cases h:al.any with
 |false=>rfl
 |true=>simp[Al.fG,Al.ok,h]
abbrev oN:=Nat->List V->Al->BL->Option (V×BL)
noncomputable def F0:List eX->BL->BL
 |[],b=>b
 |(i,o)::r,b=>F0 r (NI b i o)
theorem Wn:∀(u:List eX) (b:BL),km (F0 u b)=app u (km b):=by
 intro u
 induction u with
 |nil=>intro b;rfl
 |cons x u ih=>obtain⟨i,o⟩:=x;intro b;simp only[F0,app];rw[ih];congr 1;funext m;exact akM b i o m
noncomputable def Ke (t:Tr) (d:Option Nat) (v:V) (k:Tr->Option (Tr×BL×cy)):Option (Tr×BL×cy):=match d with
 |none=>k t
 |some n=>bif Nat.ble n 4000 then WA v fun v=>k (t.set n v) else none
noncomputable def Rf (sh:Ctx) (cp:fR) (cs:oN) (o:bI) (t:Tr) (b:BL):Option (Tr×BL×cy):=
 match wanted (pR t) o.guard with
 |none=>none
 |some false=>Ke t o.dst .undef fun t'=>some (t',b,⟨[],[],[]⟩)
 |some true=>match VH sh.shared (pR t) (km b) o.op with
  | .fail=>none
  | .done v u r=>bif Qu sh.al (r++u.map (·.1)) then Ke t o.dst v fun t'=>some (t',F0 u b,⟨r,u.map (·.1),[]⟩) else none
  | .pc f vs r s=>match cp f vs with
   |some x=>match land (km b) r s (x.eD (sh.lone s)) with
    |some (v,u)=>bif Qu sh.al (r++u.map (·.1)) then Ke t o.dst v fun t'=>some (t',F0 u b,⟨r++u.map (·.1),u.map (·.1),[]⟩) else none
    |none=>none
   |none=>none
  | .sc f vs=>match allow sh f vs (km b) with
   |al=>bif sh.al.holds al then
     match cs f vs al b with
     |some (v,b')=>Ke t o.dst v fun t'=>some (t',b',⟨al.ids,al.ids,al.fs⟩)
     |none=>none
    else none
noncomputable def Ia (cs:jP) (cf:oN):Prop:=∀f vs al b v b',cf f vs al b=some (v,b')->cs f vs al (km b)=some (v,km b')
theorem QN{t t':Tr}{d:Option Nat}{v:V}{b b':BL}{e e':cy}(h:Ke t d v (fun t'=>some (t',b,e))=some (t',b',e')):put (pR t) d v=pR t'/\b=b'/\e=e':=by
 unfold Ke at h;split at h
 .cases h;exact⟨rfl,rfl,rfl⟩
 rename_i n;cases hn:Nat.ble n 4000 with
 |false=>rw[hn] at h;cases h
 |true=>rw[hn] at h;simp only[cond_true,atA] at h;cases h;refine⟨?_,rfl,rfl⟩;have:=iv hn;funext m;unfold pR put;exact(Tr.aam t n m v aa).symm
theorem aso{cf:oN}(hs:Ia cs cf){o:bI}{t t':Tr}{b b':BL}{e:cy}(h:Rf sh cp cf o t b=some (t',b',e)):step1 sh cp cs o (pR t) (km b)=some (pR t',km b',e):=by
 unfold Rf at h;simp only[aph,aoG] at h;unfold step1;split at h
 .cases h
 .rename_i hw;rw[hw];obtain⟨h1,rfl,rfl⟩:=QN h;simp only[h1]
 rename_i hw;rw[hw];simp only;split at h
 .cases h
 .rename_i v u r hp;cases au:sh.al.fG (r++u.map (·.1)) with
  |false=>rw[au] at h;cases h
  |true=>rw[au] at h;obtain⟨h1,rfl,rfl⟩:=QN h;simp only[hp,au,if_true,h1,Wn]
 .rename_i f vs r s hp;split at h
  .rename_i x hx;split at h
   .rename_i v u hl;cases au:sh.al.fG (r++u.map (·.1)) with
    |false=>rw[au] at h;cases h
    |true=>rw[au] at h;obtain⟨h1,rfl,rfl⟩:=QN h;simp only[hp,hx,hl,au,if_true,h1,Wn]
   cases h
  cases h
 rename_i f vs hp;cases au:sh.al.holds (allow sh f vs (km b)) with
 |false=>rw[au] at h;cases h
 |true=>
  rw[au] at h;simp only[cond_true] at h;split at h
  .rename_i v b1 hc;obtain⟨h1,rfl,rfl⟩:=QN h;simp only[hp,au,if_true,hs _ _ _ _ _ _ hc,h1]
  cases h
noncomputable def asp (sh:Ctx) (cp:fR) (cs:oN) (o:bI) (ih:Tr->BL->Option (Tr×BL×List cy)) (ak:Tr) (aj:BL):Option (Tr×BL×List cy):=
 match Rf sh cp cs o ak aj with
 |some (aA,ao,e)=>match ih aA ao with
  |some (LG,Ip,es)=>some (LG,Ip,e::es)
  |none=>none
 |none=>none
noncomputable def Kn (sh:Ctx) (cp:fR) (cs:oN) (l:List bI):Tr->BL->Option (Tr×BL×List cy):=List.rec (motive:=fun _=>Tr->BL->Option (Tr×BL×List cy)) (fun ak aj=>some (ak,aj,[])) (fun o _ ih=>asp sh cp cs o ih) l
theorem asr(sh:Ctx)(cp:fR)(cs:oN)(ak:Tr)(aj:BL):Kn sh cp cs [] ak aj=some (ak,aj,[]):=rfl
theorem asq(sh:Ctx)(cp:fR)(cs:oN)(o:bI)(r:List bI)(ak:Tr)(aj:BL):Kn sh cp cs (o::r) ak aj=match Rf sh cp cs o ak aj with
  |some (aA,ao,e)=>match Kn sh cp cs r aA ao with
   |some (LG,Ip,es)=>some (LG,Ip,e::es)
   |none=>none
  |none=>none:=rfl
theorem ass{cf:oN}(hs:Ia cs cf):∀ {ops:List bI} {t t':Tr} {b b':BL} {es:List cy},Kn sh cp cf ops t b=some (t',b',es)->steps sh cp cs ops (pR t) (km b)=some (pR t',km b',es):=by
 intro ops
 induction ops with
 |nil=>intro t t' b b' es h;simp only[asr,fL,kn] at h;obtain⟨rfl,rfl,rfl⟩:=h;rfl
 |cons o r ih=>
  intro t t' b b' es h;simp only[asq] at h;split at h
  .rename_i t1 b1 e1 h1;split at h
   .rename_i t2 b2 es2 h2;cases h;simp only[steps,aso hs h1,ih h2]
   cases h
  cases h
noncomputable def M1 (f:Tr->BL->Option (mE×Tr×BL)) (n:Nat):Tr->BL->Option (mE×Tr×BL):=
 Nat.rec (motive:=fun _=>Tr->BL->Option (mE×Tr×BL)) (fun _ _=>none) (fun _ ih ak aj=>match f ak aj with
  |some (.normal,aA,ao)=>ih aA ao
  |r=>r) n
theorem amL(f:Tr->BL->Option (mE×Tr×BL))(n:Nat)(ak:Tr)(aj:BL):M1 f (n+1) ak aj=match f ak aj with
  |some (.normal,aA,ao)=>M1 f n aA ao
  |r=>r:=rfl
abbrev Ex:=Tr->BL->Option (mE×Tr×BL)
noncomputable def ajH (sh:Ctx) (cp:fR) (cs:oN) (d:Bool) (ops:List bI):Ex:=fun ak aj=>match Kn sh cp cs ops ak aj with
  |some (aA,ao,es)=>bif d then (bif rF ops [] es then some (.normal,aA,ao) else none) else some (.normal,aA,ao)
  |none=>none
noncomputable def ajI (a b:Ex):Ex:=fun ak aj=>match a ak aj with
  |some (.normal,aA,ao)=>b aA ao
  |r=>r
noncomputable def ajG (x:aQ) (a b:Ex):Ex:=fun ak aj=>match ev (pR ak) x with
  | .one (.p (.bool t))=>bif t then a ak aj else b ak aj
  |_=>none
noncomputable def ajF (id:Nat) (c:Ex):Ex:=fun ak aj=>match c ak aj with
  |some (.exit i,aA,ao)=>bif Nat.beq i id then some (.normal,aA,ao) else some (.exit i,aA,ao)
  |r=>r
noncomputable def tO (sh:Ctx) (cp:fR) (cs:oN) (n:Nat) (c:aH):Ex:=
 aH.rec (motive:=fun _=>Ex) (fun ak aj=>some (.normal,ak,aj)) (fun d ops=>ajH sh cp cs d ops) (fun _ _ a b=>ajI a b) (fun x _ _ a b=>ajG x a b)
  (fun id _ c=>ajF id c) (fun _ c=>M1 c n) (fun id ak aj=>some (.exit id,ak,aj)) (fun ak aj=>some (.ret,ak,aj)) (fun _ _=>none) c
section
variable (sh:Ctx) (cp:fR) (cs:oN) (n:Nat) (ak:Tr) (aj:BL)
theorem ajQ:tO sh cp cs n .skip ak aj=some (.normal,ak,aj):=rfl
theorem ajL(id:Nat):tO sh cp cs n (.exit id) ak aj=some (.exit id,ak,aj):=rfl
theorem ajO:tO sh cp cs n .ret ak aj=some (.ret,ak,aj):=rfl
theorem ajN(d:Bool)(ops:List bI):tO sh cp cs n (.region d ops) ak aj=match Kn sh cp cs ops ak aj with
  |some (aA,ao,es)=>bif d then (bif rF ops [] es then some (.normal,aA,ao) else none) else some (.normal,aA,ao)
  |none=>none:=rfl
theorem ajP(a b:aH):tO sh cp cs n (.seq a b) ak aj=match tO sh cp cs n a ak aj with
  |some (.normal,aA,ao)=>tO sh cp cs n b aA ao
  |r=>r:=rfl
theorem ajK(x:aQ)(a b:aH):tO sh cp cs n (.cond x a b) ak aj=match ev (pR ak) x with
  | .one (.p (.bool t))=>bif t then tO sh cp cs n a ak aj else tO sh cp cs n b ak aj
  |_=>none:=rfl
theorem ajJ(id:Nat)(c:aH):tO sh cp cs n (.block id c) ak aj=match tO sh cp cs n c ak aj with
  |some (.exit i,aA,ao)=>bif Nat.beq i id then some (.normal,aA,ao) else some (.exit i,aA,ao)
  |r=>r:=rfl
theorem ajM(c:aH):tO sh cp cs n (.loop c) ak aj=M1 (tO sh cp cs n c) n ak aj:=rfl
end
theorem amK{f:Tr->BL->Option (mE×Tr×BL)}{g:Env->aw->Option (mE×Env×aw)}(hfg:∀t b e t' b',f t b=some (e,t',b')->g (pR t) (km b)=some (e,pR t',km b')):
  ∀(n:Nat) {t t':Tr} {b b':BL} {e:mE},M1 f n t b=some (e,t',b')->iter g n (pR t) (km b)=some (e,pR t',km b'):=by
 intro n
 induction n with
 |zero=>intro t t' b b' e h;cases h
 |succ n ih=>
  intro t t' b b' e h;simp only[amL] at h;simp only[iter];split at h
  .rename_i t1 b1 h1;rw[hfg _ _ _ _ _ h1];exact ih h
  rename_i aI;rw[hfg _ _ _ _ _ h];cases e with
  |normal=>exact(aI _ _ h).elim
  |exit i=>rfl
  |ret=>rfl
theorem Zx{cf:oN}(hs:Ia cs cf){n:Nat}:∀(c:aH) {t t':Tr} {b b':BL} {e:mE},tO sh cp cf n c t b=some (e,t',b')->exec sh cp cs n c (pR t) (km b)=some (e,pR t',km b'):=by
 intro c
 induction c with
 |skip=>intro t t' b b' e h;simp only[ajQ,fL,kn] at h;obtain⟨rfl,rfl,rfl⟩:=h;rfl
 |exit id=>intro t t' b b' e h;simp only[ajL,fL,kn] at h;obtain⟨rfl,rfl,rfl⟩:=h;rfl
 |ret=>intro t t' b b' e h;simp only[ajO,fL,kn] at h;obtain⟨rfl,rfl,rfl⟩:=h;rfl
 |bad=>intro t t' b b' e h;cases h
 |region d ops=>
  intro t t' b b' e h;simp only[ajN] at h;simp only[exec];split at h
  .rename_i t1 b1 es h1;rw[ass hs h1];simp only;cases d with
   |false=>simp only[cond_false] at h;cases h;simp
   |true=>
    simp only[cond_true] at h;cases hd:rF ops [] es with
    |false=>rw[hd] at h;cases h
    |true=>rw[hd] at h;simp only[cond_true] at h;cases h;simp
  cases h
 |seq x y ihx ihy=>
  intro t t' b b' e h;simp only[ajP] at h;simp only[exec];split at h
  .rename_i t1 b1 h1;rw[ihx h1];exact ihy h
  rename_i aI;rw[ihx h];cases e with
  |normal=>exact(aI _ _ h).elim
  |exit i=>rfl
  |ret=>rfl
 |cond x p q ihp ihq=>
  intro t t' b b' e h;simp only[ajK] at h;simp only[exec];split at h
  .rename_i tt ht;rw[ht];cases tt with
   |true=>simp only[cond_true] at h;simpa using ihp h
   |false=>simp only[cond_false] at h;simpa using ihq h
  cases h
 |block id c ih=>
  intro t t' b b' e h;simp only[ajJ] at h;simp only[exec];split at h
  .rename_i i t1 b1 h1;rw[ih h1];simp only;cases hi:Nat.beq i id with
   |true=>rw[hi] at h;simp only[cond_true] at h;cases h;rw[aD (vV hi)]
   |false=>rw[hi] at h;simp only[cond_false] at h;cases h;rw[ay];intro hh;rw[hh,WY] at hi;cases hi
  rename_i aI;rw[ih h];cases e with
  |normal=>rfl
  |exit i=>exact(aI _ _ _ h).elim
  |ret=>rfl
 |loop c ih=>intro t t' b b' e h;simp only[ajM] at h;simp only[exec];exact amK (fun _ _ _ _ _ h=>ih h) n h
noncomputable def Hx (sh:Ctx) (cp:fR) (cs:oN) (n:Nat) (fn:aS) (args:List V) (aj:BL):Option (V×BL):=
 bif Nat.ble args.length 4000 then
  match tO sh cp cs n fn.body (Kv 0 args .leaf) aj with
  |some (.normal,ak,ao)=>(oE sh.al (pR ak) (km ao) fn.results).map fun vs=>(An vs,ao)
  |some (.ret,ak,ao)=>(oE sh.al (pR ak) (km ao) fn.results).map fun vs=>(An vs,ao)
  |_=>none
 else none
theorem aqR{cf:oN}(hs:Ia cs cf){n:Nat}{fn:aS}{b b':BL}{v:V}(h:Hx sh cp cf n fn args b=some (v,b')):rI sh cp cs n fn args (km b)=some (v,km b'):=by
 unfold Hx at h;unfold rI;cases hl:Nat.ble args.length 4000 with
 |false=>rw[hl] at h;cases h
 |true=>
  rw[hl] at h;simp only[cond_true] at h;have:=iv hl;rw[<- asV aa];split at h
  .rename_i ak b1 hx;rw[Zx hs _ hx];simp only[dx] at h ⊢;obtain⟨vs,h1,h2⟩:=h;cases h2;exact⟨vs,h1,rfl⟩
  .rename_i ak b1 hx;rw[Zx hs _ hx];simp only[dx] at h ⊢;obtain⟨vs,h1,h2⟩:=h;cases h2;exact⟨vs,h1,rfl⟩
  cases h
noncomputable def ah1 (S:Sys) (n:Nat) (cp:fR) (cs:oN):fR:=fun f args=>match S.prim f args with
  |some r=>r
  |none=>match S.fns f with
   |some fn=>bif Nat.ble args.length fn.ntmps then
     match Hx (S.ctx .all) cp cs n fn args [] with
     |some (v,b)=>gh (km b) v
     |none=>none
    else none
   |none=>none
noncomputable def ah3 (S:Sys) (n:Nat) (cp:fR) (cs:oN):oN:=fun f args al b=>bif S.trig f args then (S.primS f args al (km b)).map (fun r=>(r.1,F0 r.2 b)) else match S.fns f with
  |some fn=>bif Nat.ble args.length fn.ntmps then Hx (S.ctx al) cp cs n fn args b else none
  |none=>none
noncomputable def XZ (S:Sys) (n:Nat):fR×oN:=Nat.rec (motive:=fun _=>fR×oN) (fun _ _=>none,fun _ _ _ _=>none) (fun n ih=>(ah1 S n ih.1 ih.2,ah3 S n ih.1 ih.2)) n
noncomputable def DT (S:Sys) (n:Nat):fR:=(XZ S n).1
noncomputable def AO (S:Sys) (n:Nat):oN:=(XZ S n).2
theorem ah2(S:Sys)(n f:Nat)(args:List V):DT S (n+1) f args=match S.prim f args with
  |some r=>r
  |none=>match S.fns f with
   |some fn=>bif Nat.ble args.length fn.ntmps then
     match Hx (S.ctx .all) (DT S n) (AO S n) n fn args [] with
     |some (v,b)=>gh (km b) v
     |none=>none
    else none
   |none=>none:=rfl
theorem ah4(S:Sys)(n f:Nat)(args:List V)(al:Al)(b:BL):AO S (n+1) f args al b=bif S.trig f args then (S.primS f args al (km b)).map (fun r=>(r.1,F0 r.2 b)) else match S.fns f with
  |some fn=>bif Nat.ble args.length fn.ntmps then Hx (S.ctx al) (DT S n) (AO S n) n fn args b else none
  |none=>none:=rfl
theorem aev{mY:fR}(hp:PLe cp mY){cf:oN}(hs:Ia cs cf){n:Nat}{fn:aS}{b b':BL}{v:V}(h:Hx sh cp cf n fn args b=some (v,b')):rI sh mY cs n fn args (km b)=some (v,km b'):=QX hp (fun _ _ _ _ _ h=>h) (bJ _) (aqR hs h)
theorem OS(S:Sys):∀n,PLe (DT S n) (fZ S n)/\Ia (gb S n) (AO S n):=by
 intro n
 induction n with
 |zero=>have h1:∀f x,DT S 0 f x=none:=fun _ _=>rfl;have h2:∀f vs al b,AO S 0 f vs al b=none:=fun _ _ _ _=>rfl;exact⟨fun f x r h=>(by rw[h1] at h;cases h),fun f vs al b v b' h=>(by rw[h2] at h;cases h)⟩
 |succ n ih=>
  obtain⟨hp,hs⟩:=ih;refine⟨fun f x r h=>?_,fun f vs al b v b' h=>?_⟩
  .rw[ah2] at h;rw[fZ];split at h
   .rename_i r' GO;simp only[GO];exact h
   rename_i GO;simp only[GO];split at h
   .rename_i fn hfn;simp only[hfn];cases hl:Nat.ble x.length fn.ntmps with
    |false=>rw[hl] at h;cases h
    |true=>
     rw[hl] at h;simp only[cond_true] at h;rw[aD (iv hl)];split at h
     .rename_i v b hr;unfold Fy;have:vG=km []:=rfl;rw[this,aev hp hs hr];exact h
     cases h
   cases h
  rw[ah4] at h;rw[gb];cases ht:S.trig f vs with
  |true=>
   rw[ht] at h;simp only[cond_true] at h;rw[aD rfl];cases hp:S.primS f vs al (km b) with
   |none=>rw[hp] at h;cases h
   |some r=>rw[hp] at h;cases h;rw[kU,Wn]
  |false=>
  rw[ht] at h;simp only[cond_false,dQ,if_false] at h ⊢;split at h
  .rename_i fn hfn;simp only[hfn];cases hl:Nat.ble vs.length fn.ntmps with
   |false=>rw[hl] at h;cases h
   |true=>rw[hl] at h;simp only[cond_true] at h;rw[aD (iv hl)];exact aev hp hs h
  cases h
theorem pW(S:Sys)(n:Nat){f:Nat}{r:RV}(h:DT S n f args=some r):aF S f args r:=⟨n,(OS S n).1 _ _ _ h⟩
def yU{α:Type}(f:α->α->Bool):List α->List α->Bool
 |[],[]=>true
 |a::r,b::s=>f a b&&yU f r s
 |_,_=>false
theorem FZ{α:Type}{f:α->α->Bool}(hf:∀a b,f a b=true->a=b):∀ {l m:List α},yU f l m=true->l=m:=by
 intro l
 induction l with
 |nil=>intro m h;cases m with
  |nil=>rfl
  |cons b m=>cases h
 |cons a l ih=>
  intro m h;cases m with
  |nil=>cases h
  |cons b m=>simp only[yU,cN] at h;rw[hf _ _ h.1,ih h.2]
def Tg:IntKind->IntKind->Bool
 | .i64,.i64=>true
 |a,b=>decide (a=b)
theorem ajw{a b:IntKind}(h:Tg a b=true):a=b:=by
 cases a<;>cases b<;>first
  |rfl
  |(simp[Tg] at h)
def Gd:Nat->PV->PV->Bool
 |0,_,_=>false
 |_+1,.int k a,.int k' b=>Tg k k'&&a==b
 |_+1,.bool a,.bool b=>a==b
 |n+1,.sl a,.sl b=>yU (yU (Gd n)) a b
 |n+1,.box a,.box b=>yU (Gd n) a b
 |n+1,.fn f a b,.fn g c d=>Nat.beq f g&&(yU (Gd n) a c&&yU (Gd n) b d)
 |_+1,.nils,.nils=>true
 |_+1,.uR,.uR=>true
 |_+1,_,_=>false
theorem ajx:∀(n:Nat) (x y:PV),Gd n x y=true->x=y:=by
 intro n
 induction n with
 |zero=>intro x y h;cases h
 |succ n ih=>
  intro x y h;unfold Gd at h;split at h
  .rename_i h0;cases h0
  .rename_i h0;cases h0;simp only[cN,dL] at h;rw[ajw h.1,h.2]
  .rename_i h0;cases h0;simp only[dL] at h;rw[h]
  .rename_i h0;cases h0;rw[FZ (fun _ _ h=>FZ ih h) h]
  .rename_i h0;cases h0;rw[FZ ih h]
  .rename_i h0;cases h0;simp only[cN] at h;rw[vV h.1,FZ ih h.2.1,FZ ih h.2.2]
  .rfl
  .rfl
  cases h
def O5:C->C->Bool
 | .p a,.p b=>Gd 12 a b
 |_,_=>false
theorem Zp{a b:C}(h:O5 a b=true):a=b:=by
 unfold O5 at h;split at h
 .rw[ajx _ _ _ h]
 cases h
def O6:V->V->Bool
 | .one a,.one b=>O5 a b
 | .agg a,.agg b=>yU O5 a b
 |_,_=>false
theorem ajz{a b:V}(h:O6 a b=true):a=b:=by
 unfold O6 at h;split at h
 .rw[Zp h]
 .rw[FZ (fun _ _ h=>Zp h) h]
 cases h
abbrev jo:=List (Nat×List V×RV)
def M8:jo->Nat->List V->Option RV
 |[],_,_=>none
 |(f,a,r)::l,g,b=>bif Nat.beq f g&&yU O6 a b then some r else M8 l g b
theorem anR:∀ {l:jo} {f:Nat} {a:List V} {r:RV},M8 l f a=some r->(f,a,r)∈l:=by
 intro l
 induction l with
 |nil=>intro f a r h;cases h
 |cons e l ih=>
  obtain⟨g,b,s⟩:=e;intro f a r h;simp only[M8] at h;cases hb:(Nat.beq g f&&yU O6 b a) with
  |true=>rw[hb] at h;simp only[cond_true,fL] at h;simp only[cN] at hb;rw[vV hb.1,FZ (fun _ _ h=>ajz h) hb.2,h];simp
  |false=>rw[hb] at h;exact yN _ (ih h)
def Sys.xf(S:Sys)(l:jo):Sys:={S with prim:=fun f a=>match M8 l f a with
 |some r=>some (some r)
 |none=>S.prim f a}
def je(S:Sys)(l:jo):Prop:=∀e∈l,aF S e.1 e.2.1 e.2.2
theorem je.nil{S:Sys}:je S []:=fun e h=>by simp at h
theorem je.cons{S:Sys}{l:jo}{f:Nat}{a:List V}{r:RV}(h:aF S f a r)(hl:je S l):je S ((f,a,r)::l):=fun e he=>by
 rcases cI.1 he with rfl|he
 .exact h
 exact hl e he
theorem je.bound{S:Sys}:∀ {l:jo},je S l->∃M,∀e∈l,fZ S M e.1 e.2.1=some e.2.2:=by
 intro l
 induction l with
 |nil=>intro _;exact⟨0,fun e h=>by simp at h⟩
 |cons e l ih=>
  intro h;obtain⟨M,hM⟩:=ih fun x hx=>h x (by simp[hx]);obtain⟨n,hn⟩:=h e af;refine⟨max M n,fun x hx=>?_⟩;rcases cI.1 hx with rfl|hx
  .exact DU S (KW M n) _ _ _ hn
  exact DU S (HV M n) _ _ _ (hM x hx)
theorem aod{S:Sys}{l:jo}{M:Nat}(hM:∀e∈l,fZ S M e.1 e.2.1=some e.2.2):∀n,PLe (fZ (S.xf l) n) (fZ S (n+M))/\SLe (gb (S.xf l) n) (gb S (n+M)):=by
 intro n
 induction n with
 |zero=>exact⟨fun f x r h=>by simp[fZ] at h,fun f x l k r h=>by simp[gb] at h⟩
 |succ n ih=>
  have e1:n+1+M=(n+M)+1:=aa;have hc:∀al,(S.xf l).ctx al=S.ctx al:=fun _=>rfl;refine⟨fun f x r h=>?_,fun f x al k r h=>?_⟩
  .rw[fZ] at h;cases hl:M8 l f x with
   |some r'=>
    have hp:(S.xf l).prim f x=some (some r'):=by simp only[Sys.xf,hl]
    rw[hp] at h;cases h;exact DU S aa _ _ _ (hM _ (anR hl))
   |none=>
    have hp:(S.xf l).prim f x=S.prim f x:=by simp only[Sys.xf,hl]
    rw[hp] at h;rw[e1,fZ];split at h
    .exact h
    have hfn:(S.xf l).fns f=S.fns f:=rfl;rw[hfn] at h;split at h
    .rename_i fn hf;split at h
     .rename_i hlen;rw[aD hlen];rw[hc] at h;exact aeu ih.1 ih.2 aa h
     cases h
    cases h
  rw[gb] at h;rw[e1,gb];have htr:(S.xf l).trig f x=S.trig f x:=rfl;have dw:(S.xf l).primS f x al k=S.primS f x al k:=rfl;rw[htr,dw] at h;by_cases ht:S.trig f x=true
  .rw[aD ht] at h ⊢;exact h
  rw[ay ht] at h ⊢;have hfn:(S.xf l).fns f=S.fns f:=rfl;rw[hfn] at h;split at h
  .rename_i fn hf;split at h
   .rename_i hlen;rw[aD hlen];rw[hc] at h;exact QX ih.1 ih.2 aa h
   cases h
  cases h
theorem l9{S:Sys}{l:jo}(hl:je S l)(n:Nat){f:Nat}{r:RV}(h:DT (S.xf l) n f args=some r):aF S f args r:=by obtain⟨M,hM⟩:=hl.bound;exact⟨n+M,(aod hM n).1 _ _ _ ((OS (S.xf l) n).1 _ _ _ h)⟩
inductive Fits {H:Type} (N:Nat):DataW H->Prop where
 |str (s:List UInt8) (h:s.length<=N):Fits N (.lit (.string s))
 |lit (l:Lit) (h:∀s,l≠ .string s):Fits N (.lit l)
 |nil:Fits N .nil
 |slice (es sp:List (DataW H)) (h:es.length<=N) (he:∀d∈es,Fits N d):Fits N (.slice es sp)
 |agg (es:List (DataW H)) (he:∀d∈es,Fits N d):Fits N (.agg es)
def jO(P:Program)(N:Nat):Nat->TypeId->List PV->Prop
 |0,_,_=>False
 |n+1,t,ps=>match P.underlying t with
  |some .bool=>∃b,ps=[.bool b]
  |some (.int k)=>∃z,ps=[.int k z]/\(Lit.int k z).wf=true
  |some .string=>∃s:ByteArray,ps=[.str s]/\s.size<=N
  |some (.slice e)=>∃es,ps=[.sl es]/\es.length<=N/\ ∀x∈es,jO P N n e x
  |some (.struct fs)=>∃parts:List (List PV),ps=parts.flatten/\parts.length=fs.toList.length/\ ∀(i:Nat) (f:Field) (x:List PV),fs.toList[i]?=some f->parts[i]?=some x->jO P N n f.type x
  |_=>False
def y8(P:Program):Nat->Nat->List Field->Bool
 |off,total,[]=>Nat.beq off total
 |off,total,f::r=>Nat.beq f.offset off&&y8 P (off+P.cellsOf f.type) total r
def jI(P:Program):Nat->TypeId->Bool
 |0,_=>false
 |n+1,t=>match P.underlying t with
  |some .bool|some (.int _)|some .string=>true
  |some (.slice e)=>Nat.blt 0 (P.cellsOf e)&&jI P n e
  |some (.struct fs)=>y8 P 0 (P.cellsOf t) fs.toList&&fs.toList.all fun f=>jI P n f.type
  |_=>false
section
variable {H:Type} {enc:TypeId×Value->H} {P:Program} {w:World} {base:Nat} {sp:Nat->Bool} {held:Bool} {N:Nat}
theorem dd.append{w:World}{own:Nat->Prop}{xs ys:List PV}{vs us:List Value}(h:dd w own xs vs)(k:dd w own ys us):dd w own (xs++ys) (vs++us):=Pw.append (R:=cD w own) h k
theorem X5{w:World}{base:Nat}{a:Addr}{n:Nat}{cs:List Value}(h:w.cells? base a n=some cs):cs.length=n/\ ∀i,i<n->a.add i=⟨a.block,a.off+i,none⟩/\w.cell? ⟨a.block,a.off+i,none⟩=cs[i]? :=by
 unfold World.cells? at h;split at h
 .have hl:=mapM_some_length h;simp at hl;refine⟨hl,fun i hi=>?_⟩;have hg:=mapM_some_get h i i (by simp[hi]);have aq:i<cs.length:=aa;have hv:cs[i]?=some cs[i]:=by simp[aq]
  rw[hv] at hg;have aa4:(a.add i).spot=none:=by
   cases qt:(a.add i).spot with
   |none=>rfl
   |some s=>
    simp only[World.cell?] at hg;split at hg
    .simp[qt] at hg
    cases hg
  have e:a.add i=⟨a.block,a.off+i,none⟩:=by
   unfold Addr.add at aa4 ⊢;split
   .rename_i h0;subst h0;rw[aD rfl] at aa4;cases a
    simp_all
   rfl
  refine⟨e,?_⟩;rw[hv,<- hg,e]
 cases h
theorem aj3{r:TypeId->List Value->Option (DataW H×List MemPlace)}{n:Nat}(ih:∀t cs x,jI P n t=true->r t cs=some x->Fits N x.1->∃pvs,jO P N n t pvs/\dd w (fun _=>False) pvs cs){cs:List Value}{total:Nat}(ht:cs.length=total):
  ∀(fs:List Field) (off:Nat) (xs:List (DataW H×List MemPlace)),y8 P off total fs=true->(∀f∈fs,jI P n f.type=true)->
   fs.mapM (fun f=>r f.type ((cs.drop f.offset).take (P.cellsOf f.type)))=some xs->(∀x∈xs,Fits N x.1)->off<=total->(∀f∈fs,∀c x,r f.type c=some x->∀pvs,jO P N n f.type pvs->dd w (fun _=>False) pvs c->True)->
   ∃parts:List (List PV),parts.length=fs.length/\(∀(i:Nat) (f:Field) (x:List PV),fs[i]?=some f->parts[i]?=some x->jO P N n f.type x)/\(dd w (fun _=>False) parts.flatten (cs.drop off)):=by
 intro fs
 induction fs with
 |nil=>
  intro off xs hc _ _ _ hle _;simp only[y8] at hc;have:=vV hc;refine⟨[],rfl,fun i f x h=>by simp at h,?_⟩;have:cs.drop off=[]:=by rw[List.drop_eq_nil_iff];omega
  rw[this];exact⟨rfl,fun j x u h=>by simp at h⟩
 |cons f fs ihf=>
  intro off xs hc ho hm hf hle hT;simp only[y8,cN] at hc;have Jp:=vV hc.1;rw[List.mapM_cons] at hm;simp only[Option.bind_eq_bind,Sc,Option.pure_def,fL] at hm;obtain⟨x,hx,xs',MX,rfl⟩:=hm;obtain⟨pvs,p1,p2⟩:=ih _ _ _ (ho f af) hx (hf x af);have hlen:=p2.1;by_cases aaT:off+P.cellsOf f.type<=total
  .obtain⟨parts,q1,q2,q3⟩:=ihf (off+P.cellsOf f.type) xs' hc.2 (fun g hg=>ho g (by simp[hg])) MX (fun y hy=>hf y (by simp[hy])) aaT (fun _ _ _ _ _ _ _ _=>trivial);refine⟨pvs::parts,by simp[q1],fun i g y hi hy=>?_,?_⟩
   .cases i with
    |zero=>simp at hi hy;subst hi hy;exact p1
    |succ i=>exact q2 i g y (by simpa using hi) (by simpa using hy)
   have:cs.drop off=(cs.drop f.offset).take (P.cellsOf f.type)++cs.drop (off+P.cellsOf f.type):=by rw[Jp,<- WK];exact(sQ _ _).symm
   rw[this];simp only[lH];exact dd.append p2 q3
  exfalso;have mono:∀(l:List Field) (o:Nat),y8 P o total l=true->o<=total:=by
   intro l
   induction l with
   |nil=>intro o h;simp only[y8] at h;have:=vV h;omega
   |cons g l ihl=>intro o h;simp only[y8,cN] at h;have:=ihl _ h.2;omega
  exact aaT (mono _ _ hc.2)
theorem aqQ{sz:Nat}{f:Nat->Value}:∀(es:List (List PV)) (rows:List (List Value)) (k:Nat),rows.length=es.length->(∀(i:Nat) (e:List PV) (v:List Value),es[i]?=some e->rows[i]?=some v->dd w (fun _=>False) e v/\v.length=sz/\ ∀j u,v[j]?=some u->f ((k+i)*sz+j)=u)->
  ∀(j:Nat) (x:PV),es.flatten[j]?=some x->cD w (fun _=>False) x (f (k*sz+j)):=by
 intro es
 induction es with
 |nil=>intro rows k _ _ j x h;simp at h
 |cons e es ih=>
  intro rows k hl h j x hx;cases rows with
  |nil=>simp at hl
  |cons v rows=>
   obtain⟨a1,a2,a3⟩:=h 0 e v rfl rfl;have de:e.length=sz:=by rw[<- a2];exact a1.1.symm
   simp only[lH] at hx;by_cases hj:j<e.length
   .rw[vR hj] at hx;have hv:v[j]?=some v[j]:=by simp[show j<v.length by omega]
    have:=a3 j _ hv;simp only[xA] at this;rw[this];exact a1.2 j x _ hx hv
   rw[yK aa] at hx;have:=ih rows (k+1) (by simpa using hl) (fun i e' v' h1 h2=>by have:=h (i+1) e' v' (by simpa using h1) (by simpa using h2);rw[show k+(i+1)=k+1+i by omega] at this;exact this) (j-e.length) x hx
   rw[show k*sz+j=(k+1)*sz+(j-e.length) by rw[fY];omega];exact this
theorem as5:∀(n fuel:Nat) (t:TypeId) (cs:List Value) (x:DataW H×List MemPlace),jI P n t=true->DataW.trod enc P w base sp held fuel t cs=some x->Fits N x.1->
  ∃pvs,jO P N n t pvs/\dd w (fun _=>False) pvs cs:=by
 intro n
 induction n with
 |zero=>intro fuel t cs x h;simp[jI] at h
 |succ n ih=>
  intro fuel t cs x au h hf;cases fuel with
  |zero=>simp[DataW.trod] at h
  |succ fuel=>
   rw[DataW.trod_step] at h;have one:∀ {p:PV} {v:Value},cD w (fun _=>False) p v->dd w (fun _=>False) [p] [v]:=by
    intro p v hp;refine⟨rfl,fun j x u a b=>?_⟩;cases j with
    |zero=>simp at a b;subst a b;exact hp
    |succ j=>simp at a
   unfold DataW.trodStep at h;unfold jI at au;split at h
   case h_1 b hu=>exact⟨[.bool b],by simp only[jO,hu];exact⟨b,rfl⟩,one (.bool b)⟩
   case h_2 k k' z hu=>
    split at h
    .rename_i hc;obtain⟨rfl,hwf⟩:=hc;exact⟨[.int k' z],by simp only[jO,hu];exact⟨z,rfl,hwf⟩,one (.int k' z)⟩
    cases h
   case h_4 s hu=>
    split at h
    .cases h;cases hf with
     |str _ hs=>exact⟨[.str s],by simp only[jO,hu];exact⟨s,rfl,by simpa using hs⟩,one (.str s)⟩
     |lit _ hs=>exact(hs _ rfl).elim
    cases h
   case h_7 e hu=>exact⟨[.sl []],by simp only[jO,hu];exact⟨[],rfl,bj _,fun x hx=>by simp at hx⟩,one (.yE none 0 (fun _=>rfl) (bj _))⟩
   case h_8 e a len cap hu=>
    rw[hu] at au;simp only[cN] at au;obtain⟨ju,hoe⟩:=au;have ju:0<P.cellsOf e:=by have:=ju;simp[Nat.blt] at this;omega
    simp only at h;split at h
    .rename_i hc;obtain⟨hb,hlc,ya⟩:=hc;simp only[dx,Sc] at h;obtain⟨elems,he,rest,amb,rfl⟩:=h;have hlen:elems.length=len:=by simpa using mapM_some_length he
     cases hf with
     |slice _ _ hl hfe=>
     simp only[cH] at hl;have get:∀i,i<len->∃y row pv,elems[i]?=some y/\w.cells? base (a.add (i*P.cellsOf e)) (P.cellsOf e)=some row/\jO P N n e pv/\dd w (fun _=>False) pv row:=by intro i hi;have hg:=mapM_some_get he i i (by simp[hi]);have aq:i<elems.length:=aa;rw[oJ aq] at hg;simp only[Sc] at hg;obtain⟨row,h1,h2⟩:=hg;obtain⟨pv,p1,p2⟩:=ih _ _ _ _ hoe h2 (hfe _ (dI.2 ⟨_,WR aq,rfl⟩));exact⟨_,row,pv,oJ aq,h1,p1,p2⟩
     cases tY:len with
     |zero=>refine⟨[.sl []],by simp only[jO,hu];exact⟨[],rfl,bj _,fun x hx=>by simp at hx⟩,one (.yE (some a) cap (fun h=>by cases h) ya)⟩
     |succ len'=>
      rw[<- tY];have h0:0<len:=aa;obtain⟨_,row0,_,_,uM,_,_⟩:=get 0 h0;have ha:a=⟨a.block,a.off,none⟩:=by
       have h1:a.add 0=a:=by unfold Addr.add;rw[aD rfl]
       rw[Ay,h1] at uM;have:=((X5 uM).2 0 ju).1;rw[h1] at this;exact this
      have Uv:∀i,i<len->∃row pv,row.length=P.cellsOf e/\(∀j,j<P.cellsOf e->w.cell? ⟨a.block,a.off+(i*P.cellsOf e+j),none⟩=row[j]?)/\jO P N n e pv/\dd w (fun _=>False) pv row:=by
       intro i hi;obtain⟨_,row,pv,_,h1,h2,h3⟩:=get i hi;obtain⟨l1,l2⟩:=X5 h1;refine⟨row,pv,l1,fun j hj=>?_,h2,h3⟩;have:=(l2 j hj).2;rw[<- this];have e2:a.add (i*P.cellsOf e)=⟨a.block,a.off+i*P.cellsOf e,none⟩:=by
        rw[ha];unfold Addr.add;split
        .rename_i h9;rw[h9];rfl
        rfl
       rw[e2];simp[HU]
      let row:Nat->List Value:=fun i=>if h:i<len then (Uv i h).choose else []
      let pv:Nat->List PV:=fun i=>if h:i<len then (Uv i h).choose_spec.choose else []
      have MS:∀i,i<len->(row i).length=P.cellsOf e/\(∀j,j<P.cellsOf e->w.cell? ⟨a.block,a.off+(i*P.cellsOf e+j),none⟩=(row i)[j]?)/\jO P N n e (pv i)/\dd w (fun _=>False) (pv i) (row i):=by intro i hi;simp only[row,pv,dif_pos hi];exact(Uv i hi).choose_spec.choose_spec
      let es:=(List.range len).map pv
      have PA:es.length=len:=by simp[es]
      have Cx:∀(i:Nat) (x:List PV),es[i]?=some x->i<len/\x=pv i:=by
       intro i x hx;have hi:i<len:=by rw[<- PA];exact(bg.1 hx).1
       refine⟨hi,?_⟩;simp only[es,fT,rO hi,kU,fL] at hx;exact hx.symm
      let f:Nat->Value:=fun j=>(w.cell? ⟨a.block,a.off+j,none⟩).getD undef
      refine⟨[.sl es],?_,one ?_⟩
      .simp only[jO,hu];refine⟨es,rfl,aa,fun x hx=>?_⟩;obtain⟨i,hi⟩:=jd hx;obtain⟨h1,rfl⟩:=Cx i x hi;exact(MS i h1).2.2.1
      rw[ha];have cA:∀x∈es,x.length=P.cellsOf e:=by intro x hx;obtain⟨i,hi⟩:=jd hx;obtain⟨h1,rfl⟩:=Cx i x hi;have:=(MS i h1).2.2.2.1;rw[<- this];exact(MS i h1).1
      have ek:=aqQ (w:=w) (sz:=P.cellsOf e) (f:=f) es ((List.range len).map row) 0 (by simp[PA]) (fun i x v h1 h2=>by
       obtain⟨hi,rfl⟩:=Cx i x h1;simp only[fT,rO hi,kU,fL] at h2;subst h2;obtain⟨s1,s2,s3,s4⟩:=MS i hi;refine⟨s4,s1,fun j u hu=>?_⟩;have hj:j<P.cellsOf e:=by rw[<- s1];exact(bg.1 hu).1
       simp only[f,jm];rw[s2 j hj,hu];rfl)
      simp only[Ay,jm] at ek;have uI:∀(l:List (List PV)),(∀x∈l,x.length=P.cellsOf e)->l.flatten.length=l.length*P.cellsOf e:=by
       intro l
       induction l with
       |nil=>intro _;simp
       |cons x l ihl=>intro hx;simp only[lH,eG,cS];rw[hx x af,ihl (fun y hy=>hx y (by simp[hy])),fY];omega
      refine PA▸cD.sl a.block a.off cap (P.cellsOf e) f (fun _ h=>h) aa ya cA (fun j x hx=>?_) ek;have hj:j<len*P.cellsOf e:=by have:=(bg.1 hx).1;rw[uI es cA,PA] at this;exact this
      have hi:j/P.cellsOf e<len:=Nat.div_lt_of_lt_mul (by rw[Sa];exact hj);obtain⟨s1,s2,s3,s4⟩:=MS _ hi;have hm:j%P.cellsOf e<P.cellsOf e:=ez _ ju;have:=s2 _ hm;rw[show j/P.cellsOf e*P.cellsOf e+j%P.cellsOf e=j by rw[Sa];exact age j _] at this;have Uz:(row (j/P.cellsOf e))[j%P.cellsOf e]?=some (row (j/P.cellsOf e))[j%P.cellsOf e]:=by simp[s1,hm]
      rw[Uz] at this;simp only[f,this,lZ]
    cases h
   case h_9=>
    rename_i fs hu;rw[hu] at au;simp only[cN] at au;split at h
    .rename_i hc;simp only[dx] at h;obtain⟨xs,hx,rfl⟩:=h;cases hf with
     |agg _ hfe=>
     obtain⟨parts,p1,p2,p3⟩:=aj3 (r:=DataW.trod enc P w base sp held fuel) (n:=n) (fun t cs x h1 h2 h3=>ih _ _ _ _ h1 h2 h3) hc fs.toList 0 xs au.1 (fun f hf=>ir.1 au.2 f hf) hx (fun y hy=>hfe _ (dI.2 ⟨y,hy,rfl⟩)) (bj _) (fun _ _ _ _ _ _ _ _=>trivial);refine⟨parts.flatten,by simp only[jO,hu];exact⟨parts,rfl,p1,p2⟩,?_⟩
     simpa using p3
    cases h
   all_goals(first|(cases h;done)|(simp_all;done)|(exfalso;simp_all;done))
end
end
end Go.Abs
namespace Go.Abs
variable {H:Type} {enc:TypeId×Value->H} {P:Program} {w:World} {N:Nat}
theorem aiE:∀(fs:List Field) (off total:Nat),y8 P off total fs=true->total=off+(fs.map fun f=>P.cellsOf f.type).sum/\ ∀(j:Nat) (f:Field),fs[j]?=some f->f.offset=off+((fs.take j).map fun f=>P.cellsOf f.type).sum:=by
 intro fs
 induction fs with
 |nil=>intro off total h;simp only[y8] at h;have:=vV h;exact⟨by simp;omega,fun j f h=>by simp at h⟩
 |cons f fs ih=>
  intro off total h;simp only[y8,cN] at h;have h0:=vV h.1;obtain⟨i1,i2⟩:=ih _ _ h.2;refine⟨by simp;omega,fun j g hg=>?_⟩;cases j with
  |zero=>simp at hg;subst hg;simp;omega
  |succ j=>have:=i2 j g (by simpa using hg);simp only[KV,fy,R7];omega
theorem amY:Kids P (fun t=>∃n,jI P n t=true):=by
 have un:∀ {t:TypeId},(∃n,jI P n t=true)->∃n,jI P (n+1) t=true:=by
  rintro t ⟨n,h⟩
  cases n with
  |zero=>simp[jI] at h
  |succ n=>exact⟨n,h⟩
 refine⟨fun ht hu=>?_,fun ht hu=>?_,fun ht hu=>?_,fun ht hu=>?_,fun ht hu=>?_⟩
 .obtain⟨n,h⟩:=un ht;simp[jI,hu] at h
 .obtain⟨n,h⟩:=un ht;simp only[jI,hu,cN] at h;exact⟨n,h.2⟩
 .obtain⟨n,h⟩:=un ht;simp[jI,hu] at h
 .obtain⟨n,h⟩:=un ht;simp only[jI,hu,cN] at h;obtain⟨c1,c2⟩:=aiE _ _ _ h.1;refine⟨fun f hf=>⟨n,ir.1 h.2 f hf⟩,by rw[c1];simp,fun j f hj=>by rw[c2 j f hj];simp⟩
 obtain⟨n,h⟩:=un ht;simp[jI,hu] at h
theorem as3{w':World}{HA:Nat->Bool}{t:TypeId}{v:Value}{d:DataW H}{ps:List MemPlace}(hk:∃n,jI P n t=true)(h:DataW.Trod enc P w 0 (fun _=>true) true t v d ps)
  (Uw:∀p∈ps,w.sameAt w' p) (hs:∀p∈ps,HA p.block=true):DataW.Trod enc P w' 0 HA true t v d ps:=by
 obtain⟨fuel,h⟩:=h;refine⟨fuel,DataW.trod_stays (T:=fun t=>∃n,jI P n t=true) amY ?_ (fun h=>by cases h) hk h Uw hs⟩;rintro t e ⟨n,h⟩ hu
 cases n with
 |zero=>simp[jI] at h
 |succ n=>simp only[jI,hu,cN] at h;have:=h.1;simp[Nat.blt] at this;omega
theorem as2{w':World}{HA:Nat->Bool}:∀ {ts:List TypeId} {vs:List Value} {ds:List (DataW H)} {ps:List MemPlace},(∀t∈ts,∃n,jI P n t=true)->DataW.TrodAll enc P w 0 (fun _=>true) true ts vs ds ps->
  (∀p∈ps,w.sameAt w' p)->(∀p∈ps,HA p.block=true)->DataW.TrodAll enc P w' 0 HA true ts vs ds ps:=by
 intro ts
 induction ts with
 |nil=>intro vs ds ps _ h _ _;cases vs<;>cases ds<;>exact h
 |cons t ts ih=>
  intro vs ds ps hk h pI iV;cases vs with
  |nil=>exact h.elim
  |cons v vs=>
   cases ds with
   |nil=>exact h.elim
   |cons d ds=>obtain⟨p,q,h1,h2,rfl⟩:=h;exact⟨p,q,as3 (hk t af) h1 (fun x hx=>pI x (by simp[hx])) (fun x hx=>iV x (by simp[hx])),ih (fun t ht=>hk t (by simp[ht])) h2 (fun x hx=>pI x (by simp[hx])) (fun x hx=>iV x (by simp[hx])),rfl⟩
def BJ(P:Program)(t:TypeId)(ps:List PV):V:=
 match P.underlying t with
 |some (.struct _)=>.agg (ps.map .p)
 |_=>match ps with
  |[x]=>.one (.p x)
  |_=>.undef
theorem ahe{r:Reach}{b0 n:Nat}{sp:Nat->Bool}{held:Bool}{t:TypeId}{v:Value}{d:DataW H}{ps:List MemPlace}(hk:jI P n t=true)(hval:Value.okWide P w r b0 t v)(h:DataW.Trod enc P w 0 sp held t v d ps)(hf:Fits N d):
  ∃pvs,jO P N n t pvs/\sT w (fun _=>False) (BJ P t pvs) v:=by
 obtain⟨fuel,h⟩:=h;obtain⟨pvs,h1,h2⟩:=as5 n fuel t _ _ hk h hf;refine⟨pvs,h1,?_⟩;cases n with
 |zero=>simp[jI] at hk
 |succ n=>
  have one:∀x:PV,pvs=[x]->(∀cs,v≠ .agg cs)->cD w (fun _=>False) x v:=by
   rintro x rfl aI
   have:v.cells.toList=[v]:=by
    cases v<;>first
     |rfl
     |exact(aI _ rfl).elim
   rw[this] at h2;exact h2.2 0 x v rfl rfl
  have nagg:∀ {k:TypeDesc},P.underlying t=some k->(∀fs,k≠ .struct fs)->(∀a b,k≠ .array a b)->∀cs,v≠ .agg cs:=by
   rintro k hu cF jV cs rfl
   unfold Value.okWide at hval;rw[hu] at hval;cases k<;>simp_all[Cell.okWide,Cell.ok]
  simp only[jO] at h1;unfold BJ;cases hu:P.underlying t with
  |none=>rw[hu] at h1;exact h1.elim
  |some k=>
   rw[hu] at h1;cases k<;>simp only at h1<;>try exact h1.elim
   case bool=>obtain⟨b,rfl⟩:=h1;exact one _ rfl (nagg hu af af)
   case int k=>obtain⟨b,rfl,_⟩:=h1;exact one _ rfl (nagg hu af af)
   case string=>obtain⟨b,rfl,_⟩:=h1;exact one _ rfl (nagg hu af af)
   case slice e=>obtain⟨es,rfl,_⟩:=h1;exact one _ rfl (nagg hu af af)
   case struct fs=>unfold Value.okWide at hval;rw[hu] at hval;simp only at hval;obtain⟨cs,rfl,cA,_⟩:=hval;exact⟨cs,pvs,rfl,rfl,h2⟩
def Ow(P:Program)(N n:Nat):List TypeId->List (List PV)->Prop
 |[],[]=>True
 |t::ts,p::ps=>jO P N n t p/\Ow P N n ts ps
 |_,_=>False
def BK(P:Program):List TypeId->List (List PV)->List V
 |t::ts,p::ps=>BJ P t p::BK P ts ps
 |_,_=>[]
theorem ahk{r:Reach}{b0 n:Nat}{sp:Nat->Bool}{held:Bool}:∀ {ts:List TypeId} {vs:List Value} {ds:List (DataW H)} {ps:List MemPlace},(∀t∈ts,jI P n t=true)->(∀(j:Nat) t v,ts[j]?=some t->vs[j]?=some v->Value.okWide P w r b0 t v)->
  DataW.TrodAll enc P w 0 sp held ts vs ds ps->(∀d∈ds,Fits N d)->∃pvss,Ow P N n ts pvss/\Pw (sT w (fun _=>False)) (BK P ts pvss) vs:=by
 intro ts
 induction ts with
 |nil=>
  intro vs ds ps _ _ h _;cases vs with
  |nil=>exact⟨[],trivial,rfl,fun j x u h=>by simp[BK] at h⟩
  |cons v vs=>cases ds<;>exact h.elim
 |cons t ts ih=>
  intro vs ds ps hk hv h hf;cases vs with
  |nil=>exact h.elim
  |cons v vs=>
   cases ds with
   |nil=>exact h.elim
   |cons d ds=>
    obtain⟨p,q,h1,h2,rfl⟩:=h;obtain⟨x,a1,a2⟩:=ahe (hk t af) (hv 0 t v rfl rfl) h1 (hf d af);obtain⟨xs,b1,b2,b3⟩:=ih (fun t ht=>hk t (by simp[ht])) (fun j t v e1 e2=>hv (j+1) t v (by simpa using e1) (by simpa using e2)) h2 (fun d hd=>hf d (by simp[hd]));refine⟨x::xs,⟨a1,b1⟩,by simpa [BK] using b2,fun j y u e1 e2=>?_⟩;cases j with
    |zero=>simp[BK] at e1 e2;subst e1 e2;exact a2
    |succ j=>exact b3 j y u (by simpa [BK] using e1) (by simpa using e2)
end Go.Abs
namespace Go.Abs
open Go.RowKit
theorem fH.aoD(w:World)(k:Nat)(os:Array Obj):fH w (Go.Sort.grow (w.drewN k) os):=
 ⟨rfl,rfl,rfl,by simp[Go.Sort.grow,World.drewN],fun c hc=>by simp[Go.Sort.grow,World.drewN,afX,hc]⟩
theorem Nw{w w':World}{O:Nat->Prop}{x:PV}{v:Value}(hg:fH w w')(h:cD w' O x v):u6 w O (.one (.p x)) (.returned v) w':=
 ⟨v,[],rfl,hg,vU,fun c hc=>by simp at hc,[v],rfl,v,[],rfl,h.mono fun c _ hn=>⟨rfl,fun hq=>hn (hq.elim id fun h=>by simp at h)⟩,rfl,rfl⟩
theorem pw1{w:World}{O:Nat->Prop}{x:PV}{args:Array Value}(h:Pw (sT w O) [.one (.p x)] args.toList):∃v,args= #[v]/\cD w O x v:=by
 obtain⟨h1,h2⟩:=h;obtain⟨l⟩:=args
 match l,h1 with
 |[v],_=>exact⟨v,rfl,h2 0 _ v rfl rfl⟩
theorem Zl{w:World}{O:Nat->Prop}{v:Value}(h:cD w O (.sl []) v):∃a cap,v=.slice a 0 cap/\(a=none->cap=0)/\cap<=maxLen:=by
 generalize hx:PV.sl []=x at h;cases h<;>cases hx
 .exact⟨_,_,rfl,by assumption,by assumption⟩
 exact⟨_,_,rfl,fun h=>by simp at h,by assumption⟩
theorem acO{w:World}{O:Nat->Prop}{a:Option Addr}{cap:Nat}(h:a=none->cap=0)(hm:cap<=maxLen):cD w O (.sl []) (.slice a 0 cap):=.yE a cap h hm
def rX:Nat->Nat->List UInt8->List UInt8
 |0,_,acc=>acc
 |k+1,u,acc=>bif Nat.blt u 10 then UInt8.ofNat (Nat.add 48 u)::acc else rX k (Nat.div u 10) (UInt8.ofNat (Nat.add 48 (Nat.mod u 10))::acc)
theorem YV:∀(k u:Nat) (acc:List UInt8),u<10 ^ (k+1)->rX (k+1) u acc=Lib.decDigits u++acc:=by
 intro k
 induction k with
 |zero=>
  intro u acc h;have h:u<10:=by simpa using h
  unfold Lib.decDigits;have hb:Nat.blt u 10=true:=R9 h;simp only[rX,hb,cond_true,dif_pos h];rfl
 |succ k ih=>
  intro u acc h;rw[Lib.decDigits,rX];by_cases h0:u<10
  .have hb:Nat.blt u 10=true:=R9 h0;simp only[hb,cond_true,dif_pos h0];rfl
  have hb:Nat.blt u 10=false:=by
   cases e:Nat.blt u 10 with
   |false=>rfl
   |true=>exact(h0 (iv e)).elim
  simp only[hb,cond_false,dif_neg h0];have:(Nat.div u 10)<10 ^ (k+1):=by have e:Nat.div u 10=u/10:=rfl;rw[e];have:10 ^ (k+1+1)=10 ^ (k+1)*10:=Nat.pow_succ ..;omega
  rw[ih _ _ this];simp only[uv,List.singleton_append];rfl
def ke(n:Int):ByteArray:=⟨(match n with| .ofNat u=>rX 20 u []| .negSucc u=>45::rX 20 (Nat.succ u) []).toArray⟩
theorem amN(n:Int)(h0: -9223372036854775808<=n)(h1:n<=9223372036854775807):ke n=⟨(Lib.itoa n).toArray⟩:=by
 unfold ke Lib.itoa;cases n with
 |ofNat u=>have:¬(Int.ofNat u<0):=af;rw[ay this];simp only;rw[YV 19 u [] (by simp at h1;omega)];simp
 |negSucc u=>have:Int.negSucc u<0:=Int.negSucc_lt_zero u;rw[aD this];simp only;rw[YV 19 (Nat.succ u) [] aa];simp[Int.natAbs]
def QM(args:List V):Option RV:=
 match args with
 |[.one (.p (.int .i64 n))]=>if -9223372036854775808<=n/\n<=9223372036854775807 then some (.one (.p (.str (ke n)))) else none
 |_=>none
theorem ap3{P:Program}{f:Nat}{nm:String}{G:World->Prop}{args:List V}{r:RV}(hG:∀w,G w->Lib.TabIs P w nm .u64 Lib.pow10Tab)
  (hf:∀(n:Int),-9223372036854775808<=n->n<=9223372036854775807->∀w:World,Lib.TabIs P w nm .u64 Lib.pow10Tab->Calls P f #[.int .i64 n] w fun e w'=>e=.returned (.string ⟨(Lib.itoa n).toArray⟩)/\ ∃k os,w'=Go.Sort.grow (w.drewN k) os)
  (h:QM args=some r):∀(w:World) (O:Nat->Prop) (as:Array Value),Good G w->Pw (sT w O) args as.toList->Calls P f as w (u6 w O r):=by
 intro w O as hg ha;unfold QM at h;split at h
 .rename_i n;split at h
  .rename_i hr;cases h;obtain⟨v,rfl,hp⟩:=pw1 ha;generalize hx:PV.int .i64 n=x at hp;cases hp<;>cases hx
   refine(hf n hr.1 hr.2 w (hG w hg.1)).mono ?_;rintro e w' ⟨rfl,k,os,rfl⟩
   rw[amN n hr.1 hr.2];exact Nw (fH.aoD _ _ _) (.str _)
  cases h
 cases h
def Nx(args:List V):Option RV:=
 match args with
 |[.one (.p (.int .u64 n))]=>if 0<=n/\n<=18446744073709551615 then some (.one (.p (.int .i64 (Lib.bitLen n.toNat)))) else none
 |_=>none
theorem ap0{P:Program}{f:Nat}{args:List V}{r:RV}(hf:∀(x:Int) (w:World),0<=x->x<=18446744073709551615->Calls P f #[.int .u64 x] w fun e w'=>e=.returned (.int .i64 (Lib.bitLen x.toNat))/\w'=w)
  (h:Nx args=some r):∀(w:World) (O:Nat->Prop) (as:Array Value),Pw (sT w O) args as.toList->Calls P f as w (u6 w O r):=by
 intro w O as ha;unfold Nx at h;split at h
 .rename_i n;split at h
  .rename_i hr;cases h;obtain⟨v,rfl,hp⟩:=pw1 ha;generalize hx:PV.int .u64 n=x at hp;cases hp<;>cases hx
   refine(hf n w hr.1 hr.2).mono ?_;rintro e w' ⟨rfl,rfl⟩
   exact Nw (fH.refl _) (.int _ _)
  cases h
 cases h
def QK(args:List V):Option (Option RV):=
 match args with
 |[.one (.p (.sl []))]=>some (some (.one (.p (.sl []))))
 |_=>none
theorem ap2{S:Sys}{G:World->Prop}(hS:Ib S G){f n:Nat}{z i g z':Nat}{fn:aS}{ao:aw}(hfn:S.fns f=some fn)(h1:fZ S n f [.one (.p .nils)]=some (.one (.p .nils)))
  (h2:gb S n f [.one (.hsl 0 0 z 0 0)] .all vG=some (.one (.hsl i g z' 0 0),ao)) {args:List V} {r:RV} (h:QK args=some (some r)):
  ∀(w:World) (O:Nat->Prop) (as:Array Value),Good G w->(∀c,O c->c<w.heap.size)->Pw (sT w O) args as.toList->Calls S.P f as w (u6 w O r):=by
 intro w O as hg hO ha;unfold QK at h;split at h
 .cases h;obtain⟨v,rfl,hp⟩:=pw1 ha;obtain⟨a,cap,rfl,hn,hm⟩:=Zl hp;cases a with
  |none=>
   obtain rfl:=hn rfl;refine((sound hS n).1 f _ _ h1 |>.2 w O #[.slice none 0 0] hg hO ⟨rfl,fun j x u p q=>?_⟩).mono ?_
   .cases j with
    |zero=>simp at p q;subst p q;exact cD.nils
    |succ j=>simp at p
   rintro e w' ⟨val,bs,rfl,r5,fj,nO,vs,q1,q2⟩
   obtain⟨v0,mQ,e1,e2,e3,e4⟩:=q2;have hq1:vs=[val]:=q1;subst hq1;cases e1;subst e4;cases e2;exact Nw r5 (acO (fun _=>rfl) (bj _))
  |some a=>
   let m0:Mem:=⟨w,vG,fun _=>0,fun _=>0,O⟩
   have au:Ok w m0:=⟨rfl,rfl,rfl,bJ _,fun _ _=>rfl,(fun id o h=>by cases h),(fun id o h=>by cases h),hO,(fun id eZ o o' h=>by cases h)⟩;refine(((sound hS n).2.1 f _ _ _ _ _ h2).2 w m0 #[.slice (some a) 0 cap] hg au rfl ⟨rfl,fun j x u p q=>?_⟩).mono ?_
   .cases j with
    |zero=>simp at p q;subst p q;exact cT.hsl a cap (bj _) (bj _) hm (fun sz _ h=>by cases h)
    |succ j=>simp at p
   rintro e w' ⟨val,m',rfl,rfl,q1,q2,q3,q4,q5⟩
   have hq:cT m' (.hsl i g z' 0 0) val:=q5;cases hq with
   |hsl a2 cap2 _ _ wR _=>
    refine Nw ⟨q2.os,q2.tape,q2.output,q2.size,fun c hc=>q2.keep c hc ?_⟩ (acO (fun h=>by cases h) wR);rintro ⟨id,o,h,_⟩
    cases h
 cases h
def QL(args:List V):Option (Option RV):=
 match args with
 |[.one (.p (.sl []))]=>some (some (.one (.p .zs)))
 |_=>none
theorem ap1{P:Program}{G:World->Prop}{f:Nat}(h1:∀(w:World) (a:Option Addr) (c:Nat),Calls P f #[.slice a 0 c] w fun e w'=>∃b,e=.returned (.slice b 0 0)/\fH w w'){args:List V}{r:RV}(h:QL args=some (some r)):
  ∀(w:World) (O:Nat->Prop) (as:Array Value),Good G w->(∀c,O c->c<w.heap.size)->Pw (sT w O) args as.toList->Calls P f as w (u6 w O r):=by
 intro w O as hg hO ha;unfold QL at h;split at h
 .cases h;obtain⟨v,rfl,hp⟩:=pw1 ha;obtain⟨a,cap,rfl,hn,hm⟩:=Zl hp;refine(h1 w a cap).mono ?_;rintro e w' ⟨b,rfl,r5⟩
  exact Nw r5 (cD.zs b)
 cases h
end Go.Abs
namespace Go.Abs
open Go.RowKit Go.WideShapes Go.ChangeShapes
section
variable {H:Type} {enc:TypeId×Value->H} {P:Program} {w:World} {base:Nat} {sp:Nat->Bool} {held:Bool}
theorem as4:∀(n fuel:Nat) (t:TypeId) (cs:List Value) (x:DataW H×List MemPlace),jI P n t=true->DataW.trod enc P w base sp held fuel t cs=some x->Fits maxLen x.1:=by
 intro n
 induction n with
 |zero=>intro fuel t cs x h;simp[jI] at h
 |succ n ih=>
  intro fuel t cs x au h;cases fuel with
  |zero=>simp[DataW.trod] at h
  |succ fuel=>
   rw[DataW.trod_step] at h;unfold DataW.trodStep at h;unfold jI at au;split at h
   case h_1=>cases h;exact .lit _ (fun s h=>by cases h)
   case h_2=>
    split at h
    .cases h;exact .lit _ (fun s h=>by cases h)
    cases h
   case h_4=>
    split at h
    .rename_i hs;cases h;exact .str _ (by simpa using hs)
    cases h
   case h_7=>cases h;exact .nil
   case h_8 e a len cap hu=>
    rw[hu] at au;simp only[cN] at au;simp only at h;split at h
    .rename_i hc;simp only[dx,Sc] at h;obtain⟨elems,he,rest,amb,rfl⟩:=h;have hlen:elems.length=len:=by simpa using mapM_some_length he
     refine .slice _ _ (by simp;omega) (fun d hd=>?_);obtain⟨y,hy,rfl⟩:=dI.1 hd;obtain⟨i,_,hi⟩:=mapM_mem_of he y hy;simp only[Sc] at hi;obtain⟨row,_,h2⟩:=hi;exact ih _ _ _ _ au.2 h2
    cases h
   case h_9=>
    rename_i fs hu;rw[hu] at au;simp only[cN] at au;split at h
    .simp only[dx] at h;obtain⟨xs,hx,rfl⟩:=h;refine .agg _ (fun d hd=>?_);obtain⟨y,hy,rfl⟩:=dI.1 hd;obtain⟨f,hf,hi⟩:=mapM_mem_of hx y hy;exact ih _ _ _ _ (ir.1 au.2 f hf) hi
    cases h
   all_goals(first|(cases h;done)|(simp_all;done)|(exfalso;simp_all;done))
theorem aft{n:Nat}:∀ {ts:List TypeId} {vs:List Value} {ds:List (DataW H)} {ps:List MemPlace},(∀t∈ts,jI P n t=true)->DataW.TrodAll enc P w base sp held ts vs ds ps->(∀d∈ds,Fits maxLen d)/\ds.length=ts.length:=by
 intro ts
 induction ts with
 |nil=>
  intro vs ds ps _ h;cases vs<;>cases ds<;>first
   |exact h.elim
   |exact⟨fun d hd=>by simp at hd,rfl⟩
 |cons t ts ih=>
  intro vs ds ps hk h;cases vs with
  |nil=>exact h.elim
  |cons v vs=>
   cases ds with
   |nil=>exact h.elim
   |cons d ds=>
    obtain⟨p,q,⟨fuel,h1⟩,h2,rfl⟩:=h;obtain⟨i1,i2⟩:=ih (fun t ht=>hk t (by simp[ht])) h2;refine⟨fun x hx=>?_,by simp[i2]⟩;rcases cI.1 hx with rfl|hx
    .exact as4 n fuel t _ _ (hk t af) h1
    exact i1 x hx
end
section
variable {H:Type} {enc:TypeId×Value->H} {P:Program}
theorem apW{f:Func}{s:ChangeSpec}{apart fresh handsOn again:Bool}{W W':World}{args:Array Value}{v:Value}{ds gs:List (DataW H)}{before pa pv:List MemPlace}
  (hW:DataW.Whole enc P f.params.toList s.vars apart W args.toList ds gs before)
  (Bb:∀(b:Nat) (sp:Nat->Bool) (hd:Bool),DataW.TrodAll enc P W' b sp hd f.resultTypes.toList (v.resultList f.resultTypes.size) (s.fn H (ds++gs)).results [])
  (Ck:∀sp:Nat->Bool,(∀p∈before,sp p.block=true)->DataW.TrodAll enc P W' 0 sp true f.params.toList args.toList (s.fn H (ds++gs)).args pa)
  (MW:∀sp:Nat->Bool,(∀p∈before,sp p.block=true)->DataW.TrodVars enc P W' sp s.vars (s.fn H (ds++gs)).vars pv)
  (dw:before=pa++pv) (hb:Below W.heap.size W W')
  (au:∀(j:Nat) (t:TypeId) (r:Value),f.resultTypes[j]?=some t->(v.resultList f.resultTypes.size)[j]?=some r->Value.okWide P W' .any 0 t r):
  s.post enc P f apart fresh handsOn again W args v W':=by
 have aq:∀p∈before,p.block<W.heap.size:=fun p hp=>hW.lt p hp;have hold:∀p∈before,(fun b=>decide (b<W.heap.size)) p.block=true:=fun p hp=>by simpa using aq p hp
 refine⟨ds,gs,before,[],pa,pv,hW,Bb _ _ _,Ck _ hold,MW _ hold,World.keptBut_mono (fun p hp=>⟨hp,?_⟩) (hb.frame (· ∈before)),fun _=>?_⟩
 .rw[dw,dZ] at hp;exact Or.inr hp
 obtain⟨_,_,_,_,_,hz,hn⟩:=hW;refine⟨au,_,_,([]++pa)++pv,⟨[]++pa,pv,trodAll_append (Ck _ (fun _ _=>rfl)) (Bb _ _ _),MW _ (fun _ _=>rfl),rfl,?_,?_⟩,?_⟩
 .intro b off hp;have iT:MemPlace.cell b off∈before:=by rw[dw];simpa using hp
  rw[hb.frozen (aq _ iT)];exact hz b off iT
 .intro ha;have:=hn ha;rw[dw] at this
  simpa using this
 intro p hp _;rw[dw]
 simpa using hp
end
theorem Gq{P:Program}{N n:Nat}{t:TypeId}{k:IntKind}{p:List PV}(hu:P.underlying t=some (.int k))(h:jO P N (n+1) t p):∃z,p=[.int k z]/\(Lit.int k z).wf=true:=by simp only[jO,hu] at h;exact h
theorem ak4{P:Program}{N n:Nat}{t:TypeId}{p:List PV}(hu:P.underlying t=some .bool)(h:jO P N (n+1) t p):∃b,p=[.bool b]:=by simp only[jO,hu] at h;exact h
theorem ak5{P:Program}{N n:Nat}{t e:TypeId}{p:List PV}(hu:P.underlying t=some (.slice e))(h:jO P N (n+1) t p):∃es,p=[.sl es]/\es.length<=N/\ ∀x∈es,jO P N n e x:=by simp only[jO,hu] at h;exact h
theorem ahc{P:Program}{t:TypeId}{k:TypeDesc}{x:PV}(hu:P.underlying t=some k)(hk:∀fs,k≠ .struct fs):BJ P t [x]=.one (.p x):=by
 unfold BJ;rw[hu];cases k<;>first
  |rfl
  |exact(hk _ rfl).elim
theorem ahd{P:Program}{t:TypeId}{fs:Array Field}{x:List PV}(hu:P.underlying t=some (.struct fs)):BJ P t x=.agg (x.map .p):=by unfold BJ;rw[hu]
theorem ang{S:Sys}{G:World->Prop}(hS:Ib S G)(Mq:∀w,G w->Good G w){fn:Func}{s:ChangeSpec}{f n N:Nat}{handsOn again fresh apart:Bool}(MW:s.vars=[])
  (hfn:∀(H:Type) (ds:List (DataW H)),ds.length=fn.params.toList.length->s.fn H ds={results:=[.lit (.bool true)],args:=ds}) {tb:TypeId} (Bb:fn.resultTypes= #[tb]) (htb:S.P.underlying tb=some .bool)
  (hk:∀t∈fn.params.toList,jI S.P n t=true) (law:∀pvss,Ow S.P N n fn.params.toList pvss->aF S f (BK S.P fn.params.toList pvss) (.one (.p (.bool true))))
  {H:Type} {enc:TypeId×Value->H} {W:World} {base:Nat} {args:Array Value} {ds gs:List (DataW H)} {before:List MemPlace}
  (hval:∀(j:Nat) t v,fn.params[j]?=some t->args[j]?=some v->Value.okWide S.P W .any base t v)
  (hW:DataW.Whole enc S.P fn.params.toList s.vars apart W args.toList ds gs before) (hG:G W) (hfit:∀d∈ds,Fits N d):
  Calls S.P f args W fun e W'=>∃v,e=.returned v/\s.post enc S.P fn apart fresh handsOn again W args v W':=by
 have hW':=hW;obtain⟨p,q,hA,hV,rfl,hfz,fj⟩:=hW;rw[MW] at hV;obtain⟨rfl,rfl⟩:=trodVars_none hV;obtain⟨_,hlen⟩:=aft hk hA;obtain⟨pvss,h1,h2⟩:=ahk (r:=.any) (b0:=base) hk (fun j t v a b=>hval j t v (by simpa using a) (by simpa using b)) hA hfit;refine((law pvss h1).calls hS W (Mq W hG) args h2).mono ?_;rintro e W' ⟨val,bs,rfl,hg,_,_,vs,q1,q2⟩
 obtain⟨v0,mQ,e1,e2,e3,e4⟩:=q2;have hq1:vs=[val]:=q1;subst hq1;cases e1;have hv:val=.bool true:=by
  generalize hx:PV.bool true=x at e2;cases e2<;>cases hx
  rfl
 subst hv;have hb:Below W.heap.size W W':=⟨hg.os,hg.tape,hg.output,hg.size,hg.keep⟩;have aq:∀x∈p++[],x.block<W.heap.size:=fun x hx=>hW'.lt x hx;refine⟨_,rfl,apW (pa:=p) (pv:=[]) hW' ?_ ?_ ?_ rfl hb ?_⟩
 .intro b sp hd;rw[mR,hfn H ds hlen,Bb];exact trodAll_cons_mk (shut_bool htb _) trodAll_mk0
 .intro HA qt;rw[mR,hfn H ds hlen];exact as2 (fun t ht=>⟨n,hk t ht⟩) hA (fun x hx=>hb.same (aq x (by simpa using hx))) (fun x hx=>qt x (by simpa using hx))
 .intro HA qt;rw[mR,hfn H ds hlen,MW];rfl
 exact ok_one Bb rfl (okWide_bool_mk htb _)
end Go.Abs
namespace Go.Abs
theorem aea(ak:Env)(t:Nat)(v:V):put ak (some t) v=dj ak t v:=rfl
theorem ad8(ak:Env)(v:V):put ak none v=ak:=rfl
theorem Zw(ak:Env)(n:Nat):ev ak (.t n)=ak n:=rfl
theorem Zu(ak:Env)(n:Int):ev ak (.i n)=.one (.p (.int .i64 n)):=rfl
theorem Zt(ak:Env)(x:Bool):ev ak (.b x)=.one (.p (.bool x)):=rfl
theorem Zv(ak:Env)(v:V):ev ak (.k v)=v:=rfl
theorem abf(a:V)(l:List V):sk (a::l) 0=a:=rfl
theorem abe(a:V)(l:List V)(n:Nat):sk (a::l) (n+1)=sk l n:=rfl
def FK(v:V)(want:Bool):Option Bool:=match v with
 | .one (.p (.bool b))=>some (b==want)
 | .undef=>some false
 |_=>none
theorem afL(b want:Bool):FK (.one (.p (.bool b))) want=some (b==want):=rfl
theorem afM(want:Bool):FK .undef want=some false:=rfl
section
variable {S:Sys} {al:Al} {o:bI} {ak:Env} {aj:aw} {tr:List cy} {K:Env->aw->List cy->Prop} {d:Option Nat}
theorem XS{id:Nat}{Q:dy}:lN id Q .normal ak aj=Q .normal ak aj:=rfl
theorem XT{id:Nat}{Q:dy}:lN id Q .ret ak aj=Q .ret ak aj:=rfl
theorem XR{id i:Nat}{Q:dy}:lN id Q (.exit i) ak aj=if i=id then Q .normal ak aj else Q (.exit i) ak aj:=rfl
end
def WN (S:Sys)(al:Al)(ops:List bI)(Q:Env->aw->Prop)(ak:Env)(aj:aw):Prop:=∀tr,WO S al ops (fun ak aj _=>Q ak aj) ak aj tr
def IY(S:Sys)(al:Al)(p:fq)(d:Option Nat)(ak:Env)(aj:aw)(K:Env->aw->Prop):Prop:=
 match p with
 | .fail=>False
 | .done v u r=>al.fG (r++u.map (·.1))=true/\K (put ak d v) (app u aj)
 | .pc f vs r s=>∃x,aF S f vs x/\match land aj r s (x.eD (S.lone s)) with
  |some (v,u)=>al.fG (r++u.map (·.1))=true/\K (put ak d v) (app u aj)
  |none=>False
 | .sc f vs=>al.holds (allow (S.ctx al) f vs aj)=true/\ ∃v ao,iw S f vs (allow (S.ctx al) f vs aj) aj v ao/\K (put ak d v) ao
def Pn(S:Sys)(al:Al)(w:Option Bool)(o:bI)(ak:Env)(aj:aw)(K:Env->aw->Prop):Prop:=
 match w with
 |none=>False
 |some false=>K (put ak o.dst .undef) aj
 |some true=>IY S al (bG S.shared ak aj o.op) o.dst ak aj K
section
variable {S:Sys} {al:Al} {ak:Env} {aj:aw}
theorem agw{ops:List bI}{R R':Env->aw->Prop}{tr tr':List cy}(h:WO S al ops (fun ak aj _=>R ak aj) ak aj tr)(hR:∀e b,R e b->R' e b):WO S al ops (fun ak aj _=>R' ak aj) ak aj tr':=by obtain⟨n,e,b,es,h1,h2⟩:=h;exact⟨n,e,b,es,h1,hR _ _ h2⟩
theorem agJ{ops:List bI}{Q:dy}:W S al (.region false ops) Q ak aj↔WN S al ops (fun ak aj=>Q .normal ak aj) ak aj:=by
 rw[Xm];constructor
 .intro h tr;obtain⟨n,e,b,es,h1,_,h2⟩:=h;exact⟨n,e,b,es,h1,h2⟩
 intro h;obtain⟨n,e,b,es,h1,h2⟩:=h [];exact⟨n,e,b,es,h1,(fun h=>by cases h),h2⟩
theorem agv{R:Env->aw->Prop}:WN S al [] R ak aj↔R ak aj:=⟨fun h=>Sg.1 (h []),fun h _=>Sg.2 h⟩
theorem aan{o:bI}{os:List bI}{R:Env->aw->Prop}{w:Option Bool}(tr:List cy):El S al w o ak aj tr (WO S al os fun e b _=>R e b)↔Pn S al w o ak aj (WN S al os R):=by
 have k:∀ {e:Env} {b:aw} {t:List cy},WO S al os (fun e b _=>R e b) e b t↔WN S al os R e b:=fun {e b t}=>⟨fun h t'=>agw h fun _ _ h=>h,fun h=>h t⟩;cases w with
 |none=>exact Iff.rfl
 |some w=>
  cases w with
  |false=>exact k (t:=tr++[⟨[],[],[]⟩])
  |true=>
   simp only[El,Pn];cases bG S.shared ak aj o.op with
   |fail=>exact Iff.rfl
   |done v u r=>simp only[Gl,IY,k]
   |pc f vs r s=>
    simp only[Gl,IY];refine exists_congr fun x=>and_congr Iff.rfl ?_;cases land aj r s (x.eD (S.lone s)) with
    |none=>exact Iff.rfl
    |some y=>simp only[k]
   |sc f vs=>simp only[Gl,IY,k]
theorem Xj{o:bI}{os:List bI}{R:Env->aw->Prop}:WN S al (o::os) R ak aj↔Pn S al (wanted ak o.guard) o ak aj (WN S al os R):=by
 constructor
 .intro h;exact(aan []).1 (OA.1 (h []))
 intro h tr;exact OA.2 ((aan tr).2 h)
variable {o:bI} {K:Env->aw->Prop} {d:Option Nat}
end
theorem bft:(false==true)=false:=rfl
theorem btf:(true==false)=false:=rfl
theorem bff:(false==false)=true:=rfl
theorem btt:(true==true)=true:=rfl
theorem adB{aj:aw}{x:PV}:gh aj (.one (.p x))=some (.one (.p x)):=rfl
theorem norm_int(k:IntKind)(n:Int):(PV.int k n).norm=.int k n:=rfl
theorem ac9(b:Bool):(PV.bool b).norm=.bool b:=rfl
theorem adj(s:ByteArray):(PV.str s).norm=.str s:=rfl
theorem adh:PV.nils.norm=.sl []:=rfl
theorem adi(es:List (List PV)):(PV.sl es).norm=.sl es:=rfl
theorem Vg(es:List PV):(PV.box es).norm=.box es:=rfl
theorem ada(f:Nat)(a b:List PV):(PV.fn f a b).norm=.fn f a b:=rfl
theorem adg:PV.uR.norm=.uR:=rfl
theorem ade:PV.yz.norm=.yz:=rfl
theorem adf:PV.rD.norm=.rD:=rfl
theorem adb(a:Bool)(e:List (PV×List PV)):(PV.mp a e).norm=.mp a e:=rfl
theorem ae0{aj:aw}:Bv aj []=some ([],[]):=rfl
def Wa(x:Option (V×List Nat))(y:Option (List V×List Nat)):Option (List V×List Nat):=match x,y with
 |some (b,x),some (bs,y)=>some (b::bs,x++y)
 |_,_=>none
theorem aeZ{aj:aw}{x:V}{xs:List V}:Bv aj (x::xs)=Wa (nG aj x) (Bv aj xs):=by simp only[Bv,Wa,collect];cases nG aj x<;>cases collect (nG aj) xs<;>rfl
theorem aeV{b:V}{x:List Nat}{bs:List V}{y:List Nat}:Wa (some (b,x)) (some (bs,y))=some (b::bs,x++y):=rfl
theorem aeY{aj:aw}{x:PV}:nG aj (.one (.p x))=some (.one (.p x.norm),[]):=rfl
end Go.Abs
