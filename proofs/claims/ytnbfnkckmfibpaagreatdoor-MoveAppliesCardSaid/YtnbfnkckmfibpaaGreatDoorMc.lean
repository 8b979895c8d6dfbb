/-
  Each operation of the abstract machine is what the program does: the second part.
-/
import Derived.Test.YtnbfnkckmfibpaaGreatDoorMb
import Derived.Laws.BytesString
set_option linter.unusedSimpArgs false
set_option linter.unusedVariables false
set_option linter.unusedSectionVars false
namespace Go.Abs
variable {P:Program} {w0:World}
def Pf(w:World)(own:Nat->Prop)(ag:Bool)(es:List (PV × List PV))(ents:Array MapEntry):Prop:=
 ents.size=es.length/\ ∀ (i:Nat) (q:PV) (v:List PV) (e:MapEntry),es[i]? =some (q,v)->ents[i]? =some e->bi w own q e.key/\ ∃ g:Array Value,(ag=true->e.val= .agg g)/\(ag=false-> #[e.val]=g)/\aV w own v g.toList
theorem kn{w:World}{r:Nat}{es:Array MapEntry}{clock:Nat}(hb:w.heap[r]? =some (.map es clock)):(getObj r).run P w= .ok (.map es clock) w:=by simp[getObj,Sem.run,hb]
theorem u5{w:World}{r:Nat}{es:Array MapEntry}{clock:Nat}{ob:Obj}(hb:w.heap[r]? =some (.map es clock)):(setObj r ob).run P w= .ok () {w with heap:=w.heap.setIfInBounds r ob}:=by simp[setObj,Sem.run,hb]
theorem Gu{w:World}{own:Nat->Prop}{ag:Bool}{es:List (PV × List PV)}{v:Value}(h:bi w own (.mp ag es) v):
  ∃ r ents clock,v= .map (some r)/\w.heap[r]? =some (.map ents clock)/\Pf w own ag es ents:=by
 cases h with
 |mp r ents clock g ho hb hl hk hv hr=>
  refine⟨r,ents,clock,rfl,hb,hl,fun i q v e h1 h2=>⟨hk i q v e h1 h2,g i,(hv i q v e h1 h2).2.1,(hv i q v e h1 h2).2.2,?_,fun j x u a b=> ?_⟩⟩
  ·simpa using (hv i q v e h1 h2).1
  ·exact hr i q v j x u h1 a (by simpa using b)
theorem lJ{m:Mem}(Tj:Ok w0 m){id g:Nat}{v:Value}(h:aZ m (.one (.T6 id g)) v){ag:Bool}{es:List (PV × List PV)}(hb:m.Tc id=(g,some (.map ag es))\/m.Tc id=(g,some (.fmap ag es))):
  ∃ r ents clock,v= .map (some r)/\r=m.σ id/\m.w.heap[r]? =some (.map ents clock)/\Pf m.w m.own ag es ents:=by
 have h:bH m (.T6 id g) v:=h;cases h with
 |T6 r hg hr=>
  rcases hb with hb|hb
  ·obtain⟨ents,clock,h1,h2,h3⟩:=Tj.obj id _ (congrArg Prod.snd hb);have:=hr (by rw[hb]) (by rw[hb];rfl);subst this;exact⟨_,ents,clock,rfl,rfl,h1,h2,h3⟩
  ·obtain⟨ents,clock,h1,h2,h3,_⟩:=Tj.obj id _ (congrArg Prod.snd hb);have:=hr (by rw[hb]) (by rw[hb];rfl);subst this;exact⟨_,ents,clock,rfl,rfl,h1,h2,h3⟩
theorem Ih{m:Mem}(Tj:Ok w0 m){ag:Bool}{x:V}{v:Value}{es:List (PV × List PV)}{r:List Nat}(h:mapOf m.Tc ag x=some (es,r))(hv:aZ m x v):
  ∃ ents:Array MapEntry,((v= .map none/\ents= #[])\/ ∃ ref clock,v= .map (some ref)/\m.w.heap[ref]? =some (.map ents clock))/\Pf m.w m.own ag es ents:=by
 unfold mapOf at h;split at h
 ·cases h
  exact⟨#[], .inl ⟨Cw hv,rfl⟩,rfl,fun i q v e h=>by simp at h⟩
 ·rename_i Xv Vk;split at h
  ·rename_i e;subst e;cases h;obtain⟨hp⟩:bH m _ v:=hv;obtain⟨r,ents,clock,h1,h2,h3⟩:=Gu hp;exact⟨ents, .inr ⟨r,clock,h1,h2⟩,h3⟩
  ·cases h
 ·rename_i id g;split at h
  ·rename_i g' Xv Vk hb;split at h
   ·rename_i hc;obtain⟨rfl,rfl⟩:=hc;cases h
    obtain⟨r,ents,clock,h1,_,h2,h3⟩:=lJ Tj hv (.inl hb);exact⟨ents, .inr ⟨r,clock,h1,h2⟩,h3⟩
   ·cases h
  ·rename_i g' Xv Vk hb;split at h
   ·rename_i hc;obtain⟨rfl,rfl⟩:=hc;cases h
    obtain⟨r,ents,clock,h1,_,h2,h3⟩:=lJ Tj hv (.inr hb);exact⟨ents, .inr ⟨r,clock,h1,h2⟩,h3⟩
   ·cases h
  ·cases h
 ·cases h
theorem KV{m:Mem}(Tj:Ok w0 m){x:V}{v:Value}{n:Nat}{r:List Nat}(h:xz m.Tc x=some (n,r))(hv:aZ m x v):
  (v= .map none/\n=0)\/ ∃ ref ents clock,v= .map (some ref)/\m.w.heap[ref]? =some (.map ents clock)/\ents.size=n:=by
 unfold xz at h;split at h
 ·cases h
  exact .inl ⟨Cw hv,rfl⟩
 ·cases h
  obtain⟨hp⟩:bH m _ v:=hv;obtain⟨r,ents,clock,h1,h2,h3⟩:=Gu hp;exact .inr ⟨r,ents,clock,h1,h2,h3.1⟩
 ·rename_i id g;split at h
  ·rename_i g' Xv Vk hb;split at h
   ·rename_i hc;subst hc;cases h
    obtain⟨r,ents,clock,h1,_,h2,h3⟩:=lJ Tj hv (.inl hb);exact .inr ⟨r,ents,clock,h1,h2,h3.1⟩
   ·cases h
  ·rename_i g' Xv Vk hb;split at h
   ·rename_i hc;subst hc;cases h
    obtain⟨r,ents,clock,h1,_,h2,h3⟩:=lJ Tj hv (.inr hb);exact .inr ⟨r,ents,clock,h1,h2,h3.1⟩
   ·cases h
  ·cases h
 ·cases h
def DG(kind:TypeDesc)(kd:Nat):Prop:=(kd=0/\ ∃ k,kind= .int k)\/(kd=1/\kind= .string)\/(kd=2/\kind= .bool)
theorem yA{t:TypeId}{kd:Nat}(h:keyOf P t=some kd): ∃ kind,P.underlying t=some kind/\DG kind kd:=by
 unfold keyOf at h;split at h
 ·rename_i k hk;cases h;exact⟨_,hk, .inl ⟨rfl,_,rfl⟩⟩
 ·rename_i hk;cases h;exact⟨_,hk, .inr (.inl ⟨rfl,rfl⟩)⟩
 ·rename_i hk;cases h;exact⟨_,hk, .inr (.inr ⟨rfl,rfl⟩)⟩
 ·cases h
theorem m7{w:World}{own:Nat->Prop}{k q:PV}{kv qv:Value}{kind:TypeDesc}{b:Bool}(hk:DG kind (dU k))(h:sameKey k q=some b)(h1:bi w own k kv)(h2:bi w own q qv):Instr.sameNow kind kv qv=some b:=by
 unfold sameKey at h;split at h
 ·rename_i a b' c d;split at h
  ·rename_i e;subst e;cases h;rcases hk with ⟨_,x,rfl⟩|⟨e,_⟩|⟨e,_⟩
   ·cases h1;cases h2;simp[Instr.sameNow]
   ·simp[dU] at e
   ·simp[dU] at e
  ·cases h
 ·cases h
  rcases hk with ⟨e,_⟩|⟨_,rfl⟩|⟨e,_⟩
  ·simp[dU] at e
  ·cases h1;cases h2;simp[Instr.sameNow]
  ·simp[dU] at e
 ·cases h
  rcases hk with ⟨e,_⟩|⟨e,_⟩|⟨_,rfl⟩
  ·simp[dU] at e
  ·simp[dU] at e
  ·cases h1;cases h2;simp[Instr.sameNow]
 ·cases h
theorem sameKey_eq{w:World}{own:Nat->Prop}{k q:PV}{kv qv:Value}(h:sameKey k q=some true)(h1:bi w own k kv)(h2:bi w own q qv):qv=kv:=by
 unfold sameKey at h;split at h
 ·split at h
  ·rename_i e;subst e;simp at h;subst h;cases h1;cases h2;rfl
  ·cases h
 ·rename_i a b;have e:(a==b)=true:=by simpa using h
  rw[beq_toListBytes] at e;have e:a=b:=by
   have e:a.toList=b.toList:=by simpa using e
   rw[ByteArray.toList_eq,ByteArray.toList_eq] at e;exact ByteArray.ext (Array.toList_inj.1 e)
  subst e;cases h1;cases h2;rfl
 ·simp at h;subst h;cases h1;cases h2;rfl
 ·cases h
theorem yO{w:World}{own:Nat->Prop}{k:PV}{kv:Value}{kind:TypeDesc}(hk:DG kind (dU k))(h1:bi w own k kv): ∀ {es:List (PV × List PV)} {l:List MapEntry} {i:Nat} {f:Option (Nat × List PV)},
  l.length=es.length->(∀ (j:Nat) (q:PV) (v:List PV) (e:MapEntry),es[j]? =some (q,v)->l[j]? =some e->bi w own q e.key)->lR k es i=some f->
  (f=none/\Instr.findNow kind kv l i=some none)\/ ∃ j q v e,f=some (i+j,v)/\es[j]? =some (q,v)/\l[j]? =some e/\sameKey k q=some true/\Instr.findNow kind kv l i=some (some (i+j,e.val)):=by
 intro es
 induction es with
 |nil=>
  intro l i f hl _ hf;simp[lR] at hf;cases l with
  |nil=>exact .inl ⟨hf.symm,rfl⟩
  |cons _ _=>simp at hl
 |cons p r ih=>
  intro l i f hl hq hf;obtain⟨a,v⟩:=p;cases l with
  |nil=>simp at hl
  |cons e l=>
   have Xs:=hq 0 a v e rfl rfl;simp only[lR] at hf;split at hf
   ·rename_i hs;cases hf
    exact .inr ⟨0,a,v,e,rfl,rfl,rfl,hs,by simp[Instr.findNow,m7 hk hs h1 Xs]⟩
   ·rename_i hs;rcases ih (l:=l) (i:=i+1) (f:=f) (by simpa using hl) (fun j q v e a b=>hq (j+1) q v e (by simpa using a) (by simpa using b)) hf with ⟨e1,e2⟩|⟨j,q,v',e',e1,e2,e3,e4,e5⟩
    ·exact .inl ⟨e1,by simp[Instr.findNow,m7 hk hs h1 Xs,e2]⟩
    ·refine .inr ⟨j+1,q,v',e',by rw[e1];congr 2;omega,by simpa using e2,by simpa using e3,e4,?_⟩;simp only[Instr.findNow,m7 hk hs h1 Xs,e5];congr 3;omega
   ·cases hf
theorem xC{t:TypeId}{kind:TypeDesc}{kd:Nat}{b:Bool}{v:Value}(w:World)(h:P.underlying t=some kind)(hk:DG kind kd)(n:Nat):(Instr.checkKey b (n+1) t v).run P w= .ok () w:=by
 rcases hk with ⟨_,k,rfl⟩|⟨_,rfl⟩|⟨_,rfl⟩<;>simp[Instr.checkKey,run_underlying h]
theorem iG{t:TypeId}{kind:TypeDesc}{kd:Nat}{b:Bool}{v:Value}(w:World)(h:P.underlying t=some kind)(hk:DG kind kd):(Instr.checkKey b 10000 t v).run P w= .ok () w:=xC w h hk 9999
theorem xt{w:World}{own:Nat->Prop}{k:PV}{kv:Value}{kind:TypeDesc}(hk:DG kind (dU k))(h:bi w own k kv)(n:Nat):Instr.sameBits n kv kv=true:=by
 cases h<;>first
  |(simp[dU,DG] at hk;done)
  |(simp[Instr.sameBits];done)
  |(simp[Instr.sameBits,beq_toListBytes];done)
theorem ss{w0 w:World}{own:Nat->Prop}{k:PV}{kv:Value}{kind:TypeDesc}(hk:DG kind (dU k))(h:bi w0 own k kv):(Instr.keyThatStays kv kv).run P w= .ok kv w:=by
 rw[Instr.keyThatStays,xt hk h,if_pos rfl];rfl
theorem kQ{t:TypeId}{kind:TypeDesc}{v:Value}{l:List MapEntry}{r:Option (Nat × Value)}(w:World)(h:P.underlying t=some kind)(hf:Instr.findNow kind v l 0=some r):(Instr.findKey t v l).run P w= .ok r w:=by
 simp[Instr.findKey,run_underlying h,hf]
theorem vE{m:Mem}{ag:Bool}{v:List PV}{x:V}{val:Value}{g:Array Value}(h:mapVal ag v=some x)(h1:ag=true->val= .agg g)(h2:ag=false-> #[val]=g)(hp:aV m.w m.own v g.toList):aZ m x val/\gi m x val:=by
 cases ag with
 |true=>
  simp only[mapVal,aaw] at h;subst h;exact⟨aZ.agg.2 ⟨g,h1 rfl,hp.MW⟩,⟨g,h1 rfl,hp.MW⟩⟩
 |false=>
  have h2:=h2 rfl;subst h2;cases v with
  |nil=>simp[mapVal] at h
  |cons c r=>
   cases r with
   |nil=>
    simp only[mapVal,aaw] at h;subst h;have:=hp.2 0 c val rfl rfl;exact⟨jK this,bH.p this⟩
   |cons _ _=>simp[mapVal] at h
section
variable {m:Mem} {env:Env} {a:Act} {o:Oper} (Tj:Ok w0 m) (hr:fS m env a.tmps)
include Tj
theorem HF{t kt e:TypeId}{s:Nat}{ag:Bool}(ho:o.op= .makeMap t none):
  ef P w0 a.eval o m (.one (.T6 s ((m.Tc s).1+1))) [(s,((m.Tc s).1+1,some (.map ag [])))]:=by
 refine⟨.map (some m.w.heap.size),m.fresh (.map #[] 0) s 0 (.map ag []), .inl ?_,CI Tj _ s 0 _ ⟨#[],0,vV _ s 0 _,rfl,fun i q v e h=>by simp at h⟩,rr _ s 0 _,vW Tj _ s 0 _,sE _ _ s 0 _,aZ.one.2 (.T6 _ ?_ fun _ _=> ?_)⟩
 ·simp[execOp,ho,Instr.makeMap];rfl
 ·simp[Mem.fresh,Mem.install,Mem.later,af]
 ·simp[Mem.fresh,Mem.install,af]
include hr
theorem J5{c:Call}{x:Operand}{x':aC}{t k e:TypeId}{n:Nat}{r:List Nat}(ho:o.op= .call c)(hc:c.callee= .builtin .len)(has:c.args= #[x])(VB:c.argTypes[0]? =some t)(ht:P.underlying t=some (.map k e))
  (hx:bp x=some x') (hv:xz m.Tc (ev env x')=some (n,r)):ef P w0 a.eval o m (.one (.p (.int .i64 n))) []:=by
 refine .calm Tj ?_ (jK (.int _ _));have h0:(#[a.eval x]:Array Value)[0]? =some (a.eval x):=rfl;rcases KV Tj hv (aE hx hr) with ⟨h1,rfl⟩|⟨ref,ents,clock,h1,h2,rfl⟩
 ·simp[execOp,ho,resolve,hc,has,VB,invoke,builtin,Builtin.len_,run_underlying ht,h1,goInt]
 ·simp[execOp,ho,resolve,hc,has,VB,invoke,builtin,Builtin.len_,run_underlying ht,h1,goInt,kn h2]
theorem Ek{t kt e:TypeId}{x k:Operand}{x' k':aC}{ok:Bool}{z:List PV}{q:Option Nat}{kd:Nat}{es:List (PV × List PV)}{r:List Nat}{key:PV}{f:Option (Nat × List PV)}{w:V}(ho:o.op= .lookup t x k ok)(ht:P.underlying t=some (.map kt e))
  (hz:pE P e=some z) (hkd:keyOf P kt=some kd) (hag:ML P e=q.isSome) (hx:bp x=some x') (hk:bp k=some k') (hm:mapOf m.Tc q.isSome (ev env x')=some (es,r)) (hke:ev env k'= .one (.p key)) (Y0:dU key=kd)
  (hf:lR key es 0=some f) (hw:mapVal q.isSome ((f.map (·.2)).getD z)=some w):ef P w0 a.eval o m (if ok then .tup [w, .one (.p (.bool f.isSome))] else w) []:=by
 obtain⟨kind,UJ,WJ⟩:=yA hkd;obtain⟨ents,Y3,hl,TC⟩:=Ih Tj hm (aE hx hr);have hkr:=aE hk hr;rw[hke] at hkr;obtain⟨TL⟩:bH m _ _:=hkr;have UL:(∃ ref clock,a.eval x= .map (some ref)/\m.w.heap[ref]? =some (.map ents clock))\/a.eval x= .map none/\ents= #[]:=by
  rcases Y3 with h|h
  ·exact .inr h
  ·exact .inl h
 have key: ∀ (val:Value) (b:Bool),aZ m w val->gi m w val->f.isSome=b->(Instr.lookup t (a.eval x) (a.eval k) ok).run P m.w= .ok (if ok then .tuple #[val, .bool b] else val) m.w->ef P w0 a.eval o m (if ok then .tup [w, .one (.p (.bool f.isSome))] else w) []:=by
  intro val b h1 Vd h2 h3;refine .calm Tj (x:=if ok then .tuple #[val, .bool b] else val) ?_ ?_
  ·simp[execOp,ho,h3]
  ·cases ok
   ·exact h1
   ·refine⟨_,rfl,rfl,fun j y u p q=> ?_⟩;rcases j with _|_|j
    ·simp at p q;subst p q;exact Vd
    ·simp at p q;subst p q;rw[h2];exact bH.p (.bool _)
    ·simp at p
 rcases yO (kind:=kind) (by rw[Y0];exact WJ) TL (l:=ents.toList) (by simpa using hl) (fun j q v e h1 h2=>(TC j q v e h1 (by simpa using h2)).1) hf with ⟨rfl,hn⟩|⟨j,q',v,e',rfl,h2,h3,_,hn⟩
 ·obtain⟨zv,i,hi,hiz,hzs,hzl,TT⟩:=lp hz;obtain⟨v1,v2⟩:=vE (m:=m) (val:=zv) (g:=zv.cells) hw (fun hq=>by
    rw[hq] at hag;unfold ML at hag;rw[hi] at hag;simp only[hiz] at hag;cases zv<;>simp[Value.cells] at hag ⊢) (fun hq=>by
    rw[hq] at hag;unfold ML at hag;rw[hi] at hag;simp only[hiz] at hag;cases zv<;>simp[Value.cells] at hag ⊢) (TT m.w m.own)
  refine key zv false v1 v2 rfl ?_;have hfk:=kQ (P:=P) m.w UJ hn;rcases UL with ⟨ref,clock,h1,h2⟩|⟨h1,h2⟩
  ·cases ok<;>simp[Instr.lookup,run_underlying ht,h1,kn h2,iG m.w UJ WJ,hfk,zeroValue,typeInfo,hi,hiz]
  ·subst h2;cases ok<;>simp[Instr.lookup,run_underlying ht,h1,iG m.w UJ WJ,Instr.findKey,run_underlying UJ,Instr.findNow,zeroValue,typeInfo,hi,hiz]
 ·obtain⟨hqk,g,hg1,hg2,TT⟩:=TC j q' v e' h2 (by simpa using h3);obtain⟨v1,v2⟩:=vE hw hg1 hg2 TT;refine key e'.val true v1 v2 rfl ?_;have hfk:=kQ (P:=P) m.w UJ hn;rcases UL with ⟨ref,clock,h1,h2⟩|⟨h1,h2⟩
  ·cases ok<;>simp[Instr.lookup,run_underlying ht,h1,kn h2,iG m.w UJ WJ,hfk]
  ·subst h2;simp at h3
theorem Bz{t kt e:TypeId}{x k y:Operand}{x' k' y':aC}{kd:Nat}{ag:Bool}{id g:Nat}{es:List (PV × List PV)}{key:PV}{cs:List C}{ps:List PV}{f:Option (Nat × List PV)}(ho:o.op= .mapUpdate t x k y\/o.op= .insert t x k y)(ht:P.underlying t=some (.map kt e))
  (hkd:keyOf P kt=some kd) (hx:bp x=some x') (hk:bp k=some k') (hy:bp y=some y') (hm:ev env x'= .one (.T6 id g)) (hb:m.Tc id=(g,some (.map ag es))) (hke:ev env k'= .one (.p key)) (Y0:dU key=kd)
  (TP:jM ag (ev env y')=some cs) (TT:xn cs=some ps) (hf:lR key es 0=some f):
  ef P w0 a.eval o m .undef [(id,(g,some (.map ag (match f with|some (i,_)=>es.set i (key,ps)|none=>es++[(key,ps)]))))]:=by
 obtain⟨kind,UJ,WJ⟩:=yA hkd;have hxr:=aE hx hr;rw[hm] at hxr;have Ts:=congrArg Prod.snd hb;have hg:=congrArg Prod.fst hb;obtain⟨ref,ents,clock,hxv,Tn,hh,hl,TC⟩:=lJ Tj hxr (.inl hb);subst Tn;have hkr:=aE hk hr;rw[hke] at hkr;obtain⟨TL⟩:bH m _ _:=hkr;have hyr:=aE hy hr
 -- the value's cells
 have hval: ∃ gv:Array Value,(ag=true->a.eval y= .agg gv)/\(ag=false-> #[a.eval y]=gv)/\aV m.w m.own ps gv.toList:=by
  generalize ev env y'=vy at TP hyr;cases ag with
  |true=>
   cases vy<;>simp[jM] at TP
   subst TP;obtain⟨arr,h1,h2⟩:=aZ.agg.1 hyr;exact⟨arr,fun _=>h1,fun h=>(by cases h),mX TT h2⟩
  |false=>
   cases vy<;>simp[jM] at TP
   subst TP;refine⟨#[a.eval y],fun h=>(by cases h),fun _=>rfl,mX TT ⟨rfl,fun j x u p q=> ?_⟩⟩;rcases j with _|j
   ·simp at p q;subst p q;exact hyr
   ·simp at p
 obtain⟨gv,hv1,YQ,hvp⟩:=hval;have Ti:=fH hh;have afg: ∀ (Ve:Array MapEntry) (UQ:Nat) (Vk:List (PV × List PV)),(execOp a.eval o).run P m.w= .ok .skip {m.w with heap:=m.w.heap.setIfInBounds (m.σ id) (.map Ve UQ)}->Pf m.w m.own ag Vk Ve->
   ef P w0 a.eval o m .undef [(id,(g,some (.map ag Vk)))]:=by
  intro Ve UQ Vk Uo Y3;have hs:(m.w.heap.setIfInBounds (m.σ id) (.map Ve UQ)).size=m.w.heap.size:=by simp
  have hko: ∀ c,c≠m.σ id->(m.w.heap.setIfInBounds (m.σ id) (.map Ve UQ))[c]? =m.w.heap[c]? :=fun c hc=>by
   rw[Array.getElem?_setIfInBounds];rw[if_neg (fun e=>hc e.symm)]
  have Uf:Ev m (m.gJ {m.w with heap:=m.w.heap.setIfInBounds (m.σ id) (.map Ve UQ)} id (.map ag Vk)):=qB Ts rfl rfl rfl rfl rfl hs hko;refine⟨_,m.gJ {m.w with heap:=m.w.heap.setIfInBounds (m.σ id) (.map Ve UQ)} id (.map ag Vk), .inr ⟨Uo,rfl⟩,uf Ts rfl Tj rfl rfl rfl rfl hs hko ?_,Uf,rfl,?_,rfl⟩
  ·refine⟨Ve,UQ,?_,Y3.1,fun i q v e h1 h2=> ?_⟩
   ·show(m.w.heap.setIfInBounds (m.σ id) (.map Ve UQ))[m.σ id]? =_;rw[Array.getElem?_setIfInBounds,if_pos rfl,if_pos Ti]
   ·obtain⟨p1,gg,p2,p3,p4⟩:=Y3.2 i q v e h1 h2;exact⟨p1.ev Uf.zero,gg,p2,p3,p4.ev Uf.zero⟩
  ·simp only[Mem.gJ,app,hg]
 rcases yO (kind:=kind) (by rw[Y0];exact WJ) TL (l:=ents.toList) (by simpa using hl) (fun j q v e h1 h2=>(TC j q v e h1 (by simpa using h2)).1) hf with ⟨rfl,hn⟩|⟨j,q',v,e',rfl,h2,h3,h4,hn⟩
 ·refine afg (ents.push {key:=a.eval k,val:=a.eval y,born:=clock}) (clock+1) _ ?_ ?_
  ·have hfk:=kQ (P:=P) m.w UJ hn;rcases ho with ho|ho<;>simp[execOp,ho,Instr.mapUpdate,run_underlying ht,hxv,kn hh,iG m.w UJ WJ,hfk,u5 hh]
  ·refine⟨by simp[hl],fun i q v e h1 h2=> ?_⟩;by_cases hi:i<es.length
   ·rw[acr hi] at h1;rw[Array.getElem?_push,if_neg (by omega)] at h2;exact TC i q v e h1 h2
   ·rw[acn (by omega)] at h1;have:i=es.length:=by
     by_cases h:i - es.length=0
     ·omega
     ·have:=(aag.1 h1).1;simp at this;omega
    subst this;simp at h1;obtain⟨rfl,rfl⟩:=h1;rw[Array.getElem?_push,if_pos hl.symm] at h2;cases h2
    exact⟨TL,gv,hv1,YQ,hvp⟩
 ·have YL:ents[j]? =some e':=by simpa using h3
  have hqe:e'.key=a.eval k:=sameKey_eq h4 TL (TC j q' v e' h2 YL).1;refine afg (ents.modify j fun e=>{e with key:=a.eval k,val:=a.eval y}) clock _ ?_ ?_
  ·have hfk:=kQ (P:=P) m.w UJ hn;rw[abC] at hfk;have hks:(Instr.keyThatStays e'.key (a.eval k)).run P m.w= .ok (a.eval k) m.w:=by rw[hqe];exact ss (kind:=kind) (by rw[Y0];exact WJ) TL
   rcases ho with ho|ho<;>simp[execOp,ho,Instr.mapUpdate,run_underlying ht,hxv,kn hh,iG m.w UJ WJ,hfk,u5 hh,YL,hks]
  ·simp only[abC];refine⟨by simp[hl],fun i q v e h1 h2=> ?_⟩;rw[aa3] at h1;rw[Array.getElem?_modify] at h2;by_cases WK:j=i
   ·subst WK;rw[if_pos rfl] at h1;split at h1
    ·cases h1
     simp[YL] at h2;subst h2;exact⟨TL,gv,hv1,YQ,hvp⟩
    ·cases h1
   ·rw[if_neg WK] at h1;rw[if_neg WK] at h2;exact TC i q v e h1 h2
end
end Go.Abs
namespace Go.Abs
variable {P:Program} {w0:World}
theorem tj{t:TypeId}{b:Bool}(h:zT P t=some b):(b=true/\ ∃ k,P.underlying t=some (.int k))\/(b=false/\P.underlying t=some .bool):=by
 unfold zT at h;split at h
 ·rename_i k hk;cases h;exact .inl ⟨rfl,_,hk⟩
 ·rename_i hk;cases h;exact .inr ⟨rfl,hk⟩
 ·cases h
theorem LK{a b:PV}{r:Bool}(h:CX true a b=some r): ∃ k x y,a= .int k x/\b= .int k y/\r=(x==y):=by
 cases a<;>cases b<;>simp[CX] at h
 exact⟨_,_,_,rfl,by rw[h.1],h.2.symm⟩
theorem IG{a b:PV}{r:Bool}(h:CX false a b=some r): ∃ x y,a= .bool x/\b= .bool y/\r=(x==y):=by
 cases a<;>cases b<;>simp[CX] at h
 exact⟨_,_,rfl,rfl,h.symm⟩
theorem LJ{as bs:List C}{r:Bool}(h:mC [] as bs=some r):r=true:=by
 cases as<;>cases bs<;>simp[mC] at h
 exact h
theorem IF{k:Bool}{ks:List Bool}{as bs:List C}{r:Bool}(h:mC (k::ks) as bs=some r):
  ∃ a ar b br r0,as= .p a::ar/\bs= .p b::br/\CX k a b=some r0/\(r0=true->mC ks ar br=some r)/\(r0=false->r=false):=by
 cases as with
 |nil=>simp[mC] at h
 |cons x ar=>
  cases bs with
  |nil=>cases x<;>simp[mC] at h
  |cons y br=>
   cases x<;>cases y<;>simp only[mC] at h<;>try cases h
   rename_i a b;cases he:CX k a b with
   |none=>simp[he] at h
   |some r0=>
    refine⟨a,ar,b,br,r0,rfl,rfl,he,fun e=> ?_,fun e=> ?_⟩
    ·subst e;simpa [he] using h
    ·subst e;simp[he] at h;exact h
theorem Ay{w:World}{m:Mem}(d:Nat){A B:Array Value}: ∀ {fs:List Field} {ks:List Bool} {k:Nat} {as bs:List C} {r:Bool},oG P k fs=some ks->mC ks as bs=some r->
  (∀ (j:Nat) (x:C),as[j]? =some x-> ∃ v,A[k+j]? =some v/\bH m x v)->(∀ (j:Nat) (x:C),bs[j]? =some x-> ∃ v,B[k+j]? =some v/\bH m x v)->
  (Op.eqFields (d+1) A B fs).run P w= .ok r w:=by
 intro fs
 induction fs with
 |nil=>
  intro ks k as bs r hf he _ _;simp[oG] at hf;subst hf;rw[LJ he];simp[Op.eqFields,Sem.run_pure]
 |cons f fs ih=>
  intro ks k as bs r hf he ha hb;simp only[oG] at hf;split at hf
  ·rename_i b bs' h1 h2;split at hf
   ·rename_i hc;obtain⟨ad9,afE⟩:=hc;cases hf
    obtain⟨x,ar,y,br,r0,rfl,rfl,h0,ht,hf⟩:=IF he;obtain⟨va,hva,YS⟩:=ha 0 (.p x) rfl;obtain⟨vb,hvb,VU⟩:=hb 0 (.p y) rfl;obtain⟨YS⟩:=YS;obtain⟨VU⟩:=VU;rw[ab6] at hva hvb;have adl: ∀ (X:Array Value) (v:Value),X[k]? =some v->(part f.type X f.offset).run P w= .ok v w:=by
     intro X v hX;have hag:(isAgg f.type).run P w= .ok false w:=by
      rcases tj h1 with ⟨_,kk,hu⟩|⟨_,hu⟩<;>simp[isAgg,run_underlying hu]
     rw[ad9];simp[part,hag,hX]
    have aiv:(Op.equalIn (d+1) f.type va vb).run P w= .ok r0 w:=by
     rcases tj h1 with ⟨rfl,kk,hu⟩|⟨rfl,hu⟩
     ·obtain⟨k',p,q,rfl,rfl,rfl⟩:=LK h0;cases YS;cases VU
      simp[Op.equalIn,run_underlying hu]
     ·obtain⟨p,q,rfl,rfl,rfl⟩:=IG h0;cases YS;cases VU
      simp[Op.equalIn,run_underlying hu]
    simp only[Op.eqFields,if_pos afE,Sem.run_bind,adl A va hva,adl B vb hvb,aiv,Result.andThen_ok];cases r0 with
    |false=>rw[hf rfl];simp[Sem.run_pure]
    |true=>
     simp only[Bool.not_true,aaL,if_false];exact ih h2 (ht rfl) (fun j x hx=>by have:=ha (j+1) x (by simpa using hx);rwa[show k+(j+1)=k+1+j by omega] at this) (fun j x hx=>by have:=hb (j+1) x (by simpa using hx);rwa[show k+(j+1)=k+1+j by omega] at this)
   ·cases hf
  ·cases hf
def rT:Hk->Value->Bool->Prop
 | .ptr,v,b=> ∃ a,v= .pointer a/\a.isNone=b
 | .slc,v,b=> ∃ a l c,v= .slice a l c/\a.isNone=b
 | .map,v,b=> ∃ r,v= .map r/\r.isNone=b
 | .fnc,v,b=>(v= .nilFunc/\b=true)\/ ∃ f x y,v= .func f x y/\b=false
 | .ifc,v,b=>(v= .nilIface/\b=true)\/ ∃ d x,v= .iface d x/\b=false
 |_,_,_=>False
theorem dO{m:Mem}{k:Hk}{x:V}{v:Value}{b:Bool}(h:pW k x=some b)(hr:aZ m x v):rT k v b:=by
 unfold pW at h;split at h<;>cases h
 all_goals first
  |(obtain⟨hp⟩:bH m _ v:=hr;cases hp;first
    |exact⟨_,rfl,rfl⟩
    |exact⟨_,_,_,rfl,rfl⟩
    |exact .inl ⟨rfl,rfl⟩
    |exact .inr ⟨_,_,_,rfl,rfl⟩
    |exact .inr ⟨_,_,rfl,rfl⟩)
  |(have hc:bH m _ v:=hr;cases hc;first
    |exact⟨_,rfl,rfl⟩
    |exact⟨_,_,_,rfl,rfl⟩
    |exact .inr ⟨_,_,_,rfl,rfl⟩)
def FY(P:Program)(t:TypeId):Hk->Prop
 | .bool=>P.underlying t=some .bool
 | .ptr=> ∃ e,P.underlying t=some (.pointer e)
 | .slc=> ∃ e,P.underlying t=some (.slice e)
 | .map=> ∃ a b,P.underlying t=some (.map a b)
 | .fnc=> ∃ a b c,P.underlying t=some (.func a b c)
 | .ifc=> ∃ a,P.underlying t=some (.interface a)
 | .str ks=> ∃ fs,P.underlying t=some (.struct fs)/\P.stoodInHeld t=false/\P.eqGuardType P.depth t=false/\oG P 0 fs.toList=some ks
theorem wx{t:TypeId}{x y:Operand}{k:Hk}(h:wy P t x y=some k):FY P t k/\(k= .ifc->lD x=true\/lD y=true):=by
 unfold wy at h;split at h
 ·rename_i a ha;split at h
  ·rename_i hc;cases h
   exact⟨⟨_,ha⟩,fun _=>by simpa using hc⟩
  ·cases h
 ·rename_i ha;cases h;exact⟨ha,fun e=>by cases e⟩
 ·rename_i ha;cases h;exact⟨⟨_,ha⟩,fun e=>by cases e⟩
 ·rename_i ha;cases h;exact⟨⟨_,ha⟩,fun e=>by cases e⟩
 ·rename_i ha;cases h;exact⟨⟨_,_,ha⟩,fun e=>by cases e⟩
 ·rename_i ha;cases h;exact⟨⟨_,_,_,ha⟩,fun e=>by cases e⟩
 ·rename_i fs ha;split at h
  ·rename_i hc;simp only[aao] at h;obtain⟨ks,h1,rfl⟩:=h;simp at hc;exact⟨⟨fs,ha,hc.1,hc.2,h1⟩,fun e=>by cases e⟩
  ·cases h
 ·cases h
theorem tF{t:TypeId}{k:Hk}{v u:Value}{a b:Bool}(w:World)(hk:FY P t k)(h1:rT k v a)(h2:rT k u b)(WP:a=true\/b=true)(d:Nat):(Op.equalIn (d+1) t v u).run P w= .ok (a&&b) w:=by
 cases k with
 |bool=>exact h1.elim
 |str n=>exact h1.elim
 |ptr=>
  obtain⟨e,hu⟩:=hk;obtain⟨x,rfl,rfl⟩:=h1;obtain⟨y,rfl,rfl⟩:=h2;cases x<;>cases y<;>simp at WP<;>simp[Op.equalIn,run_underlying hu]
 |slc=>
  obtain⟨e,hu⟩:=hk;obtain⟨x,_,_,rfl,rfl⟩:=h1;obtain⟨y,_,_,rfl,rfl⟩:=h2;cases x<;>cases y<;>simp at WP<;>simp[Op.equalIn,run_underlying hu]
 |map=>
  obtain⟨e,e',hu⟩:=hk;obtain⟨x,rfl,rfl⟩:=h1;obtain⟨y,rfl,rfl⟩:=h2;cases x<;>cases y<;>simp at WP<;>simp[Op.equalIn,run_underlying hu]
 |fnc=>
  obtain⟨e,e',e'',hu⟩:=hk;rcases h1 with ⟨rfl,rfl⟩|⟨_,_,_,rfl,rfl⟩<;>rcases h2 with ⟨rfl,rfl⟩|⟨_,_,_,rfl,rfl⟩<;>simp at WP<;>simp[Op.equalIn,run_underlying hu]
 |ifc=>
  obtain⟨e,hu⟩:=hk;rcases h1 with ⟨rfl,rfl⟩|⟨_,_,rfl,rfl⟩<;>rcases h2 with ⟨rfl,rfl⟩|⟨_,_,rfl,rfl⟩<;>simp at WP<;>simp[Op.equalIn,run_underlying hu]
section
variable {m:Mem} {env:Env} {a:Act} {o:Oper} (Tj:Ok w0 m) (hr:fS m env a.tmps)
include Tj hr
theorem Ow{t:TypeId}{k:Hk}{x y:V}{v u:Value}{b:Bool}(hk:FY P t k)(h:Ox k x y=some b)(hx:aZ m x v)(hy:aZ m y u)(d:Nat):(Op.equalIn (d+2) t v u).run P m.w= .ok b m.w:=by
 have _u0:=Tj;have _u1:=hr;unfold Ox at h;split at h
 ·cases h
  rw[jo hx,jo hy];have hk:P.underlying t=some .bool:=hk;simp only[Op.equalIn,Sem.run_bind,run_underlying hk,Result.andThen_ok,Sem.run_pure]
 ·obtain⟨A,rfl,hA⟩:=aZ.agg.1 hx;obtain⟨B,rfl,hB⟩:=aZ.agg.1 hy;obtain⟨fs,hu,hs,_,hf⟩:=hk;have hfo:P.fieldsOf t=fs:=by simp[Program.fieldsOf,hu]
  rw[run_equalIn_agg m.w (d+1) t A B (by rw[hfo];exact hu) hs,hfo];refine Ay (w:=m.w) (m:=m) d hf h (fun j x hx=> ?_) (fun j x hx=> ?_)
  ·have Ti:j<A.size:=by have:=hA.1;simp at this;rw[this];exact(aag.1 hx).1
   exact⟨A[j],by simp[Ti],hA.2 j x _ hx (by simp[Ti])⟩
  ·have Ti:j<B.size:=by have:=hB.1;simp at this;rw[this];exact(aag.1 hx).1
   exact⟨B[j],by simp[Ti],hB.2 j x _ hx (by simp[Ti])⟩
 ·cases h
 ·cases h
 ·split at h
  ·rename_i hb;have:=tF (P:=P) m.w hk (dO h hx) (dO hb hy) (.inr rfl) (d+1)
   simpa using this
  ·split at h
   ·rename_i ha;have:=tF (P:=P) m.w hk (dO ha hx) (dO h hy) (.inl rfl) (d+1)
    simpa using this
   ·cases h
theorem CW{op:BinOp}{t:TypeId}{k:Hk}{x y:Operand}{x' y':aC}{b:Bool}(hk:wy P t x y=some k)(hx:bp x=some x')(hy:bp y=some y')(h:Ox k (ev env x') (ev env y')=some b):
  (eqGuard op t x y (a.eval x) (a.eval y)).run P m.w= .ok () m.w:=by
 have _u0:=Tj;obtain⟨TH,Wm⟩:=wx hk;have h1:=aE hx hr;have h2:=aE hy hr;by_cases hop:op= .eql\/op= .neq
 ·unfold Ox at h;split at h
  ·rename_i e1 e2;rw[e1] at h1;rw[jo h1,eqGuard_at_bool];rfl
  ·rename_i e1 e2;rw[e1] at h1;rw[e2] at h2;obtain⟨A,e3,_⟩:=aZ.agg.1 h1;obtain⟨B,e4,_⟩:=aZ.agg.1 h2;obtain⟨fs,_,_,hg,_⟩:=TH;rw[e3,e4];exact run_eqGuard_agg m.w op t x y A B hg
  ·cases h
  ·cases h
  ·rename_i k q1 q2 q3 q4 q5 q6 q7;have hn: ∃ b1 b2,rT k (a.eval x) b1/\rT k (a.eval y) b2:=by
    split at h
    ·rename_i hb;exact⟨_,_,dO h h1,dO hb h2⟩
    ·split at h
     ·rename_i ha;exact⟨_,_,dO ha h1,dO h h2⟩
     ·cases h
   obtain⟨b1,b2,n1,n2⟩:=hn;cases k with
   |bool=>exact n1.elim
   |str n=>exact n1.elim
   |ptr=>obtain⟨q,e,_⟩:=n1;rw[e,eqGuard_at_pointer];rfl
   |slc=>obtain⟨q,_,_,e,_⟩:=n1;rw[e,eqGuard_at_slice];rfl
   |map=>obtain⟨q,e,_⟩:=n1;rw[e,eqGuard_at_map];rfl
   |fnc=>
    rcases n1 with ⟨e,_⟩|⟨_,_,_,e,_⟩
    ·rw[e,eqGuard_at_nilFunc];rfl
    ·rw[e,eqGuard_at_func];rfl
   |ifc=>
    rcases n1 with ⟨e,_⟩|⟨_,_,e,_⟩
    ·rcases n2 with ⟨e',_⟩|⟨_,_,e',_⟩
     ·rw[e,e'];have hc:(∃ c,x= .const c)\/ ∃ c,y= .const c:=by
       rcases Wm rfl with hc|hc
       ·cases x<;>simp[lD] at hc
        exact .inl ⟨_,rfl⟩
       ·cases y<;>simp[lD] at hc
        exact .inr ⟨_,rfl⟩
      rcases hc with ⟨c,rfl⟩|⟨c,rfl⟩
      ·rw[eqGuard_nil_constL];rfl
      ·rw[eqGuard_nil_constR];rfl
     ·rw[e,e',eqGuard_nil_iface];rfl
    ·rw[e,eqGuard_at_iface];rfl
 ·have:eqGuard op t x y (a.eval x) (a.eval y)=pure ():=by
   cases op<;>first
    |rfl
    |exact(hop (.inl rfl)).elim
    |exact(hop (.inr rfl)).elim
  rw[this];rfl
theorem xD{t:TypeId}{k:Hk}{v u:Value}{b1:Bool}(hs:(∃ p q,v= .bool p/\u= .bool q)\/(∃ p q,v= .agg p/\u= .agg q)\/ ∃ p q,rT k v p/\rT k u q)(h:(Op.equalIn (9998+2) t v u).run P m.w= .ok b1 m.w):
  (binOp .eql t v u).run P m.w= .ok (.bool b1) m.w/\(binOp .neq t v u).run P m.w= .ok (.bool (!b1)) m.w:=by
 have _u0:=Tj;have _u1:=hr;have he:Op.equal t v u=Op.equalIn (9998+2) t v u:=rfl;have key:binOp .eql t v u=(do pure (.bool (<- Op.equal t v u)))/\binOp .neq t v u=(do pure (.bool (!(<- Op.equal t v u)))):=by
  rcases hs with ⟨p,q,rfl,rfl⟩|⟨p,q,rfl,rfl⟩|⟨p,q,h1,h2⟩
  ·exact⟨rfl,rfl⟩
  ·exact⟨rfl,rfl⟩
  ·cases k with
   |bool=>exact h1.elim
   |str n=>exact h1.elim
   |ptr=>obtain⟨_,rfl,_⟩:=h1;obtain⟨_,rfl,_⟩:=h2;exact⟨rfl,rfl⟩
   |slc=>obtain⟨_,_,_,rfl,_⟩:=h1;obtain⟨_,_,_,rfl,_⟩:=h2;exact⟨rfl,rfl⟩
   |map=>obtain⟨_,rfl,_⟩:=h1;obtain⟨_,rfl,_⟩:=h2;exact⟨rfl,rfl⟩
   |fnc=>rcases h1 with ⟨rfl,_⟩|⟨_,_,_,rfl,_⟩<;>rcases h2 with ⟨rfl,_⟩|⟨_,_,_,rfl,_⟩<;>exact⟨rfl,rfl⟩
   |ifc=>rcases h1 with ⟨rfl,_⟩|⟨_,_,rfl,_⟩<;>rcases h2 with ⟨rfl,_⟩|⟨_,_,rfl,_⟩<;>exact⟨rfl,rfl⟩
 rw[key.1,key.2,he];simp only[Sem.run_bind,h,Result.andThen_ok,Sem.run_pure,and_self]
theorem Ge{op:BinOp}{t ty:TypeId}{x y:Operand}{x' y':aC}{k:Hk}{neg b:Bool}(ho:o.op= .binOp op t x y ty)(hop:(op= .eql/\neg=false)\/(op= .neq/\neg=true))(hk:wy P t x y=some k)(hx:bp x=some x')(hy:bp y=some y')
  (hv:Ox k (ev env x') (ev env y')=some b):ef P w0 a.eval o m (.one (.p (.bool (if neg then !b else b)))) []:=by
 have h1:=aE hx hr;have h2:=aE hy hr;have hg:=CW Tj hr (op:=op) hk hx hy hv;have he:=Ow Tj hr (wx hk).1 hv h1 h2 9998;have hs:(∃ p q,a.eval x= .bool p/\a.eval y= .bool q)\/(∃ p q,a.eval x= .agg p/\a.eval y= .agg q)\/ ∃ p q,rT k (a.eval x) p/\rT k (a.eval y) q:=by
  unfold Ox at hv;split at hv
  ·rename_i e1 e2;rw[e1] at h1;rw[e2] at h2;exact .inl ⟨_,_,jo h1,jo h2⟩
  ·rename_i e1 e2;rw[e1] at h1;rw[e2] at h2;obtain⟨A,e3,_⟩:=aZ.agg.1 h1;obtain⟨B,e4,_⟩:=aZ.agg.1 h2;exact .inr (.inl ⟨A,B,e3,e4⟩)
  ·cases hv
  ·cases hv
  ·split at hv
   ·rename_i hb;exact .inr (.inr ⟨_,_,dO hv h1,dO hb h2⟩)
   ·split at hv
    ·rename_i ha;exact .inr (.inr ⟨_,_,dO ha h1,dO hv h2⟩)
    ·cases hv
 obtain⟨r1,r2⟩:=xD Tj hr hs he;rcases hop with ⟨rfl,rfl⟩|⟨rfl,rfl⟩
 ·exact .calm Tj (by simp[execOp,ho,hg,r1]) (jK (.bool _))
 ·exact .calm Tj (by simp[execOp,ho,hg,r2]) (jK (.bool _))
end
end Go.Abs
namespace Go.Abs
variable {P:Program} {w0:World}
theorem AR: ∀ {es:List (List PV)} {bs:List UInt8},bytesOf es=some bs-> ∃ ns:List Int,es.flatten=ns.map (PV.int .u8)/\bs=ns.map (fun n=>UInt8.ofNat n.toNat)/\ns.length=es.length:=by
 intro es
 induction es with
 |nil=>intro bs h;simp[bytesOf] at h;exact⟨[],rfl,h,rfl⟩
 |cons e r ih=>
  intro bs h;unfold bytesOf at h;split at h
  ·rename_i e';cases e'
  ·rename_i n r' e';cases e'
   simp only[aao] at h;obtain⟨q,hq,rfl⟩:=h;obtain⟨ns,h1,h2,h3⟩:=ih hq;exact⟨n::ns,by simp[h1],by simp[h2],by simp[h3]⟩
  ·cases h
theorem Ns{w:World}{own:Nat->Prop}: ∀ {ns:List Int} {vs:List Value},Pw (bi w own) (ns.map (PV.int .u8)) vs->vs=ns.map (Value.int .u8):=by
 intro ns
 induction ns with
 |nil=>intro vs h;have:=h.1;simp at this;simp[this]
 |cons n ns ih=>
  intro vs h;cases vs with
  |nil=>have:=h.1;simp at this
  |cons v vs=>
   have h0:=h.2 0 _ v rfl rfl;cases h0
   rw[ih (vs:=vs) ⟨by have:=h.1;simpa using this,fun j x u a b=>h.2 (j+1) x u (by simpa using a) (by simpa using b)⟩];rfl
theorem Km: ∀ (ns:List Int) (s:ByteArray),ns.foldl (fun r n=>r.push (UInt8.ofNat n.toNat)) s=⟨s.data++(ns.map (fun n=>UInt8.ofNat n.toNat)).toArray⟩:=by
 intro ns
 induction ns with
 |nil=>intro s;cases s;simp
 |cons n ns ih=>
  intro s;simp only[abN,aas];rw[ih];cases s
  simp[ByteArray.push]
section
variable {m:Mem} {env:Env} {a:Act} {o:Oper} (Tj:Ok w0 m) (hr:fS m env a.tmps)
include Tj hr
theorem Ka{s d e:TypeId}{x:Operand}{x':aC}{es:List (List PV)}{r:List Nat}{bs:List UInt8}(ho:o.op= .convert s d x)(hs:P.underlying s=some (.slice e))(he:P.underlying e=some (.int .u8))(hd:P.underlying d=some .string)
  (hx:bp x=some x') (TS:bh m.Tc (ev env x')=some (es,r,[])) (hb:bytesOf es=some bs):ef P w0 a.eval o m (.one (.p (.str ⟨bs.toArray⟩))) []:=by
 obtain⟨ns,h1,h2,h3⟩:=AR hb;obtain⟨ax,cx,hxv,_,XJ⟩:=tH (own:=m.own) Tj TS (aE hx hr) ⟨fun _ h=>h,fun _ h=>by simp at h⟩;refine .calm Tj (x:= .string ⟨bs.toArray⟩) ?_ (jK (.str _));have key:(Conv.bytesToString (.slice ax es.length cx)).run P m.w= .ok (.string ⟨bs.toArray⟩) m.w:=by
  by_cases TA:es=[]
  ·subst TA;have:ns=[]:=by simpa using h3
   subst this;have UF:bs=[]:=by simpa using h2
   subst UF;cases ax with
   |none=>simp[Conv.bytesToString,Sem.run_pure];rfl
   |some ad=>
    have:=run_bytesToString (P:=P) m.w ad 0 cx [] (by simp[loadCells,loadCellsFrom,Sem.run_pure]);exact this
  ·obtain⟨b,off,news,rfl,YU,VX⟩:=XJ TA;rw[h1] at YU;have hn:=Ns YU;have hl:news.length=es.length:=by rw[hn];simpa using h3
   have afI:(loadCells ⟨b,off,none⟩ es.length).run P m.w= .ok (ns.map (Value.int .u8)).toArray m.w:=by
    rw[<- hl,<- hn];exact run_loadCells_list m.w ⟨b,off,none⟩ news fun j v hj=>by rw[Addr.add_lit];exact VX j v hj
   rw[run_bytesToString m.w _ _ cx ns afI,Km,h2];simp[ByteArray.empty,ByteArray.emptyWithCapacity];rfl
 simp only[execOp,ho,hxv,Sem.run_bind,run_convert_bytes_string m.w s d e ax es.length cx hs he hd,key,Result.andThen_ok,Sem.run_pure]
end
end Go.Abs
namespace Go.Abs
variable {P:Program} {w0:World}
theorem sV{xs:Array Operand}{a:aC}(h:ii xs.toList=some [a]): ∃ x,xs= #[x]/\bp x=some a:=by
 obtain⟨xs⟩:=xs;cases xs with
 |nil=>simp[ii] at h
 |cons x r=>
  simp only[ii] at h;split at h
  ·rename_i y ys e1 e2;cases h
   cases r with
   |nil=>exact⟨x,rfl,e1⟩
   |cons z r=>
    simp only[ii] at e2;split at e2<;>simp at e2
  ·cases h
theorem sU{xs:Array Operand}{a b:aC}(h:ii xs.toList=some [a,b]): ∃ x y,xs= #[x,y]/\bp x=some a/\bp y=some b:=by
 obtain⟨xs⟩:=xs;cases xs with
 |nil=>simp[ii] at h
 |cons x r=>
  simp only[ii] at h;split at h
  ·rename_i y ys e1 e2;cases h
   obtain⟨z,hz,hz2⟩:=sV (xs:=r.toArray) (by simpa using e2);have:r=[z]:=by simpa using congrArg Array.toList hz
   subst this;exact⟨x,z,rfl,e1,hz2⟩
  ·cases h
theorem Hq{xs:Array TypeId}{t u:TypeId}(h1:xs[0]? =some t)(h2:xs[1]? =some u)(hs:xs.size=2):xs= #[t,u]:=by
 obtain⟨xs⟩:=xs
 match xs,hs with
 |[a,b],_=>
  simp at h1 h2;subst h1 h2;rfl
theorem CO{α:Type}{sz:Nat}{es ys:List (List α)}{off:Nat}(h: ∀ e∈es,e.length=sz)(hy: ∀ e∈ys,e.length=sz)(hl:off+ys.length<=es.length):(bc es off ys).flatten=bc es.flatten (off*sz) ys.flatten:=by
 have ht: ∀ k,k<=es.length->(es.take k).flatten.length=k*sz:=fun k hk=>by
  rw[lQ fun e he=>h e (abM he),aaB,ab8 hk]
 have e1:es.flatten=(es.take off).flatten++(es.drop off).flatten:=by rw[<- aco,ado]
 have e2:es.flatten=(es.take (off+ys.length)).flatten++(es.drop (off+ys.length)).flatten:=by rw[<- aco,ado]
 unfold bc;rw[aco,aco,lQ hy];congr 1
 ·congr 1
  conv=>rhs;rw[e1]
  rw[List.take_left' (ht off (by omega))]
 ·rw[<- aaz]
  conv=>rhs;rw[e2]
  rw[List.drop_left' (ht _ hl)]
theorem zk{R:PV->Value->Prop}{z:List PV}{v:Array Value}{n:Nat}(hz:Pw R z v.toList):Pw R (List.replicate n z).flatten (Builtin.zeroCells v n).toList:=by
 have hzl:z.length=v.size:=by have:=hz.1;simp at this;omega
 have Ty: ∀ e∈List.replicate n z,e.length=v.size:=fun e he=>by rw[adG he];exact hzl
 have hlen:(Builtin.zeroCells v n).toList.length=n*v.size:=by simp[size_zeroCells]
 refine⟨by rw[hlen,lQ Ty];simp,fun j x u p q=> ?_⟩;have hj:j<n*v.size:=by have:=(aag.1 q).1;omega
 have T3:0<v.size:=by
  rcases Nat.eq_zero_or_pos v.size with h|h
  ·rw[h] at hj;omega
  ·exact h
 have hdiv:j/v.size<n:=by rw[Nat.div_lt_iff_lt_mul T3];exact hj
 have ab9:j%v.size<v.size:=aax _ T3;have he:(List.replicate n z)[j/v.size]? =some z:=by simp[hdiv]
 have h1:=mw Ty he ab9;rw[show j/v.size*v.size+j%v.size=j by rw[Nat.mul_comm];exact Nat.div_add_mod j v.size] at h1;rw[h1] at p;have h2:(Builtin.zeroCells v n).toList[j]? =some v[j%v.size]! :=by
  unfold Builtin.zeroCells;simp[hj]
 rw[h2] at q;cases q
 refine hz.2 (j%v.size) x _ p ?_;simp[ab9]
section
variable {m:Mem} {env:Env} {a:Act} {o:Oper} (Tj:Ok w0 m) (hr:fS m env a.tmps)
include Tj hr
theorem HJ{c:Call}{x:Operand}{x':aC}{t e:TypeId}{sz bytes:Nat}{z:List PV}{sh:Nat->Bool}{v:V}{u:List jv}{rd:List Nat}(ho:o.op= .call c)(hc:c.callee= .builtin .clear)(has:c.args= #[x])(VB:c.argTypes[0]? =some t)
  (he:pL P t=some (e,sz,bytes,z)) (hx:bp x=some x') (hp:aP sh env m.Tc (.clear z x')= .done v u rd):ef P w0 a.eval o m v u:=by
 obtain⟨i,zv,ht,hi,hs,hb,⟨T3,XM⟩,hiz,hzs,hzl,TT⟩:=oQ he;have Vg:=aE hx hr;have run: ∀ (y:Value) (w':World),(Builtin.clear_ c.argTypes o.type #[a.eval x]).run P m.w= .ok y w'->(execOp a.eval o).run P m.w= .ok (.value y) w':=by
  intro y w' h;simp[execOp,ho,resolve,hc,has,invoke,builtin,h]
 have quiet:(Builtin.clear_ c.argTypes o.type #[a.eval x]).run P m.w= .ok (.tuple #[]) m.w->ef P w0 a.eval o m (.tup []) []:=fun h=>
  ⟨.tuple #[],m, .inl (run _ _ h),Tj,Ev.refl _,rfl,rfl,(⟨#[],rfl,rfl,fun j x u h=>by simp at h⟩:aZ m (.tup []) _)⟩
 simp only[aP] at hp;split at hp
 ·rename_i hv;cases hp
  rw[hv] at Vg;have Vg:bH m _ (a.eval x):=Vg;generalize hbb:a.eval x=b at Vg;rw[hbb] at quiet;apply quiet;cases Vg with
  |p h=>cases h;simp[Builtin.clear_,VB,run_underlying ht]
 ·rename_i hv;cases hp
  rw[hv] at Vg;have Vg:bH m _ (a.eval x):=Vg;generalize hbb:a.eval x=b at Vg;rw[hbb] at quiet;apply quiet;cases Vg with
  |p h=>
   cases h with
   |sl0 a cap hn hm=>cases a<;>simp[Builtin.clear_,VB,run_underlying ht]
   |sl b o cap sz f h1 h2 h3 h4=>simp[Builtin.clear_,VB,run_underlying ht]
 ·rename_i id g w off len hv;rw[hv] at Vg;have Vg:bH m _ (a.eval x):=Vg;generalize hbb:a.eval x=b at Vg;rw[hbb] at quiet run;cases Vg with
  |hsl ad cap hg hl hm Wo=>
   split at hp
   ·rename_i h0;cases hp
    subst h0;apply quiet;simp[Builtin.clear_,VB,run_underlying ht]
   ·rename_i h0;split at hp
    ·rename_i g' ty TY es hbk;split at hp
     ·rename_i UM;obtain⟨U0,TG,hfit⟩:=UM;cases hp
      have Tv:(m.Tc id).2=some (.arr ty TY es):=by rw[hbk]
      obtain⟨_,Wo,_⟩:=Wo TY (by rw[hbk];exact U0) (by rw[hbk];rfl);have Wo:=Wo (.inr (by omega));subst Wo;obtain⟨cur,hh,Wi,UU,VG,Wk,adx,ab4⟩:=Tj.obj id _ Tv;have hze: ∀ e∈List.replicate len z,e.length=TY:=fun e he=>by rw[adG he];exact TG.symm
      have ahy:zv.cells.size=TY:=by rw[hzs,<- hzl,TG]
      have hzr:(List.replicate len z).length=len:=List.length_replicate;have WM:=CO (off:=off) UU hze (by rw[hzr];exact hfit);have Vj:(off+len)*TY<=es.length*TY:=aa6 _ hfit;have afR:es.length*TY<=m.κ id*TY:=aa6 _ VG;rw[aaz] at Vj;generalize hZ:(Builtin.zeroCells zv.cells len).toList=Z;have hZl:Z.length=len*TY:=by rw[<- hZ];simp[size_zeroCells,ahy]
      have hZp: ∀ w own,aV w own (List.replicate len z).flatten Z:=fun w own=>aV.pw.2 (by rw[<- hZ];exact zk (aV.pw.1 (TT w own)))
      have ab5: ∀ v∈Z,v.oneCell'=true:=fun v hv=>by
       obtain⟨j,hj⟩:=aaC hv;have Ti:j<(List.replicate len z).flatten.length:=by rw[<- (hZp m.w m.own).1];exact(aag.1 hj).1
       exact((hZp m.w m.own).2 j _ v (abJ Ti) hj).qQ
      have Vx:off*TY+0+Z.length<=cur.size:=by rw[hZl,adx];omega
      have TE:=run_storeCells_at P (m.σ id) (off*TY) ty Z 0 cur m.w hh Vx ab5;simp only[ab6] at TE;generalize hW:m.w.setRow (m.σ id) (cur.toList.take (off*TY)++Z++cur.toList.drop (off*TY+Z.length)).toArray=W at TE;have hWs:W.heap.size=m.w.heap.size:=by rw[<- hW];simp
      have hWo: ∀ c,c≠m.σ id->W.heap[c]? =m.w.heap[c]? :=fun c hc=>by rw[<- hW];exact setRow_other m.w (m.σ id) c _ hc
      have afo:(bc es off (List.replicate len z)).length=es.length:=l7 (by rw[hzr];exact hfit);have Uf:=qB (w':=W) (o:= .arr ty TY (bc es off (List.replicate len z))) Tv rfl (by simp[im]) (by rw[<- hW];rfl) (by rw[<- hW];rfl) (by rw[<- hW];rfl) hWs hWo;have WG:pC (m.gJ W id (.arr ty TY (bc es off (List.replicate len z)))) id (.arr ty TY (bc es off (List.replicate len z))):=by
       refine⟨_,by rw[<- hW];exact oF hh,Wi,?_,by rw[afo];exact VG,Wk,?_,?_⟩
       ·intro e' he';unfold bc at he';simp only[aaM] at he';rcases he' with (h|h)|h
        ·exact UU e' (abM h)
        ·exact hze e' h
        ·exact UU e' (abL h)
       ·simp[Mem.gJ];omega
       ·rw[afo,WM];have h1:=(aV.pw.1 (ab4.ev Uf.zero)).bc (aV.pw.1 (hZp (m.gJ W id (.arr ty TY (bc es off (List.replicate len z)))).w (m.gJ W id (.arr ty TY (bc es off (List.replicate len z)))).own)) (off*TY);rw[<- th (by omega) (by simp;omega)] at h1;have h1:=aV.pw.2 h1
        simpa [bc] using h1
      refine⟨.tuple #[],m.gJ W id (.arr ty TY (bc es off (List.replicate len z))), .inl (run _ _ ?_),uf Tv rfl Tj (by simp[im]) (by rw[<- hW];rfl) (by rw[<- hW];rfl) (by rw[<- hW];rfl) hWs hWo WG,Uf,rfl,?_,(⟨#[],rfl,rfl,fun j x u h=>by simp at h⟩:aZ _ (.tup []) _)⟩
      ·obtain⟨k,rfl⟩: ∃ k,len=k+1:=⟨len - 1,by omega⟩;simp[Builtin.clear_,VB,run_underlying ht,zeroValue,typeInfo,hi,hiz,hZ,TE,Mem.gJ]
      ·simp[Mem.gJ,app,hbk,U0]
     ·cases hp
    ·cases hp
 ·cases hp
end
section
variable {m:Mem} {env:Env} {a:Act} {o:Oper} (Tj:Ok w0 m) (hr:fS m env a.tmps)
include Tj hr
theorem Ch{t kt e:TypeId}{x k y:Operand}{x' k' y':aC}{kd:Nat}{ag:Bool}{sh:Nat->Bool}{v:V}{u:List jv}{rd:List Nat}(ho:o.op= .mapUpdate t x k y\/o.op= .insert t x k y)(ht:P.underlying t=some (.map kt e))
  (hkd:keyOf P kt=some kd) (hx:bp x=some x') (hk:bp k=some k') (hy:bp y=some y') (hp:aP sh env m.Tc (.mupd kd ag x' k' y')= .done v u rd):ef P w0 a.eval o m v u:=by
 simp only[aP] at hp;split at hp
 ·rename_i id g q cs e1 e2 e3;split at hp
  ·rename_i g' Xv es ps e4 e5;split at hp
   ·rename_i UO;obtain⟨rfl,rfl,hq⟩:=UO;split at hp
    ·rename_i i w hf;cases hp
     exact Bz Tj hr ho ht hkd hx hk hy e1 e4 e2 hq e3 e5 hf
    ·rename_i hf;cases hp
     exact Bz Tj hr ho ht hkd hx hk hy e1 e4 e2 hq e3 e5 hf
    ·cases hp
   ·cases hp
  ·cases hp
 ·cases hp
theorem QM{site:Nat}{sh:Nat->Bool}{p:w9}{v:V}{u:List jv}{rd:List Nat}(hc:qf P site o=some p)(hp:aP sh env m.Tc p= .done v u rd):ef P w0 a.eval o m v u:=by
 unfold qf at hc;split at hc
 · -- move
  rename_i x ho;simp only[aao] at hc;obtain⟨y,h1,rfl⟩:=hc;cases hp
  exact BB Tj hr (.inl ho) h1
 · -- assign
  rename_i x ho;simp only[aao] at hc;obtain⟨y,h1,rfl⟩:=hc;cases hp
  exact BB Tj hr (.inr ho) h1
 · -- pick
  rename_i c x y ho;split at hc
  ·rename_i c' x' y' h1 h2 h3;cases hc
   simp only[aP] at hp;split at hp
   ·rename_i t ht;cases hp
    exact J4 Tj hr ho h1 h2 h3 ht
   ·cases hp
  ·cases hc
 · -- alloc
  rename_i t ho;simp only[aao] at hc;obtain⟨z,h1,rfl⟩:=hc;cases hp
  exact HK Tj ho h1
 · -- box
  rename_i t x ho;simp only[aao] at hc;obtain⟨z,h1,rfl⟩:=hc;simp only[aP] at hp;split at hp
  ·rename_i cs TP;cases hp
   exact Nl Tj hr ho h1 TP
  ·cases hp
 · -- build
  rename_i t ps ho;split at hc
  ·rename_i fs z h1 h2;split at hc
   ·rename_i Ty;simp only[aao] at hc;obtain⟨qs,h3,rfl⟩:=hc;simp only[aP] at hp;split at hp
    ·rename_i rs hrs;cases hp
     exact rY Tj hr ho h1 h2 Ty h3 hrs
    ·cases hp
   ·cases hc
  ·rename_i n e z h1 h2;split at hc
   ·rename_i i hi;simp only[aao] at hc;obtain⟨qs,h3,rfl⟩:=hc;simp only[aP] at hp;split at hp
    ·rename_i rs hrs;cases hp
     exact tX Tj hr ho h1 h2 hi h3 hrs
    ·cases hp
   ·cases hc
  ·cases hc
 · -- buildSlice
  rename_i t n ps ho;split at hc
  ·rename_i e sz bytes z as h1 h2;split at hc
   ·rename_i UO;cases hc
    simp only[aP] at hp;split at hp
    ·rename_i es UL;obtain⟨g1,g2⟩:=El (s:=site) Tj hr ho h1 h2 UO.1 UO.2 UL;split at hp
     ·rename_i qs hqs;cases hp
      exact g1 qs hqs
     ·cases hp
      exact g2
    ·cases hp
   ·cases hc
  ·cases hc
 · -- load
  rename_i t x ho;split at hc
  ·rename_i k y h1 h2;cases hc
   simp only[aP] at hp;split at hp
   ·rename_i cs r TP;split at hp
    ·rename_i v' hv;cases hp
     exact J7 Tj hr ho h1 h2 TP hv
    ·cases hp
   ·cases hp
  ·cases hc
 · -- store
  rename_i t x y ho;split at hc
  ·rename_i n x' y' h1 h2 h3;cases hc
   simp only[aP] at hp;split at hp
   ·rename_i cs TP;exact HD Tj hr ho h1 h2 h3 TP hp
   ·cases hp
  ·cases hc
 · -- nilCheck
  rename_i x ho;simp only[aao] at hc;obtain⟨y,h1,rfl⟩:=hc;have hu:u=[]/\rd=[]:=by
   simp only[aP] at hp;split at hp<;>cases hp<;>exact⟨rfl,rfl⟩
  obtain⟨rfl,rfl⟩:=hu;exact Ej Tj hr ho h1 hp
 · -- binOp
  rename_i op t x y ty ho;split at hc
  ·rename_i x' y' h1 h2;have af3: ∀ (op':BinOp),p= .bin op' x' y'->op'=op->ef P w0 a.eval o m v u:=by
    intro op' e1 e2;subst e1 e2;simp only[aP] at hp;split at hp
    ·rename_i v' hv;cases hp
     exact Nm Tj hr ho h1 h2 hv
    ·cases hp
   split at hc
   ·cases hc;exact af3 _ rfl rfl
   ·cases hc;exact af3 _ rfl rfl
   ·split at hc
    ·rename_i k hk;cases hc
     simp only[aP] at hp;split at hp
     ·rename_i b hb;cases hp
      exact Ge Tj hr (neg:=false) ho (.inl ⟨rfl,rfl⟩) hk h1 h2 hb
     ·cases hp
    ·rename_i k hk;cases hc
     simp only[aP] at hp;split at hp
     ·rename_i b hb;cases hp
      exact Ge Tj hr (neg:=true) ho (.inr ⟨rfl,rfl⟩) hk h1 h2 hb
     ·cases hp
    ·cases hc
  ·cases hc
 · -- unOp
  rename_i op t x ho;split at hc
  ·simp only[aao] at hc;obtain⟨y,h1,rfl⟩:=hc;simp only[aP] at hp;split at hp
   ·rename_i b e1 e2;cases hp
    exact Ng Tj hr ho h1 e2
   ·rename_i e1 e2;cases e1
   ·cases hp
  ·simp only[aao] at hc;obtain⟨y,h1,rfl⟩:=hc;simp only[aP] at hp;split at hp
   ·rename_i e1 e2;cases e1
   ·rename_i k n e1 e2;cases hp
    exact Nh Tj hr ho h1 e2
   ·cases hp
  ·cases hc
 · -- convert
  rename_i s d x ho;split at hc
  ·rename_i ks k y h1 h2 h3;cases hc
   simp only[aP] at hp;split at hp
   ·rename_i k0 n hn;cases hp
    exact J9 Tj hr ho h1 h2 h3 hn
   ·cases hp
  ·rename_i e y h1 h2 h3;split at hc
   ·rename_i he;cases hc
    simp only[aP] at hp;split at hp
    ·rename_i es r UL;split at hp
     ·rename_i bs Wv;cases hp
      exact Ka Tj hr ho h1 he h2 h3 UL Wv
     ·cases hp
    ·cases hp
   ·cases hc
  ·cases hc
 · -- makeFunc
  rename_i f x y ho;split at hc
  ·rename_i x' y' h1 h2;cases hc
   simp only[aP] at hp;split at hp
   ·rename_i cs ds e1 e2;cases hp
    exact J6 Tj hr ho h1 h2 e1 e2
   ·cases hp
  ·cases hc
 · -- makeMap
  rename_i t ho;split at hc
  ·simp only[aao] at hc;obtain⟨k,h1,rfl⟩:=hc;cases hp
   exact HF (kt:=t) (t:=t) (e:=t) Tj ho
  ·cases hc
 · -- makeSlice
  rename_i t l c ho;split at hc
  ·rename_i e sz bytes z l' c' h1 h2 h3;cases hc
   simp only[aP] at hp;split at hp
   ·rename_i n n' e1 e2;split at hp
    ·rename_i UO;obtain⟨rfl,TQ⟩:=UO;cases hp
     exact BC Tj hr ho h1 h2 h3 e1 e2 TQ
    ·cases hp
   ·cases hp
  ·cases hc
 · -- slice
  rename_i t x lo hi ho;split at hc
  ·rename_i x' lo' hi' h1 h2 h3;split at hc
   ·rename_i e ht;simp only[aao] at hc;obtain⟨sz,h4,rfl⟩:=hc;simp only[aP] at hp;split at hp
    ·rename_i n hn;split at hp
     ·rename_i l h e1 e2;have hu:u=[]/\rd=[]:=by
       unfold fV at hp;repeat' split at hp
       all_goals first
        |cases hp
        |skip
       all_goals exact⟨rfl,rfl⟩
      obtain⟨rfl,rfl⟩:=hu;exact HE Tj hr ho ht h4 h1 h2 h3 hn e1 e2 hp
     ·cases hp
    ·cases hp
   ·rename_i ht;cases hc
    simp only[aP] at hp;split at hp
    ·rename_i s hs;split at hp
     ·rename_i l h e1 e2;split at hp
      ·rename_i UO;cases hp
       exact Ei Tj hr ho ht h1 h2 h3 hs e1 e2 UO.1 UO.2
      ·cases hp
     ·cases hp
    ·cases hp
   ·cases hc
  ·cases hc
 · -- fieldAddr
  rename_i s x f ho;split at hc
  ·rename_i fs y h1 h2;split at hc
   ·rename_i d hd;split at hc
    ·rename_i hz;cases hc
     have hu:u=[]/\rd=[]:=by
      simp only[aP] at hp;split at hp<;>cases hp<;>exact⟨rfl,rfl⟩
     obtain⟨rfl,rfl⟩:=hu;exact HH Tj hr ho h1 hd hz h2 hp
    ·cases hc
   ·cases hc
  ·cases hc
 · -- field
  rename_i t x f ho;split at hc
  ·rename_i fs y h1 h2;split at hc
   ·rename_i d hd;simp only[aao] at hc;obtain⟨k,h3,rfl⟩:=hc;simp only[aP] at hp;split at hp
    ·rename_i cs TP;split at hp
     ·rename_i v' hv;cases hp
      exact Nk Tj hr ho h1 hd h3 h2 TP hv
     ·cases hp
    ·cases hp
   ·cases hc
  ·cases hc
 · -- indexAddr
  rename_i t x i ho;split at hc
  ·rename_i x' i' h1 h2;split at hc
   ·rename_i e ht;simp only[aao] at hc;obtain⟨sz,h3,rfl⟩:=hc;have hu:u=[]/\rd=[]:=by
     simp only[aP] at hp;repeat' split at hp
     all_goals first
      |cases hp
      |skip
     all_goals exact⟨rfl,rfl⟩
    obtain⟨rfl,rfl⟩:=hu;exact HG Tj hr ho ht h3 h1 h2 hp
   ·rename_i n e ht;simp only[aao] at hc;obtain⟨sz,h3,rfl⟩:=hc;have hu:u=[]/\rd=[]:=by
     simp only[aP] at hp;repeat' split at hp
     all_goals first
      |cases hp
      |skip
     all_goals exact⟨rfl,rfl⟩
    obtain⟨rfl,rfl⟩:=hu;exact HL Tj hr ho ht h3 h1 h2 hp
   ·cases hc
  ·cases hc
 · -- index
  rename_i t x i ho;split at hc
  ·rename_i x' i' h1 h2;split at hc
   ·rename_i n e ht;split at hc
    ·rename_i sz k h3 h4;cases hc
     simp only[aP] at hp;split at hp
     ·rename_i n' cs e1 e2;split at hp
      ·rename_i Ti;split at hp
       ·rename_i v' hv;cases hp
        exact Kb Tj hr ho ht h3 h4 h1 h2 e1 Ti e2 hv
       ·cases hp
      ·cases hp
     ·cases hp
    ·cases hc
   ·rename_i ht;cases hc
    simp only[aP] at hp;split at hp
    ·rename_i n s e1 e2;split at hp
     ·rename_i b hb;cases hp
      exact J3 Tj hr ho ht h1 h2 e1 e2 hb
     ·cases hp
    ·cases hp
   ·cases hc
  ·cases hc
 · -- lookup
  rename_i t x k ok ho;split at hc
  ·rename_i kt e x' k' h1 h2 h3;split at hc
   ·rename_i z q h4 h5;split at hc
    ·rename_i kd h6;split at hc
     ·rename_i h7;cases hc
      simp only[aP] at hp;split at hp
      ·rename_i es r key e1 e2;split at hp
       ·cases hp
       ·rename_i hkd;split at hp
        ·rename_i f hf;split at hp
         ·rename_i w hw;cases hp
          exact Ek Tj hr ho h1 h4 h6 h7 h2 h3 e1 e2 (Classical.not_not.1 hkd) hf hw
         ·cases hp
        ·cases hp
      ·cases hp
     ·cases hc
    ·cases hc
   ·cases hc
  ·cases hc
 · -- mapUpdate
  rename_i t x k y ho;split at hc
  ·rename_i kt e x' k' y' h1 h2 h3 h4;split at hc
   ·rename_i q h5;simp only[aao] at hc;obtain⟨kd,h6,rfl⟩:=hc;exact Ch Tj hr (.inl ho) h1 h6 h2 h3 h4 hp
   ·cases hc
  ·cases hc
 · -- insert
  rename_i t x k y ho;split at hc
  ·rename_i kt e x' k' y' h1 h2 h3 h4;split at hc
   ·rename_i q h5;simp only[aao] at hc;obtain⟨kd,h6,rfl⟩:=hc;exact Ch Tj hr (.inr ho) h1 h6 h2 h3 h4 hp
   ·cases hc
  ·cases hc
 · -- extract
  rename_i x i ho;simp only[aao] at hc;obtain⟨y,h1,rfl⟩:=hc;simp only[aP] at hp;split at hp
  ·rename_i vs XD;split at hp
   ·rename_i v' hv;cases hp
    exact BD Tj hr ho h1 XD hv
   ·cases hp
  ·cases hp
 · -- call
  rename_i c ho;split at hc
  ·rename_i f as h1 h2;simp only[aao] at hc;obtain⟨y,h3,rfl⟩:=hc;simp only[aP] at hp;repeat' split at hp
   all_goals cases hp
  ·rename_i x h1 h2;obtain⟨x0,WF,VS⟩:=sV h2;split at hc
   ·rename_i t ht;split at hc
    ·rename_i hu;cases hc
     simp only[aP] at hp;split at hp
     ·rename_i s hs;cases hp
      exact J2 Tj hr ho h1 WF ht hu VS hs
     ·cases hp
    ·rename_i e hu;cases hc
     simp only[aP] at hp;split at hp
     ·rename_i n hn;cases hp
      exact J8 Tj hr ho h1 WF ht hu VS hn
     ·cases hp
    ·rename_i k e hu;cases hc
     simp only[aP] at hp;split at hp
     ·rename_i n r hn;cases hp
      exact J5 Tj hr ho h1 WF ht hu VS hn
     ·cases hp
    ·cases hc
   ·cases hc
  ·rename_i x y h1 h2;obtain⟨x0,y0,WF,VS,hx2⟩:=sU h2;split at hc
   ·rename_i t u' ht hu;split at hc
    ·rename_i e sz bytes z he;split at hc
     ·rename_i UO;cases hc
      obtain⟨rfl,TG⟩:=UO;exact Em Tj hr ho h1 WF (Hq ht hu TG) he VS hx2 hp
     ·cases hc
    ·cases hc
   ·cases hc
  ·rename_i x y h1 h2;obtain⟨x0,y0,WF,VS,hx2⟩:=sU h2;cases hc
   simp only[aP] at hp;split at hp
   ·rename_i k p k' q e1 e2;cases hp
    exact Nj Tj hr ho h1 WF VS hx2 e1 e2
   ·cases hp
  ·rename_i x y h1 h2;obtain⟨x0,y0,WF,VS,hx2⟩:=sU h2;cases hc
   simp only[aP] at hp;split at hp
   ·rename_i k p k' q e1 e2;cases hp
    exact Ni Tj hr ho h1 WF VS hx2 e1 e2
   ·cases hp
  ·rename_i x h1 h2;obtain⟨x0,WF,VS⟩:=sV h2;split at hc
   ·rename_i t ht;simp only[aao] at hc;obtain⟨⟨e,sz,bytes,z⟩,h3,rfl⟩:=hc;exact HJ Tj hr ho h1 WF ht h3 VS hp
   ·cases hc
  ·cases hc
 ·cases hc
end
end Go.Abs
namespace Go.Abs
variable {P:Program} {w0:World}
def R4(w:World)(Q:Nat->Prop)(ty sz:Nat)(es:List (List PV))(c:Nat)(v:Value):Prop:=
 ∃ cap cur,v= .slice (some ⟨c,0,none⟩) es.length cap/\w.heap[c]? =some (.cells cur ty (0,0))/\0<sz/\(∀ e∈es,e.length=sz)/\es.length<=cap/\cap<=maxLen/\cur.size=cap*sz/\aV w Q es.flatten (cur.toList.take (es.length*sz))
def fC(w:World)(Q:Nat->Prop):List RC->List Value->List Nat->Prop
 |[],vs,bs=>vs=[]/\bs=[]
 | .p x::r,vs,bs=> ∃ v VD,vs=v::VD/\bi w Q x v/\fC w Q r VD bs
 | .own ty sz es::r,vs,bs=> ∃ v VD c bs',vs=v::VD/\bs=c::bs'/\R4 w Q ty sz es c v/\fC w Q r VD bs'
theorem fC.mono{w w':World}{Q Q':Nat->Prop}(hk: ∀ c,c<w.heap.size-> ¬ Q c->w'.heap[c]? =w.heap[c]? /\ ¬ Q' c): ∀ {rs:List RC} {vs:List Value} {bs:List Nat},(∀ c∈bs,w'.heap[c]? =w.heap[c]?)->fC w Q rs vs bs->fC w' Q' rs vs bs:=by
 intro rs
 induction rs with
 |nil=>intro vs bs _ h;exact h
 |cons r rs ih=>
  intro vs bs hb h;cases r with
  |p x=>
   obtain⟨v,VD,rfl,h1,h2⟩:=h;exact⟨v,VD,rfl,h1.mono hk,ih hb h2⟩
  |own ty sz es=>
   obtain⟨v,VD,c,bs',rfl,rfl,⟨cap,cur,e1,e2,e3,e4,e5,e6,e7,e8⟩,h2⟩:=h;exact⟨v,VD,c,bs',rfl,rfl,⟨cap,cur,e1,by rw[hb c (by simp)];exact e2,e3,e4,e5,e6,e7,e8.mono hk⟩,ih (fun c hc=>hb c (by simp[hc])) h2⟩
theorem fC.less{w:World}{Q Q':Nat->Prop}(h: ∀ b,Q' b->Q b){rs:List RC}{vs:List Value}{bs:List Nat}(hr:fC w Q rs vs bs):fC w Q' rs vs bs:=
 hr.mono (fun c _ hn=>⟨rfl,fun hq=>hn (h c hq)⟩) (fun _ _=>rfl)
theorem HC{m:Mem}(Tj:Ok w0 m){Q:Nat->Prop}(hQ: ∀ b,Q b->m.own b){c:C}{x:PV}{q:List Nat}{v:Value}(h:cH m.Tc bN c=some (x,q))(hr:bH m c v)(hs: ∀ id∈q,¬ Q (m.σ id)):bi m.w Q x v:=
 lw Tj bN h hr ⟨hQ,hs⟩
theorem yd{m:Mem}(Tj:Ok w0 m){Q:Nat->Prop}(hQ: ∀ b,Q b->m.own b): ∀ {cs:List C} {rs:List RC} {o q:List Nat} {vs:List Value},dg m.Tc cs=some (rs,o,q)->aW m cs vs->(∀ id∈q,¬ Q (m.σ id))->
  fC m.w Q rs vs (o.map m.σ)/\ ∀ id∈o,∃ ob,(m.Tc id).2=some ob/\ob.ec=true:=by
 intro cs
 induction cs with
 |nil=>
  intro rs o q vs h hr _;simp only[dg,aaw,aa2] at h;obtain⟨rfl,rfl,rfl⟩:=h;have:vs=[]:=by have:=hr.1;simpa using this
  exact⟨⟨this,rfl⟩,fun id h=>by simp at h⟩
 |cons c cs ih=>
  intro rs o q vs h hr hq;simp only[dg] at h;split at h
  ·rename_i x o1 q1 xs os qs h1 h2;cases h
   cases vs with
   |nil=>simp[aW] at hr
   |cons v vs=>
    obtain⟨i1,i2⟩:=ih (vs:=vs) h2 ⟨by have:=hr.1;simpa using this,fun j x u a b=>hr.2 (j+1) x u (by simpa using a) (by simpa using b)⟩ (fun id Ts=>hq id (by simp[Ts]));have hc:bH m c v:=hr.2 0 c v rfl rfl;have snapcase: ∀ {y:PV},(cH m.Tc bN c).map (fun(v,r)=>((.p v:RC),([]:List Nat),r))=some (x,o1,q1)->fC m.w Q (x::xs) (v::vs) ((o1++os).map m.σ)/\ ∀ id∈o1++os,∃ ob,(m.Tc id).2=some ob/\ob.ec=true:=by
     intro _ h1;simp only[aao] at h1;obtain⟨⟨y,r⟩,h3,h4⟩:=h1;cases h4
     exact⟨⟨v,vs,rfl,HC Tj hQ h3 hc (fun id Ts=>hq id (by simp[Ts])),i1⟩,i2⟩
    unfold eo at h1;split at h1
    ·rename_i y;cases h1
     have hy:bi m.w m.own y v:=by cases hc with|p h=>exact h
     exact⟨⟨v,vs,rfl,hy.less hQ,i1⟩,i2⟩
    ·rename_i id g z len;split at h1
     ·rename_i g' ty sz es hb;split at h1
      ·rename_i UO;obtain⟨rfl,hlen⟩:=UO;cases h1
       have hbo:(m.Tc id).2=some (.arr ty sz es):=by rw[hb]
       obtain⟨cur,hh,T3,TG,hl,YE,TP,TT⟩:=Tj.obj id _ hbo;cases hc with
       |hsl ad cap hg hll hmm hhd=>
        obtain⟨f1,f2,f3⟩:=hhd sz (by rw[hb]) (by rw[hb];rfl);have Wo:=f2 (.inl rfl);have hcap:=f3 rfl;rw[abW] at Wo;subst Wo;subst hcap;have Ti:(es.take len).length=len:=by simp;omega
        refine⟨⟨_,vs,m.σ id,os.map m.σ,rfl,rfl,⟨m.κ id,cur,by rw[Ti],hh,T3,fun e he=>TG e (abM he),by rw[Ti];exact hll,YE,TP,?_⟩,i1⟩,?_⟩
        ·rw[Ti,jS TG];have h1:=(aV.pw.1 TT).take (len*sz);rw[List.take_take,ab8 (aa6 _ hlen)] at h1;exact(aV.pw.2 h1).less hQ
        ·intro j hj;simp only[List.cons_append,abK,aat] at hj;rcases hj with rfl|hj
         ·exact⟨_,hbo,rfl⟩
         ·exact i2 j hj
      ·cases h1
     ·exact snapcase (y:= .UA) h1
    ·exact snapcase (y:= .UA) h1
  ·cases h
theorem vM: ∀ (rs:List RC) (site:Nat) (b b':aB),(∀ s,site<=s->(b s).1=(b' s).1)->iC b site rs=iC b' site rs:=by
 intro rs
 induction rs with
 |nil=>intro site b b' _;rfl
 |cons r rs ih=>
  intro site b b' h;have h1:ik b site r=ik b' site r:=by
   cases r with
   |p x=>rfl
   |own ty sz es=>simp only[ik,h site (aal _)]
  simp only[iC,h1,ih (site+1) b b' (fun s hs=>h s (by omega))]
theorem Cx{m:Mem}{s c k:Nat}{o:Ob}(hc:m.fr c):FZ m (m.install s c k o) where
 own x _ hn:=⟨rfl,fun h=>hn (kN hc h)⟩
 gen id:=by
  simp only[Mem.install,af];split
  ·rename_i e;subst e;exact Nat.le_succ _
  ·exact aal _
 ref id hg hs:=by
  simp only[Mem.install,af] at hg hs ⊢;split at hg
  ·rename_i e;subst e;simp at hg
  ·rename_i e;simp only[if_neg e] at hs ⊢;exact⟨hs,trivial,trivial,trivial⟩
theorem FZ.trans{a b c:Mem}(h:FZ a b)(hs:a.w.heap.size<=b.w.heap.size)(k:FZ b c):FZ a c where
 own x hx hn:=by
  have h1:=h.own x hx hn;have h2:=k.own x (ab3 hx hs) h1.2;exact⟨h2.1.trans h1.1,h2.2⟩
 gen id:=aa5 (h.gen id) (k.gen id)
 ref id he hs':=by
  have h1:=h.gen id;have h2:=k.gen id;obtain⟨s1,e1,e2,e3⟩:=k.ref id (by omega) hs';obtain⟨s2,f1,f2,f3⟩:=h.ref id (by omega) s1;exact⟨s2,e1.trans f1,e2.trans f2,e3.trans f3⟩
theorem Oe{m00:Mem}: ∀ {rs:List RC} {vs:List Value} {bs:List Nat} {site:Nat} {m:Mem},Ok w0 m->fC m.w m.own rs vs bs->bs.Nodup->(∀ c∈bs,m.fr c/\w0.heap.size<=c)->Ev m00 m->(∀ c∈bs,m00.w.heap.size<=c\/m00.ec c)->
  ∃ m',m'.w=m.w/\Ok w0 m'/\Ev m00 m'/\FZ m m'/\(∀ c,m'.fr c↔m.fr c/\c∉bs)/\m'.Tc=app (iC m.Tc site rs).2 m.Tc/\aW m' (iC m.Tc site rs).1 vs:=by
 intro rs
 induction rs with
 |nil=>
  intro vs bs site m Tj h _ _ Uf _;obtain⟨rfl,rfl⟩:=h;exact⟨m,rfl,Tj,Uf,⟨fun c _ h=>⟨rfl,h⟩,fun _=>aal _,fun _ _ h=>⟨h,rfl,rfl,rfl⟩⟩,fun c=>by simp,rfl,rfl,fun j x u h=>by simp[iC] at h⟩
 |cons r rs ih=>
  intro vs bs site m Tj h U3 Wv Uf aed;have cons: ∀ {m':Mem} {x:C} {xs:List C} {v:Value} {vs:List Value},bH m' x v->aW m' xs vs->aW m' (x::xs) (v::vs):=by
   intro m' x xs v vs h1 h2;refine⟨by simp[h2.1],fun j y u a b=> ?_⟩;cases j with
   |zero=>simp at a b;subst a b;exact h1
   |succ j=>simp at a b;exact h2.2 j y u a b
  cases r with
  |p x=>
   obtain⟨v,VD,rfl,h1,h2⟩:=h;obtain⟨m',e1,e2,e3,e4,e5,e6,e7⟩:=ih (site:=site+1) Tj h2 U3 Wv Uf aed;exact⟨m',e1,e2,e3,e4,e5,by simpa [iC,ik] using e6,by simpa [iC,ik] using cons (bH.p (h1.ev e4)) e7⟩
  |own ty sz es=>
   obtain⟨v,VD,c,bs',rfl,rfl,⟨cap,cur,q1,q2,q3,q4,q5,q6,q7,q8⟩,h2⟩:=h;have hfc:=(Wv c (by simp)).1;have h0:=Cx (s:=site) (k:=cap) (o:= .arr ty sz es) hfc;have hσ:(m.install site c cap (.arr ty sz es)).σ site=c:=by simp[Mem.install,af]
   have hκ:(m.install site c cap (.arr ty sz es)).κ site=cap:=by simp[Mem.install,af]
   have U5:Ok w0 (m.install site c cap (.arr ty sz es)):=ml Tj hfc (Wv c (by simp)).2
    ⟨cur,by rw[hσ];exact q2,q3,q4,by rw[hκ];exact q5,by rw[hκ];exact q6,by rw[hκ];exact q7,aV.ev h0 q8⟩
   have afC:=abD.1 U3;obtain⟨m',e1,e2,e3,e4,e5,e6,e7⟩:=ih (site:=site+1) (m:=m.install site c cap (.arr ty sz es)) U5 (h2.less fun b hb=>kN hfc hb) afC.2
    (fun d hd=>⟨⟨(Wv d (by simp[hd])).1,fun e=>afC.1 (e▸hd)⟩,(Wv d (by simp[hd])).2⟩) (mq Uf hfc (aed c (by simp))) (fun d hd=>aed d (by simp[hd]))
   have abe:iC (m.install site c cap (.arr ty sz es)).Tc (site+1) rs=iC m.Tc (site+1) rs:=vM _ _ _ _ fun s hs=>by
    simp only[Mem.install,af];rw[if_neg (by omega)]
   rw[abe] at e6 e7;refine⟨m',e1,e2,e3,h0.trans (aal _) e4,fun d=> ?_,?_,?_⟩
   ·rw[e5 d];simp only[Mem.install,aat,not_or];exact⟨fun⟨⟨a,b⟩,c⟩=>⟨a,b,c⟩,fun⟨a,b,c⟩=>⟨⟨a,b⟩,c⟩⟩
   ·rw[e6];rfl
   ·refine cons ?_ e7;have:bH (m.install site c cap (.arr ty sz es)) (.hsl site ((m.Tc site).1+1) sz 0 es.length) v:=by
     rw[q1];refine .hsl _ _ ?_ q5 q6 fun z h1 h2=> ?_
     ·simp[Mem.install,af]
     ·have hz:im ((m.install site c cap (.arr ty sz es)).Tc site)=some sz:=by simp[Mem.install,af,im]
      rw[hz] at h2;cases h2
      exact⟨rfl,fun _=>by rw[hσ,abW],fun _=>hκ.symm⟩
    exact this.ev e4
def jF:RV->Value->List Value->Prop
 | .one _,v,vs=>vs=[v]
 | .agg l,v,vs=>v= .agg vs.toArray/\vs.length=l.length
 | .tup _,_,_=>False
def oq:List RV->List Value->List Value->Prop
 |[],us,vs=>us=[]/\vs=[]
 |r::rs,us,vs=> ∃ u us' a b,us=u::us'/\vs=a++b/\jF r u a/\oq rs us' b
def xd:RV->Value->List Value->Prop
 | .tup rs,v,vs=> ∃ arr,v= .tuple arr/\oq rs arr.toList vs
 |r,v,vs=>jF r v vs
theorem aW.take{m:Mem}{cs:List C}{vs:List Value}(h:aW m cs vs)(n:Nat):aW m (cs.take n) (vs.take n):=aW.pw.2 ((aW.pw.1 h).take n)
theorem aW.drop{m:Mem}{cs:List C}{vs:List Value}(h:aW m cs vs)(n:Nat):aW m (cs.drop n) (vs.drop n):=aW.pw.2 ((aW.pw.1 h).drop n)
theorem aW.append{m:Mem}{cs ds:List C}{vs us:List Value}(h:aW m cs vs)(k:aW m ds us):aW m (cs++ds) (vs++us):=aW.pw.2 ((aW.pw.1 h).append (aW.pw.1 k))
theorem aW.single{m:Mem}{c:C}{v:Value}(h:bH m c v):aW m [c] [v]:=⟨rfl,fun j x u a b=>by
 rcases j with _|j
 ·simp at a b;subst a b;exact h
 ·simp at a⟩
theorem v7{m:Mem}{v:V}{cs:List C}{val:Value}(h:cb v=some cs)(hr:gi m v val):
  ∃ vs,aW m cs vs/\ ∀ (rs tl:List RC),rs.length=cs.length->(cX v (rs++tl)).2=tl/\dA (cX v (rs++tl)).1=rs/\jF (cX v (rs++tl)).1 val vs:=by
 cases v with
 |undef=>simp[cb] at h
 |tup vs=>simp[cb] at h
 |one c=>
  simp only[cb,aaw] at h;subst h;refine⟨[val],aW.single hr,fun rs tl hl=> ?_⟩
  match rs,hl with
  |[r],_=>exact⟨rfl,rfl,rfl⟩
 |agg ds=>
  simp only[cb,aaw] at h;subst h;obtain⟨arr,rfl,hc⟩:=hr;refine⟨arr.toList,hc,fun rs tl hl=> ?_⟩;have h1:(rs++tl).take ds.length=rs:=by rw[<- hl];exact List.take_left
  have h2:(rs++tl).drop ds.length=tl:=by rw[<- hl];exact List.drop_left
  simp only[cX,dA,jF,h1,h2,true_and];rw[hc.1,hl]
theorem Fm{m:Mem}: ∀ {ws:List V} {cs:List C} {vals:List Value},iF ws=some cs->Pw (gi m) ws vals->
  ∃ vs,aW m cs vs/\ ∀ (rs:List RC),rs.length=cs.length->gR (nh ws rs)=rs/\oq (nh ws rs) vals vs:=by
 intro ws
 induction ws with
 |nil=>
  intro cs vals h hr;simp only[iF,aaw] at h;subst h;have hv:vals=[]:=by have:=hr.1;simpa using this
  subst hv;refine⟨[],⟨rfl,fun j x u a=>by simp at a⟩,fun rs hl=> ?_⟩;have:rs=[]:=by simpa using hl
  subst this;exact⟨rfl,rfl,rfl⟩
 |cons w ws ih=>
  intro cs vals h hr;simp only[iF] at h;split at h
  ·rename_i a b h1 h2;cases h
   cases vals with
   |nil=>have:=hr.1;simp at this
   |cons val vals=>
    obtain⟨vs1,UP,Vz⟩:=v7 h1 (hr.2 0 w val rfl rfl);obtain⟨vs2,VH,Ur⟩:=ih (vals:=vals) h2 ⟨by have:=hr.1;simpa using this,fun j x u p q=>hr.2 (j+1) x u (by simpa using p) (by simpa using q)⟩;refine⟨vs1++vs2,UP.append VH,fun rs hl=> ?_⟩;have hl':rs.length=a.length+b.length:=by simpa using hl
    obtain⟨p1,p2,p3⟩:=Vz (rs.take a.length) (rs.drop a.length) (by simp;omega);rw[ado] at p1 p2 p3;obtain⟨q1,q2⟩:=Ur (rs.drop a.length) (by simp;omega);simp only[nh,gR,p1,p2,q1,oq];exact⟨ado _ _,val,vals,vs1,vs2,rfl,rfl,p3,q2⟩
  ·cases h
theorem Iy{m:Mem}{v:V}{cs:List C}{val:Value}(h:et v=some cs)(hr:aZ m v val):
  ∃ vs,aW m cs vs/\ ∀ (rs:List RC),rs.length=cs.length->eJ (eZ v rs)=rs/\xd (eZ v rs) val vs:=by
 have one: ∀ {v:V},cb v=some cs->gi m v val->(∀ rs,eZ v rs=(cX v rs).1)-> ∃ vs,aW m cs vs/\ ∀ (rs:List RC),rs.length=cs.length->eJ (eZ v rs)=rs/\xd (eZ v rs) val vs:=by
  intro v h hr he;obtain⟨vs,h1,h2⟩:=v7 h hr;refine⟨vs,h1,fun rs hl=> ?_⟩;obtain⟨_,p2,p3⟩:=h2 rs [] hl;rw[abO] at p2 p3;rw[he];generalize (cX v rs).1=y at p2 p3;cases y with
  |tup _=>exact p3.elim
  |one c=>exact⟨p2,p3⟩
  |agg c=>exact⟨p2,p3⟩
 cases v with
 |tup ws=>
  obtain⟨arr,rfl,hs,hc⟩:=hr;obtain⟨vs,h1,h2⟩:=Fm (m:=m) (vals:=arr.toList) h ⟨by simpa using hs,fun j x u a b=>hc j x u a (by simpa using b)⟩;exact⟨vs,h1,fun rs hl=>⟨(h2 rs hl).1,arr,rfl,(h2 rs hl).2⟩⟩
 |undef=>simp[et,cb] at h
 |one c=>exact one h hr fun _=>rfl
 |agg c=>exact one h hr fun _=>rfl
theorem pU{m:Mem}{r:RV}{cs:List C}{val:Value}{a b:List Value}(hf:jF r val a)(hc:aW m cs (a++b)):gi m (ff r cs).1 val/\aW m (ff r cs).2 b:=by
 cases r with
 |tup _=>exact hf.elim
 |one c=>
  have hf:a=[val]:=hf;subst hf;cases cs with
  |nil=>have:=hc.1;simp at this
  |cons x xs=>exact⟨hc.2 0 x val rfl rfl,by have:=hc.drop 1;simpa [ff] using this⟩
 |agg l=>
  obtain⟨rfl,hl⟩:=hf;refine⟨⟨_,rfl,?_⟩,?_⟩
  ·have:=hc.take l.length;rw[<- hl,List.take_left] at this
   simpa [ff,hl] using this
  ·have:=hc.drop l.length;rw[<- hl,List.drop_left] at this
   simpa [ff,hl] using this
theorem Er{m:Mem}: ∀ {rs:List RV} {cs:List C} {us vs:List Value},oq rs us vs->aW m cs vs->Pw (gi m) (iQ rs cs) us:=by
 intro rs
 induction rs with
 |nil=>
  intro cs us vs h _;obtain⟨rfl,rfl⟩:=h;exact⟨rfl,fun j x u a=>by simp[iQ] at a⟩
 |cons r rs ih=>
  intro cs us vs h hc;obtain⟨u,us',a,b,rfl,rfl,h1,h2⟩:=h;obtain⟨p1,p2⟩:=pU h1 hc;have p3:=ih h2 p2;refine⟨by simp[iQ,p3.1],fun j x v q1 q2=> ?_⟩;cases j with
  |zero=>simp[iQ] at q1 q2;subst q1 q2;exact p1
  |succ j=>simp[iQ] at q1 q2;exact p3.2 j x v q1 q2
theorem HT{m:Mem}{r:RV}{cs:List C}{val:Value}{vs:List Value}(hf:xd r val vs)(hc:aW m cs vs):aZ m (lz r cs) val:=by
 cases r with
 |tup rs=>
  obtain⟨arr,rfl,h⟩:=hf;have:=Er h hc;exact⟨arr,rfl,by simpa using this.1,fun j x u a b=>this.2 j x u a (by simpa using b)⟩
 |one c=>
  have:=(pU (b:=[]) (show jF (.one c) val vs from hf) (by simpa using hc)).1;exact aZ.of1 this
 |agg c=>
  have:=(pU (b:=[]) (show jF (.agg c) val vs from hf) (by simpa using hc)).1;exact aZ.of1 this
end Go.Abs
namespace Go.Abs
def cy(ids:List Nat)(b b':aB):Prop:= ∀ id∈ids,b' id=b id
def fT(ts:List Nat)(e e':Env):Prop:= ∀ t∈ts,e' t=e t
theorem cy.left{x y:List Nat}{b b':aB}(h:cy (x++y) b b'):cy x b b':=fun i hi=>h i (by simp[hi])
theorem cy.right{x y:List Nat}{b b':aB}(h:cy (x++y) b b'):cy y b b':=fun i hi=>h i (by simp[hi])
theorem fT.left{x y:List Nat}{b b':Env}(h:fT (x++y) b b'):fT x b b':=fun i hi=>h i (by simp[hi])
theorem fT.right{x y:List Nat}{b b':Env}(h:fT (x++y) b b'):fT y b b':=fun i hi=>h i (by simp[hi])
section
variable {e e':Env}
theorem aI{a:aC}(h:fT a.tmps e e'):ev e' a=ev e a:=by
 cases a with
 |t n=>exact h n (by simp[aC.tmps])
 |_=>rfl
theorem IE: ∀ {as:List aC},fT (tc as) e e'->as.map (ev e')=as.map (ev e):=by
 intro as
 induction as with
 |nil=>intro _;rfl
 |cons a r ih=>intro h;simp only[aas];rw[aI h.left,ih h.right]
theorem tu: ∀ {as:List aC},fT (tc as) e e'->kJ e' as=kJ e as:=by
 intro as
 induction as with
 |nil=>intro _;rfl
 |cons a r ih=>intro h;simp only[kJ];rw[aI h.left,ih h.right]
theorem Az{sz:Nat}: ∀ {as:List aC},fT (tc as) e e'->kr e' sz as=kr e sz as:=by
 intro as
 induction as with
 |nil=>intro _;rfl
 |cons a r ih=>intro h;simp only[kr];rw[aI h.left,ih h.right]
theorem Ac: ∀ {as:List (Nat × Nat × aC)},fT (JE as) e e'->jA e' as=jA e as:=by
 intro as
 induction as with
 |nil=>intro _;rfl
 |cons a r ih=>intro h;obtain⟨x,y,a⟩:=a;simp only[jA];rw[aI h.left,ih h.right]
theorem ji{d:Nat}{a:Option aC}(h:fT (JF a) e e'):ek e' d a=ek e d a:=by
 cases a with
 |none=>rfl
 |some a=>simp only[ek];rw[aI h]
theorem Fl{a:aC}(h:fT a.tmps e e'):CN e' a=CN e a:=by
 unfold CN;rw[aI h]
theorem vn{sh:Nat->Bool}{Tc:aB}{p:w9}(h:fT p.tmps e e'):aP sh e' Tc p=aP sh e Tc p:=by
 cases p with
 |To x=>simp only[aP,aI (a:=x) h]
 |pick c a b=>simp only[aP,aI (a:=c) h.left.left,aI (a:=a) h.left.right,aI (a:=b) h.right]
 |alloc s z=>rfl
 |box s x=>simp only[aP,aI (a:=x) h]
 |build z ps=>simp only[aP,Ac (as:=ps) h]
 |Tt s ty sz ps=>simp only[aP,Az (as:=ps) h]
 |load k x=>simp only[aP,aI (a:=x) h]
 |store n a x=>simp only[aP,aI (a:=a) h.left,aI (a:=x) h.right]
 |Tm x=>simp only[aP,aI (a:=x) h]
 |bin op x y=>simp only[aP,aI (a:=x) h.left,aI (a:=y) h.right]
 |eqc k n x y=>simp only[aP,aI (a:=x) h.left,aI (a:=y) h.right]
 |un op x=>simp only[aP,aI (a:=x) h]
 |conv k x=>simp only[aP,aI (a:=x) h]
 |bstr x=>simp only[aP,aI (a:=x) h]
 |mkfn f a b=>simp only[aP,tu (as:=a) h.left,tu (as:=b) h.right]
 |mkmap s ag=>rfl
 |TK s ty sz bytes z l c=>simp only[aP,aI (a:=l) h.left,aI (a:=c) h.right]
 |slice sz x lo hi=>simp only[aP,aI (a:=x) h.left.left,ji (a:=lo) h.left.right,ji (a:=hi) h.right]
 |sslice x lo hi=>simp only[aP,aI (a:=x) h.left.left,ji (a:=lo) h.left.right,ji (a:=hi) h.right]
 |Te off x=>simp only[aP,aI (a:=x) h]
 |Tx sz x i=>simp only[aP,aI (a:=x) h.left,aI (a:=i) h.right]
 |UR l sz x i=>simp only[aP,aI (a:=x) h.left,aI (a:=i) h.right]
 |fld off k x=>simp only[aP,aI (a:=x) h]
 |aidx l sz k x i=>simp only[aP,aI (a:=x) h.left,aI (a:=i) h.right]
 |sidx x i=>simp only[aP,aI (a:=x) h.left,aI (a:=i) h.right]
 |lookup kd z ag ok x k=>simp only[aP,aI (a:=x) h.left,aI (a:=k) h.right]
 |mupd kd ag m k v=>simp only[aP,aI (a:=m) h.left.left,aI (a:=k) h.left.right,aI (a:=v) h.right]
 |bad=>rfl
 |extract x i=>simp only[aP,aI (a:=x) h]
 |call s f as=>simp only[aP,Fl (a:=f) h.left,IE (as:=as) h.right]
 |slen x=>simp only[aP,aI (a:=x) h]
 |Ug x=>simp only[aP,aI (a:=x) h]
 |mlen x=>simp only[aP,aI (a:=x) h]
 |append s ty sz b x y=>simp only[aP,aI (a:=x) h.left,aI (a:=y) h.right]
 |max x y=>simp only[aP,aI (a:=x) h.left,aI (a:=y) h.right]
 |min x y=>simp only[aP,aI (a:=x) h.left,aI (a:=y) h.right]
 |clear z x=>simp only[aP,aI (a:=x) h]
end
section
variable {b b':aB}
theorem cA{α β:Type}{f g:α->Option (β × List Nat)}(hf: ∀ x y r,f x=some (y,r)->cy r b b'->g x=some (y,r)): ∀ {xs:List α} {ys:List β} {r:List Nat},collect f xs=some (ys,r)->cy r b b'->collect g xs=some (ys,r):=by
 intro xs
 induction xs with
 |nil=>intro ys r h _;exact h
 |cons x xs ih=>
  intro ys r h ha;simp only[collect] at h ⊢;split at h
  ·rename_i y p bs q e1 e2;cases h
   rw[hf _ _ _ e1 ha.left,ih e2 ha.right]
  ·cases h
theorem jU: ∀ (n:Nat) (c:C) (x:PV) (r:List Nat),cH b n c=some (x,r)->cy r b b'->cH b' n c=some (x,r):=by
 intro n
 induction n with
 |zero=>intro c x r h;simp[cH] at h
 |succ n ih=>
  intro c x r h ha;cases c with
  |p v=>exact h
  |Tn id g off=>
   have Ts:id∈r:=by
    simp only[cH] at h
    (repeat' split at h)<;>first
     |cases h
     |skip
    all_goals simp
   have hb:=ha id Ts;simp only[cH] at h ⊢;rw[hb];split at h
   ·split at h
    ·rename_i hg;rw[if_pos hg];split at h
     ·rename_i hc;cases h
      rw[cA ih hc (fun i hi=>ha i (by simp[hi]))]
     ·cases h
    ·cases h
   ·exact h
   ·cases h
  |TS id g i off=>
   have Ts:id∈r:=by
    simp only[cH,aao] at h
    (repeat' split at h)<;>first
     |cases h
     |skip
    all_goals(simp only[aao] at h;obtain⟨e,_,h⟩:=h;cases h;simp)
   have hb:=ha id Ts;simp only[cH] at h ⊢;rw[hb];exact h
  |hsl id g z off len=>
   have Ts:id∈r:=by
    simp only[cH] at h
    (repeat' split at h)<;>first
     |cases h
     |skip
    all_goals simp
   have hb:=ha id Ts;simp only[cH] at h ⊢;rw[hb];split at h
   ·exact h
   ·exact h
   ·split at h
    ·rename_i hg;rw[if_pos hg];split at h
     ·rename_i hc;cases h
      rw[cA (fun _ _ _ p q=>cA ih p q) hc (fun i hi=>ha i (by simp[hi]))]
     ·cases h
    ·cases h
   ·cases h
  |T6 id g=>
   have Ts:id∈r:=by
    simp only[cH] at h
    (repeat' split at h)<;>first
     |cases h
     |skip
    all_goals simp
   have hb:=ha id Ts;simp only[cH] at h ⊢;rw[hb];exact h
  |hfn f x y=>
   simp only[cH] at h ⊢;split at h
   ·rename_i h1 h2;cases h
    rw[cA ih h1 ha.left,cA ih h2 ha.right]
   ·cases h
theorem Bx(x y:V)(r:List Nat)(h:fM b x=some (y,r))(ha:cy r b b'):fM b' x=some (y,r):=by
 cases x with
 |undef=>simp[fM] at h
 |tup _=>simp[fM] at h
 |one c=>
  simp only[fM,aao] at h ⊢;obtain⟨⟨p,q⟩,h1,h2⟩:=h;cases h2
  exact⟨_,jU _ _ _ _ h1 ha,rfl⟩
 |agg cs=>
  simp only[fM,aao] at h ⊢;obtain⟨⟨p,q⟩,h1,h2⟩:=h;cases h2
  exact⟨_,cA (jU _) h1 ha,rfl⟩
theorem zM{xs ys:List V}{r:List Nat}(h:lc b xs=some (ys,r))(ha:cy r b b'):lc b' xs=some (ys,r):=cA Bx h ha
theorem Fk{all:List Nat}{id:Nat}{u:List jv}(h:sD b all id=some u)(Ts:id∈all)(ha:cy all b b'):sD b' all id=some u:=by
 have hb:=ha id Ts;unfold sD at h ⊢;rw[hb];split at h
 ·split at h
  ·rename_i ps r hc;split at h
   ·rename_i hr;have Yr:cy r b b':=fun i hi=>ha i (by have:=aaJ.1 hr i hi;simpa using this)
    rw[cA (jU _) hc Yr];simp only;rw[if_pos hr];exact h
   ·cases h
  ·cases h
 ·exact h
 ·split at h
  ·rename_i ps r hc;split at h
   ·rename_i hr;have Yr:cy r b b':=fun i hi=>ha i (by have:=aaJ.1 hr i hi;simpa using this)
    rw[cA (fun _ _ _ p q=>cA (jU _) p q) hc Yr];simp only;rw[if_pos hr];exact h
   ·cases h
  ·cases h
 ·exact h
 ·cases h
 ·exact h
theorem Fj{all:List Nat}(ha:cy all b b'): ∀ {ids:List Nat} {u:List jv},(∀ i∈ids,i∈all)->o9 b all ids=some u->o9 b' all ids=some u:=by
 intro ids
 induction ids with
 |nil=>intro u _ h;exact h
 |cons i r ih=>
  intro u hs h;simp only[o9] at h ⊢;split at h
  ·rename_i x y h1 h2;cases h
   rw[Fk h1 (hs i (by simp)) ha,ih (fun j hj=>hs j (by simp[hj])) h2]
  ·cases h
theorem oN{ids:List Nat}{u:List jv}(h:DN b ids=some u)(ha:cy ids b b'):DN b' ids=some u:=Fj ha (fun _ h=>h) h
theorem Ip{site:Nat}{r:RC}(h:cy ((ik b site r).2.map (·.1)) b b'):ik b' site r=ik b site r:=by
 cases r with
 |p x=>rfl
 |own ty sz es=>simp only[ik];rw[h site (by simp[ik])]
theorem Fb: ∀ {rs:List RC} {site:Nat},cy ((iC b site rs).2.map (·.1)) b b'->iC b' site rs=iC b site rs:=by
 intro rs
 induction rs with
 |nil=>intro site _;rfl
 |cons r rs ih=>
  intro site h;simp only[iC,abQ] at h ⊢;rw[Ip h.left,ih h.right]
theorem yD{site:Nat}{r:RV}(h:cy ((lm b site r).2.map (·.1)) b b'):lm b' site r=lm b site r:=by
 unfold lm at h ⊢;simp only at h;rw[Fb h]
theorem EY{rd:List Nat}{site:Nat}{r:RV}{v:V}{u:List jv}(h:land b rd site r=some (v,u))(ha:cy rd b b')(hu:cy (u.map (·.1)) b b'):land b' rd site r=some (v,u):=by
 unfold land at h ⊢;split at h
 ·rename_i hc;rw[if_pos hc];cases h
  rw[yD hu];rfl
 ·rename_i hc;rw[if_neg hc];split at h
  ·rename_i fu hf;cases h
   rw[oN hf ha];simp only;rw[abQ] at hu;rw[yD hu.right]
  ·cases h
theorem vf{x:V}{cs:List C}{r:List Nat}(h:xu b x=some (cs,r))(ha:cy r b b'):xu b' x=some (cs,r):=by
 have key: ∀ id,(id∈r->b' id=b id):=fun id Ts=>ha id Ts
 unfold xu at h ⊢;split at h
 ·exact h
 ·rename_i id g off;have Ts:id∈r:=by
   (repeat' split at h)<;>first
    |cases h
    |skip
   all_goals simp
  simp only[key id Ts];exact h
 ·rename_i id g i off;have Ts:id∈r:=by
   (repeat' split at h)<;>first
    |cases h
    |skip
   all_goals(simp only[aao] at h;obtain⟨e,_,h⟩:=h;cases h;simp)
  simp only[key id Ts];exact h
 ·cases h
theorem EU{x:V}{n:Nat}{r:List Nat}(h:xz b x=some (n,r))(ha:cy r b b'):xz b' x=some (n,r):=by
 have key: ∀ id,(id∈r->b' id=b id):=fun id Ts=>ha id Ts
 unfold xz at h ⊢;split at h
 ·exact h
 ·exact h
 ·rename_i id g;have Ts:id∈r:=by
   (repeat' split at h)<;>first
    |cases h
    |skip
   all_goals simp
  simp only[key id Ts];exact h
 ·cases h
theorem Cj{ag:Bool}{x:V}{es:List (PV × List PV)}{r:List Nat}(h:mapOf b ag x=some (es,r))(ha:cy r b b'):mapOf b' ag x=some (es,r):=by
 have key: ∀ id,(id∈r->b' id=b id):=fun id Ts=>ha id Ts
 unfold mapOf at h ⊢;split at h
 ·exact h
 ·exact h
 ·rename_i id g;have Ts:id∈r:=by
   (repeat' split at h)<;>first
    |cases h
    |skip
   all_goals simp
  simp only[key id Ts];exact h
 ·cases h
theorem jh{x:V}{es:List (List PV)}{r fr:List Nat}(h:bh b x=some (es,r,fr))(ha:cy r b b')(hf:cy fr b b'):bh b' x=some (es,r,fr):=by
 have key: ∀ id,(id∈r->b' id=b id):=fun id Ts=>ha id Ts
 unfold bh at h ⊢;split at h
 ·exact h
 ·exact h
 ·rename_i id g z off len;have Ts:id∈r:=by
   (repeat' split at h)<;>first
    |cases h
    |skip
   all_goals simp
  simp only[key id Ts];split at h
  ·exact h
  ·exact h
  ·split at h
   ·rename_i hc;rw[if_pos hc];split at h
    ·rename_i h1;cases h
     rw[cA (fun _ _ _ p q=>cA (jU _) p q) h1 hf]
    ·cases h
   ·cases h
  ·exact h
 ·cases h
theorem DQ{a:V}{n:Nat}{xs:List C}{v:V}{u:List jv}{r:List Nat}(h:uE b a n xs= .done v u r)(ha:cy r b b'):uE b' a n xs= .done v u r:=by
 have key: ∀ id,(id∈r->b' id=b id):=fun id Ts=>ha id Ts
 unfold uE at h ⊢;split at h
 ·cases h
 ·rename_i hn;rw[if_neg hn];split at h
  ·rename_i id g off;have Ts:id∈r:=by
    (repeat' split at h)<;>first
     |cases h
     |skip
    all_goals simp
   simp only[key id Ts];exact h
  ·rename_i id g i off;have Ts:id∈r:=by
    (repeat' split at h)<;>first
     |cases h
     |skip
    all_goals simp
   simp only[key id Ts];exact h
  ·cases h
theorem AZ{site ty sz bytes:Nat}{s x v:V}{u:List jv}{r:List Nat}(h:ac b site ty sz bytes s x= .done v u r)(ha:cy r b b'):ac b' site ty sz bytes s x= .done v u r:=by
 unfold ac at h ⊢;split at h
 ·cases h
 ·rename_i new rd fr TS;split at h
  ·cases h
  ·rename_i TG;split at h
   ·cases h
   ·rename_i fu Yt;have sub: ∀ {l:List Nat},(∀ i∈l,i∈r)->cy l b b':=fun hl i hi=>ha i (hl i hi)
    split at h
    ·split at h
     ·rename_i hn;cases h
      rw[jh TS ha.left ha.right];simp only;rw[if_neg TG,oN Yt ha.right];simp only;rw[if_pos hn]
     ·rename_i hn;split at h
      ·rename_i hr;cases h
       rw[jh TS (sub fun i hi=>by simp[hi]) (sub fun i hi=>by simp[hi])];simp only;rw[if_neg TG,oN Yt (sub fun i hi=>by simp[hi])];simp only;rw[if_neg hn,if_pos hr,ha site (by simp)]
      ·cases h
    ·rename_i id g z len;split at h
     ·rename_i g' WE TY es hb;split at h
      ·rename_i hr;cases h
       rw[jh TS (sub fun i hi=>by simp[hi]) (sub fun i hi=>by simp[hi])];simp only;rw[if_neg TG,oN Yt (sub fun i hi=>by simp[hi])];simp only;have h1:=ha id (by simp);rw[hb] at h1;simp only[h1];rw[if_pos hr,ha site (by simp)]
      ·cases h
     ·cases h
    ·cases h
end
theorem H4{sh:Nat->Bool}{e:Env}{b b':aB}{p:w9}{v:V}{u:List jv}{r:List Nat}(h:aP sh e b p= .done v u r)(ha:cy r b b'):aP sh e b' p= .done v u r:=by
 cases p with
 |alloc s z=>simp only[aP,d5.done.injEq] at h ⊢;obtain⟨h1,h2,h3⟩:=h;rw[ha s (by rw[<- h3];simp)];exact⟨h1,h2,h3⟩
 |mkmap s ag=>simp only[aP,d5.done.injEq] at h ⊢;obtain⟨h1,h2,h3⟩:=h;rw[ha s (by rw[<- h3];simp)];exact⟨h1,h2,h3⟩
 |box s x=>
  simp only[aP] at h ⊢;split at h
  ·cases h;rw[ha s (by simp)]
  ·cases h
 |Tt s ty sz ps=>
  simp only[aP] at h ⊢;split at h
  ·split at h
   ·cases h;rw[ha s (by simp)]
   ·cases h;rw[ha s (by simp)]
  ·cases h
 |TK s ty sz bytes z l c=>
  simp only[aP] at h ⊢;split at h
  ·split at h
   ·rename_i hc;cases h;rw[if_pos hc,ha s (by simp)]
   ·cases h
  ·cases h
 |load k x=>
  simp only[aP] at h ⊢;split at h
  ·rename_i cs q hq;split at h
   ·rename_i v' hv;cases h
    rw[vf hq ha];simp only[hv]
   ·cases h
  ·cases h
 |store n a x=>
  simp only[aP] at h ⊢;split at h
  ·exact DQ h ha
  ·cases h
 |bstr x=>
  simp only[aP] at h ⊢;split at h
  ·rename_i es q hq;split at h
   ·rename_i bs hb;cases h
    rw[jh hq ha (fun i hi=>by simp at hi)];simp only[hb]
   ·cases h
  ·cases h
 |lookup kd z ag ok x k=>
  simp only[aP] at h ⊢;split at h
  ·rename_i es q key hm hk;split at h
   ·cases h
   ·rename_i hkd;split at h
    ·rename_i f hf;split at h
     ·rename_i w hw;cases h
      rw[Cj hm ha,hk];simp only;rw[if_neg hkd];simp only[hf,hw]
     ·cases h
    ·cases h
  ·cases h
 |clear z x=>
  simp only[aP] at h ⊢;split at h
  ·cases h;rfl
  ·cases h;rfl
  ·rename_i id g w off len e;split at h
   ·rename_i h0;cases h
    simp only[h0,if_true]
   ·rename_i h0;split at h
    ·rename_i g' ty sz es h4;split at h
     ·rename_i hc;cases h
      have hb:=ha id (by simp);rw[h4] at hb;rw[if_neg h0];simp only[hb];rw[if_pos hc]
     ·cases h
    ·cases h
  ·cases h
 |mupd kd ag m k v=>
  simp only[aP] at h ⊢;split at h
  ·rename_i id g q cs h1 h2 h3;split at h
   ·rename_i g' Xv es ps h4 h5;split at h
    ·rename_i hc;split at h
     ·rename_i i w hf;cases h
      have hb:=ha id (by simp);rw[h4] at hb;simp only[hb,h5];rw[if_pos hc];simp only[hf]
     ·rename_i hf;cases h
      have hb:=ha id (by simp);rw[h4] at hb;simp only[hb,h5];rw[if_pos hc];simp only[hf]
     ·cases h
    ·cases h
   ·cases h
  ·cases h
 |mlen x=>
  simp only[aP] at h ⊢;split at h
  ·rename_i n q hq;cases h
   rw[EU hq ha]
  ·cases h
 |append s ty sz bytes x y=>exact AZ h ha
 |call s f as=>
  simp only[aP] at h
  (repeat' split at h)<;>cases h
 |_=>exact h
theorem NH{sh:Nat->Bool}{e:Env}{b b':aB}{p:w9}{f s:Nat}{vs:List V}{r:List Nat}(h:aP sh e b p= .pc f vs r s)(ha:cy r b b'):aP sh e b' p= .pc f vs r s:=by
 cases p with
 |call s f as=>
  simp only[aP] at h ⊢;split at h
  ·split at h
   ·cases h
   ·rename_i T4;rw[if_neg T4];split at h
    ·rename_i hs;cases h
     rw[zM hs ha]
    ·cases h
  ·cases h
 |_=>
  (simp only[aP,uE,ac,fV,reduceCtorEq] at h)<;>(repeat' split at h)<;>cases h
theorem NG{sh:Nat->Bool}{e:Env}{b b':aB}{p:w9}{f:Nat}{vs:List V}(h:aP sh e b p= .sc f vs):aP sh e b' p= .sc f vs:=by
 cases p with
 |call s f as=>
  simp only[aP] at h ⊢;split at h
  ·split at h
   ·rename_i T4;rw[if_pos T4];exact h
   ·split at h<;>cases h
  ·cases h
 |_=>
  (simp only[aP,uE,ac,fV,reduceCtorEq] at h)<;>(repeat' split at h)<;>cases h
theorem RP: ∀ (u:List jv) (b b':aB) (id:Nat),id∈u.map (·.1)->app u b id=app u b' id:=by
 intro u
 induction u with
 |nil=>intro b b' id h;simp at h
 |cons x u ih=>
  intro b b' id h;obtain⟨i,o⟩:=x;simp only[app];by_cases hu:id∈u.map (·.1)
  ·exact ih _ _ _ hu
  ·have hi:id=i:=by simpa [hu] using h
   have key: ∀ (u:List jv) (b:aB),id∉u.map (·.1)->app u b id=b id:=by
    intro u
    induction u with
    |nil=>intro b _;rfl
    |cons x u ih=>
     intro b h;obtain⟨j,o⟩:=x;simp only[aas,aat,not_or] at h;simp only[app];rw[ih _ h.2,af,if_neg h.1]
   rw[key u _ hu,key u _ hu,af,af,if_pos hi,if_pos hi]
theorem A0: ∀ (u:List jv) (b:aB) (id:Nat),id∉u.map (·.1)->app u b id=b id:=by
 intro u
 induction u with
 |nil=>intro b id _;rfl
 |cons x u ih=>
  intro b id h;obtain⟨j,o⟩:=x;simp only[aas,aat,not_or] at h;simp only[app];rw[ih _ _ h.2,af,if_neg h.1]
theorem zu{e e':Env}{g:Option (Nat × Bool)}(h: ∀ t w,g=some (t,w)->e' t=e t):wanted e' g=wanted e g:=by
 cases g with
 |none=>rfl
 |some q=>obtain⟨t,w⟩:=q;simp only[wanted,h t w rfl]
def dE.writes(f:dE)(id:Nat):Bool:=f.wr.contains id||f.fs.contains (bY id)
def dE.jG(f:dE)(id:Nat):Bool:=f.rd.contains id||f.writes id
theorem qF{b b':aB}: ∀ (n:Nat) (c:C),cy (dG b n c) b b'->dG b' n c=dG b n c:=by
 intro n
 induction n with
 |zero=>intro c _;rfl
 |succ n ih=>
  have many: ∀ (cs:List C),cy (cs.map (dG b n)).flatten b b'->(cs.map (dG b' n)).flatten=(cs.map (dG b n)).flatten:=by
   intro cs
   induction cs with
   |nil=>intro _;rfl
   |cons c cs ihc=>
    intro h;simp only[aas,aaI] at h ⊢;rw[ih c h.left,ihc h.right]
  intro c h;cases c with
  |p v=>rfl
  |Tn id g off=>
   simp only[dG] at h ⊢;have hb:=h id (by simp);rw[hb];split
   ·rename_i cs hbe;rw[hbe] at h;rw[many cs (fun i hi=>h i (by simp only[aat];exact .inr hi))]
   ·rfl
  |TS id g i off=>
   simp only[dG] at h ⊢;have hb:=h id (by simp);rw[hb];split
   ·rename_i cs hbe;rw[hbe] at h;rw[many _ (fun i hi=>h i (by simp only[aat];exact .inr hi))]
   ·rfl
  |hsl id g z off len=>
   simp only[dG] at h ⊢;have hb:=h id (by simp);rw[hb];split
   ·rename_i cs hbe;rw[hbe] at h;rw[many _ (fun i hi=>h i (by simp only[aat];exact .inr hi))]
   ·rfl
  |T6 id g=>rfl
  |hfn f x y=>
   simp only[dG] at h ⊢;rw[many x h.left,many y h.right]
theorem zZ{b b':aB}(v:V)(h:cy (co b v) b b'):co b' v=co b v:=by
 cases v with
 |undef=>rfl
 |tup _=>rfl
 |one c=>exact qF _ _ h
 |agg cs=>
  simp only[co] at h ⊢
  induction cs with
  |nil=>rfl
  |cons c cs ih=>
   simp only[aas,aaI] at h ⊢;rw[qF _ c h.left,ih h.right]
theorem Dy{sh:Ctx}{f:Nat}{vs:List V}{b b':aB}(h:cy (allow sh f vs b).ids b b'):allow sh f vs b'=allow sh f vs b:=by
 have:(vs.map (co b')).flatten=(vs.map (co b)).flatten:=by
  unfold allow at h;simp only at h
  induction vs with
  |nil=>rfl
  |cons v vs ih=>
   simp only[aas,aaI] at h ⊢;rw[zZ v h.left,ih h.right]
 unfold allow;rw[this]
def ll(cs:ee):Prop:= ∀ f vs al Tc v Td,cs f vs al Tc=some (v,Td)->(∀ id,al.ok id=false->Td id=Tc id)/\
 ∀ Tp,(∀ id,al.ok id=true->Tp id=Tc id)-> ∃ TX,cs f vs al Tp=some (v,TX)/\ ∀ id,TX id=if al.ok id then Td id else Tp id
theorem qR{al:Al}{l:List Nat}(h:al.kB l=true){id:Nat}(Ts:id∈l):al.ok id=true:=aaJ.1 h id Ts
theorem Fe{a b:Al}(hb:b.any=false)(h:a.holds b=true){id:Nat}(Ts:b.ok id=true):a.ok id=true:=by
 unfold Al.holds at h;simp only[abk,aan] at h;rcases h with h|⟨h1,h2⟩
 ·simp[Al.ok,h]
 ·simp only[Al.ok,hb,aca,abk] at Ts;rcases Ts with Ts|Ts
  ·exact qR h1 (by simpa using Ts)
  ·have:=aaJ.1 h2 (bY id) (by simpa using Ts);simp only[Al.ok,abk];exact .inr this
theorem m6{sh:Ctx}{cp:cG}{cs:ee}(TP:ll cs){o:az}{env Tg:Env}{Tc Td:aB}{f:dE}(h:step1 sh cp cs o env Tc=some (Tg,Td,f)):
  ∃ v,Tg=put env o.dst v/\(∀ id,f.writes id=false->Td id=Tc id)/\(∀ id,f.jG id=true->sh.al.ok id=true)/\
   ∀ (Tz:Env) (Tp:aB),fT o.DW env Tz->(∀ id,f.jG id=true->Tp id=Tc id)->
    ∃ TX,step1 sh cp cs o Tz Tp=some (put Tz o.dst v,TX,f)/\ ∀ id,TX id=if f.writes id then Td id else Tp id:=by
 have YA: ∀ (Tz:Env),fT o.DW env Tz->fT o.op.tmps env Tz/\wanted Tz o.guard=wanted env o.guard:=by
  intro Tz h;unfold az.DW at h;exact⟨h.left,zu fun t w hg=>h.right t (by rw[hg];simp)⟩
 have hwr: ∀ (r w:List Nat) (id:Nat),(⟨r,w,[]⟩:dE).writes id=w.contains id:=by intro r w id;simp[dE.writes]
 have hto: ∀ (r w:List Nat) (id:Nat),(⟨r,w,[]⟩:dE).jG id=true↔id∈r\/id∈w:=by intro r w id;simp[dE.jG,dE.writes]
 have afm: ∀ (u:List jv) (b b2:aB) (r:List Nat) (id:Nat),app u b2 id=if (⟨r,u.map (·.1),[]⟩:dE).writes id then app u b id else b2 id:=by
  intro u b b2 r id;rw[hwr];by_cases Ts:id∈u.map (·.1)
  ·rw[if_pos (by simpa using Ts)];exact RP _ _ _ _ Ts
  ·rw[if_neg (by simpa using Ts)];exact A0 _ _ _ Ts
 unfold step1 at h;split at h
 ·cases h
 ·rename_i hw;cases h
  refine⟨.undef,rfl,fun _ _=>rfl,fun id Ts=>by simp[dE.jG,dE.writes] at Ts,fun Tz Tp he hb=>⟨Tp,?_,fun id=>by simp[dE.writes]⟩⟩;unfold step1;rw[(YA Tz he).2,hw]
 ·rename_i hw;split at h
  ·cases h
  ·rename_i v u r hp;split at h
   ·rename_i Tj;cases h
    refine⟨v,rfl,fun id Ts=>A0 _ _ _ (by rw[hwr] at Ts;simpa using Ts),fun id Ts=>qR Tj (by have:=(hto _ _ _).1 Ts;simpa using this),fun Tz Tp he hb=>⟨app u Tp,?_,fun id=>afm _ _ _ _ _⟩⟩;unfold step1;rw[(YA Tz he).2,hw];simp only;rw[vn (YA Tz he).1,H4 hp fun id Ts=>hb id ((hto _ _ _).2 (.inl Ts))];simp only;rw[if_pos Tj]
   ·cases h
  ·rename_i g vs r s hp;split at h
   ·rename_i x hx;split at h
    ·rename_i v u hl;split at h
     ·rename_i Tj;cases h
      refine⟨v,rfl,fun id Ts=>A0 _ _ _ (by rw[hwr] at Ts;simpa using Ts),fun id Ts=>qR Tj (by have:=(hto _ _ _).1 Ts;simp at this ⊢;rcases this with h|h<;>simp[h]),fun Tz Tp he hb=>⟨app u Tp,?_,fun id=>afm _ _ _ _ _⟩⟩;unfold step1;rw[(YA Tz he).2,hw];simp only;rw[vn (YA Tz he).1,NH hp fun id Ts=>hb id ((hto _ _ _).2 (.inl (by simp[Ts])))];simp only[hx];rw[EY hl (fun id Ts=>hb id ((hto _ _ _).2 (.inl (by simp[Ts])))) fun id Ts=>hb id ((hto _ _ _).2 (.inr Ts))];simp only;rw[if_pos Tj]
     ·cases h
    ·cases h
   ·cases h
  ·rename_i g vs hp;split at h
   ·rename_i Tj;split at h
    ·rename_i v b1 hx;cases h
     have UG: ∀ id,(⟨(allow sh g vs Tc).ids,(allow sh g vs Tc).ids,(allow sh g vs Tc).fs⟩:dE).writes id=(allow sh g vs Tc).ok id:=by
      intro id;simp[dE.writes,Al.ok,allow]
     have aeu: ∀ id,(⟨(allow sh g vs Tc).ids,(allow sh g vs Tc).ids,(allow sh g vs Tc).fs⟩:dE).jG id=(allow sh g vs Tc).ok id:=by
      intro id;simp only[dE.jG,UG];simp only[Al.ok];cases (allow sh g vs Tc).ids.contains id<;>simp
     obtain⟨l1,l2⟩:=TP _ _ _ _ _ _ hx;refine⟨v,rfl,fun id Ts=>l1 id (by rw[<- UG];exact Ts),fun id Ts=>Fe rfl Tj (by rw[<- aeu];exact Ts),fun Tz Tp he hb=> ?_⟩;obtain⟨TX,g1,g2⟩:=l2 Tp fun id Ts=>hb id (by rw[aeu];exact Ts)
     have aie:allow sh g vs Tp=allow sh g vs Tc:=Dy fun id Ts=>hb id (by rw[aeu];simp[Al.ok,Ts])
     refine⟨TX,?_,fun id=>by rw[UG];exact g2 id⟩;unfold step1;rw[(YA Tz he).2,hw];simp only;rw[vn (YA Tz he).1,NG hp];simp only[aie];rw[if_pos Tj];simp only[g1]
    ·cases h
   ·cases h
theorem Kl(env:Env){d d':Option Nat}(v v':V)(h: ∀ t,d=some t->d'≠some t):put (put env d v) d' v'=put (put env d' v') d v:=by
 cases d with
 |none=>rfl
 |some t=>
  cases d' with
  |none=>rfl
  |some t'=>
   have TA:t'≠t:=fun e=>h t rfl (by rw[e])
   funext x;simp only[put,af];by_cases h1:x=t
   ·subst h1;rw[if_pos rfl,if_neg (fun e=>TA e.symm),if_pos rfl]
   ·rw[if_neg h1,if_neg h1]
theorem Gj{env:Env}{d:Option Nat}{v:V}{t:Nat}(h:d≠some t):put env d v t=env t:=by
 cases d with
 |none=>rfl
 |some x=>simp only[put,af];rw[if_neg (fun e=>h (by rw[e]))]
theorem kL{a b:List Nat}(h:meets a b=false){i:Nat}(ha:i∈a):i∉b:=by
 intro hb;have:meets a b=true:=by simp only[meets,acu];exact⟨i,ha,by simpa using hb⟩
 rw[h] at this;cases this
theorem pY{fs ids:List Nat}(h:rk fs ids=false){i:Nat}(hi:i∈ids):bY i∉fs:=by
 intro hf;have:rk fs ids=true:=by simp only[rk,acu];exact⟨i,hi,by simpa using hf⟩
 rw[h] at this;cases this
theorem FJ{a b:dE}(h:kS a b=false)(id:Nat):(a.writes id=true->b.jG id=false)/\(b.writes id=true->a.jG id=false):=by
 simp only[kS,adC] at h;obtain⟨⟨⟨⟨⟨c1,c2⟩,c3⟩,c4⟩,c5⟩,c6⟩:=h;have sw: ∀ {x y:List Nat},meets x y=false->meets y x=false:=by
  intro x y h;cases he:meets y x with
  |false=>rfl
  |true=>
   simp only[meets,acu] at he;obtain⟨i,h1,h2⟩:=he;exact absurd h1 (kL h (by simpa using h2))
 have one: ∀ {a b:dE},meets a.wr b.rd=false->meets a.wr b.wr=false->meets a.fs b.fs=false->rk a.fs (b.rd++b.wr)=false->rk b.fs (a.rd++a.wr)=false->a.writes id=true->b.jG id=false:=by
  intro a b c1 c2 c4 c5 c6 hw;simp only[dE.writes,abk] at hw;simp only[dE.jG,dE.writes,adC];rcases hw with hw|hw
  ·have hw:id∈a.wr:=by simpa using hw
   exact⟨by simpa using kL c1 hw,by simpa using kL c2 hw,by simpa using pY c6 (i:=id) (by simp[hw])⟩
  ·have hw:bY id∈a.fs:=by simpa using hw
   refine⟨?_,?_,?_⟩
   ·cases he:b.rd.contains id with
    |false=>rfl
    |true=>exact absurd hw (pY c5 (i:=id) (by simp at he;simp[he]))
   ·cases he:b.wr.contains id with
    |false=>rfl
    |true=>exact absurd hw (pY c5 (i:=id) (by simp at he;simp[he]))
   ·simpa using kL c4 hw
 exact⟨one c1 c2 c4 c5 c6,one (sw c3) (sw c2) (sw c4) c6 c5⟩
theorem swap{sh:Ctx}{cp:cG}{cs:ee}(TP:ll cs){x y:az}{env TI Tz:Env}{Tc Tq Tp:aB}{e1 e2:dE}(hx:step1 sh cp cs x env Tc=some (TI,Tq,e1))(hy:step1 sh cp cs y TI Tq=some (Tz,Tp,e2))
  (hf:vY x y=true) (hc:kS e1 e2=false): ∃ envy blky,step1 sh cp cs y env Tc=some (envy,blky,e2)/\step1 sh cp cs x envy blky=some (Tz,Tp,e1):=by
 obtain⟨v1,rfl,fr1,_,ahu⟩:=m6 TP hx;obtain⟨v2,rfl,fr2,_,aht⟩:=m6 TP hy;have hf1: ∀ t,x.dst=some t->t∉y.DW/\y.dst≠some t:=by
  intro t ht;simp only[vY,ht,aan] at hf;have h1:=hf.1;simp at h1;exact⟨by simpa using h1.1,h1.2⟩
 have hf2: ∀ t,y.dst=some t->t∉x.DW:=by
  intro t ht;simp only[vY,ht,aan] at hf;have h1:=hf.2
  simpa using h1
 have Uk:=FJ hc;have nw: ∀ {a b:dE} {id:Nat},(a.writes id=true->b.jG id=false)->b.jG id=true->a.writes id=false:=by
  intro a b id h1 h2;cases h:a.writes id with
  |false=>rfl
  |true=>rw[h1 h] at h2;cases h2
 have wt: ∀ {a:dE} {id:Nat},a.writes id=true->a.jG id=true:=by
  intro a id h;simp[dE.jG,h]
 obtain⟨blky,hy2,yb⟩:=aht env Tc (fun t ht=>(Gj fun e=>(hf1 t e).1 ht).symm) (fun id Ts=>(fr1 id (nw (Uk id).1 Ts)).symm);obtain⟨blkx,hx2,xb⟩:=ahu (put env y.dst v2) blky (fun t ht=>Gj fun e=>hf2 t e ht) (fun id Ts=>by
   rw[yb id,nw (Uk id).2 Ts];rfl)
 refine⟨_,blky,hy2,?_⟩;rw[hx2,Kl env v1 v2 fun t ht=>(hf1 t ht).2];have:blkx=Tp:=by
  funext id;rw[xb id,yb id];cases h1:e1.writes id with
  |true=>
   have h2:e2.writes id=false:=nw (Uk id).2 (wt h1);exact(fr2 id h2).symm
  |false=>
   cases h2:e2.writes id with
   |true=>rfl
   |false=>
    simp only[aaL,if_false];rw[fr2 id h2,fr1 id h1]
 rw[this]
structure It where
 i:Nat
 io:az
 e:dE
def A1(x y:It):Prop:=vY x.io y.io=true/\kS x.e y.e=false
theorem uV{sh:Ctx}{cp:cG}{cs:ee}{o:az}{r:List az}{env Tg:Env}{Tc Td:aB}{e:dE}{es:List dE}(h:steps sh cp cs (o::r) env Tc=some (Tg,Td,e::es)):
  ∃ TI Tq,step1 sh cp cs o env Tc=some (TI,Tq,e)/\steps sh cp cs r TI Tq=some (Tg,Td,es):=by
 simp only[steps] at h;split at h
 ·rename_i TI Tq e1 h1;split at h
  ·rename_i Tz Tp es2 h2;cases h
   exact⟨TI,Tq,h1,h2⟩
  ·cases h
 ·cases h
theorem JP{sh:Ctx}{cp:cG}{cs:ee}{o:az}{r:List az}{env TI Tg:Env}{Tc Tq Td:aB}{e:dE}{es:List dE}(h1:step1 sh cp cs o env Tc=some (TI,Tq,e))(h2:steps sh cp cs r TI Tq=some (Tg,Td,es)):
  steps sh cp cs (o::r) env Tc=some (Tg,Td,e::es):=by
 simp only[steps,h1,h2]
theorem JC{sh:Ctx}{cp:cG}{cs:ee}(TP:ll cs){y:It}{l2:List It}: ∀ {l1:List It} {env Tg:Env} {Tc Td:aB},steps sh cp cs ((l1++y::l2).map (·.io)) env Tc=some (Tg,Td,(l1++y::l2).map (·.e))->(∀ x∈l1,A1 x y)->
  ∃ TI Tq,step1 sh cp cs y.io env Tc=some (TI,Tq,y.e)/\steps sh cp cs ((l1++l2).map (·.io)) TI Tq=some (Tg,Td,(l1++l2).map (·.e)):=by
 intro l1
 induction l1 with
 |nil=>intro env Tg Tc Td h _;exact uV h
 |cons x l1 ih=>
  intro env Tg Tc Td h hap;obtain⟨envx,blkx,h1,h2⟩:=uV h;obtain⟨envy,blky,h3,h4⟩:=ih h2 fun z hz=>hap z (by simp[hz])
  obtain⟨en1,bl1,h5,h6⟩:=swap TP h1 h3 (hap x (by simp)).1 (hap x (by simp)).2;exact⟨en1,bl1,h5,JP h6 h4⟩
def kX(al:Al)(b b2:aB):Prop:= ∀ id,al.ok id=true->b2 id=b id
def kV(al:Al)(b' b2 b2':aB):Prop:= ∀ id,b2' id=if al.ok id then b' id else b2 id
def Frame(al:Al)(b b':aB):Prop:= ∀ id,al.ok id=false->b' id=b id
theorem kV.DB{al:Al}{b' b2 b2':aB}(h:kV al b' b2 b2'):kX al b' b2':=fun id Ts=>by rw[h id,Ts];rfl
theorem kV.trans{al:Al}{b' b2 b2' b'' agq:aB}(h:kV al b' b2 b2')(k:kV al b'' b2' agq):kV al b'' b2 agq:=fun id=>by
 rw[k id,h id];cases al.ok id<;>rfl
theorem kV.refl{al:Al}{b b2:aB}(h:kX al b b2):kV al b b2 b2:=fun id=>by
 cases Ts:al.ok id with
 |true=>exact h id Ts
 |false=>rfl
theorem Frame.trans{al:Al}{b b' b'':aB}(h:Frame al b b')(k:Frame al b' b''):Frame al b b'':=fun id Ts=>(k id Ts).trans (h id Ts)
section
variable {sh:Ctx} {cp:cG} {cs:ee} (TP:ll cs)
include TP
theorem JR: ∀ {ops:List az} {env Tg:Env} {Tc Td:aB} {es:List dE},steps sh cp cs ops env Tc=some (Tg,Td,es)->Frame sh.al Tc Td/\
  ∀ Tp,kX sh.al Tc Tp-> ∃ TX,steps sh cp cs ops env Tp=some (Tg,TX,es)/\kV sh.al Td Tp TX:=by
 intro ops
 induction ops with
 |nil=>
  intro env Tg Tc Td es h;simp only[steps,aaw,aa2] at h;obtain⟨rfl,rfl,rfl⟩:=h;exact⟨fun _ _=>rfl,fun Tp ha=>⟨Tp,rfl, .refl ha⟩⟩
 |cons o ops ih=>
  intro env Tg Tc Td es h;simp only[steps] at h;split at h
  ·rename_i TI Tq e h1;split at h
   ·rename_i Tz Tp Vk h2;cases h
    obtain⟨v,rfl,fr,tw,loc⟩:=m6 TP h1;obtain⟨f2,g2⟩:=ih h2;have hw: ∀ id,sh.al.ok id=false->e.writes id=false:=by
     intro id Ts;cases hh:e.writes id with
     |false=>rfl
     |true=>have:=tw id (by simp[dE.jG,hh]);rw[Ts] at this;cases this
    refine⟨Frame.trans (fun id Ts=>fr id (hw id Ts)) f2,fun b2 ha=> ?_⟩;obtain⟨b1,s1,m1⟩:=loc env b2 (fun _ _=>rfl) (fun id Ts=>ha id (tw id Ts));have Wl:kV sh.al Tq b2 b1:=by
     intro id;rw[m1 id];cases Ts:sh.al.ok id with
     |true=>
      cases hh:e.writes id with
      |true=>rfl
      |false=>
       simp only[aaL,if_false,if_true];rw[ha id Ts,fr id hh]
     |false=>rw[hw id Ts]
    obtain⟨b3,s2,m2⟩:=g2 b1 Wl.DB;exact⟨b3,by simp only[steps,s1,s2],Wl.trans m2⟩
   ·cases h
  ·cases h
theorem Oa{c:Env->aB->Option (fJ × Env × aB)}(hc: ∀ {env Tg Tc Td e},c env Tc=some (e,Tg,Td)->Frame sh.al Tc Td/\ ∀ Tp,kX sh.al Tc Tp-> ∃ TX,c env Tp=some (e,Tg,TX)/\kV sh.al Td Tp TX):
  ∀ (k:Nat) {env Tg:Env} {Tc Td:aB} {e:fJ},iter c k env Tc=some (e,Tg,Td)->Frame sh.al Tc Td/\ ∀ Tp,kX sh.al Tc Tp-> ∃ TX,iter c k env Tp=some (e,Tg,TX)/\kV sh.al Td Tp TX:=by
 have _u0:=TP;intro k
 induction k with
 |zero=>intro env Tg Tc Td e h;simp[iter] at h
 |succ k ih=>
  intro env Tg Tc Td e h;simp only[iter] at h;split at h
  ·rename_i TI Tq h1;obtain⟨f1,g1⟩:=hc h1;obtain⟨f2,g2⟩:=ih h;refine⟨f1.trans f2,fun b2 ha=> ?_⟩;obtain⟨b1,s1,m1⟩:=g1 b2 ha;obtain⟨b3,s2,m2⟩:=g2 b1 m1.DB;exact⟨b3,by simp only[iter,s1,s2],m1.trans m2⟩
  ·rename_i TA;obtain⟨f1,g1⟩:=hc h;refine⟨f1,fun b2 ha=> ?_⟩;obtain⟨b1,s1,m1⟩:=g1 b2 ha;refine⟨b1,?_,m1⟩;cases e with
   |normal=>exact(TA _ _ h).elim
   |exit i=>simp only[iter,s1]
   |ret=>simp only[iter,s1]
theorem GQ{n:Nat}: ∀ (c:an) {env Tg:Env} {Tc Td:aB} {e:fJ},exec sh cp cs n c env Tc=some (e,Tg,Td)->Frame sh.al Tc Td/\
  ∀ Tp,kX sh.al Tc Tp-> ∃ TX,exec sh cp cs n c env Tp=some (e,Tg,TX)/\kV sh.al Td Tp TX:=by
 intro c
 induction c with
 |skip=>
  intro env Tg Tc Td e h;simp only[exec,aaw,aa2] at h;obtain⟨rfl,rfl,rfl⟩:=h;exact⟨fun _ _=>rfl,fun b2 ha=>⟨b2,rfl, .refl ha⟩⟩
 |exit id=>
  intro env Tg Tc Td e h;simp only[exec,aaw,aa2] at h;obtain⟨rfl,rfl,rfl⟩:=h;exact⟨fun _ _=>rfl,fun b2 ha=>⟨b2,rfl, .refl ha⟩⟩
 |ret=>
  intro env Tg Tc Td e h;simp only[exec,aaw,aa2] at h;obtain⟨rfl,rfl,rfl⟩:=h;exact⟨fun _ _=>rfl,fun b2 ha=>⟨b2,rfl, .refl ha⟩⟩
 |bad=>intro env Tg Tc Td e h;simp[exec] at h
 |region d ops=>
  intro env Tg Tc Td e h;simp only[exec] at h;split at h
  ·rename_i TI Tq es h1;obtain⟨f1,g1⟩:=JR TP h1;have he:(e,Tg,Td)=(fJ.normal,TI,Tq)/\(d=true->dX ops [] es=true):=by
    cases d with
    |false=>simp at h;exact⟨by simp[h],fun h=>by cases h⟩
    |true=>
     simp only[if_true] at h;split at h
     ·rename_i hd;cases h;exact⟨rfl,fun _=>hd⟩
     ·cases h
   obtain⟨he,hd⟩:=he;cases he
   refine⟨f1,fun b2 ha=> ?_⟩;obtain⟨b1,s1,m1⟩:=g1 b2 ha;refine⟨b1,?_,m1⟩;simp only[exec,s1];cases d with
   |false=>simp
   |true=>simp[hd rfl]
  ·cases h
 |seq a b iha ihb=>
  intro env Tg Tc Td e h;simp only[exec] at h;split at h
  ·rename_i TI Tq h1;obtain⟨f1,g1⟩:=iha h1;obtain⟨f2,g2⟩:=ihb h;refine⟨f1.trans f2,fun b2 ha=> ?_⟩;obtain⟨b1,s1,m1⟩:=g1 b2 ha;obtain⟨b3,s2,m2⟩:=g2 b1 m1.DB;exact⟨b3,by simp only[exec,s1,s2],m1.trans m2⟩
  ·rename_i TA;obtain⟨f1,g1⟩:=iha h;refine⟨f1,fun b2 ha=> ?_⟩;obtain⟨b1,s1,m1⟩:=g1 b2 ha;refine⟨b1,?_,m1⟩;cases e with
   |normal=>exact(TA _ _ h).elim
   |exit i=>simp only[exec,s1]
   |ret=>simp only[exec,s1]
 |cond x a b iha ihb=>
  intro env Tg Tc Td e h;simp only[exec] at h ⊢;split at h
  ·rename_i t ht;cases t with
   |true=>exact iha h
   |false=>exact ihb h
  ·cases h
 |block id c ih=>
  intro env Tg Tc Td e h;simp only[exec] at h;split at h
  ·rename_i i TI Tq h1;obtain⟨f1,g1⟩:=ih h1;have hb:Td=Tq:=by split at h<;>cases h<;>rfl
   subst hb;refine⟨f1,fun b2 ha=> ?_⟩;obtain⟨b1,s1,m1⟩:=g1 b2 ha;refine⟨b1,?_,m1⟩;simp only[exec,s1];split at h
   ·rename_i hi;cases h;rw[if_pos hi]
   ·rename_i hi;cases h;rw[if_neg hi]
  ·rename_i TA;obtain⟨f1,g1⟩:=ih h;refine⟨f1,fun b2 ha=> ?_⟩;obtain⟨b1,s1,m1⟩:=g1 b2 ha;refine⟨b1,?_,m1⟩;cases e with
   |normal=>simp only[exec,s1]
   |exit i=>exact(TA _ _ _ h).elim
   |ret=>simp only[exec,s1]
 |loop c ih=>
  intro env Tg Tc Td e h;simp only[exec] at h ⊢;exact Oa TP (fun h=>ih h) n h
end
theorem tn{al:Al}{env:Env}{Tc Tp:aB}(ha:kX al Tc Tp): ∀ {rs:List (Nat × Option (Option Nat))} {vs:List V},cF al env Tc rs=some vs->cF al env Tp rs=some vs:=by
 intro rs
 induction rs with
 |nil=>intro vs h;exact h
 |cons r rs ih=>
  obtain⟨t,k⟩:=r;cases k with
  |none=>
   intro vs h;simp only[cF] at h ⊢;split at h
   ·rename_i v q h1 h2;cases h
    simp only[h1,ih h2]
   ·cases h
  |some k=>
   intro vs h;simp only[cF] at h ⊢;split at h
   ·rename_i cs rd q h1 h2;split at h
    ·rename_i Tj;rw[vf h1 (fun id Ts=>ha id (qR Tj Ts)),ih h2];simp only[Tj,if_true];exact h
    ·cases h
   ·cases h
theorem Nq{sh:Ctx}{cp:cG}{cs:ee}(TP:ll cs){n:Nat}{fn:ca}{args:List V}{Tc Td:aB}{v:V}(h:l9 sh cp cs n fn args Tc=some (v,Td)):Frame sh.al Tc Td/\
  ∀ Tp,kX sh.al Tc Tp-> ∃ TX,l9 sh cp cs n fn args Tp=some (v,TX)/\kV sh.al Td Tp TX:=by
 unfold l9 at h;split at h
 ·rename_i env b hx;simp only[aao] at h;obtain⟨vs,h1,h2⟩:=h;cases h2
  obtain⟨f1,g1⟩:=GQ TP _ hx;refine⟨f1,fun b2 ha=> ?_⟩;obtain⟨b3,s1,m1⟩:=g1 b2 ha;exact⟨b3,by unfold l9;rw[s1];simp only[tn m1.DB h1,aa4],m1⟩
 ·rename_i env b hx;simp only[aao] at h;obtain⟨vs,h1,h2⟩:=h;cases h2
  obtain⟨f1,g1⟩:=GQ TP _ hx;refine⟨f1,fun b2 ha=> ?_⟩;obtain⟨b3,s1,m1⟩:=g1 b2 ha;exact⟨b3,by unfold l9;rw[s1];simp only[tn m1.DB h1,aa4],m1⟩
 ·cases h
end Go.Abs
