/-
  Each operation of the abstract machine is what the program does: the second part.
-/
import Derived.Test.YtjjdebhkbfeniaaGreatDoorMb
import Derived.Laws.BytesString
set_option linter.unusedSimpArgs false
set_option linter.unusedVariables false
set_option linter.unusedSectionVars false
namespace Go.Abs
variable {P:Program} {w0:World}
def Ents(w:World)(own:Nat→Prop)(ag:Bool)(es:List (PV × List PV))(ents:Array MapEntry):Prop:=
 ents.size=es.length∧ ∀ (i:Nat) (q:PV) (v:List PV) (e:MapEntry),es[i]? =some (q,v)→ents[i]? =some e→PRel w own q e.key∧ ∃ g:Array Value,(ag=true→e.val= .agg g)∧(ag=false→ #[e.val]=g)∧PsRel w own v g.toList
theorem getObj_map{w:World}{r:Nat}{es:Array MapEntry}{clock:Nat}(hb:w.heap[r]? =some (.map es clock)):(getObj r).run P w= .ok (.map es clock) w:=by simp[getObj,Sem.run,hb]
theorem setObj_map{w:World}{r:Nat}{es:Array MapEntry}{clock:Nat}{ob:Obj}(hb:w.heap[r]? =some (.map es clock)):(setObj r ob).run P w= .ok () {w with heap:=w.heap.setIfInBounds r ob}:=by simp[setObj,Sem.run,hb]
theorem mp_ents{w:World}{own:Nat→Prop}{ag:Bool}{es:List (PV × List PV)}{v:Value}(h:PRel w own (.mp ag es) v):
  ∃ r ents clock,v= .map (some r)∧w.heap[r]? =some (.map ents clock)∧Ents w own ag es ents:=by
 cases h with
 |mp r ents clock g ho hb hl hk hv hr=>
  refine⟨r,ents,clock,rfl,hb,hl,fun i q v e h1 h2=>⟨hk i q v e h1 h2,g i,(hv i q v e h1 h2).2.1,(hv i q v e h1 h2).2.2,?_,fun j x u a b=> ?_⟩⟩
  ·simpa using (hv i q v e h1 h2).1
  ·exact hr i q v j x u h1 a (by simpa using b)
theorem hmap_ents{m:Mem}(hok:Ok w0 m){id g:Nat}{v:Value}(h:VRel m (.one (.hmap id g)) v){ag:Bool}{es:List (PV × List PV)}(hb:m.blk id=(g,some (.map ag es))∨m.blk id=(g,some (.fmap ag es))):
  ∃ r ents clock,v= .map (some r)∧r=m.σ id∧m.w.heap[r]? =some (.map ents clock)∧Ents m.w m.own ag es ents:=by
 have h:CRel m (.hmap id g) v:=h;cases h with
 |hmap r hg hr=>
  rcases hb with hb|hb
  ·obtain⟨ents,clock,h1,h2,h3⟩:=hok.obj id _ (congrArg Prod.snd hb);have:=hr (by rw[hb]) (by rw[hb];rfl);subst this;exact⟨_,ents,clock,rfl,rfl,h1,h2,h3⟩
  ·obtain⟨ents,clock,h1,h2,h3,_⟩:=hok.obj id _ (congrArg Prod.snd hb);have:=hr (by rw[hb]) (by rw[hb];rfl);subst this;exact⟨_,ents,clock,rfl,rfl,h1,h2,h3⟩
theorem mapOf_rel{m:Mem}(hok:Ok w0 m){ag:Bool}{x:V}{v:Value}{es:List (PV × List PV)}{r:List Nat}(h:mapOf m.blk ag x=some (es,r))(hv:VRel m x v):
  ∃ ents:Array MapEntry,((v= .map none∧ents= #[])∨ ∃ ref clock,v= .map (some ref)∧m.w.heap[ref]? =some (.map ents clock))∧Ents m.w m.own ag es ents:=by
 unfold mapOf at h;split at h
 ·cases h
  exact⟨#[], .inl ⟨inv_nilm hv,rfl⟩,rfl,fun i q v e h=>by simp at h⟩
 ·rename_i ag' es';split at h
  ·rename_i e;subst e;cases h;obtain⟨hp⟩:CRel m _ v:=hv;obtain⟨r,ents,clock,h1,h2,h3⟩:=mp_ents hp;exact⟨ents, .inr ⟨r,clock,h1,h2⟩,h3⟩
  ·cases h
 ·rename_i id g;split at h
  ·rename_i g' ag' es' hb;split at h
   ·rename_i hc;obtain⟨rfl,rfl⟩:=hc;cases h
    obtain⟨r,ents,clock,h1,_,h2,h3⟩:=hmap_ents hok hv (.inl hb);exact⟨ents, .inr ⟨r,clock,h1,h2⟩,h3⟩
   ·cases h
  ·rename_i g' ag' es' hb;split at h
   ·rename_i hc;obtain⟨rfl,rfl⟩:=hc;cases h
    obtain⟨r,ents,clock,h1,_,h2,h3⟩:=hmap_ents hok hv (.inr hb);exact⟨ents, .inr ⟨r,clock,h1,h2⟩,h3⟩
   ·cases h
  ·cases h
 ·cases h
theorem lenM_rel{m:Mem}(hok:Ok w0 m){x:V}{v:Value}{n:Nat}{r:List Nat}(h:lenM m.blk x=some (n,r))(hv:VRel m x v):
  (v= .map none∧n=0)∨ ∃ ref ents clock,v= .map (some ref)∧m.w.heap[ref]? =some (.map ents clock)∧ents.size=n:=by
 unfold lenM at h;split at h
 ·cases h
  exact .inl ⟨inv_nilm hv,rfl⟩
 ·cases h
  obtain⟨hp⟩:CRel m _ v:=hv;obtain⟨r,ents,clock,h1,h2,h3⟩:=mp_ents hp;exact .inr ⟨r,ents,clock,h1,h2,h3.1⟩
 ·rename_i id g;split at h
  ·rename_i g' ag' es' hb;split at h
   ·rename_i hc;subst hc;cases h
    obtain⟨r,ents,clock,h1,_,h2,h3⟩:=hmap_ents hok hv (.inl hb);exact .inr ⟨r,ents,clock,h1,h2,h3.1⟩
   ·cases h
  ·rename_i g' ag' es' hb;split at h
   ·rename_i hc;subst hc;cases h
    obtain⟨r,ents,clock,h1,_,h2,h3⟩:=hmap_ents hok hv (.inr hb);exact .inr ⟨r,ents,clock,h1,h2,h3.1⟩
   ·cases h
  ·cases h
 ·cases h
def KdOk(kind:TypeDesc)(kd:Nat):Prop:=(kd=0∧ ∃ k,kind= .int k)∨(kd=1∧kind= .string)∨(kd=2∧kind= .bool)
theorem keyOf_run{t:TypeId}{kd:Nat}(h:keyOf P t=some kd): ∃ kind,P.underlying t=some kind∧KdOk kind kd:=by
 unfold keyOf at h;split at h
 ·rename_i k hk;cases h;exact⟨_,hk, .inl ⟨rfl,_,rfl⟩⟩
 ·rename_i hk;cases h;exact⟨_,hk, .inr (.inl ⟨rfl,rfl⟩)⟩
 ·rename_i hk;cases h;exact⟨_,hk, .inr (.inr ⟨rfl,rfl⟩)⟩
 ·cases h
theorem sameKey_now{w:World}{own:Nat→Prop}{k q:PV}{kv qv:Value}{kind:TypeDesc}{b:Bool}(hk:KdOk kind (keyKd k))(h:sameKey k q=some b)(h1:PRel w own k kv)(h2:PRel w own q qv):Instr.sameNow kind kv qv=some b:=by
 unfold sameKey at h;split at h
 ·rename_i a b' c d;split at h
  ·rename_i e;subst e;cases h;rcases hk with ⟨_,x,rfl⟩|⟨e,_⟩|⟨e,_⟩
   ·cases h1;cases h2;simp[Instr.sameNow]
   ·simp[keyKd] at e
   ·simp[keyKd] at e
  ·cases h
 ·cases h
  rcases hk with ⟨e,_⟩|⟨_,rfl⟩|⟨e,_⟩
  ·simp[keyKd] at e
  ·cases h1;cases h2;simp[Instr.sameNow]
  ·simp[keyKd] at e
 ·cases h
  rcases hk with ⟨e,_⟩|⟨e,_⟩|⟨_,rfl⟩
  ·simp[keyKd] at e
  ·simp[keyKd] at e
  ·cases h1;cases h2;simp[Instr.sameNow]
 ·cases h
theorem sameKey_eq{w:World}{own:Nat→Prop}{k q:PV}{kv qv:Value}(h:sameKey k q=some true)(h1:PRel w own k kv)(h2:PRel w own q qv):qv=kv:=by
 unfold sameKey at h;split at h
 ·split at h
  ·rename_i e;subst e;simp at h;subst h;cases h1;cases h2;rfl
  ·cases h
 ·rename_i a b;have e:(a==b)=true:=by simpa using h
  rw[beq_toListBytes] at e;have e:a=b:=by
   have e:a.toList=b.toList:=by simpa using e
   rw[ByteArray.toList_eq,ByteArray.toList_eq] at e;exact ByteArray.ext (Array.toList_inj.1 e)
  subst e;cases h1;cases h2;rfl
 ·simp at h;subst h;cases h1;cases h2;rfl
 ·cases h
theorem findK_rel{w:World}{own:Nat→Prop}{k:PV}{kv:Value}{kind:TypeDesc}(hk:KdOk kind (keyKd k))(h1:PRel w own k kv): ∀ {es:List (PV × List PV)} {l:List MapEntry} {i:Nat} {f:Option (Nat × List PV)},
  l.length=es.length→(∀ (j:Nat) (q:PV) (v:List PV) (e:MapEntry),es[j]? =some (q,v)→l[j]? =some e→PRel w own q e.key)→findK k es i=some f→
  (f=none∧Instr.findNow kind kv l i=some none)∨ ∃ j q v e,f=some (i+j,v)∧es[j]? =some (q,v)∧l[j]? =some e∧sameKey k q=some true∧Instr.findNow kind kv l i=some (some (i+j,e.val)):=by
 intro es
 induction es with
 |nil=>
  intro l i f hl _ hf;simp[findK] at hf;cases l with
  |nil=>exact .inl ⟨hf.symm,rfl⟩
  |cons _ _=>simp at hl
 |cons p r ih=>
  intro l i f hl hq hf;obtain⟨a,v⟩:=p;cases l with
  |nil=>simp at hl
  |cons e l=>
   have hpe:=hq 0 a v e rfl rfl;simp only[findK] at hf;split at hf
   ·rename_i hs;cases hf
    exact .inr ⟨0,a,v,e,rfl,rfl,rfl,hs,by simp[Instr.findNow,sameKey_now hk hs h1 hpe]⟩
   ·rename_i hs;rcases ih (l:=l) (i:=i+1) (f:=f) (by simpa using hl) (fun j q v e a b=>hq (j+1) q v e (by simpa using a) (by simpa using b)) hf with ⟨e1,e2⟩|⟨j,q,v',e',e1,e2,e3,e4,e5⟩
    ·exact .inl ⟨e1,by simp[Instr.findNow,sameKey_now hk hs h1 hpe,e2]⟩
    ·refine .inr ⟨j+1,q,v',e',by rw[e1];congr 2;omega,by simpa using e2,by simpa using e3,e4,?_⟩;simp only[Instr.findNow,sameKey_now hk hs h1 hpe,e5];congr 3;omega
   ·cases hf
theorem checkKey_run1{t:TypeId}{kind:TypeDesc}{kd:Nat}{b:Bool}{v:Value}(w:World)(h:P.underlying t=some kind)(hk:KdOk kind kd)(n:Nat):(Instr.checkKey b (n+1) t v).run P w= .ok () w:=by
 rcases hk with ⟨_,k,rfl⟩|⟨_,rfl⟩|⟨_,rfl⟩<;>simp[Instr.checkKey,run_underlying h]
theorem checkKey_run{t:TypeId}{kind:TypeDesc}{kd:Nat}{b:Bool}{v:Value}(w:World)(h:P.underlying t=some kind)(hk:KdOk kind kd):(Instr.checkKey b 10000 t v).run P w= .ok () w:=checkKey_run1 w h hk 9999
theorem sameBits_refl{w:World}{own:Nat→Prop}{k:PV}{kv:Value}{kind:TypeDesc}(hk:KdOk kind (keyKd k))(h:PRel w own k kv)(n:Nat):Instr.sameBits n kv kv=true:=by
 cases h<;>first
  |(simp[keyKd,KdOk] at hk;done)
  |(simp[Instr.sameBits];done)
  |(simp[Instr.sameBits,beq_toListBytes];done)
theorem keyThatStays_run{w0 w:World}{own:Nat→Prop}{k:PV}{kv:Value}{kind:TypeDesc}(hk:KdOk kind (keyKd k))(h:PRel w0 own k kv):(Instr.keyThatStays kv kv).run P w= .ok kv w:=by
 rw[Instr.keyThatStays,sameBits_refl hk h,if_pos rfl];rfl
theorem findKey_run{t:TypeId}{kind:TypeDesc}{v:Value}{l:List MapEntry}{r:Option (Nat × Value)}(w:World)(h:P.underlying t=some kind)(hf:Instr.findNow kind v l 0=some r):(Instr.findKey t v l).run P w= .ok r w:=by
 simp[Instr.findKey,run_underlying h,hf]
theorem mapVal_rel{m:Mem}{ag:Bool}{v:List PV}{x:V}{val:Value}{g:Array Value}(h:mapVal ag v=some x)(h1:ag=true→val= .agg g)(h2:ag=false→ #[val]=g)(hp:PsRel m.w m.own v g.toList):VRel m x val∧VRel1 m x val:=by
 cases ag with
 |true=>
  simp only[mapVal,Option.some.injEq] at h;subst h;exact⟨VRel.agg.2 ⟨g,h1 rfl,hp.toC⟩,⟨g,h1 rfl,hp.toC⟩⟩
 |false=>
  have h2:=h2 rfl;subst h2;cases v with
  |nil=>simp[mapVal] at h
  |cons c r=>
   cases r with
   |nil=>
    simp only[mapVal,Option.some.injEq] at h;subst h;have:=hp.2 0 c val rfl rfl;exact⟨mk_p this,CRel.p this⟩
   |cons _ _=>simp[mapVal] at h
section
variable {m:Mem} {env:Env} {a:Act} {o:Oper} (hok:Ok w0 m) (hr:ERel m env a.tmps)
include hok
theorem sim_mkmap{t kt e:TypeId}{s:Nat}{ag:Bool}(ho:o.op= .makeMap t none):
  OpOk P w0 a.eval o m (.one (.hmap s ((m.blk s).1+1))) [(s,((m.blk s).1+1,some (.map ag [])))]:=by
 refine⟨.map (some m.w.heap.size),m.fresh (.map #[] 0) s 0 (.map ag []), .inl ?_,fresh_ok hok _ s 0 _ ⟨#[],0,fresh_heap _ s 0 _,rfl,fun i q v e h=>by simp at h⟩,fresh_ev _ s 0 _,fresh_fr hok _ s 0 _,fresh_blk _ _ s 0 _,VRel.one.2 (.hmap _ ?_ fun _ _=> ?_)⟩
 ·simp[execOp,ho,Instr.makeMap];rfl
 ·simp[Mem.fresh,Mem.install,Mem.later,upd_apply]
 ·simp[Mem.fresh,Mem.install,upd_apply]
include hr
theorem sim_mlen{c:Call}{x:Operand}{x':IArg}{t k e:TypeId}{n:Nat}{r:List Nat}(ho:o.op= .call c)(hc:c.callee= .builtin .len)(has:c.args= #[x])(hat:c.argTypes[0]? =some t)(ht:P.underlying t=some (.map k e))
  (hx:argC x=some x') (hv:lenM m.blk (ev env x')=some (n,r)):OpOk P w0 a.eval o m (.one (.p (.int .i64 n))) []:=by
 refine .calm hok ?_ (mk_p (.int _ _));have h0:(#[a.eval x]:Array Value)[0]? =some (a.eval x):=rfl;rcases lenM_rel hok hv (argC_rel hx hr) with ⟨h1,rfl⟩|⟨ref,ents,clock,h1,h2,rfl⟩
 ·simp[execOp,ho,resolve,hc,has,hat,invoke,builtin,Builtin.len_,run_underlying ht,h1,goInt]
 ·simp[execOp,ho,resolve,hc,has,hat,invoke,builtin,Builtin.len_,run_underlying ht,h1,goInt,getObj_map h2]
theorem sim_lookup{t kt e:TypeId}{x k:Operand}{x' k':IArg}{ok:Bool}{z:List PV}{q:Option Nat}{kd:Nat}{es:List (PV × List PV)}{r:List Nat}{key:PV}{f:Option (Nat × List PV)}{w:V}(ho:o.op= .lookup t x k ok)(ht:P.underlying t=some (.map kt e))
  (hz:zeroC P e=some z) (hkd:keyOf P kt=some kd) (hag:zAgg P e=q.isSome) (hx:argC x=some x') (hk:argC k=some k') (hm:mapOf m.blk q.isSome (ev env x')=some (es,r)) (hke:ev env k'= .one (.p key)) (hkk:keyKd key=kd)
  (hf:findK key es 0=some f) (hw:mapVal q.isSome ((f.map (·.2)).getD z)=some w):OpOk P w0 a.eval o m (if ok then .tup [w, .one (.p (.bool f.isSome))] else w) []:=by
 obtain⟨kind,hkind,hkok⟩:=keyOf_run hkd;obtain⟨ents,hents,hl,hrel⟩:=mapOf_rel hok hm (argC_rel hx hr);have hkr:=argC_rel hk hr;rw[hke] at hkr;obtain⟨hkp⟩:CRel m _ _:=hkr;have hes:(∃ ref clock,a.eval x= .map (some ref)∧m.w.heap[ref]? =some (.map ents clock))∨a.eval x= .map none∧ents= #[]:=by
  rcases hents with h|h
  ·exact .inr h
  ·exact .inl h
 have key: ∀ (val:Value) (b:Bool),VRel m w val→VRel1 m w val→f.isSome=b→(Instr.lookup t (a.eval x) (a.eval k) ok).run P m.w= .ok (if ok then .tuple #[val, .bool b] else val) m.w→OpOk P w0 a.eval o m (if ok then .tup [w, .one (.p (.bool f.isSome))] else w) []:=by
  intro val b h1 h1' h2 h3;refine .calm hok (x:=if ok then .tuple #[val, .bool b] else val) ?_ ?_
  ·simp[execOp,ho,h3]
  ·cases ok
   ·exact h1
   ·refine⟨_,rfl,rfl,fun j y u p q=> ?_⟩;rcases j with _|_|j
    ·simp at p q;subst p q;exact h1'
    ·simp at p q;subst p q;rw[h2];exact CRel.p (.bool _)
    ·simp at p
 rcases findK_rel (kind:=kind) (by rw[hkk];exact hkok) hkp (l:=ents.toList) (by simpa using hl) (fun j q v e h1 h2=>(hrel j q v e h1 (by simpa using h2)).1) hf with ⟨rfl,hn⟩|⟨j,q',v,e',rfl,h2,h3,_,hn⟩
 ·obtain⟨zv,i,hi,hiz,hzs,hzl,hps⟩:=zeroC_run hz;obtain⟨v1,v2⟩:=mapVal_rel (m:=m) (val:=zv) (g:=zv.cells) hw (fun hq=>by
    rw[hq] at hag;unfold zAgg at hag;rw[hi] at hag;simp only[hiz] at hag;cases zv<;>simp[Value.cells] at hag ⊢) (fun hq=>by
    rw[hq] at hag;unfold zAgg at hag;rw[hi] at hag;simp only[hiz] at hag;cases zv<;>simp[Value.cells] at hag ⊢) (hps m.w m.own)
  refine key zv false v1 v2 rfl ?_;have hfk:=findKey_run (P:=P) m.w hkind hn;rcases hes with ⟨ref,clock,h1,h2⟩|⟨h1,h2⟩
  ·cases ok<;>simp[Instr.lookup,run_underlying ht,h1,getObj_map h2,checkKey_run m.w hkind hkok,hfk,zeroValue,typeInfo,hi,hiz]
  ·subst h2;cases ok<;>simp[Instr.lookup,run_underlying ht,h1,checkKey_run m.w hkind hkok,Instr.findKey,run_underlying hkind,Instr.findNow,zeroValue,typeInfo,hi,hiz]
 ·obtain⟨hqk,g,hg1,hg2,hps⟩:=hrel j q' v e' h2 (by simpa using h3);obtain⟨v1,v2⟩:=mapVal_rel hw hg1 hg2 hps;refine key e'.val true v1 v2 rfl ?_;have hfk:=findKey_run (P:=P) m.w hkind hn;rcases hes with ⟨ref,clock,h1,h2⟩|⟨h1,h2⟩
  ·cases ok<;>simp[Instr.lookup,run_underlying ht,h1,getObj_map h2,checkKey_run m.w hkind hkok,hfk]
  ·subst h2;simp at h3
theorem sim_mupd{t kt e:TypeId}{x k y:Operand}{x' k' y':IArg}{kd:Nat}{ag:Bool}{id g:Nat}{es:List (PV × List PV)}{key:PV}{cs:List C}{ps:List PV}{f:Option (Nat × List PV)}(ho:o.op= .mapUpdate t x k y∨o.op= .insert t x k y)(ht:P.underlying t=some (.map kt e))
  (hkd:keyOf P kt=some kd) (hx:argC x=some x') (hk:argC k=some k') (hy:argC y=some y') (hm:ev env x'= .one (.hmap id g)) (hb:m.blk id=(g,some (.map ag es))) (hke:ev env k'= .one (.p key)) (hkk:keyKd key=kd)
  (hcs:cellsAg ag (ev env y')=some cs) (hps:toPs cs=some ps) (hf:findK key es 0=some f):
  OpOk P w0 a.eval o m .undef [(id,(g,some (.map ag (match f with|some (i,_)=>es.set i (key,ps)|none=>es++[(key,ps)]))))]:=by
 obtain⟨kind,hkind,hkok⟩:=keyOf_run hkd;have hxr:=argC_rel hx hr;rw[hm] at hxr;have hid:=congrArg Prod.snd hb;have hg:=congrArg Prod.fst hb;obtain⟨ref,ents,clock,hxv,href,hh,hl,hrel⟩:=hmap_ents hok hxr (.inl hb);subst href;have hkr:=argC_rel hk hr;rw[hke] at hkr;obtain⟨hkp⟩:CRel m _ _:=hkr;have hyr:=argC_rel hy hr
 -- the value's cells
 have hval: ∃ gv:Array Value,(ag=true→a.eval y= .agg gv)∧(ag=false→ #[a.eval y]=gv)∧PsRel m.w m.own ps gv.toList:=by
  generalize ev env y'=vy at hcs hyr;cases ag with
  |true=>
   cases vy<;>simp[cellsAg] at hcs
   subst hcs;obtain⟨arr,h1,h2⟩:=VRel.agg.1 hyr;exact⟨arr,fun _=>h1,fun h=>(by cases h),toPs_rel hps h2⟩
  |false=>
   cases vy<;>simp[cellsAg] at hcs
   subst hcs;refine⟨#[a.eval y],fun h=>(by cases h),fun _=>rfl,toPs_rel hps ⟨rfl,fun j x u p q=> ?_⟩⟩;rcases j with _|j
   ·simp at p q;subst p q;exact hyr
   ·simp at p
 obtain⟨gv,hv1,hv2,hvp⟩:=hval;have hlt:=heap_lt hh;have key2: ∀ (ents':Array MapEntry) (clock':Nat) (es':List (PV × List PV)),(execOp a.eval o).run P m.w= .ok .skip {m.w with heap:=m.w.heap.setIfInBounds (m.σ id) (.map ents' clock')}→Ents m.w m.own ag es' ents'→
   OpOk P w0 a.eval o m .undef [(id,(g,some (.map ag es')))]:=by
  intro ents' clock' es' hrun hents;have hs:(m.w.heap.setIfInBounds (m.σ id) (.map ents' clock')).size=m.w.heap.size:=by simp
  have hko: ∀ c,c≠m.σ id→(m.w.heap.setIfInBounds (m.σ id) (.map ents' clock'))[c]? =m.w.heap[c]? :=fun c hc=>by
   rw[Array.getElem?_setIfInBounds];rw[if_neg (fun e=>hc e.symm)]
  have hev:Ev m (m.setB {m.w with heap:=m.w.heap.setIfInBounds (m.σ id) (.map ents' clock')} id (.map ag es')):=setB_ev hid rfl rfl rfl rfl rfl hs hko;refine⟨_,m.setB {m.w with heap:=m.w.heap.setIfInBounds (m.σ id) (.map ents' clock')} id (.map ag es'), .inr ⟨hrun,rfl⟩,setB_ok hid rfl hok rfl rfl rfl rfl hs hko ?_,hev,rfl,?_,rfl⟩
  ·refine⟨ents',clock',?_,hents.1,fun i q v e h1 h2=> ?_⟩
   ·show(m.w.heap.setIfInBounds (m.σ id) (.map ents' clock'))[m.σ id]? =_;rw[Array.getElem?_setIfInBounds,if_pos rfl,if_pos hlt]
   ·obtain⟨p1,gg,p2,p3,p4⟩:=hents.2 i q v e h1 h2;exact⟨p1.ev hev.zero,gg,p2,p3,p4.ev hev.zero⟩
  ·simp only[Mem.setB,app,hg]
 rcases findK_rel (kind:=kind) (by rw[hkk];exact hkok) hkp (l:=ents.toList) (by simpa using hl) (fun j q v e h1 h2=>(hrel j q v e h1 (by simpa using h2)).1) hf with ⟨rfl,hn⟩|⟨j,q',v,e',rfl,h2,h3,h4,hn⟩
 ·refine key2 (ents.push {key:=a.eval k,val:=a.eval y,born:=clock}) (clock+1) _ ?_ ?_
  ·have hfk:=findKey_run (P:=P) m.w hkind hn;rcases ho with ho|ho<;>simp[execOp,ho,Instr.mapUpdate,run_underlying ht,hxv,getObj_map hh,checkKey_run m.w hkind hkok,hfk,setObj_map hh]
  ·refine⟨by simp[hl],fun i q v e h1 h2=> ?_⟩;by_cases hi:i<es.length
   ·rw[List.getElem?_append_left hi] at h1;rw[Array.getElem?_push,if_neg (by omega)] at h2;exact hrel i q v e h1 h2
   ·rw[List.getElem?_append_right (by omega)] at h1;have:i=es.length:=by
     by_cases h:i - es.length=0
     ·omega
     ·have:=(List.getElem?_eq_some_iff.1 h1).1;simp at this;omega
    subst this;simp at h1;obtain⟨rfl,rfl⟩:=h1;rw[Array.getElem?_push,if_pos hl.symm] at h2;cases h2
    exact⟨hkp,gv,hv1,hv2,hvp⟩
 ·have h3':ents[j]? =some e':=by simpa using h3
  have hqe:e'.key=a.eval k:=sameKey_eq h4 hkp (hrel j q' v e' h2 h3').1;refine key2 (ents.modify j fun e=>{e with key:=a.eval k,val:=a.eval y}) clock _ ?_ ?_
  ·have hfk:=findKey_run (P:=P) m.w hkind hn;rw[Nat.zero_add] at hfk;have hks:(Instr.keyThatStays e'.key (a.eval k)).run P m.w= .ok (a.eval k) m.w:=by rw[hqe];exact keyThatStays_run (kind:=kind) (by rw[hkk];exact hkok) hkp
   rcases ho with ho|ho<;>simp[execOp,ho,Instr.mapUpdate,run_underlying ht,hxv,getObj_map hh,checkKey_run m.w hkind hkok,hfk,setObj_map hh,h3',hks]
  ·simp only[Nat.zero_add];refine⟨by simp[hl],fun i q v e h1 h2=> ?_⟩;rw[List.getElem?_set] at h1;rw[Array.getElem?_modify] at h2;by_cases hij:j=i
   ·subst hij;rw[if_pos rfl] at h1;split at h1
    ·cases h1
     simp[h3'] at h2;subst h2;exact⟨hkp,gv,hv1,hv2,hvp⟩
    ·cases h1
   ·rw[if_neg hij] at h1;rw[if_neg hij] at h2;exact hrel i q v e h1 h2
end
end Go.Abs
namespace Go.Abs
variable {P:Program} {w0:World}
theorem scalarK_run{t:TypeId}{b:Bool}(h:scalarK P t=some b):(b=true∧ ∃ k,P.underlying t=some (.int k))∨(b=false∧P.underlying t=some .bool):=by
 unfold scalarK at h;split at h
 ·rename_i k hk;cases h;exact .inl ⟨rfl,_,hk⟩
 ·rename_i hk;cases h;exact .inr ⟨rfl,hk⟩
 ·cases h
theorem eqC_true{a b:PV}{r:Bool}(h:eqC true a b=some r): ∃ k x y,a= .int k x∧b= .int k y∧r=(x==y):=by
 cases a<;>cases b<;>simp[eqC] at h
 exact⟨_,_,_,rfl,by rw[h.1],h.2.symm⟩
theorem eqC_false{a b:PV}{r:Bool}(h:eqC false a b=some r): ∃ x y,a= .bool x∧b= .bool y∧r=(x==y):=by
 cases a<;>cases b<;>simp[eqC] at h
 exact⟨_,_,rfl,rfl,h.symm⟩
theorem eqCs_nil{as bs:List C}{r:Bool}(h:eqCs [] as bs=some r):r=true:=by
 cases as<;>cases bs<;>simp[eqCs] at h
 exact h
theorem eqCs_cons{k:Bool}{ks:List Bool}{as bs:List C}{r:Bool}(h:eqCs (k::ks) as bs=some r):
  ∃ a ar b br r0,as= .p a::ar∧bs= .p b::br∧eqC k a b=some r0∧(r0=true→eqCs ks ar br=some r)∧(r0=false→r=false):=by
 cases as with
 |nil=>simp[eqCs] at h
 |cons x ar=>
  cases bs with
  |nil=>cases x<;>simp[eqCs] at h
  |cons y br=>
   cases x<;>cases y<;>simp only[eqCs] at h<;>try cases h
   rename_i a b;cases he:eqC k a b with
   |none=>simp[he] at h
   |some r0=>
    refine⟨a,ar,b,br,r0,rfl,rfl,he,fun e=> ?_,fun e=> ?_⟩
    ·subst e;simpa [he] using h
    ·subst e;simp[he] at h;exact h
theorem eqFields_run{w:World}{m:Mem}(d:Nat){A B:Array Value}: ∀ {fs:List Field} {ks:List Bool} {k:Nat} {as bs:List C} {r:Bool},scalarF P k fs=some ks→eqCs ks as bs=some r→
  (∀ (j:Nat) (x:C),as[j]? =some x→ ∃ v,A[k+j]? =some v∧CRel m x v)→(∀ (j:Nat) (x:C),bs[j]? =some x→ ∃ v,B[k+j]? =some v∧CRel m x v)→
  (Op.eqFields (d+1) A B fs).run P w= .ok r w:=by
 intro fs
 induction fs with
 |nil=>
  intro ks k as bs r hf he _ _;simp[scalarF] at hf;subst hf;rw[eqCs_nil he];simp[Op.eqFields,Sem.run_pure]
 |cons f fs ih=>
  intro ks k as bs r hf he ha hb;simp only[scalarF] at hf;split at hf
  ·rename_i b bs' h1 h2;split at hf
   ·rename_i hc;obtain⟨hoff,hname⟩:=hc;cases hf
    obtain⟨x,ar,y,br,r0,rfl,rfl,h0,ht,hf⟩:=eqCs_cons he;obtain⟨va,hva,hra⟩:=ha 0 (.p x) rfl;obtain⟨vb,hvb,hrb⟩:=hb 0 (.p y) rfl;obtain⟨hra⟩:=hra;obtain⟨hrb⟩:=hrb;rw[Nat.add_zero] at hva hvb;have hpart: ∀ (X:Array Value) (v:Value),X[k]? =some v→(part f.type X f.offset).run P w= .ok v w:=by
     intro X v hX;have hag:(isAgg f.type).run P w= .ok false w:=by
      rcases scalarK_run h1 with ⟨_,kk,hu⟩|⟨_,hu⟩<;>simp[isAgg,run_underlying hu]
     rw[hoff];simp[part,hag,hX]
    have heqv:(Op.equalIn (d+1) f.type va vb).run P w= .ok r0 w:=by
     rcases scalarK_run h1 with ⟨rfl,kk,hu⟩|⟨rfl,hu⟩
     ·obtain⟨k',p,q,rfl,rfl,rfl⟩:=eqC_true h0;cases hra;cases hrb
      simp[Op.equalIn,run_underlying hu]
     ·obtain⟨p,q,rfl,rfl,rfl⟩:=eqC_false h0;cases hra;cases hrb
      simp[Op.equalIn,run_underlying hu]
    simp only[Op.eqFields,if_pos hname,Sem.run_bind,hpart A va hva,hpart B vb hvb,heqv,Result.andThen_ok];cases r0 with
    |false=>rw[hf rfl];simp[Sem.run_pure]
    |true=>
     simp only[Bool.not_true,Bool.false_eq_true,if_false];exact ih h2 (ht rfl) (fun j x hx=>by have:=ha (j+1) x (by simpa using hx);rwa[show k+(j+1)=k+1+j by omega] at this) (fun j x hx=>by have:=hb (j+1) x (by simpa using hx);rwa[show k+(j+1)=k+1+j by omega] at this)
   ·cases hf
  ·cases hf
def NilIs:EqK→Value→Bool→Prop
 | .ptr,v,b=> ∃ a,v= .pointer a∧a.isNone=b
 | .slc,v,b=> ∃ a l c,v= .slice a l c∧a.isNone=b
 | .map,v,b=> ∃ r,v= .map r∧r.isNone=b
 | .fnc,v,b=>(v= .nilFunc∧b=true)∨ ∃ f x y,v= .func f x y∧b=false
 | .ifc,v,b=>(v= .nilIface∧b=true)∨ ∃ d x,v= .iface d x∧b=false
 |_,_,_=>False
theorem isNilV_rel{m:Mem}{k:EqK}{x:V}{v:Value}{b:Bool}(h:isNilV k x=some b)(hr:VRel m x v):NilIs k v b:=by
 unfold isNilV at h;split at h<;>cases h
 all_goals first
  |(obtain⟨hp⟩:CRel m _ v:=hr;cases hp;first
    |exact⟨_,rfl,rfl⟩
    |exact⟨_,_,_,rfl,rfl⟩
    |exact .inl ⟨rfl,rfl⟩
    |exact .inr ⟨_,_,_,rfl,rfl⟩
    |exact .inr ⟨_,_,rfl,rfl⟩)
  |(have hc:CRel m _ v:=hr;cases hc;first
    |exact⟨_,rfl,rfl⟩
    |exact⟨_,_,_,rfl,rfl⟩
    |exact .inr ⟨_,_,_,rfl,rfl⟩)
def KindOk(P:Program)(t:TypeId):EqK→Prop
 | .bool=>P.underlying t=some .bool
 | .ptr=> ∃ e,P.underlying t=some (.pointer e)
 | .slc=> ∃ e,P.underlying t=some (.slice e)
 | .map=> ∃ a b,P.underlying t=some (.map a b)
 | .fnc=> ∃ a b c,P.underlying t=some (.func a b c)
 | .ifc=> ∃ a,P.underlying t=some (.interface a)
 | .str ks=> ∃ fs,P.underlying t=some (.struct fs)∧P.stoodInHeld t=false∧P.eqGuardType P.depth t=false∧scalarF P 0 fs.toList=some ks
theorem eqKind_run{t:TypeId}{x y:Operand}{k:EqK}(h:eqKind P t x y=some k):KindOk P t k∧(k= .ifc→nilConst x=true∨nilConst y=true):=by
 unfold eqKind at h;split at h
 ·rename_i a ha;split at h
  ·rename_i hc;cases h
   exact⟨⟨_,ha⟩,fun _=>by simpa using hc⟩
  ·cases h
 ·rename_i ha;cases h;exact⟨ha,fun e=>by cases e⟩
 ·rename_i ha;cases h;exact⟨⟨_,ha⟩,fun e=>by cases e⟩
 ·rename_i ha;cases h;exact⟨⟨_,ha⟩,fun e=>by cases e⟩
 ·rename_i ha;cases h;exact⟨⟨_,_,ha⟩,fun e=>by cases e⟩
 ·rename_i ha;cases h;exact⟨⟨_,_,_,ha⟩,fun e=>by cases e⟩
 ·rename_i fs ha;split at h
  ·rename_i hc;simp only[Option.map_eq_some_iff] at h;obtain⟨ks,h1,rfl⟩:=h;simp at hc;exact⟨⟨fs,ha,hc.1,hc.2,h1⟩,fun e=>by cases e⟩
  ·cases h
 ·cases h
theorem equalIn_nil{t:TypeId}{k:EqK}{v u:Value}{a b:Bool}(w:World)(hk:KindOk P t k)(h1:NilIs k v a)(h2:NilIs k u b)(hab:a=true∨b=true)(d:Nat):(Op.equalIn (d+1) t v u).run P w= .ok (a&&b) w:=by
 cases k with
 |bool=>exact h1.elim
 |str n=>exact h1.elim
 |ptr=>
  obtain⟨e,hu⟩:=hk;obtain⟨x,rfl,rfl⟩:=h1;obtain⟨y,rfl,rfl⟩:=h2;cases x<;>cases y<;>simp at hab<;>simp[Op.equalIn,run_underlying hu]
 |slc=>
  obtain⟨e,hu⟩:=hk;obtain⟨x,_,_,rfl,rfl⟩:=h1;obtain⟨y,_,_,rfl,rfl⟩:=h2;cases x<;>cases y<;>simp at hab<;>simp[Op.equalIn,run_underlying hu]
 |map=>
  obtain⟨e,e',hu⟩:=hk;obtain⟨x,rfl,rfl⟩:=h1;obtain⟨y,rfl,rfl⟩:=h2;cases x<;>cases y<;>simp at hab<;>simp[Op.equalIn,run_underlying hu]
 |fnc=>
  obtain⟨e,e',e'',hu⟩:=hk;rcases h1 with ⟨rfl,rfl⟩|⟨_,_,_,rfl,rfl⟩<;>rcases h2 with ⟨rfl,rfl⟩|⟨_,_,_,rfl,rfl⟩<;>simp at hab<;>simp[Op.equalIn,run_underlying hu]
 |ifc=>
  obtain⟨e,hu⟩:=hk;rcases h1 with ⟨rfl,rfl⟩|⟨_,_,rfl,rfl⟩<;>rcases h2 with ⟨rfl,rfl⟩|⟨_,_,rfl,rfl⟩<;>simp at hab<;>simp[Op.equalIn,run_underlying hu]
section
variable {m:Mem} {env:Env} {a:Act} {o:Oper} (hok:Ok w0 m) (hr:ERel m env a.tmps)
include hok hr
theorem eqV_run{t:TypeId}{k:EqK}{x y:V}{v u:Value}{b:Bool}(hk:KindOk P t k)(h:eqV k x y=some b)(hx:VRel m x v)(hy:VRel m y u)(d:Nat):(Op.equalIn (d+2) t v u).run P m.w= .ok b m.w:=by
 have _u0:=hok;have _u1:=hr;unfold eqV at h;split at h
 ·cases h
  rw[inv_bool hx,inv_bool hy];have hk:P.underlying t=some .bool:=hk;simp only[Op.equalIn,Sem.run_bind,run_underlying hk,Result.andThen_ok,Sem.run_pure]
 ·obtain⟨A,rfl,hA⟩:=VRel.agg.1 hx;obtain⟨B,rfl,hB⟩:=VRel.agg.1 hy;obtain⟨fs,hu,hs,_,hf⟩:=hk;have hfo:P.fieldsOf t=fs:=by simp[Program.fieldsOf,hu]
  rw[run_equalIn_agg m.w (d+1) t A B (by rw[hfo];exact hu) hs,hfo];refine eqFields_run (w:=m.w) (m:=m) d hf h (fun j x hx=> ?_) (fun j x hx=> ?_)
  ·have hlt:j<A.size:=by have:=hA.1;simp at this;rw[this];exact(List.getElem?_eq_some_iff.1 hx).1
   exact⟨A[j],by simp[hlt],hA.2 j x _ hx (by simp[hlt])⟩
  ·have hlt:j<B.size:=by have:=hB.1;simp at this;rw[this];exact(List.getElem?_eq_some_iff.1 hx).1
   exact⟨B[j],by simp[hlt],hB.2 j x _ hx (by simp[hlt])⟩
 ·cases h
 ·cases h
 ·split at h
  ·rename_i hb;have:=equalIn_nil (P:=P) m.w hk (isNilV_rel h hx) (isNilV_rel hb hy) (.inr rfl) (d+1)
   simpa using this
  ·split at h
   ·rename_i ha;have:=equalIn_nil (P:=P) m.w hk (isNilV_rel ha hx) (isNilV_rel h hy) (.inl rfl) (d+1)
    simpa using this
   ·cases h
theorem eqGuard_run{op:BinOp}{t:TypeId}{k:EqK}{x y:Operand}{x' y':IArg}{b:Bool}(hk:eqKind P t x y=some k)(hx:argC x=some x')(hy:argC y=some y')(h:eqV k (ev env x') (ev env y')=some b):
  (eqGuard op t x y (a.eval x) (a.eval y)).run P m.w= .ok () m.w:=by
 have _u0:=hok;obtain⟨hk1,hk2⟩:=eqKind_run hk;have h1:=argC_rel hx hr;have h2:=argC_rel hy hr;by_cases hop:op= .eql∨op= .neq
 ·unfold eqV at h;split at h
  ·rename_i e1 e2;rw[e1] at h1;rw[inv_bool h1,eqGuard_at_bool];rfl
  ·rename_i e1 e2;rw[e1] at h1;rw[e2] at h2;obtain⟨A,e3,_⟩:=VRel.agg.1 h1;obtain⟨B,e4,_⟩:=VRel.agg.1 h2;obtain⟨fs,_,_,hg,_⟩:=hk1;rw[e3,e4];exact run_eqGuard_agg m.w op t x y A B hg
  ·cases h
  ·cases h
  ·rename_i k q1 q2 q3 q4 q5 q6 q7;have hn: ∃ b1 b2,NilIs k (a.eval x) b1∧NilIs k (a.eval y) b2:=by
    split at h
    ·rename_i hb;exact⟨_,_,isNilV_rel h h1,isNilV_rel hb h2⟩
    ·split at h
     ·rename_i ha;exact⟨_,_,isNilV_rel ha h1,isNilV_rel h h2⟩
     ·cases h
   obtain⟨b1,b2,n1,n2⟩:=hn;cases k with
   |bool=>exact n1.elim
   |str n=>exact n1.elim
   |ptr=>obtain⟨q,e,_⟩:=n1;rw[e,eqGuard_at_pointer];rfl
   |slc=>obtain⟨q,_,_,e,_⟩:=n1;rw[e,eqGuard_at_slice];rfl
   |map=>obtain⟨q,e,_⟩:=n1;rw[e,eqGuard_at_map];rfl
   |fnc=>
    rcases n1 with ⟨e,_⟩|⟨_,_,_,e,_⟩
    ·rw[e,eqGuard_at_nilFunc];rfl
    ·rw[e,eqGuard_at_func];rfl
   |ifc=>
    rcases n1 with ⟨e,_⟩|⟨_,_,e,_⟩
    ·rcases n2 with ⟨e',_⟩|⟨_,_,e',_⟩
     ·rw[e,e'];have hc:(∃ c,x= .const c)∨ ∃ c,y= .const c:=by
       rcases hk2 rfl with hc|hc
       ·cases x<;>simp[nilConst] at hc
        exact .inl ⟨_,rfl⟩
       ·cases y<;>simp[nilConst] at hc
        exact .inr ⟨_,rfl⟩
      rcases hc with ⟨c,rfl⟩|⟨c,rfl⟩
      ·rw[eqGuard_nil_constL];rfl
      ·rw[eqGuard_nil_constR];rfl
     ·rw[e,e',eqGuard_nil_iface];rfl
    ·rw[e,eqGuard_at_iface];rfl
 ·have:eqGuard op t x y (a.eval x) (a.eval y)=pure ():=by
   cases op<;>first
    |rfl
    |exact(hop (.inl rfl)).elim
    |exact(hop (.inr rfl)).elim
  rw[this];rfl
theorem binOp_eql_run{t:TypeId}{k:EqK}{v u:Value}{b1:Bool}(hs:(∃ p q,v= .bool p∧u= .bool q)∨(∃ p q,v= .agg p∧u= .agg q)∨ ∃ p q,NilIs k v p∧NilIs k u q)(h:(Op.equalIn (9998+2) t v u).run P m.w= .ok b1 m.w):
  (binOp .eql t v u).run P m.w= .ok (.bool b1) m.w∧(binOp .neq t v u).run P m.w= .ok (.bool (!b1)) m.w:=by
 have _u0:=hok;have _u1:=hr;have he:Op.equal t v u=Op.equalIn (9998+2) t v u:=rfl;have key:binOp .eql t v u=(do pure (.bool (← Op.equal t v u)))∧binOp .neq t v u=(do pure (.bool (!(← Op.equal t v u)))):=by
  rcases hs with ⟨p,q,rfl,rfl⟩|⟨p,q,rfl,rfl⟩|⟨p,q,h1,h2⟩
  ·exact⟨rfl,rfl⟩
  ·exact⟨rfl,rfl⟩
  ·cases k with
   |bool=>exact h1.elim
   |str n=>exact h1.elim
   |ptr=>obtain⟨_,rfl,_⟩:=h1;obtain⟨_,rfl,_⟩:=h2;exact⟨rfl,rfl⟩
   |slc=>obtain⟨_,_,_,rfl,_⟩:=h1;obtain⟨_,_,_,rfl,_⟩:=h2;exact⟨rfl,rfl⟩
   |map=>obtain⟨_,rfl,_⟩:=h1;obtain⟨_,rfl,_⟩:=h2;exact⟨rfl,rfl⟩
   |fnc=>rcases h1 with ⟨rfl,_⟩|⟨_,_,_,rfl,_⟩<;>rcases h2 with ⟨rfl,_⟩|⟨_,_,_,rfl,_⟩<;>exact⟨rfl,rfl⟩
   |ifc=>rcases h1 with ⟨rfl,_⟩|⟨_,_,rfl,_⟩<;>rcases h2 with ⟨rfl,_⟩|⟨_,_,rfl,_⟩<;>exact⟨rfl,rfl⟩
 rw[key.1,key.2,he];simp only[Sem.run_bind,h,Result.andThen_ok,Sem.run_pure,and_self]
theorem sim_eqc{op:BinOp}{t ty:TypeId}{x y:Operand}{x' y':IArg}{k:EqK}{neg b:Bool}(ho:o.op= .binOp op t x y ty)(hop:(op= .eql∧neg=false)∨(op= .neq∧neg=true))(hk:eqKind P t x y=some k)(hx:argC x=some x')(hy:argC y=some y')
  (hv:eqV k (ev env x') (ev env y')=some b):OpOk P w0 a.eval o m (.one (.p (.bool (if neg then !b else b)))) []:=by
 have h1:=argC_rel hx hr;have h2:=argC_rel hy hr;have hg:=eqGuard_run hok hr (op:=op) hk hx hy hv;have he:=eqV_run hok hr (eqKind_run hk).1 hv h1 h2 9998;have hs:(∃ p q,a.eval x= .bool p∧a.eval y= .bool q)∨(∃ p q,a.eval x= .agg p∧a.eval y= .agg q)∨ ∃ p q,NilIs k (a.eval x) p∧NilIs k (a.eval y) q:=by
  unfold eqV at hv;split at hv
  ·rename_i e1 e2;rw[e1] at h1;rw[e2] at h2;exact .inl ⟨_,_,inv_bool h1,inv_bool h2⟩
  ·rename_i e1 e2;rw[e1] at h1;rw[e2] at h2;obtain⟨A,e3,_⟩:=VRel.agg.1 h1;obtain⟨B,e4,_⟩:=VRel.agg.1 h2;exact .inr (.inl ⟨A,B,e3,e4⟩)
  ·cases hv
  ·cases hv
  ·split at hv
   ·rename_i hb;exact .inr (.inr ⟨_,_,isNilV_rel hv h1,isNilV_rel hb h2⟩)
   ·split at hv
    ·rename_i ha;exact .inr (.inr ⟨_,_,isNilV_rel ha h1,isNilV_rel hv h2⟩)
    ·cases hv
 obtain⟨r1,r2⟩:=binOp_eql_run hok hr hs he;rcases hop with ⟨rfl,rfl⟩|⟨rfl,rfl⟩
 ·exact .calm hok (by simp[execOp,ho,hg,r1]) (mk_p (.bool _))
 ·exact .calm hok (by simp[execOp,ho,hg,r2]) (mk_p (.bool _))
end
end Go.Abs
namespace Go.Abs
variable {P:Program} {w0:World}
theorem bytesOf_spec: ∀ {es:List (List PV)} {bs:List UInt8},bytesOf es=some bs→ ∃ ns:List Int,es.flatten=ns.map (PV.int .u8)∧bs=ns.map (fun n=>UInt8.ofNat n.toNat)∧ns.length=es.length:=by
 intro es
 induction es with
 |nil=>intro bs h;simp[bytesOf] at h;exact⟨[],rfl,h,rfl⟩
 |cons e r ih=>
  intro bs h;unfold bytesOf at h;split at h
  ·rename_i e';cases e'
  ·rename_i n r' e';cases e'
   simp only[Option.map_eq_some_iff] at h;obtain⟨q,hq,rfl⟩:=h;obtain⟨ns,h1,h2,h3⟩:=ih hq;exact⟨n::ns,by simp[h1],by simp[h2],by simp[h3]⟩
  ·cases h
theorem pw_ints{w:World}{own:Nat→Prop}: ∀ {ns:List Int} {vs:List Value},Pw (PRel w own) (ns.map (PV.int .u8)) vs→vs=ns.map (Value.int .u8):=by
 intro ns
 induction ns with
 |nil=>intro vs h;have:=h.1;simp at this;simp[this]
 |cons n ns ih=>
  intro vs h;cases vs with
  |nil=>have:=h.1;simp at this
  |cons v vs=>
   have h0:=h.2 0 _ v rfl rfl;cases h0
   rw[ih (vs:=vs) ⟨by have:=h.1;simpa using this,fun j x u a b=>h.2 (j+1) x u (by simpa using a) (by simpa using b)⟩];rfl
theorem push_all: ∀ (ns:List Int) (s:ByteArray),ns.foldl (fun r n=>r.push (UInt8.ofNat n.toNat)) s=⟨s.data++(ns.map (fun n=>UInt8.ofNat n.toNat)).toArray⟩:=by
 intro ns
 induction ns with
 |nil=>intro s;cases s;simp
 |cons n ns ih=>
  intro s;simp only[List.foldl_cons,List.map_cons];rw[ih];cases s
  simp[ByteArray.push]
section
variable {m:Mem} {env:Env} {a:Act} {o:Oper} (hok:Ok w0 m) (hr:ERel m env a.tmps)
include hok hr
theorem sim_bstr{s d e:TypeId}{x:Operand}{x':IArg}{es:List (List PV)}{r:List Nat}{bs:List UInt8}(ho:o.op= .convert s d x)(hs:P.underlying s=some (.slice e))(he:P.underlying e=some (.int .u8))(hd:P.underlying d=some .string)
  (hx:argC x=some x') (hel:elemsOf m.blk (ev env x')=some (es,r,[])) (hb:bytesOf es=some bs):OpOk P w0 a.eval o m (.one (.p (.str ⟨bs.toArray⟩))) []:=by
 obtain⟨ns,h1,h2,h3⟩:=bytesOf_spec hb;obtain⟨ax,cx,hxv,_,hnews⟩:=elemsOf_rel (own:=m.own) hok hel (argC_rel hx hr) ⟨fun _ h=>h,fun _ h=>by simp at h⟩;refine .calm hok (x:= .string ⟨bs.toArray⟩) ?_ (mk_p (.str _));have key:(Conv.bytesToString (.slice ax es.length cx)).run P m.w= .ok (.string ⟨bs.toArray⟩) m.w:=by
  by_cases hne:es=[]
  ·subst hne;have:ns=[]:=by simpa using h3
   subst this;have hb0:bs=[]:=by simpa using h2
   subst hb0;cases ax with
   |none=>simp[Conv.bytesToString,Sem.run_pure];rfl
   |some ad=>
    have:=run_bytesToString (P:=P) m.w ad 0 cx [] (by simp[loadCells,loadCellsFrom,Sem.run_pure]);exact this
  ·obtain⟨b,off,news,rfl,hpw,hcell⟩:=hnews hne;rw[h1] at hpw;have hn:=pw_ints hpw;have hl:news.length=es.length:=by rw[hn];simpa using h3
   have hload:(loadCells ⟨b,off,none⟩ es.length).run P m.w= .ok (ns.map (Value.int .u8)).toArray m.w:=by
    rw[← hl,← hn];exact run_loadCells_list m.w ⟨b,off,none⟩ news fun j v hj=>by rw[Addr.add_lit];exact hcell j v hj
   rw[run_bytesToString m.w _ _ cx ns hload,push_all,h2];simp[ByteArray.empty,ByteArray.emptyWithCapacity];rfl
 simp only[execOp,ho,hxv,Sem.run_bind,run_convert_bytes_string m.w s d e ax es.length cx hs he hd,key,Result.andThen_ok,Sem.run_pure]
end
end Go.Abs
namespace Go.Abs
variable {P:Program} {w0:World}
theorem argsC_one{xs:Array Operand}{a:IArg}(h:argsC xs.toList=some [a]): ∃ x,xs= #[x]∧argC x=some a:=by
 obtain⟨xs⟩:=xs;cases xs with
 |nil=>simp[argsC] at h
 |cons x r=>
  simp only[argsC] at h;split at h
  ·rename_i y ys e1 e2;cases h
   cases r with
   |nil=>exact⟨x,rfl,e1⟩
   |cons z r=>
    simp only[argsC] at e2;split at e2<;>simp at e2
  ·cases h
theorem argsC_two{xs:Array Operand}{a b:IArg}(h:argsC xs.toList=some [a,b]): ∃ x y,xs= #[x,y]∧argC x=some a∧argC y=some b:=by
 obtain⟨xs⟩:=xs;cases xs with
 |nil=>simp[argsC] at h
 |cons x r=>
  simp only[argsC] at h;split at h
  ·rename_i y ys e1 e2;cases h
   obtain⟨z,hz,hz2⟩:=argsC_one (xs:=r.toArray) (by simpa using e2);have:r=[z]:=by simpa using congrArg Array.toList hz
   subst this;exact⟨x,z,rfl,e1,hz2⟩
  ·cases h
theorem types_two{xs:Array TypeId}{t u:TypeId}(h1:xs[0]? =some t)(h2:xs[1]? =some u)(hs:xs.size=2):xs= #[t,u]:=by
 obtain⟨xs⟩:=xs
 match xs,hs with
 |[a,b],_=>
  simp at h1 h2;subst h1 h2;rfl
theorem flat_splice{α:Type}{sz:Nat}{es ys:List (List α)}{off:Nat}(h: ∀ e∈es,e.length=sz)(hy: ∀ e∈ys,e.length=sz)(hl:off+ys.length≤es.length):(splice es off ys).flatten=splice es.flatten (off*sz) ys.flatten:=by
 have ht: ∀ k,k≤es.length→(es.take k).flatten.length=k*sz:=fun k hk=>by
  rw[flat_len fun e he=>h e (List.mem_of_mem_take he),List.length_take,Nat.min_eq_left hk]
 have e1:es.flatten=(es.take off).flatten++(es.drop off).flatten:=by rw[← List.flatten_append,List.take_append_drop]
 have e2:es.flatten=(es.take (off+ys.length)).flatten++(es.drop (off+ys.length)).flatten:=by rw[← List.flatten_append,List.take_append_drop]
 unfold splice;rw[List.flatten_append,List.flatten_append,flat_len hy];congr 1
 ·congr 1
  conv=>rhs;rw[e1]
  rw[List.take_left' (ht off (by omega))]
 ·rw[← Nat.add_mul]
  conv=>rhs;rw[e2]
  rw[List.drop_left' (ht _ hl)]
theorem zeroCells_pw{R:PV→Value→Prop}{z:List PV}{v:Array Value}{n:Nat}(hz:Pw R z v.toList):Pw R (List.replicate n z).flatten (Builtin.zeroCells v n).toList:=by
 have hzl:z.length=v.size:=by have:=hz.1;simp at this;omega
 have hall: ∀ e∈List.replicate n z,e.length=v.size:=fun e he=>by rw[List.eq_of_mem_replicate he];exact hzl
 have hlen:(Builtin.zeroCells v n).toList.length=n*v.size:=by simp[size_zeroCells]
 refine⟨by rw[hlen,flat_len hall];simp,fun j x u p q=> ?_⟩;have hj:j<n*v.size:=by have:=(List.getElem?_eq_some_iff.1 q).1;omega
 have hpos:0<v.size:=by
  rcases Nat.eq_zero_or_pos v.size with h|h
  ·rw[h] at hj;omega
  ·exact h
 have hdiv:j/v.size<n:=by rw[Nat.div_lt_iff_lt_mul hpos];exact hj
 have hmod:j%v.size<v.size:=Nat.mod_lt _ hpos;have he:(List.replicate n z)[j/v.size]? =some z:=by simp[hdiv]
 have h1:=flat_at hall he hmod;rw[show j/v.size*v.size+j%v.size=j by rw[Nat.mul_comm];exact Nat.div_add_mod j v.size] at h1;rw[h1] at p;have h2:(Builtin.zeroCells v n).toList[j]? =some v[j%v.size]! :=by
  unfold Builtin.zeroCells;simp[hj]
 rw[h2] at q;cases q
 refine hz.2 (j%v.size) x _ p ?_;simp[hmod]
section
variable {m:Mem} {env:Env} {a:Act} {o:Oper} (hok:Ok w0 m) (hr:ERel m env a.tmps)
include hok hr
theorem sim_clear{c:Call}{x:Operand}{x':IArg}{t e:TypeId}{sz bytes:Nat}{z:List PV}{sh:Nat→Bool}{v:V}{u:List Upd}{rd:List Nat}(ho:o.op= .call c)(hc:c.callee= .builtin .clear)(has:c.args= #[x])(hat:c.argTypes[0]? =some t)
  (he:elemC P t=some (e,sz,bytes,z)) (hx:argC x=some x') (hp:plan sh env m.blk (.clear z x')= .done v u rd):OpOk P w0 a.eval o m v u:=by
 obtain⟨i,zv,ht,hi,hs,hb,⟨hpos,hbpos⟩,hiz,hzs,hzl,hps⟩:=elemC_run he;have hrx:=argC_rel hx hr;have run: ∀ (y:Value) (w':World),(Builtin.clear_ c.argTypes o.type #[a.eval x]).run P m.w= .ok y w'→(execOp a.eval o).run P m.w= .ok (.value y) w':=by
  intro y w' h;simp[execOp,ho,resolve,hc,has,invoke,builtin,h]
 have quiet:(Builtin.clear_ c.argTypes o.type #[a.eval x]).run P m.w= .ok (.tuple #[]) m.w→OpOk P w0 a.eval o m (.tup []) []:=fun h=>
  ⟨.tuple #[],m, .inl (run _ _ h),hok,Ev.refl _,rfl,rfl,(⟨#[],rfl,rfl,fun j x u h=>by simp at h⟩:VRel m (.tup []) _)⟩
 simp only[plan] at hp;split at hp
 ·rename_i hv;cases hp
  rw[hv] at hrx;have hrx:CRel m _ (a.eval x):=hrx;generalize hbb:a.eval x=b at hrx;rw[hbb] at quiet;apply quiet;cases hrx with
  |p h=>cases h;simp[Builtin.clear_,hat,run_underlying ht]
 ·rename_i hv;cases hp
  rw[hv] at hrx;have hrx:CRel m _ (a.eval x):=hrx;generalize hbb:a.eval x=b at hrx;rw[hbb] at quiet;apply quiet;cases hrx with
  |p h=>
   cases h with
   |sl0 a cap hn hm=>cases a<;>simp[Builtin.clear_,hat,run_underlying ht]
   |sl b o cap sz f h1 h2 h3 h4=>simp[Builtin.clear_,hat,run_underlying ht]
 ·rename_i id g w off len hv;rw[hv] at hrx;have hrx:CRel m _ (a.eval x):=hrx;generalize hbb:a.eval x=b at hrx;rw[hbb] at quiet run;cases hrx with
  |hsl ad cap hg hl hm had=>
   split at hp
   ·rename_i h0;cases hp
    subst h0;apply quiet;simp[Builtin.clear_,hat,run_underlying ht]
   ·rename_i h0;split at hp
    ·rename_i g' ty sz' es hbk;split at hp
     ·rename_i hcond;obtain⟨hgg,hsz,hfit⟩:=hcond;cases hp
      have hb2:(m.blk id).2=some (.arr ty sz' es):=by rw[hbk]
      obtain⟨_,had,_⟩:=had sz' (by rw[hbk];exact hgg) (by rw[hbk];rfl);have had:=had (.inr (by omega));subst had;obtain⟨cur,hh,hs0,hszz,hl2,hm2,hcurs,hps2⟩:=hok.obj id _ hb2;have hze: ∀ e∈List.replicate len z,e.length=sz':=fun e he=>by rw[List.eq_of_mem_replicate he];exact hsz.symm
      have hzs':zv.cells.size=sz':=by rw[hzs,← hzl,hsz]
      have hzr:(List.replicate len z).length=len:=List.length_replicate;have hfl:=flat_splice (off:=off) hszz hze (by rw[hzr];exact hfit);have hil:(off+len)*sz'≤es.length*sz':=Nat.mul_le_mul_right _ hfit;have hil2:es.length*sz'≤m.κ id*sz':=Nat.mul_le_mul_right _ hl2;rw[Nat.add_mul] at hil;generalize hZ:(Builtin.zeroCells zv.cells len).toList=Z;have hZl:Z.length=len*sz':=by rw[← hZ];simp[size_zeroCells,hzs']
      have hZp: ∀ w own,PsRel w own (List.replicate len z).flatten Z:=fun w own=>PsRel.pw.2 (by rw[← hZ];exact zeroCells_pw (PsRel.pw.1 (hps w own)))
      have hone: ∀ v∈Z,v.oneCell'=true:=fun v hv=>by
       obtain⟨j,hj⟩:=List.getElem?_of_mem hv;have hlt:j<(List.replicate len z).flatten.length:=by rw[← (hZp m.w m.own).1];exact(List.getElem?_eq_some_iff.1 hj).1
       exact((hZp m.w m.own).2 j _ v (List.getElem?_eq_getElem hlt) hj).oneCell
      have hfit2:off*sz'+0+Z.length≤cur.size:=by rw[hZl,hcurs];omega
      have hst:=run_storeCells_at P (m.σ id) (off*sz') ty Z 0 cur m.w hh hfit2 hone;simp only[Nat.add_zero] at hst;generalize hW:m.w.setRow (m.σ id) (cur.toList.take (off*sz')++Z++cur.toList.drop (off*sz'+Z.length)).toArray=W at hst;have hWs:W.heap.size=m.w.heap.size:=by rw[← hW];simp
      have hWo: ∀ c,c≠m.σ id→W.heap[c]? =m.w.heap[c]? :=fun c hc=>by rw[← hW];exact setRow_other m.w (m.σ id) c _ hc
      have hspl:(splice es off (List.replicate len z)).length=es.length:=splice_len (by rw[hzr];exact hfit);have hev:=setB_ev (w':=W) (o:= .arr ty sz' (splice es off (List.replicate len z))) hb2 rfl (by simp[szAt]) (by rw[← hW];rfl) (by rw[← hW];rfl) (by rw[← hW];rfl) hWs hWo;have hobj:ORel (m.setB W id (.arr ty sz' (splice es off (List.replicate len z)))) id (.arr ty sz' (splice es off (List.replicate len z))):=by
       refine⟨_,by rw[← hW];exact setRow_at hh,hs0,?_,by rw[hspl];exact hl2,hm2,?_,?_⟩
       ·intro e' he';unfold splice at he';simp only[List.mem_append] at he';rcases he' with (h|h)|h
        ·exact hszz e' (List.mem_of_mem_take h)
        ·exact hze e' h
        ·exact hszz e' (List.mem_of_mem_drop h)
       ·simp[Mem.setB];omega
       ·rw[hspl,hfl];have h1:=(PsRel.pw.1 (hps2.ev hev.zero)).splice (PsRel.pw.1 (hZp (m.setB W id (.arr ty sz' (splice es off (List.replicate len z)))).w (m.setB W id (.arr ty sz' (splice es off (List.replicate len z)))).own)) (off*sz');rw[← splice_take (by omega) (by simp;omega)] at h1;have h1:=PsRel.pw.2 h1
        simpa [splice] using h1
      refine⟨.tuple #[],m.setB W id (.arr ty sz' (splice es off (List.replicate len z))), .inl (run _ _ ?_),setB_ok hb2 rfl hok (by simp[szAt]) (by rw[← hW];rfl) (by rw[← hW];rfl) (by rw[← hW];rfl) hWs hWo hobj,hev,rfl,?_,(⟨#[],rfl,rfl,fun j x u h=>by simp at h⟩:VRel _ (.tup []) _)⟩
      ·obtain⟨k,rfl⟩: ∃ k,len=k+1:=⟨len - 1,by omega⟩;simp[Builtin.clear_,hat,run_underlying ht,zeroValue,typeInfo,hi,hiz,hZ,hst,Mem.setB]
      ·simp[Mem.setB,app,hbk,hgg]
     ·cases hp
    ·cases hp
 ·cases hp
end
section
variable {m:Mem} {env:Env} {a:Act} {o:Oper} (hok:Ok w0 m) (hr:ERel m env a.tmps)
include hok hr
theorem mupd_sim{t kt e:TypeId}{x k y:Operand}{x' k' y':IArg}{kd:Nat}{ag:Bool}{sh:Nat→Bool}{v:V}{u:List Upd}{rd:List Nat}(ho:o.op= .mapUpdate t x k y∨o.op= .insert t x k y)(ht:P.underlying t=some (.map kt e))
  (hkd:keyOf P kt=some kd) (hx:argC x=some x') (hk:argC k=some k') (hy:argC y=some y') (hp:plan sh env m.blk (.mupd kd ag x' k' y')= .done v u rd):OpOk P w0 a.eval o m v u:=by
 simp only[plan] at hp;split at hp
 ·rename_i id g q cs e1 e2 e3;split at hp
  ·rename_i g' ag' es ps e4 e5;split at hp
   ·rename_i hcnd;obtain⟨rfl,rfl,hq⟩:=hcnd;split at hp
    ·rename_i i w hf;cases hp
     exact sim_mupd hok hr ho ht hkd hx hk hy e1 e4 e2 hq e3 e5 hf
    ·rename_i hf;cases hp
     exact sim_mupd hok hr ho ht hkd hx hk hy e1 e4 e2 hq e3 e5 hf
    ·cases hp
   ·cases hp
  ·cases hp
 ·cases hp
theorem op_sim{site:Nat}{sh:Nat→Bool}{p:IOp}{v:V}{u:List Upd}{rd:List Nat}(hc:compOp P site o=some p)(hp:plan sh env m.blk p= .done v u rd):OpOk P w0 a.eval o m v u:=by
 unfold compOp at hc;split at hc
 · -- move
  rename_i x ho;simp only[Option.map_eq_some_iff] at hc;obtain⟨y,h1,rfl⟩:=hc;cases hp
  exact sim_move hok hr (.inl ho) h1
 · -- assign
  rename_i x ho;simp only[Option.map_eq_some_iff] at hc;obtain⟨y,h1,rfl⟩:=hc;cases hp
  exact sim_move hok hr (.inr ho) h1
 · -- pick
  rename_i c x y ho;split at hc
  ·rename_i c' x' y' h1 h2 h3;cases hc
   simp only[plan] at hp;split at hp
   ·rename_i t ht;cases hp
    exact sim_pick hok hr ho h1 h2 h3 ht
   ·cases hp
  ·cases hc
 · -- alloc
  rename_i t ho;simp only[Option.map_eq_some_iff] at hc;obtain⟨z,h1,rfl⟩:=hc;cases hp
  exact sim_alloc hok ho h1
 · -- box
  rename_i t x ho;simp only[Option.map_eq_some_iff] at hc;obtain⟨z,h1,rfl⟩:=hc;simp only[plan] at hp;split at hp
  ·rename_i cs hcs;cases hp
   exact sim_box hok hr ho h1 hcs
  ·cases hp
 · -- build
  rename_i t ps ho;split at hc
  ·rename_i fs z h1 h2;split at hc
   ·rename_i hall;simp only[Option.map_eq_some_iff] at hc;obtain⟨qs,h3,rfl⟩:=hc;simp only[plan] at hp;split at hp
    ·rename_i rs hrs;cases hp
     exact sim_build_struct hok hr ho h1 h2 hall h3 hrs
    ·cases hp
   ·cases hc
  ·rename_i n e z h1 h2;split at hc
   ·rename_i i hi;simp only[Option.map_eq_some_iff] at hc;obtain⟨qs,h3,rfl⟩:=hc;simp only[plan] at hp;split at hp
    ·rename_i rs hrs;cases hp
     exact sim_build_array hok hr ho h1 h2 hi h3 hrs
    ·cases hp
   ·cases hc
  ·cases hc
 · -- buildSlice
  rename_i t n ps ho;split at hc
  ·rename_i e sz bytes z as h1 h2;split at hc
   ·rename_i hcnd;cases hc
    simp only[plan] at hp;split at hp
    ·rename_i es hes;obtain⟨g1,g2⟩:=sim_bslice (s:=site) hok hr ho h1 h2 hcnd.1 hcnd.2 hes;split at hp
     ·rename_i qs hqs;cases hp
      exact g1 qs hqs
     ·cases hp
      exact g2
    ·cases hp
   ·cases hc
  ·cases hc
 · -- load
  rename_i t x ho;split at hc
  ·rename_i k y h1 h2;cases hc
   simp only[plan] at hp;split at hp
   ·rename_i cs r hcs;split at hp
    ·rename_i v' hv;cases hp
     exact sim_load hok hr ho h1 h2 hcs hv
    ·cases hp
   ·cases hp
  ·cases hc
 · -- store
  rename_i t x y ho;split at hc
  ·rename_i n x' y' h1 h2 h3;cases hc
   simp only[plan] at hp;split at hp
   ·rename_i cs hcs;exact sim_store hok hr ho h1 h2 h3 hcs hp
   ·cases hp
  ·cases hc
 · -- nilCheck
  rename_i x ho;simp only[Option.map_eq_some_iff] at hc;obtain⟨y,h1,rfl⟩:=hc;have hu:u=[]∧rd=[]:=by
   simp only[plan] at hp;split at hp<;>cases hp<;>exact⟨rfl,rfl⟩
  obtain⟨rfl,rfl⟩:=hu;exact sim_nilchk hok hr ho h1 hp
 · -- binOp
  rename_i op t x y ty ho;split at hc
  ·rename_i x' y' h1 h2;have hbin: ∀ (op':BinOp),p= .bin op' x' y'→op'=op→OpOk P w0 a.eval o m v u:=by
    intro op' e1 e2;subst e1 e2;simp only[plan] at hp;split at hp
    ·rename_i v' hv;cases hp
     exact sim_bin hok hr ho h1 h2 hv
    ·cases hp
   split at hc
   ·cases hc;exact hbin _ rfl rfl
   ·cases hc;exact hbin _ rfl rfl
   ·split at hc
    ·rename_i k hk;cases hc
     simp only[plan] at hp;split at hp
     ·rename_i b hb;cases hp
      exact sim_eqc hok hr (neg:=false) ho (.inl ⟨rfl,rfl⟩) hk h1 h2 hb
     ·cases hp
    ·rename_i k hk;cases hc
     simp only[plan] at hp;split at hp
     ·rename_i b hb;cases hp
      exact sim_eqc hok hr (neg:=true) ho (.inr ⟨rfl,rfl⟩) hk h1 h2 hb
     ·cases hp
    ·cases hc
  ·cases hc
 · -- unOp
  rename_i op t x ho;split at hc
  ·simp only[Option.map_eq_some_iff] at hc;obtain⟨y,h1,rfl⟩:=hc;simp only[plan] at hp;split at hp
   ·rename_i b e1 e2;cases hp
    exact sim_not hok hr ho h1 e2
   ·rename_i e1 e2;cases e1
   ·cases hp
  ·simp only[Option.map_eq_some_iff] at hc;obtain⟨y,h1,rfl⟩:=hc;simp only[plan] at hp;split at hp
   ·rename_i e1 e2;cases e1
   ·rename_i k n e1 e2;cases hp
    exact sim_neg hok hr ho h1 e2
   ·cases hp
  ·cases hc
 · -- convert
  rename_i s d x ho;split at hc
  ·rename_i ks k y h1 h2 h3;cases hc
   simp only[plan] at hp;split at hp
   ·rename_i k0 n hn;cases hp
    exact sim_conv hok hr ho h1 h2 h3 hn
   ·cases hp
  ·rename_i e y h1 h2 h3;split at hc
   ·rename_i he;cases hc
    simp only[plan] at hp;split at hp
    ·rename_i es r hes;split at hp
     ·rename_i bs hbs;cases hp
      exact sim_bstr hok hr ho h1 he h2 h3 hes hbs
     ·cases hp
    ·cases hp
   ·cases hc
  ·cases hc
 · -- makeFunc
  rename_i f x y ho;split at hc
  ·rename_i x' y' h1 h2;cases hc
   simp only[plan] at hp;split at hp
   ·rename_i cs ds e1 e2;cases hp
    exact sim_mkfn hok hr ho h1 h2 e1 e2
   ·cases hp
  ·cases hc
 · -- makeMap
  rename_i t ho;split at hc
  ·simp only[Option.map_eq_some_iff] at hc;obtain⟨k,h1,rfl⟩:=hc;cases hp
   exact sim_mkmap (kt:=t) (t:=t) (e:=t) hok ho
  ·cases hc
 · -- makeSlice
  rename_i t l c ho;split at hc
  ·rename_i e sz bytes z l' c' h1 h2 h3;cases hc
   simp only[plan] at hp;split at hp
   ·rename_i n n' e1 e2;split at hp
    ·rename_i hcnd;obtain⟨rfl,hroom⟩:=hcnd;cases hp
     exact sim_mkslice hok hr ho h1 h2 h3 e1 e2 hroom
    ·cases hp
   ·cases hp
  ·cases hc
 · -- slice
  rename_i t x lo hi ho;split at hc
  ·rename_i x' lo' hi' h1 h2 h3;split at hc
   ·rename_i e ht;simp only[Option.map_eq_some_iff] at hc;obtain⟨sz,h4,rfl⟩:=hc;simp only[plan] at hp;split at hp
    ·rename_i n hn;split at hp
     ·rename_i l h e1 e2;have hu:u=[]∧rd=[]:=by
       unfold planSlice at hp;repeat' split at hp
       all_goals first
        |cases hp
        |skip
       all_goals exact⟨rfl,rfl⟩
      obtain⟨rfl,rfl⟩:=hu;exact sim_slice hok hr ho ht h4 h1 h2 h3 hn e1 e2 hp
     ·cases hp
    ·cases hp
   ·rename_i ht;cases hc
    simp only[plan] at hp;split at hp
    ·rename_i s hs;split at hp
     ·rename_i l h e1 e2;split at hp
      ·rename_i hcnd;cases hp
       exact sim_sslice hok hr ho ht h1 h2 h3 hs e1 e2 hcnd.1 hcnd.2
      ·cases hp
     ·cases hp
    ·cases hp
   ·cases hc
  ·cases hc
 · -- fieldAddr
  rename_i s x f ho;split at hc
  ·rename_i fs y h1 h2;split at hc
   ·rename_i d hd;split at hc
    ·rename_i hz;cases hc
     have hu:u=[]∧rd=[]:=by
      simp only[plan] at hp;split at hp<;>cases hp<;>exact⟨rfl,rfl⟩
     obtain⟨rfl,rfl⟩:=hu;exact sim_faddr hok hr ho h1 hd hz h2 hp
    ·cases hc
   ·cases hc
  ·cases hc
 · -- field
  rename_i t x f ho;split at hc
  ·rename_i fs y h1 h2;split at hc
   ·rename_i d hd;simp only[Option.map_eq_some_iff] at hc;obtain⟨k,h3,rfl⟩:=hc;simp only[plan] at hp;split at hp
    ·rename_i cs hcs;split at hp
     ·rename_i v' hv;cases hp
      exact sim_fld hok hr ho h1 hd h3 h2 hcs hv
     ·cases hp
    ·cases hp
   ·cases hc
  ·cases hc
 · -- indexAddr
  rename_i t x i ho;split at hc
  ·rename_i x' i' h1 h2;split at hc
   ·rename_i e ht;simp only[Option.map_eq_some_iff] at hc;obtain⟨sz,h3,rfl⟩:=hc;have hu:u=[]∧rd=[]:=by
     simp only[plan] at hp;repeat' split at hp
     all_goals first
      |cases hp
      |skip
     all_goals exact⟨rfl,rfl⟩
    obtain⟨rfl,rfl⟩:=hu;exact sim_iaddr hok hr ho ht h3 h1 h2 hp
   ·rename_i n e ht;simp only[Option.map_eq_some_iff] at hc;obtain⟨sz,h3,rfl⟩:=hc;have hu:u=[]∧rd=[]:=by
     simp only[plan] at hp;repeat' split at hp
     all_goals first
      |cases hp
      |skip
     all_goals exact⟨rfl,rfl⟩
    obtain⟨rfl,rfl⟩:=hu;exact sim_aaddr hok hr ho ht h3 h1 h2 hp
   ·cases hc
  ·cases hc
 · -- index
  rename_i t x i ho;split at hc
  ·rename_i x' i' h1 h2;split at hc
   ·rename_i n e ht;split at hc
    ·rename_i sz k h3 h4;cases hc
     simp only[plan] at hp;split at hp
     ·rename_i n' cs e1 e2;split at hp
      ·rename_i hlt;split at hp
       ·rename_i v' hv;cases hp
        exact sim_aidx hok hr ho ht h3 h4 h1 h2 e1 hlt e2 hv
       ·cases hp
      ·cases hp
     ·cases hp
    ·cases hc
   ·rename_i ht;cases hc
    simp only[plan] at hp;split at hp
    ·rename_i n s e1 e2;split at hp
     ·rename_i b hb;cases hp
      exact sim_sidx hok hr ho ht h1 h2 e1 e2 hb
     ·cases hp
    ·cases hp
   ·cases hc
  ·cases hc
 · -- lookup
  rename_i t x k ok ho;split at hc
  ·rename_i kt e x' k' h1 h2 h3;split at hc
   ·rename_i z q h4 h5;split at hc
    ·rename_i kd h6;split at hc
     ·rename_i h7;cases hc
      simp only[plan] at hp;split at hp
      ·rename_i es r key e1 e2;split at hp
       ·cases hp
       ·rename_i hkd;split at hp
        ·rename_i f hf;split at hp
         ·rename_i w hw;cases hp
          exact sim_lookup hok hr ho h1 h4 h6 h7 h2 h3 e1 e2 (Classical.not_not.1 hkd) hf hw
         ·cases hp
        ·cases hp
      ·cases hp
     ·cases hc
    ·cases hc
   ·cases hc
  ·cases hc
 · -- mapUpdate
  rename_i t x k y ho;split at hc
  ·rename_i kt e x' k' y' h1 h2 h3 h4;split at hc
   ·rename_i q h5;simp only[Option.map_eq_some_iff] at hc;obtain⟨kd,h6,rfl⟩:=hc;exact mupd_sim hok hr (.inl ho) h1 h6 h2 h3 h4 hp
   ·cases hc
  ·cases hc
 · -- insert
  rename_i t x k y ho;split at hc
  ·rename_i kt e x' k' y' h1 h2 h3 h4;split at hc
   ·rename_i q h5;simp only[Option.map_eq_some_iff] at hc;obtain⟨kd,h6,rfl⟩:=hc;exact mupd_sim hok hr (.inr ho) h1 h6 h2 h3 h4 hp
   ·cases hc
  ·cases hc
 · -- extract
  rename_i x i ho;simp only[Option.map_eq_some_iff] at hc;obtain⟨y,h1,rfl⟩:=hc;simp only[plan] at hp;split at hp
  ·rename_i vs hvs;split at hp
   ·rename_i v' hv;cases hp
    exact sim_extract hok hr ho h1 hvs hv
   ·cases hp
  ·cases hp
 · -- call
  rename_i c ho;split at hc
  ·rename_i f as h1 h2;simp only[Option.map_eq_some_iff] at hc;obtain⟨y,h3,rfl⟩:=hc;simp only[plan] at hp;repeat' split at hp
   all_goals cases hp
  ·rename_i x h1 h2;obtain⟨x0,hx0,hx1⟩:=argsC_one h2;split at hc
   ·rename_i t ht;split at hc
    ·rename_i hu;cases hc
     simp only[plan] at hp;split at hp
     ·rename_i s hs;cases hp
      exact sim_slen hok hr ho h1 hx0 ht hu hx1 hs
     ·cases hp
    ·rename_i e hu;cases hc
     simp only[plan] at hp;split at hp
     ·rename_i n hn;cases hp
      exact sim_llen hok hr ho h1 hx0 ht hu hx1 hn
     ·cases hp
    ·rename_i k e hu;cases hc
     simp only[plan] at hp;split at hp
     ·rename_i n r hn;cases hp
      exact sim_mlen hok hr ho h1 hx0 ht hu hx1 hn
     ·cases hp
    ·cases hc
   ·cases hc
  ·rename_i x y h1 h2;obtain⟨x0,y0,hx0,hx1,hx2⟩:=argsC_two h2;split at hc
   ·rename_i t u' ht hu;split at hc
    ·rename_i e sz bytes z he;split at hc
     ·rename_i hcnd;cases hc
      obtain⟨rfl,hsz⟩:=hcnd;exact sim_append hok hr ho h1 hx0 (types_two ht hu hsz) he hx1 hx2 hp
     ·cases hc
    ·cases hc
   ·cases hc
  ·rename_i x y h1 h2;obtain⟨x0,y0,hx0,hx1,hx2⟩:=argsC_two h2;cases hc
   simp only[plan] at hp;split at hp
   ·rename_i k p k' q e1 e2;cases hp
    exact sim_max hok hr ho h1 hx0 hx1 hx2 e1 e2
   ·cases hp
  ·rename_i x y h1 h2;obtain⟨x0,y0,hx0,hx1,hx2⟩:=argsC_two h2;cases hc
   simp only[plan] at hp;split at hp
   ·rename_i k p k' q e1 e2;cases hp
    exact sim_min hok hr ho h1 hx0 hx1 hx2 e1 e2
   ·cases hp
  ·rename_i x h1 h2;obtain⟨x0,hx0,hx1⟩:=argsC_one h2;split at hc
   ·rename_i t ht;simp only[Option.map_eq_some_iff] at hc;obtain⟨⟨e,sz,bytes,z⟩,h3,rfl⟩:=hc;exact sim_clear hok hr ho h1 hx0 ht h3 hx1 hp
   ·cases hc
  ·cases hc
 ·cases hc
end
end Go.Abs
namespace Go.Abs
variable {P:Program} {w0:World}
def OwnRel(w:World)(Q:Nat→Prop)(ty sz:Nat)(es:List (List PV))(c:Nat)(v:Value):Prop:=
 ∃ cap cur,v= .slice (some ⟨c,0,none⟩) es.length cap∧w.heap[c]? =some (.cells cur ty (0,0))∧0<sz∧(∀ e∈es,e.length=sz)∧es.length≤cap∧cap≤maxLen∧cur.size=cap*sz∧PsRel w Q es.flatten (cur.toList.take (es.length*sz))
def RCsRel(w:World)(Q:Nat→Prop):List RC→List Value→List Nat→Prop
 |[],vs,bs=>vs=[]∧bs=[]
 | .p x::r,vs,bs=> ∃ v vs',vs=v::vs'∧PRel w Q x v∧RCsRel w Q r vs' bs
 | .own ty sz es::r,vs,bs=> ∃ v vs' c bs',vs=v::vs'∧bs=c::bs'∧OwnRel w Q ty sz es c v∧RCsRel w Q r vs' bs'
theorem RCsRel.mono{w w':World}{Q Q':Nat→Prop}(hk: ∀ c,c<w.heap.size→ ¬ Q c→w'.heap[c]? =w.heap[c]? ∧ ¬ Q' c): ∀ {rs:List RC} {vs:List Value} {bs:List Nat},(∀ c∈bs,w'.heap[c]? =w.heap[c]?)→RCsRel w Q rs vs bs→RCsRel w' Q' rs vs bs:=by
 intro rs
 induction rs with
 |nil=>intro vs bs _ h;exact h
 |cons r rs ih=>
  intro vs bs hb h;cases r with
  |p x=>
   obtain⟨v,vs',rfl,h1,h2⟩:=h;exact⟨v,vs',rfl,h1.mono hk,ih hb h2⟩
  |own ty sz es=>
   obtain⟨v,vs',c,bs',rfl,rfl,⟨cap,cur,e1,e2,e3,e4,e5,e6,e7,e8⟩,h2⟩:=h;exact⟨v,vs',c,bs',rfl,rfl,⟨cap,cur,e1,by rw[hb c (by simp)];exact e2,e3,e4,e5,e6,e7,e8.mono hk⟩,ih (fun c hc=>hb c (by simp[hc])) h2⟩
theorem RCsRel.less{w:World}{Q Q':Nat→Prop}(h: ∀ b,Q' b→Q b){rs:List RC}{vs:List Value}{bs:List Nat}(hr:RCsRel w Q rs vs bs):RCsRel w Q' rs vs bs:=
 hr.mono (fun c _ hn=>⟨rfl,fun hq=>hn (h c hq)⟩) (fun _ _=>rfl)
theorem snapC_rel{m:Mem}(hok:Ok w0 m){Q:Nat→Prop}(hQ: ∀ b,Q b→m.own b){c:C}{x:PV}{q:List Nat}{v:Value}(h:snap m.blk snapN c=some (x,q))(hr:CRel m c v)(hs: ∀ id∈q,¬ Q (m.σ id)):PRel m.w Q x v:=
 snap_rel hok snapN h hr ⟨hQ,hs⟩
theorem outCs_rel{m:Mem}(hok:Ok w0 m){Q:Nat→Prop}(hQ: ∀ b,Q b→m.own b): ∀ {cs:List C} {rs:List RC} {o q:List Nat} {vs:List Value},outCs m.blk cs=some (rs,o,q)→CsRel m cs vs→(∀ id∈q,¬ Q (m.σ id))→
  RCsRel m.w Q rs vs (o.map m.σ)∧ ∀ id∈o,∃ ob,(m.blk id).2=some ob∧ob.mine=true:=by
 intro cs
 induction cs with
 |nil=>
  intro rs o q vs h hr _;simp only[outCs,Option.some.injEq,Prod.mk.injEq] at h;obtain⟨rfl,rfl,rfl⟩:=h;have:vs=[]:=by have:=hr.1;simpa using this
  exact⟨⟨this,rfl⟩,fun id h=>by simp at h⟩
 |cons c cs ih=>
  intro rs o q vs h hr hq;simp only[outCs] at h;split at h
  ·rename_i x o1 q1 xs os qs h1 h2;cases h
   cases vs with
   |nil=>simp[CsRel] at hr
   |cons v vs=>
    obtain⟨i1,i2⟩:=ih (vs:=vs) h2 ⟨by have:=hr.1;simpa using this,fun j x u a b=>hr.2 (j+1) x u (by simpa using a) (by simpa using b)⟩ (fun id hid=>hq id (by simp[hid]));have hc:CRel m c v:=hr.2 0 c v rfl rfl;have snapcase: ∀ {y:PV},(snap m.blk snapN c).map (fun(v,r)=>((.p v:RC),([]:List Nat),r))=some (x,o1,q1)→RCsRel m.w Q (x::xs) (v::vs) ((o1++os).map m.σ)∧ ∀ id∈o1++os,∃ ob,(m.blk id).2=some ob∧ob.mine=true:=by
     intro _ h1;simp only[Option.map_eq_some_iff] at h1;obtain⟨⟨y,r⟩,h3,h4⟩:=h1;cases h4
     exact⟨⟨v,vs,rfl,snapC_rel hok hQ h3 hc (fun id hid=>hq id (by simp[hid])),i1⟩,i2⟩
    unfold outC at h1;split at h1
    ·rename_i y;cases h1
     have hy:PRel m.w m.own y v:=by cases hc with|p h=>exact h
     exact⟨⟨v,vs,rfl,hy.less hQ,i1⟩,i2⟩
    ·rename_i id g z len;split at h1
     ·rename_i g' ty sz es hb;split at h1
      ·rename_i hcnd;obtain⟨rfl,hlen⟩:=hcnd;cases h1
       have hbo:(m.blk id).2=some (.arr ty sz es):=by rw[hb]
       obtain⟨cur,hh,hpos,hsz,hl,hmx,hcs,hps⟩:=hok.obj id _ hbo;cases hc with
       |hsl ad cap hg hll hmm hhd=>
        obtain⟨f1,f2,f3⟩:=hhd sz (by rw[hb]) (by rw[hb];rfl);have had:=f2 (.inl rfl);have hcap:=f3 rfl;rw[Nat.zero_mul] at had;subst had;subst hcap;have hlt:(es.take len).length=len:=by simp;omega
        refine⟨⟨_,vs,m.σ id,os.map m.σ,rfl,rfl,⟨m.κ id,cur,by rw[hlt],hh,hpos,fun e he=>hsz e (List.mem_of_mem_take he),by rw[hlt];exact hll,hmx,hcs,?_⟩,i1⟩,?_⟩
        ·rw[hlt,flat_take hsz];have h1:=(PsRel.pw.1 hps).take (len*sz);rw[List.take_take,Nat.min_eq_left (Nat.mul_le_mul_right _ hlen)] at h1;exact(PsRel.pw.2 h1).less hQ
        ·intro j hj;simp only[List.cons_append,List.nil_append,List.mem_cons] at hj;rcases hj with rfl|hj
         ·exact⟨_,hbo,rfl⟩
         ·exact i2 j hj
      ·cases h1
     ·exact snapcase (y:= .nilp) h1
    ·exact snapcase (y:= .nilp) h1
  ·cases h
theorem inCs_congr: ∀ (rs:List RC) (site:Nat) (b b':Blk),(∀ s,site≤s→(b s).1=(b' s).1)→inCs b site rs=inCs b' site rs:=by
 intro rs
 induction rs with
 |nil=>intro site b b' _;rfl
 |cons r rs ih=>
  intro site b b' h;have h1:inC b site r=inC b' site r:=by
   cases r with
   |p x=>rfl
   |own ty sz es=>simp only[inC,h site (Nat.le_refl _)]
  simp only[inCs,h1,ih (site+1) b b' (fun s hs=>h s (by omega))]
theorem install_ev0{m:Mem}{s c k:Nat}{o:Ob}(hc:m.fr c):Ev0 m (m.install s c k o) where
 own x _ hn:=⟨rfl,fun h=>hn (install_own hc h)⟩
 gen id:=by
  simp only[Mem.install,upd_apply];split
  ·rename_i e;subst e;exact Nat.le_succ _
  ·exact Nat.le_refl _
 ref id hg hs:=by
  simp only[Mem.install,upd_apply] at hg hs ⊢;split at hg
  ·rename_i e;subst e;simp at hg
  ·rename_i e;simp only[if_neg e] at hs ⊢;exact⟨hs,trivial,trivial,trivial⟩
theorem Ev0.trans{a b c:Mem}(h:Ev0 a b)(hs:a.w.heap.size≤b.w.heap.size)(k:Ev0 b c):Ev0 a c where
 own x hx hn:=by
  have h1:=h.own x hx hn;have h2:=k.own x (Nat.lt_of_lt_of_le hx hs) h1.2;exact⟨h2.1.trans h1.1,h2.2⟩
 gen id:=Nat.le_trans (h.gen id) (k.gen id)
 ref id he hs':=by
  have h1:=h.gen id;have h2:=k.gen id;obtain⟨s1,e1,e2,e3⟩:=k.ref id (by omega) hs';obtain⟨s2,f1,f2,f3⟩:=h.ref id (by omega) s1;exact⟨s2,e1.trans f1,e2.trans f2,e3.trans f3⟩
theorem inCs_ok{m00:Mem}: ∀ {rs:List RC} {vs:List Value} {bs:List Nat} {site:Nat} {m:Mem},Ok w0 m→RCsRel m.w m.own rs vs bs→bs.Nodup→(∀ c∈bs,m.fr c∧w0.heap.size≤c)→Ev m00 m→(∀ c∈bs,m00.w.heap.size≤c∨m00.mine c)→
  ∃ m',m'.w=m.w∧Ok w0 m'∧Ev m00 m'∧Ev0 m m'∧(∀ c,m'.fr c↔m.fr c∧c∉bs)∧m'.blk=app (inCs m.blk site rs).2 m.blk∧CsRel m' (inCs m.blk site rs).1 vs:=by
 intro rs
 induction rs with
 |nil=>
  intro vs bs site m hok h _ _ hev _;obtain⟨rfl,rfl⟩:=h;exact⟨m,rfl,hok,hev,⟨fun c _ h=>⟨rfl,h⟩,fun _=>Nat.le_refl _,fun _ _ h=>⟨h,rfl,rfl,rfl⟩⟩,fun c=>by simp,rfl,rfl,fun j x u h=>by simp[inCs] at h⟩
 |cons r rs ih=>
  intro vs bs site m hok h hnd hbs hev hnew;have cons: ∀ {m':Mem} {x:C} {xs:List C} {v:Value} {vs:List Value},CRel m' x v→CsRel m' xs vs→CsRel m' (x::xs) (v::vs):=by
   intro m' x xs v vs h1 h2;refine⟨by simp[h2.1],fun j y u a b=> ?_⟩;cases j with
   |zero=>simp at a b;subst a b;exact h1
   |succ j=>simp at a b;exact h2.2 j y u a b
  cases r with
  |p x=>
   obtain⟨v,vs',rfl,h1,h2⟩:=h;obtain⟨m',e1,e2,e3,e4,e5,e6,e7⟩:=ih (site:=site+1) hok h2 hnd hbs hev hnew;exact⟨m',e1,e2,e3,e4,e5,by simpa [inCs,inC] using e6,by simpa [inCs,inC] using cons (CRel.p (h1.ev e4)) e7⟩
  |own ty sz es=>
   obtain⟨v,vs',c,bs',rfl,rfl,⟨cap,cur,q1,q2,q3,q4,q5,q6,q7,q8⟩,h2⟩:=h;have hfc:=(hbs c (by simp)).1;have h0:=install_ev0 (s:=site) (k:=cap) (o:= .arr ty sz es) hfc;have hσ:(m.install site c cap (.arr ty sz es)).σ site=c:=by simp[Mem.install,upd_apply]
   have hκ:(m.install site c cap (.arr ty sz es)).κ site=cap:=by simp[Mem.install,upd_apply]
   have hok1:Ok w0 (m.install site c cap (.arr ty sz es)):=install_ok hok hfc (hbs c (by simp)).2
    ⟨cur,by rw[hσ];exact q2,q3,q4,by rw[hκ];exact q5,by rw[hκ];exact q6,by rw[hκ];exact q7,PsRel.ev h0 q8⟩
   have hnd2:=List.nodup_cons.1 hnd;obtain⟨m',e1,e2,e3,e4,e5,e6,e7⟩:=ih (site:=site+1) (m:=m.install site c cap (.arr ty sz es)) hok1 (h2.less fun b hb=>install_own hfc hb) hnd2.2
    (fun d hd=>⟨⟨(hbs d (by simp[hd])).1,fun e=>hnd2.1 (e▸hd)⟩,(hbs d (by simp[hd])).2⟩) (install_ev hev hfc (hnew c (by simp))) (fun d hd=>hnew d (by simp[hd]))
   have hcong:inCs (m.install site c cap (.arr ty sz es)).blk (site+1) rs=inCs m.blk (site+1) rs:=inCs_congr _ _ _ _ fun s hs=>by
    simp only[Mem.install,upd_apply];rw[if_neg (by omega)]
   rw[hcong] at e6 e7;refine⟨m',e1,e2,e3,h0.trans (Nat.le_refl _) e4,fun d=> ?_,?_,?_⟩
   ·rw[e5 d];simp only[Mem.install,List.mem_cons,not_or];exact⟨fun⟨⟨a,b⟩,c⟩=>⟨a,b,c⟩,fun⟨a,b,c⟩=>⟨⟨a,b⟩,c⟩⟩
   ·rw[e6];rfl
   ·refine cons ?_ e7;have:CRel (m.install site c cap (.arr ty sz es)) (.hsl site ((m.blk site).1+1) sz 0 es.length) v:=by
     rw[q1];refine .hsl _ _ ?_ q5 q6 fun z h1 h2=> ?_
     ·simp[Mem.install,upd_apply]
     ·have hz:szAt ((m.install site c cap (.arr ty sz es)).blk site)=some sz:=by simp[Mem.install,upd_apply,szAt]
      rw[hz] at h2;cases h2
      exact⟨rfl,fun _=>by rw[hσ,Nat.zero_mul],fun _=>hκ.symm⟩
    exact this.ev e4
def FlatR1:RV→Value→List Value→Prop
 | .one _,v,vs=>vs=[v]
 | .agg l,v,vs=>v= .agg vs.toArray∧vs.length=l.length
 | .tup _,_,_=>False
def FlatRs:List RV→List Value→List Value→Prop
 |[],us,vs=>us=[]∧vs=[]
 |r::rs,us,vs=> ∃ u us' a b,us=u::us'∧vs=a++b∧FlatR1 r u a∧FlatRs rs us' b
def FlatR:RV→Value→List Value→Prop
 | .tup rs,v,vs=> ∃ arr,v= .tuple arr∧FlatRs rs arr.toList vs
 |r,v,vs=>FlatR1 r v vs
theorem CsRel.take{m:Mem}{cs:List C}{vs:List Value}(h:CsRel m cs vs)(n:Nat):CsRel m (cs.take n) (vs.take n):=CsRel.pw.2 ((CsRel.pw.1 h).take n)
theorem CsRel.drop{m:Mem}{cs:List C}{vs:List Value}(h:CsRel m cs vs)(n:Nat):CsRel m (cs.drop n) (vs.drop n):=CsRel.pw.2 ((CsRel.pw.1 h).drop n)
theorem CsRel.append{m:Mem}{cs ds:List C}{vs us:List Value}(h:CsRel m cs vs)(k:CsRel m ds us):CsRel m (cs++ds) (vs++us):=CsRel.pw.2 ((CsRel.pw.1 h).append (CsRel.pw.1 k))
theorem CsRel.single{m:Mem}{c:C}{v:Value}(h:CRel m c v):CsRel m [c] [v]:=⟨rfl,fun j x u a b=>by
 rcases j with _|j
 ·simp at a b;subst a b;exact h
 ·simp at a⟩
theorem flatV1_rel{m:Mem}{v:V}{cs:List C}{val:Value}(h:flatV1 v=some cs)(hr:VRel1 m v val):
  ∃ vs,CsRel m cs vs∧ ∀ (rs tl:List RC),rs.length=cs.length→(reshR1 v (rs++tl)).2=tl∧flatR1 (reshR1 v (rs++tl)).1=rs∧FlatR1 (reshR1 v (rs++tl)).1 val vs:=by
 cases v with
 |undef=>simp[flatV1] at h
 |tup vs=>simp[flatV1] at h
 |one c=>
  simp only[flatV1,Option.some.injEq] at h;subst h;refine⟨[val],CsRel.single hr,fun rs tl hl=> ?_⟩
  match rs,hl with
  |[r],_=>exact⟨rfl,rfl,rfl⟩
 |agg ds=>
  simp only[flatV1,Option.some.injEq] at h;subst h;obtain⟨arr,rfl,hc⟩:=hr;refine⟨arr.toList,hc,fun rs tl hl=> ?_⟩;have h1:(rs++tl).take ds.length=rs:=by rw[← hl];exact List.take_left
  have h2:(rs++tl).drop ds.length=tl:=by rw[← hl];exact List.drop_left
  simp only[reshR1,flatR1,FlatR1,h1,h2,true_and];rw[hc.1,hl]
theorem flatVs_rel{m:Mem}: ∀ {ws:List V} {cs:List C} {vals:List Value},flatVs ws=some cs→Pw (VRel1 m) ws vals→
  ∃ vs,CsRel m cs vs∧ ∀ (rs:List RC),rs.length=cs.length→flatRs (reshRs ws rs)=rs∧FlatRs (reshRs ws rs) vals vs:=by
 intro ws
 induction ws with
 |nil=>
  intro cs vals h hr;simp only[flatVs,Option.some.injEq] at h;subst h;have hv:vals=[]:=by have:=hr.1;simpa using this
  subst hv;refine⟨[],⟨rfl,fun j x u a=>by simp at a⟩,fun rs hl=> ?_⟩;have:rs=[]:=by simpa using hl
  subst this;exact⟨rfl,rfl,rfl⟩
 |cons w ws ih=>
  intro cs vals h hr;simp only[flatVs] at h;split at h
  ·rename_i a b h1 h2;cases h
   cases vals with
   |nil=>have:=hr.1;simp at this
   |cons val vals=>
    obtain⟨vs1,hc1,hs1⟩:=flatV1_rel h1 (hr.2 0 w val rfl rfl);obtain⟨vs2,hc2,hs2⟩:=ih (vals:=vals) h2 ⟨by have:=hr.1;simpa using this,fun j x u p q=>hr.2 (j+1) x u (by simpa using p) (by simpa using q)⟩;refine⟨vs1++vs2,hc1.append hc2,fun rs hl=> ?_⟩;have hl':rs.length=a.length+b.length:=by simpa using hl
    obtain⟨p1,p2,p3⟩:=hs1 (rs.take a.length) (rs.drop a.length) (by simp;omega);rw[List.take_append_drop] at p1 p2 p3;obtain⟨q1,q2⟩:=hs2 (rs.drop a.length) (by simp;omega);simp only[reshRs,flatRs,p1,p2,q1,FlatRs];exact⟨List.take_append_drop _ _,val,vals,vs1,vs2,rfl,rfl,p3,q2⟩
  ·cases h
theorem flatV_rel{m:Mem}{v:V}{cs:List C}{val:Value}(h:flatV v=some cs)(hr:VRel m v val):
  ∃ vs,CsRel m cs vs∧ ∀ (rs:List RC),rs.length=cs.length→flatR (reshR v rs)=rs∧FlatR (reshR v rs) val vs:=by
 have one: ∀ {v:V},flatV1 v=some cs→VRel1 m v val→(∀ rs,reshR v rs=(reshR1 v rs).1)→ ∃ vs,CsRel m cs vs∧ ∀ (rs:List RC),rs.length=cs.length→flatR (reshR v rs)=rs∧FlatR (reshR v rs) val vs:=by
  intro v h hr he;obtain⟨vs,h1,h2⟩:=flatV1_rel h hr;refine⟨vs,h1,fun rs hl=> ?_⟩;obtain⟨_,p2,p3⟩:=h2 rs [] hl;rw[List.append_nil] at p2 p3;rw[he];generalize (reshR1 v rs).1=y at p2 p3;cases y with
  |tup _=>exact p3.elim
  |one c=>exact⟨p2,p3⟩
  |agg c=>exact⟨p2,p3⟩
 cases v with
 |tup ws=>
  obtain⟨arr,rfl,hs,hc⟩:=hr;obtain⟨vs,h1,h2⟩:=flatVs_rel (m:=m) (vals:=arr.toList) h ⟨by simpa using hs,fun j x u a b=>hc j x u a (by simpa using b)⟩;exact⟨vs,h1,fun rs hl=>⟨(h2 rs hl).1,arr,rfl,(h2 rs hl).2⟩⟩
 |undef=>simp[flatV,flatV1] at h
 |one c=>exact one h hr fun _=>rfl
 |agg c=>exact one h hr fun _=>rfl
theorem reshV1_rel{m:Mem}{r:RV}{cs:List C}{val:Value}{a b:List Value}(hf:FlatR1 r val a)(hc:CsRel m cs (a++b)):VRel1 m (reshV1 r cs).1 val∧CsRel m (reshV1 r cs).2 b:=by
 cases r with
 |tup _=>exact hf.elim
 |one c=>
  have hf:a=[val]:=hf;subst hf;cases cs with
  |nil=>have:=hc.1;simp at this
  |cons x xs=>exact⟨hc.2 0 x val rfl rfl,by have:=hc.drop 1;simpa [reshV1] using this⟩
 |agg l=>
  obtain⟨rfl,hl⟩:=hf;refine⟨⟨_,rfl,?_⟩,?_⟩
  ·have:=hc.take l.length;rw[← hl,List.take_left] at this
   simpa [reshV1,hl] using this
  ·have:=hc.drop l.length;rw[← hl,List.drop_left] at this
   simpa [reshV1,hl] using this
theorem reshVs_rel{m:Mem}: ∀ {rs:List RV} {cs:List C} {us vs:List Value},FlatRs rs us vs→CsRel m cs vs→Pw (VRel1 m) (reshVs rs cs) us:=by
 intro rs
 induction rs with
 |nil=>
  intro cs us vs h _;obtain⟨rfl,rfl⟩:=h;exact⟨rfl,fun j x u a=>by simp[reshVs] at a⟩
 |cons r rs ih=>
  intro cs us vs h hc;obtain⟨u,us',a,b,rfl,rfl,h1,h2⟩:=h;obtain⟨p1,p2⟩:=reshV1_rel h1 hc;have p3:=ih h2 p2;refine⟨by simp[reshVs,p3.1],fun j x v q1 q2=> ?_⟩;cases j with
  |zero=>simp[reshVs] at q1 q2;subst q1 q2;exact p1
  |succ j=>simp[reshVs] at q1 q2;exact p3.2 j x v q1 q2
theorem reshV_rel{m:Mem}{r:RV}{cs:List C}{val:Value}{vs:List Value}(hf:FlatR r val vs)(hc:CsRel m cs vs):VRel m (reshV r cs) val:=by
 cases r with
 |tup rs=>
  obtain⟨arr,rfl,h⟩:=hf;have:=reshVs_rel h hc;exact⟨arr,rfl,by simpa using this.1,fun j x u a b=>this.2 j x u a (by simpa using b)⟩
 |one c=>
  have:=(reshV1_rel (b:=[]) (show FlatR1 (.one c) val vs from hf) (by simpa using hc)).1;exact VRel.of1 this
 |agg c=>
  have:=(reshV1_rel (b:=[]) (show FlatR1 (.agg c) val vs from hf) (by simpa using hc)).1;exact VRel.of1 this
end Go.Abs
namespace Go.Abs
def AgreeB(ids:List Nat)(b b':Blk):Prop:= ∀ id∈ids,b' id=b id
def AgreeE(ts:List Nat)(e e':Env):Prop:= ∀ t∈ts,e' t=e t
theorem AgreeB.left{x y:List Nat}{b b':Blk}(h:AgreeB (x++y) b b'):AgreeB x b b':=fun i hi=>h i (by simp[hi])
theorem AgreeB.right{x y:List Nat}{b b':Blk}(h:AgreeB (x++y) b b'):AgreeB y b b':=fun i hi=>h i (by simp[hi])
theorem AgreeE.left{x y:List Nat}{b b':Env}(h:AgreeE (x++y) b b'):AgreeE x b b':=fun i hi=>h i (by simp[hi])
theorem AgreeE.right{x y:List Nat}{b b':Env}(h:AgreeE (x++y) b b'):AgreeE y b b':=fun i hi=>h i (by simp[hi])
section
variable {e e':Env}
theorem ev_local{a:IArg}(h:AgreeE a.tmps e e'):ev e' a=ev e a:=by
 cases a with
 |t n=>exact h n (by simp[IArg.tmps])
 |_=>rfl
theorem evs_local: ∀ {as:List IArg},AgreeE (tmpsL as) e e'→as.map (ev e')=as.map (ev e):=by
 intro as
 induction as with
 |nil=>intro _;rfl
 |cons a r ih=>intro h;simp only[List.map_cons];rw[ev_local h.left,ih h.right]
theorem onesC_local: ∀ {as:List IArg},AgreeE (tmpsL as) e e'→onesC e' as=onesC e as:=by
 intro as
 induction as with
 |nil=>intro _;rfl
 |cons a r ih=>intro h;simp only[onesC];rw[ev_local h.left,ih h.right]
theorem elemsV_local{sz:Nat}: ∀ {as:List IArg},AgreeE (tmpsL as) e e'→elemsV e' sz as=elemsV e sz as:=by
 intro as
 induction as with
 |nil=>intro _;rfl
 |cons a r ih=>intro h;simp only[elemsV];rw[ev_local h.left,ih h.right]
theorem partsV_local: ∀ {as:List (Nat × Nat × IArg)},AgreeE (tmpsP as) e e'→partsV e' as=partsV e as:=by
 intro as
 induction as with
 |nil=>intro _;rfl
 |cons a r ih=>intro h;obtain⟨x,y,a⟩:=a;simp only[partsV];rw[ev_local h.left,ih h.right]
theorem boundOf_local{d:Nat}{a:Option IArg}(h:AgreeE (tmpsO a) e e'):boundOf e' d a=boundOf e d a:=by
 cases a with
 |none=>rfl
 |some a=>simp only[boundOf];rw[ev_local h]
theorem fnOf_local{a:IArg}(h:AgreeE a.tmps e e'):fnOf e' a=fnOf e a:=by
 unfold fnOf;rw[ev_local h]
theorem plan_env{sh:Nat→Bool}{blk:Blk}{p:IOp}(h:AgreeE p.tmps e e'):plan sh e' blk p=plan sh e blk p:=by
 cases p with
 |mov x=>simp only[plan,ev_local (a:=x) h]
 |pick c a b=>simp only[plan,ev_local (a:=c) h.left.left,ev_local (a:=a) h.left.right,ev_local (a:=b) h.right]
 |alloc s z=>rfl
 |box s x=>simp only[plan,ev_local (a:=x) h]
 |build z ps=>simp only[plan,partsV_local (as:=ps) h]
 |bslice s ty sz ps=>simp only[plan,elemsV_local (as:=ps) h]
 |load k x=>simp only[plan,ev_local (a:=x) h]
 |store n a x=>simp only[plan,ev_local (a:=a) h.left,ev_local (a:=x) h.right]
 |nilchk x=>simp only[plan,ev_local (a:=x) h]
 |bin op x y=>simp only[plan,ev_local (a:=x) h.left,ev_local (a:=y) h.right]
 |eqc k n x y=>simp only[plan,ev_local (a:=x) h.left,ev_local (a:=y) h.right]
 |un op x=>simp only[plan,ev_local (a:=x) h]
 |conv k x=>simp only[plan,ev_local (a:=x) h]
 |bstr x=>simp only[plan,ev_local (a:=x) h]
 |mkfn f a b=>simp only[plan,onesC_local (as:=a) h.left,onesC_local (as:=b) h.right]
 |mkmap s ag=>rfl
 |mkslice s ty sz bytes z l c=>simp only[plan,ev_local (a:=l) h.left,ev_local (a:=c) h.right]
 |slice sz x lo hi=>simp only[plan,ev_local (a:=x) h.left.left,boundOf_local (a:=lo) h.left.right,boundOf_local (a:=hi) h.right]
 |sslice x lo hi=>simp only[plan,ev_local (a:=x) h.left.left,boundOf_local (a:=lo) h.left.right,boundOf_local (a:=hi) h.right]
 |faddr off x=>simp only[plan,ev_local (a:=x) h]
 |iaddr sz x i=>simp only[plan,ev_local (a:=x) h.left,ev_local (a:=i) h.right]
 |aaddr l sz x i=>simp only[plan,ev_local (a:=x) h.left,ev_local (a:=i) h.right]
 |fld off k x=>simp only[plan,ev_local (a:=x) h]
 |aidx l sz k x i=>simp only[plan,ev_local (a:=x) h.left,ev_local (a:=i) h.right]
 |sidx x i=>simp only[plan,ev_local (a:=x) h.left,ev_local (a:=i) h.right]
 |lookup kd z ag ok x k=>simp only[plan,ev_local (a:=x) h.left,ev_local (a:=k) h.right]
 |mupd kd ag m k v=>simp only[plan,ev_local (a:=m) h.left.left,ev_local (a:=k) h.left.right,ev_local (a:=v) h.right]
 |bad=>rfl
 |extract x i=>simp only[plan,ev_local (a:=x) h]
 |call s f as=>simp only[plan,fnOf_local (a:=f) h.left,evs_local (as:=as) h.right]
 |slen x=>simp only[plan,ev_local (a:=x) h]
 |llen x=>simp only[plan,ev_local (a:=x) h]
 |mlen x=>simp only[plan,ev_local (a:=x) h]
 |append s ty sz b x y=>simp only[plan,ev_local (a:=x) h.left,ev_local (a:=y) h.right]
 |max x y=>simp only[plan,ev_local (a:=x) h.left,ev_local (a:=y) h.right]
 |min x y=>simp only[plan,ev_local (a:=x) h.left,ev_local (a:=y) h.right]
 |clear z x=>simp only[plan,ev_local (a:=x) h]
end
section
variable {b b':Blk}
theorem collect_local{α β:Type}{f g:α→Option (β × List Nat)}(hf: ∀ x y r,f x=some (y,r)→AgreeB r b b'→g x=some (y,r)): ∀ {xs:List α} {ys:List β} {r:List Nat},collect f xs=some (ys,r)→AgreeB r b b'→collect g xs=some (ys,r):=by
 intro xs
 induction xs with
 |nil=>intro ys r h _;exact h
 |cons x xs ih=>
  intro ys r h ha;simp only[collect] at h ⊢;split at h
  ·rename_i y p bs q e1 e2;cases h
   rw[hf _ _ _ e1 ha.left,ih e2 ha.right]
  ·cases h
theorem snap_local: ∀ (n:Nat) (c:C) (x:PV) (r:List Nat),snap b n c=some (x,r)→AgreeB r b b'→snap b' n c=some (x,r):=by
 intro n
 induction n with
 |zero=>intro c x r h;simp[snap] at h
 |succ n ih=>
  intro c x r h ha;cases c with
  |p v=>exact h
  |href id g off=>
   have hid:id∈r:=by
    simp only[snap] at h
    (repeat' split at h)<;>first
     |cases h
     |skip
    all_goals simp
   have hb:=ha id hid;simp only[snap] at h ⊢;rw[hb];split at h
   ·split at h
    ·rename_i hg;rw[if_pos hg];split at h
     ·rename_i hc;cases h
      rw[collect_local ih hc (fun i hi=>ha i (by simp[hi]))]
     ·cases h
    ·cases h
   ·exact h
   ·cases h
  |hel id g i off=>
   have hid:id∈r:=by
    simp only[snap,Option.map_eq_some_iff] at h
    (repeat' split at h)<;>first
     |cases h
     |skip
    all_goals(simp only[Option.map_eq_some_iff] at h;obtain⟨e,_,h⟩:=h;cases h;simp)
   have hb:=ha id hid;simp only[snap] at h ⊢;rw[hb];exact h
  |hsl id g z off len=>
   have hid:id∈r:=by
    simp only[snap] at h
    (repeat' split at h)<;>first
     |cases h
     |skip
    all_goals simp
   have hb:=ha id hid;simp only[snap] at h ⊢;rw[hb];split at h
   ·exact h
   ·exact h
   ·split at h
    ·rename_i hg;rw[if_pos hg];split at h
     ·rename_i hc;cases h
      rw[collect_local (fun _ _ _ p q=>collect_local ih p q) hc (fun i hi=>ha i (by simp[hi]))]
     ·cases h
    ·cases h
   ·cases h
  |hmap id g=>
   have hid:id∈r:=by
    simp only[snap] at h
    (repeat' split at h)<;>first
     |cases h
     |skip
    all_goals simp
   have hb:=ha id hid;simp only[snap] at h ⊢;rw[hb];exact h
  |hfn f x y=>
   simp only[snap] at h ⊢;split at h
   ·rename_i h1 h2;cases h
    rw[collect_local ih h1 ha.left,collect_local ih h2 ha.right]
   ·cases h
theorem snapV_local(x y:V)(r:List Nat)(h:snapV b x=some (y,r))(ha:AgreeB r b b'):snapV b' x=some (y,r):=by
 cases x with
 |undef=>simp[snapV] at h
 |tup _=>simp[snapV] at h
 |one c=>
  simp only[snapV,Option.map_eq_some_iff] at h ⊢;obtain⟨⟨p,q⟩,h1,h2⟩:=h;cases h2
  exact⟨_,snap_local _ _ _ _ h1 ha,rfl⟩
 |agg cs=>
  simp only[snapV,Option.map_eq_some_iff] at h ⊢;obtain⟨⟨p,q⟩,h1,h2⟩:=h;cases h2
  exact⟨_,collect_local (snap_local _) h1 ha,rfl⟩
theorem snapVs_local{xs ys:List V}{r:List Nat}(h:snapVs b xs=some (ys,r))(ha:AgreeB r b b'):snapVs b' xs=some (ys,r):=collect_local snapV_local h ha
theorem frz1_local{all:List Nat}{id:Nat}{u:List Upd}(h:frz1 b all id=some u)(hid:id∈all)(ha:AgreeB all b b'):frz1 b' all id=some u:=by
 have hb:=ha id hid;unfold frz1 at h ⊢;rw[hb];split at h
 ·split at h
  ·rename_i ps r hc;split at h
   ·rename_i hr;have hr':AgreeB r b b':=fun i hi=>ha i (by have:=List.all_eq_true.1 hr i hi;simpa using this)
    rw[collect_local (snap_local _) hc hr'];simp only;rw[if_pos hr];exact h
   ·cases h
  ·cases h
 ·exact h
 ·split at h
  ·rename_i ps r hc;split at h
   ·rename_i hr;have hr':AgreeB r b b':=fun i hi=>ha i (by have:=List.all_eq_true.1 hr i hi;simpa using this)
    rw[collect_local (fun _ _ _ p q=>collect_local (snap_local _) p q) hc hr'];simp only;rw[if_pos hr];exact h
   ·cases h
  ·cases h
 ·exact h
 ·cases h
 ·exact h
theorem frzL_local{all:List Nat}(ha:AgreeB all b b'): ∀ {ids:List Nat} {u:List Upd},(∀ i∈ids,i∈all)→frzL b all ids=some u→frzL b' all ids=some u:=by
 intro ids
 induction ids with
 |nil=>intro u _ h;exact h
 |cons i r ih=>
  intro u hs h;simp only[frzL] at h ⊢;split at h
  ·rename_i x y h1 h2;cases h
   rw[frz1_local h1 (hs i (by simp)) ha,ih (fun j hj=>hs j (by simp[hj])) h2]
  ·cases h
theorem frz_local{ids:List Nat}{u:List Upd}(h:frz b ids=some u)(ha:AgreeB ids b b'):frz b' ids=some u:=frzL_local ha (fun _ h=>h) h
theorem inC_local{site:Nat}{r:RC}(h:AgreeB ((inC b site r).2.map (·.1)) b b'):inC b' site r=inC b site r:=by
 cases r with
 |p x=>rfl
 |own ty sz es=>simp only[inC];rw[h site (by simp[inC])]
theorem inCs_local: ∀ {rs:List RC} {site:Nat},AgreeB ((inCs b site rs).2.map (·.1)) b b'→inCs b' site rs=inCs b site rs:=by
 intro rs
 induction rs with
 |nil=>intro site _;rfl
 |cons r rs ih=>
  intro site h;simp only[inCs,List.map_append] at h ⊢;rw[inC_local h.left,ih h.right]
theorem inV_local{site:Nat}{r:RV}(h:AgreeB ((inV b site r).2.map (·.1)) b b'):inV b' site r=inV b site r:=by
 unfold inV at h ⊢;simp only at h;rw[inCs_local h]
theorem land_local{rd:List Nat}{site:Nat}{r:RV}{v:V}{u:List Upd}(h:land b rd site r=some (v,u))(ha:AgreeB rd b b')(hu:AgreeB (u.map (·.1)) b b'):land b' rd site r=some (v,u):=by
 unfold land at h ⊢;split at h
 ·rename_i hc;rw[if_pos hc];cases h
  rw[inV_local hu];rfl
 ·rename_i hc;rw[if_neg hc];split at h
  ·rename_i fu hf;cases h
   rw[frz_local hf ha];simp only;rw[List.map_append] at hu;rw[inV_local hu.right]
  ·cases h
theorem rdAt_local{x:V}{cs:List C}{r:List Nat}(h:rdAt b x=some (cs,r))(ha:AgreeB r b b'):rdAt b' x=some (cs,r):=by
 have key: ∀ id,(id∈r→b' id=b id):=fun id hid=>ha id hid
 unfold rdAt at h ⊢;split at h
 ·exact h
 ·rename_i id g off;have hid:id∈r:=by
   (repeat' split at h)<;>first
    |cases h
    |skip
   all_goals simp
  simp only[key id hid];exact h
 ·rename_i id g i off;have hid:id∈r:=by
   (repeat' split at h)<;>first
    |cases h
    |skip
   all_goals(simp only[Option.map_eq_some_iff] at h;obtain⟨e,_,h⟩:=h;cases h;simp)
  simp only[key id hid];exact h
 ·cases h
theorem lenM_local{x:V}{n:Nat}{r:List Nat}(h:lenM b x=some (n,r))(ha:AgreeB r b b'):lenM b' x=some (n,r):=by
 have key: ∀ id,(id∈r→b' id=b id):=fun id hid=>ha id hid
 unfold lenM at h ⊢;split at h
 ·exact h
 ·exact h
 ·rename_i id g;have hid:id∈r:=by
   (repeat' split at h)<;>first
    |cases h
    |skip
   all_goals simp
  simp only[key id hid];exact h
 ·cases h
theorem mapOf_local{ag:Bool}{x:V}{es:List (PV × List PV)}{r:List Nat}(h:mapOf b ag x=some (es,r))(ha:AgreeB r b b'):mapOf b' ag x=some (es,r):=by
 have key: ∀ id,(id∈r→b' id=b id):=fun id hid=>ha id hid
 unfold mapOf at h ⊢;split at h
 ·exact h
 ·exact h
 ·rename_i id g;have hid:id∈r:=by
   (repeat' split at h)<;>first
    |cases h
    |skip
   all_goals simp
  simp only[key id hid];exact h
 ·cases h
theorem elemsOf_local{x:V}{es:List (List PV)}{r fr:List Nat}(h:elemsOf b x=some (es,r,fr))(ha:AgreeB r b b')(hf:AgreeB fr b b'):elemsOf b' x=some (es,r,fr):=by
 have key: ∀ id,(id∈r→b' id=b id):=fun id hid=>ha id hid
 unfold elemsOf at h ⊢;split at h
 ·exact h
 ·exact h
 ·rename_i id g z off len;have hid:id∈r:=by
   (repeat' split at h)<;>first
    |cases h
    |skip
   all_goals simp
  simp only[key id hid];split at h
  ·exact h
  ·exact h
  ·split at h
   ·rename_i hc;rw[if_pos hc];split at h
    ·rename_i h1;cases h
     rw[collect_local (fun _ _ _ p q=>collect_local (snap_local _) p q) h1 hf]
    ·cases h
   ·cases h
  ·exact h
 ·cases h
theorem wrAt_local{a:V}{n:Nat}{xs:List C}{v:V}{u:List Upd}{r:List Nat}(h:wrAt b a n xs= .done v u r)(ha:AgreeB r b b'):wrAt b' a n xs= .done v u r:=by
 have key: ∀ id,(id∈r→b' id=b id):=fun id hid=>ha id hid
 unfold wrAt at h ⊢;split at h
 ·cases h
 ·rename_i hn;rw[if_neg hn];split at h
  ·rename_i id g off;have hid:id∈r:=by
    (repeat' split at h)<;>first
     |cases h
     |skip
    all_goals simp
   simp only[key id hid];exact h
  ·rename_i id g i off;have hid:id∈r:=by
    (repeat' split at h)<;>first
     |cases h
     |skip
    all_goals simp
   simp only[key id hid];exact h
  ·cases h
theorem append_local{site ty sz bytes:Nat}{s x v:V}{u:List Upd}{r:List Nat}(h:planAppend b site ty sz bytes s x= .done v u r)(ha:AgreeB r b b'):planAppend b' site ty sz bytes s x= .done v u r:=by
 unfold planAppend at h ⊢;split at h
 ·cases h
 ·rename_i new rd fr hel;split at h
  ·cases h
  ·rename_i hsz;split at h
   ·cases h
   ·rename_i fu hfu;have sub: ∀ {l:List Nat},(∀ i∈l,i∈r)→AgreeB l b b':=fun hl i hi=>ha i (hl i hi)
    split at h
    ·split at h
     ·rename_i hn;cases h
      rw[elemsOf_local hel ha.left ha.right];simp only;rw[if_neg hsz,frz_local hfu ha.right];simp only;rw[if_pos hn]
     ·rename_i hn;split at h
      ·rename_i hr;cases h
       rw[elemsOf_local hel (sub fun i hi=>by simp[hi]) (sub fun i hi=>by simp[hi])];simp only;rw[if_neg hsz,frz_local hfu (sub fun i hi=>by simp[hi])];simp only;rw[if_neg hn,if_pos hr,ha site (by simp)]
      ·cases h
    ·rename_i id g z len;split at h
     ·rename_i g' ty' sz' es hb;split at h
      ·rename_i hr;cases h
       rw[elemsOf_local hel (sub fun i hi=>by simp[hi]) (sub fun i hi=>by simp[hi])];simp only;rw[if_neg hsz,frz_local hfu (sub fun i hi=>by simp[hi])];simp only;have h1:=ha id (by simp);rw[hb] at h1;simp only[h1];rw[if_pos hr,ha site (by simp)]
      ·cases h
     ·cases h
    ·cases h
end
theorem plan_done{sh:Nat→Bool}{e:Env}{b b':Blk}{p:IOp}{v:V}{u:List Upd}{r:List Nat}(h:plan sh e b p= .done v u r)(ha:AgreeB r b b'):plan sh e b' p= .done v u r:=by
 cases p with
 |alloc s z=>simp only[plan,Plan.done.injEq] at h ⊢;obtain⟨h1,h2,h3⟩:=h;rw[ha s (by rw[← h3];simp)];exact⟨h1,h2,h3⟩
 |mkmap s ag=>simp only[plan,Plan.done.injEq] at h ⊢;obtain⟨h1,h2,h3⟩:=h;rw[ha s (by rw[← h3];simp)];exact⟨h1,h2,h3⟩
 |box s x=>
  simp only[plan] at h ⊢;split at h
  ·cases h;rw[ha s (by simp)]
  ·cases h
 |bslice s ty sz ps=>
  simp only[plan] at h ⊢;split at h
  ·split at h
   ·cases h;rw[ha s (by simp)]
   ·cases h;rw[ha s (by simp)]
  ·cases h
 |mkslice s ty sz bytes z l c=>
  simp only[plan] at h ⊢;split at h
  ·split at h
   ·rename_i hc;cases h;rw[if_pos hc,ha s (by simp)]
   ·cases h
  ·cases h
 |load k x=>
  simp only[plan] at h ⊢;split at h
  ·rename_i cs q hq;split at h
   ·rename_i v' hv;cases h
    rw[rdAt_local hq ha];simp only[hv]
   ·cases h
  ·cases h
 |store n a x=>
  simp only[plan] at h ⊢;split at h
  ·exact wrAt_local h ha
  ·cases h
 |bstr x=>
  simp only[plan] at h ⊢;split at h
  ·rename_i es q hq;split at h
   ·rename_i bs hb;cases h
    rw[elemsOf_local hq ha (fun i hi=>by simp at hi)];simp only[hb]
   ·cases h
  ·cases h
 |lookup kd z ag ok x k=>
  simp only[plan] at h ⊢;split at h
  ·rename_i es q key hm hk;split at h
   ·cases h
   ·rename_i hkd;split at h
    ·rename_i f hf;split at h
     ·rename_i w hw;cases h
      rw[mapOf_local hm ha,hk];simp only;rw[if_neg hkd];simp only[hf,hw]
     ·cases h
    ·cases h
  ·cases h
 |clear z x=>
  simp only[plan] at h ⊢;split at h
  ·cases h;rfl
  ·cases h;rfl
  ·rename_i id g w off len e;split at h
   ·rename_i h0;cases h
    simp only[h0,if_true]
   ·rename_i h0;split at h
    ·rename_i g' ty sz es h4;split at h
     ·rename_i hc;cases h
      have hb:=ha id (by simp);rw[h4] at hb;rw[if_neg h0];simp only[hb];rw[if_pos hc]
     ·cases h
    ·cases h
  ·cases h
 |mupd kd ag m k v=>
  simp only[plan] at h ⊢;split at h
  ·rename_i id g q cs h1 h2 h3;split at h
   ·rename_i g' ag' es ps h4 h5;split at h
    ·rename_i hc;split at h
     ·rename_i i w hf;cases h
      have hb:=ha id (by simp);rw[h4] at hb;simp only[hb,h5];rw[if_pos hc];simp only[hf]
     ·rename_i hf;cases h
      have hb:=ha id (by simp);rw[h4] at hb;simp only[hb,h5];rw[if_pos hc];simp only[hf]
     ·cases h
    ·cases h
   ·cases h
  ·cases h
 |mlen x=>
  simp only[plan] at h ⊢;split at h
  ·rename_i n q hq;cases h
   rw[lenM_local hq ha]
  ·cases h
 |append s ty sz bytes x y=>exact append_local h ha
 |call s f as=>
  simp only[plan] at h
  (repeat' split at h)<;>cases h
 |_=>exact h
theorem plan_pc{sh:Nat→Bool}{e:Env}{b b':Blk}{p:IOp}{f s:Nat}{vs:List V}{r:List Nat}(h:plan sh e b p= .pc f vs r s)(ha:AgreeB r b b'):plan sh e b' p= .pc f vs r s:=by
 cases p with
 |call s f as=>
  simp only[plan] at h ⊢;split at h
  ·split at h
   ·cases h
   ·rename_i hsh;rw[if_neg hsh];split at h
    ·rename_i hs;cases h
     rw[snapVs_local hs ha]
    ·cases h
  ·cases h
 |_=>
  (simp only[plan,wrAt,planAppend,planSlice,reduceCtorEq] at h)<;>(repeat' split at h)<;>cases h
theorem plan_sc{sh:Nat→Bool}{e:Env}{b b':Blk}{p:IOp}{f:Nat}{vs:List V}(h:plan sh e b p= .sc f vs):plan sh e b' p= .sc f vs:=by
 cases p with
 |call s f as=>
  simp only[plan] at h ⊢;split at h
  ·split at h
   ·rename_i hsh;rw[if_pos hsh];exact h
   ·split at h<;>cases h
  ·cases h
 |_=>
  (simp only[plan,wrAt,planAppend,planSlice,reduceCtorEq] at h)<;>(repeat' split at h)<;>cases h
theorem app_at: ∀ (u:List Upd) (b b':Blk) (id:Nat),id∈u.map (·.1)→app u b id=app u b' id:=by
 intro u
 induction u with
 |nil=>intro b b' id h;simp at h
 |cons x u ih=>
  intro b b' id h;obtain⟨i,o⟩:=x;simp only[app];by_cases hu:id∈u.map (·.1)
  ·exact ih _ _ _ hu
  ·have hi:id=i:=by simpa [hu] using h
   have key: ∀ (u:List Upd) (b:Blk),id∉u.map (·.1)→app u b id=b id:=by
    intro u
    induction u with
    |nil=>intro b _;rfl
    |cons x u ih=>
     intro b h;obtain⟨j,o⟩:=x;simp only[List.map_cons,List.mem_cons,not_or] at h;simp only[app];rw[ih _ h.2,upd_apply,if_neg h.1]
   rw[key u _ hu,key u _ hu,upd_apply,upd_apply,if_pos hi,if_pos hi]
theorem app_off: ∀ (u:List Upd) (b:Blk) (id:Nat),id∉u.map (·.1)→app u b id=b id:=by
 intro u
 induction u with
 |nil=>intro b id _;rfl
 |cons x u ih=>
  intro b id h;obtain⟨j,o⟩:=x;simp only[List.map_cons,List.mem_cons,not_or] at h;simp only[app];rw[ih _ _ h.2,upd_apply,if_neg h.1]
theorem wanted_local{e e':Env}{g:Option (Nat × Bool)}(h: ∀ t w,g=some (t,w)→e' t=e t):wanted e' g=wanted e g:=by
 cases g with
 |none=>rfl
 |some q=>obtain⟨t,w⟩:=q;simp only[wanted,h t w rfl]
def Eff.writes(f:Eff)(id:Nat):Bool:=f.wr.contains id||f.fs.contains (siteFn id)
def Eff.touch(f:Eff)(id:Nat):Bool:=f.rd.contains id||f.writes id
theorem reachC_local{b b':Blk}: ∀ (n:Nat) (c:C),AgreeB (reachC b n c) b b'→reachC b' n c=reachC b n c:=by
 intro n
 induction n with
 |zero=>intro c _;rfl
 |succ n ih=>
  have many: ∀ (cs:List C),AgreeB (cs.map (reachC b n)).flatten b b'→(cs.map (reachC b' n)).flatten=(cs.map (reachC b n)).flatten:=by
   intro cs
   induction cs with
   |nil=>intro _;rfl
   |cons c cs ihc=>
    intro h;simp only[List.map_cons,List.flatten_cons] at h ⊢;rw[ih c h.left,ihc h.right]
  intro c h;cases c with
  |p v=>rfl
  |href id g off=>
   simp only[reachC] at h ⊢;have hb:=h id (by simp);rw[hb];split
   ·rename_i cs hbe;rw[hbe] at h;rw[many cs (fun i hi=>h i (by simp only[List.mem_cons];exact .inr hi))]
   ·rfl
  |hel id g i off=>
   simp only[reachC] at h ⊢;have hb:=h id (by simp);rw[hb];split
   ·rename_i cs hbe;rw[hbe] at h;rw[many _ (fun i hi=>h i (by simp only[List.mem_cons];exact .inr hi))]
   ·rfl
  |hsl id g z off len=>
   simp only[reachC] at h ⊢;have hb:=h id (by simp);rw[hb];split
   ·rename_i cs hbe;rw[hbe] at h;rw[many _ (fun i hi=>h i (by simp only[List.mem_cons];exact .inr hi))]
   ·rfl
  |hmap id g=>rfl
  |hfn f x y=>
   simp only[reachC] at h ⊢;rw[many x h.left,many y h.right]
theorem reachV_local{b b':Blk}(v:V)(h:AgreeB (reachV b v) b b'):reachV b' v=reachV b v:=by
 cases v with
 |undef=>rfl
 |tup _=>rfl
 |one c=>exact reachC_local _ _ h
 |agg cs=>
  simp only[reachV] at h ⊢
  induction cs with
  |nil=>rfl
  |cons c cs ih=>
   simp only[List.map_cons,List.flatten_cons] at h ⊢;rw[reachC_local _ c h.left,ih h.right]
theorem allow_local{sh:Ctx}{f:Nat}{vs:List V}{b b':Blk}(h:AgreeB (allow sh f vs b).ids b b'):allow sh f vs b'=allow sh f vs b:=by
 have:(vs.map (reachV b')).flatten=(vs.map (reachV b)).flatten:=by
  unfold allow at h;simp only at h
  induction vs with
  |nil=>rfl
  |cons v vs ih=>
   simp only[List.map_cons,List.flatten_cons] at h ⊢;rw[reachV_local v h.left,ih h.right]
 unfold allow;rw[this]
def SLocal(cs:SCall):Prop:= ∀ f vs al blk v blk',cs f vs al blk=some (v,blk')→(∀ id,al.ok id=false→blk' id=blk id)∧
 ∀ blk2,(∀ id,al.ok id=true→blk2 id=blk id)→ ∃ blk2',cs f vs al blk2=some (v,blk2')∧ ∀ id,blk2' id=if al.ok id then blk' id else blk2 id
theorem oks_spec{al:Al}{l:List Nat}(h:al.oks l=true){id:Nat}(hid:id∈l):al.ok id=true:=List.all_eq_true.1 h id hid
theorem holds_spec{a b:Al}(hb:b.any=false)(h:a.holds b=true){id:Nat}(hid:b.ok id=true):a.ok id=true:=by
 unfold Al.holds at h;simp only[Bool.or_eq_true,Bool.and_eq_true] at h;rcases h with h|⟨h1,h2⟩
 ·simp[Al.ok,h]
 ·simp only[Al.ok,hb,Bool.false_or,Bool.or_eq_true] at hid;rcases hid with hid|hid
  ·exact oks_spec h1 (by simpa using hid)
  ·have:=List.all_eq_true.1 h2 (siteFn id) (by simpa using hid);simp only[Al.ok,Bool.or_eq_true];exact .inr this
theorem step1_local{sh:Ctx}{cp:PCall}{cs:SCall}(hcs:SLocal cs){o:IOper}{env env':Env}{blk blk':Blk}{f:Eff}(h:step1 sh cp cs o env blk=some (env',blk',f)):
  ∃ v,env'=put env o.dst v∧(∀ id,f.writes id=false→blk' id=blk id)∧(∀ id,f.touch id=true→sh.al.ok id=true)∧
   ∀ (env2:Env) (blk2:Blk),AgreeE o.uses env env2→(∀ id,f.touch id=true→blk2 id=blk id)→
    ∃ blk2',step1 sh cp cs o env2 blk2=some (put env2 o.dst v,blk2',f)∧ ∀ id,blk2' id=if f.writes id then blk' id else blk2 id:=by
 have huse: ∀ (env2:Env),AgreeE o.uses env env2→AgreeE o.op.tmps env env2∧wanted env2 o.guard=wanted env o.guard:=by
  intro env2 h;unfold IOper.uses at h;exact⟨h.left,wanted_local fun t w hg=>h.right t (by rw[hg];simp)⟩
 have hwr: ∀ (r w:List Nat) (id:Nat),(⟨r,w,[]⟩:Eff).writes id=w.contains id:=by intro r w id;simp[Eff.writes]
 have hto: ∀ (r w:List Nat) (id:Nat),(⟨r,w,[]⟩:Eff).touch id=true↔id∈r∨id∈w:=by intro r w id;simp[Eff.touch,Eff.writes]
 have hupd: ∀ (u:List Upd) (b b2:Blk) (r:List Nat) (id:Nat),app u b2 id=if (⟨r,u.map (·.1),[]⟩:Eff).writes id then app u b id else b2 id:=by
  intro u b b2 r id;rw[hwr];by_cases hid:id∈u.map (·.1)
  ·rw[if_pos (by simpa using hid)];exact app_at _ _ _ _ hid
  ·rw[if_neg (by simpa using hid)];exact app_off _ _ _ hid
 unfold step1 at h;split at h
 ·cases h
 ·rename_i hw;cases h
  refine⟨.undef,rfl,fun _ _=>rfl,fun id hid=>by simp[Eff.touch,Eff.writes] at hid,fun env2 blk2 he hb=>⟨blk2,?_,fun id=>by simp[Eff.writes]⟩⟩;unfold step1;rw[(huse env2 he).2,hw]
 ·rename_i hw;split at h
  ·cases h
  ·rename_i v u r hp;split at h
   ·rename_i hok;cases h
    refine⟨v,rfl,fun id hid=>app_off _ _ _ (by rw[hwr] at hid;simpa using hid),fun id hid=>oks_spec hok (by have:=(hto _ _ _).1 hid;simpa using this),fun env2 blk2 he hb=>⟨app u blk2,?_,fun id=>hupd _ _ _ _ _⟩⟩;unfold step1;rw[(huse env2 he).2,hw];simp only;rw[plan_env (huse env2 he).1,plan_done hp fun id hid=>hb id ((hto _ _ _).2 (.inl hid))];simp only;rw[if_pos hok]
   ·cases h
  ·rename_i g vs r s hp;split at h
   ·rename_i x hx;split at h
    ·rename_i v u hl;split at h
     ·rename_i hok;cases h
      refine⟨v,rfl,fun id hid=>app_off _ _ _ (by rw[hwr] at hid;simpa using hid),fun id hid=>oks_spec hok (by have:=(hto _ _ _).1 hid;simp at this ⊢;rcases this with h|h<;>simp[h]),fun env2 blk2 he hb=>⟨app u blk2,?_,fun id=>hupd _ _ _ _ _⟩⟩;unfold step1;rw[(huse env2 he).2,hw];simp only;rw[plan_env (huse env2 he).1,plan_pc hp fun id hid=>hb id ((hto _ _ _).2 (.inl (by simp[hid])))];simp only[hx];rw[land_local hl (fun id hid=>hb id ((hto _ _ _).2 (.inl (by simp[hid])))) fun id hid=>hb id ((hto _ _ _).2 (.inr hid))];simp only;rw[if_pos hok]
     ·cases h
    ·cases h
   ·cases h
  ·rename_i g vs hp;split at h
   ·rename_i hok;split at h
    ·rename_i v b1 hx;cases h
     have hal: ∀ id,(⟨(allow sh g vs blk).ids,(allow sh g vs blk).ids,(allow sh g vs blk).fs⟩:Eff).writes id=(allow sh g vs blk).ok id:=by
      intro id;simp[Eff.writes,Al.ok,allow]
     have hal2: ∀ id,(⟨(allow sh g vs blk).ids,(allow sh g vs blk).ids,(allow sh g vs blk).fs⟩:Eff).touch id=(allow sh g vs blk).ok id:=by
      intro id;simp only[Eff.touch,hal];simp only[Al.ok];cases (allow sh g vs blk).ids.contains id<;>simp
     obtain⟨l1,l2⟩:=hcs _ _ _ _ _ _ hx;refine⟨v,rfl,fun id hid=>l1 id (by rw[← hal];exact hid),fun id hid=>holds_spec rfl hok (by rw[← hal2];exact hid),fun env2 blk2 he hb=> ?_⟩;obtain⟨blk2',g1,g2⟩:=l2 blk2 fun id hid=>hb id (by rw[hal2];exact hid)
     have hloc:allow sh g vs blk2=allow sh g vs blk:=allow_local fun id hid=>hb id (by rw[hal2];simp[Al.ok,hid])
     refine⟨blk2',?_,fun id=>by rw[hal];exact g2 id⟩;unfold step1;rw[(huse env2 he).2,hw];simp only;rw[plan_env (huse env2 he).1,plan_sc hp];simp only[hloc];rw[if_pos hok];simp only[g1]
    ·cases h
   ·cases h
theorem put_swap(env:Env){d d':Option Nat}(v v':V)(h: ∀ t,d=some t→d'≠some t):put (put env d v) d' v'=put (put env d' v') d v:=by
 cases d with
 |none=>rfl
 |some t=>
  cases d' with
  |none=>rfl
  |some t'=>
   have hne:t'≠t:=fun e=>h t rfl (by rw[e])
   funext x;simp only[put,upd_apply];by_cases h1:x=t
   ·subst h1;rw[if_pos rfl,if_neg (fun e=>hne e.symm),if_pos rfl]
   ·rw[if_neg h1,if_neg h1]
theorem put_off{env:Env}{d:Option Nat}{v:V}{t:Nat}(h:d≠some t):put env d v t=env t:=by
 cases d with
 |none=>rfl
 |some x=>simp only[put,upd_apply];rw[if_neg (fun e=>h (by rw[e]))]
theorem meets_false{a b:List Nat}(h:meets a b=false){i:Nat}(ha:i∈a):i∉b:=by
 intro hb;have:meets a b=true:=by simp only[meets,List.any_eq_true];exact⟨i,ha,by simpa using hb⟩
 rw[h] at this;cases this
theorem inFs_false{fs ids:List Nat}(h:inFs fs ids=false){i:Nat}(hi:i∈ids):siteFn i∉fs:=by
 intro hf;have:inFs fs ids=true:=by simp only[inFs,List.any_eq_true];exact⟨i,hi,by simpa using hf⟩
 rw[h] at this;cases this
theorem clash_spec{a b:Eff}(h:clash a b=false)(id:Nat):(a.writes id=true→b.touch id=false)∧(b.writes id=true→a.touch id=false):=by
 simp only[clash,Bool.or_eq_false_iff] at h;obtain⟨⟨⟨⟨⟨c1,c2⟩,c3⟩,c4⟩,c5⟩,c6⟩:=h;have sw: ∀ {x y:List Nat},meets x y=false→meets y x=false:=by
  intro x y h;cases he:meets y x with
  |false=>rfl
  |true=>
   simp only[meets,List.any_eq_true] at he;obtain⟨i,h1,h2⟩:=he;exact absurd h1 (meets_false h (by simpa using h2))
 have one: ∀ {a b:Eff},meets a.wr b.rd=false→meets a.wr b.wr=false→meets a.fs b.fs=false→inFs a.fs (b.rd++b.wr)=false→inFs b.fs (a.rd++a.wr)=false→a.writes id=true→b.touch id=false:=by
  intro a b c1 c2 c4 c5 c6 hw;simp only[Eff.writes,Bool.or_eq_true] at hw;simp only[Eff.touch,Eff.writes,Bool.or_eq_false_iff];rcases hw with hw|hw
  ·have hw:id∈a.wr:=by simpa using hw
   exact⟨by simpa using meets_false c1 hw,by simpa using meets_false c2 hw,by simpa using inFs_false c6 (i:=id) (by simp[hw])⟩
  ·have hw:siteFn id∈a.fs:=by simpa using hw
   refine⟨?_,?_,?_⟩
   ·cases he:b.rd.contains id with
    |false=>rfl
    |true=>exact absurd hw (inFs_false c5 (i:=id) (by simp at he;simp[he]))
   ·cases he:b.wr.contains id with
    |false=>rfl
    |true=>exact absurd hw (inFs_false c5 (i:=id) (by simp at he;simp[he]))
   ·simpa using meets_false c4 hw
 exact⟨one c1 c2 c4 c5 c6,one (sw c3) (sw c2) (sw c4) c6 c5⟩
theorem swap{sh:Ctx}{cp:PCall}{cs:SCall}(hcs:SLocal cs){x y:IOper}{env env1 env2:Env}{blk blk1 blk2:Blk}{e1 e2:Eff}(hx:step1 sh cp cs x env blk=some (env1,blk1,e1))(hy:step1 sh cp cs y env1 blk1=some (env2,blk2,e2))
  (hf:free2 x y=true) (hc:clash e1 e2=false): ∃ envy blky,step1 sh cp cs y env blk=some (envy,blky,e2)∧step1 sh cp cs x envy blky=some (env2,blk2,e1):=by
 obtain⟨v1,rfl,fr1,_,loc1⟩:=step1_local hcs hx;obtain⟨v2,rfl,fr2,_,loc2⟩:=step1_local hcs hy;have hf1: ∀ t,x.dst=some t→t∉y.uses∧y.dst≠some t:=by
  intro t ht;simp only[free2,ht,Bool.and_eq_true] at hf;have h1:=hf.1;simp at h1;exact⟨by simpa using h1.1,h1.2⟩
 have hf2: ∀ t,y.dst=some t→t∉x.uses:=by
  intro t ht;simp only[free2,ht,Bool.and_eq_true] at hf;have h1:=hf.2
  simpa using h1
 have hcl:=clash_spec hc;have nw: ∀ {a b:Eff} {id:Nat},(a.writes id=true→b.touch id=false)→b.touch id=true→a.writes id=false:=by
  intro a b id h1 h2;cases h:a.writes id with
  |false=>rfl
  |true=>rw[h1 h] at h2;cases h2
 have wt: ∀ {a:Eff} {id:Nat},a.writes id=true→a.touch id=true:=by
  intro a id h;simp[Eff.touch,h]
 obtain⟨blky,hy2,yb⟩:=loc2 env blk (fun t ht=>(put_off fun e=>(hf1 t e).1 ht).symm) (fun id hid=>(fr1 id (nw (hcl id).1 hid)).symm);obtain⟨blkx,hx2,xb⟩:=loc1 (put env y.dst v2) blky (fun t ht=>put_off fun e=>hf2 t e ht) (fun id hid=>by
   rw[yb id,nw (hcl id).2 hid];rfl)
 refine⟨_,blky,hy2,?_⟩;rw[hx2,put_swap env v1 v2 fun t ht=>(hf1 t ht).2];have:blkx=blk2:=by
  funext id;rw[xb id,yb id];cases h1:e1.writes id with
  |true=>
   have h2:e2.writes id=false:=nw (hcl id).2 (wt h1);exact(fr2 id h2).symm
  |false=>
   cases h2:e2.writes id with
   |true=>rfl
   |false=>
    simp only[Bool.false_eq_true,if_false];rw[fr2 id h2,fr1 id h1]
 rw[this]
structure It where
 i:Nat
 io:IOper
 e:Eff
def apart2(x y:It):Prop:=free2 x.io y.io=true∧clash x.e y.e=false
theorem steps_cons{sh:Ctx}{cp:PCall}{cs:SCall}{o:IOper}{r:List IOper}{env env':Env}{blk blk':Blk}{e:Eff}{es:List Eff}(h:steps sh cp cs (o::r) env blk=some (env',blk',e::es)):
  ∃ env1 blk1,step1 sh cp cs o env blk=some (env1,blk1,e)∧steps sh cp cs r env1 blk1=some (env',blk',es):=by
 simp only[steps] at h;split at h
 ·rename_i env1 blk1 e1 h1;split at h
  ·rename_i env2 blk2 es2 h2;cases h
   exact⟨env1,blk1,h1,h2⟩
  ·cases h
 ·cases h
theorem steps_mk{sh:Ctx}{cp:PCall}{cs:SCall}{o:IOper}{r:List IOper}{env env1 env':Env}{blk blk1 blk':Blk}{e:Eff}{es:List Eff}(h1:step1 sh cp cs o env blk=some (env1,blk1,e))(h2:steps sh cp cs r env1 blk1=some (env',blk',es)):
  steps sh cp cs (o::r) env blk=some (env',blk',e::es):=by
 simp only[steps,h1,h2]
theorem to_front{sh:Ctx}{cp:PCall}{cs:SCall}(hcs:SLocal cs){y:It}{l2:List It}: ∀ {l1:List It} {env env':Env} {blk blk':Blk},steps sh cp cs ((l1++y::l2).map (·.io)) env blk=some (env',blk',(l1++y::l2).map (·.e))→(∀ x∈l1,apart2 x y)→
  ∃ env1 blk1,step1 sh cp cs y.io env blk=some (env1,blk1,y.e)∧steps sh cp cs ((l1++l2).map (·.io)) env1 blk1=some (env',blk',(l1++l2).map (·.e)):=by
 intro l1
 induction l1 with
 |nil=>intro env env' blk blk' h _;exact steps_cons h
 |cons x l1 ih=>
  intro env env' blk blk' h hap;obtain⟨envx,blkx,h1,h2⟩:=steps_cons h;obtain⟨envy,blky,h3,h4⟩:=ih h2 fun z hz=>hap z (by simp[hz])
  obtain⟨en1,bl1,h5,h6⟩:=swap hcs h1 h3 (hap x (by simp)).1 (hap x (by simp)).2;exact⟨en1,bl1,h5,steps_mk h6 h4⟩
def AgreeAl(al:Al)(b b2:Blk):Prop:= ∀ id,al.ok id=true→b2 id=b id
def Merge(al:Al)(b' b2 b2':Blk):Prop:= ∀ id,b2' id=if al.ok id then b' id else b2 id
def Frame(al:Al)(b b':Blk):Prop:= ∀ id,al.ok id=false→b' id=b id
theorem Merge.agree{al:Al}{b' b2 b2':Blk}(h:Merge al b' b2 b2'):AgreeAl al b' b2':=fun id hid=>by rw[h id,hid];rfl
theorem Merge.trans{al:Al}{b' b2 b2' b'' b2'':Blk}(h:Merge al b' b2 b2')(k:Merge al b'' b2' b2''):Merge al b'' b2 b2'':=fun id=>by
 rw[k id,h id];cases al.ok id<;>rfl
theorem Merge.refl{al:Al}{b b2:Blk}(h:AgreeAl al b b2):Merge al b b2 b2:=fun id=>by
 cases hid:al.ok id with
 |true=>exact h id hid
 |false=>rfl
theorem Frame.trans{al:Al}{b b' b'':Blk}(h:Frame al b b')(k:Frame al b' b''):Frame al b b'':=fun id hid=>(k id hid).trans (h id hid)
section
variable {sh:Ctx} {cp:PCall} {cs:SCall} (hcs:SLocal cs)
include hcs
theorem steps_al: ∀ {ops:List IOper} {env env':Env} {blk blk':Blk} {es:List Eff},steps sh cp cs ops env blk=some (env',blk',es)→Frame sh.al blk blk'∧
  ∀ blk2,AgreeAl sh.al blk blk2→ ∃ blk2',steps sh cp cs ops env blk2=some (env',blk2',es)∧Merge sh.al blk' blk2 blk2':=by
 intro ops
 induction ops with
 |nil=>
  intro env env' blk blk' es h;simp only[steps,Option.some.injEq,Prod.mk.injEq] at h;obtain⟨rfl,rfl,rfl⟩:=h;exact⟨fun _ _=>rfl,fun blk2 ha=>⟨blk2,rfl, .refl ha⟩⟩
 |cons o ops ih=>
  intro env env' blk blk' es h;simp only[steps] at h;split at h
  ·rename_i env1 blk1 e h1;split at h
   ·rename_i env2 blk2 es' h2;cases h
    obtain⟨v,rfl,fr,tw,loc⟩:=step1_local hcs h1;obtain⟨f2,g2⟩:=ih h2;have hw: ∀ id,sh.al.ok id=false→e.writes id=false:=by
     intro id hid;cases hh:e.writes id with
     |false=>rfl
     |true=>have:=tw id (by simp[Eff.touch,hh]);rw[hid] at this;cases this
    refine⟨Frame.trans (fun id hid=>fr id (hw id hid)) f2,fun b2 ha=> ?_⟩;obtain⟨b1,s1,m1⟩:=loc env b2 (fun _ _=>rfl) (fun id hid=>ha id (tw id hid));have hm1:Merge sh.al blk1 b2 b1:=by
     intro id;rw[m1 id];cases hid:sh.al.ok id with
     |true=>
      cases hh:e.writes id with
      |true=>rfl
      |false=>
       simp only[Bool.false_eq_true,if_false,if_true];rw[ha id hid,fr id hh]
     |false=>rw[hw id hid]
    obtain⟨b3,s2,m2⟩:=g2 b1 hm1.agree;exact⟨b3,by simp only[steps,s1,s2],hm1.trans m2⟩
   ·cases h
  ·cases h
theorem iter_al{c:Env→Blk→Option (AExit × Env × Blk)}(hc: ∀ {env env' blk blk' e},c env blk=some (e,env',blk')→Frame sh.al blk blk'∧ ∀ blk2,AgreeAl sh.al blk blk2→ ∃ blk2',c env blk2=some (e,env',blk2')∧Merge sh.al blk' blk2 blk2'):
  ∀ (k:Nat) {env env':Env} {blk blk':Blk} {e:AExit},iter c k env blk=some (e,env',blk')→Frame sh.al blk blk'∧ ∀ blk2,AgreeAl sh.al blk blk2→ ∃ blk2',iter c k env blk2=some (e,env',blk2')∧Merge sh.al blk' blk2 blk2':=by
 have _u0:=hcs;intro k
 induction k with
 |zero=>intro env env' blk blk' e h;simp[iter] at h
 |succ k ih=>
  intro env env' blk blk' e h;simp only[iter] at h;split at h
  ·rename_i env1 blk1 h1;obtain⟨f1,g1⟩:=hc h1;obtain⟨f2,g2⟩:=ih h;refine⟨f1.trans f2,fun b2 ha=> ?_⟩;obtain⟨b1,s1,m1⟩:=g1 b2 ha;obtain⟨b3,s2,m2⟩:=g2 b1 m1.agree;exact⟨b3,by simp only[iter,s1,s2],m1.trans m2⟩
  ·rename_i hne;obtain⟨f1,g1⟩:=hc h;refine⟨f1,fun b2 ha=> ?_⟩;obtain⟨b1,s1,m1⟩:=g1 b2 ha;refine⟨b1,?_,m1⟩;cases e with
   |normal=>exact(hne _ _ h).elim
   |exit i=>simp only[iter,s1]
   |ret=>simp only[iter,s1]
theorem exec_al{n:Nat}: ∀ (c:ICode) {env env':Env} {blk blk':Blk} {e:AExit},exec sh cp cs n c env blk=some (e,env',blk')→Frame sh.al blk blk'∧
  ∀ blk2,AgreeAl sh.al blk blk2→ ∃ blk2',exec sh cp cs n c env blk2=some (e,env',blk2')∧Merge sh.al blk' blk2 blk2':=by
 intro c
 induction c with
 |skip=>
  intro env env' blk blk' e h;simp only[exec,Option.some.injEq,Prod.mk.injEq] at h;obtain⟨rfl,rfl,rfl⟩:=h;exact⟨fun _ _=>rfl,fun b2 ha=>⟨b2,rfl, .refl ha⟩⟩
 |exit id=>
  intro env env' blk blk' e h;simp only[exec,Option.some.injEq,Prod.mk.injEq] at h;obtain⟨rfl,rfl,rfl⟩:=h;exact⟨fun _ _=>rfl,fun b2 ha=>⟨b2,rfl, .refl ha⟩⟩
 |ret=>
  intro env env' blk blk' e h;simp only[exec,Option.some.injEq,Prod.mk.injEq] at h;obtain⟨rfl,rfl,rfl⟩:=h;exact⟨fun _ _=>rfl,fun b2 ha=>⟨b2,rfl, .refl ha⟩⟩
 |bad=>intro env env' blk blk' e h;simp[exec] at h
 |region d ops=>
  intro env env' blk blk' e h;simp only[exec] at h;split at h
  ·rename_i env1 blk1 es h1;obtain⟨f1,g1⟩:=steps_al hcs h1;have he:(e,env',blk')=(AExit.normal,env1,blk1)∧(d=true→okDraw ops [] es=true):=by
    cases d with
    |false=>simp at h;exact⟨by simp[h],fun h=>by cases h⟩
    |true=>
     simp only[if_true] at h;split at h
     ·rename_i hd;cases h;exact⟨rfl,fun _=>hd⟩
     ·cases h
   obtain⟨he,hd⟩:=he;cases he
   refine⟨f1,fun b2 ha=> ?_⟩;obtain⟨b1,s1,m1⟩:=g1 b2 ha;refine⟨b1,?_,m1⟩;simp only[exec,s1];cases d with
   |false=>simp
   |true=>simp[hd rfl]
  ·cases h
 |seq a b iha ihb=>
  intro env env' blk blk' e h;simp only[exec] at h;split at h
  ·rename_i env1 blk1 h1;obtain⟨f1,g1⟩:=iha h1;obtain⟨f2,g2⟩:=ihb h;refine⟨f1.trans f2,fun b2 ha=> ?_⟩;obtain⟨b1,s1,m1⟩:=g1 b2 ha;obtain⟨b3,s2,m2⟩:=g2 b1 m1.agree;exact⟨b3,by simp only[exec,s1,s2],m1.trans m2⟩
  ·rename_i hne;obtain⟨f1,g1⟩:=iha h;refine⟨f1,fun b2 ha=> ?_⟩;obtain⟨b1,s1,m1⟩:=g1 b2 ha;refine⟨b1,?_,m1⟩;cases e with
   |normal=>exact(hne _ _ h).elim
   |exit i=>simp only[exec,s1]
   |ret=>simp only[exec,s1]
 |cond x a b iha ihb=>
  intro env env' blk blk' e h;simp only[exec] at h ⊢;split at h
  ·rename_i t ht;cases t with
   |true=>exact iha h
   |false=>exact ihb h
  ·cases h
 |block id c ih=>
  intro env env' blk blk' e h;simp only[exec] at h;split at h
  ·rename_i i env1 blk1 h1;obtain⟨f1,g1⟩:=ih h1;have hb:blk'=blk1:=by split at h<;>cases h<;>rfl
   subst hb;refine⟨f1,fun b2 ha=> ?_⟩;obtain⟨b1,s1,m1⟩:=g1 b2 ha;refine⟨b1,?_,m1⟩;simp only[exec,s1];split at h
   ·rename_i hi;cases h;rw[if_pos hi]
   ·rename_i hi;cases h;rw[if_neg hi]
  ·rename_i hne;obtain⟨f1,g1⟩:=ih h;refine⟨f1,fun b2 ha=> ?_⟩;obtain⟨b1,s1,m1⟩:=g1 b2 ha;refine⟨b1,?_,m1⟩;cases e with
   |normal=>simp only[exec,s1]
   |exit i=>exact(hne _ _ _ h).elim
   |ret=>simp only[exec,s1]
 |loop c ih=>
  intro env env' blk blk' e h;simp only[exec] at h ⊢;exact iter_al hcs (fun h=>ih h) n h
end
theorem resultsV_al{al:Al}{env:Env}{blk blk2:Blk}(ha:AgreeAl al blk blk2): ∀ {rs:List (Nat × Option (Option Nat))} {vs:List V},resultsV al env blk rs=some vs→resultsV al env blk2 rs=some vs:=by
 intro rs
 induction rs with
 |nil=>intro vs h;exact h
 |cons r rs ih=>
  obtain⟨t,k⟩:=r;cases k with
  |none=>
   intro vs h;simp only[resultsV] at h ⊢;split at h
   ·rename_i v q h1 h2;cases h
    simp only[h1,ih h2]
   ·cases h
  |some k=>
   intro vs h;simp only[resultsV] at h ⊢;split at h
   ·rename_i cs rd q h1 h2;split at h
    ·rename_i hok;rw[rdAt_local h1 (fun id hid=>ha id (oks_spec hok hid)),ih h2];simp only[hok,if_true];exact h
    ·cases h
   ·cases h
theorem runS_al{sh:Ctx}{cp:PCall}{cs:SCall}(hcs:SLocal cs){n:Nat}{fn:IFn}{args:List V}{blk blk':Blk}{v:V}(h:runS sh cp cs n fn args blk=some (v,blk')):Frame sh.al blk blk'∧
  ∀ blk2,AgreeAl sh.al blk blk2→ ∃ blk2',runS sh cp cs n fn args blk2=some (v,blk2')∧Merge sh.al blk' blk2 blk2':=by
 unfold runS at h;split at h
 ·rename_i env b hx;simp only[Option.map_eq_some_iff] at h;obtain⟨vs,h1,h2⟩:=h;cases h2
  obtain⟨f1,g1⟩:=exec_al hcs _ hx;refine⟨f1,fun b2 ha=> ?_⟩;obtain⟨b3,s1,m1⟩:=g1 b2 ha;exact⟨b3,by unfold runS;rw[s1];simp only[resultsV_al m1.agree h1,Option.map_some],m1⟩
 ·rename_i env b hx;simp only[Option.map_eq_some_iff] at h;obtain⟨vs,h1,h2⟩:=h;cases h2
  obtain⟨f1,g1⟩:=exec_al hcs _ hx;refine⟨f1,fun b2 ha=> ?_⟩;obtain⟨b3,s1,m1⟩:=g1 b2 ha;exact⟨b3,by unfold runS;rw[s1];simp only[resultsV_al m1.agree h1,Option.map_some],m1⟩
 ·cases h
end Go.Abs
