/-
  The abstract machine is sound in any order that a region draws; a quick evaluator; library functions.
-/
import Derived.Test.YtjjdebhkbfeniaaGreatDoorMc
import Derived.LoopN
import Derived.Scope
import Derived.Orders
import Derived.ChangeReads
import Derived.ChangeStays
import Derived.DataReads
import Derived.Below
import Derived.Sort.Grow
import Derived.Deep.Draws
import Derived.Lib.ItoaNum
import Derived.Lib.Join
import Derived.Lib.BitFns
import Derived.Lib.LaidTab
import Derived.ChangeSame
import Derived.ProofKit
import Derived.OpenShut
set_option linter.unusedSimpArgs false
set_option linter.unusedVariables false
set_option linter.unusedSectionVars false
namespace Go.Abs
variable {P:Program} {w0:World}
def AVRel(w:World)(O:Nat→Prop):V→Value→Prop
 | .one (.p x),v=>PRel w O x v
 | .agg cs,v=> ∃ arr ps,v= .agg arr∧cs=ps.map .p∧PsRel w O ps arr.toList
 |_,_=>False
def Enters(P:Program)(f:Nat):Prop:= ∃ fn c,P.funcs[f]? =some fn∧fn.body=some c∧(fn.name== "runtime.NumGoroutine")=false
def RRel(w:World)(Q:Nat→Prop)(r:RV)(val:Value)(bs:List Nat):Prop:= ∃ vs,FlatR r val vs∧RCsRel w Q (flatR r) vs bs
def PRes(w:World)(O:Nat→Prop)(r:RV):Ending→World→Prop:=fun e w'=>
 ∃ val bs,e= .returned val∧Grew w w'∧bs.Nodup∧(∀ c∈bs,w.heap.size≤c∧c<w'.heap.size)∧RRel w' (fun c=>O c∨c∈bs) r val bs
def Good(G:World→Prop)(w:World):Prop:=G w∧ ∀ w w',Grew w w'→G w→G w'
theorem Ok.grew{m:Mem}(h:Ok w0 m):Grew w0 m.w:=⟨h.os,h.tape,h.output,h.size,h.base⟩
theorem RCsRel.pure{w:World}{Q Q':Nat→Prop}(h: ∀ b,Q' b→Q b): ∀ {rs:List RC} {vs:List Value} {bs:List Nat},(∀ c∈bs,¬ Q' c)→RCsRel w Q rs vs bs→RCsRel w Q' (rs.map RC.pure) vs []:=by
 intro rs
 induction rs with
 |nil=>intro vs bs _ hr;exact⟨hr.1,rfl⟩
 |cons r rs ih=>
  intro vs bs hb hr;have less: ∀ {x:PV} {v:Value},PRel w Q x v→PRel w Q' x v:=fun hp=>hp.mono fun c _ hn=>⟨rfl,fun hq=>hn (h c hq)⟩
  cases r with
  |p x=>
   obtain⟨v,vs',rfl,h1,h2⟩:=hr;exact⟨v,vs',rfl,less h1,ih hb h2⟩
  |own ty sz es=>
   obtain⟨v,vs',c,bs',rfl,rfl,⟨cap,cur,e1,e2,e3,e4,e5,e6,e7,e8⟩,h2⟩:=hr;refine⟨v,vs',rfl,?_,ih (fun c hc=>hb c (by simp[hc])) h2⟩;subst e1;refine PRel.sl c 0 cap sz (fun j=>cur.toList.getD j undef) (fun _=>hb c (by simp)) e5 e6 e4 (fun j x hx=> ?_) (fun j x hx=> ?_)
   ·have hj:j<(cur.toList.take (es.length*sz)).length:=by rw[e8.1];exact(List.getElem?_eq_some_iff.1 hx).1
    have hj2:j<cur.size:=by simp at hj;omega
    rw[World.cell?];simp[e2,hj2,List.getD,Nat.zero_add]
   ·have hj:j<(cur.toList.take (es.length*sz)).length:=by rw[e8.1];exact(List.getElem?_eq_some_iff.1 hx).1
    have hj2:j<cur.size:=by simp at hj;omega
    refine less (e8.2 j x _ hx ?_);rw[List.getElem?_take_of_lt (by simp at hj;omega)];simp[hj2,List.getD]
theorem FlatR1.pure{r:RV}{v:Value}{vs:List Value}(h:FlatR1 r v vs):FlatR1 r.pure1 v vs∧flatR1 r.pure1=(flatR1 r).map RC.pure:=by
 cases r with
 |one c=>exact⟨h,rfl⟩
 |agg cs=>exact⟨⟨h.1,by simpa [RV.pure1] using h.2⟩,rfl⟩
 |tup _=>exact h.elim
theorem FlatRs.pure: ∀ {rs:List RV} {us vs:List Value},FlatRs rs us vs→FlatRs (rs.map RV.pure1) us vs∧flatRs (rs.map RV.pure1)=(flatRs rs).map RC.pure:=by
 intro rs
 induction rs with
 |nil=>intro us vs h;exact⟨h,rfl⟩
 |cons r rs ih=>
  rintro us vs ⟨u,us',a,b,rfl,rfl,h1,h2⟩
  obtain⟨p1,p2⟩:=h1.pure;obtain⟨q1,q2⟩:=ih h2;exact⟨⟨u,us',a,b,rfl,rfl,p1,q1⟩,by simp[flatRs,p2,q2]⟩
theorem FlatR.pure{r:RV}{v:Value}{vs:List Value}(h:FlatR r v vs):FlatR r.pure v vs∧flatR r.pure=(flatR r).map RC.pure:=by
 cases r with
 |one c=>exact FlatR1.pure (r:= .one c) h
 |agg cs=>exact FlatR1.pure (r:= .agg cs) h
 |tup rs=>
  obtain⟨arr,rfl,h2⟩:=h;obtain⟨q1,q2⟩:=h2.pure;exact⟨⟨arr,rfl,q1⟩,q2⟩
theorem PRes.pureIf{w w':World}{O:Nat→Prop}{r:RV}{e:Ending}(b:Bool)(hO: ∀ c,O c→c<w.heap.size)(h:PRes w O r e w'):PRes w O (r.pureIf b) e w':=by
 cases b with
 |false=>exact h
 |true=>
  obtain⟨val,bs,rfl,hg,hnd,hbs,vs,h1,h2⟩:=h;obtain⟨p1,p2⟩:=h1.pure;refine⟨val,[],rfl,hg,List.nodup_nil,fun c hc=>by simp at hc,vs,p1,?_⟩;simp only[RV.pureIf];rw[p2];refine RCsRel.pure (fun b hb=> ?_) (fun c hc hn=> ?_) h2
  ·rcases hb with hb|hb
   ·exact .inl hb
   ·simp at hb
  ·rcases hn with hn|hn
   ·have:=hO c hn;have:=(hbs c hc).1;omega
   ·simp at hn
def PSound(P:Program)(G:World→Prop)(cp:PCall):Prop:= ∀ f vs r,cp f vs=some r→Enters P f∧ ∀ (w:World) (O:Nat→Prop) (args:Array Value),Good G w→(∀ c,O c→c<w.heap.size)→Pw (AVRel w O) vs args.toList→Calls P f args w (PRes w O r)
def SRes(w0:World)(m:Mem)(v:V)(blk':Blk):Ending→World→Prop:=fun e w'=>
 ∃ val m',e= .returned val∧m'.w=w'∧Ok w0 m'∧Ev m m'∧m'.fr=m.fr∧m'.blk=blk'∧VRel m' v val
def SSound(P:Program)(G:World→Prop)(cs:SCall):Prop:= ∀ f vs al blk v blk',cs f vs al blk=some (v,blk')→Enters P f∧ ∀ (w0:World) (m:Mem) (args:Array Value),Good G w0→Ok w0 m→m.blk=blk→Pw (VRel m) vs args.toList→Calls P f args m.w (SRes w0 m v blk')
theorem snapV_rel{m:Mem}(hok:Ok w0 m){O:Nat→Prop}{x y:V}{r:List Nat}{v:Value}(h:snapV m.blk x=some (y,r))(hr:VRel m x v)(hs:Spares m O r):AVRel m.w O y v:=by
 cases x with
 |undef=>simp[snapV] at h
 |tup vs=>simp[snapV] at h
 |one c=>
  simp only[snapV,Option.map_eq_some_iff] at h;obtain⟨⟨p,r'⟩,h1,h2⟩:=h;cases h2
  exact snap_rel hok snapN h1 hr hs
 |agg cs=>
  simp only[snapV,Option.map_eq_some_iff] at h;obtain⟨⟨ps,r'⟩,h1,h2⟩:=h;cases h2
  obtain⟨arr,rfl,hc⟩:=VRel.agg.1 hr;refine⟨arr,ps,rfl,rfl,?_⟩;exact collect_rel (R:=CRel m) (T:=PRel m.w O) (good:=Spares m O) (fun _ _=>Spares.app) (fun _ _ _ _ h1 h2 h3=>snap_rel hok snapN h1 h2 h3) h1 hs hc
theorem snapVs_rel{m:Mem}(hok:Ok w0 m){O:Nat→Prop}{xs ys:List V}{r:List Nat}{vs:List Value}(h:snapVs m.blk xs=some (ys,r))(hr:Pw (VRel m) xs vs)(hs:Spares m O r):Pw (AVRel m.w O) ys vs:=
 collect_rel (R:=VRel m) (T:=AVRel m.w O) (good:=Spares m O) (fun _ _=>Spares.app) (fun _ _ _ _ h1 h2 h3=>snapV_rel hok h1 h2 h3) h hs hr
theorem own_lt{m:Mem}(hok:Ok w0 m){c:Nat}(h:m.own c):c<m.w.heap.size:=by
 rcases h with h|⟨id,o,ho,_,rfl⟩
 ·exact hok.frlt c h
 ·exact(hok.obj id o ho).lt
theorem scalar_any{w:World}{Q Q':Nat→Prop}{x:PV}{v:Value}(hs:x.scalar=true)(h:PRel w Q x v):PRel w Q' x v:=by
 cases h<;>first
  |(simp[PV.scalar] at hs;done)
  |constructor
theorem alone_any{w:World}{Q Q':Nat→Prop}: ∀ {rs:List RC} {vs:List Value} {bs:List Nat},rs.all RC.alone=true→RCsRel w Q rs vs bs→RCsRel w Q' rs vs bs:=by
 intro rs
 induction rs with
 |nil=>intro vs bs _ h;exact h
 |cons r rs ih=>
  intro vs bs ha h;simp only[List.all_cons,Bool.and_eq_true] at ha;cases r with
  |p x=>
   obtain⟨v,vs',rfl,h1,h2⟩:=h;exact⟨v,vs',rfl,scalar_any ha.1 h1,ih ha.2 h2⟩
  |own ty sz es=>
   obtain⟨v,vs',c,bs',rfl,rfl,⟨cap,cur,e1,e2,e3,e4,e5,e6,e7,e8⟩,h2⟩:=h;refine⟨v,vs',c,bs',rfl,rfl,⟨cap,cur,e1,e2,e3,e4,e5,e6,e7,e8.1,fun j x u a b=> ?_⟩,ih ha.2 h2⟩;refine scalar_any ?_ (e8.2 j x u a b);have hx:=List.mem_of_getElem? a;obtain⟨e,he,hxe⟩:=List.mem_flatten.1 hx;have h1:=ha.1;simp only[RC.alone] at h1;exact List.all_eq_true.1 (List.all_eq_true.1 h1 e he) x hxe
theorem land_core{m:Mem}{w':World}{x:RV}{val:Value}{bs:List Nat}{site:Nat}(hok:Ok w0 m)(hg:Grew m.w w')(hnd:bs.Nodup)(hbs: ∀ c∈bs,m.w.heap.size≤c∧c<w'.heap.size)(hr:RRel w' (fun c=>m.own c∨c∈bs) x val bs):
  ∃ m',m'.w=w'∧Ok w0 m'∧Ev m m'∧m'.fr=m.fr∧m'.blk=app (inV m.blk site x).2 m.blk∧VRel m' (inV m.blk site x).1 val:=by
 obtain⟨vs,h1,h2⟩:=hr;have hok1:Ok w0 (m.later w' (· ∈bs)):=later_ok hok hg hbs;have hev1:Ev m (m.later w' (· ∈bs)):=later_ev hg fun c hc=>(hbs c hc).1
 obtain⟨m',e1,e2,e3,_,e5,e6,e7⟩:=inCs_ok (m00:=m) (site:=site) hok1 (h2.less fun b hb=>later_own.1 hb) hnd (fun c hc=>⟨.inr hc,Nat.le_trans hok.size (hbs c hc).1⟩) hev1 (fun c hc=> .inl (hbs c hc).1);refine⟨m',e1,e2,e3,?_,e6,reshV_rel h1 e7⟩;funext c;apply propext;rw[e5 c];constructor
 ·rintro ⟨h|h,h2⟩
  ·exact h
  ·exact(h2 h).elim
 ·intro h;refine⟨.inl h,fun hc=> ?_⟩;have h1:=hok.frlt c h;have h2:=(hbs c hc).1;omega
theorem inV_congr{b b':Blk}(h: ∀ s,(b s).1=(b' s).1)(site:Nat)(x:RV):inV b site x=inV b' site x:=by
 unfold inV;rw[inCs_congr _ site b b' fun s _=>h s]
theorem pcall_sim{G:World→Prop}{cp:PCall}(hcp:PSound P G cp)(hG:Good G w0){m:Mem}(hok:Ok w0 m){f:Nat}{xs vs:List V}{rd:List Nat}{x:RV}{site:Nat}{v:V}{u:List Upd}{args:Array Value}(hc:cp f vs=some x)(hs:snapVs m.blk xs=some (vs,rd))(hargs:Pw (VRel m) xs args.toList)
  {pb:Bool} (hl:land m.blk rd site (x.pureIf pb)=some (v,u)):Calls P f args m.w (SRes w0 m v (app u m.blk)):=by
 have hcall: ∀ (w:World) (O:Nat→Prop) (args:Array Value),Good G w→(∀ c,O c→c<w.heap.size)→Pw (AVRel w O) vs args.toList→Calls P f args w (PRes w O (x.pureIf pb)):=
  fun w O args h1 h2 h3=>((hcp f vs x hc).2 w O args h1 h2 h3).mono fun e w' h=>h.pureIf pb h2
 generalize x.pureIf pb=x at hl hcall;unfold land at hl;split at hl
 ·rename_i hcnd;cases hl
  have key: ∀ (O:Nat→Prop),(∀ c,O c→c<m.w.heap.size)→Spares m O rd→(∀ w' bs val,RRel w' (fun c=>O c∨c∈bs) x val bs→RRel w' (fun c=>m.own c∨c∈bs) x val bs)→Calls P f args m.w (SRes w0 m (inV m.blk site x).1 (app (inV m.blk site x).2 m.blk)):=by
   intro O hO hsp hup;refine(hcall m.w O args ⟨hG.2 _ _ hok.grew hG.1,hG.2⟩ hO (snapVs_rel hok hs hargs hsp)).mono ?_;rintro e w' ⟨val,bs,rfl,hg,hnd,hbs,hr⟩
   obtain⟨m',e1,e2,e3,e4,e5,e6⟩:=land_core (site:=site) hok hg hnd hbs (hup w' bs val hr);exact⟨val,m',rfl,e1,e2,e3,e4,e5,e6⟩
  rcases hcnd with rfl|hal
  ·exact key m.own (fun c hc=>own_lt hok hc) ⟨fun _ h=>h,fun _ h=>by simp at h⟩ fun _ _ _ h=>h
  ·refine key (fun _=>False) (fun c h=>h.elim) ⟨fun _ h=>h.elim,fun _ _ h=>h⟩ fun w' bs val h=> ?_
   obtain⟨vs',h1,h2⟩:=h;exact⟨vs',h1,alone_any hal h2⟩
 ·split at hl
  ·rename_i fu hfu;cases hl
   have hok1:=frz_ok hok hfu;have hev1:=frz_ev hfu;have hsp:=frz_spares hok hfu;refine(hcall m.w (m.with fu).own args ⟨hG.2 _ _ hok.grew hG.1,hG.2⟩ (fun c hc=>own_lt hok1 hc) (snapVs_rel hok hs hargs hsp)).mono ?_;rintro e w' ⟨val,bs,rfl,hg,hnd,hbs,hr⟩
   obtain⟨m',e1,e2,e3,e4,e5,e6⟩:=land_core (m:=m.with fu) (site:=site) hok1 hg hnd hbs hr;have hcong:inV (m.with fu).blk site x=inV m.blk site x:=inV_congr (fun s=>frz_gen hfu s) site x;rw[hcong] at e5 e6;refine⟨val,m',rfl,e1,e2,hev1.trans e3,e4,?_,e6⟩;rw[e5,app_append];rfl
  ·cases hl
end Go.Abs
namespace Go.Abs
variable {P:Program} {w0:World}
theorem put_rel{m m':Mem}(hev:Ev m m'){env:Env}{a:Act}{dst:Option Nat}{v:V}{x:Value}(hr:ERel m env a.tmps)(hv:VRel m' v x)(hd: ∀ d,dst=some d→d<a.tmps.size):ERel m' (put env dst v) (a.put dst x).tmps:=by
 cases dst with
 |none=>exact hr.ev hev
 |some d=>
  intro t;have hlt:=hd d rfl;simp only[put,Act.put,upd_apply];by_cases ht:t=d
  ·subst ht;rw[if_pos rfl];have:(a.tmps.setIfInBounds t x).getD t undef=x:=by simp[hlt]
   rw[this];exact hv
  ·rw[if_neg ht];have:(a.tmps.setIfInBounds d x).getD t undef=a.tmps.getD t undef:=by
    simp only[Array.getD_eq_getD_getElem?];rw[Array.getElem?_setIfInBounds_ne (fun e=>ht e.symm)]
   rw[this];exact(hr t).ev hev.zero
theorem put_size(a:Act)(dst:Option Nat)(x:Value):(a.put dst x).tmps.size=a.tmps.size:=by cases dst<;>simp[Act.put]
theorem put_defers(a:Act)(dst:Option Nat)(x:Value):(a.put dst x).defers=a.defers:=by cases dst<;>simp[Act.put]
theorem wanted_rel{m:Mem}{env:Env}{tmps:Array Value}(hr:ERel m env tmps){ops:Array Oper}{o:Oper}{g:Option (Nat × Bool)}{b:Bool}
  (hg:match o.guard with|none=>g=none|some (j,w)=> ∃ t,(ops[j]?).bind (·.dst)=some t∧g=some (t,w)) (h:wanted env g=some b):Region.wanted o (yielded ops tmps)=b:=by
 unfold Region.wanted;cases ho:o.guard with
 |none=>
  rw[ho] at hg;subst hg;simp only[wanted,Option.some.injEq] at h;exact h
 |some q=>
  obtain⟨j,w⟩:=q;rw[ho] at hg;obtain⟨t,h1,rfl⟩:=hg;have hrt:=hr t;simp only[wanted] at h;simp only[yielded,h1,Option.bind_some];split at h
  ·rename_i b' hb;rw[hb] at hrt;have hv:=inv_bool hrt;cases h
   have:tmps[t]? =some (.bool b'):=by
    rw[Array.getD_eq_getD_getElem?] at hv;cases he:tmps[t]? with
    |none=>rw[he] at hv;simp[undef] at hv
    |some y=>rw[he] at hv;simp at hv;rw[hv]
   rw[this];rfl
  ·rename_i hb;rw[hb] at hrt;cases h
   have hv:tmps.getD t undef=undef:=hrt;rw[Array.getD_eq_getD_getElem?] at hv;cases he:tmps[t]? with
   |none=>rfl
   |some y=>rw[he] at hv;simp at hv;rw[hv];rfl
  ·cases h
theorem fnOf_rel{m:Mem}{env:Env}{f:IArg}{v:Value}{g:Nat}{a b:List C}(h:fnOf env f=some (g,a,b))(hr:VRel m (ev env f) v): ∃ A B:Array Value,v= .func (.func g) A B∧CsRel m a A.toList∧CsRel m b B.toList:=by
 unfold fnOf at h;split at h
 ·rename_i g' x y he;cases h
  rw[he] at hr;obtain⟨hp⟩:CRel m _ v:=hr;cases hp with
  |fn A B ha hb hra hrb=>
   exact⟨A,B,rfl,PsRel.toC ⟨by simpa using ha,fun j x u p q=>hra j x u p (by simpa using q)⟩,PsRel.toC ⟨by simpa using hb,fun j x u p q=>hrb j x u p (by simpa using q)⟩⟩
 ·rename_i g' x y he;cases h
  rw[he] at hr;have hc:CRel m _ v:=hr;cases hc with
  |hfn A B ha hb hra hrb=>
   exact⟨A,B,rfl,⟨by simpa using ha,fun j x u p q=>hra j x u p (by simpa using q)⟩,⟨by simpa using hb,fun j x u p q=>hrb j x u p (by simpa using q)⟩⟩
 ·cases h
theorem args_rel{m:Mem}{env:Env}{a:Act}(hr:ERel m env a.tmps): ∀ {xs:List Operand} {ys:List IArg},argsC xs=some ys→Pw (VRel m) (ys.map (ev env)) (xs.map a.eval):=by
 intro xs
 induction xs with
 |nil=>intro ys h;simp[argsC] at h;subst h;exact⟨rfl,fun j x u p=>by simp at p⟩
 |cons x xs ih=>
  intro ys h;simp only[argsC] at h;split at h
  ·rename_i y ys' h1 h2;cases h
   obtain⟨i1,i2⟩:=ih h2;refine⟨by simpa using i1,fun j z u p q=> ?_⟩;cases j with
   |zero=>simp at p q;subst p q;exact argC_rel h1 hr
   |succ j=>exact i2 j z u (by simpa using p) (by simpa using q)
  ·cases h
theorem ones_rel{m:Mem}{cs:List C}{vs:List Value}(h:CsRel m cs vs):Pw (VRel m) (cs.map .one) vs:=by
 refine⟨by simpa using h.1,fun j x u p q=> ?_⟩;simp only[List.getElem?_map,Option.map_eq_some_iff] at p;obtain⟨c,hc,rfl⟩:=p;exact VRel.one.2 (h.2 j c u hc q)
theorem callFunc_run{f:Nat}(h:Enters P f)(args:Array Value)(w:World):(callFunc f args).run P w= .ok (.enter f args) w:=by
 obtain⟨fn,c,h1,h2,h3⟩:=h;have h4: ¬ fn.name= "runtime.NumGoroutine" :=by simpa using h3
 simp[callFunc,run_program,h1,h2,h4]
theorem call_run{o:Oper}{c:Call}{fo:Operand}{a:Act}{g:Nat}{A B:Array Value}{w:World}(ho:o.op= .call c)(hc:c.callee= .value fo)(hv:a.eval fo= .func (.func g) A B)(he:Enters P g):
  (execOp a.eval o).run P w= .ok (.enter g (A++c.args.map a.eval++B)) w:=by
 simp[execOp,ho,resolve,hc,hv,Deferred.ofValue,invoke,callFunc_run he]
theorem not_call_op{site:Nat}{o:Oper}{p:IOp}(h:compOp P site o=some p)(hp: ∀ s f as,p≠ .call s f as){sh:Nat→Bool}{env:Env}{blk:Blk}:(∀ f vs r s,plan sh env blk p≠ .pc f vs r s)∧ ∀ f vs,plan sh env blk p≠ .sc f vs:=by
 cases p<;>first
  |exact(hp _ _ _ rfl).elim
  |(simp only[plan]
    constructor<;>intros<;>intro h<;>(repeat' split at h)<;>first
     |cases h
     |(simp only[wrAt,planSlice,planAppend] at h;(repeat' split at h)<;>cases h))
theorem compOp_call{site:Nat}{o:Oper}{s:Nat}{f:IArg}{as:List IArg}(h:compOp P site o=some (.call s f as)): ∃ c fo,o.op= .call c∧c.callee= .value fo∧argC fo=some f∧argsC c.args.toList=some as:=by
 unfold compOp at h;split at h
 case h_26 c ho=>
  split at h
  ·rename_i f' as' h1 h2;simp only[Option.map_eq_some_iff] at h;obtain⟨y,h3,h4⟩:=h;cases h4
   exact⟨c,f',ho,h1,h3,h2⟩
  all_goals((repeat' split at h)<;>first
   |cases h
   |(simp at h;done))
 all_goals((repeat' split at h)<;>first
  |cases h
  |(simp at h;done))
def Then(w0:World)(m:Mem)(a:Act)(nt:Nat)(env':Env)(blk':Blk)(K:Act→World→Prop):Prop:=
 ∀ (a':Act) (m':Mem),Ok w0 m'→Ev m m'→m'.fr=m.fr→m'.blk=blk'→ERel m' env' a'.tmps→a'.tmps.size=nt→a'.defers=a.defers→K a' m'.w
theorem wp_of_calls{o:Oper}{a:Act}{f:Nat}{args:Array Value}{w:World}{K:Act→World→Prop}{Q:Exit→Act→World→Prop}{R:Ending→World→Prop}(hrun:(execOp a.eval o).run P w= .ok (.enter f args) w)(hc:Calls P f args w R)
  (hR: ∀ e w',R e w'→ ∃ v,e= .returned v∧K (a.put o.dst v) w'):o.wp P a w K Q:=by
 unfold Oper.wp;rw[hrun,Oper.upon_enter];refine hc.mono ?_;intro e w' he;obtain⟨v,rfl,hk⟩:=hR e w' he;exact hk
theorem step_sim{G:World→Prop}(hG:Good G w0){cp:PCall}{cs:SCall}(hP:PSound P G cp)(hS:SSound P G cs){sh:Ctx}{ops:Array Oper}{base nt anc:Nat}{o:Oper}{io:IOper}{m:Mem}{env env':Env}{blk':Blk}{eff:Eff}{a:Act}{K:Act→World→Prop}{Q:Exit→Act→World→Prop}
  (ho:compOper P (fun j=>(ops[j]?).bind (·.dst)) base nt anc o=some io) (hst:step1 sh cp cs io env m.blk=some (env',blk',eff)) (hok:Ok w0 m) (hr:ERel m env a.tmps) (hnt:a.tmps.size=nt) (hK:Then w0 m a nt env' blk' K):
  if Region.wanted o (yielded ops a.tmps) then o.wp P a m.w K Q else K (a.put o.dst undef) m.w:=by
 have hio:io.dst=o.dst∧io.op=compOpB P base o∧(∀ d,o.dst=some d→d<nt)∧(match o.guard with|none=>io.guard=none|some (j,w)=> ∃ t,(ops[j]?).bind (·.dst)=some t∧io.guard=some (t,w)):=by
  unfold compOper at ho;split at ho
  ·rename_i hd;simp only[Option.map_eq_some_iff] at ho;obtain⟨g,hg,rfl⟩:=ho;refine⟨rfl,rfl,fun d he=> ?_,?_⟩
   ·rw[he] at hd
    simpa [dstOk] using hd
   ·cases hgo:o.guard with
    |none=>rw[hgo] at hg;simp[guardC] at hg;exact hg.symm
    |some q=>
     obtain⟨j,w⟩:=q;rw[hgo] at hg;simp only[guardC,Option.map_eq_some_iff] at hg;obtain⟨t,ht,rfl⟩:=hg;exact⟨t,ht,rfl⟩
  ·cases ho
 obtain⟨h1,h2,h3,h4⟩:=hio;have hd: ∀ d,o.dst=some d→d<a.tmps.size:=by rw[hnt];exact h3
 unfold step1 at hst;split at hst
 ·cases hst
 ·rename_i hw;cases hst
  rw[wanted_rel hr h4 hw];simp only[Bool.false_eq_true,if_false];rw[h1] at hK;exact hK _ m hok (Ev.refl m) rfl rfl (put_rel (Ev.refl m) hr (show VRel m .undef undef from rfl) hd) (by rw[put_size,hnt]) (put_defers _ _ _)
 ·rename_i hw;rw[wanted_rel hr h4 hw];simp only[if_true];rw[h2] at hst;unfold compOpB at hst;cases hcomp:compOp P base o with
  |none=>rw[hcomp] at hst;simp[plan] at hst
  |some p=>
   rw[hcomp] at hst;simp only[Option.getD_some] at hst;split at hst
   ·cases hst
   ·rename_i v u r hp;split at hst
    case isFalse=>cases hst
    cases hst
    obtain⟨x,m',hdoes,e2,e3,e4,e5,e6⟩:=op_sim hok hr hcomp hp;rw[h1] at hK;have hk:=fun x (hx:VRel m' v x)=>hK (a.put o.dst x) m' e2 e3 e4 e5 (put_rel e3 hr hx hd) (by rw[put_size,hnt]) (put_defers _ _ _)
    unfold Oper.wp;rcases hdoes with hd|⟨hd,rfl⟩
    ·rw[hd,Oper.upon_value];exact hk x e6
    ·rw[hd,Oper.upon_skip];exact hk undef e6
   ·rename_i f vs r s hp;by_cases hcall: ∃ s f as,p= .call s f as
    ·obtain⟨s',f',as,rfl⟩:=hcall;obtain⟨c,fo,g1,g2,g3,g4⟩:=compOp_call hcomp;simp only[plan] at hp;split at hp
     ·rename_i g A B hfn;obtain⟨AV,BV,e1,e2,e3⟩:=fnOf_rel hfn (argC_rel g3 hr);split at hp
      ·cases hp
      ·split at hp
       ·rename_i ws rd hsn;cases hp
        split at hst
        ·rename_i x hx;split at hst
         ·rename_i v u hl;split at hst
          case isFalse=>cases hst
          cases hst
          have hargs:Pw (VRel m) (A.map .one++as.map (ev env)++B.map .one) (AV++c.args.map a.eval++BV).toList:=by
           have:=((ones_rel e2).append (args_rel hr g4)).append (ones_rel e3)
           simpa using this
          refine wp_of_calls (call_run g1 g2 e1 (hP _ _ _ hx).1) (pcall_sim hP hG hok hx hsn hargs hl) ?_;rintro e w' ⟨val,m',rfl,rfl,q1,q2,q3,q4,q5⟩
          rw[h1] at hK;exact⟨val,rfl,hK _ m' q1 q2 q3 q4 (put_rel q2 hr q5 hd) (by rw[put_size,hnt]) (put_defers _ _ _)⟩
         ·cases hst
        ·cases hst
       ·cases hp
     ·cases hp
    ·exact((not_call_op hcomp (fun s f as e=>hcall ⟨s,f,as,e⟩)).1 _ _ _ _ hp).elim
   ·rename_i f vs hp;by_cases hcall: ∃ s f as,p= .call s f as
    ·obtain⟨s',f',as,rfl⟩:=hcall;obtain⟨c,fo,g1,g2,g3,g4⟩:=compOp_call hcomp;simp only[plan] at hp;split at hp
     ·rename_i g A B hfn;obtain⟨AV,BV,e1,e2,e3⟩:=fnOf_rel hfn (argC_rel g3 hr);split at hp
      ·cases hp
       split at hst
       case isFalse=>cases hst
       split at hst
       ·rename_i v blk'' hx;cases hst
        have hargs:Pw (VRel m) (A.map .one++as.map (ev env)++B.map .one) (AV++c.args.map a.eval++BV).toList:=by
         have:=((ones_rel e2).append (args_rel hr g4)).append (ones_rel e3)
         simpa using this
        refine wp_of_calls (call_run g1 g2 e1 (hS _ _ _ _ _ _ hx).1) ((hS _ _ _ _ _ _ hx).2 w0 m _ hG hok rfl hargs) ?_;rintro e w' ⟨val,m',rfl,rfl,q1,q2,q3,q4,q5⟩
        rw[h1] at hK;exact⟨val,rfl,hK _ m' q1 q2 q3 q4 (put_rel q2 hr q5 hd) (by rw[put_size,hnt]) (put_defers _ _ _)⟩
       ·cases hst
      ·split at hp<;>cases hp
     ·cases hp
    ·exact((not_call_op hcomp (fun s f as e=>hcall ⟨s,f,as,e⟩)).2 _ _ hp).elim
end Go.Abs
namespace Go.Abs
variable {P:Program} {w0:World}
theorem compOps_cons{dst anc:Nat→Option Nat}{base nt i:Nat}{o:Oper}{r:List Oper}{l:List IOper}(h:compOps P dst anc base nt i (o::r)=some l):
  ∃ x xs,l=x::xs∧compOper P dst ((base+i)*64) nt ((anc i).getD 0) o=some x∧compOps P dst anc base nt (i+1) r=some xs:=by
 simp only[compOps] at h;split at h
 ·rename_i x xs h1 h2;cases h
  exact⟨x,xs,rfl,h1,h2⟩
 ·cases h
section
variable {G:World→Prop} (hG:Good G w0) {cp:PCall} {cs:SCall} (hP:PSound P G cp) (hS:SSound P G cs) {sh:Ctx}
include hG hP hS
theorem ops_sim{ops:Array Oper}{anc:Nat→Option Nat}{base nt:Nat}{Q:Exit→Act→World→Prop}: ∀ (r:List Oper) {l:List IOper} {i:Nat} {env env':Env} {m:Mem} {blk':Blk} {es:List Eff} {a:Act},(∀ j,ops[i+j]? =r[j]?)→compOps P (fun j=>(ops[j]?).bind (·.dst)) anc base nt i r=some l→
  steps sh cp cs l env m.blk=some (env',blk',es)→Ok w0 m→ERel m env a.tmps→a.tmps.size=nt→Then w0 m a nt env' blk' (fun a' w'=>Q .normal a' w')→wpOps P ops Q (List.range' i r.length) a m.w:=by
 intro r
 induction r with
 |nil=>
  intro l i env env' m blk' es a _ hc hst hok hr hnt hK;simp[compOps] at hc;subst hc;simp only[steps,Option.some.injEq,Prod.mk.injEq] at hst;obtain⟨rfl,rfl,_⟩:=hst;simp only[List.length_nil,List.range'_zero,wpOps];exact hK a m hok (Ev.refl m) rfl rfl hr hnt rfl
 |cons o r ih=>
  intro l i env env' m blk' es a hops hc hst hok hr hnt hK;obtain⟨x,xs,rfl,h1,h2⟩:=compOps_cons hc;simp only[steps] at hst;split at hst
  ·rename_i env1 blk1 e1 hs1;split at hst
   ·rename_i env2 blk2 es2 hs2;cases hst
    have ho:ops[i]? =some o:=by have:=hops 0;simpa using this
    have key:=step_sim (Q:=Q) (K:=wpOps P ops Q (List.range' (i+1) r.length)) hG hP hS h1 hs1 hok hr hnt (fun a1 m1 k1 k2 k3 k4 k5 k6 k7=>by
     subst k4;refine ih (m:=m1) (fun j=>by have:=hops (j+1);rw[show i+1+j=i+(j+1) by omega];simpa using this) h2 hs2 k1 k5 k6 ?_;intro a2 m2 p1 p2 p3 p4 p5 p6 p7;exact hK a2 m2 p1 (k2.trans p2) (p3.trans k3) p4 p5 p6 (p7.trans k7))
    simp only[List.length_cons,List.range'_succ,wpOps,ho];split at key
    ·rename_i hw;rw[if_pos hw];exact .inl key
    ·rename_i hw;rw[if_neg hw];exact key
   ·cases hst
  ·cases hst
theorem region_sim{ops:Array Oper}{anc:Nat→Option Nat}{base nt id:Nat}{Q:Exit→Act→World→Prop}{l:List IOper}{env env':Env}{m:Mem}{blk':Blk}{es:List Eff}{a:Act}(hc:compOps P (fun j=>(ops[j]?).bind (·.dst)) anc base nt 0 ops.toList=some l)
  (hst:steps sh cp cs l env m.blk=some (env',blk',es)) (hok:Ok w0 m) (hr:ERel m env a.tmps) (hnt:a.tmps.size=nt) (hK:Then w0 m a nt env' blk' (fun a' w'=>Q .normal a' w')):(Code.region id ops false).wp P Q a m.w:=by
 refine wp_region ?_;have:=ops_sim hG hP hS (sh:=sh) (ops:=ops) (Q:=Q) ops.toList (i:=0) (fun j=>by simp) hc hst hok hr hnt hK;rw[List.range_eq_range']
 simpa using this
end
end Go.Abs
namespace Go.Abs
variable {P:Program} {w0:World}
theorem push_fold{α β:Type}(g:Array β→α→β): ∀ (l:List α) (acc:Array β),(l.foldl (fun acc o=>acc.push (g acc o)) acc).size=acc.size+l.length∧
  (∀ j,j<acc.size→(l.foldl (fun acc o=>acc.push (g acc o)) acc)[j]? =acc[j]?)∧
  ∀ j o,l[j]? =some o→ ∃ pre:Array β,pre.size=acc.size+j∧(∀ k,k<pre.size→(l.foldl (fun acc o=>acc.push (g acc o)) acc)[k]? =pre[k]?)∧(l.foldl (fun acc o=>acc.push (g acc o)) acc)[acc.size+j]? =some (g pre o):=by
 intro l
 induction l with
 |nil=>intro acc;exact⟨rfl,fun _ _=>rfl,fun j o h=>by simp at h⟩
 |cons x l ih=>
  intro acc;obtain⟨h1,h2,h3⟩:=ih (acc.push (g acc x));simp only[List.foldl_cons];refine⟨by rw[h1];simp;omega,fun j hj=> ?_,fun j o ho=> ?_⟩
  ·rw[h2 j (by simp;omega),Array.getElem?_push,if_neg (by omega)]
  ·cases j with
   |zero=>
    simp at ho;subst ho;refine⟨acc,by omega,fun k hk=> ?_,?_⟩
    ·rw[h2 k (by simp;omega),Array.getElem?_push,if_neg (by omega)]
    ·rw[Nat.add_zero,h2 acc.size (by simp),Array.getElem?_push,if_pos rfl]
   |succ j=>
    obtain⟨pre,p1,p2,p3⟩:=h3 j o (by simpa using ho);refine⟨pre,by rw[p1];simp;omega,p2,?_⟩;rw[← p3];simp only[Array.size_push];congr 1;omega
theorem or_fold{α:Type}(f:α→Bool)(g:α→Nat)(h:α→Nat): ∀ (l:List α) (s j:Nat),(l.foldl (fun s e=>if f e then s|||g e|||h e else s) s).testBit j=true→s.testBit j=true∨ ∃ e∈l,f e=true∧((g e).testBit j=true∨(h e).testBit j=true):=by
 intro l
 induction l with
 |nil=>intro s j hh;exact .inl hh
 |cons x l ih=>
  intro s j hh;simp only[List.foldl_cons] at hh;rcases ih _ j hh with h1|⟨e,he,h2⟩
  ·split at h1
   ·rename_i hf;simp only[Nat.testBit_or,Bool.or_eq_true] at h1;rcases h1 with (h1|h1)|h1
    ·exact .inl h1
    ·exact .inr ⟨x,by simp,hf, .inl h1⟩
    ·exact .inr ⟨x,by simp,hf, .inr h1⟩
   ·exact .inl h1
  ·exact .inr ⟨e,by simp[he],h2⟩
theorem before_bits{ops:Array Oper}(hao:afterOk ops=true){i:Nat}{o:Oper}(ho:ops[i]? =some o){j:Nat}(hj:(((Region.before ops)[i]?).getD 0).testBit j=true):
  ∃ e∈o.after,Region.binds .any e=true∧e.on<i∧(j=e.on∨(((Region.before ops)[e.on]?).getD 0).testBit j=true):=by
 unfold Region.before at hj ⊢;rw[← Array.foldl_toList] at hj ⊢;obtain⟨h1,h2,h3⟩:=push_fold (fun(acc:Array Nat) (o:Oper)=>o.after.foldl (fun s e=>if Region.binds .any e then s|||2 ^ e.on|||acc.getD e.on 0 else s) 0) ops.toList #[];obtain⟨pre,p1,p2,p3⟩:=h3 i o (by simpa using ho);simp only[Array.size_empty,Nat.zero_add] at p1 p3;rw[p3] at hj;simp only[Option.getD_some] at hj;rw[← Array.foldl_toList] at hj;rcases or_fold (fun e=>Region.binds .any e) (fun e=>2 ^ e.on) (fun e=>pre.getD e.on 0) _ _ _ hj with h|⟨e,he,hb,hbit⟩
 ·simp at h
 ·have hlt:i<ops.size:=(Array.getElem?_eq_some_iff.1 ho).1;have hon:e.on<i:=by
   unfold afterOk at hao;have:=List.all_eq_true.1 hao i (by simpa using hlt);rw[ho] at this;simp only[Array.all_eq_true'] at this;have:=this e (by simpa using he);simp only[hb,Bool.not_true,Bool.false_or,decide_eq_true_eq] at this;exact this
  refine⟨e,by simpa using he,hb,hon,?_⟩;rcases hbit with hbit|hbit
  ·left;rw[Nat.testBit_two_pow] at hbit;have h9:e.on=j:=by simpa using hbit
   exact h9.symm
  ·right;rw[p2 e.on (by omega)]
   simpa [Array.getD_eq_getD_getElem?] using hbit
theorem compOper_anc{dst:Nat→Option Nat}{base nt anc:Nat}{o:Oper}{io:IOper}(h:compOper P dst base nt anc o=some io):io.anc=anc:=by
 unfold compOper at h;split at h
 ·simp only[Option.map_eq_some_iff] at h;obtain⟨g,_,rfl⟩:=h;rfl
 ·cases h
structure LeftOf (P:Program) (ops:Array Oper) (base nt:Nat) (rem:List It) (listed:Array Bool):Prop where
 pair:rem.Pairwise fun p q=>p.i<q.i∧(q.io.anc.testBit p.i=true∨apart2 p q)
 comp: ∀ p∈rem,∃ o,ops[p.i]? =some o∧compOper P (fun j=>(ops[j]?).bind (·.dst)) ((base+p.i)*64) nt (((Region.before ops)[p.i]?).getD 0) o=some p.io
 size:listed.size=ops.size
 free: ∀ i:Nat,listed[i]? =some false↔ ∃ p∈rem,p.i=i
 closed: ∀ i:Nat,listed[i]? =some true→ ∀ j:Nat,(((Region.before ops)[i]?).getD 0).testBit j=true→listed[j]? =some true
theorem ready_iff{ops:Array Oper}{listed:Array Bool}{i:Nat}:i∈Region.ready .any ops listed↔i<ops.size∧listed.getD i true=false∧ ∃ o,ops[i]? =some o∧ ∀ e∈o.after,Region.binds .any e=true→listed.getD e.on false=true:=by
 unfold Region.ready;simp only[List.mem_filter,List.mem_range,Bool.and_eq_true,Bool.not_eq_true'];constructor
 ·rintro ⟨h1,h2,h3⟩
  refine⟨h1,h2,ops[i],by simp[h1],fun e he hb=> ?_⟩;have ho:ops[i]? =some ops[i]:=by simp[h1]
  rw[ho] at h3;simp only[Option.map_some,Option.getD_some,Array.all_eq_true'] at h3;have:=h3 e he;rw[hb] at this
  simpa using this
 ·rintro ⟨h1,h2,o,ho,h3⟩
  refine⟨h1,h2,?_⟩;rw[ho];simp only[Option.map_some,Option.getD_some,Array.all_eq_true'];intro e he;cases hb:Region.binds .any e with
  |false=>rfl
  |true=>simp[h3 e he hb]
theorem getD_false{l:Array Bool}{i:Nat}(h:l.getD i true=false):l[i]? =some false:=by
 rw[Array.getD_eq_getD_getElem?] at h;cases he:l[i]? with
 |none=>rw[he] at h;simp at h
 |some b=>rw[he] at h;simp at h;rw[h]
theorem getD_true{l:Array Bool}{i:Nat}(h:l.getD i false=true):l[i]? =some true:=by
 rw[Array.getD_eq_getD_getElem?] at h;cases he:l[i]? with
 |none=>rw[he] at h;simp at h
 |some b=>rw[he] at h;simp at h;rw[h]
section
variable {G:World→Prop} (hG:Good G w0) {cp:PCall} {cs:SCall} (hP:PSound P G cp) (hS:SSound P G cs) (hL:SLocal cs) {sh:Ctx}
include hG hP hS hL
theorem any_sim{ops:Array Oper}(hao:afterOk ops=true){base nt:Nat}{Q:Exit→Act→World→Prop}{env':Env}{blk':Blk}: ∀ (fuel:Nat) {rem:List It} {listed:Array Bool} {env:Env} {m:Mem} {a:Act},LeftOf P ops base nt rem listed→rem.length≤fuel→
  steps sh cp cs (rem.map (·.io)) env m.blk=some (env',blk',rem.map (·.e))→Ok w0 m→ERel m env a.tmps→a.tmps.size=nt→Then w0 m a nt env' blk' (fun a' w'=>Q .normal a' w')→wpAny P .any ops Q fuel listed a m.w:=by
 intro fuel
 induction fuel with
 |zero=>
  intro rem listed env m a hl hlen hst hok hr hnt hK;have hrem:rem=[]:=by
   cases rem with
   |nil=>rfl
   |cons _ _=>simp at hlen
  subst hrem;simp only[List.map_nil,steps,Option.some.injEq,Prod.mk.injEq] at hst;obtain⟨rfl,rfl,_⟩:=hst;refine⟨?_,hK a m hok (Ev.refl m) rfl rfl hr hnt rfl⟩;refine List.eq_nil_iff_forall_not_mem.2 fun i hi=> ?_
  obtain⟨_,h2,_⟩:=ready_iff.1 hi;obtain⟨p,hp,_⟩:=(hl.free i).1 (getD_false h2);simp at hp
 |succ fuel ih=>
  intro rem listed env m a hl hlen hst hok hr hnt hK;refine⟨fun hnone=> ?_,fun i hi=> ?_⟩
  ·cases rem with
   |nil=>
    simp only[List.map_nil,steps,Option.some.injEq,Prod.mk.injEq] at hst;obtain⟨rfl,rfl,_⟩:=hst;exact hK a m hok (Ev.refl m) rfl rfl hr hnt rfl
   |cons p rest=>
    exfalso;obtain⟨o,ho,_⟩:=hl.comp p (by simp);have hlt:p.i<ops.size:=(Array.getElem?_eq_some_iff.1 ho).1;have hmem:p.i∈Region.ready .any ops listed:=by
     refine ready_iff.2 ⟨hlt,?_,o,ho,fun e he hb=> ?_⟩
     ·rw[Array.getD_eq_getD_getElem?,(hl.free p.i).2 ⟨p,by simp,rfl⟩];rfl
     ·have hon:e.on<p.i:=by
       unfold afterOk at hao;have:=List.all_eq_true.1 hao p.i (by simpa using hlt);rw[ho] at this;simp only[Array.all_eq_true'] at this;have:=this e he;simp only[hb,Bool.not_true,Bool.false_or,decide_eq_true_eq] at this;exact this
      have hs:e.on<listed.size:=by rw[hl.size];omega
      rw[Array.getD_eq_getD_getElem?];cases hb2:listed[e.on] with
      |true=>simp[hs,hb2]
      |false=>
       exfalso;obtain⟨q,hq,hqi⟩:=(hl.free e.on).1 (by simp[hs,hb2]);rcases List.mem_cons.1 hq with rfl|hq
       ·omega
       ·have:=((List.pairwise_cons.1 hl.pair).1 q hq).1;omega
    rw[hnone] at hmem;simp at hmem
  ·obtain⟨h1,h2,o,ho,h3⟩:=ready_iff.1 hi;obtain⟨p,hp,rfl⟩:=(hl.free i).1 (getD_false h2);obtain⟨l1,l2,rfl⟩:=List.append_of_mem hp;obtain⟨o',ho',hcomp⟩:=hl.comp p hp;rw[ho] at ho';cases ho'
   have hanc: ∀ j:Nat,p.io.anc.testBit j=true→listed[j]? =some true:=by
    intro j hj;rw[compOper_anc hcomp] at hj;obtain⟨e,he,hb,_,hor⟩:=before_bits hao ho hj;have hon:=getD_true (h3 e he hb);rcases hor with rfl|hor
    ·exact hon
    ·exact hl.closed _ hon j hor
   have hpair:=List.pairwise_append.1 hl.pair;have hfront: ∀ x∈l1,apart2 x p:=by
    intro x hx;rcases(hpair.2.2 x hx p (by simp)).2 with h|h
    ·have:=hanc _ h;rw[(hl.free x.i).2 ⟨x,by simp[hx],rfl⟩] at this;cases this
    ·exact h
   obtain⟨env1,blk1,hs1,hs2⟩:=to_front hL hst hfront;have key:=step_sim (Q:=Q) (K:=wpAny P .any ops Q fuel (listed.setIfInBounds p.i true)) hG hP hS hcomp hs1 hok hr hnt (fun a1 m1 k1 k2 k3 k4 k5 k6 k7=>by
    subst k4;have hlt:p.i<listed.size:=by rw[hl.size];exact h1
    refine ih (rem:=l1++l2) ⟨?_,fun q hq=>hl.comp q (by rcases List.mem_append.1 hq with h|h<;>simp[h]),by simp[hl.size],fun k=> ?_,fun k hk j hj=> ?_⟩ (by simp at hlen ⊢;omega) hs2 k1 k5 k6 ?_
    ·refine List.pairwise_append.2 ⟨hpair.1,(List.pairwise_cons.1 hpair.2.1).2,fun x hx y hy=>hpair.2.2 x hx y (by simp[hy])⟩
    ·rw[Array.getElem?_setIfInBounds];by_cases hk:p.i=k
     ·subst hk;rw[if_pos rfl,if_pos hlt];constructor
      ·intro h;cases h
      ·rintro ⟨q,hq,hqi⟩
       rcases List.mem_append.1 hq with h|h
       ·have:=(hpair.2.2 q h p (by simp)).1;omega
       ·have:=((List.pairwise_cons.1 hpair.2.1).1 q h).1;omega
     ·rw[if_neg hk,hl.free k];constructor
      ·rintro ⟨q,hq,hqi⟩
       rcases List.mem_append.1 hq with h|h
       ·exact⟨q,by simp[h],hqi⟩
       ·rcases List.mem_cons.1 h with rfl|h
        ·exact(hk hqi).elim
        ·exact⟨q,by simp[h],hqi⟩
      ·rintro ⟨q,hq,hqi⟩
       rcases List.mem_append.1 hq with h|h
       ·exact⟨q,by simp[h],hqi⟩
       ·exact⟨q,by simp[h],hqi⟩
    ·have hup: ∀ j:Nat,listed[j]? =some true→(listed.setIfInBounds p.i true)[j]? =some true:=by
      intro j hj;rw[Array.getElem?_setIfInBounds];split
      ·first
        |rfl
        |(rename_i e;rw[if_pos hlt])
      ·exact hj
     by_cases hk2:p.i=k
     ·subst hk2;refine hup j (hanc j ?_);rw[compOper_anc hcomp];exact hj
     ·rw[Array.getElem?_setIfInBounds,if_neg hk2] at hk;exact hup j (hl.closed k hk j hj)
    ·intro a2 m2 p1 p2 p3 p4 p5 p6 p7;exact hK a2 m2 p1 (k2.trans p2) (p3.trans k3) p4 p5 p6 (p7.trans k7))
   unfold wpOp;rw[ho];simp only;split at key
   ·rename_i hw;rw[if_pos hw];exact .inl key
   ·rename_i hw;rw[if_neg hw];exact key
end
def mkIts:Nat→List IOper→List Eff→List It
 |i,x::xs,e::es=>⟨i,x,e⟩::mkIts (i+1) xs es
 |_,_,_=>[]
theorem mkIts_maps: ∀ {xs:List IOper} {es:List Eff} (i:Nat),es.length=xs.length→(mkIts i xs es).map (·.io)=xs∧(mkIts i xs es).map (·.e)=es:=by
 intro xs
 induction xs with
 |nil=>intro es i h;cases es with
  |nil=>exact⟨rfl,rfl⟩
  |cons _ _=>simp at h
 |cons x xs ih=>intro es i h;cases es with
  |nil=>simp at h
  |cons e es=>
   obtain⟨h1,h2⟩:=ih (es:=es) (i+1) (by simpa using h);exact⟨by simp[mkIts,h1],by simp[mkIts,h2]⟩
theorem freeAt_spec{o:IOper}: ∀ {past:List IOper} {j:Nat},freeAt o j past=true→ ∀ k x,past[k]? =some x→o.anc.testBit (j+k)=true∨free2 x o=true:=by
 intro past
 induction past with
 |nil=>intro j _ k x h;simp at h
 |cons y past ih=>
  intro j h k x hk;simp only[freeAt,Bool.and_eq_true,Bool.or_eq_true] at h;cases k with
  |zero=>simp at hk;subst hk;exact h.1
  |succ k=>
   have:=ih h.2 k x (by simpa using hk);rw[show j+(k+1)=j+1+k by omega];exact this
theorem okAt_spec{anc:Nat}{e:Eff}: ∀ {past:List Eff} {j:Nat},okAt anc e j past=true→ ∀ k x,past[k]? =some x→anc.testBit (j+k)=true∨clash x e=false:=by
 intro past
 induction past with
 |nil=>intro j _ k x h;simp at h
 |cons y past ih=>
  intro j h k x hk;simp only[okAt,Bool.and_eq_true,Bool.or_eq_true,Bool.not_eq_true'] at h;cases k with
  |zero=>simp at hk;subst hk;exact h.1
  |succ k=>
   have:=ih h.2 k x (by simpa using hk);rw[show j+(k+1)=j+1+k by omega];exact this
theorem mkIts_pair: ∀ {xs:List IOper} {es:List Eff} {past:List IOper} {pe:List Eff},es.length=xs.length→pe.length=past.length→freeAll xs past=true→okDraw xs pe es=true→
  (∀ (q:It),q∈mkIts past.length xs es→ ∀ (k:Nat) (x:IOper) (e:Eff),past[k]? =some x→pe[k]? =some e→q.io.anc.testBit k=true∨(free2 x q.io=true∧clash e q.e=false))∧
  (∀ q∈mkIts past.length xs es,past.length≤q.i)∧(mkIts past.length xs es).Pairwise fun p q=>p.i<q.i∧(q.io.anc.testBit p.i=true∨apart2 p q):=by
 intro xs
 induction xs with
 |nil=>
  intro es past pe _ _ _ _;have:mkIts past.length [] es=[]:=by cases es<;>rfl
  rw[this];exact⟨fun q h=>by simp at h,fun q h=>by simp at h, .nil⟩
 |cons x xs ih=>
  intro es past pe hl hp hf hd;cases es with
  |nil=>simp at hl
  |cons e es=>
   simp only[freeAll,Bool.and_eq_true] at hf;simp only[okDraw,Bool.and_eq_true] at hd;obtain⟨i1,i2,i3⟩:=ih (es:=es) (past:=past++[x]) (pe:=pe++[e]) (by simpa using hl) (by simp[hp]) hf.2 hd.2;have hlen:(past++[x]).length=past.length+1:=by simp
   rw[hlen] at i1 i2 i3;simp only[mkIts];refine⟨?_,?_,List.pairwise_cons.2 ⟨?_,i3⟩⟩
   ·intro q hq k y f hy hf';rcases List.mem_cons.1 hq with rfl|hq
    ·have h1:=freeAt_spec hf.1 k y hy;have h2:=okAt_spec hd.1 k f hf';rw[Nat.zero_add] at h1 h2;rcases h1 with h1|h1
     ·exact .inl h1
     ·rcases h2 with h2|h2
      ·exact .inl h2
      ·exact .inr ⟨h1,h2⟩
    ·have hk:k<past.length:=(List.getElem?_eq_some_iff.1 hy).1;exact i1 q hq k y f (by rw[List.getElem?_append_left hk];exact hy) (by rw[List.getElem?_append_left (by omega)];exact hf')
   ·intro q hq;rcases List.mem_cons.1 hq with rfl|hq
    ·exact Nat.le_refl _
    ·have:=i2 q hq;omega
   ·intro q hq;refine⟨by have:=i2 q hq;simp only;omega,?_⟩;exact i1 q hq past.length x e (by simp) (by rw[← hp];simp)
theorem mkIts_comp{ops:Array Oper}{anc:Nat→Option Nat}{dst:Nat→Option Nat}{base nt:Nat}: ∀ {r:List Oper} {xs:List IOper} {es:List Eff} {i:Nat},compOps P dst anc base nt i r=some xs→es.length=xs.length→(∀ j,ops[i+j]? =r[j]?)→
  (∀ p∈mkIts i xs es,∃ o,ops[p.i]? =some o∧compOper P dst ((base+p.i)*64) nt ((anc p.i).getD 0) o=some p.io)∧ ∀ k,i≤k→k<i+r.length→ ∃ p∈mkIts i xs es,p.i=k:=by
 intro r
 induction r with
 |nil=>
  intro xs es i h _ _;simp only[compOps,Option.some.injEq] at h;subst h;have:mkIts i [] es=[]:=by cases es<;>rfl
  rw[this];exact⟨fun p h=>by simp at h,fun k h1 h2=>by simp at h2;omega⟩
 |cons o r ih=>
  intro xs es i h hl hops;obtain⟨x,xs',rfl,h1,h2⟩:=compOps_cons h;cases es with
  |nil=>simp at hl
  |cons e es=>
   obtain⟨i1,i2⟩:=ih (es:=es) h2 (by simpa using hl) (fun j=>by have:=hops (j+1);rw[show i+1+j=i+(j+1) by omega];simpa using this);refine⟨fun p hp=> ?_,fun k hk1 hk2=> ?_⟩
   ·rcases List.mem_cons.1 hp with rfl|hp
    ·exact⟨o,by have:=hops 0;simpa using this,h1⟩
    ·exact i1 p hp
   ·by_cases hk:k=i
    ·exact⟨⟨i,x,e⟩,by simp[mkIts],hk.symm⟩
    ·obtain⟨p,hp,hpi⟩:=i2 k (by omega) (by simp at hk2;omega);exact⟨p,by simp[mkIts,hp],hpi⟩
theorem steps_len{sh:Ctx}{cp:PCall}{cs:SCall}: ∀ {xs:List IOper} {env env':Env} {blk blk':Blk} {es:List Eff},steps sh cp cs xs env blk=some (env',blk',es)→es.length=xs.length:=by
 intro xs
 induction xs with
 |nil=>intro env env' blk blk' es h;simp only[steps,Option.some.injEq,Prod.mk.injEq] at h;rw[← h.2.2];rfl
 |cons x xs ih=>
  intro env env' blk blk' es h;simp only[steps] at h;split at h
  ·split at h
   ·rename_i h2;cases h
    simp[ih h2]
   ·cases h
  ·cases h
theorem compOps_len{dst anc:Nat→Option Nat}{base nt:Nat}: ∀ {r:List Oper} {xs:List IOper} {i:Nat},compOps P dst anc base nt i r=some xs→xs.length=r.length:=by
 intro r
 induction r with
 |nil=>intro xs i h;simp only[compOps,Option.some.injEq] at h;subst h;rfl
 |cons o r ih=>
  intro xs i h;obtain⟨x,xs',rfl,_,h2⟩:=compOps_cons h;simp[ih h2]
section
variable {G:World→Prop} (hG:Good G w0) {cp:PCall} {cs:SCall} (hP:PSound P G cp) (hS:SSound P G cs) (hL:SLocal cs) {sh:Ctx}
include hG hP hS hL
theorem draw_sim(hfo:P.follows .mixedOrders=true){ops:Array Oper}{base nt id:Nat}{Q:Exit→Act→World→Prop}{l:List IOper}{env env':Env}{m:Mem}{blk':Blk}{es:List Eff}{a:Act}(hc:compOps P (fun j=>(ops[j]?).bind (·.dst)) (fun i=>(Region.before ops)[i]?) base nt 0 ops.toList=some l)
  (hao:afterOk ops=true) (hf:freeAll l []=true) (hst:steps sh cp cs l env m.blk=some (env',blk',es)) (hd:okDraw l [] es=true) (hok:Ok w0 m) (hr:ERel m env a.tmps) (hnt:a.tmps.size=nt) (hK:Then w0 m a nt env' blk' (fun a' w'=>Q .normal a' w')):(Code.region id ops true).wp P Q a m.w:=by
 refine wp_region_any hfo ?_;have hlen:=steps_len hst;have hl2:l.length=ops.size:=by have:=compOps_len hc;simpa using this
 obtain⟨g1,g2⟩:=mkIts_maps 0 hlen;obtain⟨_,_,hp⟩:=mkIts_pair (past:=[]) (pe:=[]) hlen rfl hf hd;obtain⟨c1,c2⟩:=mkIts_comp (ops:=ops) hc hlen (fun j=>by simp);have hok1:Ok w0 (m.later m.w.drew fun _=>False):=later_ok hok (Grew.drew _) fun _ h=>h.elim
 have hev1:Ev m (m.later m.w.drew fun _=>False):=later_ev (Grew.drew _) fun _ h=>h.elim
 have hfr:(m.later m.w.drew fun _=>False).fr=m.fr:=by
  funext c;simp[Mem.later]
 refine any_sim (m:=m.later m.w.drew fun _=>False) hG hP hS hL hao ops.size (rem:=mkIts 0 l es) (base:=base) ⟨hp,c1,by simp,fun i=> ?_,fun i hi=> ?_⟩ ?_ (by rw[g1,g2];exact hst) hok1 (hr.ev hev1) hnt ?_
 ·constructor
  ·intro h;have hi:i<ops.size:=by
    have:=(Array.getElem?_eq_some_iff.1 h).1
    simpa using this
   exact c2 i (Nat.zero_le _) (by simpa using hi)
  ·rintro ⟨p,hp,rfl⟩
   obtain⟨o,ho,_⟩:=c1 p hp;have hi:p.i<ops.size:=(Array.getElem?_eq_some_iff.1 ho).1;simp[hi]
 ·rw[Array.getElem?_replicate] at hi;split at hi<;>simp at hi
 ·have:(mkIts 0 l es).length=l.length:=by have:=congrArg List.length g1;simpa using this
  omega
 ·intro a2 m2 p1 p2 p3 p4 p5 p6 p7;exact hK a2 m2 p1 (hev1.trans p2) (p3.trans hfr) p4 p5 p6 p7
end
end Go.Abs
namespace Go.Abs
variable {P:Program} {w0:World}
def toE:AExit→Exit
 | .normal=> .normal
 | .exit i=> .exit i
 | .ret=> .ret
section
variable {G:World→Prop} (hG:Good G w0) {cp:PCall} {cs:SCall} (hP:PSound P G cp) (hS:SSound P G cs) (hL:SLocal cs) (hfo:P.follows .mixedOrders=true) {sh:Ctx}
include hG hP hS hL hfo
theorem exec_sim{n f nt:Nat}: ∀ (c:Code) {ic:ICode} {env env':Env} {m:Mem} {blk':Blk} {e:AExit} {a:Act} {Q:Exit→Act→World→Prop},compC P f nt c=some ic→exec sh cp cs n ic env m.blk=some (e,env',blk')→Ok w0 m→ERel m env a.tmps→a.tmps.size=nt→
  Then w0 m a nt env' blk' (fun a' w'=>Q (toE e) a' w')→c.wp P Q a m.w:=by
 intro c
 induction c with
 |skip=>
  intro ic env env' m blk' e a Q hc hx hok hr hnt hK;simp only[compC,Option.some.injEq] at hc;subst hc;simp only[exec,Option.some.injEq,Prod.mk.injEq] at hx;obtain⟨rfl,rfl,rfl⟩:=hx;exact wp_skip (hK a m hok (Ev.refl m) rfl rfl hr hnt rfl)
 |label l=>
  intro ic env env' m blk' e a Q hc hx hok hr hnt hK;simp only[compC,Option.some.injEq] at hc;subst hc;simp only[exec,Option.some.injEq,Prod.mk.injEq] at hx;obtain⟨rfl,rfl,rfl⟩:=hx;exact wp_label (hK a m hok (Ev.refl m) rfl rfl hr hnt rfl)
 |ret=>
  intro ic env env' m blk' e a Q hc hx hok hr hnt hK;simp only[compC,Option.some.injEq] at hc;subst hc;simp only[exec,Option.some.injEq,Prod.mk.injEq] at hx;obtain⟨rfl,rfl,rfl⟩:=hx;exact wp_ret (hK a m hok (Ev.refl m) rfl rfl hr hnt rfl)
 |exit id=>
  intro ic env env' m blk' e a Q hc hx hok hr hnt hK;simp only[compC,Option.some.injEq] at hc;subst hc;simp only[exec,Option.some.injEq,Prod.mk.injEq] at hx;obtain⟨rfl,rfl,rfl⟩:=hx;exact wp_exit (hK a m hok (Ev.refl m) rfl rfl hr hnt rfl)
 |region id ops draw=>
  intro ic env env' m blk' e a Q hc hx hok hr hnt hK;simp only[compC] at hc;split at hc
  ·rename_i xs hxs;cases draw with
   |false=>
    simp only[Bool.false_eq_true,if_false,Option.some.injEq] at hc;subst hc;simp only[exec] at hx;split at hx
    ·rename_i e1 b1 es hst;simp only[Bool.false_eq_true,if_false,Option.some.injEq,Prod.mk.injEq] at hx;obtain⟨rfl,rfl,rfl⟩:=hx;exact region_sim hG hP hS hxs hst hok hr hnt hK
    ·cases hx
   |true=>
    simp only[if_true] at hc hxs;split at hc
    ·rename_i hfa;simp only[Bool.and_eq_true] at hfa;cases hc
     simp only[exec] at hx;split at hx
     ·rename_i e1 b1 es hst;simp only[if_true] at hx;split at hx
      ·rename_i hd;cases hx
       exact draw_sim hG hP hS hL hfo hxs hfa.1 hfa.2 hst hd hok hr hnt hK
      ·cases hx
     ·cases hx
    ·cases hc
  ·cases hc
 |seq x y ihx ihy=>
  intro ic env env' m blk' e a Q hc hx hok hr hnt hK;simp only[compC] at hc;split at hc
  ·rename_i ix iy h1 h2;cases hc
   simp only[exec] at hx;refine wp_seq ?_;split at hx
   ·rename_i env1 blk1 hx1;refine ihx h1 hx1 hok hr hnt ?_;intro a1 m1 k1 k2 k3 k4 k5 k6 k7;subst k4;refine ihy h2 hx k1 k5 k6 ?_;intro a2 m2 p1 p2 p3 p4 p5 p6 p7;exact hK a2 m2 p1 (k2.trans p2) (p3.trans k3) p4 p5 p6 (p7.trans k7)
   ·rename_i hne;refine ihx h1 hx hok hr hnt ?_;intro a1 m1 k1 k2 k3 k4 k5 k6 k7;have:=hK a1 m1 k1 k2 k3 k4 k5 k6 k7;cases e with
    |normal=>exact(hne env' blk' hx).elim
    |exit i=>exact this
    |ret=>exact this
  ·cases hc
 |cond x p q ihp ihq=>
  intro ic env env' m blk' e a Q hc hx hok hr hnt hK;simp only[compC] at hc;split at hc
  ·rename_i c' ip iq h1 h2 h3;cases hc
   simp only[exec] at hx;split at hx
   ·rename_i t ht;have hv:=argC_rel h1 hr;rw[ht] at hv;refine wp_cond (inv_bool hv) ?_;cases t with
    |true=>simp only[if_true] at hx ⊢;exact ihp h2 hx hok hr hnt hK
    |false=>simp only[Bool.false_eq_true,if_false] at hx ⊢;exact ihq h3 hx hok hr hnt hK
   ·cases hx
  ·cases hc
 |block id c ih=>
  intro ic env env' m blk' e a Q hc hx hok hr hnt hK;simp only[compC,Option.map_eq_some_iff] at hc;obtain⟨ic',h1,rfl⟩:=hc;simp only[exec] at hx;refine wp_block ?_;split at hx
  ·rename_i i env1 blk1 hx1;refine ih h1 hx1 hok hr hnt ?_;intro a1 m1 k1 k2 k3 k4 k5 k6 k7;simp only[toE,Exit.inBlock];split at hx
   ·rename_i hi;cases hx
    rw[if_pos hi];exact hK a1 m1 k1 k2 k3 k4 k5 k6 k7
   ·rename_i hi;cases hx
    rw[if_neg hi];exact hK a1 m1 k1 k2 k3 k4 k5 k6 k7
  ·rename_i hne;refine ih h1 hx hok hr hnt ?_;intro a1 m1 k1 k2 k3 k4 k5 k6 k7;have:=hK a1 m1 k1 k2 k3 k4 k5 k6 k7;cases e with
   |normal=>exact this
   |exit i=>exact(hne i env' blk' hx).elim
   |ret=>exact this
 |loop c ih=>
  intro ic env env' m blk' e a Q hc hx hok hr hnt hK;simp only[compC,Option.map_eq_some_iff] at hc;obtain⟨ic',h1,rfl⟩:=hc;simp only[exec] at hx;refine wp_loop_rounds n ?_;have key: ∀ (k:Nat) {env:Env} {m:Mem} {a:Act},iter (exec sh cp cs n ic') k env m.blk=some (e,env',blk')→Ok w0 m→ERel m env a.tmps→a.tmps.size=nt→Then w0 m a nt env' blk' (fun a' w'=>Q (toE e) a' w')→Code.rounds P c Q k a m.w:=by
   intro k
   induction k with
   |zero=>intro env m a hx;simp[iter] at hx
   |succ k ihk=>
    intro env m a hx hok hr hnt hK;rw[rounds_succ];simp only[iter] at hx;split at hx
    ·rename_i env1 blk1 hx1;refine ih h1 hx1 hok hr hnt ?_;intro a1 m1 k1 k2 k3 k4 k5 k6 k7;subst k4;refine ihk hx k1 k5 k6 ?_;intro a2 m2 p1 p2 p3 p4 p5 p6 p7;exact hK a2 m2 p1 (k2.trans p2) (p3.trans k3) p4 p5 p6 (p7.trans k7)
    ·rename_i hne;refine ih h1 hx hok hr hnt ?_;intro a1 m1 k1 k2 k3 k4 k5 k6 k7;have:=hK a1 m1 k1 k2 k3 k4 k5 k6 k7;cases e with
     |normal=>exact(hne env' blk' hx).elim
     |exit i=>exact this
     |ret=>exact this
  exact key n hx hok hr hnt hK
 |scope c ih=>
  intro ic env env' m blk' e a Q hc hx hok hr hnt hK;simp only[compC] at hc;refine wp_scope_straight ?_;refine ih hc hx hok hr hnt ?_;intro a1 m1 k1 k2 k3 k4 k5 k6 k7;have:=hK a1 m1 k1 k2 k3 k4 k5 k6 k7;cases e<;>exact this
 |_=>
  intro ic env env' m blk' e a Q hc hx;simp only[compC,Option.some.injEq] at hc;subst hc;simp[exec] at hx
end
end Go.Abs
namespace Go.Abs
variable {P:Program} {w0:World}
theorem takeV_1{m:Mem}{k:Option Nat}{cs:List C}{v:V}{u:Value}(h:takeV k cs=some v)(hr:VRel m v u):VRel1 m v u:=by
 unfold takeV at h;split at h
 ·split at h
  ·cases h;exact hr
  ·cases h
 ·split at h
  ·cases h;exact hr
  ·cases h
theorem noTup_1{m:Mem}{x v:V}{u:Value}(h:noTup x=some v)(hr:VRel m x u):VRel1 m v u:=by
 cases x<;>simp only[noTup,Option.some.injEq,reduceCtorEq] at h<;>subst h<;>exact hr
theorem mapM_cons_run{α β:Type}{f:α→Sem β}{x:α}{xs:List α}{y:β}{ys:List β}{w:World}(h1:(f x).run P w= .ok y w)(h2:(xs.mapM f).run P w= .ok ys w):((x::xs).mapM f).run P w= .ok (y::ys) w:=by
 simp only[List.mapM_cons,Sem.run_bind,h1,h2,Result.andThen_ok,Sem.run_pure]
theorem results_list{al:Al}{m:Mem}(hok:Ok w0 m){env:Env}{tmps:Array Value}(hr:ERel m env tmps): ∀ {rs:List ResultVar} {l:List (Nat × Option (Option Nat))} {vs:List V},resC P rs=some l→resultsV al env m.blk l=some vs→
  ∃ ys,(rs.mapM (fun| .tmp t=>pure (tmps.getD t undef)| .cell a t=>do loadVar t (← asAddr (tmps.getD a undef)):ResultVar→Sem Value)).run P m.w= .ok ys m.w∧Pw (VRel1 m) vs ys:=by
 intro rs
 induction rs with
 |nil=>
  intro l vs h1 h2;simp only[resC,Option.some.injEq] at h1;subst h1;simp only[resultsV,Option.some.injEq] at h2;subst h2;exact⟨[],by simp[Sem.run_pure],rfl,fun j x u p=>by simp at p⟩
 |cons r rs ih=>
  intro l vs h1 h2;have cons: ∀ {x:V} {xs:List V} {y:Value} {ys:List Value},VRel1 m x y→Pw (VRel1 m) xs ys→Pw (VRel1 m) (x::xs) (y::ys):=by
   intro x xs y ys p q;refine⟨by simp[q.1],fun j z u a b=> ?_⟩;cases j with
   |zero=>simp at a b;subst a b;exact p
   |succ j=>exact q.2 j z u (by simpa using a) (by simpa using b)
  cases r with
  |tmp t=>
   simp only[resC,Option.map_eq_some_iff] at h1;obtain⟨l',h3,rfl⟩:=h1;simp only[resultsV] at h2;split at h2
   ·rename_i v q e1 e2;cases h2
    obtain⟨ys,g1,g2⟩:=ih h3 e2;exact⟨_::ys,mapM_cons_run (by simp[Sem.run_pure]) g1,cons (noTup_1 e1 (hr t)) g2⟩
   ·cases h2
  |cell a t=>
   simp only[resC] at h1;split at h1
   ·rename_i k q e1 e2;cases h1
    simp only[resultsV] at h2;split at h2
    ·rename_i cs rd ws e3 e4;split at h2
     case isFalse=>cases h2
     simp only[Option.map_eq_some_iff] at h2;obtain⟨v,hv,rfl⟩:=h2;obtain⟨ys,g1,g2⟩:=ih e2 e4;obtain⟨ad,y,p1,p2,p3⟩:=loadVar_run e1 (rdAt_rel hok e3 (hr a)) hv;exact⟨y::ys,mapM_cons_run (by simp[p1,asAddr,p2]) g1,cons (takeV_1 hv p3) g2⟩
    ·cases h2
   ·cases h1
theorem results_run{al:Al}{m:Mem}(hok:Ok w0 m){env:Env}{tmps:Array Value}(hr:ERel m env tmps){fn:Func}{l:List (Nat × Option (Option Nat))}{vs:List V}(h1:resC P fn.results.toList=some l)(h2:resultsV al env m.blk l=some vs):
  ∃ y,(results fn tmps).run P m.w= .ok y m.w∧VRel m (tupV vs) y:=by
 obtain⟨ys,g1,g2⟩:=results_list hok hr h1 h2;have hmap:(results fn tmps).run P m.w= .ok (if h:ys.toArray.size=1 then ys.toArray[0] else .tuple ys.toArray) m.w:=by
  unfold results;simp only[Array.mapM_eq_mapM_toList,map_eq_pure_bind,Sem.run_bind,Result.andThen_ok,Sem.run_pure,bind_assoc,pure_bind]
  erw[g1]
  simp only[Result.andThen_ok,Sem.run_pure]
 refine⟨_,hmap,?_⟩
 match vs,ys,g2 with
 |[v],[y],g2=>exact VRel.of1 (g2.2 0 v y rfl rfl)
 |[],[],g2=>exact⟨_,rfl,rfl,fun j x u p=>by simp at p⟩
 |v::v'::vs,y::y'::ys,g2=>
  refine⟨_,rfl,by simpa using g2.1,fun j x u p q=>g2.2 j x u p (by simpa using q)⟩
 |[],y::ys,g2=>exact absurd g2.1 (by simp)
 |v::vs,[],g2=>exact absurd g2.1 (by simp)
 |[v],y::y'::ys,g2=>exact absurd g2.1 (by simp)
 |v::v'::vs,[y],g2=>exact absurd g2.1 (by simp)
theorem compF_spec{f:Nat}{fn:IFn}(h:compF P f=some fn): ∃ kf c,P.funcs[f]? =some kf∧kf.body=some c∧(kf.name== "runtime.NumGoroutine")=false∧compC P f kf.ntmps c=some fn.body∧resC P kf.results.toList=some fn.results∧fn.ntmps=kf.ntmps:=by
 unfold compF at h;split at h
 ·cases h
 ·rename_i kf hf;split at h
  ·cases h
  ·rename_i c hc;split at h
   ·cases h
   ·rename_i hn;split at h
    ·rename_i b r h1 h2;cases h
     exact⟨kf,c,hf,hc,by simpa using hn,h1,h2,rfl⟩
    ·cases h
def PrimOk(S:Sys)(G:World→Prop):Prop:= ∀ f vs r,S.prim f vs=some (some r)→Enters S.P f∧ ∀ (w:World) (O:Nat→Prop) (args:Array Value),Good G w→(∀ c,O c→c<w.heap.size)→Pw (AVRel w O) vs args.toList→Calls S.P f args w (PRes w O r)
structure SysOk (S:Sys) (G:World→Prop):Prop where
 follow:S.P.follows .mixedOrders=true
 fns: ∀ f fn,S.fns f=some fn→compF S.P f=some fn
 prim:PrimOk S G
theorem start_rel{m:Mem}{vs:List V}{args:Array Value}{nt:Nat}(h:Pw (VRel m) vs args.toList)(hl:vs.length≤nt):ERel m (ienv vs) (args++Array.replicate (nt - args.size) undef)∧(args++Array.replicate (nt - args.size) undef).size=nt:=by
 have hs:args.size=vs.length:=by simpa using h.1
 constructor
 ·intro t;by_cases ht:t<vs.length
  ·have h1:ienv vs t=vs[t]:=by simp[ienv,List.getD,ht]
   have h2:(args++Array.replicate (nt - args.size) undef).getD t undef=args[t]:=by
    simp[Array.getD_eq_getD_getElem?,Array.getElem?_append,hs,ht]
   rw[h1,h2];exact h.2 t _ _ (by simp[ht]) (by simp[hs,ht])
  ·have h1:ienv vs t= .undef:=by simp[ienv,List.getD,List.getElem?_eq_none (Nat.le_of_not_lt ht)]
   have h2:(args++Array.replicate (nt - args.size) undef).getD t undef=undef:=by
    simp only[Array.getD_eq_getD_getElem?,Array.getElem?_append,hs,if_neg ht];rw[Array.getElem?_replicate];split<;>rfl
   rw[h1,h2];rfl
 ·simp;omega
theorem apart_nodup{m:Mem}(hok:Ok w0 m): ∀ {o q:List Nat},apart o q=true→(∀ id∈o,∃ ob,(m.blk id).2=some ob∧ob.mine=true)→(o.map m.σ).Nodup∧ ∀ id∈q,id∉o:=by
 intro o
 induction o with
 |nil=>intro q _ _;exact⟨by simp,fun id _ h=>by simp at h⟩
 |cons i o ih=>
  intro q h hm;simp only[apart,Bool.and_eq_true,Bool.not_eq_true'] at h;obtain⟨⟨h1,h2⟩,h3⟩:=h;obtain⟨i1,i2⟩:=ih h3 (fun id hid=>hm id (by simp[hid]));have h1':i∉o:=by simpa using h1
  have h2':i∉q:=by simpa using h2
  refine⟨?_,fun id hid=> ?_⟩
  ·rw[List.map_cons,List.nodup_cons];refine⟨fun hmem=> ?_,i1⟩;obtain⟨j,hj,he⟩:=List.mem_map.1 hmem;obtain⟨ob,a1,a2⟩:=hm i (by simp);obtain⟨ob',b1,b2⟩:=hm j (by simp[hj]);exact h1' (hok.inj j i ob' ob b1 b2 a1 a2 he▸hj)
  ·simp only[List.mem_cons,not_or];exact⟨fun e=>h2' (e▸hid),i2 id hid⟩
theorem outCs_len{blk:Blk}: ∀ {cs:List C} {rs:List RC} {o q:List Nat},outCs blk cs=some (rs,o,q)→rs.length=cs.length:=by
 intro cs
 induction cs with
 |nil=>intro rs o q h;simp only[outCs,Option.some.injEq,Prod.mk.injEq] at h;obtain⟨rfl,_,_⟩:=h;rfl
 |cons c cs ih=>
  intro rs o q h;simp only[outCs] at h;split at h
  ·rename_i x o1 q1 xs os qs h1 h2;cases h
   simp[ih h2]
  ·cases h
theorem collect_mem{α β:Type}{f:α→Option (β × List Nat)}: ∀ {xs:List α} {ys:List β} {r:List Nat},collect f xs=some (ys,r)→ ∀ id∈r,∃ x y q,f x=some (y,q)∧id∈q:=by
 intro xs
 induction xs with
 |nil=>intro ys r h id hid;simp[collect] at h;rw[h.2] at hid;simp at hid
 |cons x xs ih=>
  intro ys r h id hid;simp only[collect] at h;split at h
  ·rename_i b p bs q e1 e2;cases h
   rcases List.mem_append.1 hid with hid|hid
   ·exact⟨x,b,p,e1,hid⟩
   ·exact ih e2 id hid
  ·cases h
theorem snap_some{blk:Blk}: ∀ {n:Nat} {c:C} {x:PV} {r:List Nat},snap blk n c=some (x,r)→ ∀ id∈r,∃ ob,(blk id).2=some ob:=by
 intro n
 induction n with
 |zero=>intro c x r h;simp[snap] at h
 |succ n ih=>
  intro c x r h id hid;have one: ∀ {i:Nat} {ob:Ob} {g:Nat},blk i=(g,some ob)→id∈[i]→ ∃ ob,(blk id).2=some ob:=by
   intro i ob g hb hi;simp at hi;subst hi;exact⟨ob,by rw[hb]⟩
  have coll: ∀ {cs:List C} {ps:List PV} {r:List Nat},collect (snap blk n) cs=some (ps,r)→id∈r→ ∃ ob,(blk id).2=some ob:=by
   intro cs ps r h hi;obtain⟨x,y,q,h1,h2⟩:=collect_mem h id hi;exact ih h1 id h2
  unfold snap at h;split at h
  ·cases h;simp at hid
  ·split at h
   ·rename_i hb;split at h
    ·split at h
     ·rename_i hc;cases h
      rcases List.mem_cons.1 hid with e|hid
      ·exact one hb (by simp[e])
      ·exact coll hc hid
     ·cases h
    ·cases h
   ·rename_i hb;split at h
    ·cases h;exact one hb hid
    ·cases h
   ·cases h
  ·split at h
   ·rename_i hb;split at h
    ·simp only[Option.map_eq_some_iff] at h;obtain⟨e,_,h2⟩:=h;cases h2;exact one hb hid
    ·cases h
   ·rename_i hb;split at h
    ·simp only[Option.map_eq_some_iff] at h;obtain⟨e,_,h2⟩:=h;cases h2;exact one hb hid
    ·cases h
   ·cases h
  ·split at h
   ·rename_i hb;split at h
    ·cases h;exact one hb hid
    ·cases h
   ·rename_i hb;split at h
    ·cases h;exact one hb hid
    ·cases h
   ·rename_i hb;split at h
    ·split at h
     ·rename_i hc;cases h
      rcases List.mem_cons.1 hid with e|hid
      ·exact one hb (by simp[e])
      ·obtain⟨x,y,q,h1,h2⟩:=collect_mem hc id hid;exact coll h1 h2
     ·cases h
    ·cases h
   ·cases h
  ·split at h
   ·rename_i hb;split at h
    ·cases h;exact one hb hid
    ·cases h
   ·rename_i hb;split at h
    ·cases h;exact one hb hid
    ·cases h
   ·cases h
  ·split at h
   ·rename_i h1 h2;cases h
    rcases List.mem_append.1 hid with hid|hid
    ·exact coll h1 hid
    ·exact coll h2 hid
   ·cases h
theorem outCs_some{blk:Blk}: ∀ {cs:List C} {rs:List RC} {o q:List Nat},outCs blk cs=some (rs,o,q)→ ∀ id∈q,∃ ob,(blk id).2=some ob:=by
 intro cs
 induction cs with
 |nil=>intro rs o q h id hid;simp only[outCs,Option.some.injEq,Prod.mk.injEq] at h;rw[← h.2.2] at hid;simp at hid
 |cons c cs ih=>
  intro rs o q h id hid;simp only[outCs] at h;split at h
  ·rename_i x o1 q1 xs os qs h1 h2;cases h
   rcases List.mem_append.1 hid with hid|hid
   ·have sn:(snap blk snapN c).map (fun(v,r)=>((.p v:RC),([]:List Nat),r))=some (x,o1,q1)→ ∃ ob,(blk id).2=some ob:=by
     intro h1;simp only[Option.map_eq_some_iff] at h1;obtain⟨⟨y,r⟩,h3,h4⟩:=h1;cases h4
     exact snap_some h3 id hid
    unfold outC at h1;split at h1
    ·cases h1;simp at hid
    ·split at h1
     ·split at h1
      ·cases h1;simp at hid
      ·cases h1
     ·exact sn h1
    ·exact sn h1
   ·exact ih h2 id hid
  ·cases h
theorem out_rel{w:World}{O:Nat→Prop}{m0 m:Mem}(hok:Ok w m)(hev:Ev m0 m)(hm0:m0.w=w)(hmine: ∀ c,¬ m0.mine c)(hfr:m.fr=O){v:V}{r:RV}{val:Value}(h:outV m.blk v=some r)(hr:VRel m v val):PRes w O r (.returned val) m.w:=by
 unfold outV at h;split at h
 ·rename_i cs hcs;split at h
  ·rename_i rs o q ho;split at h
   ·rename_i hap;cases h
    obtain⟨vs,hc,hsh⟩:=flatV_rel hcs hr;obtain⟨g1,g2⟩:=hsh rs (outCs_len ho);have hm:=(outCs_rel hok (Q:=fun _=>False) (fun _ h=>h.elim) ho hc (fun _ _ h=>h)).2;obtain⟨hnd,hdis⟩:=apart_nodup hok hap hm;have hQsub: ∀ b,(O b∨b∈o.map m.σ)→m.own b:=by
     intro b hb;rcases hb with hb|hb
     ·exact .inl (hfr▸hb)
     ·obtain⟨id,hid,rfl⟩:=List.mem_map.1 hb;obtain⟨ob,h1,h2⟩:=hm id hid;exact .inr ⟨id,ob,h1,h2,rfl⟩
    have hq: ∀ id∈q,¬ (O (m.σ id)∨m.σ id∈o.map m.σ):=by
     intro id hid hn;obtain⟨ob,hob⟩:=outCs_some ho id hid;by_cases hmi:ob.mine=true
     ·rcases hn with hn|hn
      ·exact(hok.above id ob hob hmi).2 (hfr▸hn)
      ·obtain⟨j,hj,he⟩:=List.mem_map.1 hn;obtain⟨ob',b1,b2⟩:=hm j hj;exact hdis id hid (hok.inj j id ob' ob b1 b2 hob hmi he▸hj)
     ·have hno: ¬ m.own (m.σ id):=by
       have hor:=hok.obj id ob hob;cases ob<;>simp[Ob.mine] at hmi
       ·obtain⟨_,_,_,_,_,hno⟩:=hor;exact hno
       ·obtain⟨_,_,_,_,_,_,_,_,_,hno⟩:=hor;exact hno
       ·obtain⟨_,_,_,_,_,hno⟩:=hor;exact hno
      exact hno (hQsub _ hn)
    obtain⟨hrc,_⟩:=outCs_rel hok hQsub ho hc hq;subst hm0;refine⟨val,o.map m.σ,rfl,⟨hev.os,hev.tape,hev.output,hev.size,fun c hc=>hev.keep c hc (hmine c)⟩,hnd,fun c hc=> ?_,vs,g2,by rw[g1];exact hrc⟩;obtain⟨id,hid,rfl⟩:=List.mem_map.1 hc;obtain⟨ob,h1,h2⟩:=hm id hid;exact⟨(hok.above id ob h1 h2).1,(hok.obj id ob h1).lt⟩
   ·cases h
  ·cases h
 ·cases h
theorem AVRel.vrel{w:World}{O:Nat→Prop}{m:Mem}(hw:m.w=w)(ho:m.own=O){x:V}{v:Value}(h:AVRel w O x v):VRel m x v:=by
 subst hw ho;cases x with
 |undef=>exact h.elim
 |tup _=>exact h.elim
 |one c=>
  cases c with
  |p x=>exact mk_p h
  |_=>exact h.elim
 |agg cs=>
  obtain⟨arr,ps,rfl,rfl,hp⟩:=h;exact VRel.agg.2 ⟨arr,rfl,hp.toC⟩
theorem runS_spec{sh:Ctx}{cp:PCall}{cs:SCall}{n:Nat}{fn:IFn}{args:List V}{blk blk':Blk}{v:V}(h:runS sh cp cs n fn args blk=some (v,blk')):
  ∃ e env vs,exec sh cp cs n fn.body (ienv args) blk=some (e,env,blk')∧(e= .normal∨e= .ret)∧resultsV sh.al env blk' fn.results=some vs∧v=tupV vs:=by
 unfold runS at h;split at h
 ·rename_i env b hx;simp only[Option.map_eq_some_iff] at h;obtain⟨vs,h1,h2⟩:=h;cases h2
  exact⟨_,env,vs,hx, .inl rfl,h1,rfl⟩
 ·rename_i env b hx;simp only[Option.map_eq_some_iff] at h;obtain⟨vs,h1,h2⟩:=h;cases h2
  exact⟨_,env,vs,hx, .inr rfl,h1,rfl⟩
 ·cases h
theorem run_sim{G:World→Prop}(hG:Good G w0){cp:PCall}{cs:SCall}(hP:PSound P G cp)(hS:SSound P G cs)(hL:SLocal cs)(hfo:P.follows .mixedOrders=true){sh:Ctx}{n f:Nat}{fn:IFn}(hc:compF P f=some fn){vs:List V}{m:Mem}{v:V}{blk':Blk}{args:Array Value}(h:runS sh cp cs n fn vs m.blk=some (v,blk'))
  (hl:vs.length≤fn.ntmps) (hok:Ok w0 m) (ha:Pw (VRel m) vs args.toList):Calls P f args m.w (SRes w0 m v blk'):=by
 obtain⟨kf,c,h1,h2,h3,h4,h5,h6⟩:=compF_spec hc;obtain⟨e,env,rs,hx,he,hres,rfl⟩:=runS_spec h;refine calls_of_wp h1 h2 ?_;obtain⟨s1,s2⟩:=start_rel (nt:=kf.ntmps) ha (by rw[← h6];exact hl);refine exec_sim hG hP hS hL hfo c h4 hx hok s1 s2 ?_;intro a' m' k1 k2 k3 k4 k5 k6 k7;subst k4;obtain⟨y,g1,g2⟩:=results_run k1 k5 h5 hres;have:bodyPost P kf (SRes w0 m (tupV rs) m'.blk) .normal a' m'.w:=⟨k7,y,g1,y,m',rfl,rfl,k1,k2,k3,rfl,g2⟩;rcases he with rfl|rfl
 ·exact this
 ·exact this
theorem enters_of{f:Nat}{fn:IFn}(hc:compF P f=some fn):Enters P f:=by
 obtain⟨kf,c,h1,h2,h3,_⟩:=compF_spec hc;exact⟨kf,c,h1,h2,h3⟩
theorem sound{S:Sys}{G:World→Prop}(h:SysOk S G): ∀ n,PSound S.P G (callP S n)∧SSound S.P G (callS S n)∧SLocal (callS S n):=by
 intro n
 induction n with
 |zero=>exact⟨fun f vs r h=>by simp[callP] at h,fun f vs al blk v blk' h=>by simp[callS] at h,fun f vs al blk v blk' h=>by simp[callS] at h⟩
 |succ n ih=>
  obtain⟨hP,hS,hL⟩:=ih;refine⟨?_,?_,?_⟩
  ·intro f vs r hc;rw[callP] at hc;split at hc
   ·rename_i r' hp;subst hc;exact h.prim f vs r hp
   ·split at hc
    ·rename_i fn hfn;have hcf:=h.fns f fn hfn;split at hc
     ·rename_i hl;refine⟨enters_of hcf,fun w O args hG hO ha=> ?_⟩;unfold runP at hc;split at hc
      ·rename_i v blk' hr
       let m0:Mem:=⟨w,noBlk,fun _=>0,fun _=>0,O⟩
       have hown:m0.own=O:=by
        funext c;apply propext;constructor
        ·rintro (h|⟨id,o,h,_⟩)
         ·exact h
         ·cases h
        ·exact .inl
       have hok:Ok w m0:=⟨rfl,rfl,rfl,Nat.le_refl _,fun _ _=>rfl,(fun id o h=>by cases h),(fun id o h=>by cases h),hO,(fun id id' o o' h=>by cases h)⟩;have hav:Pw (VRel m0) vs args.toList:=⟨ha.1,fun j x u p q=>(ha.2 j x u p q).vrel rfl hown⟩;refine(run_sim hG hP hS hL h.follow hcf (m:=m0) hr hl hok hav).mono ?_;rintro e w' ⟨val,m',rfl,rfl,q1,q2,q3,q4,q5⟩
       subst q4;exact out_rel (m0:=m0) q1 q2 rfl (fun c ⟨id,o,h,_⟩=>by cases h) q3 hc q5
      ·cases hc
     ·cases hc
    ·cases hc
  ·intro f vs al blk v blk' hc;rw[callS] at hc;split at hc
   ·rename_i fn hfn;have hcf:=h.fns f fn hfn;split at hc
    ·rename_i hl;refine⟨enters_of hcf,fun w0 m args hG hok hb ha=> ?_⟩;subst hb;exact run_sim hG hP hS hL h.follow hcf hc hl hok ha
    ·cases hc
   ·cases hc
  ·intro f vs al blk v blk' hc;rw[callS] at hc;split at hc
   ·rename_i fn hfn;split at hc
    ·rename_i hl;obtain⟨l1,l2⟩:=runS_al hL hc;refine⟨l1,fun blk2 h2=> ?_⟩;obtain⟨b3,h3,h4⟩:=l2 blk2 h2;exact⟨b3,by rw[callS];simp only[hfn,hl,if_true];exact h3,h4⟩
    ·cases hc
   ·cases hc
theorem PEv.calls{S:Sys}{G:World→Prop}(h:SysOk S G){f:Nat}{vs:List V}{r:RV}(hc:PEv S f vs r)(w:World)(hG:Good G w)(args:Array Value)(ha:Pw (AVRel w fun _=>False) vs args.toList):Calls S.P f args w (PRes w (fun _=>False) r):=by
 obtain⟨n,hn⟩:=hc;exact((sound h n).1 f vs r hn).2 w _ args hG (fun c h=>h.elim) ha
end Go.Abs
namespace Go.Abs
def fastNN(op:BinOp)(a b:Nat)(other:Option V):Option V:=
 match op with
 | .add=>bif Nat.ble (Nat.add a b) 9223372036854775807 then some (.one (.p (.int .i64 (.ofNat (Nat.add a b))))) else other
 | .sub=>bif Nat.ble b a then bif Nat.ble a 9223372036854775807 then some (.one (.p (.int .i64 (.ofNat (Nat.sub a b))))) else other else other
 | .mul=>bif Nat.ble (Nat.mul a b) 9223372036854775807 then some (.one (.p (.int .i64 (.ofNat (Nat.mul a b))))) else other
 | .eql=>some (.one (.p (.bool (Nat.beq a b))))
 | .neq=>some (.one (.p (.bool (!Nat.beq a b))))
 | .lss=>some (.one (.p (.bool (Nat.ble (Nat.succ a) b))))
 | .leq=>some (.one (.p (.bool (Nat.ble a b))))
 | .gtr=>some (.one (.p (.bool (Nat.ble (Nat.succ b) a))))
 | .geq=>some (.one (.p (.bool (Nat.ble b a))))
 | .rem=>bif Nat.beq b 0 then other else some (.one (.p (.int .i64 (.ofNat (Nat.mod a b)))))
 |_=>other
def binVF(op:BinOp)(x y:V):Option V:=
 match x,y with
 | .one (.p (.int .i64 (.ofNat a))), .one (.p (.int .i64 (.ofNat b)))=>fastNN op a b (binV op x y)
 |_,_=>binV op x y
theorem wrap_nat{n:Nat}(h:n≤9223372036854775807):IntKind.i64.wrap (n:Int)=n:=by
 have e:(2 ^ IntKind.i64.bits:Int)=18446744073709551616:=by decide
 have e2:(2 ^ (IntKind.i64.bits - 1):Int)=9223372036854775808:=by decide
 unfold IntKind.wrap;simp only[e,e2];have h1:(n:Int)%18446744073709551616=n:=by omega
 rw[h1];have h2: ¬ (n:Int)≥9223372036854775808:=by omega
 simp[h2]
theorem fastNN_eq(op:BinOp)(a b:Nat):fastNN op a b (binV op (.one (.p (.int .i64 (.ofNat a)))) (.one (.p (.int .i64 (.ofNat b)))))=binV op (.one (.p (.int .i64 (.ofNat a)))) (.one (.p (.int .i64 (.ofNat b)))):=by
 have hb: ∀ {x:Bool} {u v w:Option V},(x=true→u=w)→v=w→(bif x then u else v)=w:=by
  intro x u v w h1 h2;cases x with
  |false=>exact h2
  |true=>exact h1 rfl
 have ofn: ∀ n:Nat,(Int.ofNat n:Int)=(n:Int):=fun _=>rfl
 have ble: ∀ {a b:Nat},Nat.ble a b=decide ((a:Int)≤(b:Int)):=by
  intro a b;cases h:Nat.ble a b with
  |true=>have:=Nat.le_of_ble_eq_true h;symm;simp;omega
  |false=>
   symm;simp;have: ¬ a≤b:=fun hh=>by rw[Nat.ble_eq_true_of_le hh] at h;cases h
   omega
 have beq: ∀ {a b:Nat},Nat.beq a b=((a:Int)==(b:Int)):=by
  intro a b;by_cases h:a=b
  ·subst h;simp
  ·have h1:Nat.beq a b=false:=by
    cases e:Nat.beq a b with
    |false=>rfl
    |true=>exact(h (Nat.eq_of_beq_eq_true e)).elim
   rw[h1];symm;simp;omega
 cases op
 case add=>
  refine hb (fun h=> ?_) rfl;have h:a+b≤9223372036854775807:=Nat.le_of_ble_eq_true h;have:((a:Int)+(b:Int))=((a+b:Nat):Int):=by omega
  simp only[binV,binInt,true_or,if_true,Option.map_some,ofn];rw[this,wrap_nat h];rfl
 case sub=>
  refine hb (fun h0=>hb (fun h=> ?_) rfl) rfl;have h:=Nat.le_of_ble_eq_true h;have h0:=Nat.le_of_ble_eq_true h0;have:((a:Int) - (b:Int))=((a - b:Nat):Int):=by omega
  simp only[binV,binInt,true_or,if_true,Option.map_some,ofn];rw[this,wrap_nat (by omega)];rfl
 case mul=>
  refine hb (fun h=> ?_) rfl;have h:a*b≤9223372036854775807:=Nat.le_of_ble_eq_true h;have:((a:Int)*(b:Int))=((a*b:Nat):Int):=by simp
  simp only[binV,binInt,true_or,if_true,Option.map_some,ofn];rw[this,wrap_nat h];rfl
 case rem=>
  by_cases h0:b=0
  ·subst h0;rfl
  ·have h1:Nat.beq b 0=false:=by
    cases e:Nat.beq b 0 with
    |false=>rfl
    |true=>exact(h0 (Nat.eq_of_beq_eq_true e)).elim
   have h2: ¬ (b:Int)=0:=by omega
   simp only[fastNN,h1,cond_false,binV,binInt,true_or,if_true,Option.map_some,ofn,if_neg h2];rfl
 case eql=>simp only[fastNN,binV,binInt,true_or,if_true,Option.map_some,ofn,beq]
 case neq=>simp only[fastNN,binV,binInt,true_or,if_true,Option.map_some,ofn,beq];rfl
 case lss=>simp only[fastNN,binV,binInt,true_or,if_true,Option.map_some,ofn,ble];congr 4
 case leq=>simp only[fastNN,binV,binInt,true_or,if_true,Option.map_some,ofn,ble]
 case gtr=>simp only[fastNN,binV,binInt,true_or,if_true,Option.map_some,ofn,ble];congr 4
 case geq=>simp only[fastNN,binV,binInt,true_or,if_true,Option.map_some,ofn,ble]
 all_goals rfl
theorem binVF_eq(op:BinOp)(x y:V):binVF op x y=binV op x y:=by
 unfold binVF;split
 ·exact fastNN_eq _ _ _
 ·rfl
def asNF(v:V):Option Nat:=
 match v with
 | .one (.p (.int _ (.ofNat n)))=>some n
 |v=>asN v
theorem asNF_eq(v:V):asNF v=asN v:=by
 unfold asNF;split
 ·simp[asN]
 ·rfl
def boundOfF(env:Env)(d:Nat):Option IArg→Option Nat
 |none=>some d
 |some a=>asNF (ev env a)
theorem boundOfF_eq(env:Env)(d:Nat)(a:Option IArg):boundOfF env d a=boundOf env d a:=by
 cases a with
 |none=>rfl
 |some a=>simp only[boundOfF,boundOf,asNF_eq]
def plan_mov(env:Env)(x:IArg):Plan:= .done (ev env x) [] []
def plan_pick(env:Env)(c:IArg)(a:IArg)(b:IArg):Plan:=match ev env c with
  | .one (.p (.bool t))=> .done (if t then ev env a else ev env b) [] []
  |_=> .fail
def plan_alloc(blk:Blk)(s:Nat)(z:List PV):Plan:= .done (.one (.href s ((blk s).1+1) 0)) [(s,((blk s).1+1,some (.var (z.map .p))))] [s]
def plan_box(env:Env)(blk:Blk)(s:Nat)(x:IArg):Plan:=match cellsV (ev env x) with
  |some cs=> .done (.one (.href s ((blk s).1+1) 0)) [(s,((blk s).1+1,some (.var cs)))] [s]
  |none=> .fail
def plan_build(env:Env)(z:List PV)(ps:List (Nat × Nat × IArg)):Plan:=match partsV env ps with
  |some q=> .done (.agg (fill (z.map .p) q)) [] []
  |none=> .fail
def plan_bslice(env:Env)(blk:Blk)(s:Nat)(ty:Nat)(sz:Nat)(ps:List IArg):Plan:=match elemsV env sz ps with
  |some es=>match toPss es with
   |some qs=> .done (.one (.hsl s ((blk s).1+1) sz 0 es.length)) [(s,((blk s).1+1,some (.arr ty sz qs)))] [s]
   |none=> .done (.one (.hsl s ((blk s).1+1) sz 0 es.length)) [(s,((blk s).1+1,some (.carr ty sz es)))] [s]
  |none=> .fail
def plan_load(env:Env)(blk:Blk)(k:Option Nat)(x:IArg):Plan:=match rdAt blk (ev env x) with
  |some (cs,r)=>match takeV k cs with
   |some v=> .done v [] r
   |none=> .fail
  |none=> .fail
def plan_store(env:Env)(blk:Blk)(n:Nat)(a:IArg)(x:IArg):Plan:=match cellsV (ev env x) with
  |some xs=>wrAt blk (ev env a) n xs
  |none=> .fail
def plan_nilchk(env:Env)(x:IArg):Plan:=match ev env x with
  | .one (.href id g o)=> .done (.one (.href id g o)) [] []
  | .one (.hel id g i o)=> .done (.one (.hel id g i o)) [] []
  | .one (.p (.box cs))=> .done (.one (.p (.box cs))) [] []
  | .one (.hfn f a b)=> .done (.one (.hfn f a b)) [] []
  | .one (.p (.fn f a b))=> .done (.one (.p (.fn f a b))) [] []
  |_=> .fail
def plan_bin(env:Env)(op:BinOp)(x:IArg)(y:IArg):Plan:=match binVF op (ev env x) (ev env y) with
  |some v=> .done v [] []
  |none=> .fail
def plan_eqc(env:Env)(k:EqK)(neg:Bool)(x:IArg)(y:IArg):Plan:=match eqV k (ev env x) (ev env y) with
  |some b=> .done (.one (.p (.bool (if neg then !b else b)))) [] []
  |none=> .fail
def plan_un(env:Env)(op:UnOp)(x:IArg):Plan:=match op,ev env x with
  | .not, .one (.p (.bool b))=> .done (.one (.p (.bool (!b)))) [] []
  | .neg, .one (.p (.int k n))=> .done (.one (.p (.int k (k.wrap (0 - n))))) [] []
  |_,_=> .fail
def plan_conv(env:Env)(k:IntKind)(x:IArg):Plan:=match ev env x with
  | .one (.p (.int _ n))=> .done (.one (.p (.int k (k.wrap n)))) [] []
  |_=> .fail
def plan_bstr(env:Env)(blk:Blk)(x:IArg):Plan:=match elemsOf blk (ev env x) with
  |some (es,r,[])=>match bytesOf es with
   |some bs=> .done (.one (.p (.str ⟨bs.toArray⟩))) [] r
   |none=> .fail
  |_=> .fail
def plan_mkfn(env:Env)(f:Nat)(a:List IArg)(b:List IArg):Plan:=match onesC env a,onesC env b with
  |some x,some y=> .done (.one (.hfn f x y)) [] []
  |_,_=> .fail
def plan_mkmap(blk:Blk)(s:Nat)(ag:Bool):Plan:= .done (.one (.hmap s ((blk s).1+1))) [(s,((blk s).1+1,some (.map ag [])))] [s]
def plan_mkslice(env:Env)(blk:Blk)(s:Nat)(ty:Nat)(sz:Nat)(bytes:Nat)(z:List PV)(l:IArg)(c:IArg):Plan:=match asNF (ev env l),asNF (ev env c) with
  |some n,some m=>if n=m∧n*bytes≤room then
    .done (.one (.hsl s ((blk s).1+1) sz 0 n)) [(s,((blk s).1+1,some (.arr ty sz (List.replicate n z))))] [s]
   else .fail
  |_,_=> .fail
def plan_slice(env:Env)(sz:Nat)(x:IArg)(lo:Option IArg)(hi:Option IArg):Plan:=match lenL (ev env x) with
  |some n=>match boundOfF env 0 lo,boundOfF env n hi with
   |some l,some h=>planSlice (ev env x) sz l h
   |_,_=> .fail
  |none=> .fail
def plan_sslice(env:Env)(x:IArg)(lo:Option IArg)(hi:Option IArg):Plan:=match ev env x with
  | .one (.p (.str s))=>match boundOfF env 0 lo,boundOfF env s.size hi with
   |some l,some h=>if l≤h∧h≤s.size then .done (.one (.p (.str (s.extract l h)))) [] [] else .fail
   |_,_=> .fail
  |_=> .fail
def plan_faddr(env:Env)(off:Nat)(x:IArg):Plan:=match ev env x with
  | .one (.href id g o)=> .done (.one (.href id g (o+off))) [] []
  | .one (.hel id g i o)=> .done (.one (.hel id g i (o+off))) [] []
  | .one (.p (.box cs))=> .done (.one (.p (.box (cs.drop off)))) [] []
  |_=> .fail
def plan_iaddr(env:Env)(sz:Nat)(x:IArg)(i:IArg):Plan:=match asNF (ev env i),ev env x with
  |some n, .one (.p (.sl es))=>match es[n]? with
   |some e=>if e.length=sz then .done (.one (.p (.box e))) [] [] else .fail
   |none=> .fail
  |some n, .one (.hsl id g z off len)=>if n<len∧z=sz then .done (.one (.hel id g (off+n) 0)) [] [] else .fail
  |_,_=> .fail
def plan_aaddr(env:Env)(len:Nat)(sz:Nat)(x:IArg)(i:IArg):Plan:=match asNF (ev env i),ev env x with
  |some n, .one (.href id g o)=>if n<len then .done (.one (.href id g (o+n*sz))) [] [] else .fail
  |some n, .one (.hel id g j o)=>if n<len then .done (.one (.hel id g j (o+n*sz))) [] [] else .fail
  |some n, .one (.p (.box cs))=>if n<len then .done (.one (.p (.box (cs.drop (n*sz))))) [] [] else .fail
  |_,_=> .fail
def plan_fld(env:Env)(off:Nat)(k:Option Nat)(x:IArg):Plan:=match ev env x with
  | .agg cs=>match takeV k (cs.drop off) with
   |some v=> .done v [] []
   |none=> .fail
  |_=> .fail
def plan_aidx(env:Env)(len:Nat)(sz:Nat)(k:Option Nat)(x:IArg)(i:IArg):Plan:=match asNF (ev env i),ev env x with
  |some n, .agg cs=>if n<len then
    match takeV k (cs.drop (n*sz)) with
    |some v=> .done v [] []
    |none=> .fail
   else .fail
  |_,_=> .fail
def plan_sidx(env:Env)(x:IArg)(i:IArg):Plan:=match asNF (ev env i),ev env x with
  |some n, .one (.p (.str s))=>match s[n]? with
   |some b=> .done (.one (.p (.int .u8 b.toNat))) [] []
   |none=> .fail
  |_,_=> .fail
def plan_lookup(env:Env)(blk:Blk)(kd:Nat)(z:List PV)(agg:Bool)(ok:Bool)(x:IArg)(k:IArg):Plan:=match mapOf blk agg (ev env x),ev env k with
  |some (es,r), .one (.p q)=>if keyKd q≠kd then .fail else match findK q es 0 with
   |some f=>match mapVal agg ((f.map (·.2)).getD z) with
    |some w=> .done (if ok then .tup [w, .one (.p (.bool f.isSome))] else w) [] r
    |none=> .fail
   |none=> .fail
  |_,_=> .fail
def plan_bad:Plan:= .fail
def plan_mupd(env:Env)(blk:Blk)(kd:Nat)(ag:Bool)(m:IArg)(k:IArg)(v:IArg):Plan:=match ev env m,ev env k,cellsAg ag (ev env v) with
  | .one (.hmap id g), .one (.p q),some cs=>match blk id,toPs cs with
   |(g',some (.map ag' es)),some ps=>if g'=g∧ag'=ag∧keyKd q=kd then
     match findK q es 0 with
     |some (some (i,_))=> .done .undef [(id,(g,some (.map ag (es.set i (q,ps)))))] [id]
     |some none=> .done .undef [(id,(g,some (.map ag (es++[(q,ps)]))))] [id]
     |none=> .fail
    else .fail
   |_,_=> .fail
  |_,_,_=> .fail
def plan_extract(env:Env)(x:IArg)(i:Nat):Plan:=match ev env x with
  | .tup vs=>match vs[i]? with
   |some v=> .done v [] []
   |none=> .fail
  |_=> .fail
def plan_call(shared:Nat→Bool)(env:Env)(blk:Blk)(s:Nat)(f:IArg)(as:List IArg):Plan:=match fnOf env f with
  |some (g,a,b)=>
   if shared g then .sc g (a.map .one++as.map (ev env)++b.map .one)
   else match snapVs blk (a.map .one++as.map (ev env)++b.map .one) with
    |some (vs,r)=> .pc g vs r s
    |none=> .fail
  |none=> .fail
def plan_slen(env:Env)(x:IArg):Plan:=match ev env x with
  | .one (.p (.str s))=> .done (.one (.p (.int .i64 s.size))) [] []
  |_=> .fail
def plan_llen(env:Env)(x:IArg):Plan:=match lenL (ev env x) with
  |some n=> .done (.one (.p (.int .i64 n))) [] []
  |none=> .fail
def plan_mlen(env:Env)(blk:Blk)(x:IArg):Plan:=match lenM blk (ev env x) with
  |some (n,r)=> .done (.one (.p (.int .i64 n))) [] r
  |none=> .fail
def plan_append(env:Env)(blk:Blk)(s:Nat)(ty:Nat)(sz:Nat)(bytes:Nat)(d:IArg)(x:IArg):Plan:=planAppend blk s ty sz bytes (ev env d) (ev env x)
def plan_max(env:Env)(x:IArg)(y:IArg):Plan:=match ev env x,ev env y with
  | .one (.p (.int k a)), .one (.p (.int _ b))=> .done (.one (.p (.int k (if b>a then b else a)))) [] []
  |_,_=> .fail
def plan_min(env:Env)(x:IArg)(y:IArg):Plan:=match ev env x,ev env y with
  | .one (.p (.int k a)), .one (.p (.int _ b))=> .done (.one (.p (.int k (if b<a then b else a)))) [] []
  |_,_=> .fail
def plan_clear(env:Env)(blk:Blk)(z:List PV)(x:IArg):Plan:=match ev env x with
  | .one (.p .nils)=> .done (.tup []) [] []
  | .one (.p (.sl []))=> .done (.tup []) [] []
  | .one (.hsl id g _ off len)=>if len=0 then .done (.tup []) [] [] else match blk id with
   |(g',some (.arr ty sz es))=>if g'=g∧sz=z.length∧off+len≤es.length then .done (.tup []) [(id,(g,some (.arr ty sz (splice es off (List.replicate len z)))))] [id] else .fail
   |_=> .fail
  |_=> .fail
def planF(shared:Nat→Bool)(env:Env)(blk:Blk):IOp→Plan
 | .mov x=>plan_mov env x
 | .pick c a b=>plan_pick env c a b
 | .alloc s z=>plan_alloc blk s z
 | .box s x=>plan_box env blk s x
 | .build z ps=>plan_build env z ps
 | .bslice s ty sz ps=>plan_bslice env blk s ty sz ps
 | .load k x=>plan_load env blk k x
 | .store n a x=>plan_store env blk n a x
 | .nilchk x=>plan_nilchk env x
 | .bin op x y=>plan_bin env op x y
 | .eqc k neg x y=>plan_eqc env k neg x y
 | .un op x=>plan_un env op x
 | .conv k x=>plan_conv env k x
 | .bstr x=>plan_bstr env blk x
 | .mkfn f a b=>plan_mkfn env f a b
 | .mkmap s ag=>plan_mkmap blk s ag
 | .mkslice s ty sz bytes z l c=>plan_mkslice env blk s ty sz bytes z l c
 | .slice sz x lo hi=>plan_slice env sz x lo hi
 | .sslice x lo hi=>plan_sslice env x lo hi
 | .faddr off x=>plan_faddr env off x
 | .iaddr sz x i=>plan_iaddr env sz x i
 | .aaddr len sz x i=>plan_aaddr env len sz x i
 | .fld off k x=>plan_fld env off k x
 | .aidx len sz k x i=>plan_aidx env len sz k x i
 | .sidx x i=>plan_sidx env x i
 | .lookup kd z agg ok x k=>plan_lookup env blk kd z agg ok x k
 | .bad=>plan_bad
 | .mupd kd ag m k v=>plan_mupd env blk kd ag m k v
 | .extract x i=>plan_extract env x i
 | .call s f as=>plan_call shared env blk s f as
 | .slen x=>plan_slen env x
 | .llen x=>plan_llen env x
 | .mlen x=>plan_mlen env blk x
 | .append s ty sz bytes d x=>plan_append env blk s ty sz bytes d x
 | .max x y=>plan_max env x y
 | .min x y=>plan_min env x y
 | .clear z x=>plan_clear env blk z x
theorem planF_eq(shared:Nat→Bool)(env:Env)(blk:Blk)(o:IOp):planF shared env blk o=plan shared env blk o:=by
 cases o<;>first
  |rfl
  |simp only[planF,plan,plan_bin,plan_mkslice,plan_slice,plan_sslice,plan_iaddr,plan_aaddr,plan_aidx,plan_sidx,binVF_eq,asNF_eq,boundOfF_eq]<;>rfl
inductive Tr where
 |leaf
 |node (v:V) (l r:Tr)
noncomputable def Tr.get (t:Tr):Nat→V:=
 Tr.rec (motive:=fun _=>Nat→V) (fun _=> .undef) (fun v _ _ gl gr n=>bif Nat.beq n 0 then v else bif Nat.beq (Nat.mod n 2) 1 then gl (Nat.div n 2) else gr (Nat.sub (Nat.div n 2) 1)) t
noncomputable def Tr.single (k:Nat):Nat→V→Tr:=
 Nat.rec (motive:=fun _=>Nat→V→Tr) (fun _ _=> .leaf) (fun _ ih n x=>bif Nat.beq n 0 then .node x .leaf .leaf else bif Nat.beq (Nat.mod n 2) 1 then .node .undef (ih (Nat.div n 2) x) .leaf else .node .undef .leaf (ih (Nat.sub (Nat.div n 2) 1) x)) k
noncomputable def Tr.set (t:Tr):Nat→V→Tr:=
 Tr.rec (motive:=fun _=>Nat→V→Tr) (fun n x=>Tr.single 12 n x) (fun v l r sl sr n x=>bif Nat.beq n 0 then .node x l r else bif Nat.beq (Nat.mod n 2) 1 then .node v (sl (Nat.div n 2) x) r else .node v l (sr (Nat.sub (Nat.div n 2) 1) x)) t
theorem nbeq_ne{a b:Nat}(h:a≠b):Nat.beq a b=false:=by
 cases e:Nat.beq a b with
 |false=>rfl
 |true=>exact(h (Nat.eq_of_beq_eq_true e)).elim
theorem get_leaf(n:Nat):Tr.leaf.get n= .undef:=rfl
theorem get_node(v:V)(l r:Tr)(n:Nat):(Tr.node v l r).get n=if n=0 then v else if n%2=1 then l.get (n/2) else r.get (n/2 - 1):=by
 show(bif Nat.beq n 0 then v else bif Nat.beq (n%2) 1 then l.get (n/2) else r.get (n/2 - 1))=_;by_cases h0:n=0
 ·subst h0;rfl
 ·rw[nbeq_ne h0,if_neg h0];by_cases h1:n%2=1
  ·rw[h1];rfl
  ·rw[nbeq_ne h1,if_neg h1];rfl
theorem step_node(f:Tr→Tr)(g:Tr→Tr)(v:V)(l r:Tr)(n m:Nat)(x:V)(hl:n%2=1→(f l).get (m/2)=if m/2=n/2 then x else l.get (m/2))(hr:n≠0→n%2≠1→(g r).get (m/2 - 1)=if m/2 - 1=n/2 - 1 then x else r.get (m/2 - 1)):
  (bif Nat.beq n 0 then Tr.node x l r else bif Nat.beq (n%2) 1 then .node v (f l) r else .node v l (g r)).get m=if m=n then x else (Tr.node v l r).get m:=by
 by_cases h0:n=0
 ·subst h0;simp only[Nat.beq_refl,cond_true,get_node];by_cases hm:m=0<;>simp[hm]
 ·rw[nbeq_ne h0];by_cases h1:n%2=1
  ·rw[h1];simp only[cond_false,Nat.beq_refl,cond_true,get_node];by_cases hm:m=0
   ·subst hm;rw[if_pos rfl,if_neg (fun e=>h0 e.symm),if_pos rfl]
   ·rw[if_neg hm];by_cases hm1:m%2=1
    ·rw[if_pos hm1,hl h1];by_cases he:m=n
     ·subst he;simp
     ·rw[if_neg he,if_neg (by omega),if_neg hm,if_pos hm1]
    ·rw[if_neg hm1,if_neg (by omega),if_neg hm,if_neg hm1]
  ·rw[nbeq_ne h1];simp only[cond_false,get_node];by_cases hm:m=0
   ·subst hm;rw[if_pos rfl,if_neg (fun e=>h0 e.symm),if_pos rfl]
   ·rw[if_neg hm];by_cases hm1:m%2=1
    ·rw[if_pos hm1,if_neg (by omega),if_neg hm,if_pos hm1]
    ·rw[if_neg hm1,hr h0 h1];by_cases he:m=n
     ·subst he;simp
     ·rw[if_neg he,if_neg (by omega),if_neg hm,if_neg hm1]
theorem single_get: ∀ (k n m:Nat) (x:V),n+1<2 ^ k→(Tr.single k n x).get m=if m=n then x else Tr.leaf.get m:=by
 intro k
 induction k with
 |zero=>intro n m x h;simp at h
 |succ k ih=>
  intro n m x h;have hp:2 ^ (k+1)=2*2 ^ k:=by rw[Nat.pow_succ];omega
  have:=step_node (fun _=>Tr.single k (n/2) x) (fun _=>Tr.single k (n/2 - 1) x) .undef .leaf .leaf n m x (fun _=>ih _ _ _ (by omega)) (fun _ _=>ih _ _ _ (by omega));have e:(Tr.node .undef .leaf .leaf).get m=Tr.leaf.get m:=by rw[get_node];simp[get_leaf]
  rw[e] at this;exact this
theorem Tr.get_set: ∀ (t:Tr) (n m:Nat) (x:V),n+1<2 ^ 12→(t.set n x).get m=if m=n then x else t.get m:=by
 intro t
 induction t with
 |leaf=>intro n m x h;exact single_get 12 n m x h
 |node v l r ihl ihr=>
  intro n m x h;exact step_node (fun l=>l.set (n/2) x) (fun r=>r.set (n/2 - 1) x) v l r n m x (fun _=>ihl _ _ _ (by omega)) (fun _ _=>ihr _ _ _ (by omega))
abbrev BL:=List (Nat × (Nat × Option Ob))
noncomputable def getB (b:BL) (n:Nat):Nat × Option Ob:=
 List.rec (motive:=fun _=>Nat × Option Ob) (0,none) (fun p _ ih=>bif Nat.beq p.1 n then p.2 else ih) b
noncomputable def setB':BL→Nat→Nat × Option Ob→BL
 |[],n,x=>[(n,x)]
 |(i,o)::r,n,x=>bif Nat.beq i n then (i,x)::r else (i,o)::setB' r n x
theorem getB_set: ∀ (b:BL) (n:Nat) (x:Nat × Option Ob) (m:Nat),getB (setB' b n x) m=if m=n then x else getB b m:=by
 intro b
 induction b with
 |nil=>
  intro n x m;simp only[setB',getB];by_cases h:m=n
  ·subst h;simp
  ·have:Nat.beq n m=false:=nbeq_ne fun e=>h e.symm
   simp[this,h]
 |cons p b ih=>
  obtain⟨i,o⟩:=p;intro n x m;simp only[setB'];by_cases h:i=n
  ·subst h;simp only[Nat.beq_refl,cond_true,getB];by_cases hm:m=i
   ·subst hm;simp
   ·have:Nat.beq i m=false:=nbeq_ne fun e=>hm e.symm
    simp[this,hm]
  ·have:Nat.beq i n=false:=nbeq_ne h;simp only[this,cond_false,getB];by_cases hm:i=m
   ·subst hm;simp[h]
   ·have:Nat.beq i m=false:=nbeq_ne hm;simp only[this,cond_false];exact ih n x m
noncomputable def tEnv (t:Tr):Env:=fun i=>t.get i
noncomputable def tBlk (b:BL):Blk:=fun i=>getB b i
noncomputable def trOf:Nat→List V→Tr→Tr
 |_,[],t=>t
 |i,a::r,t=>trOf (i+1) r (t.set i a)
theorem trOf_get: ∀ (l:List V) (i:Nat) (t:Tr) (m:Nat),i+l.length<4095→(trOf i l t).get m=if i≤m∧m<i+l.length then l.getD (m - i) .undef else t.get m:=by
 intro l
 induction l with
 |nil=>intro i t m _;simp[trOf];intro h1 h2;omega
 |cons a r ih=>
  intro i t m h;simp only[List.length_cons] at h ⊢;rw[trOf,ih (i+1) _ m (by omega),Tr.get_set t i m a (by omega)];by_cases h1:m=i
  ·subst h1;rw[if_neg (by omega),if_pos rfl,if_pos (by omega)];simp
  ·rw[if_neg h1];by_cases h2:i+1≤m∧m<i+1+r.length
   ·rw[if_pos h2,if_pos (by omega)];obtain⟨k,rfl⟩: ∃ k,m=i+1+k:=⟨m - (i+1),by omega⟩;rw[show i+1+k - (i+1)=k by omega,show i+1+k - i=k+1 by omega];simp
   ·rw[if_neg h2,if_neg (by omega)]
theorem toE_args{args:List V}(h:args.length<4095):tEnv (trOf 0 args .leaf)=ienv args:=by
 funext m;unfold tEnv ienv;rw[trOf_get args 0 .leaf m (by omega)];by_cases hm:m<args.length
 ·rw[if_pos (by omega)];rfl
 ·rw[if_neg (by omega)];simp[Tr.get,List.getD,List.getElem?_eq_none (Nat.le_of_not_lt hm)]
noncomputable def withN {α:Type} (n:Nat) (k:Nat→α):α:=match n with
 |0=>k 0
 |m+1=>k (m+1)
noncomputable def withI {α:Type} (z:Int) (k:Int→α):α:=match z with
 | .ofNat n=>withN n fun n=>k (.ofNat n)
 | .negSucc n=>withN n fun n=>k (.negSucc n)
noncomputable def withV {α:Type} (v:V) (k:V→α):α:=match v with
 | .one (.p (.int t z))=>withI z fun z=>k (.one (.p (.int t z)))
 | .one (.p (.bool b))=>match b with
  |true=>k (.one (.p (.bool true)))
  |false=>k (.one (.p (.bool false)))
 |v=>k v
@[simp] theorem withN_eq {α:Type} (n:Nat) (k:Nat→α):withN n k=k n:=by cases n<;>rfl
@[simp] theorem withI_eq {α:Type} (z:Int) (k:Int→α):withI z k=k z:=by cases z<;>simp[withI]
@[simp] theorem withV_eq {α:Type} (v:V) (k:V→α):withV v k=k v:=by
 unfold withV;split
 ·simp
 ·split<;>rfl
 ·rfl
def oksF(al:Al)(l:List Nat):Bool:=bif al.any then true else al.oks l
theorem oksF_eq(al:Al)(l:List Nat):oksF al l=al.oks l:=by
 unfold oksF;cases h:al.any with
 |false=>rfl
 |true=>simp[Al.oks,Al.ok,h]
abbrev SCallF:=Nat→List V→Al→BL→Option (V × BL)
noncomputable def appF:List Upd→BL→BL
 |[],b=>b
 |(i,o)::r,b=>appF r (setB' b i o)
theorem toB_app: ∀ (u:List Upd) (b:BL),tBlk (appF u b)=app u (tBlk b):=by
 intro u
 induction u with
 |nil=>intro b;rfl
 |cons x u ih=>
  obtain⟨i,o⟩:=x;intro b;simp only[appF,app];rw[ih];congr 1;funext m;exact getB_set b i o m
noncomputable def putF (t:Tr) (d:Option Nat) (v:V) (k:Tr→Option (Tr × BL × Eff)):Option (Tr × BL × Eff):=match d with
 |none=>k t
 |some n=>bif Nat.ble n 4000 then withV v fun v=>k (t.set n v) else none
noncomputable def stepF (sh:Ctx) (cp:PCall) (cs:SCallF) (o:IOper) (t:Tr) (b:BL):Option (Tr × BL × Eff):=
 match wanted (tEnv t) o.guard with
 |none=>none
 |some false=>putF t o.dst .undef fun t'=>some (t',b,⟨[],[],[]⟩)
 |some true=>match planF sh.shared (tEnv t) (tBlk b) o.op with
  | .fail=>none
  | .done v u r=>bif oksF sh.al (r++u.map (·.1)) then putF t o.dst v fun t'=>some (t',appF u b,⟨r,u.map (·.1),[]⟩) else none
  | .pc f vs r s=>match cp f vs with
   |some x=>match land (tBlk b) r s (x.pureIf (sh.lone s)) with
    |some (v,u)=>bif oksF sh.al (r++u.map (·.1)) then putF t o.dst v fun t'=>some (t',appF u b,⟨r++u.map (·.1),u.map (·.1),[]⟩) else none
    |none=>none
   |none=>none
  | .sc f vs=>match allow sh f vs (tBlk b) with
   |al=>bif sh.al.holds al then
     match cs f vs al b with
     |some (v,b')=>putF t o.dst v fun t'=>some (t',b',⟨al.ids,al.ids,al.fs⟩)
     |none=>none
    else none
noncomputable def SimS (cs:SCall) (cf:SCallF):Prop:= ∀ f vs al b v b',cf f vs al b=some (v,b')→cs f vs al (tBlk b)=some (v,tBlk b')
theorem putF_ok{t t':Tr}{d:Option Nat}{v:V}{b b':BL}{e e':Eff}(h:putF t d v (fun t'=>some (t',b,e))=some (t',b',e')):put (tEnv t) d v=tEnv t'∧b=b'∧e=e':=by
 unfold putF at h;split at h
 ·cases h;exact⟨rfl,rfl,rfl⟩
 ·rename_i n;cases hn:Nat.ble n 4000 with
  |false=>rw[hn] at h;cases h
  |true=>
   rw[hn] at h;simp only[cond_true,withV_eq] at h;cases h
   refine⟨?_,rfl,rfl⟩;have:=Nat.le_of_ble_eq_true hn;funext m;unfold tEnv put;exact(Tr.get_set t n m v (by omega)).symm
theorem stepF_ok{sh:Ctx}{cp:PCall}{cs:SCall}{cf:SCallF}(hs:SimS cs cf){o:IOper}{t t':Tr}{b b':BL}{e:Eff}(h:stepF sh cp cf o t b=some (t',b',e)):step1 sh cp cs o (tEnv t) (tBlk b)=some (tEnv t',tBlk b',e):=by
 unfold stepF at h;simp only[planF_eq,oksF_eq] at h;unfold step1;split at h
 ·cases h
 ·rename_i hw;rw[hw];obtain⟨h1,rfl,rfl⟩:=putF_ok h;simp only[h1]
 ·rename_i hw;rw[hw];simp only;split at h
  ·cases h
  ·rename_i v u r hp;cases hok:sh.al.oks (r++u.map (·.1)) with
   |false=>rw[hok] at h;cases h
   |true=>
    rw[hok] at h;obtain⟨h1,rfl,rfl⟩:=putF_ok h;simp only[hp,hok,if_true,h1,toB_app]
  ·rename_i f vs r s hp;split at h
   ·rename_i x hx;split at h
    ·rename_i v u hl;cases hok:sh.al.oks (r++u.map (·.1)) with
     |false=>rw[hok] at h;cases h
     |true=>
      rw[hok] at h;obtain⟨h1,rfl,rfl⟩:=putF_ok h;simp only[hp,hx,hl,hok,if_true,h1,toB_app]
    ·cases h
   ·cases h
  ·rename_i f vs hp;cases hok:sh.al.holds (allow sh f vs (tBlk b)) with
   |false=>rw[hok] at h;cases h
   |true=>
    rw[hok] at h;simp only[cond_true] at h;split at h
    ·rename_i v b1 hc;obtain⟨h1,rfl,rfl⟩:=putF_ok h;simp only[hp,hok,if_true,hs _ _ _ _ _ _ hc,h1]
    ·cases h
noncomputable def stepsC (sh:Ctx) (cp:PCall) (cs:SCallF) (o:IOper) (ih:Tr→BL→Option (Tr × BL × List Eff)) (env:Tr) (blk:BL):Option (Tr × BL × List Eff):=
 match stepF sh cp cs o env blk with
 |some (env',blk',e)=>match ih env' blk' with
  |some (env'',blk'',es)=>some (env'',blk'',e::es)
  |none=>none
 |none=>none
noncomputable def stepsF (sh:Ctx) (cp:PCall) (cs:SCallF) (l:List IOper):Tr→BL→Option (Tr × BL × List Eff):=
 List.rec (motive:=fun _=>Tr→BL→Option (Tr × BL × List Eff)) (fun env blk=>some (env,blk,[])) (fun o _ ih=>stepsC sh cp cs o ih) l
theorem stepsF_nil(sh:Ctx)(cp:PCall)(cs:SCallF)(env:Tr)(blk:BL):stepsF sh cp cs [] env blk=some (env,blk,[]):=rfl
theorem stepsF_cons(sh:Ctx)(cp:PCall)(cs:SCallF)(o:IOper)(r:List IOper)(env:Tr)(blk:BL):stepsF sh cp cs (o::r) env blk=match stepF sh cp cs o env blk with
  |some (env',blk',e)=>match stepsF sh cp cs r env' blk' with
   |some (env'',blk'',es)=>some (env'',blk'',e::es)
   |none=>none
  |none=>none:=rfl
theorem stepsF_ok{sh:Ctx}{cp:PCall}{cs:SCall}{cf:SCallF}(hs:SimS cs cf): ∀ {ops:List IOper} {t t':Tr} {b b':BL} {es:List Eff},stepsF sh cp cf ops t b=some (t',b',es)→steps sh cp cs ops (tEnv t) (tBlk b)=some (tEnv t',tBlk b',es):=by
 intro ops
 induction ops with
 |nil=>intro t t' b b' es h;simp only[stepsF_nil,Option.some.injEq,Prod.mk.injEq] at h;obtain⟨rfl,rfl,rfl⟩:=h;rfl
 |cons o r ih=>
  intro t t' b b' es h;simp only[stepsF_cons] at h;split at h
  ·rename_i t1 b1 e1 h1;split at h
   ·rename_i t2 b2 es2 h2;cases h
    simp only[steps,stepF_ok hs h1,ih h2]
   ·cases h
  ·cases h
noncomputable def iterF (f:Tr→BL→Option (AExit × Tr × BL)) (n:Nat):Tr→BL→Option (AExit × Tr × BL):=
 Nat.rec (motive:=fun _=>Tr→BL→Option (AExit × Tr × BL)) (fun _ _=>none) (fun _ ih env blk=>match f env blk with
  |some (.normal,env',blk')=>ih env' blk'
  |r=>r) n
theorem iterF_succ(f:Tr→BL→Option (AExit × Tr × BL))(n:Nat)(env:Tr)(blk:BL):iterF f (n+1) env blk=match f env blk with
  |some (.normal,env',blk')=>iterF f n env' blk'
  |r=>r:=rfl
abbrev Ex:=Tr→BL→Option (AExit × Tr × BL)
noncomputable def exRegion (sh:Ctx) (cp:PCall) (cs:SCallF) (d:Bool) (ops:List IOper):Ex:=fun env blk=>match stepsF sh cp cs ops env blk with
  |some (env',blk',es)=>bif d then (bif okDraw ops [] es then some (.normal,env',blk') else none) else some (.normal,env',blk')
  |none=>none
noncomputable def exSeq (a b:Ex):Ex:=fun env blk=>match a env blk with
  |some (.normal,env',blk')=>b env' blk'
  |r=>r
noncomputable def exCond (x:IArg) (a b:Ex):Ex:=fun env blk=>match ev (tEnv env) x with
  | .one (.p (.bool t))=>bif t then a env blk else b env blk
  |_=>none
noncomputable def exBlock (id:Nat) (c:Ex):Ex:=fun env blk=>match c env blk with
  |some (.exit i,env',blk')=>bif Nat.beq i id then some (.normal,env',blk') else some (.exit i,env',blk')
  |r=>r
noncomputable def execF (sh:Ctx) (cp:PCall) (cs:SCallF) (n:Nat) (c:ICode):Ex:=
 ICode.rec (motive:=fun _=>Ex) (fun env blk=>some (.normal,env,blk)) (fun d ops=>exRegion sh cp cs d ops) (fun _ _ a b=>exSeq a b) (fun x _ _ a b=>exCond x a b)
  (fun id _ c=>exBlock id c) (fun _ c=>iterF c n) (fun id env blk=>some (.exit id,env,blk)) (fun env blk=>some (.ret,env,blk)) (fun _ _=>none) c
section
variable (sh:Ctx) (cp:PCall) (cs:SCallF) (n:Nat) (env:Tr) (blk:BL)
theorem execF_skip:execF sh cp cs n .skip env blk=some (.normal,env,blk):=rfl
theorem execF_exit(id:Nat):execF sh cp cs n (.exit id) env blk=some (.exit id,env,blk):=rfl
theorem execF_ret:execF sh cp cs n .ret env blk=some (.ret,env,blk):=rfl
theorem execF_region(d:Bool)(ops:List IOper):execF sh cp cs n (.region d ops) env blk=match stepsF sh cp cs ops env blk with
  |some (env',blk',es)=>bif d then (bif okDraw ops [] es then some (.normal,env',blk') else none) else some (.normal,env',blk')
  |none=>none:=rfl
theorem execF_seq(a b:ICode):execF sh cp cs n (.seq a b) env blk=match execF sh cp cs n a env blk with
  |some (.normal,env',blk')=>execF sh cp cs n b env' blk'
  |r=>r:=rfl
theorem execF_cond(x:IArg)(a b:ICode):execF sh cp cs n (.cond x a b) env blk=match ev (tEnv env) x with
  | .one (.p (.bool t))=>bif t then execF sh cp cs n a env blk else execF sh cp cs n b env blk
  |_=>none:=rfl
theorem execF_block(id:Nat)(c:ICode):execF sh cp cs n (.block id c) env blk=match execF sh cp cs n c env blk with
  |some (.exit i,env',blk')=>bif Nat.beq i id then some (.normal,env',blk') else some (.exit i,env',blk')
  |r=>r:=rfl
theorem execF_loop(c:ICode):execF sh cp cs n (.loop c) env blk=iterF (execF sh cp cs n c) n env blk:=rfl
end
theorem iterF_ok{f:Tr→BL→Option (AExit × Tr × BL)}{g:Env→Blk→Option (AExit × Env × Blk)}(hfg: ∀ t b e t' b',f t b=some (e,t',b')→g (tEnv t) (tBlk b)=some (e,tEnv t',tBlk b')):
  ∀ (n:Nat) {t t':Tr} {b b':BL} {e:AExit},iterF f n t b=some (e,t',b')→iter g n (tEnv t) (tBlk b)=some (e,tEnv t',tBlk b'):=by
 intro n
 induction n with
 |zero=>intro t t' b b' e h;cases h
 |succ n ih=>
  intro t t' b b' e h;simp only[iterF_succ] at h;simp only[iter];split at h
  ·rename_i t1 b1 h1;rw[hfg _ _ _ _ _ h1];exact ih h
  ·rename_i hne;rw[hfg _ _ _ _ _ h];cases e with
   |normal=>exact(hne _ _ h).elim
   |exit i=>rfl
   |ret=>rfl
theorem execF_ok{sh:Ctx}{cp:PCall}{cs:SCall}{cf:SCallF}(hs:SimS cs cf){n:Nat}: ∀ (c:ICode) {t t':Tr} {b b':BL} {e:AExit},execF sh cp cf n c t b=some (e,t',b')→exec sh cp cs n c (tEnv t) (tBlk b)=some (e,tEnv t',tBlk b'):=by
 intro c
 induction c with
 |skip=>intro t t' b b' e h;simp only[execF_skip,Option.some.injEq,Prod.mk.injEq] at h;obtain⟨rfl,rfl,rfl⟩:=h;rfl
 |exit id=>intro t t' b b' e h;simp only[execF_exit,Option.some.injEq,Prod.mk.injEq] at h;obtain⟨rfl,rfl,rfl⟩:=h;rfl
 |ret=>intro t t' b b' e h;simp only[execF_ret,Option.some.injEq,Prod.mk.injEq] at h;obtain⟨rfl,rfl,rfl⟩:=h;rfl
 |bad=>intro t t' b b' e h;cases h
 |region d ops=>
  intro t t' b b' e h;simp only[execF_region] at h;simp only[exec];split at h
  ·rename_i t1 b1 es h1;rw[stepsF_ok hs h1];simp only;cases d with
   |false=>simp only[cond_false] at h;cases h;simp
   |true=>
    simp only[cond_true] at h;cases hd:okDraw ops [] es with
    |false=>rw[hd] at h;cases h
    |true=>rw[hd] at h;simp only[cond_true] at h;cases h;simp
  ·cases h
 |seq x y ihx ihy=>
  intro t t' b b' e h;simp only[execF_seq] at h;simp only[exec];split at h
  ·rename_i t1 b1 h1;rw[ihx h1];exact ihy h
  ·rename_i hne;rw[ihx h];cases e with
   |normal=>exact(hne _ _ h).elim
   |exit i=>rfl
   |ret=>rfl
 |cond x p q ihp ihq=>
  intro t t' b b' e h;simp only[execF_cond] at h;simp only[exec];split at h
  ·rename_i tt ht;rw[ht];cases tt with
   |true=>simp only[cond_true] at h;simpa using ihp h
   |false=>simp only[cond_false] at h;simpa using ihq h
  ·cases h
 |block id c ih=>
  intro t t' b b' e h;simp only[execF_block] at h;simp only[exec];split at h
  ·rename_i i t1 b1 h1;rw[ih h1];simp only;cases hi:Nat.beq i id with
   |true=>rw[hi] at h;simp only[cond_true] at h;cases h;rw[if_pos (Nat.eq_of_beq_eq_true hi)]
   |false=>
    rw[hi] at h;simp only[cond_false] at h;cases h
    rw[if_neg];intro hh;rw[hh,Nat.beq_refl] at hi;cases hi
  ·rename_i hne;rw[ih h];cases e with
   |normal=>rfl
   |exit i=>exact(hne _ _ _ h).elim
   |ret=>rfl
 |loop c ih=>
  intro t t' b b' e h;simp only[execF_loop] at h;simp only[exec];exact iterF_ok (fun _ _ _ _ _ h=>ih h) n h
noncomputable def runSF (sh:Ctx) (cp:PCall) (cs:SCallF) (n:Nat) (fn:IFn) (args:List V) (blk:BL):Option (V × BL):=
 bif Nat.ble args.length 4000 then
  match execF sh cp cs n fn.body (trOf 0 args .leaf) blk with
  |some (.normal,env,blk')=>(resultsV sh.al (tEnv env) (tBlk blk') fn.results).map fun vs=>(tupV vs,blk')
  |some (.ret,env,blk')=>(resultsV sh.al (tEnv env) (tBlk blk') fn.results).map fun vs=>(tupV vs,blk')
  |_=>none
 else none
theorem runSF_ok{sh:Ctx}{cp:PCall}{cs:SCall}{cf:SCallF}(hs:SimS cs cf){n:Nat}{fn:IFn}{args:List V}{b b':BL}{v:V}(h:runSF sh cp cf n fn args b=some (v,b')):runS sh cp cs n fn args (tBlk b)=some (v,tBlk b'):=by
 unfold runSF at h;unfold runS;cases hl:Nat.ble args.length 4000 with
 |false=>rw[hl] at h;cases h
 |true=>
  rw[hl] at h;simp only[cond_true] at h;have:=Nat.le_of_ble_eq_true hl;rw[← toE_args (by omega)];split at h
  ·rename_i env b1 hx;rw[execF_ok hs _ hx];simp only[Option.map_eq_some_iff] at h ⊢;obtain⟨vs,h1,h2⟩:=h;cases h2
   exact⟨vs,h1,rfl⟩
  ·rename_i env b1 hx;rw[execF_ok hs _ hx];simp only[Option.map_eq_some_iff] at h ⊢;obtain⟨vs,h1,h2⟩:=h;cases h2
   exact⟨vs,h1,rfl⟩
  ·cases h
noncomputable def callP1 (S:Sys) (n:Nat) (cp:PCall) (cs:SCallF):PCall:=fun f args=>match S.prim f args with
  |some r=>r
  |none=>match S.fns f with
   |some fn=>bif Nat.ble args.length fn.ntmps then
     match runSF (S.ctx .all) cp cs n fn args [] with
     |some (v,b)=>outV (tBlk b) v
     |none=>none
    else none
   |none=>none
noncomputable def callS1 (S:Sys) (n:Nat) (cp:PCall) (cs:SCallF):SCallF:=fun f args al b=>match S.fns f with
  |some fn=>bif Nat.ble args.length fn.ntmps then runSF (S.ctx al) cp cs n fn args b else none
  |none=>none
noncomputable def callF (S:Sys) (n:Nat):PCall × SCallF:=
 Nat.rec (motive:=fun _=>PCall × SCallF) (fun _ _=>none,fun _ _ _ _=>none) (fun n ih=>(callP1 S n ih.1 ih.2,callS1 S n ih.1 ih.2)) n
noncomputable def callPF (S:Sys) (n:Nat):PCall:=(callF S n).1
noncomputable def callSF (S:Sys) (n:Nat):SCallF:=(callF S n).2
theorem callPF_succ(S:Sys)(n f:Nat)(args:List V):callPF S (n+1) f args=match S.prim f args with
  |some r=>r
  |none=>match S.fns f with
   |some fn=>bif Nat.ble args.length fn.ntmps then
     match runSF (S.ctx .all) (callPF S n) (callSF S n) n fn args [] with
     |some (v,b)=>outV (tBlk b) v
     |none=>none
    else none
   |none=>none:=rfl
theorem callSF_succ(S:Sys)(n f:Nat)(args:List V)(al:Al)(b:BL):callSF S (n+1) f args al b=match S.fns f with
  |some fn=>bif Nat.ble args.length fn.ntmps then runSF (S.ctx al) (callPF S n) (callSF S n) n fn args b else none
  |none=>none:=rfl
theorem runSF_le{sh:Ctx}{cp cp':PCall}(hp:PLe cp cp'){cs:SCall}{cf:SCallF}(hs:SimS cs cf){n:Nat}{fn:IFn}{args:List V}{b b':BL}{v:V}(h:runSF sh cp cf n fn args b=some (v,b')):runS sh cp' cs n fn args (tBlk b)=some (v,tBlk b'):=
 runS_mono hp (fun _ _ _ _ _ h=>h) (Nat.le_refl _) (runSF_ok hs h)
theorem callF_ok(S:Sys): ∀ n,PLe (callPF S n) (callP S n)∧SimS (callS S n) (callSF S n):=by
 intro n
 induction n with
 |zero=>
  have h1: ∀ f x,callPF S 0 f x=none:=fun _ _=>rfl
  have h2: ∀ f vs al b,callSF S 0 f vs al b=none:=fun _ _ _ _=>rfl
  exact⟨fun f x r h=>(by rw[h1] at h;cases h),fun f vs al b v b' h=>(by rw[h2] at h;cases h)⟩
 |succ n ih=>
  obtain⟨hp,hs⟩:=ih;refine⟨fun f x r h=> ?_,fun f vs al b v b' h=> ?_⟩
  ·rw[callPF_succ] at h;rw[callP];split at h
   ·rename_i r' hpr;simp only[hpr];exact h
   ·rename_i hpr;simp only[hpr];split at h
    ·rename_i fn hfn;simp only[hfn];cases hl:Nat.ble x.length fn.ntmps with
     |false=>rw[hl] at h;cases h
     |true=>
      rw[hl] at h;simp only[cond_true] at h;rw[if_pos (Nat.le_of_ble_eq_true hl)];split at h
      ·rename_i v b hr;unfold runP;have:noBlk=tBlk []:=rfl;rw[this,runSF_le hp hs hr];exact h
      ·cases h
    ·cases h
  ·rw[callSF_succ] at h;rw[callS];split at h
   ·rename_i fn hfn;simp only[hfn];cases hl:Nat.ble vs.length fn.ntmps with
    |false=>rw[hl] at h;cases h
    |true=>
     rw[hl] at h;simp only[cond_true] at h;rw[if_pos (Nat.le_of_ble_eq_true hl)];exact runSF_le hp hs h
   ·cases h
def all2{α:Type}(f:α→α→Bool):List α→List α→Bool
 |[],[]=>true
 |a::r,b::s=>f a b&&all2 f r s
 |_,_=>false
theorem all2_eq{α:Type}{f:α→α→Bool}(hf: ∀ a b,f a b=true→a=b): ∀ {l m:List α},all2 f l m=true→l=m:=by
 intro l
 induction l with
 |nil=>intro m h;cases m with
  |nil=>rfl
  |cons b m=>cases h
 |cons a l ih=>
  intro m h;cases m with
  |nil=>cases h
  |cons b m=>
   simp only[all2,Bool.and_eq_true] at h;rw[hf _ _ h.1,ih h.2]
def eqIx:IntKind→IntKind→Bool
 | .i64, .i64=>true
 |a,b=>decide (a=b)
theorem eqIx_eq{a b:IntKind}(h:eqIx a b=true):a=b:=by
 cases a<;>cases b<;>first
  |rfl
  |(simp[eqIx] at h)
def eqP:Nat→PV→PV→Bool
 |0,_,_=>false
 |_+1, .int k a, .int k' b=>eqIx k k'&&a==b
 |_+1, .bool a, .bool b=>a==b
 |n+1, .sl a, .sl b=>all2 (all2 (eqP n)) a b
 |n+1, .box a, .box b=>all2 (eqP n) a b
 |n+1, .fn f a b, .fn g c d=>Nat.beq f g&&(all2 (eqP n) a c&&all2 (eqP n) b d)
 |_+1, .nils, .nils=>true
 |_+1, .nilp, .nilp=>true
 |_+1,_,_=>false
theorem eqP_eq: ∀ (n:Nat) (x y:PV),eqP n x y=true→x=y:=by
 intro n
 induction n with
 |zero=>intro x y h;cases h
 |succ n ih=>
  intro x y h;unfold eqP at h;split at h
  ·rename_i h0;cases h0
  ·rename_i h0;cases h0;simp only[Bool.and_eq_true,beq_iff_eq] at h;rw[eqIx_eq h.1,h.2]
  ·rename_i h0;cases h0;simp only[beq_iff_eq] at h;rw[h]
  ·rename_i h0;cases h0;rw[all2_eq (fun _ _ h=>all2_eq ih h) h]
  ·rename_i h0;cases h0;rw[all2_eq ih h]
  ·rename_i h0;cases h0;simp only[Bool.and_eq_true] at h;rw[Nat.eq_of_beq_eq_true h.1,all2_eq ih h.2.1,all2_eq ih h.2.2]
  ·rfl
  ·rfl
  ·cases h
def eqCp:C→C→Bool
 | .p a, .p b=>eqP 12 a b
 |_,_=>false
theorem eqCp_eq{a b:C}(h:eqCp a b=true):a=b:=by
 unfold eqCp at h;split at h
 ·rw[eqP_eq _ _ _ h]
 ·cases h
def eqVp:V→V→Bool
 | .one a, .one b=>eqCp a b
 | .agg a, .agg b=>all2 eqCp a b
 |_,_=>false
theorem eqVp_eq{a b:V}(h:eqVp a b=true):a=b:=by
 unfold eqVp at h;split at h
 ·rw[eqCp_eq h]
 ·rw[all2_eq (fun _ _ h=>eqCp_eq h) h]
 ·cases h
abbrev Memo:=List (Nat × List V × RV)
def lookM:Memo→Nat→List V→Option RV
 |[],_,_=>none
 |(f,a,r)::l,g,b=>bif Nat.beq f g&&all2 eqVp a b then some r else lookM l g b
theorem lookM_mem: ∀ {l:Memo} {f:Nat} {a:List V} {r:RV},lookM l f a=some r→(f,a,r)∈l:=by
 intro l
 induction l with
 |nil=>intro f a r h;cases h
 |cons e l ih=>
  obtain⟨g,b,s⟩:=e;intro f a r h;simp only[lookM] at h;cases hb:(Nat.beq g f&&all2 eqVp b a) with
  |true=>
   rw[hb] at h;simp only[cond_true,Option.some.injEq] at h;simp only[Bool.and_eq_true] at hb;rw[Nat.eq_of_beq_eq_true hb.1,all2_eq (fun _ _ h=>eqVp_eq h) hb.2,h];simp
  |false=>rw[hb] at h;exact List.mem_cons_of_mem _ (ih h)
def Sys.memo(S:Sys)(l:Memo):Sys:={S with prim:=fun f a=>match lookM l f a with
 |some r=>some (some r)
 |none=>S.prim f a}
def MemoOk(S:Sys)(l:Memo):Prop:= ∀ e∈l,PEv S e.1 e.2.1 e.2.2
theorem MemoOk.nil{S:Sys}:MemoOk S []:=fun e h=>by simp at h
theorem MemoOk.cons{S:Sys}{l:Memo}{f:Nat}{a:List V}{r:RV}(h:PEv S f a r)(hl:MemoOk S l):MemoOk S ((f,a,r)::l):=fun e he=>by
 rcases List.mem_cons.1 he with rfl|he
 ·exact h
 ·exact hl e he
theorem MemoOk.bound{S:Sys}: ∀ {l:Memo},MemoOk S l→ ∃ M,∀ e∈l,callP S M e.1 e.2.1=some e.2.2:=by
 intro l
 induction l with
 |nil=>intro _;exact⟨0,fun e h=>by simp at h⟩
 |cons e l ih=>
  intro h;obtain⟨M,hM⟩:=ih fun x hx=>h x (by simp[hx])
  obtain⟨n,hn⟩:=h e (by simp);refine⟨max M n,fun x hx=> ?_⟩;rcases List.mem_cons.1 hx with rfl|hx
  ·exact callP_le S (Nat.le_max_right M n) _ _ _ hn
  ·exact callP_le S (Nat.le_max_left M n) _ _ _ (hM x hx)
theorem memo_le{S:Sys}{l:Memo}{M:Nat}(hM: ∀ e∈l,callP S M e.1 e.2.1=some e.2.2): ∀ n,PLe (callP (S.memo l) n) (callP S (n+M))∧SLe (callS (S.memo l) n) (callS S (n+M)):=by
 intro n
 induction n with
 |zero=>exact⟨fun f x r h=>by simp[callP] at h,fun f x l k r h=>by simp[callS] at h⟩
 |succ n ih=>
  have e1:n+1+M=(n+M)+1:=by omega
  have hc: ∀ al,(S.memo l).ctx al=S.ctx al:=fun _=>rfl
  refine⟨fun f x r h=> ?_,fun f x al k r h=> ?_⟩
  ·rw[callP] at h;cases hl:lookM l f x with
   |some r'=>
    have hp:(S.memo l).prim f x=some (some r'):=by simp only[Sys.memo,hl]
    rw[hp] at h;cases h
    exact callP_le S (by omega) _ _ _ (hM _ (lookM_mem hl))
   |none=>
    have hp:(S.memo l).prim f x=S.prim f x:=by simp only[Sys.memo,hl]
    rw[hp] at h;rw[e1,callP];split at h
    ·exact h
    ·have hfn:(S.memo l).fns f=S.fns f:=rfl;rw[hfn] at h;split at h
     ·rename_i fn hf;split at h
      ·rename_i hlen;rw[if_pos hlen];rw[hc] at h;exact runP_mono ih.1 ih.2 (by omega) h
      ·cases h
     ·cases h
  ·rw[callS] at h;rw[e1,callS];have hfn:(S.memo l).fns f=S.fns f:=rfl;rw[hfn] at h;split at h
   ·rename_i fn hf;split at h
    ·rename_i hlen;rw[if_pos hlen];rw[hc] at h;exact runS_mono ih.1 ih.2 (by omega) h
    ·cases h
   ·cases h
theorem PEv_memo{S:Sys}{l:Memo}(hl:MemoOk S l)(n:Nat){f:Nat}{args:List V}{r:RV}(h:callPF (S.memo l) n f args=some r):PEv S f args r:=by
 obtain⟨M,hM⟩:=hl.bound;exact⟨n+M,(memo_le hM n).1 _ _ _ ((callF_ok (S.memo l) n).1 _ _ _ h)⟩
inductive Fits {H:Type} (N:Nat):DataW H→Prop where
 |str (s:List UInt8) (h:s.length≤N):Fits N (.lit (.string s))
 |lit (l:Lit) (h: ∀ s,l≠ .string s):Fits N (.lit l)
 |nil:Fits N .nil
 |slice (es sp:List (DataW H)) (h:es.length≤N) (he: ∀ d∈es,Fits N d):Fits N (.slice es sp)
 |agg (es:List (DataW H)) (he: ∀ d∈es,Fits N d):Fits N (.agg es)
def HasT(P:Program)(N:Nat):Nat→TypeId→List PV→Prop
 |0,_,_=>False
 |n+1,t,ps=>match P.underlying t with
  |some .bool=> ∃ b,ps=[.bool b]
  |some (.int k)=> ∃ z,ps=[.int k z]∧(Lit.int k z).wf=true
  |some .string=> ∃ s:ByteArray,ps=[.str s]∧s.size≤N
  |some (.slice e)=> ∃ es,ps=[.sl es]∧es.length≤N∧ ∀ x∈es,HasT P N n e x
  |some (.struct fs)=> ∃ parts:List (List PV),ps=parts.flatten∧parts.length=fs.toList.length∧ ∀ (i:Nat) (f:Field) (x:List PV),fs.toList[i]? =some f→parts[i]? =some x→HasT P N n f.type x
  |_=>False
def contig(P:Program):Nat→Nat→List Field→Bool
 |off,total,[]=>Nat.beq off total
 |off,total,f::r=>Nat.beq f.offset off&&contig P (off+P.cellsOf f.type) total r
def okTy(P:Program):Nat→TypeId→Bool
 |0,_=>false
 |n+1,t=>match P.underlying t with
  |some .bool|some (.int _)|some .string=>true
  |some (.slice e)=>Nat.blt 0 (P.cellsOf e)&&okTy P n e
  |some (.struct fs)=>contig P 0 (P.cellsOf t) fs.toList&&fs.toList.all fun f=>okTy P n f.type
  |_=>false
section
variable {H:Type} {enc:TypeId × Value→H} {P:Program} {w:World} {base:Nat} {sp:Nat→Bool} {held:Bool} {N:Nat}
theorem PsRel.append{w:World}{own:Nat→Prop}{xs ys:List PV}{vs us:List Value}(h:PsRel w own xs vs)(k:PsRel w own ys us):PsRel w own (xs++ys) (vs++us):=Pw.append (R:=PRel w own) h k
theorem cells?_spot{w:World}{base:Nat}{a:Addr}{n:Nat}{cs:List Value}(h:w.cells? base a n=some cs):cs.length=n∧ ∀ i,i<n→a.add i=⟨a.block,a.off+i,none⟩∧w.cell? ⟨a.block,a.off+i,none⟩=cs[i]? :=by
 unfold World.cells? at h;split at h
 ·have hl:=mapM_some_length h;simp at hl;refine⟨hl,fun i hi=> ?_⟩;have hg:=mapM_some_get h i i (by simp[hi]);have hlt:i<cs.length:=by omega
  have hv:cs[i]? =some cs[i]:=by simp[hlt]
  rw[hv] at hg;have hspot:(a.add i).spot=none:=by
   cases hsp:(a.add i).spot with
   |none=>rfl
   |some s=>
    simp only[World.cell?] at hg;split at hg
    ·simp[hsp] at hg
    ·cases hg
  have e:a.add i=⟨a.block,a.off+i,none⟩:=by
   unfold Addr.add at hspot ⊢;split
   ·rename_i h0;subst h0;rw[if_pos rfl] at hspot;cases a
    simp_all
   ·rfl
  refine⟨e,?_⟩;rw[hv,← hg,e]
 ·cases h
theorem fields_pv{r:TypeId→List Value→Option (DataW H × List MemPlace)}{n:Nat}(ih: ∀ t cs x,okTy P n t=true→r t cs=some x→Fits N x.1→ ∃ pvs,HasT P N n t pvs∧PsRel w (fun _=>False) pvs cs){cs:List Value}{total:Nat}(ht:cs.length=total):
  ∀ (fs:List Field) (off:Nat) (xs:List (DataW H × List MemPlace)),contig P off total fs=true→(∀ f∈fs,okTy P n f.type=true)→
   fs.mapM (fun f=>r f.type ((cs.drop f.offset).take (P.cellsOf f.type)))=some xs→(∀ x∈xs,Fits N x.1)→off≤total→(∀ f∈fs,∀ c x,r f.type c=some x→ ∀ pvs,HasT P N n f.type pvs→PsRel w (fun _=>False) pvs c→True)→
   ∃ parts:List (List PV),parts.length=fs.length∧(∀ (i:Nat) (f:Field) (x:List PV),fs[i]? =some f→parts[i]? =some x→HasT P N n f.type x)∧(PsRel w (fun _=>False) parts.flatten (cs.drop off)):=by
 intro fs
 induction fs with
 |nil=>
  intro off xs hc _ _ _ hle _;simp only[contig] at hc;have:=Nat.eq_of_beq_eq_true hc;refine⟨[],rfl,fun i f x h=>by simp at h,?_⟩;have:cs.drop off=[]:=by rw[List.drop_eq_nil_iff];omega
  rw[this];exact⟨rfl,fun j x u h=>by simp at h⟩
 |cons f fs ihf=>
  intro off xs hc ho hm hf hle hT;simp only[contig,Bool.and_eq_true] at hc;have hoff:=Nat.eq_of_beq_eq_true hc.1;rw[List.mapM_cons] at hm;simp only[Option.bind_eq_bind,Option.bind_eq_some_iff,Option.pure_def,Option.some.injEq] at hm;obtain⟨x,hx,xs',hxs,rfl⟩:=hm;obtain⟨pvs,p1,p2⟩:=ih _ _ _ (ho f (by simp)) hx (hf x (by simp));have hlen:=p2.1;by_cases hle2:off+P.cellsOf f.type≤total
  ·obtain⟨parts,q1,q2,q3⟩:=ihf (off+P.cellsOf f.type) xs' hc.2 (fun g hg=>ho g (by simp[hg])) hxs (fun y hy=>hf y (by simp[hy])) hle2 (fun _ _ _ _ _ _ _ _=>trivial);refine⟨pvs::parts,by simp[q1],fun i g y hi hy=> ?_,?_⟩
   ·cases i with
    |zero=>simp at hi hy;subst hi hy;exact p1
    |succ i=>exact q2 i g y (by simpa using hi) (by simpa using hy)
   ·have:cs.drop off=(cs.drop f.offset).take (P.cellsOf f.type)++cs.drop (off+P.cellsOf f.type):=by
     rw[hoff,← List.drop_drop];exact(List.take_append_drop _ _).symm
    rw[this];simp only[List.flatten_cons];exact PsRel.append p2 q3
  ·exfalso;have mono: ∀ (l:List Field) (o:Nat),contig P o total l=true→o≤total:=by
    intro l
    induction l with
    |nil=>intro o h;simp only[contig] at h;have:=Nat.eq_of_beq_eq_true h;omega
    |cons g l ihl=>intro o h;simp only[contig,Bool.and_eq_true] at h;have:=ihl _ h.2;omega
   exact hle2 (mono _ _ hc.2)
theorem rows_flat{sz:Nat}{f:Nat→Value}: ∀ (es:List (List PV)) (rows:List (List Value)) (k:Nat),rows.length=es.length→(∀ (i:Nat) (e:List PV) (v:List Value),es[i]? =some e→rows[i]? =some v→PsRel w (fun _=>False) e v∧v.length=sz∧ ∀ j u,v[j]? =some u→f ((k+i)*sz+j)=u)→
  ∀ (j:Nat) (x:PV),es.flatten[j]? =some x→PRel w (fun _=>False) x (f (k*sz+j)):=by
 intro es
 induction es with
 |nil=>intro rows k _ _ j x h;simp at h
 |cons e es ih=>
  intro rows k hl h j x hx;cases rows with
  |nil=>simp at hl
  |cons v rows=>
   obtain⟨a1,a2,a3⟩:=h 0 e v rfl rfl;have hel:e.length=sz:=by rw[← a2];exact a1.1.symm
   simp only[List.flatten_cons] at hx;by_cases hj:j<e.length
   ·rw[List.getElem?_append_left hj] at hx;have hv:v[j]? =some v[j]:=by simp[show j<v.length by omega]
    have:=a3 j _ hv;simp only[Nat.add_zero] at this;rw[this];exact a1.2 j x _ hx hv
   ·rw[List.getElem?_append_right (by omega)] at hx;have:=ih rows (k+1) (by simpa using hl) (fun i e' v' h1 h2=>by
     have:=h (i+1) e' v' (by simpa using h1) (by simpa using h2);rw[show k+(i+1)=k+1+i by omega] at this;exact this) (j - e.length) x hx
    rw[show k*sz+j=(k+1)*sz+(j - e.length) by rw[Nat.add_mul];omega];exact this
theorem trod_pv: ∀ (n fuel:Nat) (t:TypeId) (cs:List Value) (x:DataW H × List MemPlace),okTy P n t=true→DataW.trod enc P w base sp held fuel t cs=some x→Fits N x.1→
  ∃ pvs,HasT P N n t pvs∧PsRel w (fun _=>False) pvs cs:=by
 intro n
 induction n with
 |zero=>intro fuel t cs x h;simp[okTy] at h
 |succ n ih=>
  intro fuel t cs x hok h hf;cases fuel with
  |zero=>simp[DataW.trod] at h
  |succ fuel=>
   rw[DataW.trod_step] at h;have one: ∀ {p:PV} {v:Value},PRel w (fun _=>False) p v→PsRel w (fun _=>False) [p] [v]:=by
    intro p v hp;refine⟨rfl,fun j x u a b=> ?_⟩;cases j with
    |zero=>simp at a b;subst a b;exact hp
    |succ j=>simp at a
   unfold DataW.trodStep at h;unfold okTy at hok;split at h
   case h_1 b hu=>exact⟨[.bool b],by simp only[HasT,hu];exact⟨b,rfl⟩,one (.bool b)⟩
   case h_2 k k' z hu=>
    split at h
    ·rename_i hc;obtain⟨rfl,hwf⟩:=hc;exact⟨[.int k' z],by simp only[HasT,hu];exact⟨z,rfl,hwf⟩,one (.int k' z)⟩
    ·cases h
   case h_4 s hu=>
    split at h
    ·cases h
     cases hf with
     |str _ hs=>exact⟨[.str s],by simp only[HasT,hu];exact⟨s,rfl,by simpa using hs⟩,one (.str s)⟩
     |lit _ hs=>exact(hs _ rfl).elim
    ·cases h
   case h_7 e hu=>exact⟨[.sl []],by simp only[HasT,hu];exact⟨[],rfl,Nat.zero_le _,fun x hx=>by simp at hx⟩,one (.sl0 none 0 (fun _=>rfl) (Nat.zero_le _))⟩
   case h_8 e a len cap hu=>
    rw[hu] at hok;simp only[Bool.and_eq_true] at hok;obtain⟨hpos,hoe⟩:=hok;have hpos:0<P.cellsOf e:=by
      have:=hpos;simp[Nat.blt] at this;omega
    simp only at h;split at h
    ·rename_i hc;obtain⟨hb,hlc,hcm⟩:=hc;simp only[Option.map_eq_some_iff,Option.bind_eq_some_iff] at h;obtain⟨elems,he,rest,hrest,rfl⟩:=h;have hlen:elems.length=len:=by simpa using mapM_some_length he
     cases hf with
     |slice _ _ hl hfe=>
     simp only[List.length_map] at hl;have get: ∀ i,i<len→ ∃ y row pv,elems[i]? =some y∧w.cells? base (a.add (i*P.cellsOf e)) (P.cellsOf e)=some row∧HasT P N n e pv∧PsRel w (fun _=>False) pv row:=by
      intro i hi;have hg:=mapM_some_get he i i (by simp[hi]);have hlt:i<elems.length:=by omega
      rw[List.getElem?_eq_getElem hlt] at hg;simp only[Option.bind_eq_some_iff] at hg;obtain⟨row,h1,h2⟩:=hg;obtain⟨pv,p1,p2⟩:=ih _ _ _ _ hoe h2 (hfe _ (List.mem_map.2 ⟨_,List.getElem_mem hlt,rfl⟩));exact⟨_,row,pv,List.getElem?_eq_getElem hlt,h1,p1,p2⟩
     cases hl0:len with
     |zero=>
      refine⟨[.sl []],by simp only[HasT,hu];exact⟨[],rfl,Nat.zero_le _,fun x hx=>by simp at hx⟩,one (.sl0 (some a) cap (fun h=>by cases h) hcm)⟩
     |succ len'=>
      rw[← hl0];have h0:0<len:=by omega
      obtain⟨_,row0,_,_,hr0,_,_⟩:=get 0 h0;have ha:a=⟨a.block,a.off,none⟩:=by
       have h1:a.add 0=a:=by unfold Addr.add;rw[if_pos rfl]
       rw[Nat.zero_mul,h1] at hr0;have:=((cells?_spot hr0).2 0 hpos).1;rw[h1] at this;exact this
      have hrow: ∀ i,i<len→ ∃ row pv,row.length=P.cellsOf e∧(∀ j,j<P.cellsOf e→w.cell? ⟨a.block,a.off+(i*P.cellsOf e+j),none⟩=row[j]?)∧HasT P N n e pv∧PsRel w (fun _=>False) pv row:=by
       intro i hi;obtain⟨_,row,pv,_,h1,h2,h3⟩:=get i hi;obtain⟨l1,l2⟩:=cells?_spot h1;refine⟨row,pv,l1,fun j hj=> ?_,h2,h3⟩;have:=(l2 j hj).2;rw[← this];have e2:a.add (i*P.cellsOf e)=⟨a.block,a.off+i*P.cellsOf e,none⟩:=by
        rw[ha];unfold Addr.add;split
        ·rename_i h9;rw[h9];rfl
        ·rfl
       rw[e2];simp[Nat.add_assoc]
      let row:Nat→List Value:=fun i=>if h:i<len then (hrow i h).choose else []
      let pv:Nat→List PV:=fun i=>if h:i<len then (hrow i h).choose_spec.choose else []
      have hspec: ∀ i,i<len→(row i).length=P.cellsOf e∧(∀ j,j<P.cellsOf e→w.cell? ⟨a.block,a.off+(i*P.cellsOf e+j),none⟩=(row i)[j]?)∧HasT P N n e (pv i)∧PsRel w (fun _=>False) (pv i) (row i):=by
       intro i hi;simp only[row,pv,dif_pos hi];exact(hrow i hi).choose_spec.choose_spec
      let es:=(List.range len).map pv
      have hesl:es.length=len:=by simp[es]
      have hget: ∀ (i:Nat) (x:List PV),es[i]? =some x→i<len∧x=pv i:=by
       intro i x hx;have hi:i<len:=by rw[← hesl];exact(List.getElem?_eq_some_iff.1 hx).1
       refine⟨hi,?_⟩;simp only[es,List.getElem?_map,List.getElem?_range hi,Option.map_some,Option.some.injEq] at hx;exact hx.symm
      let f:Nat→Value:=fun j=>(w.cell? ⟨a.block,a.off+j,none⟩).getD undef
      refine⟨[.sl es],?_,one ?_⟩
      ·simp only[HasT,hu];refine⟨es,rfl,by omega,fun x hx=> ?_⟩;obtain⟨i,hi⟩:=List.getElem?_of_mem hx;obtain⟨h1,rfl⟩:=hget i x hi;exact(hspec i h1).2.2.1
      ·rw[ha];have hsz: ∀ x∈es,x.length=P.cellsOf e:=by
        intro x hx;obtain⟨i,hi⟩:=List.getElem?_of_mem hx;obtain⟨h1,rfl⟩:=hget i x hi;have:=(hspec i h1).2.2.2.1;rw[← this];exact(hspec i h1).1
       have hrel:=rows_flat (w:=w) (sz:=P.cellsOf e) (f:=f) es ((List.range len).map row) 0 (by simp[hesl]) (fun i x v h1 h2=>by
        obtain⟨hi,rfl⟩:=hget i x h1;simp only[List.getElem?_map,List.getElem?_range hi,Option.map_some,Option.some.injEq] at h2;subst h2;obtain⟨s1,s2,s3,s4⟩:=hspec i hi;refine⟨s4,s1,fun j u hu=> ?_⟩;have hj:j<P.cellsOf e:=by rw[← s1];exact(List.getElem?_eq_some_iff.1 hu).1
        simp only[f,Nat.zero_add];rw[s2 j hj,hu];rfl)
       simp only[Nat.zero_mul,Nat.zero_add] at hrel;have hfl: ∀ (l:List (List PV)),(∀ x∈l,x.length=P.cellsOf e)→l.flatten.length=l.length*P.cellsOf e:=by
        intro l
        induction l with
        |nil=>intro _;simp
        |cons x l ihl=>intro hx;simp only[List.flatten_cons,List.length_append,List.length_cons];rw[hx x (by simp),ihl (fun y hy=>hx y (by simp[hy])),Nat.add_mul];omega
       refine hesl▸PRel.sl a.block a.off cap (P.cellsOf e) f (fun _ h=>h) (by omega) hcm hsz (fun j x hx=> ?_) hrel;have hj:j<len*P.cellsOf e:=by
        have:=(List.getElem?_eq_some_iff.1 hx).1;rw[hfl es hsz,hesl] at this;exact this
       have hi:j/P.cellsOf e<len:=Nat.div_lt_of_lt_mul (by rw[Nat.mul_comm];exact hj);obtain⟨s1,s2,s3,s4⟩:=hspec _ hi;have hm:j%P.cellsOf e<P.cellsOf e:=Nat.mod_lt _ hpos;have:=s2 _ hm;rw[show j/P.cellsOf e*P.cellsOf e+j%P.cellsOf e=j by rw[Nat.mul_comm];exact Nat.div_add_mod j _] at this;have hsome:(row (j/P.cellsOf e))[j%P.cellsOf e]? =some (row (j/P.cellsOf e))[j%P.cellsOf e]:=by simp[s1,hm]
       rw[hsome] at this;simp only[f,this,Option.getD_some]
    ·cases h
   case h_9=>
    rename_i fs hu;rw[hu] at hok;simp only[Bool.and_eq_true] at hok;split at h
    ·rename_i hc;simp only[Option.map_eq_some_iff] at h;obtain⟨xs,hx,rfl⟩:=h;cases hf with
     |agg _ hfe=>
     obtain⟨parts,p1,p2,p3⟩:=fields_pv (r:=DataW.trod enc P w base sp held fuel) (n:=n) (fun t cs x h1 h2 h3=>ih _ _ _ _ h1 h2 h3) hc fs.toList 0 xs hok.1 (fun f hf=>List.all_eq_true.1 hok.2 f hf) hx (fun y hy=>hfe _ (List.mem_map.2 ⟨y,hy,rfl⟩)) (Nat.zero_le _) (fun _ _ _ _ _ _ _ _=>trivial);refine⟨parts.flatten,by simp only[HasT,hu];exact⟨parts,rfl,p1,p2⟩,?_⟩
     simpa using p3
    ·cases h
   all_goals(first|(cases h;done)|(simp_all;done)|(exfalso;simp_all;done))
end
end Go.Abs
namespace Go.Abs
variable {H:Type} {enc:TypeId × Value→H} {P:Program} {w:World} {N:Nat}
theorem contig_spec: ∀ (fs:List Field) (off total:Nat),contig P off total fs=true→total=off+(fs.map fun f=>P.cellsOf f.type).sum∧ ∀ (j:Nat) (f:Field),fs[j]? =some f→f.offset=off+((fs.take j).map fun f=>P.cellsOf f.type).sum:=by
 intro fs
 induction fs with
 |nil=>intro off total h;simp only[contig] at h;have:=Nat.eq_of_beq_eq_true h;exact⟨by simp;omega,fun j f h=>by simp at h⟩
 |cons f fs ih=>
  intro off total h;simp only[contig,Bool.and_eq_true] at h;have h0:=Nat.eq_of_beq_eq_true h.1;obtain⟨i1,i2⟩:=ih _ _ h.2;refine⟨by simp;omega,fun j g hg=> ?_⟩;cases j with
  |zero=>simp at hg;subst hg;simp;omega
  |succ j=>
   have:=i2 j g (by simpa using hg);simp only[List.take_succ_cons,List.map_cons,List.sum_cons];omega
theorem kids_ok:Kids P (fun t=> ∃ n,okTy P n t=true):=by
 have un: ∀ {t:TypeId},(∃ n,okTy P n t=true)→ ∃ n,okTy P (n+1) t=true:=by
  rintro t ⟨n,h⟩
  cases n with
  |zero=>simp[okTy] at h
  |succ n=>exact⟨n,h⟩
 refine⟨fun ht hu=> ?_,fun ht hu=> ?_,fun ht hu=> ?_,fun ht hu=> ?_,fun ht hu=> ?_⟩
 ·obtain⟨n,h⟩:=un ht;simp[okTy,hu] at h
 ·obtain⟨n,h⟩:=un ht;simp only[okTy,hu,Bool.and_eq_true] at h;exact⟨n,h.2⟩
 ·obtain⟨n,h⟩:=un ht;simp[okTy,hu] at h
 ·obtain⟨n,h⟩:=un ht;simp only[okTy,hu,Bool.and_eq_true] at h;obtain⟨c1,c2⟩:=contig_spec _ _ _ h.1;refine⟨fun f hf=>⟨n,List.all_eq_true.1 h.2 f hf⟩,by rw[c1];simp,fun j f hj=>by rw[c2 j f hj];simp⟩
 ·obtain⟨n,h⟩:=un ht;simp[okTy,hu] at h
theorem trod_again{w':World}{sp':Nat→Bool}{t:TypeId}{v:Value}{d:DataW H}{ps:List MemPlace}(hk: ∃ n,okTy P n t=true)(h:DataW.Trod enc P w 0 (fun _=>true) true t v d ps)
  (hsame: ∀ p∈ps,w.sameAt w' p) (hs: ∀ p∈ps,sp' p.block=true):DataW.Trod enc P w' 0 sp' true t v d ps:=by
 obtain⟨fuel,h⟩:=h;refine⟨fuel,DataW.trod_stays (T:=fun t=> ∃ n,okTy P n t=true) kids_ok ?_ (fun h=>by cases h) hk h hsame hs⟩;rintro t e ⟨n,h⟩ hu
 cases n with
 |zero=>simp[okTy] at h
 |succ n=>
  simp only[okTy,hu,Bool.and_eq_true] at h;have:=h.1;simp[Nat.blt] at this;omega
theorem trodAll_again{w':World}{sp':Nat→Bool}: ∀ {ts:List TypeId} {vs:List Value} {ds:List (DataW H)} {ps:List MemPlace},(∀ t∈ts,∃ n,okTy P n t=true)→DataW.TrodAll enc P w 0 (fun _=>true) true ts vs ds ps→
  (∀ p∈ps,w.sameAt w' p)→(∀ p∈ps,sp' p.block=true)→DataW.TrodAll enc P w' 0 sp' true ts vs ds ps:=by
 intro ts
 induction ts with
 |nil=>intro vs ds ps _ h _ _;cases vs<;>cases ds<;>exact h
 |cons t ts ih=>
  intro vs ds ps hk h hs1 hs2;cases vs with
  |nil=>exact h.elim
  |cons v vs=>
   cases ds with
   |nil=>exact h.elim
   |cons d ds=>
    obtain⟨p,q,h1,h2,rfl⟩:=h;exact⟨p,q,trod_again (hk t (by simp)) h1 (fun x hx=>hs1 x (by simp[hx])) (fun x hx=>hs2 x (by simp[hx])),ih (fun t ht=>hk t (by simp[ht])) h2 (fun x hx=>hs1 x (by simp[hx])) (fun x hx=>hs2 x (by simp[hx])),rfl⟩
def argV(P:Program)(t:TypeId)(ps:List PV):V:=
 match P.underlying t with
 |some (.struct _)=> .agg (ps.map .p)
 |_=>match ps with
  |[x]=> .one (.p x)
  |_=> .undef
theorem arg_in{r:Reach}{b0 n:Nat}{sp:Nat→Bool}{held:Bool}{t:TypeId}{v:Value}{d:DataW H}{ps:List MemPlace}(hk:okTy P n t=true)(hval:Value.okWide P w r b0 t v)(h:DataW.Trod enc P w 0 sp held t v d ps)(hf:Fits N d):
  ∃ pvs,HasT P N n t pvs∧AVRel w (fun _=>False) (argV P t pvs) v:=by
 obtain⟨fuel,h⟩:=h;obtain⟨pvs,h1,h2⟩:=trod_pv n fuel t _ _ hk h hf;refine⟨pvs,h1,?_⟩;cases n with
 |zero=>simp[okTy] at hk
 |succ n=>
  have one: ∀ x:PV,pvs=[x]→(∀ cs,v≠ .agg cs)→PRel w (fun _=>False) x v:=by
   rintro x rfl hne
   have:v.cells.toList=[v]:=by
    cases v<;>first
     |rfl
     |exact(hne _ rfl).elim
   rw[this] at h2;exact h2.2 0 x v rfl rfl
  have nagg: ∀ {k:TypeDesc},P.underlying t=some k→(∀ fs,k≠ .struct fs)→(∀ a b,k≠ .array a b)→ ∀ cs,v≠ .agg cs:=by
   rintro k hu hk1 hk2 cs rfl
   unfold Value.okWide at hval;rw[hu] at hval;cases k<;>simp_all[Cell.okWide,Cell.ok]
  simp only[HasT] at h1;unfold argV;cases hu:P.underlying t with
  |none=>rw[hu] at h1;exact h1.elim
  |some k=>
   rw[hu] at h1;cases k<;>simp only at h1<;>try exact h1.elim
   case bool=>obtain⟨b,rfl⟩:=h1;exact one _ rfl (nagg hu (by simp) (by simp))
   case int k=>obtain⟨b,rfl,_⟩:=h1;exact one _ rfl (nagg hu (by simp) (by simp))
   case string=>obtain⟨b,rfl,_⟩:=h1;exact one _ rfl (nagg hu (by simp) (by simp))
   case slice e=>obtain⟨es,rfl,_⟩:=h1;exact one _ rfl (nagg hu (by simp) (by simp))
   case struct fs=>
    unfold Value.okWide at hval;rw[hu] at hval;simp only at hval;obtain⟨cs,rfl,hsz,_⟩:=hval;exact⟨cs,pvs,rfl,rfl,h2⟩
def HasAll(P:Program)(N n:Nat):List TypeId→List (List PV)→Prop
 |[],[]=>True
 |t::ts,p::ps=>HasT P N n t p∧HasAll P N n ts ps
 |_,_=>False
def argVs(P:Program):List TypeId→List (List PV)→List V
 |t::ts,p::ps=>argV P t p::argVs P ts ps
 |_,_=>[]
theorem args_in{r:Reach}{b0 n:Nat}{sp:Nat→Bool}{held:Bool}: ∀ {ts:List TypeId} {vs:List Value} {ds:List (DataW H)} {ps:List MemPlace},(∀ t∈ts,okTy P n t=true)→(∀ (j:Nat) t v,ts[j]? =some t→vs[j]? =some v→Value.okWide P w r b0 t v)→
  DataW.TrodAll enc P w 0 sp held ts vs ds ps→(∀ d∈ds,Fits N d)→ ∃ pvss,HasAll P N n ts pvss∧Pw (AVRel w (fun _=>False)) (argVs P ts pvss) vs:=by
 intro ts
 induction ts with
 |nil=>
  intro vs ds ps _ _ h _;cases vs with
  |nil=>exact⟨[],trivial,rfl,fun j x u h=>by simp[argVs] at h⟩
  |cons v vs=>cases ds<;>exact h.elim
 |cons t ts ih=>
  intro vs ds ps hk hv h hf;cases vs with
  |nil=>exact h.elim
  |cons v vs=>
   cases ds with
   |nil=>exact h.elim
   |cons d ds=>
    obtain⟨p,q,h1,h2,rfl⟩:=h;obtain⟨x,a1,a2⟩:=arg_in (hk t (by simp)) (hv 0 t v rfl rfl) h1 (hf d (by simp));obtain⟨xs,b1,b2,b3⟩:=ih (fun t ht=>hk t (by simp[ht])) (fun j t v e1 e2=>hv (j+1) t v (by simpa using e1) (by simpa using e2)) h2 (fun d hd=>hf d (by simp[hd]));refine⟨x::xs,⟨a1,b1⟩,by simpa [argVs] using b2,fun j y u e1 e2=> ?_⟩;cases j with
    |zero=>simp[argVs] at e1 e2;subst e1 e2;exact a2
    |succ j=>exact b3 j y u (by simpa [argVs] using e1) (by simpa using e2)
end Go.Abs
namespace Go.Abs
open Go.RowKit
theorem Grew.of_grow(w:World)(k:Nat)(os:Array Obj):Grew w (Go.Sort.grow (w.drewN k) os):=
 ⟨rfl,rfl,rfl,by simp[Go.Sort.grow,World.drewN],fun c hc=>by simp[Go.Sort.grow,World.drewN,Array.getElem?_append,hc]⟩
theorem pres_p{w w':World}{O:Nat→Prop}{x:PV}{v:Value}(hg:Grew w w')(h:PRel w' O x v):PRes w O (.one (.p x)) (.returned v) w':=
 ⟨v,[],rfl,hg,List.nodup_nil,fun c hc=>by simp at hc,[v],rfl,v,[],rfl,h.mono fun c _ hn=>⟨rfl,fun hq=>hn (hq.elim id fun h=>by simp at h)⟩,rfl,rfl⟩
theorem pw1{w:World}{O:Nat→Prop}{x:PV}{args:Array Value}(h:Pw (AVRel w O) [.one (.p x)] args.toList): ∃ v,args= #[v]∧PRel w O x v:=by
 obtain⟨h1,h2⟩:=h;obtain⟨l⟩:=args
 match l,h1 with
 |[v],_=>exact⟨v,rfl,h2 0 _ v rfl rfl⟩
theorem empty_sl{w:World}{O:Nat→Prop}{v:Value}(h:PRel w O (.sl []) v): ∃ a cap,v= .slice a 0 cap∧(a=none→cap=0)∧cap≤maxLen:=by
 generalize hx:PV.sl []=x at h;cases h<;>cases hx
 ·exact⟨_,_,rfl,by assumption,by assumption⟩
 ·exact⟨_,_,rfl,fun h=>by simp at h,by assumption⟩
theorem mk_empty{w:World}{O:Nat→Prop}{a:Option Addr}{cap:Nat}(h:a=none→cap=0)(hm:cap≤maxLen):PRel w O (.sl []) (.slice a 0 cap):= .sl0 a cap h hm
def decF:Nat→Nat→List UInt8→List UInt8
 |0,_,acc=>acc
 |k+1,u,acc=>bif Nat.blt u 10 then UInt8.ofNat (Nat.add 48 u)::acc else decF k (Nat.div u 10) (UInt8.ofNat (Nat.add 48 (Nat.mod u 10))::acc)
theorem decF_eq: ∀ (k u:Nat) (acc:List UInt8),u<10 ^ (k+1)→decF (k+1) u acc=Lib.decDigits u++acc:=by
 intro k
 induction k with
 |zero=>
  intro u acc h;have h:u<10:=by simpa using h
  unfold Lib.decDigits;have hb:Nat.blt u 10=true:=Nat.ble_eq_true_of_le h;simp only[decF,hb,cond_true,dif_pos h];rfl
 |succ k ih=>
  intro u acc h;rw[Lib.decDigits,decF];by_cases h0:u<10
  ·have hb:Nat.blt u 10=true:=Nat.ble_eq_true_of_le h0;simp only[hb,cond_true,dif_pos h0];rfl
  ·have hb:Nat.blt u 10=false:=by
    cases e:Nat.blt u 10 with
    |false=>rfl
    |true=>exact(h0 (Nat.le_of_ble_eq_true e)).elim
   simp only[hb,cond_false,dif_neg h0];have:(Nat.div u 10)<10 ^ (k+1):=by
    have e:Nat.div u 10=u/10:=rfl;rw[e];have:10 ^ (k+1+1)=10 ^ (k+1)*10:=Nat.pow_succ ..;omega
   rw[ih _ _ this];simp only[List.append_assoc,List.singleton_append];rfl
def itoaB(n:Int):ByteArray:=⟨(match n with| .ofNat u=>decF 20 u []| .negSucc u=>45::decF 20 (Nat.succ u) []).toArray⟩
theorem itoaB_eq(n:Int)(h0: -9223372036854775808≤n)(h1:n≤9223372036854775807):itoaB n=⟨(Lib.itoa n).toArray⟩:=by
 unfold itoaB Lib.itoa;cases n with
 |ofNat u=>
  have: ¬ (Int.ofNat u<0):=by simp
  rw[if_neg this];simp only;rw[decF_eq 19 u [] (by simp at h1;omega)];simp
 |negSucc u=>
  have:Int.negSucc u<0:=Int.negSucc_lt_zero u;rw[if_pos this];simp only;rw[decF_eq 19 (Nat.succ u) [] (by omega)];simp[Int.natAbs]
def primItoa(args:List V):Option RV:=
 match args with
 |[.one (.p (.int .i64 n))]=>if -9223372036854775808≤n∧n≤9223372036854775807 then some (.one (.p (.str (itoaB n)))) else none
 |_=>none
theorem primItoa_ok{P:Program}{f:Nat}{nm:String}{G:World→Prop}{args:List V}{r:RV}(hG: ∀ w,G w→Lib.TabIs P w nm .u64 Lib.pow10Tab)
  (hf: ∀ (n:Int),-9223372036854775808≤n→n≤9223372036854775807→ ∀ w:World,Lib.TabIs P w nm .u64 Lib.pow10Tab→Calls P f #[.int .i64 n] w fun e w'=>e= .returned (.string ⟨(Lib.itoa n).toArray⟩)∧ ∃ k os,w'=Go.Sort.grow (w.drewN k) os)
  (h:primItoa args=some r): ∀ (w:World) (O:Nat→Prop) (as:Array Value),Good G w→Pw (AVRel w O) args as.toList→Calls P f as w (PRes w O r):=by
 intro w O as hg ha;unfold primItoa at h;split at h
 ·rename_i n;split at h
  ·rename_i hr;cases h
   obtain⟨v,rfl,hp⟩:=pw1 ha;generalize hx:PV.int .i64 n=x at hp;cases hp<;>cases hx
   refine(hf n hr.1 hr.2 w (hG w hg.1)).mono ?_;rintro e w' ⟨rfl,k,os,rfl⟩
   rw[itoaB_eq n hr.1 hr.2];exact pres_p (Grew.of_grow _ _ _) (.str _)
  ·cases h
 ·cases h
def primBits(args:List V):Option RV:=
 match args with
 |[.one (.p (.int .u64 n))]=>if 0≤n∧n≤18446744073709551615 then some (.one (.p (.int .i64 (Lib.bitLen n.toNat)))) else none
 |_=>none
theorem primBits_ok{P:Program}{f:Nat}{args:List V}{r:RV}(hf: ∀ (x:Int) (w:World),0≤x→x≤18446744073709551615→Calls P f #[.int .u64 x] w fun e w'=>e= .returned (.int .i64 (Lib.bitLen x.toNat))∧w'=w)
  (h:primBits args=some r): ∀ (w:World) (O:Nat→Prop) (as:Array Value),Pw (AVRel w O) args as.toList→Calls P f as w (PRes w O r):=by
 intro w O as ha;unfold primBits at h;split at h
 ·rename_i n;split at h
  ·rename_i hr;cases h
   obtain⟨v,rfl,hp⟩:=pw1 ha;generalize hx:PV.int .u64 n=x at hp;cases hp<;>cases hx
   refine(hf n w hr.1 hr.2).mono ?_;rintro e w' ⟨rfl,rfl⟩
   exact pres_p (Grew.refl _) (.int _ _)
  ·cases h
 ·cases h
def primClone(args:List V):Option (Option RV):=
 match args with
 |[.one (.p (.sl []))]=>some (some (.one (.p (.sl []))))
 |_=>none
theorem primClone_ok{S:Sys}{G:World→Prop}(hS:SysOk S G){f n:Nat}{z i g z':Nat}{fn:IFn}{blk':Blk}(hfn:S.fns f=some fn)(h1:callP S n f [.one (.p .nils)]=some (.one (.p .nils)))
  (h2:callS S n f [.one (.hsl 0 0 z 0 0)] .all noBlk=some (.one (.hsl i g z' 0 0),blk')) {args:List V} {r:RV} (h:primClone args=some (some r)):
  ∀ (w:World) (O:Nat→Prop) (as:Array Value),Good G w→(∀ c,O c→c<w.heap.size)→Pw (AVRel w O) args as.toList→Calls S.P f as w (PRes w O r):=by
 intro w O as hg hO ha;unfold primClone at h;split at h
 ·cases h
  obtain⟨v,rfl,hp⟩:=pw1 ha;obtain⟨a,cap,rfl,hn,hm⟩:=empty_sl hp;cases a with
  |none=>
   obtain rfl:=hn rfl;refine((sound hS n).1 f _ _ h1 |>.2 w O #[.slice none 0 0] hg hO ⟨rfl,fun j x u p q=> ?_⟩).mono ?_
   ·cases j with
    |zero=>simp at p q;subst p q;exact PRel.nils
    |succ j=>simp at p
   ·rintro e w' ⟨val,bs,rfl,hgr,hnd,hbs,vs,q1,q2⟩
    obtain⟨v0,vs',e1,e2,e3,e4⟩:=q2;have hq1:vs=[val]:=q1;subst hq1;cases e1
    subst e4;cases e2
    exact pres_p hgr (mk_empty (fun _=>rfl) (Nat.zero_le _))
  |some a=>
   let m0:Mem:=⟨w,noBlk,fun _=>0,fun _=>0,O⟩
   have hok:Ok w m0:=⟨rfl,rfl,rfl,Nat.le_refl _,fun _ _=>rfl,(fun id o h=>by cases h),(fun id o h=>by cases h),hO,(fun id id' o o' h=>by cases h)⟩;refine(((sound hS n).2.1 f _ _ _ _ _ h2).2 w m0 #[.slice (some a) 0 cap] hg hok rfl ⟨rfl,fun j x u p q=> ?_⟩).mono ?_
   ·cases j with
    |zero=>
     simp at p q;subst p q;exact CRel.hsl a cap (Nat.zero_le _) (Nat.zero_le _) hm (fun sz _ h=>by cases h)
    |succ j=>simp at p
   ·rintro e w' ⟨val,m',rfl,rfl,q1,q2,q3,q4,q5⟩
    have hq:CRel m' (.hsl i g z' 0 0) val:=q5;cases hq with
    |hsl a2 cap2 _ _ hm2 _=>
     refine pres_p ⟨q2.os,q2.tape,q2.output,q2.size,fun c hc=>q2.keep c hc ?_⟩ (mk_empty (fun h=>by cases h) hm2);rintro ⟨id,o,h,_⟩
     cases h
 ·cases h
end Go.Abs
namespace Go.Abs
open Go.RowKit Go.WideShapes Go.ChangeShapes
section
variable {H:Type} {enc:TypeId × Value→H} {P:Program} {w:World} {base:Nat} {sp:Nat→Bool} {held:Bool}
theorem trod_fits: ∀ (n fuel:Nat) (t:TypeId) (cs:List Value) (x:DataW H × List MemPlace),okTy P n t=true→DataW.trod enc P w base sp held fuel t cs=some x→Fits maxLen x.1:=by
 intro n
 induction n with
 |zero=>intro fuel t cs x h;simp[okTy] at h
 |succ n ih=>
  intro fuel t cs x hok h;cases fuel with
  |zero=>simp[DataW.trod] at h
  |succ fuel=>
   rw[DataW.trod_step] at h;unfold DataW.trodStep at h;unfold okTy at hok;split at h
   case h_1=>cases h;exact .lit _ (fun s h=>by cases h)
   case h_2=>
    split at h
    ·cases h;exact .lit _ (fun s h=>by cases h)
    ·cases h
   case h_4=>
    split at h
    ·rename_i hs;cases h;exact .str _ (by simpa using hs)
    ·cases h
   case h_7=>cases h;exact .nil
   case h_8 e a len cap hu=>
    rw[hu] at hok;simp only[Bool.and_eq_true] at hok;simp only at h;split at h
    ·rename_i hc;simp only[Option.map_eq_some_iff,Option.bind_eq_some_iff] at h;obtain⟨elems,he,rest,hrest,rfl⟩:=h;have hlen:elems.length=len:=by simpa using mapM_some_length he
     refine .slice _ _ (by simp;omega) (fun d hd=> ?_);obtain⟨y,hy,rfl⟩:=List.mem_map.1 hd;obtain⟨i,_,hi⟩:=mapM_mem_of he y hy;simp only[Option.bind_eq_some_iff] at hi;obtain⟨row,_,h2⟩:=hi;exact ih _ _ _ _ hok.2 h2
    ·cases h
   case h_9=>
    rename_i fs hu;rw[hu] at hok;simp only[Bool.and_eq_true] at hok;split at h
    ·simp only[Option.map_eq_some_iff] at h;obtain⟨xs,hx,rfl⟩:=h;refine .agg _ (fun d hd=> ?_);obtain⟨y,hy,rfl⟩:=List.mem_map.1 hd;obtain⟨f,hf,hi⟩:=mapM_mem_of hx y hy;exact ih _ _ _ _ (List.all_eq_true.1 hok.2 f hf) hi
    ·cases h
   all_goals(first|(cases h;done)|(simp_all;done)|(exfalso;simp_all;done))
theorem trodAll_fits{n:Nat}: ∀ {ts:List TypeId} {vs:List Value} {ds:List (DataW H)} {ps:List MemPlace},(∀ t∈ts,okTy P n t=true)→DataW.TrodAll enc P w base sp held ts vs ds ps→(∀ d∈ds,Fits maxLen d)∧ds.length=ts.length:=by
 intro ts
 induction ts with
 |nil=>
  intro vs ds ps _ h;cases vs<;>cases ds<;>first
   |exact h.elim
   |exact⟨fun d hd=>by simp at hd,rfl⟩
 |cons t ts ih=>
  intro vs ds ps hk h;cases vs with
  |nil=>exact h.elim
  |cons v vs=>
   cases ds with
   |nil=>exact h.elim
   |cons d ds=>
    obtain⟨p,q,⟨fuel,h1⟩,h2,rfl⟩:=h;obtain⟨i1,i2⟩:=ih (fun t ht=>hk t (by simp[ht])) h2;refine⟨fun x hx=> ?_,by simp[i2]⟩;rcases List.mem_cons.1 hx with rfl|hx
    ·exact trod_fits n fuel t _ _ (hk t (by simp)) h1
    ·exact i1 x hx
end
section
variable {H:Type} {enc:TypeId × Value→H} {P:Program}
theorem post_of_below{f:Func}{s:ChangeSpec}{apart fresh handsOn again:Bool}{W W':World}{args:Array Value}{v:Value}{ds gs:List (DataW H)}{before pa pv:List MemPlace}
  (hW:DataW.Whole enc P f.params.toList s.vars apart W args.toList ds gs before)
  (hres: ∀ (b:Nat) (sp:Nat→Bool) (hd:Bool),DataW.TrodAll enc P W' b sp hd f.resultTypes.toList (v.resultList f.resultTypes.size) (s.fn H (ds++gs)).results [])
  (hargs: ∀ sp:Nat→Bool,(∀ p∈before,sp p.block=true)→DataW.TrodAll enc P W' 0 sp true f.params.toList args.toList (s.fn H (ds++gs)).args pa)
  (hvars: ∀ sp:Nat→Bool,(∀ p∈before,sp p.block=true)→DataW.TrodVars enc P W' sp s.vars (s.fn H (ds++gs)).vars pv)
  (hps:before=pa++pv) (hb:Below W.heap.size W W')
  (hok: ∀ (j:Nat) (t:TypeId) (r:Value),f.resultTypes[j]? =some t→(v.resultList f.resultTypes.size)[j]? =some r→Value.okWide P W' .any 0 t r):
  s.post enc P f apart fresh handsOn again W args v W':=by
 have hlt: ∀ p∈before,p.block<W.heap.size:=fun p hp=>hW.lt p hp
 have hold: ∀ p∈before,(fun b=>decide (b<W.heap.size)) p.block=true:=fun p hp=>by simpa using hlt p hp
 refine⟨ds,gs,before,[],pa,pv,hW,hres _ _ _,hargs _ hold,hvars _ hold,World.keptBut_mono (fun p hp=>⟨hp,?_⟩) (hb.frame (· ∈before)),fun _=> ?_⟩
 ·rw[hps,List.mem_append] at hp;exact Or.inr hp
 ·obtain⟨_,_,_,_,_,hz,hn⟩:=hW;refine⟨hok,_,_,([]++pa)++pv,⟨[]++pa,pv,trodAll_append (hargs _ (fun _ _=>rfl)) (hres _ _ _),hvars _ (fun _ _=>rfl),rfl,?_,?_⟩,?_⟩
  ·intro b off hp;have hin:MemPlace.cell b off∈before:=by rw[hps];simpa using hp
   rw[hb.frozen (hlt _ hin)];exact hz b off hin
  ·intro ha;have:=hn ha;rw[hps] at this
   simpa using this
  ·intro p hp _;rw[hps]
   simpa using hp
end
theorem hasT_int{P:Program}{N n:Nat}{t:TypeId}{k:IntKind}{p:List PV}(hu:P.underlying t=some (.int k))(h:HasT P N (n+1) t p): ∃ z,p=[.int k z]∧(Lit.int k z).wf=true:=by
 simp only[HasT,hu] at h;exact h
theorem hasT_bool{P:Program}{N n:Nat}{t:TypeId}{p:List PV}(hu:P.underlying t=some .bool)(h:HasT P N (n+1) t p): ∃ b,p=[.bool b]:=by
 simp only[HasT,hu] at h;exact h
theorem hasT_slice{P:Program}{N n:Nat}{t e:TypeId}{p:List PV}(hu:P.underlying t=some (.slice e))(h:HasT P N (n+1) t p): ∃ es,p=[.sl es]∧es.length≤N∧ ∀ x∈es,HasT P N n e x:=by
 simp only[HasT,hu] at h;exact h
theorem argV_struct{P:Program}{t:TypeId}{fs:Array Field}{x:List PV}(hu:P.underlying t=some (.struct fs)):argV P t x= .agg (x.map .p):=by
 unfold argV;rw[hu]
theorem law_contract{S:Sys}{G:World→Prop}(hS:SysOk S G)(hgood: ∀ w,G w→Good G w){fn:Func}{s:ChangeSpec}{f n N:Nat}{handsOn again fresh apart:Bool}(hvars:s.vars=[])
  (hfn: ∀ (H:Type) (ds:List (DataW H)),ds.length=fn.params.toList.length→s.fn H ds={results:=[.lit (.bool true)],args:=ds}) {tb:TypeId} (hres:fn.resultTypes= #[tb]) (htb:S.P.underlying tb=some .bool)
  (hk: ∀ t∈fn.params.toList,okTy S.P n t=true) (law: ∀ pvss,HasAll S.P N n fn.params.toList pvss→PEv S f (argVs S.P fn.params.toList pvss) (.one (.p (.bool true))))
  {H:Type} {enc:TypeId × Value→H} {W:World} {base:Nat} {args:Array Value} {ds gs:List (DataW H)} {before:List MemPlace}
  (hval: ∀ (j:Nat) t v,fn.params[j]? =some t→args[j]? =some v→Value.okWide S.P W .any base t v)
  (hW:DataW.Whole enc S.P fn.params.toList s.vars apart W args.toList ds gs before) (hG:G W) (hfit: ∀ d∈ds,Fits N d):
  Calls S.P f args W fun e W'=> ∃ v,e= .returned v∧s.post enc S.P fn apart fresh handsOn again W args v W':=by
 have hW':=hW;obtain⟨p,q,hA,hV,rfl,hfz,hnd⟩:=hW;rw[hvars] at hV;obtain⟨rfl,rfl⟩:=trodVars_none hV;obtain⟨_,hlen⟩:=trodAll_fits hk hA;obtain⟨pvss,h1,h2⟩:=args_in (r:= .any) (b0:=base) hk (fun j t v a b=>hval j t v (by simpa using a) (by simpa using b)) hA hfit;refine((law pvss h1).calls hS W (hgood W hG) args h2).mono ?_;rintro e W' ⟨val,bs,rfl,hg,_,_,vs,q1,q2⟩
 obtain⟨v0,vs',e1,e2,e3,e4⟩:=q2;have hq1:vs=[val]:=q1;subst hq1;cases e1
 have hv:val= .bool true:=by
  generalize hx:PV.bool true=x at e2;cases e2<;>cases hx
  rfl
 subst hv;have hb:Below W.heap.size W W':=⟨hg.os,hg.tape,hg.output,hg.size,hg.keep⟩;have hlt: ∀ x∈p++[],x.block<W.heap.size:=fun x hx=>hW'.lt x hx
 refine⟨_,rfl,post_of_below (pa:=p) (pv:=[]) hW' ?_ ?_ ?_ rfl hb ?_⟩
 ·intro b sp hd;rw[List.append_nil,hfn H ds hlen,hres];exact trodAll_cons_mk (shut_bool htb _) trodAll_mk0
 ·intro sp' hsp;rw[List.append_nil,hfn H ds hlen];exact trodAll_again (fun t ht=>⟨n,hk t ht⟩) hA (fun x hx=>hb.same (hlt x (by simpa using hx))) (fun x hx=>hsp x (by simpa using hx))
 ·intro sp' hsp;rw[List.append_nil,hfn H ds hlen,hvars];rfl
 ·exact ok_one hres rfl (okWide_bool_mk htb _)
end Go.Abs
namespace Go.Abs
theorem put_some(env:Env)(t:Nat)(v:V):put env (some t) v=upd env t v:=rfl
theorem put_none(env:Env)(v:V):put env none v=env:=rfl
theorem ev_t(env:Env)(n:Nat):ev env (.t n)=env n:=rfl
theorem ev_i(env:Env)(n:Int):ev env (.i n)= .one (.p (.int .i64 n)):=rfl
theorem ev_b(env:Env)(x:Bool):ev env (.b x)= .one (.p (.bool x)):=rfl
theorem ev_k(env:Env)(v:V):ev env (.k v)=v:=rfl
theorem ienv_zero(a:V)(l:List V):ienv (a::l) 0=a:=rfl
theorem ienv_succ(a:V)(l:List V)(n:Nat):ienv (a::l) (n+1)=ienv l n:=rfl
def wantV(v:V)(want:Bool):Option Bool:=match v with
 | .one (.p (.bool b))=>some (b==want)
 | .undef=>some false
 |_=>none
theorem wantV_bool(b want:Bool):wantV (.one (.p (.bool b))) want=some (b==want):=rfl
theorem wantV_undef(want:Bool):wantV .undef want=some false:=rfl
section
variable {S:Sys} {al:Al} {o:IOper} {env:Env} {blk:Blk} {tr:List Eff} {K:Env→Blk→List Eff→Prop} {d:Option Nat}
theorem blockQ_normal{id:Nat}{Q:Post}:blockQ id Q .normal env blk=Q .normal env blk:=rfl
theorem blockQ_ret{id:Nat}{Q:Post}:blockQ id Q .ret env blk=Q .ret env blk:=rfl
theorem blockQ_exit{id i:Nat}{Q:Post}:blockQ id Q (.exit i) env blk=if i=id then Q .normal env blk else Q (.exit i) env blk:=rfl
end
def WN (S:Sys)(al:Al)(ops:List IOper)(Q:Env→Blk→Prop)(env:Env)(blk:Blk):Prop:= ∀ tr,WO S al ops (fun env blk _=>Q env blk) env blk tr
def goPN(S:Sys)(al:Al)(p:Plan)(d:Option Nat)(env:Env)(blk:Blk)(K:Env→Blk→Prop):Prop:=
 match p with
 | .fail=>False
 | .done v u r=>al.oks (r++u.map (·.1))=true∧K (put env d v) (app u blk)
 | .pc f vs r s=> ∃ x,PEv S f vs x∧match land blk r s (x.pureIf (S.lone s)) with
  |some (v,u)=>al.oks (r++u.map (·.1))=true∧K (put env d v) (app u blk)
  |none=>False
 | .sc f vs=>al.holds (allow (S.ctx al) f vs blk)=true∧ ∃ v blk',SEv S f vs (allow (S.ctx al) f vs blk) blk v blk'∧K (put env d v) blk'
def goWN(S:Sys)(al:Al)(w:Option Bool)(o:IOper)(env:Env)(blk:Blk)(K:Env→Blk→Prop):Prop:=
 match w with
 |none=>False
 |some false=>K (put env o.dst .undef) blk
 |some true=>goPN S al (plan S.shared env blk o.op) o.dst env blk K
section
variable {S:Sys} {al:Al} {env:Env} {blk:Blk}
theorem WO_any{ops:List IOper}{R R':Env→Blk→Prop}{tr tr':List Eff}(h:WO S al ops (fun env blk _=>R env blk) env blk tr)(hR: ∀ e b,R e b→R' e b):WO S al ops (fun env blk _=>R' env blk) env blk tr':=by
 obtain⟨n,e,b,es,h1,h2⟩:=h;exact⟨n,e,b,es,h1,hR _ _ h2⟩
theorem W_seq_text{ops:List IOper}{Q:Post}:W S al (.region false ops) Q env blk↔WN S al ops (fun env blk=>Q .normal env blk) env blk:=by
 rw[W_region_iff];constructor
 ·intro h tr;obtain⟨n,e,b,es,h1,_,h2⟩:=h;exact⟨n,e,b,es,h1,h2⟩
 ·intro h;obtain⟨n,e,b,es,h1,h2⟩:=h [];exact⟨n,e,b,es,h1,(fun h=>by cases h),h2⟩
theorem WN_nil_iff{R:Env→Blk→Prop}:WN S al [] R env blk↔R env blk:=⟨fun h=>WO_nil_iff.1 (h []),fun h _=>WO_nil_iff.2 h⟩
theorem goW_goWN{o:IOper}{os:List IOper}{R:Env→Blk→Prop}{w:Option Bool}(tr:List Eff):goW S al w o env blk tr (WO S al os fun e b _=>R e b)↔goWN S al w o env blk (WN S al os R):=by
 have k: ∀ {e:Env} {b:Blk} {t:List Eff},WO S al os (fun e b _=>R e b) e b t↔WN S al os R e b:=fun {e b t}=>⟨fun h t'=>WO_any h fun _ _ h=>h,fun h=>h t⟩
 cases w with
 |none=>exact Iff.rfl
 |some w=>
  cases w with
  |false=>exact k (t:=tr++[⟨[],[],[]⟩])
  |true=>
   simp only[goW,goWN];cases plan S.shared env blk o.op with
   |fail=>exact Iff.rfl
   |done v u r=>simp only[goP,goPN,k]
   |pc f vs r s=>
    simp only[goP,goPN];refine exists_congr fun x=>and_congr Iff.rfl ?_
    cases land blk r s (x.pureIf (S.lone s)) with
    |none=>exact Iff.rfl
    |some y=>simp only[k]
   |sc f vs=>
    simp only[goP,goPN,k]
theorem WN_cons_iff{o:IOper}{os:List IOper}{R:Env→Blk→Prop}:WN S al (o::os) R env blk↔goWN S al (wanted env o.guard) o env blk (WN S al os R):=by
 constructor
 ·intro h;exact(goW_goWN []).1 (WO_cons_iff.1 (h []))
 ·intro h tr;exact WO_cons_iff.2 ((goW_goWN tr).2 h)
variable {o:IOper} {K:Env→Blk→Prop} {d:Option Nat}
end
theorem bft:(false==true)=false:=rfl
theorem btf:(true==false)=false:=rfl
theorem bff:(false==false)=true:=rfl
theorem btt:(true==true)=true:=rfl
theorem outV_p{blk:Blk}{x:PV}:outV blk (.one (.p x))=some (.one (.p x)):=rfl
theorem norm_int(k:IntKind)(n:Int):(PV.int k n).norm= .int k n:=rfl
theorem norm_bool(b:Bool):(PV.bool b).norm= .bool b:=rfl
theorem norm_str(s:ByteArray):(PV.str s).norm= .str s:=rfl
theorem norm_nils:PV.nils.norm= .sl []:=rfl
theorem norm_sl(es:List (List PV)):(PV.sl es).norm= .sl es:=rfl
theorem norm_box(es:List PV):(PV.box es).norm= .box es:=rfl
theorem norm_fn(f:Nat)(a b:List PV):(PV.fn f a b).norm= .fn f a b:=rfl
theorem norm_nilp:PV.nilp.norm= .nilp:=rfl
theorem norm_nilf:PV.nilf.norm= .nilf:=rfl
theorem norm_nilm:PV.nilm.norm= .nilm:=rfl
theorem norm_mp(a:Bool)(e:List (PV × List PV)):(PV.mp a e).norm= .mp a e:=rfl
theorem snapVs_nil{blk:Blk}:snapVs blk []=some ([],[]):=rfl
def snapCons(x:Option (V × List Nat))(y:Option (List V × List Nat)):Option (List V × List Nat):=match x,y with
 |some (b,x),some (bs,y)=>some (b::bs,x++y)
 |_,_=>none
theorem snapVs_cons{blk:Blk}{x:V}{xs:List V}:snapVs blk (x::xs)=snapCons (snapV blk x) (snapVs blk xs):=by
 simp only[snapVs,snapCons,collect];cases snapV blk x<;>cases collect (snapV blk) xs<;>rfl
theorem snapCons_some{b:V}{x:List Nat}{bs:List V}{y:List Nat}:snapCons (some (b,x)) (some (bs,y))=some (b::bs,x++y):=rfl
theorem snapV_p{blk:Blk}{x:PV}:snapV blk (.one (.p x))=some (.one (.p x.norm),[]):=rfl
end Go.Abs
