/-
  The abstract machine is sound in any order that a region draws; a quick evaluator; library functions.
-/
import Derived.Test.YtnbfnkckmfibpaaGreatDoorMc
import Derived.LoopN
import Derived.Scope
import Derived.Orders
import Derived.ChangeReads
import Derived.ChangeStays
import Derived.DataReads
import Derived.Below
import Derived.Sort.Grow
import Derived.Deep.Draws
import Derived.Lib.ItoaNum
import Derived.Lib.Join
import Derived.Lib.BitFns
import Derived.Lib.LaidTab
import Derived.ChangeSame
import Derived.ProofKit
import Derived.OpenShut
set_option linter.unusedSimpArgs false
set_option linter.unusedVariables false
set_option linter.unusedSectionVars false
namespace Go.Abs
variable {P:Program} {w0:World}
def iK(w:World)(O:Nat->Prop):V->Value->Prop
 | .one (.p x),v=>bi w O x v
 | .agg cs,v=> ∃ arr ps,v= .agg arr/\cs=ps.map .p/\aV w O ps arr.toList
 |_,_=>False
def mO(P:Program)(f:Nat):Prop:= ∃ fn c,P.funcs[f]? =some fn/\fn.body=some c/\(fn.name== "runtime.NumGoroutine")=false
def Pe(w:World)(Q:Nat->Prop)(r:RV)(val:Value)(bs:List Nat):Prop:= ∃ vs,xd r val vs/\fC w Q (eJ r) vs bs
def rS(w:World)(O:Nat->Prop)(r:RV):Ending->World->Prop:=fun e w'=>
 ∃ val bs,e= .returned val/\eQ w w'/\bs.Nodup/\(∀ c∈bs,w.heap.size<=c/\c<w'.heap.size)/\Pe w' (fun c=>O c\/c∈bs) r val bs
def Good(G:World->Prop)(w:World):Prop:=G w/\ ∀ w w',eQ w w'->G w->G w'
theorem Ok.SC{m:Mem}(h:Ok w0 m):eQ w0 m.w:=⟨h.os,h.tape,h.output,h.size,h.base⟩
theorem fC.pure{w:World}{Q Q':Nat->Prop}(h: ∀ b,Q' b->Q b): ∀ {rs:List RC} {vs:List Value} {bs:List Nat},(∀ c∈bs,¬ Q' c)->fC w Q rs vs bs->fC w Q' (rs.map RC.pure) vs []:=by
 intro rs
 induction rs with
 |nil=>intro vs bs _ hr;exact⟨hr.1,rfl⟩
 |cons r rs ih=>
  intro vs bs hb hr;have less: ∀ {x:PV} {v:Value},bi w Q x v->bi w Q' x v:=fun hp=>hp.mono fun c _ hn=>⟨rfl,fun hq=>hn (h c hq)⟩
  cases r with
  |p x=>
   obtain⟨v,VD,rfl,h1,h2⟩:=hr;exact⟨v,VD,rfl,less h1,ih hb h2⟩
  |own ty sz es=>
   obtain⟨v,VD,c,bs',rfl,rfl,⟨cap,cur,e1,e2,e3,e4,e5,e6,e7,e8⟩,h2⟩:=hr;refine⟨v,VD,rfl,?_,ih (fun c hc=>hb c (by simp[hc])) h2⟩;subst e1;refine bi.sl c 0 cap sz (fun j=>cur.toList.getD j undef) (fun _=>hb c (by simp)) e5 e6 e4 (fun j x hx=> ?_) (fun j x hx=> ?_)
   ·have hj:j<(cur.toList.take (es.length*sz)).length:=by rw[e8.1];exact(aag.1 hx).1
    have Wh:j<cur.size:=by simp at hj;omega
    rw[World.cell?];simp[e2,Wh,List.getD,abC]
   ·have hj:j<(cur.toList.take (es.length*sz)).length:=by rw[e8.1];exact(aag.1 hx).1
    have Wh:j<cur.size:=by simp at hj;omega
    refine less (e8.2 j x _ hx ?_);rw[List.getElem?_take_of_lt (by simp at hj;omega)];simp[Wh,List.getD]
theorem jF.pure{r:RV}{v:Value}{vs:List Value}(h:jF r v vs):jF r.vh v vs/\dA r.vh=(dA r).map RC.pure:=by
 cases r with
 |one c=>exact⟨h,rfl⟩
 |agg cs=>exact⟨⟨h.1,by simpa [RV.vh] using h.2⟩,rfl⟩
 |tup _=>exact h.elim
theorem oq.pure: ∀ {rs:List RV} {us vs:List Value},oq rs us vs->oq (rs.map RV.vh) us vs/\gR (rs.map RV.vh)=(gR rs).map RC.pure:=by
 intro rs
 induction rs with
 |nil=>intro us vs h;exact⟨h,rfl⟩
 |cons r rs ih=>
  rintro us vs ⟨u,us',a,b,rfl,rfl,h1,h2⟩
  obtain⟨p1,p2⟩:=h1.pure;obtain⟨q1,q2⟩:=ih h2;exact⟨⟨u,us',a,b,rfl,rfl,p1,q1⟩,by simp[gR,p2,q2]⟩
theorem xd.pure{r:RV}{v:Value}{vs:List Value}(h:xd r v vs):xd r.pure v vs/\eJ r.pure=(eJ r).map RC.pure:=by
 cases r with
 |one c=>exact jF.pure (r:= .one c) h
 |agg cs=>exact jF.pure (r:= .agg cs) h
 |tup rs=>
  obtain⟨arr,rfl,h2⟩:=h;obtain⟨q1,q2⟩:=h2.pure;exact⟨⟨arr,rfl,q1⟩,q2⟩
theorem rS.bK{w w':World}{O:Nat->Prop}{r:RV}{e:Ending}(b:Bool)(hO: ∀ c,O c->c<w.heap.size)(h:rS w O r e w'):rS w O (r.bK b) e w':=by
 cases b with
 |false=>exact h
 |true=>
  obtain⟨val,bs,rfl,hg,U3,Wv,vs,h1,h2⟩:=h;obtain⟨p1,p2⟩:=h1.pure;refine⟨val,[],rfl,hg,ace,fun c hc=>by simp at hc,vs,p1,?_⟩;simp only[RV.bK];rw[p2];refine fC.pure (fun b hb=> ?_) (fun c hc hn=> ?_) h2
  ·rcases hb with hb|hb
   ·exact .inl hb
   ·simp at hb
  ·rcases hn with hn|hn
   ·have:=hO c hn;have:=(Wv c hc).1;omega
   ·simp at hn
def og(P:Program)(G:World->Prop)(cp:cG):Prop:= ∀ f vs r,cp f vs=some r->mO P f/\ ∀ (w:World) (O:Nat->Prop) (args:Array Value),Good G w->(∀ c,O c->c<w.heap.size)->Pw (iK w O) vs args.toList->Calls P f args w (rS w O r)
def Mw(w0:World)(m:Mem)(v:V)(Td:aB):Ending->World->Prop:=fun e w'=>
 ∃ val m',e= .returned val/\m'.w=w'/\Ok w0 m'/\Ev m m'/\m'.fr=m.fr/\m'.Tc=Td/\aZ m' v val
def qo(P:Program)(G:World->Prop)(cs:ee):Prop:= ∀ f vs al Tc v Td,cs f vs al Tc=some (v,Td)->mO P f/\ ∀ (w0:World) (m:Mem) (args:Array Value),Good G w0->Ok w0 m->m.Tc=Tc->Pw (aZ m) vs args.toList->Calls P f args m.w (Mw w0 m v Td)
theorem HB{m:Mem}(Tj:Ok w0 m){O:Nat->Prop}{x y:V}{r:List Nat}{v:Value}(h:fM m.Tc x=some (y,r))(hr:aZ m x v)(hs:eX m O r):iK m.w O y v:=by
 cases x with
 |undef=>simp[fM] at h
 |tup vs=>simp[fM] at h
 |one c=>
  simp only[fM,aao] at h;obtain⟨⟨p,r'⟩,h1,h2⟩:=h;cases h2
  exact lw Tj bN h1 hr hs
 |agg cs=>
  simp only[fM,aao] at h;obtain⟨⟨ps,r'⟩,h1,h2⟩:=h;cases h2
  obtain⟨arr,rfl,hc⟩:=aZ.agg.1 hr;refine⟨arr,ps,rfl,rfl,?_⟩;exact ib (R:=bH m) (T:=bi m.w O) (good:=eX m O) (fun _ _=>eX.app) (fun _ _ _ _ h1 h2 h3=>lw Tj bN h1 h2 h3) h1 hs hc
theorem uX{m:Mem}(Tj:Ok w0 m){O:Nat->Prop}{xs ys:List V}{r:List Nat}{vs:List Value}(h:lc m.Tc xs=some (ys,r))(hr:Pw (aZ m) xs vs)(hs:eX m O r):Pw (iK m.w O) ys vs:=
 ib (R:=aZ m) (T:=iK m.w O) (good:=eX m O) (fun _ _=>eX.app) (fun _ _ _ _ h1 h2 h3=>HB Tj h1 h2 h3) h hs hr
theorem KB{m:Mem}(Tj:Ok w0 m){c:Nat}(h:m.own c):c<m.w.heap.size:=by
 rcases h with h|⟨id,o,ho,_,rfl⟩
 ·exact Tj.frlt c h
 ·exact(Tj.obj id o ho).lt
theorem u7{w:World}{Q Q':Nat->Prop}{x:PV}{v:Value}(hs:x.scalar=true)(h:bi w Q x v):bi w Q' x v:=by
 cases h<;>first
  |(simp[PV.scalar] at hs;done)
  |constructor
theorem I5{w:World}{Q Q':Nat->Prop}: ∀ {rs:List RC} {vs:List Value} {bs:List Nat},rs.all RC.alone=true->fC w Q rs vs bs->fC w Q' rs vs bs:=by
 intro rs
 induction rs with
 |nil=>intro vs bs _ h;exact h
 |cons r rs ih=>
  intro vs bs ha h;simp only[abR,aan] at ha;cases r with
  |p x=>
   obtain⟨v,VD,rfl,h1,h2⟩:=h;exact⟨v,VD,rfl,u7 ha.1 h1,ih ha.2 h2⟩
  |own ty sz es=>
   obtain⟨v,VD,c,bs',rfl,rfl,⟨cap,cur,e1,e2,e3,e4,e5,e6,e7,e8⟩,h2⟩:=h;refine⟨v,VD,c,bs',rfl,rfl,⟨cap,cur,e1,e2,e3,e4,e5,e6,e7,e8.1,fun j x u a b=> ?_⟩,ih ha.2 h2⟩;refine u7 ?_ (e8.2 j x u a b);have hx:=aaf a;obtain⟨e,he,hxe⟩:=List.mem_flatten.1 hx;have h1:=ha.1;simp only[RC.alone] at h1;exact aaJ.1 (aaJ.1 h1 e he) x hxe
theorem yx{m:Mem}{w':World}{x:RV}{val:Value}{bs:List Nat}{site:Nat}(Tj:Ok w0 m)(hg:eQ m.w w')(U3:bs.Nodup)(Wv: ∀ c∈bs,m.w.heap.size<=c/\c<w'.heap.size)(hr:Pe w' (fun c=>m.own c\/c∈bs) x val bs):
  ∃ m',m'.w=w'/\Ok w0 m'/\Ev m m'/\m'.fr=m.fr/\m'.Tc=app (lm m.Tc site x).2 m.Tc/\aZ m' (lm m.Tc site x).1 val:=by
 obtain⟨vs,h1,h2⟩:=hr;have U5:Ok w0 (m.later w' (· ∈bs)):=qY Tj hg Wv;have VV:Ev m (m.later w' (· ∈bs)):=nA hg fun c hc=>(Wv c hc).1
 obtain⟨m',e1,e2,e3,_,e5,e6,e7⟩:=Oe (m00:=m) (site:=site) U5 (h2.less fun b hb=>yv.1 hb) U3 (fun c hc=>⟨.inr hc,aa5 Tj.size (Wv c hc).1⟩) VV (fun c hc=> .inl (Wv c hc).1);refine⟨m',e1,e2,e3,?_,e6,HT h1 e7⟩;funext c;apply propext;rw[e5 c];constructor
 ·rintro ⟨h|h,h2⟩
  ·exact h
  ·exact(h2 h).elim
 ·intro h;refine⟨.inl h,fun hc=> ?_⟩;have h1:=Tj.frlt c h;have h2:=(Wv c hc).1;omega
theorem Io{b b':aB}(h: ∀ s,(b s).1=(b' s).1)(site:Nat)(x:RV):lm b site x=lm b' site x:=by
 unfold lm;rw[vM _ site b b' fun s _=>h s]
theorem H9{G:World->Prop}{cp:cG}(hcp:og P G cp)(hG:Good G w0){m:Mem}(Tj:Ok w0 m){f:Nat}{xs vs:List V}{rd:List Nat}{x:RV}{site:Nat}{v:V}{u:List jv}{args:Array Value}(hc:cp f vs=some x)(hs:lc m.Tc xs=some (vs,rd))(Vc:Pw (aZ m) xs args.toList)
  {pb:Bool} (hl:land m.Tc rd site (x.bK pb)=some (v,u)):Calls P f args m.w (Mw w0 m v (app u m.Tc)):=by
 have Vb: ∀ (w:World) (O:Nat->Prop) (args:Array Value),Good G w->(∀ c,O c->c<w.heap.size)->Pw (iK w O) vs args.toList->Calls P f args w (rS w O (x.bK pb)):=
  fun w O args h1 h2 h3=>((hcp f vs x hc).2 w O args h1 h2 h3).mono fun e w' h=>h.bK pb h2
 generalize x.bK pb=x at hl Vb;unfold land at hl;split at hl
 ·rename_i UO;cases hl
  have key: ∀ (O:Nat->Prop),(∀ c,O c->c<m.w.heap.size)->eX m O rd->(∀ w' bs val,Pe w' (fun c=>O c\/c∈bs) x val bs->Pe w' (fun c=>m.own c\/c∈bs) x val bs)->Calls P f args m.w (Mw w0 m (lm m.Tc site x).1 (app (lm m.Tc site x).2 m.Tc)):=by
   intro O hO Wq hup;refine(Vb m.w O args ⟨hG.2 _ _ Tj.SC hG.1,hG.2⟩ hO (uX Tj hs Vc Wq)).mono ?_;rintro e w' ⟨val,bs,rfl,hg,U3,Wv,hr⟩
   obtain⟨m',e1,e2,e3,e4,e5,e6⟩:=yx (site:=site) Tj hg U3 Wv (hup w' bs val hr);exact⟨val,m',rfl,e1,e2,e3,e4,e5,e6⟩
  rcases UO with rfl|UG
  ·exact key m.own (fun c hc=>KB Tj hc) ⟨fun _ h=>h,fun _ h=>by simp at h⟩ fun _ _ _ h=>h
  ·refine key (fun _=>False) (fun c h=>h.elim) ⟨fun _ h=>h.elim,fun _ _ h=>h⟩ fun w' bs val h=> ?_
   obtain⟨VD,h1,h2⟩:=h;exact⟨VD,h1,I5 UG h2⟩
 ·split at hl
  ·rename_i fu Yt;cases hl
   have U5:=Lx Tj Yt;have VV:=Fi Yt;have Wq:=qa Tj Yt;refine(Vb m.w (m.with fu).own args ⟨hG.2 _ _ Tj.SC hG.1,hG.2⟩ (fun c hc=>KB U5 hc) (uX Tj hs Vc Wq)).mono ?_;rintro e w' ⟨val,bs,rfl,hg,U3,Wv,hr⟩
   obtain⟨m',e1,e2,e3,e4,e5,e6⟩:=yx (m:=m.with fu) (site:=site) U5 hg U3 Wv hr;have abe:lm (m.with fu).Tc site x=lm m.Tc site x:=Io (fun s=>uw Yt s) site x;rw[abe] at e5 e6;refine⟨val,m',rfl,e1,e2,VV.trans e3,e4,?_,e6⟩;rw[e5,ql];rfl
  ·cases hl
end Go.Abs
namespace Go.Abs
variable {P:Program} {w0:World}
theorem ug{m m':Mem}(Uf:Ev m m'){env:Env}{a:Act}{dst:Option Nat}{v:V}{x:Value}(hr:fS m env a.tmps)(hv:aZ m' v x)(hd: ∀ d,dst=some d->d<a.tmps.size):fS m' (put env dst v) (a.put dst x).tmps:=by
 cases dst with
 |none=>exact hr.ev Uf
 |some d=>
  intro t;have Ti:=hd d rfl;simp only[put,Act.put,af];by_cases ht:t=d
  ·subst ht;rw[if_pos rfl];have:(a.tmps.setIfInBounds t x).getD t undef=x:=by simp[Ti]
   rw[this];exact hv
  ·rw[if_neg ht];have:(a.tmps.setIfInBounds d x).getD t undef=a.tmps.getD t undef:=by
    simp only[Array.getD_eq_getD_getElem?];rw[Array.getElem?_setIfInBounds_ne (fun e=>ht e.symm)]
   rw[this];exact(hr t).ev Uf.zero
theorem qG(a:Act)(dst:Option Nat)(x:Value):(a.put dst x).tmps.size=a.tmps.size:=by cases dst<;>simp[Act.put]
theorem put_defers(a:Act)(dst:Option Nat)(x:Value):(a.put dst x).defers=a.defers:=by cases dst<;>simp[Act.put]
theorem uG{m:Mem}{env:Env}{tmps:Array Value}(hr:fS m env tmps){ops:Array Oper}{o:Oper}{g:Option (Nat × Bool)}{b:Bool}
  (hg:match o.guard with|none=>g=none|some (j,w)=> ∃ t,(ops[j]?).bind (·.dst)=some t/\g=some (t,w)) (h:wanted env g=some b):Region.wanted o (yielded ops tmps)=b:=by
 unfold Region.wanted;cases ho:o.guard with
 |none=>
  rw[ho] at hg;subst hg;simp only[wanted,aaw] at h;exact h
 |some q=>
  obtain⟨j,w⟩:=q;rw[ho] at hg;obtain⟨t,h1,rfl⟩:=hg;have hrt:=hr t;simp only[wanted] at h;simp only[yielded,h1,Option.bind_some];split at h
  ·rename_i b' hb;rw[hb] at hrt;have hv:=jo hrt;cases h
   have:tmps[t]? =some (.bool b'):=by
    rw[Array.getD_eq_getD_getElem?] at hv;cases he:tmps[t]? with
    |none=>rw[he] at hv;simp[undef] at hv
    |some y=>rw[he] at hv;simp at hv;rw[hv]
   rw[this];rfl
  ·rename_i hb;rw[hb] at hrt;cases h
   have hv:tmps.getD t undef=undef:=hrt;rw[Array.getD_eq_getD_getElem?] at hv;cases he:tmps[t]? with
   |none=>rfl
   |some y=>rw[he] at hv;simp at hv;rw[hv];rfl
  ·cases h
theorem CM{m:Mem}{env:Env}{f:aC}{v:Value}{g:Nat}{a b:List C}(h:CN env f=some (g,a,b))(hr:aZ m (ev env f) v): ∃ A B:Array Value,v= .func (.func g) A B/\aW m a A.toList/\aW m b B.toList:=by
 unfold CN at h;split at h
 ·rename_i g' x y he;cases h
  rw[he] at hr;obtain⟨hp⟩:bH m _ v:=hr;cases hp with
  |fn A B ha hb YS VU=>
   exact⟨A,B,rfl,aV.MW ⟨by simpa using ha,fun j x u p q=>YS j x u p (by simpa using q)⟩,aV.MW ⟨by simpa using hb,fun j x u p q=>VU j x u p (by simpa using q)⟩⟩
 ·rename_i g' x y he;cases h
  rw[he] at hr;have hc:bH m _ v:=hr;cases hc with
  |hfn A B ha hb YS VU=>
   exact⟨A,B,rfl,⟨by simpa using ha,fun j x u p q=>YS j x u p (by simpa using q)⟩,⟨by simpa using hb,fun j x u p q=>VU j x u p (by simpa using q)⟩⟩
 ·cases h
theorem Du{m:Mem}{env:Env}{a:Act}(hr:fS m env a.tmps): ∀ {xs:List Operand} {ys:List aC},ii xs=some ys->Pw (aZ m) (ys.map (ev env)) (xs.map a.eval):=by
 intro xs
 induction xs with
 |nil=>intro ys h;simp[ii] at h;subst h;exact⟨rfl,fun j x u p=>by simp at p⟩
 |cons x xs ih=>
  intro ys h;simp only[ii] at h;split at h
  ·rename_i y ys' h1 h2;cases h
   obtain⟨i1,i2⟩:=ih h2;refine⟨by simpa using i1,fun j z u p q=> ?_⟩;cases j with
   |zero=>simp at p q;subst p q;exact aE h1 hr
   |succ j=>exact i2 j z u (by simpa using p) (by simpa using q)
  ·cases h
theorem qP{m:Mem}{cs:List C}{vs:List Value}(h:aW m cs vs):Pw (aZ m) (cs.map .one) vs:=by
 refine⟨by simpa using h.1,fun j x u p q=> ?_⟩;simp only[aaA,aao] at p;obtain⟨c,hc,rfl⟩:=p;exact aZ.one.2 (h.2 j c u hc q)
theorem AQ{f:Nat}(h:mO P f)(args:Array Value)(w:World):(callFunc f args).run P w= .ok (.enter f args) w:=by
 obtain⟨fn,c,h1,h2,h3⟩:=h;have h4: ¬ fn.name= "runtime.NumGoroutine" :=by simpa using h3
 simp[callFunc,run_program,h1,h2,h4]
theorem Dj{o:Oper}{c:Call}{fo:Operand}{a:Act}{g:Nat}{A B:Array Value}{w:World}(ho:o.op= .call c)(hc:c.callee= .value fo)(hv:a.eval fo= .func (.func g) A B)(he:mO P g):
  (execOp a.eval o).run P w= .ok (.enter g (A++c.args.map a.eval++B)) w:=by
 simp[execOp,ho,resolve,hc,hv,Deferred.ofValue,invoke,AQ he]
theorem tv{site:Nat}{o:Oper}{p:w9}(h:qf P site o=some p)(hp: ∀ s f as,p≠ .call s f as){sh:Nat->Bool}{env:Env}{Tc:aB}:(∀ f vs r s,aP sh env Tc p≠ .pc f vs r s)/\ ∀ f vs,aP sh env Tc p≠ .sc f vs:=by
 cases p<;>first
  |exact(hp _ _ _ rfl).elim
  |(simp only[aP]
    constructor<;>intros<;>intro h<;>(repeat' split at h)<;>first
     |cases h
     |(simp only[uE,fV,ac] at h;(repeat' split at h)<;>cases h))
theorem tP{site:Nat}{o:Oper}{s:Nat}{f:aC}{as:List aC}(h:qf P site o=some (.call s f as)): ∃ c fo,o.op= .call c/\c.callee= .value fo/\bp fo=some f/\ii c.args.toList=some as:=by
 unfold qf at h;split at h
 case h_26 c ho=>
  split at h
  ·rename_i f' as' h1 h2;simp only[aao] at h;obtain⟨y,h3,h4⟩:=h;cases h4
   exact⟨c,f',ho,h1,h3,h2⟩
  all_goals((repeat' split at h)<;>first
   |cases h
   |(simp at h;done))
 all_goals((repeat' split at h)<;>first
  |cases h
  |(simp at h;done))
def FX(w0:World)(m:Mem)(a:Act)(nt:Nat)(Tg:Env)(Td:aB)(K:Act->World->Prop):Prop:=
 ∀ (a':Act) (m':Mem),Ok w0 m'->Ev m m'->m'.fr=m.fr->m'.Tc=Td->fS m' Tg a'.tmps->a'.tmps.size=nt->a'.defers=a.defers->K a' m'.w
theorem sZ{o:Oper}{a:Act}{f:Nat}{args:Array Value}{w:World}{K:Act->World->Prop}{Q:Exit->Act->World->Prop}{R:Ending->World->Prop}(Uo:(execOp a.eval o).run P w= .ok (.enter f args) w)(hc:Calls P f args w R)
  (hR: ∀ e w',R e w'-> ∃ v,e= .returned v/\K (a.put o.dst v) w'):o.wp P a w K Q:=by
 unfold Oper.wp;rw[Uo,Oper.upon_enter];refine hc.mono ?_;intro e w' he;obtain⟨v,rfl,hk⟩:=hR e w' he;exact hk
theorem Bq{G:World->Prop}(hG:Good G w0){cp:cG}{cs:ee}(hP:og P G cp)(hS:qo P G cs){sh:Ctx}{ops:Array Oper}{base nt anc:Nat}{o:Oper}{io:az}{m:Mem}{env Tg:Env}{Td:aB}{eff:dE}{a:Act}{K:Act->World->Prop}{Q:Exit->Act->World->Prop}
  (ho:jt P (fun j=>(ops[j]?).bind (·.dst)) base nt anc o=some io) (TE:step1 sh cp cs io env m.Tc=some (Tg,Td,eff)) (Tj:Ok w0 m) (hr:fS m env a.tmps) (Up:a.tmps.size=nt) (hK:FX w0 m a nt Tg Td K):
  if Region.wanted o (yielded ops a.tmps) then o.wp P a m.w K Q else K (a.put o.dst undef) m.w:=by
 have hio:io.dst=o.dst/\io.op=AO P base o/\(∀ d,o.dst=some d->d<nt)/\(match o.guard with|none=>io.guard=none|some (j,w)=> ∃ t,(ops[j]?).bind (·.dst)=some t/\io.guard=some (t,w)):=by
  unfold jt at ho;split at ho
  ·rename_i hd;simp only[aao] at ho;obtain⟨g,hg,rfl⟩:=ho;refine⟨rfl,rfl,fun d he=> ?_,?_⟩
   ·rw[he] at hd
    simpa [PS] using hd
   ·cases hgo:o.guard with
    |none=>rw[hgo] at hg;simp[Fg] at hg;exact hg.symm
    |some q=>
     obtain⟨j,w⟩:=q;rw[hgo] at hg;simp only[Fg,aao] at hg;obtain⟨t,ht,rfl⟩:=hg;exact⟨t,ht,rfl⟩
  ·cases ho
 obtain⟨h1,h2,h3,h4⟩:=hio;have hd: ∀ d,o.dst=some d->d<a.tmps.size:=by rw[Up];exact h3
 unfold step1 at TE;split at TE
 ·cases TE
 ·rename_i hw;cases TE
  rw[uG hr h4 hw];simp only[aaL,if_false];rw[h1] at hK;exact hK _ m Tj (Ev.refl m) rfl rfl (ug (Ev.refl m) hr (show aZ m .undef undef from rfl) hd) (by rw[qG,Up]) (put_defers _ _ _)
 ·rename_i hw;rw[uG hr h4 hw];simp only[if_true];rw[h2] at TE;unfold AO at TE;cases UN:qf P base o with
  |none=>rw[UN] at TE;simp[aP] at TE
  |some p=>
   rw[UN] at TE;simp only[aaS] at TE;split at TE
   ·cases TE
   ·rename_i v u r hp;split at TE
    case isFalse=>cases TE
    cases TE
    obtain⟨x,m',af1,e2,e3,e4,e5,e6⟩:=QM Tj hr UN hp;rw[h1] at hK;have hk:=fun x (hx:aZ m' v x)=>hK (a.put o.dst x) m' e2 e3 e4 e5 (ug e3 hr hx hd) (by rw[qG,Up]) (put_defers _ _ _)
    unfold Oper.wp;rcases af1 with hd|⟨hd,rfl⟩
    ·rw[hd,Oper.upon_value];exact hk x e6
    ·rw[hd,Oper.upon_skip];exact hk undef e6
   ·rename_i f vs r s hp;by_cases Vb: ∃ s f as,p= .call s f as
    ·obtain⟨s',f',as,rfl⟩:=Vb;obtain⟨c,fo,g1,g2,g3,g4⟩:=tP UN;simp only[aP] at hp;split at hp
     ·rename_i g A B hfn;obtain⟨AV,BV,e1,e2,e3⟩:=CM hfn (aE g3 hr);split at hp
      ·cases hp
      ·split at hp
       ·rename_i ws rd UV;cases hp
        split at TE
        ·rename_i x hx;split at TE
         ·rename_i v u hl;split at TE
          case isFalse=>cases TE
          cases TE
          have Vc:Pw (aZ m) (A.map .one++as.map (ev env)++B.map .one) (AV++c.args.map a.eval++BV).toList:=by
           have:=((qP e2).append (Du hr g4)).append (qP e3)
           simpa using this
          refine sZ (Dj g1 g2 e1 (hP _ _ _ hx).1) (H9 hP hG Tj hx UV Vc hl) ?_;rintro e w' ⟨val,m',rfl,rfl,q1,q2,q3,q4,q5⟩
          rw[h1] at hK;exact⟨val,rfl,hK _ m' q1 q2 q3 q4 (ug q2 hr q5 hd) (by rw[qG,Up]) (put_defers _ _ _)⟩
         ·cases TE
        ·cases TE
       ·cases hp
     ·cases hp
    ·exact((tv UN (fun s f as e=>Vb ⟨s,f,as,e⟩)).1 _ _ _ _ hp).elim
   ·rename_i f vs hp;by_cases Vb: ∃ s f as,p= .call s f as
    ·obtain⟨s',f',as,rfl⟩:=Vb;obtain⟨c,fo,g1,g2,g3,g4⟩:=tP UN;simp only[aP] at hp;split at hp
     ·rename_i g A B hfn;obtain⟨AV,BV,e1,e2,e3⟩:=CM hfn (aE g3 hr);split at hp
      ·cases hp
       split at TE
       case isFalse=>cases TE
       split at TE
       ·rename_i v WD hx;cases TE
        have Vc:Pw (aZ m) (A.map .one++as.map (ev env)++B.map .one) (AV++c.args.map a.eval++BV).toList:=by
         have:=((qP e2).append (Du hr g4)).append (qP e3)
         simpa using this
        refine sZ (Dj g1 g2 e1 (hS _ _ _ _ _ _ hx).1) ((hS _ _ _ _ _ _ hx).2 w0 m _ hG Tj rfl Vc) ?_;rintro e w' ⟨val,m',rfl,rfl,q1,q2,q3,q4,q5⟩
        rw[h1] at hK;exact⟨val,rfl,hK _ m' q1 q2 q3 q4 (ug q2 hr q5 hd) (by rw[qG,Up]) (put_defers _ _ _)⟩
       ·cases TE
      ·split at hp<;>cases hp
     ·cases hp
    ·exact((tv UN (fun s f as e=>Vb ⟨s,f,as,e⟩)).2 _ _ hp).elim
end Go.Abs
namespace Go.Abs
variable {P:Program} {w0:World}
theorem mG{dst anc:Nat->Option Nat}{base nt i:Nat}{o:Oper}{r:List Oper}{l:List az}(h:fZ P dst anc base nt i (o::r)=some l):
  ∃ x xs,l=x::xs/\jt P dst ((base+i)*64) nt ((anc i).getD 0) o=some x/\fZ P dst anc base nt (i+1) r=some xs:=by
 simp only[fZ] at h;split at h
 ·rename_i x xs h1 h2;cases h
  exact⟨x,xs,rfl,h1,h2⟩
 ·cases h
section
variable {G:World->Prop} (hG:Good G w0) {cp:cG} {cs:ee} (hP:og P G cp) (hS:qo P G cs) {sh:Ctx}
include hG hP hS
theorem NR{ops:Array Oper}{anc:Nat->Option Nat}{base nt:Nat}{Q:Exit->Act->World->Prop}: ∀ (r:List Oper) {l:List az} {i:Nat} {env Tg:Env} {m:Mem} {Td:aB} {es:List dE} {a:Act},(∀ j,ops[i+j]? =r[j]?)->fZ P (fun j=>(ops[j]?).bind (·.dst)) anc base nt i r=some l->
  steps sh cp cs l env m.Tc=some (Tg,Td,es)->Ok w0 m->fS m env a.tmps->a.tmps.size=nt->FX w0 m a nt Tg Td (fun a' w'=>Q .normal a' w')->wpOps P ops Q (List.range' i r.length) a m.w:=by
 intro r
 induction r with
 |nil=>
  intro l i env Tg m Td es a _ hc TE Tj hr Up hK;simp[fZ] at hc;subst hc;simp only[steps,aaw,aa2] at TE;obtain⟨rfl,rfl,_⟩:=TE;simp only[aav,List.range'_zero,wpOps];exact hK a m Tj (Ev.refl m) rfl rfl hr Up rfl
 |cons o r ih=>
  intro l i env Tg m Td es a aaT hc TE Tj hr Up hK;obtain⟨x,xs,rfl,h1,h2⟩:=mG hc;simp only[steps] at TE;split at TE
  ·rename_i TI Tq e1 Vz;split at TE
   ·rename_i Tz Tp es2 Ur;cases TE
    have ho:ops[i]? =some o:=by have:=aaT 0;simpa using this
    have key:=Bq (Q:=Q) (K:=wpOps P ops Q (List.range' (i+1) r.length)) hG hP hS h1 Vz Tj hr Up (fun a1 m1 k1 k2 k3 k4 k5 k6 k7=>by
     subst k4;refine ih (m:=m1) (fun j=>by have:=aaT (j+1);rw[show i+1+j=i+(j+1) by omega];simpa using this) h2 Ur k1 k5 k6 ?_;intro a2 m2 p1 p2 p3 p4 p5 p6 p7;exact hK a2 m2 p1 (k2.trans p2) (p3.trans k3) p4 p5 p6 (p7.trans k7))
    simp only[aar,List.range'_succ,wpOps,ho];split at key
    ·rename_i hw;rw[if_pos hw];exact .inl key
    ·rename_i hw;rw[if_neg hw];exact key
   ·cases TE
  ·cases TE
theorem Et{ops:Array Oper}{anc:Nat->Option Nat}{base nt id:Nat}{Q:Exit->Act->World->Prop}{l:List az}{env Tg:Env}{m:Mem}{Td:aB}{es:List dE}{a:Act}(hc:fZ P (fun j=>(ops[j]?).bind (·.dst)) anc base nt 0 ops.toList=some l)
  (TE:steps sh cp cs l env m.Tc=some (Tg,Td,es)) (Tj:Ok w0 m) (hr:fS m env a.tmps) (Up:a.tmps.size=nt) (hK:FX w0 m a nt Tg Td (fun a' w'=>Q .normal a' w')):(Code.region id ops false).wp P Q a m.w:=by
 refine wp_region ?_;have:=NR hG hP hS (sh:=sh) (ops:=ops) (Q:=Q) ops.toList (i:=0) (fun j=>by simp) hc TE Tj hr Up hK;rw[List.range_eq_range']
 simpa using this
end
end Go.Abs
namespace Go.Abs
variable {P:Program} {w0:World}
theorem HW{α β:Type}(g:Array β->α->β): ∀ (l:List α) (acc:Array β),(l.foldl (fun acc o=>acc.push (g acc o)) acc).size=acc.size+l.length/\
  (∀ j,j<acc.size->(l.foldl (fun acc o=>acc.push (g acc o)) acc)[j]? =acc[j]?)/\
  ∀ j o,l[j]? =some o-> ∃ pre:Array β,pre.size=acc.size+j/\(∀ k,k<pre.size->(l.foldl (fun acc o=>acc.push (g acc o)) acc)[k]? =pre[k]?)/\(l.foldl (fun acc o=>acc.push (g acc o)) acc)[acc.size+j]? =some (g pre o):=by
 intro l
 induction l with
 |nil=>intro acc;exact⟨rfl,fun _ _=>rfl,fun j o h=>by simp at h⟩
 |cons x l ih=>
  intro acc;obtain⟨h1,h2,h3⟩:=ih (acc.push (g acc x));simp only[abN];refine⟨by rw[h1];simp;omega,fun j hj=> ?_,fun j o ho=> ?_⟩
  ·rw[h2 j (by simp;omega),Array.getElem?_push,if_neg (by omega)]
  ·cases j with
   |zero=>
    simp at ho;subst ho;refine⟨acc,by omega,fun k hk=> ?_,?_⟩
    ·rw[h2 k (by simp;omega),Array.getElem?_push,if_neg (by omega)]
    ·rw[ab6,h2 acc.size (by simp),Array.getElem?_push,if_pos rfl]
   |succ j=>
    obtain⟨pre,p1,p2,p3⟩:=h3 j o (by simpa using ho);refine⟨pre,by rw[p1];simp;omega,p2,?_⟩;rw[<- p3];simp only[Array.size_push];congr 1;omega
theorem NQ{α:Type}(f:α->Bool)(g:α->Nat)(h:α->Nat): ∀ (l:List α) (s j:Nat),(l.foldl (fun s e=>if f e then s|||g e|||h e else s) s).testBit j=true->s.testBit j=true\/ ∃ e∈l,f e=true/\((g e).testBit j=true\/(h e).testBit j=true):=by
 intro l
 induction l with
 |nil=>intro s j hh;exact .inl hh
 |cons x l ih=>
  intro s j hh;simp only[abN] at hh;rcases ih _ j hh with h1|⟨e,he,h2⟩
  ·split at h1
   ·rename_i hf;simp only[Nat.testBit_or,abk] at h1;rcases h1 with (h1|h1)|h1
    ·exact .inl h1
    ·exact .inr ⟨x,by simp,hf, .inl h1⟩
    ·exact .inr ⟨x,by simp,hf, .inr h1⟩
   ·exact .inl h1
  ·exact .inr ⟨e,by simp[he],h2⟩
theorem Dq{ops:Array Oper}(hao:oU ops=true){i:Nat}{o:Oper}(ho:ops[i]? =some o){j:Nat}(hj:(((Region.before ops)[i]?).getD 0).testBit j=true):
  ∃ e∈o.after,Region.binds .any e=true/\e.on<i/\(j=e.on\/(((Region.before ops)[e.on]?).getD 0).testBit j=true):=by
 unfold Region.before at hj ⊢;rw[<- Array.foldl_toList] at hj ⊢;obtain⟨h1,h2,h3⟩:=HW (fun(acc:Array Nat) (o:Oper)=>o.after.foldl (fun s e=>if Region.binds .any e then s|||2 ^ e.on|||acc.getD e.on 0 else s) 0) ops.toList #[];obtain⟨pre,p1,p2,p3⟩:=h3 i o (by simpa using ho);simp only[Array.size_empty,abC] at p1 p3;rw[p3] at hj;simp only[aaS] at hj;rw[<- Array.foldl_toList] at hj;rcases NQ (fun e=>Region.binds .any e) (fun e=>2 ^ e.on) (fun e=>pre.getD e.on 0) _ _ _ hj with h|⟨e,he,hb,aam⟩
 ·simp at h
 ·have Ti:i<ops.size:=(Array.getElem?_eq_some_iff.1 ho).1;have hon:e.on<i:=by
   unfold oU at hao;have:=aaJ.1 hao i (by simpa using Ti);rw[ho] at this;simp only[Array.all_eq_true'] at this;have:=this e (by simpa using he);simp only[hb,Bool.not_true,aca,decide_eq_true_eq] at this;exact this
  refine⟨e,by simpa using he,hb,hon,?_⟩;rcases aam with aam|aam
  ·left;rw[Nat.testBit_two_pow] at aam;have h9:e.on=j:=by simpa using aam
   exact h9.symm
  ·right;rw[p2 e.on (by omega)]
   simpa [Array.getD_eq_getD_getElem?] using aam
theorem rF{dst:Nat->Option Nat}{base nt anc:Nat}{o:Oper}{io:az}(h:jt P dst base nt anc o=some io):io.anc=anc:=by
 unfold jt at h;split at h
 ·simp only[aao] at h;obtain⟨g,_,rfl⟩:=h;rfl
 ·cases h
structure R5 (P:Program) (ops:Array Oper) (base nt:Nat) (rem:List It) (listed:Array Bool):Prop where
 pair:rem.Pairwise fun p q=>p.i<q.i/\(q.io.anc.testBit p.i=true\/A1 p q)
 comp: ∀ p∈rem,∃ o,ops[p.i]? =some o/\jt P (fun j=>(ops[j]?).bind (·.dst)) ((base+p.i)*64) nt (((Region.before ops)[p.i]?).getD 0) o=some p.io
 size:listed.size=ops.size
 free: ∀ i:Nat,listed[i]? =some false↔ ∃ p∈rem,p.i=i
 closed: ∀ i:Nat,listed[i]? =some true-> ∀ j:Nat,(((Region.before ops)[i]?).getD 0).testBit j=true->listed[j]? =some true
theorem r8{ops:Array Oper}{listed:Array Bool}{i:Nat}:i∈Region.ready .any ops listed↔i<ops.size/\listed.getD i true=false/\ ∃ o,ops[i]? =some o/\ ∀ e∈o.after,Region.binds .any e=true->listed.getD e.on false=true:=by
 unfold Region.ready;simp only[acf,aaE,aan,aaH];constructor
 ·rintro ⟨h1,h2,h3⟩
  refine⟨h1,h2,ops[i],by simp[h1],fun e he hb=> ?_⟩;have ho:ops[i]? =some ops[i]:=by simp[h1]
  rw[ho] at h3;simp only[aa4,aaS,Array.all_eq_true'] at h3;have:=h3 e he;rw[hb] at this
  simpa using this
 ·rintro ⟨h1,h2,o,ho,h3⟩
  refine⟨h1,h2,?_⟩;rw[ho];simp only[aa4,aaS,Array.all_eq_true'];intro e he;cases hb:Region.binds .any e with
  |false=>rfl
  |true=>simp[h3 e he hb]
theorem vQ{l:Array Bool}{i:Nat}(h:l.getD i true=false):l[i]? =some false:=by
 rw[Array.getD_eq_getD_getElem?] at h;cases he:l[i]? with
 |none=>rw[he] at h;simp at h
 |some b=>rw[he] at h;simp at h;rw[h]
theorem Iv{l:Array Bool}{i:Nat}(h:l.getD i false=true):l[i]? =some true:=by
 rw[Array.getD_eq_getD_getElem?] at h;cases he:l[i]? with
 |none=>rw[he] at h;simp at h
 |some b=>rw[he] at h;simp at h;rw[h]
section
variable {G:World->Prop} (hG:Good G w0) {cp:cG} {cs:ee} (hP:og P G cp) (hS:qo P G cs) (hL:ll cs) {sh:Ctx}
include hG hP hS hL
theorem O8{ops:Array Oper}(hao:oU ops=true){base nt:Nat}{Q:Exit->Act->World->Prop}{Tg:Env}{Td:aB}: ∀ (fuel:Nat) {rem:List It} {listed:Array Bool} {env:Env} {m:Mem} {a:Act},R5 P ops base nt rem listed->rem.length<=fuel->
  steps sh cp cs (rem.map (·.io)) env m.Tc=some (Tg,Td,rem.map (·.e))->Ok w0 m->fS m env a.tmps->a.tmps.size=nt->FX w0 m a nt Tg Td (fun a' w'=>Q .normal a' w')->wpAny P .any ops Q fuel listed a m.w:=by
 intro fuel
 induction fuel with
 |zero=>
  intro rem listed env m a hl hlen TE Tj hr Up hK;have ahL:rem=[]:=by
   cases rem with
   |nil=>rfl
   |cons _ _=>simp at hlen
  subst ahL;simp only[aaG,steps,aaw,aa2] at TE;obtain⟨rfl,rfl,_⟩:=TE;refine⟨?_,hK a m Tj (Ev.refl m) rfl rfl hr Up rfl⟩;refine List.eq_nil_iff_forall_not_mem.2 fun i hi=> ?_
  obtain⟨_,h2,_⟩:=r8.1 hi;obtain⟨p,hp,_⟩:=(hl.free i).1 (vQ h2);simp at hp
 |succ fuel ih=>
  intro rem listed env m a hl hlen TE Tj hr Up hK;refine⟨fun afA=> ?_,fun i hi=> ?_⟩
  ·cases rem with
   |nil=>
    simp only[aaG,steps,aaw,aa2] at TE;obtain⟨rfl,rfl,_⟩:=TE;exact hK a m Tj (Ev.refl m) rfl rfl hr Up rfl
   |cons p rest=>
    exfalso;obtain⟨o,ho,_⟩:=hl.comp p (by simp);have Ti:p.i<ops.size:=(Array.getElem?_eq_some_iff.1 ho).1;have VA:p.i∈Region.ready .any ops listed:=by
     refine r8.2 ⟨Ti,?_,o,ho,fun e he hb=> ?_⟩
     ·rw[Array.getD_eq_getD_getElem?,(hl.free p.i).2 ⟨p,by simp,rfl⟩];rfl
     ·have hon:e.on<p.i:=by
       unfold oU at hao;have:=aaJ.1 hao p.i (by simpa using Ti);rw[ho] at this;simp only[Array.all_eq_true'] at this;have:=this e he;simp only[hb,Bool.not_true,aca,decide_eq_true_eq] at this;exact this
      have hs:e.on<listed.size:=by rw[hl.size];omega
      rw[Array.getD_eq_getD_getElem?];cases Tv:listed[e.on] with
      |true=>simp[hs,Tv]
      |false=>
       exfalso;obtain⟨q,hq,hqi⟩:=(hl.free e.on).1 (by simp[hs,Tv]);rcases aat.1 hq with rfl|hq
       ·omega
       ·have:=((acv.1 hl.pair).1 q hq).1;omega
    rw[afA] at VA;simp at VA
  ·obtain⟨h1,h2,o,ho,h3⟩:=r8.1 hi;obtain⟨p,hp,rfl⟩:=(hl.free i).1 (vQ h2);obtain⟨l1,l2,rfl⟩:=List.append_of_mem hp;obtain⟨o',Vh,UN⟩:=hl.comp p hp;rw[ho] at Vh;cases Vh
   have af8: ∀ j:Nat,p.io.anc.testBit j=true->listed[j]? =some true:=by
    intro j hj;rw[rF UN] at hj;obtain⟨e,he,hb,_,hor⟩:=Dq hao ho hj;have hon:=Iv (h3 e he hb);rcases hor with rfl|hor
    ·exact hon
    ·exact hl.closed _ hon j hor
   have Wr:=List.pairwise_append.1 hl.pair;have aeo: ∀ x∈l1,A1 x p:=by
    intro x hx;rcases(Wr.2.2 x hx p (by simp)).2 with h|h
    ·have:=af8 _ h;rw[(hl.free x.i).2 ⟨x,by simp[hx],rfl⟩] at this;cases this
    ·exact h
   obtain⟨TI,Tq,Vz,Ur⟩:=JC hL TE aeo;have key:=Bq (Q:=Q) (K:=wpAny P .any ops Q fuel (listed.setIfInBounds p.i true)) hG hP hS UN Vz Tj hr Up (fun a1 m1 k1 k2 k3 k4 k5 k6 k7=>by
    subst k4;have Ti:p.i<listed.size:=by rw[hl.size];exact h1
    refine ih (rem:=l1++l2) ⟨?_,fun q hq=>hl.comp q (by rcases aaM.1 hq with h|h<;>simp[h]),by simp[hl.size],fun k=> ?_,fun k hk j hj=> ?_⟩ (by simp at hlen ⊢;omega) Ur k1 k5 k6 ?_
    ·refine List.pairwise_append.2 ⟨Wr.1,(acv.1 Wr.2.1).2,fun x hx y hy=>Wr.2.2 x hx y (by simp[hy])⟩
    ·rw[Array.getElem?_setIfInBounds];by_cases hk:p.i=k
     ·subst hk;rw[if_pos rfl,if_pos Ti];constructor
      ·intro h;cases h
      ·rintro ⟨q,hq,hqi⟩
       rcases aaM.1 hq with h|h
       ·have:=(Wr.2.2 q h p (by simp)).1;omega
       ·have:=((acv.1 Wr.2.1).1 q h).1;omega
     ·rw[if_neg hk,hl.free k];constructor
      ·rintro ⟨q,hq,hqi⟩
       rcases aaM.1 hq with h|h
       ·exact⟨q,by simp[h],hqi⟩
       ·rcases aat.1 h with rfl|h
        ·exact(hk hqi).elim
        ·exact⟨q,by simp[h],hqi⟩
      ·rintro ⟨q,hq,hqi⟩
       rcases aaM.1 hq with h|h
       ·exact⟨q,by simp[h],hqi⟩
       ·exact⟨q,by simp[h],hqi⟩
    ·have hup: ∀ j:Nat,listed[j]? =some true->(listed.setIfInBounds p.i true)[j]? =some true:=by
      intro j hj;rw[Array.getElem?_setIfInBounds];split
      ·first
        |rfl
        |(rename_i e;rw[if_pos Ti])
      ·exact hj
     by_cases Wm:p.i=k
     ·subst Wm;refine hup j (af8 j ?_);rw[rF UN];exact hj
     ·rw[Array.getElem?_setIfInBounds,if_neg Wm] at hk;exact hup j (hl.closed k hk j hj)
    ·intro a2 m2 p1 p2 p3 p4 p5 p6 p7;exact hK a2 m2 p1 (k2.trans p2) (p3.trans k3) p4 p5 p6 (p7.trans k7))
   unfold wpOp;rw[ho];simp only;split at key
   ·rename_i hw;rw[if_pos hw];exact .inl key
   ·rename_i hw;rw[if_neg hw];exact key
end
def jm:Nat->List az->List dE->List It
 |i,x::xs,e::es=>⟨i,x,e⟩::jm (i+1) xs es
 |_,_,_=>[]
theorem EN: ∀ {xs:List az} {es:List dE} (i:Nat),es.length=xs.length->(jm i xs es).map (·.io)=xs/\(jm i xs es).map (·.e)=es:=by
 intro xs
 induction xs with
 |nil=>intro es i h;cases es with
  |nil=>exact⟨rfl,rfl⟩
  |cons _ _=>simp at h
 |cons x xs ih=>intro es i h;cases es with
  |nil=>simp at h
  |cons e es=>
   obtain⟨h1,h2⟩:=ih (es:=es) (i+1) (by simpa using h);exact⟨by simp[jm,h1],by simp[jm,h2]⟩
theorem CL{o:az}: ∀ {past:List az} {j:Nat},Au o j past=true-> ∀ k x,past[k]? =some x->o.anc.testBit (j+k)=true\/vY x o=true:=by
 intro past
 induction past with
 |nil=>intro j _ k x h;simp at h
 |cons y past ih=>
  intro j h k x hk;simp only[Au,aan,abk] at h;cases k with
  |zero=>simp at hk;subst hk;exact h.1
  |succ k=>
   have:=ih h.2 k x (by simpa using hk);rw[show j+(k+1)=j+1+k by omega];exact this
theorem Ic{anc:Nat}{e:dE}: ∀ {past:List dE} {j:Nat},vw anc e j past=true-> ∀ k x,past[k]? =some x->anc.testBit (j+k)=true\/kS x e=false:=by
 intro past
 induction past with
 |nil=>intro j _ k x h;simp at h
 |cons y past ih=>
  intro j h k x hk;simp only[vw,aan,abk,aaH] at h;cases k with
  |zero=>simp at hk;subst hk;exact h.1
  |succ k=>
   have:=ih h.2 k x (by simpa using hk);rw[show j+(k+1)=j+1+k by omega];exact this
theorem EM: ∀ {xs:List az} {es:List dE} {past:List az} {pe:List dE},es.length=xs.length->pe.length=past.length->ru xs past=true->dX xs pe es=true->
  (∀ (q:It),q∈jm past.length xs es-> ∀ (k:Nat) (x:az) (e:dE),past[k]? =some x->pe[k]? =some e->q.io.anc.testBit k=true\/(vY x q.io=true/\kS e q.e=false))/\
  (∀ q∈jm past.length xs es,past.length<=q.i)/\(jm past.length xs es).Pairwise fun p q=>p.i<q.i/\(q.io.anc.testBit p.i=true\/A1 p q):=by
 intro xs
 induction xs with
 |nil=>
  intro es past pe _ _ _ _;have:jm past.length [] es=[]:=by cases es<;>rfl
  rw[this];exact⟨fun q h=>by simp at h,fun q h=>by simp at h, .nil⟩
 |cons x xs ih=>
  intro es past pe hl hp hf hd;cases es with
  |nil=>simp at hl
  |cons e es=>
   simp only[ru,aan] at hf;simp only[dX,aan] at hd;obtain⟨i1,i2,i3⟩:=ih (es:=es) (past:=past++[x]) (pe:=pe++[e]) (by simpa using hl) (by simp[hp]) hf.2 hd.2;have hlen:(past++[x]).length=past.length+1:=by simp
   rw[hlen] at i1 i2 i3;simp only[jm];refine⟨?_,?_,acv.2 ⟨?_,i3⟩⟩
   ·intro q hq k y f hy hf';rcases aat.1 hq with rfl|hq
    ·have h1:=CL hf.1 k y hy;have h2:=Ic hd.1 k f hf';rw[abC] at h1 h2;rcases h1 with h1|h1
     ·exact .inl h1
     ·rcases h2 with h2|h2
      ·exact .inl h2
      ·exact .inr ⟨h1,h2⟩
    ·have hk:k<past.length:=(aag.1 hy).1;exact i1 q hq k y f (by rw[acr hk];exact hy) (by rw[acr (by omega)];exact hf')
   ·intro q hq;rcases aat.1 hq with rfl|hq
    ·exact aal _
    ·have:=i2 q hq;omega
   ·intro q hq;refine⟨by have:=i2 q hq;simp only;omega,?_⟩;exact i1 q hq past.length x e (by simp) (by rw[<- hp];simp)
theorem EO{ops:Array Oper}{anc:Nat->Option Nat}{dst:Nat->Option Nat}{base nt:Nat}: ∀ {r:List Oper} {xs:List az} {es:List dE} {i:Nat},fZ P dst anc base nt i r=some xs->es.length=xs.length->(∀ j,ops[i+j]? =r[j]?)->
  (∀ p∈jm i xs es,∃ o,ops[p.i]? =some o/\jt P dst ((base+p.i)*64) nt ((anc p.i).getD 0) o=some p.io)/\ ∀ k,i<=k->k<i+r.length-> ∃ p∈jm i xs es,p.i=k:=by
 intro r
 induction r with
 |nil=>
  intro xs es i h _ _;simp only[fZ,aaw] at h;subst h;have:jm i [] es=[]:=by cases es<;>rfl
  rw[this];exact⟨fun p h=>by simp at h,fun k h1 h2=>by simp at h2;omega⟩
 |cons o r ih=>
  intro xs es i h hl aaT;obtain⟨x,xs',rfl,h1,h2⟩:=mG h;cases es with
  |nil=>simp at hl
  |cons e es=>
   obtain⟨i1,i2⟩:=ih (es:=es) h2 (by simpa using hl) (fun j=>by have:=aaT (j+1);rw[show i+1+j=i+(j+1) by omega];simpa using this);refine⟨fun p hp=> ?_,fun k TH Wm=> ?_⟩
   ·rcases aat.1 hp with rfl|hp
    ·exact⟨o,by have:=aaT 0;simpa using this,h1⟩
    ·exact i1 p hp
   ·by_cases hk:k=i
    ·exact⟨⟨i,x,e⟩,by simp[jm],hk.symm⟩
    ·obtain⟨p,hp,Ut⟩:=i2 k (by omega) (by simp at Wm;omega);exact⟨p,by simp[jm,hp],Ut⟩
theorem Hx{sh:Ctx}{cp:cG}{cs:ee}: ∀ {xs:List az} {env Tg:Env} {Tc Td:aB} {es:List dE},steps sh cp cs xs env Tc=some (Tg,Td,es)->es.length=xs.length:=by
 intro xs
 induction xs with
 |nil=>intro env Tg Tc Td es h;simp only[steps,aaw,aa2] at h;rw[<- h.2.2];rfl
 |cons x xs ih=>
  intro env Tg Tc Td es h;simp only[steps] at h;split at h
  ·split at h
   ·rename_i h2;cases h
    simp[ih h2]
   ·cases h
  ·cases h
theorem Di{dst anc:Nat->Option Nat}{base nt:Nat}: ∀ {r:List Oper} {xs:List az} {i:Nat},fZ P dst anc base nt i r=some xs->xs.length=r.length:=by
 intro r
 induction r with
 |nil=>intro xs i h;simp only[fZ,aaw] at h;subst h;rfl
 |cons o r ih=>
  intro xs i h;obtain⟨x,xs',rfl,_,h2⟩:=mG h;simp[ih h2]
section
variable {G:World->Prop} (hG:Good G w0) {cp:cG} {cs:ee} (hP:og P G cp) (hS:qo P G cs) (hL:ll cs) {sh:Ctx}
include hG hP hS hL
theorem LP(hfo:P.follows .mixedOrders=true){ops:Array Oper}{base nt id:Nat}{Q:Exit->Act->World->Prop}{l:List az}{env Tg:Env}{m:Mem}{Td:aB}{es:List dE}{a:Act}(hc:fZ P (fun j=>(ops[j]?).bind (·.dst)) (fun i=>(Region.before ops)[i]?) base nt 0 ops.toList=some l)
  (hao:oU ops=true) (hf:ru l []=true) (TE:steps sh cp cs l env m.Tc=some (Tg,Td,es)) (hd:dX l [] es=true) (Tj:Ok w0 m) (hr:fS m env a.tmps) (Up:a.tmps.size=nt) (hK:FX w0 m a nt Tg Td (fun a' w'=>Q .normal a' w')):(Code.region id ops true).wp P Q a m.w:=by
 refine wp_region_any hfo ?_;have hlen:=Hx TE;have VG:l.length=ops.size:=by have:=Di hc;simpa using this
 obtain⟨g1,g2⟩:=EN 0 hlen;obtain⟨_,_,hp⟩:=EM (past:=[]) (pe:=[]) hlen rfl hf hd;obtain⟨c1,c2⟩:=EO (ops:=ops) hc hlen (fun j=>by simp);have U5:Ok w0 (m.later m.w.drew fun _=>False):=qY Tj (eQ.drew _) fun _ h=>h.elim
 have VV:Ev m (m.later m.w.drew fun _=>False):=nA (eQ.drew _) fun _ h=>h.elim
 have Y2:(m.later m.w.drew fun _=>False).fr=m.fr:=by
  funext c;simp[Mem.later]
 refine O8 (m:=m.later m.w.drew fun _=>False) hG hP hS hL hao ops.size (rem:=jm 0 l es) (base:=base) ⟨hp,c1,by simp,fun i=> ?_,fun i hi=> ?_⟩ ?_ (by rw[g1,g2];exact TE) U5 (hr.ev VV) Up ?_
 ·constructor
  ·intro h;have hi:i<ops.size:=by
    have:=(Array.getElem?_eq_some_iff.1 h).1
    simpa using this
   exact c2 i (aah _) (by simpa using hi)
  ·rintro ⟨p,hp,rfl⟩
   obtain⟨o,ho,_⟩:=c1 p hp;have hi:p.i<ops.size:=(Array.getElem?_eq_some_iff.1 ho).1;simp[hi]
 ·rw[Array.getElem?_replicate] at hi;split at hi<;>simp at hi
 ·have:(jm 0 l es).length=l.length:=by have:=congrArg List.length g1;simpa using this
  omega
 ·intro a2 m2 p1 p2 p3 p4 p5 p6 p7;exact hK a2 m2 p1 (VV.trans p2) (p3.trans Y2) p4 p5 p6 p7
end
end Go.Abs
namespace Go.Abs
variable {P:Program} {w0:World}
def toE:fJ->Exit
 | .normal=> .normal
 | .exit i=> .exit i
 | .ret=> .ret
section
variable {G:World->Prop} (hG:Good G w0) {cp:cG} {cs:ee} (hP:og P G cp) (hS:qo P G cs) (hL:ll cs) (hfo:P.follows .mixedOrders=true) {sh:Ctx}
include hG hP hS hL hfo
theorem LH{n f nt:Nat}: ∀ (c:Code) {ic:an} {env Tg:Env} {m:Mem} {Td:aB} {e:fJ} {a:Act} {Q:Exit->Act->World->Prop},gC P f nt c=some ic->exec sh cp cs n ic env m.Tc=some (e,Tg,Td)->Ok w0 m->fS m env a.tmps->a.tmps.size=nt->
  FX w0 m a nt Tg Td (fun a' w'=>Q (toE e) a' w')->c.wp P Q a m.w:=by
 intro c
 induction c with
 |skip=>
  intro ic env Tg m Td e a Q hc hx Tj hr Up hK;simp only[gC,aaw] at hc;subst hc;simp only[exec,aaw,aa2] at hx;obtain⟨rfl,rfl,rfl⟩:=hx;exact wp_skip (hK a m Tj (Ev.refl m) rfl rfl hr Up rfl)
 |label l=>
  intro ic env Tg m Td e a Q hc hx Tj hr Up hK;simp only[gC,aaw] at hc;subst hc;simp only[exec,aaw,aa2] at hx;obtain⟨rfl,rfl,rfl⟩:=hx;exact wp_label (hK a m Tj (Ev.refl m) rfl rfl hr Up rfl)
 |ret=>
  intro ic env Tg m Td e a Q hc hx Tj hr Up hK;simp only[gC,aaw] at hc;subst hc;simp only[exec,aaw,aa2] at hx;obtain⟨rfl,rfl,rfl⟩:=hx;exact wp_ret (hK a m Tj (Ev.refl m) rfl rfl hr Up rfl)
 |exit id=>
  intro ic env Tg m Td e a Q hc hx Tj hr Up hK;simp only[gC,aaw] at hc;subst hc;simp only[exec,aaw,aa2] at hx;obtain⟨rfl,rfl,rfl⟩:=hx;exact wp_exit (hK a m Tj (Ev.refl m) rfl rfl hr Up rfl)
 |region id ops draw=>
  intro ic env Tg m Td e a Q hc hx Tj hr Up hK;simp only[gC] at hc;split at hc
  ·rename_i xs hxs;cases draw with
   |false=>
    simp only[aaL,if_false,aaw] at hc;subst hc;simp only[exec] at hx;split at hx
    ·rename_i e1 b1 es TE;simp only[aaL,if_false,aaw,aa2] at hx;obtain⟨rfl,rfl,rfl⟩:=hx;exact Et hG hP hS hxs TE Tj hr Up hK
    ·cases hx
   |true=>
    simp only[if_true] at hc hxs;split at hc
    ·rename_i hfa;simp only[aan] at hfa;cases hc
     simp only[exec] at hx;split at hx
     ·rename_i e1 b1 es TE;simp only[if_true] at hx;split at hx
      ·rename_i hd;cases hx
       exact LP hG hP hS hL hfo hxs hfa.1 hfa.2 TE hd Tj hr Up hK
      ·cases hx
     ·cases hx
    ·cases hc
  ·cases hc
 |seq x y ihx ihy=>
  intro ic env Tg m Td e a Q hc hx Tj hr Up hK;simp only[gC] at hc;split at hc
  ·rename_i ix iy h1 h2;cases hc
   simp only[exec] at hx;refine wp_seq ?_;split at hx
   ·rename_i TI Tq VS;refine ihx h1 VS Tj hr Up ?_;intro a1 m1 k1 k2 k3 k4 k5 k6 k7;subst k4;refine ihy h2 hx k1 k5 k6 ?_;intro a2 m2 p1 p2 p3 p4 p5 p6 p7;exact hK a2 m2 p1 (k2.trans p2) (p3.trans k3) p4 p5 p6 (p7.trans k7)
   ·rename_i TA;refine ihx h1 hx Tj hr Up ?_;intro a1 m1 k1 k2 k3 k4 k5 k6 k7;have:=hK a1 m1 k1 k2 k3 k4 k5 k6 k7;cases e with
    |normal=>exact(TA Tg Td hx).elim
    |exit i=>exact this
    |ret=>exact this
  ·cases hc
 |cond x p q ihp ihq=>
  intro ic env Tg m Td e a Q hc hx Tj hr Up hK;simp only[gC] at hc;split at hc
  ·rename_i c' ip iq h1 h2 h3;cases hc
   simp only[exec] at hx;split at hx
   ·rename_i t ht;have hv:=aE h1 hr;rw[ht] at hv;refine wp_cond (jo hv) ?_;cases t with
    |true=>simp only[if_true] at hx ⊢;exact ihp h2 hx Tj hr Up hK
    |false=>simp only[aaL,if_false] at hx ⊢;exact ihq h3 hx Tj hr Up hK
   ·cases hx
  ·cases hc
 |block id c ih=>
  intro ic env Tg m Td e a Q hc hx Tj hr Up hK;simp only[gC,aao] at hc;obtain⟨ic',h1,rfl⟩:=hc;simp only[exec] at hx;refine wp_block ?_;split at hx
  ·rename_i i TI Tq VS;refine ih h1 VS Tj hr Up ?_;intro a1 m1 k1 k2 k3 k4 k5 k6 k7;simp only[toE,Exit.inBlock];split at hx
   ·rename_i hi;cases hx
    rw[if_pos hi];exact hK a1 m1 k1 k2 k3 k4 k5 k6 k7
   ·rename_i hi;cases hx
    rw[if_neg hi];exact hK a1 m1 k1 k2 k3 k4 k5 k6 k7
  ·rename_i TA;refine ih h1 hx Tj hr Up ?_;intro a1 m1 k1 k2 k3 k4 k5 k6 k7;have:=hK a1 m1 k1 k2 k3 k4 k5 k6 k7;cases e with
   |normal=>exact this
   |exit i=>exact(TA i Tg Td hx).elim
   |ret=>exact this
 |loop c ih=>
  intro ic env Tg m Td e a Q hc hx Tj hr Up hK;simp only[gC,aao] at hc;obtain⟨ic',h1,rfl⟩:=hc;simp only[exec] at hx;refine wp_loop_rounds n ?_;have key: ∀ (k:Nat) {env:Env} {m:Mem} {a:Act},iter (exec sh cp cs n ic') k env m.Tc=some (e,Tg,Td)->Ok w0 m->fS m env a.tmps->a.tmps.size=nt->FX w0 m a nt Tg Td (fun a' w'=>Q (toE e) a' w')->Code.rounds P c Q k a m.w:=by
   intro k
   induction k with
   |zero=>intro env m a hx;simp[iter] at hx
   |succ k ihk=>
    intro env m a hx Tj hr Up hK;rw[rounds_succ];simp only[iter] at hx;split at hx
    ·rename_i TI Tq VS;refine ih h1 VS Tj hr Up ?_;intro a1 m1 k1 k2 k3 k4 k5 k6 k7;subst k4;refine ihk hx k1 k5 k6 ?_;intro a2 m2 p1 p2 p3 p4 p5 p6 p7;exact hK a2 m2 p1 (k2.trans p2) (p3.trans k3) p4 p5 p6 (p7.trans k7)
    ·rename_i TA;refine ih h1 hx Tj hr Up ?_;intro a1 m1 k1 k2 k3 k4 k5 k6 k7;have:=hK a1 m1 k1 k2 k3 k4 k5 k6 k7;cases e with
     |normal=>exact(TA Tg Td hx).elim
     |exit i=>exact this
     |ret=>exact this
  exact key n hx Tj hr Up hK
 |scope c ih=>
  intro ic env Tg m Td e a Q hc hx Tj hr Up hK;simp only[gC] at hc;refine wp_scope_straight ?_;refine ih hc hx Tj hr Up ?_;intro a1 m1 k1 k2 k3 k4 k5 k6 k7;have:=hK a1 m1 k1 k2 k3 k4 k5 k6 k7;cases e<;>exact this
 |_=>
  intro ic env Tg m Td e a Q hc hx;simp only[gC,aaw] at hc;subst hc;simp[exec] at hx
end
end Go.Abs
namespace Go.Abs
variable {P:Program} {w0:World}
theorem M0{m:Mem}{k:Option Nat}{cs:List C}{v:V}{u:Value}(h:gu k cs=some v)(hr:aZ m v u):gi m v u:=by
 unfold gu at h;split at h
 ·split at h
  ·cases h;exact hr
  ·cases h
 ·split at h
  ·cases h;exact hr
  ·cases h
theorem NV{m:Mem}{x v:V}{u:Value}(h:Gr x=some v)(hr:aZ m x u):gi m v u:=by
 cases x<;>simp only[Gr,aaw,reduceCtorEq] at h<;>subst h<;>exact hr
theorem pJ{α β:Type}{f:α->Sem β}{x:α}{xs:List α}{y:β}{ys:List β}{w:World}(h1:(f x).run P w= .ok y w)(h2:(xs.mapM f).run P w= .ok ys w):((x::xs).mapM f).run P w= .ok (y::ys) w:=by
 simp only[List.mapM_cons,Sem.run_bind,h1,h2,Result.andThen_ok,Sem.run_pure]
theorem zV{al:Al}{m:Mem}(Tj:Ok w0 m){env:Env}{tmps:Array Value}(hr:fS m env tmps): ∀ {rs:List ResultVar} {l:List (Nat × Option (Option Nat))} {vs:List V},zW P rs=some l->cF al env m.Tc l=some vs->
  ∃ ys,(rs.mapM (fun| .tmp t=>pure (tmps.getD t undef)| .cell a t=>do loadVar t (<- asAddr (tmps.getD a undef)):ResultVar->Sem Value)).run P m.w= .ok ys m.w/\Pw (gi m) vs ys:=by
 intro rs
 induction rs with
 |nil=>
  intro l vs h1 h2;simp only[zW,aaw] at h1;subst h1;simp only[cF,aaw] at h2;subst h2;exact⟨[],by simp[Sem.run_pure],rfl,fun j x u p=>by simp at p⟩
 |cons r rs ih=>
  intro l vs h1 h2;have cons: ∀ {x:V} {xs:List V} {y:Value} {ys:List Value},gi m x y->Pw (gi m) xs ys->Pw (gi m) (x::xs) (y::ys):=by
   intro x xs y ys p q;refine⟨by simp[q.1],fun j z u a b=> ?_⟩;cases j with
   |zero=>simp at a b;subst a b;exact p
   |succ j=>exact q.2 j z u (by simpa using a) (by simpa using b)
  cases r with
  |tmp t=>
   simp only[zW,aao] at h1;obtain⟨l',h3,rfl⟩:=h1;simp only[cF] at h2;split at h2
   ·rename_i v q e1 e2;cases h2
    obtain⟨ys,g1,g2⟩:=ih h3 e2;exact⟨_::ys,pJ (by simp[Sem.run_pure]) g1,cons (NV e1 (hr t)) g2⟩
   ·cases h2
  |cell a t=>
   simp only[zW] at h1;split at h1
   ·rename_i k q e1 e2;cases h1
    simp only[cF] at h2;split at h2
    ·rename_i cs rd ws e3 e4;split at h2
     case isFalse=>cases h2
     simp only[aao] at h2;obtain⟨v,hv,rfl⟩:=h2;obtain⟨ys,g1,g2⟩:=ih e2 e4;obtain⟨ad,y,p1,p2,p3⟩:=tz e1 (BM Tj e3 (hr a)) hv;exact⟨y::ys,pJ (by simp[p1,asAddr,p2]) g1,cons (M0 hv p3) g2⟩
    ·cases h2
   ·cases h1
theorem BJ{al:Al}{m:Mem}(Tj:Ok w0 m){env:Env}{tmps:Array Value}(hr:fS m env tmps){fn:Func}{l:List (Nat × Option (Option Nat))}{vs:List V}(h1:zW P fn.results.toList=some l)(h2:cF al env m.Tc l=some vs):
  ∃ y,(results fn tmps).run P m.w= .ok y m.w/\aZ m (uP vs) y:=by
 obtain⟨ys,g1,g2⟩:=zV Tj hr h1 h2;have T6:(results fn tmps).run P m.w= .ok (if h:ys.toArray.size=1 then ys.toArray[0] else .tuple ys.toArray) m.w:=by
  unfold results;simp only[Array.mapM_eq_mapM_toList,map_eq_pure_bind,Sem.run_bind,Result.andThen_ok,Sem.run_pure,bind_assoc,pure_bind]
  erw[g1]
  simp only[Result.andThen_ok,Sem.run_pure]
 refine⟨_,T6,?_⟩
 match vs,ys,g2 with
 |[v],[y],g2=>exact aZ.of1 (g2.2 0 v y rfl rfl)
 |[],[],g2=>exact⟨_,rfl,rfl,fun j x u p=>by simp at p⟩
 |v::v'::vs,y::y'::ys,g2=>
  refine⟨_,rfl,by simpa using g2.1,fun j x u p q=>g2.2 j x u p (by simpa using q)⟩
 |[],y::ys,g2=>exact absurd g2.1 (by simp)
 |v::vs,[],g2=>exact absurd g2.1 (by simp)
 |[v],y::y'::ys,g2=>exact absurd g2.1 (by simp)
 |v::v'::vs,[y],g2=>exact absurd g2.1 (by simp)
theorem wO{f:Nat}{fn:ca}(h:rG P f=some fn): ∃ kf c,P.funcs[f]? =some kf/\kf.body=some c/\(kf.name== "runtime.NumGoroutine")=false/\gC P f kf.ntmps c=some fn.body/\zW P kf.results.toList=some fn.results/\fn.ntmps=kf.ntmps:=by
 unfold rG at h;split at h
 ·cases h
 ·rename_i kf hf;split at h
  ·cases h
  ·rename_i c hc;split at h
   ·cases h
   ·rename_i hn;split at h
    ·rename_i b r h1 h2;cases h
     exact⟨kf,c,hf,hc,by simpa using hn,h1,h2,rfl⟩
    ·cases h
def MC(S:Sys)(G:World->Prop):Prop:= ∀ f vs r,S.prim f vs=some (some r)->mO S.P f/\ ∀ (w:World) (O:Nat->Prop) (args:Array Value),Good G w->(∀ c,O c->c<w.heap.size)->Pw (iK w O) vs args.toList->Calls S.P f args w (rS w O r)
structure zi (S:Sys) (G:World->Prop):Prop where
 follow:S.P.follows .mixedOrders=true
 fns: ∀ f fn,S.fns f=some fn->rG S.P f=some fn
 prim:MC S G
theorem Hz{m:Mem}{vs:List V}{args:Array Value}{nt:Nat}(h:Pw (aZ m) vs args.toList)(hl:vs.length<=nt):fS m (nG vs) (args++Array.replicate (nt - args.size) undef)/\(args++Array.replicate (nt - args.size) undef).size=nt:=by
 have hs:args.size=vs.length:=by simpa using h.1
 constructor
 ·intro t;by_cases ht:t<vs.length
  ·have h1:nG vs t=vs[t]:=by simp[nG,List.getD,ht]
   have h2:(args++Array.replicate (nt - args.size) undef).getD t undef=args[t]:=by
    simp[Array.getD_eq_getD_getElem?,Array.getElem?_append,hs,ht]
   rw[h1,h2];exact h.2 t _ _ (by simp[ht]) (by simp[hs,ht])
  ·have h1:nG vs t= .undef:=by simp[nG,List.getD,abI (Nat.le_of_not_lt ht)]
   have h2:(args++Array.replicate (nt - args.size) undef).getD t undef=undef:=by
    simp only[Array.getD_eq_getD_getElem?,Array.getElem?_append,hs,if_neg ht];rw[Array.getElem?_replicate];split<;>rfl
   rw[h1,h2];rfl
 ·simp;omega
theorem Dw{m:Mem}(Tj:Ok w0 m): ∀ {o q:List Nat},apart o q=true->(∀ id∈o,∃ ob,(m.Tc id).2=some ob/\ob.ec=true)->(o.map m.σ).Nodup/\ ∀ id∈q,id∉o:=by
 intro o
 induction o with
 |nil=>intro q _ _;exact⟨by simp,fun id _ h=>by simp at h⟩
 |cons i o ih=>
  intro q h hm;simp only[apart,aan,aaH] at h;obtain⟨⟨h1,h2⟩,h3⟩:=h;obtain⟨i1,i2⟩:=ih h3 (fun id Ts=>hm id (by simp[Ts]));have Vd:i∉o:=by simpa using h1
  have US:i∉q:=by simpa using h2
  refine⟨?_,fun id Ts=> ?_⟩
  ·rw[aas,abD];refine⟨fun VA=> ?_,i1⟩;obtain⟨j,hj,he⟩:=aaF.1 VA;obtain⟨ob,a1,a2⟩:=hm i (by simp);obtain⟨ob',b1,b2⟩:=hm j (by simp[hj]);exact Vd (Tj.inj j i ob' ob b1 b2 a1 a2 he▸hj)
  ·simp only[aat,not_or];exact⟨fun e=>US (e▸Ts),i2 id Ts⟩
theorem Ib{Tc:aB}: ∀ {cs:List C} {rs:List RC} {o q:List Nat},dg Tc cs=some (rs,o,q)->rs.length=cs.length:=by
 intro cs
 induction cs with
 |nil=>intro rs o q h;simp only[dg,aaw,aa2] at h;obtain⟨rfl,_,_⟩:=h;rfl
 |cons c cs ih=>
  intro rs o q h;simp only[dg] at h;split at h
  ·rename_i x o1 q1 xs os qs h1 h2;cases h
   simp[ih h2]
  ·cases h
theorem tR{α β:Type}{f:α->Option (β × List Nat)}: ∀ {xs:List α} {ys:List β} {r:List Nat},collect f xs=some (ys,r)-> ∀ id∈r,∃ x y q,f x=some (y,q)/\id∈q:=by
 intro xs
 induction xs with
 |nil=>intro ys r h id Ts;simp[collect] at h;rw[h.2] at Ts;simp at Ts
 |cons x xs ih=>
  intro ys r h id Ts;simp only[collect] at h;split at h
  ·rename_i b p bs q e1 e2;cases h
   rcases aaM.1 Ts with Ts|Ts
   ·exact⟨x,b,p,e1,Ts⟩
   ·exact ih e2 id Ts
  ·cases h
theorem HA{Tc:aB}: ∀ {n:Nat} {c:C} {x:PV} {r:List Nat},cH Tc n c=some (x,r)-> ∀ id∈r,∃ ob,(Tc id).2=some ob:=by
 intro n
 induction n with
 |zero=>intro c x r h;simp[cH] at h
 |succ n ih=>
  intro c x r h id Ts;have one: ∀ {i:Nat} {ob:Ob} {g:Nat},Tc i=(g,some ob)->id∈[i]-> ∃ ob,(Tc id).2=some ob:=by
   intro i ob g hb hi;simp at hi;subst hi;exact⟨ob,by rw[hb]⟩
  have coll: ∀ {cs:List C} {ps:List PV} {r:List Nat},collect (cH Tc n) cs=some (ps,r)->id∈r-> ∃ ob,(Tc id).2=some ob:=by
   intro cs ps r h hi;obtain⟨x,y,q,h1,h2⟩:=tR h id hi;exact ih h1 id h2
  unfold cH at h;split at h
  ·cases h;simp at Ts
  ·split at h
   ·rename_i hb;split at h
    ·split at h
     ·rename_i hc;cases h
      rcases aat.1 Ts with e|Ts
      ·exact one hb (by simp[e])
      ·exact coll hc Ts
     ·cases h
    ·cases h
   ·rename_i hb;split at h
    ·cases h;exact one hb Ts
    ·cases h
   ·cases h
  ·split at h
   ·rename_i hb;split at h
    ·simp only[aao] at h;obtain⟨e,_,h2⟩:=h;cases h2;exact one hb Ts
    ·cases h
   ·rename_i hb;split at h
    ·simp only[aao] at h;obtain⟨e,_,h2⟩:=h;cases h2;exact one hb Ts
    ·cases h
   ·cases h
  ·split at h
   ·rename_i hb;split at h
    ·cases h;exact one hb Ts
    ·cases h
   ·rename_i hb;split at h
    ·cases h;exact one hb Ts
    ·cases h
   ·rename_i hb;split at h
    ·split at h
     ·rename_i hc;cases h
      rcases aat.1 Ts with e|Ts
      ·exact one hb (by simp[e])
      ·obtain⟨x,y,q,h1,h2⟩:=tR hc id Ts;exact coll h1 h2
     ·cases h
    ·cases h
   ·cases h
  ·split at h
   ·rename_i hb;split at h
    ·cases h;exact one hb Ts
    ·cases h
   ·rename_i hb;split at h
    ·cases h;exact one hb Ts
    ·cases h
   ·cases h
  ·split at h
   ·rename_i h1 h2;cases h
    rcases aaM.1 Ts with Ts|Ts
    ·exact coll h1 Ts
    ·exact coll h2 Ts
   ·cases h
theorem EH{Tc:aB}: ∀ {cs:List C} {rs:List RC} {o q:List Nat},dg Tc cs=some (rs,o,q)-> ∀ id∈q,∃ ob,(Tc id).2=some ob:=by
 intro cs
 induction cs with
 |nil=>intro rs o q h id Ts;simp only[dg,aaw,aa2] at h;rw[<- h.2.2] at Ts;simp at Ts
 |cons c cs ih=>
  intro rs o q h id Ts;simp only[dg] at h;split at h
  ·rename_i x o1 q1 xs os qs h1 h2;cases h
   rcases aaM.1 Ts with Ts|Ts
   ·have sn:(cH Tc bN c).map (fun(v,r)=>((.p v:RC),([]:List Nat),r))=some (x,o1,q1)-> ∃ ob,(Tc id).2=some ob:=by
     intro h1;simp only[aao] at h1;obtain⟨⟨y,r⟩,h3,h4⟩:=h1;cases h4
     exact HA h3 id Ts
    unfold eo at h1;split at h1
    ·cases h1;simp at Ts
    ·split at h1
     ·split at h1
      ·cases h1;simp at Ts
      ·cases h1
     ·exact sn h1
    ·exact sn h1
   ·exact ih h2 id Ts
  ·cases h
theorem NO{w:World}{O:Nat->Prop}{m0 m:Mem}(Tj:Ok w m)(Uf:Ev m0 m)(VF:m0.w=w)(afG: ∀ c,¬ m0.ec c)(Y2:m.fr=O){v:V}{r:RV}{val:Value}(h:en m.Tc v=some r)(hr:aZ m v val):rS w O r (.returned val) m.w:=by
 unfold en at h;split at h
 ·rename_i cs TP;split at h
  ·rename_i rs o q ho;split at h
   ·rename_i hap;cases h
    obtain⟨vs,hc,T4⟩:=Iy TP hr;obtain⟨g1,g2⟩:=T4 rs (Ib ho);have hm:=(yd Tj (Q:=fun _=>False) (fun _ h=>h.elim) ho hc (fun _ _ h=>h)).2;obtain⟨U3,aiB⟩:=Dw Tj hap hm;have adE: ∀ b,(O b\/b∈o.map m.σ)->m.own b:=by
     intro b hb;rcases hb with hb|hb
     ·exact .inl (Y2▸hb)
     ·obtain⟨id,Ts,rfl⟩:=aaF.1 hb;obtain⟨ob,h1,h2⟩:=hm id Ts;exact .inr ⟨id,ob,h1,h2,rfl⟩
    have hq: ∀ id∈q,¬ (O (m.σ id)\/m.σ id∈o.map m.σ):=by
     intro id Ts hn;obtain⟨ob,hob⟩:=EH ho id Ts;by_cases hmi:ob.ec=true
     ·rcases hn with hn|hn
      ·exact(Tj.Tu id ob hob hmi).2 (Y2▸hn)
      ·obtain⟨j,hj,he⟩:=aaF.1 hn;obtain⟨ob',b1,b2⟩:=hm j hj;exact aiB id Ts (Tj.inj j id ob' ob b1 b2 hob hmi he▸hj)
     ·have TW: ¬ m.own (m.σ id):=by
       have hor:=Tj.obj id ob hob;cases ob<;>simp[Ob.ec] at hmi
       ·obtain⟨_,_,_,_,_,TW⟩:=hor;exact TW
       ·obtain⟨_,_,_,_,_,_,_,_,_,TW⟩:=hor;exact TW
       ·obtain⟨_,_,_,_,_,TW⟩:=hor;exact TW
      exact TW (adE _ hn)
    obtain⟨hrc,_⟩:=yd Tj adE ho hc hq;subst VF;refine⟨val,o.map m.σ,rfl,⟨Uf.os,Uf.tape,Uf.output,Uf.size,fun c hc=>Uf.keep c hc (afG c)⟩,U3,fun c hc=> ?_,vs,g2,by rw[g1];exact hrc⟩;obtain⟨id,Ts,rfl⟩:=aaF.1 hc;obtain⟨ob,h1,h2⟩:=hm id Ts;exact⟨(Tj.Tu id ob h1 h2).1,(Tj.obj id ob h1).lt⟩
   ·cases h
  ·cases h
 ·cases h
theorem iK.vrel{w:World}{O:Nat->Prop}{m:Mem}(hw:m.w=w)(ho:m.own=O){x:V}{v:Value}(h:iK w O x v):aZ m x v:=by
 subst hw ho;cases x with
 |undef=>exact h.elim
 |tup _=>exact h.elim
 |one c=>
  cases c with
  |p x=>exact jK h
  |_=>exact h.elim
 |agg cs=>
  obtain⟨arr,ps,rfl,rfl,hp⟩:=h;exact aZ.agg.2 ⟨arr,rfl,hp.MW⟩
theorem HO{sh:Ctx}{cp:cG}{cs:ee}{n:Nat}{fn:ca}{args:List V}{Tc Td:aB}{v:V}(h:l9 sh cp cs n fn args Tc=some (v,Td)):
  ∃ e env vs,exec sh cp cs n fn.body (nG args) Tc=some (e,env,Td)/\(e= .normal\/e= .ret)/\cF sh.al env Td fn.results=some vs/\v=uP vs:=by
 unfold l9 at h;split at h
 ·rename_i env b hx;simp only[aao] at h;obtain⟨vs,h1,h2⟩:=h;cases h2
  exact⟨_,env,vs,hx, .inl rfl,h1,rfl⟩
 ·rename_i env b hx;simp only[aao] at h;obtain⟨vs,h1,h2⟩:=h;cases h2
  exact⟨_,env,vs,hx, .inr rfl,h1,rfl⟩
 ·cases h
theorem Gh{G:World->Prop}(hG:Good G w0){cp:cG}{cs:ee}(hP:og P G cp)(hS:qo P G cs)(hL:ll cs)(hfo:P.follows .mixedOrders=true){sh:Ctx}{n f:Nat}{fn:ca}(hc:rG P f=some fn){vs:List V}{m:Mem}{v:V}{Td:aB}{args:Array Value}(h:l9 sh cp cs n fn vs m.Tc=some (v,Td))
  (hl:vs.length<=fn.ntmps) (Tj:Ok w0 m) (ha:Pw (aZ m) vs args.toList):Calls P f args m.w (Mw w0 m v Td):=by
 obtain⟨kf,c,h1,h2,h3,h4,h5,h6⟩:=wO hc;obtain⟨e,env,rs,hx,he,TM,rfl⟩:=HO h;refine calls_of_wp h1 h2 ?_;obtain⟨s1,s2⟩:=Hz (nt:=kf.ntmps) ha (by rw[<- h6];exact hl);refine LH hG hP hS hL hfo c h4 hx Tj s1 s2 ?_;intro a' m' k1 k2 k3 k4 k5 k6 k7;subst k4;obtain⟨y,g1,g2⟩:=BJ k1 k5 h5 TM;have:bodyPost P kf (Mw w0 m (uP rs) m'.Tc) .normal a' m'.w:=⟨k7,y,g1,y,m',rfl,rfl,k1,k2,k3,rfl,g2⟩;rcases he with rfl|rfl
 ·exact this
 ·exact this
theorem yT{f:Nat}{fn:ca}(hc:rG P f=some fn):mO P f:=by
 obtain⟨kf,c,h1,h2,h3,_⟩:=wO hc;exact⟨kf,c,h1,h2,h3⟩
theorem sound{S:Sys}{G:World->Prop}(h:zi S G): ∀ n,og S.P G (dN S n)/\qo S.P G (dy S n)/\ll (dy S n):=by
 intro n
 induction n with
 |zero=>exact⟨fun f vs r h=>by simp[dN] at h,fun f vs al Tc v Td h=>by simp[dy] at h,fun f vs al Tc v Td h=>by simp[dy] at h⟩
 |succ n ih=>
  obtain⟨hP,hS,hL⟩:=ih;refine⟨?_,?_,?_⟩
  ·intro f vs r hc;rw[dN] at hc;split at hc
   ·rename_i r' hp;subst hc;exact h.prim f vs r hp
   ·split at hc
    ·rename_i fn hfn;have Y6:=h.fns f fn hfn;split at hc
     ·rename_i hl;refine⟨yT Y6,fun w O args hG hO ha=> ?_⟩;unfold Ep at hc;split at hc
      ·rename_i v Td hr
       let m0:Mem:=⟨w,qS,fun _=>0,fun _=>0,O⟩
       have ahT:m0.own=O:=by
        funext c;apply propext;constructor
        ·rintro (h|⟨id,o,h,_⟩)
         ·exact h
         ·cases h
        ·exact .inl
       have Tj:Ok w m0:=⟨rfl,rfl,rfl,aal _,fun _ _=>rfl,(fun id o h=>by cases h),(fun id o h=>by cases h),hO,(fun id Ud o o' h=>by cases h)⟩;have hav:Pw (aZ m0) vs args.toList:=⟨ha.1,fun j x u p q=>(ha.2 j x u p q).vrel rfl ahT⟩;refine(Gh hG hP hS hL h.follow Y6 (m:=m0) hr hl Tj hav).mono ?_;rintro e w' ⟨val,m',rfl,rfl,q1,q2,q3,q4,q5⟩
       subst q4;exact NO (m0:=m0) q1 q2 rfl (fun c ⟨id,o,h,_⟩=>by cases h) q3 hc q5
      ·cases hc
     ·cases hc
    ·cases hc
  ·intro f vs al Tc v Td hc;rw[dy] at hc;split at hc
   ·rename_i fn hfn;have Y6:=h.fns f fn hfn;split at hc
    ·rename_i hl;refine⟨yT Y6,fun w0 m args hG Tj hb ha=> ?_⟩;subst hb;exact Gh hG hP hS hL h.follow Y6 hc hl Tj ha
    ·cases hc
   ·cases hc
  ·intro f vs al Tc v Td hc;rw[dy] at hc;split at hc
   ·rename_i fn hfn;split at hc
    ·rename_i hl;obtain⟨l1,l2⟩:=Nq hL hc;refine⟨l1,fun Tp h2=> ?_⟩;obtain⟨b3,h3,h4⟩:=l2 Tp h2;exact⟨b3,by rw[dy];simp only[hfn,hl,if_true];exact h3,h4⟩
    ·cases hc
   ·cases hc
theorem aH.calls{S:Sys}{G:World->Prop}(h:zi S G){f:Nat}{vs:List V}{r:RV}(hc:aH S f vs r)(w:World)(hG:Good G w)(args:Array Value)(ha:Pw (iK w fun _=>False) vs args.toList):Calls S.P f args w (rS w (fun _=>False) r):=by
 obtain⟨n,hn⟩:=hc;exact((sound h n).1 f vs r hn).2 w _ args hG (fun c h=>h.elim) ha
end Go.Abs
namespace Go.Abs
def my(op:BinOp)(a b:Nat)(other:Option V):Option V:=
 match op with
 | .add=>bif Nat.ble (Nat.add a b) 9223372036854775807 then some (.one (.p (.int .i64 (.ofNat (Nat.add a b))))) else other
 | .sub=>bif Nat.ble b a then bif Nat.ble a 9223372036854775807 then some (.one (.p (.int .i64 (.ofNat (Nat.sub a b))))) else other else other
 | .mul=>bif Nat.ble (Nat.mul a b) 9223372036854775807 then some (.one (.p (.int .i64 (.ofNat (Nat.mul a b))))) else other
 | .eql=>some (.one (.p (.bool (Nat.beq a b))))
 | .neq=>some (.one (.p (.bool (!Nat.beq a b))))
 | .lss=>some (.one (.p (.bool (Nat.ble (Nat.succ a) b))))
 | .leq=>some (.one (.p (.bool (Nat.ble a b))))
 | .gtr=>some (.one (.p (.bool (Nat.ble (Nat.succ b) a))))
 | .geq=>some (.one (.p (.bool (Nat.ble b a))))
 | .rem=>bif Nat.beq b 0 then other else some (.one (.p (.int .i64 (.ofNat (Nat.mod a b)))))
 |_=>other
def Me(op:BinOp)(x y:V):Option V:=
 match x,y with
 | .one (.p (.int .i64 (.ofNat a))), .one (.p (.int .i64 (.ofNat b)))=>my op a b (mI op x y)
 |_,_=>mI op x y
theorem mV{n:Nat}(h:n<=9223372036854775807):IntKind.i64.wrap (n:Int)=n:=by
 have e:(2 ^ IntKind.i64.bits:Int)=18446744073709551616:=by decide
 have e2:(2 ^ (IntKind.i64.bits - 1):Int)=9223372036854775808:=by decide
 unfold IntKind.wrap;simp only[e,e2];have h1:(n:Int)%18446744073709551616=n:=by omega
 rw[h1];have h2: ¬ (n:Int)≥9223372036854775808:=by omega
 simp[h2]
theorem IB(op:BinOp)(a b:Nat):my op a b (mI op (.one (.p (.int .i64 (.ofNat a)))) (.one (.p (.int .i64 (.ofNat b)))))=mI op (.one (.p (.int .i64 (.ofNat a)))) (.one (.p (.int .i64 (.ofNat b)))):=by
 have hb: ∀ {x:Bool} {u v w:Option V},(x=true->u=w)->v=w->(bif x then u else v)=w:=by
  intro x u v w h1 h2;cases x with
  |false=>exact h2
  |true=>exact h1 rfl
 have ofn: ∀ n:Nat,(Int.ofNat n:Int)=(n:Int):=fun _=>rfl
 have ble: ∀ {a b:Nat},Nat.ble a b=decide ((a:Int)<=(b:Int)):=by
  intro a b;cases h:Nat.ble a b with
  |true=>have:=aaN h;symm;simp;omega
  |false=>
   symm;simp;have: ¬ a<=b:=fun hh=>by rw[Nat.ble_eq_true_of_le hh] at h;cases h
   omega
 have beq: ∀ {a b:Nat},Nat.beq a b=((a:Int)==(b:Int)):=by
  intro a b;by_cases h:a=b
  ·subst h;simp
  ·have h1:Nat.beq a b=false:=by
    cases e:Nat.beq a b with
    |false=>rfl
    |true=>exact(h (abT e)).elim
   rw[h1];symm;simp;omega
 cases op
 case add=>
  refine hb (fun h=> ?_) rfl;have h:a+b<=9223372036854775807:=aaN h;have:((a:Int)+(b:Int))=((a+b:Nat):Int):=by omega
  simp only[mI,gt,true_or,if_true,aa4,ofn];rw[this,mV h];rfl
 case sub=>
  refine hb (fun h0=>hb (fun h=> ?_) rfl) rfl;have h:=aaN h;have h0:=aaN h0;have:((a:Int) - (b:Int))=((a - b:Nat):Int):=by omega
  simp only[mI,gt,true_or,if_true,aa4,ofn];rw[this,mV (by omega)];rfl
 case mul=>
  refine hb (fun h=> ?_) rfl;have h:a*b<=9223372036854775807:=aaN h;have:((a:Int)*(b:Int))=((a*b:Nat):Int):=by simp
  simp only[mI,gt,true_or,if_true,aa4,ofn];rw[this,mV h];rfl
 case rem=>
  by_cases h0:b=0
  ·subst h0;rfl
  ·have h1:Nat.beq b 0=false:=by
    cases e:Nat.beq b 0 with
    |false=>rfl
    |true=>exact(h0 (abT e)).elim
   have h2: ¬ (b:Int)=0:=by omega
   simp only[my,h1,cond_false,mI,gt,true_or,if_true,aa4,ofn,if_neg h2];rfl
 case eql=>simp only[my,mI,gt,true_or,if_true,aa4,ofn,beq]
 case neq=>simp only[my,mI,gt,true_or,if_true,aa4,ofn,beq];rfl
 case lss=>simp only[my,mI,gt,true_or,if_true,aa4,ofn,ble];congr 4
 case leq=>simp only[my,mI,gt,true_or,if_true,aa4,ofn,ble]
 case gtr=>simp only[my,mI,gt,true_or,if_true,aa4,ofn,ble];congr 4
 case geq=>simp only[my,mI,gt,true_or,if_true,aa4,ofn,ble]
 all_goals rfl
theorem Md(op:BinOp)(x y:V):Me op x y=mI op x y:=by
 unfold Me;split
 ·exact IB _ _ _
 ·rfl
def AW(v:V):Option Nat:=
 match v with
 | .one (.p (.int _ (.ofNat n)))=>some n
 |v=>xE v
theorem Hh(v:V):AW v=xE v:=by
 unfold AW;split
 ·simp[xE]
 ·rfl
def lV(env:Env)(d:Nat):Option aC->Option Nat
 |none=>some d
 |some a=>AW (ev env a)
theorem Dn(env:Env)(d:Nat)(a:Option aC):lV env d a=ek env d a:=by
 cases a with
 |none=>rfl
 |some a=>simp only[lV,ek,Hh]
def Kp(env:Env)(x:aC):d5:= .done (ev env x) [] []
def HY(env:Env)(c:aC)(a:aC)(b:aC):d5:=match ev env c with
  | .one (.p (.bool t))=> .done (if t then ev env a else ev env b) [] []
  |_=> .fail
def EC(Tc:aB)(s:Nat)(z:List PV):d5:= .done (.one (.Tn s ((Tc s).1+1) 0)) [(s,((Tc s).1+1,some (.var (z.map .p))))] [s]
def Ku(env:Env)(Tc:aB)(s:Nat)(x:aC):d5:=match fB (ev env x) with
  |some cs=> .done (.one (.Tn s ((Tc s).1+1) 0)) [(s,((Tc s).1+1,some (.var cs)))] [s]
  |none=> .fail
def EB(env:Env)(z:List PV)(ps:List (Nat × Nat × aC)):d5:=match jA env ps with
  |some q=> .done (.agg (fill (z.map .p) q)) [] []
  |none=> .fail
def BU(env:Env)(Tc:aB)(s:Nat)(ty:Nat)(sz:Nat)(ps:List aC):d5:=match kr env sz ps with
  |some es=>match qu es with
   |some qs=> .done (.one (.hsl s ((Tc s).1+1) sz 0 es.length)) [(s,((Tc s).1+1,some (.arr ty sz qs)))] [s]
   |none=> .done (.one (.hsl s ((Tc s).1+1) sz 0 es.length)) [(s,((Tc s).1+1,some (.TV ty sz es)))] [s]
  |none=> .fail
def H2(env:Env)(Tc:aB)(k:Option Nat)(x:aC):d5:=match xu Tc (ev env x) with
  |some (cs,r)=>match gu k cs with
   |some v=> .done v [] r
   |none=> .fail
  |none=> .fail
def Eu(env:Env)(Tc:aB)(n:Nat)(a:aC)(x:aC):d5:=match fB (ev env x) with
  |some xs=>uE Tc (ev env a) n xs
  |none=> .fail
def BS(env:Env)(x:aC):d5:=match ev env x with
  | .one (.Tn id g o)=> .done (.one (.Tn id g o)) [] []
  | .one (.TS id g i o)=> .done (.one (.TS id g i o)) [] []
  | .one (.p (.box cs))=> .done (.one (.p (.box cs))) [] []
  | .one (.hfn f a b)=> .done (.one (.hfn f a b)) [] []
  | .one (.p (.fn f a b))=> .done (.one (.p (.fn f a b))) [] []
  |_=> .fail
def BX(env:Env)(op:BinOp)(x:aC)(y:aC):d5:=match Me op (ev env x) (ev env y) with
  |some v=> .done v [] []
  |none=> .fail
def Kt(env:Env)(k:Hk)(neg:Bool)(x:aC)(y:aC):d5:=match Ox k (ev env x) (ev env y) with
  |some b=> .done (.one (.p (.bool (if neg then !b else b)))) [] []
  |none=> .fail
def NF(env:Env)(op:UnOp)(x:aC):d5:=match op,ev env x with
  | .not, .one (.p (.bool b))=> .done (.one (.p (.bool (!b)))) [] []
  | .neg, .one (.p (.int k n))=> .done (.one (.p (.int k (k.wrap (0 - n))))) [] []
  |_,_=> .fail
def H5(env:Env)(k:IntKind)(x:aC):d5:=match ev env x with
  | .one (.p (.int _ n))=> .done (.one (.p (.int k (k.wrap n)))) [] []
  |_=> .fail
def H7(env:Env)(Tc:aB)(x:aC):d5:=match bh Tc (ev env x) with
  |some (es,r,[])=>match bytesOf es with
   |some bs=> .done (.one (.p (.str ⟨bs.toArray⟩))) [] r
   |none=> .fail
  |_=> .fail
def H1(env:Env)(f:Nat)(a:List aC)(b:List aC):d5:=match kJ env a,kJ env b with
  |some x,some y=> .done (.one (.hfn f x y)) [] []
  |_,_=> .fail
def Ew(Tc:aB)(s:Nat)(ag:Bool):d5:= .done (.one (.T6 s ((Tc s).1+1))) [(s,((Tc s).1+1,some (.map ag [])))] [s]
def qH(env:Env)(Tc:aB)(s:Nat)(ty:Nat)(sz:Nat)(bytes:Nat)(z:List PV)(l:aC)(c:aC):d5:=match AW (ev env l),AW (ev env c) with
  |some n,some m=>if n=m/\n*bytes<=room then
    .done (.one (.hsl s ((Tc s).1+1) sz 0 n)) [(s,((Tc s).1+1,some (.arr ty sz (List.replicate n z))))] [s]
   else .fail
  |_,_=> .fail
def vl(env:Env)(sz:Nat)(x:aC)(lo:Option aC)(hi:Option aC):d5:=match tZ (ev env x) with
  |some n=>match lV env 0 lo,lV env n hi with
   |some l,some h=>fV (ev env x) sz l h
   |_,_=> .fail
  |none=> .fail
def tq(env:Env)(x:aC)(lo:Option aC)(hi:Option aC):d5:=match ev env x with
  | .one (.p (.str s))=>match lV env 0 lo,lV env s.size hi with
   |some l,some h=>if l<=h/\h<=s.size then .done (.one (.p (.str (s.extract l h)))) [] [] else .fail
   |_,_=> .fail
  |_=> .fail
def Ez(env:Env)(off:Nat)(x:aC):d5:=match ev env x with
  | .one (.Tn id g o)=> .done (.one (.Tn id g (o+off))) [] []
  | .one (.TS id g i o)=> .done (.one (.TS id g i (o+off))) [] []
  | .one (.p (.box cs))=> .done (.one (.p (.box (cs.drop off)))) [] []
  |_=> .fail
def vm(env:Env)(sz:Nat)(x:aC)(i:aC):d5:=match AW (ev env i),ev env x with
  |some n, .one (.p (.sl es))=>match es[n]? with
   |some e=>if e.length=sz then .done (.one (.p (.box e))) [] [] else .fail
   |none=> .fail
  |some n, .one (.hsl id g z off len)=>if n<len/\z=sz then .done (.one (.TS id g (off+n) 0)) [] [] else .fail
  |_,_=> .fail
def vp(env:Env)(len:Nat)(sz:Nat)(x:aC)(i:aC):d5:=match AW (ev env i),ev env x with
  |some n, .one (.Tn id g o)=>if n<len then .done (.one (.Tn id g (o+n*sz))) [] [] else .fail
  |some n, .one (.TS id g j o)=>if n<len then .done (.one (.TS id g j (o+n*sz))) [] [] else .fail
  |some n, .one (.p (.box cs))=>if n<len then .done (.one (.p (.box (cs.drop (n*sz))))) [] [] else .fail
  |_,_=> .fail
def Ks(env:Env)(off:Nat)(k:Option Nat)(x:aC):d5:=match ev env x with
  | .agg cs=>match gu k (cs.drop off) with
   |some v=> .done v [] []
   |none=> .fail
  |_=> .fail
def xX(env:Env)(len:Nat)(sz:Nat)(k:Option Nat)(x:aC)(i:aC):d5:=match AW (ev env i),ev env x with
  |some n, .agg cs=>if n<len then
    match gu k (cs.drop (n*sz)) with
    |some v=> .done v [] []
    |none=> .fail
   else .fail
  |_,_=> .fail
def xW(env:Env)(x:aC)(i:aC):d5:=match AW (ev env i),ev env x with
  |some n, .one (.p (.str s))=>match s[n]? with
   |some b=> .done (.one (.p (.int .u8 b.toNat))) [] []
   |none=> .fail
  |_,_=> .fail
def BT(env:Env)(Tc:aB)(kd:Nat)(z:List PV)(agg:Bool)(ok:Bool)(x:aC)(k:aC):d5:=match mapOf Tc agg (ev env x),ev env k with
  |some (es,r), .one (.p q)=>if dU q≠kd then .fail else match lR q es 0 with
   |some f=>match mapVal agg ((f.map (·.2)).getD z) with
    |some w=> .done (if ok then .tup [w, .one (.p (.bool f.isSome))] else w) [] r
    |none=> .fail
   |none=> .fail
  |_,_=> .fail
def Kv:d5:= .fail
def HZ(env:Env)(Tc:aB)(kd:Nat)(ag:Bool)(m:aC)(k:aC)(v:aC):d5:=match ev env m,ev env k,jM ag (ev env v) with
  | .one (.T6 id g), .one (.p q),some cs=>match Tc id,xn cs with
   |(g',some (.map Xv es)),some ps=>if g'=g/\Xv=ag/\dU q=kd then
     match lR q es 0 with
     |some (some (i,_))=> .done .undef [(id,(g,some (.map ag (es.set i (q,ps)))))] [id]
     |some none=> .done .undef [(id,(g,some (.map ag (es++[(q,ps)]))))] [id]
     |none=> .fail
    else .fail
   |_,_=> .fail
  |_,_,_=> .fail
def Ab(env:Env)(x:aC)(i:Nat):d5:=match ev env x with
  | .tup vs=>match vs[i]? with
   |some v=> .done v [] []
   |none=> .fail
  |_=> .fail
def H6(Tf:Nat->Bool)(env:Env)(Tc:aB)(s:Nat)(f:aC)(as:List aC):d5:=match CN env f with
  |some (g,a,b)=>
   if Tf g then .sc g (a.map .one++as.map (ev env)++b.map .one)
   else match lc Tc (a.map .one++as.map (ev env)++b.map .one) with
    |some (vs,r)=> .pc g vs r s
    |none=> .fail
  |none=> .fail
def HX(env:Env)(x:aC):d5:=match ev env x with
  | .one (.p (.str s))=> .done (.one (.p (.int .i64 s.size))) [] []
  |_=> .fail
def H3(env:Env)(x:aC):d5:=match tZ (ev env x) with
  |some n=> .done (.one (.p (.int .i64 n))) [] []
  |none=> .fail
def H0(env:Env)(Tc:aB)(x:aC):d5:=match xz Tc (ev env x) with
  |some (n,r)=> .done (.one (.p (.int .i64 n))) [] r
  |none=> .fail
def BY(env:Env)(Tc:aB)(s:Nat)(ty:Nat)(sz:Nat)(bytes:Nat)(d:aC)(x:aC):d5:=ac Tc s ty sz bytes (ev env d) (ev env x)
def Kr(env:Env)(x:aC)(y:aC):d5:=match ev env x,ev env y with
  | .one (.p (.int k a)), .one (.p (.int _ b))=> .done (.one (.p (.int k (if b>a then b else a)))) [] []
  |_,_=> .fail
def Kq(env:Env)(x:aC)(y:aC):d5:=match ev env x,ev env y with
  | .one (.p (.int k a)), .one (.p (.int _ b))=> .done (.one (.p (.int k (if b<a then b else a)))) [] []
  |_,_=> .fail
def EA(env:Env)(Tc:aB)(z:List PV)(x:aC):d5:=match ev env x with
  | .one (.p .nils)=> .done (.tup []) [] []
  | .one (.p (.sl []))=> .done (.tup []) [] []
  | .one (.hsl id g _ off len)=>if len=0 then .done (.tup []) [] [] else match Tc id with
   |(g',some (.arr ty sz es))=>if g'=g/\sz=z.length/\off+len<=es.length then .done (.tup []) [(id,(g,some (.arr ty sz (bc es off (List.replicate len z)))))] [id] else .fail
   |_=> .fail
  |_=> .fail
def Kx(Tf:Nat->Bool)(env:Env)(Tc:aB):w9->d5
 | .To x=>Kp env x
 | .pick c a b=>HY env c a b
 | .alloc s z=>EC Tc s z
 | .box s x=>Ku env Tc s x
 | .build z ps=>EB env z ps
 | .Tt s ty sz ps=>BU env Tc s ty sz ps
 | .load k x=>H2 env Tc k x
 | .store n a x=>Eu env Tc n a x
 | .Tm x=>BS env x
 | .bin op x y=>BX env op x y
 | .eqc k neg x y=>Kt env k neg x y
 | .un op x=>NF env op x
 | .conv k x=>H5 env k x
 | .bstr x=>H7 env Tc x
 | .mkfn f a b=>H1 env f a b
 | .mkmap s ag=>Ew Tc s ag
 | .TK s ty sz bytes z l c=>qH env Tc s ty sz bytes z l c
 | .slice sz x lo hi=>vl env sz x lo hi
 | .sslice x lo hi=>tq env x lo hi
 | .Te off x=>Ez env off x
 | .Tx sz x i=>vm env sz x i
 | .UR len sz x i=>vp env len sz x i
 | .fld off k x=>Ks env off k x
 | .aidx len sz k x i=>xX env len sz k x i
 | .sidx x i=>xW env x i
 | .lookup kd z agg ok x k=>BT env Tc kd z agg ok x k
 | .bad=>Kv
 | .mupd kd ag m k v=>HZ env Tc kd ag m k v
 | .extract x i=>Ab env x i
 | .call s f as=>H6 Tf env Tc s f as
 | .slen x=>HX env x
 | .Ug x=>H3 env x
 | .mlen x=>H0 env Tc x
 | .append s ty sz bytes d x=>BY env Tc s ty sz bytes d x
 | .max x y=>Kr env x y
 | .min x y=>Kq env x y
 | .clear z x=>EA env Tc z x
theorem Kw(Tf:Nat->Bool)(env:Env)(Tc:aB)(o:w9):Kx Tf env Tc o=aP Tf env Tc o:=by
 cases o<;>first
  |rfl
  |simp only[Kx,aP,BX,qH,vl,tq,vm,vp,xX,xW,Md,Hh,Dn]<;>rfl
inductive Tr where
 |leaf
 |node (v:V) (l r:Tr)
noncomputable def Tr.get (t:Tr):Nat->V:=
 Tr.rec (motive:=fun _=>Nat->V) (fun _=> .undef) (fun v _ _ gl gr n=>bif Nat.beq n 0 then v else bif Nat.beq (Nat.mod n 2) 1 then gl (Nat.div n 2) else gr (Nat.sub (Nat.div n 2) 1)) t
noncomputable def Tr.single (k:Nat):Nat->V->Tr:=
 Nat.rec (motive:=fun _=>Nat->V->Tr) (fun _ _=> .leaf) (fun _ ih n x=>bif Nat.beq n 0 then .node x .leaf .leaf else bif Nat.beq (Nat.mod n 2) 1 then .node .undef (ih (Nat.div n 2) x) .leaf else .node .undef .leaf (ih (Nat.sub (Nat.div n 2) 1) x)) k
noncomputable def Tr.set (t:Tr):Nat->V->Tr:=
 Tr.rec (motive:=fun _=>Nat->V->Tr) (fun n x=>Tr.single 12 n x) (fun v l r sl sr n x=>bif Nat.beq n 0 then .node x l r else bif Nat.beq (Nat.mod n 2) 1 then .node v (sl (Nat.div n 2) x) r else .node v l (sr (Nat.sub (Nat.div n 2) 1) x)) t
theorem kK{a b:Nat}(h:a≠b):Nat.beq a b=false:=by
 cases e:Nat.beq a b with
 |false=>rfl
 |true=>exact(h (abT e)).elim
theorem Ln(n:Nat):Tr.leaf.get n= .undef:=rfl
theorem ro(v:V)(l r:Tr)(n:Nat):(Tr.node v l r).get n=if n=0 then v else if n%2=1 then l.get (n/2) else r.get (n/2 - 1):=by
 show(bif Nat.beq n 0 then v else bif Nat.beq (n%2) 1 then l.get (n/2) else r.get (n/2 - 1))=_;by_cases h0:n=0
 ·subst h0;rfl
 ·rw[kK h0,if_neg h0];by_cases h1:n%2=1
  ·rw[h1];rfl
  ·rw[kK h1,if_neg h1];rfl
theorem xN(f:Tr->Tr)(g:Tr->Tr)(v:V)(l r:Tr)(n m:Nat)(x:V)(hl:n%2=1->(f l).get (m/2)=if m/2=n/2 then x else l.get (m/2))(hr:n≠0->n%2≠1->(g r).get (m/2 - 1)=if m/2 - 1=n/2 - 1 then x else r.get (m/2 - 1)):
  (bif Nat.beq n 0 then Tr.node x l r else bif Nat.beq (n%2) 1 then .node v (f l) r else .node v l (g r)).get m=if m=n then x else (Tr.node v l r).get m:=by
 by_cases h0:n=0
 ·subst h0;simp only[Nat.beq_refl,cond_true,ro];by_cases hm:m=0<;>simp[hm]
 ·rw[kK h0];by_cases h1:n%2=1
  ·rw[h1];simp only[cond_false,Nat.beq_refl,cond_true,ro];by_cases hm:m=0
   ·subst hm;rw[if_pos rfl,if_neg (fun e=>h0 e.symm),if_pos rfl]
   ·rw[if_neg hm];by_cases Wl:m%2=1
    ·rw[if_pos Wl,hl h1];by_cases he:m=n
     ·subst he;simp
     ·rw[if_neg he,if_neg (by omega),if_neg hm,if_pos Wl]
    ·rw[if_neg Wl,if_neg (by omega),if_neg hm,if_neg Wl]
  ·rw[kK h1];simp only[cond_false,ro];by_cases hm:m=0
   ·subst hm;rw[if_pos rfl,if_neg (fun e=>h0 e.symm),if_pos rfl]
   ·rw[if_neg hm];by_cases Wl:m%2=1
    ·rw[if_pos Wl,if_neg (by omega),if_neg hm,if_pos Wl]
    ·rw[if_neg Wl,hr h0 h1];by_cases he:m=n
     ·subst he;simp
     ·rw[if_neg he,if_neg (by omega),if_neg hm,if_neg Wl]
theorem Eh: ∀ (k n m:Nat) (x:V),n+1<2 ^ k->(Tr.single k n x).get m=if m=n then x else Tr.leaf.get m:=by
 intro k
 induction k with
 |zero=>intro n m x h;simp at h
 |succ k ih=>
  intro n m x h;have hp:2 ^ (k+1)=2*2 ^ k:=by rw[Nat.pow_succ];omega
  have:=xN (fun _=>Tr.single k (n/2) x) (fun _=>Tr.single k (n/2 - 1) x) .undef .leaf .leaf n m x (fun _=>ih _ _ _ (by omega)) (fun _ _=>ih _ _ _ (by omega));have e:(Tr.node .undef .leaf .leaf).get m=Tr.leaf.get m:=by rw[ro];simp[Ln]
  rw[e] at this;exact this
theorem Tr.GG: ∀ (t:Tr) (n m:Nat) (x:V),n+1<2 ^ 12->(t.set n x).get m=if m=n then x else t.get m:=by
 intro t
 induction t with
 |leaf=>intro n m x h;exact Eh 12 n m x h
 |node v l r ihl ihr=>
  intro n m x h;exact xN (fun l=>l.set (n/2) x) (fun r=>r.set (n/2 - 1) x) v l r n m x (fun _=>ihl _ _ _ (by omega)) (fun _ _=>ihr _ _ _ (by omega))
abbrev BL:=List (Nat × (Nat × Option Ob))
noncomputable def Iw (b:BL) (n:Nat):Nat × Option Ob:=
 List.rec (motive:=fun _=>Nat × Option Ob) (0,none) (fun p _ ih=>bif Nat.beq p.1 n then p.2 else ih) b
noncomputable def BG:BL->Nat->Nat × Option Ob->BL
 |[],n,x=>[(n,x)]
 |(i,o)::r,n,x=>bif Nat.beq i n then (i,x)::r else (i,o)::BG r n x
theorem Lo: ∀ (b:BL) (n:Nat) (x:Nat × Option Ob) (m:Nat),Iw (BG b n x) m=if m=n then x else Iw b m:=by
 intro b
 induction b with
 |nil=>
  intro n x m;simp only[BG,Iw];by_cases h:m=n
  ·subst h;simp
  ·have:Nat.beq n m=false:=kK fun e=>h e.symm
   simp[this,h]
 |cons p b ih=>
  obtain⟨i,o⟩:=p;intro n x m;simp only[BG];by_cases h:i=n
  ·subst h;simp only[Nat.beq_refl,cond_true,Iw];by_cases hm:m=i
   ·subst hm;simp
   ·have:Nat.beq i m=false:=kK fun e=>hm e.symm
    simp[this,hm]
  ·have:Nat.beq i n=false:=kK h;simp only[this,cond_false,Iw];by_cases hm:i=m
   ·subst hm;simp[h]
   ·have:Nat.beq i m=false:=kK hm;simp only[this,cond_false];exact ih n x m
noncomputable def kY (t:Tr):Env:=fun i=>t.get i
noncomputable def iN (b:BL):aB:=fun i=>Iw b i
noncomputable def Hs:Nat->List V->Tr->Tr
 |_,[],t=>t
 |i,a::r,t=>Hs (i+1) r (t.set i a)
theorem JB: ∀ (l:List V) (i:Nat) (t:Tr) (m:Nat),i+l.length<4095->(Hs i l t).get m=if i<=m/\m<i+l.length then l.getD (m - i) .undef else t.get m:=by
 intro l
 induction l with
 |nil=>intro i t m _;simp[Hs];intro h1 h2;omega
 |cons a r ih=>
  intro i t m h;simp only[aar] at h ⊢;rw[Hs,ih (i+1) _ m (by omega),Tr.GG t i m a (by omega)];by_cases h1:m=i
  ·subst h1;rw[if_neg (by omega),if_pos rfl,if_pos (by omega)];simp
  ·rw[if_neg h1];by_cases h2:i+1<=m/\m<i+1+r.length
   ·rw[if_pos h2,if_pos (by omega)];obtain⟨k,rfl⟩: ∃ k,m=i+1+k:=⟨m - (i+1),by omega⟩;rw[show i+1+k - (i+1)=k by omega,show i+1+k - i=k+1 by omega];simp
   ·rw[if_neg h2,if_neg (by omega)]
theorem JD{args:List V}(h:args.length<4095):kY (Hs 0 args .leaf)=nG args:=by
 funext m;unfold kY nG;rw[JB args 0 .leaf m (by omega)];by_cases hm:m<args.length
 ·rw[if_pos (by omega)];rfl
 ·rw[if_neg (by omega)];simp[Tr.get,List.getD,abI (Nat.le_of_not_lt hm)]
noncomputable def Jq {α:Type} (n:Nat) (k:Nat->α):α:=match n with
 |0=>k 0
 |m+1=>k (m+1)
noncomputable def Jr {α:Type} (z:Int) (k:Int->α):α:=match z with
 | .ofNat n=>Jq n fun n=>k (.ofNat n)
 | .negSucc n=>Jq n fun n=>k (.negSucc n)
noncomputable def Jp {α:Type} (v:V) (k:V->α):α:=match v with
 | .one (.p (.int t z))=>Jr z fun z=>k (.one (.p (.int t z)))
 | .one (.p (.bool b))=>match b with
  |true=>k (.one (.p (.bool true)))
  |false=>k (.one (.p (.bool false)))
 |v=>k v
@[simp] theorem Sh {α:Type} (n:Nat) (k:Nat->α):Jq n k=k n:=by cases n<;>rfl
@[simp] theorem Si {α:Type} (z:Int) (k:Int->α):Jr z k=k z:=by cases z<;>simp[Jr]
@[simp] theorem Jo {α:Type} (v:V) (k:V->α):Jp v k=k v:=by
 unfold Jp;split
 ·simp
 ·split<;>rfl
 ·rfl
def NT(al:Al)(l:List Nat):Bool:=bif al.any then true else al.kB l
theorem NS(al:Al)(l:List Nat):NT al l=al.kB l:=by
 unfold NT;cases h:al.any with
 |false=>rfl
 |true=>simp[Al.kB,Al.ok,h]
abbrev eO:=Nat->List V->Al->BL->Option (V × BL)
noncomputable def Mo:List jv->BL->BL
 |[],b=>b
 |(i,o)::r,b=>Mo r (BG b i o)
theorem F4: ∀ (u:List jv) (b:BL),iN (Mo u b)=app u (iN b):=by
 intro u
 induction u with
 |nil=>intro b;rfl
 |cons x u ih=>
  obtain⟨i,o⟩:=x;intro b;simp only[Mo,app];rw[ih];congr 1;funext m;exact Lo b i o m
noncomputable def HV (t:Tr) (d:Option Nat) (v:V) (k:Tr->Option (Tr × BL × dE)):Option (Tr × BL × dE):=match d with
 |none=>k t
 |some n=>bif Nat.ble n 4000 then Jp v fun v=>k (t.set n v) else none
noncomputable def F7 (sh:Ctx) (cp:cG) (cs:eO) (o:az) (t:Tr) (b:BL):Option (Tr × BL × dE):=
 match wanted (kY t) o.guard with
 |none=>none
 |some false=>HV t o.dst .undef fun t'=>some (t',b,⟨[],[],[]⟩)
 |some true=>match Kx sh.Tf (kY t) (iN b) o.op with
  | .fail=>none
  | .done v u r=>bif NT sh.al (r++u.map (·.1)) then HV t o.dst v fun t'=>some (t',Mo u b,⟨r,u.map (·.1),[]⟩) else none
  | .pc f vs r s=>match cp f vs with
   |some x=>match land (iN b) r s (x.bK (sh.lone s)) with
    |some (v,u)=>bif NT sh.al (r++u.map (·.1)) then HV t o.dst v fun t'=>some (t',Mo u b,⟨r++u.map (·.1),u.map (·.1),[]⟩) else none
    |none=>none
   |none=>none
  | .sc f vs=>match allow sh f vs (iN b) with
   |al=>bif sh.al.holds al then
     match cs f vs al b with
     |some (v,b')=>HV t o.dst v fun t'=>some (t',b',⟨al.ids,al.ids,al.fs⟩)
     |none=>none
    else none
noncomputable def I8 (cs:ee) (cf:eO):Prop:= ∀ f vs al b v b',cf f vs al b=some (v,b')->cs f vs al (iN b)=some (v,iN b')
theorem uh{t t':Tr}{d:Option Nat}{v:V}{b b':BL}{e e':dE}(h:HV t d v (fun t'=>some (t',b,e))=some (t',b',e')):put (kY t) d v=kY t'/\b=b'/\e=e':=by
 unfold HV at h;split at h
 ·cases h;exact⟨rfl,rfl,rfl⟩
 ·rename_i n;cases hn:Nat.ble n 4000 with
  |false=>rw[hn] at h;cases h
  |true=>
   rw[hn] at h;simp only[cond_true,Jo] at h;cases h
   refine⟨?_,rfl,rfl⟩;have:=aaN hn;funext m;unfold kY put;exact(Tr.GG t n m v (by omega)).symm
theorem JS{sh:Ctx}{cp:cG}{cs:ee}{cf:eO}(hs:I8 cs cf){o:az}{t t':Tr}{b b':BL}{e:dE}(h:F7 sh cp cf o t b=some (t',b',e)):step1 sh cp cs o (kY t) (iN b)=some (kY t',iN b',e):=by
 unfold F7 at h;simp only[Kw,NS] at h;unfold step1;split at h
 ·cases h
 ·rename_i hw;rw[hw];obtain⟨h1,rfl,rfl⟩:=uh h;simp only[h1]
 ·rename_i hw;rw[hw];simp only;split at h
  ·cases h
  ·rename_i v u r hp;cases Tj:sh.al.kB (r++u.map (·.1)) with
   |false=>rw[Tj] at h;cases h
   |true=>
    rw[Tj] at h;obtain⟨h1,rfl,rfl⟩:=uh h;simp only[hp,Tj,if_true,h1,F4]
  ·rename_i f vs r s hp;split at h
   ·rename_i x hx;split at h
    ·rename_i v u hl;cases Tj:sh.al.kB (r++u.map (·.1)) with
     |false=>rw[Tj] at h;cases h
     |true=>
      rw[Tj] at h;obtain⟨h1,rfl,rfl⟩:=uh h;simp only[hp,hx,hl,Tj,if_true,h1,F4]
    ·cases h
   ·cases h
  ·rename_i f vs hp;cases Tj:sh.al.holds (allow sh f vs (iN b)) with
   |false=>rw[Tj] at h;cases h
   |true=>
    rw[Tj] at h;simp only[cond_true] at h;split at h
    ·rename_i v b1 hc;obtain⟨h1,rfl,rfl⟩:=uh h;simp only[hp,Tj,if_true,hs _ _ _ _ _ _ hc,h1]
    ·cases h
noncomputable def Qt (sh:Ctx) (cp:cG) (cs:eO) (o:az) (ih:Tr->BL->Option (Tr × BL × List dE)) (env:Tr) (Tc:BL):Option (Tr × BL × List dE):=
 match F7 sh cp cs o env Tc with
 |some (Tg,Td,e)=>match ih Tg Td with
  |some (X4,WD,es)=>some (X4,WD,e::es)
  |none=>none
 |none=>none
noncomputable def rX (sh:Ctx) (cp:cG) (cs:eO) (l:List az):Tr->BL->Option (Tr × BL × List dE):=
 List.rec (motive:=fun _=>Tr->BL->Option (Tr × BL × List dE)) (fun env Tc=>some (env,Tc,[])) (fun o _ ih=>Qt sh cp cs o ih) l
theorem Eb(sh:Ctx)(cp:cG)(cs:eO)(env:Tr)(Tc:BL):rX sh cp cs [] env Tc=some (env,Tc,[]):=rfl
theorem Bp(sh:Ctx)(cp:cG)(cs:eO)(o:az)(r:List az)(env:Tr)(Tc:BL):rX sh cp cs (o::r) env Tc=match F7 sh cp cs o env Tc with
  |some (Tg,Td,e)=>match rX sh cp cs r Tg Td with
   |some (X4,WD,es)=>some (X4,WD,e::es)
   |none=>none
  |none=>none:=rfl
theorem Hy{sh:Ctx}{cp:cG}{cs:ee}{cf:eO}(hs:I8 cs cf): ∀ {ops:List az} {t t':Tr} {b b':BL} {es:List dE},rX sh cp cf ops t b=some (t',b',es)->steps sh cp cs ops (kY t) (iN b)=some (kY t',iN b',es):=by
 intro ops
 induction ops with
 |nil=>intro t t' b b' es h;simp only[Eb,aaw,aa2] at h;obtain⟨rfl,rfl,rfl⟩:=h;rfl
 |cons o r ih=>
  intro t t' b b' es h;simp only[Bp] at h;split at h
  ·rename_i t1 b1 e1 h1;split at h
   ·rename_i t2 b2 es2 h2;cases h
    simp only[steps,JS hs h1,ih h2]
   ·cases h
  ·cases h
noncomputable def Cs (f:Tr->BL->Option (fJ × Tr × BL)) (n:Nat):Tr->BL->Option (fJ × Tr × BL):=
 Nat.rec (motive:=fun _=>Tr->BL->Option (fJ × Tr × BL)) (fun _ _=>none) (fun _ ih env Tc=>match f env Tc with
  |some (.normal,Tg,Td)=>ih Tg Td
  |r=>r) n
theorem E0(f:Tr->BL->Option (fJ × Tr × BL))(n:Nat)(env:Tr)(Tc:BL):Cs f (n+1) env Tc=match f env Tc with
  |some (.normal,Tg,Td)=>Cs f n Tg Td
  |r=>r:=rfl
abbrev Ex:=Tr->BL->Option (fJ × Tr × BL)
noncomputable def LI (sh:Ctx) (cp:cG) (cs:eO) (d:Bool) (ops:List az):Ex:=fun env Tc=>match rX sh cp cs ops env Tc with
  |some (Tg,Td,es)=>bif d then (bif dX ops [] es then some (.normal,Tg,Td) else none) else some (.normal,Tg,Td)
  |none=>none
noncomputable def SF (a b:Ex):Ex:=fun env Tc=>match a env Tc with
  |some (.normal,Tg,Td)=>b Tg Td
  |r=>r
noncomputable def Rg (x:aC) (a b:Ex):Ex:=fun env Tc=>match ev (kY env) x with
  | .one (.p (.bool t))=>bif t then a env Tc else b env Tc
  |_=>none
noncomputable def Ov (id:Nat) (c:Ex):Ex:=fun env Tc=>match c env Tc with
  |some (.exit i,Tg,Td)=>bif Nat.beq i id then some (.normal,Tg,Td) else some (.exit i,Tg,Td)
  |r=>r
noncomputable def jI (sh:Ctx) (cp:cG) (cs:eO) (n:Nat) (c:an):Ex:=
 an.rec (motive:=fun _=>Ex) (fun env Tc=>some (.normal,env,Tc)) (fun d ops=>LI sh cp cs d ops) (fun _ _ a b=>SF a b) (fun x _ _ a b=>Rg x a b)
  (fun id _ c=>Ov id c) (fun _ c=>Cs c n) (fun id env Tc=>some (.exit id,env,Tc)) (fun env Tc=>some (.ret,env,Tc)) (fun _ _=>none) c
section
variable (sh:Ctx) (cp:cG) (cs:eO) (n:Nat) (env:Tr) (Tc:BL)
theorem Fo:jI sh cp cs n .skip env Tc=some (.normal,env,Tc):=rfl
theorem Fq(id:Nat):jI sh cp cs n (.exit id) env Tc=some (.exit id,env,Tc):=rfl
theorem ID:jI sh cp cs n .ret env Tc=some (.ret,env,Tc):=rfl
theorem Ax(d:Bool)(ops:List az):jI sh cp cs n (.region d ops) env Tc=match rX sh cp cs ops env Tc with
  |some (Tg,Td,es)=>bif d then (bif dX ops [] es then some (.normal,Tg,Td) else none) else some (.normal,Tg,Td)
  |none=>none:=rfl
theorem IC(a b:an):jI sh cp cs n (.seq a b) env Tc=match jI sh cp cs n a env Tc with
  |some (.normal,Tg,Td)=>jI sh cp cs n b Tg Td
  |r=>r:=rfl
theorem Fr(x:aC)(a b:an):jI sh cp cs n (.cond x a b) env Tc=match ev (kY env) x with
  | .one (.p (.bool t))=>bif t then jI sh cp cs n a env Tc else jI sh cp cs n b env Tc
  |_=>none:=rfl
theorem CV(id:Nat)(c:an):jI sh cp cs n (.block id c) env Tc=match jI sh cp cs n c env Tc with
  |some (.exit i,Tg,Td)=>bif Nat.beq i id then some (.normal,Tg,Td) else some (.exit i,Tg,Td)
  |r=>r:=rfl
theorem Fp(c:an):jI sh cp cs n (.loop c) env Tc=Cs (jI sh cp cs n c) n env Tc:=rfl
end
theorem La{f:Tr->BL->Option (fJ × Tr × BL)}{g:Env->aB->Option (fJ × Env × aB)}(hfg: ∀ t b e t' b',f t b=some (e,t',b')->g (kY t) (iN b)=some (e,kY t',iN b')):
  ∀ (n:Nat) {t t':Tr} {b b':BL} {e:fJ},Cs f n t b=some (e,t',b')->iter g n (kY t) (iN b)=some (e,kY t',iN b'):=by
 intro n
 induction n with
 |zero=>intro t t' b b' e h;cases h
 |succ n ih=>
  intro t t' b b' e h;simp only[E0] at h;simp only[iter];split at h
  ·rename_i t1 b1 h1;rw[hfg _ _ _ _ _ h1];exact ih h
  ·rename_i TA;rw[hfg _ _ _ _ _ h];cases e with
   |normal=>exact(TA _ _ h).elim
   |exit i=>rfl
   |ret=>rfl
theorem CU{sh:Ctx}{cp:cG}{cs:ee}{cf:eO}(hs:I8 cs cf){n:Nat}: ∀ (c:an) {t t':Tr} {b b':BL} {e:fJ},jI sh cp cf n c t b=some (e,t',b')->exec sh cp cs n c (kY t) (iN b)=some (e,kY t',iN b'):=by
 intro c
 induction c with
 |skip=>intro t t' b b' e h;simp only[Fo,aaw,aa2] at h;obtain⟨rfl,rfl,rfl⟩:=h;rfl
 |exit id=>intro t t' b b' e h;simp only[Fq,aaw,aa2] at h;obtain⟨rfl,rfl,rfl⟩:=h;rfl
 |ret=>intro t t' b b' e h;simp only[ID,aaw,aa2] at h;obtain⟨rfl,rfl,rfl⟩:=h;rfl
 |bad=>intro t t' b b' e h;cases h
 |region d ops=>
  intro t t' b b' e h;simp only[Ax] at h;simp only[exec];split at h
  ·rename_i t1 b1 es h1;rw[Hy hs h1];simp only;cases d with
   |false=>simp only[cond_false] at h;cases h;simp
   |true=>
    simp only[cond_true] at h;cases hd:dX ops [] es with
    |false=>rw[hd] at h;cases h
    |true=>rw[hd] at h;simp only[cond_true] at h;cases h;simp
  ·cases h
 |seq x y ihx ihy=>
  intro t t' b b' e h;simp only[IC] at h;simp only[exec];split at h
  ·rename_i t1 b1 h1;rw[ihx h1];exact ihy h
  ·rename_i TA;rw[ihx h];cases e with
   |normal=>exact(TA _ _ h).elim
   |exit i=>rfl
   |ret=>rfl
 |cond x p q ihp ihq=>
  intro t t' b b' e h;simp only[Fr] at h;simp only[exec];split at h
  ·rename_i tt ht;rw[ht];cases tt with
   |true=>simp only[cond_true] at h;simpa using ihp h
   |false=>simp only[cond_false] at h;simpa using ihq h
  ·cases h
 |block id c ih=>
  intro t t' b b' e h;simp only[CV] at h;simp only[exec];split at h
  ·rename_i i t1 b1 h1;rw[ih h1];simp only;cases hi:Nat.beq i id with
   |true=>rw[hi] at h;simp only[cond_true] at h;cases h;rw[if_pos (abT hi)]
   |false=>
    rw[hi] at h;simp only[cond_false] at h;cases h
    rw[if_neg];intro hh;rw[hh,Nat.beq_refl] at hi;cases hi
  ·rename_i TA;rw[ih h];cases e with
   |normal=>rfl
   |exit i=>exact(TA _ _ _ h).elim
   |ret=>rfl
 |loop c ih=>
  intro t t' b b' e h;simp only[Fp] at h;simp only[exec];exact La (fun _ _ _ _ _ h=>ih h) n h
noncomputable def u9 (sh:Ctx) (cp:cG) (cs:eO) (n:Nat) (fn:ca) (args:List V) (Tc:BL):Option (V × BL):=
 bif Nat.ble args.length 4000 then
  match jI sh cp cs n fn.body (Hs 0 args .leaf) Tc with
  |some (.normal,env,Td)=>(cF sh.al (kY env) (iN Td) fn.results).map fun vs=>(uP vs,Td)
  |some (.ret,env,Td)=>(cF sh.al (kY env) (iN Td) fn.results).map fun vs=>(uP vs,Td)
  |_=>none
 else none
theorem Kh{sh:Ctx}{cp:cG}{cs:ee}{cf:eO}(hs:I8 cs cf){n:Nat}{fn:ca}{args:List V}{b b':BL}{v:V}(h:u9 sh cp cf n fn args b=some (v,b')):l9 sh cp cs n fn args (iN b)=some (v,iN b'):=by
 unfold u9 at h;unfold l9;cases hl:Nat.ble args.length 4000 with
 |false=>rw[hl] at h;cases h
 |true=>
  rw[hl] at h;simp only[cond_true] at h;have:=aaN hl;rw[<- JD (by omega)];split at h
  ·rename_i env b1 hx;rw[CU hs _ hx];simp only[aao] at h ⊢;obtain⟨vs,h1,h2⟩:=h;cases h2
   exact⟨vs,h1,rfl⟩
  ·rename_i env b1 hx;rw[CU hs _ hx];simp only[aao] at h ⊢;obtain⟨vs,h1,h2⟩:=h;cases h2
   exact⟨vs,h1,rfl⟩
  ·cases h
noncomputable def Rr (S:Sys) (n:Nat) (cp:cG) (cs:eO):cG:=fun f args=>match S.prim f args with
  |some r=>r
  |none=>match S.fns f with
   |some fn=>bif Nat.ble args.length fn.ntmps then
     match u9 (S.ctx .all) cp cs n fn args [] with
     |some (v,b)=>en (iN b) v
     |none=>none
    else none
   |none=>none
noncomputable def Rq (S:Sys) (n:Nat) (cp:cG) (cs:eO):eO:=fun f args al b=>match S.fns f with
  |some fn=>bif Nat.ble args.length fn.ntmps then u9 (S.ctx al) cp cs n fn args b else none
  |none=>none
noncomputable def PU (S:Sys) (n:Nat):cG × eO:=
 Nat.rec (motive:=fun _=>cG × eO) (fun _ _=>none,fun _ _ _ _=>none) (fun n ih=>(Rr S n ih.1 ih.2,Rq S n ih.1 ih.2)) n
noncomputable def nX (S:Sys) (n:Nat):cG:=(PU S n).1
noncomputable def lj (S:Sys) (n:Nat):eO:=(PU S n).2
theorem Dl(S:Sys)(n f:Nat)(args:List V):nX S (n+1) f args=match S.prim f args with
  |some r=>r
  |none=>match S.fns f with
   |some fn=>bif Nat.ble args.length fn.ntmps then
     match u9 (S.ctx .all) (nX S n) (lj S n) n fn args [] with
     |some (v,b)=>en (iN b) v
     |none=>none
    else none
   |none=>none:=rfl
theorem Dk(S:Sys)(n f:Nat)(args:List V)(al:Al)(b:BL):lj S (n+1) f args al b=match S.fns f with
  |some fn=>bif Nat.ble args.length fn.ntmps then u9 (S.ctx al) (nX S n) (lj S n) n fn args b else none
  |none=>none:=rfl
theorem BI{sh:Ctx}{cp Vs:cG}(hp:S8 cp Vs){cs:ee}{cf:eO}(hs:I8 cs cf){n:Nat}{fn:ca}{args:List V}{b b':BL}{v:V}(h:u9 sh cp cf n fn args b=some (v,b')):l9 sh Vs cs n fn args (iN b)=some (v,iN b'):=
 r5 hp (fun _ _ _ _ _ h=>h) (aal _) (Kh hs h)
theorem wR(S:Sys): ∀ n,S8 (nX S n) (dN S n)/\I8 (dy S n) (lj S n):=by
 intro n
 induction n with
 |zero=>
  have h1: ∀ f x,nX S 0 f x=none:=fun _ _=>rfl
  have h2: ∀ f vs al b,lj S 0 f vs al b=none:=fun _ _ _ _=>rfl
  exact⟨fun f x r h=>(by rw[h1] at h;cases h),fun f vs al b v b' h=>(by rw[h2] at h;cases h)⟩
 |succ n ih=>
  obtain⟨hp,hs⟩:=ih;refine⟨fun f x r h=> ?_,fun f vs al b v b' h=> ?_⟩
  ·rw[Dl] at h;rw[dN];split at h
   ·rename_i r' hpr;simp only[hpr];exact h
   ·rename_i hpr;simp only[hpr];split at h
    ·rename_i fn hfn;simp only[hfn];cases hl:Nat.ble x.length fn.ntmps with
     |false=>rw[hl] at h;cases h
     |true=>
      rw[hl] at h;simp only[cond_true] at h;rw[if_pos (aaN hl)];split at h
      ·rename_i v b hr;unfold Ep;have:qS=iN []:=rfl;rw[this,BI hp hs hr];exact h
      ·cases h
    ·cases h
  ·rw[Dk] at h;rw[dy];split at h
   ·rename_i fn hfn;simp only[hfn];cases hl:Nat.ble vs.length fn.ntmps with
    |false=>rw[hl] at h;cases h
    |true=>
     rw[hl] at h;simp only[cond_true] at h;rw[if_pos (aaN hl)];exact BI hp hs h
   ·cases h
theorem ba(S:Sys)(n:Nat){f:Nat}{args:List V}{r:RV}(h:nX S n f args=some r):aH S f args r:=⟨n,(wR S n).1 _ _ _ h⟩
inductive Fits {H:Type} (N:Nat):DataW H->Prop where
 |str (s:List UInt8) (h:s.length<=N):Fits N (.lit (.string s))
 |lit (l:Lit) (h: ∀ s,l≠ .string s):Fits N (.lit l)
 |nil:Fits N .nil
 |slice (es sp:List (DataW H)) (h:es.length<=N) (he: ∀ d∈es,Fits N d):Fits N (.slice es sp)
 |agg (es:List (DataW H)) (he: ∀ d∈es,Fits N d):Fits N (.agg es)
def gE(P:Program)(N:Nat):Nat->TypeId->List PV->Prop
 |0,_,_=>False
 |n+1,t,ps=>match P.underlying t with
  |some .bool=> ∃ b,ps=[.bool b]
  |some (.int k)=> ∃ z,ps=[.int k z]/\(Lit.int k z).wf=true
  |some .string=> ∃ s:ByteArray,ps=[.str s]/\s.size<=N
  |some (.slice e)=> ∃ es,ps=[.sl es]/\es.length<=N/\ ∀ x∈es,gE P N n e x
  |some (.struct fs)=> ∃ parts:List (List PV),ps=parts.flatten/\parts.length=fs.toList.length/\ ∀ (i:Nat) (f:Field) (x:List PV),fs.toList[i]? =some f->parts[i]? =some x->gE P N n f.type x
  |_=>False
def ky(P:Program):Nat->Nat->List Field->Bool
 |off,total,[]=>Nat.beq off total
 |off,total,f::r=>Nat.beq f.offset off&&ky P (off+P.cellsOf f.type) total r
def gw(P:Program):Nat->TypeId->Bool
 |0,_=>false
 |n+1,t=>match P.underlying t with
  |some .bool|some (.int _)|some .string=>true
  |some (.slice e)=>Nat.blt 0 (P.cellsOf e)&&gw P n e
  |some (.struct fs)=>ky P 0 (P.cellsOf t) fs.toList&&fs.toList.all fun f=>gw P n f.type
  |_=>false
section
variable {H:Type} {enc:TypeId × Value->H} {P:Program} {w:World} {base:Nat} {sp:Nat->Bool} {held:Bool} {N:Nat}
theorem aV.append{w:World}{own:Nat->Prop}{xs ys:List PV}{vs us:List Value}(h:aV w own xs vs)(k:aV w own ys us):aV w own (xs++ys) (vs++us):=Pw.append (R:=bi w own) h k
theorem tS{w:World}{base:Nat}{a:Addr}{n:Nat}{cs:List Value}(h:w.cells? base a n=some cs):cs.length=n/\ ∀ i,i<n->a.add i=⟨a.block,a.off+i,none⟩/\w.cell? ⟨a.block,a.off+i,none⟩=cs[i]? :=by
 unfold World.cells? at h;split at h
 ·have hl:=mapM_some_length h;simp at hl;refine⟨hl,fun i hi=> ?_⟩;have hg:=mapM_some_get h i i (by simp[hi]);have Ti:i<cs.length:=by omega
  have hv:cs[i]? =some cs[i]:=by simp[Ti]
  rw[hv] at hg;have adj:(a.add i).spot=none:=by
   cases Wq:(a.add i).spot with
   |none=>rfl
   |some s=>
    simp only[World.cell?] at hg;split at hg
    ·simp[Wq] at hg
    ·cases hg
  have e:a.add i=⟨a.block,a.off+i,none⟩:=by
   unfold Addr.add at adj ⊢;split
   ·rename_i h0;subst h0;rw[if_pos rfl] at adj;cases a
    simp_all
   ·rfl
  refine⟨e,?_⟩;rw[hv,<- hg,e]
 ·cases h
theorem IA{r:TypeId->List Value->Option (DataW H × List MemPlace)}{n:Nat}(ih: ∀ t cs x,gw P n t=true->r t cs=some x->Fits N x.1-> ∃ pvs,gE P N n t pvs/\aV w (fun _=>False) pvs cs){cs:List Value}{total:Nat}(ht:cs.length=total):
  ∀ (fs:List Field) (off:Nat) (xs:List (DataW H × List MemPlace)),ky P off total fs=true->(∀ f∈fs,gw P n f.type=true)->
   fs.mapM (fun f=>r f.type ((cs.drop f.offset).take (P.cellsOf f.type)))=some xs->(∀ x∈xs,Fits N x.1)->off<=total->(∀ f∈fs,∀ c x,r f.type c=some x-> ∀ pvs,gE P N n f.type pvs->aV w (fun _=>False) pvs c->True)->
   ∃ parts:List (List PV),parts.length=fs.length/\(∀ (i:Nat) (f:Field) (x:List PV),fs[i]? =some f->parts[i]? =some x->gE P N n f.type x)/\(aV w (fun _=>False) parts.flatten (cs.drop off)):=by
 intro fs
 induction fs with
 |nil=>
  intro off xs hc _ _ _ hle _;simp only[ky] at hc;have:=abT hc;refine⟨[],rfl,fun i f x h=>by simp at h,?_⟩;have:cs.drop off=[]:=by rw[List.drop_eq_nil_iff];omega
  rw[this];exact⟨rfl,fun j x u h=>by simp at h⟩
 |cons f fs ihf=>
  intro off xs hc ho hm hf hle hT;simp only[ky,aan] at hc;have ad9:=abT hc.1;rw[List.mapM_cons] at hm;simp only[Option.bind_eq_bind,adH,Option.pure_def,aaw] at hm;obtain⟨x,hx,xs',hxs,rfl⟩:=hm;obtain⟨pvs,p1,p2⟩:=ih _ _ _ (ho f (by simp)) hx (hf x (by simp));have hlen:=p2.1;by_cases afK:off+P.cellsOf f.type<=total
  ·obtain⟨parts,q1,q2,q3⟩:=ihf (off+P.cellsOf f.type) xs' hc.2 (fun g hg=>ho g (by simp[hg])) hxs (fun y hy=>hf y (by simp[hy])) afK (fun _ _ _ _ _ _ _ _=>trivial);refine⟨pvs::parts,by simp[q1],fun i g y hi hy=> ?_,?_⟩
   ·cases i with
    |zero=>simp at hi hy;subst hi hy;exact p1
    |succ i=>exact q2 i g y (by simpa using hi) (by simpa using hy)
   ·have:cs.drop off=(cs.drop f.offset).take (P.cellsOf f.type)++cs.drop (off+P.cellsOf f.type):=by
     rw[ad9,<- List.drop_drop];exact(ado _ _).symm
    rw[this];simp only[aaI];exact aV.append p2 q3
  ·exfalso;have mono: ∀ (l:List Field) (o:Nat),ky P o total l=true->o<=total:=by
    intro l
    induction l with
    |nil=>intro o h;simp only[ky] at h;have:=abT h;omega
    |cons g l ihl=>intro o h;simp only[ky,aan] at h;have:=ihl _ h.2;omega
   exact afK (mono _ _ hc.2)
theorem HQ{sz:Nat}{f:Nat->Value}: ∀ (es:List (List PV)) (rows:List (List Value)) (k:Nat),rows.length=es.length->(∀ (i:Nat) (e:List PV) (v:List Value),es[i]? =some e->rows[i]? =some v->aV w (fun _=>False) e v/\v.length=sz/\ ∀ j u,v[j]? =some u->f ((k+i)*sz+j)=u)->
  ∀ (j:Nat) (x:PV),es.flatten[j]? =some x->bi w (fun _=>False) x (f (k*sz+j)):=by
 intro es
 induction es with
 |nil=>intro rows k _ _ j x h;simp at h
 |cons e es ih=>
  intro rows k hl h j x hx;cases rows with
  |nil=>simp at hl
  |cons v rows=>
   obtain⟨a1,a2,a3⟩:=h 0 e v rfl rfl;have TS:e.length=sz:=by rw[<- a2];exact a1.1.symm
   simp only[aaI] at hx;by_cases hj:j<e.length
   ·rw[acr hj] at hx;have hv:v[j]? =some v[j]:=by simp[show j<v.length by omega]
    have:=a3 j _ hv;simp only[ab6] at this;rw[this];exact a1.2 j x _ hx hv
   ·rw[acn (by omega)] at hx;have:=ih rows (k+1) (by simpa using hl) (fun i e' v' h1 h2=>by
     have:=h (i+1) e' v' (by simpa using h1) (by simpa using h2);rw[show k+(i+1)=k+1+i by omega] at this;exact this) (j - e.length) x hx
    rw[show k*sz+j=(k+1)*sz+(j - e.length) by rw[aaz];omega];exact this
theorem MT: ∀ (n fuel:Nat) (t:TypeId) (cs:List Value) (x:DataW H × List MemPlace),gw P n t=true->DataW.trod enc P w base sp held fuel t cs=some x->Fits N x.1->
  ∃ pvs,gE P N n t pvs/\aV w (fun _=>False) pvs cs:=by
 intro n
 induction n with
 |zero=>intro fuel t cs x h;simp[gw] at h
 |succ n ih=>
  intro fuel t cs x Tj h hf;cases fuel with
  |zero=>simp[DataW.trod] at h
  |succ fuel=>
   rw[DataW.trod_step] at h;have one: ∀ {p:PV} {v:Value},bi w (fun _=>False) p v->aV w (fun _=>False) [p] [v]:=by
    intro p v hp;refine⟨rfl,fun j x u a b=> ?_⟩;cases j with
    |zero=>simp at a b;subst a b;exact hp
    |succ j=>simp at a
   unfold DataW.trodStep at h;unfold gw at Tj;split at h
   case h_1 b hu=>exact⟨[.bool b],by simp only[gE,hu];exact⟨b,rfl⟩,one (.bool b)⟩
   case h_2 k k' z hu=>
    split at h
    ·rename_i hc;obtain⟨rfl,hwf⟩:=hc;exact⟨[.int k' z],by simp only[gE,hu];exact⟨z,rfl,hwf⟩,one (.int k' z)⟩
    ·cases h
   case h_4 s hu=>
    split at h
    ·cases h
     cases hf with
     |str _ hs=>exact⟨[.str s],by simp only[gE,hu];exact⟨s,rfl,by simpa using hs⟩,one (.str s)⟩
     |lit _ hs=>exact(hs _ rfl).elim
    ·cases h
   case h_7 e hu=>exact⟨[.sl []],by simp only[gE,hu];exact⟨[],rfl,aah _,fun x hx=>by simp at hx⟩,one (.sl0 none 0 (fun _=>rfl) (aah _))⟩
   case h_8 e a len cap hu=>
    rw[hu] at Tj;simp only[aan] at Tj;obtain⟨T3,hoe⟩:=Tj;have T3:0<P.cellsOf e:=by
      have:=T3;simp[Nat.blt] at this;omega
    simp only at h;split at h
    ·rename_i hc;obtain⟨hb,hlc,hcm⟩:=hc;simp only[aao,adH] at h;obtain⟨elems,he,rest,aft,rfl⟩:=h;have hlen:elems.length=len:=by simpa using mapM_some_length he
     cases hf with
     |slice _ _ hl hfe=>
     simp only[aak] at hl;have get: ∀ i,i<len-> ∃ y row pv,elems[i]? =some y/\w.cells? base (a.add (i*P.cellsOf e)) (P.cellsOf e)=some row/\gE P N n e pv/\aV w (fun _=>False) pv row:=by
      intro i hi;have hg:=mapM_some_get he i i (by simp[hi]);have Ti:i<elems.length:=by omega
      rw[abJ Ti] at hg;simp only[adH] at hg;obtain⟨row,h1,h2⟩:=hg;obtain⟨pv,p1,p2⟩:=ih _ _ _ _ hoe h2 (hfe _ (aaF.2 ⟨_,List.getElem_mem Ti,rfl⟩));exact⟨_,row,pv,abJ Ti,h1,p1,p2⟩
     cases Ys:len with
     |zero=>
      refine⟨[.sl []],by simp only[gE,hu];exact⟨[],rfl,aah _,fun x hx=>by simp at hx⟩,one (.sl0 (some a) cap (fun h=>by cases h) hcm)⟩
     |succ len'=>
      rw[<- Ys];have h0:0<len:=by omega
      obtain⟨_,row0,_,_,hr0,_,_⟩:=get 0 h0;have ha:a=⟨a.block,a.off,none⟩:=by
       have h1:a.add 0=a:=by unfold Addr.add;rw[if_pos rfl]
       rw[abW,h1] at hr0;have:=((tS hr0).2 0 T3).1;rw[h1] at this;exact this
      have adX: ∀ i,i<len-> ∃ row pv,row.length=P.cellsOf e/\(∀ j,j<P.cellsOf e->w.cell? ⟨a.block,a.off+(i*P.cellsOf e+j),none⟩=row[j]?)/\gE P N n e pv/\aV w (fun _=>False) pv row:=by
       intro i hi;obtain⟨_,row,pv,_,h1,h2,h3⟩:=get i hi;obtain⟨l1,l2⟩:=tS h1;refine⟨row,pv,l1,fun j hj=> ?_,h2,h3⟩;have:=(l2 j hj).2;rw[<- this];have e2:a.add (i*P.cellsOf e)=⟨a.block,a.off+i*P.cellsOf e,none⟩:=by
        rw[ha];unfold Addr.add;split
        ·rename_i h9;rw[h9];rfl
        ·rfl
       rw[e2];simp[acs]
      let row:Nat->List Value:=fun i=>if h:i<len then (adX i h).choose else []
      let pv:Nat->List PV:=fun i=>if h:i<len then (adX i h).choose_spec.choose else []
      have XG: ∀ i,i<len->(row i).length=P.cellsOf e/\(∀ j,j<P.cellsOf e->w.cell? ⟨a.block,a.off+(i*P.cellsOf e+j),none⟩=(row i)[j]?)/\gE P N n e (pv i)/\aV w (fun _=>False) (pv i) (row i):=by
       intro i hi;simp only[row,pv,dif_pos hi];exact(adX i hi).choose_spec.choose_spec
      let es:=(List.range len).map pv
      have acj:es.length=len:=by simp[es]
      have WL: ∀ (i:Nat) (x:List PV),es[i]? =some x->i<len/\x=pv i:=by
       intro i x hx;have hi:i<len:=by rw[<- acj];exact(aag.1 hx).1
       refine⟨hi,?_⟩;simp only[es,aaA,abH hi,aa4,aaw] at hx;exact hx.symm
      let f:Nat->Value:=fun j=>(w.cell? ⟨a.block,a.off+j,none⟩).getD undef
      refine⟨[.sl es],?_,one ?_⟩
      ·simp only[gE,hu];refine⟨es,rfl,by omega,fun x hx=> ?_⟩;obtain⟨i,hi⟩:=aaC hx;obtain⟨h1,rfl⟩:=WL i x hi;exact(XG i h1).2.2.1
      ·rw[ha];have TG: ∀ x∈es,x.length=P.cellsOf e:=by
        intro x hx;obtain⟨i,hi⟩:=aaC hx;obtain⟨h1,rfl⟩:=WL i x hi;have:=(XG i h1).2.2.2.1;rw[<- this];exact(XG i h1).1
       have TC:=HQ (w:=w) (sz:=P.cellsOf e) (f:=f) es ((List.range len).map row) 0 (by simp[acj]) (fun i x v h1 h2=>by
        obtain⟨hi,rfl⟩:=WL i x h1;simp only[aaA,abH hi,aa4,aaw] at h2;subst h2;obtain⟨s1,s2,s3,s4⟩:=XG i hi;refine⟨s4,s1,fun j u hu=> ?_⟩;have hj:j<P.cellsOf e:=by rw[<- s1];exact(aag.1 hu).1
        simp only[f,abC];rw[s2 j hj,hu];rfl)
       simp only[abW,abC] at TC;have WM: ∀ (l:List (List PV)),(∀ x∈l,x.length=P.cellsOf e)->l.flatten.length=l.length*P.cellsOf e:=by
        intro l
        induction l with
        |nil=>intro _;simp
        |cons x l ihl=>intro hx;simp only[aaI,aay,aar];rw[hx x (by simp),ihl (fun y hy=>hx y (by simp[hy])),aaz];omega
       refine acj▸bi.sl a.block a.off cap (P.cellsOf e) f (fun _ h=>h) (by omega) hcm TG (fun j x hx=> ?_) TC;have hj:j<len*P.cellsOf e:=by
        have:=(aag.1 hx).1;rw[WM es TG,acj] at this;exact this
       have hi:j/P.cellsOf e<len:=Nat.div_lt_of_lt_mul (by rw[Nat.mul_comm];exact hj);obtain⟨s1,s2,s3,s4⟩:=XG _ hi;have hm:j%P.cellsOf e<P.cellsOf e:=aax _ T3;have:=s2 _ hm;rw[show j/P.cellsOf e*P.cellsOf e+j%P.cellsOf e=j by rw[Nat.mul_comm];exact Nat.div_add_mod j _] at this;have aaQ:(row (j/P.cellsOf e))[j%P.cellsOf e]? =some (row (j/P.cellsOf e))[j%P.cellsOf e]:=by simp[s1,hm]
       rw[aaQ] at this;simp only[f,this,aaS]
    ·cases h
   case h_9=>
    rename_i fs hu;rw[hu] at Tj;simp only[aan] at Tj;split at h
    ·rename_i hc;simp only[aao] at h;obtain⟨xs,hx,rfl⟩:=h;cases hf with
     |agg _ hfe=>
     obtain⟨parts,p1,p2,p3⟩:=IA (r:=DataW.trod enc P w base sp held fuel) (n:=n) (fun t cs x h1 h2 h3=>ih _ _ _ _ h1 h2 h3) hc fs.toList 0 xs Tj.1 (fun f hf=>aaJ.1 Tj.2 f hf) hx (fun y hy=>hfe _ (aaF.2 ⟨y,hy,rfl⟩)) (aah _) (fun _ _ _ _ _ _ _ _=>trivial);refine⟨parts.flatten,by simp only[gE,hu];exact⟨parts,rfl,p1,p2⟩,?_⟩
     simpa using p3
    ·cases h
   all_goals(first|(cases h;done)|(simp_all;done)|(exfalso;simp_all;done))
end
end Go.Abs
namespace Go.Abs
variable {H:Type} {enc:TypeId × Value->H} {P:Program} {w:World} {N:Nat}
theorem De: ∀ (fs:List Field) (off total:Nat),ky P off total fs=true->total=off+(fs.map fun f=>P.cellsOf f.type).sum/\ ∀ (j:Nat) (f:Field),fs[j]? =some f->f.offset=off+((fs.take j).map fun f=>P.cellsOf f.type).sum:=by
 intro fs
 induction fs with
 |nil=>intro off total h;simp only[ky] at h;have:=abT h;exact⟨by simp;omega,fun j f h=>by simp at h⟩
 |cons f fs ih=>
  intro off total h;simp only[ky,aan] at h;have h0:=abT h.1;obtain⟨i1,i2⟩:=ih _ _ h.2;refine⟨by simp;omega,fun j g hg=> ?_⟩;cases j with
  |zero=>simp at hg;subst hg;simp;omega
  |succ j=>
   have:=i2 j g (by simpa using hg);simp only[List.take_succ_cons,aas,List.sum_cons];omega
theorem N9:Kids P (fun t=> ∃ n,gw P n t=true):=by
 have un: ∀ {t:TypeId},(∃ n,gw P n t=true)-> ∃ n,gw P (n+1) t=true:=by
  rintro t ⟨n,h⟩
  cases n with
  |zero=>simp[gw] at h
  |succ n=>exact⟨n,h⟩
 refine⟨fun ht hu=> ?_,fun ht hu=> ?_,fun ht hu=> ?_,fun ht hu=> ?_,fun ht hu=> ?_⟩
 ·obtain⟨n,h⟩:=un ht;simp[gw,hu] at h
 ·obtain⟨n,h⟩:=un ht;simp only[gw,hu,aan] at h;exact⟨n,h.2⟩
 ·obtain⟨n,h⟩:=un ht;simp[gw,hu] at h
 ·obtain⟨n,h⟩:=un ht;simp only[gw,hu,aan] at h;obtain⟨c1,c2⟩:=De _ _ _ h.1;refine⟨fun f hf=>⟨n,aaJ.1 h.2 f hf⟩,by rw[c1];simp,fun j f hj=>by rw[c2 j f hj];simp⟩
 ·obtain⟨n,h⟩:=un ht;simp[gw,hu] at h
theorem DY{w':World}{sp':Nat->Bool}{t:TypeId}{v:Value}{d:DataW H}{ps:List MemPlace}(hk: ∃ n,gw P n t=true)(h:DataW.Trod enc P w 0 (fun _=>true) true t v d ps)
  (Vt: ∀ p∈ps,w.sameAt w' p) (hs: ∀ p∈ps,sp' p.block=true):DataW.Trod enc P w' 0 sp' true t v d ps:=by
 obtain⟨fuel,h⟩:=h;refine⟨fuel,DataW.trod_stays (T:=fun t=> ∃ n,gw P n t=true) N9 ?_ (fun h=>by cases h) hk h Vt hs⟩;rintro t e ⟨n,h⟩ hu
 cases n with
 |zero=>simp[gw] at h
 |succ n=>
  simp only[gw,hu,aan] at h;have:=h.1;simp[Nat.blt] at this;omega
theorem xm{w':World}{sp':Nat->Bool}: ∀ {ts:List TypeId} {vs:List Value} {ds:List (DataW H)} {ps:List MemPlace},(∀ t∈ts,∃ n,gw P n t=true)->DataW.TrodAll enc P w 0 (fun _=>true) true ts vs ds ps->
  (∀ p∈ps,w.sameAt w' p)->(∀ p∈ps,sp' p.block=true)->DataW.TrodAll enc P w' 0 sp' true ts vs ds ps:=by
 intro ts
 induction ts with
 |nil=>intro vs ds ps _ h _ _;cases vs<;>cases ds<;>exact h
 |cons t ts ih=>
  intro vs ds ps hk h Vz Ur;cases vs with
  |nil=>exact h.elim
  |cons v vs=>
   cases ds with
   |nil=>exact h.elim
   |cons d ds=>
    obtain⟨p,q,h1,h2,rfl⟩:=h;exact⟨p,q,DY (hk t (by simp)) h1 (fun x hx=>Vz x (by simp[hx])) (fun x hx=>Ur x (by simp[hx])),ih (fun t ht=>hk t (by simp[ht])) h2 (fun x hx=>Vz x (by simp[hx])) (fun x hx=>Ur x (by simp[hx])),rfl⟩
def FR(P:Program)(t:TypeId)(ps:List PV):V:=
 match P.underlying t with
 |some (.struct _)=> .agg (ps.map .p)
 |_=>match ps with
  |[x]=> .one (.p x)
  |_=> .undef
theorem Rz{r:Reach}{b0 n:Nat}{sp:Nat->Bool}{held:Bool}{t:TypeId}{v:Value}{d:DataW H}{ps:List MemPlace}(hk:gw P n t=true)(hval:Value.okWide P w r b0 t v)(h:DataW.Trod enc P w 0 sp held t v d ps)(hf:Fits N d):
  ∃ pvs,gE P N n t pvs/\iK w (fun _=>False) (FR P t pvs) v:=by
 obtain⟨fuel,h⟩:=h;obtain⟨pvs,h1,h2⟩:=MT n fuel t _ _ hk h hf;refine⟨pvs,h1,?_⟩;cases n with
 |zero=>simp[gw] at hk
 |succ n=>
  have one: ∀ x:PV,pvs=[x]->(∀ cs,v≠ .agg cs)->bi w (fun _=>False) x v:=by
   rintro x rfl TA
   have:v.cells.toList=[v]:=by
    cases v<;>first
     |rfl
     |exact(TA _ rfl).elim
   rw[this] at h2;exact h2.2 0 x v rfl rfl
  have nagg: ∀ {k:TypeDesc},P.underlying t=some k->(∀ fs,k≠ .struct fs)->(∀ a b,k≠ .array a b)-> ∀ cs,v≠ .agg cs:=by
   rintro k hu TH Wm cs rfl
   unfold Value.okWide at hval;rw[hu] at hval;cases k<;>simp_all[Cell.okWide,Cell.ok]
  simp only[gE] at h1;unfold FR;cases hu:P.underlying t with
  |none=>rw[hu] at h1;exact h1.elim
  |some k=>
   rw[hu] at h1;cases k<;>simp only at h1<;>try exact h1.elim
   case bool=>obtain⟨b,rfl⟩:=h1;exact one _ rfl (nagg hu (by simp) (by simp))
   case int k=>obtain⟨b,rfl,_⟩:=h1;exact one _ rfl (nagg hu (by simp) (by simp))
   case string=>obtain⟨b,rfl,_⟩:=h1;exact one _ rfl (nagg hu (by simp) (by simp))
   case slice e=>obtain⟨es,rfl,_⟩:=h1;exact one _ rfl (nagg hu (by simp) (by simp))
   case struct fs=>
    unfold Value.okWide at hval;rw[hu] at hval;simp only at hval;obtain⟨cs,rfl,TG,_⟩:=hval;exact⟨cs,pvs,rfl,rfl,h2⟩
def A6(P:Program)(N n:Nat):List TypeId->List (List PV)->Prop
 |[],[]=>True
 |t::ts,p::ps=>gE P N n t p/\A6 P N n ts ps
 |_,_=>False
def rO(P:Program):List TypeId->List (List PV)->List V
 |t::ts,p::ps=>FR P t p::rO P ts ps
 |_,_=>[]
theorem OX{r:Reach}{b0 n:Nat}{sp:Nat->Bool}{held:Bool}: ∀ {ts:List TypeId} {vs:List Value} {ds:List (DataW H)} {ps:List MemPlace},(∀ t∈ts,gw P n t=true)->(∀ (j:Nat) t v,ts[j]? =some t->vs[j]? =some v->Value.okWide P w r b0 t v)->
  DataW.TrodAll enc P w 0 sp held ts vs ds ps->(∀ d∈ds,Fits N d)-> ∃ pvss,A6 P N n ts pvss/\Pw (iK w (fun _=>False)) (rO P ts pvss) vs:=by
 intro ts
 induction ts with
 |nil=>
  intro vs ds ps _ _ h _;cases vs with
  |nil=>exact⟨[],trivial,rfl,fun j x u h=>by simp[rO] at h⟩
  |cons v vs=>cases ds<;>exact h.elim
 |cons t ts ih=>
  intro vs ds ps hk hv h hf;cases vs with
  |nil=>exact h.elim
  |cons v vs=>
   cases ds with
   |nil=>exact h.elim
   |cons d ds=>
    obtain⟨p,q,h1,h2,rfl⟩:=h;obtain⟨x,a1,a2⟩:=Rz (hk t (by simp)) (hv 0 t v rfl rfl) h1 (hf d (by simp));obtain⟨xs,b1,b2,b3⟩:=ih (fun t ht=>hk t (by simp[ht])) (fun j t v e1 e2=>hv (j+1) t v (by simpa using e1) (by simpa using e2)) h2 (fun d hd=>hf d (by simp[hd]));refine⟨x::xs,⟨a1,b1⟩,by simpa [rO] using b2,fun j y u e1 e2=> ?_⟩;cases j with
    |zero=>simp[rO] at e1 e2;subst e1 e2;exact a2
    |succ j=>exact b3 j y u (by simpa [rO] using e1) (by simpa using e2)
end Go.Abs
namespace Go.Abs
open Go.RowKit
theorem eQ.KE{w w':World}(h:Below w.heap.size w w'):eQ w w':=⟨h.os,h.tape,h.output,h.size,h.block⟩
theorem eQ.NU(w:World)(k:Nat)(os:Array Obj):eQ w (Go.Sort.grow (w.drewN k) os):=
 ⟨rfl,rfl,rfl,by simp[Go.Sort.grow,World.drewN],fun c hc=>by simp[Go.Sort.grow,World.drewN,Array.getElem?_append,hc]⟩
theorem sb{w w':World}{O:Nat->Prop}{x:PV}{v:Value}(hg:eQ w w')(h:bi w' O x v):rS w O (.one (.p x)) (.returned v) w':=
 ⟨v,[],rfl,hg,ace,fun c hc=>by simp at hc,[v],rfl,v,[],rfl,h.mono fun c _ hn=>⟨rfl,fun hq=>hn (hq.elim id fun h=>by simp at h)⟩,rfl,rfl⟩
theorem pw1{w:World}{O:Nat->Prop}{x:PV}{args:Array Value}(h:Pw (iK w O) [.one (.p x)] args.toList): ∃ v,args= #[v]/\bi w O x v:=by
 obtain⟨h1,h2⟩:=h;obtain⟨l⟩:=args
 match l,h1 with
 |[v],_=>exact⟨v,rfl,h2 0 _ v rfl rfl⟩
theorem pw2{w:World}{O:Nat->Prop}{x y:PV}{args:Array Value}(h:Pw (iK w O) [.one (.p x), .one (.p y)] args.toList): ∃ v u,args= #[v,u]/\bi w O x v/\bi w O y u:=by
 obtain⟨h1,h2⟩:=h;obtain⟨l⟩:=args
 match l,h1 with
 |[v,u],_=>exact⟨v,u,rfl,h2 0 _ v rfl rfl,h2 1 _ u rfl rfl⟩
theorem CY{w:World}{O:Nat->Prop}{v:Value}(h:bi w O (.sl []) v): ∃ a cap,v= .slice a 0 cap/\(a=none->cap=0)/\cap<=maxLen:=by
 generalize hx:PV.sl []=x at h;cases h<;>cases hx
 ·exact⟨_,_,rfl,by assumption,by assumption⟩
 ·exact⟨_,_,rfl,fun h=>by simp at h,by assumption⟩
theorem Ci{w:World}{O:Nat->Prop}{a:Option Addr}{cap:Nat}(h:a=none->cap=0)(hm:cap<=maxLen):bi w O (.sl []) (.slice a 0 cap):= .sl0 a cap h hm
def IL:Nat->Nat->List UInt8->List UInt8
 |0,_,acc=>acc
 |k+1,u,acc=>bif Nat.blt u 10 then UInt8.ofNat (Nat.add 48 u)::acc else IL k (Nat.div u 10) (UInt8.ofNat (Nat.add 48 (Nat.mod u 10))::acc)
theorem GV: ∀ (k u:Nat) (acc:List UInt8),u<10 ^ (k+1)->IL (k+1) u acc=Lib.decDigits u++acc:=by
 intro k
 induction k with
 |zero=>
  intro u acc h;have h:u<10:=by simpa using h
  unfold Lib.decDigits;have hb:Nat.blt u 10=true:=Nat.ble_eq_true_of_le h;simp only[IL,hb,cond_true,dif_pos h];rfl
 |succ k ih=>
  intro u acc h;rw[Lib.decDigits,IL];by_cases h0:u<10
  ·have hb:Nat.blt u 10=true:=Nat.ble_eq_true_of_le h0;simp only[hb,cond_true,dif_pos h0];rfl
  ·have hb:Nat.blt u 10=false:=by
    cases e:Nat.blt u 10 with
    |false=>rfl
    |true=>exact(h0 (aaN e)).elim
   simp only[hb,cond_false,dif_neg h0];have:(Nat.div u 10)<10 ^ (k+1):=by
    have e:Nat.div u 10=u/10:=rfl;rw[e];have:10 ^ (k+1+1)=10 ^ (k+1)*10:=Nat.pow_succ ..;omega
   rw[ih _ _ this];simp only[adm,List.singleton_append];rfl
def K9(n:Int):ByteArray:=⟨(match n with| .ofNat u=>IL 20 u []| .negSucc u=>45::IL 20 (Nat.succ u) []).toArray⟩
theorem K8(n:Int)(h0: -9223372036854775808<=n)(h1:n<=9223372036854775807):K9 n=⟨(Lib.itoa n).toArray⟩:=by
 unfold K9 Lib.itoa;cases n with
 |ofNat u=>
  have: ¬ (Int.ofNat u<0):=by simp
  rw[if_neg this];simp only;rw[GV 19 u [] (by simp at h1;omega)];simp
 |negSucc u=>
  have:Int.negSucc u<0:=Int.negSucc_lt_zero u;rw[if_pos this];simp only;rw[GV 19 (Nat.succ u) [] (by omega)];simp[Int.natAbs]
def strs:List (List PV)->Option (List ByteArray)
 |[]=>some []
 |[.str s]::r=>(strs r).map (s:: ·)
 |_::_=>none
theorem Hw: ∀ {es:List (List PV)} {xs:List ByteArray},strs es=some xs->es=xs.map fun s=>[PV.str s]:=by
 intro es
 induction es with
 |nil=>intro xs h;simp[strs] at h;subst h;rfl
 |cons e es ih=>
  intro xs h;unfold strs at h;split at h
  ·rename_i h0;cases h0
  ·rename_i s r h0;cases h0
   simp only[aao] at h;obtain⟨ys,h1,rfl⟩:=h;simp[ih h1]
  ·cases h
def yB(sep:List UInt8):List ByteArray->List UInt8
 |[]=>[]
 |[s]=>s.data.toList
 |s::r=>s.data.toList++(sep++yB sep r)
theorem Cr(sep:List UInt8): ∀ xs:List ByteArray,yB sep xs=Lib.join (xs.map (·.data.toList)) sep:=by
 intro xs;unfold Lib.join
 induction xs with
 |nil=>rfl
 |cons s r ih=>
  cases r with
  |nil=>simp[yB,List.intercalate]
  |cons s' r=>
   simp only[yB,aas] at ih ⊢;rw[ih];simp[List.intercalate,List.intersperse]
def vk(args:List V):Option RV:=
 match args with
 |[.one (.p (.int .i64 n))]=>if -9223372036854775808<=n/\n<=9223372036854775807 then some (.one (.p (.str (K9 n)))) else none
 |_=>none
theorem BQ{P:Program}{f:Nat}{nm:String}{G:World->Prop}{args:List V}{r:RV}(hG: ∀ w,G w->Lib.TabIs P w nm .u64 Lib.pow10Tab)
  (hf: ∀ (n:Int),-9223372036854775808<=n->n<=9223372036854775807-> ∀ w:World,Lib.TabIs P w nm .u64 Lib.pow10Tab->Calls P f #[.int .i64 n] w fun e w'=>e= .returned (.string ⟨(Lib.itoa n).toArray⟩)/\ ∃ k os,w'=Go.Sort.grow (w.drewN k) os)
  (h:vk args=some r): ∀ (w:World) (O:Nat->Prop) (as:Array Value),Good G w->Pw (iK w O) args as.toList->Calls P f as w (rS w O r):=by
 intro w O as hg ha;unfold vk at h;split at h
 ·rename_i n;split at h
  ·rename_i hr;cases h
   obtain⟨v,rfl,hp⟩:=pw1 ha;generalize hx:PV.int .i64 n=x at hp;cases hp<;>cases hx
   refine(hf n hr.1 hr.2 w (hG w hg.1)).mono ?_;rintro e w' ⟨rfl,k,os,rfl⟩
   rw[K8 n hr.1 hr.2];exact sb (eQ.NU _ _ _) (.str _)
  ·cases h
 ·cases h
def vj(args:List V):Option RV:=
 match args with
 |[.one (.p (.sl es)), .one (.p (.str sep))]=>match strs es with
  |some xs=>if xs.length<=140737488355328/\(yB sep.data.toList xs).length<=140737488355328 then some (.one (.p (.str ⟨(yB sep.data.toList xs).toArray⟩))) else none
  |none=>none
 |_=>none
theorem BP{P:Program}{f:Nat}{args:List V}{r:RV}
  (h0: ∀ (a:Option Addr) (c:Nat) (sep:ByteArray) (w:World),Calls P f #[.slice a 0 c, .string sep] w fun e w'=>e= .returned (.string ⟨#[]⟩)/\w'=w)
  (hf: ∀ (bk o c:Nat) (xs:List ByteArray) (sep:ByteArray) (w:World),(∀ (j:Nat) x,xs[j]? =some x->w.cell? ⟨bk,o+j,none⟩=some (.string x))->bk<w.heap.size->xs.length<=140737488355328->xs.length<=c->
   (Lib.join (xs.map (·.data.toList)) sep.data.toList).length<=140737488355328->Calls P f #[.slice (some ⟨bk,o,none⟩) xs.length c, .string sep] w fun e w'=>e= .returned (.string ⟨(Lib.join (xs.map (·.data.toList)) sep.data.toList).toArray⟩)/\Below w.heap.size w w')
  (h:vj args=some r): ∀ (w:World) (O:Nat->Prop) (as:Array Value),Pw (iK w O) args as.toList->Calls P f as w (rS w O r):=by
 intro w O as ha;unfold vj at h;split at h
 ·rename_i es sep;split at h
  ·rename_i xs hxs;split at h
   ·rename_i hl;cases h
    obtain⟨v,u,rfl,hp,hq⟩:=pw2 ha;have hu:u= .string sep:=by
     generalize hx:PV.str sep=x at hq;cases hq<;>cases hx
     rfl
    subst hu;have UL:=Hw hxs;cases xs with
    |nil=>
     simp at UL;subst UL;obtain⟨a,cap,rfl,_,_⟩:=CY hp;refine(h0 a cap sep w).mono ?_;rintro e w' ⟨rfl,rfl⟩
     exact sb (eQ.refl _) (.str _)
    |cons s r=>
     generalize hx:PV.sl es=x at hp;cases hp with
     |sl0 a cap h1 h2=>cases hx;simp at UL
     | @sl Vk b o cap sz g ho hle hm TG hc hr=>
      cases hx
      have WM:es.flatten=(s::r).map PV.str:=by
       rw[UL];have: ∀ l:List ByteArray,(l.map fun s=>[PV.str s]).flatten=l.map PV.str:=by
        intro l
        induction l with
        |nil=>rfl
        |cons a l ih=>simp[ih]
       exact this _
      have hlen:es.length=(s::r).length:=by rw[UL];simp
      have hcells: ∀ (j:Nat) x,(s::r)[j]? =some x->w.cell? ⟨b,o+j,none⟩=some (.string x):=by
       intro j x hj;have h1:es.flatten[j]? =some (.str x):=by rw[WM,aaA,hj];rfl
       have h2:=hr j _ h1;rw[hc j _ h1];generalize hy:PV.str x=y at h2;generalize hgj:g j=gj at h2;cases h2<;>cases hy
       rfl
      rw[hlen] at hle ⊢;refine(hf b o cap (s::r) sep w hcells (AP (hcells 0 s rfl)) hl.1 hle (by rw[<- Cr];exact hl.2)).mono ?_;rintro e w' ⟨rfl,hb⟩
      rw[Cr];exact sb (eQ.KE hb) (.str _)
     |_=>cases hx
   ·cases h
  ·cases h
 ·cases h
def nj(args:List V):Option RV:=
 match args with
 |[.one (.p (.int .u64 n))]=>if 0<=n/\n<=18446744073709551615 then some (.one (.p (.int .i64 (Lib.bitLen n.toNat)))) else none
 |_=>none
theorem BR{P:Program}{f:Nat}{args:List V}{r:RV}(hf: ∀ (x:Int) (w:World),0<=x->x<=18446744073709551615->Calls P f #[.int .u64 x] w fun e w'=>e= .returned (.int .i64 (Lib.bitLen x.toNat))/\w'=w)
  (h:nj args=some r): ∀ (w:World) (O:Nat->Prop) (as:Array Value),Pw (iK w O) args as.toList->Calls P f as w (rS w O r):=by
 intro w O as ha;unfold nj at h;split at h
 ·rename_i n;split at h
  ·rename_i hr;cases h
   obtain⟨v,rfl,hp⟩:=pw1 ha;generalize hx:PV.int .u64 n=x at hp;cases hp<;>cases hx
   refine(hf n w hr.1 hr.2).mono ?_;rintro e w' ⟨rfl,rfl⟩
   exact sb (eQ.refl _) (.int _ _)
  ·cases h
 ·cases h
def oH(args:List V):Option (Option RV):=
 match args with
 |[.one (.p (.sl []))]=>some (some (.one (.p (.sl []))))
 |_=>none
theorem z8{S:Sys}{G:World->Prop}(hS:zi S G){f n:Nat}{z i g z':Nat}{fn:ca}{Td:aB}(hfn:S.fns f=some fn)(h1:dN S n f [.one (.p .nils)]=some (.one (.p .nils)))
  (h2:dy S n f [.one (.hsl 0 0 z 0 0)] .all qS=some (.one (.hsl i g z' 0 0),Td)) {args:List V} {r:RV} (h:oH args=some (some r)):
  ∀ (w:World) (O:Nat->Prop) (as:Array Value),Good G w->(∀ c,O c->c<w.heap.size)->Pw (iK w O) args as.toList->Calls S.P f as w (rS w O r):=by
 intro w O as hg hO ha;unfold oH at h;split at h
 ·cases h
  obtain⟨v,rfl,hp⟩:=pw1 ha;obtain⟨a,cap,rfl,hn,hm⟩:=CY hp;cases a with
  |none=>
   obtain rfl:=hn rfl;refine((sound hS n).1 f _ _ h1 |>.2 w O #[.slice none 0 0] hg hO ⟨rfl,fun j x u p q=> ?_⟩).mono ?_
   ·cases j with
    |zero=>simp at p q;subst p q;exact bi.nils
    |succ j=>simp at p
   ·rintro e w' ⟨val,bs,rfl,hgr,U3,Wv,vs,q1,q2⟩
    obtain⟨v0,VD,e1,e2,e3,e4⟩:=q2;have hq1:vs=[val]:=q1;subst hq1;cases e1
    subst e4;cases e2
    exact sb hgr (Ci (fun _=>rfl) (aah _))
  |some a=>
   let m0:Mem:=⟨w,qS,fun _=>0,fun _=>0,O⟩
   have Tj:Ok w m0:=⟨rfl,rfl,rfl,aal _,fun _ _=>rfl,(fun id o h=>by cases h),(fun id o h=>by cases h),hO,(fun id Ud o o' h=>by cases h)⟩;refine(((sound hS n).2.1 f _ _ _ _ _ h2).2 w m0 #[.slice (some a) 0 cap] hg Tj rfl ⟨rfl,fun j x u p q=> ?_⟩).mono ?_
   ·cases j with
    |zero=>
     simp at p q;subst p q;exact bH.hsl a cap (aah _) (aah _) hm (fun sz _ h=>by cases h)
    |succ j=>simp at p
   ·rintro e w' ⟨val,m',rfl,rfl,q1,q2,q3,q4,q5⟩
    have hq:bH m' (.hsl i g z' 0 0) val:=q5;cases hq with
    |hsl a2 cap2 _ _ Wk _=>
     refine sb ⟨q2.os,q2.tape,q2.output,q2.size,fun c hc=>q2.keep c hc ?_⟩ (Ci (fun h=>by cases h) Wk);rintro ⟨id,o,h,_⟩
     cases h
 ·cases h
end Go.Abs
namespace Go.Abs
open Go.RowKit Go.WideShapes Go.ChangeShapes
section
variable {H:Type} {enc:TypeId × Value->H} {P:Program} {w:World} {base:Nat} {sp:Nat->Bool} {held:Bool}
theorem Hr: ∀ (n fuel:Nat) (t:TypeId) (cs:List Value) (x:DataW H × List MemPlace),gw P n t=true->DataW.trod enc P w base sp held fuel t cs=some x->Fits maxLen x.1:=by
 intro n
 induction n with
 |zero=>intro fuel t cs x h;simp[gw] at h
 |succ n ih=>
  intro fuel t cs x Tj h;cases fuel with
  |zero=>simp[DataW.trod] at h
  |succ fuel=>
   rw[DataW.trod_step] at h;unfold DataW.trodStep at h;unfold gw at Tj;split at h
   case h_1=>cases h;exact .lit _ (fun s h=>by cases h)
   case h_2=>
    split at h
    ·cases h;exact .lit _ (fun s h=>by cases h)
    ·cases h
   case h_4=>
    split at h
    ·rename_i hs;cases h;exact .str _ (by simpa using hs)
    ·cases h
   case h_7=>cases h;exact .nil
   case h_8 e a len cap hu=>
    rw[hu] at Tj;simp only[aan] at Tj;simp only at h;split at h
    ·rename_i hc;simp only[aao,adH] at h;obtain⟨elems,he,rest,aft,rfl⟩:=h;have hlen:elems.length=len:=by simpa using mapM_some_length he
     refine .slice _ _ (by simp;omega) (fun d hd=> ?_);obtain⟨y,hy,rfl⟩:=aaF.1 hd;obtain⟨i,_,hi⟩:=mapM_mem_of he y hy;simp only[adH] at hi;obtain⟨row,_,h2⟩:=hi;exact ih _ _ _ _ Tj.2 h2
    ·cases h
   case h_9=>
    rename_i fs hu;rw[hu] at Tj;simp only[aan] at Tj;split at h
    ·simp only[aao] at h;obtain⟨xs,hx,rfl⟩:=h;refine .agg _ (fun d hd=> ?_);obtain⟨y,hy,rfl⟩:=aaF.1 hd;obtain⟨f,hf,hi⟩:=mapM_mem_of hx y hy;exact ih _ _ _ _ (aaJ.1 Tj.2 f hf) hi
    ·cases h
   all_goals(first|(cases h;done)|(simp_all;done)|(exfalso;simp_all;done))
theorem qt{n:Nat}: ∀ {ts:List TypeId} {vs:List Value} {ds:List (DataW H)} {ps:List MemPlace},(∀ t∈ts,gw P n t=true)->DataW.TrodAll enc P w base sp held ts vs ds ps->(∀ d∈ds,Fits maxLen d)/\ds.length=ts.length:=by
 intro ts
 induction ts with
 |nil=>
  intro vs ds ps _ h;cases vs<;>cases ds<;>first
   |exact h.elim
   |exact⟨fun d hd=>by simp at hd,rfl⟩
 |cons t ts ih=>
  intro vs ds ps hk h;cases vs with
  |nil=>exact h.elim
  |cons v vs=>
   cases ds with
   |nil=>exact h.elim
   |cons d ds=>
    obtain⟨p,q,⟨fuel,h1⟩,h2,rfl⟩:=h;obtain⟨i1,i2⟩:=ih (fun t ht=>hk t (by simp[ht])) h2;refine⟨fun x hx=> ?_,by simp[i2]⟩;rcases aat.1 hx with rfl|hx
    ·exact Hr n fuel t _ _ (hk t (by simp)) h1
    ·exact i1 x hx
end
section
variable {H:Type} {enc:TypeId × Value->H} {P:Program}
theorem xv{f:Func}{s:ChangeSpec}{apart fresh handsOn again:Bool}{W W':World}{args:Array Value}{v:Value}{ds gs:List (DataW H)}{before pa pv:List MemPlace}
  (hW:DataW.Whole enc P f.params.toList s.vars apart W args.toList ds gs before)
  (TM: ∀ (b:Nat) (sp:Nat->Bool) (hd:Bool),DataW.TrodAll enc P W' b sp hd f.resultTypes.toList (v.resultList f.resultTypes.size) (s.fn H (ds++gs)).results [])
  (Vc: ∀ sp:Nat->Bool,(∀ p∈before,sp p.block=true)->DataW.TrodAll enc P W' 0 sp true f.params.toList args.toList (s.fn H (ds++gs)).args pa)
  (XF: ∀ sp:Nat->Bool,(∀ p∈before,sp p.block=true)->DataW.TrodVars enc P W' sp s.vars (s.fn H (ds++gs)).vars pv)
  (TT:before=pa++pv) (hb:Below W.heap.size W W')
  (Tj: ∀ (j:Nat) (t:TypeId) (r:Value),f.resultTypes[j]? =some t->(v.resultList f.resultTypes.size)[j]? =some r->Value.okWide P W' .any 0 t r):
  s.post enc P f apart fresh handsOn again W args v W':=by
 have Ti: ∀ p∈before,p.block<W.heap.size:=fun p hp=>hW.lt p hp
 have hold: ∀ p∈before,(fun b=>decide (b<W.heap.size)) p.block=true:=fun p hp=>by simpa using Ti p hp
 refine⟨ds,gs,before,[],pa,pv,hW,TM _ _ _,Vc _ hold,XF _ hold,World.keptBut_mono (fun p hp=>⟨hp,?_⟩) (hb.frame (· ∈before)),fun _=> ?_⟩
 ·rw[TT,aaM] at hp;exact Or.inr hp
 ·obtain⟨_,_,_,_,_,hz,hn⟩:=hW;refine⟨Tj,_,_,([]++pa)++pv,⟨[]++pa,pv,trodAll_append (Vc _ (fun _ _=>rfl)) (TM _ _ _),XF _ (fun _ _=>rfl),rfl,?_,?_⟩,?_⟩
  ·intro b off hp;have Y1:MemPlace.cell b off∈before:=by rw[TT];simpa using hp
   rw[hb.frozen (Ti _ Y1)];exact hz b off Y1
  ·intro ha;have:=hn ha;rw[TT] at this
   simpa using this
  ·intro p hp _;rw[TT]
   simpa using hp
end
theorem fP{P:Program}{N n:Nat}{t:TypeId}{k:IntKind}{p:List PV}(hu:P.underlying t=some (.int k))(h:gE P N (n+1) t p): ∃ z,p=[.int k z]/\(Lit.int k z).wf=true:=by
 simp only[gE,hu] at h;exact h
theorem sB{P:Program}{N n:Nat}{t:TypeId}{p:List PV}(hu:P.underlying t=some .bool)(h:gE P N (n+1) t p): ∃ b,p=[.bool b]:=by
 simp only[gE,hu] at h;exact h
theorem Ff{P:Program}{N n:Nat}{t e:TypeId}{p:List PV}(hu:P.underlying t=some (.slice e))(h:gE P N (n+1) t p): ∃ es,p=[.sl es]/\es.length<=N/\ ∀ x∈es,gE P N n e x:=by
 simp only[gE,hu] at h;exact h
theorem tU{P:Program}{t:TypeId}{fs:Array Field}{x:List PV}(hu:P.underlying t=some (.struct fs)):FR P t x= .agg (x.map .p):=by
 unfold FR;rw[hu]
theorem Ak{S:Sys}{G:World->Prop}(hS:zi S G)(XL: ∀ w,G w->Good G w){fn:Func}{s:ChangeSpec}{f n N:Nat}{handsOn again fresh apart:Bool}(XF:s.vars=[])
  (hfn: ∀ (H:Type) (ds:List (DataW H)),ds.length=fn.params.toList.length->s.fn H ds={results:=[.lit (.bool true)],args:=ds}) {tb:TypeId} (TM:fn.resultTypes= #[tb]) (htb:S.P.underlying tb=some .bool)
  (hk: ∀ t∈fn.params.toList,gw S.P n t=true) (law: ∀ pvss,A6 S.P N n fn.params.toList pvss->aH S f (rO S.P fn.params.toList pvss) (.one (.p (.bool true))))
  {H:Type} {enc:TypeId × Value->H} {W:World} {base:Nat} {args:Array Value} {ds gs:List (DataW H)} {before:List MemPlace}
  (hval: ∀ (j:Nat) t v,fn.params[j]? =some t->args[j]? =some v->Value.okWide S.P W .any base t v)
  (hW:DataW.Whole enc S.P fn.params.toList s.vars apart W args.toList ds gs before) (hG:G W) (hfit: ∀ d∈ds,Fits N d):
  Calls S.P f args W fun e W'=> ∃ v,e= .returned v/\s.post enc S.P fn apart fresh handsOn again W args v W':=by
 have hW':=hW;obtain⟨p,q,hA,hV,rfl,hfz,U3⟩:=hW;rw[XF] at hV;obtain⟨rfl,rfl⟩:=trodVars_none hV;obtain⟨_,hlen⟩:=qt hk hA;obtain⟨pvss,h1,h2⟩:=OX (r:= .any) (b0:=base) hk (fun j t v a b=>hval j t v (by simpa using a) (by simpa using b)) hA hfit;refine((law pvss h1).calls hS W (XL W hG) args h2).mono ?_;rintro e W' ⟨val,bs,rfl,hg,_,_,vs,q1,q2⟩
 obtain⟨v0,VD,e1,e2,e3,e4⟩:=q2;have hq1:vs=[val]:=q1;subst hq1;cases e1
 have hv:val= .bool true:=by
  generalize hx:PV.bool true=x at e2;cases e2<;>cases hx
  rfl
 subst hv;have hb:Below W.heap.size W W':=⟨hg.os,hg.tape,hg.output,hg.size,hg.keep⟩;have Ti: ∀ x∈p++[],x.block<W.heap.size:=fun x hx=>hW'.lt x hx
 refine⟨_,rfl,xv (pa:=p) (pv:=[]) hW' ?_ ?_ ?_ rfl hb ?_⟩
 ·intro b sp hd;rw[abO,hfn H ds hlen,TM];exact trodAll_cons_mk (shut_bool htb _) trodAll_mk0
 ·intro sp' Wq;rw[abO,hfn H ds hlen];exact xm (fun t ht=>⟨n,hk t ht⟩) hA (fun x hx=>hb.same (Ti x (by simpa using hx))) (fun x hx=>Wq x (by simpa using hx))
 ·intro sp' Wq;rw[abO,hfn H ds hlen,XF];rfl
 ·exact ok_one TM rfl (okWide_bool_mk htb _)
end Go.Abs
namespace Go.Abs
theorem BN(env:Env)(t:Nat)(v:V):put env (some t) v=fD env t v:=rfl
theorem BO(env:Env)(v:V):put env none v=env:=rfl
theorem SG(env:Env)(n:Nat):ev env (.t n)=env n:=rfl
theorem SJ(env:Env)(n:Int):ev env (.i n)= .one (.p (.int .i64 n)):=rfl
theorem SK(env:Env)(x:Bool):ev env (.b x)= .one (.p (.bool x)):=rfl
theorem SI(env:Env)(v:V):ev env (.k v)=v:=rfl
theorem yE(a:V)(l:List V):nG (a::l) 0=a:=rfl
theorem yF(a:V)(l:List V)(n:Nat):nG (a::l) (n+1)=nG l n:=rfl
def s5(v:V)(want:Bool):Option Bool:=match v with
 | .one (.p (.bool b))=>some (b==want)
 | .undef=>some false
 |_=>none
theorem uH(b want:Bool):s5 (.one (.p (.bool b))) want=some (b==want):=rfl
theorem s0(want:Bool):s5 .undef want=some false:=rfl
section
variable {S:Sys} {al:Al} {o:az} {env:Env} {Tc:aB} {tr:List dE} {K:Env->aB->List dE->Prop} {d:Option Nat}
theorem pN{id:Nat}{Q:cZ}:ey id Q .normal env Tc=Q .normal env Tc:=rfl
theorem wT{id:Nat}{Q:cZ}:ey id Q .ret env Tc=Q .ret env Tc:=rfl
theorem tT{id i:Nat}{Q:cZ}:ey id Q (.exit i) env Tc=if i=id then Q .normal env Tc else Q (.exit i) env Tc:=rfl
end
def WN (S:Sys)(al:Al)(ops:List az)(Q:Env->aB->Prop)(env:Env)(Tc:aB):Prop:= ∀ tr,WO S al ops (fun env Tc _=>Q env Tc) env Tc tr
def Iu(S:Sys)(al:Al)(p:d5)(d:Option Nat)(env:Env)(Tc:aB)(K:Env->aB->Prop):Prop:=
 match p with
 | .fail=>False
 | .done v u r=>al.kB (r++u.map (·.1))=true/\K (put env d v) (app u Tc)
 | .pc f vs r s=> ∃ x,aH S f vs x/\match land Tc r s (x.bK (S.lone s)) with
  |some (v,u)=>al.kB (r++u.map (·.1))=true/\K (put env d v) (app u Tc)
  |none=>False
 | .sc f vs=>al.holds (allow (S.ctx al) f vs Tc)=true/\ ∃ v Td,pz S f vs (allow (S.ctx al) f vs Tc) Tc v Td/\K (put env d v) Td
def Oh(S:Sys)(al:Al)(w:Option Bool)(o:az)(env:Env)(Tc:aB)(K:Env->aB->Prop):Prop:=
 match w with
 |none=>False
 |some false=>K (put env o.dst .undef) Tc
 |some true=>Iu S al (aP S.Tf env Tc o.op) o.dst env Tc K
section
variable {S:Sys} {al:Al} {env:Env} {Tc:aB}
theorem R2{ops:List az}{R R':Env->aB->Prop}{tr tr':List dE}(h:WO S al ops (fun env Tc _=>R env Tc) env Tc tr)(hR: ∀ e b,R e b->R' e b):WO S al ops (fun env Tc _=>R' env Tc) env Tc tr':=by
 obtain⟨n,e,b,es,h1,h2⟩:=h;exact⟨n,e,b,es,h1,hR _ _ h2⟩
theorem FU{ops:List az}{Q:cZ}:W S al (.region false ops) Q env Tc↔WN S al ops (fun env Tc=>Q .normal env Tc) env Tc:=by
 rw[rR];constructor
 ·intro h tr;obtain⟨n,e,b,es,h1,_,h2⟩:=h;exact⟨n,e,b,es,h1,h2⟩
 ·intro h;obtain⟨n,e,b,es,h1,h2⟩:=h [];exact⟨n,e,b,es,h1,(fun h=>by cases h),h2⟩
theorem FW{R:Env->aB->Prop}:WN S al [] R env Tc↔R env Tc:=⟨fun h=>qn.1 (h []),fun h _=>qn.2 h⟩
theorem CC{o:az}{os:List az}{R:Env->aB->Prop}{w:Option Bool}(tr:List dE):PM S al w o env Tc tr (WO S al os fun e b _=>R e b)↔Oh S al w o env Tc (WN S al os R):=by
 have k: ∀ {e:Env} {b:aB} {t:List dE},WO S al os (fun e b _=>R e b) e b t↔WN S al os R e b:=fun {e b t}=>⟨fun h t'=>R2 h fun _ _ h=>h,fun h=>h t⟩
 cases w with
 |none=>exact Iff.rfl
 |some w=>
  cases w with
  |false=>exact k (t:=tr++[⟨[],[],[]⟩])
  |true=>
   simp only[PM,Oh];cases aP S.Tf env Tc o.op with
   |fail=>exact Iff.rfl
   |done v u r=>simp only[QZ,Iu,k]
   |pc f vs r s=>
    simp only[QZ,Iu];refine exists_congr fun x=>and_congr Iff.rfl ?_
    cases land Tc r s (x.bK (S.lone s)) with
    |none=>exact Iff.rfl
    |some y=>simp only[k]
   |sc f vs=>
    simp only[QZ,Iu,k]
theorem tW{o:az}{os:List az}{R:Env->aB->Prop}:WN S al (o::os) R env Tc↔Oh S al (wanted env o.guard) o env Tc (WN S al os R):=by
 constructor
 ·intro h;exact(CC []).1 (kU.1 (h []))
 ·intro h tr;exact kU.2 ((CC tr).2 h)
variable {o:az} {K:Env->aB->Prop} {d:Option Nat}
end
theorem bft:(false==true)=false:=rfl
theorem btf:(true==false)=false:=rfl
theorem bff:(false==false)=true:=rfl
theorem btt:(true==true)=true:=rfl
theorem KC{Tc:aB}{x:PV}:en Tc (.one (.p x))=some (.one (.p x)):=rfl
theorem norm_int(k:IntKind)(n:Int):(PV.int k n).norm= .int k n:=rfl
theorem yn(b:Bool):(PV.bool b).norm= .bool b:=rfl
theorem Cc(s:ByteArray):(PV.str s).norm= .str s:=rfl
theorem yi:PV.nils.norm= .sl []:=rfl
theorem Gn(es:List (List PV)):(PV.sl es).norm= .sl es:=rfl
theorem Cd(es:List PV):(PV.box es).norm= .box es:=rfl
theorem Gq(f:Nat)(a b:List PV):(PV.fn f a b).norm= .fn f a b:=rfl
theorem yj:PV.UA.norm= .UA:=rfl
theorem ym:PV.TR.norm= .TR:=rfl
theorem yk:PV.Uv.norm= .Uv:=rfl
theorem Gp(a:Bool)(e:List (PV × List PV)):(PV.mp a e).norm= .mp a e:=rfl
theorem uY{Tc:aB}:lc Tc []=some ([],[]):=rfl
def u0(x:Option (V × List Nat))(y:Option (List V × List Nat)):Option (List V × List Nat):=match x,y with
 |some (b,x),some (bs,y)=>some (b::bs,x++y)
 |_,_=>none
theorem ti{Tc:aB}{x:V}{xs:List V}:lc Tc (x::xs)=u0 (fM Tc x) (lc Tc xs):=by
 simp only[lc,u0,collect];cases fM Tc x<;>cases collect (fM Tc) xs<;>rfl
theorem pG{b:V}{x:List Nat}{bs:List V}{y:List Nat}:u0 (some (b,x)) (some (bs,y))=some (b::bs,x++y):=rfl
theorem Ga{Tc:aB}{x:PV}:fM Tc (.one (.p x))=some (.one (.p x.norm),[]):=rfl
end Go.Abs
