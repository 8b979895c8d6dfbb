/-
  Each operation of the abstract machine is what the program does: the first part.
-/
import Derived.Test.YtnbfnkckmfibpaaGreatDoorMa
set_option linter.unusedSimpArgs false
set_option linter.unusedVariables false
set_option linter.unusedSectionVars false
namespace Go.Abs
variable {P:Program} {w0:World}
def fS(m:Mem)(env:Env)(tmps:Array Value):Prop:= ∀ t,aZ m (env t) (tmps.getD t undef)
theorem fS.ev{m m':Mem}(h:Ev m m'){env:Env}{tmps:Array Value}(hr:fS m env tmps):fS m' env tmps:=fun t=>(hr t).ev h.zero
theorem aZ.one{m:Mem}{c:C}{v:Value}:aZ m (.one c) v↔bH m c v:=Iff.rfl
theorem aZ.agg{m:Mem}{cs:List C}{v:Value}:aZ m (.agg cs) v↔ ∃ arr,v= .agg arr/\aW m cs arr.toList:=Iff.rfl
theorem aZ.of1{m:Mem}{x:V}{v:Value}(h:gi m x v):aZ m x v:=by
 cases x with
 |tup vs=>exact h.elim
 |_=>exact h
theorem qe{w:World}{own:Nat->Prop}{v:Value}{x:PV}(h:wM v=some x):bi w own x v:=by
 unfold wM at h;split at h<;>first
  |(cases h;constructor;done)
  |cases h
theorem tO{w:World}{own:Nat->Prop}: ∀ {vs:List Value} {xs:List PV},oT vs=some xs->aV w own xs vs:=by
 intro vs
 induction vs with
 |nil=>intro xs h;simp[oT] at h;subst h;exact⟨rfl,fun j x u a _=>by simp at a⟩
 |cons v r ih=>
  intro xs h;simp only[oT] at h;split at h
  ·rename_i x ys h1 h2;cases h
   obtain⟨hl,hr⟩:=ih h2;refine⟨by simp[hl],fun j z u a b=> ?_⟩;cases j with
   |zero=>simp at a b;subst a b;exact qe h1
   |succ j=>simp at a b;exact hr j z u a b
  ·cases h
theorem aV.MW{m:Mem}{xs:List PV}{vs:List Value}(h:aV m.w m.own xs vs):aW m (xs.map .p) vs:=by
 refine⟨by simp[h.1],fun j x u a b=> ?_⟩;simp only[aaA,aao] at a;obtain⟨y,hy,rfl⟩:=a;exact .p (h.2 j y u hy b)
theorem FD{m:Mem}{v:Value}{x:V}(h:FG v=some x):aZ m x v:=by
 unfold FG at h;split at h
 ·simp only[aao] at h;obtain⟨xs,h1,rfl⟩:=h;exact aZ.agg.2 ⟨_,rfl,(tO h1).MW⟩
 ·simp only[aao] at h;obtain⟨y,h1,rfl⟩:=h;exact aZ.one.2 (.p (qe h1))
theorem aE{m:Mem}{env:Env}{a:Act}{x:Operand}{y:aC}(h:bp x=some y)(hr:fS m env a.tmps):aZ m (ev env y) (a.eval x):=by
 unfold bp at h;split at h
 ·cases h;exact hr _
 ·cases h;exact aZ.one.2 (.p (.int _ _))
 ·cases h;exact aZ.one.2 (.p (.bool _))
 ·simp only[aao] at h;obtain⟨v,h1,rfl⟩:=h;exact FD h1
 ·cases h
  exact aZ.one.2 (.p (.fn #[] #[] rfl rfl (fun j x u a=>by simp at a) (fun j x u a=>by simp at a)))
 ·cases h
def Does(P:Program)(ρ:Operand->Value)(o:Oper)(w:World)(x:Value)(w':World):Prop:=
 (execOp ρ o).run P w= .ok (.value x) w'\/((execOp ρ o).run P w= .ok .skip w'/\x=undef)
def ef(P:Program)(w0:World)(ρ:Operand->Value)(o:Oper)(m:Mem)(v:V)(u:List jv):Prop:=
 ∃ x m',Does P ρ o m.w x m'.w/\Ok w0 m'/\Ev m m'/\m'.fr=m.fr/\m'.Tc=app u m.Tc/\aZ m' v x
theorem ef.calm{ρ:Operand->Value}{o:Oper}{m:Mem}{v:V}{x:Value}(h:Ok w0 m)(Uo:(execOp ρ o).run P m.w= .ok (.value x) m.w)(hv:aZ m v x):ef P w0 ρ o m v []:=
 ⟨x,m, .inl Uo,h,Ev.refl m,rfl,rfl,hv⟩
section
variable {m:Mem} {env:Env} {a:Act} {o:Oper} (Tj:Ok w0 m) (hr:fS m env a.tmps)
include Tj hr
theorem BB{x:Operand}{y:aC}(ho:o.op= .move x\/o.op= .assign x)(hx:bp x=some y):ef P w0 a.eval o m (ev env y) []:=
 .calm Tj (by rcases ho with ho|ho<;>simp[execOp,ho]) (aE hx hr)
theorem J4{c x y:Operand}{c' x' y':aC}{t:Bool}(ho:o.op= .pick c x y)(hc:bp c=some c')(hx:bp x=some x')(hy:bp y=some y')
  (ht:ev env c'= .one (.p (.bool t))):ef P w0 a.eval o m (if t then ev env x' else ev env y') []:=by
 have h1:=aE hc hr;rw[ht] at h1;obtain⟨⟩:bH m (.p (.bool t)) _:=h1;rename_i hp;generalize hb:a.eval c=b at hp;cases hp
 refine .calm (x:=if t then a.eval x else a.eval y) Tj ?_ ?_
 ·simp[execOp,ho,hb,asBool]
 ·cases t
  ·exact aE hy hr
  ·exact aE hx hr
end
theorem jo{m:Mem}{b:Bool}{v:Value}(h:aZ m (.one (.p (.bool b))) v):v= .bool b:=by
 obtain⟨hp⟩:bH m _ v:=h;cases hp;rfl
theorem jL{m:Mem}{k:IntKind}{n:Int}{v:Value}(h:aZ m (.one (.p (.int k n))) v):v= .int k n:=by
 obtain⟨hp⟩:bH m _ v:=h;cases hp;rfl
theorem rg{m:Mem}{s:ByteArray}{v:Value}(h:aZ m (.one (.p (.str s))) v):v= .string s:=by
 obtain⟨hp⟩:bH m _ v:=h;cases hp;rfl
theorem rh{m:Mem}{v:Value}(h:aZ m (.one (.p .nils)) v):v= .slice none 0 0:=by
 obtain⟨hp⟩:bH m _ v:=h;cases hp;rfl
theorem Cw{m:Mem}{v:Value}(h:aZ m (.one (.p .Uv)) v):v= .map none:=by
 obtain⟨hp⟩:bH m _ v:=h;cases hp;rfl
theorem jK{m:Mem}{x:PV}{v:Value}(h:bi m.w m.own x v):aZ m (.one (.p x)) v:=aZ.one.2 (.p h)
def Mem.fresh(m:Mem)(ob:Obj)(s k:Nat)(o:Ob):Mem:=(m.later (m.w.alloc ob) (· =m.w.heap.size)).install s m.w.heap.size k o
theorem vW{m:Mem}(Tj:Ok w0 m)(ob:Obj)(s k:Nat)(o:Ob):(m.fresh ob s k o).fr=m.fr:=by
 funext c;simp only[Mem.fresh,Mem.install,Mem.later];apply propext;constructor
 ·rintro ⟨h|h,h2⟩
  ·exact h
  ·exact(h2 h).elim
 ·intro h;exact⟨.inl h,fun e=>by have:=Tj.frlt c h;omega⟩
theorem rr{m:Mem}(ob:Obj)(s k:Nat)(o:Ob):Ev m (m.fresh ob s k o):=
 mq (nA (eQ.alloc m.w ob) fun c hc=>Nat.le_of_eq hc.symm) (.inr rfl) (.inl (aal _))
theorem vV{m:Mem}(ob:Obj)(s k:Nat)(o:Ob):(m.fresh ob s k o).w.heap[(m.fresh ob s k o).σ s]? =some ob:=by
 have:(m.fresh ob s k o).σ s=m.w.heap.size:=by simp[Mem.fresh,Mem.install,af]
 rw[this];exact heap_alloc_new m.w ob
theorem CI{m:Mem}(Tj:Ok w0 m)(ob:Obj)(s k:Nat)(o:Ob)(ho:pC (m.fresh ob s k o) s o):Ok w0 (m.fresh ob s k o):=
 ml (qY Tj (eQ.alloc m.w ob) fun c hc=>by subst hc;exact⟨aal _,by simp⟩) (.inr rfl) Tj.size ho
theorem sE(m:Mem)(ob:Obj)(s k:Nat)(o:Ob):(m.fresh ob s k o).Tc=app [(s,((m.Tc s).1+1,some o))] m.Tc:=rfl
theorem yL{m:Mem}(Tj:Ok w0 m)(s:Nat)(t:TypeId)(cs:List C)(arr:Array Value)(hc:aW m cs arr.toList):
  Ok w0 (m.fresh (.cells arr t) s 0 (.var cs))/\aZ (m.fresh (.cells arr t) s 0 (.var cs)) (.one (.Tn s ((m.Tc s).1+1) 0)) (.pointer (some ⟨m.w.heap.size,0,none⟩)):=by
 refine⟨CI Tj _ s 0 _ ⟨arr,t,vV _ s 0 _,hc.ev (rr _ s 0 _).zero⟩,aZ.one.2 (.Tn _ ?_ fun _ _=> ?_)⟩
 ·simp[Mem.fresh,Mem.install,Mem.later,af]
 ·simp[Mem.fresh,Mem.install,af]
theorem lp{t:TypeId}{z:List PV}(h:pE P t=some z): ∃ v i,P.info? t=some i/\i.zero=some v/\v.cells.size=i.size/\z.length=i.size/\ ∀ w own,aV w own z v.cells.toList:=by
 unfold pE at h;split at h
 ·rename_i i hi;split at h
  ·rename_i cs hz;split at h
   ·rename_i hs;have hr:=fun w own=>tO (w:=w) (own:=own) h
    refine⟨_,i,hi,hz,by simpa [Value.cells] using hs,?_,fun w own=>by simpa [Value.cells] using hr w own⟩;have:=(hr default (fun _=>False)).1;simp at this;omega
   ·cases h
  ·rename_i v hz hv;split at h
   ·rename_i hs;simp only[aao] at h;obtain⟨x,hx,rfl⟩:=h;have hr:=fun w own=>qe (w:=w) (own:=own) hx
    have hc:=(hr default (fun _=>False)).cells;refine⟨v,i,hi,hv,by simp[hc,hs],by simp[hs],fun w own=> ?_⟩;rw[hc];refine⟨rfl,fun j y u a b=> ?_⟩;cases j with
    |zero=>simp at a b;subst a b;exact hr w own
    |succ j=>simp at a
   ·cases h
  ·cases h
 ·cases h
section
variable {m:Mem} {env:Env} {a:Act} {o:Oper} (Tj:Ok w0 m) (hr:fS m env a.tmps)
include Tj
theorem HK{t:TypeId}{z:List PV}{s:Nat}(ho:o.op= .alloc t)(hz:pE P t=some z):
  ef P w0 a.eval o m (.one (.Tn s ((m.Tc s).1+1) 0)) [(s,((m.Tc s).1+1,some (.var (z.map .p))))]:=by
 obtain⟨v,i,hi,hv,hs,hl,TT⟩:=lp hz;obtain⟨h1,h2⟩:=yL Tj s t (z.map .p) v.cells (TT m.w m.own).MW;refine⟨_,_, .inl ?_,h1,rr _ s 0 _,vW Tj _ s 0 _,sE _ _ s 0 _,h2⟩;simp[execOp,ho,Instr.alloc,zeroValue,typeInfo,hi,hv,newVar,newRow];rfl
include hr
theorem Nl{t:TypeId}{x:Operand}{y:aC}{cs:List C}{s:Nat}(ho:o.op= .box t x)(hx:bp x=some y)(hc:fB (ev env y)=some cs):
  ef P w0 a.eval o m (.one (.Tn s ((m.Tc s).1+1) 0)) [(s,((m.Tc s).1+1,some (.var cs)))]:=by
 have hv:=aE hx hr;have TP:aW m cs (a.eval x).cells.toList:=by
  generalize ev env y=w at hc hv;cases w with
  |undef=>simp[fB] at hc
  |tup vs=>simp[fB] at hc
  |one c=>
   simp[fB] at hc;subst hc;rw[(aZ.one.1 hv).cells];refine⟨rfl,fun j y u p q=> ?_⟩;cases j with
   |zero=>simp at p q;subst p q;exact hv
   |succ j=>simp at p
  |agg ds=>
   simp[fB] at hc;subst hc;obtain⟨arr,e,h⟩:=aZ.agg.1 hv;rw[e];exact h
 obtain⟨h1,h2⟩:=yL Tj s t cs _ TP;refine⟨_,_, .inl ?_,h1,rr _ s 0 _,vW Tj _ s 0 _,sE _ _ s 0 _,h2⟩;simp[execOp,ho,Instr.box,newVar,newRow];rfl
end
end Go.Abs
namespace Go.Abs
variable {P:Program} {w0:World}
theorem lQ{α:Type}{sz:Nat}: ∀ {es:List (List α)},(∀ e∈es,e.length=sz)->es.flatten.length=es.length*sz:=by
 intro es
 induction es with
 |nil=>intro _;simp
 |cons e r ih=>
  intro h;have h1:=h e (by simp);have h2:=ih fun x hx=>h x (by simp[hx])
  simp only[aaI,aay,aar,h1,h2,aaz,Nat.one_mul];omega
theorem mw{α:Type}{sz:Nat}: ∀ {es:List (List α)},(∀ e∈es,e.length=sz)-> ∀ {i:Nat} {e:List α},es[i]? =some e-> ∀ {j:Nat},j<sz->es.flatten[i*sz+j]? =e[j]? :=by
 intro es
 induction es with
 |nil=>intro _ i e h;simp at h
 |cons x r ih=>
  intro h i e he j hj;have h1:=h x (by simp);cases i with
  |zero=>
   simp at he;subst he;simp only[aaI,abW,abC];rw[acr (by omega)]
  |succ i=>
   simp at he;have h2:=ih (fun y hy=>h y (by simp[hy])) he hj;simp only[aaI];rw[acn (by rw[h1,aaz];omega),<- h2];congr 1;rw[h1,aaz];omega
theorem eU{α:Type}{sz:Nat}{es:List (List α)}(h: ∀ e∈es,e.length=sz){i:Nat}{e:List α}(he:es[i]? =some e):e.length=sz:=h e (aaf he)
theorem nU{w:World}{b k:Nat}{cur:Array Value}{ty:TypeId}{fz:Nat × Nat}(h:w.heap[b]? =some (.cells cur ty fz)):w.cell? ⟨b,k,none⟩=cur[k]? :=cell_of_row w b k cur ty fz h
def At (m:Mem)(v:Value)(cs:List C):Prop:=
 ∃ b o vs,v= .pointer (some ⟨b,o,none⟩)/\aW m cs vs/\ ∀ (j:Nat) (u:Value),vs[j]? =some u->m.w.cell? ⟨b,o+j,none⟩=some u
theorem At.row{m:Mem}{b o:Nat}{cur:Array Value}{ty:TypeId}{fz:Nat × Nat}(h:m.w.heap[b]? =some (.cells cur ty fz)){cs:List C}(hl:o+cs.length<=cur.size)
  (hc: ∀ (j:Nat) (x:C) (u:Value),cs[j]? =some x->cur[o+j]? =some u->bH m x u):At m (.pointer (some ⟨b,o,none⟩)) cs:=by
 refine⟨b,o,(cur.toList.drop o).take cs.length,rfl,⟨by simp;omega,fun j x u p q=> ?_⟩,fun j u q=> ?_⟩
 ·rw[abi] at q;split at q
  ·exact hc j x u p (by simpa using q)
  ·cases q
 ·rw[abi] at q;split at q
  ·rw[nU h];simpa using q
  ·cases q
theorem BM{m:Mem}(Tj:Ok w0 m){x:V}{v:Value}{cs:List C}{rd:List Nat}(h:xu m.Tc x=some (cs,rd))(hv:aZ m x v):At m v cs:=by
 unfold xu at h;split at h
 ·rename_i ps;simp only[aaw,aa2] at h;obtain⟨rfl,rfl⟩:=h;obtain⟨hp⟩:bH m _ v:=hv;cases hp with
  |box b o f ho hc hr=>
   refine⟨b,o,(List.range ps.length).map f,rfl,⟨by simp,fun j x u p q=> ?_⟩,fun j u q=> ?_⟩
   ·simp only[aaA,aao] at p q;obtain⟨y,hy,rfl⟩:=p;obtain⟨k,hk,rfl⟩:=q;have hk':k=j:=by
     rw[abH (by have:=aag.1 hy;obtain⟨h,_⟩:=this;exact h)] at hk
     simpa using hk.symm
    subst hk';exact .p (hr k y hy)
   ·simp only[aaA,aao] at q;obtain⟨k,hk,rfl⟩:=q;have Ti:j<ps.length:=by
     have:=aag.1 hk;obtain⟨h,_⟩:=this;simpa using h
    rw[abH Ti] at hk;simp at hk;subst hk;exact hc j _ (abJ Ti)
 ·rename_i id g off;have hv:bH m _ v:=hv;cases hv with
  |Tn a hg ha=>
   split at h
   ·rename_i g' cs0 hb;split at h
    ·rename_i U0;simp only[aaw,aa2] at h;obtain⟨rfl,rfl⟩:=h;have Tv:(m.Tc id).2=some (.var cs0):=by rw[hb]
     have ha:=ha (by rw[hb];exact U0) (by rw[Tv];rfl);subst ha;obtain⟨cur,ty,hh,hl,hc⟩:=Tj.obj id _ Tv;simp at hl;by_cases ho:off<=cs0.length
     ·exact At.row hh (by simp;omega) fun j x u p q=>hc (off+j) x u (by simpa using p) (by simpa using q)
     ·exact⟨_,_,[],rfl,⟨by simp;omega,fun j x u p q=>by simp at q⟩,fun j u q=>by simp at q⟩
    ·cases h
   ·rename_i g' cs0 hb;split at h
    ·rename_i U0;simp only[aaw,aa2] at h;obtain⟨rfl,rfl⟩:=h;have Tv:(m.Tc id).2=some (.fvar cs0):=by rw[hb]
     have ha:=ha (by rw[hb];exact U0) (by rw[Tv];rfl);subst ha;obtain⟨cur,ty,fz,hh,hp,_⟩:=Tj.obj id _ Tv;have hl:=hp.1;simp at hl;by_cases ho:off<=cs0.length
     ·refine At.row hh (by simp;omega) fun j x u p q=> ?_
      simp only[aaA,aao] at p;obtain⟨y,hy,rfl⟩:=p;exact .p (hp.2 (off+j) y u (by simpa using hy) (by simpa using q))
     ·exact⟨_,_,[],rfl,⟨by simp;omega,fun j x u p q=>by simp at q⟩,fun j u q=>by simp at q⟩
    ·cases h
   ·cases h
 ·rename_i id g i off;have hv:bH m _ v:=hv;cases hv with
  |TS a hg ha=>
   have key: ∀ (sz:Nat) (e:List C) (cur:Array Value) (ty:TypeId) (fz:Nat × Nat),m.w.heap[m.σ id]? =some (.cells cur ty fz)->e.length=sz->(i+1)*sz<=cur.size->
     a=⟨m.σ id,i*sz+off,none⟩->(∀ (j:Nat) (x:C) (u:Value),e[j]? =some x->cur[i*sz+j]? =some u->bH m x u)->At m (.pointer (some a)) (e.drop off):=by
    intro sz e cur ty fz hh he Ti haa hc;subst haa;rw[aaz,Nat.one_mul] at Ti;by_cases ho:off<=e.length
    ·exact At.row hh (by simp;omega) fun j x u p q=>hc (off+j) x u (by simpa using p) (by rw[<- acs];exact q)
    ·exact⟨_,_,[],rfl,⟨by simp;omega,fun j x u p q=>by simp at q⟩,fun j u q=>by simp at q⟩
   have pure: ∀ (ty sz:Nat) (es:List (List PV)) (e:List PV) (cur:Array Value) (fz:Nat × Nat),m.w.heap[m.σ id]? =some (.cells cur ty fz)->(∀ e∈es,e.length=sz)->es.length*sz<=cur.size->
     aV m.w m.own es.flatten (cur.toList.take (es.length*sz))->es[i]? =some e->a=⟨m.σ id,i*sz+off,none⟩->At m (.pointer (some a)) ((e.drop off).map .p):=by
    intro ty sz es e cur fz hh TG hlen TT he haa;have TS:=eU TG he;have hi:i<es.length:=(aag.1 he).1;have Vj:(i+1)*sz<=es.length*sz:=aa6 _ hi;rw[List.map_drop];refine key sz (e.map .p) cur ty fz hh (by simpa using TS) (by omega) haa fun j x u p q=> ?_
    simp only[aaA,aao] at p;obtain⟨y,hy,rfl⟩:=p;have hj:j<sz:=by have:=(aag.1 hy).1;omega
    refine .p (TT.2 (i*sz+j) y u (by rw[mw TG he hj];exact hy) ?_);rw[aaz] at Vj;rw[abi,if_pos (by omega)]
    simpa using q
   split at h
   ·rename_i g' ty sz es hb;split at h
    ·rename_i U0;simp only[aao,aa2] at h;obtain⟨e,he,rfl,rfl⟩:=h;have Tv:(m.Tc id).2=some (.arr ty sz es):=by rw[hb]
     obtain⟨cur,hh,Wi,TG,hl,hm,TP,TT⟩:=Tj.obj id _ Tv;exact pure ty sz es e cur _ hh TG (by rw[TP];exact aa6 _ hl) TT he (ha sz (by rw[hb];exact U0) (by rw[hb];rfl))
    ·cases h
   ·rename_i g' ty sz es hb;split at h
    ·rename_i U0;simp only[aao,aa2] at h;obtain⟨e,he,rfl,rfl⟩:=h;have Tv:(m.Tc id).2=some (.Ul ty sz es):=by rw[hb]
     obtain⟨cur,fz,hh,Wi,TG,hl,hm,TP,TT,_⟩:=Tj.obj id _ Tv;exact pure ty sz es e cur _ hh TG (by rw[TP];exact aa6 _ hl) TT he (ha sz (by rw[hb];exact U0) (by rw[hb];rfl))
    ·cases h
   ·rename_i g' ty sz es hb;split at h
    ·rename_i U0;simp only[aao,aa2] at h;obtain⟨e,he,rfl,rfl⟩:=h;have Tv:(m.Tc id).2=some (.TV ty sz es):=by rw[hb]
     obtain⟨cur,hh,Wi,TG,hl,hm,TP,TT⟩:=Tj.obj id _ Tv;have TS:=eU TG he;have hi:i<es.length:=(aag.1 he).1;have Vj:(i+1)*sz<=es.length*sz:=aa6 _ hi;have afR:es.length*sz<=m.κ id*sz:=aa6 _ hl;refine key sz e cur ty _ hh TS (by omega) (ha sz (by rw[hb];exact U0) (by rw[hb];rfl)) fun j x u p q=> ?_
     have hj:j<sz:=by have:=(aag.1 p).1;omega
     refine TT.2 (i*sz+j) x u (by rw[mw TG he hj];exact p) ?_;rw[aaz] at Vj;rw[abi,if_pos (by omega)]
     simpa using q
    ·cases h
   ·cases h
 ·cases h
end Go.Abs
namespace Go.Abs
variable {P:Program} {w0:World}
theorem K6{t:TypeId}{n:Nat}(h:Ao P t=some (some n)): ∃ d i,P.underlying t=some d/\P.info? t=some i/\i.size=n/\((∃ fs,d= .struct fs)\/ ∃ k e,d= .array k e):=by
 unfold Ao at h;split at h
 ·rename_i fs i h1 h2;simp at h;exact⟨_,i,h1,h2,h, .inl ⟨fs,rfl⟩⟩
 ·rename_i k e i h1 h2;simp at h;exact⟨_,i,h1,h2,h, .inr ⟨k,e,rfl⟩⟩
 ·split at h<;>simp at h
 ·cases h
theorem K7{t:TypeId}(h:Ao P t=some none): ∃ d i,P.underlying t=some d/\P.info? t=some i/\i.size=1/\(∀ fs,d≠ .struct fs)/\ ∀ k e,d≠ .array k e:=by
 unfold Ao at h;split at h
 ·simp at h
 ·simp at h
 ·rename_i d i n1 n2 h1 h2;split at h
  ·rename_i hs;exact⟨_,_,h1,h2,hs,fun fs e=>n1 fs e,fun k e' e=>n2 k e' e⟩
  ·cases h
 ·cases h
theorem m8{t:TypeId}{n:Nat}(h:Ao P t=some (some n))(w:World):(isAgg t).run P w= .ok true w/\(sizeOf t).run P w= .ok n w:=by
 obtain⟨d,i,h1,h2,h3,h4⟩:=K6 h;constructor
 ·rcases h4 with ⟨fs,rfl⟩|⟨k,e,rfl⟩<;>simp[isAgg,run_underlying h1]
 ·simp[sizeOf,typeInfo,h2,h3]
theorem nd{t:TypeId}(h:Ao P t=some none)(w:World):(isAgg t).run P w= .ok false w/\(sizeOf t).run P w= .ok 1 w:=by
 obtain⟨d,i,h1,h2,h3,h4,h5⟩:=K7 h;constructor
 ·cases d<;>first
   |exact(h4 _ rfl).elim
   |exact(h5 _ _ rfl).elim
   |simp[isAgg,run_underlying h1]
 ·simp[sizeOf,typeInfo,h2,h3]
theorem tz{m:Mem}{t:TypeId}{k:Option Nat}(hk:Ao P t=some k){v:Value}{cs:List C}(h:At m v cs){x:V}(hx:gu k cs=some x):
  ∃ a y,v= .pointer (some a)/\(loadVar t a).run P m.w= .ok y m.w/\aZ m x y:=by
 obtain⟨b,o,vs,rfl,TP,VB⟩:=h;cases k with
 |none=>
  obtain⟨h1,h2⟩:=nd hk m.w;cases cs with
  |nil=>simp[gu] at hx
  |cons c r=>
   simp[gu] at hx;subst hx;obtain⟨hl,hr⟩:=TP;cases vs with
   |nil=>simp at hl
   |cons u us=>
    have h0:=VB 0 u rfl;refine⟨_,u,rfl,?_,aZ.one.2 (hr 0 c u rfl rfl)⟩;rw[ab6] at h0;simp[loadVar,h1,h0]
 |some n=>
  obtain⟨h1,h2⟩:=m8 hk m.w;simp only[gu] at hx;split at hx
  ·rename_i hn;cases hx
   obtain⟨hl,hr⟩:=TP;refine⟨_, .agg (vs.take n).toArray,rfl,?_,aZ.agg.2 ⟨_,rfl,by simp;omega,fun j x u p q=> ?_⟩⟩
   ·have hlen:(vs.take n).length=n:=by simp;omega
    have:=run_loadCells_list (P:=P) m.w ⟨b,o,none⟩ (vs.take n) (fun j u q=>by
     rw[Addr.add_lit];rw[abi] at q;split at q
     ·exact VB j u q
     ·cases q)
    rw[hlen] at this;simp[loadVar,h1,h2,this]
   ·rw[abi] at p;simp only[abi] at q;split at p
    ·rename_i hj;simp only[hj,if_true] at q;exact hr j x u p q
    ·cases p
  ·cases hx
section
variable {m:Mem} {env:Env} {a:Act} {o:Oper} (Tj:Ok w0 m) (hr:fS m env a.tmps)
include Tj hr
theorem J7{t:TypeId}{x:Operand}{y:aC}{k:Option Nat}{cs:List C}{rd:List Nat}{v:V}(ho:o.op= .load t x)(hk:Ao P t=some k)(hx:bp x=some y)
  (hc:xu m.Tc (ev env y)=some (cs,rd)) (hv:gu k cs=some v):ef P w0 a.eval o m v []:=by
 obtain⟨ad,y',h1,h2,h3⟩:=tz hk (BM Tj hc (aE hx hr)) hv;exact .calm Tj (by simp[execOp,ho,h1,Instr.loadAt,Instr.sureAddr,h2]) h3
theorem Ej{x:Operand}{y:aC}{v:V}(ho:o.op= .nilCheck x)(hx:bp x=some y)(hv:aP (fun _=>false) env m.Tc (.Tm y)= .done v [] []):ef P w0 a.eval o m v []:=by
 have TC:=aE hx hr;simp only[aP] at hv;split at hv
 ·rename_i he;rw[he] at TC;cases hv;have hc:bH m _ (a.eval x):=TC;generalize hb:a.eval x=b at hc TC;cases hc with
  |Tn ad hg h=>exact .calm Tj (by simp[execOp,ho,hb]) TC
 ·rename_i he;rw[he] at TC;cases hv;have hc:bH m _ (a.eval x):=TC;generalize hb:a.eval x=b at hc TC;cases hc with
  |TS ad hg h=>exact .calm Tj (by simp[execOp,ho,hb]) TC
 ·rename_i he;rw[he] at TC;cases hv;have hc:bH m _ (a.eval x):=TC;generalize hb:a.eval x=b at hc TC;cases hc with
  |p hp=>cases hp with
   |box b' o' f Vh Vp Yr=>exact .calm Tj (by simp[execOp,ho,hb]) TC
 ·rename_i he;rw[he] at TC;cases hv;have hc:bH m _ (a.eval x):=TC;generalize hb:a.eval x=b at hc TC;cases hc with
  |hfn A B ha YJ YS VU=>exact .calm Tj (by simp[execOp,ho,hb]) TC
 ·rename_i he;rw[he] at TC;cases hv;have hc:bH m _ (a.eval x):=TC;generalize hb:a.eval x=b at hc TC;cases hc with
  |p hp=>cases hp with
   |fn A B ha YJ YS VU=>exact .calm Tj (by simp[execOp,ho,hb]) TC
 ·cases hv
end
end Go.Abs
namespace Go.Abs
variable {P:Program} {w0:World}
theorem bi.norm{w:World}{own:Nat->Prop}{x:PV}{v:Value}(h:bi w own x v):bi w own x.norm v:=by
 cases h<;>first
  |exact .sl0 none 0 (fun _=>rfl) (aah _)
  |(simp only[PV.norm];constructor<;>assumption)
theorem MV{m:Mem}{c:C}{x:PV}{v:Value}(h:toP c=some x)(hr:bH m c v):bi m.w m.own x v:=by
 cases hr<;>simp[toP] at h
 rename_i hp;subst h;exact hp.norm
theorem mX{m:Mem}: ∀ {cs:List C} {xs:List PV} {vs:List Value},xn cs=some xs->aW m cs vs->aV m.w m.own xs vs:=by
 intro cs
 induction cs with
 |nil=>
  intro xs vs h hr;simp[xn] at h;subst h;exact⟨hr.1,fun j x u a=>by simp at a⟩
 |cons c r ih=>
  intro xs vs h hr;simp only[xn] at h;split at h
  ·rename_i x ys h1 h2;cases h
   cases vs with
   |nil=>simp[aW] at hr
   |cons v us=>
    obtain⟨hl,hrr⟩:=ih (vs:=us) h2 ⟨by simpa using hr.1,fun j x u a b=>hr.2 (j+1) x u (by simpa using a) (by simpa using b)⟩;refine⟨by simp[hl],fun j z u a b=> ?_⟩;cases j with
    |zero=>simp at a b;subst a b;exact MV h1 (hr.2 0 c v rfl rfl)
    |succ j=>simp at a b;exact hrr j z u a b
  ·cases h
def Pw {α:Type}(R:α->Value->Prop)(xs:List α)(vs:List Value):Prop:=vs.length=xs.length/\ ∀ (j:Nat) (x:α) (u:Value),xs[j]? =some x->vs[j]? =some u->R x u
theorem Pw.take{α:Type}{R:α->Value->Prop}{xs:List α}{vs:List Value}(h:Pw R xs vs)(n:Nat):Pw R (xs.take n) (vs.take n):=by
 refine⟨by simp[h.1],fun j x u a b=> ?_⟩;rw[abi] at a b;split at a
 ·rename_i hj;rw[if_pos hj] at b;exact h.2 j x u a b
 ·cases a
theorem Pw.drop{α:Type}{R:α->Value->Prop}{xs:List α}{vs:List Value}(h:Pw R xs vs)(n:Nat):Pw R (xs.drop n) (vs.drop n):=
 ⟨by simp[h.1],fun j x u a b=>h.2 (n+j) x u (by simpa using a) (by simpa using b)⟩
theorem Pw.append{α:Type}{R:α->Value->Prop}{xs ys:List α}{vs us:List Value}(h:Pw R xs vs)(k:Pw R ys us):Pw R (xs++ys) (vs++us):=by
 refine⟨by simp[h.1,k.1],fun j x u a b=> ?_⟩;by_cases hj:j<xs.length
 ·rw[acr hj] at a;rw[acr (by rw[h.1];exact hj)] at b;exact h.2 j x u a b
 ·rw[acn (by omega)] at a;rw[acn (by rw[h.1];omega),h.1] at b;exact k.2 _ x u a b
theorem Pw.bc{α:Type}{R:α->Value->Prop}{xs ys:List α}{vs us:List Value}(h:Pw R xs vs)(k:Pw R ys us)(off:Nat):Pw R (bc xs off ys) (bc vs off us):=by
 unfold Abs.bc;rw[k.1];exact((h.take off).append k).append (h.drop _)
theorem l7{α:Type}{cs xs:List α}{off:Nat}(h:off+xs.length<=cs.length):(bc cs off xs).length=cs.length:=by
 simp[bc];omega
theorem th{α:Type}{cs xs:List α}{off n:Nat}(h:off+xs.length<=n)(hn:n<=cs.length):(bc cs off xs).take n=bc (cs.take n) off xs:=by
 unfold bc;rw[List.take_append,List.take_append,List.take_take,List.drop_take];simp only[aay,aaB];rw[ab8 (by omega:off<=cs.length),List.take_take,ab8 (by omega:off<=n),Nat.min_eq_right (by omega:off<=n)];have e:n - (off+xs.length)=n - (off+xs.length):=rfl;rw[aau (by omega:xs.length<=n - off)]
theorem zK{α:Type}{a cs xs:List α}{off:Nat}:bc (a++cs) (a.length+off) xs=a++bc cs off xs:=by
 unfold bc;rw[List.take_append,List.drop_append];simp only[adm];rw[aau (by omega:a.length<=a.length+off),List.drop_of_length_le (by omega:a.length<=a.length+off+xs.length)];simp only[abK];have e1:a.length+off - a.length=off:=by omega
 have e2:a.length+off+xs.length - a.length=off+xs.length:=by omega
 rw[e1,e2]
theorem Br{α:Type}{a cs xs:List α}{off:Nat}(h:off+xs.length<=a.length):bc (a++cs) off xs=bc a off xs++cs:=by
 unfold bc;rw[List.take_append_of_le_length (by omega),List.drop_append_of_le_length (by omega)];simp
theorem LD{α:Type}{sz:Nat}{ps:List α}{off:Nat}: ∀ {es:List (List α)},(∀ e∈es,e.length=sz)-> ∀ {i:Nat} {e:List α},es[i]? =some e->off+ps.length<=sz->
  (es.set i (bc e off ps)).flatten=bc es.flatten (i*sz+off) ps:=by
 intro es
 induction es with
 |nil=>intro _ i e h;simp at h
 |cons x r ih=>
  intro h i e he hl;have h1:=h x (by simp);cases i with
  |zero=>
   simp at he;subst he;simp only[List.set_cons_zero,aaI,abW,abC];rw[Br (by omega)]
  |succ i=>
   simp at he;simp only[List.set_cons_succ,aaI];rw[ih (fun y hy=>h y (by simp[hy])) he hl];have hh:(i+1)*sz+off=x.length+(i*sz+off):=by rw[h1,aaz];omega
   rw[hh,zK]
theorem oF{w:World}{g:Nat}{cur new:Array Value}{ty:TypeId}{fz:Nat × Nat}(h:w.heap[g]? =some (.cells cur ty fz)):(w.setRow g new).heap[g]? =some (.cells new ty fz):=setRow_heap w g cur new ty fz h
theorem aW.pw{m:Mem}{cs:List C}{vs:List Value}:aW m cs vs↔Pw (bH m) cs vs:=Iff.rfl
theorem aV.pw{w:World}{own:Nat->Prop}{cs:List PV}{vs:List Value}:aV w own cs vs↔Pw (bi w own) cs vs:=Iff.rfl
theorem aW.one{m:Mem}{cs:List C}{vs:List Value}(h:aW m cs vs): ∀ v∈vs,v.oneCell'=true:=by
 intro v hv;obtain⟨j,hj⟩:=aaC hv;have Ti:j<cs.length:=by rw[<- h.1];exact(aag.1 hj).1
 exact(h.2 j _ v (abJ Ti) hj).qQ
theorem qj{m:Mem}{x:V}{v:Value}{cs:List C}(h:fB x=some cs)(hr:aZ m x v):aW m cs v.cells.toList:=by
 cases x with
 |undef=>simp[fB] at h
 |tup vs=>simp[fB] at h
 |one c=>
  simp[fB] at h;subst h;rw[(aZ.one.1 hr).cells];refine⟨rfl,fun j y u p q=> ?_⟩;cases j with
  |zero=>simp at p q;subst p q;exact hr
  |succ j=>simp at p
 |agg ds=>
  simp[fB] at h;subst h;obtain⟨arr,e,h⟩:=aZ.agg.1 hr;rw[e];exact h
section
variable {m:Mem} {env:Env} {a:Act} {o:Oper} (Tj:Ok w0 m) (hr:fS m env a.tmps)
include Tj hr
theorem HD{t:TypeId}{x v:Operand}{x' v':aC}{n:Nat}{cs:List C}{r:V}{u:List jv}{rd:List Nat}(ho:o.op= .store t x v)(hn:ly P t=some n)(hx:bp x=some x')(hv:bp v=some v')
  (hc:fB (ev env v')=some cs) (hw:uE m.Tc (ev env x') n cs= .done r u rd):ef P w0 a.eval o m r u:=by
 have TP:=qj hc (aE hv hr);have Vg:=aE hx hr;unfold ly at hn;simp only[aao] at hn;obtain⟨i,hi,Y1⟩:=hn;have TG:(a.eval v).cells.toList.length=cs.length:=TP.1;simp only[Array.length_toList] at TG;unfold uE at hw;split at hw
 ·cases hw
 ·rename_i hlen;have hlen:cs.length=n:=by simpa using hlen
  have ab5:=TP.one;split at hw
  ·rename_i id g off he;rw[he] at Vg;have Vg:bH m _ (a.eval x):=Vg;generalize hb:a.eval x=b at Vg;cases Vg with
   |Tn ad hg Wo=>
    split at hw
    ·rename_i g' cs0 hbk;split at hw
     ·rename_i UM;obtain⟨U0,hfit⟩:=UM;cases hw
      have Tv:(m.Tc id).2=some (.var cs0):=by rw[hbk]
      have Wo:=Wo (by rw[hbk];exact U0) (by rw[Tv];rfl);subst Wo;obtain⟨cur,ty,hh,TT⟩:=Tj.obj id _ Tv;have Uk:=TT.1;simp at Uk;have Vx:off+0+(a.eval v).cells.toList.length<=cur.size:=by simp;omega
      have TE:=run_storeCells_at P (m.σ id) off ty (a.eval v).cells.toList 0 cur m.w hh Vx ab5;simp only[ab6] at TE;generalize hW:m.w.setRow (m.σ id) (cur.toList.take off++(a.eval v).cells.toList++cur.toList.drop (off+(a.eval v).cells.toList.length)).toArray=W at TE;have hWs:W.heap.size=m.w.heap.size:=by rw[<- hW];simp
      have hWo: ∀ c,c≠m.σ id->W.heap[c]? =m.w.heap[c]? :=fun c hc=>by rw[<- hW];exact setRow_other m.w (m.σ id) c _ hc
      have Uf:=qB (w':=W) (o:= .var (bc cs0 off cs)) Tv rfl (by simp[im]) (by rw[<- hW];rfl) (by rw[<- hW];rfl) (by rw[<- hW];rfl) hWs hWo;have WG:pC (m.gJ W id (.var (bc cs0 off cs))) id (.var (bc cs0 off cs)):=by
       refine⟨_,ty,by rw[<- hW];exact oF hh,?_⟩;have:=aW.pw.2 ((aW.pw.1 (TT.ev Uf.zero)).bc (aW.pw.1 (TP.ev Uf.zero)) off)
       simpa [bc] using this
      refine⟨undef,m.gJ W id (.var (bc cs0 off cs)), .inr ⟨?_,rfl⟩,uf Tv rfl Tj (by simp[im]) (by rw[<- hW];rfl) (by rw[<- hW];rfl) (by rw[<- hW];rfl) hWs hWo WG,Uf,rfl,?_,rfl⟩
      ·simp only[execOp,ho,hb,Instr.storeAt,Instr.sureAddr,storeVar,sizeOf,typeInfo];simp[hi,TG,hlen,Y1,TE,Mem.gJ]
      ·simp[Mem.gJ,app,hbk,U0]
     ·cases hw
    ·cases hw
  ·rename_i id g i' off he;rw[he] at Vg;have Vg:bH m _ (a.eval x):=Vg;generalize hb:a.eval x=b at Vg;cases Vg with
   |TS ad hg Wo=>
    split at hw
    ·rename_i g' ty sz es hbk;split at hw
     ·rename_i e ps he2 ab4;split at hw
      ·rename_i UM;obtain⟨U0,hfit⟩:=UM;cases hw
       have Tv:(m.Tc id).2=some (.arr ty sz es):=by rw[hbk]
       have Wo:=Wo sz (by rw[hbk];exact U0) (by rw[hbk];rfl);subst Wo;obtain⟨cur,hh,Wi,UU,hl,hm,adx,TT⟩:=Tj.obj id _ Tv;have TS:=eU UU he2;have aim:i'<es.length:=(aag.1 he2).1;have Vj:(i'+1)*sz<=es.length*sz:=aa6 _ aim;have afR:es.length*sz<=m.κ id*sz:=aa6 _ hl;rw[aaz,Nat.one_mul] at Vj;have hpsl:ps.length=cs.length:=by rw[<- TP.1];exact(mX ab4 TP).1.symm
       have Vx:i'*sz+off+0+(a.eval v).cells.toList.length<=cur.size:=by simp;omega
       have TE:=run_storeCells_at P (m.σ id) (i'*sz+off) ty (a.eval v).cells.toList 0 cur m.w hh Vx ab5;simp only[ab6] at TE;generalize hW:m.w.setRow (m.σ id) (cur.toList.take (i'*sz+off)++(a.eval v).cells.toList++cur.toList.drop (i'*sz+off+(a.eval v).cells.toList.length)).toArray=W at TE;have hWs:W.heap.size=m.w.heap.size:=by rw[<- hW];simp
       have hWo: ∀ c,c≠m.σ id->W.heap[c]? =m.w.heap[c]? :=fun c hc=>by rw[<- hW];exact setRow_other m.w (m.σ id) c _ hc
       have Uf:=qB (w':=W) (o:= .arr ty sz (es.set i' (bc e off ps))) Tv rfl (by simp[im]) (by rw[<- hW];rfl) (by rw[<- hW];rfl) (by rw[<- hW];rfl) hWs hWo;have WG:pC (m.gJ W id (.arr ty sz (es.set i' (bc e off ps)))) id (.arr ty sz (es.set i' (bc e off ps))):=by
        refine⟨_,by rw[<- hW];exact oF hh,Wi,?_,by rw[aaD];exact hl,hm,?_,?_⟩
        ·intro e' he';rcases adB he' with h|h
         ·exact UU e' h
         ·rw[h,l7 (by omega)];exact TS
        ·simp[Mem.gJ];omega
        ·rw[aaD,LD UU he2 (by omega)];have h1:=(aV.pw.1 (TT.ev Uf.zero)).bc (aV.pw.1 ((mX ab4 TP).ev Uf.zero)) (i'*sz+off);rw[<- th (by simp;omega) (by simp;omega)] at h1;have h1:=aV.pw.2 h1
         simpa [bc] using h1
       refine⟨undef,m.gJ W id (.arr ty sz (es.set i' (bc e off ps))), .inr ⟨?_,rfl⟩,uf Tv rfl Tj (by simp[im]) (by rw[<- hW];rfl) (by rw[<- hW];rfl) (by rw[<- hW];rfl) hWs hWo WG,Uf,rfl,?_,rfl⟩
       ·simp only[execOp,ho,hb,Instr.storeAt,Instr.sureAddr,storeVar,sizeOf,typeInfo];simp[hi,TG,hlen,Y1,TE,Mem.gJ]
       ·simp[Mem.gJ,app,hbk,U0]
      ·cases hw
     ·cases hw
    ·cases hw
  ·cases hw
end
end Go.Abs
namespace Go.Abs
variable {P:Program} {w0:World}
theorem iH{m:Mem}{x:V}{v:Value}{n:Nat}(h:xE x=some n)(hr:aZ m x v): ∃ k,v= .int k (n:Int):=by
 unfold xE at h;split at h
 ·rename_i k z;split at h
  ·rename_i hz;cases h
   exact⟨k,by rw[jL hr,Int.toNat_of_nonneg hz]⟩
  ·cases h
 ·cases h
theorem oE{t:TypeId}{n:Nat}(h:ly P t=some n)(w:World):(sizeOf t).run P w= .ok n w:=by
 unfold ly at h;simp only[aao] at h;obtain⟨i,hi,rfl⟩:=h;simp[sizeOf,typeInfo,hi]
section
variable {m:Mem} {env:Env} {a:Act} {o:Oper} (Tj:Ok w0 m) (hr:fS m env a.tmps)
include Tj hr
theorem HH{s:TypeId}{x:Operand}{f:Nat}{fs:Array Field}{d:Field}{y:aC}{v:V}(ho:o.op= .fieldAddr s x f)(hs:P.underlying s=some (.struct fs))(hf:fs[f]? =some d)
  (hz:P.cellsOf d.type≠0) (hx:bp x=some y) (hv:aP (fun _=>false) env m.Tc (.Te d.offset y)= .done v [] []):ef P w0 a.eval o m v []:=by
 have TC:=aE hx hr;have TG: ∃ n,(sizeOf d.type).run P m.w= .ok n m.w/\n≠0:=by
  unfold Program.cellsOf at hz;cases hi:P.info? d.type with
  |none=>simp[hi] at hz
  |some i=>exact⟨i.size,by simp[sizeOf,typeInfo,hi],by simpa [hi] using hz⟩
 obtain⟨n,hn,UY⟩:=TG;have run: ∀ ad,a.eval x= .pointer (some ad)->(execOp a.eval o).run P m.w= .ok (.value (.pointer (some (ad.add d.offset)))) m.w:=by
  intro ad Wo;simp[execOp,ho,Wo,Instr.fieldAt,run_underlying hs,hf,Instr.sureAddr,fieldPlace,hn,UY]
 simp only[aP] at hv;split at hv
 ·rename_i id g off he;rw[he] at TC;cases hv;have hc:bH m _ (a.eval x):=TC;generalize hb:a.eval x=b at hc;cases hc with
  |Tn ad hg h=>exact .calm Tj (run _ hb) (aZ.one.2 (.Tn _ hg fun h1 h2=>by rw[h h1 h2,Addr.add_lit]))
 ·rename_i id g i off he;rw[he] at TC;cases hv;have hc:bH m _ (a.eval x):=TC;generalize hb:a.eval x=b at hc;cases hc with
  |TS ad hg h=>exact .calm Tj (run _ hb) (aZ.one.2 (.TS _ hg fun sz h1 h2=>by rw[h sz h1 h2,Addr.add_lit,acs]))
 ·rename_i cs he;rw[he] at TC;cases hv;have hc:bH m _ (a.eval x):=TC;generalize hb:a.eval x=b at hc;cases hc with
  |p hp=>cases hp with
   |box b' o' f' Vh Vp Yr=>
    refine .calm Tj (run _ hb) (jK ?_);rw[Addr.add_lit];refine .box b' (o'+d.offset) (fun j=>f' (d.offset+j)) (fun h=>Vh fun e=>h (by simp[e])) (fun j z h=> ?_) fun j z h=>Yr _ z (by simpa using h)
    rw[acs];exact Vp _ z (by simpa using h)
 ·cases hv
theorem HG{t e:TypeId}{x i:Operand}{sz:Nat}{x' i':aC}{v:V}(ho:o.op= .indexAddr t x i)(ht:P.underlying t=some (.slice e))(hs:ly P e=some sz)
  (hx:bp x=some x') (hi:bp i=some i') (hv:aP (fun _=>false) env m.Tc (.Tx sz x' i')= .done v [] []):ef P w0 a.eval o m v []:=by
 have TC:=aE hx hr;have hri:=aE hi hr;have run: ∀ ad len cap k (n:Nat),a.eval x= .slice (some ad) len cap->a.eval i= .int k (n:Int)->n<len->(execOp a.eval o).run P m.w= .ok (.value (.pointer (some (ad.add (n*sz))))) m.w:=by
  intro ad len cap k n h1 h2 h3;simp[execOp,ho,h1,h2,Instr.indexAt,asIntOf,run_underlying ht,oE hs,h3]
 simp only[aP] at hv;split at hv
 ·rename_i n es hn he;obtain⟨k,hk⟩:=iH hn hri;rw[he] at TC;split at hv
  ·rename_i el TS;split at hv
   ·rename_i hlen;cases hv
    have hc:bH m _ (a.eval x):=TC;generalize hb:a.eval x=b at hc;cases hc with
    |p hp=>
     generalize Ux:(PV.sl es)=pv at hp;cases hp<;>first
      |cases Ux
      |skip
     ·simp at TS
     ·rename_i b' o' cap TY f hm' Vh hl' TG Wt hrr;have Ti:n<es.length:=(aag.1 TS).1;have adU:TY=sz:=by rw[<- eU TG TS];exact hlen
      subst adU;refine .calm Tj (run _ _ _ k n hb hk Ti) (jK ?_);rw[Addr.add_lit];refine .box b' (o'+n*TY) (fun j=>f (n*TY+j)) (fun h=>Vh ?_) (fun j z h=> ?_) fun j z h=> ?_
      ·intro e0;cases el with
       |nil=>exact h rfl
       |cons c r=>
        have:=mw TG TS (j:=0) (by rw[<- hlen];simp);rw[e0] at this;simp at this
      ·have hj:j<TY:=by rw[<- hlen];exact(aag.1 h).1
       rw[acs];exact Wt _ z (by rw[mw TG TS hj];exact h)
      ·have hj:j<TY:=by rw[<- hlen];exact(aag.1 h).1
       exact hrr _ z (by rw[mw TG TS hj];exact h)
   ·cases hv
  ·cases hv
 ·rename_i n id g z off len hn he;obtain⟨k,hk⟩:=iH hn hri;rw[he] at TC;split at hv
  ·rename_i Ti;cases hv
   have hc:bH m _ (a.eval x):=TC;generalize hb:a.eval x=b at hc;cases hc with
   |hsl ad cap hg hl hm h=>
    refine .calm Tj (run _ _ _ k n hb hk Ti.1) (aZ.one.2 (.TS _ hg fun s h1 h2=> ?_));obtain⟨e1,e2,_⟩:=h s h1 h2;rw[e2 (.inr (by omega)),Addr.add_lit,e1,Ti.2];simp[aaz]
  ·cases hv
 ·cases hv
theorem HL{t e:TypeId}{x i:Operand}{sz ln:Nat}{x' i':aC}{v:V}(ho:o.op= .indexAddr t x i)(ht:P.underlying t=some (.array ln e))(hs:ly P e=some sz)
  (hx:bp x=some x') (hi:bp i=some i') (hv:aP (fun _=>false) env m.Tc (.UR ln sz x' i')= .done v [] []):ef P w0 a.eval o m v []:=by
 have TC:=aE hx hr;have hri:=aE hi hr;have run: ∀ ad k (n:Nat),a.eval x= .pointer (some ad)->a.eval i= .int k (n:Int)->n<ln->(execOp a.eval o).run P m.w= .ok (.value (.pointer (some (ad.add (n*sz))))) m.w:=by
  intro ad k n h1 h2 h3;simp[execOp,ho,h1,h2,Instr.indexAt,asIntOf,run_underlying ht,oE hs,h3,Instr.sureAddr]
 simp only[aP] at hv;split at hv
 ·rename_i n id g off hn he;obtain⟨k,hk⟩:=iH hn hri;rw[he] at TC;split at hv
  ·rename_i Ti;cases hv;have hc:bH m _ (a.eval x):=TC;generalize hb:a.eval x=b at hc;cases hc with
   |Tn ad hg h=>exact .calm Tj (run _ k n hb hk Ti) (aZ.one.2 (.Tn _ hg fun h1 h2=>by rw[h h1 h2,Addr.add_lit]))
  ·cases hv
 ·rename_i n id g j off hn he;obtain⟨k,hk⟩:=iH hn hri;rw[he] at TC;split at hv
  ·rename_i Ti;cases hv;have hc:bH m _ (a.eval x):=TC;generalize hb:a.eval x=b at hc;cases hc with
   |TS ad hg h=>exact .calm Tj (run _ k n hb hk Ti) (aZ.one.2 (.TS _ hg fun s h1 h2=>by rw[h s h1 h2,Addr.add_lit,acs]))
  ·cases hv
 ·rename_i n cs hn he;obtain⟨k,hk⟩:=iH hn hri;rw[he] at TC;split at hv
  ·rename_i Ti;cases hv;have hc:bH m _ (a.eval x):=TC;generalize hb:a.eval x=b at hc;cases hc with
   |p hp=>cases hp with
    |box b' o' f' Vh Vp Yr=>
     refine .calm Tj (run _ k n hb hk Ti) (jK ?_);rw[Addr.add_lit];refine .box b' (o'+n*sz) (fun j=>f' (n*sz+j)) (fun h=>Vh fun e=>h (by simp[e])) (fun j z h=> ?_) fun j z h=>Yr _ z (by simpa using h)
     rw[acs];exact Vp _ z (by simpa using h)
  ·cases hv
 ·cases hv
theorem B4{t:TypeId}{k:Option Nat}(hk:Ao P t=some k){cs:List C}{arr:Array Value}(hc:aW m cs arr.toList){off:Nat}{x:V}(hx:gu k (cs.drop off)=some x):
  ∃ y,(part t arr off).run P m.w= .ok y m.w/\aZ m x y:=by
 have _u0:=Tj;have _u1:=hr;have hl:=hc.1;simp at hl;cases k with
 |none=>
  obtain⟨h1,h2⟩:=nd hk m.w;cases hd:cs.drop off with
  |nil=>simp[hd,gu] at hx
  |cons c r=>
   simp[hd,gu] at hx;subst hx;have TP:cs[off]? =some c:=by
    have:=congrArg (·[0]?) hd
    simpa using this
   have Ti:off<arr.size:=by rw[hl];exact(aag.1 TP).1
   refine⟨arr[off],by simp[part,h1,Ti],aZ.one.2 (hc.2 off c _ TP (by simp[Ti]))⟩
 |some n=>
  obtain⟨h1,h2⟩:=m8 hk m.w;simp only[gu] at hx;split at hx
  ·rename_i hn;cases hx
   simp at hn;refine⟨.agg (arr.extract off (off+n)),by simp[part,h1,h2],aZ.agg.2 ⟨_,rfl,by simp;omega,fun j x u p q=> ?_⟩⟩;rw[abi] at p;split at p
   ·rename_i hj;simp at p;refine hc.2 (off+j) x u p ?_;have Ti:off+j<cs.length:=(aag.1 p).1;have he:(arr.extract off (off+n)).toList=(arr.toList.drop off).take n:=by simp
    rw[he,abi,if_pos hj,act] at q;exact q
   ·cases p
  ·cases hx
theorem Nk{t:TypeId}{x:Operand}{f:Nat}{fs:Array Field}{d:Field}{y:aC}{k:Option Nat}{cs:List C}{v:V}(ho:o.op= .field t x f)(hs:P.underlying t=some (.struct fs))(hf:fs[f]? =some d)
  (hk:Ao P d.type=some k) (hx:bp x=some y) (hy:ev env y= .agg cs) (hv:gu k (cs.drop d.offset)=some v):ef P w0 a.eval o m v []:=by
 have TC:=aE hx hr;rw[hy] at TC;obtain⟨arr,e,hc⟩:=aZ.agg.1 TC;obtain⟨z,h1,h2⟩:=B4 (Tj:=Tj) (hr:=hr) hk hc hv;exact .calm Tj (by simp[execOp,ho,e,Instr.field,run_underlying hs,hf,asAgg,h1]) h2
theorem Kb{t e:TypeId}{x i:Operand}{ln sz:Nat}{x' i':aC}{k:Option Nat}{n:Nat}{cs:List C}{v:V}(ho:o.op= .index t x i)(ht:P.underlying t=some (.array ln e))(hs:ly P e=some sz)
  (hk:Ao P e=some k) (hx:bp x=some x') (hi:bp i=some i') (hn:xE (ev env i')=some n) (Ti:n<ln) (hy:ev env x'= .agg cs) (hv:gu k (cs.drop (n*sz))=some v):ef P w0 a.eval o m v []:=by
 have TC:=aE hx hr;obtain⟨kk,Y0⟩:=iH hn (aE hi hr);rw[hy] at TC;obtain⟨arr,e',hc⟩:=aZ.agg.1 TC;obtain⟨z,h1,h2⟩:=B4 (Tj:=Tj) (hr:=hr) hk hc hv;exact .calm Tj (by simp[execOp,ho,e',Y0,Instr.index,asIntOf,run_underlying ht,oE hs,Ti,h1]) h2
theorem J3{t:TypeId}{x i:Operand}{x' i':aC}{n:Nat}{s:ByteArray}{b:UInt8}(ho:o.op= .index t x i)(ht:P.underlying t=some .string)
  (hx:bp x=some x') (hi:bp i=some i') (hn:xE (ev env i')=some n) (hy:ev env x'= .one (.p (.str s))) (hb:s[n]? =some b):ef P w0 a.eval o m (.one (.p (.int .u8 b.toNat))) []:=by
 have TC:=aE hx hr;obtain⟨kk,Y0⟩:=iH hn (aE hi hr);rw[hy] at TC;exact .calm Tj (by simp[execOp,ho,rg TC,Y0,Instr.index,asIntOf,run_underlying ht,hb]) (jK (.int _ _))
end
end Go.Abs
namespace Go.Abs
variable {P:Program} {w0:World}
theorem FL{op:BinOp}{t:TypeId}{k k':IntKind}{x y:Int}{v:PV}(w:World)(hk:k=k'\/op= .shl\/op= .shr)(h:gt op k x y=some v):
  ∃ u,(binOp op t (.int k x) (.int k' y)).run P w= .ok u w/\ ∀ own,bi w own v u:=by
 by_cases hs:op= .shl\/op= .shr
 ·rcases hs with rfl|rfl
  ·simp only[gt] at h;split at h
   ·cases h
   ·rename_i hy;cases h;exact⟨_,by simp[binOp,Op.shift,hy],fun own=> .int _ _⟩
  ·simp only[gt] at h;split at h
   ·cases h
   ·rename_i hy;cases h;exact⟨_,by simp[binOp,Op.shift,hy],fun own=> .int _ _⟩
 ·have Y0:k=k':=by
   rcases hk with h|h
   ·exact h
   ·exact(hs h).elim
  subst Y0;cases op<;>simp only[gt] at h<;>first
   |cases h
   |skip
  all_goals first
   |exact(hs (.inl rfl)).elim
   |exact(hs (.inr rfl)).elim
   |(exact⟨_,by simp[binOp,Op.intArith,Op.intCmp,Op.intBits],fun own=> .int _ _⟩)
   |(exact⟨_,by simp[binOp,Op.intArith,Op.intCmp],fun own=> .bool _⟩)
   |(split at h
     ·cases h
     ·rename_i hy;cases h;exact⟨_,by simp[binOp,Op.intDiv,hy],fun own=> .int _ _⟩)
theorem FK{op:BinOp}{t:TypeId}{x y:ByteArray}{v:PV}(w:World)(h:mJ op x y=some v):
  ∃ u,(binOp op t (.string x) (.string y)).run P w= .ok u w/\ ∀ own,bi w own v u:=by
 cases op<;>simp only[mJ] at h<;>first
  |cases h
  |skip
 all_goals first
  |exact⟨_,by simp[binOp,Op.stringOp],fun own=> .bool _⟩
  |(split at h
    ·rename_i hl;cases h
     refine⟨.string (x++y),?_,fun own=> .str _⟩;have: ¬ ((x.size:Int)+(y.size:Int)>9223372036854775807):=by omega
     simp[binOp,Op.stringOp,this]
    ·cases h)
section
variable {m:Mem} {env:Env} {a:Act} {o:Oper} (Tj:Ok w0 m) (hr:fS m env a.tmps)
include Tj hr
theorem Nm{op:BinOp}{t ty:TypeId}{x y:Operand}{x' y':aC}{v:V}(ho:o.op= .binOp op t x y ty)(hx:bp x=some x')(hy:bp y=some y')
  (hv:mI op (ev env x') (ev env y')=some v):ef P w0 a.eval o m v []:=by
 have h1:=aE hx hr;have h2:=aE hy hr;unfold mI at hv;split at hv
 ·rename_i k p k' q e1 e2;rw[e1] at h1;rw[e2] at h2;split at hv
  ·rename_i hk;simp only[aao] at hv;obtain⟨u,hu,rfl⟩:=hv;obtain⟨z,hz,hzr⟩:=FL (P:=P) (t:=t) m.w hk hu;refine .calm Tj ?_ (jK (hzr _));have hg:(eqGuard op t x y (.int k p) (.int k' q)).run P m.w= .ok () m.w:=by cases op<;>simp[eqGuard]
   simp[execOp,ho,jL h1,jL h2,hg,hz]
  ·cases hv
 ·rename_i p q e1 e2;rw[e1] at h1;rw[e2] at h2;simp only[aao] at hv;obtain⟨u,hu,rfl⟩:=hv;obtain⟨z,hz,hzr⟩:=FK (P:=P) (t:=t) m.w hu;refine .calm Tj ?_ (jK (hzr _));have hg:(eqGuard op t x y (.string p) (.string q)).run P m.w= .ok () m.w:=by cases op<;>simp[eqGuard]
  simp[execOp,ho,rg h1,rg h2,hg,hz]
 ·cases hv
theorem Ng{t:TypeId}{x:Operand}{x':aC}{b:Bool}(ho:o.op= .unOp .not t x)(hx:bp x=some x')(hb:ev env x'= .one (.p (.bool b))):ef P w0 a.eval o m (.one (.p (.bool (!b)))) []:=by
 have h1:=aE hx hr;rw[hb] at h1;exact .calm Tj (by simp[execOp,ho,jo h1,Op.unary]) (jK (.bool _))
theorem Nh{t:TypeId}{x:Operand}{x':aC}{k:IntKind}{n:Int}(ho:o.op= .unOp .neg t x)(hx:bp x=some x')(hb:ev env x'= .one (.p (.int k n))):ef P w0 a.eval o m (.one (.p (.int k (k.wrap (0 - n))))) []:=by
 have h1:=aE hx hr;rw[hb] at h1;exact .calm Tj (by simp[execOp,ho,jL h1,Op.unary,Op.intArith]) (jK (.int _ _))
theorem J9{s d:TypeId}{x:Operand}{x':aC}{ks k k0:IntKind}{n:Int}(ho:o.op= .convert s d x)(hs:P.underlying s=some (.int ks))(hd:P.underlying d=some (.int k))(hx:bp x=some x')
  (hb:ev env x'= .one (.p (.int k0 n))):ef P w0 a.eval o m (.one (.p (.int k (k.wrap n)))) []:=by
 have h1:=aE hx hr;rw[hb] at h1;exact .calm Tj (by simp[execOp,ho,jL h1,convert,run_underlying hs,run_underlying hd,Conv.intToInt]) (jK (.int _ _))
theorem yg: ∀ {xs:List Operand} {ys:List aC} {cs:List C},ii xs=some ys->kJ env ys=some cs->aW m cs (xs.map a.eval):=by
 have _u0:=Tj;intro xs
 induction xs with
 |nil=>
  intro ys cs h1 h2;simp[ii] at h1;subst h1;simp[kJ] at h2;subst h2;exact⟨rfl,fun j x u p=>by simp at p⟩
 |cons x r ih=>
  intro ys cs h1 h2;simp only[ii] at h1;split at h1
  ·rename_i y ys' e1 e2;cases h1
   simp only[kJ] at h2;split at h2
   ·rename_i c q e3 e4;cases h2
    obtain⟨hl,hrr⟩:=ih e2 e4;refine⟨by simpa using hl,fun j z u p q=> ?_⟩;cases j with
    |zero=>
     simp at p q;subst p q;have:=aE e1 hr;rw[e3] at this;exact this
    |succ j=>simp at p q;exact hrr j z u p (by simpa using q)
   ·cases h2
  ·cases h1
theorem J6{f:FuncId}{x y:Array Operand}{x' y':List aC}{cs ds:List C}(ho:o.op= .makeFunc (.func f) x y)(hx:ii x.toList=some x')(hy:ii y.toList=some y')
  (hc:kJ env x'=some cs) (hd:kJ env y'=some ds):ef P w0 a.eval o m (.one (.hfn f cs ds)) []:=by
 have h1:=yg (Tj:=Tj) (hr:=hr) hx hc;have h2:=yg (Tj:=Tj) (hr:=hr) hy hd;refine .calm (x:= .func (.func f) (x.map a.eval) (y.map a.eval)) Tj (by simp[execOp,ho,Instr.makeFunc]) (aZ.one.2 (.hfn _ _ ?_ ?_ ?_ ?_))
 ·have:=h1.1;simpa using this
 ·have:=h2.1;simpa using this
 ·intro j z u p q;exact h1.2 j z u p (by rw[<- Array.toList_map,Array.getElem?_toList];exact q)
 ·intro j z u p q;exact h2.2 j z u p (by rw[<- Array.toList_map,Array.getElem?_toList];exact q)
theorem BD{x:Operand}{i:Nat}{x':aC}{vs:List V}{v:V}(ho:o.op= .extract x i)(hx:bp x=some x')(he:ev env x'= .tup vs)(hv:vs[i]? =some v):ef P w0 a.eval o m v []:=by
 have h1:=aE hx hr;rw[he] at h1;obtain⟨arr,e,hl,hc⟩:=h1;have Ti:i<arr.size:=by rw[hl];exact(aag.1 hv).1
 exact .calm (x:=arr[i]) Tj (by simp[execOp,ho,e,Instr.extract,Ti]) (.of1 (hc i v _ hv (by simp[Ti])))
theorem Co{x:V}{v:Value}{n:Nat}(h:tZ x=some n)(hv:aZ m x v): ∃ ad cap,v= .slice ad n cap/\n<=cap/\cap<=maxLen:=by
 have _u0:=Tj;have _u1:=hr;unfold tZ at h;split at h
 ·cases h;exact⟨none,0,rh hv,aal _,aah _⟩
 ·cases h
  obtain⟨hp⟩:bH m _ v:=hv;rename_i es;generalize Ux:(PV.sl es)=pv at hp;cases hp<;>cases Ux
  ·exact⟨_,_,rfl,aah _,by assumption⟩
  ·exact⟨_,_,rfl,by assumption,by assumption⟩
 ·cases h
  have hc:bH m _ v:=hv;cases hc with
  |hsl ad cap hg hl hm h=>exact⟨_,_,rfl,hl,hm⟩
 ·cases h
theorem J8{c:Call}{x:Operand}{x':aC}{t e:TypeId}{n:Nat}(ho:o.op= .call c)(hc:c.callee= .builtin .len)(has:c.args= #[x])(VB:c.argTypes[0]? =some t)(ht:P.underlying t=some (.slice e))
  (hx:bp x=some x') (hn:tZ (ev env x')=some n):ef P w0 a.eval o m (.one (.p (.int .i64 n))) []:=by
 obtain⟨ad,cap,h1,_,_⟩:=Co (Tj:=Tj) (hr:=hr) hn (aE hx hr);refine .calm Tj ?_ (jK (.int _ _));simp[execOp,ho,resolve,hc,has,invoke,builtin,Builtin.len_,VB,h1,run_underlying ht,goInt]
theorem J2{c:Call}{x:Operand}{x':aC}{t:TypeId}{s:ByteArray}(ho:o.op= .call c)(hc:c.callee= .builtin .len)(has:c.args= #[x])(VB:c.argTypes[0]? =some t)(ht:P.underlying t=some .string)
  (hx:bp x=some x') (hn:ev env x'= .one (.p (.str s))):ef P w0 a.eval o m (.one (.p (.int .i64 s.size))) []:=by
 have h1:=aE hx hr;rw[hn] at h1;refine .calm Tj ?_ (jK (.int _ _));simp[execOp,ho,resolve,hc,has,invoke,builtin,Builtin.len_,VB,rg h1,run_underlying ht,goInt]
theorem Nj{c:Call}{x y:Operand}{x' y':aC}{k k':IntKind}{p q:Int}(ho:o.op= .call c)(hc:c.callee= .builtin .max)(has:c.args= #[x,y])
  (hx:bp x=some x') (hy:bp y=some y') (h1:ev env x'= .one (.p (.int k p))) (h2:ev env y'= .one (.p (.int k' q))):ef P w0 a.eval o m (.one (.p (.int k (if q>p then q else p)))) []:=by
 have g1:=aE hx hr;have g2:=aE hy hr;rw[h1] at g1;rw[h2] at g2;refine .calm Tj ?_ (jK (.int _ _));simp[execOp,ho,resolve,hc,has,invoke,builtin,Builtin.max_,Builtin.max2,jL g1,jL g2]
theorem Ni{c:Call}{x y:Operand}{x' y':aC}{k k':IntKind}{p q:Int}(ho:o.op= .call c)(hc:c.callee= .builtin .min)(has:c.args= #[x,y])
  (hx:bp x=some x') (hy:bp y=some y') (h1:ev env x'= .one (.p (.int k p))) (h2:ev env y'= .one (.p (.int k' q))):ef P w0 a.eval o m (.one (.p (.int k (if q<p then q else p)))) []:=by
 have g1:=aE hx hr;have g2:=aE hy hr;rw[h1] at g1;rw[h2] at g2;refine .calm Tj ?_ (jK (.int _ _));simp[execOp,ho,resolve,hc,has,invoke,builtin,Builtin.min_,Builtin.min2,jL g1,jL g2]
end
end Go.Abs
namespace Go.Abs
variable {P:Program} {w0:World}
theorem Mn: ∀ (u:List jv) (Tc:aB) (id:Nat),(app u Tc id=Tc id/\ ∀ e∈u,e.1≠id)\/ ∃ e∈u,e.1=id/\app u Tc id=e.2:=by
 intro u
 induction u with
 |nil=>intro Tc id;exact .inl ⟨rfl,fun e h=>by simp at h⟩
 |cons x r ih=>
  intro Tc id;obtain⟨i,o⟩:=x;simp only[app];rcases ih (fD Tc i o) id with ⟨h1,h2⟩|⟨e,he,h1,h2⟩
  ·by_cases hi:id=i
   ·exact .inr ⟨(i,o),by simp,hi.symm,by rw[h1];simp[af,hi]⟩
   ·refine .inl ⟨by rw[h1];simp[af,hi],fun e he=> ?_⟩;rcases aat.1 he with rfl|he
    ·exact fun h=>hi h.symm
    ·exact h2 e he
  ·exact .inr ⟨e,by simp[he],h1,h2⟩
theorem ib{α β γ:Type}{f:α->Option (β × List Nat)}{R:α->γ->Prop}{T:β->γ->Prop}{good:List Nat->Prop}(XL: ∀ a b,good (a++b)->good a/\good b)
  (hf: ∀ a b r v,f a=some (b,r)->R a v->good r->T b v): ∀ {xs:List α} {ys:List β} {r:List Nat} {vs:List γ},collect f xs=some (ys,r)->good r->
  (vs.length=xs.length/\ ∀ (j:Nat) (x:α) (u:γ),xs[j]? =some x->vs[j]? =some u->R x u)->(vs.length=ys.length/\ ∀ (j:Nat) (x:β) (u:γ),ys[j]? =some x->vs[j]? =some u->T x u):=by
 intro xs
 induction xs with
 |nil=>
  intro ys r vs h _ hr;simp[collect] at h;obtain⟨rfl,rfl⟩:=h;exact⟨hr.1,fun j x u a=>by simp at a⟩
 |cons x t ih=>
  intro ys r vs h hg hr;simp only[collect] at h;split at h
  ·rename_i b p bs q e1 e2;cases h
   obtain⟨g1,g2⟩:=XL _ _ hg;cases vs with
   |nil=>simp at hr
   |cons v us=>
    obtain⟨hl,hh⟩:=ih (vs:=us) e2 g2 ⟨by simpa using hr.1,fun j x u a b=>hr.2 (j+1) x u (by simpa using a) (by simpa using b)⟩;refine⟨by simp[hl],fun j z u a b=> ?_⟩;cases j with
    |zero=>simp at a b;subst a b;exact hf _ _ _ _ e1 (hr.2 0 x v rfl rfl) g1
    |succ j=>simp at a b;exact hh j z u a b
  ·cases h
def eX(m:Mem)(own:Nat->Prop)(r:List Nat):Prop:=(∀ b,own b->m.own b)/\ ∀ id∈r,¬ own (m.σ id)
theorem eX.app{m:Mem}{own:Nat->Prop}{a b:List Nat}(h:eX m own (a++b)):eX m own a/\eX m own b:=
 ⟨⟨h.1,fun id hi=>h.2 id (by simp[hi])⟩,⟨h.1,fun id hi=>h.2 id (by simp[hi])⟩⟩
theorem bi.less{w:World}{own VR:Nat->Prop}(h: ∀ b,VR b->own b){x:PV}{v:Value}(hr:bi w own x v):bi w VR x v:=
 hr.mono fun c _ hn=>⟨rfl,fun ho=>hn (h c ho)⟩
theorem aV.less{w:World}{own VR:Nat->Prop}(h: ∀ b,VR b->own b){x:List PV}{v:List Value}(hr:aV w own x v):aV w VR x v:=⟨hr.1,fun j x u a b=>(hr.2 j x u a b).less h⟩
theorem Gv{α:Type}{xs:List α}{R:α->Value->Prop}{vs:List Value}(h:Pw R xs vs): ∃ f:Nat->Value,∀ (j:Nat) (x:α),xs[j]? =some x->vs[j]? =some (f j)/\R x (f j):=by
 refine⟨fun j=>vs.getD j undef,fun j x hx=> ?_⟩;have Ti:j<vs.length:=by rw[h.1];exact(aag.1 hx).1
 have:vs[j]? =some (vs.getD j undef):=by simp[List.getD,abJ Ti]
 exact⟨this,h.2 j x _ hx this⟩
theorem EL{w:World}{own:Nat->Prop}{b o:Nat}{cur:Array Value}{ty:TypeId}{fz:Nat × Nat}{ps:List PV}(hh:w.heap[b]? =some (.cells cur ty fz))(hp:Pw (bi w own) ps (cur.toList.drop o |>.take ps.length))
  (ho:ps≠[]-> ¬ own b):bi w own (.box ps) (.pointer (some ⟨b,o,none⟩)):=by
 obtain⟨f,hf⟩:=Gv hp;refine .box b o f ho (fun j x hx=> ?_) fun j x hx=>(hf j x hx).2
 have h1:=(hf j x hx).1;rw[abi] at h1;split at h1
 ·rw[nU hh];simpa using h1
 ·cases h1
theorem PH{w:World}{own:Nat->Prop}{b o cap sz:Nat}{cur:Array Value}{ty:TypeId}{fz:Nat × Nat}{es:List (List PV)}(hh:w.heap[b]? =some (.cells cur ty fz))(TG: ∀ e∈es,e.length=sz)
  (hl:es.length<=cap) (hm:cap<=maxLen) (hp:Pw (bi w own) es.flatten ((cur.toList.drop o).take (es.length*sz))) (ho: ¬ own b):bi w own (.sl es) (.slice (some ⟨b,o,none⟩) es.length cap):=by
 obtain⟨f,hf⟩:=Gv hp;refine .sl b o cap sz f (fun _=>ho) hl hm TG (fun j x hx=> ?_) fun j x hx=>(hf j x hx).2
 have h1:=(hf j x hx).1;rw[abi] at h1;split at h1
 ·rw[nU hh];simpa using h1
 ·cases h1
theorem oO{α:Type}{sz:Nat}: ∀ {es:List (List α)},(∀ e∈es,e.length=sz)-> ∀ (n:Nat),(es.drop n).flatten=es.flatten.drop (n*sz):=by
 intro es
 induction es with
 |nil=>intro _ n;simp
 |cons e r ih=>
  intro h n;cases n with
  |zero=>simp
  |succ n=>
   simp only[List.drop_succ_cons,aaI];have h1:=h e (by simp);rw[ih (fun x hx=>h x (by simp[hx])),List.drop_append,List.drop_of_length_le (by rw[h1,aaz];omega:e.length<=(n+1)*sz),abK];congr 1;rw[h1,aaz];omega
theorem jS{α:Type}{sz:Nat}: ∀ {es:List (List α)},(∀ e∈es,e.length=sz)-> ∀ (n:Nat),(es.take n).flatten=es.flatten.take (n*sz):=by
 intro es
 induction es with
 |nil=>intro _ n;simp
 |cons e r ih=>
  intro h n;cases n with
  |zero=>simp
  |succ n=>
   simp only[List.take_succ_cons,aaI];have h1:=h e (by simp);rw[ih (fun x hx=>h x (by simp[hx])),List.take_append,aau (by rw[h1,aaz];omega:e.length<=(n+1)*sz)];congr 1;congr 1;rw[h1,aaz];omega
theorem pS{α:Type}{R:α->Value->Prop}{sz off len:Nat}{es:List (List α)}{cur:List Value}(TG: ∀ e∈es,e.length=sz)(h:Pw R es.flatten (cur.take (es.length*sz)))(hfit:off+len<=es.length):
  Pw R ((es.drop off).take len).flatten ((cur.drop (off*sz)).take (((es.drop off).take len).length*sz)):=by
 have aaP: ∀ e∈es.drop off,e.length=sz:=fun e he=>TG e (abL he)
 have hlen:((es.drop off).take len).length=len:=by simp;omega
 rw[hlen,jS aaP,oO TG];have h1:=(h.drop (off*sz)).take (len*sz);have h2:((cur.take (es.length*sz)).drop (off*sz)).take (len*sz)=(cur.drop (off*sz)).take (len*sz):=by
  rw[List.drop_take,List.take_take];congr 1;have:off*sz+len*sz<=es.length*sz:=by rw[<- aaz];exact aa6 _ hfit
  omega
 rw[h2] at h1;exact h1
theorem z6{α:Type}{R:α->Value->Prop}{sz:Nat}: ∀ {ps:List (List α)} {cur:List Value},(∀ e∈ps,e.length=sz)->ps.length*sz<=cur.length->
  (∀ (j:Nat) (e:List α),ps[j]? =some e->Pw R e ((cur.drop (j*sz)).take sz))->Pw R ps.flatten (cur.take (ps.length*sz)):=by
 intro ps
 induction ps with
 |nil=>intro cur _ _ _;exact⟨by simp,fun j x u a=>by simp at a⟩
 |cons e r ih=>
  intro cur h hl hp;simp only[aar,aaz,Nat.one_mul] at hl;have h0:=hp 0 e rfl;rw[abW,List.drop_zero] at h0;have h1:=ih (cur:=cur.drop sz) (fun x hx=>h x (by simp[hx])) (by simp;omega) fun j x hx=>by
   have:=hp (j+1) x (by simpa using hx);rw[aaz,Nat.one_mul] at this;rw[List.drop_drop,Nat.add_comm sz];exact this
  have h2:=h0.append h1;have h3:cur.take sz++(cur.drop sz).take (r.length*sz)=cur.take ((e::r).length*sz):=by
   rw[aar,aaz,Nat.one_mul,Nat.add_comm,List.take_add]
  rw[h3] at h2;exact h2
theorem vZ{α:Type}{R:α->Value->Prop}{sz i:Nat}{es:List (List α)}{e:List α}{cur:List Value}(TG: ∀ e∈es,e.length=sz)(h:Pw R es.flatten (cur.take (es.length*sz)))(he:es[i]? =some e):
  Pw R e ((cur.drop (i*sz)).take sz):=by
 have hi:i<es.length:=(aag.1 he).1;have h1:=pS (off:=i) (len:=1) TG h (by omega);have h0:((es.drop i).take 1)=[e]:=by
  rw[adF hi];have:=(aag.1 he).2;simp[this]
 rw[h0] at h1
 simpa using h1
theorem nT{α β:Type}{f:α->Option (β × List Nat)}: ∀ {xs:List α} {ys:List β} {r:List Nat},collect f xs=some (ys,r)->ys.length=xs.length:=by
 intro xs
 induction xs with
 |nil=>intro ys r h;simp[collect] at h;rw[h.1];rfl
 |cons x t ih=>
  intro ys r h;simp only[collect] at h;split at h
  ·rename_i b p bs q e1 e2;cases h;simp[ih e2]
  ·cases h
theorem qh{α β:Type}{f:α->Option (β × List Nat)}: ∀ {xs:List α} {ys:List β} {r:List Nat},collect f xs=some (ys,r)-> ∀ {j:Nat} {y:β},ys[j]? =some y-> ∃ x q,xs[j]? =some x/\f x=some (y,q)/\ ∀ i∈q,i∈r:=by
 intro xs
 induction xs with
 |nil=>intro ys r h j y hy;simp[collect] at h;rw[h.1] at hy;simp at hy
 |cons x t ih=>
  intro ys r h j y hy;simp only[collect] at h;split at h
  ·rename_i b p bs q e1 e2;cases h
   cases j with
   |zero=>simp at hy;subst hy;exact⟨x,p,rfl,e1,fun i hi=>by simp[hi]⟩
   |succ j=>
    simp at hy;obtain⟨x',q',h1,h2,h3⟩:=ih e2 hy;exact⟨x',q',by simpa using h1,h2,fun i hi=>by simp[h3 i hi]⟩
  ·cases h
theorem lw{m:Mem}(Tj:Ok w0 m){own:Nat->Prop}: ∀ (n:Nat) {c:C} {x:PV} {r:List Nat} {v:Value},cH m.Tc n c=some (x,r)->bH m c v->eX m own r->bi m.w own x v:=by
 intro n
 induction n with
 |zero=>intro c x r v h;simp[cH] at h
 |succ n ih=>
  intro c x r v h hr hs;have Y5: ∀ {cs:List C} {ps:List PV} {q:List Nat} {vs:List Value},collect (cH m.Tc n) cs=some (ps,q)->eX m own q->Pw (bH m) cs vs->Pw (bi m.w own) ps vs:=
   fun h1 h2 h3=>ib (R:=bH m) (T:=bi m.w own) (good:=eX m own) (fun a b h=>h.app) (fun a b r v e1 e2 e3=>ih e1 e2 e3) h1 h2 h3
  have YZ: ∀ {ps:List PV} {vs:List Value},aV m.w m.own ps vs->Pw (bi m.w own) ps vs:=fun h=>aV.pw.1 (h.less hs.1)
  unfold cH at h;cases c with
  |p y=>
   simp at h;obtain⟨rfl,rfl⟩:=h;obtain⟨hp⟩:=hr;exact hp.norm.less hs.1
  |Tn id g off=>
   cases hr with
   |Tn a hg ha=>
    simp only at h;split at h
    ·rename_i g' cs hb;split at h
     ·rename_i U0;split at h
      ·rename_i ps q hq;cases h
       have Tv:(m.Tc id).2=some (.var cs):=by rw[hb]
       have ha:=ha (by rw[hb];exact U0) (by rw[Tv];rfl);subst ha;obtain⟨cur,ty,hh,hc⟩:=Tj.obj id _ Tv;have hp:=Y5 hq ⟨hs.1,fun i hi=>hs.2 i (by simp[hi])⟩ (aW.pw.1 hc);refine EL hh ?_ fun _=>hs.2 id (by simp)
       have h1:=hp.drop off;have h2:(cur.toList.drop off).take (ps.drop off).length=cur.toList.drop off:=aau (by have:=h1.1;omega);rw[h2];exact h1
      ·cases h
     ·cases h
    ·rename_i g' ps hb;split at h
     ·rename_i U0;cases h
      have Tv:(m.Tc id).2=some (.fvar ps):=by rw[hb]
      have ha:=ha (by rw[hb];exact U0) (by rw[Tv];rfl);subst ha;obtain⟨cur,ty,fz,hh,hc,_⟩:=Tj.obj id _ Tv;refine EL hh ?_ fun _=>hs.2 id (by simp)
      have h1:=(YZ hc).drop off;have h2:(cur.toList.drop off).take (ps.drop off).length=cur.toList.drop off:=aau (by have:=h1.1;omega);rw[h2];exact h1
     ·cases h
    ·cases h
  |TS id g i off=>
   cases hr with
   |TS a hg ha=>
    have key: ∀ (ty sz:Nat) (es:List (List PV)) (e:List PV) (cur:Array Value) (fz:Nat × Nat),m.w.heap[m.σ id]? =some (.cells cur ty fz)->(∀ e∈es,e.length=sz)->es.length*sz<=cur.size->
      aV m.w m.own es.flatten (cur.toList.take (es.length*sz))->es[i]? =some e->a=⟨m.σ id,i*sz+off,none⟩-> ¬ own (m.σ id)->bi m.w own (.box (e.drop off)) (.pointer (some a)):=by
     intro ty sz es e cur fz hh TG hlen TT he haa TW;subst haa;have TS:=eU TG he;have hi:i<es.length:=(aag.1 he).1;have Vj:(i+1)*sz<=es.length*sz:=aa6 _ hi;have h1:=(pS (off:=i) (len:=1) TG (YZ TT) (by omega)).drop off;have h0:((es.drop i).take 1)=[e]:=by
      rw[adF hi];have:=(aag.1 he).2;simp[this]
     rw[h0] at h1;simp only[aaI,List.flatten_nil,abO,aar,aav,abC,Nat.one_mul] at h1;refine EL hh ?_ fun _=>TW
     have h2:(cur.toList.drop (i*sz+off)).take (e.drop off).length=(((cur.toList.drop (i*sz)).take sz).drop off):=by
      rw[List.drop_take,List.drop_drop,abY,TS]
     rw[h2];exact h1
    simp only at h;split at h
    ·rename_i g' ty sz es hb;split at h
     ·rename_i U0;simp only[aao,aa2] at h;obtain⟨e,he,rfl,rfl⟩:=h;have Tv:(m.Tc id).2=some (.arr ty sz es):=by rw[hb]
      obtain⟨cur,hh,Wi,TG,hl,hm,TP,TT⟩:=Tj.obj id _ Tv;exact key ty sz es e cur _ hh TG (by rw[TP];exact aa6 _ hl) TT he (ha sz (by rw[hb];exact U0) (by rw[hb];rfl)) (hs.2 id (by simp))
     ·cases h
    ·rename_i g' ty sz es hb;split at h
     ·rename_i U0;simp only[aao,aa2] at h;obtain⟨e,he,rfl,rfl⟩:=h;have Tv:(m.Tc id).2=some (.Ul ty sz es):=by rw[hb]
      obtain⟨cur,fz,hh,Wi,TG,hl,hm,TP,TT,_⟩:=Tj.obj id _ Tv;exact key ty sz es e cur _ hh TG (by rw[TP];exact aa6 _ hl) TT he (ha sz (by rw[hb];exact U0) (by rw[hb];rfl)) (hs.2 id (by simp))
     ·cases h
    ·cases h
  |hsl id g z off len=>
   cases hr with
   |hsl a cap hg hl hm ha=>
    have key: ∀ (ty sz:Nat) (es:List (List PV)) (cur:Array Value) (fz:Nat × Nat),m.w.heap[m.σ id]? =some (.cells cur ty fz)->(∀ e∈es,e.length=sz)->Pw (bi m.w own) es.flatten (cur.toList.take (es.length*sz))->
      off+len<=es.length->(off=0\/0<len->a=⟨m.σ id,off*sz,none⟩)-> ¬ own (m.σ id)->bi m.w own (.sl ((es.drop off).take len)) (.slice (some a) len cap):=by
     intro ty sz es cur fz hh TG TT hfit haa TW;by_cases hlen:len=0
     ·subst hlen;simp only[List.take_zero];exact .sl0 _ _ (fun h=>by cases h) hm
     ·have:=haa (.inr (by omega));subst this;have hle:((es.drop off).take len).length=len:=by simp;omega
      have h1:=PH (cap:=cap) (own:=own) (o:=off*sz) (es:=(es.drop off).take len) hh (sz:=sz) (fun e he=>TG e (abL (abM he))) (by omega) hm (pS TG TT hfit) TW;rw[hle] at h1;exact h1
    simp only at h;split at h
    ·rename_i g' ty sz es hb;split at h
     ·rename_i hc;cases h
      have Tv:(m.Tc id).2=some (.arr ty sz es):=by rw[hb]
      obtain⟨cur,hh,Wi,TG,hl',hm',TP,TT⟩:=Tj.obj id _ Tv;exact key ty sz es cur _ hh TG (YZ TT) hc.2 (by obtain⟨_,h2,_⟩:=ha sz (by rw[hb];exact hc.1) (by rw[hb];rfl);rename_i e1 _;exact e1▸h2) (hs.2 id (by simp))
     ·cases h
    ·rename_i g' ty sz es hb;split at h
     ·rename_i hc;cases h
      have Tv:(m.Tc id).2=some (.Ul ty sz es):=by rw[hb]
      obtain⟨cur,fz,hh,Wi,TG,hl',hm',TP,TT,_⟩:=Tj.obj id _ Tv;exact key ty sz es cur _ hh TG (YZ TT) hc.2 (by obtain⟨_,h2,_⟩:=ha sz (by rw[hb];exact hc.1) (by rw[hb];rfl);exact h2) (hs.2 id (by simp))
     ·cases h
    ·rename_i g' ty sz es hb;split at h
     ·rename_i hc;split at h
      ·rename_i ps q hq;cases h
       have Tv:(m.Tc id).2=some (.TV ty sz es):=by rw[hb]
       obtain⟨cur,hh,Wi,TG,hl',hm',TP,TT⟩:=Tj.obj id _ Tv;have adV:=pS TG (aW.pw.1 TT) hc.2;have aaP: ∀ e∈(es.drop off).take len,e.length=sz:=fun e he=>TG e (abL (abM he))
       have hle:((es.drop off).take len).length=len:=by simp;omega
       have TD:ps.length=len:=by rw[nT hq,hle]
       have hcap:len*sz<=(cur.toList.drop (off*sz)).length:=by
        simp;have h1:off*sz+len*sz<=es.length*sz:=by rw[<- aaz];exact aa6 _ hc.2
        have h2:es.length*sz<=m.κ id*sz:=aa6 _ hl';omega
       have Xs: ∀ (j:Nat) (e:List PV),ps[j]? =some e->Pw (bi m.w own) e (((cur.toList.drop (off*sz)).drop (j*sz)).take sz):=by
        intro j e he;obtain⟨x,q',h1,h2,h3⟩:=qh hq he;exact Y5 h2 ⟨hs.1,fun i hi=>hs.2 i (by simp[h3 i hi])⟩ (vZ aaP adV h1)
       have XH: ∀ e∈ps,e.length=sz:=by
        intro e he;obtain⟨j,hj⟩:=aaC he;have:=(Xs j e hj).1;have hjl:j<len:=by rw[<- TD];exact(aag.1 hj).1
        have h1:(j+1)*sz<=len*sz:=aa6 _ hjl;rw[aaz] at h1;simp at this hcap;omega
       by_cases hlen:len=0
       ·have:ps=[]:=List.eq_nil_of_length_eq_zero (by omega);subst this;subst hlen;exact .sl0 _ _ (fun h=>by cases h) hm
       ·obtain⟨_,h2,_⟩:=ha sz (by rw[hb];exact hc.1) (by rw[hb];rfl);rename_i e1 _;have haa:=h2 (.inr (by omega));subst haa;have U1:=PH (cap:=cap) (own:=own) (o:=off*sz) hh XH (by omega) hm (z6 XH (by rw[TD];exact hcap) Xs) (hs.2 id (by simp));rw[TD] at U1;exact U1
      ·cases h
     ·cases h
    ·cases h
  |T6 id g=>
   cases hr with
   |T6 r' hg ha=>
    have key: ∀ (ag:Bool) (es:List (PV × List PV)) (ents:Array MapEntry) (clock:Nat),m.w.heap[m.σ id]? =some (.map ents clock)->ents.size=es.length->
      (∀ (i:Nat) (q:PV) (v:List PV) (e:MapEntry),es[i]? =some (q,v)->ents[i]? =some e->bi m.w m.own q e.key/\ ∃ g:Array Value,(ag=true->e.val= .agg g)/\(ag=false-> #[e.val]=g)/\aV m.w m.own v g.toList)->
      ¬ own (m.σ id)->bi m.w own (.mp ag es) (.map (some (m.σ id))):=by
     intro ag es ents clock hh hl hc TW;have hch: ∃ G:Nat->Array Value,∀ (i:Nat) (q:PV) (v:List PV) (e:MapEntry),es[i]? =some (q,v)->ents[i]? =some e->(ag=true->e.val= .agg (G i))/\(ag=false-> #[e.val]=G i)/\aV m.w m.own v (G i).toList:=by
      refine⟨fun i=>match ents[i]? with|some e=>(match e.val with| .agg g=>if ag then g else #[e.val]|v=> #[v])|none=> #[],fun i q v e h1 h2=> ?_⟩;obtain⟨_,g,g1,g2,g3⟩:=hc i q v e h1 h2;simp only[h2];cases ag with
      |true=>have:=g1 rfl;simp[this];exact g3
      |false=>
       have:=g2 rfl;subst this;refine⟨(fun h=>by cases h),(fun _=> ?_),?_⟩
       ·cases e.val<;>rfl
       ·cases hv:e.val<;>simp only[hv] at g3<;>exact g3
     obtain⟨G,hG⟩:=hch;refine .mp (m.σ id) ents clock G TW hh hl (fun i q v e h1 h2=>((hc i q v e h1 h2).1).less hs.1) (fun i q v e h1 h2=> ?_) fun i q v j x u h1 h2 h3=> ?_
     ·obtain⟨a1,a2,a3⟩:=hG i q v e h1 h2;exact⟨by have:=a3.1;simpa using this,a1,a2⟩
     ·have Ti:i<ents.size:=by rw[hl];exact(aag.1 h1).1
      obtain⟨a1,a2,a3⟩:=hG i q v _ h1 (Array.getElem?_eq_getElem Ti);exact(a3.2 j x u h2 (by rw[Array.getElem?_toList];exact h3)).less hs.1
    simp only at h;split at h
    ·rename_i g' ag es hb;split at h
     ·rename_i U0;cases h
      have Tv:(m.Tc id).2=some (.map ag es):=by rw[hb]
      have ha:=ha (by rw[hb];exact U0) (by rw[Tv];rfl);subst ha;obtain⟨ents,clock,hh,hl,hc⟩:=Tj.obj id _ Tv;exact key ag es ents clock hh hl hc (hs.2 id (by simp))
     ·cases h
    ·rename_i g' ag es hb;split at h
     ·rename_i U0;cases h
      have Tv:(m.Tc id).2=some (.fmap ag es):=by rw[hb]
      have ha:=ha (by rw[hb];exact U0) (by rw[Tv];rfl);subst ha;obtain⟨ents,clock,hh,hl,hc,_⟩:=Tj.obj id _ Tv;exact key ag es ents clock hh hl hc (hs.2 id (by simp))
     ·cases h
    ·cases h
  |hfn f a b=>
   cases hr with
   |hfn A B hA hB YS VU=>
    simp only at h;split at h
    ·rename_i xa ra xb rb h1 h2;cases h
     obtain⟨s1,s2⟩:=hs.app;have p1:=Y5 (vs:=A.toList) h1 s1 ⟨by simpa using hA,fun j x u p q=>YS j x u p (by rw[<- Array.getElem?_toList];exact q)⟩;have p2:=Y5 (vs:=B.toList) h2 s2 ⟨by simpa using hB,fun j x u p q=>VU j x u p (by rw[<- Array.getElem?_toList];exact q)⟩;exact .fn A B (by have:=p1.1;simpa using this) (by have:=p2.1;simpa using this) (fun j x u p q=>p1.2 j x u p (by rw[Array.getElem?_toList];exact q)) fun j x u p q=>p2.2 j x u p (by rw[Array.getElem?_toList];exact q)
    ·cases h
end Go.Abs
namespace Go.Abs
variable {P:Program} {w0:World}
theorem Ix{Tc:aB}{all:List Nat}: ∀ {l:List Nat} {u:List jv},o9 Tc all l=some u->
  (∀ e∈u,e.1∈l/\ ∃ x,sD Tc all e.1=some x/\e∈x)/\ ∀ id∈l,∃ x,sD Tc all id=some x/\ ∀ e∈x,e∈u:=by
 intro l
 induction l with
 |nil=>intro u h;simp[o9] at h;subst h;exact⟨fun e h=>by simp at h,fun id h=>by simp at h⟩
 |cons i r ih=>
  intro u h;simp only[o9] at h;split at h
  ·rename_i a b h1 h2;cases h
   obtain⟨g1,g2⟩:=ih h2;have afW: ∀ e∈a,e.1=i:=by
    intro e he;unfold sD at h1;split at h1<;>first
     |(cases h1;simp at he;subst he;rfl)
     |(split at h1
       ·split at h1
        ·cases h1;simp at he;subst he;rfl
        ·cases h1
       ·cases h1)
     |(cases h1;simp at he)
     |cases h1
   refine⟨fun e he=> ?_,fun id Ts=> ?_⟩
   ·rcases aaM.1 he with he|he
    ·exact⟨by simp[afW e he],a,by rw[afW e he];exact h1,he⟩
    ·obtain⟨k1,k2⟩:=g1 e he;exact⟨by simp[k1],k2⟩
   ·rcases aat.1 Ts with rfl|Ts
    ·exact⟨a,h1,fun e he=>by simp[he]⟩
    ·obtain⟨x,k1,k2⟩:=g2 id Ts;exact⟨x,k1,fun e he=>by simp[k2 e he]⟩
  ·cases h
def zj(Tc:aB)(all:List Nat):Ob->Ob->Prop
 | .var cs, .fvar ps=> ∃ r,collect (cH Tc bN) cs=some (ps,r)/\ ∀ i∈r,i∈all
 | .arr ty sz es, .Ul WE TY Vk=>WE=ty/\TY=sz/\Vk=es
 | .TV ty sz es, .Ul WE TY ps=>WE=ty/\TY=sz/\ ∃ r,collect (collect (cH Tc bN)) es=some (ps,r)/\ ∀ i∈r,i∈all
 | .map ag es, .fmap Xv Vk=>Xv=ag/\Vk=es
 |_,_=>False
theorem zj.facts{Tc:aB}{all:List Nat}{o o':Ob}(h:zj Tc all o o')(g:Nat):o.ec=true/\o'.ec=false/\im (g,some o')=im (g,some o):=by
 cases o<;>cases o'<;>simp only[zj] at h<;>first
  |exact h.elim
  |exact⟨rfl,rfl,rfl⟩
  |exact⟨rfl,rfl,by simp[im,h.2.1]⟩
theorem yK{Tc:aB}{all:List Nat}{id:Nat}{x:List jv}(h:sD Tc all id=some x):
  (∃ o,(Tc id).2=some o/\o.ec=false/\x=[])\/ ∃ o o',(Tc id).2=some o/\zj Tc all o o'/\x=[(id,((Tc id).1,some o'))]:=by
 unfold sD at h;split at h
 ·rename_i g cs hb;split at h
  ·rename_i ps r hc;split at h
   ·rename_i Ty;cases h
    refine .inr ⟨.var cs, .fvar ps,by rw[hb],⟨r,hc,fun i hi=> ?_⟩,by rw[hb]⟩;have:=aaJ.1 Ty i hi
    simpa using this
   ·cases h
  ·cases h
 ·rename_i g ty sz es hb;cases h;exact .inr ⟨.arr ty sz es, .Ul ty sz es,by rw[hb],⟨rfl,rfl,rfl⟩,by rw[hb]⟩
 ·rename_i g ty sz es hb;split at h
  ·rename_i ps r hc;split at h
   ·rename_i Ty;cases h
    refine .inr ⟨.TV ty sz es, .Ul ty sz ps,by rw[hb],⟨rfl,rfl,r,hc,fun i hi=> ?_⟩,by rw[hb]⟩;have:=aaJ.1 Ty i hi
    simpa using this
   ·cases h
  ·cases h
 ·rename_i g ag es hb;cases h;exact .inr ⟨.map ag es, .fmap ag es,by rw[hb],⟨rfl,rfl⟩,by rw[hb]⟩
 ·cases h
 ·rename_i y n1 n2 n3 n4 n5;cases h
  cases hb:Tc id with
  |mk g o=>
   cases o with
   |none=>exact(n5 g hb).elim
   |some o=>
    refine .inl ⟨o,rfl,?_,rfl⟩;cases o with
    |var cs=>exact(n1 g cs hb).elim
    |arr ty sz es=>exact(n2 g ty sz es hb).elim
    |TV ty sz es=>exact(n3 g ty sz es hb).elim
    |map ag es=>exact(n4 g ag es hb).elim
    |_=>rfl
def Mem.with(m:Mem)(u:List jv):Mem:={m with Tc:=app u m.Tc}
theorem jE{m:Mem}{ids:List Nat}{u:List jv}(h:DN m.Tc ids=some u)(id:Nat):
  ((m.with u).Tc id=m.Tc id/\(id∈ids-> ∃ o,(m.Tc id).2=some o/\o.ec=false))\/
  (id∈ids/\ ∃ o o',(m.Tc id).2=some o/\zj m.Tc ids o o'/\(m.with u).Tc id=((m.Tc id).1,some o')):=by
 obtain⟨h1,h2⟩:=Ix h;rcases Mn u m.Tc id with ⟨e1,e2⟩|⟨e,he,e1,e2⟩
 ·refine .inl ⟨e1,fun Ts=> ?_⟩;obtain⟨x,hx,hxu⟩:=h2 id Ts;rcases yK hx with ⟨o,a,b,_⟩|⟨o,o',a,b,c⟩
  ·exact⟨o,a,b⟩
  ·exact(e2 (id,(m.Tc id).fst,some o') (hxu _ (by rw[c];simp)) rfl).elim
 ·obtain⟨k1,x,k2,k3⟩:=h1 e he;rw[e1] at k1 k2;rcases yK k2 with ⟨o,a,b,c⟩|⟨o,o',a,b,c⟩
  ·rw[c] at k3;simp at k3
  ·rw[c] at k3;simp at k3;refine .inr ⟨k1,o,o',a,b,?_⟩;simp only[Mem.with];rw[e2,k3]
theorem As{m:Mem}{ids:List Nat}{u:List jv}(h:DN m.Tc ids=some u){c:Nat}(hc:(m.with u).own c):m.own c:=by
 rcases hc with hc|⟨id,o,h1,h2,h3⟩
 ·exact .inl hc
 ·rcases jE h id with ⟨e,_⟩|⟨_,p,q,a,b,e⟩
  ·rw[e] at h1;exact .inr ⟨id,o,h1,h2,h3⟩
  ·rw[e] at h1;cases h1
   rw[(b.facts 0).2.1] at h2;cases h2
theorem qa{m:Mem}(Tj:Ok w0 m){ids:List Nat}{u:List jv}(h:DN m.Tc ids=some u):eX m (m.with u).own ids:=by
 refine⟨fun b hb=>As h hb,fun id Ts hc=> ?_⟩;rcases jE h id with ⟨e,hn⟩|⟨_,o,o',a,b,e⟩
 ·obtain⟨o,ho,hm⟩:=hn Ts;exact(Tj.obj id o ho).calm hm (As h hc)
 ·rcases hc with hc|⟨Ud,q,h1,h2,h3⟩
  ·exact(Tj.Tu id o a (b.facts 0).1).2 hc
  ·by_cases hi:Ud=id
   ·subst hi;rw[e] at h1;cases h1
    rw[(b.facts 0).2.1] at h2;cases h2
   ·rcases jE h Ud with ⟨e',_⟩|⟨_,p',q',a',b',e'⟩
    ·rw[e'] at h1;exact hi (Tj.inj Ud id q o h1 h2 a (b.facts 0).1 h3)
    ·rw[e'] at h1;cases h1
     rw[(b'.facts 0).2.1] at h2;cases h2
theorem Fi{m:Mem}{ids:List Nat}{u:List jv}(h:DN m.Tc ids=some u):Ev m (m.with u) where
 os:=rfl
 tape:=rfl
 output:=rfl
 size:=aal _
 keep _ _ _:=rfl
 ec c _ hc:=by
  obtain⟨id,o,h1,h2,h3⟩:=hc;rcases jE h id with ⟨e,_⟩|⟨_,p,q,a,b,e⟩
  ·rw[e] at h1;exact⟨id,o,h1,h2,h3⟩
  ·rw[e] at h1;cases h1
   rw[(b.facts 0).2.1] at h2;cases h2
 less c _ hn hc:=hn (As h hc)
 gen id:=by
  rcases jE h id with ⟨e,_⟩|⟨_,p,q,a,b,e⟩<;>rw[e]<;>exact aal _
 ref id he hs:=by
  rcases jE h id with ⟨e,_⟩|⟨_,p,q,a,b,e⟩
  ·rw[e] at hs ⊢;exact⟨hs,rfl,rfl,rfl⟩
  ·rw[e] at hs ⊢;refine⟨by rw[a];rfl,rfl,rfl,?_⟩;have h1:m.Tc id=((m.Tc id).1,some p):=by rw[<- a]
   rw[(b.facts (m.Tc id).1).2.2,<- h1]
theorem Lx{m:Mem}(Tj:Ok w0 m){ids:List Nat}{u:List jv}(h:DN m.Tc ids=some u):Ok w0 (m.with u) where
 os:=Tj.os
 tape:=Tj.tape
 output:=Tj.output
 size:=Tj.size
 base:=Tj.base
 obj id o ho:=by
  have Uf:=Fi h;have Wq:=qa Tj h;rcases jE h id with ⟨e,_⟩|⟨Ts,p,q,a,b,e⟩
  ·rw[e] at ho;exact(Tj.obj id o ho).ev Uf.zero rfl rfl rfl
  ·rw[e] at ho;cases ho
   have TW:=Wq.2 id Ts;have afn: ∀ r:List Nat,(∀ i∈r,i∈ids)->eX m (m.with u).own r:=fun r hr=>⟨Wq.1,fun i hi=>Wq.2 i (hr i hi)⟩
   have YV:=Tj.obj id p a;cases p<;>cases o<;>simp only[zj] at b<;>first
    |exact b.elim
    |skip
   ·obtain⟨r,hc,hr⟩:=b;obtain⟨cur,ty,hh,TP⟩:=YV;exact⟨cur,ty,(0,0),hh,aV.pw.2 (ib (R:=bH m) (T:=bi m.w (m.with u).own) (good:=eX m (m.with u).own) (fun a b h=>h.app) (fun a b r v e1 e2 e3=>lw Tj _ e1 e2 e3) hc (afn r hr) (aW.pw.1 TP)),TW⟩
   ·obtain⟨rfl,rfl,rfl⟩:=b;obtain⟨cur,hh,Wi,TG,hl,hm,TP,TT⟩:=YV;exact⟨cur,(0,0),hh,Wi,TG,hl,hm,TP,TT.less Wq.1,TW⟩
   ·obtain⟨rfl,rfl,r,hc,hr⟩:=b;obtain⟨cur,hh,Wi,TG,hl,hm,TP,TT⟩:=YV;rename_i es _ sz ps;have TD:ps.length=es.length:=nT hc;have hcap:ps.length*sz<=cur.toList.length:=by
     have h2:es.length*sz<=m.κ id*sz:=aa6 _ hl;simp;rw[TD];omega
    have Xs: ∀ (j:Nat) (e:List PV),ps[j]? =some e->Pw (bi m.w (m.with u).own) e ((cur.toList.drop (j*sz)).take sz):=by
     intro j e he;obtain⟨x,q',h1,h2,h3⟩:=qh hc he;exact ib (R:=bH m) (T:=bi m.w (m.with u).own) (good:=eX m (m.with u).own) (fun a b h=>h.app) (fun a b r v e1 e2 e3=>lw Tj _ e1 e2 e3) h2 (afn q' fun i hi=>hr i (h3 i hi)) (vZ TG (aW.pw.1 TT) h1)
    have XH: ∀ e∈ps,e.length=sz:=by
     intro e he;obtain⟨j,hj⟩:=aaC he;have:=(Xs j e hj).1;have hjl:j<ps.length:=(aag.1 hj).1;have h1:(j+1)*sz<=ps.length*sz:=aa6 _ hjl;rw[aaz] at h1;simp at this hcap;omega
    exact⟨cur,(0,0),hh,Wi,XH,by rw[TD];exact hl,hm,TP,aV.pw.2 (z6 XH hcap Xs),TW⟩
   ·obtain⟨rfl,rfl⟩:=b;obtain⟨ents,clock,hh,hl,hc⟩:=YV;exact⟨ents,clock,hh,hl,fun i q v e h1 h2=>let ⟨p,g,g1,g2,g3⟩:=hc i q v e h1 h2;⟨p.less Wq.1,g,g1,g2,g3.less Wq.1⟩,TW⟩
 Tu id o ho hm:=by
  rcases jE h id with ⟨e,_⟩|⟨_,p,q,a,b,e⟩
  ·rw[e] at ho;exact Tj.Tu id o ho hm
  ·rw[e] at ho;cases ho
   rw[(b.facts 0).2.1] at hm;cases hm
 frlt:=Tj.frlt
 inj id Ud o o' h1 m1 h2 m2 he:=by
  rcases jE h id with ⟨e,_⟩|⟨_,p,q,a,b,e⟩
  ·rcases jE h Ud with ⟨e',_⟩|⟨_,p',q',a',b',e'⟩
   ·rw[e] at h1;rw[e'] at h2;exact Tj.inj id Ud o o' h1 m1 h2 m2 he
   ·rw[e'] at h2;cases h2;rw[(b'.facts 0).2.1] at m2;cases m2
  ·rw[e] at h1;cases h1;rw[(b.facts 0).2.1] at m1;cases m1
end Go.Abs
namespace Go.Abs
variable {P:Program} {w0:World}
def Mem.dp(m:Mem)(w':World)(s c k:Nat)(o:Ob):Mem:=(m.later w' (· =c)).install s c k o
section
variable {m:Mem} {w':World} {s c k:Nat} {o:Ob} (hg:eQ m.w w') (UP:m.w.heap.size<=c) (VH:c<w'.heap.size)
theorem lN(Tj:Ok w0 m)(UP:m.w.heap.size<=c):(m.dp w' s c k o).fr=m.fr:=by
 funext x;simp only[Mem.dp,Mem.install,Mem.later];apply propext;constructor
 ·rintro ⟨h|h,h2⟩
  ·exact h
  ·exact(h2 h).elim
 ·intro h;exact⟨.inl h,fun e=>by have:=Tj.frlt x h;omega⟩
include hg UP
theorem lO:Ev m (m.dp w' s c k o):=
 mq (nA hg fun x hx=>by subst hx;exact UP) (.inr rfl) (.inl UP)
include VH
theorem lM(Tj:Ok w0 m)(ho:pC (m.dp w' s c k o) s o):Ok w0 (m.dp w' s c k o):=
 ml (qY Tj hg fun x hx=>by subst hx;exact⟨UP,VH⟩) (.inr rfl) (aa5 Tj.size UP) ho
end
theorem ko{m:Mem}{w':World}{s c k:Nat}{o:Ob}:(m.dp w' s c k o).σ s=c:=by simp[Mem.dp,Mem.install,af]
theorem dH{m:Mem}{w':World}{s c k:Nat}{o:Ob}:(m.dp w' s c k o).κ s=k:=by simp[Mem.dp,Mem.install,af]
theorem vX{m:Mem}{w':World}{s c k:Nat}{o:Ob}:(m.dp w' s c k o).Tc=app [(s,((m.Tc s).1+1,some o))] m.Tc:=rfl
theorem CJ{m:Mem}{w':World}{s c k:Nat}{o:Ob}:(m.dp w' s c k o).w=w':=rfl
theorem mv{m:Mem}{w':World}{s c cap ty sz:Nat}{es:List (List PV)}{n:Nat}(hn:n<=cap)(hm:cap<=maxLen):
  aZ (m.dp w' s c cap (.arr ty sz es)) (.one (.hsl s ((m.Tc s).1+1) sz 0 n)) (.slice (some ⟨c,0,none⟩) n cap):=by
 refine aZ.one.2 (.hsl _ _ ?_ hn hm fun z h1 h2=> ?_)
 ·simp[Mem.dp,Mem.install,Mem.later,af]
 ·have:im ((m.dp w' s c cap (.arr ty sz es)).Tc s)=some sz:=by simp[Mem.dp,Mem.install,af,im]
  rw[this] at h2;cases h2
  refine⟨rfl,fun _=> ?_,fun _=>dH.symm⟩;rw[ko,abW]
theorem CK{m:Mem}{w':World}{s c cap ty sz:Nat}{es:List (List C)}{n:Nat}(hn:n<=cap)(hm:cap<=maxLen):
  aZ (m.dp w' s c cap (.TV ty sz es)) (.one (.hsl s ((m.Tc s).1+1) sz 0 n)) (.slice (some ⟨c,0,none⟩) n cap):=by
 refine aZ.one.2 (.hsl _ _ ?_ hn hm fun z h1 h2=> ?_)
 ·simp[Mem.dp,Mem.install,Mem.later,af]
 ·have:im ((m.dp w' s c cap (.TV ty sz es)).Tc s)=some sz:=by simp[Mem.dp,Mem.install,af,im]
  rw[this] at h2;cases h2
  refine⟨rfl,fun _=> ?_,fun _=>dH.symm⟩;rw[ko,abW]
theorem oQ{t e:TypeId}{sz bytes:Nat}{z:List PV}(h:pL P t=some (e,sz,bytes,z)):
  ∃ i v,P.underlying t=some (.slice e)/\P.info? e=some i/\i.size=sz/\i.bytes=bytes/\(0<sz/\0<bytes)/\i.zero=some v/\v.cells.size=sz/\z.length=sz/\ ∀ w own,aV w own z v.cells.toList:=by
 unfold pL at h;split at h
 ·rename_i e' ht;split at h
  ·rename_i i z' hi hz;split at h
   ·rename_i T3;cases h
    obtain⟨v,i',h1,h2,h3,h4,h5⟩:=lp hz;rw[hi] at h1;cases h1
    exact⟨i,v,ht,hi,rfl,rfl,T3,h2,h3,h4,h5⟩
   ·cases h
  ·cases h
 ·cases h
theorem Ah{R:PV->Value->Prop}{z:List PV}{v:Array Value}{sz n:Nat}(hz:Pw R z v.toList)(TG:v.size=sz)(T3:0<sz):
  Pw R (List.replicate n z).flatten ((madeCells v (n*sz)).toList.take (n*sz)):=by
 have hzl:z.length=sz:=by have:=hz.1;simp at this;omega
 have Ty: ∀ e∈List.replicate n z,e.length=sz:=fun e he=>by rw[adG he];exact hzl
 have hlen:(madeCells v (n*sz)).toList.length=n*sz:=by simp[size_madeCells]
 rw[aau (by omega)];refine⟨by rw[hlen,lQ Ty];simp,fun j x u p q=> ?_⟩;have hj:j<n*sz:=by have:=(aag.1 q).1;omega
 have hdiv:j/sz<n:=by rw[Nat.div_lt_iff_lt_mul T3];exact hj
 have ab9:j%sz<sz:=aax _ T3;have he:(List.replicate n z)[j/sz]? =some z:=by simp[hdiv]
 have h1:=mw Ty he ab9;rw[show j/sz*sz+j%sz=j by rw[Nat.mul_comm];exact Nat.div_add_mod j sz] at h1;rw[h1] at p;have h2:(madeCells v (n*sz)).toList[j]? =some v[j%sz]! :=by
  unfold madeCells;simp[hj,TG]
 rw[h2] at q;cases q
 refine hz.2 (j%sz) x _ p ?_;have:j%sz<v.size:=by omega
 simp[this]
section
variable {m:Mem} {env:Env} {a:Act} {o:Oper} (Tj:Ok w0 m) (hr:fS m env a.tmps)
include Tj hr
theorem BC{t e:TypeId}{l c:Operand}{l' c':aC}{s sz bytes n:Nat}{z:List PV}(ho:o.op= .makeSlice t l c)(he:pL P t=some (e,sz,bytes,z))(hl:bp l=some l')(hc:bp c=some c')
  (hn:xE (ev env l')=some n) (hm:xE (ev env c')=some n) (TQ:n*bytes<=room):
  ef P w0 a.eval o m (.one (.hsl s ((m.Tc s).1+1) sz 0 n)) [(s,((m.Tc s).1+1,some (.arr e sz (List.replicate n z))))]:=by
 obtain⟨i,v,ht,hi,hs,hb,⟨T3,XM⟩,hz,XD,hzl,TT⟩:=oQ he;obtain⟨k1,h1⟩:=iH hn (aE hl hr);obtain⟨k2,h2⟩:=iH hm (aE hc hr);unfold room at TQ;have aee:n<=maxLen:=by
  have:n<=n*bytes:=Nat.le_mul_of_pos_right _ XM;simp only[maxLen];omega
 have afF:(n:Int)<=9223372036854775807:=by simp[maxLen] at aee;omega
 have hbb:(i.bytes:Int)*(n:Int)<=281474976710656:=by
  have:((i.bytes*n:Nat):Int)<=281474976710656:=by rw[hb,Nat.mul_comm];omega
  rwa[Int.natCast_mul] at this
 have Uo:=run_make (P:=P) m.w t e i v ht hi hz k1 k2 n n (by omega) (Int.le_refl _) hbb afF;simp only[abm,hs] at Uo
 let m':=m.dp (m.w.alloc (.cells (madeCells v.cells (n*sz)) e)) s m.w.heap.size n (.arr e sz (List.replicate n z))
 have Uf:Ev m m':=lO (eQ.alloc _ _) (aal _);have WG:pC m' s (.arr e sz (List.replicate n z)):=by
  refine⟨_,by rw[ko];exact heap_alloc_new m.w _,T3,fun x hx=> ?_,?_,?_,?_,?_⟩
  ·rw[adG hx];exact hzl
  ·rw[dH];simp
  ·rw[dH];exact aee
  ·rw[dH,size_madeCells]
  ·rw[List.length_replicate];exact aV.pw.2 (Ah (aV.pw.1 (TT _ _)) XD T3)
 refine⟨_,m', .inl ?_,lM (eQ.alloc _ _) (aal _) (by simp) Tj WG,Uf,lN Tj (aal _),rfl,mv (aal _) aee⟩;simp[execOp,ho,h1,h2,Uo];rfl
theorem wS{lo hi:Option Operand}{lo' hi':Option aC}{n cap l h:Nat}{b:Bool}(Uy:t7 lo=some lo')(hhi:t7 hi=some hi')(hl:ek env 0 lo'=some l)(hh:ek env n hi'=some h)
  (hlh:l<=h) (hcap:h<=cap):(Instr.sliceBounds b n cap (lo.map a.eval) (hi.map a.eval) none).run P m.w= .ok (l,h,cap) m.w:=by
 have _u0:=Tj;have hhv:(match hi.map a.eval with|some v=> ∃ k,v=Value.int k (h:Int)|none=>h=n):=by
  cases hi with
  |none=>simp[t7] at hhi;subst hhi;simp[ek] at hh;simpa using hh.symm
  |some x=>
   simp only[t7,aao] at hhi;obtain⟨y,hy,rfl⟩:=hhi;exact iH hh (aE hy hr)
 have Wg:(match lo.map a.eval with|some v=> ∃ k,v=Value.int k (l:Int)|none=>l=0):=by
  cases lo with
  |none=>simp[t7] at Uy;subst Uy;simp[ek] at hl;simpa using hl.symm
  |some x=>
   simp only[t7,aao] at Uy;obtain⟨y,hy,rfl⟩:=Uy;exact iH hl (aE hy hr)
 generalize lo.map a.eval=LO at Wg;generalize hi.map a.eval=HI at hhv;have UP:(h:Int)<=(cap:Int):=by omega
 have VH:(l:Int)<=(h:Int):=by omega
 cases LO with
 |none=>
  simp only at Wg;subst Wg;cases HI with
  |none=>simp only at hhv;subst hhv;simp[Instr.sliceBounds]
  |some v=>obtain⟨k,rfl⟩:=hhv;simp[Instr.sliceBounds,Instr.sliceBound,asIntOf,hcap]
 |some u=>
  obtain⟨k,rfl⟩:=Wg;cases HI with
  |none=>simp only at hhv;subst hhv;simp[Instr.sliceBounds,Instr.sliceBound,asIntOf,hlh]
  |some v=>obtain⟨k',rfl⟩:=hhv;simp[Instr.sliceBounds,Instr.sliceBound,asIntOf,hcap,hlh]
theorem Ei{t:TypeId}{x:Operand}{lo hi:Option Operand}{x':aC}{lo' hi':Option aC}{s:ByteArray}{l h:Nat}(ho:o.op= .slice t x lo hi none)(ht:P.underlying t=some .string)
  (hx:bp x=some x') (Uy:t7 lo=some lo') (hhi:t7 hi=some hi') (hs:ev env x'= .one (.p (.str s))) (hl:ek env 0 lo'=some l) (hh:ek env s.size hi'=some h) (hlh:l<=h) (hcap:h<=s.size):
  ef P w0 a.eval o m (.one (.p (.str (s.extract l h)))) []:=by
 have h1:=aE hx hr;rw[hs] at h1;have hb:=wS (P:=P) (w0:=w0) (Tj:=Tj) (hr:=hr) (b:=false) Uy hhi hl hh hlh hcap;refine .calm Tj ?_ (jK (.str _));simp[execOp,ho,rg h1,Instr.sliceAt,Instr.slice,run_underlying ht,hb]
theorem HE{t e:TypeId}{x:Operand}{lo hi:Option Operand}{x':aC}{lo' hi':Option aC}{sz n l h:Nat}{v:V}(ho:o.op= .slice t x lo hi none)(ht:P.underlying t=some (.slice e))(TG:ly P e=some sz)
  (hx:bp x=some x') (Uy:t7 lo=some lo') (hhi:t7 hi=some hi') (hn:tZ (ev env x')=some n) (hl:ek env 0 lo'=some l) (hh:ek env n hi'=some h)
  (hv:fV (ev env x') sz l h= .done v [] []):ef P w0 a.eval o m v []:=by
 have h1:=aE hx hr;unfold fV at hv;split at hv
 ·cases hv
 ·rename_i hlh;have hlh:l<=h:=by simpa using hlh
  have run: ∀ (ad:Option Addr) (cap:Nat),a.eval x= .slice ad n cap->h<=cap->(execOp a.eval o).run P m.w= .ok (.value (.slice (if cap=l then ad else ad.map (·.add (l*sz))) (h - l) (cap - l))) m.w:=by
   intro ad cap nJ hcap;have hb:=wS (P:=P) (w0:=w0) (Tj:=Tj) (hr:=hr) (b:=true) Uy hhi hl hh hlh hcap;simp[execOp,ho,nJ,Instr.sliceAt,Instr.slice,run_underlying ht,hb,oE TG]
  obtain⟨ad0,cap0,hsl,hncap,VF⟩:=Co (Tj:=Tj) (hr:=hr) hn h1;split at hv
  ·rename_i he;split at hv
   ·rename_i h0;cases hv
    rw[he] at h1;have:=rh h1;subst h0;have Ys:l=0:=by omega
    subst Ys;rw[this] at hsl;cases hsl
    refine .calm Tj (run none 0 this (aal _)) ?_;simp;exact jK .nils
   ·cases hv
  ·rename_i es he;split at hv
   ·rename_i hc;cases hv
    rw[he] at h1 hn;simp[tZ] at hn;subst hn;obtain⟨hp⟩:bH m _ (a.eval x):=h1;generalize hb:a.eval x=b at hp;generalize Ux:(PV.sl es)=pv at hp;cases hp<;>cases Ux
    ·rename_i ad cap hnn hm;simp at hc;have hh0:h=0:=by omega
     subst hh0;have Ys:l=0:=by omega
     subst Ys;refine .calm Tj (run ad cap hb (aah _)) (jK ?_);simp only[List.drop_nil,List.take_nil,Nat.sub_zero];refine .sl0 _ _ (fun h=> ?_) hm;split at h
     ·exact hnn h
     ·cases ad with
      |none=>exact hnn rfl
      |some ad=>simp at h
    ·rename_i b' o' cap TY f hm Vh hl' UU Wt hrr;refine .calm Tj (run _ cap hb (by omega)) (jK ?_);by_cases Ti:l=h
     ·subst Ti;simp only[Nat.sub_self,List.take_zero];refine .sl0 _ _ (fun h=> ?_) (by omega);split at h<;>simp at h
     ·have hlen:((es.drop l).take (h - l)).length=h - l:=by simp;omega
      have UL:es≠[]:=fun e=>by subst e;simp at hc;omega
      have adU:TY=sz:=by
       obtain⟨e0,r0,rfl⟩:=List.exists_cons_of_ne_nil UL;have g1:=UU e0 (by simp);have g2:=hc.2;simp[gI] at g2;omega
      subst adU;rw[if_neg (by omega)];simp only[aa4,Addr.add_lit];have TM:=bi.sl (w:=m.w) (own:=m.own) (es:=(es.drop l).take (h - l)) b' (o'+l*TY) (cap - l) TY (fun j=>f (l*TY+j)) (fun TA=>Vh fun e0=>TA ?_) (by omega) (by omega) (fun e he=>UU e (abL (abM he))) ?_ ?_
      ·rw[hlen] at TM;exact TM
      ·apply List.eq_nil_of_length_eq_zero;rw[jS (fun e he=>UU e (abL he)),oO UU,e0];simp
      ·intro j z hz;rw[jS (fun e he=>UU e (abL he)),oO UU,abi] at hz;split at hz
       ·rw[act] at hz;rw[acs];exact Wt _ z hz
       ·cases hz
      ·intro j z hz;rw[jS (fun e he=>UU e (abL he)),oO UU,abi] at hz;split at hz
       ·rw[act] at hz;exact hrr _ z hz
       ·cases hz
   ·cases hv
  ·rename_i id g z off len he;split at hv
   ·rename_i hc;cases hv
    rw[he] at h1 hn;simp[tZ] at hn;subst hn;have UD:bH m _ (a.eval x):=h1;generalize hb:a.eval x=b at UD;cases UD with
    |hsl ad cap hg hll hm hh'=>
     refine .calm Tj (run _ cap hb (by omega)) ?_;have aaQ: ∃ ad',(if cap=l then some ad else (some ad).map (·.add (l*sz)))=some ad'/\(cap≠l->ad'=ad.add (l*sz))/\(l=0->ad'=ad):=by
      by_cases Uk:cap=l
      ·exact⟨ad,by simp[Uk],fun h=>(h Uk).elim,fun _=>rfl⟩
      ·exact⟨ad.add (l*sz),by simp[Uk],fun _=>rfl,fun h=>by subst h;simp[Addr.add]⟩
     obtain⟨ad',e1,e2,e3⟩:=aaQ;rw[e1];refine aZ.one.2 (.hsl _ _ hg (by omega) (by omega) fun s g1 g2=> ?_);obtain⟨f1,f2,f3⟩:=hh' s g1 g2;refine⟨f1,fun hor=> ?_,fun h0=> ?_⟩
     ·by_cases Ys:l=0
      ·subst Ys;rw[e3 rfl,ab6];refine f2 ?_;rcases hor with h|h
       ·exact .inl (by omega)
       ·exact .inr (by omega)
      ·have:0<h - l:=by rcases hor with h|h<;>omega
       rw[e2 (by omega),f2 (.inr (by omega)),Addr.add_lit,f1,hc.2,aaz]
     ·have:off=0/\l=0:=by omega
      rw[this.2,Nat.sub_zero];exact f3 this.1
   ·cases hv
  ·cases hv
end
end Go.Abs
namespace Go.Abs
variable {P:Program} {w0:World}
theorem Lz(off:Nat): ∀ (vs:List Value) (i:Nat) (cells:Array Value),off+i+vs.length<=cells.size->
  ((vs.zipIdx i).foldl (fun cs (x:Value × Nat)=>cs.setIfInBounds (off+x.2) x.1) cells).toList=bc cells.toList (off+i) vs:=by
 intro vs
 induction vs with
 |nil=>intro i cells _;simp[bc]
 |cons v r ih=>
  intro i cells h;simp only[aar] at h;simp only[List.zipIdx_cons,abN];rw[ih (i+1) _ (by simp;omega)];unfold bc;rw[Array.toList_setIfInBounds];have Ti:off+i<cells.toList.length:=by simp;omega
  have e1:(cells.toList.set (off+i) v).take (off+(i+1))=cells.toList.take (off+i)++[v]:=by
   rw[show off+(i+1)=(off+i)+1 by omega,List.take_succ_eq_append_getElem (by simpa using Ti),List.take_set,List.set_eq_of_length_le (by simp;omega)];simp
  have e2:(cells.toList.set (off+i) v).drop (off+(i+1)+r.length)=cells.toList.drop (off+(i+1)+r.length):=by
   rw[List.drop_set_of_lt (by omega)]
  rw[e1,e2];simp only[aar,adm,List.singleton_append];congr 3;omega
theorem yP{place:Nat->Option (Nat × Nat)}{i off n:Nat}{v:Value}{rest:List (Nat × Value)}{cells:Array Value}(hp:place i=some (off,n))(hv:v.cells.size=n)(hfit:off+n<=cells.size):
  ∃ TB,Instr.fill place cells ((i,v)::rest)=Instr.fill place TB rest/\TB.toList=bc cells.toList off v.cells.toList:=by
 refine⟨v.cells.zipIdx.foldl (fun cs (x:Value × Nat)=>cs.setIfInBounds (off+x.2) x.1) cells,?_,?_⟩
 ·simp only[Instr.fill,hp];rw[if_neg (by simp[hv];omega)]
 ·rw[<- Array.foldl_toList,Array.toList_zipIdx,Lz off v.cells.toList 0 cells (by simp;omega)];simp
theorem CT{m:Mem}{env:Env}{a:Act}(hr:fS m env a.tmps){place:Nat->Option (Nat × Nat)}{zl:Nat}: ∀ {ps:List (Nat × Operand)} {qs:List (Nat × Nat × aC)} {rs:List (Nat × List C)} {cs:List C} {cells:Array Value},
  nk place zl ps=some qs->jA env qs=some rs->aW m cs cells.toList->cs.length=zl->
  ∃ TB,Instr.fill place cells (ps.map fun x=>(x.1,a.eval x.2))=some TB/\aW m (fill cs rs) TB.toList:=by
 intro ps
 induction ps with
 |nil=>
  intro qs rs cs cells h1 h2 hc hl;simp[nk] at h1;subst h1;simp[jA] at h2;subst h2;exact⟨cells,by simp[Instr.fill],by simpa [fill] using hc⟩
 |cons p t ih=>
  intro qs rs cs cells h1 h2 hc hl;obtain⟨i,x⟩:=p;simp only[nk] at h1;split at h1
  ·rename_i off n a' q TD hx hq;split at h1
   ·rename_i hfit;cases h1
    simp only[jA] at h2;split at h2
    ·rename_i cs' q' hcv hq';split at h2
     ·rename_i hlen;cases h2
      have hv:=qj hcv (aE hx hr);have TG:(a.eval x).cells.size=n:=by have:=hv.1;simp at this;omega
      have Uk:=hc.1;simp at Uk;obtain⟨TB,e1,e2⟩:=yP (rest:=t.map fun x=>(x.1,a.eval x.2)) TD TG (by omega:off+n<=cells.size);simp only[aas,fill];rw[e1];refine ih hq hq' ?_ (by rw[l7 (by omega)];exact hl);rw[e2];exact aW.pw.2 ((aW.pw.1 hc).bc (aW.pw.1 hv) off)
     ·cases h2
    ·cases h2
   ·cases h1
  ·cases h1
theorem mapM_ok{α β:Type}{f:α->Sem β}{g:α->β}{w:World}: ∀ {l:List α},(∀ x∈l,(f x).run P w= .ok (g x) w)->(l.mapM f).run P w= .ok (l.map g) w:=by
 intro l
 induction l with
 |nil=>intro _;simp
 |cons x r ih=>
  intro h;simp[List.mapM_cons,h x (by simp),ih fun y hy=>h y (by simp[hy])]
theorem IH{m:Mem}{env:Env}{a:Act}(hr:fS m env a.tmps){place:Nat->Option (Nat × Nat)}{sz:Nat}(ad6: ∀ k,place k=some (k*sz,sz)): ∀ {ps:List (Nat × Operand)} {as:List aC} {es:List (List C)} {k:Nat} {done:List Value} {cells:Array Value},
  sL k ps=some as->kr env sz as=some es->done.length=k*sz->cells.toList.take (k*sz)=done->cells.size=(k+as.length)*sz->
  ∃ TB,Instr.fill place cells (ps.map fun x=>(x.1,a.eval x.2))=some TB/\ ∃ vs,TB.toList=done++vs/\aW m es.flatten vs/\(∀ e∈es,e.length=sz)/\es.length=as.length:=by
 intro ps
 induction ps with
 |nil=>
  intro as es k done cells h1 h2 hd ht hs;simp[sL] at h1;subst h1;simp[kr] at h2;subst h2;refine⟨cells,by simp[Instr.fill],[],?_,⟨by simp,fun j x u p=>by simp at p⟩,fun e he=>by simp at he,rfl⟩;rw[<- ht,abO,aau (by simp at hs ⊢;omega)]
 |cons p t ih=>
  intro as es k done cells h1 h2 hd ht hs;obtain⟨i,x⟩:=p;simp only[sL] at h1;split at h1
  ·rename_i a' q hx hq;split at h1
   ·rename_i hik;cases h1
    subst hik;simp only[kr] at h2;split at h2
    ·rename_i cs' q' hcv hq';split at h2
     ·rename_i hlen;cases h2
      have hv:=qj hcv (aE hx hr);have TG:(a.eval x).cells.size=sz:=by have:=hv.1;simp at this;omega
      simp only[aar] at hs;have Ur:cells.size=i*sz+sz+q.length*sz:=by rw[hs,aaz,aaz];omega
      obtain⟨TB,e1,e2⟩:=yP (rest:=t.map fun x=>(x.1,a.eval x.2)) (ad6 i) TG (by omega:i*sz+sz<=cells.size);have Vp:TB.toList.length=cells.size:=by rw[e2,l7 (by simp;omega)];simp
      obtain⟨aeB,f1,vs,f2,f3,f4,f5⟩:=ih (k:=i+1) (done:=done++(a.eval x).cells.toList) (cells:=TB) hq hq' (by simp[hd,TG,aaz]) (by
       rw[e2];unfold bc;rw[ht,List.take_append_of_le_length (by simp[hd,TG,aaz])];rw[aau (by simp[hd,TG,aaz])]) (by simp at Vp;rw[Vp,Ur,aaz,aaz];omega)
      simp only[aas];rw[e1];refine⟨aeB,f1,(a.eval x).cells.toList++vs,by rw[f2,adm],?_,?_,by simp[f5]⟩
      ·simp only[aaI];exact aW.pw.2 ((aW.pw.1 hv).append (aW.pw.1 f3))
      ·intro e he;rcases aat.1 he with rfl|he
       ·exact hlen
       ·exact f4 e he
     ·cases h2
    ·cases h2
   ·cases h1
  ·cases h1
theorem Ht{m:Mem}: ∀ {es:List (List C)} {qs:List (List PV)} {vs:List Value} {sz:Nat},qu es=some qs->(∀ e∈es,e.length=sz)->aW m es.flatten vs->aV m.w m.own qs.flatten vs/\(∀ e∈qs,e.length=sz)/\qs.length=es.length:=by
 intro es
 induction es with
 |nil=>
  intro qs vs sz h _ hc;simp[qu] at h;subst h;exact⟨⟨hc.1,fun j x u p=>by simp at p⟩,fun e he=>by simp at he,rfl⟩
 |cons e r ih=>
  intro qs vs sz h TG hc;simp only[qu] at h;split at h
  ·rename_i v VD h1 h2;cases h
   simp only[aaI] at hc;have TS:=TG e (by simp);have UP:=(aW.pw.1 hc).take e.length;have VH:=(aW.pw.1 hc).drop e.length;simp only[List.take_left,List.drop_left] at UP VH;have g1:=mX h1 (aW.pw.2 UP);obtain⟨g2,g3,g4⟩:=ih h2 (fun x hx=>TG x (by simp[hx])) (aW.pw.2 VH);have Xr:v.length=sz:=by
    have a1:=g1.1;have a2:=UP.1;omega
   refine⟨?_,?_,by simp[g4]⟩
   ·have:=(aV.pw.1 g1).append (aV.pw.1 g2);rw[ado] at this;exact aV.pw.2 this
   ·intro y hy;rcases aat.1 hy with rfl|hy
    ·exact Xr
    ·exact g3 y hy
  ·cases h
section
variable {m:Mem} {env:Env} {a:Act} {o:Oper} (Tj:Ok w0 m) (hr:fS m env a.tmps)
include Tj hr
theorem rY{t:TypeId}{ps:Array (Nat × Operand)}{fs:Array Field}{z:List PV}{qs:List (Nat × Nat × aC)}{rs:List (Nat × List C)}(ho:o.op= .build t ps)(ht:P.underlying t=some (.struct fs))(hz:pE P t=some z)
  (Ty:fs.all (fun f=>(P.info? f.type).isSome)=true) (hp:nk (fun i=>(fs[i]?).map fun f=>(f.offset,P.cellsOf f.type)) z.length ps.toList=some qs) (hv:jA env qs=some rs):
  ef P w0 a.eval o m (.agg (fill (z.map .p) rs)) []:=by
 obtain⟨v,i,hi,hiv,hs,hl,TT⟩:=lp hz;obtain⟨TB,h1,h2⟩:=CT hr hp hv (TT m.w m.own).MW (by simp);refine .calm (x:= .agg TB) Tj ?_ (aZ.agg.2 ⟨_,rfl,h2⟩);have UB:(fs.mapM (fun f=>do pure (f.offset,<- sizeOf f.type):Field->Sem (Nat × Nat))).run P m.w= .ok (fs.map fun f=>(f.offset,P.cellsOf f.type)) m.w:=by
  rw[Array.mapM_eq_mapM_toList];have:=mapM_ok (P:=P) (f:=(fun f=>do pure (f.offset,<- sizeOf f.type):Field->Sem (Nat × Nat))) (g:=fun f=>(f.offset,P.cellsOf f.type)) (w:=m.w) (l:=fs.toList) (fun f hf=>by
   have:=Array.all_eq_true_iff_forall_mem.1 Ty f (by simpa using hf);cases hfi:P.info? f.type with
   |none=>rw[hfi] at this;cases this
   |some i=>simp[sizeOf,typeInfo,hfi,Program.cellsOf])
  rw[Sem.run_map,this];simp only[Result.andThen_ok];congr 1;apply Array.ext';simp
 have Vy:Instr.fill (fun x=>(fs.map fun f=>(f.offset,P.cellsOf f.type))[x]?) v.cells (ps.map fun x=>(x.1,a.eval x.2)).toList=some TB:=by
  simpa using h1
 simp only[execOp,ho,Instr.build,zeroValue,typeInfo,Sem.run_bind,run_program,Result.andThen_ok,hi,hiv,Sem.run_pure,run_underlying ht,UB,Vy]
theorem tX{t e:TypeId}{n:Nat}{ps:Array (Nat × Operand)}{i:TypeInfo}{z:List PV}{qs:List (Nat × Nat × aC)}{rs:List (Nat × List C)}(ho:o.op= .build t ps)(ht:P.underlying t=some (.array n e))(hz:pE P t=some z)
  (hie:P.info? e=some i) (hp:nk (fun k=>some (k*i.size,i.size)) z.length ps.toList=some qs) (hv:jA env qs=some rs):
  ef P w0 a.eval o m (.agg (fill (z.map .p) rs)) []:=by
 obtain⟨v,i',hi,hiv,hs,hl,TT⟩:=lp hz;obtain⟨TB,h1,h2⟩:=CT hr hp hv (TT m.w m.own).MW (by simp);refine .calm (x:= .agg TB) Tj ?_ (aZ.agg.2 ⟨_,rfl,h2⟩);have Vy:Instr.fill (fun k=>some (k*i.size,i.size)) v.cells (ps.map fun x=>(x.1,a.eval x.2)).toList=some TB:=by simpa using h1
 simp only[execOp,ho,Instr.build,zeroValue,sizeOf,typeInfo,Sem.run_bind,run_program,Result.andThen_ok,hi,hie,hiv,Sem.run_pure,run_underlying ht,Vy]
theorem El{t e:TypeId}{n sz bytes s:Nat}{z:List PV}{ps:Array (Nat × Operand)}{as:List aC}{es:List (List C)}(ho:o.op= .buildSlice t n ps)(he:pL P t=some (e,sz,bytes,z))(hp:sL 0 ps.toList=some as)
  (hn:as.length=n) (af4:n*sz<=16777216) (hv:kr env sz as=some es):
  (∀ qs,qu es=some qs->ef P w0 a.eval o m (.one (.hsl s ((m.Tc s).1+1) sz 0 es.length)) [(s,((m.Tc s).1+1,some (.arr e sz qs)))])/\
  ef P w0 a.eval o m (.one (.hsl s ((m.Tc s).1+1) sz 0 es.length)) [(s,((m.Tc s).1+1,some (.TV e sz es)))]:=by
 obtain⟨i,v,ht,hi,hs,hb,⟨T3,_⟩,hiz,XD,hzl,TT⟩:=oQ he;subst hn;obtain⟨TB,f1,vs,f2,f3,f4,f5⟩:=IH (place:=fun k=>some (k*sz,sz)) (done:=[]) (cells:=(Array.range (as.length*sz)).map ((if as.length*sz=0 then #[] else v.cells)[· %(if as.length*sz=0 then #[] else v.cells).size]!)) hr (fun _=>rfl) hp hv (by simp) (by simp) (by simp);have Uo:(execOp a.eval o).run P m.w= .ok (.value (.slice (some ⟨m.w.heap.size,0,none⟩) es.length es.length)) (m.w.alloc (.cells TB e)):=by
  have Vy:Instr.fill (fun k=>some (k*sz,sz)) ((Array.range (as.length*sz)).map ((if as.length*sz=0 then #[] else v.cells)[· %(if as.length*sz=0 then #[] else v.cells).size]!)) (ps.map fun x=>(x.1,a.eval x.2)).toList=some TB:=by simpa using f1
  have hnb: ¬ (16777216<as.length*sz):=by omega
  have afD: ¬ (as.length*sz>2 ^ 24):=by omega
  by_cases h0:as.length*sz=0
  ·simp only[if_pos h0] at Vy;simp only[execOp,ho,Instr.buildSlice,Sem.run_bind,run_underlying ht,Result.andThen_ok,sizeOf,typeInfo,run_program,hi,Sem.run_pure,hs,if_neg afD,if_pos h0,Vy,newRow,run_newObj,f5];rfl
  ·simp only[if_neg h0] at Vy;simp only[execOp,ho,Instr.buildSlice,Sem.run_bind,run_underlying ht,Result.andThen_ok,sizeOf,typeInfo,run_program,hi,Sem.run_pure,hs,if_neg afD,if_neg h0,zeroValue,hiz,Vy,newRow,run_newObj,f5];rfl
 simp at f2;have Uk:TB.size=es.length*sz:=by
  have h1:=f3.1;rw[lQ f4] at h1;have:TB.toList.length=vs.length:=by rw[f2]
  simp at this;omega
 have aaY:es.length<=maxLen:=by
  have:es.length<=es.length*sz:=Nat.le_mul_of_pos_right _ T3;simp only[maxLen];rw[f5] at this ⊢;omega
 have adi:TB.toList.take (es.length*sz)=vs:=by rw[aau (by simp;omega),f2]
 constructor
 ·intro qs hq;have Uf:Ev m (m.dp (m.w.alloc (.cells TB e)) s m.w.heap.size es.length (.arr e sz qs)):=lO (eQ.alloc _ _) (aal _);obtain⟨g1,g2,g3⟩:=Ht hq f4 (f3.ev Uf.zero);refine⟨_,m.dp (m.w.alloc (.cells TB e)) s m.w.heap.size es.length (.arr e sz qs), .inl Uo,lM (eQ.alloc _ _) (aal _) (by simp) Tj ?_,Uf,lN Tj (aal _),rfl,mv (aal _) aaY⟩
  exact⟨TB,by rw[ko];exact heap_alloc_new m.w _,T3,g2,by rw[dH,g3];exact aal _,by rw[dH];exact aaY,by rw[dH,Uk],by rw[g3,adi];exact g1⟩
 ·have Uf:Ev m (m.dp (m.w.alloc (.cells TB e)) s m.w.heap.size es.length (.TV e sz es)):=lO (eQ.alloc _ _) (aal _);refine⟨_,m.dp (m.w.alloc (.cells TB e)) s m.w.heap.size es.length (.TV e sz es), .inl Uo,lM (eQ.alloc _ _) (aal _) (by simp) Tj ?_,Uf,lN Tj (aal _),rfl,CK (aal _) aaY⟩;exact⟨TB,by rw[ko];exact heap_alloc_new m.w _,T3,f4,by rw[dH];exact aal _,by rw[dH];exact aaY,by rw[dH,Uk],by rw[adi];exact f3.ev Uf.zero⟩
end
end Go.Abs
namespace Go.Abs
variable {P:Program} {w0:World}
theorem ql(a b:List jv)(Tc:aB):app (a++b) Tc=app b (app a Tc):=by
 induction a generalizing Tc with
 |nil=>rfl
 |cons x r ih=>obtain⟨i,o⟩:=x;simp only[List.cons_append,app];exact ih _
theorem ES{m:Mem}{fr':Nat->Prop}(hf: ∀ c,fr' c->m.fr c){c:Nat}(h:({m with fr:=fr'}:Mem).own c):m.own c:=by
 rcases h with h|h
 ·exact .inl (hf c h)
 ·exact .inr h
theorem yu{m:Mem}{fr':Nat->Prop}(hf: ∀ c,fr' c->m.fr c):Ev m {m with fr:=fr'}:=
 ⟨rfl,rfl,rfl,aal _,fun _ _ _=>rfl,fun _ _ h=>h,fun _ _ hn h=>hn (ES hf h),fun _=>aal _,fun _ _ h=>⟨h,rfl,rfl,rfl⟩⟩
theorem Im{m:Mem}{fr':Nat->Prop}(h:Ok w0 m)(hf: ∀ c,fr' c->m.fr c):Ok w0 {m with fr:=fr'} where
 os:=h.os
 tape:=h.tape
 output:=h.output
 size:=h.size
 base:=h.base
 obj id o ho:=(h.obj id o ho).ev (yu hf).zero rfl rfl rfl
 Tu id o ho hm:=⟨(h.Tu id o ho hm).1,fun hc=>(h.Tu id o ho hm).2 (hf _ hc)⟩
 frlt c hc:=h.frlt c (hf c hc)
 inj:=h.inj
theorem BH{m:Mem}{w':World}{c:Nat}(h:Ok w0 m)(hc:m.fr c)(Uy:w0.heap.size<=c)(hos:w'.os=m.w.os)(ht:w'.tape=m.w.tape)(Uj:w'.output=m.w.output)(hs:w'.heap.size=m.w.heap.size)
  (hk: ∀ x,x≠c->w'.heap[x]? =m.w.heap[x]?):Ok w0 {m with w:=w'} where
 os:=hos.trans h.os
 tape:=ht.trans h.tape
 output:=Uj.trans h.output
 size:=aa5 h.size (Nat.le_of_eq hs.symm)
 base x hx:=(hk x (by omega)).trans (h.base x hx)
 obj id o ho:=by
  have TA:m.σ id≠c:=by
   intro e;cases hm:o.ec with
   |true=>exact(h.Tu id o ho hm).2 (e▸hc)
   |false=>exact(h.obj id o ho).calm hm (.inl (e▸hc))
  exact(h.obj id o ho).ev (m':={m with w:=w'}) ⟨fun x _ hn=>⟨hk x fun e=>hn (.inl (e▸hc)),hn⟩,fun _=>aal _,fun _ _ h=>⟨h,rfl,rfl,rfl⟩⟩ rfl rfl (hk _ TA)
 Tu:=h.Tu
 frlt x hx:=by rw[show({m with w:=w'}:Mem).w.heap.size=m.w.heap.size from hs];exact h.frlt x hx
 inj:=h.inj
theorem tH{m:Mem}(Tj:Ok w0 m){own:Nat->Prop}{x:V}{v:Value}{new:List (List PV)}{rd fr:List Nat}(h:bh m.Tc x=some (new,rd,fr))(hv:aZ m x v)(hs:eX m own fr):
  ∃ ax cx,v= .slice ax new.length cx/\(∀ z,kA x=some z-> ∀ e∈new,e.length=z)/\
   (new≠[]-> ∃ b o news,ax=some ⟨b,o,none⟩/\Pw (bi m.w own) new.flatten news/\ ∀ (j:Nat) (u:Value),news[j]? =some u->m.w.cell? ⟨b,o+j,none⟩=some u):=by
 have row: ∀ (c off sz len:Nat) (cur:Array Value) (ty:TypeId) (fz:Nat × Nat) (ps:List (List PV)),m.w.heap[c]? =some (.cells cur ty fz)->Pw (bi m.w own) ps.flatten ((cur.toList.drop (off*sz)).take (ps.length*sz))->
   ∃ b o news,some (⟨c,off*sz,none⟩:Addr)=some ⟨b,o,none⟩/\Pw (bi m.w own) ps.flatten news/\ ∀ (j:Nat) (u:Value),news[j]? =some u->m.w.cell? ⟨b,o+j,none⟩=some u:=by
  intro c off sz len cur ty fz ps hh hp;refine⟨c,off*sz,_,rfl,hp,fun j u hj=> ?_⟩;rw[abi] at hj;split at hj
  ·rw[nU hh];simpa using hj
  ·cases hj
 unfold bh at h;split at h
 ·cases h
  exact⟨none,0,rh hv,fun z hz=>by simp[kA] at hz,fun h=>(h rfl).elim⟩
 ·rename_i es;cases h
  obtain⟨hp⟩:bH m _ v:=hv;generalize Ux:(PV.sl new)=pv at hp;cases hp<;>cases Ux
  ·exact⟨_,_,rfl,fun z hz=>by simp[kA] at hz,fun h=>(h rfl).elim⟩
  ·rename_i b o cap sz f hm ho hl TG Wt hrr;refine⟨_,_,rfl,fun z hz=>by simp[kA] at hz,fun _=>⟨b,o,(List.range new.flatten.length).map f,rfl,⟨by simp,fun j y u p q=> ?_⟩,fun j u q=> ?_⟩⟩
   ·have hj:j<new.flatten.length:=(aag.1 p).1;rw[aaA,abH hj] at q;simp at q;subst q;exact(hrr j y p).less hs.1
   ·have hj:j<new.flatten.length:=by have:=(aag.1 q).1;simpa using this
    rw[aaA,abH hj] at q;simp at q;subst q;exact Wt j _ (abJ hj)
 ·rename_i id g z off len;have UD:bH m _ v:=hv;cases UD with
  |hsl ad cap hg hl hm hh'=>
   split at h
   ·rename_i g' ty sz es hb;split at h
    ·rename_i hc;cases h
     have Tv:(m.Tc id).2=some (.arr ty sz es):=by rw[hb]
     obtain⟨cur,hh,Wi,TG,VG,Wk,TP,TT⟩:=Tj.obj id _ Tv;obtain⟨e1,e2,e3⟩:=hh' sz (by rw[hb];exact hc.1) (by rw[hb];rfl);have hlen:((es.drop off).take len).length=len:=by simp;omega
     refine⟨some ad,cap,by rw[hlen],fun z' Yq e he=> ?_,fun TA=> ?_⟩
     ·simp[kA] at Yq;subst Yq;rw[<- e1];exact TG e (abL (abM he))
     ·have:0<len:=by
       cases len with
       |zero=>simp at TA
       |succ n=>omega
      rw[e2 (.inr this)];exact row (m.σ id) off sz len cur ty _ _ hh (pS TG (aV.pw.1 (TT.less hs.1)) hc.2)
    ·cases h
   ·rename_i g' ty sz es hb;split at h
    ·rename_i hc;cases h
     have Tv:(m.Tc id).2=some (.Ul ty sz es):=by rw[hb]
     obtain⟨cur,fz,hh,Wi,TG,VG,Wk,TP,TT,_⟩:=Tj.obj id _ Tv;obtain⟨e1,e2,e3⟩:=hh' sz (by rw[hb];exact hc.1) (by rw[hb];rfl);have hlen:((es.drop off).take len).length=len:=by simp;omega
     refine⟨some ad,cap,by rw[hlen],fun z' Yq e he=> ?_,fun TA=> ?_⟩
     ·simp[kA] at Yq;subst Yq;rw[<- e1];exact TG e (abL (abM he))
     ·have:0<len:=by
       cases len with
       |zero=>simp at TA
       |succ n=>omega
      rw[e2 (.inr this)];exact row (m.σ id) off sz len cur ty _ _ hh (pS TG (aV.pw.1 (TT.less hs.1)) hc.2)
    ·cases h
   ·rename_i g' ty sz es hb;split at h
    ·rename_i hc;split at h
     ·rename_i ps q hq;cases h
      have Tv:(m.Tc id).2=some (.TV ty sz es):=by rw[hb]
      obtain⟨cur,hh,Wi,TG,VG,Wk,TP,TT⟩:=Tj.obj id _ Tv;obtain⟨e1,e2,e3⟩:=hh' sz (by rw[hb];exact hc.1) (by rw[hb];rfl);have hle:((es.drop off).take len).length=len:=by simp;omega
      have TD:new.length=len:=by rw[nT hq,hle]
      have adV:=pS TG (aW.pw.1 TT) hc.2;have aaP: ∀ e∈(es.drop off).take len,e.length=sz:=fun e he=>TG e (abL (abM he))
      have hcap:len*sz<=(cur.toList.drop (off*sz)).length:=by
       simp;have h1:off*sz+len*sz<=es.length*sz:=by rw[<- aaz];exact aa6 _ hc.2
       have h2:es.length*sz<=m.κ id*sz:=aa6 _ VG;omega
      have Xs: ∀ (j:Nat) (e:List PV),new[j]? =some e->Pw (bi m.w own) e (((cur.toList.drop (off*sz)).drop (j*sz)).take sz):=by
       intro j e he;obtain⟨x,q',h1,h2,h3⟩:=qh hq he;exact ib (R:=bH m) (T:=bi m.w own) (good:=eX m own) (fun a b h=>h.app) (fun a b r v e1 e2 e3=>lw Tj _ e1 e2 e3) h2 ⟨hs.1,fun i hi=>hs.2 i (h3 i hi)⟩ (vZ aaP adV h1)
      have XH: ∀ e∈new,e.length=sz:=by
       intro e he;obtain⟨j,hj⟩:=aaC he;have:=(Xs j e hj).1;have hjl:j<len:=by rw[<- TD];exact(aag.1 hj).1
       have h1:(j+1)*sz<=len*sz:=aa6 _ hjl;rw[aaz] at h1;simp at this hcap;omega
      refine⟨some ad,cap,by rw[TD],fun z' Yq e he=> ?_,fun TA=> ?_⟩
      ·simp[kA] at Yq;subst Yq;rw[<- e1];exact XH e he
      ·have:0<len:=by
        rw[<- TD];exact abn.2 TA
       rw[e2 (.inr this)];refine row (m.σ id) off sz len cur ty _ _ hh ?_;rw[TD];have:=z6 XH (by rw[TD];exact hcap) Xs;rw[TD] at this;exact this
     ·cases h
    ·cases h
   ·split at h
    ·rename_i Ys;cases h
     exact⟨some ad,cap,by rw[Ys];rfl,fun z' _ e he=>by simp at he,fun h=>(h rfl).elim⟩
    ·cases h
 ·cases h
end Go.Abs
namespace Go.Abs
variable {P:Program} {w0:World}
theorem QC{w:World}{own:Nat->Prop}{xs:List PV}{vs:List Value}(h:Pw (bi w own) xs vs): ∀ u∈vs,u.oneCell'=true:=by
 intro v hv;obtain⟨j,hj⟩:=aaC hv;have Ti:j<xs.length:=by rw[<- h.1];exact(aag.1 hj).1
 exact(h.2 j _ v (abJ Ti) hj).qQ
theorem uw{m:Mem}{ids:List Nat}{u:List jv}(h:DN m.Tc ids=some u)(id:Nat):(app u m.Tc id).1=(m.Tc id).1:=by
 rcases jE h id with ⟨e,_⟩|⟨_,p,q,a,b,e⟩
 ·exact congrArg Prod.fst e
 ·have:=congrArg Prod.fst e;exact this
theorem ry{m:Mem}{id:Nat}{o:Ob}{w':World}(ho:(m.Tc id).2=some o)(hm:o.ec=true)(hos:w'.os=m.w.os)(ht:w'.tape=m.w.tape)(Uj:w'.output=m.w.output)(hs:w'.heap.size=m.w.heap.size)
  (hk: ∀ x,x≠m.σ id->w'.heap[x]? =m.w.heap[x]?):Ev m {m.eP id with w:=w'} where
 os:=hos
 tape:=ht
 output:=Uj
 size:=Nat.le_of_eq hs.symm
 keep c _ hn:=hk c fun e=>hn ⟨id,o,ho,hm,e.symm⟩
 ec:=(lT ho hm).ec
 less:=(lT ho hm).less
 gen:=(lT ho hm).gen
 ref:=(lT ho hm).ref
theorem QB{m:Mem}(Tj:Ok w0 m){id s:Nat}{ob:Ob}{w':World}{Xn:Array Value}{ty sz:Nat}{Vk:List (List PV)}(ho:(m.Tc id).2=some ob)(hm:ob.ec=true)(T3:0<sz)(hos:w'.os=m.w.os)(ht:w'.tape=m.w.tape)(Uj:w'.output=m.w.output)(hs:w'.heap.size=m.w.heap.size)
  (hk: ∀ x,x≠m.σ id->w'.heap[x]? =m.w.heap[x]?) (hh:w'.heap[m.σ id]? =some (.cells Xn ty (0,0))) (TG: ∀ e∈Vk,e.length=sz) (hl:Vk.length<=m.κ id) (YE:m.κ id<=maxLen) (TP:Xn.size=m.κ id*sz)
  (hp:Pw (bi m.w m.own) Vk.flatten (Xn.toList.take (Vk.length*sz))):
  ∃ m',m'.w=w'/\Ok w0 m'/\Ev m m'/\m'.fr=m.fr/\m'.Tc=fD (fD m.Tc id ((m.Tc id).1,none)) s ((m.Tc s).1+1,some (.arr ty sz Vk))/\
   aZ m' (.one (.hsl s ((m.Tc s).1+1) sz 0 Vk.length)) (.slice (some ⟨m.σ id,0,none⟩) Vk.length (m.κ id)):=by
 have aaj:=ry ho hm hos ht Uj hs hk;have Uy:=(Tj.Tu id ob ho hm).1;have ahX:Ok w0 {m.eP id with w:=w'}:=BH (m:=m.eP id) (CZ Tj ho hm) (.inr rfl) Uy hos ht Uj hs hk;have Uf:Ev m ((({m.eP id with w:=w'}:Mem)).install s (m.σ id) (m.κ id) (.arr ty sz Vk)):=mq aaj (.inr rfl) (.inr ⟨id,ob,ho,hm,rfl⟩);have hgs:((({m.eP id with w:=w'}:Mem)).Tc s).1=(m.Tc s).1:=by
  simp only[Mem.eP,af];split
  ·rename_i e;subst e;rfl
  ·rfl
 have hσ:((({m.eP id with w:=w'}:Mem)).install s (m.σ id) (m.κ id) (.arr ty sz Vk)).σ s=m.σ id:=by simp[Mem.install,af]
 have hκ:((({m.eP id with w:=w'}:Mem)).install s (m.σ id) (m.κ id) (.arr ty sz Vk)).κ s=m.κ id:=by simp[Mem.install,af]
 refine⟨_,rfl,ml ahX (.inr rfl) Uy ?_,Uf,?_,?_,?_⟩
 ·exact⟨Xn,by rw[hσ];exact hh,T3,TG,by rw[hκ];exact hl,by rw[hκ];exact YE,by rw[hκ];exact TP,aV.ev Uf.zero (aV.pw.2 hp)⟩
 ·funext x;simp only[Mem.install,Mem.eP];apply propext;constructor
  ·rintro ⟨h|h,h2⟩
   ·exact h
   ·exact(h2 h).elim
  ·intro h;exact⟨.inl h,fun e=>(Tj.Tu id ob ho hm).2 (e▸h)⟩
 ·simp only[Mem.install];rw[hgs];rfl
 ·refine aZ.one.2 (.hsl _ _ ?_ hl YE fun z h1 h2=> ?_)
  ·simp only[Mem.install,af,if_true];rw[hgs];exact aal _
  ·have:im (((({m.eP id with w:=w'}:Mem)).install s (m.σ id) (m.κ id) (.arr ty sz Vk)).Tc s)=some sz:=by simp[Mem.install,af,im]
   rw[this] at h2;cases h2
   exact⟨rfl,fun _=>by rw[hσ,abW],fun _=>hκ.symm⟩
section
variable {m:Mem} {env:Env} {a:Act} {o:Oper} (Tj:Ok w0 m) (hr:fS m env a.tmps)
include Tj hr
theorem Em{c:Call}{d x:Operand}{d' x':aC}{t e:TypeId}{s sz bytes:Nat}{z:List PV}{v:V}{u:List jv}{rd:List Nat}(ho:o.op= .call c)(hc:c.callee= .builtin .append)(has:c.args= #[d,x])(VB:c.argTypes= #[t,t])
  (he:pL P t=some (e,sz,bytes,z)) (hd:bp d=some d') (hx:bp x=some x') (hv:ac m.Tc s e sz bytes (ev env d') (ev env x')= .done v u rd):ef P w0 a.eval o m v u:=by
 obtain⟨i,zv,ht,hi,hs,hb,⟨T3,XM⟩,hiz,hzs,hzl,TT⟩:=oQ he;have YR:=aE hd hr;have Vg:=aE hx hr;have run: ∀ (y:Value) (w':World),(Builtin.append_ #[t,t] o.type #[a.eval d,a.eval x]).run P m.w= .ok y w'->(execOp a.eval o).run P m.w= .ok (.value y) w':=by
  intro y w' h;simp[execOp,ho,resolve,hc,has,VB,invoke,builtin,h]
 unfold ac at hv;split at hv
 ·cases hv
 ·rename_i new rd' fr TS;split at hv
  ·cases hv
  ·rename_i ahG;split at hv
   ·cases hv
   ·rename_i fu Yt;have U5:=Lx Tj Yt;have VV:=Fi Yt;have Wq:=qa Tj Yt;obtain⟨ax,cx,hxv,ahH,XJ⟩:=tH Tj TS Vg Wq;have Ty: ∀ e∈new,e.length=sz:=by
     have:kA (ev env x')=some sz\/gI sz new=true:=Classical.not_not.1 ahG;rcases this with h|h
     ·exact ahH sz h
     ·intro e he;have:=aaJ.1 h e he
      simpa using this
    have aa9:new.flatten.length=new.length*sz:=lQ Ty;split at hv
    · -- nil
     rename_i hds;rw[hds] at YR;have hdv:=rh YR;split at hv
     ·rename_i UY;cases hv
      refine⟨.slice none 0 0,m.with u, .inl (run _ _ ?_),U5,VV,rfl,rfl,jK .nils⟩;rw[hdv,hxv,UY];cases ax<;>simp[Builtin.append_,run_underlying ht,sizeOf,typeInfo,hi,Builtin.lenOf,Builtin.firstCells,loadCells,loadCellsFrom,Mem.with]
     ·rename_i UY;split at hv
      ·rename_i TQ;cases hv
       have TA:new≠[]:=fun h=>UY (by simp[h])
       obtain⟨b,off,news,rfl,YU,VX⟩:=XJ TA;unfold room at TQ;have Xt:news.length=new.length*i.size:=by rw[YU.1,aa9,hs]
       have YX:new.length<=maxLen/\(new.length:Int)<=9223372036854775807:=by
        have:new.length<=new.length*bytes:=Nat.le_mul_of_pos_right _ XM;simp only[maxLen];omega
       have Uo:=run_append_nil (P:=P) m.w t o.type e i zv ht hi hiz ⟨b,off,none⟩ new.length cx news Xt (fun j v hj=>by rw[Addr.add_lit];exact VX j v hj) (by omega) YX.2 (by rw[hb];omega);generalize hW:m.w.drew.alloc (.cells (news.toArray++Builtin.zeroCells zv.cells (grownCap m.w new.length 0 e - new.length)) e)=W at Uo;have hg:eQ (m.with fu).w W:=by rw[<- hW];exact(eQ.drew _).trans (eQ.alloc _ _)
       have hcap:=grownCap_ge m.w new.length 0 e;have ady:=grownCap_le_maxLen m.w new.length 0 e YX.1;have aaj:Ev (m.with fu) ((m.with fu).dp W s m.w.heap.size (grownCap m.w new.length 0 e) (.arr e sz new)):=lO hg (aal _);have hgs:=uw Yt s;refine⟨_,(m.with fu).dp W s m.w.heap.size (grownCap m.w new.length 0 e) (.arr e sz new), .inl (run _ _ (by rw[hdv,hxv];exact Uo)),lM hg (aal _) (by rw[<- hW];simp) U5 ?_,VV.trans aaj,lN U5 (aal _),?_,?_⟩
       ·refine⟨_,by rw[ko,CJ,<- hW];exact heap_alloc_new m.w.drew _,T3,Ty,by rw[dH];exact hcap,by rw[dH];exact ady,?_,?_⟩
        ·rw[dH];simp only[Array.size_append,List.size_toArray,size_zeroCells,hzs,Xt,hs,<- aaz];congr 1;omega
        ·have:(news.toArray++Builtin.zeroCells zv.cells (grownCap m.w new.length 0 e - new.length)).toList.take (new.length*sz)=news:=by
          simp only[Array.toList_append];rw[<- hs,<- Xt];exact List.take_left
         rw[this];exact aV.ev aaj.zero (aV.pw.2 YU)
       ·rw[ql,vX];simp only[Mem.with];rw[hgs]
       ·have:=mv (m:=m.with fu) (w':=W) (s:=s) (c:=m.w.heap.size) (ty:=e) (sz:=sz) (es:=new) hcap ady;simp only[Mem.with] at this;rw[hgs] at this;exact this
      ·cases hv
    ·rename_i id g zz len hds;rw[hds] at YR;split at hv
     ·rename_i g' WE TY es hbk;split at hv
      ·rename_i UO;obtain⟨U0,rfl,rfl,hlen,TQ,aia⟩:=UO;cases hv
       have ah9:id∉fr:=by simpa using aia
       have Tw:(m.with fu).Tc id=m.Tc id:=by
        rcases jE Yt id with ⟨e,_⟩|⟨Y1,_⟩
        ·exact e
        ·exact(ah9 Y1).elim
       have Tv:((m.with fu).Tc id).2=some (.arr WE TY es):=by rw[Tw,hbk]
       obtain⟨cur,hh,_,TG,hl,YE,TP,ahO⟩:=U5.obj id _ Tv;have hcd:bH m _ (a.eval d):=YR;generalize hdv:a.eval d=dv at hcd;cases hcd with
       |hsl ad cap hg hll hmm hhd=>
        obtain⟨f1,f2,f3⟩:=hhd TY (by rw[hbk];exact U0) (by rw[hbk];rfl);have hcap:=f3 rfl;have Wo:=f2 (.inl rfl);rw[abW] at Wo;subst Wo;unfold room at TQ;have hgs:=uw Yt s;have hgid:=uw Yt id;have Vw:len*TY<=es.length*TY:=aa6 _ hlen;have VG:es.length*TY<=m.κ id*TY:=aa6 _ hl;have YD:Pw (bi (m.with fu).w (m.with fu).own) (es.take len).flatten (cur.toList.take (len*TY)):=by
         rw[jS TG];have h1:=(aV.pw.1 ahO).take (len*TY);rw[List.take_take,ab8 Vw] at h1;exact h1
        have htl:(es.take len).length=len:=by simp;omega
        have adA: ∀ x∈es.take len++new,x.length=TY:=by
         intro x hx;rcases aaM.1 hx with hx|hx
         ·exact TG x (abM hx)
         ·exact Ty x hx
        have hnl0:len+new.length<=(len+new.length)*bytes:=Nat.le_mul_of_pos_right _ XM;have hup: ∀ q:jv,app (fu++[(id,(g,none)),q]) m.Tc=fD (fD (m.with fu).Tc id (((m.with fu).Tc id).1,none)) q.1 q.2:=by
         intro q;rw[ql];simp only[app];rw[Tw,hbk,U0];rfl
        have U9:(es.take len++new).length=len+new.length:=by rw[aay,htl]
        by_cases hfit:len+new.length<=cap
        · -- in its own block
         have key: ∀ (w':World) (Xn:Array Value),(execOp a.eval o).run P m.w= .ok (.value (.slice (some ⟨m.σ id,0,none⟩) (len+new.length) cap)) w'->w'.os=m.w.os->w'.tape=m.w.tape->w'.output=m.w.output->w'.heap.size=m.w.heap.size->
           (∀ x,x≠m.σ id->w'.heap[x]? =m.w.heap[x]?)->w'.heap[m.σ id]? =some (.cells Xn WE (0,0))->Xn.size=cur.size->Pw (bi (m.with fu).w (m.with fu).own) (es.take len++new).flatten (Xn.toList.take ((len+new.length)*TY))->
           ef P w0 a.eval o m (.one (.hsl s ((m.Tc s).1+1) TY 0 (len+new.length))) (fu++[(id,(g,none)),(s,((m.Tc s).1+1,some (.arr WE TY (es.take len++new))))]):=by
          intro w' Xn Uo q1 q2 q3 q4 q5 q6 q7 q8;obtain⟨m',e1,e2,e3,e4,e5,e6⟩:=QB (s:=s) U5 Tv rfl T3 q1 q2 q3 q4 q5 q6 adA (by rw[U9];rw[hcap] at hfit;exact hfit) YE (by rw[q7];exact TP) (by rw[U9];exact q8);rw[U9] at e6;have acg:((m.with fu).Tc s).1=(m.Tc s).1:=hgs;rw[acg] at e6 e5;refine⟨_,m', .inl (by rw[e1];exact Uo),e2,VV.trans e3,e4,by rw[e5,hup],?_⟩;rw[hcap];exact e6
         by_cases UY:new=[]
         ·subst UY;have afr:(execOp a.eval o).run P m.w= .ok (.value (.slice (some ⟨m.σ id,0,none⟩) (len+([]:List (List PV)).length) cap)) m.w:=by
           apply run;rw[hdv,hxv];have aif:len<=cap:=hll;cases ax<;>simp[Builtin.append_,run_underlying ht,sizeOf,typeInfo,hi,Builtin.lenOf,Builtin.firstCells,loadCells,loadCellsFrom,aif,storeCells]
          exact key m.w cur afr rfl rfl rfl rfl (fun _ _=>rfl) hh rfl (by simpa using YD)
         ·obtain⟨b,off,news,rfl,YU,VX⟩:=XJ UY;have Xt:news.length=new.length*i.size:=by rw[YU.1,aa9,hs]
          have Vx:len*i.size+news.length<=cur.size:=by
           rw[Xt,hs,TP,<- aaz];rw[hcap] at hfit;exact aa6 _ hfit
          have Uo:=run_append_room (P:=P) m.w t o.type WE i ht hi (m.σ id) len cap cur hh ⟨b,off,none⟩ new.length cx news Xt (fun j v hj=>by rw[Addr.add_lit];exact VX j v hj) (QC YU) hfit Vx;have afq:(execOp a.eval o).run P m.w= .ok (.value (.slice (some ⟨m.σ id,0,none⟩) (len+new.length) cap)) _:=run _ _ (by rw[hdv,hxv];exact Uo);have aiD:len*i.size<=cur.size:=aa5 (Nat.le_add_right _ _) Vx;refine key _ _ afq ?_ ?_ ?_ ?_ (fun x hx=>setRow_other m.w (m.σ id) x _ hx) (oF hh) ?_ ?_
          ·rfl
          ·rfl
          ·rfl
          ·exact setRow_size m.w _ _
          ·rw[List.size_toArray,aay,aay,aaB,abY,Array.length_toList];omega
          have h1:=YD.append YU;rw[<- aco] at h1;have:(cur.toList.take (len*i.size)++news++cur.toList.drop (len*i.size+news.length)).take ((len+new.length)*TY)=cur.toList.take (len*TY)++news:=by
           rw[hs];have Uk:(cur.toList.take (len*TY)).length=len*TY:=by rw[aaB,Array.length_toList];rw[hs] at aiD;omega
           have af2:(cur.toList.take (len*TY)++news).length=(len+new.length)*TY:=by rw[aay,Uk,Xt,hs,aaz]
           rw[List.take_append_of_le_length (Nat.le_of_eq af2.symm)];exact aau (Nat.le_of_eq af2)
          simp only[List.toList_toArray] at this ⊢;rw[this];exact h1
        · -- a new block
         have UY:new≠[]:=fun e=>by subst e;simp at hfit;omega
         obtain⟨b,off,news,rfl,YU,VX⟩:=XJ UY;have Xt:news.length=new.length*i.size:=by rw[YU.1,aa9,hs]
         have ad8:(cur.toList.take (len*TY)).length=len*i.size:=by rw[hs,aaB,Array.length_toList];have hcs2:cur.size=m.κ id*TY:=TP;omega
         have Uo:=run_append_grow (P:=P) m.w t o.type WE i zv ht hi hiz ⟨m.σ id,0,none⟩ len cap (cur.toList.take (len*TY)) ad8 (fun j v hj=>by
           rw[Addr.add_lit,abC];have:(m.w.cell? ⟨m.σ id,j,none⟩)=cur[j]? :=nU hh;rw[this];rw[abi] at hj;split at hj
           ·simpa using hj
           ·cases hj) ⟨b,off,none⟩ new.length cx news Xt (fun j v hj=>by rw[Addr.add_lit];exact VX j v hj) (by omega) (by omega) (growslice_fits (by omega) (by rw[hb];omega))
         have YX:len+new.length<=maxLen:=by simp only[maxLen];omega
         have hgc:=grownCap_ge m.w (len+new.length) cap WE;have hgm:=grownCap_le_maxLen m.w (len+new.length) cap WE YX;generalize Wt:grownCap m.w (len+new.length) cap WE=cc at Uo hgc hgm;generalize hW:m.w.drew.alloc (.cells ((cur.toList.take (len*TY)).toArray++news.toArray++Builtin.zeroCells zv.cells (cc - (len+new.length))) WE)=W at Uo;have afz:=Im (fr':=m.fr) (CZ U5 Tv rfl) (fun c hc=> .inl hc);have aiu:Ev (m.with fu) {(m.with fu).eP id with fr:=m.fr}:=(lT Tv rfl).trans (yu (fun c hc=> .inl hc))
         have hg2:eQ ({(m.with fu).eP id with fr:=m.fr}:Mem).w W:=by rw[<- hW];exact(eQ.drew _).trans (eQ.alloc _ _)
         have aaj:Ev ({(m.with fu).eP id with fr:=m.fr}:Mem) (({(m.with fu).eP id with fr:=m.fr}:Mem).dp W s m.w.heap.size cc (.arr WE TY (es.take len++new))):=lO hg2 (aal _);have afY:=aiu.trans aaj;have acg:((({(m.with fu).eP id with fr:=m.fr}:Mem)).Tc s).1=(m.Tc s).1:=by
          simp only[Mem.eP,af];split
          ·rename_i e';subst e';exact hgs
          ·exact hgs
         refine⟨_,({(m.with fu).eP id with fr:=m.fr}:Mem).dp W s m.w.heap.size cc (.arr WE TY (es.take len++new)), .inl (run _ _ (by rw[hdv,hxv];exact Uo)),lM hg2 (aal _) (by rw[<- hW];simp) afz ?_,VV.trans afY,lN afz (aal _),?_,?_⟩
         ·refine⟨_,by rw[ko,CJ,<- hW];exact heap_alloc_new m.w.drew _,T3,adA,by rw[dH,U9];exact hgc,by rw[dH];exact hgm,?_,?_⟩
          ·rw[dH];simp only[Array.size_append,List.size_toArray,size_zeroCells,hzs,Xt,ad8,hs,<- aaz];congr 1;omega
          ·have h1:=YD.append YU;rw[<- aco] at h1;have:((cur.toList.take (len*TY)).toArray++news.toArray++Builtin.zeroCells zv.cells (cc - (len+new.length))).toList.take ((es.take len++new).length*TY)=cur.toList.take (len*TY)++news:=by
            simp only[Array.toList_append,U9];exact List.take_left' (by rw[aay,List.toList_toArray,List.toList_toArray,ad8,Xt,hs,aaz])
           rw[this];exact aV.ev afY.zero (aV.pw.2 h1)
         ·rw[vX,hup];simp only[app];rw[acg];rfl
         ·have:=mv (m:=({(m.with fu).eP id with fr:=m.fr}:Mem)) (w':=W) (s:=s) (c:=m.w.heap.size) (ty:=WE) (sz:=TY) (es:=es.take len++new) hgc hgm;rw[acg] at this;exact this
      ·cases hv
     ·cases hv
    ·cases hv
end
end Go.Abs
